/- Contracts of the functions of the program, each one with its plain Lean function; written by a program of the session out of the translation. -/
import Derived.Test.YtklikbjlfaednaaNb
import Derived.Test.YtklikbjlfaednaaPx0
import Derived.Test.YtklikbjlfaednaaPx1
import Derived.Test.YtklikbjlfaednaaPx2
import Derived.Test.YtklikbjlfaednaaPx5
import Derived.Test.YtklikbjlfaednaaPx6
import Derived.Test.YtklikbjlfaednaaPx7
import Derived.Test.YtklikbjlfaednaaPx8
import Derived.Test.YtklikbjlfaednaaPx9
import Derived.Test.YtklikbjlfaednaaPx13
import Derived.Test.YtklikbjlfaednaaPx17
namespace Go.Proofs.Ytklikbjlfaednaa.P
open Go.RowKit Go.Proofs.YtklikbjlfaednaaW.PrintWords Go.Proofs.YtklikbjlfaednaaW.PrintLast Go.Proofs.YtklikbjlfaednaaW.PrintMore
attribute [local go_sem] max2_int min2_int max_two min_two max_three min_three max_four min_four   -- for this text's walks alone
set_option linter.unusedVariables false
set_option linter.unusedSimpArgs false
/-! ### laws_FnExactSpread: function 6 -/
theorem laws_FnExactSpread.mono_l : ∀ k, (∀ y0 y1 y2 y3 y4 y5 y6 y7, LeO (laws_FnExactSpread.j0 k y0 y1 y2 y3 y4 y5 y6 y7) (laws_FnExactSpread.j0 (k + 1) y0 y1 y2 y3 y4 y5 y6 y7))
 | 0 => fun _ _ _ _ _ _ _ _ r h => by simp [laws_FnExactSpread.j0] at h
 | k + 1 => by
  have ih0 := laws_FnExactSpread.mono_l k
  · intro y0 y1 y2 y3 y4 y5 y6 y7
    unfold laws_FnExactSpread.j0
    repeat' first
    | (with_reducible exact ih0 _ _ _ _ _ _ _ _)
    | (with_reducible exact laws_eqIntS.mono _ _ _)
    | (with_reducible exact laws_eqTrain.mono _ _ _ _ _ _ _)
    | (with_reducible exact laws_heldIntS.mono _ _ _)
    | (with_reducible exact laws_markIntS.mono _ _ _)
    | (with_reducible exact laws_markTrain.mono _ _ _ _ _)
    | (with_reducible exact laws_toTrain.mono _ _ _ _)
    | (with_reducible exact spec_Spread.mono _ _ _ _ _ _)
    | (with_reducible exact LeO.refl _)
    | (with_reducible exact LeO.none _)
    | (with_reducible refine LeO.ite ?_ ?_)
    | (with_reducible refine LeO.bind ?_ (fun _ => ?_))
    | exact ih0 _ _ _ _ _ _ _ _
    | exact laws_eqIntS.mono _ _ _
    | exact laws_eqTrain.mono _ _ _ _ _ _ _
    | exact laws_heldIntS.mono _ _ _
    | exact laws_markIntS.mono _ _ _
    | exact laws_markTrain.mono _ _ _ _ _
    | exact laws_toTrain.mono _ _ _ _
    | exact spec_Spread.mono _ _ _ _ _ _
    | exact LeO.none _
    | refine LeO.ite ?_ ?_
    | refine LeO.bind ?_ (fun _ => ?_)
theorem laws_FnExactSpread.mono : ∀ a0 a1 a2 a3 a4 k, LeO (laws_FnExactSpread.f k a0 a1 a2 a3 a4) (laws_FnExactSpread.f (k + 1) a0 a1 a2 a3 a4) := by
 intro a0 a1 a2 a3 a4 k
 have ih0 := laws_FnExactSpread.mono_l k
 unfold laws_FnExactSpread.f
 repeat' first
  | (with_reducible exact ih0 _ _ _ _ _ _ _ _)
  | (with_reducible exact laws_eqIntS.mono _ _ _)
  | (with_reducible exact laws_eqTrain.mono _ _ _ _ _ _ _)
  | (with_reducible exact laws_heldIntS.mono _ _ _)
  | (with_reducible exact laws_markIntS.mono _ _ _)
  | (with_reducible exact laws_markTrain.mono _ _ _ _ _)
  | (with_reducible exact laws_toTrain.mono _ _ _ _)
  | (with_reducible exact spec_Spread.mono _ _ _ _ _ _)
  | (with_reducible exact LeO.refl _)
  | (with_reducible exact LeO.none _)
  | (with_reducible refine LeO.ite ?_ ?_)
  | (with_reducible refine LeO.bind ?_ (fun _ => ?_))
  | exact ih0 _ _ _ _ _ _ _ _
  | exact laws_eqIntS.mono _ _ _
  | exact laws_eqTrain.mono _ _ _ _ _ _ _
  | exact laws_heldIntS.mono _ _ _
  | exact laws_markIntS.mono _ _ _
  | exact laws_markTrain.mono _ _ _ _ _
  | exact laws_toTrain.mono _ _ _ _
  | exact spec_Spread.mono _ _ _ _ _ _
  | exact LeO.none _
  | refine LeO.ite ?_ ?_
  | refine LeO.bind ?_ (fun _ => ?_)
set_option maxHeartbeats 8000000 in
set_option maxRecDepth 100000 in
theorem laws_FnExactSpread.calls (k : Nat) (a0_0 : Int) (a0_1 : Int) (A0_2 : Option Addr) (c0_2 : Nat) (l0_2 : List (S89)) (a1 : Int) (a2 : Int) (r : Bool) (w : World) (hr0_2 : Kd.C k89 w A0_2 l0_2.length l0_2) (hc0_2 : l0_2.length ≤ c0_2) (ht : Aside0 (r = true)) (h : laws_FnExactSpread.f k a0_0 a0_1 l0_2 a1 a2 = some r) :
 Calls Try.prog 6 #[.agg #[.int .i64 a0_0, .int .i64 a0_1, .slice A0_2 l0_2.length c0_2], .int .i64 a1, .int .i64 a2] w fun e w' => e = .returned (.bool r) ∧ Below w.heap.size w w' := by
 have hu24 := Try.underlying24; have hu29 := Try.underlying29
 have HR0_2 := Aside0.mk hr0_2
 have HC0_2 := Aside0.mk hc0_2
 clear hr0_2 hc0_2
 have HB := Aside0.mk (Below.refl w.heap.size w)
 have H : ((laws_szTrain.f a0_0 a0_1 l0_2 1048576).bind fun t174 => (if t174 < 0 then (some true) else ((laws_toTrain.f k a0_0 a0_1 l0_2).bind fun bt175 => ((spec_Spread.f k bt175.1 bt175.2.1 bt175.2.2 a1 a2).bind fun t180 => ((laws_toTrain.f k a0_0 a0_1 l0_2).bind fun bt183 => ((impl_Spread.f bt183.1 bt183.2.1 bt183.2.2 a1 a2).bind fun t189 => ((laws_eqIntS.f k t189 t180).bind fun t192 => (if t192 = true then ((laws_toTrain.f k a0_0 a0_1 l0_2).bind fun bt193 => ((laws_eqTrain.f k bt183.1 bt183.2.1 bt183.2.2 bt193.1 bt193.2.1 bt193.2.2).bind fun t198 => (if t198 = true then ((laws_markTrain.f k bt183.1 bt183.2.1 bt183.2.2 1).bind fun bt199 => (if bt199.1 < 0 then (laws_FnExactSpread.j0 k a1 a2 t180 t189 true a0_0 a0_1 l0_2) else ((laws_eqIntS.f k t189 t180).bind fun t201 => (laws_FnExactSpread.j0 k a1 a2 t180 t189 (!t201) a0_0 a0_1 l0_2)))) else (some false)))) else (some false))))))))) = some r := h
 clear h
 replace H := Option.bind_eq_some_iff.mp H
 obtain ⟨t174, A40, H⟩ := H
 replace H : (if t174 < 0 then (some true) else ((laws_toTrain.f k a0_0 a0_1 l0_2).bind fun bt175 => ((spec_Spread.f k bt175.1 bt175.2.1 bt175.2.2 a1 a2).bind fun t180 => ((laws_toTrain.f k a0_0 a0_1 l0_2).bind fun bt183 => ((impl_Spread.f bt183.1 bt183.2.1 bt183.2.2 a1 a2).bind fun t189 => ((laws_eqIntS.f k t189 t180).bind fun t192 => (if t192 = true then ((laws_toTrain.f k a0_0 a0_1 l0_2).bind fun bt193 => ((laws_eqTrain.f k bt183.1 bt183.2.1 bt183.2.2 bt193.1 bt193.2.1 bt193.2.2).bind fun t198 => (if t198 = true then ((laws_markTrain.f k bt183.1 bt183.2.1 bt183.2.2 1).bind fun bt199 => (if bt199.1 < 0 then (laws_FnExactSpread.j0 k a1 a2 t180 t189 true a0_0 a0_1 l0_2) else ((laws_eqIntS.f k t189 t180).bind fun t201 => (laws_FnExactSpread.j0 k a1 a2 t180 t189 (!t201) a0_0 a0_1 l0_2)))) else (some false)))) else (some false)))))))) = some r := H
 have A4 := Aside0.mk A40
 clear A40
 by_cases c5 : t174 < 0
 · rw [if_pos c5] at H
   have c5b0 : decide (t174 < 0) = true := decide_eq_true c5
   clear c5; obtain rfl := Option.some.inj H
   go_enter Try.func6, Try.ntmps6
   go_wp2_with (first | ((with_reducible refine gate_dst (N := 3) rfl ?_); refine box_event ?hg (N := 3) ?hd (cs := #[.int .i64 a0_0, .int .i64 a0_1, .slice A0_2 l0_2.length c0_2]) (t := 24) ?hr ?_; (case hd => rfl); (case hg => rfl); (case hr => first | (go_simp; done) | (go_simp; rfl)); intro gb173 hg w6 hbox hb; have n0_ := Aside0.mk (below_step (nH HB.out) hb); have n1_ := Aside0.mk (hbox); have n2_ := Aside0.mk ((by rw [hg]; exact (below_size (nH HB.out)) : w.heap.size ≤ gb173)); have n3_ := Aside0.mk ((by rw [hg]; exact (below_size (nH HB.out)) : w.heap.size ≤ gb173)); clear HB; have HB := n0_; have BK173 := n1_; have GW173 := n2_; have GE173 := n3_; clear n0_ n1_ n2_ n3_; clear hb hbox hg; have hcz7_0 : w6.cell? ⟨gb173, 0, none⟩ = some (.int .i64 a0_0) := (blk_cell BK173.out 0).trans rfl; have hcz7_1 : w6.cell? ⟨gb173, 1, none⟩ = some (.int .i64 a0_1) := (blk_cell BK173.out 1).trans rfl; have hcz7_2 : w6.cell? ⟨gb173, 2, none⟩ = some (.slice A0_2 l0_2.length c0_2) := (blk_cell BK173.out 2).trans rfl; have hfz7_0 := blk_frozen BK173.out 0; have hfz7_1 := blk_frozen BK173.out 1; have hfz7_2 := blk_frozen BK173.out 2) | ((with_reducible refine gate_callee (f := 12) rfl ?_); refine goesL_ (some 17) rfl rfl Try.func12 (by kernel_rfl) rfl #[.agg #[.int .i64 a0_0, .int .i64 a0_1, .slice A0_2 l0_2.length c0_2], .int .i64 1048576] rfl (by (try simp only [List.map_toArray, List.map_cons, List.map_nil]); first | done | rfl | (simp only [List.length_drop, List.length_take]; rfl)) ?_; (with_reducible refine (laws_szTrain.calls a0_0 a0_1 _ _ l0_2 1048576 t174 _ ?side1 ?side2 A4.out).mono ?_); (case side1 => repeat (first | exact (Kd.C_below HR0_2.out HB.out) | (with_reducible refine Kd.C_alloc ?_ _) | (with_reducible refine Kd.C_drewN ?_ _) | (with_reducible refine Kd.C_drew ?_))); (case side2 => exact HC0_2.out); rintro e w8 ⟨rfl, hb⟩; refine ⟨_, rfl, ?_⟩; have n0_ := Aside0.mk (blk_below (g := gb173) (o := .cells #[.int .i64 a0_0, .int .i64 a0_1, .slice A0_2 l0_2.length c0_2] 24 (0, 0)) (nB BK173.out) hb); have n1_ := Aside0.mk (below_step (nH1 HB.out GE173.out) hb); clear BK173; clear HB; have BK173 := n0_; have HB := n1_; clear n0_ n1_; (try clear hb); (try clear hb2); (try clear hk); (try clear hi)))
   go_ret
   exact ⟨by first | rfl | (simp [errW_none, errW_some] <;> rfl) | (simp [*, errW_none, errW_some] <;> first | rfl | (simp [wrap64]; done)), nH1 HB.out GE173.out⟩
 · rw [if_neg c5] at H
   have c5b0 : decide (t174 < 0) = false := decide_eq_false c5
   clear c5
   replace H := Option.bind_eq_some_iff.mp H
   obtain ⟨⟨t175, t176, t177⟩, A90, H⟩ := H
   replace H : ((spec_Spread.f k t175 t176 t177 a1 a2).bind fun t180 => ((laws_toTrain.f k a0_0 a0_1 l0_2).bind fun bt183 => ((impl_Spread.f bt183.1 bt183.2.1 bt183.2.2 a1 a2).bind fun t189 => ((laws_eqIntS.f k t189 t180).bind fun t192 => (if t192 = true then ((laws_toTrain.f k a0_0 a0_1 l0_2).bind fun bt193 => ((laws_eqTrain.f k bt183.1 bt183.2.1 bt183.2.2 bt193.1 bt193.2.1 bt193.2.2).bind fun t198 => (if t198 = true then ((laws_markTrain.f k bt183.1 bt183.2.1 bt183.2.2 1).bind fun bt199 => (if bt199.1 < 0 then (laws_FnExactSpread.j0 k a1 a2 t180 t189 true a0_0 a0_1 l0_2) else ((laws_eqIntS.f k t189 t180).bind fun t201 => (laws_FnExactSpread.j0 k a1 a2 t180 t189 (!t201) a0_0 a0_1 l0_2)))) else (some false)))) else (some false)))))) = some r := H
   have A9 := Aside0.mk A90
   clear A90
   replace H := Option.bind_eq_some_iff.mp H
   obtain ⟨t180, A100, H⟩ := H
   replace H : ((laws_toTrain.f k a0_0 a0_1 l0_2).bind fun bt183 => ((impl_Spread.f bt183.1 bt183.2.1 bt183.2.2 a1 a2).bind fun t189 => ((laws_eqIntS.f k t189 t180).bind fun t192 => (if t192 = true then ((laws_toTrain.f k a0_0 a0_1 l0_2).bind fun bt193 => ((laws_eqTrain.f k bt183.1 bt183.2.1 bt183.2.2 bt193.1 bt193.2.1 bt193.2.2).bind fun t198 => (if t198 = true then ((laws_markTrain.f k bt183.1 bt183.2.1 bt183.2.2 1).bind fun bt199 => (if bt199.1 < 0 then (laws_FnExactSpread.j0 k a1 a2 t180 t189 true a0_0 a0_1 l0_2) else ((laws_eqIntS.f k t189 t180).bind fun t201 => (laws_FnExactSpread.j0 k a1 a2 t180 t189 (!t201) a0_0 a0_1 l0_2)))) else (some false)))) else (some false))))) = some r := H
   have A10 := Aside0.mk A100
   clear A100
   replace H := Option.bind_eq_some_iff.mp H
   obtain ⟨⟨t183, t184, t185⟩, A110, H⟩ := H
   replace H : ((impl_Spread.f t183 t184 t185 a1 a2).bind fun t189 => ((laws_eqIntS.f k t189 t180).bind fun t192 => (if t192 = true then ((laws_toTrain.f k a0_0 a0_1 l0_2).bind fun bt193 => ((laws_eqTrain.f k t183 t184 t185 bt193.1 bt193.2.1 bt193.2.2).bind fun t198 => (if t198 = true then ((laws_markTrain.f k t183 t184 t185 1).bind fun bt199 => (if bt199.1 < 0 then (laws_FnExactSpread.j0 k a1 a2 t180 t189 true a0_0 a0_1 l0_2) else ((laws_eqIntS.f k t189 t180).bind fun t201 => (laws_FnExactSpread.j0 k a1 a2 t180 t189 (!t201) a0_0 a0_1 l0_2)))) else (some false)))) else (some false)))) = some r := H
   have A11 := Aside0.mk A110
   clear A110
   replace H := Option.bind_eq_some_iff.mp H
   obtain ⟨t189, A120, H⟩ := H
   replace H : ((laws_eqIntS.f k t189 t180).bind fun t192 => (if t192 = true then ((laws_toTrain.f k a0_0 a0_1 l0_2).bind fun bt193 => ((laws_eqTrain.f k t183 t184 t185 bt193.1 bt193.2.1 bt193.2.2).bind fun t198 => (if t198 = true then ((laws_markTrain.f k t183 t184 t185 1).bind fun bt199 => (if bt199.1 < 0 then (laws_FnExactSpread.j0 k a1 a2 t180 t189 true a0_0 a0_1 l0_2) else ((laws_eqIntS.f k t189 t180).bind fun t201 => (laws_FnExactSpread.j0 k a1 a2 t180 t189 (!t201) a0_0 a0_1 l0_2)))) else (some false)))) else (some false))) = some r := H
   have A12 := Aside0.mk A120
   clear A120
   replace H := Option.bind_eq_some_iff.mp H
   obtain ⟨t192, A130, H⟩ := H
   replace H : (if t192 = true then ((laws_toTrain.f k a0_0 a0_1 l0_2).bind fun bt193 => ((laws_eqTrain.f k t183 t184 t185 bt193.1 bt193.2.1 bt193.2.2).bind fun t198 => (if t198 = true then ((laws_markTrain.f k t183 t184 t185 1).bind fun bt199 => (if bt199.1 < 0 then (laws_FnExactSpread.j0 k a1 a2 t180 t189 true a0_0 a0_1 l0_2) else ((laws_eqIntS.f k t189 t180).bind fun t201 => (laws_FnExactSpread.j0 k a1 a2 t180 t189 (!t201) a0_0 a0_1 l0_2)))) else (some false)))) else (some false)) = some r := H
   have A13 := Aside0.mk A130
   clear A130
   by_cases c14 : t192 = true
   · subst c14
     have H1 : ((laws_toTrain.f k a0_0 a0_1 l0_2).bind fun bt193 => ((laws_eqTrain.f k t183 t184 t185 bt193.1 bt193.2.1 bt193.2.2).bind fun t198 => (if t198 = true then ((laws_markTrain.f k t183 t184 t185 1).bind fun bt199 => (if bt199.1 < 0 then (laws_FnExactSpread.j0 k a1 a2 t180 t189 true a0_0 a0_1 l0_2) else ((laws_eqIntS.f k t189 t180).bind fun t201 => (laws_FnExactSpread.j0 k a1 a2 t180 t189 (!t201) a0_0 a0_1 l0_2)))) else (some false)))) = some r := by rw [if_pos rfl] at H; exact H
     clear H; have H := H1; clear H1
     replace H := Option.bind_eq_some_iff.mp H
     obtain ⟨⟨t193, t194, t195⟩, A150, H⟩ := H
     replace H : ((laws_eqTrain.f k t183 t184 t185 t193 t194 t195).bind fun t198 => (if t198 = true then ((laws_markTrain.f k t183 t184 t185 1).bind fun bt199 => (if bt199.1 < 0 then (laws_FnExactSpread.j0 k a1 a2 t180 t189 true a0_0 a0_1 l0_2) else ((laws_eqIntS.f k t189 t180).bind fun t201 => (laws_FnExactSpread.j0 k a1 a2 t180 t189 (!t201) a0_0 a0_1 l0_2)))) else (some false))) = some r := H
     have A15 := Aside0.mk A150
     clear A150
     replace H := Option.bind_eq_some_iff.mp H
     obtain ⟨t198, A160, H⟩ := H
     replace H : (if t198 = true then ((laws_markTrain.f k t183 t184 t185 1).bind fun bt199 => (if bt199.1 < 0 then (laws_FnExactSpread.j0 k a1 a2 t180 t189 true a0_0 a0_1 l0_2) else ((laws_eqIntS.f k t189 t180).bind fun t201 => (laws_FnExactSpread.j0 k a1 a2 t180 t189 (!t201) a0_0 a0_1 l0_2)))) else (some false)) = some r := H
     have A16 := Aside0.mk A160
     clear A160
     by_cases c17 : t198 = true
     · subst c17
       have H1 : ((laws_markTrain.f k t183 t184 t185 1).bind fun bt199 => (if bt199.1 < 0 then (laws_FnExactSpread.j0 k a1 a2 t180 t189 true a0_0 a0_1 l0_2) else ((laws_eqIntS.f k t189 t180).bind fun t201 => (laws_FnExactSpread.j0 k a1 a2 t180 t189 (!t201) a0_0 a0_1 l0_2)))) = some r := by rw [if_pos rfl] at H; exact H
       clear H; have H := H1; clear H1
       replace H := Option.bind_eq_some_iff.mp H
       obtain ⟨⟨t199, t200⟩, A180, H⟩ := H
       replace H : (if t199 < 0 then (laws_FnExactSpread.j0 k a1 a2 t180 t189 true a0_0 a0_1 l0_2) else ((laws_eqIntS.f k t189 t180).bind fun t201 => (laws_FnExactSpread.j0 k a1 a2 t180 t189 (!t201) a0_0 a0_1 l0_2))) = some r := H
       have A18 := Aside0.mk A180
       clear A180
       have HC19 := Aside0.mk H
       clear H
       go_enter Try.func6, Try.ntmps6
       try go_wp2_with (first | ((with_reducible refine gate_dst (N := 3) rfl ?_); refine box_event ?hg (N := 3) ?hd (cs := #[.int .i64 a0_0, .int .i64 a0_1, .slice A0_2 l0_2.length c0_2]) (t := 24) ?hr ?_; (case hd => rfl); (case hg => rfl); (case hr => first | (go_simp; done) | (go_simp; rfl)); intro gb173 hg w20 hbox hb; have n0_ := Aside0.mk (below_step (nH HB.out) hb); have n1_ := Aside0.mk (hbox); have n2_ := Aside0.mk ((by rw [hg]; exact (below_size (nH HB.out)) : w.heap.size ≤ gb173)); have n3_ := Aside0.mk ((by rw [hg]; exact (below_size (nH HB.out)) : w.heap.size ≤ gb173)); clear HB; have HB := n0_; have BK173 := n1_; have GW173 := n2_; have GE173 := n3_; clear n0_ n1_ n2_ n3_; clear hb hbox hg; have hcz21_0 : w20.cell? ⟨gb173, 0, none⟩ = some (.int .i64 a0_0) := (blk_cell BK173.out 0).trans rfl; have hcz21_1 : w20.cell? ⟨gb173, 1, none⟩ = some (.int .i64 a0_1) := (blk_cell BK173.out 1).trans rfl; have hcz21_2 : w20.cell? ⟨gb173, 2, none⟩ = some (.slice A0_2 l0_2.length c0_2) := (blk_cell BK173.out 2).trans rfl; have hfz21_0 := blk_frozen BK173.out 0; have hfz21_1 := blk_frozen BK173.out 1; have hfz21_2 := blk_frozen BK173.out 2) | ((with_reducible refine gate_callee (f := 12) rfl ?_); refine goesL_ (some 17) rfl rfl Try.func12 (by kernel_rfl) rfl #[.agg #[.int .i64 a0_0, .int .i64 a0_1, .slice A0_2 l0_2.length c0_2], .int .i64 1048576] rfl (by (try simp only [List.map_toArray, List.map_cons, List.map_nil]); first | done | rfl | (simp only [List.length_drop, List.length_take]; rfl)) ?_; (with_reducible refine (laws_szTrain.calls a0_0 a0_1 _ _ l0_2 1048576 t174 _ ?side1 ?side2 A4.out).mono ?_); (case side1 => repeat (first | exact (Kd.C_below HR0_2.out HB.out) | (with_reducible refine Kd.C_alloc ?_ _) | (with_reducible refine Kd.C_drewN ?_ _) | (with_reducible refine Kd.C_drew ?_))); (case side2 => exact HC0_2.out); rintro e w22 ⟨rfl, hb⟩; refine ⟨_, rfl, ?_⟩; have n0_ := Aside0.mk (blk_below (g := gb173) (o := .cells #[.int .i64 a0_0, .int .i64 a0_1, .slice A0_2 l0_2.length c0_2] 24 (0, 0)) (nB BK173.out) hb); have n1_ := Aside0.mk (below_step (nH1 HB.out GE173.out) hb); clear BK173; clear HB; have BK173 := n0_; have HB := n1_; clear n0_ n1_; (try clear hb); (try clear hb2); (try clear hk); (try clear hi); have hcz23_0 : w22.cell? ⟨gb173, 0, none⟩ = some (.int .i64 a0_0) := (blk_cell BK173.out 0).trans rfl; have hcz23_1 : w22.cell? ⟨gb173, 1, none⟩ = some (.int .i64 a0_1) := (blk_cell BK173.out 1).trans rfl; have hcz23_2 : w22.cell? ⟨gb173, 2, none⟩ = some (.slice A0_2 l0_2.length c0_2) := (blk_cell BK173.out 2).trans rfl; have hfz23_0 := blk_frozen BK173.out 0; have hfz23_1 := blk_frozen BK173.out 1; have hfz23_2 := blk_frozen BK173.out 2) | ((with_reducible refine gate_callee (f := 14) rfl ?_); refine goesL_ (some 21) rfl rfl Try.func14 (by kernel_rfl) rfl #[.agg #[.int .i64 a0_0, .int .i64 a0_1, .slice A0_2 l0_2.length c0_2]] rfl (by (try simp only [List.map_toArray, List.map_cons, List.map_nil]); first | done | rfl | (simp only [List.length_drop, List.length_take]; rfl)) ?_; (with_reducible refine (laws_toTrain.calls k a0_0 a0_1 _ _ l0_2 t175 t176 t177 _ ?side1 ?side2 A9.out).mono ?_); (case side1 => repeat (first | exact (Kd.C_below HR0_2.out HB.out) | (with_reducible refine Kd.C_alloc ?_ _) | (with_reducible refine Kd.C_drewN ?_ _) | (with_reducible refine Kd.C_drew ?_))); (case side2 => exact HC0_2.out); rintro e w24 ⟨v178, rfl, ho0, hb⟩; refine ⟨_, rfl, ?_⟩; have n0_ := Aside0.mk (Kd.R_lower ho0 (below_size (nH1 HB.out GE173.out))); have n1_ := Aside0.mk (blk_below (g := gb173) (o := .cells #[.int .i64 a0_0, .int .i64 a0_1, .slice A0_2 l0_2.length c0_2] 24 (0, 0)) (nB BK173.out) hb); have n2_ := Aside0.mk (below_step (nH1 HB.out GE173.out) hb); clear BK173; clear HB; have HO179 := n0_; have BK173 := n1_; have HB := n2_; clear n0_ n1_ n2_; (try clear hb); (try clear hb2); (try clear hk); (try clear hi); (try clear ho0); obtain ⟨Ao25, co25, eo25⟩ := Kd.R_slice HO179.out; subst eo25) | ((with_reducible refine gate_callee (f := 25) rfl ?_); refine goesL_ (some 24) rfl rfl Try.func25 (by kernel_rfl) rfl #[.agg #[.int .i64 t175, .int .i64 t176, .slice Ao25 t177.length co25], .int .i64 a1, .int .i64 a2] rfl (by (try simp only [List.map_toArray, List.map_cons, List.map_nil]); first | done | rfl | (simp only [List.length_drop, List.length_take]; rfl)) ?_; (with_reducible refine (spec_Spread.calls k t175 t176 _ _ t177 a1 a2 t180 _ ?side1 ?side2 A10.out).mono ?_); (case side1 => repeat (first | exact (Kd.R_reads' HO179.out).2.2 | (with_reducible refine Kd.C_alloc ?_ _) | (with_reducible refine Kd.C_drewN ?_ _) | (with_reducible refine Kd.C_drew ?_))); (case side2 => exact (Kd.R_reads' HO179.out).2.1); rintro e w26 ⟨v181, rfl, ho0, hb⟩; refine ⟨_, rfl, ?_⟩; have n0_ := Aside0.mk (Kd.R_below (nR HO179.out) hb); have n1_ := Aside0.mk (Kd.R_lower ho0 (below_size (nH1 HB.out GE173.out))); have n2_ := Aside0.mk (blk_below (g := gb173) (o := .cells #[.int .i64 a0_0, .int .i64 a0_1, .slice A0_2 l0_2.length c0_2] 24 (0, 0)) (nB BK173.out) hb); have n3_ := Aside0.mk (below_step (nH1 HB.out GE173.out) hb); clear HO179; clear BK173; clear HB; have HO179 := n0_; have HO182 := n1_; have BK173 := n2_; have HB := n3_; clear n0_ n1_ n2_ n3_; (try clear hb); (try clear hb2); (try clear hk); (try clear hi); (try clear ho0); have hcz27_0 : w26.cell? ⟨gb173, 0, none⟩ = some (.int .i64 a0_0) := (blk_cell BK173.out 0).trans rfl; have hcz27_1 : w26.cell? ⟨gb173, 1, none⟩ = some (.int .i64 a0_1) := (blk_cell BK173.out 1).trans rfl; have hcz27_2 : w26.cell? ⟨gb173, 2, none⟩ = some (.slice A0_2 l0_2.length c0_2) := (blk_cell BK173.out 2).trans rfl; have hfz27_0 := blk_frozen BK173.out 0; have hfz27_1 := blk_frozen BK173.out 1; have hfz27_2 := blk_frozen BK173.out 2) | ((with_reducible refine gate_callee (f := 14) rfl ?_); refine goesL_ (some 26) rfl rfl Try.func14 (by kernel_rfl) rfl #[.agg #[.int .i64 a0_0, .int .i64 a0_1, .slice A0_2 l0_2.length c0_2]] rfl (by (try simp only [List.map_toArray, List.map_cons, List.map_nil]); first | done | rfl | (simp only [List.length_drop, List.length_take]; rfl)) ?_; (with_reducible refine (laws_toTrain.calls k a0_0 a0_1 _ _ l0_2 t183 t184 t185 _ ?side1 ?side2 A11.out).mono ?_); (case side1 => repeat (first | exact (Kd.C_below HR0_2.out HB.out) | (with_reducible refine Kd.C_alloc ?_ _) | (with_reducible refine Kd.C_drewN ?_ _) | (with_reducible refine Kd.C_drew ?_))); (case side2 => exact HC0_2.out); rintro e w28 ⟨v186, rfl, ho0, hb⟩; refine ⟨_, rfl, ?_⟩; have n0_ := Aside0.mk (Kd.R_elder' (nR HO179.out) (Kd.R_base ho0) hb); have n1_ := Aside0.mk (Kd.R_below (nR HO182.out) hb); have n2_ := Aside0.mk (Kd.R_lower (Kd.R_new' ho0 (Kd.R_lt (nR HO179.out))) (below_size (nH1 HB.out GE173.out))); have n3_ := Aside0.mk (blk_below (g := gb173) (o := .cells #[.int .i64 a0_0, .int .i64 a0_1, .slice A0_2 l0_2.length c0_2] 24 (0, 0)) (nB BK173.out) hb); have n4_ := Aside0.mk (below_step (nH1 HB.out GE173.out) hb); clear HO179; clear HO182; clear BK173; clear HB; have HO179 := n0_; have HO182 := n1_; have HO187 := n2_; have BK173 := n3_; have HB := n4_; clear n0_ n1_ n2_ n3_ n4_; (try clear hb); (try clear hb2); (try clear hk); (try clear hi); (try clear ho0)) | ((with_reducible refine gate_dst (N := 9) rfl ?_); refine box_event ?hg (N := 9) ?hd (cs := #[.int .i64 0, .int .i64 0, .slice none 0 0]) (t := 29) ?hr ?_; (case hd => rfl); (case hg => rfl); (case hr => first | (go_simp; done) | (go_simp; rfl)); intro gb188 hg w29 hbox hb; have n0_ := Aside0.mk (Kd.R_below (nR HO179.out) hb); have n1_ := Aside0.mk (Kd.R_below (nR HO182.out) hb); have n2_ := Aside0.mk (Kd.R_below (nR HO187.out) hb); have n3_ := Aside0.mk (blk_below (g := gb173) (o := .cells #[.int .i64 a0_0, .int .i64 a0_1, .slice A0_2 l0_2.length c0_2] 24 (0, 0)) (nB BK173.out) hb); have n4_ := Aside0.mk (below_step (nH1 HB.out GE173.out) hb); have n5_ := Aside0.mk (hbox); have n6_ := Aside0.mk ((by rw [hg]; exact (below_size (nH1 HB.out GE173.out)) : w.heap.size ≤ gb188)); have n7_ := Aside0.mk ((by rw [hg]; exact (below_size (nH1 HB.out GE173.out)) : w.heap.size ≤ gb188)); have n8_ := Aside0.mk ((by rw [hg]; exact Nat.ne_of_lt (blk_lt (g := gb173) (o := .cells #[.int .i64 a0_0, .int .i64 a0_1, .slice A0_2 l0_2.length c0_2] 24 (0, 0)) (nB BK173.out)) : gb173 ≠ gb188)); have n9_ := Aside0.mk ((by rw [hg]; exact Nat.ne_of_gt (blk_lt (g := gb173) (o := .cells #[.int .i64 a0_0, .int .i64 a0_1, .slice A0_2 l0_2.length c0_2] 24 (0, 0)) (nB BK173.out)) : gb188 ≠ gb173)); clear HO179; clear HO182; clear HO187; clear BK173; clear HB; have HO179 := n0_; have HO182 := n1_; have HO187 := n2_; have BK173 := n3_; have HB := n4_; have BK188 := n5_; have GW188 := n6_; have GE188 := n7_; have NB173_188 := n8_; have NB188_173 := n9_; clear n0_ n1_ n2_ n3_ n4_ n5_ n6_ n7_ n8_ n9_; clear hb hbox hg; have hnb30 := NB188_173.out; have hnc30 := NB173_188.out; have hcz31_0 : w29.cell? ⟨gb188, 0, none⟩ = some (.int .i64 0) := (blk_cell BK188.out 0).trans rfl; have hcz31_1 : w29.cell? ⟨gb188, 1, none⟩ = some (.int .i64 0) := (blk_cell BK188.out 1).trans rfl; have hcz31_2 : w29.cell? ⟨gb188, 2, none⟩ = some (.slice none 0 0) := (blk_cell BK188.out 2).trans rfl; have hfz31_0 := blk_frozen BK188.out 0; have hfz31_1 := blk_frozen BK188.out 1; have hfz31_2 := blk_frozen BK188.out 2; obtain ⟨Ao32, co32, eo32⟩ := Kd.R_slice HO187.out; subst eo32) | ((with_reducible refine gate_callee (f := 26) rfl ?_); refine goesL_ (some 30) rfl rfl Try.func26 (by kernel_rfl) rfl #[.agg #[.int .i64 t183, .int .i64 t184, .slice Ao32 t185.length co32], .int .i64 a1, .int .i64 a2] rfl (by (try simp only [List.map_toArray, List.map_cons, List.map_nil]); first | done | rfl | (simp only [List.length_drop, List.length_take]; rfl)) ?_; (with_reducible refine (impl_Spread.calls t183 t184 _ _ t185 a1 a2 t189 _ ?side1 ?side2 A12.out).mono ?_); (case side1 => refine (Kd.R_reads' (e := 66) (base := w.heap.size) (ok := fun k_ => (True ∧ some k_ ≠ (.slice Ao25 t177.length co25 : Value).ownBlock)) (n := t185.length) (c := co32) ?_).2.2; exact (by (with_reducible repeat (first | apply Kd.R_alloc | apply Kd.R_drewN | apply Kd.R_drew)); exact (Kd.R_mono (Kd.R_far (p := ⟨gb188, 2, none⟩) (Kd.R_far (p := ⟨gb188, 1, none⟩) (Kd.R_far (p := ⟨gb188, 0, none⟩) (Kd.R_types HO187.out BK188.out (by decide)) (fun _ hk => hk.2) (.int .i64 t183)) (fun _ hk => hk.2) (.int .i64 t184)) (fun _ hk => hk.2) (.slice Ao32 t185.length co32)) (fun _ h_ => h_.1)))); (case side2 => exact (Kd.R_reads' HO187.out).2.1); rintro e w33 ⟨v190, rfl, ho0, hb⟩; refine ⟨_, rfl, ?_⟩; have n0_ := Aside0.mk (Kd.R_below (by (with_reducible repeat (first | apply Kd.R_alloc | apply Kd.R_drewN | apply Kd.R_drew)); exact (Kd.R_mono (Kd.R_far (p := ⟨gb188, 2, none⟩) (Kd.R_far (p := ⟨gb188, 1, none⟩) (Kd.R_far (p := ⟨gb188, 0, none⟩) (Kd.R_types HO179.out BK188.out (by decide)) (fun _ hk => hk.2) (.int .i64 t183)) (fun _ hk => hk.2) (.int .i64 t184)) (fun _ hk => hk.2) (.slice Ao32 t185.length co32)) (fun _ h_ => h_.1))) hb); have n1_ := Aside0.mk (Kd.R_elder' (by (with_reducible repeat (first | apply Kd.R_alloc | apply Kd.R_drewN | apply Kd.R_drew)); exact (Kd.R_mono (Kd.R_far (p := ⟨gb188, 2, none⟩) (Kd.R_far (p := ⟨gb188, 1, none⟩) (Kd.R_far (p := ⟨gb188, 0, none⟩) (Kd.R_types HO182.out BK188.out (by decide)) (fun _ hk => hk.2) (.int .i64 t183)) (fun _ hk => hk.2) (.int .i64 t184)) (fun _ hk => hk.2) (.slice Ao32 t185.length co32)) (fun _ h_ => h_.1))) (Kd.R_base ho0) hb); have n2_ := Aside0.mk (Kd.R_below (by (with_reducible repeat (first | apply Kd.R_alloc | apply Kd.R_drewN | apply Kd.R_drew)); exact (Kd.R_mono (Kd.R_far (p := ⟨gb188, 2, none⟩) (Kd.R_far (p := ⟨gb188, 1, none⟩) (Kd.R_far (p := ⟨gb188, 0, none⟩) (Kd.R_types HO187.out BK188.out (by decide)) (fun _ hk => hk.2) (.int .i64 t183)) (fun _ hk => hk.2) (.int .i64 t184)) (fun _ hk => hk.2) (.slice Ao32 t185.length co32)) (fun _ h_ => h_.1))) hb); have n3_ := Aside0.mk (Kd.R_lower (Kd.R_new' ho0 (Kd.R_lt (by (with_reducible repeat (first | apply Kd.R_alloc | apply Kd.R_drewN | apply Kd.R_drew)); exact (Kd.R_mono (Kd.R_far (p := ⟨gb188, 2, none⟩) (Kd.R_far (p := ⟨gb188, 1, none⟩) (Kd.R_far (p := ⟨gb188, 0, none⟩) (Kd.R_types HO182.out BK188.out (by decide)) (fun _ hk => hk.2) (.int .i64 t183)) (fun _ hk => hk.2) (.int .i64 t184)) (fun _ hk => hk.2) (.slice Ao32 t185.length co32)) (fun _ h_ => h_.1))))) (below_size (nH2 HB.out GE173.out GE188.out))); have n4_ := Aside0.mk (blk_below (g := gb173) (o := .cells #[.int .i64 a0_0, .int .i64 a0_1, .slice A0_2 l0_2.length c0_2] 24 (0, 0)) (by (with_reducible repeat (first | refine blk_drewN ?_ _ | refine blk_drew ?_ | refine blk_alloc ?_ _)); refine blk_far ?_ NB173_188.out _; (with_reducible repeat (first | refine blk_drewN ?_ _ | refine blk_drew ?_ | refine blk_alloc ?_ _)); refine blk_far ?_ NB173_188.out _; (with_reducible repeat (first | refine blk_drewN ?_ _ | refine blk_drew ?_ | refine blk_alloc ?_ _)); refine blk_far ?_ NB173_188.out _; (with_reducible repeat (first | refine blk_drewN ?_ _ | refine blk_drew ?_ | refine blk_alloc ?_ _)); exact BK173.out) hb); have n5_ := Aside0.mk (blk_below (g := gb188) (o := .cells #[.int .i64 t183, .int .i64 t184, .slice Ao32 t185.length co32] 29 (0, 0)) (by (with_reducible repeat (first | refine blk_drewN ?_ _ | refine blk_drew ?_ | refine blk_alloc ?_ _)); refine blk_put (cs := #[.int .i64 t183, .int .i64 t184, .slice none 0 0]) ?_ 2 _ rfl; (with_reducible repeat (first | refine blk_drewN ?_ _ | refine blk_drew ?_ | refine blk_alloc ?_ _)); refine blk_put (cs := #[.int .i64 t183, .int .i64 0, .slice none 0 0]) ?_ 1 _ rfl; (with_reducible repeat (first | refine blk_drewN ?_ _ | refine blk_drew ?_ | refine blk_alloc ?_ _)); refine blk_put (cs := #[.int .i64 0, .int .i64 0, .slice none 0 0]) ?_ 0 _ rfl; (with_reducible repeat (first | refine blk_drewN ?_ _ | refine blk_drew ?_ | refine blk_alloc ?_ _)); exact BK188.out) hb); have n6_ := Aside0.mk (below_step (nH2 HB.out GE173.out GE188.out) hb); clear HO179; clear HO182; clear HO187; clear BK173; clear BK188; clear HB; have HO179 := n0_; have HO182 := n1_; have HO187 := n2_; have HO191 := n3_; have BK173 := n4_; have BK188 := n5_; have HB := n6_; clear n0_ n1_ n2_ n3_ n4_ n5_ n6_; (try clear hb); (try clear hb2); (try clear hk); (try clear hi); (try clear ho0); obtain ⟨Ao34, co34, eo34⟩ := Kd.R_slice HO191.out; subst eo34; obtain ⟨Ao35, co35, eo35⟩ := Kd.R_slice HO182.out; subst eo35) | ((with_reducible refine gate_callee (f := 19) rfl ?_); refine goesL_ (some 33) rfl rfl Try.func19 (by kernel_rfl) rfl #[.slice Ao34 t189.length co34, .slice Ao35 t180.length co35] rfl (by (try simp only [List.map_toArray, List.map_cons, List.map_nil]); first | done | rfl | (simp only [List.length_drop, List.length_take]; rfl)) ?_; (with_reducible refine (laws_eqIntS.calls k _ _ t189 _ _ t180 true _ ?side1 ?side2 ?side3 ?side4 A13.out).mono ?_); (case side1 => repeat (first | exact (Kd.R_reads' HO191.out).2.2 | (with_reducible refine Kd.C_alloc ?_ _) | (with_reducible refine Kd.C_drewN ?_ _) | (with_reducible refine Kd.C_drew ?_))); (case side2 => exact (Kd.R_reads' HO191.out).2.1); (case side3 => repeat (first | exact (Kd.R_reads' HO182.out).2.2 | (with_reducible refine Kd.C_alloc ?_ _) | (with_reducible refine Kd.C_drewN ?_ _) | (with_reducible refine Kd.C_drew ?_))); (case side4 => exact (Kd.R_reads' HO182.out).2.1); rintro e w' ⟨rfl, ⟨nd, rfl⟩⟩; refine ⟨_, rfl, ?_⟩))
       (try (rw [drewN_self w33]; generalize hq_ : World.drewN w33 _ = w33; have n0_ : Aside0 (Kd.R k66 66 w33 w.heap.size (fun k_ => some k_ ≠ (.slice Ao32 t185.length co32 : Value).ownBlock) (.slice Ao25 t177.length co25) t177) := ⟨by rw [← hq_]; exact (by (with_reducible repeat (first | apply Kd.R_alloc | apply Kd.R_drewN | apply Kd.R_drew)); exact Kd.R_mono HO179.out (fun _ hk => hk.2))⟩; have n1_ : Aside0 (Kd.R (Kd.int .i64) 3 w33 w.heap.size (fun k_ => some k_ ≠ (.slice Ao34 t189.length co34 : Value).ownBlock) (.slice Ao35 t180.length co35) t180) := ⟨by rw [← hq_]; exact (by (with_reducible repeat (first | apply Kd.R_alloc | apply Kd.R_drewN | apply Kd.R_drew)); exact Kd.R_mono HO182.out (fun _ hk => hk.2))⟩; have n2_ : Aside0 (Kd.R k66 66 w33 w.heap.size (fun k_ => some k_ ≠ (.slice Ao25 t177.length co25 : Value).ownBlock) (.slice Ao32 t185.length co32) t185) := ⟨by rw [← hq_]; exact (by (with_reducible repeat (first | apply Kd.R_alloc | apply Kd.R_drewN | apply Kd.R_drew)); exact Kd.R_mono HO187.out (fun _ hk => hk.2))⟩; have n3_ : Aside0 (Kd.R (Kd.int .i64) 3 w33 w.heap.size (fun k_ => some k_ ≠ (.slice Ao35 t180.length co35 : Value).ownBlock) (.slice Ao34 t189.length co34) t189) := ⟨by rw [← hq_]; exact (by (with_reducible repeat (first | apply Kd.R_alloc | apply Kd.R_drewN | apply Kd.R_drew)); exact Kd.R_mono HO191.out (fun _ hk => hk.2))⟩; have n4_ : Aside0 (w33.heap[gb173]? = some (.cells #[.int .i64 a0_0, .int .i64 a0_1, .slice A0_2 l0_2.length c0_2] 24 (0, 0))) := ⟨by rw [← hq_]; exact (nB BK173.out)⟩; have n5_ : Aside0 (w33.heap[gb188]? = some (.cells #[.int .i64 t183, .int .i64 t184, .slice Ao32 t185.length co32] 29 (0, 0))) := ⟨by rw [← hq_]; exact (nB BK188.out)⟩; have n6_ : Aside0 (Below w.heap.size w w33) := ⟨by rw [← hq_]; exact (nH2 HB.out GE173.out GE188.out)⟩; clear HO179 HO182 HO187 HO191 BK173 BK188 HB hq_; have HO179 := n0_; have HO182 := n1_; have HO187 := n2_; have HO191 := n3_; have BK173 := n4_; have BK188 := n5_; have HB := n6_; clear n0_ n1_ n2_ n3_ n4_ n5_ n6_))
       have n0_ := Aside0.mk (Kd.R_drew HO179.out)
       have n1_ := Aside0.mk (Kd.R_drew HO182.out)
       have n2_ := Aside0.mk (Kd.R_drew HO187.out)
       have n3_ := Aside0.mk (Kd.R_drew HO191.out)
       have n4_ := Aside0.mk (blk_drew BK173.out)
       have n5_ := Aside0.mk (blk_drew BK188.out)
       have n6_ := Aside0.mk (below_drew1 HB.out)
       clear HO179; clear HO182; clear HO187; clear HO191; clear BK173; clear BK188; clear HB; have HO179 := n0_; have HO182 := n1_; have HO187 := n2_; have HO191 := n3_; have BK173 := n4_; have BK188 := n5_; have HB := n6_; clear n0_ n1_ n2_ n3_ n4_ n5_ n6_
       refine start_ (n := 5) (S := fun w' => w'.cell? ⟨gb188, 0, none⟩ = some (.int .i64 t183) ∧ w'.cell? ⟨gb188, 1, none⟩ = some (.int .i64 t184) ∧ w'.cell? ⟨gb188, 2, none⟩ = some (.slice Ao32 t185.length co32) ∧ w'.cell? ⟨gb173, 0, none⟩ = some (.int .i64 a0_0) ∧ w'.cell? ⟨gb173, 1, none⟩ = some (.int .i64 a0_1) ∧ w'.cell? ⟨gb173, 2, none⟩ = some (.slice A0_2 l0_2.length c0_2)) (ds := []) #[false, false, false, false, false] (by kernel_rfl) rfl rfl ⟨(blk_cell BK188.out 0).trans rfl, (blk_cell BK188.out 1).trans rfl, (blk_cell BK188.out 2).trans rfl, (blk_cell BK173.out 0).trans rfl, (blk_cell BK173.out 1).trans rfl, (blk_cell BK173.out 2).trans rfl⟩ (fun hHeld => ?_)
       generalize w33.drew = w36 at HO179 HO182 HO187 HO191 BK173 BK188 HB hHeld ⊢
       refine take_ (i := 0) (N := some 35) (v := ?_) (a' := ?_) #[true, false, false, false, false] rfl rfl (by kernel_rfl) (fun _ _ _ h => h) (Or.inl ⟨by rfl, ?_⟩) hHeld ?_ ?_
       rotate_left
       · rintro w' ⟨s0, s1, s2, s3, s4, s5⟩
         go_simp; with_reducible rfl
       rotate_left
       · simp only [Act.put, List.setIfInBounds_toArray, List.set_cons_zero, List.set_cons_succ, i64_w, i32_w]
         rfl
       refine take_ (i := 1) (N := some 36) (v := ?_) (a' := ?_) #[true, true, false, false, false] rfl rfl (by kernel_rfl) (fun _ _ _ h => h) (Or.inl ⟨by rfl, ?_⟩) hHeld ?_ ?_
       rotate_left
       · rintro w' ⟨s0, s1, s2, s3, s4, s5⟩
         go_simp; with_reducible rfl
       rotate_left
       · simp only [Act.put, List.setIfInBounds_toArray, List.set_cons_zero, List.set_cons_succ, i64_w, i32_w]
         rfl
       refine one_ (i := 2) (N := some 37) #[true, true, true, false, false] rfl rfl (by kernel_rfl) (by decide) (fun K hK => ?_)
       refine goes_ Try.func14 (by kernel_rfl) rfl #[.agg #[.int .i64 a0_0, .int .i64 a0_1, .slice A0_2 l0_2.length c0_2]] (by rfl) rfl rfl (by (try simp only [List.map_toArray, List.map_cons, List.map_nil]); first | done | rfl | (simp only [List.length_drop, List.length_take]; rfl)) ?_
       with_reducible refine (laws_toTrain.calls k a0_0 a0_1 _ _ l0_2 t193 t194 t195 _ ?side1 ?side2 A15.out).mono ?_
       (case side1 => repeat (first | exact (Kd.C_below HR0_2.out HB.out) | (with_reducible refine Kd.C_alloc ?_ _) | (with_reducible refine Kd.C_drewN ?_ _) | (with_reducible refine Kd.C_drew ?_)))
       (case side2 => exact HC0_2.out)
       rintro e w37 ⟨v196, rfl, ho0, hb⟩
       refine ⟨_, rfl, ?_⟩
       have n0_ := Aside0.mk (Kd.R_elder' (nR HO179.out) (Kd.R_base ho0) hb)
       have n1_ := Aside0.mk (Kd.R_below (nR HO182.out) hb)
       have n2_ := Aside0.mk (Kd.R_elder' (nR HO187.out) (Kd.R_base ho0) hb)
       have n3_ := Aside0.mk (Kd.R_below (nR HO191.out) hb)
       have n4_ := Aside0.mk (Kd.R_lower (Kd.R_new' (Kd.R_new' ho0 (Kd.R_lt (nR HO179.out))) (Kd.R_lt (nR HO187.out))) (below_size (nH2 HB.out GE173.out GE188.out)))
       have n5_ := Aside0.mk (blk_below (g := gb173) (o := .cells #[.int .i64 a0_0, .int .i64 a0_1, .slice A0_2 l0_2.length c0_2] 24 (0, 0)) (nB BK173.out) hb)
       have n6_ := Aside0.mk (blk_below (g := gb188) (o := .cells #[.int .i64 t183, .int .i64 t184, .slice Ao32 t185.length co32] 29 (0, 0)) (nB BK188.out) hb)
       have n7_ := Aside0.mk (below_step (nH2 HB.out GE173.out GE188.out) hb)
       clear HO179; clear HO182; clear HO187; clear HO191; clear BK173; clear BK188; clear HB; have HO179 := n0_; have HO182 := n1_; have HO187 := n2_; have HO191 := n3_; have HO197 := n4_; have BK173 := n5_; have BK188 := n6_; have HB := n7_; clear n0_ n1_ n2_ n3_ n4_ n5_ n6_ n7_; (try clear hb); (try clear hb2); (try clear hk); (try clear hi); (try clear ho0)
       obtain ⟨Ao38, co38, eo38⟩ := Kd.R_slice HO197.out
       (first | subst eo38 | (injection eo38 with f1_ f2_ f3_; have f4_ := f1_.symm; have f5_ := f3_.symm; clear f1_ f2_ f3_; subst f4_; subst f5_))
       refine hK.out _ _ ⟨(blk_cell BK188.out 0).trans rfl, (blk_cell BK188.out 1).trans rfl, (blk_cell BK188.out 2).trans rfl, (blk_cell BK173.out 0).trans rfl, (blk_cell BK173.out 1).trans rfl, (blk_cell BK173.out 2).trans rfl⟩ (fun hHeld => ?_)
       clear hK K
       refine norm_ (a' := ?_) ?_ ?_
       rotate_left
       · show Act.put _ (some 37) _ = _
         simp only [Act.put, List.setIfInBounds_toArray, List.set_cons_zero, List.set_cons_succ, i64_w, i32_w]
         rfl
       refine one_ (i := 3) (N := some 38) #[true, true, true, true, false] rfl rfl (by kernel_rfl) (by decide) (fun K hK => ?_)
       refine goes_ Try.func16 (by kernel_rfl) rfl #[.agg #[.int .i64 t183, .int .i64 t184, .slice Ao32 t185.length co32], .agg #[.int .i64 t193, .int .i64 t194, .slice Ao38 t195.length co38]] (by rfl) rfl rfl (by (try simp only [List.map_toArray, List.map_cons, List.map_nil]); first | done | rfl | (simp only [List.length_drop, List.length_take]; rfl)) ?_
       with_reducible refine (laws_eqTrain.calls k t183 t184 _ _ t185 t193 t194 _ _ t195 true _ ?side1 ?side2 ?side3 ?side4 A16.out).mono ?_
       (case side1 => repeat (first | exact (Kd.R_reads' HO187.out).2.2 | (with_reducible refine Kd.C_alloc ?_ _) | (with_reducible refine Kd.C_drewN ?_ _) | (with_reducible refine Kd.C_drew ?_)))
       (case side2 => exact (Kd.R_reads' HO187.out).2.1)
       (case side3 => repeat (first | exact (Kd.R_reads' HO197.out).2.2 | (with_reducible refine Kd.C_alloc ?_ _) | (with_reducible refine Kd.C_drewN ?_ _) | (with_reducible refine Kd.C_drew ?_)))
       (case side4 => exact (Kd.R_reads' HO197.out).2.1)
       rintro e w39 ⟨rfl, hb⟩
       refine ⟨_, rfl, ?_⟩
       have n0_ := Aside0.mk (Kd.R_below (nR HO179.out) hb)
       have n1_ := Aside0.mk (Kd.R_below (nR HO182.out) hb)
       have n2_ := Aside0.mk (Kd.R_below (nR HO187.out) hb)
       have n3_ := Aside0.mk (Kd.R_below (nR HO191.out) hb)
       have n4_ := Aside0.mk (Kd.R_below (nR HO197.out) hb)
       have n5_ := Aside0.mk (blk_below (g := gb173) (o := .cells #[.int .i64 a0_0, .int .i64 a0_1, .slice A0_2 l0_2.length c0_2] 24 (0, 0)) (nB BK173.out) hb)
       have n6_ := Aside0.mk (blk_below (g := gb188) (o := .cells #[.int .i64 t183, .int .i64 t184, .slice Ao32 t185.length co32] 29 (0, 0)) (nB BK188.out) hb)
       have n7_ := Aside0.mk (below_step (nH2 HB.out GE173.out GE188.out) hb)
       clear HO179; clear HO182; clear HO187; clear HO191; clear HO197; clear BK173; clear BK188; clear HB; have HO179 := n0_; have HO182 := n1_; have HO187 := n2_; have HO191 := n3_; have HO197 := n4_; have BK173 := n5_; have BK188 := n6_; have HB := n7_; clear n0_ n1_ n2_ n3_ n4_ n5_ n6_ n7_; (try clear hb); (try clear hb2); (try clear hk); (try clear hi)
       refine hK.out _ _ ⟨(blk_cell BK188.out 0).trans rfl, (blk_cell BK188.out 1).trans rfl, (blk_cell BK188.out 2).trans rfl, (blk_cell BK173.out 0).trans rfl, (blk_cell BK173.out 1).trans rfl, (blk_cell BK173.out 2).trans rfl⟩ (fun hHeld => ?_)
       clear hK K
       refine norm_ (a' := ?_) ?_ ?_
       rotate_left
       · show Act.put _ (some 38) _ = _
         simp only [Act.put, List.setIfInBounds_toArray, List.set_cons_zero, List.set_cons_succ, i64_w, i32_w]
         rfl
       refine pure_ (i := 4) (N := some 39) (v := ?_) (a' := ?_) #[true, true, true, true, true] rfl rfl (by kernel_rfl) (fun _ _ _ h => h) (Or.inl ⟨by rfl, ?_⟩) ?_ ?_
       rotate_left
       · intro w'; go_simp; with_reducible rfl
       rotate_left
       · simp only [Act.put, List.setIfInBounds_toArray, List.set_cons_zero, List.set_cons_succ, i64_w, i32_w]
         rfl
       refine done_ (by kernel_rfl) ?_
       have hcz40_0 : w39.cell? ⟨gb188, 0, none⟩ = some (.int .i64 t183) := (blk_cell BK188.out 0).trans rfl
       have hcz40_1 : w39.cell? ⟨gb188, 1, none⟩ = some (.int .i64 t184) := (blk_cell BK188.out 1).trans rfl
       have hcz40_2 : w39.cell? ⟨gb188, 2, none⟩ = some (.slice Ao32 t185.length co32) := (blk_cell BK188.out 2).trans rfl
       have hfz40_0 := blk_frozen BK188.out 0
       have hfz40_1 := blk_frozen BK188.out 1
       have hfz40_2 := blk_frozen BK188.out 2
       go_upto_region 14 with (first | ((with_reducible refine gate_callee (f := 20) rfl ?_); refine goesL_ (some 42) rfl rfl Try.func20 (by kernel_rfl) rfl #[.agg #[.int .i64 t183, .int .i64 t184, .slice Ao32 t185.length co32], .int .i64 1] rfl (by (try simp only [List.map_toArray, List.map_cons, List.map_nil]); first | done | rfl | (simp only [List.length_drop, List.length_take]; rfl)) ?_; (with_reducible refine (laws_markTrain.calls k t183 t184 (fun k_ => some k_ = (.slice Ao32 t185.length co32 : Value).ownBlock) (.slice Ao32 t185.length co32) t185 1 t199 t200 w _ ?side1 ?side2 A18.out).mono ?_); (case side1 => repeat (first | (with_reducible first | exact HB.out | apply below_alloc | apply pw_below_drewN | apply below_drew1 | refine below_set ?_ GE173.out | refine below_set ?_ GE188.out) | exact HB.out)); (case side2 => exact Kd.R_tight rfl HO187.out); rintro e w41 ⟨rfl, hy0, hb, hkp⟩; refine ⟨_, rfl, ?_⟩; have n0_ := Aside0.mk (blk_kept (nB BK173.out) hkp (fun hs_ => (fun e_ => (Kd.R_ne HO187.out BK173.out (by decide)) e_) hs_)); have n1_ := Aside0.mk (Kd.R_mono (ok' := fun k_ => some k_ ≠ (.slice Ao32 t185.length co32 : Value).ownBlock ∧ some k_ ≠ (.slice Ao38 t195.length co38 : Value).ownBlock) (Kd.R_keptB (HO179.out) hkp (fun k_ hk_ hs_ => (hk_.1) hs_)) (fun k_ hk_ => ⟨hk_.1.1, hk_.1.2⟩)); have n2_ := Aside0.mk (Kd.R_mono (ok' := fun k_ => some k_ ≠ (.slice Ao34 t189.length co34 : Value).ownBlock) (Kd.R_keptB ((Kd.R_apart' HO182.out (Kd.R_typed HO187.out) (by decide))) hkp (fun k_ hk_ hs_ => (hk_.2) hs_)) (fun k_ hk_ => hk_.1.1)); have n3_ := Aside0.mk (Kd.R_reok rfl hy0 (fun k_ e_ => HO187.out.1 k_ e_)); have n4_ := Aside0.mk (blk_kept (nB BK188.out) hkp (fun hs_ => (fun e_ => (Kd.R_ne HO187.out BK188.out (by decide)) e_) hs_)); have n5_ := Aside0.mk (Kd.R_mono (ok' := fun k_ => some k_ ≠ (.slice Ao35 t180.length co35 : Value).ownBlock) (Kd.R_keptB ((Kd.R_apart' HO191.out (Kd.R_typed HO187.out) (by decide))) hkp (fun k_ hk_ hs_ => (hk_.2) hs_)) (fun k_ hk_ => hk_.1.1)); have n6_ := Aside0.mk (Kd.R_mono (ok' := fun k_ => some k_ ≠ (.slice Ao25 t177.length co25 : Value).ownBlock ∧ some k_ ≠ (.slice Ao32 t185.length co32 : Value).ownBlock) (Kd.R_keptB (HO197.out) hkp (fun k_ hk_ hs_ => (hk_.2) hs_)) (fun k_ hk_ => ⟨hk_.1.1.2, hk_.1.2⟩)); have n7_ := Aside0.mk (hb); clear BK173; clear HO179; clear HO182; clear HO187; clear BK188; clear HO191; clear HO197; clear HB; have BK173 := n0_; have HO179 := n1_; have HO182 := n2_; have HO187 := n3_; have BK188 := n4_; have HO191 := n5_; have HO197 := n6_; have HB := n7_; clear n0_ n1_ n2_ n3_ n4_ n5_ n6_ n7_; (try clear hb); (try clear hkp); (try clear hy0)))
       (try simp only [Act.put, List.setIfInBounds_toArray, List.set_cons_zero, List.set_cons_succ])
       go_cut [50] (fun v50 wc => ∃ (kq : Nat) (x50_18 : Bool), v50 = .bool x50_18 ∧ Aside0 (laws_FnExactSpread.j0 kq a1 a2 t180 t189 x50_18 a0_0 a0_1 l0_2 = some r) ∧ Aside0 (kq ≤ k) ∧ Aside0 (Kd.R (Kd.int .i64) 3 wc w.heap.size (fun k_ => some k_ ≠ ((.slice Ao34 t189.length co34) : Value).ownBlock) (.slice Ao35 t180.length co35) t180) ∧ Aside0 (Kd.R (Kd.int .i64) 3 wc w.heap.size (fun k_ => some k_ ≠ ((.slice Ao35 t180.length co35) : Value).ownBlock) (.slice Ao34 t189.length co34) t189) ∧ Aside0 (Kd.R k66 66 wc w.heap.size (fun _ => True) (.slice Ao32 t185.length co32) t200) ∧ Aside0 (wc.heap[gb173]? = some (.cells #[.int .i64 a0_0, .int .i64 a0_1, (.slice A0_2 l0_2.length c0_2)] 24 (0, 0))) ∧ Aside0 (wc.heap[gb188]? = some (.cells #[.int .i64 t183, .int .i64 t184, (.slice Ao32 t185.length co32)] 29 (0, 0))) ∧ Aside0 (Below w.heap.size w wc))
       case first =>
        have H := HC19.out; clear HC19
        by_cases c42 : t199 < 0
        · rw [if_pos c42] at H
          have c42b0 : decide (t199 < 0) = true := decide_eq_true c42
          clear c42
          (first | rw [c42b0] | (simp only [i64_w, i32_w]; rw [c42b0]) | skip)
          have H' := Aside0.mk H
          clear H; go_wp2
          go_meet
          case rel => exact ⟨_, (true), nS, H', ⟨by first | omega | exact Nat.le_refl _⟩, ⟨by (with_reducible repeat (first | apply Kd.R_alloc | apply Kd.R_drewN | apply Kd.R_drew)); exact HO182.out⟩, ⟨by (with_reducible repeat (first | apply Kd.R_alloc | apply Kd.R_drewN | apply Kd.R_drew)); exact HO191.out⟩, ⟨by (with_reducible repeat (first | apply Kd.R_alloc | apply Kd.R_drewN | apply Kd.R_drew)); exact Kd.R_mono HO187.out (fun _ hk => trivial)⟩, ⟨by (with_reducible repeat (first | refine blk_drewN ?_ _ | refine blk_drew ?_ | refine blk_alloc ?_ _)); exact BK173.out⟩, ⟨by (with_reducible repeat (first | refine blk_drewN ?_ _ | refine blk_drew ?_ | refine blk_alloc ?_ _)); exact BK188.out⟩, ⟨nH2 HB.out GE173.out GE188.out⟩⟩
        · rw [if_neg c42] at H
          have c42b0 : decide (t199 < 0) = false := decide_eq_false c42
          clear c42
          (first | rw [c42b0] | (simp only [i64_w, i32_w]; rw [c42b0]) | skip)
          replace H := Option.bind_eq_some_iff.mp H
          obtain ⟨t201, A430, H⟩ := H
          replace H : (laws_FnExactSpread.j0 k a1 a2 t180 t189 (!t201) a0_0 a0_1 l0_2) = some r := H
          have A43 := Aside0.mk A430
          clear A430
          have H' := Aside0.mk H
          clear H
          go_wp2_with (first | (go_at_call 19; (with_reducible refine (laws_eqIntS.calls k _ _ t189 _ _ t180 t201 _ ?side1 ?side2 ?side3 ?side4 A43.out).mono ?_); (case side1 => repeat (first | exact (Kd.R_reads' HO191.out).2.2 | (with_reducible refine Kd.C_alloc ?_ _) | (with_reducible refine Kd.C_drewN ?_ _) | (with_reducible refine Kd.C_drew ?_))); (case side2 => exact (Kd.R_reads' HO191.out).2.1); (case side3 => repeat (first | exact (Kd.R_reads' HO182.out).2.2 | (with_reducible refine Kd.C_alloc ?_ _) | (with_reducible refine Kd.C_drewN ?_ _) | (with_reducible refine Kd.C_drew ?_))); (case side4 => exact (Kd.R_reads' HO182.out).2.1); rintro e w' ⟨rfl, ⟨nd, rfl⟩⟩))
          go_meet
          case rel => exact ⟨_, (!t201), nS, H', ⟨by first | omega | exact Nat.le_refl _⟩, ⟨by (with_reducible repeat (first | apply Kd.R_alloc | apply Kd.R_drewN | apply Kd.R_drew)); exact HO182.out⟩, ⟨by (with_reducible repeat (first | apply Kd.R_alloc | apply Kd.R_drewN | apply Kd.R_drew)); exact HO191.out⟩, ⟨by (with_reducible repeat (first | apply Kd.R_alloc | apply Kd.R_drewN | apply Kd.R_drew)); exact Kd.R_mono HO187.out (fun _ hk => trivial)⟩, ⟨by (with_reducible repeat (first | refine blk_drewN ?_ _ | refine blk_drew ?_ | refine blk_alloc ?_ _)); exact BK173.out⟩, ⟨by (with_reducible repeat (first | refine blk_drewN ?_ _ | refine blk_drew ?_ | refine blk_alloc ?_ _)); exact BK188.out⟩, ⟨nH2 HB.out GE173.out GE188.out⟩⟩
       case rest =>
        clear HC19; try clear c1; try clear c2; try clear p2; try clear c3; try clear c4; try clear c5; try clear c5b0; try clear c6; try clear p6; try clear c12; try clear c14; try clear c16; try clear c17; try clear c19; try clear c20; try clear c25; try clear c26; try clear c30; try clear c42; try clear c42b0; try clear hcz21_0; try clear hcz21_1; try clear hcz21_2; try clear hcz23_0; try clear hcz23_1; try clear hcz23_2; try clear hcz27_0; try clear hcz27_1; try clear hcz27_2; try clear hcz31_0; try clear hcz31_1; try clear hcz31_2; try clear hcz40_0; try clear hcz40_1; try clear hcz40_2; try clear hcz7_0
        try clear hcz7_1; try clear hcz7_2; try clear hfz21_0; try clear hfz21_1; try clear hfz21_2; try clear hfz23_0; try clear hfz23_1; try clear hfz23_2; try clear hfz27_0; try clear hfz27_1; try clear hfz27_2; try clear hfz31_0; try clear hfz31_1; try clear hfz31_2; try clear hfz40_0; try clear hfz40_1; try clear hfz40_2; try clear hfz7_0; try clear hfz7_1; try clear hfz7_2
        obtain ⟨kq, x50_18, rfl, HA, HJ18, HO_8, HO_10, HO_189002, BK173, BK188, HB⟩ := hcut
        have hl189002_18 := (Kd.R_reads' HO_189002.out).1
        rw [hl189002_18] at HO_189002
        (try simp only [hl189002_18])
        (try simp only [hl189002_18] at BK173)
        (try simp only [hl189002_18] at BK188)
        (try simp only [hl189002_18] at HO_8)
        (try simp only [hl189002_18] at HO_10)
        cases kq with
        | zero => exact absurd HA.out (by simp [laws_FnExactSpread.j0])
        | succ kj18 =>
         have H := HA.out; clear HA
         simp only [laws_FnExactSpread.j0] at H
         by_cases c44 : x50_18 = true
         · subst c44
           have H1 : (some false) = some r := by rw [if_pos rfl] at H; exact H
           clear H; have H := H1; clear H1
           exact absurd ((Option.some.inj H).trans ht.out) (by decide)
         · replace c44 := Bool.eq_false_iff.mpr c44
           subst c44
           have H1 : ((laws_markIntS.f kj18 t189 1).bind fun bt202 => ((laws_heldIntS.f kj18 bt202.2 1).bind fun t204 => (if t204 < 0 then (some false) else (if t204 = bt202.1 then ((laws_toTrain.f kj18 a0_0 a0_1 l0_2).bind fun bt205 => ((impl_Spread.f bt205.1 bt205.2.1 bt205.2.2 a1 a2).bind fun t210 => ((laws_eqIntS.f kj18 t210 t180).bind fun t213 => (if t213 = true then ((laws_heldIntS.f kj18 bt202.2 1).bind fun t214 => (if t214 < 0 then (some false) else (if t214 = bt202.1 then (some true) else (some false)))) else (some false))))) else (some false))))) = some r := by rw [if_neg (show ¬ (false = true) by decide)] at H; exact H
           clear H; have H := H1; clear H1
           replace H := Option.bind_eq_some_iff.mp H
           obtain ⟨⟨t202, t203⟩, A450, H⟩ := H
           replace H : ((laws_heldIntS.f kj18 t203 1).bind fun t204 => (if t204 < 0 then (some false) else (if t204 = t202 then ((laws_toTrain.f kj18 a0_0 a0_1 l0_2).bind fun bt205 => ((impl_Spread.f bt205.1 bt205.2.1 bt205.2.2 a1 a2).bind fun t210 => ((laws_eqIntS.f kj18 t210 t180).bind fun t213 => (if t213 = true then ((laws_heldIntS.f kj18 t203 1).bind fun t214 => (if t214 < 0 then (some false) else (if t214 = t202 then (some true) else (some false)))) else (some false))))) else (some false)))) = some r := H
           have A45 := Aside0.mk A450
           clear A450
           replace H := Option.bind_eq_some_iff.mp H
           obtain ⟨t204, A460, H⟩ := H
           replace H : (if t204 < 0 then (some false) else (if t204 = t202 then ((laws_toTrain.f kj18 a0_0 a0_1 l0_2).bind fun bt205 => ((impl_Spread.f bt205.1 bt205.2.1 bt205.2.2 a1 a2).bind fun t210 => ((laws_eqIntS.f kj18 t210 t180).bind fun t213 => (if t213 = true then ((laws_heldIntS.f kj18 t203 1).bind fun t214 => (if t214 < 0 then (some false) else (if t214 = t202 then (some true) else (some false)))) else (some false))))) else (some false))) = some r := H
           have A46 := Aside0.mk A460
           clear A460
           by_cases c47 : t204 < 0
           · rw [if_pos c47] at H
             have c47b0 : decide (t204 < 0) = true := decide_eq_true c47
             clear c47
             exact absurd ((Option.some.inj H).trans ht.out) (by decide)
           · rw [if_neg c47] at H
             have c47b0 : decide (t204 < 0) = false := decide_eq_false c47
             clear c47
             by_cases c48 : t204 = t202
             · rw [if_pos c48] at H
               have c48b0 : (t204 == t202) = true := beq_iff_eq.mpr c48
               have c48b1 : (t204 != t202) = false := bne_eq_false_iff_eq.mpr c48
               clear c48
               replace H := Option.bind_eq_some_iff.mp H
               obtain ⟨⟨t205, t206, t207⟩, A490, H⟩ := H
               replace H : ((impl_Spread.f t205 t206 t207 a1 a2).bind fun t210 => ((laws_eqIntS.f kj18 t210 t180).bind fun t213 => (if t213 = true then ((laws_heldIntS.f kj18 t203 1).bind fun t214 => (if t214 < 0 then (some false) else (if t214 = t202 then (some true) else (some false)))) else (some false)))) = some r := H
               have A49 := Aside0.mk A490
               clear A490
               replace H := Option.bind_eq_some_iff.mp H
               obtain ⟨t210, A500, H⟩ := H
               replace H : ((laws_eqIntS.f kj18 t210 t180).bind fun t213 => (if t213 = true then ((laws_heldIntS.f kj18 t203 1).bind fun t214 => (if t214 < 0 then (some false) else (if t214 = t202 then (some true) else (some false)))) else (some false))) = some r := H
               have A50 := Aside0.mk A500
               clear A500
               replace H := Option.bind_eq_some_iff.mp H
               obtain ⟨t213, A510, H⟩ := H
               replace H : (if t213 = true then ((laws_heldIntS.f kj18 t203 1).bind fun t214 => (if t214 < 0 then (some false) else (if t214 = t202 then (some true) else (some false)))) else (some false)) = some r := H
               have A51 := Aside0.mk A510
               clear A510
               by_cases c52 : t213 = true
               · subst c52
                 have H1 : ((laws_heldIntS.f kj18 t203 1).bind fun t214 => (if t214 < 0 then (some false) else (if t214 = t202 then (some true) else (some false)))) = some r := by rw [if_pos rfl] at H; exact H
                 clear H; have H := H1; clear H1
                 replace H := Option.bind_eq_some_iff.mp H
                 obtain ⟨t214, A530, H⟩ := H
                 replace H : (if t214 < 0 then (some false) else (if t214 = t202 then (some true) else (some false))) = some r := H
                 have A53 := Aside0.mk A530
                 clear A530
                 by_cases c54 : t214 < 0
                 · rw [if_pos c54] at H
                   have c54b0 : decide (t214 < 0) = true := decide_eq_true c54
                   clear c54
                   exact absurd ((Option.some.inj H).trans ht.out) (by decide)
                 · rw [if_neg c54] at H
                   have c54b0 : decide (t214 < 0) = false := decide_eq_false c54
                   clear c54
                   by_cases c55 : t214 = t202
                   · rw [if_pos c55] at H
                     have c55b0 : (t214 == t202) = true := beq_iff_eq.mpr c55
                     have c55b1 : (t214 != t202) = false := bne_eq_false_iff_eq.mpr c55
                     clear c55; obtain rfl := Option.some.inj H
                     go_wp2_with (first | ((with_reducible refine gate_callee (f := 21) rfl ?_); refine goesL_ (some 53) rfl rfl Try.func21 (by kernel_rfl) rfl #[.slice Ao34 t189.length co34, .int .i64 1] rfl (by (try simp only [List.map_toArray, List.map_cons, List.map_nil]); first | done | rfl | (simp only [List.length_drop, List.length_take]; rfl)) ?_; (with_reducible refine (laws_markIntS.calls kj18 (fun k_ => some k_ = (.slice Ao34 t189.length co34 : Value).ownBlock) (.slice Ao34 t189.length co34) t189 1 t202 t203 w _ ?side1 ?side2 A45.out).mono ?_); (case side1 => repeat (first | (with_reducible first | exact HB.out | apply below_alloc | apply pw_below_drewN | apply below_drew1 | refine below_set ?_ GE173.out | refine below_set ?_ GE188.out) | exact HB.out)); (case side2 => exact Kd.R_tight rfl HO_10.out); rintro e w56 ⟨rfl, hy0, hb, hkp⟩; refine ⟨_, rfl, ?_⟩; have n0_ := Aside0.mk (Kd.R_mono (ok' := fun k_ => some k_ ≠ (.slice Ao34 t189.length co34 : Value).ownBlock) (Kd.R_keptB (HO_8.out) hkp (fun k_ hk_ hs_ => (hk_) hs_)) (fun k_ hk_ => hk_.1)); have n1_ := Aside0.mk (Kd.R_reok rfl hy0 (fun k_ e_ => HO_10.out.1 k_ e_)); have n2_ := Aside0.mk (Kd.R_mono (ok' := fun k_ => True) (Kd.R_keptB ((Kd.R_apart' HO_189002.out (Kd.R_typed HO_10.out) (by decide))) hkp (fun k_ hk_ hs_ => (hk_.2) hs_)) (fun k_ hk_ => trivial)); have n3_ := Aside0.mk (blk_kept (nB BK173.out) hkp (fun hs_ => (fun e_ => (Kd.R_ne HO_10.out BK173.out (by decide)) e_) hs_)); have n4_ := Aside0.mk (blk_kept (nB BK188.out) hkp (fun hs_ => (fun e_ => (Kd.R_ne HO_10.out BK188.out (by decide)) e_) hs_)); have n5_ := Aside0.mk (hb); clear HO_8; clear HO_10; clear HO_189002; clear BK173; clear BK188; clear HB; have HO_8 := n0_; have HO_10 := n1_; have HO_189002 := n2_; have BK173 := n3_; have BK188 := n4_; have HB := n5_; clear n0_ n1_ n2_ n3_ n4_ n5_; (try clear hb); (try clear hkp); (try clear hy0)) | ((with_reducible refine gate_callee (f := 22) rfl ?_); refine goesL_ (some 56) rfl rfl Try.func22 (by kernel_rfl) rfl #[.slice Ao34 t203.length co34, .int .i64 1] rfl (by (try simp only [List.map_toArray, List.map_cons, List.map_nil]); first | done | (rw [show t203.length = t189.length from (Kd.R_reads' HO_10.out).1.symm] <;> rfl) | rfl | (simp only [List.length_drop, List.length_take]; rfl)) ?_; (with_reducible refine (laws_heldIntS.calls kj18 _ _ t203 1 t204 _ ?side1 ?side2 A46.out).mono ?_); (case side1 => repeat (first | exact (Kd.R_reads' HO_10.out).2.2 | (with_reducible refine Kd.C_alloc ?_ _) | (with_reducible refine Kd.C_drewN ?_ _) | (with_reducible refine Kd.C_drew ?_))); (case side2 => rw [show t203.length = t189.length from (Kd.R_reads' HO_10.out).1.symm]; exact (Kd.R_reads' HO_10.out).2.1); rintro e w' ⟨rfl, ⟨nd, rfl⟩⟩; refine ⟨_, rfl, ?_⟩; have hnb57 := NB173_188.out; have hnc57 := NB188_173.out; have hcz58_0 : w56.cell? ⟨gb173, 0, none⟩ = some (.int .i64 a0_0) := (blk_cell BK173.out 0).trans rfl; have hcz58_1 : w56.cell? ⟨gb173, 1, none⟩ = some (.int .i64 a0_1) := (blk_cell BK173.out 1).trans rfl; have hcz58_2 : w56.cell? ⟨gb173, 2, none⟩ = some (.slice A0_2 l0_2.length c0_2) := (blk_cell BK173.out 2).trans rfl; have hfz58_0 := blk_frozen BK173.out 0; have hfz58_1 := blk_frozen BK173.out 1; have hfz58_2 := blk_frozen BK173.out 2) | ((with_reducible refine gate_callee (f := 14) rfl ?_); refine goesL_ (some 63) rfl rfl Try.func14 (by kernel_rfl) rfl #[.agg #[.int .i64 a0_0, .int .i64 a0_1, .slice A0_2 l0_2.length c0_2]] rfl (by (try simp only [List.map_toArray, List.map_cons, List.map_nil]); first | done | rfl | (simp only [List.length_drop, List.length_take]; rfl)) ?_; (with_reducible refine (laws_toTrain.calls kj18 a0_0 a0_1 _ _ l0_2 t205 t206 t207 _ ?side1 ?side2 A49.out).mono ?_); (case side1 => repeat (first | exact (Kd.C_below HR0_2.out (nH2 HB.out GE173.out GE188.out)) | (with_reducible refine Kd.C_alloc ?_ _) | (with_reducible refine Kd.C_drewN ?_ _) | (with_reducible refine Kd.C_drew ?_))); (case side2 => exact HC0_2.out); rintro e w59 ⟨v208, rfl, ho0, hb⟩; refine ⟨_, rfl, ?_⟩; have n0_ := Aside0.mk (Kd.R_below (nR HO_8.out) hb); have n1_ := Aside0.mk (Kd.R_below (nR HO_10.out) hb); have n2_ := Aside0.mk (Kd.R_elder' (nR HO_189002.out) (Kd.R_base ho0) hb); have n3_ := Aside0.mk (Kd.R_lower (Kd.R_new' ho0 (Kd.R_lt (nR HO_189002.out))) (below_size (nH2 HB.out GE173.out GE188.out))); have n4_ := Aside0.mk (blk_below (g := gb173) (o := .cells #[.int .i64 a0_0, .int .i64 a0_1, .slice A0_2 l0_2.length c0_2] 24 (0, 0)) (nB BK173.out) hb); have n5_ := Aside0.mk (blk_below (g := gb188) (o := .cells #[.int .i64 t183, .int .i64 t184, .slice Ao32 t200.length co32] 29 (0, 0)) (nB BK188.out) hb); have n6_ := Aside0.mk (below_step (nH2 HB.out GE173.out GE188.out) hb); clear HO_8; clear HO_10; clear HO_189002; clear BK173; clear BK188; clear HB; have HO_8 := n0_; have HO_10 := n1_; have HO_189002 := n2_; have HO209 := n3_; have BK173 := n4_; have BK188 := n5_; have HB := n6_; clear n0_ n1_ n2_ n3_ n4_ n5_ n6_; (try clear hb); (try clear hb2); (try clear hk); (try clear hi); (try clear ho0); obtain ⟨Ao60, co60, eo60⟩ := Kd.R_slice HO209.out; subst eo60) | ((with_reducible refine gate_callee (f := 26) rfl ?_); refine goesL_ (some 66) rfl rfl Try.func26 (by kernel_rfl) rfl #[.agg #[.int .i64 t205, .int .i64 t206, .slice Ao60 t207.length co60], .int .i64 a1, .int .i64 a2] rfl (by (try simp only [List.map_toArray, List.map_cons, List.map_nil]); first | done | rfl | (simp only [List.length_drop, List.length_take]; rfl)) ?_; (with_reducible refine (impl_Spread.calls t205 t206 _ _ t207 a1 a2 t210 _ ?side1 ?side2 A50.out).mono ?_); (case side1 => repeat (first | exact (Kd.R_reads' HO209.out).2.2 | (with_reducible refine Kd.C_alloc ?_ _) | (with_reducible refine Kd.C_drewN ?_ _) | (with_reducible refine Kd.C_drew ?_))); (case side2 => exact (Kd.R_reads' HO209.out).2.1); rintro e w61 ⟨v211, rfl, ho0, hb⟩; refine ⟨_, rfl, ?_⟩; have n0_ := Aside0.mk (Kd.R_elder' (nR HO_8.out) (Kd.R_base ho0) hb); have n1_ := Aside0.mk (Kd.R_elder' (nR HO_10.out) (Kd.R_base ho0) hb); have n2_ := Aside0.mk (Kd.R_below (nR HO_189002.out) hb); have n3_ := Aside0.mk (Kd.R_below (nR HO209.out) hb); have n4_ := Aside0.mk (Kd.R_lower (Kd.R_new' (Kd.R_new' ho0 (Kd.R_lt (nR HO_8.out))) (Kd.R_lt (nR HO_10.out))) (below_size (nH2 HB.out GE173.out GE188.out))); have n5_ := Aside0.mk (blk_below (g := gb173) (o := .cells #[.int .i64 a0_0, .int .i64 a0_1, .slice A0_2 l0_2.length c0_2] 24 (0, 0)) (nB BK173.out) hb); have n6_ := Aside0.mk (blk_below (g := gb188) (o := .cells #[.int .i64 t183, .int .i64 t184, .slice Ao32 t200.length co32] 29 (0, 0)) (nB BK188.out) hb); have n7_ := Aside0.mk (below_step (nH2 HB.out GE173.out GE188.out) hb); clear HO_8; clear HO_10; clear HO_189002; clear HO209; clear BK173; clear BK188; clear HB; have HO_8 := n0_; have HO_10 := n1_; have HO_189002 := n2_; have HO209 := n3_; have HO212 := n4_; have BK173 := n5_; have BK188 := n6_; have HB := n7_; clear n0_ n1_ n2_ n3_ n4_ n5_ n6_ n7_; (try clear hb); (try clear hb2); (try clear hk); (try clear hi); (try clear ho0); obtain ⟨Ao62, co62, eo62⟩ := Kd.R_slice HO212.out; subst eo62) | ((with_reducible refine gate_callee (f := 19) rfl ?_); refine goesL_ (some 69) rfl rfl Try.func19 (by kernel_rfl) rfl #[.slice Ao62 t210.length co62, .slice Ao35 t180.length co35] rfl (by (try simp only [List.map_toArray, List.map_cons, List.map_nil]); first | done | rfl | (simp only [List.length_drop, List.length_take]; rfl)) ?_; (with_reducible refine (laws_eqIntS.calls kj18 _ _ t210 _ _ t180 true _ ?side1 ?side2 ?side3 ?side4 A51.out).mono ?_); (case side1 => repeat (first | exact (Kd.R_reads' HO212.out).2.2 | (with_reducible refine Kd.C_alloc ?_ _) | (with_reducible refine Kd.C_drewN ?_ _) | (with_reducible refine Kd.C_drew ?_))); (case side2 => exact (Kd.R_reads' HO212.out).2.1); (case side3 => repeat (first | exact (Kd.R_reads' HO_8.out).2.2 | (with_reducible refine Kd.C_alloc ?_ _) | (with_reducible refine Kd.C_drewN ?_ _) | (with_reducible refine Kd.C_drew ?_))); (case side4 => exact (Kd.R_reads' HO_8.out).2.1); rintro e w' ⟨rfl, ⟨nd, rfl⟩⟩; refine ⟨_, rfl, ?_⟩) | ((with_reducible refine gate_callee (f := 22) rfl ?_); refine goesL_ (some 73) rfl rfl Try.func22 (by kernel_rfl) rfl #[.slice Ao34 t203.length co34, .int .i64 1] rfl (by (try simp only [List.map_toArray, List.map_cons, List.map_nil]); first | done | (rw [show t203.length = t189.length from (Kd.R_reads' HO_10.out).1.symm] <;> rfl) | rfl | (simp only [List.length_drop, List.length_take]; rfl)) ?_; (with_reducible refine (laws_heldIntS.calls kj18 _ _ t203 1 t214 _ ?side1 ?side2 A53.out).mono ?_); (case side1 => repeat (first | exact (Kd.R_reads' HO_10.out).2.2 | (with_reducible refine Kd.C_alloc ?_ _) | (with_reducible refine Kd.C_drewN ?_ _) | (with_reducible refine Kd.C_drew ?_))); (case side2 => rw [show t203.length = t189.length from (Kd.R_reads' HO_10.out).1.symm]; exact (Kd.R_reads' HO_10.out).2.1); rintro e w' ⟨rfl, ⟨nd, rfl⟩⟩; refine ⟨_, rfl, ?_⟩))
                     go_ret
                     exact ⟨by first | rfl | (simp [errW_none, errW_some] <;> rfl) | (simp [*, errW_none, errW_some] <;> first | rfl | (simp [wrap64]; done)), nH2 HB.out GE173.out GE188.out⟩
                   · rw [if_neg c55] at H
                     have c55b0 : (t214 == t202) = false := beq_eq_false_iff_ne.mpr c55
                     have c55b1 : (t214 != t202) = true := bne_iff_ne.mpr c55
                     exact absurd ((Option.some.inj H).trans ht.out) (by decide)
               · replace c52 := Bool.eq_false_iff.mpr c52
                 subst c52
                 have H1 : (some false) = some r := by rw [if_neg (show ¬ (false = true) by decide)] at H; exact H
                 clear H; have H := H1; clear H1
                 exact absurd ((Option.some.inj H).trans ht.out) (by decide)
             · rw [if_neg c48] at H
               have c48b0 : (t204 == t202) = false := beq_eq_false_iff_ne.mpr c48
               have c48b1 : (t204 != t202) = true := bne_iff_ne.mpr c48
               exact absurd ((Option.some.inj H).trans ht.out) (by decide)
     · replace c17 := Bool.eq_false_iff.mpr c17
       subst c17
       have H1 : (some false) = some r := by rw [if_neg (show ¬ (false = true) by decide)] at H; exact H
       clear H; have H := H1; clear H1
       exact absurd ((Option.some.inj H).trans ht.out) (by decide)
   · replace c14 := Bool.eq_false_iff.mpr c14
     subst c14
     have H1 : (some false) = some r := by rw [if_neg (show ¬ (false = true) by decide)] at H; exact H
     clear H; have H := H1; clear H1
     exact absurd ((Option.some.inj H).trans ht.out) (by decide)
end Go.Proofs.Ytklikbjlfaednaa.P
