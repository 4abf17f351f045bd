/- Contracts of the functions of the program, each one with its plain Lean function; written by a program of the session out of the translation. -/
import Derived.Test.YtcihaeggjfpacaaNc
import Derived.Test.YtcihaeggjfpacaaPx0
import Derived.Test.YtcihaeggjfpacaaPx1
import Derived.Test.YtcihaeggjfpacaaPx3
import Derived.Test.YtcihaeggjfpacaaPx6
import Derived.Test.YtcihaeggjfpacaaPx7
import Derived.Test.YtcihaeggjfpacaaPx9
import Derived.Test.YtcihaeggjfpacaaPx11
import Derived.Test.YtcihaeggjfpacaaPx12
import Derived.Test.YtcihaeggjfpacaaPx35
import Derived.Test.YtcihaeggjfpacaaPx36
import Derived.Test.YtcihaeggjfpacaaPx39
import Derived.Test.YtcihaeggjfpacaaPx40
import Derived.Test.YtcihaeggjfpacaaPx41
namespace Go.Proofs.Ytcihaeggjfpacaa.P
open Go.RowKit Go.Proofs.YtcihaeggjfpacaaW.PrintWords Go.Proofs.YtcihaeggjfpacaaW.PrintLast Go.Proofs.YtcihaeggjfpacaaW.PrintMore
attribute [local go_sem] max2_int min2_int max_two min_two max_three min_three max_four min_four   -- for this text's walks alone
set_option linter.unusedVariables false
set_option linter.unusedSimpArgs false
/-! ### laws_FnExactSplit: function 11 -/
theorem laws_FnExactSplit.mono_l : ∀ k, (∀ y0 y1 y2 y3 y4 y5 y6 y7 y8 y9 y10 y11 y12 y13 y14 y15 y16 y17, LeO (laws_FnExactSplit.j0 k y0 y1 y2 y3 y4 y5 y6 y7 y8 y9 y10 y11 y12 y13 y14 y15 y16 y17) (laws_FnExactSplit.j0 (k + 1) y0 y1 y2 y3 y4 y5 y6 y7 y8 y9 y10 y11 y12 y13 y14 y15 y16 y17)) ∧ (∀ y0 y1 y2 y3 y4 y5 y6 y7 y8 y9 y10, LeO (laws_FnExactSplit.j1 k y0 y1 y2 y3 y4 y5 y6 y7 y8 y9 y10) (laws_FnExactSplit.j1 (k + 1) y0 y1 y2 y3 y4 y5 y6 y7 y8 y9 y10)) ∧ (∀ y0 y1 y2, LeO (laws_FnExactSplit.j2 k y0 y1 y2) (laws_FnExactSplit.j2 (k + 1) y0 y1 y2))
 | 0 => ⟨fun _ _ _ _ _ _ _ _ _ _ _ _ _ _ _ _ _ _ r h => by simp [laws_FnExactSplit.j0] at h, fun _ _ _ _ _ _ _ _ _ _ _ r h => by simp [laws_FnExactSplit.j1] at h, fun _ _ _ r h => by simp [laws_FnExactSplit.j2] at h⟩
 | k + 1 => by
  obtain ⟨ih0, ih1, ih2⟩ := laws_FnExactSplit.mono_l k
  refine ⟨?_, ?_, ?_⟩
  · intro y0 y1 y2 y3 y4 y5 y6 y7 y8 y9 y10 y11 y12 y13 y14 y15 y16 y17
    unfold laws_FnExactSplit.j0
    repeat' first
    | (with_reducible exact ih0 _ _ _ _ _ _ _ _ _ _ _ _ _ _ _ _ _ _)
    | (with_reducible exact ih1 _ _ _ _ _ _ _ _ _ _ _)
    | (with_reducible exact ih2 _ _ _)
    | (with_reducible exact impl_Split.mono _ _ _ _ _ _ _ _)
    | (with_reducible exact laws_eqCardS.mono _ _ _)
    | (with_reducible exact laws_eqIntS.mono _ _ _)
    | (with_reducible exact laws_eqTariff.mono _ _ _ _ _ _ _ _ _)
    | (with_reducible exact laws_heldIntS.mono _ _ _)
    | (with_reducible exact laws_markCardS.mono _ _ _)
    | (with_reducible exact laws_markIntS.mono _ _ _)
    | (with_reducible exact laws_markTariff.mono _ _ _ _ _ _)
    | (with_reducible exact laws_toCardS.mono _ _)
    | (with_reducible exact laws_toIntS.mono _ _)
    | (with_reducible exact laws_toTariff.mono _ _ _ _ _)
    | (with_reducible exact spec_Split.mono _ _ _ _ _ _ _ _)
    | (with_reducible exact LeO.refl _)
    | (with_reducible exact LeO.none _)
    | (with_reducible refine LeO.ite ?_ ?_)
    | (with_reducible refine LeO.bind ?_ (fun _ => ?_))
    | exact ih0 _ _ _ _ _ _ _ _ _ _ _ _ _ _ _ _ _ _
    | exact ih1 _ _ _ _ _ _ _ _ _ _ _
    | exact ih2 _ _ _
    | exact impl_Split.mono _ _ _ _ _ _ _ _
    | exact laws_eqCardS.mono _ _ _
    | exact laws_eqIntS.mono _ _ _
    | exact laws_eqTariff.mono _ _ _ _ _ _ _ _ _
    | exact laws_heldIntS.mono _ _ _
    | exact laws_markCardS.mono _ _ _
    | exact laws_markIntS.mono _ _ _
    | exact laws_markTariff.mono _ _ _ _ _ _
    | exact laws_toCardS.mono _ _
    | exact laws_toIntS.mono _ _
    | exact laws_toTariff.mono _ _ _ _ _
    | exact spec_Split.mono _ _ _ _ _ _ _ _
    | exact LeO.none _
    | refine LeO.ite ?_ ?_
    | refine LeO.bind ?_ (fun _ => ?_)
  · intro y0 y1 y2 y3 y4 y5 y6 y7 y8 y9 y10
    unfold laws_FnExactSplit.j1
    repeat' first
    | (with_reducible exact ih0 _ _ _ _ _ _ _ _ _ _ _ _ _ _ _ _ _ _)
    | (with_reducible exact ih1 _ _ _ _ _ _ _ _ _ _ _)
    | (with_reducible exact ih2 _ _ _)
    | (with_reducible exact impl_Split.mono _ _ _ _ _ _ _ _)
    | (with_reducible exact laws_eqCardS.mono _ _ _)
    | (with_reducible exact laws_eqIntS.mono _ _ _)
    | (with_reducible exact laws_eqTariff.mono _ _ _ _ _ _ _ _ _)
    | (with_reducible exact laws_heldIntS.mono _ _ _)
    | (with_reducible exact laws_markCardS.mono _ _ _)
    | (with_reducible exact laws_markIntS.mono _ _ _)
    | (with_reducible exact laws_markTariff.mono _ _ _ _ _ _)
    | (with_reducible exact laws_toCardS.mono _ _)
    | (with_reducible exact laws_toIntS.mono _ _)
    | (with_reducible exact laws_toTariff.mono _ _ _ _ _)
    | (with_reducible exact spec_Split.mono _ _ _ _ _ _ _ _)
    | (with_reducible exact LeO.refl _)
    | (with_reducible exact LeO.none _)
    | (with_reducible refine LeO.ite ?_ ?_)
    | (with_reducible refine LeO.bind ?_ (fun _ => ?_))
    | exact ih0 _ _ _ _ _ _ _ _ _ _ _ _ _ _ _ _ _ _
    | exact ih1 _ _ _ _ _ _ _ _ _ _ _
    | exact ih2 _ _ _
    | exact impl_Split.mono _ _ _ _ _ _ _ _
    | exact laws_eqCardS.mono _ _ _
    | exact laws_eqIntS.mono _ _ _
    | exact laws_eqTariff.mono _ _ _ _ _ _ _ _ _
    | exact laws_heldIntS.mono _ _ _
    | exact laws_markCardS.mono _ _ _
    | exact laws_markIntS.mono _ _ _
    | exact laws_markTariff.mono _ _ _ _ _ _
    | exact laws_toCardS.mono _ _
    | exact laws_toIntS.mono _ _
    | exact laws_toTariff.mono _ _ _ _ _
    | exact spec_Split.mono _ _ _ _ _ _ _ _
    | exact LeO.none _
    | refine LeO.ite ?_ ?_
    | refine LeO.bind ?_ (fun _ => ?_)
  · intro y0 y1 y2
    unfold laws_FnExactSplit.j2
    repeat' first
    | (with_reducible exact ih0 _ _ _ _ _ _ _ _ _ _ _ _ _ _ _ _ _ _)
    | (with_reducible exact ih1 _ _ _ _ _ _ _ _ _ _ _)
    | (with_reducible exact ih2 _ _ _)
    | (with_reducible exact impl_Split.mono _ _ _ _ _ _ _ _)
    | (with_reducible exact laws_eqCardS.mono _ _ _)
    | (with_reducible exact laws_eqIntS.mono _ _ _)
    | (with_reducible exact laws_eqTariff.mono _ _ _ _ _ _ _ _ _)
    | (with_reducible exact laws_heldIntS.mono _ _ _)
    | (with_reducible exact laws_markCardS.mono _ _ _)
    | (with_reducible exact laws_markIntS.mono _ _ _)
    | (with_reducible exact laws_markTariff.mono _ _ _ _ _ _)
    | (with_reducible exact laws_toCardS.mono _ _)
    | (with_reducible exact laws_toIntS.mono _ _)
    | (with_reducible exact laws_toTariff.mono _ _ _ _ _)
    | (with_reducible exact spec_Split.mono _ _ _ _ _ _ _ _)
    | (with_reducible exact LeO.refl _)
    | (with_reducible exact LeO.none _)
    | (with_reducible refine LeO.ite ?_ ?_)
    | (with_reducible refine LeO.bind ?_ (fun _ => ?_))
    | exact ih0 _ _ _ _ _ _ _ _ _ _ _ _ _ _ _ _ _ _
    | exact ih1 _ _ _ _ _ _ _ _ _ _ _
    | exact ih2 _ _ _
    | exact impl_Split.mono _ _ _ _ _ _ _ _
    | exact laws_eqCardS.mono _ _ _
    | exact laws_eqIntS.mono _ _ _
    | exact laws_eqTariff.mono _ _ _ _ _ _ _ _ _
    | exact laws_heldIntS.mono _ _ _
    | exact laws_markCardS.mono _ _ _
    | exact laws_markIntS.mono _ _ _
    | exact laws_markTariff.mono _ _ _ _ _ _
    | exact laws_toCardS.mono _ _
    | exact laws_toIntS.mono _ _
    | exact laws_toTariff.mono _ _ _ _ _
    | exact spec_Split.mono _ _ _ _ _ _ _ _
    | exact LeO.none _
    | refine LeO.ite ?_ ?_
    | refine LeO.bind ?_ (fun _ => ?_)
theorem laws_FnExactSplit.mono : ∀ a0 a1 a2 a3 a4 a5 a6 k, LeO (laws_FnExactSplit.f k a0 a1 a2 a3 a4 a5 a6) (laws_FnExactSplit.f (k + 1) a0 a1 a2 a3 a4 a5 a6) := by
 intro a0 a1 a2 a3 a4 a5 a6 k
 obtain ⟨ih0, ih1, ih2⟩ := laws_FnExactSplit.mono_l k
 unfold laws_FnExactSplit.f
 repeat' first
  | (with_reducible exact ih0 _ _ _ _ _ _ _ _ _ _ _ _ _ _ _ _ _ _)
  | (with_reducible exact ih1 _ _ _ _ _ _ _ _ _ _ _)
  | (with_reducible exact ih2 _ _ _)
  | (with_reducible exact impl_Split.mono _ _ _ _ _ _ _ _)
  | (with_reducible exact laws_eqCardS.mono _ _ _)
  | (with_reducible exact laws_eqIntS.mono _ _ _)
  | (with_reducible exact laws_eqTariff.mono _ _ _ _ _ _ _ _ _)
  | (with_reducible exact laws_heldIntS.mono _ _ _)
  | (with_reducible exact laws_markCardS.mono _ _ _)
  | (with_reducible exact laws_markIntS.mono _ _ _)
  | (with_reducible exact laws_markTariff.mono _ _ _ _ _ _)
  | (with_reducible exact laws_toCardS.mono _ _)
  | (with_reducible exact laws_toIntS.mono _ _)
  | (with_reducible exact laws_toTariff.mono _ _ _ _ _)
  | (with_reducible exact spec_Split.mono _ _ _ _ _ _ _ _)
  | (with_reducible exact LeO.refl _)
  | (with_reducible exact LeO.none _)
  | (with_reducible refine LeO.ite ?_ ?_)
  | (with_reducible refine LeO.bind ?_ (fun _ => ?_))
  | exact ih0 _ _ _ _ _ _ _ _ _ _ _ _ _ _ _ _ _ _
  | exact ih1 _ _ _ _ _ _ _ _ _ _ _
  | exact ih2 _ _ _
  | exact impl_Split.mono _ _ _ _ _ _ _ _
  | exact laws_eqCardS.mono _ _ _
  | exact laws_eqIntS.mono _ _ _
  | exact laws_eqTariff.mono _ _ _ _ _ _ _ _ _
  | exact laws_heldIntS.mono _ _ _
  | exact laws_markCardS.mono _ _ _
  | exact laws_markIntS.mono _ _ _
  | exact laws_markTariff.mono _ _ _ _ _ _
  | exact laws_toCardS.mono _ _
  | exact laws_toIntS.mono _ _
  | exact laws_toTariff.mono _ _ _ _ _
  | exact spec_Split.mono _ _ _ _ _ _ _ _
  | exact LeO.none _
  | refine LeO.ite ?_ ?_
  | refine LeO.bind ?_ (fun _ => ?_)
set_option maxHeartbeats 8000000 in
set_option maxRecDepth 100000 in
theorem laws_FnExactSplit.calls (k : Nat) (a0_0 : Int) (a0_1 : Int) (A0_2 : Option Addr) (c0_2 : Nat) (l0_2 : List Int) (a0_3 : Int) (A1 : Option Addr) (c1 : Nat) (l1 : List Int) (A2 : Option Addr) (c2 : Nat) (l2 : List (S60)) (a3 : Int) (r : Bool) (w : World) (hr0_2 : Kd.C (Kd.int .i64) w A0_2 l0_2.length l0_2) (hc0_2 : l0_2.length ≤ c0_2) (hr1 : Kd.C (Kd.int .i64) w A1 l1.length l1) (hc1 : l1.length ≤ c1) (hr2 : Kd.C k60 w A2 l2.length l2) (hc2 : l2.length ≤ c2) (ht : Aside0 (r = true)) (h : laws_FnExactSplit.f k a0_0 a0_1 l0_2 a0_3 l1 l2 a3 = some r) :
 Calls Try.prog 11 #[.agg #[.int .i64 a0_0, .int .i64 a0_1, .slice A0_2 l0_2.length c0_2, .int .i64 a0_3], .slice A1 l1.length c1, .slice A2 l2.length c2, .int .i64 a3] w fun e w' => e = .returned (.bool r) ∧ Below w.heap.size w w' := by
 have hu31 := Try.underlying31; have hu34 := Try.underlying34
 have HR0_2 := Aside0.mk hr0_2
 have HC0_2 := Aside0.mk hc0_2
 clear hr0_2 hc0_2
 have HR1 := Aside0.mk hr1
 have HC1 := Aside0.mk hc1
 clear hr1 hc1
 have HR2 := Aside0.mk hr2
 have HC2 := Aside0.mk hc2
 clear hr2 hc2
 have HB := Aside0.mk (Below.refl w.heap.size w)
 have H : (if (l1.length : Int) > 1048576 then (some true) else ((laws_szTariff.f a0_0 a0_1 l0_2 a0_3 1048576).bind fun t644 => (if t644 < 0 then (some true) else ((laws_szCardS.f l2 t644).bind fun t645 => (if t645 < 0 then (some true) else ((laws_toTariff.f k a0_0 a0_1 l0_2 a0_3).bind fun bt646 => ((laws_toIntS.f k l1).bind fun t652 => ((laws_toCardS.f k l2).bind fun t655 => ((spec_Split.f k bt646.1 bt646.2.1 bt646.2.2.1 bt646.2.2.2 t652 t655 a3).bind fun bt658 => ((laws_toTariff.f k a0_0 a0_1 l0_2 a0_3).bind fun bt662 => ((laws_toIntS.f k l1).bind fun t669 => ((laws_toCardS.f k l2).bind fun t672 => ((impl_Split.f k bt662.1 bt662.2.1 bt662.2.2.1 bt662.2.2.2 t669 t672 a3).bind fun bt675 => (if bt675.1 = bt658.1 then ((laws_eqIntS.f k bt675.2 bt658.2).bind fun t679 => (laws_FnExactSplit.j0 k l1 l2 a3 bt658.1 bt658.2 t669 t672 bt675.1 bt675.2 (!t679) a0_0 a0_1 l0_2 a0_3 bt662.1 bt662.2.1 bt662.2.2.1 bt662.2.2.2)) else (laws_FnExactSplit.j0 k l1 l2 a3 bt658.1 bt658.2 t669 t672 bt675.1 bt675.2 true a0_0 a0_1 l0_2 a0_3 bt662.1 bt662.2.1 bt662.2.2.1 bt662.2.2.2))))))))))))))) = some r := h
 clear h
 by_cases c5 : (l1.length : Int) > 1048576
 · rw [if_pos c5] at H
   have c5b0 : decide (1048576 < (l1.length : Int)) = true := decide_eq_true c5
   have c5b1 : decide (1048576 < l1.length) = true := decide_eq_true (by omega)
   clear c5; obtain rfl := Option.some.inj H
   go_enter Try.func11, Try.ntmps11
   go_wp2_with (first | ((with_reducible refine gate_dst (N := 4) rfl ?_); refine box_event ?hg (N := 4) ?hd (cs := #[.int .i64 a0_0, .int .i64 a0_1, .slice A0_2 l0_2.length c0_2, .int .i64 a0_3]) (t := 31) ?hr ?_; (case hd => rfl); (case hg => rfl); (case hr => first | (go_simp; done) | (go_simp; rfl)); intro gb643 hg w6 hbox hb; have n0_ := Aside0.mk (below_step (nH HB.out) hb); have n1_ := Aside0.mk (hbox); have n2_ := Aside0.mk ((by rw [hg]; exact (below_size (nH HB.out)) : w.heap.size ≤ gb643)); have n3_ := Aside0.mk ((by rw [hg]; exact (below_size (nH HB.out)) : w.heap.size ≤ gb643)); clear HB; have HB := n0_; have BK643 := n1_; have GW643 := n2_; have GE643 := n3_; clear n0_ n1_ n2_ n3_; clear hb hbox hg))
   go_ret
   exact ⟨by first | rfl | (simp [errW_none, errW_some] <;> rfl) | (simp [*, errW_none, errW_some] <;> first | rfl | (simp [wrap64]; done)), nH1 HB.out GE643.out⟩
 · rw [if_neg c5] at H
   have c5b0 : decide (1048576 < (l1.length : Int)) = false := decide_eq_false c5
   have c5b1 : decide (1048576 < l1.length) = false := decide_eq_false (by omega)
   clear c5
   replace H := Option.bind_eq_some_iff.mp H
   obtain ⟨t644, A70, H⟩ := H
   replace H : (if t644 < 0 then (some true) else ((laws_szCardS.f l2 t644).bind fun t645 => (if t645 < 0 then (some true) else ((laws_toTariff.f k a0_0 a0_1 l0_2 a0_3).bind fun bt646 => ((laws_toIntS.f k l1).bind fun t652 => ((laws_toCardS.f k l2).bind fun t655 => ((spec_Split.f k bt646.1 bt646.2.1 bt646.2.2.1 bt646.2.2.2 t652 t655 a3).bind fun bt658 => ((laws_toTariff.f k a0_0 a0_1 l0_2 a0_3).bind fun bt662 => ((laws_toIntS.f k l1).bind fun t669 => ((laws_toCardS.f k l2).bind fun t672 => ((impl_Split.f k bt662.1 bt662.2.1 bt662.2.2.1 bt662.2.2.2 t669 t672 a3).bind fun bt675 => (if bt675.1 = bt658.1 then ((laws_eqIntS.f k bt675.2 bt658.2).bind fun t679 => (laws_FnExactSplit.j0 k l1 l2 a3 bt658.1 bt658.2 t669 t672 bt675.1 bt675.2 (!t679) a0_0 a0_1 l0_2 a0_3 bt662.1 bt662.2.1 bt662.2.2.1 bt662.2.2.2)) else (laws_FnExactSplit.j0 k l1 l2 a3 bt658.1 bt658.2 t669 t672 bt675.1 bt675.2 true a0_0 a0_1 l0_2 a0_3 bt662.1 bt662.2.1 bt662.2.2.1 bt662.2.2.2))))))))))))) = some r := H
   have A7 := Aside0.mk A70
   clear A70
   by_cases c8 : t644 < 0
   · rw [if_pos c8] at H
     have c8b0 : decide (t644 < 0) = true := decide_eq_true c8
     clear c8; obtain rfl := Option.some.inj H
     go_enter Try.func11, Try.ntmps11
     go_wp2_with (first | ((with_reducible refine gate_dst (N := 4) rfl ?_); refine box_event ?hg (N := 4) ?hd (cs := #[.int .i64 a0_0, .int .i64 a0_1, .slice A0_2 l0_2.length c0_2, .int .i64 a0_3]) (t := 31) ?hr ?_; (case hd => rfl); (case hg => rfl); (case hr => first | (go_simp; done) | (go_simp; rfl)); intro gb643 hg w9 hbox hb; have n0_ := Aside0.mk (below_step (nH HB.out) hb); have n1_ := Aside0.mk (hbox); have n2_ := Aside0.mk ((by rw [hg]; exact (below_size (nH HB.out)) : w.heap.size ≤ gb643)); have n3_ := Aside0.mk ((by rw [hg]; exact (below_size (nH HB.out)) : w.heap.size ≤ gb643)); clear HB; have HB := n0_; have BK643 := n1_; have GW643 := n2_; have GE643 := n3_; clear n0_ n1_ n2_ n3_; clear hb hbox hg; have hcz10_0 : w9.cell? ⟨gb643, 0, none⟩ = some (.int .i64 a0_0) := (blk_cell BK643.out 0).trans rfl; have hcz10_1 : w9.cell? ⟨gb643, 1, none⟩ = some (.int .i64 a0_1) := (blk_cell BK643.out 1).trans rfl; have hcz10_2 : w9.cell? ⟨gb643, 2, none⟩ = some (.slice A0_2 l0_2.length c0_2) := (blk_cell BK643.out 2).trans rfl; have hcz10_3 : w9.cell? ⟨gb643, 3, none⟩ = some (.int .i64 a0_3) := (blk_cell BK643.out 3).trans rfl; have hfz10_0 := blk_frozen BK643.out 0; have hfz10_1 := blk_frozen BK643.out 1; have hfz10_2 := blk_frozen BK643.out 2; have hfz10_3 := blk_frozen BK643.out 3) | ((with_reducible refine gate_callee (f := 17) rfl ?_); refine goesL_ (some 27) rfl rfl Try.func17 (by kernel_rfl) rfl #[.agg #[.int .i64 a0_0, .int .i64 a0_1, .slice A0_2 l0_2.length c0_2, .int .i64 a0_3], .int .i64 1048576] rfl nM ?_; (with_reducible refine (laws_szTariff.calls a0_0 a0_1 _ _ l0_2 a0_3 1048576 t644 _ ?side1 ?side2 A7.out).mono ?_); (case side1 => exact nD HR0_2.out HB.out); (case side2 => exact HC0_2.out); rintro e w11 ⟨rfl, hb⟩; refine ⟨_, rfl, ?_⟩; have n0_ := Aside0.mk (blk_below (g := gb643) (o := .cells #[.int .i64 a0_0, .int .i64 a0_1, .slice A0_2 l0_2.length c0_2, .int .i64 a0_3] 31 (0, 0)) (nB BK643.out) hb); have n1_ := Aside0.mk (below_step (nH1 HB.out GE643.out) hb); clear BK643; clear HB; have BK643 := n0_; have HB := n1_; clear n0_ n1_; (try clear hb); (try clear hb2); (try clear hk); (try clear hi)))
     go_ret
     exact ⟨by first | rfl | (simp [errW_none, errW_some] <;> rfl) | (simp [*, errW_none, errW_some] <;> first | rfl | (simp [wrap64]; done)), nH1 HB.out GE643.out⟩
   · rw [if_neg c8] at H
     have c8b0 : decide (t644 < 0) = false := decide_eq_false c8
     clear c8
     replace H := Option.bind_eq_some_iff.mp H
     obtain ⟨t645, A120, H⟩ := H
     replace H : (if t645 < 0 then (some true) else ((laws_toTariff.f k a0_0 a0_1 l0_2 a0_3).bind fun bt646 => ((laws_toIntS.f k l1).bind fun t652 => ((laws_toCardS.f k l2).bind fun t655 => ((spec_Split.f k bt646.1 bt646.2.1 bt646.2.2.1 bt646.2.2.2 t652 t655 a3).bind fun bt658 => ((laws_toTariff.f k a0_0 a0_1 l0_2 a0_3).bind fun bt662 => ((laws_toIntS.f k l1).bind fun t669 => ((laws_toCardS.f k l2).bind fun t672 => ((impl_Split.f k bt662.1 bt662.2.1 bt662.2.2.1 bt662.2.2.2 t669 t672 a3).bind fun bt675 => (if bt675.1 = bt658.1 then ((laws_eqIntS.f k bt675.2 bt658.2).bind fun t679 => (laws_FnExactSplit.j0 k l1 l2 a3 bt658.1 bt658.2 t669 t672 bt675.1 bt675.2 (!t679) a0_0 a0_1 l0_2 a0_3 bt662.1 bt662.2.1 bt662.2.2.1 bt662.2.2.2)) else (laws_FnExactSplit.j0 k l1 l2 a3 bt658.1 bt658.2 t669 t672 bt675.1 bt675.2 true a0_0 a0_1 l0_2 a0_3 bt662.1 bt662.2.1 bt662.2.2.1 bt662.2.2.2))))))))))) = some r := H
     have A12 := Aside0.mk A120
     clear A120
     by_cases c13 : t645 < 0
     · rw [if_pos c13] at H
       have c13b0 : decide (t645 < 0) = true := decide_eq_true c13
       clear c13; obtain rfl := Option.some.inj H
       go_enter Try.func11, Try.ntmps11
       go_wp2_with (first | ((with_reducible refine gate_dst (N := 4) rfl ?_); refine box_event ?hg (N := 4) ?hd (cs := #[.int .i64 a0_0, .int .i64 a0_1, .slice A0_2 l0_2.length c0_2, .int .i64 a0_3]) (t := 31) ?hr ?_; (case hd => rfl); (case hg => rfl); (case hr => first | (go_simp; done) | (go_simp; rfl)); intro gb643 hg w14 hbox hb; have n0_ := Aside0.mk (below_step (nH HB.out) hb); have n1_ := Aside0.mk (hbox); have n2_ := Aside0.mk ((by rw [hg]; exact (below_size (nH HB.out)) : w.heap.size ≤ gb643)); have n3_ := Aside0.mk ((by rw [hg]; exact (below_size (nH HB.out)) : w.heap.size ≤ gb643)); clear HB; have HB := n0_; have BK643 := n1_; have GW643 := n2_; have GE643 := n3_; clear n0_ n1_ n2_ n3_; clear hb hbox hg; have hcz15_0 : w14.cell? ⟨gb643, 0, none⟩ = some (.int .i64 a0_0) := (blk_cell BK643.out 0).trans rfl; have hcz15_1 : w14.cell? ⟨gb643, 1, none⟩ = some (.int .i64 a0_1) := (blk_cell BK643.out 1).trans rfl; have hcz15_2 : w14.cell? ⟨gb643, 2, none⟩ = some (.slice A0_2 l0_2.length c0_2) := (blk_cell BK643.out 2).trans rfl; have hcz15_3 : w14.cell? ⟨gb643, 3, none⟩ = some (.int .i64 a0_3) := (blk_cell BK643.out 3).trans rfl; have hfz15_0 := blk_frozen BK643.out 0; have hfz15_1 := blk_frozen BK643.out 1; have hfz15_2 := blk_frozen BK643.out 2; have hfz15_3 := blk_frozen BK643.out 3) | ((with_reducible refine gate_callee (f := 17) rfl ?_); refine goesL_ (some 27) rfl rfl Try.func17 (by kernel_rfl) rfl #[.agg #[.int .i64 a0_0, .int .i64 a0_1, .slice A0_2 l0_2.length c0_2, .int .i64 a0_3], .int .i64 1048576] rfl nM ?_; (with_reducible refine (laws_szTariff.calls a0_0 a0_1 _ _ l0_2 a0_3 1048576 t644 _ ?side1 ?side2 A7.out).mono ?_); (case side1 => exact nD HR0_2.out HB.out); (case side2 => exact HC0_2.out); rintro e w16 ⟨rfl, hb⟩; refine ⟨_, rfl, ?_⟩; have n0_ := Aside0.mk (blk_below (g := gb643) (o := .cells #[.int .i64 a0_0, .int .i64 a0_1, .slice A0_2 l0_2.length c0_2, .int .i64 a0_3] 31 (0, 0)) (nB BK643.out) hb); have n1_ := Aside0.mk (below_step (nH1 HB.out GE643.out) hb); clear BK643; clear HB; have BK643 := n0_; have HB := n1_; clear n0_ n1_; (try clear hb); (try clear hb2); (try clear hk); (try clear hi)) | ((with_reducible refine gate_callee (f := 12) rfl ?_); refine goesL_ (some 32) rfl rfl Try.func12 (by kernel_rfl) rfl #[.slice A2 l2.length c2, .int .i64 t644] rfl nM ?_; (with_reducible refine (laws_szCardS.calls _ _ l2 t644 t645 _ ?side1 ?side2 A12.out).mono ?_); (case side1 => exact nD HR2.out HB.out); (case side2 => exact HC2.out); rintro e w' ⟨rfl, ⟨nd, rfl⟩⟩; refine ⟨_, rfl, ?_⟩))
       go_ret
       exact ⟨by first | rfl | (simp [errW_none, errW_some] <;> rfl) | (simp [*, errW_none, errW_some] <;> first | rfl | (simp [wrap64]; done)), nH1 HB.out GE643.out⟩
     · rw [if_neg c13] at H
       have c13b0 : decide (t645 < 0) = false := decide_eq_false c13
       clear c13
       replace H := Option.bind_eq_some_iff.mp H
       obtain ⟨⟨t646, t647, t648, t651⟩, A170, H⟩ := H
       replace H : ((laws_toIntS.f k l1).bind fun t652 => ((laws_toCardS.f k l2).bind fun t655 => ((spec_Split.f k t646 t647 t648 t651 t652 t655 a3).bind fun bt658 => ((laws_toTariff.f k a0_0 a0_1 l0_2 a0_3).bind fun bt662 => ((laws_toIntS.f k l1).bind fun t669 => ((laws_toCardS.f k l2).bind fun t672 => ((impl_Split.f k bt662.1 bt662.2.1 bt662.2.2.1 bt662.2.2.2 t669 t672 a3).bind fun bt675 => (if bt675.1 = bt658.1 then ((laws_eqIntS.f k bt675.2 bt658.2).bind fun t679 => (laws_FnExactSplit.j0 k l1 l2 a3 bt658.1 bt658.2 t669 t672 bt675.1 bt675.2 (!t679) a0_0 a0_1 l0_2 a0_3 bt662.1 bt662.2.1 bt662.2.2.1 bt662.2.2.2)) else (laws_FnExactSplit.j0 k l1 l2 a3 bt658.1 bt658.2 t669 t672 bt675.1 bt675.2 true a0_0 a0_1 l0_2 a0_3 bt662.1 bt662.2.1 bt662.2.2.1 bt662.2.2.2))))))))) = some r := H
       have A17 := Aside0.mk A170
       clear A170
       replace H := Option.bind_eq_some_iff.mp H
       obtain ⟨t652, A180, H⟩ := H
       replace H : ((laws_toCardS.f k l2).bind fun t655 => ((spec_Split.f k t646 t647 t648 t651 t652 t655 a3).bind fun bt658 => ((laws_toTariff.f k a0_0 a0_1 l0_2 a0_3).bind fun bt662 => ((laws_toIntS.f k l1).bind fun t669 => ((laws_toCardS.f k l2).bind fun t672 => ((impl_Split.f k bt662.1 bt662.2.1 bt662.2.2.1 bt662.2.2.2 t669 t672 a3).bind fun bt675 => (if bt675.1 = bt658.1 then ((laws_eqIntS.f k bt675.2 bt658.2).bind fun t679 => (laws_FnExactSplit.j0 k l1 l2 a3 bt658.1 bt658.2 t669 t672 bt675.1 bt675.2 (!t679) a0_0 a0_1 l0_2 a0_3 bt662.1 bt662.2.1 bt662.2.2.1 bt662.2.2.2)) else (laws_FnExactSplit.j0 k l1 l2 a3 bt658.1 bt658.2 t669 t672 bt675.1 bt675.2 true a0_0 a0_1 l0_2 a0_3 bt662.1 bt662.2.1 bt662.2.2.1 bt662.2.2.2)))))))) = some r := H
       have A18 := Aside0.mk A180
       clear A180
       replace H := Option.bind_eq_some_iff.mp H
       obtain ⟨t655, A190, H⟩ := H
       replace H : ((spec_Split.f k t646 t647 t648 t651 t652 t655 a3).bind fun bt658 => ((laws_toTariff.f k a0_0 a0_1 l0_2 a0_3).bind fun bt662 => ((laws_toIntS.f k l1).bind fun t669 => ((laws_toCardS.f k l2).bind fun t672 => ((impl_Split.f k bt662.1 bt662.2.1 bt662.2.2.1 bt662.2.2.2 t669 t672 a3).bind fun bt675 => (if bt675.1 = bt658.1 then ((laws_eqIntS.f k bt675.2 bt658.2).bind fun t679 => (laws_FnExactSplit.j0 k l1 l2 a3 bt658.1 bt658.2 t669 t672 bt675.1 bt675.2 (!t679) a0_0 a0_1 l0_2 a0_3 bt662.1 bt662.2.1 bt662.2.2.1 bt662.2.2.2)) else (laws_FnExactSplit.j0 k l1 l2 a3 bt658.1 bt658.2 t669 t672 bt675.1 bt675.2 true a0_0 a0_1 l0_2 a0_3 bt662.1 bt662.2.1 bt662.2.2.1 bt662.2.2.2))))))) = some r := H
       have A19 := Aside0.mk A190
       clear A190
       replace H := Option.bind_eq_some_iff.mp H
       obtain ⟨⟨t658, t659⟩, A200, H⟩ := H
       replace H : ((laws_toTariff.f k a0_0 a0_1 l0_2 a0_3).bind fun bt662 => ((laws_toIntS.f k l1).bind fun t669 => ((laws_toCardS.f k l2).bind fun t672 => ((impl_Split.f k bt662.1 bt662.2.1 bt662.2.2.1 bt662.2.2.2 t669 t672 a3).bind fun bt675 => (if bt675.1 = t658 then ((laws_eqIntS.f k bt675.2 t659).bind fun t679 => (laws_FnExactSplit.j0 k l1 l2 a3 t658 t659 t669 t672 bt675.1 bt675.2 (!t679) a0_0 a0_1 l0_2 a0_3 bt662.1 bt662.2.1 bt662.2.2.1 bt662.2.2.2)) else (laws_FnExactSplit.j0 k l1 l2 a3 t658 t659 t669 t672 bt675.1 bt675.2 true a0_0 a0_1 l0_2 a0_3 bt662.1 bt662.2.1 bt662.2.2.1 bt662.2.2.2)))))) = some r := H
       have A20 := Aside0.mk A200
       clear A200
       replace H := Option.bind_eq_some_iff.mp H
       obtain ⟨⟨t662, t663, t664, t667⟩, A210, H⟩ := H
       replace H : ((laws_toIntS.f k l1).bind fun t669 => ((laws_toCardS.f k l2).bind fun t672 => ((impl_Split.f k t662 t663 t664 t667 t669 t672 a3).bind fun bt675 => (if bt675.1 = t658 then ((laws_eqIntS.f k bt675.2 t659).bind fun t679 => (laws_FnExactSplit.j0 k l1 l2 a3 t658 t659 t669 t672 bt675.1 bt675.2 (!t679) a0_0 a0_1 l0_2 a0_3 t662 t663 t664 t667)) else (laws_FnExactSplit.j0 k l1 l2 a3 t658 t659 t669 t672 bt675.1 bt675.2 true a0_0 a0_1 l0_2 a0_3 t662 t663 t664 t667))))) = some r := H
       have A21 := Aside0.mk A210
       clear A210
       replace H := Option.bind_eq_some_iff.mp H
       obtain ⟨t669, A220, H⟩ := H
       replace H : ((laws_toCardS.f k l2).bind fun t672 => ((impl_Split.f k t662 t663 t664 t667 t669 t672 a3).bind fun bt675 => (if bt675.1 = t658 then ((laws_eqIntS.f k bt675.2 t659).bind fun t679 => (laws_FnExactSplit.j0 k l1 l2 a3 t658 t659 t669 t672 bt675.1 bt675.2 (!t679) a0_0 a0_1 l0_2 a0_3 t662 t663 t664 t667)) else (laws_FnExactSplit.j0 k l1 l2 a3 t658 t659 t669 t672 bt675.1 bt675.2 true a0_0 a0_1 l0_2 a0_3 t662 t663 t664 t667)))) = some r := H
       have A22 := Aside0.mk A220
       clear A220
       replace H := Option.bind_eq_some_iff.mp H
       obtain ⟨t672, A230, H⟩ := H
       replace H : ((impl_Split.f k t662 t663 t664 t667 t669 t672 a3).bind fun bt675 => (if bt675.1 = t658 then ((laws_eqIntS.f k bt675.2 t659).bind fun t679 => (laws_FnExactSplit.j0 k l1 l2 a3 t658 t659 t669 t672 bt675.1 bt675.2 (!t679) a0_0 a0_1 l0_2 a0_3 t662 t663 t664 t667)) else (laws_FnExactSplit.j0 k l1 l2 a3 t658 t659 t669 t672 bt675.1 bt675.2 true a0_0 a0_1 l0_2 a0_3 t662 t663 t664 t667))) = some r := H
       have A23 := Aside0.mk A230
       clear A230
       replace H := Option.bind_eq_some_iff.mp H
       obtain ⟨⟨t675, t676⟩, A240, H⟩ := H
       replace H : (if t675 = t658 then ((laws_eqIntS.f k t676 t659).bind fun t679 => (laws_FnExactSplit.j0 k l1 l2 a3 t658 t659 t669 t672 t675 t676 (!t679) a0_0 a0_1 l0_2 a0_3 t662 t663 t664 t667)) else (laws_FnExactSplit.j0 k l1 l2 a3 t658 t659 t669 t672 t675 t676 true a0_0 a0_1 l0_2 a0_3 t662 t663 t664 t667)) = some r := H
       have A24 := Aside0.mk A240
       clear A240
       have HC25 := Aside0.mk H
       clear H
       go_enter Try.func11, Try.ntmps11
       go_upto_region 15 with (first | ((with_reducible refine gate_dst (N := 4) rfl ?_); refine box_event ?hg (N := 4) ?hd (cs := #[.int .i64 a0_0, .int .i64 a0_1, .slice A0_2 l0_2.length c0_2, .int .i64 a0_3]) (t := 31) ?hr ?_; (case hd => rfl); (case hg => rfl); (case hr => first | (go_simp; done) | (go_simp; rfl)); intro gb643 hg w26 hbox hb; have n0_ := Aside0.mk (below_step (nH HB.out) hb); have n1_ := Aside0.mk (hbox); have n2_ := Aside0.mk ((by rw [hg]; exact (below_size (nH HB.out)) : w.heap.size ≤ gb643)); have n3_ := Aside0.mk ((by rw [hg]; exact (below_size (nH HB.out)) : w.heap.size ≤ gb643)); clear HB; have HB := n0_; have BK643 := n1_; have GW643 := n2_; have GE643 := n3_; clear n0_ n1_ n2_ n3_; clear hb hbox hg; have hcz27_0 : w26.cell? ⟨gb643, 0, none⟩ = some (.int .i64 a0_0) := (blk_cell BK643.out 0).trans rfl; have hcz27_1 : w26.cell? ⟨gb643, 1, none⟩ = some (.int .i64 a0_1) := (blk_cell BK643.out 1).trans rfl; have hcz27_2 : w26.cell? ⟨gb643, 2, none⟩ = some (.slice A0_2 l0_2.length c0_2) := (blk_cell BK643.out 2).trans rfl; have hcz27_3 : w26.cell? ⟨gb643, 3, none⟩ = some (.int .i64 a0_3) := (blk_cell BK643.out 3).trans rfl; have hfz27_0 := blk_frozen BK643.out 0; have hfz27_1 := blk_frozen BK643.out 1; have hfz27_2 := blk_frozen BK643.out 2; have hfz27_3 := blk_frozen BK643.out 3) | ((with_reducible refine gate_callee (f := 17) rfl ?_); refine goesL_ (some 27) rfl rfl Try.func17 (by kernel_rfl) rfl #[.agg #[.int .i64 a0_0, .int .i64 a0_1, .slice A0_2 l0_2.length c0_2, .int .i64 a0_3], .int .i64 1048576] rfl nM ?_; (with_reducible refine (laws_szTariff.calls a0_0 a0_1 _ _ l0_2 a0_3 1048576 t644 _ ?side1 ?side2 A7.out).mono ?_); (case side1 => exact nD HR0_2.out HB.out); (case side2 => exact HC0_2.out); rintro e w28 ⟨rfl, hb⟩; refine ⟨_, rfl, ?_⟩; have n0_ := Aside0.mk (blk_below (g := gb643) (o := .cells #[.int .i64 a0_0, .int .i64 a0_1, .slice A0_2 l0_2.length c0_2, .int .i64 a0_3] 31 (0, 0)) (nB BK643.out) hb); have n1_ := Aside0.mk (below_step (nH1 HB.out GE643.out) hb); clear BK643; clear HB; have BK643 := n0_; have HB := n1_; clear n0_ n1_; (try clear hb); (try clear hb2); (try clear hk); (try clear hi)) | ((with_reducible refine gate_callee (f := 12) rfl ?_); refine goesL_ (some 32) rfl rfl Try.func12 (by kernel_rfl) rfl #[.slice A2 l2.length c2, .int .i64 t644] rfl nM ?_; (with_reducible refine (laws_szCardS.calls _ _ l2 t644 t645 _ ?side1 ?side2 A12.out).mono ?_); (case side1 => exact nD HR2.out HB.out); (case side2 => exact HC2.out); rintro e w' ⟨rfl, ⟨nd, rfl⟩⟩; refine ⟨_, rfl, ?_⟩; (try (rw [drewN_self w28]; generalize hq_ : World.drewN w28 _ = w28; have n0_ : Aside0 (w28.heap[gb643]? = some (.cells #[.int .i64 a0_0, .int .i64 a0_1, .slice A0_2 l0_2.length c0_2, .int .i64 a0_3] 31 (0, 0))) := ⟨by rw [← hq_]; exact (nB BK643.out)⟩; have n1_ : Aside0 (Below w.heap.size w w28) := ⟨by rw [← hq_]; exact (nH1 HB.out GE643.out)⟩; clear BK643 HB hq_; have BK643 := n0_; have HB := n1_; clear n0_ n1_)); have hcz29_0 : w28.cell? ⟨gb643, 0, none⟩ = some (.int .i64 a0_0) := (blk_cell BK643.out 0).trans rfl; have hcz29_1 : w28.cell? ⟨gb643, 1, none⟩ = some (.int .i64 a0_1) := (blk_cell BK643.out 1).trans rfl; have hcz29_2 : w28.cell? ⟨gb643, 2, none⟩ = some (.slice A0_2 l0_2.length c0_2) := (blk_cell BK643.out 2).trans rfl; have hcz29_3 : w28.cell? ⟨gb643, 3, none⟩ = some (.int .i64 a0_3) := (blk_cell BK643.out 3).trans rfl; have hfz29_0 := blk_frozen BK643.out 0; have hfz29_1 := blk_frozen BK643.out 1; have hfz29_2 := blk_frozen BK643.out 2; have hfz29_3 := blk_frozen BK643.out 3) | ((with_reducible refine gate_callee (f := 19) rfl ?_); refine goesL_ (some 37) rfl rfl Try.func19 (by kernel_rfl) rfl #[.agg #[.int .i64 a0_0, .int .i64 a0_1, .slice A0_2 l0_2.length c0_2, .int .i64 a0_3]] rfl nM ?_; (with_reducible refine (laws_toTariff.calls k a0_0 a0_1 _ _ l0_2 a0_3 t646 t647 t648 t651 _ ?side1 ?side2 A17.out).mono ?_); (case side1 => exact nD HR0_2.out HB.out); (case side2 => exact HC0_2.out); rintro e w30 ⟨v649, rfl, ho0, hb⟩; refine ⟨_, rfl, ?_⟩; have n0_ := Aside0.mk (Kd.R_lower ho0 (below_size (nH1 HB.out GE643.out))); have n1_ := Aside0.mk (blk_below (g := gb643) (o := .cells #[.int .i64 a0_0, .int .i64 a0_1, .slice A0_2 l0_2.length c0_2, .int .i64 a0_3] 31 (0, 0)) (nB BK643.out) hb); have n2_ := Aside0.mk (below_step (nH1 HB.out GE643.out) hb); clear BK643; clear HB; have HO650 := n0_; have BK643 := n1_; have HB := n2_; clear n0_ n1_ n2_; (try clear hb); (try clear hb2); (try clear hk); (try clear hi); (try clear ho0)) | ((with_reducible refine gate_callee (f := 32) rfl ?_); refine goesL_ (some 39) rfl rfl Try.func32 (by kernel_rfl) rfl #[.slice A1 l1.length c1] rfl nM ?_; (with_reducible refine (laws_toIntS.calls k _ _ l1 t652 _ ?side1 ?side2 A18.out).mono ?_); (case side1 => exact nD HR1.out HB.out); (case side2 => exact HC1.out); rintro e w31 ⟨v653, rfl, ho0, hb⟩; refine ⟨_, rfl, ?_⟩; have n0_ := Aside0.mk (Kd.R_elder' (nR HO650.out) (Kd.R_base ho0) hb); have n1_ := Aside0.mk (Kd.R_lower (Kd.R_new' ho0 (Kd.R_lt (nR HO650.out))) (below_size (nH1 HB.out GE643.out))); have n2_ := Aside0.mk (blk_below (g := gb643) (o := .cells #[.int .i64 a0_0, .int .i64 a0_1, .slice A0_2 l0_2.length c0_2, .int .i64 a0_3] 31 (0, 0)) (nB BK643.out) hb); have n3_ := Aside0.mk (below_step (nH1 HB.out GE643.out) hb); clear HO650; clear BK643; clear HB; have HO650 := n0_; have HO654 := n1_; have BK643 := n2_; have HB := n3_; clear n0_ n1_ n2_ n3_; (try clear hb); (try clear hb2); (try clear hk); (try clear hi); (try clear ho0)) | ((with_reducible refine gate_callee (f := 14) rfl ?_); refine goesL_ (some 41) rfl rfl Try.func14 (by kernel_rfl) rfl #[.slice A2 l2.length c2] rfl nM ?_; (with_reducible refine (laws_toCardS.calls k _ _ l2 t655 _ ?side1 ?side2 A19.out).mono ?_); (case side1 => exact nD HR2.out HB.out); (case side2 => exact HC2.out); rintro e w32 ⟨v656, rfl, ho0, hb⟩; refine ⟨_, rfl, ?_⟩; have n0_ := Aside0.mk (Kd.R_below (nR HO650.out) hb); have n1_ := Aside0.mk (Kd.R_below (nR HO654.out) hb); have n2_ := Aside0.mk (Kd.R_lower ho0 (below_size (nH1 HB.out GE643.out))); have n3_ := Aside0.mk (blk_below (g := gb643) (o := .cells #[.int .i64 a0_0, .int .i64 a0_1, .slice A0_2 l0_2.length c0_2, .int .i64 a0_3] 31 (0, 0)) (nB BK643.out) hb); have n4_ := Aside0.mk (below_step (nH1 HB.out GE643.out) hb); clear HO650; clear HO654; clear BK643; clear HB; have HO650 := n0_; have HO654 := n1_; have HO657 := n2_; have BK643 := n3_; have HB := n4_; clear n0_ n1_ n2_ n3_ n4_; (try clear hb); (try clear hb2); (try clear hk); (try clear hi); (try clear ho0); obtain ⟨Ao33, co33, eo33⟩ := Kd.R_slice HO650.out; subst eo33; obtain ⟨Ao34, co34, eo34⟩ := Kd.R_slice HO654.out; subst eo34; obtain ⟨Ao35, co35, eo35⟩ := Kd.R_slice HO657.out; subst eo35) | ((with_reducible refine gate_callee (f := 36) rfl ?_); refine goesL_ (some 43) rfl rfl Try.func36 (by kernel_rfl) rfl #[.agg #[.int .i64 t646, .int .i64 t647, .slice Ao33 t648.length co33, .int .i64 t651], .slice Ao34 t652.length co34, .slice Ao35 t655.length co35, .int .i64 a3] rfl nM ?_; (with_reducible refine (spec_Split.calls k t646 t647 _ _ t648 t651 _ _ t652 _ _ t655 a3 t658 t659 _ ?side1 ?side2 ?side3 ?side4 ?side5 ?side6 A20.out).mono ?_); (case side1 => repeat (first | exact (Kd.R_reads' HO650.out).2.2 | (with_reducible refine Kd.C_alloc ?_ _) | (with_reducible refine Kd.C_drewN ?_ _) | (with_reducible refine Kd.C_drew ?_))); (case side2 => exact (Kd.R_reads' HO650.out).2.1); (case side3 => repeat (first | exact (Kd.R_reads' HO654.out).2.2 | (with_reducible refine Kd.C_alloc ?_ _) | (with_reducible refine Kd.C_drewN ?_ _) | (with_reducible refine Kd.C_drew ?_))); (case side4 => exact (Kd.R_reads' HO654.out).2.1); (case side5 => repeat (first | exact (Kd.R_reads' HO657.out).2.2 | (with_reducible refine Kd.C_alloc ?_ _) | (with_reducible refine Kd.C_drewN ?_ _) | (with_reducible refine Kd.C_drew ?_))); (case side6 => exact (Kd.R_reads' HO657.out).2.1); rintro e w36 ⟨v660, rfl, ho0, hb⟩; refine ⟨_, rfl, ?_⟩; have n0_ := Aside0.mk (Kd.R_elder' (nR HO650.out) (Kd.R_base ho0) hb); have n1_ := Aside0.mk (Kd.R_elder' (nR HO654.out) (Kd.R_base ho0) hb); have n2_ := Aside0.mk (Kd.R_below (nR HO657.out) hb); have n3_ := Aside0.mk (Kd.R_lower (Kd.R_new' (Kd.R_new' ho0 (Kd.R_lt (nR HO650.out))) (Kd.R_lt (nR HO654.out))) (below_size (nH1 HB.out GE643.out))); have n4_ := Aside0.mk (blk_below (g := gb643) (o := .cells #[.int .i64 a0_0, .int .i64 a0_1, .slice A0_2 l0_2.length c0_2, .int .i64 a0_3] 31 (0, 0)) (nB BK643.out) hb); have n5_ := Aside0.mk (below_step (nH1 HB.out GE643.out) hb); clear HO650; clear HO654; clear HO657; clear BK643; clear HB; have HO650 := n0_; have HO654 := n1_; have HO657 := n2_; have HO661 := n3_; have BK643 := n4_; have HB := n5_; clear n0_ n1_ n2_ n3_ n4_ n5_; (try clear hb); (try clear hb2); (try clear hk); (try clear hi); (try clear ho0); have hcz37_0 : w36.cell? ⟨gb643, 0, none⟩ = some (.int .i64 a0_0) := (blk_cell BK643.out 0).trans rfl; have hcz37_1 : w36.cell? ⟨gb643, 1, none⟩ = some (.int .i64 a0_1) := (blk_cell BK643.out 1).trans rfl; have hcz37_2 : w36.cell? ⟨gb643, 2, none⟩ = some (.slice A0_2 l0_2.length c0_2) := (blk_cell BK643.out 2).trans rfl; have hcz37_3 : w36.cell? ⟨gb643, 3, none⟩ = some (.int .i64 a0_3) := (blk_cell BK643.out 3).trans rfl; have hfz37_0 := blk_frozen BK643.out 0; have hfz37_1 := blk_frozen BK643.out 1; have hfz37_2 := blk_frozen BK643.out 2; have hfz37_3 := blk_frozen BK643.out 3) | ((with_reducible refine gate_callee (f := 19) rfl ?_); refine goesL_ (some 47) rfl rfl Try.func19 (by kernel_rfl) rfl #[.agg #[.int .i64 a0_0, .int .i64 a0_1, .slice A0_2 l0_2.length c0_2, .int .i64 a0_3]] rfl nM ?_; (with_reducible refine (laws_toTariff.calls k a0_0 a0_1 _ _ l0_2 a0_3 t662 t663 t664 t667 _ ?side1 ?side2 A21.out).mono ?_); (case side1 => exact nD HR0_2.out HB.out); (case side2 => exact HC0_2.out); rintro e w38 ⟨v665, rfl, ho0, hb⟩; refine ⟨_, rfl, ?_⟩; have n0_ := Aside0.mk (Kd.R_elder' (nR HO650.out) (Kd.R_base ho0) hb); have n1_ := Aside0.mk (Kd.R_elder' (nR HO654.out) (Kd.R_base ho0) hb); have n2_ := Aside0.mk (Kd.R_below (nR HO657.out) hb); have n3_ := Aside0.mk (Kd.R_elder' (nR HO661.out) (Kd.R_base ho0) hb); have n4_ := Aside0.mk (Kd.R_lower (Kd.R_new' (Kd.R_new' (Kd.R_new' ho0 (Kd.R_lt (nR HO650.out))) (Kd.R_lt (nR HO654.out))) (Kd.R_lt (nR HO661.out))) (below_size (nH1 HB.out GE643.out))); have n5_ := Aside0.mk (blk_below (g := gb643) (o := .cells #[.int .i64 a0_0, .int .i64 a0_1, .slice A0_2 l0_2.length c0_2, .int .i64 a0_3] 31 (0, 0)) (nB BK643.out) hb); have n6_ := Aside0.mk (below_step (nH1 HB.out GE643.out) hb); clear HO650; clear HO654; clear HO657; clear HO661; clear BK643; clear HB; have HO650 := n0_; have HO654 := n1_; have HO657 := n2_; have HO661 := n3_; have HO666 := n4_; have BK643 := n5_; have HB := n6_; clear n0_ n1_ n2_ n3_ n4_ n5_ n6_; (try clear hb); (try clear hb2); (try clear hk); (try clear hi); (try clear ho0)) | ((with_reducible refine gate_dst (N := 12) rfl ?_); refine box_event ?hg (N := 12) ?hd (cs := #[.int .i64 0, .int .i64 0, .slice none 0 0, .int .i64 0]) (t := 34) ?hr ?_; (case hd => rfl); (case hg => rfl); (case hr => first | (go_simp; done) | (go_simp; rfl)); intro gb668 hg w39 hbox hb; have n0_ := Aside0.mk (Kd.R_below (nR HO650.out) hb); have n1_ := Aside0.mk (Kd.R_below (nR HO654.out) hb); have n2_ := Aside0.mk (Kd.R_below (nR HO657.out) hb); have n3_ := Aside0.mk (Kd.R_below (nR HO661.out) hb); have n4_ := Aside0.mk (Kd.R_below (nR HO666.out) hb); have n5_ := Aside0.mk (blk_below (g := gb643) (o := .cells #[.int .i64 a0_0, .int .i64 a0_1, .slice A0_2 l0_2.length c0_2, .int .i64 a0_3] 31 (0, 0)) (nB BK643.out) hb); have n6_ := Aside0.mk (below_step (nH1 HB.out GE643.out) hb); have n7_ := Aside0.mk (hbox); have n8_ := Aside0.mk ((by rw [hg]; exact (below_size (nH1 HB.out GE643.out)) : w.heap.size ≤ gb668)); have n9_ := Aside0.mk ((by rw [hg]; exact (below_size (nH1 HB.out GE643.out)) : w.heap.size ≤ gb668)); have n10_ := Aside0.mk ((by rw [hg]; exact Nat.ne_of_lt (blk_lt (g := gb643) (o := .cells #[.int .i64 a0_0, .int .i64 a0_1, .slice A0_2 l0_2.length c0_2, .int .i64 a0_3] 31 (0, 0)) (nB BK643.out)) : gb643 ≠ gb668)); have n11_ := Aside0.mk ((by rw [hg]; exact Nat.ne_of_gt (blk_lt (g := gb643) (o := .cells #[.int .i64 a0_0, .int .i64 a0_1, .slice A0_2 l0_2.length c0_2, .int .i64 a0_3] 31 (0, 0)) (nB BK643.out)) : gb668 ≠ gb643)); clear HO650; clear HO654; clear HO657; clear HO661; clear HO666; clear BK643; clear HB; have HO650 := n0_; have HO654 := n1_; have HO657 := n2_; have HO661 := n3_; have HO666 := n4_; have BK643 := n5_; have HB := n6_; have BK668 := n7_; have GW668 := n8_; have GE668 := n9_; have NB643_668 := n10_; have NB668_643 := n11_; clear n0_ n1_ n2_ n3_ n4_ n5_ n6_ n7_ n8_ n9_ n10_ n11_; clear hb hbox hg; have hnb40 := NB668_643.out; have hnc40 := NB643_668.out; have hcz41_0 : w39.cell? ⟨gb668, 0, none⟩ = some (.int .i64 0) := (blk_cell BK668.out 0).trans rfl; have hcz41_1 : w39.cell? ⟨gb668, 1, none⟩ = some (.int .i64 0) := (blk_cell BK668.out 1).trans rfl; have hcz41_2 : w39.cell? ⟨gb668, 2, none⟩ = some (.slice none 0 0) := (blk_cell BK668.out 2).trans rfl; have hcz41_3 : w39.cell? ⟨gb668, 3, none⟩ = some (.int .i64 0) := (blk_cell BK668.out 3).trans rfl; have hfz41_0 := blk_frozen BK668.out 0; have hfz41_1 := blk_frozen BK668.out 1; have hfz41_2 := blk_frozen BK668.out 2; have hfz41_3 := blk_frozen BK668.out 3; obtain ⟨Ao42, co42, eo42⟩ := Kd.R_slice HO666.out; subst eo42) | ((with_reducible refine gate_callee (f := 32) rfl ?_); refine goesL_ (some 49) rfl rfl Try.func32 (by kernel_rfl) rfl #[.slice A1 l1.length c1] rfl nM ?_; (with_reducible refine (laws_toIntS.calls k _ _ l1 t669 _ ?side1 ?side2 A22.out).mono ?_); (case side1 => exact Kd.C_below HR1.out (nH2 HB.out GE643.out GE668.out)); (case side2 => exact HC1.out); rintro e w43 ⟨v670, rfl, ho0, hb⟩; refine ⟨_, rfl, ?_⟩; have n0_ := Aside0.mk (Kd.R_elder' (by (with_reducible repeat (first | apply Kd.R_alloc | apply Kd.R_drewN | apply Kd.R_drew)); exact (Kd.R_mono (Kd.R_far (p := ⟨gb668, 3, none⟩) (Kd.R_far (p := ⟨gb668, 2, none⟩) (Kd.R_far (p := ⟨gb668, 1, none⟩) (Kd.R_far (p := ⟨gb668, 0, none⟩) (Kd.R_types HO650.out BK668.out (by decide)) (fun _ hk => hk.2) (.int .i64 t662)) (fun _ hk => hk.2) (.int .i64 t663)) (fun _ hk => hk.2) (.slice Ao42 t664.length co42)) (fun _ hk => hk.2) (.int .i64 t667)) (fun _ h_ => h_.1))) (Kd.R_base ho0) hb); have n1_ := Aside0.mk (Kd.R_elder' (by (with_reducible repeat (first | apply Kd.R_alloc | apply Kd.R_drewN | apply Kd.R_drew)); exact (Kd.R_mono (Kd.R_far (p := ⟨gb668, 3, none⟩) (Kd.R_far (p := ⟨gb668, 2, none⟩) (Kd.R_far (p := ⟨gb668, 1, none⟩) (Kd.R_far (p := ⟨gb668, 0, none⟩) (Kd.R_types HO654.out BK668.out (by decide)) (fun _ hk => hk.2) (.int .i64 t662)) (fun _ hk => hk.2) (.int .i64 t663)) (fun _ hk => hk.2) (.slice Ao42 t664.length co42)) (fun _ hk => hk.2) (.int .i64 t667)) (fun _ h_ => h_.1))) (Kd.R_base ho0) hb); have n2_ := Aside0.mk (Kd.R_below (by (with_reducible repeat (first | apply Kd.R_alloc | apply Kd.R_drewN | apply Kd.R_drew)); exact (Kd.R_mono (Kd.R_far (p := ⟨gb668, 3, none⟩) (Kd.R_far (p := ⟨gb668, 2, none⟩) (Kd.R_far (p := ⟨gb668, 1, none⟩) (Kd.R_far (p := ⟨gb668, 0, none⟩) (Kd.R_types HO657.out BK668.out (by decide)) (fun _ hk => hk.2) (.int .i64 t662)) (fun _ hk => hk.2) (.int .i64 t663)) (fun _ hk => hk.2) (.slice Ao42 t664.length co42)) (fun _ hk => hk.2) (.int .i64 t667)) (fun _ h_ => h_.1))) hb); have n3_ := Aside0.mk (Kd.R_elder' (by (with_reducible repeat (first | apply Kd.R_alloc | apply Kd.R_drewN | apply Kd.R_drew)); exact (Kd.R_mono (Kd.R_far (p := ⟨gb668, 3, none⟩) (Kd.R_far (p := ⟨gb668, 2, none⟩) (Kd.R_far (p := ⟨gb668, 1, none⟩) (Kd.R_far (p := ⟨gb668, 0, none⟩) (Kd.R_types HO661.out BK668.out (by decide)) (fun _ hk => hk.2) (.int .i64 t662)) (fun _ hk => hk.2) (.int .i64 t663)) (fun _ hk => hk.2) (.slice Ao42 t664.length co42)) (fun _ hk => hk.2) (.int .i64 t667)) (fun _ h_ => h_.1))) (Kd.R_base ho0) hb); have n4_ := Aside0.mk (Kd.R_elder' (by (with_reducible repeat (first | apply Kd.R_alloc | apply Kd.R_drewN | apply Kd.R_drew)); exact (Kd.R_mono (Kd.R_far (p := ⟨gb668, 3, none⟩) (Kd.R_far (p := ⟨gb668, 2, none⟩) (Kd.R_far (p := ⟨gb668, 1, none⟩) (Kd.R_far (p := ⟨gb668, 0, none⟩) (Kd.R_types HO666.out BK668.out (by decide)) (fun _ hk => hk.2) (.int .i64 t662)) (fun _ hk => hk.2) (.int .i64 t663)) (fun _ hk => hk.2) (.slice Ao42 t664.length co42)) (fun _ hk => hk.2) (.int .i64 t667)) (fun _ h_ => h_.1))) (Kd.R_base ho0) hb); have n5_ := Aside0.mk (Kd.R_lower (Kd.R_new' (Kd.R_new' (Kd.R_new' (Kd.R_new' ho0 (Kd.R_lt (by (with_reducible repeat (first | apply Kd.R_alloc | apply Kd.R_drewN | apply Kd.R_drew)); exact (Kd.R_mono (Kd.R_far (p := ⟨gb668, 3, none⟩) (Kd.R_far (p := ⟨gb668, 2, none⟩) (Kd.R_far (p := ⟨gb668, 1, none⟩) (Kd.R_far (p := ⟨gb668, 0, none⟩) (Kd.R_types HO650.out BK668.out (by decide)) (fun _ hk => hk.2) (.int .i64 t662)) (fun _ hk => hk.2) (.int .i64 t663)) (fun _ hk => hk.2) (.slice Ao42 t664.length co42)) (fun _ hk => hk.2) (.int .i64 t667)) (fun _ h_ => h_.1))))) (Kd.R_lt (by (with_reducible repeat (first | apply Kd.R_alloc | apply Kd.R_drewN | apply Kd.R_drew)); exact (Kd.R_mono (Kd.R_far (p := ⟨gb668, 3, none⟩) (Kd.R_far (p := ⟨gb668, 2, none⟩) (Kd.R_far (p := ⟨gb668, 1, none⟩) (Kd.R_far (p := ⟨gb668, 0, none⟩) (Kd.R_types HO654.out BK668.out (by decide)) (fun _ hk => hk.2) (.int .i64 t662)) (fun _ hk => hk.2) (.int .i64 t663)) (fun _ hk => hk.2) (.slice Ao42 t664.length co42)) (fun _ hk => hk.2) (.int .i64 t667)) (fun _ h_ => h_.1))))) (Kd.R_lt (by (with_reducible repeat (first | apply Kd.R_alloc | apply Kd.R_drewN | apply Kd.R_drew)); exact (Kd.R_mono (Kd.R_far (p := ⟨gb668, 3, none⟩) (Kd.R_far (p := ⟨gb668, 2, none⟩) (Kd.R_far (p := ⟨gb668, 1, none⟩) (Kd.R_far (p := ⟨gb668, 0, none⟩) (Kd.R_types HO661.out BK668.out (by decide)) (fun _ hk => hk.2) (.int .i64 t662)) (fun _ hk => hk.2) (.int .i64 t663)) (fun _ hk => hk.2) (.slice Ao42 t664.length co42)) (fun _ hk => hk.2) (.int .i64 t667)) (fun _ h_ => h_.1))))) (Kd.R_lt (by (with_reducible repeat (first | apply Kd.R_alloc | apply Kd.R_drewN | apply Kd.R_drew)); exact (Kd.R_mono (Kd.R_far (p := ⟨gb668, 3, none⟩) (Kd.R_far (p := ⟨gb668, 2, none⟩) (Kd.R_far (p := ⟨gb668, 1, none⟩) (Kd.R_far (p := ⟨gb668, 0, none⟩) (Kd.R_types HO666.out BK668.out (by decide)) (fun _ hk => hk.2) (.int .i64 t662)) (fun _ hk => hk.2) (.int .i64 t663)) (fun _ hk => hk.2) (.slice Ao42 t664.length co42)) (fun _ hk => hk.2) (.int .i64 t667)) (fun _ h_ => h_.1))))) (below_size (nH2 HB.out GE643.out GE668.out))); have n6_ := Aside0.mk (blk_below (g := gb643) (o := .cells #[.int .i64 a0_0, .int .i64 a0_1, .slice A0_2 l0_2.length c0_2, .int .i64 a0_3] 31 (0, 0)) (by (with_reducible repeat (first | refine blk_drewN ?_ _ | refine blk_drew ?_ | refine blk_alloc ?_ _)); refine blk_far ?_ NB643_668.out _; (with_reducible repeat (first | refine blk_drewN ?_ _ | refine blk_drew ?_ | refine blk_alloc ?_ _)); refine blk_far ?_ NB643_668.out _; (with_reducible repeat (first | refine blk_drewN ?_ _ | refine blk_drew ?_ | refine blk_alloc ?_ _)); refine blk_far ?_ NB643_668.out _; (with_reducible repeat (first | refine blk_drewN ?_ _ | refine blk_drew ?_ | refine blk_alloc ?_ _)); refine blk_far ?_ NB643_668.out _; exact nB BK643.out) hb); have n7_ := Aside0.mk (blk_below (g := gb668) (o := .cells #[.int .i64 t662, .int .i64 t663, .slice Ao42 t664.length co42, .int .i64 t667] 34 (0, 0)) (by (with_reducible repeat (first | refine blk_drewN ?_ _ | refine blk_drew ?_ | refine blk_alloc ?_ _)); refine blk_put (cs := #[.int .i64 t662, .int .i64 t663, .slice Ao42 t664.length co42, .int .i64 0]) ?_ 3 _ rfl; (with_reducible repeat (first | refine blk_drewN ?_ _ | refine blk_drew ?_ | refine blk_alloc ?_ _)); refine blk_put (cs := #[.int .i64 t662, .int .i64 t663, .slice none 0 0, .int .i64 0]) ?_ 2 _ rfl; (with_reducible repeat (first | refine blk_drewN ?_ _ | refine blk_drew ?_ | refine blk_alloc ?_ _)); refine blk_put (cs := #[.int .i64 t662, .int .i64 0, .slice none 0 0, .int .i64 0]) ?_ 1 _ rfl; (with_reducible repeat (first | refine blk_drewN ?_ _ | refine blk_drew ?_ | refine blk_alloc ?_ _)); refine blk_put (cs := #[.int .i64 0, .int .i64 0, .slice none 0 0, .int .i64 0]) ?_ 0 _ rfl; exact nB BK668.out) hb); have n8_ := Aside0.mk (below_step (nH2 HB.out GE643.out GE668.out) hb); clear HO650; clear HO654; clear HO657; clear HO661; clear HO666; clear BK643; clear BK668; clear HB; have HO650 := n0_; have HO654 := n1_; have HO657 := n2_; have HO661 := n3_; have HO666 := n4_; have HO671 := n5_; have BK643 := n6_; have BK668 := n7_; have HB := n8_; clear n0_ n1_ n2_ n3_ n4_ n5_ n6_ n7_ n8_; (try clear hb); (try clear hb2); (try clear hk); (try clear hi); (try clear ho0)) | ((with_reducible refine gate_callee (f := 14) rfl ?_); refine goesL_ (some 51) rfl rfl Try.func14 (by kernel_rfl) rfl #[.slice A2 l2.length c2] rfl nM ?_; (with_reducible refine (laws_toCardS.calls k _ _ l2 t672 _ ?side1 ?side2 A23.out).mono ?_); (case side1 => exact nD HR2.out HB.out); (case side2 => exact HC2.out); rintro e w44 ⟨v673, rfl, ho0, hb⟩; refine ⟨_, rfl, ?_⟩; have n0_ := Aside0.mk (Kd.R_below (nR HO650.out) hb); have n1_ := Aside0.mk (Kd.R_below (nR HO654.out) hb); have n2_ := Aside0.mk (Kd.R_elder' (nR HO657.out) (Kd.R_base ho0) hb); have n3_ := Aside0.mk (Kd.R_below (nR HO661.out) hb); have n4_ := Aside0.mk (Kd.R_below (nR HO666.out) hb); have n5_ := Aside0.mk (Kd.R_below (nR HO671.out) hb); have n6_ := Aside0.mk (Kd.R_lower (Kd.R_new' ho0 (Kd.R_lt (nR HO657.out))) (below_size (nH2 HB.out GE643.out GE668.out))); have n7_ := Aside0.mk (blk_below (g := gb643) (o := .cells #[.int .i64 a0_0, .int .i64 a0_1, .slice A0_2 l0_2.length c0_2, .int .i64 a0_3] 31 (0, 0)) (nB BK643.out) hb); have n8_ := Aside0.mk (blk_below (g := gb668) (o := .cells #[.int .i64 t662, .int .i64 t663, .slice Ao42 t664.length co42, .int .i64 t667] 34 (0, 0)) (nB BK668.out) hb); have n9_ := Aside0.mk (below_step (nH2 HB.out GE643.out GE668.out) hb); clear HO650; clear HO654; clear HO657; clear HO661; clear HO666; clear HO671; clear BK643; clear BK668; clear HB; have HO650 := n0_; have HO654 := n1_; have HO657 := n2_; have HO661 := n3_; have HO666 := n4_; have HO671 := n5_; have HO674 := n6_; have BK643 := n7_; have BK668 := n8_; have HB := n9_; clear n0_ n1_ n2_ n3_ n4_ n5_ n6_ n7_ n8_ n9_; (try clear hb); (try clear hb2); (try clear hk); (try clear hi); (try clear ho0); have hcz45_0 : w44.cell? ⟨gb668, 0, none⟩ = some (.int .i64 t662) := (blk_cell BK668.out 0).trans rfl; have hcz45_1 : w44.cell? ⟨gb668, 1, none⟩ = some (.int .i64 t663) := (blk_cell BK668.out 1).trans rfl; have hcz45_2 : w44.cell? ⟨gb668, 2, none⟩ = some (.slice Ao42 t664.length co42) := (blk_cell BK668.out 2).trans rfl; have hcz45_3 : w44.cell? ⟨gb668, 3, none⟩ = some (.int .i64 t667) := (blk_cell BK668.out 3).trans rfl; have hfz45_0 := blk_frozen BK668.out 0; have hfz45_1 := blk_frozen BK668.out 1; have hfz45_2 := blk_frozen BK668.out 2; have hfz45_3 := blk_frozen BK668.out 3; obtain ⟨Ao46, co46, eo46⟩ := Kd.R_slice HO671.out; subst eo46; obtain ⟨Ao47, co47, eo47⟩ := Kd.R_slice HO674.out; subst eo47) | ((with_reducible refine gate_callee (f := 35) rfl ?_); refine goesL_ (some 57) rfl rfl Try.func35 (by kernel_rfl) rfl #[.agg #[.int .i64 t662, .int .i64 t663, .slice Ao42 t664.length co42, .int .i64 t667], .slice Ao46 t669.length co46, .slice Ao47 t672.length co47, .int .i64 a3] rfl nM ?_; (with_reducible refine (impl_Split.calls k t662 t663 _ _ t664 t667 _ _ t669 _ _ t672 a3 t675 t676 _ ?side1 ?side2 ?side3 ?side4 ?side5 ?side6 A24.out).mono ?_); (case side1 => repeat (first | exact (Kd.R_reads' HO666.out).2.2 | (with_reducible refine Kd.C_alloc ?_ _) | (with_reducible refine Kd.C_drewN ?_ _) | (with_reducible refine Kd.C_drew ?_))); (case side2 => exact (Kd.R_reads' HO666.out).2.1); (case side3 => repeat (first | exact (Kd.R_reads' HO671.out).2.2 | (with_reducible refine Kd.C_alloc ?_ _) | (with_reducible refine Kd.C_drewN ?_ _) | (with_reducible refine Kd.C_drew ?_))); (case side4 => exact (Kd.R_reads' HO671.out).2.1); (case side5 => repeat (first | exact (Kd.R_reads' HO674.out).2.2 | (with_reducible refine Kd.C_alloc ?_ _) | (with_reducible refine Kd.C_drewN ?_ _) | (with_reducible refine Kd.C_drew ?_))); (case side6 => exact (Kd.R_reads' HO674.out).2.1); rintro e w48 ⟨v677, rfl, ho0, hb⟩; refine ⟨_, rfl, ?_⟩; have n0_ := Aside0.mk (Kd.R_elder' (nR HO650.out) (Kd.R_base ho0) hb); have n1_ := Aside0.mk (Kd.R_elder' (nR HO654.out) (Kd.R_base ho0) hb); have n2_ := Aside0.mk (Kd.R_below (nR HO657.out) hb); have n3_ := Aside0.mk (Kd.R_elder' (nR HO661.out) (Kd.R_base ho0) hb); have n4_ := Aside0.mk (Kd.R_elder' (nR HO666.out) (Kd.R_base ho0) hb); have n5_ := Aside0.mk (Kd.R_elder' (nR HO671.out) (Kd.R_base ho0) hb); have n6_ := Aside0.mk (Kd.R_below (nR HO674.out) hb); have n7_ := Aside0.mk (Kd.R_lower (Kd.R_new' (Kd.R_new' (Kd.R_new' (Kd.R_new' (Kd.R_new' ho0 (Kd.R_lt (nR HO650.out))) (Kd.R_lt (nR HO654.out))) (Kd.R_lt (nR HO661.out))) (Kd.R_lt (nR HO666.out))) (Kd.R_lt (nR HO671.out))) (below_size (nH2 HB.out GE643.out GE668.out))); have n8_ := Aside0.mk (blk_below (g := gb643) (o := .cells #[.int .i64 a0_0, .int .i64 a0_1, .slice A0_2 l0_2.length c0_2, .int .i64 a0_3] 31 (0, 0)) (nB BK643.out) hb); have n9_ := Aside0.mk (blk_below (g := gb668) (o := .cells #[.int .i64 t662, .int .i64 t663, .slice Ao42 t664.length co42, .int .i64 t667] 34 (0, 0)) (nB BK668.out) hb); have n10_ := Aside0.mk (below_step (nH2 HB.out GE643.out GE668.out) hb); clear HO650; clear HO654; clear HO657; clear HO661; clear HO666; clear HO671; clear HO674; clear BK643; clear BK668; clear HB; have HO650 := n0_; have HO654 := n1_; have HO657 := n2_; have HO661 := n3_; have HO666 := n4_; have HO671 := n5_; have HO674 := n6_; have HO678 := n7_; have BK643 := n8_; have BK668 := n9_; have HB := n10_; clear n0_ n1_ n2_ n3_ n4_ n5_ n6_ n7_ n8_ n9_ n10_; (try clear hb); (try clear hb2); (try clear hk); (try clear hi); (try clear ho0)))
       (try simp only [Act.put, List.setIfInBounds_toArray, List.set_cons_zero, List.set_cons_succ])
       go_cut [68] (fun v68 wc => ∃ (kq : Nat) (x68_24 : Bool), v68 = .bool x68_24 ∧ Aside0 (laws_FnExactSplit.j0 kq l1 l2 a3 t658 t659 t669 t672 t675 t676 x68_24 a0_0 a0_1 l0_2 a0_3 t662 t663 t664 t667 = some r) ∧ Aside0 (kq ≤ k) ∧ Aside0 (Kd.R (Kd.int .i64) 3 wc w.heap.size (fun k_ => some k_ ≠ ((.slice Ao46 t669.length co46) : Value).ownBlock ∧ some k_ ≠ (v677 : Value).ownBlock ∧ some k_ ≠ ((.slice Ao42 t664.length co42) : Value).ownBlock) v660 t659) ∧ Aside0 (Kd.R (Kd.int .i64) 3 wc w.heap.size (fun k_ => some k_ ≠ (v660 : Value).ownBlock ∧ some k_ ≠ (v677 : Value).ownBlock ∧ some k_ ≠ ((.slice Ao42 t664.length co42) : Value).ownBlock) (.slice Ao46 t669.length co46) t669) ∧ Aside0 (Kd.R k57 57 wc w.heap.size (fun _ => True) (.slice Ao47 t672.length co47) t672) ∧ Aside0 (Kd.R (Kd.int .i64) 3 wc w.heap.size (fun k_ => some k_ ≠ (v660 : Value).ownBlock ∧ some k_ ≠ ((.slice Ao46 t669.length co46) : Value).ownBlock ∧ some k_ ≠ ((.slice Ao42 t664.length co42) : Value).ownBlock) v677 t676) ∧ Aside0 (Kd.R (Kd.int .i64) 3 wc w.heap.size (fun k_ => some k_ ≠ (v660 : Value).ownBlock ∧ some k_ ≠ ((.slice Ao46 t669.length co46) : Value).ownBlock ∧ some k_ ≠ (v677 : Value).ownBlock) (.slice Ao42 t664.length co42) t664) ∧ Aside0 (wc.heap[gb643]? = some (.cells #[.int .i64 a0_0, .int .i64 a0_1, (.slice A0_2 l0_2.length c0_2), .int .i64 a0_3] 31 (0, 0))) ∧ Aside0 (wc.heap[gb668]? = some (.cells #[.int .i64 t662, .int .i64 t663, (.slice Ao42 t664.length co42), .int .i64 t667] 34 (0, 0))) ∧ Aside0 (Below w.heap.size w wc))
       case first =>
        have H := HC25.out; clear HC25
        by_cases c49 : t675 = t658
        · rw [if_pos c49] at H
          have c49b0 : (t675 == t658) = true := beq_iff_eq.mpr c49
          have c49b1 : (t675 != t658) = false := bne_eq_false_iff_eq.mpr c49
          clear c49
          (first | rw [c49b0] | (simp only [i64_w, i32_w]; rw [c49b0]) | skip)
          replace H := Option.bind_eq_some_iff.mp H
          obtain ⟨t679, A500, H⟩ := H
          replace H : (laws_FnExactSplit.j0 k l1 l2 a3 t658 t659 t669 t672 t675 t676 (!t679) a0_0 a0_1 l0_2 a0_3 t662 t663 t664 t667) = some r := H
          have A50 := Aside0.mk A500
          clear A500
          have H' := Aside0.mk H
          clear H
          obtain ⟨Ao51, co51, eo51⟩ := Kd.R_slice HO678.out
          subst eo51
          obtain ⟨Ao52, co52, eo52⟩ := Kd.R_slice HO661.out
          subst eo52
          go_wp2_with (first | (go_at_call 34; (with_reducible refine (laws_eqIntS.calls k _ _ t676 _ _ t659 t679 _ ?side1 ?side2 ?side3 ?side4 A50.out).mono ?_); (case side1 => repeat (first | exact (Kd.R_reads' HO678.out).2.2 | (with_reducible refine Kd.C_alloc ?_ _) | (with_reducible refine Kd.C_drewN ?_ _) | (with_reducible refine Kd.C_drew ?_))); (case side2 => exact (Kd.R_reads' HO678.out).2.1); (case side3 => repeat (first | exact (Kd.R_reads' HO661.out).2.2 | (with_reducible refine Kd.C_alloc ?_ _) | (with_reducible refine Kd.C_drewN ?_ _) | (with_reducible refine Kd.C_drew ?_))); (case side4 => exact (Kd.R_reads' HO661.out).2.1); rintro e w' ⟨rfl, ⟨nd, rfl⟩⟩))
          go_meet
          case rel => exact ⟨_, (!t679), nS, H', ⟨by first | omega | exact Nat.le_refl _⟩, ⟨by (with_reducible repeat (first | apply Kd.R_alloc | apply Kd.R_drewN | apply Kd.R_drew)); exact Kd.R_mono HO661.out (fun _ hk => ⟨hk.1.2, ⟨hk.2, hk.1.1.2⟩⟩)⟩, ⟨by (with_reducible repeat (first | apply Kd.R_alloc | apply Kd.R_drewN | apply Kd.R_drew)); exact Kd.R_mono HO671.out (fun _ hk => ⟨hk.1.1.2, ⟨hk.2, hk.1.2⟩⟩)⟩, ⟨by (with_reducible repeat (first | apply Kd.R_alloc | apply Kd.R_drewN | apply Kd.R_drew)); exact Kd.R_mono HO674.out (fun _ hk => trivial)⟩, ⟨by (with_reducible repeat (first | apply Kd.R_alloc | apply Kd.R_drewN | apply Kd.R_drew)); exact Kd.R_mono HO678.out (fun _ hk => ⟨hk.1.1.2, ⟨hk.2, hk.1.2⟩⟩)⟩, ⟨by (with_reducible repeat (first | apply Kd.R_alloc | apply Kd.R_drewN | apply Kd.R_drew)); exact Kd.R_mono HO666.out (fun _ hk => ⟨hk.1.1.2, ⟨hk.1.2, hk.2⟩⟩)⟩, ⟨by exact nB BK643.out⟩, ⟨by exact nB BK668.out⟩, ⟨nH2 HB.out GE643.out GE668.out⟩⟩
        · rw [if_neg c49] at H
          have c49b0 : (t675 == t658) = false := beq_eq_false_iff_ne.mpr c49
          have c49b1 : (t675 != t658) = true := bne_iff_ne.mpr c49
          (first | rw [c49b0] | (simp only [i64_w, i32_w]; rw [c49b0]) | skip)
          have H' := Aside0.mk H
          clear H; go_wp2
          go_meet
          case rel => exact ⟨_, (true), nS, H', ⟨by first | omega | exact Nat.le_refl _⟩, ⟨by (with_reducible repeat (first | apply Kd.R_alloc | apply Kd.R_drewN | apply Kd.R_drew)); exact Kd.R_mono HO661.out (fun _ hk => ⟨hk.1.2, ⟨hk.2, hk.1.1.2⟩⟩)⟩, ⟨by (with_reducible repeat (first | apply Kd.R_alloc | apply Kd.R_drewN | apply Kd.R_drew)); exact Kd.R_mono HO671.out (fun _ hk => ⟨hk.1.1.2, ⟨hk.2, hk.1.2⟩⟩)⟩, ⟨by (with_reducible repeat (first | apply Kd.R_alloc | apply Kd.R_drewN | apply Kd.R_drew)); exact Kd.R_mono HO674.out (fun _ hk => trivial)⟩, ⟨by (with_reducible repeat (first | apply Kd.R_alloc | apply Kd.R_drewN | apply Kd.R_drew)); exact Kd.R_mono HO678.out (fun _ hk => ⟨hk.1.1.2, ⟨hk.2, hk.1.2⟩⟩)⟩, ⟨by (with_reducible repeat (first | apply Kd.R_alloc | apply Kd.R_drewN | apply Kd.R_drew)); exact Kd.R_mono HO666.out (fun _ hk => ⟨hk.1.1.2, ⟨hk.1.2, hk.2⟩⟩)⟩, ⟨by exact nB BK643.out⟩, ⟨by exact nB BK668.out⟩, ⟨nH2 HB.out GE643.out GE668.out⟩⟩
       case rest =>
        clear HC25; try clear c1; try clear c2; try clear p2; try clear c3; try clear c4; try clear c5; try clear c5b0; try clear c5b1; try clear p6; try clear c8; try clear c8b0; try clear c11; try clear c12; try clear c13; try clear c13b0; try clear c14; try clear c17; try clear c19; try clear c32; try clear c35; try clear c36; try clear c40; try clear c49; try clear c49b0; try clear c49b1; try clear hcz10_0; try clear hcz10_1; try clear hcz10_2; try clear hcz10_3; try clear hcz15_0; try clear hcz15_1; try clear hcz15_2; try clear hcz15_3; try clear hcz27_0; try clear hcz27_1; try clear hcz27_2
        try clear hcz27_3; try clear hcz29_0; try clear hcz29_1; try clear hcz29_2; try clear hcz29_3; try clear hcz37_0; try clear hcz37_1; try clear hcz37_2; try clear hcz37_3; try clear hcz41_0; try clear hcz41_1; try clear hcz41_2; try clear hcz41_3; try clear hcz45_0; try clear hcz45_1; try clear hcz45_2; try clear hcz45_3; try clear hfz10_0; try clear hfz10_1; try clear hfz10_2; try clear hfz10_3; try clear hfz15_0; try clear hfz15_1; try clear hfz15_2; try clear hfz15_3; try clear hfz27_0; try clear hfz27_1; try clear hfz27_2; try clear hfz27_3; try clear hfz29_0; try clear hfz29_1; try clear hfz29_2
        try clear hfz29_3; try clear hfz37_0; try clear hfz37_1; try clear hfz37_2; try clear hfz37_3; try clear hfz41_0; try clear hfz41_1; try clear hfz41_2; try clear hfz41_3; try clear hfz45_0; try clear hfz45_1; try clear hfz45_2; try clear hfz45_3
        obtain ⟨kq, x68_24, rfl, HA, HJ24, HO_11, HO_13, HO_14, HO_16, HO_669002, BK643, BK668, HB⟩ := hcut
        cases kq with
        | zero => exact absurd HA.out (by simp [laws_FnExactSplit.j0])
        | succ kj24 =>
         have H := HA.out; clear HA
         simp only [laws_FnExactSplit.j0] at H
         by_cases c53 : x68_24 = true
         · subst c53
           have H1 : (some false) = some r := by rw [if_pos rfl] at H; exact H
           clear H; have H := H1; clear H1
           exact absurd ((Option.some.inj H).trans ht.out) (by decide)
         · replace c53 := Bool.eq_false_iff.mpr c53
           subst c53
           have H1 : ((laws_toTariff.f kj24 a0_0 a0_1 l0_2 a0_3).bind fun bt680 => ((laws_eqTariff.f kj24 t662 t663 t664 t667 bt680.1 bt680.2.1 bt680.2.2.1 bt680.2.2.2).bind fun t686 => (if t686 = true then ((laws_toIntS.f kj24 l1).bind fun t687 => ((laws_eqIntS.f kj24 t669 t687).bind fun t690 => (if t690 = true then ((laws_toCardS.f kj24 l2).bind fun t691 => ((laws_eqCardS.f kj24 t672 t691).bind fun t694 => (if t694 = true then ((laws_markTariff.f kj24 t662 t663 t664 t667 1).bind fun bt695 => ((laws_markIntS.f kj24 t669 bt695.1).bind fun bt697 => ((laws_markCardS.f kj24 t672 bt697.1).bind fun bt699 => (if bt699.1 < 0 then (laws_FnExactSplit.j1 kj24 l1 l2 a3 t658 t659 t676 true a0_0 a0_1 l0_2 a0_3) else (if t675 = t658 then ((laws_eqIntS.f kj24 t676 t659).bind fun t701 => (laws_FnExactSplit.j1 kj24 l1 l2 a3 t658 t659 t676 (!t701) a0_0 a0_1 l0_2 a0_3)) else (laws_FnExactSplit.j1 kj24 l1 l2 a3 t658 t659 t676 true a0_0 a0_1 l0_2 a0_3)))))) else (some false)))) else (some false)))) else (some false)))) = some r := by rw [if_neg (show ¬ (false = true) by decide)] at H; exact H
           clear H; have H := H1; clear H1
           replace H := Option.bind_eq_some_iff.mp H
           obtain ⟨⟨t680, t681, t682, t685⟩, A540, H⟩ := H
           replace H : ((laws_eqTariff.f kj24 t662 t663 t664 t667 t680 t681 t682 t685).bind fun t686 => (if t686 = true then ((laws_toIntS.f kj24 l1).bind fun t687 => ((laws_eqIntS.f kj24 t669 t687).bind fun t690 => (if t690 = true then ((laws_toCardS.f kj24 l2).bind fun t691 => ((laws_eqCardS.f kj24 t672 t691).bind fun t694 => (if t694 = true then ((laws_markTariff.f kj24 t662 t663 t664 t667 1).bind fun bt695 => ((laws_markIntS.f kj24 t669 bt695.1).bind fun bt697 => ((laws_markCardS.f kj24 t672 bt697.1).bind fun bt699 => (if bt699.1 < 0 then (laws_FnExactSplit.j1 kj24 l1 l2 a3 t658 t659 t676 true a0_0 a0_1 l0_2 a0_3) else (if t675 = t658 then ((laws_eqIntS.f kj24 t676 t659).bind fun t701 => (laws_FnExactSplit.j1 kj24 l1 l2 a3 t658 t659 t676 (!t701) a0_0 a0_1 l0_2 a0_3)) else (laws_FnExactSplit.j1 kj24 l1 l2 a3 t658 t659 t676 true a0_0 a0_1 l0_2 a0_3)))))) else (some false)))) else (some false)))) else (some false))) = some r := H
           have A54 := Aside0.mk A540
           clear A540
           replace H := Option.bind_eq_some_iff.mp H
           obtain ⟨t686, A550, H⟩ := H
           replace H : (if t686 = true then ((laws_toIntS.f kj24 l1).bind fun t687 => ((laws_eqIntS.f kj24 t669 t687).bind fun t690 => (if t690 = true then ((laws_toCardS.f kj24 l2).bind fun t691 => ((laws_eqCardS.f kj24 t672 t691).bind fun t694 => (if t694 = true then ((laws_markTariff.f kj24 t662 t663 t664 t667 1).bind fun bt695 => ((laws_markIntS.f kj24 t669 bt695.1).bind fun bt697 => ((laws_markCardS.f kj24 t672 bt697.1).bind fun bt699 => (if bt699.1 < 0 then (laws_FnExactSplit.j1 kj24 l1 l2 a3 t658 t659 t676 true a0_0 a0_1 l0_2 a0_3) else (if t675 = t658 then ((laws_eqIntS.f kj24 t676 t659).bind fun t701 => (laws_FnExactSplit.j1 kj24 l1 l2 a3 t658 t659 t676 (!t701) a0_0 a0_1 l0_2 a0_3)) else (laws_FnExactSplit.j1 kj24 l1 l2 a3 t658 t659 t676 true a0_0 a0_1 l0_2 a0_3)))))) else (some false)))) else (some false)))) else (some false)) = some r := H
           have A55 := Aside0.mk A550
           clear A550
           by_cases c56 : t686 = true
           · subst c56
             have H1 : ((laws_toIntS.f kj24 l1).bind fun t687 => ((laws_eqIntS.f kj24 t669 t687).bind fun t690 => (if t690 = true then ((laws_toCardS.f kj24 l2).bind fun t691 => ((laws_eqCardS.f kj24 t672 t691).bind fun t694 => (if t694 = true then ((laws_markTariff.f kj24 t662 t663 t664 t667 1).bind fun bt695 => ((laws_markIntS.f kj24 t669 bt695.1).bind fun bt697 => ((laws_markCardS.f kj24 t672 bt697.1).bind fun bt699 => (if bt699.1 < 0 then (laws_FnExactSplit.j1 kj24 l1 l2 a3 t658 t659 t676 true a0_0 a0_1 l0_2 a0_3) else (if t675 = t658 then ((laws_eqIntS.f kj24 t676 t659).bind fun t701 => (laws_FnExactSplit.j1 kj24 l1 l2 a3 t658 t659 t676 (!t701) a0_0 a0_1 l0_2 a0_3)) else (laws_FnExactSplit.j1 kj24 l1 l2 a3 t658 t659 t676 true a0_0 a0_1 l0_2 a0_3)))))) else (some false)))) else (some false)))) = some r := by rw [if_pos rfl] at H; exact H
             clear H; have H := H1; clear H1
             replace H := Option.bind_eq_some_iff.mp H
             obtain ⟨t687, A570, H⟩ := H
             replace H : ((laws_eqIntS.f kj24 t669 t687).bind fun t690 => (if t690 = true then ((laws_toCardS.f kj24 l2).bind fun t691 => ((laws_eqCardS.f kj24 t672 t691).bind fun t694 => (if t694 = true then ((laws_markTariff.f kj24 t662 t663 t664 t667 1).bind fun bt695 => ((laws_markIntS.f kj24 t669 bt695.1).bind fun bt697 => ((laws_markCardS.f kj24 t672 bt697.1).bind fun bt699 => (if bt699.1 < 0 then (laws_FnExactSplit.j1 kj24 l1 l2 a3 t658 t659 t676 true a0_0 a0_1 l0_2 a0_3) else (if t675 = t658 then ((laws_eqIntS.f kj24 t676 t659).bind fun t701 => (laws_FnExactSplit.j1 kj24 l1 l2 a3 t658 t659 t676 (!t701) a0_0 a0_1 l0_2 a0_3)) else (laws_FnExactSplit.j1 kj24 l1 l2 a3 t658 t659 t676 true a0_0 a0_1 l0_2 a0_3)))))) else (some false)))) else (some false))) = some r := H
             have A57 := Aside0.mk A570
             clear A570
             replace H := Option.bind_eq_some_iff.mp H
             obtain ⟨t690, A580, H⟩ := H
             replace H : (if t690 = true then ((laws_toCardS.f kj24 l2).bind fun t691 => ((laws_eqCardS.f kj24 t672 t691).bind fun t694 => (if t694 = true then ((laws_markTariff.f kj24 t662 t663 t664 t667 1).bind fun bt695 => ((laws_markIntS.f kj24 t669 bt695.1).bind fun bt697 => ((laws_markCardS.f kj24 t672 bt697.1).bind fun bt699 => (if bt699.1 < 0 then (laws_FnExactSplit.j1 kj24 l1 l2 a3 t658 t659 t676 true a0_0 a0_1 l0_2 a0_3) else (if t675 = t658 then ((laws_eqIntS.f kj24 t676 t659).bind fun t701 => (laws_FnExactSplit.j1 kj24 l1 l2 a3 t658 t659 t676 (!t701) a0_0 a0_1 l0_2 a0_3)) else (laws_FnExactSplit.j1 kj24 l1 l2 a3 t658 t659 t676 true a0_0 a0_1 l0_2 a0_3)))))) else (some false)))) else (some false)) = some r := H
             have A58 := Aside0.mk A580
             clear A580
             by_cases c59 : t690 = true
             · subst c59
               have H1 : ((laws_toCardS.f kj24 l2).bind fun t691 => ((laws_eqCardS.f kj24 t672 t691).bind fun t694 => (if t694 = true then ((laws_markTariff.f kj24 t662 t663 t664 t667 1).bind fun bt695 => ((laws_markIntS.f kj24 t669 bt695.1).bind fun bt697 => ((laws_markCardS.f kj24 t672 bt697.1).bind fun bt699 => (if bt699.1 < 0 then (laws_FnExactSplit.j1 kj24 l1 l2 a3 t658 t659 t676 true a0_0 a0_1 l0_2 a0_3) else (if t675 = t658 then ((laws_eqIntS.f kj24 t676 t659).bind fun t701 => (laws_FnExactSplit.j1 kj24 l1 l2 a3 t658 t659 t676 (!t701) a0_0 a0_1 l0_2 a0_3)) else (laws_FnExactSplit.j1 kj24 l1 l2 a3 t658 t659 t676 true a0_0 a0_1 l0_2 a0_3)))))) else (some false)))) = some r := by rw [if_pos rfl] at H; exact H
               clear H; have H := H1; clear H1
               replace H := Option.bind_eq_some_iff.mp H
               obtain ⟨t691, A600, H⟩ := H
               replace H : ((laws_eqCardS.f kj24 t672 t691).bind fun t694 => (if t694 = true then ((laws_markTariff.f kj24 t662 t663 t664 t667 1).bind fun bt695 => ((laws_markIntS.f kj24 t669 bt695.1).bind fun bt697 => ((laws_markCardS.f kj24 t672 bt697.1).bind fun bt699 => (if bt699.1 < 0 then (laws_FnExactSplit.j1 kj24 l1 l2 a3 t658 t659 t676 true a0_0 a0_1 l0_2 a0_3) else (if t675 = t658 then ((laws_eqIntS.f kj24 t676 t659).bind fun t701 => (laws_FnExactSplit.j1 kj24 l1 l2 a3 t658 t659 t676 (!t701) a0_0 a0_1 l0_2 a0_3)) else (laws_FnExactSplit.j1 kj24 l1 l2 a3 t658 t659 t676 true a0_0 a0_1 l0_2 a0_3)))))) else (some false))) = some r := H
               have A60 := Aside0.mk A600
               clear A600
               replace H := Option.bind_eq_some_iff.mp H
               obtain ⟨t694, A610, H⟩ := H
               replace H : (if t694 = true then ((laws_markTariff.f kj24 t662 t663 t664 t667 1).bind fun bt695 => ((laws_markIntS.f kj24 t669 bt695.1).bind fun bt697 => ((laws_markCardS.f kj24 t672 bt697.1).bind fun bt699 => (if bt699.1 < 0 then (laws_FnExactSplit.j1 kj24 l1 l2 a3 t658 t659 t676 true a0_0 a0_1 l0_2 a0_3) else (if t675 = t658 then ((laws_eqIntS.f kj24 t676 t659).bind fun t701 => (laws_FnExactSplit.j1 kj24 l1 l2 a3 t658 t659 t676 (!t701) a0_0 a0_1 l0_2 a0_3)) else (laws_FnExactSplit.j1 kj24 l1 l2 a3 t658 t659 t676 true a0_0 a0_1 l0_2 a0_3)))))) else (some false)) = some r := H
               have A61 := Aside0.mk A610
               clear A610
               by_cases c62 : t694 = true
               · subst c62
                 have H1 : ((laws_markTariff.f kj24 t662 t663 t664 t667 1).bind fun bt695 => ((laws_markIntS.f kj24 t669 bt695.1).bind fun bt697 => ((laws_markCardS.f kj24 t672 bt697.1).bind fun bt699 => (if bt699.1 < 0 then (laws_FnExactSplit.j1 kj24 l1 l2 a3 t658 t659 t676 true a0_0 a0_1 l0_2 a0_3) else (if t675 = t658 then ((laws_eqIntS.f kj24 t676 t659).bind fun t701 => (laws_FnExactSplit.j1 kj24 l1 l2 a3 t658 t659 t676 (!t701) a0_0 a0_1 l0_2 a0_3)) else (laws_FnExactSplit.j1 kj24 l1 l2 a3 t658 t659 t676 true a0_0 a0_1 l0_2 a0_3)))))) = some r := by rw [if_pos rfl] at H; exact H
                 clear H; have H := H1; clear H1
                 replace H := Option.bind_eq_some_iff.mp H
                 obtain ⟨⟨t695, t696⟩, A630, H⟩ := H
                 replace H : ((laws_markIntS.f kj24 t669 t695).bind fun bt697 => ((laws_markCardS.f kj24 t672 bt697.1).bind fun bt699 => (if bt699.1 < 0 then (laws_FnExactSplit.j1 kj24 l1 l2 a3 t658 t659 t676 true a0_0 a0_1 l0_2 a0_3) else (if t675 = t658 then ((laws_eqIntS.f kj24 t676 t659).bind fun t701 => (laws_FnExactSplit.j1 kj24 l1 l2 a3 t658 t659 t676 (!t701) a0_0 a0_1 l0_2 a0_3)) else (laws_FnExactSplit.j1 kj24 l1 l2 a3 t658 t659 t676 true a0_0 a0_1 l0_2 a0_3))))) = some r := H
                 have A63 := Aside0.mk A630
                 clear A630
                 replace H := Option.bind_eq_some_iff.mp H
                 obtain ⟨⟨t697, t698⟩, A640, H⟩ := H
                 replace H : ((laws_markCardS.f kj24 t672 t697).bind fun bt699 => (if bt699.1 < 0 then (laws_FnExactSplit.j1 kj24 l1 l2 a3 t658 t659 t676 true a0_0 a0_1 l0_2 a0_3) else (if t675 = t658 then ((laws_eqIntS.f kj24 t676 t659).bind fun t701 => (laws_FnExactSplit.j1 kj24 l1 l2 a3 t658 t659 t676 (!t701) a0_0 a0_1 l0_2 a0_3)) else (laws_FnExactSplit.j1 kj24 l1 l2 a3 t658 t659 t676 true a0_0 a0_1 l0_2 a0_3)))) = some r := H
                 have A64 := Aside0.mk A640
                 clear A640
                 replace H := Option.bind_eq_some_iff.mp H
                 obtain ⟨⟨t699, t700⟩, A650, H⟩ := H
                 replace H : (if t699 < 0 then (laws_FnExactSplit.j1 kj24 l1 l2 a3 t658 t659 t676 true a0_0 a0_1 l0_2 a0_3) else (if t675 = t658 then ((laws_eqIntS.f kj24 t676 t659).bind fun t701 => (laws_FnExactSplit.j1 kj24 l1 l2 a3 t658 t659 t676 (!t701) a0_0 a0_1 l0_2 a0_3)) else (laws_FnExactSplit.j1 kj24 l1 l2 a3 t658 t659 t676 true a0_0 a0_1 l0_2 a0_3))) = some r := H
                 have A65 := Aside0.mk A650
                 clear A650
                 have HC66 := Aside0.mk H
                 clear H
                 try go_wp2
                 have n0_ := Aside0.mk (Kd.R_drew HO_11.out)
                 have n1_ := Aside0.mk (Kd.R_drew HO_13.out)
                 have n2_ := Aside0.mk (Kd.R_drew HO_14.out)
                 have n3_ := Aside0.mk (Kd.R_drew HO_16.out)
                 have n4_ := Aside0.mk (Kd.R_drew HO_669002.out)
                 have n5_ := Aside0.mk (blk_drew BK643.out)
                 have n6_ := Aside0.mk (blk_drew BK668.out)
                 have n7_ := Aside0.mk (below_drew1 HB.out)
                 clear HO_11; clear HO_13; clear HO_14; clear HO_16; clear HO_669002; clear BK643; clear BK668; clear HB; have HO_11 := n0_; have HO_13 := n1_; have HO_14 := n2_; have HO_16 := n3_; have HO_669002 := n4_; have BK643 := n5_; have BK668 := n6_; have HB := n7_; clear n0_ n1_ n2_ n3_ n4_ n5_ n6_ n7_
                 refine start_ (n := 5) (S := fun w' => w'.cell? ⟨gb668, 0, none⟩ = some (.int .i64 t662) ∧ w'.cell? ⟨gb668, 1, none⟩ = some (.int .i64 t663) ∧ w'.cell? ⟨gb668, 2, none⟩ = some (.slice Ao42 t664.length co42) ∧ w'.cell? ⟨gb668, 3, none⟩ = some (.int .i64 t667) ∧ w'.cell? ⟨gb643, 0, none⟩ = some (.int .i64 a0_0) ∧ w'.cell? ⟨gb643, 1, none⟩ = some (.int .i64 a0_1) ∧ w'.cell? ⟨gb643, 2, none⟩ = some (.slice A0_2 l0_2.length c0_2) ∧ w'.cell? ⟨gb643, 3, none⟩ = some (.int .i64 a0_3)) (ds := []) #[false, false, false, false, false] (by kernel_rfl) rfl rfl ⟨(blk_cell BK668.out 0).trans rfl, (blk_cell BK668.out 1).trans rfl, (blk_cell BK668.out 2).trans rfl, (blk_cell BK668.out 3).trans rfl, (blk_cell BK643.out 0).trans rfl, (blk_cell BK643.out 1).trans rfl, (blk_cell BK643.out 2).trans rfl, (blk_cell BK643.out 3).trans rfl⟩ (fun hHeld => ?_)
                 generalize wc.drew = w67 at HO_11 HO_13 HO_14 HO_16 HO_669002 BK643 BK668 HB hHeld ⊢
                 refine take_ (i := 0) (N := some 69) (v := ?_) (a' := ?_) #[true, false, false, false, false] rfl rfl (by kernel_rfl) (fun _ _ _ h => h) (Or.inl ⟨by rfl, ?_⟩) hHeld ?_ ?_
                 rotate_left
                 · rintro w' ⟨s0, s1, s2, s3, s4, s5, s6, s7⟩
                   go_simp; with_reducible rfl
                 rotate_left
                 · simp only [Act.put, List.setIfInBounds_toArray, List.set_cons_zero, List.set_cons_succ, i64_w, i32_w]
                   rfl
                 refine take_ (i := 1) (N := some 70) (v := ?_) (a' := ?_) #[true, true, false, false, false] rfl rfl (by kernel_rfl) (fun _ _ _ h => h) (Or.inl ⟨by rfl, ?_⟩) hHeld ?_ ?_
                 rotate_left
                 · rintro w' ⟨s0, s1, s2, s3, s4, s5, s6, s7⟩
                   go_simp; with_reducible rfl
                 rotate_left
                 · simp only [Act.put, List.setIfInBounds_toArray, List.set_cons_zero, List.set_cons_succ, i64_w, i32_w]
                   rfl
                 refine one_ (i := 2) (N := some 71) #[true, true, true, false, false] rfl rfl (by kernel_rfl) (by decide) (fun K hK => ?_)
                 refine goes_ Try.func19 (by kernel_rfl) rfl #[.agg #[.int .i64 a0_0, .int .i64 a0_1, .slice A0_2 l0_2.length c0_2, .int .i64 a0_3]] (by rfl) rfl rfl nM ?_
                 with_reducible refine (laws_toTariff.calls kj24 a0_0 a0_1 _ _ l0_2 a0_3 t680 t681 t682 t685 _ ?side1 ?side2 A54.out).mono ?_
                 (case side1 => exact nD HR0_2.out HB.out)
                 (case side2 => exact HC0_2.out)
                 rintro e w68 ⟨v683, rfl, ho0, hb⟩
                 refine ⟨_, rfl, ?_⟩
                 have n0_ := Aside0.mk (Kd.R_elder' (nR HO_11.out) (Kd.R_base ho0) hb)
                 have n1_ := Aside0.mk (Kd.R_elder' (nR HO_13.out) (Kd.R_base ho0) hb)
                 have n2_ := Aside0.mk (Kd.R_below (nR HO_14.out) hb)
                 have n3_ := Aside0.mk (Kd.R_elder' (nR HO_16.out) (Kd.R_base ho0) hb)
                 have n4_ := Aside0.mk (Kd.R_elder' (nR HO_669002.out) (Kd.R_base ho0) hb)
                 have n5_ := Aside0.mk (Kd.R_lower (Kd.R_new' (Kd.R_new' (Kd.R_new' (Kd.R_new' ho0 (Kd.R_lt (nR HO_11.out))) (Kd.R_lt (nR HO_13.out))) (Kd.R_lt (nR HO_16.out))) (Kd.R_lt (nR HO_669002.out))) (below_size (nH2 HB.out GE643.out GE668.out)))
                 have n6_ := Aside0.mk (blk_below (g := gb643) (o := .cells #[.int .i64 a0_0, .int .i64 a0_1, .slice A0_2 l0_2.length c0_2, .int .i64 a0_3] 31 (0, 0)) (nB BK643.out) hb)
                 have n7_ := Aside0.mk (blk_below (g := gb668) (o := .cells #[.int .i64 t662, .int .i64 t663, .slice Ao42 t664.length co42, .int .i64 t667] 34 (0, 0)) (nB BK668.out) hb)
                 have n8_ := Aside0.mk (below_step (nH2 HB.out GE643.out GE668.out) hb)
                 clear HO_11; clear HO_13; clear HO_14; clear HO_16; clear HO_669002; clear BK643; clear BK668; clear HB; have HO_11 := n0_; have HO_13 := n1_; have HO_14 := n2_; have HO_16 := n3_; have HO_669002 := n4_; have HO684 := n5_; have BK643 := n6_; have BK668 := n7_; have HB := n8_; clear n0_ n1_ n2_ n3_ n4_ n5_ n6_ n7_ n8_; (try clear hb); (try clear hb2); (try clear hk); (try clear hi); (try clear ho0)
                 obtain ⟨Ao69, co69, eo69⟩ := Kd.R_slice HO684.out
                 (first | subst eo69 | (injection eo69 with f1_ f2_ f3_; have f4_ := f1_.symm; have f5_ := f3_.symm; clear f1_ f2_ f3_; subst f4_; subst f5_))
                 refine hK.out _ _ ⟨(blk_cell BK668.out 0).trans rfl, (blk_cell BK668.out 1).trans rfl, (blk_cell BK668.out 2).trans rfl, (blk_cell BK668.out 3).trans rfl, (blk_cell BK643.out 0).trans rfl, (blk_cell BK643.out 1).trans rfl, (blk_cell BK643.out 2).trans rfl, (blk_cell BK643.out 3).trans rfl⟩ (fun hHeld => ?_)
                 clear hK K
                 refine norm_ (a' := ?_) ?_ ?_
                 rotate_left
                 · show Act.put _ (some 71) _ = _
                   simp only [Act.put, List.setIfInBounds_toArray, List.set_cons_zero, List.set_cons_succ, i64_w, i32_w]
                   rfl
                 refine one_ (i := 3) (N := some 72) #[true, true, true, true, false] rfl rfl (by kernel_rfl) (by decide) (fun K hK => ?_)
                 refine goes_ Try.func21 (by kernel_rfl) rfl #[.agg #[.int .i64 t662, .int .i64 t663, .slice Ao42 t664.length co42, .int .i64 t667], .agg #[.int .i64 t680, .int .i64 t681, .slice Ao69 t682.length co69, .int .i64 t685]] (by rfl) rfl rfl nM ?_
                 with_reducible refine (laws_eqTariff.calls kj24 t662 t663 _ _ t664 t667 t680 t681 _ _ t682 t685 true _ ?side1 ?side2 ?side3 ?side4 A55.out).mono ?_
                 (case side1 => repeat (first | exact (Kd.R_reads' HO_669002.out).2.2 | (with_reducible refine Kd.C_alloc ?_ _) | (with_reducible refine Kd.C_drewN ?_ _) | (with_reducible refine Kd.C_drew ?_)))
                 (case side2 => exact (Kd.R_reads' HO_669002.out).2.1)
                 (case side3 => repeat (first | exact (Kd.R_reads' HO684.out).2.2 | (with_reducible refine Kd.C_alloc ?_ _) | (with_reducible refine Kd.C_drewN ?_ _) | (with_reducible refine Kd.C_drew ?_)))
                 (case side4 => exact (Kd.R_reads' HO684.out).2.1)
                 rintro e w70 ⟨rfl, hb⟩
                 refine ⟨_, rfl, ?_⟩
                 have n0_ := Aside0.mk (Kd.R_below (nR HO_11.out) hb)
                 have n1_ := Aside0.mk (Kd.R_below (nR HO_13.out) hb)
                 have n2_ := Aside0.mk (Kd.R_below (nR HO_14.out) hb)
                 have n3_ := Aside0.mk (Kd.R_below (nR HO_16.out) hb)
                 have n4_ := Aside0.mk (Kd.R_below (nR HO_669002.out) hb)
                 have n5_ := Aside0.mk (Kd.R_below (nR HO684.out) hb)
                 have n6_ := Aside0.mk (blk_below (g := gb643) (o := .cells #[.int .i64 a0_0, .int .i64 a0_1, .slice A0_2 l0_2.length c0_2, .int .i64 a0_3] 31 (0, 0)) (nB BK643.out) hb)
                 have n7_ := Aside0.mk (blk_below (g := gb668) (o := .cells #[.int .i64 t662, .int .i64 t663, .slice Ao42 t664.length co42, .int .i64 t667] 34 (0, 0)) (nB BK668.out) hb)
                 have n8_ := Aside0.mk (below_step (nH2 HB.out GE643.out GE668.out) hb)
                 clear HO_11; clear HO_13; clear HO_14; clear HO_16; clear HO_669002; clear HO684; clear BK643; clear BK668; clear HB; have HO_11 := n0_; have HO_13 := n1_; have HO_14 := n2_; have HO_16 := n3_; have HO_669002 := n4_; have HO684 := n5_; have BK643 := n6_; have BK668 := n7_; have HB := n8_; clear n0_ n1_ n2_ n3_ n4_ n5_ n6_ n7_ n8_; (try clear hb); (try clear hb2); (try clear hk); (try clear hi)
                 refine hK.out _ _ ⟨(blk_cell BK668.out 0).trans rfl, (blk_cell BK668.out 1).trans rfl, (blk_cell BK668.out 2).trans rfl, (blk_cell BK668.out 3).trans rfl, (blk_cell BK643.out 0).trans rfl, (blk_cell BK643.out 1).trans rfl, (blk_cell BK643.out 2).trans rfl, (blk_cell BK643.out 3).trans rfl⟩ (fun hHeld => ?_)
                 clear hK K
                 refine norm_ (a' := ?_) ?_ ?_
                 rotate_left
                 · show Act.put _ (some 72) _ = _
                   simp only [Act.put, List.setIfInBounds_toArray, List.set_cons_zero, List.set_cons_succ, i64_w, i32_w]
                   rfl
                 refine pure_ (i := 4) (N := some 73) (v := ?_) (a' := ?_) #[true, true, true, true, true] rfl rfl (by kernel_rfl) (fun _ _ _ h => h) (Or.inl ⟨by rfl, ?_⟩) ?_ ?_
                 rotate_left
                 · intro w'; go_simp; with_reducible rfl
                 rotate_left
                 · simp only [Act.put, List.setIfInBounds_toArray, List.set_cons_zero, List.set_cons_succ, i64_w, i32_w]
                   rfl
                 refine done_ (by kernel_rfl) ?_
                 go_upto_region 27 with (first | ((with_reducible refine gate_callee (f := 32) rfl ?_); refine goesL_ (some 76) rfl rfl Try.func32 (by kernel_rfl) rfl #[.slice A1 l1.length c1] rfl nM ?_; (with_reducible refine (laws_toIntS.calls kj24 _ _ l1 t687 _ ?side1 ?side2 A57.out).mono ?_); (case side1 => exact nD HR1.out HB.out); (case side2 => exact HC1.out); rintro e w71 ⟨v688, rfl, ho0, hb⟩; refine ⟨_, rfl, ?_⟩; have n0_ := Aside0.mk (Kd.R_elder' (nR HO_11.out) (Kd.R_base ho0) hb); have n1_ := Aside0.mk (Kd.R_elder' (nR HO_13.out) (Kd.R_base ho0) hb); have n2_ := Aside0.mk (Kd.R_below (nR HO_14.out) hb); have n3_ := Aside0.mk (Kd.R_elder' (nR HO_16.out) (Kd.R_base ho0) hb); have n4_ := Aside0.mk (Kd.R_elder' (nR HO_669002.out) (Kd.R_base ho0) hb); have n5_ := Aside0.mk (Kd.R_elder' (nR HO684.out) (Kd.R_base ho0) hb); have n6_ := Aside0.mk (Kd.R_lower (Kd.R_new' (Kd.R_new' (Kd.R_new' (Kd.R_new' (Kd.R_new' ho0 (Kd.R_lt (nR HO_11.out))) (Kd.R_lt (nR HO_13.out))) (Kd.R_lt (nR HO_16.out))) (Kd.R_lt (nR HO_669002.out))) (Kd.R_lt (nR HO684.out))) (below_size (nH2 HB.out GE643.out GE668.out))); have n7_ := Aside0.mk (blk_below (g := gb643) (o := .cells #[.int .i64 a0_0, .int .i64 a0_1, .slice A0_2 l0_2.length c0_2, .int .i64 a0_3] 31 (0, 0)) (nB BK643.out) hb); have n8_ := Aside0.mk (blk_below (g := gb668) (o := .cells #[.int .i64 t662, .int .i64 t663, .slice Ao42 t664.length co42, .int .i64 t667] 34 (0, 0)) (nB BK668.out) hb); have n9_ := Aside0.mk (below_step (nH2 HB.out GE643.out GE668.out) hb); clear HO_11; clear HO_13; clear HO_14; clear HO_16; clear HO_669002; clear HO684; clear BK643; clear BK668; clear HB; have HO_11 := n0_; have HO_13 := n1_; have HO_14 := n2_; have HO_16 := n3_; have HO_669002 := n4_; have HO684 := n5_; have HO689 := n6_; have BK643 := n7_; have BK668 := n8_; have HB := n9_; clear n0_ n1_ n2_ n3_ n4_ n5_ n6_ n7_ n8_ n9_; (try clear hb); (try clear hb2); (try clear hk); (try clear hi); (try clear ho0); obtain ⟨Ao72, co72, eo72⟩ := Kd.R_slice HO689.out; subst eo72) | ((with_reducible refine gate_callee (f := 34) rfl ?_); refine goesL_ (some 77) rfl rfl Try.func34 (by kernel_rfl) rfl #[.slice Ao46 t669.length co46, .slice Ao72 t687.length co72] rfl nM ?_; (with_reducible refine (laws_eqIntS.calls kj24 _ _ t669 _ _ t687 true _ ?side1 ?side2 ?side3 ?side4 A58.out).mono ?_); (case side1 => repeat (first | exact (Kd.R_reads' HO_13.out).2.2 | (with_reducible refine Kd.C_alloc ?_ _) | (with_reducible refine Kd.C_drewN ?_ _) | (with_reducible refine Kd.C_drew ?_))); (case side2 => exact (Kd.R_reads' HO_13.out).2.1); (case side3 => repeat (first | exact (Kd.R_reads' HO689.out).2.2 | (with_reducible refine Kd.C_alloc ?_ _) | (with_reducible refine Kd.C_drewN ?_ _) | (with_reducible refine Kd.C_drew ?_))); (case side4 => exact (Kd.R_reads' HO689.out).2.1); rintro e w' ⟨rfl, ⟨nd, rfl⟩⟩; refine ⟨_, rfl, ?_⟩) | ((with_reducible refine gate_callee (f := 14) rfl ?_); refine goesL_ (some 81) rfl rfl Try.func14 (by kernel_rfl) rfl #[.slice A2 l2.length c2] rfl nM ?_; (with_reducible refine (laws_toCardS.calls kj24 _ _ l2 t691 _ ?side1 ?side2 A60.out).mono ?_); (case side1 => repeat (first | exact (Kd.C_below HR2.out (nH2 HB.out GE643.out GE668.out)) | (with_reducible refine Kd.C_alloc ?_ _) | (with_reducible refine Kd.C_drewN ?_ _) | (with_reducible refine Kd.C_drew ?_))); (case side2 => exact HC2.out); rintro e w73 ⟨v692, rfl, ho0, hb⟩; refine ⟨_, rfl, ?_⟩; have n0_ := Aside0.mk (Kd.R_below (nR HO_11.out) hb); have n1_ := Aside0.mk (Kd.R_below (nR HO_13.out) hb); have n2_ := Aside0.mk (Kd.R_elder' (nR HO_14.out) (Kd.R_base ho0) hb); have n3_ := Aside0.mk (Kd.R_below (nR HO_16.out) hb); have n4_ := Aside0.mk (Kd.R_below (nR HO_669002.out) hb); have n5_ := Aside0.mk (Kd.R_below (nR HO684.out) hb); have n6_ := Aside0.mk (Kd.R_below (nR HO689.out) hb); have n7_ := Aside0.mk (Kd.R_lower (Kd.R_new' ho0 (Kd.R_lt (nR HO_14.out))) (below_size (nH2 HB.out GE643.out GE668.out))); have n8_ := Aside0.mk (blk_below (g := gb643) (o := .cells #[.int .i64 a0_0, .int .i64 a0_1, .slice A0_2 l0_2.length c0_2, .int .i64 a0_3] 31 (0, 0)) (nB BK643.out) hb); have n9_ := Aside0.mk (blk_below (g := gb668) (o := .cells #[.int .i64 t662, .int .i64 t663, .slice Ao42 t664.length co42, .int .i64 t667] 34 (0, 0)) (nB BK668.out) hb); have n10_ := Aside0.mk (below_step (nH2 HB.out GE643.out GE668.out) hb); clear HO_11; clear HO_13; clear HO_14; clear HO_16; clear HO_669002; clear HO684; clear HO689; clear BK643; clear BK668; clear HB; have HO_11 := n0_; have HO_13 := n1_; have HO_14 := n2_; have HO_16 := n3_; have HO_669002 := n4_; have HO684 := n5_; have HO689 := n6_; have HO693 := n7_; have BK643 := n8_; have BK668 := n9_; have HB := n10_; clear n0_ n1_ n2_ n3_ n4_ n5_ n6_ n7_ n8_ n9_ n10_; (try clear hb); (try clear hb2); (try clear hk); (try clear hi); (try clear ho0); obtain ⟨Ao74, co74, eo74⟩ := Kd.R_slice HO693.out; subst eo74) | ((with_reducible refine gate_callee (f := 16) rfl ?_); refine goesL_ (some 82) rfl rfl Try.func16 (by kernel_rfl) rfl #[.slice Ao47 t672.length co47, .slice Ao74 t691.length co74] rfl nM ?_; (with_reducible refine (laws_eqCardS.calls kj24 _ _ t672 _ _ t691 true _ ?side1 ?side2 ?side3 ?side4 A61.out).mono ?_); (case side1 => repeat (first | exact (Kd.R_reads' HO_14.out).2.2 | (with_reducible refine Kd.C_alloc ?_ _) | (with_reducible refine Kd.C_drewN ?_ _) | (with_reducible refine Kd.C_drew ?_))); (case side2 => exact (Kd.R_reads' HO_14.out).2.1); (case side3 => repeat (first | exact (Kd.R_reads' HO693.out).2.2 | (with_reducible refine Kd.C_alloc ?_ _) | (with_reducible refine Kd.C_drewN ?_ _) | (with_reducible refine Kd.C_drew ?_))); (case side4 => exact (Kd.R_reads' HO693.out).2.1); rintro e w75 ⟨rfl, hb⟩; refine ⟨_, rfl, ?_⟩; have n0_ := Aside0.mk (Kd.R_below (nR HO_11.out) hb); have n1_ := Aside0.mk (Kd.R_below (nR HO_13.out) hb); have n2_ := Aside0.mk (Kd.R_below (nR HO_14.out) hb); have n3_ := Aside0.mk (Kd.R_below (nR HO_16.out) hb); have n4_ := Aside0.mk (Kd.R_below (nR HO_669002.out) hb); have n5_ := Aside0.mk (Kd.R_below (nR HO684.out) hb); have n6_ := Aside0.mk (Kd.R_below (nR HO689.out) hb); have n7_ := Aside0.mk (Kd.R_below (nR HO693.out) hb); have n8_ := Aside0.mk (blk_below (g := gb643) (o := .cells #[.int .i64 a0_0, .int .i64 a0_1, .slice A0_2 l0_2.length c0_2, .int .i64 a0_3] 31 (0, 0)) (nB BK643.out) hb); have n9_ := Aside0.mk (blk_below (g := gb668) (o := .cells #[.int .i64 t662, .int .i64 t663, .slice Ao42 t664.length co42, .int .i64 t667] 34 (0, 0)) (nB BK668.out) hb); have n10_ := Aside0.mk (below_step (nH2 HB.out GE643.out GE668.out) hb); clear HO_11; clear HO_13; clear HO_14; clear HO_16; clear HO_669002; clear HO684; clear HO689; clear HO693; clear BK643; clear BK668; clear HB; have HO_11 := n0_; have HO_13 := n1_; have HO_14 := n2_; have HO_16 := n3_; have HO_669002 := n4_; have HO684 := n5_; have HO689 := n6_; have HO693 := n7_; have BK643 := n8_; have BK668 := n9_; have HB := n10_; clear n0_ n1_ n2_ n3_ n4_ n5_ n6_ n7_ n8_ n9_ n10_; (try clear hb); (try clear hb2); (try clear hk); (try clear hi); have hnb76 := NB668_643.out; have hnc76 := NB643_668.out; have hcz77_0 : w75.cell? ⟨gb668, 0, none⟩ = some (.int .i64 t662) := (blk_cell BK668.out 0).trans rfl; have hcz77_1 : w75.cell? ⟨gb668, 1, none⟩ = some (.int .i64 t663) := (blk_cell BK668.out 1).trans rfl; have hcz77_2 : w75.cell? ⟨gb668, 2, none⟩ = some (.slice Ao42 t664.length co42) := (blk_cell BK668.out 2).trans rfl; have hcz77_3 : w75.cell? ⟨gb668, 3, none⟩ = some (.int .i64 t667) := (blk_cell BK668.out 3).trans rfl; have hfz77_0 := blk_frozen BK668.out 0; have hfz77_1 := blk_frozen BK668.out 1; have hfz77_2 := blk_frozen BK668.out 2; have hfz77_3 := blk_frozen BK668.out 3) | ((with_reducible refine gate_callee (f := 38) rfl ?_); refine goesL_ (some 86) rfl rfl Try.func38 (by kernel_rfl) rfl #[.agg #[.int .i64 t662, .int .i64 t663, .slice Ao42 t664.length co42, .int .i64 t667], .int .i64 1] rfl nM ?_; (with_reducible refine (laws_markTariff.calls kj24 t662 t663 (fun k_ => some k_ = (.slice Ao42 t664.length co42 : Value).ownBlock) (.slice Ao42 t664.length co42) t664 t667 1 t695 t696 w _ ?side1 ?side2 A63.out).mono ?_); (case side1 => repeat (first | (with_reducible first | exact HB.out | apply below_alloc | apply pw_below_drewN | apply below_drew1 | refine below_set ?_ GE643.out | refine below_set ?_ GE668.out) | exact HB.out)); (case side2 => exact Kd.R_tight rfl HO_669002.out); rintro e w78 ⟨rfl, hy0, hb, hkp⟩; refine ⟨_, rfl, ?_⟩; have n0_ := Aside0.mk (Kd.R_mono (ok' := fun k_ => some k_ ≠ (.slice Ao46 t669.length co46 : Value).ownBlock ∧ some k_ ≠ (v677 : Value).ownBlock ∧ some k_ ≠ (.slice Ao42 t664.length co42 : Value).ownBlock ∧ some k_ ≠ (.slice Ao69 t682.length co69 : Value).ownBlock ∧ some k_ ≠ (.slice Ao72 t687.length co72 : Value).ownBlock) (Kd.R_keptB (HO_11.out) hkp (fun k_ hk_ hs_ => (hk_.1.1.2.2) hs_)) (fun k_ hk_ => ⟨hk_.1.1.1.1, hk_.1.1.1.2.1, hk_.1.1.1.2.2, hk_.1.1.2, hk_.1.2⟩)); have n1_ := Aside0.mk (Kd.R_mono (ok' := fun k_ => some k_ ≠ (v660 : Value).ownBlock ∧ some k_ ≠ (v677 : Value).ownBlock ∧ some k_ ≠ (.slice Ao42 t664.length co42 : Value).ownBlock ∧ some k_ ≠ (.slice Ao69 t682.length co69 : Value).ownBlock ∧ some k_ ≠ (.slice Ao72 t687.length co72 : Value).ownBlock) (Kd.R_keptB (HO_13.out) hkp (fun k_ hk_ hs_ => (hk_.1.1.2.2) hs_)) (fun k_ hk_ => ⟨hk_.1.1.1.1, hk_.1.1.1.2.1, hk_.1.1.1.2.2, hk_.1.1.2, hk_.1.2⟩)); have n2_ := Aside0.mk (Kd.R_mono (ok' := fun k_ => some k_ ≠ (.slice Ao74 t691.length co74 : Value).ownBlock) (Kd.R_keptB ((Kd.R_apart' HO_14.out (Kd.R_typed HO_669002.out) (by decide))) hkp (fun k_ hk_ hs_ => (hk_.2) hs_)) (fun k_ hk_ => hk_.1.1.2)); have n3_ := Aside0.mk (Kd.R_mono (ok' := fun k_ => some k_ ≠ (v660 : Value).ownBlock ∧ some k_ ≠ (.slice Ao46 t669.length co46 : Value).ownBlock ∧ some k_ ≠ (.slice Ao42 t664.length co42 : Value).ownBlock ∧ some k_ ≠ (.slice Ao69 t682.length co69 : Value).ownBlock ∧ some k_ ≠ (.slice Ao72 t687.length co72 : Value).ownBlock) (Kd.R_keptB (HO_16.out) hkp (fun k_ hk_ hs_ => (hk_.1.1.2.2) hs_)) (fun k_ hk_ => ⟨hk_.1.1.1.1, hk_.1.1.1.2.1, hk_.1.1.1.2.2, hk_.1.1.2, hk_.1.2⟩)); have n4_ := Aside0.mk (Kd.R_reok rfl hy0 (fun k_ e_ => HO_669002.out.1 k_ e_)); have n5_ := Aside0.mk (blk_kept (nB BK643.out) hkp (fun hs_ => (fun e_ => (Kd.R_ne HO_669002.out BK643.out (by decide)) e_) hs_)); have n6_ := Aside0.mk (blk_kept (nB BK668.out) hkp (fun hs_ => (fun e_ => (Kd.R_ne HO_669002.out BK668.out (by decide)) e_) hs_)); have n7_ := Aside0.mk (Kd.R_mono (ok' := fun k_ => some k_ ≠ (v660 : Value).ownBlock ∧ some k_ ≠ (.slice Ao46 t669.length co46 : Value).ownBlock ∧ some k_ ≠ (v677 : Value).ownBlock ∧ some k_ ≠ (.slice Ao42 t664.length co42 : Value).ownBlock ∧ some k_ ≠ (.slice Ao72 t687.length co72 : Value).ownBlock) (Kd.R_keptB (HO684.out) hkp (fun k_ hk_ hs_ => (hk_.1.2) hs_)) (fun k_ hk_ => ⟨hk_.1.1.1.1.1.2, hk_.1.1.1.1.2, hk_.1.1.1.2, hk_.1.1.2, hk_.1.2⟩)); have n8_ := Aside0.mk (Kd.R_mono (ok' := fun k_ => some k_ ≠ (v660 : Value).ownBlock ∧ some k_ ≠ (.slice Ao46 t669.length co46 : Value).ownBlock ∧ some k_ ≠ (v677 : Value).ownBlock ∧ some k_ ≠ (.slice Ao42 t664.length co42 : Value).ownBlock ∧ some k_ ≠ (.slice Ao69 t682.length co69 : Value).ownBlock) (Kd.R_keptB (HO689.out) hkp (fun k_ hk_ hs_ => (hk_.1.2) hs_)) (fun k_ hk_ => ⟨hk_.1.1.1.1.1.2, hk_.1.1.1.1.2, hk_.1.1.1.2, hk_.1.1.2, hk_.1.2⟩)); have n9_ := Aside0.mk (Kd.R_mono (ok' := fun k_ => some k_ ≠ (.slice Ao47 t672.length co47 : Value).ownBlock) (Kd.R_keptB ((Kd.R_apart' HO693.out (Kd.R_typed HO_669002.out) (by decide))) hkp (fun k_ hk_ hs_ => (hk_.2) hs_)) (fun k_ hk_ => hk_.1.1.2)); have n10_ := Aside0.mk (hb); clear HO_11; clear HO_13; clear HO_14; clear HO_16; clear HO_669002; clear BK643; clear BK668; clear HO684; clear HO689; clear HO693; clear HB; have HO_11 := n0_; have HO_13 := n1_; have HO_14 := n2_; have HO_16 := n3_; have HO_669002 := n4_; have BK643 := n5_; have BK668 := n6_; have HO684 := n7_; have HO689 := n8_; have HO693 := n9_; have HB := n10_; clear n0_ n1_ n2_ n3_ n4_ n5_ n6_ n7_ n8_ n9_ n10_; (try clear hb); (try clear hkp); (try clear hy0)) | ((with_reducible refine gate_callee (f := 39) rfl ?_); refine goesL_ (some 89) rfl rfl Try.func39 (by kernel_rfl) rfl #[.slice Ao46 t669.length co46, .int .i64 t695] rfl nM ?_; (with_reducible refine (laws_markIntS.calls kj24 (fun k_ => some k_ = (.slice Ao46 t669.length co46 : Value).ownBlock) (.slice Ao46 t669.length co46) t669 t695 t697 t698 w _ ?side1 ?side2 A64.out).mono ?_); (case side1 => repeat (first | (with_reducible first | exact HB.out | apply below_alloc | apply pw_below_drewN | apply below_drew1 | refine below_set ?_ GE643.out | refine below_set ?_ GE668.out) | exact HB.out)); (case side2 => exact Kd.R_tight rfl HO_13.out); rintro e w79 ⟨rfl, hy0, hb, hkp⟩; refine ⟨_, rfl, ?_⟩; have n0_ := Aside0.mk (Kd.R_mono (ok' := fun k_ => some k_ ≠ (.slice Ao46 t669.length co46 : Value).ownBlock ∧ some k_ ≠ (v677 : Value).ownBlock ∧ some k_ ≠ (.slice Ao42 t664.length co42 : Value).ownBlock ∧ some k_ ≠ (.slice Ao69 t682.length co69 : Value).ownBlock ∧ some k_ ≠ (.slice Ao72 t687.length co72 : Value).ownBlock) (Kd.R_keptB (HO_11.out) hkp (fun k_ hk_ hs_ => (hk_.1) hs_)) (fun k_ hk_ => ⟨hk_.1.1, hk_.1.2.1, hk_.1.2.2.1, hk_.1.2.2.2.1, hk_.1.2.2.2.2⟩)); have n1_ := Aside0.mk (Kd.R_reok rfl hy0 (fun k_ e_ => HO_13.out.1 k_ e_)); have n2_ := Aside0.mk (Kd.R_mono (ok' := fun k_ => some k_ ≠ (.slice Ao74 t691.length co74 : Value).ownBlock) (Kd.R_keptB ((Kd.R_apart' HO_14.out (Kd.R_typed HO_13.out) (by decide))) hkp (fun k_ hk_ hs_ => (hk_.2) hs_)) (fun k_ hk_ => hk_.1.1)); have n3_ := Aside0.mk (Kd.R_mono (ok' := fun k_ => some k_ ≠ (v660 : Value).ownBlock ∧ some k_ ≠ (.slice Ao46 t669.length co46 : Value).ownBlock ∧ some k_ ≠ (.slice Ao42 t664.length co42 : Value).ownBlock ∧ some k_ ≠ (.slice Ao69 t682.length co69 : Value).ownBlock ∧ some k_ ≠ (.slice Ao72 t687.length co72 : Value).ownBlock) (Kd.R_keptB (HO_16.out) hkp (fun k_ hk_ hs_ => (hk_.2.1) hs_)) (fun k_ hk_ => ⟨hk_.1.1, hk_.1.2.1, hk_.1.2.2.1, hk_.1.2.2.2.1, hk_.1.2.2.2.2⟩)); have n4_ := Aside0.mk (Kd.R_mono (ok' := fun k_ => some k_ ≠ (v660 : Value).ownBlock ∧ some k_ ≠ (.slice Ao46 t669.length co46 : Value).ownBlock ∧ some k_ ≠ (v677 : Value).ownBlock ∧ some k_ ≠ (.slice Ao69 t682.length co69 : Value).ownBlock ∧ some k_ ≠ (.slice Ao72 t687.length co72 : Value).ownBlock) (Kd.R_keptB (HO_669002.out) hkp (fun k_ hk_ hs_ => (hk_.1.1.2.1) hs_)) (fun k_ hk_ => ⟨hk_.1.1.1.1, hk_.1.1.1.2.1, hk_.1.1.1.2.2, hk_.1.1.2, hk_.1.2⟩)); have n5_ := Aside0.mk (blk_kept (nB BK643.out) hkp (fun hs_ => (fun e_ => (Kd.R_ne HO_13.out BK643.out (by decide)) e_) hs_)); have n6_ := Aside0.mk (blk_kept (nB BK668.out) hkp (fun hs_ => (fun e_ => (Kd.R_ne HO_13.out BK668.out (by decide)) e_) hs_)); have n7_ := Aside0.mk (Kd.R_mono (ok' := fun k_ => some k_ ≠ (v660 : Value).ownBlock ∧ some k_ ≠ (.slice Ao46 t669.length co46 : Value).ownBlock ∧ some k_ ≠ (v677 : Value).ownBlock ∧ some k_ ≠ (.slice Ao42 t664.length co42 : Value).ownBlock ∧ some k_ ≠ (.slice Ao72 t687.length co72 : Value).ownBlock) (Kd.R_keptB (HO684.out) hkp (fun k_ hk_ hs_ => (hk_.2.1) hs_)) (fun k_ hk_ => ⟨hk_.1.1, hk_.1.2.1, hk_.1.2.2.1, hk_.1.2.2.2.1, hk_.1.2.2.2.2⟩)); have n8_ := Aside0.mk (Kd.R_mono (ok' := fun k_ => some k_ ≠ (v660 : Value).ownBlock ∧ some k_ ≠ (.slice Ao46 t669.length co46 : Value).ownBlock ∧ some k_ ≠ (v677 : Value).ownBlock ∧ some k_ ≠ (.slice Ao42 t664.length co42 : Value).ownBlock ∧ some k_ ≠ (.slice Ao69 t682.length co69 : Value).ownBlock) (Kd.R_keptB (HO689.out) hkp (fun k_ hk_ hs_ => (hk_.2.1) hs_)) (fun k_ hk_ => ⟨hk_.1.1, hk_.1.2.1, hk_.1.2.2.1, hk_.1.2.2.2.1, hk_.1.2.2.2.2⟩)); have n9_ := Aside0.mk (Kd.R_mono (ok' := fun k_ => some k_ ≠ (.slice Ao47 t672.length co47 : Value).ownBlock) (Kd.R_keptB ((Kd.R_apart' HO693.out (Kd.R_typed HO_13.out) (by decide))) hkp (fun k_ hk_ hs_ => (hk_.2) hs_)) (fun k_ hk_ => hk_.1.1)); have n10_ := Aside0.mk (hb); clear HO_11; clear HO_13; clear HO_14; clear HO_16; clear HO_669002; clear BK643; clear BK668; clear HO684; clear HO689; clear HO693; clear HB; have HO_11 := n0_; have HO_13 := n1_; have HO_14 := n2_; have HO_16 := n3_; have HO_669002 := n4_; have BK643 := n5_; have BK668 := n6_; have HO684 := n7_; have HO689 := n8_; have HO693 := n9_; have HB := n10_; clear n0_ n1_ n2_ n3_ n4_ n5_ n6_ n7_ n8_ n9_ n10_; (try clear hb); (try clear hkp); (try clear hy0)) | ((with_reducible refine gate_callee (f := 40) rfl ?_); refine goesL_ (some 92) rfl rfl Try.func40 (by kernel_rfl) rfl #[.slice Ao47 t672.length co47, .int .i64 t697] rfl nM ?_; (with_reducible refine (laws_markCardS.calls kj24 (fun k_ => some k_ = (.slice Ao47 t672.length co47 : Value).ownBlock) (.slice Ao47 t672.length co47) t672 t697 t699 t700 w _ ?side1 ?side2 A65.out).mono ?_); (case side1 => repeat (first | (with_reducible first | exact HB.out | apply below_alloc | apply pw_below_drewN | apply below_drew1 | refine below_set ?_ GE643.out | refine below_set ?_ GE668.out) | exact HB.out)); (case side2 => exact Kd.R_tight rfl HO_14.out); rintro e w80 ⟨rfl, hy0, hb, hkp⟩; refine ⟨_, rfl, ?_⟩; have n0_ := Aside0.mk (Kd.R_mono (ok' := fun k_ => some k_ ≠ (.slice Ao46 t669.length co46 : Value).ownBlock ∧ some k_ ≠ (v677 : Value).ownBlock ∧ some k_ ≠ (.slice Ao42 t664.length co42 : Value).ownBlock ∧ some k_ ≠ (.slice Ao69 t682.length co69 : Value).ownBlock ∧ some k_ ≠ (.slice Ao72 t687.length co72 : Value).ownBlock) (Kd.R_keptB ((Kd.R_apart' HO_11.out (Kd.R_typed HO_14.out) (by decide))) hkp (fun k_ hk_ hs_ => (hk_.2) hs_)) (fun k_ hk_ => ⟨hk_.1.1.1, hk_.1.1.2.1, hk_.1.1.2.2.1, hk_.1.1.2.2.2.1, hk_.1.1.2.2.2.2⟩)); have n1_ := Aside0.mk (Kd.R_mono (ok' := fun k_ => some k_ ≠ (v660 : Value).ownBlock ∧ some k_ ≠ (v677 : Value).ownBlock ∧ some k_ ≠ (.slice Ao42 t664.length co42 : Value).ownBlock ∧ some k_ ≠ (.slice Ao69 t682.length co69 : Value).ownBlock ∧ some k_ ≠ (.slice Ao72 t687.length co72 : Value).ownBlock) (Kd.R_keptB ((Kd.R_apart' HO_13.out (Kd.R_typed HO_14.out) (by decide))) hkp (fun k_ hk_ hs_ => (hk_.2) hs_)) (fun k_ hk_ => ⟨hk_.1.1.1, hk_.1.1.2.1, hk_.1.1.2.2.1, hk_.1.1.2.2.2.1, hk_.1.1.2.2.2.2⟩)); have n2_ := Aside0.mk (Kd.R_reok rfl hy0 (fun k_ e_ => HO_14.out.1 k_ e_)); have n3_ := Aside0.mk (Kd.R_mono (ok' := fun k_ => some k_ ≠ (v660 : Value).ownBlock ∧ some k_ ≠ (.slice Ao46 t669.length co46 : Value).ownBlock ∧ some k_ ≠ (.slice Ao42 t664.length co42 : Value).ownBlock ∧ some k_ ≠ (.slice Ao69 t682.length co69 : Value).ownBlock ∧ some k_ ≠ (.slice Ao72 t687.length co72 : Value).ownBlock) (Kd.R_keptB ((Kd.R_apart' HO_16.out (Kd.R_typed HO_14.out) (by decide))) hkp (fun k_ hk_ hs_ => (hk_.2) hs_)) (fun k_ hk_ => ⟨hk_.1.1.1, hk_.1.1.2.1, hk_.1.1.2.2.1, hk_.1.1.2.2.2.1, hk_.1.1.2.2.2.2⟩)); have n4_ := Aside0.mk (Kd.R_mono (ok' := fun k_ => some k_ ≠ (v660 : Value).ownBlock ∧ some k_ ≠ (.slice Ao46 t669.length co46 : Value).ownBlock ∧ some k_ ≠ (v677 : Value).ownBlock ∧ some k_ ≠ (.slice Ao69 t682.length co69 : Value).ownBlock ∧ some k_ ≠ (.slice Ao72 t687.length co72 : Value).ownBlock) (Kd.R_keptB ((Kd.R_apart' HO_669002.out (Kd.R_typed HO_14.out) (by decide))) hkp (fun k_ hk_ hs_ => (hk_.2) hs_)) (fun k_ hk_ => ⟨hk_.1.1.1, hk_.1.1.2.1, hk_.1.1.2.2.1, hk_.1.1.2.2.2.1, hk_.1.1.2.2.2.2⟩)); have n5_ := Aside0.mk (blk_kept (nB BK643.out) hkp (fun hs_ => (fun e_ => (Kd.R_ne HO_14.out BK643.out (by decide)) e_) hs_)); have n6_ := Aside0.mk (blk_kept (nB BK668.out) hkp (fun hs_ => (fun e_ => (Kd.R_ne HO_14.out BK668.out (by decide)) e_) hs_)); have n7_ := Aside0.mk (Kd.R_mono (ok' := fun k_ => some k_ ≠ (v660 : Value).ownBlock ∧ some k_ ≠ (.slice Ao46 t669.length co46 : Value).ownBlock ∧ some k_ ≠ (v677 : Value).ownBlock ∧ some k_ ≠ (.slice Ao42 t664.length co42 : Value).ownBlock ∧ some k_ ≠ (.slice Ao72 t687.length co72 : Value).ownBlock) (Kd.R_keptB ((Kd.R_apart' HO684.out (Kd.R_typed HO_14.out) (by decide))) hkp (fun k_ hk_ hs_ => (hk_.2) hs_)) (fun k_ hk_ => ⟨hk_.1.1.1, hk_.1.1.2.1, hk_.1.1.2.2.1, hk_.1.1.2.2.2.1, hk_.1.1.2.2.2.2⟩)); have n8_ := Aside0.mk (Kd.R_mono (ok' := fun k_ => some k_ ≠ (v660 : Value).ownBlock ∧ some k_ ≠ (.slice Ao46 t669.length co46 : Value).ownBlock ∧ some k_ ≠ (v677 : Value).ownBlock ∧ some k_ ≠ (.slice Ao42 t664.length co42 : Value).ownBlock ∧ some k_ ≠ (.slice Ao69 t682.length co69 : Value).ownBlock) (Kd.R_keptB ((Kd.R_apart' HO689.out (Kd.R_typed HO_14.out) (by decide))) hkp (fun k_ hk_ hs_ => (hk_.2) hs_)) (fun k_ hk_ => ⟨hk_.1.1.1, hk_.1.1.2.1, hk_.1.1.2.2.1, hk_.1.1.2.2.2.1, hk_.1.1.2.2.2.2⟩)); have n9_ := Aside0.mk (Kd.R_mono (ok' := fun k_ => some k_ ≠ (.slice Ao47 t672.length co47 : Value).ownBlock) (Kd.R_keptB (HO693.out) hkp (fun k_ hk_ hs_ => (hk_) hs_)) (fun k_ hk_ => hk_.1)); have n10_ := Aside0.mk (hb); clear HO_11; clear HO_13; clear HO_14; clear HO_16; clear HO_669002; clear BK643; clear BK668; clear HO684; clear HO689; clear HO693; clear HB; have HO_11 := n0_; have HO_13 := n1_; have HO_14 := n2_; have HO_16 := n3_; have HO_669002 := n4_; have BK643 := n5_; have BK668 := n6_; have HO684 := n7_; have HO689 := n8_; have HO693 := n9_; have HB := n10_; clear n0_ n1_ n2_ n3_ n4_ n5_ n6_ n7_ n8_ n9_ n10_; (try clear hb); (try clear hkp); (try clear hy0)))
                 (try simp only [Act.put, List.setIfInBounds_toArray, List.set_cons_zero, List.set_cons_succ])
                 go_cut [105] (fun v105 wc => ∃ (kq : Nat) (x105_65 : Bool), v105 = .bool x105_65 ∧ Aside0 (laws_FnExactSplit.j1 kq l1 l2 a3 t658 t659 t676 x105_65 a0_0 a0_1 l0_2 a0_3 = some r) ∧ Aside0 (kq ≤ kj24) ∧ Aside0 (Kd.R (Kd.int .i64) 3 wc w.heap.size (fun k_ => some k_ ≠ (v677 : Value).ownBlock ∧ some k_ ≠ ((.slice Ao42 t664.length co42) : Value).ownBlock) v660 t659) ∧ Aside0 (Kd.R (Kd.int .i64) 3 wc w.heap.size (fun k_ => some k_ ≠ (v660 : Value).ownBlock ∧ some k_ ≠ ((.slice Ao42 t664.length co42) : Value).ownBlock) v677 t676) ∧ Aside0 (Kd.R (Kd.int .i64) 3 wc w.heap.size (fun k_ => some k_ ≠ (v660 : Value).ownBlock ∧ some k_ ≠ (v677 : Value).ownBlock) (.slice Ao42 t664.length co42) t696) ∧ Aside0 (wc.heap[gb643]? = some (.cells #[.int .i64 a0_0, .int .i64 a0_1, (.slice A0_2 l0_2.length c0_2), .int .i64 a0_3] 31 (0, 0))) ∧ Aside0 (wc.heap[gb668]? = some (.cells #[.int .i64 t662, .int .i64 t663, (.slice Ao42 t664.length co42), .int .i64 t667] 34 (0, 0))) ∧ Aside0 (Below w.heap.size w wc))
                 case first =>
                  have H := HC66.out; clear HC66
                  by_cases c81 : t699 < 0
                  · rw [if_pos c81] at H
                    have c81b0 : decide (t699 < 0) = true := decide_eq_true c81
                    clear c81
                    (first | rw [c81b0] | (simp only [i64_w, i32_w]; rw [c81b0]) | skip)
                    have H' := Aside0.mk H
                    clear H; go_wp2
                    go_meet
                    case rel => exact ⟨_, (true), nS, H', ⟨by have := HJ24.out; first | omega | exact Nat.le_refl _⟩, ⟨by (with_reducible repeat (first | apply Kd.R_alloc | apply Kd.R_drewN | apply Kd.R_drew)); exact Kd.R_mono HO_11.out (fun _ hk => ⟨hk.2.1, hk.2.2.1⟩)⟩, ⟨by (with_reducible repeat (first | apply Kd.R_alloc | apply Kd.R_drewN | apply Kd.R_drew)); exact Kd.R_mono HO_16.out (fun _ hk => ⟨hk.1, hk.2.2.1⟩)⟩, ⟨by (with_reducible repeat (first | apply Kd.R_alloc | apply Kd.R_drewN | apply Kd.R_drew)); exact Kd.R_mono HO_669002.out (fun _ hk => ⟨hk.1, hk.2.2.1⟩)⟩, ⟨by exact nB BK643.out⟩, ⟨by exact nB BK668.out⟩, ⟨nH2 HB.out GE643.out GE668.out⟩⟩
                  · rw [if_neg c81] at H
                    have c81b0 : decide (t699 < 0) = false := decide_eq_false c81
                    clear c81
                    (first | rw [c81b0] | (simp only [i64_w, i32_w]; rw [c81b0]) | skip)
                    by_cases c82 : t675 = t658
                    · rw [if_pos c82] at H
                      have c82b0 : (t675 == t658) = true := beq_iff_eq.mpr c82
                      have c82b1 : (t675 != t658) = false := bne_eq_false_iff_eq.mpr c82
                      clear c82
                      replace H := Option.bind_eq_some_iff.mp H
                      obtain ⟨t701, A830, H⟩ := H
                      replace H : (laws_FnExactSplit.j1 kj24 l1 l2 a3 t658 t659 t676 (!t701) a0_0 a0_1 l0_2 a0_3) = some r := H
                      have A83 := Aside0.mk A830
                      clear A830
                      have H' := Aside0.mk H
                      clear H
                      obtain ⟨Ao84, co84, eo84⟩ := Kd.R_slice HO_16.out
                      subst eo84
                      obtain ⟨Ao85, co85, eo85⟩ := Kd.R_slice HO_11.out
                      subst eo85
                      go_wp2_with (first | (go_at_call 34; (with_reducible refine (laws_eqIntS.calls kj24 _ _ t676 _ _ t659 t701 _ ?side1 ?side2 ?side3 ?side4 A83.out).mono ?_); (case side1 => repeat (first | exact (Kd.R_reads' HO_16.out).2.2 | (with_reducible refine Kd.C_alloc ?_ _) | (with_reducible refine Kd.C_drewN ?_ _) | (with_reducible refine Kd.C_drew ?_))); (case side2 => exact (Kd.R_reads' HO_16.out).2.1); (case side3 => repeat (first | exact (Kd.R_reads' HO_11.out).2.2 | (with_reducible refine Kd.C_alloc ?_ _) | (with_reducible refine Kd.C_drewN ?_ _) | (with_reducible refine Kd.C_drew ?_))); (case side4 => exact (Kd.R_reads' HO_11.out).2.1); rintro e w' ⟨rfl, ⟨nd, rfl⟩⟩))
                      go_meet
                      case rel => exact ⟨_, (!t701), nS, H', ⟨by have := HJ24.out; first | omega | exact Nat.le_refl _⟩, ⟨by (with_reducible repeat (first | apply Kd.R_alloc | apply Kd.R_drewN | apply Kd.R_drew)); exact Kd.R_mono HO_11.out (fun _ hk => ⟨hk.2.1, hk.2.2.1⟩)⟩, ⟨by (with_reducible repeat (first | apply Kd.R_alloc | apply Kd.R_drewN | apply Kd.R_drew)); exact Kd.R_mono HO_16.out (fun _ hk => ⟨hk.1, hk.2.2.1⟩)⟩, ⟨by (with_reducible repeat (first | apply Kd.R_alloc | apply Kd.R_drewN | apply Kd.R_drew)); exact Kd.R_mono HO_669002.out (fun _ hk => ⟨hk.1, hk.2.2.1⟩)⟩, ⟨by exact nB BK643.out⟩, ⟨by exact nB BK668.out⟩, ⟨nH2 HB.out GE643.out GE668.out⟩⟩
                    · rw [if_neg c82] at H
                      have c82b0 : (t675 == t658) = false := beq_eq_false_iff_ne.mpr c82
                      have c82b1 : (t675 != t658) = true := bne_iff_ne.mpr c82
                      have H' := Aside0.mk H
                      clear H; go_wp2
                      go_meet
                      case rel => exact ⟨_, (true), nS, H', ⟨by have := HJ24.out; first | omega | exact Nat.le_refl _⟩, ⟨by (with_reducible repeat (first | apply Kd.R_alloc | apply Kd.R_drewN | apply Kd.R_drew)); exact Kd.R_mono HO_11.out (fun _ hk => ⟨hk.2.1, hk.2.2.1⟩)⟩, ⟨by (with_reducible repeat (first | apply Kd.R_alloc | apply Kd.R_drewN | apply Kd.R_drew)); exact Kd.R_mono HO_16.out (fun _ hk => ⟨hk.1, hk.2.2.1⟩)⟩, ⟨by (with_reducible repeat (first | apply Kd.R_alloc | apply Kd.R_drewN | apply Kd.R_drew)); exact Kd.R_mono HO_669002.out (fun _ hk => ⟨hk.1, hk.2.2.1⟩)⟩, ⟨by exact nB BK643.out⟩, ⟨by exact nB BK668.out⟩, ⟨nH2 HB.out GE643.out GE668.out⟩⟩
                 case rest =>
                  clear HC66; try clear c1; try clear c2; try clear p2; try clear c3; try clear c4; try clear c5; try clear c5b0; try clear c5b1; try clear c6; try clear p6; try clear c7; try clear c8; try clear c8b0; try clear c11; try clear c12; try clear c13; try clear c13b0; try clear c14; try clear c16; try clear c17; try clear c19; try clear c21; try clear c32; try clear c34; try clear c35; try clear c36; try clear c38; try clear c39; try clear c40; try clear c49; try clear c49b0; try clear c49b1; try clear c53; try clear c56; try clear c59; try clear c62; try clear p64; try clear c76; try clear c81
                  try clear c81b0; try clear c82; try clear c82b0; try clear c82b1; try clear hcz10_0; try clear hcz10_1; try clear hcz10_2; try clear hcz10_3; try clear hcz15_0; try clear hcz15_1; try clear hcz15_2; try clear hcz15_3; try clear hcz27_0; try clear hcz27_1; try clear hcz27_2; try clear hcz27_3; try clear hcz29_0; try clear hcz29_1; try clear hcz29_2; try clear hcz29_3; try clear hcz37_0; try clear hcz37_1; try clear hcz37_2; try clear hcz37_3; try clear hcz41_0; try clear hcz41_1; try clear hcz41_2; try clear hcz41_3; try clear hcz45_0; try clear hcz45_1; try clear hcz45_2; try clear hcz45_3
                  try clear hcz77_0; try clear hcz77_1; try clear hcz77_2; try clear hcz77_3; try clear hfz10_0; try clear hfz10_1; try clear hfz10_2; try clear hfz10_3; try clear hfz15_0; try clear hfz15_1; try clear hfz15_2; try clear hfz15_3; try clear hfz27_0; try clear hfz27_1; try clear hfz27_2; try clear hfz27_3; try clear hfz29_0; try clear hfz29_1; try clear hfz29_2; try clear hfz29_3; try clear hfz37_0; try clear hfz37_1; try clear hfz37_2; try clear hfz37_3; try clear hfz41_0; try clear hfz41_1; try clear hfz41_2; try clear hfz41_3; try clear hfz45_0; try clear hfz45_1; try clear hfz45_2
                  try clear hfz45_3; try clear hfz77_0; try clear hfz77_1; try clear hfz77_2; try clear hfz77_3; try clear p2; try clear p6
                  obtain ⟨kq, x105_65, rfl, HA, HJ65, HO_11, HO_16, HO_669002, BK643, BK668, HB⟩ := hcut
                  have hl669002_65 := (Kd.R_reads' HO_669002.out).1
                  rw [hl669002_65] at HO_669002
                  (try simp only [hl669002_65])
                  (try simp only [hl669002_65] at BK643)
                  (try simp only [hl669002_65] at BK668)
                  (try simp only [hl669002_65] at HO_11)
                  (try simp only [hl669002_65] at HO_16)
                  cases kq with
                  | zero => exact absurd HA.out (by simp [laws_FnExactSplit.j1])
                  | succ kj65 =>
                   have H := HA.out; clear HA
                   simp only [laws_FnExactSplit.j1] at H
                   by_cases c86 : x105_65 = true
                   · subst c86
                     have H1 : (some false) = some r := by rw [if_pos rfl] at H; exact H
                     clear H; have H := H1; clear H1
                     exact absurd ((Option.some.inj H).trans ht.out) (by decide)
                   · replace c86 := Bool.eq_false_iff.mpr c86
                     subst c86
                     have H1 : ((laws_markIntS.f kj65 t676 1).bind fun bt702 => ((laws_heldIntS.f kj65 bt702.2 1).bind fun t704 => (if t704 < 0 then (some false) else (if t704 = bt702.1 then ((laws_toTariff.f kj65 a0_0 a0_1 l0_2 a0_3).bind fun bt705 => ((laws_toIntS.f kj65 l1).bind fun t711 => ((laws_toCardS.f kj65 l2).bind fun t714 => ((impl_Split.f kj65 bt705.1 bt705.2.1 bt705.2.2.1 bt705.2.2.2 t711 t714 a3).bind fun bt717 => (if bt717.1 = t658 then ((laws_eqIntS.f kj65 bt717.2 t659).bind fun t721 => (laws_FnExactSplit.j2 kj65 bt702.2 bt702.1 (!t721))) else (laws_FnExactSplit.j2 kj65 bt702.2 bt702.1 true)))))) else (some false))))) = some r := by rw [if_neg (show ¬ (false = true) by decide)] at H; exact H
                     clear H; have H := H1; clear H1
                     replace H := Option.bind_eq_some_iff.mp H
                     obtain ⟨⟨t702, t703⟩, A870, H⟩ := H
                     replace H : ((laws_heldIntS.f kj65 t703 1).bind fun t704 => (if t704 < 0 then (some false) else (if t704 = t702 then ((laws_toTariff.f kj65 a0_0 a0_1 l0_2 a0_3).bind fun bt705 => ((laws_toIntS.f kj65 l1).bind fun t711 => ((laws_toCardS.f kj65 l2).bind fun t714 => ((impl_Split.f kj65 bt705.1 bt705.2.1 bt705.2.2.1 bt705.2.2.2 t711 t714 a3).bind fun bt717 => (if bt717.1 = t658 then ((laws_eqIntS.f kj65 bt717.2 t659).bind fun t721 => (laws_FnExactSplit.j2 kj65 t703 t702 (!t721))) else (laws_FnExactSplit.j2 kj65 t703 t702 true)))))) else (some false)))) = some r := H
                     have A87 := Aside0.mk A870
                     clear A870
                     replace H := Option.bind_eq_some_iff.mp H
                     obtain ⟨t704, A880, H⟩ := H
                     replace H : (if t704 < 0 then (some false) else (if t704 = t702 then ((laws_toTariff.f kj65 a0_0 a0_1 l0_2 a0_3).bind fun bt705 => ((laws_toIntS.f kj65 l1).bind fun t711 => ((laws_toCardS.f kj65 l2).bind fun t714 => ((impl_Split.f kj65 bt705.1 bt705.2.1 bt705.2.2.1 bt705.2.2.2 t711 t714 a3).bind fun bt717 => (if bt717.1 = t658 then ((laws_eqIntS.f kj65 bt717.2 t659).bind fun t721 => (laws_FnExactSplit.j2 kj65 t703 t702 (!t721))) else (laws_FnExactSplit.j2 kj65 t703 t702 true)))))) else (some false))) = some r := H
                     have A88 := Aside0.mk A880
                     clear A880
                     by_cases c89 : t704 < 0
                     · rw [if_pos c89] at H
                       have c89b0 : decide (t704 < 0) = true := decide_eq_true c89
                       clear c89
                       exact absurd ((Option.some.inj H).trans ht.out) (by decide)
                     · rw [if_neg c89] at H
                       have c89b0 : decide (t704 < 0) = false := decide_eq_false c89
                       clear c89
                       by_cases c90 : t704 = t702
                       · rw [if_pos c90] at H
                         have c90b0 : (t704 == t702) = true := beq_iff_eq.mpr c90
                         have c90b1 : (t704 != t702) = false := bne_eq_false_iff_eq.mpr c90
                         clear c90
                         replace H := Option.bind_eq_some_iff.mp H
                         obtain ⟨⟨t705, t706, t707, t710⟩, A910, H⟩ := H
                         replace H : ((laws_toIntS.f kj65 l1).bind fun t711 => ((laws_toCardS.f kj65 l2).bind fun t714 => ((impl_Split.f kj65 t705 t706 t707 t710 t711 t714 a3).bind fun bt717 => (if bt717.1 = t658 then ((laws_eqIntS.f kj65 bt717.2 t659).bind fun t721 => (laws_FnExactSplit.j2 kj65 t703 t702 (!t721))) else (laws_FnExactSplit.j2 kj65 t703 t702 true))))) = some r := H
                         have A91 := Aside0.mk A910
                         clear A910
                         replace H := Option.bind_eq_some_iff.mp H
                         obtain ⟨t711, A920, H⟩ := H
                         replace H : ((laws_toCardS.f kj65 l2).bind fun t714 => ((impl_Split.f kj65 t705 t706 t707 t710 t711 t714 a3).bind fun bt717 => (if bt717.1 = t658 then ((laws_eqIntS.f kj65 bt717.2 t659).bind fun t721 => (laws_FnExactSplit.j2 kj65 t703 t702 (!t721))) else (laws_FnExactSplit.j2 kj65 t703 t702 true)))) = some r := H
                         have A92 := Aside0.mk A920
                         clear A920
                         replace H := Option.bind_eq_some_iff.mp H
                         obtain ⟨t714, A930, H⟩ := H
                         replace H : ((impl_Split.f kj65 t705 t706 t707 t710 t711 t714 a3).bind fun bt717 => (if bt717.1 = t658 then ((laws_eqIntS.f kj65 bt717.2 t659).bind fun t721 => (laws_FnExactSplit.j2 kj65 t703 t702 (!t721))) else (laws_FnExactSplit.j2 kj65 t703 t702 true))) = some r := H
                         have A93 := Aside0.mk A930
                         clear A930
                         replace H := Option.bind_eq_some_iff.mp H
                         obtain ⟨⟨t717, t718⟩, A940, H⟩ := H
                         replace H : (if t717 = t658 then ((laws_eqIntS.f kj65 t718 t659).bind fun t721 => (laws_FnExactSplit.j2 kj65 t703 t702 (!t721))) else (laws_FnExactSplit.j2 kj65 t703 t702 true)) = some r := H
                         have A94 := Aside0.mk A940
                         clear A940
                         have HC95 := Aside0.mk H
                         clear H
                         obtain ⟨Ao96, co96, eo96⟩ := Kd.R_slice HO_16.out
                         subst eo96
                         go_upto_region 38 with (first | ((with_reducible refine gate_callee (f := 39) rfl ?_); refine goesL_ (some 108) rfl rfl Try.func39 (by kernel_rfl) rfl #[.slice Ao96 t676.length co96, .int .i64 1] rfl nM ?_; (with_reducible refine (laws_markIntS.calls kj65 (fun k_ => some k_ = (.slice Ao96 t676.length co96 : Value).ownBlock) (.slice Ao96 t676.length co96) t676 1 t702 t703 w _ ?side1 ?side2 A87.out).mono ?_); (case side1 => repeat (first | (with_reducible first | exact HB.out | apply below_alloc | apply pw_below_drewN | apply below_drew1 | refine below_set ?_ GE643.out | refine below_set ?_ GE668.out) | exact HB.out)); (case side2 => exact Kd.R_tight rfl HO_16.out); rintro e w97 ⟨rfl, hy0, hb, hkp⟩; refine ⟨_, rfl, ?_⟩; have n0_ := Aside0.mk (Kd.R_mono (ok' := fun k_ => some k_ ≠ (.slice Ao96 t676.length co96 : Value).ownBlock ∧ some k_ ≠ (.slice Ao42 t696.length co42 : Value).ownBlock) (Kd.R_keptB (HO_11.out) hkp (fun k_ hk_ hs_ => (hk_.1) hs_)) (fun k_ hk_ => ⟨hk_.1.1, hk_.1.2⟩)); have n1_ := Aside0.mk (Kd.R_reok rfl hy0 (fun k_ e_ => HO_16.out.1 k_ e_)); have n2_ := Aside0.mk (Kd.R_mono (ok' := fun k_ => some k_ ≠ (v660 : Value).ownBlock ∧ some k_ ≠ (.slice Ao96 t676.length co96 : Value).ownBlock) (Kd.R_keptB (HO_669002.out) hkp (fun k_ hk_ hs_ => (hk_.2) hs_)) (fun k_ hk_ => ⟨hk_.1.1, hk_.1.2⟩)); have n3_ := Aside0.mk (blk_kept (nB BK643.out) hkp (fun hs_ => (fun e_ => (Kd.R_ne HO_16.out BK643.out (by decide)) e_) hs_)); have n4_ := Aside0.mk (blk_kept (nB BK668.out) hkp (fun hs_ => (fun e_ => (Kd.R_ne HO_16.out BK668.out (by decide)) e_) hs_)); have n5_ := Aside0.mk (hb); clear HO_11; clear HO_16; clear HO_669002; clear BK643; clear BK668; clear HB; have HO_11 := n0_; have HO_16 := n1_; have HO_669002 := n2_; have BK643 := n3_; have BK668 := n4_; have HB := n5_; clear n0_ n1_ n2_ n3_ n4_ n5_; (try clear hb); (try clear hkp); (try clear hy0)) | ((with_reducible refine gate_callee (f := 41) rfl ?_); refine goesL_ (some 111) rfl rfl Try.func41 (by kernel_rfl) rfl #[.slice Ao96 t703.length co96, .int .i64 1] rfl (by (try simp only [List.map_toArray, List.map_cons, List.map_nil]); first | done | (rw [show t703.length = t676.length from (Kd.R_reads' HO_16.out).1.symm] <;> rfl) | rfl | (simp only [List.length_drop, List.length_take]; rfl)) ?_; (with_reducible refine (laws_heldIntS.calls kj65 _ _ t703 1 t704 _ ?side1 ?side2 A88.out).mono ?_); (case side1 => repeat (first | exact (Kd.R_reads' HO_16.out).2.2 | (with_reducible refine Kd.C_alloc ?_ _) | (with_reducible refine Kd.C_drewN ?_ _) | (with_reducible refine Kd.C_drew ?_))); (case side2 => rw [show t703.length = t676.length from (Kd.R_reads' HO_16.out).1.symm]; exact (Kd.R_reads' HO_16.out).2.1); rintro e w' ⟨rfl, ⟨nd, rfl⟩⟩; refine ⟨_, rfl, ?_⟩; have hnb98 := NB643_668.out; have hnc98 := NB668_643.out; have hcz99_0 : w97.cell? ⟨gb643, 0, none⟩ = some (.int .i64 a0_0) := (blk_cell BK643.out 0).trans rfl; have hcz99_1 : w97.cell? ⟨gb643, 1, none⟩ = some (.int .i64 a0_1) := (blk_cell BK643.out 1).trans rfl; have hcz99_2 : w97.cell? ⟨gb643, 2, none⟩ = some (.slice A0_2 l0_2.length c0_2) := (blk_cell BK643.out 2).trans rfl; have hcz99_3 : w97.cell? ⟨gb643, 3, none⟩ = some (.int .i64 a0_3) := (blk_cell BK643.out 3).trans rfl; have hfz99_0 := blk_frozen BK643.out 0; have hfz99_1 := blk_frozen BK643.out 1; have hfz99_2 := blk_frozen BK643.out 2; have hfz99_3 := blk_frozen BK643.out 3) | ((with_reducible refine gate_callee (f := 19) rfl ?_); refine goesL_ (some 119) rfl rfl Try.func19 (by kernel_rfl) rfl #[.agg #[.int .i64 a0_0, .int .i64 a0_1, .slice A0_2 l0_2.length c0_2, .int .i64 a0_3]] rfl nM ?_; (with_reducible refine (laws_toTariff.calls kj65 a0_0 a0_1 _ _ l0_2 a0_3 t705 t706 t707 t710 _ ?side1 ?side2 A91.out).mono ?_); (case side1 => repeat (first | exact (Kd.C_below HR0_2.out (nH2 HB.out GE643.out GE668.out)) | (with_reducible refine Kd.C_alloc ?_ _) | (with_reducible refine Kd.C_drewN ?_ _) | (with_reducible refine Kd.C_drew ?_))); (case side2 => exact HC0_2.out); rintro e w100 ⟨v708, rfl, ho0, hb⟩; refine ⟨_, rfl, ?_⟩; have n0_ := Aside0.mk (Kd.R_elder' (nR HO_11.out) (Kd.R_base ho0) hb); have n1_ := Aside0.mk (Kd.R_elder' (nR HO_16.out) (Kd.R_base ho0) hb); have n2_ := Aside0.mk (Kd.R_elder' (nR HO_669002.out) (Kd.R_base ho0) hb); have n3_ := Aside0.mk (Kd.R_lower (Kd.R_new' (Kd.R_new' (Kd.R_new' ho0 (Kd.R_lt (nR HO_11.out))) (Kd.R_lt (nR HO_16.out))) (Kd.R_lt (nR HO_669002.out))) (below_size (nH2 HB.out GE643.out GE668.out))); have n4_ := Aside0.mk (blk_below (g := gb643) (o := .cells #[.int .i64 a0_0, .int .i64 a0_1, .slice A0_2 l0_2.length c0_2, .int .i64 a0_3] 31 (0, 0)) (nB BK643.out) hb); have n5_ := Aside0.mk (blk_below (g := gb668) (o := .cells #[.int .i64 t662, .int .i64 t663, .slice Ao42 t696.length co42, .int .i64 t667] 34 (0, 0)) (nB BK668.out) hb); have n6_ := Aside0.mk (below_step (nH2 HB.out GE643.out GE668.out) hb); clear HO_11; clear HO_16; clear HO_669002; clear BK643; clear BK668; clear HB; have HO_11 := n0_; have HO_16 := n1_; have HO_669002 := n2_; have HO709 := n3_; have BK643 := n4_; have BK668 := n5_; have HB := n6_; clear n0_ n1_ n2_ n3_ n4_ n5_ n6_; (try clear hb); (try clear hb2); (try clear hk); (try clear hi); (try clear ho0)) | ((with_reducible refine gate_callee (f := 32) rfl ?_); refine goesL_ (some 121) rfl rfl Try.func32 (by kernel_rfl) rfl #[.slice A1 l1.length c1] rfl nM ?_; (with_reducible refine (laws_toIntS.calls kj65 _ _ l1 t711 _ ?side1 ?side2 A92.out).mono ?_); (case side1 => exact nD HR1.out HB.out); (case side2 => exact HC1.out); rintro e w101 ⟨v712, rfl, ho0, hb⟩; refine ⟨_, rfl, ?_⟩; have n0_ := Aside0.mk (Kd.R_elder' (nR HO_11.out) (Kd.R_base ho0) hb); have n1_ := Aside0.mk (Kd.R_elder' (nR HO_16.out) (Kd.R_base ho0) hb); have n2_ := Aside0.mk (Kd.R_elder' (nR HO_669002.out) (Kd.R_base ho0) hb); have n3_ := Aside0.mk (Kd.R_elder' (nR HO709.out) (Kd.R_base ho0) hb); have n4_ := Aside0.mk (Kd.R_lower (Kd.R_new' (Kd.R_new' (Kd.R_new' (Kd.R_new' ho0 (Kd.R_lt (nR HO_11.out))) (Kd.R_lt (nR HO_16.out))) (Kd.R_lt (nR HO_669002.out))) (Kd.R_lt (nR HO709.out))) (below_size (nH2 HB.out GE643.out GE668.out))); have n5_ := Aside0.mk (blk_below (g := gb643) (o := .cells #[.int .i64 a0_0, .int .i64 a0_1, .slice A0_2 l0_2.length c0_2, .int .i64 a0_3] 31 (0, 0)) (nB BK643.out) hb); have n6_ := Aside0.mk (blk_below (g := gb668) (o := .cells #[.int .i64 t662, .int .i64 t663, .slice Ao42 t696.length co42, .int .i64 t667] 34 (0, 0)) (nB BK668.out) hb); have n7_ := Aside0.mk (below_step (nH2 HB.out GE643.out GE668.out) hb); clear HO_11; clear HO_16; clear HO_669002; clear HO709; clear BK643; clear BK668; clear HB; have HO_11 := n0_; have HO_16 := n1_; have HO_669002 := n2_; have HO709 := n3_; have HO713 := n4_; have BK643 := n5_; have BK668 := n6_; have HB := n7_; clear n0_ n1_ n2_ n3_ n4_ n5_ n6_ n7_; (try clear hb); (try clear hb2); (try clear hk); (try clear hi); (try clear ho0)) | ((with_reducible refine gate_callee (f := 14) rfl ?_); refine goesL_ (some 123) rfl rfl Try.func14 (by kernel_rfl) rfl #[.slice A2 l2.length c2] rfl nM ?_; (with_reducible refine (laws_toCardS.calls kj65 _ _ l2 t714 _ ?side1 ?side2 A93.out).mono ?_); (case side1 => exact nD HR2.out HB.out); (case side2 => exact HC2.out); rintro e w102 ⟨v715, rfl, ho0, hb⟩; refine ⟨_, rfl, ?_⟩; have n0_ := Aside0.mk (Kd.R_below (nR HO_11.out) hb); have n1_ := Aside0.mk (Kd.R_below (nR HO_16.out) hb); have n2_ := Aside0.mk (Kd.R_below (nR HO_669002.out) hb); have n3_ := Aside0.mk (Kd.R_below (nR HO709.out) hb); have n4_ := Aside0.mk (Kd.R_below (nR HO713.out) hb); have n5_ := Aside0.mk (Kd.R_lower ho0 (below_size (nH2 HB.out GE643.out GE668.out))); have n6_ := Aside0.mk (blk_below (g := gb643) (o := .cells #[.int .i64 a0_0, .int .i64 a0_1, .slice A0_2 l0_2.length c0_2, .int .i64 a0_3] 31 (0, 0)) (nB BK643.out) hb); have n7_ := Aside0.mk (blk_below (g := gb668) (o := .cells #[.int .i64 t662, .int .i64 t663, .slice Ao42 t696.length co42, .int .i64 t667] 34 (0, 0)) (nB BK668.out) hb); have n8_ := Aside0.mk (below_step (nH2 HB.out GE643.out GE668.out) hb); clear HO_11; clear HO_16; clear HO_669002; clear HO709; clear HO713; clear BK643; clear BK668; clear HB; have HO_11 := n0_; have HO_16 := n1_; have HO_669002 := n2_; have HO709 := n3_; have HO713 := n4_; have HO716 := n5_; have BK643 := n6_; have BK668 := n7_; have HB := n8_; clear n0_ n1_ n2_ n3_ n4_ n5_ n6_ n7_ n8_; (try clear hb); (try clear hb2); (try clear hk); (try clear hi); (try clear ho0); obtain ⟨Ao103, co103, eo103⟩ := Kd.R_slice HO709.out; subst eo103; obtain ⟨Ao104, co104, eo104⟩ := Kd.R_slice HO713.out; subst eo104; obtain ⟨Ao105, co105, eo105⟩ := Kd.R_slice HO716.out; subst eo105) | ((with_reducible refine gate_callee (f := 35) rfl ?_); refine goesL_ (some 125) rfl rfl Try.func35 (by kernel_rfl) rfl #[.agg #[.int .i64 t705, .int .i64 t706, .slice Ao103 t707.length co103, .int .i64 t710], .slice Ao104 t711.length co104, .slice Ao105 t714.length co105, .int .i64 a3] rfl nM ?_; (with_reducible refine (impl_Split.calls kj65 t705 t706 _ _ t707 t710 _ _ t711 _ _ t714 a3 t717 t718 _ ?side1 ?side2 ?side3 ?side4 ?side5 ?side6 A94.out).mono ?_); (case side1 => repeat (first | exact (Kd.R_reads' HO709.out).2.2 | (with_reducible refine Kd.C_alloc ?_ _) | (with_reducible refine Kd.C_drewN ?_ _) | (with_reducible refine Kd.C_drew ?_))); (case side2 => exact (Kd.R_reads' HO709.out).2.1); (case side3 => repeat (first | exact (Kd.R_reads' HO713.out).2.2 | (with_reducible refine Kd.C_alloc ?_ _) | (with_reducible refine Kd.C_drewN ?_ _) | (with_reducible refine Kd.C_drew ?_))); (case side4 => exact (Kd.R_reads' HO713.out).2.1); (case side5 => repeat (first | exact (Kd.R_reads' HO716.out).2.2 | (with_reducible refine Kd.C_alloc ?_ _) | (with_reducible refine Kd.C_drewN ?_ _) | (with_reducible refine Kd.C_drew ?_))); (case side6 => exact (Kd.R_reads' HO716.out).2.1); rintro e w106 ⟨v719, rfl, ho0, hb⟩; refine ⟨_, rfl, ?_⟩; have n0_ := Aside0.mk (Kd.R_elder' (nR HO_11.out) (Kd.R_base ho0) hb); have n1_ := Aside0.mk (Kd.R_elder' (nR HO_16.out) (Kd.R_base ho0) hb); have n2_ := Aside0.mk (Kd.R_elder' (nR HO_669002.out) (Kd.R_base ho0) hb); have n3_ := Aside0.mk (Kd.R_elder' (nR HO709.out) (Kd.R_base ho0) hb); have n4_ := Aside0.mk (Kd.R_elder' (nR HO713.out) (Kd.R_base ho0) hb); have n5_ := Aside0.mk (Kd.R_below (nR HO716.out) hb); have n6_ := Aside0.mk (Kd.R_lower (Kd.R_new' (Kd.R_new' (Kd.R_new' (Kd.R_new' (Kd.R_new' ho0 (Kd.R_lt (nR HO_11.out))) (Kd.R_lt (nR HO_16.out))) (Kd.R_lt (nR HO_669002.out))) (Kd.R_lt (nR HO709.out))) (Kd.R_lt (nR HO713.out))) (below_size (nH2 HB.out GE643.out GE668.out))); have n7_ := Aside0.mk (blk_below (g := gb643) (o := .cells #[.int .i64 a0_0, .int .i64 a0_1, .slice A0_2 l0_2.length c0_2, .int .i64 a0_3] 31 (0, 0)) (nB BK643.out) hb); have n8_ := Aside0.mk (blk_below (g := gb668) (o := .cells #[.int .i64 t662, .int .i64 t663, .slice Ao42 t696.length co42, .int .i64 t667] 34 (0, 0)) (nB BK668.out) hb); have n9_ := Aside0.mk (below_step (nH2 HB.out GE643.out GE668.out) hb); clear HO_11; clear HO_16; clear HO_669002; clear HO709; clear HO713; clear HO716; clear BK643; clear BK668; clear HB; have HO_11 := n0_; have HO_16 := n1_; have HO_669002 := n2_; have HO709 := n3_; have HO713 := n4_; have HO716 := n5_; have HO720 := n6_; have BK643 := n7_; have BK668 := n8_; have HB := n9_; clear n0_ n1_ n2_ n3_ n4_ n5_ n6_ n7_ n8_ n9_; (try clear hb); (try clear hb2); (try clear hk); (try clear hi); (try clear ho0)))
                         (try simp only [Act.put, List.setIfInBounds_toArray, List.set_cons_zero, List.set_cons_succ])
                         go_cut [136] (fun v136 wc => ∃ (kq : Nat) (x136_94 : Bool), v136 = .bool x136_94 ∧ Aside0 (laws_FnExactSplit.j2 kq t703 t702 x136_94 = some r) ∧ Aside0 (kq ≤ kj65) ∧ Aside0 (Kd.R (Kd.int .i64) 3 wc w.heap.size (fun k_ => some k_ ≠ ((.slice Ao42 t696.length co42) : Value).ownBlock) (.slice Ao96 t676.length co96) t703) ∧ Aside0 (Kd.R (Kd.int .i64) 3 wc w.heap.size (fun k_ => some k_ ≠ ((.slice Ao96 t676.length co96) : Value).ownBlock) (.slice Ao42 t696.length co42) t696) ∧ Aside0 (wc.heap[gb643]? = some (.cells #[.int .i64 a0_0, .int .i64 a0_1, (.slice A0_2 l0_2.length c0_2), .int .i64 a0_3] 31 (0, 0))) ∧ Aside0 (wc.heap[gb668]? = some (.cells #[.int .i64 t662, .int .i64 t663, (.slice Ao42 t696.length co42), .int .i64 t667] 34 (0, 0))) ∧ Aside0 (Below w.heap.size w wc))
                         case first =>
                          have H := HC95.out; clear HC95
                          by_cases c107 : t717 = t658
                          · rw [if_pos c107] at H
                            have c107b0 : (t717 == t658) = true := beq_iff_eq.mpr c107
                            have c107b1 : (t717 != t658) = false := bne_eq_false_iff_eq.mpr c107
                            clear c107
                            (first | rw [c107b0] | (simp only [i64_w, i32_w]; rw [c107b0]) | skip)
                            replace H := Option.bind_eq_some_iff.mp H
                            obtain ⟨t721, A1080, H⟩ := H
                            replace H : (laws_FnExactSplit.j2 kj65 t703 t702 (!t721)) = some r := H
                            have A108 := Aside0.mk A1080
                            clear A1080
                            have H' := Aside0.mk H
                            clear H
                            obtain ⟨Ao109, co109, eo109⟩ := Kd.R_slice HO720.out
                            subst eo109
                            obtain ⟨Ao110, co110, eo110⟩ := Kd.R_slice HO_11.out
                            subst eo110
                            go_wp2_with (first | (go_at_call 34; (with_reducible refine (laws_eqIntS.calls kj65 _ _ t718 _ _ t659 t721 _ ?side1 ?side2 ?side3 ?side4 A108.out).mono ?_); (case side1 => repeat (first | exact (Kd.R_reads' HO720.out).2.2 | (with_reducible refine Kd.C_alloc ?_ _) | (with_reducible refine Kd.C_drewN ?_ _) | (with_reducible refine Kd.C_drew ?_))); (case side2 => exact (Kd.R_reads' HO720.out).2.1); (case side3 => repeat (first | exact (Kd.R_reads' HO_11.out).2.2 | (with_reducible refine Kd.C_alloc ?_ _) | (with_reducible refine Kd.C_drewN ?_ _) | (with_reducible refine Kd.C_drew ?_))); (case side4 => exact (Kd.R_reads' HO_11.out).2.1); rintro e w' ⟨rfl, ⟨nd, rfl⟩⟩))
                            go_meet
                            case rel => exact ⟨_, (!t721), nS, H', ⟨by have := HJ24.out; have := HJ65.out; first | omega | exact Nat.le_refl _⟩, ⟨by (try simp only [hl669002_65]); (with_reducible repeat (first | apply Kd.R_alloc | apply Kd.R_drewN | apply Kd.R_drew)); exact Kd.R_mono HO_16.out (fun _ hk => hk.1.1.1.2)⟩, ⟨by (try simp only [hl669002_65]); (with_reducible repeat (first | apply Kd.R_alloc | apply Kd.R_drewN | apply Kd.R_drew)); exact Kd.R_mono HO_669002.out (fun _ hk => hk.1.1.1.2)⟩, ⟨by (try simp only [hl669002_65]); exact nB BK643.out⟩, ⟨by (try simp only [hl669002_65]); exact nB BK668.out⟩, ⟨nH2 HB.out GE643.out GE668.out⟩⟩
                          · rw [if_neg c107] at H
                            have c107b0 : (t717 == t658) = false := beq_eq_false_iff_ne.mpr c107
                            have c107b1 : (t717 != t658) = true := bne_iff_ne.mpr c107
                            (first | rw [c107b0] | (simp only [i64_w, i32_w]; rw [c107b0]) | skip)
                            have H' := Aside0.mk H
                            clear H; go_wp2
                            go_meet
                            case rel => exact ⟨_, (true), nS, H', ⟨by have := HJ24.out; have := HJ65.out; first | omega | exact Nat.le_refl _⟩, ⟨by (try simp only [hl669002_65]); (with_reducible repeat (first | apply Kd.R_alloc | apply Kd.R_drewN | apply Kd.R_drew)); exact Kd.R_mono HO_16.out (fun _ hk => hk.1.1.1.2)⟩, ⟨by (try simp only [hl669002_65]); (with_reducible repeat (first | apply Kd.R_alloc | apply Kd.R_drewN | apply Kd.R_drew)); exact Kd.R_mono HO_669002.out (fun _ hk => hk.1.1.1.2)⟩, ⟨by (try simp only [hl669002_65]); exact nB BK643.out⟩, ⟨by (try simp only [hl669002_65]); exact nB BK668.out⟩, ⟨nH2 HB.out GE643.out GE668.out⟩⟩
                         case rest =>
                          clear HC95; try clear c1; try clear c2; try clear p2; try clear c3; try clear c4; try clear c5; try clear c5b0; try clear c5b1; try clear c6; try clear p6; try clear c7; try clear c8; try clear c8b0; try clear c9; try clear c10; try clear c11; try clear c12; try clear c13; try clear c13b0; try clear c14; try clear c16; try clear c17; try clear c19; try clear c21; try clear c32; try clear c34; try clear c35; try clear c36; try clear c38; try clear c39; try clear c40; try clear c41; try clear c49; try clear c49b0; try clear c49b1; try clear c53; try clear c56; try clear c59
                          try clear c62; try clear p64; try clear c76; try clear c81; try clear c81b0; try clear c82; try clear c82b0; try clear c82b1; try clear c86; try clear c89; try clear c89b0; try clear c90; try clear c90b0; try clear c90b1; try clear c98; try clear c107; try clear c107b0; try clear c107b1; try clear hcz10_0; try clear hcz10_1; try clear hcz10_2; try clear hcz10_3; try clear hcz15_0; try clear hcz15_1; try clear hcz15_2; try clear hcz15_3; try clear hcz27_0; try clear hcz27_1; try clear hcz27_2; try clear hcz27_3; try clear hcz29_0; try clear hcz29_1; try clear hcz29_2; try clear hcz29_3
                          try clear hcz37_0; try clear hcz37_1; try clear hcz37_2; try clear hcz37_3; try clear hcz41_0; try clear hcz41_1; try clear hcz41_2; try clear hcz41_3; try clear hcz45_0; try clear hcz45_1; try clear hcz45_2; try clear hcz45_3; try clear hcz77_0; try clear hcz77_1; try clear hcz77_2; try clear hcz77_3; try clear hcz99_0; try clear hcz99_1; try clear hcz99_2; try clear hcz99_3; try clear hfz10_0; try clear hfz10_1; try clear hfz10_2; try clear hfz10_3; try clear hfz15_0; try clear hfz15_1; try clear hfz15_2; try clear hfz15_3; try clear hfz27_0; try clear hfz27_1; try clear hfz27_2
                          try clear hfz27_3; try clear hfz29_0; try clear hfz29_1; try clear hfz29_2; try clear hfz29_3; try clear hfz37_0; try clear hfz37_1; try clear hfz37_2; try clear hfz37_3; try clear hfz41_0; try clear hfz41_1; try clear hfz41_2; try clear hfz41_3; try clear hfz45_0; try clear hfz45_1; try clear hfz45_2; try clear hfz45_3; try clear hfz77_0; try clear hfz77_1; try clear hfz77_2; try clear hfz77_3; try clear hfz99_0; try clear hfz99_1; try clear hfz99_2; try clear hfz99_3; try clear p2; try clear p6; try clear p64
                          obtain ⟨kq, x136_94, rfl, HA, HJ94, HO_16, HO_669002, BK643, BK668, HB⟩ := hcut
                          have hl16_94 := (Kd.R_reads' HO_16.out).1
                          rw [hl16_94] at HO_16
                          (try simp only [hl16_94])
                          (try simp only [hl16_94] at BK643)
                          (try simp only [hl16_94] at BK668)
                          (try simp only [hl16_94] at HO_669002)
                          cases kq with
                          | zero => exact absurd HA.out (by simp [laws_FnExactSplit.j2])
                          | succ kj94 =>
                           have H := HA.out; clear HA
                           simp only [laws_FnExactSplit.j2] at H
                           by_cases c111 : x136_94 = true
                           · subst c111
                             have H1 : (some false) = some r := by rw [if_pos rfl] at H; exact H
                             clear H; have H := H1; clear H1
                             exact absurd ((Option.some.inj H).trans ht.out) (by decide)
                           · replace c111 := Bool.eq_false_iff.mpr c111
                             subst c111
                             have H1 : ((laws_heldIntS.f kj94 t703 1).bind fun t722 => (if t722 < 0 then (some false) else (if t722 = t702 then (some true) else (some false)))) = some r := by rw [if_neg (show ¬ (false = true) by decide)] at H; exact H
                             clear H; have H := H1; clear H1
                             replace H := Option.bind_eq_some_iff.mp H
                             obtain ⟨t722, A1120, H⟩ := H
                             replace H : (if t722 < 0 then (some false) else (if t722 = t702 then (some true) else (some false))) = some r := H
                             have A112 := Aside0.mk A1120
                             clear A1120
                             by_cases c113 : t722 < 0
                             · rw [if_pos c113] at H
                               have c113b0 : decide (t722 < 0) = true := decide_eq_true c113
                               clear c113
                               exact absurd ((Option.some.inj H).trans ht.out) (by decide)
                             · rw [if_neg c113] at H
                               have c113b0 : decide (t722 < 0) = false := decide_eq_false c113
                               clear c113
                               by_cases c114 : t722 = t702
                               · rw [if_pos c114] at H
                                 have c114b0 : (t722 == t702) = true := beq_iff_eq.mpr c114
                                 have c114b1 : (t722 != t702) = false := bne_eq_false_iff_eq.mpr c114
                                 clear c114; obtain rfl := Option.some.inj H
                                 go_wp2_with (first | ((with_reducible refine gate_callee (f := 41) rfl ?_); refine goesL_ (some 139) rfl rfl Try.func41 (by kernel_rfl) rfl #[.slice Ao96 t703.length co96, .int .i64 1] rfl nM ?_; (with_reducible refine (laws_heldIntS.calls kj94 _ _ t703 1 t722 _ ?side1 ?side2 A112.out).mono ?_); (case side1 => repeat (first | exact (Kd.R_reads' HO_16.out).2.2 | (with_reducible refine Kd.C_alloc ?_ _) | (with_reducible refine Kd.C_drewN ?_ _) | (with_reducible refine Kd.C_drew ?_))); (case side2 => exact (Kd.R_reads' HO_16.out).2.1); rintro e w' ⟨rfl, ⟨nd, rfl⟩⟩; refine ⟨_, rfl, ?_⟩))
                                 go_ret
                                 exact ⟨by first | rfl | (simp [errW_none, errW_some] <;> rfl) | (simp [*, errW_none, errW_some] <;> first | rfl | (simp [wrap64]; done)), nH2 HB.out GE643.out GE668.out⟩
                               · rw [if_neg c114] at H
                                 have c114b0 : (t722 == t702) = false := beq_eq_false_iff_ne.mpr c114
                                 have c114b1 : (t722 != t702) = true := bne_iff_ne.mpr c114
                                 exact absurd ((Option.some.inj H).trans ht.out) (by decide)
                       · rw [if_neg c90] at H
                         have c90b0 : (t704 == t702) = false := beq_eq_false_iff_ne.mpr c90
                         have c90b1 : (t704 != t702) = true := bne_iff_ne.mpr c90
                         exact absurd ((Option.some.inj H).trans ht.out) (by decide)
               · replace c62 := Bool.eq_false_iff.mpr c62
                 subst c62
                 have H1 : (some false) = some r := by rw [if_neg (show ¬ (false = true) by decide)] at H; exact H
                 clear H; have H := H1; clear H1
                 exact absurd ((Option.some.inj H).trans ht.out) (by decide)
             · replace c59 := Bool.eq_false_iff.mpr c59
               subst c59
               have H1 : (some false) = some r := by rw [if_neg (show ¬ (false = true) by decide)] at H; exact H
               clear H; have H := H1; clear H1
               exact absurd ((Option.some.inj H).trans ht.out) (by decide)
           · replace c56 := Bool.eq_false_iff.mpr c56
             subst c56
             have H1 : (some false) = some r := by rw [if_neg (show ¬ (false = true) by decide)] at H; exact H
             clear H; have H := H1; clear H1
             exact absurd ((Option.some.inj H).trans ht.out) (by decide)
end Go.Proofs.Ytcihaeggjfpacaa.P
