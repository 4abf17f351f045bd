/- Contracts of the functions of the program, each one with its plain Lean function; written by a program of the session out of the translation. -/
import Derived.Test.YtnamdbnnijfniaaNb
import Derived.Test.YtnamdbnnijfniaaPx0
import Derived.Test.YtnamdbnnijfniaaPx1
import Derived.Test.YtnamdbnnijfniaaPx16
import Derived.Test.YtnamdbnnijfniaaPx26
import Derived.Test.YtnamdbnnijfniaaPx28
namespace Go.Proofs.Ytnamdbnnijfniaa.P
open Go.RowKit Go.Proofs.YtnamdbnnijfniaaW.PrintWords Go.Proofs.YtnamdbnnijfniaaW.PrintLast Go.Proofs.YtnamdbnnijfniaaW.PrintMore
attribute [local go_sem] max2_int min2_int max_two min_two max_three min_three max_four min_four   -- for this text's walks alone
set_option linter.unusedVariables false
set_option linter.unusedSimpArgs false
/-! ### impl_Wage: function 27 -/
theorem impl_Wage.mono_l : ∀ k, (∀ y0 y1 y2 y3 y4 y5 y6 y7, LeO (impl_Wage.j0 k y0 y1 y2 y3 y4 y5 y6 y7) (impl_Wage.j0 (k + 1) y0 y1 y2 y3 y4 y5 y6 y7))
 | 0 => fun _ _ _ _ _ _ _ _ r h => by simp [impl_Wage.j0] at h
 | k + 1 => by
  have ih0 := impl_Wage.mono_l k
  · intro y0 y1 y2 y3 y4 y5 y6 y7
    unfold impl_Wage.j0
    repeat' first
    | (with_reducible exact ih0 _ _ _ _ _ _ _ _)
    | (with_reducible exact impl_DutyCode.mono _ _ _ _ _ _ _)
    | (with_reducible exact impl_driven.mono _ _ _)
    | (with_reducible exact LeO.refl _)
    | (with_reducible exact LeO.none _)
    | (with_reducible refine LeO.ite ?_ ?_)
    | (with_reducible refine LeO.bind ?_ (fun _ => ?_))
    | exact ih0 _ _ _ _ _ _ _ _
    | exact impl_DutyCode.mono _ _ _ _ _ _ _
    | exact impl_driven.mono _ _ _
    | exact LeO.none _
    | refine LeO.ite ?_ ?_
    | refine LeO.bind ?_ (fun _ => ?_)
theorem impl_Wage.mono : ∀ a0 a1 a2 a3 a4 a5 a6 k, LeO (impl_Wage.f k a0 a1 a2 a3 a4 a5 a6) (impl_Wage.f (k + 1) a0 a1 a2 a3 a4 a5 a6) := by
 intro a0 a1 a2 a3 a4 a5 a6 k
 have ih0 := impl_Wage.mono_l k
 unfold impl_Wage.f
 repeat' first
  | (with_reducible exact ih0 _ _ _ _ _ _ _ _)
  | (with_reducible exact impl_DutyCode.mono _ _ _ _ _ _ _)
  | (with_reducible exact impl_driven.mono _ _ _)
  | (with_reducible exact LeO.refl _)
  | (with_reducible exact LeO.none _)
  | (with_reducible refine LeO.ite ?_ ?_)
  | (with_reducible refine LeO.bind ?_ (fun _ => ?_))
  | exact ih0 _ _ _ _ _ _ _ _
  | exact impl_DutyCode.mono _ _ _ _ _ _ _
  | exact impl_driven.mono _ _ _
  | exact LeO.none _
  | refine LeO.ite ?_ ?_
  | refine LeO.bind ?_ (fun _ => ?_)
def impl_Wage.T3 : Bool × List (List Nat × List Nat) := (true, [([], []), ([], []), ([], []), ([1, 2], [1, 2]), ([], []), ([], []), ([4, 5, 3], [4, 5]), ([], []), ([7], [7]), ([8], [8]), ([6, 9], [6, 9]), ([10], [10]), ([3, 11], [3, 11]), ([0, 12], [0, 12]), ([13, 6, 0, 1, 2, 3, 4, 5, 6, 7, 8, 9, 10, 11, 12, 13], [13])])
def impl_Wage.B3 : List Nat := [0, 0, 0, 6, 0, 0, 62, 0, 128, 384, 1022, 2046, 4094, 8191, 16383]
theorem impl_Wage.tab3 : rtab .any (opsOf Try.f27 3) = impl_Wage.T3 := by kernel_rfl
theorem impl_Wage.bits3 : waitsOk impl_Wage.T3.2 impl_Wage.B3 = true := by kernel_rfl
set_option maxHeartbeats 8000000 in
set_option maxRecDepth 100000 in
theorem impl_Wage.calls (k : Nat) (A0 : Option Addr) (c0 : Nat) (l0 : List (S52)) (A1 : Option Addr) (c1 : Nat) (l1 : List Int) (a2_0 : Int) (a2_1 : Int) (a2_2 : Int) (a2_3 : Int) (a3 : Int) (r : Int) (w : World) (hr0 : Kd.C k52 w A0 l0.length l0) (hc0 : l0.length ≤ c0) (hr1 : Kd.C (Kd.int .i64) w A1 l1.length l1) (hc1 : l1.length ≤ c1) (h : impl_Wage.f k l0 l1 a2_0 a2_1 a2_2 a2_3 a3 = some r) :
 Calls Try.prog 27 #[.slice A0 l0.length c0, .slice A1 l1.length c1, .agg #[.int .i64 a2_0, .int .i64 a2_1, .int .i64 a2_2, .int .i64 a2_3], .int .i64 a3] w fun e w' => e = .returned (.int .i64 r) ∧ Below w.heap.size w w' := by
 have hu25 := Try.underlying25
 have HR0 := Aside0.mk hr0
 have HC0 := Aside0.mk hc0
 clear hr0 hc0
 have HR1 := Aside0.mk hr1
 have HC1 := Aside0.mk hc1
 clear hr1 hc1
 have HB := Aside0.mk (Below.refl w.heap.size w)
 have H : ((impl_DutyCode.f k l0 l1 a2_0 a2_1 a2_2 a2_3).bind fun t406 => (if t406 = 0 then ((impl_between.f a3 0 1000).bind fun t407 => (impl_Wage.j0 k l0 l1 a3 (!t407) a2_0 a2_1 a2_2 a2_3)) else (impl_Wage.j0 k l0 l1 a3 true a2_0 a2_1 a2_2 a2_3))) = some r := h
 clear h
 have HC5 := Aside0.mk H
 clear H
 go_enter Try.func27, Try.ntmps27
 go_upto_region 1 with (first | ((with_reducible refine gate_dst (N := 6) rfl ?_); refine box_event ?hg (N := 6) ?hd (cs := #[.int .i64 a2_0, .int .i64 a2_1, .int .i64 a2_2, .int .i64 a2_3]) (t := 25) ?hr ?_; (case hd => rfl); (case hg => rfl); (case hr => first | (go_simp; done) | (go_simp; rfl)); intro gb405 hg w6 hbox hb; have n0_ := Aside0.mk (below_step (nH HB.out) hb); have n1_ := Aside0.mk (hbox); have n2_ := Aside0.mk ((by rw [hg]; exact (below_size (nH HB.out)) : w.heap.size ≤ gb405)); have n3_ := Aside0.mk ((by rw [hg]; exact (below_size (nH HB.out)) : w.heap.size ≤ gb405)); clear HB; have HB := n0_; have BK405 := n1_; have GW405 := n2_; have GE405 := n3_; clear n0_ n1_ n2_ n3_; clear hb hbox hg))
 (try simp only [Act.put, List.setIfInBounds_toArray, List.set_cons_zero, List.set_cons_succ])
 go_cut [18] (fun v18 wc => ∃ (kq : Nat) (x18_4 : Bool), v18 = .bool x18_4 ∧ Aside0 (impl_Wage.j0 kq l0 l1 a3 x18_4 a2_0 a2_1 a2_2 a2_3 = some r) ∧ Aside0 (kq ≤ k) ∧ Aside0 (wc.heap[gb405]? = some (.cells #[.int .i64 a2_0, .int .i64 a2_1, .int .i64 a2_2, .int .i64 a2_3] 25 (0, 0))) ∧ Aside0 (Below w.heap.size w wc))
 case first =>
  have H := HC5.out; clear HC5
  replace H := Option.bind_eq_some_iff.mp H
  obtain ⟨t406, A70, H⟩ := H
  replace H : (if t406 = 0 then ((impl_between.f a3 0 1000).bind fun t407 => (impl_Wage.j0 k l0 l1 a3 (!t407) a2_0 a2_1 a2_2 a2_3)) else (impl_Wage.j0 k l0 l1 a3 true a2_0 a2_1 a2_2 a2_3)) = some r := H
  have A7 := Aside0.mk A70
  clear A70
  by_cases c8 : t406 = 0
  · rw [if_pos c8] at H
    have c8b0 : (t406 == 0) = true := beq_iff_eq.mpr c8
    have c8b1 : (t406 != 0) = false := bne_eq_false_iff_eq.mpr c8
    clear c8
    (first | rw [c8b0] | (simp only [i64_w, i32_w]; rw [c8b0]) | skip)
    replace H := Option.bind_eq_some_iff.mp H
    obtain ⟨t407, A90, H⟩ := H
    replace H : (impl_Wage.j0 k l0 l1 a3 (!t407) a2_0 a2_1 a2_2 a2_3) = some r := H
    have A9 := Aside0.mk A90
    clear A90
    have H' := Aside0.mk H
    clear H
    have hcz10_0 : w6.cell? ⟨gb405, 0, none⟩ = some (.int .i64 a2_0) := (blk_cell BK405.out 0).trans rfl
    have hcz10_1 : w6.cell? ⟨gb405, 1, none⟩ = some (.int .i64 a2_1) := (blk_cell BK405.out 1).trans rfl
    have hcz10_2 : w6.cell? ⟨gb405, 2, none⟩ = some (.int .i64 a2_2) := (blk_cell BK405.out 2).trans rfl
    have hcz10_3 : w6.cell? ⟨gb405, 3, none⟩ = some (.int .i64 a2_3) := (blk_cell BK405.out 3).trans rfl
    have hfz10_0 := blk_frozen BK405.out 0
    have hfz10_1 := blk_frozen BK405.out 1
    have hfz10_2 := blk_frozen BK405.out 2
    have hfz10_3 := blk_frozen BK405.out 3
    go_wp2_with (first | ((with_reducible refine gate_callee (f := 23) rfl ?_); refine goesL_ (some 12) rfl rfl Try.func23 (by kernel_rfl) rfl #[.slice A0 l0.length c0, .slice A1 l1.length c1, .agg #[.int .i64 a2_0, .int .i64 a2_1, .int .i64 a2_2, .int .i64 a2_3]] rfl (by (try simp only [List.map_toArray, List.map_cons, List.map_nil]); first | done | rfl | (simp only [List.length_drop, List.length_take]; rfl)) ?_; (with_reducible refine (impl_DutyCode.calls k _ _ l0 _ _ l1 a2_0 a2_1 a2_2 a2_3 t406 _ ?side1 ?side2 ?side3 ?side4 A7.out).mono ?_); (case side1 => repeat (first | exact (Kd.C_below HR0.out HB.out) | (with_reducible refine Kd.C_alloc ?_ _) | (with_reducible refine Kd.C_drewN ?_ _) | (with_reducible refine Kd.C_drew ?_))); (case side2 => exact HC0.out); (case side3 => repeat (first | exact (Kd.C_below HR1.out HB.out) | (with_reducible refine Kd.C_alloc ?_ _) | (with_reducible refine Kd.C_drewN ?_ _) | (with_reducible refine Kd.C_drew ?_))); (case side4 => exact HC1.out); rintro e w11 ⟨rfl, hb⟩; refine ⟨_, rfl, ?_⟩; have n0_ := Aside0.mk (blk_below (g := gb405) (o := .cells #[.int .i64 a2_0, .int .i64 a2_1, .int .i64 a2_2, .int .i64 a2_3] 25 (0, 0)) (nB BK405.out) hb); have n1_ := Aside0.mk (below_step (nH1 HB.out GE405.out) hb); clear BK405; clear HB; have BK405 := n0_; have HB := n1_; clear n0_ n1_; (try clear hb); (try clear hb2); (try clear hk); (try clear hi)) | (go_at_call 33; (with_reducible refine (impl_between.calls a3 0 1000 t407 _ A9.out).mono ?_); rintro e w' ⟨rfl, ⟨nd, rfl⟩⟩))
    go_meet
    case rel => exact ⟨_, (!t407), nS, H', ⟨by first | omega | exact Nat.le_refl _⟩, ⟨by (with_reducible repeat (first | refine blk_drewN ?_ _ | refine blk_drew ?_ | refine blk_alloc ?_ _)); exact BK405.out⟩, ⟨nH1 HB.out GE405.out⟩⟩
  · rw [if_neg c8] at H
    have c8b0 : (t406 == 0) = false := beq_eq_false_iff_ne.mpr c8
    have c8b1 : (t406 != 0) = true := bne_iff_ne.mpr c8
    (first | rw [c8b0] | (simp only [i64_w, i32_w]; rw [c8b0]) | skip)
    have H' := Aside0.mk H
    clear H
    have hcz12_0 : w6.cell? ⟨gb405, 0, none⟩ = some (.int .i64 a2_0) := (blk_cell BK405.out 0).trans rfl
    have hcz12_1 : w6.cell? ⟨gb405, 1, none⟩ = some (.int .i64 a2_1) := (blk_cell BK405.out 1).trans rfl
    have hcz12_2 : w6.cell? ⟨gb405, 2, none⟩ = some (.int .i64 a2_2) := (blk_cell BK405.out 2).trans rfl
    have hcz12_3 : w6.cell? ⟨gb405, 3, none⟩ = some (.int .i64 a2_3) := (blk_cell BK405.out 3).trans rfl
    have hfz12_0 := blk_frozen BK405.out 0
    have hfz12_1 := blk_frozen BK405.out 1
    have hfz12_2 := blk_frozen BK405.out 2
    have hfz12_3 := blk_frozen BK405.out 3
    go_wp2_with (first | ((with_reducible refine gate_callee (f := 23) rfl ?_); refine goesL_ (some 12) rfl rfl Try.func23 (by kernel_rfl) rfl #[.slice A0 l0.length c0, .slice A1 l1.length c1, .agg #[.int .i64 a2_0, .int .i64 a2_1, .int .i64 a2_2, .int .i64 a2_3]] rfl (by (try simp only [List.map_toArray, List.map_cons, List.map_nil]); first | done | rfl | (simp only [List.length_drop, List.length_take]; rfl)) ?_; (with_reducible refine (impl_DutyCode.calls k _ _ l0 _ _ l1 a2_0 a2_1 a2_2 a2_3 t406 _ ?side1 ?side2 ?side3 ?side4 A7.out).mono ?_); (case side1 => repeat (first | exact (Kd.C_below HR0.out HB.out) | (with_reducible refine Kd.C_alloc ?_ _) | (with_reducible refine Kd.C_drewN ?_ _) | (with_reducible refine Kd.C_drew ?_))); (case side2 => exact HC0.out); (case side3 => repeat (first | exact (Kd.C_below HR1.out HB.out) | (with_reducible refine Kd.C_alloc ?_ _) | (with_reducible refine Kd.C_drewN ?_ _) | (with_reducible refine Kd.C_drew ?_))); (case side4 => exact HC1.out); rintro e w13 ⟨rfl, hb⟩; refine ⟨_, rfl, ?_⟩; have n0_ := Aside0.mk (blk_below (g := gb405) (o := .cells #[.int .i64 a2_0, .int .i64 a2_1, .int .i64 a2_2, .int .i64 a2_3] 25 (0, 0)) (nB BK405.out) hb); have n1_ := Aside0.mk (below_step (nH1 HB.out GE405.out) hb); clear BK405; clear HB; have BK405 := n0_; have HB := n1_; clear n0_ n1_; (try clear hb); (try clear hb2); (try clear hk); (try clear hi)))
    go_meet
    case rel => exact ⟨_, (true), nS, H', ⟨by first | omega | exact Nat.le_refl _⟩, ⟨by (with_reducible repeat (first | refine blk_drewN ?_ _ | refine blk_drew ?_ | refine blk_alloc ?_ _)); exact BK405.out⟩, ⟨nH1 HB.out GE405.out⟩⟩
 case rest =>
  clear HC5; try clear c1; try clear c2; try clear p2; try clear c8; try clear c8b0; try clear c8b1; try clear hcz10_0; try clear hcz10_1; try clear hcz10_2; try clear hcz10_3; try clear hcz12_0; try clear hcz12_1; try clear hcz12_2; try clear hcz12_3; try clear hfz10_0; try clear hfz10_1; try clear hfz10_2; try clear hfz10_3; try clear hfz12_0; try clear hfz12_1; try clear hfz12_2; try clear hfz12_3
  obtain ⟨kq, x18_4, rfl, HA, HJ4, BK405, HB⟩ := hcut
  cases kq with
  | zero => exact absurd HA.out (by simp [impl_Wage.j0])
  | succ kj4 =>
   have H := HA.out; clear HA
   simp only [impl_Wage.j0] at H
   by_cases c14 : x18_4 = true
   · subst c14
     have H1 : (some (-1)) = some r := by rw [if_pos rfl] at H; exact H
     clear H; have H := H1; clear H1; obtain rfl := Option.some.inj H; go_wp2; go_ret
     exact ⟨by first | rfl | (simp [errW_none, errW_some] <;> rfl) | (simp [*, errW_none, errW_some] <;> first | rfl | (simp [wrap64]; done)), nH1 HB.out GE405.out⟩
   · replace c14 := Bool.eq_false_iff.mpr c14
     subst c14
     have H1 : ((impl_spread.f l0 l1).bind fun t408 => ((impl_driven.f kj4 l0 l1).bind fun t409 => (some (wrap64 (a3 * (wrap64 (t408 + (mx (wrap64 (t409 - (wrap64 (Int.tdiv a2_1 2)))) 0)))))))) = some r := by rw [if_neg (show ¬ (false = true) by decide)] at H; exact H
     clear H; have H := H1; clear H1
     replace H := Option.bind_eq_some_iff.mp H
     obtain ⟨t408, A150, H⟩ := H
     replace H : ((impl_driven.f kj4 l0 l1).bind fun t409 => (some (wrap64 (a3 * (wrap64 (t408 + (mx (wrap64 (t409 - (wrap64 (Int.tdiv a2_1 2)))) 0))))))) = some r := H
     have A15 := Aside0.mk A150
     clear A150
     replace H := Option.bind_eq_some_iff.mp H
     obtain ⟨t409, A160, H⟩ := H
     replace H : (some (wrap64 (a3 * (wrap64 (t408 + (mx (wrap64 (t409 - (wrap64 (Int.tdiv a2_1 2)))) 0)))))) = some r := H
     have A16 := Aside0.mk A160
     clear A160
     obtain ⟨ji17, hji17⟩ : ∃ j_ : Int, (mx (wrap64 (t409 - (wrap64 (Int.tdiv a2_1 2)))) 0) = j_ := ⟨_, rfl⟩
     replace H : (some (wrap64 (a3 * (wrap64 (t408 + (ji17)))))) = some r := by first | (rw [hji17] at H; exact H) | (simp only [hji17] at H ⊢; exact H)
     (try rw [hji17] at A15)
     (try rw [hji17] at A16)
     have hji17_ : (if (wrap64 (t409 - (wrap64 (Int.tdiv a2_1 2)))) < 0 then 0 else (wrap64 (t409 - (wrap64 (Int.tdiv a2_1 2))))) = ji17 := hji17
     obtain rfl := Option.some.inj H
     try go_wp2
     have n0_ := Aside0.mk (blk_drew BK405.out)
     have n1_ := Aside0.mk (below_drew1 HB.out)
     clear BK405; clear HB; have BK405 := n0_; have HB := n1_; clear n0_ n1_
     refine start_ (n := 15) (S := fun w' => w'.cell? ⟨gb405, 0, none⟩ = some (.int .i64 a2_0) ∧ w'.cell? ⟨gb405, 1, none⟩ = some (.int .i64 a2_1) ∧ w'.cell? ⟨gb405, 2, none⟩ = some (.int .i64 a2_2) ∧ w'.cell? ⟨gb405, 3, none⟩ = some (.int .i64 a2_3)) (ds := []) #[F,F,F,F,F,F,F,F,F,F,F,F,F,F,F] (by kernel_rfl) rfl rfl ⟨(blk_cell BK405.out 0).trans rfl, (blk_cell BK405.out 1).trans rfl, (blk_cell BK405.out 2).trans rfl, (blk_cell BK405.out 3).trans rfl⟩ (fun hHeld => ?_); refine with_tabW impl_Wage.tab3 impl_Wage.bits3 (fun HT_ HW_ => ?_)
     generalize wc.drew = w18 at BK405 HB hHeld ⊢
     refine pU 0 (some 19) #[T,F,F,F,F,F,F,F,F,F,F,F,F,F,F] rfl rfl HT_.out ?_
     refine pU 1 (some 20) #[T,T,F,F,F,F,F,F,F,F,F,F,F,F,F] rfl rfl HT_.out ?_
     refine pU 2 (some 21) #[T,T,T,F,F,F,F,F,F,F,F,F,F,F,F] rfl rfl HT_.out ?_
     refine pU 4 (some 23) #[T,T,T,F,T,F,F,F,F,F,F,F,F,F,F] rfl rfl HT_.out ?_
     refine pU 5 (some 24) #[T,T,T,F,T,T,F,F,F,F,F,F,F,F,F] rfl rfl HT_.out ?_
     refine pU 7 (some 26) #[T,T,T,F,T,T,F,T,F,F,F,F,F,F,F] rfl rfl HT_.out ?_
     refine tU4 8 (some 27) #[T,T,T,F,T,T,F,T,T,F,F,F,F,F,F] rfl rfl HT_.out HW_.out hHeld ?_
     refine pU 9 (some 28) #[T,T,T,F,T,T,F,T,T,T,F,F,F,F,F] rfl rfl HT_.out ?_
     refine one_ (i := 3) (N := some 22) #[T,T,T,T,T,T,F,T,T,T,F,F,F,F,F] rfl rfl (one_of HT_.out (by kernel_rfl)) (by decide) (fun K hK => ?_)
     refine goes_ Try.func44 (by kernel_rfl) rfl #[.slice A0 l0.length c0, .slice A1 l1.length c1] (by rfl) rfl rfl (by (try simp only [List.map_toArray, List.map_cons, List.map_nil]); first | done | rfl | (simp only [List.length_drop, List.length_take]; rfl)) ?_
     with_reducible refine (impl_spread.calls _ _ l0 _ _ l1 t408 _ ?side1 ?side2 ?side3 ?side4 A15.out).mono ?_
     (case side1 => repeat (first | exact (Kd.C_below HR0.out HB.out) | (with_reducible refine Kd.C_alloc ?_ _) | (with_reducible refine Kd.C_drewN ?_ _) | (with_reducible refine Kd.C_drew ?_)))
     (case side2 => exact HC0.out)
     (case side3 => repeat (first | exact (Kd.C_below HR1.out HB.out) | (with_reducible refine Kd.C_alloc ?_ _) | (with_reducible refine Kd.C_drewN ?_ _) | (with_reducible refine Kd.C_drew ?_)))
     (case side4 => exact HC1.out)
     rintro e w' ⟨rfl, ⟨nd, rfl⟩⟩
     refine ⟨_, rfl, ?_⟩
     refine hK.out _ _ ⟨(blk_cell BK405.out 0).trans rfl, (blk_cell BK405.out 1).trans rfl, (blk_cell BK405.out 2).trans rfl, (blk_cell BK405.out 3).trans rfl⟩ (fun hHeld => ?_)
     clear hK K
     refine norm_ (a' := ?_) ?_ ?_
     rotate_left
     · show Act.put _ (some 22) _ = _
       simp only [Act.put, List.setIfInBounds_toArray, List.set_cons_zero, List.set_cons_succ, i64_w, i32_w]
       rfl
     refine one_ (i := 6) (N := some 25) #[T,T,T,T,T,T,T,T,T,T,F,F,F,F,F] rfl rfl (one_of HT_.out (by kernel_rfl)) (by decide) (fun K hK => ?_)
     refine goes_ Try.func37 (by kernel_rfl) rfl #[.slice A0 l0.length c0, .slice A1 l1.length c1] (by rfl) rfl rfl (by (try simp only [List.map_toArray, List.map_cons, List.map_nil]); first | done | rfl | (simp only [List.length_drop, List.length_take]; rfl)) ?_
     with_reducible refine (impl_driven.calls kj4 _ _ l0 _ _ l1 t409 _ ?side1 ?side2 ?side3 ?side4 A16.out).mono ?_
     (case side1 => repeat (first | exact (Kd.C_below HR0.out (nH1 HB.out GE405.out)) | (with_reducible refine Kd.C_alloc ?_ _) | (with_reducible refine Kd.C_drewN ?_ _) | (with_reducible refine Kd.C_drew ?_)))
     (case side2 => exact HC0.out)
     (case side3 => repeat (first | exact (Kd.C_below HR1.out (nH1 HB.out GE405.out)) | (with_reducible refine Kd.C_alloc ?_ _) | (with_reducible refine Kd.C_drewN ?_ _) | (with_reducible refine Kd.C_drew ?_)))
     (case side4 => exact HC1.out)
     rintro e w19 ⟨rfl, hb⟩
     refine ⟨_, rfl, ?_⟩
     have n0_ := Aside0.mk (blk_below (g := gb405) (o := .cells #[.int .i64 a2_0, .int .i64 a2_1, .int .i64 a2_2, .int .i64 a2_3] 25 (0, 0)) (nB BK405.out) hb)
     have n1_ := Aside0.mk (below_step (nH1 HB.out GE405.out) hb)
     clear BK405; clear HB; have BK405 := n0_; have HB := n1_; clear n0_ n1_; (try clear hb); (try clear hb2); (try clear hk); (try clear hi)
     refine hK.out _ _ ⟨(blk_cell BK405.out 0).trans rfl, (blk_cell BK405.out 1).trans rfl, (blk_cell BK405.out 2).trans rfl, (blk_cell BK405.out 3).trans rfl⟩ (fun hHeld => ?_)
     clear hK K
     refine norm_ (a' := ?_) ?_ ?_
     rotate_left
     · show Act.put _ (some 25) _ = _
       simp only [Act.put, List.setIfInBounds_toArray, List.set_cons_zero, List.set_cons_succ, i64_w, i32_w]
       rfl
     refine pU 10 (some 29) #[T,T,T,T,T,T,T,T,T,T,T,F,F,F,F] rfl rfl HT_.out ?_
     refine pU 11 (some 30) #[T,T,T,T,T,T,T,T,T,T,T,T,F,F,F] rfl rfl HT_.out ?_
     refine pU 12 (some 31) #[T,T,T,T,T,T,T,T,T,T,T,T,T,F,F] rfl rfl HT_.out ?_
     refine pU 13 (some 32) #[T,T,T,T,T,T,T,T,T,T,T,T,T,T,F] rfl rfl HT_.out ?_
     refine pU 14 (some 8) #[T,T,T,T,T,T,T,T,T,T,T,T,T,T,T] rfl rfl HT_.out ?_
     refine done_ (done_of HT_.out (by kernel_rfl)) ?_
     try go_wp2
     go_ret
     exact ⟨by first | rfl | (simp [errW_none, errW_some] <;> rfl) | (simp only [← hji17]; first | rfl | (simp [errW_none, errW_some] <;> rfl)) | (simp [*, errW_none, errW_some] <;> first | rfl | (simp [wrap64]; done)), nH1 HB.out GE405.out⟩
end Go.Proofs.Ytnamdbnnijfniaa.P
