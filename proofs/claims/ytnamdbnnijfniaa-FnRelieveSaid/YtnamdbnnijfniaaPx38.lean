/- Contracts of the functions of the program, each one with its plain Lean function; written by a program of the session out of the translation. -/
import Derived.Test.YtnamdbnnijfniaaNb
import Derived.Test.YtnamdbnnijfniaaPx0
import Derived.Test.YtnamdbnnijfniaaPx2
import Derived.Test.YtnamdbnnijfniaaPx12
import Derived.Test.YtnamdbnnijfniaaPx14
import Derived.Test.YtnamdbnnijfniaaPx27
namespace Go.Proofs.Ytnamdbnnijfniaa.P
open Go.RowKit Go.Proofs.YtnamdbnnijfniaaW.PrintWords Go.Proofs.YtnamdbnnijfniaaW.PrintLast Go.Proofs.YtnamdbnnijfniaaW.PrintMore
attribute [local go_sem] max2_int min2_int max_two min_two max_three min_three max_four min_four   -- for this text's walks alone
set_option linter.unusedVariables false
set_option linter.unusedSimpArgs false
/-! ### impl_Relieve: function 29 -/
theorem impl_Relieve.mono_l : ∀ k, (∀ y0 y1 y2 y3 y4 y5 y6, LeO (impl_Relieve.j0 k y0 y1 y2 y3 y4 y5 y6) (impl_Relieve.j0 (k + 1) y0 y1 y2 y3 y4 y5 y6)) ∧ (∀ y0 y1 y2 y3 y4 y5 y6 y7 y8 y9, LeO (impl_Relieve.l0 k y0 y1 y2 y3 y4 y5 y6 y7 y8 y9) (impl_Relieve.l0 (k + 1) y0 y1 y2 y3 y4 y5 y6 y7 y8 y9)) ∧ (∀ y0 y1 y2 y3 y4 y5 y6 y7 y8 y9 y10, LeO (impl_Relieve.l1 k y0 y1 y2 y3 y4 y5 y6 y7 y8 y9 y10) (impl_Relieve.l1 (k + 1) y0 y1 y2 y3 y4 y5 y6 y7 y8 y9 y10)) ∧ (∀ y0 y1 y2 y3 y4 y5 y6 y7 y8 y9 y10 y11, LeO (impl_Relieve.j3 k y0 y1 y2 y3 y4 y5 y6 y7 y8 y9 y10 y11) (impl_Relieve.j3 (k + 1) y0 y1 y2 y3 y4 y5 y6 y7 y8 y9 y10 y11)) ∧ (∀ y0 y1 y2 y3, LeO (impl_Relieve.l2 k y0 y1 y2 y3) (impl_Relieve.l2 (k + 1) y0 y1 y2 y3))
 | 0 => ⟨fun _ _ _ _ _ _ _ r h => by simp [impl_Relieve.j0] at h, fun _ _ _ _ _ _ _ _ _ _ r h => by simp [impl_Relieve.l0] at h, fun _ _ _ _ _ _ _ _ _ _ _ r h => by simp [impl_Relieve.l1] at h, fun _ _ _ _ _ _ _ _ _ _ _ _ r h => by simp [impl_Relieve.j3] at h, fun _ _ _ _ r h => by simp [impl_Relieve.l2] at h⟩
 | k + 1 => by
  obtain ⟨ih0, ih1, ih2, ih3, ih4⟩ := impl_Relieve.mono_l k
  refine ⟨?_, ?_, ?_, ?_, ?_⟩
  · intro y0 y1 y2 y3 y4 y5 y6
    unfold impl_Relieve.j0
    repeat' first
    | (with_reducible exact ih0 _ _ _ _ _ _ _)
    | (with_reducible exact ih1 _ _ _ _ _ _ _ _ _ _)
    | (with_reducible exact ih2 _ _ _ _ _ _ _ _ _ _ _)
    | (with_reducible exact ih3 _ _ _ _ _ _ _ _ _ _ _ _)
    | (with_reducible exact ih4 _ _ _ _)
    | (with_reducible exact impl_TasksOk.mono _ _)
    | (with_reducible exact impl_dutyCode.mono _ _ _ _ _ _ _)
    | (with_reducible exact impl_placesOk.mono _ _ _)
    | (with_reducible exact LeO.refl _)
    | (with_reducible exact LeO.none _)
    | (with_reducible refine LeO.ite ?_ ?_)
    | (with_reducible refine LeO.bind ?_ (fun _ => ?_))
    | exact ih0 _ _ _ _ _ _ _
    | exact ih1 _ _ _ _ _ _ _ _ _ _
    | exact ih2 _ _ _ _ _ _ _ _ _ _ _
    | exact ih3 _ _ _ _ _ _ _ _ _ _ _ _
    | exact ih4 _ _ _ _
    | exact impl_TasksOk.mono _ _
    | exact impl_dutyCode.mono _ _ _ _ _ _ _
    | exact impl_placesOk.mono _ _ _
    | exact LeO.none _
    | refine LeO.ite ?_ ?_
    | refine LeO.bind ?_ (fun _ => ?_)
  · intro y0 y1 y2 y3 y4 y5 y6 y7 y8 y9
    unfold impl_Relieve.l0
    repeat' first
    | (with_reducible exact ih0 _ _ _ _ _ _ _)
    | (with_reducible exact ih1 _ _ _ _ _ _ _ _ _ _)
    | (with_reducible exact ih2 _ _ _ _ _ _ _ _ _ _ _)
    | (with_reducible exact ih3 _ _ _ _ _ _ _ _ _ _ _ _)
    | (with_reducible exact ih4 _ _ _ _)
    | (with_reducible exact impl_TasksOk.mono _ _)
    | (with_reducible exact impl_dutyCode.mono _ _ _ _ _ _ _)
    | (with_reducible exact impl_placesOk.mono _ _ _)
    | (with_reducible exact LeO.refl _)
    | (with_reducible exact LeO.none _)
    | (with_reducible refine LeO.ite ?_ ?_)
    | (with_reducible refine LeO.bind ?_ (fun _ => ?_))
    | exact ih0 _ _ _ _ _ _ _
    | exact ih1 _ _ _ _ _ _ _ _ _ _
    | exact ih2 _ _ _ _ _ _ _ _ _ _ _
    | exact ih3 _ _ _ _ _ _ _ _ _ _ _ _
    | exact ih4 _ _ _ _
    | exact impl_TasksOk.mono _ _
    | exact impl_dutyCode.mono _ _ _ _ _ _ _
    | exact impl_placesOk.mono _ _ _
    | exact LeO.none _
    | refine LeO.ite ?_ ?_
    | refine LeO.bind ?_ (fun _ => ?_)
  · intro y0 y1 y2 y3 y4 y5 y6 y7 y8 y9 y10
    unfold impl_Relieve.l1
    repeat' first
    | (with_reducible exact ih0 _ _ _ _ _ _ _)
    | (with_reducible exact ih1 _ _ _ _ _ _ _ _ _ _)
    | (with_reducible exact ih2 _ _ _ _ _ _ _ _ _ _ _)
    | (with_reducible exact ih3 _ _ _ _ _ _ _ _ _ _ _ _)
    | (with_reducible exact ih4 _ _ _ _)
    | (with_reducible exact impl_TasksOk.mono _ _)
    | (with_reducible exact impl_dutyCode.mono _ _ _ _ _ _ _)
    | (with_reducible exact impl_placesOk.mono _ _ _)
    | (with_reducible exact LeO.refl _)
    | (with_reducible exact LeO.none _)
    | (with_reducible refine LeO.ite ?_ ?_)
    | (with_reducible refine LeO.bind ?_ (fun _ => ?_))
    | exact ih0 _ _ _ _ _ _ _
    | exact ih1 _ _ _ _ _ _ _ _ _ _
    | exact ih2 _ _ _ _ _ _ _ _ _ _ _
    | exact ih3 _ _ _ _ _ _ _ _ _ _ _ _
    | exact ih4 _ _ _ _
    | exact impl_TasksOk.mono _ _
    | exact impl_dutyCode.mono _ _ _ _ _ _ _
    | exact impl_placesOk.mono _ _ _
    | exact LeO.none _
    | refine LeO.ite ?_ ?_
    | refine LeO.bind ?_ (fun _ => ?_)
  · intro y0 y1 y2 y3 y4 y5 y6 y7 y8 y9 y10 y11
    unfold impl_Relieve.j3
    repeat' first
    | (with_reducible exact ih0 _ _ _ _ _ _ _)
    | (with_reducible exact ih1 _ _ _ _ _ _ _ _ _ _)
    | (with_reducible exact ih2 _ _ _ _ _ _ _ _ _ _ _)
    | (with_reducible exact ih3 _ _ _ _ _ _ _ _ _ _ _ _)
    | (with_reducible exact ih4 _ _ _ _)
    | (with_reducible exact impl_TasksOk.mono _ _)
    | (with_reducible exact impl_dutyCode.mono _ _ _ _ _ _ _)
    | (with_reducible exact impl_placesOk.mono _ _ _)
    | (with_reducible exact LeO.refl _)
    | (with_reducible exact LeO.none _)
    | (with_reducible refine LeO.ite ?_ ?_)
    | (with_reducible refine LeO.bind ?_ (fun _ => ?_))
    | exact ih0 _ _ _ _ _ _ _
    | exact ih1 _ _ _ _ _ _ _ _ _ _
    | exact ih2 _ _ _ _ _ _ _ _ _ _ _
    | exact ih3 _ _ _ _ _ _ _ _ _ _ _ _
    | exact ih4 _ _ _ _
    | exact impl_TasksOk.mono _ _
    | exact impl_dutyCode.mono _ _ _ _ _ _ _
    | exact impl_placesOk.mono _ _ _
    | exact LeO.none _
    | refine LeO.ite ?_ ?_
    | refine LeO.bind ?_ (fun _ => ?_)
  · intro y0 y1 y2 y3
    unfold impl_Relieve.l2
    repeat' first
    | (with_reducible exact ih0 _ _ _ _ _ _ _)
    | (with_reducible exact ih1 _ _ _ _ _ _ _ _ _ _)
    | (with_reducible exact ih2 _ _ _ _ _ _ _ _ _ _ _)
    | (with_reducible exact ih3 _ _ _ _ _ _ _ _ _ _ _ _)
    | (with_reducible exact ih4 _ _ _ _)
    | (with_reducible exact impl_TasksOk.mono _ _)
    | (with_reducible exact impl_dutyCode.mono _ _ _ _ _ _ _)
    | (with_reducible exact impl_placesOk.mono _ _ _)
    | (with_reducible exact LeO.refl _)
    | (with_reducible exact LeO.none _)
    | (with_reducible refine LeO.ite ?_ ?_)
    | (with_reducible refine LeO.bind ?_ (fun _ => ?_))
    | exact ih0 _ _ _ _ _ _ _
    | exact ih1 _ _ _ _ _ _ _ _ _ _
    | exact ih2 _ _ _ _ _ _ _ _ _ _ _
    | exact ih3 _ _ _ _ _ _ _ _ _ _ _ _
    | exact ih4 _ _ _ _
    | exact impl_TasksOk.mono _ _
    | exact impl_dutyCode.mono _ _ _ _ _ _ _
    | exact impl_placesOk.mono _ _ _
    | exact LeO.none _
    | refine LeO.ite ?_ ?_
    | refine LeO.bind ?_ (fun _ => ?_)
theorem impl_Relieve.mono : ∀ a0 a1 a2 a3 a4 a5 k, LeO (impl_Relieve.f k a0 a1 a2 a3 a4 a5) (impl_Relieve.f (k + 1) a0 a1 a2 a3 a4 a5) := by
 intro a0 a1 a2 a3 a4 a5 k
 obtain ⟨ih0, ih1, ih2, ih3, ih4⟩ := impl_Relieve.mono_l k
 unfold impl_Relieve.f
 repeat' first
  | (with_reducible exact ih0 _ _ _ _ _ _ _)
  | (with_reducible exact ih1 _ _ _ _ _ _ _ _ _ _)
  | (with_reducible exact ih2 _ _ _ _ _ _ _ _ _ _ _)
  | (with_reducible exact ih3 _ _ _ _ _ _ _ _ _ _ _ _)
  | (with_reducible exact ih4 _ _ _ _)
  | (with_reducible exact impl_TasksOk.mono _ _)
  | (with_reducible exact impl_dutyCode.mono _ _ _ _ _ _ _)
  | (with_reducible exact impl_placesOk.mono _ _ _)
  | (with_reducible exact LeO.refl _)
  | (with_reducible exact LeO.none _)
  | (with_reducible refine LeO.ite ?_ ?_)
  | (with_reducible refine LeO.bind ?_ (fun _ => ?_))
  | exact ih0 _ _ _ _ _ _ _
  | exact ih1 _ _ _ _ _ _ _ _ _ _
  | exact ih2 _ _ _ _ _ _ _ _ _ _ _
  | exact ih3 _ _ _ _ _ _ _ _ _ _ _ _
  | exact ih4 _ _ _ _
  | exact impl_TasksOk.mono _ _
  | exact impl_dutyCode.mono _ _ _ _ _ _ _
  | exact impl_placesOk.mono _ _ _
  | exact LeO.none _
  | refine LeO.ite ?_ ?_
  | refine LeO.bind ?_ (fun _ => ?_)
def impl_Relieve.T12 : Bool × List (List Nat × List Nat) := (true, [([], []), ([], []), ([0, 1], [0, 1]), ([2], [2]), ([3], [3]), ([4], [4]), ([5], [5]), ([5], [5]), ([5], [5]), ([5], [5]), ([7, 8, 9, 5], [5, 7, 8, 9]), ([5], [5]), ([6, 10, 11, 5, 5], [5, 6, 10, 11]), ([12, 5], [5, 12]), ([5, 13], [5, 13])])
def impl_Relieve.B12 : List Nat := [0, 0, 3, 7, 15, 31, 63, 63, 63, 63, 959, 63, 4095, 8191, 16383]
theorem impl_Relieve.tab12 : rtab .any (opsOf Try.f29 12) = impl_Relieve.T12 := by kernel_rfl
theorem impl_Relieve.bits12 : waitsOk impl_Relieve.T12.2 impl_Relieve.B12 = true := by kernel_rfl
def impl_Relieve.T13 : Bool × List (List Nat × List Nat) := (true, [([], []), ([], []), ([0, 1], [0, 1]), ([2], [2]), ([3], [3]), ([4], [4]), ([5], [5]), ([5], [5]), ([6, 7, 5], [5, 6, 7]), ([8, 5], [5, 8]), ([9, 5], [5, 9]), ([5], [5]), ([5], [5]), ([11, 12, 5], [5, 11, 12]), ([13, 5], [5, 13]), ([10, 14, 5], [5, 10, 14]), ([5, 15], [5, 15])])
def impl_Relieve.B13 : List Nat := [0, 0, 3, 7, 15, 31, 63, 63, 255, 511, 1023, 63, 63, 6207, 14399, 32767, 65535]
theorem impl_Relieve.tab13 : rtab .any (opsOf Try.f29 13) = impl_Relieve.T13 := by kernel_rfl
theorem impl_Relieve.bits13 : waitsOk impl_Relieve.T13.2 impl_Relieve.B13 = true := by kernel_rfl
set_option maxHeartbeats 8000000 in
set_option maxRecDepth 100000 in
theorem impl_Relieve.calls (k : Nat) (A0 : Option Addr) (c0 : Nat) (l0 : List (S52)) (A1 : Option Addr) (c1 : Nat) (l1 : List Int) (a2_0 : Int) (a2_1 : Int) (a2_2 : Int) (a2_3 : Int) (r1 : List Int) (r2 : Bool) (w : World) (hr0 : Kd.C k52 w A0 l0.length l0) (hc0 : l0.length ≤ c0) (hr1 : Kd.C (Kd.int .i64) w A1 l1.length l1) (hc1 : l1.length ≤ c1) (h : impl_Relieve.f k l0 l1 a2_0 a2_1 a2_2 a2_3 = some (r1, r2)) :
 Calls Try.prog 29 #[.slice A0 l0.length c0, .slice A1 l1.length c1, .agg #[.int .i64 a2_0, .int .i64 a2_1, .int .i64 a2_2, .int .i64 a2_3]] w fun e w' => ∃ v0_ : Value, e = .returned (.tuple #[v0_, .bool r2]) ∧ Kd.R (Kd.int .i64) 3 w' w.heap.size (fun _ => True) v0_ r1 ∧ Below w.heap.size w w' := by
 have hu25 := Try.underlying25
 have HR0 := Aside0.mk hr0
 have HC0 := Aside0.mk hc0
 clear hr0 hc0
 have HR1 := Aside0.mk hr1
 have HC1 := Aside0.mk hc1
 clear hr1 hc1
 have HB := Aside0.mk (Below.refl w.heap.size w)
 have H : ((impl_TasksOk.f k l0).bind fun t478 => (if t478 = true then (if (l1.length : Int) > 40 then (impl_Relieve.j0 k l0 l1 true a2_0 a2_1 a2_2 a2_3) else ((impl_placesOk.f k l0 l1).bind fun t479 => (if t479 = true then ((impl_RuleOk.f a2_0 a2_1 a2_2 a2_3).bind fun t480 => (impl_Relieve.j0 k l0 l1 (!t480) a2_0 a2_1 a2_2 a2_3)) else (impl_Relieve.j0 k l0 l1 true a2_0 a2_1 a2_2 a2_3)))) else (impl_Relieve.j0 k l0 l1 true a2_0 a2_1 a2_2 a2_3))) = some (r1, r2) := h
 clear h
 have HC4 := Aside0.mk H
 clear H
 go_enter Try.func29, Try.ntmps29
 go_upto_region 1 with (first | ((with_reducible refine gate_dst (N := 5) rfl ?_); (try (refine gate_guard (by rfl) ?_; dsimp only)); refine box_event ?hg (N := 5) ?hd (cs := #[.int .i64 a2_0, .int .i64 a2_1, .int .i64 a2_2, .int .i64 a2_3]) (t := 25) ?hr ?_; (case hd => rfl); (case hg => rfl); (case hr => first | (go_simp; done) | (go_simp; rfl)); intro gb477 hg w5 hbox hb; have n0_ := Aside0.mk (below_step (nH HB.out) hb); have n1_ := Aside0.mk (hbox); have n2_ := Aside0.mk ((by rw [hg]; exact (below_size (nH HB.out)) : w.heap.size ≤ gb477)); have n3_ := Aside0.mk ((by rw [hg]; exact (below_size (nH HB.out)) : w.heap.size ≤ gb477)); clear HB; have HB := n0_; have BK477 := n1_; have GW477 := n2_; have GE477 := n3_; clear n0_ n1_ n2_ n3_; clear hb hbox hg))
 (try simp only [Act.put, List.setIfInBounds_toArray, List.set_cons_zero, List.set_cons_succ])
 go_cut [33] (fun v33 wc => ∃ (kq : Nat) (x33_3 : Bool), v33 = .bool x33_3 ∧ Aside0 (impl_Relieve.j0 kq l0 l1 x33_3 a2_0 a2_1 a2_2 a2_3 = some (r1, r2)) ∧ Aside0 (kq ≤ k) ∧ Aside0 (wc.heap[gb477]? = some (.cells #[.int .i64 a2_0, .int .i64 a2_1, .int .i64 a2_2, .int .i64 a2_3] 25 (0, 0))) ∧ Aside0 (Below w.heap.size w wc))
 case first =>
  have H := HC4.out; clear HC4
  replace H := Option.bind_eq_some_iff.mp H
  obtain ⟨t478, A60, H⟩ := H
  replace H : (if t478 = true then (if (l1.length : Int) > 40 then (impl_Relieve.j0 k l0 l1 true a2_0 a2_1 a2_2 a2_3) else ((impl_placesOk.f k l0 l1).bind fun t479 => (if t479 = true then ((impl_RuleOk.f a2_0 a2_1 a2_2 a2_3).bind fun t480 => (impl_Relieve.j0 k l0 l1 (!t480) a2_0 a2_1 a2_2 a2_3)) else (impl_Relieve.j0 k l0 l1 true a2_0 a2_1 a2_2 a2_3)))) else (impl_Relieve.j0 k l0 l1 true a2_0 a2_1 a2_2 a2_3)) = some (r1, r2) := H
  have A6 := Aside0.mk A60
  clear A60
  by_cases c7 : t478 = true
  · subst c7
    have H1 : (if (l1.length : Int) > 40 then (impl_Relieve.j0 k l0 l1 true a2_0 a2_1 a2_2 a2_3) else ((impl_placesOk.f k l0 l1).bind fun t479 => (if t479 = true then ((impl_RuleOk.f a2_0 a2_1 a2_2 a2_3).bind fun t480 => (impl_Relieve.j0 k l0 l1 (!t480) a2_0 a2_1 a2_2 a2_3)) else (impl_Relieve.j0 k l0 l1 true a2_0 a2_1 a2_2 a2_3)))) = some (r1, r2) := by rw [if_pos rfl] at H; exact H
    clear H; have H := H1; clear H1
    by_cases c8 : (l1.length : Int) > 40
    · rw [if_pos c8] at H
      have c8b0 : decide (40 < (l1.length : Int)) = true := decide_eq_true c8
      have c8b1 : decide (40 < l1.length) = true := decide_eq_true (by omega)
      clear c8
      (first | rw [c8b0] | (simp only [i64_w, i32_w]; rw [c8b0]) | skip)
      have H' := Aside0.mk H
      clear H
      go_wp2_with (first | ((with_reducible refine gate_callee (f := 45) rfl ?_); refine goesL_ (some 16) rfl rfl Try.func45 (by kernel_rfl) rfl #[.slice A0 l0.length c0] rfl (by (try simp only [List.map_toArray, List.map_cons, List.map_nil]); first | done | rfl | (simp only [List.length_drop, List.length_take]; rfl)) ?_; (with_reducible refine (impl_TasksOk.calls k _ _ l0 true _ ?side1 ?side2 A6.out).mono ?_); (case side1 => repeat (first | exact (Kd.C_below HR0.out HB.out) | (with_reducible refine Kd.C_alloc ?_ _) | (with_reducible refine Kd.C_drewN ?_ _) | (with_reducible refine Kd.C_drew ?_))); (case side2 => exact HC0.out); rintro e w9 ⟨rfl, hb⟩; refine ⟨_, rfl, ?_⟩; have n0_ := Aside0.mk (blk_below (g := gb477) (o := .cells #[.int .i64 a2_0, .int .i64 a2_1, .int .i64 a2_2, .int .i64 a2_3] 25 (0, 0)) (nB BK477.out) hb); have n1_ := Aside0.mk (below_step (nH1 HB.out GE477.out) hb); clear BK477; clear HB; have BK477 := n0_; have HB := n1_; clear n0_ n1_; (try clear hb); (try clear hb2); (try clear hk); (try clear hi)))
      go_meet
      case rel => exact ⟨_, (true), nS, H', ⟨by first | omega | exact Nat.le_refl _⟩, ⟨by (with_reducible repeat (first | refine blk_drewN ?_ _ | refine blk_drew ?_ | refine blk_alloc ?_ _)); exact BK477.out⟩, ⟨nH1 HB.out GE477.out⟩⟩
    · rw [if_neg c8] at H
      have c8b0 : decide (40 < (l1.length : Int)) = false := decide_eq_false c8
      have c8b1 : decide (40 < l1.length) = false := decide_eq_false (by omega)
      clear c8
      (first | rw [c8b0] | (simp only [i64_w, i32_w]; rw [c8b0]) | skip)
      replace H := Option.bind_eq_some_iff.mp H
      obtain ⟨t479, A100, H⟩ := H
      replace H : (if t479 = true then ((impl_RuleOk.f a2_0 a2_1 a2_2 a2_3).bind fun t480 => (impl_Relieve.j0 k l0 l1 (!t480) a2_0 a2_1 a2_2 a2_3)) else (impl_Relieve.j0 k l0 l1 true a2_0 a2_1 a2_2 a2_3)) = some (r1, r2) := H
      have A10 := Aside0.mk A100
      clear A100
      by_cases c11 : t479 = true
      · subst c11
        have H1 : ((impl_RuleOk.f a2_0 a2_1 a2_2 a2_3).bind fun t480 => (impl_Relieve.j0 k l0 l1 (!t480) a2_0 a2_1 a2_2 a2_3)) = some (r1, r2) := by rw [if_pos rfl] at H; exact H
        clear H; have H := H1; clear H1
        replace H := Option.bind_eq_some_iff.mp H
        obtain ⟨t480, A120, H⟩ := H
        replace H : (impl_Relieve.j0 k l0 l1 (!t480) a2_0 a2_1 a2_2 a2_3) = some (r1, r2) := H
        have A12 := Aside0.mk A120
        clear A120
        have H' := Aside0.mk H
        clear H
        go_wp2_with (first | ((with_reducible refine gate_callee (f := 45) rfl ?_); refine goesL_ (some 16) rfl rfl Try.func45 (by kernel_rfl) rfl #[.slice A0 l0.length c0] rfl (by (try simp only [List.map_toArray, List.map_cons, List.map_nil]); first | done | rfl | (simp only [List.length_drop, List.length_take]; rfl)) ?_; (with_reducible refine (impl_TasksOk.calls k _ _ l0 true _ ?side1 ?side2 A6.out).mono ?_); (case side1 => repeat (first | exact (Kd.C_below HR0.out HB.out) | (with_reducible refine Kd.C_alloc ?_ _) | (with_reducible refine Kd.C_drewN ?_ _) | (with_reducible refine Kd.C_drew ?_))); (case side2 => exact HC0.out); rintro e w13 ⟨rfl, hb⟩; refine ⟨_, rfl, ?_⟩; have n0_ := Aside0.mk (blk_below (g := gb477) (o := .cells #[.int .i64 a2_0, .int .i64 a2_1, .int .i64 a2_2, .int .i64 a2_3] 25 (0, 0)) (nB BK477.out) hb); have n1_ := Aside0.mk (below_step (nH1 HB.out GE477.out) hb); clear BK477; clear HB; have BK477 := n0_; have HB := n1_; clear n0_ n1_; (try clear hb); (try clear hb2); (try clear hk); (try clear hi)) | (go_at_call 46; (with_reducible refine (impl_placesOk.calls k _ _ l0 _ _ l1 true _ ?side1 ?side2 ?side3 ?side4 A10.out).mono ?_); (case side1 => repeat (first | exact (Kd.C_below HR0.out HB.out) | (with_reducible refine Kd.C_alloc ?_ _) | (with_reducible refine Kd.C_drewN ?_ _) | (with_reducible refine Kd.C_drew ?_))); (case side2 => exact HC0.out); (case side3 => repeat (first | exact (Kd.C_below HR1.out HB.out) | (with_reducible refine Kd.C_alloc ?_ _) | (with_reducible refine Kd.C_drewN ?_ _) | (with_reducible refine Kd.C_drew ?_))); (case side4 => exact HC1.out); rintro e w' ⟨rfl, ⟨nd, rfl⟩⟩; have hcz14_0 : w13.cell? ⟨gb477, 0, none⟩ = some (.int .i64 a2_0) := (blk_cell BK477.out 0).trans rfl; have hcz14_1 : w13.cell? ⟨gb477, 1, none⟩ = some (.int .i64 a2_1) := (blk_cell BK477.out 1).trans rfl; have hcz14_2 : w13.cell? ⟨gb477, 2, none⟩ = some (.int .i64 a2_2) := (blk_cell BK477.out 2).trans rfl; have hcz14_3 : w13.cell? ⟨gb477, 3, none⟩ = some (.int .i64 a2_3) := (blk_cell BK477.out 3).trans rfl; have hfz14_0 := blk_frozen BK477.out 0; have hfz14_1 := blk_frozen BK477.out 1; have hfz14_2 := blk_frozen BK477.out 2; have hfz14_3 := blk_frozen BK477.out 3) | (go_at_call 12; (with_reducible refine (impl_RuleOk.calls a2_0 a2_1 a2_2 a2_3 t480 _ A12.out).mono ?_); rintro e w15 ⟨rfl, hb⟩; have n0_ := Aside0.mk (blk_below (g := gb477) (o := .cells #[.int .i64 a2_0, .int .i64 a2_1, .int .i64 a2_2, .int .i64 a2_3] 25 (0, 0)) (nB BK477.out) hb); have n1_ := Aside0.mk (below_step (nH1 HB.out GE477.out) hb); clear BK477; clear HB; have BK477 := n0_; have HB := n1_; clear n0_ n1_; (try clear hb); (try clear hb2); (try clear hk); (try clear hi)))
        go_meet
        case rel => exact ⟨_, (!t480), nS, H', ⟨by first | omega | exact Nat.le_refl _⟩, ⟨by (with_reducible repeat (first | refine blk_drewN ?_ _ | refine blk_drew ?_ | refine blk_alloc ?_ _)); exact BK477.out⟩, ⟨nH1 HB.out GE477.out⟩⟩
      · replace c11 := Bool.eq_false_iff.mpr c11
        subst c11
        have H1 : (impl_Relieve.j0 k l0 l1 true a2_0 a2_1 a2_2 a2_3) = some (r1, r2) := by rw [if_neg (show ¬ (false = true) by decide)] at H; exact H
        clear H; have H := H1; clear H1
        have H' := Aside0.mk H
        clear H
        go_wp2_with (first | ((with_reducible refine gate_callee (f := 45) rfl ?_); refine goesL_ (some 16) rfl rfl Try.func45 (by kernel_rfl) rfl #[.slice A0 l0.length c0] rfl (by (try simp only [List.map_toArray, List.map_cons, List.map_nil]); first | done | rfl | (simp only [List.length_drop, List.length_take]; rfl)) ?_; (with_reducible refine (impl_TasksOk.calls k _ _ l0 true _ ?side1 ?side2 A6.out).mono ?_); (case side1 => repeat (first | exact (Kd.C_below HR0.out HB.out) | (with_reducible refine Kd.C_alloc ?_ _) | (with_reducible refine Kd.C_drewN ?_ _) | (with_reducible refine Kd.C_drew ?_))); (case side2 => exact HC0.out); rintro e w16 ⟨rfl, hb⟩; refine ⟨_, rfl, ?_⟩; have n0_ := Aside0.mk (blk_below (g := gb477) (o := .cells #[.int .i64 a2_0, .int .i64 a2_1, .int .i64 a2_2, .int .i64 a2_3] 25 (0, 0)) (nB BK477.out) hb); have n1_ := Aside0.mk (below_step (nH1 HB.out GE477.out) hb); clear BK477; clear HB; have BK477 := n0_; have HB := n1_; clear n0_ n1_; (try clear hb); (try clear hb2); (try clear hk); (try clear hi)) | (go_at_call 46; (with_reducible refine (impl_placesOk.calls k _ _ l0 _ _ l1 false _ ?side1 ?side2 ?side3 ?side4 A10.out).mono ?_); (case side1 => repeat (first | exact (Kd.C_below HR0.out HB.out) | (with_reducible refine Kd.C_alloc ?_ _) | (with_reducible refine Kd.C_drewN ?_ _) | (with_reducible refine Kd.C_drew ?_))); (case side2 => exact HC0.out); (case side3 => repeat (first | exact (Kd.C_below HR1.out HB.out) | (with_reducible refine Kd.C_alloc ?_ _) | (with_reducible refine Kd.C_drewN ?_ _) | (with_reducible refine Kd.C_drew ?_))); (case side4 => exact HC1.out); rintro e w' ⟨rfl, ⟨nd, rfl⟩⟩))
        go_meet
        case rel => exact ⟨_, (true), nS, H', ⟨by first | omega | exact Nat.le_refl _⟩, ⟨by (with_reducible repeat (first | refine blk_drewN ?_ _ | refine blk_drew ?_ | refine blk_alloc ?_ _)); exact BK477.out⟩, ⟨nH1 HB.out GE477.out⟩⟩
  · replace c7 := Bool.eq_false_iff.mpr c7
    subst c7
    have H1 : (impl_Relieve.j0 k l0 l1 true a2_0 a2_1 a2_2 a2_3) = some (r1, r2) := by rw [if_neg (show ¬ (false = true) by decide)] at H; exact H
    clear H; have H := H1; clear H1
    have H' := Aside0.mk H
    clear H
    go_wp2_with (first | ((with_reducible refine gate_callee (f := 45) rfl ?_); refine goesL_ (some 16) rfl rfl Try.func45 (by kernel_rfl) rfl #[.slice A0 l0.length c0] rfl (by (try simp only [List.map_toArray, List.map_cons, List.map_nil]); first | done | rfl | (simp only [List.length_drop, List.length_take]; rfl)) ?_; (with_reducible refine (impl_TasksOk.calls k _ _ l0 false _ ?side1 ?side2 A6.out).mono ?_); (case side1 => repeat (first | exact (Kd.C_below HR0.out HB.out) | (with_reducible refine Kd.C_alloc ?_ _) | (with_reducible refine Kd.C_drewN ?_ _) | (with_reducible refine Kd.C_drew ?_))); (case side2 => exact HC0.out); rintro e w17 ⟨rfl, hb⟩; refine ⟨_, rfl, ?_⟩; have n0_ := Aside0.mk (blk_below (g := gb477) (o := .cells #[.int .i64 a2_0, .int .i64 a2_1, .int .i64 a2_2, .int .i64 a2_3] 25 (0, 0)) (nB BK477.out) hb); have n1_ := Aside0.mk (below_step (nH1 HB.out GE477.out) hb); clear BK477; clear HB; have BK477 := n0_; have HB := n1_; clear n0_ n1_; (try clear hb); (try clear hb2); (try clear hk); (try clear hi)))
    go_meet
    case rel => exact ⟨_, (true), nS, H', ⟨by first | omega | exact Nat.le_refl _⟩, ⟨by (with_reducible repeat (first | refine blk_drewN ?_ _ | refine blk_drew ?_ | refine blk_alloc ?_ _)); exact BK477.out⟩, ⟨nH1 HB.out GE477.out⟩⟩
 case rest =>
  clear HC4; try clear c1; try clear c2; try clear p2; try clear c4; try clear c7; try clear c8; try clear c8b0; try clear c8b1; try clear c11; try clear hcz14_0; try clear hcz14_1; try clear hcz14_2; try clear hcz14_3; try clear hfz14_0; try clear hfz14_1; try clear hfz14_2; try clear hfz14_3
  obtain ⟨kq, x33_3, rfl, HA, HJ3, BK477, HB⟩ := hcut
  cases kq with
  | zero => exact absurd HA.out (by simp [impl_Relieve.j0])
  | succ kj3 =>
   have H := HA.out; clear HA
   simp only [impl_Relieve.j0] at H
   by_cases c18 : x33_3 = true
   · subst c18
     have H1 : (some (([] : List Int), false)) = some (r1, r2) := by rw [if_pos rfl] at H; exact H
     clear H; have H := H1; clear H1
     simp only [Option.some.injEq, Prod.mk.injEq] at H
     obtain ⟨rfl, rfl⟩ := H
     go_wp2
     go_ret2
     exact ⟨_, by first | rfl | (simp [errW_none, errW_some] <;> rfl) | (simp [*, errW_none, errW_some] <;> first | rfl | (simp [wrap64]; done)), by first | exact Kd.R_nil _ _ _ _ _ | exact Kd.N_nil _ _ _ _ _ | exact Kd.V_nil _ _ _ _ _ | exact Kd.Q_nil _ _ _ _ _ | exact Kd.S_nil _ _ _ _ _, nH1 HB.out GE477.out⟩
   · replace c18 := Bool.eq_false_iff.mpr c18
     subst c18
     have H1 : (if 0 ≤ (wrap64 ((l1.length : Int) + 1)) then (if (wrap64 ((l1.length : Int) + 1) : Int).toNat ≤ 35184372088832 then (if 0 ≤ (l1.length : Int) then (if ((l1.length : Int) : Int).toNat ≤ 35184372088832 then (impl_Relieve.l0 kj3 l0 l1 (l1.length : Int) (List.replicate (wrap64 ((l1.length : Int) + 1) : Int).toNat 0) (List.replicate ((l1.length : Int) : Int).toNat 0) (wrap64 ((l1.length : Int) - 1)) a2_0 a2_1 a2_2 a2_3) else (none)) else (none)) else (none)) else (none)) = some (r1, r2) := by rw [if_neg (show ¬ (false = true) by decide)] at H; exact H
     clear H; have H := H1; clear H1
     obtain ⟨ji19, hji19⟩ : ∃ j_ : Int, (wrap64 ((l1.length : Int) + 1)) = j_ := ⟨_, rfl⟩
     replace H : (if 0 ≤ (ji19) then (if (ji19 : Int).toNat ≤ 35184372088832 then (if 0 ≤ (l1.length : Int) then (if ((l1.length : Int) : Int).toNat ≤ 35184372088832 then (impl_Relieve.l0 kj3 l0 l1 (l1.length : Int) (List.replicate (ji19 : Int).toNat 0) (List.replicate ((l1.length : Int) : Int).toNat 0) (wrap64 ((l1.length : Int) - 1)) a2_0 a2_1 a2_2 a2_3) else (none)) else (none)) else (none)) else (none)) = some (r1, r2) := by first | (rw [hji19] at H; exact H) | (simp only [hji19] at H ⊢; exact H)
     have hji19w : (IntKind.i64.wrap ((l1.length : Int) + 1)) = ji19 := (i64_w _).trans hji19
     by_cases c20 : 0 ≤ (ji19)
     rotate_left
     · (rw [if_neg c20] at H; exact absurd H (by simp))
     rw [if_pos c20] at H
     have c20b0 := eq_true c20
     have c20b1 : decide (0 ≤ (ji19)) = true := decide_eq_true c20
     clear c20
     by_cases c21 : (ji19 : Int).toNat ≤ 35184372088832
     rotate_left
     · (rw [if_neg c21] at H; exact absurd H (by simp))
     rw [if_pos c21] at H
     have c21b0 := eq_true c21
     have c21b1 : decide ((ji19 : Int).toNat ≤ 35184372088832) = true := decide_eq_true c21
     clear c21
     obtain ⟨y481, hy481⟩ : ∃ y_ : List Int, y_ = (List.replicate (ji19 : Int).toNat 0) := ⟨_, rfl⟩
     replace H : (if 0 ≤ (l1.length : Int) then (if ((l1.length : Int) : Int).toNat ≤ 35184372088832 then (impl_Relieve.l0 kj3 l0 l1 (l1.length : Int) y481 (List.replicate ((l1.length : Int) : Int).toNat 0) (wrap64 ((l1.length : Int) - 1)) a2_0 a2_1 a2_2 a2_3) else (none)) else (none)) = some (r1, r2) := by first | (rw [hy481]; with_reducible exact H) | (have H2_ := (Option.bind_some _ _).symm.trans H; rw [hy481]; with_reducible exact H2_) | (have H2_ := (Option.bind_some _ _).symm.trans H; with_reducible exact H2_) | with_reducible exact H | (rw [hy481]; exact H) | exact H
     have Ny481 := Aside0.mk hy481
     clear hy481
     by_cases c22 : 0 ≤ (l1.length : Int)
     rotate_left
     · (rw [if_neg c22] at H; exact absurd H (by simp))
     rw [if_pos c22] at H
     have c22b0 := eq_true c22
     have c22b1 : decide (0 ≤ (l1.length : Int)) = true := decide_eq_true c22
     clear c22
     by_cases c23 : ((l1.length : Int) : Int).toNat ≤ 35184372088832
     rotate_left
     · (rw [if_neg c23] at H; exact absurd H (by simp))
     rw [if_pos c23] at H
     have c23b0 := eq_true c23
     have c23b1 : decide (((l1.length : Int) : Int).toNat ≤ 35184372088832) = true := decide_eq_true c23
     clear c23
     obtain ⟨y484, hy484⟩ : ∃ y_ : List Int, y_ = (List.replicate ((l1.length : Int) : Int).toNat 0) := ⟨_, rfl⟩
     replace H : (impl_Relieve.l0 kj3 l0 l1 (l1.length : Int) y481 y484 (wrap64 ((l1.length : Int) - 1)) a2_0 a2_1 a2_2 a2_3) = some (r1, r2) := by first | (rw [hy484]; with_reducible exact H) | (have H2_ := (Option.bind_some _ _).symm.trans H; rw [hy484]; with_reducible exact H2_) | (have H2_ := (Option.bind_some _ _).symm.trans H; with_reducible exact H2_) | with_reducible exact H | (rw [hy484]; exact H) | exact H
     have Ny484 := Aside0.mk hy484
     clear hy484
     have H' := Aside0.mk H
     clear H
     try go_wp2
     have n0_ := Aside0.mk (blk_drew BK477.out)
     have n1_ := Aside0.mk (below_drew1 HB.out)
     clear BK477; clear HB; have BK477 := n0_; have HB := n1_; clear n0_ n1_
     refine start_ (n := 7) (S := fun w' => True) (ds := []) #[F,F,F,F,F,F,F] (by kernel_rfl) rfl rfl trivial (fun hHeld => ?_)
     generalize wc.drew = w24 at BK477 HB hHeld ⊢
     refine pK 0 (some 36) #[T,F,F,F,F,F,F] rfl rfl ?_
     refine pK 1 (some 37) #[T,T,F,F,F,F,F] rfl rfl ?_
     refine pK 3 (some 39) #[T,T,F,T,F,F,F] rfl rfl ?_
     refine join_ (σ := Value × Value) 1 #[T,T,T,T,T,T,F] (fun s_ => [(38, s_.1), (40, s_.2), (9, s_.1)]) (fun s_ w' => (Kd.R (Kd.int .i64) 3 w' w.heap.size (fun k_ => some k_ ≠ (s_.2 : Value).ownBlock) s_.1 y481) ∧ (Kd.R (Kd.int .i64) 3 w' w.heap.size (fun k_ => some k_ ≠ (s_.1 : Value).ownBlock) s_.2 y484) ∧ (w'.heap[gb477]? = some (.cells #[.int .i64 a2_0, .int .i64 a2_1, .int .i64 a2_2, .int .i64 a2_3] 25 (0, 0))) ∧ (Below w.heap.size w w')) ?_ ?_
     rotate_left
     · intro hCont
       refine two_ (i := 2) (j := 4) (Ni := some 38) (Nj := some 40) #[T,T,T,T,F,F,F] #[T,T,F,T,T,F,F] rfl rfl rfl rfl (by kernel_rfl) (by decide) (by decide) (fun K hK => ?_) (fun K hK => ?_)
       · skip
         refine Kd.R_make_step (Kd.int .i64) _ 3 (by rfl) (N := 38) rfl 29 _ _ rfl ji19 rfl rfl Try.underlying29 (.int .i64 0) 8 info3 rfl (by decide) (by omega) 0 (ok := fun _ => True) (okp := fun _ => True) rfl (fun _ hk => hk) trivial (of_decide_eq_true nQ) (Nat.le_trans (Nat.mul_le_mul_right _ (of_decide_eq_true nQ : ji19.toNat ≤ 35184372088832)) (by omega)) (Below.refl _ _) (Nat.le_refl _) ?_
         intro v482 w25 ho26 hb hg_ hnew_
         clear hg_ hnew_
         (first | rw [← Ny481.out] at ho26 | (simp only [Int.reduceToNat] at ho26; rw [← Ny481.out] at ho26))
         have n0_ := Aside0.mk (Kd.R_lower ho26 (below_size (nH1 HB.out GE477.out)))
         have n1_ := Aside0.mk (blk_below (g := gb477) (o := .cells #[.int .i64 a2_0, .int .i64 a2_1, .int .i64 a2_2, .int .i64 a2_3] 25 (0, 0)) (nB BK477.out) hb)
         have n2_ := Aside0.mk (below_step (nH1 HB.out GE477.out) hb)
         clear BK477; clear HB; have HO483 := n0_; have BK477 := n1_; have HB := n2_; clear n0_ n1_ n2_; clear hb ho26
         refine hK.out _ _ trivial (fun hHeld => ?_)
         clear hK K
         refine norm_ (a' := ?_) ?_ ?_
         rotate_left
         · show Act.put _ (some 38) _ = _
           simp only [Act.put, List.setIfInBounds_toArray, List.set_cons_zero, List.set_cons_succ, i64_w, i32_w]
           rfl
         refine pK 5 (some 9) #[T,T,T,T,F,T,F] rfl rfl ?_
         refine one_ (i := 4) (N := some 40) #[T,T,T,T,T,T,F] rfl rfl (by kernel_rfl) (by decide) (fun K hK => ?_)
         refine Kd.R_make_step (Kd.int .i64) _ 3 (by rfl) (N := 40) rfl 29 _ _ rfl (l1.length : Int) rfl rfl Try.underlying29 (.int .i64 0) 8 info3 rfl (by decide) (by omega) 0 (ok := fun _ => True) (okp := fun _ => True) rfl (fun _ hk => hk) trivial (of_decide_eq_true nQ) (Nat.le_trans (Nat.mul_le_mul_right _ (of_decide_eq_true nQ : (l1.length : Int).toNat ≤ 35184372088832)) (by omega)) (Below.refl _ _) (Nat.le_refl _) ?_
         intro v485 w27 ho28 hb hg_ hnew_
         clear hg_ hnew_
         (first | rw [← Ny484.out] at ho28 | (simp only [Int.reduceToNat] at ho28; rw [← Ny484.out] at ho28))
         have n0_ := Aside0.mk (Kd.R_elder' (nR HO483.out) (Kd.R_base ho28) hb)
         have n1_ := Aside0.mk (Kd.R_lower (Kd.R_new' ho28 (Kd.R_lt (nR HO483.out))) (below_size (nH1 HB.out GE477.out)))
         have n2_ := Aside0.mk (blk_below (g := gb477) (o := .cells #[.int .i64 a2_0, .int .i64 a2_1, .int .i64 a2_2, .int .i64 a2_3] 25 (0, 0)) (nB BK477.out) hb)
         have n3_ := Aside0.mk (below_step (nH1 HB.out GE477.out) hb)
         clear HO483; clear BK477; clear HB; have HO483 := n0_; have HO486 := n1_; have BK477 := n2_; have HB := n3_; clear n0_ n1_ n2_ n3_; clear hb ho28
         refine hK.out _ _ trivial (fun hHeld => ?_)
         clear hK K
         refine norm_ (a' := ?_) ?_ ?_
         rotate_left
         · show Act.put _ (some 40) _ = _
           simp only [Act.put, List.setIfInBounds_toArray, List.set_cons_zero, List.set_cons_succ, i64_w, i32_w]
           rfl
         exact norm_ (by simp only [putAll, Act.put, List.setIfInBounds_toArray, List.set_cons_zero, List.set_cons_succ]) (hCont (v482, v485) _ ⟨(by (with_reducible repeat (first | apply Kd.R_alloc | apply Kd.R_drewN | apply Kd.R_drew)); exact Kd.R_mono HO483.out (fun _ hk => hk.2)), (by (with_reducible repeat (first | apply Kd.R_alloc | apply Kd.R_drewN | apply Kd.R_drew)); exact Kd.R_mono HO486.out (fun _ hk => hk.2)), (nB BK477.out), (nH1 HB.out GE477.out)⟩)
       · skip
         refine Kd.R_make_step (Kd.int .i64) _ 3 (by rfl) (N := 40) rfl 29 _ _ rfl (l1.length : Int) rfl rfl Try.underlying29 (.int .i64 0) 8 info3 rfl (by decide) (by omega) 0 (ok := fun _ => True) (okp := fun _ => True) rfl (fun _ hk => hk) trivial (of_decide_eq_true nQ) (Nat.le_trans (Nat.mul_le_mul_right _ (of_decide_eq_true nQ : (l1.length : Int).toNat ≤ 35184372088832)) (by omega)) (Below.refl _ _) (Nat.le_refl _) ?_
         intro v485 w25 ho26 hb hg_ hnew_
         clear hg_ hnew_
         (first | rw [← Ny484.out] at ho26 | (simp only [Int.reduceToNat] at ho26; rw [← Ny484.out] at ho26))
         have n0_ := Aside0.mk (Kd.R_lower ho26 (below_size (nH1 HB.out GE477.out)))
         have n1_ := Aside0.mk (blk_below (g := gb477) (o := .cells #[.int .i64 a2_0, .int .i64 a2_1, .int .i64 a2_2, .int .i64 a2_3] 25 (0, 0)) (nB BK477.out) hb)
         have n2_ := Aside0.mk (below_step (nH1 HB.out GE477.out) hb)
         clear BK477; clear HB; have HO486 := n0_; have BK477 := n1_; have HB := n2_; clear n0_ n1_ n2_; clear hb ho26
         refine hK.out _ _ trivial (fun hHeld => ?_)
         clear hK K
         refine norm_ (a' := ?_) ?_ ?_
         rotate_left
         · show Act.put _ (some 40) _ = _
           simp only [Act.put, List.setIfInBounds_toArray, List.set_cons_zero, List.set_cons_succ, i64_w, i32_w]
           rfl
         refine one_ (i := 2) (N := some 38) #[T,T,T,T,T,F,F] rfl rfl (by kernel_rfl) (by decide) (fun K hK => ?_)
         refine Kd.R_make_step (Kd.int .i64) _ 3 (by rfl) (N := 38) rfl 29 _ _ rfl ji19 rfl rfl Try.underlying29 (.int .i64 0) 8 info3 rfl (by decide) (by omega) 0 (ok := fun _ => True) (okp := fun _ => True) rfl (fun _ hk => hk) trivial (of_decide_eq_true nQ) (Nat.le_trans (Nat.mul_le_mul_right _ (of_decide_eq_true nQ : ji19.toNat ≤ 35184372088832)) (by omega)) (Below.refl _ _) (Nat.le_refl _) ?_
         intro v482 w27 ho28 hb hg_ hnew_
         clear hg_ hnew_
         (first | rw [← Ny481.out] at ho28 | (simp only [Int.reduceToNat] at ho28; rw [← Ny481.out] at ho28))
         have n0_ := Aside0.mk (Kd.R_elder' (nR HO486.out) (Kd.R_base ho28) hb)
         have n1_ := Aside0.mk (Kd.R_lower (Kd.R_new' ho28 (Kd.R_lt (nR HO486.out))) (below_size (nH1 HB.out GE477.out)))
         have n2_ := Aside0.mk (blk_below (g := gb477) (o := .cells #[.int .i64 a2_0, .int .i64 a2_1, .int .i64 a2_2, .int .i64 a2_3] 25 (0, 0)) (nB BK477.out) hb)
         have n3_ := Aside0.mk (below_step (nH1 HB.out GE477.out) hb)
         clear HO486; clear BK477; clear HB; have HO486 := n0_; have HO483 := n1_; have BK477 := n2_; have HB := n3_; clear n0_ n1_ n2_ n3_; clear hb ho28
         refine hK.out _ _ trivial (fun hHeld => ?_)
         clear hK K
         refine norm_ (a' := ?_) ?_ ?_
         rotate_left
         · show Act.put _ (some 38) _ = _
           simp only [Act.put, List.setIfInBounds_toArray, List.set_cons_zero, List.set_cons_succ, i64_w, i32_w]
           rfl
         refine pK 5 (some 9) #[T,T,T,T,T,T,F] rfl rfl ?_
         exact norm_ (by simp only [putAll, Act.put, List.setIfInBounds_toArray, List.set_cons_zero, List.set_cons_succ]) (hCont (v482, v485) _ ⟨(by (with_reducible repeat (first | apply Kd.R_alloc | apply Kd.R_drewN | apply Kd.R_drew)); exact Kd.R_mono HO483.out (fun _ hk => hk.2)), (by (with_reducible repeat (first | apply Kd.R_alloc | apply Kd.R_drewN | apply Kd.R_drew)); exact Kd.R_mono HO486.out (fun _ hk => hk.2)), (nB BK477.out), (nH1 HB.out GE477.out)⟩)
     rintro ⟨v482, v485⟩ w29 ⟨h0_, h1_, h2_, h3_⟩
     have n0_ : Aside0 (Kd.R (Kd.int .i64) 3 w29 w.heap.size (fun k_ => some k_ ≠ (v485 : Value).ownBlock) v482 y481) := ⟨h0_⟩
     have n1_ : Aside0 (Kd.R (Kd.int .i64) 3 w29 w.heap.size (fun k_ => some k_ ≠ (v482 : Value).ownBlock) v485 y484) := ⟨h1_⟩
     have n2_ : Aside0 (w29.heap[gb477]? = some (.cells #[.int .i64 a2_0, .int .i64 a2_1, .int .i64 a2_2, .int .i64 a2_3] 25 (0, 0))) := ⟨h2_⟩
     have n3_ : Aside0 (Below w.heap.size w w29) := ⟨h3_⟩
     clear BK477; clear HB; clear h0_ h1_ h2_ h3_; have HO483 := n0_; have HO486 := n1_; have BK477 := n2_; have HB := n3_; clear n0_ n1_ n2_ n3_; have hHeld := trivial
     refine norm_ (a' := ?_) ?_ ?_
     rotate_left
     · simp only [putAll, Act.put, List.setIfInBounds_toArray, List.set_cons_zero, List.set_cons_succ]
       rfl
     refine pK 6 (some 10) #[T,T,T,T,T,T,T] rfl rfl ?_
     refine done_ (by kernel_rfl) ?_
     try go_wp2
     go_loopg [11] kj3 (fun kq v11 w' => ∃ (x9_2 : List Int) (x10_2 : List Int) (x11_2 : Int), v11 = .int .i64 x11_2 ∧ Aside0 (impl_Relieve.l0 kq l0 l1 (l1.length : Int) x9_2 x10_2 x11_2 a2_0 a2_1 a2_2 a2_3 = some (r1, r2)) ∧ Aside0 (kq ≤ kj3) ∧ Aside0 (Kd.R (Kd.int .i64) 3 w' w.heap.size (fun k_ => some k_ ≠ (v485 : Value).ownBlock) v482 x9_2) ∧ Aside0 (Kd.R (Kd.int .i64) 3 w' w.heap.size (fun k_ => some k_ ≠ (v482 : Value).ownBlock) v485 x10_2) ∧ Aside0 (w'.heap[gb477]? = some (.cells #[.int .i64 a2_0, .int .i64 a2_1, .int .i64 a2_2, .int .i64 a2_3] 25 (0, 0))) ∧ Aside0 (Below w.heap.size w w'))
     case atStart => exact ⟨(y481), (y484), (wrap64 ((l1.length : Int) - 1)), nS, H', ⟨Nat.le_refl _⟩, ⟨by (with_reducible repeat (first | apply Kd.R_alloc | apply Kd.R_drewN | apply Kd.R_drew)); exact HO483.out⟩, ⟨by (with_reducible repeat (first | apply Kd.R_alloc | apply Kd.R_drewN | apply Kd.R_drew)); exact HO486.out⟩, ⟨by (with_reducible repeat (first | refine blk_drewN ?_ _ | refine blk_drew ?_ | refine blk_alloc ?_ _)); exact BK477.out⟩, ⟨nH1 HB.out GE477.out⟩⟩
     case round =>
      clear H'
      try clear c1; try clear c2; try clear p2; try clear c4; try clear p6; try clear c7; try clear c8; try clear c8b0; try clear c8b1; try clear c11; try clear c18; try clear c20; try clear c20b0; try clear c20b1; try clear c21; try clear c21b0; try clear c21b1; try clear c22; try clear c22b0; try clear c22b1; try clear c23; try clear c23b0; try clear c23b1; try clear c29; try clear hcz14_0; try clear hcz14_1; try clear hcz14_2; try clear hcz14_3; try clear hfz14_0; try clear hfz14_1; try clear hfz14_2; try clear hfz14_3; try clear p2
      obtain ⟨x9_2, x10_2, x11_2, rfl, HA, HK2, HO_9, HO_10, BK477, HB⟩ := hrel
      cases gk with
      | zero => exact absurd HA.out (by simp [impl_Relieve.l0])
      | succ k2 =>
       have H := HA.out; clear HA
       simp only [impl_Relieve.l0] at H
       by_cases c30 : x11_2 ≥ 0
       · rw [if_pos c30] at H
         have c30b0 : decide (0 ≤ x11_2) = true := decide_eq_true c30
         clear c30
         by_cases c31 : 0 ≤ x11_2
         rotate_left
         · (rw [if_neg c31] at H; exact absurd H (by simp))
         rw [if_pos c31] at H
         have c31b0 : decide (0 ≤ x11_2) = true := decide_eq_true c31
         clear c31
         by_cases c32 : x11_2 < (x9_2.length : Int)
         rotate_left
         · (rw [if_neg c32] at H; exact absurd H (by simp))
         rw [if_pos c32] at H
         have c32b0 : decide (x11_2 < (x9_2.length : Int)) = true := decide_eq_true c32
         clear c32
         obtain ⟨y487, hy487⟩ : ∃ y_ : List Int, y_ = (x9_2.set (x11_2 : Int).toNat (-1)) := ⟨_, rfl⟩
         replace H : (impl_Relieve.l1 k2 l0 l1 (l1.length : Int) y487 x10_2 x11_2 (wrap64 (x11_2 + 1)) a2_0 a2_1 a2_2 a2_3) = some (r1, r2) := by first | (rw [hy487]; with_reducible exact H) | (have H2_ := (Option.bind_some _ _).symm.trans H; rw [hy487]; with_reducible exact H2_) | (have H2_ := (Option.bind_some _ _).symm.trans H; with_reducible exact H2_) | with_reducible exact H | (rw [hy487]; exact H) | exact H
         have Ny487 := Aside0.mk hy487
         clear hy487
         have H' := Aside0.mk H
         clear H
         have p33 : 0 ≤ (x11_2 : Int) := of_decide_eq_true nQ
         have q33 : (x11_2 : Int) < ((x9_2.length : Int) : Int) := of_decide_eq_true nQ
         obtain ⟨go33, co33, eo33, gb33, gl33, cl33, HG33⟩ := Kd.R_form HO_9.out (by omega)
         (first | cases eo33 | (injection eo33 with ea_ en_ ec_; (first | subst ea_ | (injection ea_ with ea_; subst ea_)); subst ec_; clear en_))
         have GB33 := Aside0.mk gb33
         have GG33 := Aside0.mk HG33
         clear gb33 gl33 HG33
         obtain ⟨hx33_0, hf33_0⟩ := Kd.R_celln 0 HO_9.out (x11_2 : Int) p33 q33
         replace p33 := eq_true p33; replace q33 := eq_true q33
         have HP34 := Kd.R_putg HO_9.out (x11_2 : Int) (-1)
         go_wp2_with (first | ((with_reducible refine gate_store (t := 3) (p := 49) rfl ?_); refine store_event (t := 3) (p := 49) (v := ?vo_w35) (w1 := (wr.setCell ⟨go33, (x11_2 : Int).toNat, none⟩ (.int .i64 (-1)))) ?hg ?ho ?hn ?hr ?_; (case ho => rfl); (case hg => rfl); (case hn => rfl); (case hr => first | (go_simp; done) | (go_simp; rfl)); intro w35 hw; have hg : wr.grownBy w35 (some go33) := (by rw [hw]; exact HP34.2); have hp_ : Kd.R (Kd.int .i64) 3 w35 w.heap.size (fun k_ => some k_ ≠ (v485 : Value).ownBlock) (.slice (some ⟨go33, 0, none⟩) x9_2.length co33) y487 := (by rw [hw, Ny487.out]; exact HP34.1); clear HP34; have n0_ := Aside0.mk (hp_); have n1_ := Aside0.mk (Kd.R_after (v := (.slice (some ⟨go33, 0, none⟩) x9_2.length co33)) (v1 := (.slice (some ⟨go33, 0, none⟩) x9_2.length co33)) (ok := (fun _ => True)) (by (with_reducible repeat (first | apply Kd.R_alloc | apply Kd.R_drewN | apply Kd.R_drew)); exact Kd.R_mono HO_10.out (fun _ hk => ⟨trivial, hk⟩)) hg (.inl rfl)); have n2_ := Aside0.mk (blk_grown (g := gb477) (o := .cells #[.int .i64 a2_0, .int .i64 a2_1, .int .i64 a2_2, .int .i64 a2_3] 25 (0, 0)) (nB BK477.out) hg (Kd.R_ne HO_9.out BK477.out (by decide))); have n3_ := Aside0.mk ((by rw [hw]; exact below_set (HB.out) GB33.out : Below w.heap.size w w35)); clear HO_9; clear HO_10; clear BK477; clear HB; have HO_9 := n0_; have HO_10 := n1_; have BK477 := n2_; have HB := n3_; clear n0_ n1_ n2_ n3_; clear hg hw hp_))
         go_loopg [12] k2 (fun kq v12 w' => ∃ (x9_3 : List Int) (x10_3 : List Int) (x12_3 : Int), v12 = .int .i64 x12_3 ∧ Aside0 (impl_Relieve.l1 kq l0 l1 (l1.length : Int) x9_3 x10_3 x11_2 x12_3 a2_0 a2_1 a2_2 a2_3 = some (r1, r2)) ∧ Aside0 (kq ≤ k2) ∧ Aside0 (Kd.R (Kd.int .i64) 3 w' w.heap.size (fun k_ => some k_ ≠ (v485 : Value).ownBlock) (.slice (some ⟨go33, 0, none⟩) x9_2.length co33) x9_3) ∧ Aside0 (Kd.R (Kd.int .i64) 3 w' w.heap.size (fun k_ => some k_ ≠ ((.slice (some ⟨go33, 0, none⟩) x9_2.length co33) : Value).ownBlock) v485 x10_3) ∧ Aside0 (w'.heap[gb477]? = some (.cells #[.int .i64 a2_0, .int .i64 a2_1, .int .i64 a2_2, .int .i64 a2_3] 25 (0, 0))) ∧ Aside0 (Below w.heap.size w w'))
         case atStart => exact ⟨(y487), (x10_2), (wrap64 (x11_2 + 1)), nS, H', ⟨Nat.le_refl _⟩, ⟨by (with_reducible repeat (first | apply Kd.R_alloc | apply Kd.R_drewN | apply Kd.R_drew)); exact HO_9.out⟩, ⟨by (with_reducible repeat (first | apply Kd.R_alloc | apply Kd.R_drewN | apply Kd.R_drew)); exact Kd.R_mono HO_10.out (fun _ hk => hk.2)⟩, ⟨by (with_reducible repeat (first | refine blk_drewN ?_ _ | refine blk_drew ?_ | refine blk_alloc ?_ _)); exact BK477.out⟩, ⟨nH1 HB.out GE477.out⟩⟩
         case round =>
          clear H'
          try clear c1; try clear c2; try clear p2; try clear c3; try clear p3; try clear q3; try clear hx3; try clear hf3; try clear c4; try clear p6; try clear c7; try clear c8; try clear c8b0; try clear c8b1; try clear c11; try clear c18; try clear c20; try clear c20b0; try clear c20b1; try clear c21; try clear c21b0; try clear c21b1; try clear c22; try clear c22b0; try clear c22b1; try clear c23; try clear c23b0; try clear c23b1; try clear c29; try clear c30; try clear c30b0; try clear c31; try clear c31b0; try clear c32; try clear c32b0; try clear p33; try clear q33; try clear hx33; try clear hf33
          try clear hcz14_0; try clear hcz14_1; try clear hcz14_2; try clear hcz14_3; try clear hfz14_0; try clear hfz14_1; try clear hfz14_2; try clear hfz14_3; try clear hx33_0; try clear p2; try clear p33; try clear p6; try clear q33
          obtain ⟨x9_3, x10_3, x12_3, rfl, HA, HK3, HO_9, HO_10, BK477, HB⟩ := hrel
          have hl9_3 := (Kd.R_reads' HO_9.out).1
          rw [hl9_3] at HO_9
          (try simp only [hl9_3])
          (try simp only [hl9_3] at BK477)
          (try simp only [hl9_3] at HO_10)
          cases gk with
          | zero => exact absurd HA.out (by simp [impl_Relieve.l1])
          | succ k3 =>
           have H := HA.out; clear HA
           simp only [impl_Relieve.l1] at H
           obtain ⟨ji36, hji36⟩ : ∃ j_ : Int, (mn (l1.length : Int) (wrap64 (x11_2 + 12))) = j_ := ⟨_, rfl⟩
           replace H : (if x12_3 ≤ (ji36) then (if 0 ≤ x12_3 then (if x12_3 < (x9_3.length : Int) then (if (rd x9_3 x12_3) < 0 then (impl_Relieve.j3 k3 l0 l1 (l1.length : Int) x9_3 x10_3 x11_2 x12_3 true a2_0 a2_1 a2_2 a2_3) else (if 0 ≤ x11_2 then (if x11_2 ≤ x12_3 then (if x12_3 ≤ (l1.length : Int) then ((impl_dutyCode.f k3 l0 ((l1.take (x12_3 : Int).toNat).drop (x11_2 : Int).toNat) a2_0 a2_1 a2_2 a2_3).bind fun t490 => (impl_Relieve.j3 k3 l0 l1 (l1.length : Int) x9_3 x10_3 x11_2 x12_3 (t490 != 0) a2_0 a2_1 a2_2 a2_3)) else (none)) else (none)) else (none))) else (none)) else (none)) else (impl_Relieve.l0 k3 l0 l1 (l1.length : Int) x9_3 x10_3 (wrap64 (x11_2 - 1)) a2_0 a2_1 a2_2 a2_3)) = some (r1, r2) := by first | (rw [hji36] at H; exact H) | (simp only [hji36] at H ⊢; exact H)
           have hji36_ : (if (wrap64 (x11_2 + 12)) < (l1.length : Int) then (wrap64 (x11_2 + 12)) else (l1.length : Int)) = ji36 := hji36
           by_cases c37 : x12_3 ≤ (ji36)
           · rw [if_pos c37] at H
             have c37b0 : decide (x12_3 ≤ (ji36)) = true := decide_eq_true c37
             clear c37
             have HC38 := Aside0.mk H
             clear H
             go_upto_region 12 with (fail)
             go_cut [74] (fun v74 wc => ∃ (kq : Nat) (x74_37 : Bool), v74 = .bool x74_37 ∧ Aside0 (impl_Relieve.j3 kq l0 l1 (l1.length : Int) x9_3 x10_3 x11_2 x12_3 x74_37 a2_0 a2_1 a2_2 a2_3 = some (r1, r2)) ∧ Aside0 (kq ≤ k3) ∧ Aside0 (Kd.R (Kd.int .i64) 3 wc w.heap.size (fun k_ => some k_ ≠ (v485 : Value).ownBlock) (.slice (some ⟨go33, 0, none⟩) x9_3.length co33) x9_3) ∧ Aside0 (Kd.R (Kd.int .i64) 3 wc w.heap.size (fun k_ => some k_ ≠ ((.slice (some ⟨go33, 0, none⟩) x9_3.length co33) : Value).ownBlock) v485 x10_3) ∧ Aside0 (wc.heap[gb477]? = some (.cells #[.int .i64 a2_0, .int .i64 a2_1, .int .i64 a2_2, .int .i64 a2_3] 25 (0, 0))) ∧ Aside0 (Below w.heap.size w wc))
             case first =>
              have H := HC38.out; clear HC38
              by_cases c39 : 0 ≤ x12_3
              rotate_left
              · (rw [if_neg c39] at H; exact absurd H (by simp))
              rw [if_pos c39] at H
              have c39b0 : decide (0 ≤ x12_3) = true := decide_eq_true c39
              clear c39
              (first | rw [c39b0] | (simp only [i64_w, i32_w]; rw [c39b0]) | skip)
              by_cases c40 : x12_3 < (x9_3.length : Int)
              rotate_left
              · (rw [if_neg c40] at H; exact absurd H (by simp))
              rw [if_pos c40] at H
              have c40b0 : decide (x12_3 < (x9_3.length : Int)) = true := decide_eq_true c40
              clear c40
              by_cases c41 : (rd x9_3 x12_3) < 0
              · rw [if_pos c41] at H
                have c41b0 : decide ((rd x9_3 x12_3) < 0) = true := decide_eq_true c41
                clear c41
                have H' := Aside0.mk H
                clear H
                try go_wp2
                have n0_ := Aside0.mk (Kd.R_drew HO_9.out)
                have n1_ := Aside0.mk (Kd.R_drew HO_10.out)
                have n2_ := Aside0.mk (blk_drew BK477.out)
                have n3_ := Aside0.mk (below_drew1 HB.out)
                clear HO_9; clear HO_10; clear BK477; clear HB; have HO_9 := n0_; have HO_10 := n1_; have BK477 := n2_; have HB := n3_; clear n0_ n1_ n2_ n3_
                have p488 : 0 ≤ (x12_3 : Int) := of_decide_eq_true nQ
                have q488 : x12_3 < (x9_3.length : Int) := of_decide_eq_true nQ
                obtain ⟨ad488, e488, hx488_0⟩ := Kd.at_int (Kd.R_reads' HO_9.out).2.2 x12_3 p488 q488
                obtain rfl : (⟨go33, 0, none⟩ : Addr) = ad488 := (by injection e488)
                (first | simp only [add_plain] at hx488_0 | simp only [add_at] at hx488_0 | simp only [Addr.add, Nat.zero_add] at hx488_0 | skip)
                replace p488 := eq_true p488; replace q488 := eq_true q488
                refine start_ (n := 15) (S := fun w' => w'.cell? ⟨go33, (x12_3).toNat, none⟩ = some (.int .i64 (rd x9_3 x12_3))) (ds := []) #[F,F,F,F,F,F,F,F,F,F,F,F,F,F,F] (by kernel_rfl) rfl rfl (hx488_0) (fun hHeld => ?_); refine with_tabW impl_Relieve.tab12 impl_Relieve.bits12 (fun HT_ HW_ => ?_)
                generalize wr.drew = w42 at HO_9 HO_10 BK477 HB hx488_0 hHeld ⊢
                refine pU 0 (some 60) #[T,F,F,F,F,F,F,F,F,F,F,F,F,F,F] rfl rfl HT_.out ?_
                refine pU 1 (some 61) #[T,T,F,F,F,F,F,F,F,F,F,F,F,F,F] rfl rfl HT_.out ?_
                refine pU 2 (some 62) #[T,T,T,F,F,F,F,F,F,F,F,F,F,F,F] rfl rfl HT_.out ?_
                refine take_ (i := 3) (N := some 63) (v := ?_) (a' := ?_) #[T,T,T,T,F,F,F,F,F,F,F,F,F,F,F] rfl rfl (take_ofW HT_.out HW_.out (by kernel_rfl)) (fun _ _ _ h => h) (Or.inl ⟨by rfl, ?_⟩) hHeld ?_ ?_
                rotate_left
                · intro w' s0
                  go_simp; with_reducible rfl
                rotate_left
                · simp only [Act.put, List.setIfInBounds_toArray, List.set_cons_zero, List.set_cons_succ, i64_w, i32_w]
                  rfl
                refine pU 4 (some 64) #[T,T,T,T,T,F,F,F,F,F,F,F,F,F,F] rfl rfl HT_.out ?_
                refine pU 5 (some 65) #[T,T,T,T,T,T,F,F,F,F,F,F,F,F,F] rfl rfl HT_.out ?_
                refine pV 6 (some 66) #[T,T,T,T,T,T,T,F,F,F,F,F,F,F,F] rfl rfl HT_.out ?_
                refine pV 7 (some 67) #[T,T,T,T,T,T,T,T,F,F,F,F,F,F,F] rfl rfl HT_.out ?_
                refine pV 8 (some 68) #[T,T,T,T,T,T,T,T,T,F,F,F,F,F,F] rfl rfl HT_.out ?_
                refine pV 9 (some 69) #[T,T,T,T,T,T,T,T,T,T,F,F,F,F,F] rfl rfl HT_.out ?_
                refine pV 10 (some 70) #[T,T,T,T,T,T,T,T,T,T,T,F,F,F,F] rfl rfl HT_.out ?_
                refine pV 11 (some 71) #[T,T,T,T,T,T,T,T,T,T,T,T,F,F,F] rfl rfl HT_.out ?_
                refine pV 12 (some 72) #[T,T,T,T,T,T,T,T,T,T,T,T,T,F,F] rfl rfl HT_.out ?_
                refine pV 13 (some 73) #[T,T,T,T,T,T,T,T,T,T,T,T,T,T,F] rfl rfl HT_.out ?_
                refine pU 14 (some 74) #[T,T,T,T,T,T,T,T,T,T,T,T,T,T,T] rfl rfl HT_.out ?_
                refine done_ (done_of HT_.out (by kernel_rfl)) ?_
                try go_wp2
                go_meet
                case rel => exact ⟨_, (true), nS, H', ⟨by have := HJ3.out; have := HK2.out; have := HK3.out; first | omega | exact Nat.le_refl _⟩, ⟨by (try simp only [hl9_3]); (with_reducible repeat (first | apply Kd.R_alloc | apply Kd.R_drewN | apply Kd.R_drew)); exact HO_9.out⟩, ⟨by (try simp only [hl9_3]); (with_reducible repeat (first | apply Kd.R_alloc | apply Kd.R_drewN | apply Kd.R_drew)); exact HO_10.out⟩, ⟨by (try simp only [hl9_3]); (with_reducible repeat (first | refine blk_drewN ?_ _ | refine blk_drew ?_ | refine blk_alloc ?_ _)); exact BK477.out⟩, ⟨nH1 HB.out GE477.out⟩⟩
              · rw [if_neg c41] at H
                have c41b0 : decide ((rd x9_3 x12_3) < 0) = false := decide_eq_false c41
                clear c41
                by_cases c43 : 0 ≤ x11_2
                rotate_left
                · (rw [if_neg c43] at H; exact absurd H (by simp))
                rw [if_pos c43] at H
                have c43b0 := eq_true c43
                have c43b1 : decide (0 ≤ x11_2) = true := decide_eq_true c43
                clear c43
                by_cases c44 : x11_2 ≤ x12_3
                rotate_left
                · (rw [if_neg c44] at H; exact absurd H (by simp))
                rw [if_pos c44] at H
                have c44b0 := eq_true c44
                have c44b1 : decide (x11_2 ≤ x12_3) = true := decide_eq_true c44
                clear c44
                by_cases c45 : x12_3 ≤ (l1.length : Int)
                rotate_left
                · (rw [if_neg c45] at H; exact absurd H (by simp))
                rw [if_pos c45] at H
                have c45b0 := eq_true c45
                have c45b1 : decide (x12_3 ≤ (l1.length : Int)) = true := decide_eq_true c45
                clear c45
                replace H := Option.bind_eq_some_iff.mp H
                obtain ⟨t490, A460, H⟩ := H
                replace H : (impl_Relieve.j3 k3 l0 l1 (l1.length : Int) x9_3 x10_3 x11_2 x12_3 (t490 != 0) a2_0 a2_1 a2_2 a2_3) = some (r1, r2) := H
                have A46 := Aside0.mk A460
                clear A460
                have H' := Aside0.mk H
                clear H
                try go_wp2
                have n0_ := Aside0.mk (Kd.R_drew HO_9.out)
                have n1_ := Aside0.mk (Kd.R_drew HO_10.out)
                have n2_ := Aside0.mk (blk_drew BK477.out)
                have n3_ := Aside0.mk (below_drew1 HB.out)
                clear HO_9; clear HO_10; clear BK477; clear HB; have HO_9 := n0_; have HO_10 := n1_; have BK477 := n2_; have HB := n3_; clear n0_ n1_ n2_ n3_
                have p488 : 0 ≤ (x12_3 : Int) := of_decide_eq_true nQ
                have q488 : x12_3 < (x9_3.length : Int) := of_decide_eq_true nQ
                obtain ⟨ad488, e488, hx488_0⟩ := Kd.at_int (Kd.R_reads' HO_9.out).2.2 x12_3 p488 q488
                obtain rfl : (⟨go33, 0, none⟩ : Addr) = ad488 := (by injection e488)
                (first | simp only [add_plain] at hx488_0 | simp only [add_at] at hx488_0 | simp only [Addr.add, Nat.zero_add] at hx488_0 | skip)
                replace p488 := eq_true p488; replace q488 := eq_true q488
                obtain ⟨i048, hi048, _, hsz48, _⟩ := info_parts info3
                obtain ⟨A48, hcut48, hA48, hC48⟩ := print_mid_of (P := Try.prog) (Value.int .i64) 0 29 3 .i64 .i64 Try.underlying29 hi048 hsz48 A1 c1 l1 x11_2 x12_3 (of_decide_eq_true nQ) (by first | omega | exact of_decide_eq_true nQ) (of_decide_eq_true nQ) HC1.out
                have HR489 := Aside0.mk (Kd.C_of_reads (h1 := fun _ => rfl) (hA48 _ (Kd.reads_of_C HR1.out)))
                have HC489 := Aside0.mk hC48
                clear hA48 hC48 hi048 hsz48
                refine start_ (n := 15) (S := fun w' => w'.cell? ⟨gb477, 0, none⟩ = some (.int .i64 a2_0) ∧ w'.cell? ⟨gb477, 1, none⟩ = some (.int .i64 a2_1) ∧ w'.cell? ⟨gb477, 2, none⟩ = some (.int .i64 a2_2) ∧ w'.cell? ⟨gb477, 3, none⟩ = some (.int .i64 a2_3) ∧ w'.cell? ⟨go33, (x12_3).toNat, none⟩ = some (.int .i64 (rd x9_3 x12_3))) (ds := []) #[F,F,F,F,F,F,F,F,F,F,F,F,F,F,F] (by kernel_rfl) rfl rfl ⟨(blk_cell BK477.out 0).trans rfl, (blk_cell BK477.out 1).trans rfl, (blk_cell BK477.out 2).trans rfl, (blk_cell BK477.out 3).trans rfl, hx488_0⟩ (fun hHeld => ?_); refine with_tabW impl_Relieve.tab12 impl_Relieve.bits12 (fun HT_ HW_ => ?_)
                generalize wr.drew = w47 at HO_9 HO_10 BK477 HB HR489 hx488_0 hHeld ⊢
                refine pU 0 (some 60) #[T,F,F,F,F,F,F,F,F,F,F,F,F,F,F] rfl rfl HT_.out ?_
                refine pU 1 (some 61) #[T,T,F,F,F,F,F,F,F,F,F,F,F,F,F] rfl rfl HT_.out ?_
                refine pU 2 (some 62) #[T,T,T,F,F,F,F,F,F,F,F,F,F,F,F] rfl rfl HT_.out ?_
                refine tU5 3 (some 63) #[T,T,T,T,F,F,F,F,F,F,F,F,F,F,F] rfl rfl HT_.out HW_.out hHeld ?_
                refine pU 4 (some 64) #[T,T,T,T,T,F,F,F,F,F,F,F,F,F,F] rfl rfl HT_.out ?_
                refine pU 5 (some 65) #[T,T,T,T,T,T,F,F,F,F,F,F,F,F,F] rfl rfl HT_.out ?_
                refine pU 6 (some 66) #[T,T,T,T,T,T,T,F,F,F,F,F,F,F,F] rfl rfl HT_.out ?_
                refine pU 7 (some 67) #[T,T,T,T,T,T,T,T,F,F,F,F,F,F,F] rfl rfl HT_.out ?_
                refine pU 8 (some 68) #[T,T,T,T,T,T,T,T,T,F,F,F,F,F,F] rfl rfl HT_.out ?_
                refine pU 9 (some 69) #[T,T,T,T,T,T,T,T,T,T,F,F,F,F,F] rfl rfl HT_.out ?_
                refine pU 10 (some 70) #[T,T,T,T,T,T,T,T,T,T,T,F,F,F,F] rfl rfl HT_.out ?_
                refine tU5 11 (some 71) #[T,T,T,T,T,T,T,T,T,T,T,T,F,F,F] rfl rfl HT_.out HW_.out hHeld ?_
                refine one_ (i := 12) (N := some 72) #[T,T,T,T,T,T,T,T,T,T,T,T,T,F,F] rfl rfl (one_of HT_.out (by kernel_rfl)) (by decide) (fun K hK => ?_)
                refine goes_ Try.func40 (by kernel_rfl) rfl #[.slice A0 l0.length c0, .slice A48 ((l1.take (x12_3 : Int).toNat).drop (x11_2 : Int).toNat).length (c1 - x11_2.toNat), .agg #[.int .i64 a2_0, .int .i64 a2_1, .int .i64 a2_2, .int .i64 a2_3]] (by rfl) rfl rfl (by (try simp only [List.map_toArray, List.map_cons, List.map_nil]); first | done | (rw [show ((l1.take (x12_3 : Int).toNat).drop (x11_2 : Int).toNat).length = (x12_3.toNat - x11_2.toNat) from (by rw [List.length_drop, List.length_take]; have h_ : (x12_3 : Int) ≤ (l1.length : Int) := of_decide_eq_true nQ; omega)] <;> rfl) | rfl | (simp only [List.length_drop, List.length_take]; rfl)) ?_
                with_reducible refine (impl_dutyCode.calls k3 _ _ l0 _ _ ((l1.take (x12_3 : Int).toNat).drop (x11_2 : Int).toNat) a2_0 a2_1 a2_2 a2_3 t490 _ ?side1 ?side2 ?side3 ?side4 A46.out).mono ?_
                (case side1 => repeat (first | exact (Kd.C_below HR0.out HB.out) | (with_reducible refine Kd.C_alloc ?_ _) | (with_reducible refine Kd.C_drewN ?_ _) | (with_reducible refine Kd.C_drew ?_)))
                (case side2 => exact HC0.out)
                (case side3 => repeat (first | exact (Kd.C_below HR489.out HB.out) | (with_reducible refine Kd.C_alloc ?_ _) | (with_reducible refine Kd.C_drewN ?_ _) | (with_reducible refine Kd.C_drew ?_)))
                (case side4 => exact HC489.out)
                rintro e w49 ⟨rfl, hb⟩
                have HS4_ := (hb.cell (World.block_lt_of_cell? _ _ (hHeld.2.2.2.2))).trans (hHeld.2.2.2.2)
                refine ⟨_, rfl, ?_⟩
                have n0_ := Aside0.mk (Kd.R_below (nR HO_9.out) hb)
                have n1_ := Aside0.mk (Kd.R_below (nR HO_10.out) hb)
                have n2_ := Aside0.mk (blk_below (g := gb477) (o := .cells #[.int .i64 a2_0, .int .i64 a2_1, .int .i64 a2_2, .int .i64 a2_3] 25 (0, 0)) (nB BK477.out) hb)
                have n3_ := Aside0.mk (below_step (nH1 HB.out GE477.out) hb)
                clear HO_9; clear HO_10; clear BK477; clear HB; have HO_9 := n0_; have HO_10 := n1_; have BK477 := n2_; have HB := n3_; clear n0_ n1_ n2_ n3_; (try clear hb); (try clear hb2); (try clear hk); (try clear hi)
                refine hK.out _ _ ⟨(blk_cell BK477.out 0).trans rfl, (blk_cell BK477.out 1).trans rfl, (blk_cell BK477.out 2).trans rfl, (blk_cell BK477.out 3).trans rfl, HS4_⟩ (fun hHeld => ?_)
                clear hK K
                refine norm_ (a' := ?_) ?_ ?_
                rotate_left
                · show Act.put _ (some 72) _ = _
                  simp only [Act.put, List.setIfInBounds_toArray, List.set_cons_zero, List.set_cons_succ, i64_w, i32_w]
                  rfl
                refine pU 13 (some 73) #[T,T,T,T,T,T,T,T,T,T,T,T,T,T,F] rfl rfl HT_.out ?_
                refine pU 14 (some 74) #[T,T,T,T,T,T,T,T,T,T,T,T,T,T,T] rfl rfl HT_.out ?_
                refine done_ (done_of HT_.out (by kernel_rfl)) ?_
                try go_wp2
                go_meet
                case rel => exact ⟨_, ((t490 != 0)), nS, H', ⟨by have := HJ3.out; have := HK2.out; have := HK3.out; first | omega | exact Nat.le_refl _⟩, ⟨by (try simp only [hl9_3]); (with_reducible repeat (first | apply Kd.R_alloc | apply Kd.R_drewN | apply Kd.R_drew)); exact HO_9.out⟩, ⟨by (try simp only [hl9_3]); (with_reducible repeat (first | apply Kd.R_alloc | apply Kd.R_drewN | apply Kd.R_drew)); exact HO_10.out⟩, ⟨by (try simp only [hl9_3]); (with_reducible repeat (first | refine blk_drewN ?_ _ | refine blk_drew ?_ | refine blk_alloc ?_ _)); exact BK477.out⟩, ⟨nH1 HB.out GE477.out⟩⟩
             case rest =>
              clear HC38; try clear c1; try clear c2; try clear p2; try clear c3; try clear p3; try clear q3; try clear hx3; try clear hf3; try clear c4; try clear p4; try clear q4; try clear hx4; try clear p6; try clear c7; try clear c8; try clear c8b0; try clear c8b1; try clear c11; try clear c18; try clear c20; try clear c20b0; try clear c20b1; try clear c21; try clear c21b0; try clear c21b1; try clear c22; try clear c22b0; try clear c22b1; try clear c23; try clear c23b0; try clear c23b1; try clear c29; try clear c30; try clear c30b0; try clear c31; try clear c31b0; try clear c32; try clear c32b0
              try clear p33; try clear q33; try clear hx33; try clear hf33; try clear c37; try clear c37b0; try clear c39; try clear c39b0; try clear c40; try clear c40b0; try clear c41; try clear c41b0; try clear c43; try clear c43b0; try clear c43b1; try clear c44; try clear c44b0; try clear c44b1; try clear c45; try clear c45b0; try clear c45b1; try clear p48; try clear q48; try clear hx48; try clear hcz14_0; try clear hcz14_1; try clear hcz14_2; try clear hcz14_3; try clear hfz14_0; try clear hfz14_1; try clear hfz14_2; try clear hfz14_3; try clear hx33_0; try clear hx488_0; try clear p2; try clear p3
              try clear p33; try clear p488; try clear p6; try clear q3; try clear q33; try clear q488
              obtain ⟨kq, x74_37, rfl, HA, HJ37, HO_9, HO_10, BK477, HB⟩ := hcut
              cases kq with
              | zero => exact absurd HA.out (by simp [impl_Relieve.j3])
              | succ kj37 =>
               have H := HA.out; clear HA
               simp only [impl_Relieve.j3] at H
               by_cases c50 : x74_37 = true
               · subst c50
                 have H1 : (impl_Relieve.l1 kj37 l0 l1 (l1.length : Int) x9_3 x10_3 x11_2 (wrap64 (x12_3 + 1)) a2_0 a2_1 a2_2 a2_3) = some (r1, r2) := by rw [if_pos rfl] at H; exact H
                 clear H; have H := H1; clear H1
                 have H' := Aside0.mk H
                 clear H; go_wp2
                 (try simp only [← hl9_3])
                 go_roundg kj37
                 case measure => have := HJ3.out; have := HK2.out; have := HK3.out; have := HJ37.out; omega
                 case rel => exact ⟨(x9_3), (x10_3), (wrap64 (x12_3 + 1)), nS, H', ⟨by have := HJ3.out; have := HK2.out; have := HK3.out; have := HJ37.out; omega⟩, ⟨by (try simp only [hl9_3]); (with_reducible repeat (first | apply Kd.R_alloc | apply Kd.R_drewN | apply Kd.R_drew)); exact HO_9.out⟩, ⟨by (try simp only [hl9_3]); (with_reducible repeat (first | apply Kd.R_alloc | apply Kd.R_drewN | apply Kd.R_drew)); exact HO_10.out⟩, ⟨by (try simp only [hl9_3]); (with_reducible repeat (first | refine blk_drewN ?_ _ | refine blk_drew ?_ | refine blk_alloc ?_ _)); exact BK477.out⟩, ⟨nH1 HB.out GE477.out⟩⟩
               · replace c50 := Bool.eq_false_iff.mpr c50
                 subst c50
                 have H1 : (if 0 ≤ x11_2 then (if x11_2 < (x9_3.length : Int) then (if (rd x9_3 x11_2) < 0 then (if 0 ≤ x12_3 then (if x12_3 < (x9_3.length : Int) then (if x11_2 < (x10_3.length : Int) then (impl_Relieve.l1 kj37 l0 l1 (l1.length : Int) (x9_3.set (x11_2 : Int).toNat (wrap64 ((rd x9_3 x12_3) + 1))) (x10_3.set (x11_2 : Int).toNat x12_3) x11_2 (wrap64 (x12_3 + 1)) a2_0 a2_1 a2_2 a2_3) else (none)) else (none)) else (none)) else (if 0 ≤ x12_3 then (if x12_3 < (x9_3.length : Int) then (if (wrap64 ((rd x9_3 x12_3) + 1)) < (rd x9_3 x11_2) then (if x11_2 < (x10_3.length : Int) then (impl_Relieve.l1 kj37 l0 l1 (l1.length : Int) (x9_3.set (x11_2 : Int).toNat (wrap64 ((rd x9_3 x12_3) + 1))) (x10_3.set (x11_2 : Int).toNat x12_3) x11_2 (wrap64 (x12_3 + 1)) a2_0 a2_1 a2_2 a2_3) else (none)) else (impl_Relieve.l1 kj37 l0 l1 (l1.length : Int) x9_3 x10_3 x11_2 (wrap64 (x12_3 + 1)) a2_0 a2_1 a2_2 a2_3)) else (none)) else (none))) else (none)) else (none)) = some (r1, r2) := by rw [if_neg (show ¬ (false = true) by decide)] at H; exact H
                 clear H; have H := H1; clear H1
                 by_cases c51 : 0 ≤ x11_2
                 rotate_left
                 · (rw [if_neg c51] at H; exact absurd H (by simp))
                 rw [if_pos c51] at H
                 have c51b0 : decide (0 ≤ x11_2) = true := decide_eq_true c51
                 clear c51
                 by_cases c52 : x11_2 < (x9_3.length : Int)
                 rotate_left
                 · (rw [if_neg c52] at H; exact absurd H (by simp))
                 rw [if_pos c52] at H
                 have c52b0 : decide (x11_2 < (x9_3.length : Int)) = true := decide_eq_true c52
                 clear c52
                 by_cases c53 : (rd x9_3 x11_2) < 0
                 · rw [if_pos c53] at H
                   have c53b0 : decide ((rd x9_3 x11_2) < 0) = true := decide_eq_true c53
                   clear c53
                   by_cases c54 : 0 ≤ x12_3
                   rotate_left
                   · (rw [if_neg c54] at H; exact absurd H (by simp))
                   rw [if_pos c54] at H
                   have c54b0 : decide (0 ≤ x12_3) = true := decide_eq_true c54
                   clear c54
                   by_cases c55 : x12_3 < (x9_3.length : Int)
                   rotate_left
                   · (rw [if_neg c55] at H; exact absurd H (by simp))
                   rw [if_pos c55] at H
                   have c55b0 : decide (x12_3 < (x9_3.length : Int)) = true := decide_eq_true c55
                   clear c55
                   obtain ⟨y493, hy493⟩ : ∃ y_ : List Int, y_ = (x9_3.set (x11_2 : Int).toNat (wrap64 ((rd x9_3 x12_3) + 1))) := ⟨_, rfl⟩
                   replace H : (if x11_2 < (x10_3.length : Int) then (impl_Relieve.l1 kj37 l0 l1 (l1.length : Int) y493 (x10_3.set (x11_2 : Int).toNat x12_3) x11_2 (wrap64 (x12_3 + 1)) a2_0 a2_1 a2_2 a2_3) else (none)) = some (r1, r2) := by first | (rw [hy493]; with_reducible exact H) | (have H2_ := (Option.bind_some _ _).symm.trans H; rw [hy493]; with_reducible exact H2_) | (have H2_ := (Option.bind_some _ _).symm.trans H; with_reducible exact H2_) | with_reducible exact H | (rw [hy493]; exact H) | exact H
                   have Ny493 := Aside0.mk hy493
                   clear hy493
                   by_cases c57 : x11_2 < (x10_3.length : Int)
                   rotate_left
                   · (rw [if_neg c57] at H; exact absurd H (by simp))
                   rw [if_pos c57] at H
                   have c57b0 : decide (x11_2 < (x10_3.length : Int)) = true := decide_eq_true c57
                   clear c57
                   obtain ⟨y494, hy494⟩ : ∃ y_ : List Int, y_ = (x10_3.set (x11_2 : Int).toNat x12_3) := ⟨_, rfl⟩
                   replace H : (impl_Relieve.l1 kj37 l0 l1 (l1.length : Int) y493 y494 x11_2 (wrap64 (x12_3 + 1)) a2_0 a2_1 a2_2 a2_3) = some (r1, r2) := by first | (rw [hy494]; with_reducible exact H) | (have H2_ := (Option.bind_some _ _).symm.trans H; rw [hy494]; with_reducible exact H2_) | (have H2_ := (Option.bind_some _ _).symm.trans H; with_reducible exact H2_) | with_reducible exact H | (rw [hy494]; exact H) | exact H
                   have Ny494 := Aside0.mk hy494
                   clear hy494
                   have H' := Aside0.mk H
                   clear H
                   try go_wp2
                   have n0_ := Aside0.mk (Kd.R_drew HO_9.out)
                   have n1_ := Aside0.mk (Kd.R_drew HO_10.out)
                   have n2_ := Aside0.mk (blk_drew BK477.out)
                   have n3_ := Aside0.mk (below_drew1 HB.out)
                   clear HO_9; clear HO_10; clear BK477; clear HB; have HO_9 := n0_; have HO_10 := n1_; have BK477 := n2_; have HB := n3_; clear n0_ n1_ n2_ n3_
                   have p491 : 0 ≤ (x11_2 : Int) := of_decide_eq_true nQ
                   have q491 : x11_2 < (x9_3.length : Int) := of_decide_eq_true nQ
                   obtain ⟨ad491, e491, hx491_0⟩ := Kd.at_int (Kd.R_reads' HO_9.out).2.2 x11_2 p491 q491
                   obtain rfl : (⟨go33, 0, none⟩ : Addr) = ad491 := (by injection e491)
                   (first | simp only [add_plain] at hx491_0 | simp only [add_at] at hx491_0 | simp only [Addr.add, Nat.zero_add] at hx491_0 | skip)
                   replace p491 := eq_true p491; replace q491 := eq_true q491
                   refine start_ (n := 17) (S := fun w' => w'.cell? ⟨go33, (x11_2).toNat, none⟩ = some (.int .i64 (rd x9_3 x11_2))) (ds := []) #[F,F,F,F,F,F,F,F,F,F,F,F,F,F,F,F,F] (by kernel_rfl) rfl rfl (hx491_0) (fun hHeld => ?_); refine with_tabW impl_Relieve.tab13 impl_Relieve.bits13 (fun HT_ HW_ => ?_)
                   generalize wc.drew = w59 at HO_9 HO_10 BK477 HB hx491_0 hHeld ⊢
                   refine pU 0 (some 75) #[T,F,F,F,F,F,F,F,F,F,F,F,F,F,F,F,F] rfl rfl HT_.out ?_
                   refine pU 1 (some 76) #[T,T,F,F,F,F,F,F,F,F,F,F,F,F,F,F,F] rfl rfl HT_.out ?_
                   refine pU 2 (some 77) #[T,T,T,F,F,F,F,F,F,F,F,F,F,F,F,F,F] rfl rfl HT_.out ?_
                   refine take_ (i := 3) (N := some 78) (v := ?_) (a' := ?_) #[T,T,T,T,F,F,F,F,F,F,F,F,F,F,F,F,F] rfl rfl (take_ofW HT_.out HW_.out (by kernel_rfl)) (fun _ _ _ h => h) (Or.inl ⟨by rfl, ?_⟩) hHeld ?_ ?_
                   rotate_left
                   · intro w' s0
                     go_simp; with_reducible rfl
                   rotate_left
                   · simp only [Act.put, List.setIfInBounds_toArray, List.set_cons_zero, List.set_cons_succ, i64_w, i32_w]
                     rfl
                   refine pU 4 (some 79) #[T,T,T,T,T,F,F,F,F,F,F,F,F,F,F,F,F] rfl rfl HT_.out ?_
                   refine pU 5 (some 80) #[T,T,T,T,T,T,F,F,F,F,F,F,F,F,F,F,F] rfl rfl HT_.out ?_
                   refine pV 6 (some 81) #[T,T,T,T,T,T,T,F,F,F,F,F,F,F,F,F,F] rfl rfl HT_.out ?_
                   refine pV 7 (some 82) #[T,T,T,T,T,T,T,T,F,F,F,F,F,F,F,F,F] rfl rfl HT_.out ?_
                   refine pV 8 (some 83) #[T,T,T,T,T,T,T,T,T,F,F,F,F,F,F,F,F] rfl rfl HT_.out ?_
                   refine pV 9 (some 84) #[T,T,T,T,T,T,T,T,T,T,F,F,F,F,F,F,F] rfl rfl HT_.out ?_
                   refine pV 10 (some 85) #[T,T,T,T,T,T,T,T,T,T,T,F,F,F,F,F,F] rfl rfl HT_.out ?_
                   refine pV 11 (some 86) #[T,T,T,T,T,T,T,T,T,T,T,T,F,F,F,F,F] rfl rfl HT_.out ?_
                   refine pV 12 (some 87) #[T,T,T,T,T,T,T,T,T,T,T,T,T,F,F,F,F] rfl rfl HT_.out ?_
                   refine pV 13 (some 88) #[T,T,T,T,T,T,T,T,T,T,T,T,T,T,F,F,F] rfl rfl HT_.out ?_
                   refine pV 14 (some 89) #[T,T,T,T,T,T,T,T,T,T,T,T,T,T,T,F,F] rfl rfl HT_.out ?_
                   refine pV 15 (some 90) #[T,T,T,T,T,T,T,T,T,T,T,T,T,T,T,T,F] rfl rfl HT_.out ?_
                   refine pU 16 (some 91) #[T,T,T,T,T,T,T,T,T,T,T,T,T,T,T,T,T] rfl rfl HT_.out ?_
                   refine done_ (done_of HT_.out (by kernel_rfl)) ?_
                   have p492 : 0 ≤ (x12_3 : Int) := of_decide_eq_true nQ
                   have q492 : x12_3 < (x9_3.length : Int) := of_decide_eq_true nQ
                   obtain ⟨ad492, e492, hx492_0⟩ := Kd.at_int (Kd.R_reads' HO_9.out).2.2 x12_3 p492 q492
                   obtain rfl : (⟨go33, 0, none⟩ : Addr) = ad492 := (by injection e492)
                   (first | simp only [add_plain] at hx492_0 | simp only [add_at] at hx492_0 | simp only [Addr.add, Nat.zero_add] at hx492_0 | skip)
                   replace p492 := eq_true p492; replace q492 := eq_true q492
                   have p56 : 0 ≤ (x11_2 : Int) := of_decide_eq_true nQ
                   have q56 : (x11_2 : Int) < ((x9_3.length : Int) : Int) := of_decide_eq_true nQ
                   obtain ⟨hx56_0, hf56_0⟩ := Kd.R_celln 0 HO_9.out (x11_2 : Int) p56 q56
                   replace p56 := eq_true p56; replace q56 := eq_true q56
                   obtain ⟨hy60_, hz60_⟩ := Kd.R_celln 0 HO_9.out (x11_2 : Int) (of_decide_eq_true nQ) (of_decide_eq_true nQ)
                   have HP60 := Kd.R_putg HO_9.out (x11_2 : Int) (wrap64 ((rd x9_3 x12_3) + 1))
                   try go_wp2_with (first | ((with_reducible refine gate_store (t := 3) (p := 102) rfl ?_); refine store_event (t := 3) (p := 102) (v := ?vo_w61) (w1 := (w59.setCell ⟨go33, (x11_2 : Int).toNat, none⟩ (.int .i64 (wrap64 ((rd x9_3 x12_3) + 1))))) ?hg ?ho ?hn ?hr ?_; (case ho => rfl); (case hg => rfl); (case hn => rfl); (case hr => first | (go_simp; done) | (go_simp; rfl)); intro w61 hw; have hg : w59.grownBy w61 (some go33) := (by rw [hw]; exact HP60.2); have hp_ : Kd.R (Kd.int .i64) 3 w61 w.heap.size (fun k_ => some k_ ≠ (v485 : Value).ownBlock) (.slice (some ⟨go33, 0, none⟩) x9_3.length co33) y493 := (by rw [hw, Ny493.out]; exact HP60.1); clear HP60; have n0_ := Aside0.mk (hp_); have n1_ := Aside0.mk (Kd.R_after (v := (.slice (some ⟨go33, 0, none⟩) x9_3.length co33)) (v1 := (.slice (some ⟨go33, 0, none⟩) x9_3.length co33)) (ok := (fun _ => True)) (by (with_reducible repeat (first | apply Kd.R_alloc | apply Kd.R_drewN | apply Kd.R_drew)); exact Kd.R_mono HO_10.out (fun _ hk => ⟨trivial, hk⟩)) hg (.inl rfl)); have n2_ := Aside0.mk (blk_grown (g := gb477) (o := .cells #[.int .i64 a2_0, .int .i64 a2_1, .int .i64 a2_2, .int .i64 a2_3] 25 (0, 0)) (nB BK477.out) hg (Kd.R_ne HO_9.out BK477.out (by decide))); have n3_ := Aside0.mk ((by rw [hw]; exact below_set (HB.out) GB33.out : Below w.heap.size w w61)); clear HO_9; clear HO_10; clear BK477; clear HB; have HO_9 := n0_; have HO_10 := n1_; have BK477 := n2_; have HB := n3_; clear n0_ n1_ n2_ n3_; clear hg hw hp_; have p58 : 0 ≤ (x11_2 : Int) := of_decide_eq_true nQ; have q58 : (x11_2 : Int) < ((x10_3.length : Int) : Int) := of_decide_eq_true nQ; obtain ⟨go58, co58, eo58, gb58, gl58, cl58, HG58⟩ := Kd.R_form HO_10.out (by omega); (first | cases eo58 | (injection eo58 with ea_ en_ ec_; (first | subst ea_ | (injection ea_ with ea_; subst ea_)); subst ec_; clear en_)); have GB58 := Aside0.mk gb58; have GG58 := Aside0.mk HG58; clear gb58 gl58 HG58; obtain ⟨hx58_0, hf58_0⟩ := Kd.R_celln 0 HO_10.out (x11_2 : Int) p58 q58; replace p58 := eq_true p58; replace q58 := eq_true q58; have n_ := Aside0.mk (Kd.R_mono (ok' := (fun k_ => some k_ ≠ (.slice (some ⟨go33, 0, none⟩) x9_3.length co33 : Value).ownBlock)) HO_10.out (fun k_ hk => hk.2)); clear HO_10; have HO_10 := n_; clear n_; obtain ⟨hy62_, hz62_⟩ := Kd.R_celln 0 HO_10.out (x11_2 : Int) (of_decide_eq_true nQ) (of_decide_eq_true nQ); have HP62 := Kd.R_putg HO_10.out (x11_2 : Int) x12_3) | ((with_reducible refine gate_store (t := 3) (p := 103) rfl ?_); refine store_event (t := 3) (p := 103) (v := ?vo_w63) (w1 := (w61.setCell ⟨go58, (x11_2 : Int).toNat, none⟩ (.int .i64 x12_3))) ?hg ?ho ?hn ?hr ?_; (case ho => rfl); (case hg => rfl); (case hn => rfl); (case hr => first | (go_simp; done) | (go_simp; rfl)); intro w63 hw; have hg : w61.grownBy w63 (some go58) := (by rw [hw]; exact HP62.2); have hp_ : Kd.R (Kd.int .i64) 3 w63 w.heap.size (fun k_ => some k_ ≠ (.slice (some ⟨go33, 0, none⟩) x9_3.length co33 : Value).ownBlock) (.slice (some ⟨go58, 0, none⟩) x10_3.length co58) y494 := (by rw [hw, Ny494.out]; exact HP62.1); clear HP62; have n0_ := Aside0.mk (Kd.R_after (v := (.slice (some ⟨go58, 0, none⟩) x10_3.length co58)) (v1 := (.slice (some ⟨go58, 0, none⟩) x10_3.length co58)) (ok := (fun _ => True)) (by (with_reducible repeat (first | apply Kd.R_alloc | apply Kd.R_drewN | apply Kd.R_drew)); exact Kd.R_mono HO_9.out (fun _ hk => ⟨trivial, hk⟩)) hg (.inl rfl)); have n1_ := Aside0.mk (hp_); have n2_ := Aside0.mk (blk_grown (g := gb477) (o := .cells #[.int .i64 a2_0, .int .i64 a2_1, .int .i64 a2_2, .int .i64 a2_3] 25 (0, 0)) (nB BK477.out) hg (Kd.R_ne HO_10.out BK477.out (by decide))); have n3_ := Aside0.mk ((by rw [hw]; exact below_set (HB.out) GB58.out : Below w.heap.size w w63)); clear HO_9; clear HO_10; clear BK477; clear HB; have HO_9 := n0_; have HO_10 := n1_; have BK477 := n2_; have HB := n3_; clear n0_ n1_ n2_ n3_; clear hg hw hp_))
                   (try simp only [← hl9_3])
                   go_roundg kj37
                   case measure => have := HJ3.out; have := HK2.out; have := HK3.out; have := HJ37.out; omega
                   case rel => exact ⟨(y493), (y494), (wrap64 (x12_3 + 1)), nS, H', ⟨by have := HJ3.out; have := HK2.out; have := HK3.out; have := HJ37.out; omega⟩, ⟨by (try simp only [hl9_3]); (with_reducible repeat (first | apply Kd.R_alloc | apply Kd.R_drewN | apply Kd.R_drew)); exact Kd.R_mono HO_9.out (fun _ hk => hk.2)⟩, ⟨by (try simp only [hl9_3]); (with_reducible repeat (first | apply Kd.R_alloc | apply Kd.R_drewN | apply Kd.R_drew)); exact HO_10.out⟩, ⟨by (try simp only [hl9_3]); (with_reducible repeat (first | refine blk_drewN ?_ _ | refine blk_drew ?_ | refine blk_alloc ?_ _)); exact BK477.out⟩, ⟨nH1 HB.out GE477.out⟩⟩
                 · rw [if_neg c53] at H
                   have c53b0 : decide ((rd x9_3 x11_2) < 0) = false := decide_eq_false c53
                   clear c53
                   by_cases c64 : 0 ≤ x12_3
                   rotate_left
                   · (rw [if_neg c64] at H; exact absurd H (by simp))
                   rw [if_pos c64] at H
                   have c64b0 : decide (0 ≤ x12_3) = true := decide_eq_true c64
                   clear c64
                   by_cases c65 : x12_3 < (x9_3.length : Int)
                   rotate_left
                   · (rw [if_neg c65] at H; exact absurd H (by simp))
                   rw [if_pos c65] at H
                   have c65b0 : decide (x12_3 < (x9_3.length : Int)) = true := decide_eq_true c65
                   clear c65
                   by_cases c66 : (wrap64 ((rd x9_3 x12_3) + 1)) < (rd x9_3 x11_2)
                   · rw [if_pos c66] at H
                     have c66b0 : decide ((wrap64 ((rd x9_3 x12_3) + 1)) < (rd x9_3 x11_2)) = true := decide_eq_true c66
                     clear c66
                     obtain ⟨y498, hy498⟩ : ∃ y_ : List Int, y_ = (x9_3.set (x11_2 : Int).toNat (wrap64 ((rd x9_3 x12_3) + 1))) := ⟨_, rfl⟩
                     replace H : (if x11_2 < (x10_3.length : Int) then (impl_Relieve.l1 kj37 l0 l1 (l1.length : Int) y498 (x10_3.set (x11_2 : Int).toNat x12_3) x11_2 (wrap64 (x12_3 + 1)) a2_0 a2_1 a2_2 a2_3) else (none)) = some (r1, r2) := by first | (rw [hy498]; with_reducible exact H) | (have H2_ := (Option.bind_some _ _).symm.trans H; rw [hy498]; with_reducible exact H2_) | (have H2_ := (Option.bind_some _ _).symm.trans H; with_reducible exact H2_) | with_reducible exact H | (rw [hy498]; exact H) | exact H
                     have Ny498 := Aside0.mk hy498
                     clear hy498
                     by_cases c68 : x11_2 < (x10_3.length : Int)
                     rotate_left
                     · (rw [if_neg c68] at H; exact absurd H (by simp))
                     rw [if_pos c68] at H
                     have c68b0 : decide (x11_2 < (x10_3.length : Int)) = true := decide_eq_true c68
                     clear c68
                     obtain ⟨y499, hy499⟩ : ∃ y_ : List Int, y_ = (x10_3.set (x11_2 : Int).toNat x12_3) := ⟨_, rfl⟩
                     replace H : (impl_Relieve.l1 kj37 l0 l1 (l1.length : Int) y498 y499 x11_2 (wrap64 (x12_3 + 1)) a2_0 a2_1 a2_2 a2_3) = some (r1, r2) := by first | (rw [hy499]; with_reducible exact H) | (have H2_ := (Option.bind_some _ _).symm.trans H; rw [hy499]; with_reducible exact H2_) | (have H2_ := (Option.bind_some _ _).symm.trans H; with_reducible exact H2_) | with_reducible exact H | (rw [hy499]; exact H) | exact H
                     have Ny499 := Aside0.mk hy499
                     clear hy499
                     have H' := Aside0.mk H
                     clear H
                     try go_wp2
                     have n0_ := Aside0.mk (Kd.R_drew HO_9.out)
                     have n1_ := Aside0.mk (Kd.R_drew HO_10.out)
                     have n2_ := Aside0.mk (blk_drew BK477.out)
                     have n3_ := Aside0.mk (below_drew1 HB.out)
                     clear HO_9; clear HO_10; clear BK477; clear HB; have HO_9 := n0_; have HO_10 := n1_; have BK477 := n2_; have HB := n3_; clear n0_ n1_ n2_ n3_
                     have p491 : 0 ≤ (x11_2 : Int) := of_decide_eq_true nQ
                     have q491 : x11_2 < (x9_3.length : Int) := of_decide_eq_true nQ
                     obtain ⟨ad491, e491, hx491_0⟩ := Kd.at_int (Kd.R_reads' HO_9.out).2.2 x11_2 p491 q491
                     obtain rfl : (⟨go33, 0, none⟩ : Addr) = ad491 := (by injection e491)
                     (first | simp only [add_plain] at hx491_0 | simp only [add_at] at hx491_0 | simp only [Addr.add, Nat.zero_add] at hx491_0 | skip)
                     replace p491 := eq_true p491; replace q491 := eq_true q491
                     have p495 : 0 ≤ (x12_3 : Int) := of_decide_eq_true nQ
                     have q495 : x12_3 < (x9_3.length : Int) := of_decide_eq_true nQ
                     obtain ⟨ad495, e495, hx495_0⟩ := Kd.at_int (Kd.R_reads' HO_9.out).2.2 x12_3 p495 q495
                     obtain rfl : (⟨go33, 0, none⟩ : Addr) = ad495 := (by injection e495)
                     (first | simp only [add_plain] at hx495_0 | simp only [add_at] at hx495_0 | simp only [Addr.add, Nat.zero_add] at hx495_0 | skip)
                     replace p495 := eq_true p495; replace q495 := eq_true q495
                     have p496 : 0 ≤ (x11_2 : Int) := of_decide_eq_true nQ
                     have q496 : x11_2 < (x9_3.length : Int) := of_decide_eq_true nQ
                     obtain ⟨ad496, e496, hx496_0⟩ := Kd.at_int (Kd.R_reads' HO_9.out).2.2 x11_2 p496 q496
                     obtain rfl : (⟨go33, 0, none⟩ : Addr) = ad496 := (by injection e496)
                     (first | simp only [add_plain] at hx496_0 | simp only [add_at] at hx496_0 | simp only [Addr.add, Nat.zero_add] at hx496_0 | skip)
                     replace p496 := eq_true p496; replace q496 := eq_true q496
                     refine start_ (n := 17) (S := fun w' => w'.cell? ⟨go33, (x11_2).toNat, none⟩ = some (.int .i64 (rd x9_3 x11_2)) ∧ w'.cell? ⟨go33, (x12_3).toNat, none⟩ = some (.int .i64 (rd x9_3 x12_3)) ∧ w'.cell? ⟨go33, (x11_2).toNat, none⟩ = some (.int .i64 (rd x9_3 x11_2))) (ds := []) #[F,F,F,F,F,F,F,F,F,F,F,F,F,F,F,F,F] (by kernel_rfl) rfl rfl ⟨hx491_0, hx495_0, hx496_0⟩ (fun hHeld => ?_); refine with_tabW impl_Relieve.tab13 impl_Relieve.bits13 (fun HT_ HW_ => ?_)
                     generalize wc.drew = w70 at HO_9 HO_10 BK477 HB hx491_0 hx495_0 hx496_0 hHeld ⊢
                     refine pU 0 (some 75) #[T,F,F,F,F,F,F,F,F,F,F,F,F,F,F,F,F] rfl rfl HT_.out ?_
                     refine pU 1 (some 76) #[T,T,F,F,F,F,F,F,F,F,F,F,F,F,F,F,F] rfl rfl HT_.out ?_
                     refine pU 2 (some 77) #[T,T,T,F,F,F,F,F,F,F,F,F,F,F,F,F,F] rfl rfl HT_.out ?_
                     refine tU3 3 (some 78) #[T,T,T,T,F,F,F,F,F,F,F,F,F,F,F,F,F] rfl rfl HT_.out HW_.out hHeld ?_
                     refine pU 4 (some 79) #[T,T,T,T,T,F,F,F,F,F,F,F,F,F,F,F,F] rfl rfl HT_.out ?_
                     refine pU 5 (some 80) #[T,T,T,T,T,T,F,F,F,F,F,F,F,F,F,F,F] rfl rfl HT_.out ?_
                     refine pU 6 (some 81) #[T,T,T,T,T,T,T,F,F,F,F,F,F,F,F,F,F] rfl rfl HT_.out ?_
                     refine pU 7 (some 82) #[T,T,T,T,T,T,T,T,F,F,F,F,F,F,F,F,F] rfl rfl HT_.out ?_
                     refine pU 8 (some 83) #[T,T,T,T,T,T,T,T,T,F,F,F,F,F,F,F,F] rfl rfl HT_.out ?_
                     refine pU 11 (some 86) #[T,T,T,T,T,T,T,T,T,F,F,T,F,F,F,F,F] rfl rfl HT_.out ?_
                     refine pU 12 (some 87) #[T,T,T,T,T,T,T,T,T,F,F,T,T,F,F,F,F] rfl rfl HT_.out ?_
                     refine pU 13 (some 88) #[T,T,T,T,T,T,T,T,T,F,F,T,T,T,F,F,F] rfl rfl HT_.out ?_
                     refine tU3 9 (some 84) #[T,T,T,T,T,T,T,T,T,T,F,T,T,T,F,F,F] rfl rfl HT_.out HW_.out hHeld ?_
                     refine pU 10 (some 85) #[T,T,T,T,T,T,T,T,T,T,T,T,T,T,F,F,F] rfl rfl HT_.out ?_
                     refine tU3 14 (some 89) #[T,T,T,T,T,T,T,T,T,T,T,T,T,T,T,F,F] rfl rfl HT_.out HW_.out hHeld ?_
                     refine pU 15 (some 90) #[T,T,T,T,T,T,T,T,T,T,T,T,T,T,T,T,F] rfl rfl HT_.out ?_
                     refine pU 16 (some 91) #[T,T,T,T,T,T,T,T,T,T,T,T,T,T,T,T,T] rfl rfl HT_.out ?_
                     refine done_ (done_of HT_.out (by kernel_rfl)) ?_
                     have p497 : 0 ≤ (x12_3 : Int) := of_decide_eq_true nQ
                     have q497 : x12_3 < (x9_3.length : Int) := of_decide_eq_true nQ
                     obtain ⟨ad497, e497, hx497_0⟩ := Kd.at_int (Kd.R_reads' HO_9.out).2.2 x12_3 p497 q497
                     obtain rfl : (⟨go33, 0, none⟩ : Addr) = ad497 := (by injection e497)
                     (first | simp only [add_plain] at hx497_0 | simp only [add_at] at hx497_0 | simp only [Addr.add, Nat.zero_add] at hx497_0 | skip)
                     replace p497 := eq_true p497; replace q497 := eq_true q497
                     have p67 : 0 ≤ (x11_2 : Int) := of_decide_eq_true nQ
                     have q67 : (x11_2 : Int) < ((x9_3.length : Int) : Int) := of_decide_eq_true nQ
                     obtain ⟨hx67_0, hf67_0⟩ := Kd.R_celln 0 HO_9.out (x11_2 : Int) p67 q67
                     replace p67 := eq_true p67; replace q67 := eq_true q67
                     obtain ⟨hy71_, hz71_⟩ := Kd.R_celln 0 HO_9.out (x11_2 : Int) (of_decide_eq_true nQ) (of_decide_eq_true nQ)
                     have HP71 := Kd.R_putg HO_9.out (x11_2 : Int) (wrap64 ((rd x9_3 x12_3) + 1))
                     try go_wp2_with (first | ((with_reducible refine gate_store (t := 3) (p := 102) rfl ?_); refine store_event (t := 3) (p := 102) (v := ?vo_w72) (w1 := (w70.setCell ⟨go33, (x11_2 : Int).toNat, none⟩ (.int .i64 (wrap64 ((rd x9_3 x12_3) + 1))))) ?hg ?ho ?hn ?hr ?_; (case ho => rfl); (case hg => rfl); (case hn => rfl); (case hr => first | (go_simp; done) | (go_simp; rfl)); intro w72 hw; have hg : w70.grownBy w72 (some go33) := (by rw [hw]; exact HP71.2); have hp_ : Kd.R (Kd.int .i64) 3 w72 w.heap.size (fun k_ => some k_ ≠ (v485 : Value).ownBlock) (.slice (some ⟨go33, 0, none⟩) x9_3.length co33) y498 := (by rw [hw, Ny498.out]; exact HP71.1); clear HP71; have n0_ := Aside0.mk (hp_); have n1_ := Aside0.mk (Kd.R_after (v := (.slice (some ⟨go33, 0, none⟩) x9_3.length co33)) (v1 := (.slice (some ⟨go33, 0, none⟩) x9_3.length co33)) (ok := (fun _ => True)) (by (with_reducible repeat (first | apply Kd.R_alloc | apply Kd.R_drewN | apply Kd.R_drew)); exact Kd.R_mono HO_10.out (fun _ hk => ⟨trivial, hk⟩)) hg (.inl rfl)); have n2_ := Aside0.mk (blk_grown (g := gb477) (o := .cells #[.int .i64 a2_0, .int .i64 a2_1, .int .i64 a2_2, .int .i64 a2_3] 25 (0, 0)) (nB BK477.out) hg (Kd.R_ne HO_9.out BK477.out (by decide))); have n3_ := Aside0.mk ((by rw [hw]; exact below_set (HB.out) GB33.out : Below w.heap.size w w72)); clear HO_9; clear HO_10; clear BK477; clear HB; have HO_9 := n0_; have HO_10 := n1_; have BK477 := n2_; have HB := n3_; clear n0_ n1_ n2_ n3_; clear hg hw hp_; have p69 : 0 ≤ (x11_2 : Int) := of_decide_eq_true nQ; have q69 : (x11_2 : Int) < ((x10_3.length : Int) : Int) := of_decide_eq_true nQ; obtain ⟨go69, co69, eo69, gb69, gl69, cl69, HG69⟩ := Kd.R_form HO_10.out (by omega); (first | cases eo69 | (injection eo69 with ea_ en_ ec_; (first | subst ea_ | (injection ea_ with ea_; subst ea_)); subst ec_; clear en_)); have GB69 := Aside0.mk gb69; have GG69 := Aside0.mk HG69; clear gb69 gl69 HG69; obtain ⟨hx69_0, hf69_0⟩ := Kd.R_celln 0 HO_10.out (x11_2 : Int) p69 q69; replace p69 := eq_true p69; replace q69 := eq_true q69; have n_ := Aside0.mk (Kd.R_mono (ok' := (fun k_ => some k_ ≠ (.slice (some ⟨go33, 0, none⟩) x9_3.length co33 : Value).ownBlock)) HO_10.out (fun k_ hk => hk.2)); clear HO_10; have HO_10 := n_; clear n_; obtain ⟨hy73_, hz73_⟩ := Kd.R_celln 0 HO_10.out (x11_2 : Int) (of_decide_eq_true nQ) (of_decide_eq_true nQ); have HP73 := Kd.R_putg HO_10.out (x11_2 : Int) x12_3) | ((with_reducible refine gate_store (t := 3) (p := 103) rfl ?_); refine store_event (t := 3) (p := 103) (v := ?vo_w74) (w1 := (w72.setCell ⟨go69, (x11_2 : Int).toNat, none⟩ (.int .i64 x12_3))) ?hg ?ho ?hn ?hr ?_; (case ho => rfl); (case hg => rfl); (case hn => rfl); (case hr => first | (go_simp; done) | (go_simp; rfl)); intro w74 hw; have hg : w72.grownBy w74 (some go69) := (by rw [hw]; exact HP73.2); have hp_ : Kd.R (Kd.int .i64) 3 w74 w.heap.size (fun k_ => some k_ ≠ (.slice (some ⟨go33, 0, none⟩) x9_3.length co33 : Value).ownBlock) (.slice (some ⟨go69, 0, none⟩) x10_3.length co69) y499 := (by rw [hw, Ny499.out]; exact HP73.1); clear HP73; have n0_ := Aside0.mk (Kd.R_after (v := (.slice (some ⟨go69, 0, none⟩) x10_3.length co69)) (v1 := (.slice (some ⟨go69, 0, none⟩) x10_3.length co69)) (ok := (fun _ => True)) (by (with_reducible repeat (first | apply Kd.R_alloc | apply Kd.R_drewN | apply Kd.R_drew)); exact Kd.R_mono HO_9.out (fun _ hk => ⟨trivial, hk⟩)) hg (.inl rfl)); have n1_ := Aside0.mk (hp_); have n2_ := Aside0.mk (blk_grown (g := gb477) (o := .cells #[.int .i64 a2_0, .int .i64 a2_1, .int .i64 a2_2, .int .i64 a2_3] 25 (0, 0)) (nB BK477.out) hg (Kd.R_ne HO_10.out BK477.out (by decide))); have n3_ := Aside0.mk ((by rw [hw]; exact below_set (HB.out) GB69.out : Below w.heap.size w w74)); clear HO_9; clear HO_10; clear BK477; clear HB; have HO_9 := n0_; have HO_10 := n1_; have BK477 := n2_; have HB := n3_; clear n0_ n1_ n2_ n3_; clear hg hw hp_))
                     (try simp only [← hl9_3])
                     go_roundg kj37
                     case measure => have := HJ3.out; have := HK2.out; have := HK3.out; have := HJ37.out; omega
                     case rel => exact ⟨(y498), (y499), (wrap64 (x12_3 + 1)), nS, H', ⟨by have := HJ3.out; have := HK2.out; have := HK3.out; have := HJ37.out; omega⟩, ⟨by (try simp only [hl9_3]); (with_reducible repeat (first | apply Kd.R_alloc | apply Kd.R_drewN | apply Kd.R_drew)); exact Kd.R_mono HO_9.out (fun _ hk => hk.2)⟩, ⟨by (try simp only [hl9_3]); (with_reducible repeat (first | apply Kd.R_alloc | apply Kd.R_drewN | apply Kd.R_drew)); exact HO_10.out⟩, ⟨by (try simp only [hl9_3]); (with_reducible repeat (first | refine blk_drewN ?_ _ | refine blk_drew ?_ | refine blk_alloc ?_ _)); exact BK477.out⟩, ⟨nH1 HB.out GE477.out⟩⟩
                   · rw [if_neg c66] at H
                     have c66b0 : decide ((wrap64 ((rd x9_3 x12_3) + 1)) < (rd x9_3 x11_2)) = false := decide_eq_false c66
                     clear c66
                     have H' := Aside0.mk H
                     clear H
                     try go_wp2
                     have n0_ := Aside0.mk (Kd.R_drew HO_9.out)
                     have n1_ := Aside0.mk (Kd.R_drew HO_10.out)
                     have n2_ := Aside0.mk (blk_drew BK477.out)
                     have n3_ := Aside0.mk (below_drew1 HB.out)
                     clear HO_9; clear HO_10; clear BK477; clear HB; have HO_9 := n0_; have HO_10 := n1_; have BK477 := n2_; have HB := n3_; clear n0_ n1_ n2_ n3_
                     have p491 : 0 ≤ (x11_2 : Int) := of_decide_eq_true nQ
                     have q491 : x11_2 < (x9_3.length : Int) := of_decide_eq_true nQ
                     obtain ⟨ad491, e491, hx491_0⟩ := Kd.at_int (Kd.R_reads' HO_9.out).2.2 x11_2 p491 q491
                     obtain rfl : (⟨go33, 0, none⟩ : Addr) = ad491 := (by injection e491)
                     (first | simp only [add_plain] at hx491_0 | simp only [add_at] at hx491_0 | simp only [Addr.add, Nat.zero_add] at hx491_0 | skip)
                     replace p491 := eq_true p491; replace q491 := eq_true q491
                     have p495 : 0 ≤ (x12_3 : Int) := of_decide_eq_true nQ
                     have q495 : x12_3 < (x9_3.length : Int) := of_decide_eq_true nQ
                     obtain ⟨ad495, e495, hx495_0⟩ := Kd.at_int (Kd.R_reads' HO_9.out).2.2 x12_3 p495 q495
                     obtain rfl : (⟨go33, 0, none⟩ : Addr) = ad495 := (by injection e495)
                     (first | simp only [add_plain] at hx495_0 | simp only [add_at] at hx495_0 | simp only [Addr.add, Nat.zero_add] at hx495_0 | skip)
                     replace p495 := eq_true p495; replace q495 := eq_true q495
                     have p496 : 0 ≤ (x11_2 : Int) := of_decide_eq_true nQ
                     have q496 : x11_2 < (x9_3.length : Int) := of_decide_eq_true nQ
                     obtain ⟨ad496, e496, hx496_0⟩ := Kd.at_int (Kd.R_reads' HO_9.out).2.2 x11_2 p496 q496
                     obtain rfl : (⟨go33, 0, none⟩ : Addr) = ad496 := (by injection e496)
                     (first | simp only [add_plain] at hx496_0 | simp only [add_at] at hx496_0 | simp only [Addr.add, Nat.zero_add] at hx496_0 | skip)
                     replace p496 := eq_true p496; replace q496 := eq_true q496
                     refine start_ (n := 17) (S := fun w' => w'.cell? ⟨go33, (x11_2).toNat, none⟩ = some (.int .i64 (rd x9_3 x11_2)) ∧ w'.cell? ⟨go33, (x12_3).toNat, none⟩ = some (.int .i64 (rd x9_3 x12_3)) ∧ w'.cell? ⟨go33, (x11_2).toNat, none⟩ = some (.int .i64 (rd x9_3 x11_2))) (ds := []) #[F,F,F,F,F,F,F,F,F,F,F,F,F,F,F,F,F] (by kernel_rfl) rfl rfl ⟨hx491_0, hx495_0, hx496_0⟩ (fun hHeld => ?_); refine with_tabW impl_Relieve.tab13 impl_Relieve.bits13 (fun HT_ HW_ => ?_)
                     generalize wc.drew = w75 at HO_9 HO_10 BK477 HB hx491_0 hx495_0 hx496_0 hHeld ⊢
                     refine pU 0 (some 75) #[T,F,F,F,F,F,F,F,F,F,F,F,F,F,F,F,F] rfl rfl HT_.out ?_
                     refine pU 1 (some 76) #[T,T,F,F,F,F,F,F,F,F,F,F,F,F,F,F,F] rfl rfl HT_.out ?_
                     refine pU 2 (some 77) #[T,T,T,F,F,F,F,F,F,F,F,F,F,F,F,F,F] rfl rfl HT_.out ?_
                     refine tU3 3 (some 78) #[T,T,T,T,F,F,F,F,F,F,F,F,F,F,F,F,F] rfl rfl HT_.out HW_.out hHeld ?_
                     refine pU 4 (some 79) #[T,T,T,T,T,F,F,F,F,F,F,F,F,F,F,F,F] rfl rfl HT_.out ?_
                     refine pU 5 (some 80) #[T,T,T,T,T,T,F,F,F,F,F,F,F,F,F,F,F] rfl rfl HT_.out ?_
                     refine pU 6 (some 81) #[T,T,T,T,T,T,T,F,F,F,F,F,F,F,F,F,F] rfl rfl HT_.out ?_
                     refine pU 7 (some 82) #[T,T,T,T,T,T,T,T,F,F,F,F,F,F,F,F,F] rfl rfl HT_.out ?_
                     refine pU 8 (some 83) #[T,T,T,T,T,T,T,T,T,F,F,F,F,F,F,F,F] rfl rfl HT_.out ?_
                     refine pU 11 (some 86) #[T,T,T,T,T,T,T,T,T,F,F,T,F,F,F,F,F] rfl rfl HT_.out ?_
                     refine pU 12 (some 87) #[T,T,T,T,T,T,T,T,T,F,F,T,T,F,F,F,F] rfl rfl HT_.out ?_
                     refine pU 13 (some 88) #[T,T,T,T,T,T,T,T,T,F,F,T,T,T,F,F,F] rfl rfl HT_.out ?_
                     refine tU3 9 (some 84) #[T,T,T,T,T,T,T,T,T,T,F,T,T,T,F,F,F] rfl rfl HT_.out HW_.out hHeld ?_
                     refine pU 10 (some 85) #[T,T,T,T,T,T,T,T,T,T,T,T,T,T,F,F,F] rfl rfl HT_.out ?_
                     refine tU3 14 (some 89) #[T,T,T,T,T,T,T,T,T,T,T,T,T,T,T,F,F] rfl rfl HT_.out HW_.out hHeld ?_
                     refine pU 15 (some 90) #[T,T,T,T,T,T,T,T,T,T,T,T,T,T,T,T,F] rfl rfl HT_.out ?_
                     refine pU 16 (some 91) #[T,T,T,T,T,T,T,T,T,T,T,T,T,T,T,T,T] rfl rfl HT_.out ?_
                     refine done_ (done_of HT_.out (by kernel_rfl)) ?_
                     try go_wp2
                     (try simp only [← hl9_3])
                     go_roundg kj37
                     case measure => have := HJ3.out; have := HK2.out; have := HK3.out; have := HJ37.out; omega
                     case rel => exact ⟨(x9_3), (x10_3), (wrap64 (x12_3 + 1)), nS, H', ⟨by have := HJ3.out; have := HK2.out; have := HK3.out; have := HJ37.out; omega⟩, ⟨by (try simp only [hl9_3]); (with_reducible repeat (first | apply Kd.R_alloc | apply Kd.R_drewN | apply Kd.R_drew)); exact HO_9.out⟩, ⟨by (try simp only [hl9_3]); (with_reducible repeat (first | apply Kd.R_alloc | apply Kd.R_drewN | apply Kd.R_drew)); exact HO_10.out⟩, ⟨by (try simp only [hl9_3]); (with_reducible repeat (first | refine blk_drewN ?_ _ | refine blk_drew ?_ | refine blk_alloc ?_ _)); exact BK477.out⟩, ⟨nH1 HB.out GE477.out⟩⟩
           · rw [if_neg c37] at H
             have c37b0 : decide (x12_3 ≤ (ji36)) = false := decide_eq_false c37
             clear c37
             have H' := Aside0.mk H
             clear H; go_wp2
             (try simp only [← hl9_3])
             go_roundg k3
             case measure => have := HJ3.out; have := HK2.out; have := HK3.out; omega
             case rel => exact ⟨(x9_3), (x10_3), (wrap64 (x11_2 - 1)), nS, H', ⟨by have := HJ3.out; have := HK2.out; have := HK3.out; omega⟩, ⟨by (try simp only [hl9_3]); (with_reducible repeat (first | apply Kd.R_alloc | apply Kd.R_drewN | apply Kd.R_drew)); exact HO_9.out⟩, ⟨by (try simp only [hl9_3]); (with_reducible repeat (first | apply Kd.R_alloc | apply Kd.R_drewN | apply Kd.R_drew)); exact HO_10.out⟩, ⟨by (try simp only [hl9_3]); (with_reducible repeat (first | refine blk_drewN ?_ _ | refine blk_drew ?_ | refine blk_alloc ?_ _)); exact BK477.out⟩, ⟨nH1 HB.out GE477.out⟩⟩
       · rw [if_neg c30] at H
         have c30b0 : decide (0 ≤ x11_2) = false := decide_eq_false c30
         clear c30
         by_cases c76 : 0 < (x9_2.length : Int)
         rotate_left
         · (rw [if_neg c76] at H; exact absurd H (by simp))
         rw [if_pos c76] at H
         have c76b0 : decide (0 < (x9_2.length : Int)) = true := decide_eq_true c76
         have c76b1 : decide (0 < x9_2.length) = true := decide_eq_true (by omega)
         clear c76
         by_cases c77 : (rd x9_2 0) < 0
         · rw [if_pos c77] at H
           have c77b0 : decide ((rd x9_2 0) < 0) = true := decide_eq_true c77
           clear c77
           simp only [Option.some.injEq, Prod.mk.injEq] at H
           obtain ⟨rfl, rfl⟩ := H
           obtain ⟨Ao78, co78, eo78⟩ := Kd.R_slice HO_9.out
           subst eo78
           have p500 : 0 ≤ (0 : Int) := (by omega)
           have q500 : 0 < (x9_2.length : Int) := of_decide_eq_true nQ
           obtain ⟨ad500, e500, hx500_0⟩ := Kd.at_int (Kd.R_reads' HO_9.out).2.2 0 p500 q500
           cases e500
           have qi500 : (0 < x9_2.length) = True := eq_true (by omega)
           (try rw [show ((0 : Int)).toNat = 0 from rfl] at hx500_0)
           (try rw [Addr.add_zero'] at hx500_0)
           replace p500 := eq_true p500; replace q500 := eq_true q500; go_wp2
           go_ret2
           exact ⟨_, by first | rfl | (simp [errW_none, errW_some] <;> rfl) | (simp only [← hji19]; first | rfl | (simp [errW_none, errW_some] <;> rfl)) | (simp [*, errW_none, errW_some] <;> first | rfl | (simp [wrap64]; done)), by first | exact Kd.R_nil _ _ _ _ _ | exact Kd.N_nil _ _ _ _ _ | exact Kd.V_nil _ _ _ _ _ | exact Kd.Q_nil _ _ _ _ _ | exact Kd.S_nil _ _ _ _ _, nH1 HB.out GE477.out⟩
         · rw [if_neg c77] at H
           have c77b0 : decide ((rd x9_2 0) < 0) = false := decide_eq_false c77
           clear c77
           obtain ⟨y501, hy501⟩ : ∃ y_ : List Int, y_ = (([] : List Int)) := ⟨_, rfl⟩
           replace H : (impl_Relieve.l2 k2 (l1.length : Int) x10_2 y501 0) = some (r1, r2) := by first | (rw [hy501]; with_reducible exact H) | (have H2_ := (Option.bind_some _ _).symm.trans H; rw [hy501]; with_reducible exact H2_) | (have H2_ := (Option.bind_some _ _).symm.trans H; with_reducible exact H2_) | with_reducible exact H | (rw [hy501]; exact H) | exact H
           have Ny501 := Aside0.mk hy501
           clear hy501
           have H' := Aside0.mk H
           clear H
           obtain ⟨Ao79, co79, eo79⟩ := Kd.R_slice HO_9.out
           subst eo79
           have p500 : 0 ≤ (0 : Int) := (by omega)
           have q500 : 0 < (x9_2.length : Int) := of_decide_eq_true nQ
           obtain ⟨ad500, e500, hx500_0⟩ := Kd.at_int (Kd.R_reads' HO_9.out).2.2 0 p500 q500
           cases e500
           have qi500 : (0 < x9_2.length) = True := eq_true (by omega)
           (try rw [show ((0 : Int)).toNat = 0 from rfl] at hx500_0)
           (try rw [Addr.add_zero'] at hx500_0)
           replace p500 := eq_true p500; replace q500 := eq_true q500
           go_wp2_with (first | ((with_reducible refine gate_dst (N := 108) rfl ?_); (try (refine gate_guard (by rfl) ?_; dsimp only)); refine Kd.R_lit (Kd.int .i64) _ 3 ?hg (N := 108) ?hd (xs := ([] : List Int)) (inner := []) (ok := fun _ => True) (okp := fun _ => True) ?hr ?hp (fun _ hk => hk) trivial (Below.refl _ _) (Nat.le_refl _) (by simp) ?_; (case hd => rfl); (case hg => rfl); (case hr => first | (go_simp; done) | (go_simp; rfl)); (case hp => exact (Reps.none _ _)); intro v502 w80 ho81 hb hg_ hnew_; clear hg_ hnew_; (first | rw [← Ny501.out] at ho81 | (simp only [Int.reduceToNat] at ho81; rw [← Ny501.out] at ho81)); have n0_ := Aside0.mk (Kd.R_elder' (nR HO_9.out) (Kd.R_base ho81) hb); have n1_ := Aside0.mk (Kd.R_elder' (nR HO_10.out) (Kd.R_base ho81) hb); have n2_ := Aside0.mk (Kd.R_lower (Kd.R_new' (Kd.R_new' ho81 (Kd.R_lt (nR HO_9.out))) (Kd.R_lt (nR HO_10.out))) (below_size (nH1 HB.out GE477.out))); have n3_ := Aside0.mk (blk_below (g := gb477) (o := .cells #[.int .i64 a2_0, .int .i64 a2_1, .int .i64 a2_2, .int .i64 a2_3] 25 (0, 0)) (nB BK477.out) hb); have n4_ := Aside0.mk (below_step (nH1 HB.out GE477.out) hb); clear HO_9; clear HO_10; clear BK477; clear HB; have HO_9 := n0_; have HO_10 := n1_; have HO503 := n2_; have BK477 := n3_; have HB := n4_; clear n0_ n1_ n2_ n3_ n4_; clear hb ho81))
           go_loopg [13, 14] k2 (fun kq v13 v14 w' => ∃ (x13_3 : List Int) (x14_3 : Int), v14 = .int .i64 x14_3 ∧ Aside0 (impl_Relieve.l2 kq (l1.length : Int) x10_2 x13_3 x14_3 = some (r1, r2)) ∧ Aside0 (kq ≤ k2) ∧ Aside0 (Kd.R (Kd.int .i64) 3 w' w.heap.size (fun k_ => some k_ ≠ (v13 : Value).ownBlock) v485 x10_2) ∧ Aside0 (Kd.R (Kd.int .i64) 3 w' w.heap.size (fun k_ => some k_ ≠ (v485 : Value).ownBlock) v13 x13_3) ∧ Aside0 (w'.heap[gb477]? = some (.cells #[.int .i64 a2_0, .int .i64 a2_1, .int .i64 a2_2, .int .i64 a2_3] 25 (0, 0))) ∧ Aside0 (Below w.heap.size w w'))
           case atStart => exact ⟨(y501), (0), nS, H', ⟨Nat.le_refl _⟩, ⟨by (with_reducible repeat (first | apply Kd.R_alloc | apply Kd.R_drewN | apply Kd.R_drew)); exact Kd.R_mono HO_10.out (fun _ hk => hk.2)⟩, ⟨by (with_reducible repeat (first | apply Kd.R_alloc | apply Kd.R_drewN | apply Kd.R_drew)); exact Kd.R_mono HO503.out (fun _ hk => hk.2)⟩, ⟨by (with_reducible repeat (first | refine blk_drewN ?_ _ | refine blk_drew ?_ | refine blk_alloc ?_ _)); exact BK477.out⟩, ⟨nH1 HB.out GE477.out⟩⟩
           case round =>
            clear H'
            try clear p2; try clear c3; try clear p4; try clear q4; try clear hx4; try clear c5; try clear p5; try clear q5; try clear hx5; try clear qi5; try clear hf5; try clear c6; try clear p6; try clear q6; try clear hx6; try clear hf6; try clear c7; try clear c30; try clear c30b0; try clear c31; try clear c32; try clear c37; try clear c37b0; try clear p49; try clear q49; try clear hx49; try clear p50; try clear q50; try clear hx50; try clear qi50; try clear c51; try clear c52; try clear c53; try clear c53b0; try clear c54; try clear c55; try clear p56; try clear q56; try clear hx56; try clear hf56
            try clear c57; try clear p58; try clear q58; try clear hx58; try clear hf58; try clear c64; try clear c64b0; try clear p64; try clear c65; try clear c65b0; try clear c66; try clear c66b0; try clear p67; try clear q67; try clear hx67; try clear hf67; try clear c68; try clear c68b0; try clear p69; try clear q69; try clear hx69; try clear hf69; try clear c76; try clear c76b0; try clear c76b1; try clear c77; try clear c77b0; try clear hx491_0; try clear hx492_0; try clear hx495_0; try clear hx496_0; try clear hx497_0; try clear hx500_0; try clear hx56_0; try clear hx58_0; try clear hx67_0
            try clear hx69_0; try clear p491; try clear p492; try clear p495; try clear p496; try clear p497; try clear p500; try clear p56; try clear p58; try clear p67; try clear p69; try clear q491; try clear q492; try clear q495; try clear q496; try clear q497; try clear q500; try clear q56; try clear q58; try clear q67; try clear q69
            obtain ⟨x13_3, x14_3, rfl, HA, HK3, HO_10, HO_13, BK477, HB⟩ := hrel
            cases gk with
            | zero => exact absurd HA.out (by simp [impl_Relieve.l2])
            | succ k3 =>
             have H := HA.out; clear HA
             simp only [impl_Relieve.l2] at H
             by_cases c82 : x14_3 < (l1.length : Int)
             · rw [if_pos c82] at H
               have c82b0 : decide (x14_3 < (l1.length : Int)) = true := decide_eq_true c82
               clear c82
               by_cases c83 : x13_3.length < 17592186044416
               rotate_left
               · (rw [if_neg c83] at H; exact absurd H (by simp))
               rw [if_pos c83] at H
               have LMc83 := Aside0.mk c83
               clear c83
               obtain ⟨y504, hy504⟩ : ∃ y_ : List Int, y_ = (x13_3 ++ [x14_3]) := ⟨_, rfl⟩
               replace H : (if 0 ≤ x14_3 then (if x14_3 < (x10_2.length : Int) then (impl_Relieve.l2 k3 (l1.length : Int) x10_2 y504 (rd x10_2 x14_3)) else (none)) else (none)) = some (r1, r2) := by first | (rw [hy504]; with_reducible exact H) | (have H2_ := (Option.bind_some _ _).symm.trans H; rw [hy504]; with_reducible exact H2_) | (have H2_ := (Option.bind_some _ _).symm.trans H; with_reducible exact H2_) | with_reducible exact H | (rw [hy504]; exact H) | exact H
               have Ny504 := Aside0.mk hy504
               clear hy504
               by_cases c84 : 0 ≤ x14_3
               rotate_left
               · (rw [if_neg c84] at H; exact absurd H (by simp))
               rw [if_pos c84] at H
               have c84b0 : decide (0 ≤ x14_3) = true := decide_eq_true c84
               clear c84
               by_cases c85 : x14_3 < (x10_2.length : Int)
               rotate_left
               · (rw [if_neg c85] at H; exact absurd H (by simp))
               rw [if_pos c85] at H
               have c85b0 : decide (x14_3 < (x10_2.length : Int)) = true := decide_eq_true c85
               clear c85
               have H' := Aside0.mk H
               clear H
               go_wp2_with (first | ((with_reducible refine gate_builtin (b := .append) (xs := #[.tmp 116, .tmp 118]) rfl ?_); (try (refine gate_guard (by rfl) ?_; dsimp only)); at_builtin; refine Kd.R_append (Kd.int .i64) (w0 := w) w.heap.size rfl (.tmp 116) (.tmp 118) 29 3 (.int .i64 0) 8 rfl Try.underlying29 info3 rfl (by decide) (by omega) u13 x13_3 x14_3 [.int .i64 x14_3] (fun k_ => some k_ ≠ (v485 : Value).ownBlock) (fun _ => False) rfl rfl ?aP (fun _ hk => hk.elim) ?aF ?aO ?aB ?aS ?aL ?_; (case aP => exact rfl); (case aB => exact (nH1 HB.out GE477.out)); (case aF => exact (fun k_ hk => Kd.fresh' (Kd.R_lt (nR HO_10.out)) k_ hk)); (case aO => exact (nR HO_13.out)); (case aS => exact (below_size (nH1 HB.out GE477.out))); (case aL => have := LMc83.out; omega); intro v505 w86 ho hb hg hat; rw [← Ny504.out] at ho; have n0_ := Aside0.mk (Kd.R_after (ok := (fun _ => True)) (by (with_reducible repeat (first | apply Kd.R_alloc | apply Kd.R_drewN | apply Kd.R_drew)); exact Kd.R_mono HO_10.out (fun _ hk => ⟨trivial, hk⟩)) hg hat); have n1_ := Aside0.mk (blk_grown (g := gb477) (o := .cells #[.int .i64 a2_0, .int .i64 a2_1, .int .i64 a2_2, .int .i64 a2_3] 25 (0, 0)) (nB BK477.out) hg (Kd.R_ne HO_13.out BK477.out (by decide))); have n2_ := Aside0.mk (hb); have n3_ := Aside0.mk (ho); clear HO_10; clear BK477; clear HB; clear HO_13; have HO_10 := n0_; have BK477 := n1_; have HB := n2_; have HO506 := n3_; clear n0_ n1_ n2_ n3_; clear ho hb hg hat; obtain ⟨Ao87, co87, eo87⟩ := Kd.R_slice HO_10.out; subst eo87; have p507 : 0 ≤ (x14_3 : Int) := of_decide_eq_true nQ; have q507 : x14_3 < (x10_2.length : Int) := of_decide_eq_true nQ; obtain ⟨ad507, e507, hx507_0⟩ := Kd.at_int (Kd.R_reads' HO_10.out).2.2 x14_3 p507 q507; cases e507; replace p507 := eq_true p507; replace q507 := eq_true q507))
               go_roundg k3
               case measure => have := HJ3.out; have := HK2.out; have := HK3.out; omega
               case rel => exact ⟨(y504), (rd x10_2 x14_3), nS, H', ⟨by have := HJ3.out; have := HK2.out; have := HK3.out; omega⟩, ⟨by (with_reducible repeat (first | apply Kd.R_alloc | apply Kd.R_drewN | apply Kd.R_drew)); exact Kd.R_mono HO_10.out (fun _ hk => hk.2)⟩, ⟨by (with_reducible repeat (first | apply Kd.R_alloc | apply Kd.R_drewN | apply Kd.R_drew)); exact HO506.out⟩, ⟨by (with_reducible repeat (first | refine blk_drewN ?_ _ | refine blk_drew ?_ | refine blk_alloc ?_ _)); exact BK477.out⟩, ⟨nH1 HB.out GE477.out⟩⟩
             · rw [if_neg c82] at H
               have c82b0 : decide (x14_3 < (l1.length : Int)) = false := decide_eq_false c82
               clear c82
               simp only [Option.some.injEq, Prod.mk.injEq] at H
               obtain ⟨rfl, rfl⟩ := H
               go_wp2
               go_ret2
               exact ⟨_, by first | rfl | (simp [errW_none, errW_some] <;> rfl) | (simp only [← hji19]; first | rfl | (simp [errW_none, errW_some] <;> rfl)) | (simp [*, errW_none, errW_some] <;> first | rfl | (simp [wrap64]; done)), by (with_reducible repeat (first | apply Kd.R_alloc | apply Kd.R_drewN | apply Kd.R_drew)); exact Kd.R_mono HO_13.out (fun _ hk => trivial), nH1 HB.out GE477.out⟩
end Go.Proofs.Ytnamdbnnijfniaa.P
