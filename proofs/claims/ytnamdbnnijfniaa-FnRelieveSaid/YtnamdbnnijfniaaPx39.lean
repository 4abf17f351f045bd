/- Contracts of the functions of the program, each one with its plain Lean function; written by a program of the session out of the translation. -/
import Derived.Test.YtnamdbnnijfniaaNb
import Derived.Test.YtnamdbnnijfniaaPx0
import Derived.Test.YtnamdbnnijfniaaPx1
import Derived.Test.YtnamdbnnijfniaaPx6
import Derived.Test.YtnamdbnnijfniaaPx25
namespace Go.Proofs.Ytnamdbnnijfniaa.P
open Go.RowKit Go.Proofs.YtnamdbnnijfniaaW.PrintWords Go.Proofs.YtnamdbnnijfniaaW.PrintLast Go.Proofs.YtnamdbnnijfniaaW.PrintMore
attribute [local go_sem] max2_int min2_int max_two min_two max_three min_three max_four min_four   -- for this text's walks alone
set_option linter.unusedVariables false
set_option linter.unusedSimpArgs false
/-! ### spec_Relieve: function 30 -/
theorem spec_Relieve.mono_l : ∀ k, (∀ y0 y1 y2 y3 y4 y5 y6, LeO (spec_Relieve.j0 k y0 y1 y2 y3 y4 y5 y6) (spec_Relieve.j0 (k + 1) y0 y1 y2 y3 y4 y5 y6)) ∧ (∀ y0 y1 y2 y3 y4 y5 y6 y7, LeO (spec_Relieve.l0 k y0 y1 y2 y3 y4 y5 y6 y7) (spec_Relieve.l0 (k + 1) y0 y1 y2 y3 y4 y5 y6 y7)) ∧ (∀ y0 y1 y2 y3 y4 y5 y6 y7 y8, LeO (spec_Relieve.l1 k y0 y1 y2 y3 y4 y5 y6 y7 y8) (spec_Relieve.l1 (k + 1) y0 y1 y2 y3 y4 y5 y6 y7 y8)) ∧ (∀ y0 y1 y2 y3 y4 y5 y6 y7 y8 y9, LeO (spec_Relieve.j3 k y0 y1 y2 y3 y4 y5 y6 y7 y8 y9) (spec_Relieve.j3 (k + 1) y0 y1 y2 y3 y4 y5 y6 y7 y8 y9)) ∧ (∀ y0 y1 y2 y3 y4 y5 y6 y7 y8, LeO (spec_Relieve.l2 k y0 y1 y2 y3 y4 y5 y6 y7 y8) (spec_Relieve.l2 (k + 1) y0 y1 y2 y3 y4 y5 y6 y7 y8)) ∧ (∀ y0 y1 y2 y3 y4 y5 y6 y7 y8 y9, LeO (spec_Relieve.l3 k y0 y1 y2 y3 y4 y5 y6 y7 y8 y9) (spec_Relieve.l3 (k + 1) y0 y1 y2 y3 y4 y5 y6 y7 y8 y9))
 | 0 => ⟨fun _ _ _ _ _ _ _ r h => by simp [spec_Relieve.j0] at h, fun _ _ _ _ _ _ _ _ r h => by simp [spec_Relieve.l0] at h, fun _ _ _ _ _ _ _ _ _ r h => by simp [spec_Relieve.l1] at h, fun _ _ _ _ _ _ _ _ _ _ r h => by simp [spec_Relieve.j3] at h, fun _ _ _ _ _ _ _ _ _ r h => by simp [spec_Relieve.l2] at h, fun _ _ _ _ _ _ _ _ _ _ r h => by simp [spec_Relieve.l3] at h⟩
 | k + 1 => by
  obtain ⟨ih0, ih1, ih2, ih3, ih4, ih5⟩ := spec_Relieve.mono_l k
  refine ⟨?_, ?_, ?_, ?_, ?_, ?_⟩
  · intro y0 y1 y2 y3 y4 y5 y6
    unfold spec_Relieve.j0
    repeat' first
    | (with_reducible exact ih0 _ _ _ _ _ _ _)
    | (with_reducible exact ih1 _ _ _ _ _ _ _ _)
    | (with_reducible exact ih2 _ _ _ _ _ _ _ _ _)
    | (with_reducible exact ih3 _ _ _ _ _ _ _ _ _ _)
    | (with_reducible exact ih4 _ _ _ _ _ _ _ _ _)
    | (with_reducible exact ih5 _ _ _ _ _ _ _ _ _ _)
    | (with_reducible exact spec_DutyCode.mono _ _ _ _ _ _ _)
    | (with_reducible exact spec_l17Places.mono _ _ _ _)
    | (with_reducible exact LeO.refl _)
    | (with_reducible exact LeO.none _)
    | (with_reducible refine LeO.ite ?_ ?_)
    | (with_reducible refine LeO.bind ?_ (fun _ => ?_))
    | exact ih0 _ _ _ _ _ _ _
    | exact ih1 _ _ _ _ _ _ _ _
    | exact ih2 _ _ _ _ _ _ _ _ _
    | exact ih3 _ _ _ _ _ _ _ _ _ _
    | exact ih4 _ _ _ _ _ _ _ _ _
    | exact ih5 _ _ _ _ _ _ _ _ _ _
    | exact spec_DutyCode.mono _ _ _ _ _ _ _
    | exact spec_l17Places.mono _ _ _ _
    | exact LeO.none _
    | refine LeO.ite ?_ ?_
    | refine LeO.bind ?_ (fun _ => ?_)
  · intro y0 y1 y2 y3 y4 y5 y6 y7
    unfold spec_Relieve.l0
    repeat' first
    | (with_reducible exact ih0 _ _ _ _ _ _ _)
    | (with_reducible exact ih1 _ _ _ _ _ _ _ _)
    | (with_reducible exact ih2 _ _ _ _ _ _ _ _ _)
    | (with_reducible exact ih3 _ _ _ _ _ _ _ _ _ _)
    | (with_reducible exact ih4 _ _ _ _ _ _ _ _ _)
    | (with_reducible exact ih5 _ _ _ _ _ _ _ _ _ _)
    | (with_reducible exact spec_DutyCode.mono _ _ _ _ _ _ _)
    | (with_reducible exact spec_l17Places.mono _ _ _ _)
    | (with_reducible exact LeO.refl _)
    | (with_reducible exact LeO.none _)
    | (with_reducible refine LeO.ite ?_ ?_)
    | (with_reducible refine LeO.bind ?_ (fun _ => ?_))
    | exact ih0 _ _ _ _ _ _ _
    | exact ih1 _ _ _ _ _ _ _ _
    | exact ih2 _ _ _ _ _ _ _ _ _
    | exact ih3 _ _ _ _ _ _ _ _ _ _
    | exact ih4 _ _ _ _ _ _ _ _ _
    | exact ih5 _ _ _ _ _ _ _ _ _ _
    | exact spec_DutyCode.mono _ _ _ _ _ _ _
    | exact spec_l17Places.mono _ _ _ _
    | exact LeO.none _
    | refine LeO.ite ?_ ?_
    | refine LeO.bind ?_ (fun _ => ?_)
  · intro y0 y1 y2 y3 y4 y5 y6 y7 y8
    unfold spec_Relieve.l1
    repeat' first
    | (with_reducible exact ih0 _ _ _ _ _ _ _)
    | (with_reducible exact ih1 _ _ _ _ _ _ _ _)
    | (with_reducible exact ih2 _ _ _ _ _ _ _ _ _)
    | (with_reducible exact ih3 _ _ _ _ _ _ _ _ _ _)
    | (with_reducible exact ih4 _ _ _ _ _ _ _ _ _)
    | (with_reducible exact ih5 _ _ _ _ _ _ _ _ _ _)
    | (with_reducible exact spec_DutyCode.mono _ _ _ _ _ _ _)
    | (with_reducible exact spec_l17Places.mono _ _ _ _)
    | (with_reducible exact LeO.refl _)
    | (with_reducible exact LeO.none _)
    | (with_reducible refine LeO.ite ?_ ?_)
    | (with_reducible refine LeO.bind ?_ (fun _ => ?_))
    | exact ih0 _ _ _ _ _ _ _
    | exact ih1 _ _ _ _ _ _ _ _
    | exact ih2 _ _ _ _ _ _ _ _ _
    | exact ih3 _ _ _ _ _ _ _ _ _ _
    | exact ih4 _ _ _ _ _ _ _ _ _
    | exact ih5 _ _ _ _ _ _ _ _ _ _
    | exact spec_DutyCode.mono _ _ _ _ _ _ _
    | exact spec_l17Places.mono _ _ _ _
    | exact LeO.none _
    | refine LeO.ite ?_ ?_
    | refine LeO.bind ?_ (fun _ => ?_)
  · intro y0 y1 y2 y3 y4 y5 y6 y7 y8 y9
    unfold spec_Relieve.j3
    repeat' first
    | (with_reducible exact ih0 _ _ _ _ _ _ _)
    | (with_reducible exact ih1 _ _ _ _ _ _ _ _)
    | (with_reducible exact ih2 _ _ _ _ _ _ _ _ _)
    | (with_reducible exact ih3 _ _ _ _ _ _ _ _ _ _)
    | (with_reducible exact ih4 _ _ _ _ _ _ _ _ _)
    | (with_reducible exact ih5 _ _ _ _ _ _ _ _ _ _)
    | (with_reducible exact spec_DutyCode.mono _ _ _ _ _ _ _)
    | (with_reducible exact spec_l17Places.mono _ _ _ _)
    | (with_reducible exact LeO.refl _)
    | (with_reducible exact LeO.none _)
    | (with_reducible refine LeO.ite ?_ ?_)
    | (with_reducible refine LeO.bind ?_ (fun _ => ?_))
    | exact ih0 _ _ _ _ _ _ _
    | exact ih1 _ _ _ _ _ _ _ _
    | exact ih2 _ _ _ _ _ _ _ _ _
    | exact ih3 _ _ _ _ _ _ _ _ _ _
    | exact ih4 _ _ _ _ _ _ _ _ _
    | exact ih5 _ _ _ _ _ _ _ _ _ _
    | exact spec_DutyCode.mono _ _ _ _ _ _ _
    | exact spec_l17Places.mono _ _ _ _
    | exact LeO.none _
    | refine LeO.ite ?_ ?_
    | refine LeO.bind ?_ (fun _ => ?_)
  · intro y0 y1 y2 y3 y4 y5 y6 y7 y8
    unfold spec_Relieve.l2
    repeat' first
    | (with_reducible exact ih0 _ _ _ _ _ _ _)
    | (with_reducible exact ih1 _ _ _ _ _ _ _ _)
    | (with_reducible exact ih2 _ _ _ _ _ _ _ _ _)
    | (with_reducible exact ih3 _ _ _ _ _ _ _ _ _ _)
    | (with_reducible exact ih4 _ _ _ _ _ _ _ _ _)
    | (with_reducible exact ih5 _ _ _ _ _ _ _ _ _ _)
    | (with_reducible exact spec_DutyCode.mono _ _ _ _ _ _ _)
    | (with_reducible exact spec_l17Places.mono _ _ _ _)
    | (with_reducible exact LeO.refl _)
    | (with_reducible exact LeO.none _)
    | (with_reducible refine LeO.ite ?_ ?_)
    | (with_reducible refine LeO.bind ?_ (fun _ => ?_))
    | exact ih0 _ _ _ _ _ _ _
    | exact ih1 _ _ _ _ _ _ _ _
    | exact ih2 _ _ _ _ _ _ _ _ _
    | exact ih3 _ _ _ _ _ _ _ _ _ _
    | exact ih4 _ _ _ _ _ _ _ _ _
    | exact ih5 _ _ _ _ _ _ _ _ _ _
    | exact spec_DutyCode.mono _ _ _ _ _ _ _
    | exact spec_l17Places.mono _ _ _ _
    | exact LeO.none _
    | refine LeO.ite ?_ ?_
    | refine LeO.bind ?_ (fun _ => ?_)
  · intro y0 y1 y2 y3 y4 y5 y6 y7 y8 y9
    unfold spec_Relieve.l3
    repeat' first
    | (with_reducible exact ih0 _ _ _ _ _ _ _)
    | (with_reducible exact ih1 _ _ _ _ _ _ _ _)
    | (with_reducible exact ih2 _ _ _ _ _ _ _ _ _)
    | (with_reducible exact ih3 _ _ _ _ _ _ _ _ _ _)
    | (with_reducible exact ih4 _ _ _ _ _ _ _ _ _)
    | (with_reducible exact ih5 _ _ _ _ _ _ _ _ _ _)
    | (with_reducible exact spec_DutyCode.mono _ _ _ _ _ _ _)
    | (with_reducible exact spec_l17Places.mono _ _ _ _)
    | (with_reducible exact LeO.refl _)
    | (with_reducible exact LeO.none _)
    | (with_reducible refine LeO.ite ?_ ?_)
    | (with_reducible refine LeO.bind ?_ (fun _ => ?_))
    | exact ih0 _ _ _ _ _ _ _
    | exact ih1 _ _ _ _ _ _ _ _
    | exact ih2 _ _ _ _ _ _ _ _ _
    | exact ih3 _ _ _ _ _ _ _ _ _ _
    | exact ih4 _ _ _ _ _ _ _ _ _
    | exact ih5 _ _ _ _ _ _ _ _ _ _
    | exact spec_DutyCode.mono _ _ _ _ _ _ _
    | exact spec_l17Places.mono _ _ _ _
    | exact LeO.none _
    | refine LeO.ite ?_ ?_
    | refine LeO.bind ?_ (fun _ => ?_)
theorem spec_Relieve.mono : ∀ a0 a1 a2 a3 a4 a5 k, LeO (spec_Relieve.f k a0 a1 a2 a3 a4 a5) (spec_Relieve.f (k + 1) a0 a1 a2 a3 a4 a5) := by
 intro a0 a1 a2 a3 a4 a5 k
 obtain ⟨ih0, ih1, ih2, ih3, ih4, ih5⟩ := spec_Relieve.mono_l k
 unfold spec_Relieve.f
 repeat' first
  | (with_reducible exact ih0 _ _ _ _ _ _ _)
  | (with_reducible exact ih1 _ _ _ _ _ _ _ _)
  | (with_reducible exact ih2 _ _ _ _ _ _ _ _ _)
  | (with_reducible exact ih3 _ _ _ _ _ _ _ _ _ _)
  | (with_reducible exact ih4 _ _ _ _ _ _ _ _ _)
  | (with_reducible exact ih5 _ _ _ _ _ _ _ _ _ _)
  | (with_reducible exact spec_DutyCode.mono _ _ _ _ _ _ _)
  | (with_reducible exact spec_l17Places.mono _ _ _ _)
  | (with_reducible exact LeO.refl _)
  | (with_reducible exact LeO.none _)
  | (with_reducible refine LeO.ite ?_ ?_)
  | (with_reducible refine LeO.bind ?_ (fun _ => ?_))
  | exact ih0 _ _ _ _ _ _ _
  | exact ih1 _ _ _ _ _ _ _ _
  | exact ih2 _ _ _ _ _ _ _ _ _
  | exact ih3 _ _ _ _ _ _ _ _ _ _
  | exact ih4 _ _ _ _ _ _ _ _ _
  | exact ih5 _ _ _ _ _ _ _ _ _ _
  | exact spec_DutyCode.mono _ _ _ _ _ _ _
  | exact spec_l17Places.mono _ _ _ _
  | exact LeO.none _
  | refine LeO.ite ?_ ?_
  | refine LeO.bind ?_ (fun _ => ?_)
def spec_Relieve.T11 : Bool × List (List Nat × List Nat) := (true, [([], []), ([], []), ([0, 1], [0, 1]), ([2], [2]), ([3], [3]), ([4], [4]), ([5], [5]), ([5], [5]), ([5], [5]), ([5], [5]), ([7, 8, 9, 5], [5, 7, 8, 9]), ([5], [5]), ([6, 10, 11, 5, 5], [5, 6, 10, 11]), ([12, 5], [5, 12]), ([5, 13], [5, 13]), ([14, 12], [14]), ([15], [15]), ([15], [15]), ([16, 17, 15], [15, 16, 17]), ([18, 15], [15, 18]), ([19, 15], [15, 19]), ([20, 15, 15], [15, 20]), ([21], [21]), ([21], [21]), ([22, 23, 21], [21, 22, 23]), ([24, 21], [21, 24]), ([25, 21], [21, 25]), ([21], [21]), ([21], [21]), ([27, 28, 21], [21, 27, 28]), ([29, 21], [21, 29]), ([26, 30, 21], [21, 26, 30]), ([21, 31, 15], [15, 21, 31]), ([15, 32], [15, 32])])
def spec_Relieve.B11 : List Nat := [0, 0, 3, 7, 15, 31, 63, 63, 63, 63, 959, 63, 4095, 8191, 16383, 32767, 65535, 65535, 262143, 524287, 1048575, 2097151, 4194303, 4194303, 16777215, 33554431, 67108863, 4194303, 4194303, 406847487, 943718399, 2147483647, 4294967295, 8589934591]
theorem spec_Relieve.tab11 : rtab .any (opsOf Try.f30 11) = spec_Relieve.T11 := by kernel_rfl
theorem spec_Relieve.bits11 : waitsOk spec_Relieve.T11.2 spec_Relieve.B11 = true := by kernel_rfl
def spec_Relieve.T22 : Bool × List (List Nat × List Nat) := (true, [([], []), ([], []), ([0, 1], [0, 1]), ([2], [2]), ([3], [3]), ([4], [4]), ([5], [5]), ([5], [5]), ([6, 7, 5], [5, 6, 7]), ([8, 5], [5, 8]), ([9, 5], [5, 9]), ([5], [5]), ([5], [5]), ([11, 12, 5], [5, 11, 12]), ([13, 5], [5, 13]), ([10, 14, 5], [5, 10, 14]), ([5, 15], [5, 15]), ([16, 5], [16]), ([17], [17]), ([17], [17]), ([17], [17]), ([17], [17]), ([19, 20, 21, 17], [17, 19, 20, 21]), ([17], [17]), ([18, 22, 23, 17, 17], [17, 18, 22, 23]), ([24, 17], [17, 24]), ([17, 25], [17, 25])])
def spec_Relieve.B22 : List Nat := [0, 0, 3, 7, 15, 31, 63, 63, 255, 511, 1023, 63, 63, 6207, 14399, 32767, 65535, 131071, 262143, 262143, 262143, 262143, 3932159, 262143, 16777215, 33554431, 67108863]
theorem spec_Relieve.tab22 : rtab .any (opsOf Try.f30 22) = spec_Relieve.T22 := by kernel_rfl
theorem spec_Relieve.bits22 : waitsOk spec_Relieve.T22.2 spec_Relieve.B22 = true := by kernel_rfl
set_option maxHeartbeats 8000000 in
set_option maxRecDepth 100000 in
theorem spec_Relieve.calls (k : Nat) (A0 : Option Addr) (c0 : Nat) (l0 : List (S52)) (A1 : Option Addr) (c1 : Nat) (l1 : List Int) (a2_0 : Int) (a2_1 : Int) (a2_2 : Int) (a2_3 : Int) (r1 : List Int) (r2 : Bool) (w : World) (hr0 : Kd.C k52 w A0 l0.length l0) (hc0 : l0.length ≤ c0) (hr1 : Kd.C (Kd.int .i64) w A1 l1.length l1) (hc1 : l1.length ≤ c1) (h : spec_Relieve.f k l0 l1 a2_0 a2_1 a2_2 a2_3 = some (r1, r2)) :
 Calls Try.prog 30 #[.slice A0 l0.length c0, .slice A1 l1.length c1, .agg #[.int .i64 a2_0, .int .i64 a2_1, .int .i64 a2_2, .int .i64 a2_3]] w fun e w' => ∃ v0_ : Value, e = .returned (.tuple #[v0_, .bool r2]) ∧ Kd.R (Kd.int .i64) 3 w' w.heap.size (fun _ => True) v0_ r1 ∧ Below w.heap.size w w' := by
 have hu25 := Try.underlying25
 have HR0 := Aside0.mk hr0
 have HC0 := Aside0.mk hc0
 clear hr0 hc0
 have HR1 := Aside0.mk hr1
 have HC1 := Aside0.mk hc1
 clear hr1 hc1
 have HB := Aside0.mk (Below.refl w.heap.size w)
 have H : ((spec_l17Places.f k l0 l1 40).bind fun t509 => (if t509 = true then ((spec_RuleOk.f a2_0 a2_1 a2_2 a2_3).bind fun t510 => (spec_Relieve.j0 k l0 l1 (!t510) a2_0 a2_1 a2_2 a2_3)) else (spec_Relieve.j0 k l0 l1 true a2_0 a2_1 a2_2 a2_3))) = some (r1, r2) := h
 clear h
 have HC4 := Aside0.mk H
 clear H
 go_enter Try.func30, Try.ntmps30
 go_upto_region 1 with (first | ((with_reducible refine gate_dst (N := 5) rfl ?_); refine box_event ?hg (N := 5) ?hd (cs := #[.int .i64 a2_0, .int .i64 a2_1, .int .i64 a2_2, .int .i64 a2_3]) (t := 25) ?hr ?_; (case hd => rfl); (case hg => rfl); (case hr => first | (go_simp; done) | (go_simp; rfl)); intro gb508 hg w5 hbox hb; have n0_ := Aside0.mk (below_step (nH HB.out) hb); have n1_ := Aside0.mk (hbox); have n2_ := Aside0.mk ((by rw [hg]; exact (below_size (nH HB.out)) : w.heap.size ≤ gb508)); have n3_ := Aside0.mk ((by rw [hg]; exact (below_size (nH HB.out)) : w.heap.size ≤ gb508)); clear HB; have HB := n0_; have BK508 := n1_; have GW508 := n2_; have GE508 := n3_; clear n0_ n1_ n2_ n3_; clear hb hbox hg))
 (try simp only [Act.put, List.setIfInBounds_toArray, List.set_cons_zero, List.set_cons_succ])
 go_cut [22] (fun v22 wc => ∃ (kq : Nat) (x22_3 : Bool), v22 = .bool x22_3 ∧ Aside0 (spec_Relieve.j0 kq l0 l1 x22_3 a2_0 a2_1 a2_2 a2_3 = some (r1, r2)) ∧ Aside0 (kq ≤ k) ∧ Aside0 (wc.heap[gb508]? = some (.cells #[.int .i64 a2_0, .int .i64 a2_1, .int .i64 a2_2, .int .i64 a2_3] 25 (0, 0))) ∧ Aside0 (Below w.heap.size w wc))
 case first =>
  have H := HC4.out; clear HC4
  replace H := Option.bind_eq_some_iff.mp H
  obtain ⟨t509, A60, H⟩ := H
  replace H : (if t509 = true then ((spec_RuleOk.f a2_0 a2_1 a2_2 a2_3).bind fun t510 => (spec_Relieve.j0 k l0 l1 (!t510) a2_0 a2_1 a2_2 a2_3)) else (spec_Relieve.j0 k l0 l1 true a2_0 a2_1 a2_2 a2_3)) = some (r1, r2) := H
  have A6 := Aside0.mk A60
  clear A60
  by_cases c7 : t509 = true
  · subst c7
    have H1 : ((spec_RuleOk.f a2_0 a2_1 a2_2 a2_3).bind fun t510 => (spec_Relieve.j0 k l0 l1 (!t510) a2_0 a2_1 a2_2 a2_3)) = some (r1, r2) := by rw [if_pos rfl] at H; exact H
    clear H; have H := H1; clear H1
    replace H := Option.bind_eq_some_iff.mp H
    obtain ⟨t510, A80, H⟩ := H
    replace H : (spec_Relieve.j0 k l0 l1 (!t510) a2_0 a2_1 a2_2 a2_3) = some (r1, r2) := H
    have A8 := Aside0.mk A80
    clear A80
    have H' := Aside0.mk H
    clear H
    go_wp2_with (first | ((with_reducible refine gate_callee (f := 47) rfl ?_); refine goesL_ (some 16) rfl rfl Try.func47 (by kernel_rfl) rfl #[.slice A0 l0.length c0, .slice A1 l1.length c1, .int .i64 40] rfl (by (try simp only [List.map_toArray, List.map_cons, List.map_nil]); first | done | rfl | (simp only [List.length_drop, List.length_take]; rfl)) ?_; (with_reducible refine (spec_l17Places.calls k _ _ l0 _ _ l1 40 true _ ?side1 ?side2 ?side3 ?side4 A6.out).mono ?_); (case side1 => repeat (first | exact (Kd.C_below HR0.out HB.out) | (with_reducible refine Kd.C_alloc ?_ _) | (with_reducible refine Kd.C_drewN ?_ _) | (with_reducible refine Kd.C_drew ?_))); (case side2 => exact HC0.out); (case side3 => repeat (first | exact (Kd.C_below HR1.out HB.out) | (with_reducible refine Kd.C_alloc ?_ _) | (with_reducible refine Kd.C_drewN ?_ _) | (with_reducible refine Kd.C_drew ?_))); (case side4 => exact HC1.out); rintro e w9 ⟨rfl, hb⟩; refine ⟨_, rfl, ?_⟩; have n0_ := Aside0.mk (blk_below (g := gb508) (o := .cells #[.int .i64 a2_0, .int .i64 a2_1, .int .i64 a2_2, .int .i64 a2_3] 25 (0, 0)) (nB BK508.out) hb); have n1_ := Aside0.mk (below_step (nH1 HB.out GE508.out) hb); clear BK508; clear HB; have BK508 := n0_; have HB := n1_; clear n0_ n1_; (try clear hb); (try clear hb2); (try clear hk); (try clear hi); have hcz10_0 : w9.cell? ⟨gb508, 0, none⟩ = some (.int .i64 a2_0) := (blk_cell BK508.out 0).trans rfl; have hcz10_1 : w9.cell? ⟨gb508, 1, none⟩ = some (.int .i64 a2_1) := (blk_cell BK508.out 1).trans rfl; have hcz10_2 : w9.cell? ⟨gb508, 2, none⟩ = some (.int .i64 a2_2) := (blk_cell BK508.out 2).trans rfl; have hcz10_3 : w9.cell? ⟨gb508, 3, none⟩ = some (.int .i64 a2_3) := (blk_cell BK508.out 3).trans rfl; have hfz10_0 := blk_frozen BK508.out 0; have hfz10_1 := blk_frozen BK508.out 1; have hfz10_2 := blk_frozen BK508.out 2; have hfz10_3 := blk_frozen BK508.out 3) | (go_at_call 10; (with_reducible refine (spec_RuleOk.calls a2_0 a2_1 a2_2 a2_3 t510 _ A8.out).mono ?_); rintro e w11 ⟨rfl, hb⟩; have n0_ := Aside0.mk (blk_below (g := gb508) (o := .cells #[.int .i64 a2_0, .int .i64 a2_1, .int .i64 a2_2, .int .i64 a2_3] 25 (0, 0)) (nB BK508.out) hb); have n1_ := Aside0.mk (below_step (nH1 HB.out GE508.out) hb); clear BK508; clear HB; have BK508 := n0_; have HB := n1_; clear n0_ n1_; (try clear hb); (try clear hb2); (try clear hk); (try clear hi)))
    go_meet
    case rel => exact ⟨_, (!t510), nS, H', ⟨by first | omega | exact Nat.le_refl _⟩, ⟨by (with_reducible repeat (first | refine blk_drewN ?_ _ | refine blk_drew ?_ | refine blk_alloc ?_ _)); exact BK508.out⟩, ⟨nH1 HB.out GE508.out⟩⟩
  · replace c7 := Bool.eq_false_iff.mpr c7
    subst c7
    have H1 : (spec_Relieve.j0 k l0 l1 true a2_0 a2_1 a2_2 a2_3) = some (r1, r2) := by rw [if_neg (show ¬ (false = true) by decide)] at H; exact H
    clear H; have H := H1; clear H1
    have H' := Aside0.mk H
    clear H
    go_wp2_with (first | ((with_reducible refine gate_callee (f := 47) rfl ?_); refine goesL_ (some 16) rfl rfl Try.func47 (by kernel_rfl) rfl #[.slice A0 l0.length c0, .slice A1 l1.length c1, .int .i64 40] rfl (by (try simp only [List.map_toArray, List.map_cons, List.map_nil]); first | done | rfl | (simp only [List.length_drop, List.length_take]; rfl)) ?_; (with_reducible refine (spec_l17Places.calls k _ _ l0 _ _ l1 40 false _ ?side1 ?side2 ?side3 ?side4 A6.out).mono ?_); (case side1 => repeat (first | exact (Kd.C_below HR0.out HB.out) | (with_reducible refine Kd.C_alloc ?_ _) | (with_reducible refine Kd.C_drewN ?_ _) | (with_reducible refine Kd.C_drew ?_))); (case side2 => exact HC0.out); (case side3 => repeat (first | exact (Kd.C_below HR1.out HB.out) | (with_reducible refine Kd.C_alloc ?_ _) | (with_reducible refine Kd.C_drewN ?_ _) | (with_reducible refine Kd.C_drew ?_))); (case side4 => exact HC1.out); rintro e w12 ⟨rfl, hb⟩; refine ⟨_, rfl, ?_⟩; have n0_ := Aside0.mk (blk_below (g := gb508) (o := .cells #[.int .i64 a2_0, .int .i64 a2_1, .int .i64 a2_2, .int .i64 a2_3] 25 (0, 0)) (nB BK508.out) hb); have n1_ := Aside0.mk (below_step (nH1 HB.out GE508.out) hb); clear BK508; clear HB; have BK508 := n0_; have HB := n1_; clear n0_ n1_; (try clear hb); (try clear hb2); (try clear hk); (try clear hi)))
    go_meet
    case rel => exact ⟨_, (true), nS, H', ⟨by first | omega | exact Nat.le_refl _⟩, ⟨by (with_reducible repeat (first | refine blk_drewN ?_ _ | refine blk_drew ?_ | refine blk_alloc ?_ _)); exact BK508.out⟩, ⟨nH1 HB.out GE508.out⟩⟩
 case rest =>
  clear HC4; try clear c1; try clear p2; try clear c3; try clear c4; try clear c7; try clear hcz10_0; try clear hcz10_1; try clear hcz10_2; try clear hcz10_3; try clear hfz10_0; try clear hfz10_1; try clear hfz10_2; try clear hfz10_3
  obtain ⟨kq, x22_3, rfl, HA, HJ3, BK508, HB⟩ := hcut
  cases kq with
  | zero => exact absurd HA.out (by simp [spec_Relieve.j0])
  | succ kj3 =>
   have H := HA.out; clear HA
   simp only [spec_Relieve.j0] at H
   by_cases c13 : x22_3 = true
   · subst c13
     have H1 : (some (([] : List Int), false)) = some (r1, r2) := by rw [if_pos rfl] at H; exact H
     clear H; have H := H1; clear H1
     simp only [Option.some.injEq, Prod.mk.injEq] at H
     obtain ⟨rfl, rfl⟩ := H
     go_wp2
     go_ret2
     exact ⟨_, by first | rfl | (simp [errW_none, errW_some] <;> rfl) | (simp [*, errW_none, errW_some] <;> first | rfl | (simp [wrap64]; done)), by first | exact Kd.R_nil _ _ _ _ _ | exact Kd.N_nil _ _ _ _ _ | exact Kd.V_nil _ _ _ _ _ | exact Kd.Q_nil _ _ _ _ _ | exact Kd.S_nil _ _ _ _ _, nH1 HB.out GE508.out⟩
   · replace c13 := Bool.eq_false_iff.mpr c13
     subst c13
     have H1 : (if 0 ≤ (wrap64 ((l1.length : Int) + 1)) then (if (wrap64 ((l1.length : Int) + 1) : Int).toNat ≤ 35184372088832 then (spec_Relieve.l0 kj3 l0 l1 (List.replicate (wrap64 ((l1.length : Int) + 1) : Int).toNat 0) (wrap64 ((l1.length : Int) - 1)) a2_0 a2_1 a2_2 a2_3) else (none)) else (none)) = some (r1, r2) := by rw [if_neg (show ¬ (false = true) by decide)] at H; exact H
     clear H; have H := H1; clear H1
     obtain ⟨ji14, hji14⟩ : ∃ j_ : Int, (wrap64 ((l1.length : Int) + 1)) = j_ := ⟨_, rfl⟩
     replace H : (if 0 ≤ (ji14) then (if (ji14 : Int).toNat ≤ 35184372088832 then (spec_Relieve.l0 kj3 l0 l1 (List.replicate (ji14 : Int).toNat 0) (wrap64 ((l1.length : Int) - 1)) a2_0 a2_1 a2_2 a2_3) else (none)) else (none)) = some (r1, r2) := by first | (rw [hji14] at H; exact H) | (simp only [hji14] at H ⊢; exact H)
     have hji14w : (IntKind.i64.wrap ((l1.length : Int) + 1)) = ji14 := (i64_w _).trans hji14
     by_cases c15 : 0 ≤ (ji14)
     rotate_left
     · (rw [if_neg c15] at H; exact absurd H (by simp))
     rw [if_pos c15] at H
     have c15b0 := eq_true c15
     have c15b1 : decide (0 ≤ (ji14)) = true := decide_eq_true c15
     clear c15
     by_cases c16 : (ji14 : Int).toNat ≤ 35184372088832
     rotate_left
     · (rw [if_neg c16] at H; exact absurd H (by simp))
     rw [if_pos c16] at H
     have c16b0 := eq_true c16
     have c16b1 : decide ((ji14 : Int).toNat ≤ 35184372088832) = true := decide_eq_true c16
     clear c16
     obtain ⟨y511, hy511⟩ : ∃ y_ : List Int, y_ = (List.replicate (ji14 : Int).toNat 0) := ⟨_, rfl⟩
     replace H : (spec_Relieve.l0 kj3 l0 l1 y511 (wrap64 ((l1.length : Int) - 1)) a2_0 a2_1 a2_2 a2_3) = some (r1, r2) := by first | (rw [hy511]; with_reducible exact H) | (have H2_ := (Option.bind_some _ _).symm.trans H; rw [hy511]; with_reducible exact H2_) | (have H2_ := (Option.bind_some _ _).symm.trans H; with_reducible exact H2_) | with_reducible exact H | (rw [hy511]; exact H) | exact H
     have Ny511 := Aside0.mk hy511
     clear hy511
     have H' := Aside0.mk H
     clear H
     go_wp2_with (first | ((with_reducible refine gate_dst (N := 26) rfl ?_); refine Kd.R_make (Kd.int .i64) _ 3 rfl (N := 26) rfl 29 _ _ rfl ji14 rfl rfl Try.underlying29 (.int .i64 0) 8 info3 rfl (by decide) (by omega) 0 (ok := fun _ => True) (okp := fun _ => True) rfl (fun _ hk => hk) trivial (of_decide_eq_true nQ) (Nat.le_trans (Nat.mul_le_mul_right _ (of_decide_eq_true nQ : ji14.toNat ≤ 35184372088832)) (by omega)) (Below.refl _ _) (Nat.le_refl _) ?_; intro v512 w17 ho18 hb hg_ hnew_; clear hg_ hnew_; (first | rw [← Ny511.out] at ho18 | (simp only [Int.reduceToNat] at ho18; rw [← Ny511.out] at ho18)); have n0_ := Aside0.mk (Kd.R_lower ho18 (below_size (nH1 HB.out GE508.out))); have n1_ := Aside0.mk (blk_below (g := gb508) (o := .cells #[.int .i64 a2_0, .int .i64 a2_1, .int .i64 a2_2, .int .i64 a2_3] 25 (0, 0)) (nB BK508.out) hb); have n2_ := Aside0.mk (below_step (nH1 HB.out GE508.out) hb); clear BK508; clear HB; have HO513 := n0_; have BK508 := n1_; have HB := n2_; clear n0_ n1_ n2_; clear hb ho18))
     go_loopg [9] kj3 (fun kq v9 w' => ∃ (x8_2 : List Int) (x9_2 : Int), v9 = .int .i64 x9_2 ∧ Aside0 (spec_Relieve.l0 kq l0 l1 x8_2 x9_2 a2_0 a2_1 a2_2 a2_3 = some (r1, r2)) ∧ Aside0 (kq ≤ kj3) ∧ Aside0 (Kd.R (Kd.int .i64) 3 w' w.heap.size (fun _ => True) v512 x8_2) ∧ Aside0 (w'.heap[gb508]? = some (.cells #[.int .i64 a2_0, .int .i64 a2_1, .int .i64 a2_2, .int .i64 a2_3] 25 (0, 0))) ∧ Aside0 (Below w.heap.size w w'))
     case atStart => exact ⟨(y511), (wrap64 ((l1.length : Int) - 1)), nS, H', ⟨Nat.le_refl _⟩, ⟨by (with_reducible repeat (first | apply Kd.R_alloc | apply Kd.R_drewN | apply Kd.R_drew)); exact HO513.out⟩, ⟨by (with_reducible repeat (first | refine blk_drewN ?_ _ | refine blk_drew ?_ | refine blk_alloc ?_ _)); exact BK508.out⟩, ⟨nH1 HB.out GE508.out⟩⟩
     case round =>
      clear H'
      try clear c1; try clear p2; try clear c3; try clear c4; try clear p6; try clear c7; try clear c13; try clear c15; try clear c15b0; try clear c15b1; try clear c16; try clear c16b0; try clear c16b1; try clear hcz10_0; try clear hcz10_1; try clear hcz10_2; try clear hcz10_3; try clear hfz10_0; try clear hfz10_1; try clear hfz10_2; try clear hfz10_3; try clear p2
      obtain ⟨x8_2, x9_2, rfl, HA, HK2, HO_8, BK508, HB⟩ := hrel
      cases gk with
      | zero => exact absurd HA.out (by simp [spec_Relieve.l0])
      | succ k2 =>
       have H := HA.out; clear HA
       simp only [spec_Relieve.l0] at H
       by_cases c19 : x9_2 ≥ 0
       · rw [if_pos c19] at H
         have c19b0 : decide (0 ≤ x9_2) = true := decide_eq_true c19
         clear c19
         by_cases c20 : 0 ≤ x9_2
         rotate_left
         · (rw [if_neg c20] at H; exact absurd H (by simp))
         rw [if_pos c20] at H
         have c20b0 : decide (0 ≤ x9_2) = true := decide_eq_true c20
         clear c20
         by_cases c21 : x9_2 < (x8_2.length : Int)
         rotate_left
         · (rw [if_neg c21] at H; exact absurd H (by simp))
         rw [if_pos c21] at H
         have c21b0 : decide (x9_2 < (x8_2.length : Int)) = true := decide_eq_true c21
         clear c21
         obtain ⟨y514, hy514⟩ : ∃ y_ : List Int, y_ = (x8_2.set (x9_2 : Int).toNat (-1)) := ⟨_, rfl⟩
         replace H : (spec_Relieve.l1 k2 l0 l1 y514 x9_2 (wrap64 (x9_2 + 1)) a2_0 a2_1 a2_2 a2_3) = some (r1, r2) := by first | (rw [hy514]; with_reducible exact H) | (have H2_ := (Option.bind_some _ _).symm.trans H; rw [hy514]; with_reducible exact H2_) | (have H2_ := (Option.bind_some _ _).symm.trans H; with_reducible exact H2_) | with_reducible exact H | (rw [hy514]; exact H) | exact H
         have Ny514 := Aside0.mk hy514
         clear hy514
         have H' := Aside0.mk H
         clear H
         have p22 : 0 ≤ (x9_2 : Int) := of_decide_eq_true nQ
         have q22 : (x9_2 : Int) < ((x8_2.length : Int) : Int) := of_decide_eq_true nQ
         obtain ⟨go22, co22, eo22, gb22, gl22, cl22, HG22⟩ := Kd.R_form HO_8.out (by omega)
         (first | cases eo22 | (injection eo22 with ea_ en_ ec_; (first | subst ea_ | (injection ea_ with ea_; subst ea_)); subst ec_; clear en_))
         have GB22 := Aside0.mk gb22
         have GG22 := Aside0.mk HG22
         clear gb22 gl22 HG22
         obtain ⟨hx22_0, hf22_0⟩ := Kd.R_celln 0 HO_8.out (x9_2 : Int) p22 q22
         replace p22 := eq_true p22; replace q22 := eq_true q22
         have HP23 := Kd.R_putg HO_8.out (x9_2 : Int) (-1)
         go_wp2_with (first | ((with_reducible refine gate_store (t := 3) (p := 36) rfl ?_); refine store_event (t := 3) (p := 36) (v := ?vo_w24) (w1 := (wr.setCell ⟨go22, (x9_2 : Int).toNat, none⟩ (.int .i64 (-1)))) ?hg ?ho ?hn ?hr ?_; (case ho => rfl); (case hg => rfl); (case hn => rfl); (case hr => first | (go_simp; done) | (go_simp; rfl)); intro w24 hw; have hg : wr.grownBy w24 (some go22) := (by rw [hw]; exact HP23.2); have hp_ : Kd.R (Kd.int .i64) 3 w24 w.heap.size (fun _ => True) (.slice (some ⟨go22, 0, none⟩) x8_2.length co22) y514 := (by rw [hw, Ny514.out]; exact HP23.1); clear HP23; have n0_ := Aside0.mk (hp_); have n1_ := Aside0.mk (blk_grown (g := gb508) (o := .cells #[.int .i64 a2_0, .int .i64 a2_1, .int .i64 a2_2, .int .i64 a2_3] 25 (0, 0)) (nB BK508.out) hg (Kd.R_ne HO_8.out BK508.out (by decide))); have n2_ := Aside0.mk ((by rw [hw]; exact below_set (HB.out) GB22.out : Below w.heap.size w w24)); clear HO_8; clear BK508; clear HB; have HO_8 := n0_; have BK508 := n1_; have HB := n2_; clear n0_ n1_ n2_; clear hg hw hp_))
         go_loopg [10] k2 (fun kq v10 w' => ∃ (x8_3 : List Int) (x10_3 : Int), v10 = .int .i64 x10_3 ∧ Aside0 (spec_Relieve.l1 kq l0 l1 x8_3 x9_2 x10_3 a2_0 a2_1 a2_2 a2_3 = some (r1, r2)) ∧ Aside0 (kq ≤ k2) ∧ Aside0 (Kd.R (Kd.int .i64) 3 w' w.heap.size (fun _ => True) (.slice (some ⟨go22, 0, none⟩) x8_2.length co22) x8_3) ∧ Aside0 (w'.heap[gb508]? = some (.cells #[.int .i64 a2_0, .int .i64 a2_1, .int .i64 a2_2, .int .i64 a2_3] 25 (0, 0))) ∧ Aside0 (Below w.heap.size w w'))
         case atStart => exact ⟨(y514), (wrap64 (x9_2 + 1)), nS, H', ⟨Nat.le_refl _⟩, ⟨by (with_reducible repeat (first | apply Kd.R_alloc | apply Kd.R_drewN | apply Kd.R_drew)); exact HO_8.out⟩, ⟨by (with_reducible repeat (first | refine blk_drewN ?_ _ | refine blk_drew ?_ | refine blk_alloc ?_ _)); exact BK508.out⟩, ⟨nH1 HB.out GE508.out⟩⟩
         case round =>
          clear H'
          try clear c1; try clear c2; try clear p2; try clear q2; try clear hx2; try clear c3; try clear c4; try clear p6; try clear c7; try clear c13; try clear c15; try clear c15b0; try clear c15b1; try clear c16; try clear c16b0; try clear c16b1; try clear c19; try clear c19b0; try clear c20; try clear c20b0; try clear c21; try clear c21b0; try clear p22; try clear q22; try clear hx22; try clear hf22; try clear hcz10_0; try clear hcz10_1; try clear hcz10_2; try clear hcz10_3; try clear hfz10_0; try clear hfz10_1; try clear hfz10_2; try clear hfz10_3; try clear hx22_0; try clear p2; try clear p22
          try clear p6; try clear q22
          obtain ⟨x8_3, x10_3, rfl, HA, HK3, HO_8, BK508, HB⟩ := hrel
          have hl8_3 := (Kd.R_reads' HO_8.out).1
          rw [hl8_3] at HO_8
          (try simp only [hl8_3])
          (try simp only [hl8_3] at BK508)
          cases gk with
          | zero => exact absurd HA.out (by simp [spec_Relieve.l1])
          | succ k3 =>
           have H := HA.out; clear HA
           simp only [spec_Relieve.l1] at H
           have HC25 := Aside0.mk H
           clear H
           go_upto_region 9 with (fail)
           go_cut [48] (fun v48 wc => ∃ (kq : Nat) (x48_24 : Bool), v48 = .bool x48_24 ∧ Aside0 (spec_Relieve.j3 kq l0 l1 x8_3 x9_2 x10_3 x48_24 a2_0 a2_1 a2_2 a2_3 = some (r1, r2)) ∧ Aside0 (kq ≤ k3) ∧ Aside0 (Kd.R (Kd.int .i64) 3 wc w.heap.size (fun _ => True) (.slice (some ⟨go22, 0, none⟩) x8_3.length co22) x8_3) ∧ Aside0 (wc.heap[gb508]? = some (.cells #[.int .i64 a2_0, .int .i64 a2_1, .int .i64 a2_2, .int .i64 a2_3] 25 (0, 0))) ∧ Aside0 (Below w.heap.size w wc))
           case first =>
            have H := HC25.out; clear HC25
            by_cases c26 : x10_3 ≤ (l1.length : Int)
            · rw [if_pos c26] at H
              have c26b0 : decide (x10_3 ≤ (l1.length : Int)) = true := decide_eq_true c26
              clear c26
              (first | rw [c26b0] | (simp only [i64_w, i32_w]; rw [c26b0]) | skip)
              have H' := Aside0.mk H
              clear H; go_wp2
              go_meet
              case rel => exact ⟨_, (decide (x10_3 ≤ (wrap64 (x9_2 + 12)))), nS, H', ⟨by have := HJ3.out; have := HK2.out; have := HK3.out; first | omega | exact Nat.le_refl _⟩, ⟨by (try simp only [hl8_3]); (with_reducible repeat (first | apply Kd.R_alloc | apply Kd.R_drewN | apply Kd.R_drew)); exact HO_8.out⟩, ⟨by (try simp only [hl8_3]); (with_reducible repeat (first | refine blk_drewN ?_ _ | refine blk_drew ?_ | refine blk_alloc ?_ _)); exact BK508.out⟩, ⟨nH1 HB.out GE508.out⟩⟩
            · rw [if_neg c26] at H
              have c26b0 : decide (x10_3 ≤ (l1.length : Int)) = false := decide_eq_false c26
              clear c26
              (first | rw [c26b0] | (simp only [i64_w, i32_w]; rw [c26b0]) | skip)
              have H' := Aside0.mk H
              clear H; go_wp2
              go_meet
              case rel => exact ⟨_, (false), nS, H', ⟨by have := HJ3.out; have := HK2.out; have := HK3.out; first | omega | exact Nat.le_refl _⟩, ⟨by (try simp only [hl8_3]); (with_reducible repeat (first | apply Kd.R_alloc | apply Kd.R_drewN | apply Kd.R_drew)); exact HO_8.out⟩, ⟨by (try simp only [hl8_3]); (with_reducible repeat (first | refine blk_drewN ?_ _ | refine blk_drew ?_ | refine blk_alloc ?_ _)); exact BK508.out⟩, ⟨nH1 HB.out GE508.out⟩⟩
           case rest =>
            clear HC25; try clear c1; try clear c2; try clear p2; try clear q2; try clear hx2; try clear c3; try clear c4; try clear p6; try clear c7; try clear c13; try clear c15; try clear c15b0; try clear c15b1; try clear c16; try clear c16b0; try clear c16b1; try clear c19; try clear c19b0; try clear c20; try clear c20b0; try clear c21; try clear c21b0; try clear p22; try clear q22; try clear hx22; try clear hf22; try clear c26; try clear c26b0; try clear hcz10_0; try clear hcz10_1; try clear hcz10_2; try clear hcz10_3; try clear hfz10_0; try clear hfz10_1; try clear hfz10_2; try clear hfz10_3
            try clear hx22_0; try clear p2; try clear p22; try clear p6; try clear q2; try clear q22
            obtain ⟨kq, x48_24, rfl, HA, HJ24, HO_8, BK508, HB⟩ := hcut
            cases kq with
            | zero => exact absurd HA.out (by simp [spec_Relieve.j3])
            | succ kj24 =>
             have H := HA.out; clear HA
             simp only [spec_Relieve.j3] at H
             by_cases c27 : x48_24 = true
             · subst c27
               have H1 : (if 0 ≤ x10_3 then (if x10_3 < (x8_3.length : Int) then (if (rd x8_3 x10_3) ≥ 0 then (if 0 ≤ x9_2 then (if x9_2 ≤ x10_3 then (if x10_3 ≤ (l1.length : Int) then ((spec_DutyCode.f kj24 l0 ((l1.take (x10_3 : Int).toNat).drop (x9_2 : Int).toNat) a2_0 a2_1 a2_2 a2_3).bind fun t517 => (if t517 = 0 then (if x9_2 < (x8_3.length : Int) then (if (rd x8_3 x9_2) < 0 then (spec_Relieve.l1 kj24 l0 l1 (x8_3.set (x9_2 : Int).toNat (wrap64 ((rd x8_3 x10_3) + 1))) x9_2 (wrap64 (x10_3 + 1)) a2_0 a2_1 a2_2 a2_3) else (if (wrap64 ((rd x8_3 x10_3) + 1)) < (rd x8_3 x9_2) then (spec_Relieve.l1 kj24 l0 l1 (x8_3.set (x9_2 : Int).toNat (wrap64 ((rd x8_3 x10_3) + 1))) x9_2 (wrap64 (x10_3 + 1)) a2_0 a2_1 a2_2 a2_3) else (spec_Relieve.l1 kj24 l0 l1 x8_3 x9_2 (wrap64 (x10_3 + 1)) a2_0 a2_1 a2_2 a2_3))) else (none)) else (spec_Relieve.l1 kj24 l0 l1 x8_3 x9_2 (wrap64 (x10_3 + 1)) a2_0 a2_1 a2_2 a2_3))) else (none)) else (none)) else (none)) else (spec_Relieve.l1 kj24 l0 l1 x8_3 x9_2 (wrap64 (x10_3 + 1)) a2_0 a2_1 a2_2 a2_3)) else (none)) else (none)) = some (r1, r2) := by rw [if_pos rfl] at H; exact H
               clear H; have H := H1; clear H1
               by_cases c28 : 0 ≤ x10_3
               rotate_left
               · (rw [if_neg c28] at H; exact absurd H (by simp))
               rw [if_pos c28] at H
               have c28b0 : decide (0 ≤ x10_3) = true := decide_eq_true c28
               clear c28
               by_cases c29 : x10_3 < (x8_3.length : Int)
               rotate_left
               · (rw [if_neg c29] at H; exact absurd H (by simp))
               rw [if_pos c29] at H
               have c29b0 : decide (x10_3 < (x8_3.length : Int)) = true := decide_eq_true c29
               clear c29
               by_cases c30 : (rd x8_3 x10_3) ≥ 0
               · rw [if_pos c30] at H
                 have c30b0 : decide (0 ≤ (rd x8_3 x10_3)) = true := decide_eq_true c30
                 clear c30
                 by_cases c31 : 0 ≤ x9_2
                 rotate_left
                 · (rw [if_neg c31] at H; exact absurd H (by simp))
                 rw [if_pos c31] at H
                 have c31b0 := eq_true c31
                 have c31b1 : decide (0 ≤ x9_2) = true := decide_eq_true c31
                 clear c31
                 by_cases c32 : x9_2 ≤ x10_3
                 rotate_left
                 · (rw [if_neg c32] at H; exact absurd H (by simp))
                 rw [if_pos c32] at H
                 have c32b0 := eq_true c32
                 have c32b1 : decide (x9_2 ≤ x10_3) = true := decide_eq_true c32
                 clear c32
                 by_cases c33 : x10_3 ≤ (l1.length : Int)
                 rotate_left
                 · (rw [if_neg c33] at H; exact absurd H (by simp))
                 rw [if_pos c33] at H
                 have c33b0 := eq_true c33
                 have c33b1 : decide (x10_3 ≤ (l1.length : Int)) = true := decide_eq_true c33
                 clear c33
                 replace H := Option.bind_eq_some_iff.mp H
                 obtain ⟨t517, A340, H⟩ := H
                 replace H : (if t517 = 0 then (if x9_2 < (x8_3.length : Int) then (if (rd x8_3 x9_2) < 0 then (spec_Relieve.l1 kj24 l0 l1 (x8_3.set (x9_2 : Int).toNat (wrap64 ((rd x8_3 x10_3) + 1))) x9_2 (wrap64 (x10_3 + 1)) a2_0 a2_1 a2_2 a2_3) else (if (wrap64 ((rd x8_3 x10_3) + 1)) < (rd x8_3 x9_2) then (spec_Relieve.l1 kj24 l0 l1 (x8_3.set (x9_2 : Int).toNat (wrap64 ((rd x8_3 x10_3) + 1))) x9_2 (wrap64 (x10_3 + 1)) a2_0 a2_1 a2_2 a2_3) else (spec_Relieve.l1 kj24 l0 l1 x8_3 x9_2 (wrap64 (x10_3 + 1)) a2_0 a2_1 a2_2 a2_3))) else (none)) else (spec_Relieve.l1 kj24 l0 l1 x8_3 x9_2 (wrap64 (x10_3 + 1)) a2_0 a2_1 a2_2 a2_3)) = some (r1, r2) := H
                 have A34 := Aside0.mk A340
                 clear A340
                 by_cases c35 : t517 = 0
                 · rw [if_pos c35] at H
                   have c35b0 : (t517 == 0) = true := beq_iff_eq.mpr c35
                   have c35b1 : (t517 != 0) = false := bne_eq_false_iff_eq.mpr c35
                   clear c35
                   by_cases c36 : x9_2 < (x8_3.length : Int)
                   rotate_left
                   · (rw [if_neg c36] at H; exact absurd H (by simp))
                   rw [if_pos c36] at H
                   have c36b0 : decide (x9_2 < (x8_3.length : Int)) = true := decide_eq_true c36
                   clear c36
                   by_cases c37 : (rd x8_3 x9_2) < 0
                   · rw [if_pos c37] at H
                     have c37b0 : decide ((rd x8_3 x9_2) < 0) = true := decide_eq_true c37
                     clear c37
                     obtain ⟨y520, hy520⟩ : ∃ y_ : List Int, y_ = (x8_3.set (x9_2 : Int).toNat (wrap64 ((rd x8_3 x10_3) + 1))) := ⟨_, rfl⟩
                     replace H : (spec_Relieve.l1 kj24 l0 l1 y520 x9_2 (wrap64 (x10_3 + 1)) a2_0 a2_1 a2_2 a2_3) = some (r1, r2) := by first | (rw [hy520]; with_reducible exact H) | (have H2_ := (Option.bind_some _ _).symm.trans H; rw [hy520]; with_reducible exact H2_) | (have H2_ := (Option.bind_some _ _).symm.trans H; with_reducible exact H2_) | with_reducible exact H | (rw [hy520]; exact H) | exact H
                     have Ny520 := Aside0.mk hy520
                     clear hy520
                     have H' := Aside0.mk H
                     clear H
                     try go_wp2
                     have n0_ := Aside0.mk (Kd.R_drew HO_8.out)
                     have n1_ := Aside0.mk (blk_drew BK508.out)
                     have n2_ := Aside0.mk (below_drew1 HB.out)
                     clear HO_8; clear BK508; clear HB; have HO_8 := n0_; have BK508 := n1_; have HB := n2_; clear n0_ n1_ n2_
                     have p515 : 0 ≤ (x10_3 : Int) := of_decide_eq_true nQ
                     have q515 : x10_3 < (x8_3.length : Int) := of_decide_eq_true nQ
                     obtain ⟨ad515, e515, hx515_0⟩ := Kd.at_int (Kd.R_reads' HO_8.out).2.2 x10_3 p515 q515
                     obtain rfl : (⟨go22, 0, none⟩ : Addr) = ad515 := (by injection e515)
                     (first | simp only [add_plain] at hx515_0 | simp only [add_at] at hx515_0 | simp only [Addr.add, Nat.zero_add] at hx515_0 | skip)
                     replace p515 := eq_true p515; replace q515 := eq_true q515
                     obtain ⟨i040, hi040, _, hsz40, _⟩ := info_parts info3
                     obtain ⟨A40, hcut40, hA40, hC40⟩ := print_mid_of (P := Try.prog) (Value.int .i64) 0 29 3 .i64 .i64 Try.underlying29 hi040 hsz40 A1 c1 l1 x9_2 x10_3 (of_decide_eq_true nQ) (by first | omega | exact of_decide_eq_true nQ) (of_decide_eq_true nQ) HC1.out
                     have HR516 := Aside0.mk (Kd.C_of_reads (h1 := fun _ => rfl) (hA40 _ (Kd.reads_of_C HR1.out)))
                     have HC516 := Aside0.mk hC40
                     clear hA40 hC40 hi040 hsz40
                     have p518 : 0 ≤ (x9_2 : Int) := of_decide_eq_true nQ
                     have q518 : x9_2 < (x8_3.length : Int) := of_decide_eq_true nQ
                     obtain ⟨ad518, e518, hx518_0⟩ := Kd.at_int (Kd.R_reads' HO_8.out).2.2 x9_2 p518 q518
                     obtain rfl : (⟨go22, 0, none⟩ : Addr) = ad518 := (by injection e518)
                     (first | simp only [add_plain] at hx518_0 | simp only [add_at] at hx518_0 | simp only [Addr.add, Nat.zero_add] at hx518_0 | skip)
                     replace p518 := eq_true p518; replace q518 := eq_true q518
                     refine start_ (n := 34) (S := fun w' => w'.cell? ⟨gb508, 0, none⟩ = some (.int .i64 a2_0) ∧ w'.cell? ⟨gb508, 1, none⟩ = some (.int .i64 a2_1) ∧ w'.cell? ⟨gb508, 2, none⟩ = some (.int .i64 a2_2) ∧ w'.cell? ⟨gb508, 3, none⟩ = some (.int .i64 a2_3) ∧ w'.cell? ⟨go22, (x10_3).toNat, none⟩ = some (.int .i64 (rd x8_3 x10_3)) ∧ w'.cell? ⟨go22, (x9_2).toNat, none⟩ = some (.int .i64 (rd x8_3 x9_2))) (ds := []) #[F,F,F,F,F,F,F,F,F,F,F,F,F,F,F,F,F,F,F,F,F,F,F,F,F,F,F,F,F,F,F,F,F,F] (by kernel_rfl) rfl rfl ⟨(blk_cell BK508.out 0).trans rfl, (blk_cell BK508.out 1).trans rfl, (blk_cell BK508.out 2).trans rfl, (blk_cell BK508.out 3).trans rfl, hx515_0, hx518_0⟩ (fun hHeld => ?_); refine with_tabW spec_Relieve.tab11 spec_Relieve.bits11 (fun HT_ HW_ => ?_)
                     generalize wc.drew = w39 at HO_8 BK508 HB HR516 hx515_0 hx518_0 hHeld ⊢
                     refine pU 0 (some 51) #[T,F,F,F,F,F,F,F,F,F,F,F,F,F,F,F,F,F,F,F,F,F,F,F,F,F,F,F,F,F,F,F,F,F] rfl rfl HT_.out ?_
                     refine pU 1 (some 52) #[T,T,F,F,F,F,F,F,F,F,F,F,F,F,F,F,F,F,F,F,F,F,F,F,F,F,F,F,F,F,F,F,F,F] rfl rfl HT_.out ?_
                     refine pU 2 (some 53) #[T,T,T,F,F,F,F,F,F,F,F,F,F,F,F,F,F,F,F,F,F,F,F,F,F,F,F,F,F,F,F,F,F,F] rfl rfl HT_.out ?_
                     refine tU6 3 (some 54) #[T,T,T,T,F,F,F,F,F,F,F,F,F,F,F,F,F,F,F,F,F,F,F,F,F,F,F,F,F,F,F,F,F,F] rfl rfl HT_.out HW_.out hHeld ?_
                     refine pU 4 (some 55) #[T,T,T,T,T,F,F,F,F,F,F,F,F,F,F,F,F,F,F,F,F,F,F,F,F,F,F,F,F,F,F,F,F,F] rfl rfl HT_.out ?_
                     refine pU 5 (some 56) #[T,T,T,T,T,T,F,F,F,F,F,F,F,F,F,F,F,F,F,F,F,F,F,F,F,F,F,F,F,F,F,F,F,F] rfl rfl HT_.out ?_
                     refine pU 6 (some 57) #[T,T,T,T,T,T,T,F,F,F,F,F,F,F,F,F,F,F,F,F,F,F,F,F,F,F,F,F,F,F,F,F,F,F] rfl rfl HT_.out ?_
                     refine pU 7 (some 58) #[T,T,T,T,T,T,T,T,F,F,F,F,F,F,F,F,F,F,F,F,F,F,F,F,F,F,F,F,F,F,F,F,F,F] rfl rfl HT_.out ?_
                     refine pU 8 (some 59) #[T,T,T,T,T,T,T,T,T,F,F,F,F,F,F,F,F,F,F,F,F,F,F,F,F,F,F,F,F,F,F,F,F,F] rfl rfl HT_.out ?_
                     refine pU 9 (some 60) #[T,T,T,T,T,T,T,T,T,T,F,F,F,F,F,F,F,F,F,F,F,F,F,F,F,F,F,F,F,F,F,F,F,F] rfl rfl HT_.out ?_
                     refine pU 10 (some 61) #[T,T,T,T,T,T,T,T,T,T,T,F,F,F,F,F,F,F,F,F,F,F,F,F,F,F,F,F,F,F,F,F,F,F] rfl rfl HT_.out ?_
                     refine tU6 11 (some 62) #[T,T,T,T,T,T,T,T,T,T,T,T,F,F,F,F,F,F,F,F,F,F,F,F,F,F,F,F,F,F,F,F,F,F] rfl rfl HT_.out HW_.out hHeld ?_
                     refine one_ (i := 12) (N := some 63) #[T,T,T,T,T,T,T,T,T,T,T,T,T,F,F,F,F,F,F,F,F,F,F,F,F,F,F,F,F,F,F,F,F,F] rfl rfl (one_of HT_.out (by kernel_rfl)) (by decide) (fun K hK => ?_)
                     refine goes_ Try.func22 (by kernel_rfl) rfl #[.slice A0 l0.length c0, .slice A40 ((l1.take (x10_3 : Int).toNat).drop (x9_2 : Int).toNat).length (c1 - x9_2.toNat), .agg #[.int .i64 a2_0, .int .i64 a2_1, .int .i64 a2_2, .int .i64 a2_3]] (by rfl) rfl rfl (by (try simp only [List.map_toArray, List.map_cons, List.map_nil]); first | done | (rw [show ((l1.take (x10_3 : Int).toNat).drop (x9_2 : Int).toNat).length = (x10_3.toNat - x9_2.toNat) from (by rw [List.length_drop, List.length_take]; have h_ : (x10_3 : Int) ≤ (l1.length : Int) := of_decide_eq_true nQ; omega)] <;> rfl) | rfl | (simp only [List.length_drop, List.length_take]; rfl)) ?_
                     with_reducible refine (spec_DutyCode.calls kj24 _ _ l0 _ _ ((l1.take (x10_3 : Int).toNat).drop (x9_2 : Int).toNat) a2_0 a2_1 a2_2 a2_3 t517 _ ?side1 ?side2 ?side3 ?side4 A34.out).mono ?_
                     (case side1 => repeat (first | exact (Kd.C_below HR0.out HB.out) | (with_reducible refine Kd.C_alloc ?_ _) | (with_reducible refine Kd.C_drewN ?_ _) | (with_reducible refine Kd.C_drew ?_)))
                     (case side2 => exact HC0.out)
                     (case side3 => repeat (first | exact (Kd.C_below HR516.out HB.out) | (with_reducible refine Kd.C_alloc ?_ _) | (with_reducible refine Kd.C_drewN ?_ _) | (with_reducible refine Kd.C_drew ?_)))
                     (case side4 => exact HC516.out)
                     rintro e w41 ⟨rfl, hb⟩
                     have HS4_ := (hb.cell (World.block_lt_of_cell? _ _ (hHeld.2.2.2.2.1))).trans (hHeld.2.2.2.2.1)
                     have HS5_ := (hb.cell (World.block_lt_of_cell? _ _ (hHeld.2.2.2.2.2))).trans (hHeld.2.2.2.2.2)
                     refine ⟨_, rfl, ?_⟩
                     have n0_ := Aside0.mk (Kd.R_below (nR HO_8.out) hb)
                     have n1_ := Aside0.mk (blk_below (g := gb508) (o := .cells #[.int .i64 a2_0, .int .i64 a2_1, .int .i64 a2_2, .int .i64 a2_3] 25 (0, 0)) (nB BK508.out) hb)
                     have n2_ := Aside0.mk (below_step (nH1 HB.out GE508.out) hb)
                     clear HO_8; clear BK508; clear HB; have HO_8 := n0_; have BK508 := n1_; have HB := n2_; clear n0_ n1_ n2_; (try clear hb); (try clear hb2); (try clear hk); (try clear hi)
                     refine hK.out _ _ ⟨(blk_cell BK508.out 0).trans rfl, (blk_cell BK508.out 1).trans rfl, (blk_cell BK508.out 2).trans rfl, (blk_cell BK508.out 3).trans rfl, HS4_, HS5_⟩ (fun hHeld => ?_)
                     clear hK K
                     refine norm_ (a' := ?_) ?_ ?_
                     rotate_left
                     · show Act.put _ (some 63) _ = _
                       simp only [Act.put, List.setIfInBounds_toArray, List.set_cons_zero, List.set_cons_succ, i64_w, i32_w]
                       rfl
                     refine pU 13 (some 64) #[T,T,T,T,T,T,T,T,T,T,T,T,T,T,F,F,F,F,F,F,F,F,F,F,F,F,F,F,F,F,F,F,F,F] rfl rfl HT_.out ?_
                     refine pU 14 (some 65) #[T,T,T,T,T,T,T,T,T,T,T,T,T,T,T,F,F,F,F,F,F,F,F,F,F,F,F,F,F,F,F,F,F,F] rfl rfl HT_.out ?_
                     refine pU 15 (some 66) #[T,T,T,T,T,T,T,T,T,T,T,T,T,T,T,T,F,F,F,F,F,F,F,F,F,F,F,F,F,F,F,F,F,F] rfl rfl HT_.out ?_
                     refine pU 16 (some 67) #[T,T,T,T,T,T,T,T,T,T,T,T,T,T,T,T,T,F,F,F,F,F,F,F,F,F,F,F,F,F,F,F,F,F] rfl rfl HT_.out ?_
                     refine pU 17 (some 68) #[T,T,T,T,T,T,T,T,T,T,T,T,T,T,T,T,T,T,F,F,F,F,F,F,F,F,F,F,F,F,F,F,F,F] rfl rfl HT_.out ?_
                     refine pU 18 (some 69) #[T,T,T,T,T,T,T,T,T,T,T,T,T,T,T,T,T,T,T,F,F,F,F,F,F,F,F,F,F,F,F,F,F,F] rfl rfl HT_.out ?_
                     refine tU6 19 (some 70) #[T,T,T,T,T,T,T,T,T,T,T,T,T,T,T,T,T,T,T,T,F,F,F,F,F,F,F,F,F,F,F,F,F,F] rfl rfl HT_.out HW_.out hHeld ?_
                     refine pU 20 (some 71) #[T,T,T,T,T,T,T,T,T,T,T,T,T,T,T,T,T,T,T,T,T,F,F,F,F,F,F,F,F,F,F,F,F,F] rfl rfl HT_.out ?_
                     refine pU 21 (some 72) #[T,T,T,T,T,T,T,T,T,T,T,T,T,T,T,T,T,T,T,T,T,T,F,F,F,F,F,F,F,F,F,F,F,F] rfl rfl HT_.out ?_
                     refine pV 22 (some 73) #[T,T,T,T,T,T,T,T,T,T,T,T,T,T,T,T,T,T,T,T,T,T,T,F,F,F,F,F,F,F,F,F,F,F] rfl rfl HT_.out ?_
                     refine pV 23 (some 74) #[T,T,T,T,T,T,T,T,T,T,T,T,T,T,T,T,T,T,T,T,T,T,T,T,F,F,F,F,F,F,F,F,F,F] rfl rfl HT_.out ?_
                     refine pV 24 (some 75) #[T,T,T,T,T,T,T,T,T,T,T,T,T,T,T,T,T,T,T,T,T,T,T,T,T,F,F,F,F,F,F,F,F,F] rfl rfl HT_.out ?_
                     refine pV 25 (some 76) #[T,T,T,T,T,T,T,T,T,T,T,T,T,T,T,T,T,T,T,T,T,T,T,T,T,T,F,F,F,F,F,F,F,F] rfl rfl HT_.out ?_
                     refine pV 26 (some 77) #[T,T,T,T,T,T,T,T,T,T,T,T,T,T,T,T,T,T,T,T,T,T,T,T,T,T,T,F,F,F,F,F,F,F] rfl rfl HT_.out ?_
                     refine pV 27 (some 78) #[T,T,T,T,T,T,T,T,T,T,T,T,T,T,T,T,T,T,T,T,T,T,T,T,T,T,T,T,F,F,F,F,F,F] rfl rfl HT_.out ?_
                     refine pV 28 (some 79) #[T,T,T,T,T,T,T,T,T,T,T,T,T,T,T,T,T,T,T,T,T,T,T,T,T,T,T,T,T,F,F,F,F,F] rfl rfl HT_.out ?_
                     refine pV 29 (some 80) #[T,T,T,T,T,T,T,T,T,T,T,T,T,T,T,T,T,T,T,T,T,T,T,T,T,T,T,T,T,T,F,F,F,F] rfl rfl HT_.out ?_
                     refine pV 30 (some 81) #[T,T,T,T,T,T,T,T,T,T,T,T,T,T,T,T,T,T,T,T,T,T,T,T,T,T,T,T,T,T,T,F,F,F] rfl rfl HT_.out ?_
                     refine pV 31 (some 82) #[T,T,T,T,T,T,T,T,T,T,T,T,T,T,T,T,T,T,T,T,T,T,T,T,T,T,T,T,T,T,T,T,F,F] rfl rfl HT_.out ?_
                     refine pU 32 (some 83) #[T,T,T,T,T,T,T,T,T,T,T,T,T,T,T,T,T,T,T,T,T,T,T,T,T,T,T,T,T,T,T,T,T,F] rfl rfl HT_.out ?_
                     refine pU 33 (some 84) #[T,T,T,T,T,T,T,T,T,T,T,T,T,T,T,T,T,T,T,T,T,T,T,T,T,T,T,T,T,T,T,T,T,T] rfl rfl HT_.out ?_
                     refine done_ (done_of HT_.out (by kernel_rfl)) ?_
                     have p519 : 0 ≤ (x10_3 : Int) := of_decide_eq_true nQ
                     have q519 : x10_3 < (x8_3.length : Int) := of_decide_eq_true nQ
                     obtain ⟨ad519, e519, hx519_0⟩ := Kd.at_int (Kd.R_reads' HO_8.out).2.2 x10_3 p519 q519
                     obtain rfl : (⟨go22, 0, none⟩ : Addr) = ad519 := (by injection e519)
                     (first | simp only [add_plain] at hx519_0 | simp only [add_at] at hx519_0 | simp only [Addr.add, Nat.zero_add] at hx519_0 | skip)
                     replace p519 := eq_true p519; replace q519 := eq_true q519
                     have p38 : 0 ≤ (x9_2 : Int) := of_decide_eq_true nQ
                     have q38 : (x9_2 : Int) < ((x8_3.length : Int) : Int) := of_decide_eq_true nQ
                     obtain ⟨hx38_0, hf38_0⟩ := Kd.R_celln 0 HO_8.out (x9_2 : Int) p38 q38
                     replace p38 := eq_true p38; replace q38 := eq_true q38
                     obtain ⟨hy42_, hz42_⟩ := Kd.R_celln 0 HO_8.out (x9_2 : Int) (of_decide_eq_true nQ) (of_decide_eq_true nQ)
                     have HP42 := Kd.R_putg HO_8.out (x9_2 : Int) (wrap64 ((rd x8_3 x10_3) + 1))
                     try go_wp2_with (first | ((with_reducible refine gate_store (t := 3) (p := 92) rfl ?_); refine store_event (t := 3) (p := 92) (v := ?vo_w43) (w1 := (w41.setCell ⟨go22, (x9_2 : Int).toNat, none⟩ (.int .i64 (wrap64 ((rd x8_3 x10_3) + 1))))) ?hg ?ho ?hn ?hr ?_; (case ho => rfl); (case hg => rfl); (case hn => rfl); (case hr => first | (go_simp; done) | (go_simp; rfl)); intro w43 hw; have hg : w41.grownBy w43 (some go22) := (by rw [hw]; exact HP42.2); have hp_ : Kd.R (Kd.int .i64) 3 w43 w.heap.size (fun _ => True) (.slice (some ⟨go22, 0, none⟩) x8_3.length co22) y520 := (by rw [hw, Ny520.out]; exact HP42.1); clear HP42; have n0_ := Aside0.mk (hp_); have n1_ := Aside0.mk (blk_grown (g := gb508) (o := .cells #[.int .i64 a2_0, .int .i64 a2_1, .int .i64 a2_2, .int .i64 a2_3] 25 (0, 0)) (nB BK508.out) hg (Kd.R_ne HO_8.out BK508.out (by decide))); have n2_ := Aside0.mk ((by rw [hw]; exact below_set (HB.out) GB22.out : Below w.heap.size w w43)); clear HO_8; clear BK508; clear HB; have HO_8 := n0_; have BK508 := n1_; have HB := n2_; clear n0_ n1_ n2_; clear hg hw hp_))
                     (try simp only [← hl8_3])
                     go_roundg kj24
                     case measure => have := HJ3.out; have := HK2.out; have := HK3.out; have := HJ24.out; omega
                     case rel => exact ⟨(y520), (wrap64 (x10_3 + 1)), nS, H', ⟨by have := HJ3.out; have := HK2.out; have := HK3.out; have := HJ24.out; omega⟩, ⟨by (try simp only [hl8_3]); (with_reducible repeat (first | apply Kd.R_alloc | apply Kd.R_drewN | apply Kd.R_drew)); exact HO_8.out⟩, ⟨by (try simp only [hl8_3]); (with_reducible repeat (first | refine blk_drewN ?_ _ | refine blk_drew ?_ | refine blk_alloc ?_ _)); exact BK508.out⟩, ⟨nH1 HB.out GE508.out⟩⟩
                   · rw [if_neg c37] at H
                     have c37b0 : decide ((rd x8_3 x9_2) < 0) = false := decide_eq_false c37
                     clear c37
                     by_cases c44 : (wrap64 ((rd x8_3 x10_3) + 1)) < (rd x8_3 x9_2)
                     · rw [if_pos c44] at H
                       have c44b0 : decide ((wrap64 ((rd x8_3 x10_3) + 1)) < (rd x8_3 x9_2)) = true := decide_eq_true c44
                       clear c44
                       obtain ⟨y524, hy524⟩ : ∃ y_ : List Int, y_ = (x8_3.set (x9_2 : Int).toNat (wrap64 ((rd x8_3 x10_3) + 1))) := ⟨_, rfl⟩
                       replace H : (spec_Relieve.l1 kj24 l0 l1 y524 x9_2 (wrap64 (x10_3 + 1)) a2_0 a2_1 a2_2 a2_3) = some (r1, r2) := by first | (rw [hy524]; with_reducible exact H) | (have H2_ := (Option.bind_some _ _).symm.trans H; rw [hy524]; with_reducible exact H2_) | (have H2_ := (Option.bind_some _ _).symm.trans H; with_reducible exact H2_) | with_reducible exact H | (rw [hy524]; exact H) | exact H
                       have Ny524 := Aside0.mk hy524
                       clear hy524
                       have H' := Aside0.mk H
                       clear H
                       try go_wp2
                       have n0_ := Aside0.mk (Kd.R_drew HO_8.out)
                       have n1_ := Aside0.mk (blk_drew BK508.out)
                       have n2_ := Aside0.mk (below_drew1 HB.out)
                       clear HO_8; clear BK508; clear HB; have HO_8 := n0_; have BK508 := n1_; have HB := n2_; clear n0_ n1_ n2_
                       have p515 : 0 ≤ (x10_3 : Int) := of_decide_eq_true nQ
                       have q515 : x10_3 < (x8_3.length : Int) := of_decide_eq_true nQ
                       obtain ⟨ad515, e515, hx515_0⟩ := Kd.at_int (Kd.R_reads' HO_8.out).2.2 x10_3 p515 q515
                       obtain rfl : (⟨go22, 0, none⟩ : Addr) = ad515 := (by injection e515)
                       (first | simp only [add_plain] at hx515_0 | simp only [add_at] at hx515_0 | simp only [Addr.add, Nat.zero_add] at hx515_0 | skip)
                       replace p515 := eq_true p515; replace q515 := eq_true q515
                       obtain ⟨i047, hi047, _, hsz47, _⟩ := info_parts info3
                       obtain ⟨A47, hcut47, hA47, hC47⟩ := print_mid_of (P := Try.prog) (Value.int .i64) 0 29 3 .i64 .i64 Try.underlying29 hi047 hsz47 A1 c1 l1 x9_2 x10_3 (of_decide_eq_true nQ) (by first | omega | exact of_decide_eq_true nQ) (of_decide_eq_true nQ) HC1.out
                       have HR516 := Aside0.mk (Kd.C_of_reads (h1 := fun _ => rfl) (hA47 _ (Kd.reads_of_C HR1.out)))
                       have HC516 := Aside0.mk hC47
                       clear hA47 hC47 hi047 hsz47
                       have p518 : 0 ≤ (x9_2 : Int) := of_decide_eq_true nQ
                       have q518 : x9_2 < (x8_3.length : Int) := of_decide_eq_true nQ
                       obtain ⟨ad518, e518, hx518_0⟩ := Kd.at_int (Kd.R_reads' HO_8.out).2.2 x9_2 p518 q518
                       obtain rfl : (⟨go22, 0, none⟩ : Addr) = ad518 := (by injection e518)
                       (first | simp only [add_plain] at hx518_0 | simp only [add_at] at hx518_0 | simp only [Addr.add, Nat.zero_add] at hx518_0 | skip)
                       replace p518 := eq_true p518; replace q518 := eq_true q518
                       have p521 : 0 ≤ (x10_3 : Int) := of_decide_eq_true nQ
                       have q521 : x10_3 < (x8_3.length : Int) := of_decide_eq_true nQ
                       obtain ⟨ad521, e521, hx521_0⟩ := Kd.at_int (Kd.R_reads' HO_8.out).2.2 x10_3 p521 q521
                       obtain rfl : (⟨go22, 0, none⟩ : Addr) = ad521 := (by injection e521)
                       (first | simp only [add_plain] at hx521_0 | simp only [add_at] at hx521_0 | simp only [Addr.add, Nat.zero_add] at hx521_0 | skip)
                       replace p521 := eq_true p521; replace q521 := eq_true q521
                       have p522 : 0 ≤ (x9_2 : Int) := of_decide_eq_true nQ
                       have q522 : x9_2 < (x8_3.length : Int) := of_decide_eq_true nQ
                       obtain ⟨ad522, e522, hx522_0⟩ := Kd.at_int (Kd.R_reads' HO_8.out).2.2 x9_2 p522 q522
                       obtain rfl : (⟨go22, 0, none⟩ : Addr) = ad522 := (by injection e522)
                       (first | simp only [add_plain] at hx522_0 | simp only [add_at] at hx522_0 | simp only [Addr.add, Nat.zero_add] at hx522_0 | skip)
                       replace p522 := eq_true p522; replace q522 := eq_true q522
                       refine start_ (n := 34) (S := fun w' => w'.cell? ⟨gb508, 0, none⟩ = some (.int .i64 a2_0) ∧ w'.cell? ⟨gb508, 1, none⟩ = some (.int .i64 a2_1) ∧ w'.cell? ⟨gb508, 2, none⟩ = some (.int .i64 a2_2) ∧ w'.cell? ⟨gb508, 3, none⟩ = some (.int .i64 a2_3) ∧ w'.cell? ⟨go22, (x10_3).toNat, none⟩ = some (.int .i64 (rd x8_3 x10_3)) ∧ w'.cell? ⟨go22, (x9_2).toNat, none⟩ = some (.int .i64 (rd x8_3 x9_2)) ∧ w'.cell? ⟨go22, (x10_3).toNat, none⟩ = some (.int .i64 (rd x8_3 x10_3)) ∧ w'.cell? ⟨go22, (x9_2).toNat, none⟩ = some (.int .i64 (rd x8_3 x9_2))) (ds := []) #[F,F,F,F,F,F,F,F,F,F,F,F,F,F,F,F,F,F,F,F,F,F,F,F,F,F,F,F,F,F,F,F,F,F] (by kernel_rfl) rfl rfl ⟨(blk_cell BK508.out 0).trans rfl, (blk_cell BK508.out 1).trans rfl, (blk_cell BK508.out 2).trans rfl, (blk_cell BK508.out 3).trans rfl, hx515_0, hx518_0, hx521_0, hx522_0⟩ (fun hHeld => ?_); refine with_tabW spec_Relieve.tab11 spec_Relieve.bits11 (fun HT_ HW_ => ?_)
                       generalize wc.drew = w46 at HO_8 BK508 HB HR516 hx515_0 hx518_0 hx521_0 hx522_0 hHeld ⊢
                       refine pU 0 (some 51) #[T,F,F,F,F,F,F,F,F,F,F,F,F,F,F,F,F,F,F,F,F,F,F,F,F,F,F,F,F,F,F,F,F,F] rfl rfl HT_.out ?_
                       refine pU 1 (some 52) #[T,T,F,F,F,F,F,F,F,F,F,F,F,F,F,F,F,F,F,F,F,F,F,F,F,F,F,F,F,F,F,F,F,F] rfl rfl HT_.out ?_
                       refine pU 2 (some 53) #[T,T,T,F,F,F,F,F,F,F,F,F,F,F,F,F,F,F,F,F,F,F,F,F,F,F,F,F,F,F,F,F,F,F] rfl rfl HT_.out ?_
                       refine tU8 3 (some 54) #[T,T,T,T,F,F,F,F,F,F,F,F,F,F,F,F,F,F,F,F,F,F,F,F,F,F,F,F,F,F,F,F,F,F] rfl rfl HT_.out HW_.out hHeld ?_
                       refine pU 4 (some 55) #[T,T,T,T,T,F,F,F,F,F,F,F,F,F,F,F,F,F,F,F,F,F,F,F,F,F,F,F,F,F,F,F,F,F] rfl rfl HT_.out ?_
                       refine pU 5 (some 56) #[T,T,T,T,T,T,F,F,F,F,F,F,F,F,F,F,F,F,F,F,F,F,F,F,F,F,F,F,F,F,F,F,F,F] rfl rfl HT_.out ?_
                       refine pU 6 (some 57) #[T,T,T,T,T,T,T,F,F,F,F,F,F,F,F,F,F,F,F,F,F,F,F,F,F,F,F,F,F,F,F,F,F,F] rfl rfl HT_.out ?_
                       refine pU 7 (some 58) #[T,T,T,T,T,T,T,T,F,F,F,F,F,F,F,F,F,F,F,F,F,F,F,F,F,F,F,F,F,F,F,F,F,F] rfl rfl HT_.out ?_
                       refine pU 8 (some 59) #[T,T,T,T,T,T,T,T,T,F,F,F,F,F,F,F,F,F,F,F,F,F,F,F,F,F,F,F,F,F,F,F,F,F] rfl rfl HT_.out ?_
                       refine pU 9 (some 60) #[T,T,T,T,T,T,T,T,T,T,F,F,F,F,F,F,F,F,F,F,F,F,F,F,F,F,F,F,F,F,F,F,F,F] rfl rfl HT_.out ?_
                       refine pU 10 (some 61) #[T,T,T,T,T,T,T,T,T,T,T,F,F,F,F,F,F,F,F,F,F,F,F,F,F,F,F,F,F,F,F,F,F,F] rfl rfl HT_.out ?_
                       refine tU8 11 (some 62) #[T,T,T,T,T,T,T,T,T,T,T,T,F,F,F,F,F,F,F,F,F,F,F,F,F,F,F,F,F,F,F,F,F,F] rfl rfl HT_.out HW_.out hHeld ?_
                       refine one_ (i := 12) (N := some 63) #[T,T,T,T,T,T,T,T,T,T,T,T,T,F,F,F,F,F,F,F,F,F,F,F,F,F,F,F,F,F,F,F,F,F] rfl rfl (one_of HT_.out (by kernel_rfl)) (by decide) (fun K hK => ?_)
                       refine goes_ Try.func22 (by kernel_rfl) rfl #[.slice A0 l0.length c0, .slice A47 ((l1.take (x10_3 : Int).toNat).drop (x9_2 : Int).toNat).length (c1 - x9_2.toNat), .agg #[.int .i64 a2_0, .int .i64 a2_1, .int .i64 a2_2, .int .i64 a2_3]] (by rfl) rfl rfl (by (try simp only [List.map_toArray, List.map_cons, List.map_nil]); first | done | (rw [show ((l1.take (x10_3 : Int).toNat).drop (x9_2 : Int).toNat).length = (x10_3.toNat - x9_2.toNat) from (by rw [List.length_drop, List.length_take]; have h_ : (x10_3 : Int) ≤ (l1.length : Int) := of_decide_eq_true nQ; omega)] <;> rfl) | rfl | (simp only [List.length_drop, List.length_take]; rfl)) ?_
                       with_reducible refine (spec_DutyCode.calls kj24 _ _ l0 _ _ ((l1.take (x10_3 : Int).toNat).drop (x9_2 : Int).toNat) a2_0 a2_1 a2_2 a2_3 t517 _ ?side1 ?side2 ?side3 ?side4 A34.out).mono ?_
                       (case side1 => repeat (first | exact (Kd.C_below HR0.out HB.out) | (with_reducible refine Kd.C_alloc ?_ _) | (with_reducible refine Kd.C_drewN ?_ _) | (with_reducible refine Kd.C_drew ?_)))
                       (case side2 => exact HC0.out)
                       (case side3 => repeat (first | exact (Kd.C_below HR516.out HB.out) | (with_reducible refine Kd.C_alloc ?_ _) | (with_reducible refine Kd.C_drewN ?_ _) | (with_reducible refine Kd.C_drew ?_)))
                       (case side4 => exact HC516.out)
                       rintro e w48 ⟨rfl, hb⟩
                       have HS4_ := (hb.cell (World.block_lt_of_cell? _ _ (hHeld.2.2.2.2.1))).trans (hHeld.2.2.2.2.1)
                       have HS5_ := (hb.cell (World.block_lt_of_cell? _ _ (hHeld.2.2.2.2.2.1))).trans (hHeld.2.2.2.2.2.1)
                       have HS6_ := (hb.cell (World.block_lt_of_cell? _ _ (hHeld.2.2.2.2.2.2.1))).trans (hHeld.2.2.2.2.2.2.1)
                       have HS7_ := (hb.cell (World.block_lt_of_cell? _ _ (hHeld.2.2.2.2.2.2.2))).trans (hHeld.2.2.2.2.2.2.2)
                       refine ⟨_, rfl, ?_⟩
                       have n0_ := Aside0.mk (Kd.R_below (nR HO_8.out) hb)
                       have n1_ := Aside0.mk (blk_below (g := gb508) (o := .cells #[.int .i64 a2_0, .int .i64 a2_1, .int .i64 a2_2, .int .i64 a2_3] 25 (0, 0)) (nB BK508.out) hb)
                       have n2_ := Aside0.mk (below_step (nH1 HB.out GE508.out) hb)
                       clear HO_8; clear BK508; clear HB; have HO_8 := n0_; have BK508 := n1_; have HB := n2_; clear n0_ n1_ n2_; (try clear hb); (try clear hb2); (try clear hk); (try clear hi)
                       refine hK.out _ _ ⟨(blk_cell BK508.out 0).trans rfl, (blk_cell BK508.out 1).trans rfl, (blk_cell BK508.out 2).trans rfl, (blk_cell BK508.out 3).trans rfl, HS4_, HS5_, HS6_, HS7_⟩ (fun hHeld => ?_)
                       clear hK K
                       refine norm_ (a' := ?_) ?_ ?_
                       rotate_left
                       · show Act.put _ (some 63) _ = _
                         simp only [Act.put, List.setIfInBounds_toArray, List.set_cons_zero, List.set_cons_succ, i64_w, i32_w]
                         rfl
                       refine pU 13 (some 64) #[T,T,T,T,T,T,T,T,T,T,T,T,T,T,F,F,F,F,F,F,F,F,F,F,F,F,F,F,F,F,F,F,F,F] rfl rfl HT_.out ?_
                       refine pU 14 (some 65) #[T,T,T,T,T,T,T,T,T,T,T,T,T,T,T,F,F,F,F,F,F,F,F,F,F,F,F,F,F,F,F,F,F,F] rfl rfl HT_.out ?_
                       refine pU 15 (some 66) #[T,T,T,T,T,T,T,T,T,T,T,T,T,T,T,T,F,F,F,F,F,F,F,F,F,F,F,F,F,F,F,F,F,F] rfl rfl HT_.out ?_
                       refine pU 16 (some 67) #[T,T,T,T,T,T,T,T,T,T,T,T,T,T,T,T,T,F,F,F,F,F,F,F,F,F,F,F,F,F,F,F,F,F] rfl rfl HT_.out ?_
                       refine pU 17 (some 68) #[T,T,T,T,T,T,T,T,T,T,T,T,T,T,T,T,T,T,F,F,F,F,F,F,F,F,F,F,F,F,F,F,F,F] rfl rfl HT_.out ?_
                       refine pU 18 (some 69) #[T,T,T,T,T,T,T,T,T,T,T,T,T,T,T,T,T,T,T,F,F,F,F,F,F,F,F,F,F,F,F,F,F,F] rfl rfl HT_.out ?_
                       refine tU8 19 (some 70) #[T,T,T,T,T,T,T,T,T,T,T,T,T,T,T,T,T,T,T,T,F,F,F,F,F,F,F,F,F,F,F,F,F,F] rfl rfl HT_.out HW_.out hHeld ?_
                       refine pU 20 (some 71) #[T,T,T,T,T,T,T,T,T,T,T,T,T,T,T,T,T,T,T,T,T,F,F,F,F,F,F,F,F,F,F,F,F,F] rfl rfl HT_.out ?_
                       refine pU 21 (some 72) #[T,T,T,T,T,T,T,T,T,T,T,T,T,T,T,T,T,T,T,T,T,T,F,F,F,F,F,F,F,F,F,F,F,F] rfl rfl HT_.out ?_
                       refine pU 22 (some 73) #[T,T,T,T,T,T,T,T,T,T,T,T,T,T,T,T,T,T,T,T,T,T,T,F,F,F,F,F,F,F,F,F,F,F] rfl rfl HT_.out ?_
                       refine pU 23 (some 74) #[T,T,T,T,T,T,T,T,T,T,T,T,T,T,T,T,T,T,T,T,T,T,T,T,F,F,F,F,F,F,F,F,F,F] rfl rfl HT_.out ?_
                       refine pU 24 (some 75) #[T,T,T,T,T,T,T,T,T,T,T,T,T,T,T,T,T,T,T,T,T,T,T,T,T,F,F,F,F,F,F,F,F,F] rfl rfl HT_.out ?_
                       refine pU 27 (some 78) #[T,T,T,T,T,T,T,T,T,T,T,T,T,T,T,T,T,T,T,T,T,T,T,T,T,F,F,T,F,F,F,F,F,F] rfl rfl HT_.out ?_
                       refine pU 28 (some 79) #[T,T,T,T,T,T,T,T,T,T,T,T,T,T,T,T,T,T,T,T,T,T,T,T,T,F,F,T,T,F,F,F,F,F] rfl rfl HT_.out ?_
                       refine pU 29 (some 80) #[T,T,T,T,T,T,T,T,T,T,T,T,T,T,T,T,T,T,T,T,T,T,T,T,T,F,F,T,T,T,F,F,F,F] rfl rfl HT_.out ?_
                       refine tU8 25 (some 76) #[T,T,T,T,T,T,T,T,T,T,T,T,T,T,T,T,T,T,T,T,T,T,T,T,T,T,F,T,T,T,F,F,F,F] rfl rfl HT_.out HW_.out hHeld ?_
                       refine pU 26 (some 77) #[T,T,T,T,T,T,T,T,T,T,T,T,T,T,T,T,T,T,T,T,T,T,T,T,T,T,T,T,T,T,F,F,F,F] rfl rfl HT_.out ?_
                       refine tU8 30 (some 81) #[T,T,T,T,T,T,T,T,T,T,T,T,T,T,T,T,T,T,T,T,T,T,T,T,T,T,T,T,T,T,T,F,F,F] rfl rfl HT_.out HW_.out hHeld ?_
                       refine pU 31 (some 82) #[T,T,T,T,T,T,T,T,T,T,T,T,T,T,T,T,T,T,T,T,T,T,T,T,T,T,T,T,T,T,T,T,F,F] rfl rfl HT_.out ?_
                       refine pU 32 (some 83) #[T,T,T,T,T,T,T,T,T,T,T,T,T,T,T,T,T,T,T,T,T,T,T,T,T,T,T,T,T,T,T,T,T,F] rfl rfl HT_.out ?_
                       refine pU 33 (some 84) #[T,T,T,T,T,T,T,T,T,T,T,T,T,T,T,T,T,T,T,T,T,T,T,T,T,T,T,T,T,T,T,T,T,T] rfl rfl HT_.out ?_
                       refine done_ (done_of HT_.out (by kernel_rfl)) ?_
                       have p523 : 0 ≤ (x10_3 : Int) := of_decide_eq_true nQ
                       have q523 : x10_3 < (x8_3.length : Int) := of_decide_eq_true nQ
                       obtain ⟨ad523, e523, hx523_0⟩ := Kd.at_int (Kd.R_reads' HO_8.out).2.2 x10_3 p523 q523
                       obtain rfl : (⟨go22, 0, none⟩ : Addr) = ad523 := (by injection e523)
                       (first | simp only [add_plain] at hx523_0 | simp only [add_at] at hx523_0 | simp only [Addr.add, Nat.zero_add] at hx523_0 | skip)
                       replace p523 := eq_true p523; replace q523 := eq_true q523
                       have p45 : 0 ≤ (x9_2 : Int) := of_decide_eq_true nQ
                       have q45 : (x9_2 : Int) < ((x8_3.length : Int) : Int) := of_decide_eq_true nQ
                       obtain ⟨hx45_0, hf45_0⟩ := Kd.R_celln 0 HO_8.out (x9_2 : Int) p45 q45
                       replace p45 := eq_true p45; replace q45 := eq_true q45
                       obtain ⟨hy49_, hz49_⟩ := Kd.R_celln 0 HO_8.out (x9_2 : Int) (of_decide_eq_true nQ) (of_decide_eq_true nQ)
                       have HP49 := Kd.R_putg HO_8.out (x9_2 : Int) (wrap64 ((rd x8_3 x10_3) + 1))
                       try go_wp2_with (first | ((with_reducible refine gate_store (t := 3) (p := 92) rfl ?_); refine store_event (t := 3) (p := 92) (v := ?vo_w50) (w1 := (w48.setCell ⟨go22, (x9_2 : Int).toNat, none⟩ (.int .i64 (wrap64 ((rd x8_3 x10_3) + 1))))) ?hg ?ho ?hn ?hr ?_; (case ho => rfl); (case hg => rfl); (case hn => rfl); (case hr => first | (go_simp; done) | (go_simp; rfl)); intro w50 hw; have hg : w48.grownBy w50 (some go22) := (by rw [hw]; exact HP49.2); have hp_ : Kd.R (Kd.int .i64) 3 w50 w.heap.size (fun _ => True) (.slice (some ⟨go22, 0, none⟩) x8_3.length co22) y524 := (by rw [hw, Ny524.out]; exact HP49.1); clear HP49; have n0_ := Aside0.mk (hp_); have n1_ := Aside0.mk (blk_grown (g := gb508) (o := .cells #[.int .i64 a2_0, .int .i64 a2_1, .int .i64 a2_2, .int .i64 a2_3] 25 (0, 0)) (nB BK508.out) hg (Kd.R_ne HO_8.out BK508.out (by decide))); have n2_ := Aside0.mk ((by rw [hw]; exact below_set (HB.out) GB22.out : Below w.heap.size w w50)); clear HO_8; clear BK508; clear HB; have HO_8 := n0_; have BK508 := n1_; have HB := n2_; clear n0_ n1_ n2_; clear hg hw hp_))
                       (try simp only [← hl8_3])
                       go_roundg kj24
                       case measure => have := HJ3.out; have := HK2.out; have := HK3.out; have := HJ24.out; omega
                       case rel => exact ⟨(y524), (wrap64 (x10_3 + 1)), nS, H', ⟨by have := HJ3.out; have := HK2.out; have := HK3.out; have := HJ24.out; omega⟩, ⟨by (try simp only [hl8_3]); (with_reducible repeat (first | apply Kd.R_alloc | apply Kd.R_drewN | apply Kd.R_drew)); exact HO_8.out⟩, ⟨by (try simp only [hl8_3]); (with_reducible repeat (first | refine blk_drewN ?_ _ | refine blk_drew ?_ | refine blk_alloc ?_ _)); exact BK508.out⟩, ⟨nH1 HB.out GE508.out⟩⟩
                     · rw [if_neg c44] at H
                       have c44b0 : decide ((wrap64 ((rd x8_3 x10_3) + 1)) < (rd x8_3 x9_2)) = false := decide_eq_false c44
                       clear c44
                       have H' := Aside0.mk H
                       clear H
                       try go_wp2
                       have n0_ := Aside0.mk (Kd.R_drew HO_8.out)
                       have n1_ := Aside0.mk (blk_drew BK508.out)
                       have n2_ := Aside0.mk (below_drew1 HB.out)
                       clear HO_8; clear BK508; clear HB; have HO_8 := n0_; have BK508 := n1_; have HB := n2_; clear n0_ n1_ n2_
                       have p515 : 0 ≤ (x10_3 : Int) := of_decide_eq_true nQ
                       have q515 : x10_3 < (x8_3.length : Int) := of_decide_eq_true nQ
                       obtain ⟨ad515, e515, hx515_0⟩ := Kd.at_int (Kd.R_reads' HO_8.out).2.2 x10_3 p515 q515
                       obtain rfl : (⟨go22, 0, none⟩ : Addr) = ad515 := (by injection e515)
                       (first | simp only [add_plain] at hx515_0 | simp only [add_at] at hx515_0 | simp only [Addr.add, Nat.zero_add] at hx515_0 | skip)
                       replace p515 := eq_true p515; replace q515 := eq_true q515
                       obtain ⟨i052, hi052, _, hsz52, _⟩ := info_parts info3
                       obtain ⟨A52, hcut52, hA52, hC52⟩ := print_mid_of (P := Try.prog) (Value.int .i64) 0 29 3 .i64 .i64 Try.underlying29 hi052 hsz52 A1 c1 l1 x9_2 x10_3 (of_decide_eq_true nQ) (by first | omega | exact of_decide_eq_true nQ) (of_decide_eq_true nQ) HC1.out
                       have HR516 := Aside0.mk (Kd.C_of_reads (h1 := fun _ => rfl) (hA52 _ (Kd.reads_of_C HR1.out)))
                       have HC516 := Aside0.mk hC52
                       clear hA52 hC52 hi052 hsz52
                       have p518 : 0 ≤ (x9_2 : Int) := of_decide_eq_true nQ
                       have q518 : x9_2 < (x8_3.length : Int) := of_decide_eq_true nQ
                       obtain ⟨ad518, e518, hx518_0⟩ := Kd.at_int (Kd.R_reads' HO_8.out).2.2 x9_2 p518 q518
                       obtain rfl : (⟨go22, 0, none⟩ : Addr) = ad518 := (by injection e518)
                       (first | simp only [add_plain] at hx518_0 | simp only [add_at] at hx518_0 | simp only [Addr.add, Nat.zero_add] at hx518_0 | skip)
                       replace p518 := eq_true p518; replace q518 := eq_true q518
                       have p521 : 0 ≤ (x10_3 : Int) := of_decide_eq_true nQ
                       have q521 : x10_3 < (x8_3.length : Int) := of_decide_eq_true nQ
                       obtain ⟨ad521, e521, hx521_0⟩ := Kd.at_int (Kd.R_reads' HO_8.out).2.2 x10_3 p521 q521
                       obtain rfl : (⟨go22, 0, none⟩ : Addr) = ad521 := (by injection e521)
                       (first | simp only [add_plain] at hx521_0 | simp only [add_at] at hx521_0 | simp only [Addr.add, Nat.zero_add] at hx521_0 | skip)
                       replace p521 := eq_true p521; replace q521 := eq_true q521
                       have p522 : 0 ≤ (x9_2 : Int) := of_decide_eq_true nQ
                       have q522 : x9_2 < (x8_3.length : Int) := of_decide_eq_true nQ
                       obtain ⟨ad522, e522, hx522_0⟩ := Kd.at_int (Kd.R_reads' HO_8.out).2.2 x9_2 p522 q522
                       obtain rfl : (⟨go22, 0, none⟩ : Addr) = ad522 := (by injection e522)
                       (first | simp only [add_plain] at hx522_0 | simp only [add_at] at hx522_0 | simp only [Addr.add, Nat.zero_add] at hx522_0 | skip)
                       replace p522 := eq_true p522; replace q522 := eq_true q522
                       refine start_ (n := 34) (S := fun w' => w'.cell? ⟨gb508, 0, none⟩ = some (.int .i64 a2_0) ∧ w'.cell? ⟨gb508, 1, none⟩ = some (.int .i64 a2_1) ∧ w'.cell? ⟨gb508, 2, none⟩ = some (.int .i64 a2_2) ∧ w'.cell? ⟨gb508, 3, none⟩ = some (.int .i64 a2_3) ∧ w'.cell? ⟨go22, (x10_3).toNat, none⟩ = some (.int .i64 (rd x8_3 x10_3)) ∧ w'.cell? ⟨go22, (x9_2).toNat, none⟩ = some (.int .i64 (rd x8_3 x9_2)) ∧ w'.cell? ⟨go22, (x10_3).toNat, none⟩ = some (.int .i64 (rd x8_3 x10_3)) ∧ w'.cell? ⟨go22, (x9_2).toNat, none⟩ = some (.int .i64 (rd x8_3 x9_2))) (ds := []) #[F,F,F,F,F,F,F,F,F,F,F,F,F,F,F,F,F,F,F,F,F,F,F,F,F,F,F,F,F,F,F,F,F,F] (by kernel_rfl) rfl rfl ⟨(blk_cell BK508.out 0).trans rfl, (blk_cell BK508.out 1).trans rfl, (blk_cell BK508.out 2).trans rfl, (blk_cell BK508.out 3).trans rfl, hx515_0, hx518_0, hx521_0, hx522_0⟩ (fun hHeld => ?_); refine with_tabW spec_Relieve.tab11 spec_Relieve.bits11 (fun HT_ HW_ => ?_)
                       generalize wc.drew = w51 at HO_8 BK508 HB HR516 hx515_0 hx518_0 hx521_0 hx522_0 hHeld ⊢
                       refine pU 0 (some 51) #[T,F,F,F,F,F,F,F,F,F,F,F,F,F,F,F,F,F,F,F,F,F,F,F,F,F,F,F,F,F,F,F,F,F] rfl rfl HT_.out ?_
                       refine pU 1 (some 52) #[T,T,F,F,F,F,F,F,F,F,F,F,F,F,F,F,F,F,F,F,F,F,F,F,F,F,F,F,F,F,F,F,F,F] rfl rfl HT_.out ?_
                       refine pU 2 (some 53) #[T,T,T,F,F,F,F,F,F,F,F,F,F,F,F,F,F,F,F,F,F,F,F,F,F,F,F,F,F,F,F,F,F,F] rfl rfl HT_.out ?_
                       refine tU8 3 (some 54) #[T,T,T,T,F,F,F,F,F,F,F,F,F,F,F,F,F,F,F,F,F,F,F,F,F,F,F,F,F,F,F,F,F,F] rfl rfl HT_.out HW_.out hHeld ?_
                       refine pU 4 (some 55) #[T,T,T,T,T,F,F,F,F,F,F,F,F,F,F,F,F,F,F,F,F,F,F,F,F,F,F,F,F,F,F,F,F,F] rfl rfl HT_.out ?_
                       refine pU 5 (some 56) #[T,T,T,T,T,T,F,F,F,F,F,F,F,F,F,F,F,F,F,F,F,F,F,F,F,F,F,F,F,F,F,F,F,F] rfl rfl HT_.out ?_
                       refine pU 6 (some 57) #[T,T,T,T,T,T,T,F,F,F,F,F,F,F,F,F,F,F,F,F,F,F,F,F,F,F,F,F,F,F,F,F,F,F] rfl rfl HT_.out ?_
                       refine pU 7 (some 58) #[T,T,T,T,T,T,T,T,F,F,F,F,F,F,F,F,F,F,F,F,F,F,F,F,F,F,F,F,F,F,F,F,F,F] rfl rfl HT_.out ?_
                       refine pU 8 (some 59) #[T,T,T,T,T,T,T,T,T,F,F,F,F,F,F,F,F,F,F,F,F,F,F,F,F,F,F,F,F,F,F,F,F,F] rfl rfl HT_.out ?_
                       refine pU 9 (some 60) #[T,T,T,T,T,T,T,T,T,T,F,F,F,F,F,F,F,F,F,F,F,F,F,F,F,F,F,F,F,F,F,F,F,F] rfl rfl HT_.out ?_
                       refine pU 10 (some 61) #[T,T,T,T,T,T,T,T,T,T,T,F,F,F,F,F,F,F,F,F,F,F,F,F,F,F,F,F,F,F,F,F,F,F] rfl rfl HT_.out ?_
                       refine tU8 11 (some 62) #[T,T,T,T,T,T,T,T,T,T,T,T,F,F,F,F,F,F,F,F,F,F,F,F,F,F,F,F,F,F,F,F,F,F] rfl rfl HT_.out HW_.out hHeld ?_
                       refine one_ (i := 12) (N := some 63) #[T,T,T,T,T,T,T,T,T,T,T,T,T,F,F,F,F,F,F,F,F,F,F,F,F,F,F,F,F,F,F,F,F,F] rfl rfl (one_of HT_.out (by kernel_rfl)) (by decide) (fun K hK => ?_)
                       refine goes_ Try.func22 (by kernel_rfl) rfl #[.slice A0 l0.length c0, .slice A52 ((l1.take (x10_3 : Int).toNat).drop (x9_2 : Int).toNat).length (c1 - x9_2.toNat), .agg #[.int .i64 a2_0, .int .i64 a2_1, .int .i64 a2_2, .int .i64 a2_3]] (by rfl) rfl rfl (by (try simp only [List.map_toArray, List.map_cons, List.map_nil]); first | done | (rw [show ((l1.take (x10_3 : Int).toNat).drop (x9_2 : Int).toNat).length = (x10_3.toNat - x9_2.toNat) from (by rw [List.length_drop, List.length_take]; have h_ : (x10_3 : Int) ≤ (l1.length : Int) := of_decide_eq_true nQ; omega)] <;> rfl) | rfl | (simp only [List.length_drop, List.length_take]; rfl)) ?_
                       with_reducible refine (spec_DutyCode.calls kj24 _ _ l0 _ _ ((l1.take (x10_3 : Int).toNat).drop (x9_2 : Int).toNat) a2_0 a2_1 a2_2 a2_3 t517 _ ?side1 ?side2 ?side3 ?side4 A34.out).mono ?_
                       (case side1 => repeat (first | exact (Kd.C_below HR0.out HB.out) | (with_reducible refine Kd.C_alloc ?_ _) | (with_reducible refine Kd.C_drewN ?_ _) | (with_reducible refine Kd.C_drew ?_)))
                       (case side2 => exact HC0.out)
                       (case side3 => repeat (first | exact (Kd.C_below HR516.out HB.out) | (with_reducible refine Kd.C_alloc ?_ _) | (with_reducible refine Kd.C_drewN ?_ _) | (with_reducible refine Kd.C_drew ?_)))
                       (case side4 => exact HC516.out)
                       rintro e w53 ⟨rfl, hb⟩
                       have HS4_ := (hb.cell (World.block_lt_of_cell? _ _ (hHeld.2.2.2.2.1))).trans (hHeld.2.2.2.2.1)
                       have HS5_ := (hb.cell (World.block_lt_of_cell? _ _ (hHeld.2.2.2.2.2.1))).trans (hHeld.2.2.2.2.2.1)
                       have HS6_ := (hb.cell (World.block_lt_of_cell? _ _ (hHeld.2.2.2.2.2.2.1))).trans (hHeld.2.2.2.2.2.2.1)
                       have HS7_ := (hb.cell (World.block_lt_of_cell? _ _ (hHeld.2.2.2.2.2.2.2))).trans (hHeld.2.2.2.2.2.2.2)
                       refine ⟨_, rfl, ?_⟩
                       have n0_ := Aside0.mk (Kd.R_below (nR HO_8.out) hb)
                       have n1_ := Aside0.mk (blk_below (g := gb508) (o := .cells #[.int .i64 a2_0, .int .i64 a2_1, .int .i64 a2_2, .int .i64 a2_3] 25 (0, 0)) (nB BK508.out) hb)
                       have n2_ := Aside0.mk (below_step (nH1 HB.out GE508.out) hb)
                       clear HO_8; clear BK508; clear HB; have HO_8 := n0_; have BK508 := n1_; have HB := n2_; clear n0_ n1_ n2_; (try clear hb); (try clear hb2); (try clear hk); (try clear hi)
                       refine hK.out _ _ ⟨(blk_cell BK508.out 0).trans rfl, (blk_cell BK508.out 1).trans rfl, (blk_cell BK508.out 2).trans rfl, (blk_cell BK508.out 3).trans rfl, HS4_, HS5_, HS6_, HS7_⟩ (fun hHeld => ?_)
                       clear hK K
                       refine norm_ (a' := ?_) ?_ ?_
                       rotate_left
                       · show Act.put _ (some 63) _ = _
                         simp only [Act.put, List.setIfInBounds_toArray, List.set_cons_zero, List.set_cons_succ, i64_w, i32_w]
                         rfl
                       refine pU 13 (some 64) #[T,T,T,T,T,T,T,T,T,T,T,T,T,T,F,F,F,F,F,F,F,F,F,F,F,F,F,F,F,F,F,F,F,F] rfl rfl HT_.out ?_
                       refine pU 14 (some 65) #[T,T,T,T,T,T,T,T,T,T,T,T,T,T,T,F,F,F,F,F,F,F,F,F,F,F,F,F,F,F,F,F,F,F] rfl rfl HT_.out ?_
                       refine pU 15 (some 66) #[T,T,T,T,T,T,T,T,T,T,T,T,T,T,T,T,F,F,F,F,F,F,F,F,F,F,F,F,F,F,F,F,F,F] rfl rfl HT_.out ?_
                       refine pU 16 (some 67) #[T,T,T,T,T,T,T,T,T,T,T,T,T,T,T,T,T,F,F,F,F,F,F,F,F,F,F,F,F,F,F,F,F,F] rfl rfl HT_.out ?_
                       refine pU 17 (some 68) #[T,T,T,T,T,T,T,T,T,T,T,T,T,T,T,T,T,T,F,F,F,F,F,F,F,F,F,F,F,F,F,F,F,F] rfl rfl HT_.out ?_
                       refine pU 18 (some 69) #[T,T,T,T,T,T,T,T,T,T,T,T,T,T,T,T,T,T,T,F,F,F,F,F,F,F,F,F,F,F,F,F,F,F] rfl rfl HT_.out ?_
                       refine tU8 19 (some 70) #[T,T,T,T,T,T,T,T,T,T,T,T,T,T,T,T,T,T,T,T,F,F,F,F,F,F,F,F,F,F,F,F,F,F] rfl rfl HT_.out HW_.out hHeld ?_
                       refine pU 20 (some 71) #[T,T,T,T,T,T,T,T,T,T,T,T,T,T,T,T,T,T,T,T,T,F,F,F,F,F,F,F,F,F,F,F,F,F] rfl rfl HT_.out ?_
                       refine pU 21 (some 72) #[T,T,T,T,T,T,T,T,T,T,T,T,T,T,T,T,T,T,T,T,T,T,F,F,F,F,F,F,F,F,F,F,F,F] rfl rfl HT_.out ?_
                       refine pU 22 (some 73) #[T,T,T,T,T,T,T,T,T,T,T,T,T,T,T,T,T,T,T,T,T,T,T,F,F,F,F,F,F,F,F,F,F,F] rfl rfl HT_.out ?_
                       refine pU 23 (some 74) #[T,T,T,T,T,T,T,T,T,T,T,T,T,T,T,T,T,T,T,T,T,T,T,T,F,F,F,F,F,F,F,F,F,F] rfl rfl HT_.out ?_
                       refine pU 24 (some 75) #[T,T,T,T,T,T,T,T,T,T,T,T,T,T,T,T,T,T,T,T,T,T,T,T,T,F,F,F,F,F,F,F,F,F] rfl rfl HT_.out ?_
                       refine pU 27 (some 78) #[T,T,T,T,T,T,T,T,T,T,T,T,T,T,T,T,T,T,T,T,T,T,T,T,T,F,F,T,F,F,F,F,F,F] rfl rfl HT_.out ?_
                       refine pU 28 (some 79) #[T,T,T,T,T,T,T,T,T,T,T,T,T,T,T,T,T,T,T,T,T,T,T,T,T,F,F,T,T,F,F,F,F,F] rfl rfl HT_.out ?_
                       refine pU 29 (some 80) #[T,T,T,T,T,T,T,T,T,T,T,T,T,T,T,T,T,T,T,T,T,T,T,T,T,F,F,T,T,T,F,F,F,F] rfl rfl HT_.out ?_
                       refine tU8 25 (some 76) #[T,T,T,T,T,T,T,T,T,T,T,T,T,T,T,T,T,T,T,T,T,T,T,T,T,T,F,T,T,T,F,F,F,F] rfl rfl HT_.out HW_.out hHeld ?_
                       refine pU 26 (some 77) #[T,T,T,T,T,T,T,T,T,T,T,T,T,T,T,T,T,T,T,T,T,T,T,T,T,T,T,T,T,T,F,F,F,F] rfl rfl HT_.out ?_
                       refine tU8 30 (some 81) #[T,T,T,T,T,T,T,T,T,T,T,T,T,T,T,T,T,T,T,T,T,T,T,T,T,T,T,T,T,T,T,F,F,F] rfl rfl HT_.out HW_.out hHeld ?_
                       refine pU 31 (some 82) #[T,T,T,T,T,T,T,T,T,T,T,T,T,T,T,T,T,T,T,T,T,T,T,T,T,T,T,T,T,T,T,T,F,F] rfl rfl HT_.out ?_
                       refine pU 32 (some 83) #[T,T,T,T,T,T,T,T,T,T,T,T,T,T,T,T,T,T,T,T,T,T,T,T,T,T,T,T,T,T,T,T,T,F] rfl rfl HT_.out ?_
                       refine pU 33 (some 84) #[T,T,T,T,T,T,T,T,T,T,T,T,T,T,T,T,T,T,T,T,T,T,T,T,T,T,T,T,T,T,T,T,T,T] rfl rfl HT_.out ?_
                       refine done_ (done_of HT_.out (by kernel_rfl)) ?_
                       try go_wp2
                       (try simp only [← hl8_3])
                       go_roundg kj24
                       case measure => have := HJ3.out; have := HK2.out; have := HK3.out; have := HJ24.out; omega
                       case rel => exact ⟨(x8_3), (wrap64 (x10_3 + 1)), nS, H', ⟨by have := HJ3.out; have := HK2.out; have := HK3.out; have := HJ24.out; omega⟩, ⟨by (try simp only [hl8_3]); (with_reducible repeat (first | apply Kd.R_alloc | apply Kd.R_drewN | apply Kd.R_drew)); exact HO_8.out⟩, ⟨by (try simp only [hl8_3]); (with_reducible repeat (first | refine blk_drewN ?_ _ | refine blk_drew ?_ | refine blk_alloc ?_ _)); exact BK508.out⟩, ⟨nH1 HB.out GE508.out⟩⟩
                 · rw [if_neg c35] at H
                   have c35b0 : (t517 == 0) = false := beq_eq_false_iff_ne.mpr c35
                   have c35b1 : (t517 != 0) = true := bne_iff_ne.mpr c35
                   have H' := Aside0.mk H
                   clear H
                   try go_wp2
                   have n0_ := Aside0.mk (Kd.R_drew HO_8.out)
                   have n1_ := Aside0.mk (blk_drew BK508.out)
                   have n2_ := Aside0.mk (below_drew1 HB.out)
                   clear HO_8; clear BK508; clear HB; have HO_8 := n0_; have BK508 := n1_; have HB := n2_; clear n0_ n1_ n2_
                   have p515 : 0 ≤ (x10_3 : Int) := of_decide_eq_true nQ
                   have q515 : x10_3 < (x8_3.length : Int) := of_decide_eq_true nQ
                   obtain ⟨ad515, e515, hx515_0⟩ := Kd.at_int (Kd.R_reads' HO_8.out).2.2 x10_3 p515 q515
                   obtain rfl : (⟨go22, 0, none⟩ : Addr) = ad515 := (by injection e515)
                   (first | simp only [add_plain] at hx515_0 | simp only [add_at] at hx515_0 | simp only [Addr.add, Nat.zero_add] at hx515_0 | skip)
                   replace p515 := eq_true p515; replace q515 := eq_true q515
                   obtain ⟨i055, hi055, _, hsz55, _⟩ := info_parts info3
                   obtain ⟨A55, hcut55, hA55, hC55⟩ := print_mid_of (P := Try.prog) (Value.int .i64) 0 29 3 .i64 .i64 Try.underlying29 hi055 hsz55 A1 c1 l1 x9_2 x10_3 (of_decide_eq_true nQ) (by first | omega | exact of_decide_eq_true nQ) (of_decide_eq_true nQ) HC1.out
                   have HR516 := Aside0.mk (Kd.C_of_reads (h1 := fun _ => rfl) (hA55 _ (Kd.reads_of_C HR1.out)))
                   have HC516 := Aside0.mk hC55
                   clear hA55 hC55 hi055 hsz55
                   refine start_ (n := 34) (S := fun w' => w'.cell? ⟨gb508, 0, none⟩ = some (.int .i64 a2_0) ∧ w'.cell? ⟨gb508, 1, none⟩ = some (.int .i64 a2_1) ∧ w'.cell? ⟨gb508, 2, none⟩ = some (.int .i64 a2_2) ∧ w'.cell? ⟨gb508, 3, none⟩ = some (.int .i64 a2_3) ∧ w'.cell? ⟨go22, (x10_3).toNat, none⟩ = some (.int .i64 (rd x8_3 x10_3))) (ds := []) #[F,F,F,F,F,F,F,F,F,F,F,F,F,F,F,F,F,F,F,F,F,F,F,F,F,F,F,F,F,F,F,F,F,F] (by kernel_rfl) rfl rfl ⟨(blk_cell BK508.out 0).trans rfl, (blk_cell BK508.out 1).trans rfl, (blk_cell BK508.out 2).trans rfl, (blk_cell BK508.out 3).trans rfl, hx515_0⟩ (fun hHeld => ?_); refine with_tabW spec_Relieve.tab11 spec_Relieve.bits11 (fun HT_ HW_ => ?_)
                   generalize wc.drew = w54 at HO_8 BK508 HB HR516 hx515_0 hHeld ⊢
                   refine pU 0 (some 51) #[T,F,F,F,F,F,F,F,F,F,F,F,F,F,F,F,F,F,F,F,F,F,F,F,F,F,F,F,F,F,F,F,F,F] rfl rfl HT_.out ?_
                   refine pU 1 (some 52) #[T,T,F,F,F,F,F,F,F,F,F,F,F,F,F,F,F,F,F,F,F,F,F,F,F,F,F,F,F,F,F,F,F,F] rfl rfl HT_.out ?_
                   refine pU 2 (some 53) #[T,T,T,F,F,F,F,F,F,F,F,F,F,F,F,F,F,F,F,F,F,F,F,F,F,F,F,F,F,F,F,F,F,F] rfl rfl HT_.out ?_
                   refine tU5 3 (some 54) #[T,T,T,T,F,F,F,F,F,F,F,F,F,F,F,F,F,F,F,F,F,F,F,F,F,F,F,F,F,F,F,F,F,F] rfl rfl HT_.out HW_.out hHeld ?_
                   refine pU 4 (some 55) #[T,T,T,T,T,F,F,F,F,F,F,F,F,F,F,F,F,F,F,F,F,F,F,F,F,F,F,F,F,F,F,F,F,F] rfl rfl HT_.out ?_
                   refine pU 5 (some 56) #[T,T,T,T,T,T,F,F,F,F,F,F,F,F,F,F,F,F,F,F,F,F,F,F,F,F,F,F,F,F,F,F,F,F] rfl rfl HT_.out ?_
                   refine pU 6 (some 57) #[T,T,T,T,T,T,T,F,F,F,F,F,F,F,F,F,F,F,F,F,F,F,F,F,F,F,F,F,F,F,F,F,F,F] rfl rfl HT_.out ?_
                   refine pU 7 (some 58) #[T,T,T,T,T,T,T,T,F,F,F,F,F,F,F,F,F,F,F,F,F,F,F,F,F,F,F,F,F,F,F,F,F,F] rfl rfl HT_.out ?_
                   refine pU 8 (some 59) #[T,T,T,T,T,T,T,T,T,F,F,F,F,F,F,F,F,F,F,F,F,F,F,F,F,F,F,F,F,F,F,F,F,F] rfl rfl HT_.out ?_
                   refine pU 9 (some 60) #[T,T,T,T,T,T,T,T,T,T,F,F,F,F,F,F,F,F,F,F,F,F,F,F,F,F,F,F,F,F,F,F,F,F] rfl rfl HT_.out ?_
                   refine pU 10 (some 61) #[T,T,T,T,T,T,T,T,T,T,T,F,F,F,F,F,F,F,F,F,F,F,F,F,F,F,F,F,F,F,F,F,F,F] rfl rfl HT_.out ?_
                   refine tU5 11 (some 62) #[T,T,T,T,T,T,T,T,T,T,T,T,F,F,F,F,F,F,F,F,F,F,F,F,F,F,F,F,F,F,F,F,F,F] rfl rfl HT_.out HW_.out hHeld ?_
                   refine one_ (i := 12) (N := some 63) #[T,T,T,T,T,T,T,T,T,T,T,T,T,F,F,F,F,F,F,F,F,F,F,F,F,F,F,F,F,F,F,F,F,F] rfl rfl (one_of HT_.out (by kernel_rfl)) (by decide) (fun K hK => ?_)
                   refine goes_ Try.func22 (by kernel_rfl) rfl #[.slice A0 l0.length c0, .slice A55 ((l1.take (x10_3 : Int).toNat).drop (x9_2 : Int).toNat).length (c1 - x9_2.toNat), .agg #[.int .i64 a2_0, .int .i64 a2_1, .int .i64 a2_2, .int .i64 a2_3]] (by rfl) rfl rfl (by (try simp only [List.map_toArray, List.map_cons, List.map_nil]); first | done | (rw [show ((l1.take (x10_3 : Int).toNat).drop (x9_2 : Int).toNat).length = (x10_3.toNat - x9_2.toNat) from (by rw [List.length_drop, List.length_take]; have h_ : (x10_3 : Int) ≤ (l1.length : Int) := of_decide_eq_true nQ; omega)] <;> rfl) | rfl | (simp only [List.length_drop, List.length_take]; rfl)) ?_
                   with_reducible refine (spec_DutyCode.calls kj24 _ _ l0 _ _ ((l1.take (x10_3 : Int).toNat).drop (x9_2 : Int).toNat) a2_0 a2_1 a2_2 a2_3 t517 _ ?side1 ?side2 ?side3 ?side4 A34.out).mono ?_
                   (case side1 => repeat (first | exact (Kd.C_below HR0.out HB.out) | (with_reducible refine Kd.C_alloc ?_ _) | (with_reducible refine Kd.C_drewN ?_ _) | (with_reducible refine Kd.C_drew ?_)))
                   (case side2 => exact HC0.out)
                   (case side3 => repeat (first | exact (Kd.C_below HR516.out HB.out) | (with_reducible refine Kd.C_alloc ?_ _) | (with_reducible refine Kd.C_drewN ?_ _) | (with_reducible refine Kd.C_drew ?_)))
                   (case side4 => exact HC516.out)
                   rintro e w56 ⟨rfl, hb⟩
                   have HS4_ := (hb.cell (World.block_lt_of_cell? _ _ (hHeld.2.2.2.2))).trans (hHeld.2.2.2.2)
                   refine ⟨_, rfl, ?_⟩
                   have n0_ := Aside0.mk (Kd.R_below (nR HO_8.out) hb)
                   have n1_ := Aside0.mk (blk_below (g := gb508) (o := .cells #[.int .i64 a2_0, .int .i64 a2_1, .int .i64 a2_2, .int .i64 a2_3] 25 (0, 0)) (nB BK508.out) hb)
                   have n2_ := Aside0.mk (below_step (nH1 HB.out GE508.out) hb)
                   clear HO_8; clear BK508; clear HB; have HO_8 := n0_; have BK508 := n1_; have HB := n2_; clear n0_ n1_ n2_; (try clear hb); (try clear hb2); (try clear hk); (try clear hi)
                   refine hK.out _ _ ⟨(blk_cell BK508.out 0).trans rfl, (blk_cell BK508.out 1).trans rfl, (blk_cell BK508.out 2).trans rfl, (blk_cell BK508.out 3).trans rfl, HS4_⟩ (fun hHeld => ?_)
                   clear hK K
                   refine norm_ (a' := ?_) ?_ ?_
                   rotate_left
                   · show Act.put _ (some 63) _ = _
                     simp only [Act.put, List.setIfInBounds_toArray, List.set_cons_zero, List.set_cons_succ, i64_w, i32_w]
                     rfl
                   refine pU 13 (some 64) #[T,T,T,T,T,T,T,T,T,T,T,T,T,T,F,F,F,F,F,F,F,F,F,F,F,F,F,F,F,F,F,F,F,F] rfl rfl HT_.out ?_
                   refine pU 14 (some 65) #[T,T,T,T,T,T,T,T,T,T,T,T,T,T,T,F,F,F,F,F,F,F,F,F,F,F,F,F,F,F,F,F,F,F] rfl rfl HT_.out ?_
                   refine pU 15 (some 66) #[T,T,T,T,T,T,T,T,T,T,T,T,T,T,T,T,F,F,F,F,F,F,F,F,F,F,F,F,F,F,F,F,F,F] rfl rfl HT_.out ?_
                   refine pV 16 (some 67) #[T,T,T,T,T,T,T,T,T,T,T,T,T,T,T,T,T,F,F,F,F,F,F,F,F,F,F,F,F,F,F,F,F,F] rfl rfl HT_.out ?_
                   refine pV 17 (some 68) #[T,T,T,T,T,T,T,T,T,T,T,T,T,T,T,T,T,T,F,F,F,F,F,F,F,F,F,F,F,F,F,F,F,F] rfl rfl HT_.out ?_
                   refine pV 18 (some 69) #[T,T,T,T,T,T,T,T,T,T,T,T,T,T,T,T,T,T,T,F,F,F,F,F,F,F,F,F,F,F,F,F,F,F] rfl rfl HT_.out ?_
                   refine pV 19 (some 70) #[T,T,T,T,T,T,T,T,T,T,T,T,T,T,T,T,T,T,T,T,F,F,F,F,F,F,F,F,F,F,F,F,F,F] rfl rfl HT_.out ?_
                   refine pV 20 (some 71) #[T,T,T,T,T,T,T,T,T,T,T,T,T,T,T,T,T,T,T,T,T,F,F,F,F,F,F,F,F,F,F,F,F,F] rfl rfl HT_.out ?_
                   refine pV 21 (some 72) #[T,T,T,T,T,T,T,T,T,T,T,T,T,T,T,T,T,T,T,T,T,T,F,F,F,F,F,F,F,F,F,F,F,F] rfl rfl HT_.out ?_
                   refine pV 22 (some 73) #[T,T,T,T,T,T,T,T,T,T,T,T,T,T,T,T,T,T,T,T,T,T,T,F,F,F,F,F,F,F,F,F,F,F] rfl rfl HT_.out ?_
                   refine pV 23 (some 74) #[T,T,T,T,T,T,T,T,T,T,T,T,T,T,T,T,T,T,T,T,T,T,T,T,F,F,F,F,F,F,F,F,F,F] rfl rfl HT_.out ?_
                   refine pV 24 (some 75) #[T,T,T,T,T,T,T,T,T,T,T,T,T,T,T,T,T,T,T,T,T,T,T,T,T,F,F,F,F,F,F,F,F,F] rfl rfl HT_.out ?_
                   refine pV 25 (some 76) #[T,T,T,T,T,T,T,T,T,T,T,T,T,T,T,T,T,T,T,T,T,T,T,T,T,T,F,F,F,F,F,F,F,F] rfl rfl HT_.out ?_
                   refine pV 26 (some 77) #[T,T,T,T,T,T,T,T,T,T,T,T,T,T,T,T,T,T,T,T,T,T,T,T,T,T,T,F,F,F,F,F,F,F] rfl rfl HT_.out ?_
                   refine pV 27 (some 78) #[T,T,T,T,T,T,T,T,T,T,T,T,T,T,T,T,T,T,T,T,T,T,T,T,T,T,T,T,F,F,F,F,F,F] rfl rfl HT_.out ?_
                   refine pV 28 (some 79) #[T,T,T,T,T,T,T,T,T,T,T,T,T,T,T,T,T,T,T,T,T,T,T,T,T,T,T,T,T,F,F,F,F,F] rfl rfl HT_.out ?_
                   refine pV 29 (some 80) #[T,T,T,T,T,T,T,T,T,T,T,T,T,T,T,T,T,T,T,T,T,T,T,T,T,T,T,T,T,T,F,F,F,F] rfl rfl HT_.out ?_
                   refine pV 30 (some 81) #[T,T,T,T,T,T,T,T,T,T,T,T,T,T,T,T,T,T,T,T,T,T,T,T,T,T,T,T,T,T,T,F,F,F] rfl rfl HT_.out ?_
                   refine pV 31 (some 82) #[T,T,T,T,T,T,T,T,T,T,T,T,T,T,T,T,T,T,T,T,T,T,T,T,T,T,T,T,T,T,T,T,F,F] rfl rfl HT_.out ?_
                   refine pV 32 (some 83) #[T,T,T,T,T,T,T,T,T,T,T,T,T,T,T,T,T,T,T,T,T,T,T,T,T,T,T,T,T,T,T,T,T,F] rfl rfl HT_.out ?_
                   refine pU 33 (some 84) #[T,T,T,T,T,T,T,T,T,T,T,T,T,T,T,T,T,T,T,T,T,T,T,T,T,T,T,T,T,T,T,T,T,T] rfl rfl HT_.out ?_
                   refine done_ (done_of HT_.out (by kernel_rfl)) ?_
                   try go_wp2
                   (try simp only [← hl8_3])
                   go_roundg kj24
                   case measure => have := HJ3.out; have := HK2.out; have := HK3.out; have := HJ24.out; omega
                   case rel => exact ⟨(x8_3), (wrap64 (x10_3 + 1)), nS, H', ⟨by have := HJ3.out; have := HK2.out; have := HK3.out; have := HJ24.out; omega⟩, ⟨by (try simp only [hl8_3]); (with_reducible repeat (first | apply Kd.R_alloc | apply Kd.R_drewN | apply Kd.R_drew)); exact HO_8.out⟩, ⟨by (try simp only [hl8_3]); (with_reducible repeat (first | refine blk_drewN ?_ _ | refine blk_drew ?_ | refine blk_alloc ?_ _)); exact BK508.out⟩, ⟨nH1 HB.out GE508.out⟩⟩
               · rw [if_neg c30] at H
                 have c30b0 : decide (0 ≤ (rd x8_3 x10_3)) = false := decide_eq_false c30
                 clear c30
                 have H' := Aside0.mk H
                 clear H
                 try go_wp2
                 have n0_ := Aside0.mk (Kd.R_drew HO_8.out)
                 have n1_ := Aside0.mk (blk_drew BK508.out)
                 have n2_ := Aside0.mk (below_drew1 HB.out)
                 clear HO_8; clear BK508; clear HB; have HO_8 := n0_; have BK508 := n1_; have HB := n2_; clear n0_ n1_ n2_
                 have p515 : 0 ≤ (x10_3 : Int) := of_decide_eq_true nQ
                 have q515 : x10_3 < (x8_3.length : Int) := of_decide_eq_true nQ
                 obtain ⟨ad515, e515, hx515_0⟩ := Kd.at_int (Kd.R_reads' HO_8.out).2.2 x10_3 p515 q515
                 obtain rfl : (⟨go22, 0, none⟩ : Addr) = ad515 := (by injection e515)
                 (first | simp only [add_plain] at hx515_0 | simp only [add_at] at hx515_0 | simp only [Addr.add, Nat.zero_add] at hx515_0 | skip)
                 replace p515 := eq_true p515; replace q515 := eq_true q515
                 refine start_ (n := 34) (S := fun w' => w'.cell? ⟨go22, (x10_3).toNat, none⟩ = some (.int .i64 (rd x8_3 x10_3))) (ds := []) #[F,F,F,F,F,F,F,F,F,F,F,F,F,F,F,F,F,F,F,F,F,F,F,F,F,F,F,F,F,F,F,F,F,F] (by kernel_rfl) rfl rfl (hx515_0) (fun hHeld => ?_); refine with_tabW spec_Relieve.tab11 spec_Relieve.bits11 (fun HT_ HW_ => ?_)
                 generalize wc.drew = w57 at HO_8 BK508 HB hx515_0 hHeld ⊢
                 refine pU 0 (some 51) #[T,F,F,F,F,F,F,F,F,F,F,F,F,F,F,F,F,F,F,F,F,F,F,F,F,F,F,F,F,F,F,F,F,F] rfl rfl HT_.out ?_
                 refine pU 1 (some 52) #[T,T,F,F,F,F,F,F,F,F,F,F,F,F,F,F,F,F,F,F,F,F,F,F,F,F,F,F,F,F,F,F,F,F] rfl rfl HT_.out ?_
                 refine pU 2 (some 53) #[T,T,T,F,F,F,F,F,F,F,F,F,F,F,F,F,F,F,F,F,F,F,F,F,F,F,F,F,F,F,F,F,F,F] rfl rfl HT_.out ?_
                 refine take_ (i := 3) (N := some 54) (v := ?_) (a' := ?_) #[T,T,T,T,F,F,F,F,F,F,F,F,F,F,F,F,F,F,F,F,F,F,F,F,F,F,F,F,F,F,F,F,F,F] rfl rfl (take_ofW HT_.out HW_.out (by kernel_rfl)) (fun _ _ _ h => h) (Or.inl ⟨by rfl, ?_⟩) hHeld ?_ ?_
                 rotate_left
                 · intro w' s0
                   go_simp; with_reducible rfl
                 rotate_left
                 · simp only [Act.put, List.setIfInBounds_toArray, List.set_cons_zero, List.set_cons_succ, i64_w, i32_w]
                   rfl
                 refine pU 4 (some 55) #[T,T,T,T,T,F,F,F,F,F,F,F,F,F,F,F,F,F,F,F,F,F,F,F,F,F,F,F,F,F,F,F,F,F] rfl rfl HT_.out ?_
                 refine pU 5 (some 56) #[T,T,T,T,T,T,F,F,F,F,F,F,F,F,F,F,F,F,F,F,F,F,F,F,F,F,F,F,F,F,F,F,F,F] rfl rfl HT_.out ?_
                 refine pV 6 (some 57) #[T,T,T,T,T,T,T,F,F,F,F,F,F,F,F,F,F,F,F,F,F,F,F,F,F,F,F,F,F,F,F,F,F,F] rfl rfl HT_.out ?_
                 refine pV 7 (some 58) #[T,T,T,T,T,T,T,T,F,F,F,F,F,F,F,F,F,F,F,F,F,F,F,F,F,F,F,F,F,F,F,F,F,F] rfl rfl HT_.out ?_
                 refine pV 8 (some 59) #[T,T,T,T,T,T,T,T,T,F,F,F,F,F,F,F,F,F,F,F,F,F,F,F,F,F,F,F,F,F,F,F,F,F] rfl rfl HT_.out ?_
                 refine pV 9 (some 60) #[T,T,T,T,T,T,T,T,T,T,F,F,F,F,F,F,F,F,F,F,F,F,F,F,F,F,F,F,F,F,F,F,F,F] rfl rfl HT_.out ?_
                 refine pV 10 (some 61) #[T,T,T,T,T,T,T,T,T,T,T,F,F,F,F,F,F,F,F,F,F,F,F,F,F,F,F,F,F,F,F,F,F,F] rfl rfl HT_.out ?_
                 refine pV 11 (some 62) #[T,T,T,T,T,T,T,T,T,T,T,T,F,F,F,F,F,F,F,F,F,F,F,F,F,F,F,F,F,F,F,F,F,F] rfl rfl HT_.out ?_
                 refine pV 12 (some 63) #[T,T,T,T,T,T,T,T,T,T,T,T,T,F,F,F,F,F,F,F,F,F,F,F,F,F,F,F,F,F,F,F,F,F] rfl rfl HT_.out ?_
                 refine pV 13 (some 64) #[T,T,T,T,T,T,T,T,T,T,T,T,T,T,F,F,F,F,F,F,F,F,F,F,F,F,F,F,F,F,F,F,F,F] rfl rfl HT_.out ?_
                 refine pU 14 (some 65) #[T,T,T,T,T,T,T,T,T,T,T,T,T,T,T,F,F,F,F,F,F,F,F,F,F,F,F,F,F,F,F,F,F,F] rfl rfl HT_.out ?_
                 refine pU 15 (some 66) #[T,T,T,T,T,T,T,T,T,T,T,T,T,T,T,T,F,F,F,F,F,F,F,F,F,F,F,F,F,F,F,F,F,F] rfl rfl HT_.out ?_
                 refine pV 16 (some 67) #[T,T,T,T,T,T,T,T,T,T,T,T,T,T,T,T,T,F,F,F,F,F,F,F,F,F,F,F,F,F,F,F,F,F] rfl rfl HT_.out ?_
                 refine pV 17 (some 68) #[T,T,T,T,T,T,T,T,T,T,T,T,T,T,T,T,T,T,F,F,F,F,F,F,F,F,F,F,F,F,F,F,F,F] rfl rfl HT_.out ?_
                 refine pV 18 (some 69) #[T,T,T,T,T,T,T,T,T,T,T,T,T,T,T,T,T,T,T,F,F,F,F,F,F,F,F,F,F,F,F,F,F,F] rfl rfl HT_.out ?_
                 refine pV 19 (some 70) #[T,T,T,T,T,T,T,T,T,T,T,T,T,T,T,T,T,T,T,T,F,F,F,F,F,F,F,F,F,F,F,F,F,F] rfl rfl HT_.out ?_
                 refine pV 20 (some 71) #[T,T,T,T,T,T,T,T,T,T,T,T,T,T,T,T,T,T,T,T,T,F,F,F,F,F,F,F,F,F,F,F,F,F] rfl rfl HT_.out ?_
                 refine pV 21 (some 72) #[T,T,T,T,T,T,T,T,T,T,T,T,T,T,T,T,T,T,T,T,T,T,F,F,F,F,F,F,F,F,F,F,F,F] rfl rfl HT_.out ?_
                 refine pV 22 (some 73) #[T,T,T,T,T,T,T,T,T,T,T,T,T,T,T,T,T,T,T,T,T,T,T,F,F,F,F,F,F,F,F,F,F,F] rfl rfl HT_.out ?_
                 refine pV 23 (some 74) #[T,T,T,T,T,T,T,T,T,T,T,T,T,T,T,T,T,T,T,T,T,T,T,T,F,F,F,F,F,F,F,F,F,F] rfl rfl HT_.out ?_
                 refine pV 24 (some 75) #[T,T,T,T,T,T,T,T,T,T,T,T,T,T,T,T,T,T,T,T,T,T,T,T,T,F,F,F,F,F,F,F,F,F] rfl rfl HT_.out ?_
                 refine pV 25 (some 76) #[T,T,T,T,T,T,T,T,T,T,T,T,T,T,T,T,T,T,T,T,T,T,T,T,T,T,F,F,F,F,F,F,F,F] rfl rfl HT_.out ?_
                 refine pV 26 (some 77) #[T,T,T,T,T,T,T,T,T,T,T,T,T,T,T,T,T,T,T,T,T,T,T,T,T,T,T,F,F,F,F,F,F,F] rfl rfl HT_.out ?_
                 refine pV 27 (some 78) #[T,T,T,T,T,T,T,T,T,T,T,T,T,T,T,T,T,T,T,T,T,T,T,T,T,T,T,T,F,F,F,F,F,F] rfl rfl HT_.out ?_
                 refine pV 28 (some 79) #[T,T,T,T,T,T,T,T,T,T,T,T,T,T,T,T,T,T,T,T,T,T,T,T,T,T,T,T,T,F,F,F,F,F] rfl rfl HT_.out ?_
                 refine pV 29 (some 80) #[T,T,T,T,T,T,T,T,T,T,T,T,T,T,T,T,T,T,T,T,T,T,T,T,T,T,T,T,T,T,F,F,F,F] rfl rfl HT_.out ?_
                 refine pV 30 (some 81) #[T,T,T,T,T,T,T,T,T,T,T,T,T,T,T,T,T,T,T,T,T,T,T,T,T,T,T,T,T,T,T,F,F,F] rfl rfl HT_.out ?_
                 refine pV 31 (some 82) #[T,T,T,T,T,T,T,T,T,T,T,T,T,T,T,T,T,T,T,T,T,T,T,T,T,T,T,T,T,T,T,T,F,F] rfl rfl HT_.out ?_
                 refine pV 32 (some 83) #[T,T,T,T,T,T,T,T,T,T,T,T,T,T,T,T,T,T,T,T,T,T,T,T,T,T,T,T,T,T,T,T,T,F] rfl rfl HT_.out ?_
                 refine pU 33 (some 84) #[T,T,T,T,T,T,T,T,T,T,T,T,T,T,T,T,T,T,T,T,T,T,T,T,T,T,T,T,T,T,T,T,T,T] rfl rfl HT_.out ?_
                 refine done_ (done_of HT_.out (by kernel_rfl)) ?_
                 try go_wp2
                 (try simp only [← hl8_3])
                 go_roundg kj24
                 case measure => have := HJ3.out; have := HK2.out; have := HK3.out; have := HJ24.out; omega
                 case rel => exact ⟨(x8_3), (wrap64 (x10_3 + 1)), nS, H', ⟨by have := HJ3.out; have := HK2.out; have := HK3.out; have := HJ24.out; omega⟩, ⟨by (try simp only [hl8_3]); (with_reducible repeat (first | apply Kd.R_alloc | apply Kd.R_drewN | apply Kd.R_drew)); exact HO_8.out⟩, ⟨by (try simp only [hl8_3]); (with_reducible repeat (first | refine blk_drewN ?_ _ | refine blk_drew ?_ | refine blk_alloc ?_ _)); exact BK508.out⟩, ⟨nH1 HB.out GE508.out⟩⟩
             · replace c27 := Bool.eq_false_iff.mpr c27
               subst c27
               have H1 : (spec_Relieve.l0 kj24 l0 l1 x8_3 (wrap64 (x9_2 - 1)) a2_0 a2_1 a2_2 a2_3) = some (r1, r2) := by rw [if_neg (show ¬ (false = true) by decide)] at H; exact H
               clear H; have H := H1; clear H1
               have H' := Aside0.mk H
               clear H; go_wp2
               (try simp only [← hl8_3])
               go_roundg kj24
               case measure => have := HJ3.out; have := HK2.out; have := HK3.out; have := HJ24.out; omega
               case rel => exact ⟨(x8_3), (wrap64 (x9_2 - 1)), nS, H', ⟨by have := HJ3.out; have := HK2.out; have := HK3.out; have := HJ24.out; omega⟩, ⟨by (try simp only [hl8_3]); (with_reducible repeat (first | apply Kd.R_alloc | apply Kd.R_drewN | apply Kd.R_drew)); exact HO_8.out⟩, ⟨by (try simp only [hl8_3]); (with_reducible repeat (first | refine blk_drewN ?_ _ | refine blk_drew ?_ | refine blk_alloc ?_ _)); exact BK508.out⟩, ⟨nH1 HB.out GE508.out⟩⟩
       · rw [if_neg c19] at H
         have c19b0 : decide (0 ≤ x9_2) = false := decide_eq_false c19
         clear c19
         by_cases c58 : 0 < (x8_2.length : Int)
         rotate_left
         · (rw [if_neg c58] at H; exact absurd H (by simp))
         rw [if_pos c58] at H
         have c58b0 : decide (0 < (x8_2.length : Int)) = true := decide_eq_true c58
         have c58b1 : decide (0 < x8_2.length) = true := decide_eq_true (by omega)
         clear c58
         by_cases c59 : (rd x8_2 0) < 0
         · rw [if_pos c59] at H
           have c59b0 : decide ((rd x8_2 0) < 0) = true := decide_eq_true c59
           clear c59
           simp only [Option.some.injEq, Prod.mk.injEq] at H
           obtain ⟨rfl, rfl⟩ := H
           obtain ⟨Ao60, co60, eo60⟩ := Kd.R_slice HO_8.out
           subst eo60
           have p525 : 0 ≤ (0 : Int) := (by omega)
           have q525 : 0 < (x8_2.length : Int) := of_decide_eq_true nQ
           obtain ⟨ad525, e525, hx525_0⟩ := Kd.at_int (Kd.R_reads' HO_8.out).2.2 0 p525 q525
           cases e525
           have qi525 : (0 < x8_2.length) = True := eq_true (by omega)
           (try rw [show ((0 : Int)).toNat = 0 from rfl] at hx525_0)
           (try rw [Addr.add_zero'] at hx525_0)
           replace p525 := eq_true p525; replace q525 := eq_true q525; go_wp2
           go_ret2
           exact ⟨_, by first | rfl | (simp [errW_none, errW_some] <;> rfl) | (simp only [← hji14]; first | rfl | (simp [errW_none, errW_some] <;> rfl)) | (simp [*, errW_none, errW_some] <;> first | rfl | (simp [wrap64]; done)), by first | exact Kd.R_nil _ _ _ _ _ | exact Kd.N_nil _ _ _ _ _ | exact Kd.V_nil _ _ _ _ _ | exact Kd.Q_nil _ _ _ _ _ | exact Kd.S_nil _ _ _ _ _, nH1 HB.out GE508.out⟩
         · rw [if_neg c59] at H
           have c59b0 : decide ((rd x8_2 0) < 0) = false := decide_eq_false c59
           clear c59
           obtain ⟨y526, hy526⟩ : ∃ y_ : List Int, y_ = (([] : List Int)) := ⟨_, rfl⟩
           replace H : (spec_Relieve.l2 k2 l0 l1 x8_2 y526 0 a2_0 a2_1 a2_2 a2_3) = some (r1, r2) := by first | (rw [hy526]; with_reducible exact H) | (have H2_ := (Option.bind_some _ _).symm.trans H; rw [hy526]; with_reducible exact H2_) | (have H2_ := (Option.bind_some _ _).symm.trans H; with_reducible exact H2_) | with_reducible exact H | (rw [hy526]; exact H) | exact H
           have Ny526 := Aside0.mk hy526
           clear hy526
           have H' := Aside0.mk H
           clear H
           obtain ⟨Ao61, co61, eo61⟩ := Kd.R_slice HO_8.out
           subst eo61
           have p525 : 0 ≤ (0 : Int) := (by omega)
           have q525 : 0 < (x8_2.length : Int) := of_decide_eq_true nQ
           obtain ⟨ad525, e525, hx525_0⟩ := Kd.at_int (Kd.R_reads' HO_8.out).2.2 0 p525 q525
           cases e525
           have qi525 : (0 < x8_2.length) = True := eq_true (by omega)
           (try rw [show ((0 : Int)).toNat = 0 from rfl] at hx525_0)
           (try rw [Addr.add_zero'] at hx525_0)
           replace p525 := eq_true p525; replace q525 := eq_true q525
           go_wp2_with (first | ((with_reducible refine gate_dst (N := 97) rfl ?_); refine Kd.R_lit (Kd.int .i64) _ 3 ?hg (N := 97) ?hd (xs := ([] : List Int)) (inner := []) (ok := fun _ => True) (okp := fun _ => True) ?hr ?hp (fun _ hk => hk) trivial (Below.refl _ _) (Nat.le_refl _) (by simp) ?_; (case hd => rfl); (case hg => rfl); (case hr => first | (go_simp; done) | (go_simp; rfl)); (case hp => exact (Reps.none _ _)); intro v527 w62 ho63 hb hg_ hnew_; clear hg_ hnew_; (first | rw [← Ny526.out] at ho63 | (simp only [Int.reduceToNat] at ho63; rw [← Ny526.out] at ho63)); have n0_ := Aside0.mk (Kd.R_elder' (nR HO_8.out) (Kd.R_base ho63) hb); have n1_ := Aside0.mk (Kd.R_lower (Kd.R_new' ho63 (Kd.R_lt (nR HO_8.out))) (below_size (nH1 HB.out GE508.out))); have n2_ := Aside0.mk (blk_below (g := gb508) (o := .cells #[.int .i64 a2_0, .int .i64 a2_1, .int .i64 a2_2, .int .i64 a2_3] 25 (0, 0)) (nB BK508.out) hb); have n3_ := Aside0.mk (below_step (nH1 HB.out GE508.out) hb); clear HO_8; clear BK508; clear HB; have HO_8 := n0_; have HO528 := n1_; have BK508 := n2_; have HB := n3_; clear n0_ n1_ n2_ n3_; clear hb ho63))
           go_loopg [11, 12] k2 (fun kq v11 v12 w' => ∃ (x11_3 : List Int) (x12_3 : Int), v12 = .int .i64 x12_3 ∧ Aside0 (spec_Relieve.l2 kq l0 l1 x8_2 x11_3 x12_3 a2_0 a2_1 a2_2 a2_3 = some (r1, r2)) ∧ Aside0 (kq ≤ k2) ∧ Aside0 (Kd.R (Kd.int .i64) 3 w' w.heap.size (fun k_ => some k_ ≠ (v11 : Value).ownBlock) (.slice (some ad525) x8_2.length co61) x8_2) ∧ Aside0 (Kd.R (Kd.int .i64) 3 w' w.heap.size (fun k_ => some k_ ≠ ((.slice (some ad525) x8_2.length co61) : Value).ownBlock) v11 x11_3) ∧ Aside0 (w'.heap[gb508]? = some (.cells #[.int .i64 a2_0, .int .i64 a2_1, .int .i64 a2_2, .int .i64 a2_3] 25 (0, 0))) ∧ Aside0 (Below w.heap.size w w'))
           case atStart => exact ⟨(y526), (0), nS, H', ⟨Nat.le_refl _⟩, ⟨by (with_reducible repeat (first | apply Kd.R_alloc | apply Kd.R_drewN | apply Kd.R_drew)); exact Kd.R_mono HO_8.out (fun _ hk => hk.2)⟩, ⟨by (with_reducible repeat (first | apply Kd.R_alloc | apply Kd.R_drewN | apply Kd.R_drew)); exact Kd.R_mono HO528.out (fun _ hk => hk.2)⟩, ⟨by (with_reducible repeat (first | refine blk_drewN ?_ _ | refine blk_drew ?_ | refine blk_alloc ?_ _)); exact BK508.out⟩, ⟨nH1 HB.out GE508.out⟩⟩
           case round =>
            clear H'
            try clear c1; try clear c2; try clear p2; try clear c3; try clear c5; try clear p5; try clear q5; try clear hx5; try clear qi5; try clear p6; try clear c19; try clear c19b0; try clear c20; try clear c21; try clear c22; try clear c27; try clear c28; try clear c29; try clear c30; try clear c30b0; try clear c31; try clear c32; try clear c33; try clear c35; try clear c35b0; try clear c35b1; try clear c36; try clear p51; try clear q51; try clear hx51; try clear p52; try clear q52; try clear hx52; try clear qi52; try clear c58; try clear c58b0; try clear c58b1; try clear c59; try clear c59b0
            try clear hx515_0; try clear hx525_0; try clear p515; try clear p525; try clear q515; try clear q525
            obtain ⟨x11_3, x12_3, rfl, HA, HK3, HO_8, HO_11, BK508, HB⟩ := hrel
            cases gk with
            | zero => exact absurd HA.out (by simp [spec_Relieve.l2])
            | succ k3 =>
             have H := HA.out; clear HA
             simp only [spec_Relieve.l2] at H
             by_cases c64 : x12_3 < (l1.length : Int)
             · rw [if_pos c64] at H
               have c64b0 : decide (x12_3 < (l1.length : Int)) = true := decide_eq_true c64
               clear c64
               by_cases c65 : x11_3.length < 17592186044416
               rotate_left
               · (rw [if_neg c65] at H; exact absurd H (by simp))
               rw [if_pos c65] at H
               have LMc65 := Aside0.mk c65
               clear c65
               obtain ⟨y529, hy529⟩ : ∃ y_ : List Int, y_ = (x11_3 ++ [x12_3]) := ⟨_, rfl⟩
               replace H : (spec_Relieve.l3 k3 l0 l1 x8_2 y529 x12_3 (wrap64 (x12_3 + 1)) a2_0 a2_1 a2_2 a2_3) = some (r1, r2) := by first | (rw [hy529]; with_reducible exact H) | (have H2_ := (Option.bind_some _ _).symm.trans H; rw [hy529]; with_reducible exact H2_) | (have H2_ := (Option.bind_some _ _).symm.trans H; with_reducible exact H2_) | with_reducible exact H | (rw [hy529]; exact H) | exact H
               have Ny529 := Aside0.mk hy529
               clear hy529
               have H' := Aside0.mk H
               clear H
               go_wp2_with (first | ((with_reducible refine gate_builtin (b := .append) (xs := #[.tmp 102, .tmp 104]) rfl ?_); at_builtin; refine Kd.R_append (Kd.int .i64) (w0 := w) w.heap.size rfl (.tmp 102) (.tmp 104) 29 3 (.int .i64 0) 8 rfl Try.underlying29 info3 rfl (by decide) (by omega) u11 x11_3 x12_3 [.int .i64 x12_3] (fun k_ => some k_ ≠ (.slice (some ad525) x8_2.length co61 : Value).ownBlock) (fun _ => False) rfl rfl ?aP (fun _ hk => hk.elim) ?aF ?aO ?aB ?aS ?aL ?_; (case aP => exact rfl); (case aB => exact (nH1 HB.out GE508.out)); (case aF => exact (fun k_ hk => Kd.fresh' (Kd.R_lt (nR HO_8.out)) k_ hk)); (case aO => exact (nR HO_11.out)); (case aS => exact (below_size (nH1 HB.out GE508.out))); (case aL => have := LMc65.out; omega); intro v530 w66 ho hb hg hat; rw [← Ny529.out] at ho; have n0_ := Aside0.mk (Kd.R_after (ok := (fun _ => True)) (by (with_reducible repeat (first | apply Kd.R_alloc | apply Kd.R_drewN | apply Kd.R_drew)); exact Kd.R_mono HO_8.out (fun _ hk => ⟨trivial, hk⟩)) hg hat); have n1_ := Aside0.mk (blk_grown (g := gb508) (o := .cells #[.int .i64 a2_0, .int .i64 a2_1, .int .i64 a2_2, .int .i64 a2_3] 25 (0, 0)) (nB BK508.out) hg (Kd.R_ne HO_11.out BK508.out (by decide))); have n2_ := Aside0.mk (hb); have n3_ := Aside0.mk (ho); clear HO_8; clear BK508; clear HB; clear HO_11; have HO_8 := n0_; have BK508 := n1_; have HB := n2_; have HO531 := n3_; clear n0_ n1_ n2_ n3_; clear ho hb hg hat))
               go_loopg [12, 13] k3 (fun kq v12 v13 w' => ∃ (x12_4 : Int) (x13_4 : Int), v12 = .int .i64 x12_4 ∧ v13 = .int .i64 x13_4 ∧ Aside0 (spec_Relieve.l3 kq l0 l1 x8_2 y529 x12_4 x13_4 a2_0 a2_1 a2_2 a2_3 = some (r1, r2)) ∧ Aside0 (kq ≤ k3) ∧ Aside0 (Kd.R (Kd.int .i64) 3 w' w.heap.size (fun k_ => some k_ ≠ (v530 : Value).ownBlock) (.slice (some ad525) x8_2.length co61) x8_2) ∧ Aside0 (Kd.R (Kd.int .i64) 3 w' w.heap.size (fun k_ => some k_ ≠ ((.slice (some ad525) x8_2.length co61) : Value).ownBlock) v530 y529) ∧ Aside0 (w'.heap[gb508]? = some (.cells #[.int .i64 a2_0, .int .i64 a2_1, .int .i64 a2_2, .int .i64 a2_3] 25 (0, 0))) ∧ Aside0 (Below w.heap.size w w'))
               case atStart => exact ⟨(x12_3), (wrap64 (x12_3 + 1)), nS, nS, H', ⟨Nat.le_refl _⟩, ⟨by (with_reducible repeat (first | apply Kd.R_alloc | apply Kd.R_drewN | apply Kd.R_drew)); exact Kd.R_mono HO_8.out (fun _ hk => hk.2)⟩, ⟨by (with_reducible repeat (first | apply Kd.R_alloc | apply Kd.R_drewN | apply Kd.R_drew)); exact HO531.out⟩, ⟨by (with_reducible repeat (first | refine blk_drewN ?_ _ | refine blk_drew ?_ | refine blk_alloc ?_ _)); exact BK508.out⟩, ⟨nH1 HB.out GE508.out⟩⟩
               case round =>
                clear H'
                try clear c1; try clear c2; try clear p2; try clear c3; try clear c5; try clear p5; try clear q5; try clear hx5; try clear qi5; try clear c6; try clear p6; try clear c19; try clear c19b0; try clear c20; try clear c21; try clear c22; try clear c27; try clear c28; try clear c29; try clear c30; try clear c30b0; try clear c31; try clear c32; try clear c33; try clear c35; try clear c35b0; try clear c35b1; try clear c36; try clear p51; try clear q51; try clear hx51; try clear p52; try clear q52; try clear hx52; try clear qi52; try clear c58; try clear c58b0; try clear c58b1; try clear c59
                try clear c59b0; try clear c64; try clear c64b0; try clear p64; try clear c65; try clear hx515_0; try clear hx525_0; try clear p2; try clear p5; try clear p51; try clear p515; try clear p52; try clear p525; try clear p6; try clear q5; try clear q51; try clear q515; try clear q52; try clear q525
                obtain ⟨x12_4, x13_4, rfl, rfl, HA, HK4, HO_8, HO_11, BK508, HB⟩ := hrel
                cases gk with
                | zero => exact absurd HA.out (by simp [spec_Relieve.l3])
                | succ k4 =>
                 have H := HA.out; clear HA
                 simp only [spec_Relieve.l3] at H
                 by_cases c67 : x13_4 ≤ (l1.length : Int)
                 · rw [if_pos c67] at H
                   have c67b0 : decide (x13_4 ≤ (l1.length : Int)) = true := decide_eq_true c67
                   clear c67
                   by_cases c68 : 0 ≤ x13_4
                   rotate_left
                   · (rw [if_neg c68] at H; exact absurd H (by simp))
                   rw [if_pos c68] at H
                   have c68b0 : decide (0 ≤ x13_4) = true := decide_eq_true c68
                   clear c68
                   by_cases c69 : x13_4 < (x8_2.length : Int)
                   rotate_left
                   · (rw [if_neg c69] at H; exact absurd H (by simp))
                   rw [if_pos c69] at H
                   have c69b0 : decide (x13_4 < (x8_2.length : Int)) = true := decide_eq_true c69
                   clear c69
                   by_cases c70 : (rd x8_2 x13_4) ≥ 0
                   · rw [if_pos c70] at H
                     have c70b0 : decide (0 ≤ (rd x8_2 x13_4)) = true := decide_eq_true c70
                     clear c70
                     by_cases c71 : 0 ≤ x12_4
                     rotate_left
                     · (rw [if_neg c71] at H; exact absurd H (by simp))
                     rw [if_pos c71] at H
                     have c71b0 : decide (0 ≤ x12_4) = true := decide_eq_true c71
                     clear c71
                     by_cases c72 : x12_4 < (x8_2.length : Int)
                     rotate_left
                     · (rw [if_neg c72] at H; exact absurd H (by simp))
                     rw [if_pos c72] at H
                     have c72b0 : decide (x12_4 < (x8_2.length : Int)) = true := decide_eq_true c72
                     clear c72
                     by_cases c73 : (wrap64 ((rd x8_2 x13_4) + 1)) = (rd x8_2 x12_4)
                     · rw [if_pos c73] at H
                       have c73b0 : ((wrap64 ((rd x8_2 x13_4) + 1)) == (rd x8_2 x12_4)) = true := beq_iff_eq.mpr c73
                       have c73b1 : ((wrap64 ((rd x8_2 x13_4) + 1)) != (rd x8_2 x12_4)) = false := bne_eq_false_iff_eq.mpr c73
                       clear c73
                       have c74b0 := eq_true (of_decide_eq_true nQ : 0 ≤ x12_4)
                       by_cases c75 : x12_4 ≤ x13_4
                       rotate_left
                       · (rw [if_neg c75] at H; exact absurd H (by simp))
                       rw [if_pos c75] at H
                       have c75b0 := eq_true c75
                       have c75b1 : decide (x12_4 ≤ x13_4) = true := decide_eq_true c75
                       clear c75
                       have c76b0 := eq_true (of_decide_eq_true nQ : x13_4 ≤ (l1.length : Int))
                       replace H := Option.bind_eq_some_iff.mp H
                       obtain ⟨t536, A770, H⟩ := H
                       replace H : (if t536 = 0 then (spec_Relieve.l2 k4 l0 l1 x8_2 y529 x13_4 a2_0 a2_1 a2_2 a2_3) else (spec_Relieve.l3 k4 l0 l1 x8_2 y529 x12_4 (wrap64 (x13_4 + 1)) a2_0 a2_1 a2_2 a2_3)) = some (r1, r2) := H
                       have A77 := Aside0.mk A770
                       clear A770
                       by_cases c78 : t536 = 0
                       · rw [if_pos c78] at H
                         have c78b0 : (t536 == 0) = true := beq_iff_eq.mpr c78
                         have c78b1 : (t536 != 0) = false := bne_eq_false_iff_eq.mpr c78
                         clear c78
                         have H' := Aside0.mk H
                         clear H
                         try go_wp2
                         have n0_ := Aside0.mk (Kd.R_drew HO_8.out)
                         have n1_ := Aside0.mk (Kd.R_drew HO_11.out)
                         have n2_ := Aside0.mk (blk_drew BK508.out)
                         have n3_ := Aside0.mk (below_drew1 HB.out)
                         clear HO_8; clear HO_11; clear BK508; clear HB; have HO_8 := n0_; have HO_11 := n1_; have BK508 := n2_; have HB := n3_; clear n0_ n1_ n2_ n3_
                         have p532 : 0 ≤ (x13_4 : Int) := of_decide_eq_true nQ
                         have q532 : x13_4 < (x8_2.length : Int) := of_decide_eq_true nQ
                         obtain ⟨ad532, e532, hx532_0⟩ := Kd.at_int (Kd.R_reads' HO_8.out).2.2 x13_4 p532 q532
                         obtain rfl : ad525 = ad532 := (by injection e532)
                         replace p532 := eq_true p532; replace q532 := eq_true q532
                         have p533 : 0 ≤ (x13_4 : Int) := of_decide_eq_true nQ
                         have q533 : x13_4 < (x8_2.length : Int) := of_decide_eq_true nQ
                         obtain ⟨ad533, e533, hx533_0⟩ := Kd.at_int (Kd.R_reads' HO_8.out).2.2 x13_4 p533 q533
                         obtain rfl : ad525 = ad533 := (by injection e533)
                         replace p533 := eq_true p533; replace q533 := eq_true q533
                         have p534 : 0 ≤ (x12_4 : Int) := of_decide_eq_true nQ
                         have q534 : x12_4 < (x8_2.length : Int) := of_decide_eq_true nQ
                         obtain ⟨ad534, e534, hx534_0⟩ := Kd.at_int (Kd.R_reads' HO_8.out).2.2 x12_4 p534 q534
                         obtain rfl : ad525 = ad534 := (by injection e534)
                         replace p534 := eq_true p534; replace q534 := eq_true q534
                         obtain ⟨i080, hi080, _, hsz80, _⟩ := info_parts info3
                         obtain ⟨A80, hcut80, hA80, hC80⟩ := print_mid_of (P := Try.prog) (Value.int .i64) 0 29 3 .i64 .i64 Try.underlying29 hi080 hsz80 A1 c1 l1 x12_4 x13_4 (of_decide_eq_true nQ) (by first | omega | exact of_decide_eq_true nQ) (of_decide_eq_true nQ) HC1.out
                         have HR535 := Aside0.mk (Kd.C_of_reads (h1 := fun _ => rfl) (hA80 _ (Kd.reads_of_C HR1.out)))
                         have HC535 := Aside0.mk hC80
                         clear hA80 hC80 hi080 hsz80
                         refine start_ (n := 27) (S := fun w' => w'.cell? ⟨gb508, 0, none⟩ = some (.int .i64 a2_0) ∧ w'.cell? ⟨gb508, 1, none⟩ = some (.int .i64 a2_1) ∧ w'.cell? ⟨gb508, 2, none⟩ = some (.int .i64 a2_2) ∧ w'.cell? ⟨gb508, 3, none⟩ = some (.int .i64 a2_3) ∧ w'.cell? (ad525.add (x13_4).toNat) = some (.int .i64 (rd x8_2 x13_4)) ∧ w'.cell? (ad525.add (x13_4).toNat) = some (.int .i64 (rd x8_2 x13_4)) ∧ w'.cell? (ad525.add (x12_4).toNat) = some (.int .i64 (rd x8_2 x12_4))) (ds := []) #[F,F,F,F,F,F,F,F,F,F,F,F,F,F,F,F,F,F,F,F,F,F,F,F,F,F,F] (by kernel_rfl) rfl rfl ⟨(blk_cell BK508.out 0).trans rfl, (blk_cell BK508.out 1).trans rfl, (blk_cell BK508.out 2).trans rfl, (blk_cell BK508.out 3).trans rfl, hx532_0, hx533_0, hx534_0⟩ (fun hHeld => ?_); refine with_tabW spec_Relieve.tab22 spec_Relieve.bits22 (fun HT_ HW_ => ?_)
                         generalize wr.drew = w79 at HO_8 HO_11 BK508 HB HR535 hx532_0 hx533_0 hx534_0 hHeld ⊢
                         refine pU 0 (some 114) #[T,F,F,F,F,F,F,F,F,F,F,F,F,F,F,F,F,F,F,F,F,F,F,F,F,F,F] rfl rfl HT_.out ?_
                         refine pU 1 (some 115) #[T,T,F,F,F,F,F,F,F,F,F,F,F,F,F,F,F,F,F,F,F,F,F,F,F,F,F] rfl rfl HT_.out ?_
                         refine pU 2 (some 116) #[T,T,T,F,F,F,F,F,F,F,F,F,F,F,F,F,F,F,F,F,F,F,F,F,F,F,F] rfl rfl HT_.out ?_
                         refine tU7 3 (some 117) #[T,T,T,T,F,F,F,F,F,F,F,F,F,F,F,F,F,F,F,F,F,F,F,F,F,F,F] rfl rfl HT_.out HW_.out hHeld ?_
                         refine pU 4 (some 118) #[T,T,T,T,T,F,F,F,F,F,F,F,F,F,F,F,F,F,F,F,F,F,F,F,F,F,F] rfl rfl HT_.out ?_
                         refine pU 5 (some 119) #[T,T,T,T,T,T,F,F,F,F,F,F,F,F,F,F,F,F,F,F,F,F,F,F,F,F,F] rfl rfl HT_.out ?_
                         refine pU 6 (some 120) #[T,T,T,T,T,T,T,F,F,F,F,F,F,F,F,F,F,F,F,F,F,F,F,F,F,F,F] rfl rfl HT_.out ?_
                         refine pU 7 (some 121) #[T,T,T,T,T,T,T,T,F,F,F,F,F,F,F,F,F,F,F,F,F,F,F,F,F,F,F] rfl rfl HT_.out ?_
                         refine pU 8 (some 122) #[T,T,T,T,T,T,T,T,T,F,F,F,F,F,F,F,F,F,F,F,F,F,F,F,F,F,F] rfl rfl HT_.out ?_
                         refine pU 11 (some 125) #[T,T,T,T,T,T,T,T,T,F,F,T,F,F,F,F,F,F,F,F,F,F,F,F,F,F,F] rfl rfl HT_.out ?_
                         refine pU 12 (some 126) #[T,T,T,T,T,T,T,T,T,F,F,T,T,F,F,F,F,F,F,F,F,F,F,F,F,F,F] rfl rfl HT_.out ?_
                         refine pU 13 (some 127) #[T,T,T,T,T,T,T,T,T,F,F,T,T,T,F,F,F,F,F,F,F,F,F,F,F,F,F] rfl rfl HT_.out ?_
                         refine tU7 9 (some 123) #[T,T,T,T,T,T,T,T,T,T,F,T,T,T,F,F,F,F,F,F,F,F,F,F,F,F,F] rfl rfl HT_.out HW_.out hHeld ?_
                         refine pU 10 (some 124) #[T,T,T,T,T,T,T,T,T,T,T,T,T,T,F,F,F,F,F,F,F,F,F,F,F,F,F] rfl rfl HT_.out ?_
                         refine tU7 14 (some 128) #[T,T,T,T,T,T,T,T,T,T,T,T,T,T,T,F,F,F,F,F,F,F,F,F,F,F,F] rfl rfl HT_.out HW_.out hHeld ?_
                         refine pU 15 (some 129) #[T,T,T,T,T,T,T,T,T,T,T,T,T,T,T,T,F,F,F,F,F,F,F,F,F,F,F] rfl rfl HT_.out ?_
                         refine pU 16 (some 130) #[T,T,T,T,T,T,T,T,T,T,T,T,T,T,T,T,T,F,F,F,F,F,F,F,F,F,F] rfl rfl HT_.out ?_
                         refine pU 17 (some 131) #[T,T,T,T,T,T,T,T,T,T,T,T,T,T,T,T,T,T,F,F,F,F,F,F,F,F,F] rfl rfl HT_.out ?_
                         refine pU 18 (some 132) #[T,T,T,T,T,T,T,T,T,T,T,T,T,T,T,T,T,T,T,F,F,F,F,F,F,F,F] rfl rfl HT_.out ?_
                         refine pU 19 (some 133) #[T,T,T,T,T,T,T,T,T,T,T,T,T,T,T,T,T,T,T,T,F,F,F,F,F,F,F] rfl rfl HT_.out ?_
                         refine pU 20 (some 134) #[T,T,T,T,T,T,T,T,T,T,T,T,T,T,T,T,T,T,T,T,T,F,F,F,F,F,F] rfl rfl HT_.out ?_
                         refine pU 21 (some 135) #[T,T,T,T,T,T,T,T,T,T,T,T,T,T,T,T,T,T,T,T,T,T,F,F,F,F,F] rfl rfl HT_.out ?_
                         refine pU 22 (some 136) #[T,T,T,T,T,T,T,T,T,T,T,T,T,T,T,T,T,T,T,T,T,T,T,F,F,F,F] rfl rfl HT_.out ?_
                         refine tU7 23 (some 137) #[T,T,T,T,T,T,T,T,T,T,T,T,T,T,T,T,T,T,T,T,T,T,T,T,F,F,F] rfl rfl HT_.out HW_.out hHeld ?_
                         refine one_ (i := 24) (N := some 138) #[T,T,T,T,T,T,T,T,T,T,T,T,T,T,T,T,T,T,T,T,T,T,T,T,T,F,F] rfl rfl (one_of HT_.out (by kernel_rfl)) (by decide) (fun K hK => ?_)
                         refine goes_ Try.func22 (by kernel_rfl) rfl #[.slice A0 l0.length c0, .slice A80 ((l1.take (x13_4 : Int).toNat).drop (x12_4 : Int).toNat).length (c1 - x12_4.toNat), .agg #[.int .i64 a2_0, .int .i64 a2_1, .int .i64 a2_2, .int .i64 a2_3]] (by rfl) rfl rfl (by (try simp only [List.map_toArray, List.map_cons, List.map_nil]); first | done | (rw [show ((l1.take (x13_4 : Int).toNat).drop (x12_4 : Int).toNat).length = (x13_4.toNat - x12_4.toNat) from (by rw [List.length_drop, List.length_take]; have h_ : (x13_4 : Int) ≤ (l1.length : Int) := of_decide_eq_true nQ; omega)] <;> rfl) | rfl | (simp only [List.length_drop, List.length_take]; rfl)) ?_
                         with_reducible refine (spec_DutyCode.calls k4 _ _ l0 _ _ ((l1.take (x13_4 : Int).toNat).drop (x12_4 : Int).toNat) a2_0 a2_1 a2_2 a2_3 t536 _ ?side1 ?side2 ?side3 ?side4 A77.out).mono ?_
                         (case side1 => repeat (first | exact (Kd.C_below HR0.out HB.out) | (with_reducible refine Kd.C_alloc ?_ _) | (with_reducible refine Kd.C_drewN ?_ _) | (with_reducible refine Kd.C_drew ?_)))
                         (case side2 => exact HC0.out)
                         (case side3 => repeat (first | exact (Kd.C_below HR535.out HB.out) | (with_reducible refine Kd.C_alloc ?_ _) | (with_reducible refine Kd.C_drewN ?_ _) | (with_reducible refine Kd.C_drew ?_)))
                         (case side4 => exact HC535.out)
                         rintro e w81 ⟨rfl, hb⟩
                         have HS4_ := (hb.cell (World.block_lt_of_cell? _ _ (hHeld.2.2.2.2.1))).trans (hHeld.2.2.2.2.1)
                         have HS5_ := (hb.cell (World.block_lt_of_cell? _ _ (hHeld.2.2.2.2.2.1))).trans (hHeld.2.2.2.2.2.1)
                         have HS6_ := (hb.cell (World.block_lt_of_cell? _ _ (hHeld.2.2.2.2.2.2))).trans (hHeld.2.2.2.2.2.2)
                         refine ⟨_, rfl, ?_⟩
                         have n0_ := Aside0.mk (Kd.R_below (nR HO_8.out) hb)
                         have n1_ := Aside0.mk (Kd.R_below (nR HO_11.out) hb)
                         have n2_ := Aside0.mk (blk_below (g := gb508) (o := .cells #[.int .i64 a2_0, .int .i64 a2_1, .int .i64 a2_2, .int .i64 a2_3] 25 (0, 0)) (nB BK508.out) hb)
                         have n3_ := Aside0.mk (below_step (nH1 HB.out GE508.out) hb)
                         clear HO_8; clear HO_11; clear BK508; clear HB; have HO_8 := n0_; have HO_11 := n1_; have BK508 := n2_; have HB := n3_; clear n0_ n1_ n2_ n3_; (try clear hb); (try clear hb2); (try clear hk); (try clear hi)
                         refine hK.out _ _ ⟨(blk_cell BK508.out 0).trans rfl, (blk_cell BK508.out 1).trans rfl, (blk_cell BK508.out 2).trans rfl, (blk_cell BK508.out 3).trans rfl, HS4_, HS5_, HS6_⟩ (fun hHeld => ?_)
                         clear hK K
                         refine norm_ (a' := ?_) ?_ ?_
                         rotate_left
                         · show Act.put _ (some 138) _ = _
                           simp only [Act.put, List.setIfInBounds_toArray, List.set_cons_zero, List.set_cons_succ, i64_w, i32_w]
                           rfl
                         refine pU 25 (some 139) #[T,T,T,T,T,T,T,T,T,T,T,T,T,T,T,T,T,T,T,T,T,T,T,T,T,T,F] rfl rfl HT_.out ?_
                         refine pU 26 (some 140) #[T,T,T,T,T,T,T,T,T,T,T,T,T,T,T,T,T,T,T,T,T,T,T,T,T,T,T] rfl rfl HT_.out ?_
                         refine done_ (done_of HT_.out (by kernel_rfl)) ?_
                         try go_wp2
                         go_roundg k4
                         case measure => have := HJ3.out; have := HK2.out; have := HK3.out; have := HK4.out; omega
                         case rel => exact ⟨(y529), (x13_4), nS, H', ⟨by have := HJ3.out; have := HK2.out; have := HK3.out; have := HK4.out; omega⟩, ⟨by (with_reducible repeat (first | apply Kd.R_alloc | apply Kd.R_drewN | apply Kd.R_drew)); exact HO_8.out⟩, ⟨by (with_reducible repeat (first | apply Kd.R_alloc | apply Kd.R_drewN | apply Kd.R_drew)); exact HO_11.out⟩, ⟨by (with_reducible repeat (first | refine blk_drewN ?_ _ | refine blk_drew ?_ | refine blk_alloc ?_ _)); exact BK508.out⟩, ⟨nH1 HB.out GE508.out⟩⟩
                       · rw [if_neg c78] at H
                         have c78b0 : (t536 == 0) = false := beq_eq_false_iff_ne.mpr c78
                         have c78b1 : (t536 != 0) = true := bne_iff_ne.mpr c78
                         have H' := Aside0.mk H
                         clear H
                         try go_wp2
                         have n0_ := Aside0.mk (Kd.R_drew HO_8.out)
                         have n1_ := Aside0.mk (Kd.R_drew HO_11.out)
                         have n2_ := Aside0.mk (blk_drew BK508.out)
                         have n3_ := Aside0.mk (below_drew1 HB.out)
                         clear HO_8; clear HO_11; clear BK508; clear HB; have HO_8 := n0_; have HO_11 := n1_; have BK508 := n2_; have HB := n3_; clear n0_ n1_ n2_ n3_
                         have p532 : 0 ≤ (x13_4 : Int) := of_decide_eq_true nQ
                         have q532 : x13_4 < (x8_2.length : Int) := of_decide_eq_true nQ
                         obtain ⟨ad532, e532, hx532_0⟩ := Kd.at_int (Kd.R_reads' HO_8.out).2.2 x13_4 p532 q532
                         obtain rfl : ad525 = ad532 := (by injection e532)
                         replace p532 := eq_true p532; replace q532 := eq_true q532
                         have p533 : 0 ≤ (x13_4 : Int) := of_decide_eq_true nQ
                         have q533 : x13_4 < (x8_2.length : Int) := of_decide_eq_true nQ
                         obtain ⟨ad533, e533, hx533_0⟩ := Kd.at_int (Kd.R_reads' HO_8.out).2.2 x13_4 p533 q533
                         obtain rfl : ad525 = ad533 := (by injection e533)
                         replace p533 := eq_true p533; replace q533 := eq_true q533
                         have p534 : 0 ≤ (x12_4 : Int) := of_decide_eq_true nQ
                         have q534 : x12_4 < (x8_2.length : Int) := of_decide_eq_true nQ
                         obtain ⟨ad534, e534, hx534_0⟩ := Kd.at_int (Kd.R_reads' HO_8.out).2.2 x12_4 p534 q534
                         obtain rfl : ad525 = ad534 := (by injection e534)
                         replace p534 := eq_true p534; replace q534 := eq_true q534
                         obtain ⟨i083, hi083, _, hsz83, _⟩ := info_parts info3
                         obtain ⟨A83, hcut83, hA83, hC83⟩ := print_mid_of (P := Try.prog) (Value.int .i64) 0 29 3 .i64 .i64 Try.underlying29 hi083 hsz83 A1 c1 l1 x12_4 x13_4 (of_decide_eq_true nQ) (by first | omega | exact of_decide_eq_true nQ) (of_decide_eq_true nQ) HC1.out
                         have HR535 := Aside0.mk (Kd.C_of_reads (h1 := fun _ => rfl) (hA83 _ (Kd.reads_of_C HR1.out)))
                         have HC535 := Aside0.mk hC83
                         clear hA83 hC83 hi083 hsz83
                         refine start_ (n := 27) (S := fun w' => w'.cell? ⟨gb508, 0, none⟩ = some (.int .i64 a2_0) ∧ w'.cell? ⟨gb508, 1, none⟩ = some (.int .i64 a2_1) ∧ w'.cell? ⟨gb508, 2, none⟩ = some (.int .i64 a2_2) ∧ w'.cell? ⟨gb508, 3, none⟩ = some (.int .i64 a2_3) ∧ w'.cell? (ad525.add (x13_4).toNat) = some (.int .i64 (rd x8_2 x13_4)) ∧ w'.cell? (ad525.add (x13_4).toNat) = some (.int .i64 (rd x8_2 x13_4)) ∧ w'.cell? (ad525.add (x12_4).toNat) = some (.int .i64 (rd x8_2 x12_4))) (ds := []) #[F,F,F,F,F,F,F,F,F,F,F,F,F,F,F,F,F,F,F,F,F,F,F,F,F,F,F] (by kernel_rfl) rfl rfl ⟨(blk_cell BK508.out 0).trans rfl, (blk_cell BK508.out 1).trans rfl, (blk_cell BK508.out 2).trans rfl, (blk_cell BK508.out 3).trans rfl, hx532_0, hx533_0, hx534_0⟩ (fun hHeld => ?_); refine with_tabW spec_Relieve.tab22 spec_Relieve.bits22 (fun HT_ HW_ => ?_)
                         generalize wr.drew = w82 at HO_8 HO_11 BK508 HB HR535 hx532_0 hx533_0 hx534_0 hHeld ⊢
                         refine pU 0 (some 114) #[T,F,F,F,F,F,F,F,F,F,F,F,F,F,F,F,F,F,F,F,F,F,F,F,F,F,F] rfl rfl HT_.out ?_
                         refine pU 1 (some 115) #[T,T,F,F,F,F,F,F,F,F,F,F,F,F,F,F,F,F,F,F,F,F,F,F,F,F,F] rfl rfl HT_.out ?_
                         refine pU 2 (some 116) #[T,T,T,F,F,F,F,F,F,F,F,F,F,F,F,F,F,F,F,F,F,F,F,F,F,F,F] rfl rfl HT_.out ?_
                         refine tU7 3 (some 117) #[T,T,T,T,F,F,F,F,F,F,F,F,F,F,F,F,F,F,F,F,F,F,F,F,F,F,F] rfl rfl HT_.out HW_.out hHeld ?_
                         refine pU 4 (some 118) #[T,T,T,T,T,F,F,F,F,F,F,F,F,F,F,F,F,F,F,F,F,F,F,F,F,F,F] rfl rfl HT_.out ?_
                         refine pU 5 (some 119) #[T,T,T,T,T,T,F,F,F,F,F,F,F,F,F,F,F,F,F,F,F,F,F,F,F,F,F] rfl rfl HT_.out ?_
                         refine pU 6 (some 120) #[T,T,T,T,T,T,T,F,F,F,F,F,F,F,F,F,F,F,F,F,F,F,F,F,F,F,F] rfl rfl HT_.out ?_
                         refine pU 7 (some 121) #[T,T,T,T,T,T,T,T,F,F,F,F,F,F,F,F,F,F,F,F,F,F,F,F,F,F,F] rfl rfl HT_.out ?_
                         refine pU 8 (some 122) #[T,T,T,T,T,T,T,T,T,F,F,F,F,F,F,F,F,F,F,F,F,F,F,F,F,F,F] rfl rfl HT_.out ?_
                         refine pU 11 (some 125) #[T,T,T,T,T,T,T,T,T,F,F,T,F,F,F,F,F,F,F,F,F,F,F,F,F,F,F] rfl rfl HT_.out ?_
                         refine pU 12 (some 126) #[T,T,T,T,T,T,T,T,T,F,F,T,T,F,F,F,F,F,F,F,F,F,F,F,F,F,F] rfl rfl HT_.out ?_
                         refine pU 13 (some 127) #[T,T,T,T,T,T,T,T,T,F,F,T,T,T,F,F,F,F,F,F,F,F,F,F,F,F,F] rfl rfl HT_.out ?_
                         refine tU7 9 (some 123) #[T,T,T,T,T,T,T,T,T,T,F,T,T,T,F,F,F,F,F,F,F,F,F,F,F,F,F] rfl rfl HT_.out HW_.out hHeld ?_
                         refine pU 10 (some 124) #[T,T,T,T,T,T,T,T,T,T,T,T,T,T,F,F,F,F,F,F,F,F,F,F,F,F,F] rfl rfl HT_.out ?_
                         refine tU7 14 (some 128) #[T,T,T,T,T,T,T,T,T,T,T,T,T,T,T,F,F,F,F,F,F,F,F,F,F,F,F] rfl rfl HT_.out HW_.out hHeld ?_
                         refine pU 15 (some 129) #[T,T,T,T,T,T,T,T,T,T,T,T,T,T,T,T,F,F,F,F,F,F,F,F,F,F,F] rfl rfl HT_.out ?_
                         refine pU 16 (some 130) #[T,T,T,T,T,T,T,T,T,T,T,T,T,T,T,T,T,F,F,F,F,F,F,F,F,F,F] rfl rfl HT_.out ?_
                         refine pU 17 (some 131) #[T,T,T,T,T,T,T,T,T,T,T,T,T,T,T,T,T,T,F,F,F,F,F,F,F,F,F] rfl rfl HT_.out ?_
                         refine pU 18 (some 132) #[T,T,T,T,T,T,T,T,T,T,T,T,T,T,T,T,T,T,T,F,F,F,F,F,F,F,F] rfl rfl HT_.out ?_
                         refine pU 19 (some 133) #[T,T,T,T,T,T,T,T,T,T,T,T,T,T,T,T,T,T,T,T,F,F,F,F,F,F,F] rfl rfl HT_.out ?_
                         refine pU 20 (some 134) #[T,T,T,T,T,T,T,T,T,T,T,T,T,T,T,T,T,T,T,T,T,F,F,F,F,F,F] rfl rfl HT_.out ?_
                         refine pU 21 (some 135) #[T,T,T,T,T,T,T,T,T,T,T,T,T,T,T,T,T,T,T,T,T,T,F,F,F,F,F] rfl rfl HT_.out ?_
                         refine pU 22 (some 136) #[T,T,T,T,T,T,T,T,T,T,T,T,T,T,T,T,T,T,T,T,T,T,T,F,F,F,F] rfl rfl HT_.out ?_
                         refine tU7 23 (some 137) #[T,T,T,T,T,T,T,T,T,T,T,T,T,T,T,T,T,T,T,T,T,T,T,T,F,F,F] rfl rfl HT_.out HW_.out hHeld ?_
                         refine one_ (i := 24) (N := some 138) #[T,T,T,T,T,T,T,T,T,T,T,T,T,T,T,T,T,T,T,T,T,T,T,T,T,F,F] rfl rfl (one_of HT_.out (by kernel_rfl)) (by decide) (fun K hK => ?_)
                         refine goes_ Try.func22 (by kernel_rfl) rfl #[.slice A0 l0.length c0, .slice A83 ((l1.take (x13_4 : Int).toNat).drop (x12_4 : Int).toNat).length (c1 - x12_4.toNat), .agg #[.int .i64 a2_0, .int .i64 a2_1, .int .i64 a2_2, .int .i64 a2_3]] (by rfl) rfl rfl (by (try simp only [List.map_toArray, List.map_cons, List.map_nil]); first | done | (rw [show ((l1.take (x13_4 : Int).toNat).drop (x12_4 : Int).toNat).length = (x13_4.toNat - x12_4.toNat) from (by rw [List.length_drop, List.length_take]; have h_ : (x13_4 : Int) ≤ (l1.length : Int) := of_decide_eq_true nQ; omega)] <;> rfl) | rfl | (simp only [List.length_drop, List.length_take]; rfl)) ?_
                         with_reducible refine (spec_DutyCode.calls k4 _ _ l0 _ _ ((l1.take (x13_4 : Int).toNat).drop (x12_4 : Int).toNat) a2_0 a2_1 a2_2 a2_3 t536 _ ?side1 ?side2 ?side3 ?side4 A77.out).mono ?_
                         (case side1 => repeat (first | exact (Kd.C_below HR0.out HB.out) | (with_reducible refine Kd.C_alloc ?_ _) | (with_reducible refine Kd.C_drewN ?_ _) | (with_reducible refine Kd.C_drew ?_)))
                         (case side2 => exact HC0.out)
                         (case side3 => repeat (first | exact (Kd.C_below HR535.out HB.out) | (with_reducible refine Kd.C_alloc ?_ _) | (with_reducible refine Kd.C_drewN ?_ _) | (with_reducible refine Kd.C_drew ?_)))
                         (case side4 => exact HC535.out)
                         rintro e w84 ⟨rfl, hb⟩
                         have HS4_ := (hb.cell (World.block_lt_of_cell? _ _ (hHeld.2.2.2.2.1))).trans (hHeld.2.2.2.2.1)
                         have HS5_ := (hb.cell (World.block_lt_of_cell? _ _ (hHeld.2.2.2.2.2.1))).trans (hHeld.2.2.2.2.2.1)
                         have HS6_ := (hb.cell (World.block_lt_of_cell? _ _ (hHeld.2.2.2.2.2.2))).trans (hHeld.2.2.2.2.2.2)
                         refine ⟨_, rfl, ?_⟩
                         have n0_ := Aside0.mk (Kd.R_below (nR HO_8.out) hb)
                         have n1_ := Aside0.mk (Kd.R_below (nR HO_11.out) hb)
                         have n2_ := Aside0.mk (blk_below (g := gb508) (o := .cells #[.int .i64 a2_0, .int .i64 a2_1, .int .i64 a2_2, .int .i64 a2_3] 25 (0, 0)) (nB BK508.out) hb)
                         have n3_ := Aside0.mk (below_step (nH1 HB.out GE508.out) hb)
                         clear HO_8; clear HO_11; clear BK508; clear HB; have HO_8 := n0_; have HO_11 := n1_; have BK508 := n2_; have HB := n3_; clear n0_ n1_ n2_ n3_; (try clear hb); (try clear hb2); (try clear hk); (try clear hi)
                         refine hK.out _ _ ⟨(blk_cell BK508.out 0).trans rfl, (blk_cell BK508.out 1).trans rfl, (blk_cell BK508.out 2).trans rfl, (blk_cell BK508.out 3).trans rfl, HS4_, HS5_, HS6_⟩ (fun hHeld => ?_)
                         clear hK K
                         refine norm_ (a' := ?_) ?_ ?_
                         rotate_left
                         · show Act.put _ (some 138) _ = _
                           simp only [Act.put, List.setIfInBounds_toArray, List.set_cons_zero, List.set_cons_succ, i64_w, i32_w]
                           rfl
                         refine pU 25 (some 139) #[T,T,T,T,T,T,T,T,T,T,T,T,T,T,T,T,T,T,T,T,T,T,T,T,T,T,F] rfl rfl HT_.out ?_
                         refine pU 26 (some 140) #[T,T,T,T,T,T,T,T,T,T,T,T,T,T,T,T,T,T,T,T,T,T,T,T,T,T,T] rfl rfl HT_.out ?_
                         refine done_ (done_of HT_.out (by kernel_rfl)) ?_
                         try go_wp2
                         go_roundg k4
                         case measure => have := HJ3.out; have := HK2.out; have := HK3.out; have := HK4.out; omega
                         case rel => exact ⟨(x12_4), (wrap64 (x13_4 + 1)), nS, nS, H', ⟨by have := HJ3.out; have := HK2.out; have := HK3.out; have := HK4.out; omega⟩, ⟨by (with_reducible repeat (first | apply Kd.R_alloc | apply Kd.R_drewN | apply Kd.R_drew)); exact HO_8.out⟩, ⟨by (with_reducible repeat (first | apply Kd.R_alloc | apply Kd.R_drewN | apply Kd.R_drew)); exact HO_11.out⟩, ⟨by (with_reducible repeat (first | refine blk_drewN ?_ _ | refine blk_drew ?_ | refine blk_alloc ?_ _)); exact BK508.out⟩, ⟨nH1 HB.out GE508.out⟩⟩
                     · rw [if_neg c73] at H
                       have c73b0 : ((wrap64 ((rd x8_2 x13_4) + 1)) == (rd x8_2 x12_4)) = false := beq_eq_false_iff_ne.mpr c73
                       have c73b1 : ((wrap64 ((rd x8_2 x13_4) + 1)) != (rd x8_2 x12_4)) = true := bne_iff_ne.mpr c73
                       have H' := Aside0.mk H
                       clear H
                       try go_wp2
                       have n0_ := Aside0.mk (Kd.R_drew HO_8.out)
                       have n1_ := Aside0.mk (Kd.R_drew HO_11.out)
                       have n2_ := Aside0.mk (blk_drew BK508.out)
                       have n3_ := Aside0.mk (below_drew1 HB.out)
                       clear HO_8; clear HO_11; clear BK508; clear HB; have HO_8 := n0_; have HO_11 := n1_; have BK508 := n2_; have HB := n3_; clear n0_ n1_ n2_ n3_
                       have p532 : 0 ≤ (x13_4 : Int) := of_decide_eq_true nQ
                       have q532 : x13_4 < (x8_2.length : Int) := of_decide_eq_true nQ
                       obtain ⟨ad532, e532, hx532_0⟩ := Kd.at_int (Kd.R_reads' HO_8.out).2.2 x13_4 p532 q532
                       obtain rfl : ad525 = ad532 := (by injection e532)
                       replace p532 := eq_true p532; replace q532 := eq_true q532
                       have p533 : 0 ≤ (x13_4 : Int) := of_decide_eq_true nQ
                       have q533 : x13_4 < (x8_2.length : Int) := of_decide_eq_true nQ
                       obtain ⟨ad533, e533, hx533_0⟩ := Kd.at_int (Kd.R_reads' HO_8.out).2.2 x13_4 p533 q533
                       obtain rfl : ad525 = ad533 := (by injection e533)
                       replace p533 := eq_true p533; replace q533 := eq_true q533
                       have p534 : 0 ≤ (x12_4 : Int) := of_decide_eq_true nQ
                       have q534 : x12_4 < (x8_2.length : Int) := of_decide_eq_true nQ
                       obtain ⟨ad534, e534, hx534_0⟩ := Kd.at_int (Kd.R_reads' HO_8.out).2.2 x12_4 p534 q534
                       obtain rfl : ad525 = ad534 := (by injection e534)
                       replace p534 := eq_true p534; replace q534 := eq_true q534
                       refine start_ (n := 27) (S := fun w' => w'.cell? (ad525.add (x13_4).toNat) = some (.int .i64 (rd x8_2 x13_4)) ∧ w'.cell? (ad525.add (x13_4).toNat) = some (.int .i64 (rd x8_2 x13_4)) ∧ w'.cell? (ad525.add (x12_4).toNat) = some (.int .i64 (rd x8_2 x12_4))) (ds := []) #[F,F,F,F,F,F,F,F,F,F,F,F,F,F,F,F,F,F,F,F,F,F,F,F,F,F,F] (by kernel_rfl) rfl rfl ⟨hx532_0, hx533_0, hx534_0⟩ (fun hHeld => ?_); refine with_tabW spec_Relieve.tab22 spec_Relieve.bits22 (fun HT_ HW_ => ?_)
                       generalize wr.drew = w85 at HO_8 HO_11 BK508 HB hx532_0 hx533_0 hx534_0 hHeld ⊢
                       refine pU 0 (some 114) #[T,F,F,F,F,F,F,F,F,F,F,F,F,F,F,F,F,F,F,F,F,F,F,F,F,F,F] rfl rfl HT_.out ?_
                       refine pU 1 (some 115) #[T,T,F,F,F,F,F,F,F,F,F,F,F,F,F,F,F,F,F,F,F,F,F,F,F,F,F] rfl rfl HT_.out ?_
                       refine pU 2 (some 116) #[T,T,T,F,F,F,F,F,F,F,F,F,F,F,F,F,F,F,F,F,F,F,F,F,F,F,F] rfl rfl HT_.out ?_
                       refine tU3 3 (some 117) #[T,T,T,T,F,F,F,F,F,F,F,F,F,F,F,F,F,F,F,F,F,F,F,F,F,F,F] rfl rfl HT_.out HW_.out hHeld ?_
                       refine pU 4 (some 118) #[T,T,T,T,T,F,F,F,F,F,F,F,F,F,F,F,F,F,F,F,F,F,F,F,F,F,F] rfl rfl HT_.out ?_
                       refine pU 5 (some 119) #[T,T,T,T,T,T,F,F,F,F,F,F,F,F,F,F,F,F,F,F,F,F,F,F,F,F,F] rfl rfl HT_.out ?_
                       refine pU 6 (some 120) #[T,T,T,T,T,T,T,F,F,F,F,F,F,F,F,F,F,F,F,F,F,F,F,F,F,F,F] rfl rfl HT_.out ?_
                       refine pU 7 (some 121) #[T,T,T,T,T,T,T,T,F,F,F,F,F,F,F,F,F,F,F,F,F,F,F,F,F,F,F] rfl rfl HT_.out ?_
                       refine pU 8 (some 122) #[T,T,T,T,T,T,T,T,T,F,F,F,F,F,F,F,F,F,F,F,F,F,F,F,F,F,F] rfl rfl HT_.out ?_
                       refine pU 11 (some 125) #[T,T,T,T,T,T,T,T,T,F,F,T,F,F,F,F,F,F,F,F,F,F,F,F,F,F,F] rfl rfl HT_.out ?_
                       refine pU 12 (some 126) #[T,T,T,T,T,T,T,T,T,F,F,T,T,F,F,F,F,F,F,F,F,F,F,F,F,F,F] rfl rfl HT_.out ?_
                       refine pU 13 (some 127) #[T,T,T,T,T,T,T,T,T,F,F,T,T,T,F,F,F,F,F,F,F,F,F,F,F,F,F] rfl rfl HT_.out ?_
                       refine tU3 9 (some 123) #[T,T,T,T,T,T,T,T,T,T,F,T,T,T,F,F,F,F,F,F,F,F,F,F,F,F,F] rfl rfl HT_.out HW_.out hHeld ?_
                       refine pU 10 (some 124) #[T,T,T,T,T,T,T,T,T,T,T,T,T,T,F,F,F,F,F,F,F,F,F,F,F,F,F] rfl rfl HT_.out ?_
                       refine tU3 14 (some 128) #[T,T,T,T,T,T,T,T,T,T,T,T,T,T,T,F,F,F,F,F,F,F,F,F,F,F,F] rfl rfl HT_.out HW_.out hHeld ?_
                       refine pU 15 (some 129) #[T,T,T,T,T,T,T,T,T,T,T,T,T,T,T,T,F,F,F,F,F,F,F,F,F,F,F] rfl rfl HT_.out ?_
                       refine pU 16 (some 130) #[T,T,T,T,T,T,T,T,T,T,T,T,T,T,T,T,T,F,F,F,F,F,F,F,F,F,F] rfl rfl HT_.out ?_
                       refine pU 17 (some 131) #[T,T,T,T,T,T,T,T,T,T,T,T,T,T,T,T,T,T,F,F,F,F,F,F,F,F,F] rfl rfl HT_.out ?_
                       refine pV 18 (some 132) #[T,T,T,T,T,T,T,T,T,T,T,T,T,T,T,T,T,T,T,F,F,F,F,F,F,F,F] rfl rfl HT_.out ?_
                       refine pV 19 (some 133) #[T,T,T,T,T,T,T,T,T,T,T,T,T,T,T,T,T,T,T,T,F,F,F,F,F,F,F] rfl rfl HT_.out ?_
                       refine pV 20 (some 134) #[T,T,T,T,T,T,T,T,T,T,T,T,T,T,T,T,T,T,T,T,T,F,F,F,F,F,F] rfl rfl HT_.out ?_
                       refine pV 21 (some 135) #[T,T,T,T,T,T,T,T,T,T,T,T,T,T,T,T,T,T,T,T,T,T,F,F,F,F,F] rfl rfl HT_.out ?_
                       refine pV 22 (some 136) #[T,T,T,T,T,T,T,T,T,T,T,T,T,T,T,T,T,T,T,T,T,T,T,F,F,F,F] rfl rfl HT_.out ?_
                       refine pV 23 (some 137) #[T,T,T,T,T,T,T,T,T,T,T,T,T,T,T,T,T,T,T,T,T,T,T,T,F,F,F] rfl rfl HT_.out ?_
                       refine pV 24 (some 138) #[T,T,T,T,T,T,T,T,T,T,T,T,T,T,T,T,T,T,T,T,T,T,T,T,T,F,F] rfl rfl HT_.out ?_
                       refine pV 25 (some 139) #[T,T,T,T,T,T,T,T,T,T,T,T,T,T,T,T,T,T,T,T,T,T,T,T,T,T,F] rfl rfl HT_.out ?_
                       refine pU 26 (some 140) #[T,T,T,T,T,T,T,T,T,T,T,T,T,T,T,T,T,T,T,T,T,T,T,T,T,T,T] rfl rfl HT_.out ?_
                       refine done_ (done_of HT_.out (by kernel_rfl)) ?_
                       try go_wp2
                       go_roundg k4
                       case measure => have := HJ3.out; have := HK2.out; have := HK3.out; have := HK4.out; omega
                       case rel => exact ⟨(x12_4), (wrap64 (x13_4 + 1)), nS, nS, H', ⟨by have := HJ3.out; have := HK2.out; have := HK3.out; have := HK4.out; omega⟩, ⟨by (with_reducible repeat (first | apply Kd.R_alloc | apply Kd.R_drewN | apply Kd.R_drew)); exact HO_8.out⟩, ⟨by (with_reducible repeat (first | apply Kd.R_alloc | apply Kd.R_drewN | apply Kd.R_drew)); exact HO_11.out⟩, ⟨by (with_reducible repeat (first | refine blk_drewN ?_ _ | refine blk_drew ?_ | refine blk_alloc ?_ _)); exact BK508.out⟩, ⟨nH1 HB.out GE508.out⟩⟩
                   · rw [if_neg c70] at H
                     have c70b0 : decide (0 ≤ (rd x8_2 x13_4)) = false := decide_eq_false c70
                     clear c70
                     have H' := Aside0.mk H
                     clear H
                     try go_wp2
                     have n0_ := Aside0.mk (Kd.R_drew HO_8.out)
                     have n1_ := Aside0.mk (Kd.R_drew HO_11.out)
                     have n2_ := Aside0.mk (blk_drew BK508.out)
                     have n3_ := Aside0.mk (below_drew1 HB.out)
                     clear HO_8; clear HO_11; clear BK508; clear HB; have HO_8 := n0_; have HO_11 := n1_; have BK508 := n2_; have HB := n3_; clear n0_ n1_ n2_ n3_
                     have p532 : 0 ≤ (x13_4 : Int) := of_decide_eq_true nQ
                     have q532 : x13_4 < (x8_2.length : Int) := of_decide_eq_true nQ
                     obtain ⟨ad532, e532, hx532_0⟩ := Kd.at_int (Kd.R_reads' HO_8.out).2.2 x13_4 p532 q532
                     obtain rfl : ad525 = ad532 := (by injection e532)
                     replace p532 := eq_true p532; replace q532 := eq_true q532
                     refine start_ (n := 27) (S := fun w' => w'.cell? (ad525.add (x13_4).toNat) = some (.int .i64 (rd x8_2 x13_4))) (ds := []) #[F,F,F,F,F,F,F,F,F,F,F,F,F,F,F,F,F,F,F,F,F,F,F,F,F,F,F] (by kernel_rfl) rfl rfl (hx532_0) (fun hHeld => ?_); refine with_tabW spec_Relieve.tab22 spec_Relieve.bits22 (fun HT_ HW_ => ?_)
                     generalize wr.drew = w86 at HO_8 HO_11 BK508 HB hx532_0 hHeld ⊢
                     refine pU 0 (some 114) #[T,F,F,F,F,F,F,F,F,F,F,F,F,F,F,F,F,F,F,F,F,F,F,F,F,F,F] rfl rfl HT_.out ?_
                     refine pU 1 (some 115) #[T,T,F,F,F,F,F,F,F,F,F,F,F,F,F,F,F,F,F,F,F,F,F,F,F,F,F] rfl rfl HT_.out ?_
                     refine pU 2 (some 116) #[T,T,T,F,F,F,F,F,F,F,F,F,F,F,F,F,F,F,F,F,F,F,F,F,F,F,F] rfl rfl HT_.out ?_
                     refine take_ (i := 3) (N := some 117) (v := ?_) (a' := ?_) #[T,T,T,T,F,F,F,F,F,F,F,F,F,F,F,F,F,F,F,F,F,F,F,F,F,F,F] rfl rfl (take_ofW HT_.out HW_.out (by kernel_rfl)) (fun _ _ _ h => h) (Or.inl ⟨by rfl, ?_⟩) hHeld ?_ ?_
                     rotate_left
                     · intro w' s0
                       go_simp; with_reducible rfl
                     rotate_left
                     · simp only [Act.put, List.setIfInBounds_toArray, List.set_cons_zero, List.set_cons_succ, i64_w, i32_w]
                       rfl
                     refine pU 4 (some 118) #[T,T,T,T,T,F,F,F,F,F,F,F,F,F,F,F,F,F,F,F,F,F,F,F,F,F,F] rfl rfl HT_.out ?_
                     refine pU 5 (some 119) #[T,T,T,T,T,T,F,F,F,F,F,F,F,F,F,F,F,F,F,F,F,F,F,F,F,F,F] rfl rfl HT_.out ?_
                     refine pV 6 (some 120) #[T,T,T,T,T,T,T,F,F,F,F,F,F,F,F,F,F,F,F,F,F,F,F,F,F,F,F] rfl rfl HT_.out ?_
                     refine pV 7 (some 121) #[T,T,T,T,T,T,T,T,F,F,F,F,F,F,F,F,F,F,F,F,F,F,F,F,F,F,F] rfl rfl HT_.out ?_
                     refine pV 8 (some 122) #[T,T,T,T,T,T,T,T,T,F,F,F,F,F,F,F,F,F,F,F,F,F,F,F,F,F,F] rfl rfl HT_.out ?_
                     refine pV 9 (some 123) #[T,T,T,T,T,T,T,T,T,T,F,F,F,F,F,F,F,F,F,F,F,F,F,F,F,F,F] rfl rfl HT_.out ?_
                     refine pV 10 (some 124) #[T,T,T,T,T,T,T,T,T,T,T,F,F,F,F,F,F,F,F,F,F,F,F,F,F,F,F] rfl rfl HT_.out ?_
                     refine pV 11 (some 125) #[T,T,T,T,T,T,T,T,T,T,T,T,F,F,F,F,F,F,F,F,F,F,F,F,F,F,F] rfl rfl HT_.out ?_
                     refine pV 12 (some 126) #[T,T,T,T,T,T,T,T,T,T,T,T,T,F,F,F,F,F,F,F,F,F,F,F,F,F,F] rfl rfl HT_.out ?_
                     refine pV 13 (some 127) #[T,T,T,T,T,T,T,T,T,T,T,T,T,T,F,F,F,F,F,F,F,F,F,F,F,F,F] rfl rfl HT_.out ?_
                     refine pV 14 (some 128) #[T,T,T,T,T,T,T,T,T,T,T,T,T,T,T,F,F,F,F,F,F,F,F,F,F,F,F] rfl rfl HT_.out ?_
                     refine pV 15 (some 129) #[T,T,T,T,T,T,T,T,T,T,T,T,T,T,T,T,F,F,F,F,F,F,F,F,F,F,F] rfl rfl HT_.out ?_
                     refine pU 16 (some 130) #[T,T,T,T,T,T,T,T,T,T,T,T,T,T,T,T,T,F,F,F,F,F,F,F,F,F,F] rfl rfl HT_.out ?_
                     refine pU 17 (some 131) #[T,T,T,T,T,T,T,T,T,T,T,T,T,T,T,T,T,T,F,F,F,F,F,F,F,F,F] rfl rfl HT_.out ?_
                     refine pV 18 (some 132) #[T,T,T,T,T,T,T,T,T,T,T,T,T,T,T,T,T,T,T,F,F,F,F,F,F,F,F] rfl rfl HT_.out ?_
                     refine pV 19 (some 133) #[T,T,T,T,T,T,T,T,T,T,T,T,T,T,T,T,T,T,T,T,F,F,F,F,F,F,F] rfl rfl HT_.out ?_
                     refine pV 20 (some 134) #[T,T,T,T,T,T,T,T,T,T,T,T,T,T,T,T,T,T,T,T,T,F,F,F,F,F,F] rfl rfl HT_.out ?_
                     refine pV 21 (some 135) #[T,T,T,T,T,T,T,T,T,T,T,T,T,T,T,T,T,T,T,T,T,T,F,F,F,F,F] rfl rfl HT_.out ?_
                     refine pV 22 (some 136) #[T,T,T,T,T,T,T,T,T,T,T,T,T,T,T,T,T,T,T,T,T,T,T,F,F,F,F] rfl rfl HT_.out ?_
                     refine pV 23 (some 137) #[T,T,T,T,T,T,T,T,T,T,T,T,T,T,T,T,T,T,T,T,T,T,T,T,F,F,F] rfl rfl HT_.out ?_
                     refine pV 24 (some 138) #[T,T,T,T,T,T,T,T,T,T,T,T,T,T,T,T,T,T,T,T,T,T,T,T,T,F,F] rfl rfl HT_.out ?_
                     refine pV 25 (some 139) #[T,T,T,T,T,T,T,T,T,T,T,T,T,T,T,T,T,T,T,T,T,T,T,T,T,T,F] rfl rfl HT_.out ?_
                     refine pU 26 (some 140) #[T,T,T,T,T,T,T,T,T,T,T,T,T,T,T,T,T,T,T,T,T,T,T,T,T,T,T] rfl rfl HT_.out ?_
                     refine done_ (done_of HT_.out (by kernel_rfl)) ?_
                     try go_wp2
                     go_roundg k4
                     case measure => have := HJ3.out; have := HK2.out; have := HK3.out; have := HK4.out; omega
                     case rel => exact ⟨(x12_4), (wrap64 (x13_4 + 1)), nS, nS, H', ⟨by have := HJ3.out; have := HK2.out; have := HK3.out; have := HK4.out; omega⟩, ⟨by (with_reducible repeat (first | apply Kd.R_alloc | apply Kd.R_drewN | apply Kd.R_drew)); exact HO_8.out⟩, ⟨by (with_reducible repeat (first | apply Kd.R_alloc | apply Kd.R_drewN | apply Kd.R_drew)); exact HO_11.out⟩, ⟨by (with_reducible repeat (first | refine blk_drewN ?_ _ | refine blk_drew ?_ | refine blk_alloc ?_ _)); exact BK508.out⟩, ⟨nH1 HB.out GE508.out⟩⟩
                 · rw [if_neg c67] at H
                   have c67b0 : decide (x13_4 ≤ (l1.length : Int)) = false := decide_eq_false c67
                   clear c67
                   have H' := Aside0.mk H
                   clear H; go_wp2
                   go_roundg k4
                   case measure => have := HJ3.out; have := HK2.out; have := HK3.out; have := HK4.out; omega
                   case rel => exact ⟨(y529), (x12_4), nS, H', ⟨by have := HJ3.out; have := HK2.out; have := HK3.out; have := HK4.out; omega⟩, ⟨by (with_reducible repeat (first | apply Kd.R_alloc | apply Kd.R_drewN | apply Kd.R_drew)); exact HO_8.out⟩, ⟨by (with_reducible repeat (first | apply Kd.R_alloc | apply Kd.R_drewN | apply Kd.R_drew)); exact HO_11.out⟩, ⟨by (with_reducible repeat (first | refine blk_drewN ?_ _ | refine blk_drew ?_ | refine blk_alloc ?_ _)); exact BK508.out⟩, ⟨nH1 HB.out GE508.out⟩⟩
             · rw [if_neg c64] at H
               have c64b0 : decide (x12_3 < (l1.length : Int)) = false := decide_eq_false c64
               clear c64
               simp only [Option.some.injEq, Prod.mk.injEq] at H
               obtain ⟨rfl, rfl⟩ := H
               go_wp2
               go_ret2
               exact ⟨_, by first | rfl | (simp [errW_none, errW_some] <;> rfl) | (simp only [← hji14]; first | rfl | (simp [errW_none, errW_some] <;> rfl)) | (simp [*, errW_none, errW_some] <;> first | rfl | (simp [wrap64]; done)), by (with_reducible repeat (first | apply Kd.R_alloc | apply Kd.R_drewN | apply Kd.R_drew)); exact Kd.R_mono HO_11.out (fun _ hk => trivial), nH1 HB.out GE508.out⟩
end Go.Proofs.Ytnamdbnnijfniaa.P
