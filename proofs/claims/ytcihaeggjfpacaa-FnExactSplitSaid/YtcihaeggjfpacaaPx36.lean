/- Contracts of the functions of the program, each one with its plain Lean function; written by a program of the session out of the translation. -/
import Derived.Test.YtcihaeggjfpacaaNc
import Derived.Test.YtcihaeggjfpacaaPx0
import Derived.Test.YtcihaeggjfpacaaPx17
import Derived.Test.YtcihaeggjfpacaaPx28
import Derived.Test.YtcihaeggjfpacaaPx31
namespace Go.Proofs.Ytcihaeggjfpacaa.P
open Go.RowKit Go.Proofs.YtcihaeggjfpacaaW.PrintWords Go.Proofs.YtcihaeggjfpacaaW.PrintLast Go.Proofs.YtcihaeggjfpacaaW.PrintMore
attribute [local go_sem] max2_int min2_int max_two min_two max_three min_three max_four min_four   -- for this text's walks alone
set_option linter.unusedVariables false
set_option linter.unusedSimpArgs false
/-! ### spec_Split: function 36 -/
theorem spec_Split.mono_l : ∀ k, (∀ y0 y1 y2 y3 y4 y5 y6 y7 y8 y9, LeO (spec_Split.l0 k y0 y1 y2 y3 y4 y5 y6 y7 y8 y9) (spec_Split.l0 (k + 1) y0 y1 y2 y3 y4 y5 y6 y7 y8 y9)) ∧ (∀ y0 y1 y2 y3 y4 y5 y6 y7 y8 y9 y10, LeO (spec_Split.l1 k y0 y1 y2 y3 y4 y5 y6 y7 y8 y9 y10) (spec_Split.l1 (k + 1) y0 y1 y2 y3 y4 y5 y6 y7 y8 y9 y10)) ∧ (∀ y0 y1 y2 y3 y4 y5 y6 y7 y8 y9 y10 y11, LeO (spec_Split.l2 k y0 y1 y2 y3 y4 y5 y6 y7 y8 y9 y10 y11) (spec_Split.l2 (k + 1) y0 y1 y2 y3 y4 y5 y6 y7 y8 y9 y10 y11)) ∧ (∀ y0 y1 y2 y3 y4 y5 y6 y7 y8 y9 y10 y11, LeO (spec_Split.l3 k y0 y1 y2 y3 y4 y5 y6 y7 y8 y9 y10 y11) (spec_Split.l3 (k + 1) y0 y1 y2 y3 y4 y5 y6 y7 y8 y9 y10 y11)) ∧ (∀ y0 y1 y2 y3 y4 y5 y6 y7 y8 y9 y10 y11 y12, LeO (spec_Split.l4 k y0 y1 y2 y3 y4 y5 y6 y7 y8 y9 y10 y11 y12) (spec_Split.l4 (k + 1) y0 y1 y2 y3 y4 y5 y6 y7 y8 y9 y10 y11 y12))
 | 0 => ⟨fun _ _ _ _ _ _ _ _ _ _ r h => by simp [spec_Split.l0] at h, fun _ _ _ _ _ _ _ _ _ _ _ r h => by simp [spec_Split.l1] at h, fun _ _ _ _ _ _ _ _ _ _ _ _ r h => by simp [spec_Split.l2] at h, fun _ _ _ _ _ _ _ _ _ _ _ _ r h => by simp [spec_Split.l3] at h, fun _ _ _ _ _ _ _ _ _ _ _ _ _ r h => by simp [spec_Split.l4] at h⟩
 | k + 1 => by
  obtain ⟨ih0, ih1, ih2, ih3, ih4⟩ := spec_Split.mono_l k
  refine ⟨?_, ?_, ?_, ?_, ?_⟩
  · intro y0 y1 y2 y3 y4 y5 y6 y7 y8 y9
    unfold spec_Split.l0
    repeat' first
    | (with_reducible exact ih0 _ _ _ _ _ _ _ _ _ _)
    | (with_reducible exact ih1 _ _ _ _ _ _ _ _ _ _ _)
    | (with_reducible exact ih2 _ _ _ _ _ _ _ _ _ _ _ _)
    | (with_reducible exact ih3 _ _ _ _ _ _ _ _ _ _ _ _)
    | (with_reducible exact ih4 _ _ _ _ _ _ _ _ _ _ _ _ _)
    | (with_reducible exact spec_Carded.mono _ _ _ _ _ _ _ _)
    | (with_reducible exact spec_Fare.mono _ _ _ _ _ _ _)
    | (with_reducible exact spec_Through.mono _ _ _ _ _ _ _ _)
    | (with_reducible exact LeO.refl _)
    | (with_reducible exact LeO.none _)
    | (with_reducible refine LeO.ite ?_ ?_)
    | (with_reducible refine LeO.bind ?_ (fun _ => ?_))
    | exact ih0 _ _ _ _ _ _ _ _ _ _
    | exact ih1 _ _ _ _ _ _ _ _ _ _ _
    | exact ih2 _ _ _ _ _ _ _ _ _ _ _ _
    | exact ih3 _ _ _ _ _ _ _ _ _ _ _ _
    | exact ih4 _ _ _ _ _ _ _ _ _ _ _ _ _
    | exact spec_Carded.mono _ _ _ _ _ _ _ _
    | exact spec_Fare.mono _ _ _ _ _ _ _
    | exact spec_Through.mono _ _ _ _ _ _ _ _
    | exact LeO.none _
    | refine LeO.ite ?_ ?_
    | refine LeO.bind ?_ (fun _ => ?_)
  · intro y0 y1 y2 y3 y4 y5 y6 y7 y8 y9 y10
    unfold spec_Split.l1
    repeat' first
    | (with_reducible exact ih0 _ _ _ _ _ _ _ _ _ _)
    | (with_reducible exact ih1 _ _ _ _ _ _ _ _ _ _ _)
    | (with_reducible exact ih2 _ _ _ _ _ _ _ _ _ _ _ _)
    | (with_reducible exact ih3 _ _ _ _ _ _ _ _ _ _ _ _)
    | (with_reducible exact ih4 _ _ _ _ _ _ _ _ _ _ _ _ _)
    | (with_reducible exact spec_Carded.mono _ _ _ _ _ _ _ _)
    | (with_reducible exact spec_Fare.mono _ _ _ _ _ _ _)
    | (with_reducible exact spec_Through.mono _ _ _ _ _ _ _ _)
    | (with_reducible exact LeO.refl _)
    | (with_reducible exact LeO.none _)
    | (with_reducible refine LeO.ite ?_ ?_)
    | (with_reducible refine LeO.bind ?_ (fun _ => ?_))
    | exact ih0 _ _ _ _ _ _ _ _ _ _
    | exact ih1 _ _ _ _ _ _ _ _ _ _ _
    | exact ih2 _ _ _ _ _ _ _ _ _ _ _ _
    | exact ih3 _ _ _ _ _ _ _ _ _ _ _ _
    | exact ih4 _ _ _ _ _ _ _ _ _ _ _ _ _
    | exact spec_Carded.mono _ _ _ _ _ _ _ _
    | exact spec_Fare.mono _ _ _ _ _ _ _
    | exact spec_Through.mono _ _ _ _ _ _ _ _
    | exact LeO.none _
    | refine LeO.ite ?_ ?_
    | refine LeO.bind ?_ (fun _ => ?_)
  · intro y0 y1 y2 y3 y4 y5 y6 y7 y8 y9 y10 y11
    unfold spec_Split.l2
    repeat' first
    | (with_reducible exact ih0 _ _ _ _ _ _ _ _ _ _)
    | (with_reducible exact ih1 _ _ _ _ _ _ _ _ _ _ _)
    | (with_reducible exact ih2 _ _ _ _ _ _ _ _ _ _ _ _)
    | (with_reducible exact ih3 _ _ _ _ _ _ _ _ _ _ _ _)
    | (with_reducible exact ih4 _ _ _ _ _ _ _ _ _ _ _ _ _)
    | (with_reducible exact spec_Carded.mono _ _ _ _ _ _ _ _)
    | (with_reducible exact spec_Fare.mono _ _ _ _ _ _ _)
    | (with_reducible exact spec_Through.mono _ _ _ _ _ _ _ _)
    | (with_reducible exact LeO.refl _)
    | (with_reducible exact LeO.none _)
    | (with_reducible refine LeO.ite ?_ ?_)
    | (with_reducible refine LeO.bind ?_ (fun _ => ?_))
    | exact ih0 _ _ _ _ _ _ _ _ _ _
    | exact ih1 _ _ _ _ _ _ _ _ _ _ _
    | exact ih2 _ _ _ _ _ _ _ _ _ _ _ _
    | exact ih3 _ _ _ _ _ _ _ _ _ _ _ _
    | exact ih4 _ _ _ _ _ _ _ _ _ _ _ _ _
    | exact spec_Carded.mono _ _ _ _ _ _ _ _
    | exact spec_Fare.mono _ _ _ _ _ _ _
    | exact spec_Through.mono _ _ _ _ _ _ _ _
    | exact LeO.none _
    | refine LeO.ite ?_ ?_
    | refine LeO.bind ?_ (fun _ => ?_)
  · intro y0 y1 y2 y3 y4 y5 y6 y7 y8 y9 y10 y11
    unfold spec_Split.l3
    repeat' first
    | (with_reducible exact ih0 _ _ _ _ _ _ _ _ _ _)
    | (with_reducible exact ih1 _ _ _ _ _ _ _ _ _ _ _)
    | (with_reducible exact ih2 _ _ _ _ _ _ _ _ _ _ _ _)
    | (with_reducible exact ih3 _ _ _ _ _ _ _ _ _ _ _ _)
    | (with_reducible exact ih4 _ _ _ _ _ _ _ _ _ _ _ _ _)
    | (with_reducible exact spec_Carded.mono _ _ _ _ _ _ _ _)
    | (with_reducible exact spec_Fare.mono _ _ _ _ _ _ _)
    | (with_reducible exact spec_Through.mono _ _ _ _ _ _ _ _)
    | (with_reducible exact LeO.refl _)
    | (with_reducible exact LeO.none _)
    | (with_reducible refine LeO.ite ?_ ?_)
    | (with_reducible refine LeO.bind ?_ (fun _ => ?_))
    | exact ih0 _ _ _ _ _ _ _ _ _ _
    | exact ih1 _ _ _ _ _ _ _ _ _ _ _
    | exact ih2 _ _ _ _ _ _ _ _ _ _ _ _
    | exact ih3 _ _ _ _ _ _ _ _ _ _ _ _
    | exact ih4 _ _ _ _ _ _ _ _ _ _ _ _ _
    | exact spec_Carded.mono _ _ _ _ _ _ _ _
    | exact spec_Fare.mono _ _ _ _ _ _ _
    | exact spec_Through.mono _ _ _ _ _ _ _ _
    | exact LeO.none _
    | refine LeO.ite ?_ ?_
    | refine LeO.bind ?_ (fun _ => ?_)
  · intro y0 y1 y2 y3 y4 y5 y6 y7 y8 y9 y10 y11 y12
    unfold spec_Split.l4
    repeat' first
    | (with_reducible exact ih0 _ _ _ _ _ _ _ _ _ _)
    | (with_reducible exact ih1 _ _ _ _ _ _ _ _ _ _ _)
    | (with_reducible exact ih2 _ _ _ _ _ _ _ _ _ _ _ _)
    | (with_reducible exact ih3 _ _ _ _ _ _ _ _ _ _ _ _)
    | (with_reducible exact ih4 _ _ _ _ _ _ _ _ _ _ _ _ _)
    | (with_reducible exact spec_Carded.mono _ _ _ _ _ _ _ _)
    | (with_reducible exact spec_Fare.mono _ _ _ _ _ _ _)
    | (with_reducible exact spec_Through.mono _ _ _ _ _ _ _ _)
    | (with_reducible exact LeO.refl _)
    | (with_reducible exact LeO.none _)
    | (with_reducible refine LeO.ite ?_ ?_)
    | (with_reducible refine LeO.bind ?_ (fun _ => ?_))
    | exact ih0 _ _ _ _ _ _ _ _ _ _
    | exact ih1 _ _ _ _ _ _ _ _ _ _ _
    | exact ih2 _ _ _ _ _ _ _ _ _ _ _ _
    | exact ih3 _ _ _ _ _ _ _ _ _ _ _ _
    | exact ih4 _ _ _ _ _ _ _ _ _ _ _ _ _
    | exact spec_Carded.mono _ _ _ _ _ _ _ _
    | exact spec_Fare.mono _ _ _ _ _ _ _
    | exact spec_Through.mono _ _ _ _ _ _ _ _
    | exact LeO.none _
    | refine LeO.ite ?_ ?_
    | refine LeO.bind ?_ (fun _ => ?_)
theorem spec_Split.mono : ∀ a0 a1 a2 a3 a4 a5 a6 k, LeO (spec_Split.f k a0 a1 a2 a3 a4 a5 a6) (spec_Split.f (k + 1) a0 a1 a2 a3 a4 a5 a6) := by
 intro a0 a1 a2 a3 a4 a5 a6 k
 obtain ⟨ih0, ih1, ih2, ih3, ih4⟩ := spec_Split.mono_l k
 unfold spec_Split.f
 repeat' first
  | (with_reducible exact ih0 _ _ _ _ _ _ _ _ _ _)
  | (with_reducible exact ih1 _ _ _ _ _ _ _ _ _ _ _)
  | (with_reducible exact ih2 _ _ _ _ _ _ _ _ _ _ _ _)
  | (with_reducible exact ih3 _ _ _ _ _ _ _ _ _ _ _ _)
  | (with_reducible exact ih4 _ _ _ _ _ _ _ _ _ _ _ _ _)
  | (with_reducible exact spec_Carded.mono _ _ _ _ _ _ _ _)
  | (with_reducible exact spec_Fare.mono _ _ _ _ _ _ _)
  | (with_reducible exact spec_Through.mono _ _ _ _ _ _ _ _)
  | (with_reducible exact LeO.refl _)
  | (with_reducible exact LeO.none _)
  | (with_reducible refine LeO.ite ?_ ?_)
  | (with_reducible refine LeO.bind ?_ (fun _ => ?_))
  | exact ih0 _ _ _ _ _ _ _ _ _ _
  | exact ih1 _ _ _ _ _ _ _ _ _ _ _
  | exact ih2 _ _ _ _ _ _ _ _ _ _ _ _
  | exact ih3 _ _ _ _ _ _ _ _ _ _ _ _
  | exact ih4 _ _ _ _ _ _ _ _ _ _ _ _ _
  | exact spec_Carded.mono _ _ _ _ _ _ _ _
  | exact spec_Fare.mono _ _ _ _ _ _ _
  | exact spec_Through.mono _ _ _ _ _ _ _ _
  | exact LeO.none _
  | refine LeO.ite ?_ ?_
  | refine LeO.bind ?_ (fun _ => ?_)
def spec_Split.T17 : Bool × List (List Nat × List Nat) := (true, [([], []), ([], []), ([0, 1], [0, 1]), ([2], [2]), ([], []), ([], []), ([], []), ([], []), ([6, 7], [6, 7]), ([8], [8]), ([], []), ([], []), ([10, 11], [10, 11]), ([12], [12]), ([5, 9, 13], [5, 9, 13]), ([], []), ([], []), ([4, 14, 15, 16, 14], [4, 14, 15, 16]), ([3, 17], [3, 17]), ([18, 17, 0, 1, 2, 3, 4, 5, 6, 7, 8, 9, 10, 11, 12, 13, 14, 15, 16, 17, 18], [18])])
def spec_Split.B17 : List Nat := [0, 0, 3, 7, 0, 0, 0, 0, 192, 448, 0, 0, 3072, 7168, 16352, 0, 0, 131056, 262143, 524287]
theorem spec_Split.tab17 : rtab .any (opsOf Try.f36 17) = spec_Split.T17 := by kernel_rfl
theorem spec_Split.bits17 : waitsOk spec_Split.T17.2 spec_Split.B17 = true := by kernel_rfl
def spec_Split.T18 : Bool × List (List Nat × List Nat) := (true, [([], []), ([], []), ([0, 1], [0, 1]), ([2], [2]), ([3], [3]), ([4], [4]), ([5], [5]), ([5], [5]), ([5], [5]), ([7, 8, 5], [5, 7, 8]), ([9, 5], [5, 9]), ([6, 10, 5], [5, 6, 10]), ([5, 11], [5, 11]), ([12, 5], [12]), ([13], [13]), ([13], [13]), ([13], [13]), ([15, 16, 13], [13, 15, 16]), ([17, 13], [13, 17]), ([14, 18, 13], [13, 14, 18]), ([19, 13, 13], [13, 19]), ([20], [20]), ([20], [20]), ([21, 22, 20], [20, 21, 22]), ([23, 20], [20, 23]), ([24, 20], [20, 24]), ([20], [20]), ([20], [20]), ([26, 27, 20], [20, 26, 27]), ([28, 20], [20, 28]), ([25, 29, 20], [20, 25, 29]), ([20, 30, 13], [13, 20, 30]), ([13, 31], [13, 31])])
def spec_Split.B18 : List Nat := [0, 0, 3, 7, 15, 31, 63, 63, 63, 447, 959, 2047, 4095, 8191, 16383, 16383, 16383, 114687, 245759, 524287, 1048575, 2097151, 2097151, 8388607, 16777215, 33554431, 2097151, 2097151, 203423743, 471859199, 1073741823, 2147483647, 4294967295]
theorem spec_Split.tab18 : rtab .any (opsOf Try.f36 18) = spec_Split.T18 := by kernel_rfl
theorem spec_Split.bits18 : waitsOk spec_Split.T18.2 spec_Split.B18 = true := by kernel_rfl
def spec_Split.T27 : Bool × List (List Nat × List Nat) := (true, [([], []), ([], []), ([0, 1], [0, 1]), ([2], [2]), ([], []), ([], []), ([], []), ([], []), ([6, 7], [6, 7]), ([8], [8]), ([], []), ([], []), ([10, 11], [10, 11]), ([12], [12]), ([5, 9, 13], [5, 9, 13]), ([], []), ([], []), ([4, 14, 15, 16, 14], [4, 14, 15, 16]), ([3, 17], [3, 17]), ([], []), ([], []), ([19, 20], [19, 20]), ([21], [21]), ([18, 22], [18, 22]), ([23, 17], [23]), ([24], [24]), ([24], [24]), ([25, 26, 24], [24, 25, 26]), ([27, 24], [24, 27]), ([28, 24], [24, 28]), ([24], [24]), ([24], [24]), ([30, 31, 24], [24, 30, 31]), ([32, 24], [24, 32]), ([29, 33, 24], [24, 29, 33]), ([24, 34], [24, 34])])
def spec_Split.B27 : List Nat := [0, 0, 3, 7, 0, 0, 0, 0, 192, 448, 0, 0, 3072, 7168, 16352, 0, 0, 131056, 262143, 0, 0, 1572864, 3670016, 8388607, 16777215, 33554431, 33554431, 134217727, 268435455, 536870911, 33554431, 33554431, 3254779903, 7549747199, 17179869183, 34359738367]
theorem spec_Split.tab27 : rtab .any (opsOf Try.f36 27) = spec_Split.T27 := by kernel_rfl
theorem spec_Split.bits27 : waitsOk spec_Split.T27.2 spec_Split.B27 = true := by kernel_rfl
set_option maxHeartbeats 8000000 in
set_option maxRecDepth 100000 in
theorem spec_Split.calls (k : Nat) (a0_0 : Int) (a0_1 : Int) (A0_2 : Option Addr) (c0_2 : Nat) (l0_2 : List Int) (a0_3 : Int) (A1 : Option Addr) (c1 : Nat) (l1 : List Int) (A2 : Option Addr) (c2 : Nat) (l2 : List (S57)) (a3 : Int) (r1 : Int) (r2 : List Int) (w : World) (hr0_2 : Kd.C (Kd.int .i64) w A0_2 l0_2.length l0_2) (hc0_2 : l0_2.length ≤ c0_2) (hr1 : Kd.C (Kd.int .i64) w A1 l1.length l1) (hc1 : l1.length ≤ c1) (hr2 : Kd.C k57 w A2 l2.length l2) (hc2 : l2.length ≤ c2) (h : spec_Split.f k a0_0 a0_1 l0_2 a0_3 l1 l2 a3 = some (r1, r2)) :
 Calls Try.prog 36 #[.agg #[.int .i64 a0_0, .int .i64 a0_1, .slice A0_2 l0_2.length c0_2, .int .i64 a0_3], .slice A1 l1.length c1, .slice A2 l2.length c2, .int .i64 a3] w fun e w' => ∃ v1_ : Value, e = .returned (.tuple #[.int .i64 r1, v1_]) ∧ Kd.R (Kd.int .i64) 3 w' w.heap.size (fun _ => True) v1_ r2 ∧ Below w.heap.size w w' := by
 have hu34 := Try.underlying34
 have HR0_2 := Aside0.mk hr0_2
 have HC0_2 := Aside0.mk hc0_2
 clear hr0_2 hc0_2
 have HR1 := Aside0.mk hr1
 have HC1 := Aside0.mk hc1
 clear hr1 hc1
 have HR2 := Aside0.mk hr2
 have HC2 := Aside0.mk hc2
 clear hr2 hc2
 have HB := Aside0.mk (Below.refl w.heap.size w)
 have H : ((spec_Through.f k a0_0 a0_1 l0_2 a0_3 l1 l2 a3).bind fun t539 => (if t539 < 0 then (some ((-1), ([] : List Int))) else (spec_Split.l0 k l1 l2 a3 (([] : List Int)) (([] : List Int)) 0 a0_0 a0_1 l0_2 a0_3))) = some (r1, r2) := h
 clear h
 replace H := Option.bind_eq_some_iff.mp H
 obtain ⟨t539, A50, H⟩ := H
 replace H : (if t539 < 0 then (some ((-1), ([] : List Int))) else (spec_Split.l0 k l1 l2 a3 (([] : List Int)) (([] : List Int)) 0 a0_0 a0_1 l0_2 a0_3)) = some (r1, r2) := H
 have A5 := Aside0.mk A50
 clear A50
 by_cases c6 : t539 < 0
 · rw [if_pos c6] at H
   have c6b0 : decide (t539 < 0) = true := decide_eq_true c6
   clear c6
   simp only [Option.some.injEq, Prod.mk.injEq] at H
   obtain ⟨rfl, rfl⟩ := H
   go_enter Try.func36, Try.ntmps36
   go_wp2_with (first | ((with_reducible refine gate_dst (N := 4) rfl ?_); refine box_event ?hg (N := 4) ?hd (cs := #[.int .i64 a0_0, .int .i64 a0_1, .slice A0_2 l0_2.length c0_2, .int .i64 a0_3]) (t := 34) ?hr ?_; (case hd => rfl); (case hg => rfl); (case hr => first | (go_simp; done) | (go_simp; rfl)); intro gb538 hg w7 hbox hb; have n0_ := Aside0.mk (below_step (nH HB.out) hb); have n1_ := Aside0.mk (hbox); have n2_ := Aside0.mk ((by rw [hg]; exact (below_size (nH HB.out)) : w.heap.size ≤ gb538)); have n3_ := Aside0.mk ((by rw [hg]; exact (below_size (nH HB.out)) : w.heap.size ≤ gb538)); clear HB; have HB := n0_; have BK538 := n1_; have GW538 := n2_; have GE538 := n3_; clear n0_ n1_ n2_ n3_; clear hb hbox hg; have hcz8_0 : w7.cell? ⟨gb538, 0, none⟩ = some (.int .i64 a0_0) := (blk_cell BK538.out 0).trans rfl; have hcz8_1 : w7.cell? ⟨gb538, 1, none⟩ = some (.int .i64 a0_1) := (blk_cell BK538.out 1).trans rfl; have hcz8_2 : w7.cell? ⟨gb538, 2, none⟩ = some (.slice A0_2 l0_2.length c0_2) := (blk_cell BK538.out 2).trans rfl; have hcz8_3 : w7.cell? ⟨gb538, 3, none⟩ = some (.int .i64 a0_3) := (blk_cell BK538.out 3).trans rfl; have hfz8_0 := blk_frozen BK538.out 0; have hfz8_1 := blk_frozen BK538.out 1; have hfz8_2 := blk_frozen BK538.out 2; have hfz8_3 := blk_frozen BK538.out 3) | ((with_reducible refine gate_callee (f := 31) rfl ?_); refine goesL_ (some 24) rfl rfl Try.func31 (by kernel_rfl) rfl #[.agg #[.int .i64 a0_0, .int .i64 a0_1, .slice A0_2 l0_2.length c0_2, .int .i64 a0_3], .slice A1 l1.length c1, .slice A2 l2.length c2, .int .i64 a3] rfl nM ?_; (with_reducible refine (spec_Through.calls k a0_0 a0_1 _ _ l0_2 a0_3 _ _ l1 _ _ l2 a3 t539 _ ?side1 ?side2 ?side3 ?side4 ?side5 ?side6 A5.out).mono ?_); (case side1 => exact nD HR0_2.out HB.out); (case side2 => exact HC0_2.out); (case side3 => exact nD HR1.out HB.out); (case side4 => exact HC1.out); (case side5 => exact nD HR2.out HB.out); (case side6 => exact HC2.out); rintro e w9 ⟨rfl, hb⟩; refine ⟨_, rfl, ?_⟩; have n0_ := Aside0.mk (blk_below (g := gb538) (o := .cells #[.int .i64 a0_0, .int .i64 a0_1, .slice A0_2 l0_2.length c0_2, .int .i64 a0_3] 34 (0, 0)) (nB BK538.out) hb); have n1_ := Aside0.mk (below_step (nH1 HB.out GE538.out) hb); clear BK538; clear HB; have BK538 := n0_; have HB := n1_; clear n0_ n1_; (try clear hb); (try clear hb2); (try clear hk); (try clear hi)))
   go_ret2
   exact ⟨_, by first | rfl | (simp [errW_none, errW_some] <;> rfl) | (simp [*, errW_none, errW_some] <;> first | rfl | (simp [wrap64]; done)), by first | exact Kd.R_nil _ _ _ _ _ | exact Kd.N_nil _ _ _ _ _ | exact Kd.V_nil _ _ _ _ _ | exact Kd.Q_nil _ _ _ _ _ | exact Kd.S_nil _ _ _ _ _, nH1 HB.out GE538.out⟩
 · rw [if_neg c6] at H
   have c6b0 : decide (t539 < 0) = false := decide_eq_false c6
   clear c6
   obtain ⟨y540, hy540⟩ : ∃ y_ : List Int, y_ = (([] : List Int)) := ⟨_, rfl⟩
   replace H : (spec_Split.l0 k l1 l2 a3 y540 (([] : List Int)) 0 a0_0 a0_1 l0_2 a0_3) = some (r1, r2) := by first | (rw [hy540]; with_reducible exact H) | (have H2_ := (Option.bind_some _ _).symm.trans H; rw [hy540]; with_reducible exact H2_) | (have H2_ := (Option.bind_some _ _).symm.trans H; with_reducible exact H2_) | with_reducible exact H | (rw [hy540]; exact H) | exact H
   have Ny540 := Aside0.mk hy540
   clear hy540
   obtain ⟨y543, hy543⟩ : ∃ y_ : List Int, y_ = (([] : List Int)) := ⟨_, rfl⟩
   replace H : (spec_Split.l0 k l1 l2 a3 y540 y543 0 a0_0 a0_1 l0_2 a0_3) = some (r1, r2) := by first | (rw [hy543]; with_reducible exact H) | (have H2_ := (Option.bind_some _ _).symm.trans H; rw [hy543]; with_reducible exact H2_) | (have H2_ := (Option.bind_some _ _).symm.trans H; with_reducible exact H2_) | with_reducible exact H | (rw [hy543]; exact H) | exact H
   have Ny543 := Aside0.mk hy543
   clear hy543
   have H' := Aside0.mk H
   clear H
   go_enter Try.func36, Try.ntmps36
   go_wp2_with (first | ((with_reducible refine gate_dst (N := 4) rfl ?_); refine box_event ?hg (N := 4) ?hd (cs := #[.int .i64 a0_0, .int .i64 a0_1, .slice A0_2 l0_2.length c0_2, .int .i64 a0_3]) (t := 34) ?hr ?_; (case hd => rfl); (case hg => rfl); (case hr => first | (go_simp; done) | (go_simp; rfl)); intro gb538 hg w10 hbox hb; have n0_ := Aside0.mk (below_step (nH HB.out) hb); have n1_ := Aside0.mk (hbox); have n2_ := Aside0.mk ((by rw [hg]; exact (below_size (nH HB.out)) : w.heap.size ≤ gb538)); have n3_ := Aside0.mk ((by rw [hg]; exact (below_size (nH HB.out)) : w.heap.size ≤ gb538)); clear HB; have HB := n0_; have BK538 := n1_; have GW538 := n2_; have GE538 := n3_; clear n0_ n1_ n2_ n3_; clear hb hbox hg; have hcz11_0 : w10.cell? ⟨gb538, 0, none⟩ = some (.int .i64 a0_0) := (blk_cell BK538.out 0).trans rfl; have hcz11_1 : w10.cell? ⟨gb538, 1, none⟩ = some (.int .i64 a0_1) := (blk_cell BK538.out 1).trans rfl; have hcz11_2 : w10.cell? ⟨gb538, 2, none⟩ = some (.slice A0_2 l0_2.length c0_2) := (blk_cell BK538.out 2).trans rfl; have hcz11_3 : w10.cell? ⟨gb538, 3, none⟩ = some (.int .i64 a0_3) := (blk_cell BK538.out 3).trans rfl; have hfz11_0 := blk_frozen BK538.out 0; have hfz11_1 := blk_frozen BK538.out 1; have hfz11_2 := blk_frozen BK538.out 2; have hfz11_3 := blk_frozen BK538.out 3) | ((with_reducible refine gate_callee (f := 31) rfl ?_); refine goesL_ (some 24) rfl rfl Try.func31 (by kernel_rfl) rfl #[.agg #[.int .i64 a0_0, .int .i64 a0_1, .slice A0_2 l0_2.length c0_2, .int .i64 a0_3], .slice A1 l1.length c1, .slice A2 l2.length c2, .int .i64 a3] rfl nM ?_; (with_reducible refine (spec_Through.calls k a0_0 a0_1 _ _ l0_2 a0_3 _ _ l1 _ _ l2 a3 t539 _ ?side1 ?side2 ?side3 ?side4 ?side5 ?side6 A5.out).mono ?_); (case side1 => exact nD HR0_2.out HB.out); (case side2 => exact HC0_2.out); (case side3 => exact nD HR1.out HB.out); (case side4 => exact HC1.out); (case side5 => exact nD HR2.out HB.out); (case side6 => exact HC2.out); rintro e w12 ⟨rfl, hb⟩; refine ⟨_, rfl, ?_⟩; have n0_ := Aside0.mk (blk_below (g := gb538) (o := .cells #[.int .i64 a0_0, .int .i64 a0_1, .slice A0_2 l0_2.length c0_2, .int .i64 a0_3] 34 (0, 0)) (nB BK538.out) hb); have n1_ := Aside0.mk (below_step (nH1 HB.out GE538.out) hb); clear BK538; clear HB; have BK538 := n0_; have HB := n1_; clear n0_ n1_; (try clear hb); (try clear hb2); (try clear hk); (try clear hi)) | ((with_reducible refine gate_dst (N := 26) rfl ?_); refine Kd.R_lit (Kd.int .i64) _ 3 ?hg (N := 26) ?hd (xs := ([] : List Int)) (inner := []) (ok := fun _ => True) (okp := fun _ => True) ?hr ?hp (fun _ hk => hk) trivial (Below.refl _ _) (Nat.le_refl _) (by simp) ?_; (case hd => rfl); (case hg => rfl); (case hr => first | (go_simp; done) | (go_simp; rfl)); (case hp => exact (Reps.none _ _)); intro v541 w13 ho14 hb hg_ hnew_; clear hg_ hnew_; (first | rw [← Ny540.out] at ho14 | (simp only [Int.reduceToNat] at ho14; rw [← Ny540.out] at ho14)); have n0_ := Aside0.mk (Kd.R_lower ho14 (below_size (nH1 HB.out GE538.out))); have n1_ := Aside0.mk (blk_below (g := gb538) (o := .cells #[.int .i64 a0_0, .int .i64 a0_1, .slice A0_2 l0_2.length c0_2, .int .i64 a0_3] 34 (0, 0)) (nB BK538.out) hb); have n2_ := Aside0.mk (below_step (nH1 HB.out GE538.out) hb); clear BK538; clear HB; have HO542 := n0_; have BK538 := n1_; have HB := n2_; clear n0_ n1_ n2_; clear hb ho14) | ((with_reducible refine gate_dst (N := 27) rfl ?_); refine Kd.R_lit (Kd.int .i64) _ 3 ?hg (N := 27) ?hd (xs := ([] : List Int)) (inner := []) (ok := fun _ => True) (okp := fun _ => True) ?hr ?hp (fun _ hk => hk) trivial (Below.refl _ _) (Nat.le_refl _) (by simp) ?_; (case hd => rfl); (case hg => rfl); (case hr => first | (go_simp; done) | (go_simp; rfl)); (case hp => exact (Reps.none _ _)); intro v544 w15 ho16 hb hg_ hnew_; clear hg_ hnew_; (first | rw [← Ny543.out] at ho16 | (simp only [Int.reduceToNat] at ho16; rw [← Ny543.out] at ho16)); have n0_ := Aside0.mk (Kd.R_elder' (nR HO542.out) (Kd.R_base ho16) hb); have n1_ := Aside0.mk (Kd.R_lower (Kd.R_new' ho16 (Kd.R_lt (nR HO542.out))) (below_size (nH1 HB.out GE538.out))); have n2_ := Aside0.mk (blk_below (g := gb538) (o := .cells #[.int .i64 a0_0, .int .i64 a0_1, .slice A0_2 l0_2.length c0_2, .int .i64 a0_3] 34 (0, 0)) (nB BK538.out) hb); have n3_ := Aside0.mk (below_step (nH1 HB.out GE538.out) hb); clear HO542; clear BK538; clear HB; have HO542 := n0_; have HO545 := n1_; have BK538 := n2_; have HB := n3_; clear n0_ n1_ n2_ n3_; clear hb ho16))
   go_loopg [10, 11, 12] k (fun kq v10 v11 v12 w' => ∃ (x10_1 : List Int) (x11_1 : List Int) (x12_1 : Int), v12 = .int .i64 x12_1 ∧ Aside0 (spec_Split.l0 kq l1 l2 a3 x10_1 x11_1 x12_1 a0_0 a0_1 l0_2 a0_3 = some (r1, r2)) ∧ Aside0 (kq ≤ k) ∧ Aside0 (Kd.R (Kd.int .i64) 3 w' w.heap.size (fun k_ => some k_ ≠ (v11 : Value).ownBlock) v10 x10_1) ∧ Aside0 (Kd.R (Kd.int .i64) 3 w' w.heap.size (fun k_ => some k_ ≠ (v10 : Value).ownBlock) v11 x11_1) ∧ Aside0 (w'.heap[gb538]? = some (.cells #[.int .i64 a0_0, .int .i64 a0_1, (.slice A0_2 l0_2.length c0_2), .int .i64 a0_3] 34 (0, 0))) ∧ Aside0 (Below w.heap.size w w'))
   case atStart => exact ⟨(y540), (y543), (0), nS, H', ⟨Nat.le_refl _⟩, ⟨by (with_reducible repeat (first | apply Kd.R_alloc | apply Kd.R_drewN | apply Kd.R_drew)); exact Kd.R_mono HO542.out (fun _ hk => hk.2)⟩, ⟨by (with_reducible repeat (first | apply Kd.R_alloc | apply Kd.R_drewN | apply Kd.R_drew)); exact Kd.R_mono HO545.out (fun _ hk => hk.2)⟩, ⟨by exact nB BK538.out⟩, ⟨nH1 HB.out GE538.out⟩⟩
   case round =>
    clear H'
    try clear c1; try clear c2; try clear p2; try clear c3; try clear c6; try clear c6b0; try clear p6; try clear hcz11_0; try clear hcz11_1; try clear hcz11_2; try clear hcz11_3; try clear hcz8_0; try clear hcz8_1; try clear hcz8_2; try clear hcz8_3; try clear hfz11_0; try clear hfz11_1; try clear hfz11_2; try clear hfz11_3; try clear hfz8_0; try clear hfz8_1; try clear hfz8_2; try clear hfz8_3
    obtain ⟨x10_1, x11_1, x12_1, rfl, HA, HK1, HO_10, HO_11, BK538, HB⟩ := hrel
    cases gk with
    | zero => exact absurd HA.out (by simp [spec_Split.l0])
    | succ k1 =>
     have H := HA.out; clear HA
     simp only [spec_Split.l0] at H
     by_cases c17 : x12_1 < (l1.length : Int)
     · rw [if_pos c17] at H
       have c17b0 : decide (x12_1 < (l1.length : Int)) = true := decide_eq_true c17
       clear c17
       by_cases c18 : x10_1.length < 17592186044416
       rotate_left
       · (rw [if_neg c18] at H; exact absurd H (by simp))
       rw [if_pos c18] at H
       have LMc18 := Aside0.mk c18
       clear c18
       obtain ⟨y546, hy546⟩ : ∃ y_ : List Int, y_ = (x10_1 ++ [(-1)]) := ⟨_, rfl⟩
       replace H : (if x11_1.length < 17592186044416 then (spec_Split.l0 k1 l1 l2 a3 y546 (x11_1 ++ [0]) (wrap64 (x12_1 + 1)) a0_0 a0_1 l0_2 a0_3) else (none)) = some (r1, r2) := by first | (rw [hy546]; with_reducible exact H) | (have H2_ := (Option.bind_some _ _).symm.trans H; rw [hy546]; with_reducible exact H2_) | (have H2_ := (Option.bind_some _ _).symm.trans H; with_reducible exact H2_) | with_reducible exact H | (rw [hy546]; exact H) | exact H
       have Ny546 := Aside0.mk hy546
       clear hy546
       by_cases c19 : x11_1.length < 17592186044416
       rotate_left
       · (rw [if_neg c19] at H; exact absurd H (by simp))
       rw [if_pos c19] at H
       have LMc19 := Aside0.mk c19
       clear c19
       obtain ⟨y549, hy549⟩ : ∃ y_ : List Int, y_ = (x11_1 ++ [0]) := ⟨_, rfl⟩
       replace H : (spec_Split.l0 k1 l1 l2 a3 y546 y549 (wrap64 (x12_1 + 1)) a0_0 a0_1 l0_2 a0_3) = some (r1, r2) := by first | (rw [hy549]; with_reducible exact H) | (have H2_ := (Option.bind_some _ _).symm.trans H; rw [hy549]; with_reducible exact H2_) | (have H2_ := (Option.bind_some _ _).symm.trans H; with_reducible exact H2_) | with_reducible exact H | (rw [hy549]; exact H) | exact H
       have Ny549 := Aside0.mk hy549
       clear hy549
       have H' := Aside0.mk H
       clear H
       go_wp2_with (first | ((with_reducible refine gate_builtin (b := .append) (xs := #[.tmp 34, .tmp 35]) rfl ?_); at_builtin; refine Kd.R_append (Kd.int .i64) (w0 := w) w.heap.size rfl (.tmp 34) (.tmp 35) 29 3 (.int .i64 0) 8 rfl Try.underlying29 info3 rfl (by decide) (by omega) u10 x10_1 (-1) [.int .i64 (-1)] (fun k_ => some k_ ≠ (u11 : Value).ownBlock) (fun _ => False) rfl rfl ?aP (fun _ hk => hk.elim) ?aF ?aO ?aB ?aS ?aL ?_; (case aP => exact rfl); (case aB => exact (nH1 HB.out GE538.out)); (case aF => exact (fun k_ hk => Kd.fresh' (Kd.R_lt (nR HO_11.out)) k_ hk)); (case aO => exact (nR HO_10.out)); (case aS => exact (below_size (nH1 HB.out GE538.out))); (case aL => have := LMc18.out; omega); intro v547 w20 ho hb hg hat; rw [← Ny546.out] at ho; have n0_ := Aside0.mk (Kd.R_after (ok := (fun _ => True)) (by (with_reducible repeat (first | apply Kd.R_alloc | apply Kd.R_drewN | apply Kd.R_drew)); exact Kd.R_mono HO_11.out (fun _ hk => ⟨trivial, hk⟩)) hg hat); have n1_ := Aside0.mk (blk_grown (g := gb538) (o := .cells #[.int .i64 a0_0, .int .i64 a0_1, .slice A0_2 l0_2.length c0_2, .int .i64 a0_3] 34 (0, 0)) (nB BK538.out) hg (Kd.R_ne HO_10.out BK538.out (by decide))); have n2_ := Aside0.mk (hb); have n3_ := Aside0.mk (ho); clear HO_11; clear BK538; clear HB; clear HO_10; have HO_11 := n0_; have BK538 := n1_; have HB := n2_; have HO548 := n3_; clear n0_ n1_ n2_ n3_; clear ho hb hg hat) | ((with_reducible refine gate_builtin (b := .append) (xs := #[.tmp 37, .tmp 38]) rfl ?_); at_builtin; refine Kd.R_append (Kd.int .i64) (w0 := w) w.heap.size rfl (.tmp 37) (.tmp 38) 29 3 (.int .i64 0) 8 rfl Try.underlying29 info3 rfl (by decide) (by omega) u11 x11_1 0 [.int .i64 0] (fun k_ => some k_ ≠ (v547 : Value).ownBlock) (fun _ => False) rfl rfl ?aP (fun _ hk => hk.elim) ?aF ?aO ?aB ?aS ?aL ?_; (case aP => exact rfl); (case aB => exact (nH1 HB.out GE538.out)); (case aF => exact (fun k_ hk => Kd.fresh' (Kd.R_lt (nR HO548.out)) k_ hk)); (case aO => exact (by (with_reducible repeat (first | apply Kd.R_alloc | apply Kd.R_drewN | apply Kd.R_drew)); exact Kd.R_mono HO_11.out (fun _ hk => hk.2))); (case aS => exact (below_size (nH1 HB.out GE538.out))); (case aL => have := LMc19.out; omega); intro v550 w21 ho hb hg hat; rw [← Ny549.out] at ho; have n0_ := Aside0.mk (blk_grown (g := gb538) (o := .cells #[.int .i64 a0_0, .int .i64 a0_1, .slice A0_2 l0_2.length c0_2, .int .i64 a0_3] 34 (0, 0)) (nB BK538.out) hg (Kd.R_ne HO_11.out BK538.out (by decide))); have n1_ := Aside0.mk (Kd.R_after (ok := (fun _ => True)) (by (with_reducible repeat (first | apply Kd.R_alloc | apply Kd.R_drewN | apply Kd.R_drew)); exact Kd.R_mono HO548.out (fun _ hk => ⟨trivial, hk⟩)) hg hat); have n2_ := Aside0.mk (hb); have n3_ := Aside0.mk (ho); clear BK538; clear HO548; clear HB; clear HO_11; have BK538 := n0_; have HO548 := n1_; have HB := n2_; have HO551 := n3_; clear n0_ n1_ n2_ n3_; clear ho hb hg hat))
       go_roundg k1
       case measure => have := HK1.out; omega
       case rel => exact ⟨(y546), (y549), (wrap64 (x12_1 + 1)), nS, H', ⟨by have := HK1.out; omega⟩, ⟨by (with_reducible repeat (first | apply Kd.R_alloc | apply Kd.R_drewN | apply Kd.R_drew)); exact Kd.R_mono HO548.out (fun _ hk => hk.2)⟩, ⟨by exact nR HO551.out⟩, ⟨by exact nB BK538.out⟩, ⟨nH1 HB.out GE538.out⟩⟩
     · rw [if_neg c17] at H
       have c17b0 : decide (x12_1 < (l1.length : Int)) = false := decide_eq_false c17
       clear c17
       obtain ⟨ji22, hji22⟩ : ∃ j_ : Int, (wrap64 ((l1.length : Int) - 1)) = j_ := ⟨_, rfl⟩
       replace H : (if 0 ≤ (ji22) then (if (ji22) < (x10_1.length : Int) then (spec_Split.l1 k1 l1 l2 a3 (x10_1.set ((ji22) : Int).toNat 0) x11_1 ji22 (wrap64 ((ji22) - 1)) a0_0 a0_1 l0_2 a0_3) else (none)) else (none)) = some (r1, r2) := by first | (rw [hji22] at H; exact H) | (simp only [hji22] at H ⊢; exact H)
       have hji22w : (IntKind.i64.wrap ((l1.length : Int) - 1)) = ji22 := (i64_w _).trans hji22
       by_cases c23 : 0 ≤ (ji22)
       rotate_left
       · (rw [if_neg c23] at H; exact absurd H (by simp))
       rw [if_pos c23] at H
       have c23b0 : decide (0 ≤ (ji22)) = true := decide_eq_true c23
       clear c23
       by_cases c24 : (ji22) < (x10_1.length : Int)
       rotate_left
       · (rw [if_neg c24] at H; exact absurd H (by simp))
       rw [if_pos c24] at H
       have c24b0 : decide ((ji22) < (x10_1.length : Int)) = true := decide_eq_true c24
       clear c24
       obtain ⟨y552, hy552⟩ : ∃ y_ : List Int, y_ = (x10_1.set ((ji22) : Int).toNat 0) := ⟨_, rfl⟩
       replace H : (spec_Split.l1 k1 l1 l2 a3 y552 x11_1 ji22 (wrap64 ((ji22) - 1)) a0_0 a0_1 l0_2 a0_3) = some (r1, r2) := by first | (rw [hy552]; with_reducible exact H) | (have H2_ := (Option.bind_some _ _).symm.trans H; rw [hy552]; with_reducible exact H2_) | (have H2_ := (Option.bind_some _ _).symm.trans H; with_reducible exact H2_) | with_reducible exact H | (rw [hy552]; exact H) | exact H
       have Ny552 := Aside0.mk hy552
       clear hy552
       have H' := Aside0.mk H
       clear H
       have p25 : 0 ≤ ((ji22) : Int) := of_decide_eq_true nQ
       have q25 : ((ji22) : Int) < ((x10_1.length : Int) : Int) := of_decide_eq_true nQ
       obtain ⟨go25, co25, eo25, gb25, gl25, cl25, HG25⟩ := Kd.R_form HO_10.out (by omega)
       (first | cases eo25 | (injection eo25 with ea_ en_ ec_; (first | subst ea_ | (injection ea_ with ea_; subst ea_)); subst ec_; clear en_))
       have GB25 := Aside0.mk gb25
       have GG25 := Aside0.mk HG25
       clear gb25 gl25 HG25
       obtain ⟨hx25_0, hf25_0⟩ := Kd.R_celln 0 HO_10.out ((ji22) : Int) p25 q25
       replace p25 := eq_true p25; replace q25 := eq_true q25
       have HP26 := Kd.R_putg HO_10.out ((ji22) : Int) 0
       go_wp2_with (first | ((with_reducible refine gate_store (t := 3) (p := 45) rfl ?_); refine store_event (t := 3) (p := 45) (v := ?vo_w27) (w1 := (wr.setCell ⟨go25, ((ji22) : Int).toNat, none⟩ (.int .i64 0))) ?hg ?ho ?hn ?hr ?_; (case ho => rfl); (case hg => rfl); (case hn => rfl); (case hr => first | (go_simp; done) | (go_simp; rfl)); intro w27 hw; have hg : wr.grownBy w27 (some go25) := (by rw [hw]; exact HP26.2); have hp_ : Kd.R (Kd.int .i64) 3 w27 w.heap.size (fun k_ => some k_ ≠ (u11 : Value).ownBlock) (.slice (some ⟨go25, 0, none⟩) x10_1.length co25) y552 := (by rw [hw, Ny552.out]; exact HP26.1); clear HP26; have n0_ := Aside0.mk (hp_); have n1_ := Aside0.mk (Kd.R_after (v := (.slice (some ⟨go25, 0, none⟩) x10_1.length co25)) (v1 := (.slice (some ⟨go25, 0, none⟩) x10_1.length co25)) (ok := (fun _ => True)) (by (with_reducible repeat (first | apply Kd.R_alloc | apply Kd.R_drewN | apply Kd.R_drew)); exact Kd.R_mono HO_11.out (fun _ hk => ⟨trivial, hk⟩)) hg (.inl rfl)); have n2_ := Aside0.mk (blk_grown (g := gb538) (o := .cells #[.int .i64 a0_0, .int .i64 a0_1, .slice A0_2 l0_2.length c0_2, .int .i64 a0_3] 34 (0, 0)) (nB BK538.out) hg (Kd.R_ne HO_10.out BK538.out (by decide))); have n3_ := Aside0.mk ((by rw [hw]; exact below_set (HB.out) GB25.out : Below w.heap.size w w27)); clear HO_10; clear HO_11; clear BK538; clear HB; have HO_10 := n0_; have HO_11 := n1_; have BK538 := n2_; have HB := n3_; clear n0_ n1_ n2_ n3_; clear hg hw hp_))
       go_loopg [14] k1 (fun kq v14 w' => ∃ (x10_2 : List Int) (x11_2 : List Int) (x14_2 : Int), v14 = .int .i64 x14_2 ∧ Aside0 (spec_Split.l1 kq l1 l2 a3 x10_2 x11_2 ji22 x14_2 a0_0 a0_1 l0_2 a0_3 = some (r1, r2)) ∧ Aside0 (kq ≤ k1) ∧ Aside0 (Kd.R (Kd.int .i64) 3 w' w.heap.size (fun k_ => some k_ ≠ (u11 : Value).ownBlock) (.slice (some ⟨go25, 0, none⟩) x10_1.length co25) x10_2) ∧ Aside0 (Kd.R (Kd.int .i64) 3 w' w.heap.size (fun k_ => some k_ ≠ ((.slice (some ⟨go25, 0, none⟩) x10_1.length co25) : Value).ownBlock) u11 x11_2) ∧ Aside0 (w'.heap[gb538]? = some (.cells #[.int .i64 a0_0, .int .i64 a0_1, (.slice A0_2 l0_2.length c0_2), .int .i64 a0_3] 34 (0, 0))) ∧ Aside0 (Below w.heap.size w w'))
       case atStart => exact ⟨(y552), (x11_1), (wrap64 ((ji22) - 1)), (by first | rfl | (simp; done) | (simp only [← hji22] <;> (first | rfl | simp)) | (simp [*]; done)), H', ⟨Nat.le_refl _⟩, ⟨by exact nR HO_10.out⟩, ⟨by (with_reducible repeat (first | apply Kd.R_alloc | apply Kd.R_drewN | apply Kd.R_drew)); exact Kd.R_mono HO_11.out (fun _ hk => hk.2)⟩, ⟨by exact nB BK538.out⟩, ⟨nH1 HB.out GE538.out⟩⟩
       case round =>
        clear H'
        try clear c1; try clear c2; try clear p2; try clear q2; try clear hx2; try clear c3; try clear c6; try clear c6b0; try clear p6; try clear c17; try clear c17b0; try clear c18; try clear c19; try clear c23; try clear c23b0; try clear c24; try clear c24b0; try clear p25; try clear q25; try clear hx25; try clear hf25; try clear hcz11_0; try clear hcz11_1; try clear hcz11_2; try clear hcz11_3; try clear hcz8_0; try clear hcz8_1; try clear hcz8_2; try clear hcz8_3; try clear hfz11_0; try clear hfz11_1; try clear hfz11_2; try clear hfz11_3; try clear hfz8_0; try clear hfz8_1; try clear hfz8_2
        try clear hfz8_3; try clear hx25_0; try clear p2; try clear p25; try clear p6; try clear q25
        obtain ⟨x10_2, x11_2, x14_2, rfl, HA, HK2, HO_10, HO_11, BK538, HB⟩ := hrel
        have hl10_2 := (Kd.R_reads' HO_10.out).1
        rw [hl10_2] at HO_10
        (try simp only [hl10_2])
        (try simp only [hl10_2] at BK538)
        (try simp only [hl10_2] at HO_11)
        cases gk with
        | zero => exact absurd HA.out (by simp [spec_Split.l1])
        | succ k2 =>
         have H := HA.out; clear HA
         simp only [spec_Split.l1] at H
         by_cases c28 : x14_2 ≥ 0
         · rw [if_pos c28] at H
           have c28b0 : decide (0 ≤ x14_2) = true := decide_eq_true c28
           clear c28
           have H' := Aside0.mk H
           clear H; go_wp2
           go_loopg [15] k2 (fun kq v15 w' => ∃ (x10_3 : List Int) (x11_3 : List Int) (x15_3 : Int), v15 = .int .i64 x15_3 ∧ Aside0 (spec_Split.l2 kq l1 l2 a3 x10_3 x11_3 ji22 x14_2 x15_3 a0_0 a0_1 l0_2 a0_3 = some (r1, r2)) ∧ Aside0 (kq ≤ k2) ∧ Aside0 (Kd.R (Kd.int .i64) 3 w' w.heap.size (fun k_ => some k_ ≠ (u11 : Value).ownBlock) (.slice (some ⟨go25, 0, none⟩) x10_2.length co25) x10_3) ∧ Aside0 (Kd.R (Kd.int .i64) 3 w' w.heap.size (fun k_ => some k_ ≠ ((.slice (some ⟨go25, 0, none⟩) x10_2.length co25) : Value).ownBlock) u11 x11_3) ∧ Aside0 (w'.heap[gb538]? = some (.cells #[.int .i64 a0_0, .int .i64 a0_1, (.slice A0_2 l0_2.length c0_2), .int .i64 a0_3] 34 (0, 0))) ∧ Aside0 (Below w.heap.size w w'))
           case atStart => exact ⟨(x10_2), (x11_2), (wrap64 (x14_2 + 1)), nS, H', ⟨Nat.le_refl _⟩, ⟨by (try simp only [hl10_2]); exact nR HO_10.out⟩, ⟨by (try simp only [hl10_2]); exact nR HO_11.out⟩, ⟨by (try simp only [hl10_2]); exact nB BK538.out⟩, ⟨nH1 HB.out GE538.out⟩⟩
           case round =>
            clear H'
            try clear c1; try clear c2; try clear p2; try clear q2; try clear hx2; try clear c3; try clear c6; try clear c6b0; try clear p6; try clear c17; try clear c17b0; try clear c18; try clear c19; try clear c23; try clear c23b0; try clear c24; try clear c24b0; try clear p25; try clear q25; try clear hx25; try clear hf25; try clear c28; try clear c28b0; try clear hcz11_0; try clear hcz11_1; try clear hcz11_2; try clear hcz11_3; try clear hcz8_0; try clear hcz8_1; try clear hcz8_2; try clear hcz8_3; try clear hfz11_0; try clear hfz11_1; try clear hfz11_2; try clear hfz11_3; try clear hfz8_0
            try clear hfz8_1; try clear hfz8_2; try clear hfz8_3; try clear hx25_0; try clear p2; try clear p25; try clear p6; try clear q2; try clear q25
            obtain ⟨x10_3, x11_3, x15_3, rfl, HA, HK3, HO_10, HO_11, BK538, HB⟩ := hrel
            have hl10_3 := (Kd.R_reads' HO_10.out).1
            rw [hl10_3] at HO_10
            (try simp only [hl10_3])
            (try simp only [hl10_3] at BK538)
            (try simp only [hl10_3] at HO_11)
            cases gk with
            | zero => exact absurd HA.out (by simp [spec_Split.l2])
            | succ k3 =>
             have H := HA.out; clear HA
             simp only [spec_Split.l2] at H
             by_cases c29 : x15_3 ≤ ji22
             · rw [if_pos c29] at H
               have c29b0 : decide (x15_3 ≤ ji22) = true := decide_eq_true c29
               clear c29
               by_cases c30 : 0 ≤ x15_3
               rotate_left
               · (rw [if_neg c30] at H; exact absurd H (by simp))
               rw [if_pos c30] at H
               have c30b0 : decide (0 ≤ x15_3) = true := decide_eq_true c30
               clear c30
               by_cases c31 : x15_3 < (x10_3.length : Int)
               rotate_left
               · (rw [if_neg c31] at H; exact absurd H (by simp))
               rw [if_pos c31] at H
               have c31b0 : decide (x15_3 < (x10_3.length : Int)) = true := decide_eq_true c31
               clear c31
               by_cases c32 : 0 ≤ x14_2
               rotate_left
               · (rw [if_neg c32] at H; exact absurd H (by simp))
               rw [if_pos c32] at H
               have c32b0 : decide (0 ≤ x14_2) = true := decide_eq_true c32
               clear c32
               by_cases c33 : x14_2 < (l1.length : Int)
               rotate_left
               · (rw [if_neg c33] at H; exact absurd H (by simp))
               rw [if_pos c33] at H
               have c33b0 : decide (x14_2 < (l1.length : Int)) = true := decide_eq_true c33
               clear c33
               by_cases c34 : x15_3 < (l1.length : Int)
               rotate_left
               · (rw [if_neg c34] at H; exact absurd H (by simp))
               rw [if_pos c34] at H
               have c34b0 : decide (x15_3 < (l1.length : Int)) = true := decide_eq_true c34
               clear c34
               replace H := Option.bind_eq_some_iff.mp H
               obtain ⟨t556, A350, H⟩ := H
               replace H : ((spec_Carded.f k3 a0_0 a0_1 l0_2 a0_3 t556 l2 a3).bind fun t557 => (if x14_2 < (x10_3.length : Int) then (if (rd x10_3 x14_2) < 0 then (if x15_3 < (x11_3.length : Int) then (if x14_2 < (x11_3.length : Int) then (spec_Split.l2 k3 l1 l2 a3 (x10_3.set (x14_2 : Int).toNat (wrap64 ((rd x10_3 x15_3) + t557))) (x11_3.set (x14_2 : Int).toNat (wrap64 ((rd x11_3 x15_3) + 1))) ji22 x14_2 (wrap64 (x15_3 + 1)) a0_0 a0_1 l0_2 a0_3) else (none)) else (none)) else (if (wrap64 ((rd x10_3 x15_3) + t557)) < (rd x10_3 x14_2) then (if x15_3 < (x11_3.length : Int) then (if x14_2 < (x11_3.length : Int) then (spec_Split.l2 k3 l1 l2 a3 (x10_3.set (x14_2 : Int).toNat (wrap64 ((rd x10_3 x15_3) + t557))) (x11_3.set (x14_2 : Int).toNat (wrap64 ((rd x11_3 x15_3) + 1))) ji22 x14_2 (wrap64 (x15_3 + 1)) a0_0 a0_1 l0_2 a0_3) else (none)) else (none)) else (if (wrap64 ((rd x10_3 x15_3) + t557)) = (rd x10_3 x14_2) then (if x15_3 < (x11_3.length : Int) then (if x14_2 < (x11_3.length : Int) then (if (wrap64 ((rd x11_3 x15_3) + 1)) < (rd x11_3 x14_2) then (spec_Split.l2 k3 l1 l2 a3 (x10_3.set (x14_2 : Int).toNat (wrap64 ((rd x10_3 x15_3) + t557))) (x11_3.set (x14_2 : Int).toNat (wrap64 ((rd x11_3 x15_3) + 1))) ji22 x14_2 (wrap64 (x15_3 + 1)) a0_0 a0_1 l0_2 a0_3) else (spec_Split.l2 k3 l1 l2 a3 x10_3 x11_3 ji22 x14_2 (wrap64 (x15_3 + 1)) a0_0 a0_1 l0_2 a0_3)) else (none)) else (none)) else (spec_Split.l2 k3 l1 l2 a3 x10_3 x11_3 ji22 x14_2 (wrap64 (x15_3 + 1)) a0_0 a0_1 l0_2 a0_3)))) else (none))) = some (r1, r2) := H
               have A35 := Aside0.mk A350
               clear A350
               replace H := Option.bind_eq_some_iff.mp H
               obtain ⟨t557, A360, H⟩ := H
               replace H : (if x14_2 < (x10_3.length : Int) then (if (rd x10_3 x14_2) < 0 then (if x15_3 < (x11_3.length : Int) then (if x14_2 < (x11_3.length : Int) then (spec_Split.l2 k3 l1 l2 a3 (x10_3.set (x14_2 : Int).toNat (wrap64 ((rd x10_3 x15_3) + t557))) (x11_3.set (x14_2 : Int).toNat (wrap64 ((rd x11_3 x15_3) + 1))) ji22 x14_2 (wrap64 (x15_3 + 1)) a0_0 a0_1 l0_2 a0_3) else (none)) else (none)) else (if (wrap64 ((rd x10_3 x15_3) + t557)) < (rd x10_3 x14_2) then (if x15_3 < (x11_3.length : Int) then (if x14_2 < (x11_3.length : Int) then (spec_Split.l2 k3 l1 l2 a3 (x10_3.set (x14_2 : Int).toNat (wrap64 ((rd x10_3 x15_3) + t557))) (x11_3.set (x14_2 : Int).toNat (wrap64 ((rd x11_3 x15_3) + 1))) ji22 x14_2 (wrap64 (x15_3 + 1)) a0_0 a0_1 l0_2 a0_3) else (none)) else (none)) else (if (wrap64 ((rd x10_3 x15_3) + t557)) = (rd x10_3 x14_2) then (if x15_3 < (x11_3.length : Int) then (if x14_2 < (x11_3.length : Int) then (if (wrap64 ((rd x11_3 x15_3) + 1)) < (rd x11_3 x14_2) then (spec_Split.l2 k3 l1 l2 a3 (x10_3.set (x14_2 : Int).toNat (wrap64 ((rd x10_3 x15_3) + t557))) (x11_3.set (x14_2 : Int).toNat (wrap64 ((rd x11_3 x15_3) + 1))) ji22 x14_2 (wrap64 (x15_3 + 1)) a0_0 a0_1 l0_2 a0_3) else (spec_Split.l2 k3 l1 l2 a3 x10_3 x11_3 ji22 x14_2 (wrap64 (x15_3 + 1)) a0_0 a0_1 l0_2 a0_3)) else (none)) else (none)) else (spec_Split.l2 k3 l1 l2 a3 x10_3 x11_3 ji22 x14_2 (wrap64 (x15_3 + 1)) a0_0 a0_1 l0_2 a0_3)))) else (none)) = some (r1, r2) := H
               have A36 := Aside0.mk A360
               clear A360
               by_cases c37 : x14_2 < (x10_3.length : Int)
               rotate_left
               · (rw [if_neg c37] at H; exact absurd H (by simp))
               rw [if_pos c37] at H
               have c37b0 : decide (x14_2 < (x10_3.length : Int)) = true := decide_eq_true c37
               clear c37
               by_cases c38 : (rd x10_3 x14_2) < 0
               · rw [if_pos c38] at H
                 have c38b0 : decide ((rd x10_3 x14_2) < 0) = true := decide_eq_true c38
                 clear c38
                 obtain ⟨y559, hy559⟩ : ∃ y_ : List Int, y_ = (x10_3.set (x14_2 : Int).toNat (wrap64 ((rd x10_3 x15_3) + t557))) := ⟨_, rfl⟩
                 replace H : (if x15_3 < (x11_3.length : Int) then (if x14_2 < (x11_3.length : Int) then (spec_Split.l2 k3 l1 l2 a3 y559 (x11_3.set (x14_2 : Int).toNat (wrap64 ((rd x11_3 x15_3) + 1))) ji22 x14_2 (wrap64 (x15_3 + 1)) a0_0 a0_1 l0_2 a0_3) else (none)) else (none)) = some (r1, r2) := by first | (rw [hy559]; with_reducible exact H) | (have H2_ := (Option.bind_some _ _).symm.trans H; rw [hy559]; with_reducible exact H2_) | (have H2_ := (Option.bind_some _ _).symm.trans H; with_reducible exact H2_) | with_reducible exact H | (rw [hy559]; exact H) | exact H
                 have Ny559 := Aside0.mk hy559
                 clear hy559
                 by_cases c40 : x15_3 < (x11_3.length : Int)
                 rotate_left
                 · (rw [if_neg c40] at H; exact absurd H (by simp))
                 rw [if_pos c40] at H
                 have c40b0 : decide (x15_3 < (x11_3.length : Int)) = true := decide_eq_true c40
                 clear c40
                 by_cases c41 : x14_2 < (x11_3.length : Int)
                 rotate_left
                 · (rw [if_neg c41] at H; exact absurd H (by simp))
                 rw [if_pos c41] at H
                 have c41b0 : decide (x14_2 < (x11_3.length : Int)) = true := decide_eq_true c41
                 clear c41
                 obtain ⟨y561, hy561⟩ : ∃ y_ : List Int, y_ = (x11_3.set (x14_2 : Int).toNat (wrap64 ((rd x11_3 x15_3) + 1))) := ⟨_, rfl⟩
                 replace H : (spec_Split.l2 k3 l1 l2 a3 y559 y561 ji22 x14_2 (wrap64 (x15_3 + 1)) a0_0 a0_1 l0_2 a0_3) = some (r1, r2) := by first | (rw [hy561]; with_reducible exact H) | (have H2_ := (Option.bind_some _ _).symm.trans H; rw [hy561]; with_reducible exact H2_) | (have H2_ := (Option.bind_some _ _).symm.trans H; with_reducible exact H2_) | with_reducible exact H | (rw [hy561]; exact H) | exact H
                 have Ny561 := Aside0.mk hy561
                 clear hy561
                 have H' := Aside0.mk H
                 clear H
                 try go_wp2
                 have n0_ := Aside0.mk (Kd.R_drew HO_10.out)
                 have n1_ := Aside0.mk (Kd.R_drew HO_11.out)
                 have n2_ := Aside0.mk (blk_drew BK538.out)
                 have n3_ := Aside0.mk (below_drew1 HB.out)
                 clear HO_10; clear HO_11; clear BK538; clear HB; have HO_10 := n0_; have HO_11 := n1_; have BK538 := n2_; have HB := n3_; clear n0_ n1_ n2_ n3_
                 have p553 : 0 ≤ (x15_3 : Int) := of_decide_eq_true nQ
                 have q553 : x15_3 < (x10_3.length : Int) := of_decide_eq_true nQ
                 obtain ⟨ad553, e553, hx553_0⟩ := Kd.at_int (Kd.R_reads' HO_10.out).2.2 x15_3 p553 q553
                 obtain rfl : (⟨go25, 0, none⟩ : Addr) = ad553 := (by injection e553)
                 (first | simp only [add_plain] at hx553_0 | simp only [add_at] at hx553_0 | simp only [Addr.add, Nat.zero_add] at hx553_0 | skip)
                 replace p553 := eq_true p553; replace q553 := eq_true q553
                 have p554 : 0 ≤ (x14_2 : Int) := of_decide_eq_true nQ
                 have q554 : x14_2 < (l1.length : Int) := of_decide_eq_true nQ
                 obtain ⟨ad554, e554, hx554_0⟩ := Kd.at_int HR1.out x14_2 p554 q554
                 have hw554_0 := hx554_0; cases e554
                 replace hx554_0 := (HB.out.cell (World.block_lt_of_cell? w _ hx554_0)).trans hx554_0
                 replace p554 := eq_true p554; replace q554 := eq_true q554
                 have p555 : 0 ≤ (x15_3 : Int) := of_decide_eq_true nQ
                 have q555 : x15_3 < (l1.length : Int) := of_decide_eq_true nQ
                 obtain ⟨ad555, e555, hx555_0⟩ := Kd.at_int HR1.out x15_3 p555 q555
                 have hw555_0 := hx555_0
                 obtain rfl : ad554 = ad555 := (by injection e555)
                 replace hx555_0 := (HB.out.cell (World.block_lt_of_cell? w _ hx555_0)).trans hx555_0
                 replace p555 := eq_true p555; replace q555 := eq_true q555
                 refine start_ (n := 20) (S := fun w' => w'.cell? ⟨gb538, 0, none⟩ = some (.int .i64 a0_0) ∧ w'.cell? ⟨gb538, 1, none⟩ = some (.int .i64 a0_1) ∧ w'.cell? ⟨gb538, 2, none⟩ = some (.slice A0_2 l0_2.length c0_2) ∧ w'.cell? ⟨gb538, 3, none⟩ = some (.int .i64 a0_3) ∧ w'.cell? ⟨go25, (x15_3).toNat, none⟩ = some (.int .i64 (rd x10_3 x15_3)) ∧ w'.cell? (ad554.add (x14_2).toNat) = some (.int .i64 (rd l1 x14_2)) ∧ w'.cell? (ad554.add (x15_3).toNat) = some (.int .i64 (rd l1 x15_3))) (ds := []) #[F,F,F,F,F,F,F,F,F,F,F,F,F,F,F,F,F,F,F,F] (by kernel_rfl) rfl rfl ⟨(blk_cell BK538.out 0).trans rfl, (blk_cell BK538.out 1).trans rfl, (blk_cell BK538.out 2).trans rfl, (blk_cell BK538.out 3).trans rfl, hx553_0, (nC HB.out hw554_0 :), (nC HB.out hw555_0 :)⟩ (fun hHeld => ?_); refine with_tabW spec_Split.tab17 spec_Split.bits17 (fun HT_ HW_ => ?_)
                 generalize wr.drew = w43 at HO_10 HO_11 BK538 HB hx553_0 hx554_0 hx555_0 hHeld ⊢
                 refine qU 0 (some 59) rfl rfl HT_.out ?_
                 refine qU 1 (some 60) rfl rfl HT_.out ?_
                 refine qU 2 (some 61) rfl rfl HT_.out ?_
                 refine qU 6 (some 65) rfl rfl HT_.out ?_
                 refine qU 7 (some 66) rfl rfl HT_.out ?_
                 refine qU 8 (some 67) rfl rfl HT_.out ?_
                 refine qU 10 (some 69) rfl rfl HT_.out ?_
                 refine qU 11 (some 70) rfl rfl HT_.out ?_
                 refine qU 12 (some 71) rfl rfl HT_.out ?_
                 refine qU 15 (some 74) rfl rfl HT_.out ?_
                 refine qU 16 (some 75) rfl rfl HT_.out ?_
                 refine qT7 3 (some 62) rfl rfl HT_.out HW_.out hHeld ?_
                 refine qT7 4 (some 63) rfl rfl HT_.out HW_.out hHeld ?_
                 refine qT7 5 (some 64) rfl rfl HT_.out HW_.out hHeld ?_
                 refine qT7 9 (some 68) rfl rfl HT_.out HW_.out hHeld ?_
                 refine qT7 13 (some 72) rfl rfl HT_.out HW_.out hHeld ?_
                 refine one_ (i := 14) (N := some 73) #[T,T,T,T,T,T,T,T,T,T,T,T,T,T,T,T,T,F,F,F] rfl rfl (one_of HT_.out (by kernel_rfl)) (by decide) (fun K hK => ?_)
                 refine goes_ Try.func24 (by kernel_rfl) rfl #[.agg #[.int .i64 a0_0, .int .i64 a0_1, .slice A0_2 l0_2.length c0_2, .int .i64 a0_3], .int .i64 (rd l1 x14_2), .int .i64 (rd l1 x15_3)] (by rfl) rfl rfl nM ?_
                 with_reducible refine (spec_Fare.calls k3 a0_0 a0_1 _ _ l0_2 a0_3 (rd l1 x14_2) (rd l1 x15_3) t556 _ ?side1 ?side2 A35.out).mono ?_
                 (case side1 => exact nD HR0_2.out HB.out)
                 (case side2 => exact HC0_2.out)
                 rintro e w44 ⟨rfl, hb⟩
                 have HS4_ := (hb.cell (World.block_lt_of_cell? _ _ (hHeld.2.2.2.2.1))).trans (hHeld.2.2.2.2.1)
                 refine ⟨_, rfl, ?_⟩
                 have n0_ := Aside0.mk (Kd.R_below (nR HO_10.out) hb)
                 have n1_ := Aside0.mk (Kd.R_below (nR HO_11.out) hb)
                 have n2_ := Aside0.mk (blk_below (g := gb538) (o := .cells #[.int .i64 a0_0, .int .i64 a0_1, .slice A0_2 l0_2.length c0_2, .int .i64 a0_3] 34 (0, 0)) (nB BK538.out) hb)
                 have n3_ := Aside0.mk (below_step (nH1 HB.out GE538.out) hb)
                 clear HO_10; clear HO_11; clear BK538; clear HB; have HO_10 := n0_; have HO_11 := n1_; have BK538 := n2_; have HB := n3_; clear n0_ n1_ n2_ n3_; (try clear hb); (try clear hb2); (try clear hk); (try clear hi)
                 refine hK.out _ _ ⟨(blk_cell BK538.out 0).trans rfl, (blk_cell BK538.out 1).trans rfl, (blk_cell BK538.out 2).trans rfl, (blk_cell BK538.out 3).trans rfl, HS4_, (nC HB.out hw554_0 :), (nC HB.out hw555_0 :)⟩ (fun hHeld => ?_)
                 clear hK K
                 refine norm_ (a' := ?_) ?_ ?_
                 rotate_left
                 · show Act.put _ (some 73) _ = _
                   simp only [Act.put, List.setIfInBounds_toArray, List.set_cons_zero, List.set_cons_succ, i64_w, i32_w]
                   rfl
                 refine one_ (i := 17) (N := some 76) #[T,T,T,T,T,T,T,T,T,T,T,T,T,T,T,T,T,T,F,F] rfl rfl (one_of HT_.out (by kernel_rfl)) (by decide) (fun K hK => ?_)
                 refine goes_ Try.func30 (by kernel_rfl) rfl #[.agg #[.int .i64 a0_0, .int .i64 a0_1, .slice A0_2 l0_2.length c0_2, .int .i64 a0_3], .int .i64 t556, .slice A2 l2.length c2, .int .i64 a3] (by rfl) rfl rfl nM ?_
                 with_reducible refine (spec_Carded.calls k3 a0_0 a0_1 _ _ l0_2 a0_3 t556 _ _ l2 a3 t557 _ ?side1 ?side2 ?side3 ?side4 A36.out).mono ?_
                 (case side1 => exact nD HR0_2.out HB.out)
                 (case side2 => exact HC0_2.out)
                 (case side3 => exact nD HR2.out HB.out)
                 (case side4 => exact HC2.out)
                 rintro e w45 ⟨rfl, hb⟩
                 have HS4_ := (hb.cell (World.block_lt_of_cell? _ _ (hHeld.2.2.2.2.1))).trans (hHeld.2.2.2.2.1)
                 refine ⟨_, rfl, ?_⟩
                 have n0_ := Aside0.mk (Kd.R_below (nR HO_10.out) hb)
                 have n1_ := Aside0.mk (Kd.R_below (nR HO_11.out) hb)
                 have n2_ := Aside0.mk (blk_below (g := gb538) (o := .cells #[.int .i64 a0_0, .int .i64 a0_1, .slice A0_2 l0_2.length c0_2, .int .i64 a0_3] 34 (0, 0)) (nB BK538.out) hb)
                 have n3_ := Aside0.mk (below_step (nH1 HB.out GE538.out) hb)
                 clear HO_10; clear HO_11; clear BK538; clear HB; have HO_10 := n0_; have HO_11 := n1_; have BK538 := n2_; have HB := n3_; clear n0_ n1_ n2_ n3_; (try clear hb); (try clear hb2); (try clear hk); (try clear hi)
                 refine hK.out _ _ ⟨(blk_cell BK538.out 0).trans rfl, (blk_cell BK538.out 1).trans rfl, (blk_cell BK538.out 2).trans rfl, (blk_cell BK538.out 3).trans rfl, HS4_, (nC HB.out hw554_0 :), (nC HB.out hw555_0 :)⟩ (fun hHeld => ?_)
                 clear hK K
                 refine norm_ (a' := ?_) ?_ ?_
                 rotate_left
                 · show Act.put _ (some 76) _ = _
                   simp only [Act.put, List.setIfInBounds_toArray, List.set_cons_zero, List.set_cons_succ, i64_w, i32_w]
                   rfl
                 refine qU 18 (some 77) rfl rfl HT_.out ?_
                 refine qU 19 (some 16) rfl rfl HT_.out ?_
                 refine done_ (done_of HT_.out (by kernel_rfl)) ?_
                 try go_wp2
                 have n0_ := Aside0.mk (Kd.R_drew HO_10.out)
                 have n1_ := Aside0.mk (Kd.R_drew HO_11.out)
                 have n2_ := Aside0.mk (blk_drew BK538.out)
                 have n3_ := Aside0.mk (below_drew1 HB.out)
                 clear HO_10; clear HO_11; clear BK538; clear HB; have HO_10 := n0_; have HO_11 := n1_; have BK538 := n2_; have HB := n3_; clear n0_ n1_ n2_ n3_
                 have p558 : 0 ≤ (x14_2 : Int) := of_decide_eq_true nQ
                 have q558 : x14_2 < (x10_3.length : Int) := of_decide_eq_true nQ
                 obtain ⟨ad558, e558, hx558_0⟩ := Kd.at_int (Kd.R_reads' HO_10.out).2.2 x14_2 p558 q558
                 obtain rfl : (⟨go25, 0, none⟩ : Addr) = ad558 := (by injection e558)
                 (first | simp only [add_plain] at hx558_0 | simp only [add_at] at hx558_0 | simp only [Addr.add, Nat.zero_add] at hx558_0 | skip)
                 replace p558 := eq_true p558; replace q558 := eq_true q558
                 refine start_ (n := 33) (S := fun w' => w'.cell? ⟨go25, (x14_2).toNat, none⟩ = some (.int .i64 (rd x10_3 x14_2))) (ds := []) #[F,F,F,F,F,F,F,F,F,F,F,F,F,F,F,F,F,F,F,F,F,F,F,F,F,F,F,F,F,F,F,F,F] (by kernel_rfl) rfl rfl (hx558_0) (fun hHeld => ?_); refine with_tabW spec_Split.tab18 spec_Split.bits18 (fun HT_ HW_ => ?_)
                 generalize w45.drew = w46 at HO_10 HO_11 BK538 HB hx558_0 hHeld ⊢
                 refine qU 0 (some 78) rfl rfl HT_.out ?_
                 refine qU 1 (some 79) rfl rfl HT_.out ?_
                 refine qU 2 (some 80) rfl rfl HT_.out ?_
                 refine take_ (i := 3) (N := some 81) (v := ?_) (a' := ?_) #[T,T,T,T,F,F,F,F,F,F,F,F,F,F,F,F,F,F,F,F,F,F,F,F,F,F,F,F,F,F,F,F,F] rfl rfl (take_ofW HT_.out HW_.out (by kernel_rfl)) (fun _ _ _ h => h) (Or.inl ⟨by rfl, ?_⟩) hHeld ?_ ?_
                 rotate_left
                 · intro w' s0
                   go_simp; with_reducible rfl
                 rotate_left
                 · simp only [Act.put, List.setIfInBounds_toArray, List.set_cons_zero, List.set_cons_succ, i64_w, i32_w]
                   rfl
                 refine qU 4 (some 82) rfl rfl HT_.out ?_
                 refine qU 5 (some 83) rfl rfl HT_.out ?_
                 refine qV 6 (some 84) rfl rfl HT_.out ?_
                 refine qV 7 (some 85) rfl rfl HT_.out ?_
                 refine qV 8 (some 86) rfl rfl HT_.out ?_
                 refine qV 9 (some 87) rfl rfl HT_.out ?_
                 refine qV 10 (some 88) rfl rfl HT_.out ?_
                 refine qV 11 (some 89) rfl rfl HT_.out ?_
                 refine qU 12 (some 90) rfl rfl HT_.out ?_
                 refine qU 13 (some 91) rfl rfl HT_.out ?_
                 refine qV 14 (some 92) rfl rfl HT_.out ?_
                 refine qV 15 (some 93) rfl rfl HT_.out ?_
                 refine qV 16 (some 94) rfl rfl HT_.out ?_
                 refine qV 17 (some 95) rfl rfl HT_.out ?_
                 refine qV 18 (some 96) rfl rfl HT_.out ?_
                 refine qV 19 (some 97) rfl rfl HT_.out ?_
                 refine qV 20 (some 98) rfl rfl HT_.out ?_
                 refine qV 21 (some 99) rfl rfl HT_.out ?_
                 refine qV 22 (some 100) rfl rfl HT_.out ?_
                 refine qV 23 (some 101) rfl rfl HT_.out ?_
                 refine qV 24 (some 102) rfl rfl HT_.out ?_
                 refine qV 25 (some 103) rfl rfl HT_.out ?_
                 refine qV 26 (some 104) rfl rfl HT_.out ?_
                 refine qV 27 (some 105) rfl rfl HT_.out ?_
                 refine qV 28 (some 106) rfl rfl HT_.out ?_
                 refine qV 29 (some 107) rfl rfl HT_.out ?_
                 refine qV 30 (some 108) rfl rfl HT_.out ?_
                 refine qV 31 (some 109) rfl rfl HT_.out ?_
                 refine qU 32 (some 110) rfl rfl HT_.out ?_
                 refine done_ (done_of HT_.out (by kernel_rfl)) ?_
                 have p39 : 0 ≤ (x14_2 : Int) := of_decide_eq_true nQ
                 have q39 : (x14_2 : Int) < ((x10_3.length : Int) : Int) := of_decide_eq_true nQ
                 obtain ⟨hx39_0, hf39_0⟩ := Kd.R_celln 0 HO_10.out (x14_2 : Int) p39 q39
                 replace p39 := eq_true p39; replace q39 := eq_true q39
                 obtain ⟨hy47_, hz47_⟩ := Kd.R_celln 0 HO_10.out (x14_2 : Int) (of_decide_eq_true nQ) (of_decide_eq_true nQ)
                 have HP47 := Kd.R_putg HO_10.out (x14_2 : Int) (wrap64 ((rd x10_3 x15_3) + t557))
                 try go_wp2_with (first | ((with_reducible refine gate_store (t := 3) (p := 114) rfl ?_); refine store_event (t := 3) (p := 114) (v := ?vo_w48) (w1 := (w46.setCell ⟨go25, (x14_2 : Int).toNat, none⟩ (.int .i64 (wrap64 ((rd x10_3 x15_3) + t557))))) ?hg ?ho ?hn ?hr ?_; (case ho => rfl); (case hg => rfl); (case hn => rfl); (case hr => first | (go_simp; done) | (go_simp; rfl)); intro w48 hw; have hg : w46.grownBy w48 (some go25) := (by rw [hw]; exact HP47.2); have hp_ : Kd.R (Kd.int .i64) 3 w48 w.heap.size (fun k_ => some k_ ≠ (u11 : Value).ownBlock) (.slice (some ⟨go25, 0, none⟩) x10_3.length co25) y559 := (by rw [hw, Ny559.out]; exact HP47.1); clear HP47; have n0_ := Aside0.mk (hp_); have n1_ := Aside0.mk (Kd.R_after (v := (.slice (some ⟨go25, 0, none⟩) x10_3.length co25)) (v1 := (.slice (some ⟨go25, 0, none⟩) x10_3.length co25)) (ok := (fun _ => True)) (by (with_reducible repeat (first | apply Kd.R_alloc | apply Kd.R_drewN | apply Kd.R_drew)); exact Kd.R_mono HO_11.out (fun _ hk => ⟨trivial, hk⟩)) hg (.inl rfl)); have n2_ := Aside0.mk (blk_grown (g := gb538) (o := .cells #[.int .i64 a0_0, .int .i64 a0_1, .slice A0_2 l0_2.length c0_2, .int .i64 a0_3] 34 (0, 0)) (nB BK538.out) hg (Kd.R_ne HO_10.out BK538.out (by decide))); have n3_ := Aside0.mk ((by rw [hw]; exact below_set (HB.out) GB25.out : Below w.heap.size w w48)); clear HO_10; clear HO_11; clear BK538; clear HB; have HO_10 := n0_; have HO_11 := n1_; have BK538 := n2_; have HB := n3_; clear n0_ n1_ n2_ n3_; clear hg hw hp_; obtain ⟨Ao49, co49, eo49⟩ := Kd.R_slice HO_11.out; subst eo49; have p560 : 0 ≤ (x15_3 : Int) := of_decide_eq_true nQ; have q560 : x15_3 < (x11_3.length : Int) := of_decide_eq_true nQ; obtain ⟨ad560, e560, hx560_0⟩ := Kd.at_int (Kd.R_reads' HO_11.out).2.2 x15_3 p560 q560; cases e560; replace p560 := eq_true p560; replace q560 := eq_true q560; have p42 : 0 ≤ (x14_2 : Int) := of_decide_eq_true nQ; have q42 : (x14_2 : Int) < ((x11_3.length : Int) : Int) := of_decide_eq_true nQ; obtain ⟨go42, co42, eo42, gb42, gl42, cl42, HG42⟩ := Kd.R_form HO_11.out (by omega); (first | cases eo42 | (injection eo42 with ea_ en_ ec_; (first | subst ea_ | (injection ea_ with ea_; subst ea_)); subst ec_; clear en_)); have GB42 := Aside0.mk gb42; have GG42 := Aside0.mk HG42; clear gb42 gl42 HG42; (first | simp only [add_plain] at hx560_0 | skip); obtain ⟨hx42_0, hf42_0⟩ := Kd.R_celln 0 HO_11.out (x14_2 : Int) p42 q42; replace p42 := eq_true p42; replace q42 := eq_true q42; have n_ := Aside0.mk (Kd.R_mono (ok' := (fun k_ => some k_ ≠ (.slice (some ⟨go25, 0, none⟩) x10_3.length co25 : Value).ownBlock)) HO_11.out (fun k_ hk => hk.2)); clear HO_11; have HO_11 := n_; clear n_; obtain ⟨hy50_, hz50_⟩ := Kd.R_celln 0 HO_11.out (x14_2 : Int) (of_decide_eq_true nQ) (of_decide_eq_true nQ); have HP50 := Kd.R_putg HO_11.out (x14_2 : Int) (wrap64 ((rd x11_3 x15_3) + 1))) | ((with_reducible refine gate_store (t := 3) (p := 122) rfl ?_); refine store_event (t := 3) (p := 122) (v := ?vo_w51) (w1 := (w48.setCell ⟨go42, (x14_2 : Int).toNat, none⟩ (.int .i64 (wrap64 ((rd x11_3 x15_3) + 1))))) ?hg ?ho ?hn ?hr ?_; (case ho => rfl); (case hg => rfl); (case hn => rfl); (case hr => first | (go_simp; done) | (go_simp; rfl)); intro w51 hw; have hg : w48.grownBy w51 (some go42) := (by rw [hw]; exact HP50.2); have hp_ : Kd.R (Kd.int .i64) 3 w51 w.heap.size (fun k_ => some k_ ≠ (.slice (some ⟨go25, 0, none⟩) x10_3.length co25 : Value).ownBlock) (.slice (some ⟨go42, 0, none⟩) x11_3.length co49) y561 := (by rw [hw, Ny561.out]; exact HP50.1); clear HP50; have n0_ := Aside0.mk (Kd.R_after (v := (.slice (some ⟨go42, 0, none⟩) x11_3.length co49)) (v1 := (.slice (some ⟨go42, 0, none⟩) x11_3.length co49)) (ok := (fun _ => True)) (by (with_reducible repeat (first | apply Kd.R_alloc | apply Kd.R_drewN | apply Kd.R_drew)); exact Kd.R_mono HO_10.out (fun _ hk => ⟨trivial, hk⟩)) hg (.inl rfl)); have n1_ := Aside0.mk (hp_); have n2_ := Aside0.mk (blk_grown (g := gb538) (o := .cells #[.int .i64 a0_0, .int .i64 a0_1, .slice A0_2 l0_2.length c0_2, .int .i64 a0_3] 34 (0, 0)) (nB BK538.out) hg (Kd.R_ne HO_11.out BK538.out (by decide))); have n3_ := Aside0.mk ((by rw [hw]; exact below_set (HB.out) GB42.out : Below w.heap.size w w51)); clear HO_10; clear HO_11; clear BK538; clear HB; have HO_10 := n0_; have HO_11 := n1_; have BK538 := n2_; have HB := n3_; clear n0_ n1_ n2_ n3_; clear hg hw hp_))
                 (try simp only [← hl10_3])
                 go_roundg k3
                 case measure => have := HK1.out; have := HK2.out; have := HK3.out; omega
                 case rel => exact ⟨(y559), (y561), (wrap64 (x15_3 + 1)), nS, H', ⟨by have := HK1.out; have := HK2.out; have := HK3.out; omega⟩, ⟨by (try simp only [hl10_2]); (try simp only [hl10_3]); (with_reducible repeat (first | apply Kd.R_alloc | apply Kd.R_drewN | apply Kd.R_drew)); exact Kd.R_mono HO_10.out (fun _ hk => hk.2)⟩, ⟨by (try simp only [hl10_2]); (try simp only [hl10_3]); exact nR HO_11.out⟩, ⟨by (try simp only [hl10_2]); (try simp only [hl10_3]); exact nB BK538.out⟩, ⟨nH1 HB.out GE538.out⟩⟩
               · rw [if_neg c38] at H
                 have c38b0 : decide ((rd x10_3 x14_2) < 0) = false := decide_eq_false c38
                 clear c38
                 by_cases c52 : (wrap64 ((rd x10_3 x15_3) + t557)) < (rd x10_3 x14_2)
                 · rw [if_pos c52] at H
                   have c52b0 : decide ((wrap64 ((rd x10_3 x15_3) + t557)) < (rd x10_3 x14_2)) = true := decide_eq_true c52
                   clear c52
                   obtain ⟨y563, hy563⟩ : ∃ y_ : List Int, y_ = (x10_3.set (x14_2 : Int).toNat (wrap64 ((rd x10_3 x15_3) + t557))) := ⟨_, rfl⟩
                   replace H : (if x15_3 < (x11_3.length : Int) then (if x14_2 < (x11_3.length : Int) then (spec_Split.l2 k3 l1 l2 a3 y563 (x11_3.set (x14_2 : Int).toNat (wrap64 ((rd x11_3 x15_3) + 1))) ji22 x14_2 (wrap64 (x15_3 + 1)) a0_0 a0_1 l0_2 a0_3) else (none)) else (none)) = some (r1, r2) := by first | (rw [hy563]; with_reducible exact H) | (have H2_ := (Option.bind_some _ _).symm.trans H; rw [hy563]; with_reducible exact H2_) | (have H2_ := (Option.bind_some _ _).symm.trans H; with_reducible exact H2_) | with_reducible exact H | (rw [hy563]; exact H) | exact H
                   have Ny563 := Aside0.mk hy563
                   clear hy563
                   by_cases c54 : x15_3 < (x11_3.length : Int)
                   rotate_left
                   · (rw [if_neg c54] at H; exact absurd H (by simp))
                   rw [if_pos c54] at H
                   have c54b0 : decide (x15_3 < (x11_3.length : Int)) = true := decide_eq_true c54
                   clear c54
                   by_cases c55 : x14_2 < (x11_3.length : Int)
                   rotate_left
                   · (rw [if_neg c55] at H; exact absurd H (by simp))
                   rw [if_pos c55] at H
                   have c55b0 : decide (x14_2 < (x11_3.length : Int)) = true := decide_eq_true c55
                   clear c55
                   obtain ⟨y565, hy565⟩ : ∃ y_ : List Int, y_ = (x11_3.set (x14_2 : Int).toNat (wrap64 ((rd x11_3 x15_3) + 1))) := ⟨_, rfl⟩
                   replace H : (spec_Split.l2 k3 l1 l2 a3 y563 y565 ji22 x14_2 (wrap64 (x15_3 + 1)) a0_0 a0_1 l0_2 a0_3) = some (r1, r2) := by first | (rw [hy565]; with_reducible exact H) | (have H2_ := (Option.bind_some _ _).symm.trans H; rw [hy565]; with_reducible exact H2_) | (have H2_ := (Option.bind_some _ _).symm.trans H; with_reducible exact H2_) | with_reducible exact H | (rw [hy565]; exact H) | exact H
                   have Ny565 := Aside0.mk hy565
                   clear hy565
                   have H' := Aside0.mk H
                   clear H
                   try go_wp2
                   have n0_ := Aside0.mk (Kd.R_drew HO_10.out)
                   have n1_ := Aside0.mk (Kd.R_drew HO_11.out)
                   have n2_ := Aside0.mk (blk_drew BK538.out)
                   have n3_ := Aside0.mk (below_drew1 HB.out)
                   clear HO_10; clear HO_11; clear BK538; clear HB; have HO_10 := n0_; have HO_11 := n1_; have BK538 := n2_; have HB := n3_; clear n0_ n1_ n2_ n3_
                   have p553 : 0 ≤ (x15_3 : Int) := of_decide_eq_true nQ
                   have q553 : x15_3 < (x10_3.length : Int) := of_decide_eq_true nQ
                   obtain ⟨ad553, e553, hx553_0⟩ := Kd.at_int (Kd.R_reads' HO_10.out).2.2 x15_3 p553 q553
                   obtain rfl : (⟨go25, 0, none⟩ : Addr) = ad553 := (by injection e553)
                   (first | simp only [add_plain] at hx553_0 | simp only [add_at] at hx553_0 | simp only [Addr.add, Nat.zero_add] at hx553_0 | skip)
                   replace p553 := eq_true p553; replace q553 := eq_true q553
                   have p554 : 0 ≤ (x14_2 : Int) := of_decide_eq_true nQ
                   have q554 : x14_2 < (l1.length : Int) := of_decide_eq_true nQ
                   obtain ⟨ad554, e554, hx554_0⟩ := Kd.at_int HR1.out x14_2 p554 q554
                   have hw554_0 := hx554_0; cases e554
                   replace hx554_0 := (HB.out.cell (World.block_lt_of_cell? w _ hx554_0)).trans hx554_0
                   replace p554 := eq_true p554; replace q554 := eq_true q554
                   have p555 : 0 ≤ (x15_3 : Int) := of_decide_eq_true nQ
                   have q555 : x15_3 < (l1.length : Int) := of_decide_eq_true nQ
                   obtain ⟨ad555, e555, hx555_0⟩ := Kd.at_int HR1.out x15_3 p555 q555
                   have hw555_0 := hx555_0
                   obtain rfl : ad554 = ad555 := (by injection e555)
                   replace hx555_0 := (HB.out.cell (World.block_lt_of_cell? w _ hx555_0)).trans hx555_0
                   replace p555 := eq_true p555; replace q555 := eq_true q555
                   refine start_ (n := 20) (S := fun w' => w'.cell? ⟨gb538, 0, none⟩ = some (.int .i64 a0_0) ∧ w'.cell? ⟨gb538, 1, none⟩ = some (.int .i64 a0_1) ∧ w'.cell? ⟨gb538, 2, none⟩ = some (.slice A0_2 l0_2.length c0_2) ∧ w'.cell? ⟨gb538, 3, none⟩ = some (.int .i64 a0_3) ∧ w'.cell? ⟨go25, (x15_3).toNat, none⟩ = some (.int .i64 (rd x10_3 x15_3)) ∧ w'.cell? (ad554.add (x14_2).toNat) = some (.int .i64 (rd l1 x14_2)) ∧ w'.cell? (ad554.add (x15_3).toNat) = some (.int .i64 (rd l1 x15_3))) (ds := []) #[F,F,F,F,F,F,F,F,F,F,F,F,F,F,F,F,F,F,F,F] (by kernel_rfl) rfl rfl ⟨(blk_cell BK538.out 0).trans rfl, (blk_cell BK538.out 1).trans rfl, (blk_cell BK538.out 2).trans rfl, (blk_cell BK538.out 3).trans rfl, hx553_0, (nC HB.out hw554_0 :), (nC HB.out hw555_0 :)⟩ (fun hHeld => ?_); refine with_tabW spec_Split.tab17 spec_Split.bits17 (fun HT_ HW_ => ?_)
                   generalize wr.drew = w57 at HO_10 HO_11 BK538 HB hx553_0 hx554_0 hx555_0 hHeld ⊢
                   refine qU 0 (some 59) rfl rfl HT_.out ?_
                   refine qU 1 (some 60) rfl rfl HT_.out ?_
                   refine qU 2 (some 61) rfl rfl HT_.out ?_
                   refine qU 6 (some 65) rfl rfl HT_.out ?_
                   refine qU 7 (some 66) rfl rfl HT_.out ?_
                   refine qU 8 (some 67) rfl rfl HT_.out ?_
                   refine qU 10 (some 69) rfl rfl HT_.out ?_
                   refine qU 11 (some 70) rfl rfl HT_.out ?_
                   refine qU 12 (some 71) rfl rfl HT_.out ?_
                   refine qU 15 (some 74) rfl rfl HT_.out ?_
                   refine qU 16 (some 75) rfl rfl HT_.out ?_
                   refine qT7 3 (some 62) rfl rfl HT_.out HW_.out hHeld ?_
                   refine qT7 4 (some 63) rfl rfl HT_.out HW_.out hHeld ?_
                   refine qT7 5 (some 64) rfl rfl HT_.out HW_.out hHeld ?_
                   refine qT7 9 (some 68) rfl rfl HT_.out HW_.out hHeld ?_
                   refine qT7 13 (some 72) rfl rfl HT_.out HW_.out hHeld ?_
                   refine one_ (i := 14) (N := some 73) #[T,T,T,T,T,T,T,T,T,T,T,T,T,T,T,T,T,F,F,F] rfl rfl (one_of HT_.out (by kernel_rfl)) (by decide) (fun K hK => ?_)
                   refine goes_ Try.func24 (by kernel_rfl) rfl #[.agg #[.int .i64 a0_0, .int .i64 a0_1, .slice A0_2 l0_2.length c0_2, .int .i64 a0_3], .int .i64 (rd l1 x14_2), .int .i64 (rd l1 x15_3)] (by rfl) rfl rfl nM ?_
                   with_reducible refine (spec_Fare.calls k3 a0_0 a0_1 _ _ l0_2 a0_3 (rd l1 x14_2) (rd l1 x15_3) t556 _ ?side1 ?side2 A35.out).mono ?_
                   (case side1 => exact nD HR0_2.out HB.out)
                   (case side2 => exact HC0_2.out)
                   rintro e w58 ⟨rfl, hb⟩
                   have HS4_ := (hb.cell (World.block_lt_of_cell? _ _ (hHeld.2.2.2.2.1))).trans (hHeld.2.2.2.2.1)
                   refine ⟨_, rfl, ?_⟩
                   have n0_ := Aside0.mk (Kd.R_below (nR HO_10.out) hb)
                   have n1_ := Aside0.mk (Kd.R_below (nR HO_11.out) hb)
                   have n2_ := Aside0.mk (blk_below (g := gb538) (o := .cells #[.int .i64 a0_0, .int .i64 a0_1, .slice A0_2 l0_2.length c0_2, .int .i64 a0_3] 34 (0, 0)) (nB BK538.out) hb)
                   have n3_ := Aside0.mk (below_step (nH1 HB.out GE538.out) hb)
                   clear HO_10; clear HO_11; clear BK538; clear HB; have HO_10 := n0_; have HO_11 := n1_; have BK538 := n2_; have HB := n3_; clear n0_ n1_ n2_ n3_; (try clear hb); (try clear hb2); (try clear hk); (try clear hi)
                   refine hK.out _ _ ⟨(blk_cell BK538.out 0).trans rfl, (blk_cell BK538.out 1).trans rfl, (blk_cell BK538.out 2).trans rfl, (blk_cell BK538.out 3).trans rfl, HS4_, (nC HB.out hw554_0 :), (nC HB.out hw555_0 :)⟩ (fun hHeld => ?_)
                   clear hK K
                   refine norm_ (a' := ?_) ?_ ?_
                   rotate_left
                   · show Act.put _ (some 73) _ = _
                     simp only [Act.put, List.setIfInBounds_toArray, List.set_cons_zero, List.set_cons_succ, i64_w, i32_w]
                     rfl
                   refine one_ (i := 17) (N := some 76) #[T,T,T,T,T,T,T,T,T,T,T,T,T,T,T,T,T,T,F,F] rfl rfl (one_of HT_.out (by kernel_rfl)) (by decide) (fun K hK => ?_)
                   refine goes_ Try.func30 (by kernel_rfl) rfl #[.agg #[.int .i64 a0_0, .int .i64 a0_1, .slice A0_2 l0_2.length c0_2, .int .i64 a0_3], .int .i64 t556, .slice A2 l2.length c2, .int .i64 a3] (by rfl) rfl rfl nM ?_
                   with_reducible refine (spec_Carded.calls k3 a0_0 a0_1 _ _ l0_2 a0_3 t556 _ _ l2 a3 t557 _ ?side1 ?side2 ?side3 ?side4 A36.out).mono ?_
                   (case side1 => exact nD HR0_2.out HB.out)
                   (case side2 => exact HC0_2.out)
                   (case side3 => exact nD HR2.out HB.out)
                   (case side4 => exact HC2.out)
                   rintro e w59 ⟨rfl, hb⟩
                   have HS4_ := (hb.cell (World.block_lt_of_cell? _ _ (hHeld.2.2.2.2.1))).trans (hHeld.2.2.2.2.1)
                   refine ⟨_, rfl, ?_⟩
                   have n0_ := Aside0.mk (Kd.R_below (nR HO_10.out) hb)
                   have n1_ := Aside0.mk (Kd.R_below (nR HO_11.out) hb)
                   have n2_ := Aside0.mk (blk_below (g := gb538) (o := .cells #[.int .i64 a0_0, .int .i64 a0_1, .slice A0_2 l0_2.length c0_2, .int .i64 a0_3] 34 (0, 0)) (nB BK538.out) hb)
                   have n3_ := Aside0.mk (below_step (nH1 HB.out GE538.out) hb)
                   clear HO_10; clear HO_11; clear BK538; clear HB; have HO_10 := n0_; have HO_11 := n1_; have BK538 := n2_; have HB := n3_; clear n0_ n1_ n2_ n3_; (try clear hb); (try clear hb2); (try clear hk); (try clear hi)
                   refine hK.out _ _ ⟨(blk_cell BK538.out 0).trans rfl, (blk_cell BK538.out 1).trans rfl, (blk_cell BK538.out 2).trans rfl, (blk_cell BK538.out 3).trans rfl, HS4_, (nC HB.out hw554_0 :), (nC HB.out hw555_0 :)⟩ (fun hHeld => ?_)
                   clear hK K
                   refine norm_ (a' := ?_) ?_ ?_
                   rotate_left
                   · show Act.put _ (some 76) _ = _
                     simp only [Act.put, List.setIfInBounds_toArray, List.set_cons_zero, List.set_cons_succ, i64_w, i32_w]
                     rfl
                   refine qU 18 (some 77) rfl rfl HT_.out ?_
                   refine qU 19 (some 16) rfl rfl HT_.out ?_
                   refine done_ (done_of HT_.out (by kernel_rfl)) ?_
                   try go_wp2
                   have n0_ := Aside0.mk (Kd.R_drew HO_10.out)
                   have n1_ := Aside0.mk (Kd.R_drew HO_11.out)
                   have n2_ := Aside0.mk (blk_drew BK538.out)
                   have n3_ := Aside0.mk (below_drew1 HB.out)
                   clear HO_10; clear HO_11; clear BK538; clear HB; have HO_10 := n0_; have HO_11 := n1_; have BK538 := n2_; have HB := n3_; clear n0_ n1_ n2_ n3_
                   have p558 : 0 ≤ (x14_2 : Int) := of_decide_eq_true nQ
                   have q558 : x14_2 < (x10_3.length : Int) := of_decide_eq_true nQ
                   obtain ⟨ad558, e558, hx558_0⟩ := Kd.at_int (Kd.R_reads' HO_10.out).2.2 x14_2 p558 q558
                   obtain rfl : (⟨go25, 0, none⟩ : Addr) = ad558 := (by injection e558)
                   (first | simp only [add_plain] at hx558_0 | simp only [add_at] at hx558_0 | simp only [Addr.add, Nat.zero_add] at hx558_0 | skip)
                   replace p558 := eq_true p558; replace q558 := eq_true q558
                   have p562 : 0 ≤ (x14_2 : Int) := of_decide_eq_true nQ
                   have q562 : x14_2 < (x10_3.length : Int) := of_decide_eq_true nQ
                   obtain ⟨ad562, e562, hx562_0⟩ := Kd.at_int (Kd.R_reads' HO_10.out).2.2 x14_2 p562 q562
                   obtain rfl : (⟨go25, 0, none⟩ : Addr) = ad562 := (by injection e562)
                   (first | simp only [add_plain] at hx562_0 | simp only [add_at] at hx562_0 | simp only [Addr.add, Nat.zero_add] at hx562_0 | skip)
                   replace p562 := eq_true p562; replace q562 := eq_true q562
                   refine start_ (n := 33) (S := fun w' => w'.cell? ⟨go25, (x14_2).toNat, none⟩ = some (.int .i64 (rd x10_3 x14_2)) ∧ w'.cell? ⟨go25, (x14_2).toNat, none⟩ = some (.int .i64 (rd x10_3 x14_2))) (ds := []) #[F,F,F,F,F,F,F,F,F,F,F,F,F,F,F,F,F,F,F,F,F,F,F,F,F,F,F,F,F,F,F,F,F] (by kernel_rfl) rfl rfl ⟨hx558_0, hx562_0⟩ (fun hHeld => ?_); refine with_tabW spec_Split.tab18 spec_Split.bits18 (fun HT_ HW_ => ?_)
                   generalize w59.drew = w60 at HO_10 HO_11 BK538 HB hx558_0 hx562_0 hHeld ⊢
                   refine qU 0 (some 78) rfl rfl HT_.out ?_
                   refine qU 1 (some 79) rfl rfl HT_.out ?_
                   refine qU 2 (some 80) rfl rfl HT_.out ?_
                   refine qT2 3 (some 81) rfl rfl HT_.out HW_.out hHeld ?_
                   refine qU 4 (some 82) rfl rfl HT_.out ?_
                   refine qU 5 (some 83) rfl rfl HT_.out ?_
                   refine qU 6 (some 84) rfl rfl HT_.out ?_
                   refine qU 7 (some 85) rfl rfl HT_.out ?_
                   refine qU 8 (some 86) rfl rfl HT_.out ?_
                   refine qU 9 (some 87) rfl rfl HT_.out ?_
                   refine qT2 10 (some 88) rfl rfl HT_.out HW_.out hHeld ?_
                   refine qU 11 (some 89) rfl rfl HT_.out ?_
                   refine qU 12 (some 90) rfl rfl HT_.out ?_
                   refine qU 13 (some 91) rfl rfl HT_.out ?_
                   refine qV 14 (some 92) rfl rfl HT_.out ?_
                   refine qV 15 (some 93) rfl rfl HT_.out ?_
                   refine qV 16 (some 94) rfl rfl HT_.out ?_
                   refine qV 17 (some 95) rfl rfl HT_.out ?_
                   refine qV 18 (some 96) rfl rfl HT_.out ?_
                   refine qV 19 (some 97) rfl rfl HT_.out ?_
                   refine qV 20 (some 98) rfl rfl HT_.out ?_
                   refine qV 21 (some 99) rfl rfl HT_.out ?_
                   refine qV 22 (some 100) rfl rfl HT_.out ?_
                   refine qV 23 (some 101) rfl rfl HT_.out ?_
                   refine qV 24 (some 102) rfl rfl HT_.out ?_
                   refine qV 25 (some 103) rfl rfl HT_.out ?_
                   refine qV 26 (some 104) rfl rfl HT_.out ?_
                   refine qV 27 (some 105) rfl rfl HT_.out ?_
                   refine qV 28 (some 106) rfl rfl HT_.out ?_
                   refine qV 29 (some 107) rfl rfl HT_.out ?_
                   refine qV 30 (some 108) rfl rfl HT_.out ?_
                   refine qV 31 (some 109) rfl rfl HT_.out ?_
                   refine qU 32 (some 110) rfl rfl HT_.out ?_
                   refine done_ (done_of HT_.out (by kernel_rfl)) ?_
                   have p53 : 0 ≤ (x14_2 : Int) := of_decide_eq_true nQ
                   have q53 : (x14_2 : Int) < ((x10_3.length : Int) : Int) := of_decide_eq_true nQ
                   obtain ⟨hx53_0, hf53_0⟩ := Kd.R_celln 0 HO_10.out (x14_2 : Int) p53 q53
                   replace p53 := eq_true p53; replace q53 := eq_true q53
                   obtain ⟨hy61_, hz61_⟩ := Kd.R_celln 0 HO_10.out (x14_2 : Int) (of_decide_eq_true nQ) (of_decide_eq_true nQ)
                   have HP61 := Kd.R_putg HO_10.out (x14_2 : Int) (wrap64 ((rd x10_3 x15_3) + t557))
                   try go_wp2_with (first | ((with_reducible refine gate_store (t := 3) (p := 114) rfl ?_); refine store_event (t := 3) (p := 114) (v := ?vo_w62) (w1 := (w60.setCell ⟨go25, (x14_2 : Int).toNat, none⟩ (.int .i64 (wrap64 ((rd x10_3 x15_3) + t557))))) ?hg ?ho ?hn ?hr ?_; (case ho => rfl); (case hg => rfl); (case hn => rfl); (case hr => first | (go_simp; done) | (go_simp; rfl)); intro w62 hw; have hg : w60.grownBy w62 (some go25) := (by rw [hw]; exact HP61.2); have hp_ : Kd.R (Kd.int .i64) 3 w62 w.heap.size (fun k_ => some k_ ≠ (u11 : Value).ownBlock) (.slice (some ⟨go25, 0, none⟩) x10_3.length co25) y563 := (by rw [hw, Ny563.out]; exact HP61.1); clear HP61; have n0_ := Aside0.mk (hp_); have n1_ := Aside0.mk (Kd.R_after (v := (.slice (some ⟨go25, 0, none⟩) x10_3.length co25)) (v1 := (.slice (some ⟨go25, 0, none⟩) x10_3.length co25)) (ok := (fun _ => True)) (by (with_reducible repeat (first | apply Kd.R_alloc | apply Kd.R_drewN | apply Kd.R_drew)); exact Kd.R_mono HO_11.out (fun _ hk => ⟨trivial, hk⟩)) hg (.inl rfl)); have n2_ := Aside0.mk (blk_grown (g := gb538) (o := .cells #[.int .i64 a0_0, .int .i64 a0_1, .slice A0_2 l0_2.length c0_2, .int .i64 a0_3] 34 (0, 0)) (nB BK538.out) hg (Kd.R_ne HO_10.out BK538.out (by decide))); have n3_ := Aside0.mk ((by rw [hw]; exact below_set (HB.out) GB25.out : Below w.heap.size w w62)); clear HO_10; clear HO_11; clear BK538; clear HB; have HO_10 := n0_; have HO_11 := n1_; have BK538 := n2_; have HB := n3_; clear n0_ n1_ n2_ n3_; clear hg hw hp_; obtain ⟨Ao63, co63, eo63⟩ := Kd.R_slice HO_11.out; subst eo63; have p564 : 0 ≤ (x15_3 : Int) := of_decide_eq_true nQ; have q564 : x15_3 < (x11_3.length : Int) := of_decide_eq_true nQ; obtain ⟨ad564, e564, hx564_0⟩ := Kd.at_int (Kd.R_reads' HO_11.out).2.2 x15_3 p564 q564; cases e564; replace p564 := eq_true p564; replace q564 := eq_true q564; have p56 : 0 ≤ (x14_2 : Int) := of_decide_eq_true nQ; have q56 : (x14_2 : Int) < ((x11_3.length : Int) : Int) := of_decide_eq_true nQ; obtain ⟨go56, co56, eo56, gb56, gl56, cl56, HG56⟩ := Kd.R_form HO_11.out (by omega); (first | cases eo56 | (injection eo56 with ea_ en_ ec_; (first | subst ea_ | (injection ea_ with ea_; subst ea_)); subst ec_; clear en_)); have GB56 := Aside0.mk gb56; have GG56 := Aside0.mk HG56; clear gb56 gl56 HG56; (first | simp only [add_plain] at hx564_0 | skip); obtain ⟨hx56_0, hf56_0⟩ := Kd.R_celln 0 HO_11.out (x14_2 : Int) p56 q56; replace p56 := eq_true p56; replace q56 := eq_true q56; have n_ := Aside0.mk (Kd.R_mono (ok' := (fun k_ => some k_ ≠ (.slice (some ⟨go25, 0, none⟩) x10_3.length co25 : Value).ownBlock)) HO_11.out (fun k_ hk => hk.2)); clear HO_11; have HO_11 := n_; clear n_; obtain ⟨hy64_, hz64_⟩ := Kd.R_celln 0 HO_11.out (x14_2 : Int) (of_decide_eq_true nQ) (of_decide_eq_true nQ); have HP64 := Kd.R_putg HO_11.out (x14_2 : Int) (wrap64 ((rd x11_3 x15_3) + 1))) | ((with_reducible refine gate_store (t := 3) (p := 122) rfl ?_); refine store_event (t := 3) (p := 122) (v := ?vo_w65) (w1 := (w62.setCell ⟨go56, (x14_2 : Int).toNat, none⟩ (.int .i64 (wrap64 ((rd x11_3 x15_3) + 1))))) ?hg ?ho ?hn ?hr ?_; (case ho => rfl); (case hg => rfl); (case hn => rfl); (case hr => first | (go_simp; done) | (go_simp; rfl)); intro w65 hw; have hg : w62.grownBy w65 (some go56) := (by rw [hw]; exact HP64.2); have hp_ : Kd.R (Kd.int .i64) 3 w65 w.heap.size (fun k_ => some k_ ≠ (.slice (some ⟨go25, 0, none⟩) x10_3.length co25 : Value).ownBlock) (.slice (some ⟨go56, 0, none⟩) x11_3.length co63) y565 := (by rw [hw, Ny565.out]; exact HP64.1); clear HP64; have n0_ := Aside0.mk (Kd.R_after (v := (.slice (some ⟨go56, 0, none⟩) x11_3.length co63)) (v1 := (.slice (some ⟨go56, 0, none⟩) x11_3.length co63)) (ok := (fun _ => True)) (by (with_reducible repeat (first | apply Kd.R_alloc | apply Kd.R_drewN | apply Kd.R_drew)); exact Kd.R_mono HO_10.out (fun _ hk => ⟨trivial, hk⟩)) hg (.inl rfl)); have n1_ := Aside0.mk (hp_); have n2_ := Aside0.mk (blk_grown (g := gb538) (o := .cells #[.int .i64 a0_0, .int .i64 a0_1, .slice A0_2 l0_2.length c0_2, .int .i64 a0_3] 34 (0, 0)) (nB BK538.out) hg (Kd.R_ne HO_11.out BK538.out (by decide))); have n3_ := Aside0.mk ((by rw [hw]; exact below_set (HB.out) GB56.out : Below w.heap.size w w65)); clear HO_10; clear HO_11; clear BK538; clear HB; have HO_10 := n0_; have HO_11 := n1_; have BK538 := n2_; have HB := n3_; clear n0_ n1_ n2_ n3_; clear hg hw hp_))
                   (try simp only [← hl10_3])
                   go_roundg k3
                   case measure => have := HK1.out; have := HK2.out; have := HK3.out; omega
                   case rel => exact ⟨(y563), (y565), (wrap64 (x15_3 + 1)), nS, H', ⟨by have := HK1.out; have := HK2.out; have := HK3.out; omega⟩, ⟨by (try simp only [hl10_2]); (try simp only [hl10_3]); (with_reducible repeat (first | apply Kd.R_alloc | apply Kd.R_drewN | apply Kd.R_drew)); exact Kd.R_mono HO_10.out (fun _ hk => hk.2)⟩, ⟨by (try simp only [hl10_2]); (try simp only [hl10_3]); exact nR HO_11.out⟩, ⟨by (try simp only [hl10_2]); (try simp only [hl10_3]); exact nB BK538.out⟩, ⟨nH1 HB.out GE538.out⟩⟩
                 · rw [if_neg c52] at H
                   have c52b0 : decide ((wrap64 ((rd x10_3 x15_3) + t557)) < (rd x10_3 x14_2)) = false := decide_eq_false c52
                   clear c52
                   by_cases c66 : (wrap64 ((rd x10_3 x15_3) + t557)) = (rd x10_3 x14_2)
                   · rw [if_pos c66] at H
                     have c66b0 : ((wrap64 ((rd x10_3 x15_3) + t557)) == (rd x10_3 x14_2)) = true := beq_iff_eq.mpr c66
                     have c66b1 : ((wrap64 ((rd x10_3 x15_3) + t557)) != (rd x10_3 x14_2)) = false := bne_eq_false_iff_eq.mpr c66
                     clear c66
                     by_cases c67 : x15_3 < (x11_3.length : Int)
                     rotate_left
                     · (rw [if_neg c67] at H; exact absurd H (by simp))
                     rw [if_pos c67] at H
                     have c67b0 : decide (x15_3 < (x11_3.length : Int)) = true := decide_eq_true c67
                     clear c67
                     by_cases c68 : x14_2 < (x11_3.length : Int)
                     rotate_left
                     · (rw [if_neg c68] at H; exact absurd H (by simp))
                     rw [if_pos c68] at H
                     have c68b0 : decide (x14_2 < (x11_3.length : Int)) = true := decide_eq_true c68
                     clear c68
                     by_cases c69 : (wrap64 ((rd x11_3 x15_3) + 1)) < (rd x11_3 x14_2)
                     · rw [if_pos c69] at H
                       have c69b0 : decide ((wrap64 ((rd x11_3 x15_3) + 1)) < (rd x11_3 x14_2)) = true := decide_eq_true c69
                       clear c69
                       obtain ⟨y569, hy569⟩ : ∃ y_ : List Int, y_ = (x10_3.set (x14_2 : Int).toNat (wrap64 ((rd x10_3 x15_3) + t557))) := ⟨_, rfl⟩
                       replace H : (spec_Split.l2 k3 l1 l2 a3 y569 (x11_3.set (x14_2 : Int).toNat (wrap64 ((rd x11_3 x15_3) + 1))) ji22 x14_2 (wrap64 (x15_3 + 1)) a0_0 a0_1 l0_2 a0_3) = some (r1, r2) := by first | (rw [hy569]; with_reducible exact H) | (have H2_ := (Option.bind_some _ _).symm.trans H; rw [hy569]; with_reducible exact H2_) | (have H2_ := (Option.bind_some _ _).symm.trans H; with_reducible exact H2_) | with_reducible exact H | (rw [hy569]; exact H) | exact H
                       have Ny569 := Aside0.mk hy569
                       clear hy569
                       obtain ⟨y571, hy571⟩ : ∃ y_ : List Int, y_ = (x11_3.set (x14_2 : Int).toNat (wrap64 ((rd x11_3 x15_3) + 1))) := ⟨_, rfl⟩
                       replace H : (spec_Split.l2 k3 l1 l2 a3 y569 y571 ji22 x14_2 (wrap64 (x15_3 + 1)) a0_0 a0_1 l0_2 a0_3) = some (r1, r2) := by first | (rw [hy571]; with_reducible exact H) | (have H2_ := (Option.bind_some _ _).symm.trans H; rw [hy571]; with_reducible exact H2_) | (have H2_ := (Option.bind_some _ _).symm.trans H; with_reducible exact H2_) | with_reducible exact H | (rw [hy571]; exact H) | exact H
                       have Ny571 := Aside0.mk hy571
                       clear hy571
                       have H' := Aside0.mk H
                       clear H
                       try go_wp2
                       have n0_ := Aside0.mk (Kd.R_drew HO_10.out)
                       have n1_ := Aside0.mk (Kd.R_drew HO_11.out)
                       have n2_ := Aside0.mk (blk_drew BK538.out)
                       have n3_ := Aside0.mk (below_drew1 HB.out)
                       clear HO_10; clear HO_11; clear BK538; clear HB; have HO_10 := n0_; have HO_11 := n1_; have BK538 := n2_; have HB := n3_; clear n0_ n1_ n2_ n3_
                       have p553 : 0 ≤ (x15_3 : Int) := of_decide_eq_true nQ
                       have q553 : x15_3 < (x10_3.length : Int) := of_decide_eq_true nQ
                       obtain ⟨ad553, e553, hx553_0⟩ := Kd.at_int (Kd.R_reads' HO_10.out).2.2 x15_3 p553 q553
                       obtain rfl : (⟨go25, 0, none⟩ : Addr) = ad553 := (by injection e553)
                       (first | simp only [add_plain] at hx553_0 | simp only [add_at] at hx553_0 | simp only [Addr.add, Nat.zero_add] at hx553_0 | skip)
                       replace p553 := eq_true p553; replace q553 := eq_true q553
                       have p554 : 0 ≤ (x14_2 : Int) := of_decide_eq_true nQ
                       have q554 : x14_2 < (l1.length : Int) := of_decide_eq_true nQ
                       obtain ⟨ad554, e554, hx554_0⟩ := Kd.at_int HR1.out x14_2 p554 q554
                       have hw554_0 := hx554_0; cases e554
                       replace hx554_0 := (HB.out.cell (World.block_lt_of_cell? w _ hx554_0)).trans hx554_0
                       replace p554 := eq_true p554; replace q554 := eq_true q554
                       have p555 : 0 ≤ (x15_3 : Int) := of_decide_eq_true nQ
                       have q555 : x15_3 < (l1.length : Int) := of_decide_eq_true nQ
                       obtain ⟨ad555, e555, hx555_0⟩ := Kd.at_int HR1.out x15_3 p555 q555
                       have hw555_0 := hx555_0
                       obtain rfl : ad554 = ad555 := (by injection e555)
                       replace hx555_0 := (HB.out.cell (World.block_lt_of_cell? w _ hx555_0)).trans hx555_0
                       replace p555 := eq_true p555; replace q555 := eq_true q555
                       refine start_ (n := 20) (S := fun w' => w'.cell? ⟨gb538, 0, none⟩ = some (.int .i64 a0_0) ∧ w'.cell? ⟨gb538, 1, none⟩ = some (.int .i64 a0_1) ∧ w'.cell? ⟨gb538, 2, none⟩ = some (.slice A0_2 l0_2.length c0_2) ∧ w'.cell? ⟨gb538, 3, none⟩ = some (.int .i64 a0_3) ∧ w'.cell? ⟨go25, (x15_3).toNat, none⟩ = some (.int .i64 (rd x10_3 x15_3)) ∧ w'.cell? (ad554.add (x14_2).toNat) = some (.int .i64 (rd l1 x14_2)) ∧ w'.cell? (ad554.add (x15_3).toNat) = some (.int .i64 (rd l1 x15_3))) (ds := []) #[F,F,F,F,F,F,F,F,F,F,F,F,F,F,F,F,F,F,F,F] (by kernel_rfl) rfl rfl ⟨(blk_cell BK538.out 0).trans rfl, (blk_cell BK538.out 1).trans rfl, (blk_cell BK538.out 2).trans rfl, (blk_cell BK538.out 3).trans rfl, hx553_0, (nC HB.out hw554_0 :), (nC HB.out hw555_0 :)⟩ (fun hHeld => ?_); refine with_tabW spec_Split.tab17 spec_Split.bits17 (fun HT_ HW_ => ?_)
                       generalize wr.drew = w72 at HO_10 HO_11 BK538 HB hx553_0 hx554_0 hx555_0 hHeld ⊢
                       refine qU 0 (some 59) rfl rfl HT_.out ?_
                       refine qU 1 (some 60) rfl rfl HT_.out ?_
                       refine qU 2 (some 61) rfl rfl HT_.out ?_
                       refine qU 6 (some 65) rfl rfl HT_.out ?_
                       refine qU 7 (some 66) rfl rfl HT_.out ?_
                       refine qU 8 (some 67) rfl rfl HT_.out ?_
                       refine qU 10 (some 69) rfl rfl HT_.out ?_
                       refine qU 11 (some 70) rfl rfl HT_.out ?_
                       refine qU 12 (some 71) rfl rfl HT_.out ?_
                       refine qU 15 (some 74) rfl rfl HT_.out ?_
                       refine qU 16 (some 75) rfl rfl HT_.out ?_
                       refine qT7 3 (some 62) rfl rfl HT_.out HW_.out hHeld ?_
                       refine qT7 4 (some 63) rfl rfl HT_.out HW_.out hHeld ?_
                       refine qT7 5 (some 64) rfl rfl HT_.out HW_.out hHeld ?_
                       refine qT7 9 (some 68) rfl rfl HT_.out HW_.out hHeld ?_
                       refine qT7 13 (some 72) rfl rfl HT_.out HW_.out hHeld ?_
                       refine one_ (i := 14) (N := some 73) #[T,T,T,T,T,T,T,T,T,T,T,T,T,T,T,T,T,F,F,F] rfl rfl (one_of HT_.out (by kernel_rfl)) (by decide) (fun K hK => ?_)
                       refine goes_ Try.func24 (by kernel_rfl) rfl #[.agg #[.int .i64 a0_0, .int .i64 a0_1, .slice A0_2 l0_2.length c0_2, .int .i64 a0_3], .int .i64 (rd l1 x14_2), .int .i64 (rd l1 x15_3)] (by rfl) rfl rfl nM ?_
                       with_reducible refine (spec_Fare.calls k3 a0_0 a0_1 _ _ l0_2 a0_3 (rd l1 x14_2) (rd l1 x15_3) t556 _ ?side1 ?side2 A35.out).mono ?_
                       (case side1 => exact nD HR0_2.out HB.out)
                       (case side2 => exact HC0_2.out)
                       rintro e w73 ⟨rfl, hb⟩
                       have HS4_ := (hb.cell (World.block_lt_of_cell? _ _ (hHeld.2.2.2.2.1))).trans (hHeld.2.2.2.2.1)
                       refine ⟨_, rfl, ?_⟩
                       have n0_ := Aside0.mk (Kd.R_below (nR HO_10.out) hb)
                       have n1_ := Aside0.mk (Kd.R_below (nR HO_11.out) hb)
                       have n2_ := Aside0.mk (blk_below (g := gb538) (o := .cells #[.int .i64 a0_0, .int .i64 a0_1, .slice A0_2 l0_2.length c0_2, .int .i64 a0_3] 34 (0, 0)) (nB BK538.out) hb)
                       have n3_ := Aside0.mk (below_step (nH1 HB.out GE538.out) hb)
                       clear HO_10; clear HO_11; clear BK538; clear HB; have HO_10 := n0_; have HO_11 := n1_; have BK538 := n2_; have HB := n3_; clear n0_ n1_ n2_ n3_; (try clear hb); (try clear hb2); (try clear hk); (try clear hi)
                       refine hK.out _ _ ⟨(blk_cell BK538.out 0).trans rfl, (blk_cell BK538.out 1).trans rfl, (blk_cell BK538.out 2).trans rfl, (blk_cell BK538.out 3).trans rfl, HS4_, (nC HB.out hw554_0 :), (nC HB.out hw555_0 :)⟩ (fun hHeld => ?_)
                       clear hK K
                       refine norm_ (a' := ?_) ?_ ?_
                       rotate_left
                       · show Act.put _ (some 73) _ = _
                         simp only [Act.put, List.setIfInBounds_toArray, List.set_cons_zero, List.set_cons_succ, i64_w, i32_w]
                         rfl
                       refine one_ (i := 17) (N := some 76) #[T,T,T,T,T,T,T,T,T,T,T,T,T,T,T,T,T,T,F,F] rfl rfl (one_of HT_.out (by kernel_rfl)) (by decide) (fun K hK => ?_)
                       refine goes_ Try.func30 (by kernel_rfl) rfl #[.agg #[.int .i64 a0_0, .int .i64 a0_1, .slice A0_2 l0_2.length c0_2, .int .i64 a0_3], .int .i64 t556, .slice A2 l2.length c2, .int .i64 a3] (by rfl) rfl rfl nM ?_
                       with_reducible refine (spec_Carded.calls k3 a0_0 a0_1 _ _ l0_2 a0_3 t556 _ _ l2 a3 t557 _ ?side1 ?side2 ?side3 ?side4 A36.out).mono ?_
                       (case side1 => exact nD HR0_2.out HB.out)
                       (case side2 => exact HC0_2.out)
                       (case side3 => exact nD HR2.out HB.out)
                       (case side4 => exact HC2.out)
                       rintro e w74 ⟨rfl, hb⟩
                       have HS4_ := (hb.cell (World.block_lt_of_cell? _ _ (hHeld.2.2.2.2.1))).trans (hHeld.2.2.2.2.1)
                       refine ⟨_, rfl, ?_⟩
                       have n0_ := Aside0.mk (Kd.R_below (nR HO_10.out) hb)
                       have n1_ := Aside0.mk (Kd.R_below (nR HO_11.out) hb)
                       have n2_ := Aside0.mk (blk_below (g := gb538) (o := .cells #[.int .i64 a0_0, .int .i64 a0_1, .slice A0_2 l0_2.length c0_2, .int .i64 a0_3] 34 (0, 0)) (nB BK538.out) hb)
                       have n3_ := Aside0.mk (below_step (nH1 HB.out GE538.out) hb)
                       clear HO_10; clear HO_11; clear BK538; clear HB; have HO_10 := n0_; have HO_11 := n1_; have BK538 := n2_; have HB := n3_; clear n0_ n1_ n2_ n3_; (try clear hb); (try clear hb2); (try clear hk); (try clear hi)
                       refine hK.out _ _ ⟨(blk_cell BK538.out 0).trans rfl, (blk_cell BK538.out 1).trans rfl, (blk_cell BK538.out 2).trans rfl, (blk_cell BK538.out 3).trans rfl, HS4_, (nC HB.out hw554_0 :), (nC HB.out hw555_0 :)⟩ (fun hHeld => ?_)
                       clear hK K
                       refine norm_ (a' := ?_) ?_ ?_
                       rotate_left
                       · show Act.put _ (some 76) _ = _
                         simp only [Act.put, List.setIfInBounds_toArray, List.set_cons_zero, List.set_cons_succ, i64_w, i32_w]
                         rfl
                       refine qU 18 (some 77) rfl rfl HT_.out ?_
                       refine qU 19 (some 16) rfl rfl HT_.out ?_
                       refine done_ (done_of HT_.out (by kernel_rfl)) ?_
                       try go_wp2
                       have n0_ := Aside0.mk (Kd.R_drew HO_10.out)
                       have n1_ := Aside0.mk (Kd.R_drew HO_11.out)
                       have n2_ := Aside0.mk (blk_drew BK538.out)
                       have n3_ := Aside0.mk (below_drew1 HB.out)
                       clear HO_10; clear HO_11; clear BK538; clear HB; have HO_10 := n0_; have HO_11 := n1_; have BK538 := n2_; have HB := n3_; clear n0_ n1_ n2_ n3_
                       have p558 : 0 ≤ (x14_2 : Int) := of_decide_eq_true nQ
                       have q558 : x14_2 < (x10_3.length : Int) := of_decide_eq_true nQ
                       obtain ⟨ad558, e558, hx558_0⟩ := Kd.at_int (Kd.R_reads' HO_10.out).2.2 x14_2 p558 q558
                       obtain rfl : (⟨go25, 0, none⟩ : Addr) = ad558 := (by injection e558)
                       (first | simp only [add_plain] at hx558_0 | simp only [add_at] at hx558_0 | simp only [Addr.add, Nat.zero_add] at hx558_0 | skip)
                       replace p558 := eq_true p558; replace q558 := eq_true q558
                       have p562 : 0 ≤ (x14_2 : Int) := of_decide_eq_true nQ
                       have q562 : x14_2 < (x10_3.length : Int) := of_decide_eq_true nQ
                       obtain ⟨ad562, e562, hx562_0⟩ := Kd.at_int (Kd.R_reads' HO_10.out).2.2 x14_2 p562 q562
                       obtain rfl : (⟨go25, 0, none⟩ : Addr) = ad562 := (by injection e562)
                       (first | simp only [add_plain] at hx562_0 | simp only [add_at] at hx562_0 | simp only [Addr.add, Nat.zero_add] at hx562_0 | skip)
                       replace p562 := eq_true p562; replace q562 := eq_true q562
                       have p566 : 0 ≤ (x14_2 : Int) := of_decide_eq_true nQ
                       have q566 : x14_2 < (x10_3.length : Int) := of_decide_eq_true nQ
                       obtain ⟨ad566, e566, hx566_0⟩ := Kd.at_int (Kd.R_reads' HO_10.out).2.2 x14_2 p566 q566
                       obtain rfl : (⟨go25, 0, none⟩ : Addr) = ad566 := (by injection e566)
                       (first | simp only [add_plain] at hx566_0 | simp only [add_at] at hx566_0 | simp only [Addr.add, Nat.zero_add] at hx566_0 | skip)
                       replace p566 := eq_true p566; replace q566 := eq_true q566
                       obtain ⟨Ao76, co76, eo76⟩ := Kd.R_slice HO_11.out
                       (first | subst eo76 | (injection eo76 with f1_ f2_ f3_; have f4_ := f1_.symm; have f5_ := f3_.symm; clear f1_ f2_ f3_; subst f4_; subst f5_))
                       have p567 : 0 ≤ (x15_3 : Int) := of_decide_eq_true nQ
                       have q567 : x15_3 < (x11_3.length : Int) := of_decide_eq_true nQ
                       obtain ⟨ad567, e567, hx567_0⟩ := Kd.at_int (Kd.R_reads' HO_11.out).2.2 x15_3 p567 q567
                       cases e567; replace p567 := eq_true p567; replace q567 := eq_true q567
                       have p568 : 0 ≤ (x14_2 : Int) := of_decide_eq_true nQ
                       have q568 : x14_2 < (x11_3.length : Int) := of_decide_eq_true nQ
                       obtain ⟨ad568, e568, hx568_0⟩ := Kd.at_int (Kd.R_reads' HO_11.out).2.2 x14_2 p568 q568
                       obtain rfl : ad567 = ad568 := (by injection e568)
                       replace p568 := eq_true p568; replace q568 := eq_true q568
                       refine start_ (n := 33) (S := fun w' => w'.cell? ⟨go25, (x14_2).toNat, none⟩ = some (.int .i64 (rd x10_3 x14_2)) ∧ w'.cell? ⟨go25, (x14_2).toNat, none⟩ = some (.int .i64 (rd x10_3 x14_2)) ∧ w'.cell? ⟨go25, (x14_2).toNat, none⟩ = some (.int .i64 (rd x10_3 x14_2)) ∧ w'.cell? (ad567.add (x15_3).toNat) = some (.int .i64 (rd x11_3 x15_3)) ∧ w'.cell? (ad567.add (x14_2).toNat) = some (.int .i64 (rd x11_3 x14_2))) (ds := []) #[F,F,F,F,F,F,F,F,F,F,F,F,F,F,F,F,F,F,F,F,F,F,F,F,F,F,F,F,F,F,F,F,F] (by kernel_rfl) rfl rfl ⟨hx558_0, hx562_0, hx566_0, hx567_0, hx568_0⟩ (fun hHeld => ?_); refine with_tabW spec_Split.tab18 spec_Split.bits18 (fun HT_ HW_ => ?_)
                       generalize w74.drew = w75 at HO_10 HO_11 BK538 HB hx558_0 hx562_0 hx566_0 hx567_0 hx568_0 hHeld ⊢
                       refine qU 0 (some 78) rfl rfl HT_.out ?_
                       refine qU 1 (some 79) rfl rfl HT_.out ?_
                       refine qU 2 (some 80) rfl rfl HT_.out ?_
                       refine qT5 3 (some 81) rfl rfl HT_.out HW_.out hHeld ?_
                       refine qU 4 (some 82) rfl rfl HT_.out ?_
                       refine qU 5 (some 83) rfl rfl HT_.out ?_
                       refine qU 6 (some 84) rfl rfl HT_.out ?_
                       refine qU 7 (some 85) rfl rfl HT_.out ?_
                       refine qU 8 (some 86) rfl rfl HT_.out ?_
                       refine qU 9 (some 87) rfl rfl HT_.out ?_
                       refine qT5 10 (some 88) rfl rfl HT_.out HW_.out hHeld ?_
                       refine qU 11 (some 89) rfl rfl HT_.out ?_
                       refine qU 12 (some 90) rfl rfl HT_.out ?_
                       refine qU 13 (some 91) rfl rfl HT_.out ?_
                       refine qU 14 (some 92) rfl rfl HT_.out ?_
                       refine qU 15 (some 93) rfl rfl HT_.out ?_
                       refine qU 16 (some 94) rfl rfl HT_.out ?_
                       refine qU 17 (some 95) rfl rfl HT_.out ?_
                       refine qT5 18 (some 96) rfl rfl HT_.out HW_.out hHeld ?_
                       refine qU 19 (some 97) rfl rfl HT_.out ?_
                       refine qU 20 (some 98) rfl rfl HT_.out ?_
                       refine qU 21 (some 99) rfl rfl HT_.out ?_
                       refine qU 22 (some 100) rfl rfl HT_.out ?_
                       refine qU 23 (some 101) rfl rfl HT_.out ?_
                       refine qU 26 (some 104) rfl rfl HT_.out ?_
                       refine qU 27 (some 105) rfl rfl HT_.out ?_
                       refine qU 28 (some 106) rfl rfl HT_.out ?_
                       refine qT5 24 (some 102) rfl rfl HT_.out HW_.out hHeld ?_
                       refine qU 25 (some 103) rfl rfl HT_.out ?_
                       refine qT5 29 (some 107) rfl rfl HT_.out HW_.out hHeld ?_
                       refine qU 30 (some 108) rfl rfl HT_.out ?_
                       refine qU 31 (some 109) rfl rfl HT_.out ?_
                       refine qU 32 (some 110) rfl rfl HT_.out ?_
                       refine done_ (done_of HT_.out (by kernel_rfl)) ?_
                       have p70 : 0 ≤ (x14_2 : Int) := of_decide_eq_true nQ
                       have q70 : (x14_2 : Int) < ((x10_3.length : Int) : Int) := of_decide_eq_true nQ
                       obtain ⟨hx70_0, hf70_0⟩ := Kd.R_celln 0 HO_10.out (x14_2 : Int) p70 q70
                       replace p70 := eq_true p70; replace q70 := eq_true q70
                       obtain ⟨hy77_, hz77_⟩ := Kd.R_celln 0 HO_10.out (x14_2 : Int) (of_decide_eq_true nQ) (of_decide_eq_true nQ)
                       have HP77 := Kd.R_putg HO_10.out (x14_2 : Int) (wrap64 ((rd x10_3 x15_3) + t557))
                       try go_wp2_with (first | ((with_reducible refine gate_store (t := 3) (p := 114) rfl ?_); refine store_event (t := 3) (p := 114) (v := ?vo_w78) (w1 := (w75.setCell ⟨go25, (x14_2 : Int).toNat, none⟩ (.int .i64 (wrap64 ((rd x10_3 x15_3) + t557))))) ?hg ?ho ?hn ?hr ?_; (case ho => rfl); (case hg => rfl); (case hn => rfl); (case hr => first | (go_simp; done) | (go_simp; rfl)); intro w78 hw; have hg : w75.grownBy w78 (some go25) := (by rw [hw]; exact HP77.2); have hp_ : Kd.R (Kd.int .i64) 3 w78 w.heap.size (fun k_ => some k_ ≠ (.slice (some ad567) x11_3.length co76 : Value).ownBlock) (.slice (some ⟨go25, 0, none⟩) x10_3.length co25) y569 := (by rw [hw, Ny569.out]; exact HP77.1); clear HP77; have n0_ := Aside0.mk (hp_); have n1_ := Aside0.mk (Kd.R_after (v := (.slice (some ⟨go25, 0, none⟩) x10_3.length co25)) (v1 := (.slice (some ⟨go25, 0, none⟩) x10_3.length co25)) (ok := (fun _ => True)) (by (with_reducible repeat (first | apply Kd.R_alloc | apply Kd.R_drewN | apply Kd.R_drew)); exact Kd.R_mono HO_11.out (fun _ hk => ⟨trivial, hk⟩)) hg (.inl rfl)); have n2_ := Aside0.mk (blk_grown (g := gb538) (o := .cells #[.int .i64 a0_0, .int .i64 a0_1, .slice A0_2 l0_2.length c0_2, .int .i64 a0_3] 34 (0, 0)) (nB BK538.out) hg (Kd.R_ne HO_10.out BK538.out (by decide))); have n3_ := Aside0.mk ((by rw [hw]; exact below_set (HB.out) GB25.out : Below w.heap.size w w78)); clear HO_10; clear HO_11; clear BK538; clear HB; have HO_10 := n0_; have HO_11 := n1_; have BK538 := n2_; have HB := n3_; clear n0_ n1_ n2_ n3_; clear hg hw hp_; have p570 : 0 ≤ (x15_3 : Int) := of_decide_eq_true nQ; have q570 : x15_3 < (x11_3.length : Int) := of_decide_eq_true nQ; obtain ⟨ad570, e570, hx570_0⟩ := Kd.at_int (Kd.R_reads' HO_11.out).2.2 x15_3 p570 q570; obtain rfl : ad567 = ad570 := (by injection e570); replace p570 := eq_true p570; replace q570 := eq_true q570; have p71 : 0 ≤ (x14_2 : Int) := of_decide_eq_true nQ; have q71 : (x14_2 : Int) < ((x11_3.length : Int) : Int) := of_decide_eq_true nQ; obtain ⟨go71, co71, eo71, gb71, gl71, cl71, HG71⟩ := Kd.R_form HO_11.out (by omega); (first | cases eo71 | (injection eo71 with ea_ en_ ec_; (first | subst ea_ | (injection ea_ with ea_; subst ea_)); subst ec_; clear en_)); have GB71 := Aside0.mk gb71; have GG71 := Aside0.mk HG71; clear gb71 gl71 HG71; (first | simp only [add_plain] at hx567_0 | skip); (first | simp only [add_plain] at hx568_0 | skip); (first | simp only [add_plain] at hx570_0 | skip); obtain ⟨hx71_0, hf71_0⟩ := Kd.R_celln 0 HO_11.out (x14_2 : Int) p71 q71; replace p71 := eq_true p71; replace q71 := eq_true q71; have n_ := Aside0.mk (Kd.R_mono (ok' := (fun k_ => some k_ ≠ (.slice (some ⟨go25, 0, none⟩) x10_3.length co25 : Value).ownBlock)) HO_11.out (fun k_ hk => hk.2)); clear HO_11; have HO_11 := n_; clear n_; obtain ⟨hy79_, hz79_⟩ := Kd.R_celln 0 HO_11.out (x14_2 : Int) (of_decide_eq_true nQ) (of_decide_eq_true nQ); have HP79 := Kd.R_putg HO_11.out (x14_2 : Int) (wrap64 ((rd x11_3 x15_3) + 1))) | ((with_reducible refine gate_store (t := 3) (p := 122) rfl ?_); refine store_event (t := 3) (p := 122) (v := ?vo_w80) (w1 := (w78.setCell ⟨go71, (x14_2 : Int).toNat, none⟩ (.int .i64 (wrap64 ((rd x11_3 x15_3) + 1))))) ?hg ?ho ?hn ?hr ?_; (case ho => rfl); (case hg => rfl); (case hn => rfl); (case hr => first | (go_simp; done) | (go_simp; rfl)); intro w80 hw; have hg : w78.grownBy w80 (some go71) := (by rw [hw]; exact HP79.2); have hp_ : Kd.R (Kd.int .i64) 3 w80 w.heap.size (fun k_ => some k_ ≠ (.slice (some ⟨go25, 0, none⟩) x10_3.length co25 : Value).ownBlock) (.slice (some ⟨go71, 0, none⟩) x11_3.length co76) y571 := (by rw [hw, Ny571.out]; exact HP79.1); clear HP79; have n0_ := Aside0.mk (Kd.R_after (v := (.slice (some ⟨go71, 0, none⟩) x11_3.length co76)) (v1 := (.slice (some ⟨go71, 0, none⟩) x11_3.length co76)) (ok := (fun _ => True)) (by (with_reducible repeat (first | apply Kd.R_alloc | apply Kd.R_drewN | apply Kd.R_drew)); exact Kd.R_mono HO_10.out (fun _ hk => ⟨trivial, hk⟩)) hg (.inl rfl)); have n1_ := Aside0.mk (hp_); have n2_ := Aside0.mk (blk_grown (g := gb538) (o := .cells #[.int .i64 a0_0, .int .i64 a0_1, .slice A0_2 l0_2.length c0_2, .int .i64 a0_3] 34 (0, 0)) (nB BK538.out) hg (Kd.R_ne HO_11.out BK538.out (by decide))); have n3_ := Aside0.mk ((by rw [hw]; exact below_set (HB.out) GB71.out : Below w.heap.size w w80)); clear HO_10; clear HO_11; clear BK538; clear HB; have HO_10 := n0_; have HO_11 := n1_; have BK538 := n2_; have HB := n3_; clear n0_ n1_ n2_ n3_; clear hg hw hp_))
                       (try simp only [← hl10_3])
                       go_roundg k3
                       case measure => have := HK1.out; have := HK2.out; have := HK3.out; omega
                       case rel => exact ⟨(y569), (y571), (wrap64 (x15_3 + 1)), nS, H', ⟨by have := HK1.out; have := HK2.out; have := HK3.out; omega⟩, ⟨by (try simp only [hl10_2]); (try simp only [hl10_3]); (with_reducible repeat (first | apply Kd.R_alloc | apply Kd.R_drewN | apply Kd.R_drew)); exact Kd.R_mono HO_10.out (fun _ hk => hk.2)⟩, ⟨by (try simp only [hl10_2]); (try simp only [hl10_3]); exact nR HO_11.out⟩, ⟨by (try simp only [hl10_2]); (try simp only [hl10_3]); exact nB BK538.out⟩, ⟨nH1 HB.out GE538.out⟩⟩
                     · rw [if_neg c69] at H
                       have c69b0 : decide ((wrap64 ((rd x11_3 x15_3) + 1)) < (rd x11_3 x14_2)) = false := decide_eq_false c69
                       clear c69
                       have H' := Aside0.mk H
                       clear H
                       try go_wp2
                       have n0_ := Aside0.mk (Kd.R_drew HO_10.out)
                       have n1_ := Aside0.mk (Kd.R_drew HO_11.out)
                       have n2_ := Aside0.mk (blk_drew BK538.out)
                       have n3_ := Aside0.mk (below_drew1 HB.out)
                       clear HO_10; clear HO_11; clear BK538; clear HB; have HO_10 := n0_; have HO_11 := n1_; have BK538 := n2_; have HB := n3_; clear n0_ n1_ n2_ n3_
                       have p553 : 0 ≤ (x15_3 : Int) := of_decide_eq_true nQ
                       have q553 : x15_3 < (x10_3.length : Int) := of_decide_eq_true nQ
                       obtain ⟨ad553, e553, hx553_0⟩ := Kd.at_int (Kd.R_reads' HO_10.out).2.2 x15_3 p553 q553
                       obtain rfl : (⟨go25, 0, none⟩ : Addr) = ad553 := (by injection e553)
                       (first | simp only [add_plain] at hx553_0 | simp only [add_at] at hx553_0 | simp only [Addr.add, Nat.zero_add] at hx553_0 | skip)
                       replace p553 := eq_true p553; replace q553 := eq_true q553
                       have p554 : 0 ≤ (x14_2 : Int) := of_decide_eq_true nQ
                       have q554 : x14_2 < (l1.length : Int) := of_decide_eq_true nQ
                       obtain ⟨ad554, e554, hx554_0⟩ := Kd.at_int HR1.out x14_2 p554 q554
                       have hw554_0 := hx554_0; cases e554
                       replace hx554_0 := (HB.out.cell (World.block_lt_of_cell? w _ hx554_0)).trans hx554_0
                       replace p554 := eq_true p554; replace q554 := eq_true q554
                       have p555 : 0 ≤ (x15_3 : Int) := of_decide_eq_true nQ
                       have q555 : x15_3 < (l1.length : Int) := of_decide_eq_true nQ
                       obtain ⟨ad555, e555, hx555_0⟩ := Kd.at_int HR1.out x15_3 p555 q555
                       have hw555_0 := hx555_0
                       obtain rfl : ad554 = ad555 := (by injection e555)
                       replace hx555_0 := (HB.out.cell (World.block_lt_of_cell? w _ hx555_0)).trans hx555_0
                       replace p555 := eq_true p555; replace q555 := eq_true q555
                       refine start_ (n := 20) (S := fun w' => w'.cell? ⟨gb538, 0, none⟩ = some (.int .i64 a0_0) ∧ w'.cell? ⟨gb538, 1, none⟩ = some (.int .i64 a0_1) ∧ w'.cell? ⟨gb538, 2, none⟩ = some (.slice A0_2 l0_2.length c0_2) ∧ w'.cell? ⟨gb538, 3, none⟩ = some (.int .i64 a0_3) ∧ w'.cell? ⟨go25, (x15_3).toNat, none⟩ = some (.int .i64 (rd x10_3 x15_3)) ∧ w'.cell? (ad554.add (x14_2).toNat) = some (.int .i64 (rd l1 x14_2)) ∧ w'.cell? (ad554.add (x15_3).toNat) = some (.int .i64 (rd l1 x15_3))) (ds := []) #[F,F,F,F,F,F,F,F,F,F,F,F,F,F,F,F,F,F,F,F] (by kernel_rfl) rfl rfl ⟨(blk_cell BK538.out 0).trans rfl, (blk_cell BK538.out 1).trans rfl, (blk_cell BK538.out 2).trans rfl, (blk_cell BK538.out 3).trans rfl, hx553_0, (nC HB.out hw554_0 :), (nC HB.out hw555_0 :)⟩ (fun hHeld => ?_); refine with_tabW spec_Split.tab17 spec_Split.bits17 (fun HT_ HW_ => ?_)
                       generalize wr.drew = w81 at HO_10 HO_11 BK538 HB hx553_0 hx554_0 hx555_0 hHeld ⊢
                       refine qU 0 (some 59) rfl rfl HT_.out ?_
                       refine qU 1 (some 60) rfl rfl HT_.out ?_
                       refine qU 2 (some 61) rfl rfl HT_.out ?_
                       refine qU 6 (some 65) rfl rfl HT_.out ?_
                       refine qU 7 (some 66) rfl rfl HT_.out ?_
                       refine qU 8 (some 67) rfl rfl HT_.out ?_
                       refine qU 10 (some 69) rfl rfl HT_.out ?_
                       refine qU 11 (some 70) rfl rfl HT_.out ?_
                       refine qU 12 (some 71) rfl rfl HT_.out ?_
                       refine qU 15 (some 74) rfl rfl HT_.out ?_
                       refine qU 16 (some 75) rfl rfl HT_.out ?_
                       refine qT7 3 (some 62) rfl rfl HT_.out HW_.out hHeld ?_
                       refine qT7 4 (some 63) rfl rfl HT_.out HW_.out hHeld ?_
                       refine qT7 5 (some 64) rfl rfl HT_.out HW_.out hHeld ?_
                       refine qT7 9 (some 68) rfl rfl HT_.out HW_.out hHeld ?_
                       refine qT7 13 (some 72) rfl rfl HT_.out HW_.out hHeld ?_
                       refine one_ (i := 14) (N := some 73) #[T,T,T,T,T,T,T,T,T,T,T,T,T,T,T,T,T,F,F,F] rfl rfl (one_of HT_.out (by kernel_rfl)) (by decide) (fun K hK => ?_)
                       refine goes_ Try.func24 (by kernel_rfl) rfl #[.agg #[.int .i64 a0_0, .int .i64 a0_1, .slice A0_2 l0_2.length c0_2, .int .i64 a0_3], .int .i64 (rd l1 x14_2), .int .i64 (rd l1 x15_3)] (by rfl) rfl rfl nM ?_
                       with_reducible refine (spec_Fare.calls k3 a0_0 a0_1 _ _ l0_2 a0_3 (rd l1 x14_2) (rd l1 x15_3) t556 _ ?side1 ?side2 A35.out).mono ?_
                       (case side1 => exact nD HR0_2.out HB.out)
                       (case side2 => exact HC0_2.out)
                       rintro e w82 ⟨rfl, hb⟩
                       have HS4_ := (hb.cell (World.block_lt_of_cell? _ _ (hHeld.2.2.2.2.1))).trans (hHeld.2.2.2.2.1)
                       refine ⟨_, rfl, ?_⟩
                       have n0_ := Aside0.mk (Kd.R_below (nR HO_10.out) hb)
                       have n1_ := Aside0.mk (Kd.R_below (nR HO_11.out) hb)
                       have n2_ := Aside0.mk (blk_below (g := gb538) (o := .cells #[.int .i64 a0_0, .int .i64 a0_1, .slice A0_2 l0_2.length c0_2, .int .i64 a0_3] 34 (0, 0)) (nB BK538.out) hb)
                       have n3_ := Aside0.mk (below_step (nH1 HB.out GE538.out) hb)
                       clear HO_10; clear HO_11; clear BK538; clear HB; have HO_10 := n0_; have HO_11 := n1_; have BK538 := n2_; have HB := n3_; clear n0_ n1_ n2_ n3_; (try clear hb); (try clear hb2); (try clear hk); (try clear hi)
                       refine hK.out _ _ ⟨(blk_cell BK538.out 0).trans rfl, (blk_cell BK538.out 1).trans rfl, (blk_cell BK538.out 2).trans rfl, (blk_cell BK538.out 3).trans rfl, HS4_, (nC HB.out hw554_0 :), (nC HB.out hw555_0 :)⟩ (fun hHeld => ?_)
                       clear hK K
                       refine norm_ (a' := ?_) ?_ ?_
                       rotate_left
                       · show Act.put _ (some 73) _ = _
                         simp only [Act.put, List.setIfInBounds_toArray, List.set_cons_zero, List.set_cons_succ, i64_w, i32_w]
                         rfl
                       refine one_ (i := 17) (N := some 76) #[T,T,T,T,T,T,T,T,T,T,T,T,T,T,T,T,T,T,F,F] rfl rfl (one_of HT_.out (by kernel_rfl)) (by decide) (fun K hK => ?_)
                       refine goes_ Try.func30 (by kernel_rfl) rfl #[.agg #[.int .i64 a0_0, .int .i64 a0_1, .slice A0_2 l0_2.length c0_2, .int .i64 a0_3], .int .i64 t556, .slice A2 l2.length c2, .int .i64 a3] (by rfl) rfl rfl nM ?_
                       with_reducible refine (spec_Carded.calls k3 a0_0 a0_1 _ _ l0_2 a0_3 t556 _ _ l2 a3 t557 _ ?side1 ?side2 ?side3 ?side4 A36.out).mono ?_
                       (case side1 => exact nD HR0_2.out HB.out)
                       (case side2 => exact HC0_2.out)
                       (case side3 => exact nD HR2.out HB.out)
                       (case side4 => exact HC2.out)
                       rintro e w83 ⟨rfl, hb⟩
                       have HS4_ := (hb.cell (World.block_lt_of_cell? _ _ (hHeld.2.2.2.2.1))).trans (hHeld.2.2.2.2.1)
                       refine ⟨_, rfl, ?_⟩
                       have n0_ := Aside0.mk (Kd.R_below (nR HO_10.out) hb)
                       have n1_ := Aside0.mk (Kd.R_below (nR HO_11.out) hb)
                       have n2_ := Aside0.mk (blk_below (g := gb538) (o := .cells #[.int .i64 a0_0, .int .i64 a0_1, .slice A0_2 l0_2.length c0_2, .int .i64 a0_3] 34 (0, 0)) (nB BK538.out) hb)
                       have n3_ := Aside0.mk (below_step (nH1 HB.out GE538.out) hb)
                       clear HO_10; clear HO_11; clear BK538; clear HB; have HO_10 := n0_; have HO_11 := n1_; have BK538 := n2_; have HB := n3_; clear n0_ n1_ n2_ n3_; (try clear hb); (try clear hb2); (try clear hk); (try clear hi)
                       refine hK.out _ _ ⟨(blk_cell BK538.out 0).trans rfl, (blk_cell BK538.out 1).trans rfl, (blk_cell BK538.out 2).trans rfl, (blk_cell BK538.out 3).trans rfl, HS4_, (nC HB.out hw554_0 :), (nC HB.out hw555_0 :)⟩ (fun hHeld => ?_)
                       clear hK K
                       refine norm_ (a' := ?_) ?_ ?_
                       rotate_left
                       · show Act.put _ (some 76) _ = _
                         simp only [Act.put, List.setIfInBounds_toArray, List.set_cons_zero, List.set_cons_succ, i64_w, i32_w]
                         rfl
                       refine qU 18 (some 77) rfl rfl HT_.out ?_
                       refine qU 19 (some 16) rfl rfl HT_.out ?_
                       refine done_ (done_of HT_.out (by kernel_rfl)) ?_
                       try go_wp2
                       have n0_ := Aside0.mk (Kd.R_drew HO_10.out)
                       have n1_ := Aside0.mk (Kd.R_drew HO_11.out)
                       have n2_ := Aside0.mk (blk_drew BK538.out)
                       have n3_ := Aside0.mk (below_drew1 HB.out)
                       clear HO_10; clear HO_11; clear BK538; clear HB; have HO_10 := n0_; have HO_11 := n1_; have BK538 := n2_; have HB := n3_; clear n0_ n1_ n2_ n3_
                       have p558 : 0 ≤ (x14_2 : Int) := of_decide_eq_true nQ
                       have q558 : x14_2 < (x10_3.length : Int) := of_decide_eq_true nQ
                       obtain ⟨ad558, e558, hx558_0⟩ := Kd.at_int (Kd.R_reads' HO_10.out).2.2 x14_2 p558 q558
                       obtain rfl : (⟨go25, 0, none⟩ : Addr) = ad558 := (by injection e558)
                       (first | simp only [add_plain] at hx558_0 | simp only [add_at] at hx558_0 | simp only [Addr.add, Nat.zero_add] at hx558_0 | skip)
                       replace p558 := eq_true p558; replace q558 := eq_true q558
                       have p562 : 0 ≤ (x14_2 : Int) := of_decide_eq_true nQ
                       have q562 : x14_2 < (x10_3.length : Int) := of_decide_eq_true nQ
                       obtain ⟨ad562, e562, hx562_0⟩ := Kd.at_int (Kd.R_reads' HO_10.out).2.2 x14_2 p562 q562
                       obtain rfl : (⟨go25, 0, none⟩ : Addr) = ad562 := (by injection e562)
                       (first | simp only [add_plain] at hx562_0 | simp only [add_at] at hx562_0 | simp only [Addr.add, Nat.zero_add] at hx562_0 | skip)
                       replace p562 := eq_true p562; replace q562 := eq_true q562
                       have p566 : 0 ≤ (x14_2 : Int) := of_decide_eq_true nQ
                       have q566 : x14_2 < (x10_3.length : Int) := of_decide_eq_true nQ
                       obtain ⟨ad566, e566, hx566_0⟩ := Kd.at_int (Kd.R_reads' HO_10.out).2.2 x14_2 p566 q566
                       obtain rfl : (⟨go25, 0, none⟩ : Addr) = ad566 := (by injection e566)
                       (first | simp only [add_plain] at hx566_0 | simp only [add_at] at hx566_0 | simp only [Addr.add, Nat.zero_add] at hx566_0 | skip)
                       replace p566 := eq_true p566; replace q566 := eq_true q566
                       obtain ⟨Ao85, co85, eo85⟩ := Kd.R_slice HO_11.out
                       (first | subst eo85 | (injection eo85 with f1_ f2_ f3_; have f4_ := f1_.symm; have f5_ := f3_.symm; clear f1_ f2_ f3_; subst f4_; subst f5_))
                       have p567 : 0 ≤ (x15_3 : Int) := of_decide_eq_true nQ
                       have q567 : x15_3 < (x11_3.length : Int) := of_decide_eq_true nQ
                       obtain ⟨ad567, e567, hx567_0⟩ := Kd.at_int (Kd.R_reads' HO_11.out).2.2 x15_3 p567 q567
                       cases e567; replace p567 := eq_true p567; replace q567 := eq_true q567
                       have p568 : 0 ≤ (x14_2 : Int) := of_decide_eq_true nQ
                       have q568 : x14_2 < (x11_3.length : Int) := of_decide_eq_true nQ
                       obtain ⟨ad568, e568, hx568_0⟩ := Kd.at_int (Kd.R_reads' HO_11.out).2.2 x14_2 p568 q568
                       obtain rfl : ad567 = ad568 := (by injection e568)
                       replace p568 := eq_true p568; replace q568 := eq_true q568
                       refine start_ (n := 33) (S := fun w' => w'.cell? ⟨go25, (x14_2).toNat, none⟩ = some (.int .i64 (rd x10_3 x14_2)) ∧ w'.cell? ⟨go25, (x14_2).toNat, none⟩ = some (.int .i64 (rd x10_3 x14_2)) ∧ w'.cell? ⟨go25, (x14_2).toNat, none⟩ = some (.int .i64 (rd x10_3 x14_2)) ∧ w'.cell? (ad567.add (x15_3).toNat) = some (.int .i64 (rd x11_3 x15_3)) ∧ w'.cell? (ad567.add (x14_2).toNat) = some (.int .i64 (rd x11_3 x14_2))) (ds := []) #[F,F,F,F,F,F,F,F,F,F,F,F,F,F,F,F,F,F,F,F,F,F,F,F,F,F,F,F,F,F,F,F,F] (by kernel_rfl) rfl rfl ⟨hx558_0, hx562_0, hx566_0, hx567_0, hx568_0⟩ (fun hHeld => ?_); refine with_tabW spec_Split.tab18 spec_Split.bits18 (fun HT_ HW_ => ?_)
                       generalize w83.drew = w84 at HO_10 HO_11 BK538 HB hx558_0 hx562_0 hx566_0 hx567_0 hx568_0 hHeld ⊢
                       refine qU 0 (some 78) rfl rfl HT_.out ?_
                       refine qU 1 (some 79) rfl rfl HT_.out ?_
                       refine qU 2 (some 80) rfl rfl HT_.out ?_
                       refine qT5 3 (some 81) rfl rfl HT_.out HW_.out hHeld ?_
                       refine qU 4 (some 82) rfl rfl HT_.out ?_
                       refine qU 5 (some 83) rfl rfl HT_.out ?_
                       refine qU 6 (some 84) rfl rfl HT_.out ?_
                       refine qU 7 (some 85) rfl rfl HT_.out ?_
                       refine qU 8 (some 86) rfl rfl HT_.out ?_
                       refine qU 9 (some 87) rfl rfl HT_.out ?_
                       refine qT5 10 (some 88) rfl rfl HT_.out HW_.out hHeld ?_
                       refine qU 11 (some 89) rfl rfl HT_.out ?_
                       refine qU 12 (some 90) rfl rfl HT_.out ?_
                       refine qU 13 (some 91) rfl rfl HT_.out ?_
                       refine qU 14 (some 92) rfl rfl HT_.out ?_
                       refine qU 15 (some 93) rfl rfl HT_.out ?_
                       refine qU 16 (some 94) rfl rfl HT_.out ?_
                       refine qU 17 (some 95) rfl rfl HT_.out ?_
                       refine qT5 18 (some 96) rfl rfl HT_.out HW_.out hHeld ?_
                       refine qU 19 (some 97) rfl rfl HT_.out ?_
                       refine qU 20 (some 98) rfl rfl HT_.out ?_
                       refine qU 21 (some 99) rfl rfl HT_.out ?_
                       refine qU 22 (some 100) rfl rfl HT_.out ?_
                       refine qU 23 (some 101) rfl rfl HT_.out ?_
                       refine qU 26 (some 104) rfl rfl HT_.out ?_
                       refine qU 27 (some 105) rfl rfl HT_.out ?_
                       refine qU 28 (some 106) rfl rfl HT_.out ?_
                       refine qT5 24 (some 102) rfl rfl HT_.out HW_.out hHeld ?_
                       refine qU 25 (some 103) rfl rfl HT_.out ?_
                       refine qT5 29 (some 107) rfl rfl HT_.out HW_.out hHeld ?_
                       refine qU 30 (some 108) rfl rfl HT_.out ?_
                       refine qU 31 (some 109) rfl rfl HT_.out ?_
                       refine qU 32 (some 110) rfl rfl HT_.out ?_
                       refine done_ (done_of HT_.out (by kernel_rfl)) ?_
                       try go_wp2
                       (try simp only [← hl10_3])
                       go_roundg k3
                       case measure => have := HK1.out; have := HK2.out; have := HK3.out; omega
                       case rel => exact ⟨(x10_3), (x11_3), (wrap64 (x15_3 + 1)), nS, H', ⟨by have := HK1.out; have := HK2.out; have := HK3.out; omega⟩, ⟨by (try simp only [hl10_2]); (try simp only [hl10_3]); exact nR HO_10.out⟩, ⟨by (try simp only [hl10_2]); (try simp only [hl10_3]); exact nR HO_11.out⟩, ⟨by (try simp only [hl10_2]); (try simp only [hl10_3]); exact nB BK538.out⟩, ⟨nH1 HB.out GE538.out⟩⟩
                   · rw [if_neg c66] at H
                     have c66b0 : ((wrap64 ((rd x10_3 x15_3) + t557)) == (rd x10_3 x14_2)) = false := beq_eq_false_iff_ne.mpr c66
                     have c66b1 : ((wrap64 ((rd x10_3 x15_3) + t557)) != (rd x10_3 x14_2)) = true := bne_iff_ne.mpr c66
                     have H' := Aside0.mk H
                     clear H
                     try go_wp2
                     have n0_ := Aside0.mk (Kd.R_drew HO_10.out)
                     have n1_ := Aside0.mk (Kd.R_drew HO_11.out)
                     have n2_ := Aside0.mk (blk_drew BK538.out)
                     have n3_ := Aside0.mk (below_drew1 HB.out)
                     clear HO_10; clear HO_11; clear BK538; clear HB; have HO_10 := n0_; have HO_11 := n1_; have BK538 := n2_; have HB := n3_; clear n0_ n1_ n2_ n3_
                     have p553 : 0 ≤ (x15_3 : Int) := of_decide_eq_true nQ
                     have q553 : x15_3 < (x10_3.length : Int) := of_decide_eq_true nQ
                     obtain ⟨ad553, e553, hx553_0⟩ := Kd.at_int (Kd.R_reads' HO_10.out).2.2 x15_3 p553 q553
                     obtain rfl : (⟨go25, 0, none⟩ : Addr) = ad553 := (by injection e553)
                     (first | simp only [add_plain] at hx553_0 | simp only [add_at] at hx553_0 | simp only [Addr.add, Nat.zero_add] at hx553_0 | skip)
                     replace p553 := eq_true p553; replace q553 := eq_true q553
                     have p554 : 0 ≤ (x14_2 : Int) := of_decide_eq_true nQ
                     have q554 : x14_2 < (l1.length : Int) := of_decide_eq_true nQ
                     obtain ⟨ad554, e554, hx554_0⟩ := Kd.at_int HR1.out x14_2 p554 q554
                     have hw554_0 := hx554_0; cases e554
                     replace hx554_0 := (HB.out.cell (World.block_lt_of_cell? w _ hx554_0)).trans hx554_0
                     replace p554 := eq_true p554; replace q554 := eq_true q554
                     have p555 : 0 ≤ (x15_3 : Int) := of_decide_eq_true nQ
                     have q555 : x15_3 < (l1.length : Int) := of_decide_eq_true nQ
                     obtain ⟨ad555, e555, hx555_0⟩ := Kd.at_int HR1.out x15_3 p555 q555
                     have hw555_0 := hx555_0
                     obtain rfl : ad554 = ad555 := (by injection e555)
                     replace hx555_0 := (HB.out.cell (World.block_lt_of_cell? w _ hx555_0)).trans hx555_0
                     replace p555 := eq_true p555; replace q555 := eq_true q555
                     refine start_ (n := 20) (S := fun w' => w'.cell? ⟨gb538, 0, none⟩ = some (.int .i64 a0_0) ∧ w'.cell? ⟨gb538, 1, none⟩ = some (.int .i64 a0_1) ∧ w'.cell? ⟨gb538, 2, none⟩ = some (.slice A0_2 l0_2.length c0_2) ∧ w'.cell? ⟨gb538, 3, none⟩ = some (.int .i64 a0_3) ∧ w'.cell? ⟨go25, (x15_3).toNat, none⟩ = some (.int .i64 (rd x10_3 x15_3)) ∧ w'.cell? (ad554.add (x14_2).toNat) = some (.int .i64 (rd l1 x14_2)) ∧ w'.cell? (ad554.add (x15_3).toNat) = some (.int .i64 (rd l1 x15_3))) (ds := []) #[F,F,F,F,F,F,F,F,F,F,F,F,F,F,F,F,F,F,F,F] (by kernel_rfl) rfl rfl ⟨(blk_cell BK538.out 0).trans rfl, (blk_cell BK538.out 1).trans rfl, (blk_cell BK538.out 2).trans rfl, (blk_cell BK538.out 3).trans rfl, hx553_0, (nC HB.out hw554_0 :), (nC HB.out hw555_0 :)⟩ (fun hHeld => ?_); refine with_tabW spec_Split.tab17 spec_Split.bits17 (fun HT_ HW_ => ?_)
                     generalize wr.drew = w86 at HO_10 HO_11 BK538 HB hx553_0 hx554_0 hx555_0 hHeld ⊢
                     refine qU 0 (some 59) rfl rfl HT_.out ?_
                     refine qU 1 (some 60) rfl rfl HT_.out ?_
                     refine qU 2 (some 61) rfl rfl HT_.out ?_
                     refine qU 6 (some 65) rfl rfl HT_.out ?_
                     refine qU 7 (some 66) rfl rfl HT_.out ?_
                     refine qU 8 (some 67) rfl rfl HT_.out ?_
                     refine qU 10 (some 69) rfl rfl HT_.out ?_
                     refine qU 11 (some 70) rfl rfl HT_.out ?_
                     refine qU 12 (some 71) rfl rfl HT_.out ?_
                     refine qU 15 (some 74) rfl rfl HT_.out ?_
                     refine qU 16 (some 75) rfl rfl HT_.out ?_
                     refine qT7 3 (some 62) rfl rfl HT_.out HW_.out hHeld ?_
                     refine qT7 4 (some 63) rfl rfl HT_.out HW_.out hHeld ?_
                     refine qT7 5 (some 64) rfl rfl HT_.out HW_.out hHeld ?_
                     refine qT7 9 (some 68) rfl rfl HT_.out HW_.out hHeld ?_
                     refine qT7 13 (some 72) rfl rfl HT_.out HW_.out hHeld ?_
                     refine one_ (i := 14) (N := some 73) #[T,T,T,T,T,T,T,T,T,T,T,T,T,T,T,T,T,F,F,F] rfl rfl (one_of HT_.out (by kernel_rfl)) (by decide) (fun K hK => ?_)
                     refine goes_ Try.func24 (by kernel_rfl) rfl #[.agg #[.int .i64 a0_0, .int .i64 a0_1, .slice A0_2 l0_2.length c0_2, .int .i64 a0_3], .int .i64 (rd l1 x14_2), .int .i64 (rd l1 x15_3)] (by rfl) rfl rfl nM ?_
                     with_reducible refine (spec_Fare.calls k3 a0_0 a0_1 _ _ l0_2 a0_3 (rd l1 x14_2) (rd l1 x15_3) t556 _ ?side1 ?side2 A35.out).mono ?_
                     (case side1 => exact nD HR0_2.out HB.out)
                     (case side2 => exact HC0_2.out)
                     rintro e w87 ⟨rfl, hb⟩
                     have HS4_ := (hb.cell (World.block_lt_of_cell? _ _ (hHeld.2.2.2.2.1))).trans (hHeld.2.2.2.2.1)
                     refine ⟨_, rfl, ?_⟩
                     have n0_ := Aside0.mk (Kd.R_below (nR HO_10.out) hb)
                     have n1_ := Aside0.mk (Kd.R_below (nR HO_11.out) hb)
                     have n2_ := Aside0.mk (blk_below (g := gb538) (o := .cells #[.int .i64 a0_0, .int .i64 a0_1, .slice A0_2 l0_2.length c0_2, .int .i64 a0_3] 34 (0, 0)) (nB BK538.out) hb)
                     have n3_ := Aside0.mk (below_step (nH1 HB.out GE538.out) hb)
                     clear HO_10; clear HO_11; clear BK538; clear HB; have HO_10 := n0_; have HO_11 := n1_; have BK538 := n2_; have HB := n3_; clear n0_ n1_ n2_ n3_; (try clear hb); (try clear hb2); (try clear hk); (try clear hi)
                     refine hK.out _ _ ⟨(blk_cell BK538.out 0).trans rfl, (blk_cell BK538.out 1).trans rfl, (blk_cell BK538.out 2).trans rfl, (blk_cell BK538.out 3).trans rfl, HS4_, (nC HB.out hw554_0 :), (nC HB.out hw555_0 :)⟩ (fun hHeld => ?_)
                     clear hK K
                     refine norm_ (a' := ?_) ?_ ?_
                     rotate_left
                     · show Act.put _ (some 73) _ = _
                       simp only [Act.put, List.setIfInBounds_toArray, List.set_cons_zero, List.set_cons_succ, i64_w, i32_w]
                       rfl
                     refine one_ (i := 17) (N := some 76) #[T,T,T,T,T,T,T,T,T,T,T,T,T,T,T,T,T,T,F,F] rfl rfl (one_of HT_.out (by kernel_rfl)) (by decide) (fun K hK => ?_)
                     refine goes_ Try.func30 (by kernel_rfl) rfl #[.agg #[.int .i64 a0_0, .int .i64 a0_1, .slice A0_2 l0_2.length c0_2, .int .i64 a0_3], .int .i64 t556, .slice A2 l2.length c2, .int .i64 a3] (by rfl) rfl rfl nM ?_
                     with_reducible refine (spec_Carded.calls k3 a0_0 a0_1 _ _ l0_2 a0_3 t556 _ _ l2 a3 t557 _ ?side1 ?side2 ?side3 ?side4 A36.out).mono ?_
                     (case side1 => exact nD HR0_2.out HB.out)
                     (case side2 => exact HC0_2.out)
                     (case side3 => exact nD HR2.out HB.out)
                     (case side4 => exact HC2.out)
                     rintro e w88 ⟨rfl, hb⟩
                     have HS4_ := (hb.cell (World.block_lt_of_cell? _ _ (hHeld.2.2.2.2.1))).trans (hHeld.2.2.2.2.1)
                     refine ⟨_, rfl, ?_⟩
                     have n0_ := Aside0.mk (Kd.R_below (nR HO_10.out) hb)
                     have n1_ := Aside0.mk (Kd.R_below (nR HO_11.out) hb)
                     have n2_ := Aside0.mk (blk_below (g := gb538) (o := .cells #[.int .i64 a0_0, .int .i64 a0_1, .slice A0_2 l0_2.length c0_2, .int .i64 a0_3] 34 (0, 0)) (nB BK538.out) hb)
                     have n3_ := Aside0.mk (below_step (nH1 HB.out GE538.out) hb)
                     clear HO_10; clear HO_11; clear BK538; clear HB; have HO_10 := n0_; have HO_11 := n1_; have BK538 := n2_; have HB := n3_; clear n0_ n1_ n2_ n3_; (try clear hb); (try clear hb2); (try clear hk); (try clear hi)
                     refine hK.out _ _ ⟨(blk_cell BK538.out 0).trans rfl, (blk_cell BK538.out 1).trans rfl, (blk_cell BK538.out 2).trans rfl, (blk_cell BK538.out 3).trans rfl, HS4_, (nC HB.out hw554_0 :), (nC HB.out hw555_0 :)⟩ (fun hHeld => ?_)
                     clear hK K
                     refine norm_ (a' := ?_) ?_ ?_
                     rotate_left
                     · show Act.put _ (some 76) _ = _
                       simp only [Act.put, List.setIfInBounds_toArray, List.set_cons_zero, List.set_cons_succ, i64_w, i32_w]
                       rfl
                     refine qU 18 (some 77) rfl rfl HT_.out ?_
                     refine qU 19 (some 16) rfl rfl HT_.out ?_
                     refine done_ (done_of HT_.out (by kernel_rfl)) ?_
                     try go_wp2
                     have n0_ := Aside0.mk (Kd.R_drew HO_10.out)
                     have n1_ := Aside0.mk (Kd.R_drew HO_11.out)
                     have n2_ := Aside0.mk (blk_drew BK538.out)
                     have n3_ := Aside0.mk (below_drew1 HB.out)
                     clear HO_10; clear HO_11; clear BK538; clear HB; have HO_10 := n0_; have HO_11 := n1_; have BK538 := n2_; have HB := n3_; clear n0_ n1_ n2_ n3_
                     have p558 : 0 ≤ (x14_2 : Int) := of_decide_eq_true nQ
                     have q558 : x14_2 < (x10_3.length : Int) := of_decide_eq_true nQ
                     obtain ⟨ad558, e558, hx558_0⟩ := Kd.at_int (Kd.R_reads' HO_10.out).2.2 x14_2 p558 q558
                     obtain rfl : (⟨go25, 0, none⟩ : Addr) = ad558 := (by injection e558)
                     (first | simp only [add_plain] at hx558_0 | simp only [add_at] at hx558_0 | simp only [Addr.add, Nat.zero_add] at hx558_0 | skip)
                     replace p558 := eq_true p558; replace q558 := eq_true q558
                     have p562 : 0 ≤ (x14_2 : Int) := of_decide_eq_true nQ
                     have q562 : x14_2 < (x10_3.length : Int) := of_decide_eq_true nQ
                     obtain ⟨ad562, e562, hx562_0⟩ := Kd.at_int (Kd.R_reads' HO_10.out).2.2 x14_2 p562 q562
                     obtain rfl : (⟨go25, 0, none⟩ : Addr) = ad562 := (by injection e562)
                     (first | simp only [add_plain] at hx562_0 | simp only [add_at] at hx562_0 | simp only [Addr.add, Nat.zero_add] at hx562_0 | skip)
                     replace p562 := eq_true p562; replace q562 := eq_true q562
                     have p566 : 0 ≤ (x14_2 : Int) := of_decide_eq_true nQ
                     have q566 : x14_2 < (x10_3.length : Int) := of_decide_eq_true nQ
                     obtain ⟨ad566, e566, hx566_0⟩ := Kd.at_int (Kd.R_reads' HO_10.out).2.2 x14_2 p566 q566
                     obtain rfl : (⟨go25, 0, none⟩ : Addr) = ad566 := (by injection e566)
                     (first | simp only [add_plain] at hx566_0 | simp only [add_at] at hx566_0 | simp only [Addr.add, Nat.zero_add] at hx566_0 | skip)
                     replace p566 := eq_true p566; replace q566 := eq_true q566
                     refine start_ (n := 33) (S := fun w' => w'.cell? ⟨go25, (x14_2).toNat, none⟩ = some (.int .i64 (rd x10_3 x14_2)) ∧ w'.cell? ⟨go25, (x14_2).toNat, none⟩ = some (.int .i64 (rd x10_3 x14_2)) ∧ w'.cell? ⟨go25, (x14_2).toNat, none⟩ = some (.int .i64 (rd x10_3 x14_2))) (ds := []) #[F,F,F,F,F,F,F,F,F,F,F,F,F,F,F,F,F,F,F,F,F,F,F,F,F,F,F,F,F,F,F,F,F] (by kernel_rfl) rfl rfl ⟨hx558_0, hx562_0, hx566_0⟩ (fun hHeld => ?_); refine with_tabW spec_Split.tab18 spec_Split.bits18 (fun HT_ HW_ => ?_)
                     generalize w88.drew = w89 at HO_10 HO_11 BK538 HB hx558_0 hx562_0 hx566_0 hHeld ⊢
                     refine qU 0 (some 78) rfl rfl HT_.out ?_
                     refine qU 1 (some 79) rfl rfl HT_.out ?_
                     refine qU 2 (some 80) rfl rfl HT_.out ?_
                     refine qT3 3 (some 81) rfl rfl HT_.out HW_.out hHeld ?_
                     refine qU 4 (some 82) rfl rfl HT_.out ?_
                     refine qU 5 (some 83) rfl rfl HT_.out ?_
                     refine qU 6 (some 84) rfl rfl HT_.out ?_
                     refine qU 7 (some 85) rfl rfl HT_.out ?_
                     refine qU 8 (some 86) rfl rfl HT_.out ?_
                     refine qU 9 (some 87) rfl rfl HT_.out ?_
                     refine qT3 10 (some 88) rfl rfl HT_.out HW_.out hHeld ?_
                     refine qU 11 (some 89) rfl rfl HT_.out ?_
                     refine qU 12 (some 90) rfl rfl HT_.out ?_
                     refine qU 13 (some 91) rfl rfl HT_.out ?_
                     refine qU 14 (some 92) rfl rfl HT_.out ?_
                     refine qU 15 (some 93) rfl rfl HT_.out ?_
                     refine qU 16 (some 94) rfl rfl HT_.out ?_
                     refine qU 17 (some 95) rfl rfl HT_.out ?_
                     refine qT3 18 (some 96) rfl rfl HT_.out HW_.out hHeld ?_
                     refine qU 19 (some 97) rfl rfl HT_.out ?_
                     refine qU 20 (some 98) rfl rfl HT_.out ?_
                     refine qV 21 (some 99) rfl rfl HT_.out ?_
                     refine qV 22 (some 100) rfl rfl HT_.out ?_
                     refine qV 23 (some 101) rfl rfl HT_.out ?_
                     refine qV 24 (some 102) rfl rfl HT_.out ?_
                     refine qV 25 (some 103) rfl rfl HT_.out ?_
                     refine qV 26 (some 104) rfl rfl HT_.out ?_
                     refine qV 27 (some 105) rfl rfl HT_.out ?_
                     refine qV 28 (some 106) rfl rfl HT_.out ?_
                     refine qV 29 (some 107) rfl rfl HT_.out ?_
                     refine qV 30 (some 108) rfl rfl HT_.out ?_
                     refine qU 31 (some 109) rfl rfl HT_.out ?_
                     refine qU 32 (some 110) rfl rfl HT_.out ?_
                     refine done_ (done_of HT_.out (by kernel_rfl)) ?_
                     try go_wp2
                     (try simp only [← hl10_3])
                     go_roundg k3
                     case measure => have := HK1.out; have := HK2.out; have := HK3.out; omega
                     case rel => exact ⟨(x10_3), (x11_3), (wrap64 (x15_3 + 1)), nS, H', ⟨by have := HK1.out; have := HK2.out; have := HK3.out; omega⟩, ⟨by (try simp only [hl10_2]); (try simp only [hl10_3]); exact nR HO_10.out⟩, ⟨by (try simp only [hl10_2]); (try simp only [hl10_3]); exact nR HO_11.out⟩, ⟨by (try simp only [hl10_2]); (try simp only [hl10_3]); exact nB BK538.out⟩, ⟨nH1 HB.out GE538.out⟩⟩
             · rw [if_neg c29] at H
               have c29b0 : decide (x15_3 ≤ ji22) = false := decide_eq_false c29
               clear c29
               have H' := Aside0.mk H
               clear H; go_wp2
               (try simp only [← hl10_2, ← hl10_3])
               go_roundg k3
               case measure => have := HK1.out; have := HK2.out; have := HK3.out; omega
               case rel => exact ⟨(x10_3), (x11_3), (wrap64 (x14_2 - 1)), nS, H', ⟨by have := HK1.out; have := HK2.out; have := HK3.out; omega⟩, ⟨by (try simp only [hl10_2]); (try simp only [hl10_3]); exact nR HO_10.out⟩, ⟨by (try simp only [hl10_2]); (try simp only [hl10_3]); exact nR HO_11.out⟩, ⟨by (try simp only [hl10_2]); (try simp only [hl10_3]); exact nB BK538.out⟩, ⟨nH1 HB.out GE538.out⟩⟩
         · rw [if_neg c28] at H
           have c28b0 : decide (0 ≤ x14_2) = false := decide_eq_false c28
           clear c28
           obtain ⟨y572, hy572⟩ : ∃ y_ : List Int, y_ = (([] : List Int)) := ⟨_, rfl⟩
           replace H : (spec_Split.l3 k2 l1 l2 a3 x10_2 x11_2 ji22 y572 0 a0_0 a0_1 l0_2 a0_3) = some (r1, r2) := by first | (rw [hy572]; with_reducible exact H) | (have H2_ := (Option.bind_some _ _).symm.trans H; rw [hy572]; with_reducible exact H2_) | (have H2_ := (Option.bind_some _ _).symm.trans H; with_reducible exact H2_) | with_reducible exact H | (rw [hy572]; exact H) | exact H
           have Ny572 := Aside0.mk hy572
           clear hy572
           have H' := Aside0.mk H
           clear H
           go_wp2_with (first | ((with_reducible refine gate_dst (N := 123) rfl ?_); refine Kd.R_lit (Kd.int .i64) _ 3 ?hg (N := 123) ?hd (xs := ([] : List Int)) (inner := []) (ok := fun _ => True) (okp := fun _ => True) ?hr ?hp (fun _ hk => hk) trivial (Below.refl _ _) (Nat.le_refl _) (by simp) ?_; (case hd => rfl); (case hg => rfl); (case hr => first | (go_simp; done) | (go_simp; rfl)); (case hp => exact (Reps.none _ _)); intro v573 w90 ho91 hb hg_ hnew_; clear hg_ hnew_; (first | rw [← Ny572.out] at ho91 | (simp only [Int.reduceToNat] at ho91; rw [← Ny572.out] at ho91)); have n0_ := Aside0.mk (Kd.R_elder' (nR HO_10.out) (Kd.R_base ho91) hb); have n1_ := Aside0.mk (Kd.R_elder' (nR HO_11.out) (Kd.R_base ho91) hb); have n2_ := Aside0.mk (Kd.R_lower (Kd.R_new' (Kd.R_new' ho91 (Kd.R_lt (nR HO_10.out))) (Kd.R_lt (nR HO_11.out))) (below_size (nH1 HB.out GE538.out))); have n3_ := Aside0.mk (blk_below (g := gb538) (o := .cells #[.int .i64 a0_0, .int .i64 a0_1, .slice A0_2 l0_2.length c0_2, .int .i64 a0_3] 34 (0, 0)) (nB BK538.out) hb); have n4_ := Aside0.mk (below_step (nH1 HB.out GE538.out) hb); clear HO_10; clear HO_11; clear BK538; clear HB; have HO_10 := n0_; have HO_11 := n1_; have HO574 := n2_; have BK538 := n3_; have HB := n4_; clear n0_ n1_ n2_ n3_ n4_; clear hb ho91))
           go_loopg [17, 18] k2 (fun kq v17 v18 w' => ∃ (x17_3 : List Int) (x18_3 : Int), v18 = .int .i64 x18_3 ∧ Aside0 (spec_Split.l3 kq l1 l2 a3 x10_2 x11_2 ji22 x17_3 x18_3 a0_0 a0_1 l0_2 a0_3 = some (r1, r2)) ∧ Aside0 (kq ≤ k2) ∧ Aside0 (Kd.R (Kd.int .i64) 3 w' w.heap.size (fun k_ => some k_ ≠ (u11 : Value).ownBlock ∧ some k_ ≠ (v17 : Value).ownBlock) (.slice (some ⟨go25, 0, none⟩) x10_2.length co25) x10_2) ∧ Aside0 (Kd.R (Kd.int .i64) 3 w' w.heap.size (fun k_ => some k_ ≠ ((.slice (some ⟨go25, 0, none⟩) x10_2.length co25) : Value).ownBlock ∧ some k_ ≠ (v17 : Value).ownBlock) u11 x11_2) ∧ Aside0 (Kd.R (Kd.int .i64) 3 w' w.heap.size (fun k_ => some k_ ≠ ((.slice (some ⟨go25, 0, none⟩) x10_2.length co25) : Value).ownBlock ∧ some k_ ≠ (u11 : Value).ownBlock) v17 x17_3) ∧ Aside0 (w'.heap[gb538]? = some (.cells #[.int .i64 a0_0, .int .i64 a0_1, (.slice A0_2 l0_2.length c0_2), .int .i64 a0_3] 34 (0, 0))) ∧ Aside0 (Below w.heap.size w w'))
           case atStart => exact ⟨(y572), (0), nS, H', ⟨Nat.le_refl _⟩, ⟨by (try simp only [hl10_2]); exact nR HO_10.out⟩, ⟨by (try simp only [hl10_2]); exact nR HO_11.out⟩, ⟨by (try simp only [hl10_2]); (with_reducible repeat (first | apply Kd.R_alloc | apply Kd.R_drewN | apply Kd.R_drew)); exact Kd.R_mono HO574.out (fun _ hk => ⟨hk.1.2, hk.2⟩)⟩, ⟨by (try simp only [hl10_2]); exact nB BK538.out⟩, ⟨nH1 HB.out GE538.out⟩⟩
           case round =>
            clear H'
            try clear c2; try clear p2; try clear c3; try clear p5; try clear q5; try clear hx5; try clear c6; try clear p6; try clear c24; try clear c28; try clear c28b0; try clear c29; try clear c29b0; try clear c30; try clear c31; try clear c32; try clear c33; try clear c34; try clear c37; try clear p55; try clear q55; try clear hx55; try clear p56; try clear q56; try clear hx56; try clear p64; try clear c66; try clear c66b0; try clear c66b1; try clear c67; try clear c68; try clear hx553_0; try clear hx554_0; try clear hx555_0; try clear hx558_0; try clear hx562_0; try clear hx566_0; try clear p553
            try clear p554; try clear p555; try clear p558; try clear p562; try clear p566; try clear q553; try clear q554; try clear q555; try clear q558; try clear q562; try clear q566
            obtain ⟨x17_3, x18_3, rfl, HA, HK3, HO_10, HO_11, HO_17, BK538, HB⟩ := hrel
            cases gk with
            | zero => exact absurd HA.out (by simp [spec_Split.l3])
            | succ k3 =>
             have H := HA.out; clear HA
             simp only [spec_Split.l3] at H
             by_cases c92 : x18_3 = ji22
             · rw [if_pos c92] at H
               have c92b0 : (x18_3 == ji22) = true := beq_iff_eq.mpr c92
               have c92b1 : (x18_3 != ji22) = false := bne_eq_false_iff_eq.mpr c92
               clear c92
               by_cases c93 : 0 < (x10_2.length : Int)
               rotate_left
               · (rw [if_neg c93] at H; exact absurd H (by simp))
               rw [if_pos c93] at H
               have c93b0 : decide (0 < (x10_2.length : Int)) = true := decide_eq_true c93
               have c93b1 : decide (0 < x10_2.length) = true := decide_eq_true (by omega)
               clear c93
               simp only [Option.some.injEq, Prod.mk.injEq] at H
               obtain ⟨rfl, rfl⟩ := H
               have p575 : 0 ≤ (0 : Int) := (by omega)
               have q575 : 0 < (x10_2.length : Int) := of_decide_eq_true nQ
               obtain ⟨ad575, e575, hx575_0⟩ := Kd.at_int (Kd.R_reads' HO_10.out).2.2 0 p575 q575
               obtain rfl : (⟨go25, 0, none⟩ : Addr) = ad575 := (by injection e575)
               (first | simp only [add_plain] at hx575_0 | simp only [add_at] at hx575_0 | simp only [Addr.add, Nat.zero_add] at hx575_0 | skip)
               have qi575 : (0 < x10_2.length) = True := eq_true (by omega)
               (try rw [show ((0 : Int)).toNat = 0 from rfl] at hx575_0)
               (try rw [Addr.add_zero'] at hx575_0)
               replace p575 := eq_true p575; replace q575 := eq_true q575; go_wp2
               go_ret2
               exact ⟨_, by first | rfl | (simp [errW_none, errW_some] <;> rfl) | (simp only [← hji22]; first | rfl | (simp [errW_none, errW_some] <;> rfl)) | (simp [*, errW_none, errW_some] <;> first | rfl | (simp [wrap64]; done)), by (with_reducible repeat (first | apply Kd.R_alloc | apply Kd.R_drewN | apply Kd.R_drew)); exact Kd.R_mono HO_17.out (fun _ hk => trivial), nH1 HB.out GE538.out⟩
             · rw [if_neg c92] at H
               have c92b0 : (x18_3 == ji22) = false := beq_eq_false_iff_ne.mpr c92
               have c92b1 : (x18_3 != ji22) = true := bne_iff_ne.mpr c92
               have H' := Aside0.mk H
               clear H; go_wp2
               go_loopg [18, 19] k3 (fun kq v18 v19 w' => ∃ (x18_4 : Int) (x19_4 : Int), v18 = .int .i64 x18_4 ∧ v19 = .int .i64 x19_4 ∧ Aside0 (spec_Split.l4 kq l1 l2 a3 x10_2 x11_2 ji22 x17_3 x18_4 x19_4 a0_0 a0_1 l0_2 a0_3 = some (r1, r2)) ∧ Aside0 (kq ≤ k3) ∧ Aside0 (Kd.R (Kd.int .i64) 3 w' w.heap.size (fun k_ => some k_ ≠ (u11 : Value).ownBlock ∧ some k_ ≠ (u17 : Value).ownBlock) (.slice (some ⟨go25, 0, none⟩) x10_2.length co25) x10_2) ∧ Aside0 (Kd.R (Kd.int .i64) 3 w' w.heap.size (fun k_ => some k_ ≠ ((.slice (some ⟨go25, 0, none⟩) x10_2.length co25) : Value).ownBlock ∧ some k_ ≠ (u17 : Value).ownBlock) u11 x11_2) ∧ Aside0 (Kd.R (Kd.int .i64) 3 w' w.heap.size (fun k_ => some k_ ≠ ((.slice (some ⟨go25, 0, none⟩) x10_2.length co25) : Value).ownBlock ∧ some k_ ≠ (u11 : Value).ownBlock) u17 x17_3) ∧ Aside0 (w'.heap[gb538]? = some (.cells #[.int .i64 a0_0, .int .i64 a0_1, (.slice A0_2 l0_2.length c0_2), .int .i64 a0_3] 34 (0, 0))) ∧ Aside0 (Below w.heap.size w w'))
               case atStart => exact ⟨(x18_3), (wrap64 (x18_3 + 1)), nS, nS, H', ⟨Nat.le_refl _⟩, ⟨by (try simp only [hl10_2]); exact nR HO_10.out⟩, ⟨by (try simp only [hl10_2]); exact nR HO_11.out⟩, ⟨by (try simp only [hl10_2]); exact nR HO_17.out⟩, ⟨by (try simp only [hl10_2]); exact nB BK538.out⟩, ⟨nH1 HB.out GE538.out⟩⟩
               case round =>
                clear H'
                try clear c2; try clear p2; try clear c3; try clear p5; try clear q5; try clear hx5; try clear qi5; try clear c6; try clear p6; try clear c9; try clear c24; try clear c28; try clear c28b0; try clear c29; try clear c29b0; try clear c30; try clear c31; try clear c32; try clear c33; try clear c34; try clear c37; try clear p55; try clear q55; try clear hx55; try clear p56; try clear q56; try clear hx56; try clear p57; try clear q57; try clear hx57; try clear qi57; try clear p64; try clear c66; try clear c66b0; try clear c66b1; try clear c67; try clear c68; try clear c92; try clear c92b0
                try clear c92b1; try clear c93; try clear c93b0; try clear c93b1; try clear hx553_0; try clear hx554_0; try clear hx555_0; try clear hx558_0; try clear hx562_0; try clear hx566_0; try clear hx575_0; try clear p2; try clear p5; try clear p55; try clear p553; try clear p554; try clear p555; try clear p558; try clear p56; try clear p562; try clear p566; try clear p575; try clear p6; try clear p64; try clear q5; try clear q55; try clear q553; try clear q554; try clear q555; try clear q558; try clear q56; try clear q562; try clear q566; try clear q575
                obtain ⟨x18_4, x19_4, rfl, rfl, HA, HK4, HO_10, HO_11, HO_17, BK538, HB⟩ := hrel
                cases gk with
                | zero => exact absurd HA.out (by simp [spec_Split.l4])
                | succ k4 =>
                 have H := HA.out; clear HA
                 simp only [spec_Split.l4] at H
                 by_cases c94 : x19_4 ≤ ji22
                 · rw [if_pos c94] at H
                   have c94b0 : decide (x19_4 ≤ ji22) = true := decide_eq_true c94
                   clear c94
                   by_cases c95 : 0 ≤ x19_4
                   rotate_left
                   · (rw [if_neg c95] at H; exact absurd H (by simp))
                   rw [if_pos c95] at H
                   have c95b0 : decide (0 ≤ x19_4) = true := decide_eq_true c95
                   clear c95
                   by_cases c96 : x19_4 < (x10_2.length : Int)
                   rotate_left
                   · (rw [if_neg c96] at H; exact absurd H (by simp))
                   rw [if_pos c96] at H
                   have c96b0 : decide (x19_4 < (x10_2.length : Int)) = true := decide_eq_true c96
                   clear c96
                   by_cases c97 : 0 ≤ x18_4
                   rotate_left
                   · (rw [if_neg c97] at H; exact absurd H (by simp))
                   rw [if_pos c97] at H
                   have c97b0 : decide (0 ≤ x18_4) = true := decide_eq_true c97
                   clear c97
                   by_cases c98 : x18_4 < (l1.length : Int)
                   rotate_left
                   · (rw [if_neg c98] at H; exact absurd H (by simp))
                   rw [if_pos c98] at H
                   have c98b0 : decide (x18_4 < (l1.length : Int)) = true := decide_eq_true c98
                   clear c98
                   by_cases c99 : x19_4 < (l1.length : Int)
                   rotate_left
                   · (rw [if_neg c99] at H; exact absurd H (by simp))
                   rw [if_pos c99] at H
                   have c99b0 : decide (x19_4 < (l1.length : Int)) = true := decide_eq_true c99
                   clear c99
                   replace H := Option.bind_eq_some_iff.mp H
                   obtain ⟨t582, A1000, H⟩ := H
                   replace H : ((spec_Carded.f k4 a0_0 a0_1 l0_2 a0_3 t582 l2 a3).bind fun t583 => (if x18_4 < (x10_2.length : Int) then (if (wrap64 ((rd x10_2 x19_4) + t583)) = (rd x10_2 x18_4) then (if x19_4 < (x11_2.length : Int) then (if x18_4 < (x11_2.length : Int) then (if (wrap64 ((rd x11_2 x19_4) + 1)) = (rd x11_2 x18_4) then (if x19_4 = ji22 then (spec_Split.l3 k4 l1 l2 a3 x10_2 x11_2 ji22 x17_3 x19_4 a0_0 a0_1 l0_2 a0_3) else (if x17_3.length < 17592186044416 then (spec_Split.l3 k4 l1 l2 a3 x10_2 x11_2 ji22 (x17_3 ++ [x19_4]) x19_4 a0_0 a0_1 l0_2 a0_3) else (none))) else (spec_Split.l4 k4 l1 l2 a3 x10_2 x11_2 ji22 x17_3 x18_4 (wrap64 (x19_4 + 1)) a0_0 a0_1 l0_2 a0_3)) else (none)) else (none)) else (spec_Split.l4 k4 l1 l2 a3 x10_2 x11_2 ji22 x17_3 x18_4 (wrap64 (x19_4 + 1)) a0_0 a0_1 l0_2 a0_3)) else (none))) = some (r1, r2) := H
                   have A100 := Aside0.mk A1000
                   clear A1000
                   replace H := Option.bind_eq_some_iff.mp H
                   obtain ⟨t583, A1010, H⟩ := H
                   replace H : (if x18_4 < (x10_2.length : Int) then (if (wrap64 ((rd x10_2 x19_4) + t583)) = (rd x10_2 x18_4) then (if x19_4 < (x11_2.length : Int) then (if x18_4 < (x11_2.length : Int) then (if (wrap64 ((rd x11_2 x19_4) + 1)) = (rd x11_2 x18_4) then (if x19_4 = ji22 then (spec_Split.l3 k4 l1 l2 a3 x10_2 x11_2 ji22 x17_3 x19_4 a0_0 a0_1 l0_2 a0_3) else (if x17_3.length < 17592186044416 then (spec_Split.l3 k4 l1 l2 a3 x10_2 x11_2 ji22 (x17_3 ++ [x19_4]) x19_4 a0_0 a0_1 l0_2 a0_3) else (none))) else (spec_Split.l4 k4 l1 l2 a3 x10_2 x11_2 ji22 x17_3 x18_4 (wrap64 (x19_4 + 1)) a0_0 a0_1 l0_2 a0_3)) else (none)) else (none)) else (spec_Split.l4 k4 l1 l2 a3 x10_2 x11_2 ji22 x17_3 x18_4 (wrap64 (x19_4 + 1)) a0_0 a0_1 l0_2 a0_3)) else (none)) = some (r1, r2) := H
                   have A101 := Aside0.mk A1010
                   clear A1010
                   by_cases c102 : x18_4 < (x10_2.length : Int)
                   rotate_left
                   · (rw [if_neg c102] at H; exact absurd H (by simp))
                   rw [if_pos c102] at H
                   have c102b0 : decide (x18_4 < (x10_2.length : Int)) = true := decide_eq_true c102
                   clear c102
                   by_cases c103 : (wrap64 ((rd x10_2 x19_4) + t583)) = (rd x10_2 x18_4)
                   · rw [if_pos c103] at H
                     have c103b0 : ((wrap64 ((rd x10_2 x19_4) + t583)) == (rd x10_2 x18_4)) = true := beq_iff_eq.mpr c103
                     have c103b1 : ((wrap64 ((rd x10_2 x19_4) + t583)) != (rd x10_2 x18_4)) = false := bne_eq_false_iff_eq.mpr c103
                     clear c103
                     by_cases c104 : x19_4 < (x11_2.length : Int)
                     rotate_left
                     · (rw [if_neg c104] at H; exact absurd H (by simp))
                     rw [if_pos c104] at H
                     have c104b0 : decide (x19_4 < (x11_2.length : Int)) = true := decide_eq_true c104
                     clear c104
                     by_cases c105 : x18_4 < (x11_2.length : Int)
                     rotate_left
                     · (rw [if_neg c105] at H; exact absurd H (by simp))
                     rw [if_pos c105] at H
                     have c105b0 : decide (x18_4 < (x11_2.length : Int)) = true := decide_eq_true c105
                     clear c105
                     by_cases c106 : (wrap64 ((rd x11_2 x19_4) + 1)) = (rd x11_2 x18_4)
                     · rw [if_pos c106] at H
                       have c106b0 : ((wrap64 ((rd x11_2 x19_4) + 1)) == (rd x11_2 x18_4)) = true := beq_iff_eq.mpr c106
                       have c106b1 : ((wrap64 ((rd x11_2 x19_4) + 1)) != (rd x11_2 x18_4)) = false := bne_eq_false_iff_eq.mpr c106
                       clear c106
                       by_cases c107 : x19_4 = ji22
                       · rw [if_pos c107] at H
                         have c107b0 : (x19_4 == ji22) = true := beq_iff_eq.mpr c107
                         have c107b1 : (x19_4 != ji22) = false := bne_eq_false_iff_eq.mpr c107
                         clear c107
                         have H' := Aside0.mk H
                         clear H
                         try go_wp2
                         have n0_ := Aside0.mk (Kd.R_drew HO_10.out)
                         have n1_ := Aside0.mk (Kd.R_drew HO_11.out)
                         have n2_ := Aside0.mk (Kd.R_drew HO_17.out)
                         have n3_ := Aside0.mk (blk_drew BK538.out)
                         have n4_ := Aside0.mk (below_drew1 HB.out)
                         clear HO_10; clear HO_11; clear HO_17; clear BK538; clear HB; have HO_10 := n0_; have HO_11 := n1_; have HO_17 := n2_; have BK538 := n3_; have HB := n4_; clear n0_ n1_ n2_ n3_ n4_
                         have p579 : 0 ≤ (x19_4 : Int) := of_decide_eq_true nQ
                         have q579 : x19_4 < (x10_2.length : Int) := of_decide_eq_true nQ
                         obtain ⟨ad579, e579, hx579_0⟩ := Kd.at_int (Kd.R_reads' HO_10.out).2.2 x19_4 p579 q579
                         obtain rfl : (⟨go25, 0, none⟩ : Addr) = ad579 := (by injection e579)
                         (first | simp only [add_plain] at hx579_0 | simp only [add_at] at hx579_0 | simp only [Addr.add, Nat.zero_add] at hx579_0 | skip)
                         replace p579 := eq_true p579; replace q579 := eq_true q579
                         have p580 : 0 ≤ (x18_4 : Int) := of_decide_eq_true nQ
                         have q580 : x18_4 < (l1.length : Int) := of_decide_eq_true nQ
                         obtain ⟨ad580, e580, hx580_0⟩ := Kd.at_int HR1.out x18_4 p580 q580
                         have hw580_0 := hx580_0; cases e580
                         replace hx580_0 := (HB.out.cell (World.block_lt_of_cell? w _ hx580_0)).trans hx580_0
                         replace p580 := eq_true p580; replace q580 := eq_true q580
                         have p581 : 0 ≤ (x19_4 : Int) := of_decide_eq_true nQ
                         have q581 : x19_4 < (l1.length : Int) := of_decide_eq_true nQ
                         obtain ⟨ad581, e581, hx581_0⟩ := Kd.at_int HR1.out x19_4 p581 q581
                         have hw581_0 := hx581_0
                         obtain rfl : ad580 = ad581 := (by injection e581)
                         replace hx581_0 := (HB.out.cell (World.block_lt_of_cell? w _ hx581_0)).trans hx581_0
                         replace p581 := eq_true p581; replace q581 := eq_true q581
                         have p584 : 0 ≤ (x18_4 : Int) := of_decide_eq_true nQ
                         have q584 : x18_4 < (x10_2.length : Int) := of_decide_eq_true nQ
                         obtain ⟨ad584, e584, hx584_0⟩ := Kd.at_int (Kd.R_reads' HO_10.out).2.2 x18_4 p584 q584
                         obtain rfl : (⟨go25, 0, none⟩ : Addr) = ad584 := (by injection e584)
                         (first | simp only [add_plain] at hx584_0 | simp only [add_at] at hx584_0 | simp only [Addr.add, Nat.zero_add] at hx584_0 | skip)
                         replace p584 := eq_true p584; replace q584 := eq_true q584
                         have p585 : 0 ≤ (x19_4 : Int) := of_decide_eq_true nQ
                         have q585 : x19_4 < (x11_2.length : Int) := of_decide_eq_true nQ
                         obtain ⟨Az1479, cz1479, ez1479⟩ := Kd.R_slice HO_11.out
                         subst ez1479
                         obtain ⟨ad585, e585, hx585_0⟩ := Kd.at_int (Kd.R_reads' HO_11.out).2.2 x19_4 p585 q585
                         cases e585; replace p585 := eq_true p585; replace q585 := eq_true q585
                         have p586 : 0 ≤ (x18_4 : Int) := of_decide_eq_true nQ
                         have q586 : x18_4 < (x11_2.length : Int) := of_decide_eq_true nQ
                         obtain ⟨ad586, e586, hx586_0⟩ := Kd.at_int (Kd.R_reads' HO_11.out).2.2 x18_4 p586 q586
                         obtain rfl : ad585 = ad586 := (by injection e586)
                         replace p586 := eq_true p586; replace q586 := eq_true q586
                         refine start_ (n := 36) (S := fun w' => w'.cell? ⟨gb538, 0, none⟩ = some (.int .i64 a0_0) ∧ w'.cell? ⟨gb538, 1, none⟩ = some (.int .i64 a0_1) ∧ w'.cell? ⟨gb538, 2, none⟩ = some (.slice A0_2 l0_2.length c0_2) ∧ w'.cell? ⟨gb538, 3, none⟩ = some (.int .i64 a0_3) ∧ w'.cell? ⟨go25, (x19_4).toNat, none⟩ = some (.int .i64 (rd x10_2 x19_4)) ∧ w'.cell? (ad580.add (x18_4).toNat) = some (.int .i64 (rd l1 x18_4)) ∧ w'.cell? (ad580.add (x19_4).toNat) = some (.int .i64 (rd l1 x19_4)) ∧ w'.cell? ⟨go25, (x18_4).toNat, none⟩ = some (.int .i64 (rd x10_2 x18_4)) ∧ w'.cell? (ad585.add (x19_4).toNat) = some (.int .i64 (rd x11_2 x19_4)) ∧ w'.cell? (ad585.add (x18_4).toNat) = some (.int .i64 (rd x11_2 x18_4))) (ds := []) #[F,F,F,F,F,F,F,F,F,F,F,F,F,F,F,F,F,F,F,F,F,F,F,F,F,F,F,F,F,F,F,F,F,F,F,F] (by kernel_rfl) rfl rfl ⟨(blk_cell BK538.out 0).trans rfl, (blk_cell BK538.out 1).trans rfl, (blk_cell BK538.out 2).trans rfl, (blk_cell BK538.out 3).trans rfl, hx579_0, (nC HB.out hw580_0 :), (nC HB.out hw581_0 :), hx584_0, hx585_0, hx586_0⟩ (fun hHeld => ?_); refine with_tabW spec_Split.tab27 spec_Split.bits27 (fun HT_ HW_ => ?_)
                         generalize wr.drew = w108 at HO_10 HO_11 HO_17 BK538 HB hx579_0 hx580_0 hx581_0 hx584_0 hx585_0 hx586_0 hHeld ⊢
                         refine qU 0 (some 134) rfl rfl HT_.out ?_
                         refine qU 1 (some 135) rfl rfl HT_.out ?_
                         refine qU 2 (some 136) rfl rfl HT_.out ?_
                         refine qU 6 (some 140) rfl rfl HT_.out ?_
                         refine qU 7 (some 141) rfl rfl HT_.out ?_
                         refine qU 8 (some 142) rfl rfl HT_.out ?_
                         refine qU 10 (some 144) rfl rfl HT_.out ?_
                         refine qU 11 (some 145) rfl rfl HT_.out ?_
                         refine qU 12 (some 146) rfl rfl HT_.out ?_
                         refine qU 15 (some 149) rfl rfl HT_.out ?_
                         refine qU 16 (some 150) rfl rfl HT_.out ?_
                         refine qU 19 (some 153) rfl rfl HT_.out ?_
                         refine qU 20 (some 154) rfl rfl HT_.out ?_
                         refine qU 21 (some 155) rfl rfl HT_.out ?_
                         refine qT10 3 (some 137) rfl rfl HT_.out HW_.out hHeld ?_
                         refine qT10 4 (some 138) rfl rfl HT_.out HW_.out hHeld ?_
                         refine qT10 5 (some 139) rfl rfl HT_.out HW_.out hHeld ?_
                         refine qT10 9 (some 143) rfl rfl HT_.out HW_.out hHeld ?_
                         refine qT10 13 (some 147) rfl rfl HT_.out HW_.out hHeld ?_
                         refine qT10 22 (some 156) rfl rfl HT_.out HW_.out hHeld ?_
                         refine one_ (i := 14) (N := some 148) #[T,T,T,T,T,T,T,T,T,T,T,T,T,T,T,T,T,F,F,T,T,T,T,F,F,F,F,F,F,F,F,F,F,F,F,F] rfl rfl (one_of HT_.out (by kernel_rfl)) (by decide) (fun K hK => ?_)
                         refine goes_ Try.func24 (by kernel_rfl) rfl #[.agg #[.int .i64 a0_0, .int .i64 a0_1, .slice A0_2 l0_2.length c0_2, .int .i64 a0_3], .int .i64 (rd l1 x18_4), .int .i64 (rd l1 x19_4)] (by rfl) rfl rfl nM ?_
                         with_reducible refine (spec_Fare.calls k4 a0_0 a0_1 _ _ l0_2 a0_3 (rd l1 x18_4) (rd l1 x19_4) t582 _ ?side1 ?side2 A100.out).mono ?_
                         (case side1 => exact nD HR0_2.out HB.out)
                         (case side2 => exact HC0_2.out)
                         rintro e w109 ⟨rfl, hb⟩
                         have HS4_ := (hb.cell (World.block_lt_of_cell? _ _ (hHeld.2.2.2.2.1))).trans (hHeld.2.2.2.2.1)
                         have HS7_ := (hb.cell (World.block_lt_of_cell? _ _ (hHeld.2.2.2.2.2.2.2.1))).trans (hHeld.2.2.2.2.2.2.2.1)
                         have HS8_ := (hb.cell (World.block_lt_of_cell? _ _ (hHeld.2.2.2.2.2.2.2.2.1))).trans (hHeld.2.2.2.2.2.2.2.2.1)
                         have HS9_ := (hb.cell (World.block_lt_of_cell? _ _ (hHeld.2.2.2.2.2.2.2.2.2))).trans (hHeld.2.2.2.2.2.2.2.2.2)
                         refine ⟨_, rfl, ?_⟩
                         have n0_ := Aside0.mk (Kd.R_below (nR HO_10.out) hb)
                         have n1_ := Aside0.mk (Kd.R_below (nR HO_11.out) hb)
                         have n2_ := Aside0.mk (Kd.R_below (nR HO_17.out) hb)
                         have n3_ := Aside0.mk (blk_below (g := gb538) (o := .cells #[.int .i64 a0_0, .int .i64 a0_1, .slice A0_2 l0_2.length c0_2, .int .i64 a0_3] 34 (0, 0)) (nB BK538.out) hb)
                         have n4_ := Aside0.mk (below_step (nH1 HB.out GE538.out) hb)
                         clear HO_10; clear HO_11; clear HO_17; clear BK538; clear HB; have HO_10 := n0_; have HO_11 := n1_; have HO_17 := n2_; have BK538 := n3_; have HB := n4_; clear n0_ n1_ n2_ n3_ n4_; (try clear hb); (try clear hb2); (try clear hk); (try clear hi)
                         refine hK.out _ _ ⟨(blk_cell BK538.out 0).trans rfl, (blk_cell BK538.out 1).trans rfl, (blk_cell BK538.out 2).trans rfl, (blk_cell BK538.out 3).trans rfl, HS4_, (nC HB.out hw580_0 :), (nC HB.out hw581_0 :), HS7_, HS8_, HS9_⟩ (fun hHeld => ?_)
                         clear hK K
                         refine norm_ (a' := ?_) ?_ ?_
                         rotate_left
                         · show Act.put _ (some 148) _ = _
                           simp only [Act.put, List.setIfInBounds_toArray, List.set_cons_zero, List.set_cons_succ, i64_w, i32_w]
                           rfl
                         refine one_ (i := 17) (N := some 151) #[T,T,T,T,T,T,T,T,T,T,T,T,T,T,T,T,T,T,F,T,T,T,T,F,F,F,F,F,F,F,F,F,F,F,F,F] rfl rfl (one_of HT_.out (by kernel_rfl)) (by decide) (fun K hK => ?_)
                         refine goes_ Try.func30 (by kernel_rfl) rfl #[.agg #[.int .i64 a0_0, .int .i64 a0_1, .slice A0_2 l0_2.length c0_2, .int .i64 a0_3], .int .i64 t582, .slice A2 l2.length c2, .int .i64 a3] (by rfl) rfl rfl nM ?_
                         with_reducible refine (spec_Carded.calls k4 a0_0 a0_1 _ _ l0_2 a0_3 t582 _ _ l2 a3 t583 _ ?side1 ?side2 ?side3 ?side4 A101.out).mono ?_
                         (case side1 => exact nD HR0_2.out HB.out)
                         (case side2 => exact HC0_2.out)
                         (case side3 => exact nD HR2.out HB.out)
                         (case side4 => exact HC2.out)
                         rintro e w110 ⟨rfl, hb⟩
                         have HS4_ := (hb.cell (World.block_lt_of_cell? _ _ (hHeld.2.2.2.2.1))).trans (hHeld.2.2.2.2.1)
                         have HS7_ := (hb.cell (World.block_lt_of_cell? _ _ (hHeld.2.2.2.2.2.2.2.1))).trans (hHeld.2.2.2.2.2.2.2.1)
                         have HS8_ := (hb.cell (World.block_lt_of_cell? _ _ (hHeld.2.2.2.2.2.2.2.2.1))).trans (hHeld.2.2.2.2.2.2.2.2.1)
                         have HS9_ := (hb.cell (World.block_lt_of_cell? _ _ (hHeld.2.2.2.2.2.2.2.2.2))).trans (hHeld.2.2.2.2.2.2.2.2.2)
                         refine ⟨_, rfl, ?_⟩
                         have n0_ := Aside0.mk (Kd.R_below (nR HO_10.out) hb)
                         have n1_ := Aside0.mk (Kd.R_below (nR HO_11.out) hb)
                         have n2_ := Aside0.mk (Kd.R_below (nR HO_17.out) hb)
                         have n3_ := Aside0.mk (blk_below (g := gb538) (o := .cells #[.int .i64 a0_0, .int .i64 a0_1, .slice A0_2 l0_2.length c0_2, .int .i64 a0_3] 34 (0, 0)) (nB BK538.out) hb)
                         have n4_ := Aside0.mk (below_step (nH1 HB.out GE538.out) hb)
                         clear HO_10; clear HO_11; clear HO_17; clear BK538; clear HB; have HO_10 := n0_; have HO_11 := n1_; have HO_17 := n2_; have BK538 := n3_; have HB := n4_; clear n0_ n1_ n2_ n3_ n4_; (try clear hb); (try clear hb2); (try clear hk); (try clear hi)
                         obtain ⟨Ao111, co111, eo111⟩ := Kd.R_slice HO_11.out
                         (first | subst eo111 | (injection eo111 with f1_ f2_ f3_; have f4_ := f1_.symm; have f5_ := f3_.symm; clear f1_ f2_ f3_; subst f4_; subst f5_))
                         refine hK.out _ _ ⟨(blk_cell BK538.out 0).trans rfl, (blk_cell BK538.out 1).trans rfl, (blk_cell BK538.out 2).trans rfl, (blk_cell BK538.out 3).trans rfl, HS4_, (nC HB.out hw580_0 :), (nC HB.out hw581_0 :), HS7_, HS8_, HS9_⟩ (fun hHeld => ?_)
                         clear hK K
                         refine norm_ (a' := ?_) ?_ ?_
                         rotate_left
                         · show Act.put _ (some 151) _ = _
                           simp only [Act.put, List.setIfInBounds_toArray, List.set_cons_zero, List.set_cons_succ, i64_w, i32_w]
                           rfl
                         refine qU 18 (some 152) rfl rfl HT_.out ?_
                         refine qU 23 (some 157) rfl rfl HT_.out ?_
                         refine qU 24 (some 158) rfl rfl HT_.out ?_
                         refine qU 25 (some 159) rfl rfl HT_.out ?_
                         refine qU 26 (some 160) rfl rfl HT_.out ?_
                         refine qU 27 (some 161) rfl rfl HT_.out ?_
                         refine qU 30 (some 164) rfl rfl HT_.out ?_
                         refine qU 31 (some 165) rfl rfl HT_.out ?_
                         refine qU 32 (some 166) rfl rfl HT_.out ?_
                         refine qT10 28 (some 162) rfl rfl HT_.out HW_.out hHeld ?_
                         refine qU 29 (some 163) rfl rfl HT_.out ?_
                         refine qT10 33 (some 167) rfl rfl HT_.out HW_.out hHeld ?_
                         refine qU 34 (some 168) rfl rfl HT_.out ?_
                         refine qU 35 (some 169) rfl rfl HT_.out ?_
                         refine done_ (done_of HT_.out (by kernel_rfl)) ?_
                         try go_wp2
                         go_roundg k4
                         case measure => have := HK1.out; have := HK2.out; have := HK3.out; have := HK4.out; omega
                         case rel => exact ⟨(x17_3), (x19_4), nS, H', ⟨by have := HK1.out; have := HK2.out; have := HK3.out; have := HK4.out; omega⟩, ⟨by (try simp only [hl10_2]); exact nR HO_10.out⟩, ⟨by (try simp only [hl10_2]); exact nR HO_11.out⟩, ⟨by (try simp only [hl10_2]); exact nR HO_17.out⟩, ⟨by (try simp only [hl10_2]); exact nB BK538.out⟩, ⟨nH1 HB.out GE538.out⟩⟩
                       · rw [if_neg c107] at H
                         have c107b0 : (x19_4 == ji22) = false := beq_eq_false_iff_ne.mpr c107
                         have c107b1 : (x19_4 != ji22) = true := bne_iff_ne.mpr c107
                         by_cases c112 : x17_3.length < 17592186044416
                         rotate_left
                         · (rw [if_neg c112] at H; exact absurd H (by simp))
                         rw [if_pos c112] at H
                         have LMc112 := Aside0.mk c112
                         clear c112
                         obtain ⟨y587, hy587⟩ : ∃ y_ : List Int, y_ = (x17_3 ++ [x19_4]) := ⟨_, rfl⟩
                         replace H : (spec_Split.l3 k4 l1 l2 a3 x10_2 x11_2 ji22 y587 x19_4 a0_0 a0_1 l0_2 a0_3) = some (r1, r2) := by first | (rw [hy587]; with_reducible exact H) | (have H2_ := (Option.bind_some _ _).symm.trans H; rw [hy587]; with_reducible exact H2_) | (have H2_ := (Option.bind_some _ _).symm.trans H; with_reducible exact H2_) | with_reducible exact H | (rw [hy587]; exact H) | exact H
                         have Ny587 := Aside0.mk hy587
                         clear hy587
                         have H' := Aside0.mk H
                         clear H
                         try go_wp2
                         have n0_ := Aside0.mk (Kd.R_drew HO_10.out)
                         have n1_ := Aside0.mk (Kd.R_drew HO_11.out)
                         have n2_ := Aside0.mk (Kd.R_drew HO_17.out)
                         have n3_ := Aside0.mk (blk_drew BK538.out)
                         have n4_ := Aside0.mk (below_drew1 HB.out)
                         clear HO_10; clear HO_11; clear HO_17; clear BK538; clear HB; have HO_10 := n0_; have HO_11 := n1_; have HO_17 := n2_; have BK538 := n3_; have HB := n4_; clear n0_ n1_ n2_ n3_ n4_
                         have p579 : 0 ≤ (x19_4 : Int) := of_decide_eq_true nQ
                         have q579 : x19_4 < (x10_2.length : Int) := of_decide_eq_true nQ
                         obtain ⟨ad579, e579, hx579_0⟩ := Kd.at_int (Kd.R_reads' HO_10.out).2.2 x19_4 p579 q579
                         obtain rfl : (⟨go25, 0, none⟩ : Addr) = ad579 := (by injection e579)
                         (first | simp only [add_plain] at hx579_0 | simp only [add_at] at hx579_0 | simp only [Addr.add, Nat.zero_add] at hx579_0 | skip)
                         replace p579 := eq_true p579; replace q579 := eq_true q579
                         have p580 : 0 ≤ (x18_4 : Int) := of_decide_eq_true nQ
                         have q580 : x18_4 < (l1.length : Int) := of_decide_eq_true nQ
                         obtain ⟨ad580, e580, hx580_0⟩ := Kd.at_int HR1.out x18_4 p580 q580
                         have hw580_0 := hx580_0; cases e580
                         replace hx580_0 := (HB.out.cell (World.block_lt_of_cell? w _ hx580_0)).trans hx580_0
                         replace p580 := eq_true p580; replace q580 := eq_true q580
                         have p581 : 0 ≤ (x19_4 : Int) := of_decide_eq_true nQ
                         have q581 : x19_4 < (l1.length : Int) := of_decide_eq_true nQ
                         obtain ⟨ad581, e581, hx581_0⟩ := Kd.at_int HR1.out x19_4 p581 q581
                         have hw581_0 := hx581_0
                         obtain rfl : ad580 = ad581 := (by injection e581)
                         replace hx581_0 := (HB.out.cell (World.block_lt_of_cell? w _ hx581_0)).trans hx581_0
                         replace p581 := eq_true p581; replace q581 := eq_true q581
                         have p584 : 0 ≤ (x18_4 : Int) := of_decide_eq_true nQ
                         have q584 : x18_4 < (x10_2.length : Int) := of_decide_eq_true nQ
                         obtain ⟨ad584, e584, hx584_0⟩ := Kd.at_int (Kd.R_reads' HO_10.out).2.2 x18_4 p584 q584
                         obtain rfl : (⟨go25, 0, none⟩ : Addr) = ad584 := (by injection e584)
                         (first | simp only [add_plain] at hx584_0 | simp only [add_at] at hx584_0 | simp only [Addr.add, Nat.zero_add] at hx584_0 | skip)
                         replace p584 := eq_true p584; replace q584 := eq_true q584
                         have p585 : 0 ≤ (x19_4 : Int) := of_decide_eq_true nQ
                         have q585 : x19_4 < (x11_2.length : Int) := of_decide_eq_true nQ
                         obtain ⟨Az1628, cz1628, ez1628⟩ := Kd.R_slice HO_11.out
                         subst ez1628
                         obtain ⟨ad585, e585, hx585_0⟩ := Kd.at_int (Kd.R_reads' HO_11.out).2.2 x19_4 p585 q585
                         cases e585; replace p585 := eq_true p585; replace q585 := eq_true q585
                         have p586 : 0 ≤ (x18_4 : Int) := of_decide_eq_true nQ
                         have q586 : x18_4 < (x11_2.length : Int) := of_decide_eq_true nQ
                         obtain ⟨ad586, e586, hx586_0⟩ := Kd.at_int (Kd.R_reads' HO_11.out).2.2 x18_4 p586 q586
                         obtain rfl : ad585 = ad586 := (by injection e586)
                         replace p586 := eq_true p586; replace q586 := eq_true q586
                         refine start_ (n := 36) (S := fun w' => w'.cell? ⟨gb538, 0, none⟩ = some (.int .i64 a0_0) ∧ w'.cell? ⟨gb538, 1, none⟩ = some (.int .i64 a0_1) ∧ w'.cell? ⟨gb538, 2, none⟩ = some (.slice A0_2 l0_2.length c0_2) ∧ w'.cell? ⟨gb538, 3, none⟩ = some (.int .i64 a0_3) ∧ w'.cell? ⟨go25, (x19_4).toNat, none⟩ = some (.int .i64 (rd x10_2 x19_4)) ∧ w'.cell? (ad580.add (x18_4).toNat) = some (.int .i64 (rd l1 x18_4)) ∧ w'.cell? (ad580.add (x19_4).toNat) = some (.int .i64 (rd l1 x19_4)) ∧ w'.cell? ⟨go25, (x18_4).toNat, none⟩ = some (.int .i64 (rd x10_2 x18_4)) ∧ w'.cell? (ad585.add (x19_4).toNat) = some (.int .i64 (rd x11_2 x19_4)) ∧ w'.cell? (ad585.add (x18_4).toNat) = some (.int .i64 (rd x11_2 x18_4))) (ds := []) #[F,F,F,F,F,F,F,F,F,F,F,F,F,F,F,F,F,F,F,F,F,F,F,F,F,F,F,F,F,F,F,F,F,F,F,F] (by kernel_rfl) rfl rfl ⟨(blk_cell BK538.out 0).trans rfl, (blk_cell BK538.out 1).trans rfl, (blk_cell BK538.out 2).trans rfl, (blk_cell BK538.out 3).trans rfl, hx579_0, (nC HB.out hw580_0 :), (nC HB.out hw581_0 :), hx584_0, hx585_0, hx586_0⟩ (fun hHeld => ?_); refine with_tabW spec_Split.tab27 spec_Split.bits27 (fun HT_ HW_ => ?_)
                         generalize wr.drew = w113 at HO_10 HO_11 HO_17 BK538 HB hx579_0 hx580_0 hx581_0 hx584_0 hx585_0 hx586_0 hHeld ⊢
                         refine qU 0 (some 134) rfl rfl HT_.out ?_
                         refine qU 1 (some 135) rfl rfl HT_.out ?_
                         refine qU 2 (some 136) rfl rfl HT_.out ?_
                         refine qU 6 (some 140) rfl rfl HT_.out ?_
                         refine qU 7 (some 141) rfl rfl HT_.out ?_
                         refine qU 8 (some 142) rfl rfl HT_.out ?_
                         refine qU 10 (some 144) rfl rfl HT_.out ?_
                         refine qU 11 (some 145) rfl rfl HT_.out ?_
                         refine qU 12 (some 146) rfl rfl HT_.out ?_
                         refine qU 15 (some 149) rfl rfl HT_.out ?_
                         refine qU 16 (some 150) rfl rfl HT_.out ?_
                         refine qU 19 (some 153) rfl rfl HT_.out ?_
                         refine qU 20 (some 154) rfl rfl HT_.out ?_
                         refine qU 21 (some 155) rfl rfl HT_.out ?_
                         refine qT10 3 (some 137) rfl rfl HT_.out HW_.out hHeld ?_
                         refine qT10 4 (some 138) rfl rfl HT_.out HW_.out hHeld ?_
                         refine qT10 5 (some 139) rfl rfl HT_.out HW_.out hHeld ?_
                         refine qT10 9 (some 143) rfl rfl HT_.out HW_.out hHeld ?_
                         refine qT10 13 (some 147) rfl rfl HT_.out HW_.out hHeld ?_
                         refine qT10 22 (some 156) rfl rfl HT_.out HW_.out hHeld ?_
                         refine one_ (i := 14) (N := some 148) #[T,T,T,T,T,T,T,T,T,T,T,T,T,T,T,T,T,F,F,T,T,T,T,F,F,F,F,F,F,F,F,F,F,F,F,F] rfl rfl (one_of HT_.out (by kernel_rfl)) (by decide) (fun K hK => ?_)
                         refine goes_ Try.func24 (by kernel_rfl) rfl #[.agg #[.int .i64 a0_0, .int .i64 a0_1, .slice A0_2 l0_2.length c0_2, .int .i64 a0_3], .int .i64 (rd l1 x18_4), .int .i64 (rd l1 x19_4)] (by rfl) rfl rfl nM ?_
                         with_reducible refine (spec_Fare.calls k4 a0_0 a0_1 _ _ l0_2 a0_3 (rd l1 x18_4) (rd l1 x19_4) t582 _ ?side1 ?side2 A100.out).mono ?_
                         (case side1 => exact nD HR0_2.out HB.out)
                         (case side2 => exact HC0_2.out)
                         rintro e w114 ⟨rfl, hb⟩
                         have HS4_ := (hb.cell (World.block_lt_of_cell? _ _ (hHeld.2.2.2.2.1))).trans (hHeld.2.2.2.2.1)
                         have HS7_ := (hb.cell (World.block_lt_of_cell? _ _ (hHeld.2.2.2.2.2.2.2.1))).trans (hHeld.2.2.2.2.2.2.2.1)
                         have HS8_ := (hb.cell (World.block_lt_of_cell? _ _ (hHeld.2.2.2.2.2.2.2.2.1))).trans (hHeld.2.2.2.2.2.2.2.2.1)
                         have HS9_ := (hb.cell (World.block_lt_of_cell? _ _ (hHeld.2.2.2.2.2.2.2.2.2))).trans (hHeld.2.2.2.2.2.2.2.2.2)
                         refine ⟨_, rfl, ?_⟩
                         have n0_ := Aside0.mk (Kd.R_below (nR HO_10.out) hb)
                         have n1_ := Aside0.mk (Kd.R_below (nR HO_11.out) hb)
                         have n2_ := Aside0.mk (Kd.R_below (nR HO_17.out) hb)
                         have n3_ := Aside0.mk (blk_below (g := gb538) (o := .cells #[.int .i64 a0_0, .int .i64 a0_1, .slice A0_2 l0_2.length c0_2, .int .i64 a0_3] 34 (0, 0)) (nB BK538.out) hb)
                         have n4_ := Aside0.mk (below_step (nH1 HB.out GE538.out) hb)
                         clear HO_10; clear HO_11; clear HO_17; clear BK538; clear HB; have HO_10 := n0_; have HO_11 := n1_; have HO_17 := n2_; have BK538 := n3_; have HB := n4_; clear n0_ n1_ n2_ n3_ n4_; (try clear hb); (try clear hb2); (try clear hk); (try clear hi)
                         refine hK.out _ _ ⟨(blk_cell BK538.out 0).trans rfl, (blk_cell BK538.out 1).trans rfl, (blk_cell BK538.out 2).trans rfl, (blk_cell BK538.out 3).trans rfl, HS4_, (nC HB.out hw580_0 :), (nC HB.out hw581_0 :), HS7_, HS8_, HS9_⟩ (fun hHeld => ?_)
                         clear hK K
                         refine norm_ (a' := ?_) ?_ ?_
                         rotate_left
                         · show Act.put _ (some 148) _ = _
                           simp only [Act.put, List.setIfInBounds_toArray, List.set_cons_zero, List.set_cons_succ, i64_w, i32_w]
                           rfl
                         refine one_ (i := 17) (N := some 151) #[T,T,T,T,T,T,T,T,T,T,T,T,T,T,T,T,T,T,F,T,T,T,T,F,F,F,F,F,F,F,F,F,F,F,F,F] rfl rfl (one_of HT_.out (by kernel_rfl)) (by decide) (fun K hK => ?_)
                         refine goes_ Try.func30 (by kernel_rfl) rfl #[.agg #[.int .i64 a0_0, .int .i64 a0_1, .slice A0_2 l0_2.length c0_2, .int .i64 a0_3], .int .i64 t582, .slice A2 l2.length c2, .int .i64 a3] (by rfl) rfl rfl nM ?_
                         with_reducible refine (spec_Carded.calls k4 a0_0 a0_1 _ _ l0_2 a0_3 t582 _ _ l2 a3 t583 _ ?side1 ?side2 ?side3 ?side4 A101.out).mono ?_
                         (case side1 => exact nD HR0_2.out HB.out)
                         (case side2 => exact HC0_2.out)
                         (case side3 => exact nD HR2.out HB.out)
                         (case side4 => exact HC2.out)
                         rintro e w115 ⟨rfl, hb⟩
                         have HS4_ := (hb.cell (World.block_lt_of_cell? _ _ (hHeld.2.2.2.2.1))).trans (hHeld.2.2.2.2.1)
                         have HS7_ := (hb.cell (World.block_lt_of_cell? _ _ (hHeld.2.2.2.2.2.2.2.1))).trans (hHeld.2.2.2.2.2.2.2.1)
                         have HS8_ := (hb.cell (World.block_lt_of_cell? _ _ (hHeld.2.2.2.2.2.2.2.2.1))).trans (hHeld.2.2.2.2.2.2.2.2.1)
                         have HS9_ := (hb.cell (World.block_lt_of_cell? _ _ (hHeld.2.2.2.2.2.2.2.2.2))).trans (hHeld.2.2.2.2.2.2.2.2.2)
                         refine ⟨_, rfl, ?_⟩
                         have n0_ := Aside0.mk (Kd.R_below (nR HO_10.out) hb)
                         have n1_ := Aside0.mk (Kd.R_below (nR HO_11.out) hb)
                         have n2_ := Aside0.mk (Kd.R_below (nR HO_17.out) hb)
                         have n3_ := Aside0.mk (blk_below (g := gb538) (o := .cells #[.int .i64 a0_0, .int .i64 a0_1, .slice A0_2 l0_2.length c0_2, .int .i64 a0_3] 34 (0, 0)) (nB BK538.out) hb)
                         have n4_ := Aside0.mk (below_step (nH1 HB.out GE538.out) hb)
                         clear HO_10; clear HO_11; clear HO_17; clear BK538; clear HB; have HO_10 := n0_; have HO_11 := n1_; have HO_17 := n2_; have BK538 := n3_; have HB := n4_; clear n0_ n1_ n2_ n3_ n4_; (try clear hb); (try clear hb2); (try clear hk); (try clear hi)
                         obtain ⟨Ao116, co116, eo116⟩ := Kd.R_slice HO_11.out
                         (first | subst eo116 | (injection eo116 with f1_ f2_ f3_; have f4_ := f1_.symm; have f5_ := f3_.symm; clear f1_ f2_ f3_; subst f4_; subst f5_))
                         refine hK.out _ _ ⟨(blk_cell BK538.out 0).trans rfl, (blk_cell BK538.out 1).trans rfl, (blk_cell BK538.out 2).trans rfl, (blk_cell BK538.out 3).trans rfl, HS4_, (nC HB.out hw580_0 :), (nC HB.out hw581_0 :), HS7_, HS8_, HS9_⟩ (fun hHeld => ?_)
                         clear hK K
                         refine norm_ (a' := ?_) ?_ ?_
                         rotate_left
                         · show Act.put _ (some 151) _ = _
                           simp only [Act.put, List.setIfInBounds_toArray, List.set_cons_zero, List.set_cons_succ, i64_w, i32_w]
                           rfl
                         refine qU 18 (some 152) rfl rfl HT_.out ?_
                         refine qU 23 (some 157) rfl rfl HT_.out ?_
                         refine qU 24 (some 158) rfl rfl HT_.out ?_
                         refine qU 25 (some 159) rfl rfl HT_.out ?_
                         refine qU 26 (some 160) rfl rfl HT_.out ?_
                         refine qU 27 (some 161) rfl rfl HT_.out ?_
                         refine qU 30 (some 164) rfl rfl HT_.out ?_
                         refine qU 31 (some 165) rfl rfl HT_.out ?_
                         refine qU 32 (some 166) rfl rfl HT_.out ?_
                         refine qT10 28 (some 162) rfl rfl HT_.out HW_.out hHeld ?_
                         refine qU 29 (some 163) rfl rfl HT_.out ?_
                         refine qT10 33 (some 167) rfl rfl HT_.out HW_.out hHeld ?_
                         refine qU 34 (some 168) rfl rfl HT_.out ?_
                         refine qU 35 (some 169) rfl rfl HT_.out ?_
                         refine done_ (done_of HT_.out (by kernel_rfl)) ?_
                         try go_wp2_with (first | ((with_reducible refine gate_builtin (b := .append) (xs := #[.tmp 174, .tmp 176]) rfl ?_); at_builtin; refine Kd.R_append (Kd.int .i64) (w0 := w) w.heap.size rfl (.tmp 174) (.tmp 176) 29 3 (.int .i64 0) 8 rfl Try.underlying29 info3 rfl (by decide) (by omega) u17 x17_3 x19_4 [.int .i64 x19_4] (fun k_ => some k_ ≠ (.slice (some ⟨go25, 0, none⟩) x10_2.length co25 : Value).ownBlock ∧ some k_ ≠ (.slice (some ad585) x11_2.length co116 : Value).ownBlock) (fun _ => False) rfl rfl ?aP (fun _ hk => hk.elim) ?aF ?aO ?aB ?aS ?aL ?_; (case aP => exact rfl); (case aB => exact (nH1 HB.out GE538.out)); (case aF => exact (fun k_ hk => ⟨Kd.fresh' (Kd.R_lt (nR HO_10.out)) k_ hk, Kd.fresh' (Kd.R_lt (nR HO_11.out)) k_ hk⟩)); (case aO => exact (nR HO_17.out)); (case aS => exact (below_size (nH1 HB.out GE538.out))); (case aL => have := LMc112.out; omega); intro v588 w117 ho hb hg hat; rw [← Ny587.out] at ho; have n0_ := Aside0.mk (Kd.R_after (ok := (fun k_ => some k_ ≠ (.slice (some ad585) x11_2.length co116 : Value).ownBlock)) (nR HO_10.out) hg hat); have n1_ := Aside0.mk (Kd.R_after (ok := (fun k_ => some k_ ≠ (.slice (some ⟨go25, 0, none⟩) x10_2.length co25 : Value).ownBlock)) (nR HO_11.out) hg hat); have n2_ := Aside0.mk (blk_grown (g := gb538) (o := .cells #[.int .i64 a0_0, .int .i64 a0_1, .slice A0_2 l0_2.length c0_2, .int .i64 a0_3] 34 (0, 0)) (nB BK538.out) hg (Kd.R_ne HO_17.out BK538.out (by decide))); have n3_ := Aside0.mk (hb); have n4_ := Aside0.mk (ho); clear HO_10; clear HO_11; clear BK538; clear HB; clear HO_17; have HO_10 := n0_; have HO_11 := n1_; have BK538 := n2_; have HB := n3_; have HO589 := n4_; clear n0_ n1_ n2_ n3_ n4_; clear ho hb hg hat))
                         go_roundg k4
                         case measure => have := HK1.out; have := HK2.out; have := HK3.out; have := HK4.out; omega
                         case rel => exact ⟨(y587), (x19_4), nS, H', ⟨by have := HK1.out; have := HK2.out; have := HK3.out; have := HK4.out; omega⟩, ⟨by (try simp only [hl10_2]); exact nR HO_10.out⟩, ⟨by (try simp only [hl10_2]); exact nR HO_11.out⟩, ⟨by (try simp only [hl10_2]); exact nR HO589.out⟩, ⟨by (try simp only [hl10_2]); exact nB BK538.out⟩, ⟨nH1 HB.out GE538.out⟩⟩
                     · rw [if_neg c106] at H
                       have c106b0 : ((wrap64 ((rd x11_2 x19_4) + 1)) == (rd x11_2 x18_4)) = false := beq_eq_false_iff_ne.mpr c106
                       have c106b1 : ((wrap64 ((rd x11_2 x19_4) + 1)) != (rd x11_2 x18_4)) = true := bne_iff_ne.mpr c106
                       have H' := Aside0.mk H
                       clear H
                       try go_wp2
                       have n0_ := Aside0.mk (Kd.R_drew HO_10.out)
                       have n1_ := Aside0.mk (Kd.R_drew HO_11.out)
                       have n2_ := Aside0.mk (Kd.R_drew HO_17.out)
                       have n3_ := Aside0.mk (blk_drew BK538.out)
                       have n4_ := Aside0.mk (below_drew1 HB.out)
                       clear HO_10; clear HO_11; clear HO_17; clear BK538; clear HB; have HO_10 := n0_; have HO_11 := n1_; have HO_17 := n2_; have BK538 := n3_; have HB := n4_; clear n0_ n1_ n2_ n3_ n4_
                       have p579 : 0 ≤ (x19_4 : Int) := of_decide_eq_true nQ
                       have q579 : x19_4 < (x10_2.length : Int) := of_decide_eq_true nQ
                       obtain ⟨ad579, e579, hx579_0⟩ := Kd.at_int (Kd.R_reads' HO_10.out).2.2 x19_4 p579 q579
                       obtain rfl : (⟨go25, 0, none⟩ : Addr) = ad579 := (by injection e579)
                       (first | simp only [add_plain] at hx579_0 | simp only [add_at] at hx579_0 | simp only [Addr.add, Nat.zero_add] at hx579_0 | skip)
                       replace p579 := eq_true p579; replace q579 := eq_true q579
                       have p580 : 0 ≤ (x18_4 : Int) := of_decide_eq_true nQ
                       have q580 : x18_4 < (l1.length : Int) := of_decide_eq_true nQ
                       obtain ⟨ad580, e580, hx580_0⟩ := Kd.at_int HR1.out x18_4 p580 q580
                       have hw580_0 := hx580_0; cases e580
                       replace hx580_0 := (HB.out.cell (World.block_lt_of_cell? w _ hx580_0)).trans hx580_0
                       replace p580 := eq_true p580; replace q580 := eq_true q580
                       have p581 : 0 ≤ (x19_4 : Int) := of_decide_eq_true nQ
                       have q581 : x19_4 < (l1.length : Int) := of_decide_eq_true nQ
                       obtain ⟨ad581, e581, hx581_0⟩ := Kd.at_int HR1.out x19_4 p581 q581
                       have hw581_0 := hx581_0
                       obtain rfl : ad580 = ad581 := (by injection e581)
                       replace hx581_0 := (HB.out.cell (World.block_lt_of_cell? w _ hx581_0)).trans hx581_0
                       replace p581 := eq_true p581; replace q581 := eq_true q581
                       have p584 : 0 ≤ (x18_4 : Int) := of_decide_eq_true nQ
                       have q584 : x18_4 < (x10_2.length : Int) := of_decide_eq_true nQ
                       obtain ⟨ad584, e584, hx584_0⟩ := Kd.at_int (Kd.R_reads' HO_10.out).2.2 x18_4 p584 q584
                       obtain rfl : (⟨go25, 0, none⟩ : Addr) = ad584 := (by injection e584)
                       (first | simp only [add_plain] at hx584_0 | simp only [add_at] at hx584_0 | simp only [Addr.add, Nat.zero_add] at hx584_0 | skip)
                       replace p584 := eq_true p584; replace q584 := eq_true q584
                       have p585 : 0 ≤ (x19_4 : Int) := of_decide_eq_true nQ
                       have q585 : x19_4 < (x11_2.length : Int) := of_decide_eq_true nQ
                       obtain ⟨Az1767, cz1767, ez1767⟩ := Kd.R_slice HO_11.out
                       subst ez1767
                       obtain ⟨ad585, e585, hx585_0⟩ := Kd.at_int (Kd.R_reads' HO_11.out).2.2 x19_4 p585 q585
                       cases e585; replace p585 := eq_true p585; replace q585 := eq_true q585
                       have p586 : 0 ≤ (x18_4 : Int) := of_decide_eq_true nQ
                       have q586 : x18_4 < (x11_2.length : Int) := of_decide_eq_true nQ
                       obtain ⟨ad586, e586, hx586_0⟩ := Kd.at_int (Kd.R_reads' HO_11.out).2.2 x18_4 p586 q586
                       obtain rfl : ad585 = ad586 := (by injection e586)
                       replace p586 := eq_true p586; replace q586 := eq_true q586
                       refine start_ (n := 36) (S := fun w' => w'.cell? ⟨gb538, 0, none⟩ = some (.int .i64 a0_0) ∧ w'.cell? ⟨gb538, 1, none⟩ = some (.int .i64 a0_1) ∧ w'.cell? ⟨gb538, 2, none⟩ = some (.slice A0_2 l0_2.length c0_2) ∧ w'.cell? ⟨gb538, 3, none⟩ = some (.int .i64 a0_3) ∧ w'.cell? ⟨go25, (x19_4).toNat, none⟩ = some (.int .i64 (rd x10_2 x19_4)) ∧ w'.cell? (ad580.add (x18_4).toNat) = some (.int .i64 (rd l1 x18_4)) ∧ w'.cell? (ad580.add (x19_4).toNat) = some (.int .i64 (rd l1 x19_4)) ∧ w'.cell? ⟨go25, (x18_4).toNat, none⟩ = some (.int .i64 (rd x10_2 x18_4)) ∧ w'.cell? (ad585.add (x19_4).toNat) = some (.int .i64 (rd x11_2 x19_4)) ∧ w'.cell? (ad585.add (x18_4).toNat) = some (.int .i64 (rd x11_2 x18_4))) (ds := []) #[F,F,F,F,F,F,F,F,F,F,F,F,F,F,F,F,F,F,F,F,F,F,F,F,F,F,F,F,F,F,F,F,F,F,F,F] (by kernel_rfl) rfl rfl ⟨(blk_cell BK538.out 0).trans rfl, (blk_cell BK538.out 1).trans rfl, (blk_cell BK538.out 2).trans rfl, (blk_cell BK538.out 3).trans rfl, hx579_0, (nC HB.out hw580_0 :), (nC HB.out hw581_0 :), hx584_0, hx585_0, hx586_0⟩ (fun hHeld => ?_); refine with_tabW spec_Split.tab27 spec_Split.bits27 (fun HT_ HW_ => ?_)
                       generalize wr.drew = w118 at HO_10 HO_11 HO_17 BK538 HB hx579_0 hx580_0 hx581_0 hx584_0 hx585_0 hx586_0 hHeld ⊢
                       refine qU 0 (some 134) rfl rfl HT_.out ?_
                       refine qU 1 (some 135) rfl rfl HT_.out ?_
                       refine qU 2 (some 136) rfl rfl HT_.out ?_
                       refine qU 6 (some 140) rfl rfl HT_.out ?_
                       refine qU 7 (some 141) rfl rfl HT_.out ?_
                       refine qU 8 (some 142) rfl rfl HT_.out ?_
                       refine qU 10 (some 144) rfl rfl HT_.out ?_
                       refine qU 11 (some 145) rfl rfl HT_.out ?_
                       refine qU 12 (some 146) rfl rfl HT_.out ?_
                       refine qU 15 (some 149) rfl rfl HT_.out ?_
                       refine qU 16 (some 150) rfl rfl HT_.out ?_
                       refine qU 19 (some 153) rfl rfl HT_.out ?_
                       refine qU 20 (some 154) rfl rfl HT_.out ?_
                       refine qU 21 (some 155) rfl rfl HT_.out ?_
                       refine qT10 3 (some 137) rfl rfl HT_.out HW_.out hHeld ?_
                       refine qT10 4 (some 138) rfl rfl HT_.out HW_.out hHeld ?_
                       refine qT10 5 (some 139) rfl rfl HT_.out HW_.out hHeld ?_
                       refine qT10 9 (some 143) rfl rfl HT_.out HW_.out hHeld ?_
                       refine qT10 13 (some 147) rfl rfl HT_.out HW_.out hHeld ?_
                       refine qT10 22 (some 156) rfl rfl HT_.out HW_.out hHeld ?_
                       refine one_ (i := 14) (N := some 148) #[T,T,T,T,T,T,T,T,T,T,T,T,T,T,T,T,T,F,F,T,T,T,T,F,F,F,F,F,F,F,F,F,F,F,F,F] rfl rfl (one_of HT_.out (by kernel_rfl)) (by decide) (fun K hK => ?_)
                       refine goes_ Try.func24 (by kernel_rfl) rfl #[.agg #[.int .i64 a0_0, .int .i64 a0_1, .slice A0_2 l0_2.length c0_2, .int .i64 a0_3], .int .i64 (rd l1 x18_4), .int .i64 (rd l1 x19_4)] (by rfl) rfl rfl nM ?_
                       with_reducible refine (spec_Fare.calls k4 a0_0 a0_1 _ _ l0_2 a0_3 (rd l1 x18_4) (rd l1 x19_4) t582 _ ?side1 ?side2 A100.out).mono ?_
                       (case side1 => exact nD HR0_2.out HB.out)
                       (case side2 => exact HC0_2.out)
                       rintro e w119 ⟨rfl, hb⟩
                       have HS4_ := (hb.cell (World.block_lt_of_cell? _ _ (hHeld.2.2.2.2.1))).trans (hHeld.2.2.2.2.1)
                       have HS7_ := (hb.cell (World.block_lt_of_cell? _ _ (hHeld.2.2.2.2.2.2.2.1))).trans (hHeld.2.2.2.2.2.2.2.1)
                       have HS8_ := (hb.cell (World.block_lt_of_cell? _ _ (hHeld.2.2.2.2.2.2.2.2.1))).trans (hHeld.2.2.2.2.2.2.2.2.1)
                       have HS9_ := (hb.cell (World.block_lt_of_cell? _ _ (hHeld.2.2.2.2.2.2.2.2.2))).trans (hHeld.2.2.2.2.2.2.2.2.2)
                       refine ⟨_, rfl, ?_⟩
                       have n0_ := Aside0.mk (Kd.R_below (nR HO_10.out) hb)
                       have n1_ := Aside0.mk (Kd.R_below (nR HO_11.out) hb)
                       have n2_ := Aside0.mk (Kd.R_below (nR HO_17.out) hb)
                       have n3_ := Aside0.mk (blk_below (g := gb538) (o := .cells #[.int .i64 a0_0, .int .i64 a0_1, .slice A0_2 l0_2.length c0_2, .int .i64 a0_3] 34 (0, 0)) (nB BK538.out) hb)
                       have n4_ := Aside0.mk (below_step (nH1 HB.out GE538.out) hb)
                       clear HO_10; clear HO_11; clear HO_17; clear BK538; clear HB; have HO_10 := n0_; have HO_11 := n1_; have HO_17 := n2_; have BK538 := n3_; have HB := n4_; clear n0_ n1_ n2_ n3_ n4_; (try clear hb); (try clear hb2); (try clear hk); (try clear hi)
                       refine hK.out _ _ ⟨(blk_cell BK538.out 0).trans rfl, (blk_cell BK538.out 1).trans rfl, (blk_cell BK538.out 2).trans rfl, (blk_cell BK538.out 3).trans rfl, HS4_, (nC HB.out hw580_0 :), (nC HB.out hw581_0 :), HS7_, HS8_, HS9_⟩ (fun hHeld => ?_)
                       clear hK K
                       refine norm_ (a' := ?_) ?_ ?_
                       rotate_left
                       · show Act.put _ (some 148) _ = _
                         simp only [Act.put, List.setIfInBounds_toArray, List.set_cons_zero, List.set_cons_succ, i64_w, i32_w]
                         rfl
                       refine one_ (i := 17) (N := some 151) #[T,T,T,T,T,T,T,T,T,T,T,T,T,T,T,T,T,T,F,T,T,T,T,F,F,F,F,F,F,F,F,F,F,F,F,F] rfl rfl (one_of HT_.out (by kernel_rfl)) (by decide) (fun K hK => ?_)
                       refine goes_ Try.func30 (by kernel_rfl) rfl #[.agg #[.int .i64 a0_0, .int .i64 a0_1, .slice A0_2 l0_2.length c0_2, .int .i64 a0_3], .int .i64 t582, .slice A2 l2.length c2, .int .i64 a3] (by rfl) rfl rfl nM ?_
                       with_reducible refine (spec_Carded.calls k4 a0_0 a0_1 _ _ l0_2 a0_3 t582 _ _ l2 a3 t583 _ ?side1 ?side2 ?side3 ?side4 A101.out).mono ?_
                       (case side1 => exact nD HR0_2.out HB.out)
                       (case side2 => exact HC0_2.out)
                       (case side3 => exact nD HR2.out HB.out)
                       (case side4 => exact HC2.out)
                       rintro e w120 ⟨rfl, hb⟩
                       have HS4_ := (hb.cell (World.block_lt_of_cell? _ _ (hHeld.2.2.2.2.1))).trans (hHeld.2.2.2.2.1)
                       have HS7_ := (hb.cell (World.block_lt_of_cell? _ _ (hHeld.2.2.2.2.2.2.2.1))).trans (hHeld.2.2.2.2.2.2.2.1)
                       have HS8_ := (hb.cell (World.block_lt_of_cell? _ _ (hHeld.2.2.2.2.2.2.2.2.1))).trans (hHeld.2.2.2.2.2.2.2.2.1)
                       have HS9_ := (hb.cell (World.block_lt_of_cell? _ _ (hHeld.2.2.2.2.2.2.2.2.2))).trans (hHeld.2.2.2.2.2.2.2.2.2)
                       refine ⟨_, rfl, ?_⟩
                       have n0_ := Aside0.mk (Kd.R_below (nR HO_10.out) hb)
                       have n1_ := Aside0.mk (Kd.R_below (nR HO_11.out) hb)
                       have n2_ := Aside0.mk (Kd.R_below (nR HO_17.out) hb)
                       have n3_ := Aside0.mk (blk_below (g := gb538) (o := .cells #[.int .i64 a0_0, .int .i64 a0_1, .slice A0_2 l0_2.length c0_2, .int .i64 a0_3] 34 (0, 0)) (nB BK538.out) hb)
                       have n4_ := Aside0.mk (below_step (nH1 HB.out GE538.out) hb)
                       clear HO_10; clear HO_11; clear HO_17; clear BK538; clear HB; have HO_10 := n0_; have HO_11 := n1_; have HO_17 := n2_; have BK538 := n3_; have HB := n4_; clear n0_ n1_ n2_ n3_ n4_; (try clear hb); (try clear hb2); (try clear hk); (try clear hi)
                       obtain ⟨Ao121, co121, eo121⟩ := Kd.R_slice HO_11.out
                       (first | subst eo121 | (injection eo121 with f1_ f2_ f3_; have f4_ := f1_.symm; have f5_ := f3_.symm; clear f1_ f2_ f3_; subst f4_; subst f5_))
                       refine hK.out _ _ ⟨(blk_cell BK538.out 0).trans rfl, (blk_cell BK538.out 1).trans rfl, (blk_cell BK538.out 2).trans rfl, (blk_cell BK538.out 3).trans rfl, HS4_, (nC HB.out hw580_0 :), (nC HB.out hw581_0 :), HS7_, HS8_, HS9_⟩ (fun hHeld => ?_)
                       clear hK K
                       refine norm_ (a' := ?_) ?_ ?_
                       rotate_left
                       · show Act.put _ (some 151) _ = _
                         simp only [Act.put, List.setIfInBounds_toArray, List.set_cons_zero, List.set_cons_succ, i64_w, i32_w]
                         rfl
                       refine qU 18 (some 152) rfl rfl HT_.out ?_
                       refine qU 23 (some 157) rfl rfl HT_.out ?_
                       refine qU 24 (some 158) rfl rfl HT_.out ?_
                       refine qU 25 (some 159) rfl rfl HT_.out ?_
                       refine qU 26 (some 160) rfl rfl HT_.out ?_
                       refine qU 27 (some 161) rfl rfl HT_.out ?_
                       refine qU 30 (some 164) rfl rfl HT_.out ?_
                       refine qU 31 (some 165) rfl rfl HT_.out ?_
                       refine qU 32 (some 166) rfl rfl HT_.out ?_
                       refine qT10 28 (some 162) rfl rfl HT_.out HW_.out hHeld ?_
                       refine qU 29 (some 163) rfl rfl HT_.out ?_
                       refine qT10 33 (some 167) rfl rfl HT_.out HW_.out hHeld ?_
                       refine qU 34 (some 168) rfl rfl HT_.out ?_
                       refine qU 35 (some 169) rfl rfl HT_.out ?_
                       refine done_ (done_of HT_.out (by kernel_rfl)) ?_
                       try go_wp2
                       go_roundg k4
                       case measure => have := HK1.out; have := HK2.out; have := HK3.out; have := HK4.out; omega
                       case rel => exact ⟨(x18_4), (wrap64 (x19_4 + 1)), nS, nS, H', ⟨by have := HK1.out; have := HK2.out; have := HK3.out; have := HK4.out; omega⟩, ⟨by (try simp only [hl10_2]); exact nR HO_10.out⟩, ⟨by (try simp only [hl10_2]); exact nR HO_11.out⟩, ⟨by (try simp only [hl10_2]); exact nR HO_17.out⟩, ⟨by (try simp only [hl10_2]); exact nB BK538.out⟩, ⟨nH1 HB.out GE538.out⟩⟩
                   · rw [if_neg c103] at H
                     have c103b0 : ((wrap64 ((rd x10_2 x19_4) + t583)) == (rd x10_2 x18_4)) = false := beq_eq_false_iff_ne.mpr c103
                     have c103b1 : ((wrap64 ((rd x10_2 x19_4) + t583)) != (rd x10_2 x18_4)) = true := bne_iff_ne.mpr c103
                     have H' := Aside0.mk H
                     clear H
                     try go_wp2
                     have n0_ := Aside0.mk (Kd.R_drew HO_10.out)
                     have n1_ := Aside0.mk (Kd.R_drew HO_11.out)
                     have n2_ := Aside0.mk (Kd.R_drew HO_17.out)
                     have n3_ := Aside0.mk (blk_drew BK538.out)
                     have n4_ := Aside0.mk (below_drew1 HB.out)
                     clear HO_10; clear HO_11; clear HO_17; clear BK538; clear HB; have HO_10 := n0_; have HO_11 := n1_; have HO_17 := n2_; have BK538 := n3_; have HB := n4_; clear n0_ n1_ n2_ n3_ n4_
                     have p579 : 0 ≤ (x19_4 : Int) := of_decide_eq_true nQ
                     have q579 : x19_4 < (x10_2.length : Int) := of_decide_eq_true nQ
                     obtain ⟨ad579, e579, hx579_0⟩ := Kd.at_int (Kd.R_reads' HO_10.out).2.2 x19_4 p579 q579
                     obtain rfl : (⟨go25, 0, none⟩ : Addr) = ad579 := (by injection e579)
                     (first | simp only [add_plain] at hx579_0 | simp only [add_at] at hx579_0 | simp only [Addr.add, Nat.zero_add] at hx579_0 | skip)
                     replace p579 := eq_true p579; replace q579 := eq_true q579
                     have p580 : 0 ≤ (x18_4 : Int) := of_decide_eq_true nQ
                     have q580 : x18_4 < (l1.length : Int) := of_decide_eq_true nQ
                     obtain ⟨ad580, e580, hx580_0⟩ := Kd.at_int HR1.out x18_4 p580 q580
                     have hw580_0 := hx580_0; cases e580
                     replace hx580_0 := (HB.out.cell (World.block_lt_of_cell? w _ hx580_0)).trans hx580_0
                     replace p580 := eq_true p580; replace q580 := eq_true q580
                     have p581 : 0 ≤ (x19_4 : Int) := of_decide_eq_true nQ
                     have q581 : x19_4 < (l1.length : Int) := of_decide_eq_true nQ
                     obtain ⟨ad581, e581, hx581_0⟩ := Kd.at_int HR1.out x19_4 p581 q581
                     have hw581_0 := hx581_0
                     obtain rfl : ad580 = ad581 := (by injection e581)
                     replace hx581_0 := (HB.out.cell (World.block_lt_of_cell? w _ hx581_0)).trans hx581_0
                     replace p581 := eq_true p581; replace q581 := eq_true q581
                     have p584 : 0 ≤ (x18_4 : Int) := of_decide_eq_true nQ
                     have q584 : x18_4 < (x10_2.length : Int) := of_decide_eq_true nQ
                     obtain ⟨ad584, e584, hx584_0⟩ := Kd.at_int (Kd.R_reads' HO_10.out).2.2 x18_4 p584 q584
                     obtain rfl : (⟨go25, 0, none⟩ : Addr) = ad584 := (by injection e584)
                     (first | simp only [add_plain] at hx584_0 | simp only [add_at] at hx584_0 | simp only [Addr.add, Nat.zero_add] at hx584_0 | skip)
                     replace p584 := eq_true p584; replace q584 := eq_true q584
                     refine start_ (n := 36) (S := fun w' => w'.cell? ⟨gb538, 0, none⟩ = some (.int .i64 a0_0) ∧ w'.cell? ⟨gb538, 1, none⟩ = some (.int .i64 a0_1) ∧ w'.cell? ⟨gb538, 2, none⟩ = some (.slice A0_2 l0_2.length c0_2) ∧ w'.cell? ⟨gb538, 3, none⟩ = some (.int .i64 a0_3) ∧ w'.cell? ⟨go25, (x19_4).toNat, none⟩ = some (.int .i64 (rd x10_2 x19_4)) ∧ w'.cell? (ad580.add (x18_4).toNat) = some (.int .i64 (rd l1 x18_4)) ∧ w'.cell? (ad580.add (x19_4).toNat) = some (.int .i64 (rd l1 x19_4)) ∧ w'.cell? ⟨go25, (x18_4).toNat, none⟩ = some (.int .i64 (rd x10_2 x18_4))) (ds := []) #[F,F,F,F,F,F,F,F,F,F,F,F,F,F,F,F,F,F,F,F,F,F,F,F,F,F,F,F,F,F,F,F,F,F,F,F] (by kernel_rfl) rfl rfl ⟨(blk_cell BK538.out 0).trans rfl, (blk_cell BK538.out 1).trans rfl, (blk_cell BK538.out 2).trans rfl, (blk_cell BK538.out 3).trans rfl, hx579_0, (nC HB.out hw580_0 :), (nC HB.out hw581_0 :), hx584_0⟩ (fun hHeld => ?_); refine with_tabW spec_Split.tab27 spec_Split.bits27 (fun HT_ HW_ => ?_)
                     generalize wr.drew = w122 at HO_10 HO_11 HO_17 BK538 HB hx579_0 hx580_0 hx581_0 hx584_0 hHeld ⊢
                     refine qU 0 (some 134) rfl rfl HT_.out ?_
                     refine qU 1 (some 135) rfl rfl HT_.out ?_
                     refine qU 2 (some 136) rfl rfl HT_.out ?_
                     refine qU 6 (some 140) rfl rfl HT_.out ?_
                     refine qU 7 (some 141) rfl rfl HT_.out ?_
                     refine qU 8 (some 142) rfl rfl HT_.out ?_
                     refine qU 10 (some 144) rfl rfl HT_.out ?_
                     refine qU 11 (some 145) rfl rfl HT_.out ?_
                     refine qU 12 (some 146) rfl rfl HT_.out ?_
                     refine qU 15 (some 149) rfl rfl HT_.out ?_
                     refine qU 16 (some 150) rfl rfl HT_.out ?_
                     refine qU 19 (some 153) rfl rfl HT_.out ?_
                     refine qU 20 (some 154) rfl rfl HT_.out ?_
                     refine qU 21 (some 155) rfl rfl HT_.out ?_
                     refine qT8 3 (some 137) rfl rfl HT_.out HW_.out hHeld ?_
                     refine qT8 4 (some 138) rfl rfl HT_.out HW_.out hHeld ?_
                     refine qT8 5 (some 139) rfl rfl HT_.out HW_.out hHeld ?_
                     refine qT8 9 (some 143) rfl rfl HT_.out HW_.out hHeld ?_
                     refine qT8 13 (some 147) rfl rfl HT_.out HW_.out hHeld ?_
                     refine qT8 22 (some 156) rfl rfl HT_.out HW_.out hHeld ?_
                     refine one_ (i := 14) (N := some 148) #[T,T,T,T,T,T,T,T,T,T,T,T,T,T,T,T,T,F,F,T,T,T,T,F,F,F,F,F,F,F,F,F,F,F,F,F] rfl rfl (one_of HT_.out (by kernel_rfl)) (by decide) (fun K hK => ?_)
                     refine goes_ Try.func24 (by kernel_rfl) rfl #[.agg #[.int .i64 a0_0, .int .i64 a0_1, .slice A0_2 l0_2.length c0_2, .int .i64 a0_3], .int .i64 (rd l1 x18_4), .int .i64 (rd l1 x19_4)] (by rfl) rfl rfl nM ?_
                     with_reducible refine (spec_Fare.calls k4 a0_0 a0_1 _ _ l0_2 a0_3 (rd l1 x18_4) (rd l1 x19_4) t582 _ ?side1 ?side2 A100.out).mono ?_
                     (case side1 => exact nD HR0_2.out HB.out)
                     (case side2 => exact HC0_2.out)
                     rintro e w123 ⟨rfl, hb⟩
                     have HS4_ := (hb.cell (World.block_lt_of_cell? _ _ (hHeld.2.2.2.2.1))).trans (hHeld.2.2.2.2.1)
                     have HS7_ := (hb.cell (World.block_lt_of_cell? _ _ (hHeld.2.2.2.2.2.2.2))).trans (hHeld.2.2.2.2.2.2.2)
                     refine ⟨_, rfl, ?_⟩
                     have n0_ := Aside0.mk (Kd.R_below (nR HO_10.out) hb)
                     have n1_ := Aside0.mk (Kd.R_below (nR HO_11.out) hb)
                     have n2_ := Aside0.mk (Kd.R_below (nR HO_17.out) hb)
                     have n3_ := Aside0.mk (blk_below (g := gb538) (o := .cells #[.int .i64 a0_0, .int .i64 a0_1, .slice A0_2 l0_2.length c0_2, .int .i64 a0_3] 34 (0, 0)) (nB BK538.out) hb)
                     have n4_ := Aside0.mk (below_step (nH1 HB.out GE538.out) hb)
                     clear HO_10; clear HO_11; clear HO_17; clear BK538; clear HB; have HO_10 := n0_; have HO_11 := n1_; have HO_17 := n2_; have BK538 := n3_; have HB := n4_; clear n0_ n1_ n2_ n3_ n4_; (try clear hb); (try clear hb2); (try clear hk); (try clear hi)
                     refine hK.out _ _ ⟨(blk_cell BK538.out 0).trans rfl, (blk_cell BK538.out 1).trans rfl, (blk_cell BK538.out 2).trans rfl, (blk_cell BK538.out 3).trans rfl, HS4_, (nC HB.out hw580_0 :), (nC HB.out hw581_0 :), HS7_⟩ (fun hHeld => ?_)
                     clear hK K
                     refine norm_ (a' := ?_) ?_ ?_
                     rotate_left
                     · show Act.put _ (some 148) _ = _
                       simp only [Act.put, List.setIfInBounds_toArray, List.set_cons_zero, List.set_cons_succ, i64_w, i32_w]
                       rfl
                     refine one_ (i := 17) (N := some 151) #[T,T,T,T,T,T,T,T,T,T,T,T,T,T,T,T,T,T,F,T,T,T,T,F,F,F,F,F,F,F,F,F,F,F,F,F] rfl rfl (one_of HT_.out (by kernel_rfl)) (by decide) (fun K hK => ?_)
                     refine goes_ Try.func30 (by kernel_rfl) rfl #[.agg #[.int .i64 a0_0, .int .i64 a0_1, .slice A0_2 l0_2.length c0_2, .int .i64 a0_3], .int .i64 t582, .slice A2 l2.length c2, .int .i64 a3] (by rfl) rfl rfl nM ?_
                     with_reducible refine (spec_Carded.calls k4 a0_0 a0_1 _ _ l0_2 a0_3 t582 _ _ l2 a3 t583 _ ?side1 ?side2 ?side3 ?side4 A101.out).mono ?_
                     (case side1 => exact nD HR0_2.out HB.out)
                     (case side2 => exact HC0_2.out)
                     (case side3 => exact nD HR2.out HB.out)
                     (case side4 => exact HC2.out)
                     rintro e w124 ⟨rfl, hb⟩
                     have HS4_ := (hb.cell (World.block_lt_of_cell? _ _ (hHeld.2.2.2.2.1))).trans (hHeld.2.2.2.2.1)
                     have HS7_ := (hb.cell (World.block_lt_of_cell? _ _ (hHeld.2.2.2.2.2.2.2))).trans (hHeld.2.2.2.2.2.2.2)
                     refine ⟨_, rfl, ?_⟩
                     have n0_ := Aside0.mk (Kd.R_below (nR HO_10.out) hb)
                     have n1_ := Aside0.mk (Kd.R_below (nR HO_11.out) hb)
                     have n2_ := Aside0.mk (Kd.R_below (nR HO_17.out) hb)
                     have n3_ := Aside0.mk (blk_below (g := gb538) (o := .cells #[.int .i64 a0_0, .int .i64 a0_1, .slice A0_2 l0_2.length c0_2, .int .i64 a0_3] 34 (0, 0)) (nB BK538.out) hb)
                     have n4_ := Aside0.mk (below_step (nH1 HB.out GE538.out) hb)
                     clear HO_10; clear HO_11; clear HO_17; clear BK538; clear HB; have HO_10 := n0_; have HO_11 := n1_; have HO_17 := n2_; have BK538 := n3_; have HB := n4_; clear n0_ n1_ n2_ n3_ n4_; (try clear hb); (try clear hb2); (try clear hk); (try clear hi)
                     refine hK.out _ _ ⟨(blk_cell BK538.out 0).trans rfl, (blk_cell BK538.out 1).trans rfl, (blk_cell BK538.out 2).trans rfl, (blk_cell BK538.out 3).trans rfl, HS4_, (nC HB.out hw580_0 :), (nC HB.out hw581_0 :), HS7_⟩ (fun hHeld => ?_)
                     clear hK K
                     refine norm_ (a' := ?_) ?_ ?_
                     rotate_left
                     · show Act.put _ (some 151) _ = _
                       simp only [Act.put, List.setIfInBounds_toArray, List.set_cons_zero, List.set_cons_succ, i64_w, i32_w]
                       rfl
                     refine qU 18 (some 152) rfl rfl HT_.out ?_
                     refine qU 23 (some 157) rfl rfl HT_.out ?_
                     refine qU 24 (some 158) rfl rfl HT_.out ?_
                     refine qV 25 (some 159) rfl rfl HT_.out ?_
                     refine qV 26 (some 160) rfl rfl HT_.out ?_
                     refine qV 27 (some 161) rfl rfl HT_.out ?_
                     refine qV 28 (some 162) rfl rfl HT_.out ?_
                     refine qV 29 (some 163) rfl rfl HT_.out ?_
                     refine qV 30 (some 164) rfl rfl HT_.out ?_
                     refine qV 31 (some 165) rfl rfl HT_.out ?_
                     refine qV 32 (some 166) rfl rfl HT_.out ?_
                     refine qV 33 (some 167) rfl rfl HT_.out ?_
                     refine qV 34 (some 168) rfl rfl HT_.out ?_
                     refine qU 35 (some 169) rfl rfl HT_.out ?_
                     refine done_ (done_of HT_.out (by kernel_rfl)) ?_
                     try go_wp2
                     go_roundg k4
                     case measure => have := HK1.out; have := HK2.out; have := HK3.out; have := HK4.out; omega
                     case rel => exact ⟨(x18_4), (wrap64 (x19_4 + 1)), nS, nS, H', ⟨by have := HK1.out; have := HK2.out; have := HK3.out; have := HK4.out; omega⟩, ⟨by (try simp only [hl10_2]); exact nR HO_10.out⟩, ⟨by (try simp only [hl10_2]); exact nR HO_11.out⟩, ⟨by (try simp only [hl10_2]); exact nR HO_17.out⟩, ⟨by (try simp only [hl10_2]); exact nB BK538.out⟩, ⟨nH1 HB.out GE538.out⟩⟩
                 · rw [if_neg c94] at H
                   have c94b0 : decide (x19_4 ≤ ji22) = false := decide_eq_false c94
                   clear c94
                   by_cases c125 : x18_4 = ji22
                   · rw [if_pos c125] at H
                     have c125b0 : (x18_4 == ji22) = true := beq_iff_eq.mpr c125
                     have c125b1 : (x18_4 != ji22) = false := bne_eq_false_iff_eq.mpr c125
                     clear c125
                     have H' := Aside0.mk H
                     clear H; go_wp2
                     go_roundg k4
                     case measure => have := HK1.out; have := HK2.out; have := HK3.out; have := HK4.out; omega
                     case rel => exact ⟨(x17_3), (x18_4), nS, H', ⟨by have := HK1.out; have := HK2.out; have := HK3.out; have := HK4.out; omega⟩, ⟨by (try simp only [hl10_2]); exact nR HO_10.out⟩, ⟨by (try simp only [hl10_2]); exact nR HO_11.out⟩, ⟨by (try simp only [hl10_2]); exact nR HO_17.out⟩, ⟨by (try simp only [hl10_2]); exact nB BK538.out⟩, ⟨nH1 HB.out GE538.out⟩⟩
                   · rw [if_neg c125] at H
                     have c125b0 : (x18_4 == ji22) = false := beq_eq_false_iff_ne.mpr c125
                     have c125b1 : (x18_4 != ji22) = true := bne_iff_ne.mpr c125
                     by_cases c126 : x17_3.length < 17592186044416
                     rotate_left
                     · (rw [if_neg c126] at H; exact absurd H (by simp))
                     rw [if_pos c126] at H
                     have LMc126 := Aside0.mk c126
                     clear c126
                     obtain ⟨y576, hy576⟩ : ∃ y_ : List Int, y_ = (x17_3 ++ [x18_4]) := ⟨_, rfl⟩
                     replace H : (spec_Split.l3 k4 l1 l2 a3 x10_2 x11_2 ji22 y576 x18_4 a0_0 a0_1 l0_2 a0_3) = some (r1, r2) := by first | (rw [hy576]; with_reducible exact H) | (have H2_ := (Option.bind_some _ _).symm.trans H; rw [hy576]; with_reducible exact H2_) | (have H2_ := (Option.bind_some _ _).symm.trans H; with_reducible exact H2_) | with_reducible exact H | (rw [hy576]; exact H) | exact H
                     have Ny576 := Aside0.mk hy576
                     clear hy576
                     have H' := Aside0.mk H
                     clear H
                     go_wp2_with (first | ((with_reducible refine gate_builtin (b := .append) (xs := #[.tmp 174, .tmp 176]) rfl ?_); at_builtin; refine Kd.R_append (Kd.int .i64) (w0 := w) w.heap.size rfl (.tmp 174) (.tmp 176) 29 3 (.int .i64 0) 8 rfl Try.underlying29 info3 rfl (by decide) (by omega) u17 x17_3 x18_4 [.int .i64 x18_4] (fun k_ => some k_ ≠ (.slice (some ⟨go25, 0, none⟩) x10_2.length co25 : Value).ownBlock ∧ some k_ ≠ (u11 : Value).ownBlock) (fun _ => False) rfl rfl ?aP (fun _ hk => hk.elim) ?aF ?aO ?aB ?aS ?aL ?_; (case aP => exact rfl); (case aB => exact (nH1 HB.out GE538.out)); (case aF => exact (fun k_ hk => ⟨Kd.fresh' (Kd.R_lt (nR HO_10.out)) k_ hk, Kd.fresh' (Kd.R_lt (nR HO_11.out)) k_ hk⟩)); (case aO => exact (nR HO_17.out)); (case aS => exact (below_size (nH1 HB.out GE538.out))); (case aL => have := LMc126.out; omega); intro v577 w127 ho hb hg hat; rw [← Ny576.out] at ho; have n0_ := Aside0.mk (Kd.R_after (ok := (fun k_ => some k_ ≠ (u11 : Value).ownBlock)) (nR HO_10.out) hg hat); have n1_ := Aside0.mk (Kd.R_after (ok := (fun k_ => some k_ ≠ (.slice (some ⟨go25, 0, none⟩) x10_2.length co25 : Value).ownBlock)) (nR HO_11.out) hg hat); have n2_ := Aside0.mk (blk_grown (g := gb538) (o := .cells #[.int .i64 a0_0, .int .i64 a0_1, .slice A0_2 l0_2.length c0_2, .int .i64 a0_3] 34 (0, 0)) (nB BK538.out) hg (Kd.R_ne HO_17.out BK538.out (by decide))); have n3_ := Aside0.mk (hb); have n4_ := Aside0.mk (ho); clear HO_10; clear HO_11; clear BK538; clear HB; clear HO_17; have HO_10 := n0_; have HO_11 := n1_; have BK538 := n2_; have HB := n3_; have HO578 := n4_; clear n0_ n1_ n2_ n3_ n4_; clear ho hb hg hat))
                     go_roundg k4
                     case measure => have := HK1.out; have := HK2.out; have := HK3.out; have := HK4.out; omega
                     case rel => exact ⟨(y576), (x18_4), nS, H', ⟨by have := HK1.out; have := HK2.out; have := HK3.out; have := HK4.out; omega⟩, ⟨by (try simp only [hl10_2]); exact nR HO_10.out⟩, ⟨by (try simp only [hl10_2]); exact nR HO_11.out⟩, ⟨by (try simp only [hl10_2]); exact nR HO578.out⟩, ⟨by (try simp only [hl10_2]); exact nB BK538.out⟩, ⟨nH1 HB.out GE538.out⟩⟩
end Go.Proofs.Ytcihaeggjfpacaa.P
