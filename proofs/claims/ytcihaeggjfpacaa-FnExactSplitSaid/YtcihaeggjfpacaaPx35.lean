/- Contracts of the functions of the program, each one with its plain Lean function; written by a program of the session out of the translation. -/
import Derived.Test.YtcihaeggjfpacaaNc
import Derived.Test.YtcihaeggjfpacaaPx0
import Derived.Test.YtcihaeggjfpacaaPx18
import Derived.Test.YtcihaeggjfpacaaPx25
import Derived.Test.YtcihaeggjfpacaaPx33
namespace Go.Proofs.Ytcihaeggjfpacaa.P
open Go.RowKit Go.Proofs.YtcihaeggjfpacaaW.PrintWords Go.Proofs.YtcihaeggjfpacaaW.PrintLast Go.Proofs.YtcihaeggjfpacaaW.PrintMore
attribute [local go_sem] max2_int min2_int max_two min_two max_three min_three max_four min_four   -- for this text's walks alone
set_option linter.unusedVariables false
set_option linter.unusedSimpArgs false
/-! ### impl_Split: function 35 -/
theorem impl_Split.mono_l : ∀ k, (∀ y0 y1 y2 y3 y4 y5 y6 y7 y8 y9 y10 y11, LeO (impl_Split.l0 k y0 y1 y2 y3 y4 y5 y6 y7 y8 y9 y10 y11) (impl_Split.l0 (k + 1) y0 y1 y2 y3 y4 y5 y6 y7 y8 y9 y10 y11)) ∧ (∀ y0 y1 y2 y3 y4 y5 y6 y7 y8 y9 y10 y11 y12, LeO (impl_Split.l1 k y0 y1 y2 y3 y4 y5 y6 y7 y8 y9 y10 y11 y12) (impl_Split.l1 (k + 1) y0 y1 y2 y3 y4 y5 y6 y7 y8 y9 y10 y11 y12)) ∧ (∀ y0 y1 y2 y3 y4, LeO (impl_Split.l2 k y0 y1 y2 y3 y4) (impl_Split.l2 (k + 1) y0 y1 y2 y3 y4))
 | 0 => ⟨fun _ _ _ _ _ _ _ _ _ _ _ _ r h => by simp [impl_Split.l0] at h, fun _ _ _ _ _ _ _ _ _ _ _ _ _ r h => by simp [impl_Split.l1] at h, fun _ _ _ _ _ r h => by simp [impl_Split.l2] at h⟩
 | k + 1 => by
  obtain ⟨ih0, ih1, ih2⟩ := impl_Split.mono_l k
  refine ⟨?_, ?_, ?_⟩
  · intro y0 y1 y2 y3 y4 y5 y6 y7 y8 y9 y10 y11
    unfold impl_Split.l0
    repeat' first
    | (with_reducible exact ih0 _ _ _ _ _ _ _ _ _ _ _ _)
    | (with_reducible exact ih1 _ _ _ _ _ _ _ _ _ _ _ _ _)
    | (with_reducible exact ih2 _ _ _ _ _)
    | (with_reducible exact impl_Through.mono _ _ _ _ _ _ _ _)
    | (with_reducible exact impl_carded.mono _ _ _ _ _ _ _ _)
    | (with_reducible exact impl_fare.mono _ _ _ _ _ _ _)
    | (with_reducible exact LeO.refl _)
    | (with_reducible exact LeO.none _)
    | (with_reducible refine LeO.ite ?_ ?_)
    | (with_reducible refine LeO.bind ?_ (fun _ => ?_))
    | exact ih0 _ _ _ _ _ _ _ _ _ _ _ _
    | exact ih1 _ _ _ _ _ _ _ _ _ _ _ _ _
    | exact ih2 _ _ _ _ _
    | exact impl_Through.mono _ _ _ _ _ _ _ _
    | exact impl_carded.mono _ _ _ _ _ _ _ _
    | exact impl_fare.mono _ _ _ _ _ _ _
    | exact LeO.none _
    | refine LeO.ite ?_ ?_
    | refine LeO.bind ?_ (fun _ => ?_)
  · intro y0 y1 y2 y3 y4 y5 y6 y7 y8 y9 y10 y11 y12
    unfold impl_Split.l1
    repeat' first
    | (with_reducible exact ih0 _ _ _ _ _ _ _ _ _ _ _ _)
    | (with_reducible exact ih1 _ _ _ _ _ _ _ _ _ _ _ _ _)
    | (with_reducible exact ih2 _ _ _ _ _)
    | (with_reducible exact impl_Through.mono _ _ _ _ _ _ _ _)
    | (with_reducible exact impl_carded.mono _ _ _ _ _ _ _ _)
    | (with_reducible exact impl_fare.mono _ _ _ _ _ _ _)
    | (with_reducible exact LeO.refl _)
    | (with_reducible exact LeO.none _)
    | (with_reducible refine LeO.ite ?_ ?_)
    | (with_reducible refine LeO.bind ?_ (fun _ => ?_))
    | exact ih0 _ _ _ _ _ _ _ _ _ _ _ _
    | exact ih1 _ _ _ _ _ _ _ _ _ _ _ _ _
    | exact ih2 _ _ _ _ _
    | exact impl_Through.mono _ _ _ _ _ _ _ _
    | exact impl_carded.mono _ _ _ _ _ _ _ _
    | exact impl_fare.mono _ _ _ _ _ _ _
    | exact LeO.none _
    | refine LeO.ite ?_ ?_
    | refine LeO.bind ?_ (fun _ => ?_)
  · intro y0 y1 y2 y3 y4
    unfold impl_Split.l2
    repeat' first
    | (with_reducible exact ih0 _ _ _ _ _ _ _ _ _ _ _ _)
    | (with_reducible exact ih1 _ _ _ _ _ _ _ _ _ _ _ _ _)
    | (with_reducible exact ih2 _ _ _ _ _)
    | (with_reducible exact impl_Through.mono _ _ _ _ _ _ _ _)
    | (with_reducible exact impl_carded.mono _ _ _ _ _ _ _ _)
    | (with_reducible exact impl_fare.mono _ _ _ _ _ _ _)
    | (with_reducible exact LeO.refl _)
    | (with_reducible exact LeO.none _)
    | (with_reducible refine LeO.ite ?_ ?_)
    | (with_reducible refine LeO.bind ?_ (fun _ => ?_))
    | exact ih0 _ _ _ _ _ _ _ _ _ _ _ _
    | exact ih1 _ _ _ _ _ _ _ _ _ _ _ _ _
    | exact ih2 _ _ _ _ _
    | exact impl_Through.mono _ _ _ _ _ _ _ _
    | exact impl_carded.mono _ _ _ _ _ _ _ _
    | exact impl_fare.mono _ _ _ _ _ _ _
    | exact LeO.none _
    | refine LeO.ite ?_ ?_
    | refine LeO.bind ?_ (fun _ => ?_)
theorem impl_Split.mono : ∀ a0 a1 a2 a3 a4 a5 a6 k, LeO (impl_Split.f k a0 a1 a2 a3 a4 a5 a6) (impl_Split.f (k + 1) a0 a1 a2 a3 a4 a5 a6) := by
 intro a0 a1 a2 a3 a4 a5 a6 k
 obtain ⟨ih0, ih1, ih2⟩ := impl_Split.mono_l k
 unfold impl_Split.f
 repeat' first
  | (with_reducible exact ih0 _ _ _ _ _ _ _ _ _ _ _ _)
  | (with_reducible exact ih1 _ _ _ _ _ _ _ _ _ _ _ _ _)
  | (with_reducible exact ih2 _ _ _ _ _)
  | (with_reducible exact impl_Through.mono _ _ _ _ _ _ _ _)
  | (with_reducible exact impl_carded.mono _ _ _ _ _ _ _ _)
  | (with_reducible exact impl_fare.mono _ _ _ _ _ _ _)
  | (with_reducible exact LeO.refl _)
  | (with_reducible exact LeO.none _)
  | (with_reducible refine LeO.ite ?_ ?_)
  | (with_reducible refine LeO.bind ?_ (fun _ => ?_))
  | exact ih0 _ _ _ _ _ _ _ _ _ _ _ _
  | exact ih1 _ _ _ _ _ _ _ _ _ _ _ _ _
  | exact ih2 _ _ _ _ _
  | exact impl_Through.mono _ _ _ _ _ _ _ _
  | exact impl_carded.mono _ _ _ _ _ _ _ _
  | exact impl_fare.mono _ _ _ _ _ _ _
  | exact LeO.none _
  | refine LeO.ite ?_ ?_
  | refine LeO.bind ?_ (fun _ => ?_)
def impl_Split.T4 : Bool × List (List Nat × List Nat) := (true, [([], []), ([0], [0]), ([1, 1], [1]), ([], []), ([3], [3]), ([4, 4], [4]), ([], []), ([6], [6]), ([7, 7], [7]), ([2, 0, 1, 2], [2]), ([5, 9, 0, 1, 2, 3, 4, 5, 9], [5]), ([8, 10, 0, 1, 2, 3, 4, 5, 6, 7, 8, 9, 10], [8])])
def impl_Split.B4 : List Nat := [0, 1, 3, 0, 8, 24, 0, 64, 192, 7, 575, 2047]
theorem impl_Split.tab4 : rtab .any (opsOf Try.f35 4) = impl_Split.T4 := by kernel_rfl
theorem impl_Split.bits4 : waitsOk impl_Split.T4.2 impl_Split.B4 = true := by kernel_rfl
def impl_Split.T11 : Bool × List (List Nat × List Nat) := (true, [([], []), ([], []), ([], []), ([], []), ([2, 3], [2, 3]), ([4], [4]), ([], []), ([], []), ([6, 7], [6, 7]), ([8], [8]), ([1, 5, 9], [1, 5, 9]), ([], []), ([], []), ([0, 10, 11, 12, 10], [0, 10, 11, 12]), ([], []), ([], []), ([14, 15], [14, 15]), ([16], [16]), ([13, 17], [13, 17]), ([18, 13, 0, 1, 2, 3, 4, 5, 6, 7, 8, 9, 10, 11, 12, 13, 14, 15, 16, 17, 18], [18])])
def impl_Split.B11 : List Nat := [0, 0, 0, 0, 12, 28, 0, 0, 192, 448, 1022, 0, 0, 8191, 0, 0, 49152, 114688, 262143, 524287]
theorem impl_Split.tab11 : rtab .any (opsOf Try.f35 11) = impl_Split.T11 := by kernel_rfl
theorem impl_Split.bits11 : waitsOk impl_Split.T11.2 impl_Split.B11 = true := by kernel_rfl
set_option maxHeartbeats 8000000 in
set_option maxRecDepth 100000 in
theorem impl_Split.calls (k : Nat) (a0_0 : Int) (a0_1 : Int) (A0_2 : Option Addr) (c0_2 : Nat) (l0_2 : List Int) (a0_3 : Int) (A1 : Option Addr) (c1 : Nat) (l1 : List Int) (A2 : Option Addr) (c2 : Nat) (l2 : List (S57)) (a3 : Int) (r1 : Int) (r2 : List Int) (w : World) (hr0_2 : Kd.C (Kd.int .i64) w A0_2 l0_2.length l0_2) (hc0_2 : l0_2.length ≤ c0_2) (hr1 : Kd.C (Kd.int .i64) w A1 l1.length l1) (hc1 : l1.length ≤ c1) (hr2 : Kd.C k57 w A2 l2.length l2) (hc2 : l2.length ≤ c2) (h : impl_Split.f k a0_0 a0_1 l0_2 a0_3 l1 l2 a3 = some (r1, r2)) :
 Calls Try.prog 35 #[.agg #[.int .i64 a0_0, .int .i64 a0_1, .slice A0_2 l0_2.length c0_2, .int .i64 a0_3], .slice A1 l1.length c1, .slice A2 l2.length c2, .int .i64 a3] w fun e w' => ∃ v1_ : Value, e = .returned (.tuple #[.int .i64 r1, v1_]) ∧ Kd.R (Kd.int .i64) 3 w' w.heap.size (fun _ => True) v1_ r2 ∧ Below w.heap.size w w' := by
 have hu34 := Try.underlying34
 have HR0_2 := Aside0.mk hr0_2
 have HC0_2 := Aside0.mk hc0_2
 clear hr0_2 hc0_2
 have HR1 := Aside0.mk hr1
 have HC1 := Aside0.mk hc1
 clear hr1 hc1
 have HR2 := Aside0.mk hr2
 have HC2 := Aside0.mk hc2
 clear hr2 hc2
 have HB := Aside0.mk (Below.refl w.heap.size w)
 have H : ((impl_Through.f k a0_0 a0_1 l0_2 a0_3 l1 l2 a3).bind fun t500 => (if t500 < 0 then (some ((-1), ([] : List Int))) else (if 0 ≤ (wrap64 ((wrap64 ((l1.length : Int) - 1)) + 1)) then (if (wrap64 ((wrap64 ((l1.length : Int) - 1)) + 1) : Int).toNat ≤ 35184372088832 then (impl_Split.l0 k l1 l2 a3 (wrap64 ((l1.length : Int) - 1)) (List.replicate (wrap64 ((wrap64 ((l1.length : Int) - 1)) + 1) : Int).toNat 0) (List.replicate (wrap64 ((wrap64 ((l1.length : Int) - 1)) + 1) : Int).toNat 0) (List.replicate (wrap64 ((wrap64 ((l1.length : Int) - 1)) + 1) : Int).toNat 0) (wrap64 ((wrap64 ((l1.length : Int) - 1)) - 1)) a0_0 a0_1 l0_2 a0_3) else (none)) else (none)))) = some (r1, r2) := h
 clear h
 replace H := Option.bind_eq_some_iff.mp H
 obtain ⟨t500, A50, H⟩ := H
 replace H : (if t500 < 0 then (some ((-1), ([] : List Int))) else (if 0 ≤ (wrap64 ((wrap64 ((l1.length : Int) - 1)) + 1)) then (if (wrap64 ((wrap64 ((l1.length : Int) - 1)) + 1) : Int).toNat ≤ 35184372088832 then (impl_Split.l0 k l1 l2 a3 (wrap64 ((l1.length : Int) - 1)) (List.replicate (wrap64 ((wrap64 ((l1.length : Int) - 1)) + 1) : Int).toNat 0) (List.replicate (wrap64 ((wrap64 ((l1.length : Int) - 1)) + 1) : Int).toNat 0) (List.replicate (wrap64 ((wrap64 ((l1.length : Int) - 1)) + 1) : Int).toNat 0) (wrap64 ((wrap64 ((l1.length : Int) - 1)) - 1)) a0_0 a0_1 l0_2 a0_3) else (none)) else (none))) = some (r1, r2) := H
 have A5 := Aside0.mk A50
 clear A50
 by_cases c6 : t500 < 0
 · rw [if_pos c6] at H
   have c6b0 : decide (t500 < 0) = true := decide_eq_true c6
   clear c6
   simp only [Option.some.injEq, Prod.mk.injEq] at H
   obtain ⟨rfl, rfl⟩ := H
   go_enter Try.func35, Try.ntmps35
   go_wp2_with (first | ((with_reducible refine gate_dst (N := 4) rfl ?_); refine box_event ?hg (N := 4) ?hd (cs := #[.int .i64 a0_0, .int .i64 a0_1, .slice A0_2 l0_2.length c0_2, .int .i64 a0_3]) (t := 34) ?hr ?_; (case hd => rfl); (case hg => rfl); (case hr => first | (go_simp; done) | (go_simp; rfl)); intro gb499 hg w7 hbox hb; have n0_ := Aside0.mk (below_step (nH HB.out) hb); have n1_ := Aside0.mk (hbox); have n2_ := Aside0.mk ((by rw [hg]; exact (below_size (nH HB.out)) : w.heap.size ≤ gb499)); have n3_ := Aside0.mk ((by rw [hg]; exact (below_size (nH HB.out)) : w.heap.size ≤ gb499)); clear HB; have HB := n0_; have BK499 := n1_; have GW499 := n2_; have GE499 := n3_; clear n0_ n1_ n2_ n3_; clear hb hbox hg; have hcz8_0 : w7.cell? ⟨gb499, 0, none⟩ = some (.int .i64 a0_0) := (blk_cell BK499.out 0).trans rfl; have hcz8_1 : w7.cell? ⟨gb499, 1, none⟩ = some (.int .i64 a0_1) := (blk_cell BK499.out 1).trans rfl; have hcz8_2 : w7.cell? ⟨gb499, 2, none⟩ = some (.slice A0_2 l0_2.length c0_2) := (blk_cell BK499.out 2).trans rfl; have hcz8_3 : w7.cell? ⟨gb499, 3, none⟩ = some (.int .i64 a0_3) := (blk_cell BK499.out 3).trans rfl; have hfz8_0 := blk_frozen BK499.out 0; have hfz8_1 := blk_frozen BK499.out 1; have hfz8_2 := blk_frozen BK499.out 2; have hfz8_3 := blk_frozen BK499.out 3) | ((with_reducible refine gate_callee (f := 33) rfl ?_); refine goesL_ (some 24) rfl rfl Try.func33 (by kernel_rfl) rfl #[.agg #[.int .i64 a0_0, .int .i64 a0_1, .slice A0_2 l0_2.length c0_2, .int .i64 a0_3], .slice A1 l1.length c1, .slice A2 l2.length c2, .int .i64 a3] rfl nM ?_; (with_reducible refine (impl_Through.calls k a0_0 a0_1 _ _ l0_2 a0_3 _ _ l1 _ _ l2 a3 t500 _ ?side1 ?side2 ?side3 ?side4 ?side5 ?side6 A5.out).mono ?_); (case side1 => exact nD HR0_2.out HB.out); (case side2 => exact HC0_2.out); (case side3 => exact nD HR1.out HB.out); (case side4 => exact HC1.out); (case side5 => exact nD HR2.out HB.out); (case side6 => exact HC2.out); rintro e w9 ⟨rfl, hb⟩; refine ⟨_, rfl, ?_⟩; have n0_ := Aside0.mk (blk_below (g := gb499) (o := .cells #[.int .i64 a0_0, .int .i64 a0_1, .slice A0_2 l0_2.length c0_2, .int .i64 a0_3] 34 (0, 0)) (nB BK499.out) hb); have n1_ := Aside0.mk (below_step (nH1 HB.out GE499.out) hb); clear BK499; clear HB; have BK499 := n0_; have HB := n1_; clear n0_ n1_; (try clear hb); (try clear hb2); (try clear hk); (try clear hi)))
   go_ret2
   exact ⟨_, by first | rfl | (simp [errW_none, errW_some] <;> rfl) | (simp [*, errW_none, errW_some] <;> first | rfl | (simp [wrap64]; done)), by first | exact Kd.R_nil _ _ _ _ _ | exact Kd.N_nil _ _ _ _ _ | exact Kd.V_nil _ _ _ _ _ | exact Kd.Q_nil _ _ _ _ _ | exact Kd.S_nil _ _ _ _ _, nH1 HB.out GE499.out⟩
 · rw [if_neg c6] at H
   have c6b0 : decide (t500 < 0) = false := decide_eq_false c6
   clear c6
   obtain ⟨ji10, hji10⟩ : ∃ j_ : Int, (wrap64 ((wrap64 ((l1.length : Int) - 1)) + 1)) = j_ := ⟨_, rfl⟩
   replace H : (if 0 ≤ (ji10) then (if (ji10 : Int).toNat ≤ 35184372088832 then (impl_Split.l0 k l1 l2 a3 (wrap64 ((l1.length : Int) - 1)) (List.replicate (ji10 : Int).toNat 0) (List.replicate (ji10 : Int).toNat 0) (List.replicate (ji10 : Int).toNat 0) (wrap64 ((wrap64 ((l1.length : Int) - 1)) - 1)) a0_0 a0_1 l0_2 a0_3) else (none)) else (none)) = some (r1, r2) := by first | (rw [hji10] at H; exact H) | (simp only [hji10] at H ⊢; exact H)
   (try rw [hji10] at A5)
   have hji10w : (IntKind.i64.wrap ((wrap64 ((l1.length : Int) - 1)) + 1)) = ji10 := (i64_w _).trans hji10
   by_cases c11 : 0 ≤ (ji10)
   rotate_left
   · (rw [if_neg c11] at H; exact absurd H (by simp))
   rw [if_pos c11] at H
   have c11b0 := eq_true c11
   have c11b1 : decide (0 ≤ (ji10)) = true := decide_eq_true c11
   clear c11
   by_cases c12 : (ji10 : Int).toNat ≤ 35184372088832
   rotate_left
   · (rw [if_neg c12] at H; exact absurd H (by simp))
   rw [if_pos c12] at H
   have c12b0 := eq_true c12
   have c12b1 : decide ((ji10 : Int).toNat ≤ 35184372088832) = true := decide_eq_true c12
   clear c12
   obtain ⟨y501, hy501⟩ : ∃ y_ : List Int, y_ = (List.replicate (ji10 : Int).toNat 0) := ⟨_, rfl⟩
   replace H : (impl_Split.l0 k l1 l2 a3 (wrap64 ((l1.length : Int) - 1)) y501 (List.replicate (ji10 : Int).toNat 0) (List.replicate (ji10 : Int).toNat 0) (wrap64 ((wrap64 ((l1.length : Int) - 1)) - 1)) a0_0 a0_1 l0_2 a0_3) = some (r1, r2) := by first | (rw [hy501]; with_reducible exact H) | (have H2_ := (Option.bind_some _ _).symm.trans H; rw [hy501]; with_reducible exact H2_) | (have H2_ := (Option.bind_some _ _).symm.trans H; with_reducible exact H2_) | with_reducible exact H | (rw [hy501]; exact H) | exact H
   have Ny501 := Aside0.mk hy501
   clear hy501
   obtain ⟨y504, hy504⟩ : ∃ y_ : List Int, y_ = (List.replicate (ji10 : Int).toNat 0) := ⟨_, rfl⟩
   replace H : (impl_Split.l0 k l1 l2 a3 (wrap64 ((l1.length : Int) - 1)) y501 y504 (List.replicate (ji10 : Int).toNat 0) (wrap64 ((wrap64 ((l1.length : Int) - 1)) - 1)) a0_0 a0_1 l0_2 a0_3) = some (r1, r2) := by first | (rw [hy504]; with_reducible exact H) | (have H2_ := (Option.bind_some _ _).symm.trans H; rw [hy504]; with_reducible exact H2_) | (have H2_ := (Option.bind_some _ _).symm.trans H; with_reducible exact H2_) | with_reducible exact H | (rw [hy504]; exact H) | exact H
   have Ny504 := Aside0.mk hy504
   clear hy504
   obtain ⟨y507, hy507⟩ : ∃ y_ : List Int, y_ = (List.replicate (ji10 : Int).toNat 0) := ⟨_, rfl⟩
   replace H : (impl_Split.l0 k l1 l2 a3 (wrap64 ((l1.length : Int) - 1)) y501 y504 y507 (wrap64 ((wrap64 ((l1.length : Int) - 1)) - 1)) a0_0 a0_1 l0_2 a0_3) = some (r1, r2) := by first | (rw [hy507]; with_reducible exact H) | (have H2_ := (Option.bind_some _ _).symm.trans H; rw [hy507]; with_reducible exact H2_) | (have H2_ := (Option.bind_some _ _).symm.trans H; with_reducible exact H2_) | with_reducible exact H | (rw [hy507]; exact H) | exact H
   have Ny507 := Aside0.mk hy507
   clear hy507
   have H' := Aside0.mk H
   clear H
   go_enter Try.func35, Try.ntmps35
   try go_wp2_with (first | ((with_reducible refine gate_dst (N := 4) rfl ?_); refine box_event ?hg (N := 4) ?hd (cs := #[.int .i64 a0_0, .int .i64 a0_1, .slice A0_2 l0_2.length c0_2, .int .i64 a0_3]) (t := 34) ?hr ?_; (case hd => rfl); (case hg => rfl); (case hr => first | (go_simp; done) | (go_simp; rfl)); intro gb499 hg w13 hbox hb; have n0_ := Aside0.mk (below_step (nH HB.out) hb); have n1_ := Aside0.mk (hbox); have n2_ := Aside0.mk ((by rw [hg]; exact (below_size (nH HB.out)) : w.heap.size ≤ gb499)); have n3_ := Aside0.mk ((by rw [hg]; exact (below_size (nH HB.out)) : w.heap.size ≤ gb499)); clear HB; have HB := n0_; have BK499 := n1_; have GW499 := n2_; have GE499 := n3_; clear n0_ n1_ n2_ n3_; clear hb hbox hg; have hcz14_0 : w13.cell? ⟨gb499, 0, none⟩ = some (.int .i64 a0_0) := (blk_cell BK499.out 0).trans rfl; have hcz14_1 : w13.cell? ⟨gb499, 1, none⟩ = some (.int .i64 a0_1) := (blk_cell BK499.out 1).trans rfl; have hcz14_2 : w13.cell? ⟨gb499, 2, none⟩ = some (.slice A0_2 l0_2.length c0_2) := (blk_cell BK499.out 2).trans rfl; have hcz14_3 : w13.cell? ⟨gb499, 3, none⟩ = some (.int .i64 a0_3) := (blk_cell BK499.out 3).trans rfl; have hfz14_0 := blk_frozen BK499.out 0; have hfz14_1 := blk_frozen BK499.out 1; have hfz14_2 := blk_frozen BK499.out 2; have hfz14_3 := blk_frozen BK499.out 3) | ((with_reducible refine gate_callee (f := 33) rfl ?_); refine goesL_ (some 24) rfl rfl Try.func33 (by kernel_rfl) rfl #[.agg #[.int .i64 a0_0, .int .i64 a0_1, .slice A0_2 l0_2.length c0_2, .int .i64 a0_3], .slice A1 l1.length c1, .slice A2 l2.length c2, .int .i64 a3] rfl nM ?_; (with_reducible refine (impl_Through.calls k a0_0 a0_1 _ _ l0_2 a0_3 _ _ l1 _ _ l2 a3 t500 _ ?side1 ?side2 ?side3 ?side4 ?side5 ?side6 A5.out).mono ?_); (case side1 => exact nD HR0_2.out HB.out); (case side2 => exact HC0_2.out); (case side3 => exact nD HR1.out HB.out); (case side4 => exact HC1.out); (case side5 => exact nD HR2.out HB.out); (case side6 => exact HC2.out); rintro e w15 ⟨rfl, hb⟩; refine ⟨_, rfl, ?_⟩; have n0_ := Aside0.mk (blk_below (g := gb499) (o := .cells #[.int .i64 a0_0, .int .i64 a0_1, .slice A0_2 l0_2.length c0_2, .int .i64 a0_3] 34 (0, 0)) (nB BK499.out) hb); have n1_ := Aside0.mk (below_step (nH1 HB.out GE499.out) hb); clear BK499; clear HB; have BK499 := n0_; have HB := n1_; clear n0_ n1_; (try clear hb); (try clear hb2); (try clear hk); (try clear hi)))
   have n0_ := Aside0.mk (blk_drew BK499.out)
   have n1_ := Aside0.mk (below_drew1 HB.out)
   clear BK499; clear HB; have BK499 := n0_; have HB := n1_; clear n0_ n1_
   refine start_ (n := 12) (S := fun w' => True) (ds := []) #[F,F,F,F,F,F,F,F,F,F,F,F] (by kernel_rfl) rfl rfl trivial (fun hHeld => ?_); refine with_tabW impl_Split.tab4 impl_Split.bits4 (fun HT_ HW_ => ?_)
   generalize w15.drew = w16 at BK499 HB hHeld ⊢
   refine qU 0 (some 29) rfl rfl HT_.out ?_
   refine qU 1 (some 30) rfl rfl HT_.out ?_
   refine qU 3 (some 32) rfl rfl HT_.out ?_
   refine qU 4 (some 33) rfl rfl HT_.out ?_
   refine qU 6 (some 35) rfl rfl HT_.out ?_
   refine qU 7 (some 36) rfl rfl HT_.out ?_
   refine join_ (σ := Value × Value × Value) 1 #[T,T,T,T,T,T,T,T,T,T,T,F] (fun s_ => [(31, s_.1), (34, s_.2.1), (37, s_.2.2), (11, s_.1), (12, s_.2.1)]) (fun s_ w' => (Kd.R (Kd.int .i64) 3 w' w.heap.size (fun k_ => some k_ ≠ (s_.2.1 : Value).ownBlock ∧ some k_ ≠ (s_.2.2 : Value).ownBlock) s_.1 y501) ∧ (Kd.R (Kd.int .i64) 3 w' w.heap.size (fun k_ => some k_ ≠ (s_.1 : Value).ownBlock ∧ some k_ ≠ (s_.2.2 : Value).ownBlock) s_.2.1 y504) ∧ (Kd.R (Kd.int .i64) 3 w' w.heap.size (fun k_ => some k_ ≠ (s_.1 : Value).ownBlock ∧ some k_ ≠ (s_.2.1 : Value).ownBlock) s_.2.2 y507) ∧ (w'.heap[gb499]? = some (.cells #[.int .i64 a0_0, .int .i64 a0_1, .slice A0_2 l0_2.length c0_2, .int .i64 a0_3] 34 (0, 0))) ∧ (Below w.heap.size w w')) ?_ ?_
   rotate_left
   · intro hJ2_5_8
     refine join_ (σ := Value × Value) 2 #[T,T,T,T,T,T,T,T,F,T,T,F] (fun s_ => [(31, s_.1), (34, s_.2), (11, s_.1), (12, s_.2)]) (fun s_ w' => (Kd.R (Kd.int .i64) 3 w' w.heap.size (fun k_ => some k_ ≠ (s_.2 : Value).ownBlock) s_.1 y501) ∧ (Kd.R (Kd.int .i64) 3 w' w.heap.size (fun k_ => some k_ ≠ (s_.1 : Value).ownBlock) s_.2 y504) ∧ (w'.heap[gb499]? = some (.cells #[.int .i64 a0_0, .int .i64 a0_1, .slice A0_2 l0_2.length c0_2, .int .i64 a0_3] 34 (0, 0))) ∧ (Below w.heap.size w w')) ?_ ?_
     rotate_left
     · intro hJ2_5
       refine join_ (σ := Value × Value) 3 #[T,T,T,T,T,F,T,T,T,T,F,F] (fun s_ => [(31, s_.1), (37, s_.2), (11, s_.1)]) (fun s_ w' => (Kd.R (Kd.int .i64) 3 w' w.heap.size (fun k_ => some k_ ≠ (s_.2 : Value).ownBlock) s_.1 y501) ∧ (Kd.R (Kd.int .i64) 3 w' w.heap.size (fun k_ => some k_ ≠ (s_.1 : Value).ownBlock) s_.2 y507) ∧ (w'.heap[gb499]? = some (.cells #[.int .i64 a0_0, .int .i64 a0_1, .slice A0_2 l0_2.length c0_2, .int .i64 a0_3] 34 (0, 0))) ∧ (Below w.heap.size w w')) ?_ ?_
       rotate_left
       · intro hJ2_8
         refine join_ (σ := Value × Value) 4 #[T,T,F,T,T,T,T,T,T,F,F,F] (fun s_ => [(34, s_.1), (37, s_.2)]) (fun s_ w' => (Kd.R (Kd.int .i64) 3 w' w.heap.size (fun k_ => some k_ ≠ (s_.2 : Value).ownBlock) s_.1 y504) ∧ (Kd.R (Kd.int .i64) 3 w' w.heap.size (fun k_ => some k_ ≠ (s_.1 : Value).ownBlock) s_.2 y507) ∧ (w'.heap[gb499]? = some (.cells #[.int .i64 a0_0, .int .i64 a0_1, .slice A0_2 l0_2.length c0_2, .int .i64 a0_3] 34 (0, 0))) ∧ (Below w.heap.size w w')) ?_ ?_
         rotate_left
         · intro hJ5_8
           refine join_ (σ := Value) 4 #[T,T,T,T,T,F,T,T,F,T,F,F] (fun s_ => [(31, s_), (11, s_)]) (fun s_ w' => (Kd.R (Kd.int .i64) 3 w' w.heap.size (fun _ => True) s_ y501) ∧ (w'.heap[gb499]? = some (.cells #[.int .i64 a0_0, .int .i64 a0_1, .slice A0_2 l0_2.length c0_2, .int .i64 a0_3] 34 (0, 0))) ∧ (Below w.heap.size w w')) ?_ ?_
           rotate_left
           · intro hJ2
             refine join_ (σ := Value) 5 #[T,T,F,T,T,T,T,T,F,F,F,F] (fun s_ => [(34, s_)]) (fun s_ w' => (Kd.R (Kd.int .i64) 3 w' w.heap.size (fun _ => True) s_ y504) ∧ (w'.heap[gb499]? = some (.cells #[.int .i64 a0_0, .int .i64 a0_1, .slice A0_2 l0_2.length c0_2, .int .i64 a0_3] 34 (0, 0))) ∧ (Below w.heap.size w w')) ?_ ?_
             rotate_left
             · intro hJ5
               refine join_ (σ := Value) 5 #[T,T,F,T,T,F,T,T,T,F,F,F] (fun s_ => [(37, s_)]) (fun s_ w' => (Kd.R (Kd.int .i64) 3 w' w.heap.size (fun _ => True) s_ y507) ∧ (w'.heap[gb499]? = some (.cells #[.int .i64 a0_0, .int .i64 a0_1, .slice A0_2 l0_2.length c0_2, .int .i64 a0_3] 34 (0, 0))) ∧ (Below w.heap.size w w')) ?_ ?_
               rotate_left
               · intro hJ8
                 refine three_ (i := 2) (j := 5) (k := 8) (Ni := some 31) (Nj := some 34) (Nk := some 37) #[T,T,T,T,T,F,T,T,F,F,F,F] #[T,T,F,T,T,T,T,T,F,F,F,F] #[T,T,F,T,T,F,T,T,T,F,F,F] rfl rfl rfl rfl rfl rfl (three_of HT_.out (by kernel_rfl)) (by decide) (by decide) (by decide) (fun K hK => ?_) (fun K hK => ?_) (fun K hK => ?_)
                 · skip
                   refine Kd.R_make_step (Kd.int .i64) _ 3 (by rfl) (N := 31) rfl 29 _ _ rfl ji10 rfl rfl Try.underlying29 (.int .i64 0) 8 info3 rfl (by decide) (by omega) 0 (ok := fun _ => True) (okp := fun _ => True) rfl (fun _ hk => hk) trivial (of_decide_eq_true nQ) (Nat.le_trans (Nat.mul_le_mul_right _ (of_decide_eq_true nQ : ji10.toNat ≤ 35184372088832)) (by omega)) (Below.refl _ _) (Nat.le_refl _) ?_
                   intro v502 w17 ho18 hb hg_ hnew_
                   clear hg_ hnew_
                   (first | rw [← Ny501.out] at ho18 | (simp only [Int.reduceToNat] at ho18; rw [← Ny501.out] at ho18))
                   have n0_ := Aside0.mk (Kd.R_lower ho18 (below_size (nH1 HB.out GE499.out)))
                   have n1_ := Aside0.mk (blk_below (g := gb499) (o := .cells #[.int .i64 a0_0, .int .i64 a0_1, .slice A0_2 l0_2.length c0_2, .int .i64 a0_3] 34 (0, 0)) (nB BK499.out) hb)
                   have n2_ := Aside0.mk (below_step (nH1 HB.out GE499.out) hb)
                   clear BK499; clear HB; have HO503 := n0_; have BK499 := n1_; have HB := n2_; clear n0_ n1_ n2_; clear hb ho18
                   refine hK.out _ _ trivial (fun hHeld => ?_)
                   clear hK K
                   refine norm_ (a' := ?_) ?_ ?_
                   rotate_left
                   · show Act.put _ (some 31) _ = _
                     simp only [Act.put, List.setIfInBounds_toArray, List.set_cons_zero, List.set_cons_succ, i64_w, i32_w]
                     rfl
                   refine qU 9 (some 11) rfl rfl HT_.out ?_
                   exact norm_ (by first | (simp only [putAll, Act.put, List.setIfInBounds_toArray, List.set_cons_zero, List.set_cons_succ]; done) | (simp only [putAll, Act.put, List.setIfInBounds_toArray, List.set_cons_zero, List.set_cons_succ]; rfl)) (hJ2 (v502) _ ⟨(nR HO503.out), (nB BK499.out), (nH1 HB.out GE499.out)⟩)
                 · skip
                   refine Kd.R_make_step (Kd.int .i64) _ 3 (by rfl) (N := 34) rfl 29 _ _ rfl ji10 rfl rfl Try.underlying29 (.int .i64 0) 8 info3 rfl (by decide) (by omega) 0 (ok := fun _ => True) (okp := fun _ => True) rfl (fun _ hk => hk) trivial (of_decide_eq_true nQ) (Nat.le_trans (Nat.mul_le_mul_right _ (of_decide_eq_true nQ : ji10.toNat ≤ 35184372088832)) (by omega)) (Below.refl _ _) (Nat.le_refl _) ?_
                   intro v505 w17 ho18 hb hg_ hnew_
                   clear hg_ hnew_
                   (first | rw [← Ny504.out] at ho18 | (simp only [Int.reduceToNat] at ho18; rw [← Ny504.out] at ho18))
                   have n0_ := Aside0.mk (Kd.R_lower ho18 (below_size (nH1 HB.out GE499.out)))
                   have n1_ := Aside0.mk (blk_below (g := gb499) (o := .cells #[.int .i64 a0_0, .int .i64 a0_1, .slice A0_2 l0_2.length c0_2, .int .i64 a0_3] 34 (0, 0)) (nB BK499.out) hb)
                   have n2_ := Aside0.mk (below_step (nH1 HB.out GE499.out) hb)
                   clear BK499; clear HB; have HO506 := n0_; have BK499 := n1_; have HB := n2_; clear n0_ n1_ n2_; clear hb ho18
                   refine hK.out _ _ trivial (fun hHeld => ?_)
                   clear hK K
                   refine norm_ (a' := ?_) ?_ ?_
                   rotate_left
                   · show Act.put _ (some 34) _ = _
                     simp only [Act.put, List.setIfInBounds_toArray, List.set_cons_zero, List.set_cons_succ, i64_w, i32_w]
                     rfl
                   exact norm_ (by first | (simp only [putAll, Act.put, List.setIfInBounds_toArray, List.set_cons_zero, List.set_cons_succ]; done) | (simp only [putAll, Act.put, List.setIfInBounds_toArray, List.set_cons_zero, List.set_cons_succ]; rfl)) (hJ5 (v505) _ ⟨(nR HO506.out), (nB BK499.out), (nH1 HB.out GE499.out)⟩)
                 · skip
                   refine Kd.R_make_step (Kd.int .i64) _ 3 (by rfl) (N := 37) rfl 29 _ _ rfl ji10 rfl rfl Try.underlying29 (.int .i64 0) 8 info3 rfl (by decide) (by omega) 0 (ok := fun _ => True) (okp := fun _ => True) rfl (fun _ hk => hk) trivial (of_decide_eq_true nQ) (Nat.le_trans (Nat.mul_le_mul_right _ (of_decide_eq_true nQ : ji10.toNat ≤ 35184372088832)) (by omega)) (Below.refl _ _) (Nat.le_refl _) ?_
                   intro v508 w17 ho18 hb hg_ hnew_
                   clear hg_ hnew_
                   (first | rw [← Ny507.out] at ho18 | (simp only [Int.reduceToNat] at ho18; rw [← Ny507.out] at ho18))
                   have n0_ := Aside0.mk (Kd.R_lower ho18 (below_size (nH1 HB.out GE499.out)))
                   have n1_ := Aside0.mk (blk_below (g := gb499) (o := .cells #[.int .i64 a0_0, .int .i64 a0_1, .slice A0_2 l0_2.length c0_2, .int .i64 a0_3] 34 (0, 0)) (nB BK499.out) hb)
                   have n2_ := Aside0.mk (below_step (nH1 HB.out GE499.out) hb)
                   clear BK499; clear HB; have HO509 := n0_; have BK499 := n1_; have HB := n2_; clear n0_ n1_ n2_; clear hb ho18
                   refine hK.out _ _ trivial (fun hHeld => ?_)
                   clear hK K
                   refine norm_ (a' := ?_) ?_ ?_
                   rotate_left
                   · show Act.put _ (some 37) _ = _
                     simp only [Act.put, List.setIfInBounds_toArray, List.set_cons_zero, List.set_cons_succ, i64_w, i32_w]
                     rfl
                   exact norm_ (by first | (simp only [putAll, Act.put, List.setIfInBounds_toArray, List.set_cons_zero, List.set_cons_succ]; done) | (simp only [putAll, Act.put, List.setIfInBounds_toArray, List.set_cons_zero, List.set_cons_succ]; rfl)) (hJ8 (v508) _ ⟨(nR HO509.out), (nB BK499.out), (nH1 HB.out GE499.out)⟩)
               · skip
                 rintro v508 w19 ⟨h0_, h1_, h2_⟩
                 have n0_ : Aside0 (Kd.R (Kd.int .i64) 3 w19 w.heap.size (fun _ => True) v508 y507) := ⟨h0_⟩
                 have n1_ : Aside0 (w19.heap[gb499]? = some (.cells #[.int .i64 a0_0, .int .i64 a0_1, .slice A0_2 l0_2.length c0_2, .int .i64 a0_3] 34 (0, 0))) := ⟨h1_⟩
                 have n2_ : Aside0 (Below w.heap.size w w19) := ⟨h2_⟩
                 clear BK499; clear HB; clear h0_ h1_ h2_; have HO509 := n0_; have BK499 := n1_; have HB := n2_; clear n0_ n1_ n2_; have hHeld := trivial
                 refine norm_ (a' := ?_) ?_ ?_
                 rotate_left
                 · simp only [putAll, Act.put, List.setIfInBounds_toArray, List.set_cons_zero, List.set_cons_succ]
                   rfl
                 refine two_ (i := 2) (j := 5) (Ni := some 31) (Nj := some 34) #[T,T,T,T,T,F,T,T,T,F,F,F] #[T,T,F,T,T,T,T,T,T,F,F,F] rfl rfl rfl rfl (two_of HT_.out (by kernel_rfl)) (by decide) (by decide) (fun K hK => ?_) (fun K hK => ?_)
                 · skip
                   refine Kd.R_make_step (Kd.int .i64) _ 3 (by rfl) (N := 31) rfl 29 _ _ rfl ji10 rfl rfl Try.underlying29 (.int .i64 0) 8 info3 rfl (by decide) (by omega) 0 (ok := fun _ => True) (okp := fun _ => True) rfl (fun _ hk => hk) trivial (of_decide_eq_true nQ) (Nat.le_trans (Nat.mul_le_mul_right _ (of_decide_eq_true nQ : ji10.toNat ≤ 35184372088832)) (by omega)) (Below.refl _ _) (Nat.le_refl _) ?_
                   intro v502 w20 ho21 hb hg_ hnew_
                   clear hg_ hnew_
                   (first | rw [← Ny501.out] at ho21 | (simp only [Int.reduceToNat] at ho21; rw [← Ny501.out] at ho21))
                   have n0_ := Aside0.mk (Kd.R_elder' (nR HO509.out) (Kd.R_base ho21) hb)
                   have n1_ := Aside0.mk (Kd.R_lower (Kd.R_new' ho21 (Kd.R_lt (nR HO509.out))) (below_size (nH1 HB.out GE499.out)))
                   have n2_ := Aside0.mk (blk_below (g := gb499) (o := .cells #[.int .i64 a0_0, .int .i64 a0_1, .slice A0_2 l0_2.length c0_2, .int .i64 a0_3] 34 (0, 0)) (nB BK499.out) hb)
                   have n3_ := Aside0.mk (below_step (nH1 HB.out GE499.out) hb)
                   clear HO509; clear BK499; clear HB; have HO509 := n0_; have HO503 := n1_; have BK499 := n2_; have HB := n3_; clear n0_ n1_ n2_ n3_; clear hb ho21
                   refine hK.out _ _ trivial (fun hHeld => ?_)
                   clear hK K
                   refine norm_ (a' := ?_) ?_ ?_
                   rotate_left
                   · show Act.put _ (some 31) _ = _
                     simp only [Act.put, List.setIfInBounds_toArray, List.set_cons_zero, List.set_cons_succ, i64_w, i32_w]
                     rfl
                   refine qU 9 (some 11) rfl rfl HT_.out ?_
                   exact norm_ (by first | (simp only [putAll, Act.put, List.setIfInBounds_toArray, List.set_cons_zero, List.set_cons_succ]; done) | (simp only [putAll, Act.put, List.setIfInBounds_toArray, List.set_cons_zero, List.set_cons_succ]; rfl)) (hJ2_8 (v502, v508) _ ⟨(by (with_reducible repeat (first | apply Kd.R_alloc | apply Kd.R_drewN | apply Kd.R_drew)); exact Kd.R_mono HO503.out (fun _ hk => hk.2)), (by (with_reducible repeat (first | apply Kd.R_alloc | apply Kd.R_drewN | apply Kd.R_drew)); exact Kd.R_mono HO509.out (fun _ hk => hk.2)), (nB BK499.out), (nH1 HB.out GE499.out)⟩)
                 · skip
                   refine Kd.R_make_step (Kd.int .i64) _ 3 (by rfl) (N := 34) rfl 29 _ _ rfl ji10 rfl rfl Try.underlying29 (.int .i64 0) 8 info3 rfl (by decide) (by omega) 0 (ok := fun _ => True) (okp := fun _ => True) rfl (fun _ hk => hk) trivial (of_decide_eq_true nQ) (Nat.le_trans (Nat.mul_le_mul_right _ (of_decide_eq_true nQ : ji10.toNat ≤ 35184372088832)) (by omega)) (Below.refl _ _) (Nat.le_refl _) ?_
                   intro v505 w20 ho21 hb hg_ hnew_
                   clear hg_ hnew_
                   (first | rw [← Ny504.out] at ho21 | (simp only [Int.reduceToNat] at ho21; rw [← Ny504.out] at ho21))
                   have n0_ := Aside0.mk (Kd.R_elder' (nR HO509.out) (Kd.R_base ho21) hb)
                   have n1_ := Aside0.mk (Kd.R_lower (Kd.R_new' ho21 (Kd.R_lt (nR HO509.out))) (below_size (nH1 HB.out GE499.out)))
                   have n2_ := Aside0.mk (blk_below (g := gb499) (o := .cells #[.int .i64 a0_0, .int .i64 a0_1, .slice A0_2 l0_2.length c0_2, .int .i64 a0_3] 34 (0, 0)) (nB BK499.out) hb)
                   have n3_ := Aside0.mk (below_step (nH1 HB.out GE499.out) hb)
                   clear HO509; clear BK499; clear HB; have HO509 := n0_; have HO506 := n1_; have BK499 := n2_; have HB := n3_; clear n0_ n1_ n2_ n3_; clear hb ho21
                   refine hK.out _ _ trivial (fun hHeld => ?_)
                   clear hK K
                   refine norm_ (a' := ?_) ?_ ?_
                   rotate_left
                   · show Act.put _ (some 34) _ = _
                     simp only [Act.put, List.setIfInBounds_toArray, List.set_cons_zero, List.set_cons_succ, i64_w, i32_w]
                     rfl
                   exact norm_ (by first | (simp only [putAll, Act.put, List.setIfInBounds_toArray, List.set_cons_zero, List.set_cons_succ]; done) | (simp only [putAll, Act.put, List.setIfInBounds_toArray, List.set_cons_zero, List.set_cons_succ]; rfl)) (hJ5_8 (v505, v508) _ ⟨(by (with_reducible repeat (first | apply Kd.R_alloc | apply Kd.R_drewN | apply Kd.R_drew)); exact Kd.R_mono HO506.out (fun _ hk => hk.2)), (by (with_reducible repeat (first | apply Kd.R_alloc | apply Kd.R_drewN | apply Kd.R_drew)); exact Kd.R_mono HO509.out (fun _ hk => hk.2)), (nB BK499.out), (nH1 HB.out GE499.out)⟩)
             · skip
               rintro v505 w19 ⟨h0_, h1_, h2_⟩
               have n0_ : Aside0 (Kd.R (Kd.int .i64) 3 w19 w.heap.size (fun _ => True) v505 y504) := ⟨h0_⟩
               have n1_ : Aside0 (w19.heap[gb499]? = some (.cells #[.int .i64 a0_0, .int .i64 a0_1, .slice A0_2 l0_2.length c0_2, .int .i64 a0_3] 34 (0, 0))) := ⟨h1_⟩
               have n2_ : Aside0 (Below w.heap.size w w19) := ⟨h2_⟩
               clear BK499; clear HB; clear h0_ h1_ h2_; have HO506 := n0_; have BK499 := n1_; have HB := n2_; clear n0_ n1_ n2_; have hHeld := trivial
               refine norm_ (a' := ?_) ?_ ?_
               rotate_left
               · simp only [putAll, Act.put, List.setIfInBounds_toArray, List.set_cons_zero, List.set_cons_succ]
                 rfl
               refine two_ (i := 2) (j := 8) (Ni := some 31) (Nj := some 37) #[T,T,T,T,T,T,T,T,F,F,F,F] #[T,T,F,T,T,T,T,T,T,F,F,F] rfl rfl rfl rfl (two_of HT_.out (by kernel_rfl)) (by decide) (by decide) (fun K hK => ?_) (fun K hK => ?_)
               · skip
                 refine Kd.R_make_step (Kd.int .i64) _ 3 (by rfl) (N := 31) rfl 29 _ _ rfl ji10 rfl rfl Try.underlying29 (.int .i64 0) 8 info3 rfl (by decide) (by omega) 0 (ok := fun _ => True) (okp := fun _ => True) rfl (fun _ hk => hk) trivial (of_decide_eq_true nQ) (Nat.le_trans (Nat.mul_le_mul_right _ (of_decide_eq_true nQ : ji10.toNat ≤ 35184372088832)) (by omega)) (Below.refl _ _) (Nat.le_refl _) ?_
                 intro v502 w20 ho21 hb hg_ hnew_
                 clear hg_ hnew_
                 (first | rw [← Ny501.out] at ho21 | (simp only [Int.reduceToNat] at ho21; rw [← Ny501.out] at ho21))
                 have n0_ := Aside0.mk (Kd.R_elder' (nR HO506.out) (Kd.R_base ho21) hb)
                 have n1_ := Aside0.mk (Kd.R_lower (Kd.R_new' ho21 (Kd.R_lt (nR HO506.out))) (below_size (nH1 HB.out GE499.out)))
                 have n2_ := Aside0.mk (blk_below (g := gb499) (o := .cells #[.int .i64 a0_0, .int .i64 a0_1, .slice A0_2 l0_2.length c0_2, .int .i64 a0_3] 34 (0, 0)) (nB BK499.out) hb)
                 have n3_ := Aside0.mk (below_step (nH1 HB.out GE499.out) hb)
                 clear HO506; clear BK499; clear HB; have HO506 := n0_; have HO503 := n1_; have BK499 := n2_; have HB := n3_; clear n0_ n1_ n2_ n3_; clear hb ho21
                 refine hK.out _ _ trivial (fun hHeld => ?_)
                 clear hK K
                 refine norm_ (a' := ?_) ?_ ?_
                 rotate_left
                 · show Act.put _ (some 31) _ = _
                   simp only [Act.put, List.setIfInBounds_toArray, List.set_cons_zero, List.set_cons_succ, i64_w, i32_w]
                   rfl
                 refine qU 9 (some 11) rfl rfl HT_.out ?_
                 refine qU 10 (some 12) rfl rfl HT_.out ?_
                 exact norm_ (by first | (simp only [putAll, Act.put, List.setIfInBounds_toArray, List.set_cons_zero, List.set_cons_succ]; done) | (simp only [putAll, Act.put, List.setIfInBounds_toArray, List.set_cons_zero, List.set_cons_succ]; rfl)) (hJ2_5 (v502, v505) _ ⟨(by (with_reducible repeat (first | apply Kd.R_alloc | apply Kd.R_drewN | apply Kd.R_drew)); exact Kd.R_mono HO503.out (fun _ hk => hk.2)), (by (with_reducible repeat (first | apply Kd.R_alloc | apply Kd.R_drewN | apply Kd.R_drew)); exact Kd.R_mono HO506.out (fun _ hk => hk.2)), (nB BK499.out), (nH1 HB.out GE499.out)⟩)
               · skip
                 refine Kd.R_make_step (Kd.int .i64) _ 3 (by rfl) (N := 37) rfl 29 _ _ rfl ji10 rfl rfl Try.underlying29 (.int .i64 0) 8 info3 rfl (by decide) (by omega) 0 (ok := fun _ => True) (okp := fun _ => True) rfl (fun _ hk => hk) trivial (of_decide_eq_true nQ) (Nat.le_trans (Nat.mul_le_mul_right _ (of_decide_eq_true nQ : ji10.toNat ≤ 35184372088832)) (by omega)) (Below.refl _ _) (Nat.le_refl _) ?_
                 intro v508 w20 ho21 hb hg_ hnew_
                 clear hg_ hnew_
                 (first | rw [← Ny507.out] at ho21 | (simp only [Int.reduceToNat] at ho21; rw [← Ny507.out] at ho21))
                 have n0_ := Aside0.mk (Kd.R_elder' (nR HO506.out) (Kd.R_base ho21) hb)
                 have n1_ := Aside0.mk (Kd.R_lower (Kd.R_new' ho21 (Kd.R_lt (nR HO506.out))) (below_size (nH1 HB.out GE499.out)))
                 have n2_ := Aside0.mk (blk_below (g := gb499) (o := .cells #[.int .i64 a0_0, .int .i64 a0_1, .slice A0_2 l0_2.length c0_2, .int .i64 a0_3] 34 (0, 0)) (nB BK499.out) hb)
                 have n3_ := Aside0.mk (below_step (nH1 HB.out GE499.out) hb)
                 clear HO506; clear BK499; clear HB; have HO506 := n0_; have HO509 := n1_; have BK499 := n2_; have HB := n3_; clear n0_ n1_ n2_ n3_; clear hb ho21
                 refine hK.out _ _ trivial (fun hHeld => ?_)
                 clear hK K
                 refine norm_ (a' := ?_) ?_ ?_
                 rotate_left
                 · show Act.put _ (some 37) _ = _
                   simp only [Act.put, List.setIfInBounds_toArray, List.set_cons_zero, List.set_cons_succ, i64_w, i32_w]
                   rfl
                 exact norm_ (by first | (simp only [putAll, Act.put, List.setIfInBounds_toArray, List.set_cons_zero, List.set_cons_succ]; done) | (simp only [putAll, Act.put, List.setIfInBounds_toArray, List.set_cons_zero, List.set_cons_succ]; rfl)) (hJ5_8 (v505, v508) _ ⟨(by (with_reducible repeat (first | apply Kd.R_alloc | apply Kd.R_drewN | apply Kd.R_drew)); exact Kd.R_mono HO506.out (fun _ hk => hk.2)), (by (with_reducible repeat (first | apply Kd.R_alloc | apply Kd.R_drewN | apply Kd.R_drew)); exact Kd.R_mono HO509.out (fun _ hk => hk.2)), (nB BK499.out), (nH1 HB.out GE499.out)⟩)
           · skip
             rintro v502 w19 ⟨h0_, h1_, h2_⟩
             have n0_ : Aside0 (Kd.R (Kd.int .i64) 3 w19 w.heap.size (fun _ => True) v502 y501) := ⟨h0_⟩
             have n1_ : Aside0 (w19.heap[gb499]? = some (.cells #[.int .i64 a0_0, .int .i64 a0_1, .slice A0_2 l0_2.length c0_2, .int .i64 a0_3] 34 (0, 0))) := ⟨h1_⟩
             have n2_ : Aside0 (Below w.heap.size w w19) := ⟨h2_⟩
             clear BK499; clear HB; clear h0_ h1_ h2_; have HO503 := n0_; have BK499 := n1_; have HB := n2_; clear n0_ n1_ n2_; have hHeld := trivial
             refine norm_ (a' := ?_) ?_ ?_
             rotate_left
             · simp only [putAll, Act.put, List.setIfInBounds_toArray, List.set_cons_zero, List.set_cons_succ]
               rfl
             refine two_ (i := 5) (j := 8) (Ni := some 34) (Nj := some 37) #[T,T,T,T,T,T,T,T,F,T,F,F] #[T,T,T,T,T,F,T,T,T,T,F,F] rfl rfl rfl rfl (two_of HT_.out (by kernel_rfl)) (by decide) (by decide) (fun K hK => ?_) (fun K hK => ?_)
             · skip
               refine Kd.R_make_step (Kd.int .i64) _ 3 (by rfl) (N := 34) rfl 29 _ _ rfl ji10 rfl rfl Try.underlying29 (.int .i64 0) 8 info3 rfl (by decide) (by omega) 0 (ok := fun _ => True) (okp := fun _ => True) rfl (fun _ hk => hk) trivial (of_decide_eq_true nQ) (Nat.le_trans (Nat.mul_le_mul_right _ (of_decide_eq_true nQ : ji10.toNat ≤ 35184372088832)) (by omega)) (Below.refl _ _) (Nat.le_refl _) ?_
               intro v505 w20 ho21 hb hg_ hnew_
               clear hg_ hnew_
               (first | rw [← Ny504.out] at ho21 | (simp only [Int.reduceToNat] at ho21; rw [← Ny504.out] at ho21))
               have n0_ := Aside0.mk (Kd.R_elder' (nR HO503.out) (Kd.R_base ho21) hb)
               have n1_ := Aside0.mk (Kd.R_lower (Kd.R_new' ho21 (Kd.R_lt (nR HO503.out))) (below_size (nH1 HB.out GE499.out)))
               have n2_ := Aside0.mk (blk_below (g := gb499) (o := .cells #[.int .i64 a0_0, .int .i64 a0_1, .slice A0_2 l0_2.length c0_2, .int .i64 a0_3] 34 (0, 0)) (nB BK499.out) hb)
               have n3_ := Aside0.mk (below_step (nH1 HB.out GE499.out) hb)
               clear HO503; clear BK499; clear HB; have HO503 := n0_; have HO506 := n1_; have BK499 := n2_; have HB := n3_; clear n0_ n1_ n2_ n3_; clear hb ho21
               refine hK.out _ _ trivial (fun hHeld => ?_)
               clear hK K
               refine norm_ (a' := ?_) ?_ ?_
               rotate_left
               · show Act.put _ (some 34) _ = _
                 simp only [Act.put, List.setIfInBounds_toArray, List.set_cons_zero, List.set_cons_succ, i64_w, i32_w]
                 rfl
               refine qU 10 (some 12) rfl rfl HT_.out ?_
               exact norm_ (by first | (simp only [putAll, Act.put, List.setIfInBounds_toArray, List.set_cons_zero, List.set_cons_succ]; done) | (simp only [putAll, Act.put, List.setIfInBounds_toArray, List.set_cons_zero, List.set_cons_succ]; rfl)) (hJ2_5 (v502, v505) _ ⟨(by (with_reducible repeat (first | apply Kd.R_alloc | apply Kd.R_drewN | apply Kd.R_drew)); exact Kd.R_mono HO503.out (fun _ hk => hk.2)), (by (with_reducible repeat (first | apply Kd.R_alloc | apply Kd.R_drewN | apply Kd.R_drew)); exact Kd.R_mono HO506.out (fun _ hk => hk.2)), (nB BK499.out), (nH1 HB.out GE499.out)⟩)
             · skip
               refine Kd.R_make_step (Kd.int .i64) _ 3 (by rfl) (N := 37) rfl 29 _ _ rfl ji10 rfl rfl Try.underlying29 (.int .i64 0) 8 info3 rfl (by decide) (by omega) 0 (ok := fun _ => True) (okp := fun _ => True) rfl (fun _ hk => hk) trivial (of_decide_eq_true nQ) (Nat.le_trans (Nat.mul_le_mul_right _ (of_decide_eq_true nQ : ji10.toNat ≤ 35184372088832)) (by omega)) (Below.refl _ _) (Nat.le_refl _) ?_
               intro v508 w20 ho21 hb hg_ hnew_
               clear hg_ hnew_
               (first | rw [← Ny507.out] at ho21 | (simp only [Int.reduceToNat] at ho21; rw [← Ny507.out] at ho21))
               have n0_ := Aside0.mk (Kd.R_elder' (nR HO503.out) (Kd.R_base ho21) hb)
               have n1_ := Aside0.mk (Kd.R_lower (Kd.R_new' ho21 (Kd.R_lt (nR HO503.out))) (below_size (nH1 HB.out GE499.out)))
               have n2_ := Aside0.mk (blk_below (g := gb499) (o := .cells #[.int .i64 a0_0, .int .i64 a0_1, .slice A0_2 l0_2.length c0_2, .int .i64 a0_3] 34 (0, 0)) (nB BK499.out) hb)
               have n3_ := Aside0.mk (below_step (nH1 HB.out GE499.out) hb)
               clear HO503; clear BK499; clear HB; have HO503 := n0_; have HO509 := n1_; have BK499 := n2_; have HB := n3_; clear n0_ n1_ n2_ n3_; clear hb ho21
               refine hK.out _ _ trivial (fun hHeld => ?_)
               clear hK K
               refine norm_ (a' := ?_) ?_ ?_
               rotate_left
               · show Act.put _ (some 37) _ = _
                 simp only [Act.put, List.setIfInBounds_toArray, List.set_cons_zero, List.set_cons_succ, i64_w, i32_w]
                 rfl
               exact norm_ (by first | (simp only [putAll, Act.put, List.setIfInBounds_toArray, List.set_cons_zero, List.set_cons_succ]; done) | (simp only [putAll, Act.put, List.setIfInBounds_toArray, List.set_cons_zero, List.set_cons_succ]; rfl)) (hJ2_8 (v502, v508) _ ⟨(by (with_reducible repeat (first | apply Kd.R_alloc | apply Kd.R_drewN | apply Kd.R_drew)); exact Kd.R_mono HO503.out (fun _ hk => hk.2)), (by (with_reducible repeat (first | apply Kd.R_alloc | apply Kd.R_drewN | apply Kd.R_drew)); exact Kd.R_mono HO509.out (fun _ hk => hk.2)), (nB BK499.out), (nH1 HB.out GE499.out)⟩)
         · skip
           rintro ⟨v505, v508⟩ w21 ⟨h0_, h1_, h2_, h3_⟩
           have n0_ : Aside0 (Kd.R (Kd.int .i64) 3 w21 w.heap.size (fun k_ => some k_ ≠ (v508 : Value).ownBlock) v505 y504) := ⟨h0_⟩
           have n1_ : Aside0 (Kd.R (Kd.int .i64) 3 w21 w.heap.size (fun k_ => some k_ ≠ (v505 : Value).ownBlock) v508 y507) := ⟨h1_⟩
           have n2_ : Aside0 (w21.heap[gb499]? = some (.cells #[.int .i64 a0_0, .int .i64 a0_1, .slice A0_2 l0_2.length c0_2, .int .i64 a0_3] 34 (0, 0))) := ⟨h2_⟩
           have n3_ : Aside0 (Below w.heap.size w w21) := ⟨h3_⟩
           clear BK499; clear HB; clear h0_ h1_ h2_ h3_; have HO506 := n0_; have HO509 := n1_; have BK499 := n2_; have HB := n3_; clear n0_ n1_ n2_ n3_; have hHeld := trivial
           refine norm_ (a' := ?_) ?_ ?_
           rotate_left
           · simp only [putAll, Act.put, List.setIfInBounds_toArray, List.set_cons_zero, List.set_cons_succ]
             rfl
           refine one_ (i := 2) (N := some 31) #[T,T,T,T,T,T,T,T,T,F,F,F] rfl rfl (one_of HT_.out (by kernel_rfl)) (by decide) (fun K hK => ?_)
           refine Kd.R_make_step (Kd.int .i64) _ 3 (by rfl) (N := 31) rfl 29 _ _ rfl ji10 rfl rfl Try.underlying29 (.int .i64 0) 8 info3 rfl (by decide) (by omega) 0 (ok := fun _ => True) (okp := fun _ => True) rfl (fun _ hk => hk) trivial (of_decide_eq_true nQ) (Nat.le_trans (Nat.mul_le_mul_right _ (of_decide_eq_true nQ : ji10.toNat ≤ 35184372088832)) (by omega)) (Below.refl _ _) (Nat.le_refl _) ?_
           intro v502 w22 ho23 hb hg_ hnew_
           clear hg_ hnew_
           (first | rw [← Ny501.out] at ho23 | (simp only [Int.reduceToNat] at ho23; rw [← Ny501.out] at ho23))
           have n0_ := Aside0.mk (Kd.R_elder' (nR HO506.out) (Kd.R_base ho23) hb)
           have n1_ := Aside0.mk (Kd.R_elder' (nR HO509.out) (Kd.R_base ho23) hb)
           have n2_ := Aside0.mk (Kd.R_lower (Kd.R_new' (Kd.R_new' ho23 (Kd.R_lt (nR HO506.out))) (Kd.R_lt (nR HO509.out))) (below_size (nH1 HB.out GE499.out)))
           have n3_ := Aside0.mk (blk_below (g := gb499) (o := .cells #[.int .i64 a0_0, .int .i64 a0_1, .slice A0_2 l0_2.length c0_2, .int .i64 a0_3] 34 (0, 0)) (nB BK499.out) hb)
           have n4_ := Aside0.mk (below_step (nH1 HB.out GE499.out) hb)
           clear HO506; clear HO509; clear BK499; clear HB; have HO506 := n0_; have HO509 := n1_; have HO503 := n2_; have BK499 := n3_; have HB := n4_; clear n0_ n1_ n2_ n3_ n4_; clear hb ho23
           refine hK.out _ _ trivial (fun hHeld => ?_)
           clear hK K
           refine norm_ (a' := ?_) ?_ ?_
           rotate_left
           · show Act.put _ (some 31) _ = _
             simp only [Act.put, List.setIfInBounds_toArray, List.set_cons_zero, List.set_cons_succ, i64_w, i32_w]
             rfl
           refine qU 9 (some 11) rfl rfl HT_.out ?_
           refine qU 10 (some 12) rfl rfl HT_.out ?_
           exact norm_ (by first | (simp only [putAll, Act.put, List.setIfInBounds_toArray, List.set_cons_zero, List.set_cons_succ]; done) | (simp only [putAll, Act.put, List.setIfInBounds_toArray, List.set_cons_zero, List.set_cons_succ]; rfl)) (hJ2_5_8 (v502, v505, v508) _ ⟨(by (with_reducible repeat (first | apply Kd.R_alloc | apply Kd.R_drewN | apply Kd.R_drew)); exact Kd.R_mono HO503.out (fun _ hk => ⟨hk.1.2, hk.2⟩)), (by (with_reducible repeat (first | apply Kd.R_alloc | apply Kd.R_drewN | apply Kd.R_drew)); exact Kd.R_mono HO506.out (fun _ hk => ⟨hk.2, hk.1⟩)), (by (with_reducible repeat (first | apply Kd.R_alloc | apply Kd.R_drewN | apply Kd.R_drew)); exact Kd.R_mono HO509.out (fun _ hk => ⟨hk.2, hk.1⟩)), (nB BK499.out), (nH1 HB.out GE499.out)⟩)
       · skip
         rintro ⟨v502, v508⟩ w21 ⟨h0_, h1_, h2_, h3_⟩
         have n0_ : Aside0 (Kd.R (Kd.int .i64) 3 w21 w.heap.size (fun k_ => some k_ ≠ (v508 : Value).ownBlock) v502 y501) := ⟨h0_⟩
         have n1_ : Aside0 (Kd.R (Kd.int .i64) 3 w21 w.heap.size (fun k_ => some k_ ≠ (v502 : Value).ownBlock) v508 y507) := ⟨h1_⟩
         have n2_ : Aside0 (w21.heap[gb499]? = some (.cells #[.int .i64 a0_0, .int .i64 a0_1, .slice A0_2 l0_2.length c0_2, .int .i64 a0_3] 34 (0, 0))) := ⟨h2_⟩
         have n3_ : Aside0 (Below w.heap.size w w21) := ⟨h3_⟩
         clear BK499; clear HB; clear h0_ h1_ h2_ h3_; have HO503 := n0_; have HO509 := n1_; have BK499 := n2_; have HB := n3_; clear n0_ n1_ n2_ n3_; have hHeld := trivial
         refine norm_ (a' := ?_) ?_ ?_
         rotate_left
         · simp only [putAll, Act.put, List.setIfInBounds_toArray, List.set_cons_zero, List.set_cons_succ]
           rfl
         refine one_ (i := 5) (N := some 34) #[T,T,T,T,T,T,T,T,T,T,F,F] rfl rfl (one_of HT_.out (by kernel_rfl)) (by decide) (fun K hK => ?_)
         refine Kd.R_make_step (Kd.int .i64) _ 3 (by rfl) (N := 34) rfl 29 _ _ rfl ji10 rfl rfl Try.underlying29 (.int .i64 0) 8 info3 rfl (by decide) (by omega) 0 (ok := fun _ => True) (okp := fun _ => True) rfl (fun _ hk => hk) trivial (of_decide_eq_true nQ) (Nat.le_trans (Nat.mul_le_mul_right _ (of_decide_eq_true nQ : ji10.toNat ≤ 35184372088832)) (by omega)) (Below.refl _ _) (Nat.le_refl _) ?_
         intro v505 w22 ho23 hb hg_ hnew_
         clear hg_ hnew_
         (first | rw [← Ny504.out] at ho23 | (simp only [Int.reduceToNat] at ho23; rw [← Ny504.out] at ho23))
         have n0_ := Aside0.mk (Kd.R_elder' (nR HO503.out) (Kd.R_base ho23) hb)
         have n1_ := Aside0.mk (Kd.R_elder' (nR HO509.out) (Kd.R_base ho23) hb)
         have n2_ := Aside0.mk (Kd.R_lower (Kd.R_new' (Kd.R_new' ho23 (Kd.R_lt (nR HO503.out))) (Kd.R_lt (nR HO509.out))) (below_size (nH1 HB.out GE499.out)))
         have n3_ := Aside0.mk (blk_below (g := gb499) (o := .cells #[.int .i64 a0_0, .int .i64 a0_1, .slice A0_2 l0_2.length c0_2, .int .i64 a0_3] 34 (0, 0)) (nB BK499.out) hb)
         have n4_ := Aside0.mk (below_step (nH1 HB.out GE499.out) hb)
         clear HO503; clear HO509; clear BK499; clear HB; have HO503 := n0_; have HO509 := n1_; have HO506 := n2_; have BK499 := n3_; have HB := n4_; clear n0_ n1_ n2_ n3_ n4_; clear hb ho23
         refine hK.out _ _ trivial (fun hHeld => ?_)
         clear hK K
         refine norm_ (a' := ?_) ?_ ?_
         rotate_left
         · show Act.put _ (some 34) _ = _
           simp only [Act.put, List.setIfInBounds_toArray, List.set_cons_zero, List.set_cons_succ, i64_w, i32_w]
           rfl
         refine qU 10 (some 12) rfl rfl HT_.out ?_
         exact norm_ (by first | (simp only [putAll, Act.put, List.setIfInBounds_toArray, List.set_cons_zero, List.set_cons_succ]; done) | (simp only [putAll, Act.put, List.setIfInBounds_toArray, List.set_cons_zero, List.set_cons_succ]; rfl)) (hJ2_5_8 (v502, v505, v508) _ ⟨(by (with_reducible repeat (first | apply Kd.R_alloc | apply Kd.R_drewN | apply Kd.R_drew)); exact Kd.R_mono HO503.out (fun _ hk => ⟨hk.2, hk.1⟩)), (by (with_reducible repeat (first | apply Kd.R_alloc | apply Kd.R_drewN | apply Kd.R_drew)); exact Kd.R_mono HO506.out (fun _ hk => ⟨hk.1.2, hk.2⟩)), (nR HO509.out), (nB BK499.out), (nH1 HB.out GE499.out)⟩)
     · skip
       rintro ⟨v502, v505⟩ w21 ⟨h0_, h1_, h2_, h3_⟩
       have n0_ : Aside0 (Kd.R (Kd.int .i64) 3 w21 w.heap.size (fun k_ => some k_ ≠ (v505 : Value).ownBlock) v502 y501) := ⟨h0_⟩
       have n1_ : Aside0 (Kd.R (Kd.int .i64) 3 w21 w.heap.size (fun k_ => some k_ ≠ (v502 : Value).ownBlock) v505 y504) := ⟨h1_⟩
       have n2_ : Aside0 (w21.heap[gb499]? = some (.cells #[.int .i64 a0_0, .int .i64 a0_1, .slice A0_2 l0_2.length c0_2, .int .i64 a0_3] 34 (0, 0))) := ⟨h2_⟩
       have n3_ : Aside0 (Below w.heap.size w w21) := ⟨h3_⟩
       clear BK499; clear HB; clear h0_ h1_ h2_ h3_; have HO503 := n0_; have HO506 := n1_; have BK499 := n2_; have HB := n3_; clear n0_ n1_ n2_ n3_; have hHeld := trivial
       refine norm_ (a' := ?_) ?_ ?_
       rotate_left
       · simp only [putAll, Act.put, List.setIfInBounds_toArray, List.set_cons_zero, List.set_cons_succ]
         rfl
       refine one_ (i := 8) (N := some 37) #[T,T,T,T,T,T,T,T,T,T,T,F] rfl rfl (one_of HT_.out (by kernel_rfl)) (by decide) (fun K hK => ?_)
       refine Kd.R_make_step (Kd.int .i64) _ 3 (by rfl) (N := 37) rfl 29 _ _ rfl ji10 rfl rfl Try.underlying29 (.int .i64 0) 8 info3 rfl (by decide) (by omega) 0 (ok := fun _ => True) (okp := fun _ => True) rfl (fun _ hk => hk) trivial (of_decide_eq_true nQ) (Nat.le_trans (Nat.mul_le_mul_right _ (of_decide_eq_true nQ : ji10.toNat ≤ 35184372088832)) (by omega)) (Below.refl _ _) (Nat.le_refl _) ?_
       intro v508 w22 ho23 hb hg_ hnew_
       clear hg_ hnew_
       (first | rw [← Ny507.out] at ho23 | (simp only [Int.reduceToNat] at ho23; rw [← Ny507.out] at ho23))
       have n0_ := Aside0.mk (Kd.R_elder' (nR HO503.out) (Kd.R_base ho23) hb)
       have n1_ := Aside0.mk (Kd.R_elder' (nR HO506.out) (Kd.R_base ho23) hb)
       have n2_ := Aside0.mk (Kd.R_lower (Kd.R_new' (Kd.R_new' ho23 (Kd.R_lt (nR HO503.out))) (Kd.R_lt (nR HO506.out))) (below_size (nH1 HB.out GE499.out)))
       have n3_ := Aside0.mk (blk_below (g := gb499) (o := .cells #[.int .i64 a0_0, .int .i64 a0_1, .slice A0_2 l0_2.length c0_2, .int .i64 a0_3] 34 (0, 0)) (nB BK499.out) hb)
       have n4_ := Aside0.mk (below_step (nH1 HB.out GE499.out) hb)
       clear HO503; clear HO506; clear BK499; clear HB; have HO503 := n0_; have HO506 := n1_; have HO509 := n2_; have BK499 := n3_; have HB := n4_; clear n0_ n1_ n2_ n3_ n4_; clear hb ho23
       refine hK.out _ _ trivial (fun hHeld => ?_)
       clear hK K
       refine norm_ (a' := ?_) ?_ ?_
       rotate_left
       · show Act.put _ (some 37) _ = _
         simp only [Act.put, List.setIfInBounds_toArray, List.set_cons_zero, List.set_cons_succ, i64_w, i32_w]
         rfl
       exact norm_ (by first | (simp only [putAll, Act.put, List.setIfInBounds_toArray, List.set_cons_zero, List.set_cons_succ]; done) | (simp only [putAll, Act.put, List.setIfInBounds_toArray, List.set_cons_zero, List.set_cons_succ]; rfl)) (hJ2_5_8 (v502, v505, v508) _ ⟨(nR HO503.out), (nR HO506.out), (by (with_reducible repeat (first | apply Kd.R_alloc | apply Kd.R_drewN | apply Kd.R_drew)); exact Kd.R_mono HO509.out (fun _ hk => ⟨hk.1.2, hk.2⟩)), (nB BK499.out), (nH1 HB.out GE499.out)⟩)
   rintro ⟨v502, v505, v508⟩ w23 ⟨h0_, h1_, h2_, h3_, h4_⟩
   have n0_ : Aside0 (Kd.R (Kd.int .i64) 3 w23 w.heap.size (fun k_ => some k_ ≠ (v505 : Value).ownBlock ∧ some k_ ≠ (v508 : Value).ownBlock) v502 y501) := ⟨h0_⟩
   have n1_ : Aside0 (Kd.R (Kd.int .i64) 3 w23 w.heap.size (fun k_ => some k_ ≠ (v502 : Value).ownBlock ∧ some k_ ≠ (v508 : Value).ownBlock) v505 y504) := ⟨h1_⟩
   have n2_ : Aside0 (Kd.R (Kd.int .i64) 3 w23 w.heap.size (fun k_ => some k_ ≠ (v502 : Value).ownBlock ∧ some k_ ≠ (v505 : Value).ownBlock) v508 y507) := ⟨h2_⟩
   have n3_ : Aside0 (w23.heap[gb499]? = some (.cells #[.int .i64 a0_0, .int .i64 a0_1, .slice A0_2 l0_2.length c0_2, .int .i64 a0_3] 34 (0, 0))) := ⟨h3_⟩
   have n4_ : Aside0 (Below w.heap.size w w23) := ⟨h4_⟩
   clear BK499; clear HB; clear h0_ h1_ h2_ h3_ h4_; have HO503 := n0_; have HO506 := n1_; have HO509 := n2_; have BK499 := n3_; have HB := n4_; clear n0_ n1_ n2_ n3_ n4_; have hHeld := trivial
   refine norm_ (a' := ?_) ?_ ?_
   rotate_left
   · simp only [putAll, Act.put, List.setIfInBounds_toArray, List.set_cons_zero, List.set_cons_succ]
     rfl
   refine qU 11 (some 13) rfl rfl HT_.out ?_
   refine done_ (done_of HT_.out (by kernel_rfl)) ?_
   try go_wp2
   go_loopg [14] k (fun kq v14 w' => ∃ (x11_1 : List Int) (x12_1 : List Int) (x13_1 : List Int) (x14_1 : Int), v14 = .int .i64 x14_1 ∧ Aside0 (impl_Split.l0 kq l1 l2 a3 (wrap64 ((l1.length : Int) - 1)) x11_1 x12_1 x13_1 x14_1 a0_0 a0_1 l0_2 a0_3 = some (r1, r2)) ∧ Aside0 (kq ≤ k) ∧ Aside0 (Kd.R (Kd.int .i64) 3 w' w.heap.size (fun k_ => some k_ ≠ (v505 : Value).ownBlock ∧ some k_ ≠ (v508 : Value).ownBlock) v502 x11_1) ∧ Aside0 (Kd.R (Kd.int .i64) 3 w' w.heap.size (fun k_ => some k_ ≠ (v502 : Value).ownBlock ∧ some k_ ≠ (v508 : Value).ownBlock) v505 x12_1) ∧ Aside0 (Kd.R (Kd.int .i64) 3 w' w.heap.size (fun k_ => some k_ ≠ (v502 : Value).ownBlock ∧ some k_ ≠ (v505 : Value).ownBlock) v508 x13_1) ∧ Aside0 (w'.heap[gb499]? = some (.cells #[.int .i64 a0_0, .int .i64 a0_1, (.slice A0_2 l0_2.length c0_2), .int .i64 a0_3] 34 (0, 0))) ∧ Aside0 (Below w.heap.size w w'))
   case atStart => exact ⟨(y501), (y504), (y507), (wrap64 ((wrap64 ((l1.length : Int) - 1)) - 1)), nS, H', ⟨Nat.le_refl _⟩, ⟨by exact nR HO503.out⟩, ⟨by exact nR HO506.out⟩, ⟨by exact nR HO509.out⟩, ⟨by exact nB BK499.out⟩, ⟨nH1 HB.out GE499.out⟩⟩
   case round =>
    clear H'
    try clear p2; try clear p6
    obtain ⟨x11_1, x12_1, x13_1, x14_1, rfl, HA, HK1, HO_11, HO_12, HO_13, BK499, HB⟩ := hrel
    cases gk with
    | zero => exact absurd HA.out (by simp [impl_Split.l0])
    | succ k1 =>
     have H := HA.out; clear HA
     simp only [impl_Split.l0] at H
     by_cases c24 : x14_1 ≥ 0
     · rw [if_pos c24] at H
       have c24b0 : decide (0 ≤ x14_1) = true := decide_eq_true c24
       clear c24
       have H' := Aside0.mk H
       clear H; go_wp2
       go_loopg [15] k1 (fun kq v15 w' => ∃ (x11_2 : List Int) (x12_2 : List Int) (x13_2 : List Int) (x15_2 : Int), v15 = .int .i64 x15_2 ∧ Aside0 (impl_Split.l1 kq l1 l2 a3 (wrap64 ((l1.length : Int) - 1)) x11_2 x12_2 x13_2 x14_1 x15_2 a0_0 a0_1 l0_2 a0_3 = some (r1, r2)) ∧ Aside0 (kq ≤ k1) ∧ Aside0 (Kd.R (Kd.int .i64) 3 w' w.heap.size (fun k_ => some k_ ≠ (v505 : Value).ownBlock ∧ some k_ ≠ (v508 : Value).ownBlock) v502 x11_2) ∧ Aside0 (Kd.R (Kd.int .i64) 3 w' w.heap.size (fun k_ => some k_ ≠ (v502 : Value).ownBlock ∧ some k_ ≠ (v508 : Value).ownBlock) v505 x12_2) ∧ Aside0 (Kd.R (Kd.int .i64) 3 w' w.heap.size (fun k_ => some k_ ≠ (v502 : Value).ownBlock ∧ some k_ ≠ (v505 : Value).ownBlock) v508 x13_2) ∧ Aside0 (w'.heap[gb499]? = some (.cells #[.int .i64 a0_0, .int .i64 a0_1, (.slice A0_2 l0_2.length c0_2), .int .i64 a0_3] 34 (0, 0))) ∧ Aside0 (Below w.heap.size w w'))
       case atStart => exact ⟨(x11_1), (x12_1), (x13_1), (wrap64 (x14_1 + 1)), nS, H', ⟨Nat.le_refl _⟩, ⟨by exact nR HO_11.out⟩, ⟨by exact nR HO_12.out⟩, ⟨by exact nR HO_13.out⟩, ⟨by exact nB BK499.out⟩, ⟨nH1 HB.out GE499.out⟩⟩
       case round =>
        clear H'
        try clear c2; try clear p2; try clear p6; try clear c24; try clear c24b0; try clear p2; try clear p6
        obtain ⟨x11_2, x12_2, x13_2, x15_2, rfl, HA, HK2, HO_11, HO_12, HO_13, BK499, HB⟩ := hrel
        cases gk with
        | zero => exact absurd HA.out (by simp [impl_Split.l1])
        | succ k2 =>
         have H := HA.out; clear HA
         simp only [impl_Split.l1] at H
         by_cases c25 : x15_2 ≤ (wrap64 ((l1.length : Int) - 1))
         · rw [if_pos c25] at H
           have c25b0 : decide (x15_2 ≤ (wrap64 ((l1.length : Int) - 1))) = true := decide_eq_true c25
           clear c25
           by_cases c26 : 0 ≤ x14_1
           rotate_left
           · (rw [if_neg c26] at H; exact absurd H (by simp))
           rw [if_pos c26] at H
           have c26b0 : decide (0 ≤ x14_1) = true := decide_eq_true c26
           clear c26
           by_cases c27 : x14_1 < (l1.length : Int)
           rotate_left
           · (rw [if_neg c27] at H; exact absurd H (by simp))
           rw [if_pos c27] at H
           have c27b0 : decide (x14_1 < (l1.length : Int)) = true := decide_eq_true c27
           clear c27
           by_cases c28 : 0 ≤ x15_2
           rotate_left
           · (rw [if_neg c28] at H; exact absurd H (by simp))
           rw [if_pos c28] at H
           have c28b0 : decide (0 ≤ x15_2) = true := decide_eq_true c28
           clear c28
           by_cases c29 : x15_2 < (l1.length : Int)
           rotate_left
           · (rw [if_neg c29] at H; exact absurd H (by simp))
           rw [if_pos c29] at H
           have c29b0 : decide (x15_2 < (l1.length : Int)) = true := decide_eq_true c29
           clear c29
           replace H := Option.bind_eq_some_iff.mp H
           obtain ⟨t512, A300, H⟩ := H
           replace H : ((impl_carded.f k2 a0_0 a0_1 l0_2 a0_3 t512 l2 a3).bind fun t513 => (if x15_2 < (x11_2.length : Int) then (if x15_2 < (x12_2.length : Int) then (if x14_1 < (x13_2.length : Int) then (if (rd x13_2 x14_1) = 0 then (if x14_1 < (x11_2.length : Int) then (if x14_1 < (x12_2.length : Int) then (impl_Split.l1 k2 l1 l2 a3 (wrap64 ((l1.length : Int) - 1)) (x11_2.set (x14_1 : Int).toNat (wrap64 (t513 + (rd x11_2 x15_2)))) (x12_2.set (x14_1 : Int).toNat (wrap64 ((rd x12_2 x15_2) + 1))) (x13_2.set (x14_1 : Int).toNat x15_2) x14_1 (wrap64 (x15_2 + 1)) a0_0 a0_1 l0_2 a0_3) else (none)) else (none)) else (if x14_1 < (x11_2.length : Int) then (if (wrap64 (t513 + (rd x11_2 x15_2))) < (rd x11_2 x14_1) then (if x14_1 < (x12_2.length : Int) then (impl_Split.l1 k2 l1 l2 a3 (wrap64 ((l1.length : Int) - 1)) (x11_2.set (x14_1 : Int).toNat (wrap64 (t513 + (rd x11_2 x15_2)))) (x12_2.set (x14_1 : Int).toNat (wrap64 ((rd x12_2 x15_2) + 1))) (x13_2.set (x14_1 : Int).toNat x15_2) x14_1 (wrap64 (x15_2 + 1)) a0_0 a0_1 l0_2 a0_3) else (none)) else (if (wrap64 (t513 + (rd x11_2 x15_2))) = (rd x11_2 x14_1) then (if x14_1 < (x12_2.length : Int) then (if (wrap64 ((rd x12_2 x15_2) + 1)) < (rd x12_2 x14_1) then (impl_Split.l1 k2 l1 l2 a3 (wrap64 ((l1.length : Int) - 1)) (x11_2.set (x14_1 : Int).toNat (wrap64 (t513 + (rd x11_2 x15_2)))) (x12_2.set (x14_1 : Int).toNat (wrap64 ((rd x12_2 x15_2) + 1))) (x13_2.set (x14_1 : Int).toNat x15_2) x14_1 (wrap64 (x15_2 + 1)) a0_0 a0_1 l0_2 a0_3) else (impl_Split.l1 k2 l1 l2 a3 (wrap64 ((l1.length : Int) - 1)) x11_2 x12_2 x13_2 x14_1 (wrap64 (x15_2 + 1)) a0_0 a0_1 l0_2 a0_3)) else (none)) else (impl_Split.l1 k2 l1 l2 a3 (wrap64 ((l1.length : Int) - 1)) x11_2 x12_2 x13_2 x14_1 (wrap64 (x15_2 + 1)) a0_0 a0_1 l0_2 a0_3))) else (none))) else (none)) else (none)) else (none))) = some (r1, r2) := H
           have A30 := Aside0.mk A300
           clear A300
           replace H := Option.bind_eq_some_iff.mp H
           obtain ⟨t513, A310, H⟩ := H
           replace H : (if x15_2 < (x11_2.length : Int) then (if x15_2 < (x12_2.length : Int) then (if x14_1 < (x13_2.length : Int) then (if (rd x13_2 x14_1) = 0 then (if x14_1 < (x11_2.length : Int) then (if x14_1 < (x12_2.length : Int) then (impl_Split.l1 k2 l1 l2 a3 (wrap64 ((l1.length : Int) - 1)) (x11_2.set (x14_1 : Int).toNat (wrap64 (t513 + (rd x11_2 x15_2)))) (x12_2.set (x14_1 : Int).toNat (wrap64 ((rd x12_2 x15_2) + 1))) (x13_2.set (x14_1 : Int).toNat x15_2) x14_1 (wrap64 (x15_2 + 1)) a0_0 a0_1 l0_2 a0_3) else (none)) else (none)) else (if x14_1 < (x11_2.length : Int) then (if (wrap64 (t513 + (rd x11_2 x15_2))) < (rd x11_2 x14_1) then (if x14_1 < (x12_2.length : Int) then (impl_Split.l1 k2 l1 l2 a3 (wrap64 ((l1.length : Int) - 1)) (x11_2.set (x14_1 : Int).toNat (wrap64 (t513 + (rd x11_2 x15_2)))) (x12_2.set (x14_1 : Int).toNat (wrap64 ((rd x12_2 x15_2) + 1))) (x13_2.set (x14_1 : Int).toNat x15_2) x14_1 (wrap64 (x15_2 + 1)) a0_0 a0_1 l0_2 a0_3) else (none)) else (if (wrap64 (t513 + (rd x11_2 x15_2))) = (rd x11_2 x14_1) then (if x14_1 < (x12_2.length : Int) then (if (wrap64 ((rd x12_2 x15_2) + 1)) < (rd x12_2 x14_1) then (impl_Split.l1 k2 l1 l2 a3 (wrap64 ((l1.length : Int) - 1)) (x11_2.set (x14_1 : Int).toNat (wrap64 (t513 + (rd x11_2 x15_2)))) (x12_2.set (x14_1 : Int).toNat (wrap64 ((rd x12_2 x15_2) + 1))) (x13_2.set (x14_1 : Int).toNat x15_2) x14_1 (wrap64 (x15_2 + 1)) a0_0 a0_1 l0_2 a0_3) else (impl_Split.l1 k2 l1 l2 a3 (wrap64 ((l1.length : Int) - 1)) x11_2 x12_2 x13_2 x14_1 (wrap64 (x15_2 + 1)) a0_0 a0_1 l0_2 a0_3)) else (none)) else (impl_Split.l1 k2 l1 l2 a3 (wrap64 ((l1.length : Int) - 1)) x11_2 x12_2 x13_2 x14_1 (wrap64 (x15_2 + 1)) a0_0 a0_1 l0_2 a0_3))) else (none))) else (none)) else (none)) else (none)) = some (r1, r2) := H
           have A31 := Aside0.mk A310
           clear A310
           by_cases c32 : x15_2 < (x11_2.length : Int)
           rotate_left
           · (rw [if_neg c32] at H; exact absurd H (by simp))
           rw [if_pos c32] at H
           have c32b0 : decide (x15_2 < (x11_2.length : Int)) = true := decide_eq_true c32
           clear c32
           by_cases c33 : x15_2 < (x12_2.length : Int)
           rotate_left
           · (rw [if_neg c33] at H; exact absurd H (by simp))
           rw [if_pos c33] at H
           have c33b0 : decide (x15_2 < (x12_2.length : Int)) = true := decide_eq_true c33
           clear c33
           by_cases c34 : x14_1 < (x13_2.length : Int)
           rotate_left
           · (rw [if_neg c34] at H; exact absurd H (by simp))
           rw [if_pos c34] at H
           have c34b0 : decide (x14_1 < (x13_2.length : Int)) = true := decide_eq_true c34
           clear c34
           by_cases c35 : (rd x13_2 x14_1) = 0
           · rw [if_pos c35] at H
             have c35b0 : ((rd x13_2 x14_1) == 0) = true := beq_iff_eq.mpr c35
             have c35b1 : ((rd x13_2 x14_1) != 0) = false := bne_eq_false_iff_eq.mpr c35
             clear c35
             by_cases c36 : x14_1 < (x11_2.length : Int)
             rotate_left
             · (rw [if_neg c36] at H; exact absurd H (by simp))
             rw [if_pos c36] at H
             have c36b0 : decide (x14_1 < (x11_2.length : Int)) = true := decide_eq_true c36
             clear c36
             obtain ⟨y517, hy517⟩ : ∃ y_ : List Int, y_ = (x11_2.set (x14_1 : Int).toNat (wrap64 (t513 + (rd x11_2 x15_2)))) := ⟨_, rfl⟩
             replace H : (if x14_1 < (x12_2.length : Int) then (impl_Split.l1 k2 l1 l2 a3 (wrap64 ((l1.length : Int) - 1)) y517 (x12_2.set (x14_1 : Int).toNat (wrap64 ((rd x12_2 x15_2) + 1))) (x13_2.set (x14_1 : Int).toNat x15_2) x14_1 (wrap64 (x15_2 + 1)) a0_0 a0_1 l0_2 a0_3) else (none)) = some (r1, r2) := by first | (rw [hy517]; with_reducible exact H) | (have H2_ := (Option.bind_some _ _).symm.trans H; rw [hy517]; with_reducible exact H2_) | (have H2_ := (Option.bind_some _ _).symm.trans H; with_reducible exact H2_) | with_reducible exact H | (rw [hy517]; exact H) | exact H
             have Ny517 := Aside0.mk hy517
             clear hy517
             by_cases c38 : x14_1 < (x12_2.length : Int)
             rotate_left
             · (rw [if_neg c38] at H; exact absurd H (by simp))
             rw [if_pos c38] at H
             have c38b0 : decide (x14_1 < (x12_2.length : Int)) = true := decide_eq_true c38
             clear c38
             obtain ⟨y518, hy518⟩ : ∃ y_ : List Int, y_ = (x12_2.set (x14_1 : Int).toNat (wrap64 ((rd x12_2 x15_2) + 1))) := ⟨_, rfl⟩
             replace H : (impl_Split.l1 k2 l1 l2 a3 (wrap64 ((l1.length : Int) - 1)) y517 y518 (x13_2.set (x14_1 : Int).toNat x15_2) x14_1 (wrap64 (x15_2 + 1)) a0_0 a0_1 l0_2 a0_3) = some (r1, r2) := by first | (rw [hy518]; with_reducible exact H) | (have H2_ := (Option.bind_some _ _).symm.trans H; rw [hy518]; with_reducible exact H2_) | (have H2_ := (Option.bind_some _ _).symm.trans H; with_reducible exact H2_) | with_reducible exact H | (rw [hy518]; exact H) | exact H
             have Ny518 := Aside0.mk hy518
             clear hy518
             obtain ⟨y519, hy519⟩ : ∃ y_ : List Int, y_ = (x13_2.set (x14_1 : Int).toNat x15_2) := ⟨_, rfl⟩
             replace H : (impl_Split.l1 k2 l1 l2 a3 (wrap64 ((l1.length : Int) - 1)) y517 y518 y519 x14_1 (wrap64 (x15_2 + 1)) a0_0 a0_1 l0_2 a0_3) = some (r1, r2) := by first | (rw [hy519]; with_reducible exact H) | (have H2_ := (Option.bind_some _ _).symm.trans H; rw [hy519]; with_reducible exact H2_) | (have H2_ := (Option.bind_some _ _).symm.trans H; with_reducible exact H2_) | with_reducible exact H | (rw [hy519]; exact H) | exact H
             have Ny519 := Aside0.mk hy519
             clear hy519
             have H' := Aside0.mk H
             clear H
             try go_wp2
             have n0_ := Aside0.mk (Kd.R_drew HO_11.out)
             have n1_ := Aside0.mk (Kd.R_drew HO_12.out)
             have n2_ := Aside0.mk (Kd.R_drew HO_13.out)
             have n3_ := Aside0.mk (blk_drew BK499.out)
             have n4_ := Aside0.mk (below_drew1 HB.out)
             clear HO_11; clear HO_12; clear HO_13; clear BK499; clear HB; have HO_11 := n0_; have HO_12 := n1_; have HO_13 := n2_; have BK499 := n3_; have HB := n4_; clear n0_ n1_ n2_ n3_ n4_
             have p510 : 0 ≤ (x14_1 : Int) := of_decide_eq_true nQ
             have q510 : x14_1 < (l1.length : Int) := of_decide_eq_true nQ
             obtain ⟨ad510, e510, hx510_0⟩ := Kd.at_int HR1.out x14_1 p510 q510
             have hw510_0 := hx510_0; cases e510
             replace hx510_0 := (HB.out.cell (World.block_lt_of_cell? w _ hx510_0)).trans hx510_0
             replace p510 := eq_true p510; replace q510 := eq_true q510
             have p511 : 0 ≤ (x15_2 : Int) := of_decide_eq_true nQ
             have q511 : x15_2 < (l1.length : Int) := of_decide_eq_true nQ
             obtain ⟨ad511, e511, hx511_0⟩ := Kd.at_int HR1.out x15_2 p511 q511
             have hw511_0 := hx511_0
             obtain rfl : ad510 = ad511 := (by injection e511)
             replace hx511_0 := (HB.out.cell (World.block_lt_of_cell? w _ hx511_0)).trans hx511_0
             replace p511 := eq_true p511; replace q511 := eq_true q511
             obtain ⟨Ao42, co42, eo42⟩ := Kd.R_slice HO_11.out
             (first | subst eo42 | (injection eo42 with f1_ f2_ f3_; have f4_ := f1_.symm; have f5_ := f3_.symm; clear f1_ f2_ f3_; subst f4_; subst f5_))
             have p514 : 0 ≤ (x15_2 : Int) := of_decide_eq_true nQ
             have q514 : x15_2 < (x11_2.length : Int) := of_decide_eq_true nQ
             obtain ⟨ad514, e514, hx514_0⟩ := Kd.at_int (Kd.R_reads' HO_11.out).2.2 x15_2 p514 q514
             cases e514; replace p514 := eq_true p514; replace q514 := eq_true q514
             refine start_ (n := 20) (S := fun w' => w'.cell? ⟨gb499, 0, none⟩ = some (.int .i64 a0_0) ∧ w'.cell? ⟨gb499, 1, none⟩ = some (.int .i64 a0_1) ∧ w'.cell? ⟨gb499, 2, none⟩ = some (.slice A0_2 l0_2.length c0_2) ∧ w'.cell? ⟨gb499, 3, none⟩ = some (.int .i64 a0_3) ∧ w'.cell? (ad510.add (x14_1).toNat) = some (.int .i64 (rd l1 x14_1)) ∧ w'.cell? (ad510.add (x15_2).toNat) = some (.int .i64 (rd l1 x15_2)) ∧ w'.cell? (ad514.add (x15_2).toNat) = some (.int .i64 (rd x11_2 x15_2))) (ds := []) #[F,F,F,F,F,F,F,F,F,F,F,F,F,F,F,F,F,F,F,F] (by kernel_rfl) rfl rfl ⟨(blk_cell BK499.out 0).trans rfl, (blk_cell BK499.out 1).trans rfl, (blk_cell BK499.out 2).trans rfl, (blk_cell BK499.out 3).trans rfl, (nC HB.out hw510_0 :), (nC HB.out hw511_0 :), hx514_0⟩ (fun hHeld => ?_); refine with_tabW impl_Split.tab11 impl_Split.bits11 (fun HT_ HW_ => ?_)
             generalize wr.drew = w41 at HO_11 HO_12 HO_13 BK499 HB hx510_0 hx511_0 hx514_0 hHeld ⊢
             refine qU 2 (some 53) rfl rfl HT_.out ?_
             refine qU 3 (some 54) rfl rfl HT_.out ?_
             refine qU 4 (some 55) rfl rfl HT_.out ?_
             refine qU 6 (some 57) rfl rfl HT_.out ?_
             refine qU 7 (some 58) rfl rfl HT_.out ?_
             refine qU 8 (some 59) rfl rfl HT_.out ?_
             refine qU 11 (some 62) rfl rfl HT_.out ?_
             refine qU 12 (some 63) rfl rfl HT_.out ?_
             refine qU 14 (some 65) rfl rfl HT_.out ?_
             refine qU 15 (some 66) rfl rfl HT_.out ?_
             refine qU 16 (some 67) rfl rfl HT_.out ?_
             refine qT7 0 (some 51) rfl rfl HT_.out HW_.out hHeld ?_
             refine qT7 1 (some 52) rfl rfl HT_.out HW_.out hHeld ?_
             refine qT7 5 (some 56) rfl rfl HT_.out HW_.out hHeld ?_
             refine qT7 9 (some 60) rfl rfl HT_.out HW_.out hHeld ?_
             refine qT7 17 (some 68) rfl rfl HT_.out HW_.out hHeld ?_
             refine one_ (i := 10) (N := some 61) #[T,T,T,T,T,T,T,T,T,T,T,T,T,F,T,T,T,T,F,F] rfl rfl (one_of HT_.out (by kernel_rfl)) (by decide) (fun K hK => ?_)
             refine goes_ Try.func48 (by kernel_rfl) rfl #[.agg #[.int .i64 a0_0, .int .i64 a0_1, .slice A0_2 l0_2.length c0_2, .int .i64 a0_3], .int .i64 (rd l1 x14_1), .int .i64 (rd l1 x15_2)] (by rfl) rfl rfl nM ?_
             with_reducible refine (impl_fare.calls k2 a0_0 a0_1 _ _ l0_2 a0_3 (rd l1 x14_1) (rd l1 x15_2) t512 _ ?side1 ?side2 A30.out).mono ?_
             (case side1 => exact nD HR0_2.out HB.out)
             (case side2 => exact HC0_2.out)
             rintro e w43 ⟨rfl, hb⟩
             have HS6_ := (hb.cell (World.block_lt_of_cell? _ _ (hHeld.2.2.2.2.2.2))).trans (hHeld.2.2.2.2.2.2)
             refine ⟨_, rfl, ?_⟩
             have n0_ := Aside0.mk (Kd.R_below (nR HO_11.out) hb)
             have n1_ := Aside0.mk (Kd.R_below (nR HO_12.out) hb)
             have n2_ := Aside0.mk (Kd.R_below (nR HO_13.out) hb)
             have n3_ := Aside0.mk (blk_below (g := gb499) (o := .cells #[.int .i64 a0_0, .int .i64 a0_1, .slice A0_2 l0_2.length c0_2, .int .i64 a0_3] 34 (0, 0)) (nB BK499.out) hb)
             have n4_ := Aside0.mk (below_step (nH1 HB.out GE499.out) hb)
             clear HO_11; clear HO_12; clear HO_13; clear BK499; clear HB; have HO_11 := n0_; have HO_12 := n1_; have HO_13 := n2_; have BK499 := n3_; have HB := n4_; clear n0_ n1_ n2_ n3_ n4_; (try clear hb); (try clear hb2); (try clear hk); (try clear hi)
             refine hK.out _ _ ⟨(blk_cell BK499.out 0).trans rfl, (blk_cell BK499.out 1).trans rfl, (blk_cell BK499.out 2).trans rfl, (blk_cell BK499.out 3).trans rfl, (nC HB.out hw510_0 :), (nC HB.out hw511_0 :), HS6_⟩ (fun hHeld => ?_)
             clear hK K
             refine norm_ (a' := ?_) ?_ ?_
             rotate_left
             · show Act.put _ (some 61) _ = _
               simp only [Act.put, List.setIfInBounds_toArray, List.set_cons_zero, List.set_cons_succ, i64_w, i32_w]
               rfl
             refine one_ (i := 13) (N := some 64) #[T,T,T,T,T,T,T,T,T,T,T,T,T,T,T,T,T,T,F,F] rfl rfl (one_of HT_.out (by kernel_rfl)) (by decide) (fun K hK => ?_)
             refine goes_ Try.func53 (by kernel_rfl) rfl #[.agg #[.int .i64 a0_0, .int .i64 a0_1, .slice A0_2 l0_2.length c0_2, .int .i64 a0_3], .int .i64 t512, .slice A2 l2.length c2, .int .i64 a3] (by rfl) rfl rfl nM ?_
             with_reducible refine (impl_carded.calls k2 a0_0 a0_1 _ _ l0_2 a0_3 t512 _ _ l2 a3 t513 _ ?side1 ?side2 ?side3 ?side4 A31.out).mono ?_
             (case side1 => exact nD HR0_2.out HB.out)
             (case side2 => exact HC0_2.out)
             (case side3 => exact nD HR2.out HB.out)
             (case side4 => exact HC2.out)
             rintro e w44 ⟨rfl, hb⟩
             have HS6_ := (hb.cell (World.block_lt_of_cell? _ _ (hHeld.2.2.2.2.2.2))).trans (hHeld.2.2.2.2.2.2)
             refine ⟨_, rfl, ?_⟩
             have n0_ := Aside0.mk (Kd.R_below (nR HO_11.out) hb)
             have n1_ := Aside0.mk (Kd.R_below (nR HO_12.out) hb)
             have n2_ := Aside0.mk (Kd.R_below (nR HO_13.out) hb)
             have n3_ := Aside0.mk (blk_below (g := gb499) (o := .cells #[.int .i64 a0_0, .int .i64 a0_1, .slice A0_2 l0_2.length c0_2, .int .i64 a0_3] 34 (0, 0)) (nB BK499.out) hb)
             have n4_ := Aside0.mk (below_step (nH1 HB.out GE499.out) hb)
             clear HO_11; clear HO_12; clear HO_13; clear BK499; clear HB; have HO_11 := n0_; have HO_12 := n1_; have HO_13 := n2_; have BK499 := n3_; have HB := n4_; clear n0_ n1_ n2_ n3_ n4_; (try clear hb); (try clear hb2); (try clear hk); (try clear hi)
             refine hK.out _ _ ⟨(blk_cell BK499.out 0).trans rfl, (blk_cell BK499.out 1).trans rfl, (blk_cell BK499.out 2).trans rfl, (blk_cell BK499.out 3).trans rfl, (nC HB.out hw510_0 :), (nC HB.out hw511_0 :), HS6_⟩ (fun hHeld => ?_)
             clear hK K
             refine norm_ (a' := ?_) ?_ ?_
             rotate_left
             · show Act.put _ (some 64) _ = _
               simp only [Act.put, List.setIfInBounds_toArray, List.set_cons_zero, List.set_cons_succ, i64_w, i32_w]
               rfl
             refine qU 18 (some 69) rfl rfl HT_.out ?_
             refine qU 19 (some 16) rfl rfl HT_.out ?_
             refine done_ (done_of HT_.out (by kernel_rfl)) ?_
             obtain ⟨Ao45, co45, eo45⟩ := Kd.R_slice HO_12.out
             subst eo45
             have p515 : 0 ≤ (x15_2 : Int) := of_decide_eq_true nQ
             have q515 : x15_2 < (x12_2.length : Int) := of_decide_eq_true nQ
             obtain ⟨ad515, e515, hx515_0⟩ := Kd.at_int (Kd.R_reads' HO_12.out).2.2 x15_2 p515 q515
             cases e515; replace p515 := eq_true p515; replace q515 := eq_true q515
             obtain ⟨Ao46, co46, eo46⟩ := Kd.R_slice HO_13.out
             subst eo46
             have p516 : 0 ≤ (x14_1 : Int) := of_decide_eq_true nQ
             have q516 : x14_1 < (x13_2.length : Int) := of_decide_eq_true nQ
             obtain ⟨ad516, e516, hx516_0⟩ := Kd.at_int (Kd.R_reads' HO_13.out).2.2 x14_1 p516 q516
             cases e516; replace p516 := eq_true p516; replace q516 := eq_true q516
             have p37 : 0 ≤ (x14_1 : Int) := of_decide_eq_true nQ
             have q37 : (x14_1 : Int) < ((x11_2.length : Int) : Int) := of_decide_eq_true nQ
             obtain ⟨go37, co37, eo37, gb37, gl37, cl37, HG37⟩ := Kd.R_form HO_11.out (by omega)
             (first | cases eo37 | (injection eo37 with ea_ en_ ec_; (first | subst ea_ | (injection ea_ with ea_; subst ea_)); subst ec_; clear en_))
             have GB37 := Aside0.mk gb37
             have GG37 := Aside0.mk HG37
             clear gb37 gl37 HG37
             (first | simp only [add_plain] at hx514_0 | skip)
             obtain ⟨hx37_0, hf37_0⟩ := Kd.R_celln 0 HO_11.out (x14_1 : Int) p37 q37
             replace p37 := eq_true p37; replace q37 := eq_true q37
             obtain ⟨hy47_, hz47_⟩ := Kd.R_celln 0 HO_11.out (x14_1 : Int) (of_decide_eq_true nQ) (of_decide_eq_true nQ)
             have HP47 := Kd.R_putg HO_11.out (x14_1 : Int) (wrap64 (t513 + (rd x11_2 x15_2)))
             try go_wp2_with (first | ((with_reducible refine gate_store (t := 3) (p := 113) rfl ?_); refine store_event (t := 3) (p := 113) (v := ?vo_w48) (w1 := (w44.setCell ⟨go37, (x14_1 : Int).toNat, none⟩ (.int .i64 (wrap64 (t513 + (rd x11_2 x15_2)))))) ?hg ?ho ?hn ?hr ?_; (case ho => rfl); (case hg => rfl); (case hn => rfl); (case hr => first | (go_simp; done) | (go_simp; rfl)); intro w48 hw; have hg : w44.grownBy w48 (some go37) := (by rw [hw]; exact HP47.2); have hp_ : Kd.R (Kd.int .i64) 3 w48 w.heap.size (fun k_ => some k_ ≠ (.slice (some ad515) x12_2.length co45 : Value).ownBlock ∧ some k_ ≠ (.slice (some ad516) x13_2.length co46 : Value).ownBlock) (.slice (some ⟨go37, 0, none⟩) x11_2.length co42) y517 := (by rw [hw, Ny517.out]; exact HP47.1); clear HP47; have n0_ := Aside0.mk (hp_); have n1_ := Aside0.mk (Kd.R_after (v := (.slice (some ⟨go37, 0, none⟩) x11_2.length co42)) (v1 := (.slice (some ⟨go37, 0, none⟩) x11_2.length co42)) (ok := (fun k_ => some k_ ≠ (.slice (some ad516) x13_2.length co46 : Value).ownBlock)) (by (with_reducible repeat (first | apply Kd.R_alloc | apply Kd.R_drewN | apply Kd.R_drew)); exact Kd.R_mono HO_12.out (fun _ hk => ⟨hk.2, hk.1⟩)) hg (.inl rfl)); have n2_ := Aside0.mk (Kd.R_after (v := (.slice (some ⟨go37, 0, none⟩) x11_2.length co42)) (v1 := (.slice (some ⟨go37, 0, none⟩) x11_2.length co42)) (ok := (fun k_ => some k_ ≠ (.slice (some ad515) x12_2.length co45 : Value).ownBlock)) (by (with_reducible repeat (first | apply Kd.R_alloc | apply Kd.R_drewN | apply Kd.R_drew)); exact Kd.R_mono HO_13.out (fun _ hk => ⟨hk.2, hk.1⟩)) hg (.inl rfl)); have n3_ := Aside0.mk (blk_grown (g := gb499) (o := .cells #[.int .i64 a0_0, .int .i64 a0_1, .slice A0_2 l0_2.length c0_2, .int .i64 a0_3] 34 (0, 0)) (nB BK499.out) hg (Kd.R_ne HO_11.out BK499.out (by decide))); have n4_ := Aside0.mk ((by rw [hw]; exact below_set (HB.out) GB37.out : Below w.heap.size w w48)); clear HO_11; clear HO_12; clear HO_13; clear BK499; clear HB; have HO_11 := n0_; have HO_12 := n1_; have HO_13 := n2_; have BK499 := n3_; have HB := n4_; clear n0_ n1_ n2_ n3_ n4_; clear hg hw hp_; have p39 : 0 ≤ (x14_1 : Int) := of_decide_eq_true nQ; have q39 : (x14_1 : Int) < ((x12_2.length : Int) : Int) := of_decide_eq_true nQ; obtain ⟨go39, co39, eo39, gb39, gl39, cl39, HG39⟩ := Kd.R_form HO_12.out (by omega); (first | cases eo39 | (injection eo39 with ea_ en_ ec_; (first | subst ea_ | (injection ea_ with ea_; subst ea_)); subst ec_; clear en_)); have GB39 := Aside0.mk gb39; have GG39 := Aside0.mk HG39; clear gb39 gl39 HG39; (first | simp only [add_plain] at hx515_0 | skip); obtain ⟨hx39_0, hf39_0⟩ := Kd.R_celln 0 HO_12.out (x14_1 : Int) p39 q39; replace p39 := eq_true p39; replace q39 := eq_true q39; obtain ⟨hy49_, hz49_⟩ := Kd.R_celln 0 HO_12.out (x14_1 : Int) (of_decide_eq_true nQ) (of_decide_eq_true nQ); have HP49 := Kd.R_putg HO_12.out (x14_1 : Int) (wrap64 ((rd x12_2 x15_2) + 1))) | ((with_reducible refine gate_store (t := 3) (p := 114) rfl ?_); refine store_event (t := 3) (p := 114) (v := ?vo_w50) (w1 := (w48.setCell ⟨go39, (x14_1 : Int).toNat, none⟩ (.int .i64 (wrap64 ((rd x12_2 x15_2) + 1))))) ?hg ?ho ?hn ?hr ?_; (case ho => rfl); (case hg => rfl); (case hn => rfl); (case hr => first | (go_simp; done) | (go_simp; rfl)); intro w50 hw; have hg : w48.grownBy w50 (some go39) := (by rw [hw]; exact HP49.2); have hp_ : Kd.R (Kd.int .i64) 3 w50 w.heap.size (fun k_ => some k_ ≠ (.slice (some ad516) x13_2.length co46 : Value).ownBlock ∧ some k_ ≠ (.slice (some ⟨go37, 0, none⟩) x11_2.length co42 : Value).ownBlock) (.slice (some ⟨go39, 0, none⟩) x12_2.length co45) y518 := (by rw [hw, Ny518.out]; exact HP49.1); clear HP49; have n0_ := Aside0.mk (Kd.R_after (v := (.slice (some ⟨go39, 0, none⟩) x12_2.length co45)) (v1 := (.slice (some ⟨go39, 0, none⟩) x12_2.length co45)) (ok := (fun k_ => some k_ ≠ (.slice (some ad516) x13_2.length co46 : Value).ownBlock)) (by (with_reducible repeat (first | apply Kd.R_alloc | apply Kd.R_drewN | apply Kd.R_drew)); exact Kd.R_mono HO_11.out (fun _ hk => ⟨hk.2, hk.1⟩)) hg (.inl rfl)); have n1_ := Aside0.mk (hp_); have n2_ := Aside0.mk (Kd.R_after (v := (.slice (some ⟨go39, 0, none⟩) x12_2.length co45)) (v1 := (.slice (some ⟨go39, 0, none⟩) x12_2.length co45)) (ok := (fun k_ => some k_ ≠ (.slice (some ⟨go37, 0, none⟩) x11_2.length co42 : Value).ownBlock)) (by (with_reducible repeat (first | apply Kd.R_alloc | apply Kd.R_drewN | apply Kd.R_drew)); exact Kd.R_mono HO_13.out (fun _ hk => ⟨hk.2, hk.1⟩)) hg (.inl rfl)); have n3_ := Aside0.mk (blk_grown (g := gb499) (o := .cells #[.int .i64 a0_0, .int .i64 a0_1, .slice A0_2 l0_2.length c0_2, .int .i64 a0_3] 34 (0, 0)) (nB BK499.out) hg (Kd.R_ne HO_12.out BK499.out (by decide))); have n4_ := Aside0.mk ((by rw [hw]; exact below_set (HB.out) GB39.out : Below w.heap.size w w50)); clear HO_11; clear HO_12; clear HO_13; clear BK499; clear HB; have HO_11 := n0_; have HO_12 := n1_; have HO_13 := n2_; have BK499 := n3_; have HB := n4_; clear n0_ n1_ n2_ n3_ n4_; clear hg hw hp_; have p40 : 0 ≤ (x14_1 : Int) := of_decide_eq_true nQ; have q40 : (x14_1 : Int) < ((x13_2.length : Int) : Int) := of_decide_eq_true nQ; obtain ⟨go40, co40, eo40, gb40, gl40, cl40, HG40⟩ := Kd.R_form HO_13.out (by omega); (first | cases eo40 | (injection eo40 with ea_ en_ ec_; (first | subst ea_ | (injection ea_ with ea_; subst ea_)); subst ec_; clear en_)); have GB40 := Aside0.mk gb40; have GG40 := Aside0.mk HG40; clear gb40 gl40 HG40; (first | simp only [add_plain] at hx516_0 | skip); obtain ⟨hx40_0, hf40_0⟩ := Kd.R_celln 0 HO_13.out (x14_1 : Int) p40 q40; replace p40 := eq_true p40; replace q40 := eq_true q40; obtain ⟨hy51_, hz51_⟩ := Kd.R_celln 0 HO_13.out (x14_1 : Int) (of_decide_eq_true nQ) (of_decide_eq_true nQ); have HP51 := Kd.R_putg HO_13.out (x14_1 : Int) x15_2) | ((with_reducible refine gate_store (t := 3) (p := 115) rfl ?_); refine store_event (t := 3) (p := 115) (v := ?vo_w52) (w1 := (w50.setCell ⟨go40, (x14_1 : Int).toNat, none⟩ (.int .i64 x15_2))) ?hg ?ho ?hn ?hr ?_; (case ho => rfl); (case hg => rfl); (case hn => rfl); (case hr => first | (go_simp; done) | (go_simp; rfl)); intro w52 hw; have hg : w50.grownBy w52 (some go40) := (by rw [hw]; exact HP51.2); have hp_ : Kd.R (Kd.int .i64) 3 w52 w.heap.size (fun k_ => some k_ ≠ (.slice (some ⟨go37, 0, none⟩) x11_2.length co42 : Value).ownBlock ∧ some k_ ≠ (.slice (some ⟨go39, 0, none⟩) x12_2.length co45 : Value).ownBlock) (.slice (some ⟨go40, 0, none⟩) x13_2.length co46) y519 := (by rw [hw, Ny519.out]; exact HP51.1); clear HP51; have n0_ := Aside0.mk (Kd.R_after (v := (.slice (some ⟨go40, 0, none⟩) x13_2.length co46)) (v1 := (.slice (some ⟨go40, 0, none⟩) x13_2.length co46)) (ok := (fun k_ => some k_ ≠ (.slice (some ⟨go39, 0, none⟩) x12_2.length co45 : Value).ownBlock)) (by (with_reducible repeat (first | apply Kd.R_alloc | apply Kd.R_drewN | apply Kd.R_drew)); exact Kd.R_mono HO_11.out (fun _ hk => ⟨hk.2, hk.1⟩)) hg (.inl rfl)); have n1_ := Aside0.mk (Kd.R_after (v := (.slice (some ⟨go40, 0, none⟩) x13_2.length co46)) (v1 := (.slice (some ⟨go40, 0, none⟩) x13_2.length co46)) (ok := (fun k_ => some k_ ≠ (.slice (some ⟨go37, 0, none⟩) x11_2.length co42 : Value).ownBlock)) (by (with_reducible repeat (first | apply Kd.R_alloc | apply Kd.R_drewN | apply Kd.R_drew)); exact Kd.R_mono HO_12.out (fun _ hk => ⟨hk.2, hk.1⟩)) hg (.inl rfl)); have n2_ := Aside0.mk (hp_); have n3_ := Aside0.mk (blk_grown (g := gb499) (o := .cells #[.int .i64 a0_0, .int .i64 a0_1, .slice A0_2 l0_2.length c0_2, .int .i64 a0_3] 34 (0, 0)) (nB BK499.out) hg (Kd.R_ne HO_13.out BK499.out (by decide))); have n4_ := Aside0.mk ((by rw [hw]; exact below_set (HB.out) GB40.out : Below w.heap.size w w52)); clear HO_11; clear HO_12; clear HO_13; clear BK499; clear HB; have HO_11 := n0_; have HO_12 := n1_; have HO_13 := n2_; have BK499 := n3_; have HB := n4_; clear n0_ n1_ n2_ n3_ n4_; clear hg hw hp_))
             go_roundg k2
             case measure => have := HK1.out; have := HK2.out; omega
             case rel => exact ⟨(y517), (y518), (y519), (wrap64 (x15_2 + 1)), nS, H', ⟨by have := HK1.out; have := HK2.out; omega⟩, ⟨by exact nR HO_11.out⟩, ⟨by exact nR HO_12.out⟩, ⟨by exact nR HO_13.out⟩, ⟨by exact nB BK499.out⟩, ⟨nH1 HB.out GE499.out⟩⟩
           · rw [if_neg c35] at H
             have c35b0 : ((rd x13_2 x14_1) == 0) = false := beq_eq_false_iff_ne.mpr c35
             have c35b1 : ((rd x13_2 x14_1) != 0) = true := bne_iff_ne.mpr c35
             by_cases c53 : x14_1 < (x11_2.length : Int)
             rotate_left
             · (rw [if_neg c53] at H; exact absurd H (by simp))
             rw [if_pos c53] at H
             have c53b0 : decide (x14_1 < (x11_2.length : Int)) = true := decide_eq_true c53
             clear c53
             by_cases c54 : (wrap64 (t513 + (rd x11_2 x15_2))) < (rd x11_2 x14_1)
             · rw [if_pos c54] at H
               have c54b0 : decide ((wrap64 (t513 + (rd x11_2 x15_2))) < (rd x11_2 x14_1)) = true := decide_eq_true c54
               clear c54
               obtain ⟨y521, hy521⟩ : ∃ y_ : List Int, y_ = (x11_2.set (x14_1 : Int).toNat (wrap64 (t513 + (rd x11_2 x15_2)))) := ⟨_, rfl⟩
               replace H : (if x14_1 < (x12_2.length : Int) then (impl_Split.l1 k2 l1 l2 a3 (wrap64 ((l1.length : Int) - 1)) y521 (x12_2.set (x14_1 : Int).toNat (wrap64 ((rd x12_2 x15_2) + 1))) (x13_2.set (x14_1 : Int).toNat x15_2) x14_1 (wrap64 (x15_2 + 1)) a0_0 a0_1 l0_2 a0_3) else (none)) = some (r1, r2) := by first | (rw [hy521]; with_reducible exact H) | (have H2_ := (Option.bind_some _ _).symm.trans H; rw [hy521]; with_reducible exact H2_) | (have H2_ := (Option.bind_some _ _).symm.trans H; with_reducible exact H2_) | with_reducible exact H | (rw [hy521]; exact H) | exact H
               have Ny521 := Aside0.mk hy521
               clear hy521
               by_cases c56 : x14_1 < (x12_2.length : Int)
               rotate_left
               · (rw [if_neg c56] at H; exact absurd H (by simp))
               rw [if_pos c56] at H
               have c56b0 : decide (x14_1 < (x12_2.length : Int)) = true := decide_eq_true c56
               clear c56
               obtain ⟨y522, hy522⟩ : ∃ y_ : List Int, y_ = (x12_2.set (x14_1 : Int).toNat (wrap64 ((rd x12_2 x15_2) + 1))) := ⟨_, rfl⟩
               replace H : (impl_Split.l1 k2 l1 l2 a3 (wrap64 ((l1.length : Int) - 1)) y521 y522 (x13_2.set (x14_1 : Int).toNat x15_2) x14_1 (wrap64 (x15_2 + 1)) a0_0 a0_1 l0_2 a0_3) = some (r1, r2) := by first | (rw [hy522]; with_reducible exact H) | (have H2_ := (Option.bind_some _ _).symm.trans H; rw [hy522]; with_reducible exact H2_) | (have H2_ := (Option.bind_some _ _).symm.trans H; with_reducible exact H2_) | with_reducible exact H | (rw [hy522]; exact H) | exact H
               have Ny522 := Aside0.mk hy522
               clear hy522
               obtain ⟨y523, hy523⟩ : ∃ y_ : List Int, y_ = (x13_2.set (x14_1 : Int).toNat x15_2) := ⟨_, rfl⟩
               replace H : (impl_Split.l1 k2 l1 l2 a3 (wrap64 ((l1.length : Int) - 1)) y521 y522 y523 x14_1 (wrap64 (x15_2 + 1)) a0_0 a0_1 l0_2 a0_3) = some (r1, r2) := by first | (rw [hy523]; with_reducible exact H) | (have H2_ := (Option.bind_some _ _).symm.trans H; rw [hy523]; with_reducible exact H2_) | (have H2_ := (Option.bind_some _ _).symm.trans H; with_reducible exact H2_) | with_reducible exact H | (rw [hy523]; exact H) | exact H
               have Ny523 := Aside0.mk hy523
               clear hy523
               have H' := Aside0.mk H
               clear H
               try go_wp2
               have n0_ := Aside0.mk (Kd.R_drew HO_11.out)
               have n1_ := Aside0.mk (Kd.R_drew HO_12.out)
               have n2_ := Aside0.mk (Kd.R_drew HO_13.out)
               have n3_ := Aside0.mk (blk_drew BK499.out)
               have n4_ := Aside0.mk (below_drew1 HB.out)
               clear HO_11; clear HO_12; clear HO_13; clear BK499; clear HB; have HO_11 := n0_; have HO_12 := n1_; have HO_13 := n2_; have BK499 := n3_; have HB := n4_; clear n0_ n1_ n2_ n3_ n4_
               have p510 : 0 ≤ (x14_1 : Int) := of_decide_eq_true nQ
               have q510 : x14_1 < (l1.length : Int) := of_decide_eq_true nQ
               obtain ⟨ad510, e510, hx510_0⟩ := Kd.at_int HR1.out x14_1 p510 q510
               have hw510_0 := hx510_0; cases e510
               replace hx510_0 := (HB.out.cell (World.block_lt_of_cell? w _ hx510_0)).trans hx510_0
               replace p510 := eq_true p510; replace q510 := eq_true q510
               have p511 : 0 ≤ (x15_2 : Int) := of_decide_eq_true nQ
               have q511 : x15_2 < (l1.length : Int) := of_decide_eq_true nQ
               obtain ⟨ad511, e511, hx511_0⟩ := Kd.at_int HR1.out x15_2 p511 q511
               have hw511_0 := hx511_0
               obtain rfl : ad510 = ad511 := (by injection e511)
               replace hx511_0 := (HB.out.cell (World.block_lt_of_cell? w _ hx511_0)).trans hx511_0
               replace p511 := eq_true p511; replace q511 := eq_true q511
               obtain ⟨Ao60, co60, eo60⟩ := Kd.R_slice HO_11.out
               (first | subst eo60 | (injection eo60 with f1_ f2_ f3_; have f4_ := f1_.symm; have f5_ := f3_.symm; clear f1_ f2_ f3_; subst f4_; subst f5_))
               have p514 : 0 ≤ (x15_2 : Int) := of_decide_eq_true nQ
               have q514 : x15_2 < (x11_2.length : Int) := of_decide_eq_true nQ
               obtain ⟨ad514, e514, hx514_0⟩ := Kd.at_int (Kd.R_reads' HO_11.out).2.2 x15_2 p514 q514
               cases e514; replace p514 := eq_true p514; replace q514 := eq_true q514
               refine start_ (n := 20) (S := fun w' => w'.cell? ⟨gb499, 0, none⟩ = some (.int .i64 a0_0) ∧ w'.cell? ⟨gb499, 1, none⟩ = some (.int .i64 a0_1) ∧ w'.cell? ⟨gb499, 2, none⟩ = some (.slice A0_2 l0_2.length c0_2) ∧ w'.cell? ⟨gb499, 3, none⟩ = some (.int .i64 a0_3) ∧ w'.cell? (ad510.add (x14_1).toNat) = some (.int .i64 (rd l1 x14_1)) ∧ w'.cell? (ad510.add (x15_2).toNat) = some (.int .i64 (rd l1 x15_2)) ∧ w'.cell? (ad514.add (x15_2).toNat) = some (.int .i64 (rd x11_2 x15_2))) (ds := []) #[F,F,F,F,F,F,F,F,F,F,F,F,F,F,F,F,F,F,F,F] (by kernel_rfl) rfl rfl ⟨(blk_cell BK499.out 0).trans rfl, (blk_cell BK499.out 1).trans rfl, (blk_cell BK499.out 2).trans rfl, (blk_cell BK499.out 3).trans rfl, (nC HB.out hw510_0 :), (nC HB.out hw511_0 :), hx514_0⟩ (fun hHeld => ?_); refine with_tabW impl_Split.tab11 impl_Split.bits11 (fun HT_ HW_ => ?_)
               generalize wr.drew = w59 at HO_11 HO_12 HO_13 BK499 HB hx510_0 hx511_0 hx514_0 hHeld ⊢
               refine qU 2 (some 53) rfl rfl HT_.out ?_
               refine qU 3 (some 54) rfl rfl HT_.out ?_
               refine qU 4 (some 55) rfl rfl HT_.out ?_
               refine qU 6 (some 57) rfl rfl HT_.out ?_
               refine qU 7 (some 58) rfl rfl HT_.out ?_
               refine qU 8 (some 59) rfl rfl HT_.out ?_
               refine qU 11 (some 62) rfl rfl HT_.out ?_
               refine qU 12 (some 63) rfl rfl HT_.out ?_
               refine qU 14 (some 65) rfl rfl HT_.out ?_
               refine qU 15 (some 66) rfl rfl HT_.out ?_
               refine qU 16 (some 67) rfl rfl HT_.out ?_
               refine qT7 0 (some 51) rfl rfl HT_.out HW_.out hHeld ?_
               refine qT7 1 (some 52) rfl rfl HT_.out HW_.out hHeld ?_
               refine qT7 5 (some 56) rfl rfl HT_.out HW_.out hHeld ?_
               refine qT7 9 (some 60) rfl rfl HT_.out HW_.out hHeld ?_
               refine qT7 17 (some 68) rfl rfl HT_.out HW_.out hHeld ?_
               refine one_ (i := 10) (N := some 61) #[T,T,T,T,T,T,T,T,T,T,T,T,T,F,T,T,T,T,F,F] rfl rfl (one_of HT_.out (by kernel_rfl)) (by decide) (fun K hK => ?_)
               refine goes_ Try.func48 (by kernel_rfl) rfl #[.agg #[.int .i64 a0_0, .int .i64 a0_1, .slice A0_2 l0_2.length c0_2, .int .i64 a0_3], .int .i64 (rd l1 x14_1), .int .i64 (rd l1 x15_2)] (by rfl) rfl rfl nM ?_
               with_reducible refine (impl_fare.calls k2 a0_0 a0_1 _ _ l0_2 a0_3 (rd l1 x14_1) (rd l1 x15_2) t512 _ ?side1 ?side2 A30.out).mono ?_
               (case side1 => exact nD HR0_2.out HB.out)
               (case side2 => exact HC0_2.out)
               rintro e w61 ⟨rfl, hb⟩
               have HS6_ := (hb.cell (World.block_lt_of_cell? _ _ (hHeld.2.2.2.2.2.2))).trans (hHeld.2.2.2.2.2.2)
               refine ⟨_, rfl, ?_⟩
               have n0_ := Aside0.mk (Kd.R_below (nR HO_11.out) hb)
               have n1_ := Aside0.mk (Kd.R_below (nR HO_12.out) hb)
               have n2_ := Aside0.mk (Kd.R_below (nR HO_13.out) hb)
               have n3_ := Aside0.mk (blk_below (g := gb499) (o := .cells #[.int .i64 a0_0, .int .i64 a0_1, .slice A0_2 l0_2.length c0_2, .int .i64 a0_3] 34 (0, 0)) (nB BK499.out) hb)
               have n4_ := Aside0.mk (below_step (nH1 HB.out GE499.out) hb)
               clear HO_11; clear HO_12; clear HO_13; clear BK499; clear HB; have HO_11 := n0_; have HO_12 := n1_; have HO_13 := n2_; have BK499 := n3_; have HB := n4_; clear n0_ n1_ n2_ n3_ n4_; (try clear hb); (try clear hb2); (try clear hk); (try clear hi)
               refine hK.out _ _ ⟨(blk_cell BK499.out 0).trans rfl, (blk_cell BK499.out 1).trans rfl, (blk_cell BK499.out 2).trans rfl, (blk_cell BK499.out 3).trans rfl, (nC HB.out hw510_0 :), (nC HB.out hw511_0 :), HS6_⟩ (fun hHeld => ?_)
               clear hK K
               refine norm_ (a' := ?_) ?_ ?_
               rotate_left
               · show Act.put _ (some 61) _ = _
                 simp only [Act.put, List.setIfInBounds_toArray, List.set_cons_zero, List.set_cons_succ, i64_w, i32_w]
                 rfl
               refine one_ (i := 13) (N := some 64) #[T,T,T,T,T,T,T,T,T,T,T,T,T,T,T,T,T,T,F,F] rfl rfl (one_of HT_.out (by kernel_rfl)) (by decide) (fun K hK => ?_)
               refine goes_ Try.func53 (by kernel_rfl) rfl #[.agg #[.int .i64 a0_0, .int .i64 a0_1, .slice A0_2 l0_2.length c0_2, .int .i64 a0_3], .int .i64 t512, .slice A2 l2.length c2, .int .i64 a3] (by rfl) rfl rfl nM ?_
               with_reducible refine (impl_carded.calls k2 a0_0 a0_1 _ _ l0_2 a0_3 t512 _ _ l2 a3 t513 _ ?side1 ?side2 ?side3 ?side4 A31.out).mono ?_
               (case side1 => exact nD HR0_2.out HB.out)
               (case side2 => exact HC0_2.out)
               (case side3 => exact nD HR2.out HB.out)
               (case side4 => exact HC2.out)
               rintro e w62 ⟨rfl, hb⟩
               have HS6_ := (hb.cell (World.block_lt_of_cell? _ _ (hHeld.2.2.2.2.2.2))).trans (hHeld.2.2.2.2.2.2)
               refine ⟨_, rfl, ?_⟩
               have n0_ := Aside0.mk (Kd.R_below (nR HO_11.out) hb)
               have n1_ := Aside0.mk (Kd.R_below (nR HO_12.out) hb)
               have n2_ := Aside0.mk (Kd.R_below (nR HO_13.out) hb)
               have n3_ := Aside0.mk (blk_below (g := gb499) (o := .cells #[.int .i64 a0_0, .int .i64 a0_1, .slice A0_2 l0_2.length c0_2, .int .i64 a0_3] 34 (0, 0)) (nB BK499.out) hb)
               have n4_ := Aside0.mk (below_step (nH1 HB.out GE499.out) hb)
               clear HO_11; clear HO_12; clear HO_13; clear BK499; clear HB; have HO_11 := n0_; have HO_12 := n1_; have HO_13 := n2_; have BK499 := n3_; have HB := n4_; clear n0_ n1_ n2_ n3_ n4_; (try clear hb); (try clear hb2); (try clear hk); (try clear hi)
               refine hK.out _ _ ⟨(blk_cell BK499.out 0).trans rfl, (blk_cell BK499.out 1).trans rfl, (blk_cell BK499.out 2).trans rfl, (blk_cell BK499.out 3).trans rfl, (nC HB.out hw510_0 :), (nC HB.out hw511_0 :), HS6_⟩ (fun hHeld => ?_)
               clear hK K
               refine norm_ (a' := ?_) ?_ ?_
               rotate_left
               · show Act.put _ (some 64) _ = _
                 simp only [Act.put, List.setIfInBounds_toArray, List.set_cons_zero, List.set_cons_succ, i64_w, i32_w]
                 rfl
               refine qU 18 (some 69) rfl rfl HT_.out ?_
               refine qU 19 (some 16) rfl rfl HT_.out ?_
               refine done_ (done_of HT_.out (by kernel_rfl)) ?_
               obtain ⟨Ao63, co63, eo63⟩ := Kd.R_slice HO_12.out
               subst eo63
               have p515 : 0 ≤ (x15_2 : Int) := of_decide_eq_true nQ
               have q515 : x15_2 < (x12_2.length : Int) := of_decide_eq_true nQ
               obtain ⟨ad515, e515, hx515_0⟩ := Kd.at_int (Kd.R_reads' HO_12.out).2.2 x15_2 p515 q515
               cases e515; replace p515 := eq_true p515; replace q515 := eq_true q515
               obtain ⟨Ao64, co64, eo64⟩ := Kd.R_slice HO_13.out
               subst eo64
               have p516 : 0 ≤ (x14_1 : Int) := of_decide_eq_true nQ
               have q516 : x14_1 < (x13_2.length : Int) := of_decide_eq_true nQ
               obtain ⟨ad516, e516, hx516_0⟩ := Kd.at_int (Kd.R_reads' HO_13.out).2.2 x14_1 p516 q516
               cases e516; replace p516 := eq_true p516; replace q516 := eq_true q516
               have p520 : 0 ≤ (x14_1 : Int) := of_decide_eq_true nQ
               have q520 : x14_1 < (x11_2.length : Int) := of_decide_eq_true nQ
               obtain ⟨ad520, e520, hx520_0⟩ := Kd.at_int (Kd.R_reads' HO_11.out).2.2 x14_1 p520 q520
               obtain rfl : ad514 = ad520 := (by injection e520)
               replace p520 := eq_true p520; replace q520 := eq_true q520
               have p55 : 0 ≤ (x14_1 : Int) := of_decide_eq_true nQ
               have q55 : (x14_1 : Int) < ((x11_2.length : Int) : Int) := of_decide_eq_true nQ
               obtain ⟨go55, co55, eo55, gb55, gl55, cl55, HG55⟩ := Kd.R_form HO_11.out (by omega)
               (first | cases eo55 | (injection eo55 with ea_ en_ ec_; (first | subst ea_ | (injection ea_ with ea_; subst ea_)); subst ec_; clear en_))
               have GB55 := Aside0.mk gb55
               have GG55 := Aside0.mk HG55
               clear gb55 gl55 HG55
               (first | simp only [add_plain] at hx514_0 | skip)
               (first | simp only [add_plain] at hx520_0 | skip)
               obtain ⟨hx55_0, hf55_0⟩ := Kd.R_celln 0 HO_11.out (x14_1 : Int) p55 q55
               replace p55 := eq_true p55; replace q55 := eq_true q55
               obtain ⟨hy65_, hz65_⟩ := Kd.R_celln 0 HO_11.out (x14_1 : Int) (of_decide_eq_true nQ) (of_decide_eq_true nQ)
               have HP65 := Kd.R_putg HO_11.out (x14_1 : Int) (wrap64 (t513 + (rd x11_2 x15_2)))
               try go_wp2_with (first | ((with_reducible refine gate_store (t := 3) (p := 113) rfl ?_); refine store_event (t := 3) (p := 113) (v := ?vo_w66) (w1 := (w62.setCell ⟨go55, (x14_1 : Int).toNat, none⟩ (.int .i64 (wrap64 (t513 + (rd x11_2 x15_2)))))) ?hg ?ho ?hn ?hr ?_; (case ho => rfl); (case hg => rfl); (case hn => rfl); (case hr => first | (go_simp; done) | (go_simp; rfl)); intro w66 hw; have hg : w62.grownBy w66 (some go55) := (by rw [hw]; exact HP65.2); have hp_ : Kd.R (Kd.int .i64) 3 w66 w.heap.size (fun k_ => some k_ ≠ (.slice (some ad515) x12_2.length co63 : Value).ownBlock ∧ some k_ ≠ (.slice (some ad516) x13_2.length co64 : Value).ownBlock) (.slice (some ⟨go55, 0, none⟩) x11_2.length co60) y521 := (by rw [hw, Ny521.out]; exact HP65.1); clear HP65; have n0_ := Aside0.mk (hp_); have n1_ := Aside0.mk (Kd.R_after (v := (.slice (some ⟨go55, 0, none⟩) x11_2.length co60)) (v1 := (.slice (some ⟨go55, 0, none⟩) x11_2.length co60)) (ok := (fun k_ => some k_ ≠ (.slice (some ad516) x13_2.length co64 : Value).ownBlock)) (by (with_reducible repeat (first | apply Kd.R_alloc | apply Kd.R_drewN | apply Kd.R_drew)); exact Kd.R_mono HO_12.out (fun _ hk => ⟨hk.2, hk.1⟩)) hg (.inl rfl)); have n2_ := Aside0.mk (Kd.R_after (v := (.slice (some ⟨go55, 0, none⟩) x11_2.length co60)) (v1 := (.slice (some ⟨go55, 0, none⟩) x11_2.length co60)) (ok := (fun k_ => some k_ ≠ (.slice (some ad515) x12_2.length co63 : Value).ownBlock)) (by (with_reducible repeat (first | apply Kd.R_alloc | apply Kd.R_drewN | apply Kd.R_drew)); exact Kd.R_mono HO_13.out (fun _ hk => ⟨hk.2, hk.1⟩)) hg (.inl rfl)); have n3_ := Aside0.mk (blk_grown (g := gb499) (o := .cells #[.int .i64 a0_0, .int .i64 a0_1, .slice A0_2 l0_2.length c0_2, .int .i64 a0_3] 34 (0, 0)) (nB BK499.out) hg (Kd.R_ne HO_11.out BK499.out (by decide))); have n4_ := Aside0.mk ((by rw [hw]; exact below_set (HB.out) GB55.out : Below w.heap.size w w66)); clear HO_11; clear HO_12; clear HO_13; clear BK499; clear HB; have HO_11 := n0_; have HO_12 := n1_; have HO_13 := n2_; have BK499 := n3_; have HB := n4_; clear n0_ n1_ n2_ n3_ n4_; clear hg hw hp_; have p57 : 0 ≤ (x14_1 : Int) := of_decide_eq_true nQ; have q57 : (x14_1 : Int) < ((x12_2.length : Int) : Int) := of_decide_eq_true nQ; obtain ⟨go57, co57, eo57, gb57, gl57, cl57, HG57⟩ := Kd.R_form HO_12.out (by omega); (first | cases eo57 | (injection eo57 with ea_ en_ ec_; (first | subst ea_ | (injection ea_ with ea_; subst ea_)); subst ec_; clear en_)); have GB57 := Aside0.mk gb57; have GG57 := Aside0.mk HG57; clear gb57 gl57 HG57; (first | simp only [add_plain] at hx515_0 | skip); obtain ⟨hx57_0, hf57_0⟩ := Kd.R_celln 0 HO_12.out (x14_1 : Int) p57 q57; replace p57 := eq_true p57; replace q57 := eq_true q57; obtain ⟨hy67_, hz67_⟩ := Kd.R_celln 0 HO_12.out (x14_1 : Int) (of_decide_eq_true nQ) (of_decide_eq_true nQ); have HP67 := Kd.R_putg HO_12.out (x14_1 : Int) (wrap64 ((rd x12_2 x15_2) + 1))) | ((with_reducible refine gate_store (t := 3) (p := 114) rfl ?_); refine store_event (t := 3) (p := 114) (v := ?vo_w68) (w1 := (w66.setCell ⟨go57, (x14_1 : Int).toNat, none⟩ (.int .i64 (wrap64 ((rd x12_2 x15_2) + 1))))) ?hg ?ho ?hn ?hr ?_; (case ho => rfl); (case hg => rfl); (case hn => rfl); (case hr => first | (go_simp; done) | (go_simp; rfl)); intro w68 hw; have hg : w66.grownBy w68 (some go57) := (by rw [hw]; exact HP67.2); have hp_ : Kd.R (Kd.int .i64) 3 w68 w.heap.size (fun k_ => some k_ ≠ (.slice (some ad516) x13_2.length co64 : Value).ownBlock ∧ some k_ ≠ (.slice (some ⟨go55, 0, none⟩) x11_2.length co60 : Value).ownBlock) (.slice (some ⟨go57, 0, none⟩) x12_2.length co63) y522 := (by rw [hw, Ny522.out]; exact HP67.1); clear HP67; have n0_ := Aside0.mk (Kd.R_after (v := (.slice (some ⟨go57, 0, none⟩) x12_2.length co63)) (v1 := (.slice (some ⟨go57, 0, none⟩) x12_2.length co63)) (ok := (fun k_ => some k_ ≠ (.slice (some ad516) x13_2.length co64 : Value).ownBlock)) (by (with_reducible repeat (first | apply Kd.R_alloc | apply Kd.R_drewN | apply Kd.R_drew)); exact Kd.R_mono HO_11.out (fun _ hk => ⟨hk.2, hk.1⟩)) hg (.inl rfl)); have n1_ := Aside0.mk (hp_); have n2_ := Aside0.mk (Kd.R_after (v := (.slice (some ⟨go57, 0, none⟩) x12_2.length co63)) (v1 := (.slice (some ⟨go57, 0, none⟩) x12_2.length co63)) (ok := (fun k_ => some k_ ≠ (.slice (some ⟨go55, 0, none⟩) x11_2.length co60 : Value).ownBlock)) (by (with_reducible repeat (first | apply Kd.R_alloc | apply Kd.R_drewN | apply Kd.R_drew)); exact Kd.R_mono HO_13.out (fun _ hk => ⟨hk.2, hk.1⟩)) hg (.inl rfl)); have n3_ := Aside0.mk (blk_grown (g := gb499) (o := .cells #[.int .i64 a0_0, .int .i64 a0_1, .slice A0_2 l0_2.length c0_2, .int .i64 a0_3] 34 (0, 0)) (nB BK499.out) hg (Kd.R_ne HO_12.out BK499.out (by decide))); have n4_ := Aside0.mk ((by rw [hw]; exact below_set (HB.out) GB57.out : Below w.heap.size w w68)); clear HO_11; clear HO_12; clear HO_13; clear BK499; clear HB; have HO_11 := n0_; have HO_12 := n1_; have HO_13 := n2_; have BK499 := n3_; have HB := n4_; clear n0_ n1_ n2_ n3_ n4_; clear hg hw hp_; have p58 : 0 ≤ (x14_1 : Int) := of_decide_eq_true nQ; have q58 : (x14_1 : Int) < ((x13_2.length : Int) : Int) := of_decide_eq_true nQ; obtain ⟨go58, co58, eo58, gb58, gl58, cl58, HG58⟩ := Kd.R_form HO_13.out (by omega); (first | cases eo58 | (injection eo58 with ea_ en_ ec_; (first | subst ea_ | (injection ea_ with ea_; subst ea_)); subst ec_; clear en_)); have GB58 := Aside0.mk gb58; have GG58 := Aside0.mk HG58; clear gb58 gl58 HG58; (first | simp only [add_plain] at hx516_0 | skip); obtain ⟨hx58_0, hf58_0⟩ := Kd.R_celln 0 HO_13.out (x14_1 : Int) p58 q58; replace p58 := eq_true p58; replace q58 := eq_true q58; obtain ⟨hy69_, hz69_⟩ := Kd.R_celln 0 HO_13.out (x14_1 : Int) (of_decide_eq_true nQ) (of_decide_eq_true nQ); have HP69 := Kd.R_putg HO_13.out (x14_1 : Int) x15_2) | ((with_reducible refine gate_store (t := 3) (p := 115) rfl ?_); refine store_event (t := 3) (p := 115) (v := ?vo_w70) (w1 := (w68.setCell ⟨go58, (x14_1 : Int).toNat, none⟩ (.int .i64 x15_2))) ?hg ?ho ?hn ?hr ?_; (case ho => rfl); (case hg => rfl); (case hn => rfl); (case hr => first | (go_simp; done) | (go_simp; rfl)); intro w70 hw; have hg : w68.grownBy w70 (some go58) := (by rw [hw]; exact HP69.2); have hp_ : Kd.R (Kd.int .i64) 3 w70 w.heap.size (fun k_ => some k_ ≠ (.slice (some ⟨go55, 0, none⟩) x11_2.length co60 : Value).ownBlock ∧ some k_ ≠ (.slice (some ⟨go57, 0, none⟩) x12_2.length co63 : Value).ownBlock) (.slice (some ⟨go58, 0, none⟩) x13_2.length co64) y523 := (by rw [hw, Ny523.out]; exact HP69.1); clear HP69; have n0_ := Aside0.mk (Kd.R_after (v := (.slice (some ⟨go58, 0, none⟩) x13_2.length co64)) (v1 := (.slice (some ⟨go58, 0, none⟩) x13_2.length co64)) (ok := (fun k_ => some k_ ≠ (.slice (some ⟨go57, 0, none⟩) x12_2.length co63 : Value).ownBlock)) (by (with_reducible repeat (first | apply Kd.R_alloc | apply Kd.R_drewN | apply Kd.R_drew)); exact Kd.R_mono HO_11.out (fun _ hk => ⟨hk.2, hk.1⟩)) hg (.inl rfl)); have n1_ := Aside0.mk (Kd.R_after (v := (.slice (some ⟨go58, 0, none⟩) x13_2.length co64)) (v1 := (.slice (some ⟨go58, 0, none⟩) x13_2.length co64)) (ok := (fun k_ => some k_ ≠ (.slice (some ⟨go55, 0, none⟩) x11_2.length co60 : Value).ownBlock)) (by (with_reducible repeat (first | apply Kd.R_alloc | apply Kd.R_drewN | apply Kd.R_drew)); exact Kd.R_mono HO_12.out (fun _ hk => ⟨hk.2, hk.1⟩)) hg (.inl rfl)); have n2_ := Aside0.mk (hp_); have n3_ := Aside0.mk (blk_grown (g := gb499) (o := .cells #[.int .i64 a0_0, .int .i64 a0_1, .slice A0_2 l0_2.length c0_2, .int .i64 a0_3] 34 (0, 0)) (nB BK499.out) hg (Kd.R_ne HO_13.out BK499.out (by decide))); have n4_ := Aside0.mk ((by rw [hw]; exact below_set (HB.out) GB58.out : Below w.heap.size w w70)); clear HO_11; clear HO_12; clear HO_13; clear BK499; clear HB; have HO_11 := n0_; have HO_12 := n1_; have HO_13 := n2_; have BK499 := n3_; have HB := n4_; clear n0_ n1_ n2_ n3_ n4_; clear hg hw hp_))
               go_roundg k2
               case measure => have := HK1.out; have := HK2.out; omega
               case rel => exact ⟨(y521), (y522), (y523), (wrap64 (x15_2 + 1)), nS, H', ⟨by have := HK1.out; have := HK2.out; omega⟩, ⟨by exact nR HO_11.out⟩, ⟨by exact nR HO_12.out⟩, ⟨by exact nR HO_13.out⟩, ⟨by exact nB BK499.out⟩, ⟨nH1 HB.out GE499.out⟩⟩
             · rw [if_neg c54] at H
               have c54b0 : decide ((wrap64 (t513 + (rd x11_2 x15_2))) < (rd x11_2 x14_1)) = false := decide_eq_false c54
               clear c54
               by_cases c71 : (wrap64 (t513 + (rd x11_2 x15_2))) = (rd x11_2 x14_1)
               · rw [if_pos c71] at H
                 have c71b0 : ((wrap64 (t513 + (rd x11_2 x15_2))) == (rd x11_2 x14_1)) = true := beq_iff_eq.mpr c71
                 have c71b1 : ((wrap64 (t513 + (rd x11_2 x15_2))) != (rd x11_2 x14_1)) = false := bne_eq_false_iff_eq.mpr c71
                 clear c71
                 by_cases c72 : x14_1 < (x12_2.length : Int)
                 rotate_left
                 · (rw [if_neg c72] at H; exact absurd H (by simp))
                 rw [if_pos c72] at H
                 have c72b0 : decide (x14_1 < (x12_2.length : Int)) = true := decide_eq_true c72
                 clear c72
                 by_cases c73 : (wrap64 ((rd x12_2 x15_2) + 1)) < (rd x12_2 x14_1)
                 · rw [if_pos c73] at H
                   have c73b0 : decide ((wrap64 ((rd x12_2 x15_2) + 1)) < (rd x12_2 x14_1)) = true := decide_eq_true c73
                   clear c73
                   obtain ⟨y526, hy526⟩ : ∃ y_ : List Int, y_ = (x11_2.set (x14_1 : Int).toNat (wrap64 (t513 + (rd x11_2 x15_2)))) := ⟨_, rfl⟩
                   replace H : (impl_Split.l1 k2 l1 l2 a3 (wrap64 ((l1.length : Int) - 1)) y526 (x12_2.set (x14_1 : Int).toNat (wrap64 ((rd x12_2 x15_2) + 1))) (x13_2.set (x14_1 : Int).toNat x15_2) x14_1 (wrap64 (x15_2 + 1)) a0_0 a0_1 l0_2 a0_3) = some (r1, r2) := by first | (rw [hy526]; with_reducible exact H) | (have H2_ := (Option.bind_some _ _).symm.trans H; rw [hy526]; with_reducible exact H2_) | (have H2_ := (Option.bind_some _ _).symm.trans H; with_reducible exact H2_) | with_reducible exact H | (rw [hy526]; exact H) | exact H
                   have Ny526 := Aside0.mk hy526
                   clear hy526
                   obtain ⟨y527, hy527⟩ : ∃ y_ : List Int, y_ = (x12_2.set (x14_1 : Int).toNat (wrap64 ((rd x12_2 x15_2) + 1))) := ⟨_, rfl⟩
                   replace H : (impl_Split.l1 k2 l1 l2 a3 (wrap64 ((l1.length : Int) - 1)) y526 y527 (x13_2.set (x14_1 : Int).toNat x15_2) x14_1 (wrap64 (x15_2 + 1)) a0_0 a0_1 l0_2 a0_3) = some (r1, r2) := by first | (rw [hy527]; with_reducible exact H) | (have H2_ := (Option.bind_some _ _).symm.trans H; rw [hy527]; with_reducible exact H2_) | (have H2_ := (Option.bind_some _ _).symm.trans H; with_reducible exact H2_) | with_reducible exact H | (rw [hy527]; exact H) | exact H
                   have Ny527 := Aside0.mk hy527
                   clear hy527
                   obtain ⟨y528, hy528⟩ : ∃ y_ : List Int, y_ = (x13_2.set (x14_1 : Int).toNat x15_2) := ⟨_, rfl⟩
                   replace H : (impl_Split.l1 k2 l1 l2 a3 (wrap64 ((l1.length : Int) - 1)) y526 y527 y528 x14_1 (wrap64 (x15_2 + 1)) a0_0 a0_1 l0_2 a0_3) = some (r1, r2) := by first | (rw [hy528]; with_reducible exact H) | (have H2_ := (Option.bind_some _ _).symm.trans H; rw [hy528]; with_reducible exact H2_) | (have H2_ := (Option.bind_some _ _).symm.trans H; with_reducible exact H2_) | with_reducible exact H | (rw [hy528]; exact H) | exact H
                   have Ny528 := Aside0.mk hy528
                   clear hy528
                   have H' := Aside0.mk H
                   clear H
                   try go_wp2
                   have n0_ := Aside0.mk (Kd.R_drew HO_11.out)
                   have n1_ := Aside0.mk (Kd.R_drew HO_12.out)
                   have n2_ := Aside0.mk (Kd.R_drew HO_13.out)
                   have n3_ := Aside0.mk (blk_drew BK499.out)
                   have n4_ := Aside0.mk (below_drew1 HB.out)
                   clear HO_11; clear HO_12; clear HO_13; clear BK499; clear HB; have HO_11 := n0_; have HO_12 := n1_; have HO_13 := n2_; have BK499 := n3_; have HB := n4_; clear n0_ n1_ n2_ n3_ n4_
                   have p510 : 0 ≤ (x14_1 : Int) := of_decide_eq_true nQ
                   have q510 : x14_1 < (l1.length : Int) := of_decide_eq_true nQ
                   obtain ⟨ad510, e510, hx510_0⟩ := Kd.at_int HR1.out x14_1 p510 q510
                   have hw510_0 := hx510_0; cases e510
                   replace hx510_0 := (HB.out.cell (World.block_lt_of_cell? w _ hx510_0)).trans hx510_0
                   replace p510 := eq_true p510; replace q510 := eq_true q510
                   have p511 : 0 ≤ (x15_2 : Int) := of_decide_eq_true nQ
                   have q511 : x15_2 < (l1.length : Int) := of_decide_eq_true nQ
                   obtain ⟨ad511, e511, hx511_0⟩ := Kd.at_int HR1.out x15_2 p511 q511
                   have hw511_0 := hx511_0
                   obtain rfl : ad510 = ad511 := (by injection e511)
                   replace hx511_0 := (HB.out.cell (World.block_lt_of_cell? w _ hx511_0)).trans hx511_0
                   replace p511 := eq_true p511; replace q511 := eq_true q511
                   obtain ⟨Ao78, co78, eo78⟩ := Kd.R_slice HO_11.out
                   (first | subst eo78 | (injection eo78 with f1_ f2_ f3_; have f4_ := f1_.symm; have f5_ := f3_.symm; clear f1_ f2_ f3_; subst f4_; subst f5_))
                   have p514 : 0 ≤ (x15_2 : Int) := of_decide_eq_true nQ
                   have q514 : x15_2 < (x11_2.length : Int) := of_decide_eq_true nQ
                   obtain ⟨ad514, e514, hx514_0⟩ := Kd.at_int (Kd.R_reads' HO_11.out).2.2 x15_2 p514 q514
                   cases e514; replace p514 := eq_true p514; replace q514 := eq_true q514
                   refine start_ (n := 20) (S := fun w' => w'.cell? ⟨gb499, 0, none⟩ = some (.int .i64 a0_0) ∧ w'.cell? ⟨gb499, 1, none⟩ = some (.int .i64 a0_1) ∧ w'.cell? ⟨gb499, 2, none⟩ = some (.slice A0_2 l0_2.length c0_2) ∧ w'.cell? ⟨gb499, 3, none⟩ = some (.int .i64 a0_3) ∧ w'.cell? (ad510.add (x14_1).toNat) = some (.int .i64 (rd l1 x14_1)) ∧ w'.cell? (ad510.add (x15_2).toNat) = some (.int .i64 (rd l1 x15_2)) ∧ w'.cell? (ad514.add (x15_2).toNat) = some (.int .i64 (rd x11_2 x15_2))) (ds := []) #[F,F,F,F,F,F,F,F,F,F,F,F,F,F,F,F,F,F,F,F] (by kernel_rfl) rfl rfl ⟨(blk_cell BK499.out 0).trans rfl, (blk_cell BK499.out 1).trans rfl, (blk_cell BK499.out 2).trans rfl, (blk_cell BK499.out 3).trans rfl, (nC HB.out hw510_0 :), (nC HB.out hw511_0 :), hx514_0⟩ (fun hHeld => ?_); refine with_tabW impl_Split.tab11 impl_Split.bits11 (fun HT_ HW_ => ?_)
                   generalize wr.drew = w77 at HO_11 HO_12 HO_13 BK499 HB hx510_0 hx511_0 hx514_0 hHeld ⊢
                   refine qU 2 (some 53) rfl rfl HT_.out ?_
                   refine qU 3 (some 54) rfl rfl HT_.out ?_
                   refine qU 4 (some 55) rfl rfl HT_.out ?_
                   refine qU 6 (some 57) rfl rfl HT_.out ?_
                   refine qU 7 (some 58) rfl rfl HT_.out ?_
                   refine qU 8 (some 59) rfl rfl HT_.out ?_
                   refine qU 11 (some 62) rfl rfl HT_.out ?_
                   refine qU 12 (some 63) rfl rfl HT_.out ?_
                   refine qU 14 (some 65) rfl rfl HT_.out ?_
                   refine qU 15 (some 66) rfl rfl HT_.out ?_
                   refine qU 16 (some 67) rfl rfl HT_.out ?_
                   refine qT7 0 (some 51) rfl rfl HT_.out HW_.out hHeld ?_
                   refine qT7 1 (some 52) rfl rfl HT_.out HW_.out hHeld ?_
                   refine qT7 5 (some 56) rfl rfl HT_.out HW_.out hHeld ?_
                   refine qT7 9 (some 60) rfl rfl HT_.out HW_.out hHeld ?_
                   refine qT7 17 (some 68) rfl rfl HT_.out HW_.out hHeld ?_
                   refine one_ (i := 10) (N := some 61) #[T,T,T,T,T,T,T,T,T,T,T,T,T,F,T,T,T,T,F,F] rfl rfl (one_of HT_.out (by kernel_rfl)) (by decide) (fun K hK => ?_)
                   refine goes_ Try.func48 (by kernel_rfl) rfl #[.agg #[.int .i64 a0_0, .int .i64 a0_1, .slice A0_2 l0_2.length c0_2, .int .i64 a0_3], .int .i64 (rd l1 x14_1), .int .i64 (rd l1 x15_2)] (by rfl) rfl rfl nM ?_
                   with_reducible refine (impl_fare.calls k2 a0_0 a0_1 _ _ l0_2 a0_3 (rd l1 x14_1) (rd l1 x15_2) t512 _ ?side1 ?side2 A30.out).mono ?_
                   (case side1 => exact nD HR0_2.out HB.out)
                   (case side2 => exact HC0_2.out)
                   rintro e w79 ⟨rfl, hb⟩
                   have HS6_ := (hb.cell (World.block_lt_of_cell? _ _ (hHeld.2.2.2.2.2.2))).trans (hHeld.2.2.2.2.2.2)
                   refine ⟨_, rfl, ?_⟩
                   have n0_ := Aside0.mk (Kd.R_below (nR HO_11.out) hb)
                   have n1_ := Aside0.mk (Kd.R_below (nR HO_12.out) hb)
                   have n2_ := Aside0.mk (Kd.R_below (nR HO_13.out) hb)
                   have n3_ := Aside0.mk (blk_below (g := gb499) (o := .cells #[.int .i64 a0_0, .int .i64 a0_1, .slice A0_2 l0_2.length c0_2, .int .i64 a0_3] 34 (0, 0)) (nB BK499.out) hb)
                   have n4_ := Aside0.mk (below_step (nH1 HB.out GE499.out) hb)
                   clear HO_11; clear HO_12; clear HO_13; clear BK499; clear HB; have HO_11 := n0_; have HO_12 := n1_; have HO_13 := n2_; have BK499 := n3_; have HB := n4_; clear n0_ n1_ n2_ n3_ n4_; (try clear hb); (try clear hb2); (try clear hk); (try clear hi)
                   refine hK.out _ _ ⟨(blk_cell BK499.out 0).trans rfl, (blk_cell BK499.out 1).trans rfl, (blk_cell BK499.out 2).trans rfl, (blk_cell BK499.out 3).trans rfl, (nC HB.out hw510_0 :), (nC HB.out hw511_0 :), HS6_⟩ (fun hHeld => ?_)
                   clear hK K
                   refine norm_ (a' := ?_) ?_ ?_
                   rotate_left
                   · show Act.put _ (some 61) _ = _
                     simp only [Act.put, List.setIfInBounds_toArray, List.set_cons_zero, List.set_cons_succ, i64_w, i32_w]
                     rfl
                   refine one_ (i := 13) (N := some 64) #[T,T,T,T,T,T,T,T,T,T,T,T,T,T,T,T,T,T,F,F] rfl rfl (one_of HT_.out (by kernel_rfl)) (by decide) (fun K hK => ?_)
                   refine goes_ Try.func53 (by kernel_rfl) rfl #[.agg #[.int .i64 a0_0, .int .i64 a0_1, .slice A0_2 l0_2.length c0_2, .int .i64 a0_3], .int .i64 t512, .slice A2 l2.length c2, .int .i64 a3] (by rfl) rfl rfl nM ?_
                   with_reducible refine (impl_carded.calls k2 a0_0 a0_1 _ _ l0_2 a0_3 t512 _ _ l2 a3 t513 _ ?side1 ?side2 ?side3 ?side4 A31.out).mono ?_
                   (case side1 => exact nD HR0_2.out HB.out)
                   (case side2 => exact HC0_2.out)
                   (case side3 => exact nD HR2.out HB.out)
                   (case side4 => exact HC2.out)
                   rintro e w80 ⟨rfl, hb⟩
                   have HS6_ := (hb.cell (World.block_lt_of_cell? _ _ (hHeld.2.2.2.2.2.2))).trans (hHeld.2.2.2.2.2.2)
                   refine ⟨_, rfl, ?_⟩
                   have n0_ := Aside0.mk (Kd.R_below (nR HO_11.out) hb)
                   have n1_ := Aside0.mk (Kd.R_below (nR HO_12.out) hb)
                   have n2_ := Aside0.mk (Kd.R_below (nR HO_13.out) hb)
                   have n3_ := Aside0.mk (blk_below (g := gb499) (o := .cells #[.int .i64 a0_0, .int .i64 a0_1, .slice A0_2 l0_2.length c0_2, .int .i64 a0_3] 34 (0, 0)) (nB BK499.out) hb)
                   have n4_ := Aside0.mk (below_step (nH1 HB.out GE499.out) hb)
                   clear HO_11; clear HO_12; clear HO_13; clear BK499; clear HB; have HO_11 := n0_; have HO_12 := n1_; have HO_13 := n2_; have BK499 := n3_; have HB := n4_; clear n0_ n1_ n2_ n3_ n4_; (try clear hb); (try clear hb2); (try clear hk); (try clear hi)
                   refine hK.out _ _ ⟨(blk_cell BK499.out 0).trans rfl, (blk_cell BK499.out 1).trans rfl, (blk_cell BK499.out 2).trans rfl, (blk_cell BK499.out 3).trans rfl, (nC HB.out hw510_0 :), (nC HB.out hw511_0 :), HS6_⟩ (fun hHeld => ?_)
                   clear hK K
                   refine norm_ (a' := ?_) ?_ ?_
                   rotate_left
                   · show Act.put _ (some 64) _ = _
                     simp only [Act.put, List.setIfInBounds_toArray, List.set_cons_zero, List.set_cons_succ, i64_w, i32_w]
                     rfl
                   refine qU 18 (some 69) rfl rfl HT_.out ?_
                   refine qU 19 (some 16) rfl rfl HT_.out ?_
                   refine done_ (done_of HT_.out (by kernel_rfl)) ?_
                   obtain ⟨Ao81, co81, eo81⟩ := Kd.R_slice HO_12.out
                   subst eo81
                   have p515 : 0 ≤ (x15_2 : Int) := of_decide_eq_true nQ
                   have q515 : x15_2 < (x12_2.length : Int) := of_decide_eq_true nQ
                   obtain ⟨ad515, e515, hx515_0⟩ := Kd.at_int (Kd.R_reads' HO_12.out).2.2 x15_2 p515 q515
                   cases e515; replace p515 := eq_true p515; replace q515 := eq_true q515
                   obtain ⟨Ao82, co82, eo82⟩ := Kd.R_slice HO_13.out
                   subst eo82
                   have p516 : 0 ≤ (x14_1 : Int) := of_decide_eq_true nQ
                   have q516 : x14_1 < (x13_2.length : Int) := of_decide_eq_true nQ
                   obtain ⟨ad516, e516, hx516_0⟩ := Kd.at_int (Kd.R_reads' HO_13.out).2.2 x14_1 p516 q516
                   cases e516; replace p516 := eq_true p516; replace q516 := eq_true q516
                   have p520 : 0 ≤ (x14_1 : Int) := of_decide_eq_true nQ
                   have q520 : x14_1 < (x11_2.length : Int) := of_decide_eq_true nQ
                   obtain ⟨ad520, e520, hx520_0⟩ := Kd.at_int (Kd.R_reads' HO_11.out).2.2 x14_1 p520 q520
                   obtain rfl : ad514 = ad520 := (by injection e520)
                   replace p520 := eq_true p520; replace q520 := eq_true q520
                   have p524 : 0 ≤ (x14_1 : Int) := of_decide_eq_true nQ
                   have q524 : x14_1 < (x11_2.length : Int) := of_decide_eq_true nQ
                   obtain ⟨ad524, e524, hx524_0⟩ := Kd.at_int (Kd.R_reads' HO_11.out).2.2 x14_1 p524 q524
                   obtain rfl : ad514 = ad524 := (by injection e524)
                   replace p524 := eq_true p524; replace q524 := eq_true q524
                   have p525 : 0 ≤ (x14_1 : Int) := of_decide_eq_true nQ
                   have q525 : x14_1 < (x12_2.length : Int) := of_decide_eq_true nQ
                   obtain ⟨ad525, e525, hx525_0⟩ := Kd.at_int (Kd.R_reads' HO_12.out).2.2 x14_1 p525 q525
                   obtain rfl : ad515 = ad525 := (by injection e525)
                   replace p525 := eq_true p525; replace q525 := eq_true q525
                   have p74 : 0 ≤ (x14_1 : Int) := of_decide_eq_true nQ
                   have q74 : (x14_1 : Int) < ((x11_2.length : Int) : Int) := of_decide_eq_true nQ
                   obtain ⟨go74, co74, eo74, gb74, gl74, cl74, HG74⟩ := Kd.R_form HO_11.out (by omega)
                   (first | cases eo74 | (injection eo74 with ea_ en_ ec_; (first | subst ea_ | (injection ea_ with ea_; subst ea_)); subst ec_; clear en_))
                   have GB74 := Aside0.mk gb74
                   have GG74 := Aside0.mk HG74
                   clear gb74 gl74 HG74
                   (first | simp only [add_plain] at hx514_0 | skip)
                   (first | simp only [add_plain] at hx520_0 | skip)
                   (first | simp only [add_plain] at hx524_0 | skip)
                   obtain ⟨hx74_0, hf74_0⟩ := Kd.R_celln 0 HO_11.out (x14_1 : Int) p74 q74
                   replace p74 := eq_true p74; replace q74 := eq_true q74
                   obtain ⟨hy83_, hz83_⟩ := Kd.R_celln 0 HO_11.out (x14_1 : Int) (of_decide_eq_true nQ) (of_decide_eq_true nQ)
                   have HP83 := Kd.R_putg HO_11.out (x14_1 : Int) (wrap64 (t513 + (rd x11_2 x15_2)))
                   try go_wp2_with (first | ((with_reducible refine gate_store (t := 3) (p := 113) rfl ?_); refine store_event (t := 3) (p := 113) (v := ?vo_w84) (w1 := (w80.setCell ⟨go74, (x14_1 : Int).toNat, none⟩ (.int .i64 (wrap64 (t513 + (rd x11_2 x15_2)))))) ?hg ?ho ?hn ?hr ?_; (case ho => rfl); (case hg => rfl); (case hn => rfl); (case hr => first | (go_simp; done) | (go_simp; rfl)); intro w84 hw; have hg : w80.grownBy w84 (some go74) := (by rw [hw]; exact HP83.2); have hp_ : Kd.R (Kd.int .i64) 3 w84 w.heap.size (fun k_ => some k_ ≠ (.slice (some ad515) x12_2.length co81 : Value).ownBlock ∧ some k_ ≠ (.slice (some ad516) x13_2.length co82 : Value).ownBlock) (.slice (some ⟨go74, 0, none⟩) x11_2.length co78) y526 := (by rw [hw, Ny526.out]; exact HP83.1); clear HP83; have n0_ := Aside0.mk (hp_); have n1_ := Aside0.mk (Kd.R_after (v := (.slice (some ⟨go74, 0, none⟩) x11_2.length co78)) (v1 := (.slice (some ⟨go74, 0, none⟩) x11_2.length co78)) (ok := (fun k_ => some k_ ≠ (.slice (some ad516) x13_2.length co82 : Value).ownBlock)) (by (with_reducible repeat (first | apply Kd.R_alloc | apply Kd.R_drewN | apply Kd.R_drew)); exact Kd.R_mono HO_12.out (fun _ hk => ⟨hk.2, hk.1⟩)) hg (.inl rfl)); have n2_ := Aside0.mk (Kd.R_after (v := (.slice (some ⟨go74, 0, none⟩) x11_2.length co78)) (v1 := (.slice (some ⟨go74, 0, none⟩) x11_2.length co78)) (ok := (fun k_ => some k_ ≠ (.slice (some ad515) x12_2.length co81 : Value).ownBlock)) (by (with_reducible repeat (first | apply Kd.R_alloc | apply Kd.R_drewN | apply Kd.R_drew)); exact Kd.R_mono HO_13.out (fun _ hk => ⟨hk.2, hk.1⟩)) hg (.inl rfl)); have n3_ := Aside0.mk (blk_grown (g := gb499) (o := .cells #[.int .i64 a0_0, .int .i64 a0_1, .slice A0_2 l0_2.length c0_2, .int .i64 a0_3] 34 (0, 0)) (nB BK499.out) hg (Kd.R_ne HO_11.out BK499.out (by decide))); have n4_ := Aside0.mk ((by rw [hw]; exact below_set (HB.out) GB74.out : Below w.heap.size w w84)); clear HO_11; clear HO_12; clear HO_13; clear BK499; clear HB; have HO_11 := n0_; have HO_12 := n1_; have HO_13 := n2_; have BK499 := n3_; have HB := n4_; clear n0_ n1_ n2_ n3_ n4_; clear hg hw hp_; have p75 : 0 ≤ (x14_1 : Int) := of_decide_eq_true nQ; have q75 : (x14_1 : Int) < ((x12_2.length : Int) : Int) := of_decide_eq_true nQ; obtain ⟨go75, co75, eo75, gb75, gl75, cl75, HG75⟩ := Kd.R_form HO_12.out (by omega); (first | cases eo75 | (injection eo75 with ea_ en_ ec_; (first | subst ea_ | (injection ea_ with ea_; subst ea_)); subst ec_; clear en_)); have GB75 := Aside0.mk gb75; have GG75 := Aside0.mk HG75; clear gb75 gl75 HG75; (first | simp only [add_plain] at hx515_0 | skip); (first | simp only [add_plain] at hx525_0 | skip); obtain ⟨hx75_0, hf75_0⟩ := Kd.R_celln 0 HO_12.out (x14_1 : Int) p75 q75; replace p75 := eq_true p75; replace q75 := eq_true q75; obtain ⟨hy85_, hz85_⟩ := Kd.R_celln 0 HO_12.out (x14_1 : Int) (of_decide_eq_true nQ) (of_decide_eq_true nQ); have HP85 := Kd.R_putg HO_12.out (x14_1 : Int) (wrap64 ((rd x12_2 x15_2) + 1))) | ((with_reducible refine gate_store (t := 3) (p := 114) rfl ?_); refine store_event (t := 3) (p := 114) (v := ?vo_w86) (w1 := (w84.setCell ⟨go75, (x14_1 : Int).toNat, none⟩ (.int .i64 (wrap64 ((rd x12_2 x15_2) + 1))))) ?hg ?ho ?hn ?hr ?_; (case ho => rfl); (case hg => rfl); (case hn => rfl); (case hr => first | (go_simp; done) | (go_simp; rfl)); intro w86 hw; have hg : w84.grownBy w86 (some go75) := (by rw [hw]; exact HP85.2); have hp_ : Kd.R (Kd.int .i64) 3 w86 w.heap.size (fun k_ => some k_ ≠ (.slice (some ad516) x13_2.length co82 : Value).ownBlock ∧ some k_ ≠ (.slice (some ⟨go74, 0, none⟩) x11_2.length co78 : Value).ownBlock) (.slice (some ⟨go75, 0, none⟩) x12_2.length co81) y527 := (by rw [hw, Ny527.out]; exact HP85.1); clear HP85; have n0_ := Aside0.mk (Kd.R_after (v := (.slice (some ⟨go75, 0, none⟩) x12_2.length co81)) (v1 := (.slice (some ⟨go75, 0, none⟩) x12_2.length co81)) (ok := (fun k_ => some k_ ≠ (.slice (some ad516) x13_2.length co82 : Value).ownBlock)) (by (with_reducible repeat (first | apply Kd.R_alloc | apply Kd.R_drewN | apply Kd.R_drew)); exact Kd.R_mono HO_11.out (fun _ hk => ⟨hk.2, hk.1⟩)) hg (.inl rfl)); have n1_ := Aside0.mk (hp_); have n2_ := Aside0.mk (Kd.R_after (v := (.slice (some ⟨go75, 0, none⟩) x12_2.length co81)) (v1 := (.slice (some ⟨go75, 0, none⟩) x12_2.length co81)) (ok := (fun k_ => some k_ ≠ (.slice (some ⟨go74, 0, none⟩) x11_2.length co78 : Value).ownBlock)) (by (with_reducible repeat (first | apply Kd.R_alloc | apply Kd.R_drewN | apply Kd.R_drew)); exact Kd.R_mono HO_13.out (fun _ hk => ⟨hk.2, hk.1⟩)) hg (.inl rfl)); have n3_ := Aside0.mk (blk_grown (g := gb499) (o := .cells #[.int .i64 a0_0, .int .i64 a0_1, .slice A0_2 l0_2.length c0_2, .int .i64 a0_3] 34 (0, 0)) (nB BK499.out) hg (Kd.R_ne HO_12.out BK499.out (by decide))); have n4_ := Aside0.mk ((by rw [hw]; exact below_set (HB.out) GB75.out : Below w.heap.size w w86)); clear HO_11; clear HO_12; clear HO_13; clear BK499; clear HB; have HO_11 := n0_; have HO_12 := n1_; have HO_13 := n2_; have BK499 := n3_; have HB := n4_; clear n0_ n1_ n2_ n3_ n4_; clear hg hw hp_; have p76 : 0 ≤ (x14_1 : Int) := of_decide_eq_true nQ; have q76 : (x14_1 : Int) < ((x13_2.length : Int) : Int) := of_decide_eq_true nQ; obtain ⟨go76, co76, eo76, gb76, gl76, cl76, HG76⟩ := Kd.R_form HO_13.out (by omega); (first | cases eo76 | (injection eo76 with ea_ en_ ec_; (first | subst ea_ | (injection ea_ with ea_; subst ea_)); subst ec_; clear en_)); have GB76 := Aside0.mk gb76; have GG76 := Aside0.mk HG76; clear gb76 gl76 HG76; (first | simp only [add_plain] at hx516_0 | skip); obtain ⟨hx76_0, hf76_0⟩ := Kd.R_celln 0 HO_13.out (x14_1 : Int) p76 q76; replace p76 := eq_true p76; replace q76 := eq_true q76; obtain ⟨hy87_, hz87_⟩ := Kd.R_celln 0 HO_13.out (x14_1 : Int) (of_decide_eq_true nQ) (of_decide_eq_true nQ); have HP87 := Kd.R_putg HO_13.out (x14_1 : Int) x15_2) | ((with_reducible refine gate_store (t := 3) (p := 115) rfl ?_); refine store_event (t := 3) (p := 115) (v := ?vo_w88) (w1 := (w86.setCell ⟨go76, (x14_1 : Int).toNat, none⟩ (.int .i64 x15_2))) ?hg ?ho ?hn ?hr ?_; (case ho => rfl); (case hg => rfl); (case hn => rfl); (case hr => first | (go_simp; done) | (go_simp; rfl)); intro w88 hw; have hg : w86.grownBy w88 (some go76) := (by rw [hw]; exact HP87.2); have hp_ : Kd.R (Kd.int .i64) 3 w88 w.heap.size (fun k_ => some k_ ≠ (.slice (some ⟨go74, 0, none⟩) x11_2.length co78 : Value).ownBlock ∧ some k_ ≠ (.slice (some ⟨go75, 0, none⟩) x12_2.length co81 : Value).ownBlock) (.slice (some ⟨go76, 0, none⟩) x13_2.length co82) y528 := (by rw [hw, Ny528.out]; exact HP87.1); clear HP87; have n0_ := Aside0.mk (Kd.R_after (v := (.slice (some ⟨go76, 0, none⟩) x13_2.length co82)) (v1 := (.slice (some ⟨go76, 0, none⟩) x13_2.length co82)) (ok := (fun k_ => some k_ ≠ (.slice (some ⟨go75, 0, none⟩) x12_2.length co81 : Value).ownBlock)) (by (with_reducible repeat (first | apply Kd.R_alloc | apply Kd.R_drewN | apply Kd.R_drew)); exact Kd.R_mono HO_11.out (fun _ hk => ⟨hk.2, hk.1⟩)) hg (.inl rfl)); have n1_ := Aside0.mk (Kd.R_after (v := (.slice (some ⟨go76, 0, none⟩) x13_2.length co82)) (v1 := (.slice (some ⟨go76, 0, none⟩) x13_2.length co82)) (ok := (fun k_ => some k_ ≠ (.slice (some ⟨go74, 0, none⟩) x11_2.length co78 : Value).ownBlock)) (by (with_reducible repeat (first | apply Kd.R_alloc | apply Kd.R_drewN | apply Kd.R_drew)); exact Kd.R_mono HO_12.out (fun _ hk => ⟨hk.2, hk.1⟩)) hg (.inl rfl)); have n2_ := Aside0.mk (hp_); have n3_ := Aside0.mk (blk_grown (g := gb499) (o := .cells #[.int .i64 a0_0, .int .i64 a0_1, .slice A0_2 l0_2.length c0_2, .int .i64 a0_3] 34 (0, 0)) (nB BK499.out) hg (Kd.R_ne HO_13.out BK499.out (by decide))); have n4_ := Aside0.mk ((by rw [hw]; exact below_set (HB.out) GB76.out : Below w.heap.size w w88)); clear HO_11; clear HO_12; clear HO_13; clear BK499; clear HB; have HO_11 := n0_; have HO_12 := n1_; have HO_13 := n2_; have BK499 := n3_; have HB := n4_; clear n0_ n1_ n2_ n3_ n4_; clear hg hw hp_))
                   go_roundg k2
                   case measure => have := HK1.out; have := HK2.out; omega
                   case rel => exact ⟨(y526), (y527), (y528), (wrap64 (x15_2 + 1)), nS, H', ⟨by have := HK1.out; have := HK2.out; omega⟩, ⟨by exact nR HO_11.out⟩, ⟨by exact nR HO_12.out⟩, ⟨by exact nR HO_13.out⟩, ⟨by exact nB BK499.out⟩, ⟨nH1 HB.out GE499.out⟩⟩
                 · rw [if_neg c73] at H
                   have c73b0 : decide ((wrap64 ((rd x12_2 x15_2) + 1)) < (rd x12_2 x14_1)) = false := decide_eq_false c73
                   clear c73
                   have H' := Aside0.mk H
                   clear H
                   try go_wp2
                   have n0_ := Aside0.mk (Kd.R_drew HO_11.out)
                   have n1_ := Aside0.mk (Kd.R_drew HO_12.out)
                   have n2_ := Aside0.mk (Kd.R_drew HO_13.out)
                   have n3_ := Aside0.mk (blk_drew BK499.out)
                   have n4_ := Aside0.mk (below_drew1 HB.out)
                   clear HO_11; clear HO_12; clear HO_13; clear BK499; clear HB; have HO_11 := n0_; have HO_12 := n1_; have HO_13 := n2_; have BK499 := n3_; have HB := n4_; clear n0_ n1_ n2_ n3_ n4_
                   have p510 : 0 ≤ (x14_1 : Int) := of_decide_eq_true nQ
                   have q510 : x14_1 < (l1.length : Int) := of_decide_eq_true nQ
                   obtain ⟨ad510, e510, hx510_0⟩ := Kd.at_int HR1.out x14_1 p510 q510
                   have hw510_0 := hx510_0; cases e510
                   replace hx510_0 := (HB.out.cell (World.block_lt_of_cell? w _ hx510_0)).trans hx510_0
                   replace p510 := eq_true p510; replace q510 := eq_true q510
                   have p511 : 0 ≤ (x15_2 : Int) := of_decide_eq_true nQ
                   have q511 : x15_2 < (l1.length : Int) := of_decide_eq_true nQ
                   obtain ⟨ad511, e511, hx511_0⟩ := Kd.at_int HR1.out x15_2 p511 q511
                   have hw511_0 := hx511_0
                   obtain rfl : ad510 = ad511 := (by injection e511)
                   replace hx511_0 := (HB.out.cell (World.block_lt_of_cell? w _ hx511_0)).trans hx511_0
                   replace p511 := eq_true p511; replace q511 := eq_true q511
                   obtain ⟨Ao90, co90, eo90⟩ := Kd.R_slice HO_11.out
                   (first | subst eo90 | (injection eo90 with f1_ f2_ f3_; have f4_ := f1_.symm; have f5_ := f3_.symm; clear f1_ f2_ f3_; subst f4_; subst f5_))
                   have p514 : 0 ≤ (x15_2 : Int) := of_decide_eq_true nQ
                   have q514 : x15_2 < (x11_2.length : Int) := of_decide_eq_true nQ
                   obtain ⟨ad514, e514, hx514_0⟩ := Kd.at_int (Kd.R_reads' HO_11.out).2.2 x15_2 p514 q514
                   cases e514; replace p514 := eq_true p514; replace q514 := eq_true q514
                   refine start_ (n := 20) (S := fun w' => w'.cell? ⟨gb499, 0, none⟩ = some (.int .i64 a0_0) ∧ w'.cell? ⟨gb499, 1, none⟩ = some (.int .i64 a0_1) ∧ w'.cell? ⟨gb499, 2, none⟩ = some (.slice A0_2 l0_2.length c0_2) ∧ w'.cell? ⟨gb499, 3, none⟩ = some (.int .i64 a0_3) ∧ w'.cell? (ad510.add (x14_1).toNat) = some (.int .i64 (rd l1 x14_1)) ∧ w'.cell? (ad510.add (x15_2).toNat) = some (.int .i64 (rd l1 x15_2)) ∧ w'.cell? (ad514.add (x15_2).toNat) = some (.int .i64 (rd x11_2 x15_2))) (ds := []) #[F,F,F,F,F,F,F,F,F,F,F,F,F,F,F,F,F,F,F,F] (by kernel_rfl) rfl rfl ⟨(blk_cell BK499.out 0).trans rfl, (blk_cell BK499.out 1).trans rfl, (blk_cell BK499.out 2).trans rfl, (blk_cell BK499.out 3).trans rfl, (nC HB.out hw510_0 :), (nC HB.out hw511_0 :), hx514_0⟩ (fun hHeld => ?_); refine with_tabW impl_Split.tab11 impl_Split.bits11 (fun HT_ HW_ => ?_)
                   generalize wr.drew = w89 at HO_11 HO_12 HO_13 BK499 HB hx510_0 hx511_0 hx514_0 hHeld ⊢
                   refine qU 2 (some 53) rfl rfl HT_.out ?_
                   refine qU 3 (some 54) rfl rfl HT_.out ?_
                   refine qU 4 (some 55) rfl rfl HT_.out ?_
                   refine qU 6 (some 57) rfl rfl HT_.out ?_
                   refine qU 7 (some 58) rfl rfl HT_.out ?_
                   refine qU 8 (some 59) rfl rfl HT_.out ?_
                   refine qU 11 (some 62) rfl rfl HT_.out ?_
                   refine qU 12 (some 63) rfl rfl HT_.out ?_
                   refine qU 14 (some 65) rfl rfl HT_.out ?_
                   refine qU 15 (some 66) rfl rfl HT_.out ?_
                   refine qU 16 (some 67) rfl rfl HT_.out ?_
                   refine qT7 0 (some 51) rfl rfl HT_.out HW_.out hHeld ?_
                   refine qT7 1 (some 52) rfl rfl HT_.out HW_.out hHeld ?_
                   refine qT7 5 (some 56) rfl rfl HT_.out HW_.out hHeld ?_
                   refine qT7 9 (some 60) rfl rfl HT_.out HW_.out hHeld ?_
                   refine qT7 17 (some 68) rfl rfl HT_.out HW_.out hHeld ?_
                   refine one_ (i := 10) (N := some 61) #[T,T,T,T,T,T,T,T,T,T,T,T,T,F,T,T,T,T,F,F] rfl rfl (one_of HT_.out (by kernel_rfl)) (by decide) (fun K hK => ?_)
                   refine goes_ Try.func48 (by kernel_rfl) rfl #[.agg #[.int .i64 a0_0, .int .i64 a0_1, .slice A0_2 l0_2.length c0_2, .int .i64 a0_3], .int .i64 (rd l1 x14_1), .int .i64 (rd l1 x15_2)] (by rfl) rfl rfl nM ?_
                   with_reducible refine (impl_fare.calls k2 a0_0 a0_1 _ _ l0_2 a0_3 (rd l1 x14_1) (rd l1 x15_2) t512 _ ?side1 ?side2 A30.out).mono ?_
                   (case side1 => exact nD HR0_2.out HB.out)
                   (case side2 => exact HC0_2.out)
                   rintro e w91 ⟨rfl, hb⟩
                   have HS6_ := (hb.cell (World.block_lt_of_cell? _ _ (hHeld.2.2.2.2.2.2))).trans (hHeld.2.2.2.2.2.2)
                   refine ⟨_, rfl, ?_⟩
                   have n0_ := Aside0.mk (Kd.R_below (nR HO_11.out) hb)
                   have n1_ := Aside0.mk (Kd.R_below (nR HO_12.out) hb)
                   have n2_ := Aside0.mk (Kd.R_below (nR HO_13.out) hb)
                   have n3_ := Aside0.mk (blk_below (g := gb499) (o := .cells #[.int .i64 a0_0, .int .i64 a0_1, .slice A0_2 l0_2.length c0_2, .int .i64 a0_3] 34 (0, 0)) (nB BK499.out) hb)
                   have n4_ := Aside0.mk (below_step (nH1 HB.out GE499.out) hb)
                   clear HO_11; clear HO_12; clear HO_13; clear BK499; clear HB; have HO_11 := n0_; have HO_12 := n1_; have HO_13 := n2_; have BK499 := n3_; have HB := n4_; clear n0_ n1_ n2_ n3_ n4_; (try clear hb); (try clear hb2); (try clear hk); (try clear hi)
                   refine hK.out _ _ ⟨(blk_cell BK499.out 0).trans rfl, (blk_cell BK499.out 1).trans rfl, (blk_cell BK499.out 2).trans rfl, (blk_cell BK499.out 3).trans rfl, (nC HB.out hw510_0 :), (nC HB.out hw511_0 :), HS6_⟩ (fun hHeld => ?_)
                   clear hK K
                   refine norm_ (a' := ?_) ?_ ?_
                   rotate_left
                   · show Act.put _ (some 61) _ = _
                     simp only [Act.put, List.setIfInBounds_toArray, List.set_cons_zero, List.set_cons_succ, i64_w, i32_w]
                     rfl
                   refine one_ (i := 13) (N := some 64) #[T,T,T,T,T,T,T,T,T,T,T,T,T,T,T,T,T,T,F,F] rfl rfl (one_of HT_.out (by kernel_rfl)) (by decide) (fun K hK => ?_)
                   refine goes_ Try.func53 (by kernel_rfl) rfl #[.agg #[.int .i64 a0_0, .int .i64 a0_1, .slice A0_2 l0_2.length c0_2, .int .i64 a0_3], .int .i64 t512, .slice A2 l2.length c2, .int .i64 a3] (by rfl) rfl rfl nM ?_
                   with_reducible refine (impl_carded.calls k2 a0_0 a0_1 _ _ l0_2 a0_3 t512 _ _ l2 a3 t513 _ ?side1 ?side2 ?side3 ?side4 A31.out).mono ?_
                   (case side1 => exact nD HR0_2.out HB.out)
                   (case side2 => exact HC0_2.out)
                   (case side3 => exact nD HR2.out HB.out)
                   (case side4 => exact HC2.out)
                   rintro e w92 ⟨rfl, hb⟩
                   have HS6_ := (hb.cell (World.block_lt_of_cell? _ _ (hHeld.2.2.2.2.2.2))).trans (hHeld.2.2.2.2.2.2)
                   refine ⟨_, rfl, ?_⟩
                   have n0_ := Aside0.mk (Kd.R_below (nR HO_11.out) hb)
                   have n1_ := Aside0.mk (Kd.R_below (nR HO_12.out) hb)
                   have n2_ := Aside0.mk (Kd.R_below (nR HO_13.out) hb)
                   have n3_ := Aside0.mk (blk_below (g := gb499) (o := .cells #[.int .i64 a0_0, .int .i64 a0_1, .slice A0_2 l0_2.length c0_2, .int .i64 a0_3] 34 (0, 0)) (nB BK499.out) hb)
                   have n4_ := Aside0.mk (below_step (nH1 HB.out GE499.out) hb)
                   clear HO_11; clear HO_12; clear HO_13; clear BK499; clear HB; have HO_11 := n0_; have HO_12 := n1_; have HO_13 := n2_; have BK499 := n3_; have HB := n4_; clear n0_ n1_ n2_ n3_ n4_; (try clear hb); (try clear hb2); (try clear hk); (try clear hi)
                   refine hK.out _ _ ⟨(blk_cell BK499.out 0).trans rfl, (blk_cell BK499.out 1).trans rfl, (blk_cell BK499.out 2).trans rfl, (blk_cell BK499.out 3).trans rfl, (nC HB.out hw510_0 :), (nC HB.out hw511_0 :), HS6_⟩ (fun hHeld => ?_)
                   clear hK K
                   refine norm_ (a' := ?_) ?_ ?_
                   rotate_left
                   · show Act.put _ (some 64) _ = _
                     simp only [Act.put, List.setIfInBounds_toArray, List.set_cons_zero, List.set_cons_succ, i64_w, i32_w]
                     rfl
                   refine qU 18 (some 69) rfl rfl HT_.out ?_
                   refine qU 19 (some 16) rfl rfl HT_.out ?_
                   refine done_ (done_of HT_.out (by kernel_rfl)) ?_
                   obtain ⟨Ao93, co93, eo93⟩ := Kd.R_slice HO_12.out
                   subst eo93
                   have p515 : 0 ≤ (x15_2 : Int) := of_decide_eq_true nQ
                   have q515 : x15_2 < (x12_2.length : Int) := of_decide_eq_true nQ
                   obtain ⟨ad515, e515, hx515_0⟩ := Kd.at_int (Kd.R_reads' HO_12.out).2.2 x15_2 p515 q515
                   cases e515; replace p515 := eq_true p515; replace q515 := eq_true q515
                   obtain ⟨Ao94, co94, eo94⟩ := Kd.R_slice HO_13.out
                   subst eo94
                   have p516 : 0 ≤ (x14_1 : Int) := of_decide_eq_true nQ
                   have q516 : x14_1 < (x13_2.length : Int) := of_decide_eq_true nQ
                   obtain ⟨ad516, e516, hx516_0⟩ := Kd.at_int (Kd.R_reads' HO_13.out).2.2 x14_1 p516 q516
                   cases e516; replace p516 := eq_true p516; replace q516 := eq_true q516
                   have p520 : 0 ≤ (x14_1 : Int) := of_decide_eq_true nQ
                   have q520 : x14_1 < (x11_2.length : Int) := of_decide_eq_true nQ
                   obtain ⟨ad520, e520, hx520_0⟩ := Kd.at_int (Kd.R_reads' HO_11.out).2.2 x14_1 p520 q520
                   obtain rfl : ad514 = ad520 := (by injection e520)
                   replace p520 := eq_true p520; replace q520 := eq_true q520
                   have p524 : 0 ≤ (x14_1 : Int) := of_decide_eq_true nQ
                   have q524 : x14_1 < (x11_2.length : Int) := of_decide_eq_true nQ
                   obtain ⟨ad524, e524, hx524_0⟩ := Kd.at_int (Kd.R_reads' HO_11.out).2.2 x14_1 p524 q524
                   obtain rfl : ad514 = ad524 := (by injection e524)
                   replace p524 := eq_true p524; replace q524 := eq_true q524
                   have p525 : 0 ≤ (x14_1 : Int) := of_decide_eq_true nQ
                   have q525 : x14_1 < (x12_2.length : Int) := of_decide_eq_true nQ
                   obtain ⟨ad525, e525, hx525_0⟩ := Kd.at_int (Kd.R_reads' HO_12.out).2.2 x14_1 p525 q525
                   obtain rfl : ad515 = ad525 := (by injection e525)
                   replace p525 := eq_true p525; replace q525 := eq_true q525
                   try go_wp2
                   go_roundg k2
                   case measure => have := HK1.out; have := HK2.out; omega
                   case rel => exact ⟨(x11_2), (x12_2), (x13_2), (wrap64 (x15_2 + 1)), nS, H', ⟨by have := HK1.out; have := HK2.out; omega⟩, ⟨by exact nR HO_11.out⟩, ⟨by exact nR HO_12.out⟩, ⟨by exact nR HO_13.out⟩, ⟨by exact nB BK499.out⟩, ⟨nH1 HB.out GE499.out⟩⟩
               · rw [if_neg c71] at H
                 have c71b0 : ((wrap64 (t513 + (rd x11_2 x15_2))) == (rd x11_2 x14_1)) = false := beq_eq_false_iff_ne.mpr c71
                 have c71b1 : ((wrap64 (t513 + (rd x11_2 x15_2))) != (rd x11_2 x14_1)) = true := bne_iff_ne.mpr c71
                 have H' := Aside0.mk H
                 clear H
                 try go_wp2
                 have n0_ := Aside0.mk (Kd.R_drew HO_11.out)
                 have n1_ := Aside0.mk (Kd.R_drew HO_12.out)
                 have n2_ := Aside0.mk (Kd.R_drew HO_13.out)
                 have n3_ := Aside0.mk (blk_drew BK499.out)
                 have n4_ := Aside0.mk (below_drew1 HB.out)
                 clear HO_11; clear HO_12; clear HO_13; clear BK499; clear HB; have HO_11 := n0_; have HO_12 := n1_; have HO_13 := n2_; have BK499 := n3_; have HB := n4_; clear n0_ n1_ n2_ n3_ n4_
                 have p510 : 0 ≤ (x14_1 : Int) := of_decide_eq_true nQ
                 have q510 : x14_1 < (l1.length : Int) := of_decide_eq_true nQ
                 obtain ⟨ad510, e510, hx510_0⟩ := Kd.at_int HR1.out x14_1 p510 q510
                 have hw510_0 := hx510_0; cases e510
                 replace hx510_0 := (HB.out.cell (World.block_lt_of_cell? w _ hx510_0)).trans hx510_0
                 replace p510 := eq_true p510; replace q510 := eq_true q510
                 have p511 : 0 ≤ (x15_2 : Int) := of_decide_eq_true nQ
                 have q511 : x15_2 < (l1.length : Int) := of_decide_eq_true nQ
                 obtain ⟨ad511, e511, hx511_0⟩ := Kd.at_int HR1.out x15_2 p511 q511
                 have hw511_0 := hx511_0
                 obtain rfl : ad510 = ad511 := (by injection e511)
                 replace hx511_0 := (HB.out.cell (World.block_lt_of_cell? w _ hx511_0)).trans hx511_0
                 replace p511 := eq_true p511; replace q511 := eq_true q511
                 obtain ⟨Ao96, co96, eo96⟩ := Kd.R_slice HO_11.out
                 (first | subst eo96 | (injection eo96 with f1_ f2_ f3_; have f4_ := f1_.symm; have f5_ := f3_.symm; clear f1_ f2_ f3_; subst f4_; subst f5_))
                 have p514 : 0 ≤ (x15_2 : Int) := of_decide_eq_true nQ
                 have q514 : x15_2 < (x11_2.length : Int) := of_decide_eq_true nQ
                 obtain ⟨ad514, e514, hx514_0⟩ := Kd.at_int (Kd.R_reads' HO_11.out).2.2 x15_2 p514 q514
                 cases e514; replace p514 := eq_true p514; replace q514 := eq_true q514
                 refine start_ (n := 20) (S := fun w' => w'.cell? ⟨gb499, 0, none⟩ = some (.int .i64 a0_0) ∧ w'.cell? ⟨gb499, 1, none⟩ = some (.int .i64 a0_1) ∧ w'.cell? ⟨gb499, 2, none⟩ = some (.slice A0_2 l0_2.length c0_2) ∧ w'.cell? ⟨gb499, 3, none⟩ = some (.int .i64 a0_3) ∧ w'.cell? (ad510.add (x14_1).toNat) = some (.int .i64 (rd l1 x14_1)) ∧ w'.cell? (ad510.add (x15_2).toNat) = some (.int .i64 (rd l1 x15_2)) ∧ w'.cell? (ad514.add (x15_2).toNat) = some (.int .i64 (rd x11_2 x15_2))) (ds := []) #[F,F,F,F,F,F,F,F,F,F,F,F,F,F,F,F,F,F,F,F] (by kernel_rfl) rfl rfl ⟨(blk_cell BK499.out 0).trans rfl, (blk_cell BK499.out 1).trans rfl, (blk_cell BK499.out 2).trans rfl, (blk_cell BK499.out 3).trans rfl, (nC HB.out hw510_0 :), (nC HB.out hw511_0 :), hx514_0⟩ (fun hHeld => ?_); refine with_tabW impl_Split.tab11 impl_Split.bits11 (fun HT_ HW_ => ?_)
                 generalize wr.drew = w95 at HO_11 HO_12 HO_13 BK499 HB hx510_0 hx511_0 hx514_0 hHeld ⊢
                 refine qU 2 (some 53) rfl rfl HT_.out ?_
                 refine qU 3 (some 54) rfl rfl HT_.out ?_
                 refine qU 4 (some 55) rfl rfl HT_.out ?_
                 refine qU 6 (some 57) rfl rfl HT_.out ?_
                 refine qU 7 (some 58) rfl rfl HT_.out ?_
                 refine qU 8 (some 59) rfl rfl HT_.out ?_
                 refine qU 11 (some 62) rfl rfl HT_.out ?_
                 refine qU 12 (some 63) rfl rfl HT_.out ?_
                 refine qU 14 (some 65) rfl rfl HT_.out ?_
                 refine qU 15 (some 66) rfl rfl HT_.out ?_
                 refine qU 16 (some 67) rfl rfl HT_.out ?_
                 refine qT7 0 (some 51) rfl rfl HT_.out HW_.out hHeld ?_
                 refine qT7 1 (some 52) rfl rfl HT_.out HW_.out hHeld ?_
                 refine qT7 5 (some 56) rfl rfl HT_.out HW_.out hHeld ?_
                 refine qT7 9 (some 60) rfl rfl HT_.out HW_.out hHeld ?_
                 refine qT7 17 (some 68) rfl rfl HT_.out HW_.out hHeld ?_
                 refine one_ (i := 10) (N := some 61) #[T,T,T,T,T,T,T,T,T,T,T,T,T,F,T,T,T,T,F,F] rfl rfl (one_of HT_.out (by kernel_rfl)) (by decide) (fun K hK => ?_)
                 refine goes_ Try.func48 (by kernel_rfl) rfl #[.agg #[.int .i64 a0_0, .int .i64 a0_1, .slice A0_2 l0_2.length c0_2, .int .i64 a0_3], .int .i64 (rd l1 x14_1), .int .i64 (rd l1 x15_2)] (by rfl) rfl rfl nM ?_
                 with_reducible refine (impl_fare.calls k2 a0_0 a0_1 _ _ l0_2 a0_3 (rd l1 x14_1) (rd l1 x15_2) t512 _ ?side1 ?side2 A30.out).mono ?_
                 (case side1 => exact nD HR0_2.out HB.out)
                 (case side2 => exact HC0_2.out)
                 rintro e w97 ⟨rfl, hb⟩
                 have HS6_ := (hb.cell (World.block_lt_of_cell? _ _ (hHeld.2.2.2.2.2.2))).trans (hHeld.2.2.2.2.2.2)
                 refine ⟨_, rfl, ?_⟩
                 have n0_ := Aside0.mk (Kd.R_below (nR HO_11.out) hb)
                 have n1_ := Aside0.mk (Kd.R_below (nR HO_12.out) hb)
                 have n2_ := Aside0.mk (Kd.R_below (nR HO_13.out) hb)
                 have n3_ := Aside0.mk (blk_below (g := gb499) (o := .cells #[.int .i64 a0_0, .int .i64 a0_1, .slice A0_2 l0_2.length c0_2, .int .i64 a0_3] 34 (0, 0)) (nB BK499.out) hb)
                 have n4_ := Aside0.mk (below_step (nH1 HB.out GE499.out) hb)
                 clear HO_11; clear HO_12; clear HO_13; clear BK499; clear HB; have HO_11 := n0_; have HO_12 := n1_; have HO_13 := n2_; have BK499 := n3_; have HB := n4_; clear n0_ n1_ n2_ n3_ n4_; (try clear hb); (try clear hb2); (try clear hk); (try clear hi)
                 refine hK.out _ _ ⟨(blk_cell BK499.out 0).trans rfl, (blk_cell BK499.out 1).trans rfl, (blk_cell BK499.out 2).trans rfl, (blk_cell BK499.out 3).trans rfl, (nC HB.out hw510_0 :), (nC HB.out hw511_0 :), HS6_⟩ (fun hHeld => ?_)
                 clear hK K
                 refine norm_ (a' := ?_) ?_ ?_
                 rotate_left
                 · show Act.put _ (some 61) _ = _
                   simp only [Act.put, List.setIfInBounds_toArray, List.set_cons_zero, List.set_cons_succ, i64_w, i32_w]
                   rfl
                 refine one_ (i := 13) (N := some 64) #[T,T,T,T,T,T,T,T,T,T,T,T,T,T,T,T,T,T,F,F] rfl rfl (one_of HT_.out (by kernel_rfl)) (by decide) (fun K hK => ?_)
                 refine goes_ Try.func53 (by kernel_rfl) rfl #[.agg #[.int .i64 a0_0, .int .i64 a0_1, .slice A0_2 l0_2.length c0_2, .int .i64 a0_3], .int .i64 t512, .slice A2 l2.length c2, .int .i64 a3] (by rfl) rfl rfl nM ?_
                 with_reducible refine (impl_carded.calls k2 a0_0 a0_1 _ _ l0_2 a0_3 t512 _ _ l2 a3 t513 _ ?side1 ?side2 ?side3 ?side4 A31.out).mono ?_
                 (case side1 => exact nD HR0_2.out HB.out)
                 (case side2 => exact HC0_2.out)
                 (case side3 => exact nD HR2.out HB.out)
                 (case side4 => exact HC2.out)
                 rintro e w98 ⟨rfl, hb⟩
                 have HS6_ := (hb.cell (World.block_lt_of_cell? _ _ (hHeld.2.2.2.2.2.2))).trans (hHeld.2.2.2.2.2.2)
                 refine ⟨_, rfl, ?_⟩
                 have n0_ := Aside0.mk (Kd.R_below (nR HO_11.out) hb)
                 have n1_ := Aside0.mk (Kd.R_below (nR HO_12.out) hb)
                 have n2_ := Aside0.mk (Kd.R_below (nR HO_13.out) hb)
                 have n3_ := Aside0.mk (blk_below (g := gb499) (o := .cells #[.int .i64 a0_0, .int .i64 a0_1, .slice A0_2 l0_2.length c0_2, .int .i64 a0_3] 34 (0, 0)) (nB BK499.out) hb)
                 have n4_ := Aside0.mk (below_step (nH1 HB.out GE499.out) hb)
                 clear HO_11; clear HO_12; clear HO_13; clear BK499; clear HB; have HO_11 := n0_; have HO_12 := n1_; have HO_13 := n2_; have BK499 := n3_; have HB := n4_; clear n0_ n1_ n2_ n3_ n4_; (try clear hb); (try clear hb2); (try clear hk); (try clear hi)
                 refine hK.out _ _ ⟨(blk_cell BK499.out 0).trans rfl, (blk_cell BK499.out 1).trans rfl, (blk_cell BK499.out 2).trans rfl, (blk_cell BK499.out 3).trans rfl, (nC HB.out hw510_0 :), (nC HB.out hw511_0 :), HS6_⟩ (fun hHeld => ?_)
                 clear hK K
                 refine norm_ (a' := ?_) ?_ ?_
                 rotate_left
                 · show Act.put _ (some 64) _ = _
                   simp only [Act.put, List.setIfInBounds_toArray, List.set_cons_zero, List.set_cons_succ, i64_w, i32_w]
                   rfl
                 refine qU 18 (some 69) rfl rfl HT_.out ?_
                 refine qU 19 (some 16) rfl rfl HT_.out ?_
                 refine done_ (done_of HT_.out (by kernel_rfl)) ?_
                 obtain ⟨Ao99, co99, eo99⟩ := Kd.R_slice HO_12.out
                 subst eo99
                 have p515 : 0 ≤ (x15_2 : Int) := of_decide_eq_true nQ
                 have q515 : x15_2 < (x12_2.length : Int) := of_decide_eq_true nQ
                 obtain ⟨ad515, e515, hx515_0⟩ := Kd.at_int (Kd.R_reads' HO_12.out).2.2 x15_2 p515 q515
                 cases e515; replace p515 := eq_true p515; replace q515 := eq_true q515
                 obtain ⟨Ao100, co100, eo100⟩ := Kd.R_slice HO_13.out
                 subst eo100
                 have p516 : 0 ≤ (x14_1 : Int) := of_decide_eq_true nQ
                 have q516 : x14_1 < (x13_2.length : Int) := of_decide_eq_true nQ
                 obtain ⟨ad516, e516, hx516_0⟩ := Kd.at_int (Kd.R_reads' HO_13.out).2.2 x14_1 p516 q516
                 cases e516; replace p516 := eq_true p516; replace q516 := eq_true q516
                 have p520 : 0 ≤ (x14_1 : Int) := of_decide_eq_true nQ
                 have q520 : x14_1 < (x11_2.length : Int) := of_decide_eq_true nQ
                 obtain ⟨ad520, e520, hx520_0⟩ := Kd.at_int (Kd.R_reads' HO_11.out).2.2 x14_1 p520 q520
                 obtain rfl : ad514 = ad520 := (by injection e520)
                 replace p520 := eq_true p520; replace q520 := eq_true q520
                 have p524 : 0 ≤ (x14_1 : Int) := of_decide_eq_true nQ
                 have q524 : x14_1 < (x11_2.length : Int) := of_decide_eq_true nQ
                 obtain ⟨ad524, e524, hx524_0⟩ := Kd.at_int (Kd.R_reads' HO_11.out).2.2 x14_1 p524 q524
                 obtain rfl : ad514 = ad524 := (by injection e524)
                 replace p524 := eq_true p524; replace q524 := eq_true q524
                 try go_wp2
                 go_roundg k2
                 case measure => have := HK1.out; have := HK2.out; omega
                 case rel => exact ⟨(x11_2), (x12_2), (x13_2), (wrap64 (x15_2 + 1)), nS, H', ⟨by have := HK1.out; have := HK2.out; omega⟩, ⟨by exact nR HO_11.out⟩, ⟨by exact nR HO_12.out⟩, ⟨by exact nR HO_13.out⟩, ⟨by exact nB BK499.out⟩, ⟨nH1 HB.out GE499.out⟩⟩
         · rw [if_neg c25] at H
           have c25b0 : decide (x15_2 ≤ (wrap64 ((l1.length : Int) - 1))) = false := decide_eq_false c25
           clear c25
           have H' := Aside0.mk H
           clear H; go_wp2
           go_roundg k2
           case measure => have := HK1.out; have := HK2.out; omega
           case rel => exact ⟨(x11_2), (x12_2), (x13_2), (wrap64 (x14_1 - 1)), nS, H', ⟨by have := HK1.out; have := HK2.out; omega⟩, ⟨by exact nR HO_11.out⟩, ⟨by exact nR HO_12.out⟩, ⟨by exact nR HO_13.out⟩, ⟨by exact nB BK499.out⟩, ⟨nH1 HB.out GE499.out⟩⟩
     · rw [if_neg c24] at H
       have c24b0 : decide (0 ≤ x14_1) = false := decide_eq_false c24
       clear c24
       obtain ⟨y529, hy529⟩ : ∃ y_ : List Int, y_ = (([] : List Int)) := ⟨_, rfl⟩
       replace H : (if 0 < (x13_1.length : Int) then (impl_Split.l2 k1 (wrap64 ((l1.length : Int) - 1)) x11_1 x13_1 y529 (rd x13_1 0)) else (none)) = some (r1, r2) := by first | (rw [hy529]; with_reducible exact H) | (have H2_ := (Option.bind_some _ _).symm.trans H; rw [hy529]; with_reducible exact H2_) | (have H2_ := (Option.bind_some _ _).symm.trans H; with_reducible exact H2_) | with_reducible exact H | (rw [hy529]; exact H) | exact H
       have Ny529 := Aside0.mk hy529
       clear hy529
       by_cases c101 : 0 < (x13_1.length : Int)
       rotate_left
       · (rw [if_neg c101] at H; exact absurd H (by simp))
       rw [if_pos c101] at H
       have c101b0 : decide (0 < (x13_1.length : Int)) = true := decide_eq_true c101
       have c101b1 : decide (0 < x13_1.length) = true := decide_eq_true (by omega)
       clear c101
       have H' := Aside0.mk H
       clear H
       go_wp2_with (first | ((with_reducible refine gate_dst (N := 116) rfl ?_); refine Kd.R_lit (Kd.int .i64) _ 3 ?hg (N := 116) ?hd (xs := ([] : List Int)) (inner := []) (ok := fun _ => True) (okp := fun _ => True) ?hr ?hp (fun _ hk => hk) trivial (Below.refl _ _) (Nat.le_refl _) (by simp) ?_; (case hd => rfl); (case hg => rfl); (case hr => first | (go_simp; done) | (go_simp; rfl)); (case hp => exact (Reps.none _ _)); intro v530 w102 ho103 hb hg_ hnew_; clear hg_ hnew_; (first | rw [← Ny529.out] at ho103 | (simp only [Int.reduceToNat] at ho103; rw [← Ny529.out] at ho103)); have n0_ := Aside0.mk (Kd.R_elder' (nR HO_11.out) (Kd.R_base ho103) hb); have n1_ := Aside0.mk (Kd.R_elder' (nR HO_12.out) (Kd.R_base ho103) hb); have n2_ := Aside0.mk (Kd.R_elder' (nR HO_13.out) (Kd.R_base ho103) hb); have n3_ := Aside0.mk (Kd.R_lower (Kd.R_new' (Kd.R_new' (Kd.R_new' ho103 (Kd.R_lt (nR HO_11.out))) (Kd.R_lt (nR HO_12.out))) (Kd.R_lt (nR HO_13.out))) (below_size (nH1 HB.out GE499.out))); have n4_ := Aside0.mk (blk_below (g := gb499) (o := .cells #[.int .i64 a0_0, .int .i64 a0_1, .slice A0_2 l0_2.length c0_2, .int .i64 a0_3] 34 (0, 0)) (nB BK499.out) hb); have n5_ := Aside0.mk (below_step (nH1 HB.out GE499.out) hb); clear HO_11; clear HO_12; clear HO_13; clear BK499; clear HB; have HO_11 := n0_; have HO_12 := n1_; have HO_13 := n2_; have HO531 := n3_; have BK499 := n4_; have HB := n5_; clear n0_ n1_ n2_ n3_ n4_ n5_; clear hb ho103; obtain ⟨Ao104, co104, eo104⟩ := Kd.R_slice HO_13.out; subst eo104; have p532 : 0 ≤ (0 : Int) := (by omega); have q532 : 0 < (x13_1.length : Int) := of_decide_eq_true nQ; obtain ⟨ad532, e532, hx532_0⟩ := Kd.at_int (Kd.R_reads' HO_13.out).2.2 0 p532 q532; cases e532; have qi532 : (0 < x13_1.length) = True := eq_true (by omega); (try rw [show ((0 : Int)).toNat = 0 from rfl] at hx532_0); (try rw [Addr.add_zero'] at hx532_0); replace p532 := eq_true p532; replace q532 := eq_true q532))
       go_loopg [18, 19] k1 (fun kq v18 v19 w' => ∃ (x18_2 : List Int) (x19_2 : Int), v19 = .int .i64 x19_2 ∧ Aside0 (impl_Split.l2 kq (wrap64 ((l1.length : Int) - 1)) x11_1 x13_1 x18_2 x19_2 = some (r1, r2)) ∧ Aside0 (kq ≤ k1) ∧ Aside0 (Kd.R (Kd.int .i64) 3 w' w.heap.size (fun k_ => some k_ ≠ ((.slice (some ad532) x13_1.length co104) : Value).ownBlock ∧ some k_ ≠ (v18 : Value).ownBlock) v502 x11_1) ∧ Aside0 (Kd.R (Kd.int .i64) 3 w' w.heap.size (fun k_ => some k_ ≠ (v502 : Value).ownBlock ∧ some k_ ≠ (v18 : Value).ownBlock) (.slice (some ad532) x13_1.length co104) x13_1) ∧ Aside0 (Kd.R (Kd.int .i64) 3 w' w.heap.size (fun k_ => some k_ ≠ (v502 : Value).ownBlock ∧ some k_ ≠ ((.slice (some ad532) x13_1.length co104) : Value).ownBlock) v18 x18_2) ∧ Aside0 (w'.heap[gb499]? = some (.cells #[.int .i64 a0_0, .int .i64 a0_1, (.slice A0_2 l0_2.length c0_2), .int .i64 a0_3] 34 (0, 0))) ∧ Aside0 (Below w.heap.size w w'))
       case atStart => exact ⟨(y529), (rd x13_1 0), nS, H', ⟨Nat.le_refl _⟩, ⟨by (with_reducible repeat (first | apply Kd.R_alloc | apply Kd.R_drewN | apply Kd.R_drew)); exact Kd.R_mono HO_11.out (fun _ hk => ⟨hk.1.2, hk.2⟩)⟩, ⟨by (with_reducible repeat (first | apply Kd.R_alloc | apply Kd.R_drewN | apply Kd.R_drew)); exact Kd.R_mono HO_13.out (fun _ hk => ⟨hk.1.1, hk.2⟩)⟩, ⟨by (with_reducible repeat (first | apply Kd.R_alloc | apply Kd.R_drewN | apply Kd.R_drew)); exact Kd.R_mono HO531.out (fun _ hk => ⟨hk.1.1.2, hk.2⟩)⟩, ⟨by exact nB BK499.out⟩, ⟨nH1 HB.out GE499.out⟩⟩
       case round =>
        clear H'
        try clear c1; try clear c2; try clear p2; try clear c3; try clear c4; try clear c5; try clear p5; try clear q5; try clear hx5; try clear qi5; try clear p6; try clear c7; try clear c10; try clear c24; try clear c24b0; try clear c25; try clear c25b0; try clear c26; try clear c27; try clear c28; try clear c29; try clear c32; try clear c33; try clear c34; try clear c48; try clear p51; try clear q51; try clear hx51; try clear p52; try clear q52; try clear hx52; try clear c53; try clear p53; try clear q53; try clear hx53; try clear qi53; try clear p64; try clear c71; try clear c71b0; try clear c71b1
        try clear c72; try clear c101; try clear c101b0; try clear c101b1; try clear hx510_0; try clear hx511_0; try clear hx514_0; try clear hx515_0; try clear hx516_0; try clear hx520_0; try clear hx524_0; try clear hx525_0; try clear hx532_0; try clear p510; try clear p511; try clear p514; try clear p515; try clear p516; try clear p520; try clear p524; try clear p525; try clear p532; try clear q510; try clear q511; try clear q514; try clear q515; try clear q516; try clear q520; try clear q524; try clear q525; try clear q532
        obtain ⟨x18_2, x19_2, rfl, HA, HK2, HO_11, HO_13, HO_18, BK499, HB⟩ := hrel
        cases gk with
        | zero => exact absurd HA.out (by simp [impl_Split.l2])
        | succ k2 =>
         have H := HA.out; clear HA
         simp only [impl_Split.l2] at H
         by_cases c105 : x19_2 < (wrap64 ((l1.length : Int) - 1))
         · rw [if_pos c105] at H
           have c105b0 : decide (x19_2 < (wrap64 ((l1.length : Int) - 1))) = true := decide_eq_true c105
           clear c105
           by_cases c106 : x18_2.length < 17592186044416
           rotate_left
           · (rw [if_neg c106] at H; exact absurd H (by simp))
           rw [if_pos c106] at H
           have LMc106 := Aside0.mk c106
           clear c106
           obtain ⟨y533, hy533⟩ : ∃ y_ : List Int, y_ = (x18_2 ++ [x19_2]) := ⟨_, rfl⟩
           replace H : (if 0 ≤ x19_2 then (if x19_2 < (x13_1.length : Int) then (impl_Split.l2 k2 (wrap64 ((l1.length : Int) - 1)) x11_1 x13_1 y533 (rd x13_1 x19_2)) else (none)) else (none)) = some (r1, r2) := by first | (rw [hy533]; with_reducible exact H) | (have H2_ := (Option.bind_some _ _).symm.trans H; rw [hy533]; with_reducible exact H2_) | (have H2_ := (Option.bind_some _ _).symm.trans H; with_reducible exact H2_) | with_reducible exact H | (rw [hy533]; exact H) | exact H
           have Ny533 := Aside0.mk hy533
           clear hy533
           by_cases c107 : 0 ≤ x19_2
           rotate_left
           · (rw [if_neg c107] at H; exact absurd H (by simp))
           rw [if_pos c107] at H
           have c107b0 : decide (0 ≤ x19_2) = true := decide_eq_true c107
           clear c107
           by_cases c108 : x19_2 < (x13_1.length : Int)
           rotate_left
           · (rw [if_neg c108] at H; exact absurd H (by simp))
           rw [if_pos c108] at H
           have c108b0 : decide (x19_2 < (x13_1.length : Int)) = true := decide_eq_true c108
           clear c108
           have H' := Aside0.mk H
           clear H
           go_wp2_with (first | ((with_reducible refine gate_builtin (b := .append) (xs := #[.tmp 127, .tmp 129]) rfl ?_); at_builtin; refine Kd.R_append (Kd.int .i64) (w0 := w) w.heap.size rfl (.tmp 127) (.tmp 129) 29 3 (.int .i64 0) 8 rfl Try.underlying29 info3 rfl (by decide) (by omega) u18 x18_2 x19_2 [.int .i64 x19_2] (fun k_ => some k_ ≠ (v502 : Value).ownBlock ∧ some k_ ≠ (.slice (some ad532) x13_1.length co104 : Value).ownBlock) (fun _ => False) rfl rfl ?aP (fun _ hk => hk.elim) ?aF ?aO ?aB ?aS ?aL ?_; (case aP => exact rfl); (case aB => exact (nH1 HB.out GE499.out)); (case aF => exact (fun k_ hk => ⟨Kd.fresh' (Kd.R_lt (nR HO_11.out)) k_ hk, Kd.fresh' (Kd.R_lt (nR HO_13.out)) k_ hk⟩)); (case aO => exact (nR HO_18.out)); (case aS => exact (below_size (nH1 HB.out GE499.out))); (case aL => have := LMc106.out; omega); intro v534 w109 ho hb hg hat; rw [← Ny533.out] at ho; have n0_ := Aside0.mk (Kd.R_after (ok := (fun k_ => some k_ ≠ (.slice (some ad532) x13_1.length co104 : Value).ownBlock)) (nR HO_11.out) hg hat); have n1_ := Aside0.mk (Kd.R_after (ok := (fun k_ => some k_ ≠ (v502 : Value).ownBlock)) (nR HO_13.out) hg hat); have n2_ := Aside0.mk (blk_grown (g := gb499) (o := .cells #[.int .i64 a0_0, .int .i64 a0_1, .slice A0_2 l0_2.length c0_2, .int .i64 a0_3] 34 (0, 0)) (nB BK499.out) hg (Kd.R_ne HO_18.out BK499.out (by decide))); have n3_ := Aside0.mk (hb); have n4_ := Aside0.mk (ho); clear HO_11; clear HO_13; clear BK499; clear HB; clear HO_18; have HO_11 := n0_; have HO_13 := n1_; have BK499 := n2_; have HB := n3_; have HO535 := n4_; clear n0_ n1_ n2_ n3_ n4_; clear ho hb hg hat; have p536 : 0 ≤ (x19_2 : Int) := of_decide_eq_true nQ; have q536 : x19_2 < (x13_1.length : Int) := of_decide_eq_true nQ; obtain ⟨ad536, e536, hx536_0⟩ := Kd.at_int (Kd.R_reads' HO_13.out).2.2 x19_2 p536 q536; obtain rfl : ad532 = ad536 := (by injection e536); replace p536 := eq_true p536; replace q536 := eq_true q536))
           go_roundg k2
           case measure => have := HK1.out; have := HK2.out; omega
           case rel => exact ⟨(y533), (rd x13_1 x19_2), nS, H', ⟨by have := HK1.out; have := HK2.out; omega⟩, ⟨by exact nR HO_11.out⟩, ⟨by exact nR HO_13.out⟩, ⟨by exact nR HO535.out⟩, ⟨by exact nB BK499.out⟩, ⟨nH1 HB.out GE499.out⟩⟩
         · rw [if_neg c105] at H
           have c105b0 : decide (x19_2 < (wrap64 ((l1.length : Int) - 1))) = false := decide_eq_false c105
           clear c105
           by_cases c110 : 0 < (x11_1.length : Int)
           rotate_left
           · (rw [if_neg c110] at H; exact absurd H (by simp))
           rw [if_pos c110] at H
           have c110b0 : decide (0 < (x11_1.length : Int)) = true := decide_eq_true c110
           have c110b1 : decide (0 < x11_1.length) = true := decide_eq_true (by omega)
           clear c110
           simp only [Option.some.injEq, Prod.mk.injEq] at H
           obtain ⟨rfl, rfl⟩ := H
           obtain ⟨Ao111, co111, eo111⟩ := Kd.R_slice HO_11.out
           subst eo111
           have p537 : 0 ≤ (0 : Int) := (by omega)
           have q537 : 0 < (x11_1.length : Int) := of_decide_eq_true nQ
           obtain ⟨ad537, e537, hx537_0⟩ := Kd.at_int (Kd.R_reads' HO_11.out).2.2 0 p537 q537
           cases e537
           have qi537 : (0 < x11_1.length) = True := eq_true (by omega)
           (try rw [show ((0 : Int)).toNat = 0 from rfl] at hx537_0)
           (try rw [Addr.add_zero'] at hx537_0)
           replace p537 := eq_true p537; replace q537 := eq_true q537; go_wp2
           go_ret2
           exact ⟨_, by first | rfl | (simp [errW_none, errW_some] <;> rfl) | (simp only [← hji10]; first | rfl | (simp [errW_none, errW_some] <;> rfl)) | (simp [*, errW_none, errW_some] <;> first | rfl | (simp [wrap64]; done)), by (with_reducible repeat (first | apply Kd.R_alloc | apply Kd.R_drewN | apply Kd.R_drew)); exact Kd.R_mono HO_18.out (fun _ hk => trivial), nH1 HB.out GE499.out⟩
end Go.Proofs.Ytcihaeggjfpacaa.P
