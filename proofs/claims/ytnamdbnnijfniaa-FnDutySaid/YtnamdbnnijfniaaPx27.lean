/- Contracts of the functions of the program, each one with its plain Lean function; written by a program of the session out of the translation. -/
import Derived.Test.YtnamdbnnijfniaaNb
import Derived.Test.YtnamdbnnijfniaaPx0
import Derived.Test.YtnamdbnnijfniaaPx16
import Derived.Test.YtnamdbnnijfniaaPx22
import Derived.Test.YtnamdbnnijfniaaPx26
namespace Go.Proofs.Ytnamdbnnijfniaa.P
open Go.RowKit Go.Proofs.YtnamdbnnijfniaaW.PrintWords Go.Proofs.YtnamdbnnijfniaaW.PrintLast Go.Proofs.YtnamdbnnijfniaaW.PrintMore
attribute [local go_sem] max2_int min2_int max_two min_two max_three min_three max_four min_four   -- for this text's walks alone
set_option linter.unusedVariables false
set_option linter.unusedSimpArgs false
/-! ### impl_dutyCode: function 40 -/
theorem impl_dutyCode.mono_l : ∀ k, (∀ y0 y1 y2 y3 y4 y5 y6, LeO (impl_dutyCode.l0 k y0 y1 y2 y3 y4 y5 y6) (impl_dutyCode.l0 (k + 1) y0 y1 y2 y3 y4 y5 y6))
 | 0 => fun _ _ _ _ _ _ _ r h => by simp [impl_dutyCode.l0] at h
 | k + 1 => by
  have ih0 := impl_dutyCode.mono_l k
  · intro y0 y1 y2 y3 y4 y5 y6
    unfold impl_dutyCode.l0
    repeat' first
    | (with_reducible exact ih0 _ _ _ _ _ _ _)
    | (with_reducible exact impl_driven.mono _ _ _)
    | (with_reducible exact impl_stretched.mono _ _ _ _)
    | (with_reducible exact LeO.refl _)
    | (with_reducible exact LeO.none _)
    | (with_reducible refine LeO.ite ?_ ?_)
    | (with_reducible refine LeO.bind ?_ (fun _ => ?_))
    | exact ih0 _ _ _ _ _ _ _
    | exact impl_driven.mono _ _ _
    | exact impl_stretched.mono _ _ _ _
    | exact LeO.none _
    | refine LeO.ite ?_ ?_
    | refine LeO.bind ?_ (fun _ => ?_)
theorem impl_dutyCode.mono : ∀ a0 a1 a2 a3 a4 a5 k, LeO (impl_dutyCode.f k a0 a1 a2 a3 a4 a5) (impl_dutyCode.f (k + 1) a0 a1 a2 a3 a4 a5) := by
 intro a0 a1 a2 a3 a4 a5 k
 have ih0 := impl_dutyCode.mono_l k
 unfold impl_dutyCode.f
 repeat' first
  | (with_reducible exact ih0 _ _ _ _ _ _ _)
  | (with_reducible exact impl_driven.mono _ _ _)
  | (with_reducible exact impl_stretched.mono _ _ _ _)
  | (with_reducible exact LeO.refl _)
  | (with_reducible exact LeO.none _)
  | (with_reducible refine LeO.ite ?_ ?_)
  | (with_reducible refine LeO.bind ?_ (fun _ => ?_))
  | exact ih0 _ _ _ _ _ _ _
  | exact impl_driven.mono _ _ _
  | exact impl_stretched.mono _ _ _ _
  | exact LeO.none _
  | refine LeO.ite ?_ ?_
  | refine LeO.bind ?_ (fun _ => ?_)
def impl_dutyCode.T4 : Bool × List (List Nat × List Nat) := (true, [([], []), ([], []), ([], []), ([2], [2]), ([1, 3], [1, 3]), ([4], [4]), ([0, 5], [0, 5]), ([6], [6]), ([], []), ([], []), ([], []), ([9, 10], [9, 10]), ([11], [11]), ([8, 12], [8, 12]), ([13], [13]), ([], []), ([], []), ([15, 7, 0, 1, 2, 3, 4, 5, 6, 7, 15, 16], [7, 15]), ([16, 14, 17, 0, 1, 2, 3, 4, 5, 6, 7, 8, 9, 10, 11, 12, 13, 14, 15, 16, 17], [14, 16])])
def impl_dutyCode.B4 : List Nat := [0, 0, 0, 4, 14, 30, 63, 127, 0, 0, 0, 1536, 3584, 7936, 16128, 0, 0, 98559, 262143]
theorem impl_dutyCode.tab4 : rtab .any (opsOf Try.f40 4) = impl_dutyCode.T4 := by kernel_rfl
theorem impl_dutyCode.bits4 : waitsOk impl_dutyCode.T4.2 impl_dutyCode.B4 = true := by kernel_rfl
def impl_dutyCode.T11 : Bool × List (List Nat × List Nat) := (true, [([], []), ([], []), ([], []), ([2], [2]), ([0, 1, 3], [0, 1, 3]), ([], []), ([5], [5]), ([4, 6], [4, 6]), ([7, 4], [7])])
def impl_dutyCode.B11 : List Nat := [0, 0, 0, 4, 15, 0, 32, 127, 255]
theorem impl_dutyCode.tab11 : rtab .any (opsOf Try.f40 11) = impl_dutyCode.T11 := by kernel_rfl
theorem impl_dutyCode.bits11 : waitsOk impl_dutyCode.T11.2 impl_dutyCode.B11 = true := by kernel_rfl
set_option maxHeartbeats 8000000 in
set_option maxRecDepth 100000 in
theorem impl_dutyCode.calls (k : Nat) (A0 : Option Addr) (c0 : Nat) (l0 : List (S52)) (A1 : Option Addr) (c1 : Nat) (l1 : List Int) (a2_0 : Int) (a2_1 : Int) (a2_2 : Int) (a2_3 : Int) (r : Int) (w : World) (hr0 : Kd.C k52 w A0 l0.length l0) (hc0 : l0.length ≤ c0) (hr1 : Kd.C (Kd.int .i64) w A1 l1.length l1) (hc1 : l1.length ≤ c1) (h : impl_dutyCode.f k l0 l1 a2_0 a2_1 a2_2 a2_3 = some r) :
 Calls Try.prog 40 #[.slice A0 l0.length c0, .slice A1 l1.length c1, .agg #[.int .i64 a2_0, .int .i64 a2_1, .int .i64 a2_2, .int .i64 a2_3]] w fun e w' => e = .returned (.int .i64 r) ∧ Below w.heap.size w w' := by
 have hu25 := Try.underlying25; have hu52 := Try.underlying52
 have HR0 := Aside0.mk hr0
 have HC0 := Aside0.mk hc0
 clear hr0 hc0
 have HR1 := Aside0.mk hr1
 have HC1 := Aside0.mk hc1
 clear hr1 hc1
 have HB := Aside0.mk (Below.refl w.heap.size w)
 have H : (impl_dutyCode.l0 k l0 l1 1 a2_0 a2_1 a2_2 a2_3) = some r := h
 clear h
 have H' := Aside0.mk H
 clear H
 go_enter Try.func40, Try.ntmps40
 go_wp2_with (first | ((with_reducible refine gate_dst (N := 5) rfl ?_); refine box_event ?hg (N := 5) ?hd (cs := #[.int .i64 a2_0, .int .i64 a2_1, .int .i64 a2_2, .int .i64 a2_3]) (t := 25) ?hr ?_; (case hd => rfl); (case hg => rfl); (case hr => first | (go_simp; done) | (go_simp; rfl)); intro gb283 hg w4 hbox hb; have n0_ := Aside0.mk (below_step (nH HB.out) hb); have n1_ := Aside0.mk (hbox); have n2_ := Aside0.mk ((by rw [hg]; exact (below_size (nH HB.out)) : w.heap.size ≤ gb283)); have n3_ := Aside0.mk ((by rw [hg]; exact (below_size (nH HB.out)) : w.heap.size ≤ gb283)); clear HB; have HB := n0_; have BK283 := n1_; have GW283 := n2_; have GE283 := n3_; clear n0_ n1_ n2_ n3_; clear hb hbox hg))
 go_loopg [7] k (fun kq v7 w' => ∃ (x7_1 : Int), v7 = .int .i64 x7_1 ∧ Aside0 (impl_dutyCode.l0 kq l0 l1 x7_1 a2_0 a2_1 a2_2 a2_3 = some r) ∧ Aside0 (kq ≤ k) ∧ Aside0 (w'.heap[gb283]? = some (.cells #[.int .i64 a2_0, .int .i64 a2_1, .int .i64 a2_2, .int .i64 a2_3] 25 (0, 0))) ∧ Aside0 (Below w.heap.size w w'))
 case atStart => exact ⟨(1), nS, H', ⟨Nat.le_refl _⟩, ⟨by (with_reducible repeat (first | refine blk_drewN ?_ _ | refine blk_drew ?_ | refine blk_alloc ?_ _)); exact BK283.out⟩, ⟨nH1 HB.out GE283.out⟩⟩
 case round =>
  clear H'
  try clear c1; try clear p2; try clear c4
  obtain ⟨x7_1, rfl, HA, HK1, BK283, HB⟩ := hrel
  cases gk with
  | zero => exact absurd HA.out (by simp [impl_dutyCode.l0])
  | succ k1 =>
   have H := HA.out; clear HA
   simp only [impl_dutyCode.l0] at H
   by_cases c5 : x7_1 < (l1.length : Int)
   · rw [if_pos c5] at H
     have c5b0 : decide (x7_1 < (l1.length : Int)) = true := decide_eq_true c5
     clear c5
     obtain ⟨ji6, hji6⟩ : ∃ j_ : Int, (wrap64 (x7_1 - 1)) = j_ := ⟨_, rfl⟩
     replace H : (if 0 ≤ (ji6) then (if (ji6) < (l1.length : Int) then (if 0 ≤ (rd l1 (ji6)) then (if (rd l1 (ji6)) < (l0.length : Int) then (if 0 ≤ x7_1 then (if 0 ≤ (rd l1 x7_1) then (if (rd l1 x7_1) < (l0.length : Int) then (if ((rd_T52 l0 (rd l1 (ji6))).f1) = ((rd_T52 l0 (rd l1 x7_1)).f0) then (if ((rd_T52 l0 (rd l1 x7_1)).f2) < ((rd_T52 l0 (rd l1 (ji6))).f3) then (some 2) else (impl_dutyCode.l0 k1 l0 l1 (wrap64 (x7_1 + 1)) a2_0 a2_1 a2_2 a2_3)) else (some 2)) else (none)) else (none)) else (none)) else (none)) else (none)) else (none)) else (none)) = some r := by first | (rw [hji6] at H; exact H) | (simp only [hji6] at H ⊢; exact H)
     have hji6w : (IntKind.i64.wrap (x7_1 - 1)) = ji6 := (i64_w _).trans hji6
     by_cases c7 : 0 ≤ (ji6)
     rotate_left
     · (rw [if_neg c7] at H; exact absurd H (by simp))
     rw [if_pos c7] at H
     have c7b0 : decide (0 ≤ (ji6)) = true := decide_eq_true c7
     clear c7
     by_cases c8 : (ji6) < (l1.length : Int)
     rotate_left
     · (rw [if_neg c8] at H; exact absurd H (by simp))
     rw [if_pos c8] at H
     have c8b0 : decide ((ji6) < (l1.length : Int)) = true := decide_eq_true c8
     clear c8
     by_cases c9 : 0 ≤ (rd l1 (ji6))
     rotate_left
     · (rw [if_neg c9] at H; exact absurd H (by simp))
     rw [if_pos c9] at H
     have c9b0 : decide (0 ≤ (rd l1 (ji6))) = true := decide_eq_true c9
     clear c9
     by_cases c10 : (rd l1 (ji6)) < (l0.length : Int)
     rotate_left
     · (rw [if_neg c10] at H; exact absurd H (by simp))
     rw [if_pos c10] at H
     have c10b0 : decide ((rd l1 (ji6)) < (l0.length : Int)) = true := decide_eq_true c10
     clear c10
     by_cases c11 : 0 ≤ x7_1
     rotate_left
     · (rw [if_neg c11] at H; exact absurd H (by simp))
     rw [if_pos c11] at H
     have c11b0 : decide (0 ≤ x7_1) = true := decide_eq_true c11
     clear c11
     by_cases c12 : 0 ≤ (rd l1 x7_1)
     rotate_left
     · (rw [if_neg c12] at H; exact absurd H (by simp))
     rw [if_pos c12] at H
     have c12b0 : decide (0 ≤ (rd l1 x7_1)) = true := decide_eq_true c12
     clear c12
     by_cases c13 : (rd l1 x7_1) < (l0.length : Int)
     rotate_left
     · (rw [if_neg c13] at H; exact absurd H (by simp))
     rw [if_pos c13] at H
     have c13b0 : decide ((rd l1 x7_1) < (l0.length : Int)) = true := decide_eq_true c13
     clear c13
     by_cases c14 : ((rd_T52 l0 (rd l1 (ji6))).f1) = ((rd_T52 l0 (rd l1 x7_1)).f0)
     · rw [if_pos c14] at H
       have c14b0 : (((rd_T52 l0 (rd l1 (ji6))).f1) == ((rd_T52 l0 (rd l1 x7_1)).f0)) = true := beq_iff_eq.mpr c14
       have c14b1 : (((rd_T52 l0 (rd l1 (ji6))).f1) != ((rd_T52 l0 (rd l1 x7_1)).f0)) = false := bne_eq_false_iff_eq.mpr c14
       clear c14
       by_cases c15 : ((rd_T52 l0 (rd l1 x7_1)).f2) < ((rd_T52 l0 (rd l1 (ji6))).f3)
       · rw [if_pos c15] at H
         have c15b0 : decide (((rd_T52 l0 (rd l1 x7_1)).f2) < ((rd_T52 l0 (rd l1 (ji6))).f3)) = true := decide_eq_true c15
         clear c15; obtain rfl := Option.some.inj H
         try go_wp2
         have n0_ := Aside0.mk (blk_drew BK283.out)
         have n1_ := Aside0.mk (below_drew1 HB.out)
         clear BK283; clear HB; have BK283 := n0_; have HB := n1_; clear n0_ n1_
         have p284 : 0 ≤ ((ji6) : Int) := of_decide_eq_true nQ
         have q284 : (ji6) < (l1.length : Int) := of_decide_eq_true nQ
         obtain ⟨ad284, e284, hx284_0⟩ := Kd.at_int HR1.out (ji6) p284 q284
         have hw284_0 := hx284_0; cases e284
         replace hx284_0 := (HB.out.cell (World.block_lt_of_cell? w _ hx284_0)).trans hx284_0
         replace p284 := eq_true p284; replace q284 := eq_true q284
         have p285 : 0 ≤ ((rd l1 (ji6)) : Int) := of_decide_eq_true nQ
         have q285 : (rd l1 (ji6)) < (l0.length : Int) := of_decide_eq_true nQ
         obtain ⟨ad285, e285, hx285_0, hx285_1, hx285_2, hx285_3, hx285_4⟩ := at_T52 HR0.out (rd l1 (ji6)) p285 q285
         have hw285_4 := hx285_4; have hw285_3 := hx285_3; have hw285_2 := hx285_2; have hw285_1 := hx285_1; have hw285_0 := hx285_0; cases e285
         replace hx285_0 := (HB.out.cell (World.block_lt_of_cell? w _ hx285_0)).trans hx285_0
         replace hx285_1 := (HB.out.cell (World.block_lt_of_cell? w _ hx285_1)).trans hx285_1
         replace hx285_2 := (HB.out.cell (World.block_lt_of_cell? w _ hx285_2)).trans hx285_2
         replace hx285_3 := (HB.out.cell (World.block_lt_of_cell? w _ hx285_3)).trans hx285_3
         replace hx285_4 := (HB.out.cell (World.block_lt_of_cell? w _ hx285_4)).trans hx285_4
         replace p285 := eq_true p285; replace q285 := eq_true q285
         have p286 : 0 ≤ (x7_1 : Int) := of_decide_eq_true nQ
         have q286 : x7_1 < (l1.length : Int) := of_decide_eq_true nQ
         obtain ⟨ad286, e286, hx286_0⟩ := Kd.at_int HR1.out x7_1 p286 q286
         have hw286_0 := hx286_0
         obtain rfl : ad284 = ad286 := (by injection e286)
         replace hx286_0 := (HB.out.cell (World.block_lt_of_cell? w _ hx286_0)).trans hx286_0
         replace p286 := eq_true p286; replace q286 := eq_true q286
         have p287 : 0 ≤ ((rd l1 x7_1) : Int) := of_decide_eq_true nQ
         have q287 : (rd l1 x7_1) < (l0.length : Int) := of_decide_eq_true nQ
         obtain ⟨ad287, e287, hx287_0, hx287_1, hx287_2, hx287_3, hx287_4⟩ := at_T52 HR0.out (rd l1 x7_1) p287 q287
         have hw287_4 := hx287_4; have hw287_3 := hx287_3; have hw287_2 := hx287_2; have hw287_1 := hx287_1; have hw287_0 := hx287_0
         obtain rfl : ad285 = ad287 := (by injection e287)
         replace hx287_0 := (HB.out.cell (World.block_lt_of_cell? w _ hx287_0)).trans hx287_0
         replace hx287_1 := (HB.out.cell (World.block_lt_of_cell? w _ hx287_1)).trans hx287_1
         replace hx287_2 := (HB.out.cell (World.block_lt_of_cell? w _ hx287_2)).trans hx287_2
         replace hx287_3 := (HB.out.cell (World.block_lt_of_cell? w _ hx287_3)).trans hx287_3
         replace hx287_4 := (HB.out.cell (World.block_lt_of_cell? w _ hx287_4)).trans hx287_4
         replace p287 := eq_true p287; replace q287 := eq_true q287
         refine start_ (n := 19) (S := fun w' => w'.cell? (ad284.add ((ji6)).toNat) = some (.int .i64 (rd l1 (ji6))) ∧ w'.cell? (ad285.add (((rd l1 (ji6))).toNat * 5)) = some (.int .i64 ((rd_T52 l0 (rd l1 (ji6))).f0)) ∧ w'.cell? ⟨(ad285.add (((rd l1 (ji6))).toNat * 5)).block, (ad285.add (((rd l1 (ji6))).toNat * 5)).off + 1, none⟩ = some (.int .i64 ((rd_T52 l0 (rd l1 (ji6))).f1)) ∧ w'.cell? ⟨(ad285.add (((rd l1 (ji6))).toNat * 5)).block, (ad285.add (((rd l1 (ji6))).toNat * 5)).off + 2, none⟩ = some (.int .i64 ((rd_T52 l0 (rd l1 (ji6))).f2)) ∧ w'.cell? ⟨(ad285.add (((rd l1 (ji6))).toNat * 5)).block, (ad285.add (((rd l1 (ji6))).toNat * 5)).off + 3, none⟩ = some (.int .i64 ((rd_T52 l0 (rd l1 (ji6))).f3)) ∧ w'.cell? ⟨(ad285.add (((rd l1 (ji6))).toNat * 5)).block, (ad285.add (((rd l1 (ji6))).toNat * 5)).off + 4, none⟩ = some (.int .i64 ((rd_T52 l0 (rd l1 (ji6))).f4)) ∧ w'.cell? (ad284.add (x7_1).toNat) = some (.int .i64 (rd l1 x7_1)) ∧ w'.cell? (ad285.add (((rd l1 x7_1)).toNat * 5)) = some (.int .i64 ((rd_T52 l0 (rd l1 x7_1)).f0)) ∧ w'.cell? ⟨(ad285.add (((rd l1 x7_1)).toNat * 5)).block, (ad285.add (((rd l1 x7_1)).toNat * 5)).off + 1, none⟩ = some (.int .i64 ((rd_T52 l0 (rd l1 x7_1)).f1)) ∧ w'.cell? ⟨(ad285.add (((rd l1 x7_1)).toNat * 5)).block, (ad285.add (((rd l1 x7_1)).toNat * 5)).off + 2, none⟩ = some (.int .i64 ((rd_T52 l0 (rd l1 x7_1)).f2)) ∧ w'.cell? ⟨(ad285.add (((rd l1 x7_1)).toNat * 5)).block, (ad285.add (((rd l1 x7_1)).toNat * 5)).off + 3, none⟩ = some (.int .i64 ((rd_T52 l0 (rd l1 x7_1)).f3)) ∧ w'.cell? ⟨(ad285.add (((rd l1 x7_1)).toNat * 5)).block, (ad285.add (((rd l1 x7_1)).toNat * 5)).off + 4, none⟩ = some (.int .i64 ((rd_T52 l0 (rd l1 x7_1)).f4))) (ds := []) #[F,F,F,F,F,F,F,F,F,F,F,F,F,F,F,F,F,F,F] (by kernel_rfl) rfl rfl ⟨(nC HB.out hw284_0 :), (nC HB.out hw285_0 :), (nC HB.out hw285_1 :), (nC HB.out hw285_2 :), (nC HB.out hw285_3 :), (nC HB.out hw285_4 :), (nC HB.out hw286_0 :), (nC HB.out hw287_0 :), (nC HB.out hw287_1 :), (nC HB.out hw287_2 :), (nC HB.out hw287_3 :), (nC HB.out hw287_4 :)⟩ (fun hHeld => ?_); refine with_tabW impl_dutyCode.tab4 impl_dutyCode.bits4 (fun HT_ HW_ => ?_)
         generalize wr.drew = w16 at BK283 HB hx284_0 hx285_0 hx285_1 hx285_2 hx285_3 hx285_4 hx286_0 hx287_0 hx287_1 hx287_2 hx287_3 hx287_4 hHeld ⊢
         refine pU 0 (some 16) #[T,F,F,F,F,F,F,F,F,F,F,F,F,F,F,F,F,F,F] rfl rfl HT_.out ?_
         refine pU 1 (some 17) #[T,T,F,F,F,F,F,F,F,F,F,F,F,F,F,F,F,F,F] rfl rfl HT_.out ?_
         refine pU 2 (some 18) #[T,T,T,F,F,F,F,F,F,F,F,F,F,F,F,F,F,F,F] rfl rfl HT_.out ?_
         refine pU 3 (some 19) #[T,T,T,T,F,F,F,F,F,F,F,F,F,F,F,F,F,F,F] rfl rfl HT_.out ?_
         refine pU 4 (some 20) #[T,T,T,T,T,F,F,F,F,F,F,F,F,F,F,F,F,F,F] rfl rfl HT_.out ?_
         refine pU 8 (some 24) #[T,T,T,T,T,F,F,F,T,F,F,F,F,F,F,F,F,F,F] rfl rfl HT_.out ?_
         refine pU 9 (some 25) #[T,T,T,T,T,F,F,F,T,T,F,F,F,F,F,F,F,F,F] rfl rfl HT_.out ?_
         refine pU 10 (some 26) #[T,T,T,T,T,F,F,F,T,T,T,F,F,F,F,F,F,F,F] rfl rfl HT_.out ?_
         refine pU 11 (some 27) #[T,T,T,T,T,F,F,F,T,T,T,T,F,F,F,F,F,F,F] rfl rfl HT_.out ?_
         refine tU12 5 (some 21) #[T,T,T,T,T,T,F,F,T,T,T,T,F,F,F,F,F,F,F] rfl rfl HT_.out HW_.out hHeld ?_
         refine pU 6 (some 22) #[T,T,T,T,T,T,T,F,T,T,T,T,F,F,F,F,F,F,F] rfl rfl HT_.out ?_
         refine tU12 7 (some 23) #[T,T,T,T,T,T,T,T,T,T,T,T,F,F,F,F,F,F,F] rfl rfl HT_.out HW_.out hHeld ?_
         refine tU12 12 (some 28) #[T,T,T,T,T,T,T,T,T,T,T,T,T,F,F,F,F,F,F] rfl rfl HT_.out HW_.out hHeld ?_
         refine pU 13 (some 29) #[T,T,T,T,T,T,T,T,T,T,T,T,T,T,F,F,F,F,F] rfl rfl HT_.out ?_
         refine tU12 14 (some 30) #[T,T,T,T,T,T,T,T,T,T,T,T,T,T,T,F,F,F,F] rfl rfl HT_.out HW_.out hHeld ?_
         refine join_ (σ := Nat × Nat) 2 #[T,T,T,T,T,T,T,T,T,T,T,T,T,T,T,T,T,F,F] (fun s_ => [(8, .pointer (some ⟨s_.1, 0, none⟩)), (9, .pointer (some ⟨s_.2, 0, none⟩))]) (fun s_ w' => (w'.cell? (ad284.add ((ji6)).toNat) = some (.int .i64 (rd l1 (ji6))) ∧ w'.cell? (ad285.add (((rd l1 (ji6))).toNat * 5)) = some (.int .i64 ((rd_T52 l0 (rd l1 (ji6))).f0)) ∧ w'.cell? ⟨(ad285.add (((rd l1 (ji6))).toNat * 5)).block, (ad285.add (((rd l1 (ji6))).toNat * 5)).off + 1, none⟩ = some (.int .i64 ((rd_T52 l0 (rd l1 (ji6))).f1)) ∧ w'.cell? ⟨(ad285.add (((rd l1 (ji6))).toNat * 5)).block, (ad285.add (((rd l1 (ji6))).toNat * 5)).off + 2, none⟩ = some (.int .i64 ((rd_T52 l0 (rd l1 (ji6))).f2)) ∧ w'.cell? ⟨(ad285.add (((rd l1 (ji6))).toNat * 5)).block, (ad285.add (((rd l1 (ji6))).toNat * 5)).off + 3, none⟩ = some (.int .i64 ((rd_T52 l0 (rd l1 (ji6))).f3)) ∧ w'.cell? ⟨(ad285.add (((rd l1 (ji6))).toNat * 5)).block, (ad285.add (((rd l1 (ji6))).toNat * 5)).off + 4, none⟩ = some (.int .i64 ((rd_T52 l0 (rd l1 (ji6))).f4)) ∧ w'.cell? (ad284.add (x7_1).toNat) = some (.int .i64 (rd l1 x7_1)) ∧ w'.cell? (ad285.add (((rd l1 x7_1)).toNat * 5)) = some (.int .i64 ((rd_T52 l0 (rd l1 x7_1)).f0)) ∧ w'.cell? ⟨(ad285.add (((rd l1 x7_1)).toNat * 5)).block, (ad285.add (((rd l1 x7_1)).toNat * 5)).off + 1, none⟩ = some (.int .i64 ((rd_T52 l0 (rd l1 x7_1)).f1)) ∧ w'.cell? ⟨(ad285.add (((rd l1 x7_1)).toNat * 5)).block, (ad285.add (((rd l1 x7_1)).toNat * 5)).off + 2, none⟩ = some (.int .i64 ((rd_T52 l0 (rd l1 x7_1)).f2)) ∧ w'.cell? ⟨(ad285.add (((rd l1 x7_1)).toNat * 5)).block, (ad285.add (((rd l1 x7_1)).toNat * 5)).off + 3, none⟩ = some (.int .i64 ((rd_T52 l0 (rd l1 x7_1)).f3)) ∧ w'.cell? ⟨(ad285.add (((rd l1 x7_1)).toNat * 5)).block, (ad285.add (((rd l1 x7_1)).toNat * 5)).off + 4, none⟩ = some (.int .i64 ((rd_T52 l0 (rd l1 x7_1)).f4))) ∧ (w'.heap[gb283]? = some (.cells #[.int .i64 a2_0, .int .i64 a2_1, .int .i64 a2_2, .int .i64 a2_3] 25 (0, 0))) ∧ (w'.heap[s_.1]? = some (.cells #[.int .i64 0, .int .i64 0, .int .i64 0, .int .i64 0, .int .i64 0] 52 (0, 0))) ∧ (w'.heap[s_.2]? = some (.cells #[.int .i64 0, .int .i64 0, .int .i64 0, .int .i64 0, .int .i64 0] 52 (0, 0))) ∧ (w.heap.size ≤ s_.1) ∧ (w.heap.size ≤ s_.1) ∧ (gb283 ≠ s_.1) ∧ (s_.1 ≠ gb283) ∧ (s_.2 ≠ s_.1) ∧ (s_.1 ≠ s_.2) ∧ (w.heap.size ≤ s_.2) ∧ (w.heap.size ≤ s_.2) ∧ (gb283 ≠ s_.2) ∧ (s_.2 ≠ gb283) ∧ (Below w.heap.size w w')) ?_ ?_
         rotate_left
         · intro hCont
           refine two_ (i := 15) (j := 16) (Ni := some 8) (Nj := some 9) #[T,T,T,T,T,T,T,T,T,T,T,T,T,T,T,T,F,F,F] #[T,T,T,T,T,T,T,T,T,T,T,T,T,T,T,F,T,F,F] rfl rfl rfl rfl (two_of HT_.out (by kernel_rfl)) (by decide) (by decide) (fun K hK => ?_) (fun K hK => ?_)
           · skip
             refine box_step ?hg (N := 8) ?hd (cs := #[.int .i64 0, .int .i64 0, .int .i64 0, .int .i64 0, .int .i64 0]) (t := 52) ?hr ?_; (case hd => rfl); (case hg => rfl); (case hr => first | (go_simp; done) | (go_simp; rfl))
             intro gb288 hg w17 hbox hb
             have n0_ := Aside0.mk (blk_below (g := gb283) (o := .cells #[.int .i64 a2_0, .int .i64 a2_1, .int .i64 a2_2, .int .i64 a2_3] 25 (0, 0)) (nB BK283.out) hb)
             have n1_ := Aside0.mk (below_step (nH1 HB.out GE283.out) hb)
             have n2_ := Aside0.mk (hbox)
             have n3_ := Aside0.mk ((by rw [hg]; exact (below_size (nH1 HB.out GE283.out)) : w.heap.size ≤ gb288))
             have n4_ := Aside0.mk ((by rw [hg]; exact (below_size (nH1 HB.out GE283.out)) : w.heap.size ≤ gb288))
             have n5_ := Aside0.mk ((by rw [hg]; exact Nat.ne_of_lt (blk_lt (g := gb283) (o := .cells #[.int .i64 a2_0, .int .i64 a2_1, .int .i64 a2_2, .int .i64 a2_3] 25 (0, 0)) (nB BK283.out)) : gb283 ≠ gb288))
             have n6_ := Aside0.mk ((by rw [hg]; exact Nat.ne_of_gt (blk_lt (g := gb283) (o := .cells #[.int .i64 a2_0, .int .i64 a2_1, .int .i64 a2_2, .int .i64 a2_3] 25 (0, 0)) (nB BK283.out)) : gb288 ≠ gb283))
             clear BK283; clear HB; have BK283 := n0_; have HB := n1_; have BK288 := n2_; have GW288 := n3_; have GE288 := n4_; have NB283_288 := n5_; have NB288_283 := n6_; clear n0_ n1_ n2_ n3_ n4_ n5_ n6_; clear hb hbox hg
             refine hK.out _ _ ⟨(nC HB.out hw284_0 :), (nC HB.out hw285_0 :), (nC HB.out hw285_1 :), (nC HB.out hw285_2 :), (nC HB.out hw285_3 :), (nC HB.out hw285_4 :), (nC HB.out hw286_0 :), (nC HB.out hw287_0 :), (nC HB.out hw287_1 :), (nC HB.out hw287_2 :), (nC HB.out hw287_3 :), (nC HB.out hw287_4 :)⟩ (fun hHeld => ?_)
             clear hK K
             refine norm_ (a' := ?_) ?_ ?_
             rotate_left
             · show Act.put _ (some 8) _ = _
               simp only [Act.put, List.setIfInBounds_toArray, List.set_cons_zero, List.set_cons_succ, i64_w, i32_w]
               rfl
             refine one_ (i := 16) (N := some 9) #[T,T,T,T,T,T,T,T,T,T,T,T,T,T,T,T,T,F,F] rfl rfl (one_of HT_.out (by kernel_rfl)) (by decide) (fun K hK => ?_)
             refine box_step ?hg (N := 9) ?hd (cs := #[.int .i64 0, .int .i64 0, .int .i64 0, .int .i64 0, .int .i64 0]) (t := 52) ?hr ?_; (case hd => rfl); (case hg => rfl); (case hr => first | (go_simp; done) | (go_simp; rfl))
             intro gb289 hg w18 hbox hb
             have n0_ := Aside0.mk (blk_below (g := gb283) (o := .cells #[.int .i64 a2_0, .int .i64 a2_1, .int .i64 a2_2, .int .i64 a2_3] 25 (0, 0)) (nB BK283.out) hb)
             have n1_ := Aside0.mk (blk_below (g := gb288) (o := .cells #[.int .i64 0, .int .i64 0, .int .i64 0, .int .i64 0, .int .i64 0] 52 (0, 0)) (nB BK288.out) hb)
             have n2_ := Aside0.mk (below_step (nH2 HB.out GE283.out GE288.out) hb)
             have n3_ := Aside0.mk (hbox)
             have n4_ := Aside0.mk ((by rw [hg]; exact (below_size (nH2 HB.out GE283.out GE288.out)) : w.heap.size ≤ gb289))
             have n5_ := Aside0.mk ((by rw [hg]; exact (below_size (nH2 HB.out GE283.out GE288.out)) : w.heap.size ≤ gb289))
             have n6_ := Aside0.mk ((by rw [hg]; exact Nat.ne_of_lt (blk_lt (g := gb283) (o := .cells #[.int .i64 a2_0, .int .i64 a2_1, .int .i64 a2_2, .int .i64 a2_3] 25 (0, 0)) (nB BK283.out)) : gb283 ≠ gb289))
             have n7_ := Aside0.mk ((by rw [hg]; exact Nat.ne_of_gt (blk_lt (g := gb283) (o := .cells #[.int .i64 a2_0, .int .i64 a2_1, .int .i64 a2_2, .int .i64 a2_3] 25 (0, 0)) (nB BK283.out)) : gb289 ≠ gb283))
             have n8_ := Aside0.mk ((by rw [hg]; exact Nat.ne_of_lt (blk_lt (g := gb288) (o := .cells #[.int .i64 0, .int .i64 0, .int .i64 0, .int .i64 0, .int .i64 0] 52 (0, 0)) (nB BK288.out)) : gb288 ≠ gb289))
             have n9_ := Aside0.mk ((by rw [hg]; exact Nat.ne_of_gt (blk_lt (g := gb288) (o := .cells #[.int .i64 0, .int .i64 0, .int .i64 0, .int .i64 0, .int .i64 0] 52 (0, 0)) (nB BK288.out)) : gb289 ≠ gb288))
             clear BK283; clear BK288; clear HB; have BK283 := n0_; have BK288 := n1_; have HB := n2_; have BK289 := n3_; have GW289 := n4_; have GE289 := n5_; have NB283_289 := n6_; have NB289_283 := n7_; have NB288_289 := n8_; have NB289_288 := n9_; clear n0_ n1_ n2_ n3_ n4_ n5_ n6_ n7_ n8_ n9_; clear hb hbox hg
             refine hK.out _ _ ⟨(nC HB.out hw284_0 :), (nC HB.out hw285_0 :), (nC HB.out hw285_1 :), (nC HB.out hw285_2 :), (nC HB.out hw285_3 :), (nC HB.out hw285_4 :), (nC HB.out hw286_0 :), (nC HB.out hw287_0 :), (nC HB.out hw287_1 :), (nC HB.out hw287_2 :), (nC HB.out hw287_3 :), (nC HB.out hw287_4 :)⟩ (fun hHeld => ?_)
             clear hK K
             refine norm_ (a' := ?_) ?_ ?_
             rotate_left
             · show Act.put _ (some 9) _ = _
               simp only [Act.put, List.setIfInBounds_toArray, List.set_cons_zero, List.set_cons_succ, i64_w, i32_w]
               rfl
             exact norm_ (by simp only [putAll, Act.put, List.setIfInBounds_toArray, List.set_cons_zero, List.set_cons_succ]) (hCont (gb288, gb289) _ ⟨hHeld, (nB BK283.out), (nB BK288.out), (nB BK289.out), GW288.out, GE288.out, NB283_288.out, NB288_283.out, NB289_288.out, NB288_289.out, GW289.out, GE289.out, NB283_289.out, NB289_283.out, (nH3 HB.out GE283.out GE288.out GE289.out)⟩)
           · skip
             refine box_step ?hg (N := 9) ?hd (cs := #[.int .i64 0, .int .i64 0, .int .i64 0, .int .i64 0, .int .i64 0]) (t := 52) ?hr ?_; (case hd => rfl); (case hg => rfl); (case hr => first | (go_simp; done) | (go_simp; rfl))
             intro gb289 hg w17 hbox hb
             have n0_ := Aside0.mk (blk_below (g := gb283) (o := .cells #[.int .i64 a2_0, .int .i64 a2_1, .int .i64 a2_2, .int .i64 a2_3] 25 (0, 0)) (nB BK283.out) hb)
             have n1_ := Aside0.mk (below_step (nH1 HB.out GE283.out) hb)
             have n2_ := Aside0.mk (hbox)
             have n3_ := Aside0.mk ((by rw [hg]; exact (below_size (nH1 HB.out GE283.out)) : w.heap.size ≤ gb289))
             have n4_ := Aside0.mk ((by rw [hg]; exact (below_size (nH1 HB.out GE283.out)) : w.heap.size ≤ gb289))
             have n5_ := Aside0.mk ((by rw [hg]; exact Nat.ne_of_lt (blk_lt (g := gb283) (o := .cells #[.int .i64 a2_0, .int .i64 a2_1, .int .i64 a2_2, .int .i64 a2_3] 25 (0, 0)) (nB BK283.out)) : gb283 ≠ gb289))
             have n6_ := Aside0.mk ((by rw [hg]; exact Nat.ne_of_gt (blk_lt (g := gb283) (o := .cells #[.int .i64 a2_0, .int .i64 a2_1, .int .i64 a2_2, .int .i64 a2_3] 25 (0, 0)) (nB BK283.out)) : gb289 ≠ gb283))
             clear BK283; clear HB; have BK283 := n0_; have HB := n1_; have BK289 := n2_; have GW289 := n3_; have GE289 := n4_; have NB283_289 := n5_; have NB289_283 := n6_; clear n0_ n1_ n2_ n3_ n4_ n5_ n6_; clear hb hbox hg
             refine hK.out _ _ ⟨(nC HB.out hw284_0 :), (nC HB.out hw285_0 :), (nC HB.out hw285_1 :), (nC HB.out hw285_2 :), (nC HB.out hw285_3 :), (nC HB.out hw285_4 :), (nC HB.out hw286_0 :), (nC HB.out hw287_0 :), (nC HB.out hw287_1 :), (nC HB.out hw287_2 :), (nC HB.out hw287_3 :), (nC HB.out hw287_4 :)⟩ (fun hHeld => ?_)
             clear hK K
             refine norm_ (a' := ?_) ?_ ?_
             rotate_left
             · show Act.put _ (some 9) _ = _
               simp only [Act.put, List.setIfInBounds_toArray, List.set_cons_zero, List.set_cons_succ, i64_w, i32_w]
               rfl
             refine one_ (i := 15) (N := some 8) #[T,T,T,T,T,T,T,T,T,T,T,T,T,T,T,T,T,F,F] rfl rfl (one_of HT_.out (by kernel_rfl)) (by decide) (fun K hK => ?_)
             refine box_step ?hg (N := 8) ?hd (cs := #[.int .i64 0, .int .i64 0, .int .i64 0, .int .i64 0, .int .i64 0]) (t := 52) ?hr ?_; (case hd => rfl); (case hg => rfl); (case hr => first | (go_simp; done) | (go_simp; rfl))
             intro gb288 hg w18 hbox hb
             have n0_ := Aside0.mk (blk_below (g := gb283) (o := .cells #[.int .i64 a2_0, .int .i64 a2_1, .int .i64 a2_2, .int .i64 a2_3] 25 (0, 0)) (nB BK283.out) hb)
             have n1_ := Aside0.mk (blk_below (g := gb289) (o := .cells #[.int .i64 0, .int .i64 0, .int .i64 0, .int .i64 0, .int .i64 0] 52 (0, 0)) (nB BK289.out) hb)
             have n2_ := Aside0.mk (below_step (nH2 HB.out GE283.out GE289.out) hb)
             have n3_ := Aside0.mk (hbox)
             have n4_ := Aside0.mk ((by rw [hg]; exact (below_size (nH2 HB.out GE283.out GE289.out)) : w.heap.size ≤ gb288))
             have n5_ := Aside0.mk ((by rw [hg]; exact (below_size (nH2 HB.out GE283.out GE289.out)) : w.heap.size ≤ gb288))
             have n6_ := Aside0.mk ((by rw [hg]; exact Nat.ne_of_lt (blk_lt (g := gb283) (o := .cells #[.int .i64 a2_0, .int .i64 a2_1, .int .i64 a2_2, .int .i64 a2_3] 25 (0, 0)) (nB BK283.out)) : gb283 ≠ gb288))
             have n7_ := Aside0.mk ((by rw [hg]; exact Nat.ne_of_gt (blk_lt (g := gb283) (o := .cells #[.int .i64 a2_0, .int .i64 a2_1, .int .i64 a2_2, .int .i64 a2_3] 25 (0, 0)) (nB BK283.out)) : gb288 ≠ gb283))
             have n8_ := Aside0.mk ((by rw [hg]; exact Nat.ne_of_lt (blk_lt (g := gb289) (o := .cells #[.int .i64 0, .int .i64 0, .int .i64 0, .int .i64 0, .int .i64 0] 52 (0, 0)) (nB BK289.out)) : gb289 ≠ gb288))
             have n9_ := Aside0.mk ((by rw [hg]; exact Nat.ne_of_gt (blk_lt (g := gb289) (o := .cells #[.int .i64 0, .int .i64 0, .int .i64 0, .int .i64 0, .int .i64 0] 52 (0, 0)) (nB BK289.out)) : gb288 ≠ gb289))
             clear BK283; clear BK289; clear HB; have BK283 := n0_; have BK289 := n1_; have HB := n2_; have BK288 := n3_; have GW288 := n4_; have GE288 := n5_; have NB283_288 := n6_; have NB288_283 := n7_; have NB289_288 := n8_; have NB288_289 := n9_; clear n0_ n1_ n2_ n3_ n4_ n5_ n6_ n7_ n8_ n9_; clear hb hbox hg
             refine hK.out _ _ ⟨(nC HB.out hw284_0 :), (nC HB.out hw285_0 :), (nC HB.out hw285_1 :), (nC HB.out hw285_2 :), (nC HB.out hw285_3 :), (nC HB.out hw285_4 :), (nC HB.out hw286_0 :), (nC HB.out hw287_0 :), (nC HB.out hw287_1 :), (nC HB.out hw287_2 :), (nC HB.out hw287_3 :), (nC HB.out hw287_4 :)⟩ (fun hHeld => ?_)
             clear hK K
             refine norm_ (a' := ?_) ?_ ?_
             rotate_left
             · show Act.put _ (some 8) _ = _
               simp only [Act.put, List.setIfInBounds_toArray, List.set_cons_zero, List.set_cons_succ, i64_w, i32_w]
               rfl
             exact norm_ (by simp only [putAll, Act.put, List.setIfInBounds_toArray, List.set_cons_zero, List.set_cons_succ]) (hCont (gb288, gb289) _ ⟨hHeld, (nB BK283.out), (nB BK288.out), (nB BK289.out), GW288.out, GE288.out, NB283_288.out, NB288_283.out, NB289_288.out, NB288_289.out, GW289.out, GE289.out, NB283_289.out, NB289_283.out, (nH3 HB.out GE283.out GE289.out GE288.out)⟩)
         rintro ⟨gb288, gb289⟩ w19 ⟨hS_, h0_, h1_, h2_, h3_, h4_, h5_, h6_, h7_, h8_, h9_, h10_, h11_, h12_, h13_⟩
         have n0_ : Aside0 (w19.heap[gb283]? = some (.cells #[.int .i64 a2_0, .int .i64 a2_1, .int .i64 a2_2, .int .i64 a2_3] 25 (0, 0))) := ⟨h0_⟩
         have n1_ : Aside0 (w19.heap[gb288]? = some (.cells #[.int .i64 0, .int .i64 0, .int .i64 0, .int .i64 0, .int .i64 0] 52 (0, 0))) := ⟨h1_⟩
         have n2_ : Aside0 (w19.heap[gb289]? = some (.cells #[.int .i64 0, .int .i64 0, .int .i64 0, .int .i64 0, .int .i64 0] 52 (0, 0))) := ⟨h2_⟩
         have n3_ : Aside0 (w.heap.size ≤ gb288) := ⟨h3_⟩
         have n4_ : Aside0 (w.heap.size ≤ gb288) := ⟨h4_⟩
         have n5_ : Aside0 (gb283 ≠ gb288) := ⟨h5_⟩
         have n6_ : Aside0 (gb288 ≠ gb283) := ⟨h6_⟩
         have n7_ : Aside0 (gb289 ≠ gb288) := ⟨h7_⟩
         have n8_ : Aside0 (gb288 ≠ gb289) := ⟨h8_⟩
         have n9_ : Aside0 (w.heap.size ≤ gb289) := ⟨h9_⟩
         have n10_ : Aside0 (w.heap.size ≤ gb289) := ⟨h10_⟩
         have n11_ : Aside0 (gb283 ≠ gb289) := ⟨h11_⟩
         have n12_ : Aside0 (gb289 ≠ gb283) := ⟨h12_⟩
         have n13_ : Aside0 (Below w.heap.size w w19) := ⟨h13_⟩
         clear BK283; clear HB; clear h0_ h1_ h2_ h3_ h4_ h5_ h6_ h7_ h8_ h9_ h10_ h11_ h12_ h13_; have BK283 := n0_; have BK288 := n1_; have BK289 := n2_; have GW288 := n3_; have GE288 := n4_; have NB283_288 := n5_; have NB288_283 := n6_; have NB289_288 := n7_; have NB288_289 := n8_; have GW289 := n9_; have GE289 := n10_; have NB283_289 := n11_; have NB289_283 := n12_; have HB := n13_; clear n0_ n1_ n2_ n3_ n4_ n5_ n6_ n7_ n8_ n9_ n10_ n11_ n12_ n13_
         have hHeld : w19.cell? (ad284.add ((ji6)).toNat) = some (.int .i64 (rd l1 (ji6))) ∧ w19.cell? (ad285.add (((rd l1 (ji6))).toNat * 5)) = some (.int .i64 ((rd_T52 l0 (rd l1 (ji6))).f0)) ∧ w19.cell? ⟨(ad285.add (((rd l1 (ji6))).toNat * 5)).block, (ad285.add (((rd l1 (ji6))).toNat * 5)).off + 1, none⟩ = some (.int .i64 ((rd_T52 l0 (rd l1 (ji6))).f1)) ∧ w19.cell? ⟨(ad285.add (((rd l1 (ji6))).toNat * 5)).block, (ad285.add (((rd l1 (ji6))).toNat * 5)).off + 2, none⟩ = some (.int .i64 ((rd_T52 l0 (rd l1 (ji6))).f2)) ∧ w19.cell? ⟨(ad285.add (((rd l1 (ji6))).toNat * 5)).block, (ad285.add (((rd l1 (ji6))).toNat * 5)).off + 3, none⟩ = some (.int .i64 ((rd_T52 l0 (rd l1 (ji6))).f3)) ∧ w19.cell? ⟨(ad285.add (((rd l1 (ji6))).toNat * 5)).block, (ad285.add (((rd l1 (ji6))).toNat * 5)).off + 4, none⟩ = some (.int .i64 ((rd_T52 l0 (rd l1 (ji6))).f4)) ∧ w19.cell? (ad284.add (x7_1).toNat) = some (.int .i64 (rd l1 x7_1)) ∧ w19.cell? (ad285.add (((rd l1 x7_1)).toNat * 5)) = some (.int .i64 ((rd_T52 l0 (rd l1 x7_1)).f0)) ∧ w19.cell? ⟨(ad285.add (((rd l1 x7_1)).toNat * 5)).block, (ad285.add (((rd l1 x7_1)).toNat * 5)).off + 1, none⟩ = some (.int .i64 ((rd_T52 l0 (rd l1 x7_1)).f1)) ∧ w19.cell? ⟨(ad285.add (((rd l1 x7_1)).toNat * 5)).block, (ad285.add (((rd l1 x7_1)).toNat * 5)).off + 2, none⟩ = some (.int .i64 ((rd_T52 l0 (rd l1 x7_1)).f2)) ∧ w19.cell? ⟨(ad285.add (((rd l1 x7_1)).toNat * 5)).block, (ad285.add (((rd l1 x7_1)).toNat * 5)).off + 3, none⟩ = some (.int .i64 ((rd_T52 l0 (rd l1 x7_1)).f3)) ∧ w19.cell? ⟨(ad285.add (((rd l1 x7_1)).toNat * 5)).block, (ad285.add (((rd l1 x7_1)).toNat * 5)).off + 4, none⟩ = some (.int .i64 ((rd_T52 l0 (rd l1 x7_1)).f4)) := hS_
         refine norm_ (a' := ?_) ?_ ?_
         rotate_left
         · simp only [putAll, Act.put, List.setIfInBounds_toArray, List.set_cons_zero, List.set_cons_succ]
           rfl
         refine one_ (i := 17) (N := none) #[T,T,T,T,T,T,T,T,T,T,T,T,T,T,T,T,T,T,F] rfl rfl (one_of HT_.out (by kernel_rfl)) (by decide) (fun K hK => ?_)
         have hs20 : w19.cell? ⟨gb288, 0, none⟩ = some (.int .i64 0) := (blk_cell BK288.out 0).trans rfl
         have hfs20 := blk_frozen BK288.out 0
         have hns20_0 := NB283_288.out; have hns20_2 := NB289_288.out; have hms20_0 := NB288_283.out; have hms20_2 := NB288_289.out
         have hs21 : w19.cell? ⟨gb288, 1, none⟩ = some (.int .i64 0) := (blk_cell BK288.out 1).trans rfl
         have hfs21 := blk_frozen BK288.out 1
         have hns21_0 := NB283_288.out; have hns21_2 := NB289_288.out; have hms21_0 := NB288_283.out; have hms21_2 := NB288_289.out
         have hs22 : w19.cell? ⟨gb288, 2, none⟩ = some (.int .i64 0) := (blk_cell BK288.out 2).trans rfl
         have hfs22 := blk_frozen BK288.out 2
         have hns22_0 := NB283_288.out; have hns22_2 := NB289_288.out; have hms22_0 := NB288_283.out; have hms22_2 := NB288_289.out
         have hs23 : w19.cell? ⟨gb288, 3, none⟩ = some (.int .i64 0) := (blk_cell BK288.out 3).trans rfl
         have hfs23 := blk_frozen BK288.out 3
         have hns23_0 := NB283_288.out; have hns23_2 := NB289_288.out; have hms23_0 := NB288_283.out; have hms23_2 := NB288_289.out
         have hs24 : w19.cell? ⟨gb288, 4, none⟩ = some (.int .i64 0) := (blk_cell BK288.out 4).trans rfl
         have hfs24 := blk_frozen BK288.out 4
         have hns24_0 := NB283_288.out; have hns24_2 := NB289_288.out; have hms24_0 := NB288_283.out; have hms24_2 := NB288_289.out
         refine skip_ (w1 := ?_) (by rfl) rfl ?_ ?_
         rotate_left
         · go_simp; rfl
         refine hK.out _ _ ⟨((nF gb288 hw284_0 GW288.out).trans (((nF gb288 hw284_0 GW288.out).trans (((nF gb288 hw284_0 GW288.out).trans (((nF gb288 hw284_0 GW288.out).trans (((nF gb288 hw284_0 GW288.out).trans (hHeld.1)))))))))), ((nF gb288 hw285_0 GW288.out).trans (((nF gb288 hw285_0 GW288.out).trans (((nF gb288 hw285_0 GW288.out).trans (((nF gb288 hw285_0 GW288.out).trans (((nF gb288 hw285_0 GW288.out).trans (hHeld.2.1)))))))))), ((nF gb288 hw285_1 GW288.out).trans (((nF gb288 hw285_1 GW288.out).trans (((nF gb288 hw285_1 GW288.out).trans (((nF gb288 hw285_1 GW288.out).trans (((nF gb288 hw285_1 GW288.out).trans (hHeld.2.2.1)))))))))), ((nF gb288 hw285_2 GW288.out).trans (((nF gb288 hw285_2 GW288.out).trans (((nF gb288 hw285_2 GW288.out).trans (((nF gb288 hw285_2 GW288.out).trans (((nF gb288 hw285_2 GW288.out).trans (hHeld.2.2.2.1)))))))))), ((nF gb288 hw285_3 GW288.out).trans (((nF gb288 hw285_3 GW288.out).trans (((nF gb288 hw285_3 GW288.out).trans (((nF gb288 hw285_3 GW288.out).trans (((nF gb288 hw285_3 GW288.out).trans (hHeld.2.2.2.2.1)))))))))), ((nF gb288 hw285_4 GW288.out).trans (((nF gb288 hw285_4 GW288.out).trans (((nF gb288 hw285_4 GW288.out).trans (((nF gb288 hw285_4 GW288.out).trans (((nF gb288 hw285_4 GW288.out).trans (hHeld.2.2.2.2.2.1)))))))))), ((nF gb288 hw286_0 GW288.out).trans (((nF gb288 hw286_0 GW288.out).trans (((nF gb288 hw286_0 GW288.out).trans (((nF gb288 hw286_0 GW288.out).trans (((nF gb288 hw286_0 GW288.out).trans (hHeld.2.2.2.2.2.2.1)))))))))), ((nF gb288 hw287_0 GW288.out).trans (((nF gb288 hw287_0 GW288.out).trans (((nF gb288 hw287_0 GW288.out).trans (((nF gb288 hw287_0 GW288.out).trans (((nF gb288 hw287_0 GW288.out).trans (hHeld.2.2.2.2.2.2.2.1)))))))))), ((nF gb288 hw287_1 GW288.out).trans (((nF gb288 hw287_1 GW288.out).trans (((nF gb288 hw287_1 GW288.out).trans (((nF gb288 hw287_1 GW288.out).trans (((nF gb288 hw287_1 GW288.out).trans (hHeld.2.2.2.2.2.2.2.2.1)))))))))), ((nF gb288 hw287_2 GW288.out).trans (((nF gb288 hw287_2 GW288.out).trans (((nF gb288 hw287_2 GW288.out).trans (((nF gb288 hw287_2 GW288.out).trans (((nF gb288 hw287_2 GW288.out).trans (hHeld.2.2.2.2.2.2.2.2.2.1)))))))))), ((nF gb288 hw287_3 GW288.out).trans (((nF gb288 hw287_3 GW288.out).trans (((nF gb288 hw287_3 GW288.out).trans (((nF gb288 hw287_3 GW288.out).trans (((nF gb288 hw287_3 GW288.out).trans (hHeld.2.2.2.2.2.2.2.2.2.2.1)))))))))), ((nF gb288 hw287_4 GW288.out).trans (((nF gb288 hw287_4 GW288.out).trans (((nF gb288 hw287_4 GW288.out).trans (((nF gb288 hw287_4 GW288.out).trans (((nF gb288 hw287_4 GW288.out).trans (hHeld.2.2.2.2.2.2.2.2.2.2.2))))))))))⟩ (fun hHeld => ?_)
         clear hK K
         refine one_ (i := 18) (N := none) #[T,T,T,T,T,T,T,T,T,T,T,T,T,T,T,T,T,T,T] rfl rfl (one_of HT_.out (by kernel_rfl)) (by decide) (fun K hK => ?_)
         have hs25 : w19.cell? ⟨gb289, 0, none⟩ = some (.int .i64 0) := (blk_cell BK289.out 0).trans rfl
         have hfs25 := blk_frozen BK289.out 0
         have hns25_0 := NB283_289.out; have hns25_1 := NB288_289.out; have hms25_0 := NB289_283.out; have hms25_1 := NB289_288.out
         have hs26 : w19.cell? ⟨gb289, 1, none⟩ = some (.int .i64 0) := (blk_cell BK289.out 1).trans rfl
         have hfs26 := blk_frozen BK289.out 1
         have hns26_0 := NB283_289.out; have hns26_1 := NB288_289.out; have hms26_0 := NB289_283.out; have hms26_1 := NB289_288.out
         have hs27 : w19.cell? ⟨gb289, 2, none⟩ = some (.int .i64 0) := (blk_cell BK289.out 2).trans rfl
         have hfs27 := blk_frozen BK289.out 2
         have hns27_0 := NB283_289.out; have hns27_1 := NB288_289.out; have hms27_0 := NB289_283.out; have hms27_1 := NB289_288.out
         have hs28 : w19.cell? ⟨gb289, 3, none⟩ = some (.int .i64 0) := (blk_cell BK289.out 3).trans rfl
         have hfs28 := blk_frozen BK289.out 3
         have hns28_0 := NB283_289.out; have hns28_1 := NB288_289.out; have hms28_0 := NB289_283.out; have hms28_1 := NB289_288.out
         have hs29 : w19.cell? ⟨gb289, 4, none⟩ = some (.int .i64 0) := (blk_cell BK289.out 4).trans rfl
         have hfs29 := blk_frozen BK289.out 4
         have hns29_0 := NB283_289.out; have hns29_1 := NB288_289.out; have hms29_0 := NB289_283.out; have hms29_1 := NB289_288.out
         refine skip_ (w1 := ?_) (by rfl) rfl ?_ ?_
         rotate_left
         · go_simp; rfl
         refine hK.out _ _ ⟨((nF gb289 hw284_0 GW289.out).trans (((nF gb289 hw284_0 GW289.out).trans (((nF gb289 hw284_0 GW289.out).trans (((nF gb289 hw284_0 GW289.out).trans (((nF gb289 hw284_0 GW289.out).trans (hHeld.1)))))))))), ((nF gb289 hw285_0 GW289.out).trans (((nF gb289 hw285_0 GW289.out).trans (((nF gb289 hw285_0 GW289.out).trans (((nF gb289 hw285_0 GW289.out).trans (((nF gb289 hw285_0 GW289.out).trans (hHeld.2.1)))))))))), ((nF gb289 hw285_1 GW289.out).trans (((nF gb289 hw285_1 GW289.out).trans (((nF gb289 hw285_1 GW289.out).trans (((nF gb289 hw285_1 GW289.out).trans (((nF gb289 hw285_1 GW289.out).trans (hHeld.2.2.1)))))))))), ((nF gb289 hw285_2 GW289.out).trans (((nF gb289 hw285_2 GW289.out).trans (((nF gb289 hw285_2 GW289.out).trans (((nF gb289 hw285_2 GW289.out).trans (((nF gb289 hw285_2 GW289.out).trans (hHeld.2.2.2.1)))))))))), ((nF gb289 hw285_3 GW289.out).trans (((nF gb289 hw285_3 GW289.out).trans (((nF gb289 hw285_3 GW289.out).trans (((nF gb289 hw285_3 GW289.out).trans (((nF gb289 hw285_3 GW289.out).trans (hHeld.2.2.2.2.1)))))))))), ((nF gb289 hw285_4 GW289.out).trans (((nF gb289 hw285_4 GW289.out).trans (((nF gb289 hw285_4 GW289.out).trans (((nF gb289 hw285_4 GW289.out).trans (((nF gb289 hw285_4 GW289.out).trans (hHeld.2.2.2.2.2.1)))))))))), ((nF gb289 hw286_0 GW289.out).trans (((nF gb289 hw286_0 GW289.out).trans (((nF gb289 hw286_0 GW289.out).trans (((nF gb289 hw286_0 GW289.out).trans (((nF gb289 hw286_0 GW289.out).trans (hHeld.2.2.2.2.2.2.1)))))))))), ((nF gb289 hw287_0 GW289.out).trans (((nF gb289 hw287_0 GW289.out).trans (((nF gb289 hw287_0 GW289.out).trans (((nF gb289 hw287_0 GW289.out).trans (((nF gb289 hw287_0 GW289.out).trans (hHeld.2.2.2.2.2.2.2.1)))))))))), ((nF gb289 hw287_1 GW289.out).trans (((nF gb289 hw287_1 GW289.out).trans (((nF gb289 hw287_1 GW289.out).trans (((nF gb289 hw287_1 GW289.out).trans (((nF gb289 hw287_1 GW289.out).trans (hHeld.2.2.2.2.2.2.2.2.1)))))))))), ((nF gb289 hw287_2 GW289.out).trans (((nF gb289 hw287_2 GW289.out).trans (((nF gb289 hw287_2 GW289.out).trans (((nF gb289 hw287_2 GW289.out).trans (((nF gb289 hw287_2 GW289.out).trans (hHeld.2.2.2.2.2.2.2.2.2.1)))))))))), ((nF gb289 hw287_3 GW289.out).trans (((nF gb289 hw287_3 GW289.out).trans (((nF gb289 hw287_3 GW289.out).trans (((nF gb289 hw287_3 GW289.out).trans (((nF gb289 hw287_3 GW289.out).trans (hHeld.2.2.2.2.2.2.2.2.2.2.1)))))))))), ((nF gb289 hw287_4 GW289.out).trans (((nF gb289 hw287_4 GW289.out).trans (((nF gb289 hw287_4 GW289.out).trans (((nF gb289 hw287_4 GW289.out).trans (((nF gb289 hw287_4 GW289.out).trans (hHeld.2.2.2.2.2.2.2.2.2.2.2))))))))))⟩ (fun hHeld => ?_)
         clear hK K
         refine done_ (done_of HT_.out (by kernel_rfl)) ?_
         have hnb30 := NB288_283.out; have hnc30 := NB283_288.out; have hnb31 := NB288_289.out; have hnc31 := NB289_288.out
         have hcz32_0 : w19.cell? ⟨gb288, 0, none⟩ = some (.int .i64 0) := (blk_cell BK288.out 0).trans rfl
         have hcz32_1 : w19.cell? ⟨gb288, 1, none⟩ = some (.int .i64 0) := (blk_cell BK288.out 1).trans rfl
         have hcz32_2 : w19.cell? ⟨gb288, 2, none⟩ = some (.int .i64 0) := (blk_cell BK288.out 2).trans rfl
         have hcz32_3 : w19.cell? ⟨gb288, 3, none⟩ = some (.int .i64 0) := (blk_cell BK288.out 3).trans rfl
         have hcz32_4 : w19.cell? ⟨gb288, 4, none⟩ = some (.int .i64 0) := (blk_cell BK288.out 4).trans rfl
         have hfz32_0 := blk_frozen BK288.out 0
         have hfz32_1 := blk_frozen BK288.out 1
         have hfz32_2 := blk_frozen BK288.out 2
         have hfz32_3 := blk_frozen BK288.out 3
         have hfz32_4 := blk_frozen BK288.out 4
         have hnb33 := NB289_283.out; have hnc33 := NB283_289.out
         have hcz34_0 : w19.cell? ⟨gb289, 0, none⟩ = some (.int .i64 0) := (blk_cell BK289.out 0).trans rfl
         have hcz34_1 : w19.cell? ⟨gb289, 1, none⟩ = some (.int .i64 0) := (blk_cell BK289.out 1).trans rfl
         have hcz34_2 : w19.cell? ⟨gb289, 2, none⟩ = some (.int .i64 0) := (blk_cell BK289.out 2).trans rfl
         have hcz34_3 : w19.cell? ⟨gb289, 3, none⟩ = some (.int .i64 0) := (blk_cell BK289.out 3).trans rfl
         have hcz34_4 : w19.cell? ⟨gb289, 4, none⟩ = some (.int .i64 0) := (blk_cell BK289.out 4).trans rfl
         have hfz34_0 := blk_frozen BK289.out 0
         have hfz34_1 := blk_frozen BK289.out 1
         have hfz34_2 := blk_frozen BK289.out 2
         have hfz34_3 := blk_frozen BK289.out 3
         have hfz34_4 := blk_frozen BK289.out 4
         try go_wp2
         go_ret
         exact ⟨by first | rfl | (simp [errW_none, errW_some] <;> rfl) | (simp only [← hji6]; first | rfl | (simp [errW_none, errW_some] <;> rfl)) | (simp [*, errW_none, errW_some] <;> first | rfl | (simp [wrap64]; done)), nH3 HB.out GE283.out GE288.out GE289.out⟩
       · rw [if_neg c15] at H
         have c15b0 : decide (((rd_T52 l0 (rd l1 x7_1)).f2) < ((rd_T52 l0 (rd l1 (ji6))).f3)) = false := decide_eq_false c15
         clear c15
         have H' := Aside0.mk H
         clear H
         try go_wp2
         have n0_ := Aside0.mk (blk_drew BK283.out)
         have n1_ := Aside0.mk (below_drew1 HB.out)
         clear BK283; clear HB; have BK283 := n0_; have HB := n1_; clear n0_ n1_
         have p284 : 0 ≤ ((ji6) : Int) := of_decide_eq_true nQ
         have q284 : (ji6) < (l1.length : Int) := of_decide_eq_true nQ
         obtain ⟨ad284, e284, hx284_0⟩ := Kd.at_int HR1.out (ji6) p284 q284
         have hw284_0 := hx284_0; cases e284
         replace hx284_0 := (HB.out.cell (World.block_lt_of_cell? w _ hx284_0)).trans hx284_0
         replace p284 := eq_true p284; replace q284 := eq_true q284
         have p285 : 0 ≤ ((rd l1 (ji6)) : Int) := of_decide_eq_true nQ
         have q285 : (rd l1 (ji6)) < (l0.length : Int) := of_decide_eq_true nQ
         obtain ⟨ad285, e285, hx285_0, hx285_1, hx285_2, hx285_3, hx285_4⟩ := at_T52 HR0.out (rd l1 (ji6)) p285 q285
         have hw285_4 := hx285_4; have hw285_3 := hx285_3; have hw285_2 := hx285_2; have hw285_1 := hx285_1; have hw285_0 := hx285_0; cases e285
         replace hx285_0 := (HB.out.cell (World.block_lt_of_cell? w _ hx285_0)).trans hx285_0
         replace hx285_1 := (HB.out.cell (World.block_lt_of_cell? w _ hx285_1)).trans hx285_1
         replace hx285_2 := (HB.out.cell (World.block_lt_of_cell? w _ hx285_2)).trans hx285_2
         replace hx285_3 := (HB.out.cell (World.block_lt_of_cell? w _ hx285_3)).trans hx285_3
         replace hx285_4 := (HB.out.cell (World.block_lt_of_cell? w _ hx285_4)).trans hx285_4
         replace p285 := eq_true p285; replace q285 := eq_true q285
         have p286 : 0 ≤ (x7_1 : Int) := of_decide_eq_true nQ
         have q286 : x7_1 < (l1.length : Int) := of_decide_eq_true nQ
         obtain ⟨ad286, e286, hx286_0⟩ := Kd.at_int HR1.out x7_1 p286 q286
         have hw286_0 := hx286_0
         obtain rfl : ad284 = ad286 := (by injection e286)
         replace hx286_0 := (HB.out.cell (World.block_lt_of_cell? w _ hx286_0)).trans hx286_0
         replace p286 := eq_true p286; replace q286 := eq_true q286
         have p287 : 0 ≤ ((rd l1 x7_1) : Int) := of_decide_eq_true nQ
         have q287 : (rd l1 x7_1) < (l0.length : Int) := of_decide_eq_true nQ
         obtain ⟨ad287, e287, hx287_0, hx287_1, hx287_2, hx287_3, hx287_4⟩ := at_T52 HR0.out (rd l1 x7_1) p287 q287
         have hw287_4 := hx287_4; have hw287_3 := hx287_3; have hw287_2 := hx287_2; have hw287_1 := hx287_1; have hw287_0 := hx287_0
         obtain rfl : ad285 = ad287 := (by injection e287)
         replace hx287_0 := (HB.out.cell (World.block_lt_of_cell? w _ hx287_0)).trans hx287_0
         replace hx287_1 := (HB.out.cell (World.block_lt_of_cell? w _ hx287_1)).trans hx287_1
         replace hx287_2 := (HB.out.cell (World.block_lt_of_cell? w _ hx287_2)).trans hx287_2
         replace hx287_3 := (HB.out.cell (World.block_lt_of_cell? w _ hx287_3)).trans hx287_3
         replace hx287_4 := (HB.out.cell (World.block_lt_of_cell? w _ hx287_4)).trans hx287_4
         replace p287 := eq_true p287; replace q287 := eq_true q287
         refine start_ (n := 19) (S := fun w' => w'.cell? (ad284.add ((ji6)).toNat) = some (.int .i64 (rd l1 (ji6))) ∧ w'.cell? (ad285.add (((rd l1 (ji6))).toNat * 5)) = some (.int .i64 ((rd_T52 l0 (rd l1 (ji6))).f0)) ∧ w'.cell? ⟨(ad285.add (((rd l1 (ji6))).toNat * 5)).block, (ad285.add (((rd l1 (ji6))).toNat * 5)).off + 1, none⟩ = some (.int .i64 ((rd_T52 l0 (rd l1 (ji6))).f1)) ∧ w'.cell? ⟨(ad285.add (((rd l1 (ji6))).toNat * 5)).block, (ad285.add (((rd l1 (ji6))).toNat * 5)).off + 2, none⟩ = some (.int .i64 ((rd_T52 l0 (rd l1 (ji6))).f2)) ∧ w'.cell? ⟨(ad285.add (((rd l1 (ji6))).toNat * 5)).block, (ad285.add (((rd l1 (ji6))).toNat * 5)).off + 3, none⟩ = some (.int .i64 ((rd_T52 l0 (rd l1 (ji6))).f3)) ∧ w'.cell? ⟨(ad285.add (((rd l1 (ji6))).toNat * 5)).block, (ad285.add (((rd l1 (ji6))).toNat * 5)).off + 4, none⟩ = some (.int .i64 ((rd_T52 l0 (rd l1 (ji6))).f4)) ∧ w'.cell? (ad284.add (x7_1).toNat) = some (.int .i64 (rd l1 x7_1)) ∧ w'.cell? (ad285.add (((rd l1 x7_1)).toNat * 5)) = some (.int .i64 ((rd_T52 l0 (rd l1 x7_1)).f0)) ∧ w'.cell? ⟨(ad285.add (((rd l1 x7_1)).toNat * 5)).block, (ad285.add (((rd l1 x7_1)).toNat * 5)).off + 1, none⟩ = some (.int .i64 ((rd_T52 l0 (rd l1 x7_1)).f1)) ∧ w'.cell? ⟨(ad285.add (((rd l1 x7_1)).toNat * 5)).block, (ad285.add (((rd l1 x7_1)).toNat * 5)).off + 2, none⟩ = some (.int .i64 ((rd_T52 l0 (rd l1 x7_1)).f2)) ∧ w'.cell? ⟨(ad285.add (((rd l1 x7_1)).toNat * 5)).block, (ad285.add (((rd l1 x7_1)).toNat * 5)).off + 3, none⟩ = some (.int .i64 ((rd_T52 l0 (rd l1 x7_1)).f3)) ∧ w'.cell? ⟨(ad285.add (((rd l1 x7_1)).toNat * 5)).block, (ad285.add (((rd l1 x7_1)).toNat * 5)).off + 4, none⟩ = some (.int .i64 ((rd_T52 l0 (rd l1 x7_1)).f4))) (ds := []) #[F,F,F,F,F,F,F,F,F,F,F,F,F,F,F,F,F,F,F] (by kernel_rfl) rfl rfl ⟨(nC HB.out hw284_0 :), (nC HB.out hw285_0 :), (nC HB.out hw285_1 :), (nC HB.out hw285_2 :), (nC HB.out hw285_3 :), (nC HB.out hw285_4 :), (nC HB.out hw286_0 :), (nC HB.out hw287_0 :), (nC HB.out hw287_1 :), (nC HB.out hw287_2 :), (nC HB.out hw287_3 :), (nC HB.out hw287_4 :)⟩ (fun hHeld => ?_); refine with_tabW impl_dutyCode.tab4 impl_dutyCode.bits4 (fun HT_ HW_ => ?_)
         generalize wr.drew = w35 at BK283 HB hx284_0 hx285_0 hx285_1 hx285_2 hx285_3 hx285_4 hx286_0 hx287_0 hx287_1 hx287_2 hx287_3 hx287_4 hHeld ⊢
         refine pU 0 (some 16) #[T,F,F,F,F,F,F,F,F,F,F,F,F,F,F,F,F,F,F] rfl rfl HT_.out ?_
         refine pU 1 (some 17) #[T,T,F,F,F,F,F,F,F,F,F,F,F,F,F,F,F,F,F] rfl rfl HT_.out ?_
         refine pU 2 (some 18) #[T,T,T,F,F,F,F,F,F,F,F,F,F,F,F,F,F,F,F] rfl rfl HT_.out ?_
         refine pU 3 (some 19) #[T,T,T,T,F,F,F,F,F,F,F,F,F,F,F,F,F,F,F] rfl rfl HT_.out ?_
         refine pU 4 (some 20) #[T,T,T,T,T,F,F,F,F,F,F,F,F,F,F,F,F,F,F] rfl rfl HT_.out ?_
         refine pU 8 (some 24) #[T,T,T,T,T,F,F,F,T,F,F,F,F,F,F,F,F,F,F] rfl rfl HT_.out ?_
         refine pU 9 (some 25) #[T,T,T,T,T,F,F,F,T,T,F,F,F,F,F,F,F,F,F] rfl rfl HT_.out ?_
         refine pU 10 (some 26) #[T,T,T,T,T,F,F,F,T,T,T,F,F,F,F,F,F,F,F] rfl rfl HT_.out ?_
         refine pU 11 (some 27) #[T,T,T,T,T,F,F,F,T,T,T,T,F,F,F,F,F,F,F] rfl rfl HT_.out ?_
         refine tU12 5 (some 21) #[T,T,T,T,T,T,F,F,T,T,T,T,F,F,F,F,F,F,F] rfl rfl HT_.out HW_.out hHeld ?_
         refine pU 6 (some 22) #[T,T,T,T,T,T,T,F,T,T,T,T,F,F,F,F,F,F,F] rfl rfl HT_.out ?_
         refine tU12 7 (some 23) #[T,T,T,T,T,T,T,T,T,T,T,T,F,F,F,F,F,F,F] rfl rfl HT_.out HW_.out hHeld ?_
         refine tU12 12 (some 28) #[T,T,T,T,T,T,T,T,T,T,T,T,T,F,F,F,F,F,F] rfl rfl HT_.out HW_.out hHeld ?_
         refine pU 13 (some 29) #[T,T,T,T,T,T,T,T,T,T,T,T,T,T,F,F,F,F,F] rfl rfl HT_.out ?_
         refine tU12 14 (some 30) #[T,T,T,T,T,T,T,T,T,T,T,T,T,T,T,F,F,F,F] rfl rfl HT_.out HW_.out hHeld ?_
         refine join_ (σ := Nat × Nat) 2 #[T,T,T,T,T,T,T,T,T,T,T,T,T,T,T,T,T,F,F] (fun s_ => [(8, .pointer (some ⟨s_.1, 0, none⟩)), (9, .pointer (some ⟨s_.2, 0, none⟩))]) (fun s_ w' => (w'.cell? (ad284.add ((ji6)).toNat) = some (.int .i64 (rd l1 (ji6))) ∧ w'.cell? (ad285.add (((rd l1 (ji6))).toNat * 5)) = some (.int .i64 ((rd_T52 l0 (rd l1 (ji6))).f0)) ∧ w'.cell? ⟨(ad285.add (((rd l1 (ji6))).toNat * 5)).block, (ad285.add (((rd l1 (ji6))).toNat * 5)).off + 1, none⟩ = some (.int .i64 ((rd_T52 l0 (rd l1 (ji6))).f1)) ∧ w'.cell? ⟨(ad285.add (((rd l1 (ji6))).toNat * 5)).block, (ad285.add (((rd l1 (ji6))).toNat * 5)).off + 2, none⟩ = some (.int .i64 ((rd_T52 l0 (rd l1 (ji6))).f2)) ∧ w'.cell? ⟨(ad285.add (((rd l1 (ji6))).toNat * 5)).block, (ad285.add (((rd l1 (ji6))).toNat * 5)).off + 3, none⟩ = some (.int .i64 ((rd_T52 l0 (rd l1 (ji6))).f3)) ∧ w'.cell? ⟨(ad285.add (((rd l1 (ji6))).toNat * 5)).block, (ad285.add (((rd l1 (ji6))).toNat * 5)).off + 4, none⟩ = some (.int .i64 ((rd_T52 l0 (rd l1 (ji6))).f4)) ∧ w'.cell? (ad284.add (x7_1).toNat) = some (.int .i64 (rd l1 x7_1)) ∧ w'.cell? (ad285.add (((rd l1 x7_1)).toNat * 5)) = some (.int .i64 ((rd_T52 l0 (rd l1 x7_1)).f0)) ∧ w'.cell? ⟨(ad285.add (((rd l1 x7_1)).toNat * 5)).block, (ad285.add (((rd l1 x7_1)).toNat * 5)).off + 1, none⟩ = some (.int .i64 ((rd_T52 l0 (rd l1 x7_1)).f1)) ∧ w'.cell? ⟨(ad285.add (((rd l1 x7_1)).toNat * 5)).block, (ad285.add (((rd l1 x7_1)).toNat * 5)).off + 2, none⟩ = some (.int .i64 ((rd_T52 l0 (rd l1 x7_1)).f2)) ∧ w'.cell? ⟨(ad285.add (((rd l1 x7_1)).toNat * 5)).block, (ad285.add (((rd l1 x7_1)).toNat * 5)).off + 3, none⟩ = some (.int .i64 ((rd_T52 l0 (rd l1 x7_1)).f3)) ∧ w'.cell? ⟨(ad285.add (((rd l1 x7_1)).toNat * 5)).block, (ad285.add (((rd l1 x7_1)).toNat * 5)).off + 4, none⟩ = some (.int .i64 ((rd_T52 l0 (rd l1 x7_1)).f4))) ∧ (w'.heap[gb283]? = some (.cells #[.int .i64 a2_0, .int .i64 a2_1, .int .i64 a2_2, .int .i64 a2_3] 25 (0, 0))) ∧ (w'.heap[s_.1]? = some (.cells #[.int .i64 0, .int .i64 0, .int .i64 0, .int .i64 0, .int .i64 0] 52 (0, 0))) ∧ (w'.heap[s_.2]? = some (.cells #[.int .i64 0, .int .i64 0, .int .i64 0, .int .i64 0, .int .i64 0] 52 (0, 0))) ∧ (w.heap.size ≤ s_.1) ∧ (w.heap.size ≤ s_.1) ∧ (gb283 ≠ s_.1) ∧ (s_.1 ≠ gb283) ∧ (s_.2 ≠ s_.1) ∧ (s_.1 ≠ s_.2) ∧ (w.heap.size ≤ s_.2) ∧ (w.heap.size ≤ s_.2) ∧ (gb283 ≠ s_.2) ∧ (s_.2 ≠ gb283) ∧ (Below w.heap.size w w')) ?_ ?_
         rotate_left
         · intro hCont
           refine two_ (i := 15) (j := 16) (Ni := some 8) (Nj := some 9) #[T,T,T,T,T,T,T,T,T,T,T,T,T,T,T,T,F,F,F] #[T,T,T,T,T,T,T,T,T,T,T,T,T,T,T,F,T,F,F] rfl rfl rfl rfl (two_of HT_.out (by kernel_rfl)) (by decide) (by decide) (fun K hK => ?_) (fun K hK => ?_)
           · skip
             refine box_step ?hg (N := 8) ?hd (cs := #[.int .i64 0, .int .i64 0, .int .i64 0, .int .i64 0, .int .i64 0]) (t := 52) ?hr ?_; (case hd => rfl); (case hg => rfl); (case hr => first | (go_simp; done) | (go_simp; rfl))
             intro gb288 hg w36 hbox hb
             have n0_ := Aside0.mk (blk_below (g := gb283) (o := .cells #[.int .i64 a2_0, .int .i64 a2_1, .int .i64 a2_2, .int .i64 a2_3] 25 (0, 0)) (nB BK283.out) hb)
             have n1_ := Aside0.mk (below_step (nH1 HB.out GE283.out) hb)
             have n2_ := Aside0.mk (hbox)
             have n3_ := Aside0.mk ((by rw [hg]; exact (below_size (nH1 HB.out GE283.out)) : w.heap.size ≤ gb288))
             have n4_ := Aside0.mk ((by rw [hg]; exact (below_size (nH1 HB.out GE283.out)) : w.heap.size ≤ gb288))
             have n5_ := Aside0.mk ((by rw [hg]; exact Nat.ne_of_lt (blk_lt (g := gb283) (o := .cells #[.int .i64 a2_0, .int .i64 a2_1, .int .i64 a2_2, .int .i64 a2_3] 25 (0, 0)) (nB BK283.out)) : gb283 ≠ gb288))
             have n6_ := Aside0.mk ((by rw [hg]; exact Nat.ne_of_gt (blk_lt (g := gb283) (o := .cells #[.int .i64 a2_0, .int .i64 a2_1, .int .i64 a2_2, .int .i64 a2_3] 25 (0, 0)) (nB BK283.out)) : gb288 ≠ gb283))
             clear BK283; clear HB; have BK283 := n0_; have HB := n1_; have BK288 := n2_; have GW288 := n3_; have GE288 := n4_; have NB283_288 := n5_; have NB288_283 := n6_; clear n0_ n1_ n2_ n3_ n4_ n5_ n6_; clear hb hbox hg
             refine hK.out _ _ ⟨(nC HB.out hw284_0 :), (nC HB.out hw285_0 :), (nC HB.out hw285_1 :), (nC HB.out hw285_2 :), (nC HB.out hw285_3 :), (nC HB.out hw285_4 :), (nC HB.out hw286_0 :), (nC HB.out hw287_0 :), (nC HB.out hw287_1 :), (nC HB.out hw287_2 :), (nC HB.out hw287_3 :), (nC HB.out hw287_4 :)⟩ (fun hHeld => ?_)
             clear hK K
             refine norm_ (a' := ?_) ?_ ?_
             rotate_left
             · show Act.put _ (some 8) _ = _
               simp only [Act.put, List.setIfInBounds_toArray, List.set_cons_zero, List.set_cons_succ, i64_w, i32_w]
               rfl
             refine one_ (i := 16) (N := some 9) #[T,T,T,T,T,T,T,T,T,T,T,T,T,T,T,T,T,F,F] rfl rfl (one_of HT_.out (by kernel_rfl)) (by decide) (fun K hK => ?_)
             refine box_step ?hg (N := 9) ?hd (cs := #[.int .i64 0, .int .i64 0, .int .i64 0, .int .i64 0, .int .i64 0]) (t := 52) ?hr ?_; (case hd => rfl); (case hg => rfl); (case hr => first | (go_simp; done) | (go_simp; rfl))
             intro gb289 hg w37 hbox hb
             have n0_ := Aside0.mk (blk_below (g := gb283) (o := .cells #[.int .i64 a2_0, .int .i64 a2_1, .int .i64 a2_2, .int .i64 a2_3] 25 (0, 0)) (nB BK283.out) hb)
             have n1_ := Aside0.mk (blk_below (g := gb288) (o := .cells #[.int .i64 0, .int .i64 0, .int .i64 0, .int .i64 0, .int .i64 0] 52 (0, 0)) (nB BK288.out) hb)
             have n2_ := Aside0.mk (below_step (nH2 HB.out GE283.out GE288.out) hb)
             have n3_ := Aside0.mk (hbox)
             have n4_ := Aside0.mk ((by rw [hg]; exact (below_size (nH2 HB.out GE283.out GE288.out)) : w.heap.size ≤ gb289))
             have n5_ := Aside0.mk ((by rw [hg]; exact (below_size (nH2 HB.out GE283.out GE288.out)) : w.heap.size ≤ gb289))
             have n6_ := Aside0.mk ((by rw [hg]; exact Nat.ne_of_lt (blk_lt (g := gb283) (o := .cells #[.int .i64 a2_0, .int .i64 a2_1, .int .i64 a2_2, .int .i64 a2_3] 25 (0, 0)) (nB BK283.out)) : gb283 ≠ gb289))
             have n7_ := Aside0.mk ((by rw [hg]; exact Nat.ne_of_gt (blk_lt (g := gb283) (o := .cells #[.int .i64 a2_0, .int .i64 a2_1, .int .i64 a2_2, .int .i64 a2_3] 25 (0, 0)) (nB BK283.out)) : gb289 ≠ gb283))
             have n8_ := Aside0.mk ((by rw [hg]; exact Nat.ne_of_lt (blk_lt (g := gb288) (o := .cells #[.int .i64 0, .int .i64 0, .int .i64 0, .int .i64 0, .int .i64 0] 52 (0, 0)) (nB BK288.out)) : gb288 ≠ gb289))
             have n9_ := Aside0.mk ((by rw [hg]; exact Nat.ne_of_gt (blk_lt (g := gb288) (o := .cells #[.int .i64 0, .int .i64 0, .int .i64 0, .int .i64 0, .int .i64 0] 52 (0, 0)) (nB BK288.out)) : gb289 ≠ gb288))
             clear BK283; clear BK288; clear HB; have BK283 := n0_; have BK288 := n1_; have HB := n2_; have BK289 := n3_; have GW289 := n4_; have GE289 := n5_; have NB283_289 := n6_; have NB289_283 := n7_; have NB288_289 := n8_; have NB289_288 := n9_; clear n0_ n1_ n2_ n3_ n4_ n5_ n6_ n7_ n8_ n9_; clear hb hbox hg
             refine hK.out _ _ ⟨(nC HB.out hw284_0 :), (nC HB.out hw285_0 :), (nC HB.out hw285_1 :), (nC HB.out hw285_2 :), (nC HB.out hw285_3 :), (nC HB.out hw285_4 :), (nC HB.out hw286_0 :), (nC HB.out hw287_0 :), (nC HB.out hw287_1 :), (nC HB.out hw287_2 :), (nC HB.out hw287_3 :), (nC HB.out hw287_4 :)⟩ (fun hHeld => ?_)
             clear hK K
             refine norm_ (a' := ?_) ?_ ?_
             rotate_left
             · show Act.put _ (some 9) _ = _
               simp only [Act.put, List.setIfInBounds_toArray, List.set_cons_zero, List.set_cons_succ, i64_w, i32_w]
               rfl
             exact norm_ (by simp only [putAll, Act.put, List.setIfInBounds_toArray, List.set_cons_zero, List.set_cons_succ]) (hCont (gb288, gb289) _ ⟨hHeld, (nB BK283.out), (nB BK288.out), (nB BK289.out), GW288.out, GE288.out, NB283_288.out, NB288_283.out, NB289_288.out, NB288_289.out, GW289.out, GE289.out, NB283_289.out, NB289_283.out, (nH3 HB.out GE283.out GE288.out GE289.out)⟩)
           · skip
             refine box_step ?hg (N := 9) ?hd (cs := #[.int .i64 0, .int .i64 0, .int .i64 0, .int .i64 0, .int .i64 0]) (t := 52) ?hr ?_; (case hd => rfl); (case hg => rfl); (case hr => first | (go_simp; done) | (go_simp; rfl))
             intro gb289 hg w36 hbox hb
             have n0_ := Aside0.mk (blk_below (g := gb283) (o := .cells #[.int .i64 a2_0, .int .i64 a2_1, .int .i64 a2_2, .int .i64 a2_3] 25 (0, 0)) (nB BK283.out) hb)
             have n1_ := Aside0.mk (below_step (nH1 HB.out GE283.out) hb)
             have n2_ := Aside0.mk (hbox)
             have n3_ := Aside0.mk ((by rw [hg]; exact (below_size (nH1 HB.out GE283.out)) : w.heap.size ≤ gb289))
             have n4_ := Aside0.mk ((by rw [hg]; exact (below_size (nH1 HB.out GE283.out)) : w.heap.size ≤ gb289))
             have n5_ := Aside0.mk ((by rw [hg]; exact Nat.ne_of_lt (blk_lt (g := gb283) (o := .cells #[.int .i64 a2_0, .int .i64 a2_1, .int .i64 a2_2, .int .i64 a2_3] 25 (0, 0)) (nB BK283.out)) : gb283 ≠ gb289))
             have n6_ := Aside0.mk ((by rw [hg]; exact Nat.ne_of_gt (blk_lt (g := gb283) (o := .cells #[.int .i64 a2_0, .int .i64 a2_1, .int .i64 a2_2, .int .i64 a2_3] 25 (0, 0)) (nB BK283.out)) : gb289 ≠ gb283))
             clear BK283; clear HB; have BK283 := n0_; have HB := n1_; have BK289 := n2_; have GW289 := n3_; have GE289 := n4_; have NB283_289 := n5_; have NB289_283 := n6_; clear n0_ n1_ n2_ n3_ n4_ n5_ n6_; clear hb hbox hg
             refine hK.out _ _ ⟨(nC HB.out hw284_0 :), (nC HB.out hw285_0 :), (nC HB.out hw285_1 :), (nC HB.out hw285_2 :), (nC HB.out hw285_3 :), (nC HB.out hw285_4 :), (nC HB.out hw286_0 :), (nC HB.out hw287_0 :), (nC HB.out hw287_1 :), (nC HB.out hw287_2 :), (nC HB.out hw287_3 :), (nC HB.out hw287_4 :)⟩ (fun hHeld => ?_)
             clear hK K
             refine norm_ (a' := ?_) ?_ ?_
             rotate_left
             · show Act.put _ (some 9) _ = _
               simp only [Act.put, List.setIfInBounds_toArray, List.set_cons_zero, List.set_cons_succ, i64_w, i32_w]
               rfl
             refine one_ (i := 15) (N := some 8) #[T,T,T,T,T,T,T,T,T,T,T,T,T,T,T,T,T,F,F] rfl rfl (one_of HT_.out (by kernel_rfl)) (by decide) (fun K hK => ?_)
             refine box_step ?hg (N := 8) ?hd (cs := #[.int .i64 0, .int .i64 0, .int .i64 0, .int .i64 0, .int .i64 0]) (t := 52) ?hr ?_; (case hd => rfl); (case hg => rfl); (case hr => first | (go_simp; done) | (go_simp; rfl))
             intro gb288 hg w37 hbox hb
             have n0_ := Aside0.mk (blk_below (g := gb283) (o := .cells #[.int .i64 a2_0, .int .i64 a2_1, .int .i64 a2_2, .int .i64 a2_3] 25 (0, 0)) (nB BK283.out) hb)
             have n1_ := Aside0.mk (blk_below (g := gb289) (o := .cells #[.int .i64 0, .int .i64 0, .int .i64 0, .int .i64 0, .int .i64 0] 52 (0, 0)) (nB BK289.out) hb)
             have n2_ := Aside0.mk (below_step (nH2 HB.out GE283.out GE289.out) hb)
             have n3_ := Aside0.mk (hbox)
             have n4_ := Aside0.mk ((by rw [hg]; exact (below_size (nH2 HB.out GE283.out GE289.out)) : w.heap.size ≤ gb288))
             have n5_ := Aside0.mk ((by rw [hg]; exact (below_size (nH2 HB.out GE283.out GE289.out)) : w.heap.size ≤ gb288))
             have n6_ := Aside0.mk ((by rw [hg]; exact Nat.ne_of_lt (blk_lt (g := gb283) (o := .cells #[.int .i64 a2_0, .int .i64 a2_1, .int .i64 a2_2, .int .i64 a2_3] 25 (0, 0)) (nB BK283.out)) : gb283 ≠ gb288))
             have n7_ := Aside0.mk ((by rw [hg]; exact Nat.ne_of_gt (blk_lt (g := gb283) (o := .cells #[.int .i64 a2_0, .int .i64 a2_1, .int .i64 a2_2, .int .i64 a2_3] 25 (0, 0)) (nB BK283.out)) : gb288 ≠ gb283))
             have n8_ := Aside0.mk ((by rw [hg]; exact Nat.ne_of_lt (blk_lt (g := gb289) (o := .cells #[.int .i64 0, .int .i64 0, .int .i64 0, .int .i64 0, .int .i64 0] 52 (0, 0)) (nB BK289.out)) : gb289 ≠ gb288))
             have n9_ := Aside0.mk ((by rw [hg]; exact Nat.ne_of_gt (blk_lt (g := gb289) (o := .cells #[.int .i64 0, .int .i64 0, .int .i64 0, .int .i64 0, .int .i64 0] 52 (0, 0)) (nB BK289.out)) : gb288 ≠ gb289))
             clear BK283; clear BK289; clear HB; have BK283 := n0_; have BK289 := n1_; have HB := n2_; have BK288 := n3_; have GW288 := n4_; have GE288 := n5_; have NB283_288 := n6_; have NB288_283 := n7_; have NB289_288 := n8_; have NB288_289 := n9_; clear n0_ n1_ n2_ n3_ n4_ n5_ n6_ n7_ n8_ n9_; clear hb hbox hg
             refine hK.out _ _ ⟨(nC HB.out hw284_0 :), (nC HB.out hw285_0 :), (nC HB.out hw285_1 :), (nC HB.out hw285_2 :), (nC HB.out hw285_3 :), (nC HB.out hw285_4 :), (nC HB.out hw286_0 :), (nC HB.out hw287_0 :), (nC HB.out hw287_1 :), (nC HB.out hw287_2 :), (nC HB.out hw287_3 :), (nC HB.out hw287_4 :)⟩ (fun hHeld => ?_)
             clear hK K
             refine norm_ (a' := ?_) ?_ ?_
             rotate_left
             · show Act.put _ (some 8) _ = _
               simp only [Act.put, List.setIfInBounds_toArray, List.set_cons_zero, List.set_cons_succ, i64_w, i32_w]
               rfl
             exact norm_ (by simp only [putAll, Act.put, List.setIfInBounds_toArray, List.set_cons_zero, List.set_cons_succ]) (hCont (gb288, gb289) _ ⟨hHeld, (nB BK283.out), (nB BK288.out), (nB BK289.out), GW288.out, GE288.out, NB283_288.out, NB288_283.out, NB289_288.out, NB288_289.out, GW289.out, GE289.out, NB283_289.out, NB289_283.out, (nH3 HB.out GE283.out GE289.out GE288.out)⟩)
         rintro ⟨gb288, gb289⟩ w38 ⟨hS_, h0_, h1_, h2_, h3_, h4_, h5_, h6_, h7_, h8_, h9_, h10_, h11_, h12_, h13_⟩
         have n0_ : Aside0 (w38.heap[gb283]? = some (.cells #[.int .i64 a2_0, .int .i64 a2_1, .int .i64 a2_2, .int .i64 a2_3] 25 (0, 0))) := ⟨h0_⟩
         have n1_ : Aside0 (w38.heap[gb288]? = some (.cells #[.int .i64 0, .int .i64 0, .int .i64 0, .int .i64 0, .int .i64 0] 52 (0, 0))) := ⟨h1_⟩
         have n2_ : Aside0 (w38.heap[gb289]? = some (.cells #[.int .i64 0, .int .i64 0, .int .i64 0, .int .i64 0, .int .i64 0] 52 (0, 0))) := ⟨h2_⟩
         have n3_ : Aside0 (w.heap.size ≤ gb288) := ⟨h3_⟩
         have n4_ : Aside0 (w.heap.size ≤ gb288) := ⟨h4_⟩
         have n5_ : Aside0 (gb283 ≠ gb288) := ⟨h5_⟩
         have n6_ : Aside0 (gb288 ≠ gb283) := ⟨h6_⟩
         have n7_ : Aside0 (gb289 ≠ gb288) := ⟨h7_⟩
         have n8_ : Aside0 (gb288 ≠ gb289) := ⟨h8_⟩
         have n9_ : Aside0 (w.heap.size ≤ gb289) := ⟨h9_⟩
         have n10_ : Aside0 (w.heap.size ≤ gb289) := ⟨h10_⟩
         have n11_ : Aside0 (gb283 ≠ gb289) := ⟨h11_⟩
         have n12_ : Aside0 (gb289 ≠ gb283) := ⟨h12_⟩
         have n13_ : Aside0 (Below w.heap.size w w38) := ⟨h13_⟩
         clear BK283; clear HB; clear h0_ h1_ h2_ h3_ h4_ h5_ h6_ h7_ h8_ h9_ h10_ h11_ h12_ h13_; have BK283 := n0_; have BK288 := n1_; have BK289 := n2_; have GW288 := n3_; have GE288 := n4_; have NB283_288 := n5_; have NB288_283 := n6_; have NB289_288 := n7_; have NB288_289 := n8_; have GW289 := n9_; have GE289 := n10_; have NB283_289 := n11_; have NB289_283 := n12_; have HB := n13_; clear n0_ n1_ n2_ n3_ n4_ n5_ n6_ n7_ n8_ n9_ n10_ n11_ n12_ n13_
         have hHeld : w38.cell? (ad284.add ((ji6)).toNat) = some (.int .i64 (rd l1 (ji6))) ∧ w38.cell? (ad285.add (((rd l1 (ji6))).toNat * 5)) = some (.int .i64 ((rd_T52 l0 (rd l1 (ji6))).f0)) ∧ w38.cell? ⟨(ad285.add (((rd l1 (ji6))).toNat * 5)).block, (ad285.add (((rd l1 (ji6))).toNat * 5)).off + 1, none⟩ = some (.int .i64 ((rd_T52 l0 (rd l1 (ji6))).f1)) ∧ w38.cell? ⟨(ad285.add (((rd l1 (ji6))).toNat * 5)).block, (ad285.add (((rd l1 (ji6))).toNat * 5)).off + 2, none⟩ = some (.int .i64 ((rd_T52 l0 (rd l1 (ji6))).f2)) ∧ w38.cell? ⟨(ad285.add (((rd l1 (ji6))).toNat * 5)).block, (ad285.add (((rd l1 (ji6))).toNat * 5)).off + 3, none⟩ = some (.int .i64 ((rd_T52 l0 (rd l1 (ji6))).f3)) ∧ w38.cell? ⟨(ad285.add (((rd l1 (ji6))).toNat * 5)).block, (ad285.add (((rd l1 (ji6))).toNat * 5)).off + 4, none⟩ = some (.int .i64 ((rd_T52 l0 (rd l1 (ji6))).f4)) ∧ w38.cell? (ad284.add (x7_1).toNat) = some (.int .i64 (rd l1 x7_1)) ∧ w38.cell? (ad285.add (((rd l1 x7_1)).toNat * 5)) = some (.int .i64 ((rd_T52 l0 (rd l1 x7_1)).f0)) ∧ w38.cell? ⟨(ad285.add (((rd l1 x7_1)).toNat * 5)).block, (ad285.add (((rd l1 x7_1)).toNat * 5)).off + 1, none⟩ = some (.int .i64 ((rd_T52 l0 (rd l1 x7_1)).f1)) ∧ w38.cell? ⟨(ad285.add (((rd l1 x7_1)).toNat * 5)).block, (ad285.add (((rd l1 x7_1)).toNat * 5)).off + 2, none⟩ = some (.int .i64 ((rd_T52 l0 (rd l1 x7_1)).f2)) ∧ w38.cell? ⟨(ad285.add (((rd l1 x7_1)).toNat * 5)).block, (ad285.add (((rd l1 x7_1)).toNat * 5)).off + 3, none⟩ = some (.int .i64 ((rd_T52 l0 (rd l1 x7_1)).f3)) ∧ w38.cell? ⟨(ad285.add (((rd l1 x7_1)).toNat * 5)).block, (ad285.add (((rd l1 x7_1)).toNat * 5)).off + 4, none⟩ = some (.int .i64 ((rd_T52 l0 (rd l1 x7_1)).f4)) := hS_
         refine norm_ (a' := ?_) ?_ ?_
         rotate_left
         · simp only [putAll, Act.put, List.setIfInBounds_toArray, List.set_cons_zero, List.set_cons_succ]
           rfl
         refine one_ (i := 17) (N := none) #[T,T,T,T,T,T,T,T,T,T,T,T,T,T,T,T,T,T,F] rfl rfl (one_of HT_.out (by kernel_rfl)) (by decide) (fun K hK => ?_)
         have hs39 : w38.cell? ⟨gb288, 0, none⟩ = some (.int .i64 0) := (blk_cell BK288.out 0).trans rfl
         have hfs39 := blk_frozen BK288.out 0
         have hns39_0 := NB283_288.out; have hns39_2 := NB289_288.out; have hms39_0 := NB288_283.out; have hms39_2 := NB288_289.out
         have hs40 : w38.cell? ⟨gb288, 1, none⟩ = some (.int .i64 0) := (blk_cell BK288.out 1).trans rfl
         have hfs40 := blk_frozen BK288.out 1
         have hns40_0 := NB283_288.out; have hns40_2 := NB289_288.out; have hms40_0 := NB288_283.out; have hms40_2 := NB288_289.out
         have hs41 : w38.cell? ⟨gb288, 2, none⟩ = some (.int .i64 0) := (blk_cell BK288.out 2).trans rfl
         have hfs41 := blk_frozen BK288.out 2
         have hns41_0 := NB283_288.out; have hns41_2 := NB289_288.out; have hms41_0 := NB288_283.out; have hms41_2 := NB288_289.out
         have hs42 : w38.cell? ⟨gb288, 3, none⟩ = some (.int .i64 0) := (blk_cell BK288.out 3).trans rfl
         have hfs42 := blk_frozen BK288.out 3
         have hns42_0 := NB283_288.out; have hns42_2 := NB289_288.out; have hms42_0 := NB288_283.out; have hms42_2 := NB288_289.out
         have hs43 : w38.cell? ⟨gb288, 4, none⟩ = some (.int .i64 0) := (blk_cell BK288.out 4).trans rfl
         have hfs43 := blk_frozen BK288.out 4
         have hns43_0 := NB283_288.out; have hns43_2 := NB289_288.out; have hms43_0 := NB288_283.out; have hms43_2 := NB288_289.out
         refine skip_ (w1 := ?_) (by rfl) rfl ?_ ?_
         rotate_left
         · go_simp; rfl
         refine hK.out _ _ ⟨((nF gb288 hw284_0 GW288.out).trans (((nF gb288 hw284_0 GW288.out).trans (((nF gb288 hw284_0 GW288.out).trans (((nF gb288 hw284_0 GW288.out).trans (((nF gb288 hw284_0 GW288.out).trans (hHeld.1)))))))))), ((nF gb288 hw285_0 GW288.out).trans (((nF gb288 hw285_0 GW288.out).trans (((nF gb288 hw285_0 GW288.out).trans (((nF gb288 hw285_0 GW288.out).trans (((nF gb288 hw285_0 GW288.out).trans (hHeld.2.1)))))))))), ((nF gb288 hw285_1 GW288.out).trans (((nF gb288 hw285_1 GW288.out).trans (((nF gb288 hw285_1 GW288.out).trans (((nF gb288 hw285_1 GW288.out).trans (((nF gb288 hw285_1 GW288.out).trans (hHeld.2.2.1)))))))))), ((nF gb288 hw285_2 GW288.out).trans (((nF gb288 hw285_2 GW288.out).trans (((nF gb288 hw285_2 GW288.out).trans (((nF gb288 hw285_2 GW288.out).trans (((nF gb288 hw285_2 GW288.out).trans (hHeld.2.2.2.1)))))))))), ((nF gb288 hw285_3 GW288.out).trans (((nF gb288 hw285_3 GW288.out).trans (((nF gb288 hw285_3 GW288.out).trans (((nF gb288 hw285_3 GW288.out).trans (((nF gb288 hw285_3 GW288.out).trans (hHeld.2.2.2.2.1)))))))))), ((nF gb288 hw285_4 GW288.out).trans (((nF gb288 hw285_4 GW288.out).trans (((nF gb288 hw285_4 GW288.out).trans (((nF gb288 hw285_4 GW288.out).trans (((nF gb288 hw285_4 GW288.out).trans (hHeld.2.2.2.2.2.1)))))))))), ((nF gb288 hw286_0 GW288.out).trans (((nF gb288 hw286_0 GW288.out).trans (((nF gb288 hw286_0 GW288.out).trans (((nF gb288 hw286_0 GW288.out).trans (((nF gb288 hw286_0 GW288.out).trans (hHeld.2.2.2.2.2.2.1)))))))))), ((nF gb288 hw287_0 GW288.out).trans (((nF gb288 hw287_0 GW288.out).trans (((nF gb288 hw287_0 GW288.out).trans (((nF gb288 hw287_0 GW288.out).trans (((nF gb288 hw287_0 GW288.out).trans (hHeld.2.2.2.2.2.2.2.1)))))))))), ((nF gb288 hw287_1 GW288.out).trans (((nF gb288 hw287_1 GW288.out).trans (((nF gb288 hw287_1 GW288.out).trans (((nF gb288 hw287_1 GW288.out).trans (((nF gb288 hw287_1 GW288.out).trans (hHeld.2.2.2.2.2.2.2.2.1)))))))))), ((nF gb288 hw287_2 GW288.out).trans (((nF gb288 hw287_2 GW288.out).trans (((nF gb288 hw287_2 GW288.out).trans (((nF gb288 hw287_2 GW288.out).trans (((nF gb288 hw287_2 GW288.out).trans (hHeld.2.2.2.2.2.2.2.2.2.1)))))))))), ((nF gb288 hw287_3 GW288.out).trans (((nF gb288 hw287_3 GW288.out).trans (((nF gb288 hw287_3 GW288.out).trans (((nF gb288 hw287_3 GW288.out).trans (((nF gb288 hw287_3 GW288.out).trans (hHeld.2.2.2.2.2.2.2.2.2.2.1)))))))))), ((nF gb288 hw287_4 GW288.out).trans (((nF gb288 hw287_4 GW288.out).trans (((nF gb288 hw287_4 GW288.out).trans (((nF gb288 hw287_4 GW288.out).trans (((nF gb288 hw287_4 GW288.out).trans (hHeld.2.2.2.2.2.2.2.2.2.2.2))))))))))⟩ (fun hHeld => ?_)
         clear hK K
         refine one_ (i := 18) (N := none) #[T,T,T,T,T,T,T,T,T,T,T,T,T,T,T,T,T,T,T] rfl rfl (one_of HT_.out (by kernel_rfl)) (by decide) (fun K hK => ?_)
         have hs44 : w38.cell? ⟨gb289, 0, none⟩ = some (.int .i64 0) := (blk_cell BK289.out 0).trans rfl
         have hfs44 := blk_frozen BK289.out 0
         have hns44_0 := NB283_289.out; have hns44_1 := NB288_289.out; have hms44_0 := NB289_283.out; have hms44_1 := NB289_288.out
         have hs45 : w38.cell? ⟨gb289, 1, none⟩ = some (.int .i64 0) := (blk_cell BK289.out 1).trans rfl
         have hfs45 := blk_frozen BK289.out 1
         have hns45_0 := NB283_289.out; have hns45_1 := NB288_289.out; have hms45_0 := NB289_283.out; have hms45_1 := NB289_288.out
         have hs46 : w38.cell? ⟨gb289, 2, none⟩ = some (.int .i64 0) := (blk_cell BK289.out 2).trans rfl
         have hfs46 := blk_frozen BK289.out 2
         have hns46_0 := NB283_289.out; have hns46_1 := NB288_289.out; have hms46_0 := NB289_283.out; have hms46_1 := NB289_288.out
         have hs47 : w38.cell? ⟨gb289, 3, none⟩ = some (.int .i64 0) := (blk_cell BK289.out 3).trans rfl
         have hfs47 := blk_frozen BK289.out 3
         have hns47_0 := NB283_289.out; have hns47_1 := NB288_289.out; have hms47_0 := NB289_283.out; have hms47_1 := NB289_288.out
         have hs48 : w38.cell? ⟨gb289, 4, none⟩ = some (.int .i64 0) := (blk_cell BK289.out 4).trans rfl
         have hfs48 := blk_frozen BK289.out 4
         have hns48_0 := NB283_289.out; have hns48_1 := NB288_289.out; have hms48_0 := NB289_283.out; have hms48_1 := NB289_288.out
         refine skip_ (w1 := ?_) (by rfl) rfl ?_ ?_
         rotate_left
         · go_simp; rfl
         refine hK.out _ _ ⟨((nF gb289 hw284_0 GW289.out).trans (((nF gb289 hw284_0 GW289.out).trans (((nF gb289 hw284_0 GW289.out).trans (((nF gb289 hw284_0 GW289.out).trans (((nF gb289 hw284_0 GW289.out).trans (hHeld.1)))))))))), ((nF gb289 hw285_0 GW289.out).trans (((nF gb289 hw285_0 GW289.out).trans (((nF gb289 hw285_0 GW289.out).trans (((nF gb289 hw285_0 GW289.out).trans (((nF gb289 hw285_0 GW289.out).trans (hHeld.2.1)))))))))), ((nF gb289 hw285_1 GW289.out).trans (((nF gb289 hw285_1 GW289.out).trans (((nF gb289 hw285_1 GW289.out).trans (((nF gb289 hw285_1 GW289.out).trans (((nF gb289 hw285_1 GW289.out).trans (hHeld.2.2.1)))))))))), ((nF gb289 hw285_2 GW289.out).trans (((nF gb289 hw285_2 GW289.out).trans (((nF gb289 hw285_2 GW289.out).trans (((nF gb289 hw285_2 GW289.out).trans (((nF gb289 hw285_2 GW289.out).trans (hHeld.2.2.2.1)))))))))), ((nF gb289 hw285_3 GW289.out).trans (((nF gb289 hw285_3 GW289.out).trans (((nF gb289 hw285_3 GW289.out).trans (((nF gb289 hw285_3 GW289.out).trans (((nF gb289 hw285_3 GW289.out).trans (hHeld.2.2.2.2.1)))))))))), ((nF gb289 hw285_4 GW289.out).trans (((nF gb289 hw285_4 GW289.out).trans (((nF gb289 hw285_4 GW289.out).trans (((nF gb289 hw285_4 GW289.out).trans (((nF gb289 hw285_4 GW289.out).trans (hHeld.2.2.2.2.2.1)))))))))), ((nF gb289 hw286_0 GW289.out).trans (((nF gb289 hw286_0 GW289.out).trans (((nF gb289 hw286_0 GW289.out).trans (((nF gb289 hw286_0 GW289.out).trans (((nF gb289 hw286_0 GW289.out).trans (hHeld.2.2.2.2.2.2.1)))))))))), ((nF gb289 hw287_0 GW289.out).trans (((nF gb289 hw287_0 GW289.out).trans (((nF gb289 hw287_0 GW289.out).trans (((nF gb289 hw287_0 GW289.out).trans (((nF gb289 hw287_0 GW289.out).trans (hHeld.2.2.2.2.2.2.2.1)))))))))), ((nF gb289 hw287_1 GW289.out).trans (((nF gb289 hw287_1 GW289.out).trans (((nF gb289 hw287_1 GW289.out).trans (((nF gb289 hw287_1 GW289.out).trans (((nF gb289 hw287_1 GW289.out).trans (hHeld.2.2.2.2.2.2.2.2.1)))))))))), ((nF gb289 hw287_2 GW289.out).trans (((nF gb289 hw287_2 GW289.out).trans (((nF gb289 hw287_2 GW289.out).trans (((nF gb289 hw287_2 GW289.out).trans (((nF gb289 hw287_2 GW289.out).trans (hHeld.2.2.2.2.2.2.2.2.2.1)))))))))), ((nF gb289 hw287_3 GW289.out).trans (((nF gb289 hw287_3 GW289.out).trans (((nF gb289 hw287_3 GW289.out).trans (((nF gb289 hw287_3 GW289.out).trans (((nF gb289 hw287_3 GW289.out).trans (hHeld.2.2.2.2.2.2.2.2.2.2.1)))))))))), ((nF gb289 hw287_4 GW289.out).trans (((nF gb289 hw287_4 GW289.out).trans (((nF gb289 hw287_4 GW289.out).trans (((nF gb289 hw287_4 GW289.out).trans (((nF gb289 hw287_4 GW289.out).trans (hHeld.2.2.2.2.2.2.2.2.2.2.2))))))))))⟩ (fun hHeld => ?_)
         clear hK K
         refine done_ (done_of HT_.out (by kernel_rfl)) ?_
         have hnb49 := NB288_283.out; have hnc49 := NB283_288.out; have hnb50 := NB288_289.out; have hnc50 := NB289_288.out
         have hcz51_0 : w38.cell? ⟨gb288, 0, none⟩ = some (.int .i64 0) := (blk_cell BK288.out 0).trans rfl
         have hcz51_1 : w38.cell? ⟨gb288, 1, none⟩ = some (.int .i64 0) := (blk_cell BK288.out 1).trans rfl
         have hcz51_2 : w38.cell? ⟨gb288, 2, none⟩ = some (.int .i64 0) := (blk_cell BK288.out 2).trans rfl
         have hcz51_3 : w38.cell? ⟨gb288, 3, none⟩ = some (.int .i64 0) := (blk_cell BK288.out 3).trans rfl
         have hcz51_4 : w38.cell? ⟨gb288, 4, none⟩ = some (.int .i64 0) := (blk_cell BK288.out 4).trans rfl
         have hfz51_0 := blk_frozen BK288.out 0
         have hfz51_1 := blk_frozen BK288.out 1
         have hfz51_2 := blk_frozen BK288.out 2
         have hfz51_3 := blk_frozen BK288.out 3
         have hfz51_4 := blk_frozen BK288.out 4
         have hnb52 := NB289_283.out; have hnc52 := NB283_289.out
         have hcz53_0 : w38.cell? ⟨gb289, 0, none⟩ = some (.int .i64 0) := (blk_cell BK289.out 0).trans rfl
         have hcz53_1 : w38.cell? ⟨gb289, 1, none⟩ = some (.int .i64 0) := (blk_cell BK289.out 1).trans rfl
         have hcz53_2 : w38.cell? ⟨gb289, 2, none⟩ = some (.int .i64 0) := (blk_cell BK289.out 2).trans rfl
         have hcz53_3 : w38.cell? ⟨gb289, 3, none⟩ = some (.int .i64 0) := (blk_cell BK289.out 3).trans rfl
         have hcz53_4 : w38.cell? ⟨gb289, 4, none⟩ = some (.int .i64 0) := (blk_cell BK289.out 4).trans rfl
         have hfz53_0 := blk_frozen BK289.out 0
         have hfz53_1 := blk_frozen BK289.out 1
         have hfz53_2 := blk_frozen BK289.out 2
         have hfz53_3 := blk_frozen BK289.out 3
         have hfz53_4 := blk_frozen BK289.out 4
         try go_wp2
         go_roundg k1
         case measure => have := HK1.out; omega
         case rel => exact ⟨(wrap64 (x7_1 + 1)), nS, H', ⟨by have := HK1.out; omega⟩, ⟨by (with_reducible repeat (first | refine blk_drewN ?_ _ | refine blk_drew ?_ | refine blk_alloc ?_ _)); refine blk_far ?_ NB283_289.out _; (with_reducible repeat (first | refine blk_drewN ?_ _ | refine blk_drew ?_ | refine blk_alloc ?_ _)); refine blk_far ?_ NB283_289.out _; (with_reducible repeat (first | refine blk_drewN ?_ _ | refine blk_drew ?_ | refine blk_alloc ?_ _)); refine blk_far ?_ NB283_289.out _; (with_reducible repeat (first | refine blk_drewN ?_ _ | refine blk_drew ?_ | refine blk_alloc ?_ _)); refine blk_far ?_ NB283_289.out _; (with_reducible repeat (first | refine blk_drewN ?_ _ | refine blk_drew ?_ | refine blk_alloc ?_ _)); refine blk_far ?_ NB283_289.out _; (with_reducible repeat (first | refine blk_drewN ?_ _ | refine blk_drew ?_ | refine blk_alloc ?_ _)); refine blk_far ?_ NB283_288.out _; (with_reducible repeat (first | refine blk_drewN ?_ _ | refine blk_drew ?_ | refine blk_alloc ?_ _)); refine blk_far ?_ NB283_288.out _; (with_reducible repeat (first | refine blk_drewN ?_ _ | refine blk_drew ?_ | refine blk_alloc ?_ _)); refine blk_far ?_ NB283_288.out _; (with_reducible repeat (first | refine blk_drewN ?_ _ | refine blk_drew ?_ | refine blk_alloc ?_ _)); refine blk_far ?_ NB283_288.out _; (with_reducible repeat (first | refine blk_drewN ?_ _ | refine blk_drew ?_ | refine blk_alloc ?_ _)); refine blk_far ?_ NB283_288.out _; (with_reducible repeat (first | refine blk_drewN ?_ _ | refine blk_drew ?_ | refine blk_alloc ?_ _)); exact BK283.out⟩, ⟨nH3 HB.out GE283.out GE288.out GE289.out⟩⟩
     · rw [if_neg c14] at H
       have c14b0 : (((rd_T52 l0 (rd l1 (ji6))).f1) == ((rd_T52 l0 (rd l1 x7_1)).f0)) = false := beq_eq_false_iff_ne.mpr c14
       have c14b1 : (((rd_T52 l0 (rd l1 (ji6))).f1) != ((rd_T52 l0 (rd l1 x7_1)).f0)) = true := bne_iff_ne.mpr c14
       obtain rfl := Option.some.inj H
       try go_wp2
       have n0_ := Aside0.mk (blk_drew BK283.out)
       have n1_ := Aside0.mk (below_drew1 HB.out)
       clear BK283; clear HB; have BK283 := n0_; have HB := n1_; clear n0_ n1_
       have p284 : 0 ≤ ((ji6) : Int) := of_decide_eq_true nQ
       have q284 : (ji6) < (l1.length : Int) := of_decide_eq_true nQ
       obtain ⟨ad284, e284, hx284_0⟩ := Kd.at_int HR1.out (ji6) p284 q284
       have hw284_0 := hx284_0; cases e284
       replace hx284_0 := (HB.out.cell (World.block_lt_of_cell? w _ hx284_0)).trans hx284_0
       replace p284 := eq_true p284; replace q284 := eq_true q284
       have p285 : 0 ≤ ((rd l1 (ji6)) : Int) := of_decide_eq_true nQ
       have q285 : (rd l1 (ji6)) < (l0.length : Int) := of_decide_eq_true nQ
       obtain ⟨ad285, e285, hx285_0, hx285_1, hx285_2, hx285_3, hx285_4⟩ := at_T52 HR0.out (rd l1 (ji6)) p285 q285
       have hw285_4 := hx285_4; have hw285_3 := hx285_3; have hw285_2 := hx285_2; have hw285_1 := hx285_1; have hw285_0 := hx285_0; cases e285
       replace hx285_0 := (HB.out.cell (World.block_lt_of_cell? w _ hx285_0)).trans hx285_0
       replace hx285_1 := (HB.out.cell (World.block_lt_of_cell? w _ hx285_1)).trans hx285_1
       replace hx285_2 := (HB.out.cell (World.block_lt_of_cell? w _ hx285_2)).trans hx285_2
       replace hx285_3 := (HB.out.cell (World.block_lt_of_cell? w _ hx285_3)).trans hx285_3
       replace hx285_4 := (HB.out.cell (World.block_lt_of_cell? w _ hx285_4)).trans hx285_4
       replace p285 := eq_true p285; replace q285 := eq_true q285
       have p286 : 0 ≤ (x7_1 : Int) := of_decide_eq_true nQ
       have q286 : x7_1 < (l1.length : Int) := of_decide_eq_true nQ
       obtain ⟨ad286, e286, hx286_0⟩ := Kd.at_int HR1.out x7_1 p286 q286
       have hw286_0 := hx286_0
       obtain rfl : ad284 = ad286 := (by injection e286)
       replace hx286_0 := (HB.out.cell (World.block_lt_of_cell? w _ hx286_0)).trans hx286_0
       replace p286 := eq_true p286; replace q286 := eq_true q286
       have p287 : 0 ≤ ((rd l1 x7_1) : Int) := of_decide_eq_true nQ
       have q287 : (rd l1 x7_1) < (l0.length : Int) := of_decide_eq_true nQ
       obtain ⟨ad287, e287, hx287_0, hx287_1, hx287_2, hx287_3, hx287_4⟩ := at_T52 HR0.out (rd l1 x7_1) p287 q287
       have hw287_4 := hx287_4; have hw287_3 := hx287_3; have hw287_2 := hx287_2; have hw287_1 := hx287_1; have hw287_0 := hx287_0
       obtain rfl : ad285 = ad287 := (by injection e287)
       replace hx287_0 := (HB.out.cell (World.block_lt_of_cell? w _ hx287_0)).trans hx287_0
       replace hx287_1 := (HB.out.cell (World.block_lt_of_cell? w _ hx287_1)).trans hx287_1
       replace hx287_2 := (HB.out.cell (World.block_lt_of_cell? w _ hx287_2)).trans hx287_2
       replace hx287_3 := (HB.out.cell (World.block_lt_of_cell? w _ hx287_3)).trans hx287_3
       replace hx287_4 := (HB.out.cell (World.block_lt_of_cell? w _ hx287_4)).trans hx287_4
       replace p287 := eq_true p287; replace q287 := eq_true q287
       refine start_ (n := 19) (S := fun w' => w'.cell? (ad284.add ((ji6)).toNat) = some (.int .i64 (rd l1 (ji6))) ∧ w'.cell? (ad285.add (((rd l1 (ji6))).toNat * 5)) = some (.int .i64 ((rd_T52 l0 (rd l1 (ji6))).f0)) ∧ w'.cell? ⟨(ad285.add (((rd l1 (ji6))).toNat * 5)).block, (ad285.add (((rd l1 (ji6))).toNat * 5)).off + 1, none⟩ = some (.int .i64 ((rd_T52 l0 (rd l1 (ji6))).f1)) ∧ w'.cell? ⟨(ad285.add (((rd l1 (ji6))).toNat * 5)).block, (ad285.add (((rd l1 (ji6))).toNat * 5)).off + 2, none⟩ = some (.int .i64 ((rd_T52 l0 (rd l1 (ji6))).f2)) ∧ w'.cell? ⟨(ad285.add (((rd l1 (ji6))).toNat * 5)).block, (ad285.add (((rd l1 (ji6))).toNat * 5)).off + 3, none⟩ = some (.int .i64 ((rd_T52 l0 (rd l1 (ji6))).f3)) ∧ w'.cell? ⟨(ad285.add (((rd l1 (ji6))).toNat * 5)).block, (ad285.add (((rd l1 (ji6))).toNat * 5)).off + 4, none⟩ = some (.int .i64 ((rd_T52 l0 (rd l1 (ji6))).f4)) ∧ w'.cell? (ad284.add (x7_1).toNat) = some (.int .i64 (rd l1 x7_1)) ∧ w'.cell? (ad285.add (((rd l1 x7_1)).toNat * 5)) = some (.int .i64 ((rd_T52 l0 (rd l1 x7_1)).f0)) ∧ w'.cell? ⟨(ad285.add (((rd l1 x7_1)).toNat * 5)).block, (ad285.add (((rd l1 x7_1)).toNat * 5)).off + 1, none⟩ = some (.int .i64 ((rd_T52 l0 (rd l1 x7_1)).f1)) ∧ w'.cell? ⟨(ad285.add (((rd l1 x7_1)).toNat * 5)).block, (ad285.add (((rd l1 x7_1)).toNat * 5)).off + 2, none⟩ = some (.int .i64 ((rd_T52 l0 (rd l1 x7_1)).f2)) ∧ w'.cell? ⟨(ad285.add (((rd l1 x7_1)).toNat * 5)).block, (ad285.add (((rd l1 x7_1)).toNat * 5)).off + 3, none⟩ = some (.int .i64 ((rd_T52 l0 (rd l1 x7_1)).f3)) ∧ w'.cell? ⟨(ad285.add (((rd l1 x7_1)).toNat * 5)).block, (ad285.add (((rd l1 x7_1)).toNat * 5)).off + 4, none⟩ = some (.int .i64 ((rd_T52 l0 (rd l1 x7_1)).f4))) (ds := []) #[F,F,F,F,F,F,F,F,F,F,F,F,F,F,F,F,F,F,F] (by kernel_rfl) rfl rfl ⟨(nC HB.out hw284_0 :), (nC HB.out hw285_0 :), (nC HB.out hw285_1 :), (nC HB.out hw285_2 :), (nC HB.out hw285_3 :), (nC HB.out hw285_4 :), (nC HB.out hw286_0 :), (nC HB.out hw287_0 :), (nC HB.out hw287_1 :), (nC HB.out hw287_2 :), (nC HB.out hw287_3 :), (nC HB.out hw287_4 :)⟩ (fun hHeld => ?_); refine with_tabW impl_dutyCode.tab4 impl_dutyCode.bits4 (fun HT_ HW_ => ?_)
       generalize wr.drew = w54 at BK283 HB hx284_0 hx285_0 hx285_1 hx285_2 hx285_3 hx285_4 hx286_0 hx287_0 hx287_1 hx287_2 hx287_3 hx287_4 hHeld ⊢
       refine pU 0 (some 16) #[T,F,F,F,F,F,F,F,F,F,F,F,F,F,F,F,F,F,F] rfl rfl HT_.out ?_
       refine pU 1 (some 17) #[T,T,F,F,F,F,F,F,F,F,F,F,F,F,F,F,F,F,F] rfl rfl HT_.out ?_
       refine pU 2 (some 18) #[T,T,T,F,F,F,F,F,F,F,F,F,F,F,F,F,F,F,F] rfl rfl HT_.out ?_
       refine pU 3 (some 19) #[T,T,T,T,F,F,F,F,F,F,F,F,F,F,F,F,F,F,F] rfl rfl HT_.out ?_
       refine pU 4 (some 20) #[T,T,T,T,T,F,F,F,F,F,F,F,F,F,F,F,F,F,F] rfl rfl HT_.out ?_
       refine pU 8 (some 24) #[T,T,T,T,T,F,F,F,T,F,F,F,F,F,F,F,F,F,F] rfl rfl HT_.out ?_
       refine pU 9 (some 25) #[T,T,T,T,T,F,F,F,T,T,F,F,F,F,F,F,F,F,F] rfl rfl HT_.out ?_
       refine pU 10 (some 26) #[T,T,T,T,T,F,F,F,T,T,T,F,F,F,F,F,F,F,F] rfl rfl HT_.out ?_
       refine pU 11 (some 27) #[T,T,T,T,T,F,F,F,T,T,T,T,F,F,F,F,F,F,F] rfl rfl HT_.out ?_
       refine tU12 5 (some 21) #[T,T,T,T,T,T,F,F,T,T,T,T,F,F,F,F,F,F,F] rfl rfl HT_.out HW_.out hHeld ?_
       refine pU 6 (some 22) #[T,T,T,T,T,T,T,F,T,T,T,T,F,F,F,F,F,F,F] rfl rfl HT_.out ?_
       refine tU12 7 (some 23) #[T,T,T,T,T,T,T,T,T,T,T,T,F,F,F,F,F,F,F] rfl rfl HT_.out HW_.out hHeld ?_
       refine tU12 12 (some 28) #[T,T,T,T,T,T,T,T,T,T,T,T,T,F,F,F,F,F,F] rfl rfl HT_.out HW_.out hHeld ?_
       refine pU 13 (some 29) #[T,T,T,T,T,T,T,T,T,T,T,T,T,T,F,F,F,F,F] rfl rfl HT_.out ?_
       refine tU12 14 (some 30) #[T,T,T,T,T,T,T,T,T,T,T,T,T,T,T,F,F,F,F] rfl rfl HT_.out HW_.out hHeld ?_
       refine join_ (σ := Nat × Nat) 2 #[T,T,T,T,T,T,T,T,T,T,T,T,T,T,T,T,T,F,F] (fun s_ => [(8, .pointer (some ⟨s_.1, 0, none⟩)), (9, .pointer (some ⟨s_.2, 0, none⟩))]) (fun s_ w' => (w'.cell? (ad284.add ((ji6)).toNat) = some (.int .i64 (rd l1 (ji6))) ∧ w'.cell? (ad285.add (((rd l1 (ji6))).toNat * 5)) = some (.int .i64 ((rd_T52 l0 (rd l1 (ji6))).f0)) ∧ w'.cell? ⟨(ad285.add (((rd l1 (ji6))).toNat * 5)).block, (ad285.add (((rd l1 (ji6))).toNat * 5)).off + 1, none⟩ = some (.int .i64 ((rd_T52 l0 (rd l1 (ji6))).f1)) ∧ w'.cell? ⟨(ad285.add (((rd l1 (ji6))).toNat * 5)).block, (ad285.add (((rd l1 (ji6))).toNat * 5)).off + 2, none⟩ = some (.int .i64 ((rd_T52 l0 (rd l1 (ji6))).f2)) ∧ w'.cell? ⟨(ad285.add (((rd l1 (ji6))).toNat * 5)).block, (ad285.add (((rd l1 (ji6))).toNat * 5)).off + 3, none⟩ = some (.int .i64 ((rd_T52 l0 (rd l1 (ji6))).f3)) ∧ w'.cell? ⟨(ad285.add (((rd l1 (ji6))).toNat * 5)).block, (ad285.add (((rd l1 (ji6))).toNat * 5)).off + 4, none⟩ = some (.int .i64 ((rd_T52 l0 (rd l1 (ji6))).f4)) ∧ w'.cell? (ad284.add (x7_1).toNat) = some (.int .i64 (rd l1 x7_1)) ∧ w'.cell? (ad285.add (((rd l1 x7_1)).toNat * 5)) = some (.int .i64 ((rd_T52 l0 (rd l1 x7_1)).f0)) ∧ w'.cell? ⟨(ad285.add (((rd l1 x7_1)).toNat * 5)).block, (ad285.add (((rd l1 x7_1)).toNat * 5)).off + 1, none⟩ = some (.int .i64 ((rd_T52 l0 (rd l1 x7_1)).f1)) ∧ w'.cell? ⟨(ad285.add (((rd l1 x7_1)).toNat * 5)).block, (ad285.add (((rd l1 x7_1)).toNat * 5)).off + 2, none⟩ = some (.int .i64 ((rd_T52 l0 (rd l1 x7_1)).f2)) ∧ w'.cell? ⟨(ad285.add (((rd l1 x7_1)).toNat * 5)).block, (ad285.add (((rd l1 x7_1)).toNat * 5)).off + 3, none⟩ = some (.int .i64 ((rd_T52 l0 (rd l1 x7_1)).f3)) ∧ w'.cell? ⟨(ad285.add (((rd l1 x7_1)).toNat * 5)).block, (ad285.add (((rd l1 x7_1)).toNat * 5)).off + 4, none⟩ = some (.int .i64 ((rd_T52 l0 (rd l1 x7_1)).f4))) ∧ (w'.heap[gb283]? = some (.cells #[.int .i64 a2_0, .int .i64 a2_1, .int .i64 a2_2, .int .i64 a2_3] 25 (0, 0))) ∧ (w'.heap[s_.1]? = some (.cells #[.int .i64 0, .int .i64 0, .int .i64 0, .int .i64 0, .int .i64 0] 52 (0, 0))) ∧ (w'.heap[s_.2]? = some (.cells #[.int .i64 0, .int .i64 0, .int .i64 0, .int .i64 0, .int .i64 0] 52 (0, 0))) ∧ (w.heap.size ≤ s_.1) ∧ (w.heap.size ≤ s_.1) ∧ (gb283 ≠ s_.1) ∧ (s_.1 ≠ gb283) ∧ (s_.2 ≠ s_.1) ∧ (s_.1 ≠ s_.2) ∧ (w.heap.size ≤ s_.2) ∧ (w.heap.size ≤ s_.2) ∧ (gb283 ≠ s_.2) ∧ (s_.2 ≠ gb283) ∧ (Below w.heap.size w w')) ?_ ?_
       rotate_left
       · intro hCont
         refine two_ (i := 15) (j := 16) (Ni := some 8) (Nj := some 9) #[T,T,T,T,T,T,T,T,T,T,T,T,T,T,T,T,F,F,F] #[T,T,T,T,T,T,T,T,T,T,T,T,T,T,T,F,T,F,F] rfl rfl rfl rfl (two_of HT_.out (by kernel_rfl)) (by decide) (by decide) (fun K hK => ?_) (fun K hK => ?_)
         · skip
           refine box_step ?hg (N := 8) ?hd (cs := #[.int .i64 0, .int .i64 0, .int .i64 0, .int .i64 0, .int .i64 0]) (t := 52) ?hr ?_; (case hd => rfl); (case hg => rfl); (case hr => first | (go_simp; done) | (go_simp; rfl))
           intro gb288 hg w55 hbox hb
           have n0_ := Aside0.mk (blk_below (g := gb283) (o := .cells #[.int .i64 a2_0, .int .i64 a2_1, .int .i64 a2_2, .int .i64 a2_3] 25 (0, 0)) (nB BK283.out) hb)
           have n1_ := Aside0.mk (below_step (nH1 HB.out GE283.out) hb)
           have n2_ := Aside0.mk (hbox)
           have n3_ := Aside0.mk ((by rw [hg]; exact (below_size (nH1 HB.out GE283.out)) : w.heap.size ≤ gb288))
           have n4_ := Aside0.mk ((by rw [hg]; exact (below_size (nH1 HB.out GE283.out)) : w.heap.size ≤ gb288))
           have n5_ := Aside0.mk ((by rw [hg]; exact Nat.ne_of_lt (blk_lt (g := gb283) (o := .cells #[.int .i64 a2_0, .int .i64 a2_1, .int .i64 a2_2, .int .i64 a2_3] 25 (0, 0)) (nB BK283.out)) : gb283 ≠ gb288))
           have n6_ := Aside0.mk ((by rw [hg]; exact Nat.ne_of_gt (blk_lt (g := gb283) (o := .cells #[.int .i64 a2_0, .int .i64 a2_1, .int .i64 a2_2, .int .i64 a2_3] 25 (0, 0)) (nB BK283.out)) : gb288 ≠ gb283))
           clear BK283; clear HB; have BK283 := n0_; have HB := n1_; have BK288 := n2_; have GW288 := n3_; have GE288 := n4_; have NB283_288 := n5_; have NB288_283 := n6_; clear n0_ n1_ n2_ n3_ n4_ n5_ n6_; clear hb hbox hg
           refine hK.out _ _ ⟨(nC HB.out hw284_0 :), (nC HB.out hw285_0 :), (nC HB.out hw285_1 :), (nC HB.out hw285_2 :), (nC HB.out hw285_3 :), (nC HB.out hw285_4 :), (nC HB.out hw286_0 :), (nC HB.out hw287_0 :), (nC HB.out hw287_1 :), (nC HB.out hw287_2 :), (nC HB.out hw287_3 :), (nC HB.out hw287_4 :)⟩ (fun hHeld => ?_)
           clear hK K
           refine norm_ (a' := ?_) ?_ ?_
           rotate_left
           · show Act.put _ (some 8) _ = _
             simp only [Act.put, List.setIfInBounds_toArray, List.set_cons_zero, List.set_cons_succ, i64_w, i32_w]
             rfl
           refine one_ (i := 16) (N := some 9) #[T,T,T,T,T,T,T,T,T,T,T,T,T,T,T,T,T,F,F] rfl rfl (one_of HT_.out (by kernel_rfl)) (by decide) (fun K hK => ?_)
           refine box_step ?hg (N := 9) ?hd (cs := #[.int .i64 0, .int .i64 0, .int .i64 0, .int .i64 0, .int .i64 0]) (t := 52) ?hr ?_; (case hd => rfl); (case hg => rfl); (case hr => first | (go_simp; done) | (go_simp; rfl))
           intro gb289 hg w56 hbox hb
           have n0_ := Aside0.mk (blk_below (g := gb283) (o := .cells #[.int .i64 a2_0, .int .i64 a2_1, .int .i64 a2_2, .int .i64 a2_3] 25 (0, 0)) (nB BK283.out) hb)
           have n1_ := Aside0.mk (blk_below (g := gb288) (o := .cells #[.int .i64 0, .int .i64 0, .int .i64 0, .int .i64 0, .int .i64 0] 52 (0, 0)) (nB BK288.out) hb)
           have n2_ := Aside0.mk (below_step (nH2 HB.out GE283.out GE288.out) hb)
           have n3_ := Aside0.mk (hbox)
           have n4_ := Aside0.mk ((by rw [hg]; exact (below_size (nH2 HB.out GE283.out GE288.out)) : w.heap.size ≤ gb289))
           have n5_ := Aside0.mk ((by rw [hg]; exact (below_size (nH2 HB.out GE283.out GE288.out)) : w.heap.size ≤ gb289))
           have n6_ := Aside0.mk ((by rw [hg]; exact Nat.ne_of_lt (blk_lt (g := gb283) (o := .cells #[.int .i64 a2_0, .int .i64 a2_1, .int .i64 a2_2, .int .i64 a2_3] 25 (0, 0)) (nB BK283.out)) : gb283 ≠ gb289))
           have n7_ := Aside0.mk ((by rw [hg]; exact Nat.ne_of_gt (blk_lt (g := gb283) (o := .cells #[.int .i64 a2_0, .int .i64 a2_1, .int .i64 a2_2, .int .i64 a2_3] 25 (0, 0)) (nB BK283.out)) : gb289 ≠ gb283))
           have n8_ := Aside0.mk ((by rw [hg]; exact Nat.ne_of_lt (blk_lt (g := gb288) (o := .cells #[.int .i64 0, .int .i64 0, .int .i64 0, .int .i64 0, .int .i64 0] 52 (0, 0)) (nB BK288.out)) : gb288 ≠ gb289))
           have n9_ := Aside0.mk ((by rw [hg]; exact Nat.ne_of_gt (blk_lt (g := gb288) (o := .cells #[.int .i64 0, .int .i64 0, .int .i64 0, .int .i64 0, .int .i64 0] 52 (0, 0)) (nB BK288.out)) : gb289 ≠ gb288))
           clear BK283; clear BK288; clear HB; have BK283 := n0_; have BK288 := n1_; have HB := n2_; have BK289 := n3_; have GW289 := n4_; have GE289 := n5_; have NB283_289 := n6_; have NB289_283 := n7_; have NB288_289 := n8_; have NB289_288 := n9_; clear n0_ n1_ n2_ n3_ n4_ n5_ n6_ n7_ n8_ n9_; clear hb hbox hg
           refine hK.out _ _ ⟨(nC HB.out hw284_0 :), (nC HB.out hw285_0 :), (nC HB.out hw285_1 :), (nC HB.out hw285_2 :), (nC HB.out hw285_3 :), (nC HB.out hw285_4 :), (nC HB.out hw286_0 :), (nC HB.out hw287_0 :), (nC HB.out hw287_1 :), (nC HB.out hw287_2 :), (nC HB.out hw287_3 :), (nC HB.out hw287_4 :)⟩ (fun hHeld => ?_)
           clear hK K
           refine norm_ (a' := ?_) ?_ ?_
           rotate_left
           · show Act.put _ (some 9) _ = _
             simp only [Act.put, List.setIfInBounds_toArray, List.set_cons_zero, List.set_cons_succ, i64_w, i32_w]
             rfl
           exact norm_ (by simp only [putAll, Act.put, List.setIfInBounds_toArray, List.set_cons_zero, List.set_cons_succ]) (hCont (gb288, gb289) _ ⟨hHeld, (nB BK283.out), (nB BK288.out), (nB BK289.out), GW288.out, GE288.out, NB283_288.out, NB288_283.out, NB289_288.out, NB288_289.out, GW289.out, GE289.out, NB283_289.out, NB289_283.out, (nH3 HB.out GE283.out GE288.out GE289.out)⟩)
         · skip
           refine box_step ?hg (N := 9) ?hd (cs := #[.int .i64 0, .int .i64 0, .int .i64 0, .int .i64 0, .int .i64 0]) (t := 52) ?hr ?_; (case hd => rfl); (case hg => rfl); (case hr => first | (go_simp; done) | (go_simp; rfl))
           intro gb289 hg w55 hbox hb
           have n0_ := Aside0.mk (blk_below (g := gb283) (o := .cells #[.int .i64 a2_0, .int .i64 a2_1, .int .i64 a2_2, .int .i64 a2_3] 25 (0, 0)) (nB BK283.out) hb)
           have n1_ := Aside0.mk (below_step (nH1 HB.out GE283.out) hb)
           have n2_ := Aside0.mk (hbox)
           have n3_ := Aside0.mk ((by rw [hg]; exact (below_size (nH1 HB.out GE283.out)) : w.heap.size ≤ gb289))
           have n4_ := Aside0.mk ((by rw [hg]; exact (below_size (nH1 HB.out GE283.out)) : w.heap.size ≤ gb289))
           have n5_ := Aside0.mk ((by rw [hg]; exact Nat.ne_of_lt (blk_lt (g := gb283) (o := .cells #[.int .i64 a2_0, .int .i64 a2_1, .int .i64 a2_2, .int .i64 a2_3] 25 (0, 0)) (nB BK283.out)) : gb283 ≠ gb289))
           have n6_ := Aside0.mk ((by rw [hg]; exact Nat.ne_of_gt (blk_lt (g := gb283) (o := .cells #[.int .i64 a2_0, .int .i64 a2_1, .int .i64 a2_2, .int .i64 a2_3] 25 (0, 0)) (nB BK283.out)) : gb289 ≠ gb283))
           clear BK283; clear HB; have BK283 := n0_; have HB := n1_; have BK289 := n2_; have GW289 := n3_; have GE289 := n4_; have NB283_289 := n5_; have NB289_283 := n6_; clear n0_ n1_ n2_ n3_ n4_ n5_ n6_; clear hb hbox hg
           refine hK.out _ _ ⟨(nC HB.out hw284_0 :), (nC HB.out hw285_0 :), (nC HB.out hw285_1 :), (nC HB.out hw285_2 :), (nC HB.out hw285_3 :), (nC HB.out hw285_4 :), (nC HB.out hw286_0 :), (nC HB.out hw287_0 :), (nC HB.out hw287_1 :), (nC HB.out hw287_2 :), (nC HB.out hw287_3 :), (nC HB.out hw287_4 :)⟩ (fun hHeld => ?_)
           clear hK K
           refine norm_ (a' := ?_) ?_ ?_
           rotate_left
           · show Act.put _ (some 9) _ = _
             simp only [Act.put, List.setIfInBounds_toArray, List.set_cons_zero, List.set_cons_succ, i64_w, i32_w]
             rfl
           refine one_ (i := 15) (N := some 8) #[T,T,T,T,T,T,T,T,T,T,T,T,T,T,T,T,T,F,F] rfl rfl (one_of HT_.out (by kernel_rfl)) (by decide) (fun K hK => ?_)
           refine box_step ?hg (N := 8) ?hd (cs := #[.int .i64 0, .int .i64 0, .int .i64 0, .int .i64 0, .int .i64 0]) (t := 52) ?hr ?_; (case hd => rfl); (case hg => rfl); (case hr => first | (go_simp; done) | (go_simp; rfl))
           intro gb288 hg w56 hbox hb
           have n0_ := Aside0.mk (blk_below (g := gb283) (o := .cells #[.int .i64 a2_0, .int .i64 a2_1, .int .i64 a2_2, .int .i64 a2_3] 25 (0, 0)) (nB BK283.out) hb)
           have n1_ := Aside0.mk (blk_below (g := gb289) (o := .cells #[.int .i64 0, .int .i64 0, .int .i64 0, .int .i64 0, .int .i64 0] 52 (0, 0)) (nB BK289.out) hb)
           have n2_ := Aside0.mk (below_step (nH2 HB.out GE283.out GE289.out) hb)
           have n3_ := Aside0.mk (hbox)
           have n4_ := Aside0.mk ((by rw [hg]; exact (below_size (nH2 HB.out GE283.out GE289.out)) : w.heap.size ≤ gb288))
           have n5_ := Aside0.mk ((by rw [hg]; exact (below_size (nH2 HB.out GE283.out GE289.out)) : w.heap.size ≤ gb288))
           have n6_ := Aside0.mk ((by rw [hg]; exact Nat.ne_of_lt (blk_lt (g := gb283) (o := .cells #[.int .i64 a2_0, .int .i64 a2_1, .int .i64 a2_2, .int .i64 a2_3] 25 (0, 0)) (nB BK283.out)) : gb283 ≠ gb288))
           have n7_ := Aside0.mk ((by rw [hg]; exact Nat.ne_of_gt (blk_lt (g := gb283) (o := .cells #[.int .i64 a2_0, .int .i64 a2_1, .int .i64 a2_2, .int .i64 a2_3] 25 (0, 0)) (nB BK283.out)) : gb288 ≠ gb283))
           have n8_ := Aside0.mk ((by rw [hg]; exact Nat.ne_of_lt (blk_lt (g := gb289) (o := .cells #[.int .i64 0, .int .i64 0, .int .i64 0, .int .i64 0, .int .i64 0] 52 (0, 0)) (nB BK289.out)) : gb289 ≠ gb288))
           have n9_ := Aside0.mk ((by rw [hg]; exact Nat.ne_of_gt (blk_lt (g := gb289) (o := .cells #[.int .i64 0, .int .i64 0, .int .i64 0, .int .i64 0, .int .i64 0] 52 (0, 0)) (nB BK289.out)) : gb288 ≠ gb289))
           clear BK283; clear BK289; clear HB; have BK283 := n0_; have BK289 := n1_; have HB := n2_; have BK288 := n3_; have GW288 := n4_; have GE288 := n5_; have NB283_288 := n6_; have NB288_283 := n7_; have NB289_288 := n8_; have NB288_289 := n9_; clear n0_ n1_ n2_ n3_ n4_ n5_ n6_ n7_ n8_ n9_; clear hb hbox hg
           refine hK.out _ _ ⟨(nC HB.out hw284_0 :), (nC HB.out hw285_0 :), (nC HB.out hw285_1 :), (nC HB.out hw285_2 :), (nC HB.out hw285_3 :), (nC HB.out hw285_4 :), (nC HB.out hw286_0 :), (nC HB.out hw287_0 :), (nC HB.out hw287_1 :), (nC HB.out hw287_2 :), (nC HB.out hw287_3 :), (nC HB.out hw287_4 :)⟩ (fun hHeld => ?_)
           clear hK K
           refine norm_ (a' := ?_) ?_ ?_
           rotate_left
           · show Act.put _ (some 8) _ = _
             simp only [Act.put, List.setIfInBounds_toArray, List.set_cons_zero, List.set_cons_succ, i64_w, i32_w]
             rfl
           exact norm_ (by simp only [putAll, Act.put, List.setIfInBounds_toArray, List.set_cons_zero, List.set_cons_succ]) (hCont (gb288, gb289) _ ⟨hHeld, (nB BK283.out), (nB BK288.out), (nB BK289.out), GW288.out, GE288.out, NB283_288.out, NB288_283.out, NB289_288.out, NB288_289.out, GW289.out, GE289.out, NB283_289.out, NB289_283.out, (nH3 HB.out GE283.out GE289.out GE288.out)⟩)
       rintro ⟨gb288, gb289⟩ w57 ⟨hS_, h0_, h1_, h2_, h3_, h4_, h5_, h6_, h7_, h8_, h9_, h10_, h11_, h12_, h13_⟩
       have n0_ : Aside0 (w57.heap[gb283]? = some (.cells #[.int .i64 a2_0, .int .i64 a2_1, .int .i64 a2_2, .int .i64 a2_3] 25 (0, 0))) := ⟨h0_⟩
       have n1_ : Aside0 (w57.heap[gb288]? = some (.cells #[.int .i64 0, .int .i64 0, .int .i64 0, .int .i64 0, .int .i64 0] 52 (0, 0))) := ⟨h1_⟩
       have n2_ : Aside0 (w57.heap[gb289]? = some (.cells #[.int .i64 0, .int .i64 0, .int .i64 0, .int .i64 0, .int .i64 0] 52 (0, 0))) := ⟨h2_⟩
       have n3_ : Aside0 (w.heap.size ≤ gb288) := ⟨h3_⟩
       have n4_ : Aside0 (w.heap.size ≤ gb288) := ⟨h4_⟩
       have n5_ : Aside0 (gb283 ≠ gb288) := ⟨h5_⟩
       have n6_ : Aside0 (gb288 ≠ gb283) := ⟨h6_⟩
       have n7_ : Aside0 (gb289 ≠ gb288) := ⟨h7_⟩
       have n8_ : Aside0 (gb288 ≠ gb289) := ⟨h8_⟩
       have n9_ : Aside0 (w.heap.size ≤ gb289) := ⟨h9_⟩
       have n10_ : Aside0 (w.heap.size ≤ gb289) := ⟨h10_⟩
       have n11_ : Aside0 (gb283 ≠ gb289) := ⟨h11_⟩
       have n12_ : Aside0 (gb289 ≠ gb283) := ⟨h12_⟩
       have n13_ : Aside0 (Below w.heap.size w w57) := ⟨h13_⟩
       clear BK283; clear HB; clear h0_ h1_ h2_ h3_ h4_ h5_ h6_ h7_ h8_ h9_ h10_ h11_ h12_ h13_; have BK283 := n0_; have BK288 := n1_; have BK289 := n2_; have GW288 := n3_; have GE288 := n4_; have NB283_288 := n5_; have NB288_283 := n6_; have NB289_288 := n7_; have NB288_289 := n8_; have GW289 := n9_; have GE289 := n10_; have NB283_289 := n11_; have NB289_283 := n12_; have HB := n13_; clear n0_ n1_ n2_ n3_ n4_ n5_ n6_ n7_ n8_ n9_ n10_ n11_ n12_ n13_
       have hHeld : w57.cell? (ad284.add ((ji6)).toNat) = some (.int .i64 (rd l1 (ji6))) ∧ w57.cell? (ad285.add (((rd l1 (ji6))).toNat * 5)) = some (.int .i64 ((rd_T52 l0 (rd l1 (ji6))).f0)) ∧ w57.cell? ⟨(ad285.add (((rd l1 (ji6))).toNat * 5)).block, (ad285.add (((rd l1 (ji6))).toNat * 5)).off + 1, none⟩ = some (.int .i64 ((rd_T52 l0 (rd l1 (ji6))).f1)) ∧ w57.cell? ⟨(ad285.add (((rd l1 (ji6))).toNat * 5)).block, (ad285.add (((rd l1 (ji6))).toNat * 5)).off + 2, none⟩ = some (.int .i64 ((rd_T52 l0 (rd l1 (ji6))).f2)) ∧ w57.cell? ⟨(ad285.add (((rd l1 (ji6))).toNat * 5)).block, (ad285.add (((rd l1 (ji6))).toNat * 5)).off + 3, none⟩ = some (.int .i64 ((rd_T52 l0 (rd l1 (ji6))).f3)) ∧ w57.cell? ⟨(ad285.add (((rd l1 (ji6))).toNat * 5)).block, (ad285.add (((rd l1 (ji6))).toNat * 5)).off + 4, none⟩ = some (.int .i64 ((rd_T52 l0 (rd l1 (ji6))).f4)) ∧ w57.cell? (ad284.add (x7_1).toNat) = some (.int .i64 (rd l1 x7_1)) ∧ w57.cell? (ad285.add (((rd l1 x7_1)).toNat * 5)) = some (.int .i64 ((rd_T52 l0 (rd l1 x7_1)).f0)) ∧ w57.cell? ⟨(ad285.add (((rd l1 x7_1)).toNat * 5)).block, (ad285.add (((rd l1 x7_1)).toNat * 5)).off + 1, none⟩ = some (.int .i64 ((rd_T52 l0 (rd l1 x7_1)).f1)) ∧ w57.cell? ⟨(ad285.add (((rd l1 x7_1)).toNat * 5)).block, (ad285.add (((rd l1 x7_1)).toNat * 5)).off + 2, none⟩ = some (.int .i64 ((rd_T52 l0 (rd l1 x7_1)).f2)) ∧ w57.cell? ⟨(ad285.add (((rd l1 x7_1)).toNat * 5)).block, (ad285.add (((rd l1 x7_1)).toNat * 5)).off + 3, none⟩ = some (.int .i64 ((rd_T52 l0 (rd l1 x7_1)).f3)) ∧ w57.cell? ⟨(ad285.add (((rd l1 x7_1)).toNat * 5)).block, (ad285.add (((rd l1 x7_1)).toNat * 5)).off + 4, none⟩ = some (.int .i64 ((rd_T52 l0 (rd l1 x7_1)).f4)) := hS_
       refine norm_ (a' := ?_) ?_ ?_
       rotate_left
       · simp only [putAll, Act.put, List.setIfInBounds_toArray, List.set_cons_zero, List.set_cons_succ]
         rfl
       refine one_ (i := 17) (N := none) #[T,T,T,T,T,T,T,T,T,T,T,T,T,T,T,T,T,T,F] rfl rfl (one_of HT_.out (by kernel_rfl)) (by decide) (fun K hK => ?_)
       have hs58 : w57.cell? ⟨gb288, 0, none⟩ = some (.int .i64 0) := (blk_cell BK288.out 0).trans rfl
       have hfs58 := blk_frozen BK288.out 0
       have hns58_0 := NB283_288.out; have hns58_2 := NB289_288.out; have hms58_0 := NB288_283.out; have hms58_2 := NB288_289.out
       have hs59 : w57.cell? ⟨gb288, 1, none⟩ = some (.int .i64 0) := (blk_cell BK288.out 1).trans rfl
       have hfs59 := blk_frozen BK288.out 1
       have hns59_0 := NB283_288.out; have hns59_2 := NB289_288.out; have hms59_0 := NB288_283.out; have hms59_2 := NB288_289.out
       have hs60 : w57.cell? ⟨gb288, 2, none⟩ = some (.int .i64 0) := (blk_cell BK288.out 2).trans rfl
       have hfs60 := blk_frozen BK288.out 2
       have hns60_0 := NB283_288.out; have hns60_2 := NB289_288.out; have hms60_0 := NB288_283.out; have hms60_2 := NB288_289.out
       have hs61 : w57.cell? ⟨gb288, 3, none⟩ = some (.int .i64 0) := (blk_cell BK288.out 3).trans rfl
       have hfs61 := blk_frozen BK288.out 3
       have hns61_0 := NB283_288.out; have hns61_2 := NB289_288.out; have hms61_0 := NB288_283.out; have hms61_2 := NB288_289.out
       have hs62 : w57.cell? ⟨gb288, 4, none⟩ = some (.int .i64 0) := (blk_cell BK288.out 4).trans rfl
       have hfs62 := blk_frozen BK288.out 4
       have hns62_0 := NB283_288.out; have hns62_2 := NB289_288.out; have hms62_0 := NB288_283.out; have hms62_2 := NB288_289.out
       refine skip_ (w1 := ?_) (by rfl) rfl ?_ ?_
       rotate_left
       · go_simp; rfl
       refine hK.out _ _ ⟨((nF gb288 hw284_0 GW288.out).trans (((nF gb288 hw284_0 GW288.out).trans (((nF gb288 hw284_0 GW288.out).trans (((nF gb288 hw284_0 GW288.out).trans (((nF gb288 hw284_0 GW288.out).trans (hHeld.1)))))))))), ((nF gb288 hw285_0 GW288.out).trans (((nF gb288 hw285_0 GW288.out).trans (((nF gb288 hw285_0 GW288.out).trans (((nF gb288 hw285_0 GW288.out).trans (((nF gb288 hw285_0 GW288.out).trans (hHeld.2.1)))))))))), ((nF gb288 hw285_1 GW288.out).trans (((nF gb288 hw285_1 GW288.out).trans (((nF gb288 hw285_1 GW288.out).trans (((nF gb288 hw285_1 GW288.out).trans (((nF gb288 hw285_1 GW288.out).trans (hHeld.2.2.1)))))))))), ((nF gb288 hw285_2 GW288.out).trans (((nF gb288 hw285_2 GW288.out).trans (((nF gb288 hw285_2 GW288.out).trans (((nF gb288 hw285_2 GW288.out).trans (((nF gb288 hw285_2 GW288.out).trans (hHeld.2.2.2.1)))))))))), ((nF gb288 hw285_3 GW288.out).trans (((nF gb288 hw285_3 GW288.out).trans (((nF gb288 hw285_3 GW288.out).trans (((nF gb288 hw285_3 GW288.out).trans (((nF gb288 hw285_3 GW288.out).trans (hHeld.2.2.2.2.1)))))))))), ((nF gb288 hw285_4 GW288.out).trans (((nF gb288 hw285_4 GW288.out).trans (((nF gb288 hw285_4 GW288.out).trans (((nF gb288 hw285_4 GW288.out).trans (((nF gb288 hw285_4 GW288.out).trans (hHeld.2.2.2.2.2.1)))))))))), ((nF gb288 hw286_0 GW288.out).trans (((nF gb288 hw286_0 GW288.out).trans (((nF gb288 hw286_0 GW288.out).trans (((nF gb288 hw286_0 GW288.out).trans (((nF gb288 hw286_0 GW288.out).trans (hHeld.2.2.2.2.2.2.1)))))))))), ((nF gb288 hw287_0 GW288.out).trans (((nF gb288 hw287_0 GW288.out).trans (((nF gb288 hw287_0 GW288.out).trans (((nF gb288 hw287_0 GW288.out).trans (((nF gb288 hw287_0 GW288.out).trans (hHeld.2.2.2.2.2.2.2.1)))))))))), ((nF gb288 hw287_1 GW288.out).trans (((nF gb288 hw287_1 GW288.out).trans (((nF gb288 hw287_1 GW288.out).trans (((nF gb288 hw287_1 GW288.out).trans (((nF gb288 hw287_1 GW288.out).trans (hHeld.2.2.2.2.2.2.2.2.1)))))))))), ((nF gb288 hw287_2 GW288.out).trans (((nF gb288 hw287_2 GW288.out).trans (((nF gb288 hw287_2 GW288.out).trans (((nF gb288 hw287_2 GW288.out).trans (((nF gb288 hw287_2 GW288.out).trans (hHeld.2.2.2.2.2.2.2.2.2.1)))))))))), ((nF gb288 hw287_3 GW288.out).trans (((nF gb288 hw287_3 GW288.out).trans (((nF gb288 hw287_3 GW288.out).trans (((nF gb288 hw287_3 GW288.out).trans (((nF gb288 hw287_3 GW288.out).trans (hHeld.2.2.2.2.2.2.2.2.2.2.1)))))))))), ((nF gb288 hw287_4 GW288.out).trans (((nF gb288 hw287_4 GW288.out).trans (((nF gb288 hw287_4 GW288.out).trans (((nF gb288 hw287_4 GW288.out).trans (((nF gb288 hw287_4 GW288.out).trans (hHeld.2.2.2.2.2.2.2.2.2.2.2))))))))))⟩ (fun hHeld => ?_)
       clear hK K
       refine one_ (i := 18) (N := none) #[T,T,T,T,T,T,T,T,T,T,T,T,T,T,T,T,T,T,T] rfl rfl (one_of HT_.out (by kernel_rfl)) (by decide) (fun K hK => ?_)
       have hs63 : w57.cell? ⟨gb289, 0, none⟩ = some (.int .i64 0) := (blk_cell BK289.out 0).trans rfl
       have hfs63 := blk_frozen BK289.out 0
       have hns63_0 := NB283_289.out; have hns63_1 := NB288_289.out; have hms63_0 := NB289_283.out; have hms63_1 := NB289_288.out
       have hs64 : w57.cell? ⟨gb289, 1, none⟩ = some (.int .i64 0) := (blk_cell BK289.out 1).trans rfl
       have hfs64 := blk_frozen BK289.out 1
       have hns64_0 := NB283_289.out; have hns64_1 := NB288_289.out; have hms64_0 := NB289_283.out; have hms64_1 := NB289_288.out
       have hs65 : w57.cell? ⟨gb289, 2, none⟩ = some (.int .i64 0) := (blk_cell BK289.out 2).trans rfl
       have hfs65 := blk_frozen BK289.out 2
       have hns65_0 := NB283_289.out; have hns65_1 := NB288_289.out; have hms65_0 := NB289_283.out; have hms65_1 := NB289_288.out
       have hs66 : w57.cell? ⟨gb289, 3, none⟩ = some (.int .i64 0) := (blk_cell BK289.out 3).trans rfl
       have hfs66 := blk_frozen BK289.out 3
       have hns66_0 := NB283_289.out; have hns66_1 := NB288_289.out; have hms66_0 := NB289_283.out; have hms66_1 := NB289_288.out
       have hs67 : w57.cell? ⟨gb289, 4, none⟩ = some (.int .i64 0) := (blk_cell BK289.out 4).trans rfl
       have hfs67 := blk_frozen BK289.out 4
       have hns67_0 := NB283_289.out; have hns67_1 := NB288_289.out; have hms67_0 := NB289_283.out; have hms67_1 := NB289_288.out
       refine skip_ (w1 := ?_) (by rfl) rfl ?_ ?_
       rotate_left
       · go_simp; rfl
       refine hK.out _ _ ⟨((nF gb289 hw284_0 GW289.out).trans (((nF gb289 hw284_0 GW289.out).trans (((nF gb289 hw284_0 GW289.out).trans (((nF gb289 hw284_0 GW289.out).trans (((nF gb289 hw284_0 GW289.out).trans (hHeld.1)))))))))), ((nF gb289 hw285_0 GW289.out).trans (((nF gb289 hw285_0 GW289.out).trans (((nF gb289 hw285_0 GW289.out).trans (((nF gb289 hw285_0 GW289.out).trans (((nF gb289 hw285_0 GW289.out).trans (hHeld.2.1)))))))))), ((nF gb289 hw285_1 GW289.out).trans (((nF gb289 hw285_1 GW289.out).trans (((nF gb289 hw285_1 GW289.out).trans (((nF gb289 hw285_1 GW289.out).trans (((nF gb289 hw285_1 GW289.out).trans (hHeld.2.2.1)))))))))), ((nF gb289 hw285_2 GW289.out).trans (((nF gb289 hw285_2 GW289.out).trans (((nF gb289 hw285_2 GW289.out).trans (((nF gb289 hw285_2 GW289.out).trans (((nF gb289 hw285_2 GW289.out).trans (hHeld.2.2.2.1)))))))))), ((nF gb289 hw285_3 GW289.out).trans (((nF gb289 hw285_3 GW289.out).trans (((nF gb289 hw285_3 GW289.out).trans (((nF gb289 hw285_3 GW289.out).trans (((nF gb289 hw285_3 GW289.out).trans (hHeld.2.2.2.2.1)))))))))), ((nF gb289 hw285_4 GW289.out).trans (((nF gb289 hw285_4 GW289.out).trans (((nF gb289 hw285_4 GW289.out).trans (((nF gb289 hw285_4 GW289.out).trans (((nF gb289 hw285_4 GW289.out).trans (hHeld.2.2.2.2.2.1)))))))))), ((nF gb289 hw286_0 GW289.out).trans (((nF gb289 hw286_0 GW289.out).trans (((nF gb289 hw286_0 GW289.out).trans (((nF gb289 hw286_0 GW289.out).trans (((nF gb289 hw286_0 GW289.out).trans (hHeld.2.2.2.2.2.2.1)))))))))), ((nF gb289 hw287_0 GW289.out).trans (((nF gb289 hw287_0 GW289.out).trans (((nF gb289 hw287_0 GW289.out).trans (((nF gb289 hw287_0 GW289.out).trans (((nF gb289 hw287_0 GW289.out).trans (hHeld.2.2.2.2.2.2.2.1)))))))))), ((nF gb289 hw287_1 GW289.out).trans (((nF gb289 hw287_1 GW289.out).trans (((nF gb289 hw287_1 GW289.out).trans (((nF gb289 hw287_1 GW289.out).trans (((nF gb289 hw287_1 GW289.out).trans (hHeld.2.2.2.2.2.2.2.2.1)))))))))), ((nF gb289 hw287_2 GW289.out).trans (((nF gb289 hw287_2 GW289.out).trans (((nF gb289 hw287_2 GW289.out).trans (((nF gb289 hw287_2 GW289.out).trans (((nF gb289 hw287_2 GW289.out).trans (hHeld.2.2.2.2.2.2.2.2.2.1)))))))))), ((nF gb289 hw287_3 GW289.out).trans (((nF gb289 hw287_3 GW289.out).trans (((nF gb289 hw287_3 GW289.out).trans (((nF gb289 hw287_3 GW289.out).trans (((nF gb289 hw287_3 GW289.out).trans (hHeld.2.2.2.2.2.2.2.2.2.2.1)))))))))), ((nF gb289 hw287_4 GW289.out).trans (((nF gb289 hw287_4 GW289.out).trans (((nF gb289 hw287_4 GW289.out).trans (((nF gb289 hw287_4 GW289.out).trans (((nF gb289 hw287_4 GW289.out).trans (hHeld.2.2.2.2.2.2.2.2.2.2.2))))))))))⟩ (fun hHeld => ?_)
       clear hK K
       refine done_ (done_of HT_.out (by kernel_rfl)) ?_
       have hnb68 := NB288_283.out; have hnc68 := NB283_288.out; have hnb69 := NB288_289.out; have hnc69 := NB289_288.out
       have hcz70_0 : w57.cell? ⟨gb288, 0, none⟩ = some (.int .i64 0) := (blk_cell BK288.out 0).trans rfl
       have hcz70_1 : w57.cell? ⟨gb288, 1, none⟩ = some (.int .i64 0) := (blk_cell BK288.out 1).trans rfl
       have hcz70_2 : w57.cell? ⟨gb288, 2, none⟩ = some (.int .i64 0) := (blk_cell BK288.out 2).trans rfl
       have hcz70_3 : w57.cell? ⟨gb288, 3, none⟩ = some (.int .i64 0) := (blk_cell BK288.out 3).trans rfl
       have hcz70_4 : w57.cell? ⟨gb288, 4, none⟩ = some (.int .i64 0) := (blk_cell BK288.out 4).trans rfl
       have hfz70_0 := blk_frozen BK288.out 0
       have hfz70_1 := blk_frozen BK288.out 1
       have hfz70_2 := blk_frozen BK288.out 2
       have hfz70_3 := blk_frozen BK288.out 3
       have hfz70_4 := blk_frozen BK288.out 4
       have hnb71 := NB289_283.out; have hnc71 := NB283_289.out
       have hcz72_0 : w57.cell? ⟨gb289, 0, none⟩ = some (.int .i64 0) := (blk_cell BK289.out 0).trans rfl
       have hcz72_1 : w57.cell? ⟨gb289, 1, none⟩ = some (.int .i64 0) := (blk_cell BK289.out 1).trans rfl
       have hcz72_2 : w57.cell? ⟨gb289, 2, none⟩ = some (.int .i64 0) := (blk_cell BK289.out 2).trans rfl
       have hcz72_3 : w57.cell? ⟨gb289, 3, none⟩ = some (.int .i64 0) := (blk_cell BK289.out 3).trans rfl
       have hcz72_4 : w57.cell? ⟨gb289, 4, none⟩ = some (.int .i64 0) := (blk_cell BK289.out 4).trans rfl
       have hfz72_0 := blk_frozen BK289.out 0
       have hfz72_1 := blk_frozen BK289.out 1
       have hfz72_2 := blk_frozen BK289.out 2
       have hfz72_3 := blk_frozen BK289.out 3
       have hfz72_4 := blk_frozen BK289.out 4
       try go_wp2
       go_ret
       exact ⟨by first | rfl | (simp [errW_none, errW_some] <;> rfl) | (simp only [← hji6]; first | rfl | (simp [errW_none, errW_some] <;> rfl)) | (simp [*, errW_none, errW_some] <;> first | rfl | (simp [wrap64]; done)), nH3 HB.out GE283.out GE288.out GE289.out⟩
   · rw [if_neg c5] at H
     have c5b0 : decide (x7_1 < (l1.length : Int)) = false := decide_eq_false c5
     clear c5
     replace H := Option.bind_eq_some_iff.mp H
     obtain ⟨t290, A730, H⟩ := H
     replace H : (if t290 > a2_0 then (some 3) else ((impl_driven.f k1 l0 l1).bind fun t291 => (if t291 > a2_1 then (some 4) else ((impl_stretched.f k1 l0 l1 a2_2).bind fun t292 => (if t292 > a2_3 then (some 5) else (some 0)))))) = some r := H
     have A73 := Aside0.mk A730
     clear A730
     by_cases c74 : t290 > a2_0
     · rw [if_pos c74] at H
       have c74b0 : decide (a2_0 < t290) = true := decide_eq_true c74
       clear c74; obtain rfl := Option.some.inj H
       try go_wp2
       have n0_ := Aside0.mk (blk_drew BK283.out)
       have n1_ := Aside0.mk (below_drew1 HB.out)
       clear BK283; clear HB; have BK283 := n0_; have HB := n1_; clear n0_ n1_
       refine start_ (n := 7) (S := fun w' => w'.cell? ⟨gb283, 0, none⟩ = some (.int .i64 a2_0) ∧ w'.cell? ⟨gb283, 1, none⟩ = some (.int .i64 a2_1) ∧ w'.cell? ⟨gb283, 2, none⟩ = some (.int .i64 a2_2) ∧ w'.cell? ⟨gb283, 3, none⟩ = some (.int .i64 a2_3)) (ds := []) #[F,F,F,F,F,F,F] (by kernel_rfl) rfl rfl ⟨(blk_cell BK283.out 0).trans rfl, (blk_cell BK283.out 1).trans rfl, (blk_cell BK283.out 2).trans rfl, (blk_cell BK283.out 3).trans rfl⟩ (fun hHeld => ?_)
       generalize wr.drew = w75 at BK283 HB hHeld ⊢
       refine pK 0 (some 44) #[T,F,F,F,F,F,F] rfl rfl ?_
       refine pK 1 (some 45) #[T,T,F,F,F,F,F] rfl rfl ?_
       refine pK 3 (some 47) #[T,T,F,T,F,F,F] rfl rfl ?_
       refine take_ (i := 4) (N := some 48) (v := ?_) (a' := ?_) #[T,T,F,T,T,F,F] rfl rfl (by kernel_rfl) (fun _ _ _ h => h) (Or.inl ⟨by rfl, ?_⟩) hHeld ?_ ?_
       rotate_left
       · rintro w' ⟨s0, s1, s2, s3⟩
         go_simp; with_reducible rfl
       rotate_left
       · simp only [Act.put, List.setIfInBounds_toArray, List.set_cons_zero, List.set_cons_succ, i64_w, i32_w]
         rfl
       refine one_ (i := 2) (N := some 46) #[T,T,T,T,T,F,F] rfl rfl (by kernel_rfl) (by decide) (fun K hK => ?_)
       refine goes_ Try.func44 (by kernel_rfl) rfl #[.slice A0 l0.length c0, .slice A1 l1.length c1] (by rfl) rfl rfl (by (try simp only [List.map_toArray, List.map_cons, List.map_nil]); first | done | rfl | (simp only [List.length_drop, List.length_take]; rfl)) ?_
       with_reducible refine (impl_spread.calls _ _ l0 _ _ l1 t290 _ ?side1 ?side2 ?side3 ?side4 A73.out).mono ?_
       (case side1 => repeat (first | exact (Kd.C_below HR0.out HB.out) | (with_reducible refine Kd.C_alloc ?_ _) | (with_reducible refine Kd.C_drewN ?_ _) | (with_reducible refine Kd.C_drew ?_)))
       (case side2 => exact HC0.out)
       (case side3 => repeat (first | exact (Kd.C_below HR1.out HB.out) | (with_reducible refine Kd.C_alloc ?_ _) | (with_reducible refine Kd.C_drewN ?_ _) | (with_reducible refine Kd.C_drew ?_)))
       (case side4 => exact HC1.out)
       rintro e w' ⟨rfl, ⟨nd, rfl⟩⟩
       refine ⟨_, rfl, ?_⟩
       refine hK.out _ _ ⟨(blk_cell BK283.out 0).trans rfl, (blk_cell BK283.out 1).trans rfl, (blk_cell BK283.out 2).trans rfl, (blk_cell BK283.out 3).trans rfl⟩ (fun hHeld => ?_)
       clear hK K
       refine norm_ (a' := ?_) ?_ ?_
       rotate_left
       · show Act.put _ (some 46) _ = _
         simp only [Act.put, List.setIfInBounds_toArray, List.set_cons_zero, List.set_cons_succ, i64_w, i32_w]
         rfl
       refine pK 5 (some 49) #[T,T,T,T,T,T,F] rfl rfl ?_
       refine pK 6 (some 43) #[T,T,T,T,T,T,T] rfl rfl ?_
       refine done_ (by kernel_rfl) ?_
       try go_wp2
       go_ret
       exact ⟨by first | rfl | (simp [errW_none, errW_some] <;> rfl) | (simp [*, errW_none, errW_some] <;> first | rfl | (simp [wrap64]; done)), nH1 HB.out GE283.out⟩
     · rw [if_neg c74] at H
       have c74b0 : decide (a2_0 < t290) = false := decide_eq_false c74
       clear c74
       replace H := Option.bind_eq_some_iff.mp H
       obtain ⟨t291, A760, H⟩ := H
       replace H : (if t291 > a2_1 then (some 4) else ((impl_stretched.f k1 l0 l1 a2_2).bind fun t292 => (if t292 > a2_3 then (some 5) else (some 0)))) = some r := H
       have A76 := Aside0.mk A760
       clear A760
       by_cases c77 : t291 > a2_1
       · rw [if_pos c77] at H
         have c77b0 : decide (a2_1 < t291) = true := decide_eq_true c77
         clear c77; obtain rfl := Option.some.inj H
         try go_wp2
         have n0_ := Aside0.mk (blk_drew BK283.out)
         have n1_ := Aside0.mk (below_drew1 HB.out)
         clear BK283; clear HB; have BK283 := n0_; have HB := n1_; clear n0_ n1_
         refine start_ (n := 7) (S := fun w' => w'.cell? ⟨gb283, 0, none⟩ = some (.int .i64 a2_0) ∧ w'.cell? ⟨gb283, 1, none⟩ = some (.int .i64 a2_1) ∧ w'.cell? ⟨gb283, 2, none⟩ = some (.int .i64 a2_2) ∧ w'.cell? ⟨gb283, 3, none⟩ = some (.int .i64 a2_3)) (ds := []) #[F,F,F,F,F,F,F] (by kernel_rfl) rfl rfl ⟨(blk_cell BK283.out 0).trans rfl, (blk_cell BK283.out 1).trans rfl, (blk_cell BK283.out 2).trans rfl, (blk_cell BK283.out 3).trans rfl⟩ (fun hHeld => ?_)
         generalize wr.drew = w78 at BK283 HB hHeld ⊢
         refine pK 0 (some 44) #[T,F,F,F,F,F,F] rfl rfl ?_
         refine pK 1 (some 45) #[T,T,F,F,F,F,F] rfl rfl ?_
         refine pK 3 (some 47) #[T,T,F,T,F,F,F] rfl rfl ?_
         refine take_ (i := 4) (N := some 48) (v := ?_) (a' := ?_) #[T,T,F,T,T,F,F] rfl rfl (by kernel_rfl) (fun _ _ _ h => h) (Or.inl ⟨by rfl, ?_⟩) hHeld ?_ ?_
         rotate_left
         · rintro w' ⟨s0, s1, s2, s3⟩
           go_simp; with_reducible rfl
         rotate_left
         · simp only [Act.put, List.setIfInBounds_toArray, List.set_cons_zero, List.set_cons_succ, i64_w, i32_w]
           rfl
         refine one_ (i := 2) (N := some 46) #[T,T,T,T,T,F,F] rfl rfl (by kernel_rfl) (by decide) (fun K hK => ?_)
         refine goes_ Try.func44 (by kernel_rfl) rfl #[.slice A0 l0.length c0, .slice A1 l1.length c1] (by rfl) rfl rfl (by (try simp only [List.map_toArray, List.map_cons, List.map_nil]); first | done | rfl | (simp only [List.length_drop, List.length_take]; rfl)) ?_
         with_reducible refine (impl_spread.calls _ _ l0 _ _ l1 t290 _ ?side1 ?side2 ?side3 ?side4 A73.out).mono ?_
         (case side1 => repeat (first | exact (Kd.C_below HR0.out HB.out) | (with_reducible refine Kd.C_alloc ?_ _) | (with_reducible refine Kd.C_drewN ?_ _) | (with_reducible refine Kd.C_drew ?_)))
         (case side2 => exact HC0.out)
         (case side3 => repeat (first | exact (Kd.C_below HR1.out HB.out) | (with_reducible refine Kd.C_alloc ?_ _) | (with_reducible refine Kd.C_drewN ?_ _) | (with_reducible refine Kd.C_drew ?_)))
         (case side4 => exact HC1.out)
         rintro e w' ⟨rfl, ⟨nd, rfl⟩⟩
         refine ⟨_, rfl, ?_⟩
         refine hK.out _ _ ⟨(blk_cell BK283.out 0).trans rfl, (blk_cell BK283.out 1).trans rfl, (blk_cell BK283.out 2).trans rfl, (blk_cell BK283.out 3).trans rfl⟩ (fun hHeld => ?_)
         clear hK K
         refine norm_ (a' := ?_) ?_ ?_
         rotate_left
         · show Act.put _ (some 46) _ = _
           simp only [Act.put, List.setIfInBounds_toArray, List.set_cons_zero, List.set_cons_succ, i64_w, i32_w]
           rfl
         refine pK 5 (some 49) #[T,T,T,T,T,T,F] rfl rfl ?_
         refine pK 6 (some 43) #[T,T,T,T,T,T,T] rfl rfl ?_
         refine done_ (by kernel_rfl) ?_
         try go_wp2
         (try (rw [drewN_self w78]; generalize hq_ : World.drewN w78 _ = w78; have n0_ : Aside0 (w78.heap[gb283]? = some (.cells #[.int .i64 a2_0, .int .i64 a2_1, .int .i64 a2_2, .int .i64 a2_3] 25 (0, 0))) := ⟨by rw [← hq_]; exact (nB BK283.out)⟩; have n1_ : Aside0 (Below w.heap.size w w78) := ⟨by rw [← hq_]; exact (nH1 HB.out GE283.out)⟩; clear BK283 HB hq_; have BK283 := n0_; have HB := n1_; clear n0_ n1_))
         have n0_ := Aside0.mk (blk_drew BK283.out)
         have n1_ := Aside0.mk (below_drew1 HB.out)
         clear BK283; clear HB; have BK283 := n0_; have HB := n1_; clear n0_ n1_
         refine start_ (n := 7) (S := fun w' => w'.cell? ⟨gb283, 0, none⟩ = some (.int .i64 a2_0) ∧ w'.cell? ⟨gb283, 1, none⟩ = some (.int .i64 a2_1) ∧ w'.cell? ⟨gb283, 2, none⟩ = some (.int .i64 a2_2) ∧ w'.cell? ⟨gb283, 3, none⟩ = some (.int .i64 a2_3)) (ds := []) #[F,F,F,F,F,F,F] (by kernel_rfl) rfl rfl ⟨(blk_cell BK283.out 0).trans rfl, (blk_cell BK283.out 1).trans rfl, (blk_cell BK283.out 2).trans rfl, (blk_cell BK283.out 3).trans rfl⟩ (fun hHeld => ?_)
         generalize w78.drew = w79 at BK283 HB hHeld ⊢
         refine pK 0 (some 51) #[T,F,F,F,F,F,F] rfl rfl ?_
         refine pK 1 (some 52) #[T,T,F,F,F,F,F] rfl rfl ?_
         refine pK 3 (some 54) #[T,T,F,T,F,F,F] rfl rfl ?_
         refine take_ (i := 4) (N := some 55) (v := ?_) (a' := ?_) #[T,T,F,T,T,F,F] rfl rfl (by kernel_rfl) (fun _ _ _ h => h) (Or.inl ⟨by rfl, ?_⟩) hHeld ?_ ?_
         rotate_left
         · rintro w' ⟨s0, s1, s2, s3⟩
           go_simp; with_reducible rfl
         rotate_left
         · simp only [Act.put, List.setIfInBounds_toArray, List.set_cons_zero, List.set_cons_succ, i64_w, i32_w]
           rfl
         refine one_ (i := 2) (N := some 53) #[T,T,T,T,T,F,F] rfl rfl (by kernel_rfl) (by decide) (fun K hK => ?_)
         refine goes_ Try.func37 (by kernel_rfl) rfl #[.slice A0 l0.length c0, .slice A1 l1.length c1] (by rfl) rfl rfl (by (try simp only [List.map_toArray, List.map_cons, List.map_nil]); first | done | rfl | (simp only [List.length_drop, List.length_take]; rfl)) ?_
         with_reducible refine (impl_driven.calls k1 _ _ l0 _ _ l1 t291 _ ?side1 ?side2 ?side3 ?side4 A76.out).mono ?_
         (case side1 => repeat (first | exact (Kd.C_below HR0.out HB.out) | (with_reducible refine Kd.C_alloc ?_ _) | (with_reducible refine Kd.C_drewN ?_ _) | (with_reducible refine Kd.C_drew ?_)))
         (case side2 => exact HC0.out)
         (case side3 => repeat (first | exact (Kd.C_below HR1.out HB.out) | (with_reducible refine Kd.C_alloc ?_ _) | (with_reducible refine Kd.C_drewN ?_ _) | (with_reducible refine Kd.C_drew ?_)))
         (case side4 => exact HC1.out)
         rintro e w80 ⟨rfl, hb⟩
         refine ⟨_, rfl, ?_⟩
         have n0_ := Aside0.mk (blk_below (g := gb283) (o := .cells #[.int .i64 a2_0, .int .i64 a2_1, .int .i64 a2_2, .int .i64 a2_3] 25 (0, 0)) (nB BK283.out) hb)
         have n1_ := Aside0.mk (below_step (nH1 HB.out GE283.out) hb)
         clear BK283; clear HB; have BK283 := n0_; have HB := n1_; clear n0_ n1_; (try clear hb); (try clear hb2); (try clear hk); (try clear hi)
         refine hK.out _ _ ⟨(blk_cell BK283.out 0).trans rfl, (blk_cell BK283.out 1).trans rfl, (blk_cell BK283.out 2).trans rfl, (blk_cell BK283.out 3).trans rfl⟩ (fun hHeld => ?_)
         clear hK K
         refine norm_ (a' := ?_) ?_ ?_
         rotate_left
         · show Act.put _ (some 53) _ = _
           simp only [Act.put, List.setIfInBounds_toArray, List.set_cons_zero, List.set_cons_succ, i64_w, i32_w]
           rfl
         refine pK 5 (some 56) #[T,T,T,T,T,T,F] rfl rfl ?_
         refine pK 6 (some 50) #[T,T,T,T,T,T,T] rfl rfl ?_
         refine done_ (by kernel_rfl) ?_
         try go_wp2
         go_ret
         exact ⟨by first | rfl | (simp [errW_none, errW_some] <;> rfl) | (simp [*, errW_none, errW_some] <;> first | rfl | (simp [wrap64]; done)), nH1 HB.out GE283.out⟩
       · rw [if_neg c77] at H
         have c77b0 : decide (a2_1 < t291) = false := decide_eq_false c77
         clear c77
         replace H := Option.bind_eq_some_iff.mp H
         obtain ⟨t292, A810, H⟩ := H
         replace H : (if t292 > a2_3 then (some 5) else (some 0)) = some r := H
         have A81 := Aside0.mk A810
         clear A810
         by_cases c82 : t292 > a2_3
         · rw [if_pos c82] at H
           have c82b0 : decide (a2_3 < t292) = true := decide_eq_true c82
           clear c82; obtain rfl := Option.some.inj H
           try go_wp2
           have n0_ := Aside0.mk (blk_drew BK283.out)
           have n1_ := Aside0.mk (below_drew1 HB.out)
           clear BK283; clear HB; have BK283 := n0_; have HB := n1_; clear n0_ n1_
           refine start_ (n := 7) (S := fun w' => w'.cell? ⟨gb283, 0, none⟩ = some (.int .i64 a2_0) ∧ w'.cell? ⟨gb283, 1, none⟩ = some (.int .i64 a2_1) ∧ w'.cell? ⟨gb283, 2, none⟩ = some (.int .i64 a2_2) ∧ w'.cell? ⟨gb283, 3, none⟩ = some (.int .i64 a2_3)) (ds := []) #[F,F,F,F,F,F,F] (by kernel_rfl) rfl rfl ⟨(blk_cell BK283.out 0).trans rfl, (blk_cell BK283.out 1).trans rfl, (blk_cell BK283.out 2).trans rfl, (blk_cell BK283.out 3).trans rfl⟩ (fun hHeld => ?_)
           generalize wr.drew = w83 at BK283 HB hHeld ⊢
           refine pK 0 (some 44) #[T,F,F,F,F,F,F] rfl rfl ?_
           refine pK 1 (some 45) #[T,T,F,F,F,F,F] rfl rfl ?_
           refine pK 3 (some 47) #[T,T,F,T,F,F,F] rfl rfl ?_
           refine take_ (i := 4) (N := some 48) (v := ?_) (a' := ?_) #[T,T,F,T,T,F,F] rfl rfl (by kernel_rfl) (fun _ _ _ h => h) (Or.inl ⟨by rfl, ?_⟩) hHeld ?_ ?_
           rotate_left
           · rintro w' ⟨s0, s1, s2, s3⟩
             go_simp; with_reducible rfl
           rotate_left
           · simp only [Act.put, List.setIfInBounds_toArray, List.set_cons_zero, List.set_cons_succ, i64_w, i32_w]
             rfl
           refine one_ (i := 2) (N := some 46) #[T,T,T,T,T,F,F] rfl rfl (by kernel_rfl) (by decide) (fun K hK => ?_)
           refine goes_ Try.func44 (by kernel_rfl) rfl #[.slice A0 l0.length c0, .slice A1 l1.length c1] (by rfl) rfl rfl (by (try simp only [List.map_toArray, List.map_cons, List.map_nil]); first | done | rfl | (simp only [List.length_drop, List.length_take]; rfl)) ?_
           with_reducible refine (impl_spread.calls _ _ l0 _ _ l1 t290 _ ?side1 ?side2 ?side3 ?side4 A73.out).mono ?_
           (case side1 => repeat (first | exact (Kd.C_below HR0.out HB.out) | (with_reducible refine Kd.C_alloc ?_ _) | (with_reducible refine Kd.C_drewN ?_ _) | (with_reducible refine Kd.C_drew ?_)))
           (case side2 => exact HC0.out)
           (case side3 => repeat (first | exact (Kd.C_below HR1.out HB.out) | (with_reducible refine Kd.C_alloc ?_ _) | (with_reducible refine Kd.C_drewN ?_ _) | (with_reducible refine Kd.C_drew ?_)))
           (case side4 => exact HC1.out)
           rintro e w' ⟨rfl, ⟨nd, rfl⟩⟩
           refine ⟨_, rfl, ?_⟩
           refine hK.out _ _ ⟨(blk_cell BK283.out 0).trans rfl, (blk_cell BK283.out 1).trans rfl, (blk_cell BK283.out 2).trans rfl, (blk_cell BK283.out 3).trans rfl⟩ (fun hHeld => ?_)
           clear hK K
           refine norm_ (a' := ?_) ?_ ?_
           rotate_left
           · show Act.put _ (some 46) _ = _
             simp only [Act.put, List.setIfInBounds_toArray, List.set_cons_zero, List.set_cons_succ, i64_w, i32_w]
             rfl
           refine pK 5 (some 49) #[T,T,T,T,T,T,F] rfl rfl ?_
           refine pK 6 (some 43) #[T,T,T,T,T,T,T] rfl rfl ?_
           refine done_ (by kernel_rfl) ?_
           try go_wp2
           (try (rw [drewN_self w83]; generalize hq_ : World.drewN w83 _ = w83; have n0_ : Aside0 (w83.heap[gb283]? = some (.cells #[.int .i64 a2_0, .int .i64 a2_1, .int .i64 a2_2, .int .i64 a2_3] 25 (0, 0))) := ⟨by rw [← hq_]; exact (nB BK283.out)⟩; have n1_ : Aside0 (Below w.heap.size w w83) := ⟨by rw [← hq_]; exact (nH1 HB.out GE283.out)⟩; clear BK283 HB hq_; have BK283 := n0_; have HB := n1_; clear n0_ n1_))
           have n0_ := Aside0.mk (blk_drew BK283.out)
           have n1_ := Aside0.mk (below_drew1 HB.out)
           clear BK283; clear HB; have BK283 := n0_; have HB := n1_; clear n0_ n1_
           refine start_ (n := 7) (S := fun w' => w'.cell? ⟨gb283, 0, none⟩ = some (.int .i64 a2_0) ∧ w'.cell? ⟨gb283, 1, none⟩ = some (.int .i64 a2_1) ∧ w'.cell? ⟨gb283, 2, none⟩ = some (.int .i64 a2_2) ∧ w'.cell? ⟨gb283, 3, none⟩ = some (.int .i64 a2_3)) (ds := []) #[F,F,F,F,F,F,F] (by kernel_rfl) rfl rfl ⟨(blk_cell BK283.out 0).trans rfl, (blk_cell BK283.out 1).trans rfl, (blk_cell BK283.out 2).trans rfl, (blk_cell BK283.out 3).trans rfl⟩ (fun hHeld => ?_)
           generalize w83.drew = w84 at BK283 HB hHeld ⊢
           refine pK 0 (some 51) #[T,F,F,F,F,F,F] rfl rfl ?_
           refine pK 1 (some 52) #[T,T,F,F,F,F,F] rfl rfl ?_
           refine pK 3 (some 54) #[T,T,F,T,F,F,F] rfl rfl ?_
           refine take_ (i := 4) (N := some 55) (v := ?_) (a' := ?_) #[T,T,F,T,T,F,F] rfl rfl (by kernel_rfl) (fun _ _ _ h => h) (Or.inl ⟨by rfl, ?_⟩) hHeld ?_ ?_
           rotate_left
           · rintro w' ⟨s0, s1, s2, s3⟩
             go_simp; with_reducible rfl
           rotate_left
           · simp only [Act.put, List.setIfInBounds_toArray, List.set_cons_zero, List.set_cons_succ, i64_w, i32_w]
             rfl
           refine one_ (i := 2) (N := some 53) #[T,T,T,T,T,F,F] rfl rfl (by kernel_rfl) (by decide) (fun K hK => ?_)
           refine goes_ Try.func37 (by kernel_rfl) rfl #[.slice A0 l0.length c0, .slice A1 l1.length c1] (by rfl) rfl rfl (by (try simp only [List.map_toArray, List.map_cons, List.map_nil]); first | done | rfl | (simp only [List.length_drop, List.length_take]; rfl)) ?_
           with_reducible refine (impl_driven.calls k1 _ _ l0 _ _ l1 t291 _ ?side1 ?side2 ?side3 ?side4 A76.out).mono ?_
           (case side1 => repeat (first | exact (Kd.C_below HR0.out HB.out) | (with_reducible refine Kd.C_alloc ?_ _) | (with_reducible refine Kd.C_drewN ?_ _) | (with_reducible refine Kd.C_drew ?_)))
           (case side2 => exact HC0.out)
           (case side3 => repeat (first | exact (Kd.C_below HR1.out HB.out) | (with_reducible refine Kd.C_alloc ?_ _) | (with_reducible refine Kd.C_drewN ?_ _) | (with_reducible refine Kd.C_drew ?_)))
           (case side4 => exact HC1.out)
           rintro e w85 ⟨rfl, hb⟩
           refine ⟨_, rfl, ?_⟩
           have n0_ := Aside0.mk (blk_below (g := gb283) (o := .cells #[.int .i64 a2_0, .int .i64 a2_1, .int .i64 a2_2, .int .i64 a2_3] 25 (0, 0)) (nB BK283.out) hb)
           have n1_ := Aside0.mk (below_step (nH1 HB.out GE283.out) hb)
           clear BK283; clear HB; have BK283 := n0_; have HB := n1_; clear n0_ n1_; (try clear hb); (try clear hb2); (try clear hk); (try clear hi)
           refine hK.out _ _ ⟨(blk_cell BK283.out 0).trans rfl, (blk_cell BK283.out 1).trans rfl, (blk_cell BK283.out 2).trans rfl, (blk_cell BK283.out 3).trans rfl⟩ (fun hHeld => ?_)
           clear hK K
           refine norm_ (a' := ?_) ?_ ?_
           rotate_left
           · show Act.put _ (some 53) _ = _
             simp only [Act.put, List.setIfInBounds_toArray, List.set_cons_zero, List.set_cons_succ, i64_w, i32_w]
             rfl
           refine pK 5 (some 56) #[T,T,T,T,T,T,F] rfl rfl ?_
           refine pK 6 (some 50) #[T,T,T,T,T,T,T] rfl rfl ?_
           refine done_ (by kernel_rfl) ?_
           try go_wp2
           have n0_ := Aside0.mk (blk_drew BK283.out)
           have n1_ := Aside0.mk (below_drew1 HB.out)
           clear BK283; clear HB; have BK283 := n0_; have HB := n1_; clear n0_ n1_
           refine start_ (n := 9) (S := fun w' => w'.cell? ⟨gb283, 0, none⟩ = some (.int .i64 a2_0) ∧ w'.cell? ⟨gb283, 1, none⟩ = some (.int .i64 a2_1) ∧ w'.cell? ⟨gb283, 2, none⟩ = some (.int .i64 a2_2) ∧ w'.cell? ⟨gb283, 3, none⟩ = some (.int .i64 a2_3)) (ds := []) #[F,F,F,F,F,F,F,F,F] (by kernel_rfl) rfl rfl ⟨(blk_cell BK283.out 0).trans rfl, (blk_cell BK283.out 1).trans rfl, (blk_cell BK283.out 2).trans rfl, (blk_cell BK283.out 3).trans rfl⟩ (fun hHeld => ?_); refine with_tabW impl_dutyCode.tab11 impl_dutyCode.bits11 (fun HT_ HW_ => ?_)
           generalize w85.drew = w86 at BK283 HB hHeld ⊢
           refine pU 0 (some 58) #[T,F,F,F,F,F,F,F,F] rfl rfl HT_.out ?_
           refine pU 1 (some 59) #[T,T,F,F,F,F,F,F,F] rfl rfl HT_.out ?_
           refine pU 2 (some 60) #[T,T,T,F,F,F,F,F,F] rfl rfl HT_.out ?_
           refine pU 5 (some 63) #[T,T,T,F,F,T,F,F,F] rfl rfl HT_.out ?_
           refine tU4 3 (some 61) #[T,T,T,T,F,T,F,F,F] rfl rfl HT_.out HW_.out hHeld ?_
           refine tU4 6 (some 64) #[T,T,T,T,F,T,T,F,F] rfl rfl HT_.out HW_.out hHeld ?_
           refine one_ (i := 4) (N := some 62) #[T,T,T,T,T,T,T,F,F] rfl rfl (one_of HT_.out (by kernel_rfl)) (by decide) (fun K hK => ?_)
           refine goes_ Try.func39 (by kernel_rfl) rfl #[.slice A0 l0.length c0, .slice A1 l1.length c1, .int .i64 a2_2] (by rfl) rfl rfl (by (try simp only [List.map_toArray, List.map_cons, List.map_nil]); first | done | rfl | (simp only [List.length_drop, List.length_take]; rfl)) ?_
           with_reducible refine (impl_stretched.calls k1 _ _ l0 _ _ l1 a2_2 t292 _ ?side1 ?side2 ?side3 ?side4 A81.out).mono ?_
           (case side1 => repeat (first | exact (Kd.C_below HR0.out HB.out) | (with_reducible refine Kd.C_alloc ?_ _) | (with_reducible refine Kd.C_drewN ?_ _) | (with_reducible refine Kd.C_drew ?_)))
           (case side2 => exact HC0.out)
           (case side3 => repeat (first | exact (Kd.C_below HR1.out HB.out) | (with_reducible refine Kd.C_alloc ?_ _) | (with_reducible refine Kd.C_drewN ?_ _) | (with_reducible refine Kd.C_drew ?_)))
           (case side4 => exact HC1.out)
           rintro e w87 ⟨rfl, hb⟩
           refine ⟨_, rfl, ?_⟩
           have n0_ := Aside0.mk (blk_below (g := gb283) (o := .cells #[.int .i64 a2_0, .int .i64 a2_1, .int .i64 a2_2, .int .i64 a2_3] 25 (0, 0)) (nB BK283.out) hb)
           have n1_ := Aside0.mk (below_step (nH1 HB.out GE283.out) hb)
           clear BK283; clear HB; have BK283 := n0_; have HB := n1_; clear n0_ n1_; (try clear hb); (try clear hb2); (try clear hk); (try clear hi)
           refine hK.out _ _ ⟨(blk_cell BK283.out 0).trans rfl, (blk_cell BK283.out 1).trans rfl, (blk_cell BK283.out 2).trans rfl, (blk_cell BK283.out 3).trans rfl⟩ (fun hHeld => ?_)
           clear hK K
           refine norm_ (a' := ?_) ?_ ?_
           rotate_left
           · show Act.put _ (some 62) _ = _
             simp only [Act.put, List.setIfInBounds_toArray, List.set_cons_zero, List.set_cons_succ, i64_w, i32_w]
             rfl
           refine pU 7 (some 65) #[T,T,T,T,T,T,T,T,F] rfl rfl HT_.out ?_
           refine pU 8 (some 57) #[T,T,T,T,T,T,T,T,T] rfl rfl HT_.out ?_
           refine done_ (done_of HT_.out (by kernel_rfl)) ?_
           try go_wp2
           go_ret
           exact ⟨by first | rfl | (simp [errW_none, errW_some] <;> rfl) | (simp [*, errW_none, errW_some] <;> first | rfl | (simp [wrap64]; done)), nH1 HB.out GE283.out⟩
         · rw [if_neg c82] at H
           have c82b0 : decide (a2_3 < t292) = false := decide_eq_false c82
           clear c82; obtain rfl := Option.some.inj H
           try go_wp2
           have n0_ := Aside0.mk (blk_drew BK283.out)
           have n1_ := Aside0.mk (below_drew1 HB.out)
           clear BK283; clear HB; have BK283 := n0_; have HB := n1_; clear n0_ n1_
           refine start_ (n := 7) (S := fun w' => w'.cell? ⟨gb283, 0, none⟩ = some (.int .i64 a2_0) ∧ w'.cell? ⟨gb283, 1, none⟩ = some (.int .i64 a2_1) ∧ w'.cell? ⟨gb283, 2, none⟩ = some (.int .i64 a2_2) ∧ w'.cell? ⟨gb283, 3, none⟩ = some (.int .i64 a2_3)) (ds := []) #[F,F,F,F,F,F,F] (by kernel_rfl) rfl rfl ⟨(blk_cell BK283.out 0).trans rfl, (blk_cell BK283.out 1).trans rfl, (blk_cell BK283.out 2).trans rfl, (blk_cell BK283.out 3).trans rfl⟩ (fun hHeld => ?_)
           generalize wr.drew = w88 at BK283 HB hHeld ⊢
           refine pK 0 (some 44) #[T,F,F,F,F,F,F] rfl rfl ?_
           refine pK 1 (some 45) #[T,T,F,F,F,F,F] rfl rfl ?_
           refine pK 3 (some 47) #[T,T,F,T,F,F,F] rfl rfl ?_
           refine take_ (i := 4) (N := some 48) (v := ?_) (a' := ?_) #[T,T,F,T,T,F,F] rfl rfl (by kernel_rfl) (fun _ _ _ h => h) (Or.inl ⟨by rfl, ?_⟩) hHeld ?_ ?_
           rotate_left
           · rintro w' ⟨s0, s1, s2, s3⟩
             go_simp; with_reducible rfl
           rotate_left
           · simp only [Act.put, List.setIfInBounds_toArray, List.set_cons_zero, List.set_cons_succ, i64_w, i32_w]
             rfl
           refine one_ (i := 2) (N := some 46) #[T,T,T,T,T,F,F] rfl rfl (by kernel_rfl) (by decide) (fun K hK => ?_)
           refine goes_ Try.func44 (by kernel_rfl) rfl #[.slice A0 l0.length c0, .slice A1 l1.length c1] (by rfl) rfl rfl (by (try simp only [List.map_toArray, List.map_cons, List.map_nil]); first | done | rfl | (simp only [List.length_drop, List.length_take]; rfl)) ?_
           with_reducible refine (impl_spread.calls _ _ l0 _ _ l1 t290 _ ?side1 ?side2 ?side3 ?side4 A73.out).mono ?_
           (case side1 => repeat (first | exact (Kd.C_below HR0.out HB.out) | (with_reducible refine Kd.C_alloc ?_ _) | (with_reducible refine Kd.C_drewN ?_ _) | (with_reducible refine Kd.C_drew ?_)))
           (case side2 => exact HC0.out)
           (case side3 => repeat (first | exact (Kd.C_below HR1.out HB.out) | (with_reducible refine Kd.C_alloc ?_ _) | (with_reducible refine Kd.C_drewN ?_ _) | (with_reducible refine Kd.C_drew ?_)))
           (case side4 => exact HC1.out)
           rintro e w' ⟨rfl, ⟨nd, rfl⟩⟩
           refine ⟨_, rfl, ?_⟩
           refine hK.out _ _ ⟨(blk_cell BK283.out 0).trans rfl, (blk_cell BK283.out 1).trans rfl, (blk_cell BK283.out 2).trans rfl, (blk_cell BK283.out 3).trans rfl⟩ (fun hHeld => ?_)
           clear hK K
           refine norm_ (a' := ?_) ?_ ?_
           rotate_left
           · show Act.put _ (some 46) _ = _
             simp only [Act.put, List.setIfInBounds_toArray, List.set_cons_zero, List.set_cons_succ, i64_w, i32_w]
             rfl
           refine pK 5 (some 49) #[T,T,T,T,T,T,F] rfl rfl ?_
           refine pK 6 (some 43) #[T,T,T,T,T,T,T] rfl rfl ?_
           refine done_ (by kernel_rfl) ?_
           try go_wp2
           (try (rw [drewN_self w88]; generalize hq_ : World.drewN w88 _ = w88; have n0_ : Aside0 (w88.heap[gb283]? = some (.cells #[.int .i64 a2_0, .int .i64 a2_1, .int .i64 a2_2, .int .i64 a2_3] 25 (0, 0))) := ⟨by rw [← hq_]; exact (nB BK283.out)⟩; have n1_ : Aside0 (Below w.heap.size w w88) := ⟨by rw [← hq_]; exact (nH1 HB.out GE283.out)⟩; clear BK283 HB hq_; have BK283 := n0_; have HB := n1_; clear n0_ n1_))
           have n0_ := Aside0.mk (blk_drew BK283.out)
           have n1_ := Aside0.mk (below_drew1 HB.out)
           clear BK283; clear HB; have BK283 := n0_; have HB := n1_; clear n0_ n1_
           refine start_ (n := 7) (S := fun w' => w'.cell? ⟨gb283, 0, none⟩ = some (.int .i64 a2_0) ∧ w'.cell? ⟨gb283, 1, none⟩ = some (.int .i64 a2_1) ∧ w'.cell? ⟨gb283, 2, none⟩ = some (.int .i64 a2_2) ∧ w'.cell? ⟨gb283, 3, none⟩ = some (.int .i64 a2_3)) (ds := []) #[F,F,F,F,F,F,F] (by kernel_rfl) rfl rfl ⟨(blk_cell BK283.out 0).trans rfl, (blk_cell BK283.out 1).trans rfl, (blk_cell BK283.out 2).trans rfl, (blk_cell BK283.out 3).trans rfl⟩ (fun hHeld => ?_)
           generalize w88.drew = w89 at BK283 HB hHeld ⊢
           refine pK 0 (some 51) #[T,F,F,F,F,F,F] rfl rfl ?_
           refine pK 1 (some 52) #[T,T,F,F,F,F,F] rfl rfl ?_
           refine pK 3 (some 54) #[T,T,F,T,F,F,F] rfl rfl ?_
           refine take_ (i := 4) (N := some 55) (v := ?_) (a' := ?_) #[T,T,F,T,T,F,F] rfl rfl (by kernel_rfl) (fun _ _ _ h => h) (Or.inl ⟨by rfl, ?_⟩) hHeld ?_ ?_
           rotate_left
           · rintro w' ⟨s0, s1, s2, s3⟩
             go_simp; with_reducible rfl
           rotate_left
           · simp only [Act.put, List.setIfInBounds_toArray, List.set_cons_zero, List.set_cons_succ, i64_w, i32_w]
             rfl
           refine one_ (i := 2) (N := some 53) #[T,T,T,T,T,F,F] rfl rfl (by kernel_rfl) (by decide) (fun K hK => ?_)
           refine goes_ Try.func37 (by kernel_rfl) rfl #[.slice A0 l0.length c0, .slice A1 l1.length c1] (by rfl) rfl rfl (by (try simp only [List.map_toArray, List.map_cons, List.map_nil]); first | done | rfl | (simp only [List.length_drop, List.length_take]; rfl)) ?_
           with_reducible refine (impl_driven.calls k1 _ _ l0 _ _ l1 t291 _ ?side1 ?side2 ?side3 ?side4 A76.out).mono ?_
           (case side1 => repeat (first | exact (Kd.C_below HR0.out HB.out) | (with_reducible refine Kd.C_alloc ?_ _) | (with_reducible refine Kd.C_drewN ?_ _) | (with_reducible refine Kd.C_drew ?_)))
           (case side2 => exact HC0.out)
           (case side3 => repeat (first | exact (Kd.C_below HR1.out HB.out) | (with_reducible refine Kd.C_alloc ?_ _) | (with_reducible refine Kd.C_drewN ?_ _) | (with_reducible refine Kd.C_drew ?_)))
           (case side4 => exact HC1.out)
           rintro e w90 ⟨rfl, hb⟩
           refine ⟨_, rfl, ?_⟩
           have n0_ := Aside0.mk (blk_below (g := gb283) (o := .cells #[.int .i64 a2_0, .int .i64 a2_1, .int .i64 a2_2, .int .i64 a2_3] 25 (0, 0)) (nB BK283.out) hb)
           have n1_ := Aside0.mk (below_step (nH1 HB.out GE283.out) hb)
           clear BK283; clear HB; have BK283 := n0_; have HB := n1_; clear n0_ n1_; (try clear hb); (try clear hb2); (try clear hk); (try clear hi)
           refine hK.out _ _ ⟨(blk_cell BK283.out 0).trans rfl, (blk_cell BK283.out 1).trans rfl, (blk_cell BK283.out 2).trans rfl, (blk_cell BK283.out 3).trans rfl⟩ (fun hHeld => ?_)
           clear hK K
           refine norm_ (a' := ?_) ?_ ?_
           rotate_left
           · show Act.put _ (some 53) _ = _
             simp only [Act.put, List.setIfInBounds_toArray, List.set_cons_zero, List.set_cons_succ, i64_w, i32_w]
             rfl
           refine pK 5 (some 56) #[T,T,T,T,T,T,F] rfl rfl ?_
           refine pK 6 (some 50) #[T,T,T,T,T,T,T] rfl rfl ?_
           refine done_ (by kernel_rfl) ?_
           try go_wp2
           have n0_ := Aside0.mk (blk_drew BK283.out)
           have n1_ := Aside0.mk (below_drew1 HB.out)
           clear BK283; clear HB; have BK283 := n0_; have HB := n1_; clear n0_ n1_
           refine start_ (n := 9) (S := fun w' => w'.cell? ⟨gb283, 0, none⟩ = some (.int .i64 a2_0) ∧ w'.cell? ⟨gb283, 1, none⟩ = some (.int .i64 a2_1) ∧ w'.cell? ⟨gb283, 2, none⟩ = some (.int .i64 a2_2) ∧ w'.cell? ⟨gb283, 3, none⟩ = some (.int .i64 a2_3)) (ds := []) #[F,F,F,F,F,F,F,F,F] (by kernel_rfl) rfl rfl ⟨(blk_cell BK283.out 0).trans rfl, (blk_cell BK283.out 1).trans rfl, (blk_cell BK283.out 2).trans rfl, (blk_cell BK283.out 3).trans rfl⟩ (fun hHeld => ?_); refine with_tabW impl_dutyCode.tab11 impl_dutyCode.bits11 (fun HT_ HW_ => ?_)
           generalize w90.drew = w91 at BK283 HB hHeld ⊢
           refine pU 0 (some 58) #[T,F,F,F,F,F,F,F,F] rfl rfl HT_.out ?_
           refine pU 1 (some 59) #[T,T,F,F,F,F,F,F,F] rfl rfl HT_.out ?_
           refine pU 2 (some 60) #[T,T,T,F,F,F,F,F,F] rfl rfl HT_.out ?_
           refine pU 5 (some 63) #[T,T,T,F,F,T,F,F,F] rfl rfl HT_.out ?_
           refine tU4 3 (some 61) #[T,T,T,T,F,T,F,F,F] rfl rfl HT_.out HW_.out hHeld ?_
           refine tU4 6 (some 64) #[T,T,T,T,F,T,T,F,F] rfl rfl HT_.out HW_.out hHeld ?_
           refine one_ (i := 4) (N := some 62) #[T,T,T,T,T,T,T,F,F] rfl rfl (one_of HT_.out (by kernel_rfl)) (by decide) (fun K hK => ?_)
           refine goes_ Try.func39 (by kernel_rfl) rfl #[.slice A0 l0.length c0, .slice A1 l1.length c1, .int .i64 a2_2] (by rfl) rfl rfl (by (try simp only [List.map_toArray, List.map_cons, List.map_nil]); first | done | rfl | (simp only [List.length_drop, List.length_take]; rfl)) ?_
           with_reducible refine (impl_stretched.calls k1 _ _ l0 _ _ l1 a2_2 t292 _ ?side1 ?side2 ?side3 ?side4 A81.out).mono ?_
           (case side1 => repeat (first | exact (Kd.C_below HR0.out HB.out) | (with_reducible refine Kd.C_alloc ?_ _) | (with_reducible refine Kd.C_drewN ?_ _) | (with_reducible refine Kd.C_drew ?_)))
           (case side2 => exact HC0.out)
           (case side3 => repeat (first | exact (Kd.C_below HR1.out HB.out) | (with_reducible refine Kd.C_alloc ?_ _) | (with_reducible refine Kd.C_drewN ?_ _) | (with_reducible refine Kd.C_drew ?_)))
           (case side4 => exact HC1.out)
           rintro e w92 ⟨rfl, hb⟩
           refine ⟨_, rfl, ?_⟩
           have n0_ := Aside0.mk (blk_below (g := gb283) (o := .cells #[.int .i64 a2_0, .int .i64 a2_1, .int .i64 a2_2, .int .i64 a2_3] 25 (0, 0)) (nB BK283.out) hb)
           have n1_ := Aside0.mk (below_step (nH1 HB.out GE283.out) hb)
           clear BK283; clear HB; have BK283 := n0_; have HB := n1_; clear n0_ n1_; (try clear hb); (try clear hb2); (try clear hk); (try clear hi)
           refine hK.out _ _ ⟨(blk_cell BK283.out 0).trans rfl, (blk_cell BK283.out 1).trans rfl, (blk_cell BK283.out 2).trans rfl, (blk_cell BK283.out 3).trans rfl⟩ (fun hHeld => ?_)
           clear hK K
           refine norm_ (a' := ?_) ?_ ?_
           rotate_left
           · show Act.put _ (some 62) _ = _
             simp only [Act.put, List.setIfInBounds_toArray, List.set_cons_zero, List.set_cons_succ, i64_w, i32_w]
             rfl
           refine pU 7 (some 65) #[T,T,T,T,T,T,T,T,F] rfl rfl HT_.out ?_
           refine pU 8 (some 57) #[T,T,T,T,T,T,T,T,T] rfl rfl HT_.out ?_
           refine done_ (done_of HT_.out (by kernel_rfl)) ?_
           try go_wp2
           go_ret
           exact ⟨by first | rfl | (simp [errW_none, errW_some] <;> rfl) | (simp [*, errW_none, errW_some] <;> first | rfl | (simp [wrap64]; done)), nH1 HB.out GE283.out⟩
end Go.Proofs.Ytnamdbnnijfniaa.P
