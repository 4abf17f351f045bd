/- Contracts of functions, each with its plain Lean function. -/
import Derived.Test.YtdpjoblnjjkbfaaDoorNe
import Derived.Test.YtdpjoblnjjkbfaaDoorNb
import Derived.Test.YtdpjoblnjjkbfaaDoorS2
import Derived.Test.YtdpjoblnjjkbfaaDoorPx0
import Derived.Test.YtdpjoblnjjkbfaaDoorPx1
import Derived.Test.YtdpjoblnjjkbfaaDoorPx7
import Derived.Test.YtdpjoblnjjkbfaaDoorPx8
namespace Go.Proofs.YtdpjoblnjjkbfaaDoor.P
open Go.RowKit Go.Proofs.YtdpjoblnjjkbfaaDoorW.PrintWords Go.Proofs.YtdpjoblnjjkbfaaDoorW.PrintLast Go.Proofs.YtdpjoblnjjkbfaaDoorW.PrintMore
attribute [local go_sem] max2_int min2_int max_two min_two max_three min_three max_four min_four   -- for this text's walks alone
set_option linter.unusedVariables false
set_option linter.unusedSimpArgs false
/-! ### impl_JourneyText: function 10 -/
theorem impl_JourneyText.mono_l : ∀ k, (∀ y0 y1 y2 y3 y4, LeO (impl_JourneyText.l0 k y0 y1 y2 y3 y4) (impl_JourneyText.l0 (k + 1) y0 y1 y2 y3 y4)) ∧ (∀ y0 y1 y2 y3 y4 y5 y6 y7, LeO (impl_JourneyText.j1 k y0 y1 y2 y3 y4 y5 y6 y7) (impl_JourneyText.j1 (k + 1) y0 y1 y2 y3 y4 y5 y6 y7))
 | 0 => ⟨fun _ _ _ _ _ r h => by simp [impl_JourneyText.l0] at h, fun _ _ _ _ _ _ _ _ r h => by simp [impl_JourneyText.j1] at h⟩
 | k + 1 => by
  obtain ⟨ih0, ih1⟩ := impl_JourneyText.mono_l k
  refine ⟨?_, ?_⟩
  all_goals intros
  all_goals first | unfold impl_JourneyText.l0 | unfold impl_JourneyText.j1
  all_goals
   repeat' first
   | (with_reducible exact ih0 _ _ _ _ _)
   | (with_reducible exact ih1 _ _ _ _ _ _ _ _)
   | (with_reducible exact impl_LegsOk.mono _ _ _ _)
   | (with_reducible exact LeO.refl _)
   | (with_reducible exact LeO.none _)
   | (with_reducible refine LeO.ite ?_ ?_)
   | (with_reducible refine LeO.bind ?_ (fun _ => ?_))
   | exact ih0 _ _ _ _ _
   | exact ih1 _ _ _ _ _ _ _ _
   | exact impl_LegsOk.mono _ _ _ _
   | exact LeO.none _
   | refine LeO.ite ?_ ?_
   | refine LeO.bind ?_ (fun _ => ?_)
theorem impl_JourneyText.mono : ∀ a0 a1 a2 k, LeO (impl_JourneyText.f k a0 a1 a2) (impl_JourneyText.f (k + 1) a0 a1 a2) := by
 intro a0 a1 a2 k
 obtain ⟨ih0, ih1⟩ := impl_JourneyText.mono_l k
 unfold impl_JourneyText.f
 repeat' first
  | (with_reducible exact ih0 _ _ _ _ _)
  | (with_reducible exact ih1 _ _ _ _ _ _ _ _)
  | (with_reducible exact impl_LegsOk.mono _ _ _ _)
  | (with_reducible exact LeO.refl _)
  | (with_reducible exact LeO.none _)
  | (with_reducible refine LeO.ite ?_ ?_)
  | (with_reducible refine LeO.bind ?_ (fun _ => ?_))
  | exact ih0 _ _ _ _ _
  | exact ih1 _ _ _ _ _ _ _ _
  | exact impl_LegsOk.mono _ _ _ _
  | exact LeO.none _
  | refine LeO.ite ?_ ?_
  | refine LeO.bind ?_ (fun _ => ?_)
def impl_JourneyText.T9 : Bool × List (List Nat × List Nat) := (true, [([], []), ([], []), ([], []), ([2], [2]), ([1, 3], [1, 3]), ([4], [4]), ([5], [5]), ([6], [6]), ([], []), ([], []), ([8, 9], [8, 9]), ([10, 10], [10]), ([7, 11], [7, 11]), ([12], [12]), ([], []), ([], []), ([14, 15, 11], [14, 15]), ([16, 16], [16]), ([13, 17], [13, 17]), ([0, 18], [0, 18]), ([19, 17, 0, 1, 2, 3, 4, 5, 6, 7, 8, 9, 10, 11, 12, 13, 14, 15, 16, 17, 18, 19], [0, 19])])
def impl_JourneyText.B9 : List Nat := [0, 0, 0, 4, 14, 30, 62, 126, 0, 0, 768, 1792, 4094, 8190, 0, 0, 52992, 118528, 262142, 524287, 1048575]
theorem impl_JourneyText.tab9 : rtab .any (opsOf Tryd.f10 9) = impl_JourneyText.T9 := by kernel_rfl
theorem impl_JourneyText.bits9 : waitsOk impl_JourneyText.T9.2 impl_JourneyText.B9 = true := by kernel_rfl
set_option maxHeartbeats 8000000 in
set_option maxRecDepth 100000 in
theorem impl_JourneyText.calls (k : Nat) (A0 : Option Addr) (c0 : Nat) (l0 : List (S46)) (A1 : Option Addr) (c1 : Nat) (l1 : List (S48)) (a2 : Int) (r : ByteArray) (w : World) (hr0 : Kd.C k46 w A0 l0.length l0) (hc0 : l0.length ≤ c0) (hr1 : Kd.C k48 w A1 l1.length l1) (hc1 : l1.length ≤ c1) (hT : Tb w) (h : impl_JourneyText.f k l0 l1 a2 = some r) :
 Calls Tryd.prog 10 #[.slice A0 l0.length c0, .slice A1 l1.length c1, .int .i64 a2] w fun e w' => e = .returned (.string r) ∧ Below w.heap.size w w' := by
 have HTB := aM hT
 clear hT; have hu48 := Tryd.underlying48
 have HR0 := aM hr0
 have HC0 := aM hc0
 clear hr0 hc0
 have HR1 := aM hr1
 have HC1 := aM hc1
 clear hr1 hc1
 have HB := aM (Below.refl w.heap.size w)
 have H : ((impl_LegsOk.f k l0 l1 a2).bind fun t148 => (if t148 = true then (impl_JourneyText.l0 k l0 (⟨#[]⟩ : ByteArray) l1 (l1.length : Int) 0) else (some (⟨#[]⟩ : ByteArray)))) = some r := h
 clear h
 obtain ⟨t148, A40, H⟩ := Option.bind_eq_some_iff.mp H
 have A4 := aM A40
 clear A40
 by_cases c5 : t148 = true
 · subst c5
   rw [if_pos rfl] at H
   have H' := aM H
   clear H
   go_enter Tryd.func10, Tryd.ntmps10
   go_wp2_with (first | ((with_reducible refine gate_callee (f := 19) rfl ?_); refine goesL_ (some 13) rfl rfl Tryd.func19 (by kernel_rfl) rfl #[.slice A0 l0.length c0, .slice A1 l1.length c1, .int .i64 a2] rfl (by (try simp only [List.map_toArray, List.map_cons, List.map_nil]); first | done | rfl | (simp only [List.length_drop, List.length_take]; rfl)) ?_; (with_reducible refine (impl_LegsOk.calls k _ _ l0 _ _ l1 a2 true _ ?side1 ?side2 ?side3 ?side4 A4.out).mono ?_); (case side1 => repeat (first | exact HR0.out | (with_reducible refine Kd.C_alloc ?_ _) | (with_reducible refine Kd.C_drewN ?_ _) | (with_reducible refine Kd.C_drew ?_))); (case side2 => exact HC0.out); (case side3 => repeat (first | exact HR1.out | (with_reducible refine Kd.C_alloc ?_ _) | (with_reducible refine Kd.C_drewN ?_ _) | (with_reducible refine Kd.C_drew ?_))); (case side4 => exact HC1.out); rintro e w6 ⟨rfl, hb⟩; refine ⟨_, rfl, ?_⟩; have n_ := aM (below_step (nH HB.out) hb); clear HB; have HB := n_; clear n_; (try clear hb); (try clear hb2); (try clear hk); (try clear hi)))
   go_loopg [7, 17] k (fun kq v7 v17 w' => ∃ (x7_1 : ByteArray) (x17_1 : Int), v7 = .string x7_1 ∧ v17 = .int .i64 x17_1 ∧ Aside0 (impl_JourneyText.l0 kq l0 x7_1 l1 (l1.length : Int) x17_1 = some r) ∧ Aside0 (kq ≤ k) ∧ Aside0 (Below w.heap.size w w'))
   case atStart => exact ⟨((⟨#[]⟩ : ByteArray)), (0), nS, nS, H', ⟨Nat.le_refl _⟩, ⟨nH HB.out⟩⟩
   case round =>
    clear H'
    try clear c1; try clear p2; try clear c5
    obtain ⟨x7_1, x17_1, rfl, rfl, HA, HK1, HB⟩ := hrel
    cases gk with
    | zero => exact absurd HA.out (by simp [impl_JourneyText.l0])
    | succ k1 =>
     have H := HA.out; clear HA
     simp only [impl_JourneyText.l0] at H
     by_cases c7 : x17_1 < (l1.length : Int)
     · rw [if_pos c7] at H
       have c7b0 : decide (x17_1 < (l1.length : Int)) = true := decide_eq_true c7
       clear c7
       by_cases c8 : 0 ≤ x17_1
       rotate_left
       · (rw [if_neg c8] at H; exact absurd H (by simp))
       rw [if_pos c8] at H
       have c8b0 : decide (0 ≤ x17_1) = true := decide_eq_true c8
       clear c8
       by_cases c9 : x17_1 < (l1.length : Int)
       rotate_left
       · (rw [if_neg c9] at H; exact absurd H (by simp))
       rw [if_pos c9] at H
       have c9b0 : decide (x17_1 < (l1.length : Int)) = true := decide_eq_true c9
       clear c9
       have HC10 := aM H
       clear H
       have p149 : 0 ≤ (x17_1 : Int) := of_decide_eq_true nQ
       have q149 : x17_1 < (l1.length : Int) := of_decide_eq_true nQ
       obtain ⟨ad149, e149, hx149_0, hx149_1, hx149_2⟩ := at_T48 HR1.out x17_1 p149 q149
       cases e149
       replace hx149_0 := (HB.out.cell (World.block_lt_of_cell? w _ hx149_0)).trans hx149_0
       replace hx149_1 := (HB.out.cell (World.block_lt_of_cell? w _ hx149_1)).trans hx149_1
       replace hx149_2 := (HB.out.cell (World.block_lt_of_cell? w _ hx149_2)).trans hx149_2
       replace p149 := eq_true p149; replace q149 := eq_true q149
       go_upto_if 23 with (first | (refine nBx 9 rfl #[.int .i64 0, .int .i64 0, .int .i64 0] 48 ?_; intro gb150 hg w11 hbox hb; have n_ := aA (below_step (nH HB.out) hb) <| aA (hbox) <| aA (bS hg (nH HB.out)) <| aM (bS hg (nH HB.out)); clear HB; obtain ⟨HB, BK150, GW150, GE150⟩ := n_; clear hb hbox hg; obtain ⟨hcz12_0, hcz12_1, hcz12_2, hfz12_0, hfz12_1, hfz12_2⟩ := nK3 BK150.out))
       (try simp only [Act.put, List.setIfInBounds_toArray, List.set_cons_zero, List.set_cons_succ])
       go_cut [7] (fun v7 wc => ∃ (kq : Nat) (x7_9 : ByteArray), v7 = .string x7_9 ∧ Aside0 (impl_JourneyText.j1 kq l0 x7_9 l1 (l1.length : Int) x17_1 ((rd_T48 l1 x17_1).f0) ((rd_T48 l1 x17_1).f1) ((rd_T48 l1 x17_1).f2) = some r) ∧ Aside0 (kq ≤ k1) ∧ Aside0 (wc.heap[gb150]? = some (.cells #[.int .i64 ((rd_T48 l1 x17_1).f0), .int .i64 ((rd_T48 l1 x17_1).f1), .int .i64 ((rd_T48 l1 x17_1).f2)] 48 (0, 0))) ∧ Aside0 (Below w.heap.size w wc))
       case first =>
        have H := HC10.out; clear HC10
        by_cases c13 : x17_1 > 0
        · rw [if_pos c13] at H
          have c13b0 : decide (0 < x17_1) = true := decide_eq_true c13
          clear c13
          (first | rw [c13b0] | (simp only [i64_w, i32_w]; rw [c13b0]) | skip)
          by_cases c14 : x7_1.size + 3 ≤ 9223372036854775807
          rotate_left
          · (rw [if_neg c14] at H; exact absurd H (by simp))
          rw [if_pos c14] at H
          have c14b0 := eq_true c14
          have c14b1 : decide (x7_1.size + 3 ≤ 9223372036854775807) = true := decide_eq_true c14
          try have c14b2 : (9223372036854775807 < x7_1.size + 3) = False := eq_false (Nat.not_lt.2 c14)
          have H' := aM H
          clear H; go_wp2
          go_meet
          case rel => exact ⟨_, (x7_1 ++ (⟨#[32, 47, 32]⟩ : ByteArray)), nS, H', ⟨by have := HK1.out; first | omega | exact Nat.le_refl _⟩, ⟨by refine nE ?_; refine blk_put (cs := #[.int .i64 ((rd_T48 l1 x17_1).f0), .int .i64 ((rd_T48 l1 x17_1).f1), .int .i64 0]) ?_ 2 _ rfl; refine nE ?_; refine blk_put (cs := #[.int .i64 ((rd_T48 l1 x17_1).f0), .int .i64 0, .int .i64 0]) ?_ 1 _ rfl; refine nE ?_; refine blk_put (cs := #[.int .i64 0, .int .i64 0, .int .i64 0]) ?_ 0 _ rfl; refine nE ?_; exact BK150.out⟩, ⟨nH1 HB.out GE150.out⟩⟩
        · rw [if_neg c13] at H
          have c13b0 : decide (0 < x17_1) = false := decide_eq_false c13
          clear c13
          (first | rw [c13b0] | (simp only [i64_w, i32_w]; rw [c13b0]) | skip)
          have H' := aM H
          clear H; go_wp2
          go_meet
          case rel => exact ⟨_, (x7_1), nS, H', ⟨by have := HK1.out; first | omega | exact Nat.le_refl _⟩, ⟨by refine nE ?_; refine blk_put (cs := #[.int .i64 ((rd_T48 l1 x17_1).f0), .int .i64 ((rd_T48 l1 x17_1).f1), .int .i64 0]) ?_ 2 _ rfl; refine nE ?_; refine blk_put (cs := #[.int .i64 ((rd_T48 l1 x17_1).f0), .int .i64 0, .int .i64 0]) ?_ 1 _ rfl; refine nE ?_; refine blk_put (cs := #[.int .i64 0, .int .i64 0, .int .i64 0]) ?_ 0 _ rfl; refine nE ?_; exact BK150.out⟩, ⟨nH1 HB.out GE150.out⟩⟩
       case rest =>
        clear HC10; try clear c1; try clear p1; try clear q1; try clear hx1; try clear p2; try clear c5; try clear c7; try clear c7b0; try clear c8; try clear c8b0; try clear c9; try clear c9b0; try clear c10; try clear c13; try clear c13b0; try clear c14; try clear c14b0; try clear c14b1; try clear c14b2; try clear p14; try clear q14; try clear hx14; try clear hcz12_0; try clear hcz12_1; try clear hcz12_2; try clear hfz12_0; try clear hfz12_1; try clear hfz12_2; try clear hx149_0; try clear hx149_1; try clear hx149_2; try clear p149; try clear p2; try clear q149
        obtain ⟨kq, x7_9, rfl, HA, HJ9, BK150, HB⟩ := hcut
        cases kq with
        | zero => exact absurd HA.out (by simp [impl_JourneyText.j1])
        | succ kj9 =>
         have H := HA.out; clear HA
         simp only [impl_JourneyText.j1] at H
         by_cases c15 : 0 ≤ ((rd_T48 l1 x17_1).f0)
         rotate_left
         · (rw [if_neg c15] at H; exact absurd H (by simp))
         rw [if_pos c15] at H
         have c15b0 : decide (0 ≤ ((rd_T48 l1 x17_1).f0)) = true := decide_eq_true c15
         clear c15
         by_cases c16 : ((rd_T48 l1 x17_1).f0) < (l0.length : Int)
         rotate_left
         · (rw [if_neg c16] at H; exact absurd H (by simp))
         rw [if_pos c16] at H
         have c16b0 : decide (((rd_T48 l1 x17_1).f0) < (l0.length : Int)) = true := decide_eq_true c16
         clear c16
         by_cases c17 : ((rd_T46 l0 ((rd_T48 l1 x17_1).f0)).f0).size + 1 ≤ 9223372036854775807
         rotate_left
         · (rw [if_neg c17] at H; exact absurd H (by simp))
         rw [if_pos c17] at H
         have c17b0 := eq_true c17
         have c17b1 : decide (((rd_T46 l0 ((rd_T48 l1 x17_1).f0)).f0).size + 1 ≤ 9223372036854775807) = true := decide_eq_true c17
         try have c17b2 : (9223372036854775807 < ((rd_T46 l0 ((rd_T48 l1 x17_1).f0)).f0).size + 1) = False := eq_false (Nat.not_lt.2 c17)
         obtain ⟨t152, A180, H⟩ := Option.bind_eq_some_iff.mp H
         have A18 := aM A180
         clear A180
         obtain ⟨t153, A190, H⟩ := Option.bind_eq_some_iff.mp H
         have A19 := aM A190
         clear A190
         by_cases c20 : (((rd_T46 l0 ((rd_T48 l1 x17_1).f0)).f0) ++ (⟨#[32]⟩ : ByteArray)).size + t153.size ≤ 9223372036854775807
         rotate_left
         · (rw [if_neg c20] at H; exact absurd H (by simp))
         rw [if_pos c20] at H
         have c20b0 := eq_true c20
         have c20b1 : decide ((((rd_T46 l0 ((rd_T48 l1 x17_1).f0)).f0) ++ (⟨#[32]⟩ : ByteArray)).size + t153.size ≤ 9223372036854775807) = true := decide_eq_true c20
         try have c20b2 : (9223372036854775807 < (((rd_T46 l0 ((rd_T48 l1 x17_1).f0)).f0) ++ (⟨#[32]⟩ : ByteArray)).size + t153.size) = False := eq_false (Nat.not_lt.2 c20)
         try have c20b3 : (9223372036854775807 < ((rd_T46 l0 ((rd_T48 l1 x17_1).f0)).f0).size + 1 + t153.size) = False := by have q := c20b2; simp only [ByteArray.size_append] at q; exact q
         by_cases c21 : ((((rd_T46 l0 ((rd_T48 l1 x17_1).f0)).f0) ++ (⟨#[32]⟩ : ByteArray)) ++ t153).size + 1 ≤ 9223372036854775807
         rotate_left
         · (rw [if_neg c21] at H; exact absurd H (by simp))
         rw [if_pos c21] at H
         have c21b0 := eq_true c21
         have c21b1 : decide (((((rd_T46 l0 ((rd_T48 l1 x17_1).f0)).f0) ++ (⟨#[32]⟩ : ByteArray)) ++ t153).size + 1 ≤ 9223372036854775807) = true := decide_eq_true c21
         try have c21b2 : (9223372036854775807 < ((((rd_T46 l0 ((rd_T48 l1 x17_1).f0)).f0) ++ (⟨#[32]⟩ : ByteArray)) ++ t153).size + 1) = False := eq_false (Nat.not_lt.2 c21)
         try have c21b3 : (9223372036854775807 < ((rd_T46 l0 ((rd_T48 l1 x17_1).f0)).f0).size + 1 + t153.size + 1) = False := by have q := c21b2; simp only [ByteArray.size_append] at q; exact q
         obtain ⟨t154, A220, H⟩ := Option.bind_eq_some_iff.mp H
         have A22 := aM A220
         clear A220
         obtain ⟨t155, A230, H⟩ := Option.bind_eq_some_iff.mp H
         have A23 := aM A230
         clear A230
         by_cases c24 : (((((rd_T46 l0 ((rd_T48 l1 x17_1).f0)).f0) ++ (⟨#[32]⟩ : ByteArray)) ++ t153) ++ (⟨#[45]⟩ : ByteArray)).size + t155.size ≤ 9223372036854775807
         rotate_left
         · (rw [if_neg c24] at H; exact absurd H (by simp))
         rw [if_pos c24] at H
         have c24b0 := eq_true c24
         have c24b1 : decide ((((((rd_T46 l0 ((rd_T48 l1 x17_1).f0)).f0) ++ (⟨#[32]⟩ : ByteArray)) ++ t153) ++ (⟨#[45]⟩ : ByteArray)).size + t155.size ≤ 9223372036854775807) = true := decide_eq_true c24
         try have c24b2 : (9223372036854775807 < (((((rd_T46 l0 ((rd_T48 l1 x17_1).f0)).f0) ++ (⟨#[32]⟩ : ByteArray)) ++ t153) ++ (⟨#[45]⟩ : ByteArray)).size + t155.size) = False := eq_false (Nat.not_lt.2 c24)
         try have c24b3 : (9223372036854775807 < ((rd_T46 l0 ((rd_T48 l1 x17_1).f0)).f0).size + 1 + t153.size + 1 + t155.size) = False := by have q := c24b2; simp only [ByteArray.size_append] at q; exact q
         by_cases c25 : x7_9.size + ((((((rd_T46 l0 ((rd_T48 l1 x17_1).f0)).f0) ++ (⟨#[32]⟩ : ByteArray)) ++ t153) ++ (⟨#[45]⟩ : ByteArray)) ++ t155).size ≤ 9223372036854775807
         rotate_left
         · (rw [if_neg c25] at H; exact absurd H (by simp))
         rw [if_pos c25] at H
         have c25b0 := eq_true c25
         have c25b1 : decide (x7_9.size + ((((((rd_T46 l0 ((rd_T48 l1 x17_1).f0)).f0) ++ (⟨#[32]⟩ : ByteArray)) ++ t153) ++ (⟨#[45]⟩ : ByteArray)) ++ t155).size ≤ 9223372036854775807) = true := decide_eq_true c25
         try have c25b2 : (9223372036854775807 < x7_9.size + ((((((rd_T46 l0 ((rd_T48 l1 x17_1).f0)).f0) ++ (⟨#[32]⟩ : ByteArray)) ++ t153) ++ (⟨#[45]⟩ : ByteArray)) ++ t155).size) = False := eq_false (Nat.not_lt.2 c25)
         try have c25b3 : (9223372036854775807 < x7_9.size + (((rd_T46 l0 ((rd_T48 l1 x17_1).f0)).f0).size + 1 + t153.size + 1 + t155.size)) = False := by have q := c25b2; simp only [ByteArray.size_append] at q; exact q
         have H' := aM H
         clear H
         try go_wp2
         have n_ := aA (blk_drew BK150.out) <| aM (below_drew1 HB.out); clear BK150 HB; obtain ⟨BK150, HB⟩ := n_
         have p151 : 0 ≤ (((rd_T48 l1 x17_1).f0) : Int) := of_decide_eq_true nQ
         have q151 : ((rd_T48 l1 x17_1).f0) < (l0.length : Int) := of_decide_eq_true nQ
         obtain ⟨ad151, A151_1, c151_1, e151, hx151_0, hx151_1, hl151_1, hi151_1⟩ := at_T46 HR0.out ((rd_T48 l1 x17_1).f0) p151 q151
         have hw151_1 := hx151_1; have hw151_0 := hx151_0; cases e151
         replace hx151_0 := (HB.out.cell (World.block_lt_of_cell? w _ hx151_0)).trans hx151_0
         replace hx151_1 := (HB.out.cell (World.block_lt_of_cell? w _ hx151_1)).trans hx151_1
         have HR151_1 := aM hi151_1
         have HC151_1 := aM hl151_1
         clear hi151_1 hl151_1; replace p151 := eq_true p151; replace q151 := eq_true q151
         refine start_ (n := 21) (S := fun w' => w'.cell? ⟨gb150, 0, none⟩ = some (.int .i64 ((rd_T48 l1 x17_1).f0)) ∧ w'.cell? ⟨gb150, 1, none⟩ = some (.int .i64 ((rd_T48 l1 x17_1).f1)) ∧ w'.cell? ⟨gb150, 2, none⟩ = some (.int .i64 ((rd_T48 l1 x17_1).f2)) ∧ w'.cell? (ad151.add ((((rd_T48 l1 x17_1).f0)).toNat * 2)) = some (.string ((rd_T46 l0 ((rd_T48 l1 x17_1).f0)).f0)) ∧ w'.cell? ⟨(ad151.add ((((rd_T48 l1 x17_1).f0)).toNat * 2)).block, (ad151.add ((((rd_T48 l1 x17_1).f0)).toNat * 2)).off + 1, none⟩ = some (.slice A151_1 ((rd_T46 l0 ((rd_T48 l1 x17_1).f0)).f1).length c151_1)) (ds := []) #[F,F,F,F,F,F,F,F,F,F,F,F,F,F,F,F,F,F,F,F,F] (by kernel_rfl) rfl rfl ⟨(blk_cell BK150.out 0).trans rfl, (blk_cell BK150.out 1).trans rfl, (blk_cell BK150.out 2).trans rfl, (nC HB.out hw151_0 :), (nC HB.out hw151_1 :)⟩ (fun hHeld => ?_); refine with_tabW impl_JourneyText.tab9 impl_JourneyText.bits9 (fun HT_ HW_ => ?_)
         generalize wc.drew = w26 at BK150 HB HR151_1 hx151_0 hx151_1 hHeld ⊢
         refine pU 0 (some 26) #[T,F,F,F,F,F,F,F,F,F,F,F,F,F,F,F,F,F,F,F,F] rfl rfl HT_.out ?_
         refine pU 1 (some 27) #[T,T,F,F,F,F,F,F,F,F,F,F,F,F,F,F,F,F,F,F,F] rfl rfl HT_.out ?_
         refine pU 2 (some 28) #[T,T,T,F,F,F,F,F,F,F,F,F,F,F,F,F,F,F,F,F,F] rfl rfl HT_.out ?_
         refine pU 8 (some 34) #[T,T,T,F,F,F,F,F,T,F,F,F,F,F,F,F,F,F,F,F,F] rfl rfl HT_.out ?_
         refine pU 14 (some 40) #[T,T,T,F,F,F,F,F,T,F,F,F,F,F,T,F,F,F,F,F,F] rfl rfl HT_.out ?_
         refine tU5 3 (some 29) #[T,T,T,T,F,F,F,F,T,F,F,F,F,F,T,F,F,F,F,F,F] rfl rfl HT_.out HW_.out hHeld ?_
         refine pU 4 (some 30) #[T,T,T,T,T,F,F,F,T,F,F,F,F,F,T,F,F,F,F,F,F] rfl rfl HT_.out ?_
         refine pU 5 (some 31) #[T,T,T,T,T,T,F,F,T,F,F,F,F,F,T,F,F,F,F,F,F] rfl rfl HT_.out ?_
         refine tU5 6 (some 32) #[T,T,T,T,T,T,T,F,T,F,F,F,F,F,T,F,F,F,F,F,F] rfl rfl HT_.out HW_.out hHeld ?_
         refine pU 7 (some 33) #[T,T,T,T,T,T,T,T,T,F,F,F,F,F,T,F,F,F,F,F,F] rfl rfl HT_.out ?_
         refine tU5 9 (some 35) #[T,T,T,T,T,T,T,T,T,T,F,F,F,F,T,F,F,F,F,F,F] rfl rfl HT_.out HW_.out hHeld ?_
         refine tU5 15 (some 41) #[T,T,T,T,T,T,T,T,T,T,F,F,F,F,T,T,F,F,F,F,F] rfl rfl HT_.out HW_.out hHeld ?_
         refine one_ (i := 10) (N := some 36) #[T,T,T,T,T,T,T,T,T,T,T,F,F,F,T,T,F,F,F,F,F] rfl rfl (one_of HT_.out (by kernel_rfl)) (by decide) (fun K hK => ?_)
         refine goes_ Tryd.func26 (by kernel_rfl) rfl #[.slice (some ad151) l0.length c0, .agg #[.int .i64 ((rd_T48 l1 x17_1).f0), .int .i64 ((rd_T48 l1 x17_1).f1), .int .i64 ((rd_T48 l1 x17_1).f2)]] (by rfl) rfl rfl (by (try simp only [List.map_toArray, List.map_cons, List.map_nil]); first | done | rfl | (simp only [List.length_drop, List.length_take]; rfl)) ?_
         with_reducible refine (impl_leaves.calls _ _ l0 ((rd_T48 l1 x17_1).f0) ((rd_T48 l1 x17_1).f1) ((rd_T48 l1 x17_1).f2) t152 _ ?side1 ?side2 A18.out).mono ?_
         (case side1 => repeat (first | exact (Kd.C_below HR0.out HB.out) | (with_reducible refine Kd.C_alloc ?_ _) | (with_reducible refine Kd.C_drewN ?_ _) | (with_reducible refine Kd.C_drew ?_)))
         (case side2 => exact HC0.out)
         rintro e w27 ⟨rfl, hb⟩
         refine ⟨_, rfl, ?_⟩
         have n_ := aA (nBB BK150.out hb) <| aM (below_step (nH1 HB.out GE150.out) hb); clear BK150 HB; obtain ⟨BK150, HB⟩ := n_; (try clear hb); (try clear hb2); (try clear hk); (try clear hi)
         refine hK.out _ _ ⟨(blk_cell BK150.out 0).trans rfl, (blk_cell BK150.out 1).trans rfl, (blk_cell BK150.out 2).trans rfl, (nC HB.out hw151_0 :), (nC HB.out hw151_1 :)⟩ (fun hHeld => ?_)
         clear hK K
         refine norm_ (a' := ?_) ?_ ?_
         rotate_left
         · show Act.put _ (some 36) _ = _
           simp only [Act.put, List.setIfInBounds_toArray, List.set_cons_zero, List.set_cons_succ, i64_w, i32_w]
           rfl
         refine one_ (i := 11) (N := some 37) #[T,T,T,T,T,T,T,T,T,T,T,T,F,F,T,T,F,F,F,F,F] rfl rfl (one_of HT_.out (by kernel_rfl)) (by decide) (fun K hK => ?_)
         refine goes_ Tryd.func25 (by kernel_rfl) rfl #[.int .i64 t152] (by rfl) rfl rfl (by (try simp only [List.map_toArray, List.map_cons, List.map_nil]); first | done | rfl | (simp only [List.length_drop, List.length_take]; rfl)) ?_
         with_reducible refine (impl_TimeText.calls t152 t153 _ ?sideT A19.out).mono ?_
         (case sideT => exact tb_on HTB.out (nH1 HB.out GE150.out))
         rintro e w28 ⟨rfl, hb⟩
         refine ⟨_, rfl, ?_⟩
         have n_ := aA (nBB BK150.out hb) <| aM (below_step (nH1 HB.out GE150.out) hb); clear BK150 HB; obtain ⟨BK150, HB⟩ := n_; (try clear hb); (try clear hb2); (try clear hk); (try clear hi)
         refine hK.out _ _ ⟨(blk_cell BK150.out 0).trans rfl, (blk_cell BK150.out 1).trans rfl, (blk_cell BK150.out 2).trans rfl, (nC HB.out hw151_0 :), (nC HB.out hw151_1 :)⟩ (fun hHeld => ?_)
         clear hK K
         refine norm_ (a' := ?_) ?_ ?_
         rotate_left
         · show Act.put _ (some 37) _ = _
           simp only [Act.put, List.setIfInBounds_toArray, List.set_cons_zero, List.set_cons_succ, i64_w, i32_w]
           rfl
         refine pU 12 (some 38) #[T,T,T,T,T,T,T,T,T,T,T,T,T,F,T,T,F,F,F,F,F] rfl rfl HT_.out ?_
         refine pU 13 (some 39) #[T,T,T,T,T,T,T,T,T,T,T,T,T,T,T,T,F,F,F,F,F] rfl rfl HT_.out ?_
         refine one_ (i := 16) (N := some 42) #[T,T,T,T,T,T,T,T,T,T,T,T,T,T,T,T,T,F,F,F,F] rfl rfl (one_of HT_.out (by kernel_rfl)) (by decide) (fun K hK => ?_)
         refine goes_ Tryd.func27 (by kernel_rfl) rfl #[.slice (some ad151) l0.length c0, .agg #[.int .i64 ((rd_T48 l1 x17_1).f0), .int .i64 ((rd_T48 l1 x17_1).f1), .int .i64 ((rd_T48 l1 x17_1).f2)]] (by rfl) rfl rfl (by (try simp only [List.map_toArray, List.map_cons, List.map_nil]); first | done | rfl | (simp only [List.length_drop, List.length_take]; rfl)) ?_
         with_reducible refine (impl_arrives.calls _ _ l0 ((rd_T48 l1 x17_1).f0) ((rd_T48 l1 x17_1).f1) ((rd_T48 l1 x17_1).f2) t154 _ ?side1 ?side2 A22.out).mono ?_
         (case side1 => repeat (first | exact (Kd.C_below HR0.out HB.out) | (with_reducible refine Kd.C_alloc ?_ _) | (with_reducible refine Kd.C_drewN ?_ _) | (with_reducible refine Kd.C_drew ?_)))
         (case side2 => exact HC0.out)
         rintro e w29 ⟨rfl, hb⟩
         refine ⟨_, rfl, ?_⟩
         have n_ := aA (nBB BK150.out hb) <| aM (below_step (nH1 HB.out GE150.out) hb); clear BK150 HB; obtain ⟨BK150, HB⟩ := n_; (try clear hb); (try clear hb2); (try clear hk); (try clear hi)
         refine hK.out _ _ ⟨(blk_cell BK150.out 0).trans rfl, (blk_cell BK150.out 1).trans rfl, (blk_cell BK150.out 2).trans rfl, (nC HB.out hw151_0 :), (nC HB.out hw151_1 :)⟩ (fun hHeld => ?_)
         clear hK K
         refine norm_ (a' := ?_) ?_ ?_
         rotate_left
         · show Act.put _ (some 42) _ = _
           simp only [Act.put, List.setIfInBounds_toArray, List.set_cons_zero, List.set_cons_succ, i64_w, i32_w]
           rfl
         refine one_ (i := 17) (N := some 43) #[T,T,T,T,T,T,T,T,T,T,T,T,T,T,T,T,T,T,F,F,F] rfl rfl (one_of HT_.out (by kernel_rfl)) (by decide) (fun K hK => ?_)
         refine goes_ Tryd.func25 (by kernel_rfl) rfl #[.int .i64 t154] (by rfl) rfl rfl (by (try simp only [List.map_toArray, List.map_cons, List.map_nil]); first | done | rfl | (simp only [List.length_drop, List.length_take]; rfl)) ?_
         with_reducible refine (impl_TimeText.calls t154 t155 _ ?sideT A23.out).mono ?_
         (case sideT => exact tb_on HTB.out (nH1 HB.out GE150.out))
         rintro e w30 ⟨rfl, hb⟩
         refine ⟨_, rfl, ?_⟩
         have n_ := aA (nBB BK150.out hb) <| aM (below_step (nH1 HB.out GE150.out) hb); clear BK150 HB; obtain ⟨BK150, HB⟩ := n_; (try clear hb); (try clear hb2); (try clear hk); (try clear hi)
         refine hK.out _ _ ⟨(blk_cell BK150.out 0).trans rfl, (blk_cell BK150.out 1).trans rfl, (blk_cell BK150.out 2).trans rfl, (nC HB.out hw151_0 :), (nC HB.out hw151_1 :)⟩ (fun hHeld => ?_)
         clear hK K
         refine norm_ (a' := ?_) ?_ ?_
         rotate_left
         · show Act.put _ (some 43) _ = _
           simp only [Act.put, List.setIfInBounds_toArray, List.set_cons_zero, List.set_cons_succ, i64_w, i32_w]
           rfl
         refine pU 18 (some 44) #[T,T,T,T,T,T,T,T,T,T,T,T,T,T,T,T,T,T,T,F,F] rfl rfl HT_.out ?_
         refine pU 19 (some 45) #[T,T,T,T,T,T,T,T,T,T,T,T,T,T,T,T,T,T,T,T,F] rfl rfl HT_.out ?_
         refine pU 20 (some 7) #[T,T,T,T,T,T,T,T,T,T,T,T,T,T,T,T,T,T,T,T,T] rfl rfl HT_.out ?_
         refine done_ (done_of HT_.out (by kernel_rfl)) ?_
         try go_wp2
         go_roundg kj9
         case measure => have := HK1.out; have := HJ9.out; omega
         case rel => exact ⟨(x7_9 ++ ((((((rd_T46 l0 ((rd_T48 l1 x17_1).f0)).f0) ++ (⟨#[32]⟩ : ByteArray)) ++ t153) ++ (⟨#[45]⟩ : ByteArray)) ++ t155)), (wrap64 (x17_1 + 1)), nS, nS, H', ⟨by have := HK1.out; have := HJ9.out; omega⟩, ⟨nH1 HB.out GE150.out⟩⟩
     · rw [if_neg c7] at H
       have c7b0 : decide (x17_1 < (l1.length : Int)) = false := decide_eq_false c7
       clear c7; obtain rfl := Option.some.inj H; go_wp2; go_ret
       exact ⟨by first | rfl | (simp [errW_none, errW_some] <;> rfl) | (simp [*, errW_none, errW_some] <;> first | rfl | (simp [wrap64]; done)), nH HB.out⟩
 · replace c5 := Bool.eq_false_iff.mpr c5
   subst c5
   rw [if_neg nN] at H; obtain rfl := Option.some.inj H
   go_enter Tryd.func10, Tryd.ntmps10
   go_wp2_with (first | ((with_reducible refine gate_callee (f := 19) rfl ?_); refine goesL_ (some 13) rfl rfl Tryd.func19 (by kernel_rfl) rfl #[.slice A0 l0.length c0, .slice A1 l1.length c1, .int .i64 a2] rfl (by (try simp only [List.map_toArray, List.map_cons, List.map_nil]); first | done | rfl | (simp only [List.length_drop, List.length_take]; rfl)) ?_; (with_reducible refine (impl_LegsOk.calls k _ _ l0 _ _ l1 a2 false _ ?side1 ?side2 ?side3 ?side4 A4.out).mono ?_); (case side1 => repeat (first | exact HR0.out | (with_reducible refine Kd.C_alloc ?_ _) | (with_reducible refine Kd.C_drewN ?_ _) | (with_reducible refine Kd.C_drew ?_))); (case side2 => exact HC0.out); (case side3 => repeat (first | exact HR1.out | (with_reducible refine Kd.C_alloc ?_ _) | (with_reducible refine Kd.C_drewN ?_ _) | (with_reducible refine Kd.C_drew ?_))); (case side4 => exact HC1.out); rintro e w31 ⟨rfl, hb⟩; refine ⟨_, rfl, ?_⟩; have n_ := aM (below_step (nH HB.out) hb); clear HB; have HB := n_; clear n_; (try clear hb); (try clear hb2); (try clear hk); (try clear hi)))
   go_ret
   exact ⟨by first | rfl | (simp [errW_none, errW_some] <;> rfl) | (simp [*, errW_none, errW_some] <;> first | rfl | (simp [wrap64]; done)), nH HB.out⟩
end Go.Proofs.YtdpjoblnjjkbfaaDoor.P
