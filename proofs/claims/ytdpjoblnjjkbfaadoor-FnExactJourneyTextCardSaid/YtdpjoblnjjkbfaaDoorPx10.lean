/- Contracts of the functions of the program, each one with its plain Lean function; written by a program of the session out of the translation. -/
import Derived.Test.YtdpjoblnjjkbfaaDoorNb
import Derived.Test.YtdpjoblnjjkbfaaDoorPx0
import Derived.Test.YtdpjoblnjjkbfaaDoorPx7
import Derived.Test.YtdpjoblnjjkbfaaDoorPx9
namespace Go.Proofs.YtdpjoblnjjkbfaaDoor.P
open Go.RowKit Go.Proofs.YtdpjoblnjjkbfaaDoorW.PrintWords Go.Proofs.YtdpjoblnjjkbfaaDoorW.PrintLast Go.Proofs.YtdpjoblnjjkbfaaDoorW.PrintMore
attribute [local go_sem] max2_int min2_int max_two min_two max_three min_three max_four min_four   -- for this text's walks alone
set_option linter.unusedVariables false
set_option linter.unusedSimpArgs false
/-! ### spec_JourneyText: function 7 -/
theorem spec_JourneyText.mono_l : ∀ k, (∀ y0 y1 y2 y3, LeO (spec_JourneyText.l0 k y0 y1 y2 y3) (spec_JourneyText.l0 (k + 1) y0 y1 y2 y3))
 | 0 => fun _ _ _ _ r h => by simp [spec_JourneyText.l0] at h
 | k + 1 => by
  have ih0 := spec_JourneyText.mono_l k
  · intro y0 y1 y2 y3
    unfold spec_JourneyText.l0
    repeat' first
    | (with_reducible exact ih0 _ _ _ _)
    | (with_reducible exact spec_LegsOk.mono _ _ _ _)
    | (with_reducible exact spec_TimeText.mono _ _)
    | (with_reducible exact LeO.refl _)
    | (with_reducible exact LeO.none _)
    | (with_reducible refine LeO.ite ?_ ?_)
    | (with_reducible refine LeO.bind ?_ (fun _ => ?_))
    | exact ih0 _ _ _ _
    | exact spec_LegsOk.mono _ _ _ _
    | exact spec_TimeText.mono _ _
    | exact LeO.none _
    | refine LeO.ite ?_ ?_
    | refine LeO.bind ?_ (fun _ => ?_)
theorem spec_JourneyText.mono : ∀ a0 a1 a2 k, LeO (spec_JourneyText.f k a0 a1 a2) (spec_JourneyText.f (k + 1) a0 a1 a2) := by
 intro a0 a1 a2 k
 have ih0 := spec_JourneyText.mono_l k
 unfold spec_JourneyText.f
 repeat' first
  | (with_reducible exact ih0 _ _ _ _)
  | (with_reducible exact spec_LegsOk.mono _ _ _ _)
  | (with_reducible exact spec_TimeText.mono _ _)
  | (with_reducible exact LeO.refl _)
  | (with_reducible exact LeO.none _)
  | (with_reducible refine LeO.ite ?_ ?_)
  | (with_reducible refine LeO.bind ?_ (fun _ => ?_))
  | exact ih0 _ _ _ _
  | exact spec_LegsOk.mono _ _ _ _
  | exact spec_TimeText.mono _ _
  | exact LeO.none _
  | refine LeO.ite ?_ ?_
  | refine LeO.bind ?_ (fun _ => ?_)
def spec_JourneyText.T10 : Bool × List (List Nat × List Nat) := (true, [([], []), ([], []), ([1], [1]), ([0, 2], [0, 2]), ([3], [3]), ([], []), ([5], [5]), ([], []), ([], []), ([7, 8], [7, 8]), ([9], [9]), ([10], [10]), ([6, 11], [6, 11]), ([12], [12]), ([13], [13]), ([14], [14]), ([4, 15], [4, 15]), ([16], [16]), ([], []), ([18], [18]), ([], []), ([], []), ([20, 21], [20, 21]), ([22], [22]), ([23], [23]), ([19, 24], [19, 24]), ([25], [25]), ([26], [26]), ([27, 15], [27]), ([17, 28], [17, 28]), ([29, 28, 0, 1, 2, 3, 4, 5, 6, 7, 8, 9, 10, 11, 12, 13, 14, 15, 16, 17, 18, 19, 20, 21, 22, 23, 24, 25, 26, 27, 28, 29], [0, 29])])
def spec_JourneyText.B10 : List Nat := [0, 0, 2, 7, 15, 0, 32, 0, 0, 384, 896, 1920, 4064, 8160, 16352, 32736, 65535, 131071, 0, 262144, 0, 0, 3145728, 7340032, 15728640, 33292288, 66846720, 133955584, 268238816, 536870911, 1073741823]
theorem spec_JourneyText.tab10 : rtab .any (opsOf Tryd.f7 10) = spec_JourneyText.T10 := by kernel_rfl
theorem spec_JourneyText.bits10 : waitsOk spec_JourneyText.T10.2 spec_JourneyText.B10 = true := by kernel_rfl
set_option maxHeartbeats 8000000 in
set_option maxRecDepth 100000 in
theorem spec_JourneyText.calls (k : Nat) (A0 : Option Addr) (c0 : Nat) (l0 : List (S46)) (A1 : Option Addr) (c1 : Nat) (l1 : List (S48)) (a2 : Int) (r : ByteArray) (w : World) (hr0 : Kd.C k46 w A0 l0.length l0) (hc0 : l0.length ≤ c0) (hr1 : Kd.C k48 w A1 l1.length l1) (hc1 : l1.length ≤ c1) (h : spec_JourneyText.f k l0 l1 a2 = some r) :
 Calls Tryd.prog 7 #[.slice A0 l0.length c0, .slice A1 l1.length c1, .int .i64 a2] w fun e w' => e = .returned (.string r) ∧ Below w.heap.size w w' := by
 have hu46 := Tryd.underlying46
 have HR0 := Aside0.mk hr0
 have HC0 := Aside0.mk hc0
 clear hr0 hc0
 have HR1 := Aside0.mk hr1
 have HC1 := Aside0.mk hc1
 clear hr1 hc1
 have HB := Aside0.mk (Below.refl w.heap.size w)
 have H : ((spec_LegsOk.f k l0 l1 a2).bind fun t146 => (if t146 = true then (spec_JourneyText.l0 k l0 l1 (⟨#[]⟩ : ByteArray) 0) else (some (⟨#[]⟩ : ByteArray)))) = some r := h
 clear h
 replace H := Option.bind_eq_some_iff.mp H
 obtain ⟨t146, A40, H⟩ := H
 replace H : (if t146 = true then (spec_JourneyText.l0 k l0 l1 (⟨#[]⟩ : ByteArray) 0) else (some (⟨#[]⟩ : ByteArray))) = some r := H
 have A4 := Aside0.mk A40
 clear A40
 by_cases c5 : t146 = true
 · subst c5
   have H1 : (spec_JourneyText.l0 k l0 l1 (⟨#[]⟩ : ByteArray) 0) = some r := by rw [if_pos rfl] at H; exact H
   clear H; have H := H1; clear H1
   have H' := Aside0.mk H
   clear H
   go_enter Tryd.func7, Tryd.ntmps7
   go_wp2_with (first | ((with_reducible refine gate_callee (f := 20) rfl ?_); refine goesL_ (some 13) rfl rfl Tryd.func20 (by kernel_rfl) rfl #[.slice A0 l0.length c0, .slice A1 l1.length c1, .int .i64 a2] rfl (by (try simp only [List.map_toArray, List.map_cons, List.map_nil]); first | done | rfl | (simp only [List.length_drop, List.length_take]; rfl)) ?_; (with_reducible refine (spec_LegsOk.calls k _ _ l0 _ _ l1 a2 true _ ?side1 ?side2 ?side3 ?side4 A4.out).mono ?_); (case side1 => repeat (first | exact HR0.out | (with_reducible refine Kd.C_alloc ?_ _) | (with_reducible refine Kd.C_drewN ?_ _) | (with_reducible refine Kd.C_drew ?_))); (case side2 => exact HC0.out); (case side3 => repeat (first | exact HR1.out | (with_reducible refine Kd.C_alloc ?_ _) | (with_reducible refine Kd.C_drewN ?_ _) | (with_reducible refine Kd.C_drew ?_))); (case side4 => exact HC1.out); rintro e w6 ⟨rfl, hb⟩; refine ⟨_, rfl, ?_⟩; have n0_ := Aside0.mk (below_step (nH HB.out) hb); clear HB; have HB := n0_; clear n0_; (try clear hb); (try clear hb2); (try clear hk); (try clear hi)))
   go_loopg [7, 8] k (fun kq v7 v8 w' => ∃ (x7_1 : ByteArray) (x8_1 : Int), v7 = .string x7_1 ∧ v8 = .int .i64 x8_1 ∧ Aside0 (spec_JourneyText.l0 kq l0 l1 x7_1 x8_1 = some r) ∧ Aside0 (kq ≤ k) ∧ Aside0 (Below w.heap.size w w'))
   case atStart => exact ⟨((⟨#[]⟩ : ByteArray)), (0), nS, nS, H', ⟨Nat.le_refl _⟩, ⟨nH HB.out⟩⟩
   case round =>
    clear H'
    try clear c1; try clear c2; try clear p2; try clear c5
    obtain ⟨x7_1, x8_1, rfl, rfl, HA, HK1, HB⟩ := hrel
    cases gk with
    | zero => exact absurd HA.out (by simp [spec_JourneyText.l0])
    | succ k1 =>
     have H := HA.out; clear HA
     simp only [spec_JourneyText.l0] at H
     by_cases c7 : x8_1 < (l1.length : Int)
     · rw [if_pos c7] at H
       have c7b0 : decide (x8_1 < (l1.length : Int)) = true := decide_eq_true c7
       clear c7
       by_cases c8 : 0 ≤ x8_1
       rotate_left
       · (rw [if_neg c8] at H; exact absurd H (by simp))
       rw [if_pos c8] at H
       have c8b0 : decide (0 ≤ x8_1) = true := decide_eq_true c8
       clear c8
       by_cases c9 : 0 ≤ ((rd_T48 l1 x8_1).f0)
       rotate_left
       · (rw [if_neg c9] at H; exact absurd H (by simp))
       rw [if_pos c9] at H
       have c9b0 : decide (0 ≤ ((rd_T48 l1 x8_1).f0)) = true := decide_eq_true c9
       clear c9
       by_cases c10 : ((rd_T48 l1 x8_1).f0) < (l0.length : Int)
       rotate_left
       · (rw [if_neg c10] at H; exact absurd H (by simp))
       rw [if_pos c10] at H
       have c10b0 : decide (((rd_T48 l1 x8_1).f0) < (l0.length : Int)) = true := decide_eq_true c10
       clear c10
       by_cases c11 : x8_1 > 0
       · rw [if_pos c11] at H
         have c11b0 : decide (0 < x8_1) = true := decide_eq_true c11
         clear c11
         by_cases c12 : x7_1.size + 3 ≤ 9223372036854775807
         rotate_left
         · (rw [if_neg c12] at H; exact absurd H (by simp))
         rw [if_pos c12] at H
         have c12b0 := eq_true c12
         have c12b1 : decide (x7_1.size + 3 ≤ 9223372036854775807) = true := decide_eq_true c12
         try have c12b2 : (9223372036854775807 < x7_1.size + 3) = False := eq_false (Nat.not_lt.2 c12)
         by_cases c13 : (x7_1 ++ (⟨#[32, 47, 32]⟩ : ByteArray)).size + ((rd_T46 l0 ((rd_T48 l1 x8_1).f0)).f0).size ≤ 9223372036854775807
         rotate_left
         · (rw [if_neg c13] at H; exact absurd H (by simp))
         rw [if_pos c13] at H
         have c13b0 := eq_true c13
         have c13b1 : decide ((x7_1 ++ (⟨#[32, 47, 32]⟩ : ByteArray)).size + ((rd_T46 l0 ((rd_T48 l1 x8_1).f0)).f0).size ≤ 9223372036854775807) = true := decide_eq_true c13
         try have c13b2 : (9223372036854775807 < (x7_1 ++ (⟨#[32, 47, 32]⟩ : ByteArray)).size + ((rd_T46 l0 ((rd_T48 l1 x8_1).f0)).f0).size) = False := eq_false (Nat.not_lt.2 c13)
         try have c13b3 : (9223372036854775807 < x7_1.size + 3 + ((rd_T46 l0 ((rd_T48 l1 x8_1).f0)).f0).size) = False := by have q := c13b2; simp only [ByteArray.size_append] at q; exact q
         by_cases c14 : ((x7_1 ++ (⟨#[32, 47, 32]⟩ : ByteArray)) ++ ((rd_T46 l0 ((rd_T48 l1 x8_1).f0)).f0)).size + 1 ≤ 9223372036854775807
         rotate_left
         · (rw [if_neg c14] at H; exact absurd H (by simp))
         rw [if_pos c14] at H
         have c14b0 := eq_true c14
         have c14b1 : decide (((x7_1 ++ (⟨#[32, 47, 32]⟩ : ByteArray)) ++ ((rd_T46 l0 ((rd_T48 l1 x8_1).f0)).f0)).size + 1 ≤ 9223372036854775807) = true := decide_eq_true c14
         try have c14b2 : (9223372036854775807 < ((x7_1 ++ (⟨#[32, 47, 32]⟩ : ByteArray)) ++ ((rd_T46 l0 ((rd_T48 l1 x8_1).f0)).f0)).size + 1) = False := eq_false (Nat.not_lt.2 c14)
         try have c14b3 : (9223372036854775807 < x7_1.size + 3 + ((rd_T46 l0 ((rd_T48 l1 x8_1).f0)).f0).size + 1) = False := by have q := c14b2; simp only [ByteArray.size_append] at q; exact q
         by_cases c15 : 0 ≤ ((rd_T48 l1 x8_1).f1)
         rotate_left
         · (rw [if_neg c15] at H; exact absurd H (by simp))
         rw [if_pos c15] at H
         have c15b0 : decide (0 ≤ ((rd_T48 l1 x8_1).f1)) = true := decide_eq_true c15
         clear c15
         by_cases c16 : ((rd_T48 l1 x8_1).f1) < (((rd_T46 l0 ((rd_T48 l1 x8_1).f0)).f1).length : Int)
         rotate_left
         · (rw [if_neg c16] at H; exact absurd H (by simp))
         rw [if_pos c16] at H
         have c16b0 : decide (((rd_T48 l1 x8_1).f1) < (((rd_T46 l0 ((rd_T48 l1 x8_1).f0)).f1).length : Int)) = true := decide_eq_true c16
         clear c16
         replace H := Option.bind_eq_some_iff.mp H
         obtain ⟨t152, A170, H⟩ := H
         replace H : (if (((x7_1 ++ (⟨#[32, 47, 32]⟩ : ByteArray)) ++ ((rd_T46 l0 ((rd_T48 l1 x8_1).f0)).f0)) ++ (⟨#[32]⟩ : ByteArray)).size + t152.size ≤ 9223372036854775807 then (if ((((x7_1 ++ (⟨#[32, 47, 32]⟩ : ByteArray)) ++ ((rd_T46 l0 ((rd_T48 l1 x8_1).f0)).f0)) ++ (⟨#[32]⟩ : ByteArray)) ++ t152).size + 1 ≤ 9223372036854775807 then (if 0 ≤ ((rd_T48 l1 x8_1).f2) then (if ((rd_T48 l1 x8_1).f2) < (((rd_T46 l0 ((rd_T48 l1 x8_1).f0)).f1).length : Int) then ((spec_TimeText.f k1 ((rd_T43 ((rd_T46 l0 ((rd_T48 l1 x8_1).f0)).f1) ((rd_T48 l1 x8_1).f2)).f1)).bind fun t155 => (if (((((x7_1 ++ (⟨#[32, 47, 32]⟩ : ByteArray)) ++ ((rd_T46 l0 ((rd_T48 l1 x8_1).f0)).f0)) ++ (⟨#[32]⟩ : ByteArray)) ++ t152) ++ (⟨#[45]⟩ : ByteArray)).size + t155.size ≤ 9223372036854775807 then (spec_JourneyText.l0 k1 l0 l1 ((((((x7_1 ++ (⟨#[32, 47, 32]⟩ : ByteArray)) ++ ((rd_T46 l0 ((rd_T48 l1 x8_1).f0)).f0)) ++ (⟨#[32]⟩ : ByteArray)) ++ t152) ++ (⟨#[45]⟩ : ByteArray)) ++ t155) (wrap64 (x8_1 + 1))) else (none))) else (none)) else (none)) else (none)) else (none)) = some r := H
         have A17 := Aside0.mk A170
         clear A170
         by_cases c18 : (((x7_1 ++ (⟨#[32, 47, 32]⟩ : ByteArray)) ++ ((rd_T46 l0 ((rd_T48 l1 x8_1).f0)).f0)) ++ (⟨#[32]⟩ : ByteArray)).size + t152.size ≤ 9223372036854775807
         rotate_left
         · (rw [if_neg c18] at H; exact absurd H (by simp))
         rw [if_pos c18] at H
         have c18b0 := eq_true c18
         have c18b1 : decide ((((x7_1 ++ (⟨#[32, 47, 32]⟩ : ByteArray)) ++ ((rd_T46 l0 ((rd_T48 l1 x8_1).f0)).f0)) ++ (⟨#[32]⟩ : ByteArray)).size + t152.size ≤ 9223372036854775807) = true := decide_eq_true c18
         try have c18b2 : (9223372036854775807 < (((x7_1 ++ (⟨#[32, 47, 32]⟩ : ByteArray)) ++ ((rd_T46 l0 ((rd_T48 l1 x8_1).f0)).f0)) ++ (⟨#[32]⟩ : ByteArray)).size + t152.size) = False := eq_false (Nat.not_lt.2 c18)
         try have c18b3 : (9223372036854775807 < x7_1.size + 3 + ((rd_T46 l0 ((rd_T48 l1 x8_1).f0)).f0).size + 1 + t152.size) = False := by have q := c18b2; simp only [ByteArray.size_append] at q; exact q
         by_cases c19 : ((((x7_1 ++ (⟨#[32, 47, 32]⟩ : ByteArray)) ++ ((rd_T46 l0 ((rd_T48 l1 x8_1).f0)).f0)) ++ (⟨#[32]⟩ : ByteArray)) ++ t152).size + 1 ≤ 9223372036854775807
         rotate_left
         · (rw [if_neg c19] at H; exact absurd H (by simp))
         rw [if_pos c19] at H
         have c19b0 := eq_true c19
         have c19b1 : decide (((((x7_1 ++ (⟨#[32, 47, 32]⟩ : ByteArray)) ++ ((rd_T46 l0 ((rd_T48 l1 x8_1).f0)).f0)) ++ (⟨#[32]⟩ : ByteArray)) ++ t152).size + 1 ≤ 9223372036854775807) = true := decide_eq_true c19
         try have c19b2 : (9223372036854775807 < ((((x7_1 ++ (⟨#[32, 47, 32]⟩ : ByteArray)) ++ ((rd_T46 l0 ((rd_T48 l1 x8_1).f0)).f0)) ++ (⟨#[32]⟩ : ByteArray)) ++ t152).size + 1) = False := eq_false (Nat.not_lt.2 c19)
         try have c19b3 : (9223372036854775807 < x7_1.size + 3 + ((rd_T46 l0 ((rd_T48 l1 x8_1).f0)).f0).size + 1 + t152.size + 1) = False := by have q := c19b2; simp only [ByteArray.size_append] at q; exact q
         by_cases c20 : 0 ≤ ((rd_T48 l1 x8_1).f2)
         rotate_left
         · (rw [if_neg c20] at H; exact absurd H (by simp))
         rw [if_pos c20] at H
         have c20b0 : decide (0 ≤ ((rd_T48 l1 x8_1).f2)) = true := decide_eq_true c20
         clear c20
         by_cases c21 : ((rd_T48 l1 x8_1).f2) < (((rd_T46 l0 ((rd_T48 l1 x8_1).f0)).f1).length : Int)
         rotate_left
         · (rw [if_neg c21] at H; exact absurd H (by simp))
         rw [if_pos c21] at H
         have c21b0 : decide (((rd_T48 l1 x8_1).f2) < (((rd_T46 l0 ((rd_T48 l1 x8_1).f0)).f1).length : Int)) = true := decide_eq_true c21
         clear c21
         replace H := Option.bind_eq_some_iff.mp H
         obtain ⟨t155, A220, H⟩ := H
         replace H : (if (((((x7_1 ++ (⟨#[32, 47, 32]⟩ : ByteArray)) ++ ((rd_T46 l0 ((rd_T48 l1 x8_1).f0)).f0)) ++ (⟨#[32]⟩ : ByteArray)) ++ t152) ++ (⟨#[45]⟩ : ByteArray)).size + t155.size ≤ 9223372036854775807 then (spec_JourneyText.l0 k1 l0 l1 ((((((x7_1 ++ (⟨#[32, 47, 32]⟩ : ByteArray)) ++ ((rd_T46 l0 ((rd_T48 l1 x8_1).f0)).f0)) ++ (⟨#[32]⟩ : ByteArray)) ++ t152) ++ (⟨#[45]⟩ : ByteArray)) ++ t155) (wrap64 (x8_1 + 1))) else (none)) = some r := H
         have A22 := Aside0.mk A220
         clear A220
         by_cases c23 : (((((x7_1 ++ (⟨#[32, 47, 32]⟩ : ByteArray)) ++ ((rd_T46 l0 ((rd_T48 l1 x8_1).f0)).f0)) ++ (⟨#[32]⟩ : ByteArray)) ++ t152) ++ (⟨#[45]⟩ : ByteArray)).size + t155.size ≤ 9223372036854775807
         rotate_left
         · (rw [if_neg c23] at H; exact absurd H (by simp))
         rw [if_pos c23] at H
         have c23b0 := eq_true c23
         have c23b1 : decide ((((((x7_1 ++ (⟨#[32, 47, 32]⟩ : ByteArray)) ++ ((rd_T46 l0 ((rd_T48 l1 x8_1).f0)).f0)) ++ (⟨#[32]⟩ : ByteArray)) ++ t152) ++ (⟨#[45]⟩ : ByteArray)).size + t155.size ≤ 9223372036854775807) = true := decide_eq_true c23
         try have c23b2 : (9223372036854775807 < (((((x7_1 ++ (⟨#[32, 47, 32]⟩ : ByteArray)) ++ ((rd_T46 l0 ((rd_T48 l1 x8_1).f0)).f0)) ++ (⟨#[32]⟩ : ByteArray)) ++ t152) ++ (⟨#[45]⟩ : ByteArray)).size + t155.size) = False := eq_false (Nat.not_lt.2 c23)
         try have c23b3 : (9223372036854775807 < x7_1.size + 3 + ((rd_T46 l0 ((rd_T48 l1 x8_1).f0)).f0).size + 1 + t152.size + 1 + t155.size) = False := by have q := c23b2; simp only [ByteArray.size_append] at q; exact q
         have H' := Aside0.mk H
         clear H
         have p147 : 0 ≤ (x8_1 : Int) := of_decide_eq_true nQ
         have q147 : x8_1 < (l1.length : Int) := of_decide_eq_true nQ
         obtain ⟨ad147, e147, hx147_0, hx147_1, hx147_2⟩ := at_T48 HR1.out x8_1 p147 q147
         cases e147
         replace hx147_0 := (HB.out.cell (World.block_lt_of_cell? w _ hx147_0)).trans hx147_0
         replace hx147_1 := (HB.out.cell (World.block_lt_of_cell? w _ hx147_1)).trans hx147_1
         replace hx147_2 := (HB.out.cell (World.block_lt_of_cell? w _ hx147_2)).trans hx147_2
         replace p147 := eq_true p147; replace q147 := eq_true q147
         have p148 : 0 ≤ (((rd_T48 l1 x8_1).f0) : Int) := of_decide_eq_true nQ
         have q148 : ((rd_T48 l1 x8_1).f0) < (l0.length : Int) := of_decide_eq_true nQ
         obtain ⟨ad148, A148_1, c148_1, e148, hx148_0, hx148_1, hl148_1, hi148_1⟩ := at_T46 HR0.out ((rd_T48 l1 x8_1).f0) p148 q148
         cases e148
         replace hx148_0 := (HB.out.cell (World.block_lt_of_cell? w _ hx148_0)).trans hx148_0
         replace hx148_1 := (HB.out.cell (World.block_lt_of_cell? w _ hx148_1)).trans hx148_1
         have HR148_1 := Aside0.mk hi148_1
         have HC148_1 := Aside0.mk hl148_1
         clear hi148_1 hl148_1; replace p148 := eq_true p148; replace q148 := eq_true q148
         try go_wp2_with (first | ((with_reducible refine gate_dst (N := 9) rfl ?_); refine box_event ?hg (N := 9) ?hd (cs := #[.string (⟨#[]⟩ : ByteArray), .slice none 0 0]) (t := 46) ?hr ?_; (case hd => rfl); (case hg => rfl); (case hr => first | (go_simp; done) | (go_simp; rfl)); intro gb149 hg w24 hbox hb; have n0_ := Aside0.mk (below_step (nH HB.out) hb); have n1_ := Aside0.mk (hbox); have n2_ := Aside0.mk ((by rw [hg]; exact (below_size (nH HB.out)) : w.heap.size ≤ gb149)); have n3_ := Aside0.mk ((by rw [hg]; exact (below_size (nH HB.out)) : w.heap.size ≤ gb149)); clear HB; have HB := n0_; have BK149 := n1_; have GW149 := n2_; have GE149 := n3_; clear n0_ n1_ n2_ n3_; clear hb hbox hg; have hcz25_0 : w24.cell? ⟨gb149, 0, none⟩ = some (.string (⟨#[]⟩ : ByteArray)) := (blk_cell BK149.out 0).trans rfl; have hcz25_1 : w24.cell? ⟨gb149, 1, none⟩ = some (.slice none 0 0) := (blk_cell BK149.out 1).trans rfl; have hfz25_0 := blk_frozen BK149.out 0; have hfz25_1 := blk_frozen BK149.out 1))
         have n0_ : Aside0 (((w24.setCell ⟨gb149, 0, none⟩ (.string ((rd_T46 l0 ((rd_T48 l1 x8_1).f0)).f0))).setCell ⟨gb149, 1, none⟩ (.slice A148_1 ((rd_T46 l0 ((rd_T48 l1 x8_1).f0)).f1).length c148_1)).heap[gb149]? = some (.cells #[.string ((rd_T46 l0 ((rd_T48 l1 x8_1).f0)).f0), .slice A148_1 ((rd_T46 l0 ((rd_T48 l1 x8_1).f0)).f1).length c148_1] 46 (0, 0))) := ⟨by (with_reducible repeat (first | refine blk_drewN ?_ _ | refine blk_drew ?_ | refine blk_alloc ?_ _)); refine blk_put (cs := #[.string ((rd_T46 l0 ((rd_T48 l1 x8_1).f0)).f0), .slice none 0 0]) ?_ 1 _ rfl; (with_reducible repeat (first | refine blk_drewN ?_ _ | refine blk_drew ?_ | refine blk_alloc ?_ _)); refine blk_put (cs := #[.string (⟨#[]⟩ : ByteArray), .slice none 0 0]) ?_ 0 _ rfl; (with_reducible repeat (first | refine blk_drewN ?_ _ | refine blk_drew ?_ | refine blk_alloc ?_ _)); exact BK149.out⟩
         have n1_ : Aside0 (Below w.heap.size w ((w24.setCell ⟨gb149, 0, none⟩ (.string ((rd_T46 l0 ((rd_T48 l1 x8_1).f0)).f0))).setCell ⟨gb149, 1, none⟩ (.slice A148_1 ((rd_T46 l0 ((rd_T48 l1 x8_1).f0)).f1).length c148_1))) := ⟨nH1 HB.out GE149.out⟩
         (try clear BK149); (try clear HB)
         generalize ((w24.setCell ⟨gb149, 0, none⟩ (.string ((rd_T46 l0 ((rd_T48 l1 x8_1).f0)).f0))).setCell ⟨gb149, 1, none⟩ (.slice A148_1 ((rd_T46 l0 ((rd_T48 l1 x8_1).f0)).f1).length c148_1)) = w26 at n0_ n1_ ⊢
         have BK149 := n0_; have HB := n1_; clear n0_ n1_
         have n0_ := Aside0.mk (blk_drew BK149.out)
         have n1_ := Aside0.mk (below_drew1 HB.out)
         clear BK149; clear HB; have BK149 := n0_; have HB := n1_; clear n0_ n1_
         have p150 : 0 ≤ (x8_1 : Int) := of_decide_eq_true nQ
         have q150 : x8_1 < (l1.length : Int) := of_decide_eq_true nQ
         obtain ⟨ad150, e150, hx150_0, hx150_1, hx150_2⟩ := at_T48 HR1.out x8_1 p150 q150
         have hw150_2 := hx150_2; have hw150_1 := hx150_1; have hw150_0 := hx150_0
         obtain rfl : ad147 = ad150 := (by injection e150)
         replace hx150_0 := (HB.out.cell (World.block_lt_of_cell? w _ hx150_0)).trans hx150_0
         replace hx150_1 := (HB.out.cell (World.block_lt_of_cell? w _ hx150_1)).trans hx150_1
         replace hx150_2 := (HB.out.cell (World.block_lt_of_cell? w _ hx150_2)).trans hx150_2
         replace p150 := eq_true p150; replace q150 := eq_true q150
         have p151 : 0 ≤ (((rd_T48 l1 x8_1).f1) : Int) := of_decide_eq_true nQ
         have q151 : ((rd_T48 l1 x8_1).f1) < (((rd_T46 l0 ((rd_T48 l1 x8_1).f0)).f1).length : Int) := of_decide_eq_true nQ
         obtain ⟨ad151, e151, hx151_0, hx151_1, hx151_2⟩ := at_T43 HR148_1.out ((rd_T48 l1 x8_1).f1) p151 q151
         have hw151_2 := hx151_2; have hw151_1 := hx151_1; have hw151_0 := hx151_0; cases e151
         replace hx151_0 := (HB.out.cell (World.block_lt_of_cell? w _ hx151_0)).trans hx151_0
         replace hx151_1 := (HB.out.cell (World.block_lt_of_cell? w _ hx151_1)).trans hx151_1
         replace hx151_2 := (HB.out.cell (World.block_lt_of_cell? w _ hx151_2)).trans hx151_2
         replace p151 := eq_true p151; replace q151 := eq_true q151
         have p153 : 0 ≤ (x8_1 : Int) := of_decide_eq_true nQ
         have q153 : x8_1 < (l1.length : Int) := of_decide_eq_true nQ
         obtain ⟨ad153, e153, hx153_0, hx153_1, hx153_2⟩ := at_T48 HR1.out x8_1 p153 q153
         have hw153_2 := hx153_2; have hw153_1 := hx153_1; have hw153_0 := hx153_0
         obtain rfl : ad147 = ad153 := (by injection e153)
         replace hx153_0 := (HB.out.cell (World.block_lt_of_cell? w _ hx153_0)).trans hx153_0
         replace hx153_1 := (HB.out.cell (World.block_lt_of_cell? w _ hx153_1)).trans hx153_1
         replace hx153_2 := (HB.out.cell (World.block_lt_of_cell? w _ hx153_2)).trans hx153_2
         replace p153 := eq_true p153; replace q153 := eq_true q153
         have p154 : 0 ≤ (((rd_T48 l1 x8_1).f2) : Int) := of_decide_eq_true nQ
         have q154 : ((rd_T48 l1 x8_1).f2) < (((rd_T46 l0 ((rd_T48 l1 x8_1).f0)).f1).length : Int) := of_decide_eq_true nQ
         obtain ⟨ad154, e154, hx154_0, hx154_1, hx154_2⟩ := at_T43 HR148_1.out ((rd_T48 l1 x8_1).f2) p154 q154
         have hw154_2 := hx154_2; have hw154_1 := hx154_1; have hw154_0 := hx154_0
         obtain rfl : ad151 = ad154 := (by injection e154)
         replace hx154_0 := (HB.out.cell (World.block_lt_of_cell? w _ hx154_0)).trans hx154_0
         replace hx154_1 := (HB.out.cell (World.block_lt_of_cell? w _ hx154_1)).trans hx154_1
         replace hx154_2 := (HB.out.cell (World.block_lt_of_cell? w _ hx154_2)).trans hx154_2
         replace p154 := eq_true p154; replace q154 := eq_true q154
         refine start_ (n := 31) (S := fun w' => w'.cell? ⟨gb149, 0, none⟩ = some (.string ((rd_T46 l0 ((rd_T48 l1 x8_1).f0)).f0)) ∧ w'.cell? ⟨gb149, 1, none⟩ = some (.slice (some ad151) ((rd_T46 l0 ((rd_T48 l1 x8_1).f0)).f1).length c148_1) ∧ w'.cell? (ad147.add ((x8_1).toNat * 3)) = some (.int .i64 ((rd_T48 l1 x8_1).f0)) ∧ w'.cell? ⟨(ad147.add ((x8_1).toNat * 3)).block, (ad147.add ((x8_1).toNat * 3)).off + 1, none⟩ = some (.int .i64 ((rd_T48 l1 x8_1).f1)) ∧ w'.cell? ⟨(ad147.add ((x8_1).toNat * 3)).block, (ad147.add ((x8_1).toNat * 3)).off + 2, none⟩ = some (.int .i64 ((rd_T48 l1 x8_1).f2)) ∧ w'.cell? (ad151.add ((((rd_T48 l1 x8_1).f1)).toNat * 3)) = some (.int .i64 ((rd_T43 ((rd_T46 l0 ((rd_T48 l1 x8_1).f0)).f1) ((rd_T48 l1 x8_1).f1)).f0)) ∧ w'.cell? ⟨(ad151.add ((((rd_T48 l1 x8_1).f1)).toNat * 3)).block, (ad151.add ((((rd_T48 l1 x8_1).f1)).toNat * 3)).off + 1, none⟩ = some (.int .i64 ((rd_T43 ((rd_T46 l0 ((rd_T48 l1 x8_1).f0)).f1) ((rd_T48 l1 x8_1).f1)).f1)) ∧ w'.cell? ⟨(ad151.add ((((rd_T48 l1 x8_1).f1)).toNat * 3)).block, (ad151.add ((((rd_T48 l1 x8_1).f1)).toNat * 3)).off + 2, none⟩ = some (.int .i64 ((rd_T43 ((rd_T46 l0 ((rd_T48 l1 x8_1).f0)).f1) ((rd_T48 l1 x8_1).f1)).f2)) ∧ w'.cell? (ad147.add ((x8_1).toNat * 3)) = some (.int .i64 ((rd_T48 l1 x8_1).f0)) ∧ w'.cell? ⟨(ad147.add ((x8_1).toNat * 3)).block, (ad147.add ((x8_1).toNat * 3)).off + 1, none⟩ = some (.int .i64 ((rd_T48 l1 x8_1).f1)) ∧ w'.cell? ⟨(ad147.add ((x8_1).toNat * 3)).block, (ad147.add ((x8_1).toNat * 3)).off + 2, none⟩ = some (.int .i64 ((rd_T48 l1 x8_1).f2)) ∧ w'.cell? (ad151.add ((((rd_T48 l1 x8_1).f2)).toNat * 3)) = some (.int .i64 ((rd_T43 ((rd_T46 l0 ((rd_T48 l1 x8_1).f0)).f1) ((rd_T48 l1 x8_1).f2)).f0)) ∧ w'.cell? ⟨(ad151.add ((((rd_T48 l1 x8_1).f2)).toNat * 3)).block, (ad151.add ((((rd_T48 l1 x8_1).f2)).toNat * 3)).off + 1, none⟩ = some (.int .i64 ((rd_T43 ((rd_T46 l0 ((rd_T48 l1 x8_1).f0)).f1) ((rd_T48 l1 x8_1).f2)).f1)) ∧ w'.cell? ⟨(ad151.add ((((rd_T48 l1 x8_1).f2)).toNat * 3)).block, (ad151.add ((((rd_T48 l1 x8_1).f2)).toNat * 3)).off + 2, none⟩ = some (.int .i64 ((rd_T43 ((rd_T46 l0 ((rd_T48 l1 x8_1).f0)).f1) ((rd_T48 l1 x8_1).f2)).f2))) (ds := []) #[F,F,F,F,F,F,F,F,F,F,F,F,F,F,F,F,F,F,F,F,F,F,F,F,F,F,F,F,F,F,F] (by kernel_rfl) rfl rfl ⟨(blk_cell BK149.out 0).trans rfl, (blk_cell BK149.out 1).trans rfl, (nC HB.out hw150_0 :), (nC HB.out hw150_1 :), (nC HB.out hw150_2 :), (nC HB.out hw151_0 :), (nC HB.out hw151_1 :), (nC HB.out hw151_2 :), (nC HB.out hw153_0 :), (nC HB.out hw153_1 :), (nC HB.out hw153_2 :), (nC HB.out hw154_0 :), (nC HB.out hw154_1 :), (nC HB.out hw154_2 :)⟩ (fun hHeld => ?_); refine with_tabW spec_JourneyText.tab10 spec_JourneyText.bits10 (fun HT_ HW_ => ?_)
         generalize w26.drew = w27 at BK149 HB hx150_0 hx150_1 hx150_2 hx151_0 hx151_1 hx151_2 hx153_0 hx153_1 hx153_2 hx154_0 hx154_1 hx154_2 hHeld ⊢
         refine pU 0 (some 33) #[T,F,F,F,F,F,F,F,F,F,F,F,F,F,F,F,F,F,F,F,F,F,F,F,F,F,F,F,F,F,F] rfl rfl HT_.out ?_
         refine pU 1 (some 34) #[T,T,F,F,F,F,F,F,F,F,F,F,F,F,F,F,F,F,F,F,F,F,F,F,F,F,F,F,F,F,F] rfl rfl HT_.out ?_
         refine pU 5 (some 38) #[T,T,F,F,F,T,F,F,F,F,F,F,F,F,F,F,F,F,F,F,F,F,F,F,F,F,F,F,F,F,F] rfl rfl HT_.out ?_
         refine pU 7 (some 40) #[T,T,F,F,F,T,F,T,F,F,F,F,F,F,F,F,F,F,F,F,F,F,F,F,F,F,F,F,F,F,F] rfl rfl HT_.out ?_
         refine pU 8 (some 41) #[T,T,F,F,F,T,F,T,T,F,F,F,F,F,F,F,F,F,F,F,F,F,F,F,F,F,F,F,F,F,F] rfl rfl HT_.out ?_
         refine pU 9 (some 42) #[T,T,F,F,F,T,F,T,T,T,F,F,F,F,F,F,F,F,F,F,F,F,F,F,F,F,F,F,F,F,F] rfl rfl HT_.out ?_
         refine pU 10 (some 43) #[T,T,F,F,F,T,F,T,T,T,T,F,F,F,F,F,F,F,F,F,F,F,F,F,F,F,F,F,F,F,F] rfl rfl HT_.out ?_
         refine pU 18 (some 51) #[T,T,F,F,F,T,F,T,T,T,T,F,F,F,F,F,F,F,T,F,F,F,F,F,F,F,F,F,F,F,F] rfl rfl HT_.out ?_
         refine pU 20 (some 53) #[T,T,F,F,F,T,F,T,T,T,T,F,F,F,F,F,F,F,T,F,T,F,F,F,F,F,F,F,F,F,F] rfl rfl HT_.out ?_
         refine pU 21 (some 54) #[T,T,F,F,F,T,F,T,T,T,T,F,F,F,F,F,F,F,T,F,T,T,F,F,F,F,F,F,F,F,F] rfl rfl HT_.out ?_
         refine pU 22 (some 55) #[T,T,F,F,F,T,F,T,T,T,T,F,F,F,F,F,F,F,T,F,T,T,T,F,F,F,F,F,F,F,F] rfl rfl HT_.out ?_
         refine pU 23 (some 56) #[T,T,F,F,F,T,F,T,T,T,T,F,F,F,F,F,F,F,T,F,T,T,T,T,F,F,F,F,F,F,F] rfl rfl HT_.out ?_
         refine tU14 2 (some 35) #[T,T,T,F,F,T,F,T,T,T,T,F,F,F,F,F,F,F,T,F,T,T,T,T,F,F,F,F,F,F,F] rfl rfl HT_.out HW_.out hHeld ?_
         refine pU 3 (some 36) #[T,T,T,T,F,T,F,T,T,T,T,F,F,F,F,F,F,F,T,F,T,T,T,T,F,F,F,F,F,F,F] rfl rfl HT_.out ?_
         refine pU 4 (some 37) #[T,T,T,T,T,T,F,T,T,T,T,F,F,F,F,F,F,F,T,F,T,T,T,T,F,F,F,F,F,F,F] rfl rfl HT_.out ?_
         refine tU14 6 (some 39) #[T,T,T,T,T,T,T,T,T,T,T,F,F,F,F,F,F,F,T,F,T,T,T,T,F,F,F,F,F,F,F] rfl rfl HT_.out HW_.out hHeld ?_
         refine tU14 11 (some 44) #[T,T,T,T,T,T,T,T,T,T,T,T,F,F,F,F,F,F,T,F,T,T,T,T,F,F,F,F,F,F,F] rfl rfl HT_.out HW_.out hHeld ?_
         refine pU 12 (some 45) #[T,T,T,T,T,T,T,T,T,T,T,T,T,F,F,F,F,F,T,F,T,T,T,T,F,F,F,F,F,F,F] rfl rfl HT_.out ?_
         refine pU 13 (some 46) #[T,T,T,T,T,T,T,T,T,T,T,T,T,T,F,F,F,F,T,F,T,T,T,T,F,F,F,F,F,F,F] rfl rfl HT_.out ?_
         refine tU14 14 (some 47) #[T,T,T,T,T,T,T,T,T,T,T,T,T,T,T,F,F,F,T,F,T,T,T,T,F,F,F,F,F,F,F] rfl rfl HT_.out HW_.out hHeld ?_
         refine tU14 19 (some 52) #[T,T,T,T,T,T,T,T,T,T,T,T,T,T,T,F,F,F,T,T,T,T,T,T,F,F,F,F,F,F,F] rfl rfl HT_.out HW_.out hHeld ?_
         refine tU14 24 (some 57) #[T,T,T,T,T,T,T,T,T,T,T,T,T,T,T,F,F,F,T,T,T,T,T,T,T,F,F,F,F,F,F] rfl rfl HT_.out HW_.out hHeld ?_
         refine pU 25 (some 58) #[T,T,T,T,T,T,T,T,T,T,T,T,T,T,T,F,F,F,T,T,T,T,T,T,T,T,F,F,F,F,F] rfl rfl HT_.out ?_
         refine pU 26 (some 59) #[T,T,T,T,T,T,T,T,T,T,T,T,T,T,T,F,F,F,T,T,T,T,T,T,T,T,T,F,F,F,F] rfl rfl HT_.out ?_
         refine tU14 27 (some 60) #[T,T,T,T,T,T,T,T,T,T,T,T,T,T,T,F,F,F,T,T,T,T,T,T,T,T,T,T,F,F,F] rfl rfl HT_.out HW_.out hHeld ?_
         refine one_ (i := 15) (N := some 48) #[T,T,T,T,T,T,T,T,T,T,T,T,T,T,T,T,F,F,T,T,T,T,T,T,T,T,T,T,F,F,F] rfl rfl (one_of HT_.out (by kernel_rfl)) (by decide) (fun K hK => ?_)
         refine goes_ Tryd.func22 (by kernel_rfl) rfl #[.int .i64 ((rd_T43 ((rd_T46 l0 ((rd_T48 l1 x8_1).f0)).f1) ((rd_T48 l1 x8_1).f1)).f2)] (by rfl) rfl rfl (by (try simp only [List.map_toArray, List.map_cons, List.map_nil]); first | done | rfl | (simp only [List.length_drop, List.length_take]; rfl)) ?_
         with_reducible refine (spec_TimeText.calls k1 ((rd_T43 ((rd_T46 l0 ((rd_T48 l1 x8_1).f0)).f1) ((rd_T48 l1 x8_1).f1)).f2) t152 _ A17.out).mono ?_
         rintro e w28 ⟨rfl, hb⟩
         refine ⟨_, rfl, ?_⟩
         have n0_ := Aside0.mk (blk_below (g := gb149) (o := .cells #[.string ((rd_T46 l0 ((rd_T48 l1 x8_1).f0)).f0), .slice (some ad151) ((rd_T46 l0 ((rd_T48 l1 x8_1).f0)).f1).length c148_1] 46 (0, 0)) (nB BK149.out) hb)
         have n1_ := Aside0.mk (below_step (nH1 HB.out GE149.out) hb)
         clear BK149; clear HB; have BK149 := n0_; have HB := n1_; clear n0_ n1_; (try clear hb); (try clear hb2); (try clear hk); (try clear hi)
         refine hK.out _ _ ⟨(blk_cell BK149.out 0).trans rfl, (blk_cell BK149.out 1).trans rfl, (nC HB.out hw150_0 :), (nC HB.out hw150_1 :), (nC HB.out hw150_2 :), (nC HB.out hw151_0 :), (nC HB.out hw151_1 :), (nC HB.out hw151_2 :), (nC HB.out hw153_0 :), (nC HB.out hw153_1 :), (nC HB.out hw153_2 :), (nC HB.out hw154_0 :), (nC HB.out hw154_1 :), (nC HB.out hw154_2 :)⟩ (fun hHeld => ?_)
         clear hK K
         refine norm_ (a' := ?_) ?_ ?_
         rotate_left
         · show Act.put _ (some 48) _ = _
           simp only [Act.put, List.setIfInBounds_toArray, List.set_cons_zero, List.set_cons_succ, i64_w, i32_w]
           rfl
         refine pU 16 (some 49) #[T,T,T,T,T,T,T,T,T,T,T,T,T,T,T,T,T,F,T,T,T,T,T,T,T,T,T,T,F,F,F] rfl rfl HT_.out ?_
         refine pU 17 (some 50) #[T,T,T,T,T,T,T,T,T,T,T,T,T,T,T,T,T,T,T,T,T,T,T,T,T,T,T,T,F,F,F] rfl rfl HT_.out ?_
         refine one_ (i := 28) (N := some 61) #[T,T,T,T,T,T,T,T,T,T,T,T,T,T,T,T,T,T,T,T,T,T,T,T,T,T,T,T,T,F,F] rfl rfl (one_of HT_.out (by kernel_rfl)) (by decide) (fun K hK => ?_)
         refine goes_ Tryd.func22 (by kernel_rfl) rfl #[.int .i64 ((rd_T43 ((rd_T46 l0 ((rd_T48 l1 x8_1).f0)).f1) ((rd_T48 l1 x8_1).f2)).f1)] (by rfl) rfl rfl (by (try simp only [List.map_toArray, List.map_cons, List.map_nil]); first | done | rfl | (simp only [List.length_drop, List.length_take]; rfl)) ?_
         with_reducible refine (spec_TimeText.calls k1 ((rd_T43 ((rd_T46 l0 ((rd_T48 l1 x8_1).f0)).f1) ((rd_T48 l1 x8_1).f2)).f1) t155 _ A22.out).mono ?_
         rintro e w29 ⟨rfl, hb⟩
         refine ⟨_, rfl, ?_⟩
         have n0_ := Aside0.mk (blk_below (g := gb149) (o := .cells #[.string ((rd_T46 l0 ((rd_T48 l1 x8_1).f0)).f0), .slice (some ad151) ((rd_T46 l0 ((rd_T48 l1 x8_1).f0)).f1).length c148_1] 46 (0, 0)) (nB BK149.out) hb)
         have n1_ := Aside0.mk (below_step (nH1 HB.out GE149.out) hb)
         clear BK149; clear HB; have BK149 := n0_; have HB := n1_; clear n0_ n1_; (try clear hb); (try clear hb2); (try clear hk); (try clear hi)
         refine hK.out _ _ ⟨(blk_cell BK149.out 0).trans rfl, (blk_cell BK149.out 1).trans rfl, (nC HB.out hw150_0 :), (nC HB.out hw150_1 :), (nC HB.out hw150_2 :), (nC HB.out hw151_0 :), (nC HB.out hw151_1 :), (nC HB.out hw151_2 :), (nC HB.out hw153_0 :), (nC HB.out hw153_1 :), (nC HB.out hw153_2 :), (nC HB.out hw154_0 :), (nC HB.out hw154_1 :), (nC HB.out hw154_2 :)⟩ (fun hHeld => ?_)
         clear hK K
         refine norm_ (a' := ?_) ?_ ?_
         rotate_left
         · show Act.put _ (some 61) _ = _
           simp only [Act.put, List.setIfInBounds_toArray, List.set_cons_zero, List.set_cons_succ, i64_w, i32_w]
           rfl
         refine pU 29 (some 62) #[T,T,T,T,T,T,T,T,T,T,T,T,T,T,T,T,T,T,T,T,T,T,T,T,T,T,T,T,T,T,F] rfl rfl HT_.out ?_
         refine pU 30 (some 7) #[T,T,T,T,T,T,T,T,T,T,T,T,T,T,T,T,T,T,T,T,T,T,T,T,T,T,T,T,T,T,T] rfl rfl HT_.out ?_
         refine done_ (done_of HT_.out (by kernel_rfl)) ?_
         try go_wp2
         go_roundg k1
         case measure => have := HK1.out; omega
         case rel => exact ⟨((((((x7_1 ++ (⟨#[32, 47, 32]⟩ : ByteArray)) ++ ((rd_T46 l0 ((rd_T48 l1 x8_1).f0)).f0)) ++ (⟨#[32]⟩ : ByteArray)) ++ t152) ++ (⟨#[45]⟩ : ByteArray)) ++ t155), (wrap64 (x8_1 + 1)), nS, nS, H', ⟨by have := HK1.out; omega⟩, ⟨nH1 HB.out GE149.out⟩⟩
       · rw [if_neg c11] at H
         have c11b0 : decide (0 < x8_1) = false := decide_eq_false c11
         clear c11
         by_cases c30 : x7_1.size + ((rd_T46 l0 ((rd_T48 l1 x8_1).f0)).f0).size ≤ 9223372036854775807
         rotate_left
         · (rw [if_neg c30] at H; exact absurd H (by simp))
         rw [if_pos c30] at H
         have c30b0 := eq_true c30
         have c30b1 : decide (x7_1.size + ((rd_T46 l0 ((rd_T48 l1 x8_1).f0)).f0).size ≤ 9223372036854775807) = true := decide_eq_true c30
         try have c30b2 : (9223372036854775807 < x7_1.size + ((rd_T46 l0 ((rd_T48 l1 x8_1).f0)).f0).size) = False := eq_false (Nat.not_lt.2 c30)
         by_cases c31 : (x7_1 ++ ((rd_T46 l0 ((rd_T48 l1 x8_1).f0)).f0)).size + 1 ≤ 9223372036854775807
         rotate_left
         · (rw [if_neg c31] at H; exact absurd H (by simp))
         rw [if_pos c31] at H
         have c31b0 := eq_true c31
         have c31b1 : decide ((x7_1 ++ ((rd_T46 l0 ((rd_T48 l1 x8_1).f0)).f0)).size + 1 ≤ 9223372036854775807) = true := decide_eq_true c31
         try have c31b2 : (9223372036854775807 < (x7_1 ++ ((rd_T46 l0 ((rd_T48 l1 x8_1).f0)).f0)).size + 1) = False := eq_false (Nat.not_lt.2 c31)
         try have c31b3 : (9223372036854775807 < x7_1.size + ((rd_T46 l0 ((rd_T48 l1 x8_1).f0)).f0).size + 1) = False := by have q := c31b2; simp only [ByteArray.size_append] at q; exact q
         by_cases c32 : 0 ≤ ((rd_T48 l1 x8_1).f1)
         rotate_left
         · (rw [if_neg c32] at H; exact absurd H (by simp))
         rw [if_pos c32] at H
         have c32b0 : decide (0 ≤ ((rd_T48 l1 x8_1).f1)) = true := decide_eq_true c32
         clear c32
         by_cases c33 : ((rd_T48 l1 x8_1).f1) < (((rd_T46 l0 ((rd_T48 l1 x8_1).f0)).f1).length : Int)
         rotate_left
         · (rw [if_neg c33] at H; exact absurd H (by simp))
         rw [if_pos c33] at H
         have c33b0 : decide (((rd_T48 l1 x8_1).f1) < (((rd_T46 l0 ((rd_T48 l1 x8_1).f0)).f1).length : Int)) = true := decide_eq_true c33
         clear c33
         replace H := Option.bind_eq_some_iff.mp H
         obtain ⟨t158, A340, H⟩ := H
         replace H : (if ((x7_1 ++ ((rd_T46 l0 ((rd_T48 l1 x8_1).f0)).f0)) ++ (⟨#[32]⟩ : ByteArray)).size + t158.size ≤ 9223372036854775807 then (if (((x7_1 ++ ((rd_T46 l0 ((rd_T48 l1 x8_1).f0)).f0)) ++ (⟨#[32]⟩ : ByteArray)) ++ t158).size + 1 ≤ 9223372036854775807 then (if 0 ≤ ((rd_T48 l1 x8_1).f2) then (if ((rd_T48 l1 x8_1).f2) < (((rd_T46 l0 ((rd_T48 l1 x8_1).f0)).f1).length : Int) then ((spec_TimeText.f k1 ((rd_T43 ((rd_T46 l0 ((rd_T48 l1 x8_1).f0)).f1) ((rd_T48 l1 x8_1).f2)).f1)).bind fun t161 => (if ((((x7_1 ++ ((rd_T46 l0 ((rd_T48 l1 x8_1).f0)).f0)) ++ (⟨#[32]⟩ : ByteArray)) ++ t158) ++ (⟨#[45]⟩ : ByteArray)).size + t161.size ≤ 9223372036854775807 then (spec_JourneyText.l0 k1 l0 l1 (((((x7_1 ++ ((rd_T46 l0 ((rd_T48 l1 x8_1).f0)).f0)) ++ (⟨#[32]⟩ : ByteArray)) ++ t158) ++ (⟨#[45]⟩ : ByteArray)) ++ t161) (wrap64 (x8_1 + 1))) else (none))) else (none)) else (none)) else (none)) else (none)) = some r := H
         have A34 := Aside0.mk A340
         clear A340
         by_cases c35 : ((x7_1 ++ ((rd_T46 l0 ((rd_T48 l1 x8_1).f0)).f0)) ++ (⟨#[32]⟩ : ByteArray)).size + t158.size ≤ 9223372036854775807
         rotate_left
         · (rw [if_neg c35] at H; exact absurd H (by simp))
         rw [if_pos c35] at H
         have c35b0 := eq_true c35
         have c35b1 : decide (((x7_1 ++ ((rd_T46 l0 ((rd_T48 l1 x8_1).f0)).f0)) ++ (⟨#[32]⟩ : ByteArray)).size + t158.size ≤ 9223372036854775807) = true := decide_eq_true c35
         try have c35b2 : (9223372036854775807 < ((x7_1 ++ ((rd_T46 l0 ((rd_T48 l1 x8_1).f0)).f0)) ++ (⟨#[32]⟩ : ByteArray)).size + t158.size) = False := eq_false (Nat.not_lt.2 c35)
         try have c35b3 : (9223372036854775807 < x7_1.size + ((rd_T46 l0 ((rd_T48 l1 x8_1).f0)).f0).size + 1 + t158.size) = False := by have q := c35b2; simp only [ByteArray.size_append] at q; exact q
         by_cases c36 : (((x7_1 ++ ((rd_T46 l0 ((rd_T48 l1 x8_1).f0)).f0)) ++ (⟨#[32]⟩ : ByteArray)) ++ t158).size + 1 ≤ 9223372036854775807
         rotate_left
         · (rw [if_neg c36] at H; exact absurd H (by simp))
         rw [if_pos c36] at H
         have c36b0 := eq_true c36
         have c36b1 : decide ((((x7_1 ++ ((rd_T46 l0 ((rd_T48 l1 x8_1).f0)).f0)) ++ (⟨#[32]⟩ : ByteArray)) ++ t158).size + 1 ≤ 9223372036854775807) = true := decide_eq_true c36
         try have c36b2 : (9223372036854775807 < (((x7_1 ++ ((rd_T46 l0 ((rd_T48 l1 x8_1).f0)).f0)) ++ (⟨#[32]⟩ : ByteArray)) ++ t158).size + 1) = False := eq_false (Nat.not_lt.2 c36)
         try have c36b3 : (9223372036854775807 < x7_1.size + ((rd_T46 l0 ((rd_T48 l1 x8_1).f0)).f0).size + 1 + t158.size + 1) = False := by have q := c36b2; simp only [ByteArray.size_append] at q; exact q
         by_cases c37 : 0 ≤ ((rd_T48 l1 x8_1).f2)
         rotate_left
         · (rw [if_neg c37] at H; exact absurd H (by simp))
         rw [if_pos c37] at H
         have c37b0 : decide (0 ≤ ((rd_T48 l1 x8_1).f2)) = true := decide_eq_true c37
         clear c37
         by_cases c38 : ((rd_T48 l1 x8_1).f2) < (((rd_T46 l0 ((rd_T48 l1 x8_1).f0)).f1).length : Int)
         rotate_left
         · (rw [if_neg c38] at H; exact absurd H (by simp))
         rw [if_pos c38] at H
         have c38b0 : decide (((rd_T48 l1 x8_1).f2) < (((rd_T46 l0 ((rd_T48 l1 x8_1).f0)).f1).length : Int)) = true := decide_eq_true c38
         clear c38
         replace H := Option.bind_eq_some_iff.mp H
         obtain ⟨t161, A390, H⟩ := H
         replace H : (if ((((x7_1 ++ ((rd_T46 l0 ((rd_T48 l1 x8_1).f0)).f0)) ++ (⟨#[32]⟩ : ByteArray)) ++ t158) ++ (⟨#[45]⟩ : ByteArray)).size + t161.size ≤ 9223372036854775807 then (spec_JourneyText.l0 k1 l0 l1 (((((x7_1 ++ ((rd_T46 l0 ((rd_T48 l1 x8_1).f0)).f0)) ++ (⟨#[32]⟩ : ByteArray)) ++ t158) ++ (⟨#[45]⟩ : ByteArray)) ++ t161) (wrap64 (x8_1 + 1))) else (none)) = some r := H
         have A39 := Aside0.mk A390
         clear A390
         by_cases c40 : ((((x7_1 ++ ((rd_T46 l0 ((rd_T48 l1 x8_1).f0)).f0)) ++ (⟨#[32]⟩ : ByteArray)) ++ t158) ++ (⟨#[45]⟩ : ByteArray)).size + t161.size ≤ 9223372036854775807
         rotate_left
         · (rw [if_neg c40] at H; exact absurd H (by simp))
         rw [if_pos c40] at H
         have c40b0 := eq_true c40
         have c40b1 : decide (((((x7_1 ++ ((rd_T46 l0 ((rd_T48 l1 x8_1).f0)).f0)) ++ (⟨#[32]⟩ : ByteArray)) ++ t158) ++ (⟨#[45]⟩ : ByteArray)).size + t161.size ≤ 9223372036854775807) = true := decide_eq_true c40
         try have c40b2 : (9223372036854775807 < ((((x7_1 ++ ((rd_T46 l0 ((rd_T48 l1 x8_1).f0)).f0)) ++ (⟨#[32]⟩ : ByteArray)) ++ t158) ++ (⟨#[45]⟩ : ByteArray)).size + t161.size) = False := eq_false (Nat.not_lt.2 c40)
         try have c40b3 : (9223372036854775807 < x7_1.size + ((rd_T46 l0 ((rd_T48 l1 x8_1).f0)).f0).size + 1 + t158.size + 1 + t161.size) = False := by have q := c40b2; simp only [ByteArray.size_append] at q; exact q
         have H' := Aside0.mk H
         clear H
         have p147 : 0 ≤ (x8_1 : Int) := of_decide_eq_true nQ
         have q147 : x8_1 < (l1.length : Int) := of_decide_eq_true nQ
         obtain ⟨ad147, e147, hx147_0, hx147_1, hx147_2⟩ := at_T48 HR1.out x8_1 p147 q147
         cases e147
         replace hx147_0 := (HB.out.cell (World.block_lt_of_cell? w _ hx147_0)).trans hx147_0
         replace hx147_1 := (HB.out.cell (World.block_lt_of_cell? w _ hx147_1)).trans hx147_1
         replace hx147_2 := (HB.out.cell (World.block_lt_of_cell? w _ hx147_2)).trans hx147_2
         replace p147 := eq_true p147; replace q147 := eq_true q147
         have p148 : 0 ≤ (((rd_T48 l1 x8_1).f0) : Int) := of_decide_eq_true nQ
         have q148 : ((rd_T48 l1 x8_1).f0) < (l0.length : Int) := of_decide_eq_true nQ
         obtain ⟨ad148, A148_1, c148_1, e148, hx148_0, hx148_1, hl148_1, hi148_1⟩ := at_T46 HR0.out ((rd_T48 l1 x8_1).f0) p148 q148
         cases e148
         replace hx148_0 := (HB.out.cell (World.block_lt_of_cell? w _ hx148_0)).trans hx148_0
         replace hx148_1 := (HB.out.cell (World.block_lt_of_cell? w _ hx148_1)).trans hx148_1
         have HR148_1 := Aside0.mk hi148_1
         have HC148_1 := Aside0.mk hl148_1
         clear hi148_1 hl148_1; replace p148 := eq_true p148; replace q148 := eq_true q148
         try go_wp2_with (first | ((with_reducible refine gate_dst (N := 9) rfl ?_); refine box_event ?hg (N := 9) ?hd (cs := #[.string (⟨#[]⟩ : ByteArray), .slice none 0 0]) (t := 46) ?hr ?_; (case hd => rfl); (case hg => rfl); (case hr => first | (go_simp; done) | (go_simp; rfl)); intro gb149 hg w41 hbox hb; have n0_ := Aside0.mk (below_step (nH HB.out) hb); have n1_ := Aside0.mk (hbox); have n2_ := Aside0.mk ((by rw [hg]; exact (below_size (nH HB.out)) : w.heap.size ≤ gb149)); have n3_ := Aside0.mk ((by rw [hg]; exact (below_size (nH HB.out)) : w.heap.size ≤ gb149)); clear HB; have HB := n0_; have BK149 := n1_; have GW149 := n2_; have GE149 := n3_; clear n0_ n1_ n2_ n3_; clear hb hbox hg; have hcz42_0 : w41.cell? ⟨gb149, 0, none⟩ = some (.string (⟨#[]⟩ : ByteArray)) := (blk_cell BK149.out 0).trans rfl; have hcz42_1 : w41.cell? ⟨gb149, 1, none⟩ = some (.slice none 0 0) := (blk_cell BK149.out 1).trans rfl; have hfz42_0 := blk_frozen BK149.out 0; have hfz42_1 := blk_frozen BK149.out 1))
         have n0_ : Aside0 (((w41.setCell ⟨gb149, 0, none⟩ (.string ((rd_T46 l0 ((rd_T48 l1 x8_1).f0)).f0))).setCell ⟨gb149, 1, none⟩ (.slice A148_1 ((rd_T46 l0 ((rd_T48 l1 x8_1).f0)).f1).length c148_1)).heap[gb149]? = some (.cells #[.string ((rd_T46 l0 ((rd_T48 l1 x8_1).f0)).f0), .slice A148_1 ((rd_T46 l0 ((rd_T48 l1 x8_1).f0)).f1).length c148_1] 46 (0, 0))) := ⟨by (with_reducible repeat (first | refine blk_drewN ?_ _ | refine blk_drew ?_ | refine blk_alloc ?_ _)); refine blk_put (cs := #[.string ((rd_T46 l0 ((rd_T48 l1 x8_1).f0)).f0), .slice none 0 0]) ?_ 1 _ rfl; (with_reducible repeat (first | refine blk_drewN ?_ _ | refine blk_drew ?_ | refine blk_alloc ?_ _)); refine blk_put (cs := #[.string (⟨#[]⟩ : ByteArray), .slice none 0 0]) ?_ 0 _ rfl; (with_reducible repeat (first | refine blk_drewN ?_ _ | refine blk_drew ?_ | refine blk_alloc ?_ _)); exact BK149.out⟩
         have n1_ : Aside0 (Below w.heap.size w ((w41.setCell ⟨gb149, 0, none⟩ (.string ((rd_T46 l0 ((rd_T48 l1 x8_1).f0)).f0))).setCell ⟨gb149, 1, none⟩ (.slice A148_1 ((rd_T46 l0 ((rd_T48 l1 x8_1).f0)).f1).length c148_1))) := ⟨nH1 HB.out GE149.out⟩
         (try clear BK149); (try clear HB)
         generalize ((w41.setCell ⟨gb149, 0, none⟩ (.string ((rd_T46 l0 ((rd_T48 l1 x8_1).f0)).f0))).setCell ⟨gb149, 1, none⟩ (.slice A148_1 ((rd_T46 l0 ((rd_T48 l1 x8_1).f0)).f1).length c148_1)) = w43 at n0_ n1_ ⊢
         have BK149 := n0_; have HB := n1_; clear n0_ n1_
         have n0_ := Aside0.mk (blk_drew BK149.out)
         have n1_ := Aside0.mk (below_drew1 HB.out)
         clear BK149; clear HB; have BK149 := n0_; have HB := n1_; clear n0_ n1_
         have p156 : 0 ≤ (x8_1 : Int) := of_decide_eq_true nQ
         have q156 : x8_1 < (l1.length : Int) := of_decide_eq_true nQ
         obtain ⟨ad156, e156, hx156_0, hx156_1, hx156_2⟩ := at_T48 HR1.out x8_1 p156 q156
         have hw156_2 := hx156_2; have hw156_1 := hx156_1; have hw156_0 := hx156_0
         obtain rfl : ad147 = ad156 := (by injection e156)
         replace hx156_0 := (HB.out.cell (World.block_lt_of_cell? w _ hx156_0)).trans hx156_0
         replace hx156_1 := (HB.out.cell (World.block_lt_of_cell? w _ hx156_1)).trans hx156_1
         replace hx156_2 := (HB.out.cell (World.block_lt_of_cell? w _ hx156_2)).trans hx156_2
         replace p156 := eq_true p156; replace q156 := eq_true q156
         have p157 : 0 ≤ (((rd_T48 l1 x8_1).f1) : Int) := of_decide_eq_true nQ
         have q157 : ((rd_T48 l1 x8_1).f1) < (((rd_T46 l0 ((rd_T48 l1 x8_1).f0)).f1).length : Int) := of_decide_eq_true nQ
         obtain ⟨ad157, e157, hx157_0, hx157_1, hx157_2⟩ := at_T43 HR148_1.out ((rd_T48 l1 x8_1).f1) p157 q157
         have hw157_2 := hx157_2; have hw157_1 := hx157_1; have hw157_0 := hx157_0; cases e157
         replace hx157_0 := (HB.out.cell (World.block_lt_of_cell? w _ hx157_0)).trans hx157_0
         replace hx157_1 := (HB.out.cell (World.block_lt_of_cell? w _ hx157_1)).trans hx157_1
         replace hx157_2 := (HB.out.cell (World.block_lt_of_cell? w _ hx157_2)).trans hx157_2
         replace p157 := eq_true p157; replace q157 := eq_true q157
         have p159 : 0 ≤ (x8_1 : Int) := of_decide_eq_true nQ
         have q159 : x8_1 < (l1.length : Int) := of_decide_eq_true nQ
         obtain ⟨ad159, e159, hx159_0, hx159_1, hx159_2⟩ := at_T48 HR1.out x8_1 p159 q159
         have hw159_2 := hx159_2; have hw159_1 := hx159_1; have hw159_0 := hx159_0
         obtain rfl : ad147 = ad159 := (by injection e159)
         replace hx159_0 := (HB.out.cell (World.block_lt_of_cell? w _ hx159_0)).trans hx159_0
         replace hx159_1 := (HB.out.cell (World.block_lt_of_cell? w _ hx159_1)).trans hx159_1
         replace hx159_2 := (HB.out.cell (World.block_lt_of_cell? w _ hx159_2)).trans hx159_2
         replace p159 := eq_true p159; replace q159 := eq_true q159
         have p160 : 0 ≤ (((rd_T48 l1 x8_1).f2) : Int) := of_decide_eq_true nQ
         have q160 : ((rd_T48 l1 x8_1).f2) < (((rd_T46 l0 ((rd_T48 l1 x8_1).f0)).f1).length : Int) := of_decide_eq_true nQ
         obtain ⟨ad160, e160, hx160_0, hx160_1, hx160_2⟩ := at_T43 HR148_1.out ((rd_T48 l1 x8_1).f2) p160 q160
         have hw160_2 := hx160_2; have hw160_1 := hx160_1; have hw160_0 := hx160_0
         obtain rfl : ad157 = ad160 := (by injection e160)
         replace hx160_0 := (HB.out.cell (World.block_lt_of_cell? w _ hx160_0)).trans hx160_0
         replace hx160_1 := (HB.out.cell (World.block_lt_of_cell? w _ hx160_1)).trans hx160_1
         replace hx160_2 := (HB.out.cell (World.block_lt_of_cell? w _ hx160_2)).trans hx160_2
         replace p160 := eq_true p160; replace q160 := eq_true q160
         refine start_ (n := 31) (S := fun w' => w'.cell? ⟨gb149, 0, none⟩ = some (.string ((rd_T46 l0 ((rd_T48 l1 x8_1).f0)).f0)) ∧ w'.cell? ⟨gb149, 1, none⟩ = some (.slice (some ad157) ((rd_T46 l0 ((rd_T48 l1 x8_1).f0)).f1).length c148_1) ∧ w'.cell? (ad147.add ((x8_1).toNat * 3)) = some (.int .i64 ((rd_T48 l1 x8_1).f0)) ∧ w'.cell? ⟨(ad147.add ((x8_1).toNat * 3)).block, (ad147.add ((x8_1).toNat * 3)).off + 1, none⟩ = some (.int .i64 ((rd_T48 l1 x8_1).f1)) ∧ w'.cell? ⟨(ad147.add ((x8_1).toNat * 3)).block, (ad147.add ((x8_1).toNat * 3)).off + 2, none⟩ = some (.int .i64 ((rd_T48 l1 x8_1).f2)) ∧ w'.cell? (ad157.add ((((rd_T48 l1 x8_1).f1)).toNat * 3)) = some (.int .i64 ((rd_T43 ((rd_T46 l0 ((rd_T48 l1 x8_1).f0)).f1) ((rd_T48 l1 x8_1).f1)).f0)) ∧ w'.cell? ⟨(ad157.add ((((rd_T48 l1 x8_1).f1)).toNat * 3)).block, (ad157.add ((((rd_T48 l1 x8_1).f1)).toNat * 3)).off + 1, none⟩ = some (.int .i64 ((rd_T43 ((rd_T46 l0 ((rd_T48 l1 x8_1).f0)).f1) ((rd_T48 l1 x8_1).f1)).f1)) ∧ w'.cell? ⟨(ad157.add ((((rd_T48 l1 x8_1).f1)).toNat * 3)).block, (ad157.add ((((rd_T48 l1 x8_1).f1)).toNat * 3)).off + 2, none⟩ = some (.int .i64 ((rd_T43 ((rd_T46 l0 ((rd_T48 l1 x8_1).f0)).f1) ((rd_T48 l1 x8_1).f1)).f2)) ∧ w'.cell? (ad147.add ((x8_1).toNat * 3)) = some (.int .i64 ((rd_T48 l1 x8_1).f0)) ∧ w'.cell? ⟨(ad147.add ((x8_1).toNat * 3)).block, (ad147.add ((x8_1).toNat * 3)).off + 1, none⟩ = some (.int .i64 ((rd_T48 l1 x8_1).f1)) ∧ w'.cell? ⟨(ad147.add ((x8_1).toNat * 3)).block, (ad147.add ((x8_1).toNat * 3)).off + 2, none⟩ = some (.int .i64 ((rd_T48 l1 x8_1).f2)) ∧ w'.cell? (ad157.add ((((rd_T48 l1 x8_1).f2)).toNat * 3)) = some (.int .i64 ((rd_T43 ((rd_T46 l0 ((rd_T48 l1 x8_1).f0)).f1) ((rd_T48 l1 x8_1).f2)).f0)) ∧ w'.cell? ⟨(ad157.add ((((rd_T48 l1 x8_1).f2)).toNat * 3)).block, (ad157.add ((((rd_T48 l1 x8_1).f2)).toNat * 3)).off + 1, none⟩ = some (.int .i64 ((rd_T43 ((rd_T46 l0 ((rd_T48 l1 x8_1).f0)).f1) ((rd_T48 l1 x8_1).f2)).f1)) ∧ w'.cell? ⟨(ad157.add ((((rd_T48 l1 x8_1).f2)).toNat * 3)).block, (ad157.add ((((rd_T48 l1 x8_1).f2)).toNat * 3)).off + 2, none⟩ = some (.int .i64 ((rd_T43 ((rd_T46 l0 ((rd_T48 l1 x8_1).f0)).f1) ((rd_T48 l1 x8_1).f2)).f2))) (ds := []) #[F,F,F,F,F,F,F,F,F,F,F,F,F,F,F,F,F,F,F,F,F,F,F,F,F,F,F,F,F,F,F] (by kernel_rfl) rfl rfl ⟨(blk_cell BK149.out 0).trans rfl, (blk_cell BK149.out 1).trans rfl, (nC HB.out hw156_0 :), (nC HB.out hw156_1 :), (nC HB.out hw156_2 :), (nC HB.out hw157_0 :), (nC HB.out hw157_1 :), (nC HB.out hw157_2 :), (nC HB.out hw159_0 :), (nC HB.out hw159_1 :), (nC HB.out hw159_2 :), (nC HB.out hw160_0 :), (nC HB.out hw160_1 :), (nC HB.out hw160_2 :)⟩ (fun hHeld => ?_); refine with_tabW spec_JourneyText.tab10 spec_JourneyText.bits10 (fun HT_ HW_ => ?_)
         generalize w43.drew = w44 at BK149 HB hx156_0 hx156_1 hx156_2 hx157_0 hx157_1 hx157_2 hx159_0 hx159_1 hx159_2 hx160_0 hx160_1 hx160_2 hHeld ⊢
         refine pU 0 (some 33) #[T,F,F,F,F,F,F,F,F,F,F,F,F,F,F,F,F,F,F,F,F,F,F,F,F,F,F,F,F,F,F] rfl rfl HT_.out ?_
         refine pU 1 (some 34) #[T,T,F,F,F,F,F,F,F,F,F,F,F,F,F,F,F,F,F,F,F,F,F,F,F,F,F,F,F,F,F] rfl rfl HT_.out ?_
         refine pU 5 (some 38) #[T,T,F,F,F,T,F,F,F,F,F,F,F,F,F,F,F,F,F,F,F,F,F,F,F,F,F,F,F,F,F] rfl rfl HT_.out ?_
         refine pU 7 (some 40) #[T,T,F,F,F,T,F,T,F,F,F,F,F,F,F,F,F,F,F,F,F,F,F,F,F,F,F,F,F,F,F] rfl rfl HT_.out ?_
         refine pU 8 (some 41) #[T,T,F,F,F,T,F,T,T,F,F,F,F,F,F,F,F,F,F,F,F,F,F,F,F,F,F,F,F,F,F] rfl rfl HT_.out ?_
         refine pU 9 (some 42) #[T,T,F,F,F,T,F,T,T,T,F,F,F,F,F,F,F,F,F,F,F,F,F,F,F,F,F,F,F,F,F] rfl rfl HT_.out ?_
         refine pU 10 (some 43) #[T,T,F,F,F,T,F,T,T,T,T,F,F,F,F,F,F,F,F,F,F,F,F,F,F,F,F,F,F,F,F] rfl rfl HT_.out ?_
         refine pU 18 (some 51) #[T,T,F,F,F,T,F,T,T,T,T,F,F,F,F,F,F,F,T,F,F,F,F,F,F,F,F,F,F,F,F] rfl rfl HT_.out ?_
         refine pU 20 (some 53) #[T,T,F,F,F,T,F,T,T,T,T,F,F,F,F,F,F,F,T,F,T,F,F,F,F,F,F,F,F,F,F] rfl rfl HT_.out ?_
         refine pU 21 (some 54) #[T,T,F,F,F,T,F,T,T,T,T,F,F,F,F,F,F,F,T,F,T,T,F,F,F,F,F,F,F,F,F] rfl rfl HT_.out ?_
         refine pU 22 (some 55) #[T,T,F,F,F,T,F,T,T,T,T,F,F,F,F,F,F,F,T,F,T,T,T,F,F,F,F,F,F,F,F] rfl rfl HT_.out ?_
         refine pU 23 (some 56) #[T,T,F,F,F,T,F,T,T,T,T,F,F,F,F,F,F,F,T,F,T,T,T,T,F,F,F,F,F,F,F] rfl rfl HT_.out ?_
         refine tU14 2 (some 35) #[T,T,T,F,F,T,F,T,T,T,T,F,F,F,F,F,F,F,T,F,T,T,T,T,F,F,F,F,F,F,F] rfl rfl HT_.out HW_.out hHeld ?_
         refine pU 3 (some 36) #[T,T,T,T,F,T,F,T,T,T,T,F,F,F,F,F,F,F,T,F,T,T,T,T,F,F,F,F,F,F,F] rfl rfl HT_.out ?_
         refine pU 4 (some 37) #[T,T,T,T,T,T,F,T,T,T,T,F,F,F,F,F,F,F,T,F,T,T,T,T,F,F,F,F,F,F,F] rfl rfl HT_.out ?_
         refine tU14 6 (some 39) #[T,T,T,T,T,T,T,T,T,T,T,F,F,F,F,F,F,F,T,F,T,T,T,T,F,F,F,F,F,F,F] rfl rfl HT_.out HW_.out hHeld ?_
         refine tU14 11 (some 44) #[T,T,T,T,T,T,T,T,T,T,T,T,F,F,F,F,F,F,T,F,T,T,T,T,F,F,F,F,F,F,F] rfl rfl HT_.out HW_.out hHeld ?_
         refine pU 12 (some 45) #[T,T,T,T,T,T,T,T,T,T,T,T,T,F,F,F,F,F,T,F,T,T,T,T,F,F,F,F,F,F,F] rfl rfl HT_.out ?_
         refine pU 13 (some 46) #[T,T,T,T,T,T,T,T,T,T,T,T,T,T,F,F,F,F,T,F,T,T,T,T,F,F,F,F,F,F,F] rfl rfl HT_.out ?_
         refine tU14 14 (some 47) #[T,T,T,T,T,T,T,T,T,T,T,T,T,T,T,F,F,F,T,F,T,T,T,T,F,F,F,F,F,F,F] rfl rfl HT_.out HW_.out hHeld ?_
         refine tU14 19 (some 52) #[T,T,T,T,T,T,T,T,T,T,T,T,T,T,T,F,F,F,T,T,T,T,T,T,F,F,F,F,F,F,F] rfl rfl HT_.out HW_.out hHeld ?_
         refine tU14 24 (some 57) #[T,T,T,T,T,T,T,T,T,T,T,T,T,T,T,F,F,F,T,T,T,T,T,T,T,F,F,F,F,F,F] rfl rfl HT_.out HW_.out hHeld ?_
         refine pU 25 (some 58) #[T,T,T,T,T,T,T,T,T,T,T,T,T,T,T,F,F,F,T,T,T,T,T,T,T,T,F,F,F,F,F] rfl rfl HT_.out ?_
         refine pU 26 (some 59) #[T,T,T,T,T,T,T,T,T,T,T,T,T,T,T,F,F,F,T,T,T,T,T,T,T,T,T,F,F,F,F] rfl rfl HT_.out ?_
         refine tU14 27 (some 60) #[T,T,T,T,T,T,T,T,T,T,T,T,T,T,T,F,F,F,T,T,T,T,T,T,T,T,T,T,F,F,F] rfl rfl HT_.out HW_.out hHeld ?_
         refine one_ (i := 15) (N := some 48) #[T,T,T,T,T,T,T,T,T,T,T,T,T,T,T,T,F,F,T,T,T,T,T,T,T,T,T,T,F,F,F] rfl rfl (one_of HT_.out (by kernel_rfl)) (by decide) (fun K hK => ?_)
         refine goes_ Tryd.func22 (by kernel_rfl) rfl #[.int .i64 ((rd_T43 ((rd_T46 l0 ((rd_T48 l1 x8_1).f0)).f1) ((rd_T48 l1 x8_1).f1)).f2)] (by rfl) rfl rfl (by (try simp only [List.map_toArray, List.map_cons, List.map_nil]); first | done | rfl | (simp only [List.length_drop, List.length_take]; rfl)) ?_
         with_reducible refine (spec_TimeText.calls k1 ((rd_T43 ((rd_T46 l0 ((rd_T48 l1 x8_1).f0)).f1) ((rd_T48 l1 x8_1).f1)).f2) t158 _ A34.out).mono ?_
         rintro e w45 ⟨rfl, hb⟩
         refine ⟨_, rfl, ?_⟩
         have n0_ := Aside0.mk (blk_below (g := gb149) (o := .cells #[.string ((rd_T46 l0 ((rd_T48 l1 x8_1).f0)).f0), .slice (some ad157) ((rd_T46 l0 ((rd_T48 l1 x8_1).f0)).f1).length c148_1] 46 (0, 0)) (nB BK149.out) hb)
         have n1_ := Aside0.mk (below_step (nH1 HB.out GE149.out) hb)
         clear BK149; clear HB; have BK149 := n0_; have HB := n1_; clear n0_ n1_; (try clear hb); (try clear hb2); (try clear hk); (try clear hi)
         refine hK.out _ _ ⟨(blk_cell BK149.out 0).trans rfl, (blk_cell BK149.out 1).trans rfl, (nC HB.out hw156_0 :), (nC HB.out hw156_1 :), (nC HB.out hw156_2 :), (nC HB.out hw157_0 :), (nC HB.out hw157_1 :), (nC HB.out hw157_2 :), (nC HB.out hw159_0 :), (nC HB.out hw159_1 :), (nC HB.out hw159_2 :), (nC HB.out hw160_0 :), (nC HB.out hw160_1 :), (nC HB.out hw160_2 :)⟩ (fun hHeld => ?_)
         clear hK K
         refine norm_ (a' := ?_) ?_ ?_
         rotate_left
         · show Act.put _ (some 48) _ = _
           simp only [Act.put, List.setIfInBounds_toArray, List.set_cons_zero, List.set_cons_succ, i64_w, i32_w]
           rfl
         refine pU 16 (some 49) #[T,T,T,T,T,T,T,T,T,T,T,T,T,T,T,T,T,F,T,T,T,T,T,T,T,T,T,T,F,F,F] rfl rfl HT_.out ?_
         refine pU 17 (some 50) #[T,T,T,T,T,T,T,T,T,T,T,T,T,T,T,T,T,T,T,T,T,T,T,T,T,T,T,T,F,F,F] rfl rfl HT_.out ?_
         refine one_ (i := 28) (N := some 61) #[T,T,T,T,T,T,T,T,T,T,T,T,T,T,T,T,T,T,T,T,T,T,T,T,T,T,T,T,T,F,F] rfl rfl (one_of HT_.out (by kernel_rfl)) (by decide) (fun K hK => ?_)
         refine goes_ Tryd.func22 (by kernel_rfl) rfl #[.int .i64 ((rd_T43 ((rd_T46 l0 ((rd_T48 l1 x8_1).f0)).f1) ((rd_T48 l1 x8_1).f2)).f1)] (by rfl) rfl rfl (by (try simp only [List.map_toArray, List.map_cons, List.map_nil]); first | done | rfl | (simp only [List.length_drop, List.length_take]; rfl)) ?_
         with_reducible refine (spec_TimeText.calls k1 ((rd_T43 ((rd_T46 l0 ((rd_T48 l1 x8_1).f0)).f1) ((rd_T48 l1 x8_1).f2)).f1) t161 _ A39.out).mono ?_
         rintro e w46 ⟨rfl, hb⟩
         refine ⟨_, rfl, ?_⟩
         have n0_ := Aside0.mk (blk_below (g := gb149) (o := .cells #[.string ((rd_T46 l0 ((rd_T48 l1 x8_1).f0)).f0), .slice (some ad157) ((rd_T46 l0 ((rd_T48 l1 x8_1).f0)).f1).length c148_1] 46 (0, 0)) (nB BK149.out) hb)
         have n1_ := Aside0.mk (below_step (nH1 HB.out GE149.out) hb)
         clear BK149; clear HB; have BK149 := n0_; have HB := n1_; clear n0_ n1_; (try clear hb); (try clear hb2); (try clear hk); (try clear hi)
         refine hK.out _ _ ⟨(blk_cell BK149.out 0).trans rfl, (blk_cell BK149.out 1).trans rfl, (nC HB.out hw156_0 :), (nC HB.out hw156_1 :), (nC HB.out hw156_2 :), (nC HB.out hw157_0 :), (nC HB.out hw157_1 :), (nC HB.out hw157_2 :), (nC HB.out hw159_0 :), (nC HB.out hw159_1 :), (nC HB.out hw159_2 :), (nC HB.out hw160_0 :), (nC HB.out hw160_1 :), (nC HB.out hw160_2 :)⟩ (fun hHeld => ?_)
         clear hK K
         refine norm_ (a' := ?_) ?_ ?_
         rotate_left
         · show Act.put _ (some 61) _ = _
           simp only [Act.put, List.setIfInBounds_toArray, List.set_cons_zero, List.set_cons_succ, i64_w, i32_w]
           rfl
         refine pU 29 (some 62) #[T,T,T,T,T,T,T,T,T,T,T,T,T,T,T,T,T,T,T,T,T,T,T,T,T,T,T,T,T,T,F] rfl rfl HT_.out ?_
         refine pU 30 (some 7) #[T,T,T,T,T,T,T,T,T,T,T,T,T,T,T,T,T,T,T,T,T,T,T,T,T,T,T,T,T,T,T] rfl rfl HT_.out ?_
         refine done_ (done_of HT_.out (by kernel_rfl)) ?_
         try go_wp2
         go_roundg k1
         case measure => have := HK1.out; omega
         case rel => exact ⟨(((((x7_1 ++ ((rd_T46 l0 ((rd_T48 l1 x8_1).f0)).f0)) ++ (⟨#[32]⟩ : ByteArray)) ++ t158) ++ (⟨#[45]⟩ : ByteArray)) ++ t161), (wrap64 (x8_1 + 1)), nS, nS, H', ⟨by have := HK1.out; omega⟩, ⟨nH1 HB.out GE149.out⟩⟩
     · rw [if_neg c7] at H
       have c7b0 : decide (x8_1 < (l1.length : Int)) = false := decide_eq_false c7
       clear c7; obtain rfl := Option.some.inj H; go_wp2; go_ret
       exact ⟨by first | rfl | (simp [errW_none, errW_some] <;> rfl) | (simp [*, errW_none, errW_some] <;> first | rfl | (simp [wrap64]; done)), nH HB.out⟩
 · replace c5 := Bool.eq_false_iff.mpr c5
   subst c5
   have H1 : (some (⟨#[]⟩ : ByteArray)) = some r := by rw [if_neg (show ¬ (false = true) by decide)] at H; exact H
   clear H; have H := H1; clear H1; obtain rfl := Option.some.inj H
   go_enter Tryd.func7, Tryd.ntmps7
   go_wp2_with (first | ((with_reducible refine gate_callee (f := 20) rfl ?_); refine goesL_ (some 13) rfl rfl Tryd.func20 (by kernel_rfl) rfl #[.slice A0 l0.length c0, .slice A1 l1.length c1, .int .i64 a2] rfl (by (try simp only [List.map_toArray, List.map_cons, List.map_nil]); first | done | rfl | (simp only [List.length_drop, List.length_take]; rfl)) ?_; (with_reducible refine (spec_LegsOk.calls k _ _ l0 _ _ l1 a2 false _ ?side1 ?side2 ?side3 ?side4 A4.out).mono ?_); (case side1 => repeat (first | exact HR0.out | (with_reducible refine Kd.C_alloc ?_ _) | (with_reducible refine Kd.C_drewN ?_ _) | (with_reducible refine Kd.C_drew ?_))); (case side2 => exact HC0.out); (case side3 => repeat (first | exact HR1.out | (with_reducible refine Kd.C_alloc ?_ _) | (with_reducible refine Kd.C_drewN ?_ _) | (with_reducible refine Kd.C_drew ?_))); (case side4 => exact HC1.out); rintro e w47 ⟨rfl, hb⟩; refine ⟨_, rfl, ?_⟩; have n0_ := Aside0.mk (below_step (nH HB.out) hb); clear HB; have HB := n0_; clear n0_; (try clear hb); (try clear hb2); (try clear hk); (try clear hi)))
   go_ret
   exact ⟨by first | rfl | (simp [errW_none, errW_some] <;> rfl) | (simp [*, errW_none, errW_some] <;> first | rfl | (simp [wrap64]; done)), nH HB.out⟩
end Go.Proofs.YtdpjoblnjjkbfaaDoor.P
