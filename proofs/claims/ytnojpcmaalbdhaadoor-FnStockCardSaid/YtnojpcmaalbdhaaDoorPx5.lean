/- Contracts of the functions of the program, each one with its plain Lean function; written by a program of the session out of the translation. -/
import Derived.Test.YtnojpcmaalbdhaaDoorNb
import Derived.Test.YtnojpcmaalbdhaaDoorPx0
import Derived.Test.YtnojpcmaalbdhaaDoorPx3
import Derived.Test.YtnojpcmaalbdhaaDoorPx4
namespace Go.Proofs.YtnojpcmaalbdhaaDoor.P
open Go.RowKit Go.Proofs.YtnojpcmaalbdhaaDoorW.PrintWords Go.Proofs.YtnojpcmaalbdhaaDoorW.PrintLast Go.Proofs.YtnojpcmaalbdhaaDoorW.PrintMore
attribute [local go_sem] max2_int min2_int max_two min_two max_three min_three max_four min_four   -- for this text's walks alone
set_option linter.unusedVariables false
set_option linter.unusedSimpArgs false
/-! ### spec_StockText: function 7 -/
theorem spec_StockText.mono_l : ∀ k, (∀ y0 y1 y2, LeO (spec_StockText.l0 k y0 y1 y2) (spec_StockText.l0 (k + 1) y0 y1 y2)) ∧ (∀ y0 y1 y2, LeO (spec_StockText.j1 k y0 y1 y2) (spec_StockText.j1 (k + 1) y0 y1 y2))
 | 0 => ⟨fun _ _ _ r h => by simp [spec_StockText.l0] at h, fun _ _ _ r h => by simp [spec_StockText.j1] at h⟩
 | k + 1 => by
  obtain ⟨ih0, ih1⟩ := spec_StockText.mono_l k
  refine ⟨?_, ?_⟩
  · intro y0 y1 y2
    unfold spec_StockText.l0
    repeat' first
    | (with_reducible exact ih0 _ _ _)
    | (with_reducible exact ih1 _ _ _)
    | (with_reducible exact spec_FormOk.mono _ _)
    | (with_reducible exact spec_l01Num.mono _ _)
    | (with_reducible exact LeO.refl _)
    | (with_reducible exact LeO.none _)
    | (with_reducible refine LeO.ite ?_ ?_)
    | (with_reducible refine LeO.bind ?_ (fun _ => ?_))
    | exact ih0 _ _ _
    | exact ih1 _ _ _
    | exact spec_FormOk.mono _ _
    | exact spec_l01Num.mono _ _
    | exact LeO.none _
    | refine LeO.ite ?_ ?_
    | refine LeO.bind ?_ (fun _ => ?_)
  · intro y0 y1 y2
    unfold spec_StockText.j1
    repeat' first
    | (with_reducible exact ih0 _ _ _)
    | (with_reducible exact ih1 _ _ _)
    | (with_reducible exact spec_FormOk.mono _ _)
    | (with_reducible exact spec_l01Num.mono _ _)
    | (with_reducible exact LeO.refl _)
    | (with_reducible exact LeO.none _)
    | (with_reducible refine LeO.ite ?_ ?_)
    | (with_reducible refine LeO.bind ?_ (fun _ => ?_))
    | exact ih0 _ _ _
    | exact ih1 _ _ _
    | exact spec_FormOk.mono _ _
    | exact spec_l01Num.mono _ _
    | exact LeO.none _
    | refine LeO.ite ?_ ?_
    | refine LeO.bind ?_ (fun _ => ?_)
theorem spec_StockText.mono : ∀ a0 k, LeO (spec_StockText.f k a0) (spec_StockText.f (k + 1) a0) := by
 intro a0 k
 obtain ⟨ih0, ih1⟩ := spec_StockText.mono_l k
 unfold spec_StockText.f
 repeat' first
  | (with_reducible exact ih0 _ _ _)
  | (with_reducible exact ih1 _ _ _)
  | (with_reducible exact spec_FormOk.mono _ _)
  | (with_reducible exact spec_l01Num.mono _ _)
  | (with_reducible exact LeO.refl _)
  | (with_reducible exact LeO.none _)
  | (with_reducible refine LeO.ite ?_ ?_)
  | (with_reducible refine LeO.bind ?_ (fun _ => ?_))
  | exact ih0 _ _ _
  | exact ih1 _ _ _
  | exact spec_FormOk.mono _ _
  | exact spec_l01Num.mono _ _
  | exact LeO.none _
  | refine LeO.ite ?_ ?_
  | refine LeO.bind ?_ (fun _ => ?_)
def spec_StockText.T11 : Bool × List (List Nat × List Nat) := (true, [([], []), ([], []), ([], []), ([1, 2], [1, 2]), ([3], [3]), ([4], [4]), ([5], [5]), ([6], [6]), ([7], [7]), ([8], [8]), ([0, 9], [0, 9]), ([], []), ([], []), ([11, 12], [11, 12]), ([13], [13]), ([14], [14]), ([15], [15]), ([10, 16], [10, 16]), ([17], [17]), ([], []), ([], []), ([19, 20], [19, 20]), ([21], [21]), ([22], [22]), ([23, 16], [23]), ([18, 24], [18, 24]), ([25, 24, 0, 1, 2, 3, 4, 5, 6, 7, 8, 9, 10, 11, 12, 13, 14, 15, 16, 17, 18, 19, 20, 21, 22, 23, 24, 25], [0, 25])])
def spec_StockText.B11 : List Nat := [0, 0, 0, 6, 14, 30, 62, 126, 254, 510, 1023, 0, 0, 6144, 14336, 30720, 63488, 131071, 262143, 0, 0, 1572864, 3670016, 7864320, 16381952, 33554431, 67108863]
theorem spec_StockText.tab11 : rtab .any (opsOf Tryd.f7 11) = spec_StockText.T11 := by kernel_rfl
theorem spec_StockText.bits11 : waitsOk spec_StockText.T11.2 spec_StockText.B11 = true := by kernel_rfl
set_option maxHeartbeats 8000000 in
set_option maxRecDepth 100000 in
theorem spec_StockText.calls (k : Nat) (A0 : Option Addr) (c0 : Nat) (l0 : List (S43)) (r : ByteArray) (w : World) (hr0 : Kd.C k43 w A0 l0.length l0) (hc0 : l0.length ≤ c0) (h : spec_StockText.f k l0 = some r) :
 Calls Tryd.prog 7 #[.slice A0 l0.length c0] w fun e w' => e = .returned (.string r) ∧ Below w.heap.size w w' := by
 have HR0 := Aside0.mk hr0
 have HC0 := Aside0.mk hc0
 clear hr0 hc0
 have HB := Aside0.mk (Below.refl w.heap.size w)
 have H : ((spec_FormOk.f k l0).bind fun t113 => (if t113 = true then (if (l0.length : Int) = 0 then (some (⟨#[45]⟩ : ByteArray)) else (spec_StockText.l0 k l0 (⟨#[]⟩ : ByteArray) 0)) else (some (⟨#[]⟩ : ByteArray)))) = some r := h
 clear h
 replace H := Option.bind_eq_some_iff.mp H
 obtain ⟨t113, A20, H⟩ := H
 replace H : (if t113 = true then (if (l0.length : Int) = 0 then (some (⟨#[45]⟩ : ByteArray)) else (spec_StockText.l0 k l0 (⟨#[]⟩ : ByteArray) 0)) else (some (⟨#[]⟩ : ByteArray))) = some r := H
 have A2 := Aside0.mk A20
 clear A20
 by_cases c3 : t113 = true
 · subst c3
   have H1 : (if (l0.length : Int) = 0 then (some (⟨#[45]⟩ : ByteArray)) else (spec_StockText.l0 k l0 (⟨#[]⟩ : ByteArray) 0)) = some r := by rw [if_pos rfl] at H; exact H
   clear H; have H := H1; clear H1
   by_cases c4 : (l0.length : Int) = 0
   · rw [if_pos c4] at H
     have c4b0 : ((l0.length : Int) == 0) = true := beq_iff_eq.mpr c4
     have c4b1 : ((l0.length : Int) != 0) = false := bne_eq_false_iff_eq.mpr c4
     clear c4; obtain rfl := Option.some.inj H
     go_enter Tryd.func7, Tryd.ntmps7
     go_wp2_with (first | ((with_reducible refine gate_callee (f := 24) rfl ?_); refine goesL_ (some 6) rfl rfl Tryd.func24 (by kernel_rfl) rfl #[.slice A0 l0.length c0] rfl (by (try simp only [List.map_toArray, List.map_cons, List.map_nil]); first | done | rfl | (simp only [List.length_drop, List.length_take]; rfl)) ?_; (with_reducible refine (spec_FormOk.calls k _ _ l0 true _ ?side1 ?side2 A2.out).mono ?_); (case side1 => repeat (first | exact HR0.out | (with_reducible refine Kd.C_alloc ?_ _) | (with_reducible refine Kd.C_drewN ?_ _) | (with_reducible refine Kd.C_drew ?_))); (case side2 => exact HC0.out); rintro e w5 ⟨rfl, hb⟩; refine ⟨_, rfl, ?_⟩; have n0_ := Aside0.mk (below_step (nH HB.out) hb); clear HB; have HB := n0_; clear n0_; (try clear hb); (try clear hb2); (try clear hk); (try clear hi)))
     go_ret
     exact ⟨by first | rfl | (simp [errW_none, errW_some] <;> rfl) | (simp [*, errW_none, errW_some] <;> first | rfl | (simp [wrap64]; done)), nH HB.out⟩
   · rw [if_neg c4] at H
     have c4b0 : ((l0.length : Int) == 0) = false := beq_eq_false_iff_ne.mpr c4
     have c4b1 : ((l0.length : Int) != 0) = true := bne_iff_ne.mpr c4
     have c4b2 : ¬ (l0 = []) := fun h_ => c4 (by rw [h_]; rfl)
     have H' := Aside0.mk H
     clear H
     go_enter Tryd.func7, Tryd.ntmps7
     go_wp2_with (first | ((with_reducible refine gate_callee (f := 24) rfl ?_); refine goesL_ (some 6) rfl rfl Tryd.func24 (by kernel_rfl) rfl #[.slice A0 l0.length c0] rfl (by (try simp only [List.map_toArray, List.map_cons, List.map_nil]); first | done | rfl | (simp only [List.length_drop, List.length_take]; rfl)) ?_; (with_reducible refine (spec_FormOk.calls k _ _ l0 true _ ?side1 ?side2 A2.out).mono ?_); (case side1 => repeat (first | exact HR0.out | (with_reducible refine Kd.C_alloc ?_ _) | (with_reducible refine Kd.C_drewN ?_ _) | (with_reducible refine Kd.C_drew ?_))); (case side2 => exact HC0.out); rintro e w6 ⟨rfl, hb⟩; refine ⟨_, rfl, ?_⟩; have n0_ := Aside0.mk (below_step (nH HB.out) hb); clear HB; have HB := n0_; clear n0_; (try clear hb); (try clear hb2); (try clear hk); (try clear hi)))
     go_loopg [3, 4] k (fun kq v3 v4 w' => ∃ (x3_1 : ByteArray) (x4_1 : Int), v3 = .string x3_1 ∧ v4 = .int .i64 x4_1 ∧ Aside0 (spec_StockText.l0 kq l0 x3_1 x4_1 = some r) ∧ Aside0 (kq ≤ k) ∧ Aside0 (Below w.heap.size w w'))
     case atStart => exact ⟨((⟨#[]⟩ : ByteArray)), (0), nS, nS, H', ⟨Nat.le_refl _⟩, ⟨nH HB.out⟩⟩
     case round =>
      clear H'
      try clear c2; try clear p2; try clear c3; try clear c4; try clear c4b0; try clear c4b1; try clear c4b2; try clear p6
      obtain ⟨x3_1, x4_1, rfl, rfl, HA, HK1, HB⟩ := hrel
      cases gk with
      | zero => exact absurd HA.out (by simp [spec_StockText.l0])
      | succ k1 =>
       have H := HA.out; clear HA
       simp only [spec_StockText.l0] at H
       by_cases c7 : x4_1 < (l0.length : Int)
       · rw [if_pos c7] at H
         have c7b0 : decide (x4_1 < (l0.length : Int)) = true := decide_eq_true c7
         clear c7
         have HC8 := Aside0.mk H
         clear H
         go_upto_if 18 with (fail)
         go_cut [3] (fun v3 wc => ∃ (kq : Nat) (x3_7 : ByteArray), v3 = .string x3_7 ∧ Aside0 (spec_StockText.j1 kq l0 x3_7 x4_1 = some r) ∧ Aside0 (kq ≤ k1) ∧ Aside0 (Below w.heap.size w wc))
         case first =>
          have H := HC8.out; clear HC8
          by_cases c9 : x4_1 > 0
          · rw [if_pos c9] at H
            have c9b0 : decide (0 < x4_1) = true := decide_eq_true c9
            clear c9
            (first | rw [c9b0] | (simp only [i64_w, i32_w]; rw [c9b0]) | skip)
            by_cases c10 : x3_1.size + 1 ≤ 9223372036854775807
            rotate_left
            · (rw [if_neg c10] at H; exact absurd H (by simp))
            rw [if_pos c10] at H
            have c10b0 := eq_true c10
            have c10b1 : decide (x3_1.size + 1 ≤ 9223372036854775807) = true := decide_eq_true c10
            try have c10b2 : (9223372036854775807 < x3_1.size + 1) = False := eq_false (Nat.not_lt.2 c10)
            have H' := Aside0.mk H
            clear H; go_wp2
            go_meet
            case rel => exact ⟨_, (x3_1 ++ (⟨#[43]⟩ : ByteArray)), nS, H', ⟨by have := HK1.out; first | omega | exact Nat.le_refl _⟩, ⟨nH HB.out⟩⟩
          · rw [if_neg c9] at H
            have c9b0 : decide (0 < x4_1) = false := decide_eq_false c9
            clear c9
            (first | rw [c9b0] | (simp only [i64_w, i32_w]; rw [c9b0]) | skip)
            have H' := Aside0.mk H
            clear H; go_wp2
            go_meet
            case rel => exact ⟨_, (x3_1), nS, H', ⟨by have := HK1.out; first | omega | exact Nat.le_refl _⟩, ⟨nH HB.out⟩⟩
         case rest =>
          clear HC8; try clear c1; try clear c2; try clear p2; try clear c3; try clear c4; try clear c4b0; try clear c4b1; try clear c4b2; try clear p6; try clear c7; try clear c7b0; try clear c9; try clear c9b0; try clear c10; try clear c10b0; try clear c10b1; try clear c10b2; try clear p2; try clear p6
          obtain ⟨kq, x3_7, rfl, HA, HJ7, HB⟩ := hcut
          cases kq with
          | zero => exact absurd HA.out (by simp [spec_StockText.j1])
          | succ kj7 =>
           have H := HA.out; clear HA
           simp only [spec_StockText.j1] at H
           by_cases c11 : 0 ≤ x4_1
           rotate_left
           · (rw [if_neg c11] at H; exact absurd H (by simp))
           rw [if_pos c11] at H
           have c11b0 : decide (0 ≤ x4_1) = true := decide_eq_true c11
           clear c11
           by_cases c12 : x4_1 < (l0.length : Int)
           rotate_left
           · (rw [if_neg c12] at H; exact absurd H (by simp))
           rw [if_pos c12] at H
           have c12b0 : decide (x4_1 < (l0.length : Int)) = true := decide_eq_true c12
           clear c12
           obtain ⟨y115, hy115⟩ : ∃ y_ : List Int, y_ = (([(wrap64 (64 + ((rd_T43 l0 x4_1).f1))) % 256] : List Int)) := ⟨_, rfl⟩
           replace H : (if x3_7.size + (strOfNums y115).size ≤ 9223372036854775807 then ((spec_l01Num.f kj7 ((rd_T43 l0 x4_1).f0)).bind fun t119 => (if (x3_7 ++ (strOfNums y115)).size + t119.size ≤ 9223372036854775807 then (if ((x3_7 ++ (strOfNums y115)) ++ t119).size + 1 ≤ 9223372036854775807 then ((spec_l01Num.f kj7 ((rd_T43 l0 x4_1).f2)).bind fun t121 => (if (((x3_7 ++ (strOfNums y115)) ++ t119) ++ (⟨#[47]⟩ : ByteArray)).size + t121.size ≤ 9223372036854775807 then (if (rd_T43 l0 x4_1).f3 = true then (if ((((x3_7 ++ (strOfNums y115)) ++ t119) ++ (⟨#[47]⟩ : ByteArray)) ++ t121).size + 1 ≤ 9223372036854775807 then (spec_StockText.l0 kj7 l0 (((((x3_7 ++ (strOfNums y115)) ++ t119) ++ (⟨#[47]⟩ : ByteArray)) ++ t121) ++ (⟨#[60]⟩ : ByteArray)) (wrap64 (x4_1 + 1))) else (none)) else (if ((((x3_7 ++ (strOfNums y115)) ++ t119) ++ (⟨#[47]⟩ : ByteArray)) ++ t121).size + 1 ≤ 9223372036854775807 then (spec_StockText.l0 kj7 l0 (((((x3_7 ++ (strOfNums y115)) ++ t119) ++ (⟨#[47]⟩ : ByteArray)) ++ t121) ++ (⟨#[62]⟩ : ByteArray)) (wrap64 (x4_1 + 1))) else (none))) else (none))) else (none)) else (none))) else (none)) = some r := by first | (rw [hy115]; with_reducible exact H) | (have H2_ := (Option.bind_some _ _).symm.trans H; rw [hy115]; with_reducible exact H2_) | (have H2_ := (Option.bind_some _ _).symm.trans H; with_reducible exact H2_) | with_reducible exact H | (rw [hy115]; exact H) | exact H
           have Ny115 := Aside0.mk hy115
           clear hy115
           by_cases c13 : x3_7.size + (strOfNums y115).size ≤ 9223372036854775807
           rotate_left
           · (rw [if_neg c13] at H; exact absurd H (by simp))
           rw [if_pos c13] at H
           have c13b0 := eq_true c13
           have c13b1 : decide (x3_7.size + (strOfNums y115).size ≤ 9223372036854775807) = true := decide_eq_true c13
           try have c13b2 : (9223372036854775807 < x3_7.size + (strOfNums y115).size) = False := eq_false (Nat.not_lt.2 c13)
           replace H := Option.bind_eq_some_iff.mp H
           obtain ⟨t119, A140, H⟩ := H
           replace H : (if (x3_7 ++ (strOfNums y115)).size + t119.size ≤ 9223372036854775807 then (if ((x3_7 ++ (strOfNums y115)) ++ t119).size + 1 ≤ 9223372036854775807 then ((spec_l01Num.f kj7 ((rd_T43 l0 x4_1).f2)).bind fun t121 => (if (((x3_7 ++ (strOfNums y115)) ++ t119) ++ (⟨#[47]⟩ : ByteArray)).size + t121.size ≤ 9223372036854775807 then (if (rd_T43 l0 x4_1).f3 = true then (if ((((x3_7 ++ (strOfNums y115)) ++ t119) ++ (⟨#[47]⟩ : ByteArray)) ++ t121).size + 1 ≤ 9223372036854775807 then (spec_StockText.l0 kj7 l0 (((((x3_7 ++ (strOfNums y115)) ++ t119) ++ (⟨#[47]⟩ : ByteArray)) ++ t121) ++ (⟨#[60]⟩ : ByteArray)) (wrap64 (x4_1 + 1))) else (none)) else (if ((((x3_7 ++ (strOfNums y115)) ++ t119) ++ (⟨#[47]⟩ : ByteArray)) ++ t121).size + 1 ≤ 9223372036854775807 then (spec_StockText.l0 kj7 l0 (((((x3_7 ++ (strOfNums y115)) ++ t119) ++ (⟨#[47]⟩ : ByteArray)) ++ t121) ++ (⟨#[62]⟩ : ByteArray)) (wrap64 (x4_1 + 1))) else (none))) else (none))) else (none)) else (none)) = some r := H
           have A14 := Aside0.mk A140
           clear A140
           by_cases c15 : (x3_7 ++ (strOfNums y115)).size + t119.size ≤ 9223372036854775807
           rotate_left
           · (rw [if_neg c15] at H; exact absurd H (by simp))
           rw [if_pos c15] at H
           have c15b0 := eq_true c15
           have c15b1 : decide ((x3_7 ++ (strOfNums y115)).size + t119.size ≤ 9223372036854775807) = true := decide_eq_true c15
           try have c15b2 : (9223372036854775807 < (x3_7 ++ (strOfNums y115)).size + t119.size) = False := eq_false (Nat.not_lt.2 c15)
           try have c15b3 : (9223372036854775807 < x3_7.size + (strOfNums y115).size + t119.size) = False := by have q := c15b2; simp only [ByteArray.size_append] at q; exact q
           by_cases c16 : ((x3_7 ++ (strOfNums y115)) ++ t119).size + 1 ≤ 9223372036854775807
           rotate_left
           · (rw [if_neg c16] at H; exact absurd H (by simp))
           rw [if_pos c16] at H
           have c16b0 := eq_true c16
           have c16b1 : decide (((x3_7 ++ (strOfNums y115)) ++ t119).size + 1 ≤ 9223372036854775807) = true := decide_eq_true c16
           try have c16b2 : (9223372036854775807 < ((x3_7 ++ (strOfNums y115)) ++ t119).size + 1) = False := eq_false (Nat.not_lt.2 c16)
           try have c16b3 : (9223372036854775807 < x3_7.size + (strOfNums y115).size + t119.size + 1) = False := by have q := c16b2; simp only [ByteArray.size_append] at q; exact q
           replace H := Option.bind_eq_some_iff.mp H
           obtain ⟨t121, A170, H⟩ := H
           replace H : (if (((x3_7 ++ (strOfNums y115)) ++ t119) ++ (⟨#[47]⟩ : ByteArray)).size + t121.size ≤ 9223372036854775807 then (if (rd_T43 l0 x4_1).f3 = true then (if ((((x3_7 ++ (strOfNums y115)) ++ t119) ++ (⟨#[47]⟩ : ByteArray)) ++ t121).size + 1 ≤ 9223372036854775807 then (spec_StockText.l0 kj7 l0 (((((x3_7 ++ (strOfNums y115)) ++ t119) ++ (⟨#[47]⟩ : ByteArray)) ++ t121) ++ (⟨#[60]⟩ : ByteArray)) (wrap64 (x4_1 + 1))) else (none)) else (if ((((x3_7 ++ (strOfNums y115)) ++ t119) ++ (⟨#[47]⟩ : ByteArray)) ++ t121).size + 1 ≤ 9223372036854775807 then (spec_StockText.l0 kj7 l0 (((((x3_7 ++ (strOfNums y115)) ++ t119) ++ (⟨#[47]⟩ : ByteArray)) ++ t121) ++ (⟨#[62]⟩ : ByteArray)) (wrap64 (x4_1 + 1))) else (none))) else (none)) = some r := H
           have A17 := Aside0.mk A170
           clear A170
           by_cases c18 : (((x3_7 ++ (strOfNums y115)) ++ t119) ++ (⟨#[47]⟩ : ByteArray)).size + t121.size ≤ 9223372036854775807
           rotate_left
           · (rw [if_neg c18] at H; exact absurd H (by simp))
           rw [if_pos c18] at H
           have c18b0 := eq_true c18
           have c18b1 : decide ((((x3_7 ++ (strOfNums y115)) ++ t119) ++ (⟨#[47]⟩ : ByteArray)).size + t121.size ≤ 9223372036854775807) = true := decide_eq_true c18
           try have c18b2 : (9223372036854775807 < (((x3_7 ++ (strOfNums y115)) ++ t119) ++ (⟨#[47]⟩ : ByteArray)).size + t121.size) = False := eq_false (Nat.not_lt.2 c18)
           try have c18b3 : (9223372036854775807 < x3_7.size + (strOfNums y115).size + t119.size + 1 + t121.size) = False := by have q := c18b2; simp only [ByteArray.size_append] at q; exact q
           obtain ⟨bq19, hbq19⟩ : ∃ b_ : Bool, b_ = ((rd_T43 l0 x4_1).f3) := ⟨_, rfl⟩
           replace H : (if bq19 = true then (if ((((x3_7 ++ (strOfNums y115)) ++ t119) ++ (⟨#[47]⟩ : ByteArray)) ++ t121).size + 1 ≤ 9223372036854775807 then (spec_StockText.l0 kj7 l0 (((((x3_7 ++ (strOfNums y115)) ++ t119) ++ (⟨#[47]⟩ : ByteArray)) ++ t121) ++ (⟨#[60]⟩ : ByteArray)) (wrap64 (x4_1 + 1))) else (none)) else (if ((((x3_7 ++ (strOfNums y115)) ++ t119) ++ (⟨#[47]⟩ : ByteArray)) ++ t121).size + 1 ≤ 9223372036854775807 then (spec_StockText.l0 kj7 l0 (((((x3_7 ++ (strOfNums y115)) ++ t119) ++ (⟨#[47]⟩ : ByteArray)) ++ t121) ++ (⟨#[62]⟩ : ByteArray)) (wrap64 (x4_1 + 1))) else (none))) = some r := by rw [← hbq19] at H; exact H
           have Nbq19 := Aside0.mk hbq19
           clear hbq19
           by_cases c20 : bq19 = true
           · subst c20
             have H1 : (if ((((x3_7 ++ (strOfNums y115)) ++ t119) ++ (⟨#[47]⟩ : ByteArray)) ++ t121).size + 1 ≤ 9223372036854775807 then (spec_StockText.l0 kj7 l0 (((((x3_7 ++ (strOfNums y115)) ++ t119) ++ (⟨#[47]⟩ : ByteArray)) ++ t121) ++ (⟨#[60]⟩ : ByteArray)) (wrap64 (x4_1 + 1))) else (none)) = some r := by rw [if_pos rfl] at H; exact H
             clear H; have H := H1; clear H1
             by_cases c21 : ((((x3_7 ++ (strOfNums y115)) ++ t119) ++ (⟨#[47]⟩ : ByteArray)) ++ t121).size + 1 ≤ 9223372036854775807
             rotate_left
             · (rw [if_neg c21] at H; exact absurd H (by simp))
             rw [if_pos c21] at H
             have c21b0 := eq_true c21
             have c21b1 : decide (((((x3_7 ++ (strOfNums y115)) ++ t119) ++ (⟨#[47]⟩ : ByteArray)) ++ t121).size + 1 ≤ 9223372036854775807) = true := decide_eq_true c21
             try have c21b2 : (9223372036854775807 < ((((x3_7 ++ (strOfNums y115)) ++ t119) ++ (⟨#[47]⟩ : ByteArray)) ++ t121).size + 1) = False := eq_false (Nat.not_lt.2 c21)
             try have c21b3 : (9223372036854775807 < x3_7.size + (strOfNums y115).size + t119.size + 1 + t121.size + 1) = False := by have q := c21b2; simp only [ByteArray.size_append] at q; exact q
             have H' := Aside0.mk H
             clear H
             try go_wp2
             have n0_ := Aside0.mk (below_drew1 HB.out)
             clear HB; have HB := n0_; clear n0_
             have p114 : 0 ≤ (x4_1 : Int) := of_decide_eq_true nQ
             have q114 : x4_1 < (l0.length : Int) := of_decide_eq_true nQ
             obtain ⟨ad114, e114, hx114_0, hx114_1, hx114_2, hx114_3⟩ := at_T43 HR0.out x4_1 p114 q114
             have hw114_3 := hx114_3; have hw114_2 := hx114_2; have hw114_1 := hx114_1; have hw114_0 := hx114_0
             (try rw [← Nbq19.out] at hx114_3)
             (try rw [← Nbq19.out] at hw114_3)
             cases e114
             replace hx114_0 := (HB.out.cell (World.block_lt_of_cell? w _ hx114_0)).trans hx114_0
             replace hx114_1 := (HB.out.cell (World.block_lt_of_cell? w _ hx114_1)).trans hx114_1
             replace hx114_2 := (HB.out.cell (World.block_lt_of_cell? w _ hx114_2)).trans hx114_2
             replace hx114_3 := (HB.out.cell (World.block_lt_of_cell? w _ hx114_3)).trans hx114_3
             replace p114 := eq_true p114; replace q114 := eq_true q114
             have p118 : 0 ≤ (x4_1 : Int) := of_decide_eq_true nQ
             have q118 : x4_1 < (l0.length : Int) := of_decide_eq_true nQ
             obtain ⟨ad118, e118, hx118_0, hx118_1, hx118_2, hx118_3⟩ := at_T43 HR0.out x4_1 p118 q118
             have hw118_3 := hx118_3; have hw118_2 := hx118_2; have hw118_1 := hx118_1; have hw118_0 := hx118_0
             (try rw [← Nbq19.out] at hx118_3)
             (try rw [← Nbq19.out] at hw118_3)
             obtain rfl : ad114 = ad118 := (by injection e118)
             replace hx118_0 := (HB.out.cell (World.block_lt_of_cell? w _ hx118_0)).trans hx118_0
             replace hx118_1 := (HB.out.cell (World.block_lt_of_cell? w _ hx118_1)).trans hx118_1
             replace hx118_2 := (HB.out.cell (World.block_lt_of_cell? w _ hx118_2)).trans hx118_2
             replace hx118_3 := (HB.out.cell (World.block_lt_of_cell? w _ hx118_3)).trans hx118_3
             replace p118 := eq_true p118; replace q118 := eq_true q118
             have p120 : 0 ≤ (x4_1 : Int) := of_decide_eq_true nQ
             have q120 : x4_1 < (l0.length : Int) := of_decide_eq_true nQ
             obtain ⟨ad120, e120, hx120_0, hx120_1, hx120_2, hx120_3⟩ := at_T43 HR0.out x4_1 p120 q120
             have hw120_3 := hx120_3; have hw120_2 := hx120_2; have hw120_1 := hx120_1; have hw120_0 := hx120_0
             (try rw [← Nbq19.out] at hx120_3)
             (try rw [← Nbq19.out] at hw120_3)
             obtain rfl : ad114 = ad120 := (by injection e120)
             replace hx120_0 := (HB.out.cell (World.block_lt_of_cell? w _ hx120_0)).trans hx120_0
             replace hx120_1 := (HB.out.cell (World.block_lt_of_cell? w _ hx120_1)).trans hx120_1
             replace hx120_2 := (HB.out.cell (World.block_lt_of_cell? w _ hx120_2)).trans hx120_2
             replace hx120_3 := (HB.out.cell (World.block_lt_of_cell? w _ hx120_3)).trans hx120_3
             replace p120 := eq_true p120; replace q120 := eq_true q120
             refine start_ (n := 27) (S := fun w' => w'.cell? (ad114.add ((x4_1).toNat * 4)) = some (.int .i64 ((rd_T43 l0 x4_1).f0)) ∧ w'.cell? ⟨(ad114.add ((x4_1).toNat * 4)).block, (ad114.add ((x4_1).toNat * 4)).off + 1, none⟩ = some (.int .i64 ((rd_T43 l0 x4_1).f1)) ∧ w'.cell? ⟨(ad114.add ((x4_1).toNat * 4)).block, (ad114.add ((x4_1).toNat * 4)).off + 2, none⟩ = some (.int .i64 ((rd_T43 l0 x4_1).f2)) ∧ w'.cell? ⟨(ad114.add ((x4_1).toNat * 4)).block, (ad114.add ((x4_1).toNat * 4)).off + 3, none⟩ = some (.bool true) ∧ w'.cell? (ad114.add ((x4_1).toNat * 4)) = some (.int .i64 ((rd_T43 l0 x4_1).f0)) ∧ w'.cell? ⟨(ad114.add ((x4_1).toNat * 4)).block, (ad114.add ((x4_1).toNat * 4)).off + 1, none⟩ = some (.int .i64 ((rd_T43 l0 x4_1).f1)) ∧ w'.cell? ⟨(ad114.add ((x4_1).toNat * 4)).block, (ad114.add ((x4_1).toNat * 4)).off + 2, none⟩ = some (.int .i64 ((rd_T43 l0 x4_1).f2)) ∧ w'.cell? ⟨(ad114.add ((x4_1).toNat * 4)).block, (ad114.add ((x4_1).toNat * 4)).off + 3, none⟩ = some (.bool true) ∧ w'.cell? (ad114.add ((x4_1).toNat * 4)) = some (.int .i64 ((rd_T43 l0 x4_1).f0)) ∧ w'.cell? ⟨(ad114.add ((x4_1).toNat * 4)).block, (ad114.add ((x4_1).toNat * 4)).off + 1, none⟩ = some (.int .i64 ((rd_T43 l0 x4_1).f1)) ∧ w'.cell? ⟨(ad114.add ((x4_1).toNat * 4)).block, (ad114.add ((x4_1).toNat * 4)).off + 2, none⟩ = some (.int .i64 ((rd_T43 l0 x4_1).f2)) ∧ w'.cell? ⟨(ad114.add ((x4_1).toNat * 4)).block, (ad114.add ((x4_1).toNat * 4)).off + 3, none⟩ = some (.bool true)) (ds := []) #[F,F,F,F,F,F,F,F,F,F,F,F,F,F,F,F,F,F,F,F,F,F,F,F,F,F,F] (by kernel_rfl) rfl rfl ⟨(nC HB.out hw114_0 :), (nC HB.out hw114_1 :), (nC HB.out hw114_2 :), (nC HB.out hw114_3 :), (nC HB.out hw118_0 :), (nC HB.out hw118_1 :), (nC HB.out hw118_2 :), (nC HB.out hw118_3 :), (nC HB.out hw120_0 :), (nC HB.out hw120_1 :), (nC HB.out hw120_2 :), (nC HB.out hw120_3 :)⟩ (fun hHeld => ?_); refine with_tabW spec_StockText.tab11 spec_StockText.bits11 (fun HT_ HW_ => ?_)
             generalize wc.drew = w22 at HB hx114_0 hx114_1 hx114_2 hx114_3 hx118_0 hx118_1 hx118_2 hx118_3 hx120_0 hx120_1 hx120_2 hx120_3 hHeld ⊢
             refine pU 0 (some 21) #[T,F,F,F,F,F,F,F,F,F,F,F,F,F,F,F,F,F,F,F,F,F,F,F,F,F,F] rfl rfl HT_.out ?_
             refine pU 1 (some 22) #[T,T,F,F,F,F,F,F,F,F,F,F,F,F,F,F,F,F,F,F,F,F,F,F,F,F,F] rfl rfl HT_.out ?_
             refine pU 2 (some 23) #[T,T,T,F,F,F,F,F,F,F,F,F,F,F,F,F,F,F,F,F,F,F,F,F,F,F,F] rfl rfl HT_.out ?_
             refine pU 3 (some 24) #[T,T,T,T,F,F,F,F,F,F,F,F,F,F,F,F,F,F,F,F,F,F,F,F,F,F,F] rfl rfl HT_.out ?_
             refine pU 4 (some 25) #[T,T,T,T,T,F,F,F,F,F,F,F,F,F,F,F,F,F,F,F,F,F,F,F,F,F,F] rfl rfl HT_.out ?_
             refine pU 11 (some 32) #[T,T,T,T,T,F,F,F,F,F,F,T,F,F,F,F,F,F,F,F,F,F,F,F,F,F,F] rfl rfl HT_.out ?_
             refine pU 12 (some 33) #[T,T,T,T,T,F,F,F,F,F,F,T,T,F,F,F,F,F,F,F,F,F,F,F,F,F,F] rfl rfl HT_.out ?_
             refine pU 13 (some 34) #[T,T,T,T,T,F,F,F,F,F,F,T,T,T,F,F,F,F,F,F,F,F,F,F,F,F,F] rfl rfl HT_.out ?_
             refine pU 14 (some 35) #[T,T,T,T,T,F,F,F,F,F,F,T,T,T,T,F,F,F,F,F,F,F,F,F,F,F,F] rfl rfl HT_.out ?_
             refine pU 19 (some 40) #[T,T,T,T,T,F,F,F,F,F,F,T,T,T,T,F,F,F,F,T,F,F,F,F,F,F,F] rfl rfl HT_.out ?_
             refine pU 20 (some 41) #[T,T,T,T,T,F,F,F,F,F,F,T,T,T,T,F,F,F,F,T,T,F,F,F,F,F,F] rfl rfl HT_.out ?_
             refine pU 21 (some 42) #[T,T,T,T,T,F,F,F,F,F,F,T,T,T,T,F,F,F,F,T,T,T,F,F,F,F,F] rfl rfl HT_.out ?_
             refine pU 22 (some 43) #[T,T,T,T,T,F,F,F,F,F,F,T,T,T,T,F,F,F,F,T,T,T,T,F,F,F,F] rfl rfl HT_.out ?_
             refine tU12 5 (some 26) #[T,T,T,T,T,T,F,F,F,F,F,T,T,T,T,F,F,F,F,T,T,T,T,F,F,F,F] rfl rfl HT_.out HW_.out hHeld ?_
             refine pU 6 (some 27) #[T,T,T,T,T,T,T,F,F,F,F,T,T,T,T,F,F,F,F,T,T,T,T,F,F,F,F] rfl rfl HT_.out ?_
             refine pU 7 (some 28) #[T,T,T,T,T,T,T,T,F,F,F,T,T,T,T,F,F,F,F,T,T,T,T,F,F,F,F] rfl rfl HT_.out ?_
             refine tU12 15 (some 36) #[T,T,T,T,T,T,T,T,F,F,F,T,T,T,T,T,F,F,F,T,T,T,T,F,F,F,F] rfl rfl HT_.out HW_.out hHeld ?_
             refine tU12 23 (some 44) #[T,T,T,T,T,T,T,T,F,F,F,T,T,T,T,T,F,F,F,T,T,T,T,T,F,F,F] rfl rfl HT_.out HW_.out hHeld ?_
             refine join_ (σ := Value) 2 #[T,T,T,T,T,T,T,T,T,T,T,T,T,T,T,T,T,T,T,T,T,T,T,T,T,F,F] (fun s_ => [(29, s_), (30, .string (strOfNums y115)), (37, .string t119), (45, .string t121), (31, .string (x3_7 ++ (strOfNums y115))), (38, .string ((x3_7 ++ (strOfNums y115)) ++ t119)), (39, .string (((x3_7 ++ (strOfNums y115)) ++ t119) ++ (⟨#[47]⟩ : ByteArray)))]) (fun s_ w' => (w'.cell? (ad114.add ((x4_1).toNat * 4)) = some (.int .i64 ((rd_T43 l0 x4_1).f0)) ∧ w'.cell? ⟨(ad114.add ((x4_1).toNat * 4)).block, (ad114.add ((x4_1).toNat * 4)).off + 1, none⟩ = some (.int .i64 ((rd_T43 l0 x4_1).f1)) ∧ w'.cell? ⟨(ad114.add ((x4_1).toNat * 4)).block, (ad114.add ((x4_1).toNat * 4)).off + 2, none⟩ = some (.int .i64 ((rd_T43 l0 x4_1).f2)) ∧ w'.cell? ⟨(ad114.add ((x4_1).toNat * 4)).block, (ad114.add ((x4_1).toNat * 4)).off + 3, none⟩ = some (.bool true) ∧ w'.cell? (ad114.add ((x4_1).toNat * 4)) = some (.int .i64 ((rd_T43 l0 x4_1).f0)) ∧ w'.cell? ⟨(ad114.add ((x4_1).toNat * 4)).block, (ad114.add ((x4_1).toNat * 4)).off + 1, none⟩ = some (.int .i64 ((rd_T43 l0 x4_1).f1)) ∧ w'.cell? ⟨(ad114.add ((x4_1).toNat * 4)).block, (ad114.add ((x4_1).toNat * 4)).off + 2, none⟩ = some (.int .i64 ((rd_T43 l0 x4_1).f2)) ∧ w'.cell? ⟨(ad114.add ((x4_1).toNat * 4)).block, (ad114.add ((x4_1).toNat * 4)).off + 3, none⟩ = some (.bool true) ∧ w'.cell? (ad114.add ((x4_1).toNat * 4)) = some (.int .i64 ((rd_T43 l0 x4_1).f0)) ∧ w'.cell? ⟨(ad114.add ((x4_1).toNat * 4)).block, (ad114.add ((x4_1).toNat * 4)).off + 1, none⟩ = some (.int .i64 ((rd_T43 l0 x4_1).f1)) ∧ w'.cell? ⟨(ad114.add ((x4_1).toNat * 4)).block, (ad114.add ((x4_1).toNat * 4)).off + 2, none⟩ = some (.int .i64 ((rd_T43 l0 x4_1).f2)) ∧ w'.cell? ⟨(ad114.add ((x4_1).toNat * 4)).block, (ad114.add ((x4_1).toNat * 4)).off + 3, none⟩ = some (.bool true)) ∧ (Kd.R (Kd.int .u8) 5 w' w.heap.size (fun _ => True) s_ y115) ∧ (Below w.heap.size w w')) ?_ ?_
             rotate_left
             · intro hJ8_9_16_24
               refine join_ (σ := Value) 3 #[T,T,T,T,T,T,T,T,T,T,T,T,T,T,T,T,T,T,T,T,T,T,T,T,F,F,F] (fun s_ => [(29, s_), (30, .string (strOfNums y115)), (37, .string t119), (31, .string (x3_7 ++ (strOfNums y115))), (38, .string ((x3_7 ++ (strOfNums y115)) ++ t119)), (39, .string (((x3_7 ++ (strOfNums y115)) ++ t119) ++ (⟨#[47]⟩ : ByteArray)))]) (fun s_ w' => (w'.cell? (ad114.add ((x4_1).toNat * 4)) = some (.int .i64 ((rd_T43 l0 x4_1).f0)) ∧ w'.cell? ⟨(ad114.add ((x4_1).toNat * 4)).block, (ad114.add ((x4_1).toNat * 4)).off + 1, none⟩ = some (.int .i64 ((rd_T43 l0 x4_1).f1)) ∧ w'.cell? ⟨(ad114.add ((x4_1).toNat * 4)).block, (ad114.add ((x4_1).toNat * 4)).off + 2, none⟩ = some (.int .i64 ((rd_T43 l0 x4_1).f2)) ∧ w'.cell? ⟨(ad114.add ((x4_1).toNat * 4)).block, (ad114.add ((x4_1).toNat * 4)).off + 3, none⟩ = some (.bool true) ∧ w'.cell? (ad114.add ((x4_1).toNat * 4)) = some (.int .i64 ((rd_T43 l0 x4_1).f0)) ∧ w'.cell? ⟨(ad114.add ((x4_1).toNat * 4)).block, (ad114.add ((x4_1).toNat * 4)).off + 1, none⟩ = some (.int .i64 ((rd_T43 l0 x4_1).f1)) ∧ w'.cell? ⟨(ad114.add ((x4_1).toNat * 4)).block, (ad114.add ((x4_1).toNat * 4)).off + 2, none⟩ = some (.int .i64 ((rd_T43 l0 x4_1).f2)) ∧ w'.cell? ⟨(ad114.add ((x4_1).toNat * 4)).block, (ad114.add ((x4_1).toNat * 4)).off + 3, none⟩ = some (.bool true) ∧ w'.cell? (ad114.add ((x4_1).toNat * 4)) = some (.int .i64 ((rd_T43 l0 x4_1).f0)) ∧ w'.cell? ⟨(ad114.add ((x4_1).toNat * 4)).block, (ad114.add ((x4_1).toNat * 4)).off + 1, none⟩ = some (.int .i64 ((rd_T43 l0 x4_1).f1)) ∧ w'.cell? ⟨(ad114.add ((x4_1).toNat * 4)).block, (ad114.add ((x4_1).toNat * 4)).off + 2, none⟩ = some (.int .i64 ((rd_T43 l0 x4_1).f2)) ∧ w'.cell? ⟨(ad114.add ((x4_1).toNat * 4)).block, (ad114.add ((x4_1).toNat * 4)).off + 3, none⟩ = some (.bool true)) ∧ (Kd.R (Kd.int .u8) 5 w' w.heap.size (fun _ => True) s_ y115) ∧ (Below w.heap.size w w')) ?_ ?_
               rotate_left
               · intro hJ8_9_16
                 refine join_ (σ := Value) 6 #[T,T,T,T,T,T,T,T,T,F,F,T,T,T,T,T,T,F,F,T,T,T,T,T,T,F,F] (fun s_ => [(29, s_), (37, .string t119), (45, .string t121)]) (fun s_ w' => (w'.cell? (ad114.add ((x4_1).toNat * 4)) = some (.int .i64 ((rd_T43 l0 x4_1).f0)) ∧ w'.cell? ⟨(ad114.add ((x4_1).toNat * 4)).block, (ad114.add ((x4_1).toNat * 4)).off + 1, none⟩ = some (.int .i64 ((rd_T43 l0 x4_1).f1)) ∧ w'.cell? ⟨(ad114.add ((x4_1).toNat * 4)).block, (ad114.add ((x4_1).toNat * 4)).off + 2, none⟩ = some (.int .i64 ((rd_T43 l0 x4_1).f2)) ∧ w'.cell? ⟨(ad114.add ((x4_1).toNat * 4)).block, (ad114.add ((x4_1).toNat * 4)).off + 3, none⟩ = some (.bool true) ∧ w'.cell? (ad114.add ((x4_1).toNat * 4)) = some (.int .i64 ((rd_T43 l0 x4_1).f0)) ∧ w'.cell? ⟨(ad114.add ((x4_1).toNat * 4)).block, (ad114.add ((x4_1).toNat * 4)).off + 1, none⟩ = some (.int .i64 ((rd_T43 l0 x4_1).f1)) ∧ w'.cell? ⟨(ad114.add ((x4_1).toNat * 4)).block, (ad114.add ((x4_1).toNat * 4)).off + 2, none⟩ = some (.int .i64 ((rd_T43 l0 x4_1).f2)) ∧ w'.cell? ⟨(ad114.add ((x4_1).toNat * 4)).block, (ad114.add ((x4_1).toNat * 4)).off + 3, none⟩ = some (.bool true) ∧ w'.cell? (ad114.add ((x4_1).toNat * 4)) = some (.int .i64 ((rd_T43 l0 x4_1).f0)) ∧ w'.cell? ⟨(ad114.add ((x4_1).toNat * 4)).block, (ad114.add ((x4_1).toNat * 4)).off + 1, none⟩ = some (.int .i64 ((rd_T43 l0 x4_1).f1)) ∧ w'.cell? ⟨(ad114.add ((x4_1).toNat * 4)).block, (ad114.add ((x4_1).toNat * 4)).off + 2, none⟩ = some (.int .i64 ((rd_T43 l0 x4_1).f2)) ∧ w'.cell? ⟨(ad114.add ((x4_1).toNat * 4)).block, (ad114.add ((x4_1).toNat * 4)).off + 3, none⟩ = some (.bool true)) ∧ (Kd.R (Kd.int .u8) 5 w' w.heap.size (fun _ => True) s_ y115) ∧ (Below w.heap.size w w')) ?_ ?_
                 rotate_left
                 · intro hJ8_16_24
                   refine join_ (σ := Value) 6 #[T,T,T,T,T,T,T,T,T,T,T,T,T,T,T,T,F,F,F,T,T,T,T,T,F,F,F] (fun s_ => [(29, s_), (30, .string (strOfNums y115)), (31, .string (x3_7 ++ (strOfNums y115)))]) (fun s_ w' => (w'.cell? (ad114.add ((x4_1).toNat * 4)) = some (.int .i64 ((rd_T43 l0 x4_1).f0)) ∧ w'.cell? ⟨(ad114.add ((x4_1).toNat * 4)).block, (ad114.add ((x4_1).toNat * 4)).off + 1, none⟩ = some (.int .i64 ((rd_T43 l0 x4_1).f1)) ∧ w'.cell? ⟨(ad114.add ((x4_1).toNat * 4)).block, (ad114.add ((x4_1).toNat * 4)).off + 2, none⟩ = some (.int .i64 ((rd_T43 l0 x4_1).f2)) ∧ w'.cell? ⟨(ad114.add ((x4_1).toNat * 4)).block, (ad114.add ((x4_1).toNat * 4)).off + 3, none⟩ = some (.bool true) ∧ w'.cell? (ad114.add ((x4_1).toNat * 4)) = some (.int .i64 ((rd_T43 l0 x4_1).f0)) ∧ w'.cell? ⟨(ad114.add ((x4_1).toNat * 4)).block, (ad114.add ((x4_1).toNat * 4)).off + 1, none⟩ = some (.int .i64 ((rd_T43 l0 x4_1).f1)) ∧ w'.cell? ⟨(ad114.add ((x4_1).toNat * 4)).block, (ad114.add ((x4_1).toNat * 4)).off + 2, none⟩ = some (.int .i64 ((rd_T43 l0 x4_1).f2)) ∧ w'.cell? ⟨(ad114.add ((x4_1).toNat * 4)).block, (ad114.add ((x4_1).toNat * 4)).off + 3, none⟩ = some (.bool true) ∧ w'.cell? (ad114.add ((x4_1).toNat * 4)) = some (.int .i64 ((rd_T43 l0 x4_1).f0)) ∧ w'.cell? ⟨(ad114.add ((x4_1).toNat * 4)).block, (ad114.add ((x4_1).toNat * 4)).off + 1, none⟩ = some (.int .i64 ((rd_T43 l0 x4_1).f1)) ∧ w'.cell? ⟨(ad114.add ((x4_1).toNat * 4)).block, (ad114.add ((x4_1).toNat * 4)).off + 2, none⟩ = some (.int .i64 ((rd_T43 l0 x4_1).f2)) ∧ w'.cell? ⟨(ad114.add ((x4_1).toNat * 4)).block, (ad114.add ((x4_1).toNat * 4)).off + 3, none⟩ = some (.bool true)) ∧ (Kd.R (Kd.int .u8) 5 w' w.heap.size (fun _ => True) s_ y115) ∧ (Below w.heap.size w w')) ?_ ?_
                   rotate_left
                   · intro hJ8_9
                     refine join_ (σ := Value) 7 #[T,T,T,T,T,T,T,T,T,F,F,T,T,T,T,T,T,F,F,T,T,T,T,T,F,F,F] (fun s_ => [(29, s_), (37, .string t119)]) (fun s_ w' => (w'.cell? (ad114.add ((x4_1).toNat * 4)) = some (.int .i64 ((rd_T43 l0 x4_1).f0)) ∧ w'.cell? ⟨(ad114.add ((x4_1).toNat * 4)).block, (ad114.add ((x4_1).toNat * 4)).off + 1, none⟩ = some (.int .i64 ((rd_T43 l0 x4_1).f1)) ∧ w'.cell? ⟨(ad114.add ((x4_1).toNat * 4)).block, (ad114.add ((x4_1).toNat * 4)).off + 2, none⟩ = some (.int .i64 ((rd_T43 l0 x4_1).f2)) ∧ w'.cell? ⟨(ad114.add ((x4_1).toNat * 4)).block, (ad114.add ((x4_1).toNat * 4)).off + 3, none⟩ = some (.bool true) ∧ w'.cell? (ad114.add ((x4_1).toNat * 4)) = some (.int .i64 ((rd_T43 l0 x4_1).f0)) ∧ w'.cell? ⟨(ad114.add ((x4_1).toNat * 4)).block, (ad114.add ((x4_1).toNat * 4)).off + 1, none⟩ = some (.int .i64 ((rd_T43 l0 x4_1).f1)) ∧ w'.cell? ⟨(ad114.add ((x4_1).toNat * 4)).block, (ad114.add ((x4_1).toNat * 4)).off + 2, none⟩ = some (.int .i64 ((rd_T43 l0 x4_1).f2)) ∧ w'.cell? ⟨(ad114.add ((x4_1).toNat * 4)).block, (ad114.add ((x4_1).toNat * 4)).off + 3, none⟩ = some (.bool true) ∧ w'.cell? (ad114.add ((x4_1).toNat * 4)) = some (.int .i64 ((rd_T43 l0 x4_1).f0)) ∧ w'.cell? ⟨(ad114.add ((x4_1).toNat * 4)).block, (ad114.add ((x4_1).toNat * 4)).off + 1, none⟩ = some (.int .i64 ((rd_T43 l0 x4_1).f1)) ∧ w'.cell? ⟨(ad114.add ((x4_1).toNat * 4)).block, (ad114.add ((x4_1).toNat * 4)).off + 2, none⟩ = some (.int .i64 ((rd_T43 l0 x4_1).f2)) ∧ w'.cell? ⟨(ad114.add ((x4_1).toNat * 4)).block, (ad114.add ((x4_1).toNat * 4)).off + 3, none⟩ = some (.bool true)) ∧ (Kd.R (Kd.int .u8) 5 w' w.heap.size (fun _ => True) s_ y115) ∧ (Below w.heap.size w w')) ?_ ?_
                     rotate_left
                     · intro hJ8_16
                       refine join_ (σ := Unit) 7 #[T,T,T,T,T,T,T,T,F,F,F,T,T,T,T,T,T,F,F,T,T,T,T,T,T,F,F] (fun s_ => [(37, .string t119), (45, .string t121)]) (fun s_ w' => (w'.cell? (ad114.add ((x4_1).toNat * 4)) = some (.int .i64 ((rd_T43 l0 x4_1).f0)) ∧ w'.cell? ⟨(ad114.add ((x4_1).toNat * 4)).block, (ad114.add ((x4_1).toNat * 4)).off + 1, none⟩ = some (.int .i64 ((rd_T43 l0 x4_1).f1)) ∧ w'.cell? ⟨(ad114.add ((x4_1).toNat * 4)).block, (ad114.add ((x4_1).toNat * 4)).off + 2, none⟩ = some (.int .i64 ((rd_T43 l0 x4_1).f2)) ∧ w'.cell? ⟨(ad114.add ((x4_1).toNat * 4)).block, (ad114.add ((x4_1).toNat * 4)).off + 3, none⟩ = some (.bool true) ∧ w'.cell? (ad114.add ((x4_1).toNat * 4)) = some (.int .i64 ((rd_T43 l0 x4_1).f0)) ∧ w'.cell? ⟨(ad114.add ((x4_1).toNat * 4)).block, (ad114.add ((x4_1).toNat * 4)).off + 1, none⟩ = some (.int .i64 ((rd_T43 l0 x4_1).f1)) ∧ w'.cell? ⟨(ad114.add ((x4_1).toNat * 4)).block, (ad114.add ((x4_1).toNat * 4)).off + 2, none⟩ = some (.int .i64 ((rd_T43 l0 x4_1).f2)) ∧ w'.cell? ⟨(ad114.add ((x4_1).toNat * 4)).block, (ad114.add ((x4_1).toNat * 4)).off + 3, none⟩ = some (.bool true) ∧ w'.cell? (ad114.add ((x4_1).toNat * 4)) = some (.int .i64 ((rd_T43 l0 x4_1).f0)) ∧ w'.cell? ⟨(ad114.add ((x4_1).toNat * 4)).block, (ad114.add ((x4_1).toNat * 4)).off + 1, none⟩ = some (.int .i64 ((rd_T43 l0 x4_1).f1)) ∧ w'.cell? ⟨(ad114.add ((x4_1).toNat * 4)).block, (ad114.add ((x4_1).toNat * 4)).off + 2, none⟩ = some (.int .i64 ((rd_T43 l0 x4_1).f2)) ∧ w'.cell? ⟨(ad114.add ((x4_1).toNat * 4)).block, (ad114.add ((x4_1).toNat * 4)).off + 3, none⟩ = some (.bool true)) ∧ (Below w.heap.size w w')) ?_ ?_
                       rotate_left
                       · intro hJ16_24
                         refine join_ (σ := Value) 8 #[T,T,T,T,T,T,T,T,T,F,F,T,T,T,T,T,F,F,F,T,T,T,T,T,F,F,F] (fun s_ => [(29, s_)]) (fun s_ w' => (w'.cell? (ad114.add ((x4_1).toNat * 4)) = some (.int .i64 ((rd_T43 l0 x4_1).f0)) ∧ w'.cell? ⟨(ad114.add ((x4_1).toNat * 4)).block, (ad114.add ((x4_1).toNat * 4)).off + 1, none⟩ = some (.int .i64 ((rd_T43 l0 x4_1).f1)) ∧ w'.cell? ⟨(ad114.add ((x4_1).toNat * 4)).block, (ad114.add ((x4_1).toNat * 4)).off + 2, none⟩ = some (.int .i64 ((rd_T43 l0 x4_1).f2)) ∧ w'.cell? ⟨(ad114.add ((x4_1).toNat * 4)).block, (ad114.add ((x4_1).toNat * 4)).off + 3, none⟩ = some (.bool true) ∧ w'.cell? (ad114.add ((x4_1).toNat * 4)) = some (.int .i64 ((rd_T43 l0 x4_1).f0)) ∧ w'.cell? ⟨(ad114.add ((x4_1).toNat * 4)).block, (ad114.add ((x4_1).toNat * 4)).off + 1, none⟩ = some (.int .i64 ((rd_T43 l0 x4_1).f1)) ∧ w'.cell? ⟨(ad114.add ((x4_1).toNat * 4)).block, (ad114.add ((x4_1).toNat * 4)).off + 2, none⟩ = some (.int .i64 ((rd_T43 l0 x4_1).f2)) ∧ w'.cell? ⟨(ad114.add ((x4_1).toNat * 4)).block, (ad114.add ((x4_1).toNat * 4)).off + 3, none⟩ = some (.bool true) ∧ w'.cell? (ad114.add ((x4_1).toNat * 4)) = some (.int .i64 ((rd_T43 l0 x4_1).f0)) ∧ w'.cell? ⟨(ad114.add ((x4_1).toNat * 4)).block, (ad114.add ((x4_1).toNat * 4)).off + 1, none⟩ = some (.int .i64 ((rd_T43 l0 x4_1).f1)) ∧ w'.cell? ⟨(ad114.add ((x4_1).toNat * 4)).block, (ad114.add ((x4_1).toNat * 4)).off + 2, none⟩ = some (.int .i64 ((rd_T43 l0 x4_1).f2)) ∧ w'.cell? ⟨(ad114.add ((x4_1).toNat * 4)).block, (ad114.add ((x4_1).toNat * 4)).off + 3, none⟩ = some (.bool true)) ∧ (Kd.R (Kd.int .u8) 5 w' w.heap.size (fun _ => True) s_ y115) ∧ (Below w.heap.size w w')) ?_ ?_
                         rotate_left
                         · intro hJ8
                           refine join_ (σ := Unit) 8 #[T,T,T,T,T,T,T,T,F,F,F,T,T,T,T,T,T,F,F,T,T,T,T,T,F,F,F] (fun s_ => [(37, .string t119)]) (fun s_ w' => (w'.cell? (ad114.add ((x4_1).toNat * 4)) = some (.int .i64 ((rd_T43 l0 x4_1).f0)) ∧ w'.cell? ⟨(ad114.add ((x4_1).toNat * 4)).block, (ad114.add ((x4_1).toNat * 4)).off + 1, none⟩ = some (.int .i64 ((rd_T43 l0 x4_1).f1)) ∧ w'.cell? ⟨(ad114.add ((x4_1).toNat * 4)).block, (ad114.add ((x4_1).toNat * 4)).off + 2, none⟩ = some (.int .i64 ((rd_T43 l0 x4_1).f2)) ∧ w'.cell? ⟨(ad114.add ((x4_1).toNat * 4)).block, (ad114.add ((x4_1).toNat * 4)).off + 3, none⟩ = some (.bool true) ∧ w'.cell? (ad114.add ((x4_1).toNat * 4)) = some (.int .i64 ((rd_T43 l0 x4_1).f0)) ∧ w'.cell? ⟨(ad114.add ((x4_1).toNat * 4)).block, (ad114.add ((x4_1).toNat * 4)).off + 1, none⟩ = some (.int .i64 ((rd_T43 l0 x4_1).f1)) ∧ w'.cell? ⟨(ad114.add ((x4_1).toNat * 4)).block, (ad114.add ((x4_1).toNat * 4)).off + 2, none⟩ = some (.int .i64 ((rd_T43 l0 x4_1).f2)) ∧ w'.cell? ⟨(ad114.add ((x4_1).toNat * 4)).block, (ad114.add ((x4_1).toNat * 4)).off + 3, none⟩ = some (.bool true) ∧ w'.cell? (ad114.add ((x4_1).toNat * 4)) = some (.int .i64 ((rd_T43 l0 x4_1).f0)) ∧ w'.cell? ⟨(ad114.add ((x4_1).toNat * 4)).block, (ad114.add ((x4_1).toNat * 4)).off + 1, none⟩ = some (.int .i64 ((rd_T43 l0 x4_1).f1)) ∧ w'.cell? ⟨(ad114.add ((x4_1).toNat * 4)).block, (ad114.add ((x4_1).toNat * 4)).off + 2, none⟩ = some (.int .i64 ((rd_T43 l0 x4_1).f2)) ∧ w'.cell? ⟨(ad114.add ((x4_1).toNat * 4)).block, (ad114.add ((x4_1).toNat * 4)).off + 3, none⟩ = some (.bool true)) ∧ (Below w.heap.size w w')) ?_ ?_
                           rotate_left
                           · intro hJ16
                             refine two_ (i := 8) (j := 16) (Ni := some 29) (Nj := some 37) #[T,T,T,T,T,T,T,T,T,F,F,T,T,T,T,T,F,F,F,T,T,T,T,T,F,F,F] #[T,T,T,T,T,T,T,T,F,F,F,T,T,T,T,T,T,F,F,T,T,T,T,T,F,F,F] rfl rfl rfl rfl (two_of HT_.out (by kernel_rfl)) (by decide) (by decide) (fun K hK => ?_) (fun K hK => ?_)
                             · skip
                               refine Kd.R_lit_step (Kd.int .u8) _ 5 ?hg (N := 29) ?hd (xs := ([(wrap64 (64 + ((rd_T43 l0 x4_1).f1))) % 256] : List Int)) (inner := [.int .u8 ((wrap64 (64 + ((rd_T43 l0 x4_1).f1))) % 256)]) (ok := fun _ => True) (okp := fun _ => True) ?hr ?hp (fun _ hk => hk) trivial (Below.refl _ _) (Nat.le_refl _) (by simp) ?_; (case hd => rfl); (case hg => rfl); (case hr => first | (go_simp; done) | (go_simp; rfl)); (case hp => exact (Reps.one (show Kd.M (Kd.int .u8) _ _ _ ((wrap64 (64 + ((rd_T43 l0 x4_1).f1))) % 256) [.int .u8 ((wrap64 (64 + ((rd_T43 l0 x4_1).f1))) % 256)] from rfl) (Reps.none _ _)))
                               intro v116 w23 ho24 hb hg_ hnew_
                               clear hg_ hnew_
                               (first | rw [← Ny115.out] at ho24 | (simp only [Int.reduceToNat] at ho24; rw [← Ny115.out] at ho24))
                               have n0_ := Aside0.mk (Kd.R_lower ho24 (below_size (nH HB.out)))
                               have n1_ := Aside0.mk (below_step (nH HB.out) hb)
                               clear HB; have HO117 := n0_; have HB := n1_; clear n0_ n1_; clear hb ho24
                               refine hK.out _ _ ⟨(nC HB.out hw114_0 :), (nC HB.out hw114_1 :), (nC HB.out hw114_2 :), (nC HB.out hw114_3 :), (nC HB.out hw118_0 :), (nC HB.out hw118_1 :), (nC HB.out hw118_2 :), (nC HB.out hw118_3 :), (nC HB.out hw120_0 :), (nC HB.out hw120_1 :), (nC HB.out hw120_2 :), (nC HB.out hw120_3 :)⟩ (fun hHeld => ?_)
                               clear hK K
                               refine norm_ (a' := ?_) ?_ ?_
                               rotate_left
                               · show Act.put _ (some 29) _ = _
                                 simp only [Act.put, List.setIfInBounds_toArray, List.set_cons_zero, List.set_cons_succ, i64_w, i32_w]
                                 rfl
                               exact norm_ (by first | (simp only [putAll, Act.put, List.setIfInBounds_toArray, List.set_cons_zero, List.set_cons_succ]; done) | (simp only [putAll, Act.put, List.setIfInBounds_toArray, List.set_cons_zero, List.set_cons_succ]; rfl)) (hJ8 (v116) _ ⟨hHeld, (nR HO117.out), (nH HB.out)⟩)
                             · skip
                               refine goes_ Tryd.func25 (by kernel_rfl) rfl #[.int .i64 ((rd_T43 l0 x4_1).f0)] (by rfl) rfl rfl (by (try simp only [List.map_toArray, List.map_cons, List.map_nil]); first | done | rfl | (simp only [List.length_drop, List.length_take]; rfl)) ?_
                               with_reducible refine (spec_l01Num.calls kj7 ((rd_T43 l0 x4_1).f0) t119 _ A14.out).mono ?_
                               rintro e w23 ⟨rfl, hb⟩
                               refine ⟨_, rfl, ?_⟩
                               have n0_ := Aside0.mk (below_step (nH HB.out) hb)
                               clear HB; have HB := n0_; clear n0_; (try clear hb); (try clear hb2); (try clear hk); (try clear hi)
                               refine hK.out _ _ ⟨(nC HB.out hw114_0 :), (nC HB.out hw114_1 :), (nC HB.out hw114_2 :), (nC HB.out hw114_3 :), (nC HB.out hw118_0 :), (nC HB.out hw118_1 :), (nC HB.out hw118_2 :), (nC HB.out hw118_3 :), (nC HB.out hw120_0 :), (nC HB.out hw120_1 :), (nC HB.out hw120_2 :), (nC HB.out hw120_3 :)⟩ (fun hHeld => ?_)
                               clear hK K
                               refine norm_ (a' := ?_) ?_ ?_
                               rotate_left
                               · show Act.put _ (some 37) _ = _
                                 simp only [Act.put, List.setIfInBounds_toArray, List.set_cons_zero, List.set_cons_succ, i64_w, i32_w]
                                 rfl
                               exact norm_ (by first | (simp only [putAll, Act.put, List.setIfInBounds_toArray, List.set_cons_zero, List.set_cons_succ]; done) | (simp only [putAll, Act.put, List.setIfInBounds_toArray, List.set_cons_zero, List.set_cons_succ]; rfl)) (hJ16 () _ ⟨hHeld, (nH HB.out)⟩)
                           · skip
                             rintro _ w24 ⟨hS_, h0_⟩
                             have n0_ : Aside0 (Below w.heap.size w w24) := ⟨h0_⟩
                             clear HB; clear h0_; have HB := n0_; clear n0_
                             have hHeld : w24.cell? (ad114.add ((x4_1).toNat * 4)) = some (.int .i64 ((rd_T43 l0 x4_1).f0)) ∧ w24.cell? ⟨(ad114.add ((x4_1).toNat * 4)).block, (ad114.add ((x4_1).toNat * 4)).off + 1, none⟩ = some (.int .i64 ((rd_T43 l0 x4_1).f1)) ∧ w24.cell? ⟨(ad114.add ((x4_1).toNat * 4)).block, (ad114.add ((x4_1).toNat * 4)).off + 2, none⟩ = some (.int .i64 ((rd_T43 l0 x4_1).f2)) ∧ w24.cell? ⟨(ad114.add ((x4_1).toNat * 4)).block, (ad114.add ((x4_1).toNat * 4)).off + 3, none⟩ = some (.bool true) ∧ w24.cell? (ad114.add ((x4_1).toNat * 4)) = some (.int .i64 ((rd_T43 l0 x4_1).f0)) ∧ w24.cell? ⟨(ad114.add ((x4_1).toNat * 4)).block, (ad114.add ((x4_1).toNat * 4)).off + 1, none⟩ = some (.int .i64 ((rd_T43 l0 x4_1).f1)) ∧ w24.cell? ⟨(ad114.add ((x4_1).toNat * 4)).block, (ad114.add ((x4_1).toNat * 4)).off + 2, none⟩ = some (.int .i64 ((rd_T43 l0 x4_1).f2)) ∧ w24.cell? ⟨(ad114.add ((x4_1).toNat * 4)).block, (ad114.add ((x4_1).toNat * 4)).off + 3, none⟩ = some (.bool true) ∧ w24.cell? (ad114.add ((x4_1).toNat * 4)) = some (.int .i64 ((rd_T43 l0 x4_1).f0)) ∧ w24.cell? ⟨(ad114.add ((x4_1).toNat * 4)).block, (ad114.add ((x4_1).toNat * 4)).off + 1, none⟩ = some (.int .i64 ((rd_T43 l0 x4_1).f1)) ∧ w24.cell? ⟨(ad114.add ((x4_1).toNat * 4)).block, (ad114.add ((x4_1).toNat * 4)).off + 2, none⟩ = some (.int .i64 ((rd_T43 l0 x4_1).f2)) ∧ w24.cell? ⟨(ad114.add ((x4_1).toNat * 4)).block, (ad114.add ((x4_1).toNat * 4)).off + 3, none⟩ = some (.bool true) := hS_
                             refine norm_ (a' := ?_) ?_ ?_
                             rotate_left
                             · simp only [putAll, Act.put, List.setIfInBounds_toArray, List.set_cons_zero, List.set_cons_succ]
                               rfl
                             refine two_ (i := 8) (j := 24) (Ni := some 29) (Nj := some 45) #[T,T,T,T,T,T,T,T,T,F,F,T,T,T,T,T,T,F,F,T,T,T,T,T,F,F,F] #[T,T,T,T,T,T,T,T,F,F,F,T,T,T,T,T,T,F,F,T,T,T,T,T,T,F,F] rfl rfl rfl rfl (two_of HT_.out (by kernel_rfl)) (by decide) (by decide) (fun K hK => ?_) (fun K hK => ?_)
                             · skip
                               refine Kd.R_lit_step (Kd.int .u8) _ 5 ?hg (N := 29) ?hd (xs := ([(wrap64 (64 + ((rd_T43 l0 x4_1).f1))) % 256] : List Int)) (inner := [.int .u8 ((wrap64 (64 + ((rd_T43 l0 x4_1).f1))) % 256)]) (ok := fun _ => True) (okp := fun _ => True) ?hr ?hp (fun _ hk => hk) trivial (Below.refl _ _) (Nat.le_refl _) (by simp) ?_; (case hd => rfl); (case hg => rfl); (case hr => first | (go_simp; done) | (go_simp; rfl)); (case hp => exact (Reps.one (show Kd.M (Kd.int .u8) _ _ _ ((wrap64 (64 + ((rd_T43 l0 x4_1).f1))) % 256) [.int .u8 ((wrap64 (64 + ((rd_T43 l0 x4_1).f1))) % 256)] from rfl) (Reps.none _ _)))
                               intro v116 w25 ho26 hb hg_ hnew_
                               clear hg_ hnew_
                               (first | rw [← Ny115.out] at ho26 | (simp only [Int.reduceToNat] at ho26; rw [← Ny115.out] at ho26))
                               have n0_ := Aside0.mk (Kd.R_lower ho26 (below_size (nH HB.out)))
                               have n1_ := Aside0.mk (below_step (nH HB.out) hb)
                               clear HB; have HO117 := n0_; have HB := n1_; clear n0_ n1_; clear hb ho26
                               refine hK.out _ _ ⟨(nC HB.out hw114_0 :), (nC HB.out hw114_1 :), (nC HB.out hw114_2 :), (nC HB.out hw114_3 :), (nC HB.out hw118_0 :), (nC HB.out hw118_1 :), (nC HB.out hw118_2 :), (nC HB.out hw118_3 :), (nC HB.out hw120_0 :), (nC HB.out hw120_1 :), (nC HB.out hw120_2 :), (nC HB.out hw120_3 :)⟩ (fun hHeld => ?_)
                               clear hK K
                               refine norm_ (a' := ?_) ?_ ?_
                               rotate_left
                               · show Act.put _ (some 29) _ = _
                                 simp only [Act.put, List.setIfInBounds_toArray, List.set_cons_zero, List.set_cons_succ, i64_w, i32_w]
                                 rfl
                               exact norm_ (by first | (simp only [putAll, Act.put, List.setIfInBounds_toArray, List.set_cons_zero, List.set_cons_succ]; done) | (simp only [putAll, Act.put, List.setIfInBounds_toArray, List.set_cons_zero, List.set_cons_succ]; rfl)) (hJ8_16 (v116) _ ⟨hHeld, (nR HO117.out), (nH HB.out)⟩)
                             · skip
                               refine goes_ Tryd.func25 (by kernel_rfl) rfl #[.int .i64 ((rd_T43 l0 x4_1).f2)] (by rfl) rfl rfl (by (try simp only [List.map_toArray, List.map_cons, List.map_nil]); first | done | rfl | (simp only [List.length_drop, List.length_take]; rfl)) ?_
                               with_reducible refine (spec_l01Num.calls kj7 ((rd_T43 l0 x4_1).f2) t121 _ A17.out).mono ?_
                               rintro e w25 ⟨rfl, hb⟩
                               refine ⟨_, rfl, ?_⟩
                               have n0_ := Aside0.mk (below_step (nH HB.out) hb)
                               clear HB; have HB := n0_; clear n0_; (try clear hb); (try clear hb2); (try clear hk); (try clear hi)
                               refine hK.out _ _ ⟨(nC HB.out hw114_0 :), (nC HB.out hw114_1 :), (nC HB.out hw114_2 :), (nC HB.out hw114_3 :), (nC HB.out hw118_0 :), (nC HB.out hw118_1 :), (nC HB.out hw118_2 :), (nC HB.out hw118_3 :), (nC HB.out hw120_0 :), (nC HB.out hw120_1 :), (nC HB.out hw120_2 :), (nC HB.out hw120_3 :)⟩ (fun hHeld => ?_)
                               clear hK K
                               refine norm_ (a' := ?_) ?_ ?_
                               rotate_left
                               · show Act.put _ (some 45) _ = _
                                 simp only [Act.put, List.setIfInBounds_toArray, List.set_cons_zero, List.set_cons_succ, i64_w, i32_w]
                                 rfl
                               exact norm_ (by first | (simp only [putAll, Act.put, List.setIfInBounds_toArray, List.set_cons_zero, List.set_cons_succ]; done) | (simp only [putAll, Act.put, List.setIfInBounds_toArray, List.set_cons_zero, List.set_cons_succ]; rfl)) (hJ16_24 () _ ⟨hHeld, (nH HB.out)⟩)
                         · skip
                           rintro v116 w25 ⟨hS_, h0_, h1_⟩
                           have n0_ : Aside0 (Kd.R (Kd.int .u8) 5 w25 w.heap.size (fun _ => True) v116 y115) := ⟨h0_⟩
                           have n1_ : Aside0 (Below w.heap.size w w25) := ⟨h1_⟩
                           clear HB; clear h0_ h1_; have HO117 := n0_; have HB := n1_; clear n0_ n1_
                           have hHeld : w25.cell? (ad114.add ((x4_1).toNat * 4)) = some (.int .i64 ((rd_T43 l0 x4_1).f0)) ∧ w25.cell? ⟨(ad114.add ((x4_1).toNat * 4)).block, (ad114.add ((x4_1).toNat * 4)).off + 1, none⟩ = some (.int .i64 ((rd_T43 l0 x4_1).f1)) ∧ w25.cell? ⟨(ad114.add ((x4_1).toNat * 4)).block, (ad114.add ((x4_1).toNat * 4)).off + 2, none⟩ = some (.int .i64 ((rd_T43 l0 x4_1).f2)) ∧ w25.cell? ⟨(ad114.add ((x4_1).toNat * 4)).block, (ad114.add ((x4_1).toNat * 4)).off + 3, none⟩ = some (.bool true) ∧ w25.cell? (ad114.add ((x4_1).toNat * 4)) = some (.int .i64 ((rd_T43 l0 x4_1).f0)) ∧ w25.cell? ⟨(ad114.add ((x4_1).toNat * 4)).block, (ad114.add ((x4_1).toNat * 4)).off + 1, none⟩ = some (.int .i64 ((rd_T43 l0 x4_1).f1)) ∧ w25.cell? ⟨(ad114.add ((x4_1).toNat * 4)).block, (ad114.add ((x4_1).toNat * 4)).off + 2, none⟩ = some (.int .i64 ((rd_T43 l0 x4_1).f2)) ∧ w25.cell? ⟨(ad114.add ((x4_1).toNat * 4)).block, (ad114.add ((x4_1).toNat * 4)).off + 3, none⟩ = some (.bool true) ∧ w25.cell? (ad114.add ((x4_1).toNat * 4)) = some (.int .i64 ((rd_T43 l0 x4_1).f0)) ∧ w25.cell? ⟨(ad114.add ((x4_1).toNat * 4)).block, (ad114.add ((x4_1).toNat * 4)).off + 1, none⟩ = some (.int .i64 ((rd_T43 l0 x4_1).f1)) ∧ w25.cell? ⟨(ad114.add ((x4_1).toNat * 4)).block, (ad114.add ((x4_1).toNat * 4)).off + 2, none⟩ = some (.int .i64 ((rd_T43 l0 x4_1).f2)) ∧ w25.cell? ⟨(ad114.add ((x4_1).toNat * 4)).block, (ad114.add ((x4_1).toNat * 4)).off + 3, none⟩ = some (.bool true) := hS_
                           refine norm_ (a' := ?_) ?_ ?_
                           rotate_left
                           · simp only [putAll, Act.put, List.setIfInBounds_toArray, List.set_cons_zero, List.set_cons_succ]
                             rfl
                           refine two_ (i := 9) (j := 16) (Ni := some 30) (Nj := some 37) #[T,T,T,T,T,T,T,T,T,T,F,T,T,T,T,T,F,F,F,T,T,T,T,T,F,F,F] #[T,T,T,T,T,T,T,T,T,F,F,T,T,T,T,T,T,F,F,T,T,T,T,T,F,F,F] rfl rfl rfl rfl (two_of HT_.out (by kernel_rfl)) (by decide) (by decide) (fun K hK => ?_) (fun K hK => ?_)
                           · skip
                             have hcv26 := own_string (P := Tryd.prog) Tryd.underlying33 Tryd.underlying5 Tryd.underlying9 (Kd.own_of_R HO117.out)
                             refine value_ (w1 := ?_) (v := ?_) (by rfl) rfl ?_ ?_
                             rotate_left 2
                             · go_simp
                               constructor
                               · rfl
                               · rfl
                             clear hcv26
                             refine hK.out _ _ ⟨(nC HB.out hw114_0 :), (nC HB.out hw114_1 :), (nC HB.out hw114_2 :), (nC HB.out hw114_3 :), (nC HB.out hw118_0 :), (nC HB.out hw118_1 :), (nC HB.out hw118_2 :), (nC HB.out hw118_3 :), (nC HB.out hw120_0 :), (nC HB.out hw120_1 :), (nC HB.out hw120_2 :), (nC HB.out hw120_3 :)⟩ (fun hHeld => ?_)
                             clear hK K
                             refine norm_ (a' := ?_) ?_ ?_
                             rotate_left
                             · show Act.put _ (some 30) _ = _
                               simp only [Act.put, List.setIfInBounds_toArray, List.set_cons_zero, List.set_cons_succ, i64_w, i32_w]
                               rfl
                             refine pU 10 (some 31) #[T,T,T,T,T,T,T,T,T,T,T,T,T,T,T,T,F,F,F,T,T,T,T,T,F,F,F] rfl rfl HT_.out ?_
                             exact norm_ (by first | (simp only [putAll, Act.put, List.setIfInBounds_toArray, List.set_cons_zero, List.set_cons_succ]; done) | (simp only [putAll, Act.put, List.setIfInBounds_toArray, List.set_cons_zero, List.set_cons_succ]; rfl)) (hJ8_9 (v116) _ ⟨hHeld, (nR HO117.out), (nH HB.out)⟩)
                           · skip
                             refine goes_ Tryd.func25 (by kernel_rfl) rfl #[.int .i64 ((rd_T43 l0 x4_1).f0)] (by rfl) rfl rfl (by (try simp only [List.map_toArray, List.map_cons, List.map_nil]); first | done | rfl | (simp only [List.length_drop, List.length_take]; rfl)) ?_
                             with_reducible refine (spec_l01Num.calls kj7 ((rd_T43 l0 x4_1).f0) t119 _ A14.out).mono ?_
                             rintro e w26 ⟨rfl, hb⟩
                             refine ⟨_, rfl, ?_⟩
                             have n0_ := Aside0.mk (Kd.R_below (nR HO117.out) hb)
                             have n1_ := Aside0.mk (below_step (nH HB.out) hb)
                             clear HO117; clear HB; have HO117 := n0_; have HB := n1_; clear n0_ n1_; (try clear hb); (try clear hb2); (try clear hk); (try clear hi)
                             refine hK.out _ _ ⟨(nC HB.out hw114_0 :), (nC HB.out hw114_1 :), (nC HB.out hw114_2 :), (nC HB.out hw114_3 :), (nC HB.out hw118_0 :), (nC HB.out hw118_1 :), (nC HB.out hw118_2 :), (nC HB.out hw118_3 :), (nC HB.out hw120_0 :), (nC HB.out hw120_1 :), (nC HB.out hw120_2 :), (nC HB.out hw120_3 :)⟩ (fun hHeld => ?_)
                             clear hK K
                             refine norm_ (a' := ?_) ?_ ?_
                             rotate_left
                             · show Act.put _ (some 37) _ = _
                               simp only [Act.put, List.setIfInBounds_toArray, List.set_cons_zero, List.set_cons_succ, i64_w, i32_w]
                               rfl
                             exact norm_ (by first | (simp only [putAll, Act.put, List.setIfInBounds_toArray, List.set_cons_zero, List.set_cons_succ]; done) | (simp only [putAll, Act.put, List.setIfInBounds_toArray, List.set_cons_zero, List.set_cons_succ]; rfl)) (hJ8_16 (v116) _ ⟨hHeld, (nR HO117.out), (nH HB.out)⟩)
                       · skip
                         rintro _ w25 ⟨hS_, h0_⟩
                         have n0_ : Aside0 (Below w.heap.size w w25) := ⟨h0_⟩
                         clear HB; clear h0_; have HB := n0_; clear n0_
                         have hHeld : w25.cell? (ad114.add ((x4_1).toNat * 4)) = some (.int .i64 ((rd_T43 l0 x4_1).f0)) ∧ w25.cell? ⟨(ad114.add ((x4_1).toNat * 4)).block, (ad114.add ((x4_1).toNat * 4)).off + 1, none⟩ = some (.int .i64 ((rd_T43 l0 x4_1).f1)) ∧ w25.cell? ⟨(ad114.add ((x4_1).toNat * 4)).block, (ad114.add ((x4_1).toNat * 4)).off + 2, none⟩ = some (.int .i64 ((rd_T43 l0 x4_1).f2)) ∧ w25.cell? ⟨(ad114.add ((x4_1).toNat * 4)).block, (ad114.add ((x4_1).toNat * 4)).off + 3, none⟩ = some (.bool true) ∧ w25.cell? (ad114.add ((x4_1).toNat * 4)) = some (.int .i64 ((rd_T43 l0 x4_1).f0)) ∧ w25.cell? ⟨(ad114.add ((x4_1).toNat * 4)).block, (ad114.add ((x4_1).toNat * 4)).off + 1, none⟩ = some (.int .i64 ((rd_T43 l0 x4_1).f1)) ∧ w25.cell? ⟨(ad114.add ((x4_1).toNat * 4)).block, (ad114.add ((x4_1).toNat * 4)).off + 2, none⟩ = some (.int .i64 ((rd_T43 l0 x4_1).f2)) ∧ w25.cell? ⟨(ad114.add ((x4_1).toNat * 4)).block, (ad114.add ((x4_1).toNat * 4)).off + 3, none⟩ = some (.bool true) ∧ w25.cell? (ad114.add ((x4_1).toNat * 4)) = some (.int .i64 ((rd_T43 l0 x4_1).f0)) ∧ w25.cell? ⟨(ad114.add ((x4_1).toNat * 4)).block, (ad114.add ((x4_1).toNat * 4)).off + 1, none⟩ = some (.int .i64 ((rd_T43 l0 x4_1).f1)) ∧ w25.cell? ⟨(ad114.add ((x4_1).toNat * 4)).block, (ad114.add ((x4_1).toNat * 4)).off + 2, none⟩ = some (.int .i64 ((rd_T43 l0 x4_1).f2)) ∧ w25.cell? ⟨(ad114.add ((x4_1).toNat * 4)).block, (ad114.add ((x4_1).toNat * 4)).off + 3, none⟩ = some (.bool true) := hS_
                         refine norm_ (a' := ?_) ?_ ?_
                         rotate_left
                         · simp only [putAll, Act.put, List.setIfInBounds_toArray, List.set_cons_zero, List.set_cons_succ]
                           rfl
                         refine one_ (i := 8) (N := some 29) #[T,T,T,T,T,T,T,T,T,F,F,T,T,T,T,T,T,F,F,T,T,T,T,T,T,F,F] rfl rfl (one_of HT_.out (by kernel_rfl)) (by decide) (fun K hK => ?_)
                         refine Kd.R_lit_step (Kd.int .u8) _ 5 ?hg (N := 29) ?hd (xs := ([(wrap64 (64 + ((rd_T43 l0 x4_1).f1))) % 256] : List Int)) (inner := [.int .u8 ((wrap64 (64 + ((rd_T43 l0 x4_1).f1))) % 256)]) (ok := fun _ => True) (okp := fun _ => True) ?hr ?hp (fun _ hk => hk) trivial (Below.refl _ _) (Nat.le_refl _) (by simp) ?_; (case hd => rfl); (case hg => rfl); (case hr => first | (go_simp; done) | (go_simp; rfl)); (case hp => exact (Reps.one (show Kd.M (Kd.int .u8) _ _ _ ((wrap64 (64 + ((rd_T43 l0 x4_1).f1))) % 256) [.int .u8 ((wrap64 (64 + ((rd_T43 l0 x4_1).f1))) % 256)] from rfl) (Reps.none _ _)))
                         intro v116 w26 ho27 hb hg_ hnew_
                         clear hg_ hnew_
                         (first | rw [← Ny115.out] at ho27 | (simp only [Int.reduceToNat] at ho27; rw [← Ny115.out] at ho27))
                         have n0_ := Aside0.mk (Kd.R_lower ho27 (below_size (nH HB.out)))
                         have n1_ := Aside0.mk (below_step (nH HB.out) hb)
                         clear HB; have HO117 := n0_; have HB := n1_; clear n0_ n1_; clear hb ho27
                         refine hK.out _ _ ⟨(nC HB.out hw114_0 :), (nC HB.out hw114_1 :), (nC HB.out hw114_2 :), (nC HB.out hw114_3 :), (nC HB.out hw118_0 :), (nC HB.out hw118_1 :), (nC HB.out hw118_2 :), (nC HB.out hw118_3 :), (nC HB.out hw120_0 :), (nC HB.out hw120_1 :), (nC HB.out hw120_2 :), (nC HB.out hw120_3 :)⟩ (fun hHeld => ?_)
                         clear hK K
                         refine norm_ (a' := ?_) ?_ ?_
                         rotate_left
                         · show Act.put _ (some 29) _ = _
                           simp only [Act.put, List.setIfInBounds_toArray, List.set_cons_zero, List.set_cons_succ, i64_w, i32_w]
                           rfl
                         exact norm_ (by first | (simp only [putAll, Act.put, List.setIfInBounds_toArray, List.set_cons_zero, List.set_cons_succ]; done) | (simp only [putAll, Act.put, List.setIfInBounds_toArray, List.set_cons_zero, List.set_cons_succ]; rfl)) (hJ8_16_24 (v116) _ ⟨hHeld, (nR HO117.out), (nH HB.out)⟩)
                     · skip
                       rintro v116 w26 ⟨hS_, h0_, h1_⟩
                       have n0_ : Aside0 (Kd.R (Kd.int .u8) 5 w26 w.heap.size (fun _ => True) v116 y115) := ⟨h0_⟩
                       have n1_ : Aside0 (Below w.heap.size w w26) := ⟨h1_⟩
                       clear HB; clear h0_ h1_; have HO117 := n0_; have HB := n1_; clear n0_ n1_
                       have hHeld : w26.cell? (ad114.add ((x4_1).toNat * 4)) = some (.int .i64 ((rd_T43 l0 x4_1).f0)) ∧ w26.cell? ⟨(ad114.add ((x4_1).toNat * 4)).block, (ad114.add ((x4_1).toNat * 4)).off + 1, none⟩ = some (.int .i64 ((rd_T43 l0 x4_1).f1)) ∧ w26.cell? ⟨(ad114.add ((x4_1).toNat * 4)).block, (ad114.add ((x4_1).toNat * 4)).off + 2, none⟩ = some (.int .i64 ((rd_T43 l0 x4_1).f2)) ∧ w26.cell? ⟨(ad114.add ((x4_1).toNat * 4)).block, (ad114.add ((x4_1).toNat * 4)).off + 3, none⟩ = some (.bool true) ∧ w26.cell? (ad114.add ((x4_1).toNat * 4)) = some (.int .i64 ((rd_T43 l0 x4_1).f0)) ∧ w26.cell? ⟨(ad114.add ((x4_1).toNat * 4)).block, (ad114.add ((x4_1).toNat * 4)).off + 1, none⟩ = some (.int .i64 ((rd_T43 l0 x4_1).f1)) ∧ w26.cell? ⟨(ad114.add ((x4_1).toNat * 4)).block, (ad114.add ((x4_1).toNat * 4)).off + 2, none⟩ = some (.int .i64 ((rd_T43 l0 x4_1).f2)) ∧ w26.cell? ⟨(ad114.add ((x4_1).toNat * 4)).block, (ad114.add ((x4_1).toNat * 4)).off + 3, none⟩ = some (.bool true) ∧ w26.cell? (ad114.add ((x4_1).toNat * 4)) = some (.int .i64 ((rd_T43 l0 x4_1).f0)) ∧ w26.cell? ⟨(ad114.add ((x4_1).toNat * 4)).block, (ad114.add ((x4_1).toNat * 4)).off + 1, none⟩ = some (.int .i64 ((rd_T43 l0 x4_1).f1)) ∧ w26.cell? ⟨(ad114.add ((x4_1).toNat * 4)).block, (ad114.add ((x4_1).toNat * 4)).off + 2, none⟩ = some (.int .i64 ((rd_T43 l0 x4_1).f2)) ∧ w26.cell? ⟨(ad114.add ((x4_1).toNat * 4)).block, (ad114.add ((x4_1).toNat * 4)).off + 3, none⟩ = some (.bool true) := hS_
                       refine norm_ (a' := ?_) ?_ ?_
                       rotate_left
                       · simp only [putAll, Act.put, List.setIfInBounds_toArray, List.set_cons_zero, List.set_cons_succ]
                         rfl
                       refine two_ (i := 9) (j := 24) (Ni := some 30) (Nj := some 45) #[T,T,T,T,T,T,T,T,T,T,F,T,T,T,T,T,T,F,F,T,T,T,T,T,F,F,F] #[T,T,T,T,T,T,T,T,T,F,F,T,T,T,T,T,T,F,F,T,T,T,T,T,T,F,F] rfl rfl rfl rfl (two_of HT_.out (by kernel_rfl)) (by decide) (by decide) (fun K hK => ?_) (fun K hK => ?_)
                       · skip
                         have hcv27 := own_string (P := Tryd.prog) Tryd.underlying33 Tryd.underlying5 Tryd.underlying9 (Kd.own_of_R HO117.out)
                         refine value_ (w1 := ?_) (v := ?_) (by rfl) rfl ?_ ?_
                         rotate_left 2
                         · go_simp
                           constructor
                           · rfl
                           · rfl
                         clear hcv27
                         refine hK.out _ _ ⟨(nC HB.out hw114_0 :), (nC HB.out hw114_1 :), (nC HB.out hw114_2 :), (nC HB.out hw114_3 :), (nC HB.out hw118_0 :), (nC HB.out hw118_1 :), (nC HB.out hw118_2 :), (nC HB.out hw118_3 :), (nC HB.out hw120_0 :), (nC HB.out hw120_1 :), (nC HB.out hw120_2 :), (nC HB.out hw120_3 :)⟩ (fun hHeld => ?_)
                         clear hK K
                         refine norm_ (a' := ?_) ?_ ?_
                         rotate_left
                         · show Act.put _ (some 30) _ = _
                           simp only [Act.put, List.setIfInBounds_toArray, List.set_cons_zero, List.set_cons_succ, i64_w, i32_w]
                           rfl
                         refine pU 10 (some 31) #[T,T,T,T,T,T,T,T,T,T,T,T,T,T,T,T,T,F,F,T,T,T,T,T,F,F,F] rfl rfl HT_.out ?_
                         refine pU 17 (some 38) #[T,T,T,T,T,T,T,T,T,T,T,T,T,T,T,T,T,T,F,T,T,T,T,T,F,F,F] rfl rfl HT_.out ?_
                         refine pU 18 (some 39) #[T,T,T,T,T,T,T,T,T,T,T,T,T,T,T,T,T,T,T,T,T,T,T,T,F,F,F] rfl rfl HT_.out ?_
                         exact norm_ (by first | (simp only [putAll, Act.put, List.setIfInBounds_toArray, List.set_cons_zero, List.set_cons_succ]; done) | (simp only [putAll, Act.put, List.setIfInBounds_toArray, List.set_cons_zero, List.set_cons_succ]; rfl)) (hJ8_9_16 (v116) _ ⟨hHeld, (nR HO117.out), (nH HB.out)⟩)
                       · skip
                         refine goes_ Tryd.func25 (by kernel_rfl) rfl #[.int .i64 ((rd_T43 l0 x4_1).f2)] (by rfl) rfl rfl (by (try simp only [List.map_toArray, List.map_cons, List.map_nil]); first | done | rfl | (simp only [List.length_drop, List.length_take]; rfl)) ?_
                         with_reducible refine (spec_l01Num.calls kj7 ((rd_T43 l0 x4_1).f2) t121 _ A17.out).mono ?_
                         rintro e w27 ⟨rfl, hb⟩
                         refine ⟨_, rfl, ?_⟩
                         have n0_ := Aside0.mk (Kd.R_below (nR HO117.out) hb)
                         have n1_ := Aside0.mk (below_step (nH HB.out) hb)
                         clear HO117; clear HB; have HO117 := n0_; have HB := n1_; clear n0_ n1_; (try clear hb); (try clear hb2); (try clear hk); (try clear hi)
                         refine hK.out _ _ ⟨(nC HB.out hw114_0 :), (nC HB.out hw114_1 :), (nC HB.out hw114_2 :), (nC HB.out hw114_3 :), (nC HB.out hw118_0 :), (nC HB.out hw118_1 :), (nC HB.out hw118_2 :), (nC HB.out hw118_3 :), (nC HB.out hw120_0 :), (nC HB.out hw120_1 :), (nC HB.out hw120_2 :), (nC HB.out hw120_3 :)⟩ (fun hHeld => ?_)
                         clear hK K
                         refine norm_ (a' := ?_) ?_ ?_
                         rotate_left
                         · show Act.put _ (some 45) _ = _
                           simp only [Act.put, List.setIfInBounds_toArray, List.set_cons_zero, List.set_cons_succ, i64_w, i32_w]
                           rfl
                         exact norm_ (by first | (simp only [putAll, Act.put, List.setIfInBounds_toArray, List.set_cons_zero, List.set_cons_succ]; done) | (simp only [putAll, Act.put, List.setIfInBounds_toArray, List.set_cons_zero, List.set_cons_succ]; rfl)) (hJ8_16_24 (v116) _ ⟨hHeld, (nR HO117.out), (nH HB.out)⟩)
                   · skip
                     rintro v116 w26 ⟨hS_, h0_, h1_⟩
                     have n0_ : Aside0 (Kd.R (Kd.int .u8) 5 w26 w.heap.size (fun _ => True) v116 y115) := ⟨h0_⟩
                     have n1_ : Aside0 (Below w.heap.size w w26) := ⟨h1_⟩
                     clear HB; clear h0_ h1_; have HO117 := n0_; have HB := n1_; clear n0_ n1_
                     have hHeld : w26.cell? (ad114.add ((x4_1).toNat * 4)) = some (.int .i64 ((rd_T43 l0 x4_1).f0)) ∧ w26.cell? ⟨(ad114.add ((x4_1).toNat * 4)).block, (ad114.add ((x4_1).toNat * 4)).off + 1, none⟩ = some (.int .i64 ((rd_T43 l0 x4_1).f1)) ∧ w26.cell? ⟨(ad114.add ((x4_1).toNat * 4)).block, (ad114.add ((x4_1).toNat * 4)).off + 2, none⟩ = some (.int .i64 ((rd_T43 l0 x4_1).f2)) ∧ w26.cell? ⟨(ad114.add ((x4_1).toNat * 4)).block, (ad114.add ((x4_1).toNat * 4)).off + 3, none⟩ = some (.bool true) ∧ w26.cell? (ad114.add ((x4_1).toNat * 4)) = some (.int .i64 ((rd_T43 l0 x4_1).f0)) ∧ w26.cell? ⟨(ad114.add ((x4_1).toNat * 4)).block, (ad114.add ((x4_1).toNat * 4)).off + 1, none⟩ = some (.int .i64 ((rd_T43 l0 x4_1).f1)) ∧ w26.cell? ⟨(ad114.add ((x4_1).toNat * 4)).block, (ad114.add ((x4_1).toNat * 4)).off + 2, none⟩ = some (.int .i64 ((rd_T43 l0 x4_1).f2)) ∧ w26.cell? ⟨(ad114.add ((x4_1).toNat * 4)).block, (ad114.add ((x4_1).toNat * 4)).off + 3, none⟩ = some (.bool true) ∧ w26.cell? (ad114.add ((x4_1).toNat * 4)) = some (.int .i64 ((rd_T43 l0 x4_1).f0)) ∧ w26.cell? ⟨(ad114.add ((x4_1).toNat * 4)).block, (ad114.add ((x4_1).toNat * 4)).off + 1, none⟩ = some (.int .i64 ((rd_T43 l0 x4_1).f1)) ∧ w26.cell? ⟨(ad114.add ((x4_1).toNat * 4)).block, (ad114.add ((x4_1).toNat * 4)).off + 2, none⟩ = some (.int .i64 ((rd_T43 l0 x4_1).f2)) ∧ w26.cell? ⟨(ad114.add ((x4_1).toNat * 4)).block, (ad114.add ((x4_1).toNat * 4)).off + 3, none⟩ = some (.bool true) := hS_
                     refine norm_ (a' := ?_) ?_ ?_
                     rotate_left
                     · simp only [putAll, Act.put, List.setIfInBounds_toArray, List.set_cons_zero, List.set_cons_succ]
                       rfl
                     refine one_ (i := 16) (N := some 37) #[T,T,T,T,T,T,T,T,T,T,T,T,T,T,T,T,T,F,F,T,T,T,T,T,F,F,F] rfl rfl (one_of HT_.out (by kernel_rfl)) (by decide) (fun K hK => ?_)
                     refine goes_ Tryd.func25 (by kernel_rfl) rfl #[.int .i64 ((rd_T43 l0 x4_1).f0)] (by rfl) rfl rfl (by (try simp only [List.map_toArray, List.map_cons, List.map_nil]); first | done | rfl | (simp only [List.length_drop, List.length_take]; rfl)) ?_
                     with_reducible refine (spec_l01Num.calls kj7 ((rd_T43 l0 x4_1).f0) t119 _ A14.out).mono ?_
                     rintro e w27 ⟨rfl, hb⟩
                     refine ⟨_, rfl, ?_⟩
                     have n0_ := Aside0.mk (Kd.R_below (nR HO117.out) hb)
                     have n1_ := Aside0.mk (below_step (nH HB.out) hb)
                     clear HO117; clear HB; have HO117 := n0_; have HB := n1_; clear n0_ n1_; (try clear hb); (try clear hb2); (try clear hk); (try clear hi)
                     refine hK.out _ _ ⟨(nC HB.out hw114_0 :), (nC HB.out hw114_1 :), (nC HB.out hw114_2 :), (nC HB.out hw114_3 :), (nC HB.out hw118_0 :), (nC HB.out hw118_1 :), (nC HB.out hw118_2 :), (nC HB.out hw118_3 :), (nC HB.out hw120_0 :), (nC HB.out hw120_1 :), (nC HB.out hw120_2 :), (nC HB.out hw120_3 :)⟩ (fun hHeld => ?_)
                     clear hK K
                     refine norm_ (a' := ?_) ?_ ?_
                     rotate_left
                     · show Act.put _ (some 37) _ = _
                       simp only [Act.put, List.setIfInBounds_toArray, List.set_cons_zero, List.set_cons_succ, i64_w, i32_w]
                       rfl
                     refine pU 17 (some 38) #[T,T,T,T,T,T,T,T,T,T,T,T,T,T,T,T,T,T,F,T,T,T,T,T,F,F,F] rfl rfl HT_.out ?_
                     refine pU 18 (some 39) #[T,T,T,T,T,T,T,T,T,T,T,T,T,T,T,T,T,T,T,T,T,T,T,T,F,F,F] rfl rfl HT_.out ?_
                     exact norm_ (by first | (simp only [putAll, Act.put, List.setIfInBounds_toArray, List.set_cons_zero, List.set_cons_succ]; done) | (simp only [putAll, Act.put, List.setIfInBounds_toArray, List.set_cons_zero, List.set_cons_succ]; rfl)) (hJ8_9_16 (v116) _ ⟨hHeld, (nR HO117.out), (nH HB.out)⟩)
                 · skip
                   rintro v116 w27 ⟨hS_, h0_, h1_⟩
                   have n0_ : Aside0 (Kd.R (Kd.int .u8) 5 w27 w.heap.size (fun _ => True) v116 y115) := ⟨h0_⟩
                   have n1_ : Aside0 (Below w.heap.size w w27) := ⟨h1_⟩
                   clear HB; clear h0_ h1_; have HO117 := n0_; have HB := n1_; clear n0_ n1_
                   have hHeld : w27.cell? (ad114.add ((x4_1).toNat * 4)) = some (.int .i64 ((rd_T43 l0 x4_1).f0)) ∧ w27.cell? ⟨(ad114.add ((x4_1).toNat * 4)).block, (ad114.add ((x4_1).toNat * 4)).off + 1, none⟩ = some (.int .i64 ((rd_T43 l0 x4_1).f1)) ∧ w27.cell? ⟨(ad114.add ((x4_1).toNat * 4)).block, (ad114.add ((x4_1).toNat * 4)).off + 2, none⟩ = some (.int .i64 ((rd_T43 l0 x4_1).f2)) ∧ w27.cell? ⟨(ad114.add ((x4_1).toNat * 4)).block, (ad114.add ((x4_1).toNat * 4)).off + 3, none⟩ = some (.bool true) ∧ w27.cell? (ad114.add ((x4_1).toNat * 4)) = some (.int .i64 ((rd_T43 l0 x4_1).f0)) ∧ w27.cell? ⟨(ad114.add ((x4_1).toNat * 4)).block, (ad114.add ((x4_1).toNat * 4)).off + 1, none⟩ = some (.int .i64 ((rd_T43 l0 x4_1).f1)) ∧ w27.cell? ⟨(ad114.add ((x4_1).toNat * 4)).block, (ad114.add ((x4_1).toNat * 4)).off + 2, none⟩ = some (.int .i64 ((rd_T43 l0 x4_1).f2)) ∧ w27.cell? ⟨(ad114.add ((x4_1).toNat * 4)).block, (ad114.add ((x4_1).toNat * 4)).off + 3, none⟩ = some (.bool true) ∧ w27.cell? (ad114.add ((x4_1).toNat * 4)) = some (.int .i64 ((rd_T43 l0 x4_1).f0)) ∧ w27.cell? ⟨(ad114.add ((x4_1).toNat * 4)).block, (ad114.add ((x4_1).toNat * 4)).off + 1, none⟩ = some (.int .i64 ((rd_T43 l0 x4_1).f1)) ∧ w27.cell? ⟨(ad114.add ((x4_1).toNat * 4)).block, (ad114.add ((x4_1).toNat * 4)).off + 2, none⟩ = some (.int .i64 ((rd_T43 l0 x4_1).f2)) ∧ w27.cell? ⟨(ad114.add ((x4_1).toNat * 4)).block, (ad114.add ((x4_1).toNat * 4)).off + 3, none⟩ = some (.bool true) := hS_
                   refine norm_ (a' := ?_) ?_ ?_
                   rotate_left
                   · simp only [putAll, Act.put, List.setIfInBounds_toArray, List.set_cons_zero, List.set_cons_succ]
                     rfl
                   refine one_ (i := 9) (N := some 30) #[T,T,T,T,T,T,T,T,T,T,F,T,T,T,T,T,T,F,F,T,T,T,T,T,T,F,F] rfl rfl (one_of HT_.out (by kernel_rfl)) (by decide) (fun K hK => ?_)
                   have hcv28 := own_string (P := Tryd.prog) Tryd.underlying33 Tryd.underlying5 Tryd.underlying9 (Kd.own_of_R HO117.out)
                   refine value_ (w1 := ?_) (v := ?_) (by rfl) rfl ?_ ?_
                   rotate_left 2
                   · go_simp
                     constructor
                     · rfl
                     · rfl
                   clear hcv28
                   refine hK.out _ _ ⟨(nC HB.out hw114_0 :), (nC HB.out hw114_1 :), (nC HB.out hw114_2 :), (nC HB.out hw114_3 :), (nC HB.out hw118_0 :), (nC HB.out hw118_1 :), (nC HB.out hw118_2 :), (nC HB.out hw118_3 :), (nC HB.out hw120_0 :), (nC HB.out hw120_1 :), (nC HB.out hw120_2 :), (nC HB.out hw120_3 :)⟩ (fun hHeld => ?_)
                   clear hK K
                   refine norm_ (a' := ?_) ?_ ?_
                   rotate_left
                   · show Act.put _ (some 30) _ = _
                     simp only [Act.put, List.setIfInBounds_toArray, List.set_cons_zero, List.set_cons_succ, i64_w, i32_w]
                     rfl
                   refine pU 10 (some 31) #[T,T,T,T,T,T,T,T,T,T,T,T,T,T,T,T,T,F,F,T,T,T,T,T,T,F,F] rfl rfl HT_.out ?_
                   refine pU 17 (some 38) #[T,T,T,T,T,T,T,T,T,T,T,T,T,T,T,T,T,T,F,T,T,T,T,T,T,F,F] rfl rfl HT_.out ?_
                   refine pU 18 (some 39) #[T,T,T,T,T,T,T,T,T,T,T,T,T,T,T,T,T,T,T,T,T,T,T,T,T,F,F] rfl rfl HT_.out ?_
                   exact norm_ (by first | (simp only [putAll, Act.put, List.setIfInBounds_toArray, List.set_cons_zero, List.set_cons_succ]; done) | (simp only [putAll, Act.put, List.setIfInBounds_toArray, List.set_cons_zero, List.set_cons_succ]; rfl)) (hJ8_9_16_24 (v116) _ ⟨hHeld, (nR HO117.out), (nH HB.out)⟩)
               · skip
                 rintro v116 w27 ⟨hS_, h0_, h1_⟩
                 have n0_ : Aside0 (Kd.R (Kd.int .u8) 5 w27 w.heap.size (fun _ => True) v116 y115) := ⟨h0_⟩
                 have n1_ : Aside0 (Below w.heap.size w w27) := ⟨h1_⟩
                 clear HB; clear h0_ h1_; have HO117 := n0_; have HB := n1_; clear n0_ n1_
                 have hHeld : w27.cell? (ad114.add ((x4_1).toNat * 4)) = some (.int .i64 ((rd_T43 l0 x4_1).f0)) ∧ w27.cell? ⟨(ad114.add ((x4_1).toNat * 4)).block, (ad114.add ((x4_1).toNat * 4)).off + 1, none⟩ = some (.int .i64 ((rd_T43 l0 x4_1).f1)) ∧ w27.cell? ⟨(ad114.add ((x4_1).toNat * 4)).block, (ad114.add ((x4_1).toNat * 4)).off + 2, none⟩ = some (.int .i64 ((rd_T43 l0 x4_1).f2)) ∧ w27.cell? ⟨(ad114.add ((x4_1).toNat * 4)).block, (ad114.add ((x4_1).toNat * 4)).off + 3, none⟩ = some (.bool true) ∧ w27.cell? (ad114.add ((x4_1).toNat * 4)) = some (.int .i64 ((rd_T43 l0 x4_1).f0)) ∧ w27.cell? ⟨(ad114.add ((x4_1).toNat * 4)).block, (ad114.add ((x4_1).toNat * 4)).off + 1, none⟩ = some (.int .i64 ((rd_T43 l0 x4_1).f1)) ∧ w27.cell? ⟨(ad114.add ((x4_1).toNat * 4)).block, (ad114.add ((x4_1).toNat * 4)).off + 2, none⟩ = some (.int .i64 ((rd_T43 l0 x4_1).f2)) ∧ w27.cell? ⟨(ad114.add ((x4_1).toNat * 4)).block, (ad114.add ((x4_1).toNat * 4)).off + 3, none⟩ = some (.bool true) ∧ w27.cell? (ad114.add ((x4_1).toNat * 4)) = some (.int .i64 ((rd_T43 l0 x4_1).f0)) ∧ w27.cell? ⟨(ad114.add ((x4_1).toNat * 4)).block, (ad114.add ((x4_1).toNat * 4)).off + 1, none⟩ = some (.int .i64 ((rd_T43 l0 x4_1).f1)) ∧ w27.cell? ⟨(ad114.add ((x4_1).toNat * 4)).block, (ad114.add ((x4_1).toNat * 4)).off + 2, none⟩ = some (.int .i64 ((rd_T43 l0 x4_1).f2)) ∧ w27.cell? ⟨(ad114.add ((x4_1).toNat * 4)).block, (ad114.add ((x4_1).toNat * 4)).off + 3, none⟩ = some (.bool true) := hS_
                 refine norm_ (a' := ?_) ?_ ?_
                 rotate_left
                 · simp only [putAll, Act.put, List.setIfInBounds_toArray, List.set_cons_zero, List.set_cons_succ]
                   rfl
                 refine one_ (i := 24) (N := some 45) #[T,T,T,T,T,T,T,T,T,T,T,T,T,T,T,T,T,T,T,T,T,T,T,T,T,F,F] rfl rfl (one_of HT_.out (by kernel_rfl)) (by decide) (fun K hK => ?_)
                 refine goes_ Tryd.func25 (by kernel_rfl) rfl #[.int .i64 ((rd_T43 l0 x4_1).f2)] (by rfl) rfl rfl (by (try simp only [List.map_toArray, List.map_cons, List.map_nil]); first | done | rfl | (simp only [List.length_drop, List.length_take]; rfl)) ?_
                 with_reducible refine (spec_l01Num.calls kj7 ((rd_T43 l0 x4_1).f2) t121 _ A17.out).mono ?_
                 rintro e w28 ⟨rfl, hb⟩
                 refine ⟨_, rfl, ?_⟩
                 have n0_ := Aside0.mk (Kd.R_below (nR HO117.out) hb)
                 have n1_ := Aside0.mk (below_step (nH HB.out) hb)
                 clear HO117; clear HB; have HO117 := n0_; have HB := n1_; clear n0_ n1_; (try clear hb); (try clear hb2); (try clear hk); (try clear hi)
                 refine hK.out _ _ ⟨(nC HB.out hw114_0 :), (nC HB.out hw114_1 :), (nC HB.out hw114_2 :), (nC HB.out hw114_3 :), (nC HB.out hw118_0 :), (nC HB.out hw118_1 :), (nC HB.out hw118_2 :), (nC HB.out hw118_3 :), (nC HB.out hw120_0 :), (nC HB.out hw120_1 :), (nC HB.out hw120_2 :), (nC HB.out hw120_3 :)⟩ (fun hHeld => ?_)
                 clear hK K
                 refine norm_ (a' := ?_) ?_ ?_
                 rotate_left
                 · show Act.put _ (some 45) _ = _
                   simp only [Act.put, List.setIfInBounds_toArray, List.set_cons_zero, List.set_cons_succ, i64_w, i32_w]
                   rfl
                 exact norm_ (by first | (simp only [putAll, Act.put, List.setIfInBounds_toArray, List.set_cons_zero, List.set_cons_succ]; done) | (simp only [putAll, Act.put, List.setIfInBounds_toArray, List.set_cons_zero, List.set_cons_succ]; rfl)) (hJ8_9_16_24 (v116) _ ⟨hHeld, (nR HO117.out), (nH HB.out)⟩)
             rintro v116 w28 ⟨hS_, h0_, h1_⟩
             have n0_ : Aside0 (Kd.R (Kd.int .u8) 5 w28 w.heap.size (fun _ => True) v116 y115) := ⟨h0_⟩
             have n1_ : Aside0 (Below w.heap.size w w28) := ⟨h1_⟩
             clear HB; clear h0_ h1_; have HO117 := n0_; have HB := n1_; clear n0_ n1_
             have hHeld : w28.cell? (ad114.add ((x4_1).toNat * 4)) = some (.int .i64 ((rd_T43 l0 x4_1).f0)) ∧ w28.cell? ⟨(ad114.add ((x4_1).toNat * 4)).block, (ad114.add ((x4_1).toNat * 4)).off + 1, none⟩ = some (.int .i64 ((rd_T43 l0 x4_1).f1)) ∧ w28.cell? ⟨(ad114.add ((x4_1).toNat * 4)).block, (ad114.add ((x4_1).toNat * 4)).off + 2, none⟩ = some (.int .i64 ((rd_T43 l0 x4_1).f2)) ∧ w28.cell? ⟨(ad114.add ((x4_1).toNat * 4)).block, (ad114.add ((x4_1).toNat * 4)).off + 3, none⟩ = some (.bool true) ∧ w28.cell? (ad114.add ((x4_1).toNat * 4)) = some (.int .i64 ((rd_T43 l0 x4_1).f0)) ∧ w28.cell? ⟨(ad114.add ((x4_1).toNat * 4)).block, (ad114.add ((x4_1).toNat * 4)).off + 1, none⟩ = some (.int .i64 ((rd_T43 l0 x4_1).f1)) ∧ w28.cell? ⟨(ad114.add ((x4_1).toNat * 4)).block, (ad114.add ((x4_1).toNat * 4)).off + 2, none⟩ = some (.int .i64 ((rd_T43 l0 x4_1).f2)) ∧ w28.cell? ⟨(ad114.add ((x4_1).toNat * 4)).block, (ad114.add ((x4_1).toNat * 4)).off + 3, none⟩ = some (.bool true) ∧ w28.cell? (ad114.add ((x4_1).toNat * 4)) = some (.int .i64 ((rd_T43 l0 x4_1).f0)) ∧ w28.cell? ⟨(ad114.add ((x4_1).toNat * 4)).block, (ad114.add ((x4_1).toNat * 4)).off + 1, none⟩ = some (.int .i64 ((rd_T43 l0 x4_1).f1)) ∧ w28.cell? ⟨(ad114.add ((x4_1).toNat * 4)).block, (ad114.add ((x4_1).toNat * 4)).off + 2, none⟩ = some (.int .i64 ((rd_T43 l0 x4_1).f2)) ∧ w28.cell? ⟨(ad114.add ((x4_1).toNat * 4)).block, (ad114.add ((x4_1).toNat * 4)).off + 3, none⟩ = some (.bool true) := hS_
             refine norm_ (a' := ?_) ?_ ?_
             rotate_left
             · simp only [putAll, Act.put, List.setIfInBounds_toArray, List.set_cons_zero, List.set_cons_succ]
               rfl
             refine pU 25 (some 46) #[T,T,T,T,T,T,T,T,T,T,T,T,T,T,T,T,T,T,T,T,T,T,T,T,T,T,F] rfl rfl HT_.out ?_
             refine pU 26 (some 3) #[T,T,T,T,T,T,T,T,T,T,T,T,T,T,T,T,T,T,T,T,T,T,T,T,T,T,T] rfl rfl HT_.out ?_
             refine done_ (done_of HT_.out (by kernel_rfl)) ?_
             have p122 : 0 ≤ (x4_1 : Int) := of_decide_eq_true nQ
             have q122 : x4_1 < (l0.length : Int) := of_decide_eq_true nQ
             obtain ⟨ad122, e122, hx122_0, hx122_1, hx122_2, hx122_3⟩ := at_T43 HR0.out x4_1 p122 q122
             (try rw [← Nbq19.out] at hx122_3)
             obtain rfl : ad114 = ad122 := (by injection e122)
             replace hx122_0 := (HB.out.cell (World.block_lt_of_cell? w _ hx122_0)).trans hx122_0
             replace hx122_1 := (HB.out.cell (World.block_lt_of_cell? w _ hx122_1)).trans hx122_1
             replace hx122_2 := (HB.out.cell (World.block_lt_of_cell? w _ hx122_2)).trans hx122_2
             replace hx122_3 := (HB.out.cell (World.block_lt_of_cell? w _ hx122_3)).trans hx122_3
             replace p122 := eq_true p122; replace q122 := eq_true q122
             try go_wp2
             go_roundg kj7
             case measure => have := HK1.out; have := HJ7.out; omega
             case rel => exact ⟨(((((x3_7 ++ (strOfNums y115)) ++ t119) ++ (⟨#[47]⟩ : ByteArray)) ++ t121) ++ (⟨#[60]⟩ : ByteArray)), (wrap64 (x4_1 + 1)), nS, nS, H', ⟨by have := HK1.out; have := HJ7.out; omega⟩, ⟨nH HB.out⟩⟩
           · replace c20 := Bool.eq_false_iff.mpr c20
             subst c20
             have H1 : (if ((((x3_7 ++ (strOfNums y115)) ++ t119) ++ (⟨#[47]⟩ : ByteArray)) ++ t121).size + 1 ≤ 9223372036854775807 then (spec_StockText.l0 kj7 l0 (((((x3_7 ++ (strOfNums y115)) ++ t119) ++ (⟨#[47]⟩ : ByteArray)) ++ t121) ++ (⟨#[62]⟩ : ByteArray)) (wrap64 (x4_1 + 1))) else (none)) = some r := by rw [if_neg (show ¬ (false = true) by decide)] at H; exact H
             clear H; have H := H1; clear H1
             by_cases c29 : ((((x3_7 ++ (strOfNums y115)) ++ t119) ++ (⟨#[47]⟩ : ByteArray)) ++ t121).size + 1 ≤ 9223372036854775807
             rotate_left
             · (rw [if_neg c29] at H; exact absurd H (by simp))
             rw [if_pos c29] at H
             have c29b0 := eq_true c29
             have c29b1 : decide (((((x3_7 ++ (strOfNums y115)) ++ t119) ++ (⟨#[47]⟩ : ByteArray)) ++ t121).size + 1 ≤ 9223372036854775807) = true := decide_eq_true c29
             try have c29b2 : (9223372036854775807 < ((((x3_7 ++ (strOfNums y115)) ++ t119) ++ (⟨#[47]⟩ : ByteArray)) ++ t121).size + 1) = False := eq_false (Nat.not_lt.2 c29)
             try have c29b3 : (9223372036854775807 < x3_7.size + (strOfNums y115).size + t119.size + 1 + t121.size + 1) = False := by have q := c29b2; simp only [ByteArray.size_append] at q; exact q
             have H' := Aside0.mk H
             clear H
             try go_wp2
             have n0_ := Aside0.mk (below_drew1 HB.out)
             clear HB; have HB := n0_; clear n0_
             have p114 : 0 ≤ (x4_1 : Int) := of_decide_eq_true nQ
             have q114 : x4_1 < (l0.length : Int) := of_decide_eq_true nQ
             obtain ⟨ad114, e114, hx114_0, hx114_1, hx114_2, hx114_3⟩ := at_T43 HR0.out x4_1 p114 q114
             have hw114_3 := hx114_3; have hw114_2 := hx114_2; have hw114_1 := hx114_1; have hw114_0 := hx114_0
             (try rw [← Nbq19.out] at hx114_3)
             (try rw [← Nbq19.out] at hw114_3)
             cases e114
             replace hx114_0 := (HB.out.cell (World.block_lt_of_cell? w _ hx114_0)).trans hx114_0
             replace hx114_1 := (HB.out.cell (World.block_lt_of_cell? w _ hx114_1)).trans hx114_1
             replace hx114_2 := (HB.out.cell (World.block_lt_of_cell? w _ hx114_2)).trans hx114_2
             replace hx114_3 := (HB.out.cell (World.block_lt_of_cell? w _ hx114_3)).trans hx114_3
             replace p114 := eq_true p114; replace q114 := eq_true q114
             have p118 : 0 ≤ (x4_1 : Int) := of_decide_eq_true nQ
             have q118 : x4_1 < (l0.length : Int) := of_decide_eq_true nQ
             obtain ⟨ad118, e118, hx118_0, hx118_1, hx118_2, hx118_3⟩ := at_T43 HR0.out x4_1 p118 q118
             have hw118_3 := hx118_3; have hw118_2 := hx118_2; have hw118_1 := hx118_1; have hw118_0 := hx118_0
             (try rw [← Nbq19.out] at hx118_3)
             (try rw [← Nbq19.out] at hw118_3)
             obtain rfl : ad114 = ad118 := (by injection e118)
             replace hx118_0 := (HB.out.cell (World.block_lt_of_cell? w _ hx118_0)).trans hx118_0
             replace hx118_1 := (HB.out.cell (World.block_lt_of_cell? w _ hx118_1)).trans hx118_1
             replace hx118_2 := (HB.out.cell (World.block_lt_of_cell? w _ hx118_2)).trans hx118_2
             replace hx118_3 := (HB.out.cell (World.block_lt_of_cell? w _ hx118_3)).trans hx118_3
             replace p118 := eq_true p118; replace q118 := eq_true q118
             have p120 : 0 ≤ (x4_1 : Int) := of_decide_eq_true nQ
             have q120 : x4_1 < (l0.length : Int) := of_decide_eq_true nQ
             obtain ⟨ad120, e120, hx120_0, hx120_1, hx120_2, hx120_3⟩ := at_T43 HR0.out x4_1 p120 q120
             have hw120_3 := hx120_3; have hw120_2 := hx120_2; have hw120_1 := hx120_1; have hw120_0 := hx120_0
             (try rw [← Nbq19.out] at hx120_3)
             (try rw [← Nbq19.out] at hw120_3)
             obtain rfl : ad114 = ad120 := (by injection e120)
             replace hx120_0 := (HB.out.cell (World.block_lt_of_cell? w _ hx120_0)).trans hx120_0
             replace hx120_1 := (HB.out.cell (World.block_lt_of_cell? w _ hx120_1)).trans hx120_1
             replace hx120_2 := (HB.out.cell (World.block_lt_of_cell? w _ hx120_2)).trans hx120_2
             replace hx120_3 := (HB.out.cell (World.block_lt_of_cell? w _ hx120_3)).trans hx120_3
             replace p120 := eq_true p120; replace q120 := eq_true q120
             refine start_ (n := 27) (S := fun w' => w'.cell? (ad114.add ((x4_1).toNat * 4)) = some (.int .i64 ((rd_T43 l0 x4_1).f0)) ∧ w'.cell? ⟨(ad114.add ((x4_1).toNat * 4)).block, (ad114.add ((x4_1).toNat * 4)).off + 1, none⟩ = some (.int .i64 ((rd_T43 l0 x4_1).f1)) ∧ w'.cell? ⟨(ad114.add ((x4_1).toNat * 4)).block, (ad114.add ((x4_1).toNat * 4)).off + 2, none⟩ = some (.int .i64 ((rd_T43 l0 x4_1).f2)) ∧ w'.cell? ⟨(ad114.add ((x4_1).toNat * 4)).block, (ad114.add ((x4_1).toNat * 4)).off + 3, none⟩ = some (.bool false) ∧ w'.cell? (ad114.add ((x4_1).toNat * 4)) = some (.int .i64 ((rd_T43 l0 x4_1).f0)) ∧ w'.cell? ⟨(ad114.add ((x4_1).toNat * 4)).block, (ad114.add ((x4_1).toNat * 4)).off + 1, none⟩ = some (.int .i64 ((rd_T43 l0 x4_1).f1)) ∧ w'.cell? ⟨(ad114.add ((x4_1).toNat * 4)).block, (ad114.add ((x4_1).toNat * 4)).off + 2, none⟩ = some (.int .i64 ((rd_T43 l0 x4_1).f2)) ∧ w'.cell? ⟨(ad114.add ((x4_1).toNat * 4)).block, (ad114.add ((x4_1).toNat * 4)).off + 3, none⟩ = some (.bool false) ∧ w'.cell? (ad114.add ((x4_1).toNat * 4)) = some (.int .i64 ((rd_T43 l0 x4_1).f0)) ∧ w'.cell? ⟨(ad114.add ((x4_1).toNat * 4)).block, (ad114.add ((x4_1).toNat * 4)).off + 1, none⟩ = some (.int .i64 ((rd_T43 l0 x4_1).f1)) ∧ w'.cell? ⟨(ad114.add ((x4_1).toNat * 4)).block, (ad114.add ((x4_1).toNat * 4)).off + 2, none⟩ = some (.int .i64 ((rd_T43 l0 x4_1).f2)) ∧ w'.cell? ⟨(ad114.add ((x4_1).toNat * 4)).block, (ad114.add ((x4_1).toNat * 4)).off + 3, none⟩ = some (.bool false)) (ds := []) #[F,F,F,F,F,F,F,F,F,F,F,F,F,F,F,F,F,F,F,F,F,F,F,F,F,F,F] (by kernel_rfl) rfl rfl ⟨(nC HB.out hw114_0 :), (nC HB.out hw114_1 :), (nC HB.out hw114_2 :), (nC HB.out hw114_3 :), (nC HB.out hw118_0 :), (nC HB.out hw118_1 :), (nC HB.out hw118_2 :), (nC HB.out hw118_3 :), (nC HB.out hw120_0 :), (nC HB.out hw120_1 :), (nC HB.out hw120_2 :), (nC HB.out hw120_3 :)⟩ (fun hHeld => ?_); refine with_tabW spec_StockText.tab11 spec_StockText.bits11 (fun HT_ HW_ => ?_)
             generalize wc.drew = w30 at HB hx114_0 hx114_1 hx114_2 hx114_3 hx118_0 hx118_1 hx118_2 hx118_3 hx120_0 hx120_1 hx120_2 hx120_3 hHeld ⊢
             refine pU 0 (some 21) #[T,F,F,F,F,F,F,F,F,F,F,F,F,F,F,F,F,F,F,F,F,F,F,F,F,F,F] rfl rfl HT_.out ?_
             refine pU 1 (some 22) #[T,T,F,F,F,F,F,F,F,F,F,F,F,F,F,F,F,F,F,F,F,F,F,F,F,F,F] rfl rfl HT_.out ?_
             refine pU 2 (some 23) #[T,T,T,F,F,F,F,F,F,F,F,F,F,F,F,F,F,F,F,F,F,F,F,F,F,F,F] rfl rfl HT_.out ?_
             refine pU 3 (some 24) #[T,T,T,T,F,F,F,F,F,F,F,F,F,F,F,F,F,F,F,F,F,F,F,F,F,F,F] rfl rfl HT_.out ?_
             refine pU 4 (some 25) #[T,T,T,T,T,F,F,F,F,F,F,F,F,F,F,F,F,F,F,F,F,F,F,F,F,F,F] rfl rfl HT_.out ?_
             refine pU 11 (some 32) #[T,T,T,T,T,F,F,F,F,F,F,T,F,F,F,F,F,F,F,F,F,F,F,F,F,F,F] rfl rfl HT_.out ?_
             refine pU 12 (some 33) #[T,T,T,T,T,F,F,F,F,F,F,T,T,F,F,F,F,F,F,F,F,F,F,F,F,F,F] rfl rfl HT_.out ?_
             refine pU 13 (some 34) #[T,T,T,T,T,F,F,F,F,F,F,T,T,T,F,F,F,F,F,F,F,F,F,F,F,F,F] rfl rfl HT_.out ?_
             refine pU 14 (some 35) #[T,T,T,T,T,F,F,F,F,F,F,T,T,T,T,F,F,F,F,F,F,F,F,F,F,F,F] rfl rfl HT_.out ?_
             refine pU 19 (some 40) #[T,T,T,T,T,F,F,F,F,F,F,T,T,T,T,F,F,F,F,T,F,F,F,F,F,F,F] rfl rfl HT_.out ?_
             refine pU 20 (some 41) #[T,T,T,T,T,F,F,F,F,F,F,T,T,T,T,F,F,F,F,T,T,F,F,F,F,F,F] rfl rfl HT_.out ?_
             refine pU 21 (some 42) #[T,T,T,T,T,F,F,F,F,F,F,T,T,T,T,F,F,F,F,T,T,T,F,F,F,F,F] rfl rfl HT_.out ?_
             refine pU 22 (some 43) #[T,T,T,T,T,F,F,F,F,F,F,T,T,T,T,F,F,F,F,T,T,T,T,F,F,F,F] rfl rfl HT_.out ?_
             refine tU12 5 (some 26) #[T,T,T,T,T,T,F,F,F,F,F,T,T,T,T,F,F,F,F,T,T,T,T,F,F,F,F] rfl rfl HT_.out HW_.out hHeld ?_
             refine pU 6 (some 27) #[T,T,T,T,T,T,T,F,F,F,F,T,T,T,T,F,F,F,F,T,T,T,T,F,F,F,F] rfl rfl HT_.out ?_
             refine pU 7 (some 28) #[T,T,T,T,T,T,T,T,F,F,F,T,T,T,T,F,F,F,F,T,T,T,T,F,F,F,F] rfl rfl HT_.out ?_
             refine tU12 15 (some 36) #[T,T,T,T,T,T,T,T,F,F,F,T,T,T,T,T,F,F,F,T,T,T,T,F,F,F,F] rfl rfl HT_.out HW_.out hHeld ?_
             refine tU12 23 (some 44) #[T,T,T,T,T,T,T,T,F,F,F,T,T,T,T,T,F,F,F,T,T,T,T,T,F,F,F] rfl rfl HT_.out HW_.out hHeld ?_
             refine join_ (σ := Value) 2 #[T,T,T,T,T,T,T,T,T,T,T,T,T,T,T,T,T,T,T,T,T,T,T,T,T,F,F] (fun s_ => [(29, s_), (30, .string (strOfNums y115)), (37, .string t119), (45, .string t121), (31, .string (x3_7 ++ (strOfNums y115))), (38, .string ((x3_7 ++ (strOfNums y115)) ++ t119)), (39, .string (((x3_7 ++ (strOfNums y115)) ++ t119) ++ (⟨#[47]⟩ : ByteArray)))]) (fun s_ w' => (w'.cell? (ad114.add ((x4_1).toNat * 4)) = some (.int .i64 ((rd_T43 l0 x4_1).f0)) ∧ w'.cell? ⟨(ad114.add ((x4_1).toNat * 4)).block, (ad114.add ((x4_1).toNat * 4)).off + 1, none⟩ = some (.int .i64 ((rd_T43 l0 x4_1).f1)) ∧ w'.cell? ⟨(ad114.add ((x4_1).toNat * 4)).block, (ad114.add ((x4_1).toNat * 4)).off + 2, none⟩ = some (.int .i64 ((rd_T43 l0 x4_1).f2)) ∧ w'.cell? ⟨(ad114.add ((x4_1).toNat * 4)).block, (ad114.add ((x4_1).toNat * 4)).off + 3, none⟩ = some (.bool false) ∧ w'.cell? (ad114.add ((x4_1).toNat * 4)) = some (.int .i64 ((rd_T43 l0 x4_1).f0)) ∧ w'.cell? ⟨(ad114.add ((x4_1).toNat * 4)).block, (ad114.add ((x4_1).toNat * 4)).off + 1, none⟩ = some (.int .i64 ((rd_T43 l0 x4_1).f1)) ∧ w'.cell? ⟨(ad114.add ((x4_1).toNat * 4)).block, (ad114.add ((x4_1).toNat * 4)).off + 2, none⟩ = some (.int .i64 ((rd_T43 l0 x4_1).f2)) ∧ w'.cell? ⟨(ad114.add ((x4_1).toNat * 4)).block, (ad114.add ((x4_1).toNat * 4)).off + 3, none⟩ = some (.bool false) ∧ w'.cell? (ad114.add ((x4_1).toNat * 4)) = some (.int .i64 ((rd_T43 l0 x4_1).f0)) ∧ w'.cell? ⟨(ad114.add ((x4_1).toNat * 4)).block, (ad114.add ((x4_1).toNat * 4)).off + 1, none⟩ = some (.int .i64 ((rd_T43 l0 x4_1).f1)) ∧ w'.cell? ⟨(ad114.add ((x4_1).toNat * 4)).block, (ad114.add ((x4_1).toNat * 4)).off + 2, none⟩ = some (.int .i64 ((rd_T43 l0 x4_1).f2)) ∧ w'.cell? ⟨(ad114.add ((x4_1).toNat * 4)).block, (ad114.add ((x4_1).toNat * 4)).off + 3, none⟩ = some (.bool false)) ∧ (Kd.R (Kd.int .u8) 5 w' w.heap.size (fun _ => True) s_ y115) ∧ (Below w.heap.size w w')) ?_ ?_
             rotate_left
             · intro hJ8_9_16_24
               refine join_ (σ := Value) 3 #[T,T,T,T,T,T,T,T,T,T,T,T,T,T,T,T,T,T,T,T,T,T,T,T,F,F,F] (fun s_ => [(29, s_), (30, .string (strOfNums y115)), (37, .string t119), (31, .string (x3_7 ++ (strOfNums y115))), (38, .string ((x3_7 ++ (strOfNums y115)) ++ t119)), (39, .string (((x3_7 ++ (strOfNums y115)) ++ t119) ++ (⟨#[47]⟩ : ByteArray)))]) (fun s_ w' => (w'.cell? (ad114.add ((x4_1).toNat * 4)) = some (.int .i64 ((rd_T43 l0 x4_1).f0)) ∧ w'.cell? ⟨(ad114.add ((x4_1).toNat * 4)).block, (ad114.add ((x4_1).toNat * 4)).off + 1, none⟩ = some (.int .i64 ((rd_T43 l0 x4_1).f1)) ∧ w'.cell? ⟨(ad114.add ((x4_1).toNat * 4)).block, (ad114.add ((x4_1).toNat * 4)).off + 2, none⟩ = some (.int .i64 ((rd_T43 l0 x4_1).f2)) ∧ w'.cell? ⟨(ad114.add ((x4_1).toNat * 4)).block, (ad114.add ((x4_1).toNat * 4)).off + 3, none⟩ = some (.bool false) ∧ w'.cell? (ad114.add ((x4_1).toNat * 4)) = some (.int .i64 ((rd_T43 l0 x4_1).f0)) ∧ w'.cell? ⟨(ad114.add ((x4_1).toNat * 4)).block, (ad114.add ((x4_1).toNat * 4)).off + 1, none⟩ = some (.int .i64 ((rd_T43 l0 x4_1).f1)) ∧ w'.cell? ⟨(ad114.add ((x4_1).toNat * 4)).block, (ad114.add ((x4_1).toNat * 4)).off + 2, none⟩ = some (.int .i64 ((rd_T43 l0 x4_1).f2)) ∧ w'.cell? ⟨(ad114.add ((x4_1).toNat * 4)).block, (ad114.add ((x4_1).toNat * 4)).off + 3, none⟩ = some (.bool false) ∧ w'.cell? (ad114.add ((x4_1).toNat * 4)) = some (.int .i64 ((rd_T43 l0 x4_1).f0)) ∧ w'.cell? ⟨(ad114.add ((x4_1).toNat * 4)).block, (ad114.add ((x4_1).toNat * 4)).off + 1, none⟩ = some (.int .i64 ((rd_T43 l0 x4_1).f1)) ∧ w'.cell? ⟨(ad114.add ((x4_1).toNat * 4)).block, (ad114.add ((x4_1).toNat * 4)).off + 2, none⟩ = some (.int .i64 ((rd_T43 l0 x4_1).f2)) ∧ w'.cell? ⟨(ad114.add ((x4_1).toNat * 4)).block, (ad114.add ((x4_1).toNat * 4)).off + 3, none⟩ = some (.bool false)) ∧ (Kd.R (Kd.int .u8) 5 w' w.heap.size (fun _ => True) s_ y115) ∧ (Below w.heap.size w w')) ?_ ?_
               rotate_left
               · intro hJ8_9_16
                 refine join_ (σ := Value) 6 #[T,T,T,T,T,T,T,T,T,F,F,T,T,T,T,T,T,F,F,T,T,T,T,T,T,F,F] (fun s_ => [(29, s_), (37, .string t119), (45, .string t121)]) (fun s_ w' => (w'.cell? (ad114.add ((x4_1).toNat * 4)) = some (.int .i64 ((rd_T43 l0 x4_1).f0)) ∧ w'.cell? ⟨(ad114.add ((x4_1).toNat * 4)).block, (ad114.add ((x4_1).toNat * 4)).off + 1, none⟩ = some (.int .i64 ((rd_T43 l0 x4_1).f1)) ∧ w'.cell? ⟨(ad114.add ((x4_1).toNat * 4)).block, (ad114.add ((x4_1).toNat * 4)).off + 2, none⟩ = some (.int .i64 ((rd_T43 l0 x4_1).f2)) ∧ w'.cell? ⟨(ad114.add ((x4_1).toNat * 4)).block, (ad114.add ((x4_1).toNat * 4)).off + 3, none⟩ = some (.bool false) ∧ w'.cell? (ad114.add ((x4_1).toNat * 4)) = some (.int .i64 ((rd_T43 l0 x4_1).f0)) ∧ w'.cell? ⟨(ad114.add ((x4_1).toNat * 4)).block, (ad114.add ((x4_1).toNat * 4)).off + 1, none⟩ = some (.int .i64 ((rd_T43 l0 x4_1).f1)) ∧ w'.cell? ⟨(ad114.add ((x4_1).toNat * 4)).block, (ad114.add ((x4_1).toNat * 4)).off + 2, none⟩ = some (.int .i64 ((rd_T43 l0 x4_1).f2)) ∧ w'.cell? ⟨(ad114.add ((x4_1).toNat * 4)).block, (ad114.add ((x4_1).toNat * 4)).off + 3, none⟩ = some (.bool false) ∧ w'.cell? (ad114.add ((x4_1).toNat * 4)) = some (.int .i64 ((rd_T43 l0 x4_1).f0)) ∧ w'.cell? ⟨(ad114.add ((x4_1).toNat * 4)).block, (ad114.add ((x4_1).toNat * 4)).off + 1, none⟩ = some (.int .i64 ((rd_T43 l0 x4_1).f1)) ∧ w'.cell? ⟨(ad114.add ((x4_1).toNat * 4)).block, (ad114.add ((x4_1).toNat * 4)).off + 2, none⟩ = some (.int .i64 ((rd_T43 l0 x4_1).f2)) ∧ w'.cell? ⟨(ad114.add ((x4_1).toNat * 4)).block, (ad114.add ((x4_1).toNat * 4)).off + 3, none⟩ = some (.bool false)) ∧ (Kd.R (Kd.int .u8) 5 w' w.heap.size (fun _ => True) s_ y115) ∧ (Below w.heap.size w w')) ?_ ?_
                 rotate_left
                 · intro hJ8_16_24
                   refine join_ (σ := Value) 6 #[T,T,T,T,T,T,T,T,T,T,T,T,T,T,T,T,F,F,F,T,T,T,T,T,F,F,F] (fun s_ => [(29, s_), (30, .string (strOfNums y115)), (31, .string (x3_7 ++ (strOfNums y115)))]) (fun s_ w' => (w'.cell? (ad114.add ((x4_1).toNat * 4)) = some (.int .i64 ((rd_T43 l0 x4_1).f0)) ∧ w'.cell? ⟨(ad114.add ((x4_1).toNat * 4)).block, (ad114.add ((x4_1).toNat * 4)).off + 1, none⟩ = some (.int .i64 ((rd_T43 l0 x4_1).f1)) ∧ w'.cell? ⟨(ad114.add ((x4_1).toNat * 4)).block, (ad114.add ((x4_1).toNat * 4)).off + 2, none⟩ = some (.int .i64 ((rd_T43 l0 x4_1).f2)) ∧ w'.cell? ⟨(ad114.add ((x4_1).toNat * 4)).block, (ad114.add ((x4_1).toNat * 4)).off + 3, none⟩ = some (.bool false) ∧ w'.cell? (ad114.add ((x4_1).toNat * 4)) = some (.int .i64 ((rd_T43 l0 x4_1).f0)) ∧ w'.cell? ⟨(ad114.add ((x4_1).toNat * 4)).block, (ad114.add ((x4_1).toNat * 4)).off + 1, none⟩ = some (.int .i64 ((rd_T43 l0 x4_1).f1)) ∧ w'.cell? ⟨(ad114.add ((x4_1).toNat * 4)).block, (ad114.add ((x4_1).toNat * 4)).off + 2, none⟩ = some (.int .i64 ((rd_T43 l0 x4_1).f2)) ∧ w'.cell? ⟨(ad114.add ((x4_1).toNat * 4)).block, (ad114.add ((x4_1).toNat * 4)).off + 3, none⟩ = some (.bool false) ∧ w'.cell? (ad114.add ((x4_1).toNat * 4)) = some (.int .i64 ((rd_T43 l0 x4_1).f0)) ∧ w'.cell? ⟨(ad114.add ((x4_1).toNat * 4)).block, (ad114.add ((x4_1).toNat * 4)).off + 1, none⟩ = some (.int .i64 ((rd_T43 l0 x4_1).f1)) ∧ w'.cell? ⟨(ad114.add ((x4_1).toNat * 4)).block, (ad114.add ((x4_1).toNat * 4)).off + 2, none⟩ = some (.int .i64 ((rd_T43 l0 x4_1).f2)) ∧ w'.cell? ⟨(ad114.add ((x4_1).toNat * 4)).block, (ad114.add ((x4_1).toNat * 4)).off + 3, none⟩ = some (.bool false)) ∧ (Kd.R (Kd.int .u8) 5 w' w.heap.size (fun _ => True) s_ y115) ∧ (Below w.heap.size w w')) ?_ ?_
                   rotate_left
                   · intro hJ8_9
                     refine join_ (σ := Value) 7 #[T,T,T,T,T,T,T,T,T,F,F,T,T,T,T,T,T,F,F,T,T,T,T,T,F,F,F] (fun s_ => [(29, s_), (37, .string t119)]) (fun s_ w' => (w'.cell? (ad114.add ((x4_1).toNat * 4)) = some (.int .i64 ((rd_T43 l0 x4_1).f0)) ∧ w'.cell? ⟨(ad114.add ((x4_1).toNat * 4)).block, (ad114.add ((x4_1).toNat * 4)).off + 1, none⟩ = some (.int .i64 ((rd_T43 l0 x4_1).f1)) ∧ w'.cell? ⟨(ad114.add ((x4_1).toNat * 4)).block, (ad114.add ((x4_1).toNat * 4)).off + 2, none⟩ = some (.int .i64 ((rd_T43 l0 x4_1).f2)) ∧ w'.cell? ⟨(ad114.add ((x4_1).toNat * 4)).block, (ad114.add ((x4_1).toNat * 4)).off + 3, none⟩ = some (.bool false) ∧ w'.cell? (ad114.add ((x4_1).toNat * 4)) = some (.int .i64 ((rd_T43 l0 x4_1).f0)) ∧ w'.cell? ⟨(ad114.add ((x4_1).toNat * 4)).block, (ad114.add ((x4_1).toNat * 4)).off + 1, none⟩ = some (.int .i64 ((rd_T43 l0 x4_1).f1)) ∧ w'.cell? ⟨(ad114.add ((x4_1).toNat * 4)).block, (ad114.add ((x4_1).toNat * 4)).off + 2, none⟩ = some (.int .i64 ((rd_T43 l0 x4_1).f2)) ∧ w'.cell? ⟨(ad114.add ((x4_1).toNat * 4)).block, (ad114.add ((x4_1).toNat * 4)).off + 3, none⟩ = some (.bool false) ∧ w'.cell? (ad114.add ((x4_1).toNat * 4)) = some (.int .i64 ((rd_T43 l0 x4_1).f0)) ∧ w'.cell? ⟨(ad114.add ((x4_1).toNat * 4)).block, (ad114.add ((x4_1).toNat * 4)).off + 1, none⟩ = some (.int .i64 ((rd_T43 l0 x4_1).f1)) ∧ w'.cell? ⟨(ad114.add ((x4_1).toNat * 4)).block, (ad114.add ((x4_1).toNat * 4)).off + 2, none⟩ = some (.int .i64 ((rd_T43 l0 x4_1).f2)) ∧ w'.cell? ⟨(ad114.add ((x4_1).toNat * 4)).block, (ad114.add ((x4_1).toNat * 4)).off + 3, none⟩ = some (.bool false)) ∧ (Kd.R (Kd.int .u8) 5 w' w.heap.size (fun _ => True) s_ y115) ∧ (Below w.heap.size w w')) ?_ ?_
                     rotate_left
                     · intro hJ8_16
                       refine join_ (σ := Unit) 7 #[T,T,T,T,T,T,T,T,F,F,F,T,T,T,T,T,T,F,F,T,T,T,T,T,T,F,F] (fun s_ => [(37, .string t119), (45, .string t121)]) (fun s_ w' => (w'.cell? (ad114.add ((x4_1).toNat * 4)) = some (.int .i64 ((rd_T43 l0 x4_1).f0)) ∧ w'.cell? ⟨(ad114.add ((x4_1).toNat * 4)).block, (ad114.add ((x4_1).toNat * 4)).off + 1, none⟩ = some (.int .i64 ((rd_T43 l0 x4_1).f1)) ∧ w'.cell? ⟨(ad114.add ((x4_1).toNat * 4)).block, (ad114.add ((x4_1).toNat * 4)).off + 2, none⟩ = some (.int .i64 ((rd_T43 l0 x4_1).f2)) ∧ w'.cell? ⟨(ad114.add ((x4_1).toNat * 4)).block, (ad114.add ((x4_1).toNat * 4)).off + 3, none⟩ = some (.bool false) ∧ w'.cell? (ad114.add ((x4_1).toNat * 4)) = some (.int .i64 ((rd_T43 l0 x4_1).f0)) ∧ w'.cell? ⟨(ad114.add ((x4_1).toNat * 4)).block, (ad114.add ((x4_1).toNat * 4)).off + 1, none⟩ = some (.int .i64 ((rd_T43 l0 x4_1).f1)) ∧ w'.cell? ⟨(ad114.add ((x4_1).toNat * 4)).block, (ad114.add ((x4_1).toNat * 4)).off + 2, none⟩ = some (.int .i64 ((rd_T43 l0 x4_1).f2)) ∧ w'.cell? ⟨(ad114.add ((x4_1).toNat * 4)).block, (ad114.add ((x4_1).toNat * 4)).off + 3, none⟩ = some (.bool false) ∧ w'.cell? (ad114.add ((x4_1).toNat * 4)) = some (.int .i64 ((rd_T43 l0 x4_1).f0)) ∧ w'.cell? ⟨(ad114.add ((x4_1).toNat * 4)).block, (ad114.add ((x4_1).toNat * 4)).off + 1, none⟩ = some (.int .i64 ((rd_T43 l0 x4_1).f1)) ∧ w'.cell? ⟨(ad114.add ((x4_1).toNat * 4)).block, (ad114.add ((x4_1).toNat * 4)).off + 2, none⟩ = some (.int .i64 ((rd_T43 l0 x4_1).f2)) ∧ w'.cell? ⟨(ad114.add ((x4_1).toNat * 4)).block, (ad114.add ((x4_1).toNat * 4)).off + 3, none⟩ = some (.bool false)) ∧ (Below w.heap.size w w')) ?_ ?_
                       rotate_left
                       · intro hJ16_24
                         refine join_ (σ := Value) 8 #[T,T,T,T,T,T,T,T,T,F,F,T,T,T,T,T,F,F,F,T,T,T,T,T,F,F,F] (fun s_ => [(29, s_)]) (fun s_ w' => (w'.cell? (ad114.add ((x4_1).toNat * 4)) = some (.int .i64 ((rd_T43 l0 x4_1).f0)) ∧ w'.cell? ⟨(ad114.add ((x4_1).toNat * 4)).block, (ad114.add ((x4_1).toNat * 4)).off + 1, none⟩ = some (.int .i64 ((rd_T43 l0 x4_1).f1)) ∧ w'.cell? ⟨(ad114.add ((x4_1).toNat * 4)).block, (ad114.add ((x4_1).toNat * 4)).off + 2, none⟩ = some (.int .i64 ((rd_T43 l0 x4_1).f2)) ∧ w'.cell? ⟨(ad114.add ((x4_1).toNat * 4)).block, (ad114.add ((x4_1).toNat * 4)).off + 3, none⟩ = some (.bool false) ∧ w'.cell? (ad114.add ((x4_1).toNat * 4)) = some (.int .i64 ((rd_T43 l0 x4_1).f0)) ∧ w'.cell? ⟨(ad114.add ((x4_1).toNat * 4)).block, (ad114.add ((x4_1).toNat * 4)).off + 1, none⟩ = some (.int .i64 ((rd_T43 l0 x4_1).f1)) ∧ w'.cell? ⟨(ad114.add ((x4_1).toNat * 4)).block, (ad114.add ((x4_1).toNat * 4)).off + 2, none⟩ = some (.int .i64 ((rd_T43 l0 x4_1).f2)) ∧ w'.cell? ⟨(ad114.add ((x4_1).toNat * 4)).block, (ad114.add ((x4_1).toNat * 4)).off + 3, none⟩ = some (.bool false) ∧ w'.cell? (ad114.add ((x4_1).toNat * 4)) = some (.int .i64 ((rd_T43 l0 x4_1).f0)) ∧ w'.cell? ⟨(ad114.add ((x4_1).toNat * 4)).block, (ad114.add ((x4_1).toNat * 4)).off + 1, none⟩ = some (.int .i64 ((rd_T43 l0 x4_1).f1)) ∧ w'.cell? ⟨(ad114.add ((x4_1).toNat * 4)).block, (ad114.add ((x4_1).toNat * 4)).off + 2, none⟩ = some (.int .i64 ((rd_T43 l0 x4_1).f2)) ∧ w'.cell? ⟨(ad114.add ((x4_1).toNat * 4)).block, (ad114.add ((x4_1).toNat * 4)).off + 3, none⟩ = some (.bool false)) ∧ (Kd.R (Kd.int .u8) 5 w' w.heap.size (fun _ => True) s_ y115) ∧ (Below w.heap.size w w')) ?_ ?_
                         rotate_left
                         · intro hJ8
                           refine join_ (σ := Unit) 8 #[T,T,T,T,T,T,T,T,F,F,F,T,T,T,T,T,T,F,F,T,T,T,T,T,F,F,F] (fun s_ => [(37, .string t119)]) (fun s_ w' => (w'.cell? (ad114.add ((x4_1).toNat * 4)) = some (.int .i64 ((rd_T43 l0 x4_1).f0)) ∧ w'.cell? ⟨(ad114.add ((x4_1).toNat * 4)).block, (ad114.add ((x4_1).toNat * 4)).off + 1, none⟩ = some (.int .i64 ((rd_T43 l0 x4_1).f1)) ∧ w'.cell? ⟨(ad114.add ((x4_1).toNat * 4)).block, (ad114.add ((x4_1).toNat * 4)).off + 2, none⟩ = some (.int .i64 ((rd_T43 l0 x4_1).f2)) ∧ w'.cell? ⟨(ad114.add ((x4_1).toNat * 4)).block, (ad114.add ((x4_1).toNat * 4)).off + 3, none⟩ = some (.bool false) ∧ w'.cell? (ad114.add ((x4_1).toNat * 4)) = some (.int .i64 ((rd_T43 l0 x4_1).f0)) ∧ w'.cell? ⟨(ad114.add ((x4_1).toNat * 4)).block, (ad114.add ((x4_1).toNat * 4)).off + 1, none⟩ = some (.int .i64 ((rd_T43 l0 x4_1).f1)) ∧ w'.cell? ⟨(ad114.add ((x4_1).toNat * 4)).block, (ad114.add ((x4_1).toNat * 4)).off + 2, none⟩ = some (.int .i64 ((rd_T43 l0 x4_1).f2)) ∧ w'.cell? ⟨(ad114.add ((x4_1).toNat * 4)).block, (ad114.add ((x4_1).toNat * 4)).off + 3, none⟩ = some (.bool false) ∧ w'.cell? (ad114.add ((x4_1).toNat * 4)) = some (.int .i64 ((rd_T43 l0 x4_1).f0)) ∧ w'.cell? ⟨(ad114.add ((x4_1).toNat * 4)).block, (ad114.add ((x4_1).toNat * 4)).off + 1, none⟩ = some (.int .i64 ((rd_T43 l0 x4_1).f1)) ∧ w'.cell? ⟨(ad114.add ((x4_1).toNat * 4)).block, (ad114.add ((x4_1).toNat * 4)).off + 2, none⟩ = some (.int .i64 ((rd_T43 l0 x4_1).f2)) ∧ w'.cell? ⟨(ad114.add ((x4_1).toNat * 4)).block, (ad114.add ((x4_1).toNat * 4)).off + 3, none⟩ = some (.bool false)) ∧ (Below w.heap.size w w')) ?_ ?_
                           rotate_left
                           · intro hJ16
                             refine two_ (i := 8) (j := 16) (Ni := some 29) (Nj := some 37) #[T,T,T,T,T,T,T,T,T,F,F,T,T,T,T,T,F,F,F,T,T,T,T,T,F,F,F] #[T,T,T,T,T,T,T,T,F,F,F,T,T,T,T,T,T,F,F,T,T,T,T,T,F,F,F] rfl rfl rfl rfl (two_of HT_.out (by kernel_rfl)) (by decide) (by decide) (fun K hK => ?_) (fun K hK => ?_)
                             · skip
                               refine Kd.R_lit_step (Kd.int .u8) _ 5 ?hg (N := 29) ?hd (xs := ([(wrap64 (64 + ((rd_T43 l0 x4_1).f1))) % 256] : List Int)) (inner := [.int .u8 ((wrap64 (64 + ((rd_T43 l0 x4_1).f1))) % 256)]) (ok := fun _ => True) (okp := fun _ => True) ?hr ?hp (fun _ hk => hk) trivial (Below.refl _ _) (Nat.le_refl _) (by simp) ?_; (case hd => rfl); (case hg => rfl); (case hr => first | (go_simp; done) | (go_simp; rfl)); (case hp => exact (Reps.one (show Kd.M (Kd.int .u8) _ _ _ ((wrap64 (64 + ((rd_T43 l0 x4_1).f1))) % 256) [.int .u8 ((wrap64 (64 + ((rd_T43 l0 x4_1).f1))) % 256)] from rfl) (Reps.none _ _)))
                               intro v116 w31 ho32 hb hg_ hnew_
                               clear hg_ hnew_
                               (first | rw [← Ny115.out] at ho32 | (simp only [Int.reduceToNat] at ho32; rw [← Ny115.out] at ho32))
                               have n0_ := Aside0.mk (Kd.R_lower ho32 (below_size (nH HB.out)))
                               have n1_ := Aside0.mk (below_step (nH HB.out) hb)
                               clear HB; have HO117 := n0_; have HB := n1_; clear n0_ n1_; clear hb ho32
                               refine hK.out _ _ ⟨(nC HB.out hw114_0 :), (nC HB.out hw114_1 :), (nC HB.out hw114_2 :), (nC HB.out hw114_3 :), (nC HB.out hw118_0 :), (nC HB.out hw118_1 :), (nC HB.out hw118_2 :), (nC HB.out hw118_3 :), (nC HB.out hw120_0 :), (nC HB.out hw120_1 :), (nC HB.out hw120_2 :), (nC HB.out hw120_3 :)⟩ (fun hHeld => ?_)
                               clear hK K
                               refine norm_ (a' := ?_) ?_ ?_
                               rotate_left
                               · show Act.put _ (some 29) _ = _
                                 simp only [Act.put, List.setIfInBounds_toArray, List.set_cons_zero, List.set_cons_succ, i64_w, i32_w]
                                 rfl
                               exact norm_ (by first | (simp only [putAll, Act.put, List.setIfInBounds_toArray, List.set_cons_zero, List.set_cons_succ]; done) | (simp only [putAll, Act.put, List.setIfInBounds_toArray, List.set_cons_zero, List.set_cons_succ]; rfl)) (hJ8 (v116) _ ⟨hHeld, (nR HO117.out), (nH HB.out)⟩)
                             · skip
                               refine goes_ Tryd.func25 (by kernel_rfl) rfl #[.int .i64 ((rd_T43 l0 x4_1).f0)] (by rfl) rfl rfl (by (try simp only [List.map_toArray, List.map_cons, List.map_nil]); first | done | rfl | (simp only [List.length_drop, List.length_take]; rfl)) ?_
                               with_reducible refine (spec_l01Num.calls kj7 ((rd_T43 l0 x4_1).f0) t119 _ A14.out).mono ?_
                               rintro e w31 ⟨rfl, hb⟩
                               refine ⟨_, rfl, ?_⟩
                               have n0_ := Aside0.mk (below_step (nH HB.out) hb)
                               clear HB; have HB := n0_; clear n0_; (try clear hb); (try clear hb2); (try clear hk); (try clear hi)
                               refine hK.out _ _ ⟨(nC HB.out hw114_0 :), (nC HB.out hw114_1 :), (nC HB.out hw114_2 :), (nC HB.out hw114_3 :), (nC HB.out hw118_0 :), (nC HB.out hw118_1 :), (nC HB.out hw118_2 :), (nC HB.out hw118_3 :), (nC HB.out hw120_0 :), (nC HB.out hw120_1 :), (nC HB.out hw120_2 :), (nC HB.out hw120_3 :)⟩ (fun hHeld => ?_)
                               clear hK K
                               refine norm_ (a' := ?_) ?_ ?_
                               rotate_left
                               · show Act.put _ (some 37) _ = _
                                 simp only [Act.put, List.setIfInBounds_toArray, List.set_cons_zero, List.set_cons_succ, i64_w, i32_w]
                                 rfl
                               exact norm_ (by first | (simp only [putAll, Act.put, List.setIfInBounds_toArray, List.set_cons_zero, List.set_cons_succ]; done) | (simp only [putAll, Act.put, List.setIfInBounds_toArray, List.set_cons_zero, List.set_cons_succ]; rfl)) (hJ16 () _ ⟨hHeld, (nH HB.out)⟩)
                           · skip
                             rintro _ w32 ⟨hS_, h0_⟩
                             have n0_ : Aside0 (Below w.heap.size w w32) := ⟨h0_⟩
                             clear HB; clear h0_; have HB := n0_; clear n0_
                             have hHeld : w32.cell? (ad114.add ((x4_1).toNat * 4)) = some (.int .i64 ((rd_T43 l0 x4_1).f0)) ∧ w32.cell? ⟨(ad114.add ((x4_1).toNat * 4)).block, (ad114.add ((x4_1).toNat * 4)).off + 1, none⟩ = some (.int .i64 ((rd_T43 l0 x4_1).f1)) ∧ w32.cell? ⟨(ad114.add ((x4_1).toNat * 4)).block, (ad114.add ((x4_1).toNat * 4)).off + 2, none⟩ = some (.int .i64 ((rd_T43 l0 x4_1).f2)) ∧ w32.cell? ⟨(ad114.add ((x4_1).toNat * 4)).block, (ad114.add ((x4_1).toNat * 4)).off + 3, none⟩ = some (.bool false) ∧ w32.cell? (ad114.add ((x4_1).toNat * 4)) = some (.int .i64 ((rd_T43 l0 x4_1).f0)) ∧ w32.cell? ⟨(ad114.add ((x4_1).toNat * 4)).block, (ad114.add ((x4_1).toNat * 4)).off + 1, none⟩ = some (.int .i64 ((rd_T43 l0 x4_1).f1)) ∧ w32.cell? ⟨(ad114.add ((x4_1).toNat * 4)).block, (ad114.add ((x4_1).toNat * 4)).off + 2, none⟩ = some (.int .i64 ((rd_T43 l0 x4_1).f2)) ∧ w32.cell? ⟨(ad114.add ((x4_1).toNat * 4)).block, (ad114.add ((x4_1).toNat * 4)).off + 3, none⟩ = some (.bool false) ∧ w32.cell? (ad114.add ((x4_1).toNat * 4)) = some (.int .i64 ((rd_T43 l0 x4_1).f0)) ∧ w32.cell? ⟨(ad114.add ((x4_1).toNat * 4)).block, (ad114.add ((x4_1).toNat * 4)).off + 1, none⟩ = some (.int .i64 ((rd_T43 l0 x4_1).f1)) ∧ w32.cell? ⟨(ad114.add ((x4_1).toNat * 4)).block, (ad114.add ((x4_1).toNat * 4)).off + 2, none⟩ = some (.int .i64 ((rd_T43 l0 x4_1).f2)) ∧ w32.cell? ⟨(ad114.add ((x4_1).toNat * 4)).block, (ad114.add ((x4_1).toNat * 4)).off + 3, none⟩ = some (.bool false) := hS_
                             refine norm_ (a' := ?_) ?_ ?_
                             rotate_left
                             · simp only [putAll, Act.put, List.setIfInBounds_toArray, List.set_cons_zero, List.set_cons_succ]
                               rfl
                             refine two_ (i := 8) (j := 24) (Ni := some 29) (Nj := some 45) #[T,T,T,T,T,T,T,T,T,F,F,T,T,T,T,T,T,F,F,T,T,T,T,T,F,F,F] #[T,T,T,T,T,T,T,T,F,F,F,T,T,T,T,T,T,F,F,T,T,T,T,T,T,F,F] rfl rfl rfl rfl (two_of HT_.out (by kernel_rfl)) (by decide) (by decide) (fun K hK => ?_) (fun K hK => ?_)
                             · skip
                               refine Kd.R_lit_step (Kd.int .u8) _ 5 ?hg (N := 29) ?hd (xs := ([(wrap64 (64 + ((rd_T43 l0 x4_1).f1))) % 256] : List Int)) (inner := [.int .u8 ((wrap64 (64 + ((rd_T43 l0 x4_1).f1))) % 256)]) (ok := fun _ => True) (okp := fun _ => True) ?hr ?hp (fun _ hk => hk) trivial (Below.refl _ _) (Nat.le_refl _) (by simp) ?_; (case hd => rfl); (case hg => rfl); (case hr => first | (go_simp; done) | (go_simp; rfl)); (case hp => exact (Reps.one (show Kd.M (Kd.int .u8) _ _ _ ((wrap64 (64 + ((rd_T43 l0 x4_1).f1))) % 256) [.int .u8 ((wrap64 (64 + ((rd_T43 l0 x4_1).f1))) % 256)] from rfl) (Reps.none _ _)))
                               intro v116 w33 ho34 hb hg_ hnew_
                               clear hg_ hnew_
                               (first | rw [← Ny115.out] at ho34 | (simp only [Int.reduceToNat] at ho34; rw [← Ny115.out] at ho34))
                               have n0_ := Aside0.mk (Kd.R_lower ho34 (below_size (nH HB.out)))
                               have n1_ := Aside0.mk (below_step (nH HB.out) hb)
                               clear HB; have HO117 := n0_; have HB := n1_; clear n0_ n1_; clear hb ho34
                               refine hK.out _ _ ⟨(nC HB.out hw114_0 :), (nC HB.out hw114_1 :), (nC HB.out hw114_2 :), (nC HB.out hw114_3 :), (nC HB.out hw118_0 :), (nC HB.out hw118_1 :), (nC HB.out hw118_2 :), (nC HB.out hw118_3 :), (nC HB.out hw120_0 :), (nC HB.out hw120_1 :), (nC HB.out hw120_2 :), (nC HB.out hw120_3 :)⟩ (fun hHeld => ?_)
                               clear hK K
                               refine norm_ (a' := ?_) ?_ ?_
                               rotate_left
                               · show Act.put _ (some 29) _ = _
                                 simp only [Act.put, List.setIfInBounds_toArray, List.set_cons_zero, List.set_cons_succ, i64_w, i32_w]
                                 rfl
                               exact norm_ (by first | (simp only [putAll, Act.put, List.setIfInBounds_toArray, List.set_cons_zero, List.set_cons_succ]; done) | (simp only [putAll, Act.put, List.setIfInBounds_toArray, List.set_cons_zero, List.set_cons_succ]; rfl)) (hJ8_16 (v116) _ ⟨hHeld, (nR HO117.out), (nH HB.out)⟩)
                             · skip
                               refine goes_ Tryd.func25 (by kernel_rfl) rfl #[.int .i64 ((rd_T43 l0 x4_1).f2)] (by rfl) rfl rfl (by (try simp only [List.map_toArray, List.map_cons, List.map_nil]); first | done | rfl | (simp only [List.length_drop, List.length_take]; rfl)) ?_
                               with_reducible refine (spec_l01Num.calls kj7 ((rd_T43 l0 x4_1).f2) t121 _ A17.out).mono ?_
                               rintro e w33 ⟨rfl, hb⟩
                               refine ⟨_, rfl, ?_⟩
                               have n0_ := Aside0.mk (below_step (nH HB.out) hb)
                               clear HB; have HB := n0_; clear n0_; (try clear hb); (try clear hb2); (try clear hk); (try clear hi)
                               refine hK.out _ _ ⟨(nC HB.out hw114_0 :), (nC HB.out hw114_1 :), (nC HB.out hw114_2 :), (nC HB.out hw114_3 :), (nC HB.out hw118_0 :), (nC HB.out hw118_1 :), (nC HB.out hw118_2 :), (nC HB.out hw118_3 :), (nC HB.out hw120_0 :), (nC HB.out hw120_1 :), (nC HB.out hw120_2 :), (nC HB.out hw120_3 :)⟩ (fun hHeld => ?_)
                               clear hK K
                               refine norm_ (a' := ?_) ?_ ?_
                               rotate_left
                               · show Act.put _ (some 45) _ = _
                                 simp only [Act.put, List.setIfInBounds_toArray, List.set_cons_zero, List.set_cons_succ, i64_w, i32_w]
                                 rfl
                               exact norm_ (by first | (simp only [putAll, Act.put, List.setIfInBounds_toArray, List.set_cons_zero, List.set_cons_succ]; done) | (simp only [putAll, Act.put, List.setIfInBounds_toArray, List.set_cons_zero, List.set_cons_succ]; rfl)) (hJ16_24 () _ ⟨hHeld, (nH HB.out)⟩)
                         · skip
                           rintro v116 w33 ⟨hS_, h0_, h1_⟩
                           have n0_ : Aside0 (Kd.R (Kd.int .u8) 5 w33 w.heap.size (fun _ => True) v116 y115) := ⟨h0_⟩
                           have n1_ : Aside0 (Below w.heap.size w w33) := ⟨h1_⟩
                           clear HB; clear h0_ h1_; have HO117 := n0_; have HB := n1_; clear n0_ n1_
                           have hHeld : w33.cell? (ad114.add ((x4_1).toNat * 4)) = some (.int .i64 ((rd_T43 l0 x4_1).f0)) ∧ w33.cell? ⟨(ad114.add ((x4_1).toNat * 4)).block, (ad114.add ((x4_1).toNat * 4)).off + 1, none⟩ = some (.int .i64 ((rd_T43 l0 x4_1).f1)) ∧ w33.cell? ⟨(ad114.add ((x4_1).toNat * 4)).block, (ad114.add ((x4_1).toNat * 4)).off + 2, none⟩ = some (.int .i64 ((rd_T43 l0 x4_1).f2)) ∧ w33.cell? ⟨(ad114.add ((x4_1).toNat * 4)).block, (ad114.add ((x4_1).toNat * 4)).off + 3, none⟩ = some (.bool false) ∧ w33.cell? (ad114.add ((x4_1).toNat * 4)) = some (.int .i64 ((rd_T43 l0 x4_1).f0)) ∧ w33.cell? ⟨(ad114.add ((x4_1).toNat * 4)).block, (ad114.add ((x4_1).toNat * 4)).off + 1, none⟩ = some (.int .i64 ((rd_T43 l0 x4_1).f1)) ∧ w33.cell? ⟨(ad114.add ((x4_1).toNat * 4)).block, (ad114.add ((x4_1).toNat * 4)).off + 2, none⟩ = some (.int .i64 ((rd_T43 l0 x4_1).f2)) ∧ w33.cell? ⟨(ad114.add ((x4_1).toNat * 4)).block, (ad114.add ((x4_1).toNat * 4)).off + 3, none⟩ = some (.bool false) ∧ w33.cell? (ad114.add ((x4_1).toNat * 4)) = some (.int .i64 ((rd_T43 l0 x4_1).f0)) ∧ w33.cell? ⟨(ad114.add ((x4_1).toNat * 4)).block, (ad114.add ((x4_1).toNat * 4)).off + 1, none⟩ = some (.int .i64 ((rd_T43 l0 x4_1).f1)) ∧ w33.cell? ⟨(ad114.add ((x4_1).toNat * 4)).block, (ad114.add ((x4_1).toNat * 4)).off + 2, none⟩ = some (.int .i64 ((rd_T43 l0 x4_1).f2)) ∧ w33.cell? ⟨(ad114.add ((x4_1).toNat * 4)).block, (ad114.add ((x4_1).toNat * 4)).off + 3, none⟩ = some (.bool false) := hS_
                           refine norm_ (a' := ?_) ?_ ?_
                           rotate_left
                           · simp only [putAll, Act.put, List.setIfInBounds_toArray, List.set_cons_zero, List.set_cons_succ]
                             rfl
                           refine two_ (i := 9) (j := 16) (Ni := some 30) (Nj := some 37) #[T,T,T,T,T,T,T,T,T,T,F,T,T,T,T,T,F,F,F,T,T,T,T,T,F,F,F] #[T,T,T,T,T,T,T,T,T,F,F,T,T,T,T,T,T,F,F,T,T,T,T,T,F,F,F] rfl rfl rfl rfl (two_of HT_.out (by kernel_rfl)) (by decide) (by decide) (fun K hK => ?_) (fun K hK => ?_)
                           · skip
                             have hcv34 := own_string (P := Tryd.prog) Tryd.underlying33 Tryd.underlying5 Tryd.underlying9 (Kd.own_of_R HO117.out)
                             refine value_ (w1 := ?_) (v := ?_) (by rfl) rfl ?_ ?_
                             rotate_left 2
                             · go_simp
                               constructor
                               · rfl
                               · rfl
                             clear hcv34
                             refine hK.out _ _ ⟨(nC HB.out hw114_0 :), (nC HB.out hw114_1 :), (nC HB.out hw114_2 :), (nC HB.out hw114_3 :), (nC HB.out hw118_0 :), (nC HB.out hw118_1 :), (nC HB.out hw118_2 :), (nC HB.out hw118_3 :), (nC HB.out hw120_0 :), (nC HB.out hw120_1 :), (nC HB.out hw120_2 :), (nC HB.out hw120_3 :)⟩ (fun hHeld => ?_)
                             clear hK K
                             refine norm_ (a' := ?_) ?_ ?_
                             rotate_left
                             · show Act.put _ (some 30) _ = _
                               simp only [Act.put, List.setIfInBounds_toArray, List.set_cons_zero, List.set_cons_succ, i64_w, i32_w]
                               rfl
                             refine pU 10 (some 31) #[T,T,T,T,T,T,T,T,T,T,T,T,T,T,T,T,F,F,F,T,T,T,T,T,F,F,F] rfl rfl HT_.out ?_
                             exact norm_ (by first | (simp only [putAll, Act.put, List.setIfInBounds_toArray, List.set_cons_zero, List.set_cons_succ]; done) | (simp only [putAll, Act.put, List.setIfInBounds_toArray, List.set_cons_zero, List.set_cons_succ]; rfl)) (hJ8_9 (v116) _ ⟨hHeld, (nR HO117.out), (nH HB.out)⟩)
                           · skip
                             refine goes_ Tryd.func25 (by kernel_rfl) rfl #[.int .i64 ((rd_T43 l0 x4_1).f0)] (by rfl) rfl rfl (by (try simp only [List.map_toArray, List.map_cons, List.map_nil]); first | done | rfl | (simp only [List.length_drop, List.length_take]; rfl)) ?_
                             with_reducible refine (spec_l01Num.calls kj7 ((rd_T43 l0 x4_1).f0) t119 _ A14.out).mono ?_
                             rintro e w34 ⟨rfl, hb⟩
                             refine ⟨_, rfl, ?_⟩
                             have n0_ := Aside0.mk (Kd.R_below (nR HO117.out) hb)
                             have n1_ := Aside0.mk (below_step (nH HB.out) hb)
                             clear HO117; clear HB; have HO117 := n0_; have HB := n1_; clear n0_ n1_; (try clear hb); (try clear hb2); (try clear hk); (try clear hi)
                             refine hK.out _ _ ⟨(nC HB.out hw114_0 :), (nC HB.out hw114_1 :), (nC HB.out hw114_2 :), (nC HB.out hw114_3 :), (nC HB.out hw118_0 :), (nC HB.out hw118_1 :), (nC HB.out hw118_2 :), (nC HB.out hw118_3 :), (nC HB.out hw120_0 :), (nC HB.out hw120_1 :), (nC HB.out hw120_2 :), (nC HB.out hw120_3 :)⟩ (fun hHeld => ?_)
                             clear hK K
                             refine norm_ (a' := ?_) ?_ ?_
                             rotate_left
                             · show Act.put _ (some 37) _ = _
                               simp only [Act.put, List.setIfInBounds_toArray, List.set_cons_zero, List.set_cons_succ, i64_w, i32_w]
                               rfl
                             exact norm_ (by first | (simp only [putAll, Act.put, List.setIfInBounds_toArray, List.set_cons_zero, List.set_cons_succ]; done) | (simp only [putAll, Act.put, List.setIfInBounds_toArray, List.set_cons_zero, List.set_cons_succ]; rfl)) (hJ8_16 (v116) _ ⟨hHeld, (nR HO117.out), (nH HB.out)⟩)
                       · skip
                         rintro _ w33 ⟨hS_, h0_⟩
                         have n0_ : Aside0 (Below w.heap.size w w33) := ⟨h0_⟩
                         clear HB; clear h0_; have HB := n0_; clear n0_
                         have hHeld : w33.cell? (ad114.add ((x4_1).toNat * 4)) = some (.int .i64 ((rd_T43 l0 x4_1).f0)) ∧ w33.cell? ⟨(ad114.add ((x4_1).toNat * 4)).block, (ad114.add ((x4_1).toNat * 4)).off + 1, none⟩ = some (.int .i64 ((rd_T43 l0 x4_1).f1)) ∧ w33.cell? ⟨(ad114.add ((x4_1).toNat * 4)).block, (ad114.add ((x4_1).toNat * 4)).off + 2, none⟩ = some (.int .i64 ((rd_T43 l0 x4_1).f2)) ∧ w33.cell? ⟨(ad114.add ((x4_1).toNat * 4)).block, (ad114.add ((x4_1).toNat * 4)).off + 3, none⟩ = some (.bool false) ∧ w33.cell? (ad114.add ((x4_1).toNat * 4)) = some (.int .i64 ((rd_T43 l0 x4_1).f0)) ∧ w33.cell? ⟨(ad114.add ((x4_1).toNat * 4)).block, (ad114.add ((x4_1).toNat * 4)).off + 1, none⟩ = some (.int .i64 ((rd_T43 l0 x4_1).f1)) ∧ w33.cell? ⟨(ad114.add ((x4_1).toNat * 4)).block, (ad114.add ((x4_1).toNat * 4)).off + 2, none⟩ = some (.int .i64 ((rd_T43 l0 x4_1).f2)) ∧ w33.cell? ⟨(ad114.add ((x4_1).toNat * 4)).block, (ad114.add ((x4_1).toNat * 4)).off + 3, none⟩ = some (.bool false) ∧ w33.cell? (ad114.add ((x4_1).toNat * 4)) = some (.int .i64 ((rd_T43 l0 x4_1).f0)) ∧ w33.cell? ⟨(ad114.add ((x4_1).toNat * 4)).block, (ad114.add ((x4_1).toNat * 4)).off + 1, none⟩ = some (.int .i64 ((rd_T43 l0 x4_1).f1)) ∧ w33.cell? ⟨(ad114.add ((x4_1).toNat * 4)).block, (ad114.add ((x4_1).toNat * 4)).off + 2, none⟩ = some (.int .i64 ((rd_T43 l0 x4_1).f2)) ∧ w33.cell? ⟨(ad114.add ((x4_1).toNat * 4)).block, (ad114.add ((x4_1).toNat * 4)).off + 3, none⟩ = some (.bool false) := hS_
                         refine norm_ (a' := ?_) ?_ ?_
                         rotate_left
                         · simp only [putAll, Act.put, List.setIfInBounds_toArray, List.set_cons_zero, List.set_cons_succ]
                           rfl
                         refine one_ (i := 8) (N := some 29) #[T,T,T,T,T,T,T,T,T,F,F,T,T,T,T,T,T,F,F,T,T,T,T,T,T,F,F] rfl rfl (one_of HT_.out (by kernel_rfl)) (by decide) (fun K hK => ?_)
                         refine Kd.R_lit_step (Kd.int .u8) _ 5 ?hg (N := 29) ?hd (xs := ([(wrap64 (64 + ((rd_T43 l0 x4_1).f1))) % 256] : List Int)) (inner := [.int .u8 ((wrap64 (64 + ((rd_T43 l0 x4_1).f1))) % 256)]) (ok := fun _ => True) (okp := fun _ => True) ?hr ?hp (fun _ hk => hk) trivial (Below.refl _ _) (Nat.le_refl _) (by simp) ?_; (case hd => rfl); (case hg => rfl); (case hr => first | (go_simp; done) | (go_simp; rfl)); (case hp => exact (Reps.one (show Kd.M (Kd.int .u8) _ _ _ ((wrap64 (64 + ((rd_T43 l0 x4_1).f1))) % 256) [.int .u8 ((wrap64 (64 + ((rd_T43 l0 x4_1).f1))) % 256)] from rfl) (Reps.none _ _)))
                         intro v116 w34 ho35 hb hg_ hnew_
                         clear hg_ hnew_
                         (first | rw [← Ny115.out] at ho35 | (simp only [Int.reduceToNat] at ho35; rw [← Ny115.out] at ho35))
                         have n0_ := Aside0.mk (Kd.R_lower ho35 (below_size (nH HB.out)))
                         have n1_ := Aside0.mk (below_step (nH HB.out) hb)
                         clear HB; have HO117 := n0_; have HB := n1_; clear n0_ n1_; clear hb ho35
                         refine hK.out _ _ ⟨(nC HB.out hw114_0 :), (nC HB.out hw114_1 :), (nC HB.out hw114_2 :), (nC HB.out hw114_3 :), (nC HB.out hw118_0 :), (nC HB.out hw118_1 :), (nC HB.out hw118_2 :), (nC HB.out hw118_3 :), (nC HB.out hw120_0 :), (nC HB.out hw120_1 :), (nC HB.out hw120_2 :), (nC HB.out hw120_3 :)⟩ (fun hHeld => ?_)
                         clear hK K
                         refine norm_ (a' := ?_) ?_ ?_
                         rotate_left
                         · show Act.put _ (some 29) _ = _
                           simp only [Act.put, List.setIfInBounds_toArray, List.set_cons_zero, List.set_cons_succ, i64_w, i32_w]
                           rfl
                         exact norm_ (by first | (simp only [putAll, Act.put, List.setIfInBounds_toArray, List.set_cons_zero, List.set_cons_succ]; done) | (simp only [putAll, Act.put, List.setIfInBounds_toArray, List.set_cons_zero, List.set_cons_succ]; rfl)) (hJ8_16_24 (v116) _ ⟨hHeld, (nR HO117.out), (nH HB.out)⟩)
                     · skip
                       rintro v116 w34 ⟨hS_, h0_, h1_⟩
                       have n0_ : Aside0 (Kd.R (Kd.int .u8) 5 w34 w.heap.size (fun _ => True) v116 y115) := ⟨h0_⟩
                       have n1_ : Aside0 (Below w.heap.size w w34) := ⟨h1_⟩
                       clear HB; clear h0_ h1_; have HO117 := n0_; have HB := n1_; clear n0_ n1_
                       have hHeld : w34.cell? (ad114.add ((x4_1).toNat * 4)) = some (.int .i64 ((rd_T43 l0 x4_1).f0)) ∧ w34.cell? ⟨(ad114.add ((x4_1).toNat * 4)).block, (ad114.add ((x4_1).toNat * 4)).off + 1, none⟩ = some (.int .i64 ((rd_T43 l0 x4_1).f1)) ∧ w34.cell? ⟨(ad114.add ((x4_1).toNat * 4)).block, (ad114.add ((x4_1).toNat * 4)).off + 2, none⟩ = some (.int .i64 ((rd_T43 l0 x4_1).f2)) ∧ w34.cell? ⟨(ad114.add ((x4_1).toNat * 4)).block, (ad114.add ((x4_1).toNat * 4)).off + 3, none⟩ = some (.bool false) ∧ w34.cell? (ad114.add ((x4_1).toNat * 4)) = some (.int .i64 ((rd_T43 l0 x4_1).f0)) ∧ w34.cell? ⟨(ad114.add ((x4_1).toNat * 4)).block, (ad114.add ((x4_1).toNat * 4)).off + 1, none⟩ = some (.int .i64 ((rd_T43 l0 x4_1).f1)) ∧ w34.cell? ⟨(ad114.add ((x4_1).toNat * 4)).block, (ad114.add ((x4_1).toNat * 4)).off + 2, none⟩ = some (.int .i64 ((rd_T43 l0 x4_1).f2)) ∧ w34.cell? ⟨(ad114.add ((x4_1).toNat * 4)).block, (ad114.add ((x4_1).toNat * 4)).off + 3, none⟩ = some (.bool false) ∧ w34.cell? (ad114.add ((x4_1).toNat * 4)) = some (.int .i64 ((rd_T43 l0 x4_1).f0)) ∧ w34.cell? ⟨(ad114.add ((x4_1).toNat * 4)).block, (ad114.add ((x4_1).toNat * 4)).off + 1, none⟩ = some (.int .i64 ((rd_T43 l0 x4_1).f1)) ∧ w34.cell? ⟨(ad114.add ((x4_1).toNat * 4)).block, (ad114.add ((x4_1).toNat * 4)).off + 2, none⟩ = some (.int .i64 ((rd_T43 l0 x4_1).f2)) ∧ w34.cell? ⟨(ad114.add ((x4_1).toNat * 4)).block, (ad114.add ((x4_1).toNat * 4)).off + 3, none⟩ = some (.bool false) := hS_
                       refine norm_ (a' := ?_) ?_ ?_
                       rotate_left
                       · simp only [putAll, Act.put, List.setIfInBounds_toArray, List.set_cons_zero, List.set_cons_succ]
                         rfl
                       refine two_ (i := 9) (j := 24) (Ni := some 30) (Nj := some 45) #[T,T,T,T,T,T,T,T,T,T,F,T,T,T,T,T,T,F,F,T,T,T,T,T,F,F,F] #[T,T,T,T,T,T,T,T,T,F,F,T,T,T,T,T,T,F,F,T,T,T,T,T,T,F,F] rfl rfl rfl rfl (two_of HT_.out (by kernel_rfl)) (by decide) (by decide) (fun K hK => ?_) (fun K hK => ?_)
                       · skip
                         have hcv35 := own_string (P := Tryd.prog) Tryd.underlying33 Tryd.underlying5 Tryd.underlying9 (Kd.own_of_R HO117.out)
                         refine value_ (w1 := ?_) (v := ?_) (by rfl) rfl ?_ ?_
                         rotate_left 2
                         · go_simp
                           constructor
                           · rfl
                           · rfl
                         clear hcv35
                         refine hK.out _ _ ⟨(nC HB.out hw114_0 :), (nC HB.out hw114_1 :), (nC HB.out hw114_2 :), (nC HB.out hw114_3 :), (nC HB.out hw118_0 :), (nC HB.out hw118_1 :), (nC HB.out hw118_2 :), (nC HB.out hw118_3 :), (nC HB.out hw120_0 :), (nC HB.out hw120_1 :), (nC HB.out hw120_2 :), (nC HB.out hw120_3 :)⟩ (fun hHeld => ?_)
                         clear hK K
                         refine norm_ (a' := ?_) ?_ ?_
                         rotate_left
                         · show Act.put _ (some 30) _ = _
                           simp only [Act.put, List.setIfInBounds_toArray, List.set_cons_zero, List.set_cons_succ, i64_w, i32_w]
                           rfl
                         refine pU 10 (some 31) #[T,T,T,T,T,T,T,T,T,T,T,T,T,T,T,T,T,F,F,T,T,T,T,T,F,F,F] rfl rfl HT_.out ?_
                         refine pU 17 (some 38) #[T,T,T,T,T,T,T,T,T,T,T,T,T,T,T,T,T,T,F,T,T,T,T,T,F,F,F] rfl rfl HT_.out ?_
                         refine pU 18 (some 39) #[T,T,T,T,T,T,T,T,T,T,T,T,T,T,T,T,T,T,T,T,T,T,T,T,F,F,F] rfl rfl HT_.out ?_
                         exact norm_ (by first | (simp only [putAll, Act.put, List.setIfInBounds_toArray, List.set_cons_zero, List.set_cons_succ]; done) | (simp only [putAll, Act.put, List.setIfInBounds_toArray, List.set_cons_zero, List.set_cons_succ]; rfl)) (hJ8_9_16 (v116) _ ⟨hHeld, (nR HO117.out), (nH HB.out)⟩)
                       · skip
                         refine goes_ Tryd.func25 (by kernel_rfl) rfl #[.int .i64 ((rd_T43 l0 x4_1).f2)] (by rfl) rfl rfl (by (try simp only [List.map_toArray, List.map_cons, List.map_nil]); first | done | rfl | (simp only [List.length_drop, List.length_take]; rfl)) ?_
                         with_reducible refine (spec_l01Num.calls kj7 ((rd_T43 l0 x4_1).f2) t121 _ A17.out).mono ?_
                         rintro e w35 ⟨rfl, hb⟩
                         refine ⟨_, rfl, ?_⟩
                         have n0_ := Aside0.mk (Kd.R_below (nR HO117.out) hb)
                         have n1_ := Aside0.mk (below_step (nH HB.out) hb)
                         clear HO117; clear HB; have HO117 := n0_; have HB := n1_; clear n0_ n1_; (try clear hb); (try clear hb2); (try clear hk); (try clear hi)
                         refine hK.out _ _ ⟨(nC HB.out hw114_0 :), (nC HB.out hw114_1 :), (nC HB.out hw114_2 :), (nC HB.out hw114_3 :), (nC HB.out hw118_0 :), (nC HB.out hw118_1 :), (nC HB.out hw118_2 :), (nC HB.out hw118_3 :), (nC HB.out hw120_0 :), (nC HB.out hw120_1 :), (nC HB.out hw120_2 :), (nC HB.out hw120_3 :)⟩ (fun hHeld => ?_)
                         clear hK K
                         refine norm_ (a' := ?_) ?_ ?_
                         rotate_left
                         · show Act.put _ (some 45) _ = _
                           simp only [Act.put, List.setIfInBounds_toArray, List.set_cons_zero, List.set_cons_succ, i64_w, i32_w]
                           rfl
                         exact norm_ (by first | (simp only [putAll, Act.put, List.setIfInBounds_toArray, List.set_cons_zero, List.set_cons_succ]; done) | (simp only [putAll, Act.put, List.setIfInBounds_toArray, List.set_cons_zero, List.set_cons_succ]; rfl)) (hJ8_16_24 (v116) _ ⟨hHeld, (nR HO117.out), (nH HB.out)⟩)
                   · skip
                     rintro v116 w34 ⟨hS_, h0_, h1_⟩
                     have n0_ : Aside0 (Kd.R (Kd.int .u8) 5 w34 w.heap.size (fun _ => True) v116 y115) := ⟨h0_⟩
                     have n1_ : Aside0 (Below w.heap.size w w34) := ⟨h1_⟩
                     clear HB; clear h0_ h1_; have HO117 := n0_; have HB := n1_; clear n0_ n1_
                     have hHeld : w34.cell? (ad114.add ((x4_1).toNat * 4)) = some (.int .i64 ((rd_T43 l0 x4_1).f0)) ∧ w34.cell? ⟨(ad114.add ((x4_1).toNat * 4)).block, (ad114.add ((x4_1).toNat * 4)).off + 1, none⟩ = some (.int .i64 ((rd_T43 l0 x4_1).f1)) ∧ w34.cell? ⟨(ad114.add ((x4_1).toNat * 4)).block, (ad114.add ((x4_1).toNat * 4)).off + 2, none⟩ = some (.int .i64 ((rd_T43 l0 x4_1).f2)) ∧ w34.cell? ⟨(ad114.add ((x4_1).toNat * 4)).block, (ad114.add ((x4_1).toNat * 4)).off + 3, none⟩ = some (.bool false) ∧ w34.cell? (ad114.add ((x4_1).toNat * 4)) = some (.int .i64 ((rd_T43 l0 x4_1).f0)) ∧ w34.cell? ⟨(ad114.add ((x4_1).toNat * 4)).block, (ad114.add ((x4_1).toNat * 4)).off + 1, none⟩ = some (.int .i64 ((rd_T43 l0 x4_1).f1)) ∧ w34.cell? ⟨(ad114.add ((x4_1).toNat * 4)).block, (ad114.add ((x4_1).toNat * 4)).off + 2, none⟩ = some (.int .i64 ((rd_T43 l0 x4_1).f2)) ∧ w34.cell? ⟨(ad114.add ((x4_1).toNat * 4)).block, (ad114.add ((x4_1).toNat * 4)).off + 3, none⟩ = some (.bool false) ∧ w34.cell? (ad114.add ((x4_1).toNat * 4)) = some (.int .i64 ((rd_T43 l0 x4_1).f0)) ∧ w34.cell? ⟨(ad114.add ((x4_1).toNat * 4)).block, (ad114.add ((x4_1).toNat * 4)).off + 1, none⟩ = some (.int .i64 ((rd_T43 l0 x4_1).f1)) ∧ w34.cell? ⟨(ad114.add ((x4_1).toNat * 4)).block, (ad114.add ((x4_1).toNat * 4)).off + 2, none⟩ = some (.int .i64 ((rd_T43 l0 x4_1).f2)) ∧ w34.cell? ⟨(ad114.add ((x4_1).toNat * 4)).block, (ad114.add ((x4_1).toNat * 4)).off + 3, none⟩ = some (.bool false) := hS_
                     refine norm_ (a' := ?_) ?_ ?_
                     rotate_left
                     · simp only [putAll, Act.put, List.setIfInBounds_toArray, List.set_cons_zero, List.set_cons_succ]
                       rfl
                     refine one_ (i := 16) (N := some 37) #[T,T,T,T,T,T,T,T,T,T,T,T,T,T,T,T,T,F,F,T,T,T,T,T,F,F,F] rfl rfl (one_of HT_.out (by kernel_rfl)) (by decide) (fun K hK => ?_)
                     refine goes_ Tryd.func25 (by kernel_rfl) rfl #[.int .i64 ((rd_T43 l0 x4_1).f0)] (by rfl) rfl rfl (by (try simp only [List.map_toArray, List.map_cons, List.map_nil]); first | done | rfl | (simp only [List.length_drop, List.length_take]; rfl)) ?_
                     with_reducible refine (spec_l01Num.calls kj7 ((rd_T43 l0 x4_1).f0) t119 _ A14.out).mono ?_
                     rintro e w35 ⟨rfl, hb⟩
                     refine ⟨_, rfl, ?_⟩
                     have n0_ := Aside0.mk (Kd.R_below (nR HO117.out) hb)
                     have n1_ := Aside0.mk (below_step (nH HB.out) hb)
                     clear HO117; clear HB; have HO117 := n0_; have HB := n1_; clear n0_ n1_; (try clear hb); (try clear hb2); (try clear hk); (try clear hi)
                     refine hK.out _ _ ⟨(nC HB.out hw114_0 :), (nC HB.out hw114_1 :), (nC HB.out hw114_2 :), (nC HB.out hw114_3 :), (nC HB.out hw118_0 :), (nC HB.out hw118_1 :), (nC HB.out hw118_2 :), (nC HB.out hw118_3 :), (nC HB.out hw120_0 :), (nC HB.out hw120_1 :), (nC HB.out hw120_2 :), (nC HB.out hw120_3 :)⟩ (fun hHeld => ?_)
                     clear hK K
                     refine norm_ (a' := ?_) ?_ ?_
                     rotate_left
                     · show Act.put _ (some 37) _ = _
                       simp only [Act.put, List.setIfInBounds_toArray, List.set_cons_zero, List.set_cons_succ, i64_w, i32_w]
                       rfl
                     refine pU 17 (some 38) #[T,T,T,T,T,T,T,T,T,T,T,T,T,T,T,T,T,T,F,T,T,T,T,T,F,F,F] rfl rfl HT_.out ?_
                     refine pU 18 (some 39) #[T,T,T,T,T,T,T,T,T,T,T,T,T,T,T,T,T,T,T,T,T,T,T,T,F,F,F] rfl rfl HT_.out ?_
                     exact norm_ (by first | (simp only [putAll, Act.put, List.setIfInBounds_toArray, List.set_cons_zero, List.set_cons_succ]; done) | (simp only [putAll, Act.put, List.setIfInBounds_toArray, List.set_cons_zero, List.set_cons_succ]; rfl)) (hJ8_9_16 (v116) _ ⟨hHeld, (nR HO117.out), (nH HB.out)⟩)
                 · skip
                   rintro v116 w35 ⟨hS_, h0_, h1_⟩
                   have n0_ : Aside0 (Kd.R (Kd.int .u8) 5 w35 w.heap.size (fun _ => True) v116 y115) := ⟨h0_⟩
                   have n1_ : Aside0 (Below w.heap.size w w35) := ⟨h1_⟩
                   clear HB; clear h0_ h1_; have HO117 := n0_; have HB := n1_; clear n0_ n1_
                   have hHeld : w35.cell? (ad114.add ((x4_1).toNat * 4)) = some (.int .i64 ((rd_T43 l0 x4_1).f0)) ∧ w35.cell? ⟨(ad114.add ((x4_1).toNat * 4)).block, (ad114.add ((x4_1).toNat * 4)).off + 1, none⟩ = some (.int .i64 ((rd_T43 l0 x4_1).f1)) ∧ w35.cell? ⟨(ad114.add ((x4_1).toNat * 4)).block, (ad114.add ((x4_1).toNat * 4)).off + 2, none⟩ = some (.int .i64 ((rd_T43 l0 x4_1).f2)) ∧ w35.cell? ⟨(ad114.add ((x4_1).toNat * 4)).block, (ad114.add ((x4_1).toNat * 4)).off + 3, none⟩ = some (.bool false) ∧ w35.cell? (ad114.add ((x4_1).toNat * 4)) = some (.int .i64 ((rd_T43 l0 x4_1).f0)) ∧ w35.cell? ⟨(ad114.add ((x4_1).toNat * 4)).block, (ad114.add ((x4_1).toNat * 4)).off + 1, none⟩ = some (.int .i64 ((rd_T43 l0 x4_1).f1)) ∧ w35.cell? ⟨(ad114.add ((x4_1).toNat * 4)).block, (ad114.add ((x4_1).toNat * 4)).off + 2, none⟩ = some (.int .i64 ((rd_T43 l0 x4_1).f2)) ∧ w35.cell? ⟨(ad114.add ((x4_1).toNat * 4)).block, (ad114.add ((x4_1).toNat * 4)).off + 3, none⟩ = some (.bool false) ∧ w35.cell? (ad114.add ((x4_1).toNat * 4)) = some (.int .i64 ((rd_T43 l0 x4_1).f0)) ∧ w35.cell? ⟨(ad114.add ((x4_1).toNat * 4)).block, (ad114.add ((x4_1).toNat * 4)).off + 1, none⟩ = some (.int .i64 ((rd_T43 l0 x4_1).f1)) ∧ w35.cell? ⟨(ad114.add ((x4_1).toNat * 4)).block, (ad114.add ((x4_1).toNat * 4)).off + 2, none⟩ = some (.int .i64 ((rd_T43 l0 x4_1).f2)) ∧ w35.cell? ⟨(ad114.add ((x4_1).toNat * 4)).block, (ad114.add ((x4_1).toNat * 4)).off + 3, none⟩ = some (.bool false) := hS_
                   refine norm_ (a' := ?_) ?_ ?_
                   rotate_left
                   · simp only [putAll, Act.put, List.setIfInBounds_toArray, List.set_cons_zero, List.set_cons_succ]
                     rfl
                   refine one_ (i := 9) (N := some 30) #[T,T,T,T,T,T,T,T,T,T,F,T,T,T,T,T,T,F,F,T,T,T,T,T,T,F,F] rfl rfl (one_of HT_.out (by kernel_rfl)) (by decide) (fun K hK => ?_)
                   have hcv36 := own_string (P := Tryd.prog) Tryd.underlying33 Tryd.underlying5 Tryd.underlying9 (Kd.own_of_R HO117.out)
                   refine value_ (w1 := ?_) (v := ?_) (by rfl) rfl ?_ ?_
                   rotate_left 2
                   · go_simp
                     constructor
                     · rfl
                     · rfl
                   clear hcv36
                   refine hK.out _ _ ⟨(nC HB.out hw114_0 :), (nC HB.out hw114_1 :), (nC HB.out hw114_2 :), (nC HB.out hw114_3 :), (nC HB.out hw118_0 :), (nC HB.out hw118_1 :), (nC HB.out hw118_2 :), (nC HB.out hw118_3 :), (nC HB.out hw120_0 :), (nC HB.out hw120_1 :), (nC HB.out hw120_2 :), (nC HB.out hw120_3 :)⟩ (fun hHeld => ?_)
                   clear hK K
                   refine norm_ (a' := ?_) ?_ ?_
                   rotate_left
                   · show Act.put _ (some 30) _ = _
                     simp only [Act.put, List.setIfInBounds_toArray, List.set_cons_zero, List.set_cons_succ, i64_w, i32_w]
                     rfl
                   refine pU 10 (some 31) #[T,T,T,T,T,T,T,T,T,T,T,T,T,T,T,T,T,F,F,T,T,T,T,T,T,F,F] rfl rfl HT_.out ?_
                   refine pU 17 (some 38) #[T,T,T,T,T,T,T,T,T,T,T,T,T,T,T,T,T,T,F,T,T,T,T,T,T,F,F] rfl rfl HT_.out ?_
                   refine pU 18 (some 39) #[T,T,T,T,T,T,T,T,T,T,T,T,T,T,T,T,T,T,T,T,T,T,T,T,T,F,F] rfl rfl HT_.out ?_
                   exact norm_ (by first | (simp only [putAll, Act.put, List.setIfInBounds_toArray, List.set_cons_zero, List.set_cons_succ]; done) | (simp only [putAll, Act.put, List.setIfInBounds_toArray, List.set_cons_zero, List.set_cons_succ]; rfl)) (hJ8_9_16_24 (v116) _ ⟨hHeld, (nR HO117.out), (nH HB.out)⟩)
               · skip
                 rintro v116 w35 ⟨hS_, h0_, h1_⟩
                 have n0_ : Aside0 (Kd.R (Kd.int .u8) 5 w35 w.heap.size (fun _ => True) v116 y115) := ⟨h0_⟩
                 have n1_ : Aside0 (Below w.heap.size w w35) := ⟨h1_⟩
                 clear HB; clear h0_ h1_; have HO117 := n0_; have HB := n1_; clear n0_ n1_
                 have hHeld : w35.cell? (ad114.add ((x4_1).toNat * 4)) = some (.int .i64 ((rd_T43 l0 x4_1).f0)) ∧ w35.cell? ⟨(ad114.add ((x4_1).toNat * 4)).block, (ad114.add ((x4_1).toNat * 4)).off + 1, none⟩ = some (.int .i64 ((rd_T43 l0 x4_1).f1)) ∧ w35.cell? ⟨(ad114.add ((x4_1).toNat * 4)).block, (ad114.add ((x4_1).toNat * 4)).off + 2, none⟩ = some (.int .i64 ((rd_T43 l0 x4_1).f2)) ∧ w35.cell? ⟨(ad114.add ((x4_1).toNat * 4)).block, (ad114.add ((x4_1).toNat * 4)).off + 3, none⟩ = some (.bool false) ∧ w35.cell? (ad114.add ((x4_1).toNat * 4)) = some (.int .i64 ((rd_T43 l0 x4_1).f0)) ∧ w35.cell? ⟨(ad114.add ((x4_1).toNat * 4)).block, (ad114.add ((x4_1).toNat * 4)).off + 1, none⟩ = some (.int .i64 ((rd_T43 l0 x4_1).f1)) ∧ w35.cell? ⟨(ad114.add ((x4_1).toNat * 4)).block, (ad114.add ((x4_1).toNat * 4)).off + 2, none⟩ = some (.int .i64 ((rd_T43 l0 x4_1).f2)) ∧ w35.cell? ⟨(ad114.add ((x4_1).toNat * 4)).block, (ad114.add ((x4_1).toNat * 4)).off + 3, none⟩ = some (.bool false) ∧ w35.cell? (ad114.add ((x4_1).toNat * 4)) = some (.int .i64 ((rd_T43 l0 x4_1).f0)) ∧ w35.cell? ⟨(ad114.add ((x4_1).toNat * 4)).block, (ad114.add ((x4_1).toNat * 4)).off + 1, none⟩ = some (.int .i64 ((rd_T43 l0 x4_1).f1)) ∧ w35.cell? ⟨(ad114.add ((x4_1).toNat * 4)).block, (ad114.add ((x4_1).toNat * 4)).off + 2, none⟩ = some (.int .i64 ((rd_T43 l0 x4_1).f2)) ∧ w35.cell? ⟨(ad114.add ((x4_1).toNat * 4)).block, (ad114.add ((x4_1).toNat * 4)).off + 3, none⟩ = some (.bool false) := hS_
                 refine norm_ (a' := ?_) ?_ ?_
                 rotate_left
                 · simp only [putAll, Act.put, List.setIfInBounds_toArray, List.set_cons_zero, List.set_cons_succ]
                   rfl
                 refine one_ (i := 24) (N := some 45) #[T,T,T,T,T,T,T,T,T,T,T,T,T,T,T,T,T,T,T,T,T,T,T,T,T,F,F] rfl rfl (one_of HT_.out (by kernel_rfl)) (by decide) (fun K hK => ?_)
                 refine goes_ Tryd.func25 (by kernel_rfl) rfl #[.int .i64 ((rd_T43 l0 x4_1).f2)] (by rfl) rfl rfl (by (try simp only [List.map_toArray, List.map_cons, List.map_nil]); first | done | rfl | (simp only [List.length_drop, List.length_take]; rfl)) ?_
                 with_reducible refine (spec_l01Num.calls kj7 ((rd_T43 l0 x4_1).f2) t121 _ A17.out).mono ?_
                 rintro e w36 ⟨rfl, hb⟩
                 refine ⟨_, rfl, ?_⟩
                 have n0_ := Aside0.mk (Kd.R_below (nR HO117.out) hb)
                 have n1_ := Aside0.mk (below_step (nH HB.out) hb)
                 clear HO117; clear HB; have HO117 := n0_; have HB := n1_; clear n0_ n1_; (try clear hb); (try clear hb2); (try clear hk); (try clear hi)
                 refine hK.out _ _ ⟨(nC HB.out hw114_0 :), (nC HB.out hw114_1 :), (nC HB.out hw114_2 :), (nC HB.out hw114_3 :), (nC HB.out hw118_0 :), (nC HB.out hw118_1 :), (nC HB.out hw118_2 :), (nC HB.out hw118_3 :), (nC HB.out hw120_0 :), (nC HB.out hw120_1 :), (nC HB.out hw120_2 :), (nC HB.out hw120_3 :)⟩ (fun hHeld => ?_)
                 clear hK K
                 refine norm_ (a' := ?_) ?_ ?_
                 rotate_left
                 · show Act.put _ (some 45) _ = _
                   simp only [Act.put, List.setIfInBounds_toArray, List.set_cons_zero, List.set_cons_succ, i64_w, i32_w]
                   rfl
                 exact norm_ (by first | (simp only [putAll, Act.put, List.setIfInBounds_toArray, List.set_cons_zero, List.set_cons_succ]; done) | (simp only [putAll, Act.put, List.setIfInBounds_toArray, List.set_cons_zero, List.set_cons_succ]; rfl)) (hJ8_9_16_24 (v116) _ ⟨hHeld, (nR HO117.out), (nH HB.out)⟩)
             rintro v116 w36 ⟨hS_, h0_, h1_⟩
             have n0_ : Aside0 (Kd.R (Kd.int .u8) 5 w36 w.heap.size (fun _ => True) v116 y115) := ⟨h0_⟩
             have n1_ : Aside0 (Below w.heap.size w w36) := ⟨h1_⟩
             clear HB; clear h0_ h1_; have HO117 := n0_; have HB := n1_; clear n0_ n1_
             have hHeld : w36.cell? (ad114.add ((x4_1).toNat * 4)) = some (.int .i64 ((rd_T43 l0 x4_1).f0)) ∧ w36.cell? ⟨(ad114.add ((x4_1).toNat * 4)).block, (ad114.add ((x4_1).toNat * 4)).off + 1, none⟩ = some (.int .i64 ((rd_T43 l0 x4_1).f1)) ∧ w36.cell? ⟨(ad114.add ((x4_1).toNat * 4)).block, (ad114.add ((x4_1).toNat * 4)).off + 2, none⟩ = some (.int .i64 ((rd_T43 l0 x4_1).f2)) ∧ w36.cell? ⟨(ad114.add ((x4_1).toNat * 4)).block, (ad114.add ((x4_1).toNat * 4)).off + 3, none⟩ = some (.bool false) ∧ w36.cell? (ad114.add ((x4_1).toNat * 4)) = some (.int .i64 ((rd_T43 l0 x4_1).f0)) ∧ w36.cell? ⟨(ad114.add ((x4_1).toNat * 4)).block, (ad114.add ((x4_1).toNat * 4)).off + 1, none⟩ = some (.int .i64 ((rd_T43 l0 x4_1).f1)) ∧ w36.cell? ⟨(ad114.add ((x4_1).toNat * 4)).block, (ad114.add ((x4_1).toNat * 4)).off + 2, none⟩ = some (.int .i64 ((rd_T43 l0 x4_1).f2)) ∧ w36.cell? ⟨(ad114.add ((x4_1).toNat * 4)).block, (ad114.add ((x4_1).toNat * 4)).off + 3, none⟩ = some (.bool false) ∧ w36.cell? (ad114.add ((x4_1).toNat * 4)) = some (.int .i64 ((rd_T43 l0 x4_1).f0)) ∧ w36.cell? ⟨(ad114.add ((x4_1).toNat * 4)).block, (ad114.add ((x4_1).toNat * 4)).off + 1, none⟩ = some (.int .i64 ((rd_T43 l0 x4_1).f1)) ∧ w36.cell? ⟨(ad114.add ((x4_1).toNat * 4)).block, (ad114.add ((x4_1).toNat * 4)).off + 2, none⟩ = some (.int .i64 ((rd_T43 l0 x4_1).f2)) ∧ w36.cell? ⟨(ad114.add ((x4_1).toNat * 4)).block, (ad114.add ((x4_1).toNat * 4)).off + 3, none⟩ = some (.bool false) := hS_
             refine norm_ (a' := ?_) ?_ ?_
             rotate_left
             · simp only [putAll, Act.put, List.setIfInBounds_toArray, List.set_cons_zero, List.set_cons_succ]
               rfl
             refine pU 25 (some 46) #[T,T,T,T,T,T,T,T,T,T,T,T,T,T,T,T,T,T,T,T,T,T,T,T,T,T,F] rfl rfl HT_.out ?_
             refine pU 26 (some 3) #[T,T,T,T,T,T,T,T,T,T,T,T,T,T,T,T,T,T,T,T,T,T,T,T,T,T,T] rfl rfl HT_.out ?_
             refine done_ (done_of HT_.out (by kernel_rfl)) ?_
             have p122 : 0 ≤ (x4_1 : Int) := of_decide_eq_true nQ
             have q122 : x4_1 < (l0.length : Int) := of_decide_eq_true nQ
             obtain ⟨ad122, e122, hx122_0, hx122_1, hx122_2, hx122_3⟩ := at_T43 HR0.out x4_1 p122 q122
             (try rw [← Nbq19.out] at hx122_3)
             obtain rfl : ad114 = ad122 := (by injection e122)
             replace hx122_0 := (HB.out.cell (World.block_lt_of_cell? w _ hx122_0)).trans hx122_0
             replace hx122_1 := (HB.out.cell (World.block_lt_of_cell? w _ hx122_1)).trans hx122_1
             replace hx122_2 := (HB.out.cell (World.block_lt_of_cell? w _ hx122_2)).trans hx122_2
             replace hx122_3 := (HB.out.cell (World.block_lt_of_cell? w _ hx122_3)).trans hx122_3
             replace p122 := eq_true p122; replace q122 := eq_true q122
             try go_wp2
             go_roundg kj7
             case measure => have := HK1.out; have := HJ7.out; omega
             case rel => exact ⟨(((((x3_7 ++ (strOfNums y115)) ++ t119) ++ (⟨#[47]⟩ : ByteArray)) ++ t121) ++ (⟨#[62]⟩ : ByteArray)), (wrap64 (x4_1 + 1)), nS, nS, H', ⟨by have := HK1.out; have := HJ7.out; omega⟩, ⟨nH HB.out⟩⟩
       · rw [if_neg c7] at H
         have c7b0 : decide (x4_1 < (l0.length : Int)) = false := decide_eq_false c7
         clear c7
         by_cases c37 : (x3_1.size : Int) > 120
         · rw [if_pos c37] at H
           have c37b0 : decide (120 < (x3_1.size : Int)) = true := decide_eq_true c37
           have c37b1 : decide (120 < x3_1.size) = true := decide_eq_true (by omega)
           clear c37; obtain rfl := Option.some.inj H; go_wp2; go_ret
           exact ⟨by first | rfl | (simp [errW_none, errW_some] <;> rfl) | (simp [*, errW_none, errW_some] <;> first | rfl | (simp [wrap64]; done)), nH HB.out⟩
         · rw [if_neg c37] at H
           have c37b0 : decide (120 < (x3_1.size : Int)) = false := decide_eq_false c37
           have c37b1 : decide (120 < x3_1.size) = false := decide_eq_false (by omega)
           clear c37; obtain rfl := Option.some.inj H; go_wp2; go_ret
           exact ⟨by first | rfl | (simp [errW_none, errW_some] <;> rfl) | (simp [*, errW_none, errW_some] <;> first | rfl | (simp [wrap64]; done)), nH HB.out⟩
 · replace c3 := Bool.eq_false_iff.mpr c3
   subst c3
   have H1 : (some (⟨#[]⟩ : ByteArray)) = some r := by rw [if_neg (show ¬ (false = true) by decide)] at H; exact H
   clear H; have H := H1; clear H1; obtain rfl := Option.some.inj H
   go_enter Tryd.func7, Tryd.ntmps7
   go_wp2_with (first | ((with_reducible refine gate_callee (f := 24) rfl ?_); refine goesL_ (some 6) rfl rfl Tryd.func24 (by kernel_rfl) rfl #[.slice A0 l0.length c0] rfl (by (try simp only [List.map_toArray, List.map_cons, List.map_nil]); first | done | rfl | (simp only [List.length_drop, List.length_take]; rfl)) ?_; (with_reducible refine (spec_FormOk.calls k _ _ l0 false _ ?side1 ?side2 A2.out).mono ?_); (case side1 => repeat (first | exact HR0.out | (with_reducible refine Kd.C_alloc ?_ _) | (with_reducible refine Kd.C_drewN ?_ _) | (with_reducible refine Kd.C_drew ?_))); (case side2 => exact HC0.out); rintro e w38 ⟨rfl, hb⟩; refine ⟨_, rfl, ?_⟩; have n0_ := Aside0.mk (below_step (nH HB.out) hb); clear HB; have HB := n0_; clear n0_; (try clear hb); (try clear hb2); (try clear hk); (try clear hi)))
   go_ret
   exact ⟨by first | rfl | (simp [errW_none, errW_some] <;> rfl) | (simp [*, errW_none, errW_some] <;> first | rfl | (simp [wrap64]; done)), nH HB.out⟩
end Go.Proofs.YtnojpcmaalbdhaaDoor.P
