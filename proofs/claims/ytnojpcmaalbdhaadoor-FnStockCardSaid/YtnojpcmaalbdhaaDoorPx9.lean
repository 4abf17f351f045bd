/- Contracts of the functions of the program, each one with its plain Lean function; written by a program of the session out of the translation. -/
import Derived.Test.YtnojpcmaalbdhaaDoorNb
import Derived.Test.YtnojpcmaalbdhaaDoorS2
import Derived.Test.YtnojpcmaalbdhaaDoorPx0
import Derived.Test.YtnojpcmaalbdhaaDoorPx7
import Derived.Test.YtnojpcmaalbdhaaDoorPx8
namespace Go.Proofs.YtnojpcmaalbdhaaDoor.P
open Go.RowKit Go.Proofs.YtnojpcmaalbdhaaDoorW.PrintWords Go.Proofs.YtnojpcmaalbdhaaDoorW.PrintLast Go.Proofs.YtnojpcmaalbdhaaDoorW.PrintMore
attribute [local go_sem] max2_int min2_int max_two min_two max_three min_three max_four min_four   -- for this text's walks alone
set_option linter.unusedVariables false
set_option linter.unusedSimpArgs false
/-! ### impl_StockText: function 9 -/
theorem impl_StockText.mono_l : ∀ k, (∀ y0 y1 y2 y3, LeO (impl_StockText.l0 k y0 y1 y2 y3) (impl_StockText.l0 (k + 1) y0 y1 y2 y3))
 | 0 => fun _ _ _ _ r h => by simp [impl_StockText.l0] at h
 | k + 1 => by
  have ih0 := impl_StockText.mono_l k
  · intro y0 y1 y2 y3
    unfold impl_StockText.l0
    repeat' first
    | (with_reducible exact ih0 _ _ _ _)
    | (with_reducible exact LeO.refl _)
    | (with_reducible exact LeO.none _)
    | (with_reducible refine LeO.ite ?_ ?_)
    | (with_reducible refine LeO.bind ?_ (fun _ => ?_))
    | exact ih0 _ _ _ _
    | exact LeO.none _
    | refine LeO.ite ?_ ?_
    | refine LeO.bind ?_ (fun _ => ?_)
theorem impl_StockText.mono : ∀ a0 k, LeO (impl_StockText.f k a0) (impl_StockText.f (k + 1) a0) := by
 intro a0 k
 have ih0 := impl_StockText.mono_l k
 unfold impl_StockText.f
 repeat' first
  | (with_reducible exact ih0 _ _ _ _)
  | (with_reducible exact LeO.refl _)
  | (with_reducible exact LeO.none _)
  | (with_reducible refine LeO.ite ?_ ?_)
  | (with_reducible refine LeO.bind ?_ (fun _ => ?_))
  | exact ih0 _ _ _ _
  | exact LeO.none _
  | refine LeO.ite ?_ ?_
  | refine LeO.bind ?_ (fun _ => ?_)
def impl_StockText.T12 : Bool × List (List Nat × List Nat) := (true, [([], []), ([], []), ([], []), ([2], [2]), ([3], [3]), ([4], [4]), ([5], [5]), ([6], [6]), ([7], [7]), ([], []), ([9], [9]), ([10], [10]), ([8, 11], [8, 11]), ([12], [12]), ([], []), ([14], [14]), ([15, 11], [15]), ([13, 16], [13, 16]), ([], []), ([17, 18], [17, 18]), ([0, 1, 0, 1, 2, 3, 4, 5, 6, 7, 8, 9, 10, 11, 12, 13, 14, 15, 16, 17, 18, 19], [0, 1]), ([20, 19, 16, 0, 1, 2, 3, 4, 5, 6, 7, 8, 9, 10, 11, 12, 13, 14, 15, 16, 17, 18, 19], [19, 20])])
def impl_StockText.B12 : List Nat := [0, 0, 0, 4, 12, 28, 60, 124, 252, 0, 512, 1536, 4092, 8188, 0, 16384, 52736, 131068, 0, 524284, 1048575, 2097151]
theorem impl_StockText.tab12 : rtab .any (opsOf Tryd.f9 12) = impl_StockText.T12 := by kernel_rfl
theorem impl_StockText.bits12 : waitsOk impl_StockText.T12.2 impl_StockText.B12 = true := by kernel_rfl
set_option maxHeartbeats 8000000 in
set_option maxRecDepth 100000 in
theorem impl_StockText.calls (k : Nat) (A0 : Option Addr) (c0 : Nat) (l0 : List (S43)) (r : ByteArray) (w : World) (hr0 : Kd.C k43 w A0 l0.length l0) (hc0 : l0.length ≤ c0) (hT : Tb w) (h : impl_StockText.f k l0 = some r) :
 Calls Tryd.prog 9 #[.slice A0 l0.length c0] w fun e w' => e = .returned (.string r) ∧ Below w.heap.size w w' := by
 have HTB := Aside0.mk hT
 clear hT; have hu43 := Tryd.underlying43
 have HR0 := Aside0.mk hr0
 have HC0 := Aside0.mk hc0
 clear hr0 hc0
 have HB := Aside0.mk (Below.refl w.heap.size w)
 have H : ((impl_FormOk.f l0).bind fun t135 => (if t135 = true then (if (l0.length : Int) = 0 then (some (⟨#[45]⟩ : ByteArray)) else (if 0 ≤ (l0.length : Int) then (if ((l0.length : Int) : Int).toNat ≤ 17592186044416 then (impl_StockText.l0 k (List.replicate ((l0.length : Int) : Int).toNat (⟨#[]⟩ : ByteArray)) l0 (l0.length : Int) 0) else (none)) else (none))) else (some (⟨#[]⟩ : ByteArray)))) = some r := h
 clear h
 replace H := Option.bind_eq_some_iff.mp H
 obtain ⟨t135, A20, H⟩ := H
 replace H : (if t135 = true then (if (l0.length : Int) = 0 then (some (⟨#[45]⟩ : ByteArray)) else (if 0 ≤ (l0.length : Int) then (if ((l0.length : Int) : Int).toNat ≤ 17592186044416 then (impl_StockText.l0 k (List.replicate ((l0.length : Int) : Int).toNat (⟨#[]⟩ : ByteArray)) l0 (l0.length : Int) 0) else (none)) else (none))) else (some (⟨#[]⟩ : ByteArray))) = some r := H
 have A2 := Aside0.mk A20
 clear A20
 by_cases c3 : t135 = true
 · subst c3
   have H1 : (if (l0.length : Int) = 0 then (some (⟨#[45]⟩ : ByteArray)) else (if 0 ≤ (l0.length : Int) then (if ((l0.length : Int) : Int).toNat ≤ 17592186044416 then (impl_StockText.l0 k (List.replicate ((l0.length : Int) : Int).toNat (⟨#[]⟩ : ByteArray)) l0 (l0.length : Int) 0) else (none)) else (none))) = some r := by rw [if_pos rfl] at H; exact H
   clear H; have H := H1; clear H1
   by_cases c4 : (l0.length : Int) = 0
   · rw [if_pos c4] at H
     have c4b0 : ((l0.length : Int) == 0) = true := beq_iff_eq.mpr c4
     have c4b1 : ((l0.length : Int) != 0) = false := bne_eq_false_iff_eq.mpr c4
     clear c4; obtain rfl := Option.some.inj H
     go_enter Tryd.func9, Tryd.ntmps9
     go_wp2_with (first | ((with_reducible refine gate_callee (f := 20) rfl ?_); refine goesL_ (some 9) rfl rfl Tryd.func20 (by kernel_rfl) rfl #[.slice A0 l0.length c0] rfl (by (try simp only [List.map_toArray, List.map_cons, List.map_nil]); first | done | rfl | (simp only [List.length_drop, List.length_take]; rfl)) ?_; (with_reducible refine (impl_FormOk.calls _ _ l0 true _ ?side1 ?side2 A2.out).mono ?_); (case side1 => repeat (first | exact HR0.out | (with_reducible refine Kd.C_alloc ?_ _) | (with_reducible refine Kd.C_drewN ?_ _) | (with_reducible refine Kd.C_drew ?_))); (case side2 => exact HC0.out); rintro e w5 ⟨rfl, hb⟩; refine ⟨_, rfl, ?_⟩; have n0_ := Aside0.mk (below_step (nH HB.out) hb); clear HB; have HB := n0_; clear n0_; (try clear hb); (try clear hb2); (try clear hk); (try clear hi)))
     go_ret
     exact ⟨by first | rfl | (simp [errW_none, errW_some] <;> rfl) | (simp [*, errW_none, errW_some] <;> first | rfl | (simp [wrap64]; done)), nH HB.out⟩
   · rw [if_neg c4] at H
     have c4b0 : ((l0.length : Int) == 0) = false := beq_eq_false_iff_ne.mpr c4
     have c4b1 : ((l0.length : Int) != 0) = true := bne_iff_ne.mpr c4
     have c4b2 : ¬ (l0 = []) := fun h_ => c4 (by rw [h_]; rfl)
     by_cases c6 : 0 ≤ (l0.length : Int)
     rotate_left
     · (rw [if_neg c6] at H; exact absurd H (by simp))
     rw [if_pos c6] at H
     have c6b0 := eq_true c6
     have c6b1 : decide (0 ≤ (l0.length : Int)) = true := decide_eq_true c6
     clear c6
     by_cases c7 : ((l0.length : Int) : Int).toNat ≤ 17592186044416
     rotate_left
     · (rw [if_neg c7] at H; exact absurd H (by simp))
     rw [if_pos c7] at H
     have c7b0 := eq_true c7
     have c7b1 : decide (((l0.length : Int) : Int).toNat ≤ 17592186044416) = true := decide_eq_true c7
     clear c7
     obtain ⟨y136, hy136⟩ : ∃ y_ : List ByteArray, y_ = (List.replicate ((l0.length : Int) : Int).toNat (⟨#[]⟩ : ByteArray)) := ⟨_, rfl⟩
     replace H : (impl_StockText.l0 k y136 l0 (l0.length : Int) 0) = some r := by first | (rw [hy136]; with_reducible exact H) | (have H2_ := (Option.bind_some _ _).symm.trans H; rw [hy136]; with_reducible exact H2_) | (have H2_ := (Option.bind_some _ _).symm.trans H; with_reducible exact H2_) | with_reducible exact H | (rw [hy136]; exact H) | exact H
     have Ny136 := Aside0.mk hy136
     clear hy136
     have H' := Aside0.mk H
     clear H
     go_enter Tryd.func9, Tryd.ntmps9
     go_wp2_with (first | ((with_reducible refine gate_callee (f := 20) rfl ?_); refine goesL_ (some 9) rfl rfl Tryd.func20 (by kernel_rfl) rfl #[.slice A0 l0.length c0] rfl (by (try simp only [List.map_toArray, List.map_cons, List.map_nil]); first | done | rfl | (simp only [List.length_drop, List.length_take]; rfl)) ?_; (with_reducible refine (impl_FormOk.calls _ _ l0 true _ ?side1 ?side2 A2.out).mono ?_); (case side1 => repeat (first | exact HR0.out | (with_reducible refine Kd.C_alloc ?_ _) | (with_reducible refine Kd.C_drewN ?_ _) | (with_reducible refine Kd.C_drew ?_))); (case side2 => exact HC0.out); rintro e w8 ⟨rfl, hb⟩; refine ⟨_, rfl, ?_⟩; have n0_ := Aside0.mk (below_step (nH HB.out) hb); clear HB; have HB := n0_; clear n0_; (try clear hb); (try clear hb2); (try clear hk); (try clear hi)) | ((with_reducible refine gate_dst (N := 16) rfl ?_); refine Kd.R_make Kd.string _ 9 rfl (N := 16) rfl 47 _ _ rfl (l0.length : Int) rfl rfl Tryd.underlying47 (.string ⟨#[]⟩) 16 info9 rfl (by decide) (by omega) (⟨#[]⟩ : ByteArray) (ok := fun _ => True) (okp := fun _ => True) rfl (fun _ hk => hk) trivial (of_decide_eq_true nQ) (Nat.le_trans (Nat.mul_le_mul_right _ (of_decide_eq_true nQ : (l0.length : Int).toNat ≤ 17592186044416)) (by omega)) (Below.refl _ _) (Nat.le_refl _) ?_; intro v137 w9 ho10 hb hg_ hnew_; clear hg_ hnew_; (first | rw [← Ny136.out] at ho10 | (simp only [Int.reduceToNat] at ho10; rw [← Ny136.out] at ho10)); have n0_ := Aside0.mk (Kd.R_lower ho10 (below_size (nH HB.out))); have n1_ := Aside0.mk (below_step (nH HB.out) hb); clear HB; have HO138 := n0_; have HB := n1_; clear n0_ n1_; clear hb ho10))
     go_loopg [19] k (fun kq v19 w' => ∃ (x3_1 : List ByteArray) (x19_1 : Int), v19 = .int .i64 x19_1 ∧ Aside0 (impl_StockText.l0 kq x3_1 l0 (l0.length : Int) x19_1 = some r) ∧ Aside0 (kq ≤ k) ∧ Aside0 (Kd.R Kd.string 9 w' w.heap.size (fun _ => True) v137 x3_1) ∧ Aside0 (Below w.heap.size w w'))
     case atStart => exact ⟨(y136), (0), nS, H', ⟨Nat.le_refl _⟩, ⟨by (with_reducible repeat (first | apply Kd.R_alloc | apply Kd.R_drewN | apply Kd.R_drew)); exact HO138.out⟩, ⟨nH HB.out⟩⟩
     case round =>
      clear H'
      try clear c2; try clear p2; try clear c3; try clear c4; try clear c4b0; try clear c4b1; try clear c4b2; try clear c6; try clear c6b0; try clear c6b1; try clear p6; try clear c7; try clear c7b0; try clear c7b1; try clear c9
      obtain ⟨x3_1, x19_1, rfl, HA, HK1, HO_3, HB⟩ := hrel
      cases gk with
      | zero => exact absurd HA.out (by simp [impl_StockText.l0])
      | succ k1 =>
       have H := HA.out; clear HA
       simp only [impl_StockText.l0] at H
       by_cases c11 : x19_1 < (l0.length : Int)
       · rw [if_pos c11] at H
         have c11b0 : decide (x19_1 < (l0.length : Int)) = true := decide_eq_true c11
         clear c11
         by_cases c12 : 0 ≤ x19_1
         rotate_left
         · (rw [if_neg c12] at H; exact absurd H (by simp))
         rw [if_pos c12] at H
         have c12b0 : decide (0 ≤ x19_1) = true := decide_eq_true c12
         clear c12
         by_cases c13 : x19_1 < (l0.length : Int)
         rotate_left
         · (rw [if_neg c13] at H; exact absurd H (by simp))
         rw [if_pos c13] at H
         have c13b0 : decide (x19_1 < (l0.length : Int)) = true := decide_eq_true c13
         clear c13
         obtain ⟨bq14, hbq14⟩ : ∃ b_ : Bool, b_ = ((rd_T43 l0 x19_1).f3) := ⟨_, rfl⟩
         replace H : (if bq14 = true then ((some (([(65 + ((wrap64 (((rd_T43 l0 x19_1).f1) - 1)) % 256)) % 256] : List Int) : List Int)).bind fun y142 => ((strconv_Itoa_27.f ((rd_T43 l0 x19_1).f0)).bind fun t145 => (if (strOfNums y142).size + t145.size ≤ 9223372036854775807 then (if ((strOfNums y142) ++ t145).size + 1 ≤ 9223372036854775807 then ((strconv_Itoa_27.f ((rd_T43 l0 x19_1).f2)).bind fun t146 => (if (((strOfNums y142) ++ t145) ++ (⟨#[47]⟩ : ByteArray)).size + t146.size ≤ 9223372036854775807 then (if ((((strOfNums y142) ++ t145) ++ (⟨#[47]⟩ : ByteArray)) ++ t146).size + 1 ≤ 9223372036854775807 then (if x19_1 < (x3_1.length : Int) then (impl_StockText.l0 k1 (x3_1.set (x19_1 : Int).toNat (((((strOfNums y142) ++ t145) ++ (⟨#[47]⟩ : ByteArray)) ++ t146) ++ (⟨#[60]⟩ : ByteArray))) l0 (l0.length : Int) (wrap64 (x19_1 + 1))) else (none)) else (none)) else (none))) else (none)) else (none)))) else ((some (([(65 + ((wrap64 (((rd_T43 l0 x19_1).f1) - 1)) % 256)) % 256] : List Int) : List Int)).bind fun y148 => ((strconv_Itoa_27.f ((rd_T43 l0 x19_1).f0)).bind fun t151 => (if (strOfNums y148).size + t151.size ≤ 9223372036854775807 then (if ((strOfNums y148) ++ t151).size + 1 ≤ 9223372036854775807 then ((strconv_Itoa_27.f ((rd_T43 l0 x19_1).f2)).bind fun t152 => (if (((strOfNums y148) ++ t151) ++ (⟨#[47]⟩ : ByteArray)).size + t152.size ≤ 9223372036854775807 then (if ((((strOfNums y148) ++ t151) ++ (⟨#[47]⟩ : ByteArray)) ++ t152).size + 1 ≤ 9223372036854775807 then (if x19_1 < (x3_1.length : Int) then (impl_StockText.l0 k1 (x3_1.set (x19_1 : Int).toNat (((((strOfNums y148) ++ t151) ++ (⟨#[47]⟩ : ByteArray)) ++ t152) ++ (⟨#[62]⟩ : ByteArray))) l0 (l0.length : Int) (wrap64 (x19_1 + 1))) else (none)) else (none)) else (none))) else (none)) else (none))))) = some r := by rw [← hbq14] at H; exact H
         have Nbq14 := Aside0.mk hbq14
         clear hbq14
         by_cases c15 : bq14 = true
         · subst c15
           have H1 : ((some (([(65 + ((wrap64 (((rd_T43 l0 x19_1).f1) - 1)) % 256)) % 256] : List Int) : List Int)).bind fun y142 => ((strconv_Itoa_27.f ((rd_T43 l0 x19_1).f0)).bind fun t145 => (if (strOfNums y142).size + t145.size ≤ 9223372036854775807 then (if ((strOfNums y142) ++ t145).size + 1 ≤ 9223372036854775807 then ((strconv_Itoa_27.f ((rd_T43 l0 x19_1).f2)).bind fun t146 => (if (((strOfNums y142) ++ t145) ++ (⟨#[47]⟩ : ByteArray)).size + t146.size ≤ 9223372036854775807 then (if ((((strOfNums y142) ++ t145) ++ (⟨#[47]⟩ : ByteArray)) ++ t146).size + 1 ≤ 9223372036854775807 then (if x19_1 < (x3_1.length : Int) then (impl_StockText.l0 k1 (x3_1.set (x19_1 : Int).toNat (((((strOfNums y142) ++ t145) ++ (⟨#[47]⟩ : ByteArray)) ++ t146) ++ (⟨#[60]⟩ : ByteArray))) l0 (l0.length : Int) (wrap64 (x19_1 + 1))) else (none)) else (none)) else (none))) else (none)) else (none)))) = some r := by rw [if_pos rfl] at H; exact H
           clear H; have H := H1; clear H1
           obtain ⟨y142, hy142⟩ : ∃ y_ : List Int, y_ = (([(65 + ((wrap64 (((rd_T43 l0 x19_1).f1) - 1)) % 256)) % 256] : List Int)) := ⟨_, rfl⟩
           replace H : ((strconv_Itoa_27.f ((rd_T43 l0 x19_1).f0)).bind fun t145 => (if (strOfNums y142).size + t145.size ≤ 9223372036854775807 then (if ((strOfNums y142) ++ t145).size + 1 ≤ 9223372036854775807 then ((strconv_Itoa_27.f ((rd_T43 l0 x19_1).f2)).bind fun t146 => (if (((strOfNums y142) ++ t145) ++ (⟨#[47]⟩ : ByteArray)).size + t146.size ≤ 9223372036854775807 then (if ((((strOfNums y142) ++ t145) ++ (⟨#[47]⟩ : ByteArray)) ++ t146).size + 1 ≤ 9223372036854775807 then (if x19_1 < (x3_1.length : Int) then (impl_StockText.l0 k1 (x3_1.set (x19_1 : Int).toNat (((((strOfNums y142) ++ t145) ++ (⟨#[47]⟩ : ByteArray)) ++ t146) ++ (⟨#[60]⟩ : ByteArray))) l0 (l0.length : Int) (wrap64 (x19_1 + 1))) else (none)) else (none)) else (none))) else (none)) else (none))) = some r := by first | (rw [hy142]; with_reducible exact H) | (have H2_ := (Option.bind_some _ _).symm.trans H; rw [hy142]; with_reducible exact H2_) | (have H2_ := (Option.bind_some _ _).symm.trans H; with_reducible exact H2_) | with_reducible exact H | (rw [hy142]; exact H) | exact H
           have Ny142 := Aside0.mk hy142
           clear hy142
           replace H := Option.bind_eq_some_iff.mp H
           obtain ⟨t145, A160, H⟩ := H
           replace H : (if (strOfNums y142).size + t145.size ≤ 9223372036854775807 then (if ((strOfNums y142) ++ t145).size + 1 ≤ 9223372036854775807 then ((strconv_Itoa_27.f ((rd_T43 l0 x19_1).f2)).bind fun t146 => (if (((strOfNums y142) ++ t145) ++ (⟨#[47]⟩ : ByteArray)).size + t146.size ≤ 9223372036854775807 then (if ((((strOfNums y142) ++ t145) ++ (⟨#[47]⟩ : ByteArray)) ++ t146).size + 1 ≤ 9223372036854775807 then (if x19_1 < (x3_1.length : Int) then (impl_StockText.l0 k1 (x3_1.set (x19_1 : Int).toNat (((((strOfNums y142) ++ t145) ++ (⟨#[47]⟩ : ByteArray)) ++ t146) ++ (⟨#[60]⟩ : ByteArray))) l0 (l0.length : Int) (wrap64 (x19_1 + 1))) else (none)) else (none)) else (none))) else (none)) else (none)) = some r := H
           have A16 := Aside0.mk A160
           clear A160
           by_cases c17 : (strOfNums y142).size + t145.size ≤ 9223372036854775807
           rotate_left
           · (rw [if_neg c17] at H; exact absurd H (by simp))
           rw [if_pos c17] at H
           have c17b0 := eq_true c17
           have c17b1 : decide ((strOfNums y142).size + t145.size ≤ 9223372036854775807) = true := decide_eq_true c17
           try have c17b2 : (9223372036854775807 < (strOfNums y142).size + t145.size) = False := eq_false (Nat.not_lt.2 c17)
           by_cases c18 : ((strOfNums y142) ++ t145).size + 1 ≤ 9223372036854775807
           rotate_left
           · (rw [if_neg c18] at H; exact absurd H (by simp))
           rw [if_pos c18] at H
           have c18b0 := eq_true c18
           have c18b1 : decide (((strOfNums y142) ++ t145).size + 1 ≤ 9223372036854775807) = true := decide_eq_true c18
           try have c18b2 : (9223372036854775807 < ((strOfNums y142) ++ t145).size + 1) = False := eq_false (Nat.not_lt.2 c18)
           try have c18b3 : (9223372036854775807 < (strOfNums y142).size + t145.size + 1) = False := by have q := c18b2; simp only [ByteArray.size_append] at q; exact q
           replace H := Option.bind_eq_some_iff.mp H
           obtain ⟨t146, A190, H⟩ := H
           replace H : (if (((strOfNums y142) ++ t145) ++ (⟨#[47]⟩ : ByteArray)).size + t146.size ≤ 9223372036854775807 then (if ((((strOfNums y142) ++ t145) ++ (⟨#[47]⟩ : ByteArray)) ++ t146).size + 1 ≤ 9223372036854775807 then (if x19_1 < (x3_1.length : Int) then (impl_StockText.l0 k1 (x3_1.set (x19_1 : Int).toNat (((((strOfNums y142) ++ t145) ++ (⟨#[47]⟩ : ByteArray)) ++ t146) ++ (⟨#[60]⟩ : ByteArray))) l0 (l0.length : Int) (wrap64 (x19_1 + 1))) else (none)) else (none)) else (none)) = some r := H
           have A19 := Aside0.mk A190
           clear A190
           by_cases c20 : (((strOfNums y142) ++ t145) ++ (⟨#[47]⟩ : ByteArray)).size + t146.size ≤ 9223372036854775807
           rotate_left
           · (rw [if_neg c20] at H; exact absurd H (by simp))
           rw [if_pos c20] at H
           have c20b0 := eq_true c20
           have c20b1 : decide ((((strOfNums y142) ++ t145) ++ (⟨#[47]⟩ : ByteArray)).size + t146.size ≤ 9223372036854775807) = true := decide_eq_true c20
           try have c20b2 : (9223372036854775807 < (((strOfNums y142) ++ t145) ++ (⟨#[47]⟩ : ByteArray)).size + t146.size) = False := eq_false (Nat.not_lt.2 c20)
           try have c20b3 : (9223372036854775807 < (strOfNums y142).size + t145.size + 1 + t146.size) = False := by have q := c20b2; simp only [ByteArray.size_append] at q; exact q
           by_cases c21 : ((((strOfNums y142) ++ t145) ++ (⟨#[47]⟩ : ByteArray)) ++ t146).size + 1 ≤ 9223372036854775807
           rotate_left
           · (rw [if_neg c21] at H; exact absurd H (by simp))
           rw [if_pos c21] at H
           have c21b0 := eq_true c21
           have c21b1 : decide (((((strOfNums y142) ++ t145) ++ (⟨#[47]⟩ : ByteArray)) ++ t146).size + 1 ≤ 9223372036854775807) = true := decide_eq_true c21
           try have c21b2 : (9223372036854775807 < ((((strOfNums y142) ++ t145) ++ (⟨#[47]⟩ : ByteArray)) ++ t146).size + 1) = False := eq_false (Nat.not_lt.2 c21)
           try have c21b3 : (9223372036854775807 < (strOfNums y142).size + t145.size + 1 + t146.size + 1) = False := by have q := c21b2; simp only [ByteArray.size_append] at q; exact q
           by_cases c22 : x19_1 < (x3_1.length : Int)
           rotate_left
           · (rw [if_neg c22] at H; exact absurd H (by simp))
           rw [if_pos c22] at H
           have c22b0 : decide (x19_1 < (x3_1.length : Int)) = true := decide_eq_true c22
           clear c22
           obtain ⟨y147, hy147⟩ : ∃ y_ : List ByteArray, y_ = (x3_1.set (x19_1 : Int).toNat (((((strOfNums y142) ++ t145) ++ (⟨#[47]⟩ : ByteArray)) ++ t146) ++ (⟨#[60]⟩ : ByteArray))) := ⟨_, rfl⟩
           replace H : (impl_StockText.l0 k1 y147 l0 (l0.length : Int) (wrap64 (x19_1 + 1))) = some r := by first | (rw [hy147]; with_reducible exact H) | (have H2_ := (Option.bind_some _ _).symm.trans H; rw [hy147]; with_reducible exact H2_) | (have H2_ := (Option.bind_some _ _).symm.trans H; with_reducible exact H2_) | with_reducible exact H | (rw [hy147]; exact H) | exact H
           have Ny147 := Aside0.mk hy147
           clear hy147
           have H' := Aside0.mk H
           clear H
           have p140 : 0 ≤ (x19_1 : Int) := of_decide_eq_true nQ
           have q140 : x19_1 < (l0.length : Int) := of_decide_eq_true nQ
           obtain ⟨ad140, e140, hx140_0, hx140_1, hx140_2, hx140_3⟩ := at_T43 HR0.out x19_1 p140 q140
           (try rw [← Nbq14.out] at hx140_3)
           cases e140
           replace hx140_0 := (HB.out.cell (World.block_lt_of_cell? w _ hx140_0)).trans hx140_0
           replace hx140_1 := (HB.out.cell (World.block_lt_of_cell? w _ hx140_1)).trans hx140_1
           replace hx140_2 := (HB.out.cell (World.block_lt_of_cell? w _ hx140_2)).trans hx140_2
           replace hx140_3 := (HB.out.cell (World.block_lt_of_cell? w _ hx140_3)).trans hx140_3
           replace p140 := eq_true p140; replace q140 := eq_true q140
           try go_wp2_with (first | ((with_reducible refine gate_dst (N := 5) rfl ?_); refine box_event ?hg (N := 5) ?hd (cs := #[.int .i64 0, .int .i64 0, .int .i64 0, .bool false]) (t := 43) ?hr ?_; (case hd => rfl); (case hg => rfl); (case hr => first | (go_simp; done) | (go_simp; rfl)); intro gb141 hg w24 hbox hb; have n0_ := Aside0.mk (Kd.R_below (nR HO_3.out) hb); have n1_ := Aside0.mk (below_step (nH HB.out) hb); have n2_ := Aside0.mk (hbox); have n3_ := Aside0.mk ((by rw [hg]; exact (below_size (nH HB.out)) : w.heap.size ≤ gb141)); have n4_ := Aside0.mk ((by rw [hg]; exact (below_size (nH HB.out)) : w.heap.size ≤ gb141)); clear HO_3; clear HB; have HO_3 := n0_; have HB := n1_; have BK141 := n2_; have GW141 := n3_; have GE141 := n4_; clear n0_ n1_ n2_ n3_ n4_; clear hb hbox hg; have hcz25_0 : w24.cell? ⟨gb141, 0, none⟩ = some (.int .i64 0) := (blk_cell BK141.out 0).trans rfl; have hcz25_1 : w24.cell? ⟨gb141, 1, none⟩ = some (.int .i64 0) := (blk_cell BK141.out 1).trans rfl; have hcz25_2 : w24.cell? ⟨gb141, 2, none⟩ = some (.int .i64 0) := (blk_cell BK141.out 2).trans rfl; have hcz25_3 : w24.cell? ⟨gb141, 3, none⟩ = some (.bool false) := (blk_cell BK141.out 3).trans rfl; have hfz25_0 := blk_frozen BK141.out 0; have hfz25_1 := blk_frozen BK141.out 1; have hfz25_2 := blk_frozen BK141.out 2; have hfz25_3 := blk_frozen BK141.out 3))
           have n0_ : Aside0 (Kd.R Kd.string 9 ((((w24.setCell ⟨gb141, 0, none⟩ (.int .i64 ((rd_T43 l0 x19_1).f0))).setCell ⟨gb141, 1, none⟩ (.int .i64 ((rd_T43 l0 x19_1).f1))).setCell ⟨gb141, 2, none⟩ (.int .i64 ((rd_T43 l0 x19_1).f2))).setCell ⟨gb141, 3, none⟩ (.bool true)) w.heap.size (fun _ => True) v137 x3_1) := ⟨by (with_reducible repeat (first | apply Kd.R_alloc | apply Kd.R_drewN | apply Kd.R_drew)); exact Kd.R_mono (Kd.R_far (p := ⟨gb141, 3, none⟩) (Kd.R_far (p := ⟨gb141, 2, none⟩) (Kd.R_far (p := ⟨gb141, 1, none⟩) (Kd.R_far (p := ⟨gb141, 0, none⟩) (Kd.R_types HO_3.out BK141.out (by decide)) (fun _ hk => hk.2) (.int .i64 ((rd_T43 l0 x19_1).f0))) (fun _ hk => hk.2) (.int .i64 ((rd_T43 l0 x19_1).f1))) (fun _ hk => hk.2) (.int .i64 ((rd_T43 l0 x19_1).f2))) (fun _ hk => hk.2) (.bool true)) (fun _ hk => trivial)⟩
           have n1_ : Aside0 (((((w24.setCell ⟨gb141, 0, none⟩ (.int .i64 ((rd_T43 l0 x19_1).f0))).setCell ⟨gb141, 1, none⟩ (.int .i64 ((rd_T43 l0 x19_1).f1))).setCell ⟨gb141, 2, none⟩ (.int .i64 ((rd_T43 l0 x19_1).f2))).setCell ⟨gb141, 3, none⟩ (.bool true)).heap[gb141]? = some (.cells #[.int .i64 ((rd_T43 l0 x19_1).f0), .int .i64 ((rd_T43 l0 x19_1).f1), .int .i64 ((rd_T43 l0 x19_1).f2), .bool true] 43 (0, 0))) := ⟨by (with_reducible repeat (first | refine blk_drewN ?_ _ | refine blk_drew ?_ | refine blk_alloc ?_ _)); refine blk_put (cs := #[.int .i64 ((rd_T43 l0 x19_1).f0), .int .i64 ((rd_T43 l0 x19_1).f1), .int .i64 ((rd_T43 l0 x19_1).f2), .bool false]) ?_ 3 _ rfl; (with_reducible repeat (first | refine blk_drewN ?_ _ | refine blk_drew ?_ | refine blk_alloc ?_ _)); refine blk_put (cs := #[.int .i64 ((rd_T43 l0 x19_1).f0), .int .i64 ((rd_T43 l0 x19_1).f1), .int .i64 0, .bool false]) ?_ 2 _ rfl; (with_reducible repeat (first | refine blk_drewN ?_ _ | refine blk_drew ?_ | refine blk_alloc ?_ _)); refine blk_put (cs := #[.int .i64 ((rd_T43 l0 x19_1).f0), .int .i64 0, .int .i64 0, .bool false]) ?_ 1 _ rfl; (with_reducible repeat (first | refine blk_drewN ?_ _ | refine blk_drew ?_ | refine blk_alloc ?_ _)); refine blk_put (cs := #[.int .i64 0, .int .i64 0, .int .i64 0, .bool false]) ?_ 0 _ rfl; (with_reducible repeat (first | refine blk_drewN ?_ _ | refine blk_drew ?_ | refine blk_alloc ?_ _)); exact BK141.out⟩
           have n2_ : Aside0 (Below w.heap.size w ((((w24.setCell ⟨gb141, 0, none⟩ (.int .i64 ((rd_T43 l0 x19_1).f0))).setCell ⟨gb141, 1, none⟩ (.int .i64 ((rd_T43 l0 x19_1).f1))).setCell ⟨gb141, 2, none⟩ (.int .i64 ((rd_T43 l0 x19_1).f2))).setCell ⟨gb141, 3, none⟩ (.bool true))) := ⟨nH1 HB.out GE141.out⟩
           (try clear HO_3); (try clear BK141); (try clear HB)
           generalize ((((w24.setCell ⟨gb141, 0, none⟩ (.int .i64 ((rd_T43 l0 x19_1).f0))).setCell ⟨gb141, 1, none⟩ (.int .i64 ((rd_T43 l0 x19_1).f1))).setCell ⟨gb141, 2, none⟩ (.int .i64 ((rd_T43 l0 x19_1).f2))).setCell ⟨gb141, 3, none⟩ (.bool true)) = w26 at n0_ n1_ n2_ ⊢
           have HO_3 := n0_; have BK141 := n1_; have HB := n2_; clear n0_ n1_ n2_
           have n0_ := Aside0.mk (Kd.R_drew HO_3.out)
           have n1_ := Aside0.mk (blk_drew BK141.out)
           have n2_ := Aside0.mk (below_drew1 HB.out)
           clear HO_3; clear BK141; clear HB; have HO_3 := n0_; have BK141 := n1_; have HB := n2_; clear n0_ n1_ n2_
           refine start_ (n := 22) (S := fun w' => w'.cell? ⟨gb141, 0, none⟩ = some (.int .i64 ((rd_T43 l0 x19_1).f0)) ∧ w'.cell? ⟨gb141, 1, none⟩ = some (.int .i64 ((rd_T43 l0 x19_1).f1)) ∧ w'.cell? ⟨gb141, 2, none⟩ = some (.int .i64 ((rd_T43 l0 x19_1).f2)) ∧ w'.cell? ⟨gb141, 3, none⟩ = some (.bool true)) (ds := [21]) #[F,F,F,F,F,F,F,F,F,F,F,F,F,F,F,F,F,F,F,F,F,F] (by kernel_rfl) rfl rfl ⟨(blk_cell BK141.out 0).trans rfl, (blk_cell BK141.out 1).trans rfl, (blk_cell BK141.out 2).trans rfl, (blk_cell BK141.out 3).trans rfl⟩ (fun hHeld => ?_); refine with_tabW impl_StockText.tab12 impl_StockText.bits12 (fun HT_ HW_ => ?_)
           generalize w26.drew = w27 at HO_3 BK141 HB hHeld ⊢
           refine pU 0 (some 26) #[T,F,F,F,F,F,F,F,F,F,F,F,F,F,F,F,F,F,F,F,F,F] rfl rfl HT_.out ?_
           refine pU 1 (some 27) #[T,T,F,F,F,F,F,F,F,F,F,F,F,F,F,F,F,F,F,F,F,F] rfl rfl HT_.out ?_
           refine pU 2 (some 28) #[T,T,T,F,F,F,F,F,F,F,F,F,F,F,F,F,F,F,F,F,F,F] rfl rfl HT_.out ?_
           refine pU 9 (some 35) #[T,T,T,F,F,F,F,F,F,T,F,F,F,F,F,F,F,F,F,F,F,F] rfl rfl HT_.out ?_
           refine pU 14 (some 40) #[T,T,T,F,F,F,F,F,F,T,F,F,F,F,T,F,F,F,F,F,F,F] rfl rfl HT_.out ?_
           refine pU 18 (some 44) #[T,T,T,F,F,F,F,F,F,T,F,F,F,F,T,F,F,F,T,F,F,F] rfl rfl HT_.out ?_
           refine tU4 3 (some 29) #[T,T,T,T,F,F,F,F,F,T,F,F,F,F,T,F,F,F,T,F,F,F] rfl rfl HT_.out HW_.out hHeld ?_
           refine pU 4 (some 30) #[T,T,T,T,T,F,F,F,F,T,F,F,F,F,T,F,F,F,T,F,F,F] rfl rfl HT_.out ?_
           refine pU 5 (some 31) #[T,T,T,T,T,T,F,F,F,T,F,F,F,F,T,F,F,F,T,F,F,F] rfl rfl HT_.out ?_
           refine pU 6 (some 32) #[T,T,T,T,T,T,T,F,F,T,F,F,F,F,T,F,F,F,T,F,F,F] rfl rfl HT_.out ?_
           refine tU4 10 (some 36) #[T,T,T,T,T,T,T,F,F,T,T,F,F,F,T,F,F,F,T,F,F,F] rfl rfl HT_.out HW_.out hHeld ?_
           refine tU4 15 (some 41) #[T,T,T,T,T,T,T,F,F,T,T,F,F,F,T,T,F,F,T,F,F,F] rfl rfl HT_.out HW_.out hHeld ?_
           refine join_ (σ := Value) 4 #[T,T,T,T,T,T,T,T,T,T,T,T,T,T,T,T,T,F,T,F,F,F] (fun s_ => [(33, s_), (34, .string (strOfNums y142)), (37, .string t145), (42, .string t146), (38, .string ((strOfNums y142) ++ t145)), (39, .string (((strOfNums y142) ++ t145) ++ (⟨#[47]⟩ : ByteArray)))]) (fun s_ w' => (w'.cell? ⟨gb141, 0, none⟩ = some (.int .i64 ((rd_T43 l0 x19_1).f0)) ∧ w'.cell? ⟨gb141, 1, none⟩ = some (.int .i64 ((rd_T43 l0 x19_1).f1)) ∧ w'.cell? ⟨gb141, 2, none⟩ = some (.int .i64 ((rd_T43 l0 x19_1).f2)) ∧ w'.cell? ⟨gb141, 3, none⟩ = some (.bool true)) ∧ (Kd.R (Kd.int .u8) 5 w' w.heap.size (fun _ => True) s_ y142) ∧ (Kd.R Kd.string 9 w' w.heap.size (fun _ => True) v137 x3_1) ∧ (w'.heap[gb141]? = some (.cells #[.int .i64 ((rd_T43 l0 x19_1).f0), .int .i64 ((rd_T43 l0 x19_1).f1), .int .i64 ((rd_T43 l0 x19_1).f2), .bool true] 43 (0, 0))) ∧ (Below w.heap.size w w')) ?_ ?_
           rotate_left
           · intro hJ7_8_11_16
             refine join_ (σ := Value) 5 #[T,T,T,T,T,T,T,T,T,T,T,T,T,T,T,T,F,F,T,F,F,F] (fun s_ => [(33, s_), (34, .string (strOfNums y142)), (37, .string t145), (38, .string ((strOfNums y142) ++ t145)), (39, .string (((strOfNums y142) ++ t145) ++ (⟨#[47]⟩ : ByteArray)))]) (fun s_ w' => (w'.cell? ⟨gb141, 0, none⟩ = some (.int .i64 ((rd_T43 l0 x19_1).f0)) ∧ w'.cell? ⟨gb141, 1, none⟩ = some (.int .i64 ((rd_T43 l0 x19_1).f1)) ∧ w'.cell? ⟨gb141, 2, none⟩ = some (.int .i64 ((rd_T43 l0 x19_1).f2)) ∧ w'.cell? ⟨gb141, 3, none⟩ = some (.bool true)) ∧ (Kd.R (Kd.int .u8) 5 w' w.heap.size (fun _ => True) s_ y142) ∧ (Kd.R Kd.string 9 w' w.heap.size (fun _ => True) v137 x3_1) ∧ (w'.heap[gb141]? = some (.cells #[.int .i64 ((rd_T43 l0 x19_1).f0), .int .i64 ((rd_T43 l0 x19_1).f1), .int .i64 ((rd_T43 l0 x19_1).f2), .bool true] 43 (0, 0))) ∧ (Below w.heap.size w w')) ?_ ?_
             rotate_left
             · intro hJ7_8_11
               refine join_ (σ := Value) 7 #[T,T,T,T,T,T,T,T,F,T,T,T,F,F,T,T,T,F,T,F,F,F] (fun s_ => [(33, s_), (37, .string t145), (42, .string t146)]) (fun s_ w' => (w'.cell? ⟨gb141, 0, none⟩ = some (.int .i64 ((rd_T43 l0 x19_1).f0)) ∧ w'.cell? ⟨gb141, 1, none⟩ = some (.int .i64 ((rd_T43 l0 x19_1).f1)) ∧ w'.cell? ⟨gb141, 2, none⟩ = some (.int .i64 ((rd_T43 l0 x19_1).f2)) ∧ w'.cell? ⟨gb141, 3, none⟩ = some (.bool true)) ∧ (Kd.R (Kd.int .u8) 5 w' w.heap.size (fun _ => True) s_ y142) ∧ (Kd.R Kd.string 9 w' w.heap.size (fun _ => True) v137 x3_1) ∧ (w'.heap[gb141]? = some (.cells #[.int .i64 ((rd_T43 l0 x19_1).f0), .int .i64 ((rd_T43 l0 x19_1).f1), .int .i64 ((rd_T43 l0 x19_1).f2), .bool true] 43 (0, 0))) ∧ (Below w.heap.size w w')) ?_ ?_
               rotate_left
               · intro hJ7_11_16
                 refine join_ (σ := Value) 8 #[T,T,T,T,T,T,T,T,T,T,T,F,F,F,T,T,F,F,T,F,F,F] (fun s_ => [(33, s_), (34, .string (strOfNums y142))]) (fun s_ w' => (w'.cell? ⟨gb141, 0, none⟩ = some (.int .i64 ((rd_T43 l0 x19_1).f0)) ∧ w'.cell? ⟨gb141, 1, none⟩ = some (.int .i64 ((rd_T43 l0 x19_1).f1)) ∧ w'.cell? ⟨gb141, 2, none⟩ = some (.int .i64 ((rd_T43 l0 x19_1).f2)) ∧ w'.cell? ⟨gb141, 3, none⟩ = some (.bool true)) ∧ (Kd.R (Kd.int .u8) 5 w' w.heap.size (fun _ => True) s_ y142) ∧ (Kd.R Kd.string 9 w' w.heap.size (fun _ => True) v137 x3_1) ∧ (w'.heap[gb141]? = some (.cells #[.int .i64 ((rd_T43 l0 x19_1).f0), .int .i64 ((rd_T43 l0 x19_1).f1), .int .i64 ((rd_T43 l0 x19_1).f2), .bool true] 43 (0, 0))) ∧ (Below w.heap.size w w')) ?_ ?_
                 rotate_left
                 · intro hJ7_8
                   refine join_ (σ := Value) 8 #[T,T,T,T,T,T,T,T,F,T,T,T,F,F,T,T,F,F,T,F,F,F] (fun s_ => [(33, s_), (37, .string t145)]) (fun s_ w' => (w'.cell? ⟨gb141, 0, none⟩ = some (.int .i64 ((rd_T43 l0 x19_1).f0)) ∧ w'.cell? ⟨gb141, 1, none⟩ = some (.int .i64 ((rd_T43 l0 x19_1).f1)) ∧ w'.cell? ⟨gb141, 2, none⟩ = some (.int .i64 ((rd_T43 l0 x19_1).f2)) ∧ w'.cell? ⟨gb141, 3, none⟩ = some (.bool true)) ∧ (Kd.R (Kd.int .u8) 5 w' w.heap.size (fun _ => True) s_ y142) ∧ (Kd.R Kd.string 9 w' w.heap.size (fun _ => True) v137 x3_1) ∧ (w'.heap[gb141]? = some (.cells #[.int .i64 ((rd_T43 l0 x19_1).f0), .int .i64 ((rd_T43 l0 x19_1).f1), .int .i64 ((rd_T43 l0 x19_1).f2), .bool true] 43 (0, 0))) ∧ (Below w.heap.size w w')) ?_ ?_
                   rotate_left
                   · intro hJ7_11
                     refine join_ (σ := Unit) 8 #[T,T,T,T,T,T,T,F,F,T,T,T,F,F,T,T,T,F,T,F,F,F] (fun s_ => [(37, .string t145), (42, .string t146)]) (fun s_ w' => (w'.cell? ⟨gb141, 0, none⟩ = some (.int .i64 ((rd_T43 l0 x19_1).f0)) ∧ w'.cell? ⟨gb141, 1, none⟩ = some (.int .i64 ((rd_T43 l0 x19_1).f1)) ∧ w'.cell? ⟨gb141, 2, none⟩ = some (.int .i64 ((rd_T43 l0 x19_1).f2)) ∧ w'.cell? ⟨gb141, 3, none⟩ = some (.bool true)) ∧ (Kd.R Kd.string 9 w' w.heap.size (fun _ => True) v137 x3_1) ∧ (w'.heap[gb141]? = some (.cells #[.int .i64 ((rd_T43 l0 x19_1).f0), .int .i64 ((rd_T43 l0 x19_1).f1), .int .i64 ((rd_T43 l0 x19_1).f2), .bool true] 43 (0, 0))) ∧ (Below w.heap.size w w')) ?_ ?_
                     rotate_left
                     · intro hJ11_16
                       refine join_ (σ := Value) 9 #[T,T,T,T,T,T,T,T,F,T,T,F,F,F,T,T,F,F,T,F,F,F] (fun s_ => [(33, s_)]) (fun s_ w' => (w'.cell? ⟨gb141, 0, none⟩ = some (.int .i64 ((rd_T43 l0 x19_1).f0)) ∧ w'.cell? ⟨gb141, 1, none⟩ = some (.int .i64 ((rd_T43 l0 x19_1).f1)) ∧ w'.cell? ⟨gb141, 2, none⟩ = some (.int .i64 ((rd_T43 l0 x19_1).f2)) ∧ w'.cell? ⟨gb141, 3, none⟩ = some (.bool true)) ∧ (Kd.R (Kd.int .u8) 5 w' w.heap.size (fun _ => True) s_ y142) ∧ (Kd.R Kd.string 9 w' w.heap.size (fun _ => True) v137 x3_1) ∧ (w'.heap[gb141]? = some (.cells #[.int .i64 ((rd_T43 l0 x19_1).f0), .int .i64 ((rd_T43 l0 x19_1).f1), .int .i64 ((rd_T43 l0 x19_1).f2), .bool true] 43 (0, 0))) ∧ (Below w.heap.size w w')) ?_ ?_
                       rotate_left
                       · intro hJ7
                         refine join_ (σ := Unit) 9 #[T,T,T,T,T,T,T,F,F,T,T,T,F,F,T,T,F,F,T,F,F,F] (fun s_ => [(37, .string t145)]) (fun s_ w' => (w'.cell? ⟨gb141, 0, none⟩ = some (.int .i64 ((rd_T43 l0 x19_1).f0)) ∧ w'.cell? ⟨gb141, 1, none⟩ = some (.int .i64 ((rd_T43 l0 x19_1).f1)) ∧ w'.cell? ⟨gb141, 2, none⟩ = some (.int .i64 ((rd_T43 l0 x19_1).f2)) ∧ w'.cell? ⟨gb141, 3, none⟩ = some (.bool true)) ∧ (Kd.R Kd.string 9 w' w.heap.size (fun _ => True) v137 x3_1) ∧ (w'.heap[gb141]? = some (.cells #[.int .i64 ((rd_T43 l0 x19_1).f0), .int .i64 ((rd_T43 l0 x19_1).f1), .int .i64 ((rd_T43 l0 x19_1).f2), .bool true] 43 (0, 0))) ∧ (Below w.heap.size w w')) ?_ ?_
                         rotate_left
                         · intro hJ11
                           refine two_ (i := 7) (j := 11) (Ni := some 33) (Nj := some 37) #[T,T,T,T,T,T,T,T,F,T,T,F,F,F,T,T,F,F,T,F,F,F] #[T,T,T,T,T,T,T,F,F,T,T,T,F,F,T,T,F,F,T,F,F,F] rfl rfl rfl rfl (two_of HT_.out (by kernel_rfl)) (by decide) (by decide) (fun K hK => ?_) (fun K hK => ?_)
                           · skip
                             refine Kd.R_lit_step (Kd.int .u8) _ 5 ?hg (N := 33) ?hd (xs := ([(65 + ((wrap64 (((rd_T43 l0 x19_1).f1) - 1)) % 256)) % 256] : List Int)) (inner := [.int .u8 ((65 + ((wrap64 (((rd_T43 l0 x19_1).f1) - 1)) % 256)) % 256)]) (ok := fun _ => True) (okp := fun _ => True) ?hr ?hp (fun _ hk => hk) trivial (Below.refl _ _) (Nat.le_refl _) (by simp) ?_; (case hd => rfl); (case hg => rfl); (case hr => first | (go_simp; done) | (go_simp; rfl) | (go_simp; simp [IntKind.wrap_u8]; done)); (case hp => exact (Reps.one (show Kd.M (Kd.int .u8) _ _ _ ((65 + ((wrap64 (((rd_T43 l0 x19_1).f1) - 1)) % 256)) % 256) [.int .u8 ((65 + ((wrap64 (((rd_T43 l0 x19_1).f1) - 1)) % 256)) % 256)] from rfl) (Reps.none _ _)))
                             intro v143 w28 ho29 hb hg_ hnew_
                             clear hg_ hnew_
                             (first | rw [← Ny142.out] at ho29 | (simp only [Int.reduceToNat] at ho29; rw [← Ny142.out] at ho29))
                             have n0_ := Aside0.mk (Kd.R_below (nR HO_3.out) hb)
                             have n1_ := Aside0.mk (Kd.R_lower ho29 (below_size (nH1 HB.out GE141.out)))
                             have n2_ := Aside0.mk (blk_below (g := gb141) (o := .cells #[.int .i64 ((rd_T43 l0 x19_1).f0), .int .i64 ((rd_T43 l0 x19_1).f1), .int .i64 ((rd_T43 l0 x19_1).f2), .bool true] 43 (0, 0)) (nB BK141.out) hb)
                             have n3_ := Aside0.mk (below_step (nH1 HB.out GE141.out) hb)
                             clear HO_3; clear BK141; clear HB; have HO_3 := n0_; have HO144 := n1_; have BK141 := n2_; have HB := n3_; clear n0_ n1_ n2_ n3_; clear hb ho29
                             refine hK.out _ _ ⟨(blk_cell BK141.out 0).trans rfl, (blk_cell BK141.out 1).trans rfl, (blk_cell BK141.out 2).trans rfl, (blk_cell BK141.out 3).trans rfl⟩ (fun hHeld => ?_)
                             clear hK K
                             refine norm_ (a' := ?_) ?_ ?_
                             rotate_left
                             · show Act.put _ (some 33) _ = _
                               simp only [Act.put, List.setIfInBounds_toArray, List.set_cons_zero, List.set_cons_succ, i64_w, i32_w]
                               rfl
                             exact norm_ (by first | (simp only [putAll, Act.put, List.setIfInBounds_toArray, List.set_cons_zero, List.set_cons_succ]; done) | (simp only [putAll, Act.put, List.setIfInBounds_toArray, List.set_cons_zero, List.set_cons_succ]; rfl)) (hJ7 (v143) _ ⟨hHeld, (nR HO144.out), (nR HO_3.out), (nB BK141.out), (nH1 HB.out GE141.out)⟩)
                           · skip
                             refine goes_ Tryd.func27 (by kernel_rfl) rfl #[.int .i64 ((rd_T43 l0 x19_1).f0)] (by rfl) rfl rfl (by (try simp only [List.map_toArray, List.map_cons, List.map_nil]); first | done | rfl | (simp only [List.length_drop, List.length_take]; rfl)) ?_
                             with_reducible refine (strconv_Itoa_27.calls ((rd_T43 l0 x19_1).f0) t145 _ ?sideT A16.out).mono ?_
                             (case sideT => exact tb_on HTB.out (nH1 HB.out GE141.out))
                             rintro e w28 ⟨rfl, hb⟩
                             refine ⟨_, rfl, ?_⟩
                             have n0_ := Aside0.mk (Kd.R_below (nR HO_3.out) hb)
                             have n1_ := Aside0.mk (blk_below (g := gb141) (o := .cells #[.int .i64 ((rd_T43 l0 x19_1).f0), .int .i64 ((rd_T43 l0 x19_1).f1), .int .i64 ((rd_T43 l0 x19_1).f2), .bool true] 43 (0, 0)) (nB BK141.out) hb)
                             have n2_ := Aside0.mk (below_step (nH1 HB.out GE141.out) hb)
                             clear HO_3; clear BK141; clear HB; have HO_3 := n0_; have BK141 := n1_; have HB := n2_; clear n0_ n1_ n2_; (try clear hb); (try clear hb2); (try clear hk); (try clear hi)
                             refine hK.out _ _ ⟨(blk_cell BK141.out 0).trans rfl, (blk_cell BK141.out 1).trans rfl, (blk_cell BK141.out 2).trans rfl, (blk_cell BK141.out 3).trans rfl⟩ (fun hHeld => ?_)
                             clear hK K
                             refine norm_ (a' := ?_) ?_ ?_
                             rotate_left
                             · show Act.put _ (some 37) _ = _
                               simp only [Act.put, List.setIfInBounds_toArray, List.set_cons_zero, List.set_cons_succ, i64_w, i32_w]
                               rfl
                             exact norm_ (by first | (simp only [putAll, Act.put, List.setIfInBounds_toArray, List.set_cons_zero, List.set_cons_succ]; done) | (simp only [putAll, Act.put, List.setIfInBounds_toArray, List.set_cons_zero, List.set_cons_succ]; rfl)) (hJ11 () _ ⟨hHeld, (nR HO_3.out), (nB BK141.out), (nH1 HB.out GE141.out)⟩)
                         · skip
                           rintro _ w29 ⟨hS_, h0_, h1_, h2_⟩
                           have n0_ : Aside0 (Kd.R Kd.string 9 w29 w.heap.size (fun _ => True) v137 x3_1) := ⟨h0_⟩
                           have n1_ : Aside0 (w29.heap[gb141]? = some (.cells #[.int .i64 ((rd_T43 l0 x19_1).f0), .int .i64 ((rd_T43 l0 x19_1).f1), .int .i64 ((rd_T43 l0 x19_1).f2), .bool true] 43 (0, 0))) := ⟨h1_⟩
                           have n2_ : Aside0 (Below w.heap.size w w29) := ⟨h2_⟩
                           clear HO_3; clear BK141; clear HB; clear h0_ h1_ h2_; have HO_3 := n0_; have BK141 := n1_; have HB := n2_; clear n0_ n1_ n2_
                           have hHeld : w29.cell? ⟨gb141, 0, none⟩ = some (.int .i64 ((rd_T43 l0 x19_1).f0)) ∧ w29.cell? ⟨gb141, 1, none⟩ = some (.int .i64 ((rd_T43 l0 x19_1).f1)) ∧ w29.cell? ⟨gb141, 2, none⟩ = some (.int .i64 ((rd_T43 l0 x19_1).f2)) ∧ w29.cell? ⟨gb141, 3, none⟩ = some (.bool true) := hS_
                           refine norm_ (a' := ?_) ?_ ?_
                           rotate_left
                           · simp only [putAll, Act.put, List.setIfInBounds_toArray, List.set_cons_zero, List.set_cons_succ]
                             rfl
                           refine two_ (i := 7) (j := 16) (Ni := some 33) (Nj := some 42) #[T,T,T,T,T,T,T,T,F,T,T,T,F,F,T,T,F,F,T,F,F,F] #[T,T,T,T,T,T,T,F,F,T,T,T,F,F,T,T,T,F,T,F,F,F] rfl rfl rfl rfl (two_of HT_.out (by kernel_rfl)) (by decide) (by decide) (fun K hK => ?_) (fun K hK => ?_)
                           · skip
                             refine Kd.R_lit_step (Kd.int .u8) _ 5 ?hg (N := 33) ?hd (xs := ([(65 + ((wrap64 (((rd_T43 l0 x19_1).f1) - 1)) % 256)) % 256] : List Int)) (inner := [.int .u8 ((65 + ((wrap64 (((rd_T43 l0 x19_1).f1) - 1)) % 256)) % 256)]) (ok := fun _ => True) (okp := fun _ => True) ?hr ?hp (fun _ hk => hk) trivial (Below.refl _ _) (Nat.le_refl _) (by simp) ?_; (case hd => rfl); (case hg => rfl); (case hr => first | (go_simp; done) | (go_simp; rfl) | (go_simp; simp [IntKind.wrap_u8]; done)); (case hp => exact (Reps.one (show Kd.M (Kd.int .u8) _ _ _ ((65 + ((wrap64 (((rd_T43 l0 x19_1).f1) - 1)) % 256)) % 256) [.int .u8 ((65 + ((wrap64 (((rd_T43 l0 x19_1).f1) - 1)) % 256)) % 256)] from rfl) (Reps.none _ _)))
                             intro v143 w30 ho31 hb hg_ hnew_
                             clear hg_ hnew_
                             (first | rw [← Ny142.out] at ho31 | (simp only [Int.reduceToNat] at ho31; rw [← Ny142.out] at ho31))
                             have n0_ := Aside0.mk (Kd.R_below (nR HO_3.out) hb)
                             have n1_ := Aside0.mk (Kd.R_lower ho31 (below_size (nH1 HB.out GE141.out)))
                             have n2_ := Aside0.mk (blk_below (g := gb141) (o := .cells #[.int .i64 ((rd_T43 l0 x19_1).f0), .int .i64 ((rd_T43 l0 x19_1).f1), .int .i64 ((rd_T43 l0 x19_1).f2), .bool true] 43 (0, 0)) (nB BK141.out) hb)
                             have n3_ := Aside0.mk (below_step (nH1 HB.out GE141.out) hb)
                             clear HO_3; clear BK141; clear HB; have HO_3 := n0_; have HO144 := n1_; have BK141 := n2_; have HB := n3_; clear n0_ n1_ n2_ n3_; clear hb ho31
                             refine hK.out _ _ ⟨(blk_cell BK141.out 0).trans rfl, (blk_cell BK141.out 1).trans rfl, (blk_cell BK141.out 2).trans rfl, (blk_cell BK141.out 3).trans rfl⟩ (fun hHeld => ?_)
                             clear hK K
                             refine norm_ (a' := ?_) ?_ ?_
                             rotate_left
                             · show Act.put _ (some 33) _ = _
                               simp only [Act.put, List.setIfInBounds_toArray, List.set_cons_zero, List.set_cons_succ, i64_w, i32_w]
                               rfl
                             exact norm_ (by first | (simp only [putAll, Act.put, List.setIfInBounds_toArray, List.set_cons_zero, List.set_cons_succ]; done) | (simp only [putAll, Act.put, List.setIfInBounds_toArray, List.set_cons_zero, List.set_cons_succ]; rfl)) (hJ7_11 (v143) _ ⟨hHeld, (nR HO144.out), (nR HO_3.out), (nB BK141.out), (nH1 HB.out GE141.out)⟩)
                           · skip
                             refine goes_ Tryd.func27 (by kernel_rfl) rfl #[.int .i64 ((rd_T43 l0 x19_1).f2)] (by rfl) rfl rfl (by (try simp only [List.map_toArray, List.map_cons, List.map_nil]); first | done | rfl | (simp only [List.length_drop, List.length_take]; rfl)) ?_
                             with_reducible refine (strconv_Itoa_27.calls ((rd_T43 l0 x19_1).f2) t146 _ ?sideT A19.out).mono ?_
                             (case sideT => exact tb_on HTB.out (nH1 HB.out GE141.out))
                             rintro e w30 ⟨rfl, hb⟩
                             refine ⟨_, rfl, ?_⟩
                             have n0_ := Aside0.mk (Kd.R_below (nR HO_3.out) hb)
                             have n1_ := Aside0.mk (blk_below (g := gb141) (o := .cells #[.int .i64 ((rd_T43 l0 x19_1).f0), .int .i64 ((rd_T43 l0 x19_1).f1), .int .i64 ((rd_T43 l0 x19_1).f2), .bool true] 43 (0, 0)) (nB BK141.out) hb)
                             have n2_ := Aside0.mk (below_step (nH1 HB.out GE141.out) hb)
                             clear HO_3; clear BK141; clear HB; have HO_3 := n0_; have BK141 := n1_; have HB := n2_; clear n0_ n1_ n2_; (try clear hb); (try clear hb2); (try clear hk); (try clear hi)
                             refine hK.out _ _ ⟨(blk_cell BK141.out 0).trans rfl, (blk_cell BK141.out 1).trans rfl, (blk_cell BK141.out 2).trans rfl, (blk_cell BK141.out 3).trans rfl⟩ (fun hHeld => ?_)
                             clear hK K
                             refine norm_ (a' := ?_) ?_ ?_
                             rotate_left
                             · show Act.put _ (some 42) _ = _
                               simp only [Act.put, List.setIfInBounds_toArray, List.set_cons_zero, List.set_cons_succ, i64_w, i32_w]
                               rfl
                             exact norm_ (by first | (simp only [putAll, Act.put, List.setIfInBounds_toArray, List.set_cons_zero, List.set_cons_succ]; done) | (simp only [putAll, Act.put, List.setIfInBounds_toArray, List.set_cons_zero, List.set_cons_succ]; rfl)) (hJ11_16 () _ ⟨hHeld, (nR HO_3.out), (nB BK141.out), (nH1 HB.out GE141.out)⟩)
                       · skip
                         rintro v143 w30 ⟨hS_, h0_, h1_, h2_, h3_⟩
                         have n0_ : Aside0 (Kd.R (Kd.int .u8) 5 w30 w.heap.size (fun _ => True) v143 y142) := ⟨h0_⟩
                         have n1_ : Aside0 (Kd.R Kd.string 9 w30 w.heap.size (fun _ => True) v137 x3_1) := ⟨h1_⟩
                         have n2_ : Aside0 (w30.heap[gb141]? = some (.cells #[.int .i64 ((rd_T43 l0 x19_1).f0), .int .i64 ((rd_T43 l0 x19_1).f1), .int .i64 ((rd_T43 l0 x19_1).f2), .bool true] 43 (0, 0))) := ⟨h2_⟩
                         have n3_ : Aside0 (Below w.heap.size w w30) := ⟨h3_⟩
                         clear HO_3; clear BK141; clear HB; clear h0_ h1_ h2_ h3_; have HO144 := n0_; have HO_3 := n1_; have BK141 := n2_; have HB := n3_; clear n0_ n1_ n2_ n3_
                         have hHeld : w30.cell? ⟨gb141, 0, none⟩ = some (.int .i64 ((rd_T43 l0 x19_1).f0)) ∧ w30.cell? ⟨gb141, 1, none⟩ = some (.int .i64 ((rd_T43 l0 x19_1).f1)) ∧ w30.cell? ⟨gb141, 2, none⟩ = some (.int .i64 ((rd_T43 l0 x19_1).f2)) ∧ w30.cell? ⟨gb141, 3, none⟩ = some (.bool true) := hS_
                         refine norm_ (a' := ?_) ?_ ?_
                         rotate_left
                         · simp only [putAll, Act.put, List.setIfInBounds_toArray, List.set_cons_zero, List.set_cons_succ]
                           rfl
                         refine two_ (i := 8) (j := 11) (Ni := some 34) (Nj := some 37) #[T,T,T,T,T,T,T,T,T,T,T,F,F,F,T,T,F,F,T,F,F,F] #[T,T,T,T,T,T,T,T,F,T,T,T,F,F,T,T,F,F,T,F,F,F] rfl rfl rfl rfl (two_of HT_.out (by kernel_rfl)) (by decide) (by decide) (fun K hK => ?_) (fun K hK => ?_)
                         · skip
                           have hcv31 := own_string (P := Tryd.prog) Tryd.underlying33 Tryd.underlying5 Tryd.underlying9 (Kd.own_of_R HO144.out)
                           refine value_ (w1 := ?_) (v := ?_) (by rfl) rfl ?_ ?_
                           rotate_left 2
                           · go_simp
                             constructor
                             · rfl
                             · rfl
                           clear hcv31
                           refine hK.out _ _ ⟨(blk_cell BK141.out 0).trans rfl, (blk_cell BK141.out 1).trans rfl, (blk_cell BK141.out 2).trans rfl, (blk_cell BK141.out 3).trans rfl⟩ (fun hHeld => ?_)
                           clear hK K
                           refine norm_ (a' := ?_) ?_ ?_
                           rotate_left
                           · show Act.put _ (some 34) _ = _
                             simp only [Act.put, List.setIfInBounds_toArray, List.set_cons_zero, List.set_cons_succ, i64_w, i32_w]
                             rfl
                           exact norm_ (by first | (simp only [putAll, Act.put, List.setIfInBounds_toArray, List.set_cons_zero, List.set_cons_succ]; done) | (simp only [putAll, Act.put, List.setIfInBounds_toArray, List.set_cons_zero, List.set_cons_succ]; rfl)) (hJ7_8 (v143) _ ⟨hHeld, (nR HO144.out), (nR HO_3.out), (nB BK141.out), (nH1 HB.out GE141.out)⟩)
                         · skip
                           refine goes_ Tryd.func27 (by kernel_rfl) rfl #[.int .i64 ((rd_T43 l0 x19_1).f0)] (by rfl) rfl rfl (by (try simp only [List.map_toArray, List.map_cons, List.map_nil]); first | done | rfl | (simp only [List.length_drop, List.length_take]; rfl)) ?_
                           with_reducible refine (strconv_Itoa_27.calls ((rd_T43 l0 x19_1).f0) t145 _ ?sideT A16.out).mono ?_
                           (case sideT => exact tb_on HTB.out (nH1 HB.out GE141.out))
                           rintro e w31 ⟨rfl, hb⟩
                           refine ⟨_, rfl, ?_⟩
                           have n0_ := Aside0.mk (Kd.R_below (nR HO_3.out) hb)
                           have n1_ := Aside0.mk (Kd.R_below (nR HO144.out) hb)
                           have n2_ := Aside0.mk (blk_below (g := gb141) (o := .cells #[.int .i64 ((rd_T43 l0 x19_1).f0), .int .i64 ((rd_T43 l0 x19_1).f1), .int .i64 ((rd_T43 l0 x19_1).f2), .bool true] 43 (0, 0)) (nB BK141.out) hb)
                           have n3_ := Aside0.mk (below_step (nH1 HB.out GE141.out) hb)
                           clear HO_3; clear HO144; clear BK141; clear HB; have HO_3 := n0_; have HO144 := n1_; have BK141 := n2_; have HB := n3_; clear n0_ n1_ n2_ n3_; (try clear hb); (try clear hb2); (try clear hk); (try clear hi)
                           refine hK.out _ _ ⟨(blk_cell BK141.out 0).trans rfl, (blk_cell BK141.out 1).trans rfl, (blk_cell BK141.out 2).trans rfl, (blk_cell BK141.out 3).trans rfl⟩ (fun hHeld => ?_)
                           clear hK K
                           refine norm_ (a' := ?_) ?_ ?_
                           rotate_left
                           · show Act.put _ (some 37) _ = _
                             simp only [Act.put, List.setIfInBounds_toArray, List.set_cons_zero, List.set_cons_succ, i64_w, i32_w]
                             rfl
                           exact norm_ (by first | (simp only [putAll, Act.put, List.setIfInBounds_toArray, List.set_cons_zero, List.set_cons_succ]; done) | (simp only [putAll, Act.put, List.setIfInBounds_toArray, List.set_cons_zero, List.set_cons_succ]; rfl)) (hJ7_11 (v143) _ ⟨hHeld, (nR HO144.out), (nR HO_3.out), (nB BK141.out), (nH1 HB.out GE141.out)⟩)
                     · skip
                       rintro _ w30 ⟨hS_, h0_, h1_, h2_⟩
                       have n0_ : Aside0 (Kd.R Kd.string 9 w30 w.heap.size (fun _ => True) v137 x3_1) := ⟨h0_⟩
                       have n1_ : Aside0 (w30.heap[gb141]? = some (.cells #[.int .i64 ((rd_T43 l0 x19_1).f0), .int .i64 ((rd_T43 l0 x19_1).f1), .int .i64 ((rd_T43 l0 x19_1).f2), .bool true] 43 (0, 0))) := ⟨h1_⟩
                       have n2_ : Aside0 (Below w.heap.size w w30) := ⟨h2_⟩
                       clear HO_3; clear BK141; clear HB; clear h0_ h1_ h2_; have HO_3 := n0_; have BK141 := n1_; have HB := n2_; clear n0_ n1_ n2_
                       have hHeld : w30.cell? ⟨gb141, 0, none⟩ = some (.int .i64 ((rd_T43 l0 x19_1).f0)) ∧ w30.cell? ⟨gb141, 1, none⟩ = some (.int .i64 ((rd_T43 l0 x19_1).f1)) ∧ w30.cell? ⟨gb141, 2, none⟩ = some (.int .i64 ((rd_T43 l0 x19_1).f2)) ∧ w30.cell? ⟨gb141, 3, none⟩ = some (.bool true) := hS_
                       refine norm_ (a' := ?_) ?_ ?_
                       rotate_left
                       · simp only [putAll, Act.put, List.setIfInBounds_toArray, List.set_cons_zero, List.set_cons_succ]
                         rfl
                       refine one_ (i := 7) (N := some 33) #[T,T,T,T,T,T,T,T,F,T,T,T,F,F,T,T,T,F,T,F,F,F] rfl rfl (one_of HT_.out (by kernel_rfl)) (by decide) (fun K hK => ?_)
                       refine Kd.R_lit_step (Kd.int .u8) _ 5 ?hg (N := 33) ?hd (xs := ([(65 + ((wrap64 (((rd_T43 l0 x19_1).f1) - 1)) % 256)) % 256] : List Int)) (inner := [.int .u8 ((65 + ((wrap64 (((rd_T43 l0 x19_1).f1) - 1)) % 256)) % 256)]) (ok := fun _ => True) (okp := fun _ => True) ?hr ?hp (fun _ hk => hk) trivial (Below.refl _ _) (Nat.le_refl _) (by simp) ?_; (case hd => rfl); (case hg => rfl); (case hr => first | (go_simp; done) | (go_simp; rfl) | (go_simp; simp [IntKind.wrap_u8]; done)); (case hp => exact (Reps.one (show Kd.M (Kd.int .u8) _ _ _ ((65 + ((wrap64 (((rd_T43 l0 x19_1).f1) - 1)) % 256)) % 256) [.int .u8 ((65 + ((wrap64 (((rd_T43 l0 x19_1).f1) - 1)) % 256)) % 256)] from rfl) (Reps.none _ _)))
                       intro v143 w31 ho32 hb hg_ hnew_
                       clear hg_ hnew_
                       (first | rw [← Ny142.out] at ho32 | (simp only [Int.reduceToNat] at ho32; rw [← Ny142.out] at ho32))
                       have n0_ := Aside0.mk (Kd.R_below (nR HO_3.out) hb)
                       have n1_ := Aside0.mk (Kd.R_lower ho32 (below_size (nH1 HB.out GE141.out)))
                       have n2_ := Aside0.mk (blk_below (g := gb141) (o := .cells #[.int .i64 ((rd_T43 l0 x19_1).f0), .int .i64 ((rd_T43 l0 x19_1).f1), .int .i64 ((rd_T43 l0 x19_1).f2), .bool true] 43 (0, 0)) (nB BK141.out) hb)
                       have n3_ := Aside0.mk (below_step (nH1 HB.out GE141.out) hb)
                       clear HO_3; clear BK141; clear HB; have HO_3 := n0_; have HO144 := n1_; have BK141 := n2_; have HB := n3_; clear n0_ n1_ n2_ n3_; clear hb ho32
                       refine hK.out _ _ ⟨(blk_cell BK141.out 0).trans rfl, (blk_cell BK141.out 1).trans rfl, (blk_cell BK141.out 2).trans rfl, (blk_cell BK141.out 3).trans rfl⟩ (fun hHeld => ?_)
                       clear hK K
                       refine norm_ (a' := ?_) ?_ ?_
                       rotate_left
                       · show Act.put _ (some 33) _ = _
                         simp only [Act.put, List.setIfInBounds_toArray, List.set_cons_zero, List.set_cons_succ, i64_w, i32_w]
                         rfl
                       exact norm_ (by first | (simp only [putAll, Act.put, List.setIfInBounds_toArray, List.set_cons_zero, List.set_cons_succ]; done) | (simp only [putAll, Act.put, List.setIfInBounds_toArray, List.set_cons_zero, List.set_cons_succ]; rfl)) (hJ7_11_16 (v143) _ ⟨hHeld, (nR HO144.out), (nR HO_3.out), (nB BK141.out), (nH1 HB.out GE141.out)⟩)
                   · skip
                     rintro v143 w31 ⟨hS_, h0_, h1_, h2_, h3_⟩
                     have n0_ : Aside0 (Kd.R (Kd.int .u8) 5 w31 w.heap.size (fun _ => True) v143 y142) := ⟨h0_⟩
                     have n1_ : Aside0 (Kd.R Kd.string 9 w31 w.heap.size (fun _ => True) v137 x3_1) := ⟨h1_⟩
                     have n2_ : Aside0 (w31.heap[gb141]? = some (.cells #[.int .i64 ((rd_T43 l0 x19_1).f0), .int .i64 ((rd_T43 l0 x19_1).f1), .int .i64 ((rd_T43 l0 x19_1).f2), .bool true] 43 (0, 0))) := ⟨h2_⟩
                     have n3_ : Aside0 (Below w.heap.size w w31) := ⟨h3_⟩
                     clear HO_3; clear BK141; clear HB; clear h0_ h1_ h2_ h3_; have HO144 := n0_; have HO_3 := n1_; have BK141 := n2_; have HB := n3_; clear n0_ n1_ n2_ n3_
                     have hHeld : w31.cell? ⟨gb141, 0, none⟩ = some (.int .i64 ((rd_T43 l0 x19_1).f0)) ∧ w31.cell? ⟨gb141, 1, none⟩ = some (.int .i64 ((rd_T43 l0 x19_1).f1)) ∧ w31.cell? ⟨gb141, 2, none⟩ = some (.int .i64 ((rd_T43 l0 x19_1).f2)) ∧ w31.cell? ⟨gb141, 3, none⟩ = some (.bool true) := hS_
                     refine norm_ (a' := ?_) ?_ ?_
                     rotate_left
                     · simp only [putAll, Act.put, List.setIfInBounds_toArray, List.set_cons_zero, List.set_cons_succ]
                       rfl
                     refine two_ (i := 8) (j := 16) (Ni := some 34) (Nj := some 42) #[T,T,T,T,T,T,T,T,T,T,T,T,F,F,T,T,F,F,T,F,F,F] #[T,T,T,T,T,T,T,T,F,T,T,T,F,F,T,T,T,F,T,F,F,F] rfl rfl rfl rfl (two_of HT_.out (by kernel_rfl)) (by decide) (by decide) (fun K hK => ?_) (fun K hK => ?_)
                     · skip
                       have hcv32 := own_string (P := Tryd.prog) Tryd.underlying33 Tryd.underlying5 Tryd.underlying9 (Kd.own_of_R HO144.out)
                       refine value_ (w1 := ?_) (v := ?_) (by rfl) rfl ?_ ?_
                       rotate_left 2
                       · go_simp
                         constructor
                         · rfl
                         · rfl
                       clear hcv32
                       refine hK.out _ _ ⟨(blk_cell BK141.out 0).trans rfl, (blk_cell BK141.out 1).trans rfl, (blk_cell BK141.out 2).trans rfl, (blk_cell BK141.out 3).trans rfl⟩ (fun hHeld => ?_)
                       clear hK K
                       refine norm_ (a' := ?_) ?_ ?_
                       rotate_left
                       · show Act.put _ (some 34) _ = _
                         simp only [Act.put, List.setIfInBounds_toArray, List.set_cons_zero, List.set_cons_succ, i64_w, i32_w]
                         rfl
                       refine pU 12 (some 38) #[T,T,T,T,T,T,T,T,T,T,T,T,T,F,T,T,F,F,T,F,F,F] rfl rfl HT_.out ?_
                       refine pU 13 (some 39) #[T,T,T,T,T,T,T,T,T,T,T,T,T,T,T,T,F,F,T,F,F,F] rfl rfl HT_.out ?_
                       exact norm_ (by first | (simp only [putAll, Act.put, List.setIfInBounds_toArray, List.set_cons_zero, List.set_cons_succ]; done) | (simp only [putAll, Act.put, List.setIfInBounds_toArray, List.set_cons_zero, List.set_cons_succ]; rfl)) (hJ7_8_11 (v143) _ ⟨hHeld, (nR HO144.out), (nR HO_3.out), (nB BK141.out), (nH1 HB.out GE141.out)⟩)
                     · skip
                       refine goes_ Tryd.func27 (by kernel_rfl) rfl #[.int .i64 ((rd_T43 l0 x19_1).f2)] (by rfl) rfl rfl (by (try simp only [List.map_toArray, List.map_cons, List.map_nil]); first | done | rfl | (simp only [List.length_drop, List.length_take]; rfl)) ?_
                       with_reducible refine (strconv_Itoa_27.calls ((rd_T43 l0 x19_1).f2) t146 _ ?sideT A19.out).mono ?_
                       (case sideT => exact tb_on HTB.out (nH1 HB.out GE141.out))
                       rintro e w32 ⟨rfl, hb⟩
                       refine ⟨_, rfl, ?_⟩
                       have n0_ := Aside0.mk (Kd.R_below (nR HO_3.out) hb)
                       have n1_ := Aside0.mk (Kd.R_below (nR HO144.out) hb)
                       have n2_ := Aside0.mk (blk_below (g := gb141) (o := .cells #[.int .i64 ((rd_T43 l0 x19_1).f0), .int .i64 ((rd_T43 l0 x19_1).f1), .int .i64 ((rd_T43 l0 x19_1).f2), .bool true] 43 (0, 0)) (nB BK141.out) hb)
                       have n3_ := Aside0.mk (below_step (nH1 HB.out GE141.out) hb)
                       clear HO_3; clear HO144; clear BK141; clear HB; have HO_3 := n0_; have HO144 := n1_; have BK141 := n2_; have HB := n3_; clear n0_ n1_ n2_ n3_; (try clear hb); (try clear hb2); (try clear hk); (try clear hi)
                       refine hK.out _ _ ⟨(blk_cell BK141.out 0).trans rfl, (blk_cell BK141.out 1).trans rfl, (blk_cell BK141.out 2).trans rfl, (blk_cell BK141.out 3).trans rfl⟩ (fun hHeld => ?_)
                       clear hK K
                       refine norm_ (a' := ?_) ?_ ?_
                       rotate_left
                       · show Act.put _ (some 42) _ = _
                         simp only [Act.put, List.setIfInBounds_toArray, List.set_cons_zero, List.set_cons_succ, i64_w, i32_w]
                         rfl
                       exact norm_ (by first | (simp only [putAll, Act.put, List.setIfInBounds_toArray, List.set_cons_zero, List.set_cons_succ]; done) | (simp only [putAll, Act.put, List.setIfInBounds_toArray, List.set_cons_zero, List.set_cons_succ]; rfl)) (hJ7_11_16 (v143) _ ⟨hHeld, (nR HO144.out), (nR HO_3.out), (nB BK141.out), (nH1 HB.out GE141.out)⟩)
                 · skip
                   rintro v143 w31 ⟨hS_, h0_, h1_, h2_, h3_⟩
                   have n0_ : Aside0 (Kd.R (Kd.int .u8) 5 w31 w.heap.size (fun _ => True) v143 y142) := ⟨h0_⟩
                   have n1_ : Aside0 (Kd.R Kd.string 9 w31 w.heap.size (fun _ => True) v137 x3_1) := ⟨h1_⟩
                   have n2_ : Aside0 (w31.heap[gb141]? = some (.cells #[.int .i64 ((rd_T43 l0 x19_1).f0), .int .i64 ((rd_T43 l0 x19_1).f1), .int .i64 ((rd_T43 l0 x19_1).f2), .bool true] 43 (0, 0))) := ⟨h2_⟩
                   have n3_ : Aside0 (Below w.heap.size w w31) := ⟨h3_⟩
                   clear HO_3; clear BK141; clear HB; clear h0_ h1_ h2_ h3_; have HO144 := n0_; have HO_3 := n1_; have BK141 := n2_; have HB := n3_; clear n0_ n1_ n2_ n3_
                   have hHeld : w31.cell? ⟨gb141, 0, none⟩ = some (.int .i64 ((rd_T43 l0 x19_1).f0)) ∧ w31.cell? ⟨gb141, 1, none⟩ = some (.int .i64 ((rd_T43 l0 x19_1).f1)) ∧ w31.cell? ⟨gb141, 2, none⟩ = some (.int .i64 ((rd_T43 l0 x19_1).f2)) ∧ w31.cell? ⟨gb141, 3, none⟩ = some (.bool true) := hS_
                   refine norm_ (a' := ?_) ?_ ?_
                   rotate_left
                   · simp only [putAll, Act.put, List.setIfInBounds_toArray, List.set_cons_zero, List.set_cons_succ]
                     rfl
                   refine one_ (i := 11) (N := some 37) #[T,T,T,T,T,T,T,T,T,T,T,T,F,F,T,T,F,F,T,F,F,F] rfl rfl (one_of HT_.out (by kernel_rfl)) (by decide) (fun K hK => ?_)
                   refine goes_ Tryd.func27 (by kernel_rfl) rfl #[.int .i64 ((rd_T43 l0 x19_1).f0)] (by rfl) rfl rfl (by (try simp only [List.map_toArray, List.map_cons, List.map_nil]); first | done | rfl | (simp only [List.length_drop, List.length_take]; rfl)) ?_
                   with_reducible refine (strconv_Itoa_27.calls ((rd_T43 l0 x19_1).f0) t145 _ ?sideT A16.out).mono ?_
                   (case sideT => exact tb_on HTB.out (nH1 HB.out GE141.out))
                   rintro e w32 ⟨rfl, hb⟩
                   refine ⟨_, rfl, ?_⟩
                   have n0_ := Aside0.mk (Kd.R_below (nR HO_3.out) hb)
                   have n1_ := Aside0.mk (Kd.R_below (nR HO144.out) hb)
                   have n2_ := Aside0.mk (blk_below (g := gb141) (o := .cells #[.int .i64 ((rd_T43 l0 x19_1).f0), .int .i64 ((rd_T43 l0 x19_1).f1), .int .i64 ((rd_T43 l0 x19_1).f2), .bool true] 43 (0, 0)) (nB BK141.out) hb)
                   have n3_ := Aside0.mk (below_step (nH1 HB.out GE141.out) hb)
                   clear HO_3; clear HO144; clear BK141; clear HB; have HO_3 := n0_; have HO144 := n1_; have BK141 := n2_; have HB := n3_; clear n0_ n1_ n2_ n3_; (try clear hb); (try clear hb2); (try clear hk); (try clear hi)
                   refine hK.out _ _ ⟨(blk_cell BK141.out 0).trans rfl, (blk_cell BK141.out 1).trans rfl, (blk_cell BK141.out 2).trans rfl, (blk_cell BK141.out 3).trans rfl⟩ (fun hHeld => ?_)
                   clear hK K
                   refine norm_ (a' := ?_) ?_ ?_
                   rotate_left
                   · show Act.put _ (some 37) _ = _
                     simp only [Act.put, List.setIfInBounds_toArray, List.set_cons_zero, List.set_cons_succ, i64_w, i32_w]
                     rfl
                   refine pU 12 (some 38) #[T,T,T,T,T,T,T,T,T,T,T,T,T,F,T,T,F,F,T,F,F,F] rfl rfl HT_.out ?_
                   refine pU 13 (some 39) #[T,T,T,T,T,T,T,T,T,T,T,T,T,T,T,T,F,F,T,F,F,F] rfl rfl HT_.out ?_
                   exact norm_ (by first | (simp only [putAll, Act.put, List.setIfInBounds_toArray, List.set_cons_zero, List.set_cons_succ]; done) | (simp only [putAll, Act.put, List.setIfInBounds_toArray, List.set_cons_zero, List.set_cons_succ]; rfl)) (hJ7_8_11 (v143) _ ⟨hHeld, (nR HO144.out), (nR HO_3.out), (nB BK141.out), (nH1 HB.out GE141.out)⟩)
               · skip
                 rintro v143 w32 ⟨hS_, h0_, h1_, h2_, h3_⟩
                 have n0_ : Aside0 (Kd.R (Kd.int .u8) 5 w32 w.heap.size (fun _ => True) v143 y142) := ⟨h0_⟩
                 have n1_ : Aside0 (Kd.R Kd.string 9 w32 w.heap.size (fun _ => True) v137 x3_1) := ⟨h1_⟩
                 have n2_ : Aside0 (w32.heap[gb141]? = some (.cells #[.int .i64 ((rd_T43 l0 x19_1).f0), .int .i64 ((rd_T43 l0 x19_1).f1), .int .i64 ((rd_T43 l0 x19_1).f2), .bool true] 43 (0, 0))) := ⟨h2_⟩
                 have n3_ : Aside0 (Below w.heap.size w w32) := ⟨h3_⟩
                 clear HO_3; clear BK141; clear HB; clear h0_ h1_ h2_ h3_; have HO144 := n0_; have HO_3 := n1_; have BK141 := n2_; have HB := n3_; clear n0_ n1_ n2_ n3_
                 have hHeld : w32.cell? ⟨gb141, 0, none⟩ = some (.int .i64 ((rd_T43 l0 x19_1).f0)) ∧ w32.cell? ⟨gb141, 1, none⟩ = some (.int .i64 ((rd_T43 l0 x19_1).f1)) ∧ w32.cell? ⟨gb141, 2, none⟩ = some (.int .i64 ((rd_T43 l0 x19_1).f2)) ∧ w32.cell? ⟨gb141, 3, none⟩ = some (.bool true) := hS_
                 refine norm_ (a' := ?_) ?_ ?_
                 rotate_left
                 · simp only [putAll, Act.put, List.setIfInBounds_toArray, List.set_cons_zero, List.set_cons_succ]
                   rfl
                 refine one_ (i := 8) (N := some 34) #[T,T,T,T,T,T,T,T,T,T,T,T,F,F,T,T,T,F,T,F,F,F] rfl rfl (one_of HT_.out (by kernel_rfl)) (by decide) (fun K hK => ?_)
                 have hcv33 := own_string (P := Tryd.prog) Tryd.underlying33 Tryd.underlying5 Tryd.underlying9 (Kd.own_of_R HO144.out)
                 refine value_ (w1 := ?_) (v := ?_) (by rfl) rfl ?_ ?_
                 rotate_left 2
                 · go_simp
                   constructor
                   · rfl
                   · rfl
                 clear hcv33
                 refine hK.out _ _ ⟨(blk_cell BK141.out 0).trans rfl, (blk_cell BK141.out 1).trans rfl, (blk_cell BK141.out 2).trans rfl, (blk_cell BK141.out 3).trans rfl⟩ (fun hHeld => ?_)
                 clear hK K
                 refine norm_ (a' := ?_) ?_ ?_
                 rotate_left
                 · show Act.put _ (some 34) _ = _
                   simp only [Act.put, List.setIfInBounds_toArray, List.set_cons_zero, List.set_cons_succ, i64_w, i32_w]
                   rfl
                 refine pU 12 (some 38) #[T,T,T,T,T,T,T,T,T,T,T,T,T,F,T,T,T,F,T,F,F,F] rfl rfl HT_.out ?_
                 refine pU 13 (some 39) #[T,T,T,T,T,T,T,T,T,T,T,T,T,T,T,T,T,F,T,F,F,F] rfl rfl HT_.out ?_
                 exact norm_ (by first | (simp only [putAll, Act.put, List.setIfInBounds_toArray, List.set_cons_zero, List.set_cons_succ]; done) | (simp only [putAll, Act.put, List.setIfInBounds_toArray, List.set_cons_zero, List.set_cons_succ]; rfl)) (hJ7_8_11_16 (v143) _ ⟨hHeld, (nR HO144.out), (nR HO_3.out), (nB BK141.out), (nH1 HB.out GE141.out)⟩)
             · skip
               rintro v143 w32 ⟨hS_, h0_, h1_, h2_, h3_⟩
               have n0_ : Aside0 (Kd.R (Kd.int .u8) 5 w32 w.heap.size (fun _ => True) v143 y142) := ⟨h0_⟩
               have n1_ : Aside0 (Kd.R Kd.string 9 w32 w.heap.size (fun _ => True) v137 x3_1) := ⟨h1_⟩
               have n2_ : Aside0 (w32.heap[gb141]? = some (.cells #[.int .i64 ((rd_T43 l0 x19_1).f0), .int .i64 ((rd_T43 l0 x19_1).f1), .int .i64 ((rd_T43 l0 x19_1).f2), .bool true] 43 (0, 0))) := ⟨h2_⟩
               have n3_ : Aside0 (Below w.heap.size w w32) := ⟨h3_⟩
               clear HO_3; clear BK141; clear HB; clear h0_ h1_ h2_ h3_; have HO144 := n0_; have HO_3 := n1_; have BK141 := n2_; have HB := n3_; clear n0_ n1_ n2_ n3_
               have hHeld : w32.cell? ⟨gb141, 0, none⟩ = some (.int .i64 ((rd_T43 l0 x19_1).f0)) ∧ w32.cell? ⟨gb141, 1, none⟩ = some (.int .i64 ((rd_T43 l0 x19_1).f1)) ∧ w32.cell? ⟨gb141, 2, none⟩ = some (.int .i64 ((rd_T43 l0 x19_1).f2)) ∧ w32.cell? ⟨gb141, 3, none⟩ = some (.bool true) := hS_
               refine norm_ (a' := ?_) ?_ ?_
               rotate_left
               · simp only [putAll, Act.put, List.setIfInBounds_toArray, List.set_cons_zero, List.set_cons_succ]
                 rfl
               refine one_ (i := 16) (N := some 42) #[T,T,T,T,T,T,T,T,T,T,T,T,T,T,T,T,T,F,T,F,F,F] rfl rfl (one_of HT_.out (by kernel_rfl)) (by decide) (fun K hK => ?_)
               refine goes_ Tryd.func27 (by kernel_rfl) rfl #[.int .i64 ((rd_T43 l0 x19_1).f2)] (by rfl) rfl rfl (by (try simp only [List.map_toArray, List.map_cons, List.map_nil]); first | done | rfl | (simp only [List.length_drop, List.length_take]; rfl)) ?_
               with_reducible refine (strconv_Itoa_27.calls ((rd_T43 l0 x19_1).f2) t146 _ ?sideT A19.out).mono ?_
               (case sideT => exact tb_on HTB.out (nH1 HB.out GE141.out))
               rintro e w33 ⟨rfl, hb⟩
               refine ⟨_, rfl, ?_⟩
               have n0_ := Aside0.mk (Kd.R_below (nR HO_3.out) hb)
               have n1_ := Aside0.mk (Kd.R_below (nR HO144.out) hb)
               have n2_ := Aside0.mk (blk_below (g := gb141) (o := .cells #[.int .i64 ((rd_T43 l0 x19_1).f0), .int .i64 ((rd_T43 l0 x19_1).f1), .int .i64 ((rd_T43 l0 x19_1).f2), .bool true] 43 (0, 0)) (nB BK141.out) hb)
               have n3_ := Aside0.mk (below_step (nH1 HB.out GE141.out) hb)
               clear HO_3; clear HO144; clear BK141; clear HB; have HO_3 := n0_; have HO144 := n1_; have BK141 := n2_; have HB := n3_; clear n0_ n1_ n2_ n3_; (try clear hb); (try clear hb2); (try clear hk); (try clear hi)
               refine hK.out _ _ ⟨(blk_cell BK141.out 0).trans rfl, (blk_cell BK141.out 1).trans rfl, (blk_cell BK141.out 2).trans rfl, (blk_cell BK141.out 3).trans rfl⟩ (fun hHeld => ?_)
               clear hK K
               refine norm_ (a' := ?_) ?_ ?_
               rotate_left
               · show Act.put _ (some 42) _ = _
                 simp only [Act.put, List.setIfInBounds_toArray, List.set_cons_zero, List.set_cons_succ, i64_w, i32_w]
                 rfl
               exact norm_ (by first | (simp only [putAll, Act.put, List.setIfInBounds_toArray, List.set_cons_zero, List.set_cons_succ]; done) | (simp only [putAll, Act.put, List.setIfInBounds_toArray, List.set_cons_zero, List.set_cons_succ]; rfl)) (hJ7_8_11_16 (v143) _ ⟨hHeld, (nR HO144.out), (nR HO_3.out), (nB BK141.out), (nH1 HB.out GE141.out)⟩)
           rintro v143 w33 ⟨hS_, h0_, h1_, h2_, h3_⟩
           have n0_ : Aside0 (Kd.R (Kd.int .u8) 5 w33 w.heap.size (fun _ => True) v143 y142) := ⟨h0_⟩
           have n1_ : Aside0 (Kd.R Kd.string 9 w33 w.heap.size (fun _ => True) v137 x3_1) := ⟨h1_⟩
           have n2_ : Aside0 (w33.heap[gb141]? = some (.cells #[.int .i64 ((rd_T43 l0 x19_1).f0), .int .i64 ((rd_T43 l0 x19_1).f1), .int .i64 ((rd_T43 l0 x19_1).f2), .bool true] 43 (0, 0))) := ⟨h2_⟩
           have n3_ : Aside0 (Below w.heap.size w w33) := ⟨h3_⟩
           clear HO_3; clear BK141; clear HB; clear h0_ h1_ h2_ h3_; have HO144 := n0_; have HO_3 := n1_; have BK141 := n2_; have HB := n3_; clear n0_ n1_ n2_ n3_
           have hHeld : w33.cell? ⟨gb141, 0, none⟩ = some (.int .i64 ((rd_T43 l0 x19_1).f0)) ∧ w33.cell? ⟨gb141, 1, none⟩ = some (.int .i64 ((rd_T43 l0 x19_1).f1)) ∧ w33.cell? ⟨gb141, 2, none⟩ = some (.int .i64 ((rd_T43 l0 x19_1).f2)) ∧ w33.cell? ⟨gb141, 3, none⟩ = some (.bool true) := hS_
           have p23 : 0 ≤ (x19_1 : Int) := of_decide_eq_true nQ
           have q23 : (x19_1 : Int) < ((x3_1.length : Int) : Int) := of_decide_eq_true nQ
           obtain ⟨go23, co23, eo23, gb23, gl23, cl23, HG23⟩ := Kd.R_form HO_3.out (by omega)
           (first | cases eo23 | (injection eo23 with ea_ en_ ec_; (first | subst ea_ | (injection ea_ with ea_; subst ea_)); subst ec_; clear en_))
           have GB23 := Aside0.mk gb23
           have GG23 := Aside0.mk HG23
           clear gb23 gl23 HG23
           obtain ⟨hx23_0, hf23_0⟩ := Kd.R_celln (⟨#[]⟩ : ByteArray) HO_3.out (x19_1 : Int) p23 q23
           replace p23 := eq_true p23; replace q23 := eq_true q23
           have HP34 := Kd.R_putn HO_3.out (x19_1 : Int) (((((strOfNums y142) ++ t145) ++ (⟨#[47]⟩ : ByteArray)) ++ t146) ++ (⟨#[60]⟩ : ByteArray))
           rw [← Ny147.out] at HP34
           have HQ34 := Aside0.mk HP34
           clear HP34
           refine norm_ (a' := ?_) ?_ ?_
           rotate_left
           · simp only [putAll, Act.put, List.setIfInBounds_toArray, List.set_cons_zero, List.set_cons_succ]
             rfl
           refine pU 17 (some 43) #[T,T,T,T,T,T,T,T,T,T,T,T,T,T,T,T,T,T,T,F,F,F] rfl rfl HT_.out ?_
           refine pU 19 (some 45) #[T,T,T,T,T,T,T,T,T,T,T,T,T,T,T,T,T,T,T,T,F,F] rfl rfl HT_.out ?_
           refine pU 20 (some 46) #[T,T,T,T,T,T,T,T,T,T,T,T,T,T,T,T,T,T,T,T,T,F] rfl rfl HT_.out ?_
           refine last_ (i := 21) (N := none) #[T,T,T,T,T,T,T,T,T,T,T,T,T,T,T,T,T,T,T,T,T,T] rfl rfl (one_of HT_.out (by kernel_rfl)) (by decide) (fun K hK => ?_)
           refine skip_ (w1 := ?_) (by rfl) rfl ?_ ?_
           rotate_left
           · go_simp; rfl
           refine hK.out _ _ ?_
           clear hK K
           refine done_ (done_of HT_.out (by kernel_rfl)) ?_
           try go_wp2
           go_roundg k1
           case measure => have := HK1.out; omega
           case rel => exact ⟨(y147), (wrap64 (x19_1 + 1)), nS, H', ⟨by have := HK1.out; omega⟩, ⟨by (with_reducible repeat (first | apply Kd.R_alloc | apply Kd.R_drewN | apply Kd.R_drew)); exact HQ34.out⟩, ⟨nH2 HB.out GB23.out GE141.out⟩⟩
         · replace c15 := Bool.eq_false_iff.mpr c15
           subst c15
           have H1 : ((some (([(65 + ((wrap64 (((rd_T43 l0 x19_1).f1) - 1)) % 256)) % 256] : List Int) : List Int)).bind fun y148 => ((strconv_Itoa_27.f ((rd_T43 l0 x19_1).f0)).bind fun t151 => (if (strOfNums y148).size + t151.size ≤ 9223372036854775807 then (if ((strOfNums y148) ++ t151).size + 1 ≤ 9223372036854775807 then ((strconv_Itoa_27.f ((rd_T43 l0 x19_1).f2)).bind fun t152 => (if (((strOfNums y148) ++ t151) ++ (⟨#[47]⟩ : ByteArray)).size + t152.size ≤ 9223372036854775807 then (if ((((strOfNums y148) ++ t151) ++ (⟨#[47]⟩ : ByteArray)) ++ t152).size + 1 ≤ 9223372036854775807 then (if x19_1 < (x3_1.length : Int) then (impl_StockText.l0 k1 (x3_1.set (x19_1 : Int).toNat (((((strOfNums y148) ++ t151) ++ (⟨#[47]⟩ : ByteArray)) ++ t152) ++ (⟨#[62]⟩ : ByteArray))) l0 (l0.length : Int) (wrap64 (x19_1 + 1))) else (none)) else (none)) else (none))) else (none)) else (none)))) = some r := by rw [if_neg (show ¬ (false = true) by decide)] at H; exact H
           clear H; have H := H1; clear H1
           obtain ⟨y148, hy148⟩ : ∃ y_ : List Int, y_ = (([(65 + ((wrap64 (((rd_T43 l0 x19_1).f1) - 1)) % 256)) % 256] : List Int)) := ⟨_, rfl⟩
           replace H : ((strconv_Itoa_27.f ((rd_T43 l0 x19_1).f0)).bind fun t151 => (if (strOfNums y148).size + t151.size ≤ 9223372036854775807 then (if ((strOfNums y148) ++ t151).size + 1 ≤ 9223372036854775807 then ((strconv_Itoa_27.f ((rd_T43 l0 x19_1).f2)).bind fun t152 => (if (((strOfNums y148) ++ t151) ++ (⟨#[47]⟩ : ByteArray)).size + t152.size ≤ 9223372036854775807 then (if ((((strOfNums y148) ++ t151) ++ (⟨#[47]⟩ : ByteArray)) ++ t152).size + 1 ≤ 9223372036854775807 then (if x19_1 < (x3_1.length : Int) then (impl_StockText.l0 k1 (x3_1.set (x19_1 : Int).toNat (((((strOfNums y148) ++ t151) ++ (⟨#[47]⟩ : ByteArray)) ++ t152) ++ (⟨#[62]⟩ : ByteArray))) l0 (l0.length : Int) (wrap64 (x19_1 + 1))) else (none)) else (none)) else (none))) else (none)) else (none))) = some r := by first | (rw [hy148]; with_reducible exact H) | (have H2_ := (Option.bind_some _ _).symm.trans H; rw [hy148]; with_reducible exact H2_) | (have H2_ := (Option.bind_some _ _).symm.trans H; with_reducible exact H2_) | with_reducible exact H | (rw [hy148]; exact H) | exact H
           have Ny148 := Aside0.mk hy148
           clear hy148
           replace H := Option.bind_eq_some_iff.mp H
           obtain ⟨t151, A350, H⟩ := H
           replace H : (if (strOfNums y148).size + t151.size ≤ 9223372036854775807 then (if ((strOfNums y148) ++ t151).size + 1 ≤ 9223372036854775807 then ((strconv_Itoa_27.f ((rd_T43 l0 x19_1).f2)).bind fun t152 => (if (((strOfNums y148) ++ t151) ++ (⟨#[47]⟩ : ByteArray)).size + t152.size ≤ 9223372036854775807 then (if ((((strOfNums y148) ++ t151) ++ (⟨#[47]⟩ : ByteArray)) ++ t152).size + 1 ≤ 9223372036854775807 then (if x19_1 < (x3_1.length : Int) then (impl_StockText.l0 k1 (x3_1.set (x19_1 : Int).toNat (((((strOfNums y148) ++ t151) ++ (⟨#[47]⟩ : ByteArray)) ++ t152) ++ (⟨#[62]⟩ : ByteArray))) l0 (l0.length : Int) (wrap64 (x19_1 + 1))) else (none)) else (none)) else (none))) else (none)) else (none)) = some r := H
           have A35 := Aside0.mk A350
           clear A350
           by_cases c36 : (strOfNums y148).size + t151.size ≤ 9223372036854775807
           rotate_left
           · (rw [if_neg c36] at H; exact absurd H (by simp))
           rw [if_pos c36] at H
           have c36b0 := eq_true c36
           have c36b1 : decide ((strOfNums y148).size + t151.size ≤ 9223372036854775807) = true := decide_eq_true c36
           try have c36b2 : (9223372036854775807 < (strOfNums y148).size + t151.size) = False := eq_false (Nat.not_lt.2 c36)
           by_cases c37 : ((strOfNums y148) ++ t151).size + 1 ≤ 9223372036854775807
           rotate_left
           · (rw [if_neg c37] at H; exact absurd H (by simp))
           rw [if_pos c37] at H
           have c37b0 := eq_true c37
           have c37b1 : decide (((strOfNums y148) ++ t151).size + 1 ≤ 9223372036854775807) = true := decide_eq_true c37
           try have c37b2 : (9223372036854775807 < ((strOfNums y148) ++ t151).size + 1) = False := eq_false (Nat.not_lt.2 c37)
           try have c37b3 : (9223372036854775807 < (strOfNums y148).size + t151.size + 1) = False := by have q := c37b2; simp only [ByteArray.size_append] at q; exact q
           replace H := Option.bind_eq_some_iff.mp H
           obtain ⟨t152, A380, H⟩ := H
           replace H : (if (((strOfNums y148) ++ t151) ++ (⟨#[47]⟩ : ByteArray)).size + t152.size ≤ 9223372036854775807 then (if ((((strOfNums y148) ++ t151) ++ (⟨#[47]⟩ : ByteArray)) ++ t152).size + 1 ≤ 9223372036854775807 then (if x19_1 < (x3_1.length : Int) then (impl_StockText.l0 k1 (x3_1.set (x19_1 : Int).toNat (((((strOfNums y148) ++ t151) ++ (⟨#[47]⟩ : ByteArray)) ++ t152) ++ (⟨#[62]⟩ : ByteArray))) l0 (l0.length : Int) (wrap64 (x19_1 + 1))) else (none)) else (none)) else (none)) = some r := H
           have A38 := Aside0.mk A380
           clear A380
           by_cases c39 : (((strOfNums y148) ++ t151) ++ (⟨#[47]⟩ : ByteArray)).size + t152.size ≤ 9223372036854775807
           rotate_left
           · (rw [if_neg c39] at H; exact absurd H (by simp))
           rw [if_pos c39] at H
           have c39b0 := eq_true c39
           have c39b1 : decide ((((strOfNums y148) ++ t151) ++ (⟨#[47]⟩ : ByteArray)).size + t152.size ≤ 9223372036854775807) = true := decide_eq_true c39
           try have c39b2 : (9223372036854775807 < (((strOfNums y148) ++ t151) ++ (⟨#[47]⟩ : ByteArray)).size + t152.size) = False := eq_false (Nat.not_lt.2 c39)
           try have c39b3 : (9223372036854775807 < (strOfNums y148).size + t151.size + 1 + t152.size) = False := by have q := c39b2; simp only [ByteArray.size_append] at q; exact q
           by_cases c40 : ((((strOfNums y148) ++ t151) ++ (⟨#[47]⟩ : ByteArray)) ++ t152).size + 1 ≤ 9223372036854775807
           rotate_left
           · (rw [if_neg c40] at H; exact absurd H (by simp))
           rw [if_pos c40] at H
           have c40b0 := eq_true c40
           have c40b1 : decide (((((strOfNums y148) ++ t151) ++ (⟨#[47]⟩ : ByteArray)) ++ t152).size + 1 ≤ 9223372036854775807) = true := decide_eq_true c40
           try have c40b2 : (9223372036854775807 < ((((strOfNums y148) ++ t151) ++ (⟨#[47]⟩ : ByteArray)) ++ t152).size + 1) = False := eq_false (Nat.not_lt.2 c40)
           try have c40b3 : (9223372036854775807 < (strOfNums y148).size + t151.size + 1 + t152.size + 1) = False := by have q := c40b2; simp only [ByteArray.size_append] at q; exact q
           by_cases c41 : x19_1 < (x3_1.length : Int)
           rotate_left
           · (rw [if_neg c41] at H; exact absurd H (by simp))
           rw [if_pos c41] at H
           have c41b0 : decide (x19_1 < (x3_1.length : Int)) = true := decide_eq_true c41
           clear c41
           obtain ⟨y153, hy153⟩ : ∃ y_ : List ByteArray, y_ = (x3_1.set (x19_1 : Int).toNat (((((strOfNums y148) ++ t151) ++ (⟨#[47]⟩ : ByteArray)) ++ t152) ++ (⟨#[62]⟩ : ByteArray))) := ⟨_, rfl⟩
           replace H : (impl_StockText.l0 k1 y153 l0 (l0.length : Int) (wrap64 (x19_1 + 1))) = some r := by first | (rw [hy153]; with_reducible exact H) | (have H2_ := (Option.bind_some _ _).symm.trans H; rw [hy153]; with_reducible exact H2_) | (have H2_ := (Option.bind_some _ _).symm.trans H; with_reducible exact H2_) | with_reducible exact H | (rw [hy153]; exact H) | exact H
           have Ny153 := Aside0.mk hy153
           clear hy153
           have H' := Aside0.mk H
           clear H
           have p140 : 0 ≤ (x19_1 : Int) := of_decide_eq_true nQ
           have q140 : x19_1 < (l0.length : Int) := of_decide_eq_true nQ
           obtain ⟨ad140, e140, hx140_0, hx140_1, hx140_2, hx140_3⟩ := at_T43 HR0.out x19_1 p140 q140
           (try rw [← Nbq14.out] at hx140_3)
           cases e140
           replace hx140_0 := (HB.out.cell (World.block_lt_of_cell? w _ hx140_0)).trans hx140_0
           replace hx140_1 := (HB.out.cell (World.block_lt_of_cell? w _ hx140_1)).trans hx140_1
           replace hx140_2 := (HB.out.cell (World.block_lt_of_cell? w _ hx140_2)).trans hx140_2
           replace hx140_3 := (HB.out.cell (World.block_lt_of_cell? w _ hx140_3)).trans hx140_3
           replace p140 := eq_true p140; replace q140 := eq_true q140
           try go_wp2_with (first | ((with_reducible refine gate_dst (N := 5) rfl ?_); refine box_event ?hg (N := 5) ?hd (cs := #[.int .i64 0, .int .i64 0, .int .i64 0, .bool false]) (t := 43) ?hr ?_; (case hd => rfl); (case hg => rfl); (case hr => first | (go_simp; done) | (go_simp; rfl)); intro gb141 hg w43 hbox hb; have n0_ := Aside0.mk (Kd.R_below (nR HO_3.out) hb); have n1_ := Aside0.mk (below_step (nH HB.out) hb); have n2_ := Aside0.mk (hbox); have n3_ := Aside0.mk ((by rw [hg]; exact (below_size (nH HB.out)) : w.heap.size ≤ gb141)); have n4_ := Aside0.mk ((by rw [hg]; exact (below_size (nH HB.out)) : w.heap.size ≤ gb141)); clear HO_3; clear HB; have HO_3 := n0_; have HB := n1_; have BK141 := n2_; have GW141 := n3_; have GE141 := n4_; clear n0_ n1_ n2_ n3_ n4_; clear hb hbox hg; have hcz44_0 : w43.cell? ⟨gb141, 0, none⟩ = some (.int .i64 0) := (blk_cell BK141.out 0).trans rfl; have hcz44_1 : w43.cell? ⟨gb141, 1, none⟩ = some (.int .i64 0) := (blk_cell BK141.out 1).trans rfl; have hcz44_2 : w43.cell? ⟨gb141, 2, none⟩ = some (.int .i64 0) := (blk_cell BK141.out 2).trans rfl; have hcz44_3 : w43.cell? ⟨gb141, 3, none⟩ = some (.bool false) := (blk_cell BK141.out 3).trans rfl; have hfz44_0 := blk_frozen BK141.out 0; have hfz44_1 := blk_frozen BK141.out 1; have hfz44_2 := blk_frozen BK141.out 2; have hfz44_3 := blk_frozen BK141.out 3))
           have n0_ : Aside0 (Kd.R Kd.string 9 ((((w43.setCell ⟨gb141, 0, none⟩ (.int .i64 ((rd_T43 l0 x19_1).f0))).setCell ⟨gb141, 1, none⟩ (.int .i64 ((rd_T43 l0 x19_1).f1))).setCell ⟨gb141, 2, none⟩ (.int .i64 ((rd_T43 l0 x19_1).f2))).setCell ⟨gb141, 3, none⟩ (.bool false)) w.heap.size (fun _ => True) v137 x3_1) := ⟨by (with_reducible repeat (first | apply Kd.R_alloc | apply Kd.R_drewN | apply Kd.R_drew)); exact Kd.R_mono (Kd.R_far (p := ⟨gb141, 3, none⟩) (Kd.R_far (p := ⟨gb141, 2, none⟩) (Kd.R_far (p := ⟨gb141, 1, none⟩) (Kd.R_far (p := ⟨gb141, 0, none⟩) (Kd.R_types HO_3.out BK141.out (by decide)) (fun _ hk => hk.2) (.int .i64 ((rd_T43 l0 x19_1).f0))) (fun _ hk => hk.2) (.int .i64 ((rd_T43 l0 x19_1).f1))) (fun _ hk => hk.2) (.int .i64 ((rd_T43 l0 x19_1).f2))) (fun _ hk => hk.2) (.bool false)) (fun _ hk => trivial)⟩
           have n1_ : Aside0 (((((w43.setCell ⟨gb141, 0, none⟩ (.int .i64 ((rd_T43 l0 x19_1).f0))).setCell ⟨gb141, 1, none⟩ (.int .i64 ((rd_T43 l0 x19_1).f1))).setCell ⟨gb141, 2, none⟩ (.int .i64 ((rd_T43 l0 x19_1).f2))).setCell ⟨gb141, 3, none⟩ (.bool false)).heap[gb141]? = some (.cells #[.int .i64 ((rd_T43 l0 x19_1).f0), .int .i64 ((rd_T43 l0 x19_1).f1), .int .i64 ((rd_T43 l0 x19_1).f2), .bool false] 43 (0, 0))) := ⟨by (with_reducible repeat (first | refine blk_drewN ?_ _ | refine blk_drew ?_ | refine blk_alloc ?_ _)); refine blk_put (cs := #[.int .i64 ((rd_T43 l0 x19_1).f0), .int .i64 ((rd_T43 l0 x19_1).f1), .int .i64 ((rd_T43 l0 x19_1).f2), .bool false]) ?_ 3 _ rfl; (with_reducible repeat (first | refine blk_drewN ?_ _ | refine blk_drew ?_ | refine blk_alloc ?_ _)); refine blk_put (cs := #[.int .i64 ((rd_T43 l0 x19_1).f0), .int .i64 ((rd_T43 l0 x19_1).f1), .int .i64 0, .bool false]) ?_ 2 _ rfl; (with_reducible repeat (first | refine blk_drewN ?_ _ | refine blk_drew ?_ | refine blk_alloc ?_ _)); refine blk_put (cs := #[.int .i64 ((rd_T43 l0 x19_1).f0), .int .i64 0, .int .i64 0, .bool false]) ?_ 1 _ rfl; (with_reducible repeat (first | refine blk_drewN ?_ _ | refine blk_drew ?_ | refine blk_alloc ?_ _)); refine blk_put (cs := #[.int .i64 0, .int .i64 0, .int .i64 0, .bool false]) ?_ 0 _ rfl; (with_reducible repeat (first | refine blk_drewN ?_ _ | refine blk_drew ?_ | refine blk_alloc ?_ _)); exact BK141.out⟩
           have n2_ : Aside0 (Below w.heap.size w ((((w43.setCell ⟨gb141, 0, none⟩ (.int .i64 ((rd_T43 l0 x19_1).f0))).setCell ⟨gb141, 1, none⟩ (.int .i64 ((rd_T43 l0 x19_1).f1))).setCell ⟨gb141, 2, none⟩ (.int .i64 ((rd_T43 l0 x19_1).f2))).setCell ⟨gb141, 3, none⟩ (.bool false))) := ⟨nH1 HB.out GE141.out⟩
           (try clear HO_3); (try clear BK141); (try clear HB)
           generalize ((((w43.setCell ⟨gb141, 0, none⟩ (.int .i64 ((rd_T43 l0 x19_1).f0))).setCell ⟨gb141, 1, none⟩ (.int .i64 ((rd_T43 l0 x19_1).f1))).setCell ⟨gb141, 2, none⟩ (.int .i64 ((rd_T43 l0 x19_1).f2))).setCell ⟨gb141, 3, none⟩ (.bool false)) = w45 at n0_ n1_ n2_ ⊢
           have HO_3 := n0_; have BK141 := n1_; have HB := n2_; clear n0_ n1_ n2_
           have n0_ := Aside0.mk (Kd.R_drew HO_3.out)
           have n1_ := Aside0.mk (blk_drew BK141.out)
           have n2_ := Aside0.mk (below_drew1 HB.out)
           clear HO_3; clear BK141; clear HB; have HO_3 := n0_; have BK141 := n1_; have HB := n2_; clear n0_ n1_ n2_
           refine start_ (n := 22) (S := fun w' => w'.cell? ⟨gb141, 0, none⟩ = some (.int .i64 ((rd_T43 l0 x19_1).f0)) ∧ w'.cell? ⟨gb141, 1, none⟩ = some (.int .i64 ((rd_T43 l0 x19_1).f1)) ∧ w'.cell? ⟨gb141, 2, none⟩ = some (.int .i64 ((rd_T43 l0 x19_1).f2)) ∧ w'.cell? ⟨gb141, 3, none⟩ = some (.bool false)) (ds := [21]) #[F,F,F,F,F,F,F,F,F,F,F,F,F,F,F,F,F,F,F,F,F,F] (by kernel_rfl) rfl rfl ⟨(blk_cell BK141.out 0).trans rfl, (blk_cell BK141.out 1).trans rfl, (blk_cell BK141.out 2).trans rfl, (blk_cell BK141.out 3).trans rfl⟩ (fun hHeld => ?_); refine with_tabW impl_StockText.tab12 impl_StockText.bits12 (fun HT_ HW_ => ?_)
           generalize w45.drew = w46 at HO_3 BK141 HB hHeld ⊢
           refine pU 0 (some 26) #[T,F,F,F,F,F,F,F,F,F,F,F,F,F,F,F,F,F,F,F,F,F] rfl rfl HT_.out ?_
           refine pU 1 (some 27) #[T,T,F,F,F,F,F,F,F,F,F,F,F,F,F,F,F,F,F,F,F,F] rfl rfl HT_.out ?_
           refine pU 2 (some 28) #[T,T,T,F,F,F,F,F,F,F,F,F,F,F,F,F,F,F,F,F,F,F] rfl rfl HT_.out ?_
           refine pU 9 (some 35) #[T,T,T,F,F,F,F,F,F,T,F,F,F,F,F,F,F,F,F,F,F,F] rfl rfl HT_.out ?_
           refine pU 14 (some 40) #[T,T,T,F,F,F,F,F,F,T,F,F,F,F,T,F,F,F,F,F,F,F] rfl rfl HT_.out ?_
           refine pU 18 (some 44) #[T,T,T,F,F,F,F,F,F,T,F,F,F,F,T,F,F,F,T,F,F,F] rfl rfl HT_.out ?_
           refine tU4 3 (some 29) #[T,T,T,T,F,F,F,F,F,T,F,F,F,F,T,F,F,F,T,F,F,F] rfl rfl HT_.out HW_.out hHeld ?_
           refine pU 4 (some 30) #[T,T,T,T,T,F,F,F,F,T,F,F,F,F,T,F,F,F,T,F,F,F] rfl rfl HT_.out ?_
           refine pU 5 (some 31) #[T,T,T,T,T,T,F,F,F,T,F,F,F,F,T,F,F,F,T,F,F,F] rfl rfl HT_.out ?_
           refine pU 6 (some 32) #[T,T,T,T,T,T,T,F,F,T,F,F,F,F,T,F,F,F,T,F,F,F] rfl rfl HT_.out ?_
           refine tU4 10 (some 36) #[T,T,T,T,T,T,T,F,F,T,T,F,F,F,T,F,F,F,T,F,F,F] rfl rfl HT_.out HW_.out hHeld ?_
           refine tU4 15 (some 41) #[T,T,T,T,T,T,T,F,F,T,T,F,F,F,T,T,F,F,T,F,F,F] rfl rfl HT_.out HW_.out hHeld ?_
           refine join_ (σ := Value) 4 #[T,T,T,T,T,T,T,T,T,T,T,T,T,T,T,T,T,F,T,F,F,F] (fun s_ => [(33, s_), (34, .string (strOfNums y148)), (37, .string t151), (42, .string t152), (38, .string ((strOfNums y148) ++ t151)), (39, .string (((strOfNums y148) ++ t151) ++ (⟨#[47]⟩ : ByteArray)))]) (fun s_ w' => (w'.cell? ⟨gb141, 0, none⟩ = some (.int .i64 ((rd_T43 l0 x19_1).f0)) ∧ w'.cell? ⟨gb141, 1, none⟩ = some (.int .i64 ((rd_T43 l0 x19_1).f1)) ∧ w'.cell? ⟨gb141, 2, none⟩ = some (.int .i64 ((rd_T43 l0 x19_1).f2)) ∧ w'.cell? ⟨gb141, 3, none⟩ = some (.bool false)) ∧ (Kd.R (Kd.int .u8) 5 w' w.heap.size (fun _ => True) s_ y148) ∧ (Kd.R Kd.string 9 w' w.heap.size (fun _ => True) v137 x3_1) ∧ (w'.heap[gb141]? = some (.cells #[.int .i64 ((rd_T43 l0 x19_1).f0), .int .i64 ((rd_T43 l0 x19_1).f1), .int .i64 ((rd_T43 l0 x19_1).f2), .bool false] 43 (0, 0))) ∧ (Below w.heap.size w w')) ?_ ?_
           rotate_left
           · intro hJ7_8_11_16
             refine join_ (σ := Value) 5 #[T,T,T,T,T,T,T,T,T,T,T,T,T,T,T,T,F,F,T,F,F,F] (fun s_ => [(33, s_), (34, .string (strOfNums y148)), (37, .string t151), (38, .string ((strOfNums y148) ++ t151)), (39, .string (((strOfNums y148) ++ t151) ++ (⟨#[47]⟩ : ByteArray)))]) (fun s_ w' => (w'.cell? ⟨gb141, 0, none⟩ = some (.int .i64 ((rd_T43 l0 x19_1).f0)) ∧ w'.cell? ⟨gb141, 1, none⟩ = some (.int .i64 ((rd_T43 l0 x19_1).f1)) ∧ w'.cell? ⟨gb141, 2, none⟩ = some (.int .i64 ((rd_T43 l0 x19_1).f2)) ∧ w'.cell? ⟨gb141, 3, none⟩ = some (.bool false)) ∧ (Kd.R (Kd.int .u8) 5 w' w.heap.size (fun _ => True) s_ y148) ∧ (Kd.R Kd.string 9 w' w.heap.size (fun _ => True) v137 x3_1) ∧ (w'.heap[gb141]? = some (.cells #[.int .i64 ((rd_T43 l0 x19_1).f0), .int .i64 ((rd_T43 l0 x19_1).f1), .int .i64 ((rd_T43 l0 x19_1).f2), .bool false] 43 (0, 0))) ∧ (Below w.heap.size w w')) ?_ ?_
             rotate_left
             · intro hJ7_8_11
               refine join_ (σ := Value) 7 #[T,T,T,T,T,T,T,T,F,T,T,T,F,F,T,T,T,F,T,F,F,F] (fun s_ => [(33, s_), (37, .string t151), (42, .string t152)]) (fun s_ w' => (w'.cell? ⟨gb141, 0, none⟩ = some (.int .i64 ((rd_T43 l0 x19_1).f0)) ∧ w'.cell? ⟨gb141, 1, none⟩ = some (.int .i64 ((rd_T43 l0 x19_1).f1)) ∧ w'.cell? ⟨gb141, 2, none⟩ = some (.int .i64 ((rd_T43 l0 x19_1).f2)) ∧ w'.cell? ⟨gb141, 3, none⟩ = some (.bool false)) ∧ (Kd.R (Kd.int .u8) 5 w' w.heap.size (fun _ => True) s_ y148) ∧ (Kd.R Kd.string 9 w' w.heap.size (fun _ => True) v137 x3_1) ∧ (w'.heap[gb141]? = some (.cells #[.int .i64 ((rd_T43 l0 x19_1).f0), .int .i64 ((rd_T43 l0 x19_1).f1), .int .i64 ((rd_T43 l0 x19_1).f2), .bool false] 43 (0, 0))) ∧ (Below w.heap.size w w')) ?_ ?_
               rotate_left
               · intro hJ7_11_16
                 refine join_ (σ := Value) 8 #[T,T,T,T,T,T,T,T,T,T,T,F,F,F,T,T,F,F,T,F,F,F] (fun s_ => [(33, s_), (34, .string (strOfNums y148))]) (fun s_ w' => (w'.cell? ⟨gb141, 0, none⟩ = some (.int .i64 ((rd_T43 l0 x19_1).f0)) ∧ w'.cell? ⟨gb141, 1, none⟩ = some (.int .i64 ((rd_T43 l0 x19_1).f1)) ∧ w'.cell? ⟨gb141, 2, none⟩ = some (.int .i64 ((rd_T43 l0 x19_1).f2)) ∧ w'.cell? ⟨gb141, 3, none⟩ = some (.bool false)) ∧ (Kd.R (Kd.int .u8) 5 w' w.heap.size (fun _ => True) s_ y148) ∧ (Kd.R Kd.string 9 w' w.heap.size (fun _ => True) v137 x3_1) ∧ (w'.heap[gb141]? = some (.cells #[.int .i64 ((rd_T43 l0 x19_1).f0), .int .i64 ((rd_T43 l0 x19_1).f1), .int .i64 ((rd_T43 l0 x19_1).f2), .bool false] 43 (0, 0))) ∧ (Below w.heap.size w w')) ?_ ?_
                 rotate_left
                 · intro hJ7_8
                   refine join_ (σ := Value) 8 #[T,T,T,T,T,T,T,T,F,T,T,T,F,F,T,T,F,F,T,F,F,F] (fun s_ => [(33, s_), (37, .string t151)]) (fun s_ w' => (w'.cell? ⟨gb141, 0, none⟩ = some (.int .i64 ((rd_T43 l0 x19_1).f0)) ∧ w'.cell? ⟨gb141, 1, none⟩ = some (.int .i64 ((rd_T43 l0 x19_1).f1)) ∧ w'.cell? ⟨gb141, 2, none⟩ = some (.int .i64 ((rd_T43 l0 x19_1).f2)) ∧ w'.cell? ⟨gb141, 3, none⟩ = some (.bool false)) ∧ (Kd.R (Kd.int .u8) 5 w' w.heap.size (fun _ => True) s_ y148) ∧ (Kd.R Kd.string 9 w' w.heap.size (fun _ => True) v137 x3_1) ∧ (w'.heap[gb141]? = some (.cells #[.int .i64 ((rd_T43 l0 x19_1).f0), .int .i64 ((rd_T43 l0 x19_1).f1), .int .i64 ((rd_T43 l0 x19_1).f2), .bool false] 43 (0, 0))) ∧ (Below w.heap.size w w')) ?_ ?_
                   rotate_left
                   · intro hJ7_11
                     refine join_ (σ := Unit) 8 #[T,T,T,T,T,T,T,F,F,T,T,T,F,F,T,T,T,F,T,F,F,F] (fun s_ => [(37, .string t151), (42, .string t152)]) (fun s_ w' => (w'.cell? ⟨gb141, 0, none⟩ = some (.int .i64 ((rd_T43 l0 x19_1).f0)) ∧ w'.cell? ⟨gb141, 1, none⟩ = some (.int .i64 ((rd_T43 l0 x19_1).f1)) ∧ w'.cell? ⟨gb141, 2, none⟩ = some (.int .i64 ((rd_T43 l0 x19_1).f2)) ∧ w'.cell? ⟨gb141, 3, none⟩ = some (.bool false)) ∧ (Kd.R Kd.string 9 w' w.heap.size (fun _ => True) v137 x3_1) ∧ (w'.heap[gb141]? = some (.cells #[.int .i64 ((rd_T43 l0 x19_1).f0), .int .i64 ((rd_T43 l0 x19_1).f1), .int .i64 ((rd_T43 l0 x19_1).f2), .bool false] 43 (0, 0))) ∧ (Below w.heap.size w w')) ?_ ?_
                     rotate_left
                     · intro hJ11_16
                       refine join_ (σ := Value) 9 #[T,T,T,T,T,T,T,T,F,T,T,F,F,F,T,T,F,F,T,F,F,F] (fun s_ => [(33, s_)]) (fun s_ w' => (w'.cell? ⟨gb141, 0, none⟩ = some (.int .i64 ((rd_T43 l0 x19_1).f0)) ∧ w'.cell? ⟨gb141, 1, none⟩ = some (.int .i64 ((rd_T43 l0 x19_1).f1)) ∧ w'.cell? ⟨gb141, 2, none⟩ = some (.int .i64 ((rd_T43 l0 x19_1).f2)) ∧ w'.cell? ⟨gb141, 3, none⟩ = some (.bool false)) ∧ (Kd.R (Kd.int .u8) 5 w' w.heap.size (fun _ => True) s_ y148) ∧ (Kd.R Kd.string 9 w' w.heap.size (fun _ => True) v137 x3_1) ∧ (w'.heap[gb141]? = some (.cells #[.int .i64 ((rd_T43 l0 x19_1).f0), .int .i64 ((rd_T43 l0 x19_1).f1), .int .i64 ((rd_T43 l0 x19_1).f2), .bool false] 43 (0, 0))) ∧ (Below w.heap.size w w')) ?_ ?_
                       rotate_left
                       · intro hJ7
                         refine join_ (σ := Unit) 9 #[T,T,T,T,T,T,T,F,F,T,T,T,F,F,T,T,F,F,T,F,F,F] (fun s_ => [(37, .string t151)]) (fun s_ w' => (w'.cell? ⟨gb141, 0, none⟩ = some (.int .i64 ((rd_T43 l0 x19_1).f0)) ∧ w'.cell? ⟨gb141, 1, none⟩ = some (.int .i64 ((rd_T43 l0 x19_1).f1)) ∧ w'.cell? ⟨gb141, 2, none⟩ = some (.int .i64 ((rd_T43 l0 x19_1).f2)) ∧ w'.cell? ⟨gb141, 3, none⟩ = some (.bool false)) ∧ (Kd.R Kd.string 9 w' w.heap.size (fun _ => True) v137 x3_1) ∧ (w'.heap[gb141]? = some (.cells #[.int .i64 ((rd_T43 l0 x19_1).f0), .int .i64 ((rd_T43 l0 x19_1).f1), .int .i64 ((rd_T43 l0 x19_1).f2), .bool false] 43 (0, 0))) ∧ (Below w.heap.size w w')) ?_ ?_
                         rotate_left
                         · intro hJ11
                           refine two_ (i := 7) (j := 11) (Ni := some 33) (Nj := some 37) #[T,T,T,T,T,T,T,T,F,T,T,F,F,F,T,T,F,F,T,F,F,F] #[T,T,T,T,T,T,T,F,F,T,T,T,F,F,T,T,F,F,T,F,F,F] rfl rfl rfl rfl (two_of HT_.out (by kernel_rfl)) (by decide) (by decide) (fun K hK => ?_) (fun K hK => ?_)
                           · skip
                             refine Kd.R_lit_step (Kd.int .u8) _ 5 ?hg (N := 33) ?hd (xs := ([(65 + ((wrap64 (((rd_T43 l0 x19_1).f1) - 1)) % 256)) % 256] : List Int)) (inner := [.int .u8 ((65 + ((wrap64 (((rd_T43 l0 x19_1).f1) - 1)) % 256)) % 256)]) (ok := fun _ => True) (okp := fun _ => True) ?hr ?hp (fun _ hk => hk) trivial (Below.refl _ _) (Nat.le_refl _) (by simp) ?_; (case hd => rfl); (case hg => rfl); (case hr => first | (go_simp; done) | (go_simp; rfl) | (go_simp; simp [IntKind.wrap_u8]; done)); (case hp => exact (Reps.one (show Kd.M (Kd.int .u8) _ _ _ ((65 + ((wrap64 (((rd_T43 l0 x19_1).f1) - 1)) % 256)) % 256) [.int .u8 ((65 + ((wrap64 (((rd_T43 l0 x19_1).f1) - 1)) % 256)) % 256)] from rfl) (Reps.none _ _)))
                             intro v149 w47 ho48 hb hg_ hnew_
                             clear hg_ hnew_
                             (first | rw [← Ny148.out] at ho48 | (simp only [Int.reduceToNat] at ho48; rw [← Ny148.out] at ho48))
                             have n0_ := Aside0.mk (Kd.R_below (nR HO_3.out) hb)
                             have n1_ := Aside0.mk (Kd.R_lower ho48 (below_size (nH1 HB.out GE141.out)))
                             have n2_ := Aside0.mk (blk_below (g := gb141) (o := .cells #[.int .i64 ((rd_T43 l0 x19_1).f0), .int .i64 ((rd_T43 l0 x19_1).f1), .int .i64 ((rd_T43 l0 x19_1).f2), .bool false] 43 (0, 0)) (nB BK141.out) hb)
                             have n3_ := Aside0.mk (below_step (nH1 HB.out GE141.out) hb)
                             clear HO_3; clear BK141; clear HB; have HO_3 := n0_; have HO150 := n1_; have BK141 := n2_; have HB := n3_; clear n0_ n1_ n2_ n3_; clear hb ho48
                             refine hK.out _ _ ⟨(blk_cell BK141.out 0).trans rfl, (blk_cell BK141.out 1).trans rfl, (blk_cell BK141.out 2).trans rfl, (blk_cell BK141.out 3).trans rfl⟩ (fun hHeld => ?_)
                             clear hK K
                             refine norm_ (a' := ?_) ?_ ?_
                             rotate_left
                             · show Act.put _ (some 33) _ = _
                               simp only [Act.put, List.setIfInBounds_toArray, List.set_cons_zero, List.set_cons_succ, i64_w, i32_w]
                               rfl
                             exact norm_ (by first | (simp only [putAll, Act.put, List.setIfInBounds_toArray, List.set_cons_zero, List.set_cons_succ]; done) | (simp only [putAll, Act.put, List.setIfInBounds_toArray, List.set_cons_zero, List.set_cons_succ]; rfl)) (hJ7 (v149) _ ⟨hHeld, (nR HO150.out), (nR HO_3.out), (nB BK141.out), (nH1 HB.out GE141.out)⟩)
                           · skip
                             refine goes_ Tryd.func27 (by kernel_rfl) rfl #[.int .i64 ((rd_T43 l0 x19_1).f0)] (by rfl) rfl rfl (by (try simp only [List.map_toArray, List.map_cons, List.map_nil]); first | done | rfl | (simp only [List.length_drop, List.length_take]; rfl)) ?_
                             with_reducible refine (strconv_Itoa_27.calls ((rd_T43 l0 x19_1).f0) t151 _ ?sideT A35.out).mono ?_
                             (case sideT => exact tb_on HTB.out (nH1 HB.out GE141.out))
                             rintro e w47 ⟨rfl, hb⟩
                             refine ⟨_, rfl, ?_⟩
                             have n0_ := Aside0.mk (Kd.R_below (nR HO_3.out) hb)
                             have n1_ := Aside0.mk (blk_below (g := gb141) (o := .cells #[.int .i64 ((rd_T43 l0 x19_1).f0), .int .i64 ((rd_T43 l0 x19_1).f1), .int .i64 ((rd_T43 l0 x19_1).f2), .bool false] 43 (0, 0)) (nB BK141.out) hb)
                             have n2_ := Aside0.mk (below_step (nH1 HB.out GE141.out) hb)
                             clear HO_3; clear BK141; clear HB; have HO_3 := n0_; have BK141 := n1_; have HB := n2_; clear n0_ n1_ n2_; (try clear hb); (try clear hb2); (try clear hk); (try clear hi)
                             refine hK.out _ _ ⟨(blk_cell BK141.out 0).trans rfl, (blk_cell BK141.out 1).trans rfl, (blk_cell BK141.out 2).trans rfl, (blk_cell BK141.out 3).trans rfl⟩ (fun hHeld => ?_)
                             clear hK K
                             refine norm_ (a' := ?_) ?_ ?_
                             rotate_left
                             · show Act.put _ (some 37) _ = _
                               simp only [Act.put, List.setIfInBounds_toArray, List.set_cons_zero, List.set_cons_succ, i64_w, i32_w]
                               rfl
                             exact norm_ (by first | (simp only [putAll, Act.put, List.setIfInBounds_toArray, List.set_cons_zero, List.set_cons_succ]; done) | (simp only [putAll, Act.put, List.setIfInBounds_toArray, List.set_cons_zero, List.set_cons_succ]; rfl)) (hJ11 () _ ⟨hHeld, (nR HO_3.out), (nB BK141.out), (nH1 HB.out GE141.out)⟩)
                         · skip
                           rintro _ w48 ⟨hS_, h0_, h1_, h2_⟩
                           have n0_ : Aside0 (Kd.R Kd.string 9 w48 w.heap.size (fun _ => True) v137 x3_1) := ⟨h0_⟩
                           have n1_ : Aside0 (w48.heap[gb141]? = some (.cells #[.int .i64 ((rd_T43 l0 x19_1).f0), .int .i64 ((rd_T43 l0 x19_1).f1), .int .i64 ((rd_T43 l0 x19_1).f2), .bool false] 43 (0, 0))) := ⟨h1_⟩
                           have n2_ : Aside0 (Below w.heap.size w w48) := ⟨h2_⟩
                           clear HO_3; clear BK141; clear HB; clear h0_ h1_ h2_; have HO_3 := n0_; have BK141 := n1_; have HB := n2_; clear n0_ n1_ n2_
                           have hHeld : w48.cell? ⟨gb141, 0, none⟩ = some (.int .i64 ((rd_T43 l0 x19_1).f0)) ∧ w48.cell? ⟨gb141, 1, none⟩ = some (.int .i64 ((rd_T43 l0 x19_1).f1)) ∧ w48.cell? ⟨gb141, 2, none⟩ = some (.int .i64 ((rd_T43 l0 x19_1).f2)) ∧ w48.cell? ⟨gb141, 3, none⟩ = some (.bool false) := hS_
                           refine norm_ (a' := ?_) ?_ ?_
                           rotate_left
                           · simp only [putAll, Act.put, List.setIfInBounds_toArray, List.set_cons_zero, List.set_cons_succ]
                             rfl
                           refine two_ (i := 7) (j := 16) (Ni := some 33) (Nj := some 42) #[T,T,T,T,T,T,T,T,F,T,T,T,F,F,T,T,F,F,T,F,F,F] #[T,T,T,T,T,T,T,F,F,T,T,T,F,F,T,T,T,F,T,F,F,F] rfl rfl rfl rfl (two_of HT_.out (by kernel_rfl)) (by decide) (by decide) (fun K hK => ?_) (fun K hK => ?_)
                           · skip
                             refine Kd.R_lit_step (Kd.int .u8) _ 5 ?hg (N := 33) ?hd (xs := ([(65 + ((wrap64 (((rd_T43 l0 x19_1).f1) - 1)) % 256)) % 256] : List Int)) (inner := [.int .u8 ((65 + ((wrap64 (((rd_T43 l0 x19_1).f1) - 1)) % 256)) % 256)]) (ok := fun _ => True) (okp := fun _ => True) ?hr ?hp (fun _ hk => hk) trivial (Below.refl _ _) (Nat.le_refl _) (by simp) ?_; (case hd => rfl); (case hg => rfl); (case hr => first | (go_simp; done) | (go_simp; rfl) | (go_simp; simp [IntKind.wrap_u8]; done)); (case hp => exact (Reps.one (show Kd.M (Kd.int .u8) _ _ _ ((65 + ((wrap64 (((rd_T43 l0 x19_1).f1) - 1)) % 256)) % 256) [.int .u8 ((65 + ((wrap64 (((rd_T43 l0 x19_1).f1) - 1)) % 256)) % 256)] from rfl) (Reps.none _ _)))
                             intro v149 w49 ho50 hb hg_ hnew_
                             clear hg_ hnew_
                             (first | rw [← Ny148.out] at ho50 | (simp only [Int.reduceToNat] at ho50; rw [← Ny148.out] at ho50))
                             have n0_ := Aside0.mk (Kd.R_below (nR HO_3.out) hb)
                             have n1_ := Aside0.mk (Kd.R_lower ho50 (below_size (nH1 HB.out GE141.out)))
                             have n2_ := Aside0.mk (blk_below (g := gb141) (o := .cells #[.int .i64 ((rd_T43 l0 x19_1).f0), .int .i64 ((rd_T43 l0 x19_1).f1), .int .i64 ((rd_T43 l0 x19_1).f2), .bool false] 43 (0, 0)) (nB BK141.out) hb)
                             have n3_ := Aside0.mk (below_step (nH1 HB.out GE141.out) hb)
                             clear HO_3; clear BK141; clear HB; have HO_3 := n0_; have HO150 := n1_; have BK141 := n2_; have HB := n3_; clear n0_ n1_ n2_ n3_; clear hb ho50
                             refine hK.out _ _ ⟨(blk_cell BK141.out 0).trans rfl, (blk_cell BK141.out 1).trans rfl, (blk_cell BK141.out 2).trans rfl, (blk_cell BK141.out 3).trans rfl⟩ (fun hHeld => ?_)
                             clear hK K
                             refine norm_ (a' := ?_) ?_ ?_
                             rotate_left
                             · show Act.put _ (some 33) _ = _
                               simp only [Act.put, List.setIfInBounds_toArray, List.set_cons_zero, List.set_cons_succ, i64_w, i32_w]
                               rfl
                             exact norm_ (by first | (simp only [putAll, Act.put, List.setIfInBounds_toArray, List.set_cons_zero, List.set_cons_succ]; done) | (simp only [putAll, Act.put, List.setIfInBounds_toArray, List.set_cons_zero, List.set_cons_succ]; rfl)) (hJ7_11 (v149) _ ⟨hHeld, (nR HO150.out), (nR HO_3.out), (nB BK141.out), (nH1 HB.out GE141.out)⟩)
                           · skip
                             refine goes_ Tryd.func27 (by kernel_rfl) rfl #[.int .i64 ((rd_T43 l0 x19_1).f2)] (by rfl) rfl rfl (by (try simp only [List.map_toArray, List.map_cons, List.map_nil]); first | done | rfl | (simp only [List.length_drop, List.length_take]; rfl)) ?_
                             with_reducible refine (strconv_Itoa_27.calls ((rd_T43 l0 x19_1).f2) t152 _ ?sideT A38.out).mono ?_
                             (case sideT => exact tb_on HTB.out (nH1 HB.out GE141.out))
                             rintro e w49 ⟨rfl, hb⟩
                             refine ⟨_, rfl, ?_⟩
                             have n0_ := Aside0.mk (Kd.R_below (nR HO_3.out) hb)
                             have n1_ := Aside0.mk (blk_below (g := gb141) (o := .cells #[.int .i64 ((rd_T43 l0 x19_1).f0), .int .i64 ((rd_T43 l0 x19_1).f1), .int .i64 ((rd_T43 l0 x19_1).f2), .bool false] 43 (0, 0)) (nB BK141.out) hb)
                             have n2_ := Aside0.mk (below_step (nH1 HB.out GE141.out) hb)
                             clear HO_3; clear BK141; clear HB; have HO_3 := n0_; have BK141 := n1_; have HB := n2_; clear n0_ n1_ n2_; (try clear hb); (try clear hb2); (try clear hk); (try clear hi)
                             refine hK.out _ _ ⟨(blk_cell BK141.out 0).trans rfl, (blk_cell BK141.out 1).trans rfl, (blk_cell BK141.out 2).trans rfl, (blk_cell BK141.out 3).trans rfl⟩ (fun hHeld => ?_)
                             clear hK K
                             refine norm_ (a' := ?_) ?_ ?_
                             rotate_left
                             · show Act.put _ (some 42) _ = _
                               simp only [Act.put, List.setIfInBounds_toArray, List.set_cons_zero, List.set_cons_succ, i64_w, i32_w]
                               rfl
                             exact norm_ (by first | (simp only [putAll, Act.put, List.setIfInBounds_toArray, List.set_cons_zero, List.set_cons_succ]; done) | (simp only [putAll, Act.put, List.setIfInBounds_toArray, List.set_cons_zero, List.set_cons_succ]; rfl)) (hJ11_16 () _ ⟨hHeld, (nR HO_3.out), (nB BK141.out), (nH1 HB.out GE141.out)⟩)
                       · skip
                         rintro v149 w49 ⟨hS_, h0_, h1_, h2_, h3_⟩
                         have n0_ : Aside0 (Kd.R (Kd.int .u8) 5 w49 w.heap.size (fun _ => True) v149 y148) := ⟨h0_⟩
                         have n1_ : Aside0 (Kd.R Kd.string 9 w49 w.heap.size (fun _ => True) v137 x3_1) := ⟨h1_⟩
                         have n2_ : Aside0 (w49.heap[gb141]? = some (.cells #[.int .i64 ((rd_T43 l0 x19_1).f0), .int .i64 ((rd_T43 l0 x19_1).f1), .int .i64 ((rd_T43 l0 x19_1).f2), .bool false] 43 (0, 0))) := ⟨h2_⟩
                         have n3_ : Aside0 (Below w.heap.size w w49) := ⟨h3_⟩
                         clear HO_3; clear BK141; clear HB; clear h0_ h1_ h2_ h3_; have HO150 := n0_; have HO_3 := n1_; have BK141 := n2_; have HB := n3_; clear n0_ n1_ n2_ n3_
                         have hHeld : w49.cell? ⟨gb141, 0, none⟩ = some (.int .i64 ((rd_T43 l0 x19_1).f0)) ∧ w49.cell? ⟨gb141, 1, none⟩ = some (.int .i64 ((rd_T43 l0 x19_1).f1)) ∧ w49.cell? ⟨gb141, 2, none⟩ = some (.int .i64 ((rd_T43 l0 x19_1).f2)) ∧ w49.cell? ⟨gb141, 3, none⟩ = some (.bool false) := hS_
                         refine norm_ (a' := ?_) ?_ ?_
                         rotate_left
                         · simp only [putAll, Act.put, List.setIfInBounds_toArray, List.set_cons_zero, List.set_cons_succ]
                           rfl
                         refine two_ (i := 8) (j := 11) (Ni := some 34) (Nj := some 37) #[T,T,T,T,T,T,T,T,T,T,T,F,F,F,T,T,F,F,T,F,F,F] #[T,T,T,T,T,T,T,T,F,T,T,T,F,F,T,T,F,F,T,F,F,F] rfl rfl rfl rfl (two_of HT_.out (by kernel_rfl)) (by decide) (by decide) (fun K hK => ?_) (fun K hK => ?_)
                         · skip
                           have hcv50 := own_string (P := Tryd.prog) Tryd.underlying33 Tryd.underlying5 Tryd.underlying9 (Kd.own_of_R HO150.out)
                           refine value_ (w1 := ?_) (v := ?_) (by rfl) rfl ?_ ?_
                           rotate_left 2
                           · go_simp
                             constructor
                             · rfl
                             · rfl
                           clear hcv50
                           refine hK.out _ _ ⟨(blk_cell BK141.out 0).trans rfl, (blk_cell BK141.out 1).trans rfl, (blk_cell BK141.out 2).trans rfl, (blk_cell BK141.out 3).trans rfl⟩ (fun hHeld => ?_)
                           clear hK K
                           refine norm_ (a' := ?_) ?_ ?_
                           rotate_left
                           · show Act.put _ (some 34) _ = _
                             simp only [Act.put, List.setIfInBounds_toArray, List.set_cons_zero, List.set_cons_succ, i64_w, i32_w]
                             rfl
                           exact norm_ (by first | (simp only [putAll, Act.put, List.setIfInBounds_toArray, List.set_cons_zero, List.set_cons_succ]; done) | (simp only [putAll, Act.put, List.setIfInBounds_toArray, List.set_cons_zero, List.set_cons_succ]; rfl)) (hJ7_8 (v149) _ ⟨hHeld, (nR HO150.out), (nR HO_3.out), (nB BK141.out), (nH1 HB.out GE141.out)⟩)
                         · skip
                           refine goes_ Tryd.func27 (by kernel_rfl) rfl #[.int .i64 ((rd_T43 l0 x19_1).f0)] (by rfl) rfl rfl (by (try simp only [List.map_toArray, List.map_cons, List.map_nil]); first | done | rfl | (simp only [List.length_drop, List.length_take]; rfl)) ?_
                           with_reducible refine (strconv_Itoa_27.calls ((rd_T43 l0 x19_1).f0) t151 _ ?sideT A35.out).mono ?_
                           (case sideT => exact tb_on HTB.out (nH1 HB.out GE141.out))
                           rintro e w50 ⟨rfl, hb⟩
                           refine ⟨_, rfl, ?_⟩
                           have n0_ := Aside0.mk (Kd.R_below (nR HO_3.out) hb)
                           have n1_ := Aside0.mk (Kd.R_below (nR HO150.out) hb)
                           have n2_ := Aside0.mk (blk_below (g := gb141) (o := .cells #[.int .i64 ((rd_T43 l0 x19_1).f0), .int .i64 ((rd_T43 l0 x19_1).f1), .int .i64 ((rd_T43 l0 x19_1).f2), .bool false] 43 (0, 0)) (nB BK141.out) hb)
                           have n3_ := Aside0.mk (below_step (nH1 HB.out GE141.out) hb)
                           clear HO_3; clear HO150; clear BK141; clear HB; have HO_3 := n0_; have HO150 := n1_; have BK141 := n2_; have HB := n3_; clear n0_ n1_ n2_ n3_; (try clear hb); (try clear hb2); (try clear hk); (try clear hi)
                           refine hK.out _ _ ⟨(blk_cell BK141.out 0).trans rfl, (blk_cell BK141.out 1).trans rfl, (blk_cell BK141.out 2).trans rfl, (blk_cell BK141.out 3).trans rfl⟩ (fun hHeld => ?_)
                           clear hK K
                           refine norm_ (a' := ?_) ?_ ?_
                           rotate_left
                           · show Act.put _ (some 37) _ = _
                             simp only [Act.put, List.setIfInBounds_toArray, List.set_cons_zero, List.set_cons_succ, i64_w, i32_w]
                             rfl
                           exact norm_ (by first | (simp only [putAll, Act.put, List.setIfInBounds_toArray, List.set_cons_zero, List.set_cons_succ]; done) | (simp only [putAll, Act.put, List.setIfInBounds_toArray, List.set_cons_zero, List.set_cons_succ]; rfl)) (hJ7_11 (v149) _ ⟨hHeld, (nR HO150.out), (nR HO_3.out), (nB BK141.out), (nH1 HB.out GE141.out)⟩)
                     · skip
                       rintro _ w49 ⟨hS_, h0_, h1_, h2_⟩
                       have n0_ : Aside0 (Kd.R Kd.string 9 w49 w.heap.size (fun _ => True) v137 x3_1) := ⟨h0_⟩
                       have n1_ : Aside0 (w49.heap[gb141]? = some (.cells #[.int .i64 ((rd_T43 l0 x19_1).f0), .int .i64 ((rd_T43 l0 x19_1).f1), .int .i64 ((rd_T43 l0 x19_1).f2), .bool false] 43 (0, 0))) := ⟨h1_⟩
                       have n2_ : Aside0 (Below w.heap.size w w49) := ⟨h2_⟩
                       clear HO_3; clear BK141; clear HB; clear h0_ h1_ h2_; have HO_3 := n0_; have BK141 := n1_; have HB := n2_; clear n0_ n1_ n2_
                       have hHeld : w49.cell? ⟨gb141, 0, none⟩ = some (.int .i64 ((rd_T43 l0 x19_1).f0)) ∧ w49.cell? ⟨gb141, 1, none⟩ = some (.int .i64 ((rd_T43 l0 x19_1).f1)) ∧ w49.cell? ⟨gb141, 2, none⟩ = some (.int .i64 ((rd_T43 l0 x19_1).f2)) ∧ w49.cell? ⟨gb141, 3, none⟩ = some (.bool false) := hS_
                       refine norm_ (a' := ?_) ?_ ?_
                       rotate_left
                       · simp only [putAll, Act.put, List.setIfInBounds_toArray, List.set_cons_zero, List.set_cons_succ]
                         rfl
                       refine one_ (i := 7) (N := some 33) #[T,T,T,T,T,T,T,T,F,T,T,T,F,F,T,T,T,F,T,F,F,F] rfl rfl (one_of HT_.out (by kernel_rfl)) (by decide) (fun K hK => ?_)
                       refine Kd.R_lit_step (Kd.int .u8) _ 5 ?hg (N := 33) ?hd (xs := ([(65 + ((wrap64 (((rd_T43 l0 x19_1).f1) - 1)) % 256)) % 256] : List Int)) (inner := [.int .u8 ((65 + ((wrap64 (((rd_T43 l0 x19_1).f1) - 1)) % 256)) % 256)]) (ok := fun _ => True) (okp := fun _ => True) ?hr ?hp (fun _ hk => hk) trivial (Below.refl _ _) (Nat.le_refl _) (by simp) ?_; (case hd => rfl); (case hg => rfl); (case hr => first | (go_simp; done) | (go_simp; rfl) | (go_simp; simp [IntKind.wrap_u8]; done)); (case hp => exact (Reps.one (show Kd.M (Kd.int .u8) _ _ _ ((65 + ((wrap64 (((rd_T43 l0 x19_1).f1) - 1)) % 256)) % 256) [.int .u8 ((65 + ((wrap64 (((rd_T43 l0 x19_1).f1) - 1)) % 256)) % 256)] from rfl) (Reps.none _ _)))
                       intro v149 w50 ho51 hb hg_ hnew_
                       clear hg_ hnew_
                       (first | rw [← Ny148.out] at ho51 | (simp only [Int.reduceToNat] at ho51; rw [← Ny148.out] at ho51))
                       have n0_ := Aside0.mk (Kd.R_below (nR HO_3.out) hb)
                       have n1_ := Aside0.mk (Kd.R_lower ho51 (below_size (nH1 HB.out GE141.out)))
                       have n2_ := Aside0.mk (blk_below (g := gb141) (o := .cells #[.int .i64 ((rd_T43 l0 x19_1).f0), .int .i64 ((rd_T43 l0 x19_1).f1), .int .i64 ((rd_T43 l0 x19_1).f2), .bool false] 43 (0, 0)) (nB BK141.out) hb)
                       have n3_ := Aside0.mk (below_step (nH1 HB.out GE141.out) hb)
                       clear HO_3; clear BK141; clear HB; have HO_3 := n0_; have HO150 := n1_; have BK141 := n2_; have HB := n3_; clear n0_ n1_ n2_ n3_; clear hb ho51
                       refine hK.out _ _ ⟨(blk_cell BK141.out 0).trans rfl, (blk_cell BK141.out 1).trans rfl, (blk_cell BK141.out 2).trans rfl, (blk_cell BK141.out 3).trans rfl⟩ (fun hHeld => ?_)
                       clear hK K
                       refine norm_ (a' := ?_) ?_ ?_
                       rotate_left
                       · show Act.put _ (some 33) _ = _
                         simp only [Act.put, List.setIfInBounds_toArray, List.set_cons_zero, List.set_cons_succ, i64_w, i32_w]
                         rfl
                       exact norm_ (by first | (simp only [putAll, Act.put, List.setIfInBounds_toArray, List.set_cons_zero, List.set_cons_succ]; done) | (simp only [putAll, Act.put, List.setIfInBounds_toArray, List.set_cons_zero, List.set_cons_succ]; rfl)) (hJ7_11_16 (v149) _ ⟨hHeld, (nR HO150.out), (nR HO_3.out), (nB BK141.out), (nH1 HB.out GE141.out)⟩)
                   · skip
                     rintro v149 w50 ⟨hS_, h0_, h1_, h2_, h3_⟩
                     have n0_ : Aside0 (Kd.R (Kd.int .u8) 5 w50 w.heap.size (fun _ => True) v149 y148) := ⟨h0_⟩
                     have n1_ : Aside0 (Kd.R Kd.string 9 w50 w.heap.size (fun _ => True) v137 x3_1) := ⟨h1_⟩
                     have n2_ : Aside0 (w50.heap[gb141]? = some (.cells #[.int .i64 ((rd_T43 l0 x19_1).f0), .int .i64 ((rd_T43 l0 x19_1).f1), .int .i64 ((rd_T43 l0 x19_1).f2), .bool false] 43 (0, 0))) := ⟨h2_⟩
                     have n3_ : Aside0 (Below w.heap.size w w50) := ⟨h3_⟩
                     clear HO_3; clear BK141; clear HB; clear h0_ h1_ h2_ h3_; have HO150 := n0_; have HO_3 := n1_; have BK141 := n2_; have HB := n3_; clear n0_ n1_ n2_ n3_
                     have hHeld : w50.cell? ⟨gb141, 0, none⟩ = some (.int .i64 ((rd_T43 l0 x19_1).f0)) ∧ w50.cell? ⟨gb141, 1, none⟩ = some (.int .i64 ((rd_T43 l0 x19_1).f1)) ∧ w50.cell? ⟨gb141, 2, none⟩ = some (.int .i64 ((rd_T43 l0 x19_1).f2)) ∧ w50.cell? ⟨gb141, 3, none⟩ = some (.bool false) := hS_
                     refine norm_ (a' := ?_) ?_ ?_
                     rotate_left
                     · simp only [putAll, Act.put, List.setIfInBounds_toArray, List.set_cons_zero, List.set_cons_succ]
                       rfl
                     refine two_ (i := 8) (j := 16) (Ni := some 34) (Nj := some 42) #[T,T,T,T,T,T,T,T,T,T,T,T,F,F,T,T,F,F,T,F,F,F] #[T,T,T,T,T,T,T,T,F,T,T,T,F,F,T,T,T,F,T,F,F,F] rfl rfl rfl rfl (two_of HT_.out (by kernel_rfl)) (by decide) (by decide) (fun K hK => ?_) (fun K hK => ?_)
                     · skip
                       have hcv51 := own_string (P := Tryd.prog) Tryd.underlying33 Tryd.underlying5 Tryd.underlying9 (Kd.own_of_R HO150.out)
                       refine value_ (w1 := ?_) (v := ?_) (by rfl) rfl ?_ ?_
                       rotate_left 2
                       · go_simp
                         constructor
                         · rfl
                         · rfl
                       clear hcv51
                       refine hK.out _ _ ⟨(blk_cell BK141.out 0).trans rfl, (blk_cell BK141.out 1).trans rfl, (blk_cell BK141.out 2).trans rfl, (blk_cell BK141.out 3).trans rfl⟩ (fun hHeld => ?_)
                       clear hK K
                       refine norm_ (a' := ?_) ?_ ?_
                       rotate_left
                       · show Act.put _ (some 34) _ = _
                         simp only [Act.put, List.setIfInBounds_toArray, List.set_cons_zero, List.set_cons_succ, i64_w, i32_w]
                         rfl
                       refine pU 12 (some 38) #[T,T,T,T,T,T,T,T,T,T,T,T,T,F,T,T,F,F,T,F,F,F] rfl rfl HT_.out ?_
                       refine pU 13 (some 39) #[T,T,T,T,T,T,T,T,T,T,T,T,T,T,T,T,F,F,T,F,F,F] rfl rfl HT_.out ?_
                       exact norm_ (by first | (simp only [putAll, Act.put, List.setIfInBounds_toArray, List.set_cons_zero, List.set_cons_succ]; done) | (simp only [putAll, Act.put, List.setIfInBounds_toArray, List.set_cons_zero, List.set_cons_succ]; rfl)) (hJ7_8_11 (v149) _ ⟨hHeld, (nR HO150.out), (nR HO_3.out), (nB BK141.out), (nH1 HB.out GE141.out)⟩)
                     · skip
                       refine goes_ Tryd.func27 (by kernel_rfl) rfl #[.int .i64 ((rd_T43 l0 x19_1).f2)] (by rfl) rfl rfl (by (try simp only [List.map_toArray, List.map_cons, List.map_nil]); first | done | rfl | (simp only [List.length_drop, List.length_take]; rfl)) ?_
                       with_reducible refine (strconv_Itoa_27.calls ((rd_T43 l0 x19_1).f2) t152 _ ?sideT A38.out).mono ?_
                       (case sideT => exact tb_on HTB.out (nH1 HB.out GE141.out))
                       rintro e w51 ⟨rfl, hb⟩
                       refine ⟨_, rfl, ?_⟩
                       have n0_ := Aside0.mk (Kd.R_below (nR HO_3.out) hb)
                       have n1_ := Aside0.mk (Kd.R_below (nR HO150.out) hb)
                       have n2_ := Aside0.mk (blk_below (g := gb141) (o := .cells #[.int .i64 ((rd_T43 l0 x19_1).f0), .int .i64 ((rd_T43 l0 x19_1).f1), .int .i64 ((rd_T43 l0 x19_1).f2), .bool false] 43 (0, 0)) (nB BK141.out) hb)
                       have n3_ := Aside0.mk (below_step (nH1 HB.out GE141.out) hb)
                       clear HO_3; clear HO150; clear BK141; clear HB; have HO_3 := n0_; have HO150 := n1_; have BK141 := n2_; have HB := n3_; clear n0_ n1_ n2_ n3_; (try clear hb); (try clear hb2); (try clear hk); (try clear hi)
                       refine hK.out _ _ ⟨(blk_cell BK141.out 0).trans rfl, (blk_cell BK141.out 1).trans rfl, (blk_cell BK141.out 2).trans rfl, (blk_cell BK141.out 3).trans rfl⟩ (fun hHeld => ?_)
                       clear hK K
                       refine norm_ (a' := ?_) ?_ ?_
                       rotate_left
                       · show Act.put _ (some 42) _ = _
                         simp only [Act.put, List.setIfInBounds_toArray, List.set_cons_zero, List.set_cons_succ, i64_w, i32_w]
                         rfl
                       exact norm_ (by first | (simp only [putAll, Act.put, List.setIfInBounds_toArray, List.set_cons_zero, List.set_cons_succ]; done) | (simp only [putAll, Act.put, List.setIfInBounds_toArray, List.set_cons_zero, List.set_cons_succ]; rfl)) (hJ7_11_16 (v149) _ ⟨hHeld, (nR HO150.out), (nR HO_3.out), (nB BK141.out), (nH1 HB.out GE141.out)⟩)
                 · skip
                   rintro v149 w50 ⟨hS_, h0_, h1_, h2_, h3_⟩
                   have n0_ : Aside0 (Kd.R (Kd.int .u8) 5 w50 w.heap.size (fun _ => True) v149 y148) := ⟨h0_⟩
                   have n1_ : Aside0 (Kd.R Kd.string 9 w50 w.heap.size (fun _ => True) v137 x3_1) := ⟨h1_⟩
                   have n2_ : Aside0 (w50.heap[gb141]? = some (.cells #[.int .i64 ((rd_T43 l0 x19_1).f0), .int .i64 ((rd_T43 l0 x19_1).f1), .int .i64 ((rd_T43 l0 x19_1).f2), .bool false] 43 (0, 0))) := ⟨h2_⟩
                   have n3_ : Aside0 (Below w.heap.size w w50) := ⟨h3_⟩
                   clear HO_3; clear BK141; clear HB; clear h0_ h1_ h2_ h3_; have HO150 := n0_; have HO_3 := n1_; have BK141 := n2_; have HB := n3_; clear n0_ n1_ n2_ n3_
                   have hHeld : w50.cell? ⟨gb141, 0, none⟩ = some (.int .i64 ((rd_T43 l0 x19_1).f0)) ∧ w50.cell? ⟨gb141, 1, none⟩ = some (.int .i64 ((rd_T43 l0 x19_1).f1)) ∧ w50.cell? ⟨gb141, 2, none⟩ = some (.int .i64 ((rd_T43 l0 x19_1).f2)) ∧ w50.cell? ⟨gb141, 3, none⟩ = some (.bool false) := hS_
                   refine norm_ (a' := ?_) ?_ ?_
                   rotate_left
                   · simp only [putAll, Act.put, List.setIfInBounds_toArray, List.set_cons_zero, List.set_cons_succ]
                     rfl
                   refine one_ (i := 11) (N := some 37) #[T,T,T,T,T,T,T,T,T,T,T,T,F,F,T,T,F,F,T,F,F,F] rfl rfl (one_of HT_.out (by kernel_rfl)) (by decide) (fun K hK => ?_)
                   refine goes_ Tryd.func27 (by kernel_rfl) rfl #[.int .i64 ((rd_T43 l0 x19_1).f0)] (by rfl) rfl rfl (by (try simp only [List.map_toArray, List.map_cons, List.map_nil]); first | done | rfl | (simp only [List.length_drop, List.length_take]; rfl)) ?_
                   with_reducible refine (strconv_Itoa_27.calls ((rd_T43 l0 x19_1).f0) t151 _ ?sideT A35.out).mono ?_
                   (case sideT => exact tb_on HTB.out (nH1 HB.out GE141.out))
                   rintro e w51 ⟨rfl, hb⟩
                   refine ⟨_, rfl, ?_⟩
                   have n0_ := Aside0.mk (Kd.R_below (nR HO_3.out) hb)
                   have n1_ := Aside0.mk (Kd.R_below (nR HO150.out) hb)
                   have n2_ := Aside0.mk (blk_below (g := gb141) (o := .cells #[.int .i64 ((rd_T43 l0 x19_1).f0), .int .i64 ((rd_T43 l0 x19_1).f1), .int .i64 ((rd_T43 l0 x19_1).f2), .bool false] 43 (0, 0)) (nB BK141.out) hb)
                   have n3_ := Aside0.mk (below_step (nH1 HB.out GE141.out) hb)
                   clear HO_3; clear HO150; clear BK141; clear HB; have HO_3 := n0_; have HO150 := n1_; have BK141 := n2_; have HB := n3_; clear n0_ n1_ n2_ n3_; (try clear hb); (try clear hb2); (try clear hk); (try clear hi)
                   refine hK.out _ _ ⟨(blk_cell BK141.out 0).trans rfl, (blk_cell BK141.out 1).trans rfl, (blk_cell BK141.out 2).trans rfl, (blk_cell BK141.out 3).trans rfl⟩ (fun hHeld => ?_)
                   clear hK K
                   refine norm_ (a' := ?_) ?_ ?_
                   rotate_left
                   · show Act.put _ (some 37) _ = _
                     simp only [Act.put, List.setIfInBounds_toArray, List.set_cons_zero, List.set_cons_succ, i64_w, i32_w]
                     rfl
                   refine pU 12 (some 38) #[T,T,T,T,T,T,T,T,T,T,T,T,T,F,T,T,F,F,T,F,F,F] rfl rfl HT_.out ?_
                   refine pU 13 (some 39) #[T,T,T,T,T,T,T,T,T,T,T,T,T,T,T,T,F,F,T,F,F,F] rfl rfl HT_.out ?_
                   exact norm_ (by first | (simp only [putAll, Act.put, List.setIfInBounds_toArray, List.set_cons_zero, List.set_cons_succ]; done) | (simp only [putAll, Act.put, List.setIfInBounds_toArray, List.set_cons_zero, List.set_cons_succ]; rfl)) (hJ7_8_11 (v149) _ ⟨hHeld, (nR HO150.out), (nR HO_3.out), (nB BK141.out), (nH1 HB.out GE141.out)⟩)
               · skip
                 rintro v149 w51 ⟨hS_, h0_, h1_, h2_, h3_⟩
                 have n0_ : Aside0 (Kd.R (Kd.int .u8) 5 w51 w.heap.size (fun _ => True) v149 y148) := ⟨h0_⟩
                 have n1_ : Aside0 (Kd.R Kd.string 9 w51 w.heap.size (fun _ => True) v137 x3_1) := ⟨h1_⟩
                 have n2_ : Aside0 (w51.heap[gb141]? = some (.cells #[.int .i64 ((rd_T43 l0 x19_1).f0), .int .i64 ((rd_T43 l0 x19_1).f1), .int .i64 ((rd_T43 l0 x19_1).f2), .bool false] 43 (0, 0))) := ⟨h2_⟩
                 have n3_ : Aside0 (Below w.heap.size w w51) := ⟨h3_⟩
                 clear HO_3; clear BK141; clear HB; clear h0_ h1_ h2_ h3_; have HO150 := n0_; have HO_3 := n1_; have BK141 := n2_; have HB := n3_; clear n0_ n1_ n2_ n3_
                 have hHeld : w51.cell? ⟨gb141, 0, none⟩ = some (.int .i64 ((rd_T43 l0 x19_1).f0)) ∧ w51.cell? ⟨gb141, 1, none⟩ = some (.int .i64 ((rd_T43 l0 x19_1).f1)) ∧ w51.cell? ⟨gb141, 2, none⟩ = some (.int .i64 ((rd_T43 l0 x19_1).f2)) ∧ w51.cell? ⟨gb141, 3, none⟩ = some (.bool false) := hS_
                 refine norm_ (a' := ?_) ?_ ?_
                 rotate_left
                 · simp only [putAll, Act.put, List.setIfInBounds_toArray, List.set_cons_zero, List.set_cons_succ]
                   rfl
                 refine one_ (i := 8) (N := some 34) #[T,T,T,T,T,T,T,T,T,T,T,T,F,F,T,T,T,F,T,F,F,F] rfl rfl (one_of HT_.out (by kernel_rfl)) (by decide) (fun K hK => ?_)
                 have hcv52 := own_string (P := Tryd.prog) Tryd.underlying33 Tryd.underlying5 Tryd.underlying9 (Kd.own_of_R HO150.out)
                 refine value_ (w1 := ?_) (v := ?_) (by rfl) rfl ?_ ?_
                 rotate_left 2
                 · go_simp
                   constructor
                   · rfl
                   · rfl
                 clear hcv52
                 refine hK.out _ _ ⟨(blk_cell BK141.out 0).trans rfl, (blk_cell BK141.out 1).trans rfl, (blk_cell BK141.out 2).trans rfl, (blk_cell BK141.out 3).trans rfl⟩ (fun hHeld => ?_)
                 clear hK K
                 refine norm_ (a' := ?_) ?_ ?_
                 rotate_left
                 · show Act.put _ (some 34) _ = _
                   simp only [Act.put, List.setIfInBounds_toArray, List.set_cons_zero, List.set_cons_succ, i64_w, i32_w]
                   rfl
                 refine pU 12 (some 38) #[T,T,T,T,T,T,T,T,T,T,T,T,T,F,T,T,T,F,T,F,F,F] rfl rfl HT_.out ?_
                 refine pU 13 (some 39) #[T,T,T,T,T,T,T,T,T,T,T,T,T,T,T,T,T,F,T,F,F,F] rfl rfl HT_.out ?_
                 exact norm_ (by first | (simp only [putAll, Act.put, List.setIfInBounds_toArray, List.set_cons_zero, List.set_cons_succ]; done) | (simp only [putAll, Act.put, List.setIfInBounds_toArray, List.set_cons_zero, List.set_cons_succ]; rfl)) (hJ7_8_11_16 (v149) _ ⟨hHeld, (nR HO150.out), (nR HO_3.out), (nB BK141.out), (nH1 HB.out GE141.out)⟩)
             · skip
               rintro v149 w51 ⟨hS_, h0_, h1_, h2_, h3_⟩
               have n0_ : Aside0 (Kd.R (Kd.int .u8) 5 w51 w.heap.size (fun _ => True) v149 y148) := ⟨h0_⟩
               have n1_ : Aside0 (Kd.R Kd.string 9 w51 w.heap.size (fun _ => True) v137 x3_1) := ⟨h1_⟩
               have n2_ : Aside0 (w51.heap[gb141]? = some (.cells #[.int .i64 ((rd_T43 l0 x19_1).f0), .int .i64 ((rd_T43 l0 x19_1).f1), .int .i64 ((rd_T43 l0 x19_1).f2), .bool false] 43 (0, 0))) := ⟨h2_⟩
               have n3_ : Aside0 (Below w.heap.size w w51) := ⟨h3_⟩
               clear HO_3; clear BK141; clear HB; clear h0_ h1_ h2_ h3_; have HO150 := n0_; have HO_3 := n1_; have BK141 := n2_; have HB := n3_; clear n0_ n1_ n2_ n3_
               have hHeld : w51.cell? ⟨gb141, 0, none⟩ = some (.int .i64 ((rd_T43 l0 x19_1).f0)) ∧ w51.cell? ⟨gb141, 1, none⟩ = some (.int .i64 ((rd_T43 l0 x19_1).f1)) ∧ w51.cell? ⟨gb141, 2, none⟩ = some (.int .i64 ((rd_T43 l0 x19_1).f2)) ∧ w51.cell? ⟨gb141, 3, none⟩ = some (.bool false) := hS_
               refine norm_ (a' := ?_) ?_ ?_
               rotate_left
               · simp only [putAll, Act.put, List.setIfInBounds_toArray, List.set_cons_zero, List.set_cons_succ]
                 rfl
               refine one_ (i := 16) (N := some 42) #[T,T,T,T,T,T,T,T,T,T,T,T,T,T,T,T,T,F,T,F,F,F] rfl rfl (one_of HT_.out (by kernel_rfl)) (by decide) (fun K hK => ?_)
               refine goes_ Tryd.func27 (by kernel_rfl) rfl #[.int .i64 ((rd_T43 l0 x19_1).f2)] (by rfl) rfl rfl (by (try simp only [List.map_toArray, List.map_cons, List.map_nil]); first | done | rfl | (simp only [List.length_drop, List.length_take]; rfl)) ?_
               with_reducible refine (strconv_Itoa_27.calls ((rd_T43 l0 x19_1).f2) t152 _ ?sideT A38.out).mono ?_
               (case sideT => exact tb_on HTB.out (nH1 HB.out GE141.out))
               rintro e w52 ⟨rfl, hb⟩
               refine ⟨_, rfl, ?_⟩
               have n0_ := Aside0.mk (Kd.R_below (nR HO_3.out) hb)
               have n1_ := Aside0.mk (Kd.R_below (nR HO150.out) hb)
               have n2_ := Aside0.mk (blk_below (g := gb141) (o := .cells #[.int .i64 ((rd_T43 l0 x19_1).f0), .int .i64 ((rd_T43 l0 x19_1).f1), .int .i64 ((rd_T43 l0 x19_1).f2), .bool false] 43 (0, 0)) (nB BK141.out) hb)
               have n3_ := Aside0.mk (below_step (nH1 HB.out GE141.out) hb)
               clear HO_3; clear HO150; clear BK141; clear HB; have HO_3 := n0_; have HO150 := n1_; have BK141 := n2_; have HB := n3_; clear n0_ n1_ n2_ n3_; (try clear hb); (try clear hb2); (try clear hk); (try clear hi)
               refine hK.out _ _ ⟨(blk_cell BK141.out 0).trans rfl, (blk_cell BK141.out 1).trans rfl, (blk_cell BK141.out 2).trans rfl, (blk_cell BK141.out 3).trans rfl⟩ (fun hHeld => ?_)
               clear hK K
               refine norm_ (a' := ?_) ?_ ?_
               rotate_left
               · show Act.put _ (some 42) _ = _
                 simp only [Act.put, List.setIfInBounds_toArray, List.set_cons_zero, List.set_cons_succ, i64_w, i32_w]
                 rfl
               exact norm_ (by first | (simp only [putAll, Act.put, List.setIfInBounds_toArray, List.set_cons_zero, List.set_cons_succ]; done) | (simp only [putAll, Act.put, List.setIfInBounds_toArray, List.set_cons_zero, List.set_cons_succ]; rfl)) (hJ7_8_11_16 (v149) _ ⟨hHeld, (nR HO150.out), (nR HO_3.out), (nB BK141.out), (nH1 HB.out GE141.out)⟩)
           rintro v149 w52 ⟨hS_, h0_, h1_, h2_, h3_⟩
           have n0_ : Aside0 (Kd.R (Kd.int .u8) 5 w52 w.heap.size (fun _ => True) v149 y148) := ⟨h0_⟩
           have n1_ : Aside0 (Kd.R Kd.string 9 w52 w.heap.size (fun _ => True) v137 x3_1) := ⟨h1_⟩
           have n2_ : Aside0 (w52.heap[gb141]? = some (.cells #[.int .i64 ((rd_T43 l0 x19_1).f0), .int .i64 ((rd_T43 l0 x19_1).f1), .int .i64 ((rd_T43 l0 x19_1).f2), .bool false] 43 (0, 0))) := ⟨h2_⟩
           have n3_ : Aside0 (Below w.heap.size w w52) := ⟨h3_⟩
           clear HO_3; clear BK141; clear HB; clear h0_ h1_ h2_ h3_; have HO150 := n0_; have HO_3 := n1_; have BK141 := n2_; have HB := n3_; clear n0_ n1_ n2_ n3_
           have hHeld : w52.cell? ⟨gb141, 0, none⟩ = some (.int .i64 ((rd_T43 l0 x19_1).f0)) ∧ w52.cell? ⟨gb141, 1, none⟩ = some (.int .i64 ((rd_T43 l0 x19_1).f1)) ∧ w52.cell? ⟨gb141, 2, none⟩ = some (.int .i64 ((rd_T43 l0 x19_1).f2)) ∧ w52.cell? ⟨gb141, 3, none⟩ = some (.bool false) := hS_
           have p42 : 0 ≤ (x19_1 : Int) := of_decide_eq_true nQ
           have q42 : (x19_1 : Int) < ((x3_1.length : Int) : Int) := of_decide_eq_true nQ
           obtain ⟨go42, co42, eo42, gb42, gl42, cl42, HG42⟩ := Kd.R_form HO_3.out (by omega)
           (first | cases eo42 | (injection eo42 with ea_ en_ ec_; (first | subst ea_ | (injection ea_ with ea_; subst ea_)); subst ec_; clear en_))
           have GB42 := Aside0.mk gb42
           have GG42 := Aside0.mk HG42
           clear gb42 gl42 HG42
           obtain ⟨hx42_0, hf42_0⟩ := Kd.R_celln (⟨#[]⟩ : ByteArray) HO_3.out (x19_1 : Int) p42 q42
           replace p42 := eq_true p42; replace q42 := eq_true q42
           have HP53 := Kd.R_putn HO_3.out (x19_1 : Int) (((((strOfNums y148) ++ t151) ++ (⟨#[47]⟩ : ByteArray)) ++ t152) ++ (⟨#[62]⟩ : ByteArray))
           rw [← Ny153.out] at HP53
           have HQ53 := Aside0.mk HP53
           clear HP53
           refine norm_ (a' := ?_) ?_ ?_
           rotate_left
           · simp only [putAll, Act.put, List.setIfInBounds_toArray, List.set_cons_zero, List.set_cons_succ]
             rfl
           refine pU 17 (some 43) #[T,T,T,T,T,T,T,T,T,T,T,T,T,T,T,T,T,T,T,F,F,F] rfl rfl HT_.out ?_
           refine pU 19 (some 45) #[T,T,T,T,T,T,T,T,T,T,T,T,T,T,T,T,T,T,T,T,F,F] rfl rfl HT_.out ?_
           refine pU 20 (some 46) #[T,T,T,T,T,T,T,T,T,T,T,T,T,T,T,T,T,T,T,T,T,F] rfl rfl HT_.out ?_
           refine last_ (i := 21) (N := none) #[T,T,T,T,T,T,T,T,T,T,T,T,T,T,T,T,T,T,T,T,T,T] rfl rfl (one_of HT_.out (by kernel_rfl)) (by decide) (fun K hK => ?_)
           refine skip_ (w1 := ?_) (by rfl) rfl ?_ ?_
           rotate_left
           · go_simp; rfl
           refine hK.out _ _ ?_
           clear hK K
           refine done_ (done_of HT_.out (by kernel_rfl)) ?_
           try go_wp2
           go_roundg k1
           case measure => have := HK1.out; omega
           case rel => exact ⟨(y153), (wrap64 (x19_1 + 1)), nS, H', ⟨by have := HK1.out; omega⟩, ⟨by (with_reducible repeat (first | apply Kd.R_alloc | apply Kd.R_drewN | apply Kd.R_drew)); exact HQ53.out⟩, ⟨nH2 HB.out GB42.out GE141.out⟩⟩
       · rw [if_neg c11] at H
         have c11b0 : decide (x19_1 < (l0.length : Int)) = false := decide_eq_false c11
         clear c11
         replace H := Option.bind_eq_some_iff.mp H
         obtain ⟨t139, A540, H⟩ := H
         replace H : (if (t139.size : Int) > 120 then (some (⟨#[]⟩ : ByteArray)) else (some t139)) = some r := H
         have A54 := Aside0.mk A540
         clear A540
         by_cases c55 : (t139.size : Int) > 120
         · rw [if_pos c55] at H
           have c55b0 : decide (120 < (t139.size : Int)) = true := decide_eq_true c55
           have c55b1 : decide (120 < t139.size) = true := decide_eq_true (by omega)
           clear c55; obtain rfl := Option.some.inj H
           obtain ⟨Ao56, co56, eo56⟩ := Kd.R_slice HO_3.out
           subst eo56
           go_wp2_with (first | ((with_reducible refine gate_callee (f := 28) rfl ?_); refine goesL_ (some 49) rfl rfl Tryd.func28 (by kernel_rfl) rfl #[.slice Ao56 x3_1.length co56, .string (⟨#[43]⟩ : ByteArray)] rfl (by (try simp only [List.map_toArray, List.map_cons, List.map_nil]); first | done | rfl | (simp only [List.length_drop, List.length_take]; rfl)) ?_; (with_reducible refine (strings_Join.calls _ _ x3_1 (⟨#[43]⟩ : ByteArray) t139 _ ?side1 ?side2 A54.out).mono ?_); (case side1 => repeat (first | exact (Kd.R_reads' HO_3.out).2.2 | (with_reducible refine Kd.C_alloc ?_ _) | (with_reducible refine Kd.C_drewN ?_ _) | (with_reducible refine Kd.C_drew ?_))); (case side2 => exact (Kd.R_reads' HO_3.out).2.1); rintro e w57 ⟨rfl, hb⟩; refine ⟨_, rfl, ?_⟩; have n0_ := Aside0.mk (Kd.R_below (nR HO_3.out) hb); have n1_ := Aside0.mk (below_step (nH HB.out) hb); clear HO_3; clear HB; have HO_3 := n0_; have HB := n1_; clear n0_ n1_; (try clear hb); (try clear hb2); (try clear hk); (try clear hi)))
           go_ret
           exact ⟨by first | rfl | (simp [errW_none, errW_some] <;> rfl) | (simp [*, errW_none, errW_some] <;> first | rfl | (simp [wrap64]; done)), nH HB.out⟩
         · rw [if_neg c55] at H
           have c55b0 : decide (120 < (t139.size : Int)) = false := decide_eq_false c55
           have c55b1 : decide (120 < t139.size) = false := decide_eq_false (by omega)
           clear c55; obtain rfl := Option.some.inj H
           obtain ⟨Ao58, co58, eo58⟩ := Kd.R_slice HO_3.out
           subst eo58
           go_wp2_with (first | ((with_reducible refine gate_callee (f := 28) rfl ?_); refine goesL_ (some 49) rfl rfl Tryd.func28 (by kernel_rfl) rfl #[.slice Ao58 x3_1.length co58, .string (⟨#[43]⟩ : ByteArray)] rfl (by (try simp only [List.map_toArray, List.map_cons, List.map_nil]); first | done | rfl | (simp only [List.length_drop, List.length_take]; rfl)) ?_; (with_reducible refine (strings_Join.calls _ _ x3_1 (⟨#[43]⟩ : ByteArray) t139 _ ?side1 ?side2 A54.out).mono ?_); (case side1 => repeat (first | exact (Kd.R_reads' HO_3.out).2.2 | (with_reducible refine Kd.C_alloc ?_ _) | (with_reducible refine Kd.C_drewN ?_ _) | (with_reducible refine Kd.C_drew ?_))); (case side2 => exact (Kd.R_reads' HO_3.out).2.1); rintro e w59 ⟨rfl, hb⟩; refine ⟨_, rfl, ?_⟩; have n0_ := Aside0.mk (Kd.R_below (nR HO_3.out) hb); have n1_ := Aside0.mk (below_step (nH HB.out) hb); clear HO_3; clear HB; have HO_3 := n0_; have HB := n1_; clear n0_ n1_; (try clear hb); (try clear hb2); (try clear hk); (try clear hi)))
           go_ret
           exact ⟨by first | rfl | (simp [errW_none, errW_some] <;> rfl) | (simp [*, errW_none, errW_some] <;> first | rfl | (simp [wrap64]; done)), nH HB.out⟩
 · replace c3 := Bool.eq_false_iff.mpr c3
   subst c3
   have H1 : (some (⟨#[]⟩ : ByteArray)) = some r := by rw [if_neg (show ¬ (false = true) by decide)] at H; exact H
   clear H; have H := H1; clear H1; obtain rfl := Option.some.inj H
   go_enter Tryd.func9, Tryd.ntmps9
   go_wp2_with (first | ((with_reducible refine gate_callee (f := 20) rfl ?_); refine goesL_ (some 9) rfl rfl Tryd.func20 (by kernel_rfl) rfl #[.slice A0 l0.length c0] rfl (by (try simp only [List.map_toArray, List.map_cons, List.map_nil]); first | done | rfl | (simp only [List.length_drop, List.length_take]; rfl)) ?_; (with_reducible refine (impl_FormOk.calls _ _ l0 false _ ?side1 ?side2 A2.out).mono ?_); (case side1 => repeat (first | exact HR0.out | (with_reducible refine Kd.C_alloc ?_ _) | (with_reducible refine Kd.C_drewN ?_ _) | (with_reducible refine Kd.C_drew ?_))); (case side2 => exact HC0.out); rintro e w60 ⟨rfl, hb⟩; refine ⟨_, rfl, ?_⟩; have n0_ := Aside0.mk (below_step (nH HB.out) hb); clear HB; have HB := n0_; clear n0_; (try clear hb); (try clear hb2); (try clear hk); (try clear hi)))
   go_ret
   exact ⟨by first | rfl | (simp [errW_none, errW_some] <;> rfl) | (simp [*, errW_none, errW_some] <;> first | rfl | (simp [wrap64]; done)), nH HB.out⟩
end Go.Proofs.YtnojpcmaalbdhaaDoor.P
