/- Contracts of functions, each with its plain Lean function. -/
import Derived.Test.YtdpjoblnjjkbfaaDoorNe
import Derived.Test.YtdpjoblnjjkbfaaDoorNb
import Derived.Test.YtdpjoblnjjkbfaaDoorS2
import Derived.Test.YtdpjoblnjjkbfaaDoorPx0
import Derived.Test.YtdpjoblnjjkbfaaDoorPx1
namespace Go.Proofs.YtdpjoblnjjkbfaaDoor.P
open Go.RowKit Go.Proofs.YtdpjoblnjjkbfaaDoorW.PrintWords Go.Proofs.YtdpjoblnjjkbfaaDoorW.PrintLast Go.Proofs.YtdpjoblnjjkbfaaDoorW.PrintMore
attribute [local go_sem] max2_int min2_int max_two min_two max_three min_three max_four min_four   -- for this text's walks alone
set_option linter.unusedVariables false
set_option linter.unusedSimpArgs false
/-! ### strconv_Itoa_63: function 63, on 0..999999, by the shelf -/
theorem strconv_Itoa_63.calls (a0 : Int) (r : ByteArray) (w : World) (hT : Tb w) (h : strconv_Itoa_63.f a0 = some r) :
 Calls Tryd.prog 63 #[.int .i64 a0] w fun e w' => e = .returned (.string r) ∧ Below w.heap.size w w' := by
 unfold strconv_Itoa_63.f at h
 split at h
 · rename_i c
   obtain rfl := Option.some.inj h
   obtain ⟨i, rfl⟩ := Int.eq_ofNat_of_zero_le c.1
   refine (hd_Itoa i (by omega) w hT).mono ?_
   rintro e w' ⟨rfl, hb⟩
   exact ⟨rfl, hb⟩
 · simp at h
/-! ### impl_twoDigits: function 52 -/
set_option maxHeartbeats 8000000 in
set_option maxRecDepth 100000 in
theorem impl_twoDigits.calls (a0 : Int) (r : ByteArray) (w : World) (hT : Tb w) (h : impl_twoDigits.f a0 = some r) :
 Calls Tryd.prog 52 #[.int .i64 a0] w fun e w' => e = .returned (.string r) ∧ Below w.heap.size w w' := by
 have HTB := aM hT
 clear hT
 have HB := aM (Below.refl w.heap.size w)
 have H : (if a0 < 10 then ((strconv_Itoa_63.f a0).bind fun t143 => (if 1 + t143.size ≤ 9223372036854775807 then (some ((⟨#[48]⟩ : ByteArray) ++ t143)) else (none))) else ((strconv_Itoa_63.f a0).bind fun t144 => (some t144))) = some r := h
 clear h
 by_cases c2 : a0 < 10
 · rw [if_pos c2] at H
   have c2b0 : decide (a0 < 10) = true := decide_eq_true c2
   clear c2
   obtain ⟨t143, A30, H⟩ := Option.bind_eq_some_iff.mp H
   have A3 := aM A30
   clear A30
   by_cases c4 : 1 + t143.size ≤ 9223372036854775807
   rotate_left
   · (rw [if_neg c4] at H; exact absurd H (by simp))
   rw [if_pos c4] at H
   have c4b0 := eq_true c4
   have c4b1 : decide (1 + t143.size ≤ 9223372036854775807) = true := decide_eq_true c4
   try have c4b2 : (9223372036854775807 < 1 + t143.size) = False := eq_false (Nat.not_lt.2 c4)
   obtain rfl := Option.some.inj H
   go_enter Tryd.func52, Tryd.ntmps52
   go_wp2_with (first | ((with_reducible refine gate_callee (f := 63) rfl ?_); refine goesL_ (some 6) rfl rfl Tryd.func63 (by kernel_rfl) rfl #[.int .i64 a0] rfl (by (try simp only [List.map_toArray, List.map_cons, List.map_nil]); first | done | rfl | (simp only [List.length_drop, List.length_take]; rfl)) ?_; (with_reducible refine (strconv_Itoa_63.calls a0 t143 _ ?sideT A3.out).mono ?_); (case sideT => exact tb_on HTB.out (nH HB.out)); rintro e w5 ⟨rfl, hb⟩; refine ⟨_, rfl, ?_⟩; have n_ := aM (below_step (nH HB.out) hb); clear HB; have HB := n_; clear n_; (try clear hb); (try clear hb2); (try clear hk); (try clear hi)))
   go_ret
   exact ⟨by first | rfl | (simp [errW_none, errW_some] <;> rfl) | (simp [*, errW_none, errW_some] <;> first | rfl | (simp [wrap64]; done)), nH HB.out⟩
 · rw [if_neg c2] at H
   have c2b0 : decide (a0 < 10) = false := decide_eq_false c2
   clear c2
   obtain ⟨t144, A60, H⟩ := Option.bind_eq_some_iff.mp H
   have A6 := aM A60
   clear A60; obtain rfl := Option.some.inj H
   go_enter Tryd.func52, Tryd.ntmps52
   go_wp2_with (first | ((with_reducible refine gate_callee (f := 63) rfl ?_); refine goesL_ (some 9) rfl rfl Tryd.func63 (by kernel_rfl) rfl #[.int .i64 a0] rfl (by (try simp only [List.map_toArray, List.map_cons, List.map_nil]); first | done | rfl | (simp only [List.length_drop, List.length_take]; rfl)) ?_; (with_reducible refine (strconv_Itoa_63.calls a0 t144 _ ?sideT A6.out).mono ?_); (case sideT => exact tb_on HTB.out (nH HB.out)); rintro e w7 ⟨rfl, hb⟩; refine ⟨_, rfl, ?_⟩; have n_ := aM (below_step (nH HB.out) hb); clear HB; have HB := n_; clear n_; (try clear hb); (try clear hb2); (try clear hk); (try clear hi)))
   go_ret
   exact ⟨by first | rfl | (simp [errW_none, errW_some] <;> rfl) | (simp [*, errW_none, errW_some] <;> first | rfl | (simp [wrap64]; done)), nH HB.out⟩
/-! ### impl_TimeText: function 25 -/
set_option maxHeartbeats 8000000 in
set_option maxRecDepth 100000 in
theorem impl_TimeText.calls (a0 : Int) (r : ByteArray) (w : World) (hT : Tb w) (h : impl_TimeText.f a0 = some r) :
 Calls Tryd.prog 25 #[.int .i64 a0] w fun e w' => e = .returned (.string r) ∧ Below w.heap.size w w' := by
 have HTB := aM hT
 clear hT
 have HB := aM (Below.refl w.heap.size w)
 have H : ((impl_isMinute.f a0).bind fun t145 => (if t145 = true then ((impl_twoDigits.f (wrap64 (Int.tdiv a0 60))).bind fun t146 => (if t146.size + 1 ≤ 9223372036854775807 then ((impl_twoDigits.f (Int.tmod a0 60)).bind fun t147 => (if (t146 ++ (⟨#[58]⟩ : ByteArray)).size + t147.size ≤ 9223372036854775807 then (some ((t146 ++ (⟨#[58]⟩ : ByteArray)) ++ t147)) else (none))) else (none))) else (some (⟨#[]⟩ : ByteArray)))) = some r := h
 clear h
 obtain ⟨t145, A20, H⟩ := Option.bind_eq_some_iff.mp H
 have A2 := aM A20
 clear A20
 by_cases c3 : t145 = true
 · subst c3
   rw [if_pos rfl] at H
   obtain ⟨t146, A40, H⟩ := Option.bind_eq_some_iff.mp H
   have A4 := aM A40
   clear A40
   by_cases c5 : t146.size + 1 ≤ 9223372036854775807
   rotate_left
   · (rw [if_neg c5] at H; exact absurd H (by simp))
   rw [if_pos c5] at H
   have c5b0 := eq_true c5
   have c5b1 : decide (t146.size + 1 ≤ 9223372036854775807) = true := decide_eq_true c5
   try have c5b2 : (9223372036854775807 < t146.size + 1) = False := eq_false (Nat.not_lt.2 c5)
   obtain ⟨t147, A60, H⟩ := Option.bind_eq_some_iff.mp H
   have A6 := aM A60
   clear A60
   by_cases c7 : (t146 ++ (⟨#[58]⟩ : ByteArray)).size + t147.size ≤ 9223372036854775807
   rotate_left
   · (rw [if_neg c7] at H; exact absurd H (by simp))
   rw [if_pos c7] at H
   have c7b0 := eq_true c7
   have c7b1 : decide ((t146 ++ (⟨#[58]⟩ : ByteArray)).size + t147.size ≤ 9223372036854775807) = true := decide_eq_true c7
   try have c7b2 : (9223372036854775807 < (t146 ++ (⟨#[58]⟩ : ByteArray)).size + t147.size) = False := eq_false (Nat.not_lt.2 c7)
   try have c7b3 : (9223372036854775807 < t146.size + 1 + t147.size) = False := by have q := c7b2; simp only [ByteArray.size_append] at q; exact q
   obtain rfl := Option.some.inj H
   go_enter Tryd.func25, Tryd.ntmps25
   go_wp2_with (first | ((with_reducible refine gate_callee (f := 51) rfl ?_); refine goesL_ (some 4) rfl rfl Tryd.func51 (by kernel_rfl) rfl #[.int .i64 a0] rfl (by (try simp only [List.map_toArray, List.map_cons, List.map_nil]); first | done | rfl | (simp only [List.length_drop, List.length_take]; rfl)) ?_; (with_reducible refine (impl_isMinute.calls a0 true _ A2.out).mono ?_); rintro e w' ⟨rfl, ⟨nd, rfl⟩⟩; refine ⟨_, rfl, ?_⟩) | ((with_reducible refine gate_callee (f := 52) rfl ?_); refine goesL_ (some 8) rfl rfl Tryd.func52 (by kernel_rfl) rfl #[.int .i64 (wrap64 (Int.tdiv a0 60))] rfl (by (try simp only [List.map_toArray, List.map_cons, List.map_nil]); first | done | rfl | (simp only [List.length_drop, List.length_take]; rfl)) ?_; (with_reducible refine (impl_twoDigits.calls (wrap64 (Int.tdiv a0 60)) t146 _ ?sideT A4.out).mono ?_); (case sideT => exact tb_on HTB.out (nH HB.out)); rintro e w8 ⟨rfl, hb⟩; refine ⟨_, rfl, ?_⟩; have n_ := aM (below_step (nH HB.out) hb); clear HB; have HB := n_; clear n_; (try clear hb); (try clear hb2); (try clear hk); (try clear hi)) | ((with_reducible refine gate_callee (f := 52) rfl ?_); refine goesL_ (some 12) rfl rfl Tryd.func52 (by kernel_rfl) rfl #[.int .i64 (Int.tmod a0 60)] rfl (by (try simp only [List.map_toArray, List.map_cons, List.map_nil]); first | done | rfl | (simp only [List.length_drop, List.length_take]; rfl)) ?_; (with_reducible refine (impl_twoDigits.calls (Int.tmod a0 60) t147 _ ?sideT A6.out).mono ?_); (case sideT => exact tb_on HTB.out (nH HB.out)); rintro e w9 ⟨rfl, hb⟩; refine ⟨_, rfl, ?_⟩; have n_ := aM (below_step (nH HB.out) hb); clear HB; have HB := n_; clear n_; (try clear hb); (try clear hb2); (try clear hk); (try clear hi)))
   go_ret
   exact ⟨by first | rfl | (simp [errW_none, errW_some] <;> rfl) | (simp [*, errW_none, errW_some] <;> first | rfl | (simp [wrap64]; done)), nH HB.out⟩
 · replace c3 := Bool.eq_false_iff.mpr c3
   subst c3
   rw [if_neg nN] at H; obtain rfl := Option.some.inj H
   go_enter Tryd.func25, Tryd.ntmps25
   go_wp2_with (first | ((with_reducible refine gate_callee (f := 51) rfl ?_); refine goesL_ (some 4) rfl rfl Tryd.func51 (by kernel_rfl) rfl #[.int .i64 a0] rfl (by (try simp only [List.map_toArray, List.map_cons, List.map_nil]); first | done | rfl | (simp only [List.length_drop, List.length_take]; rfl)) ?_; (with_reducible refine (impl_isMinute.calls a0 false _ A2.out).mono ?_); rintro e w' ⟨rfl, ⟨nd, rfl⟩⟩; refine ⟨_, rfl, ?_⟩))
   go_ret
   exact ⟨by first | rfl | (simp [errW_none, errW_some] <;> rfl) | (simp [*, errW_none, errW_some] <;> first | rfl | (simp [wrap64]; done)), nH HB.out⟩
end Go.Proofs.YtdpjoblnjjkbfaaDoor.P
