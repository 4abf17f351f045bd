/- Contracts of the functions of the program, each one with its plain Lean function; written by a program of the session out of the translation. -/
import Derived.Test.YtdpjoblnjjkbfaaDoorNb
import Derived.Test.YtdpjoblnjjkbfaaDoorPx0
import Derived.Test.YtdpjoblnjjkbfaaDoorPx2
import Derived.Test.YtdpjoblnjjkbfaaDoorPx8
namespace Go.Proofs.YtdpjoblnjjkbfaaDoor.P
open Go.RowKit Go.Proofs.YtdpjoblnjjkbfaaDoorW.PrintWords Go.Proofs.YtdpjoblnjjkbfaaDoorW.PrintLast Go.Proofs.YtdpjoblnjjkbfaaDoorW.PrintMore
attribute [local go_sem] max2_int min2_int max_two min_two max_three min_three max_four min_four   -- for this text's walks alone
set_option linter.unusedVariables false
set_option linter.unusedSimpArgs false
/-! ### spec_TimeText: function 22 -/
theorem spec_TimeText.mono : ∀ a0 k, LeO (spec_TimeText.f k a0) (spec_TimeText.f (k + 1) a0) := by
 intro a0 k
 unfold spec_TimeText.f
 repeat' first
  | (with_reducible exact spec_l01Num.mono _ _)
  | (with_reducible exact LeO.refl _)
  | (with_reducible exact LeO.none _)
  | (with_reducible refine LeO.ite ?_ ?_)
  | (with_reducible refine LeO.bind ?_ (fun _ => ?_))
  | exact spec_l01Num.mono _ _
  | exact LeO.none _
  | refine LeO.ite ?_ ?_
  | refine LeO.bind ?_ (fun _ => ?_)
set_option maxHeartbeats 8000000 in
set_option maxRecDepth 100000 in
theorem spec_TimeText.calls (k : Nat) (a0 : Int) (r : ByteArray) (w : World) (h : spec_TimeText.f k a0 = some r) :
 Calls Tryd.prog 22 #[.int .i64 a0] w fun e w' => e = .returned (.string r) ∧ Below w.heap.size w w' := by
 have HB := Aside0.mk (Below.refl w.heap.size w)
 have H : ((spec_l01In.f a0 0 100000).bind fun t143 => (if t143 = true then ((spec_l01Num.f k (wrap64 (Int.tdiv a0 60))).bind fun t144 => ((spec_l01Num.f k (Int.tmod a0 60)).bind fun t145 => (if (t144.size : Int) < 2 then (if 1 + t144.size ≤ 9223372036854775807 then (if (t145.size : Int) < 2 then (if 1 + t145.size ≤ 9223372036854775807 then (if ((⟨#[48]⟩ : ByteArray) ++ t144).size + 1 ≤ 9223372036854775807 then (if (((⟨#[48]⟩ : ByteArray) ++ t144) ++ (⟨#[58]⟩ : ByteArray)).size + ((⟨#[48]⟩ : ByteArray) ++ t145).size ≤ 9223372036854775807 then (some ((((⟨#[48]⟩ : ByteArray) ++ t144) ++ (⟨#[58]⟩ : ByteArray)) ++ ((⟨#[48]⟩ : ByteArray) ++ t145))) else (none)) else (none)) else (none)) else (if ((⟨#[48]⟩ : ByteArray) ++ t144).size + 1 ≤ 9223372036854775807 then (if (((⟨#[48]⟩ : ByteArray) ++ t144) ++ (⟨#[58]⟩ : ByteArray)).size + t145.size ≤ 9223372036854775807 then (some ((((⟨#[48]⟩ : ByteArray) ++ t144) ++ (⟨#[58]⟩ : ByteArray)) ++ t145)) else (none)) else (none))) else (none)) else (if (t145.size : Int) < 2 then (if 1 + t145.size ≤ 9223372036854775807 then (if t144.size + 1 ≤ 9223372036854775807 then (if (t144 ++ (⟨#[58]⟩ : ByteArray)).size + ((⟨#[48]⟩ : ByteArray) ++ t145).size ≤ 9223372036854775807 then (some ((t144 ++ (⟨#[58]⟩ : ByteArray)) ++ ((⟨#[48]⟩ : ByteArray) ++ t145))) else (none)) else (none)) else (none)) else (if t144.size + 1 ≤ 9223372036854775807 then (if (t144 ++ (⟨#[58]⟩ : ByteArray)).size + t145.size ≤ 9223372036854775807 then (some ((t144 ++ (⟨#[58]⟩ : ByteArray)) ++ t145)) else (none)) else (none)))))) else (some (⟨#[]⟩ : ByteArray)))) = some r := h
 clear h
 replace H := Option.bind_eq_some_iff.mp H
 obtain ⟨t143, A20, H⟩ := H
 replace H : (if t143 = true then ((spec_l01Num.f k (wrap64 (Int.tdiv a0 60))).bind fun t144 => ((spec_l01Num.f k (Int.tmod a0 60)).bind fun t145 => (if (t144.size : Int) < 2 then (if 1 + t144.size ≤ 9223372036854775807 then (if (t145.size : Int) < 2 then (if 1 + t145.size ≤ 9223372036854775807 then (if ((⟨#[48]⟩ : ByteArray) ++ t144).size + 1 ≤ 9223372036854775807 then (if (((⟨#[48]⟩ : ByteArray) ++ t144) ++ (⟨#[58]⟩ : ByteArray)).size + ((⟨#[48]⟩ : ByteArray) ++ t145).size ≤ 9223372036854775807 then (some ((((⟨#[48]⟩ : ByteArray) ++ t144) ++ (⟨#[58]⟩ : ByteArray)) ++ ((⟨#[48]⟩ : ByteArray) ++ t145))) else (none)) else (none)) else (none)) else (if ((⟨#[48]⟩ : ByteArray) ++ t144).size + 1 ≤ 9223372036854775807 then (if (((⟨#[48]⟩ : ByteArray) ++ t144) ++ (⟨#[58]⟩ : ByteArray)).size + t145.size ≤ 9223372036854775807 then (some ((((⟨#[48]⟩ : ByteArray) ++ t144) ++ (⟨#[58]⟩ : ByteArray)) ++ t145)) else (none)) else (none))) else (none)) else (if (t145.size : Int) < 2 then (if 1 + t145.size ≤ 9223372036854775807 then (if t144.size + 1 ≤ 9223372036854775807 then (if (t144 ++ (⟨#[58]⟩ : ByteArray)).size + ((⟨#[48]⟩ : ByteArray) ++ t145).size ≤ 9223372036854775807 then (some ((t144 ++ (⟨#[58]⟩ : ByteArray)) ++ ((⟨#[48]⟩ : ByteArray) ++ t145))) else (none)) else (none)) else (none)) else (if t144.size + 1 ≤ 9223372036854775807 then (if (t144 ++ (⟨#[58]⟩ : ByteArray)).size + t145.size ≤ 9223372036854775807 then (some ((t144 ++ (⟨#[58]⟩ : ByteArray)) ++ t145)) else (none)) else (none)))))) else (some (⟨#[]⟩ : ByteArray))) = some r := H
 have A2 := Aside0.mk A20
 clear A20
 by_cases c3 : t143 = true
 · subst c3
   have H1 : ((spec_l01Num.f k (wrap64 (Int.tdiv a0 60))).bind fun t144 => ((spec_l01Num.f k (Int.tmod a0 60)).bind fun t145 => (if (t144.size : Int) < 2 then (if 1 + t144.size ≤ 9223372036854775807 then (if (t145.size : Int) < 2 then (if 1 + t145.size ≤ 9223372036854775807 then (if ((⟨#[48]⟩ : ByteArray) ++ t144).size + 1 ≤ 9223372036854775807 then (if (((⟨#[48]⟩ : ByteArray) ++ t144) ++ (⟨#[58]⟩ : ByteArray)).size + ((⟨#[48]⟩ : ByteArray) ++ t145).size ≤ 9223372036854775807 then (some ((((⟨#[48]⟩ : ByteArray) ++ t144) ++ (⟨#[58]⟩ : ByteArray)) ++ ((⟨#[48]⟩ : ByteArray) ++ t145))) else (none)) else (none)) else (none)) else (if ((⟨#[48]⟩ : ByteArray) ++ t144).size + 1 ≤ 9223372036854775807 then (if (((⟨#[48]⟩ : ByteArray) ++ t144) ++ (⟨#[58]⟩ : ByteArray)).size + t145.size ≤ 9223372036854775807 then (some ((((⟨#[48]⟩ : ByteArray) ++ t144) ++ (⟨#[58]⟩ : ByteArray)) ++ t145)) else (none)) else (none))) else (none)) else (if (t145.size : Int) < 2 then (if 1 + t145.size ≤ 9223372036854775807 then (if t144.size + 1 ≤ 9223372036854775807 then (if (t144 ++ (⟨#[58]⟩ : ByteArray)).size + ((⟨#[48]⟩ : ByteArray) ++ t145).size ≤ 9223372036854775807 then (some ((t144 ++ (⟨#[58]⟩ : ByteArray)) ++ ((⟨#[48]⟩ : ByteArray) ++ t145))) else (none)) else (none)) else (none)) else (if t144.size + 1 ≤ 9223372036854775807 then (if (t144 ++ (⟨#[58]⟩ : ByteArray)).size + t145.size ≤ 9223372036854775807 then (some ((t144 ++ (⟨#[58]⟩ : ByteArray)) ++ t145)) else (none)) else (none)))))) = some r := by rw [if_pos rfl] at H; exact H
   clear H; have H := H1; clear H1
   replace H := Option.bind_eq_some_iff.mp H
   obtain ⟨t144, A40, H⟩ := H
   replace H : ((spec_l01Num.f k (Int.tmod a0 60)).bind fun t145 => (if (t144.size : Int) < 2 then (if 1 + t144.size ≤ 9223372036854775807 then (if (t145.size : Int) < 2 then (if 1 + t145.size ≤ 9223372036854775807 then (if ((⟨#[48]⟩ : ByteArray) ++ t144).size + 1 ≤ 9223372036854775807 then (if (((⟨#[48]⟩ : ByteArray) ++ t144) ++ (⟨#[58]⟩ : ByteArray)).size + ((⟨#[48]⟩ : ByteArray) ++ t145).size ≤ 9223372036854775807 then (some ((((⟨#[48]⟩ : ByteArray) ++ t144) ++ (⟨#[58]⟩ : ByteArray)) ++ ((⟨#[48]⟩ : ByteArray) ++ t145))) else (none)) else (none)) else (none)) else (if ((⟨#[48]⟩ : ByteArray) ++ t144).size + 1 ≤ 9223372036854775807 then (if (((⟨#[48]⟩ : ByteArray) ++ t144) ++ (⟨#[58]⟩ : ByteArray)).size + t145.size ≤ 9223372036854775807 then (some ((((⟨#[48]⟩ : ByteArray) ++ t144) ++ (⟨#[58]⟩ : ByteArray)) ++ t145)) else (none)) else (none))) else (none)) else (if (t145.size : Int) < 2 then (if 1 + t145.size ≤ 9223372036854775807 then (if t144.size + 1 ≤ 9223372036854775807 then (if (t144 ++ (⟨#[58]⟩ : ByteArray)).size + ((⟨#[48]⟩ : ByteArray) ++ t145).size ≤ 9223372036854775807 then (some ((t144 ++ (⟨#[58]⟩ : ByteArray)) ++ ((⟨#[48]⟩ : ByteArray) ++ t145))) else (none)) else (none)) else (none)) else (if t144.size + 1 ≤ 9223372036854775807 then (if (t144 ++ (⟨#[58]⟩ : ByteArray)).size + t145.size ≤ 9223372036854775807 then (some ((t144 ++ (⟨#[58]⟩ : ByteArray)) ++ t145)) else (none)) else (none))))) = some r := H
   have A4 := Aside0.mk A40
   clear A40
   replace H := Option.bind_eq_some_iff.mp H
   obtain ⟨t145, A50, H⟩ := H
   replace H : (if (t144.size : Int) < 2 then (if 1 + t144.size ≤ 9223372036854775807 then (if (t145.size : Int) < 2 then (if 1 + t145.size ≤ 9223372036854775807 then (if ((⟨#[48]⟩ : ByteArray) ++ t144).size + 1 ≤ 9223372036854775807 then (if (((⟨#[48]⟩ : ByteArray) ++ t144) ++ (⟨#[58]⟩ : ByteArray)).size + ((⟨#[48]⟩ : ByteArray) ++ t145).size ≤ 9223372036854775807 then (some ((((⟨#[48]⟩ : ByteArray) ++ t144) ++ (⟨#[58]⟩ : ByteArray)) ++ ((⟨#[48]⟩ : ByteArray) ++ t145))) else (none)) else (none)) else (none)) else (if ((⟨#[48]⟩ : ByteArray) ++ t144).size + 1 ≤ 9223372036854775807 then (if (((⟨#[48]⟩ : ByteArray) ++ t144) ++ (⟨#[58]⟩ : ByteArray)).size + t145.size ≤ 9223372036854775807 then (some ((((⟨#[48]⟩ : ByteArray) ++ t144) ++ (⟨#[58]⟩ : ByteArray)) ++ t145)) else (none)) else (none))) else (none)) else (if (t145.size : Int) < 2 then (if 1 + t145.size ≤ 9223372036854775807 then (if t144.size + 1 ≤ 9223372036854775807 then (if (t144 ++ (⟨#[58]⟩ : ByteArray)).size + ((⟨#[48]⟩ : ByteArray) ++ t145).size ≤ 9223372036854775807 then (some ((t144 ++ (⟨#[58]⟩ : ByteArray)) ++ ((⟨#[48]⟩ : ByteArray) ++ t145))) else (none)) else (none)) else (none)) else (if t144.size + 1 ≤ 9223372036854775807 then (if (t144 ++ (⟨#[58]⟩ : ByteArray)).size + t145.size ≤ 9223372036854775807 then (some ((t144 ++ (⟨#[58]⟩ : ByteArray)) ++ t145)) else (none)) else (none)))) = some r := H
   have A5 := Aside0.mk A50
   clear A50
   by_cases c6 : (t144.size : Int) < 2
   · rw [if_pos c6] at H
     have c6b0 : decide ((t144.size : Int) < 2) = true := decide_eq_true c6
     have c6b1 : decide (t144.size < 2) = true := decide_eq_true (by omega)
     clear c6
     by_cases c7 : 1 + t144.size ≤ 9223372036854775807
     rotate_left
     · (rw [if_neg c7] at H; exact absurd H (by simp))
     rw [if_pos c7] at H
     have c7b0 := eq_true c7
     have c7b1 : decide (1 + t144.size ≤ 9223372036854775807) = true := decide_eq_true c7
     try have c7b2 : (9223372036854775807 < 1 + t144.size) = False := eq_false (Nat.not_lt.2 c7)
     by_cases c8 : (t145.size : Int) < 2
     · rw [if_pos c8] at H
       have c8b0 : decide ((t145.size : Int) < 2) = true := decide_eq_true c8
       have c8b1 : decide (t145.size < 2) = true := decide_eq_true (by omega)
       clear c8
       by_cases c9 : 1 + t145.size ≤ 9223372036854775807
       rotate_left
       · (rw [if_neg c9] at H; exact absurd H (by simp))
       rw [if_pos c9] at H
       have c9b0 := eq_true c9
       have c9b1 : decide (1 + t145.size ≤ 9223372036854775807) = true := decide_eq_true c9
       try have c9b2 : (9223372036854775807 < 1 + t145.size) = False := eq_false (Nat.not_lt.2 c9)
       by_cases c10 : ((⟨#[48]⟩ : ByteArray) ++ t144).size + 1 ≤ 9223372036854775807
       rotate_left
       · (rw [if_neg c10] at H; exact absurd H (by simp))
       rw [if_pos c10] at H
       have c10b0 := eq_true c10
       have c10b1 : decide (((⟨#[48]⟩ : ByteArray) ++ t144).size + 1 ≤ 9223372036854775807) = true := decide_eq_true c10
       try have c10b2 : (9223372036854775807 < ((⟨#[48]⟩ : ByteArray) ++ t144).size + 1) = False := eq_false (Nat.not_lt.2 c10)
       try have c10b3 : (9223372036854775807 < 1 + t144.size + 1) = False := by have q := c10b2; simp only [ByteArray.size_append] at q; exact q
       by_cases c11 : (((⟨#[48]⟩ : ByteArray) ++ t144) ++ (⟨#[58]⟩ : ByteArray)).size + ((⟨#[48]⟩ : ByteArray) ++ t145).size ≤ 9223372036854775807
       rotate_left
       · (rw [if_neg c11] at H; exact absurd H (by simp))
       rw [if_pos c11] at H
       have c11b0 := eq_true c11
       have c11b1 : decide ((((⟨#[48]⟩ : ByteArray) ++ t144) ++ (⟨#[58]⟩ : ByteArray)).size + ((⟨#[48]⟩ : ByteArray) ++ t145).size ≤ 9223372036854775807) = true := decide_eq_true c11
       try have c11b2 : (9223372036854775807 < (((⟨#[48]⟩ : ByteArray) ++ t144) ++ (⟨#[58]⟩ : ByteArray)).size + ((⟨#[48]⟩ : ByteArray) ++ t145).size) = False := eq_false (Nat.not_lt.2 c11)
       try have c11b3 : (9223372036854775807 < 1 + t144.size + 1 + (1 + t145.size)) = False := by have q := c11b2; simp only [ByteArray.size_append] at q; exact q
       obtain rfl := Option.some.inj H
       go_enter Tryd.func22, Tryd.ntmps22
       go_wp2_with (first | ((with_reducible refine gate_callee (f := 47) rfl ?_); refine goesL_ (some 6) rfl rfl Tryd.func47 (by kernel_rfl) rfl #[.int .i64 a0, .int .i64 0, .int .i64 100000] rfl (by (try simp only [List.map_toArray, List.map_cons, List.map_nil]); first | done | rfl | (simp only [List.length_drop, List.length_take]; rfl)) ?_; (with_reducible refine (spec_l01In.calls a0 0 100000 true _ A2.out).mono ?_); rintro e w' ⟨rfl, ⟨nd, rfl⟩⟩; refine ⟨_, rfl, ?_⟩) | ((with_reducible refine gate_callee (f := 49) rfl ?_); refine goesL_ (some 10) rfl rfl Tryd.func49 (by kernel_rfl) rfl #[.int .i64 (wrap64 (Int.tdiv a0 60))] rfl (by (try simp only [List.map_toArray, List.map_cons, List.map_nil]); first | done | rfl | (simp only [List.length_drop, List.length_take]; rfl)) ?_; (with_reducible refine (spec_l01Num.calls k (wrap64 (Int.tdiv a0 60)) t144 _ A4.out).mono ?_); rintro e w12 ⟨rfl, hb⟩; refine ⟨_, rfl, ?_⟩; have n0_ := Aside0.mk (below_step (nH HB.out) hb); clear HB; have HB := n0_; clear n0_; (try clear hb); (try clear hb2); (try clear hk); (try clear hi)) | ((with_reducible refine gate_callee (f := 49) rfl ?_); refine goesL_ (some 13) rfl rfl Tryd.func49 (by kernel_rfl) rfl #[.int .i64 (Int.tmod a0 60)] rfl (by (try simp only [List.map_toArray, List.map_cons, List.map_nil]); first | done | rfl | (simp only [List.length_drop, List.length_take]; rfl)) ?_; (with_reducible refine (spec_l01Num.calls k (Int.tmod a0 60) t145 _ A5.out).mono ?_); rintro e w13 ⟨rfl, hb⟩; refine ⟨_, rfl, ?_⟩; have n0_ := Aside0.mk (below_step (nH HB.out) hb); clear HB; have HB := n0_; clear n0_; (try clear hb); (try clear hb2); (try clear hk); (try clear hi)))
       go_ret
       exact ⟨by first | rfl | (simp [errW_none, errW_some] <;> rfl) | (simp [*, errW_none, errW_some] <;> first | rfl | (simp [wrap64]; done)), nH HB.out⟩
     · rw [if_neg c8] at H
       have c8b0 : decide ((t145.size : Int) < 2) = false := decide_eq_false c8
       have c8b1 : decide (t145.size < 2) = false := decide_eq_false (by omega)
       clear c8
       by_cases c14 : ((⟨#[48]⟩ : ByteArray) ++ t144).size + 1 ≤ 9223372036854775807
       rotate_left
       · (rw [if_neg c14] at H; exact absurd H (by simp))
       rw [if_pos c14] at H
       have c14b0 := eq_true c14
       have c14b1 : decide (((⟨#[48]⟩ : ByteArray) ++ t144).size + 1 ≤ 9223372036854775807) = true := decide_eq_true c14
       try have c14b2 : (9223372036854775807 < ((⟨#[48]⟩ : ByteArray) ++ t144).size + 1) = False := eq_false (Nat.not_lt.2 c14)
       try have c14b3 : (9223372036854775807 < 1 + t144.size + 1) = False := by have q := c14b2; simp only [ByteArray.size_append] at q; exact q
       by_cases c15 : (((⟨#[48]⟩ : ByteArray) ++ t144) ++ (⟨#[58]⟩ : ByteArray)).size + t145.size ≤ 9223372036854775807
       rotate_left
       · (rw [if_neg c15] at H; exact absurd H (by simp))
       rw [if_pos c15] at H
       have c15b0 := eq_true c15
       have c15b1 : decide ((((⟨#[48]⟩ : ByteArray) ++ t144) ++ (⟨#[58]⟩ : ByteArray)).size + t145.size ≤ 9223372036854775807) = true := decide_eq_true c15
       try have c15b2 : (9223372036854775807 < (((⟨#[48]⟩ : ByteArray) ++ t144) ++ (⟨#[58]⟩ : ByteArray)).size + t145.size) = False := eq_false (Nat.not_lt.2 c15)
       try have c15b3 : (9223372036854775807 < 1 + t144.size + 1 + t145.size) = False := by have q := c15b2; simp only [ByteArray.size_append] at q; exact q
       obtain rfl := Option.some.inj H
       go_enter Tryd.func22, Tryd.ntmps22
       go_wp2_with (first | ((with_reducible refine gate_callee (f := 47) rfl ?_); refine goesL_ (some 6) rfl rfl Tryd.func47 (by kernel_rfl) rfl #[.int .i64 a0, .int .i64 0, .int .i64 100000] rfl (by (try simp only [List.map_toArray, List.map_cons, List.map_nil]); first | done | rfl | (simp only [List.length_drop, List.length_take]; rfl)) ?_; (with_reducible refine (spec_l01In.calls a0 0 100000 true _ A2.out).mono ?_); rintro e w' ⟨rfl, ⟨nd, rfl⟩⟩; refine ⟨_, rfl, ?_⟩) | ((with_reducible refine gate_callee (f := 49) rfl ?_); refine goesL_ (some 10) rfl rfl Tryd.func49 (by kernel_rfl) rfl #[.int .i64 (wrap64 (Int.tdiv a0 60))] rfl (by (try simp only [List.map_toArray, List.map_cons, List.map_nil]); first | done | rfl | (simp only [List.length_drop, List.length_take]; rfl)) ?_; (with_reducible refine (spec_l01Num.calls k (wrap64 (Int.tdiv a0 60)) t144 _ A4.out).mono ?_); rintro e w16 ⟨rfl, hb⟩; refine ⟨_, rfl, ?_⟩; have n0_ := Aside0.mk (below_step (nH HB.out) hb); clear HB; have HB := n0_; clear n0_; (try clear hb); (try clear hb2); (try clear hk); (try clear hi)) | ((with_reducible refine gate_callee (f := 49) rfl ?_); refine goesL_ (some 13) rfl rfl Tryd.func49 (by kernel_rfl) rfl #[.int .i64 (Int.tmod a0 60)] rfl (by (try simp only [List.map_toArray, List.map_cons, List.map_nil]); first | done | rfl | (simp only [List.length_drop, List.length_take]; rfl)) ?_; (with_reducible refine (spec_l01Num.calls k (Int.tmod a0 60) t145 _ A5.out).mono ?_); rintro e w17 ⟨rfl, hb⟩; refine ⟨_, rfl, ?_⟩; have n0_ := Aside0.mk (below_step (nH HB.out) hb); clear HB; have HB := n0_; clear n0_; (try clear hb); (try clear hb2); (try clear hk); (try clear hi)))
       go_ret
       exact ⟨by first | rfl | (simp [errW_none, errW_some] <;> rfl) | (simp [*, errW_none, errW_some] <;> first | rfl | (simp [wrap64]; done)), nH HB.out⟩
   · rw [if_neg c6] at H
     have c6b0 : decide ((t144.size : Int) < 2) = false := decide_eq_false c6
     have c6b1 : decide (t144.size < 2) = false := decide_eq_false (by omega)
     clear c6
     by_cases c18 : (t145.size : Int) < 2
     · rw [if_pos c18] at H
       have c18b0 : decide ((t145.size : Int) < 2) = true := decide_eq_true c18
       have c18b1 : decide (t145.size < 2) = true := decide_eq_true (by omega)
       clear c18
       by_cases c19 : 1 + t145.size ≤ 9223372036854775807
       rotate_left
       · (rw [if_neg c19] at H; exact absurd H (by simp))
       rw [if_pos c19] at H
       have c19b0 := eq_true c19
       have c19b1 : decide (1 + t145.size ≤ 9223372036854775807) = true := decide_eq_true c19
       try have c19b2 : (9223372036854775807 < 1 + t145.size) = False := eq_false (Nat.not_lt.2 c19)
       by_cases c20 : t144.size + 1 ≤ 9223372036854775807
       rotate_left
       · (rw [if_neg c20] at H; exact absurd H (by simp))
       rw [if_pos c20] at H
       have c20b0 := eq_true c20
       have c20b1 : decide (t144.size + 1 ≤ 9223372036854775807) = true := decide_eq_true c20
       try have c20b2 : (9223372036854775807 < t144.size + 1) = False := eq_false (Nat.not_lt.2 c20)
       by_cases c21 : (t144 ++ (⟨#[58]⟩ : ByteArray)).size + ((⟨#[48]⟩ : ByteArray) ++ t145).size ≤ 9223372036854775807
       rotate_left
       · (rw [if_neg c21] at H; exact absurd H (by simp))
       rw [if_pos c21] at H
       have c21b0 := eq_true c21
       have c21b1 : decide ((t144 ++ (⟨#[58]⟩ : ByteArray)).size + ((⟨#[48]⟩ : ByteArray) ++ t145).size ≤ 9223372036854775807) = true := decide_eq_true c21
       try have c21b2 : (9223372036854775807 < (t144 ++ (⟨#[58]⟩ : ByteArray)).size + ((⟨#[48]⟩ : ByteArray) ++ t145).size) = False := eq_false (Nat.not_lt.2 c21)
       try have c21b3 : (9223372036854775807 < t144.size + 1 + (1 + t145.size)) = False := by have q := c21b2; simp only [ByteArray.size_append] at q; exact q
       obtain rfl := Option.some.inj H
       go_enter Tryd.func22, Tryd.ntmps22
       go_wp2_with (first | ((with_reducible refine gate_callee (f := 47) rfl ?_); refine goesL_ (some 6) rfl rfl Tryd.func47 (by kernel_rfl) rfl #[.int .i64 a0, .int .i64 0, .int .i64 100000] rfl (by (try simp only [List.map_toArray, List.map_cons, List.map_nil]); first | done | rfl | (simp only [List.length_drop, List.length_take]; rfl)) ?_; (with_reducible refine (spec_l01In.calls a0 0 100000 true _ A2.out).mono ?_); rintro e w' ⟨rfl, ⟨nd, rfl⟩⟩; refine ⟨_, rfl, ?_⟩) | ((with_reducible refine gate_callee (f := 49) rfl ?_); refine goesL_ (some 10) rfl rfl Tryd.func49 (by kernel_rfl) rfl #[.int .i64 (wrap64 (Int.tdiv a0 60))] rfl (by (try simp only [List.map_toArray, List.map_cons, List.map_nil]); first | done | rfl | (simp only [List.length_drop, List.length_take]; rfl)) ?_; (with_reducible refine (spec_l01Num.calls k (wrap64 (Int.tdiv a0 60)) t144 _ A4.out).mono ?_); rintro e w22 ⟨rfl, hb⟩; refine ⟨_, rfl, ?_⟩; have n0_ := Aside0.mk (below_step (nH HB.out) hb); clear HB; have HB := n0_; clear n0_; (try clear hb); (try clear hb2); (try clear hk); (try clear hi)) | ((with_reducible refine gate_callee (f := 49) rfl ?_); refine goesL_ (some 13) rfl rfl Tryd.func49 (by kernel_rfl) rfl #[.int .i64 (Int.tmod a0 60)] rfl (by (try simp only [List.map_toArray, List.map_cons, List.map_nil]); first | done | rfl | (simp only [List.length_drop, List.length_take]; rfl)) ?_; (with_reducible refine (spec_l01Num.calls k (Int.tmod a0 60) t145 _ A5.out).mono ?_); rintro e w23 ⟨rfl, hb⟩; refine ⟨_, rfl, ?_⟩; have n0_ := Aside0.mk (below_step (nH HB.out) hb); clear HB; have HB := n0_; clear n0_; (try clear hb); (try clear hb2); (try clear hk); (try clear hi)))
       go_ret
       exact ⟨by first | rfl | (simp [errW_none, errW_some] <;> rfl) | (simp [*, errW_none, errW_some] <;> first | rfl | (simp [wrap64]; done)), nH HB.out⟩
     · rw [if_neg c18] at H
       have c18b0 : decide ((t145.size : Int) < 2) = false := decide_eq_false c18
       have c18b1 : decide (t145.size < 2) = false := decide_eq_false (by omega)
       clear c18
       by_cases c24 : t144.size + 1 ≤ 9223372036854775807
       rotate_left
       · (rw [if_neg c24] at H; exact absurd H (by simp))
       rw [if_pos c24] at H
       have c24b0 := eq_true c24
       have c24b1 : decide (t144.size + 1 ≤ 9223372036854775807) = true := decide_eq_true c24
       try have c24b2 : (9223372036854775807 < t144.size + 1) = False := eq_false (Nat.not_lt.2 c24)
       by_cases c25 : (t144 ++ (⟨#[58]⟩ : ByteArray)).size + t145.size ≤ 9223372036854775807
       rotate_left
       · (rw [if_neg c25] at H; exact absurd H (by simp))
       rw [if_pos c25] at H
       have c25b0 := eq_true c25
       have c25b1 : decide ((t144 ++ (⟨#[58]⟩ : ByteArray)).size + t145.size ≤ 9223372036854775807) = true := decide_eq_true c25
       try have c25b2 : (9223372036854775807 < (t144 ++ (⟨#[58]⟩ : ByteArray)).size + t145.size) = False := eq_false (Nat.not_lt.2 c25)
       try have c25b3 : (9223372036854775807 < t144.size + 1 + t145.size) = False := by have q := c25b2; simp only [ByteArray.size_append] at q; exact q
       obtain rfl := Option.some.inj H
       go_enter Tryd.func22, Tryd.ntmps22
       go_wp2_with (first | ((with_reducible refine gate_callee (f := 47) rfl ?_); refine goesL_ (some 6) rfl rfl Tryd.func47 (by kernel_rfl) rfl #[.int .i64 a0, .int .i64 0, .int .i64 100000] rfl (by (try simp only [List.map_toArray, List.map_cons, List.map_nil]); first | done | rfl | (simp only [List.length_drop, List.length_take]; rfl)) ?_; (with_reducible refine (spec_l01In.calls a0 0 100000 true _ A2.out).mono ?_); rintro e w' ⟨rfl, ⟨nd, rfl⟩⟩; refine ⟨_, rfl, ?_⟩) | ((with_reducible refine gate_callee (f := 49) rfl ?_); refine goesL_ (some 10) rfl rfl Tryd.func49 (by kernel_rfl) rfl #[.int .i64 (wrap64 (Int.tdiv a0 60))] rfl (by (try simp only [List.map_toArray, List.map_cons, List.map_nil]); first | done | rfl | (simp only [List.length_drop, List.length_take]; rfl)) ?_; (with_reducible refine (spec_l01Num.calls k (wrap64 (Int.tdiv a0 60)) t144 _ A4.out).mono ?_); rintro e w26 ⟨rfl, hb⟩; refine ⟨_, rfl, ?_⟩; have n0_ := Aside0.mk (below_step (nH HB.out) hb); clear HB; have HB := n0_; clear n0_; (try clear hb); (try clear hb2); (try clear hk); (try clear hi)) | ((with_reducible refine gate_callee (f := 49) rfl ?_); refine goesL_ (some 13) rfl rfl Tryd.func49 (by kernel_rfl) rfl #[.int .i64 (Int.tmod a0 60)] rfl (by (try simp only [List.map_toArray, List.map_cons, List.map_nil]); first | done | rfl | (simp only [List.length_drop, List.length_take]; rfl)) ?_; (with_reducible refine (spec_l01Num.calls k (Int.tmod a0 60) t145 _ A5.out).mono ?_); rintro e w27 ⟨rfl, hb⟩; refine ⟨_, rfl, ?_⟩; have n0_ := Aside0.mk (below_step (nH HB.out) hb); clear HB; have HB := n0_; clear n0_; (try clear hb); (try clear hb2); (try clear hk); (try clear hi)))
       go_ret
       exact ⟨by first | rfl | (simp [errW_none, errW_some] <;> rfl) | (simp [*, errW_none, errW_some] <;> first | rfl | (simp [wrap64]; done)), nH HB.out⟩
 · replace c3 := Bool.eq_false_iff.mpr c3
   subst c3
   have H1 : (some (⟨#[]⟩ : ByteArray)) = some r := by rw [if_neg (show ¬ (false = true) by decide)] at H; exact H
   clear H; have H := H1; clear H1; obtain rfl := Option.some.inj H
   go_enter Tryd.func22, Tryd.ntmps22
   go_wp2_with (first | ((with_reducible refine gate_callee (f := 47) rfl ?_); refine goesL_ (some 6) rfl rfl Tryd.func47 (by kernel_rfl) rfl #[.int .i64 a0, .int .i64 0, .int .i64 100000] rfl (by (try simp only [List.map_toArray, List.map_cons, List.map_nil]); first | done | rfl | (simp only [List.length_drop, List.length_take]; rfl)) ?_; (with_reducible refine (spec_l01In.calls a0 0 100000 false _ A2.out).mono ?_); rintro e w' ⟨rfl, ⟨nd, rfl⟩⟩; refine ⟨_, rfl, ?_⟩))
   go_ret
   exact ⟨by first | rfl | (simp [errW_none, errW_some] <;> rfl) | (simp [*, errW_none, errW_some] <;> first | rfl | (simp [wrap64]; done)), nH HB.out⟩
end Go.Proofs.YtdpjoblnjjkbfaaDoor.P
