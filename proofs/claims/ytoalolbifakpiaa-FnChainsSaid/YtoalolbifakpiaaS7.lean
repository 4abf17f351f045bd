/- cmp.Compare on int: a contract by hand. -/
import Derived.Test.YtoalolbifakpiaaY2
namespace Go.Proofs.Ytoalolbifakpiaa.P
open Go.Proofs Go.Shelf Go.RowKit Go.Lib Go.Sort
set_option linter.unusedVariables false
set_option linter.unusedSimpArgs false

def sy_cmp (x y : Int) : Int := if x < y then -1 else if y < x then 1 else 0
set_option maxRecDepth 100000 in
theorem hd_isNaN (x : Int) (w : World) : Calls Try.prog 75 #[.int .i64 x] w fun e w' => e = .returned (.bool false) ∧ w' = w := by
  go_enter Try.func75, Try.ntmps75
  go_wp2
  go_ret
  exact ⟨by simp, rfl⟩
set_option maxRecDepth 100000 in
theorem hd_compare (x y : Int) (w : World) : Calls Try.prog 72 #[.int .i64 x, .int .i64 y] w fun e w' => e = .returned (.int .i64 (sy_cmp x y)) ∧ w' = w := by
  go_enter Try.func72, Try.ntmps72
  by_cases c : x < y
  · have e : sy_cmp x y = -1 := by rw [sy_cmp, if_pos c]
    go_wp2_with (go_at_call 75; refine (hd_isNaN _ _).mono ?_; rintro e_ w2 ⟨rfl, rfl⟩)
    go_ret
    exact ⟨by rw [e]; first | rfl | simp, rfl⟩
  · by_cases c2 : y < x
    · have e : sy_cmp x y = 1 := by rw [sy_cmp, if_neg c, if_pos c2]
      go_wp2_with (go_at_call 75; refine (hd_isNaN _ _).mono ?_; rintro e_ w2 ⟨rfl, rfl⟩)
      go_ret
      exact ⟨by rw [e]; first | rfl | simp, rfl⟩
    · have e : sy_cmp x y = 0 := by rw [sy_cmp, if_neg c, if_neg c2]
      go_wp2_with (go_at_call 75; refine (hd_isNaN _ _).mono ?_; rintro e_ w2 ⟨rfl, rfl⟩)
      go_ret
      exact ⟨by rw [e]; first | rfl | simp, rfl⟩
end Go.Proofs.Ytoalolbifakpiaa.P
