/- The stable sort of an empty row: a contract by hand. -/
import Derived.Test.YtoalolbifakpiaaS7
namespace Go.Proofs.Ytoalolbifakpiaa.P
open Go.Proofs Go.Shelf Go.RowKit Go.Lib Go.Sort
set_option linter.unusedVariables false
set_option linter.unusedSimpArgs false

set_option maxRecDepth 100000 in
theorem hd_ins0 (A : Option Addr) (cap : Nat) (v : Value) (w : World) : Calls Try.prog 76 #[.slice A 0 cap, .int .i64 0, .int .i64 0, v] w fun e w' => e = .returned (.tuple #[]) ∧ w' = w := by
  have hu39 := Try.underlying39; have mixed : Try.prog.follows Departure.mixedOrders = true := by kernel_rfl
  go_enter Try.func76, Try.ntmps76
  go_wp2
  go_loopg [8] 0 (fun g1 v8 wr => v8 = .int .i64 1 ∧ wr = w)
  case atStart => exact ⟨rfl, rfl⟩
  case round =>
    obtain ⟨rfl, rfl⟩ := hrel
    go_wp2
    go_end0
    exact ⟨rfl, rfl⟩
set_option maxRecDepth 100000 in
theorem hd_stable0 (A : Option Addr) (cap : Nat) (v : Value) (w : World) : Calls Try.prog 74 #[.slice A 0 cap, .int .i64 0, v] w fun e w' => e = .returned (.tuple #[]) ∧ w' = w := by
  have hu39 := Try.underlying39; have mixed : Try.prog.follows Departure.mixedOrders = true := by kernel_rfl
  go_enter Try.func74, Try.ntmps74
  go_wp2
  go_loopg [7, 8] 0 (fun g1 v7 v8 wr => v7 = .int .i64 0 ∧ v8 = .int .i64 20 ∧ wr = w)
  case atStart => exact ⟨rfl, rfl, rfl⟩
  case round =>
    obtain ⟨rfl, rfl, rfl⟩ := hrel
    go_wp2_with (go_at_call 76; refine (hd_ins0 _ _ _ _).mono ?_; rintro e_ w2 ⟨rfl, rfl⟩)
    go_loopg [6] 0 (fun g2 v6 wr2 => v6 = .int .i64 20 ∧ wr2 = w2)
    case atStart => exact ⟨rfl, rfl⟩
    case round =>
      obtain ⟨rfl, rfl⟩ := hrel
      go_wp2
      go_end0
      exact ⟨rfl, rfl⟩
set_option maxRecDepth 100000 in
theorem hd_sort0 (A : Option Addr) (cap : Nat) (v : Value) (w : World) : Calls Try.prog 70 #[.slice A 0 cap, v] w fun e w' => e = .returned (.tuple #[]) ∧ w' = w := by
  have hu39 := Try.underlying39
  go_enter Try.func70, Try.ntmps70
  go_wp2_with (go_at_call 74; refine (hd_stable0 _ _ _ _).mono ?_; rintro e_ w2 ⟨rfl, rfl⟩)
  go_end0
  exact ⟨rfl, rfl⟩
end Go.Proofs.Ytoalolbifakpiaa.P
