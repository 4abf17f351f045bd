/- One task behind another. -/
import Derived.Test.YtoalolbifakpiaaT1
namespace Go.Proofs.Ytoalolbifakpiaa.Pure
open Go.RowKit Go.Proofs.Ytoalolbifakpiaa.P Go.Proofs.YtoalolbifakpiaaW.PrintWords Go.Proofs.YtoalolbifakpiaaW.PrintLast

def follB (a b : S25) (turn : Int) : Bool := decide (a.f1 = b.f0) && decide (a.f3 + turn ≤ b.f2)
def followsB (a b : S25) (turn : Int) : Bool := taskB a && taskB b && inB turn 0 120 && follB a b turn
theorem impl_foll {a : S25} (b : S25) {turn : Int} (ha : taskB a = true) (ht : 0 ≤ turn ∧ turn ≤ 120) : impl_follows.f a.f0 a.f1 a.f2 a.f3 a.f4 b.f0 b.f1 b.f2 b.f3 b.f4 turn = some (follB a b turn) := by
  have := (taskB_bounds ha).2.2.1
  unfold impl_follows.f follB
  rw [w64 (by omega) (by omega)]
  by_cases h : a.f1 = b.f0 <;> simp [h]
theorem spec_follows (a b : S25) (turn : Int) : spec_Follows.f a.f0 a.f1 a.f2 a.f3 a.f4 b.f0 b.f1 b.f2 b.f3 b.f4 turn = some (followsB a b turn) := by
  unfold spec_Follows.f followsB spec_l16Turn.f
  simp only [spec_task, l01In, Option.bind_some]
  cases ha : taskB a <;> cases taskB b <;> simp
  cases ht : inB turn 0 120 <;> simp
  have := (taskB_bounds ha).2.2.1
  have := inB_iff.1 ht
  unfold follB
  rw [w64 (by omega) (by omega)]
  by_cases h : a.f1 = b.f0 <;> simp [h]
end Go.Proofs.Ytoalolbifakpiaa.Pure
