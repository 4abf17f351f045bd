/- The law FnExactFollows, over numbers alone: program and reference tell the same of any two tasks. -/
import Derived.Test.YtoalolbifakpiaaQFnExactFollows
import Derived.Test.YtoalolbifakpiaaT2
namespace Go.Proofs.Ytoalolbifakpiaa.Pure
open Go.RowKit Go.Proofs.Ytoalolbifakpiaa.P Go.Proofs.YtoalolbifakpiaaW.PrintWords Go.Proofs.YtoalolbifakpiaaW.PrintLast

theorem FnExactFollows : laws_FnExactFollows.Pure2 := by
  intro a b t _ _ _
  have h1 := spec_follows (unt a) (unt b) t
  have h2 := impl_follows_all (unt a) (unt b) t
  simp only [unt] at h1 h2
  simp [laws_FnExactFollows.f, laws_toTask.f, h1, h2]
end Go.Proofs.Ytoalolbifakpiaa.Pure
