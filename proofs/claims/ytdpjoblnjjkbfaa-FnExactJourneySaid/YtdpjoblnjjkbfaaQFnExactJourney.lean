/- What the law FnExactJourney asks: the pure statement. -/
import Derived.Test.YtdpjoblnjjkbfaaO
namespace Go.Proofs.Ytdpjoblnjjkbfaa.P
open Go.RowKit
def laws_FnExactJourney.Pure2 : Prop := ∀ (y0 : List (S47)) (y1 : Int) (y2 : Int) (y3 : Int) (y4 : Int) (y5 : Int), (y0.length ≤ maxLen ∧ ∀ e0_, e0_ ∈ y0 → Q47 e0_) → (Lit.int .i64 y1).wf = true → (Lit.int .i64 y2).wf = true → (Lit.int .i64 y3).wf = true → (Lit.int .i64 y4).wf = true → (Lit.int .i64 y5).wf = true → ∃ k, laws_FnExactJourney.f k y0 y1 y2 y3 y4 y5 = some true
end Go.Proofs.Ytdpjoblnjjkbfaa.P
