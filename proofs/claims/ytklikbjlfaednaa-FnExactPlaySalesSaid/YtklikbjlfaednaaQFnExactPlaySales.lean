/- What the law FnExactPlaySales asks: the pure statement. -/
import Derived.Test.YtklikbjlfaednaaO
namespace Go.Proofs.Ytklikbjlfaednaa.P
open Go.RowKit
def laws_FnExactPlaySales.Pure2 : Prop := ∀ (y0 : S24) (y1 : List (S86)), Q24 y0 → (y1.length ≤ maxLen ∧ ∀ e0_, e0_ ∈ y1 → Q86 e0_) → ∃ k, laws_FnExactPlaySales.f k y0.f0 y0.f1 y0.f2 y1 = some true
end Go.Proofs.Ytklikbjlfaednaa.P
