-- Written by wip/tools/lawrow.py of this session. Lean checks it.
import Derived.Test.YtjbpeomcfcdklaaX27
namespace Go.Proofs.Ytjbpeomcfcdklaa.X
open Go.RowKit
/-- The statement over numbers and rows alone. -/
def sconcelaw04_LimbsPicks.PureS : Prop := ∀ (l0 : List (List Int)) (b1 : Int), l0.length ≤ maxLen → (∀ r ∈ l0, r.length ≤ maxLen ∧ ∀ x ∈ r, (Lit.int .u64 x).wf = true) → (Lit.int .u64 b1).wf = true → ∃ k, sconcelaw04_LimbsPicks.f k l0 b1 = some true
end Go.Proofs.Ytjbpeomcfcdklaa.X
