/- A function of the program as a plain Lean function, and the proof that the call comes to just what it says (written by wip/tools/xprint.py for this claim). Condition: the plain function has an answer. -/
import Derived.Test.YtdelkdlegokbjaaFo0
import Derived.Test.YtdelkdlegokbjaaFf4
namespace Go.Proofs.Ytdelkdlegokbjaa.Fn
open Go.RowKit Go.Proofs.YtdelkdlegokbjaaW.PrintWords Go.Proofs.YtdelkdlegokbjaaW.PrintLast
/-- The one pure statement of the law. -/
def changeforgelaw5_RolesChainsAreNested.Pure : Prop := ∀ (l0 : List (S40)) (a1 : ByteArray), (l0.length * 56 ≤ 140737488351232 ∧ ∀ x ∈ l0, wf40 x) → a1.size ≤ 140737488351232 → ∃ k, changeforgelaw5_RolesChainsAreNested.f k l0 a1 = some true
end Go.Proofs.Ytdelkdlegokbjaa.Fn
