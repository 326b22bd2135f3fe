/- A function of the program as a plain Lean function, and the proof that the call comes to just what it says (written by wip/tools/xprint.py for this claim). Condition: the plain function has an answer. -/
import Derived.Test.YtdelkdlegokbjaaFo0
import Derived.Test.YtdelkdlegokbjaaFf6
namespace Go.Proofs.Ytdelkdlegokbjaa.Fn
open Go.RowKit Go.Proofs.YtdelkdlegokbjaaW.PrintWords Go.Proofs.YtdelkdlegokbjaaW.PrintLast
/-- The one pure statement of the law. -/
def changeforgelaw5_RolesAddingARole.Pure : Prop := ∀ (l0 : List (S40)) (x1 : S40) (a2 : ByteArray), (l0.length * 56 ≤ 140737488351232 ∧ ∀ x ∈ l0, wf40 x) → wf40 x1 → a2.size ≤ 140737488351232 → ∃ k, changeforgelaw5_RolesAddingARole.f k l0 x1.f0 x1.f1 x1.f2 x1.f3 a2 = some true
end Go.Proofs.Ytdelkdlegokbjaa.Fn
