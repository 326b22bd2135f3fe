/- A function of the program as a plain Lean function, and the proof that the call comes to just what it says (written by wip/tools/xprint.py for this claim). Condition: the plain function has an answer. -/
import Derived.Test.YtdelkdlegokbjaaFo0
import Derived.Test.YtdelkdlegokbjaaFf7
namespace Go.Proofs.Ytdelkdlegokbjaa.Fn
open Go.RowKit Go.Proofs.YtdelkdlegokbjaaW.PrintWords Go.Proofs.YtdelkdlegokbjaaW.PrintLast
/-- The one pure statement of the law. -/
def changeforgelaw5_RolesNeedTheirKeys.Pure : Prop := ∀ (l0 : List (S40)) (a1 : ByteArray) (l2 : List Int) (l3 : List (S58)), (l0.length * 56 ≤ 140737488351232 ∧ ∀ x ∈ l0, wf40 x) → a1.size ≤ 140737488351232 → (l2.length * 1 ≤ 140737488351232 ∧ ∀ x ∈ l2, (Lit.int .u8 x).wf = true) → (l3.length * 16 ≤ 140737488351232 ∧ ∀ x ∈ l3, wf58 x) → ∃ k, changeforgelaw5_RolesNeedTheirKeys.f k l0 a1 l2 l3 = some true
end Go.Proofs.Ytdelkdlegokbjaa.Fn
