/- A function of the program as a plain Lean function, and the proof that the call comes to just what it says (written by wip/tools/xprint.py for this claim). Condition: the plain function has an answer. -/
import Derived.Test.YtnkonhplfldlmaaFo0
import Derived.Test.YtnkonhplfldlmaaFf3
namespace Go.Proofs.Ytnkonhplfldlmaa.Fn
open Go.RowKit Go.Proofs.YtnkonhplfldlmaaW.PrintWords Go.Proofs.YtnkonhplfldlmaaW.PrintLast
/-- The one pure statement of the law. -/
def changeforgelaw5_KeyringMatchesSpec.Pure : Prop := ∀ (l0 : List (S45)) (a1 : Int) (a2 : Int) (a3 : Int), (l0.length * 32 ≤ 140737488351232 ∧ ∀ x ∈ l0, wf45 x) → (Lit.int .i64 a1).wf = true → (Lit.int .i64 a2).wf = true → (Lit.int .i64 a3).wf = true → ∃ k, changeforgelaw5_KeyringMatchesSpec.f k l0 a1 a2 a3 = some true
end Go.Proofs.Ytnkonhplfldlmaa.Fn
