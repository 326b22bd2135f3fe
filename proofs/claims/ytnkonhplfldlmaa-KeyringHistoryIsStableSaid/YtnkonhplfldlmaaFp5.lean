/- A function of the program as a plain Lean function, and the proof that the call comes to just what it says (written by wip/tools/xprint.py for this claim). Condition: the plain function has an answer. -/
import Derived.Test.YtnkonhplfldlmaaFo0
import Derived.Test.YtnkonhplfldlmaaFf5
namespace Go.Proofs.Ytnkonhplfldlmaa.Fn
open Go.RowKit Go.Proofs.YtnkonhplfldlmaaW.PrintWords Go.Proofs.YtnkonhplfldlmaaW.PrintLast
/-- The one pure statement of the law. -/
def changeforgelaw5_KeyringHistoryIsStable.Pure : Prop := ∀ (l0 : List (S45)) (x1 : S45) (a2 : Int) (a3 : Int), (l0.length * 32 ≤ 140737488351232 ∧ ∀ x ∈ l0, wf45 x) → wf45 x1 → (Lit.int .i64 a2).wf = true → (Lit.int .i64 a3).wf = true → ∃ k, changeforgelaw5_KeyringHistoryIsStable.f k l0 x1.f0 x1.f1 x1.f2 x1.f3 a2 a3 = some true
end Go.Proofs.Ytnkonhplfldlmaa.Fn
