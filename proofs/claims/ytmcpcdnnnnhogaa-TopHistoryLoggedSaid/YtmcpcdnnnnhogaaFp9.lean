/- A function of the program as a plain Lean function, and the proof that the call comes to just what it says (written by wip/tools/xprint.py for this claim). Condition: the plain function has an answer. -/
import Derived.Test.YtmcpcdnnnnhogaaFo0
import Derived.Test.YtmcpcdnnnnhogaaFf9
namespace Go.Proofs.Ytmcpcdnnnnhogaa.Fn
open Go.RowKit Go.Proofs.YtmcpcdnnnnhogaaW.PrintWords Go.Proofs.YtmcpcdnnnnhogaaW.PrintLast
/-- The one pure statement of the law. -/
def changeforgetop_TopHistoryLogged.Pure : Prop := ∀ (l0 : List (S61)) (a1 : Int), (l0.length * 64 ≤ 140737488351232 ∧ ∀ x ∈ l0, wf61 x) → (Lit.int .i64 a1).wf = true → ∃ k, changeforgetop_TopHistoryLogged.f k l0 a1 = some true
end Go.Proofs.Ytmcpcdnnnnhogaa.Fn
