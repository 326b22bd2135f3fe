/- A function of the program as a plain Lean function, and the proof that the call comes to just what it says (written by wip/tools/xprint.py for this claim). Condition: the plain function has an answer. -/
import Derived.Test.YtlbjefoipljkgaaFo0
import Derived.Test.YtlbjefoipljkgaaFf7
namespace Go.Proofs.Ytlbjefoipljkgaa.Fn
open Go.RowKit Go.Proofs.YtlbjefoipljkgaaW.PrintWords Go.Proofs.YtlbjefoipljkgaaW.PrintLast
/-- The one pure statement of the law. -/
def changeforgelaw5_PushcertTimesAreSigned.Pure : Prop := ∀ (x0 : S23) (a1 : Int), wf23 x0 → (Lit.int .i64 a1).wf = true → ∃ k, changeforgelaw5_PushcertTimesAreSigned.f k x0.f0 x0.f1 x0.f2 x0.f3 x0.f4 x0.f5 x0.f6 a1 = some true
end Go.Proofs.Ytlbjefoipljkgaa.Fn
