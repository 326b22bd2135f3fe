/- A function of the program as a plain Lean function, and the proof that the call comes to just what it says (written by wip/tools/xprint.py for this claim). Condition: the plain function has an answer. -/
import Derived.Test.YtlbjefoipljkgaaFo0
import Derived.Test.YtlbjefoipljkgaaFf5
namespace Go.Proofs.Ytlbjefoipljkgaa.Fn
open Go.RowKit Go.Proofs.YtlbjefoipljkgaaW.PrintWords Go.Proofs.YtlbjefoipljkgaaW.PrintLast
/-- The one pure statement of the law. -/
def changeforgelaw5_PushcertCertifiedIsAccepted.Pure : Prop := ∀ (a0 : Int) (a1 : Int) (a2 : Int) (x3 : S23), (Lit.int .i64 a0).wf = true → (Lit.int .i64 a1).wf = true → (Lit.int .i64 a2).wf = true → wf23 x3 → ∃ k, changeforgelaw5_PushcertCertifiedIsAccepted.f k a0 a1 a2 x3.f0 x3.f1 x3.f2 x3.f3 x3.f4 x3.f5 x3.f6 = some true
end Go.Proofs.Ytlbjefoipljkgaa.Fn
