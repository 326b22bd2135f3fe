/- A function of the program as a plain Lean function, and the proof that the call comes to just what it says (written by wip/tools/xprint.py for this claim). Condition: the plain function has an answer. -/
import Derived.Test.YtlbjefoipljkgaaFo0
import Derived.Test.YtlbjefoipljkgaaFf3
namespace Go.Proofs.Ytlbjefoipljkgaa.Fn
open Go.RowKit Go.Proofs.YtlbjefoipljkgaaW.PrintWords Go.Proofs.YtlbjefoipljkgaaW.PrintLast
/-- The one pure statement of the law. -/
def changeforgelaw5_PushcertMatchesSpec.Pure : Prop := ∀ (a0 : Int) (a1 : Int) (x2 : S23), (Lit.int .i64 a0).wf = true → (Lit.int .i64 a1).wf = true → wf23 x2 → ∃ k, changeforgelaw5_PushcertMatchesSpec.f k a0 a1 x2.f0 x2.f1 x2.f2 x2.f3 x2.f4 x2.f5 x2.f6 = some true
end Go.Proofs.Ytlbjefoipljkgaa.Fn
