/- A function of the program as a plain Lean function, and the proof that the call comes to just what it says (written by wip/tools/xprint.py for this claim). Condition: the plain function has an answer. -/
import Derived.Test.YtlbjefoipljkgaaFo0
import Derived.Test.YtlbjefoipljkgaaFf8
namespace Go.Proofs.Ytlbjefoipljkgaa.Fn
open Go.RowKit Go.Proofs.YtlbjefoipljkgaaW.PrintWords Go.Proofs.YtlbjefoipljkgaaW.PrintLast
/-- The one pure statement of the law. -/
def changeforgelaw5_PushcertWindowsAreMonotone.Pure : Prop := ∀ (a0 : Int) (a1 : Int) (a2 : Int) (a3 : Int) (l4 : List Int) (x5 : S23), (Lit.int .i64 a0).wf = true → (Lit.int .i64 a1).wf = true → (Lit.int .i64 a2).wf = true → (Lit.int .i64 a3).wf = true → (l4.length * 8 ≤ 140737488351232 ∧ ∀ x ∈ l4, (Lit.int .i64 x).wf = true) → wf23 x5 → ∃ k, changeforgelaw5_PushcertWindowsAreMonotone.f k a0 a1 a2 a3 l4 x5.f0 x5.f1 x5.f2 x5.f3 x5.f4 x5.f5 x5.f6 = some true
end Go.Proofs.Ytlbjefoipljkgaa.Fn
