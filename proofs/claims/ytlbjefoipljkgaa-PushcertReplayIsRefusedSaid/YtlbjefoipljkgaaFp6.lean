/- A function of the program as a plain Lean function, and the proof that the call comes to just what it says (written by wip/tools/xprint.py for this claim). Condition: the plain function has an answer. -/
import Derived.Test.YtlbjefoipljkgaaFo0
import Derived.Test.YtlbjefoipljkgaaFf6
namespace Go.Proofs.Ytlbjefoipljkgaa.Fn
open Go.RowKit Go.Proofs.YtlbjefoipljkgaaW.PrintWords Go.Proofs.YtlbjefoipljkgaaW.PrintLast
/-- The one pure statement of the law. -/
def changeforgelaw5_PushcertReplayIsRefused.Pure : Prop := ∀ (a0 : Int) (a1 : Int) (a2 : Int) (l3 : List Int) (x4 : S23) (a5 : Int), (Lit.int .i64 a0).wf = true → (Lit.int .i64 a1).wf = true → (Lit.int .i64 a2).wf = true → (l3.length * 8 ≤ 140737488351232 ∧ ∀ x ∈ l3, (Lit.int .i64 x).wf = true) → wf23 x4 → (Lit.int .i64 a5).wf = true → ∃ k, changeforgelaw5_PushcertReplayIsRefused.f k a0 a1 a2 l3 x4.f0 x4.f1 x4.f2 x4.f3 x4.f4 x4.f5 x4.f6 a5 = some true
end Go.Proofs.Ytlbjefoipljkgaa.Fn
