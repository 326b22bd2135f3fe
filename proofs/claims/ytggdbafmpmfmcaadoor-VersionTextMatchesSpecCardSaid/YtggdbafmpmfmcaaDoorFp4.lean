/- A function of the program as a plain Lean function, and the proof that the call comes to just what it says (written by wip/tools/xprint.py for this claim). Condition: the plain function has an answer. -/
import Derived.Test.YtggdbafmpmfmcaaDoorFo0
import Derived.Test.YtggdbafmpmfmcaaDoorFf4
namespace Go.Proofs.YtggdbafmpmfmcaaDoor.Fn
open Go.RowKit Go.Proofs.YtggdbafmpmfmcaaDoorW.PrintWords Go.Proofs.YtggdbafmpmfmcaaDoorW.PrintLast
/-- The one pure statement of the law. -/
def changeforgelaw5_VersionTextMatchesSpec.Pure : Prop := ∀ (x0 : S24) (a1 : ByteArray), wf24 x0 → a1.size ≤ 140737488351232 → ∃ k, changeforgelaw5_VersionTextMatchesSpec.f k x0.f0 x0.f1 x0.f2 x0.f3 a1 = some true
end Go.Proofs.YtggdbafmpmfmcaaDoor.Fn
