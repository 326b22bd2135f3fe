/- A function of the program as a plain Lean function, and the proof that the call comes to just what it says (written by wip/tools/xprint.py for this claim). Condition: the plain function has an answer. -/
import Derived.Test.YtmpboljmigigfaaFo0
import Derived.Test.YtmpboljmigigfaaFf12
namespace Go.Proofs.Ytmpboljmigigfaa.Fn
open Go.RowKit Go.Proofs.YtmpboljmigigfaaW.PrintWords Go.Proofs.YtmpboljmigigfaaW.PrintLast
/-- The one pure statement of the law. -/
def changeforgelaw5_ThresholdSignersAreKeys.Pure : Prop := ∀ (l0 : List Int) (l1 : List Int) (l2 : List (S54)), (l0.length * 8 ≤ 140737488351232 ∧ ∀ x ∈ l0, (Lit.int .i64 x).wf = true) → (l1.length * 1 ≤ 140737488351232 ∧ ∀ x ∈ l1, (Lit.int .u8 x).wf = true) → (l2.length * 16 ≤ 140737488351232 ∧ ∀ x ∈ l2, wf54 x) → ∃ k, changeforgelaw5_ThresholdSignersAreKeys.f k l0 l1 l2 = some true
end Go.Proofs.Ytmpboljmigigfaa.Fn
