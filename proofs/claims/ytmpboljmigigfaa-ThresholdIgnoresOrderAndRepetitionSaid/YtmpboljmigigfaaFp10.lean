/- A function of the program as a plain Lean function, and the proof that the call comes to just what it says (written by wip/tools/xprint.py for this claim). Condition: the plain function has an answer. -/
import Derived.Test.YtmpboljmigigfaaFo0
import Derived.Test.YtmpboljmigigfaaFf10
namespace Go.Proofs.Ytmpboljmigigfaa.Fn
open Go.RowKit Go.Proofs.YtmpboljmigigfaaW.PrintWords Go.Proofs.YtmpboljmigigfaaW.PrintLast
/-- The one pure statement of the law. -/
def changeforgelaw5_ThresholdIgnoresOrderAndRepetition.Pure : Prop := ∀ (l0 : List Int) (l1 : List Int) (l2 : List (S54)) (a3 : Int), (l0.length * 8 ≤ 140737488351232 ∧ ∀ x ∈ l0, (Lit.int .i64 x).wf = true) → (l1.length * 1 ≤ 140737488351232 ∧ ∀ x ∈ l1, (Lit.int .u8 x).wf = true) → (l2.length * 16 ≤ 140737488351232 ∧ ∀ x ∈ l2, wf54 x) → (Lit.int .i64 a3).wf = true → ∃ k, changeforgelaw5_ThresholdIgnoresOrderAndRepetition.f k l0 l1 l2 a3 = some true
end Go.Proofs.Ytmpboljmigigfaa.Fn
