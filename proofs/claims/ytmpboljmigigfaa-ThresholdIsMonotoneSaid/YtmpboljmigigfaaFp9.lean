/- A function of the program as a plain Lean function, and the proof that the call comes to just what it says (written by wip/tools/xprint.py for this claim). Condition: the plain function has an answer. -/
import Derived.Test.YtmpboljmigigfaaFo0
import Derived.Test.YtmpboljmigigfaaFf9
namespace Go.Proofs.Ytmpboljmigigfaa.Fn
open Go.RowKit Go.Proofs.YtmpboljmigigfaaW.PrintWords Go.Proofs.YtmpboljmigigfaaW.PrintLast
/-- The one pure statement of the law. -/
def changeforgelaw5_ThresholdIsMonotone.Pure : Prop := ∀ (l0 : List Int) (a1 : Int) (a2 : Int) (l3 : List Int) (l4 : List (S54)) (l5 : List (S54)), (l0.length * 8 ≤ 140737488351232 ∧ ∀ x ∈ l0, (Lit.int .i64 x).wf = true) → (Lit.int .i64 a1).wf = true → (Lit.int .i64 a2).wf = true → (l3.length * 1 ≤ 140737488351232 ∧ ∀ x ∈ l3, (Lit.int .u8 x).wf = true) → (l4.length * 16 ≤ 140737488351232 ∧ ∀ x ∈ l4, wf54 x) → (l5.length * 16 ≤ 140737488351232 ∧ ∀ x ∈ l5, wf54 x) → ∃ k, changeforgelaw5_ThresholdIsMonotone.f k l0 a1 a2 l3 l4 l5 = some true
end Go.Proofs.Ytmpboljmigigfaa.Fn
