/- A function of the program as a plain Lean function, and the proof that the call comes to just what it says (written by wip/tools/xprint.py for this claim). Condition: the plain function has an answer. -/
import Derived.Test.YtggdbafmpmfmcaaDoorFn0
import Derived.Test.YtggdbafmpmfmcaaDoorWA
import Derived.Test.YtggdbafmpmfmcaaDoorVerD
import Derived.Test.YtggdbafmpmfmcaaDoorTight
namespace Go.Proofs.YtggdbafmpmfmcaaDoor.Fn
open Go.RowKit Go.Proofs.YtggdbafmpmfmcaaDoorW.PrintWords Go.Proofs.YtggdbafmpmfmcaaDoorW.PrintLast Go.Proofs.YtggdbafmpmfmcaaDoorW.PrintMore
attribute [local go_sem] max2_int min2_int max_two min_two max_three min_three max_four min_four   -- for this text's walks alone
set_option linter.unusedVariables false
set_option linter.unusedSimpArgs false

/-! ### version_Validate: function 11 -/
-- @PRIVATE@
-- IMPORT Derived.Test.@SEAT@VerD
def version_Validate.f (a0_0 : Int) (a0_1 : Int) (a0_2 : Int) (l0_3 : List ByteArray) : Option (Int × Int) := some (verFault a0_0 a0_1 a0_2 l0_3)
theorem version_Validate.calls (a0_0 : Int) (a0_1 : Int) (a0_2 : Int) (A0_3 : Option Addr) (c0_3 : Nat) (l0_3 : List ByteArray) (r1 : Int) (r2 : Int) (w : World) (hr0_3 : Kd.C Kd.string w A0_3 l0_3.length l0_3) (hc0_3 : l0_3.length ≤ c0_3) (h : version_Validate.f a0_0 a0_1 a0_2 l0_3 = some (r1, r2)) :
    Calls Tryd.prog 11 #[.agg #[.int .i64 a0_0, .int .i64 a0_1, .int .i64 a0_2, .slice A0_3 l0_3.length c0_3]] w fun e w' => e = .returned (.agg #[.int .i64 r1, .int .i64 r2]) ∧ Below w.heap.size w w' := by
  exact validate_calls a0_0 a0_1 a0_2 A0_3 c0_3 l0_3 w hr0_3 hc0_3 r1 r2 (Option.some.inj h)

end Go.Proofs.YtggdbafmpmfmcaaDoor.Fn
