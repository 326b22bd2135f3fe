/- A function of the program as a plain Lean function, and the proof that the call comes to just what it says (written by wip/tools/xprint.py for this claim). Condition: the plain function has an answer. -/
import Derived.Test.YtggdbafmpmfmcaaDoorFn0
import Derived.Test.YtggdbafmpmfmcaaDoorWA
import Derived.Test.YtggdbafmpmfmcaaDoorVerH
import Derived.Test.YtggdbafmpmfmcaaDoorTight
namespace Go.Proofs.YtggdbafmpmfmcaaDoor.Fn
open Go.RowKit Go.Proofs.YtggdbafmpmfmcaaDoorW.PrintWords Go.Proofs.YtggdbafmpmfmcaaDoorW.PrintLast Go.Proofs.YtggdbafmpmfmcaaDoorW.PrintMore
attribute [local go_sem] max2_int min2_int max_two min_two max_three min_three max_four min_four   -- for this text's walks alone
set_option linter.unusedVariables false
set_option linter.unusedSimpArgs false

/-! ### version_Parse: function 20 -/
-- @PRIVATE@
-- IMPORT Derived.Test.@SEAT@VerH
def version_Parse.f (a0 : ByteArray) : Option (Int × Int × Int × List ByteArray × Int × Int) := some (verParse a0)
theorem version_Parse.calls (a0 : ByteArray) (r1 : Int) (r2 : Int) (r3 : Int) (r4 : List ByteArray) (r5 : Int) (r6 : Int) (w : World) (h : version_Parse.f a0 = some (r1, r2, r3, r4, r5, r6)) (HL : Aside0 (LibOk w)) :
    Calls Tryd.prog 20 #[.string a0] w fun e w' => ∃ v3_ : Value, e = .returned (.tuple #[.agg #[.int .i64 r1, .int .i64 r2, .int .i64 r3, v3_], .agg #[.int .i64 r5, .int .i64 r6]]) ∧ Kd.R Kd.string 9 w' w.heap.size (fun _ => True) v3_ r4 ∧ Below w.heap.size w w' := by
  exact parse_calls a0 w HL.out r1 r2 r3 r4 r5 r6 (Option.some.inj h)

end Go.Proofs.YtggdbafmpmfmcaaDoor.Fn
