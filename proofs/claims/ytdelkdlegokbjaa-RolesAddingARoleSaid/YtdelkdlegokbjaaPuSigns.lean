/- The closed example of the package signing holds. No condition. -/
import Derived.Test.YtdelkdlegokbjaaFf43
import Derived.Test.YtdelkdlegokbjaaFn0
import Derived.Test.YtdelkdlegokbjaaPuMsg
set_option linter.unusedVariables false
namespace Go.Proofs.Ytdelkdlegokbjaa.Pure
open Go.RowKit Go.Proofs.Ytdelkdlegokbjaa.Fn Go.Proofs.YtdelkdlegokbjaaW.PrintWords Go.Proofs.YtdelkdlegokbjaaW.PrintLast Go.Proofs.YtdelkdlegokbjaaW.PrintMore
theorem signs_ev : Ev (fun k => changeforgelaw5_signs.f k) true := by
  unfold changeforgelaw5_signs.f
  have e1 : signRes 1 [] = (1000041, 0, 0) := by decide
  have e2 : verifyRes 1 [] 1000041 = (true, 0, 0) := by decide
  have e3 : msgRes [258] = ([0, 0, 0, 0, 0, 0, 1, 2], 0, 0) := by decide
  have hb : isByte [] := fun x hx => by simp at hx
  refine ev_bind (sign_ev 1 [] hb) (ev_bind (verify_ev 1 [] 1000041 hb) (ev_bind (pMsg_ev [258]) (ev_now fun k => ?_)))
  have e4 : (strOfNums [0, 0, 0, 0, 0, 0, 1, 2]).toList = [0, 0, 0, 0, 0, 0, 1, 2] := by
    rw [Lib.strOfNums_toList]
    decide
  rw [e1, e2, e3]
  simp only [if_true, e4]
  decide
end Go.Proofs.Ytdelkdlegokbjaa.Pure
