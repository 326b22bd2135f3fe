/- Plain lemmas: the closed example of the keyring laws. No condition but what each states. -/
import Derived.Test.YtnkonhplfldlmaaFf12
import Derived.Test.YtnkonhplfldlmaaFf13
import Derived.Test.YtnkonhplfldlmaaFf17
import Derived.Test.YtnkonhplfldlmaaFf20
import Derived.Test.YtnkonhplfldlmaaFf21
import Derived.Test.YtnkonhplfldlmaaFn0
import Derived.Test.YtnkonhplfldlmaaFs0
import Derived.Test.YtnkonhplfldlmaaPuRingL
set_option linter.unusedVariables false
namespace Go.Proofs.Ytnkonhplfldlmaa.Pure
open Go Go.RowKit Go.Proofs.Ytnkonhplfldlmaa.Fn Go.Proofs.YtnkonhplfldlmaaW.PrintWords Go.Proofs.YtnkonhplfldlmaaW.PrintLast Go.Proofs.YtnkonhplfldlmaaW.PrintMore
theorem ex_valid1 : keyring_Valid.f [⟨1, 5, 3, 10⟩, ⟨2, 5, 0, 20⟩] 5 19 = some (true, 0, 0) := by rfl
theorem ex_valid2 : keyring_Valid.f [⟨1, 5, 3, 10⟩, ⟨2, 5, 0, 20⟩] 5 20 = some (false, 0, 0) := by rfl
theorem ex_owner : keyring_Owner.f [⟨1, 5, 3, 10⟩, ⟨2, 5, 0, 20⟩] 5 = some (3, 0, 0) := by rfl
theorem ex_keys : keyring_Keys.f [⟨1, 5, 3, 10⟩, ⟨2, 5, 0, 20⟩] 3 10 = some ([5], 0, 0) := by rfl
theorem ex_validate : keyring_Validate.f [⟨2, 5, 0, 20⟩] = some (6, 0) := by rfl
theorem pIn_eq (a b c : Int) : changeforgelaw5_in.f a b c = some (decide (b ≤ a ∧ a ≤ c)) := by
  unfold changeforgelaw5_in.f
  by_cases h : a ≥ b
  · rw [if_pos h]
    congr 1
    rw [decide_eq_decide]
    omega
  · rw [if_neg h]
    congr 1
    symm
    rw [decide_eq_false_iff_not]
    omega
theorem keys_ev : Ev (fun k => changeforgelaw5_keys.f k) true := by
  unfold changeforgelaw5_keys.f
  simp only [changeforgelaw5_added.f, Option.bind_some, ex_valid1, ex_valid2, ex_owner, ex_keys]
  refine ev_if_pos (by trivial) (ev_if_pos (by trivial) (ev_if_pos (by trivial) (ev_if_pos (by trivial) (ev_if_pos (by trivial) (ev_if_neg (by decide) (ev_if_pos (by trivial) (ev_bind (rInts_ev [5] [5] (by decide)) ?_)))))))
  refine ev_if_pos (by decide) (ev_if_pos (by decide) ?_)
  exact ev_now fun k => by
    simp only [List.drop_succ_cons, List.drop_zero, ex_validate, Option.bind_some]
    rfl
end Go.Proofs.Ytnkonhplfldlmaa.Pure
