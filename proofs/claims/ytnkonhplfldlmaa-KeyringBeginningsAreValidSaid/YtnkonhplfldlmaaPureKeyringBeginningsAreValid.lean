/- Every beginning of a valid keyring is valid, and an event after it is checked against it alone: the plain law. Its condition: the parameters are of their kinds and sizes. -/
import Derived.Test.YtnkonhplfldlmaaFf8
import Derived.Test.YtnkonhplfldlmaaFn0
import Derived.Test.YtnkonhplfldlmaaFo0
import Derived.Test.YtnkonhplfldlmaaFp8
import Derived.Test.YtnkonhplfldlmaaFs0
import Derived.Test.YtnkonhplfldlmaaPuRingK
set_option linter.unusedVariables false
namespace Go.Proofs.Ytnkonhplfldlmaa.Pure
open Go Go.RowKit Go.Proofs.Ytnkonhplfldlmaa.Fn Go.Proofs.YtnkonhplfldlmaaW.PrintWords Go.Proofs.YtnkonhplfldlmaaW.PrintLast Go.Proofs.YtnkonhplfldlmaaW.PrintMore
theorem KeyringBeginningsAreValid : changeforgelaw5_KeyringBeginningsAreValid.Pure := by
  intro l0 n h0 _
  refine ev_total ?_
  have htake : ∀ m, ∀ x ∈ l0.take m, wf45 x := fun m x hx => h0.2 x (List.mem_of_mem_take hx)
  unfold changeforgelaw5_KeyringBeginningsAreValid.f
  simp only [pValidate h0.2, Option.bind_some]
  refine ev_bind keys_ev (ev_if_pos rfl ?_)
  have J : Ev (fun k => changeforgelaw5_KeyringBeginningsAreValid.j0 k l0 n false (ringFault l0).1 (ringFault l0).2) true := by
    refine Ev.step (fun k => by simp only [changeforgelaw5_KeyringBeginningsAreValid.j0, pIn_eq, Option.bind_some]; rw [if_neg (by decide)]) ?_
    by_cases hn : 0 ≤ n ∧ n ≤ (l0.length : Int)
    · refine ev_if_pos (decide_eq_true hn) ?_
      by_cases hc : (l0.length : Int) > 40
      · exact ev_if_pos hc (Ev.now _)
      refine ev_if_neg hc (ev_if_pos hn.1 (ev_if_pos hn.2 ?_))
      obtain ⟨m, rfl⟩ := Int.eq_ofNat_of_zero_le hn.1
      simp only [Int.toNat_natCast, pValidate (htake m), Option.bind_some]
      have hlt : (l0.take m).length = m := by rw [List.length_take]; omega
      have e0 : ringFault l0 = rf [] l0 := by unfold ringFault; rw [if_neg hc]
      have e1 : ringFault (l0.take m) = rf [] (l0.take m) := by unfold ringFault; rw [if_neg (by omega)]
      by_cases hz : (rf [] (l0.take m)).1 = 0
      · have e2 : ringFault l0 = rf (l0.take m) (l0.drop m) := by
          rw [e0]
          conv => lhs; rw [← List.take_append_drop m l0]
          rw [rf_ok _ _ _ hz, List.nil_append]
        rw [e1, rf_zero _ _ hz]
        refine ev_if_pos rfl ?_
        by_cases hf : (ringFault l0).1 = 0
        · exact ev_if_pos hf (Ev.now _)
        · refine ev_if_neg hf (ev_if_pos ?_ (Ev.now _))
          rw [e2] at hf ⊢
          have := (rf_index _ _ hf).1
          omega
      · have e2 : ringFault l0 = rf [] (l0.take m) := by
          rw [e0]
          conv => lhs; rw [← List.take_append_drop m l0]
          rw [rf_bad _ _ _ hz]
        rw [e1, e2]
        refine ev_if_neg (by simp [hz]) (ev_if_pos (by simp) (ev_now fun k => ?_))
        have := (rf_index _ _ hz).2
        simp only [List.length_nil, hlt] at this
        rw [decide_eq_true (by omega)]
    · refine ev_if_neg (by simpa using hn) (Ev.now _)
  by_cases hc : (l0.length : Int) > 40
  · refine ev_if_pos hc ?_
    have e : ringFault l0 = (2, -1) := by unfold ringFault; rw [if_pos hc]
    simp only [changeforgelaw5_fault.f, Option.bind_some]
    have := J
    rw [e] at this ⊢
    exact this
  · exact ev_if_neg hc J
end Go.Proofs.Ytnkonhplfldlmaa.Pure
