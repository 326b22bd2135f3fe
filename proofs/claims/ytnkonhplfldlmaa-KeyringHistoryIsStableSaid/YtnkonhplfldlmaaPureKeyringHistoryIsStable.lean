/- An event does not change which keys are valid at earlier times: the plain law. Its condition: the parameters are of their kinds and sizes. -/
import Derived.Test.YtnkonhplfldlmaaFf5
import Derived.Test.YtnkonhplfldlmaaFn0
import Derived.Test.YtnkonhplfldlmaaFo0
import Derived.Test.YtnkonhplfldlmaaFp5
import Derived.Test.YtnkonhplfldlmaaPuRingK
set_option linter.unusedVariables false
namespace Go.Proofs.Ytnkonhplfldlmaa.Pure
open Go Go.RowKit Go.Proofs.Ytnkonhplfldlmaa.Fn Go.Proofs.YtnkonhplfldlmaaW.PrintWords Go.Proofs.YtnkonhplfldlmaaW.PrintLast Go.Proofs.YtnkonhplfldlmaaW.PrintMore
theorem KeyringHistoryIsStable : changeforgelaw5_KeyringHistoryIsStable.Pure := by
  intro l0 e a2 a3 h0 he _ _
  obtain ⟨b0, b1, b2, b3⟩ := e
  refine ev_total ?_
  have hall : ∀ x ∈ l0 ++ [(⟨b0, b1, b2, b3⟩ : S45)], wf45 x := fun x hx => (List.mem_append.1 hx).elim (h0.2 x) (fun h => by rw [List.mem_singleton.1 h]; exact he)
  unfold changeforgelaw5_KeyringHistoryIsStable.f
  refine ev_bind keys_ev (ev_if_pos rfl ?_)
  by_cases hc : (l0.length : Int) > 40
  · exact ev_if_pos hc (Ev.now _)
  · refine ev_if_neg hc (ev_if_pos (by simp; omega) ?_)
    simp only [List.nil_append, Option.bind_some, pValid hall, pValid h0.2]
    refine ev_if_pos (by omega) ?_
    by_cases hz : (validF (l0 ++ [(⟨b0, b1, b2, b3⟩ : S45)]) a2 a3).2.1 = 0
    · refine ev_if_pos hz ?_
      obtain ⟨v1, v2, v3, v4⟩ := validF_ok hz
      have w := validF_of (ring_of_append v1) v2 v3
      rw [w, v4]
      refine ev_if_pos rfl ?_
      by_cases ht : a3 ≥ b3
      · exact ev_if_pos ht (Ev.now _)
      · refine ev_if_neg ht (ev_now fun k => ?_)
        have hT := (adds_of (ring_of_append v1)).1
        have : keyValid (l0 ++ [(⟨b0, b1, b2, b3⟩ : S45)]) a2 a3 = keyValid l0 a2 a3 := by
          unfold keyValid
          rw [kt_snoc hT, kt_snoc hT, decide_eq_decide]
          dsimp only
          split <;> split <;> (try split) <;> (try split) <;> omega
        rw [this]
        simp
    · refine ev_if_neg hz (ev_now fun k => ?_)
      rw [validF_bad hz]
      rfl
end Go.Proofs.Ytnkonhplfldlmaa.Pure
