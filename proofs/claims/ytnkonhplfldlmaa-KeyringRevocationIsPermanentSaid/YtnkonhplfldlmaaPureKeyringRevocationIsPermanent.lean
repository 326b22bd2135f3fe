/- A key that is not valid any more never becomes valid again: the plain law. Its condition: the parameters are of their kinds and sizes. -/
import Derived.Test.YtnkonhplfldlmaaFf4
import Derived.Test.YtnkonhplfldlmaaFn0
import Derived.Test.YtnkonhplfldlmaaFo0
import Derived.Test.YtnkonhplfldlmaaFp4
import Derived.Test.YtnkonhplfldlmaaPuRingK
set_option linter.unusedVariables false
namespace Go.Proofs.Ytnkonhplfldlmaa.Pure
open Go Go.RowKit Go.Proofs.Ytnkonhplfldlmaa.Fn Go.Proofs.YtnkonhplfldlmaaW.PrintWords Go.Proofs.YtnkonhplfldlmaaW.PrintLast Go.Proofs.YtnkonhplfldlmaaW.PrintMore
theorem KeyringRevocationIsPermanent : changeforgelaw5_KeyringRevocationIsPermanent.Pure := by
  intro l0 l1 a2 a3 h0 h1 _ _
  refine ev_total ?_
  have hall : ∀ x ∈ l0 ++ l1, wf45 x := fun x hx => (List.mem_append.1 hx).elim (h0.2 x) (h1.2 x)
  unfold changeforgelaw5_KeyringRevocationIsPermanent.f
  refine ev_bind keys_ev (ev_if_pos rfl ?_)
  have J : ∀ b : Bool, (b = false → l0.length ≤ 40 ∧ l1.length ≤ 40) → Ev (fun k => changeforgelaw5_KeyringRevocationIsPermanent.j0 k l0 l1 a2 a3 b) true := by
    intro b hb
    cases b with
    | true =>
      refine Ev.step (f := fun _ => some true) (fun k => by simp only [changeforgelaw5_KeyringRevocationIsPermanent.j0]; rw [if_pos trivial]) ?_
      exact Ev.now _
    | false =>
      obtain ⟨n0, n1⟩ := hb rfl
      refine Ev.step (fun k => by simp only [changeforgelaw5_KeyringRevocationIsPermanent.j0, List.nil_append, List.length_nil, Nat.zero_add, Option.bind_some, pValid hall]; rw [if_neg (by decide), if_pos (by omega), if_pos (by omega)]) ?_
      refine ev_bind (rKt_ev l0 a2 2 (by omega)) ?_
      by_cases hz : (validF (l0 ++ l1) a2 a3).2.1 = 0
      · refine ev_if_pos hz ?_
        by_cases h2 : kt l0 a2 2 < 0
        · exact ev_if_pos h2 (Ev.now _)
        · refine ev_if_neg h2 ?_
          by_cases h3 : a3 < kt l0 a2 2
          · exact ev_if_pos h3 (Ev.now _)
          · refine ev_if_neg h3 (ev_now fun k => ?_)
            rw [(validF_ok hz).2.2.2]
            have : keyValid (l0 ++ l1) a2 a3 = false := by
              unfold keyValid
              rw [kt_app l1 (x := a2) (k := 2) (by omega)]
              exact decide_eq_false (by omega)
            rw [this]
            rfl
      · refine ev_if_neg hz (ev_now fun k => ?_)
        rw [validF_bad hz]
        rfl
  by_cases hc : (l0.length : Int) > 40
  · exact ev_if_pos hc (J true (fun h => by cases h))
  · refine ev_if_neg hc (J _ fun h => ?_)
    have := of_decide_eq_false h
    omega
end Go.Proofs.Ytnkonhplfldlmaa.Pure
