/- A key that is valid at two times is valid at all times between them: the plain law. Its condition: the parameters are of their kinds and sizes. -/
import Derived.Test.YtnkonhplfldlmaaFf6
import Derived.Test.YtnkonhplfldlmaaFn0
import Derived.Test.YtnkonhplfldlmaaFp6
import Derived.Test.YtnkonhplfldlmaaPuRingK
set_option linter.unusedVariables false
namespace Go.Proofs.Ytnkonhplfldlmaa.Pure
open Go Go.RowKit Go.Proofs.Ytnkonhplfldlmaa.Fn Go.Proofs.YtnkonhplfldlmaaW.PrintWords Go.Proofs.YtnkonhplfldlmaaW.PrintLast Go.Proofs.YtnkonhplfldlmaaW.PrintMore
theorem KeyringValidityIsAnInterval : changeforgelaw5_KeyringValidityIsAnInterval.Pure := by
  intro l0 key a b c h0 _ _ _ _
  refine ev_total ?_
  unfold changeforgelaw5_KeyringValidityIsAnInterval.f
  simp only [pValid h0.2, Option.bind_some]
  refine ev_bind keys_ev (ev_if_pos rfl ?_)
  have J : Ev (fun k => changeforgelaw5_KeyringValidityIsAnInterval.j0 k a b c (validF l0 key a).1 (validF l0 key b).1 (validF l0 key c).1 false (validF l0 key b).2.1 (validF l0 key b).2.2) true := by
    refine Ev.step (fun k => by simp only [changeforgelaw5_KeyringValidityIsAnInterval.j0]; rw [if_neg (by decide)]) ?_
    by_cases h1 : a > b
    · exact ev_if_pos h1 (Ev.now _)
    refine ev_if_neg h1 ?_
    by_cases h2 : b > c
    · exact ev_if_pos h2 (Ev.now _)
    refine ev_if_neg h2 ?_
    by_cases h3 : (validF l0 key a).1 = true
    · refine ev_if_pos h3 ?_
      by_cases h4 : (validF l0 key c).1 = true
      · refine ev_if_pos h4 ?_
        have za : (validF l0 key a).2.1 = 0 := Decidable.byContradiction fun h => by rw [validF_bad h] at h3; cases h3
        have zc : (validF l0 key c).2.1 = 0 := Decidable.byContradiction fun h => by rw [validF_bad h] at h4; cases h4
        obtain ⟨a1, a2, a3, a4⟩ := validF_ok za
        obtain ⟨c1, c2, c3, c4⟩ := validF_ok zc
        rw [validF_of a1 a2 (by omega)]
        rw [a4] at h3
        rw [c4] at h4
        have k1 := of_decide_eq_true h3
        have k2 := of_decide_eq_true h4
        have : keyValid l0 key b = true := decide_eq_true (by omega)
        exact ev_if_pos this (ev_now fun k => rfl)
      · exact ev_if_neg h4 (Ev.now _)
    · exact ev_if_neg h3 (Ev.now _)
  have B : ∀ t, (validF l0 key t).2.1 ≠ 0 → (validF l0 key t).1 = false := fun t h => validF_bad h
  by_cases ha : (validF l0 key a).2.1 = 0
  · refine ev_if_pos ha ?_
    by_cases hb : (validF l0 key b).2.1 = 0
    · refine ev_if_pos hb ?_
      by_cases hc : (validF l0 key c).2.1 = 0
      · exact ev_if_pos hc J
      · refine ev_if_neg hc ?_
        have := J
        rw [B c hc] at this ⊢
        exact this
    · refine ev_if_neg hb (ev_if_neg (by rw [B b hb]; decide) ?_)
      by_cases hc : (validF l0 key c).2.1 = 0
      · exact ev_if_pos hc J
      · refine ev_if_neg hc ?_
        have := J
        rw [B c hc] at this ⊢
        exact this
  · refine ev_if_neg ha (ev_if_neg (by rw [B a ha]; decide) ?_)
    by_cases hb : (validF l0 key b).2.1 = 0
    · refine ev_if_pos hb ?_
      by_cases hc : (validF l0 key c).2.1 = 0
      · exact ev_if_pos hc J
      · refine ev_if_neg hc ?_
        have := J
        rw [B c hc] at this ⊢
        exact this
    · refine ev_if_neg hb (ev_if_neg (by rw [B b hb]; decide) ?_)
      by_cases hc : (validF l0 key c).2.1 = 0
      · exact ev_if_pos hc J
      · refine ev_if_neg hc ?_
        have := J
        rw [B c hc] at this ⊢
        exact this
end Go.Proofs.Ytnkonhplfldlmaa.Pure
