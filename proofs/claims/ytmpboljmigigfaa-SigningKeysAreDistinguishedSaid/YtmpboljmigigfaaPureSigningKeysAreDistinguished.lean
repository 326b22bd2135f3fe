/- Different keys never have the same signature of the same data: the plain law. Its condition: the parameters are of their kinds and sizes. -/
import Derived.Test.YtmpboljmigigfaaFf7
import Derived.Test.YtmpboljmigigfaaFn0
import Derived.Test.YtmpboljmigigfaaPuSigns
set_option linter.unusedVariables false
namespace Go.Proofs.Ytmpboljmigigfaa.Pure
open Go.RowKit Go.Proofs.Ytmpboljmigigfaa.Fn Go.Proofs.YtmpboljmigigfaaW.PrintWords Go.Proofs.YtmpboljmigigfaaW.PrintLast Go.Proofs.YtmpboljmigigfaaW.PrintMore
theorem SigningKeysAreDistinguished : changeforgelaw5_SigningKeysAreDistinguished.Pure := by
  intro a b l wa wb hl hl' hb1
  refine ev_total ?_
  have hb := bytes_of_wf hb1
  unfold changeforgelaw5_SigningKeysAreDistinguished.f
  refine ev_bind signs_ev (ev_if_pos rfl ?_)
  refine ev_bind (sign_ev a l hb) (ev_bind (sign_ev b l hb) ?_)
  have jt : ∀ x y : Int, (¬ (signFault a l).1 = 0 ∨ ¬ (signFault b l).1 = 0) → Ev (fun k => changeforgelaw5_SigningKeysAreDistinguished.j0 k a b l x y true) true := by
    intro x y h
    refine Ev.step (fun k => by simp only [changeforgelaw5_SigningKeysAreDistinguished.j0]; rw [if_pos (by trivial)]) ?_
    simp only [rSignFault, Option.bind_some]
    by_cases h1 : (signFault a l).1 = 0
    · refine ev_if_pos h1 (ev_now fun k => ?_)
      have h2 : ¬ (signFault b l).1 = 0 := by
        rcases h with h | h
        · exact absurd h1 h
        · exact h
      simp [h2]
    · exact ev_if_neg h1 (Ev.now _)
  unfold signRes
  by_cases h1 : (signFault a l).1 = 0
  · rw [if_pos h1]
    refine ev_if_pos rfl ?_
    by_cases h2 : (signFault b l).1 = 0
    · rw [if_pos h2]
      obtain ⟨ka, _, _⟩ := signFault_ok h1
      obtain ⟨kb, _, _⟩ := signFault_ok h2
      refine Ev.step (fun k => by simp only [changeforgelaw5_SigningKeysAreDistinguished.j0]; rw [if_neg (by decide)]) (ev_now fun k => ?_)
      simp only [Option.some.injEq, beq_iff_eq]
      rw [Bool.eq_iff_iff, beq_iff_eq, beq_iff_eq]
      exact ⟨sgn_inj ka kb l, fun h => by rw [h]⟩
    · rw [if_neg h2]
      have e : ((signFault b l).1 != 0) = true := by simp [h2]
      simp only [e]
      exact jt _ _ (.inr h2)
  · rw [if_neg h1]
    refine ev_if_neg h1 ?_
    exact jt _ _ (.inl h1)
end Go.Proofs.Ytmpboljmigigfaa.Pure
