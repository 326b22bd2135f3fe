/- Different lists of digests have different messages: the plain law. Its condition: the parameters are of their kinds and sizes. -/
import Derived.Test.YtmpboljmigigfaaFf6
import Derived.Test.YtmpboljmigigfaaFn0
import Derived.Test.YtmpboljmigigfaaPuSigns
set_option linter.unusedVariables false
namespace Go.Proofs.Ytmpboljmigigfaa.Pure
open Go.RowKit Go.Proofs.Ytmpboljmigigfaa.Fn Go.Proofs.YtmpboljmigigfaaW.PrintWords Go.Proofs.YtmpboljmigigfaaW.PrintLast Go.Proofs.YtmpboljmigigfaaW.PrintMore
theorem SigningMessageIsInjective : changeforgelaw5_SigningMessageIsInjective.Pure := by
  intro a b ha ha' hwa hb hb' hwb
  refine ev_total ?_
  unfold changeforgelaw5_SigningMessageIsInjective.f
  refine ev_bind signs_ev (ev_if_pos rfl ?_)
  refine ev_bind (pMsg_ev a) (ev_bind (pMsg_ev b) ?_)
  have jt : ∀ x y : List Int, (¬ (msgFault a).1 = 0 ∨ ¬ (msgFault b).1 = 0) → Ev (fun k => changeforgelaw5_SigningMessageIsInjective.j0 k a b x y true) true := by
    intro x y h
    refine Ev.step (fun k => by simp only [changeforgelaw5_SigningMessageIsInjective.j0]; rw [if_pos (by trivial)]) ?_
    refine ev_bind (rMsgFault_ev a) ?_
    by_cases h1 : (msgFault a).1 = 0
    · refine ev_if_pos h1 (ev_bind (rMsgFault_ev b) (ev_now fun k => ?_))
      have h2 : ¬ (msgFault b).1 = 0 := by
        rcases h with h | h
        · exact absurd h1 h
        · exact h
      simp [h2]
    · exact ev_if_neg h1 (Ev.now _)
  unfold msgRes
  by_cases h1 : (msgFault a).1 = 0
  · rw [if_pos h1]
    refine ev_if_pos rfl ?_
    by_cases h2 : (msgFault b).1 = 0
    · rw [if_pos h2]
      obtain ⟨la, da, _⟩ := msgFault_ok h1
      obtain ⟨lb, db, _⟩ := msgFault_ok h2
      refine Ev.step (fun k => by simp only [changeforgelaw5_SigningMessageIsInjective.j0]; rw [if_neg (by decide)]) ?_
      refine ev_if_pos (by rw [msg_length, w64 (by omega) (by omega)]; omega) ?_
      refine ev_bind (rInts_ev a b (by omega)) (ev_now fun k => ?_)
      rw [str_inj (msg_byte a) (msg_byte b)]
      have e : decide (msg a = msg b) = decide (a = b) := decide_eq_decide.2 ⟨msg_inj da db, fun h => by rw [h]⟩
      rw [e]
      simp
    · rw [if_neg h2]
      have e : ((msgFault b).1 != 0) = true := by simp [h2]
      simp only [e]
      exact jt _ _ (.inr h2)
  · rw [if_neg h1]
    refine ev_if_neg h1 ?_
    exact jt _ _ (.inl h1)
end Go.Proofs.Ytmpboljmigigfaa.Pure
