/- Messages and signatures are as specified: the plain law. Its condition: the parameters are of their kinds and sizes. -/
import Derived.Test.YtmpboljmigigfaaFf3
import Derived.Test.YtmpboljmigigfaaFn0
import Derived.Test.YtmpboljmigigfaaPuSigns
set_option linter.unusedVariables false
namespace Go.Proofs.Ytmpboljmigigfaa.Pure
open Go.RowKit Go.Proofs.Ytmpboljmigigfaa.Fn Go.Proofs.YtmpboljmigigfaaW.PrintWords Go.Proofs.YtmpboljmigigfaaW.PrintLast Go.Proofs.YtmpboljmigigfaaW.PrintMore
theorem SigningMatchesSpec : changeforgelaw5_SigningMatchesSpec.Pure := by
  intro a0 l1 l2 wa hl1 hl1' hb1 hl2 hl2' hw2
  refine ev_total ?_
  have hb := bytes_of_wf hb1
  unfold changeforgelaw5_SigningMatchesSpec.f
  refine ev_bind signs_ev (ev_if_pos rfl ?_)
  refine ev_bind (pMsg_ev l2) (ev_bind (rMsgFault_ev l2) ?_)
  have j : Ev (fun k => changeforgelaw5_SigningMatchesSpec.j0 k a0 l1 false) true := by
    refine Ev.step (fun k => by simp only [changeforgelaw5_SigningMatchesSpec.j0]; rw [if_neg (by decide)]) ?_
    refine ev_bind (sign_ev a0 l1 hb) ?_
    simp only [rSignFault, Option.bind_some]
    by_cases h : (signFault a0 l1).1 = 0
    · obtain ⟨hk, hlen, e⟩ := signFault_ok h
      unfold signRes
      rw [if_pos h, e]
      refine ev_if_pos (by simp) (ev_if_pos rfl ?_)
      exact ev_bind (rSign_ev a0 l1 hk hb (by omega)) (ev_now fun k => by simp)
    · unfold signRes
      rw [if_neg h]
      exact ev_if_pos (by simp) (ev_if_neg h (ev_if_pos rfl (Ev.now _)))
  by_cases h : (msgFault l2).1 = 0
  · obtain ⟨_, _, e⟩ := msgFault_ok h
    unfold msgRes
    rw [if_pos h, e]
    refine ev_if_neg (by simp) (ev_if_pos rfl ?_)
    refine ev_bind (rMsg_ev l2 h) ?_
    simp only [bne_self_eq_false]
    exact j
  · unfold msgRes
    rw [if_neg h]
    exact ev_if_neg (by simp) (ev_if_neg h (ev_if_neg (by simp) j))
end Go.Proofs.Ytmpboljmigigfaa.Pure
