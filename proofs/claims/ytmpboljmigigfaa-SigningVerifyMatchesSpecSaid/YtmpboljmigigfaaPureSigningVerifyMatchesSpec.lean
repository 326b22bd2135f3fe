/- The verification of a signature is as specified: the plain law. Its condition: the parameters are of their kinds and sizes. -/
import Derived.Test.YtmpboljmigigfaaFf4
import Derived.Test.YtmpboljmigigfaaFn0
import Derived.Test.YtmpboljmigigfaaFs0
import Derived.Test.YtmpboljmigigfaaPuSigns
set_option linter.unusedVariables false
namespace Go.Proofs.Ytmpboljmigigfaa.Pure
open Go.RowKit Go.Proofs.Ytmpboljmigigfaa.Fn Go.Proofs.YtmpboljmigigfaaW.PrintWords Go.Proofs.YtmpboljmigigfaaW.PrintLast Go.Proofs.YtmpboljmigigfaaW.PrintMore
theorem SigningVerifyMatchesSpec : changeforgelaw5_SigningVerifyMatchesSpec.Pure := by
  intro a0 l1 a2 wa hl1 hl1' hb1 w2
  refine ev_total ?_
  have hb := bytes_of_wf hb1
  unfold changeforgelaw5_SigningVerifyMatchesSpec.f
  refine ev_bind signs_ev (ev_if_pos rfl ?_)
  simp only [rSignFault, rIsDig, Option.bind_some]
  by_cases h : (signFault a0 l1).1 = 0
  · obtain ⟨hk, hlen, e⟩ := signFault_ok h
    rw [e]
    refine ev_if_pos rfl ?_
    by_cases hd : isDig a2 = true
    · rw [hd]
      refine Ev.step (fun k => by simp only [changeforgelaw5_SigningVerifyMatchesSpec.j0]; rw [if_neg (by decide)]) ?_
      refine ev_bind (verify_ev a0 l1 a2 hb) ?_
      unfold verifyRes
      rw [if_pos h, if_pos hd]
      refine ev_if_pos (by simp) (ev_if_pos (by trivial) ?_)
      refine ev_bind (rSign_ev a0 l1 hk hb (by omega)) (ev_now fun k => ?_)
      have e : (sgn a0 l1 == a2) = (a2 == sgn a0 l1) := by rw [Bool.eq_iff_iff, beq_iff_eq, beq_iff_eq]; exact eq_comm
      simp [e]
    · have hd2 : isDig a2 = false := by simpa using hd
      rw [hd2]
      refine Ev.step (fun k => by simp only [changeforgelaw5_SigningVerifyMatchesSpec.j0]; rw [if_pos (by decide)]) ?_
      simp only [changeforgelaw5_fault.f, Option.bind_some]
      refine ev_bind (verify_ev a0 l1 a2 hb) ?_
      unfold verifyRes
      rw [if_pos h, if_neg hd]
      exact ev_if_pos (by simp) (ev_if_neg (by decide) (Ev.now _))
  · refine ev_if_neg h ?_
    refine Ev.step (fun k => by simp only [changeforgelaw5_SigningVerifyMatchesSpec.j0]; rw [if_neg (by decide)]) ?_
    refine ev_bind (verify_ev a0 l1 a2 hb) ?_
    unfold verifyRes
    rw [if_neg h]
    exact ev_if_pos (by simp) (ev_if_neg h (Ev.now _))
end Go.Proofs.Ytmpboljmigigfaa.Pure
