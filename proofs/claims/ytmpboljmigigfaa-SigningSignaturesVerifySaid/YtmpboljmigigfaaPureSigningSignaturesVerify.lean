/- The signature of data verifies, and no other: the plain law. Its condition: the parameters are of their kinds and sizes. -/
import Derived.Test.YtmpboljmigigfaaFf5
import Derived.Test.YtmpboljmigigfaaFn0
import Derived.Test.YtmpboljmigigfaaPuSigns
set_option linter.unusedVariables false
namespace Go.Proofs.Ytmpboljmigigfaa.Pure
open Go.RowKit Go.Proofs.Ytmpboljmigigfaa.Fn Go.Proofs.YtmpboljmigigfaaW.PrintWords Go.Proofs.YtmpboljmigigfaaW.PrintLast Go.Proofs.YtmpboljmigigfaaW.PrintMore
theorem SigningSignaturesVerify : changeforgelaw5_SigningSignaturesVerify.Pure := by
  intro a0 l1 a2 wa hl1 hl1' hb1 w2
  refine ev_total ?_
  have hb := bytes_of_wf hb1
  unfold changeforgelaw5_SigningSignaturesVerify.f
  refine ev_bind signs_ev (ev_if_pos rfl ?_)
  refine ev_bind (sign_ev a0 l1 hb) ?_
  simp only [rIsDig, rIsKey, Option.bind_some]
  by_cases h : (signFault a0 l1).1 = 0
  · have e1 : signRes a0 l1 = (sgn a0 l1, 0, 0) := by unfold signRes; rw [if_pos h]
    rw [e1]
    refine ev_if_pos rfl ?_
    refine ev_bind (verify_ev a0 l1 _ hb) (ev_bind (verify_ev a0 l1 a2 hb) ?_)
    have e2 : verifyRes a0 l1 (sgn a0 l1) = (true, 0, 0) := by
      unfold verifyRes
      rw [if_pos h, if_pos (isDig_sgn _ _)]
      simp
    rw [e2]
    refine ev_if_pos rfl (ev_if_pos rfl ?_)
    unfold verifyRes
    rw [if_pos h]
    by_cases hd : isDig a2 = true
    · rw [if_pos hd, hd]
      refine ev_if_pos (by simp) (ev_now fun k => ?_)
      have e : (sgn a0 l1 == a2) = (a2 == sgn a0 l1) := by rw [Bool.eq_iff_iff, beq_iff_eq, beq_iff_eq]; exact eq_comm
      simp [e]
    · have hd2 : isDig a2 = false := by simpa using hd
      rw [if_neg hd, hd2]
      refine ev_if_pos (by decide) (ev_now fun k => ?_)
      simp only [Option.some.injEq]
      have hne : ¬ a2 = sgn a0 l1 := fun e => hd (by rw [e]; exact isDig_sgn _ _)
      simp [hne]
  · have e1 : signRes a0 l1 = (0, (signFault a0 l1).1, (signFault a0 l1).2) := by unfold signRes; rw [if_neg h]
    rw [e1]
    refine ev_if_neg h (ev_now fun k => ?_)
    unfold signFault at h
    by_cases hk : isKey a0 = true
    · rw [if_pos hk] at h ⊢
      by_cases hl : (l1.length : Int) ≤ 4096
      · rw [if_pos hl] at h
        exact absurd rfl h
      · congr 1
        rw [decide_eq_true_eq]
        omega
    · rw [if_neg hk]
end Go.Proofs.Ytmpboljmigigfaa.Pure
