/- A certificate that is accepted is also accepted with a longer window: the plain law. Its condition: the parameters are of their kinds and sizes. -/
import Derived.Test.YtlbjefoipljkgaaFf8
import Derived.Test.YtlbjefoipljkgaaFn0
import Derived.Test.YtlbjefoipljkgaaFp8
import Derived.Test.YtlbjefoipljkgaaPuPush
set_option linter.unusedVariables false
namespace Go.Proofs.Ytlbjefoipljkgaa.Pure
open Go.RowKit Go.Proofs.Ytlbjefoipljkgaa.Fn Go.Proofs.YtlbjefoipljkgaaW.PrintWords Go.Proofs.YtlbjefoipljkgaaW.PrintLast Go.Proofs.YtlbjefoipljkgaaW.PrintMore
theorem PushcertWindowsAreMonotone : changeforgelaw5_PushcertWindowsAreMonotone.Pure := by
  intro s now win longer l c _ _ _ _ _ _
  refine ev_total ?_
  unfold changeforgelaw5_PushcertWindowsAreMonotone.f
  refine ev_bind pushes_ev (ev_if_pos rfl (ev_bind (pCheck_ev s now win l c.f0 c.f1 c.f2 c.f3 c.f4 c.f5 c.f6) (ev_bind (pCheck_ev s now longer l c.f0 c.f1 c.f2 c.f3 c.f4 c.f5 c.f6) ?_)))
  unfold checkRes
  by_cases h : (pushFault s now win l c.f0 c.f1 c.f2 c.f3 c.f4 c.f5 c.f6).1 = 0
  · obtain ⟨e, g1, g2, g3, g4, g5, g6, g7, g8, g9, g10, g11⟩ := push_ok h
    rw [if_pos h]
    refine ev_if_pos rfl ?_
    simp only [lIn, Option.bind_some]
    by_cases hb : win ≤ longer ∧ longer ≤ 100000
    · have hw := (isTm_iff _).1 g5
      have gl : isTm longer = true := (isTm_iff _).2 (by omega)
      have gs : stale now longer c.f1 = false := by
        unfold stale at g7 ⊢
        rw [decide_eq_false_iff_not] at g7 ⊢
        omega
      have e2 : pushFault s now longer l c.f0 c.f1 c.f2 c.f3 c.f4 c.f5 c.f6 = (0, 0) := by
        rw [push_of g1 g2 g3 g4 g5 g6, g7] at e
        rw [push_of g1 g2 g3 g4 gl g6, gs]
        exact e
      rw [e2, if_pos rfl]
      exact ev_if_pos (decide_eq_true hb) (ev_if_pos rfl (ev_bind (rInts_ev _ _ (by rw [ins_len]; omega)) (ev_now fun k => by simp)))
    · exact ev_if_neg (by rw [decide_eq_true_eq]; exact hb) (Ev.now _)
  · rw [if_neg h]
    exact ev_if_neg h (ev_now fun k => by simp)
end Go.Proofs.Ytlbjefoipljkgaa.Pure
