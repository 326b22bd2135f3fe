/- The check of a certificate, with all errors, is as specified: the plain law. Its condition: the parameters are of their kinds and sizes. -/
import Derived.Test.YtlbjefoipljkgaaFf4
import Derived.Test.YtlbjefoipljkgaaFn0
import Derived.Test.YtlbjefoipljkgaaFp4
import Derived.Test.YtlbjefoipljkgaaPuPush
set_option linter.unusedVariables false
namespace Go.Proofs.Ytlbjefoipljkgaa.Pure
open Go.RowKit Go.Proofs.Ytlbjefoipljkgaa.Fn Go.Proofs.YtlbjefoipljkgaaW.PrintWords Go.Proofs.YtlbjefoipljkgaaW.PrintLast Go.Proofs.YtlbjefoipljkgaaW.PrintMore
theorem PushcertCheckMatchesSpec : changeforgelaw5_PushcertCheckMatchesSpec.Pure := by
  intro s now win l c _ _ _ _ _
  refine ev_total ?_
  unfold changeforgelaw5_PushcertCheckMatchesSpec.f
  refine ev_bind pushes_ev (ev_if_pos rfl (ev_bind (rPush_ev s now win l c.f0 c.f1 c.f2 c.f3 c.f4 c.f5 c.f6) (ev_bind (pCheck_ev s now win l c.f0 c.f1 c.f2 c.f3 c.f4 c.f5 c.f6) ?_)))
  unfold checkRes
  by_cases h : (pushFault s now win l c.f0 c.f1 c.f2 c.f3 c.f4 c.f5 c.f6).1 = 0
  · have hk := push_ok h
    have hlen : l.length < 40 := hk.2.2.2.2.2.2.2.2.2.2.2
    rw [if_pos h, hk.1]
    refine ev_if_pos (by simp) (ev_if_pos rfl (ev_bind (rIns_ev l c.f0 (by omega)) (ev_bind (rInts_ev _ _ (by rw [ins_len]; omega)) (ev_now fun k => by simp))))
  · rw [if_neg h]
    exact ev_if_pos (by simp) (ev_if_neg h (ev_if_pos (by simp) (Ev.now _)))
end Go.Proofs.Ytlbjefoipljkgaa.Pure
