/- Nonces and signed certificates, with all errors, are as specified: the plain law. Its condition: the parameters are of their kinds and sizes. -/
import Derived.Test.YtlbjefoipljkgaaFf3
import Derived.Test.YtlbjefoipljkgaaFn0
import Derived.Test.YtlbjefoipljkgaaFp3
import Derived.Test.YtlbjefoipljkgaaPuPush
set_option linter.unusedVariables false
namespace Go.Proofs.Ytlbjefoipljkgaa.Pure
open Go.RowKit Go.Proofs.Ytlbjefoipljkgaa.Fn Go.Proofs.YtlbjefoipljkgaaW.PrintWords Go.Proofs.YtlbjefoipljkgaaW.PrintLast Go.Proofs.YtlbjefoipljkgaaW.PrintMore
theorem PushcertMatchesSpec : changeforgelaw5_PushcertMatchesSpec.Pure := by
  intro s t c _ _ _
  refine ev_total ?_
  unfold changeforgelaw5_PushcertMatchesSpec.f
  refine ev_bind pushes_ev (ev_if_pos rfl ?_)
  simp only [rIsKey, lIn, lFault, Option.bind_some]
  have tm : ∀ a : Int, decide ((0 : Int) ≤ a ∧ a ≤ 100000) = isTm a := fun _ => rfl
  simp only [tm]
  have same : ∀ x : Int × Int, (!(x.1 == x.1) || (!(x.2 == x.2))) = false := fun x => by simp
  have same2 : ∀ x : Int × Int, (x.1 == x.1 && (x.2 == x.2)) = true := fun x => by simp
  have J1 : Ev (fun k => changeforgelaw5_PushcertMatchesSpec.j1 k false c.f0 c.f1 c.f2 c.f3 c.f4 c.f5 c.f6) true := by
    refine Ev.step (fun k => by simp only [changeforgelaw5_PushcertMatchesSpec.j1]; rw [if_neg (by decide)]) ?_
    refine ev_bind (rCert_ev c.f0 c.f1 c.f2 c.f3 c.f4 c.f5 c.f6) (ev_bind (pCertify_ev c.f0 c.f1 c.f2 c.f3 c.f4 c.f5 c.f6) (ev_bind (pVal_ev c.f0 c.f1 c.f2 c.f3 c.f4 c.f5 c.f6) ?_))
    unfold certRes
    by_cases h : (certFault c.f0 c.f1 c.f2 c.f3 c.f4 c.f5).1 = 0
    · obtain ⟨e, h2, h3, _⟩ := certFault_ok h
      rw [if_pos h, e]
      refine ev_if_neg (by decide) (ev_if_neg (by simp) ?_)
      refine Ev.step (fun k => by simp only [changeforgelaw5_PushcertMatchesSpec.j2]; rw [if_neg (by decide)]) ?_
      exact ev_bind (rCertSig_ev c.f6 h2 h3) (ev_now fun k => by simp)
    · rw [if_neg h]
      refine ev_if_neg (by rw [same]; exact Bool.false_ne_true) (ev_if_neg (by rw [same]; exact Bool.false_ne_true) ?_)
      have e : ((certFault c.f0 c.f1 c.f2 c.f3 c.f4 c.f5).1 != 0) = true := by simpa using h
      dsimp only
      rw [e]
      refine Ev.step (fun k => by simp only [changeforgelaw5_PushcertMatchesSpec.j2]; rw [if_pos trivial]) ?_
      have e2 : (⟨#[]⟩ : ByteArray).toList = [] := by decide +kernel
      exact ev_bind (pVal_ev c.f0 c.f1 c.f2 c.f3 c.f4 c.f5 c.f6) (ev_if_pos (same2 _) (ev_if_pos (same2 _) (ev_now fun k => by simp [e2])))
  by_cases hs : isKey s = true
  · refine ev_if_pos hs ?_
    by_cases ht : isTm t = true
    · refine ev_if_pos ht ?_
      refine Ev.step (fun k => by simp only [changeforgelaw5_PushcertMatchesSpec.j0]; rfl) ?_
      refine ev_bind (pNonce_ev s t) ?_
      have hn : nonceRes s t = (sgn s (msg [t]), 0, 0) := by unfold nonceRes; rw [if_pos hs, if_pos ht]
      rw [hn]
      refine ev_if_neg (by simp) (ev_if_pos (by simp) (ev_bind (rNonce_ev hs ht) ?_))
      rw [show (((sgn s (msg [t]), 0, 0) : Int × Int × Int).1 != sgn s (msg [t])) = false from by simp]
      exact J1
    · refine ev_if_neg ht ?_
      refine Ev.step (fun k => by simp only [changeforgelaw5_PushcertMatchesSpec.j0]; rfl) ?_
      refine ev_bind (pNonce_ev s t) ?_
      have hn : nonceRes s t = (0, 3, 0) := by unfold nonceRes; rw [if_pos hs, if_neg ht]
      rw [hn]
      exact ev_if_neg (by decide) (ev_if_neg (by simp) (ev_if_pos rfl J1))
  · refine ev_if_neg hs ?_
    refine Ev.step (fun k => by simp only [changeforgelaw5_PushcertMatchesSpec.j0]; rfl) ?_
    refine ev_bind (pNonce_ev s t) ?_
    have hn : nonceRes s t = (0, 3, -1) := by unfold nonceRes; rw [if_neg hs]
    rw [hn]
    exact ev_if_neg (by decide) (ev_if_neg (by simp) (ev_if_pos rfl J1))
end Go.Proofs.Ytlbjefoipljkgaa.Pure
