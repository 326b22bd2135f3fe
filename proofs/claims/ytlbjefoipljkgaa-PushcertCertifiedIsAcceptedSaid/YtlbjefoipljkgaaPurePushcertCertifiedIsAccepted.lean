/- A certificate that was signed with a fresh nonce is accepted as long as the nonce is not too old: the plain law. Its condition: the parameters are of their kinds and sizes. -/
import Derived.Test.YtlbjefoipljkgaaFf5
import Derived.Test.YtlbjefoipljkgaaFn0
import Derived.Test.YtlbjefoipljkgaaFp5
import Derived.Test.YtlbjefoipljkgaaPuPush
set_option linter.unusedVariables false
namespace Go.Proofs.Ytlbjefoipljkgaa.Pure
open Go.RowKit Go.Proofs.Ytlbjefoipljkgaa.Fn Go.Proofs.YtlbjefoipljkgaaW.PrintWords Go.Proofs.YtlbjefoipljkgaaW.PrintLast Go.Proofs.YtlbjefoipljkgaaW.PrintMore
theorem PushcertCertifiedIsAccepted : changeforgelaw5_PushcertCertifiedIsAccepted.Pure := by
  intro s now win c _ _ _ _
  refine ev_total ?_
  unfold changeforgelaw5_PushcertCertifiedIsAccepted.f
  refine ev_bind pushes_ev (ev_if_pos rfl (ev_bind (pNonce_ev s c.f1) ?_))
  simp only [lIn, Option.bind_some]
  have tm : ∀ a : Int, decide ((0 : Int) ≤ a ∧ a ≤ 100000) = isTm a := fun _ => rfl
  simp only [tm]
  have jn : ∀ a b : Int, a ≠ 0 → Ev (fun k => changeforgelaw5_PushcertCertifiedIsAccepted.j0 k s now win 0 true c.f0 c.f1 c.f2 c.f3 c.f4 c.f5 c.f6 a b) true := fun a b ha =>
    Ev.step (f := fun _ => some true) (fun k => by simp only [changeforgelaw5_PushcertCertifiedIsAccepted.j0]; rw [if_pos trivial, if_neg ha]; rfl) (Ev.now _)
  by_cases hs : isKey s = true
  · by_cases ht : isTm c.f1 = true
    · have hn : nonceRes s c.f1 = (sgn s (msg [c.f1]), 0, 0) := by unfold nonceRes; rw [if_pos hs, if_pos ht]
      rw [hn]
      refine ev_if_pos rfl ?_
      have jt : ∀ n : Int, Ev (fun k => changeforgelaw5_PushcertCertifiedIsAccepted.j0 k s now win n true c.f0 c.f1 c.f2 c.f3 c.f4 c.f5 c.f6 0 0) true := fun n =>
        Ev.step (f := fun _ => some true) (fun k => by simp only [changeforgelaw5_PushcertCertifiedIsAccepted.j0]; rw [if_pos trivial, if_pos trivial]) (Ev.now _)
      by_cases h1 : isTm now = true
      · refine ev_if_pos h1 ?_
        by_cases h2 : isTm win = true
        · rw [h2]
          refine Ev.step (fun k => by simp only [changeforgelaw5_PushcertCertifiedIsAccepted.j0]; rw [if_neg (by decide)]) ?_
          generalize hN : sgn s (msg [c.f1]) = n
          refine ev_bind (pCertify_ev n c.f1 c.f2 c.f3 c.f4 c.f5 c.f6) ?_
          unfold certRes
          by_cases hf : (certFault n c.f1 c.f2 c.f3 c.f4 c.f5).1 = 0
          · rw [if_pos hf]
            refine ev_if_pos rfl (ev_bind (pCheck_ev s now win [] n c.f1 c.f2 c.f3 c.f4 c.f5 (certSig n c.f1 c.f2 c.f3 c.f4 c.f5)) ?_)
            have hu : (usedFault []).1 = 0 := by decide
            have hp := push_of (l := []) (t := c.f1) hf (isDig_certSig n c.f1 c.f2 c.f3 c.f4 c.f5) hs h1 h2 hu
            have hst : ∀ b : Bool, chk s n c.f1 c.f2 c.f3 c.f4 c.f5 (certSig n c.f1 c.f2 c.f3 c.f4 c.f5) [] b = if b = true then (16, 0) else (0, 0) := by
              intro b
              unfold chk
              cases b
              · rw [if_neg (show ¬ (false = true) by decide), if_pos hN.symm, if_pos rfl, if_neg (by simp), if_neg (by simp), if_neg (by decide)]
              · rw [if_pos rfl, if_pos rfl]
            rw [hst] at hp
            have J : ∀ b : Bool, stale now win c.f1 = b → Ev (fun k => changeforgelaw5_PushcertCertifiedIsAccepted.j1 k n (checkRes s now win [] n c.f1 c.f2 c.f3 c.f4 c.f5 (certSig n c.f1 c.f2 c.f3 c.f4 c.f5)).1 b (checkRes s now win [] n c.f1 c.f2 c.f3 c.f4 c.f5 (certSig n c.f1 c.f2 c.f3 c.f4 c.f5)).2.1 (checkRes s now win [] n c.f1 c.f2 c.f3 c.f4 c.f5 (certSig n c.f1 c.f2 c.f3 c.f4 c.f5)).2.2) true := by
              intro b hb
              rw [hb] at hp
              unfold checkRes
              rw [hp]
              cases b
              · rw [show (if false = true then ((16, 0) : Int × Int) else (0, 0)) = (0, 0) from rfl, if_pos rfl]
                refine Ev.step (fun k => by simp only [changeforgelaw5_PushcertCertifiedIsAccepted.j1]; rw [if_neg (by decide), if_pos trivial]) ?_
                exact ev_bind (rInts_ev _ _ (by rw [ins_len]; simp)) (ev_now fun k => by simp [ins])
              · rw [show (if true = true then ((16, 0) : Int × Int) else (0, 0)) = (16, 0) from rfl, if_neg (by decide)]
                exact Ev.step (f := fun _ => some true) (fun k => by simp only [changeforgelaw5_PushcertCertifiedIsAccepted.j1]; rw [if_pos trivial]; simp [lFault]) (Ev.now _)
            rw [win_w h1 h2]
            by_cases h5 : c.f1 > now
            · exact ev_if_pos h5 (J true (by unfold stale; exact decide_eq_true (Or.inl h5)))
            · refine ev_if_neg h5 (J _ ?_)
              unfold stale
              rw [decide_eq_decide]
              exact ⟨fun h => h.resolve_left h5, Or.inr⟩
          · rw [if_neg hf]
            refine ev_if_neg hf (ev_now fun k => ?_)
            have e : (⟨#[]⟩ : ByteArray).toList = [] := by decide +kernel
            simp [e]
        · rw [Bool.eq_false_iff.2 h2]
          exact jt _
      · exact ev_if_neg h1 (jt _)
    · have hn : nonceRes s c.f1 = (0, 3, 0) := by unfold nonceRes; rw [if_pos hs, if_neg ht]
      rw [hn]
      exact ev_if_neg (by decide) (jn 3 0 (by decide))
  · have hn : nonceRes s c.f1 = (0, 3, -1) := by unfold nonceRes; rw [if_neg hs]
    rw [hn]
    exact ev_if_neg (by decide) (jn 3 (-1) (by decide))
end Go.Proofs.Ytlbjefoipljkgaa.Pure
