/- The check of an inclusion proof is as specified: the plain law. Its condition: the parameters are of their kinds and sizes. -/
import Derived.Test.YtmcpcdnnnnhogaaFf12
import Derived.Test.YtmcpcdnnnnhogaaFf23
import Derived.Test.YtmcpcdnnnnhogaaFf24
import Derived.Test.YtmcpcdnnnnhogaaFf4
import Derived.Test.YtmcpcdnnnnhogaaFn0
import Derived.Test.YtmcpcdnnnnhogaaPuLaws
set_option linter.unusedVariables false
namespace Go.Proofs.Ytmcpcdnnnnhogaa.Pure
open Go.RowKit Go.Proofs.Ytmcpcdnnnnhogaa.Fn Go.Proofs.YtmcpcdnnnnhogaaW.PrintWords Go.Proofs.YtmcpcdnnnnhogaaW.PrintLast Go.Proofs.YtmcpcdnnnnhogaaW.PrintMore
theorem tv_tail (root n i leaf : Int) (p : List Int) : Ev (fun k => (translog_Verify.f k root n i leaf p).bind fun bt107 => (changeforgelaw5_logs.f k).bind fun t111 => if t111 = true then (if (!(bt107.2.1 == (verFault root n i leaf p).1) || (!(bt107.2.2 == (verFault root n i leaf p).2))) = true then none else (if (verFault root n i leaf p).1 = 0 then (changeforgeref5_LogIncludes.f k root n i leaf p).bind fun t112 => some (bt107.1 == t112) else some (bt107.1 == false))) else none) true := by
  refine ev_bind (pVerify_ev root n i leaf p) (ev_bind logs_ev (ev_if_pos rfl (ev_if_neg (by simp) ?_)))
  by_cases hw : (verFault root n i leaf p).1 = 0
  · refine ev_if_pos hw ?_
    obtain ⟨h1, h2, h3, h4, h5, h6, h7⟩ := bad_ok hw
    rw [decide_eq_true_eq] at h2 h3
    unfold verOk
    rw [decide_eq_true hw, Bool.true_and]
    obtain ⟨n', rfl⟩ := Int.eq_ofNat_of_zero_le (show 0 ≤ n by omega)
    obtain ⟨i', rfl⟩ := Int.eq_ofNat_of_zero_le (show 0 ≤ i by omega)
    refine ev_bind (rIncl_ev (by omega) (by omega) h5 h6 h4) ?_
    simp only [Int.toNat_natCast, beq_self_eq_true]
    exact Ev.now _
  · refine ev_if_neg hw ?_
    unfold verOk
    rw [decide_eq_false hw]
    exact Ev.now _
theorem TranslogVerifyMatchesSpec : changeforgelaw5_TranslogVerifyMatchesSpec.Pure := by
  intro root n i leaf p _ _ _ _ _ _ _
  refine ev_total ?_
  unfold changeforgelaw5_TranslogVerifyMatchesSpec.f
  simp only [rIsDig, lIn_eq, Option.bind_some]
  have ht := tv_tail root n i leaf p
  by_cases hi : i ≥ 0
  · refine ev_if_pos hi (ev_bind (rBad_ev _ _ _ _ _) ?_)
    have e : bad (isDig root) (decide (1 ≤ n ∧ n ≤ 64)) (decide (i < n)) (isDig leaf) p = verFault root n i leaf p := by
      unfold verFault
      rw [show decide (0 ≤ i ∧ i < n) = decide (i < n) from by rw [decide_eq_decide]; omega]
    rw [e]
    exact ht
  · refine ev_if_neg hi (ev_bind (rBad_ev _ _ _ _ _) ?_)
    have e : bad (isDig root) (decide (1 ≤ n ∧ n ≤ 64)) false (isDig leaf) p = verFault root n i leaf p := by
      unfold verFault
      rw [show decide (0 ≤ i ∧ i < n) = false from by rw [decide_eq_false_iff_not]; omega]
    rw [e]
    exact ht
end Go.Proofs.Ytmcpcdnnnnhogaa.Pure
