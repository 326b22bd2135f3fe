/- The check of a consistency proof is as specified: the plain law. Its condition: the parameters are of their kinds and sizes. -/
import Derived.Test.YtmcpcdnnnnhogaaFf12
import Derived.Test.YtmcpcdnnnnhogaaFf25
import Derived.Test.YtmcpcdnnnnhogaaFf26
import Derived.Test.YtmcpcdnnnnhogaaFf5
import Derived.Test.YtmcpcdnnnnhogaaFn0
import Derived.Test.YtmcpcdnnnnhogaaPuLaws
set_option linter.unusedVariables false
namespace Go.Proofs.Ytmcpcdnnnnhogaa.Pure
open Go.RowKit Go.Proofs.Ytmcpcdnnnnhogaa.Fn Go.Proofs.YtmcpcdnnnnhogaaW.PrintWords Go.Proofs.YtmcpcdnnnnhogaaW.PrintLast Go.Proofs.YtmcpcdnnnnhogaaW.PrintMore
theorem tc_tail (old m new n : Int) (p : List Int) : Ev (fun k => (translog_VerifyConsistency.f k old m new n p).bind fun bt107 => (changeforgelaw5_logs.f k).bind fun t111 => if t111 = true then (if (!(bt107.2.1 == (conFault old m new n p).1) || (!(bt107.2.2 == (conFault old m new n p).2))) = true then none else (if (conFault old m new n p).1 = 0 then (changeforgeref5_LogExtends.f k old m new n p).bind fun t112 => some (bt107.1 == t112) else some (bt107.1 == false))) else none) true := by
  refine ev_bind (pCons_ev old m new n p) (ev_bind logs_ev (ev_if_pos rfl (ev_if_neg (by simp) ?_)))
  by_cases hw : (conFault old m new n p).1 = 0
  · refine ev_if_pos hw ?_
    obtain ⟨h1, h2, h3, h4, h5, h6, h7⟩ := bad_ok hw
    rw [decide_eq_true_eq] at h2 h4
    unfold conOk
    rw [decide_eq_true hw, Bool.true_and]
    obtain ⟨n', rfl⟩ := Int.eq_ofNat_of_zero_le (show 0 ≤ n by omega)
    obtain ⟨m', rfl⟩ := Int.eq_ofNat_of_zero_le (show 0 ≤ m by omega)
    refine ev_bind (rExt_ev (by omega) (by omega) (by omega) h5 h6 h1) ?_
    simp only [Int.toNat_natCast, beq_self_eq_true]
    exact Ev.now _
  · refine ev_if_neg hw ?_
    unfold conOk
    rw [decide_eq_false hw]
    exact Ev.now _
theorem TranslogVerifyConsistencyMatchesSpec : changeforgelaw5_TranslogVerifyConsistencyMatchesSpec.Pure := by
  intro old m new n p _ _ _ _ _ _ _
  refine ev_total ?_
  unfold changeforgelaw5_TranslogVerifyConsistencyMatchesSpec.f
  simp only [rIsDig, lIn_eq, Option.bind_some]
  have ht := tc_tail old m new n p
  by_cases hi : m ≥ 1
  · refine ev_if_pos hi (ev_bind (rBad_ev _ _ _ _ _) ?_)
    have e : bad (isDig old) (decide (m ≤ n)) (isDig new) (decide (1 ≤ n ∧ n ≤ 64)) p = conFault old m new n p := by
      unfold conFault
      rw [show decide (1 ≤ m ∧ m ≤ n) = decide (m ≤ n) from by rw [decide_eq_decide]; omega]
    rw [e]
    exact ht
  · refine ev_if_neg hi (ev_bind (rBad_ev _ _ _ _ _) ?_)
    have e : bad (isDig old) false (isDig new) (decide (1 ≤ n ∧ n ≤ 64)) p = conFault old m new n p := by
      unfold conFault
      rw [show decide (1 ≤ m ∧ m ≤ n) = false from by rw [decide_eq_false_iff_not]; omega]
    rw [e]
    exact ht
end Go.Proofs.Ytmcpcdnnnnhogaa.Pure
