/- The inclusion proof of every leaf of a log verifies: the plain law. Its condition: the parameters are of their kinds and sizes. -/
import Derived.Test.YtmcpcdnnnnhogaaFf6
import Derived.Test.YtmcpcdnnnnhogaaFn0
import Derived.Test.YtmcpcdnnnnhogaaPuLaws
set_option linter.unusedVariables false
namespace Go.Proofs.Ytmcpcdnnnnhogaa.Pure
open Go.RowKit Go.Proofs.Ytmcpcdnnnnhogaa.Fn Go.Proofs.YtmcpcdnnnnhogaaW.PrintWords Go.Proofs.YtmcpcdnnnnhogaaW.PrintLast Go.Proofs.YtmcpcdnnnnhogaaW.PrintMore
theorem TranslogProofsVerify : changeforgelaw5_TranslogProofsVerify.Pure := by
  intro l i hl hl2 hw hi
  refine ev_total ?_
  unfold changeforgelaw5_TranslogProofsVerify.f
  simp only [lIn_eq, Option.bind_some]
  refine ev_bind logs_ev (ev_if_pos rfl (ev_bind (rLeaves_ev l) ?_))
  rw [w64 (n := (l.length : Int) - 1) (by omega) (by omega)]
  have yes : Ev (fun k => changeforgelaw5_TranslogProofsVerify.j0 k l i true) true := Ev.step (f := fun _ => some true) (fun k => by simp only [changeforgelaw5_TranslogProofsVerify.j0]; rw [if_pos trivial]) (Ev.now _)
  by_cases h : (msgFault l).1 = 0
  · refine ev_if_pos h ?_
    by_cases hin : 0 ≤ i ∧ i ≤ (l.length : Int) - 1
    · rw [decide_eq_true hin]
      obtain ⟨h1, h2, h3⟩ := msgFault_ok h
      obtain ⟨i', rfl⟩ := Int.eq_ofNat_of_zero_le hin.1
      have hpf : proveFault l (i' : Int) = (0, 0) := by
        unfold proveFault
        rw [if_pos h, if_pos (by omega)]
      have hR := pRootX_ev l
      rw [if_pos h, h3] at hR
      have hP := pProveX_ev l (i' : Int)
      rw [hpf, if_pos rfl] at hP
      obtain ⟨h4, h5⟩ := prv_facts l.length l i' rfl h2
      have hlf : isDig (rd l (i' : Int)) = true := by
        rw [rd_get l i' (by omega)]
        exact h2 _ (List.getElem_mem _)
      have hV := pVerify_ev (root l) (l.length : Int) (i' : Int) (rd l (i' : Int)) (prv l i')
      have hvf : verFault (root l) (l.length : Int) (i' : Int) (rd l (i' : Int)) (prv l i') = (0, 0) := by
        unfold verFault bad
        rw [root_dig h2, hlf, decide_eq_true (show 1 ≤ (l.length : Int) ∧ (l.length : Int) ≤ 64 by omega), decide_eq_true (show 0 ≤ (i' : Int) ∧ (i' : Int) < (l.length : Int) by omega)]
        exact pfFault_of (by omega) h5
      have hok : verOk (root l) (l.length : Int) (i' : Int) (rd l (i' : Int)) (prv l i') = true := by
        unfold verOk
        rw [hvf]
        simp only [Int.toNat_natCast]
        rw [prv_incl (by omega) (by omega)]
        rfl
      rw [hok, hvf] at hV
      refine Ev.step (fun k => by simp only [changeforgelaw5_TranslogProofsVerify.j0]; rw [if_neg (by decide)]) ?_
      refine ev_bind hR (ev_bind hP (ev_if_pos (by omega) (ev_if_pos (by omega) ?_)))
      simp only [Int.toNat_natCast]
      refine ev_bind hV (ev_if_pos (by trivial) (ev_if_pos (by trivial) (ev_if_pos (by trivial) (ev_if_pos (by trivial) ?_))))
      rw [decide_eq_true (show (((prv l i').length : Nat) : Int) ≤ 6 by have := prv_six (l := l) (i := i') (by omega) (by omega); omega)]
      exact Ev.now _
    · rw [decide_eq_false hin]
      exact yes
  · exact ev_if_neg h yes
end Go.Proofs.Ytmcpcdnnnnhogaa.Pure
