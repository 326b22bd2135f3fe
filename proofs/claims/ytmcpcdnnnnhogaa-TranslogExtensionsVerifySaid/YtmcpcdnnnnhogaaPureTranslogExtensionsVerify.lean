/- The consistency proof of every beginning of a log verifies: the plain law. Its condition: the parameters are of their kinds and sizes. -/
import Derived.Test.YtmcpcdnnnnhogaaFf7
import Derived.Test.YtmcpcdnnnnhogaaFn0
import Derived.Test.YtmcpcdnnnnhogaaPuLaws
set_option linter.unusedVariables false
namespace Go.Proofs.Ytmcpcdnnnnhogaa.Pure
open Go.RowKit Go.Proofs.Ytmcpcdnnnnhogaa.Fn Go.Proofs.YtmcpcdnnnnhogaaW.PrintWords Go.Proofs.YtmcpcdnnnnhogaaW.PrintLast Go.Proofs.YtmcpcdnnnnhogaaW.PrintMore
theorem TranslogExtensionsVerify : changeforgelaw5_TranslogExtensionsVerify.Pure := by
  intro l m hl hl2 hw hi
  refine ev_total ?_
  unfold changeforgelaw5_TranslogExtensionsVerify.f
  simp only [lIn_eq, Option.bind_some]
  refine ev_bind logs_ev (ev_if_pos rfl (ev_bind (rLeaves_ev l) ?_))
  have yes : Ev (fun k => changeforgelaw5_TranslogExtensionsVerify.j0 k l m true) true := Ev.step (f := fun _ => some true) (fun k => by simp only [changeforgelaw5_TranslogExtensionsVerify.j0]; rw [if_pos trivial]) (Ev.now _)
  by_cases h : (msgFault l).1 = 0
  · refine ev_if_pos h ?_
    by_cases hin : 1 ≤ m ∧ m ≤ (l.length : Int)
    · rw [decide_eq_true hin]
      obtain ⟨h1, h2, h3⟩ := msgFault_ok h
      obtain ⟨m', rfl⟩ := Int.eq_ofNat_of_zero_le (show 0 ≤ m by omega)
      have hT : msgFault (l.take m') = (0, 0) := by
        unfold msgFault
        rw [if_pos (by rw [List.length_take]; omega)]
        exact digFault_ok _ 0 (take_dig h2 _)
      have hR := pRootX_ev l
      rw [if_pos h, h3] at hR
      have hO := pRootX_ev (l.take m')
      rw [hT, if_pos rfl] at hO
      have hcf : contFault l (m' : Int) = (0, 0) := by
        unfold contFault
        rw [if_pos h, if_pos (by omega)]
      have hP := pContX_ev l (m' : Int)
      rw [hcf, if_pos rfl] at hP
      obtain ⟨h4, h5⟩ := subp_facts l.length l m' true rfl (by omega) (by omega) h2
      have hV := pCons_ev (root (l.take m')) (m' : Int) (root l) (l.length : Int) (subp l m' true)
      have hvf : conFault (root (l.take m')) (m' : Int) (root l) (l.length : Int) (subp l m' true) = (0, 0) := by
        unfold conFault bad
        rw [root_dig h2, root_dig (take_dig h2 _), decide_eq_true (show 1 ≤ (m' : Int) ∧ (m' : Int) ≤ (l.length : Int) by omega), decide_eq_true (show 1 ≤ (l.length : Int) ∧ (l.length : Int) ≤ 64 by omega)]
        exact pfFault_of (by omega) h5
      have hok : conOk (root (l.take m')) (m' : Int) (root l) (l.length : Int) (subp l m' true) = true := by
        unfold conOk
        rw [hvf]
        simp only [Int.toNat_natCast]
        rw [subp_cons (by omega) (by omega) (by omega)]
        rfl
      rw [hok, hvf] at hV
      refine Ev.step (fun k => by simp only [changeforgelaw5_TranslogExtensionsVerify.j0]; rw [if_neg (by decide)]) ?_
      refine ev_if_pos (by omega) (ev_if_pos (by omega) ?_)
      simp only [Int.toNat_natCast] at hP ⊢
      refine ev_bind hO (ev_bind hR (ev_bind hP (ev_bind hV ?_)))
      exact ev_if_pos rfl (ev_if_pos rfl (ev_if_pos rfl (ev_if_pos rfl (Ev.now _))))
    · rw [decide_eq_false hin]
      exact yes
  · exact ev_if_neg h yes
end Go.Proofs.Ytmcpcdnnnnhogaa.Pure
