/- A root and a proof determine the leaf that is proved to be included: the plain law. Its condition: the parameters are of their kinds and sizes. -/
import Derived.Test.YtmcpcdnnnnhogaaFf8
import Derived.Test.YtmcpcdnnnnhogaaFn0
import Derived.Test.YtmcpcdnnnnhogaaPuLaws
set_option linter.unusedVariables false
namespace Go.Proofs.Ytmcpcdnnnnhogaa.Pure
open Go.RowKit Go.Proofs.Ytmcpcdnnnnhogaa.Fn Go.Proofs.YtmcpcdnnnnhogaaW.PrintWords Go.Proofs.YtmcpcdnnnnhogaaW.PrintLast Go.Proofs.YtmcpcdnnnnhogaaW.PrintMore
theorem TranslogLeavesAreDetermined : changeforgelaw5_TranslogLeavesAreDetermined.Pure := by
  intro root n i a b p _ _ _ _ _ _ _ _
  refine ev_total ?_
  unfold changeforgelaw5_TranslogLeavesAreDetermined.f
  refine ev_bind (pVerify_ev root n i a p) (ev_bind (pVerify_ev root n i b p) (ev_bind logs_ev (ev_if_pos rfl ?_)))
  have no : ∀ x, ¬ (verFault root n i x p).1 = 0 → verOk root n i x p = false := by
    intro x hx
    unfold verOk
    rw [decide_eq_false hx]
    rfl
  by_cases ha : (verFault root n i a p).1 = 0
  · refine ev_if_pos ha ?_
    by_cases hb : (verFault root n i b p).1 = 0
    · refine ev_if_pos hb ?_
      by_cases va : verOk root n i a p = true
      · refine ev_if_pos va ?_
        by_cases vb : verOk root n i b p = true
        · refine ev_if_pos vb ?_
          obtain ⟨_, _, _, h4, _⟩ := bad_ok ha
          obtain ⟨_, _, _, g4, _⟩ := bad_ok hb
          unfold verOk at va vb
          rw [Bool.and_eq_true] at va vb
          rw [incl_inj root _ a b p h4 g4 va.2 vb.2, beq_self_eq_true]
          exact Ev.now _
        · exact ev_if_neg vb (Ev.now _)
      · exact ev_if_neg va (Ev.now _)
    · refine ev_if_neg hb (ev_if_neg (by rw [no b hb]; simp) ?_)
      by_cases va : verOk root n i a p = true
      · exact ev_if_pos va (Ev.now _)
      · exact ev_if_neg va (Ev.now _)
  · refine ev_if_neg ha (ev_if_neg (by rw [no a ha]; simp) ?_)
    by_cases hb : (verFault root n i b p).1 = 0
    · exact ev_if_pos hb (Ev.now _)
    · exact ev_if_neg hb (ev_if_neg (by rw [no b hb]; simp) (Ev.now _))
end Go.Proofs.Ytmcpcdnnnnhogaa.Pure
