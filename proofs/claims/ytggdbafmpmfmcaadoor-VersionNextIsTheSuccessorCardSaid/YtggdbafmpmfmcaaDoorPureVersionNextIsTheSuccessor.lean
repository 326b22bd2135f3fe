/- The plain law: Next is the least version above. No condition but the printed statement's own. -/
import Derived.Test.YtggdbafmpmfmcaaDoorFf7
import Derived.Test.YtggdbafmpmfmcaaDoorFn0
import Derived.Test.YtggdbafmpmfmcaaDoorFp7
import Derived.Test.YtggdbafmpmfmcaaDoorPuVC
set_option linter.unusedVariables false
set_option linter.unusedSimpArgs false
namespace Go.Proofs.YtggdbafmpmfmcaaDoor.Pure
open Go Go.RowKit Go.Proofs.YtggdbafmpmfmcaaDoor.Fn Go.Proofs.YtggdbafmpmfmcaaDoorW.PrintWords Go.Proofs.YtggdbafmpmfmcaaDoorW.PrintLast Go.Proofs.YtggdbafmpmfmcaaDoorW.PrintMore
theorem VersionNextIsTheSuccessor : changeforgelaw5_VersionNextIsTheSuccessor.Pure := by
  intro x0 x1 hw0 hw1
  obtain ⟨a1, a2, a3, p⟩ := x0
  obtain ⟨b1, b2, b3, q⟩ := x1
  have jz : ∀ c d, Ev (fun k => changeforgelaw5_VersionNextIsTheSuccessor.j0 k true a1 a2 a3 p b1 b2 b3 q 0 0 0 [] c d) true := fun c d => by
    refine Ev.step (fun k => by simp only [changeforgelaw5_VersionNextIsTheSuccessor.j0]; rw [if_pos trivial]) ?_
    have s := rSame 0 0 0 [] 0 0 0 [] (by decide)
    rw [decide_eq_true ⟨rfl, rfl, rfl, rfl⟩] at s
    refine ev_bind s ?_
    exact Ev.now _
  refine Ev.rounds (g := fun k => changeforgelaw5_VersionNextIsTheSuccessor.f k a1 a2 a3 p b1 b2 b3 q) ?_
  unfold changeforgelaw5_VersionNextIsTheSuccessor.f
  refine ev_bind orders ?_
  simp only [if_true]
  rcases fault_cases a1 a2 a3 p with ⟨hA, eA⟩ | eA
  · by_cases hn : nxtOk a3 p
    · simp only [pNext_ok hA hn, Option.bind_some, if_true]
      refine ev_bind (rFault b1 b2 b3 q) ?_
      have hN := next_ok hA hn
      rcases fault_cases b1 b2 b3 q with ⟨hB, eB⟩ | eB
      · simp only [eB, show ((0 : Int) != 0) = false from rfl]
        refine Ev.step (fun k => by simp only [changeforgelaw5_VersionNextIsTheSuccessor.j0]; rw [if_neg (by decide)]) ?_
        have c1 := lCompare hA hN
        have e1 : verCmp a1 a2 a3 p a1 a2 (nextV a3 p).1 (nextV a3 p).2 = -1 := by
          have h := (@succ_law a1 a2 a3 p a1 a2 (nextV a3 p).1 (nextV a3 p).2 hN.2.2.2.2).2 (by
            have := vc_tot.self (a1, a2, (nextV a3 p).1, (nextV a3 p).2)
            change verCmp a1 a2 (nextV a3 p).1 (nextV a3 p).2 a1 a2 (nextV a3 p).1 (nextV a3 p).2 = 0 at this
            omega)
          have r := vc_tot.rng (a1, a2, a3, p) (a1, a2, (nextV a3 p).1, (nextV a3 p).2)
          change verCmp a1 a2 a3 p a1 a2 (nextV a3 p).1 (nextV a3 p).2 = -1 ∨ verCmp a1 a2 a3 p a1 a2 (nextV a3 p).1 (nextV a3 p).2 = 0 ∨ verCmp a1 a2 a3 p a1 a2 (nextV a3 p).1 (nextV a3 p).2 = 1 at r
          omega
        rw [e1] at c1
        refine ev_bind c1 ?_
        simp only [if_true]
        refine ev_bind (lCompare hA hB) ?_
        refine ev_bind (lCompare hN hB) ?_
        have h := @succ_law a1 a2 a3 p b1 b2 b3 q hB.2.2.2.2
        rw [show (decide (verCmp a1 a2 a3 p b1 b2 b3 q < 0) == decide (verCmp a1 a2 (nextV a3 p).1 (nextV a3 p).2 b1 b2 b3 q ≤ 0)) = true from by
          rw [beq_iff_eq, decide_eq_decide]
          exact h]
        exact Ev.now _
      · simp only [bne_iff_ne.2 eB]
        refine Ev.step (fun k => by simp only [changeforgelaw5_VersionNextIsTheSuccessor.j0]; rw [if_pos trivial]) ?_
        refine ev_bind (rSame _ _ _ _ _ _ _ _ (by have := hN.2.2.2.1; omega)) ?_
        cases decide (a1 = 0 ∧ a2 = 0 ∧ (nextV a3 p).1 = 0 ∧ (nextV a3 p).2 = []) with
        | true => exact Ev.now _
        | false => exact Ev.now _
    · simp only [pNext_end hA hn, Option.bind_some, if_neg (show ¬ (10 : Int) = 0 from by decide)]
      exact jz _ _
  · simp only [pNext_bad eA, Option.bind_some, if_neg eA]
    exact jz _ _
end Go.Proofs.YtggdbafmpmfmcaaDoor.Pure
