/- The plain law: the order of versions is total, and equal versions alone compare as equal. No condition but the printed statement's own. -/
import Derived.Test.YtggdbafmpmfmcaaDoorFf6
import Derived.Test.YtggdbafmpmfmcaaDoorFn0
import Derived.Test.YtggdbafmpmfmcaaDoorFp6
import Derived.Test.YtggdbafmpmfmcaaDoorPuVC
set_option linter.unusedVariables false
set_option linter.unusedSimpArgs false
namespace Go.Proofs.YtggdbafmpmfmcaaDoor.Pure
open Go Go.RowKit Go.Proofs.YtggdbafmpmfmcaaDoor.Fn Go.Proofs.YtggdbafmpmfmcaaDoorW.PrintWords Go.Proofs.YtggdbafmpmfmcaaDoorW.PrintLast Go.Proofs.YtggdbafmpmfmcaaDoorW.PrintMore
theorem VersionOrderIsTotal : changeforgelaw5_VersionOrderIsTotal.Pure := by
  intro x0 x1 x2 hw0 hw1 hw2
  obtain ⟨a1, a2, a3, p⟩ := x0
  obtain ⟨b1, b2, b3, q⟩ := x1
  obtain ⟨d1, d2, d3, s⟩ := x2
  have jt : Ev (fun k => changeforgelaw5_VersionOrderIsTotal.j0 k true a1 a2 a3 p b1 b2 b3 q d1 d2 d3 s) true := Ev.step (f := fun _ => some true) (fun k => by simp only [changeforgelaw5_VersionOrderIsTotal.j0]; rfl) (Ev.now _)
  refine Ev.rounds (g := fun k => changeforgelaw5_VersionOrderIsTotal.f k a1 a2 a3 p b1 b2 b3 q d1 d2 d3 s) ?_
  unfold changeforgelaw5_VersionOrderIsTotal.f
  refine ev_bind orders ?_
  simp only [if_true]
  refine ev_bind (rFault a1 a2 a3 p) ?_
  rcases fault_cases a1 a2 a3 p with ⟨hA, eA⟩ | eA
  · simp only [eA, if_true]
    refine ev_bind (rFault b1 b2 b3 q) ?_
    rcases fault_cases b1 b2 b3 q with ⟨hB, eB⟩ | eB
    · simp only [eB, if_true]
      refine ev_bind (rFault d1 d2 d3 s) ?_
      rcases fault_cases d1 d2 d3 s with ⟨hD, eD⟩ | eD
      · simp only [eD, show ((0 : Int) != 0) = false from rfl]
        have cAB := lCompare hA hB
        have cBA := lCompare hB hA
        have cBD := lCompare hB hD
        have cAD := lCompare hA hD
        have T := vc_tot
        have rAB := T.rng (a1, a2, a3, p) (b1, b2, b3, q)
        have nAB := T.anti (a1, a2, a3, p) (b1, b2, b3, q)
        have qAB := T.eq (a1, a2, a3, p) (b1, b2, b3, q)
        have tr := @Tot.le _ _ T (a1, a2, a3, p) (b1, b2, b3, q) (d1, d2, d3, s)
        have zz : vc (a1, a2, a3, p) (b1, b2, b3, q) = 0 → vc (b1, b2, b3, q) (d1, d2, d3, s) = vc (a1, a2, a3, p) (d1, d2, d3, s) := fun e => by rw [(qAB.1 e)]
        change verCmp a1 a2 a3 p b1 b2 b3 q = -1 ∨ verCmp a1 a2 a3 p b1 b2 b3 q = 0 ∨ verCmp a1 a2 a3 p b1 b2 b3 q = 1 at rAB
        change verCmp b1 b2 b3 q a1 a2 a3 p = - verCmp a1 a2 a3 p b1 b2 b3 q at nAB
        change verCmp a1 a2 a3 p b1 b2 b3 q = 0 ↔ _ at qAB
        change verCmp a1 a2 a3 p b1 b2 b3 q ≤ 0 → verCmp b1 b2 b3 q d1 d2 d3 s ≤ 0 → verCmp a1 a2 a3 p d1 d2 d3 s ≤ 0 at tr
        change verCmp a1 a2 a3 p b1 b2 b3 q = 0 → verCmp b1 b2 b3 q d1 d2 d3 s = verCmp a1 a2 a3 p d1 d2 d3 s at zz
        rw [nAB] at cBA
        have sAB := rSame a1 a2 a3 p b1 b2 b3 q (by have := hA.2.2.2.1; omega)
        have eS : decide (a1 = b1 ∧ a2 = b2 ∧ a3 = b3 ∧ p = q) = decide (verCmp a1 a2 a3 p b1 b2 b3 q = 0) := by
          rw [decide_eq_decide, qAB]
          simp only [Prod.mk.injEq]
        rw [eS] at sAB
        have rAD := T.rng (a1, a2, a3, p) (d1, d2, d3, s)
        change verCmp a1 a2 a3 p d1 d2 d3 s = -1 ∨ verCmp a1 a2 a3 p d1 d2 d3 s = 0 ∨ verCmp a1 a2 a3 p d1 d2 d3 s = 1 at rAD
        -- a < b ≤ d or a = b ≤ d : the strict case
        have st := @Tot.lt_le _ _ T (a1, a2, a3, p) (b1, b2, b3, q) (d1, d2, d3, s)
        change verCmp a1 a2 a3 p b1 b2 b3 q = -1 → verCmp b1 b2 b3 q d1 d2 d3 s ≤ 0 → verCmp a1 a2 a3 p d1 d2 d3 s = -1 at st
        generalize verCmp a1 a2 a3 p b1 b2 b3 q = X at *
        generalize verCmp b1 b2 b3 q d1 d2 d3 s = Y at *
        generalize verCmp a1 a2 a3 p d1 d2 d3 s = Z at *
        refine Ev.step (fun k => by
          simp only [changeforgelaw5_VersionOrderIsTotal.j0]
          rw [if_neg (by decide)]) ?_
        refine ev_bind cAB ?_
        simp only [lin_eq, Option.bind_some, decide_eq_true (show -1 ≤ X ∧ X ≤ 1 from by omega), if_true]
        refine ev_bind cBA ?_
        simp only [if_pos (show -X = wrap64 (-X) from (w64 (by omega) (by omega)).symm)]
        refine ev_bind sAB ?_
        rw [show ((X == 0) != decide (X = 0)) = false from by by_cases h : X = 0 <;> simp [h]]
        refine Ev.step (fun k => by
          simp only [changeforgelaw5_VersionOrderIsTotal.j1]
          rw [if_neg (by decide)]) ?_
        by_cases hX : X > 0
        · simp only [if_pos hX]
          exact Ev.now _
        · simp only [if_neg hX]
          refine ev_bind cBD ?_
          by_cases hY : Y > 0
          · simp only [if_pos hY]
            exact Ev.now _
          · simp only [if_neg hY]
            refine ev_bind cAD ?_
            simp only [if_pos (tr (by omega) (by omega))]
            refine ev_bind cAD ?_
            by_cases hZ : Z < 0
            · simp only [if_pos hZ]
              exact Ev.now _
            · simp only [if_neg hZ]
              have hX0 : X = 0 := by
                rcases rAB with e | e | e
                · have := st e (by omega)
                  omega
                · exact e
                · omega
              simp only [if_pos hX0]
              refine ev_bind cBD ?_
              have := zz hX0
              have := tr (by omega) (by omega)
              rw [beq_iff_eq.2 (show Y = 0 from by omega)]
              exact Ev.now _
      · simp only [bne_iff_ne.2 eD]
        exact jt
    · simp only [if_neg eB]
      exact jt
  · simp only [if_neg eA]
    exact jt
end Go.Proofs.YtggdbafmpmfmcaaDoor.Pure
