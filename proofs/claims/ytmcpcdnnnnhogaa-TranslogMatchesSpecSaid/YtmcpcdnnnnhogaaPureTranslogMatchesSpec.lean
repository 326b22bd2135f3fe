/- Roots and proofs, with all errors, are as specified: the plain law. Its condition: the parameters are of their kinds and sizes. -/
import Derived.Test.YtmcpcdnnnnhogaaFf3
import Derived.Test.YtmcpcdnnnnhogaaFn0
import Derived.Test.YtmcpcdnnnnhogaaPuLaws
set_option linter.unusedVariables false
namespace Go.Proofs.Ytmcpcdnnnnhogaa.Pure
open Go.RowKit Go.Proofs.Ytmcpcdnnnnhogaa.Fn Go.Proofs.YtmcpcdnnnnhogaaW.PrintWords Go.Proofs.YtmcpcdnnnnhogaaW.PrintLast Go.Proofs.YtmcpcdnnnnhogaaW.PrintMore
theorem tm_j5 (l : List Int) (m : Int) : Ev (fun k => changeforgelaw5_TranslogMatchesSpec.j5 k l m (contFault l m).1 (contFault l m).2) true := by
  refine Ev.step (fun k => by simp only [changeforgelaw5_TranslogMatchesSpec.j5]; rfl) ?_
  refine ev_bind (pContX_ev l m) (ev_if_pos (by simp) ?_)
  by_cases h : (contFault l m).1 = 0
  · refine ev_if_pos h ?_
    rw [if_pos h]
    unfold contFault at h
    by_cases hw : (msgFault l).1 = 0
    · obtain ⟨h1, h2, h3⟩ := msgFault_ok hw
      rw [if_pos hw] at h
      by_cases hm : 1 ≤ m ∧ m ≤ l.length
      · obtain ⟨m', rfl⟩ := Int.eq_ofNat_of_zero_le (show 0 ≤ m by omega)
        refine ev_bind (rCont_ev (by omega) (by omega) (by omega) h2) ?_
        have h4 := (subp_facts l.length l m' true rfl (by omega) (by omega) h2).1
        simp only [Int.toNat_natCast]
        refine ev_bind (rInts_ev _ _ (by omega)) ?_
        rw [decide_eq_true rfl]
        exact Ev.now _
      · rw [if_neg hm] at h
        exact absurd h (by decide)
    · rw [if_neg hw] at h
      exact absurd h hw
  · refine ev_if_neg h ?_
    rw [if_neg h]
    exact ev_if_pos (by rfl) (Ev.now _)
theorem tm_j3 (l : List Int) (m : Int) (hl : l.length ≤ 9223372036854775807) : Ev (fun k => changeforgelaw5_TranslogMatchesSpec.j3 k l m false (msgFault l).1 (msgFault l).2) true := by
  refine Ev.step (fun k => by simp only [changeforgelaw5_TranslogMatchesSpec.j3, lIn_eq, Option.bind_some]; rw [if_neg (by decide)]) ?_
  have h5 := tm_j5 l m
  unfold contFault at h5
  by_cases hw : (msgFault l).1 = 0
  · refine ev_if_pos hw ?_
    rw [if_pos hw] at h5
    by_cases hm : 1 ≤ m ∧ m ≤ l.length
    · rw [decide_eq_true hm]
      rw [if_pos hm] at h5
      obtain ⟨h1, h2, h3⟩ := msgFault_ok hw
      rw [h3]
      refine Ev.step (fun k => by simp only [changeforgelaw5_TranslogMatchesSpec.j4]; rw [if_neg (by decide)]) ?_
      exact h5
    · rw [decide_eq_false hm]
      rw [if_neg hm] at h5
      refine Ev.step (fun k => by simp only [changeforgelaw5_TranslogMatchesSpec.j4]; rw [if_pos (by decide), lFault_eq, Option.bind_some]) ?_
      exact h5
  · refine ev_if_neg hw ?_
    rw [if_neg hw] at h5
    refine Ev.step (fun k => by simp only [changeforgelaw5_TranslogMatchesSpec.j4]; rw [if_neg (by decide)]) ?_
    exact h5
theorem tm_j2 (l : List Int) (i m : Int) (hl : l.length ≤ 9223372036854775807) : Ev (fun k => changeforgelaw5_TranslogMatchesSpec.j2 k l i m (msgFault l).1 (msgFault l).2 (proveFault l i).1 (proveFault l i).2) true := by
  refine Ev.step (fun k => by simp only [changeforgelaw5_TranslogMatchesSpec.j2]; rfl) ?_
  refine ev_bind (pProveX_ev l i) (ev_if_neg (by simp) ?_)
  by_cases h : (proveFault l i).1 = 0
  · refine ev_if_pos h ?_
    rw [if_pos h]
    unfold proveFault at h
    by_cases hw : (msgFault l).1 = 0
    · obtain ⟨h1, h2, h3⟩ := msgFault_ok hw
      rw [if_pos hw] at h
      by_cases hi : 0 ≤ i ∧ i < l.length
      · obtain ⟨i', rfl⟩ := Int.eq_ofNat_of_zero_le hi.1
        refine ev_bind (rProof_ev (by omega) (by omega) h2) ?_
        have h4 := (prv_facts l.length l i' rfl h2).1
        simp only [Int.toNat_natCast]
        refine ev_bind (rInts_ev _ _ (by omega)) ?_
        rw [decide_eq_true rfl]
        exact tm_j3 l m hl
      · rw [if_neg hi] at h
        exact absurd h (by decide)
    · rw [if_neg hw] at h
      exact absurd h hw
  · refine ev_if_neg h ?_
    rw [if_neg h]
    exact ev_if_neg (by simp) (tm_j3 l m hl)
theorem tm_j0 (l : List Int) (i m : Int) (hl : l.length ≤ 9223372036854775807) : Ev (fun k => changeforgelaw5_TranslogMatchesSpec.j0 k l i m false (msgFault l).1 (msgFault l).2) true := by
  refine Ev.step (fun k => by simp only [changeforgelaw5_TranslogMatchesSpec.j0, lIn_eq, Option.bind_some]; rw [if_neg (by decide), w64 (n := (l.length : Int) - 1) (by omega) (by omega)]) ?_
  have h5 := tm_j2 l i m hl
  unfold proveFault at h5
  by_cases hw : (msgFault l).1 = 0
  · refine ev_if_pos hw ?_
    rw [if_pos hw] at h5
    by_cases hi : 0 ≤ i ∧ i < l.length
    · rw [decide_eq_true (show 0 ≤ i ∧ i ≤ (l.length : Int) - 1 by omega)]
      rw [if_pos hi] at h5
      obtain ⟨h1, h2, h3⟩ := msgFault_ok hw
      rw [h3] at h5 ⊢
      refine Ev.step (fun k => by simp only [changeforgelaw5_TranslogMatchesSpec.j1]; rw [if_neg (by decide)]) ?_
      exact h5
    · rw [decide_eq_false (show ¬ (0 ≤ i ∧ i ≤ (l.length : Int) - 1) by omega)]
      rw [if_neg hi] at h5
      refine Ev.step (fun k => by simp only [changeforgelaw5_TranslogMatchesSpec.j1]; rw [if_pos (by decide), lFault_eq, Option.bind_some]) ?_
      exact h5
  · refine ev_if_neg hw ?_
    rw [if_neg hw] at h5
    refine Ev.step (fun k => by simp only [changeforgelaw5_TranslogMatchesSpec.j1]; rw [if_neg (by decide)]) ?_
    exact h5
theorem TranslogMatchesSpec : changeforgelaw5_TranslogMatchesSpec.Pure := by
  intro l i m hl hl2 hw hi hm
  refine ev_total ?_
  unfold changeforgelaw5_TranslogMatchesSpec.f
  refine ev_bind (rLeaves_ev l) (ev_bind (pRootX_ev l) (ev_bind logs_ev (ev_if_pos rfl (ev_if_neg (by simp) ?_))))
  by_cases h : (msgFault l).1 = 0
  · obtain ⟨h1, h2, h3⟩ := msgFault_ok h
    refine ev_if_pos h (ev_bind (rRoot_ev (by omega) h2) ?_)
    rw [if_pos h, bne_self_eq_false]
    exact tm_j0 l i m (by omega)
  · refine ev_if_neg h (ev_if_pos ?_ (tm_j0 l i m (by omega)))
    simp only [if_neg h]
end Go.Proofs.Ytmcpcdnnnnhogaa.Pure
