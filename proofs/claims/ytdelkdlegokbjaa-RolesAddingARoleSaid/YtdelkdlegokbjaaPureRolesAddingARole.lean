/- One more role either continues a chain or does not change it, and it does not matter for paths outside its prefix: the plain law. Its condition: the parameters are of their kinds and sizes. -/
import Derived.Test.YtdelkdlegokbjaaFf6
import Derived.Test.YtdelkdlegokbjaaFf8
import Derived.Test.YtdelkdlegokbjaaFn0
import Derived.Test.YtdelkdlegokbjaaFp6
import Derived.Test.YtdelkdlegokbjaaPuRoles
set_option linter.unusedVariables false
namespace Go.Proofs.Ytdelkdlegokbjaa.Pure
open Go.RowKit Go.Proofs.Ytdelkdlegokbjaa.Fn Go.Proofs.YtdelkdlegokbjaaW.PrintWords Go.Proofs.YtdelkdlegokbjaaW.PrintLast Go.Proofs.YtdelkdlegokbjaaW.PrintMore
theorem rl_app {l : List Rl} {r : Rl} {j : Nat} (h : j < l.length) : rl (l ++ [r]) (j : Int) = rl l (j : Int) := by
  show rd_T40 (l ++ [r]) (j : Int) = rd_T40 l (j : Int)
  unfold rd_T40
  simp only [Int.toNat_natCast, List.getD_eq_getElem?_getD]
  rw [List.getElem?_append_left h]
theorem rl_appI {l : List Rl} {r : Rl} {i : Int} (h0 : 0 ≤ i) (h : i < l.length) : rl (l ++ [r]) i = rl l i := by
  obtain ⟨j, rfl⟩ := Int.eq_ofNat_of_zero_le h0
  exact rl_app (by omega)
theorem rl_last (l : List Rl) (r : Rl) : rl (l ++ [r]) (l.length : Int) = r := by
  show rd_T40 (l ++ [r]) (l.length : Int) = r
  unfold rd_T40
  simp [List.getD_eq_getElem?_getD]
theorem chainAt_app (l : List Rl) (r : Rl) (path : ByteArray) : ∀ (d k cur : Nat), k + d = l.length →
    chainAt (l ++ [r]) path (d + 1) k cur = chainAt l path d k cur ++ (if (rl (l ++ [r]) (l.length : Int)).f0 = ((cur :: chainAt l path d k cur).getLast (List.cons_ne_nil _ _) : Nat) ∧ starts path r.f1 = true then [l.length] else []) := by
  intro d
  induction d with
  | zero =>
    intro k cur hk
    have hk2 : k = l.length := by omega
    subst hk2
    show (if (rl (l ++ [r]) (l.length : Int)).f0 = cur ∧ starts path (rl (l ++ [r]) (l.length : Int)).f1 = true then l.length :: chainAt (l ++ [r]) path 0 (l.length + 1) l.length else chainAt (l ++ [r]) path 0 (l.length + 1) cur) = _
    rw [rl_last]
    rfl
  | succ d ih =>
    intro k cur hk
    have hkl : k < l.length := by omega
    show (if (rl (l ++ [r]) (k : Int)).f0 = cur ∧ starts path (rl (l ++ [r]) (k : Int)).f1 = true then k :: chainAt (l ++ [r]) path (d + 1) (k + 1) k else chainAt (l ++ [r]) path (d + 1) (k + 1) cur) = _
    rw [rl_app hkl]
    have e : chainAt l path (d + 1) k cur = if (rl l (k : Int)).f0 = cur ∧ starts path (rl l (k : Int)).f1 = true then k :: chainAt l path d (k + 1) k else chainAt l path d (k + 1) cur := rfl
    generalize chainAt l path (d + 1) k cur = X at e ⊢
    by_cases hc : (rl l (k : Int)).f0 = cur ∧ starts path (rl l (k : Int)).f1 = true
    · rw [if_pos hc] at e
      subst e
      rw [if_pos hc, ih (k + 1) k (by omega)]
      rfl
    · rw [if_neg hc] at e
      subst e
      rw [if_neg hc, ih (k + 1) cur (by omega)]
theorem chain_app (l : List Rl) (r : Rl) (path : ByteArray) (h0 : 0 < l.length) : chain (l ++ [r]) path = chain l path ++ (if r.f0 = (lastAt l path : Int) ∧ starts path r.f1 = true then [l.length] else []) := by
  unfold chain lastAt
  rw [List.length_append, List.length_singleton, show l.length + 1 - 1 = (l.length - 1) + 1 from by omega, chainAt_app l r path (l.length - 1) 1 0 (by omega), rl_last]
  rfl
theorem rolesFault_app {l : List Rl} {r : Rl} (h0 : 0 < l.length) (h : (rolesFault (l ++ [r])).1 = 0) : (rolesFault l).1 = 0 := by
  obtain ⟨_, h1, h2, h3⟩ := rolesFault_ok h
  rw [List.length_append, List.length_singleton] at h1 h2 h3
  have := rolesFault_of (l := l) (by omega) (by omega) (fun j hj => ?_)
  · rw [this]
  · obtain ⟨g1, g2, g3⟩ := h3 j (by omega)
    have e := rl_app (r := r) hj
    rw [e] at g3
    have hp : ¬ pBad l j := by
      unfold pBad at g1 ⊢
      rw [e] at g1
      exact g1
    refine ⟨hp, ?_, g3⟩
    unfold nBad at g2 ⊢
    rw [e] at g2
    by_cases hj0 : 0 < j
    · have hq : 0 ≤ (rl l (j : Int)).f0 ∧ (rl l (j : Int)).f0 < j := by
        unfold pBad at hp
        by_cases hq : 0 ≤ (rl l (j : Int)).f0 ∧ (rl l (j : Int)).f0 < j
        · exact hq
        · exact absurd (Or.inr ⟨hj0, hq⟩) hp
      rw [rl_appI hq.1 (by omega)] at g2
      exact g2
    · rintro (h | h | h)
      · exact g2 (Or.inl h)
      · exact g2 (Or.inr (Or.inl h))
      · exact hj0 h.1
theorem pathFault_app {l : List Rl} {r : Rl} {path : ByteArray} (h0 : 0 < l.length) (h : (pathFault (l ++ [r]) path).1 = 0) : (pathFault l path).1 = 0 := by
  obtain ⟨_, h1, h2, h3⟩ := pathFault_ok h
  unfold pathFault
  rw [if_pos (rolesFault_app h0 h1), if_neg (fun h => h.elim h2 (fun h => by omega))]
theorem RolesAddingARole : changeforgelaw5_RolesAddingARole.Pure := by
  intro l r path _ _ _
  refine ev_total ?_
  unfold changeforgelaw5_RolesAddingARole.f
  simp only [changeforgelaw5_delegates.f, Option.bind_some, List.nil_append, List.length_nil]
  refine ev_if_pos (by trivial) ?_
  by_cases hl : (l.length : Int) > 11
  · exact ev_if_pos hl (Ev.now _)
  · refine ev_if_neg hl (ev_if_pos (by omega) (ev_if_pos (by omega) ?_))
    have hr : (⟨r.f0, r.f1, r.f2, r.f3⟩ : Rl) = r := by cases r; rfl
    rw [hr]
    refine ev_bind (pChain_ev l path) (ev_bind (pChain_ev (l ++ [r]) path) ?_)
    unfold chainRes
    by_cases hm : (pathFault (l ++ [r]) path).1 = 0
    · rw [if_pos hm]
      refine ev_if_pos rfl ?_
      by_cases h0 : l.length = 0
      · rw [show ((l.length : Int) == 0) = true from by simp [h0]]
        exact Ev.step (f := fun _ => some true) (fun k => by simp only [changeforgelaw5_RolesAddingARole.j0]; rw [if_pos trivial, if_pos trivial]) (Ev.now _)
      · rw [show ((l.length : Int) == 0) = false from by simp [h0]]
        have hp := pathFault_app (r := r) (path := path) (by omega) hm
        rw [if_pos hp]
        refine Ev.step (fun k => by simp only [changeforgelaw5_RolesAddingARole.j0]; rw [if_neg (by decide), if_pos trivial]) ?_
        have hcl := chain_length l path (by omega)
        have hil : (ints (chain l path)).length = (chain l path).length := by unfold ints; rw [List.length_map]
        refine ev_bind (rInts_ev _ _ (by omega)) ?_
        have ca := chain_app l r path (by omega)
        by_cases hc : r.f0 = (lastAt l path : Int) ∧ starts path r.f1 = true
        · rw [if_pos hc] at ca
          have ei : ints (chain (l ++ [r]) path) = ints (chain l path) ++ [(l.length : Int)] := by
            rw [ca]
            unfold ints
            rw [List.map_append]
            rfl
          rw [ei]
          have hne : ¬ ints (chain l path) = ints (chain l path) ++ [(l.length : Int)] := by
            intro e
            have := congrArg List.length e
            rw [List.length_append, List.length_singleton] at this
            omega
          rw [decide_eq_false hne]
          refine Ev.step (fun k => by simp only [changeforgelaw5_RolesAddingARole.j1, List.nil_append, List.length_nil, Option.bind_some]; rw [if_neg (by decide), if_pos (by omega), if_pos (by omega)]) ?_
          refine ev_bind (rInts_ev _ _ (by rw [List.length_append, List.length_singleton]; omega)) ?_
          refine ev_if_pos (by simp) ?_
          simp only [rStarts, Option.bind_some]
          rw [hc.2]
          exact Ev.now _
        · rw [if_neg hc, List.append_nil] at ca
          rw [ca, decide_eq_true rfl]
          exact Ev.step (f := fun _ => some true) (fun k => by simp only [changeforgelaw5_RolesAddingARole.j1]; rw [if_pos trivial]; rfl) (Ev.now _)
    · rw [if_neg hm]
      refine ev_if_neg hm ?_
      refine Ev.step (f := fun _ => some true) (fun k => ?_) (Ev.now _)
      simp only [changeforgelaw5_RolesAddingARole.j0]
      rw [if_pos trivial, if_neg hm]
      rfl
end Go.Proofs.Ytdelkdlegokbjaa.Pure
