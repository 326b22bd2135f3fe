/- A chain starts with the root, follows the parents and narrows the prefixes: the plain law. Its condition: the parameters are of their kinds and sizes. -/
import Derived.Test.YtdelkdlegokbjaaFf4
import Derived.Test.YtdelkdlegokbjaaFf8
import Derived.Test.YtdelkdlegokbjaaFn0
import Derived.Test.YtdelkdlegokbjaaFp4
import Derived.Test.YtdelkdlegokbjaaPuRoles
set_option linter.unusedVariables false
namespace Go.Proofs.Ytdelkdlegokbjaa.Pure
open Go.RowKit Go.Proofs.Ytdelkdlegokbjaa.Fn Go.Proofs.YtdelkdlegokbjaaW.PrintWords Go.Proofs.YtdelkdlegokbjaaW.PrintLast Go.Proofs.YtdelkdlegokbjaaW.PrintMore
theorem ints_rd (c : List Nat) (i : Nat) (h : i < c.length) : rd (ints c) (i : Int) = (c[i] : Int) := by
  rw [rd_get _ _ (by unfold ints; rw [List.length_map]; exact h)]
  unfold ints
  rw [List.getElem_map]
theorem nested_loop (l : List Rl) (path : ByteArray) (hf : (rolesFault l).1 = 0) : ∀ (d i : Nat), i + d = (chain l path).length → Ev (fun k => changeforgelaw5_RolesChainsAreNested.l0 k l path (ints (chain l path)) i) true := by
  obtain ⟨_, h1, h2, h3⟩ := rolesFault_ok hf
  have hcl := chain_length l path (by omega)
  have hil : (ints (chain l path)).length = (chain l path).length := by unfold ints; rw [List.length_map]
  intro d
  induction d with
  | zero =>
    intro i hi
    exact Ev.step (f := fun _ => some true) (fun k => by simp only [changeforgelaw5_RolesChainsAreNested.l0]; rw [if_neg (by omega)]) (Ev.now _)
  | succ d ih =>
    intro i hi
    have hic : i < (chain l path).length := by omega
    have hci : (chain l path)[i] < l.length := mem_chain (by omega) (List.getElem_mem hic)
    have hst : starts path (rl l ((chain l path)[i] : Nat)).f1 = true := by
      cases i with
      | zero =>
        have e : (chain l path)[0] = 0 := rfl
        rw [e]
        obtain ⟨_, hn, _⟩ := h3 0 (by omega)
        refine starts_nil _ _ ?_
        by_cases he : (rl l ((0 : Nat) : Int)).f1.toList = []
        · exact he
        · exact absurd (show nBad l 0 from Or.inl ⟨rfl, he⟩) hn
      | succ j => exact (chain_step l path (l.length - 1) 1 0 (by omega) j hic).2.2
    refine Ev.step (fun k => by simp only [changeforgelaw5_RolesChainsAreNested.l0]; rw [if_pos (by omega), if_pos (by omega), ints_rd _ i hic, lIn, Option.bind_some, w64 (n := (l.length : Int) - 1) (by omega) (by omega)]) ?_
    refine ev_if_pos (by rw [decide_eq_true_eq]; omega) (ev_if_pos (by omega) (ev_if_pos (by omega) ?_))
    rw [rStarts, hst]
    refine Ev.step (fun k => by simp only [Option.bind_some, changeforgelaw5_RolesChainsAreNested.j3]; rw [if_neg (by decide)]) ?_
    rw [succ_w (by omega)]
    by_cases h0 : 0 < i
    · obtain ⟨j, rfl⟩ : ∃ j, i = j + 1 := ⟨i - 1, by omega⟩
      have hw : wrap64 (((j + 1 : Nat) : Int) - 1) = ((j : Nat) : Int) := by rw [pred_w (by omega) (by omega)]; rfl
      obtain ⟨g1, g2, g3⟩ := chain_step l path (l.length - 1) 1 0 (by omega) j hic
      have G1 : (chain l path)[j] < (chain l path)[j + 1] := g1
      have G2 : (rl l ((chain l path)[j + 1] : Nat)).f0 = ((chain l path)[j] : Nat) := g2
      have hcj : (chain l path)[j] < l.length := mem_chain (by omega) (List.getElem_mem (by omega))
      obtain ⟨_, hn, _⟩ := h3 _ hci
      have hs : starts (rl l ((chain l path)[j + 1] : Nat)).f1 (rl l ((chain l path)[j] : Nat)).f1 = true := by
        by_cases hs : starts (rl l ((chain l path)[j + 1] : Nat)).f1 (rl l ((chain l path)[j] : Nat)).f1 = true
        · exact hs
        · refine absurd (show nBad l _ from Or.inr (Or.inr ⟨by omega, ?_⟩)) hn
          rw [G2]
          simpa using hs
      rw [hw, ints_rd _ j (by omega), ints_rd _ (j + 1) hic]
      refine ev_if_pos (by omega) (ev_if_pos (by omega) (ev_if_pos (by omega) (ev_if_pos (by omega) (ev_if_pos (by omega) (ev_if_neg (by omega) (ev_if_pos (by omega) (ev_if_pos (by omega) (ev_if_pos G2 (ev_if_pos (by omega) (ev_if_pos (by omega) ?_))))))))))
      rw [rStarts, hs]
      simp only [Option.bind_some]
      exact ev_if_pos (by trivial) (ih (j + 1 + 1) (by omega))
    · exact ev_if_neg (by omega) (ih (i + 1) (by omega))
theorem RolesChainsAreNested : changeforgelaw5_RolesChainsAreNested.Pure := by
  intro l path hl hp
  refine ev_total ?_
  unfold changeforgelaw5_RolesChainsAreNested.f
  refine ev_bind (pChain_ev l path) ?_
  simp only [changeforgelaw5_delegates.f, Option.bind_some]
  refine ev_if_pos (by trivial) ?_
  unfold chainRes
  by_cases h : (pathFault l path).1 = 0
  · obtain ⟨e, hr, _, _⟩ := pathFault_ok h
    obtain ⟨_, h1, h2, _⟩ := rolesFault_ok hr
    have hil : (ints (chain l path)).length = (chain l path).length := by unfold ints; rw [List.length_map]
    have hp : 0 < (chain l path).length := by unfold chain; rw [List.length_cons]; omega
    have h00 : rd (ints (chain l path)) 0 = 0 := ints_rd (chain l path) 0 hp
    rw [if_pos h]
    refine Ev.step (fun k => by simp only [changeforgelaw5_RolesChainsAreNested.j0]; rw [if_neg (by decide), if_neg (by omega), if_pos (by omega), h00]) ?_
    refine Ev.step (fun k => by simp only [changeforgelaw5_RolesChainsAreNested.j1]; rw [if_neg (by decide)]) ?_
    exact nested_loop l path hr (chain l path).length 0 (by omega)
  · rw [if_neg h]
    have e : ((pathFault l path).1 != 0) = true := by simpa using h
    dsimp only
    rw [e]
    exact Ev.step (f := fun _ => some true) (fun k => by simp only [changeforgelaw5_RolesChainsAreNested.j0, changeforgelaw5_delegates.f, Option.bind_some]; rfl) (Ev.now _)
end Go.Proofs.Ytdelkdlegokbjaa.Pure
