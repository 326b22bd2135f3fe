/- Plain lemmas: keyrings: what the reference says, by scanning the events. No condition but what each states. -/
import Derived.Test.YtnkonhplfldlmaaFf18
import Derived.Test.YtnkonhplfldlmaaFf19
import Derived.Test.YtnkonhplfldlmaaFf24
import Derived.Test.YtnkonhplfldlmaaFn0
import Derived.Test.YtnkonhplfldlmaaPuBase
import Derived.Test.YtnkonhplfldlmaaRingC
set_option linter.unusedVariables false
namespace Go.Proofs.Ytnkonhplfldlmaa.Pure
open Go.RowKit Go.Proofs.Ytnkonhplfldlmaa.Fn Go.Proofs.YtnkonhplfldlmaaW.PrintWords Go.Proofs.YtnkonhplfldlmaaW.PrintLast Go.Proofs.YtnkonhplfldlmaaW.PrintMore
abbrev Ke := S45
theorem ke_get (l : List Ke) (i : Nat) (h : i < l.length) : rd_T45 l (i : Int) = l[i] := by
  unfold rd_T45
  rw [List.getD_eq_getElem?_getD, Int.toNat_natCast, List.getElem?_eq_getElem h]
  rfl
theorem ke_drop {l : List Ke} {i : Nat} (h : i < l.length) : l.drop i = l[i] :: l.drop (i + 1) := List.drop_eq_getElem_cons h
theorem rKt_loop (l : List Ke) (key kind : Int) (hl : l.length ≤ 1000) : ∀ (d i : Nat), i + d = l.length → Ev (fun k => changeforgeref5_KeyTime.l0 k l key kind i) (kt (l.drop i) key kind) := by
  intro d
  induction d with
  | zero =>
    intro i hi
    refine Ev.step (f := fun _ => some (-1)) (fun k => by simp only [changeforgeref5_KeyTime.l0]; rw [if_neg (by omega)]) ?_
    rw [List.drop_of_length_le (by omega)]
    exact Ev.now _
  | succ d ih =>
    intro i hi
    have hil : i < l.length := by omega
    have hnext := ih (i + 1) (by omega)
    rw [ke_drop hil]
    simp only [kt]
    generalize hc : l[i] = c at *
    by_cases h1 : c.f0 = kind
    · by_cases h2 : c.f1 = key
      · rw [if_pos ⟨h1, h2⟩]
        refine Ev.step (f := fun _ => some c.f3) (fun k => by simp only [changeforgeref5_KeyTime.l0]; rw [if_pos (by omega), if_pos (by omega), ke_get l i hil, hc, if_pos h1, if_pos h2]) ?_
        exact Ev.now _
      · rw [if_neg (fun h => h2 h.2)]
        refine Ev.step (fun k => by simp only [changeforgeref5_KeyTime.l0]; rw [if_pos (by omega), if_pos (by omega), ke_get l i hil, hc, if_pos h1, if_neg h2, w64 (n := (i : Int) + 1) (by omega) (by omega)]) ?_
        exact hnext
    · rw [if_neg (fun h => h1 h.1)]
      refine Ev.step (fun k => by simp only [changeforgeref5_KeyTime.l0]; rw [if_pos (by omega), if_pos (by omega), ke_get l i hil, hc, if_neg h1, w64 (n := (i : Int) + 1) (by omega) (by omega)]) ?_
      exact hnext
theorem rKt_ev (l : List Ke) (key kind : Int) (hl : l.length ≤ 1000) : Ev (fun k => changeforgeref5_KeyTime.f k l key kind) (kt l key kind) := by
  unfold changeforgeref5_KeyTime.f
  exact rKt_loop l key kind hl l.length 0 (by omega)
theorem rOw_loop (l : List Ke) (key : Int) (hl : l.length ≤ 1000) : ∀ (d i : Nat), i + d = l.length → Ev (fun k => changeforgeref5_KeyOwner.l0 k l key i) (ow (l.drop i) key) := by
  intro d
  induction d with
  | zero =>
    intro i hi
    refine Ev.step (f := fun _ => some (-1)) (fun k => by simp only [changeforgeref5_KeyOwner.l0]; rw [if_neg (by omega)]) ?_
    rw [List.drop_of_length_le (by omega)]
    exact Ev.now _
  | succ d ih =>
    intro i hi
    have hil : i < l.length := by omega
    have hnext := ih (i + 1) (by omega)
    rw [ke_drop hil]
    simp only [ow]
    generalize hc : l[i] = c at *
    by_cases h1 : c.f0 = 1
    · by_cases h2 : c.f1 = key
      · rw [if_pos ⟨h1, h2⟩]
        refine Ev.step (f := fun _ => some c.f2) (fun k => by simp only [changeforgeref5_KeyOwner.l0]; rw [if_pos (by omega), if_pos (by omega), ke_get l i hil, hc, if_pos h1, if_pos h2]) ?_
        exact Ev.now _
      · rw [if_neg (fun h => h2 h.2)]
        refine Ev.step (fun k => by simp only [changeforgeref5_KeyOwner.l0]; rw [if_pos (by omega), if_pos (by omega), ke_get l i hil, hc, if_pos h1, if_neg h2, w64 (n := (i : Int) + 1) (by omega) (by omega)]) ?_
        exact hnext
    · rw [if_neg (fun h => h1 h.1)]
      refine Ev.step (fun k => by simp only [changeforgeref5_KeyOwner.l0]; rw [if_pos (by omega), if_pos (by omega), ke_get l i hil, hc, if_neg h1, w64 (n := (i : Int) + 1) (by omega) (by omega)]) ?_
      exact hnext
theorem rOw_ev (l : List Ke) (key : Int) (hl : l.length ≤ 1000) : Ev (fun k => changeforgeref5_KeyOwner.f k l key) (ow l key) := by
  unfold changeforgeref5_KeyOwner.f
  exact rOw_loop l key hl l.length 0 (by omega)
theorem rValid_ev (l : List Ke) (key time : Int) (hl : l.length ≤ 1000) : Ev (fun k => changeforgeref5_KeyValid.f k l key time) (keyValid l key time) := by
  unfold changeforgeref5_KeyValid.f
  refine ev_bind (rKt_ev l key 1 hl) (ev_bind (rKt_ev l key 2 hl) ?_)
  unfold keyValid
  by_cases h1 : kt l key 1 ≥ 0
  · refine ev_if_pos h1 ?_
    by_cases h2 : kt l key 1 ≤ time
    · refine ev_if_pos h2 ?_
      by_cases h3 : kt l key 2 < 0
      · refine ev_if_pos h3 ?_
        rw [decide_eq_true ⟨h1, h2, Or.inl h3⟩]
        exact Ev.now _
      · refine ev_if_neg h3 ?_
        rw [show decide (kt l key 1 ≥ 0 ∧ kt l key 1 ≤ time ∧ (kt l key 2 < 0 ∨ time < kt l key 2)) = decide (time < kt l key 2) from by rw [decide_eq_decide]; omega]
        exact Ev.now _
    · refine ev_if_neg h2 ?_
      rw [decide_eq_false (by omega)]
      exact Ev.now _
  · refine ev_if_neg h1 ?_
    rw [decide_eq_false (by omega)]
    exact Ev.now _
end Go.Proofs.Ytnkonhplfldlmaa.Pure
