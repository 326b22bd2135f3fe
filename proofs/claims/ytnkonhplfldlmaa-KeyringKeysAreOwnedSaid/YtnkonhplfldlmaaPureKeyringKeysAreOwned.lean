/- The keys of a user at a time are exactly the valid keys that the user owns: the plain law. Its condition: the parameters are of their kinds and sizes. -/
import Derived.Test.YtnkonhplfldlmaaFf7
import Derived.Test.YtnkonhplfldlmaaFn0
import Derived.Test.YtnkonhplfldlmaaFp7
import Derived.Test.YtnkonhplfldlmaaFs0
import Derived.Test.YtnkonhplfldlmaaPuRingK
set_option linter.unusedVariables false
namespace Go.Proofs.Ytnkonhplfldlmaa.Pure
open Go Go.RowKit Go.Proofs.Ytnkonhplfldlmaa.Fn Go.Proofs.YtnkonhplfldlmaaW.PrintWords Go.Proofs.YtnkonhplfldlmaaW.PrintLast Go.Proofs.YtnkonhplfldlmaaW.PrintMore
theorem rHas_loop (l : List Int) (x : Int) (hl : l.length ≤ 140737488351232) : ∀ (d i : Nat), i + d = l.length → Ev (fun k => changeforgeref5_Has.l0 k l x i) (decide (x ∈ l.drop i)) := by
  intro d
  induction d with
  | zero =>
    intro i hi
    rw [List.drop_of_length_le (by omega)]
    exact Ev.step (f := fun _ => some false) (fun k => by simp only [changeforgeref5_Has.l0]; rw [if_neg (by omega)]) (Ev.now _)
  | succ d ih =>
    intro i hi
    have h1 : i < l.length := by omega
    refine Ev.step (fun k => by simp only [changeforgeref5_Has.l0]; rw [if_pos (by omega), if_pos (by omega), rd_get l i h1]) ?_
    rw [drop_cons h1]
    by_cases hx : l[i] = x
    · refine ev_if_pos hx ?_
      rw [decide_eq_true (by rw [hx]; exact List.mem_cons_self)]
      exact Ev.now _
    · refine ev_if_neg hx ?_
      rw [show wrap64 ((i : Int) + 1) = ((i + 1 : Nat) : Int) from by rw [w64 (by omega) (by omega)]; rfl]
      have e : (x ∈ l[i] :: l.drop (i + 1)) ↔ x ∈ l.drop (i + 1) := by
        rw [List.mem_cons]
        exact ⟨fun h => h.resolve_left (fun e => hx e.symm), Or.inr⟩
      rw [decide_eq_decide.2 e]
      exact ih (i + 1) (by omega)
theorem rHas_ev (l : List Int) (x : Int) (hl : l.length ≤ 140737488351232) : Ev (fun k => changeforgeref5_Has.f k l x) (decide (x ∈ l)) := by
  unfold changeforgeref5_Has.f
  exact rHas_loop l x hl l.length 0 (by omega)
theorem KeyringKeysAreOwned : changeforgelaw5_KeyringKeysAreOwned.Pure := by
  intro l0 user time key h0 _ _ _
  refine ev_total ?_
  unfold changeforgelaw5_KeyringKeysAreOwned.f
  refine ev_bind keys_ev (ev_if_pos rfl ?_)
  simp only [pKeys h0.2, Option.bind_some, rIsKey]
  by_cases hz : (keysF l0 user time).2.1 = 0
  · refine ev_if_pos hz ?_
    by_cases hk : isKey key = true
    · rw [hk]
      obtain ⟨v1, v2, v3, v4⟩ := keysF_ok hz
      have hk' := of_decide_eq_true hk
      have hv := validF_of (a := key) v1 hk' v3
      refine Ev.step (fun k => by simp only [changeforgelaw5_KeyringKeysAreOwned.j0, pValid h0.2, pOwner h0.2, Option.bind_some]; rw [if_neg (by decide), hv]) ?_
      refine ev_if_pos rfl (ev_bind (rHas_ev _ key ?_) ?_)
      · have := keysF_len l0 user time
        omega
      rw [v4]
      have hm := mem_userKeys v1 user time key
      by_cases ha : keyValid l0 key time = true
      · refine ev_if_pos ha ?_
        have hk1 : 0 ≤ kt l0 key 1 := (of_decide_eq_true ha).1
        rw [ownerF_of v1 hk', if_neg (show ¬ kt l0 key 1 < 0 by omega)]
        refine ev_if_pos rfl (ev_now fun k => ?_)
        congr 1
        rw [beq_iff_eq]
        by_cases hu : ow l0 key = user
        · rw [decide_eq_true (hm.2 ⟨hk1, hu, ha⟩)]
          simp [hu]
        · rw [decide_eq_false (fun h => hu (hm.1 h).2.1)]
          simp [hu]
      · refine ev_if_neg ha (ev_now fun k => ?_)
        rw [decide_eq_false (fun h => ha (hm.1 h).2.2)]
        rfl
    · rw [Bool.eq_false_iff.2 hk]
      refine Ev.step (f := fun _ => some true) (fun k => by simp only [changeforgelaw5_KeyringKeysAreOwned.j0]; rw [if_pos (by rfl), if_pos hz]) ?_
      exact Ev.now _
  · refine ev_if_neg hz ?_
    refine Ev.step (f := fun _ => some true) (fun k => by simp only [changeforgelaw5_KeyringKeysAreOwned.j0]; rw [if_pos trivial, if_neg hz, keysF_bad hz]; rfl) ?_
    exact Ev.now _
end Go.Proofs.Ytnkonhplfldlmaa.Pure
