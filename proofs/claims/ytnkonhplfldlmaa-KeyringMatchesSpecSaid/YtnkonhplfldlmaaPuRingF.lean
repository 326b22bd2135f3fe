/- Plain lemmas: the fault of a keyring, as the reference finds it. No condition but what each states. -/
import Derived.Test.YtnkonhplfldlmaaFf11
import Derived.Test.YtnkonhplfldlmaaFn0
import Derived.Test.YtnkonhplfldlmaaPuRing
set_option linter.unusedVariables false
namespace Go.Proofs.Ytnkonhplfldlmaa.Pure
open Go.RowKit Go.Proofs.Ytnkonhplfldlmaa.Fn Go.Proofs.YtnkonhplfldlmaaW.PrintWords Go.Proofs.YtnkonhplfldlmaaW.PrintLast Go.Proofs.YtnkonhplfldlmaaW.PrintMore
theorem rRing_in (l : List Ke) (hl : l.length ≤ 40) (i : Nat) (hi : i < l.length) (c : Ke) (hc : l[i] = c) {res : Int × Int} (hz : ef (l.take i) c = 0 → Ev (fun k => changeforgeref5_KeyringFault.l0 k l ((i + 1 : Nat) : Int)) res) (hn : ef (l.take i) c ≠ 0 → res = (ef (l.take i) c, (i : Int))) :
    Ev (fun k => changeforgeref5_KeyringFault.l0 k l (i : Int)) res := by
  have hP : (l.take i).length = i := by rw [List.length_take]; omega
  have done : ∀ n : Int, n ≠ 0 → ef (l.take i) c = n → res = (n, (i : Int)) := fun n h0 e => by rw [hn (by rw [e]; exact h0), e]
  have J4 : (c.f0 = 1 ∨ c.f0 = 2) → (1 ≤ c.f1 ∧ c.f1 ≤ 1000000000) → (0 ≤ c.f2 ∧ c.f2 ≤ 7) → (0 ≤ c.f3 ∧ c.f3 ≤ 100000) → ¬ D5 (l.take i) c → ¬ (c.f0 = 1 ∧ 0 ≤ kt (l.take i) c.f1 1) →
      ∀ b : Bool, (b = true ↔ (c.f0 = 2 ∧ kt (l.take i) c.f1 1 < 0)) → Ev (fun k => changeforgeref5_KeyringFault.j4 k l (i : Int) (kt (l.take i) c.f1 2) b c.f0 c.f1 c.f2 c.f3) res := by
    intro d1 hk hu ht h5 h7 b hb
    by_cases h6 : c.f0 = 2 ∧ kt (l.take i) c.f1 1 < 0
    · rw [done 6 (by decide) (ef_6 h6.1 hk hu ht h5 h6.2)]
      refine Ev.step (f := fun _ => some (6, (i : Int))) (fun k => by simp only [changeforgeref5_KeyringFault.j4, fault_eq, Option.bind_some]; rw [if_pos (hb.2 h6)]) ?_
      exact Ev.now _
    · have hb' : ¬ b = true := fun h => h6 (hb.1 h)
      by_cases h2 : c.f0 = 2
      · by_cases h11 : kt (l.take i) c.f1 2 ≥ 0
        · rw [done 11 (by decide) (ef_11 h2 hk hu ht h5 (by omega) h11)]
          refine Ev.step (f := fun _ => some (11, (i : Int))) (fun k => by simp only [changeforgeref5_KeyringFault.j4, fault_eq, Option.bind_some]; rw [if_neg hb', if_pos h2, if_pos h11]) ?_
          exact Ev.now _
        · refine Ev.step (fun k => by simp only [changeforgeref5_KeyringFault.j4, fault_eq, Option.bind_some]; rw [if_neg hb', if_pos h2, if_neg h11, w64 (n := (i : Int) + 1) (by omega) (by omega)]) ?_
          exact hz (ef_revoke h2 hk hu ht h5 (by omega) (by omega))
      · refine Ev.step (fun k => by simp only [changeforgeref5_KeyringFault.j4, fault_eq, Option.bind_some]; rw [if_neg hb', if_neg h2, w64 (n := (i : Int) + 1) (by omega) (by omega)]) ?_
        exact hz (ef_add (by omega) hk hu ht h5 (by omega))
  have J3 : (c.f0 = 1 ∨ c.f0 = 2) → (1 ≤ c.f1 ∧ c.f1 ≤ 1000000000) → (0 ≤ c.f2 ∧ c.f2 ≤ 7) → (0 ≤ c.f3 ∧ c.f3 ≤ 100000) → ¬ D5 (l.take i) c →
      ∀ b : Bool, (b = true ↔ (c.f0 = 1 ∧ 0 ≤ kt (l.take i) c.f1 1)) → Ev (fun k => changeforgeref5_KeyringFault.j3 k l (i : Int) (kt (l.take i) c.f1 1) (kt (l.take i) c.f1 2) b c.f0 c.f1 c.f2 c.f3) res := by
    intro d1 hk hu ht h5 b hb
    by_cases h7 : c.f0 = 1 ∧ 0 ≤ kt (l.take i) c.f1 1
    · rw [done 7 (by decide) (ef_7 h7.1 hk hu ht h5 h7.2)]
      refine Ev.step (f := fun _ => some (7, (i : Int))) (fun k => by simp only [changeforgeref5_KeyringFault.j3, fault_eq, Option.bind_some]; rw [if_pos (hb.2 h7)]) ?_
      exact Ev.now _
    · have hb' : ¬ b = true := fun h => h7 (hb.1 h)
      by_cases h2 : c.f0 = 2
      · refine Ev.step (fun k => by simp only [changeforgeref5_KeyringFault.j3, fault_eq, Option.bind_some]; rw [if_neg hb', if_pos h2]) ?_
        exact J4 d1 hk hu ht h5 h7 _ (by rw [decide_eq_true_eq]; exact ⟨fun h => ⟨h2, h⟩, fun h => h.2⟩)
      · refine Ev.step (fun k => by simp only [changeforgeref5_KeyringFault.j3, fault_eq, Option.bind_some]; rw [if_neg hb', if_neg h2]) ?_
        exact J4 d1 hk hu ht h5 h7 _ ⟨fun h => absurd h (by decide), fun h => absurd h.1 h2⟩
  have J2 : (c.f0 = 1 ∨ c.f0 = 2) → (1 ≤ c.f1 ∧ c.f1 ≤ 1000000000) → (0 ≤ c.f2 ∧ c.f2 ≤ 7) → (0 ≤ c.f3 ∧ c.f3 ≤ 100000) →
      ∀ b : Bool, (b = true ↔ D5 (l.take i) c) → Ev (fun k => changeforgeref5_KeyringFault.j2 k l (i : Int) b c.f0 c.f1 c.f2 c.f3) res := by
    intro d1 hk hu ht b hb
    by_cases h5 : D5 (l.take i) c
    · rw [done 5 (by decide) (ef_5 d1 hk hu ht h5)]
      refine Ev.step (f := fun _ => some (5, (i : Int))) (fun k => by simp only [changeforgeref5_KeyringFault.j2, fault_eq, Option.bind_some]; rw [if_pos (hb.2 h5)]) ?_
      exact Ev.now _
    · have hb' : ¬ b = true := fun h => h5 (hb.1 h)
      refine Ev.step (fun k => by simp only [changeforgeref5_KeyringFault.j2, fault_eq, Option.bind_some]; rw [if_neg hb', if_pos (by omega), if_pos (by omega), Int.toNat_natCast]) ?_
      refine ev_bind (rKt_ev (l.take i) c.f1 1 (by omega)) (ev_bind (rKt_ev (l.take i) c.f1 2 (by omega)) ?_)
      by_cases h1 : c.f0 = 1
      · refine ev_if_pos h1 ?_
        exact J3 d1 hk hu ht h5 _ (by rw [decide_eq_true_eq]; exact ⟨fun h => ⟨h1, h⟩, fun h => h.2⟩)
      · refine ev_if_neg h1 ?_
        exact J3 d1 hk hu ht h5 _ ⟨fun h => absurd h (by decide), fun h => absurd h.1 h1⟩
  have hprev : 0 < i → (rd_T45 (l.take i) (((l.take i).length : Int) - 1)) = rd_T45 l ((i : Int) - 1) := fun h0 => prev_take h0 (by omega)
  have hw : 0 < i → wrap64 ((i : Int) - 1) = (i : Int) - 1 := fun h0 => w64 (by omega) (by omega)
  have J1 : (c.f0 = 1 ∨ c.f0 = 2) → ∀ b : Bool, (b = true ↔ ¬ ((1 ≤ c.f1 ∧ c.f1 ≤ 1000000000) ∧ (0 ≤ c.f2 ∧ c.f2 ≤ 7) ∧ (0 ≤ c.f3 ∧ c.f3 ≤ 100000))) → Ev (fun k => changeforgeref5_KeyringFault.j1 k l (i : Int) b c.f0 c.f1 c.f2 c.f3) res := by
    intro d1 b hb
    by_cases h3 : (1 ≤ c.f1 ∧ c.f1 ≤ 1000000000) ∧ (0 ≤ c.f2 ∧ c.f2 ≤ 7) ∧ (0 ≤ c.f3 ∧ c.f3 ≤ 100000)
    · have hb' : ¬ b = true := fun h => hb.1 h h3
      obtain ⟨hk, hu, ht⟩ := h3
      have J := J2 d1 hk hu ht
      have late : (c.f0 = 2 → c.f2 = 0) → Ev (fun k => if (i : Int) > 0 then (if 0 ≤ (wrap64 ((i : Int) - 1)) then (if (wrap64 ((i : Int) - 1)) < (l.length : Int) then (changeforgeref5_KeyringFault.j2 k l (i : Int) (decide (c.f3 < ((rd_T45 l (wrap64 ((i : Int) - 1))).f3))) c.f0 c.f1 c.f2 c.f3) else (none)) else (none)) else (changeforgeref5_KeyringFault.j2 k l (i : Int) false c.f0 c.f1 c.f2 c.f3)) res := by
        intro h2
        by_cases h0 : 0 < i
        · refine ev_if_pos (by omega) ?_
          rw [hw h0]
          refine ev_if_pos (by omega) (ev_if_pos (by omega) (J _ ?_))
          unfold D5
          rw [decide_eq_true_eq, hprev h0, hP]
          exact ⟨fun h => .inr ⟨h0, h⟩, fun h => h.elim (fun h => absurd (h2 h.1) h.2) (fun h => h.2)⟩
        · refine ev_if_neg (by omega) (J _ ?_)
          unfold D5
          rw [hP]
          exact ⟨fun h => absurd h (by decide), fun h => h.elim (fun h => absurd (h2 h.1) h.2) (fun h => absurd h.1 h0)⟩
      by_cases h2 : c.f0 = 2
      · by_cases hu0 : c.f2 = 0
        · refine Ev.step (fun k => by simp only [changeforgeref5_KeyringFault.j1, fault_eq, Option.bind_some]; rw [if_neg hb', if_pos h2, if_pos hu0]) ?_
          exact late fun _ => hu0
        · refine Ev.step (fun k => by simp only [changeforgeref5_KeyringFault.j1, fault_eq, Option.bind_some]; rw [if_neg hb', if_pos h2, if_neg hu0]) ?_
          exact J _ ⟨fun _ => .inl ⟨h2, hu0⟩, fun _ => rfl⟩
      · refine Ev.step (fun k => by simp only [changeforgeref5_KeyringFault.j1, fault_eq, Option.bind_some]; rw [if_neg hb', if_neg h2]) ?_
        exact late fun h => absurd h h2
    · have e : ef (l.take i) c = 3 := by
        unfold ef
        rw [if_neg (not_not_intro d1), if_pos (by omega)]
      rw [done 3 (by decide) e]
      refine Ev.step (f := fun _ => some (3, (i : Int))) (fun k => by simp only [changeforgeref5_KeyringFault.j1, fault_eq, Option.bind_some]; rw [if_pos (hb.2 h3)]) ?_
      exact Ev.now _
  refine Ev.step (fun k => by simp only [changeforgeref5_KeyringFault.l0, in_eq, rIsKey, Option.bind_some, fault_eq]; rw [if_pos (by omega), if_pos (by omega), ke_get l i hi, hc]) ?_
  by_cases h1 : 1 ≤ c.f0 ∧ c.f0 ≤ 2
  · have d1 : c.f0 = 1 ∨ c.f0 = 2 := by omega
    refine ev_if_pos (decide_eq_true h1) ?_
    by_cases hk : 1 ≤ c.f1 ∧ c.f1 ≤ 1000000000
    · refine ev_if_pos (decide_eq_true hk) ?_
      by_cases hu : 0 ≤ c.f2 ∧ c.f2 ≤ 7
      · refine ev_if_pos (decide_eq_true hu) (J1 d1 _ ?_)
        rw [Bool.not_eq_true', decide_eq_false_iff_not]
        exact ⟨fun h hh => h hh.2.2, fun h hh => h ⟨hk, hu, hh⟩⟩
      · refine ev_if_neg (by simpa using hu) (J1 d1 _ ⟨fun _ hh => hu hh.2.1, fun _ => rfl⟩)
    · refine ev_if_neg (by unfold isKey; simpa using hk) (J1 d1 _ ⟨fun _ hh => hk hh.1, fun _ => rfl⟩)
  · refine ev_if_neg (by simpa using h1) ?_
    have e : ef (l.take i) c = 4 := by
      unfold ef
      rw [if_pos (by omega)]
    rw [done 4 (by decide) e]
    exact ev_now fun k => rfl
theorem rRing_loop (l : List Ke) (hl : l.length ≤ 40) : ∀ (d i : Nat), i + d = l.length → Ev (fun k => changeforgeref5_KeyringFault.l0 k l (i : Int)) (rf (l.take i) (l.drop i)) := by
  intro d
  induction d with
  | zero =>
    intro i hi
    rw [List.drop_of_length_le (by omega)]
    refine Ev.step (f := fun _ => some (0, 0)) (fun k => by simp only [changeforgeref5_KeyringFault.l0]; rw [if_neg (by omega)]) ?_
    exact Ev.now _
  | succ d ih =>
    intro i hi
    have hil : i < l.length := by omega
    have hP : (l.take i).length = i := by rw [List.length_take]; omega
    have hnext := ih (i + 1) (by omega)
    rw [ke_drop hil]
    simp only [rf, hP]
    refine rRing_in l hl i hil _ rfl (fun h => ?_) (fun h => by rw [if_neg h])
    rw [if_pos h, List.take_append_getElem hil]
    exact hnext
theorem rRing_ev (l : List Ke) : Ev (fun k => changeforgeref5_KeyringFault.f k l) (ringFault l) := by
  unfold changeforgeref5_KeyringFault.f ringFault
  simp only [fault_eq, Option.bind_some]
  by_cases h : (l.length : Int) > 40
  · rw [if_pos h]
    exact ev_if_pos h (Ev.now _)
  · rw [if_neg h]
    refine ev_if_neg h ?_
    exact rRing_loop l (by omega) l.length 0 (by omega)
end Go.Proofs.Ytnkonhplfldlmaa.Pure
