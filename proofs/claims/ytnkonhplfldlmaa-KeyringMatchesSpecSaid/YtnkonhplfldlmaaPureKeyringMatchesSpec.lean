/- Validity, owners and keys of users, with all errors, are as specified: the plain law. Its condition: the parameters are of their kinds and sizes. -/
import Derived.Test.YtnkonhplfldlmaaFf3
import Derived.Test.YtnkonhplfldlmaaFn0
import Derived.Test.YtnkonhplfldlmaaFp3
import Derived.Test.YtnkonhplfldlmaaFs0
import Derived.Test.YtnkonhplfldlmaaPuRingK
import Derived.Test.YtnkonhplfldlmaaPuRingF
set_option linter.unusedVariables false
namespace Go.Proofs.Ytnkonhplfldlmaa.Pure
open Go Go.RowKit Go.Proofs.Ytnkonhplfldlmaa.Fn Go.Proofs.YtnkonhplfldlmaaW.PrintWords Go.Proofs.YtnkonhplfldlmaaW.PrintLast Go.Proofs.YtnkonhplfldlmaaW.PrintMore
theorem rf_user : ∀ (r p : List Ke), (rf p r).1 = 0 → ∀ e ∈ r, 0 ≤ e.f2
  | [], p, _, e, he => absurd he (by simp)
  | c :: r, p, h, e, he => by
    simp only [rf] at h
    by_cases hc : ef p c = 0
    · rw [if_pos hc] at h
      rcases List.mem_cons.1 he with rfl | he
      · unfold ef at hc
        split at hc
        · cases hc
        split at hc
        · cases hc
        omega
      · exact rf_user r _ h e he
    · rw [if_neg hc] at h
      exact absurd h hc
theorem ow_kt {l : List Ke} (h : (ringFault l).1 = 0) (key : Int) : ow l key < 0 ↔ kt l key 1 < 0 := by
  obtain ⟨hT, hn, ho⟩ := adds_of h
  constructor
  · intro hw
    refine Decidable.byContradiction fun hk => ?_
    obtain ⟨e, he, h1, rfl⟩ := kt_mem (l := l) (x := key) (k := 1) (by omega)
    have hu : 0 ≤ e.f2 := by
      unfold ringFault at h
      split at h
      · cases h
      · exact rf_user l [] h e he
    have := ho e he h1
    omega
  · intro hk
    rw [ow_none (kt_no hT hk).2]
    decide
theorem two_same (a b : Int) : (!(a == a) || (!(b == b))) = false := by simp
theorem two_and (a b : Int) : (a == a && (b == b)) = true := by simp
theorem KeyringMatchesSpec : changeforgelaw5_KeyringMatchesSpec.Pure := by
  intro l key time user h0 _ _ _
  refine ev_total ?_
  have hll := h0.1
  unfold changeforgelaw5_KeyringMatchesSpec.f
  refine ev_bind (rRing_ev l) (ev_bind keys_ev (ev_if_pos rfl ?_))
  simp only [pValidate h0.2, Option.bind_some, two_same]
  have J8 : Ev (fun k => changeforgelaw5_KeyringMatchesSpec.j8 k l time user false (ringFault l).1 (ringFault l).2) true := by
    refine Ev.step (fun k => by simp only [changeforgelaw5_KeyringMatchesSpec.j8, pIn_eq, changeforgelaw5_fault.f, pKeys h0.2, Option.bind_some]; rw [if_neg (by decide)]) ?_
    by_cases hz : (ringFault l).1 = 0
    · refine ev_if_pos hz ?_
      by_cases hu : 0 ≤ user ∧ user ≤ 7
      · refine ev_if_pos (decide_eq_true hu) ?_
        by_cases ht : 0 ≤ time ∧ time ≤ 100000
        · refine ev_if_pos (decide_eq_true ht) ?_
          have e : keysF l user time = (userKeys l user time, 0, 0) := by
            unfold keysF
            rw [if_neg (not_not_intro hz), if_neg (not_not_intro ⟨hu, ht⟩)]
          have hlen := keysF_len l user time
          rw [e] at hlen ⊢
          rw [ringFault_zero hz]
          refine ev_if_pos rfl (ev_bind (rUser_ev l user time hz) (ev_bind (rInts_ev _ _ (by omega)) ?_))
          rw [decide_eq_true rfl]
          exact Ev.now _
        · refine ev_if_neg (by simpa using ht) ?_
          have e : keysF l user time = ([], 3, -1) := by
            unfold keysF
            rw [if_neg (not_not_intro hz), if_pos (fun h => ht h.2)]
          rw [e]
          exact ev_if_pos rfl (ev_if_neg (by decide) (ev_if_pos rfl (Ev.now _)))
      · refine ev_if_neg (by simpa using hu) ?_
        have e : keysF l user time = ([], 3, -1) := by
          unfold keysF
          rw [if_neg (not_not_intro hz), if_pos (fun h => hu h.1)]
        rw [e]
        exact ev_if_pos rfl (ev_if_neg (by decide) (ev_if_pos rfl (Ev.now _)))
    · refine ev_if_neg hz ?_
      have e : keysF l user time = ([], ringFault l) := by
        unfold keysF
        rw [if_pos hz]
      rw [e]
      exact ev_if_pos (two_and _ _) (ev_if_pos rfl (Ev.now _))
  have J7 : Ev (fun k => changeforgelaw5_KeyringMatchesSpec.j7 k l key time user (ringFault l).1 (ringFault l).2 (ownerF l key).2.1 (ownerF l key).2.2) true := by
    refine Ev.step (fun k => by simp only [changeforgelaw5_KeyringMatchesSpec.j7, pOwner h0.2, Option.bind_some, two_same]; rw [if_neg (by decide)]) ?_
    by_cases hz : (ownerF l key).2.1 = 0
    · have hr : (ringFault l).1 = 0 := Decidable.byContradiction fun hc => by
        unfold ownerF at hz
        rw [if_pos hc] at hz
        exact hc hz
      refine ev_if_pos hz (ev_bind (rOw_ev l key (by have := ring_len hr; omega)) ?_)
      have : (ownerF l key).1 = ow l key := by
        unfold ownerF at hz ⊢
        split at hz
        · rename_i hc
          exact absurd hz hc
        split at hz
        · exact absurd hz (by decide)
        split at hz
        · exact absurd hz (by decide)
        rename_i h1 h2 h3
        rw [if_neg h1, if_neg h2, if_neg h3]
      rw [this, show (ow l key != ow l key) = false by simp]
      exact J8
    · refine ev_if_neg hz (ev_if_pos ?_ J8)
      unfold ownerF at hz ⊢
      split
      · rfl
      rename_i h1
      rw [if_neg h1] at hz
      split
      · rfl
      rename_i h2
      rw [if_neg h2] at hz
      split
      · rfl
      rename_i h3
      rw [if_neg h3] at hz
      exact absurd rfl hz
  have J3 : Ev (fun k => changeforgelaw5_KeyringMatchesSpec.j3 k l key time user false (ringFault l).1 (ringFault l).2) true := by
    refine Ev.step (fun k => by simp only [changeforgelaw5_KeyringMatchesSpec.j3, rIsKey, Option.bind_some]; rw [if_neg (by decide)]) ?_
    have K := J7
    unfold ownerF at K
    by_cases hz : (ringFault l).1 = 0
    · refine ev_if_pos hz ?_
      rw [if_neg (not_not_intro hz)] at K
      by_cases hk : 1 ≤ key ∧ key ≤ 1000000000
      · rw [if_neg (not_not_intro hk)] at K
        rw [show isKey key = true from decide_eq_true hk]
        refine Ev.step (fun k => by simp only [changeforgelaw5_KeyringMatchesSpec.j4]; rw [if_neg (by decide)]) ?_
        refine Ev.step (fun k => by simp only [changeforgelaw5_KeyringMatchesSpec.j5]; rw [if_pos hz]) ?_
        refine ev_bind (rOw_ev l key (by have := ring_len hz; omega)) ?_
        by_cases ho : kt l key 1 < 0
        · rw [if_pos ho] at K
          rw [decide_eq_true ((ow_kt hz key).2 ho)]
          refine Ev.step (fun k => by simp only [changeforgelaw5_KeyringMatchesSpec.j6, changeforgelaw5_fault.f, Option.bind_some]; rw [if_pos trivial]) ?_
          exact K
        · rw [if_neg ho] at K
          rw [decide_eq_false (fun h => ho ((ow_kt hz key).1 h))]
          refine Ev.step (fun k => by simp only [changeforgelaw5_KeyringMatchesSpec.j6]; rw [if_neg (by decide)]) ?_
          have e := ringFault_zero hz
          rw [e] at K ⊢
          exact K
      · rw [if_pos hk] at K
        rw [show isKey key = false from decide_eq_false hk]
        refine Ev.step (fun k => by simp only [changeforgelaw5_KeyringMatchesSpec.j4, changeforgelaw5_fault.f, Option.bind_some]; rw [if_pos (show (!false) = true from rfl)]) ?_
        refine Ev.step (fun k => by simp only [changeforgelaw5_KeyringMatchesSpec.j5]; rw [if_neg (by decide)]) ?_
        refine Ev.step (fun k => by simp only [changeforgelaw5_KeyringMatchesSpec.j6]; rw [if_neg (by decide)]) ?_
        exact K
    · refine ev_if_neg hz ?_
      rw [if_pos hz] at K
      refine Ev.step (fun k => by simp only [changeforgelaw5_KeyringMatchesSpec.j4]; rw [if_neg (by decide)]) ?_
      refine Ev.step (fun k => by simp only [changeforgelaw5_KeyringMatchesSpec.j5]; rw [if_neg hz]) ?_
      refine Ev.step (fun k => by simp only [changeforgelaw5_KeyringMatchesSpec.j6]; rw [if_neg (by decide)]) ?_
      exact K
  have J2 : Ev (fun k => changeforgelaw5_KeyringMatchesSpec.j2 k l key time user (ringFault l).1 (ringFault l).2 (validF l key time).2.1 (validF l key time).2.2) true := by
    refine Ev.step (fun k => by simp only [changeforgelaw5_KeyringMatchesSpec.j2, pValid h0.2, Option.bind_some, two_same]; rw [if_neg (by decide)]) ?_
    by_cases hz : (validF l key time).2.1 = 0
    · refine ev_if_pos hz (ev_bind (rValid_ev l key time (by have := ring_len (validF_ok hz).1; omega)) ?_)
      rw [(validF_ok hz).2.2.2, show (keyValid l key time != keyValid l key time) = false by simp]
      exact J3
    · refine ev_if_neg hz ?_
      rw [validF_bad hz]
      exact J3
  refine Ev.step (fun k => by simp only [changeforgelaw5_KeyringMatchesSpec.j0, rIsKey, pIn_eq, Option.bind_some]; rw [if_neg (by decide)]) ?_
  have K := J2
  unfold validF at K
  by_cases hz : (ringFault l).1 = 0
  · refine ev_if_pos hz ?_
    rw [if_neg (not_not_intro hz)] at K
    have bad : ¬ ((1 ≤ key ∧ key ≤ 1000000000) ∧ (0 ≤ time ∧ time ≤ 100000)) → Ev (fun k => changeforgelaw5_KeyringMatchesSpec.j1 k l key time user true (ringFault l).1 (ringFault l).2 (ringFault l).1 (ringFault l).2) true := fun hb => by
      rw [if_pos hb] at K
      refine Ev.step (fun k => by simp only [changeforgelaw5_KeyringMatchesSpec.j1, changeforgelaw5_fault.f, Option.bind_some]; rw [if_pos trivial]) ?_
      exact K
    by_cases hk : 1 ≤ key ∧ key ≤ 1000000000
    · refine ev_if_pos (decide_eq_true hk) ?_
      by_cases ht : 0 ≤ time ∧ time ≤ 100000
      · rw [decide_eq_true ht]
        rw [if_neg (not_not_intro ⟨hk, ht⟩)] at K
        refine Ev.step (fun k => by simp only [changeforgelaw5_KeyringMatchesSpec.j1]; rw [if_neg (by decide)]) ?_
        have e := ringFault_zero hz
        rw [e] at K ⊢
        exact K
      · rw [decide_eq_false ht]
        exact bad (fun h => ht h.2)
    · exact ev_if_neg (by unfold isKey; simpa using hk) (bad fun h => hk h.1)
  · refine ev_if_neg hz ?_
    rw [if_pos hz] at K
    refine Ev.step (fun k => by simp only [changeforgelaw5_KeyringMatchesSpec.j1]; rw [if_neg (by decide)]) ?_
    exact K
end Go.Proofs.Ytnkonhplfldlmaa.Pure
