/- Plain lemmas: the keys of a user, as the reference finds them by repeated selection; beginnings of a keyring. No condition but what each states. -/
import Derived.Test.YtnkonhplfldlmaaFf18
import Derived.Test.YtnkonhplfldlmaaFf23
import Derived.Test.YtnkonhplfldlmaaFn0
import Derived.Test.YtnkonhplfldlmaaFo0
import Derived.Test.YtnkonhplfldlmaaPuRing
import Derived.Test.YtnkonhplfldlmaaOpens
import Derived.Test.YtnkonhplfldlmaaFo0
set_option linter.unusedVariables false
namespace Go.Proofs.Ytnkonhplfldlmaa.Pure
open Go Go.RowKit Go.Proofs.Ytnkonhplfldlmaa.Fn Go.Proofs.YtnkonhplfldlmaaW.PrintWords Go.Proofs.YtnkonhplfldlmaaW.PrintLast Go.Proofs.YtnkonhplfldlmaaW.PrintMore
theorem kw_of {l : List Ke} (h : ∀ x ∈ l, wf45 x) : keysWf l = true := by
  refine List.all_eq_true.2 fun e he => ?_
  have h1 := (h e he).2.1
  simp only [Lit.wf, IntKind.min, IntKind.max, IntKind.signed, IntKind.bits, Bool.and_eq_true, decide_eq_true_eq, if_true] at h1
  refine decide_eq_true ?_
  constructor
  · have := h1.1
    simpa using this
  · have := h1.2
    simp at this
    omega
theorem rf_ok : ∀ (r p q : List Ke), (rf p r).1 = 0 → rf p (r ++ q) = rf (p ++ r) q
  | [], p, q, _ => by rw [List.append_nil]; rfl
  | e :: r, p, q, h => by
    simp only [rf] at h
    simp only [List.cons_append, rf]
    by_cases hc : ef p e = 0
    · rw [if_pos hc] at h ⊢
      rw [rf_ok r (p ++ [e]) q h, List.append_assoc]
      rfl
    · rw [if_neg hc] at h
      exact absurd h hc
theorem rf_bad : ∀ (r p q : List Ke), (rf p r).1 ≠ 0 → rf p (r ++ q) = rf p r
  | [], p, q, h => absurd rfl h
  | e :: r, p, q, h => by
    simp only [rf] at h
    simp only [List.cons_append, rf]
    by_cases hc : ef p e = 0
    · rw [if_pos hc] at h
      rw [if_pos hc, if_pos hc, rf_bad r (p ++ [e]) q h]
    · rw [if_neg hc, if_neg hc]
theorem rf_index : ∀ (r p : List Ke), (rf p r).1 ≠ 0 → (p.length : Int) ≤ (rf p r).2 ∧ (rf p r).2 < (p.length : Int) + r.length
  | [], p, h => absurd rfl h
  | e :: r, p, h => by
    simp only [rf] at h ⊢
    by_cases hc : ef p e = 0
    · rw [if_pos hc] at h ⊢
      have := rf_index r (p ++ [e]) h
      simp only [List.length_append, List.length_cons, List.length_nil] at this ⊢
      omega
    · rw [if_neg hc]
      simp only [List.length_cons]
      omega
theorem ring_of_append {l q : List Ke} (h : (ringFault (l ++ q)).1 = 0) : (ringFault l).1 = 0 := by
  have h1 := h
  unfold ringFault at h ⊢
  split at h
  · cases h
  rename_i hn
  rw [List.length_append] at hn
  rw [if_neg (by omega)]
  refine Decidable.byContradiction fun hc => ?_
  rw [rf_bad _ _ _ hc] at h
  exact hc h
theorem rf_key : ∀ (r p : List Ke), (rf p r).1 = 0 → ∀ e ∈ r, 1 ≤ e.f1
  | [], p, _, e, he => absurd he (by simp)
  | c :: r, p, h, e, he => by
    simp only [rf] at h
    by_cases hc : ef p c = 0
    · rw [if_pos hc] at h
      rcases List.mem_cons.1 he with rfl | he
      · unfold ef at hc
        split at hc
        · cases hc
        split at hc
        · cases hc
        omega
      · exact rf_key r _ h e he
    · rw [if_neg hc] at h
      exact absurd h hc
theorem ring_key {l : List Ke} (h : (ringFault l).1 = 0) : ∀ e ∈ l, 1 ≤ e.f1 := by
  unfold ringFault at h
  split at h
  · cases h
  · exact rf_key l [] h
theorem ring_len {l : List Ke} (h : (ringFault l).1 = 0) : l.length ≤ 40 := ringFault_len (ringFault_zero h)
/-- The least key behind 'last', so far b (0: none). -/
def bst (l : List Ke) (user time last : Int) : List Ke → Int → Int
  | [], b => b
  | e :: r, b => if e.f0 = 1 ∧ e.f2 = user ∧ e.f1 > last ∧ (b = 0 ∨ e.f1 < b) ∧ keyValid l e.f1 time = true then bst l user time last r e.f1 else bst l user time last r b
def cand (l : List Ke) (user time last : Int) (e : Ke) : Prop := e.f0 = 1 ∧ e.f2 = user ∧ e.f1 > last ∧ keyValid l e.f1 time = true
theorem bst_says (l : List Ke) (user time last : Int) : ∀ (r : List Ke) (b : Int), (∀ e ∈ r, 1 ≤ e.f1) → 0 ≤ b →
    (bst l user time last r b = 0 → b = 0 ∧ ∀ e ∈ r, ¬ cand l user time last e) ∧ (bst l user time last r b ≠ 0 → (bst l user time last r b = b ∨ ∃ e ∈ r, cand l user time last e ∧ e.f1 = bst l user time last r b) ∧ (b ≠ 0 → bst l user time last r b ≤ b) ∧ ∀ e ∈ r, cand l user time last e → bst l user time last r b ≤ e.f1)
  | [], b, hk, hb => ⟨fun h => ⟨h, fun e he => absurd he (by simp)⟩, fun h => ⟨.inl rfl, fun _ => Int.le_refl _, fun e he => absurd he (by simp)⟩⟩
  | e :: r, b, hk, hb => by
    have h1 := hk e (List.mem_cons_self ..)
    have hk' : ∀ e ∈ r, 1 ≤ e.f1 := fun e he => hk e (List.mem_cons_of_mem _ he)
    simp only [bst]
    split
    · rename_i hc
      obtain ⟨i1, i2⟩ := bst_says l user time last r e.f1 hk' (by omega)
      refine ⟨fun h => ?_, fun h => ?_⟩
      · have h0 := (i1 h).1
        clear i1 i2 hc
        omega
      obtain ⟨j1, j2, j3⟩ := i2 h
      have j2' := j2 (by omega)
      refine ⟨.inr ?_, fun hb0 => ?_, fun c hc' hcc => ?_⟩
      · rcases j1 with j1 | ⟨c, hc1, hc2⟩
        · exact ⟨e, List.mem_cons_self .., ⟨hc.1, hc.2.1, hc.2.2.1, hc.2.2.2.2⟩, j1.symm⟩
        · exact ⟨c, List.mem_cons_of_mem _ hc1, hc2⟩
      · rcases hc.2.2.2.1 with h0 | h0
        · exact absurd h0 hb0
        · exact Int.le_trans j2' (Int.le_of_lt h0)
      · rcases List.mem_cons.1 hc' with rfl | hc'
        · exact j2'
        · exact j3 c hc' hcc
    · rename_i hc
      obtain ⟨i1, i2⟩ := bst_says l user time last r b hk' hb
      have hno : cand l user time last e → b ≠ 0 ∧ b ≤ e.f1 := fun ⟨c1, c2, c3, c4⟩ => by
        constructor
        · intro h0
          exact hc ⟨c1, c2, c3, .inl h0, c4⟩
        · refine Int.not_lt.1 fun hlt => hc ⟨c1, c2, c3, .inr hlt, c4⟩
      refine ⟨fun h => ?_, fun h => ?_⟩
      · obtain ⟨k1, k2⟩ := i1 h
        refine ⟨k1, fun c hc' => ?_⟩
        rcases List.mem_cons.1 hc' with rfl | hc'
        · exact fun hcc => (hno hcc).1 k1
        · exact k2 c hc'
      · obtain ⟨j1, j2, j3⟩ := i2 h
        refine ⟨?_, j2, fun c hc' hcc => ?_⟩
        · rcases j1 with j1 | ⟨c, hc1, hc2⟩
          · exact .inl j1
          · exact .inr ⟨c, List.mem_cons_of_mem _ hc1, hc2⟩
        · rcases List.mem_cons.1 hc' with rfl | hc'
          · obtain ⟨n1, n2⟩ := hno hcc
            exact Int.le_trans (j2 n1) n2
          · exact j3 c hc' hcc
theorem cand_mem {l : List Ke} (h : (ringFault l).1 = 0) {user time last x : Int} : (x ∈ userKeys l user time ∧ last < x) ↔ ∃ e ∈ l, cand l user time last e ∧ e.f1 = x := by
  obtain ⟨hT, hn, ho⟩ := adds_of h
  rw [mem_userKeys h]
  constructor
  · rintro ⟨⟨hk, hu, hv⟩, hl⟩
    obtain ⟨e, he, h1, rfl⟩ := kt_mem hk
    exact ⟨e, he, ⟨h1, (ho e he h1).symm.trans hu, hl, hv⟩, rfl⟩
  · rintro ⟨e, he, ⟨h1, h2, h3, h4⟩, rfl⟩
    exact ⟨⟨kt_ge hT he h1, (ho e he h1).trans h2, h4⟩, h3⟩
theorem next_key {S : List Int} (hs : S.Pairwise (· ≤ ·)) (hn : S.Nodup) {last m : Int} (hm : m ∈ S) (hl : last < m) (hmin : ∀ y ∈ S, last < y → m ≤ y) :
    S.filter (fun y => decide (last < y)) = m :: S.filter (fun y => decide (m < y)) := by
  refine sorted_unique (hs.sublist List.filter_sublist) ?_ ?_
  · refine List.pairwise_cons.2 ⟨fun z hz => ?_, hs.sublist List.filter_sublist⟩
    have := of_decide_eq_true (List.mem_filter.1 hz).2
    omega
  · refine perm_of_mem (hn.sublist List.filter_sublist) (List.nodup_cons.2 ⟨fun h => ?_, hn.sublist List.filter_sublist⟩) fun x => ?_
    · have := of_decide_eq_true (List.mem_filter.1 h).2
      omega
    · rw [List.mem_filter, List.mem_cons, List.mem_filter, decide_eq_true_eq, decide_eq_true_eq]
      constructor
      · rintro ⟨hx, hxl⟩
        have := hmin x hx hxl
        by_cases he : x = m
        · exact .inl he
        · exact .inr ⟨hx, by omega⟩
      · rintro (rfl | ⟨hx, hxm⟩)
        · exact ⟨hm, hl⟩
        · exact ⟨hx, by omega⟩
def ufin (l : List Ke) (user time : Int) (out : List Int) (m : Int) (k : Nat) : Option (List Int) :=
  if m = 0 then some out else if out.length < 17592186044416 then changeforgeref5_UserKeys.l0 k l user time (out ++ [m]) m else none
theorem rUser_in (l : List Ke) (user time : Int) (hl : l.length ≤ 40) (out : List Int) (last : Int) {res : List Int} : ∀ (d i : Nat) (b : Int), i + d = l.length →
    Ev (ufin l user time out (bst l user time last (l.drop i) b)) res →
    Ev (fun k => changeforgeref5_UserKeys.l1 k l user time out last b (i : Int)) res := by
  intro d
  induction d with
  | zero =>
    intro i b hi hE
    rw [List.drop_of_length_le (by omega)] at hE
    refine Ev.step (fun k => by simp only [changeforgeref5_UserKeys.l1]; rw [if_neg (by omega)]) ?_
    exact hE
  | succ d ih =>
    intro i b hi hE
    have hil : i < l.length := by omega
    rw [ke_drop hil] at hE
    simp only [bst] at hE
    have hw : wrap64 ((i : Int) + 1) = ((i + 1 : Nat) : Int) := by rw [w64 (by omega) (by omega)]; rfl
    generalize hc : l[i] = c at hE
    have hv := rValid_ev l c.f1 time (by omega)
    refine Ev.step (fun k => by simp only [changeforgeref5_UserKeys.l1]; rw [if_pos (by omega), if_pos (by omega), ke_get l i hil, hc, hw]) ?_
    by_cases h1 : c.f0 = 1
    · refine ev_if_pos h1 ?_
      by_cases h2 : c.f2 = user
      · refine ev_if_pos h2 ?_
        by_cases h3 : c.f1 > last
        · refine ev_if_pos h3 ?_
          have last_ : (b = 0 ∨ c.f1 < b) → Ev (fun k => (changeforgeref5_KeyValid.f k l c.f1 time).bind fun t => if t = true then changeforgeref5_UserKeys.l1 k l user time out last c.f1 ((i + 1 : Nat) : Int) else changeforgeref5_UserKeys.l1 k l user time out last b ((i + 1 : Nat) : Int)) res := by
            intro h4
            refine ev_bind hv ?_
            by_cases h5 : keyValid l c.f1 time = true
            · rw [if_pos ⟨h1, h2, h3, h4, h5⟩] at hE
              exact ev_if_pos h5 (ih (i + 1) _ (by omega) hE)
            · rw [if_neg (fun h => h5 h.2.2.2.2)] at hE
              exact ev_if_neg h5 (ih (i + 1) _ (by omega) hE)
          by_cases h4 : b = 0
          · exact ev_if_pos h4 (last_ (.inl h4))
          · refine ev_if_neg h4 ?_
            by_cases h6 : c.f1 < b
            · exact ev_if_pos h6 (last_ (.inr h6))
            · rw [if_neg (fun h => h.2.2.2.1.elim h4 h6)] at hE
              exact ev_if_neg h6 (ih (i + 1) _ (by omega) hE)
        · rw [if_neg (fun h => h3 h.2.2.1)] at hE
          exact ev_if_neg h3 (ih (i + 1) _ (by omega) hE)
      · rw [if_neg (fun h => h2 h.2.1)] at hE
        exact ev_if_neg h2 (ih (i + 1) _ (by omega) hE)
    · rw [if_neg (fun h => h1 h.1)] at hE
      exact ev_if_neg h1 (ih (i + 1) _ (by omega) hE)
theorem userKeys_sorted (l : List Ke) (user time : Int) : (userKeys l user time).Pairwise (· ≤ ·) := by
  unfold userKeys
  exact isort_sorted _
theorem rUser_loop (l : List Ke) (user time : Int) (hz : (ringFault l).1 = 0) : ∀ (n : Nat) (out : List Int) (last : Int), ((userKeys l user time).filter fun y => decide (last < y)).length = n → out.length + n ≤ 1000000 →
    Ev (fun k => changeforgeref5_UserKeys.l0 k l user time out last) (out ++ (userKeys l user time).filter fun y => decide (last < y)) := by
  have hl := ring_len hz
  intro n
  induction n with
  | zero =>
    intro out last h0 hb
    have hnil := List.length_eq_zero_iff.1 h0
    rw [hnil, List.append_nil]
    refine Ev.step (fun k => by simp only [changeforgeref5_UserKeys.l0]; rfl) ?_
    refine rUser_in l user time hl out last l.length 0 0 (by omega) ?_
    have hb0 : bst l user time last (l.drop 0) 0 = 0 := by
      rw [List.drop_zero]
      refine Decidable.byContradiction fun hne => ?_
      obtain ⟨j1, _⟩ := (bst_says l user time last l 0 (ring_key hz) (Int.le_refl _)).2 hne
      rcases j1 with j1 | ⟨e, he, hc, hx⟩
      · exact hne j1
      · obtain ⟨m1, m2⟩ := (cand_mem hz (x := e.f1)).2 ⟨e, he, hc, rfl⟩
        have : e.f1 ∈ (userKeys l user time).filter fun y => decide (last < y) := List.mem_filter.2 ⟨m1, decide_eq_true m2⟩
        rw [hnil] at this
        exact absurd this (by simp)
    unfold ufin
    exact ev_if_pos hb0 (Ev.now _)
  | succ n ih =>
    intro out last h0 hb
    refine Ev.step (fun k => by simp only [changeforgeref5_UserKeys.l0]; rfl) ?_
    refine rUser_in l user time hl out last l.length 0 0 (by omega) ?_
    rw [List.drop_zero]
    obtain ⟨i1, i2⟩ := bst_says l user time last l 0 (ring_key hz) (Int.le_refl _)
    have hne : bst l user time last l 0 ≠ 0 := fun h => by
      have hno := (i1 h).2
      have hx : ∃ x, x ∈ (userKeys l user time).filter fun y => decide (last < y) := List.exists_mem_of_length_pos (by omega)
      obtain ⟨x, hx⟩ := hx
      rw [List.mem_filter, decide_eq_true_eq] at hx
      obtain ⟨e, he, hc, _⟩ := (cand_mem hz).1 hx
      exact hno e he hc
    obtain ⟨j1, _, j3⟩ := i2 hne
    generalize bst l user time last l 0 = m at hne j1 j3
    obtain ⟨e, he, hc, hx⟩ : ∃ e ∈ l, cand l user time last e ∧ e.f1 = m := j1.elim (fun h => absurd h hne) id
    obtain ⟨m1, m2⟩ := (cand_mem hz).2 ⟨e, he, hc, hx⟩
    have hnk := next_key (userKeys_sorted l user time) (userKeys_nodup hz user time) m1 m2 (fun y hy hly => by
      obtain ⟨c, hc1, hc2, hc3⟩ := (cand_mem hz).1 ⟨hy, hly⟩
      rw [← hc3]
      exact j3 c hc1 hc2)
    rw [hnk] at h0 ⊢
    simp only [List.length_cons] at h0
    unfold ufin
    refine ev_if_neg hne (ev_if_pos (by omega) ?_)
    have hr := ih (out ++ [m]) m (by omega) (by rw [List.length_append, List.length_singleton]; omega)
    rw [List.append_assoc] at hr
    exact hr
theorem rUser_ev (l : List Ke) (user time : Int) (hz : (ringFault l).1 = 0) : Ev (fun k => changeforgeref5_UserKeys.f k l user time) (userKeys l user time) := by
  unfold changeforgeref5_UserKeys.f
  have hall : (userKeys l user time).filter (fun y => decide ((0 : Int) < y)) = userKeys l user time := by
    refine List.filter_eq_self.2 fun x hx => decide_eq_true ?_
    obtain ⟨hk, _⟩ := (mem_userKeys hz user time x).1 hx
    obtain ⟨e, he, _, rfl⟩ := kt_mem hk
    have := ring_key hz e he
    omega
  have hlen : (userKeys l user time).length ≤ l.length := by
    have := length_le_of_mem (l2 := l.map S45.f1) (userKeys_nodup hz user time) fun x hx => by
      obtain ⟨hk, _⟩ := (mem_userKeys hz user time x).1 hx
      obtain ⟨e, he, _, h2⟩ := kt_mem hk
      exact List.mem_map.2 ⟨e, he, h2⟩
    simpa using this
  have := rUser_loop l user time hz _ [] 0 rfl (by rw [hall]; have := ring_len hz; simp only [List.length_nil]; omega)
  rw [hall] at this
  exact this
theorem keysF_len (l : List Ke) (user time : Int) : (keysF l user time).1.length ≤ 40 := by
  unfold keysF
  split
  · exact Nat.zero_le _
  split
  · exact Nat.zero_le _
  rename_i h1 h2
  have hz : (ringFault l).1 = 0 := Decidable.not_not.1 h1
  have := length_le_of_mem (l2 := l.map S45.f1) (userKeys_nodup hz user time) fun x hx => by
    obtain ⟨hk, _⟩ := (mem_userKeys hz user time x).1 hx
    obtain ⟨e, he, _, h2⟩ := kt_mem hk
    exact List.mem_map.2 ⟨e, he, h2⟩
  have := ring_len hz
  simp at *
  omega
end Go.Proofs.Ytnkonhplfldlmaa.Pure
