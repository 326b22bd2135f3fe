/- Plain lemmas: signers and acceptance. No condition but what each states. -/
import Derived.Test.YtnkonhplfldlmaaFf28
import Derived.Test.YtnkonhplfldlmaaFn0
import Derived.Test.YtnkonhplfldlmaaPuKeys
set_option linter.unusedVariables false
namespace Go.Proofs.Ytnkonhplfldlmaa.Pure
open Go.RowKit Go.Proofs.Ytnkonhplfldlmaa.Fn Go.Proofs.YtnkonhplfldlmaaW.PrintWords Go.Proofs.YtnkonhplfldlmaaW.PrintLast Go.Proofs.YtnkonhplfldlmaaW.PrintMore

abbrev Sg := S54
theorem rdS_get (l : List Sg) (i : Nat) (h : i < l.length) : rd_T54 l (i : Int) = l[i] := by
  unfold rd_T54
  rw [List.getD_eq_getElem?_getD, Int.toNat_natCast, List.getElem?_eq_getElem h]
  rfl
/-- From place i on, d signatures: the first that is malformed; n: how many keys there are. -/
def sfAt (n : Int) (l : List Sg) : Nat → Nat → Int × Int
  | 0, _ => (0, 0)
  | d + 1, i => if isKey (rd_T54 l i).f0 = true ∧ isDig (rd_T54 l i).f1 = true then sfAt n l d (i + 1) else (3, n + i)
def signersFault (keys data : List Int) (sigs : List Sg) : Int × Int :=
  if (keysFault keys).1 = 0 then (if (data.length : Int) ≤ 4096 then (if (sigs.length : Int) ≤ 24 then sfAt keys.length sigs sigs.length 0 else (2, -3)) else (2, -2)) else keysFault keys
def isSig (data : List Int) (k : Int) (s : Sg) : Bool := decide (s.f0 = k ∧ s.f1 = sgn k data)
def hasSig (data : List Int) (sigs : List Sg) (k : Int) : Bool := sigs.any (isSig data k)
def signers (keys data : List Int) (sigs : List Sg) : List Int := keys.filter (hasSig data sigs)
def signersRes (keys data : List Int) (sigs : List Sg) : List Int × Int × Int := if (signersFault keys data sigs).1 = 0 then (signers keys data sigs, 0, 0) else ([], (signersFault keys data sigs).1, (signersFault keys data sigs).2)
def acceptRes (keys : List Int) (need : Int) (data : List Int) (sigs : List Sg) : Bool × Int × Int :=
  if (thrFault keys need).1 = 0 then (if (signersFault keys data sigs).1 = 0 then (decide (((signers keys data sigs).length : Int) ≥ need), 0, 0) else (false, (signersFault keys data sigs).1, (signersFault keys data sigs).2)) else (false, (thrFault keys need).1, (thrFault keys need).2)

theorem sfAt_zero (n : Int) (l : List Sg) : ∀ d i, (sfAt n l d i).1 = 0 → sfAt n l d i = (0, 0)
  | 0, _, _ => rfl
  | d + 1, i, h => by
    unfold sfAt at h ⊢
    split
    · rename_i h1
      rw [if_pos h1] at h
      exact sfAt_zero n l d (i + 1) h
    · rename_i h1
      rw [if_neg h1] at h
      exact absurd h (by simp)
theorem sfAt_ok (n : Int) (l : List Sg) : ∀ d i, (sfAt n l d i).1 = 0 → i + d = l.length → ∀ j (hj : j < l.length), i ≤ j → isKey l[j].f0 = true ∧ isDig l[j].f1 = true
  | 0, i, _, hd, j, hj, h1 => by omega
  | d + 1, i, h, hd, j, hj, h1 => by
    unfold sfAt at h
    by_cases hk : isKey (rd_T54 l i).f0 = true ∧ isDig (rd_T54 l i).f1 = true
    · rw [if_pos hk] at h
      by_cases hji : j = i
      · subst hji
        rwa [rdS_get l j hj] at hk
      · exact sfAt_ok n l d (i + 1) h (by omega) j hj (by omega)
    · rw [if_neg hk] at h
      exact absurd h (by simp)
theorem sfAt_of (n : Int) (l : List Sg) : ∀ d i, i + d = l.length → (∀ j (hj : j < l.length), i ≤ j → isKey l[j].f0 = true ∧ isDig l[j].f1 = true) → sfAt n l d i = (0, 0)
  | 0, _, _, _ => rfl
  | d + 1, i, hd, h => by
    unfold sfAt
    rw [rdS_get l i (by omega), if_pos (h i (by omega) (Nat.le_refl _))]
    exact sfAt_of n l d (i + 1) (by omega) (fun j hj hij => h j hj (by omega))
def goodSigs (l : List Sg) : Prop := ∀ s ∈ l, isKey s.f0 = true ∧ isDig s.f1 = true
theorem signersFault_ok {keys data : List Int} {sigs : List Sg} (h : (signersFault keys data sigs).1 = 0) :
    signersFault keys data sigs = (0, 0) ∧ (keysFault keys).1 = 0 ∧ (data.length : Int) ≤ 4096 ∧ (sigs.length : Int) ≤ 24 ∧ goodSigs sigs := by
  unfold signersFault at *
  by_cases h1 : (keysFault keys).1 = 0
  · rw [if_pos h1] at *
    by_cases h2 : (data.length : Int) ≤ 4096
    · rw [if_pos h2] at *
      by_cases h3 : (sigs.length : Int) ≤ 24
      · rw [if_pos h3] at *
        refine ⟨sfAt_zero _ _ _ _ h, h1, h2, h3, fun s hs => ?_⟩
        obtain ⟨j, hj, rfl⟩ := List.mem_iff_getElem.1 hs
        exact sfAt_ok _ _ _ _ h (by omega) j hj (by omega)
      · rw [if_neg h3] at h
        exact absurd h (by decide)
    · rw [if_neg h2] at h
      exact absurd h (by decide)
  · rw [if_neg h1] at h
    exact absurd h h1
theorem signersFault_of {keys data : List Int} {sigs : List Sg} (h1 : (keysFault keys).1 = 0) (h2 : (data.length : Int) ≤ 4096) (h3 : (sigs.length : Int) ≤ 24) (h4 : goodSigs sigs) : signersFault keys data sigs = (0, 0) := by
  unfold signersFault
  rw [if_pos h1, if_pos h2, if_pos h3]
  exact sfAt_of _ _ _ _ (by omega) (fun j hj _ => h4 _ (List.getElem_mem hj))

/-! the reference -/
theorem any_drop_cons {l : List Sg} {p : Sg → Bool} {j : Nat} (h : j < l.length) : (l.drop j).any p = (p l[j] || (l.drop (j + 1)).any p) := by rw [List.drop_eq_getElem_cons h, List.any_cons]
/-! the program -/
theorem rdB_get (l : List Bool) (i : Nat) (h : i < l.length) : rdOf false l (i : Int) = l[i] := by
  unfold rdOf
  rw [List.getD_eq_getElem?_getD, Int.toNat_natCast, List.getElem?_eq_getElem h]
  rfl
theorem pick_loop (keys : List Int) (p : Int → Bool) (hl : keys.length ≤ 12) : ∀ (d i : Nat) (acc : List Int), i + d = keys.length → acc.length ≤ i →
    Ev (fun k => threshold_Signers.l1 k (keys.map p) acc keys (keys.length : Int) i) (acc ++ (keys.drop i).filter p, 0, 0) := by
  intro d
  induction d with
  | zero =>
    intro i acc hi ha
    rw [List.drop_of_length_le (by omega)]
    simp only [List.filter_nil, List.append_nil]
    exact Ev.step (f := fun _ => some (acc, 0, 0)) (fun k => by simp only [threshold_Signers.l1]; rw [if_neg (by omega)]) (Ev.now _)
  | succ d ih =>
    intro i acc hi ha
    have hil : i < keys.length := by omega
    have e0 : rdOf false (keys.map p) (i : Int) = p keys[i] := by
      rw [rdB_get _ i (by rw [List.length_map]; exact hil), List.getElem_map]
    refine Ev.step (fun k => by simp only [threshold_Signers.l1]; rw [if_pos (by omega), if_pos (by omega), if_pos (by omega), if_pos (by rw [List.length_map]; omega), e0, rd_get keys i hil, succ_w (by omega)]) ?_
    rw [drop_cons hil, List.filter_cons]
    by_cases hp : p keys[i] = true
    · rw [if_pos hp]
      refine ev_if_pos hp (ev_if_pos (by omega) ?_)
      have := ih (i + 1) (acc ++ [keys[i]]) (by omega) (by rw [List.length_append, List.length_singleton]; omega)
      rw [List.append_assoc] at this
      exact this
    · rw [if_neg hp]
      exact ev_if_neg hp (ih (i + 1) acc (by omega) (by omega))
theorem take_any {l : List Sg} {p : Sg → Bool} {i : Nat} (h : i < l.length) : (l.take (i + 1)).any p = ((l.take i).any p || p l[i]) := by
  rw [List.take_succ_eq_append_getElem h, List.any_append, List.any_cons, List.any_nil, Bool.or_false]
theorem lb_of_mem {l : List Int} (hs : rises l) {x : Int} (hx : x ∈ l) : ∃ h : lb l x < l.length, l[lb l x] = x := (mem_lb hs x).1 hx
theorem mark_eq (keys : List Int) (hs : rises keys) (p q : Int → Bool) (x : Int) (hx : x ∈ keys) (b : Bool) (h1 : ∀ k ∈ keys, k ≠ x → q k = p k) (h2 : q x = b) : (keys.map p).set (lb keys x) b = keys.map q := by
  obtain ⟨hl, he⟩ := lb_of_mem hs hx
  refine List.ext_getElem (by simp) fun j hj1 hj2 => ?_
  rw [List.length_map] at hj2
  rw [List.getElem_set, List.getElem_map]
  by_cases e : lb keys x = j
  · rw [if_pos e]
    subst e
    rw [List.getElem_map, he, h2]
  · rw [if_neg e, List.getElem_map, h1 _ (List.getElem_mem hj2)]
    intro e2
    rcases Nat.lt_or_ge (lb keys x) j with h | h
    · have := rises_get hs hl hj2 h
      omega
    · have := rises_get hs hj2 hl (by omega)
      omega
theorem pSigners_loop (keys data : List Int) (sigs : List Sg) (hk : ∀ x ∈ keys, isKey x = true) (hs : rises keys) (hkl : keys.length ≤ 12) (hd : isByte data) (hdl : data.length ≤ 4096) (hsl : sigs.length ≤ 24) : ∀ (d i : Nat), i + d = sigs.length →
    Ev (fun k => threshold_Signers.l0 k keys data (keys.map (hasSig data (sigs.take i))) sigs (sigs.length : Int) i) (if (sfAt keys.length sigs d i).1 = 0 then (signers keys data sigs, 0, 0) else ([], (sfAt keys.length sigs d i).1, (sfAt keys.length sigs d i).2)) := by
  intro d
  induction d with
  | zero =>
    intro i hi
    refine Ev.step (fun k => by simp only [threshold_Signers.l0]; rw [if_neg (by omega)]) ?_
    rw [List.take_of_length_le (by omega)]
    simp only [sfAt, if_true]
    have := pick_loop keys (hasSig data sigs) hkl keys.length 0 [] (by omega) (by simp)
    simpa [signers] using this
  | succ d ih =>
    intro i hi
    have hil : i < sigs.length := by omega
    refine Ev.step (fun k => by simp only [threshold_Signers.l0]; rw [if_pos (by omega), if_pos (by omega), if_pos (by omega), sIsKey, sIsDig, Option.bind_some, Option.bind_some]) ?_
    unfold sfAt
    rw [rdS_get sigs i hil]
    have bad : ∀ a b : Int, Ev (fun k => threshold_Signers.j1 k keys data (keys.map (hasSig data (sigs.take i))) i sigs (sigs.length : Int) i true a b) (([], 3, (keys.length : Int) + i) : List Int × Int × Int) := fun a b => by
      refine Ev.step (fun k => by simp only [threshold_Signers.j1]; rw [if_pos (by trivial), w64 (by omega) (by omega)]) (Ev.now _)
    by_cases h1 : isKey sigs[i].f0 = true
    · refine ev_if_pos h1 ?_
      by_cases h2 : isDig sigs[i].f1 = true
      · have hc : isKey sigs[i].f0 = true ∧ isDig sigs[i].f1 = true := ⟨h1, h2⟩
        simp only [if_pos hc]
        rw [h2]
        refine Ev.step (fun k => by simp only [threshold_Signers.j1]; rw [if_neg (by decide)]) ?_
        refine ev_bind (search_ev keys sigs[i].f0 hs (by omega)) ?_
        have si : wrap64 ((i : Int) + 1) = ((i + 1 : Nat) : Int) := succ_w (by omega)
        by_cases hm : sigs[i].f0 ∈ keys
        · rw [decide_eq_true hm]
          obtain ⟨hl, he⟩ := lb_of_mem hs hm
          refine ev_if_pos (by trivial) ?_
          refine ev_bind (verify_ev sigs[i].f0 data sigs[i].f1 hd) ?_
          refine ev_if_pos (by omega) (ev_if_pos (by rw [List.length_map]; omega) ?_)
          have e0 : rdOf false (keys.map (hasSig data (sigs.take i))) (lb keys sigs[i].f0 : Int) = hasSig data (sigs.take i) sigs[i].f0 := by
            rw [rdB_get _ _ (by rw [List.length_map]; exact hl), List.getElem_map, he]
          have ev : verifyRes sigs[i].f0 data sigs[i].f1 = (sgn sigs[i].f0 data == sigs[i].f1, 0, 0) := by
            have es : (signFault sigs[i].f0 data).1 = 0 := by
              unfold signFault
              rw [if_pos h1, if_pos (by omega)]
            unfold verifyRes
            rw [if_pos es, if_pos h2]
          rw [e0, ev, Int.toNat_natCast, si]
          have other : ∀ k ∈ keys, k ≠ sigs[i].f0 → hasSig data (sigs.take (i + 1)) k = hasSig data (sigs.take i) k := fun k _ hne => by
            unfold hasSig
            rw [take_any hil]
            have : isSig data k sigs[i] = false := by
              unfold isSig
              rw [decide_eq_false_iff_not]
              rintro ⟨h, _⟩
              exact hne h.symm
            rw [this, Bool.or_false]
          have this' : hasSig data (sigs.take (i + 1)) sigs[i].f0 = (hasSig data (sigs.take i) sigs[i].f0 || (sgn sigs[i].f0 data == sigs[i].f1)) := by
            unfold hasSig
            rw [take_any hil]
            congr 1
            unfold isSig
            rw [Bool.eq_iff_iff, decide_eq_true_eq, beq_iff_eq]
            exact ⟨fun h => h.2.symm, fun h => ⟨rfl, h.symm⟩⟩
          by_cases hp : hasSig data (sigs.take i) sigs[i].f0 = true
          · refine ev_if_pos hp ?_
            rw [mark_eq keys hs _ (hasSig data (sigs.take (i + 1))) _ hm true other (by rw [this', hp]; rfl)]
            exact ih (i + 1) (by omega)
          · refine ev_if_neg hp ?_
            rw [mark_eq keys hs _ (hasSig data (sigs.take (i + 1))) _ hm _ other (by rw [this']; simp only [Bool.not_eq_true] at hp; rw [hp, Bool.false_or])]
            exact ih (i + 1) (by omega)
        · rw [decide_eq_false hm]
          refine ev_if_neg (by simp) ?_
          have e : keys.map (hasSig data (sigs.take i)) = keys.map (hasSig data (sigs.take (i + 1))) := by
            refine List.map_congr_left fun k hkm => ?_
            unfold hasSig
            rw [take_any hil]
            have : isSig data k sigs[i] = false := by
              unfold isSig
              rw [decide_eq_false_iff_not]
              rintro ⟨h, _⟩
              exact hm (by rw [h]; exact hkm)
            rw [this, Bool.or_false]
          rw [si, e]
          exact ih (i + 1) (by omega)
      · have hc : ¬ (isKey sigs[i].f0 = true ∧ isDig sigs[i].f1 = true) := fun h => h2 h.2
        simp only [if_neg hc]
        have h2f : isDig sigs[i].f1 = false := by simpa using h2
        rw [h2f]
        exact bad _ _
    · have hc : ¬ (isKey sigs[i].f0 = true ∧ isDig sigs[i].f1 = true) := fun h => h1 h.1
      simp only [if_neg hc]
      exact ev_if_neg h1 (bad _ _)
theorem pSigners_ev (keys data : List Int) (sigs : List Sg) (hd : isByte data) : Ev (fun k => threshold_Signers.f k keys data sigs) (signersRes keys data sigs) := by
  unfold threshold_Signers.f signersRes signersFault
  refine ev_bind (pKeys_ev keys) ?_
  by_cases h : (keysFault keys).1 = 0
  · obtain ⟨e, hl, hk, hs⟩ := keysFault_ok h
    simp only [if_pos h]
    refine ev_if_neg (fun hb => (bad_iff _).1 hb e) ?_
    by_cases h2 : (data.length : Int) ≤ 4096
    · simp only [if_pos h2]
      refine ev_if_neg (by omega) ?_
      by_cases h3 : (sigs.length : Int) ≤ 24
      · simp only [if_pos h3]
        refine ev_if_neg (by omega) (ev_if_pos (by omega) (ev_if_pos (by omega) ?_))
        have := pSigners_loop keys data sigs hk hs (by omega) hd (by omega) (by omega) sigs.length 0 (by omega)
        have e1 : keys.map (hasSig data (sigs.take 0)) = List.replicate keys.length false := by
          rw [List.eq_replicate_iff]
          refine ⟨by simp, fun b hb => ?_⟩
          obtain ⟨k, _, rfl⟩ := List.mem_map.1 hb
          rfl
        rw [e1] at this
        exact this
      · simp only [if_neg h3]
        exact ev_if_pos (by omega) (Ev.now _)
    · simp only [if_neg h2]
      exact ev_if_pos (by omega) (Ev.now _)
  · simp only [if_neg h]
    exact ev_if_pos ((bad_iff _).2 fun e => h (by rw [e])) (Ev.now _)
end Go.Proofs.Ytnkonhplfldlmaa.Pure
