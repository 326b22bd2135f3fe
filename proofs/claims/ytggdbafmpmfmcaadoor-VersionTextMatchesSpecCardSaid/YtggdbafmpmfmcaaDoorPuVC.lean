/- Plain lemmas: the law's compare, sound versions, the successor. No condition but what each states. -/
import Derived.Test.YtggdbafmpmfmcaaDoorFf11
import Derived.Test.YtggdbafmpmfmcaaDoorFf16
import Derived.Test.YtggdbafmpmfmcaaDoorFf22
import Derived.Test.YtggdbafmpmfmcaaDoorFf33
import Derived.Test.YtggdbafmpmfmcaaDoorFn0
import Derived.Test.YtggdbafmpmfmcaaDoorFs0
import Derived.Test.YtggdbafmpmfmcaaDoorPuVB
set_option linter.unusedVariables false
set_option linter.unusedSimpArgs false
namespace Go.Proofs.YtggdbafmpmfmcaaDoor.Pure
open Go Go.RowKit Go.Proofs.YtggdbafmpmfmcaaDoor.Fn Go.Proofs.YtggdbafmpmfmcaaDoorW.PrintWords Go.Proofs.YtggdbafmpmfmcaaDoorW.PrintLast Go.Proofs.YtggdbafmpmfmcaaDoorW.PrintMore
def okV (a b c : Int) (p : List ByteArray) : Prop := (0 ≤ a ∧ a ≤ 1000000000) ∧ (0 ≤ b ∧ b ≤ 1000000000) ∧ (0 ≤ c ∧ c ≤ 1000000000) ∧ p.length ≤ 4 ∧ ∀ s ∈ p, identB s = true
theorem badAt_zero : ∀ (p : List ByteArray) (i : Nat), (badAt p i).1 = 0 → ∀ s ∈ p, identB s = true
  | [], _, _, s, hs => by cases hs
  | x :: p, i, h, s, hs => by
    unfold badAt at h
    split at h
    · rename_i hx
      rcases List.mem_cons.1 hs with e | e
      · exact e ▸ hx
      · exact badAt_zero p (i + 1) h s e
    · exact absurd h (by simp)
theorem badAt_ok : ∀ (p : List ByteArray) (i : Nat), (∀ s ∈ p, identB s = true) → badAt p i = (0, 0)
  | [], _, _ => rfl
  | x :: p, i, h => by
    unfold badAt
    rw [if_pos (h x (List.mem_cons_self ..))]
    exact badAt_ok p (i + 1) fun s hs => h s (List.mem_cons_of_mem _ hs)
theorem ok_of {a b c : Int} {p : List ByteArray} (h : (verFault a b c p).1 = 0) : okV a b c p := by
  unfold verFault at h
  by_cases ha : 0 ≤ a ∧ a ≤ 1000000000
  · rw [if_neg (Decidable.not_not.2 ha)] at h
    by_cases hb : 0 ≤ b ∧ b ≤ 1000000000
    · rw [if_neg (Decidable.not_not.2 hb)] at h
      by_cases hc : 0 ≤ c ∧ c ≤ 1000000000
      · rw [if_neg (Decidable.not_not.2 hc)] at h
        by_cases h4 : 4 < p.length
        · rw [if_pos h4] at h
          exact absurd h (by decide)
        · rw [if_neg h4] at h
          exact ⟨ha, hb, hc, by omega, badAt_zero p 0 h⟩
      · rw [if_pos hc] at h
        exact absurd h (by decide)
    · rw [if_pos hb] at h
      exact absurd h (by decide)
  · rw [if_pos ha] at h
    exact absurd h (by decide)
theorem of_ok {a b c : Int} {p : List ByteArray} (h : okV a b c p) : verFault a b c p = (0, 0) := by
  obtain ⟨ha, hb, hc, h4, hs⟩ := h
  unfold verFault
  rw [if_neg (Decidable.not_not.2 ha), if_neg (Decidable.not_not.2 hb), if_neg (Decidable.not_not.2 hc), if_neg (by omega)]
  exact badAt_ok p 0 hs
theorem fault_cases (a b c : Int) (p : List ByteArray) : okV a b c p ∧ verFault a b c p = (0, 0) ∨ (verFault a b c p).1 ≠ 0 := by
  by_cases h : (verFault a b c p).1 = 0
  · exact Or.inl ⟨ok_of h, of_ok (ok_of h)⟩
  · exact Or.inr h
theorem lCompare {a1 a2 a3 : Int} {p : List ByteArray} {b1 b2 b3 : Int} {q : List ByteArray} (ha : okV a1 a2 a3 p) (hb : okV b1 b2 b3 q) :
    Ev (fun k => changeforgelaw5_compare.f k a1 a2 a3 p b1 b2 b3 q) (verCmp a1 a2 a3 p b1 b2 b3 q) := by
  unfold changeforgelaw5_compare.f
  refine ev_bind (pCompare_ok a1 a2 a3 p b1 b2 b3 q (of_ok ha) (of_ok hb)) ?_
  exact Ev.now _
theorem preCmp_rng (p q : List ByteArray) : preCmp p q = -1 ∨ preCmp p q = 0 ∨ preCmp p q = 1 := pre_tot.rng p q
theorem id_zero (s : List UInt8) (h : 1 ≤ s.length) : idCmp [48] s ≤ 0 := by
  unfold idCmp
  have n0 : numL [48] = true := by decide
  rw [n0]
  cases hn : numL s with
  | false => simp
  | true =>
    simp only [and_self, if_true]
    match s, h, hn with
    | [c], _, hn =>
      simp only [List.length_singleton, icmp_self, ne_eq, not_true_eq_false, if_false]
      have hc : 48 ≤ c.toNat := by
        unfold numL at hn
        simp only [List.isEmpty_cons, Bool.not_false, List.all_cons, List.all_nil, Bool.and_true, Bool.true_and] at hn
        have := (dg_iff c).1 hn
        omega
      unfold bcmp
      split
      · decide
      · split
        · rename_i h2
          exfalso
          unfold Op.bytesLess at h2
          simp only [Bool.or_eq_true, Bool.and_eq_true, decide_eq_true_eq, beq_iff_eq, Op.bytesLess, Bool.false_eq_true, and_false, or_false] at h2
          have := UInt8.lt_iff_toNat_lt.1 h2
          have e : (48 : UInt8).toNat = 48 := rfl
          omega
        · decide
    | c :: d :: l, _, _ =>
      have : icmp (([48] : List UInt8).length : Int) ((c :: d :: l).length : Int) = -1 := by
        rw [icmp_lt]
        simp only [List.length_cons, List.length_nil]
        omega
      rw [this, if_pos (by decide)]
      decide
theorem pre_succ : ∀ (p q : List ByteArray), (∀ s ∈ q, identB s = true) → (preCmp p q = -1 ↔ preCmp (p ++ [⟨#[48]⟩]) q ≤ 0)
  | [], [], _ => by
    simp only [preCmp, List.nil_append]
    decide
  | [], s :: q, h => by
    have hs := h s (List.mem_cons_self ..)
    have hl : 1 ≤ s.data.toList.length := by
      unfold identB identL at hs
      simp only [Bool.and_eq_true, decide_eq_true_eq] at hs
      exact hs.1.1.1
    have hz := id_zero s.data.toList hl
    simp only [preCmp, List.nil_append]
    refine ⟨fun _ => ?_, fun _ => by first | trivial | rfl⟩
    show (if idCmp [48] s.data.toList ≠ 0 then idCmp [48] s.data.toList else preCmp [] q) ≤ 0
    split
    · exact hz
    · cases q with
      | nil => simp [preCmp]
      | cons t q => simp [preCmp]
  | a :: p, [], _ => by
    simp only [preCmp, List.cons_append]
    decide
  | a :: p, s :: q, h => by
    simp only [preCmp, List.cons_append]
    by_cases hz : idCmp a.data.toList s.data.toList = 0
    · rw [if_neg (Decidable.not_not.2 hz), if_neg (Decidable.not_not.2 hz)]
      exact pre_succ p q fun t ht => h t (List.mem_cons_of_mem _ ht)
    · rw [if_pos hz, if_pos hz]
      rcases id_tot.rng a.data.toList s.data.toList with e | e | e
      · rw [e]; decide
      · exact absurd e hz
      · rw [e]; decide
theorem icmp_rng (a b : Int) : icmp a b = -1 ∨ icmp a b = 0 ∨ icmp a b = 1 := icmp_tot.rng a b
/-- The successor's numbers and identifiers. -/
def nextV (c : Int) (p : List ByteArray) : Int × List ByteArray := if p.length = 0 then (c + 1, p ++ [⟨#[48]⟩]) else (c, p ++ [⟨#[48]⟩])
theorem succ_law {a b c : Int} {p : List ByteArray} {a' b' c' : Int} {q : List ByteArray} (hq : ∀ s ∈ q, identB s = true) :
    (verCmp a b c p a' b' c' q < 0 ↔ verCmp a b (nextV c p).1 (nextV c p).2 a' b' c' q ≤ 0) := by
  unfold verCmp
  by_cases h1 : a = a'
  · rw [if_neg (Decidable.not_not.2 h1), if_neg (Decidable.not_not.2 h1)]
    by_cases h2 : b = b'
    · rw [if_neg (Decidable.not_not.2 h2), if_neg (Decidable.not_not.2 h2)]
      by_cases hp : p.length = 0
      · rw [show nextV c p = (c + 1, p ++ [⟨#[48]⟩]) from if_pos hp]
        simp only [List.length_append, List.length_singleton, Nat.add_eq_zero_iff, Nat.one_ne_zero, and_false, if_false, false_and]
        obtain rfl : p = [] := List.eq_nil_of_length_eq_zero hp
        by_cases h3 : c + 1 = c'
        · rw [if_neg (Decidable.not_not.2 h3), if_pos (by omega : c ≠ c')]
          rw [show icmp c c' = -1 from icmp_lt.2 (by omega)]
          refine ⟨fun _ => ?_, fun _ => by decide⟩
          split
          · decide
          · rename_i hq0
            refine (pre_succ [] q hq).1 ?_
            cases q with
            | nil => exact absurd rfl hq0
            | cons t q => rfl
        · rw [if_pos h3]
          by_cases h4 : c = c'
          · rw [if_neg (Decidable.not_not.2 h4)]
            have e : icmp (c + 1) c' = 1 := by unfold icmp; rw [if_neg (by omega), if_pos (by omega)]
            rw [e]
            refine ⟨fun h => ?_, fun h => absurd h (by decide)⟩
            split at h
            · exact absurd h (by decide)
            · simp at h
          · rw [if_pos h4]
            unfold icmp
            by_cases h5 : c < c'
            · rw [if_pos h5, if_pos (by omega)]; decide
            · rw [if_neg h5, if_pos (by omega), if_neg (by omega), if_pos (by omega)]; decide
      · rw [show nextV c p = (c, p ++ [⟨#[48]⟩]) from if_neg hp]
        simp only [List.length_append, List.length_singleton, Nat.add_eq_zero_iff, Nat.one_ne_zero, and_false, if_false, false_and, hp]
        by_cases h3 : c = c'
        · rw [if_neg (Decidable.not_not.2 h3), if_neg (Decidable.not_not.2 h3)]
          split
          · decide
          · refine Iff.trans ?_ (pre_succ p q hq)
            rcases preCmp_rng p q with e | e | e <;> rw [e] <;> decide
        · rw [if_pos h3, if_pos h3]
          have := icmp_ne h3
          rcases icmp_rng c c' with e | e | e
          · rw [e]; decide
          · exact absurd e this
          · rw [e]; decide
    · rw [if_pos h2, if_pos h2]
      have := icmp_ne h2
      rcases icmp_rng b b' with e | e | e
      · rw [e]; decide
      · exact absurd e this
      · rw [e]; decide
  · rw [if_pos h1, if_pos h1]
    have := icmp_ne h1
    rcases icmp_rng a a' with e | e | e
    · rw [e]; decide
    · exact absurd e this
    · rw [e]; decide
theorem zero_ident : identB ⟨#[48]⟩ = true := by decide
theorem next_ids {c : Int} {p : List ByteArray} (h : ∀ s ∈ p, identB s = true) : ∀ s ∈ (nextV c p).2, identB s = true := by
  intro s hs
  unfold nextV at hs
  have hm : s ∈ p ++ [⟨#[48]⟩] := by split at hs <;> exact hs
  rcases List.mem_append.1 hm with h1 | h1
  · exact h s h1
  · rw [List.mem_singleton.1 h1]
    exact zero_ident
theorem pSucc {a b c : Int} {p : List ByteArray} (h : okV a b c p) :
    version_Successor.f a b c p = some (a, b, (nextV c p).1, (nextV c p).2, decide ((nextV c p).1 ≤ 1000000000 ∧ (nextV c p).2.length ≤ 4)) := by
  obtain ⟨ha, hb, hc, h4, hs⟩ := h
  unfold version_Successor.f version_Clone.f
  rw [if_pos (by omega)]
  simp only [Option.bind_some]
  unfold nextV
  by_cases hp : p.length = 0
  · rw [if_pos (by omega), if_pos hp, if_pos (by omega), w64 (by omega) (by omega)]
    by_cases hc' : c + 1 ≤ 1000000000
    · rw [if_pos hc']
      simp only [Option.some.injEq, Prod.mk.injEq, true_and, decide_eq_decide]
      omega
    · rw [if_neg hc']
      simp only [Option.some.injEq, Prod.mk.injEq, true_and]
      symm
      rw [decide_eq_false_iff_not]
      exact fun h => hc' h.1
  · rw [if_neg (by omega), if_neg hp, if_pos (by omega), if_pos hc.2]
    simp only [Option.some.injEq, Prod.mk.injEq, true_and, decide_eq_decide]
    omega
def nxtOk (c : Int) (p : List ByteArray) : Prop := (nextV c p).1 ≤ 1000000000 ∧ (nextV c p).2.length ≤ 4
instance (c : Int) (p : List ByteArray) : Decidable (nxtOk c p) := by unfold nxtOk; infer_instance
theorem next_ok {a b c : Int} {p : List ByteArray} (h : okV a b c p) (hn : nxtOk c p) : okV a b (nextV c p).1 (nextV c p).2 := by
  refine ⟨h.1, h.2.1, ⟨?_, hn.1⟩, hn.2, next_ids h.2.2.2.2⟩
  have := h.2.2.1
  unfold nextV
  split
  · show 0 ≤ c + 1; omega
  · exact this.1
theorem next_bad {a b c : Int} {p : List ByteArray} (hn : ¬ nxtOk c p) : (verFault a b (nextV c p).1 (nextV c p).2).1 ≠ 0 := fun h => hn ⟨(ok_of h).2.2.1.2, (ok_of h).2.2.2.1⟩
theorem pNext_ok {a b c : Int} {p : List ByteArray} (h : okV a b c p) (hn : nxtOk c p) : version_Next.f a b c p = some (a, b, (nextV c p).1, (nextV c p).2, 0, 0) := by
  simp only [version_Next.f, version_Validate.f, of_ok h, Option.bind_some]
  rw [if_neg (by decide), pSucc h]
  simp only [Option.bind_some]
  rw [if_pos (decide_eq_true (show (nextV c p).1 ≤ 1000000000 ∧ (nextV c p).2.length ≤ 4 from hn))]
theorem pNext_end {a b c : Int} {p : List ByteArray} (h : okV a b c p) (hn : ¬ nxtOk c p) : version_Next.f a b c p = some (0, 0, 0, [], 10, -1) := by
  simp only [version_Next.f, version_Validate.f, of_ok h, Option.bind_some]
  rw [if_neg (by decide), pSucc h]
  simp only [Option.bind_some]
  rw [if_neg (by rw [decide_eq_true_eq]; exact hn)]
theorem pNext_bad {a b c : Int} {p : List ByteArray} (h : (verFault a b c p).1 ≠ 0) : version_Next.f a b c p = some (0, 0, 0, [], verFault a b c p) := by
  simp only [version_Next.f, version_Validate.f, Option.bind_some]
  rw [if_pos (by simp [h])]
end Go.Proofs.YtggdbafmpmfmcaaDoor.Pure
