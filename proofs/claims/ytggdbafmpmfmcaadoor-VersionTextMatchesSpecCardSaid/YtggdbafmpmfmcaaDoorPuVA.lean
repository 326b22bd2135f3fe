/- Plain lemmas: the order of package version, and the small functions of the reference (numerals, identifiers, faults), answer as the plain words say. No condition but what each states. -/
import Derived.Test.YtggdbafmpmfmcaaDoorFf10
import Derived.Test.YtggdbafmpmfmcaaDoorFf11
import Derived.Test.YtggdbafmpmfmcaaDoorFf13
import Derived.Test.YtggdbafmpmfmcaaDoorFf28
import Derived.Test.YtggdbafmpmfmcaaDoorFf30
import Derived.Test.YtggdbafmpmfmcaaDoorFn0
import Derived.Test.YtggdbafmpmfmcaaDoorFs0
import Derived.Test.YtggdbafmpmfmcaaDoorVerI
import Derived.Test.YtggdbafmpmfmcaaDoorVerF
import Derived.Test.YtggdbafmpmfmcaaDoorPuVOrd
set_option linter.unusedVariables false
set_option linter.unusedSimpArgs false
namespace Go.Proofs.YtggdbafmpmfmcaaDoor.Pure
open Go Go.RowKit Go.Proofs.YtggdbafmpmfmcaaDoor.Fn Go.Proofs.YtggdbafmpmfmcaaDoorW.PrintWords Go.Proofs.YtggdbafmpmfmcaaDoorW.PrintLast Go.Proofs.YtggdbafmpmfmcaaDoorW.PrintMore
theorem w64 {n : Int} (h0 : -9223372036854775808 ≤ n) (h1 : n ≤ 9223372036854775807) : wrap64 n = n := by unfold wrap64; omega
theorem icmp_self (a : Int) : icmp a a = 0 := icmp_tot.self a
theorem icmp_ne {a b : Int} (h : a ≠ b) : icmp a b ≠ 0 := fun e => h ((icmp_tot.eq a b).1 e)
theorem pOrder (a1 a2 a3 : Int) (p : List ByteArray) (b1 b2 b3 : Int) (q : List ByteArray) : Ev (fun k => version_Order.f k a1 a2 a3 p b1 b2 b3 q) (verCmp a1 a2 a3 p b1 b2 b3 q) := by
  refine Ev.congr (f := fun k => (cmp_Or_int.f k [icmp a1 b1, icmp a2 b2, icmp a3 b3]).bind fun t109 => (if t109 = 0 then (if (p.length : Int) = 0 then (version_Order.j0 k ((q.length : Int) == 0) a1 a2 a3 p b1 b2 b3 q) else (version_Order.j0 k false a1 a2 a3 p b1 b2 b3 q)) else (some t109))) (fun k => by simp only [version_Order.f, pCmpInt, Option.bind_some]) ?_
  refine Ev.bind (pOr3 _ _ _) ?_
  unfold verCmp
  by_cases h1 : a1 = b1
  · subst h1
    by_cases h2 : a2 = b2
    · subst h2
      by_cases h3 : a3 = b3
      · subst h3
        simp only [icmp_self, ne_eq, not_true_eq_false, if_false, if_true]
        by_cases hp : p.length = 0
        · simp only [if_pos (show (p.length : Int) = 0 from by omega)]
          by_cases hq : q.length = 0
          · rw [if_pos ⟨hp, hq⟩]
            exact Ev.step (f := fun _ => some 0) (fun k => by simp only [version_Order.j0]; rw [if_pos (by simp [hq])]) (Ev.now _)
          · rw [if_neg (fun h => hq h.2), if_pos hp]
            exact Ev.step (f := fun _ => some 1) (fun k => by simp only [version_Order.j0]; rw [if_neg (by simp; simpa using hq), if_pos (by omega)]) (Ev.now _)
        · simp only [if_neg (show ¬ (p.length : Int) = 0 from by omega)]
          rw [if_neg (fun h => hp h.1), if_neg hp]
          by_cases hq : q.length = 0
          · rw [if_pos hq]
            exact Ev.step (f := fun _ => some (-1)) (fun k => by simp only [version_Order.j0]; rw [if_neg (by decide), if_neg (by omega), if_pos (by omega)]) (Ev.now _)
          · rw [if_neg hq]
            exact Ev.step (f := fun _ => some (preCmp p q)) (fun k => by simp only [version_Order.j0]; rw [if_neg (by decide), if_neg (by omega), if_neg (by omega)]; rfl) (Ev.now _)
      · have := icmp_ne h3
        simp only [icmp_self, ne_eq, not_true_eq_false, if_false, if_pos h3, h3, not_false_eq_true, if_true, this]
        exact Ev.now _
    · have := icmp_ne h2
      simp only [icmp_self, ne_eq, not_true_eq_false, if_false, h2, not_false_eq_true, if_true, this]
      exact Ev.now _
  · have := icmp_ne h1
    simp only [ne_eq, h1, not_false_eq_true, if_true, this, if_false]
    exact Ev.now _
theorem pCompare_ok (a1 a2 a3 : Int) (p : List ByteArray) (b1 b2 b3 : Int) (q : List ByteArray) (ha : verFault a1 a2 a3 p = (0, 0)) (hb : verFault b1 b2 b3 q = (0, 0)) :
    Ev (fun k => version_Compare.f k a1 a2 a3 p b1 b2 b3 q) (verCmp a1 a2 a3 p b1 b2 b3 q, 0, 0) := by
  refine Ev.congr (f := fun k => (version_Order.f k a1 a2 a3 p b1 b2 b3 q).bind fun t => some (t, 0, 0)) (fun k => by
    simp only [version_Compare.f, version_Validate.f, ha, hb, Option.bind_some]
    rfl) ?_
  exact Ev.bind (pOrder a1 a2 a3 p b1 b2 b3 q) (Ev.now _)
theorem pCompare_a (k : Nat) (a1 a2 a3 : Int) (p : List ByteArray) (b1 b2 b3 : Int) (q : List ByteArray) (ha : verFault a1 a2 a3 p ≠ (0, 0)) :
    version_Compare.f k a1 a2 a3 p b1 b2 b3 q = some (0, verFault a1 a2 a3 p) := by
  simp only [version_Compare.f, version_Validate.f, Option.bind_some]
  rw [if_pos]
  rcases hh : verFault a1 a2 a3 p with ⟨x, y⟩
  rw [hh] at ha
  by_cases hx : x = 0
  · by_cases hy : y = 0
    · exact absurd (by rw [hx, hy]) ha
    · simp [hy]
  · simp [hx]
theorem pCompare_b (k : Nat) (a1 a2 a3 : Int) (p : List ByteArray) (b1 b2 b3 : Int) (q : List ByteArray) (ha : verFault a1 a2 a3 p = (0, 0)) (hb : verFault b1 b2 b3 q ≠ (0, 0)) :
    version_Compare.f k a1 a2 a3 p b1 b2 b3 q = some (0, (verFault b1 b2 b3 q).1, -2) := by
  simp only [version_Compare.f, version_Validate.f, ha, Option.bind_some]
  rw [if_neg (by decide), if_pos]
  rcases hh : verFault b1 b2 b3 q with ⟨x, y⟩
  rw [hh] at hb
  by_cases hx : x = 0
  · by_cases hy : y = 0
    · exact absurd (by rw [hx, hy]) hb
    · simp [hy]
  · simp [hx]
theorem in_eq (a b c : Int) : changeforgeref5_in.f a b c = some (decide (b ≤ a ∧ a ≤ c)) := by
  unfold changeforgeref5_in.f
  by_cases h : a ≥ b
  · rw [if_pos h]
    congr 1
    rw [decide_eq_decide]
    omega
  · rw [if_neg h]
    congr 1
    symm
    rw [decide_eq_false_iff_not]
    omega
theorem lin_eq (a b c : Int) : changeforgelaw5_in.f a b c = some (decide (b ≤ a ∧ a ≤ c)) := by
  unfold changeforgelaw5_in.f
  by_cases h : a ≥ b
  · rw [if_pos h]
    congr 1
    rw [decide_eq_decide]
    omega
  · rw [if_neg h]
    congr 1
    symm
    rw [decide_eq_false_iff_not]
    omega
theorem sign3_eq (a b : Int) : changeforgeref5_Sign3.f a b = some (icmp a b) := by
  unfold changeforgeref5_Sign3.f icmp
  split
  · rfl
  · split <;> rfl
theorem dg_iff (c : UInt8) : dgB c = true ↔ 48 ≤ (c.toNat : Int) ∧ (c.toNat : Int) ≤ 57 := by
  unfold dgB
  simp only [Bool.and_eq_true, decide_eq_true_eq]
  omega
theorem num_loop (s : ByteArray) (hs : s.size ≤ 140737488351232) : ∀ (d i : Nat), i + d = s.size → Ev (fun k => changeforgeref5_Numeric.l0 k s i) ((s.data.toList.drop i).all dgB && decide ((s.size : Int) > 0)) := by
  intro d
  induction d with
  | zero =>
    intro i hi
    refine Ev.step (f := fun _ => some (decide ((s.size : Int) > 0))) (fun k => by simp only [changeforgeref5_Numeric.l0]; rw [if_neg (by omega)]) ?_
    rw [List.drop_of_length_le (by rw [chars_len]; omega), List.all_nil, Bool.true_and]
    exact Ev.now _
  | succ d ih =>
    intro i hi
    have hl : i < s.data.toList.length := by rw [chars_len]; omega
    have hb := bt_eq s i hl
    rw [List.drop_eq_getElem_cons hl, List.all_cons]
    cases hc : dgB s.data.toList[i] with
    | true =>
      have hd := (dg_iff _).1 hc
      rw [Bool.true_and]
      refine Ev.step (f := fun k => changeforgeref5_Numeric.l0 k s ((i + 1 : Nat) : Int)) (fun k => by
        simp only [changeforgeref5_Numeric.l0]
        rw [if_pos (by omega), if_pos (by omega), hb, if_neg (by omega), if_neg (by omega), wrS (by omega) (by omega)]
        rfl) ?_
      exact ih (i + 1) (by omega)
    | false =>
      rw [Bool.false_and, Bool.false_and]
      have hd : ¬ (48 ≤ (s.data.toList[i].toNat : Int) ∧ (s.data.toList[i].toNat : Int) ≤ 57) := fun h => by
        rw [(dg_iff _).2 h] at hc
        cases hc
      refine Ev.step (f := fun _ => some false) (fun k => by
        simp only [changeforgeref5_Numeric.l0]
        rw [if_pos (by omega), if_pos (by omega), hb]
        split
        · rfl
        · rw [if_pos (by omega)]) (Ev.now _)
theorem rNumeric (s : ByteArray) (hs : s.size ≤ 140737488351232) : Ev (fun k => changeforgeref5_Numeric.f k s) (numL s.data.toList) := by
  have h := num_loop s hs s.size 0 (by omega)
  have e : ((s.data.toList.drop 0).all dgB && decide ((s.size : Int) > 0)) = numL s.data.toList := by
    unfold numL
    rw [List.drop_zero, Bool.and_comm]
    congr 1
    have := chars_len s
    cases hl : s.data.toList with
    | nil => rw [hl] at this; simp at this; simp [← this]
    | cons x l => rw [hl] at this; simp at this; simp; omega
  rw [e] at h
  exact h
theorem rident_loop (s : ByteArray) (h8 : s.size ≤ 8) : ∀ (d i : Nat), i + d = s.size → Ev (fun k => changeforgeref5_Identifier.l0 k s i) ((s.data.toList.drop i).all idcB) := by
  intro d
  induction d with
  | zero =>
    intro i hi
    refine Ev.step (f := fun _ => some true) (fun k => by simp only [changeforgeref5_Identifier.l0]; rw [if_neg (by omega)]) ?_
    rw [List.drop_of_length_le (by rw [chars_len]; omega), List.all_nil]
    exact Ev.now _
  | succ d ih =>
    intro i hi
    have hl : i < s.data.toList.length := by rw [chars_len]; omega
    have hb := bt_eq s i hl
    have hlt : (s.data.toList[i].toNat : Int) < 256 := by
      have := s.data.toList[i].toNat_lt
      omega
    rw [List.drop_eq_getElem_cons hl, List.all_cons]
    refine Ev.step (f := fun k => if idcP (s.data.toList[i].toNat : Int) then changeforgeref5_Identifier.l0 k s ((i + 1 : Nat) : Int) else some false) (fun k => by
      simp only [changeforgeref5_Identifier.l0]
      rw [if_pos (by omega), if_pos (by omega), hb, w64 (by omega) (by omega), wrS (by omega) (by omega)]
      simp only [in_eq, Option.bind_some, decide_eq_true_eq]
      rw [show ((i + 1 : Nat) : Int) = (i : Int) + 1 from by omega]
      generalize (s.data.toList[i].toNat : Int) = b
      generalize changeforgeref5_Identifier.l0 k s ((i : Int) + 1) = X
      by_cases c1 : 48 ≤ b ∧ b ≤ 57
      · rw [if_pos c1, if_pos (show idcP b from Or.inl c1)]
      · rw [if_neg c1]
        by_cases c2 : 97 ≤ b ∧ b ≤ 122
        · rw [if_pos c2, if_pos (show idcP b from Or.inr (Or.inl c2))]
        · rw [if_neg c2]
          by_cases c3 : 65 ≤ b ∧ b ≤ 90
          · rw [if_pos c3, if_pos (show idcP b from Or.inr (Or.inr (Or.inl c3)))]
          · rw [if_neg c3]
            by_cases c4 : b = 45
            · rw [if_pos c4, if_pos (show idcP b from Or.inr (Or.inr (Or.inr c4)))]
            · rw [if_neg c4, if_neg (show ¬ idcP b from by unfold idcP; omega)]) ?_
    cases hc : idcB s.data.toList[i] with
    | true =>
      simp only [if_pos ((idcP_iff _).2 hc), Bool.true_and]
      exact ih (i + 1) (by omega)
    | false =>
      have hn : ¬ idcP (s.data.toList[i].toNat : Int) := fun h => by
        rw [(idcP_iff _).1 h] at hc
        cases hc
      simp only [if_neg hn, Bool.false_and]
      exact Ev.now _
theorem rIdent (s : ByteArray) : Ev (fun k => changeforgeref5_Identifier.f k s) (identB s) := by
  have hlen := chars_len s
  unfold identB identL
  by_cases hz : 1 ≤ (s.size : Int) ∧ (s.size : Int) ≤ 8
  · refine Ev.congr (f := fun k => (changeforgeref5_Numeric.f k s).bind fun t102 => (if t102 = true then (if (s.size : Int) > 1 then (if 0 < (s.size : Int) then (changeforgeref5_Identifier.j0 k s ((bt s 0) == 48)) else (none)) else (changeforgeref5_Identifier.j0 k s false)) else (changeforgeref5_Identifier.j0 k s false))) (fun k => by
      simp only [changeforgeref5_Identifier.f, in_eq, Option.bind_some, decide_eq_true hz, if_true]) ?_
    refine Ev.bind (rNumeric s (by omega)) ?_
    have loop := rident_loop s (by omega) s.size 0 (by omega)
    rw [List.drop_zero] at loop
    rw [decide_eq_true (by omega : 1 ≤ s.data.toList.length), decide_eq_true (by omega : s.data.toList.length ≤ 8), Bool.true_and, Bool.true_and]
    have jf : Ev (fun k => changeforgeref5_Identifier.j0 k s false) (s.data.toList.all idcB) := Ev.step (fun k => by simp only [changeforgeref5_Identifier.j0]; rw [if_neg (by decide)]; rfl) loop
    have jt : Ev (fun k => changeforgeref5_Identifier.j0 k s true) false := Ev.step (f := fun _ => some false) (fun k => by simp only [changeforgeref5_Identifier.j0]; rfl) (Ev.now _)
    cases hn : numL s.data.toList with
    | false => simpa using jf
    | true =>
      simp only [if_true, Bool.not_true, Bool.false_or]
      obtain ⟨x, l, hs⟩ : ∃ x l, s.data.toList = x :: l := by
        cases hs : s.data.toList with
        | nil => rw [hs] at hlen; simp only [List.length_nil] at hlen; omega
        | cons x l => exact ⟨x, l, rfl⟩
      have hb : bt s 0 = (x.toNat : Int) := by
        refine (bt_eq s 0 (by omega)).trans ?_
        simp only [hs, List.getElem_cons_zero]
      have hbe : (bt s 0 == 48) = (x == 48) := by
        rw [hb]
        by_cases hx : x = 48
        · subst hx; rfl
        · have : x.toNat ≠ 48 := fun hn => hx (UInt8.toNat_inj.1 hn)
          rw [beq_eq_false_iff_ne.2 hx, beq_eq_false_iff_ne]
          omega
      by_cases h1 : (s.size : Int) > 1
      · simp only [if_pos h1, if_pos (by omega : 0 < (s.size : Int)), hbe]
        unfold canL
        rw [hs]
        have hl1 : l ≠ [] := fun e => by rw [hs, e] at hlen; simp at hlen; omega
        have e1 : ((x :: l) == [(48 : UInt8)]) = false := by rw [beq_eq_false_iff_ne]; intro e; exact hl1 (List.cons.inj e).2
        rw [e1, Bool.false_or, List.head?_cons]
        by_cases hx : x = 48
        · subst hx
          simpa using jt
        · rw [beq_eq_false_iff_ne.2 hx, bne_iff_ne.2 (fun e => hx (Option.some.inj e)), Bool.and_true, ← hs]
          exact jf
      · simp only [if_neg h1]
        have hl1 : l = [] := by
          cases l with
          | nil => rfl
          | cons y m => rw [hs] at hlen; simp at hlen; omega
        have : canL s.data.toList = true := by
          unfold canL
          rw [hs, hl1]
          by_cases hx : x = 48
          · subst hx; rfl
          · simp [hx]
        rw [this, Bool.and_true]
        exact jf
  · refine Ev.congr (f := fun k => changeforgeref5_Identifier.j0 k s true) (fun k => by
      simp only [changeforgeref5_Identifier.f, in_eq, Option.bind_some, decide_eq_false hz]
      rfl) ?_
    have e : (decide (1 ≤ s.data.toList.length) && decide (s.data.toList.length ≤ 8)) = false := by
      rw [Bool.and_eq_false_iff, decide_eq_false_iff_not, decide_eq_false_iff_not]
      omega
    rw [e, Bool.false_and, Bool.false_and]
    exact Ev.step (f := fun _ => some false) (fun k => by simp only [changeforgeref5_Identifier.j0]; rfl) (Ev.now _)
theorem rdOf_get {α : Type} (d : α) (xs : List α) (i : Nat) (h : i < xs.length) : rdOf d xs (i : Int) = xs[i] := by
  unfold rdOf
  rw [List.getD_eq_getElem?_getD, Int.toNat_natCast, List.getElem?_eq_getElem h]
  rfl
theorem rfault_loop (a b c : Int) (p : List ByteArray) (h4 : p.length ≤ 4) : ∀ (d i : Nat), i + d = p.length → Ev (fun k => changeforgeref5_VersionFault.l0 k i a b c p) (badAt (p.drop i) i) := by
  intro d
  induction d with
  | zero =>
    intro i hi
    refine Ev.step (f := fun _ => some (0, 0)) (fun k => by simp only [changeforgeref5_VersionFault.l0]; rw [if_neg (by omega)]) ?_
    rw [List.drop_of_length_le (by omega)]
    exact Ev.now _
  | succ d ih =>
    intro i hi
    rw [List.drop_eq_getElem_cons (by omega)]
    refine Ev.step (f := fun k => (changeforgeref5_Identifier.f k p[i]).bind fun t115 => (if t115 = true then (changeforgeref5_VersionFault.l0 k ((i + 1 : Nat) : Int) a b c p) else (some (5, (i : Int))))) (fun k => by
      simp only [changeforgeref5_VersionFault.l0]
      rw [if_pos (by omega), if_pos (by omega), rdOf_get _ _ _ (by omega), wrS (by omega) (by omega)]
      rfl) ?_
    refine Ev.bind (rIdent p[i]) ?_
    unfold badAt
    cases hc : identB p[i] with
    | true =>
      simp only [if_true]
      exact ih (i + 1) (by omega)
    | false =>
      simp only [Bool.false_eq_true, if_false]
      exact Ev.now _
theorem rFault (a b c : Int) (p : List ByteArray) : Ev (fun k => changeforgeref5_VersionFault.f k a b c p) (verFault a b c p) := by
  unfold verFault
  by_cases ha : 0 ≤ a ∧ a ≤ 1000000000
  · by_cases hb : 0 ≤ b ∧ b ≤ 1000000000
    · by_cases hc : 0 ≤ c ∧ c ≤ 1000000000
      · rw [if_neg (Decidable.not_not.2 ha), if_neg (Decidable.not_not.2 hb), if_neg (Decidable.not_not.2 hc)]
        by_cases h4 : 4 < p.length
        · rw [if_pos h4]
          refine Ev.congr (f := fun _ => some (2, -1)) (fun k => ?_) (Ev.now _)
          simp only [changeforgeref5_VersionFault.f, in_eq, Option.bind_some, decide_eq_true ha, decide_eq_true hb, decide_eq_true hc, if_true]
          rw [if_pos (by omega)]
          rfl
        · rw [if_neg h4]
          refine Ev.congr (f := fun k => changeforgeref5_VersionFault.l0 k 0 a b c p) (fun k => ?_) ?_
          · simp only [changeforgeref5_VersionFault.f, in_eq, Option.bind_some, decide_eq_true ha, decide_eq_true hb, decide_eq_true hc, if_true]
            rw [if_neg (by omega)]
          · have := rfault_loop a b c p (by omega) p.length 0 (by omega)
            rw [List.drop_zero] at this
            exact this
      · rw [if_neg (Decidable.not_not.2 ha), if_neg (Decidable.not_not.2 hb), if_pos hc]
        refine Ev.congr (f := fun _ => some (3, 2)) (fun k => ?_) (Ev.now _)
        simp only [changeforgeref5_VersionFault.f, in_eq, Option.bind_some, decide_eq_true ha, decide_eq_true hb, decide_eq_false hc, if_true]
        rfl
    · rw [if_neg (Decidable.not_not.2 ha), if_pos hb]
      refine Ev.congr (f := fun _ => some (3, 1)) (fun k => ?_) (Ev.now _)
      simp only [changeforgeref5_VersionFault.f, in_eq, Option.bind_some, decide_eq_true ha, decide_eq_false hb, if_true]
      rfl
  · rw [if_pos ha]
    refine Ev.congr (f := fun _ => some (3, 0)) (fun k => ?_) (Ev.now _)
    simp only [changeforgeref5_VersionFault.f, in_eq, Option.bind_some, decide_eq_false ha]
    rfl
end Go.Proofs.YtggdbafmpmfmcaaDoor.Pure
