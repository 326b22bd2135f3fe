/- Plain lemmas: numerals: their numbers and their order. No condition but what each states. -/
import Derived.Test.YtggdbafmpmfmcaaDoorFn0
import Derived.Test.YtggdbafmpmfmcaaDoorPuVC
set_option linter.unusedVariables false
set_option linter.unusedSimpArgs false
namespace Go.Proofs.YtggdbafmpmfmcaaDoor.Pure
open Go Go.RowKit Go.Proofs.YtggdbafmpmfmcaaDoor.Fn Go.Proofs.YtggdbafmpmfmcaaDoorW.PrintWords Go.Proofs.YtggdbafmpmfmcaaDoorW.PrintLast Go.Proofs.YtggdbafmpmfmcaaDoorW.PrintMore
theorem fold_acc : ∀ (l : List UInt8) (acc : Nat), l.foldl (fun n c => n * 10 + (c.toNat - 48)) acc = acc * 10 ^ l.length + natL l
  | [], acc => by simp [natL]
  | c :: l, acc => by
    unfold natL
    simp only [List.foldl_cons, List.length_cons]
    rw [fold_acc l, fold_acc l (0 * 10 + (c.toNat - 48)), Nat.pow_succ, Nat.add_mul, Nat.add_mul]
    have : acc * 10 * 10 ^ l.length = acc * (10 ^ l.length * 10) := by rw [Nat.mul_assoc, Nat.mul_comm 10]
    omega
theorem natL_cons (c : UInt8) (l : List UInt8) : natL (c :: l) = (c.toNat - 48) * 10 ^ l.length + natL l := by
  have := fold_acc l (c.toNat - 48)
  unfold natL at this ⊢
  simp only [List.foldl_cons, Nat.zero_mul, Nat.zero_add]
  exact this
theorem dgB_iff (c : UInt8) : dgB c = true ↔ 48 ≤ c.toNat ∧ c.toNat ≤ 57 := by
  unfold dgB
  simp only [Bool.and_eq_true, decide_eq_true_eq]
theorem natL_lt : ∀ (l : List UInt8), l.all dgB = true → natL l < 10 ^ l.length
  | [], _ => by decide
  | c :: l, h => by
    rw [List.all_cons, Bool.and_eq_true] at h
    have hd := (dgB_iff c).1 h.1
    have hl := natL_lt l h.2
    rw [natL_cons, List.length_cons, Nat.pow_succ]
    have : (c.toNat - 48) * 10 ^ l.length ≤ 9 * 10 ^ l.length := Nat.mul_le_mul_right _ (by omega)
    omega
theorem bcmp_cons (x y : UInt8) (a b : List UInt8) : bcmp (x :: a) (y :: b) = if x = y then bcmp a b else if x < y then -1 else 1 := by
  unfold bcmp
  have e1 : Op.bytesLess (x :: a) (y :: b) = (decide (x < y) || (x == y && Op.bytesLess a b)) := rfl
  have e2 : Op.bytesLess (y :: b) (x :: a) = (decide (y < x) || (y == x && Op.bytesLess b a)) := rfl
  rw [e1, e2]
  by_cases h : x = y
  · subst h
    have n : ¬ x < x := fun h => absurd (UInt8.lt_iff_toNat_lt.1 h) (by omega)
    simp [n]
  · have hb : (x == y) = false := beq_eq_false_iff_ne.2 h
    have hb2 : (y == x) = false := beq_eq_false_iff_ne.2 fun e => h e.symm
    rw [hb, hb2, if_neg h]
    simp only [Bool.false_and, Bool.or_false, decide_eq_true_eq]
    by_cases hl : x < y
    · rw [if_pos hl, if_pos hl]
    · rw [if_neg hl, if_neg hl, if_pos]
      refine Decidable.byContradiction fun hg => h ?_
      refine UInt8.toNat_inj.1 ?_
      have a1 := mt UInt8.lt_iff_toNat_lt.2 hl
      have a2 := mt UInt8.lt_iff_toNat_lt.2 hg
      omega
theorem icmp_nat_lt {a b : Nat} (h : a < b) : icmp (a : Int) (b : Int) = -1 := icmp_lt.2 (by omega)
theorem icmp_nat_gt {a b : Nat} (h : b < a) : icmp (a : Int) (b : Int) = 1 := by unfold icmp; rw [if_neg (by omega), if_pos (by omega)]
theorem icmp_add (m a b : Int) : icmp (m + a) (m + b) = icmp a b := by
  unfold icmp
  by_cases h : a < b
  · rw [if_pos (show m + a < m + b from by omega), if_pos h]
  · by_cases h2 : a > b
    · rw [if_neg (show ¬ m + a < m + b from by omega), if_pos (show m + a > m + b from by omega), if_neg h, if_pos h2]
    · rw [if_neg (show ¬ m + a < m + b from by omega), if_neg (show ¬ m + a > m + b from by omega), if_neg h, if_neg h2]
theorem val_cmp : ∀ (a b : List UInt8), a.length = b.length → a.all dgB = true → b.all dgB = true → bcmp a b = icmp (natL a : Int) (natL b : Int)
  | [], [], _, _, _ => rfl
  | [], y :: b, h, _, _ => by cases h
  | x :: a, [], h, _, _ => by cases h
  | x :: a, y :: b, h, ha, hb => by
    simp only [List.length_cons, Nat.add_right_cancel_iff] at h
    rw [List.all_cons, Bool.and_eq_true] at ha hb
    have hx := (dgB_iff x).1 ha.1
    have hy := (dgB_iff y).1 hb.1
    have la := natL_lt a ha.2
    have lb := natL_lt b hb.2
    rw [bcmp_cons, natL_cons, natL_cons, h]
    rw [h] at la
    by_cases e : x = y
    · rw [if_pos e, val_cmp a b h ha.2 hb.2, e]
      rw [Int.natCast_add, Int.natCast_add, icmp_add]
    · rw [if_neg e]
      have hne : x.toNat ≠ y.toNat := fun h => e (UInt8.toNat_inj.1 h)
      by_cases l : x < y
      · rw [if_pos l]
        have := UInt8.lt_iff_toNat_lt.1 l
        have : (x.toNat - 48 + 1) * 10 ^ b.length ≤ (y.toNat - 48) * 10 ^ b.length := Nat.mul_le_mul_right _ (by omega)
        rw [Nat.add_mul] at this
        exact (icmp_nat_lt (by omega)).symm
      · rw [if_neg l]
        have := mt UInt8.lt_iff_toNat_lt.2 l
        have : (y.toNat - 48 + 1) * 10 ^ b.length ≤ (x.toNat - 48) * 10 ^ b.length := Nat.mul_le_mul_right _ (by omega)
        rw [Nat.add_mul] at this
        exact (icmp_nat_gt (by omega)).symm
theorem numL_iff {l : List UInt8} : numL l = true ↔ l ≠ [] ∧ l.all dgB = true := by
  unfold numL
  cases l <;> simp
theorem can_ge {l : List UInt8} (hn : numL l = true) (hc : canL l = true) (h2 : 2 ≤ l.length) : 10 ^ (l.length - 1) ≤ natL l := by
  match l, h2 with
  | c :: m, h2 =>
    have hl : m ≠ [] := fun e => by rw [e] at h2; simp at h2
    rw [natL_cons, List.length_cons, Nat.add_sub_cancel]
    have hd := (dgB_iff c).1 (by have := (numL_iff.1 hn).2; rw [List.all_cons, Bool.and_eq_true] at this; exact this.1)
    unfold canL at hc
    have e1 : ((c :: m) == [(48 : UInt8)]) = false := by rw [beq_eq_false_iff_ne]; intro e; exact hl (List.cons.inj e).2
    rw [e1, Bool.false_or, List.head?_cons, bne_iff_ne] at hc
    have h48 : c.toNat ≠ 48 := fun e => hc (by rw [UInt8.toNat_inj.1 (e.trans (rfl : (48 : UInt8).toNat = 48).symm)])
    have : 1 * 10 ^ m.length ≤ (c.toNat - 48) * 10 ^ m.length := Nat.mul_le_mul_right _ (by omega)
    omega
theorem num_cmp {a b : List UInt8} (na : numL a = true) (ca : canL a = true) (nb : numL b = true) (cb : canL b = true) :
    (if icmp a.length b.length ≠ 0 then icmp a.length b.length else bcmp a b) = icmp (natL a : Int) (natL b : Int) := by
  have la := natL_lt a (numL_iff.1 na).2
  have lb := natL_lt b (numL_iff.1 nb).2
  have pa : 1 ≤ a.length := by cases a with | nil => exact absurd rfl (numL_iff.1 na).1 | cons _ _ => simp
  have pb : 1 ≤ b.length := by cases b with | nil => exact absurd rfl (numL_iff.1 nb).1 | cons _ _ => simp
  by_cases h : a.length = b.length
  · rw [h, icmp_self, if_neg (by simp)]
    exact val_cmp a b h (numL_iff.1 na).2 (numL_iff.1 nb).2
  · rw [if_pos (icmp_ne (by omega))]
    by_cases hl : a.length < b.length
    · rw [icmp_nat_lt hl]
      have := can_ge nb cb (by omega)
      have : 10 ^ a.length ≤ 10 ^ (b.length - 1) := Nat.pow_le_pow_right (by decide) (by omega)
      exact (icmp_nat_lt (by omega)).symm
    · rw [icmp_nat_gt (by omega)]
      have := can_ge na ca (by omega)
      have : 10 ^ b.length ≤ 10 ^ (a.length - 1) := Nat.pow_le_pow_right (by decide) (by omega)
      exact (icmp_nat_gt (by omega)).symm
theorem ident_facts {s : ByteArray} (h : identB s = true) : 1 ≤ s.size ∧ s.size ≤ 8 ∧ (numL s.data.toList = true → canL s.data.toList = true) := by
  unfold identB identL at h
  simp only [Bool.and_eq_true, decide_eq_true_eq, Bool.or_eq_true, Bool.not_eq_true'] at h
  have := chars_len s
  refine ⟨by omega, by omega, fun hn => ?_⟩
  rcases h.2 with e | e
  · rw [e] at hn; cases hn
  · exact e
end Go.Proofs.YtggdbafmpmfmcaaDoor.Pure
