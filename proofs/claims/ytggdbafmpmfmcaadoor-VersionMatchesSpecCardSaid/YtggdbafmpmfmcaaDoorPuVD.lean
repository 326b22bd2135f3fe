/- Plain lemmas: the reference's order of versions is the plain one, at sound versions. No condition but what each states. -/
import Derived.Test.YtggdbafmpmfmcaaDoorFf14
import Derived.Test.YtggdbafmpmfmcaaDoorFf15
import Derived.Test.YtggdbafmpmfmcaaDoorFf32
import Derived.Test.YtggdbafmpmfmcaaDoorFn0
import Derived.Test.YtggdbafmpmfmcaaDoorFs0
import Derived.Test.YtggdbafmpmfmcaaDoorPuVC
set_option linter.unusedVariables false
set_option linter.unusedSimpArgs false
namespace Go.Proofs.YtggdbafmpmfmcaaDoor.Pure
open Go Go.RowKit Go.Proofs.YtggdbafmpmfmcaaDoor.Fn Go.Proofs.YtggdbafmpmfmcaaDoorW.PrintWords Go.Proofs.YtggdbafmpmfmcaaDoorW.PrintLast Go.Proofs.YtggdbafmpmfmcaaDoorW.PrintMore
theorem fold_acc : ∀ (l : List UInt8) (acc : Nat), l.foldl (fun n c => n * 10 + (c.toNat - 48)) acc = acc * 10 ^ l.length + natL l
  | [], acc => by simp [natL]
  | c :: l, acc => by
    unfold natL
    simp only [List.foldl_cons, List.length_cons]
    rw [fold_acc l, fold_acc l (0 * 10 + (c.toNat - 48)), Nat.pow_succ, Nat.add_mul, Nat.add_mul]
    have : acc * 10 * 10 ^ l.length = acc * (10 ^ l.length * 10) := by rw [Nat.mul_assoc, Nat.mul_comm 10]
    omega
theorem natL_cons (c : UInt8) (l : List UInt8) : natL (c :: l) = (c.toNat - 48) * 10 ^ l.length + natL l := by
  have := fold_acc l (c.toNat - 48)
  unfold natL at this ⊢
  simp only [List.foldl_cons, Nat.zero_mul, Nat.zero_add]
  exact this
theorem dgB_iff (c : UInt8) : dgB c = true ↔ 48 ≤ c.toNat ∧ c.toNat ≤ 57 := by
  unfold dgB
  simp only [Bool.and_eq_true, decide_eq_true_eq]
theorem natL_lt : ∀ (l : List UInt8), l.all dgB = true → natL l < 10 ^ l.length
  | [], _ => by decide
  | c :: l, h => by
    rw [List.all_cons, Bool.and_eq_true] at h
    have hd := (dgB_iff c).1 h.1
    have hl := natL_lt l h.2
    rw [natL_cons, List.length_cons, Nat.pow_succ]
    have : (c.toNat - 48) * 10 ^ l.length ≤ 9 * 10 ^ l.length := Nat.mul_le_mul_right _ (by omega)
    omega
theorem bcmp_cons (x y : UInt8) (a b : List UInt8) : bcmp (x :: a) (y :: b) = if x = y then bcmp a b else if x < y then -1 else 1 := by
  unfold bcmp
  have e1 : Op.bytesLess (x :: a) (y :: b) = (decide (x < y) || (x == y && Op.bytesLess a b)) := rfl
  have e2 : Op.bytesLess (y :: b) (x :: a) = (decide (y < x) || (y == x && Op.bytesLess b a)) := rfl
  rw [e1, e2]
  by_cases h : x = y
  · subst h
    have n : ¬ x < x := fun h => absurd (UInt8.lt_iff_toNat_lt.1 h) (by omega)
    simp [n]
  · have hb : (x == y) = false := beq_eq_false_iff_ne.2 h
    have hb2 : (y == x) = false := beq_eq_false_iff_ne.2 fun e => h e.symm
    rw [hb, hb2, if_neg h]
    simp only [Bool.false_and, Bool.or_false, decide_eq_true_eq]
    by_cases hl : x < y
    · rw [if_pos hl, if_pos hl]
    · rw [if_neg hl, if_neg hl, if_pos]
      refine Decidable.byContradiction fun hg => h ?_
      refine UInt8.toNat_inj.1 ?_
      have a1 := mt UInt8.lt_iff_toNat_lt.2 hl
      have a2 := mt UInt8.lt_iff_toNat_lt.2 hg
      omega
theorem icmp_nat_lt {a b : Nat} (h : a < b) : icmp (a : Int) (b : Int) = -1 := icmp_lt.2 (by omega)
theorem icmp_nat_gt {a b : Nat} (h : b < a) : icmp (a : Int) (b : Int) = 1 := by unfold icmp; rw [if_neg (by omega), if_pos (by omega)]
theorem icmp_add (m a b : Int) : icmp (m + a) (m + b) = icmp a b := by
  unfold icmp
  by_cases h : a < b
  · rw [if_pos (show m + a < m + b from by omega), if_pos h]
  · by_cases h2 : a > b
    · rw [if_neg (show ¬ m + a < m + b from by omega), if_pos (show m + a > m + b from by omega), if_neg h, if_pos h2]
    · rw [if_neg (show ¬ m + a < m + b from by omega), if_neg (show ¬ m + a > m + b from by omega), if_neg h, if_neg h2]
theorem val_cmp : ∀ (a b : List UInt8), a.length = b.length → a.all dgB = true → b.all dgB = true → bcmp a b = icmp (natL a : Int) (natL b : Int)
  | [], [], _, _, _ => rfl
  | [], y :: b, h, _, _ => by cases h
  | x :: a, [], h, _, _ => by cases h
  | x :: a, y :: b, h, ha, hb => by
    simp only [List.length_cons, Nat.add_right_cancel_iff] at h
    rw [List.all_cons, Bool.and_eq_true] at ha hb
    have hx := (dgB_iff x).1 ha.1
    have hy := (dgB_iff y).1 hb.1
    have la := natL_lt a ha.2
    have lb := natL_lt b hb.2
    rw [bcmp_cons, natL_cons, natL_cons, h]
    rw [h] at la
    by_cases e : x = y
    · rw [if_pos e, val_cmp a b h ha.2 hb.2, e]
      rw [Int.natCast_add, Int.natCast_add, icmp_add]
    · rw [if_neg e]
      have hne : x.toNat ≠ y.toNat := fun h => e (UInt8.toNat_inj.1 h)
      by_cases l : x < y
      · rw [if_pos l]
        have := UInt8.lt_iff_toNat_lt.1 l
        have : (x.toNat - 48 + 1) * 10 ^ b.length ≤ (y.toNat - 48) * 10 ^ b.length := Nat.mul_le_mul_right _ (by omega)
        rw [Nat.add_mul] at this
        exact (icmp_nat_lt (by omega)).symm
      · rw [if_neg l]
        have := mt UInt8.lt_iff_toNat_lt.2 l
        have : (y.toNat - 48 + 1) * 10 ^ b.length ≤ (x.toNat - 48) * 10 ^ b.length := Nat.mul_le_mul_right _ (by omega)
        rw [Nat.add_mul] at this
        exact (icmp_nat_gt (by omega)).symm
theorem numL_iff {l : List UInt8} : numL l = true ↔ l ≠ [] ∧ l.all dgB = true := by
  unfold numL
  cases l <;> simp
theorem can_ge {l : List UInt8} (hn : numL l = true) (hc : canL l = true) (h2 : 2 ≤ l.length) : 10 ^ (l.length - 1) ≤ natL l := by
  match l, h2 with
  | c :: m, h2 =>
    have hl : m ≠ [] := fun e => by rw [e] at h2; simp at h2
    rw [natL_cons, List.length_cons, Nat.add_sub_cancel]
    have hd := (dgB_iff c).1 (by have := (numL_iff.1 hn).2; rw [List.all_cons, Bool.and_eq_true] at this; exact this.1)
    unfold canL at hc
    have e1 : ((c :: m) == [(48 : UInt8)]) = false := by rw [beq_eq_false_iff_ne]; intro e; exact hl (List.cons.inj e).2
    rw [e1, Bool.false_or, List.head?_cons, bne_iff_ne] at hc
    have h48 : c.toNat ≠ 48 := fun e => hc (by rw [UInt8.toNat_inj.1 (e.trans (rfl : (48 : UInt8).toNat = 48).symm)])
    have : 1 * 10 ^ m.length ≤ (c.toNat - 48) * 10 ^ m.length := Nat.mul_le_mul_right _ (by omega)
    omega
theorem num_cmp {a b : List UInt8} (na : numL a = true) (ca : canL a = true) (nb : numL b = true) (cb : canL b = true) :
    (if icmp a.length b.length ≠ 0 then icmp a.length b.length else bcmp a b) = icmp (natL a : Int) (natL b : Int) := by
  have la := natL_lt a (numL_iff.1 na).2
  have lb := natL_lt b (numL_iff.1 nb).2
  have pa : 1 ≤ a.length := by cases a with | nil => exact absurd rfl (numL_iff.1 na).1 | cons _ _ => simp
  have pb : 1 ≤ b.length := by cases b with | nil => exact absurd rfl (numL_iff.1 nb).1 | cons _ _ => simp
  by_cases h : a.length = b.length
  · rw [h, icmp_self, if_neg (by simp)]
    exact val_cmp a b h (numL_iff.1 na).2 (numL_iff.1 nb).2
  · rw [if_pos (icmp_ne (by omega))]
    by_cases hl : a.length < b.length
    · rw [icmp_nat_lt hl]
      have := can_ge nb cb (by omega)
      have : 10 ^ a.length ≤ 10 ^ (b.length - 1) := Nat.pow_le_pow_right (by decide) (by omega)
      exact (icmp_nat_lt (by omega)).symm
    · rw [icmp_nat_gt (by omega)]
      have := can_ge na ca (by omega)
      have : 10 ^ b.length ≤ 10 ^ (a.length - 1) := Nat.pow_le_pow_right (by decide) (by omega)
      exact (icmp_nat_gt (by omega)).symm
theorem value_loop (s : ByteArray) (h8 : s.size ≤ 8) (hd : s.data.toList.all dgB = true) : ∀ (d i acc : Nat), i + d = s.size → acc < 10 ^ i →
    Ev (fun k => changeforgeref5_value.l0 k s (acc : Int) i) (((s.data.toList.drop i).foldl (fun n c => n * 10 + (c.toNat - 48)) acc : Nat) : Int) := by
  intro d
  induction d with
  | zero =>
    intro i acc hi _
    refine Ev.step (f := fun _ => some (acc : Int)) (fun k => by simp only [changeforgeref5_value.l0]; rw [if_neg (by omega)]) ?_
    rw [List.drop_of_length_le (by rw [chars_len]; omega)]
    exact Ev.now _
  | succ d ih =>
    intro i acc hi hac
    have hl : i < s.data.toList.length := by rw [chars_len]; omega
    have hb := bt_eq s i hl
    have hdg := (dgB_iff _).1 (List.all_eq_true.1 hd _ (List.getElem_mem hl))
    rw [List.drop_eq_getElem_cons hl, List.foldl_cons]
    have p8 : 10 ^ i ≤ 10 ^ 7 := Nat.pow_le_pow_right (by decide) (by omega)
    refine Ev.step (f := fun k => changeforgeref5_value.l0 k s ((acc * 10 + (s.data.toList[i].toNat - 48) : Nat) : Int) ((i + 1 : Nat) : Int)) (fun k => by
      simp only [changeforgeref5_value.l0]
      rw [if_pos (by omega), if_pos (by omega), hb, wrS (by omega) (by omega), w64 (n := 10 * (acc : Int)) (by omega) (by omega), w64 (by omega) (by omega)]
      congr 1
      omega) ?_
    exact ih (i + 1) _ (by omega) (by rw [Nat.pow_succ]; omega)
theorem rValue (s : ByteArray) (h8 : s.size ≤ 8) (hd : s.data.toList.all dgB = true) : Ev (fun k => changeforgeref5_value.f k s) ((natL s.data.toList : Nat) : Int) := by
  have := value_loop s h8 hd s.size 0 0 (by omega) (by decide)
  rw [List.drop_zero] at this
  exact this
theorem rids_loop (a b : ByteArray) (ha : a.size ≤ 8) (hb : b.size ≤ 8) : ∀ (d i : Nat), i + d = a.size → i ≤ b.size →
    Ev (fun k => changeforgeref5_identifiers.l0 k a b i) (bcmp (a.data.toList.drop i) (b.data.toList.drop i)) := by
  have jf : ∀ i : Int, Ev (fun k => changeforgeref5_identifiers.j2 k a b i false) (icmp a.size b.size) := fun i => Ev.step (f := fun _ => some (icmp a.size b.size)) (fun k => by simp only [changeforgeref5_identifiers.j2]; rw [if_neg (by decide), sign3_eq]; rfl) (Ev.now _)
  intro d
  induction d with
  | zero =>
    intro i hi hib
    rw [List.drop_of_length_le (by rw [chars_len]; omega)]
    refine Ev.step (fun k => by simp only [changeforgeref5_identifiers.l0]; rw [if_neg (by omega)]) ?_
    have e : bcmp [] (b.data.toList.drop i) = icmp a.size b.size := by
      by_cases h : i = b.size
      · rw [List.drop_of_length_le (by rw [chars_len]; omega), show (a.size : Int) = b.size from by omega, icmp_self]
        rfl
      · rw [List.drop_eq_getElem_cons (by rw [chars_len]; omega), icmp_nat_lt (by omega)]
        rfl
    rw [e]
    exact jf _
  | succ d ih =>
    intro i hi hib
    have hla : i < a.data.toList.length := by rw [chars_len]; omega
    have hba := bt_eq a i hla
    rw [List.drop_eq_getElem_cons hla]
    refine Ev.step (fun k => by simp only [changeforgeref5_identifiers.l0]; rw [if_pos (by omega)]) ?_
    by_cases h : i = b.size
    · rw [List.drop_of_length_le (l := b.data.toList) (by rw [chars_len]; omega), decide_eq_false (by omega)]
      have e : bcmp (a.data.toList[i] :: a.data.toList.drop (i + 1)) [] = icmp a.size b.size := by
        rw [icmp_nat_gt (by omega)]
        rfl
      rw [e]
      exact jf _
    · have hlb : i < b.data.toList.length := by rw [chars_len]; omega
      have hbb := bt_eq b i hlb
      rw [List.drop_eq_getElem_cons hlb, decide_eq_true (by omega), bcmp_cons]
      have t1 := a.data.toList[i].toNat_lt
      have t2 := b.data.toList[i].toNat_lt
      refine Ev.step (f := fun k => if a.data.toList[i] = b.data.toList[i] then changeforgeref5_identifiers.l0 k a b ((i + 1 : Nat) : Int) else some (if a.data.toList[i] < b.data.toList[i] then -1 else 1)) (fun k => by
        simp only [changeforgeref5_identifiers.j2]
        rw [if_pos trivial, if_pos (by omega), if_pos (by omega), if_pos (by omega), hba, hbb, wrS (by omega) (by omega), w64 (by omega) (by omega), w64 (by omega) (by omega), sign3_eq]
        by_cases e : a.data.toList[i] = b.data.toList[i]
        · rw [if_pos e, if_pos (by rw [e])]
          rfl
        · have hne : a.data.toList[i].toNat ≠ b.data.toList[i].toNat := fun h => e (UInt8.toNat_inj.1 h)
          rw [if_neg e, if_neg (by omega)]
          simp only [Option.bind_some, Option.some.injEq]
          by_cases l : a.data.toList[i] < b.data.toList[i]
          · rw [if_pos l]
            exact icmp_nat_lt (UInt8.lt_iff_toNat_lt.1 l)
          · rw [if_neg l]
            have := mt UInt8.lt_iff_toNat_lt.2 l
            exact icmp_nat_gt (by omega)) ?_
      by_cases e : a.data.toList[i] = b.data.toList[i]
      · simp only [if_pos e]
        exact ih (i + 1) (by omega) (by omega)
      · simp only [if_neg e]
        exact Ev.now _
theorem ident_facts {s : ByteArray} (h : identB s = true) : 1 ≤ s.size ∧ s.size ≤ 8 ∧ (numL s.data.toList = true → canL s.data.toList = true) := by
  unfold identB identL at h
  simp only [Bool.and_eq_true, decide_eq_true_eq, Bool.or_eq_true, Bool.not_eq_true'] at h
  have := chars_len s
  refine ⟨by omega, by omega, fun hn => ?_⟩
  rcases h.2 with e | e
  · rw [e] at hn; cases hn
  · exact e
theorem rIds {a b : ByteArray} (ha : identB a = true) (hb : identB b = true) : Ev (fun k => changeforgeref5_identifiers.f k a b) (idCmp a.data.toList b.data.toList) := by
  obtain ⟨ha1, ha8, hac⟩ := ident_facts ha
  obtain ⟨hb1, hb8, hbc⟩ := ident_facts hb
  unfold changeforgeref5_identifiers.f idCmp
  have lp := rids_loop a b ha8 hb8 a.size 0 (by omega) (by omega)
  rw [List.drop_zero, List.drop_zero] at lp
  refine ev_bind (rNumeric a (by omega)) ?_
  cases hna : numL a.data.toList with
  | true =>
    simp only [if_true]
    refine ev_bind (rNumeric b (by omega)) ?_
    cases hnb : numL b.data.toList with
    | true =>
      simp only [and_self, if_true]
      refine Ev.step (fun k => by simp only [changeforgeref5_identifiers.j0]; rw [if_pos trivial]) ?_
      refine ev_bind (rValue a ha8 (numL_iff.1 hna).2) ?_
      refine ev_bind (rValue b hb8 (numL_iff.1 hnb).2) ?_
      simp only [sign3_eq, Option.bind_some]
      rw [num_cmp hna (hac hna) hnb (hbc hnb)]
      exact Ev.now _
    | false =>
      simp only [Bool.false_eq_true, and_false, if_false, if_true]
      refine Ev.step (fun k => by simp only [changeforgeref5_identifiers.j0]; rw [if_neg (by decide)]) ?_
      refine ev_bind (rNumeric a (by omega)) ?_
      simp only [hna, if_true]
      exact Ev.now _
  | false =>
    simp only [Bool.false_eq_true, false_and, if_false]
    refine Ev.step (fun k => by simp only [changeforgeref5_identifiers.j0]; rw [if_neg (by decide)]) ?_
    refine ev_bind (rNumeric a (by omega)) ?_
    simp only [hna, Bool.false_eq_true, if_false]
    refine ev_bind (rNumeric b (by omega)) ?_
    cases hnb : numL b.data.toList with
    | true =>
      simp only [if_true]
      exact Ev.now _
    | false =>
      simp only [Bool.false_eq_true, if_false]
      exact lp
theorem rpre_loop (a1 a2 a3 : Int) (p : List ByteArray) (b1 b2 b3 : Int) (q : List ByteArray) (hp : p.length ≤ 4) (hq : q.length ≤ 4) (ip : ∀ s ∈ p, identB s = true) (iq : ∀ s ∈ q, identB s = true) : ∀ (d i : Nat), i + d = p.length → i ≤ q.length →
    Ev (fun k => changeforgeref5_VersionOrder.l0 k i a1 a2 a3 p b1 b2 b3 q) (preCmp (p.drop i) (q.drop i)) := by
  have jf : ∀ i : Int, Ev (fun k => changeforgeref5_VersionOrder.j2 k i false a1 a2 a3 p b1 b2 b3 q) (icmp p.length q.length) := fun i => Ev.step (f := fun _ => some (icmp p.length q.length)) (fun k => by simp only [changeforgeref5_VersionOrder.j2]; rw [if_neg (by decide), sign3_eq]; rfl) (Ev.now _)
  intro d
  induction d with
  | zero =>
    intro i hi hiq
    rw [List.drop_of_length_le (l := p) (by omega)]
    refine Ev.step (fun k => by simp only [changeforgeref5_VersionOrder.l0]; rw [if_neg (by omega)]) ?_
    have e : preCmp [] (q.drop i) = icmp p.length q.length := by
      by_cases h : i = q.length
      · rw [List.drop_of_length_le (by omega), show (p.length : Int) = q.length from by omega, icmp_self]
        rfl
      · rw [List.drop_eq_getElem_cons (by omega), icmp_nat_lt (by omega)]
        rfl
    rw [e]
    exact jf _
  | succ d ih =>
    intro i hi hiq
    rw [List.drop_eq_getElem_cons (by omega : i < p.length)]
    refine Ev.step (fun k => by simp only [changeforgeref5_VersionOrder.l0]; rw [if_pos (by omega)]) ?_
    by_cases h : i = q.length
    · rw [List.drop_of_length_le (l := q) (by omega), decide_eq_false (by omega)]
      have e : preCmp (p[i] :: p.drop (i + 1)) [] = icmp p.length q.length := by
        rw [icmp_nat_gt (by omega)]
        rfl
      rw [e]
      exact jf _
    · rw [List.drop_eq_getElem_cons (by omega : i < q.length), decide_eq_true (by omega)]
      refine Ev.step (f := fun k => (changeforgeref5_identifiers.f k p[i] q[i]).bind fun t111 => (if t111 = 0 then changeforgeref5_VersionOrder.l0 k ((i + 1 : Nat) : Int) a1 a2 a3 p b1 b2 b3 q else some t111)) (fun k => by
        simp only [changeforgeref5_VersionOrder.j2]
        rw [if_pos trivial, if_pos (by omega), if_pos (by omega), if_pos (by omega), rdOf_get _ _ _ (by omega), rdOf_get _ _ _ (by omega), wrS (by omega) (by omega)]
        rfl) ?_
      refine ev_bind (rIds (ip _ (List.getElem_mem _)) (iq _ (List.getElem_mem _))) ?_
      unfold preCmp
      by_cases e : idCmp p[i].data.toList q[i].data.toList = 0
      · simp only [if_pos e, e, ne_eq, not_true_eq_false, if_false]
        exact ih (i + 1) (by omega) (by omega)
      · simp only [if_neg e, ne_eq, e, not_false_eq_true, if_true]
        exact Ev.now _
theorem rOrder {a1 a2 a3 : Int} {p : List ByteArray} {b1 b2 b3 : Int} {q : List ByteArray} (hA : okV a1 a2 a3 p) (hB : okV b1 b2 b3 q) :
    Ev (fun k => changeforgeref5_VersionOrder.f k a1 a2 a3 p b1 b2 b3 q) (verCmp a1 a2 a3 p b1 b2 b3 q) := by
  have hp4 := hA.2.2.2.1
  have hq4 := hB.2.2.2.1
  unfold changeforgeref5_VersionOrder.f verCmp
  by_cases h1 : a1 = b1
  · simp only [h1, if_true, ne_eq, not_true_eq_false, if_false]
    by_cases h2 : a2 = b2
    · simp only [h2, if_true, ne_eq, not_true_eq_false, if_false]
      by_cases h3 : a3 = b3
      · simp only [h3, if_true, ne_eq, not_true_eq_false, if_false]
        have jt : Ev (fun k => changeforgeref5_VersionOrder.j0 k true b1 b2 b3 p b1 b2 b3 q) (wrap64 (icmp q.length p.length * icmp (wrap64 ((p.length : Int) + q.length)) 0)) := Ev.step (f := fun _ => some _) (fun k => by simp only [changeforgeref5_VersionOrder.j0]; rw [if_pos trivial, sign3_eq, sign3_eq]; rfl) (Ev.now _)
        rw [w64 (n := (p.length : Int) + q.length) (by omega) (by omega)] at jt
        by_cases hp : p.length = 0
        · simp only [if_pos (show (p.length : Int) = 0 from by omega)]
          by_cases hq : q.length = 0
          · rw [if_pos ⟨hp, hq⟩]
            rw [hp, hq, show wrap64 (icmp ((0 : Nat) : Int) ((0 : Nat) : Int) * icmp (((0 : Nat) : Int) + ((0 : Nat) : Int)) 0) = 0 from by kernel_rfl] at jt
            exact jt
          · rw [if_neg (fun h => hq h.2), if_pos hp]
            rw [hp, icmp_nat_gt (by omega : 0 < q.length), show icmp (((0 : Nat) : Int) + q.length) 0 = 1 from by unfold icmp; rw [if_neg (by omega), if_pos (by omega)], show wrap64 (1 * 1) = 1 from by kernel_rfl] at jt
            exact jt
        · simp only [if_neg (show ¬ (p.length : Int) = 0 from by omega)]
          rw [if_neg (fun h => hp h.1), if_neg hp]
          by_cases hq : q.length = 0
          · rw [if_pos hq, show ((q.length : Int) == 0) = true from by rw [beq_iff_eq]; omega]
            rw [hq, icmp_nat_lt (by omega : 0 < p.length), show icmp ((p.length : Int) + ((0 : Nat) : Int)) 0 = 1 from by unfold icmp; rw [if_neg (by omega), if_pos (by omega)], show wrap64 (-1 * 1) = -1 from by kernel_rfl] at jt
            exact jt
          · rw [if_neg hq, show ((q.length : Int) == 0) = false from by rw [beq_eq_false_iff_ne]; omega]
            refine Ev.step (fun k => by simp only [changeforgeref5_VersionOrder.j0]; rw [if_neg (by decide)]) ?_
            have := rpre_loop b1 b2 b3 p b1 b2 b3 q hp4 hq4 hA.2.2.2.2 hB.2.2.2.2 p.length 0 (by omega) (by omega)
            rw [List.drop_zero, List.drop_zero] at this
            exact this
      · simp only [if_neg h3, ne_eq, h3, not_false_eq_true, if_true, sign3_eq, Option.bind_some]
        exact Ev.now _
    · simp only [if_neg h2, ne_eq, h2, not_false_eq_true, if_true, sign3_eq, Option.bind_some]
      exact Ev.now _
  · simp only [if_neg h1, ne_eq, h1, not_false_eq_true, if_true, sign3_eq, Option.bind_some]
    exact Ev.now _
theorem rNext {a b c : Int} {p : List ByteArray} (h : okV a b c p) : changeforgeref5_VersionNext.f a b c p = some (a, b, (nextV c p).1, (nextV c p).2) := by
  have h4 := h.2.2.2.1
  have hc := h.2.2.1
  unfold changeforgeref5_VersionNext.f nextV
  by_cases hp : p.length = 0
  · rw [if_pos (by omega), if_pos hp, if_pos (by simp; omega)]
    simp only [List.nil_append, Option.bind_some]
    rw [if_pos (by omega), w64 (by omega) (by omega)]
  · rw [if_neg (by omega), if_neg hp, if_pos (by simp; omega)]
    simp only [List.nil_append, Option.bind_some]
    rw [if_pos (by omega)]
end Go.Proofs.YtggdbafmpmfmcaaDoor.Pure
