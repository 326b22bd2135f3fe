/- The printed small functions of package version (digits, identifiers) answer as the plain words say. No condition but what each states (own work). -/
import Derived.Test.YtggdbafmpmfmcaaDoorFf29
import Derived.Test.YtggdbafmpmfmcaaDoorFf45
import Derived.Test.YtggdbafmpmfmcaaDoorFf47
import Derived.Test.YtggdbafmpmfmcaaDoorFf58
import Derived.Test.YtggdbafmpmfmcaaDoorFn0
import Derived.Test.YtggdbafmpmfmcaaDoorFs0
import Derived.Test.YtggdbafmpmfmcaaDoorVer
set_option linter.unusedVariables false
set_option linter.unusedSimpArgs false
namespace Go.Proofs.YtggdbafmpmfmcaaDoor.Fn
open Go Go.RowKit Go.Proofs.YtggdbafmpmfmcaaDoorW.PrintWords Go.Proofs.YtggdbafmpmfmcaaDoorW.PrintLast Go.Proofs.YtggdbafmpmfmcaaDoorW.PrintMore
theorem wrS {n : Int} (h0 : 0 ≤ n) (h1 : n ≤ 9223372036854775806) : wrap64 (n + 1) = n + 1 := by unfold wrap64; omega
theorem pIsDigits (s : ByteArray) : version_isDigits.f s = some (numL s.data.toList) := by
  unfold version_isDigits.f strings_ContainsFunc.f numL
  rw [chars_eq]
  by_cases h : s.data.toList = []
  · rw [if_pos h, h]
    rfl
  · rw [if_neg h]
    simp only [Option.bind_some, Bool.not_not, Option.some.injEq]
    cases hs : s.data.toList with
    | nil => exact absurd hs h
    | cons x l => rfl
theorem pIsCanonical (s : ByteArray) (h : s.data.toList ≠ []) : version_isCanonical.f s = some (canL s.data.toList) := by
  unfold version_isCanonical.f canL
  rw [chars_eq]
  have hl : 0 < s.data.toList.length := by
    cases hs : s.data.toList with
    | nil => exact absurd hs h
    | cons x l => simp
  have hz : 0 < s.size := by rw [← chars_len]; exact hl
  have hb := bt_eq s 0 hl
  by_cases h0 : s.data.toList = [48]
  · rw [if_pos h0, h0]
    rfl
  · rw [if_neg h0, if_pos (by omega)]
    congr 1
    obtain ⟨x, l, hs⟩ : ∃ x l, s.data.toList = x :: l := by
      cases hs : s.data.toList with
      | nil => exact absurd hs h
      | cons x l => exact ⟨x, l, rfl⟩
    have e : bt s 0 = (x.toNat : Int) := by
      refine hb.trans ?_
      simp only [hs, List.getElem_cons_zero]
    rw [e, hs]
    rw [hs] at h0
    have e1 : ((x :: l) == [(48 : UInt8)]) = false := by rw [beq_eq_false_iff_ne]; exact h0
    rw [e1, Bool.false_or, List.head?_cons]
    by_cases hx : x = 48
    · subst hx
      rfl
    · have hn : x.toNat ≠ 48 := fun hn => hx (UInt8.toNat_inj.1 hn)
      rw [bne_iff_ne.2 (by omega : (x.toNat : Int) ≠ 48), Eq.comm, bne_iff_ne]
      intro hh
      exact hx (Option.some.inj hh)
def idcP (b : Int) : Prop := (48 ≤ b ∧ b ≤ 57) ∨ (97 ≤ b ∧ b ≤ 122) ∨ (65 ≤ b ∧ b ≤ 90) ∨ b = 45
instance (b : Int) : Decidable (idcP b) := by unfold idcP; infer_instance
theorem idcP_iff (c : UInt8) : idcP (c.toNat : Int) ↔ idcB c = true := by
  unfold idcP idcB dgB
  simp only [Bool.or_eq_true, Bool.and_eq_true, decide_eq_true_eq]
  omega
theorem ident_round (k : Nat) (s : ByteArray) (i : Nat) (h : i < s.size) (h8 : s.size ≤ 8) :
    version_isIdentifier.l0 (k + 1) s (s.size : Int) i = if idcP (bt s i) then version_isIdentifier.l0 k s (s.size : Int) ((i + 1 : Nat) : Int) else some false := by
  simp only [version_isIdentifier.l0]
  rw [if_pos (by omega), if_pos (by omega), if_pos (by omega), wrS (by omega) (by omega)]
  rw [show ((i + 1 : Nat) : Int) = (i : Int) + 1 from by omega]
  generalize bt s i = b
  generalize version_isIdentifier.l0 k s (s.size : Int) ((i : Int) + 1) = X
  by_cases hP : idcP b
  · rw [if_pos hP]
    unfold idcP at hP
    repeat' split
    all_goals first | rfl | omega
  · rw [if_neg hP]
    unfold idcP at hP
    repeat' split
    all_goals first | rfl | omega
theorem ident_loop (s : ByteArray) (h8 : s.size ≤ 8) : ∀ (d i : Nat), i + d = s.size → Ev (fun k => version_isIdentifier.l0 k s (s.size : Int) i) ((s.data.toList.drop i).all idcB && (!numL s.data.toList || canL s.data.toList)) := by
  intro d
  induction d with
  | zero =>
    intro i hi
    refine Ev.step (f := fun k => (version_isDigits.f s).bind fun t101 => (if t101 = true then ((version_isCanonical.f s).bind fun t102 => (some t102)) else (some true))) (fun k => by simp only [version_isIdentifier.l0]; rw [if_neg (by omega)]) ?_
    rw [List.drop_of_length_le (by rw [chars_len]; omega), List.all_nil, Bool.true_and, pIsDigits]
    simp only [Option.bind_some]
    cases hn : numL s.data.toList with
    | false => exact Ev.now _
    | true =>
      rw [pIsCanonical s (fun e => by rw [e] at hn; cases hn)]
      exact Ev.now _
  | succ d ih =>
    intro i hi
    have hl : i < s.data.toList.length := by rw [chars_len]; omega
    have hb := bt_eq s i hl
    refine Ev.step (fun k => ident_round k s i (by omega) h8) ?_
    rw [List.drop_eq_getElem_cons hl, List.all_cons, hb]
    cases hc : idcB s.data.toList[i] with
    | true =>
      simp only [if_pos ((idcP_iff _).2 hc), Bool.true_and]
      exact ih (i + 1) (by omega)
    | false =>
      have hn : ¬ idcP (s.data.toList[i].toNat : Int) := fun h => by
        rw [(idcP_iff _).1 h] at hc
        cases hc
      simp only [if_neg hn, Bool.false_and]
      exact Ev.now _
theorem pIdent (s : ByteArray) : Ev (fun k => version_isIdentifier.f k s) (identB s) := by
  have hlen := chars_len s
  unfold identB identL
  by_cases h0 : s.data.toList = []
  · refine Ev.congr (fun k => by unfold version_isIdentifier.f; rw [chars_eq, if_pos h0]) ?_
    rw [h0]
    exact Ev.step (f := fun _ => some false) (fun k => by simp only [version_isIdentifier.j0]; rfl) (Ev.now _)
  · have hl : 1 ≤ s.data.toList.length := by
      cases hs : s.data.toList with
      | nil => exact absurd hs h0
      | cons x l => simp
    refine Ev.congr (fun k => by unfold version_isIdentifier.f; rw [chars_eq, if_neg h0]) ?_
    by_cases h8 : s.size ≤ 8
    · rw [decide_eq_true hl, decide_eq_true (by omega : s.data.toList.length ≤ 8), Bool.true_and, Bool.true_and, decide_eq_false (by omega : ¬ (s.size : Int) > 8)]
      refine Ev.step (fun k => by simp only [version_isIdentifier.j0]; rw [if_neg (by decide)]) ?_
      have := ident_loop s h8 s.size 0 (by omega)
      rw [List.drop_zero] at this
      exact this
    · rw [decide_eq_false (by omega : ¬ s.data.toList.length ≤ 8), Bool.and_false, Bool.false_and, Bool.false_and, decide_eq_true (by omega : (s.size : Int) > 8)]
      exact Ev.step (f := fun _ => some false) (fun k => by simp only [version_isIdentifier.j0]; rfl) (Ev.now _)
theorem pOr_loop (l : List Int) (hl : l.length ≤ 100) : ∀ (d i : Nat), i + d = l.length → Ev (fun k => cmp_Or_int.l0 k 0 l (l.length : Int) i) (((l.drop i).find? (· != 0)).getD 0) := by
  intro d
  induction d with
  | zero =>
    intro i hi
    refine Ev.step (f := fun _ => some 0) (fun k => by simp only [cmp_Or_int.l0]; rw [if_neg (by omega)]) ?_
    rw [List.drop_of_length_le (by omega)]
    exact Ev.now _
  | succ d ih =>
    intro i hi
    have hil : i < l.length := by omega
    have hr : rd l (i : Int) = l[i] := by
      unfold rd
      rw [List.getD_eq_getElem?_getD, Int.toNat_natCast, List.getElem?_eq_getElem hil]
      rfl
    rw [List.drop_eq_getElem_cons hil, List.find?_cons]
    by_cases hz : l[i] = 0
    · rw [hz]
      refine Ev.step (f := fun k => cmp_Or_int.l0 k 0 l (l.length : Int) ((i + 1 : Nat) : Int)) (fun k => by
        simp only [cmp_Or_int.l0]
        rw [if_pos (by omega), if_pos (by omega), if_pos (by omega), hr, if_pos hz, wrS (by omega) (by omega)]
        rfl) ?_
      exact ih (i + 1) (by omega)
    · have e : (l[i] != 0) = true := bne_iff_ne.2 hz
      rw [e]
      refine Ev.step (f := fun _ => some l[i]) (fun k => by
        simp only [cmp_Or_int.l0]
        rw [if_pos (by omega), if_pos (by omega), if_pos (by omega), hr, if_neg hz]) ?_
      exact Ev.now _
theorem pOr2 (a b : Int) : Ev (fun k => cmp_Or_int.f k [a, b]) (if a ≠ 0 then a else b) := by
  have h := pOr_loop [a, b] (by show 2 ≤ 100; omega) 2 0 rfl
  refine Ev.congr (fun k => rfl) ?_
  have e : (([a, b].drop 0).find? (· != 0)).getD 0 = if a ≠ 0 then a else b := by
    by_cases ha : a = 0
    · subst ha
      by_cases hb : b = 0
      · subst hb; rfl
      · simp [List.find?_cons, bne_iff_ne.2 hb]
    · simp [List.find?_cons, bne_iff_ne.2 ha, ha]
  rw [e] at h
  exact h
theorem pOr3 (a b c : Int) : Ev (fun k => cmp_Or_int.f k [a, b, c]) (if a ≠ 0 then a else if b ≠ 0 then b else c) := by
  have h := pOr_loop [a, b, c] (by show 3 ≤ 100; omega) 3 0 rfl
  refine Ev.congr (fun k => rfl) ?_
  have e : (([a, b, c].drop 0).find? (· != 0)).getD 0 = if a ≠ 0 then a else if b ≠ 0 then b else c := by
    by_cases ha : a = 0
    · subst ha
      by_cases hb : b = 0
      · subst hb
        by_cases hc : c = 0
        · subst hc; rfl
        · simp [List.find?_cons, bne_iff_ne.2 hc]
      · simp [List.find?_cons, bne_iff_ne.2 hb, hb]
    · simp [List.find?_cons, bne_iff_ne.2 ha, ha]
  rw [e] at h
  exact h
theorem pCmpInt (a b : Int) : cmp_Compare_int.f a b = some (icmp a b) := by
  unfold cmp_Compare_int.f cmp_isNaN_int.f icmp
  simp only [Option.bind_some, bne_self_eq_false, Bool.false_eq_true, if_false]
  by_cases h : a < b
  · rw [if_pos h, if_pos h]
  · rw [if_neg h, if_neg h]
    by_cases h2 : a > b
    · rw [if_pos h2, if_pos h2]
    · rw [if_neg h2, if_neg h2]
theorem pIdentifiers (a b : ByteArray) : Ev (fun k => version_identifiers.f k a b) (idCmp a.data.toList b.data.toList) := by
  refine Ev.congr (f := fun k => if numL a.data.toList = true then version_identifiers.j0 k a b (numL a.data.toList) (numL b.data.toList) (numL b.data.toList) else version_identifiers.j0 k a b (numL a.data.toList) (numL b.data.toList) false) (fun k => by
    unfold version_identifiers.f
    rw [pIsDigits, pIsDigits]
    rfl) ?_
  unfold idCmp
  have J : ∀ (x y z : Bool), Ev (fun k => version_identifiers.j0 k a b x y z) (if z = true then (if icmp (a.size : Int) (b.size : Int) ≠ 0 then icmp (a.size : Int) (b.size : Int) else bcmp a.data.toList b.data.toList) else if x = true then -1 else if y = true then 1 else bcmp a.data.toList b.data.toList) := by
    intro x y z
    refine Ev.step (f := fun k => if z = true then (cmp_Or_int.f k [icmp (a.size : Int) (b.size : Int), bcmp a.data.toList b.data.toList]).bind fun t108 => some t108 else if x = true then some (-1) else if y = true then some 1 else some (bcmp a.data.toList b.data.toList)) (fun k => by simp only [version_identifiers.j0, pCmpInt, cmp_Compare_string.f, Option.bind_some]) ?_
    cases z with
    | true => exact Ev.bind (pOr2 _ _) (Ev.now _)
    | false =>
      simp only [Bool.false_eq_true, if_false]
      cases x with
      | true => exact Ev.now _
      | false =>
        cases y with
        | true => exact Ev.now _
        | false => exact Ev.now _
  have el : ((a.data.toList.length : Nat) : Int) = (a.size : Int) := by rw [chars_len]
  have el2 : ((b.data.toList.length : Nat) : Int) = (b.size : Int) := by rw [chars_len]
  rw [el, el2]
  cases hx : numL a.data.toList with
  | true =>
    have := J true (numL b.data.toList) (numL b.data.toList)
    simp only [if_true, true_and] at this ⊢
    exact this
  | false =>
    have := J false (numL b.data.toList) false
    simp only [Bool.false_eq_true, if_false, false_and] at this ⊢
    exact this
end Go.Proofs.YtggdbafmpmfmcaaDoor.Fn
