/- Plain lemmas for the laws of the transparency log: proofs of a log verify, a proof determines its leaf. No condition but what each states. -/
import Derived.Test.YtmcpcdnnnnhogaaFn0
import Derived.Test.YtmcpcdnnnnhogaaFs0
import Derived.Test.YtmcpcdnnnnhogaaPuProofs
set_option linter.unusedVariables false
namespace Go.Proofs.Ytmcpcdnnnnhogaa.Pure
open Go.RowKit Go.Proofs.Ytmcpcdnnnnhogaa.Fn Go.Proofs.YtmcpcdnnnnhogaaW.PrintWords Go.Proofs.YtmcpcdnnnnhogaaW.PrintLast Go.Proofs.YtmcpcdnnnnhogaaW.PrintMore
theorem lIn_eq (a b c : Int) : changeforgelaw5_in.f a b c = some (decide (b ≤ a ∧ a ≤ c)) := by
  unfold changeforgelaw5_in.f
  by_cases h : a ≥ b
  · rw [if_pos h]
    congr 1
    rw [decide_eq_decide]
    omega
  · rw [if_neg h]
    congr 1
    symm
    rw [decide_eq_false_iff_not]
    omega
theorem lFault_eq (a b : Int) : changeforgelaw5_fault.f a b = some (a, b) := rfl
theorem prv_len : ∀ (f : Nat) (l : List Int) (i : Nat), l.length ≤ f → (prv l i).length = (dirs f l.length i).length := by
  intro f
  induction f with
  | zero => intro l i hl; rw [prv_small (by omega)]; rfl
  | succ f ih =>
    intro l i hl
    by_cases h2 : l.length < 2
    · rw [prv_small h2]
      simp only [dirs, if_pos h2]
      rfl
    have hlt := sp_lt (n := l.length) (by omega)
    have hp := sp_pos l.length
    have e1 : (l.take (sp l.length)).length = sp l.length := by rw [List.length_take]; omega
    have e2 : (l.drop (sp l.length)).length = l.length - sp l.length := by rw [List.length_drop]
    simp only [dirs, if_neg h2]
    by_cases hi : i < sp l.length
    · rw [prv_left (by omega) hi, if_pos hi, List.length_append, List.length_append, ih _ i (by omega), e1]
      rfl
    · rw [prv_right (by omega) hi, if_neg hi, List.length_append, List.length_append, ih _ _ (by omega), e2]
      rfl
theorem six_all : ((List.range 65).all fun n => (List.range n).all fun i => decide ((dirs 64 n i).length ≤ 6)) = true := by decide +kernel
theorem prv_six {l : List Int} {i : Nat} (hl : l.length ≤ 64) (hi : i < l.length) : (prv l i).length ≤ 6 := by
  rw [prv_len 64 l i hl]
  have := (List.all_eq_true.mp ((List.all_eq_true.mp six_all) l.length (List.mem_range.mpr (by omega)))) i (List.mem_range.mpr hi)
  simpa only [decide_eq_true_eq] using this
theorem rd_take {l : List Int} {k i : Nat} (h : i < k) : rd (l.take k) (i : Int) = rd l (i : Int) := by
  unfold rd
  rw [List.getD_eq_getElem?_getD, List.getD_eq_getElem?_getD, Int.toNat_natCast, List.getElem?_take_of_lt h]
theorem rd_drop {l : List Int} {k i : Nat} (h : k ≤ i) : rd (l.drop k) ((i - k : Nat) : Int) = rd l (i : Int) := by
  unfold rd
  rw [List.getD_eq_getElem?_getD, List.getD_eq_getElem?_getD, Int.toNat_natCast, Int.toNat_natCast, List.getElem?_drop]
  congr 2
  omega
theorem prv_fold : ∀ (f : Nat) (l : List Int) (i : Nat) (t : List Int), l.length ≤ f → i < l.length → (dirs f l.length i).foldl stp (rd l (i : Int), prv l i ++ t, true) = (root l, t, true) := by
  intro f
  induction f with
  | zero => intro l i t hl hi; omega
  | succ f ih =>
    intro l i t hl hi
    by_cases h2 : l.length < 2
    · rw [prv_small h2, root_small h2]
      simp only [dirs, if_pos h2, List.foldl_nil, List.nil_append]
      rw [show i = 0 from by omega]
      rfl
    have hlt := sp_lt (n := l.length) (by omega)
    have hp := sp_pos l.length
    have e1 : (l.take (sp l.length)).length = sp l.length := by rw [List.length_take]; omega
    have e2 : (l.drop (sp l.length)).length = l.length - sp l.length := by rw [List.length_drop]
    simp only [dirs, if_neg h2]
    rw [root_big (l := l) (by omega)]
    by_cases hc : i < sp l.length
    · have := ih (l.take (sp l.length)) i ([root (l.drop (sp l.length))] ++ t) (by omega) (by omega)
      rw [e1, rd_take hc] at this
      rw [prv_left (by omega) hc, if_pos hc, List.foldl_append, List.append_assoc, this]
      rfl
    · have := ih (l.drop (sp l.length)) (i - sp l.length) ([root (l.take (sp l.length))] ++ t) (by omega) (by omega)
      rw [e2, rd_drop (by omega)] at this
      rw [prv_right (by omega) hc, if_neg hc, List.foldl_append, List.append_assoc, this]
      rfl
theorem prv_incl {l : List Int} {i : Nat} (hl : l.length ≤ 64) (hi : i < l.length) : incl (dirs 64 l.length i) (root l) (rd l (i : Int)) (prv l i) = true := by
  have := prv_fold 64 l i [] hl hi
  rw [List.append_nil] at this
  rw [incl_eq, this]
  simp
theorem root_take {l : List Int} {m : Nat} (hl : l.length ≤ 64) (h1 : sp l.length < m) (h2 : m ≤ l.length) (h3 : 2 ≤ l.length) :
    pairD (root (l.take (sp l.length))) (root ((l.drop (sp l.length)).take (m - sp l.length))) = root (l.take m) := by
  have h4 := sp_two h3 hl
  have e : l.take m = l.take (sp l.length) ++ (l.drop (sp l.length)).take (m - sp l.length) := by
    rw [← List.take_add]
    congr 1
    omega
  rw [e]
  symm
  refine root_join (j := Nat.log2 (l.length - 1)) ?_ ?_ ?_
  · rw [List.length_take]
    show min (sp l.length) _ = sp l.length
    omega
  · rw [List.length_take, List.length_drop]
    omega
  · rw [List.length_take, List.length_drop]
    show _ ≤ sp l.length
    omega
theorem subp_fold : ∀ (f : Nat) (l : List Int) (m : Nat) (w : Bool) (old : Int) (t : List Int), l.length ≤ f → l.length ≤ 64 → 1 ≤ m → m ≤ l.length → (w = true → old = root (l.take m)) →
    (cdirs f m l.length).foldl cst (seed (w && !(cdirs f m l.length).any id) old (subp l m w ++ t) true) = (root (l.take m), root l, t, true) := by
  intro f
  induction f with
  | zero => intro l m w old t hl _ hm hml; omega
  | succ f ih =>
    intro l m w old t hl hl2 hm hml hw
    by_cases h1 : m = l.length
    · rw [subp_end h1, h1, List.take_of_length_le (Nat.le_refl _)]
      simp only [cdirs, if_true, List.any_nil, Bool.not_false, Bool.and_true, List.foldl_nil]
      cases w
      · rfl
      · have := hw rfl
        rw [h1, List.take_of_length_le (Nat.le_refl _)] at this
        rw [this]
        rfl
    have hlt := sp_lt (n := l.length) (by omega)
    have hp := sp_pos l.length
    have e1 : (l.take (sp l.length)).length = sp l.length := by rw [List.length_take]; omega
    have e2 : (l.drop (sp l.length)).length = l.length - sp l.length := by rw [List.length_drop]
    simp only [cdirs, if_neg h1]
    rw [root_big (l := l) (by omega)]
    by_cases hc : m ≤ sp l.length
    · have e3 : (l.take (sp l.length)).take m = l.take m := by rw [List.take_take]; congr 1; omega
      have := ih (l.take (sp l.length)) m w old ([root (l.drop (sp l.length))] ++ t) (by omega) (by omega) hm (by omega) (by rw [e3]; exact hw)
      rw [e1, e3] at this
      rw [subp_left hm (by omega) w hc, if_pos hc, List.foldl_append, List.append_assoc, List.any_append]
      simp only [List.any_cons, List.any_nil, id, Bool.or_false]
      rw [this]
      rfl
    · have := ih (l.drop (sp l.length)) (m - sp l.length) false old ([root (l.take (sp l.length))] ++ t) (by omega) (by omega) (by omega) (by omega) (fun h => by cases h)
      rw [e2, Bool.false_and] at this
      have e4 : (w && !((cdirs f (m - sp l.length) (l.length - sp l.length)).any id || [true].any id)) = false := by simp
      rw [subp_right hm (by omega) w hc, if_neg hc, List.foldl_append, List.append_assoc, List.any_append, e4, this, ← root_take hl2 (by omega) hml (by omega)]
      rfl
theorem subp_cons {l : List Int} {m : Nat} (hl : l.length ≤ 64) (hm : 1 ≤ m) (hml : m ≤ l.length) : consOf (root (l.take m)) (root l) m l.length (subp l m true) = true := by
  have := subp_fold 64 l m true (root (l.take m)) [] hl hl hm hml (fun _ => rfl)
  rw [List.append_nil] at this
  rw [consOf_eq, this]
  simp
theorem lin_inj {c x y s : Int} (hc : Nat.Coprime 2305843009213693951 c.natAbs) (h0 : 0 ≤ x) (h1 : x < 2305843009213693951) (g0 : 0 ≤ y) (g1 : y < 2305843009213693951) (e : (x * c + s) % 2305843009213693951 = (y * c + s) % 2305843009213693951) : x = y := by
  have e1 := Int.emod_eq_emod_iff_emod_sub_eq_zero.1 e
  have e2 : x * c + s - (y * c + s) = (x - y) * c := by rw [Int.sub_mul]; omega
  rw [e2] at e1
  have e3 := Int.natAbs_dvd_natAbs.2 (Int.dvd_of_emod_eq_zero e1)
  rw [Int.natAbs_mul] at e3
  have e4 : (2305843009213693951 : Int).natAbs ∣ (x - y).natAbs := hc.dvd_of_dvd_mul_right e3
  obtain ⟨q, hq⟩ := Int.natAbs_dvd_natAbs.1 e4
  have hz : q = 0 := by omega
  rw [hz] at hq
  omega
theorem pair_left {a b s : Int} (ha : isDig a = true) (hb : isDig b = true) (e : pairD a s = pairD b s) : a = b := by
  rw [isDig_iff] at ha hb
  unfold pairD at e
  rw [Int.add_assoc, Int.add_assoc] at e
  exact lin_inj (by decide) ha.1 ha.2 hb.1 hb.2 e
theorem pair_right {a b s : Int} (ha : isDig a = true) (hb : isDig b = true) (e : pairD s a = pairD s b) : a = b := by
  rw [isDig_iff] at ha hb
  unfold pairD at e
  have e2 : (a * 31 + (s * 1000003 + 7)) % 2305843009213693951 = (b * 31 + (s * 1000003 + 7)) % 2305843009213693951 := by
    rw [show a * 31 + (s * 1000003 + 7) = s * 1000003 + a * 31 + 7 from by omega, show b * 31 + (s * 1000003 + 7) = s * 1000003 + b * 31 + 7 from by omega]
    exact e
  exact lin_inj (by decide) ha.1 ha.2 hb.1 hb.2 e2
theorem incl_inj (root : Int) : ∀ (ds : List Bool) (a b : Int) (p : List Int), isDig a = true → isDig b = true → incl ds root a p = true → incl ds root b p = true → a = b
  | [], a, b, [], ha, hb, h1, h2 => by
    simp only [incl, beq_iff_eq] at h1 h2
    rw [h1, h2]
  | [], a, b, x :: p, ha, hb, h1, h2 => by simp [incl] at h1
  | d :: ds, a, b, [], ha, hb, h1, h2 => by simp [incl] at h1
  | d :: ds, a, b, x :: p, ha, hb, h1, h2 => by
    simp only [incl] at h1 h2
    cases d
    · exact pair_left ha hb (incl_inj root ds _ _ p (isDig_pairD _ _) (isDig_pairD _ _) h1 h2)
    · exact pair_right ha hb (incl_inj root ds _ _ p (isDig_pairD _ _) (isDig_pairD _ _) h1 h2)
end Go.Proofs.Ytmcpcdnnnnhogaa.Pure
