/- Plain lemmas: lists of keys, binary search. No condition but what each states. -/
import Derived.Test.YtnkonhplfldlmaaFf49
import Derived.Test.YtnkonhplfldlmaaFf51
import Derived.Test.YtnkonhplfldlmaaFf82
import Derived.Test.YtnkonhplfldlmaaFn0
import Derived.Test.YtnkonhplfldlmaaFs0
import Derived.Test.YtnkonhplfldlmaaPuMsg
set_option linter.unusedVariables false
namespace Go.Proofs.Ytnkonhplfldlmaa.Pure
open Go.RowKit Go.Proofs.Ytnkonhplfldlmaa.Fn Go.Proofs.YtnkonhplfldlmaaW.PrintWords Go.Proofs.YtnkonhplfldlmaaW.PrintLast Go.Proofs.YtnkonhplfldlmaaW.PrintMore

def rises (l : List Int) : Prop := l.Pairwise (· < ·)
theorem rises_get {l : List Int} (h : rises l) {i j : Nat} (hi : i < l.length) (hj : j < l.length) (hij : i < j) : l[i] < l[j] := List.pairwise_iff_getElem.1 h i j hi hj hij
theorem rises_of {l : List Int} (h : ∀ j (hj : j + 1 < l.length), l[j] < l[j + 1]) : rises l := by
  refine List.pairwise_iff_getElem.2 fun i j hi hj hij => ?_
  obtain ⟨d, rfl⟩ : ∃ d, j = i + 1 + d := ⟨j - i - 1, by omega⟩
  induction d with
  | zero => exact h i (by omega)
  | succ d ih =>
    have h1 := ih (by omega) (by omega)
    have h2 := h (i + 1 + d) (by omega)
    exact Int.lt_trans h1 h2

/-- From place i on, d elements: the first that is no key, or not greater than the one ahead of it. -/
def kfAt (l : List Int) : Nat → Nat → Int × Int
  | 0, _ => (0, 0)
  | d + 1, i => if isKey (rd l i) = true then (if 0 < i ∧ rd l i ≤ rd l ((i - 1 : Nat) : Int) then (5, (i : Int)) else kfAt l d (i + 1)) else (3, (i : Int))
def keysFault (l : List Int) : Int × Int := if (l.length : Int) ≤ 12 then kfAt l l.length 0 else (2, -1)
theorem kfAt_zero (l : List Int) : ∀ d i, (kfAt l d i).1 = 0 → kfAt l d i = (0, 0)
  | 0, _, _ => rfl
  | d + 1, i, h => by
    unfold kfAt at h ⊢
    split
    · rename_i h1
      rw [if_pos h1] at h
      split
      · rename_i h2
        rw [if_pos h2] at h
        exact absurd h (by simp)
      · rename_i h2
        rw [if_neg h2] at h
        exact kfAt_zero l d (i + 1) h
    · rename_i h1
      rw [if_neg h1] at h
      exact absurd h (by simp)
theorem kfAt_ok (l : List Int) : ∀ d i, (kfAt l d i).1 = 0 → i + d = l.length → ∀ j, i ≤ j → j < l.length → isKey (rd l j) = true ∧ (0 < j → rd l ((j - 1 : Nat) : Int) < rd l j)
  | 0, i, _, hd, j, h1, h2 => by omega
  | d + 1, i, h, hd, j, h1, h2 => by
    unfold kfAt at h
    by_cases hk : isKey (rd l i) = true
    · rw [if_pos hk] at h
      by_cases hle : 0 < i ∧ rd l i ≤ rd l ((i - 1 : Nat) : Int)
      · rw [if_pos hle] at h
        exact absurd h (by simp)
      · rw [if_neg hle] at h
        by_cases hj : j = i
        · subst hj
          exact ⟨hk, fun h0 => by omega⟩
        · exact kfAt_ok l d (i + 1) h (by omega) j (by omega) h2
    · rw [if_neg hk] at h
      exact absurd h (by simp)
theorem keysFault_ok {l : List Int} (h : (keysFault l).1 = 0) : keysFault l = (0, 0) ∧ (l.length : Int) ≤ 12 ∧ (∀ x ∈ l, isKey x = true) ∧ rises l := by
  unfold keysFault at *
  by_cases hl : (l.length : Int) ≤ 12
  · rw [if_pos hl] at *
    have hk := kfAt_ok l l.length 0 h (by omega)
    refine ⟨kfAt_zero l _ _ h, hl, fun x hx => ?_, rises_of fun j hj => ?_⟩
    · obtain ⟨j, hj, rfl⟩ := List.mem_iff_getElem.1 hx
      have := (hk j (by omega) hj).1
      rwa [rd_get l j hj] at this
    · have := (hk (j + 1) (by omega) hj).2 (by omega)
      rw [show j + 1 - 1 = j by omega, rd_get l j (by omega)] at this
      have e : rd l ((j + 1 : Nat) : Int) = l[j + 1] := rd_get l (j + 1) hj
      rwa [e] at this
  · rw [if_neg hl] at h
    exact absurd h (by decide)
theorem pred_w {i : Nat} (h : 0 < i) (h1 : i ≤ 1000) : wrap64 ((i : Int) - 1) = ((i - 1 : Nat) : Int) := by rw [w64 (by omega) (by omega)]; omega
theorem succ_w {i : Nat} (h1 : i ≤ 140737488351232) : wrap64 ((i : Int) + 1) = ((i + 1 : Nat) : Int) := by rw [w64 (by omega) (by omega)]; omega
theorem pKeys_loop (l : List Int) (hl : l.length ≤ 12) : ∀ (d i : Nat), i + d = l.length → Ev (fun k => threshold_keysFault.l0 k l l (l.length : Int) i) (kfAt l d i) := by
  intro d
  induction d with
  | zero =>
    intro i hi
    exact Ev.step (f := fun _ => some (0, 0)) (fun k => by simp only [threshold_keysFault.l0]; rw [if_neg (by omega)]) (Ev.now _)
  | succ d ih =>
    intro i hi
    refine Ev.step (fun k => by simp only [threshold_keysFault.l0]; rw [if_pos (by omega), if_pos (by omega), if_pos (by omega), sIsKey, Option.bind_some]) ?_
    unfold kfAt
    by_cases hk : isKey (rd l i) = true
    · rw [if_pos hk]
      refine ev_if_pos hk ?_
      by_cases h0 : 0 < i
      · refine ev_if_pos (by omega) ?_
        simp only [pred_w h0 (by omega)]
        refine ev_if_pos (by omega) (ev_if_pos (by omega) ?_)
        by_cases hle : rd l i ≤ rd l ((i - 1 : Nat) : Int)
        · rw [if_pos ⟨h0, hle⟩]
          exact ev_if_pos hle (ev_now fun k => rfl)
        · rw [if_neg (fun h => hle h.2)]
          refine ev_if_neg hle ?_
          rw [succ_w (by omega)]
          exact ih (i + 1) (by omega)
      · rw [if_neg (fun h => h0 h.1)]
        refine ev_if_neg (by omega) ?_
        rw [succ_w (by omega)]
        exact ih (i + 1) (by omega)
    · rw [if_neg hk]
      exact ev_if_neg hk (ev_now fun k => rfl)
theorem pKeys_ev (l : List Int) : Ev (fun k => threshold_keysFault.f k l) (keysFault l) := by
  unfold threshold_keysFault.f keysFault
  by_cases h : (l.length : Int) ≤ 12
  · refine ev_if_neg (by omega) ?_
    rw [if_pos h]
    exact pKeys_loop l (by omega) l.length 0 (by omega)
  · refine ev_if_pos (by omega) ?_
    rw [if_neg h]
    exact ev_now fun k => rfl
def thrFault (l : List Int) (need : Int) : Int × Int := if (keysFault l).1 = 0 then (if 1 ≤ need ∧ need ≤ (l.length : Int) then (0, 0) else (3, -1)) else keysFault l
theorem bad_iff (x : Int × Int) : ((!(x.1 == 0) || (!(x.2 == 0))) = true) ↔ x ≠ (0, 0) := by
  obtain ⟨a, b⟩ := x
  by_cases h1 : a = 0 <;> by_cases h2 : b = 0 <;> simp [h1, h2]
theorem thrFault_ok {l : List Int} {need : Int} (h : (thrFault l need).1 = 0) : thrFault l need = (0, 0) ∧ (keysFault l).1 = 0 ∧ 1 ≤ need ∧ need ≤ (l.length : Int) := by
  unfold thrFault at *
  by_cases hk : (keysFault l).1 = 0
  · rw [if_pos hk] at *
    by_cases hn : 1 ≤ need ∧ need ≤ (l.length : Int)
    · rw [if_pos hn]
      exact ⟨rfl, hk, hn.1, hn.2⟩
    · rw [if_neg hn] at h
      exact absurd h (by decide)
  · rw [if_neg hk] at h
    exact absurd h hk

/-! binary search -/
def lb (l : List Int) (x : Int) : Nat := (l.takeWhile (fun y => decide (y < x))).length
theorem lb_unique : ∀ (l : List Int) (x : Int) (p : Nat) (hp : p ≤ l.length), (∀ j (hj : j < p), l[j] < x) → (∀ (h : p < l.length), ¬ l[p] < x) → p = lb l x
  | [], x, p, hp, h1, h2 => by
    have : p = 0 := by simpa using hp
    subst this
    rfl
  | y :: ys, x, 0, hp, h1, h2 => by
    have := h2 (by simp)
    unfold lb
    rw [List.takeWhile_cons, if_neg (by simpa using this)]
    rfl
  | y :: ys, x, p + 1, hp, h1, h2 => by
    have hy : y < x := h1 0 (by omega)
    have ih := lb_unique ys x p (by simpa using hp) (fun j hj => by have := h1 (j + 1) (by omega); simpa using this) (fun h => by have := h2 (by simpa using h); simpa using this)
    unfold lb at *
    rw [List.takeWhile_cons, if_pos (by simpa using hy), List.length_cons, ← ih]
theorem lb_spec : ∀ (l : List Int) (x : Int), lb l x ≤ l.length ∧ (∀ j (hj : j < l.length), j < lb l x → l[j] < x) ∧ (∀ (h : lb l x < l.length), ¬ l[lb l x] < x)
  | [], x => ⟨by simp [lb], fun j hj => by simp at hj, fun h => by simp at h⟩
  | y :: ys, x => by
    obtain ⟨h1, h2, h3⟩ := lb_spec ys x
    by_cases hy : y < x
    · have e : lb (y :: ys) x = lb ys x + 1 := by
        unfold lb
        rw [List.takeWhile_cons, if_pos (by simpa using hy), List.length_cons]
      rw [e]
      refine ⟨by simpa using h1, fun j hj hlt => ?_, fun h => ?_⟩
      · cases j with
        | zero => simpa using hy
        | succ j => simpa using h2 j (by simpa using hj) (by omega)
      · simpa using h3 (by simpa using h)
    · have e : lb (y :: ys) x = 0 := by
        unfold lb
        rw [List.takeWhile_cons, if_neg (by simpa using hy)]
        rfl
      simp only [e]
      exact ⟨by simp, fun j hj hlt => by omega, fun h => by simpa using hy⟩
theorem mem_lb {l : List Int} (hs : rises l) (x : Int) : x ∈ l ↔ ∃ h : lb l x < l.length, l[lb l x] = x := by
  constructor
  · intro hx
    obtain ⟨j, hj, rfl⟩ := List.mem_iff_getElem.1 hx
    have e : j = lb l l[j] := lb_unique l l[j] j (by omega) (fun i hi => rises_get hs (by omega) hj hi) (fun h => by omega)
    refine ⟨by rw [← e]; exact hj, ?_⟩
    simp only [← e]
  · rintro ⟨h, e⟩
    rw [← e]
    exact List.getElem_mem h
theorem less_eq (a b : Int) : cmp_Less_int.f a b = some (decide (a < b)) := by
  unfold cmp_Less_int.f cmp_isNaN_int.f
  simp
theorem search_loop (l : List Int) (x : Int) (hs : rises l) (hl : l.length ≤ 1000) : ∀ (d lo hi : Nat), hi - lo ≤ d → lo ≤ hi → hi ≤ l.length → (∀ j (hj : j < l.length), j < lo → l[j] < x) → (∀ j (hj : j < l.length), hi ≤ j → ¬ l[j] < x) →
    Ev (fun k => slices_BinarySearch_int_int.l0 k l x (l.length : Int) lo hi) ((lb l x : Int), decide (x ∈ l)) := by
  intro d
  induction d with
  | zero =>
    intro lo hi hd h1 h2 hlo hhi
    have hh : lo = hi := by omega
    subst hh
    have e : lo = lb l x := lb_unique l x lo h2 (fun j hj => hlo j (by omega) hj) (fun h => hhi lo h (Nat.le_refl _))
    refine Ev.step (fun k => by simp only [slices_BinarySearch_int_int.l0]; rw [if_neg (by omega)]) ?_
    by_cases hlt : lo < l.length
    · refine ev_if_pos (by omega) (ev_if_pos (by omega) (ev_if_pos (by omega) ?_))
      rw [rd_get l lo hlt]
      by_cases hx : l[lo] = x
      · refine ev_if_pos hx (ev_now fun k => ?_)
        have hm : x ∈ l := by rw [← hx]; exact List.getElem_mem hlt
        rw [decide_eq_true hm, ← e]
      · refine ev_if_neg hx (ev_now fun k => ?_)
        have hm : ¬ x ∈ l := by
          rw [mem_lb hs x]
          rintro ⟨h, he⟩
          simp only [← e] at he
          exact hx he
        simp only [slices_isNaN_int.f, bne_self_eq_false, Option.bind_some, Bool.false_eq_true, if_false]
        rw [decide_eq_false hm, ← e]
    · refine ev_if_neg (by omega) (ev_now fun k => ?_)
      have hm : ¬ x ∈ l := by
        rw [mem_lb hs x]
        rintro ⟨h, he⟩
        omega
      rw [decide_eq_false hm, ← e]
  | succ d ih =>
    intro lo hi hd h1 h2 hlo hhi
    by_cases hh : lo = hi
    · exact ih lo hi (by omega) h1 h2 hlo hhi
    · have hm : wrap64 ((IntKind.u64.wrap (wrap64 ((lo : Int) + (hi : Int)))) / 2) = (((lo + hi) / 2 : Nat) : Int) := by
        rw [w64 (n := (lo : Int) + (hi : Int)) (by omega) (by omega), m61_wrap, w64 (by omega) (by omega)]
        omega
      refine Ev.step (fun k => by simp only [slices_BinarySearch_int_int.l0]; rw [if_pos (by omega), hm, if_pos (by omega), if_pos (by omega), less_eq, Option.bind_some]) ?_
      have hmlt : (lo + hi) / 2 < l.length := by omega
      have e0 : rd l (((lo + hi) / 2 : Nat) : Int) = l[(lo + hi) / 2] := rd_get l _ hmlt
      rw [e0]
      by_cases hx : l[(lo + hi) / 2] < x
      · refine ev_if_pos (decide_eq_true hx) ?_
        rw [succ_w (by omega)]
        refine ih ((lo + hi) / 2 + 1) hi (by omega) (by omega) h2 (fun j hj hlt => ?_) hhi
        by_cases hj2 : j = (lo + hi) / 2
        · subst hj2
          exact hx
        · exact Int.lt_trans (rises_get hs hj hmlt (by omega)) hx
      · refine ev_if_neg (by rw [decide_eq_true_eq]; exact hx) ?_
        refine ih lo ((lo + hi) / 2) (by omega) (by omega) (by omega) hlo (fun j hj hlt => ?_)
        by_cases hj2 : j = (lo + hi) / 2
        · subst hj2
          exact hx
        · have := rises_get hs hmlt hj (by omega)
          omega
theorem search_ev (l : List Int) (x : Int) (hs : rises l) (hl : l.length ≤ 1000) : Ev (fun k => slices_BinarySearch_int_int.f k l x) ((lb l x : Int), decide (x ∈ l)) := by
  unfold slices_BinarySearch_int_int.f
  exact search_loop l x hs hl l.length 0 l.length (by omega) (by omega) (by omega) (fun j hj h => by omega) (fun j hj h => by omega)
theorem rHas_loop (l : List Int) (x : Int) (hl : l.length ≤ 140737488351232) : ∀ (d i : Nat), i + d = l.length → Ev (fun k => changeforgeref5_Has.l0 k l x i) (decide (x ∈ l.drop i)) := by
  intro d
  induction d with
  | zero =>
    intro i hi
    rw [List.drop_of_length_le (by omega)]
    exact Ev.step (f := fun _ => some false) (fun k => by simp only [changeforgeref5_Has.l0]; rw [if_neg (by omega)]) (Ev.now _)
  | succ d ih =>
    intro i hi
    have h1 : i < l.length := by omega
    refine Ev.step (fun k => by simp only [changeforgeref5_Has.l0]; rw [if_pos (by omega), if_pos (by omega), rd_get l i h1]) ?_
    rw [drop_cons h1]
    by_cases hx : l[i] = x
    · refine ev_if_pos hx ?_
      rw [decide_eq_true (by rw [hx]; exact List.mem_cons_self)]
      exact Ev.now _
    · refine ev_if_neg hx ?_
      rw [succ_w (by omega)]
      have e : (x ∈ l[i] :: l.drop (i + 1)) ↔ x ∈ l.drop (i + 1) := by
        rw [List.mem_cons]
        exact ⟨fun h => h.resolve_left (fun e => hx e.symm), Or.inr⟩
      rw [decide_eq_decide.2 e]
      exact ih (i + 1) (by omega)
theorem rHas_ev (l : List Int) (x : Int) (hl : l.length ≤ 140737488351232) : Ev (fun k => changeforgeref5_Has.f k l x) (decide (x ∈ l)) := by
  unfold changeforgeref5_Has.f
  exact rHas_loop l x hl l.length 0 (by omega)
end Go.Proofs.Ytnkonhplfldlmaa.Pure
