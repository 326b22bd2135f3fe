/- Plain lemmas: the transparency log: split, roots, proofs, the readers of proofs. No condition but what each states. -/
import Derived.Test.YtnkonhplfldlmaaFf54
import Derived.Test.YtnkonhplfldlmaaFf55
import Derived.Test.YtnkonhplfldlmaaFf68
import Derived.Test.YtnkonhplfldlmaaFn0
import Derived.Test.YtnkonhplfldlmaaFs0
import Derived.Test.YtnkonhplfldlmaaPuBase
import Derived.Test.YtnkonhplfldlmaaPuMsg
set_option linter.unusedVariables false
namespace Go.Proofs.Ytnkonhplfldlmaa.Pure
open Go.RowKit Go.Proofs.Ytnkonhplfldlmaa.Fn Go.Proofs.YtnkonhplfldlmaaW.PrintWords Go.Proofs.YtnkonhplfldlmaaW.PrintLast Go.Proofs.YtnkonhplfldlmaaW.PrintMore
/-- The largest power of two below n. -/
def sp (n : Nat) : Nat := 2 ^ Nat.log2 (n - 1)
theorem sp_all : ((List.range 65).all fun n => decide (n < 2) || (decide (translog_split.f (n : Int) = some (sp n : Int)) && decide (n ≤ 2 * sp n))) = true := by decide +kernel
theorem sp_pos (n : Nat) : 1 ≤ sp n := Nat.one_le_two_pow
theorem sp_lt {n : Nat} (h : 2 ≤ n) : sp n < n := by
  have := Nat.log2_self_le (n := n - 1) (by omega)
  unfold sp
  omega
theorem sp_two {n : Nat} (h : 2 ≤ n) (h2 : n ≤ 64) : n ≤ 2 * sp n := by
  have := (List.all_eq_true.mp sp_all) n (List.mem_range.mpr (by omega))
  simp only [Bool.or_eq_true, Bool.and_eq_true, decide_eq_true_eq] at this
  omega
theorem sp_split {n : Nat} (h : 2 ≤ n) (h2 : n ≤ 64) : translog_split.f (n : Int) = some (sp n : Int) := by
  have := (List.all_eq_true.mp sp_all) n (List.mem_range.mpr (by omega))
  simp only [Bool.or_eq_true, Bool.and_eq_true, decide_eq_true_eq] at this
  rcases this with h' | h'
  · omega
  · exact h'.1
/-! roots -/
def root (l : List Int) : Int :=
  if h : l.length < 2 then rd l 0 else pairD (root (l.take (sp l.length))) (root (l.drop (sp l.length)))
termination_by l.length
decreasing_by
  · rw [List.length_take]
    have := sp_lt (n := l.length) (by omega)
    omega
  · rw [List.length_drop]
    have := sp_pos l.length
    omega
theorem root_small {l : List Int} (h : l.length < 2) : root l = rd l 0 := by rw [root, dif_pos h]
theorem root_big {l : List Int} (h : 2 ≤ l.length) : root l = pairD (root (l.take (sp l.length))) (root (l.drop (sp l.length))) := by rw [root, dif_neg (by omega)]
theorem take_dig {l : List Int} (h : allDig l) (n : Nat) : allDig (l.take n) := fun x hx => h x (List.mem_of_mem_take hx)
theorem drop_dig {l : List Int} (h : allDig l) (n : Nat) : allDig (l.drop n) := fun x hx => h x (List.mem_of_mem_drop hx)
theorem root_dig {l : List Int} (h : allDig l) : isDig (root l) = true := by
  by_cases h2 : l.length < 2
  · rw [root_small h2]
    match l, h2 with
    | [], _ => decide
    | [x], _ => exact h x (List.mem_singleton.mpr rfl)
  · rw [root_big (by omega)]
    exact isDig_pairD _ _
theorem pPair {a b : Int} (ha : isDig a = true) (hb : isDig b = true) : translog_pair.f a b = some (pairD a b) := by
  unfold translog_pair.f
  rw [pPair_eq a b ha hb]
  rfl
theorem pRoot_ev : ∀ (n : Nat) (l : List Int), l.length = n → n ≤ 64 → allDig l → Ev (fun k => translog_root.f k l) (root l) := by
  intro n
  induction n using Nat.strongRecOn with
  | _ n ih =>
    intro l hl hn hd
    by_cases h0 : n = 0
    · refine Ev.step (f := fun _ => some 0) (fun k => by simp only [translog_root.f]; rw [if_pos (by omega)]) ?_
      have : l = [] := List.length_eq_zero_iff.mp (by omega)
      subst this
      rw [root_small (by simp)]
      exact Ev.now _
    by_cases h1 : n = 1
    · refine Ev.step (f := fun _ => some (rd l 0)) (fun k => by simp only [translog_root.f]; rw [if_neg (by omega), if_pos (by omega), if_pos (by omega)]) ?_
      rw [root_small (by omega)]
      exact Ev.now _
    have hs := sp_split (n := n) (by omega) hn
    have hlt := sp_lt (n := n) (by omega)
    have hp := sp_pos n
    rw [root_big (by omega), hl]
    refine Ev.step (f := fun k => (translog_root.f k (l.take (sp n))).bind fun a => (translog_root.f k (l.drop (sp n))).bind fun b => (translog_pair.f a b).bind fun c => some c) (fun k => ?_) ?_
    · simp only [translog_root.f]
      rw [if_neg (by omega), if_neg (by omega), hl, hs]
      simp only [Option.bind_some]
      rw [if_pos (by omega), if_pos (by omega)]
      simp only [if_pos (show (0 : Int) ≤ (sp n : Int) by omega), if_pos (show (sp n : Int) ≤ (n : Int) by omega), Int.toNat_natCast]
    · refine ev_bind (ih (sp n) hlt (l.take (sp n)) (by rw [List.length_take]; omega) (by omega) (take_dig hd _)) ?_
      refine ev_bind (ih (n - sp n) (by omega) (l.drop (sp n)) (by rw [List.length_drop]; omega) (by omega) (drop_dig hd _)) ?_
      refine ev_now fun k => ?_
      rw [pPair (root_dig (take_dig hd _)) (root_dig (drop_dig hd _))]
      rfl
/-! inclusion proofs -/
def prv (l : List Int) (i : Nat) : List Int :=
  if h : l.length < 2 then [] else if i < sp l.length then prv (l.take (sp l.length)) i ++ [root (l.drop (sp l.length))] else prv (l.drop (sp l.length)) (i - sp l.length) ++ [root (l.take (sp l.length))]
termination_by l.length
decreasing_by
  · rw [List.length_take]
    have := sp_lt (n := l.length) (by omega)
    omega
  · rw [List.length_drop]
    have := sp_pos l.length
    omega
theorem prv_small {l : List Int} (h : l.length < 2) (i : Nat) : prv l i = [] := by rw [prv, dif_pos h]
theorem prv_left {l : List Int} (h : 2 ≤ l.length) {i : Nat} (hi : i < sp l.length) : prv l i = prv (l.take (sp l.length)) i ++ [root (l.drop (sp l.length))] := by rw [prv, dif_neg (by omega), if_pos hi]
theorem prv_right {l : List Int} (h : 2 ≤ l.length) {i : Nat} (hi : ¬ i < sp l.length) : prv l i = prv (l.drop (sp l.length)) (i - sp l.length) ++ [root (l.take (sp l.length))] := by rw [prv, dif_neg (by omega), if_neg hi]
theorem prv_facts : ∀ (n : Nat) (l : List Int) (i : Nat), l.length = n → allDig l → (prv l i).length ≤ n ∧ allDig (prv l i) := by
  intro n
  induction n using Nat.strongRecOn with
  | _ n ih =>
    intro l i hl hd
    by_cases h2 : n < 2
    · rw [prv_small (by omega)]
      exact ⟨Nat.zero_le _, fun x hx => by simp at hx⟩
    have hlt := sp_lt (n := n) (by omega)
    have hp := sp_pos n
    by_cases hi : i < sp n
    · rw [prv_left (by omega) (by rw [hl]; exact hi), hl]
      obtain ⟨h3, h4⟩ := ih (sp n) hlt (l.take (sp n)) i (by rw [List.length_take]; omega) (take_dig hd _)
      refine ⟨by rw [List.length_append, List.length_singleton]; omega, fun x hx => ?_⟩
      rcases List.mem_append.mp hx with h5 | h5
      · exact h4 x h5
      · rw [List.mem_singleton.mp h5]
        exact root_dig (drop_dig hd _)
    · rw [prv_right (by omega) (by rw [hl]; exact hi), hl]
      obtain ⟨h3, h4⟩ := ih (n - sp n) (by omega) (l.drop (sp n)) (i - sp n) (by rw [List.length_drop]; omega) (drop_dig hd _)
      refine ⟨by rw [List.length_append, List.length_singleton]; omega, fun x hx => ?_⟩
      rcases List.mem_append.mp hx with h5 | h5
      · exact h4 x h5
      · rw [List.mem_singleton.mp h5]
        exact root_dig (take_dig hd _)
theorem pProve_ev : ∀ (n : Nat) (l : List Int) (i : Nat), l.length = n → n ≤ 64 → i < n → allDig l → Ev (fun k => translog_prove.f k l (i : Int)) (prv l i) := by
  intro n
  induction n using Nat.strongRecOn with
  | _ n ih =>
    intro l i hl hn hin hd
    by_cases h1 : n = 1
    · refine Ev.step (f := fun _ => some []) (fun k => by simp only [translog_prove.f]; rw [if_pos (by omega)]) ?_
      rw [prv_small (by omega)]
      exact Ev.now _
    have hs := sp_split (n := n) (by omega) hn
    have hlt := sp_lt (n := n) (by omega)
    have hp := sp_pos n
    by_cases hi : i < sp n
    · rw [prv_left (by omega) (by rw [hl]; exact hi), hl]
      refine Ev.step (f := fun k => (translog_prove.f k (l.take (sp n)) i).bind fun a => (translog_root.f k (l.drop (sp n))).bind fun b => if a.length < 17592186044416 then some (a ++ [b]) else none) (fun k => ?_) ?_
      · simp only [translog_prove.f]
        rw [if_neg (by omega), hl, hs]
        simp only [Option.bind_some]
        rw [if_pos (by omega), if_pos (by omega), if_pos (by omega)]
        simp only [Int.toNat_natCast]
      · refine ev_bind (ih (sp n) hlt (l.take (sp n)) i (by rw [List.length_take]; omega) (by omega) hi (take_dig hd _)) ?_
        refine ev_bind (pRoot_ev (n - sp n) (l.drop (sp n)) (by rw [List.length_drop]; omega) (by omega) (drop_dig hd _)) ?_
        have := (prv_facts (sp n) (l.take (sp n)) i (by rw [List.length_take]; omega) (take_dig hd _)).1
        exact ev_if_pos (by omega) (Ev.now _)
    · rw [prv_right (by omega) (by rw [hl]; exact hi), hl]
      refine Ev.step (f := fun k => (translog_prove.f k (l.drop (sp n)) ((i - sp n : Nat) : Int)).bind fun a => (translog_root.f k (l.take (sp n))).bind fun b => if a.length < 17592186044416 then some (a ++ [b]) else none) (fun k => ?_) ?_
      · simp only [translog_prove.f]
        rw [if_neg (by omega), hl, hs]
        simp only [Option.bind_some]
        rw [if_neg (by omega), if_pos (by omega), if_pos (by omega), w64 (by omega) (by omega), show (i : Int) - (sp n : Int) = ((i - sp n : Nat) : Int) from by omega]
        simp only [Int.toNat_natCast]
      · refine ev_bind (ih (n - sp n) (by omega) (l.drop (sp n)) (i - sp n) (by rw [List.length_drop]; omega) (by omega) (by omega) (drop_dig hd _)) ?_
        refine ev_bind (pRoot_ev (sp n) (l.take (sp n)) (by rw [List.length_take]; omega) (by omega) (take_dig hd _)) ?_
        have := (prv_facts (n - sp n) (l.drop (sp n)) (i - sp n) (by rw [List.length_drop]; omega) (drop_dig hd _)).1
        exact ev_if_pos (by omega) (Ev.now _)
end Go.Proofs.Ytnkonhplfldlmaa.Pure
