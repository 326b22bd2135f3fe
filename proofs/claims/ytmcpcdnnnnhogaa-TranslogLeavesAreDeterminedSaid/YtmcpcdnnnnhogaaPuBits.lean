/- Plain lemmas: the reference's checks of proofs by the bits of an index come to the same directions. No condition but what each states. -/
import Derived.Test.YtmcpcdnnnnhogaaFf12
import Derived.Test.YtmcpcdnnnnhogaaFf24
import Derived.Test.YtmcpcdnnnnhogaaFn0
import Derived.Test.YtmcpcdnnnnhogaaFs0
import Derived.Test.YtmcpcdnnnnhogaaPuRead
set_option linter.unusedVariables false
namespace Go.Proofs.Ytmcpcdnnnnhogaa.Pure
open Go.RowKit Go.Proofs.Ytmcpcdnnnnhogaa.Fn Go.Proofs.YtmcpcdnnnnhogaaW.PrintWords Go.Proofs.YtmcpcdnnnnhogaaW.PrintLast Go.Proofs.YtmcpcdnnnnhogaaW.PrintMore
theorem logs_ev : Ev (fun k => changeforgelaw5_logs.f k) true := Ev.of (k := 40) changeforgelaw5_logs.mono (by decide +kernel)
def shift : Nat → Nat × Nat → Nat × Nat
  | 0, s => s
  | f + 1, s => if s.1 % 2 = 0 ∧ s.1 ≠ 0 then shift f (s.1 / 2, s.2 / 2) else s
def udirs : Nat → Nat → Nat → List Bool
  | 0, _, _ => []
  | f + 1, a, b => if b = 0 then [] else if a % 2 = 1 ∨ a = b then true :: udirs f ((shift 7 (a, b)).1 / 2) ((shift 7 (a, b)).2 / 2) else false :: udirs f (a / 2) (b / 2)
def udone : Nat → Nat → Nat → Bool
  | 0, _, b => decide (b = 0)
  | f + 1, a, b => if b = 0 then true else if a % 2 = 1 ∨ a = b then udone f ((shift 7 (a, b)).1 / 2) ((shift 7 (a, b)).2 / 2) else udone f (a / 2) (b / 2)
def up (root : Int) : List Int → Nat → Nat → Int → Bool
  | [], a, b, r => decide (b = 0) && (r == root)
  | x :: p, a, b, r => if b = 0 then false else if a % 2 = 1 ∨ a = b then up root p ((shift 7 (a, b)).1 / 2) ((shift 7 (a, b)).2 / 2) (pairD x r) else up root p (a / 2) (b / 2) (pairD r x)
theorem up_incl (root : Int) : ∀ (f a b : Nat) (r : Int) (p : List Int), udone f a b = true → up root p a b r = incl (udirs f a b) root r p := by
  intro f
  induction f with
  | zero =>
    intro a b r p h
    simp only [udone, decide_eq_true_eq] at h
    subst h
    cases p <;> simp [up, udirs, incl]
  | succ f ih =>
    intro a b r p h
    by_cases hb : b = 0
    · subst hb
      cases p <;> simp [up, udirs, incl]
    · simp only [udone, if_neg hb] at h
      simp only [udirs, if_neg hb]
      by_cases hc : a % 2 = 1 ∨ a = b
      · rw [if_pos hc] at h ⊢
        cases p with
        | nil => simp [up, incl, hb]
        | cons x p =>
          simp only [up, if_neg hb, if_pos hc, incl, if_true]
          exact ih _ _ _ _ h
      · rw [if_neg hc] at h ⊢
        cases p with
        | nil => simp [up, incl, hb]
        | cons x p =>
          simp only [up, if_neg hb, if_neg hc, incl]
          exact ih _ _ _ _ h
theorem dirs_all : ((List.range 65).all fun n => (List.range n).all fun i => decide (dirs 64 n i = udirs 8 i (n - 1)) && udone 8 i (n - 1)) = true := by decide +kernel
theorem dirs_eq {n i : Nat} (hn : n ≤ 64) (hi : i < n) : dirs 64 n i = udirs 8 i (n - 1) ∧ udone 8 i (n - 1) = true := by
  have := (List.all_eq_true.mp ((List.all_eq_true.mp dirs_all) n (List.mem_range.mpr (by omega)))) i (List.mem_range.mpr hi)
  simpa only [Bool.and_eq_true, decide_eq_true_eq] using this
theorem ihalf (a : Nat) (h : a ≤ 1000) : wrap64 (Int.tdiv (a : Int) 2) = ((a / 2 : Nat) : Int) := by
  rw [Int.tdiv_eq_ediv_of_nonneg (by omega), w64 (by omega) (by omega)]
  omega
theorem iodd (a : Nat) : Int.tmod (a : Int) 2 = ((a % 2 : Nat) : Int) := by
  rw [Int.tmod_eq_emod_of_nonneg (by omega)]
  omega
theorem shift_le : ∀ (f : Nat) (a b : Nat), (shift f (a, b)).1 ≤ a ∧ (shift f (a, b)).2 ≤ b
  | 0, a, b => ⟨Nat.le_refl _, Nat.le_refl _⟩
  | f + 1, a, b => by
    simp only [shift]
    by_cases h : a % 2 = 0 ∧ a ≠ 0
    · rw [if_pos h]
      have := shift_le f (a / 2) (b / 2)
      omega
    · rw [if_neg h]
      exact ⟨Nat.le_refl _, Nat.le_refl _⟩
theorem rPairD {a b : Int} (ha : isDig a = true) (hb : isDig b = true) : Ev (fun k => changeforgeref1_DigestPair.f k a b) (pairD a b) := by
  rw [isDig_iff] at ha hb
  exact rPair_ev a b ha.1 ha.2 hb.1 hb.2
theorem rIncl_in (root : Int) (p : List Int) (r : Int) (j : Nat) (hj : j < p.length) (hp : p.length ≤ 64) {res : Bool} : ∀ (f a b : Nat), a < 2 ^ f → a ≤ 1000 → b ≤ 1000 →
    Ev (fun k => changeforgeref5_LogIncludes.l0 k root p (((shift f (a, b)).1 / 2 : Nat) : Int) (((shift f (a, b)).2 / 2 : Nat) : Int) r ((j + 1 : Nat) : Int)) res →
    Ev (fun k => changeforgeref5_LogIncludes.l1 k root p (a : Int) (b : Int) r (j : Int)) res := by
  intro f
  induction f with
  | zero =>
    intro a b ha ha2 hb h
    have h0 : a = 0 := by omega
    subst h0
    refine Ev.step (fun k => by simp only [changeforgeref5_LogIncludes.l1]; rw [if_pos (by rw [iodd]; rfl), if_pos (by rfl), ihalf 0 (by omega), ihalf b hb, w64 (by omega) (by omega)]) ?_
    exact h
  | succ f ih =>
    intro a b ha ha2 hb h
    simp only [shift] at h
    by_cases hc : a % 2 = 0 ∧ a ≠ 0
    · rw [if_pos hc] at h
      refine Ev.step (fun k => by simp only [changeforgeref5_LogIncludes.l1]; rw [if_pos (by rw [iodd, hc.1]; rfl), if_neg (by omega), ihalf a ha2, ihalf b hb]) ?_
      exact ih (a / 2) (b / 2) (by rw [Nat.pow_succ] at ha; omega) (by omega) (by omega) h
    · rw [if_neg hc] at h
      by_cases h2 : a % 2 = 0
      · have h0 : a = 0 := by omega
        subst h0
        refine Ev.step (fun k => by simp only [changeforgeref5_LogIncludes.l1]; rw [if_pos (by rw [iodd]; rfl), if_pos (by rfl), ihalf 0 (by omega), ihalf b hb, w64 (by omega) (by omega)]) ?_
        exact h
      · refine Ev.step (fun k => by simp only [changeforgeref5_LogIncludes.l1]; rw [if_neg (by rw [iodd]; omega), ihalf a ha2, ihalf b hb, w64 (by omega) (by omega)]) ?_
        exact h
theorem rIncl_loop (root : Int) (p : List Int) (hp : p.length ≤ 64) (hd : allDig p) : ∀ (d j a b : Nat) (r : Int), j + d = p.length → a < 128 → b < 128 → isDig r = true →
    Ev (fun k => changeforgeref5_LogIncludes.l0 k root p (a : Int) (b : Int) r (j : Int)) (up root (p.drop j) a b r) := by
  intro d
  induction d with
  | zero =>
    intro j a b r hj ha hb hr
    rw [List.drop_of_length_le (by omega)]
    by_cases h0 : b = 0
    · subst h0
      refine Ev.step (f := fun _ => some (r == root)) (fun k => by simp only [changeforgeref5_LogIncludes.l0]; rw [if_neg (by omega), if_pos (by rfl)]) ?_
      simp only [up, decide_true, Bool.true_and]
      exact Ev.now _
    · refine Ev.step (f := fun _ => some false) (fun k => by simp only [changeforgeref5_LogIncludes.l0]; rw [if_neg (by omega), if_neg (by omega)]) ?_
      simp only [up, decide_eq_false h0, Bool.false_and]
      exact Ev.now _
  | succ d ih =>
    intro j a b r hj ha hb hr
    have hjl : j < p.length := by omega
    have hx : isDig p[j] = true := hd _ (List.getElem_mem hjl)
    rw [drop_cons hjl]
    by_cases h0 : b = 0
    · subst h0
      refine Ev.step (f := fun _ => some false) (fun k => by simp only [changeforgeref5_LogIncludes.l0]; rw [if_pos (by omega), if_pos (by rfl)]) ?_
      simp only [up, if_true]
      exact Ev.now _
    · simp only [up, if_neg h0]
      by_cases hc : a % 2 = 1 ∨ a = b
      · rw [if_pos hc]
        have hle := shift_le 7 a b
        refine Ev.step (f := fun k => changeforgeref5_LogIncludes.j1 k root p a b r j true) (fun k => ?_) ?_
        · simp only [changeforgeref5_LogIncludes.l0]
          rw [if_pos (by omega), if_neg (by omega)]
          by_cases h1 : a % 2 = 1
          · rw [if_pos (by rw [iodd, h1]; rfl)]
          · rw [if_neg (by rw [iodd]; omega), show ((a : Int) == (b : Int)) = true from by rw [beq_iff_eq]; omega]
        · refine Ev.step (fun k => by simp only [changeforgeref5_LogIncludes.j1]; rw [if_pos (by trivial), if_pos (by omega), if_pos (by omega), rd_get p j hjl]) ?_
          refine ev_bind (rPairD hx hr) ?_
          exact rIncl_in root p _ j hjl hp 7 a b (by omega) (by omega) (by omega) (ih (j + 1) _ _ _ (by omega) (by omega) (by omega) (isDig_pairD _ _))
      · rw [if_neg hc]
        refine Ev.step (f := fun k => changeforgeref5_LogIncludes.j1 k root p a b r j false) (fun k => ?_) ?_
        · simp only [changeforgeref5_LogIncludes.l0]
          rw [if_pos (by omega), if_neg (by omega), if_neg (by rw [iodd]; omega), show ((a : Int) == (b : Int)) = false from by rw [beq_eq_false_iff_ne]; omega]
        · refine Ev.step (fun k => by simp only [changeforgeref5_LogIncludes.j1]; rw [if_neg (by decide), if_pos (by omega), if_pos (by omega), rd_get p j hjl, ihalf a (by omega), ihalf b (by omega), w64 (n := (j : Int) + 1) (by omega) (by omega)]) ?_
          exact ev_bind (rPairD hr hx) (ih (j + 1) _ _ _ (by omega) (by omega) (by omega) (isDig_pairD _ _))
theorem rIncl_ev {root leaf : Int} {n i : Nat} {p : List Int} (hn : n ≤ 64) (hi : i < n) (hp : p.length ≤ 64) (hd : allDig p) (hl : isDig leaf = true) :
    Ev (fun k => changeforgeref5_LogIncludes.f k root (n : Int) (i : Int) leaf p) (incl (dirs 64 n i) root leaf p) := by
  unfold changeforgeref5_LogIncludes.f
  obtain ⟨h1, h2⟩ := dirs_eq hn hi
  rw [h1, ← up_incl root 8 i (n - 1) leaf p h2]
  have := rIncl_loop root p hp hd p.length 0 i (n - 1) leaf (by omega) (by omega) (by omega) hl
  rw [w64 (by omega) (by omega), show (n : Int) - 1 = ((n - 1 : Nat) : Int) from by omega]
  exact this
end Go.Proofs.Ytmcpcdnnnnhogaa.Pure
