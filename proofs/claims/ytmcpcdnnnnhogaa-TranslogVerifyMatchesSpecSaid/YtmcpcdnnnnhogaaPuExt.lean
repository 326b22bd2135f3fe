/- Plain lemmas: the reference's check of consistency proofs comes to the same directions. No condition but what each states. -/
import Derived.Test.YtmcpcdnnnnhogaaFf26
import Derived.Test.YtmcpcdnnnnhogaaFn0
import Derived.Test.YtmcpcdnnnnhogaaPuCons
set_option linter.unusedVariables false
namespace Go.Proofs.Ytmcpcdnnnnhogaa.Pure
open Go.RowKit Go.Proofs.Ytmcpcdnnnnhogaa.Fn Go.Proofs.YtmcpcdnnnnhogaaW.PrintWords Go.Proofs.YtmcpcdnnnnhogaaW.PrintLast Go.Proofs.YtmcpcdnnnnhogaaW.PrintMore
def uext (old new : Int) : List Int → Nat → Nat → Int → Int → Bool
  | [], a, b, x, y => decide (b = 0) && (x == old && y == new)
  | z :: p, a, b, x, y => if b = 0 then false else if a % 2 = 1 ∨ a = b then uext old new p ((shift 7 (a, b)).1 / 2) ((shift 7 (a, b)).2 / 2) (pairD z x) (pairD z y) else uext old new p (a / 2) (b / 2) x (pairD y z)
theorem uext_cext (old new : Int) : ∀ (f a b : Nat) (x y : Int) (p : List Int), udone f a b = true → uext old new p a b x y = cext old new (udirs f a b) x y p := by
  intro f
  induction f with
  | zero =>
    intro a b x y p h
    simp only [udone, decide_eq_true_eq] at h
    subst h
    cases p <;> simp [uext, udirs, cext]
  | succ f ih =>
    intro a b x y p h
    by_cases hb : b = 0
    · subst hb
      cases p <;> simp [uext, udirs, cext]
    · simp only [udone, if_neg hb] at h
      simp only [udirs, if_neg hb]
      by_cases hc : a % 2 = 1 ∨ a = b
      · rw [if_pos hc] at h ⊢
        cases p with
        | nil => simp [uext, cext, hb]
        | cons z p =>
          simp only [uext, if_neg hb, if_pos hc, cext, if_true]
          exact ih _ _ _ _ _ h
      · rw [if_neg hc] at h ⊢
        cases p with
        | nil => simp [uext, cext, hb]
        | cons z p =>
          simp only [uext, if_neg hb, if_neg hc, cext]
          exact ih _ _ _ _ _ h
def odd : Nat → Nat × Nat → Nat × Nat
  | 0, s => s
  | f + 1, s => if s.1 % 2 = 1 then odd f (s.1 / 2, s.2 / 2) else s
def cons1 (m n : Nat) : Bool :=
  decide (cdirs 64 m n = udirs 8 (odd 7 (m - 1, n - 1)).1 (odd 7 (m - 1, n - 1)).2) && udone 8 (odd 7 (m - 1, n - 1)).1 (odd 7 (m - 1, n - 1)).2 && ((cdirs 64 m n).any id == !(decide (2 * sp m = m) || decide (m = 1)))
theorem cons_all : ((List.range 65).all fun n => (List.range n).all fun m => decide (m = 0) || cons1 m n) = true := by decide +kernel
theorem cons_eq {m n : Nat} (hm : 1 ≤ m) (hn : n ≤ 64) (hi : m < n) : cons1 m n = true := by
  have := (List.all_eq_true.mp ((List.all_eq_true.mp cons_all) n (List.mem_range.mpr (by omega)))) m (List.mem_range.mpr hi)
  simp only [Bool.or_eq_true, decide_eq_true_eq] at this
  rcases this with h | h
  · omega
  · exact h
theorem rExt_in (old new : Int) (p : List Int) (x y : Int) (j : Nat) (hp : p.length ≤ 65) (hj : j < p.length) {res : Bool} : ∀ (f a b : Nat), a < 2 ^ f → a ≤ 1000 → b ≤ 1000 →
    Ev (fun k => changeforgeref5_LogExtends.l1 k old new p (((shift f (a, b)).1 / 2 : Nat) : Int) (((shift f (a, b)).2 / 2 : Nat) : Int) x y ((j + 1 : Nat) : Int)) res →
    Ev (fun k => changeforgeref5_LogExtends.l2 k old new p (a : Int) (b : Int) x y (j : Int)) res := by
  intro f
  induction f with
  | zero =>
    intro a b ha ha2 hb h
    have h0 : a = 0 := by omega
    subst h0
    refine Ev.step (fun k => by simp only [changeforgeref5_LogExtends.l2]; rw [if_pos (by rw [iodd]; rfl), if_pos (by rfl), ihalf 0 (by omega), ihalf b hb, w64 (by omega) (by omega)]) ?_
    exact h
  | succ f ih =>
    intro a b ha ha2 hb h
    simp only [shift] at h
    by_cases hc : a % 2 = 0 ∧ a ≠ 0
    · rw [if_pos hc] at h
      refine Ev.step (fun k => by simp only [changeforgeref5_LogExtends.l2]; rw [if_pos (by rw [iodd, hc.1]; rfl), if_neg (by omega), ihalf a ha2, ihalf b hb]) ?_
      exact ih (a / 2) (b / 2) (by rw [Nat.pow_succ] at ha; omega) (by omega) (by omega) h
    · rw [if_neg hc] at h
      by_cases h2 : a % 2 = 0
      · have h0 : a = 0 := by omega
        subst h0
        refine Ev.step (fun k => by simp only [changeforgeref5_LogExtends.l2]; rw [if_pos (by rw [iodd]; rfl), if_pos (by rfl), ihalf 0 (by omega), ihalf b hb, w64 (by omega) (by omega)]) ?_
        exact h
      · refine Ev.step (fun k => by simp only [changeforgeref5_LogExtends.l2]; rw [if_neg (by rw [iodd]; omega), ihalf a ha2, ihalf b hb, w64 (by omega) (by omega)]) ?_
        exact h
theorem rExt_loop (old new : Int) (p : List Int) (hp : p.length ≤ 65) (hd : allDig p) : ∀ (d j a b : Nat) (x y : Int), j + d = p.length → a < 128 → b < 128 → isDig x = true → isDig y = true →
    Ev (fun k => changeforgeref5_LogExtends.l1 k old new p (a : Int) (b : Int) x y (j : Int)) (uext old new (p.drop j) a b x y) := by
  intro d
  induction d with
  | zero =>
    intro j a b x y hj ha hb hx hy
    rw [List.drop_of_length_le (by omega)]
    by_cases h0 : b = 0
    · subst h0
      simp only [uext, decide_true, Bool.true_and]
      by_cases hxo : x = old
      · refine Ev.step (f := fun _ => some (y == new)) (fun k => by simp only [changeforgeref5_LogExtends.l1]; rw [if_neg (by omega), if_pos (by rfl), if_pos hxo]) ?_
        rw [hxo, beq_self_eq_true, Bool.true_and]
        exact Ev.now _
      · refine Ev.step (f := fun _ => some false) (fun k => by simp only [changeforgeref5_LogExtends.l1]; rw [if_neg (by omega), if_pos (by rfl), if_neg hxo]) ?_
        rw [beq_eq_false_iff_ne.mpr hxo, Bool.false_and]
        exact Ev.now _
    · refine Ev.step (f := fun _ => some false) (fun k => by simp only [changeforgeref5_LogExtends.l1]; rw [if_neg (by omega), if_neg (by omega)]) ?_
      simp only [uext, decide_eq_false h0, Bool.false_and]
      exact Ev.now _
  | succ d ih =>
    intro j a b x y hj ha hb hx hy
    have hjl : j < p.length := by omega
    have hz : isDig p[j] = true := hd _ (List.getElem_mem hjl)
    rw [drop_cons hjl]
    by_cases h0 : b = 0
    · subst h0
      refine Ev.step (f := fun _ => some false) (fun k => by simp only [changeforgeref5_LogExtends.l1]; rw [if_pos (by omega), if_pos (by rfl)]) ?_
      simp only [uext, if_true]
      exact Ev.now _
    · simp only [uext, if_neg h0]
      by_cases hc : a % 2 = 1 ∨ a = b
      · rw [if_pos hc]
        have hle := shift_le 7 a b
        refine Ev.step (f := fun k => changeforgeref5_LogExtends.j4 k old new p a b x y j true) (fun k => ?_) ?_
        · simp only [changeforgeref5_LogExtends.l1]
          rw [if_pos (by omega), if_neg (by omega)]
          by_cases h1 : a % 2 = 1
          · rw [if_pos (by rw [iodd, h1]; rfl)]
          · rw [if_neg (by rw [iodd]; omega), show ((a : Int) == (b : Int)) = true from by rw [beq_iff_eq]; omega]
        · refine Ev.step (fun k => by simp only [changeforgeref5_LogExtends.j4]; rw [if_pos (by trivial), if_pos (by omega), if_pos (by omega), rd_get p j hjl]) ?_
          refine ev_bind (rPairD hz hx) (ev_bind (rPairD hz hy) ?_)
          exact rExt_in old new p _ _ j hp hjl 7 a b (by omega) (by omega) (by omega) (ih (j + 1) _ _ _ _ (by omega) (by omega) (by omega) (isDig_pairD _ _) (isDig_pairD _ _))
      · rw [if_neg hc]
        refine Ev.step (f := fun k => changeforgeref5_LogExtends.j4 k old new p a b x y j false) (fun k => ?_) ?_
        · simp only [changeforgeref5_LogExtends.l1]
          rw [if_pos (by omega), if_neg (by omega), if_neg (by rw [iodd]; omega), show ((a : Int) == (b : Int)) = false from by rw [beq_eq_false_iff_ne]; omega]
        · refine Ev.step (fun k => by simp only [changeforgeref5_LogExtends.j4]; rw [if_neg (by decide), if_pos (by omega), if_pos (by omega), rd_get p j hjl, ihalf a (by omega), ihalf b (by omega), w64 (n := (j : Int) + 1) (by omega) (by omega)]) ?_
          exact ev_bind (rPairD hy hz) (ih (j + 1) _ _ _ _ (by omega) (by omega) (by omega) hx (isDig_pairD _ _))
theorem rExt_odd (old new : Int) (z : Int) (p : List Int) (hp : (z :: p).length ≤ 65) (hd : allDig (z :: p)) : ∀ (f a b : Nat), a < 2 ^ f → a < 128 → b < 128 →
    Ev (fun k => changeforgeref5_LogExtends.l0 k old new (z :: p) (a : Int) (b : Int)) (uext old new p (odd f (a, b)).1 (odd f (a, b)).2 z z) := by
  have last : ∀ a b : Nat, ¬ a % 2 = 1 → a < 128 → b < 128 → Ev (fun k => changeforgeref5_LogExtends.l0 k old new (z :: p) (a : Int) (b : Int)) (uext old new p a b z z) := by
    intro a b h1 ha hb
    have h0 : rd (z :: p) 0 = z := rfl
    refine Ev.step (fun k => by simp only [changeforgeref5_LogExtends.l0]; rw [if_neg (by rw [iodd]; omega), if_pos (by simp only [List.length_cons]; omega), h0]) ?_
    have := rExt_loop old new (z :: p) hp hd p.length 1 a b z z (by simp only [List.length_cons]; omega) ha hb (hd z (List.mem_cons_self ..)) (hd z (List.mem_cons_self ..))
    exact this
  intro f
  induction f with
  | zero =>
    intro a b ha ha2 hb
    simp only [odd]
    exact last a b (by omega) ha2 hb
  | succ f ih =>
    intro a b ha ha2 hb
    simp only [odd]
    by_cases h1 : a % 2 = 1
    · rw [if_pos h1]
      refine Ev.step (fun k => by simp only [changeforgeref5_LogExtends.l0]; rw [if_pos (by rw [iodd, h1]; rfl), ihalf a (by omega), ihalf b (by omega)]) ?_
      exact ih (a / 2) (b / 2) (by rw [Nat.pow_succ] at ha; omega) (by omega) (by omega)
    · rw [if_neg h1]
      exact last a b h1 ha2 hb
theorem rExt_ev {old new : Int} {m n : Nat} {p : List Int} (hm : 1 ≤ m) (hmn : m ≤ n) (hn : n ≤ 64) (hp : p.length ≤ 64) (hd : allDig p) (ho : isDig old = true) :
    Ev (fun k => changeforgeref5_LogExtends.f k old (m : Int) new (n : Int) p) (consOf old new m n p) := by
  unfold changeforgeref5_LogExtends.f
  by_cases h1 : m = n
  · subst h1
    refine ev_if_pos rfl ?_
    unfold consOf
    rw [show cdirs 64 m m = [] from by simp [cdirs]]
    cases p with
    | nil =>
      refine ev_if_pos (by rfl) ?_
      rw [show cext old new [] old old [] = (old == new) from by simp [cext]]
      exact Ev.now _
    | cons z p =>
      refine ev_if_neg (by simp only [List.length_cons]; omega) ?_
      exact Ev.now _
  · refine ev_if_neg (by omega) ?_
    refine ev_bind (rPower_ev hm (by omega)) ?_
    have hc := cons_eq hm hn (by omega)
    unfold cons1 at hc
    simp only [Bool.and_eq_true, decide_eq_true_eq, beq_iff_eq] at hc
    obtain ⟨⟨c1, c2⟩, c3⟩ := hc
    have hsp : sp m ≤ 64 := by
      by_cases h2 : 2 ≤ m
      · have := sp_lt h2
        omega
      · have : m = 1 := by omega
        subst this
        decide
    rw [w64 (n := 2 * (sp m : Int)) (by omega) (by omega)]
    have tail : ∀ l : List Int, l.length ≤ 65 → allDig l → Ev (fun k => changeforgeref5_LogExtends.j1 k old (m : Int) new (n : Int) l) (match l with | [] => false | z :: q => cext old new (cdirs 64 m n) z z q) := by
      intro l hl hdl
      cases l with
      | nil =>
        refine Ev.step (f := fun _ => some false) (fun k => by simp only [changeforgeref5_LogExtends.j1]; rw [if_pos (by rfl)]) ?_
        exact Ev.now _
      | cons z q =>
        refine Ev.step (fun k => by simp only [changeforgeref5_LogExtends.j1]; rw [if_neg (by simp only [List.length_cons]; omega), w64 (n := (m : Int) - 1) (by omega) (by omega), w64 (n := (n : Int) - 1) (by omega) (by omega), show (m : Int) - 1 = ((m - 1 : Nat) : Int) from by omega, show (n : Int) - 1 = ((n - 1 : Nat) : Int) from by omega]) ?_
        have := rExt_odd old new z q hl hdl 7 (m - 1) (n - 1) (by omega) (by omega) (by omega)
        rw [uext_cext old new 8 _ _ z z q c2, ← c1] at this
        exact this
    have j0t : (cdirs 64 m n).any id = false → Ev (fun k => changeforgeref5_LogExtends.j0 k old (m : Int) new (n : Int) p p true) (consOf old new m n p) := by
      intro ha
      unfold consOf
      rw [ha]
      refine Ev.step (fun k => by simp only [changeforgeref5_LogExtends.j0]; rw [if_pos trivial, Option.bind_some, if_pos (by simp only [List.length_singleton]; omega)]) ?_
      exact tail (old :: p) (by simp only [List.length_cons]; omega) (fun x hx => by rcases List.mem_cons.mp hx with h | h; · rw [h]; exact ho
                                                                                     · exact hd x h)
    have j0f : (cdirs 64 m n).any id = true → Ev (fun k => changeforgeref5_LogExtends.j0 k old (m : Int) new (n : Int) p p false) (consOf old new m n p) := by
      intro ha
      unfold consOf
      rw [ha]
      refine Ev.step (fun k => by simp only [changeforgeref5_LogExtends.j0]; rw [if_neg (by decide)]) ?_
      exact tail p (by omega) hd
    by_cases h2 : 2 * sp m = m
    · refine ev_if_pos (by omega) (j0t ?_)
      rw [c3, decide_eq_true h2]
      rfl
    · refine ev_if_neg (by omega) ?_
      by_cases h3 : m = 1
      · rw [show ((m : Int) == 1) = true from by rw [beq_iff_eq]; omega]
        refine j0t ?_
        rw [c3, decide_eq_true h3, Bool.or_true]
        rfl
      · rw [show ((m : Int) == 1) = false from by rw [beq_eq_false_iff_ne]; omega]
        refine j0f ?_
        rw [c3, decide_eq_false h2, decide_eq_false h3]
        rfl
end Go.Proofs.Ytmcpcdnnnnhogaa.Pure
