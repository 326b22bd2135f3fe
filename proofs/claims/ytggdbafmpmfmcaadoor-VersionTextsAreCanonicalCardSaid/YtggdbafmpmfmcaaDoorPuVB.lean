/- Plain lemmas: equality of versions in the reference, Next, and the closed example orders(). No condition but what each states. -/
import Derived.Test.YtggdbafmpmfmcaaDoorFf16
import Derived.Test.YtggdbafmpmfmcaaDoorFf17
import Derived.Test.YtggdbafmpmfmcaaDoorFf18
import Derived.Test.YtggdbafmpmfmcaaDoorFf20
import Derived.Test.YtggdbafmpmfmcaaDoorFf9
import Derived.Test.YtggdbafmpmfmcaaDoorFn0
import Derived.Test.YtggdbafmpmfmcaaDoorFs0
import Derived.Test.YtggdbafmpmfmcaaDoorPuVA
import Derived.Test.YtggdbafmpmfmcaaDoorVerE
import Derived.KernelRfl
set_option linter.unusedVariables false
set_option linter.unusedSimpArgs false
namespace Go.Proofs.YtggdbafmpmfmcaaDoor.Pure
open Go Go.RowKit Go.Proofs.YtggdbafmpmfmcaaDoor.Fn Go.Proofs.YtggdbafmpmfmcaaDoorW.PrintWords Go.Proofs.YtggdbafmpmfmcaaDoorW.PrintLast Go.Proofs.YtggdbafmpmfmcaaDoorW.PrintMore
theorem toList_iff {a b : ByteArray} : a.toList = b.toList ↔ a = b := by
  rw [chars_eq, chars_eq]
  exact ⟨chars_inj, fun h => by rw [h]⟩
theorem same_loop (a1 a2 a3 : Int) (p : List ByteArray) (b1 b2 b3 : Int) (q : List ByteArray) (hl : p.length = q.length) (hm : p.length ≤ 140737488351232) : ∀ (d i : Nat), i + d = p.length →
    Ev (fun k => changeforgeref5_SameVersion.l0 k i a1 a2 a3 p b1 b2 b3 q) (decide (p.drop i = q.drop i)) := by
  intro d
  induction d with
  | zero =>
    intro i hi
    refine Ev.step (f := fun _ => some true) (fun k => by simp only [changeforgeref5_SameVersion.l0]; rw [if_neg (by omega)]) ?_
    rw [List.drop_of_length_le (by omega), List.drop_of_length_le (by omega)]
    exact Ev.now _
  | succ d ih =>
    intro i hi
    rw [List.drop_eq_getElem_cons (by omega : i < p.length), List.drop_eq_getElem_cons (by omega : i < q.length)]
    by_cases h : p[i] = q[i]
    · refine Ev.step (f := fun k => changeforgeref5_SameVersion.l0 k ((i + 1 : Nat) : Int) a1 a2 a3 p b1 b2 b3 q) (fun k => by
        simp only [changeforgeref5_SameVersion.l0]
        rw [if_pos (by omega), if_pos (by omega), if_pos (by omega), rdOf_get _ _ _ (by omega), rdOf_get _ _ _ (by omega), if_pos (toList_iff.2 h), wrS (by omega) (by omega)]
        rfl) ?_
      have e : decide (p[i] :: List.drop (i + 1) p = q[i] :: List.drop (i + 1) q) = decide (List.drop (i + 1) p = List.drop (i + 1) q) := by
        rw [decide_eq_decide, List.cons.injEq]
        exact ⟨fun x => x.2, fun x => ⟨h, x⟩⟩
      rw [e]
      exact ih (i + 1) (by omega)
    · refine Ev.step (f := fun _ => some false) (fun k => by
        simp only [changeforgeref5_SameVersion.l0]
        rw [if_pos (by omega), if_pos (by omega), if_pos (by omega), rdOf_get _ _ _ (by omega), rdOf_get _ _ _ (by omega), if_neg (fun e => h (toList_iff.1 e))]) ?_
      rw [decide_eq_false (fun e => h (List.cons.inj e).1)]
      exact Ev.now _
theorem rSame (a1 a2 a3 : Int) (p : List ByteArray) (b1 b2 b3 : Int) (q : List ByteArray) (hm : p.length ≤ 140737488351232) :
    Ev (fun k => changeforgeref5_SameVersion.f k a1 a2 a3 p b1 b2 b3 q) (decide (a1 = b1 ∧ a2 = b2 ∧ a3 = b3 ∧ p = q)) := by
  have jt : Ev (fun k => changeforgeref5_SameVersion.j0 k true a1 a2 a3 p b1 b2 b3 q) false := Ev.step (f := fun _ => some false) (fun k => by simp only [changeforgeref5_SameVersion.j0]; rfl) (Ev.now _)
  unfold changeforgeref5_SameVersion.f
  by_cases h1 : a1 = b1
  · simp only [if_pos h1]
    by_cases h2 : a2 = b2
    · simp only [if_pos h2]
      by_cases h3 : a3 = b3
      · simp only [if_pos h3]
        by_cases hl : p.length = q.length
        · have e : decide (a1 = b1 ∧ a2 = b2 ∧ a3 = b3 ∧ p = q) = decide (p.drop 0 = q.drop 0) := by
            rw [decide_eq_decide]
            exact ⟨fun h => h.2.2.2, fun h => ⟨h1, h2, h3, h⟩⟩
          rw [e]
          refine Ev.step (fun k => ?_) (same_loop a1 a2 a3 p b1 b2 b3 q hl hm p.length 0 (by omega))
          simp only [changeforgeref5_SameVersion.j0]
          rw [if_neg (by simp [hl])]
          rfl
        · rw [decide_eq_false (fun h => hl (by rw [h.2.2.2])), show ((p.length : Int) != (q.length : Int)) = true from bne_iff_ne.2 (fun h => hl (by omega))]
          exact jt
      · simp only [if_neg h3]
        rw [decide_eq_false (fun h => h3 h.2.2.1)]
        exact jt
    · simp only [if_neg h2]
      rw [decide_eq_false (fun h => h2 h.2.1)]
      exact jt
  · simp only [if_neg h1]
    rw [decide_eq_false (fun h => h1 h.1)]
    exact jt
theorem ev_bind {α β : Type} {g : Nat → Option α} {f : Nat → α → Option β} {a : α} {r : β} (h : Ev g a) (k : Ev (fun n => f n a) r) : Ev (fun n => (g n).bind (f n)) r := Ev.bind h k
theorem next_123 : version_Next.f 1 2 3 [] = some (1, 2, 4, [⟨#[48]⟩], 0, 0) := by kernel_rfl
theorem format_123 : version_Format.f 1 2 3 [⟨#[114, 99]⟩] = some (⟨#[49, 46, 50, 46, 51, 45, 114, 99]⟩, 0, 0) := by kernel_rfl
theorem parse_123 : version_Parse.f ⟨#[49, 46, 50, 46, 51, 45, 114, 99]⟩ = some (1, 2, 3, [⟨#[114, 99]⟩], 0, 0) := by kernel_rfl
theorem parse_023 : version_Parse.f ⟨#[49, 46, 48, 50, 46, 51]⟩ = some (0, 0, 0, [], 1, -1) := by kernel_rfl
theorem orders : Ev (fun k => changeforgelaw5_orders.f k) true := by
  have c1 := pCompare_ok 1 0 0 [⟨#[57]⟩] 1 0 0 [⟨#[49, 48]⟩] (by kernel_rfl) (by kernel_rfl)
  have v1 : verCmp 1 0 0 [⟨#[57]⟩] 1 0 0 [⟨#[49, 48]⟩] = -1 := by kernel_rfl
  have c2 := pCompare_ok 1 0 0 [] 1 0 0 [⟨#[97]⟩] (by kernel_rfl) (by kernel_rfl)
  have v2 : verCmp 1 0 0 [] 1 0 0 [⟨#[97]⟩] = 1 := by kernel_rfl
  rw [v1] at c1
  rw [v2] at c2
  have s1 := rSame 1 2 4 [⟨#[48]⟩] 1 2 4 [⟨#[48]⟩] (by decide)
  rw [decide_eq_true ⟨rfl, rfl, rfl, rfl⟩] at s1
  have s2 := rSame 1 2 3 [⟨#[114, 99]⟩] 1 2 3 [⟨#[114, 99]⟩] (by decide)
  rw [decide_eq_true ⟨rfl, rfl, rfl, rfl⟩] at s2
  unfold changeforgelaw5_orders.f changeforgelaw5_pre.f changeforgelaw5_ver.f changeforgelaw5_fault.f
  simp only [Option.bind_some]
  refine ev_bind c1 ?_
  refine ev_bind c2 ?_
  simp only [next_123, format_123, parse_123, parse_023, Option.bind_some, if_true]
  refine ev_bind s1 ?_
  simp only [if_true]
  simp only [if_pos (show (⟨#[49, 46, 50, 46, 51, 45, 114, 99]⟩ : ByteArray).toList = [49, 46, 50, 46, 51, 45, 114, 99] from by rw [chars_eq])]
  refine ev_bind s2 ?_
  exact Ev.now _
end Go.Proofs.YtggdbafmpmfmcaaDoor.Pure
