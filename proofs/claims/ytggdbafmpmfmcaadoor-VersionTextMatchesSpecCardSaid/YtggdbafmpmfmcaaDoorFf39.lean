/- A function of the program as a plain Lean function, and the proof that the call comes to just what it says (written by wip/tools/xprint.py for this claim). Condition: the plain function has an answer. -/
import Derived.Test.YtggdbafmpmfmcaaDoorFn0
import Derived.Test.YtggdbafmpmfmcaaDoorWA
import Derived.Test.YtggdbafmpmfmcaaDoorTight
namespace Go.Proofs.YtggdbafmpmfmcaaDoor.Fn
open Go.RowKit Go.Proofs.YtggdbafmpmfmcaaDoorW.PrintWords Go.Proofs.YtggdbafmpmfmcaaDoorW.PrintLast Go.Proofs.YtggdbafmpmfmcaaDoorW.PrintMore
attribute [local go_sem] max2_int min2_int max_two min_two max_three min_three max_four min_four   -- for this text's walks alone
set_option linter.unusedVariables false
set_option linter.unusedSimpArgs false

/-! ### changeforgeref5_until: function 39 -/
def changeforgeref5_until.l0 : Nat → ByteArray → Int → Int → Int → Option (ByteArray × ByteArray)
  | 0, _, _, _, _ => none
  | k + 1, x0, x1, x2, x8 => if x8 < (x0.size : Int) then (if 0 ≤ x8 then (if (bt x0 x8) = x1 then (if x8 ≤ (x0.size : Int) then (some (x0.extract 0 (x8 : Int).toNat, x0.extract (x8 : Int).toNat x0.size)) else (none)) else (if (bt x0 x8) = x2 then (if x8 ≤ (x0.size : Int) then (some (x0.extract 0 (x8 : Int).toNat, x0.extract (x8 : Int).toNat x0.size)) else (none)) else (changeforgeref5_until.l0 k x0 x1 x2 (wrap64 (x8 + 1))))) else (none)) else (if 0 ≤ x8 then (if x8 ≤ (x0.size : Int) then (some (x0.extract 0 (x8 : Int).toNat, x0.extract (x8 : Int).toNat x0.size)) else (none)) else (none))
def changeforgeref5_until.f (k : Nat) (a0 : ByteArray) (a1 : Int) (a2 : Int) : Option (ByteArray × ByteArray) := changeforgeref5_until.l0 k a0 a1 a2 0
theorem changeforgeref5_until.mono_l : ∀ k, (∀ y0 y1 y2 y3, LeO (changeforgeref5_until.l0 k y0 y1 y2 y3) (changeforgeref5_until.l0 (k + 1) y0 y1 y2 y3))
  | 0 => fun _ _ _ _ r h => by simp [changeforgeref5_until.l0] at h
  | k + 1 => by
    have ih0 := changeforgeref5_until.mono_l k
    · intro y0 y1 y2 y3
      unfold changeforgeref5_until.l0
      repeat' first
      | (with_reducible exact ih0 _ _ _ _)
      | (with_reducible exact LeO.refl _)
      | (with_reducible exact LeO.none _)
      | (with_reducible refine LeO.ite ?_ ?_)
      | (with_reducible refine LeO.bind ?_ (fun _ => ?_))
      | exact ih0 _ _ _ _
      | exact LeO.none _
      | refine LeO.ite ?_ ?_
      | refine LeO.bind ?_ (fun _ => ?_)
theorem changeforgeref5_until.mono : ∀ a0 a1 a2 k, LeO (changeforgeref5_until.f k a0 a1 a2) (changeforgeref5_until.f (k + 1) a0 a1 a2) := by
  intro a0 a1 a2 k
  have ih0 := changeforgeref5_until.mono_l k
  unfold changeforgeref5_until.f
  repeat' first
      | (with_reducible exact ih0 _ _ _ _)
      | (with_reducible exact LeO.refl _)
      | (with_reducible exact LeO.none _)
      | (with_reducible refine LeO.ite ?_ ?_)
      | (with_reducible refine LeO.bind ?_ (fun _ => ?_))
      | exact ih0 _ _ _ _
      | exact LeO.none _
      | refine LeO.ite ?_ ?_
      | refine LeO.bind ?_ (fun _ => ?_)
set_option maxHeartbeats 8000000 in
set_option maxRecDepth 100000 in
theorem changeforgeref5_until.calls (k : Nat) (a0 : ByteArray) (a1 : Int) (a2 : Int) (r1 : ByteArray) (r2 : ByteArray) (w : World) (h : changeforgeref5_until.f k a0 a1 a2 = some (r1, r2)) :
    Calls Tryd.prog 39 #[.string a0, .int .u8 a1, .int .u8 a2] w fun e w' => e = .returned (.tuple #[.string r1, .string r2]) ∧ Drawn0 w w' := by
  have H : (changeforgeref5_until.l0 k a0 a1 a2 0) = some (r1, r2) := h
  clear h
  have H' := Aside0.mk H
  clear H
  go_enter Tryd.func39, Tryd.ntmps39
  go_wp2
  repeat (go_quiet (fail); try go_wp2)
  go_loopg [8] k (fun kq v8 w' => ∃ (x8_1 : Int), v8 = .int .i64 x8_1 ∧ Aside0 (changeforgeref5_until.l0 kq a0 a1 a2 x8_1 = some (r1, r2)) ∧ Aside0 (kq ≤ k) ∧ Drawn0 w w')
  case atStart => exact ⟨(0), fr_, H', ⟨Nat.le_refl _⟩, by repeat (first | exact Drawn0.refl _ | apply Drawn0.step)⟩
  case round =>
    clear H'
    (try clear p2)
    (try clear c3)
    obtain ⟨x8_1, rfl, HA, HK1, ⟨m1, rfl⟩⟩ := hrel
    cases gk with
    | zero => exact absurd HA.out (by simp [changeforgeref5_until.l0])
    | succ k1 =>
      have H := HA.out
      clear HA
      simp only [changeforgeref5_until.l0] at H
      by_cases c4 : x8_1 < (a0.size : Int)
      · rw [if_pos c4] at H
        have c4b0 : decide (x8_1 < (a0.size : Int)) = true := decide_eq_true c4
        clear c4
        by_cases c5 : 0 ≤ x8_1
        · rw [if_pos c5] at H
          have c5b0 : decide (0 ≤ x8_1) = true := decide_eq_true c5
          clear c5
          by_cases c7 : (bt a0 x8_1) = a1
          · rw [if_pos c7] at H
            have c7b0 : ((bt a0 x8_1) == a1) = true := beq_iff_eq.mpr c7
            have c7b1 : ((bt a0 x8_1) != a1) = false := bne_eq_false_iff_eq.mpr c7
            clear c7
            have c8b0 := eq_true (of_decide_eq_true as_ : 0 ≤ x8_1)
            by_cases c9 : x8_1 ≤ (a0.size : Int)
            · rw [if_pos c9] at H
              have c9b0 := eq_true c9
              have c9b1 : decide (x8_1 ≤ (a0.size : Int)) = true := decide_eq_true c9
              clear c9
              have c10b0 := eq_true (of_decide_eq_true as_ : 0 ≤ x8_1)
              have c11b0 := eq_true (of_decide_eq_true as_ : x8_1 ≤ (a0.size : Int))
              simp only [Option.some.injEq, Prod.mk.injEq] at H
              obtain ⟨rfl, rfl⟩ := H
              have p6 : 0 ≤ (x8_1 : Int) := of_decide_eq_true as_
              have q6 : x8_1 < (a0.size : Int) := of_decide_eq_true as_
              have hx6 := bt_at a0 x8_1
              replace p6 := eq_true p6
              replace q6 := eq_true q6
              go_wp2
              repeat (go_quiet (fail); try go_wp2)
              go_ret2
              exact ⟨by first | rfl | (simp; done) | (simp only [IntWalk.i64_left]; done) | (simp [*]; done), by repeat (first | exact Drawn0.refl _ | apply Drawn0.step)⟩
            · rw [if_neg c9] at H
              exact absurd H (by simp)
          · rw [if_neg c7] at H
            have c7b0 : ((bt a0 x8_1) == a1) = false := beq_eq_false_iff_ne.mpr c7
            have c7b1 : ((bt a0 x8_1) != a1) = true := bne_iff_ne.mpr c7
            by_cases c13 : (bt a0 x8_1) = a2
            · rw [if_pos c13] at H
              have c13b0 : ((bt a0 x8_1) == a2) = true := beq_iff_eq.mpr c13
              have c13b1 : ((bt a0 x8_1) != a2) = false := bne_eq_false_iff_eq.mpr c13
              clear c13
              have c14b0 := eq_true (of_decide_eq_true as_ : 0 ≤ x8_1)
              by_cases c15 : x8_1 ≤ (a0.size : Int)
              · rw [if_pos c15] at H
                have c15b0 := eq_true c15
                have c15b1 : decide (x8_1 ≤ (a0.size : Int)) = true := decide_eq_true c15
                clear c15
                have c16b0 := eq_true (of_decide_eq_true as_ : 0 ≤ x8_1)
                have c17b0 := eq_true (of_decide_eq_true as_ : x8_1 ≤ (a0.size : Int))
                simp only [Option.some.injEq, Prod.mk.injEq] at H
                obtain ⟨rfl, rfl⟩ := H
                have p6 : 0 ≤ (x8_1 : Int) := of_decide_eq_true as_
                have q6 : x8_1 < (a0.size : Int) := of_decide_eq_true as_
                have hx6 := bt_at a0 x8_1
                replace p6 := eq_true p6
                replace q6 := eq_true q6
                have p12 : 0 ≤ (x8_1 : Int) := of_decide_eq_true as_
                have q12 : x8_1 < (a0.size : Int) := of_decide_eq_true as_
                have hx12 := bt_at a0 x8_1
                replace p12 := eq_true p12
                replace q12 := eq_true q12
                go_wp2
                repeat (go_quiet (fail); try go_wp2)
                go_ret2
                exact ⟨by first | rfl | (simp; done) | (simp only [IntWalk.i64_left]; done) | (simp [*]; done), by repeat (first | exact Drawn0.refl _ | apply Drawn0.step)⟩
              · rw [if_neg c15] at H
                exact absurd H (by simp)
            · rw [if_neg c13] at H
              have c13b0 : ((bt a0 x8_1) == a2) = false := beq_eq_false_iff_ne.mpr c13
              have c13b1 : ((bt a0 x8_1) != a2) = true := bne_iff_ne.mpr c13
              have H' := Aside0.mk H
              clear H
              have p6 : 0 ≤ (x8_1 : Int) := of_decide_eq_true as_
              have q6 : x8_1 < (a0.size : Int) := of_decide_eq_true as_
              have hx6 := bt_at a0 x8_1
              replace p6 := eq_true p6
              replace q6 := eq_true q6
              have p12 : 0 ≤ (x8_1 : Int) := of_decide_eq_true as_
              have q12 : x8_1 < (a0.size : Int) := of_decide_eq_true as_
              have hx12 := bt_at a0 x8_1
              replace p12 := eq_true p12
              replace q12 := eq_true q12
              go_wp2
              repeat (go_quiet (fail); try go_wp2)
              go_roundg k1
              case measure => have := HK1.out; omega
              case rel => exact ⟨(wrap64 (x8_1 + 1)), fr_, H', ⟨by have := HK1.out; omega⟩, by repeat (first | exact Drawn0.refl _ | apply Drawn0.step)⟩
        · rw [if_neg c5] at H
          exact absurd H (by simp)
      · rw [if_neg c4] at H
        have c4b0 : decide (x8_1 < (a0.size : Int)) = false := decide_eq_false c4
        clear c4
        by_cases c18 : 0 ≤ x8_1
        · rw [if_pos c18] at H
          have c18b0 := eq_true c18
          have c18b1 : decide (0 ≤ x8_1) = true := decide_eq_true c18
          clear c18
          by_cases c19 : x8_1 ≤ (a0.size : Int)
          · rw [if_pos c19] at H
            have c19b0 := eq_true c19
            have c19b1 : decide (x8_1 ≤ (a0.size : Int)) = true := decide_eq_true c19
            clear c19
            have c20b0 := eq_true (of_decide_eq_true as_ : 0 ≤ x8_1)
            have c21b0 := eq_true (of_decide_eq_true as_ : x8_1 ≤ (a0.size : Int))
            simp only [Option.some.injEq, Prod.mk.injEq] at H
            obtain ⟨rfl, rfl⟩ := H
            go_wp2
            repeat (go_quiet (fail); try go_wp2)
            go_ret2
            exact ⟨by first | rfl | (simp; done) | (simp only [IntWalk.i64_left]; done) | (simp [*]; done), by repeat (first | exact Drawn0.refl _ | apply Drawn0.step)⟩
          · rw [if_neg c19] at H
            exact absurd H (by simp)
        · rw [if_neg c18] at H
          exact absurd H (by simp)

end Go.Proofs.YtggdbafmpmfmcaaDoor.Fn
