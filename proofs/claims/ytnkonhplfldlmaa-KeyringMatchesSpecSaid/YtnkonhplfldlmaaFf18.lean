/- A function of the program as a plain Lean function, and the proof that the call comes to just what it says (written by wip/tools/xprint.py for this claim). Condition: the plain function has an answer. -/
import Derived.Test.YtnkonhplfldlmaaFn0
import Derived.Test.YtnkonhplfldlmaaFf24
import Derived.Test.YtnkonhplfldlmaaWA
import Derived.Test.YtnkonhplfldlmaaTight
namespace Go.Proofs.Ytnkonhplfldlmaa.Fn
open Go.RowKit Go.Proofs.YtnkonhplfldlmaaW.PrintWords Go.Proofs.YtnkonhplfldlmaaW.PrintLast Go.Proofs.YtnkonhplfldlmaaW.PrintMore
attribute [local go_sem] max2_int min2_int max_two min_two max_three min_three max_four min_four   -- for this text's walks alone
set_option linter.unusedVariables false
set_option linter.unusedSimpArgs false

/-! ### changeforgeref5_KeyValid: function 18 -/
def changeforgeref5_KeyValid.f (k : Nat) (l0 : List (S45)) (a1 : Int) (a2 : Int) : Option (Bool) := (changeforgeref5_KeyTime.f k l0 a1 1).bind fun t101 => ((changeforgeref5_KeyTime.f k l0 a1 2).bind fun t102 => (if t101 ≥ 0 then (if t101 ≤ a2 then (if t102 < 0 then (some true) else (some (decide (a2 < t102)))) else (some false)) else (some false)))
theorem changeforgeref5_KeyValid.mono : ∀ a0 a1 a2 k, LeO (changeforgeref5_KeyValid.f k a0 a1 a2) (changeforgeref5_KeyValid.f (k + 1) a0 a1 a2) := by
  intro a0 a1 a2 k
  unfold changeforgeref5_KeyValid.f
  repeat' first
      | (with_reducible exact changeforgeref5_KeyTime.mono _ _ _ _)
      | (with_reducible exact LeO.refl _)
      | (with_reducible exact LeO.none _)
      | (with_reducible refine LeO.ite ?_ ?_)
      | (with_reducible refine LeO.bind ?_ (fun _ => ?_))
      | exact changeforgeref5_KeyTime.mono _ _ _ _
      | exact LeO.none _
      | refine LeO.ite ?_ ?_
      | refine LeO.bind ?_ (fun _ => ?_)
set_option maxHeartbeats 8000000 in
set_option maxRecDepth 100000 in
theorem changeforgeref5_KeyValid.calls (k : Nat) (A0 : Option Addr) (c0 : Nat) (l0 : List (S45)) (a1 : Int) (a2 : Int) (r : Bool) (w : World) (hr0 : Kd.C k45 w A0 l0.length l0) (hc0 : l0.length ≤ c0) (h : changeforgeref5_KeyValid.f k l0 a1 a2 = some r) :
    Calls Try.prog 18 #[.slice A0 l0.length c0, .int .i64 a1, .int .i64 a2] w fun e w' => e = .returned (.bool r) ∧ Drawn0 w w' := by
  have HR0 := Aside0.mk hr0
  have HC0 := Aside0.mk hc0
  clear hr0 hc0
  have H : ((changeforgeref5_KeyTime.f k l0 a1 1).bind fun t101 => ((changeforgeref5_KeyTime.f k l0 a1 2).bind fun t102 => (if t101 ≥ 0 then (if t101 ≤ a2 then (if t102 < 0 then (some true) else (some (decide (a2 < t102)))) else (some false)) else (some false)))) = some r := h
  clear h
  replace H := Option.bind_eq_some_iff.mp H
  obtain ⟨t101, A40, H⟩ := H
  replace H : ((changeforgeref5_KeyTime.f k l0 a1 2).bind fun t102 => (if t101 ≥ 0 then (if t101 ≤ a2 then (if t102 < 0 then (some true) else (some (decide (a2 < t102)))) else (some false)) else (some false))) = some r := H
  have A4 := Aside0.mk A40
  clear A40
  replace H := Option.bind_eq_some_iff.mp H
  obtain ⟨t102, A50, H⟩ := H
  replace H : (if t101 ≥ 0 then (if t101 ≤ a2 then (if t102 < 0 then (some true) else (some (decide (a2 < t102)))) else (some false)) else (some false)) = some r := H
  have A5 := Aside0.mk A50
  clear A50
  by_cases c6 : t101 ≥ 0
  · rw [if_pos c6] at H
    have c6b0 : decide (0 ≤ t101) = true := decide_eq_true c6
    clear c6
    by_cases c7 : t101 ≤ a2
    · rw [if_pos c7] at H
      have c7b0 : decide (t101 ≤ a2) = true := decide_eq_true c7
      clear c7
      by_cases c8 : t102 < 0
      · rw [if_pos c8] at H
        have c8b0 : decide (t102 < 0) = true := decide_eq_true c8
        clear c8
        obtain rfl := Option.some.inj H
        go_enter Try.func18, Try.ntmps18
        go_wp2_with (first | ((with_reducible refine gate_callee (f := 24) rfl ?_); refine goesL_ (some 11) rfl rfl Try.func24 (by kernel_rfl) rfl #[.slice A0 l0.length c0, .int .i64 a1, .int .i64 1] rfl ln_ ?_; (with_reducible refine (changeforgeref5_KeyTime.calls k _ _ l0 a1 1 t101 _ ?side1 ?side2 A4.out).mono ?_); (case side1 => first | exact HR0.out | exact Kd.C_mv HR0.out); (case side2 => exact HC0.out); rintro e w' ⟨rfl, ⟨nd, rfl⟩⟩; refine ⟨_, rfl, ?_⟩) | ((with_reducible refine gate_callee (f := 24) rfl ?_); refine goesL_ (some 14) rfl rfl Try.func24 (by kernel_rfl) rfl #[.slice A0 l0.length c0, .int .i64 a1, .int .i64 2] rfl ln_ ?_; (with_reducible refine (changeforgeref5_KeyTime.calls k _ _ l0 a1 2 t102 _ ?side1 ?side2 A5.out).mono ?_); (case side1 => first | exact HR0.out | exact Kd.C_mv HR0.out); (case side2 => exact HC0.out); rintro e w' ⟨rfl, ⟨nd, rfl⟩⟩; refine ⟨_, rfl, ?_⟩))
        go_ret
        exact ⟨by first | rfl | (simp; done) | (simp only [IntWalk.i64_left]; done) | (simp [*]; done), by repeat (first | exact Drawn0.refl _ | apply Drawn0.step)⟩
      · rw [if_neg c8] at H
        have c8b0 : decide (t102 < 0) = false := decide_eq_false c8
        clear c8
        obtain rfl := Option.some.inj H
        go_enter Try.func18, Try.ntmps18
        go_wp2_with (first | ((with_reducible refine gate_callee (f := 24) rfl ?_); refine goesL_ (some 11) rfl rfl Try.func24 (by kernel_rfl) rfl #[.slice A0 l0.length c0, .int .i64 a1, .int .i64 1] rfl ln_ ?_; (with_reducible refine (changeforgeref5_KeyTime.calls k _ _ l0 a1 1 t101 _ ?side1 ?side2 A4.out).mono ?_); (case side1 => first | exact HR0.out | exact Kd.C_mv HR0.out); (case side2 => exact HC0.out); rintro e w' ⟨rfl, ⟨nd, rfl⟩⟩; refine ⟨_, rfl, ?_⟩) | ((with_reducible refine gate_callee (f := 24) rfl ?_); refine goesL_ (some 14) rfl rfl Try.func24 (by kernel_rfl) rfl #[.slice A0 l0.length c0, .int .i64 a1, .int .i64 2] rfl ln_ ?_; (with_reducible refine (changeforgeref5_KeyTime.calls k _ _ l0 a1 2 t102 _ ?side1 ?side2 A5.out).mono ?_); (case side1 => first | exact HR0.out | exact Kd.C_mv HR0.out); (case side2 => exact HC0.out); rintro e w' ⟨rfl, ⟨nd, rfl⟩⟩; refine ⟨_, rfl, ?_⟩))
        go_ret
        exact ⟨by first | rfl | (simp; done) | (simp only [IntWalk.i64_left]; done) | (simp [*]; done), by repeat (first | exact Drawn0.refl _ | apply Drawn0.step)⟩
    · rw [if_neg c7] at H
      have c7b0 : decide (t101 ≤ a2) = false := decide_eq_false c7
      clear c7
      obtain rfl := Option.some.inj H
      go_enter Try.func18, Try.ntmps18
      go_wp2_with (first | ((with_reducible refine gate_callee (f := 24) rfl ?_); refine goesL_ (some 11) rfl rfl Try.func24 (by kernel_rfl) rfl #[.slice A0 l0.length c0, .int .i64 a1, .int .i64 1] rfl ln_ ?_; (with_reducible refine (changeforgeref5_KeyTime.calls k _ _ l0 a1 1 t101 _ ?side1 ?side2 A4.out).mono ?_); (case side1 => first | exact HR0.out | exact Kd.C_mv HR0.out); (case side2 => exact HC0.out); rintro e w' ⟨rfl, ⟨nd, rfl⟩⟩; refine ⟨_, rfl, ?_⟩) | ((with_reducible refine gate_callee (f := 24) rfl ?_); refine goesL_ (some 14) rfl rfl Try.func24 (by kernel_rfl) rfl #[.slice A0 l0.length c0, .int .i64 a1, .int .i64 2] rfl ln_ ?_; (with_reducible refine (changeforgeref5_KeyTime.calls k _ _ l0 a1 2 t102 _ ?side1 ?side2 A5.out).mono ?_); (case side1 => first | exact HR0.out | exact Kd.C_mv HR0.out); (case side2 => exact HC0.out); rintro e w' ⟨rfl, ⟨nd, rfl⟩⟩; refine ⟨_, rfl, ?_⟩))
      go_ret
      exact ⟨by first | rfl | (simp; done) | (simp only [IntWalk.i64_left]; done) | (simp [*]; done), by repeat (first | exact Drawn0.refl _ | apply Drawn0.step)⟩
  · rw [if_neg c6] at H
    have c6b0 : decide (0 ≤ t101) = false := decide_eq_false c6
    clear c6
    obtain rfl := Option.some.inj H
    go_enter Try.func18, Try.ntmps18
    go_wp2_with (first | ((with_reducible refine gate_callee (f := 24) rfl ?_); refine goesL_ (some 11) rfl rfl Try.func24 (by kernel_rfl) rfl #[.slice A0 l0.length c0, .int .i64 a1, .int .i64 1] rfl ln_ ?_; (with_reducible refine (changeforgeref5_KeyTime.calls k _ _ l0 a1 1 t101 _ ?side1 ?side2 A4.out).mono ?_); (case side1 => first | exact HR0.out | exact Kd.C_mv HR0.out); (case side2 => exact HC0.out); rintro e w' ⟨rfl, ⟨nd, rfl⟩⟩; refine ⟨_, rfl, ?_⟩) | ((with_reducible refine gate_callee (f := 24) rfl ?_); refine goesL_ (some 14) rfl rfl Try.func24 (by kernel_rfl) rfl #[.slice A0 l0.length c0, .int .i64 a1, .int .i64 2] rfl ln_ ?_; (with_reducible refine (changeforgeref5_KeyTime.calls k _ _ l0 a1 2 t102 _ ?side1 ?side2 A5.out).mono ?_); (case side1 => first | exact HR0.out | exact Kd.C_mv HR0.out); (case side2 => exact HC0.out); rintro e w' ⟨rfl, ⟨nd, rfl⟩⟩; refine ⟨_, rfl, ?_⟩))
    go_ret
    exact ⟨by first | rfl | (simp; done) | (simp only [IntWalk.i64_left]; done) | (simp [*]; done), by repeat (first | exact Drawn0.refl _ | apply Drawn0.step)⟩

end Go.Proofs.Ytnkonhplfldlmaa.Fn
