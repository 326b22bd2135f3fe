/- A function of the program as a plain Lean function, and the proof that the call comes to just what it says (written by wip/tools/xprint.py for this claim). Condition: the plain function has an answer. -/
import Derived.Test.YtmpboljmigigfaaFn0
import Derived.Test.YtmpboljmigigfaaShelf
namespace Go.Proofs.Ytmpboljmigigfaa.Fn
open Go.RowKit Go.Proofs.YtmpboljmigigfaaW.PrintWords Go.Proofs.YtmpboljmigigfaaW.PrintLast Go.Proofs.YtmpboljmigigfaaW.PrintMore
attribute [local go_sem] max2_int min2_int max_two min_two max_three min_three max_four min_four   -- for this text's walks alone
set_option linter.unusedVariables false
set_option linter.unusedSimpArgs false

/-! ### bits_Mul64: function 50 -/
-- IMPORT Derived.Test.@SEAT@Shelf
def bits_Mul64.f (a0 : Int) (a1 : Int) : Option (Int × Int) := if 0 ≤ a0 ∧ a0 < 18446744073709551616 then (if 0 ≤ a1 ∧ a1 < 18446744073709551616 then some (a0 * a1 / 18446744073709551616, a0 * a1 % 18446744073709551616) else none) else none
theorem bits_Mul64.calls (a0 : Int) (a1 : Int) (r1 : Int) (r2 : Int) (w : World) (h : bits_Mul64.f a0 a1 = some (r1, r2)) :
    Calls Try.prog 50 #[.int .u64 a0, .int .u64 a1] w fun e w' => e = .returned (.tuple #[.int .u64 r1, .int .u64 r2]) ∧ Drawn0 w w' := by
  unfold bits_Mul64.f at h
  split at h
  · split at h
    · rename_i h0 h1
      obtain ⟨n, rfl⟩ := Int.eq_ofNat_of_zero_le h0.1
      obtain ⟨m, rfl⟩ := Int.eq_ofNat_of_zero_le h1.1
      simp only [Option.some.injEq, Prod.mk.injEq] at h
      obtain ⟨rfl, rfl⟩ := h
      have e1 : ((n * m / 18446744073709551616 : Nat) : Int) = (n : Int) * m / 18446744073709551616 := by rw [Int.natCast_ediv, Int.natCast_mul]; rfl
      have e2 : ((n * m % 18446744073709551616 : Nat) : Int) = (n : Int) * m % 18446744073709551616 := by rw [Int.natCast_emod, Int.natCast_mul]; rfl
      refine (Try.bits_Mul64 n m (by omega) (by omega) w).mono ?_
      rintro e w' ⟨rfl, rfl⟩
      rw [e1, e2]
      exact ⟨rfl, Drawn0.refl _⟩
    · exact absurd h (by simp)
  · exact absurd h (by simp)

end Go.Proofs.Ytmpboljmigigfaa.Fn
