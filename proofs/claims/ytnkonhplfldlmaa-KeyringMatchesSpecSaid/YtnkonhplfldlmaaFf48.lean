/- A function of the program as a plain Lean function, and the proof that the call comes to just what it says (written by wip/tools/xprint.py for this claim). Condition: the plain function has an answer. -/
import Derived.Test.YtnkonhplfldlmaaFn0
import Derived.Test.YtnkonhplfldlmaaFf65
import Derived.Test.YtnkonhplfldlmaaFf82
import Derived.Test.YtnkonhplfldlmaaFs0
import Derived.Test.YtnkonhplfldlmaaWA
import Derived.Test.YtnkonhplfldlmaaTight
namespace Go.Proofs.Ytnkonhplfldlmaa.Fn
open Go.RowKit Go.Proofs.YtnkonhplfldlmaaW.PrintWords Go.Proofs.YtnkonhplfldlmaaW.PrintLast Go.Proofs.YtnkonhplfldlmaaW.PrintMore
attribute [local go_sem] max2_int min2_int max_two min_two max_three min_three max_four min_four   -- for this text's walks alone
set_option linter.unusedVariables false
set_option linter.unusedSimpArgs false

/-! ### digest_Pair: function 48 -/
def digest_Pair.f (a0 : Int) (a1 : Int) : Option (Int × Int × Int) := if 0 ≤ a0 ∧ a0 < 2305843009213693951 then (if 0 ≤ a1 ∧ a1 < 2305843009213693951 then some ((a0 * 1000003 + a1 * 31 + 7) % 2305843009213693951, 0, 0) else some (0, 3, 1)) else some (0, 3, 0)
theorem digest_mul_f_eq (a b : Int) (h0 : 0 ≤ a) (h1 : a < 2305843009213693951) (h2 : 0 ≤ b) (h3 : b ≤ 1000003) (h4 : 0 ≤ a * b) (h5 : a * b < 2305850000000000000000000) : digest_mul.f a b = some (a * b % 2305843009213693951) := by
  unfold digest_mul.f bits_Mul64.f
  rw [if_pos (by omega), if_pos (by omega)]
  simp only [Option.bind_some]
  rw [Int.tmod_eq_emod_of_nonneg (by omega)]
  unfold bits_Div64.f
  rw [if_pos (by omega)]
  simp only [Option.bind_some, Option.some.injEq]
  omega
set_option maxHeartbeats 800000 in
set_option maxRecDepth 100000 in
theorem digest_Pair.calls (a0 : Int) (a1 : Int) (r1 : Int) (r2 : Int) (r3 : Int) (w : World) (h : digest_Pair.f a0 a1 = some (r1, r2, r3)) :
    Calls Try.prog 48 #[.int .i64 a0, .int .i64 a1] w fun e w' => e = .returned (.tuple #[.int .i64 r1, .agg #[.int .i64 r2, .int .i64 r3]]) ∧ Below w.heap.size w w' := by
  have i0 : ∀ w : World, (Instr.index 95 (.agg #[.int .i64 a0, .int .i64 a1]) (.int .i64 0)).run Try.prog w = .ok (.int .i64 a0) w := fun _ => by kernel_rfl
  have i1 : ∀ w : World, (Instr.index 95 (.agg #[.int .i64 a0, .int .i64 a1]) (.int .i64 1)).run Try.prog w = .ok (.int .i64 a1) w := fun _ => by kernel_rfl
  unfold digest_Pair.f at h
  by_cases c0 : 0 ≤ a0 ∧ a0 < 2305843009213693951
  · rw [if_pos c0] at h
    obtain ⟨c00, c01⟩ := c0
    by_cases c1 : 0 ≤ a1 ∧ a1 < 2305843009213693951
    · rw [if_pos c1] at h
      obtain ⟨c10, c11⟩ := c1
      simp only [Option.some.injEq, Prod.mk.injEq] at h
      obtain ⟨h, rfl, rfl⟩ := h
      have m0 := digest_mul_f_eq a0 1000003 c00 c01 (by omega) (by omega) (by omega) (by omega)
      have m1 := digest_mul_f_eq a1 31 c10 c11 (by omega) (by omega) (by omega) (by omega)
      obtain ⟨t0, ht0⟩ : ∃ t, a0 * 1000003 % 2305843009213693951 = t := ⟨_, rfl⟩
      obtain ⟨t1, ht1⟩ : ∃ t, a1 * 31 % 2305843009213693951 = t := ⟨_, rfl⟩
      rw [ht0] at m0
      rw [ht1] at m1
      have b0 : 0 ≤ t0 := by omega
      have b1 : t0 < 2305843009213693951 := by omega
      have b2 : 0 ≤ t1 := by omega
      have b3 : t1 < 2305843009213693951 := by omega
      have e0 : (t0 + t1 + 7) % 2305843009213693951 = r1 := by omega
      clear ht0 ht1 h
      have M0 := Aside0.mk m0
      have M1 := Aside0.mk m1
      have E0 := Aside0.mk e0
      clear m0 m1 e0
      go_enter Try.func48, Try.ntmps48
      go_wp2
      refine wp_loop_rounds 3 ?_
      rw [rounds_succ]
      go_wp2
      rw [rounds_succ]
      go_wp2
      rw [rounds_succ]
      go_wp2_with fail
      (with_reducible refine (digest_mul.calls a0 1000003 t0 _ M0.out).mono ?_)
      rintro e w' ⟨rfl, ⟨nd, rfl⟩⟩
      go_wp2_with fail
      (with_reducible refine (digest_mul.calls a1 31 t1 _ M1.out).mono ?_)
      rintro e w' ⟨rfl, ⟨nd', rfl⟩⟩
      go_wp2
      refine bodyPost_ret (results_tc rfl _ _ w.heap.size 24 #[.int .i64 0, .int .i64 0] (0, 0) _ rfl (by refine blk_put (cs := #[.int .i64 0, .int .i64 0]) ?_ 1 _ rfl; refine blk_put (cs := #[.int .i64 0, .int .i64 0]) ?_ 0 _ rfl; refine blk_drewN ?_ _; exact blk_new _ _) Try.underlying24 rfl (by kernel_rfl)) rfl ?_
      exact ⟨by rw [← E0.out]; rfl, below_set (below_set (pw_below_drewN (below_alloc (Below.refl _ _) _) _) (Nat.le_refl _)) (Nat.le_refl _)⟩
    · rw [if_neg c1] at h
      simp only [Option.some.injEq, Prod.mk.injEq] at h
      obtain ⟨rfl, rfl, rfl⟩ := h
      rcases (by omega : a1 < 0 ∨ 2305843009213693951 ≤ a1) with c2 | c2
      all_goals
        clear c1
        go_enter Try.func48, Try.ntmps48
        go_wp2
        refine wp_loop_rounds 2 ?_
        rw [rounds_succ]
        go_wp2
        rw [rounds_succ]
        go_wp2
        refine bodyPost_ret (results_tc rfl _ _ w.heap.size 24 #[.int .i64 3, .int .i64 1] (0, 0) _ rfl (blk_new _ _) Try.underlying24 rfl (by kernel_rfl)) rfl ?_
        exact ⟨rfl, below_alloc (Below.refl _ _) _⟩
  · rw [if_neg c0] at h
    simp only [Option.some.injEq, Prod.mk.injEq] at h
    obtain ⟨rfl, rfl, rfl⟩ := h
    rcases (by omega : a0 < 0 ∨ 2305843009213693951 ≤ a0) with c2 | c2
    all_goals
      clear c0
      go_enter Try.func48, Try.ntmps48
      go_wp2
      refine wp_loop_rounds 1 ?_
      rw [rounds_succ]
      go_wp2
      refine bodyPost_ret (results_tc rfl _ _ w.heap.size 24 #[.int .i64 3, .int .i64 0] (0, 0) _ rfl (blk_new _ _) Try.underlying24 rfl (by kernel_rfl)) rfl ?_
      exact ⟨rfl, below_alloc (Below.refl _ _) _⟩

end Go.Proofs.Ytnkonhplfldlmaa.Fn
