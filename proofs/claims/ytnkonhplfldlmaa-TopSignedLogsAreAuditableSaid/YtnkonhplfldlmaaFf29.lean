/- A function of the program as a plain Lean function, and the proof that the call comes to just what it says (written by wip/tools/xprint.py for this claim). Condition: the plain function has an answer. -/
import Derived.Test.YtnkonhplfldlmaaFn0
import Derived.Test.YtnkonhplfldlmaaFs0
import Derived.Test.YtnkonhplfldlmaaWA
import Derived.Test.YtnkonhplfldlmaaTight
namespace Go.Proofs.Ytnkonhplfldlmaa.Fn
open Go.RowKit Go.Proofs.YtnkonhplfldlmaaW.PrintWords Go.Proofs.YtnkonhplfldlmaaW.PrintLast Go.Proofs.YtnkonhplfldlmaaW.PrintMore
attribute [local go_sem] max2_int min2_int max_two min_two max_three min_three max_four min_four   -- for this text's walks alone
set_option linter.unusedVariables false
set_option linter.unusedSimpArgs false

/-! ### changeforgeref5_LeavesFault: function 29 -/
def changeforgeref5_LeavesFault.l0 : Nat → List Int → Int → Option (Int × Int)
  | 0, _, _ => none
  | k + 1, x0, x3 => if x3 < (x0.length : Int) then (if 0 ≤ x3 then ((changeforgeref5_IsDigest.f (rd x0 x3)).bind fun t105 => (if t105 = true then (changeforgeref5_LeavesFault.l0 k x0 (wrap64 (x3 + 1))) else ((changeforgeref5_fault.f 3 x3).bind fun bt106 => (some (bt106.1, bt106.2))))) else (none)) else (some (0, 0))
def changeforgeref5_LeavesFault.f (k : Nat) (l0 : List Int) : Option (Int × Int) := if (l0.length : Int) > 64 then ((changeforgeref5_fault.f 2 (-1)).bind fun bt102 => (some (bt102.1, bt102.2))) else (changeforgeref5_LeavesFault.l0 k l0 0)
theorem changeforgeref5_LeavesFault.mono_l : ∀ k, (∀ y0 y1, LeO (changeforgeref5_LeavesFault.l0 k y0 y1) (changeforgeref5_LeavesFault.l0 (k + 1) y0 y1))
  | 0 => fun _ _ r h => by simp [changeforgeref5_LeavesFault.l0] at h
  | k + 1 => by
    have ih0 := changeforgeref5_LeavesFault.mono_l k
    · intro y0 y1
      unfold changeforgeref5_LeavesFault.l0
      repeat' first
      | (with_reducible exact ih0 _ _)
      | (with_reducible exact LeO.refl _)
      | (with_reducible exact LeO.none _)
      | (with_reducible refine LeO.ite ?_ ?_)
      | (with_reducible refine LeO.bind ?_ (fun _ => ?_))
      | exact ih0 _ _
      | exact LeO.none _
      | refine LeO.ite ?_ ?_
      | refine LeO.bind ?_ (fun _ => ?_)
theorem changeforgeref5_LeavesFault.mono : ∀ a0 k, LeO (changeforgeref5_LeavesFault.f k a0) (changeforgeref5_LeavesFault.f (k + 1) a0) := by
  intro a0 k
  have ih0 := changeforgeref5_LeavesFault.mono_l k
  unfold changeforgeref5_LeavesFault.f
  repeat' first
      | (with_reducible exact ih0 _ _)
      | (with_reducible exact LeO.refl _)
      | (with_reducible exact LeO.none _)
      | (with_reducible refine LeO.ite ?_ ?_)
      | (with_reducible refine LeO.bind ?_ (fun _ => ?_))
      | exact ih0 _ _
      | exact LeO.none _
      | refine LeO.ite ?_ ?_
      | refine LeO.bind ?_ (fun _ => ?_)
set_option maxHeartbeats 8000000 in
set_option maxRecDepth 100000 in
theorem changeforgeref5_LeavesFault.calls (k : Nat) (A0 : Option Addr) (c0 : Nat) (l0 : List Int) (r1 : Int) (r2 : Int) (w : World) (hr0 : Kd.C (Kd.int .i64) w A0 l0.length l0) (hc0 : l0.length ≤ c0) (h : changeforgeref5_LeavesFault.f k l0 = some (r1, r2)) :
    Calls Try.prog 29 #[.slice A0 l0.length c0] w fun e w' => e = .returned (.agg #[.int .i64 r1, .int .i64 r2]) ∧ Below w.heap.size w w' := by
  have hu24 := Try.underlying24
  have HR0 := Aside0.mk hr0
  have HC0 := Aside0.mk hc0
  clear hr0 hc0
  have HB := Aside0.mk (Below.refl w.heap.size w)
  have H : (if (l0.length : Int) > 64 then ((changeforgeref5_fault.f 2 (-1)).bind fun bt102 => (some (bt102.1, bt102.2))) else (changeforgeref5_LeavesFault.l0 k l0 0)) = some (r1, r2) := h
  clear h
  by_cases c2 : (l0.length : Int) > 64
  · rw [if_pos c2] at H
    have c2b0 : decide (64 < (l0.length : Int)) = true := decide_eq_true c2
    have c2b1 : decide (64 < l0.length) = true := decide_eq_true (by omega)
    clear c2
    replace H := Option.bind_eq_some_iff.mp H
    obtain ⟨⟨t102, t103⟩, A30, H⟩ := H
    replace H : (some (t102, t103)) = some (r1, r2) := H
    have A3 := Aside0.mk A30
    clear A30
    simp only [Option.some.injEq, Prod.mk.injEq] at H
    obtain ⟨rfl, rfl⟩ := H
    go_enter Try.func29, Try.ntmps29
    go_wp2_with (first | ((with_reducible refine gate_dst (N := 2) rfl ?_); refine box_event ?hg (N := 2) ?hd (cs := #[.int .i64 0, .int .i64 0]) (t := 24) ?hr ?_; (case hd => rfl); (case hg => rfl); (case hr => first | (go_simp; done) | (go_simp; rfl)); intro gb101 hg w4 hbox hb; have BK101 := Aside0.mk (hbox); have GW101 := Aside0.mk ((bs_ : w.heap.size ≤ gb101)); have GE101 := Aside0.mk ((bs_ : w.heap.size ≤ gb101)); replace HB := Aside0.mk (below_step bel_ hb); clear hb hbox hg) | ((with_reducible refine gate_callee (f := 38) rfl ?_); refine goesL_ (some 7) rfl rfl Try.func38 (by kernel_rfl) rfl #[.int .i64 2, .int .i64 (-1)] rfl ln_ ?_; (with_reducible refine (changeforgeref5_fault.calls 2 (-1) t102 t103 _ A3.out).mono ?_); rintro e w5 ⟨rfl, hb⟩; refine ⟨_, rfl, ?_⟩; replace BK101 := Aside0.mk (blk_below (blk_mv BK101.out) hb); replace HB := Aside0.mk (below_step bel_ hb); (try clear hb); (try clear hb2); (try clear hk); (try clear hi); have hcz6_0 := blk_c (v := .int .i64 0) BK101.out 0 rfl; have hcz6_1 := blk_c (v := .int .i64 0) BK101.out 1 rfl; have hfz6_0 := blk_frozen BK101.out 0; have hfz6_1 := blk_frozen BK101.out 1))
    refine bodyPost_ret (results_cell_row rfl _ _ gb101 24 #[.int .i64 t102, .int .i64 t103] (0, 0) _ rfl (by refine blk_mv ?_; refine blk_put (cs := #[.int .i64 t102, .int .i64 0]) ?_ 1 _ rfl; refine blk_mv ?_; refine blk_put (cs := #[.int .i64 0, .int .i64 0]) ?_ 0 _ rfl; refine blk_mv ?_; exact BK101.out) Try.underlying24 rfl (by kernel_rfl)) rfl ?_
    exact ⟨by first | rfl | (simp [errW_none, errW_some] <;> rfl) | (simp [*, errW_none, errW_some] <;> rfl), bel_⟩
  · rw [if_neg c2] at H
    have c2b0 : decide (64 < (l0.length : Int)) = false := decide_eq_false c2
    have c2b1 : decide (64 < l0.length) = false := decide_eq_false (by omega)
    clear c2
    have H' := Aside0.mk H
    clear H
    go_enter Try.func29, Try.ntmps29
    go_wp2_with (first | ((with_reducible refine gate_dst (N := 2) rfl ?_); refine box_event ?hg (N := 2) ?hd (cs := #[.int .i64 0, .int .i64 0]) (t := 24) ?hr ?_; (case hd => rfl); (case hg => rfl); (case hr => first | (go_simp; done) | (go_simp; rfl)); intro gb101 hg w7 hbox hb; have BK101 := Aside0.mk (hbox); have GW101 := Aside0.mk ((bs_ : w.heap.size ≤ gb101)); have GE101 := Aside0.mk ((bs_ : w.heap.size ≤ gb101)); replace HB := Aside0.mk (below_step bel_ hb); clear hb hbox hg))
    go_loopg [3] k (fun kq v3 w' => ∃ (x3_1 : Int) (x102000_1 : Int) (x102001_1 : Int), v3 = .int .i64 x3_1 ∧ Aside0 (changeforgeref5_LeavesFault.l0 kq l0 x3_1 = some (r1, r2)) ∧ Aside0 (kq ≤ k) ∧ Aside0 (w'.heap[gb101]? = some (.cells #[.int .i64 x102000_1, .int .i64 x102001_1] 24 (0, 0))) ∧ Aside0 (Below w.heap.size w w'))
    case atStart => exact ⟨(0), (0), (0), fr_, H', ⟨Nat.le_refl _⟩, ⟨blk_mv BK101.out⟩, ⟨bel_⟩⟩
    case round =>
      clear H'
      (try clear c2)
      (try clear c2b0)
      (try clear c2b1)
      (try clear p2)
      (try clear c3)
      (try clear hcz6_0)
      (try clear hcz6_1)
      (try clear hfz6_0)
      (try clear hfz6_1)
      obtain ⟨x3_1, x102000_1, x102001_1, rfl, HA, HK1, BK101, HB⟩ := hrel
      cases gk with
      | zero => exact absurd HA.out (by simp [changeforgeref5_LeavesFault.l0])
      | succ k1 =>
        have H := HA.out
        clear HA
        simp only [changeforgeref5_LeavesFault.l0] at H
        by_cases c8 : x3_1 < (l0.length : Int)
        · rw [if_pos c8] at H
          have c8b0 : decide (x3_1 < (l0.length : Int)) = true := decide_eq_true c8
          clear c8
          by_cases c9 : 0 ≤ x3_1
          · rw [if_pos c9] at H
            have c9b0 : decide (0 ≤ x3_1) = true := decide_eq_true c9
            clear c9
            replace H := Option.bind_eq_some_iff.mp H
            obtain ⟨t105, A100, H⟩ := H
            replace H : (if t105 = true then (changeforgeref5_LeavesFault.l0 k1 l0 (wrap64 (x3_1 + 1))) else ((changeforgeref5_fault.f 3 x3_1).bind fun bt106 => (some (bt106.1, bt106.2)))) = some (r1, r2) := H
            have A10 := Aside0.mk A100
            clear A100
            by_cases c11 : t105 = true
            · subst c11
              have H1 : (changeforgeref5_LeavesFault.l0 k1 l0 (wrap64 (x3_1 + 1))) = some (r1, r2) := by rw [if_pos rfl] at H; exact H
              clear H
              have H := H1
              clear H1
              have H' := Aside0.mk H
              clear H
              have p104 : 0 ≤ (x3_1 : Int) := of_decide_eq_true as_
              have q104 : x3_1 < (l0.length : Int) := of_decide_eq_true as_
              obtain ⟨ad104, e104, hx104_0⟩ := Kd.at_int HR0.out x3_1 p104 q104
              cases e104
              replace hx104_0 := (HB.out.cell (World.block_lt_of_cell? w _ hx104_0)).trans hx104_0
              replace p104 := eq_true p104
              replace q104 := eq_true q104
              go_wp2_with (first | ((with_reducible refine gate_callee (f := 52) rfl ?_); refine goesL_ (some 18) rfl rfl Try.func52 (by kernel_rfl) rfl #[.int .i64 (rd l0 x3_1)] rfl ln_ ?_; (with_reducible refine (changeforgeref5_IsDigest.calls (rd l0 x3_1) true _ A10.out).mono ?_); rintro e w' ⟨rfl, ⟨nd, rfl⟩⟩; refine ⟨_, rfl, ?_⟩))
              go_roundg k1
              case measure => have := HK1.out; omega
              case rel => exact ⟨(wrap64 (x3_1 + 1)), (x102000_1), (x102001_1), fr_, H', ⟨by have := HK1.out; omega⟩, ⟨blk_mv BK101.out⟩, ⟨bel_⟩⟩
            · replace c11 := Bool.eq_false_iff.mpr c11
              subst c11
              have H1 : ((changeforgeref5_fault.f 3 x3_1).bind fun bt106 => (some (bt106.1, bt106.2))) = some (r1, r2) := by rw [if_neg (show ¬ (false = true) by decide)] at H; exact H
              clear H
              have H := H1
              clear H1
              replace H := Option.bind_eq_some_iff.mp H
              obtain ⟨⟨t106, t107⟩, A120, H⟩ := H
              replace H : (some (t106, t107)) = some (r1, r2) := H
              have A12 := Aside0.mk A120
              clear A120
              simp only [Option.some.injEq, Prod.mk.injEq] at H
              obtain ⟨rfl, rfl⟩ := H
              have p104 : 0 ≤ (x3_1 : Int) := of_decide_eq_true as_
              have q104 : x3_1 < (l0.length : Int) := of_decide_eq_true as_
              obtain ⟨ad104, e104, hx104_0⟩ := Kd.at_int HR0.out x3_1 p104 q104
              cases e104
              replace hx104_0 := (HB.out.cell (World.block_lt_of_cell? w _ hx104_0)).trans hx104_0
              replace p104 := eq_true p104
              replace q104 := eq_true q104
              go_wp2_with (first | ((with_reducible refine gate_callee (f := 52) rfl ?_); refine goesL_ (some 18) rfl rfl Try.func52 (by kernel_rfl) rfl #[.int .i64 (rd l0 x3_1)] rfl ln_ ?_; (with_reducible refine (changeforgeref5_IsDigest.calls (rd l0 x3_1) false _ A10.out).mono ?_); rintro e w' ⟨rfl, ⟨nd, rfl⟩⟩; refine ⟨_, rfl, ?_⟩; (try (rw [drewN_self wr]; generalize hq_ : World.drewN wr _ = wr; have n0_ : Aside0 (wr.heap[gb101]? = some (.cells #[.int .i64 x102000_1, .int .i64 x102001_1] 24 (0, 0))) := ⟨by rw [← hq_]; exact (blk_mv BK101.out)⟩; have n1_ : Aside0 (Below w.heap.size w wr) := ⟨by rw [← hq_]; exact bel_⟩; clear BK101 HB hq_; have BK101 := n0_; have HB := n1_; clear n0_ n1_))) | ((with_reducible refine gate_callee (f := 38) rfl ?_); refine goesL_ (some 21) rfl rfl Try.func38 (by kernel_rfl) rfl #[.int .i64 3, .int .i64 x3_1] rfl ln_ ?_; (with_reducible refine (changeforgeref5_fault.calls 3 x3_1 t106 t107 _ A12.out).mono ?_); rintro e w13 ⟨rfl, hb⟩; refine ⟨_, rfl, ?_⟩; replace BK101 := Aside0.mk (blk_below (blk_mv BK101.out) hb); replace HB := Aside0.mk (below_step bel_ hb); (try clear hb); (try clear hb2); (try clear hk); (try clear hi); have hcz14_0 := blk_c (v := .int .i64 x102000_1) BK101.out 0 rfl; have hcz14_1 := blk_c (v := .int .i64 x102001_1) BK101.out 1 rfl; have hfz14_0 := blk_frozen BK101.out 0; have hfz14_1 := blk_frozen BK101.out 1))
              refine bodyPost_ret (results_cell_row rfl _ _ gb101 24 #[.int .i64 t106, .int .i64 t107] (0, 0) _ rfl (by refine blk_mv ?_; refine blk_put (cs := #[.int .i64 t106, .int .i64 x102001_1]) ?_ 1 _ rfl; refine blk_mv ?_; refine blk_put (cs := #[.int .i64 x102000_1, .int .i64 x102001_1]) ?_ 0 _ rfl; refine blk_mv ?_; exact BK101.out) Try.underlying24 rfl (by kernel_rfl)) rfl ?_
              exact ⟨by first | rfl | (simp [errW_none, errW_some] <;> rfl) | (simp [*, errW_none, errW_some] <;> rfl), bel_⟩
          · rw [if_neg c9] at H
            exact absurd H (by simp)
        · rw [if_neg c8] at H
          have c8b0 : decide (x3_1 < (l0.length : Int)) = false := decide_eq_false c8
          clear c8
          simp only [Option.some.injEq, Prod.mk.injEq] at H
          obtain ⟨rfl, rfl⟩ := H
          have hcz15_0 := blk_c (v := .int .i64 x102000_1) BK101.out 0 rfl
          have hcz15_1 := blk_c (v := .int .i64 x102001_1) BK101.out 1 rfl
          have hfz15_0 := blk_frozen BK101.out 0
          have hfz15_1 := blk_frozen BK101.out 1
          go_wp2
          refine bodyPost_ret (results_cell_row rfl _ _ gb101 24 #[.int .i64 0, .int .i64 0] (0, 0) _ rfl (by refine blk_mv ?_; refine blk_put (cs := #[.int .i64 0, .int .i64 x102001_1]) ?_ 1 _ rfl; refine blk_mv ?_; refine blk_put (cs := #[.int .i64 x102000_1, .int .i64 x102001_1]) ?_ 0 _ rfl; refine blk_mv ?_; exact BK101.out) Try.underlying24 rfl (by kernel_rfl)) rfl ?_
          exact ⟨by first | rfl | (simp [errW_none, errW_some] <;> rfl) | (simp [*, errW_none, errW_some] <;> rfl), bel_⟩

end Go.Proofs.Ytnkonhplfldlmaa.Fn
