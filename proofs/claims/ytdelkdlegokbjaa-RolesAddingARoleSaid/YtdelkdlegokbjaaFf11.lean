/- A function of the program as a plain Lean function, and the proof that the call comes to just what it says (written by wip/tools/xprint.py for this claim). Condition: the plain function has an answer. -/
import Derived.Test.YtdelkdlegokbjaaFn0
import Derived.Test.YtdelkdlegokbjaaFf10
import Derived.Test.YtdelkdlegokbjaaFs0
import Derived.Test.YtdelkdlegokbjaaWA
import Derived.Test.YtdelkdlegokbjaaTight
namespace Go.Proofs.Ytdelkdlegokbjaa.Fn
open Go.RowKit Go.Proofs.YtdelkdlegokbjaaW.PrintWords Go.Proofs.YtdelkdlegokbjaaW.PrintLast Go.Proofs.YtdelkdlegokbjaaW.PrintMore
attribute [local go_sem] max2_int min2_int max_two min_two max_three min_three max_four min_four   -- for this text's walks alone
set_option linter.unusedVariables false
set_option linter.unusedSimpArgs false

/-! ### changeforgeref5_PathFault: function 11 -/
def changeforgeref5_PathFault.j0 : Nat → Bool → Int → Int → Option (Int × Int)
  | 0, _, _, _ => none
  | k + 1, x19, x105000, x105001 => if x19 = true then ((changeforgeref5_fault.f 12 (-2)).bind fun bt105 => (some (bt105.1, bt105.2))) else (some (x105000, x105001))
def changeforgeref5_PathFault.f (k : Nat) (l0 : List (S40)) (a1 : ByteArray) : Option (Int × Int) := (changeforgeref5_RolesFault.f k l0).bind fun bt102 => (if bt102.1 = 0 then (if a1.toList = ([] : List UInt8) then (changeforgeref5_PathFault.j0 k true bt102.1 bt102.2) else (changeforgeref5_PathFault.j0 k (decide ((a1.size : Int) > 60)) bt102.1 bt102.2)) else (changeforgeref5_PathFault.j0 k false bt102.1 bt102.2))
theorem changeforgeref5_PathFault.mono_l : ∀ k, (∀ y0 y1 y2, LeO (changeforgeref5_PathFault.j0 k y0 y1 y2) (changeforgeref5_PathFault.j0 (k + 1) y0 y1 y2))
  | 0 => fun _ _ _ r h => by simp [changeforgeref5_PathFault.j0] at h
  | k + 1 => by
    have ih0 := changeforgeref5_PathFault.mono_l k
    · intro y0 y1 y2
      unfold changeforgeref5_PathFault.j0
      repeat' first
      | (with_reducible exact ih0 _ _ _)
      | (with_reducible exact changeforgeref5_RolesFault.mono _ _)
      | (with_reducible exact LeO.refl _)
      | (with_reducible exact LeO.none _)
      | (with_reducible refine LeO.ite ?_ ?_)
      | (with_reducible refine LeO.bind ?_ (fun _ => ?_))
      | exact ih0 _ _ _
      | exact changeforgeref5_RolesFault.mono _ _
      | exact LeO.none _
      | refine LeO.ite ?_ ?_
      | refine LeO.bind ?_ (fun _ => ?_)
theorem changeforgeref5_PathFault.mono : ∀ a0 a1 k, LeO (changeforgeref5_PathFault.f k a0 a1) (changeforgeref5_PathFault.f (k + 1) a0 a1) := by
  intro a0 a1 k
  have ih0 := changeforgeref5_PathFault.mono_l k
  unfold changeforgeref5_PathFault.f
  repeat' first
      | (with_reducible exact ih0 _ _ _)
      | (with_reducible exact changeforgeref5_RolesFault.mono _ _)
      | (with_reducible exact LeO.refl _)
      | (with_reducible exact LeO.none _)
      | (with_reducible refine LeO.ite ?_ ?_)
      | (with_reducible refine LeO.bind ?_ (fun _ => ?_))
      | exact ih0 _ _ _
      | exact changeforgeref5_RolesFault.mono _ _
      | exact LeO.none _
      | refine LeO.ite ?_ ?_
      | refine LeO.bind ?_ (fun _ => ?_)
set_option maxHeartbeats 8000000 in
set_option maxRecDepth 100000 in
theorem changeforgeref5_PathFault.calls (k : Nat) (A0 : Option Addr) (c0 : Nat) (l0 : List (S40)) (a1 : ByteArray) (r1 : Int) (r2 : Int) (w : World) (hr0 : Kd.C k40 w A0 l0.length l0) (hc0 : l0.length ≤ c0) (h : changeforgeref5_PathFault.f k l0 a1 = some (r1, r2)) :
    Calls Try.prog 11 #[.slice A0 l0.length c0, .string a1] w fun e w' => e = .returned (.agg #[.int .i64 r1, .int .i64 r2]) ∧ Below w.heap.size w w' := by
  have hu27 := Try.underlying27
  have HR0 := Aside0.mk hr0
  have HC0 := Aside0.mk hc0
  clear hr0 hc0
  have HB := Aside0.mk (Below.refl w.heap.size w)
  have H : ((changeforgeref5_RolesFault.f k l0).bind fun bt102 => (if bt102.1 = 0 then (if a1.toList = ([] : List UInt8) then (changeforgeref5_PathFault.j0 k true bt102.1 bt102.2) else (changeforgeref5_PathFault.j0 k (decide ((a1.size : Int) > 60)) bt102.1 bt102.2)) else (changeforgeref5_PathFault.j0 k false bt102.1 bt102.2))) = some (r1, r2) := h
  clear h
  replace H := Option.bind_eq_some_iff.mp H
  obtain ⟨⟨t102, t103⟩, A30, H⟩ := H
  replace H : (if t102 = 0 then (if a1.toList = ([] : List UInt8) then (changeforgeref5_PathFault.j0 k true t102 t103) else (changeforgeref5_PathFault.j0 k (decide ((a1.size : Int) > 60)) t102 t103)) else (changeforgeref5_PathFault.j0 k false t102 t103)) = some (r1, r2) := H
  have A3 := Aside0.mk A30
  clear A30
  have HC4 := Aside0.mk H
  clear H
  go_enter Try.func11, Try.ntmps11
  go_upto_region 2 with (first | ((with_reducible refine gate_dst (N := 4) rfl ?_); (try (refine gate_guard (by rfl) ?_; dsimp only)); refine box_event ?hg (N := 4) ?hd (cs := #[.int .i64 0, .int .i64 0]) (t := 27) ?hr ?_; (case hd => rfl); (case hg => rfl); (case hr => first | (go_simp; done) | (go_simp; rfl)); intro gb101 hg w5 hbox hb; have BK101 := Aside0.mk (hbox); have GW101 := Aside0.mk ((bs_ : w.heap.size ≤ gb101)); have GE101 := Aside0.mk ((bs_ : w.heap.size ≤ gb101)); replace HB := Aside0.mk (below_step bel_ hb); clear hb hbox hg) | ((with_reducible refine gate_callee (f := 10) rfl ?_); refine goesL_ (some 7) rfl rfl Try.func10 (by kernel_rfl) rfl #[.slice A0 l0.length c0] rfl ln_ ?_; (with_reducible refine (changeforgeref5_RolesFault.calls k _ _ l0 t102 t103 _ ?side1 ?side2 A3.out).mono ?_); (case side1 => first | exact (Kd.C_below HR0.out HB.out) | exact Kd.C_mv (Kd.C_below HR0.out HB.out)); (case side2 => exact HC0.out); rintro e w6 ⟨rfl, hb⟩; refine ⟨_, rfl, ?_⟩; replace BK101 := Aside0.mk (blk_below (blk_mv BK101.out) hb); replace HB := Aside0.mk (below_step bel_ hb); (try clear hb); (try clear hb2); (try clear hk); (try clear hi)) | ((with_reducible refine gate_dst (N := 5) rfl ?_); (try (refine gate_guard (by rfl) ?_; dsimp only)); refine box_event ?hg (N := 5) ?hd (cs := #[.int .i64 0, .int .i64 0]) (t := 27) ?hr ?_; (case hd => rfl); (case hg => rfl); (case hr => first | (go_simp; done) | (go_simp; rfl)); intro gb104 hg w7 hbox hb; have BK104 := Aside0.mk (hbox); have GW104 := Aside0.mk ((bs_ : w.heap.size ≤ gb104)); have GE104 := Aside0.mk ((bs_ : w.heap.size ≤ gb104)); replace HB := Aside0.mk (below_step bel_ hb); have NB101_104 := Aside0.mk ((by rw [hg]; exact Nat.ne_of_lt (blk_lt (g := gb101) (o := .cells #[.int .i64 0, .int .i64 0] 27 (0, 0)) (blk_mv BK101.out)) : gb101 ≠ gb104)); have NB104_101 := Aside0.mk ((by rw [hg]; exact Nat.ne_of_gt (blk_lt (g := gb101) (o := .cells #[.int .i64 0, .int .i64 0] 27 (0, 0)) (blk_mv BK101.out)) : gb104 ≠ gb101)); replace BK101 := Aside0.mk (blk_below (blk_mv BK101.out) hb); clear hb hbox hg; have hnb8 := NB104_101.out; have hnc8 := NB101_104.out; have hcz9_0 := blk_c (v := .int .i64 0) BK104.out 0 rfl; have hcz9_1 := blk_c (v := .int .i64 0) BK104.out 1 rfl; have hfz9_0 := blk_frozen BK104.out 0; have hfz9_1 := blk_frozen BK104.out 1))
  (try simp only [Act.put, sa_, sb_, sc_])
  go_cut [19] (fun v19 wc => ∃ (kq : Nat) (x19_3 : Bool), v19 = .bool x19_3 ∧ Aside0 (changeforgeref5_PathFault.j0 kq x19_3 t102 t103 = some (r1, r2)) ∧ Aside0 (kq ≤ k) ∧ Aside0 (wc.heap[gb101]? = some (.cells #[.int .i64 0, .int .i64 0] 27 (0, 0))) ∧ Aside0 (wc.heap[gb104]? = some (.cells #[.int .i64 t102, .int .i64 t103] 27 (0, 0))) ∧ Aside0 (Below w.heap.size w wc))
  case first =>
    have H := HC4.out
    clear HC4
    by_cases c10 : t102 = 0
    · rw [if_pos c10] at H
      have c10b0 : (t102 == 0) = true := beq_iff_eq.mpr c10
      have c10b1 : (t102 != 0) = false := bne_eq_false_iff_eq.mpr c10
      clear c10
      (first | rw [c10b0] | (simp only [i64_w, i32_w]; rw [c10b0]) | skip)
      by_cases c11 : a1.toList = ([] : List UInt8)
      · rw [if_pos c11] at H
        have c11b0 : (a1.toList == ([] : List UInt8)) = true := beq_iff_eq.mpr c11
        have c11b1 : (a1.toList != ([] : List UInt8)) = false := bne_eq_false_iff_eq.mpr c11
        clear c11
        have H' := Aside0.mk H
        clear H
        have hnb12 := NB104_101.out
        have hnc12 := NB101_104.out
        have hcz13_0 := blk_c (v := .int .i64 0) BK104.out 0 rfl
        have hcz13_1 := blk_c (v := .int .i64 0) BK104.out 1 rfl
        have hfz13_0 := blk_frozen BK104.out 0
        have hfz13_1 := blk_frozen BK104.out 1
        go_wp2
        go_meet
        case rel => exact ⟨_, (true), fr_, H', ⟨om_⟩, ⟨by refine blk_mv ?_; refine blk_far ?_ NB101_104.out _; refine blk_mv ?_; refine blk_far ?_ NB101_104.out _; refine blk_mv ?_; exact BK101.out⟩, ⟨by refine blk_mv ?_; refine blk_put (cs := #[.int .i64 t102, .int .i64 0]) ?_ 1 _ rfl; refine blk_mv ?_; refine blk_put (cs := #[.int .i64 0, .int .i64 0]) ?_ 0 _ rfl; refine blk_mv ?_; exact BK104.out⟩, ⟨bel_⟩⟩
      · rw [if_neg c11] at H
        have c11b0 : (a1.toList == ([] : List UInt8)) = false := beq_eq_false_iff_ne.mpr c11
        have c11b1 : (a1.toList != ([] : List UInt8)) = true := bne_iff_ne.mpr c11
        have H' := Aside0.mk H
        clear H
        have hnb14 := NB104_101.out
        have hnc14 := NB101_104.out
        have hcz15_0 := blk_c (v := .int .i64 0) BK104.out 0 rfl
        have hcz15_1 := blk_c (v := .int .i64 0) BK104.out 1 rfl
        have hfz15_0 := blk_frozen BK104.out 0
        have hfz15_1 := blk_frozen BK104.out 1
        go_wp2
        go_meet
        case rel => exact ⟨_, (decide ((a1.size : Int) > 60)), fr_, H', ⟨om_⟩, ⟨by refine blk_mv ?_; refine blk_far ?_ NB101_104.out _; refine blk_mv ?_; refine blk_far ?_ NB101_104.out _; refine blk_mv ?_; exact BK101.out⟩, ⟨by refine blk_mv ?_; refine blk_put (cs := #[.int .i64 t102, .int .i64 0]) ?_ 1 _ rfl; refine blk_mv ?_; refine blk_put (cs := #[.int .i64 0, .int .i64 0]) ?_ 0 _ rfl; refine blk_mv ?_; exact BK104.out⟩, ⟨bel_⟩⟩
    · rw [if_neg c10] at H
      have c10b0 : (t102 == 0) = false := beq_eq_false_iff_ne.mpr c10
      have c10b1 : (t102 != 0) = true := bne_iff_ne.mpr c10
      (first | rw [c10b0] | (simp only [i64_w, i32_w]; rw [c10b0]) | skip)
      have H' := Aside0.mk H
      clear H
      have hnb16 := NB104_101.out
      have hnc16 := NB101_104.out
      have hcz17_0 := blk_c (v := .int .i64 0) BK104.out 0 rfl
      have hcz17_1 := blk_c (v := .int .i64 0) BK104.out 1 rfl
      have hfz17_0 := blk_frozen BK104.out 0
      have hfz17_1 := blk_frozen BK104.out 1
      go_wp2
      go_meet
      case rel => exact ⟨_, (false), fr_, H', ⟨om_⟩, ⟨by refine blk_mv ?_; refine blk_far ?_ NB101_104.out _; refine blk_mv ?_; refine blk_far ?_ NB101_104.out _; refine blk_mv ?_; exact BK101.out⟩, ⟨by refine blk_mv ?_; refine blk_put (cs := #[.int .i64 t102, .int .i64 0]) ?_ 1 _ rfl; refine blk_mv ?_; refine blk_put (cs := #[.int .i64 0, .int .i64 0]) ?_ 0 _ rfl; refine blk_mv ?_; exact BK104.out⟩, ⟨bel_⟩⟩
  case rest =>
    clear HC4
    (try clear c1)
    (try clear p2)
    (try clear c8)
    (try clear c10)
    (try clear c10b0)
    (try clear c10b1)
    (try clear c11)
    (try clear c11b0)
    (try clear c11b1)
    (try clear c12)
    (try clear c14)
    (try clear c16)
    (try clear hcz13_0)
    (try clear hcz13_1)
    (try clear hcz15_0)
    (try clear hcz15_1)
    (try clear hcz17_0)
    (try clear hcz17_1)
    (try clear hcz9_0)
    (try clear hcz9_1)
    (try clear hfz13_0)
    (try clear hfz13_1)
    (try clear hfz15_0)
    (try clear hfz15_1)
    (try clear hfz17_0)
    (try clear hfz17_1)
    (try clear hfz9_0)
    (try clear hfz9_1)
    obtain ⟨kq, x19_3, rfl, HA, HJ3, BK101, BK104, HB⟩ := hcut
    cases kq with
    | zero => exact absurd HA.out (by simp [changeforgeref5_PathFault.j0])
    | succ kj3 =>
      have H := HA.out
      clear HA
      simp only [changeforgeref5_PathFault.j0] at H
      by_cases c18 : x19_3 = true
      · subst c18
        have H1 : ((changeforgeref5_fault.f 12 (-2)).bind fun bt105 => (some (bt105.1, bt105.2))) = some (r1, r2) := by rw [if_pos rfl] at H; exact H
        clear H
        have H := H1
        clear H1
        replace H := Option.bind_eq_some_iff.mp H
        obtain ⟨⟨t105, t106⟩, A190, H⟩ := H
        replace H : (some (t105, t106)) = some (r1, r2) := H
        have A19 := Aside0.mk A190
        clear A190
        simp only [Option.some.injEq, Prod.mk.injEq] at H
        obtain ⟨rfl, rfl⟩ := H
        go_wp2_with (first | ((with_reducible refine gate_callee (f := 30) rfl ?_); refine goesL_ (some 20) rfl rfl Try.func30 (by kernel_rfl) rfl #[.int .i64 12, .int .i64 (-2)] rfl ln_ ?_; (with_reducible refine (changeforgeref5_fault.calls 12 (-2) t105 t106 _ A19.out).mono ?_); rintro e w20 ⟨rfl, hb⟩; refine ⟨_, rfl, ?_⟩; replace BK101 := Aside0.mk (blk_below (blk_mv BK101.out) hb); replace BK104 := Aside0.mk (blk_below (blk_mv BK104.out) hb); replace HB := Aside0.mk (below_step bel_ hb); (try clear hb); (try clear hb2); (try clear hk); (try clear hi); have hnb21 := NB104_101.out; have hnc21 := NB101_104.out; have hcz22_0 := blk_c (v := .int .i64 t102) BK104.out 0 rfl; have hcz22_1 := blk_c (v := .int .i64 t103) BK104.out 1 rfl; have hfz22_0 := blk_frozen BK104.out 0; have hfz22_1 := blk_frozen BK104.out 1; have hcz23_0 := blk_c (v := .int .i64 0) BK101.out 0 rfl; have hcz23_1 := blk_c (v := .int .i64 0) BK101.out 1 rfl; have hfz23_0 := blk_frozen BK101.out 0; have hfz23_1 := blk_frozen BK101.out 1))
        refine bodyPost_ret (results_cell_row rfl _ _ gb101 27 #[.int .i64 t105, .int .i64 t106] (0, 0) _ rfl (by refine blk_mv ?_; refine blk_put (cs := #[.int .i64 t105, .int .i64 0]) ?_ 1 _ rfl; refine blk_mv ?_; refine blk_put (cs := #[.int .i64 0, .int .i64 0]) ?_ 0 _ rfl; refine blk_mv ?_; refine blk_far ?_ NB101_104.out _; refine blk_mv ?_; refine blk_far ?_ NB101_104.out _; refine blk_mv ?_; exact BK101.out) Try.underlying27 rfl (by kernel_rfl)) rfl ?_
        exact ⟨by first | rfl | (simp [errW_none, errW_some] <;> rfl) | (simp [*, errW_none, errW_some] <;> rfl), bel_⟩
      · replace c18 := Bool.eq_false_iff.mpr c18
        subst c18
        have H1 : (some (t102, t103)) = some (r1, r2) := by rw [if_neg (show ¬ (false = true) by decide)] at H; exact H
        clear H
        have H := H1
        clear H1
        simp only [Option.some.injEq, Prod.mk.injEq] at H
        obtain ⟨rfl, rfl⟩ := H
        have hnb24 := NB104_101.out
        have hnc24 := NB101_104.out
        have hcz25_0 := blk_c (v := .int .i64 t102) BK104.out 0 rfl
        have hcz25_1 := blk_c (v := .int .i64 t103) BK104.out 1 rfl
        have hfz25_0 := blk_frozen BK104.out 0
        have hfz25_1 := blk_frozen BK104.out 1
        have hcz26_0 := blk_c (v := .int .i64 0) BK101.out 0 rfl
        have hcz26_1 := blk_c (v := .int .i64 0) BK101.out 1 rfl
        have hfz26_0 := blk_frozen BK101.out 0
        have hfz26_1 := blk_frozen BK101.out 1
        go_wp2
        refine bodyPost_ret (results_cell_row rfl _ _ gb101 27 #[.int .i64 t102, .int .i64 t103] (0, 0) _ rfl (by refine blk_mv ?_; refine blk_put (cs := #[.int .i64 t102, .int .i64 0]) ?_ 1 _ rfl; refine blk_mv ?_; refine blk_put (cs := #[.int .i64 0, .int .i64 0]) ?_ 0 _ rfl; refine blk_mv ?_; exact BK101.out) Try.underlying27 rfl (by kernel_rfl)) rfl ?_
        exact ⟨by first | rfl | (simp [errW_none, errW_some] <;> rfl) | (simp [*, errW_none, errW_some] <;> rfl), bel_⟩

end Go.Proofs.Ytdelkdlegokbjaa.Fn
