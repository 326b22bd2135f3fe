/- A function of the program as a plain Lean function, and the proof that the call comes to just what it says (written by wip/tools/xprint.py for this claim). Condition: the plain function has an answer. -/
import Derived.Test.YtlbjefoipljkgaaFn0
import Derived.Test.YtlbjefoipljkgaaFf34
import Derived.Test.YtlbjefoipljkgaaFs0
import Derived.Test.YtlbjefoipljkgaaWA
import Derived.Test.YtlbjefoipljkgaaConvs
import Derived.Test.YtlbjefoipljkgaaTight
namespace Go.Proofs.Ytlbjefoipljkgaa.Fn
open Go.RowKit Go.Proofs.YtlbjefoipljkgaaW.PrintWords Go.Proofs.YtlbjefoipljkgaaW.PrintLast Go.Proofs.YtlbjefoipljkgaaW.PrintMore
attribute [local go_sem] max2_int min2_int max_two min_two max_three min_three max_four min_four   -- for this text's walks alone
set_option linter.unusedVariables false
set_option linter.unusedSimpArgs false

-- IMPORT Derived.Test.@SEAT@Convs
/-! ### changeforgeref5_CertSignature: function 18 -/
def changeforgeref5_CertSignature.f (k : Nat) (a0_0 : Int) (a0_1 : Int) (a0_2 : Int) (a0_3 : ByteArray) (a0_4 : Int) (a0_5 : Int) (a0_6 : Int) : Option (Int) := (changeforgeref5_Message.f k (([a0_0, a0_1, a0_2, a0_4, a0_5] : List Int))).bind fun t105 => ((strBytes.f a0_3).bind fun t108 => (if t105.length + t108.length < 140737488355328 then ((changeforgeref5_Sign.f k a0_2 (t105 ++ t108)).bind fun t114 => (some t114)) else (none)))
theorem changeforgeref5_CertSignature.mono : ∀ a0 a1 a2 a3 a4 a5 a6 k, LeO (changeforgeref5_CertSignature.f k a0 a1 a2 a3 a4 a5 a6) (changeforgeref5_CertSignature.f (k + 1) a0 a1 a2 a3 a4 a5 a6) := by
  intro a0 a1 a2 a3 a4 a5 a6 k
  unfold changeforgeref5_CertSignature.f
  repeat' first
      | (with_reducible exact changeforgeref5_Message.mono _ _)
      | (with_reducible exact changeforgeref5_Sign.mono _ _ _)
      | (with_reducible exact LeO.refl _)
      | (with_reducible exact LeO.none _)
      | (with_reducible refine LeO.ite ?_ ?_)
      | (with_reducible refine LeO.bind ?_ (fun _ => ?_))
      | exact changeforgeref5_Message.mono _ _
      | exact changeforgeref5_Sign.mono _ _ _
      | exact LeO.none _
      | refine LeO.ite ?_ ?_
      | refine LeO.bind ?_ (fun _ => ?_)
def changeforgeref5_CertSignature.T2 : Bool × List (List Nat × List Nat) := (true, [([], []), ([0], [0]), ([], []), ([], []), ([3], [3]), ([4], [4]), ([2, 5], [2, 5]), ([1, 6, 6], [1, 6]), ([7, 7, 0, 1, 2, 3, 4, 5, 6, 7], [7])])
def changeforgeref5_CertSignature.B2 : List Nat := [0, 1, 0, 0, 8, 24, 60, 127, 255]
theorem changeforgeref5_CertSignature.tab2 : rtab .any (opsOf Try.f18 2) = changeforgeref5_CertSignature.T2 := by kernel_rfl
theorem changeforgeref5_CertSignature.bits2 : waitsOk changeforgeref5_CertSignature.T2.2 changeforgeref5_CertSignature.B2 = true := by kernel_rfl
set_option maxHeartbeats 8000000 in
set_option maxRecDepth 100000 in
theorem changeforgeref5_CertSignature.calls (k : Nat) (a0_0 : Int) (a0_1 : Int) (a0_2 : Int) (a0_3 : ByteArray) (a0_4 : Int) (a0_5 : Int) (a0_6 : Int) (r : Int) (w : World) (h : changeforgeref5_CertSignature.f k a0_0 a0_1 a0_2 a0_3 a0_4 a0_5 a0_6 = some r) :
    Calls Try.prog 18 #[.agg #[.int .i64 a0_0, .int .i64 a0_1, .int .i64 a0_2, .string a0_3, .int .i64 a0_4, .int .i64 a0_5, .int .i64 a0_6]] w fun e w' => e = .returned (.int .i64 r) ∧ Below w.heap.size w w' := by
  have hu23 := Try.underlying23
  have HB := Aside0.mk (Below.refl w.heap.size w)
  have H : ((changeforgeref5_Message.f k (([a0_0, a0_1, a0_2, a0_4, a0_5] : List Int))).bind fun t105 => ((strBytes.f a0_3).bind fun t108 => (if t105.length + t108.length < 140737488355328 then ((changeforgeref5_Sign.f k a0_2 (t105 ++ t108)).bind fun t114 => (some t114)) else (none)))) = some r := h
  clear h
  obtain ⟨y102, hy102⟩ : ∃ y_ : List Int, y_ = (([a0_0, a0_1, a0_2, a0_4, a0_5] : List Int)) := ⟨_, rfl⟩
  replace H : ((changeforgeref5_Message.f k y102).bind fun t105 => ((strBytes.f a0_3).bind fun t108 => (if t105.length + t108.length < 140737488355328 then ((changeforgeref5_Sign.f k a0_2 (t105 ++ t108)).bind fun t114 => (some t114)) else (none)))) = some r := by first | (rw [hy102]; with_reducible exact H) | (have H2_ := (Option.bind_some _ _).symm.trans H; rw [hy102]; with_reducible exact H2_) | (have H2_ := (Option.bind_some _ _).symm.trans H; with_reducible exact H2_) | with_reducible exact H | (rw [hy102]; exact H) | exact H
  have Ny102 := Aside0.mk hy102
  clear hy102
  replace H := Option.bind_eq_some_iff.mp H
  obtain ⟨t105, A20, H⟩ := H
  replace H : ((strBytes.f a0_3).bind fun t108 => (if t105.length + t108.length < 140737488355328 then ((changeforgeref5_Sign.f k a0_2 (t105 ++ t108)).bind fun t114 => (some t114)) else (none))) = some r := H
  have A2 := Aside0.mk A20
  clear A20
  replace H := Option.bind_eq_some_iff.mp H
  obtain ⟨t108, A30, H⟩ := H
  replace H : (if t105.length + t108.length < 140737488355328 then ((changeforgeref5_Sign.f k a0_2 (t105 ++ t108)).bind fun t114 => (some t114)) else (none)) = some r := H
  have A3 := Aside0.mk A30
  clear A30
  by_cases c4 : t105.length + t108.length < 140737488355328
  · rw [if_pos c4] at H
    have LMc4 := Aside0.mk c4
    clear c4
    obtain ⟨y111, hy111⟩ : ∃ y_ : List Int, y_ = (t105 ++ t108) := ⟨_, rfl⟩
    replace H : ((changeforgeref5_Sign.f k a0_2 y111).bind fun t114 => (some t114)) = some r := by first | (rw [hy111]; with_reducible exact H) | (have H2_ := (Option.bind_some _ _).symm.trans H; rw [hy111]; with_reducible exact H2_) | (have H2_ := (Option.bind_some _ _).symm.trans H; with_reducible exact H2_) | with_reducible exact H | (rw [hy111]; exact H) | exact H
    have Ny111 := Aside0.mk hy111
    clear hy111
    replace H := Option.bind_eq_some_iff.mp H
    obtain ⟨t114, A50, H⟩ := H
    replace H : (some t114) = some r := H
    have A5 := Aside0.mk A50
    clear A50
    obtain rfl := Option.some.inj H
    go_enter Try.func18, Try.ntmps18
    try go_wp2_with (first | ((with_reducible refine gate_dst (N := 1) rfl ?_); refine box_event ?hg (N := 1) ?hd (cs := #[.int .i64 a0_0, .int .i64 a0_1, .int .i64 a0_2, .string a0_3, .int .i64 a0_4, .int .i64 a0_5, .int .i64 a0_6]) (t := 23) ?hr ?_; (case hd => rfl); (case hg => rfl); (case hr => first | (go_simp; done) | (go_simp; rfl)); intro gb101 hg w6 hbox hb; have BK101 := Aside0.mk (hbox); have GW101 := Aside0.mk ((bs_ : w.heap.size ≤ gb101)); have GE101 := Aside0.mk ((bs_ : w.heap.size ≤ gb101)); replace HB := Aside0.mk (below_step bel_ hb); clear hb hbox hg; have hcz7_0 := blk_c (v := .int .i64 a0_0) BK101.out 0 rfl; have hcz7_1 := blk_c (v := .int .i64 a0_1) BK101.out 1 rfl; have hcz7_2 := blk_c (v := .int .i64 a0_2) BK101.out 2 rfl; have hcz7_3 := blk_c (v := .string a0_3) BK101.out 3 rfl; have hcz7_4 := blk_c (v := .int .i64 a0_4) BK101.out 4 rfl; have hcz7_5 := blk_c (v := .int .i64 a0_5) BK101.out 5 rfl; have hcz7_6 := blk_c (v := .int .i64 a0_6) BK101.out 6 rfl; have hfz7_0 := blk_frozen BK101.out 0; have hfz7_1 := blk_frozen BK101.out 1; have hfz7_2 := blk_frozen BK101.out 2; have hfz7_3 := blk_frozen BK101.out 3; have hfz7_4 := blk_frozen BK101.out 4; have hfz7_5 := blk_frozen BK101.out 5; have hfz7_6 := blk_frozen BK101.out 6) | ((with_reducible refine gate_dst (N := 14) rfl ?_); refine Kd.R_lit (Kd.int .i64) _ 3 ?hg (N := 14) ?hd (xs := ([a0_0, a0_1, a0_2, a0_4, a0_5] : List Int)) (inner := [.int .i64 a0_0, .int .i64 a0_1, .int .i64 a0_2, .int .i64 a0_4, .int .i64 a0_5]) (ok := fun _ => True) (okp := fun _ => True) ?hr ?hp (fun _ hk => hk) trivial (Below.refl _ _) (Nat.le_refl _) (by simp) ?_; (case hd => rfl); (case hg => rfl); (case hr => first | (go_simp; done) | (go_simp; rfl)); (case hp => exact (Reps.one (show Kd.M (Kd.int .i64) _ _ _ a0_0 [.int .i64 a0_0] from rfl) (Reps.one (show Kd.M (Kd.int .i64) _ _ _ a0_1 [.int .i64 a0_1] from rfl) (Reps.one (show Kd.M (Kd.int .i64) _ _ _ a0_2 [.int .i64 a0_2] from rfl) (Reps.one (show Kd.M (Kd.int .i64) _ _ _ a0_4 [.int .i64 a0_4] from rfl) (Reps.one (show Kd.M (Kd.int .i64) _ _ _ a0_5 [.int .i64 a0_5] from rfl) (Reps.none _ _))))))); intro v103 w8 ho9 hb hg_ hnew_; clear hg_ hnew_; (first | rw [← Ny102.out] at ho9 | (simp only [Int.reduceToNat] at ho9; rw [← Ny102.out] at ho9)); have HO104 := Aside0.mk (Kd.R_lower ho9 (below_size bel_)); replace BK101 := Aside0.mk (blk_below (blk_mv BK101.out) hb); replace HB := Aside0.mk (below_step bel_ hb); clear hb ho9; obtain ⟨Ao10, co10, eo10⟩ := Kd.R_slice HO104.out; subst eo10) | ((with_reducible refine gate_callee (f := 34) rfl ?_); refine goesL_ (some 15) rfl rfl Try.func34 (by kernel_rfl) rfl #[.slice Ao10 y102.length co10] rfl ln_ ?_; (with_reducible refine (changeforgeref5_Message.calls k _ _ y102 t105 _ ?side1 ?side2 A2.out).mono ?_); (case side1 => first | exact (Kd.R_reads' HO104.out).2.2 | exact Kd.C_mv (Kd.R_reads' HO104.out).2.2); (case side2 => exact (Kd.R_reads' HO104.out).2.1); rintro e w11 ⟨v106, rfl, ho0, hb⟩; refine ⟨_, rfl, ?_⟩; replace HO104 := Aside0.mk (Kd.R_below (Kd.R_mv HO104.out) hb); have HO107 := Aside0.mk (Kd.R_lower ho0 (below_size bel_)); replace BK101 := Aside0.mk (blk_below (blk_mv BK101.out) hb); replace HB := Aside0.mk (below_step bel_ hb); (try clear hb); (try clear hb2); (try clear hk); (try clear hi); (try clear ho0)))
    replace HO107 := Aside0.mk (Kd.R_drew HO107.out)
    replace BK101 := Aside0.mk (blk_drew BK101.out)
    replace HB := Aside0.mk (below_drew1 HB.out)
    refine start_ (n := 9) (S := fun w' => w'.cell? ⟨gb101, 0, none⟩ = some (.int .i64 a0_0) ∧ w'.cell? ⟨gb101, 1, none⟩ = some (.int .i64 a0_1) ∧ w'.cell? ⟨gb101, 2, none⟩ = some (.int .i64 a0_2) ∧ w'.cell? ⟨gb101, 3, none⟩ = some (.string a0_3) ∧ w'.cell? ⟨gb101, 4, none⟩ = some (.int .i64 a0_4) ∧ w'.cell? ⟨gb101, 5, none⟩ = some (.int .i64 a0_5) ∧ w'.cell? ⟨gb101, 6, none⟩ = some (.int .i64 a0_6)) (ds := []) (bl_ 9 0) (by kernel_rfl) rfl rfl ⟨(blk_cell BK101.out 0).trans rfl, (blk_cell BK101.out 1).trans rfl, (blk_cell BK101.out 2).trans rfl, (blk_cell BK101.out 3).trans rfl, (blk_cell BK101.out 4).trans rfl, (blk_cell BK101.out 5).trans rfl, (blk_cell BK101.out 6).trans rfl⟩ (fun hHeld => ?_); refine with_tabW changeforgeref5_CertSignature.tab2 changeforgeref5_CertSignature.bits2 (fun HT_ HW_ => ?_)
    generalize w11.drew = w12 at HO107 BK101 HB hHeld ⊢
    refine pu_ (v := ?_) (a' := ?_) 0 16 (bl_ 9 1) rfl rfl HT_.out ?_ ?_ ?_
    rotate_left
    · intro w'
      go_simp
      with_reducible rfl
    rotate_left
    · simp only [Act.put, sa_, sb_, sc_, i64_w, i32_w]
      rfl
    refine pu_ (v := ?_) (a' := ?_) 2 18 (bl_ 9 5) rfl rfl HT_.out ?_ ?_ ?_
    rotate_left
    · intro w'
      go_simp
      with_reducible rfl
    rotate_left
    · simp only [Act.put, sa_, sb_, sc_, i64_w, i32_w]
      rfl
    refine pu_ (v := ?_) (a' := ?_) 3 19 (bl_ 9 13) rfl rfl HT_.out ?_ ?_ ?_
    rotate_left
    · intro w'
      go_simp
      with_reducible rfl
    rotate_left
    · simp only [Act.put, sa_, sb_, sc_, i64_w, i32_w]
      rfl
    refine tk_ (v := ?_) (a' := ?_) 1 17 (bl_ 9 15) rfl rfl HT_.out HW_.out ?_ hHeld ?_ ?_
    rotate_left
    · rintro w' ⟨s0, s1, s2, s3, s4, s5, s6⟩
      go_simp
      with_reducible rfl
    rotate_left
    · simp only [Act.put, sa_, sb_, sc_, i64_w, i32_w]
      rfl
    refine tk_ (v := ?_) (a' := ?_) 4 20 (bl_ 9 31) rfl rfl HT_.out HW_.out ?_ hHeld ?_ ?_
    rotate_left
    · rintro w' ⟨s0, s1, s2, s3, s4, s5, s6⟩
      go_simp
      with_reducible rfl
    rotate_left
    · simp only [Act.put, sa_, sb_, sc_, i64_w, i32_w]
      rfl
    refine one_ (i := 5) (N := some 21) (bl_ 9 63) rfl rfl (one_of HT_.out (by kernel_rfl)) (by decide) (fun K hK => ?_)
    refine conv_ (by rfl) rfl rfl (by first | rfl | (go_simp; done) | (go_simp; rfl)) Try.underlying9 Try.underlying51 Try.underlying5 A3.out ?_
    intro w13 v109 ho0 hb
    have HO110 := Aside0.mk (Kd.V_lower (Kd.V_mono (ok' := fun k_ => some k_ ≠ (v106 : Value).ownBlock ∧ k_ ≠ gb101) ho0 (fun k_ hk_ => ⟨(Kd.fresh' (Kd.R_lt (Kd.R_mv HO107.out)) k_ hk_), (Kd.freshB (g := gb101) (o := .cells #[.int .i64 a0_0, .int .i64 a0_1, .int .i64 a0_2, .string a0_3, .int .i64 a0_4, .int .i64 a0_5, .int .i64 a0_6] 23 (0, 0)) (blk_mv BK101.out) k_ hk_)⟩)) (below_size bel_))
    replace HO107 := Aside0.mk (Kd.R_below (Kd.R_mv HO107.out) hb)
    replace BK101 := Aside0.mk (blk_below (blk_mv BK101.out) hb)
    replace HB := Aside0.mk (below_step bel_ hb)
    (try clear hb)
    (try clear ho0)
    obtain ⟨Ao15, co15, eo15⟩ := Kd.V_slice HO110.out
    (first | subst eo15 | (injection eo15 with f1_ f2_ f3_; have f4_ := f1_.symm; have f5_ := f3_.symm; clear f1_ f2_ f3_; subst f4_; subst f5_))
    refine hK.out _ _ ⟨(blk_cell BK101.out 0).trans rfl, (blk_cell BK101.out 1).trans rfl, (blk_cell BK101.out 2).trans rfl, (blk_cell BK101.out 3).trans rfl, (blk_cell BK101.out 4).trans rfl, (blk_cell BK101.out 5).trans rfl, (blk_cell BK101.out 6).trans rfl⟩ (fun hHeld => ?_)
    clear hK K
    refine norm_ (a' := ?_) ?_ ?_
    rotate_left
    · show Act.put _ (some 21) _ = _
      simp only [Act.put, sa_, sb_, sc_, i64_w, i32_w]
      rfl
    refine one_ (i := 6) (N := some 22) (bl_ 9 127) rfl rfl (one_of HT_.out (by kernel_rfl)) (by decide) (fun K hK => ?_)
    refine Kd.R_append_rows_step (Kd.int .u8) (w0 := w) w.heap.size (by rfl) (.tmp 18) (.tmp 21) 51 5 (.int .u8 0) 1 rfl Try.underlying51 info5 rfl (by decide) (by omega) v106 t105 t108 _ _ _ (fun _ => True) (fun _ => False) rfl rfl ?aO ?aR (fun _ _ h => h) (fun _ h => h.elim) ?aF ?aB ?aS ?aL ?_
    (case aR => first | exact (Kd.V_reads' HO110.out).2.2 | exact Kd.C_mv (Kd.V_reads' HO110.out).2.2)
    (case aB => exact bel_)
    (case aF => exact (fun _ _ => trivial))
    (case aO => exact (Kd.R_mv HO107.out))
    (case aS => exact (below_size bel_))
    (case aL => have := LMc4.out; omega)
    intro v112 w14 ho hb hg hat
    rw [← Ny111.out] at ho
    replace BK101 := Aside0.mk (blk_grown (g := gb101) (o := .cells #[.int .i64 a0_0, .int .i64 a0_1, .int .i64 a0_2, .string a0_3, .int .i64 a0_4, .int .i64 a0_5, .int .i64 a0_6] 23 (0, 0)) (blk_mv BK101.out) hg (Kd.R_ne HO107.out BK101.out (by decide)))
    replace HO110 := Aside0.mk (Kd.V_afterv (ok := (fun k_ => k_ ≠ gb101)) (by (with_reducible repeat (first | apply Kd.V_alloc | apply Kd.V_drewN | apply Kd.V_drew)); exact Kd.V_mono HO110.out (fun _ hk => ⟨hk.2, hk.1⟩)) hg hat)
    replace HB := Aside0.mk (hb)
    have HO113 := Aside0.mk (ho)
    clear HO107 ho hb hg hat
    obtain ⟨Ao16, co16, eo16⟩ := Kd.R_slice HO113.out
    (first | subst eo16 | (injection eo16 with f1_ f2_ f3_; have f4_ := f1_.symm; have f5_ := f3_.symm; clear f1_ f2_ f3_; subst f4_; subst f5_))
    refine hK.out _ _ ⟨(blk_cell BK101.out 0).trans rfl, (blk_cell BK101.out 1).trans rfl, (blk_cell BK101.out 2).trans rfl, (blk_cell BK101.out 3).trans rfl, (blk_cell BK101.out 4).trans rfl, (blk_cell BK101.out 5).trans rfl, (blk_cell BK101.out 6).trans rfl⟩ (fun hHeld => ?_)
    clear hK K
    refine norm_ (a' := ?_) ?_ ?_
    rotate_left
    · show Act.put _ (some 22) _ = _
      simp only [Act.put, sa_, sb_, sc_, i64_w, i32_w]
      rfl
    refine one_ (i := 7) (N := some 23) (bl_ 9 255) rfl rfl (one_of HT_.out (by kernel_rfl)) (by decide) (fun K hK => ?_)
    refine goes_ Try.func33 (by kernel_rfl) rfl #[.int .i64 a0_2, .slice Ao16 y111.length co16] (by rfl) rfl rfl ln_ ?_
    with_reducible refine (changeforgeref5_Sign.calls k a0_2 _ _ y111 t114 _ ?side1 ?side2 A5.out).mono ?_
    (case side1 => first | exact (Kd.R_reads' HO113.out).2.2 | exact Kd.C_mv (Kd.R_reads' HO113.out).2.2)
    (case side2 => exact (Kd.R_reads' HO113.out).2.1)
    rintro e w' ⟨rfl, ⟨nd, rfl⟩⟩
    refine ⟨_, rfl, ?_⟩
    refine hK.out _ _ ⟨(blk_cell BK101.out 0).trans rfl, (blk_cell BK101.out 1).trans rfl, (blk_cell BK101.out 2).trans rfl, (blk_cell BK101.out 3).trans rfl, (blk_cell BK101.out 4).trans rfl, (blk_cell BK101.out 5).trans rfl, (blk_cell BK101.out 6).trans rfl⟩ (fun hHeld => ?_)
    clear hK K
    refine norm_ (a' := ?_) ?_ ?_
    rotate_left
    · show Act.put _ (some 23) _ = _
      simp only [Act.put, sa_, sb_, sc_, i64_w, i32_w]
      rfl
    refine pu_ (v := ?_) (a' := ?_) 8 2 (bl_ 9 511) rfl rfl HT_.out ?_ ?_ ?_
    rotate_left
    · intro w'
      go_simp
      with_reducible rfl
    rotate_left
    · simp only [Act.put, sa_, sb_, sc_, i64_w, i32_w]
      rfl
    refine done_ (done_of HT_.out (by kernel_rfl)) ?_
    try go_wp2
    go_ret
    exact ⟨by first | rfl | (simp [errW_none, errW_some] <;> rfl) | (simp [*, errW_none, errW_some] <;> rfl), bel_⟩
  · rw [if_neg c4] at H
    exact absurd H (by simp)

end Go.Proofs.Ytlbjefoipljkgaa.Fn
