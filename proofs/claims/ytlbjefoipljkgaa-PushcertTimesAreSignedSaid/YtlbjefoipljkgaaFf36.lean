/- A function of the program as a plain Lean function, and the proof that the call comes to just what it says (written by wip/tools/xprint.py for this claim). Condition: the plain function has an answer. -/
import Derived.Test.YtlbjefoipljkgaaFn0
import Derived.Test.YtlbjefoipljkgaaFf31
import Derived.Test.YtlbjefoipljkgaaWA
import Derived.Test.YtlbjefoipljkgaaTight
namespace Go.Proofs.Ytlbjefoipljkgaa.Fn
open Go.RowKit Go.Proofs.YtlbjefoipljkgaaW.PrintWords Go.Proofs.YtlbjefoipljkgaaW.PrintLast Go.Proofs.YtlbjefoipljkgaaW.PrintMore
attribute [local go_sem] max2_int min2_int max_two min_two max_three min_three max_four min_four   -- for this text's walks alone
set_option linter.unusedVariables false
set_option linter.unusedSimpArgs false

/-! ### pushcert_payload: function 36 -/
def pushcert_payload.f (k : Nat) (a0_0 : Int) (a0_1 : Int) (a0_2 : Int) (a0_3 : ByteArray) (a0_4 : Int) (a0_5 : Int) (a0_6 : Int) : Option (List Int) := (signing_Message.f k (([a0_0, a0_1, a0_2, a0_4, a0_5] : List Int))).bind fun bt105 => (if bt105.1.length + a0_3.size < 140737488355328 then (some (bt105.1 ++ bytesOf a0_3)) else (none))
theorem pushcert_payload.mono : ∀ a0 a1 a2 a3 a4 a5 a6 k, LeO (pushcert_payload.f k a0 a1 a2 a3 a4 a5 a6) (pushcert_payload.f (k + 1) a0 a1 a2 a3 a4 a5 a6) := by
  intro a0 a1 a2 a3 a4 a5 a6 k
  unfold pushcert_payload.f
  repeat' first
      | (with_reducible exact signing_Message.mono _ _)
      | (with_reducible exact LeO.refl _)
      | (with_reducible exact LeO.none _)
      | (with_reducible refine LeO.ite ?_ ?_)
      | (with_reducible refine LeO.bind ?_ (fun _ => ?_))
      | exact signing_Message.mono _ _
      | exact LeO.none _
      | refine LeO.ite ?_ ?_
      | refine LeO.bind ?_ (fun _ => ?_)
set_option maxHeartbeats 8000000 in
set_option maxRecDepth 100000 in
theorem pushcert_payload.calls (k : Nat) (a0_0 : Int) (a0_1 : Int) (a0_2 : Int) (a0_3 : ByteArray) (a0_4 : Int) (a0_5 : Int) (a0_6 : Int) (r : List Int) (w : World) (h : pushcert_payload.f k a0_0 a0_1 a0_2 a0_3 a0_4 a0_5 a0_6 = some r) :
    Calls Try.prog 36 #[.agg #[.int .i64 a0_0, .int .i64 a0_1, .int .i64 a0_2, .string a0_3, .int .i64 a0_4, .int .i64 a0_5, .int .i64 a0_6]] w fun e w' => ∃ v0_ : Value, e = .returned (v0_) ∧ Kd.R (Kd.int .u8) 5 w' w.heap.size (fun _ => True) v0_ r ∧ Below w.heap.size w w' := by
  have hu23 := Try.underlying23
  have hu26 := Try.underlying26
  have HB := Aside0.mk (Below.refl w.heap.size w)
  have H : ((signing_Message.f k (([a0_0, a0_1, a0_2, a0_4, a0_5] : List Int))).bind fun bt105 => (if bt105.1.length + a0_3.size < 140737488355328 then (some (bt105.1 ++ bytesOf a0_3)) else (none))) = some r := h
  clear h
  obtain ⟨y102, hy102⟩ : ∃ y_ : List Int, y_ = (([a0_0, a0_1, a0_2, a0_4, a0_5] : List Int)) := ⟨_, rfl⟩
  replace H : ((signing_Message.f k y102).bind fun bt105 => (if bt105.1.length + a0_3.size < 140737488355328 then (some (bt105.1 ++ bytesOf a0_3)) else (none))) = some r := by first | (rw [hy102]; with_reducible exact H) | (have H2_ := (Option.bind_some _ _).symm.trans H; rw [hy102]; with_reducible exact H2_) | (have H2_ := (Option.bind_some _ _).symm.trans H; with_reducible exact H2_) | with_reducible exact H | (rw [hy102]; exact H) | exact H
  have Ny102 := Aside0.mk hy102
  clear hy102
  replace H := Option.bind_eq_some_iff.mp H
  obtain ⟨⟨t105, t108, t109⟩, A20, H⟩ := H
  replace H : (if t105.length + a0_3.size < 140737488355328 then (some (t105 ++ bytesOf a0_3)) else (none)) = some r := H
  have A2 := Aside0.mk A20
  clear A20
  by_cases c3 : t105.length + a0_3.size < 140737488355328
  · rw [if_pos c3] at H
    have LMc3 := Aside0.mk c3
    clear c3
    obtain ⟨y111, hy111⟩ : ∃ y_ : List Int, y_ = (t105 ++ bytesOf a0_3) := ⟨_, rfl⟩
    replace H : (some y111) = some r := by first | (rw [hy111]; with_reducible exact H) | (have H2_ := (Option.bind_some _ _).symm.trans H; rw [hy111]; with_reducible exact H2_) | (have H2_ := (Option.bind_some _ _).symm.trans H; with_reducible exact H2_) | with_reducible exact H | (rw [hy111]; exact H) | exact H
    have Ny111 := Aside0.mk hy111
    clear hy111
    obtain rfl := Option.some.inj H
    go_enter Try.func36, Try.ntmps36
    go_wp2_with (first | ((with_reducible refine gate_dst (N := 1) rfl ?_); refine box_event ?hg (N := 1) ?hd (cs := #[.int .i64 a0_0, .int .i64 a0_1, .int .i64 a0_2, .string a0_3, .int .i64 a0_4, .int .i64 a0_5, .int .i64 a0_6]) (t := 23) ?hr ?_; (case hd => rfl); (case hg => rfl); (case hr => first | (go_simp; done) | (go_simp; rfl)); intro gb101 hg w4 hbox hb; have BK101 := Aside0.mk (hbox); have GW101 := Aside0.mk ((bs_ : w.heap.size ≤ gb101)); have GE101 := Aside0.mk ((bs_ : w.heap.size ≤ gb101)); replace HB := Aside0.mk (below_step bel_ hb); clear hb hbox hg; have hcz5_0 := blk_c (v := .int .i64 a0_0) BK101.out 0 rfl; have hcz5_1 := blk_c (v := .int .i64 a0_1) BK101.out 1 rfl; have hcz5_2 := blk_c (v := .int .i64 a0_2) BK101.out 2 rfl; have hcz5_3 := blk_c (v := .string a0_3) BK101.out 3 rfl; have hcz5_4 := blk_c (v := .int .i64 a0_4) BK101.out 4 rfl; have hcz5_5 := blk_c (v := .int .i64 a0_5) BK101.out 5 rfl; have hcz5_6 := blk_c (v := .int .i64 a0_6) BK101.out 6 rfl; have hfz5_0 := blk_frozen BK101.out 0; have hfz5_1 := blk_frozen BK101.out 1; have hfz5_2 := blk_frozen BK101.out 2; have hfz5_3 := blk_frozen BK101.out 3; have hfz5_4 := blk_frozen BK101.out 4; have hfz5_5 := blk_frozen BK101.out 5; have hfz5_6 := blk_frozen BK101.out 6) | ((with_reducible refine gate_dst (N := 16) rfl ?_); refine Kd.R_lit (Kd.int .i64) _ 3 ?hg (N := 16) ?hd (xs := ([a0_0, a0_1, a0_2, a0_4, a0_5] : List Int)) (inner := [.int .i64 a0_0, .int .i64 a0_1, .int .i64 a0_2, .int .i64 a0_4, .int .i64 a0_5]) (ok := fun _ => True) (okp := fun _ => True) ?hr ?hp (fun _ hk => hk) trivial (Below.refl _ _) (Nat.le_refl _) (by simp) ?_; (case hd => rfl); (case hg => rfl); (case hr => first | (go_simp; done) | (go_simp; rfl)); (case hp => exact (Reps.one (show Kd.M (Kd.int .i64) _ _ _ a0_0 [.int .i64 a0_0] from rfl) (Reps.one (show Kd.M (Kd.int .i64) _ _ _ a0_1 [.int .i64 a0_1] from rfl) (Reps.one (show Kd.M (Kd.int .i64) _ _ _ a0_2 [.int .i64 a0_2] from rfl) (Reps.one (show Kd.M (Kd.int .i64) _ _ _ a0_4 [.int .i64 a0_4] from rfl) (Reps.one (show Kd.M (Kd.int .i64) _ _ _ a0_5 [.int .i64 a0_5] from rfl) (Reps.none _ _))))))); intro v103 w6 ho7 hb hg_ hnew_; clear hg_ hnew_; (first | rw [← Ny102.out] at ho7 | (simp only [Int.reduceToNat] at ho7; rw [← Ny102.out] at ho7)); have HO104 := Aside0.mk (Kd.R_lower ho7 (below_size bel_)); replace BK101 := Aside0.mk (blk_below (blk_mv BK101.out) hb); replace HB := Aside0.mk (below_step bel_ hb); clear hb ho7; obtain ⟨Ao8, co8, eo8⟩ := Kd.R_slice HO104.out; subst eo8) | ((with_reducible refine gate_callee (f := 31) rfl ?_); refine goesL_ (some 17) rfl rfl Try.func31 (by kernel_rfl) rfl #[.slice Ao8 y102.length co8] rfl ln_ ?_; (with_reducible refine (signing_Message.calls k _ _ y102 t105 t108 t109 _ ?side1 ?side2 A2.out).mono ?_); (case side1 => first | exact (Kd.R_reads' HO104.out).2.2 | exact Kd.C_mv (Kd.R_reads' HO104.out).2.2); (case side2 => exact (Kd.R_reads' HO104.out).2.1); rintro e w9 ⟨v106, rfl, ho0, hb⟩; refine ⟨_, rfl, ?_⟩; replace HO104 := Aside0.mk (Kd.R_below (Kd.R_mv HO104.out) hb); have HO107 := Aside0.mk (Kd.R_lower ho0 (below_size bel_)); replace BK101 := Aside0.mk (blk_below (blk_mv BK101.out) hb); replace HB := Aside0.mk (below_step bel_ hb); (try clear hb); (try clear hb2); (try clear hk); (try clear hi); (try clear ho0)) | ((with_reducible refine gate_dst (N := 4) rfl ?_); refine box_event ?hg (N := 4) ?hd (cs := #[.int .i64 0, .int .i64 0]) (t := 26) ?hr ?_; (case hd => rfl); (case hg => rfl); (case hr => first | (go_simp; done) | (go_simp; rfl)); intro gb110 hg w10 hbox hb; replace HO107 := Aside0.mk (Kd.R_below (Kd.R_mv HO107.out) hb); have BK110 := Aside0.mk (hbox); have GW110 := Aside0.mk ((bs_ : w.heap.size ≤ gb110)); have GE110 := Aside0.mk ((bs_ : w.heap.size ≤ gb110)); replace HB := Aside0.mk (below_step bel_ hb); have NB101_110 := Aside0.mk ((by rw [hg]; exact Nat.ne_of_lt (blk_lt (g := gb101) (o := .cells #[.int .i64 a0_0, .int .i64 a0_1, .int .i64 a0_2, .string a0_3, .int .i64 a0_4, .int .i64 a0_5, .int .i64 a0_6] 23 (0, 0)) (blk_mv BK101.out)) : gb101 ≠ gb110)); have NB110_101 := Aside0.mk ((by rw [hg]; exact Nat.ne_of_gt (blk_lt (g := gb101) (o := .cells #[.int .i64 a0_0, .int .i64 a0_1, .int .i64 a0_2, .string a0_3, .int .i64 a0_4, .int .i64 a0_5, .int .i64 a0_6] 23 (0, 0)) (blk_mv BK101.out)) : gb110 ≠ gb101)); replace BK101 := Aside0.mk (blk_below (blk_mv BK101.out) hb); clear hb hbox hg; have hnb11 := NB110_101.out; have hnc11 := NB101_110.out; have hcz12_0 := blk_c (v := .int .i64 0) BK110.out 0 rfl; have hcz12_1 := blk_c (v := .int .i64 0) BK110.out 1 rfl; have hfz12_0 := blk_frozen BK110.out 0; have hfz12_1 := blk_frozen BK110.out 1; have hcz13_0 := blk_c (v := .int .i64 a0_0) BK101.out 0 rfl; have hcz13_1 := blk_c (v := .int .i64 a0_1) BK101.out 1 rfl; have hcz13_2 := blk_c (v := .int .i64 a0_2) BK101.out 2 rfl; have hcz13_3 := blk_c (v := .string a0_3) BK101.out 3 rfl; have hcz13_4 := blk_c (v := .int .i64 a0_4) BK101.out 4 rfl; have hcz13_5 := blk_c (v := .int .i64 a0_5) BK101.out 5 rfl; have hcz13_6 := blk_c (v := .int .i64 a0_6) BK101.out 6 rfl; have hfz13_0 := blk_frozen BK101.out 0; have hfz13_1 := blk_frozen BK101.out 1; have hfz13_2 := blk_frozen BK101.out 2; have hfz13_3 := blk_frozen BK101.out 3; have hfz13_4 := blk_frozen BK101.out 4; have hfz13_5 := blk_frozen BK101.out 5; have hfz13_6 := blk_frozen BK101.out 6) | (at_builtin; refine print_append_str (w0 := w) w.heap.size rfl (.tmp 20) _ 51 9 5 rfl Try.underlying51 Try.underlying9 info5 v106 t105 a0_3 rfl rfl ?aO ?aB ?aS ?aL ?_; (case aB => exact bel_); (case aO => exact (Kd.own_of_R (by (with_reducible repeat (first | apply Kd.R_alloc | apply Kd.R_drewN | apply Kd.R_drew)); exact Kd.R_mono (Kd.R_far (p := ⟨gb110, 1, none⟩) (Kd.R_far (p := ⟨gb110, 0, none⟩) (Kd.R_types HO107.out BK110.out (by decide)) (fun _ hk => hk.2) (.int .i64 t108)) (fun _ hk => hk.2) (.int .i64 t109)) (fun _ hk => trivial)))); (case aS => exact (below_size bel_)); (case aL => have := LMc3.out; omega); intro v112 w14 ho0 hb hg; have ho := Kd.R_of_own (h1 := fun _ => rfl) (ok := fun _ => True) ho0 (fun _ _ => trivial); clear ho0; have hat := True.intro; rw [← Ny111.out] at ho; change Kd.R (Kd.int .u8) 5 w14 w.heap.size (fun _ => True) v112 y111 at ho; replace BK101 := Aside0.mk (blk_grown (g := gb101) (o := .cells #[.int .i64 a0_0, .int .i64 a0_1, .int .i64 a0_2, .string a0_3, .int .i64 a0_4, .int .i64 a0_5, .int .i64 a0_6] 23 (0, 0)) (by refine blk_mv ?_; refine blk_far ?_ NB101_110.out _; refine blk_mv ?_; refine blk_far ?_ NB101_110.out _; refine blk_mv ?_; exact BK101.out) hg (Kd.R_ne HO107.out BK101.out (by decide))); replace BK110 := Aside0.mk (blk_grown (g := gb110) (o := .cells #[.int .i64 t108, .int .i64 t109] 26 (0, 0)) (by refine blk_mv ?_; refine blk_put (cs := #[.int .i64 t108, .int .i64 0]) ?_ 1 _ rfl; refine blk_mv ?_; refine blk_put (cs := #[.int .i64 0, .int .i64 0]) ?_ 0 _ rfl; refine blk_mv ?_; exact BK110.out) hg (Kd.R_ne HO107.out BK110.out (by decide))); replace HB := Aside0.mk (hb); have HO113 := Aside0.mk (ho); clear HO107; clear ho hb hg hat))
    go_ret
    exact ⟨_, by first | rfl | (simp [errW_none, errW_some] <;> rfl) | (simp [*, errW_none, errW_some] <;> rfl), Kd.R_mv HO113.out, bel_⟩
  · rw [if_neg c3] at H
    exact absurd H (by simp)

end Go.Proofs.Ytlbjefoipljkgaa.Fn
