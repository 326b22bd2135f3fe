/- A function of the program as a plain Lean function, and the proof that the call comes to just what it says (written by wip/tools/xprint.py for this claim). Condition: the plain function has an answer. -/
import Derived.Test.YtdelkdlegokbjaaFn0
import Derived.Test.YtdelkdlegokbjaaFf42
import Derived.Test.YtdelkdlegokbjaaWA
import Derived.Test.YtdelkdlegokbjaaTight
namespace Go.Proofs.Ytdelkdlegokbjaa.Fn
open Go.RowKit Go.Proofs.YtdelkdlegokbjaaW.PrintWords Go.Proofs.YtdelkdlegokbjaaW.PrintLast Go.Proofs.YtdelkdlegokbjaaW.PrintMore
attribute [local go_sem] max2_int min2_int max_two min_two max_three min_three max_four min_four   -- for this text's walks alone
set_option linter.unusedVariables false
set_option linter.unusedSimpArgs false

/-! ### changeforgelaw5_two: function 23 -/
def changeforgelaw5_two.f (k : Nat) (l0 : List Int) : Option ((List (S58))) := (signing_Sign.f k 5 l0).bind fun bt101 => ((signing_Sign.f k 7 l0).bind fun bt105 => (some (([(⟨5, bt101.1⟩ : S58), (⟨7, bt105.1⟩ : S58)] : List (S58)))))
theorem changeforgelaw5_two.mono : ∀ a0 k, LeO (changeforgelaw5_two.f k a0) (changeforgelaw5_two.f (k + 1) a0) := by
  intro a0 k
  unfold changeforgelaw5_two.f
  repeat' first
      | (with_reducible exact signing_Sign.mono _ _ _)
      | (with_reducible exact LeO.refl _)
      | (with_reducible exact LeO.none _)
      | (with_reducible refine LeO.ite ?_ ?_)
      | (with_reducible refine LeO.bind ?_ (fun _ => ?_))
      | exact signing_Sign.mono _ _ _
      | exact LeO.none _
      | refine LeO.ite ?_ ?_
      | refine LeO.bind ?_ (fun _ => ?_)
set_option maxHeartbeats 8000000 in
set_option maxRecDepth 100000 in
theorem changeforgelaw5_two.calls (k : Nat) (A0 : Option Addr) (c0 : Nat) (l0 : List Int) (r : List (S58)) (w : World) (hr0 : Kd.C (Kd.int .u8) w A0 l0.length l0) (hc0 : l0.length ≤ c0) (h : changeforgelaw5_two.f k l0 = some r) :
    Calls Try.prog 23 #[.slice A0 l0.length c0] w fun e w' => ∃ v0_ : Value, e = .returned (v0_) ∧ Kd.R k58 58 w' w.heap.size (fun _ => True) v0_ r ∧ Below w.heap.size w w' := by
  have hu27 := Try.underlying27
  have hu58 := Try.underlying58
  have HR0 := Aside0.mk hr0
  have HC0 := Aside0.mk hc0
  clear hr0 hc0
  have HB := Aside0.mk (Below.refl w.heap.size w)
  have H : ((signing_Sign.f k 5 l0).bind fun bt101 => ((signing_Sign.f k 7 l0).bind fun bt105 => (some (([(⟨5, bt101.1⟩ : S58), (⟨7, bt105.1⟩ : S58)] : List (S58)))))) = some r := h
  clear h
  replace H := Option.bind_eq_some_iff.mp H
  obtain ⟨⟨t101, t102, t103⟩, A20, H⟩ := H
  replace H : ((signing_Sign.f k 7 l0).bind fun bt105 => (some (([(⟨5, t101⟩ : S58), (⟨7, bt105.1⟩ : S58)] : List (S58))))) = some r := H
  have A2 := Aside0.mk A20
  clear A20
  replace H := Option.bind_eq_some_iff.mp H
  obtain ⟨⟨t105, t106, t107⟩, A30, H⟩ := H
  replace H : (some (([(⟨5, t101⟩ : S58), (⟨7, t105⟩ : S58)] : List (S58)))) = some r := H
  have A3 := Aside0.mk A30
  clear A30
  obtain ⟨y109, hy109⟩ : ∃ y_ : List (S58), y_ = (([(⟨5, t101⟩ : S58), (⟨7, t105⟩ : S58)] : List (S58))) := ⟨_, rfl⟩
  replace H : (some y109) = some r := by first | (rw [hy109]; with_reducible exact H) | (have H2_ := (Option.bind_some _ _).symm.trans H; rw [hy109]; with_reducible exact H2_) | (have H2_ := (Option.bind_some _ _).symm.trans H; with_reducible exact H2_) | with_reducible exact H | (rw [hy109]; exact H) | exact H
  have Ny109 := Aside0.mk hy109
  clear hy109
  obtain rfl := Option.some.inj H
  go_enter Try.func23, Try.ntmps23
  go_wp2_with (first | ((with_reducible refine gate_callee (f := 42) rfl ?_); refine goesL_ (some 9) rfl rfl Try.func42 (by kernel_rfl) rfl #[.int .i64 5, .slice A0 l0.length c0] rfl ln_ ?_; (with_reducible refine (signing_Sign.calls k 5 _ _ l0 t101 t102 t103 _ ?side1 ?side2 A2.out).mono ?_); (case side1 => first | exact HR0.out | exact Kd.C_mv HR0.out); (case side2 => exact HC0.out); rintro e w4 ⟨rfl, hb⟩; refine ⟨_, rfl, ?_⟩; replace HB := Aside0.mk (below_step bel_ hb); (try clear hb); (try clear hb2); (try clear hk); (try clear hi)) | ((with_reducible refine gate_dst (N := 4) rfl ?_); refine box_event ?hg (N := 4) ?hd (cs := #[.int .i64 0, .int .i64 0]) (t := 27) ?hr ?_; (case hd => rfl); (case hg => rfl); (case hr => first | (go_simp; done) | (go_simp; rfl)); intro gb104 hg w5 hbox hb; have BK104 := Aside0.mk (hbox); have GW104 := Aside0.mk ((bs_ : w.heap.size ≤ gb104)); have GE104 := Aside0.mk ((bs_ : w.heap.size ≤ gb104)); replace HB := Aside0.mk (below_step bel_ hb); clear hb hbox hg; have hcz6_0 := blk_c (v := .int .i64 0) BK104.out 0 rfl; have hcz6_1 := blk_c (v := .int .i64 0) BK104.out 1 rfl; have hfz6_0 := blk_frozen BK104.out 0; have hfz6_1 := blk_frozen BK104.out 1) | ((with_reducible refine gate_callee (f := 42) rfl ?_); refine goesL_ (some 14) rfl rfl Try.func42 (by kernel_rfl) rfl #[.int .i64 7, .slice A0 l0.length c0] rfl ln_ ?_; (with_reducible refine (signing_Sign.calls k 7 _ _ l0 t105 t106 t107 _ ?side1 ?side2 A3.out).mono ?_); (case side1 => exact Kd.C_below HR0.out bel_); (case side2 => exact HC0.out); rintro e w7 ⟨rfl, hb⟩; refine ⟨_, rfl, ?_⟩; replace BK104 := Aside0.mk (blk_below (g := gb104) (o := .cells #[.int .i64 t102, .int .i64 t103] 27 (0, 0)) (by refine blk_mv ?_; refine blk_put (cs := #[.int .i64 t102, .int .i64 0]) ?_ 1 _ rfl; refine blk_mv ?_; refine blk_put (cs := #[.int .i64 0, .int .i64 0]) ?_ 0 _ rfl; refine blk_mv ?_; exact BK104.out) hb); replace HB := Aside0.mk (below_step bel_ hb); (try clear hb); (try clear hb2); (try clear hk); (try clear hi)) | ((with_reducible refine gate_dst (N := 6) rfl ?_); refine box_event ?hg (N := 6) ?hd (cs := #[.int .i64 0, .int .i64 0]) (t := 27) ?hr ?_; (case hd => rfl); (case hg => rfl); (case hr => first | (go_simp; done) | (go_simp; rfl)); intro gb108 hg w8 hbox hb; have BK108 := Aside0.mk (hbox); have GW108 := Aside0.mk ((bs_ : w.heap.size ≤ gb108)); have GE108 := Aside0.mk ((bs_ : w.heap.size ≤ gb108)); replace HB := Aside0.mk (below_step bel_ hb); have NB104_108 := Aside0.mk ((by rw [hg]; exact Nat.ne_of_lt (blk_lt (g := gb104) (o := .cells #[.int .i64 t102, .int .i64 t103] 27 (0, 0)) (blk_mv BK104.out)) : gb104 ≠ gb108)); have NB108_104 := Aside0.mk ((by rw [hg]; exact Nat.ne_of_gt (blk_lt (g := gb104) (o := .cells #[.int .i64 t102, .int .i64 t103] 27 (0, 0)) (blk_mv BK104.out)) : gb108 ≠ gb104)); replace BK104 := Aside0.mk (blk_below (blk_mv BK104.out) hb); clear hb hbox hg; have hnb9 := NB108_104.out; have hnc9 := NB104_108.out; have hcz10_0 := blk_c (v := .int .i64 0) BK108.out 0 rfl; have hcz10_1 := blk_c (v := .int .i64 0) BK108.out 1 rfl; have hfz10_0 := blk_frozen BK108.out 0; have hfz10_1 := blk_frozen BK108.out 1) | ((with_reducible refine gate_dst (N := 21) rfl ?_); refine Kd.R_lit k58 _ 58 ?hg (N := 21) ?hd (xs := ([(⟨5, t101⟩ : S58), (⟨7, t105⟩ : S58)] : List (S58))) (inner := [.int .i64 5, .int .i64 t101, .int .i64 7, .int .i64 t105]) (ok := fun _ => True) (okp := fun _ => True) ?hr ?hp (fun _ hk => hk) trivial (Below.refl _ _) (Nat.le_refl _) (by simp) ?_; (case hd => rfl); (case hg => rfl); (case hr => first | (go_simp; done) | (go_simp; rfl)); (case hp => exact (Reps.c2 (show Kd.M k58 _ _ _ (⟨5, t101⟩ : S58) [.int .i64 5, .int .i64 t101] from (k58_mkM _ _ _ (⟨5, t101⟩ : S58) )) (Reps.c2 (show Kd.M k58 _ _ _ (⟨7, t105⟩ : S58) [.int .i64 7, .int .i64 t105] from (k58_mkM _ _ _ (⟨7, t105⟩ : S58) )) (Reps.none _ _)))); intro v110 w11 ho12 hb hg_ hnew_; clear hg_ hnew_; (first | rw [← Ny109.out] at ho12 | (simp only [Int.reduceToNat] at ho12; rw [← Ny109.out] at ho12)); have HO111 := Aside0.mk (Kd.R_lower ho12 (below_size bel_)); replace BK104 := Aside0.mk (blk_below (g := gb104) (o := .cells #[.int .i64 t102, .int .i64 t103] 27 (0, 0)) (by refine blk_mv ?_; refine blk_far ?_ NB104_108.out _; refine blk_mv ?_; refine blk_far ?_ NB104_108.out _; refine blk_mv ?_; exact BK104.out) hb); replace BK108 := Aside0.mk (blk_below (g := gb108) (o := .cells #[.int .i64 t106, .int .i64 t107] 27 (0, 0)) (by refine blk_mv ?_; refine blk_put (cs := #[.int .i64 t106, .int .i64 0]) ?_ 1 _ rfl; refine blk_mv ?_; refine blk_put (cs := #[.int .i64 0, .int .i64 0]) ?_ 0 _ rfl; refine blk_mv ?_; exact BK108.out) hb); replace HB := Aside0.mk (below_step bel_ hb); clear hb ho12))
  go_ret
  exact ⟨_, by first | rfl | (simp [errW_none, errW_some] <;> rfl) | (simp [*, errW_none, errW_some] <;> rfl), Kd.R_mv HO111.out, bel_⟩

end Go.Proofs.Ytdelkdlegokbjaa.Fn
