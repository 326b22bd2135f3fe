/- A function of the program as a plain Lean function, and the proof that the call comes to just what it says (written by wip/tools/xprint.py for this claim). Condition: the plain function has an answer. -/
import Derived.Test.YtlbjefoipljkgaaFn0
import Derived.Test.YtlbjefoipljkgaaFf27
import Derived.Test.YtlbjefoipljkgaaWA
import Derived.Test.YtlbjefoipljkgaaTight
namespace Go.Proofs.Ytlbjefoipljkgaa.Fn
open Go.RowKit Go.Proofs.YtlbjefoipljkgaaW.PrintWords Go.Proofs.YtlbjefoipljkgaaW.PrintLast Go.Proofs.YtlbjefoipljkgaaW.PrintMore
attribute [local go_sem] max2_int min2_int max_two min_two max_three min_three max_four min_four   -- for this text's walks alone
set_option linter.unusedVariables false
set_option linter.unusedSimpArgs false

/-! ### changeforgelaw5_cert: function 25 -/
def changeforgelaw5_cert.f (k : Nat)  : Option (Int × Int × Int × ByteArray × Int × Int × Int) := (changeforgelaw5_nonce.f k 9 100).bind fun t102 => (some (t102, 100, 5, (⟨#[109, 97, 105, 110]⟩ : ByteArray), 1, 2, 0))
theorem changeforgelaw5_cert.mono : ∀ k, LeO (changeforgelaw5_cert.f k ) (changeforgelaw5_cert.f (k + 1) ) := by
  intro  k
  unfold changeforgelaw5_cert.f
  repeat' first
      | (with_reducible exact changeforgelaw5_nonce.mono _ _ _)
      | (with_reducible exact LeO.refl _)
      | (with_reducible exact LeO.none _)
      | (with_reducible refine LeO.ite ?_ ?_)
      | (with_reducible refine LeO.bind ?_ (fun _ => ?_))
      | exact changeforgelaw5_nonce.mono _ _ _
      | exact LeO.none _
      | refine LeO.ite ?_ ?_
      | refine LeO.bind ?_ (fun _ => ?_)
set_option maxHeartbeats 8000000 in
set_option maxRecDepth 100000 in
theorem changeforgelaw5_cert.calls (k : Nat)  (r1 : Int) (r2 : Int) (r3 : Int) (r4 : ByteArray) (r5 : Int) (r6 : Int) (r7 : Int) (w : World) (h : changeforgelaw5_cert.f k  = some (r1, r2, r3, r4, r5, r6, r7)) :
    Calls Try.prog 25 #[] w fun e w' => e = .returned (.agg #[.int .i64 r1, .int .i64 r2, .int .i64 r3, .string r4, .int .i64 r5, .int .i64 r6, .int .i64 r7]) ∧ Below w.heap.size w w' := by
  have hu23 := Try.underlying23
  have HB := Aside0.mk (Below.refl w.heap.size w)
  have H : ((changeforgelaw5_nonce.f k 9 100).bind fun t102 => (some (t102, 100, 5, (⟨#[109, 97, 105, 110]⟩ : ByteArray), 1, 2, 0))) = some (r1, r2, r3, r4, r5, r6, r7) := h
  clear h
  replace H := Option.bind_eq_some_iff.mp H
  obtain ⟨t102, A10, H⟩ := H
  replace H : (some (t102, 100, 5, (⟨#[109, 97, 105, 110]⟩ : ByteArray), 1, 2, 0)) = some (r1, r2, r3, r4, r5, r6, r7) := H
  have A1 := Aside0.mk A10
  clear A10
  simp only [Option.some.injEq, Prod.mk.injEq] at H
  obtain ⟨rfl, rfl, rfl, rfl, rfl, rfl, rfl⟩ := H
  go_enter Try.func25, Try.ntmps25
  go_wp2_with (first | ((with_reducible refine gate_dst (N := 0) rfl ?_); refine box_event ?hg (N := 0) ?hd (cs := #[.int .i64 0, .int .i64 0, .int .i64 0, .string (⟨#[]⟩ : ByteArray), .int .i64 0, .int .i64 0, .int .i64 0]) (t := 23) ?hr ?_; (case hd => rfl); (case hg => rfl); (case hr => first | (go_simp; done) | (go_simp; rfl)); intro gb101 hg w2 hbox hb; have BK101 := Aside0.mk (hbox); have GW101 := Aside0.mk ((bs_ : w.heap.size ≤ gb101)); have GE101 := Aside0.mk ((bs_ : w.heap.size ≤ gb101)); replace HB := Aside0.mk (below_step bel_ hb); clear hb hbox hg) | ((with_reducible refine gate_callee (f := 27) rfl ?_); refine goesL_ (some 1) rfl rfl Try.func27 (by kernel_rfl) rfl #[.int .i64 9, .int .i64 100] rfl ln_ ?_; (with_reducible refine (changeforgelaw5_nonce.calls k 9 100 t102 _ A1.out).mono ?_); rintro e w3 ⟨rfl, hb⟩; refine ⟨_, rfl, ?_⟩; replace BK101 := Aside0.mk (blk_below (blk_mv BK101.out) hb); replace HB := Aside0.mk (below_step bel_ hb); (try clear hb); (try clear hb2); (try clear hk); (try clear hi); have hcz4_0 := blk_c (v := .int .i64 0) BK101.out 0 rfl; have hcz4_1 := blk_c (v := .int .i64 0) BK101.out 1 rfl; have hcz4_2 := blk_c (v := .int .i64 0) BK101.out 2 rfl; have hcz4_3 := blk_c (v := .string (⟨#[]⟩ : ByteArray)) BK101.out 3 rfl; have hcz4_4 := blk_c (v := .int .i64 0) BK101.out 4 rfl; have hcz4_5 := blk_c (v := .int .i64 0) BK101.out 5 rfl; have hcz4_6 := blk_c (v := .int .i64 0) BK101.out 6 rfl; have hfz4_0 := blk_frozen BK101.out 0; have hfz4_1 := blk_frozen BK101.out 1; have hfz4_2 := blk_frozen BK101.out 2; have hfz4_3 := blk_frozen BK101.out 3; have hfz4_4 := blk_frozen BK101.out 4; have hfz4_5 := blk_frozen BK101.out 5; have hfz4_6 := blk_frozen BK101.out 6))
  refine bodyPost_ret (results_cell_row rfl _ _ gb101 23 #[.int .i64 t102, .int .i64 100, .int .i64 5, .string (⟨#[109, 97, 105, 110]⟩ : ByteArray), .int .i64 1, .int .i64 2, .int .i64 0] (0, 0) _ rfl (by refine blk_mv ?_; refine blk_put (cs := #[.int .i64 t102, .int .i64 100, .int .i64 5, .string (⟨#[109, 97, 105, 110]⟩ : ByteArray), .int .i64 1, .int .i64 2, .int .i64 0]) ?_ 6 _ rfl; refine blk_mv ?_; refine blk_put (cs := #[.int .i64 t102, .int .i64 100, .int .i64 5, .string (⟨#[109, 97, 105, 110]⟩ : ByteArray), .int .i64 1, .int .i64 0, .int .i64 0]) ?_ 5 _ rfl; refine blk_mv ?_; refine blk_put (cs := #[.int .i64 t102, .int .i64 100, .int .i64 5, .string (⟨#[109, 97, 105, 110]⟩ : ByteArray), .int .i64 0, .int .i64 0, .int .i64 0]) ?_ 4 _ rfl; refine blk_mv ?_; refine blk_put (cs := #[.int .i64 t102, .int .i64 100, .int .i64 5, .string (⟨#[]⟩ : ByteArray), .int .i64 0, .int .i64 0, .int .i64 0]) ?_ 3 _ rfl; refine blk_mv ?_; refine blk_put (cs := #[.int .i64 t102, .int .i64 100, .int .i64 0, .string (⟨#[]⟩ : ByteArray), .int .i64 0, .int .i64 0, .int .i64 0]) ?_ 2 _ rfl; refine blk_mv ?_; refine blk_put (cs := #[.int .i64 t102, .int .i64 0, .int .i64 0, .string (⟨#[]⟩ : ByteArray), .int .i64 0, .int .i64 0, .int .i64 0]) ?_ 1 _ rfl; refine blk_mv ?_; refine blk_put (cs := #[.int .i64 0, .int .i64 0, .int .i64 0, .string (⟨#[]⟩ : ByteArray), .int .i64 0, .int .i64 0, .int .i64 0]) ?_ 0 _ rfl; refine blk_mv ?_; exact BK101.out) Try.underlying23 rfl (by kernel_rfl)) rfl ?_
  exact ⟨by first | rfl | (simp [errW_none, errW_some] <;> rfl) | (simp [*, errW_none, errW_some] <;> rfl), bel_⟩

end Go.Proofs.Ytlbjefoipljkgaa.Fn
