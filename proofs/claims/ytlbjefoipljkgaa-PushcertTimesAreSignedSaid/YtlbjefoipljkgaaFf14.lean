/- A function of the program as a plain Lean function, and the proof that the call comes to just what it says (written by wip/tools/xprint.py for this claim). Condition: the plain function has an answer. -/
import Derived.Test.YtlbjefoipljkgaaFn0
import Derived.Test.YtlbjefoipljkgaaFf34
import Derived.Test.YtlbjefoipljkgaaFs0
import Derived.Test.YtlbjefoipljkgaaWA
import Derived.Test.YtlbjefoipljkgaaTight
namespace Go.Proofs.Ytlbjefoipljkgaa.Fn
open Go.RowKit Go.Proofs.YtlbjefoipljkgaaW.PrintWords Go.Proofs.YtlbjefoipljkgaaW.PrintLast Go.Proofs.YtlbjefoipljkgaaW.PrintMore
attribute [local go_sem] max2_int min2_int max_two min_two max_three min_three max_four min_four   -- for this text's walks alone
set_option linter.unusedVariables false
set_option linter.unusedSimpArgs false

/-! ### changeforgeref5_Nonce: function 14 -/
def changeforgeref5_Nonce.f (k : Nat) (a0 : Int) (a1 : Int) : Option (Int) := (changeforgeref5_Message.f k (([a1] : List Int))).bind fun t104 => ((changeforgeref5_Sign.f k a0 t104).bind fun t107 => (some t107))
theorem changeforgeref5_Nonce.mono : ∀ a0 a1 k, LeO (changeforgeref5_Nonce.f k a0 a1) (changeforgeref5_Nonce.f (k + 1) a0 a1) := by
  intro a0 a1 k
  unfold changeforgeref5_Nonce.f
  repeat' first
      | (with_reducible exact changeforgeref5_Message.mono _ _)
      | (with_reducible exact changeforgeref5_Sign.mono _ _ _)
      | (with_reducible exact LeO.refl _)
      | (with_reducible exact LeO.none _)
      | (with_reducible refine LeO.ite ?_ ?_)
      | (with_reducible refine LeO.bind ?_ (fun _ => ?_))
      | exact changeforgeref5_Message.mono _ _
      | exact changeforgeref5_Sign.mono _ _ _
      | exact LeO.none _
      | refine LeO.ite ?_ ?_
      | refine LeO.bind ?_ (fun _ => ?_)
set_option maxHeartbeats 8000000 in
set_option maxRecDepth 100000 in
theorem changeforgeref5_Nonce.calls (k : Nat) (a0 : Int) (a1 : Int) (r : Int) (w : World) (h : changeforgeref5_Nonce.f k a0 a1 = some r) :
    Calls Try.prog 14 #[.int .i64 a0, .int .i64 a1] w fun e w' => e = .returned (.int .i64 r) ∧ Below w.heap.size w w' := by
  have HB := Aside0.mk (Below.refl w.heap.size w)
  have H : ((changeforgeref5_Message.f k (([a1] : List Int))).bind fun t104 => ((changeforgeref5_Sign.f k a0 t104).bind fun t107 => (some t107))) = some r := h
  clear h
  obtain ⟨y101, hy101⟩ : ∃ y_ : List Int, y_ = (([a1] : List Int)) := ⟨_, rfl⟩
  replace H : ((changeforgeref5_Message.f k y101).bind fun t104 => ((changeforgeref5_Sign.f k a0 t104).bind fun t107 => (some t107))) = some r := by first | (rw [hy101]; with_reducible exact H) | (have H2_ := (Option.bind_some _ _).symm.trans H; rw [hy101]; with_reducible exact H2_) | (have H2_ := (Option.bind_some _ _).symm.trans H; with_reducible exact H2_) | with_reducible exact H | (rw [hy101]; exact H) | exact H
  have Ny101 := Aside0.mk hy101
  clear hy101
  replace H := Option.bind_eq_some_iff.mp H
  obtain ⟨t104, A30, H⟩ := H
  replace H : ((changeforgeref5_Sign.f k a0 t104).bind fun t107 => (some t107)) = some r := H
  have A3 := Aside0.mk A30
  clear A30
  replace H := Option.bind_eq_some_iff.mp H
  obtain ⟨t107, A40, H⟩ := H
  replace H : (some t107) = some r := H
  have A4 := Aside0.mk A40
  clear A40
  obtain rfl := Option.some.inj H
  go_enter Try.func14, Try.ntmps14
  go_wp2_with (first | ((with_reducible refine gate_dst (N := 7) rfl ?_); refine Kd.R_lit (Kd.int .i64) _ 3 ?hg (N := 7) ?hd (xs := ([a1] : List Int)) (inner := [.int .i64 a1]) (ok := fun _ => True) (okp := fun _ => True) ?hr ?hp (fun _ hk => hk) trivial (Below.refl _ _) (Nat.le_refl _) (by simp) ?_; (case hd => rfl); (case hg => rfl); (case hr => first | (go_simp; done) | (go_simp; rfl)); (case hp => exact (Reps.one (show Kd.M (Kd.int .i64) _ _ _ a1 [.int .i64 a1] from rfl) (Reps.none _ _))); intro v102 w5 ho6 hb hg_ hnew_; clear hg_ hnew_; (first | rw [← Ny101.out] at ho6 | (simp only [Int.reduceToNat] at ho6; rw [← Ny101.out] at ho6)); have HO103 := Aside0.mk (Kd.R_lower ho6 (below_size bel_)); replace HB := Aside0.mk (below_step bel_ hb); clear hb ho6; obtain ⟨Ao7, co7, eo7⟩ := Kd.R_slice HO103.out; subst eo7) | ((with_reducible refine gate_callee (f := 34) rfl ?_); refine goesL_ (some 8) rfl rfl Try.func34 (by kernel_rfl) rfl #[.slice Ao7 y101.length co7] rfl ln_ ?_; (with_reducible refine (changeforgeref5_Message.calls k _ _ y101 t104 _ ?side1 ?side2 A3.out).mono ?_); (case side1 => first | exact (Kd.R_reads' HO103.out).2.2 | exact Kd.C_mv (Kd.R_reads' HO103.out).2.2); (case side2 => exact (Kd.R_reads' HO103.out).2.1); rintro e w8 ⟨v105, rfl, ho0, hb⟩; refine ⟨_, rfl, ?_⟩; replace HO103 := Aside0.mk (Kd.R_below (Kd.R_mv HO103.out) hb); have HO106 := Aside0.mk (Kd.R_lower ho0 (below_size bel_)); replace HB := Aside0.mk (below_step bel_ hb); (try clear hb); (try clear hb2); (try clear hk); (try clear hi); (try clear ho0); obtain ⟨Ao9, co9, eo9⟩ := Kd.R_slice HO106.out; subst eo9) | ((with_reducible refine gate_callee (f := 33) rfl ?_); refine goesL_ (some 9) rfl rfl Try.func33 (by kernel_rfl) rfl #[.int .i64 a0, .slice Ao9 t104.length co9] rfl ln_ ?_; (with_reducible refine (changeforgeref5_Sign.calls k a0 _ _ t104 t107 _ ?side1 ?side2 A4.out).mono ?_); (case side1 => first | exact (Kd.R_reads' HO106.out).2.2 | exact Kd.C_mv (Kd.R_reads' HO106.out).2.2); (case side2 => exact (Kd.R_reads' HO106.out).2.1); rintro e w' ⟨rfl, ⟨nd, rfl⟩⟩; refine ⟨_, rfl, ?_⟩))
  go_ret
  exact ⟨by first | rfl | (simp [errW_none, errW_some] <;> rfl) | (simp [*, errW_none, errW_some] <;> rfl), bel_⟩

end Go.Proofs.Ytlbjefoipljkgaa.Fn
