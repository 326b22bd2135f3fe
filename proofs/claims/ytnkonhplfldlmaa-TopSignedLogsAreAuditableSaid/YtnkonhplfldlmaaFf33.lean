/- A function of the program as a plain Lean function, and the proof that the call comes to just what it says (written by wip/tools/xprint.py for this claim). Condition: the plain function has an answer. -/
import Derived.Test.YtnkonhplfldlmaaFn0
import Derived.Test.YtnkonhplfldlmaaFf53
import Derived.Test.YtnkonhplfldlmaaFf54
import Derived.Test.YtnkonhplfldlmaaFs0
import Derived.Test.YtnkonhplfldlmaaWA
import Derived.Test.YtnkonhplfldlmaaTight
namespace Go.Proofs.Ytnkonhplfldlmaa.Fn
open Go.RowKit Go.Proofs.YtnkonhplfldlmaaW.PrintWords Go.Proofs.YtnkonhplfldlmaaW.PrintLast Go.Proofs.YtnkonhplfldlmaaW.PrintMore
attribute [local go_sem] max2_int min2_int max_two min_two max_three min_three max_four min_four   -- for this text's walks alone
set_option linter.unusedVariables false
set_option linter.unusedSimpArgs false

attribute [local go_sem high] eqA24
/-! ### translog_Root: function 33 -/
def translog_Root.f (k : Nat) (l0 : List Int) : Option (Int × Int × Int) := (translog_fault.f k l0).bind fun bt102 => (if (!(bt102.1 == 0) || (!(bt102.2 == 0))) = true then (some (0, bt102.1, bt102.2)) else ((translog_root.f k l0).bind fun t105 => (some (t105, 0, 0))))
theorem translog_Root.mono : ∀ a0 k, LeO (translog_Root.f k a0) (translog_Root.f (k + 1) a0) := by
  intro a0 k
  unfold translog_Root.f
  repeat' first
      | (with_reducible exact translog_fault.mono _ _)
      | (with_reducible exact translog_root.mono _ _)
      | (with_reducible exact LeO.refl _)
      | (with_reducible exact LeO.none _)
      | (with_reducible refine LeO.ite ?_ ?_)
      | (with_reducible refine LeO.bind ?_ (fun _ => ?_))
      | exact translog_fault.mono _ _
      | exact translog_root.mono _ _
      | exact LeO.none _
      | refine LeO.ite ?_ ?_
      | refine LeO.bind ?_ (fun _ => ?_)
set_option maxHeartbeats 8000000 in
set_option maxRecDepth 100000 in
theorem translog_Root.calls (k : Nat) (A0 : Option Addr) (c0 : Nat) (l0 : List Int) (r1 : Int) (r2 : Int) (r3 : Int) (w : World) (hr0 : Kd.C (Kd.int .i64) w A0 l0.length l0) (hc0 : l0.length ≤ c0) (h : translog_Root.f k l0 = some (r1, r2, r3)) :
    Calls Try.prog 33 #[.slice A0 l0.length c0] w fun e w' => e = .returned (.tuple #[.int .i64 r1, .agg #[.int .i64 r2, .int .i64 r3]]) ∧ Below w.heap.size w w' := by
  have hu24 := Try.underlying24
  have HR0 := Aside0.mk hr0
  have HC0 := Aside0.mk hc0
  clear hr0 hc0
  have HB := Aside0.mk (Below.refl w.heap.size w)
  have H : ((translog_fault.f k l0).bind fun bt102 => (if (!(bt102.1 == 0) || (!(bt102.2 == 0))) = true then (some (0, bt102.1, bt102.2)) else ((translog_root.f k l0).bind fun t105 => (some (t105, 0, 0))))) = some (r1, r2, r3) := h
  clear h
  replace H := Option.bind_eq_some_iff.mp H
  obtain ⟨⟨t102, t103⟩, A20, H⟩ := H
  replace H : (if (!(t102 == 0) || (!(t103 == 0))) = true then (some (0, t102, t103)) else ((translog_root.f k l0).bind fun t105 => (some (t105, 0, 0)))) = some (r1, r2, r3) := H
  have A2 := Aside0.mk A20
  clear A20
  by_cases c3 : (!(t102 == 0) || (!(t103 == 0))) = true
  · rw [if_pos c3] at H
    have c3b0 : (!(t102 == 0) || (!(t103 == 0))) = true := c3
    clear c3
    simp only [Option.some.injEq, Prod.mk.injEq] at H
    obtain ⟨rfl, rfl, rfl⟩ := H
    go_enter Try.func33, Try.ntmps33
    try go_wp2_with (first | ((with_reducible refine gate_dst (N := 3) rfl ?_); refine box_event ?hg (N := 3) ?hd (cs := #[.int .i64 0, .int .i64 0]) (t := 24) ?hr ?_; (case hd => rfl); (case hg => rfl); (case hr => first | (go_simp; done) | (go_simp; rfl)); intro gb101 hg w4 hbox hb; have BK101 := Aside0.mk (hbox); have GW101 := Aside0.mk ((bs_ : w.heap.size ≤ gb101)); have GE101 := Aside0.mk ((bs_ : w.heap.size ≤ gb101)); replace HB := Aside0.mk (below_step bel_ hb); clear hb hbox hg) | ((with_reducible refine gate_callee (f := 53) rfl ?_); refine goesL_ (some 6) rfl rfl Try.func53 (by kernel_rfl) rfl #[.slice A0 l0.length c0] rfl ln_ ?_; (with_reducible refine (translog_fault.calls k _ _ l0 t102 t103 _ ?side1 ?side2 A2.out).mono ?_); (case side1 => first | exact (Kd.C_below HR0.out HB.out) | exact Kd.C_mv (Kd.C_below HR0.out HB.out)); (case side2 => exact HC0.out); rintro e w5 ⟨rfl, hb⟩; refine ⟨_, rfl, ?_⟩; replace BK101 := Aside0.mk (blk_below (blk_mv BK101.out) hb); replace HB := Aside0.mk (below_step bel_ hb); (try clear hb); (try clear hb2); (try clear hk); (try clear hi)) | ((with_reducible refine gate_dst (N := 4) rfl ?_); refine box_event ?hg (N := 4) ?hd (cs := #[.int .i64 0, .int .i64 0]) (t := 24) ?hr ?_; (case hd => rfl); (case hg => rfl); (case hr => first | (go_simp; done) | (go_simp; rfl)); intro gb104 hg w6 hbox hb; have BK104 := Aside0.mk (hbox); have GW104 := Aside0.mk ((bs_ : w.heap.size ≤ gb104)); have GE104 := Aside0.mk ((bs_ : w.heap.size ≤ gb104)); replace HB := Aside0.mk (below_step bel_ hb); have NB101_104 := Aside0.mk ((by rw [hg]; exact Nat.ne_of_lt (blk_lt (g := gb101) (o := .cells #[.int .i64 0, .int .i64 0] 24 (0, 0)) (blk_mv BK101.out)) : gb101 ≠ gb104)); have NB104_101 := Aside0.mk ((by rw [hg]; exact Nat.ne_of_gt (blk_lt (g := gb101) (o := .cells #[.int .i64 0, .int .i64 0] 24 (0, 0)) (blk_mv BK101.out)) : gb104 ≠ gb101)); replace BK101 := Aside0.mk (blk_below (blk_mv BK101.out) hb); clear hb hbox hg; have hnb7 := NB104_101.out; have hnc7 := NB101_104.out; have hcz8_0 := blk_c (v := .int .i64 0) BK104.out 0 rfl; have hcz8_1 := blk_c (v := .int .i64 0) BK104.out 1 rfl; have hfz8_0 := blk_frozen BK104.out 0; have hfz8_1 := blk_frozen BK104.out 1))
    have n0_ : Aside0 (((w6.setCell ⟨gb104, 0, none⟩ (.int .i64 t102)).setCell ⟨gb104, 1, none⟩ (.int .i64 t103)).heap[gb101]? = some (.cells #[.int .i64 0, .int .i64 0] 24 (0, 0))) := ⟨by refine blk_mv ?_; refine blk_far ?_ NB101_104.out _; refine blk_mv ?_; refine blk_far ?_ NB101_104.out _; refine blk_mv ?_; exact BK101.out⟩
    have n1_ : Aside0 (((w6.setCell ⟨gb104, 0, none⟩ (.int .i64 t102)).setCell ⟨gb104, 1, none⟩ (.int .i64 t103)).heap[gb104]? = some (.cells #[.int .i64 t102, .int .i64 t103] 24 (0, 0))) := ⟨by refine blk_mv ?_; refine blk_put (cs := #[.int .i64 t102, .int .i64 0]) ?_ 1 _ rfl; refine blk_mv ?_; refine blk_put (cs := #[.int .i64 0, .int .i64 0]) ?_ 0 _ rfl; refine blk_mv ?_; exact BK104.out⟩
    have n2_ : Aside0 (Below w.heap.size w ((w6.setCell ⟨gb104, 0, none⟩ (.int .i64 t102)).setCell ⟨gb104, 1, none⟩ (.int .i64 t103))) := ⟨bel_⟩
    (try clear BK101)
    (try clear BK104)
    (try clear HB)
    generalize ((w6.setCell ⟨gb104, 0, none⟩ (.int .i64 t102)).setCell ⟨gb104, 1, none⟩ (.int .i64 t103)) = w9 at n0_ n1_ n2_ ⊢
    have BK101 := n0_
    have BK104 := n1_
    have HB := n2_
    clear n0_ n1_ n2_
    replace BK101 := Aside0.mk (blk_drew BK101.out)
    replace BK104 := Aside0.mk (blk_drew BK104.out)
    replace HB := Aside0.mk (below_drew1 HB.out)
    refine start_ (n := 3) (S := fun w' => w'.cell? ⟨gb104, 0, none⟩ = some (.int .i64 t102) ∧ w'.cell? ⟨gb104, 1, none⟩ = some (.int .i64 t103)) (ds := []) #[false, false, false] (by kernel_rfl) rfl rfl ⟨(blk_cell BK104.out 0).trans rfl, (blk_cell BK104.out 1).trans rfl⟩ (fun hHeld => ?_)
    generalize w9.drew = w10 at BK101 BK104 HB hHeld ⊢
    refine pure_ (i := 1) (N := some 2) (v := ?_) (a' := ?_) #[false, true, false] rfl rfl (by kernel_rfl) (fun _ _ _ h => h) (Or.inl ⟨by rfl, ?_⟩) ?_ ?_
    rotate_left
    · intro w'
      go_simp
      with_reducible rfl
    rotate_left
    · simp only [Act.put, sa_, sb_, sc_, i64_w, i32_w]
      rfl
    refine take_ (i := 0) (N := some 10) (v := ?_) (a' := ?_) #[true, true, false] rfl rfl (by kernel_rfl) (fun _ _ _ h => h) (Or.inl ⟨by rfl, ?_⟩) hHeld ?_ ?_
    rotate_left
    · rintro w' ⟨s0, s1⟩
      go_simp
      with_reducible rfl
    rotate_left
    · simp only [Act.put, sa_, sb_, sc_, i64_w, i32_w]
      rfl
    refine one_ (i := 2) (N := none) #[true, true, true] rfl rfl (by kernel_rfl) (by decide) (fun K hK => ?_)
    have hs11 : w10.cell? ⟨gb101, 0, none⟩ = some (.int .i64 0) := (blk_cell BK101.out 0).trans rfl
    have hfs11 := blk_frozen BK101.out 0
    have hns11_1 := NB104_101.out
    have hms11_1 := NB101_104.out
    have hs12 : w10.cell? ⟨gb101, 1, none⟩ = some (.int .i64 0) := (blk_cell BK101.out 1).trans rfl
    have hfs12 := blk_frozen BK101.out 1
    have hns12_1 := NB104_101.out
    have hms12_1 := NB101_104.out
    refine skip_ (w1 := ?_) ?_ ?_ ?_ ?_
    rotate_left
    · rfl
    · rfl
    · go_simp
      rfl
    refine hK.out _ _ ⟨((cell_far (p := ⟨gb101, _, none⟩) NB104_101.out _).trans (((cell_far (p := ⟨gb101, _, none⟩) NB104_101.out _).trans (hHeld.1)))), ((cell_far (p := ⟨gb101, _, none⟩) NB104_101.out _).trans (((cell_far (p := ⟨gb101, _, none⟩) NB104_101.out _).trans (hHeld.2))))⟩ (fun hHeld => ?_)
    clear hK K
    refine done_ (by kernel_rfl) ?_
    try go_wp2
    refine bodyPost_ret (results_tc rfl _ _ gb101 24 #[.int .i64 t102, .int .i64 t103] (0, 0) _ rfl (by refine blk_mv ?_; refine blk_put (cs := #[.int .i64 t102, .int .i64 0]) ?_ 1 _ rfl; refine blk_mv ?_; refine blk_put (cs := #[.int .i64 0, .int .i64 0]) ?_ 0 _ rfl; refine blk_mv ?_; exact BK101.out) Try.underlying24 rfl (by kernel_rfl)) rfl ?_
    exact ⟨by first | rfl | (simp [errW_none, errW_some] <;> rfl) | (simp [*, errW_none, errW_some] <;> rfl), bel_⟩
  · rw [if_neg c3] at H
    have c3b0 : (!(t102 == 0) || (!(t103 == 0))) = false := by simpa using c3
    clear c3
    replace H := Option.bind_eq_some_iff.mp H
    obtain ⟨t105, A130, H⟩ := H
    replace H : (some (t105, 0, 0)) = some (r1, r2, r3) := H
    have A13 := Aside0.mk A130
    clear A130
    simp only [Option.some.injEq, Prod.mk.injEq] at H
    obtain ⟨rfl, rfl, rfl⟩ := H
    go_enter Try.func33, Try.ntmps33
    go_wp2_with (first | ((with_reducible refine gate_dst (N := 3) rfl ?_); refine box_event ?hg (N := 3) ?hd (cs := #[.int .i64 0, .int .i64 0]) (t := 24) ?hr ?_; (case hd => rfl); (case hg => rfl); (case hr => first | (go_simp; done) | (go_simp; rfl)); intro gb101 hg w14 hbox hb; have BK101 := Aside0.mk (hbox); have GW101 := Aside0.mk ((bs_ : w.heap.size ≤ gb101)); have GE101 := Aside0.mk ((bs_ : w.heap.size ≤ gb101)); replace HB := Aside0.mk (below_step bel_ hb); clear hb hbox hg) | ((with_reducible refine gate_callee (f := 53) rfl ?_); refine goesL_ (some 6) rfl rfl Try.func53 (by kernel_rfl) rfl #[.slice A0 l0.length c0] rfl ln_ ?_; (with_reducible refine (translog_fault.calls k _ _ l0 t102 t103 _ ?side1 ?side2 A2.out).mono ?_); (case side1 => first | exact (Kd.C_below HR0.out HB.out) | exact Kd.C_mv (Kd.C_below HR0.out HB.out)); (case side2 => exact HC0.out); rintro e w15 ⟨rfl, hb⟩; refine ⟨_, rfl, ?_⟩; replace BK101 := Aside0.mk (blk_below (blk_mv BK101.out) hb); replace HB := Aside0.mk (below_step bel_ hb); (try clear hb); (try clear hb2); (try clear hk); (try clear hi)) | ((with_reducible refine gate_dst (N := 4) rfl ?_); refine box_event ?hg (N := 4) ?hd (cs := #[.int .i64 0, .int .i64 0]) (t := 24) ?hr ?_; (case hd => rfl); (case hg => rfl); (case hr => first | (go_simp; done) | (go_simp; rfl)); intro gb104 hg w16 hbox hb; have BK104 := Aside0.mk (hbox); have GW104 := Aside0.mk ((bs_ : w.heap.size ≤ gb104)); have GE104 := Aside0.mk ((bs_ : w.heap.size ≤ gb104)); replace HB := Aside0.mk (below_step bel_ hb); have NB101_104 := Aside0.mk ((by rw [hg]; exact Nat.ne_of_lt (blk_lt (g := gb101) (o := .cells #[.int .i64 0, .int .i64 0] 24 (0, 0)) (blk_mv BK101.out)) : gb101 ≠ gb104)); have NB104_101 := Aside0.mk ((by rw [hg]; exact Nat.ne_of_gt (blk_lt (g := gb101) (o := .cells #[.int .i64 0, .int .i64 0] 24 (0, 0)) (blk_mv BK101.out)) : gb104 ≠ gb101)); replace BK101 := Aside0.mk (blk_below (blk_mv BK101.out) hb); clear hb hbox hg; have hnb17 := NB104_101.out; have hnc17 := NB101_104.out; have hcz18_0 := blk_c (v := .int .i64 0) BK104.out 0 rfl; have hcz18_1 := blk_c (v := .int .i64 0) BK104.out 1 rfl; have hfz18_0 := blk_frozen BK104.out 0; have hfz18_1 := blk_frozen BK104.out 1) | ((with_reducible refine gate_callee (f := 54) rfl ?_); refine goesL_ (some 12) rfl rfl Try.func54 (by kernel_rfl) rfl #[.slice A0 l0.length c0] rfl ln_ ?_; (with_reducible refine (translog_root.calls k _ _ l0 t105 _ ?side1 ?side2 A13.out).mono ?_); (case side1 => exact Kd.C_below HR0.out bel_); (case side2 => exact HC0.out); rintro e w19 ⟨rfl, hb⟩; refine ⟨_, rfl, ?_⟩; replace BK101 := Aside0.mk (blk_below (g := gb101) (o := .cells #[.int .i64 0, .int .i64 0] 24 (0, 0)) (by refine blk_mv ?_; refine blk_far ?_ NB101_104.out _; refine blk_mv ?_; refine blk_far ?_ NB101_104.out _; refine blk_mv ?_; exact BK101.out) hb); replace BK104 := Aside0.mk (blk_below (g := gb104) (o := .cells #[.int .i64 t102, .int .i64 t103] 24 (0, 0)) (by refine blk_mv ?_; refine blk_put (cs := #[.int .i64 t102, .int .i64 0]) ?_ 1 _ rfl; refine blk_mv ?_; refine blk_put (cs := #[.int .i64 0, .int .i64 0]) ?_ 0 _ rfl; refine blk_mv ?_; exact BK104.out) hb); replace HB := Aside0.mk (below_step bel_ hb); (try clear hb); (try clear hb2); (try clear hk); (try clear hi); have hcz20_0 := blk_c (v := .int .i64 0) BK101.out 0 rfl; have hcz20_1 := blk_c (v := .int .i64 0) BK101.out 1 rfl; have hfz20_0 := blk_frozen BK101.out 0; have hfz20_1 := blk_frozen BK101.out 1))
    refine bodyPost_ret (results_tc rfl _ _ gb101 24 #[.int .i64 0, .int .i64 0] (0, 0) _ rfl (by refine blk_mv ?_; refine blk_put (cs := #[.int .i64 0, .int .i64 0]) ?_ 1 _ rfl; refine blk_mv ?_; refine blk_put (cs := #[.int .i64 0, .int .i64 0]) ?_ 0 _ rfl; refine blk_mv ?_; exact BK101.out) Try.underlying24 rfl (by kernel_rfl)) rfl ?_
    exact ⟨by first | rfl | (simp [errW_none, errW_some] <;> rfl) | (simp [*, errW_none, errW_some] <;> rfl), bel_⟩

end Go.Proofs.Ytnkonhplfldlmaa.Fn
