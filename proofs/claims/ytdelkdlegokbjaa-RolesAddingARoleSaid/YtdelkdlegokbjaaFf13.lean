/- A function of the program as a plain Lean function, and the proof that the call comes to just what it says (written by wip/tools/xprint.py for this claim). Condition: the plain function has an answer. -/
import Derived.Test.YtdelkdlegokbjaaFn0
import Derived.Test.YtdelkdlegokbjaaFf12
import Derived.Test.YtdelkdlegokbjaaFs0
import Derived.Test.YtdelkdlegokbjaaWA
import Derived.Test.YtdelkdlegokbjaaTight
namespace Go.Proofs.Ytdelkdlegokbjaa.Fn
open Go.RowKit Go.Proofs.YtdelkdlegokbjaaW.PrintWords Go.Proofs.YtdelkdlegokbjaaW.PrintLast Go.Proofs.YtdelkdlegokbjaaW.PrintMore
attribute [local go_sem] max2_int min2_int max_two min_two max_three min_three max_four min_four   -- for this text's walks alone
set_option linter.unusedVariables false
set_option linter.unusedSimpArgs false

attribute [local go_sem high] eqA27
/-! ### roles_Of: function 13 -/
def roles_Of.f (k : Nat) (l0 : List (S40)) (a1 : ByteArray) : Option (Int × Int × Int) := (roles_Chain.f k l0 a1).bind fun bt102 => (if (!(bt102.2.1 == 0) || (!(bt102.2.2 == 0))) = true then (some (0, bt102.2.1, bt102.2.2)) else (if 0 ≤ (wrap64 ((bt102.1.length : Int) - 1)) then (if (wrap64 ((bt102.1.length : Int) - 1)) < (bt102.1.length : Int) then (some (rd bt102.1 (wrap64 ((bt102.1.length : Int) - 1)), 0, 0)) else (none)) else (none)))
theorem roles_Of.mono : ∀ a0 a1 k, LeO (roles_Of.f k a0 a1) (roles_Of.f (k + 1) a0 a1) := by
  intro a0 a1 k
  unfold roles_Of.f
  repeat' first
      | (with_reducible exact roles_Chain.mono _ _ _)
      | (with_reducible exact LeO.refl _)
      | (with_reducible exact LeO.none _)
      | (with_reducible refine LeO.ite ?_ ?_)
      | (with_reducible refine LeO.bind ?_ (fun _ => ?_))
      | exact roles_Chain.mono _ _ _
      | exact LeO.none _
      | refine LeO.ite ?_ ?_
      | refine LeO.bind ?_ (fun _ => ?_)
set_option maxHeartbeats 8000000 in
set_option maxRecDepth 100000 in
theorem roles_Of.calls (k : Nat) (A0 : Option Addr) (c0 : Nat) (l0 : List (S40)) (a1 : ByteArray) (r1 : Int) (r2 : Int) (r3 : Int) (w : World) (hr0 : Kd.C k40 w A0 l0.length l0) (hc0 : l0.length ≤ c0) (h : roles_Of.f k l0 a1 = some (r1, r2, r3)) :
    Calls Try.prog 13 #[.slice A0 l0.length c0, .string a1] w fun e w' => e = .returned (.tuple #[.int .i64 r1, .agg #[.int .i64 r2, .int .i64 r3]]) ∧ Below w.heap.size w w' := by
  have hu27 := Try.underlying27
  have HR0 := Aside0.mk hr0
  have HC0 := Aside0.mk hc0
  clear hr0 hc0
  have HB := Aside0.mk (Below.refl w.heap.size w)
  have H : ((roles_Chain.f k l0 a1).bind fun bt102 => (if (!(bt102.2.1 == 0) || (!(bt102.2.2 == 0))) = true then (some (0, bt102.2.1, bt102.2.2)) else (if 0 ≤ (wrap64 ((bt102.1.length : Int) - 1)) then (if (wrap64 ((bt102.1.length : Int) - 1)) < (bt102.1.length : Int) then (some (rd bt102.1 (wrap64 ((bt102.1.length : Int) - 1)), 0, 0)) else (none)) else (none)))) = some (r1, r2, r3) := h
  clear h
  replace H := Option.bind_eq_some_iff.mp H
  obtain ⟨⟨t102, t105, t106⟩, A30, H⟩ := H
  replace H : (if (!(t105 == 0) || (!(t106 == 0))) = true then (some (0, t105, t106)) else (if 0 ≤ (wrap64 ((t102.length : Int) - 1)) then (if (wrap64 ((t102.length : Int) - 1)) < (t102.length : Int) then (some (rd t102 (wrap64 ((t102.length : Int) - 1)), 0, 0)) else (none)) else (none))) = some (r1, r2, r3) := H
  have A3 := Aside0.mk A30
  clear A30
  by_cases c4 : (!(t105 == 0) || (!(t106 == 0))) = true
  · rw [if_pos c4] at H
    have c4b0 : (!(t105 == 0) || (!(t106 == 0))) = true := c4
    clear c4
    simp only [Option.some.injEq, Prod.mk.injEq] at H
    obtain ⟨rfl, rfl, rfl⟩ := H
    go_enter Try.func13, Try.ntmps13
    try go_wp2_with (first | ((with_reducible refine gate_dst (N := 5) rfl ?_); refine box_event ?hg (N := 5) ?hd (cs := #[.int .i64 0, .int .i64 0]) (t := 27) ?hr ?_; (case hd => rfl); (case hg => rfl); (case hr => first | (go_simp; done) | (go_simp; rfl)); intro gb101 hg w5 hbox hb; have BK101 := Aside0.mk (hbox); have GW101 := Aside0.mk ((bs_ : w.heap.size ≤ gb101)); have GE101 := Aside0.mk ((bs_ : w.heap.size ≤ gb101)); replace HB := Aside0.mk (below_step bel_ hb); clear hb hbox hg) | ((with_reducible refine gate_callee (f := 12) rfl ?_); refine goesL_ (some 11) rfl rfl Try.func12 (by kernel_rfl) rfl #[.slice A0 l0.length c0, .string a1] rfl ln_ ?_; (with_reducible refine (roles_Chain.calls k _ _ l0 a1 t102 t105 t106 _ ?side1 ?side2 A3.out).mono ?_); (case side1 => first | exact (Kd.C_below HR0.out HB.out) | exact Kd.C_mv (Kd.C_below HR0.out HB.out)); (case side2 => exact HC0.out); rintro e w6 ⟨v103, rfl, ho0, hb⟩; refine ⟨_, rfl, ?_⟩; have HO104 := Aside0.mk (Kd.R_lower ho0 (below_size bel_)); replace BK101 := Aside0.mk (blk_below (blk_mv BK101.out) hb); replace HB := Aside0.mk (below_step bel_ hb); (try clear hb); (try clear hb2); (try clear hk); (try clear hi); (try clear ho0)) | ((with_reducible refine gate_dst (N := 7) rfl ?_); refine box_event ?hg (N := 7) ?hd (cs := #[.int .i64 0, .int .i64 0]) (t := 27) ?hr ?_; (case hd => rfl); (case hg => rfl); (case hr => first | (go_simp; done) | (go_simp; rfl)); intro gb107 hg w7 hbox hb; have BK107 := Aside0.mk (hbox); have GW107 := Aside0.mk ((bs_ : w.heap.size ≤ gb107)); have GE107 := Aside0.mk ((bs_ : w.heap.size ≤ gb107)); replace HB := Aside0.mk (below_step bel_ hb); have NB101_107 := Aside0.mk ((by rw [hg]; exact Nat.ne_of_lt (blk_lt (g := gb101) (o := .cells #[.int .i64 0, .int .i64 0] 27 (0, 0)) (blk_mv BK101.out)) : gb101 ≠ gb107)); have NB107_101 := Aside0.mk ((by rw [hg]; exact Nat.ne_of_gt (blk_lt (g := gb101) (o := .cells #[.int .i64 0, .int .i64 0] 27 (0, 0)) (blk_mv BK101.out)) : gb107 ≠ gb101)); replace BK101 := Aside0.mk (blk_below (blk_mv BK101.out) hb); clear hb hbox hg; have hnb8 := NB107_101.out; have hnc8 := NB101_107.out; have hcz9_0 := blk_c (v := .int .i64 0) BK107.out 0 rfl; have hcz9_1 := blk_c (v := .int .i64 0) BK107.out 1 rfl; have hfz9_0 := blk_frozen BK107.out 0; have hfz9_1 := blk_frozen BK107.out 1))
    have n0_ : Aside0 (((w7.setCell ⟨gb107, 0, none⟩ (.int .i64 t105)).setCell ⟨gb107, 1, none⟩ (.int .i64 t106)).heap[gb101]? = some (.cells #[.int .i64 0, .int .i64 0] 27 (0, 0))) := ⟨by refine blk_mv ?_; refine blk_far ?_ NB101_107.out _; refine blk_mv ?_; refine blk_far ?_ NB101_107.out _; refine blk_mv ?_; exact BK101.out⟩
    have n1_ : Aside0 (((w7.setCell ⟨gb107, 0, none⟩ (.int .i64 t105)).setCell ⟨gb107, 1, none⟩ (.int .i64 t106)).heap[gb107]? = some (.cells #[.int .i64 t105, .int .i64 t106] 27 (0, 0))) := ⟨by refine blk_mv ?_; refine blk_put (cs := #[.int .i64 t105, .int .i64 0]) ?_ 1 _ rfl; refine blk_mv ?_; refine blk_put (cs := #[.int .i64 0, .int .i64 0]) ?_ 0 _ rfl; refine blk_mv ?_; exact BK107.out⟩
    have n2_ : Aside0 (Below w.heap.size w ((w7.setCell ⟨gb107, 0, none⟩ (.int .i64 t105)).setCell ⟨gb107, 1, none⟩ (.int .i64 t106))) := ⟨bel_⟩
    (try clear BK101)
    (try clear BK107)
    (try clear HB)
    generalize ((w7.setCell ⟨gb107, 0, none⟩ (.int .i64 t105)).setCell ⟨gb107, 1, none⟩ (.int .i64 t106)) = w10 at n0_ n1_ n2_ ⊢
    have BK101 := n0_
    have BK107 := n1_
    have HB := n2_
    clear n0_ n1_ n2_
    replace BK101 := Aside0.mk (blk_drew BK101.out)
    replace BK107 := Aside0.mk (blk_drew BK107.out)
    replace HB := Aside0.mk (below_drew1 HB.out)
    refine start_ (n := 3) (S := fun w' => w'.cell? ⟨gb107, 0, none⟩ = some (.int .i64 t105) ∧ w'.cell? ⟨gb107, 1, none⟩ = some (.int .i64 t106)) (ds := []) #[false, false, false] (by kernel_rfl) rfl rfl ⟨(blk_cell BK107.out 0).trans rfl, (blk_cell BK107.out 1).trans rfl⟩ (fun hHeld => ?_)
    generalize w10.drew = w11 at BK101 BK107 HB hHeld ⊢
    refine pure_ (i := 1) (N := some 4) (v := ?_) (a' := ?_) #[false, true, false] rfl rfl (by kernel_rfl) (fun _ _ _ h => h) (Or.inl ⟨by rfl, ?_⟩) ?_ ?_
    rotate_left
    · intro w'
      go_simp
      with_reducible rfl
    rotate_left
    · simp only [Act.put, sa_, sb_, sc_, i64_w, i32_w]
      rfl
    refine take_ (i := 0) (N := some 17) (v := ?_) (a' := ?_) #[true, true, false] rfl rfl (by kernel_rfl) (fun _ _ _ h => h) (Or.inl ⟨by rfl, ?_⟩) hHeld ?_ ?_
    rotate_left
    · rintro w' ⟨s0, s1⟩
      go_simp
      with_reducible rfl
    rotate_left
    · simp only [Act.put, sa_, sb_, sc_, i64_w, i32_w]
      rfl
    refine one_ (i := 2) (N := none) #[true, true, true] rfl rfl (by kernel_rfl) (by decide) (fun K hK => ?_)
    have hs12 : w11.cell? ⟨gb101, 0, none⟩ = some (.int .i64 0) := (blk_cell BK101.out 0).trans rfl
    have hfs12 := blk_frozen BK101.out 0
    have hns12_1 := NB107_101.out
    have hms12_1 := NB101_107.out
    have hs13 : w11.cell? ⟨gb101, 1, none⟩ = some (.int .i64 0) := (blk_cell BK101.out 1).trans rfl
    have hfs13 := blk_frozen BK101.out 1
    have hns13_1 := NB107_101.out
    have hms13_1 := NB101_107.out
    refine skip_ (w1 := ?_) ?_ ?_ ?_ ?_
    rotate_left
    · rfl
    · rfl
    · go_simp
      rfl
    refine hK.out _ _ ⟨((cell_far (p := ⟨gb101, _, none⟩) NB107_101.out _).trans (((cell_far (p := ⟨gb101, _, none⟩) NB107_101.out _).trans (hHeld.1)))), ((cell_far (p := ⟨gb101, _, none⟩) NB107_101.out _).trans (((cell_far (p := ⟨gb101, _, none⟩) NB107_101.out _).trans (hHeld.2))))⟩ (fun hHeld => ?_)
    clear hK K
    refine done_ (by kernel_rfl) ?_
    try go_wp2
    refine bodyPost_ret (results_tc rfl _ _ gb101 27 #[.int .i64 t105, .int .i64 t106] (0, 0) _ rfl (by refine blk_mv ?_; refine blk_put (cs := #[.int .i64 t105, .int .i64 0]) ?_ 1 _ rfl; refine blk_mv ?_; refine blk_put (cs := #[.int .i64 0, .int .i64 0]) ?_ 0 _ rfl; refine blk_mv ?_; exact BK101.out) Try.underlying27 rfl (by kernel_rfl)) rfl ?_
    exact ⟨by first | rfl | (simp [errW_none, errW_some] <;> rfl) | (simp [*, errW_none, errW_some] <;> rfl), bel_⟩
  · rw [if_neg c4] at H
    have c4b0 : (!(t105 == 0) || (!(t106 == 0))) = false := by simpa using c4
    clear c4
    obtain ⟨ji14, hji14⟩ : ∃ j_ : Int, (wrap64 ((t102.length : Int) - 1)) = j_ := ⟨_, rfl⟩
    replace H : (if 0 ≤ (ji14) then (if (ji14) < (t102.length : Int) then (some (rd t102 (ji14), 0, 0)) else (none)) else (none)) = some (r1, r2, r3) := by first | (rw [hji14] at H; exact H) | (simp only [hji14] at H ⊢; exact H)
    (try rw [hji14] at A3)
    have hji14w : (IntKind.i64.wrap ((t102.length : Int) - 1)) = ji14 := (i64_w _).trans hji14
    by_cases c15 : 0 ≤ (ji14)
    · rw [if_pos c15] at H
      have c15b0 : decide (0 ≤ (ji14)) = true := decide_eq_true c15
      clear c15
      by_cases c16 : (ji14) < (t102.length : Int)
      · rw [if_pos c16] at H
        have c16b0 : decide ((ji14) < (t102.length : Int)) = true := decide_eq_true c16
        clear c16
        simp only [Option.some.injEq, Prod.mk.injEq] at H
        obtain ⟨rfl, rfl, rfl⟩ := H
        go_enter Try.func13, Try.ntmps13
        go_wp2_with (first | ((with_reducible refine gate_dst (N := 5) rfl ?_); refine box_event ?hg (N := 5) ?hd (cs := #[.int .i64 0, .int .i64 0]) (t := 27) ?hr ?_; (case hd => rfl); (case hg => rfl); (case hr => first | (go_simp; done) | (go_simp; rfl)); intro gb101 hg w17 hbox hb; have BK101 := Aside0.mk (hbox); have GW101 := Aside0.mk ((bs_ : w.heap.size ≤ gb101)); have GE101 := Aside0.mk ((bs_ : w.heap.size ≤ gb101)); replace HB := Aside0.mk (below_step bel_ hb); clear hb hbox hg) | ((with_reducible refine gate_callee (f := 12) rfl ?_); refine goesL_ (some 11) rfl rfl Try.func12 (by kernel_rfl) rfl #[.slice A0 l0.length c0, .string a1] rfl ln_ ?_; (with_reducible refine (roles_Chain.calls k _ _ l0 a1 t102 t105 t106 _ ?side1 ?side2 A3.out).mono ?_); (case side1 => first | exact (Kd.C_below HR0.out HB.out) | exact Kd.C_mv (Kd.C_below HR0.out HB.out)); (case side2 => exact HC0.out); rintro e w18 ⟨v103, rfl, ho0, hb⟩; refine ⟨_, rfl, ?_⟩; have HO104 := Aside0.mk (Kd.R_lower ho0 (below_size bel_)); replace BK101 := Aside0.mk (blk_below (blk_mv BK101.out) hb); replace HB := Aside0.mk (below_step bel_ hb); (try clear hb); (try clear hb2); (try clear hk); (try clear hi); (try clear ho0)) | ((with_reducible refine gate_dst (N := 7) rfl ?_); refine box_event ?hg (N := 7) ?hd (cs := #[.int .i64 0, .int .i64 0]) (t := 27) ?hr ?_; (case hd => rfl); (case hg => rfl); (case hr => first | (go_simp; done) | (go_simp; rfl)); intro gb107 hg w19 hbox hb; replace HO104 := Aside0.mk (Kd.R_below (Kd.R_mv HO104.out) hb); have BK107 := Aside0.mk (hbox); have GW107 := Aside0.mk ((bs_ : w.heap.size ≤ gb107)); have GE107 := Aside0.mk ((bs_ : w.heap.size ≤ gb107)); replace HB := Aside0.mk (below_step bel_ hb); have NB101_107 := Aside0.mk ((by rw [hg]; exact Nat.ne_of_lt (blk_lt (g := gb101) (o := .cells #[.int .i64 0, .int .i64 0] 27 (0, 0)) (blk_mv BK101.out)) : gb101 ≠ gb107)); have NB107_101 := Aside0.mk ((by rw [hg]; exact Nat.ne_of_gt (blk_lt (g := gb101) (o := .cells #[.int .i64 0, .int .i64 0] 27 (0, 0)) (blk_mv BK101.out)) : gb107 ≠ gb101)); replace BK101 := Aside0.mk (blk_below (blk_mv BK101.out) hb); clear hb hbox hg; have hnb20 := NB107_101.out; have hnc20 := NB101_107.out; have hcz21_0 := blk_c (v := .int .i64 0) BK107.out 0 rfl; have hcz21_1 := blk_c (v := .int .i64 0) BK107.out 1 rfl; have hfz21_0 := blk_frozen BK107.out 0; have hfz21_1 := blk_frozen BK107.out 1; obtain ⟨Ao22, co22, eo22⟩ := Kd.R_slice HO104.out; subst eo22; have p108 : 0 ≤ ((ji14) : Int) := of_decide_eq_true as_; have q108 : (ji14) < (t102.length : Int) := of_decide_eq_true as_; obtain ⟨ad108, e108, hx108_0⟩ := Kd.at_int (Kd.R_reads' HO104.out).2.2 (ji14) p108 q108; cases e108; have hn108_0 : ad108.block ≠ gb107 := Kd.own_blk (Kd.R_ne HO104.out BK107.out (by decide)); have hn108_1 : ad108.block ≠ gb107 := Kd.own_blk (Kd.R_ne HO104.out BK107.out (by decide)); replace hx108_0 := (cell_far (p := ⟨gb107, 0, none⟩) (by first | (rw [add_block]; exact hn108_0) | (show (Addr.add _ _).block ≠ _; rw [add_block]; exact hn108_0) | exact hn108_0) (.int .i64 t105)).trans hx108_0; replace hx108_0 := (cell_far (p := ⟨gb107, 1, none⟩) (by first | (rw [add_block]; exact hn108_1) | (show (Addr.add _ _).block ≠ _; rw [add_block]; exact hn108_1) | exact hn108_1) (.int .i64 t106)).trans hx108_0; clear hn108_0; clear hn108_1; replace p108 := eq_true p108; replace q108 := eq_true q108; have hcz23_0 := blk_c (v := .int .i64 0) BK101.out 0 rfl; have hcz23_1 := blk_c (v := .int .i64 0) BK101.out 1 rfl; have hfz23_0 := blk_frozen BK101.out 0; have hfz23_1 := blk_frozen BK101.out 1))
        refine bodyPost_ret (results_tc rfl _ _ gb101 27 #[.int .i64 0, .int .i64 0] (0, 0) _ rfl (by refine blk_mv ?_; refine blk_put (cs := #[.int .i64 0, .int .i64 0]) ?_ 1 _ rfl; refine blk_mv ?_; refine blk_put (cs := #[.int .i64 0, .int .i64 0]) ?_ 0 _ rfl; refine blk_mv ?_; refine blk_far ?_ NB101_107.out _; refine blk_mv ?_; refine blk_far ?_ NB101_107.out _; refine blk_mv ?_; exact BK101.out) Try.underlying27 rfl (by kernel_rfl)) rfl ?_
        exact ⟨by first | rfl | (simp [errW_none, errW_some] <;> rfl) | (simp only [← hji14]; first | rfl | (simp [errW_none, errW_some] <;> rfl)) | (simp [*, errW_none, errW_some] <;> rfl), bel_⟩
      · rw [if_neg c16] at H
        exact absurd H (by simp)
    · rw [if_neg c15] at H
      exact absurd H (by simp)

end Go.Proofs.Ytdelkdlegokbjaa.Fn
