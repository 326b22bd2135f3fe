/- A function of the program as a plain Lean function, and the proof that the call comes to just what it says (written by wip/tools/xprint.py for this claim). Condition: the plain function has an answer. -/
import Derived.Test.YtdelkdlegokbjaaFn0
import Derived.Test.YtdelkdlegokbjaaFf41
import Derived.Test.YtdelkdlegokbjaaFf42
import Derived.Test.YtdelkdlegokbjaaFf51
import Derived.Test.YtdelkdlegokbjaaWA
import Derived.Test.YtdelkdlegokbjaaTight
namespace Go.Proofs.Ytdelkdlegokbjaa.Fn
open Go.RowKit Go.Proofs.YtdelkdlegokbjaaW.PrintWords Go.Proofs.YtdelkdlegokbjaaW.PrintLast Go.Proofs.YtdelkdlegokbjaaW.PrintMore
attribute [local go_sem] max2_int min2_int max_two min_two max_three min_three max_four min_four   -- for this text's walks alone
set_option linter.unusedVariables false
set_option linter.unusedSimpArgs false

/-! ### changeforgelaw5_signs: function 43 -/
def changeforgelaw5_signs.f (k : Nat)  : Option (Bool) := (signing_Sign.f k 1 ([] : List Int)).bind fun bt101 => ((signing_Verify.f k 1 ([] : List Int) 1000041).bind fun bt105 => ((signing_Message.f k (([258] : List Int))).bind fun bt112 => (if bt101.2.1 = 0 then (if bt105.2.1 = 0 then (if bt112.2.1 = 0 then (if bt101.1 = 1000041 then (if bt105.1 = true then (some ((strOfNums bt112.1).toList == ([0, 0, 0, 0, 0, 0, 1, 2] : List UInt8))) else (none)) else (none)) else (none)) else (none)) else (none))))
theorem changeforgelaw5_signs.mono : ∀ k, LeO (changeforgelaw5_signs.f k ) (changeforgelaw5_signs.f (k + 1) ) := by
  intro  k
  unfold changeforgelaw5_signs.f
  repeat' first
      | (with_reducible exact signing_Message.mono _ _)
      | (with_reducible exact signing_Sign.mono _ _ _)
      | (with_reducible exact signing_Verify.mono _ _ _ _)
      | (with_reducible exact LeO.refl _)
      | (with_reducible exact LeO.none _)
      | (with_reducible refine LeO.ite ?_ ?_)
      | (with_reducible refine LeO.bind ?_ (fun _ => ?_))
      | exact signing_Message.mono _ _
      | exact signing_Sign.mono _ _ _
      | exact signing_Verify.mono _ _ _ _
      | exact LeO.none _
      | refine LeO.ite ?_ ?_
      | refine LeO.bind ?_ (fun _ => ?_)
set_option maxHeartbeats 8000000 in
set_option maxRecDepth 100000 in
theorem changeforgelaw5_signs.calls (k : Nat)  (r : Bool) (w : World) (h : changeforgelaw5_signs.f k  = some r) :
    Calls Try.prog 43 #[] w fun e w' => e = .returned (.bool r) ∧ Below w.heap.size w w' := by
  have hu27 := Try.underlying27
  have HB := Aside0.mk (Below.refl w.heap.size w)
  have H : ((signing_Sign.f k 1 ([] : List Int)).bind fun bt101 => ((signing_Verify.f k 1 ([] : List Int) 1000041).bind fun bt105 => ((signing_Message.f k (([258] : List Int))).bind fun bt112 => (if bt101.2.1 = 0 then (if bt105.2.1 = 0 then (if bt112.2.1 = 0 then (if bt101.1 = 1000041 then (if bt105.1 = true then (some ((strOfNums bt112.1).toList == ([0, 0, 0, 0, 0, 0, 1, 2] : List UInt8))) else (none)) else (none)) else (none)) else (none)) else (none))))) = some r := h
  clear h
  replace H := Option.bind_eq_some_iff.mp H
  obtain ⟨⟨t101, t102, t103⟩, A10, H⟩ := H
  replace H : ((signing_Verify.f k 1 ([] : List Int) 1000041).bind fun bt105 => ((signing_Message.f k (([258] : List Int))).bind fun bt112 => (if t102 = 0 then (if bt105.2.1 = 0 then (if bt112.2.1 = 0 then (if t101 = 1000041 then (if bt105.1 = true then (some ((strOfNums bt112.1).toList == ([0, 0, 0, 0, 0, 0, 1, 2] : List UInt8))) else (none)) else (none)) else (none)) else (none)) else (none)))) = some r := H
  have A1 := Aside0.mk A10
  clear A10
  replace H := Option.bind_eq_some_iff.mp H
  obtain ⟨⟨t105, t106, t107⟩, A20, H⟩ := H
  replace H : ((signing_Message.f k (([258] : List Int))).bind fun bt112 => (if t102 = 0 then (if t106 = 0 then (if bt112.2.1 = 0 then (if t101 = 1000041 then (if t105 = true then (some ((strOfNums bt112.1).toList == ([0, 0, 0, 0, 0, 0, 1, 2] : List UInt8))) else (none)) else (none)) else (none)) else (none)) else (none))) = some r := H
  have A2 := Aside0.mk A20
  clear A20
  obtain ⟨y109, hy109⟩ : ∃ y_ : List Int, y_ = (([258] : List Int)) := ⟨_, rfl⟩
  replace H : ((signing_Message.f k y109).bind fun bt112 => (if t102 = 0 then (if t106 = 0 then (if bt112.2.1 = 0 then (if t101 = 1000041 then (if t105 = true then (some ((strOfNums bt112.1).toList == ([0, 0, 0, 0, 0, 0, 1, 2] : List UInt8))) else (none)) else (none)) else (none)) else (none)) else (none))) = some r := by first | (rw [hy109]; with_reducible exact H) | (have H2_ := (Option.bind_some _ _).symm.trans H; rw [hy109]; with_reducible exact H2_) | (have H2_ := (Option.bind_some _ _).symm.trans H; with_reducible exact H2_) | with_reducible exact H | (rw [hy109]; exact H) | exact H
  have Ny109 := Aside0.mk hy109
  clear hy109
  replace H := Option.bind_eq_some_iff.mp H
  obtain ⟨⟨t112, t115, t116⟩, A30, H⟩ := H
  replace H : (if t102 = 0 then (if t106 = 0 then (if t115 = 0 then (if t101 = 1000041 then (if t105 = true then (some ((strOfNums t112).toList == ([0, 0, 0, 0, 0, 0, 1, 2] : List UInt8))) else (none)) else (none)) else (none)) else (none)) else (none)) = some r := H
  have A3 := Aside0.mk A30
  clear A30
  by_cases c4 : t102 = 0
  · rw [if_pos c4] at H
    have c4b0 : (t102 == 0) = true := beq_iff_eq.mpr c4
    have c4b1 : (t102 != 0) = false := bne_eq_false_iff_eq.mpr c4
    clear c4
    by_cases c5 : t106 = 0
    · rw [if_pos c5] at H
      have c5b0 : (t106 == 0) = true := beq_iff_eq.mpr c5
      have c5b1 : (t106 != 0) = false := bne_eq_false_iff_eq.mpr c5
      clear c5
      by_cases c6 : t115 = 0
      · rw [if_pos c6] at H
        have c6b0 : (t115 == 0) = true := beq_iff_eq.mpr c6
        have c6b1 : (t115 != 0) = false := bne_eq_false_iff_eq.mpr c6
        clear c6
        by_cases c7 : t101 = 1000041
        · rw [if_pos c7] at H
          have c7b0 : (t101 == 1000041) = true := beq_iff_eq.mpr c7
          have c7b1 : (t101 != 1000041) = false := bne_eq_false_iff_eq.mpr c7
          clear c7
          by_cases c8 : t105 = true
          · subst c8
            have H1 : (some ((strOfNums t112).toList == ([0, 0, 0, 0, 0, 0, 1, 2] : List UInt8))) = some r := by rw [if_pos rfl] at H; exact H
            clear H
            have H := H1
            clear H1
            obtain rfl := Option.some.inj H
            go_enter Try.func43, Try.ntmps43
            go_wp2_with (first | ((with_reducible refine gate_callee (f := 42) rfl ?_); refine goesL_ (some 8) rfl rfl Try.func42 (by kernel_rfl) rfl #[.int .i64 1, .slice none 0 0] rfl ln_ ?_; (refine (signing_Sign.calls k 1 _ _ ([] : List Int) t101 t102 t103 _ ?side1 ?side2 A1.out).mono ?_); (case side1 => exact Kd.C_nil _ _); (case side2 => exact Nat.le_refl _); rintro e w9 ⟨rfl, hb⟩; refine ⟨_, rfl, ?_⟩; replace HB := Aside0.mk (below_step bel_ hb); (try clear hb); (try clear hb2); (try clear hk); (try clear hi)) | ((with_reducible refine gate_dst (N := 2) rfl ?_); refine box_event ?hg (N := 2) ?hd (cs := #[.int .i64 0, .int .i64 0]) (t := 27) ?hr ?_; (case hd => rfl); (case hg => rfl); (case hr => first | (go_simp; done) | (go_simp; rfl)); intro gb104 hg w10 hbox hb; have BK104 := Aside0.mk (hbox); have GW104 := Aside0.mk ((bs_ : w.heap.size ≤ gb104)); have GE104 := Aside0.mk ((bs_ : w.heap.size ≤ gb104)); replace HB := Aside0.mk (below_step bel_ hb); clear hb hbox hg; have hcz11_0 := blk_c (v := .int .i64 0) BK104.out 0 rfl; have hcz11_1 := blk_c (v := .int .i64 0) BK104.out 1 rfl; have hfz11_0 := blk_frozen BK104.out 0; have hfz11_1 := blk_frozen BK104.out 1) | ((with_reducible refine gate_callee (f := 41) rfl ?_); refine goesL_ (some 12) rfl rfl Try.func41 (by kernel_rfl) rfl #[.int .i64 1, .slice none 0 0, .int .i64 1000041] rfl ln_ ?_; (refine (signing_Verify.calls k 1 _ _ ([] : List Int) 1000041 true t106 t107 _ ?side1 ?side2 A2.out).mono ?_); (case side1 => exact Kd.C_nil _ _); (case side2 => exact Nat.le_refl _); rintro e w12 ⟨rfl, hb⟩; refine ⟨_, rfl, ?_⟩; replace BK104 := Aside0.mk (blk_below (g := gb104) (o := .cells #[.int .i64 t102, .int .i64 t103] 27 (0, 0)) (by refine blk_mv ?_; refine blk_put (cs := #[.int .i64 t102, .int .i64 0]) ?_ 1 _ rfl; refine blk_mv ?_; refine blk_put (cs := #[.int .i64 0, .int .i64 0]) ?_ 0 _ rfl; refine blk_mv ?_; exact BK104.out) hb); replace HB := Aside0.mk (below_step bel_ hb); (try clear hb); (try clear hb2); (try clear hk); (try clear hi)) | ((with_reducible refine gate_dst (N := 4) rfl ?_); refine box_event ?hg (N := 4) ?hd (cs := #[.int .i64 0, .int .i64 0]) (t := 27) ?hr ?_; (case hd => rfl); (case hg => rfl); (case hr => first | (go_simp; done) | (go_simp; rfl)); intro gb108 hg w13 hbox hb; have BK108 := Aside0.mk (hbox); have GW108 := Aside0.mk ((bs_ : w.heap.size ≤ gb108)); have GE108 := Aside0.mk ((bs_ : w.heap.size ≤ gb108)); replace HB := Aside0.mk (below_step bel_ hb); have NB104_108 := Aside0.mk ((by rw [hg]; exact Nat.ne_of_lt (blk_lt (g := gb104) (o := .cells #[.int .i64 t102, .int .i64 t103] 27 (0, 0)) (blk_mv BK104.out)) : gb104 ≠ gb108)); have NB108_104 := Aside0.mk ((by rw [hg]; exact Nat.ne_of_gt (blk_lt (g := gb104) (o := .cells #[.int .i64 t102, .int .i64 t103] 27 (0, 0)) (blk_mv BK104.out)) : gb108 ≠ gb104)); replace BK104 := Aside0.mk (blk_below (blk_mv BK104.out) hb); clear hb hbox hg; have hnb14 := NB108_104.out; have hnc14 := NB104_108.out; have hcz15_0 := blk_c (v := .int .i64 0) BK108.out 0 rfl; have hcz15_1 := blk_c (v := .int .i64 0) BK108.out 1 rfl; have hfz15_0 := blk_frozen BK108.out 0; have hfz15_1 := blk_frozen BK108.out 1) | ((with_reducible refine gate_dst (N := 16) rfl ?_); refine Kd.R_lit (Kd.int .i64) _ 3 ?hg (N := 16) ?hd (xs := ([258] : List Int)) (inner := [.int .i64 258]) (ok := fun _ => True) (okp := fun _ => True) ?hr ?hp (fun _ hk => hk) trivial (Below.refl _ _) (Nat.le_refl _) (by simp) ?_; (case hd => rfl); (case hg => rfl); (case hr => first | (go_simp; done) | (go_simp; rfl)); (case hp => exact (Reps.one (show Kd.M (Kd.int .i64) _ _ _ 258 [.int .i64 258] from rfl) (Reps.none _ _))); intro v110 w16 ho17 hb hg_ hnew_; clear hg_ hnew_; (first | rw [← Ny109.out] at ho17 | (simp only [Int.reduceToNat] at ho17; rw [← Ny109.out] at ho17)); have HO111 := Aside0.mk (Kd.R_lower ho17 (below_size bel_)); replace BK104 := Aside0.mk (blk_below (g := gb104) (o := .cells #[.int .i64 t102, .int .i64 t103] 27 (0, 0)) (by refine blk_mv ?_; refine blk_far ?_ NB104_108.out _; refine blk_mv ?_; refine blk_far ?_ NB104_108.out _; refine blk_mv ?_; exact BK104.out) hb); replace BK108 := Aside0.mk (blk_below (g := gb108) (o := .cells #[.int .i64 t106, .int .i64 t107] 27 (0, 0)) (by refine blk_mv ?_; refine blk_put (cs := #[.int .i64 t106, .int .i64 0]) ?_ 1 _ rfl; refine blk_mv ?_; refine blk_put (cs := #[.int .i64 0, .int .i64 0]) ?_ 0 _ rfl; refine blk_mv ?_; exact BK108.out) hb); replace HB := Aside0.mk (below_step bel_ hb); clear hb ho17; obtain ⟨Ao18, co18, eo18⟩ := Kd.R_slice HO111.out; subst eo18) | ((with_reducible refine gate_callee (f := 51) rfl ?_); refine goesL_ (some 17) rfl rfl Try.func51 (by kernel_rfl) rfl #[.slice Ao18 y109.length co18] rfl ln_ ?_; (with_reducible refine (signing_Message.calls k _ _ y109 t112 t115 t116 _ ?side1 ?side2 A3.out).mono ?_); (case side1 => first | exact (Kd.R_reads' HO111.out).2.2 | exact Kd.C_mv (Kd.R_reads' HO111.out).2.2); (case side2 => exact (Kd.R_reads' HO111.out).2.1); rintro e w19 ⟨v113, rfl, ho0, hb⟩; refine ⟨_, rfl, ?_⟩; replace HO111 := Aside0.mk (Kd.R_below (Kd.R_mv HO111.out) hb); have HO114 := Aside0.mk (Kd.R_lower ho0 (below_size bel_)); replace BK104 := Aside0.mk (blk_below (blk_mv BK104.out) hb); replace BK108 := Aside0.mk (blk_below (blk_mv BK108.out) hb); replace HB := Aside0.mk (below_step bel_ hb); (try clear hb); (try clear hb2); (try clear hk); (try clear hi); (try clear ho0)) | ((with_reducible refine gate_dst (N := 6) rfl ?_); refine box_event ?hg (N := 6) ?hd (cs := #[.int .i64 0, .int .i64 0]) (t := 27) ?hr ?_; (case hd => rfl); (case hg => rfl); (case hr => first | (go_simp; done) | (go_simp; rfl)); intro gb117 hg w20 hbox hb; replace HO114 := Aside0.mk (Kd.R_below (Kd.R_mv HO114.out) hb); have BK117 := Aside0.mk (hbox); have GW117 := Aside0.mk ((bs_ : w.heap.size ≤ gb117)); have GE117 := Aside0.mk ((bs_ : w.heap.size ≤ gb117)); replace HB := Aside0.mk (below_step bel_ hb); have NB104_117 := Aside0.mk ((by rw [hg]; exact Nat.ne_of_lt (blk_lt (g := gb104) (o := .cells #[.int .i64 t102, .int .i64 t103] 27 (0, 0)) (blk_mv BK104.out)) : gb104 ≠ gb117)); have NB117_104 := Aside0.mk ((by rw [hg]; exact Nat.ne_of_gt (blk_lt (g := gb104) (o := .cells #[.int .i64 t102, .int .i64 t103] 27 (0, 0)) (blk_mv BK104.out)) : gb117 ≠ gb104)); replace BK104 := Aside0.mk (blk_below (blk_mv BK104.out) hb); have NB108_117 := Aside0.mk ((by rw [hg]; exact Nat.ne_of_lt (blk_lt (g := gb108) (o := .cells #[.int .i64 t106, .int .i64 t107] 27 (0, 0)) (blk_mv BK108.out)) : gb108 ≠ gb117)); have NB117_108 := Aside0.mk ((by rw [hg]; exact Nat.ne_of_gt (blk_lt (g := gb108) (o := .cells #[.int .i64 t106, .int .i64 t107] 27 (0, 0)) (blk_mv BK108.out)) : gb117 ≠ gb108)); replace BK108 := Aside0.mk (blk_below (blk_mv BK108.out) hb); clear hb hbox hg; have hnb21 := NB117_104.out; have hnc21 := NB104_117.out; have hnb22 := NB117_108.out; have hnc22 := NB108_117.out; have hcz23_0 := blk_c (v := .int .i64 0) BK117.out 0 rfl; have hcz23_1 := blk_c (v := .int .i64 0) BK117.out 1 rfl; have hfz23_0 := blk_frozen BK117.out 0; have hfz23_1 := blk_frozen BK117.out 1; have hcz24_0 := blk_c (v := .int .i64 t102) BK104.out 0 rfl; have hcz24_1 := blk_c (v := .int .i64 t103) BK104.out 1 rfl; have hfz24_0 := blk_frozen BK104.out 0; have hfz24_1 := blk_frozen BK104.out 1; have hcz25_0 := blk_c (v := .int .i64 t106) BK108.out 0 rfl; have hcz25_1 := blk_c (v := .int .i64 t107) BK108.out 1 rfl; have hfz25_0 := blk_frozen BK108.out 0; have hfz25_1 := blk_frozen BK108.out 1; have hcv26 := fun (z0_ z1_ : Value) => own_string (P := Try.prog) Try.underlying23 Try.underlying5 Try.underlying9 (Kd.own_of_R (Kd.R_far (p := ⟨gb117, 1, none⟩) (Kd.R_far (p := ⟨gb117, 0, none⟩) (Kd.R_types HO114.out BK117.out (by decide)) (fun _ hk => hk.2) (z0_)) (fun _ hk => hk.2) (z1_)))))
            go_ret
            exact ⟨by first | rfl | (simp [errW_none, errW_some] <;> rfl) | (simp [*, errW_none, errW_some] <;> rfl), bel_⟩
          · replace c8 := Bool.eq_false_iff.mpr c8
            subst c8
            have H1 : (none) = some r := by rw [if_neg (show ¬ (false = true) by decide)] at H; exact H
            clear H
            have H := H1
            clear H1
            exact absurd H (by simp)
        · rw [if_neg c7] at H
          exact absurd H (by simp)
      · rw [if_neg c6] at H
        exact absurd H (by simp)
    · rw [if_neg c5] at H
      exact absurd H (by simp)
  · rw [if_neg c4] at H
    exact absurd H (by simp)

end Go.Proofs.Ytdelkdlegokbjaa.Fn
