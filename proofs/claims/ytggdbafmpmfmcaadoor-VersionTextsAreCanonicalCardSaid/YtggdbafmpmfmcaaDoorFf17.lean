/- A function of the program as a plain Lean function, and the proof that the call comes to just what it says (written by wip/tools/xprint.py for this claim). Condition: the plain function has an answer. -/
import Derived.Test.YtggdbafmpmfmcaaDoorFn0
import Derived.Test.YtggdbafmpmfmcaaDoorWA
import Derived.Test.YtggdbafmpmfmcaaDoorTight
namespace Go.Proofs.YtggdbafmpmfmcaaDoor.Fn
open Go.RowKit Go.Proofs.YtggdbafmpmfmcaaDoorW.PrintWords Go.Proofs.YtggdbafmpmfmcaaDoorW.PrintLast Go.Proofs.YtggdbafmpmfmcaaDoorW.PrintMore
attribute [local go_sem] max2_int min2_int max_two min_two max_three min_three max_four min_four   -- for this text's walks alone
set_option linter.unusedVariables false
set_option linter.unusedSimpArgs false

/-! ### changeforgeref5_SameVersion: function 17 -/
mutual
def changeforgeref5_SameVersion.j0 : Nat → Bool → Int → Int → Int → List ByteArray → Int → Int → Int → List ByteArray → Option (Bool)
 | 0,_,_,_,_,_,_,_,_,_ => none
 | k + 1,x33,x102000,x102001,x102002,x102003,x103000,x103001,x103002,x103003 => if x33 = true then (some false) else (changeforgeref5_SameVersion.l0 k 0 x102000 x102001 x102002 x102003 x103000 x103001 x103002 x103003)
def changeforgeref5_SameVersion.l0 : Nat → Int → Int → Int → Int → List ByteArray → Int → Int → Int → List ByteArray → Option (Bool)
 | 0,_,_,_,_,_,_,_,_,_ => none
 | k + 1,x5,x102000,x102001,x102002,x102003,x103000,x103001,x103002,x103003 => if x5 < (x102003.length : Int) then (if 0 ≤ x5 then (if x5 < (x103003.length : Int) then (if (rdOf ByteArray.empty x102003 x5).toList = (rdOf ByteArray.empty x103003 x5).toList then (changeforgeref5_SameVersion.l0 k (wrap64 (x5 + 1)) x102000 x102001 x102002 x102003 x103000 x103001 x103002 x103003) else (some false)) else (none)) else (none)) else (some true)
end
def changeforgeref5_SameVersion.f (k : Nat) (a0_0 : Int) (a0_1 : Int) (a0_2 : Int) (l0_3 : List ByteArray) (a1_0 : Int) (a1_1 : Int) (a1_2 : Int) (l1_3 : List ByteArray) : Option (Bool):=if a0_0 = a1_0 then (if a0_1 = a1_1 then (if a0_2 = a1_2 then (changeforgeref5_SameVersion.j0 k ((l0_3.length : Int) != (l1_3.length : Int)) a0_0 a0_1 a0_2 l0_3 a1_0 a1_1 a1_2 l1_3) else (changeforgeref5_SameVersion.j0 k true a0_0 a0_1 a0_2 l0_3 a1_0 a1_1 a1_2 l1_3)) else (changeforgeref5_SameVersion.j0 k true a0_0 a0_1 a0_2 l0_3 a1_0 a1_1 a1_2 l1_3)) else (changeforgeref5_SameVersion.j0 k true a0_0 a0_1 a0_2 l0_3 a1_0 a1_1 a1_2 l1_3)
theorem changeforgeref5_SameVersion.mono_l : ∀ k,(∀ y0 y1 y2 y3 y4 y5 y6 y7 y8,LeO (changeforgeref5_SameVersion.j0 k y0 y1 y2 y3 y4 y5 y6 y7 y8) (changeforgeref5_SameVersion.j0 (k + 1) y0 y1 y2 y3 y4 y5 y6 y7 y8)) ∧ (∀ y0 y1 y2 y3 y4 y5 y6 y7 y8,LeO (changeforgeref5_SameVersion.l0 k y0 y1 y2 y3 y4 y5 y6 y7 y8) (changeforgeref5_SameVersion.l0 (k + 1) y0 y1 y2 y3 y4 y5 y6 y7 y8))
 | 0 => ⟨fun _ _ _ _ _ _ _ _ _ r h => by simp [changeforgeref5_SameVersion.j0] at h,fun _ _ _ _ _ _ _ _ _ r h => by simp [changeforgeref5_SameVersion.l0] at h⟩
 | k + 1 => by
  obtain ⟨ih0,ih1⟩:=changeforgeref5_SameVersion.mono_l k;refine ⟨?_,?_⟩
  ·intro y0 y1 y2 y3 y4 y5 y6 y7 y8
   unfold changeforgeref5_SameVersion.j0;repeat' first
   | (with_reducible exact ih0 _ _ _ _ _ _ _ _ _)
   | (with_reducible exact ih1 _ _ _ _ _ _ _ _ _)
   | (with_reducible exact LeO.refl _)
   | (with_reducible exact LeO.none _)
   | (with_reducible refine LeO.ite ?_ ?_)
   | (with_reducible refine LeO.bind ?_ (fun _ => ?_))
   | exact ih0 _ _ _ _ _ _ _ _ _
   | exact ih1 _ _ _ _ _ _ _ _ _
   | exact LeO.none _
   | refine LeO.ite ?_ ?_
   | refine LeO.bind ?_ (fun _ => ?_)
  ·intro y0 y1 y2 y3 y4 y5 y6 y7 y8
   unfold changeforgeref5_SameVersion.l0;repeat' first
   | (with_reducible exact ih0 _ _ _ _ _ _ _ _ _)
   | (with_reducible exact ih1 _ _ _ _ _ _ _ _ _)
   | (with_reducible exact LeO.refl _)
   | (with_reducible exact LeO.none _)
   | (with_reducible refine LeO.ite ?_ ?_)
   | (with_reducible refine LeO.bind ?_ (fun _ => ?_))
   | exact ih0 _ _ _ _ _ _ _ _ _
   | exact ih1 _ _ _ _ _ _ _ _ _
   | exact LeO.none _
   | refine LeO.ite ?_ ?_
   | refine LeO.bind ?_ (fun _ => ?_)
theorem changeforgeref5_SameVersion.mono : ∀ a0 a1 a2 a3 a4 a5 a6 a7 k,LeO (changeforgeref5_SameVersion.f k a0 a1 a2 a3 a4 a5 a6 a7) (changeforgeref5_SameVersion.f (k + 1) a0 a1 a2 a3 a4 a5 a6 a7):=by
 intro a0 a1 a2 a3 a4 a5 a6 a7 k;obtain ⟨ih0,ih1⟩:=changeforgeref5_SameVersion.mono_l k;unfold changeforgeref5_SameVersion.f
 repeat' first
   | (with_reducible exact ih0 _ _ _ _ _ _ _ _ _)
   | (with_reducible exact ih1 _ _ _ _ _ _ _ _ _)
   | (with_reducible exact LeO.refl _)
   | (with_reducible exact LeO.none _)
   | (with_reducible refine LeO.ite ?_ ?_)
   | (with_reducible refine LeO.bind ?_ (fun _ => ?_))
   | exact ih0 _ _ _ _ _ _ _ _ _
   | exact ih1 _ _ _ _ _ _ _ _ _
   | exact LeO.none _
   | refine LeO.ite ?_ ?_
   | refine LeO.bind ?_ (fun _ => ?_)
set_option maxHeartbeats 8000000 in
set_option maxRecDepth 100000 in
theorem changeforgeref5_SameVersion.calls (k : Nat) (a0_0 : Int) (a0_1 : Int) (a0_2 : Int) (A0_3 : Option Addr) (c0_3 : Nat) (l0_3 : List ByteArray) (a1_0 : Int) (a1_1 : Int) (a1_2 : Int) (A1_3 : Option Addr) (c1_3 : Nat) (l1_3 : List ByteArray) (r : Bool) (w : World) (hr0_3 : Kd.C Kd.string w A0_3 l0_3.length l0_3) (hc0_3 : l0_3.length ≤ c0_3) (hr1_3 : Kd.C Kd.string w A1_3 l1_3.length l1_3) (hc1_3 : l1_3.length ≤ c1_3) (h : changeforgeref5_SameVersion.f k a0_0 a0_1 a0_2 l0_3 a1_0 a1_1 a1_2 l1_3 = some r) :
  Calls Tryd.prog 17 #[.agg #[.int .i64 a0_0,.int .i64 a0_1,.int .i64 a0_2,.slice A0_3 l0_3.length c0_3],.agg #[.int .i64 a1_0,.int .i64 a1_1,.int .i64 a1_2,.slice A1_3 l1_3.length c1_3]] w fun e w' => e = .returned (.bool r) ∧ Below w.heap.size w w':=by
 have hu24:=Tryd.underlying24;have HR0_3:=Aside0.mk hr0_3;have HC0_3:=Aside0.mk hc0_3;clear hr0_3 hc0_3;have HR1_3:=Aside0.mk hr1_3;have HC1_3:=Aside0.mk hc1_3;clear hr1_3 hc1_3;have HB:=Aside0.mk (Below.refl w.heap.size w);have H : (if a0_0 = a1_0 then (if a0_1 = a1_1 then (if a0_2 = a1_2 then (changeforgeref5_SameVersion.j0 k ((l0_3.length : Int) != (l1_3.length : Int)) a0_0 a0_1 a0_2 l0_3 a1_0 a1_1 a1_2 l1_3) else (changeforgeref5_SameVersion.j0 k true a0_0 a0_1 a0_2 l0_3 a1_0 a1_1 a1_2 l1_3)) else (changeforgeref5_SameVersion.j0 k true a0_0 a0_1 a0_2 l0_3 a1_0 a1_1 a1_2 l1_3)) else (changeforgeref5_SameVersion.j0 k true a0_0 a0_1 a0_2 l0_3 a1_0 a1_1 a1_2 l1_3)) = some r:=h;clear h;have HC3:=Aside0.mk H;clear H;go_enter Tryd.func17,Tryd.ntmps17;go_upto_region 1 with (first|((with_reducible refine gate_dst (N:=2) rfl ?_);(try (refine gate_guard (by rfl) ?_;dsimp only));refine box_event ?hg (N:=2) ?hd (cs:=#[.int .i64 a0_0,.int .i64 a0_1,.int .i64 a0_2,.slice A0_3 l0_3.length c0_3]) (t:=24) ?hr ?_;(case hd => rfl);(case hg => rfl);(case hr => first|(go_simp;done)|(go_simp;rfl));intro gb101 hg w4 hbox hb;have BK101:=Aside0.mk (hbox);have GW101:=Aside0.mk ((bs_ : w.heap.size ≤ gb101));have GE101:=Aside0.mk ((bs_ : w.heap.size ≤ gb101));replace HB:=Aside0.mk (below_step bel_ hb);clear hb hbox hg)|((with_reducible refine gate_dst (N:=3) rfl ?_);(try (refine gate_guard (by rfl) ?_;dsimp only));refine box_event ?hg (N:=3) ?hd (cs:=#[.int .i64 a1_0,.int .i64 a1_1,.int .i64 a1_2,.slice A1_3 l1_3.length c1_3]) (t:=24) ?hr ?_;(case hd => rfl);(case hg => rfl);(case hr => first|(go_simp;done)|(go_simp;rfl));intro gb102 hg w5 hbox hb;have BK102:=Aside0.mk (hbox);have GW102:=Aside0.mk ((bs_ : w.heap.size ≤ gb102));have GE102:=Aside0.mk ((bs_ : w.heap.size ≤ gb102));replace HB:=Aside0.mk (below_step bel_ hb);have NB101_102:=Aside0.mk ((by rw [hg];exact Nat.ne_of_lt (blk_lt (g:=gb101) (o:=.cells #[.int .i64 a0_0,.int .i64 a0_1,.int .i64 a0_2,.slice A0_3 l0_3.length c0_3] 24 (0,0)) (blk_mv BK101.out)) : gb101 ≠ gb102));have NB102_101:=Aside0.mk ((by rw [hg];exact Nat.ne_of_gt (blk_lt (g:=gb101) (o:=.cells #[.int .i64 a0_0,.int .i64 a0_1,.int .i64 a0_2,.slice A0_3 l0_3.length c0_3] 24 (0,0)) (blk_mv BK101.out)) : gb102 ≠ gb101));replace BK101:=Aside0.mk (blk_below (blk_mv BK101.out) hb);clear hb hbox hg));repeat (go_quiet (first|((with_reducible refine gate_dst (N:=2) rfl ?_);(try (refine gate_guard (by rfl) ?_;dsimp only));refine box_event ?hg (N:=2) ?hd (cs:=#[.int .i64 a0_0,.int .i64 a0_1,.int .i64 a0_2,.slice A0_3 l0_3.length c0_3]) (t:=24) ?hr ?_;(case hd => rfl);(case hg => rfl);(case hr => first|(go_simp;done)|(go_simp;rfl));intro gb101 hg w4 hbox hb;have BK101:=Aside0.mk (hbox);have GW101:=Aside0.mk ((bs_ : w.heap.size ≤ gb101));have GE101:=Aside0.mk ((bs_ : w.heap.size ≤ gb101));replace HB:=Aside0.mk (below_step bel_ hb);clear hb hbox hg)|((with_reducible refine gate_dst (N:=3) rfl ?_);(try (refine gate_guard (by rfl) ?_;dsimp only));refine box_event ?hg (N:=3) ?hd (cs:=#[.int .i64 a1_0,.int .i64 a1_1,.int .i64 a1_2,.slice A1_3 l1_3.length c1_3]) (t:=24) ?hr ?_;(case hd => rfl);(case hg => rfl);(case hr => first|(go_simp;done)|(go_simp;rfl));intro gb102 hg w5 hbox hb;have BK102:=Aside0.mk (hbox);have GW102:=Aside0.mk ((bs_ : w.heap.size ≤ gb102));have GE102:=Aside0.mk ((bs_ : w.heap.size ≤ gb102));replace HB:=Aside0.mk (below_step bel_ hb);have NB101_102:=Aside0.mk ((by rw [hg];exact Nat.ne_of_lt (blk_lt (g:=gb101) (o:=.cells #[.int .i64 a0_0,.int .i64 a0_1,.int .i64 a0_2,.slice A0_3 l0_3.length c0_3] 24 (0,0)) (blk_mv BK101.out)) : gb101 ≠ gb102));have NB102_101:=Aside0.mk ((by rw [hg];exact Nat.ne_of_gt (blk_lt (g:=gb101) (o:=.cells #[.int .i64 a0_0,.int .i64 a0_1,.int .i64 a0_2,.slice A0_3 l0_3.length c0_3] 24 (0,0)) (blk_mv BK101.out)) : gb102 ≠ gb101));replace BK101:=Aside0.mk (blk_below (blk_mv BK101.out) hb);clear hb hbox hg));go_upto_region 1 with (first|((with_reducible refine gate_dst (N:=2) rfl ?_);(try (refine gate_guard (by rfl) ?_;dsimp only));refine box_event ?hg (N:=2) ?hd (cs:=#[.int .i64 a0_0,.int .i64 a0_1,.int .i64 a0_2,.slice A0_3 l0_3.length c0_3]) (t:=24) ?hr ?_;(case hd => rfl);(case hg => rfl);(case hr => first|(go_simp;done)|(go_simp;rfl));intro gb101 hg w4 hbox hb;have BK101:=Aside0.mk (hbox);have GW101:=Aside0.mk ((bs_ : w.heap.size ≤ gb101));have GE101:=Aside0.mk ((bs_ : w.heap.size ≤ gb101));replace HB:=Aside0.mk (below_step bel_ hb);clear hb hbox hg)|((with_reducible refine gate_dst (N:=3) rfl ?_);(try (refine gate_guard (by rfl) ?_;dsimp only));refine box_event ?hg (N:=3) ?hd (cs:=#[.int .i64 a1_0,.int .i64 a1_1,.int .i64 a1_2,.slice A1_3 l1_3.length c1_3]) (t:=24) ?hr ?_;(case hd => rfl);(case hg => rfl);(case hr => first|(go_simp;done)|(go_simp;rfl));intro gb102 hg w5 hbox hb;have BK102:=Aside0.mk (hbox);have GW102:=Aside0.mk ((bs_ : w.heap.size ≤ gb102));have GE102:=Aside0.mk ((bs_ : w.heap.size ≤ gb102));replace HB:=Aside0.mk (below_step bel_ hb);have NB101_102:=Aside0.mk ((by rw [hg];exact Nat.ne_of_lt (blk_lt (g:=gb101) (o:=.cells #[.int .i64 a0_0,.int .i64 a0_1,.int .i64 a0_2,.slice A0_3 l0_3.length c0_3] 24 (0,0)) (blk_mv BK101.out)) : gb101 ≠ gb102));have NB102_101:=Aside0.mk ((by rw [hg];exact Nat.ne_of_gt (blk_lt (g:=gb101) (o:=.cells #[.int .i64 a0_0,.int .i64 a0_1,.int .i64 a0_2,.slice A0_3 l0_3.length c0_3] 24 (0,0)) (blk_mv BK101.out)) : gb102 ≠ gb101));replace BK101:=Aside0.mk (blk_below (blk_mv BK101.out) hb);clear hb hbox hg)))
 (try simp only [Act.put,sa_,sb_,sc_]);go_cut [33] (fun v33 wc => ∃ (kq : Nat) (x33_2 : Bool),v33 = .bool x33_2 ∧ Aside0 (changeforgeref5_SameVersion.j0 kq x33_2 a0_0 a0_1 a0_2 l0_3 a1_0 a1_1 a1_2 l1_3 = some r) ∧ Aside0 (kq ≤ k) ∧ Aside0 (wc.heap[gb101]? = some (.cells #[.int .i64 a0_0,.int .i64 a0_1,.int .i64 a0_2,(.slice A0_3 l0_3.length c0_3)] 24 (0,0))) ∧ Aside0 (wc.heap[gb102]? = some (.cells #[.int .i64 a1_0,.int .i64 a1_1,.int .i64 a1_2,(.slice A1_3 l1_3.length c1_3)] 24 (0,0))) ∧ Aside0 (Below w.heap.size w wc))
 case first =>
  have H:=HC3.out;clear HC3;by_cases c6 : a0_0 = a1_0
  ·rw [if_pos c6] at H
   have c6b0 : (a0_0 == a1_0) = true:=beq_iff_eq.mpr c6;have c6b1 : (a0_0 != a1_0) = false:=bne_eq_false_iff_eq.mpr c6;clear c6;(first|rw [c6b0]|(simp only [i64_w,i32_w];rw [c6b0])|skip);by_cases c7 : a0_1 = a1_1
   ·rw [if_pos c7] at H
    have c7b0 : (a0_1 == a1_1) = true:=beq_iff_eq.mpr c7;have c7b1 : (a0_1 != a1_1) = false:=bne_eq_false_iff_eq.mpr c7;clear c7;by_cases c8 : a0_2 = a1_2
    ·rw [if_pos c8] at H
     have c8b0 : (a0_2 == a1_2) = true:=beq_iff_eq.mpr c8;have c8b1 : (a0_2 != a1_2) = false:=bne_eq_false_iff_eq.mpr c8;clear c8;have H':=Aside0.mk H;clear H;have hnb9:=NB101_102.out;have hnc9:=NB102_101.out;have hcz10_0:=blk_c (v:=.int .i64 a0_0) BK101.out 0 rfl;have hcz10_1:=blk_c (v:=.int .i64 a0_1) BK101.out 1 rfl;have hcz10_2:=blk_c (v:=.int .i64 a0_2) BK101.out 2 rfl;have hcz10_3:=blk_c (v:=.slice A0_3 l0_3.length c0_3) BK101.out 3 rfl;have hfz10_0:=blk_frozen BK101.out 0;have hfz10_1:=blk_frozen BK101.out 1;have hfz10_2:=blk_frozen BK101.out 2;have hfz10_3:=blk_frozen BK101.out 3;have hcz11_0:=blk_c (v:=.int .i64 a1_0) BK102.out 0 rfl;have hcz11_1:=blk_c (v:=.int .i64 a1_1) BK102.out 1 rfl;have hcz11_2:=blk_c (v:=.int .i64 a1_2) BK102.out 2 rfl;have hcz11_3:=blk_c (v:=.slice A1_3 l1_3.length c1_3) BK102.out 3 rfl;have hfz11_0:=blk_frozen BK102.out 0;have hfz11_1:=blk_frozen BK102.out 1;have hfz11_2:=blk_frozen BK102.out 2;have hfz11_3:=blk_frozen BK102.out 3;go_wp2;repeat (go_quiet (fail);try go_wp2)
     go_meet
     case rel => exact ⟨_,(((l0_3.length : Int) != (l1_3.length : Int))),fr_,H',⟨om_⟩,⟨blk_mv BK101.out⟩,⟨blk_mv BK102.out⟩,⟨bel_⟩⟩
    ·rw [if_neg c8] at H
     have c8b0 : (a0_2 == a1_2) = false:=beq_eq_false_iff_ne.mpr c8;have c8b1 : (a0_2 != a1_2) = true:=bne_iff_ne.mpr c8;have H':=Aside0.mk H;clear H;have hnb12:=NB101_102.out;have hnc12:=NB102_101.out;have hcz13_0:=blk_c (v:=.int .i64 a0_0) BK101.out 0 rfl;have hcz13_1:=blk_c (v:=.int .i64 a0_1) BK101.out 1 rfl;have hcz13_2:=blk_c (v:=.int .i64 a0_2) BK101.out 2 rfl;have hcz13_3:=blk_c (v:=.slice A0_3 l0_3.length c0_3) BK101.out 3 rfl;have hfz13_0:=blk_frozen BK101.out 0;have hfz13_1:=blk_frozen BK101.out 1;have hfz13_2:=blk_frozen BK101.out 2;have hfz13_3:=blk_frozen BK101.out 3;have hcz14_0:=blk_c (v:=.int .i64 a1_0) BK102.out 0 rfl;have hcz14_1:=blk_c (v:=.int .i64 a1_1) BK102.out 1 rfl;have hcz14_2:=blk_c (v:=.int .i64 a1_2) BK102.out 2 rfl;have hcz14_3:=blk_c (v:=.slice A1_3 l1_3.length c1_3) BK102.out 3 rfl;have hfz14_0:=blk_frozen BK102.out 0;have hfz14_1:=blk_frozen BK102.out 1;have hfz14_2:=blk_frozen BK102.out 2;have hfz14_3:=blk_frozen BK102.out 3;go_wp2;repeat (go_quiet (fail);try go_wp2)
     go_meet
     case rel => exact ⟨_,(true),fr_,H',⟨om_⟩,⟨blk_mv BK101.out⟩,⟨blk_mv BK102.out⟩,⟨bel_⟩⟩
   ·rw [if_neg c7] at H
    have c7b0 : (a0_1 == a1_1) = false:=beq_eq_false_iff_ne.mpr c7;have c7b1 : (a0_1 != a1_1) = true:=bne_iff_ne.mpr c7;have H':=Aside0.mk H;clear H;have hnb15:=NB101_102.out;have hnc15:=NB102_101.out;have hcz16_0:=blk_c (v:=.int .i64 a0_0) BK101.out 0 rfl;have hcz16_1:=blk_c (v:=.int .i64 a0_1) BK101.out 1 rfl;have hcz16_2:=blk_c (v:=.int .i64 a0_2) BK101.out 2 rfl;have hcz16_3:=blk_c (v:=.slice A0_3 l0_3.length c0_3) BK101.out 3 rfl;have hfz16_0:=blk_frozen BK101.out 0;have hfz16_1:=blk_frozen BK101.out 1;have hfz16_2:=blk_frozen BK101.out 2;have hfz16_3:=blk_frozen BK101.out 3;have hcz17_0:=blk_c (v:=.int .i64 a1_0) BK102.out 0 rfl;have hcz17_1:=blk_c (v:=.int .i64 a1_1) BK102.out 1 rfl;have hcz17_2:=blk_c (v:=.int .i64 a1_2) BK102.out 2 rfl;have hcz17_3:=blk_c (v:=.slice A1_3 l1_3.length c1_3) BK102.out 3 rfl;have hfz17_0:=blk_frozen BK102.out 0;have hfz17_1:=blk_frozen BK102.out 1;have hfz17_2:=blk_frozen BK102.out 2;have hfz17_3:=blk_frozen BK102.out 3;go_wp2;repeat (go_quiet (fail);try go_wp2)
    go_meet
    case rel => exact ⟨_,(true),fr_,H',⟨om_⟩,⟨blk_mv BK101.out⟩,⟨blk_mv BK102.out⟩,⟨bel_⟩⟩
  ·rw [if_neg c6] at H
   have c6b0 : (a0_0 == a1_0) = false:=beq_eq_false_iff_ne.mpr c6;have c6b1 : (a0_0 != a1_0) = true:=bne_iff_ne.mpr c6;(first|rw [c6b0]|(simp only [i64_w,i32_w];rw [c6b0])|skip);have H':=Aside0.mk H;clear H;have hnb18:=NB101_102.out;have hnc18:=NB102_101.out;have hcz19_0:=blk_c (v:=.int .i64 a0_0) BK101.out 0 rfl;have hcz19_1:=blk_c (v:=.int .i64 a0_1) BK101.out 1 rfl;have hcz19_2:=blk_c (v:=.int .i64 a0_2) BK101.out 2 rfl;have hcz19_3:=blk_c (v:=.slice A0_3 l0_3.length c0_3) BK101.out 3 rfl;have hfz19_0:=blk_frozen BK101.out 0;have hfz19_1:=blk_frozen BK101.out 1;have hfz19_2:=blk_frozen BK101.out 2;have hfz19_3:=blk_frozen BK101.out 3;have hcz20_0:=blk_c (v:=.int .i64 a1_0) BK102.out 0 rfl;have hcz20_1:=blk_c (v:=.int .i64 a1_1) BK102.out 1 rfl;have hcz20_2:=blk_c (v:=.int .i64 a1_2) BK102.out 2 rfl;have hcz20_3:=blk_c (v:=.slice A1_3 l1_3.length c1_3) BK102.out 3 rfl;have hfz20_0:=blk_frozen BK102.out 0;have hfz20_1:=blk_frozen BK102.out 1;have hfz20_2:=blk_frozen BK102.out 2;have hfz20_3:=blk_frozen BK102.out 3;go_wp2;repeat (go_quiet (fail);try go_wp2)
   go_meet
   case rel => exact ⟨_,(true),fr_,H',⟨om_⟩,⟨blk_mv BK101.out⟩,⟨blk_mv BK102.out⟩,⟨bel_⟩⟩
 case rest =>
  clear HC3;(try clear c1);(try clear p2);(try clear c6);(try clear c6b0);(try clear c6b1);(try clear c7);(try clear c7b0);(try clear c7b1);(try clear c8);(try clear c8b0);(try clear c8b1);(try clear c9);(try clear c12);(try clear c15);(try clear c17);(try clear c18);(try clear hcz10_0);(try clear hcz10_1);(try clear hcz10_2);(try clear hcz10_3);(try clear hcz11_0);(try clear hcz11_1);(try clear hcz11_2);(try clear hcz11_3);(try clear hcz13_0);(try clear hcz13_1);(try clear hcz13_2);(try clear hcz13_3);(try clear hcz14_0);(try clear hcz14_1);(try clear hcz14_2);(try clear hcz14_3);(try clear hcz16_0);(try clear hcz16_1);(try clear hcz16_2);(try clear hcz16_3);(try clear hcz17_0);(try clear hcz17_1);(try clear hcz17_2);(try clear hcz17_3);(try clear hcz19_0);(try clear hcz19_1);(try clear hcz19_2);(try clear hcz19_3);(try clear hcz20_0);(try clear hcz20_1);(try clear hcz20_2);(try clear hcz20_3);(try clear hfz10_0);(try clear hfz10_1);(try clear hfz10_2);(try clear hfz10_3);(try clear hfz11_0);(try clear hfz11_1);(try clear hfz11_2);(try clear hfz11_3);(try clear hfz13_0);(try clear hfz13_1);(try clear hfz13_2);(try clear hfz13_3);(try clear hfz14_0);(try clear hfz14_1);(try clear hfz14_2);(try clear hfz14_3);(try clear hfz16_0);(try clear hfz16_1);(try clear hfz16_2);(try clear hfz16_3);(try clear hfz17_0);(try clear hfz17_1);(try clear hfz17_2);(try clear hfz17_3);(try clear hfz19_0);(try clear hfz19_1);(try clear hfz19_2);(try clear hfz19_3);(try clear hfz20_0);(try clear hfz20_1);(try clear hfz20_2);(try clear hfz20_3);obtain ⟨kq,x33_2,rfl,HA,HJ2,BK101,BK102,HB⟩:=hcut;cases kq with
  | zero => exact absurd HA.out (by simp [changeforgeref5_SameVersion.j0])
  | succ kj2 =>
   have H:=HA.out;clear HA;simp only [changeforgeref5_SameVersion.j0] at H;by_cases c21 : x33_2 = true
   ·subst c21
    have H1 : (some false) = some r:=by rw [if_pos rfl] at H;exact H
    clear H;have H:=H1;clear H1;obtain rfl:=Option.some.inj H;go_wp2;repeat (go_quiet (fail);try go_wp2)
    go_ret;exact ⟨by first|rfl|(simp [errW_none,errW_some] <;> rfl)|(simp [*,errW_none,errW_some] <;> rfl),bel_⟩
   ·replace c21:=Bool.eq_false_iff.mpr c21
    subst c21;have H1 : (changeforgeref5_SameVersion.l0 kj2 0 a0_0 a0_1 a0_2 l0_3 a1_0 a1_1 a1_2 l1_3) = some r:=by rw [if_neg (show ¬ (false = true) by decide)] at H;exact H
    clear H;have H:=H1;clear H1;have H':=Aside0.mk H;clear H;go_wp2;repeat (go_quiet (fail);try go_wp2)
    go_loopg [5] kj2 (fun kq v5 w' => ∃ (x5_2 : Int),v5 = .int .i64 x5_2 ∧ Aside0 (changeforgeref5_SameVersion.l0 kq x5_2 a0_0 a0_1 a0_2 l0_3 a1_0 a1_1 a1_2 l1_3 = some r) ∧ Aside0 (kq ≤ kj2) ∧ Aside0 (w'.heap[gb101]? = some (.cells #[.int .i64 a0_0,.int .i64 a0_1,.int .i64 a0_2,(.slice A0_3 l0_3.length c0_3)] 24 (0,0))) ∧ Aside0 (w'.heap[gb102]? = some (.cells #[.int .i64 a1_0,.int .i64 a1_1,.int .i64 a1_2,(.slice A1_3 l1_3.length c1_3)] 24 (0,0))) ∧ Aside0 (Below w.heap.size w w'))
    case atStart => exact ⟨(0),fr_,H',⟨Nat.le_refl _⟩,⟨blk_mv BK101.out⟩,⟨blk_mv BK102.out⟩,⟨bel_⟩⟩
    case round =>
     clear H';(try clear c1);(try clear c2);(try clear p2);(try clear c6);(try clear c6b0);(try clear c6b1);(try clear c7);(try clear c7b0);(try clear c7b1);(try clear c8);(try clear c8b0);(try clear c8b1);(try clear c9);(try clear c12);(try clear c15);(try clear c17);(try clear c18);(try clear c21);(try clear hcz10_0);(try clear hcz10_1);(try clear hcz10_2);(try clear hcz10_3);(try clear hcz11_0);(try clear hcz11_1);(try clear hcz11_2);(try clear hcz11_3);(try clear hcz13_0);(try clear hcz13_1);(try clear hcz13_2);(try clear hcz13_3);(try clear hcz14_0);(try clear hcz14_1);(try clear hcz14_2);(try clear hcz14_3);(try clear hcz16_0);(try clear hcz16_1);(try clear hcz16_2);(try clear hcz16_3);(try clear hcz17_0);(try clear hcz17_1);(try clear hcz17_2);(try clear hcz17_3);(try clear hcz19_0);(try clear hcz19_1);(try clear hcz19_2);(try clear hcz19_3);(try clear hcz20_0);(try clear hcz20_1);(try clear hcz20_2);(try clear hcz20_3);(try clear hfz10_0);(try clear hfz10_1);(try clear hfz10_2);(try clear hfz10_3);(try clear hfz11_0);(try clear hfz11_1);(try clear hfz11_2);(try clear hfz11_3);(try clear hfz13_0);(try clear hfz13_1);(try clear hfz13_2);(try clear hfz13_3);(try clear hfz14_0);(try clear hfz14_1);(try clear hfz14_2);(try clear hfz14_3);(try clear hfz16_0);(try clear hfz16_1);(try clear hfz16_2);(try clear hfz16_3);(try clear hfz17_0);(try clear hfz17_1);(try clear hfz17_2);(try clear hfz17_3);(try clear hfz19_0);(try clear hfz19_1);(try clear hfz19_2);(try clear hfz19_3);(try clear hfz20_0);(try clear hfz20_1);(try clear hfz20_2);(try clear hfz20_3);(try clear p2);obtain ⟨x5_2,rfl,HA,HK2,BK101,BK102,HB⟩:=hrel;cases gk with
     | zero => exact absurd HA.out (by simp [changeforgeref5_SameVersion.l0])
     | succ k2 =>
      have H:=HA.out;clear HA;simp only [changeforgeref5_SameVersion.l0] at H;by_cases c22 : x5_2 < (l0_3.length : Int)
      ·rw [if_pos c22] at H
       have c22b0 : decide (x5_2 < (l0_3.length : Int)) = true:=decide_eq_true c22;clear c22;by_cases c23 : 0 ≤ x5_2
       ·rw [if_pos c23] at H
        have c23b0 : decide (0 ≤ x5_2) = true:=decide_eq_true c23;clear c23;by_cases c24 : x5_2 < (l1_3.length : Int)
        ·rw [if_pos c24] at H
         have c24b0 : decide (x5_2 < (l1_3.length : Int)) = true:=decide_eq_true c24;clear c24;by_cases c25 : (rdOf ByteArray.empty l0_3 x5_2).toList = (rdOf ByteArray.empty l1_3 x5_2).toList
         ·rw [if_pos c25] at H
          have c25b0 : ((rdOf ByteArray.empty l0_3 x5_2).toList == (rdOf ByteArray.empty l1_3 x5_2).toList) = true:=beq_iff_eq.mpr c25;have c25b1 : ((rdOf ByteArray.empty l0_3 x5_2).toList != (rdOf ByteArray.empty l1_3 x5_2).toList) = false:=bne_eq_false_iff_eq.mpr c25;clear c25;have H':=Aside0.mk H;clear H;have hnb26:=NB101_102.out;have hnc26:=NB102_101.out;have hcz27_0:=blk_c (v:=.int .i64 a0_0) BK101.out 0 rfl;have hcz27_1:=blk_c (v:=.int .i64 a0_1) BK101.out 1 rfl;have hcz27_2:=blk_c (v:=.int .i64 a0_2) BK101.out 2 rfl;have hcz27_3:=blk_c (v:=.slice A0_3 l0_3.length c0_3) BK101.out 3 rfl;have hfz27_0:=blk_frozen BK101.out 0;have hfz27_1:=blk_frozen BK101.out 1;have hfz27_2:=blk_frozen BK101.out 2;have hfz27_3:=blk_frozen BK101.out 3;have p103 : 0 ≤ (x5_2 : Int):=of_decide_eq_true as_;have q103 : x5_2 < (l0_3.length : Int):=of_decide_eq_true as_;obtain ⟨ad103,e103,hx103_0⟩:=Kd.at_string HR0_3.out x5_2 p103 q103;cases e103
          replace hx103_0:=(HB.out.cell (World.block_lt_of_cell? w _ hx103_0)).trans hx103_0;replace p103:=eq_true p103;replace q103:=eq_true q103;have hcz28_0:=blk_c (v:=.int .i64 a1_0) BK102.out 0 rfl;have hcz28_1:=blk_c (v:=.int .i64 a1_1) BK102.out 1 rfl;have hcz28_2:=blk_c (v:=.int .i64 a1_2) BK102.out 2 rfl;have hcz28_3:=blk_c (v:=.slice A1_3 l1_3.length c1_3) BK102.out 3 rfl;have hfz28_0:=blk_frozen BK102.out 0;have hfz28_1:=blk_frozen BK102.out 1;have hfz28_2:=blk_frozen BK102.out 2;have hfz28_3:=blk_frozen BK102.out 3;have p104 : 0 ≤ (x5_2 : Int):=of_decide_eq_true as_;have q104 : x5_2 < (l1_3.length : Int):=of_decide_eq_true as_;obtain ⟨ad104,e104,hx104_0⟩:=Kd.at_string HR1_3.out x5_2 p104 q104;cases e104
          replace hx104_0:=(HB.out.cell (World.block_lt_of_cell? w _ hx104_0)).trans hx104_0;replace p104:=eq_true p104;replace q104:=eq_true q104;go_wp2;repeat (go_quiet (fail);try go_wp2)
          go_roundg k2
          case measure => have:=HJ2.out;have:=HK2.out;omega
          case rel => exact ⟨(wrap64 (x5_2 + 1)),fr_,H',⟨by have:=HJ2.out;have:=HK2.out;omega⟩,⟨blk_mv BK101.out⟩,⟨blk_mv BK102.out⟩,⟨bel_⟩⟩
         ·rw [if_neg c25] at H
          have c25b0 : ((rdOf ByteArray.empty l0_3 x5_2).toList == (rdOf ByteArray.empty l1_3 x5_2).toList) = false:=beq_eq_false_iff_ne.mpr c25;have c25b1 : ((rdOf ByteArray.empty l0_3 x5_2).toList != (rdOf ByteArray.empty l1_3 x5_2).toList) = true:=bne_iff_ne.mpr c25;obtain rfl:=Option.some.inj H;have hnb29:=NB101_102.out;have hnc29:=NB102_101.out;have hcz30_0:=blk_c (v:=.int .i64 a0_0) BK101.out 0 rfl;have hcz30_1:=blk_c (v:=.int .i64 a0_1) BK101.out 1 rfl;have hcz30_2:=blk_c (v:=.int .i64 a0_2) BK101.out 2 rfl;have hcz30_3:=blk_c (v:=.slice A0_3 l0_3.length c0_3) BK101.out 3 rfl;have hfz30_0:=blk_frozen BK101.out 0;have hfz30_1:=blk_frozen BK101.out 1;have hfz30_2:=blk_frozen BK101.out 2;have hfz30_3:=blk_frozen BK101.out 3;have p103 : 0 ≤ (x5_2 : Int):=of_decide_eq_true as_;have q103 : x5_2 < (l0_3.length : Int):=of_decide_eq_true as_;obtain ⟨ad103,e103,hx103_0⟩:=Kd.at_string HR0_3.out x5_2 p103 q103;cases e103
          replace hx103_0:=(HB.out.cell (World.block_lt_of_cell? w _ hx103_0)).trans hx103_0;replace p103:=eq_true p103;replace q103:=eq_true q103;have hcz31_0:=blk_c (v:=.int .i64 a1_0) BK102.out 0 rfl;have hcz31_1:=blk_c (v:=.int .i64 a1_1) BK102.out 1 rfl;have hcz31_2:=blk_c (v:=.int .i64 a1_2) BK102.out 2 rfl;have hcz31_3:=blk_c (v:=.slice A1_3 l1_3.length c1_3) BK102.out 3 rfl;have hfz31_0:=blk_frozen BK102.out 0;have hfz31_1:=blk_frozen BK102.out 1;have hfz31_2:=blk_frozen BK102.out 2;have hfz31_3:=blk_frozen BK102.out 3;have p104 : 0 ≤ (x5_2 : Int):=of_decide_eq_true as_;have q104 : x5_2 < (l1_3.length : Int):=of_decide_eq_true as_;obtain ⟨ad104,e104,hx104_0⟩:=Kd.at_string HR1_3.out x5_2 p104 q104;cases e104
          replace hx104_0:=(HB.out.cell (World.block_lt_of_cell? w _ hx104_0)).trans hx104_0;replace p104:=eq_true p104;replace q104:=eq_true q104;go_wp2;repeat (go_quiet (fail);try go_wp2)
          go_ret;exact ⟨by first|rfl|(simp [errW_none,errW_some] <;> rfl)|(simp [*,errW_none,errW_some] <;> rfl),bel_⟩
        ·rw [if_neg c24] at H
         exact absurd H (by simp)
       ·rw [if_neg c23] at H
        exact absurd H (by simp)
      ·rw [if_neg c22] at H
       have c22b0 : decide (x5_2 < (l0_3.length : Int)) = false:=decide_eq_false c22;clear c22;obtain rfl:=Option.some.inj H;have hnb32:=NB101_102.out;have hnc32:=NB102_101.out;have hcz33_0:=blk_c (v:=.int .i64 a0_0) BK101.out 0 rfl;have hcz33_1:=blk_c (v:=.int .i64 a0_1) BK101.out 1 rfl;have hcz33_2:=blk_c (v:=.int .i64 a0_2) BK101.out 2 rfl;have hcz33_3:=blk_c (v:=.slice A0_3 l0_3.length c0_3) BK101.out 3 rfl;have hfz33_0:=blk_frozen BK101.out 0;have hfz33_1:=blk_frozen BK101.out 1;have hfz33_2:=blk_frozen BK101.out 2;have hfz33_3:=blk_frozen BK101.out 3;go_wp2;repeat (go_quiet (fail);try go_wp2)
       go_ret;exact ⟨by first|rfl|(simp [errW_none,errW_some] <;> rfl)|(simp [*,errW_none,errW_some] <;> rfl),bel_⟩

end Go.Proofs.YtggdbafmpmfmcaaDoor.Fn
