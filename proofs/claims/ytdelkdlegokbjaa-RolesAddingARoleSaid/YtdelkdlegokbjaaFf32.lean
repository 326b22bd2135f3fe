/- A function of the program as a plain Lean function, and the proof that the call comes to just what it says (written by wip/tools/xprint.py for this claim). Condition: the plain function has an answer. -/
import Derived.Test.YtdelkdlegokbjaaFn0
import Derived.Test.YtdelkdlegokbjaaFf21
import Derived.Test.YtdelkdlegokbjaaFf28
import Derived.Test.YtdelkdlegokbjaaFs0
import Derived.Test.YtdelkdlegokbjaaWA
import Derived.Test.YtdelkdlegokbjaaTight
namespace Go.Proofs.Ytdelkdlegokbjaa.Fn
open Go.RowKit Go.Proofs.YtdelkdlegokbjaaW.PrintWords Go.Proofs.YtdelkdlegokbjaaW.PrintLast Go.Proofs.YtdelkdlegokbjaaW.PrintMore
attribute [local go_sem] max2_int min2_int max_two min_two max_three min_three max_four min_four   -- for this text's walks alone
set_option linter.unusedVariables false
set_option linter.unusedSimpArgs false

attribute [local go_sem high] eqA27
/-! ### threshold_Accept: function 32 -/
def threshold_Accept.f (k : Nat) (l0 : List Int) (a1 : Int) (l2 : List Int) (l3 : List (S58)) : Option (Bool × Int × Int):=(threshold_Validate.f k l0 a1).bind fun bt102 => (if (!(bt102.1 == 0) || (!(bt102.2 == 0))) = true then (some (false,bt102.1,bt102.2)) else ((threshold_Signers.f k l0 l2 l3).bind fun bt105 => (if (bt105.2.1 == 0 && (bt105.2.2 == 0)) = true then (some (decide ((bt105.1.length : Int) ≥ a1),bt105.2.1,bt105.2.2)) else (some (false,bt105.2.1,bt105.2.2)))))
theorem threshold_Accept.mono : ∀ a0 a1 a2 a3 k,LeO (threshold_Accept.f k a0 a1 a2 a3) (threshold_Accept.f (k + 1) a0 a1 a2 a3):=by
 intro a0 a1 a2 a3 k;unfold threshold_Accept.f
 repeat' first
   | (with_reducible exact threshold_Signers.mono _ _ _ _)
   | (with_reducible exact threshold_Validate.mono _ _ _)
   | (with_reducible exact LeO.refl _)
   | (with_reducible exact LeO.none _)
   | (with_reducible refine LeO.ite ?_ ?_)
   | (with_reducible refine LeO.bind ?_ (fun _ => ?_))
   | exact threshold_Signers.mono _ _ _ _
   | exact threshold_Validate.mono _ _ _
   | exact LeO.none _
   | refine LeO.ite ?_ ?_
   | refine LeO.bind ?_ (fun _ => ?_)
def threshold_Accept.T5 : Bool × List (List Nat × List Nat):=(true,[([],[]),([],[]),([0,1],[0,1]),([2],[2]),([3],[3]),([4,3],[3,4]),([3],[3]),([5,6,3],[3,5,6]),([3,7],[3,7]),([],[]),([8,3,0,1,2,3,4,5,6,7,8],[8]),([9,10,0,1,2,3,4,5,6,7,8,9,10],[9])])
def threshold_Accept.B5 : List Nat:=[0,0,3,7,15,31,15,127,255,0,511,2047]
theorem threshold_Accept.tab5 : rtab .any (opsOf Try.f32 5) = threshold_Accept.T5:=by kernel_rfl
theorem threshold_Accept.bits5 : waitsOk threshold_Accept.T5.2 threshold_Accept.B5 = true:=by kernel_rfl
set_option maxHeartbeats 8000000 in
set_option maxRecDepth 100000 in
theorem threshold_Accept.calls (k : Nat) (A0 : Option Addr) (c0 : Nat) (l0 : List Int) (a1 : Int) (A2 : Option Addr) (c2 : Nat) (l2 : List Int) (A3 : Option Addr) (c3 : Nat) (l3 : List (S58)) (r1 : Bool) (r2 : Int) (r3 : Int) (w : World) (hr0 : Kd.C (Kd.int .i64) w A0 l0.length l0) (hc0 : l0.length ≤ c0) (hr2 : Kd.C (Kd.int .u8) w A2 l2.length l2) (hc2 : l2.length ≤ c2) (hr3 : Kd.C k58 w A3 l3.length l3) (hc3 : l3.length ≤ c3) (h : threshold_Accept.f k l0 a1 l2 l3 = some (r1,r2,r3)) :
  Calls Try.prog 32 #[.slice A0 l0.length c0,.int .i64 a1,.slice A2 l2.length c2,.slice A3 l3.length c3] w fun e w' => e = .returned (.tuple #[.bool r1,.agg #[.int .i64 r2,.int .i64 r3]]) ∧ Below w.heap.size w w':=by
 have hu27:=Try.underlying27;have HR0:=Aside0.mk hr0;have HC0:=Aside0.mk hc0;clear hr0 hc0;have HR2:=Aside0.mk hr2;have HC2:=Aside0.mk hc2;clear hr2 hc2;have HR3:=Aside0.mk hr3;have HC3:=Aside0.mk hc3;clear hr3 hc3;have HB:=Aside0.mk (Below.refl w.heap.size w);have H : ((threshold_Validate.f k l0 a1).bind fun bt102 => (if (!(bt102.1 == 0) || (!(bt102.2 == 0))) = true then (some (false,bt102.1,bt102.2)) else ((threshold_Signers.f k l0 l2 l3).bind fun bt105 => (if (bt105.2.1 == 0 && (bt105.2.2 == 0)) = true then (some (decide ((bt105.1.length : Int) ≥ a1),bt105.2.1,bt105.2.2)) else (some (false,bt105.2.1,bt105.2.2)))))) = some (r1,r2,r3):=h;clear h;replace H:=Option.bind_eq_some_iff.mp H;obtain ⟨⟨t102,t103⟩,A50,H⟩:=H;replace H : (if (!(t102 == 0) || (!(t103 == 0))) = true then (some (false,t102,t103)) else ((threshold_Signers.f k l0 l2 l3).bind fun bt105 => (if (bt105.2.1 == 0 && (bt105.2.2 == 0)) = true then (some (decide ((bt105.1.length : Int) ≥ a1),bt105.2.1,bt105.2.2)) else (some (false,bt105.2.1,bt105.2.2))))) = some (r1,r2,r3):=H;have A5:=Aside0.mk A50;clear A50;by_cases c6 : (!(t102 == 0) || (!(t103 == 0))) = true
 ·rw [if_pos c6] at H
  have c6b0 : (!(t102 == 0) || (!(t103 == 0))) = true:=c6;clear c6;simp only [Option.some.injEq,Prod.mk.injEq] at H;obtain ⟨rfl,rfl,rfl⟩:=H;go_enter Try.func32,Try.ntmps32;try go_wp2_with (first|((with_reducible refine gate_dst (N:=9) rfl ?_);(try (refine gate_guard (by rfl) ?_;dsimp only));refine box_event ?hg (N:=9) ?hd (cs:=#[.int .i64 0,.int .i64 0]) (t:=27) ?hr ?_;(case hd => rfl);(case hg => rfl);(case hr => first|(go_simp;done)|(go_simp;rfl));intro gb101 hg w7 hbox hb;have BK101:=Aside0.mk (hbox);have GW101:=Aside0.mk ((bs_ : w.heap.size ≤ gb101));have GE101:=Aside0.mk ((bs_ : w.heap.size ≤ gb101));replace HB:=Aside0.mk (below_step bel_ hb);clear hb hbox hg)|((with_reducible refine gate_callee (f:=28) rfl ?_);refine goesL_ (some 15) rfl rfl Try.func28 (by kernel_rfl) rfl #[.slice A0 l0.length c0,.int .i64 a1] rfl ln_ ?_;(with_reducible refine (threshold_Validate.calls k _ _ l0 a1 t102 t103 _ ?side1 ?side2 A5.out).mono ?_);(case side1 => first|exact (Kd.C_below HR0.out HB.out)|exact Kd.C_mv (Kd.C_below HR0.out HB.out));(case side2 => exact HC0.out);rintro e w8 ⟨rfl,hb⟩;refine ⟨_,rfl,?_⟩;replace BK101:=Aside0.mk (blk_below (blk_mv BK101.out) hb);replace HB:=Aside0.mk (below_step bel_ hb);(try clear hb);(try clear hb2);(try clear hk);(try clear hi))|((with_reducible refine gate_dst (N:=10) rfl ?_);(try (refine gate_guard (by rfl) ?_;dsimp only));refine box_event ?hg (N:=10) ?hd (cs:=#[.int .i64 0,.int .i64 0]) (t:=27) ?hr ?_;(case hd => rfl);(case hg => rfl);(case hr => first|(go_simp;done)|(go_simp;rfl));intro gb104 hg w9 hbox hb;have BK104:=Aside0.mk (hbox);have GW104:=Aside0.mk ((bs_ : w.heap.size ≤ gb104));have GE104:=Aside0.mk ((bs_ : w.heap.size ≤ gb104));replace HB:=Aside0.mk (below_step bel_ hb);have NB101_104:=Aside0.mk ((by rw [hg];exact Nat.ne_of_lt (blk_lt (g:=gb101) (o:=.cells #[.int .i64 0,.int .i64 0] 27 (0,0)) (blk_mv BK101.out)) : gb101 ≠ gb104));have NB104_101:=Aside0.mk ((by rw [hg];exact Nat.ne_of_gt (blk_lt (g:=gb101) (o:=.cells #[.int .i64 0,.int .i64 0] 27 (0,0)) (blk_mv BK101.out)) : gb104 ≠ gb101));replace BK101:=Aside0.mk (blk_below (blk_mv BK101.out) hb);clear hb hbox hg;have hnb10:=NB104_101.out;have hnc10:=NB101_104.out;have hcz11_0:=blk_c (v:=.int .i64 0) BK104.out 0 rfl;have hcz11_1:=blk_c (v:=.int .i64 0) BK104.out 1 rfl;have hfz11_0:=blk_frozen BK104.out 0;have hfz11_1:=blk_frozen BK104.out 1))
  have n0_ : Aside0 (((w9.setCell ⟨gb104,0,none⟩ (.int .i64 t102)).setCell ⟨gb104,1,none⟩ (.int .i64 t103)).heap[gb101]? = some (.cells #[.int .i64 0,.int .i64 0] 27 (0,0))):=⟨by refine blk_mv ?_;refine blk_far ?_ NB101_104.out _;refine blk_mv ?_;refine blk_far ?_ NB101_104.out _;refine blk_mv ?_;exact BK101.out⟩;have n1_ : Aside0 (((w9.setCell ⟨gb104,0,none⟩ (.int .i64 t102)).setCell ⟨gb104,1,none⟩ (.int .i64 t103)).heap[gb104]? = some (.cells #[.int .i64 t102,.int .i64 t103] 27 (0,0))):=⟨by refine blk_mv ?_;refine blk_put (cs:=#[.int .i64 t102,.int .i64 0]) ?_ 1 _ rfl;refine blk_mv ?_;refine blk_put (cs:=#[.int .i64 0,.int .i64 0]) ?_ 0 _ rfl;refine blk_mv ?_;exact BK104.out⟩;have n2_ : Aside0 (Below w.heap.size w ((w9.setCell ⟨gb104,0,none⟩ (.int .i64 t102)).setCell ⟨gb104,1,none⟩ (.int .i64 t103))):=⟨bel_⟩;(try clear BK101);(try clear BK104);(try clear HB);generalize ((w9.setCell ⟨gb104,0,none⟩ (.int .i64 t102)).setCell ⟨gb104,1,none⟩ (.int .i64 t103)) = w12 at n0_ n1_ n2_ ⊢;have BK101:=n0_;have BK104:=n1_;have HB:=n2_;clear n0_ n1_ n2_;replace BK101:=Aside0.mk (blk_drew BK101.out);replace BK104:=Aside0.mk (blk_drew BK104.out);replace HB:=Aside0.mk (below_drew1 HB.out);refine start_ (n:=3) (S:=fun w' => w'.cell? ⟨gb104,0,none⟩ = some (.int .i64 t102) ∧ w'.cell? ⟨gb104,1,none⟩ = some (.int .i64 t103)) (ds:=[]) #[false,false,false] (by kernel_rfl) rfl rfl ⟨(blk_cell BK104.out 0).trans rfl,(blk_cell BK104.out 1).trans rfl⟩ (fun hHeld => ?_);generalize w12.drew = w13 at BK101 BK104 HB hHeld ⊢;refine pure_ (i:=1) (N:=some 8) (v:=?_) (a':=?_) #[false,true,false] rfl rfl (by kernel_rfl) (fun _ _ _ h => h) (Or.inl ⟨by rfl,?_⟩) ?_ ?_;rotate_left
  ·intro w'
   go_simp;with_reducible rfl
  rotate_left
  ·simp only [Act.put,sa_,sb_,sc_,i64_w,i32_w]
   rfl
  refine take_ (i:=0) (N:=some 19) (v:=?_) (a':=?_) #[true,true,false] rfl rfl (by kernel_rfl) (fun _ _ _ h => h) (Or.inl ⟨by rfl,?_⟩) hHeld ?_ ?_;rotate_left
  ·rintro w' ⟨s0,s1⟩
   go_simp;with_reducible rfl
  rotate_left
  ·simp only [Act.put,sa_,sb_,sc_,i64_w,i32_w]
   rfl
  refine one_ (i:=2) (N:=none) #[true,true,true] rfl rfl (by kernel_rfl) (by decide) (fun K hK => ?_);have hs14 : w13.cell? ⟨gb101,0,none⟩ = some (.int .i64 0):=(blk_cell BK101.out 0).trans rfl;have hfs14:=blk_frozen BK101.out 0;have hns14_1:=NB104_101.out;have hms14_1:=NB101_104.out;have hs15 : w13.cell? ⟨gb101,1,none⟩ = some (.int .i64 0):=(blk_cell BK101.out 1).trans rfl;have hfs15:=blk_frozen BK101.out 1;have hns15_1:=NB104_101.out;have hms15_1:=NB101_104.out;refine skip_ (w1:=?_) ?_ ?_ ?_ ?_;rotate_left
  ·rfl
  ·rfl
  ·go_simp
   rfl
  refine hK.out _ _ ⟨((cell_far (p:=⟨gb101,_,none⟩) NB104_101.out _).trans (((cell_far (p:=⟨gb101,_,none⟩) NB104_101.out _).trans (hHeld.1)))),((cell_far (p:=⟨gb101,_,none⟩) NB104_101.out _).trans (((cell_far (p:=⟨gb101,_,none⟩) NB104_101.out _).trans (hHeld.2))))⟩ (fun hHeld => ?_);clear hK K;refine done_ (by kernel_rfl) ?_;try go_wp2
  refine bodyPost_ret (results_tc rfl _ _ gb101 27 #[.int .i64 t102,.int .i64 t103] (0,0) _ rfl (by refine blk_mv ?_;refine blk_put (cs:=#[.int .i64 t102,.int .i64 0]) ?_ 1 _ rfl;refine blk_mv ?_;refine blk_put (cs:=#[.int .i64 0,.int .i64 0]) ?_ 0 _ rfl;refine blk_mv ?_;exact BK101.out) Try.underlying27 rfl (by kernel_rfl)) rfl ?_;exact ⟨by first|rfl|(simp [errW_none,errW_some] <;> rfl)|(simp [*,errW_none,errW_some] <;> rfl),bel_⟩
 ·rw [if_neg c6] at H
  have c6b0 : (!(t102 == 0) || (!(t103 == 0))) = false:=by simpa using c6
  clear c6;replace H:=Option.bind_eq_some_iff.mp H;obtain ⟨⟨t105,t108,t109⟩,A160,H⟩:=H;replace H : (if (t108 == 0 && (t109 == 0)) = true then (some (decide ((t105.length : Int) ≥ a1),t108,t109)) else (some (false,t108,t109))) = some (r1,r2,r3):=H;have A16:=Aside0.mk A160;clear A160;by_cases c17 : (t108 == 0 && (t109 == 0)) = true
  ·rw [if_pos c17] at H
   have c17b0 : (t108 == 0 && (t109 == 0)) = true:=c17;(try (have c17b1 : decide (t108 = 0 && (t109 == 0)) = true:=by simpa using c17));(try (have c17b2 : (t108 == 0 && (t109 == 0)) = true:=by simpa using c17));clear c17;simp only [Option.some.injEq,Prod.mk.injEq] at H;obtain ⟨rfl,rfl,rfl⟩:=H;go_enter Try.func32,Try.ntmps32;try go_wp2_with (first|((with_reducible refine gate_dst (N:=9) rfl ?_);(try (refine gate_guard (by rfl) ?_;dsimp only));refine box_event ?hg (N:=9) ?hd (cs:=#[.int .i64 0,.int .i64 0]) (t:=27) ?hr ?_;(case hd => rfl);(case hg => rfl);(case hr => first|(go_simp;done)|(go_simp;rfl));intro gb101 hg w18 hbox hb;have BK101:=Aside0.mk (hbox);have GW101:=Aside0.mk ((bs_ : w.heap.size ≤ gb101));have GE101:=Aside0.mk ((bs_ : w.heap.size ≤ gb101));replace HB:=Aside0.mk (below_step bel_ hb);clear hb hbox hg)|((with_reducible refine gate_callee (f:=28) rfl ?_);refine goesL_ (some 15) rfl rfl Try.func28 (by kernel_rfl) rfl #[.slice A0 l0.length c0,.int .i64 a1] rfl ln_ ?_;(with_reducible refine (threshold_Validate.calls k _ _ l0 a1 t102 t103 _ ?side1 ?side2 A5.out).mono ?_);(case side1 => first|exact (Kd.C_below HR0.out HB.out)|exact Kd.C_mv (Kd.C_below HR0.out HB.out));(case side2 => exact HC0.out);rintro e w19 ⟨rfl,hb⟩;refine ⟨_,rfl,?_⟩;replace BK101:=Aside0.mk (blk_below (blk_mv BK101.out) hb);replace HB:=Aside0.mk (below_step bel_ hb);(try clear hb);(try clear hb2);(try clear hk);(try clear hi))|((with_reducible refine gate_dst (N:=10) rfl ?_);(try (refine gate_guard (by rfl) ?_;dsimp only));refine box_event ?hg (N:=10) ?hd (cs:=#[.int .i64 0,.int .i64 0]) (t:=27) ?hr ?_;(case hd => rfl);(case hg => rfl);(case hr => first|(go_simp;done)|(go_simp;rfl));intro gb104 hg w20 hbox hb;have BK104:=Aside0.mk (hbox);have GW104:=Aside0.mk ((bs_ : w.heap.size ≤ gb104));have GE104:=Aside0.mk ((bs_ : w.heap.size ≤ gb104));replace HB:=Aside0.mk (below_step bel_ hb);have NB101_104:=Aside0.mk ((by rw [hg];exact Nat.ne_of_lt (blk_lt (g:=gb101) (o:=.cells #[.int .i64 0,.int .i64 0] 27 (0,0)) (blk_mv BK101.out)) : gb101 ≠ gb104));have NB104_101:=Aside0.mk ((by rw [hg];exact Nat.ne_of_gt (blk_lt (g:=gb101) (o:=.cells #[.int .i64 0,.int .i64 0] 27 (0,0)) (blk_mv BK101.out)) : gb104 ≠ gb101));replace BK101:=Aside0.mk (blk_below (blk_mv BK101.out) hb);clear hb hbox hg;have hnb21:=NB104_101.out;have hnc21:=NB101_104.out;have hcz22_0:=blk_c (v:=.int .i64 0) BK104.out 0 rfl;have hcz22_1:=blk_c (v:=.int .i64 0) BK104.out 1 rfl;have hfz22_0:=blk_frozen BK104.out 0;have hfz22_1:=blk_frozen BK104.out 1)|((with_reducible refine gate_callee (f:=21) rfl ?_);refine goesL_ (some 24) rfl rfl Try.func21 (by kernel_rfl) rfl #[.slice A0 l0.length c0,.slice A2 l2.length c2,.slice A3 l3.length c3] rfl ln_ ?_;(with_reducible refine (threshold_Signers.calls k _ _ l0 _ _ l2 _ _ l3 t105 t108 t109 _ ?side1 ?side2 ?side3 ?side4 ?side5 ?side6 A16.out).mono ?_);(case side1 => exact Kd.C_below HR0.out bel_);(case side2 => exact HC0.out);(case side3 => exact Kd.C_below HR2.out bel_);(case side4 => exact HC2.out);(case side5 => exact Kd.C_below HR3.out bel_);(case side6 => exact HC3.out);rintro e w23 ⟨v106,rfl,ho0,hb⟩;refine ⟨_,rfl,?_⟩;have HO107:=Aside0.mk (Kd.R_lower ho0 (below_size bel_));replace BK101:=Aside0.mk (blk_below (g:=gb101) (o:=.cells #[.int .i64 0,.int .i64 0] 27 (0,0)) (by refine blk_mv ?_;refine blk_far ?_ NB101_104.out _;refine blk_mv ?_;refine blk_far ?_ NB101_104.out _;refine blk_mv ?_;exact BK101.out) hb);replace BK104:=Aside0.mk (blk_below (g:=gb104) (o:=.cells #[.int .i64 t102,.int .i64 t103] 27 (0,0)) (by refine blk_mv ?_;refine blk_put (cs:=#[.int .i64 t102,.int .i64 0]) ?_ 1 _ rfl;refine blk_mv ?_;refine blk_put (cs:=#[.int .i64 0,.int .i64 0]) ?_ 0 _ rfl;refine blk_mv ?_;exact BK104.out) hb);replace HB:=Aside0.mk (below_step bel_ hb);(try clear hb);(try clear hb2);(try clear hk);(try clear hi);(try clear ho0))|((with_reducible refine gate_dst (N:=12) rfl ?_);(try (refine gate_guard (by rfl) ?_;dsimp only));refine box_event ?hg (N:=12) ?hd (cs:=#[.int .i64 0,.int .i64 0]) (t:=27) ?hr ?_;(case hd => rfl);(case hg => rfl);(case hr => first|(go_simp;done)|(go_simp;rfl));intro gb110 hg w24 hbox hb;replace HO107:=Aside0.mk (Kd.R_below (Kd.R_mv HO107.out) hb);have BK110:=Aside0.mk (hbox);have GW110:=Aside0.mk ((bs_ : w.heap.size ≤ gb110));have GE110:=Aside0.mk ((bs_ : w.heap.size ≤ gb110));replace HB:=Aside0.mk (below_step bel_ hb);have NB101_110:=Aside0.mk ((by rw [hg];exact Nat.ne_of_lt (blk_lt (g:=gb101) (o:=.cells #[.int .i64 0,.int .i64 0] 27 (0,0)) (blk_mv BK101.out)) : gb101 ≠ gb110));have NB110_101:=Aside0.mk ((by rw [hg];exact Nat.ne_of_gt (blk_lt (g:=gb101) (o:=.cells #[.int .i64 0,.int .i64 0] 27 (0,0)) (blk_mv BK101.out)) : gb110 ≠ gb101));replace BK101:=Aside0.mk (blk_below (blk_mv BK101.out) hb);have NB104_110:=Aside0.mk ((by rw [hg];exact Nat.ne_of_lt (blk_lt (g:=gb104) (o:=.cells #[.int .i64 t102,.int .i64 t103] 27 (0,0)) (blk_mv BK104.out)) : gb104 ≠ gb110));have NB110_104:=Aside0.mk ((by rw [hg];exact Nat.ne_of_gt (blk_lt (g:=gb104) (o:=.cells #[.int .i64 t102,.int .i64 t103] 27 (0,0)) (blk_mv BK104.out)) : gb110 ≠ gb104));replace BK104:=Aside0.mk (blk_below (blk_mv BK104.out) hb);clear hb hbox hg;have hnb25:=NB110_101.out;have hnc25:=NB101_110.out;have hnb26:=NB110_104.out;have hnc26:=NB104_110.out;have hcz27_0:=blk_c (v:=.int .i64 0) BK110.out 0 rfl;have hcz27_1:=blk_c (v:=.int .i64 0) BK110.out 1 rfl;have hfz27_0:=blk_frozen BK110.out 0;have hfz27_1:=blk_frozen BK110.out 1))
   have n0_ : Aside0 (Kd.R (Kd.int .i64) 3 ((w24.setCell ⟨gb110,0,none⟩ (.int .i64 t108)).setCell ⟨gb110,1,none⟩ (.int .i64 t109)) w.heap.size (fun _ => True) v106 t105):=⟨by (with_reducible repeat (first|apply Kd.R_alloc|apply Kd.R_drewN|apply Kd.R_drew));exact Kd.R_mono (Kd.R_far (p:=⟨gb110,1,none⟩) (Kd.R_far (p:=⟨gb110,0,none⟩) (Kd.R_types HO107.out BK110.out (by decide)) (fun _ hk => hk.2) (.int .i64 t108)) (fun _ hk => hk.2) (.int .i64 t109)) (fun _ hk => trivial)⟩;have n1_ : Aside0 (((w24.setCell ⟨gb110,0,none⟩ (.int .i64 t108)).setCell ⟨gb110,1,none⟩ (.int .i64 t109)).heap[gb101]? = some (.cells #[.int .i64 0,.int .i64 0] 27 (0,0))):=⟨by refine blk_mv ?_;refine blk_far ?_ NB101_110.out _;refine blk_mv ?_;refine blk_far ?_ NB101_110.out _;refine blk_mv ?_;exact BK101.out⟩;have n2_ : Aside0 (((w24.setCell ⟨gb110,0,none⟩ (.int .i64 t108)).setCell ⟨gb110,1,none⟩ (.int .i64 t109)).heap[gb104]? = some (.cells #[.int .i64 t102,.int .i64 t103] 27 (0,0))):=⟨by refine blk_mv ?_;refine blk_far ?_ NB104_110.out _;refine blk_mv ?_;refine blk_far ?_ NB104_110.out _;refine blk_mv ?_;exact BK104.out⟩;have n3_ : Aside0 (((w24.setCell ⟨gb110,0,none⟩ (.int .i64 t108)).setCell ⟨gb110,1,none⟩ (.int .i64 t109)).heap[gb110]? = some (.cells #[.int .i64 t108,.int .i64 t109] 27 (0,0))):=⟨by refine blk_mv ?_;refine blk_put (cs:=#[.int .i64 t108,.int .i64 0]) ?_ 1 _ rfl;refine blk_mv ?_;refine blk_put (cs:=#[.int .i64 0,.int .i64 0]) ?_ 0 _ rfl;refine blk_mv ?_;exact BK110.out⟩;have n4_ : Aside0 (Below w.heap.size w ((w24.setCell ⟨gb110,0,none⟩ (.int .i64 t108)).setCell ⟨gb110,1,none⟩ (.int .i64 t109))):=⟨bel_⟩;(try clear HO107);(try clear BK101);(try clear BK104);(try clear BK110);(try clear HB);generalize ((w24.setCell ⟨gb110,0,none⟩ (.int .i64 t108)).setCell ⟨gb110,1,none⟩ (.int .i64 t109)) = w28 at n0_ n1_ n2_ n3_ n4_ ⊢;have HO107:=n0_;have BK101:=n1_;have BK104:=n2_;have BK110:=n3_;have HB:=n4_;clear n0_ n1_ n2_ n3_ n4_;replace HO107:=Aside0.mk (Kd.R_drew HO107.out);replace BK101:=Aside0.mk (blk_drew BK101.out);replace BK104:=Aside0.mk (blk_drew BK104.out);replace BK110:=Aside0.mk (blk_drew BK110.out);replace HB:=Aside0.mk (below_drew1 HB.out);obtain ⟨Ao30,co30,eo30⟩:=Kd.R_slice HO107.out;(first|subst eo30|(injection eo30 with f1_ f2_ f3_;have f4_:=f1_.symm;have f5_:=f3_.symm;clear f1_ f2_ f3_;subst f4_;subst f5_));refine start_ (n:=12) (S:=fun w' => w'.cell? ⟨gb110,0,none⟩ = some (.int .i64 t108) ∧ w'.cell? ⟨gb110,1,none⟩ = some (.int .i64 t109)) (ds:=[]) (bl_ 12 0) (by kernel_rfl) rfl rfl ⟨(blk_cell BK110.out 0).trans rfl,(blk_cell BK110.out 1).trans rfl⟩ (fun hHeld => ?_);refine with_tabW threshold_Accept.tab5 threshold_Accept.bits5 (fun HT_ HW_ => ?_);generalize w28.drew = w29 at HO107 BK101 BK104 BK110 HB hHeld ⊢;refine pu_ (v:=?_) (a':=?_) 1 28 (bl_ 12 2) rfl rfl HT_.out ?_ ?_ ?_;rotate_left
   ·intro w'
    go_simp;with_reducible rfl
   rotate_left
   ·simp only [Act.put,sa_,sb_,sc_,i64_w,i32_w]
    rfl
   refine tk_ (v:=?_) (a':=?_) 0 27 (bl_ 12 3) rfl rfl HT_.out HW_.out ?_ hHeld ?_ ?_;rotate_left
   ·rintro w' ⟨s0,s1⟩
    go_simp;with_reducible rfl
   rotate_left
   ·simp only [Act.put,sa_,sb_,sc_,i64_w,i32_w]
    rfl
   refine pu_ (v:=?_) (a':=?_) 2 29 (bl_ 12 7) rfl rfl HT_.out ?_ ?_ ?_;rotate_left
   ·intro w'
    go_simp;with_reducible rfl
   rotate_left
   ·simp only [Act.put,sa_,sb_,sc_,i64_w,i32_w]
    rfl
   refine pu_ (v:=?_) (a':=?_) 3 30 (bl_ 12 15) rfl rfl HT_.out ?_ ?_ ?_;rotate_left
   ·intro w'
    go_simp;with_reducible rfl
   rotate_left
   ·simp only [Act.put,sa_,sb_,sc_,i64_w,i32_w]
    rfl
   refine pu_ (v:=?_) (a':=?_) 4 31 (bl_ 12 31) rfl rfl HT_.out ?_ ?_ ?_;rotate_left
   ·intro w'
    go_simp;with_reducible rfl
   rotate_left
   ·simp only [Act.put,sa_,sb_,sc_,i64_w,i32_w]
    rfl
   refine pu_ (v:=?_) (a':=?_) 5 32 (bl_ 12 63) rfl rfl HT_.out ?_ ?_ ?_;rotate_left
   ·intro w'
    go_simp;with_reducible rfl
   rotate_left
   ·simp only [Act.put,sa_,sb_,sc_,i64_w,i32_w]
    rfl
   refine pu_ (v:=?_) (a':=?_) 6 33 (bl_ 12 127) rfl rfl HT_.out ?_ ?_ ?_;rotate_left
   ·intro w'
    go_simp;with_reducible rfl
   rotate_left
   ·simp only [Act.put,sa_,sb_,sc_,i64_w,i32_w]
    rfl
   refine pu_ (v:=?_) (a':=?_) 7 34 (bl_ 12 255) rfl rfl HT_.out ?_ ?_ ?_;rotate_left
   ·intro w'
    go_simp;with_reducible rfl
   rotate_left
   ·simp only [Act.put,sa_,sb_,sc_,i64_w,i32_w]
    rfl
   refine pu_ (v:=?_) (a':=?_) 8 35 (bl_ 12 511) rfl rfl HT_.out ?_ ?_ ?_;rotate_left
   ·intro w'
    go_simp;with_reducible rfl
   rotate_left
   ·simp only [Act.put,sa_,sb_,sc_,i64_w,i32_w]
    rfl
   refine pu_ (v:=?_) (a':=?_) 10 8 (bl_ 12 1535) rfl rfl HT_.out ?_ ?_ ?_;rotate_left
   ·intro w'
    go_simp;with_reducible rfl
   rotate_left
   ·simp only [Act.put,sa_,sb_,sc_,i64_w,i32_w]
    rfl
   refine tk_ (v:=?_) (a':=?_) 9 36 (bl_ 12 2047) rfl rfl HT_.out HW_.out ?_ hHeld ?_ ?_;rotate_left
   ·rintro w' ⟨s0,s1⟩
    go_simp;with_reducible rfl
   rotate_left
   ·simp only [Act.put,sa_,sb_,sc_,i64_w,i32_w]
    rfl
   refine one_ (i:=11) (N:=none) (bl_ 12 4095) rfl rfl (one_of HT_.out (by kernel_rfl)) (by decide) (fun K hK => ?_);have hs31 : w29.cell? ⟨gb101,0,none⟩ = some (.int .i64 0):=(blk_cell BK101.out 0).trans rfl;have hfs31:=blk_frozen BK101.out 0;have hns31_1:=NB104_101.out;have hns31_2:=NB110_101.out;have hms31_1:=NB101_104.out;have hms31_2:=NB101_110.out;have hs32 : w29.cell? ⟨gb101,1,none⟩ = some (.int .i64 0):=(blk_cell BK101.out 1).trans rfl;have hfs32:=blk_frozen BK101.out 1;have hns32_1:=NB104_101.out;have hns32_2:=NB110_101.out;have hms32_1:=NB101_104.out;have hms32_2:=NB101_110.out;refine skip_ (w1:=?_) ?_ ?_ ?_ ?_;rotate_left
   ·rfl
   ·rfl
   ·go_simp
    rfl
   refine hK.out _ _ ⟨((cell_far (p:=⟨gb101,_,none⟩) NB110_101.out _).trans (((cell_far (p:=⟨gb101,_,none⟩) NB110_101.out _).trans (hHeld.1)))),((cell_far (p:=⟨gb101,_,none⟩) NB110_101.out _).trans (((cell_far (p:=⟨gb101,_,none⟩) NB110_101.out _).trans (hHeld.2))))⟩ (fun hHeld => ?_);clear hK K;refine done_ (done_of HT_.out (by kernel_rfl)) ?_;try go_wp2
   refine bodyPost_ret (results_tc rfl _ _ gb101 27 #[.int .i64 t108,.int .i64 t109] (0,0) _ rfl (by refine blk_mv ?_;refine blk_put (cs:=#[.int .i64 t108,.int .i64 0]) ?_ 1 _ rfl;refine blk_mv ?_;refine blk_put (cs:=#[.int .i64 0,.int .i64 0]) ?_ 0 _ rfl;refine blk_mv ?_;exact BK101.out) Try.underlying27 rfl (by kernel_rfl)) rfl ?_;exact ⟨by first|rfl|(simp [errW_none,errW_some] <;> rfl)|(simp [*,errW_none,errW_some] <;> rfl),bel_⟩
  ·rw [if_neg c17] at H
   have c17b0 : (t108 == 0 && (t109 == 0)) = false:=by simpa using c17
   (try (have c17b1 : decide (t108 = 0 && (t109 == 0)) = false:=by simpa using c17));(try (have c17b2 : (t108 == 0 && (t109 == 0)) = false:=by simpa using c17));(try (have c17b3 : ¬ (t108 = 0 && (t109 == 0)):=by simpa using c17));clear c17;simp only [Option.some.injEq,Prod.mk.injEq] at H;obtain ⟨rfl,rfl,rfl⟩:=H;go_enter Try.func32,Try.ntmps32;try go_wp2_with (first|((with_reducible refine gate_dst (N:=9) rfl ?_);(try (refine gate_guard (by rfl) ?_;dsimp only));refine box_event ?hg (N:=9) ?hd (cs:=#[.int .i64 0,.int .i64 0]) (t:=27) ?hr ?_;(case hd => rfl);(case hg => rfl);(case hr => first|(go_simp;done)|(go_simp;rfl));intro gb101 hg w33 hbox hb;have BK101:=Aside0.mk (hbox);have GW101:=Aside0.mk ((bs_ : w.heap.size ≤ gb101));have GE101:=Aside0.mk ((bs_ : w.heap.size ≤ gb101));replace HB:=Aside0.mk (below_step bel_ hb);clear hb hbox hg)|((with_reducible refine gate_callee (f:=28) rfl ?_);refine goesL_ (some 15) rfl rfl Try.func28 (by kernel_rfl) rfl #[.slice A0 l0.length c0,.int .i64 a1] rfl ln_ ?_;(with_reducible refine (threshold_Validate.calls k _ _ l0 a1 t102 t103 _ ?side1 ?side2 A5.out).mono ?_);(case side1 => first|exact (Kd.C_below HR0.out HB.out)|exact Kd.C_mv (Kd.C_below HR0.out HB.out));(case side2 => exact HC0.out);rintro e w34 ⟨rfl,hb⟩;refine ⟨_,rfl,?_⟩;replace BK101:=Aside0.mk (blk_below (blk_mv BK101.out) hb);replace HB:=Aside0.mk (below_step bel_ hb);(try clear hb);(try clear hb2);(try clear hk);(try clear hi))|((with_reducible refine gate_dst (N:=10) rfl ?_);(try (refine gate_guard (by rfl) ?_;dsimp only));refine box_event ?hg (N:=10) ?hd (cs:=#[.int .i64 0,.int .i64 0]) (t:=27) ?hr ?_;(case hd => rfl);(case hg => rfl);(case hr => first|(go_simp;done)|(go_simp;rfl));intro gb104 hg w35 hbox hb;have BK104:=Aside0.mk (hbox);have GW104:=Aside0.mk ((bs_ : w.heap.size ≤ gb104));have GE104:=Aside0.mk ((bs_ : w.heap.size ≤ gb104));replace HB:=Aside0.mk (below_step bel_ hb);have NB101_104:=Aside0.mk ((by rw [hg];exact Nat.ne_of_lt (blk_lt (g:=gb101) (o:=.cells #[.int .i64 0,.int .i64 0] 27 (0,0)) (blk_mv BK101.out)) : gb101 ≠ gb104));have NB104_101:=Aside0.mk ((by rw [hg];exact Nat.ne_of_gt (blk_lt (g:=gb101) (o:=.cells #[.int .i64 0,.int .i64 0] 27 (0,0)) (blk_mv BK101.out)) : gb104 ≠ gb101));replace BK101:=Aside0.mk (blk_below (blk_mv BK101.out) hb);clear hb hbox hg;have hnb36:=NB104_101.out;have hnc36:=NB101_104.out;have hcz37_0:=blk_c (v:=.int .i64 0) BK104.out 0 rfl;have hcz37_1:=blk_c (v:=.int .i64 0) BK104.out 1 rfl;have hfz37_0:=blk_frozen BK104.out 0;have hfz37_1:=blk_frozen BK104.out 1)|((with_reducible refine gate_callee (f:=21) rfl ?_);refine goesL_ (some 24) rfl rfl Try.func21 (by kernel_rfl) rfl #[.slice A0 l0.length c0,.slice A2 l2.length c2,.slice A3 l3.length c3] rfl ln_ ?_;(with_reducible refine (threshold_Signers.calls k _ _ l0 _ _ l2 _ _ l3 t105 t108 t109 _ ?side1 ?side2 ?side3 ?side4 ?side5 ?side6 A16.out).mono ?_);(case side1 => exact Kd.C_below HR0.out bel_);(case side2 => exact HC0.out);(case side3 => exact Kd.C_below HR2.out bel_);(case side4 => exact HC2.out);(case side5 => exact Kd.C_below HR3.out bel_);(case side6 => exact HC3.out);rintro e w38 ⟨v106,rfl,ho0,hb⟩;refine ⟨_,rfl,?_⟩;have HO107:=Aside0.mk (Kd.R_lower ho0 (below_size bel_));replace BK101:=Aside0.mk (blk_below (g:=gb101) (o:=.cells #[.int .i64 0,.int .i64 0] 27 (0,0)) (by refine blk_mv ?_;refine blk_far ?_ NB101_104.out _;refine blk_mv ?_;refine blk_far ?_ NB101_104.out _;refine blk_mv ?_;exact BK101.out) hb);replace BK104:=Aside0.mk (blk_below (g:=gb104) (o:=.cells #[.int .i64 t102,.int .i64 t103] 27 (0,0)) (by refine blk_mv ?_;refine blk_put (cs:=#[.int .i64 t102,.int .i64 0]) ?_ 1 _ rfl;refine blk_mv ?_;refine blk_put (cs:=#[.int .i64 0,.int .i64 0]) ?_ 0 _ rfl;refine blk_mv ?_;exact BK104.out) hb);replace HB:=Aside0.mk (below_step bel_ hb);(try clear hb);(try clear hb2);(try clear hk);(try clear hi);(try clear ho0))|((with_reducible refine gate_dst (N:=12) rfl ?_);(try (refine gate_guard (by rfl) ?_;dsimp only));refine box_event ?hg (N:=12) ?hd (cs:=#[.int .i64 0,.int .i64 0]) (t:=27) ?hr ?_;(case hd => rfl);(case hg => rfl);(case hr => first|(go_simp;done)|(go_simp;rfl));intro gb110 hg w39 hbox hb;have BK110:=Aside0.mk (hbox);have GW110:=Aside0.mk ((bs_ : w.heap.size ≤ gb110));have GE110:=Aside0.mk ((bs_ : w.heap.size ≤ gb110));replace HB:=Aside0.mk (below_step bel_ hb);have NB101_110:=Aside0.mk ((by rw [hg];exact Nat.ne_of_lt (blk_lt (g:=gb101) (o:=.cells #[.int .i64 0,.int .i64 0] 27 (0,0)) (blk_mv BK101.out)) : gb101 ≠ gb110));have NB110_101:=Aside0.mk ((by rw [hg];exact Nat.ne_of_gt (blk_lt (g:=gb101) (o:=.cells #[.int .i64 0,.int .i64 0] 27 (0,0)) (blk_mv BK101.out)) : gb110 ≠ gb101));replace BK101:=Aside0.mk (blk_below (blk_mv BK101.out) hb);have NB104_110:=Aside0.mk ((by rw [hg];exact Nat.ne_of_lt (blk_lt (g:=gb104) (o:=.cells #[.int .i64 t102,.int .i64 t103] 27 (0,0)) (blk_mv BK104.out)) : gb104 ≠ gb110));have NB110_104:=Aside0.mk ((by rw [hg];exact Nat.ne_of_gt (blk_lt (g:=gb104) (o:=.cells #[.int .i64 t102,.int .i64 t103] 27 (0,0)) (blk_mv BK104.out)) : gb110 ≠ gb104));replace BK104:=Aside0.mk (blk_below (blk_mv BK104.out) hb);clear hb hbox hg;have hnb40:=NB110_101.out;have hnc40:=NB101_110.out;have hnb41:=NB110_104.out;have hnc41:=NB104_110.out;have hcz42_0:=blk_c (v:=.int .i64 0) BK110.out 0 rfl;have hcz42_1:=blk_c (v:=.int .i64 0) BK110.out 1 rfl;have hfz42_0:=blk_frozen BK110.out 0;have hfz42_1:=blk_frozen BK110.out 1))
   have n0_ : Aside0 (((w39.setCell ⟨gb110,0,none⟩ (.int .i64 t108)).setCell ⟨gb110,1,none⟩ (.int .i64 t109)).heap[gb101]? = some (.cells #[.int .i64 0,.int .i64 0] 27 (0,0))):=⟨by refine blk_mv ?_;refine blk_far ?_ NB101_110.out _;refine blk_mv ?_;refine blk_far ?_ NB101_110.out _;refine blk_mv ?_;exact BK101.out⟩;have n1_ : Aside0 (((w39.setCell ⟨gb110,0,none⟩ (.int .i64 t108)).setCell ⟨gb110,1,none⟩ (.int .i64 t109)).heap[gb104]? = some (.cells #[.int .i64 t102,.int .i64 t103] 27 (0,0))):=⟨by refine blk_mv ?_;refine blk_far ?_ NB104_110.out _;refine blk_mv ?_;refine blk_far ?_ NB104_110.out _;refine blk_mv ?_;exact BK104.out⟩;have n2_ : Aside0 (((w39.setCell ⟨gb110,0,none⟩ (.int .i64 t108)).setCell ⟨gb110,1,none⟩ (.int .i64 t109)).heap[gb110]? = some (.cells #[.int .i64 t108,.int .i64 t109] 27 (0,0))):=⟨by refine blk_mv ?_;refine blk_put (cs:=#[.int .i64 t108,.int .i64 0]) ?_ 1 _ rfl;refine blk_mv ?_;refine blk_put (cs:=#[.int .i64 0,.int .i64 0]) ?_ 0 _ rfl;refine blk_mv ?_;exact BK110.out⟩;have n3_ : Aside0 (Below w.heap.size w ((w39.setCell ⟨gb110,0,none⟩ (.int .i64 t108)).setCell ⟨gb110,1,none⟩ (.int .i64 t109))):=⟨bel_⟩;(try clear BK101);(try clear BK104);(try clear BK110);(try clear HB);generalize ((w39.setCell ⟨gb110,0,none⟩ (.int .i64 t108)).setCell ⟨gb110,1,none⟩ (.int .i64 t109)) = w43 at n0_ n1_ n2_ n3_ ⊢;have BK101:=n0_;have BK104:=n1_;have BK110:=n2_;have HB:=n3_;clear n0_ n1_ n2_ n3_;replace BK101:=Aside0.mk (blk_drew BK101.out);replace BK104:=Aside0.mk (blk_drew BK104.out);replace BK110:=Aside0.mk (blk_drew BK110.out);replace HB:=Aside0.mk (below_drew1 HB.out);refine start_ (n:=12) (S:=fun w' => w'.cell? ⟨gb110,0,none⟩ = some (.int .i64 t108) ∧ w'.cell? ⟨gb110,1,none⟩ = some (.int .i64 t109)) (ds:=[]) (bl_ 12 0) (by kernel_rfl) rfl rfl ⟨(blk_cell BK110.out 0).trans rfl,(blk_cell BK110.out 1).trans rfl⟩ (fun hHeld => ?_);refine with_tabW threshold_Accept.tab5 threshold_Accept.bits5 (fun HT_ HW_ => ?_);generalize w43.drew = w44 at BK101 BK104 BK110 HB hHeld ⊢;refine pu_ (v:=?_) (a':=?_) 1 28 (bl_ 12 2) rfl rfl HT_.out ?_ ?_ ?_;rotate_left
   ·intro w'
    go_simp;with_reducible rfl
   rotate_left
   ·simp only [Act.put,sa_,sb_,sc_,i64_w,i32_w]
    rfl
   refine tk_ (v:=?_) (a':=?_) 0 27 (bl_ 12 3) rfl rfl HT_.out HW_.out ?_ hHeld ?_ ?_;rotate_left
   ·rintro w' ⟨s0,s1⟩
    go_simp;with_reducible rfl
   rotate_left
   ·simp only [Act.put,sa_,sb_,sc_,i64_w,i32_w]
    rfl
   refine pu_ (v:=?_) (a':=?_) 2 29 (bl_ 12 7) rfl rfl HT_.out ?_ ?_ ?_;rotate_left
   ·intro w'
    go_simp;with_reducible rfl
   rotate_left
   ·simp only [Act.put,sa_,sb_,sc_,i64_w,i32_w]
    rfl
   refine pu_ (v:=?_) (a':=?_) 3 30 (bl_ 12 15) rfl rfl HT_.out ?_ ?_ ?_;rotate_left
   ·intro w'
    go_simp;with_reducible rfl
   rotate_left
   ·simp only [Act.put,sa_,sb_,sc_,i64_w,i32_w]
    rfl
   refine pun_ (a':=?_) 4 31 (bl_ 12 31) rfl rfl HT_.out ?_ ?_;rotate_left
   ·simp only [Act.put,sa_,sb_,sc_,i64_w,i32_w]
    rfl
   refine pun_ (a':=?_) 5 32 (bl_ 12 63) rfl rfl HT_.out ?_ ?_;rotate_left
   ·simp only [Act.put,sa_,sb_,sc_,i64_w,i32_w]
    rfl
   refine pun_ (a':=?_) 6 33 (bl_ 12 127) rfl rfl HT_.out ?_ ?_;rotate_left
   ·simp only [Act.put,sa_,sb_,sc_,i64_w,i32_w]
    rfl
   refine pun_ (a':=?_) 7 34 (bl_ 12 255) rfl rfl HT_.out ?_ ?_;rotate_left
   ·simp only [Act.put,sa_,sb_,sc_,i64_w,i32_w]
    rfl
   refine pu_ (v:=?_) (a':=?_) 8 35 (bl_ 12 511) rfl rfl HT_.out ?_ ?_ ?_;rotate_left
   ·intro w'
    go_simp;with_reducible rfl
   rotate_left
   ·simp only [Act.put,sa_,sb_,sc_,i64_w,i32_w]
    rfl
   refine pu_ (v:=?_) (a':=?_) 10 8 (bl_ 12 1535) rfl rfl HT_.out ?_ ?_ ?_;rotate_left
   ·intro w'
    go_simp;with_reducible rfl
   rotate_left
   ·simp only [Act.put,sa_,sb_,sc_,i64_w,i32_w]
    rfl
   refine tk_ (v:=?_) (a':=?_) 9 36 (bl_ 12 2047) rfl rfl HT_.out HW_.out ?_ hHeld ?_ ?_;rotate_left
   ·rintro w' ⟨s0,s1⟩
    go_simp;with_reducible rfl
   rotate_left
   ·simp only [Act.put,sa_,sb_,sc_,i64_w,i32_w]
    rfl
   refine one_ (i:=11) (N:=none) (bl_ 12 4095) rfl rfl (one_of HT_.out (by kernel_rfl)) (by decide) (fun K hK => ?_);have hs45 : w44.cell? ⟨gb101,0,none⟩ = some (.int .i64 0):=(blk_cell BK101.out 0).trans rfl;have hfs45:=blk_frozen BK101.out 0;have hns45_1:=NB104_101.out;have hns45_2:=NB110_101.out;have hms45_1:=NB101_104.out;have hms45_2:=NB101_110.out;have hs46 : w44.cell? ⟨gb101,1,none⟩ = some (.int .i64 0):=(blk_cell BK101.out 1).trans rfl;have hfs46:=blk_frozen BK101.out 1;have hns46_1:=NB104_101.out;have hns46_2:=NB110_101.out;have hms46_1:=NB101_104.out;have hms46_2:=NB101_110.out;refine skip_ (w1:=?_) ?_ ?_ ?_ ?_;rotate_left
   ·rfl
   ·rfl
   ·go_simp
    rfl
   refine hK.out _ _ ⟨((cell_far (p:=⟨gb101,_,none⟩) NB110_101.out _).trans (((cell_far (p:=⟨gb101,_,none⟩) NB110_101.out _).trans (hHeld.1)))),((cell_far (p:=⟨gb101,_,none⟩) NB110_101.out _).trans (((cell_far (p:=⟨gb101,_,none⟩) NB110_101.out _).trans (hHeld.2))))⟩ (fun hHeld => ?_);clear hK K;refine done_ (done_of HT_.out (by kernel_rfl)) ?_;try go_wp2
   refine bodyPost_ret (results_tc rfl _ _ gb101 27 #[.int .i64 t108,.int .i64 t109] (0,0) _ rfl (by refine blk_mv ?_;refine blk_put (cs:=#[.int .i64 t108,.int .i64 0]) ?_ 1 _ rfl;refine blk_mv ?_;refine blk_put (cs:=#[.int .i64 0,.int .i64 0]) ?_ 0 _ rfl;refine blk_mv ?_;exact BK101.out) Try.underlying27 rfl (by kernel_rfl)) rfl ?_;exact ⟨by first|rfl|(simp [errW_none,errW_some] <;> rfl)|(simp [*,errW_none,errW_some] <;> rfl),bel_⟩

end Go.Proofs.Ytdelkdlegokbjaa.Fn
