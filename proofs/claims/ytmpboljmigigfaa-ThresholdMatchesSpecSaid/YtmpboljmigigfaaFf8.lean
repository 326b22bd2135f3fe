/- A function of the program as a plain Lean function, and the proof that the call comes to just what it says (written by wip/tools/xprint.py for this claim). Condition: the plain function has an answer. -/
import Derived.Test.YtmpboljmigigfaaFn0
import Derived.Test.YtmpboljmigigfaaFf25
import Derived.Test.YtmpboljmigigfaaFf26
import Derived.Test.YtmpboljmigigfaaFf27
import Derived.Test.YtmpboljmigigfaaFf28
import Derived.Test.YtmpboljmigigfaaFf29
import Derived.Test.YtmpboljmigigfaaFf30
import Derived.Test.YtmpboljmigigfaaFf31
import Derived.Test.YtmpboljmigigfaaFs0
import Derived.Test.YtmpboljmigigfaaWApart
import Derived.Test.YtmpboljmigigfaaWGuard
import Derived.Test.YtmpboljmigigfaaWKept
import Derived.Test.YtmpboljmigigfaaWLast
import Derived.Test.YtmpboljmigigfaaWMore
import Derived.Test.YtmpboljmigigfaaWN
import Derived.Test.YtmpboljmigigfaaWRepsOne
import Derived.Test.YtmpboljmigigfaaWTab
import Derived.Test.YtmpboljmigigfaaWWords
namespace Go.Proofs.Ytmpboljmigigfaa.Fn
open Go.RowKit Go.Proofs.YtmpboljmigigfaaW.PrintWords Go.Proofs.YtmpboljmigigfaaW.PrintLast Go.Proofs.YtmpboljmigigfaaW.PrintMore
attribute [local go_sem] max2_int min2_int max_two min_two max_three min_three max_four min_four   -- for this text's walks alone
set_option linter.unusedVariables false
set_option linter.unusedSimpArgs false

attribute [local go_sem high] eqA26
/-! ### changeforgelaw5_ThresholdMatchesSpec: function 8 -/
mutual
def changeforgelaw5_ThresholdMatchesSpec.j0 : Nat → List Int → Int → List Int → List (S54) → Bool → Int → Int → Option (Bool)
 | 0,_,_,_,_,_,_,_ => none
 | k + 1,x0,x1,x2,x3,x25,x104000,x104001 => if x25 = true then (none) else ((changeforgeref5_SignersFault.f k x0 x2 x3).bind fun bt107 => ((threshold_Signers.f k x0 x2 x3).bind fun bt110 => (if (!(bt110.2.1 == bt107.1) || (!(bt110.2.2 == bt107.2))) = true then (changeforgelaw5_ThresholdMatchesSpec.j1 k x0 x1 x2 x3 bt110.1 true x104000 x104001 bt107.1 bt107.2) else (if bt107.1 = 0 then ((changeforgeref5_Signers.f k x0 x2 x3).bind fun t116 => ((changeforgeref5_Ints.f k bt110.1 t116).bind fun t119 => (changeforgelaw5_ThresholdMatchesSpec.j1 k x0 x1 x2 x3 bt110.1 (!t119) x104000 x104001 bt107.1 bt107.2))) else (if (bt110.1.length : Int) > 0 then (changeforgelaw5_ThresholdMatchesSpec.j1 k x0 x1 x2 x3 bt110.1 true x104000 x104001 bt107.1 bt107.2) else (changeforgelaw5_ThresholdMatchesSpec.j1 k x0 x1 x2 x3 bt110.1 false x104000 x104001 bt107.1 bt107.2))))))
def changeforgelaw5_ThresholdMatchesSpec.j1 : Nat → List Int → Int → List Int → List (S54) → List Int → Bool → Int → Int → Int → Int → Option (Bool)
 | 0,_,_,_,_,_,_,_,_,_,_ => none
 | k + 1,x0,x1,x2,x3,x11,x63,x104000,x104001,x110000,x110001 => if x63 = true then (none) else (if x104000 = 0 then ((threshold_Accept.f k x0 x1 x2 x3).bind fun bt120 => (if (bt120.2.1 == x110000 && (bt120.2.2 == x110001)) = true then (if x110000 = 0 then (some (bt120.1 == (decide ((x11.length : Int) ≥ x1)))) else (some (bt120.1 == false))) else (none))) else ((threshold_Accept.f k x0 x1 x2 x3).bind fun bt123 => (if (bt123.2.1 == x104000 && (bt123.2.2 == x104001)) = true then (some (bt123.1 == false)) else (none))))
end
def changeforgelaw5_ThresholdMatchesSpec.f (k : Nat) (l0 : List Int) (a1 : Int) (l2 : List Int) (l3 : List (S54)) : Option (Bool):=(changeforgeref5_ThresholdFault.f k l0 a1).bind fun bt101 => ((changeforgelaw5_accepts.f).bind fun t104 => (if t104 = true then ((threshold_Validate.f k l0 a1).bind fun bt105 => (changeforgelaw5_ThresholdMatchesSpec.j0 k l0 a1 l2 l3 (!(bt105.1 == bt101.1) || (!(bt105.2 == bt101.2))) bt101.1 bt101.2)) else (changeforgelaw5_ThresholdMatchesSpec.j0 k l0 a1 l2 l3 true bt101.1 bt101.2)))
theorem changeforgelaw5_ThresholdMatchesSpec.mono_l : ∀ k,(∀ y0 y1 y2 y3 y4 y5 y6,LeO (changeforgelaw5_ThresholdMatchesSpec.j0 k y0 y1 y2 y3 y4 y5 y6) (changeforgelaw5_ThresholdMatchesSpec.j0 (k + 1) y0 y1 y2 y3 y4 y5 y6)) ∧ (∀ y0 y1 y2 y3 y4 y5 y6 y7 y8 y9,LeO (changeforgelaw5_ThresholdMatchesSpec.j1 k y0 y1 y2 y3 y4 y5 y6 y7 y8 y9) (changeforgelaw5_ThresholdMatchesSpec.j1 (k + 1) y0 y1 y2 y3 y4 y5 y6 y7 y8 y9))
 | 0 => ⟨fun _ _ _ _ _ _ _ r h => by simp [changeforgelaw5_ThresholdMatchesSpec.j0] at h,fun _ _ _ _ _ _ _ _ _ _ r h => by simp [changeforgelaw5_ThresholdMatchesSpec.j1] at h⟩
 | k + 1 => by
  obtain ⟨ih0,ih1⟩:=changeforgelaw5_ThresholdMatchesSpec.mono_l k
  refine ⟨?_,?_⟩
  ·intro y0 y1 y2 y3 y4 y5 y6
   unfold changeforgelaw5_ThresholdMatchesSpec.j0
   repeat' first
   | (with_reducible exact ih0 _ _ _ _ _ _ _)
   | (with_reducible exact ih1 _ _ _ _ _ _ _ _ _ _)
   | (with_reducible exact changeforgeref5_Ints.mono _ _ _)
   | (with_reducible exact changeforgeref5_Signers.mono _ _ _ _)
   | (with_reducible exact changeforgeref5_SignersFault.mono _ _ _ _)
   | (with_reducible exact changeforgeref5_ThresholdFault.mono _ _ _)
   | (with_reducible exact threshold_Accept.mono _ _ _ _ _)
   | (with_reducible exact threshold_Signers.mono _ _ _ _)
   | (with_reducible exact threshold_Validate.mono _ _ _)
   | (with_reducible exact LeO.refl _)
   | (with_reducible exact LeO.none _)
   | (with_reducible refine LeO.ite ?_ ?_)
   | (with_reducible refine LeO.bind ?_ (fun _ => ?_))
   | exact ih0 _ _ _ _ _ _ _
   | exact ih1 _ _ _ _ _ _ _ _ _ _
   | exact changeforgeref5_Ints.mono _ _ _
   | exact changeforgeref5_Signers.mono _ _ _ _
   | exact changeforgeref5_SignersFault.mono _ _ _ _
   | exact changeforgeref5_ThresholdFault.mono _ _ _
   | exact threshold_Accept.mono _ _ _ _ _
   | exact threshold_Signers.mono _ _ _ _
   | exact threshold_Validate.mono _ _ _
   | exact LeO.none _
   | refine LeO.ite ?_ ?_
   | refine LeO.bind ?_ (fun _ => ?_)
  ·intro y0 y1 y2 y3 y4 y5 y6 y7 y8 y9
   unfold changeforgelaw5_ThresholdMatchesSpec.j1
   repeat' first
   | (with_reducible exact ih0 _ _ _ _ _ _ _)
   | (with_reducible exact ih1 _ _ _ _ _ _ _ _ _ _)
   | (with_reducible exact changeforgeref5_Ints.mono _ _ _)
   | (with_reducible exact changeforgeref5_Signers.mono _ _ _ _)
   | (with_reducible exact changeforgeref5_SignersFault.mono _ _ _ _)
   | (with_reducible exact changeforgeref5_ThresholdFault.mono _ _ _)
   | (with_reducible exact threshold_Accept.mono _ _ _ _ _)
   | (with_reducible exact threshold_Signers.mono _ _ _ _)
   | (with_reducible exact threshold_Validate.mono _ _ _)
   | (with_reducible exact LeO.refl _)
   | (with_reducible exact LeO.none _)
   | (with_reducible refine LeO.ite ?_ ?_)
   | (with_reducible refine LeO.bind ?_ (fun _ => ?_))
   | exact ih0 _ _ _ _ _ _ _
   | exact ih1 _ _ _ _ _ _ _ _ _ _
   | exact changeforgeref5_Ints.mono _ _ _
   | exact changeforgeref5_Signers.mono _ _ _ _
   | exact changeforgeref5_SignersFault.mono _ _ _ _
   | exact changeforgeref5_ThresholdFault.mono _ _ _
   | exact threshold_Accept.mono _ _ _ _ _
   | exact threshold_Signers.mono _ _ _ _
   | exact threshold_Validate.mono _ _ _
   | exact LeO.none _
   | refine LeO.ite ?_ ?_
   | refine LeO.bind ?_ (fun _ => ?_)
theorem changeforgelaw5_ThresholdMatchesSpec.mono : ∀ a0 a1 a2 a3 k,LeO (changeforgelaw5_ThresholdMatchesSpec.f k a0 a1 a2 a3) (changeforgelaw5_ThresholdMatchesSpec.f (k + 1) a0 a1 a2 a3):=by
 intro a0 a1 a2 a3 k
 obtain ⟨ih0,ih1⟩:=changeforgelaw5_ThresholdMatchesSpec.mono_l k
 unfold changeforgelaw5_ThresholdMatchesSpec.f
 repeat' first
   | (with_reducible exact ih0 _ _ _ _ _ _ _)
   | (with_reducible exact ih1 _ _ _ _ _ _ _ _ _ _)
   | (with_reducible exact changeforgeref5_Ints.mono _ _ _)
   | (with_reducible exact changeforgeref5_Signers.mono _ _ _ _)
   | (with_reducible exact changeforgeref5_SignersFault.mono _ _ _ _)
   | (with_reducible exact changeforgeref5_ThresholdFault.mono _ _ _)
   | (with_reducible exact threshold_Accept.mono _ _ _ _ _)
   | (with_reducible exact threshold_Signers.mono _ _ _ _)
   | (with_reducible exact threshold_Validate.mono _ _ _)
   | (with_reducible exact LeO.refl _)
   | (with_reducible exact LeO.none _)
   | (with_reducible refine LeO.ite ?_ ?_)
   | (with_reducible refine LeO.bind ?_ (fun _ => ?_))
   | exact ih0 _ _ _ _ _ _ _
   | exact ih1 _ _ _ _ _ _ _ _ _ _
   | exact changeforgeref5_Ints.mono _ _ _
   | exact changeforgeref5_Signers.mono _ _ _ _
   | exact changeforgeref5_SignersFault.mono _ _ _ _
   | exact changeforgeref5_ThresholdFault.mono _ _ _
   | exact threshold_Accept.mono _ _ _ _ _
   | exact threshold_Signers.mono _ _ _ _
   | exact threshold_Validate.mono _ _ _
   | exact LeO.none _
   | refine LeO.ite ?_ ?_
   | refine LeO.bind ?_ (fun _ => ?_)
def changeforgelaw5_ThresholdMatchesSpec.T2 : Bool × List (List Nat × List Nat):=(true,[([],[]),([0],[0]),([1,0],[1]),([2],[2]),([2],[2]),([3,4,2,2],[2,3,4]),([2],[2]),([5,6,2],[2,5,6]),([2,7],[2,7])])
def changeforgelaw5_ThresholdMatchesSpec.B2 : List Nat:=[0,1,3,7,7,31,7,127,255]
theorem changeforgelaw5_ThresholdMatchesSpec.tab2 : rtab .any (opsOf Try.f8 2) = changeforgelaw5_ThresholdMatchesSpec.T2:=by kernel_rfl
theorem changeforgelaw5_ThresholdMatchesSpec.bits2 : waitsOk changeforgelaw5_ThresholdMatchesSpec.T2.2 changeforgelaw5_ThresholdMatchesSpec.B2 = true:=by kernel_rfl
set_option maxHeartbeats 8000000 in
set_option maxRecDepth 100000 in
theorem changeforgelaw5_ThresholdMatchesSpec.calls (k : Nat) (A0 : Option Addr) (c0 : Nat) (l0 : List Int) (a1 : Int) (A2 : Option Addr) (c2 : Nat) (l2 : List Int) (A3 : Option Addr) (c3 : Nat) (l3 : List (S54)) (r : Bool) (w : World) (hr0 : Kd.C (Kd.int .i64) w A0 l0.length l0) (hc0 : l0.length ≤ c0) (hr2 : Kd.C (Kd.int .u8) w A2 l2.length l2) (hc2 : l2.length ≤ c2) (hr3 : Kd.C k54 w A3 l3.length l3) (hc3 : l3.length ≤ c3) (h : changeforgelaw5_ThresholdMatchesSpec.f k l0 a1 l2 l3 = some r) :
  Calls Try.prog 8 #[.slice A0 l0.length c0,.int .i64 a1,.slice A2 l2.length c2,.slice A3 l3.length c3] w fun e w' => e = .returned (.bool r) ∧ Below w.heap.size w w':=by
 have hu26:=Try.underlying26
 have HR0:=Aside0.mk hr0
 have HC0:=Aside0.mk hc0
 clear hr0 hc0
 have HR2:=Aside0.mk hr2
 have HC2:=Aside0.mk hc2
 clear hr2 hc2
 have HR3:=Aside0.mk hr3
 have HC3:=Aside0.mk hc3
 clear hr3 hc3
 have HB:=Aside0.mk (Below.refl w.heap.size w)
 have H : ((changeforgeref5_ThresholdFault.f k l0 a1).bind fun bt101 => ((changeforgelaw5_accepts.f).bind fun t104 => (if t104 = true then ((threshold_Validate.f k l0 a1).bind fun bt105 => (changeforgelaw5_ThresholdMatchesSpec.j0 k l0 a1 l2 l3 (!(bt105.1 == bt101.1) || (!(bt105.2 == bt101.2))) bt101.1 bt101.2)) else (changeforgelaw5_ThresholdMatchesSpec.j0 k l0 a1 l2 l3 true bt101.1 bt101.2)))) = some r:=h
 clear h
 replace H:=Option.bind_eq_some_iff.mp H
 obtain ⟨⟨t101,t102⟩,A50,H⟩:=H
 replace H : ((changeforgelaw5_accepts.f).bind fun t104 => (if t104 = true then ((threshold_Validate.f k l0 a1).bind fun bt105 => (changeforgelaw5_ThresholdMatchesSpec.j0 k l0 a1 l2 l3 (!(bt105.1 == t101) || (!(bt105.2 == t102))) t101 t102)) else (changeforgelaw5_ThresholdMatchesSpec.j0 k l0 a1 l2 l3 true t101 t102))) = some r:=H
 have A5:=Aside0.mk A50
 clear A50
 have HC6:=Aside0.mk H
 clear H
 go_enter Try.func8,Try.ntmps8
 go_upto_region 2 with (first|((with_reducible refine gate_callee (f:=25) rfl ?_);refine goesL_ (some 16) rfl rfl Try.func25 (by kernel_rfl) rfl #[.slice A0 l0.length c0,.int .i64 a1] rfl (by (try simp only [List.map_toArray,List.map_cons,List.map_nil]);first|done|rfl|(simp only [List.length_drop,List.length_take];rfl)) ?_;(with_reducible refine (changeforgeref5_ThresholdFault.calls k _ _ l0 a1 t101 t102 _ ?side1 ?side2 A5.out).mono ?_);(case side1 => repeat (first|exact HR0.out|(with_reducible refine Kd.C_alloc ?_ _)|(with_reducible refine Kd.C_drewN ?_ _)|(with_reducible refine Kd.C_drew ?_)));(case side2 => exact HC0.out);rintro e w7 ⟨rfl,hb⟩;refine ⟨_,rfl,?_⟩;have n0_:=Aside0.mk (below_step (by repeat (first|(with_reducible first|exact HB.out|apply below_alloc|apply pw_below_drewN|apply below_drew1)|exact HB.out)) hb);clear HB;have HB:=n0_;clear n0_;(try clear hb);(try clear hb2);(try clear hk);(try clear hi))|((with_reducible refine gate_dst (N:=9) rfl ?_);(try (refine gate_guard (by rfl) ?_;dsimp only));refine box_event ?hg (N:=9) ?hd (cs:=#[.int .i64 0,.int .i64 0]) (t:=26) ?hr ?_;(case hd => rfl);(case hg => rfl);(case hr => first|(go_simp;done)|(go_simp;rfl));intro gb103 hg w8 hbox hb;have n0_:=Aside0.mk (below_step (by repeat (first|(with_reducible first|exact HB.out|apply below_alloc|apply pw_below_drewN|apply below_drew1)|exact HB.out)) hb);have n1_:=Aside0.mk (hbox);have n2_:=Aside0.mk ((by rw [hg];exact (below_size (by repeat (first|(with_reducible first|exact HB.out|apply below_alloc|apply pw_below_drewN|apply below_drew1)|exact HB.out))) : w.heap.size ≤ gb103));have n3_:=Aside0.mk ((by rw [hg];exact (below_size (by repeat (first|(with_reducible first|exact HB.out|apply below_alloc|apply pw_below_drewN|apply below_drew1)|exact HB.out))) : w.heap.size ≤ gb103));clear HB;have HB:=n0_;have BK103:=n1_;have GW103:=n2_;have GE103:=n3_;clear n0_ n1_ n2_ n3_;clear hb hbox hg;have hcz9_0 : w8.cell? ⟨gb103,0,none⟩ = some (.int .i64 0):=(blk_cell BK103.out 0).trans rfl;have hcz9_1 : w8.cell? ⟨gb103,1,none⟩ = some (.int .i64 0):=(blk_cell BK103.out 1).trans rfl;have hfz9_0:=blk_frozen BK103.out 0;have hfz9_1:=blk_frozen BK103.out 1))
 (try simp only [Act.put,List.setIfInBounds_toArray,List.set_cons_zero,List.set_cons_succ])
 go_cut [25] (fun v25 wc => ∃ (kq : Nat) (x25_5 : Bool),v25 = .bool x25_5 ∧ Aside0 (changeforgelaw5_ThresholdMatchesSpec.j0 kq l0 a1 l2 l3 x25_5 t101 t102 = some r) ∧ Aside0 (kq ≤ k) ∧ Aside0 (wc.heap[gb103]? = some (.cells #[.int .i64 t101,.int .i64 t102] 26 (0,0))) ∧ Aside0 (Below w.heap.size w wc))
 case first =>
  have H:=HC6.out
  clear HC6
  replace H:=Option.bind_eq_some_iff.mp H
  obtain ⟨t104,A100,H⟩:=H
  replace H : (if t104 = true then ((threshold_Validate.f k l0 a1).bind fun bt105 => (changeforgelaw5_ThresholdMatchesSpec.j0 k l0 a1 l2 l3 (!(bt105.1 == t101) || (!(bt105.2 == t102))) t101 t102)) else (changeforgelaw5_ThresholdMatchesSpec.j0 k l0 a1 l2 l3 true t101 t102)) = some r:=H
  have A10:=Aside0.mk A100
  clear A100
  by_cases c11 : t104 = true
  ·subst c11
   have H1 : ((threshold_Validate.f k l0 a1).bind fun bt105 => (changeforgelaw5_ThresholdMatchesSpec.j0 k l0 a1 l2 l3 (!(bt105.1 == t101) || (!(bt105.2 == t102))) t101 t102)) = some r:=by rw [if_pos rfl] at H;exact H
   clear H
   have H:=H1
   clear H1
   replace H:=Option.bind_eq_some_iff.mp H
   obtain ⟨⟨t105,t106⟩,A120,H⟩:=H
   replace H : (changeforgelaw5_ThresholdMatchesSpec.j0 k l0 a1 l2 l3 (!(t105 == t101) || (!(t106 == t102))) t101 t102) = some r:=H
   have A12:=Aside0.mk A120
   clear A120
   have H':=Aside0.mk H
   clear H
   try go_wp2
   have n0_ : Aside0 (((w8.setCell ⟨gb103,0,none⟩ (.int .i64 t101)).setCell ⟨gb103,1,none⟩ (.int .i64 t102)).heap[gb103]? = some (.cells #[.int .i64 t101,.int .i64 t102] 26 (0,0))):=⟨by (with_reducible repeat (first|refine blk_drewN ?_ _|refine blk_drew ?_|refine blk_alloc ?_ _));refine blk_put (cs:=#[.int .i64 t101,.int .i64 0]) ?_ 1 _ rfl;(with_reducible repeat (first|refine blk_drewN ?_ _|refine blk_drew ?_|refine blk_alloc ?_ _));refine blk_put (cs:=#[.int .i64 0,.int .i64 0]) ?_ 0 _ rfl;(with_reducible repeat (first|refine blk_drewN ?_ _|refine blk_drew ?_|refine blk_alloc ?_ _));exact BK103.out⟩
   have n1_ : Aside0 (Below w.heap.size w ((w8.setCell ⟨gb103,0,none⟩ (.int .i64 t101)).setCell ⟨gb103,1,none⟩ (.int .i64 t102))):=⟨by repeat (first|(with_reducible first|exact HB.out|apply below_alloc|apply pw_below_drewN|apply below_drew1|refine below_set ?_ GE103.out)|exact HB.out)⟩
   (try clear BK103)
   (try clear HB)
   generalize ((w8.setCell ⟨gb103,0,none⟩ (.int .i64 t101)).setCell ⟨gb103,1,none⟩ (.int .i64 t102)) = w13 at n0_ n1_ ⊢
   have BK103:=n0_
   have HB:=n1_
   clear n0_ n1_
   have n0_:=Aside0.mk (blk_drew BK103.out)
   have n1_:=Aside0.mk (below_drew1 HB.out)
   clear BK103
   clear HB
   have BK103:=n0_
   have HB:=n1_
   clear n0_ n1_
   refine start_ (n:=9) (S:=fun w' => w'.cell? ⟨gb103,0,none⟩ = some (.int .i64 t101) ∧ w'.cell? ⟨gb103,1,none⟩ = some (.int .i64 t102)) (ds:=[]) #[false,false,false,false,false,false,false,false,false] (by kernel_rfl) rfl rfl ⟨(blk_cell BK103.out 0).trans rfl,(blk_cell BK103.out 1).trans rfl⟩ (fun hHeld => ?_);refine with_tabW changeforgelaw5_ThresholdMatchesSpec.tab2 changeforgelaw5_ThresholdMatchesSpec.bits2 (fun HT_ HW_ => ?_)
   generalize w13.drew = w14 at BK103 HB hHeld ⊢
   refine one_ (i:=0) (N:=some 17) #[true,false,false,false,false,false,false,false,false] rfl rfl (one_of HT_.out (by kernel_rfl)) (by decide) (fun K hK => ?_)
   refine goes_ Try.func26 (by kernel_rfl) rfl #[] (by rfl) rfl rfl (by (try simp only [List.map_toArray,List.map_cons,List.map_nil]);first|done|rfl|(simp only [List.length_drop,List.length_take];rfl)) ?_
   with_reducible refine (changeforgelaw5_accepts.calls  true _ A10.out).mono ?_
   rintro e w15 ⟨rfl,hb⟩
   refine ⟨_,rfl,?_⟩
   have n0_:=Aside0.mk (blk_below (g:=gb103) (o:=.cells #[.int .i64 t101,.int .i64 t102] 26 (0,0)) (by (with_reducible repeat (first|refine blk_drewN ?_ _|refine blk_drew ?_|refine blk_alloc ?_ _));exact BK103.out) hb)
   have n1_:=Aside0.mk (below_step (by repeat (first|(with_reducible first|exact HB.out|apply below_alloc|apply pw_below_drewN|apply below_drew1|refine below_set ?_ GE103.out)|exact HB.out)) hb)
   clear BK103
   clear HB
   have BK103:=n0_
   have HB:=n1_
   clear n0_ n1_
   (try clear hb)
   (try clear hb2)
   (try clear hk)
   (try clear hi)
   refine hK.out _ _ ⟨(blk_cell BK103.out 0).trans rfl,(blk_cell BK103.out 1).trans rfl⟩ (fun hHeld => ?_)
   clear hK K
   refine norm_ (a':=?_) ?_ ?_
   rotate_left
   ·show Act.put _ (some 17) _ = _
    simp only [Act.put,List.setIfInBounds_toArray,List.set_cons_zero,List.set_cons_succ,i64_w,i32_w]
    rfl
   refine pure_ (i:=1) (N:=some 18) (v:=?_) (a':=?_) #[true,true,false,false,false,false,false,false,false] rfl rfl (any_of HT_.out (by kernel_rfl)) (fun _ _ _ h => h) (Or.inl ⟨by rfl,?_⟩) ?_ ?_
   rotate_left
   ·intro w'
    go_simp
    with_reducible rfl
   rotate_left
   ·simp only [Act.put,List.setIfInBounds_toArray,List.set_cons_zero,List.set_cons_succ,i64_w,i32_w]
    rfl
   refine pure_ (i:=2) (N:=some 19) (v:=?_) (a':=?_) #[true,true,true,false,false,false,false,false,false] rfl rfl (any_of HT_.out (by kernel_rfl)) (fun _ _ _ h => h) (Or.inl ⟨by rfl,?_⟩) ?_ ?_
   rotate_left
   ·intro w'
    go_simp
    with_reducible rfl
   rotate_left
   ·simp only [Act.put,List.setIfInBounds_toArray,List.set_cons_zero,List.set_cons_succ,i64_w,i32_w]
    rfl
   refine pure_ (i:=3) (N:=some 20) (v:=?_) (a':=?_) #[true,true,true,true,false,false,false,false,false] rfl rfl (any_of HT_.out (by kernel_rfl)) (fun _ _ _ h => h) (Or.inl ⟨by rfl,?_⟩) ?_ ?_
   rotate_left
   ·intro w'
    go_simp
    with_reducible rfl
   rotate_left
   ·simp only [Act.put,List.setIfInBounds_toArray,List.set_cons_zero,List.set_cons_succ,i64_w,i32_w]
    rfl
   refine pure_ (i:=4) (N:=some 21) (v:=?_) (a':=?_) #[true,true,true,true,true,false,false,false,false] rfl rfl (any_of HT_.out (by kernel_rfl)) (fun _ _ _ h => h) (Or.inl ⟨by rfl,?_⟩) ?_ ?_
   rotate_left
   ·intro w'
    go_simp
    with_reducible rfl
   rotate_left
   ·simp only [Act.put,List.setIfInBounds_toArray,List.set_cons_zero,List.set_cons_succ,i64_w,i32_w]
    rfl
   refine take_ (i:=6) (N:=some 23) (v:=?_) (a':=?_) #[true,true,true,true,true,false,true,false,false] rfl rfl (take_ofW HT_.out HW_.out (by kernel_rfl)) (fun _ _ _ h => h) (Or.inl ⟨by rfl,?_⟩) hHeld ?_ ?_
   rotate_left
   ·rintro w' ⟨s0,s1⟩
    go_simp
    with_reducible rfl
   rotate_left
   ·simp only [Act.put,List.setIfInBounds_toArray,List.set_cons_zero,List.set_cons_succ,i64_w,i32_w]
    rfl
   refine one_ (i:=5) (N:=some 22) #[true,true,true,true,true,true,true,false,false] rfl rfl (one_of HT_.out (by kernel_rfl)) (by decide) (fun K hK => ?_)
   refine goes_ Try.func27 (by kernel_rfl) rfl #[.slice A0 l0.length c0,.int .i64 a1] (by rfl) rfl rfl (by (try simp only [List.map_toArray,List.map_cons,List.map_nil]);first|done|rfl|(simp only [List.length_drop,List.length_take];rfl)) ?_
   with_reducible refine (threshold_Validate.calls k _ _ l0 a1 t105 t106 _ ?side1 ?side2 A12.out).mono ?_
   (case side1 => repeat (first|exact (Kd.C_below HR0.out HB.out)|(with_reducible refine Kd.C_alloc ?_ _)|(with_reducible refine Kd.C_drewN ?_ _)|(with_reducible refine Kd.C_drew ?_)))
   (case side2 => exact HC0.out)
   rintro e w16 ⟨rfl,hb⟩
   refine ⟨_,rfl,?_⟩
   have n0_:=Aside0.mk (blk_below (g:=gb103) (o:=.cells #[.int .i64 t101,.int .i64 t102] 26 (0,0)) (by (with_reducible repeat (first|refine blk_drewN ?_ _|refine blk_drew ?_|refine blk_alloc ?_ _));exact BK103.out) hb)
   have n1_:=Aside0.mk (below_step (by repeat (first|(with_reducible first|exact HB.out|apply below_alloc|apply pw_below_drewN|apply below_drew1|refine below_set ?_ GE103.out)|exact HB.out)) hb)
   clear BK103
   clear HB
   have BK103:=n0_
   have HB:=n1_
   clear n0_ n1_
   (try clear hb)
   (try clear hb2)
   (try clear hk)
   (try clear hi)
   refine hK.out _ _ ⟨(blk_cell BK103.out 0).trans rfl,(blk_cell BK103.out 1).trans rfl⟩ (fun hHeld => ?_)
   clear hK K
   refine norm_ (a':=?_) ?_ ?_
   rotate_left
   ·show Act.put _ (some 22) _ = _
    simp only [Act.put,List.setIfInBounds_toArray,List.set_cons_zero,List.set_cons_succ,i64_w,i32_w]
    rfl
   refine pure_ (i:=7) (N:=some 24) (v:=?_) (a':=?_) #[true,true,true,true,true,true,true,true,false] rfl rfl (any_of HT_.out (by kernel_rfl)) (fun _ _ _ h => h) (Or.inl ⟨by rfl,?_⟩) ?_ ?_
   rotate_left
   ·intro w'
    go_simp
    with_reducible rfl
   rotate_left
   ·simp only [Act.put,List.setIfInBounds_toArray,List.set_cons_zero,List.set_cons_succ,i64_w,i32_w]
    rfl
   refine pure_ (i:=8) (N:=some 25) (v:=?_) (a':=?_) #[true,true,true,true,true,true,true,true,true] rfl rfl (any_of HT_.out (by kernel_rfl)) (fun _ _ _ h => h) (Or.inl ⟨by rfl,?_⟩) ?_ ?_
   rotate_left
   ·intro w'
    go_simp
    with_reducible rfl
   rotate_left
   ·simp only [Act.put,List.setIfInBounds_toArray,List.set_cons_zero,List.set_cons_succ,i64_w,i32_w]
    rfl
   refine done_ (done_of HT_.out (by kernel_rfl)) ?_
   try go_wp2
   go_meet
   case rel => exact ⟨_,((!(t105 == t101) || (!(t106 == t102)))),(by first|rfl|(simp;done)|(simp only [IntWalk.i64_left];done)|(simp [*];done)),H',⟨by first|omega|exact Nat.le_refl _⟩,⟨by (with_reducible repeat (first|refine blk_drewN ?_ _|refine blk_drew ?_|refine blk_alloc ?_ _));exact BK103.out⟩,⟨by repeat (first|(with_reducible first|exact HB.out|apply below_alloc|apply pw_below_drewN|apply below_drew1|refine below_set ?_ GE103.out)|exact HB.out)⟩⟩
  ·replace c11:=Bool.eq_false_iff.mpr c11
   subst c11
   have H1 : (changeforgelaw5_ThresholdMatchesSpec.j0 k l0 a1 l2 l3 true t101 t102) = some r:=by rw [if_neg (show ¬ (false = true) by decide)] at H;exact H
   clear H
   have H:=H1
   clear H1
   have H':=Aside0.mk H
   clear H
   try go_wp2
   have n0_ : Aside0 (((w8.setCell ⟨gb103,0,none⟩ (.int .i64 t101)).setCell ⟨gb103,1,none⟩ (.int .i64 t102)).heap[gb103]? = some (.cells #[.int .i64 t101,.int .i64 t102] 26 (0,0))):=⟨by (with_reducible repeat (first|refine blk_drewN ?_ _|refine blk_drew ?_|refine blk_alloc ?_ _));refine blk_put (cs:=#[.int .i64 t101,.int .i64 0]) ?_ 1 _ rfl;(with_reducible repeat (first|refine blk_drewN ?_ _|refine blk_drew ?_|refine blk_alloc ?_ _));refine blk_put (cs:=#[.int .i64 0,.int .i64 0]) ?_ 0 _ rfl;(with_reducible repeat (first|refine blk_drewN ?_ _|refine blk_drew ?_|refine blk_alloc ?_ _));exact BK103.out⟩
   have n1_ : Aside0 (Below w.heap.size w ((w8.setCell ⟨gb103,0,none⟩ (.int .i64 t101)).setCell ⟨gb103,1,none⟩ (.int .i64 t102))):=⟨by repeat (first|(with_reducible first|exact HB.out|apply below_alloc|apply pw_below_drewN|apply below_drew1|refine below_set ?_ GE103.out)|exact HB.out)⟩
   (try clear BK103)
   (try clear HB)
   generalize ((w8.setCell ⟨gb103,0,none⟩ (.int .i64 t101)).setCell ⟨gb103,1,none⟩ (.int .i64 t102)) = w17 at n0_ n1_ ⊢
   have BK103:=n0_
   have HB:=n1_
   clear n0_ n1_
   have n0_:=Aside0.mk (blk_drew BK103.out)
   have n1_:=Aside0.mk (below_drew1 HB.out)
   clear BK103
   clear HB
   have BK103:=n0_
   have HB:=n1_
   clear n0_ n1_
   refine start_ (n:=9) (S:=fun w' => True) (ds:=[]) #[false,false,false,false,false,false,false,false,false] (by kernel_rfl) rfl rfl trivial (fun hHeld => ?_);refine with_tabW changeforgelaw5_ThresholdMatchesSpec.tab2 changeforgelaw5_ThresholdMatchesSpec.bits2 (fun HT_ HW_ => ?_)
   generalize w17.drew = w18 at BK103 HB hHeld ⊢
   refine one_ (i:=0) (N:=some 17) #[true,false,false,false,false,false,false,false,false] rfl rfl (one_of HT_.out (by kernel_rfl)) (by decide) (fun K hK => ?_)
   refine goes_ Try.func26 (by kernel_rfl) rfl #[] (by rfl) rfl rfl (by (try simp only [List.map_toArray,List.map_cons,List.map_nil]);first|done|rfl|(simp only [List.length_drop,List.length_take];rfl)) ?_
   with_reducible refine (changeforgelaw5_accepts.calls  false _ A10.out).mono ?_
   rintro e w19 ⟨rfl,hb⟩
   refine ⟨_,rfl,?_⟩
   have n0_:=Aside0.mk (blk_below (g:=gb103) (o:=.cells #[.int .i64 t101,.int .i64 t102] 26 (0,0)) (by (with_reducible repeat (first|refine blk_drewN ?_ _|refine blk_drew ?_|refine blk_alloc ?_ _));exact BK103.out) hb)
   have n1_:=Aside0.mk (below_step (by repeat (first|(with_reducible first|exact HB.out|apply below_alloc|apply pw_below_drewN|apply below_drew1|refine below_set ?_ GE103.out)|exact HB.out)) hb)
   clear BK103
   clear HB
   have BK103:=n0_
   have HB:=n1_
   clear n0_ n1_
   (try clear hb)
   (try clear hb2)
   (try clear hk)
   (try clear hi)
   refine hK.out _ _ trivial (fun hHeld => ?_)
   clear hK K
   refine norm_ (a':=?_) ?_ ?_
   rotate_left
   ·show Act.put _ (some 17) _ = _
    simp only [Act.put,List.setIfInBounds_toArray,List.set_cons_zero,List.set_cons_succ,i64_w,i32_w]
    rfl
   refine pure_ (i:=1) (N:=some 18) (v:=?_) (a':=?_) #[true,true,false,false,false,false,false,false,false] rfl rfl (any_of HT_.out (by kernel_rfl)) (fun _ _ _ h => h) (Or.inl ⟨by rfl,?_⟩) ?_ ?_
   rotate_left
   ·intro w'
    go_simp
    with_reducible rfl
   rotate_left
   ·simp only [Act.put,List.setIfInBounds_toArray,List.set_cons_zero,List.set_cons_succ,i64_w,i32_w]
    rfl
   refine pure_ (i:=2) (N:=some 19) (v:=?_) (a':=?_) #[true,true,true,false,false,false,false,false,false] rfl rfl (any_of HT_.out (by kernel_rfl)) (fun _ _ _ h => h) (Or.inl ⟨by rfl,?_⟩) ?_ ?_
   rotate_left
   ·intro w'
    go_simp
    with_reducible rfl
   rotate_left
   ·simp only [Act.put,List.setIfInBounds_toArray,List.set_cons_zero,List.set_cons_succ,i64_w,i32_w]
    rfl
   refine pure_ (i:=3) (N:=some 20) (v:=undef) (a':=?_) #[true,true,true,true,false,false,false,false,false] rfl rfl (any_of HT_.out (by kernel_rfl)) (fun _ _ _ h => h) (Or.inr ⟨by rfl,rfl⟩) ?_ ?_
   rotate_left
   ·simp only [Act.put,List.setIfInBounds_toArray,List.set_cons_zero,List.set_cons_succ,i64_w,i32_w]
    rfl
   refine pure_ (i:=4) (N:=some 21) (v:=undef) (a':=?_) #[true,true,true,true,true,false,false,false,false] rfl rfl (any_of HT_.out (by kernel_rfl)) (fun _ _ _ h => h) (Or.inr ⟨by rfl,rfl⟩) ?_ ?_
   rotate_left
   ·simp only [Act.put,List.setIfInBounds_toArray,List.set_cons_zero,List.set_cons_succ,i64_w,i32_w]
    rfl
   refine pure_ (i:=5) (N:=some 22) (v:=undef) (a':=?_) #[true,true,true,true,true,true,false,false,false] rfl rfl (any_of HT_.out (by kernel_rfl)) (fun _ _ _ h => h) (Or.inr ⟨by rfl,rfl⟩) ?_ ?_
   rotate_left
   ·simp only [Act.put,List.setIfInBounds_toArray,List.set_cons_zero,List.set_cons_succ,i64_w,i32_w]
    rfl
   refine pure_ (i:=6) (N:=some 23) (v:=undef) (a':=?_) #[true,true,true,true,true,true,true,false,false] rfl rfl (any_of HT_.out (by kernel_rfl)) (fun _ _ _ h => h) (Or.inr ⟨by rfl,rfl⟩) ?_ ?_
   rotate_left
   ·simp only [Act.put,List.setIfInBounds_toArray,List.set_cons_zero,List.set_cons_succ,i64_w,i32_w]
    rfl
   refine pure_ (i:=7) (N:=some 24) (v:=undef) (a':=?_) #[true,true,true,true,true,true,true,true,false] rfl rfl (any_of HT_.out (by kernel_rfl)) (fun _ _ _ h => h) (Or.inr ⟨by rfl,rfl⟩) ?_ ?_
   rotate_left
   ·simp only [Act.put,List.setIfInBounds_toArray,List.set_cons_zero,List.set_cons_succ,i64_w,i32_w]
    rfl
   refine pure_ (i:=8) (N:=some 25) (v:=?_) (a':=?_) #[true,true,true,true,true,true,true,true,true] rfl rfl (any_of HT_.out (by kernel_rfl)) (fun _ _ _ h => h) (Or.inl ⟨by rfl,?_⟩) ?_ ?_
   rotate_left
   ·intro w'
    go_simp
    with_reducible rfl
   rotate_left
   ·simp only [Act.put,List.setIfInBounds_toArray,List.set_cons_zero,List.set_cons_succ,i64_w,i32_w]
    rfl
   refine done_ (done_of HT_.out (by kernel_rfl)) ?_
   try go_wp2
   go_meet
   case rel => exact ⟨_,(true),(by first|rfl|(simp;done)|(simp only [IntWalk.i64_left];done)|(simp [*];done)),H',⟨by first|omega|exact Nat.le_refl _⟩,⟨by (with_reducible repeat (first|refine blk_drewN ?_ _|refine blk_drew ?_|refine blk_alloc ?_ _));exact BK103.out⟩,⟨by repeat (first|(with_reducible first|exact HB.out|apply below_alloc|apply pw_below_drewN|apply below_drew1|refine below_set ?_ GE103.out)|exact HB.out)⟩⟩
 case rest =>
  clear HC6
  try clear c1
  try clear c2
  try clear p2
  try clear c3
  try clear c8
  try clear c11
  try clear hcz9_0
  try clear hcz9_1
  try clear hfz9_0
  try clear hfz9_1
  obtain ⟨kq,x25_5,rfl,HA,HJ5,BK103,HB⟩:=hcut
  cases kq with
  | zero => exact absurd HA.out (by simp [changeforgelaw5_ThresholdMatchesSpec.j0])
  | succ kj5 =>
   have H:=HA.out
   clear HA
   simp only [changeforgelaw5_ThresholdMatchesSpec.j0] at H
   by_cases c20 : x25_5 = true
   ·subst c20
    have H1 : (none) = some r:=by rw [if_pos rfl] at H;exact H
    clear H
    have H:=H1
    clear H1
    exact absurd H (by simp)
   ·replace c20:=Bool.eq_false_iff.mpr c20
    subst c20
    have H1 : ((changeforgeref5_SignersFault.f kj5 l0 l2 l3).bind fun bt107 => ((threshold_Signers.f kj5 l0 l2 l3).bind fun bt110 => (if (!(bt110.2.1 == bt107.1) || (!(bt110.2.2 == bt107.2))) = true then (changeforgelaw5_ThresholdMatchesSpec.j1 kj5 l0 a1 l2 l3 bt110.1 true t101 t102 bt107.1 bt107.2) else (if bt107.1 = 0 then ((changeforgeref5_Signers.f kj5 l0 l2 l3).bind fun t116 => ((changeforgeref5_Ints.f kj5 bt110.1 t116).bind fun t119 => (changeforgelaw5_ThresholdMatchesSpec.j1 kj5 l0 a1 l2 l3 bt110.1 (!t119) t101 t102 bt107.1 bt107.2))) else (if (bt110.1.length : Int) > 0 then (changeforgelaw5_ThresholdMatchesSpec.j1 kj5 l0 a1 l2 l3 bt110.1 true t101 t102 bt107.1 bt107.2) else (changeforgelaw5_ThresholdMatchesSpec.j1 kj5 l0 a1 l2 l3 bt110.1 false t101 t102 bt107.1 bt107.2)))))) = some r:=by rw [if_neg (show ¬ (false = true) by decide)] at H;exact H
    clear H
    have H:=H1
    clear H1
    replace H:=Option.bind_eq_some_iff.mp H
    obtain ⟨⟨t107,t108⟩,A210,H⟩:=H
    replace H : ((threshold_Signers.f kj5 l0 l2 l3).bind fun bt110 => (if (!(bt110.2.1 == t107) || (!(bt110.2.2 == t108))) = true then (changeforgelaw5_ThresholdMatchesSpec.j1 kj5 l0 a1 l2 l3 bt110.1 true t101 t102 t107 t108) else (if t107 = 0 then ((changeforgeref5_Signers.f kj5 l0 l2 l3).bind fun t116 => ((changeforgeref5_Ints.f kj5 bt110.1 t116).bind fun t119 => (changeforgelaw5_ThresholdMatchesSpec.j1 kj5 l0 a1 l2 l3 bt110.1 (!t119) t101 t102 t107 t108))) else (if (bt110.1.length : Int) > 0 then (changeforgelaw5_ThresholdMatchesSpec.j1 kj5 l0 a1 l2 l3 bt110.1 true t101 t102 t107 t108) else (changeforgelaw5_ThresholdMatchesSpec.j1 kj5 l0 a1 l2 l3 bt110.1 false t101 t102 t107 t108))))) = some r:=H
    have A21:=Aside0.mk A210
    clear A210
    replace H:=Option.bind_eq_some_iff.mp H
    obtain ⟨⟨t110,t113,t114⟩,A220,H⟩:=H
    replace H : (if (!(t113 == t107) || (!(t114 == t108))) = true then (changeforgelaw5_ThresholdMatchesSpec.j1 kj5 l0 a1 l2 l3 t110 true t101 t102 t107 t108) else (if t107 = 0 then ((changeforgeref5_Signers.f kj5 l0 l2 l3).bind fun t116 => ((changeforgeref5_Ints.f kj5 t110 t116).bind fun t119 => (changeforgelaw5_ThresholdMatchesSpec.j1 kj5 l0 a1 l2 l3 t110 (!t119) t101 t102 t107 t108))) else (if (t110.length : Int) > 0 then (changeforgelaw5_ThresholdMatchesSpec.j1 kj5 l0 a1 l2 l3 t110 true t101 t102 t107 t108) else (changeforgelaw5_ThresholdMatchesSpec.j1 kj5 l0 a1 l2 l3 t110 false t101 t102 t107 t108)))) = some r:=H
    have A22:=Aside0.mk A220
    clear A220
    have HC23:=Aside0.mk H
    clear H
    go_upto_region 6 with (first|((with_reducible refine gate_callee (f:=28) rfl ?_);refine goesL_ (some 29) rfl rfl Try.func28 (by kernel_rfl) rfl #[.slice A0 l0.length c0,.slice A2 l2.length c2,.slice A3 l3.length c3] rfl (by (try simp only [List.map_toArray,List.map_cons,List.map_nil]);first|done|rfl|(simp only [List.length_drop,List.length_take];rfl)) ?_;(with_reducible refine (changeforgeref5_SignersFault.calls kj5 _ _ l0 _ _ l2 _ _ l3 t107 t108 _ ?side1 ?side2 ?side3 ?side4 ?side5 ?side6 A21.out).mono ?_);(case side1 => repeat (first|exact (Kd.C_below HR0.out HB.out)|(with_reducible refine Kd.C_alloc ?_ _)|(with_reducible refine Kd.C_drewN ?_ _)|(with_reducible refine Kd.C_drew ?_)));(case side2 => exact HC0.out);(case side3 => repeat (first|exact (Kd.C_below HR2.out HB.out)|(with_reducible refine Kd.C_alloc ?_ _)|(with_reducible refine Kd.C_drewN ?_ _)|(with_reducible refine Kd.C_drew ?_)));(case side4 => exact HC2.out);(case side5 => repeat (first|exact (Kd.C_below HR3.out HB.out)|(with_reducible refine Kd.C_alloc ?_ _)|(with_reducible refine Kd.C_drewN ?_ _)|(with_reducible refine Kd.C_drew ?_)));(case side6 => exact HC3.out);rintro e w24 ⟨rfl,hb⟩;refine ⟨_,rfl,?_⟩;have n0_:=Aside0.mk (blk_below (g:=gb103) (o:=.cells #[.int .i64 t101,.int .i64 t102] 26 (0,0)) (by (with_reducible repeat (first|refine blk_drewN ?_ _|refine blk_drew ?_|refine blk_alloc ?_ _));exact BK103.out) hb);have n1_:=Aside0.mk (below_step (by repeat (first|(with_reducible first|exact HB.out|apply below_alloc|apply pw_below_drewN|apply below_drew1|refine below_set ?_ GE103.out)|exact HB.out)) hb);clear BK103;clear HB;have BK103:=n0_;have HB:=n1_;clear n0_ n1_;(try clear hb);(try clear hb2);(try clear hk);(try clear hi))|((with_reducible refine gate_dst (N:=10) rfl ?_);(try (refine gate_guard (by rfl) ?_;dsimp only));refine box_event ?hg (N:=10) ?hd (cs:=#[.int .i64 0,.int .i64 0]) (t:=26) ?hr ?_;(case hd => rfl);(case hg => rfl);(case hr => first|(go_simp;done)|(go_simp;rfl));intro gb109 hg w25 hbox hb;have n0_:=Aside0.mk (blk_below (g:=gb103) (o:=.cells #[.int .i64 t101,.int .i64 t102] 26 (0,0)) (by (with_reducible repeat (first|refine blk_drewN ?_ _|refine blk_drew ?_|refine blk_alloc ?_ _));exact BK103.out) hb);have n1_:=Aside0.mk (below_step (by repeat (first|(with_reducible first|exact HB.out|apply below_alloc|apply pw_below_drewN|apply below_drew1|refine below_set ?_ GE103.out)|exact HB.out)) hb);have n2_:=Aside0.mk (hbox);have n3_:=Aside0.mk ((by rw [hg];exact (below_size (by repeat (first|(with_reducible first|exact HB.out|apply below_alloc|apply pw_below_drewN|apply below_drew1|refine below_set ?_ GE103.out)|exact HB.out))) : w.heap.size ≤ gb109));have n4_:=Aside0.mk ((by rw [hg];exact (below_size (by repeat (first|(with_reducible first|exact HB.out|apply below_alloc|apply pw_below_drewN|apply below_drew1|refine below_set ?_ GE103.out)|exact HB.out))) : w.heap.size ≤ gb109));have n5_:=Aside0.mk ((by rw [hg];exact Nat.ne_of_lt (blk_lt (g:=gb103) (o:=.cells #[.int .i64 t101,.int .i64 t102] 26 (0,0)) (by (with_reducible repeat (first|refine blk_drewN ?_ _|refine blk_drew ?_|refine blk_alloc ?_ _));exact BK103.out)) : gb103 ≠ gb109));have n6_:=Aside0.mk ((by rw [hg];exact Nat.ne_of_gt (blk_lt (g:=gb103) (o:=.cells #[.int .i64 t101,.int .i64 t102] 26 (0,0)) (by (with_reducible repeat (first|refine blk_drewN ?_ _|refine blk_drew ?_|refine blk_alloc ?_ _));exact BK103.out)) : gb109 ≠ gb103));clear BK103;clear HB;have BK103:=n0_;have HB:=n1_;have BK109:=n2_;have GW109:=n3_;have GE109:=n4_;have NB103_109:=n5_;have NB109_103:=n6_;clear n0_ n1_ n2_ n3_ n4_ n5_ n6_;clear hb hbox hg;have hnb26:=NB109_103.out;have hnc26:=NB103_109.out;have hcz27_0 : w25.cell? ⟨gb109,0,none⟩ = some (.int .i64 0):=(blk_cell BK109.out 0).trans rfl;have hcz27_1 : w25.cell? ⟨gb109,1,none⟩ = some (.int .i64 0):=(blk_cell BK109.out 1).trans rfl;have hfz27_0:=blk_frozen BK109.out 0;have hfz27_1:=blk_frozen BK109.out 1)|((with_reducible refine gate_callee (f:=29) rfl ?_);refine goesL_ (some 34) rfl rfl Try.func29 (by kernel_rfl) rfl #[.slice A0 l0.length c0,.slice A2 l2.length c2,.slice A3 l3.length c3] rfl (by (try simp only [List.map_toArray,List.map_cons,List.map_nil]);first|done|rfl|(simp only [List.length_drop,List.length_take];rfl)) ?_;(with_reducible refine (threshold_Signers.calls kj5 _ _ l0 _ _ l2 _ _ l3 t110 t113 t114 _ ?side1 ?side2 ?side3 ?side4 ?side5 ?side6 A22.out).mono ?_);(case side1 => exact Kd.C_below HR0.out (by repeat (first|(with_reducible first|exact HB.out|apply below_alloc|apply pw_below_drewN|apply below_drew1|refine below_set ?_ GE103.out|refine below_set ?_ GE109.out)|exact HB.out)));(case side2 => exact HC0.out);(case side3 => exact Kd.C_below HR2.out (by repeat (first|(with_reducible first|exact HB.out|apply below_alloc|apply pw_below_drewN|apply below_drew1|refine below_set ?_ GE103.out|refine below_set ?_ GE109.out)|exact HB.out)));(case side4 => exact HC2.out);(case side5 => exact Kd.C_below HR3.out (by repeat (first|(with_reducible first|exact HB.out|apply below_alloc|apply pw_below_drewN|apply below_drew1|refine below_set ?_ GE103.out|refine below_set ?_ GE109.out)|exact HB.out)));(case side6 => exact HC3.out);rintro e w28 ⟨v111,rfl,ho0,hb⟩;refine ⟨_,rfl,?_⟩;have n0_:=Aside0.mk (Kd.R_lower ho0 (below_size (by repeat (first|(with_reducible first|exact HB.out|apply below_alloc|apply pw_below_drewN|apply below_drew1|refine below_set ?_ GE103.out|refine below_set ?_ GE109.out)|exact HB.out))));have n1_:=Aside0.mk (blk_below (g:=gb103) (o:=.cells #[.int .i64 t101,.int .i64 t102] 26 (0,0)) (by (with_reducible repeat (first|refine blk_drewN ?_ _|refine blk_drew ?_|refine blk_alloc ?_ _));refine blk_far ?_ NB103_109.out _;(with_reducible repeat (first|refine blk_drewN ?_ _|refine blk_drew ?_|refine blk_alloc ?_ _));refine blk_far ?_ NB103_109.out _;(with_reducible repeat (first|refine blk_drewN ?_ _|refine blk_drew ?_|refine blk_alloc ?_ _));exact BK103.out) hb);have n2_:=Aside0.mk (blk_below (g:=gb109) (o:=.cells #[.int .i64 t107,.int .i64 t108] 26 (0,0)) (by (with_reducible repeat (first|refine blk_drewN ?_ _|refine blk_drew ?_|refine blk_alloc ?_ _));refine blk_put (cs:=#[.int .i64 t107,.int .i64 0]) ?_ 1 _ rfl;(with_reducible repeat (first|refine blk_drewN ?_ _|refine blk_drew ?_|refine blk_alloc ?_ _));refine blk_put (cs:=#[.int .i64 0,.int .i64 0]) ?_ 0 _ rfl;(with_reducible repeat (first|refine blk_drewN ?_ _|refine blk_drew ?_|refine blk_alloc ?_ _));exact BK109.out) hb);have n3_:=Aside0.mk (below_step (by repeat (first|(with_reducible first|exact HB.out|apply below_alloc|apply pw_below_drewN|apply below_drew1|refine below_set ?_ GE103.out|refine below_set ?_ GE109.out)|exact HB.out)) hb);clear BK103;clear BK109;clear HB;have HO112:=n0_;have BK103:=n1_;have BK109:=n2_;have HB:=n3_;clear n0_ n1_ n2_ n3_;(try clear hb);(try clear hb2);(try clear hk);(try clear hi);(try clear ho0))|((with_reducible refine gate_dst (N:=12) rfl ?_);(try (refine gate_guard (by rfl) ?_;dsimp only));refine box_event ?hg (N:=12) ?hd (cs:=#[.int .i64 0,.int .i64 0]) (t:=26) ?hr ?_;(case hd => rfl);(case hg => rfl);(case hr => first|(go_simp;done)|(go_simp;rfl));intro gb115 hg w29 hbox hb;have n0_:=Aside0.mk (Kd.R_below (by (with_reducible repeat (first|apply Kd.R_alloc|apply Kd.R_drewN|apply Kd.R_drew));exact HO112.out) hb);have n1_:=Aside0.mk (blk_below (g:=gb103) (o:=.cells #[.int .i64 t101,.int .i64 t102] 26 (0,0)) (by (with_reducible repeat (first|refine blk_drewN ?_ _|refine blk_drew ?_|refine blk_alloc ?_ _));exact BK103.out) hb);have n2_:=Aside0.mk (blk_below (g:=gb109) (o:=.cells #[.int .i64 t107,.int .i64 t108] 26 (0,0)) (by (with_reducible repeat (first|refine blk_drewN ?_ _|refine blk_drew ?_|refine blk_alloc ?_ _));exact BK109.out) hb);have n3_:=Aside0.mk (below_step (by repeat (first|(with_reducible first|exact HB.out|apply below_alloc|apply pw_below_drewN|apply below_drew1|refine below_set ?_ GE103.out|refine below_set ?_ GE109.out)|exact HB.out)) hb);have n4_:=Aside0.mk (hbox);have n5_:=Aside0.mk ((by rw [hg];exact (below_size (by repeat (first|(with_reducible first|exact HB.out|apply below_alloc|apply pw_below_drewN|apply below_drew1|refine below_set ?_ GE103.out|refine below_set ?_ GE109.out)|exact HB.out))) : w.heap.size ≤ gb115));have n6_:=Aside0.mk ((by rw [hg];exact (below_size (by repeat (first|(with_reducible first|exact HB.out|apply below_alloc|apply pw_below_drewN|apply below_drew1|refine below_set ?_ GE103.out|refine below_set ?_ GE109.out)|exact HB.out))) : w.heap.size ≤ gb115));have n7_:=Aside0.mk ((by rw [hg];exact Nat.ne_of_lt (blk_lt (g:=gb103) (o:=.cells #[.int .i64 t101,.int .i64 t102] 26 (0,0)) (by (with_reducible repeat (first|refine blk_drewN ?_ _|refine blk_drew ?_|refine blk_alloc ?_ _));exact BK103.out)) : gb103 ≠ gb115));have n8_:=Aside0.mk ((by rw [hg];exact Nat.ne_of_gt (blk_lt (g:=gb103) (o:=.cells #[.int .i64 t101,.int .i64 t102] 26 (0,0)) (by (with_reducible repeat (first|refine blk_drewN ?_ _|refine blk_drew ?_|refine blk_alloc ?_ _));exact BK103.out)) : gb115 ≠ gb103));have n9_:=Aside0.mk ((by rw [hg];exact Nat.ne_of_lt (blk_lt (g:=gb109) (o:=.cells #[.int .i64 t107,.int .i64 t108] 26 (0,0)) (by (with_reducible repeat (first|refine blk_drewN ?_ _|refine blk_drew ?_|refine blk_alloc ?_ _));exact BK109.out)) : gb109 ≠ gb115));have n10_:=Aside0.mk ((by rw [hg];exact Nat.ne_of_gt (blk_lt (g:=gb109) (o:=.cells #[.int .i64 t107,.int .i64 t108] 26 (0,0)) (by (with_reducible repeat (first|refine blk_drewN ?_ _|refine blk_drew ?_|refine blk_alloc ?_ _));exact BK109.out)) : gb115 ≠ gb109));clear HO112;clear BK103;clear BK109;clear HB;have HO112:=n0_;have BK103:=n1_;have BK109:=n2_;have HB:=n3_;have BK115:=n4_;have GW115:=n5_;have GE115:=n6_;have NB103_115:=n7_;have NB115_103:=n8_;have NB109_115:=n9_;have NB115_109:=n10_;clear n0_ n1_ n2_ n3_ n4_ n5_ n6_ n7_ n8_ n9_ n10_;clear hb hbox hg;have hnb30:=NB115_103.out;have hnc30:=NB103_115.out;have hnb31:=NB115_109.out;have hnc31:=NB109_115.out;have hcz32_0 : w29.cell? ⟨gb115,0,none⟩ = some (.int .i64 0):=(blk_cell BK115.out 0).trans rfl;have hcz32_1 : w29.cell? ⟨gb115,1,none⟩ = some (.int .i64 0):=(blk_cell BK115.out 1).trans rfl;have hfz32_0:=blk_frozen BK115.out 0;have hfz32_1:=blk_frozen BK115.out 1))
    (try simp only [Act.put,List.setIfInBounds_toArray,List.set_cons_zero,List.set_cons_succ])
    go_cut [63] (fun v63 wc => ∃ (kq : Nat) (x63_22 : Bool),v63 = .bool x63_22 ∧ Aside0 (changeforgelaw5_ThresholdMatchesSpec.j1 kq l0 a1 l2 l3 t110 x63_22 t101 t102 t107 t108 = some r) ∧ Aside0 (kq ≤ kj5) ∧ Aside0 (Kd.R (Kd.int .i64) 3 wc w.heap.size (fun _ => True) v111 t110) ∧ Aside0 (wc.heap[gb103]? = some (.cells #[.int .i64 t101,.int .i64 t102] 26 (0,0))) ∧ Aside0 (wc.heap[gb109]? = some (.cells #[.int .i64 t107,.int .i64 t108] 26 (0,0))) ∧ Aside0 (wc.heap[gb115]? = some (.cells #[.int .i64 t113,.int .i64 t114] 26 (0,0))) ∧ Aside0 (Below w.heap.size w wc))
    case first =>
     have H:=HC23.out
     clear HC23
     by_cases c33 : (!(t113 == t107) || (!(t114 == t108))) = true
     ·rw [if_pos c33] at H
      have c33b0 : (!(t113 == t107) || (!(t114 == t108))) = true:=c33
      clear c33
      (first|rw [c33b0]|(simp only [i64_w,i32_w];rw [c33b0])|skip)
      have H':=Aside0.mk H
      clear H
      have hnb34:=NB115_103.out
      have hnc34:=NB103_115.out
      have hnb35:=NB115_109.out
      have hnc35:=NB109_115.out
      have hcz36_0 : w29.cell? ⟨gb115,0,none⟩ = some (.int .i64 0):=(blk_cell BK115.out 0).trans rfl
      have hcz36_1 : w29.cell? ⟨gb115,1,none⟩ = some (.int .i64 0):=(blk_cell BK115.out 1).trans rfl
      have hfz36_0:=blk_frozen BK115.out 0
      have hfz36_1:=blk_frozen BK115.out 1
      have hnb37:=NB109_103.out
      have hnc37:=NB103_109.out
      have hcz38_0 : w29.cell? ⟨gb109,0,none⟩ = some (.int .i64 t107):=(blk_cell BK109.out 0).trans rfl
      have hcz38_1 : w29.cell? ⟨gb109,1,none⟩ = some (.int .i64 t108):=(blk_cell BK109.out 1).trans rfl
      have hfz38_0:=blk_frozen BK109.out 0
      have hfz38_1:=blk_frozen BK109.out 1
      go_wp2
      go_meet
      case rel => exact ⟨_,(true),(by first|rfl|(simp;done)|(simp only [IntWalk.i64_left];done)|(simp [*];done)),H',⟨by have:=HJ5.out;first|omega|exact Nat.le_refl _⟩,⟨by (with_reducible repeat (first|apply Kd.R_alloc|apply Kd.R_drewN|apply Kd.R_drew));exact Kd.R_mono (Kd.R_far (p:=⟨gb115,1,none⟩) (Kd.R_far (p:=⟨gb115,0,none⟩) (Kd.R_types HO112.out BK115.out (by decide)) (fun _ hk => hk.2) (.int .i64 t113)) (fun _ hk => hk.2) (.int .i64 t114)) (fun _ hk => trivial)⟩,⟨by (with_reducible repeat (first|refine blk_drewN ?_ _|refine blk_drew ?_|refine blk_alloc ?_ _));refine blk_far ?_ NB103_115.out _;(with_reducible repeat (first|refine blk_drewN ?_ _|refine blk_drew ?_|refine blk_alloc ?_ _));refine blk_far ?_ NB103_115.out _;(with_reducible repeat (first|refine blk_drewN ?_ _|refine blk_drew ?_|refine blk_alloc ?_ _));exact BK103.out⟩,⟨by (with_reducible repeat (first|refine blk_drewN ?_ _|refine blk_drew ?_|refine blk_alloc ?_ _));refine blk_far ?_ NB109_115.out _;(with_reducible repeat (first|refine blk_drewN ?_ _|refine blk_drew ?_|refine blk_alloc ?_ _));refine blk_far ?_ NB109_115.out _;(with_reducible repeat (first|refine blk_drewN ?_ _|refine blk_drew ?_|refine blk_alloc ?_ _));exact BK109.out⟩,⟨by (with_reducible repeat (first|refine blk_drewN ?_ _|refine blk_drew ?_|refine blk_alloc ?_ _));refine blk_put (cs:=#[.int .i64 t113,.int .i64 0]) ?_ 1 _ rfl;(with_reducible repeat (first|refine blk_drewN ?_ _|refine blk_drew ?_|refine blk_alloc ?_ _));refine blk_put (cs:=#[.int .i64 0,.int .i64 0]) ?_ 0 _ rfl;(with_reducible repeat (first|refine blk_drewN ?_ _|refine blk_drew ?_|refine blk_alloc ?_ _));exact BK115.out⟩,⟨by repeat (first|(with_reducible first|exact HB.out|apply below_alloc|apply pw_below_drewN|apply below_drew1|refine below_set ?_ GE103.out|refine below_set ?_ GE109.out|refine below_set ?_ GE115.out)|exact HB.out)⟩⟩
     ·rw [if_neg c33] at H
      have c33b0 : (!(t113 == t107) || (!(t114 == t108))) = false:=by simpa using c33
      clear c33
      (first|rw [c33b0]|(simp only [i64_w,i32_w];rw [c33b0])|skip)
      by_cases c39 : t107 = 0
      ·rw [if_pos c39] at H
       have c39b0 : (t107 == 0) = true:=beq_iff_eq.mpr c39
       have c39b1 : (t107 != 0) = false:=bne_eq_false_iff_eq.mpr c39
       clear c39
       replace H:=Option.bind_eq_some_iff.mp H
       obtain ⟨t116,A400,H⟩:=H
       replace H : ((changeforgeref5_Ints.f kj5 t110 t116).bind fun t119 => (changeforgelaw5_ThresholdMatchesSpec.j1 kj5 l0 a1 l2 l3 t110 (!t119) t101 t102 t107 t108)) = some r:=H
       have A40:=Aside0.mk A400
       clear A400
       replace H:=Option.bind_eq_some_iff.mp H
       obtain ⟨t119,A410,H⟩:=H
       replace H : (changeforgelaw5_ThresholdMatchesSpec.j1 kj5 l0 a1 l2 l3 t110 (!t119) t101 t102 t107 t108) = some r:=H
       have A41:=Aside0.mk A410
       clear A410
       have H':=Aside0.mk H
       clear H
       have hnb42:=NB115_103.out
       have hnc42:=NB103_115.out
       have hnb43:=NB115_109.out
       have hnc43:=NB109_115.out
       have hcz44_0 : w29.cell? ⟨gb115,0,none⟩ = some (.int .i64 0):=(blk_cell BK115.out 0).trans rfl
       have hcz44_1 : w29.cell? ⟨gb115,1,none⟩ = some (.int .i64 0):=(blk_cell BK115.out 1).trans rfl
       have hfz44_0:=blk_frozen BK115.out 0
       have hfz44_1:=blk_frozen BK115.out 1
       have hnb45:=NB109_103.out
       have hnc45:=NB103_109.out
       have hcz46_0 : w29.cell? ⟨gb109,0,none⟩ = some (.int .i64 t107):=(blk_cell BK109.out 0).trans rfl
       have hcz46_1 : w29.cell? ⟨gb109,1,none⟩ = some (.int .i64 t108):=(blk_cell BK109.out 1).trans rfl
       have hfz46_0:=blk_frozen BK109.out 0
       have hfz46_1:=blk_frozen BK109.out 1
       go_wp2_with (first|(go_at_call 30;(with_reducible refine (changeforgeref5_Signers.calls kj5 _ _ l0 _ _ l2 _ _ l3 t116 _ ?side1 ?side2 ?side3 ?side4 ?side5 ?side6 A40.out).mono ?_);(case side1 => exact Kd.C_below HR0.out (by repeat (first|(with_reducible first|exact HB.out|apply below_alloc|apply pw_below_drewN|apply below_drew1|refine below_set ?_ GE103.out|refine below_set ?_ GE109.out|refine below_set ?_ GE115.out)|exact HB.out)));(case side2 => exact HC0.out);(case side3 => exact Kd.C_below HR2.out (by repeat (first|(with_reducible first|exact HB.out|apply below_alloc|apply pw_below_drewN|apply below_drew1|refine below_set ?_ GE103.out|refine below_set ?_ GE109.out|refine below_set ?_ GE115.out)|exact HB.out)));(case side4 => exact HC2.out);(case side5 => exact Kd.C_below HR3.out (by repeat (first|(with_reducible first|exact HB.out|apply below_alloc|apply pw_below_drewN|apply below_drew1|refine below_set ?_ GE103.out|refine below_set ?_ GE109.out|refine below_set ?_ GE115.out)|exact HB.out)));(case side6 => exact HC3.out);rintro e w47 ⟨v117,rfl,ho0,hb⟩;have n0_:=Aside0.mk (Kd.R_elder' (by (with_reducible repeat (first|apply Kd.R_alloc|apply Kd.R_drewN|apply Kd.R_drew));exact (Kd.R_mono (Kd.R_far (p:=⟨gb115,1,none⟩) (Kd.R_far (p:=⟨gb115,0,none⟩) (Kd.R_types HO112.out BK115.out (by decide)) (fun _ hk => hk.2) (.int .i64 t113)) (fun _ hk => hk.2) (.int .i64 t114)) (fun _ h_ => h_.1))) (Kd.R_base ho0) hb);have n1_:=Aside0.mk (Kd.R_lower (Kd.R_new' ho0 (Kd.R_lt (by (with_reducible repeat (first|apply Kd.R_alloc|apply Kd.R_drewN|apply Kd.R_drew));exact (Kd.R_mono (Kd.R_far (p:=⟨gb115,1,none⟩) (Kd.R_far (p:=⟨gb115,0,none⟩) (Kd.R_types HO112.out BK115.out (by decide)) (fun _ hk => hk.2) (.int .i64 t113)) (fun _ hk => hk.2) (.int .i64 t114)) (fun _ h_ => h_.1))))) (below_size (by repeat (first|(with_reducible first|exact HB.out|apply below_alloc|apply pw_below_drewN|apply below_drew1|refine below_set ?_ GE103.out|refine below_set ?_ GE109.out|refine below_set ?_ GE115.out)|exact HB.out))));have n2_:=Aside0.mk (blk_below (g:=gb103) (o:=.cells #[.int .i64 t101,.int .i64 t102] 26 (0,0)) (by (with_reducible repeat (first|refine blk_drewN ?_ _|refine blk_drew ?_|refine blk_alloc ?_ _));refine blk_far ?_ NB103_115.out _;(with_reducible repeat (first|refine blk_drewN ?_ _|refine blk_drew ?_|refine blk_alloc ?_ _));refine blk_far ?_ NB103_115.out _;(with_reducible repeat (first|refine blk_drewN ?_ _|refine blk_drew ?_|refine blk_alloc ?_ _));exact BK103.out) hb);have n3_:=Aside0.mk (blk_below (g:=gb109) (o:=.cells #[.int .i64 t107,.int .i64 t108] 26 (0,0)) (by (with_reducible repeat (first|refine blk_drewN ?_ _|refine blk_drew ?_|refine blk_alloc ?_ _));refine blk_far ?_ NB109_115.out _;(with_reducible repeat (first|refine blk_drewN ?_ _|refine blk_drew ?_|refine blk_alloc ?_ _));refine blk_far ?_ NB109_115.out _;(with_reducible repeat (first|refine blk_drewN ?_ _|refine blk_drew ?_|refine blk_alloc ?_ _));exact BK109.out) hb);have n4_:=Aside0.mk (blk_below (g:=gb115) (o:=.cells #[.int .i64 t113,.int .i64 t114] 26 (0,0)) (by (with_reducible repeat (first|refine blk_drewN ?_ _|refine blk_drew ?_|refine blk_alloc ?_ _));refine blk_put (cs:=#[.int .i64 t113,.int .i64 0]) ?_ 1 _ rfl;(with_reducible repeat (first|refine blk_drewN ?_ _|refine blk_drew ?_|refine blk_alloc ?_ _));refine blk_put (cs:=#[.int .i64 0,.int .i64 0]) ?_ 0 _ rfl;(with_reducible repeat (first|refine blk_drewN ?_ _|refine blk_drew ?_|refine blk_alloc ?_ _));exact BK115.out) hb);have n5_:=Aside0.mk (below_step (by repeat (first|(with_reducible first|exact HB.out|apply below_alloc|apply pw_below_drewN|apply below_drew1|refine below_set ?_ GE103.out|refine below_set ?_ GE109.out|refine below_set ?_ GE115.out)|exact HB.out)) hb);clear HO112;clear BK103;clear BK109;clear BK115;clear HB;have HO112:=n0_;have HO118:=n1_;have BK103:=n2_;have BK109:=n3_;have BK115:=n4_;have HB:=n5_;clear n0_ n1_ n2_ n3_ n4_ n5_;(try clear hb);(try clear hb2);(try clear hk);(try clear hi);(try clear ho0);obtain ⟨Ao48,co48,eo48⟩:=Kd.R_slice HO112.out;subst eo48;obtain ⟨Ao49,co49,eo49⟩:=Kd.R_slice HO118.out;subst eo49)|(go_at_call 24;(with_reducible refine (changeforgeref5_Ints.calls kj5 _ _ t110 _ _ t116 t119 _ ?side1 ?side2 ?side3 ?side4 A41.out).mono ?_);(case side1 => repeat (first|exact (Kd.R_reads' HO112.out).2.2|(with_reducible refine Kd.C_alloc ?_ _)|(with_reducible refine Kd.C_drewN ?_ _)|(with_reducible refine Kd.C_drew ?_)));(case side2 => exact (Kd.R_reads' HO112.out).2.1);(case side3 => repeat (first|exact (Kd.R_reads' HO118.out).2.2|(with_reducible refine Kd.C_alloc ?_ _)|(with_reducible refine Kd.C_drewN ?_ _)|(with_reducible refine Kd.C_drew ?_)));(case side4 => exact (Kd.R_reads' HO118.out).2.1);rintro e w' ⟨rfl,⟨nd,rfl⟩⟩))
       go_meet
       case rel => exact ⟨_,(!t119),(by first|rfl|(simp;done)|(simp only [IntWalk.i64_left];done)|(simp [*];done)),H',⟨by have:=HJ5.out;first|omega|exact Nat.le_refl _⟩,⟨by (with_reducible repeat (first|apply Kd.R_alloc|apply Kd.R_drewN|apply Kd.R_drew));exact Kd.R_mono HO112.out (fun _ hk => trivial)⟩,⟨by (with_reducible repeat (first|refine blk_drewN ?_ _|refine blk_drew ?_|refine blk_alloc ?_ _));exact BK103.out⟩,⟨by (with_reducible repeat (first|refine blk_drewN ?_ _|refine blk_drew ?_|refine blk_alloc ?_ _));exact BK109.out⟩,⟨by (with_reducible repeat (first|refine blk_drewN ?_ _|refine blk_drew ?_|refine blk_alloc ?_ _));exact BK115.out⟩,⟨by repeat (first|(with_reducible first|exact HB.out|apply below_alloc|apply pw_below_drewN|apply below_drew1|refine below_set ?_ GE103.out|refine below_set ?_ GE109.out|refine below_set ?_ GE115.out)|exact HB.out)⟩⟩
      ·rw [if_neg c39] at H
       have c39b0 : (t107 == 0) = false:=beq_eq_false_iff_ne.mpr c39
       have c39b1 : (t107 != 0) = true:=bne_iff_ne.mpr c39
       by_cases c50 : (t110.length : Int) > 0
       ·rw [if_pos c50] at H
        have c50b0 : decide (0 < (t110.length : Int)) = true:=decide_eq_true c50
        have c50b1 : decide (0 < t110.length) = true:=decide_eq_true (by omega)
        clear c50
        have H':=Aside0.mk H
        clear H
        have hnb51:=NB115_103.out
        have hnc51:=NB103_115.out
        have hnb52:=NB115_109.out
        have hnc52:=NB109_115.out
        have hcz53_0 : w29.cell? ⟨gb115,0,none⟩ = some (.int .i64 0):=(blk_cell BK115.out 0).trans rfl
        have hcz53_1 : w29.cell? ⟨gb115,1,none⟩ = some (.int .i64 0):=(blk_cell BK115.out 1).trans rfl
        have hfz53_0:=blk_frozen BK115.out 0
        have hfz53_1:=blk_frozen BK115.out 1
        have hnb54:=NB109_103.out
        have hnc54:=NB103_109.out
        have hcz55_0 : w29.cell? ⟨gb109,0,none⟩ = some (.int .i64 t107):=(blk_cell BK109.out 0).trans rfl
        have hcz55_1 : w29.cell? ⟨gb109,1,none⟩ = some (.int .i64 t108):=(blk_cell BK109.out 1).trans rfl
        have hfz55_0:=blk_frozen BK109.out 0
        have hfz55_1:=blk_frozen BK109.out 1
        obtain ⟨Ao56,co56,eo56⟩:=Kd.R_slice HO112.out
        subst eo56
        go_wp2
        go_meet
        case rel => exact ⟨_,(true),(by first|rfl|(simp;done)|(simp only [IntWalk.i64_left];done)|(simp [*];done)),H',⟨by have:=HJ5.out;first|omega|exact Nat.le_refl _⟩,⟨by (with_reducible repeat (first|apply Kd.R_alloc|apply Kd.R_drewN|apply Kd.R_drew));exact Kd.R_mono (Kd.R_far (p:=⟨gb115,1,none⟩) (Kd.R_far (p:=⟨gb115,0,none⟩) (Kd.R_types HO112.out BK115.out (by decide)) (fun _ hk => hk.2) (.int .i64 t113)) (fun _ hk => hk.2) (.int .i64 t114)) (fun _ hk => trivial)⟩,⟨by (with_reducible repeat (first|refine blk_drewN ?_ _|refine blk_drew ?_|refine blk_alloc ?_ _));refine blk_far ?_ NB103_115.out _;(with_reducible repeat (first|refine blk_drewN ?_ _|refine blk_drew ?_|refine blk_alloc ?_ _));refine blk_far ?_ NB103_115.out _;(with_reducible repeat (first|refine blk_drewN ?_ _|refine blk_drew ?_|refine blk_alloc ?_ _));exact BK103.out⟩,⟨by (with_reducible repeat (first|refine blk_drewN ?_ _|refine blk_drew ?_|refine blk_alloc ?_ _));refine blk_far ?_ NB109_115.out _;(with_reducible repeat (first|refine blk_drewN ?_ _|refine blk_drew ?_|refine blk_alloc ?_ _));refine blk_far ?_ NB109_115.out _;(with_reducible repeat (first|refine blk_drewN ?_ _|refine blk_drew ?_|refine blk_alloc ?_ _));exact BK109.out⟩,⟨by (with_reducible repeat (first|refine blk_drewN ?_ _|refine blk_drew ?_|refine blk_alloc ?_ _));refine blk_put (cs:=#[.int .i64 t113,.int .i64 0]) ?_ 1 _ rfl;(with_reducible repeat (first|refine blk_drewN ?_ _|refine blk_drew ?_|refine blk_alloc ?_ _));refine blk_put (cs:=#[.int .i64 0,.int .i64 0]) ?_ 0 _ rfl;(with_reducible repeat (first|refine blk_drewN ?_ _|refine blk_drew ?_|refine blk_alloc ?_ _));exact BK115.out⟩,⟨by repeat (first|(with_reducible first|exact HB.out|apply below_alloc|apply pw_below_drewN|apply below_drew1|refine below_set ?_ GE103.out|refine below_set ?_ GE109.out|refine below_set ?_ GE115.out)|exact HB.out)⟩⟩
       ·rw [if_neg c50] at H
        have c50b0 : decide (0 < (t110.length : Int)) = false:=decide_eq_false c50
        have c50b1 : decide (0 < t110.length) = false:=decide_eq_false (by omega)
        clear c50
        have H':=Aside0.mk H
        clear H
        have hnb57:=NB115_103.out
        have hnc57:=NB103_115.out
        have hnb58:=NB115_109.out
        have hnc58:=NB109_115.out
        have hcz59_0 : w29.cell? ⟨gb115,0,none⟩ = some (.int .i64 0):=(blk_cell BK115.out 0).trans rfl
        have hcz59_1 : w29.cell? ⟨gb115,1,none⟩ = some (.int .i64 0):=(blk_cell BK115.out 1).trans rfl
        have hfz59_0:=blk_frozen BK115.out 0
        have hfz59_1:=blk_frozen BK115.out 1
        have hnb60:=NB109_103.out
        have hnc60:=NB103_109.out
        have hcz61_0 : w29.cell? ⟨gb109,0,none⟩ = some (.int .i64 t107):=(blk_cell BK109.out 0).trans rfl
        have hcz61_1 : w29.cell? ⟨gb109,1,none⟩ = some (.int .i64 t108):=(blk_cell BK109.out 1).trans rfl
        have hfz61_0:=blk_frozen BK109.out 0
        have hfz61_1:=blk_frozen BK109.out 1
        obtain ⟨Ao62,co62,eo62⟩:=Kd.R_slice HO112.out
        subst eo62
        go_wp2
        go_meet
        case rel => exact ⟨_,(false),(by first|rfl|(simp;done)|(simp only [IntWalk.i64_left];done)|(simp [*];done)),H',⟨by have:=HJ5.out;first|omega|exact Nat.le_refl _⟩,⟨by (with_reducible repeat (first|apply Kd.R_alloc|apply Kd.R_drewN|apply Kd.R_drew));exact Kd.R_mono (Kd.R_far (p:=⟨gb115,1,none⟩) (Kd.R_far (p:=⟨gb115,0,none⟩) (Kd.R_types HO112.out BK115.out (by decide)) (fun _ hk => hk.2) (.int .i64 t113)) (fun _ hk => hk.2) (.int .i64 t114)) (fun _ hk => trivial)⟩,⟨by (with_reducible repeat (first|refine blk_drewN ?_ _|refine blk_drew ?_|refine blk_alloc ?_ _));refine blk_far ?_ NB103_115.out _;(with_reducible repeat (first|refine blk_drewN ?_ _|refine blk_drew ?_|refine blk_alloc ?_ _));refine blk_far ?_ NB103_115.out _;(with_reducible repeat (first|refine blk_drewN ?_ _|refine blk_drew ?_|refine blk_alloc ?_ _));exact BK103.out⟩,⟨by (with_reducible repeat (first|refine blk_drewN ?_ _|refine blk_drew ?_|refine blk_alloc ?_ _));refine blk_far ?_ NB109_115.out _;(with_reducible repeat (first|refine blk_drewN ?_ _|refine blk_drew ?_|refine blk_alloc ?_ _));refine blk_far ?_ NB109_115.out _;(with_reducible repeat (first|refine blk_drewN ?_ _|refine blk_drew ?_|refine blk_alloc ?_ _));exact BK109.out⟩,⟨by (with_reducible repeat (first|refine blk_drewN ?_ _|refine blk_drew ?_|refine blk_alloc ?_ _));refine blk_put (cs:=#[.int .i64 t113,.int .i64 0]) ?_ 1 _ rfl;(with_reducible repeat (first|refine blk_drewN ?_ _|refine blk_drew ?_|refine blk_alloc ?_ _));refine blk_put (cs:=#[.int .i64 0,.int .i64 0]) ?_ 0 _ rfl;(with_reducible repeat (first|refine blk_drewN ?_ _|refine blk_drew ?_|refine blk_alloc ?_ _));exact BK115.out⟩,⟨by repeat (first|(with_reducible first|exact HB.out|apply below_alloc|apply pw_below_drewN|apply below_drew1|refine below_set ?_ GE103.out|refine below_set ?_ GE109.out|refine below_set ?_ GE115.out)|exact HB.out)⟩⟩
    case rest =>
     clear HC23
     try clear c1
     try clear c2
     try clear p2
     try clear c3
     try clear c4
     try clear c5
     try clear c6
     try clear c8
     try clear c11
     try clear c20
     try clear c25
     try clear c26
     try clear c27
     try clear c28
     try clear c29
     try clear c30
     try clear c31
     try clear c33
     try clear c33b0
     try clear c34
     try clear c35
     try clear c37
     try clear c39
     try clear c39b0
     try clear c39b1
     try clear c42
     try clear c43
     try clear c45
     try clear c50
     try clear c50b0
     try clear c50b1
     try clear c51
     try clear c52
     try clear c54
     try clear c57
     try clear c58
     try clear c60
     try clear hcz27_0
     try clear hcz27_1
     try clear hcz32_0
     try clear hcz32_1
     try clear hcz36_0
     try clear hcz36_1
     try clear hcz38_0
     try clear hcz38_1
     try clear hcz44_0
     try clear hcz44_1
     try clear hcz46_0
     try clear hcz46_1
     try clear hcz53_0
     try clear hcz53_1
     try clear hcz55_0
     try clear hcz55_1
     try clear hcz59_0
     try clear hcz59_1
     try clear hcz61_0
     try clear hcz61_1
     try clear hcz9_0
     try clear hcz9_1
     try clear hfz27_0
     try clear hfz27_1
     try clear hfz32_0
     try clear hfz32_1
     try clear hfz36_0
     try clear hfz36_1
     try clear hfz38_0
     try clear hfz38_1
     try clear hfz44_0
     try clear hfz44_1
     try clear hfz46_0
     try clear hfz46_1
     try clear hfz53_0
     try clear hfz53_1
     try clear hfz55_0
     try clear hfz55_1
     try clear hfz59_0
     try clear hfz59_1
     try clear hfz61_0
     try clear hfz61_1
     try clear hfz9_0
     try clear hfz9_1
     try clear p2
     obtain ⟨kq,x63_22,rfl,HA,HJ22,HO_11,BK103,BK109,BK115,HB⟩:=hcut
     cases kq with
     | zero => exact absurd HA.out (by simp [changeforgelaw5_ThresholdMatchesSpec.j1])
     | succ kj22 =>
      have H:=HA.out
      clear HA
      simp only [changeforgelaw5_ThresholdMatchesSpec.j1] at H
      by_cases c63 : x63_22 = true
      ·subst c63
       have H1 : (none) = some r:=by rw [if_pos rfl] at H;exact H
       clear H
       have H:=H1
       clear H1
       exact absurd H (by simp)
      ·replace c63:=Bool.eq_false_iff.mpr c63
       subst c63
       have H1 : (if t101 = 0 then ((threshold_Accept.f kj22 l0 a1 l2 l3).bind fun bt120 => (if (bt120.2.1 == t107 && (bt120.2.2 == t108)) = true then (if t107 = 0 then (some (bt120.1 == (decide ((t110.length : Int) ≥ a1)))) else (some (bt120.1 == false))) else (none))) else ((threshold_Accept.f kj22 l0 a1 l2 l3).bind fun bt123 => (if (bt123.2.1 == t101 && (bt123.2.2 == t102)) = true then (some (bt123.1 == false)) else (none)))) = some r:=by rw [if_neg (show ¬ (false = true) by decide)] at H;exact H
       clear H
       have H:=H1
       clear H1
       by_cases c64 : t101 = 0
       ·rw [if_pos c64] at H
        have c64b0 : (t101 == 0) = true:=beq_iff_eq.mpr c64
        have c64b1 : (t101 != 0) = false:=bne_eq_false_iff_eq.mpr c64
        clear c64
        replace H:=Option.bind_eq_some_iff.mp H
        obtain ⟨⟨t120,t121,t122⟩,A650,H⟩:=H
        replace H : (if (t121 == t107 && (t122 == t108)) = true then (if t107 = 0 then (some (t120 == (decide ((t110.length : Int) ≥ a1)))) else (some (t120 == false))) else (none)) = some r:=H
        have A65:=Aside0.mk A650
        clear A650
        by_cases c66 : (t121 == t107 && (t122 == t108)) = true
        ·rw [if_pos c66] at H
         have c66b0 : (t121 == t107 && (t122 == t108)) = true:=c66
         (try (have c66b1 : decide (t121 = t107 && (t122 == t108)) = true:=by simpa using c66))
         (try (have c66b2 : (t121 == t107 && (t122 == t108)) = true:=by simpa using c66))
         clear c66
         by_cases c67 : t107 = 0
         ·rw [if_pos c67] at H
          have c67b0 : (t107 == 0) = true:=beq_iff_eq.mpr c67
          have c67b1 : (t107 != 0) = false:=bne_eq_false_iff_eq.mpr c67
          clear c67
          obtain rfl:=Option.some.inj H
          have hnb68:=NB103_109.out
          have hnc68:=NB109_103.out
          have hnb69:=NB103_115.out
          have hnc69:=NB115_103.out
          have hcz70_0 : wc.cell? ⟨gb103,0,none⟩ = some (.int .i64 t101):=(blk_cell BK103.out 0).trans rfl
          have hcz70_1 : wc.cell? ⟨gb103,1,none⟩ = some (.int .i64 t102):=(blk_cell BK103.out 1).trans rfl
          have hfz70_0:=blk_frozen BK103.out 0
          have hfz70_1:=blk_frozen BK103.out 1
          have hnb71:=NB109_115.out
          have hnc71:=NB115_109.out
          have hcz72_0 : wc.cell? ⟨gb109,0,none⟩ = some (.int .i64 t107):=(blk_cell BK109.out 0).trans rfl
          have hcz72_1 : wc.cell? ⟨gb109,1,none⟩ = some (.int .i64 t108):=(blk_cell BK109.out 1).trans rfl
          have hfz72_0:=blk_frozen BK109.out 0
          have hfz72_1:=blk_frozen BK109.out 1
          go_wp2_with (first|((with_reducible refine gate_callee (f:=31) rfl ?_);refine goesL_ (some 73) rfl rfl Try.func31 (by kernel_rfl) rfl #[.slice A0 l0.length c0,.int .i64 a1,.slice A2 l2.length c2,.slice A3 l3.length c3] rfl (by (try simp only [List.map_toArray,List.map_cons,List.map_nil]);first|done|rfl|(simp only [List.length_drop,List.length_take];rfl)) ?_;(with_reducible refine (threshold_Accept.calls kj22 _ _ l0 a1 _ _ l2 _ _ l3 t120 t121 t122 _ ?side1 ?side2 ?side3 ?side4 ?side5 ?side6 A65.out).mono ?_);(case side1 => exact Kd.C_below HR0.out (by repeat (first|(with_reducible first|exact HB.out|apply below_alloc|apply pw_below_drewN|apply below_drew1|refine below_set ?_ GE103.out|refine below_set ?_ GE109.out|refine below_set ?_ GE115.out)|exact HB.out)));(case side2 => exact HC0.out);(case side3 => exact Kd.C_below HR2.out (by repeat (first|(with_reducible first|exact HB.out|apply below_alloc|apply pw_below_drewN|apply below_drew1|refine below_set ?_ GE103.out|refine below_set ?_ GE109.out|refine below_set ?_ GE115.out)|exact HB.out)));(case side4 => exact HC2.out);(case side5 => exact Kd.C_below HR3.out (by repeat (first|(with_reducible first|exact HB.out|apply below_alloc|apply pw_below_drewN|apply below_drew1|refine below_set ?_ GE103.out|refine below_set ?_ GE109.out|refine below_set ?_ GE115.out)|exact HB.out)));(case side6 => exact HC3.out);rintro e w73 ⟨rfl,hb⟩;refine ⟨_,rfl,?_⟩;have n0_:=Aside0.mk (Kd.R_below (by (with_reducible repeat (first|apply Kd.R_alloc|apply Kd.R_drewN|apply Kd.R_drew));exact (Kd.R_mono (Kd.R_far (p:=⟨gb103,1,none⟩) (Kd.R_far (p:=⟨gb103,0,none⟩) (Kd.R_types HO_11.out BK103.out (by decide)) (fun _ hk => hk.2) (.int .i64 t107)) (fun _ hk => hk.2) (.int .i64 t108)) (fun _ h_ => h_.1))) hb);have n1_:=Aside0.mk (blk_below (g:=gb103) (o:=.cells #[.int .i64 t107,.int .i64 t108] 26 (0,0)) (by (with_reducible repeat (first|refine blk_drewN ?_ _|refine blk_drew ?_|refine blk_alloc ?_ _));refine blk_put (cs:=#[.int .i64 t107,.int .i64 t102]) ?_ 1 _ rfl;(with_reducible repeat (first|refine blk_drewN ?_ _|refine blk_drew ?_|refine blk_alloc ?_ _));refine blk_put (cs:=#[.int .i64 t101,.int .i64 t102]) ?_ 0 _ rfl;(with_reducible repeat (first|refine blk_drewN ?_ _|refine blk_drew ?_|refine blk_alloc ?_ _));exact BK103.out) hb);have n2_:=Aside0.mk (blk_below (g:=gb109) (o:=.cells #[.int .i64 t107,.int .i64 t108] 26 (0,0)) (by (with_reducible repeat (first|refine blk_drewN ?_ _|refine blk_drew ?_|refine blk_alloc ?_ _));refine blk_far ?_ NB109_103.out _;(with_reducible repeat (first|refine blk_drewN ?_ _|refine blk_drew ?_|refine blk_alloc ?_ _));refine blk_far ?_ NB109_103.out _;(with_reducible repeat (first|refine blk_drewN ?_ _|refine blk_drew ?_|refine blk_alloc ?_ _));exact BK109.out) hb);have n3_:=Aside0.mk (blk_below (g:=gb115) (o:=.cells #[.int .i64 t113,.int .i64 t114] 26 (0,0)) (by (with_reducible repeat (first|refine blk_drewN ?_ _|refine blk_drew ?_|refine blk_alloc ?_ _));refine blk_far ?_ NB115_103.out _;(with_reducible repeat (first|refine blk_drewN ?_ _|refine blk_drew ?_|refine blk_alloc ?_ _));refine blk_far ?_ NB115_103.out _;(with_reducible repeat (first|refine blk_drewN ?_ _|refine blk_drew ?_|refine blk_alloc ?_ _));exact BK115.out) hb);have n4_:=Aside0.mk (below_step (by repeat (first|(with_reducible first|exact HB.out|apply below_alloc|apply pw_below_drewN|apply below_drew1|refine below_set ?_ GE103.out|refine below_set ?_ GE109.out|refine below_set ?_ GE115.out)|exact HB.out)) hb);clear HO_11;clear BK103;clear BK109;clear BK115;clear HB;have HO_11:=n0_;have BK103:=n1_;have BK109:=n2_;have BK115:=n3_;have HB:=n4_;clear n0_ n1_ n2_ n3_ n4_;(try clear hb);(try clear hb2);(try clear hk);(try clear hi);have hcz74_0 : w73.cell? ⟨gb115,0,none⟩ = some (.int .i64 t113):=(blk_cell BK115.out 0).trans rfl;have hcz74_1 : w73.cell? ⟨gb115,1,none⟩ = some (.int .i64 t114):=(blk_cell BK115.out 1).trans rfl;have hfz74_0:=blk_frozen BK115.out 0;have hfz74_1:=blk_frozen BK115.out 1;have hcz75_0 : w73.cell? ⟨gb103,0,none⟩ = some (.int .i64 t107):=(blk_cell BK103.out 0).trans rfl;have hcz75_1 : w73.cell? ⟨gb103,1,none⟩ = some (.int .i64 t108):=(blk_cell BK103.out 1).trans rfl;have hfz75_0:=blk_frozen BK103.out 0;have hfz75_1:=blk_frozen BK103.out 1;obtain ⟨Ao76,co76,eo76⟩:=Kd.R_slice HO_11.out;subst eo76))
          go_ret
          exact ⟨by first|rfl|(simp [errW_none,errW_some] <;> rfl)|(simp [*,errW_none,errW_some] <;> rfl),by repeat (first|(with_reducible first|exact HB.out|apply below_alloc|apply pw_below_drewN|apply below_drew1|refine below_set ?_ GE103.out|refine below_set ?_ GE109.out|refine below_set ?_ GE115.out)|exact HB.out)⟩
         ·rw [if_neg c67] at H
          have c67b0 : (t107 == 0) = false:=beq_eq_false_iff_ne.mpr c67
          have c67b1 : (t107 != 0) = true:=bne_iff_ne.mpr c67
          obtain rfl:=Option.some.inj H
          have hnb77:=NB103_109.out
          have hnc77:=NB109_103.out
          have hnb78:=NB103_115.out
          have hnc78:=NB115_103.out
          have hcz79_0 : wc.cell? ⟨gb103,0,none⟩ = some (.int .i64 t101):=(blk_cell BK103.out 0).trans rfl
          have hcz79_1 : wc.cell? ⟨gb103,1,none⟩ = some (.int .i64 t102):=(blk_cell BK103.out 1).trans rfl
          have hfz79_0:=blk_frozen BK103.out 0
          have hfz79_1:=blk_frozen BK103.out 1
          have hnb80:=NB109_115.out
          have hnc80:=NB115_109.out
          have hcz81_0 : wc.cell? ⟨gb109,0,none⟩ = some (.int .i64 t107):=(blk_cell BK109.out 0).trans rfl
          have hcz81_1 : wc.cell? ⟨gb109,1,none⟩ = some (.int .i64 t108):=(blk_cell BK109.out 1).trans rfl
          have hfz81_0:=blk_frozen BK109.out 0
          have hfz81_1:=blk_frozen BK109.out 1
          go_wp2_with (first|((with_reducible refine gate_callee (f:=31) rfl ?_);refine goesL_ (some 73) rfl rfl Try.func31 (by kernel_rfl) rfl #[.slice A0 l0.length c0,.int .i64 a1,.slice A2 l2.length c2,.slice A3 l3.length c3] rfl (by (try simp only [List.map_toArray,List.map_cons,List.map_nil]);first|done|rfl|(simp only [List.length_drop,List.length_take];rfl)) ?_;(with_reducible refine (threshold_Accept.calls kj22 _ _ l0 a1 _ _ l2 _ _ l3 t120 t121 t122 _ ?side1 ?side2 ?side3 ?side4 ?side5 ?side6 A65.out).mono ?_);(case side1 => exact Kd.C_below HR0.out (by repeat (first|(with_reducible first|exact HB.out|apply below_alloc|apply pw_below_drewN|apply below_drew1|refine below_set ?_ GE103.out|refine below_set ?_ GE109.out|refine below_set ?_ GE115.out)|exact HB.out)));(case side2 => exact HC0.out);(case side3 => exact Kd.C_below HR2.out (by repeat (first|(with_reducible first|exact HB.out|apply below_alloc|apply pw_below_drewN|apply below_drew1|refine below_set ?_ GE103.out|refine below_set ?_ GE109.out|refine below_set ?_ GE115.out)|exact HB.out)));(case side4 => exact HC2.out);(case side5 => exact Kd.C_below HR3.out (by repeat (first|(with_reducible first|exact HB.out|apply below_alloc|apply pw_below_drewN|apply below_drew1|refine below_set ?_ GE103.out|refine below_set ?_ GE109.out|refine below_set ?_ GE115.out)|exact HB.out)));(case side6 => exact HC3.out);rintro e w82 ⟨rfl,hb⟩;refine ⟨_,rfl,?_⟩;have n0_:=Aside0.mk (blk_below (g:=gb103) (o:=.cells #[.int .i64 t107,.int .i64 t108] 26 (0,0)) (by (with_reducible repeat (first|refine blk_drewN ?_ _|refine blk_drew ?_|refine blk_alloc ?_ _));refine blk_put (cs:=#[.int .i64 t107,.int .i64 t102]) ?_ 1 _ rfl;(with_reducible repeat (first|refine blk_drewN ?_ _|refine blk_drew ?_|refine blk_alloc ?_ _));refine blk_put (cs:=#[.int .i64 t101,.int .i64 t102]) ?_ 0 _ rfl;(with_reducible repeat (first|refine blk_drewN ?_ _|refine blk_drew ?_|refine blk_alloc ?_ _));exact BK103.out) hb);have n1_:=Aside0.mk (blk_below (g:=gb109) (o:=.cells #[.int .i64 t107,.int .i64 t108] 26 (0,0)) (by (with_reducible repeat (first|refine blk_drewN ?_ _|refine blk_drew ?_|refine blk_alloc ?_ _));refine blk_far ?_ NB109_103.out _;(with_reducible repeat (first|refine blk_drewN ?_ _|refine blk_drew ?_|refine blk_alloc ?_ _));refine blk_far ?_ NB109_103.out _;(with_reducible repeat (first|refine blk_drewN ?_ _|refine blk_drew ?_|refine blk_alloc ?_ _));exact BK109.out) hb);have n2_:=Aside0.mk (blk_below (g:=gb115) (o:=.cells #[.int .i64 t113,.int .i64 t114] 26 (0,0)) (by (with_reducible repeat (first|refine blk_drewN ?_ _|refine blk_drew ?_|refine blk_alloc ?_ _));refine blk_far ?_ NB115_103.out _;(with_reducible repeat (first|refine blk_drewN ?_ _|refine blk_drew ?_|refine blk_alloc ?_ _));refine blk_far ?_ NB115_103.out _;(with_reducible repeat (first|refine blk_drewN ?_ _|refine blk_drew ?_|refine blk_alloc ?_ _));exact BK115.out) hb);have n3_:=Aside0.mk (below_step (by repeat (first|(with_reducible first|exact HB.out|apply below_alloc|apply pw_below_drewN|apply below_drew1|refine below_set ?_ GE103.out|refine below_set ?_ GE109.out|refine below_set ?_ GE115.out)|exact HB.out)) hb);clear BK103;clear BK109;clear BK115;clear HB;have BK103:=n0_;have BK109:=n1_;have BK115:=n2_;have HB:=n3_;clear n0_ n1_ n2_ n3_;(try clear hb);(try clear hb2);(try clear hk);(try clear hi);have hcz83_0 : w82.cell? ⟨gb115,0,none⟩ = some (.int .i64 t113):=(blk_cell BK115.out 0).trans rfl;have hcz83_1 : w82.cell? ⟨gb115,1,none⟩ = some (.int .i64 t114):=(blk_cell BK115.out 1).trans rfl;have hfz83_0:=blk_frozen BK115.out 0;have hfz83_1:=blk_frozen BK115.out 1;have hcz84_0 : w82.cell? ⟨gb103,0,none⟩ = some (.int .i64 t107):=(blk_cell BK103.out 0).trans rfl;have hcz84_1 : w82.cell? ⟨gb103,1,none⟩ = some (.int .i64 t108):=(blk_cell BK103.out 1).trans rfl;have hfz84_0:=blk_frozen BK103.out 0;have hfz84_1:=blk_frozen BK103.out 1))
          go_ret
          exact ⟨by first|rfl|(simp [errW_none,errW_some] <;> rfl)|(simp [*,errW_none,errW_some] <;> rfl),by repeat (first|(with_reducible first|exact HB.out|apply below_alloc|apply pw_below_drewN|apply below_drew1|refine below_set ?_ GE103.out|refine below_set ?_ GE109.out|refine below_set ?_ GE115.out)|exact HB.out)⟩
        ·rw [if_neg c66] at H
         exact absurd H (by simp)
       ·rw [if_neg c64] at H
        have c64b0 : (t101 == 0) = false:=beq_eq_false_iff_ne.mpr c64
        have c64b1 : (t101 != 0) = true:=bne_iff_ne.mpr c64
        replace H:=Option.bind_eq_some_iff.mp H
        obtain ⟨⟨t123,t124,t125⟩,A850,H⟩:=H
        replace H : (if (t124 == t101 && (t125 == t102)) = true then (some (t123 == false)) else (none)) = some r:=H
        have A85:=Aside0.mk A850
        clear A850
        by_cases c86 : (t124 == t101 && (t125 == t102)) = true
        ·rw [if_pos c86] at H
         have c86b0 : (t124 == t101 && (t125 == t102)) = true:=c86
         (try (have c86b1 : decide (t124 = t101 && (t125 == t102)) = true:=by simpa using c86))
         (try (have c86b2 : (t124 == t101 && (t125 == t102)) = true:=by simpa using c86))
         clear c86
         obtain rfl:=Option.some.inj H
         have hnb87:=NB103_109.out
         have hnc87:=NB109_103.out
         have hnb88:=NB103_115.out
         have hnc88:=NB115_103.out
         have hcz89_0 : wc.cell? ⟨gb103,0,none⟩ = some (.int .i64 t101):=(blk_cell BK103.out 0).trans rfl
         have hcz89_1 : wc.cell? ⟨gb103,1,none⟩ = some (.int .i64 t102):=(blk_cell BK103.out 1).trans rfl
         have hfz89_0:=blk_frozen BK103.out 0
         have hfz89_1:=blk_frozen BK103.out 1
         go_wp2_with (first|((with_reducible refine gate_callee (f:=31) rfl ?_);refine goesL_ (some 73) rfl rfl Try.func31 (by kernel_rfl) rfl #[.slice A0 l0.length c0,.int .i64 a1,.slice A2 l2.length c2,.slice A3 l3.length c3] rfl (by (try simp only [List.map_toArray,List.map_cons,List.map_nil]);first|done|rfl|(simp only [List.length_drop,List.length_take];rfl)) ?_;(with_reducible refine (threshold_Accept.calls kj22 _ _ l0 a1 _ _ l2 _ _ l3 t123 t124 t125 _ ?side1 ?side2 ?side3 ?side4 ?side5 ?side6 A85.out).mono ?_);(case side1 => repeat (first|exact (Kd.C_below HR0.out HB.out)|(with_reducible refine Kd.C_alloc ?_ _)|(with_reducible refine Kd.C_drewN ?_ _)|(with_reducible refine Kd.C_drew ?_)));(case side2 => exact HC0.out);(case side3 => repeat (first|exact (Kd.C_below HR2.out HB.out)|(with_reducible refine Kd.C_alloc ?_ _)|(with_reducible refine Kd.C_drewN ?_ _)|(with_reducible refine Kd.C_drew ?_)));(case side4 => exact HC2.out);(case side5 => repeat (first|exact (Kd.C_below HR3.out HB.out)|(with_reducible refine Kd.C_alloc ?_ _)|(with_reducible refine Kd.C_drewN ?_ _)|(with_reducible refine Kd.C_drew ?_)));(case side6 => exact HC3.out);rintro e w90 ⟨rfl,hb⟩;refine ⟨_,rfl,?_⟩;have n0_:=Aside0.mk (blk_below (g:=gb103) (o:=.cells #[.int .i64 t101,.int .i64 t102] 26 (0,0)) (by (with_reducible repeat (first|refine blk_drewN ?_ _|refine blk_drew ?_|refine blk_alloc ?_ _));exact BK103.out) hb);have n1_:=Aside0.mk (blk_below (g:=gb109) (o:=.cells #[.int .i64 t107,.int .i64 t108] 26 (0,0)) (by (with_reducible repeat (first|refine blk_drewN ?_ _|refine blk_drew ?_|refine blk_alloc ?_ _));exact BK109.out) hb);have n2_:=Aside0.mk (blk_below (g:=gb115) (o:=.cells #[.int .i64 t113,.int .i64 t114] 26 (0,0)) (by (with_reducible repeat (first|refine blk_drewN ?_ _|refine blk_drew ?_|refine blk_alloc ?_ _));exact BK115.out) hb);have n3_:=Aside0.mk (below_step (by repeat (first|(with_reducible first|exact HB.out|apply below_alloc|apply pw_below_drewN|apply below_drew1|refine below_set ?_ GE103.out|refine below_set ?_ GE109.out|refine below_set ?_ GE115.out)|exact HB.out)) hb);clear BK103;clear BK109;clear BK115;clear HB;have BK103:=n0_;have BK109:=n1_;have BK115:=n2_;have HB:=n3_;clear n0_ n1_ n2_ n3_;(try clear hb);(try clear hb2);(try clear hk);(try clear hi);have hnb91:=NB115_109.out;have hnc91:=NB109_115.out;have hcz92_0 : w90.cell? ⟨gb115,0,none⟩ = some (.int .i64 t113):=(blk_cell BK115.out 0).trans rfl;have hcz92_1 : w90.cell? ⟨gb115,1,none⟩ = some (.int .i64 t114):=(blk_cell BK115.out 1).trans rfl;have hfz92_0:=blk_frozen BK115.out 0;have hfz92_1:=blk_frozen BK115.out 1;have hcz93_0 : w90.cell? ⟨gb103,0,none⟩ = some (.int .i64 t101):=(blk_cell BK103.out 0).trans rfl;have hcz93_1 : w90.cell? ⟨gb103,1,none⟩ = some (.int .i64 t102):=(blk_cell BK103.out 1).trans rfl;have hfz93_0:=blk_frozen BK103.out 0;have hfz93_1:=blk_frozen BK103.out 1))
         go_ret
         exact ⟨by first|rfl|(simp [errW_none,errW_some] <;> rfl)|(simp [*,errW_none,errW_some] <;> rfl),by repeat (first|(with_reducible first|exact HB.out|apply below_alloc|apply pw_below_drewN|apply below_drew1|refine below_set ?_ GE103.out|refine below_set ?_ GE109.out|refine below_set ?_ GE115.out)|exact HB.out)⟩
        ·rw [if_neg c86] at H
         exact absurd H (by simp)

end Go.Proofs.Ytmpboljmigigfaa.Fn
