/- A function of the program as a plain Lean function, and the proof that the call comes to just what it says (written by wip/tools/xprint.py for this claim). Condition: the plain function has an answer. -/
import Derived.Test.YtmpboljmigigfaaFn0
import Derived.Test.YtmpboljmigigfaaFf22
import Derived.Test.YtmpboljmigigfaaFf44
import Derived.Test.YtmpboljmigigfaaFf45
import Derived.Test.YtmpboljmigigfaaFs0
import Derived.Test.YtmpboljmigigfaaWApart
import Derived.Test.YtmpboljmigigfaaWKept
import Derived.Test.YtmpboljmigigfaaWLast
import Derived.Test.YtmpboljmigigfaaWMore
import Derived.Test.YtmpboljmigigfaaWN
import Derived.Test.YtmpboljmigigfaaWRepsOne
import Derived.Test.YtmpboljmigigfaaWWords
namespace Go.Proofs.Ytmpboljmigigfaa.Fn
open Go.RowKit Go.Proofs.YtmpboljmigigfaaW.PrintWords Go.Proofs.YtmpboljmigigfaaW.PrintLast Go.Proofs.YtmpboljmigigfaaW.PrintMore
attribute [local go_sem] max2_int min2_int max_two min_two max_three min_three max_four min_four   -- for this text's walks alone
set_option linter.unusedVariables false
set_option linter.unusedSimpArgs false

attribute [local go_sem high] eqA26
/-! ### threshold_Signers: function 29 -/
mutual
def threshold_Signers.l0 : Nat → List Int → List Int → List Bool → List (S54) → Int → Int → Option (List Int × Int × Int)
 | 0,_,_,_,_,_,_ => none
 | k + 1,x0,x1,x9,x36,x37,x38 => if x38 < x37 then (if 0 ≤ x38 then (if x38 < (x36.length : Int) then ((signing_IsKey.f ((rd_T54 x36 x38).f0)).bind fun t110 => (if t110 = true then ((signing_IsDigest.f ((rd_T54 x36 x38).f1)).bind fun t111 => (threshold_Signers.j1 k x0 x1 x9 x38 x36 x37 x38 (!t111) ((rd_T54 x36 x38).f0) ((rd_T54 x36 x38).f1))) else (threshold_Signers.j1 k x0 x1 x9 x38 x36 x37 x38 true ((rd_T54 x36 x38).f0) ((rd_T54 x36 x38).f1)))) else (none)) else (none)) else (threshold_Signers.l1 k x9 ([] : List Int) x0 (x0.length : Int) 0)
def threshold_Signers.j1 : Nat → List Int → List Int → List Bool → Int → List (S54) → Int → Int → Bool → Int → Int → Option (List Int × Int × Int)
 | 0,_,_,_,_,_,_,_,_,_,_ => none
 | k + 1,x0,x1,x9,x10,x36,x37,x38,x52,x110000,x110001 => if x52 = true then (some (([] : List Int),3,wrap64 ((x0.length : Int) + x10))) else ((slices_BinarySearch_int_int.f k x0 x110000).bind fun bt112 => (if bt112.2 = true then ((signing_Verify.f k x110000 x1 x110001).bind fun bt114 => (if 0 ≤ bt112.1 then (if bt112.1 < (x9.length : Int) then (if rdOf false x9 bt112.1 = true then (threshold_Signers.l0 k x0 x1 (x9.set (bt112.1 : Int).toNat true) x36 x37 (wrap64 (x38 + 1))) else (threshold_Signers.l0 k x0 x1 (x9.set (bt112.1 : Int).toNat bt114.1) x36 x37 (wrap64 (x38 + 1)))) else (none)) else (none))) else (threshold_Signers.l0 k x0 x1 x9 x36 x37 (wrap64 (x38 + 1)))))
def threshold_Signers.l1 : Nat → List Bool → List Int → List Int → Int → Int → Option (List Int × Int × Int)
 | 0,_,_,_,_,_ => none
 | k + 1,x9,x16,x86,x87,x88 => if x88 < x87 then (if 0 ≤ x88 then (if x88 < (x86.length : Int) then (if x88 < (x9.length : Int) then (if rdOf false x9 x88 = true then (if x16.length < 17592186044416 then (threshold_Signers.l1 k x9 (x16 ++ [rd x86 x88]) x86 x87 (wrap64 (x88 + 1))) else (none)) else (threshold_Signers.l1 k x9 x16 x86 x87 (wrap64 (x88 + 1)))) else (none)) else (none)) else (none)) else (some (x16,0,0))
end
def threshold_Signers.f (k : Nat) (l0 : List Int) (l1 : List Int) (l2 : List (S54)) : Option (List Int × Int × Int):=(threshold_keysFault.f k l0).bind fun bt102 => (if (!(bt102.1 == 0) || (!(bt102.2 == 0))) = true then (some (([] : List Int),bt102.1,bt102.2)) else (if (l1.length : Int) > 4096 then (some (([] : List Int),2,(-2))) else (if (l2.length : Int) > 24 then (some (([] : List Int),2,(-3))) else (if 0 ≤ (l0.length : Int) then (if ((l0.length : Int) : Int).toNat ≤ 281474976710656 then (threshold_Signers.l0 k l0 l1 (List.replicate ((l0.length : Int) : Int).toNat false) l2 (l2.length : Int) 0) else (none)) else (none)))))
theorem threshold_Signers.mono_l : ∀ k,(∀ y0 y1 y2 y3 y4 y5,LeO (threshold_Signers.l0 k y0 y1 y2 y3 y4 y5) (threshold_Signers.l0 (k + 1) y0 y1 y2 y3 y4 y5)) ∧ (∀ y0 y1 y2 y3 y4 y5 y6 y7 y8 y9,LeO (threshold_Signers.j1 k y0 y1 y2 y3 y4 y5 y6 y7 y8 y9) (threshold_Signers.j1 (k + 1) y0 y1 y2 y3 y4 y5 y6 y7 y8 y9)) ∧ (∀ y0 y1 y2 y3 y4,LeO (threshold_Signers.l1 k y0 y1 y2 y3 y4) (threshold_Signers.l1 (k + 1) y0 y1 y2 y3 y4))
 | 0 => ⟨fun _ _ _ _ _ _ r h => by simp [threshold_Signers.l0] at h,fun _ _ _ _ _ _ _ _ _ _ r h => by simp [threshold_Signers.j1] at h,fun _ _ _ _ _ r h => by simp [threshold_Signers.l1] at h⟩
 | k + 1 => by
  obtain ⟨ih0,ih1,ih2⟩:=threshold_Signers.mono_l k
  refine ⟨?_,?_,?_⟩
  ·intro y0 y1 y2 y3 y4 y5
   unfold threshold_Signers.l0
   repeat' first
   | (with_reducible exact ih0 _ _ _ _ _ _)
   | (with_reducible exact ih1 _ _ _ _ _ _ _ _ _ _)
   | (with_reducible exact ih2 _ _ _ _ _)
   | (with_reducible exact signing_Verify.mono _ _ _ _)
   | (with_reducible exact slices_BinarySearch_int_int.mono _ _ _)
   | (with_reducible exact threshold_keysFault.mono _ _)
   | (with_reducible exact LeO.refl _)
   | (with_reducible exact LeO.none _)
   | (with_reducible refine LeO.ite ?_ ?_)
   | (with_reducible refine LeO.bind ?_ (fun _ => ?_))
   | exact ih0 _ _ _ _ _ _
   | exact ih1 _ _ _ _ _ _ _ _ _ _
   | exact ih2 _ _ _ _ _
   | exact signing_Verify.mono _ _ _ _
   | exact slices_BinarySearch_int_int.mono _ _ _
   | exact threshold_keysFault.mono _ _
   | exact LeO.none _
   | refine LeO.ite ?_ ?_
   | refine LeO.bind ?_ (fun _ => ?_)
  ·intro y0 y1 y2 y3 y4 y5 y6 y7 y8 y9
   unfold threshold_Signers.j1
   repeat' first
   | (with_reducible exact ih0 _ _ _ _ _ _)
   | (with_reducible exact ih1 _ _ _ _ _ _ _ _ _ _)
   | (with_reducible exact ih2 _ _ _ _ _)
   | (with_reducible exact signing_Verify.mono _ _ _ _)
   | (with_reducible exact slices_BinarySearch_int_int.mono _ _ _)
   | (with_reducible exact threshold_keysFault.mono _ _)
   | (with_reducible exact LeO.refl _)
   | (with_reducible exact LeO.none _)
   | (with_reducible refine LeO.ite ?_ ?_)
   | (with_reducible refine LeO.bind ?_ (fun _ => ?_))
   | exact ih0 _ _ _ _ _ _
   | exact ih1 _ _ _ _ _ _ _ _ _ _
   | exact ih2 _ _ _ _ _
   | exact signing_Verify.mono _ _ _ _
   | exact slices_BinarySearch_int_int.mono _ _ _
   | exact threshold_keysFault.mono _ _
   | exact LeO.none _
   | refine LeO.ite ?_ ?_
   | refine LeO.bind ?_ (fun _ => ?_)
  ·intro y0 y1 y2 y3 y4
   unfold threshold_Signers.l1
   repeat' first
   | (with_reducible exact ih0 _ _ _ _ _ _)
   | (with_reducible exact ih1 _ _ _ _ _ _ _ _ _ _)
   | (with_reducible exact ih2 _ _ _ _ _)
   | (with_reducible exact signing_Verify.mono _ _ _ _)
   | (with_reducible exact slices_BinarySearch_int_int.mono _ _ _)
   | (with_reducible exact threshold_keysFault.mono _ _)
   | (with_reducible exact LeO.refl _)
   | (with_reducible exact LeO.none _)
   | (with_reducible refine LeO.ite ?_ ?_)
   | (with_reducible refine LeO.bind ?_ (fun _ => ?_))
   | exact ih0 _ _ _ _ _ _
   | exact ih1 _ _ _ _ _ _ _ _ _ _
   | exact ih2 _ _ _ _ _
   | exact signing_Verify.mono _ _ _ _
   | exact slices_BinarySearch_int_int.mono _ _ _
   | exact threshold_keysFault.mono _ _
   | exact LeO.none _
   | refine LeO.ite ?_ ?_
   | refine LeO.bind ?_ (fun _ => ?_)
theorem threshold_Signers.mono : ∀ a0 a1 a2 k,LeO (threshold_Signers.f k a0 a1 a2) (threshold_Signers.f (k + 1) a0 a1 a2):=by
 intro a0 a1 a2 k
 obtain ⟨ih0,ih1,ih2⟩:=threshold_Signers.mono_l k
 unfold threshold_Signers.f
 repeat' first
   | (with_reducible exact ih0 _ _ _ _ _ _)
   | (with_reducible exact ih1 _ _ _ _ _ _ _ _ _ _)
   | (with_reducible exact ih2 _ _ _ _ _)
   | (with_reducible exact signing_Verify.mono _ _ _ _)
   | (with_reducible exact slices_BinarySearch_int_int.mono _ _ _)
   | (with_reducible exact threshold_keysFault.mono _ _)
   | (with_reducible exact LeO.refl _)
   | (with_reducible exact LeO.none _)
   | (with_reducible refine LeO.ite ?_ ?_)
   | (with_reducible refine LeO.bind ?_ (fun _ => ?_))
   | exact ih0 _ _ _ _ _ _
   | exact ih1 _ _ _ _ _ _ _ _ _ _
   | exact ih2 _ _ _ _ _
   | exact signing_Verify.mono _ _ _ _
   | exact slices_BinarySearch_int_int.mono _ _ _
   | exact threshold_keysFault.mono _ _
   | exact LeO.none _
   | refine LeO.ite ?_ ?_
   | refine LeO.bind ?_ (fun _ => ?_)
set_option maxHeartbeats 8000000 in
set_option maxRecDepth 100000 in
theorem threshold_Signers.calls (k : Nat) (A0 : Option Addr) (c0 : Nat) (l0 : List Int) (A1 : Option Addr) (c1 : Nat) (l1 : List Int) (A2 : Option Addr) (c2 : Nat) (l2 : List (S54)) (r1 : List Int) (r2 : Int) (r3 : Int) (w : World) (hr0 : Kd.C (Kd.int .i64) w A0 l0.length l0) (hc0 : l0.length ≤ c0) (hr1 : Kd.C (Kd.int .u8) w A1 l1.length l1) (hc1 : l1.length ≤ c1) (hr2 : Kd.C k54 w A2 l2.length l2) (hc2 : l2.length ≤ c2) (h : threshold_Signers.f k l0 l1 l2 = some (r1,r2,r3)) :
  Calls Try.prog 29 #[.slice A0 l0.length c0,.slice A1 l1.length c1,.slice A2 l2.length c2] w fun e w' => ∃ v0_ : Value,e = .returned (.tuple #[v0_,.agg #[.int .i64 r2,.int .i64 r3]]) ∧ Kd.R (Kd.int .i64) 3 w' w.heap.size (fun _ => True) v0_ r1 ∧ Below w.heap.size w w':=by
 have hu26:=Try.underlying26
 have hu54:=Try.underlying54
 have HR0:=Aside0.mk hr0
 have HC0:=Aside0.mk hc0
 clear hr0 hc0
 have HR1:=Aside0.mk hr1
 have HC1:=Aside0.mk hc1
 clear hr1 hc1
 have HR2:=Aside0.mk hr2
 have HC2:=Aside0.mk hc2
 clear hr2 hc2
 have HB:=Aside0.mk (Below.refl w.heap.size w)
 have H : ((threshold_keysFault.f k l0).bind fun bt102 => (if (!(bt102.1 == 0) || (!(bt102.2 == 0))) = true then (some (([] : List Int),bt102.1,bt102.2)) else (if (l1.length : Int) > 4096 then (some (([] : List Int),2,(-2))) else (if (l2.length : Int) > 24 then (some (([] : List Int),2,(-3))) else (if 0 ≤ (l0.length : Int) then (if ((l0.length : Int) : Int).toNat ≤ 281474976710656 then (threshold_Signers.l0 k l0 l1 (List.replicate ((l0.length : Int) : Int).toNat false) l2 (l2.length : Int) 0) else (none)) else (none)))))) = some (r1,r2,r3):=h
 clear h
 replace H:=Option.bind_eq_some_iff.mp H
 obtain ⟨⟨t102,t103⟩,A40,H⟩:=H
 replace H : (if (!(t102 == 0) || (!(t103 == 0))) = true then (some (([] : List Int),t102,t103)) else (if (l1.length : Int) > 4096 then (some (([] : List Int),2,(-2))) else (if (l2.length : Int) > 24 then (some (([] : List Int),2,(-3))) else (if 0 ≤ (l0.length : Int) then (if ((l0.length : Int) : Int).toNat ≤ 281474976710656 then (threshold_Signers.l0 k l0 l1 (List.replicate ((l0.length : Int) : Int).toNat false) l2 (l2.length : Int) 0) else (none)) else (none))))) = some (r1,r2,r3):=H
 have A4:=Aside0.mk A40
 clear A40
 by_cases c5 : (!(t102 == 0) || (!(t103 == 0))) = true
 ·rw [if_pos c5] at H
  have c5b0 : (!(t102 == 0) || (!(t103 == 0))) = true:=c5
  clear c5
  simp only [Option.some.injEq,Prod.mk.injEq] at H
  obtain ⟨rfl,rfl,rfl⟩:=H
  go_enter Try.func29,Try.ntmps29
  try go_wp2_with (first|((with_reducible refine gate_dst (N:=7) rfl ?_);refine box_event ?hg (N:=7) ?hd (cs:=#[.int .i64 0,.int .i64 0]) (t:=26) ?hr ?_;(case hd => rfl);(case hg => rfl);(case hr => first|(go_simp;done)|(go_simp;rfl));intro gb101 hg w6 hbox hb;have n0_:=Aside0.mk (below_step (by repeat (first|(with_reducible first|exact HB.out|apply below_alloc|apply pw_below_drewN|apply below_drew1)|exact HB.out)) hb);have n1_:=Aside0.mk (hbox);have n2_:=Aside0.mk ((by rw [hg];exact (below_size (by repeat (first|(with_reducible first|exact HB.out|apply below_alloc|apply pw_below_drewN|apply below_drew1)|exact HB.out))) : w.heap.size ≤ gb101));have n3_:=Aside0.mk ((by rw [hg];exact (below_size (by repeat (first|(with_reducible first|exact HB.out|apply below_alloc|apply pw_below_drewN|apply below_drew1)|exact HB.out))) : w.heap.size ≤ gb101));clear HB;have HB:=n0_;have BK101:=n1_;have GW101:=n2_;have GE101:=n3_;clear n0_ n1_ n2_ n3_;clear hb hbox hg)|((with_reducible refine gate_callee (f:=44) rfl ?_);refine goesL_ (some 20) rfl rfl Try.func44 (by kernel_rfl) rfl #[.slice A0 l0.length c0] rfl (by (try simp only [List.map_toArray,List.map_cons,List.map_nil]);first|done|rfl|(simp only [List.length_drop,List.length_take];rfl)) ?_;(with_reducible refine (threshold_keysFault.calls k _ _ l0 t102 t103 _ ?side1 ?side2 A4.out).mono ?_);(case side1 => repeat (first|exact (Kd.C_below HR0.out HB.out)|(with_reducible refine Kd.C_alloc ?_ _)|(with_reducible refine Kd.C_drewN ?_ _)|(with_reducible refine Kd.C_drew ?_)));(case side2 => exact HC0.out);rintro e w7 ⟨rfl,hb⟩;refine ⟨_,rfl,?_⟩;have n0_:=Aside0.mk (blk_below (g:=gb101) (o:=.cells #[.int .i64 0,.int .i64 0] 26 (0,0)) (by (with_reducible repeat (first|refine blk_drewN ?_ _|refine blk_drew ?_|refine blk_alloc ?_ _));exact BK101.out) hb);have n1_:=Aside0.mk (below_step (by repeat (first|(with_reducible first|exact HB.out|apply below_alloc|apply pw_below_drewN|apply below_drew1|refine below_set ?_ GE101.out)|exact HB.out)) hb);clear BK101;clear HB;have BK101:=n0_;have HB:=n1_;clear n0_ n1_;(try clear hb);(try clear hb2);(try clear hk);(try clear hi))|((with_reducible refine gate_dst (N:=8) rfl ?_);refine box_event ?hg (N:=8) ?hd (cs:=#[.int .i64 0,.int .i64 0]) (t:=26) ?hr ?_;(case hd => rfl);(case hg => rfl);(case hr => first|(go_simp;done)|(go_simp;rfl));intro gb104 hg w8 hbox hb;have n0_:=Aside0.mk (blk_below (g:=gb101) (o:=.cells #[.int .i64 0,.int .i64 0] 26 (0,0)) (by (with_reducible repeat (first|refine blk_drewN ?_ _|refine blk_drew ?_|refine blk_alloc ?_ _));exact BK101.out) hb);have n1_:=Aside0.mk (below_step (by repeat (first|(with_reducible first|exact HB.out|apply below_alloc|apply pw_below_drewN|apply below_drew1|refine below_set ?_ GE101.out)|exact HB.out)) hb);have n2_:=Aside0.mk (hbox);have n3_:=Aside0.mk ((by rw [hg];exact (below_size (by repeat (first|(with_reducible first|exact HB.out|apply below_alloc|apply pw_below_drewN|apply below_drew1|refine below_set ?_ GE101.out)|exact HB.out))) : w.heap.size ≤ gb104));have n4_:=Aside0.mk ((by rw [hg];exact (below_size (by repeat (first|(with_reducible first|exact HB.out|apply below_alloc|apply pw_below_drewN|apply below_drew1|refine below_set ?_ GE101.out)|exact HB.out))) : w.heap.size ≤ gb104));have n5_:=Aside0.mk ((by rw [hg];exact Nat.ne_of_lt (blk_lt (g:=gb101) (o:=.cells #[.int .i64 0,.int .i64 0] 26 (0,0)) (by (with_reducible repeat (first|refine blk_drewN ?_ _|refine blk_drew ?_|refine blk_alloc ?_ _));exact BK101.out)) : gb101 ≠ gb104));have n6_:=Aside0.mk ((by rw [hg];exact Nat.ne_of_gt (blk_lt (g:=gb101) (o:=.cells #[.int .i64 0,.int .i64 0] 26 (0,0)) (by (with_reducible repeat (first|refine blk_drewN ?_ _|refine blk_drew ?_|refine blk_alloc ?_ _));exact BK101.out)) : gb104 ≠ gb101));clear BK101;clear HB;have BK101:=n0_;have HB:=n1_;have BK104:=n2_;have GW104:=n3_;have GE104:=n4_;have NB101_104:=n5_;have NB104_101:=n6_;clear n0_ n1_ n2_ n3_ n4_ n5_ n6_;clear hb hbox hg;have hnb9:=NB104_101.out;have hnc9:=NB101_104.out;have hcz10_0 : w8.cell? ⟨gb104,0,none⟩ = some (.int .i64 0):=(blk_cell BK104.out 0).trans rfl;have hcz10_1 : w8.cell? ⟨gb104,1,none⟩ = some (.int .i64 0):=(blk_cell BK104.out 1).trans rfl;have hfz10_0:=blk_frozen BK104.out 0;have hfz10_1:=blk_frozen BK104.out 1))
  have n0_ : Aside0 (((w8.setCell ⟨gb104,0,none⟩ (.int .i64 t102)).setCell ⟨gb104,1,none⟩ (.int .i64 t103)).heap[gb101]? = some (.cells #[.int .i64 0,.int .i64 0] 26 (0,0))):=⟨by (with_reducible repeat (first|refine blk_drewN ?_ _|refine blk_drew ?_|refine blk_alloc ?_ _));refine blk_far ?_ NB101_104.out _;(with_reducible repeat (first|refine blk_drewN ?_ _|refine blk_drew ?_|refine blk_alloc ?_ _));refine blk_far ?_ NB101_104.out _;(with_reducible repeat (first|refine blk_drewN ?_ _|refine blk_drew ?_|refine blk_alloc ?_ _));exact BK101.out⟩
  have n1_ : Aside0 (((w8.setCell ⟨gb104,0,none⟩ (.int .i64 t102)).setCell ⟨gb104,1,none⟩ (.int .i64 t103)).heap[gb104]? = some (.cells #[.int .i64 t102,.int .i64 t103] 26 (0,0))):=⟨by (with_reducible repeat (first|refine blk_drewN ?_ _|refine blk_drew ?_|refine blk_alloc ?_ _));refine blk_put (cs:=#[.int .i64 t102,.int .i64 0]) ?_ 1 _ rfl;(with_reducible repeat (first|refine blk_drewN ?_ _|refine blk_drew ?_|refine blk_alloc ?_ _));refine blk_put (cs:=#[.int .i64 0,.int .i64 0]) ?_ 0 _ rfl;(with_reducible repeat (first|refine blk_drewN ?_ _|refine blk_drew ?_|refine blk_alloc ?_ _));exact BK104.out⟩
  have n2_ : Aside0 (Below w.heap.size w ((w8.setCell ⟨gb104,0,none⟩ (.int .i64 t102)).setCell ⟨gb104,1,none⟩ (.int .i64 t103))):=⟨by repeat (first|(with_reducible first|exact HB.out|apply below_alloc|apply pw_below_drewN|apply below_drew1|refine below_set ?_ GE101.out|refine below_set ?_ GE104.out)|exact HB.out)⟩
  (try clear BK101)
  (try clear BK104)
  (try clear HB)
  generalize ((w8.setCell ⟨gb104,0,none⟩ (.int .i64 t102)).setCell ⟨gb104,1,none⟩ (.int .i64 t103)) = w11 at n0_ n1_ n2_ ⊢
  have BK101:=n0_
  have BK104:=n1_
  have HB:=n2_
  clear n0_ n1_ n2_
  have n0_:=Aside0.mk (blk_drew BK101.out)
  have n1_:=Aside0.mk (blk_drew BK104.out)
  have n2_:=Aside0.mk (below_drew1 HB.out)
  clear BK101
  clear BK104
  clear HB
  have BK101:=n0_
  have BK104:=n1_
  have HB:=n2_
  clear n0_ n1_ n2_
  refine start_ (n:=3) (S:=fun w' => w'.cell? ⟨gb104,0,none⟩ = some (.int .i64 t102) ∧ w'.cell? ⟨gb104,1,none⟩ = some (.int .i64 t103)) (ds:=[]) #[false,false,false] (by kernel_rfl) rfl rfl ⟨(blk_cell BK104.out 0).trans rfl,(blk_cell BK104.out 1).trans rfl⟩ (fun hHeld => ?_)
  generalize w11.drew = w12 at BK101 BK104 HB hHeld ⊢
  refine pure_ (i:=1) (N:=some 6) (v:=?_) (a':=?_) #[false,true,false] rfl rfl (by kernel_rfl) (fun _ _ _ h => h) (Or.inl ⟨by rfl,?_⟩) ?_ ?_
  rotate_left
  ·intro w'
   go_simp
   with_reducible rfl
  rotate_left
  ·simp only [Act.put,List.setIfInBounds_toArray,List.set_cons_zero,List.set_cons_succ,i64_w,i32_w]
   rfl
  refine take_ (i:=0) (N:=some 24) (v:=?_) (a':=?_) #[true,true,false] rfl rfl (by kernel_rfl) (fun _ _ _ h => h) (Or.inl ⟨by rfl,?_⟩) hHeld ?_ ?_
  rotate_left
  ·rintro w' ⟨s0,s1⟩
   go_simp
   with_reducible rfl
  rotate_left
  ·simp only [Act.put,List.setIfInBounds_toArray,List.set_cons_zero,List.set_cons_succ,i64_w,i32_w]
   rfl
  refine one_ (i:=2) (N:=none) #[true,true,true] rfl rfl (by kernel_rfl) (by decide) (fun K hK => ?_)
  have hs13 : w12.cell? ⟨gb101,0,none⟩ = some (.int .i64 0):=(blk_cell BK101.out 0).trans rfl
  have hfs13:=blk_frozen BK101.out 0
  have hns13_1:=NB104_101.out
  have hms13_1:=NB101_104.out
  have hs14 : w12.cell? ⟨gb101,1,none⟩ = some (.int .i64 0):=(blk_cell BK101.out 1).trans rfl
  have hfs14:=blk_frozen BK101.out 1
  have hns14_1:=NB104_101.out
  have hms14_1:=NB101_104.out
  refine skip_ (w1:=?_) (by rfl) rfl ?_ ?_
  rotate_left
  ·go_simp
   rfl
  refine hK.out _ _ ⟨((cell_far (p:=⟨gb101,_,none⟩) NB104_101.out _).trans (((cell_far (p:=⟨gb101,_,none⟩) NB104_101.out _).trans (hHeld.1)))),((cell_far (p:=⟨gb101,_,none⟩) NB104_101.out _).trans (((cell_far (p:=⟨gb101,_,none⟩) NB104_101.out _).trans (hHeld.2))))⟩ (fun hHeld => ?_)
  clear hK K
  refine done_ (by kernel_rfl) ?_
  try go_wp2
  refine bodyPost_ret (results_tc rfl _ _ gb101 26 #[.int .i64 t102,.int .i64 t103] (0,0) _ rfl (by (with_reducible repeat (first|refine blk_drewN ?_ _|refine blk_drew ?_|refine blk_alloc ?_ _));refine blk_put (cs:=#[.int .i64 t102,.int .i64 0]) ?_ 1 _ rfl;(with_reducible repeat (first|refine blk_drewN ?_ _|refine blk_drew ?_|refine blk_alloc ?_ _));refine blk_put (cs:=#[.int .i64 0,.int .i64 0]) ?_ 0 _ rfl;(with_reducible repeat (first|refine blk_drewN ?_ _|refine blk_drew ?_|refine blk_alloc ?_ _));exact BK101.out) Try.underlying26 rfl (by kernel_rfl)) rfl ?_
  exact ⟨_,by first|rfl|(simp [errW_none,errW_some] <;> rfl)|(simp [*,errW_none,errW_some] <;> rfl),by first|exact Kd.R_nil _ _ _ _ _|exact Kd.N_nil _ _ _ _ _|exact Kd.V_nil _ _ _ _ _|exact Kd.Q_nil _ _ _ _ _|exact Kd.S_nil _ _ _ _ _,by repeat (first|(with_reducible first|exact HB.out|apply below_alloc|apply pw_below_drewN|apply below_drew1|refine below_set ?_ GE101.out|refine below_set ?_ GE104.out)|exact HB.out)⟩
 ·rw [if_neg c5] at H
  have c5b0 : (!(t102 == 0) || (!(t103 == 0))) = false:=by simpa using c5
  clear c5
  by_cases c15 : (l1.length : Int) > 4096
  ·rw [if_pos c15] at H
   have c15b0 : decide (4096 < (l1.length : Int)) = true:=decide_eq_true c15
   have c15b1 : decide (4096 < l1.length) = true:=decide_eq_true (by omega)
   clear c15
   simp only [Option.some.injEq,Prod.mk.injEq] at H
   obtain ⟨rfl,rfl,rfl⟩:=H
   go_enter Try.func29,Try.ntmps29
   go_wp2_with (first|((with_reducible refine gate_dst (N:=7) rfl ?_);refine box_event ?hg (N:=7) ?hd (cs:=#[.int .i64 0,.int .i64 0]) (t:=26) ?hr ?_;(case hd => rfl);(case hg => rfl);(case hr => first|(go_simp;done)|(go_simp;rfl));intro gb101 hg w16 hbox hb;have n0_:=Aside0.mk (below_step (by repeat (first|(with_reducible first|exact HB.out|apply below_alloc|apply pw_below_drewN|apply below_drew1)|exact HB.out)) hb);have n1_:=Aside0.mk (hbox);have n2_:=Aside0.mk ((by rw [hg];exact (below_size (by repeat (first|(with_reducible first|exact HB.out|apply below_alloc|apply pw_below_drewN|apply below_drew1)|exact HB.out))) : w.heap.size ≤ gb101));have n3_:=Aside0.mk ((by rw [hg];exact (below_size (by repeat (first|(with_reducible first|exact HB.out|apply below_alloc|apply pw_below_drewN|apply below_drew1)|exact HB.out))) : w.heap.size ≤ gb101));clear HB;have HB:=n0_;have BK101:=n1_;have GW101:=n2_;have GE101:=n3_;clear n0_ n1_ n2_ n3_;clear hb hbox hg)|((with_reducible refine gate_callee (f:=44) rfl ?_);refine goesL_ (some 20) rfl rfl Try.func44 (by kernel_rfl) rfl #[.slice A0 l0.length c0] rfl (by (try simp only [List.map_toArray,List.map_cons,List.map_nil]);first|done|rfl|(simp only [List.length_drop,List.length_take];rfl)) ?_;(with_reducible refine (threshold_keysFault.calls k _ _ l0 t102 t103 _ ?side1 ?side2 A4.out).mono ?_);(case side1 => repeat (first|exact (Kd.C_below HR0.out HB.out)|(with_reducible refine Kd.C_alloc ?_ _)|(with_reducible refine Kd.C_drewN ?_ _)|(with_reducible refine Kd.C_drew ?_)));(case side2 => exact HC0.out);rintro e w17 ⟨rfl,hb⟩;refine ⟨_,rfl,?_⟩;have n0_:=Aside0.mk (blk_below (g:=gb101) (o:=.cells #[.int .i64 0,.int .i64 0] 26 (0,0)) (by (with_reducible repeat (first|refine blk_drewN ?_ _|refine blk_drew ?_|refine blk_alloc ?_ _));exact BK101.out) hb);have n1_:=Aside0.mk (below_step (by repeat (first|(with_reducible first|exact HB.out|apply below_alloc|apply pw_below_drewN|apply below_drew1|refine below_set ?_ GE101.out)|exact HB.out)) hb);clear BK101;clear HB;have BK101:=n0_;have HB:=n1_;clear n0_ n1_;(try clear hb);(try clear hb2);(try clear hk);(try clear hi))|((with_reducible refine gate_dst (N:=8) rfl ?_);refine box_event ?hg (N:=8) ?hd (cs:=#[.int .i64 0,.int .i64 0]) (t:=26) ?hr ?_;(case hd => rfl);(case hg => rfl);(case hr => first|(go_simp;done)|(go_simp;rfl));intro gb104 hg w18 hbox hb;have n0_:=Aside0.mk (blk_below (g:=gb101) (o:=.cells #[.int .i64 0,.int .i64 0] 26 (0,0)) (by (with_reducible repeat (first|refine blk_drewN ?_ _|refine blk_drew ?_|refine blk_alloc ?_ _));exact BK101.out) hb);have n1_:=Aside0.mk (below_step (by repeat (first|(with_reducible first|exact HB.out|apply below_alloc|apply pw_below_drewN|apply below_drew1|refine below_set ?_ GE101.out)|exact HB.out)) hb);have n2_:=Aside0.mk (hbox);have n3_:=Aside0.mk ((by rw [hg];exact (below_size (by repeat (first|(with_reducible first|exact HB.out|apply below_alloc|apply pw_below_drewN|apply below_drew1|refine below_set ?_ GE101.out)|exact HB.out))) : w.heap.size ≤ gb104));have n4_:=Aside0.mk ((by rw [hg];exact (below_size (by repeat (first|(with_reducible first|exact HB.out|apply below_alloc|apply pw_below_drewN|apply below_drew1|refine below_set ?_ GE101.out)|exact HB.out))) : w.heap.size ≤ gb104));have n5_:=Aside0.mk ((by rw [hg];exact Nat.ne_of_lt (blk_lt (g:=gb101) (o:=.cells #[.int .i64 0,.int .i64 0] 26 (0,0)) (by (with_reducible repeat (first|refine blk_drewN ?_ _|refine blk_drew ?_|refine blk_alloc ?_ _));exact BK101.out)) : gb101 ≠ gb104));have n6_:=Aside0.mk ((by rw [hg];exact Nat.ne_of_gt (blk_lt (g:=gb101) (o:=.cells #[.int .i64 0,.int .i64 0] 26 (0,0)) (by (with_reducible repeat (first|refine blk_drewN ?_ _|refine blk_drew ?_|refine blk_alloc ?_ _));exact BK101.out)) : gb104 ≠ gb101));clear BK101;clear HB;have BK101:=n0_;have HB:=n1_;have BK104:=n2_;have GW104:=n3_;have GE104:=n4_;have NB101_104:=n5_;have NB104_101:=n6_;clear n0_ n1_ n2_ n3_ n4_ n5_ n6_;clear hb hbox hg;have hnb19:=NB104_101.out;have hnc19:=NB101_104.out;have hcz20_0 : w18.cell? ⟨gb104,0,none⟩ = some (.int .i64 0):=(blk_cell BK104.out 0).trans rfl;have hcz20_1 : w18.cell? ⟨gb104,1,none⟩ = some (.int .i64 0):=(blk_cell BK104.out 1).trans rfl;have hfz20_0:=blk_frozen BK104.out 0;have hfz20_1:=blk_frozen BK104.out 1;have hcz21_0 : w18.cell? ⟨gb101,0,none⟩ = some (.int .i64 0):=(blk_cell BK101.out 0).trans rfl;have hcz21_1 : w18.cell? ⟨gb101,1,none⟩ = some (.int .i64 0):=(blk_cell BK101.out 1).trans rfl;have hfz21_0:=blk_frozen BK101.out 0;have hfz21_1:=blk_frozen BK101.out 1))
   refine bodyPost_ret (results_tc rfl _ _ gb101 26 #[.int .i64 2,.int .i64 (-2)] (0,0) _ rfl (by (with_reducible repeat (first|refine blk_drewN ?_ _|refine blk_drew ?_|refine blk_alloc ?_ _));refine blk_put (cs:=#[.int .i64 2,.int .i64 0]) ?_ 1 _ rfl;(with_reducible repeat (first|refine blk_drewN ?_ _|refine blk_drew ?_|refine blk_alloc ?_ _));refine blk_put (cs:=#[.int .i64 0,.int .i64 0]) ?_ 0 _ rfl;(with_reducible repeat (first|refine blk_drewN ?_ _|refine blk_drew ?_|refine blk_alloc ?_ _));refine blk_far ?_ NB101_104.out _;(with_reducible repeat (first|refine blk_drewN ?_ _|refine blk_drew ?_|refine blk_alloc ?_ _));refine blk_far ?_ NB101_104.out _;(with_reducible repeat (first|refine blk_drewN ?_ _|refine blk_drew ?_|refine blk_alloc ?_ _));exact BK101.out) Try.underlying26 rfl (by kernel_rfl)) rfl ?_
   exact ⟨_,by first|rfl|(simp [errW_none,errW_some] <;> rfl)|(simp [*,errW_none,errW_some] <;> rfl),by first|exact Kd.R_nil _ _ _ _ _|exact Kd.N_nil _ _ _ _ _|exact Kd.V_nil _ _ _ _ _|exact Kd.Q_nil _ _ _ _ _|exact Kd.S_nil _ _ _ _ _,by repeat (first|(with_reducible first|exact HB.out|apply below_alloc|apply pw_below_drewN|apply below_drew1|refine below_set ?_ GE101.out|refine below_set ?_ GE104.out)|exact HB.out)⟩
  ·rw [if_neg c15] at H
   have c15b0 : decide (4096 < (l1.length : Int)) = false:=decide_eq_false c15
   have c15b1 : decide (4096 < l1.length) = false:=decide_eq_false (by omega)
   clear c15
   by_cases c22 : (l2.length : Int) > 24
   ·rw [if_pos c22] at H
    have c22b0 : decide (24 < (l2.length : Int)) = true:=decide_eq_true c22
    have c22b1 : decide (24 < l2.length) = true:=decide_eq_true (by omega)
    clear c22
    simp only [Option.some.injEq,Prod.mk.injEq] at H
    obtain ⟨rfl,rfl,rfl⟩:=H
    go_enter Try.func29,Try.ntmps29
    go_wp2_with (first|((with_reducible refine gate_dst (N:=7) rfl ?_);refine box_event ?hg (N:=7) ?hd (cs:=#[.int .i64 0,.int .i64 0]) (t:=26) ?hr ?_;(case hd => rfl);(case hg => rfl);(case hr => first|(go_simp;done)|(go_simp;rfl));intro gb101 hg w23 hbox hb;have n0_:=Aside0.mk (below_step (by repeat (first|(with_reducible first|exact HB.out|apply below_alloc|apply pw_below_drewN|apply below_drew1)|exact HB.out)) hb);have n1_:=Aside0.mk (hbox);have n2_:=Aside0.mk ((by rw [hg];exact (below_size (by repeat (first|(with_reducible first|exact HB.out|apply below_alloc|apply pw_below_drewN|apply below_drew1)|exact HB.out))) : w.heap.size ≤ gb101));have n3_:=Aside0.mk ((by rw [hg];exact (below_size (by repeat (first|(with_reducible first|exact HB.out|apply below_alloc|apply pw_below_drewN|apply below_drew1)|exact HB.out))) : w.heap.size ≤ gb101));clear HB;have HB:=n0_;have BK101:=n1_;have GW101:=n2_;have GE101:=n3_;clear n0_ n1_ n2_ n3_;clear hb hbox hg)|((with_reducible refine gate_callee (f:=44) rfl ?_);refine goesL_ (some 20) rfl rfl Try.func44 (by kernel_rfl) rfl #[.slice A0 l0.length c0] rfl (by (try simp only [List.map_toArray,List.map_cons,List.map_nil]);first|done|rfl|(simp only [List.length_drop,List.length_take];rfl)) ?_;(with_reducible refine (threshold_keysFault.calls k _ _ l0 t102 t103 _ ?side1 ?side2 A4.out).mono ?_);(case side1 => repeat (first|exact (Kd.C_below HR0.out HB.out)|(with_reducible refine Kd.C_alloc ?_ _)|(with_reducible refine Kd.C_drewN ?_ _)|(with_reducible refine Kd.C_drew ?_)));(case side2 => exact HC0.out);rintro e w24 ⟨rfl,hb⟩;refine ⟨_,rfl,?_⟩;have n0_:=Aside0.mk (blk_below (g:=gb101) (o:=.cells #[.int .i64 0,.int .i64 0] 26 (0,0)) (by (with_reducible repeat (first|refine blk_drewN ?_ _|refine blk_drew ?_|refine blk_alloc ?_ _));exact BK101.out) hb);have n1_:=Aside0.mk (below_step (by repeat (first|(with_reducible first|exact HB.out|apply below_alloc|apply pw_below_drewN|apply below_drew1|refine below_set ?_ GE101.out)|exact HB.out)) hb);clear BK101;clear HB;have BK101:=n0_;have HB:=n1_;clear n0_ n1_;(try clear hb);(try clear hb2);(try clear hk);(try clear hi))|((with_reducible refine gate_dst (N:=8) rfl ?_);refine box_event ?hg (N:=8) ?hd (cs:=#[.int .i64 0,.int .i64 0]) (t:=26) ?hr ?_;(case hd => rfl);(case hg => rfl);(case hr => first|(go_simp;done)|(go_simp;rfl));intro gb104 hg w25 hbox hb;have n0_:=Aside0.mk (blk_below (g:=gb101) (o:=.cells #[.int .i64 0,.int .i64 0] 26 (0,0)) (by (with_reducible repeat (first|refine blk_drewN ?_ _|refine blk_drew ?_|refine blk_alloc ?_ _));exact BK101.out) hb);have n1_:=Aside0.mk (below_step (by repeat (first|(with_reducible first|exact HB.out|apply below_alloc|apply pw_below_drewN|apply below_drew1|refine below_set ?_ GE101.out)|exact HB.out)) hb);have n2_:=Aside0.mk (hbox);have n3_:=Aside0.mk ((by rw [hg];exact (below_size (by repeat (first|(with_reducible first|exact HB.out|apply below_alloc|apply pw_below_drewN|apply below_drew1|refine below_set ?_ GE101.out)|exact HB.out))) : w.heap.size ≤ gb104));have n4_:=Aside0.mk ((by rw [hg];exact (below_size (by repeat (first|(with_reducible first|exact HB.out|apply below_alloc|apply pw_below_drewN|apply below_drew1|refine below_set ?_ GE101.out)|exact HB.out))) : w.heap.size ≤ gb104));have n5_:=Aside0.mk ((by rw [hg];exact Nat.ne_of_lt (blk_lt (g:=gb101) (o:=.cells #[.int .i64 0,.int .i64 0] 26 (0,0)) (by (with_reducible repeat (first|refine blk_drewN ?_ _|refine blk_drew ?_|refine blk_alloc ?_ _));exact BK101.out)) : gb101 ≠ gb104));have n6_:=Aside0.mk ((by rw [hg];exact Nat.ne_of_gt (blk_lt (g:=gb101) (o:=.cells #[.int .i64 0,.int .i64 0] 26 (0,0)) (by (with_reducible repeat (first|refine blk_drewN ?_ _|refine blk_drew ?_|refine blk_alloc ?_ _));exact BK101.out)) : gb104 ≠ gb101));clear BK101;clear HB;have BK101:=n0_;have HB:=n1_;have BK104:=n2_;have GW104:=n3_;have GE104:=n4_;have NB101_104:=n5_;have NB104_101:=n6_;clear n0_ n1_ n2_ n3_ n4_ n5_ n6_;clear hb hbox hg;have hnb26:=NB104_101.out;have hnc26:=NB101_104.out;have hcz27_0 : w25.cell? ⟨gb104,0,none⟩ = some (.int .i64 0):=(blk_cell BK104.out 0).trans rfl;have hcz27_1 : w25.cell? ⟨gb104,1,none⟩ = some (.int .i64 0):=(blk_cell BK104.out 1).trans rfl;have hfz27_0:=blk_frozen BK104.out 0;have hfz27_1:=blk_frozen BK104.out 1;have hcz28_0 : w25.cell? ⟨gb101,0,none⟩ = some (.int .i64 0):=(blk_cell BK101.out 0).trans rfl;have hcz28_1 : w25.cell? ⟨gb101,1,none⟩ = some (.int .i64 0):=(blk_cell BK101.out 1).trans rfl;have hfz28_0:=blk_frozen BK101.out 0;have hfz28_1:=blk_frozen BK101.out 1))
    refine bodyPost_ret (results_tc rfl _ _ gb101 26 #[.int .i64 2,.int .i64 (-3)] (0,0) _ rfl (by (with_reducible repeat (first|refine blk_drewN ?_ _|refine blk_drew ?_|refine blk_alloc ?_ _));refine blk_put (cs:=#[.int .i64 2,.int .i64 0]) ?_ 1 _ rfl;(with_reducible repeat (first|refine blk_drewN ?_ _|refine blk_drew ?_|refine blk_alloc ?_ _));refine blk_put (cs:=#[.int .i64 0,.int .i64 0]) ?_ 0 _ rfl;(with_reducible repeat (first|refine blk_drewN ?_ _|refine blk_drew ?_|refine blk_alloc ?_ _));refine blk_far ?_ NB101_104.out _;(with_reducible repeat (first|refine blk_drewN ?_ _|refine blk_drew ?_|refine blk_alloc ?_ _));refine blk_far ?_ NB101_104.out _;(with_reducible repeat (first|refine blk_drewN ?_ _|refine blk_drew ?_|refine blk_alloc ?_ _));exact BK101.out) Try.underlying26 rfl (by kernel_rfl)) rfl ?_
    exact ⟨_,by first|rfl|(simp [errW_none,errW_some] <;> rfl)|(simp [*,errW_none,errW_some] <;> rfl),by first|exact Kd.R_nil _ _ _ _ _|exact Kd.N_nil _ _ _ _ _|exact Kd.V_nil _ _ _ _ _|exact Kd.Q_nil _ _ _ _ _|exact Kd.S_nil _ _ _ _ _,by repeat (first|(with_reducible first|exact HB.out|apply below_alloc|apply pw_below_drewN|apply below_drew1|refine below_set ?_ GE101.out|refine below_set ?_ GE104.out)|exact HB.out)⟩
   ·rw [if_neg c22] at H
    have c22b0 : decide (24 < (l2.length : Int)) = false:=decide_eq_false c22
    have c22b1 : decide (24 < l2.length) = false:=decide_eq_false (by omega)
    clear c22
    by_cases c29 : 0 ≤ (l0.length : Int)
    ·rw [if_pos c29] at H
     have c29b0:=eq_true c29
     have c29b1 : decide (0 ≤ (l0.length : Int)) = true:=decide_eq_true c29
     clear c29
     by_cases c30 : ((l0.length : Int) : Int).toNat ≤ 281474976710656
     ·rw [if_pos c30] at H
      have c30b0:=eq_true c30
      have c30b1 : decide (((l0.length : Int) : Int).toNat ≤ 281474976710656) = true:=decide_eq_true c30
      clear c30
      obtain ⟨y105,hy105⟩ : ∃ y_ : List Bool,y_ = (List.replicate ((l0.length : Int) : Int).toNat false):=⟨_,rfl⟩
      replace H : (threshold_Signers.l0 k l0 l1 y105 l2 (l2.length : Int) 0) = some (r1,r2,r3):=by first|(rw [hy105];with_reducible exact H)|(have H2_:=(Option.bind_some _ _).symm.trans H;rw [hy105];with_reducible exact H2_)|(have H2_:=(Option.bind_some _ _).symm.trans H;with_reducible exact H2_)|with_reducible exact H|(rw [hy105];exact H)|exact H
      have Ny105:=Aside0.mk hy105
      clear hy105
      have H':=Aside0.mk H
      clear H
      go_enter Try.func29,Try.ntmps29
      go_wp2_with (first|((with_reducible refine gate_dst (N:=7) rfl ?_);refine box_event ?hg (N:=7) ?hd (cs:=#[.int .i64 0,.int .i64 0]) (t:=26) ?hr ?_;(case hd => rfl);(case hg => rfl);(case hr => first|(go_simp;done)|(go_simp;rfl));intro gb101 hg w31 hbox hb;have n0_:=Aside0.mk (below_step (by repeat (first|(with_reducible first|exact HB.out|apply below_alloc|apply pw_below_drewN|apply below_drew1)|exact HB.out)) hb);have n1_:=Aside0.mk (hbox);have n2_:=Aside0.mk ((by rw [hg];exact (below_size (by repeat (first|(with_reducible first|exact HB.out|apply below_alloc|apply pw_below_drewN|apply below_drew1)|exact HB.out))) : w.heap.size ≤ gb101));have n3_:=Aside0.mk ((by rw [hg];exact (below_size (by repeat (first|(with_reducible first|exact HB.out|apply below_alloc|apply pw_below_drewN|apply below_drew1)|exact HB.out))) : w.heap.size ≤ gb101));clear HB;have HB:=n0_;have BK101:=n1_;have GW101:=n2_;have GE101:=n3_;clear n0_ n1_ n2_ n3_;clear hb hbox hg)|((with_reducible refine gate_callee (f:=44) rfl ?_);refine goesL_ (some 20) rfl rfl Try.func44 (by kernel_rfl) rfl #[.slice A0 l0.length c0] rfl (by (try simp only [List.map_toArray,List.map_cons,List.map_nil]);first|done|rfl|(simp only [List.length_drop,List.length_take];rfl)) ?_;(with_reducible refine (threshold_keysFault.calls k _ _ l0 t102 t103 _ ?side1 ?side2 A4.out).mono ?_);(case side1 => repeat (first|exact (Kd.C_below HR0.out HB.out)|(with_reducible refine Kd.C_alloc ?_ _)|(with_reducible refine Kd.C_drewN ?_ _)|(with_reducible refine Kd.C_drew ?_)));(case side2 => exact HC0.out);rintro e w32 ⟨rfl,hb⟩;refine ⟨_,rfl,?_⟩;have n0_:=Aside0.mk (blk_below (g:=gb101) (o:=.cells #[.int .i64 0,.int .i64 0] 26 (0,0)) (by (with_reducible repeat (first|refine blk_drewN ?_ _|refine blk_drew ?_|refine blk_alloc ?_ _));exact BK101.out) hb);have n1_:=Aside0.mk (below_step (by repeat (first|(with_reducible first|exact HB.out|apply below_alloc|apply pw_below_drewN|apply below_drew1|refine below_set ?_ GE101.out)|exact HB.out)) hb);clear BK101;clear HB;have BK101:=n0_;have HB:=n1_;clear n0_ n1_;(try clear hb);(try clear hb2);(try clear hk);(try clear hi))|((with_reducible refine gate_dst (N:=8) rfl ?_);refine box_event ?hg (N:=8) ?hd (cs:=#[.int .i64 0,.int .i64 0]) (t:=26) ?hr ?_;(case hd => rfl);(case hg => rfl);(case hr => first|(go_simp;done)|(go_simp;rfl));intro gb104 hg w33 hbox hb;have n0_:=Aside0.mk (blk_below (g:=gb101) (o:=.cells #[.int .i64 0,.int .i64 0] 26 (0,0)) (by (with_reducible repeat (first|refine blk_drewN ?_ _|refine blk_drew ?_|refine blk_alloc ?_ _));exact BK101.out) hb);have n1_:=Aside0.mk (below_step (by repeat (first|(with_reducible first|exact HB.out|apply below_alloc|apply pw_below_drewN|apply below_drew1|refine below_set ?_ GE101.out)|exact HB.out)) hb);have n2_:=Aside0.mk (hbox);have n3_:=Aside0.mk ((by rw [hg];exact (below_size (by repeat (first|(with_reducible first|exact HB.out|apply below_alloc|apply pw_below_drewN|apply below_drew1|refine below_set ?_ GE101.out)|exact HB.out))) : w.heap.size ≤ gb104));have n4_:=Aside0.mk ((by rw [hg];exact (below_size (by repeat (first|(with_reducible first|exact HB.out|apply below_alloc|apply pw_below_drewN|apply below_drew1|refine below_set ?_ GE101.out)|exact HB.out))) : w.heap.size ≤ gb104));have n5_:=Aside0.mk ((by rw [hg];exact Nat.ne_of_lt (blk_lt (g:=gb101) (o:=.cells #[.int .i64 0,.int .i64 0] 26 (0,0)) (by (with_reducible repeat (first|refine blk_drewN ?_ _|refine blk_drew ?_|refine blk_alloc ?_ _));exact BK101.out)) : gb101 ≠ gb104));have n6_:=Aside0.mk ((by rw [hg];exact Nat.ne_of_gt (blk_lt (g:=gb101) (o:=.cells #[.int .i64 0,.int .i64 0] 26 (0,0)) (by (with_reducible repeat (first|refine blk_drewN ?_ _|refine blk_drew ?_|refine blk_alloc ?_ _));exact BK101.out)) : gb104 ≠ gb101));clear BK101;clear HB;have BK101:=n0_;have HB:=n1_;have BK104:=n2_;have GW104:=n3_;have GE104:=n4_;have NB101_104:=n5_;have NB104_101:=n6_;clear n0_ n1_ n2_ n3_ n4_ n5_ n6_;clear hb hbox hg;have hnb34:=NB104_101.out;have hnc34:=NB101_104.out;have hcz35_0 : w33.cell? ⟨gb104,0,none⟩ = some (.int .i64 0):=(blk_cell BK104.out 0).trans rfl;have hcz35_1 : w33.cell? ⟨gb104,1,none⟩ = some (.int .i64 0):=(blk_cell BK104.out 1).trans rfl;have hfz35_0:=blk_frozen BK104.out 0;have hfz35_1:=blk_frozen BK104.out 1)|((with_reducible refine gate_dst (N:=35) rfl ?_);refine Kd.R_make Kd.bool _ 4 rfl (N:=35) rfl 64 _ _ rfl (l0.length : Int) rfl rfl Try.underlying64 (.bool false) 1 info4 rfl (by decide) (by omega) false (ok:=fun _ => True) (okp:=fun _ => True) rfl (fun _ hk => hk) trivial (of_decide_eq_true (by first|(with_reducible assumption)|assumption)) (Nat.le_trans (Nat.mul_le_mul_right _ (of_decide_eq_true (by first|(with_reducible assumption)|assumption) : (l0.length : Int).toNat ≤ 281474976710656)) (by omega)) (Below.refl _ _) (Nat.le_refl _) ?_;intro v106 w36 ho37 hb hg_ hnew_;clear hg_ hnew_;(first|rw [← Ny105.out] at ho37|(simp only [Int.reduceToNat] at ho37;rw [← Ny105.out] at ho37));have n0_:=Aside0.mk (Kd.R_lower ho37 (below_size (by repeat (first|(with_reducible first|exact HB.out|apply below_alloc|apply pw_below_drewN|apply below_drew1|refine below_set ?_ GE101.out|refine below_set ?_ GE104.out)|exact HB.out))));have n1_:=Aside0.mk (blk_below (g:=gb101) (o:=.cells #[.int .i64 0,.int .i64 0] 26 (0,0)) (by (with_reducible repeat (first|refine blk_drewN ?_ _|refine blk_drew ?_|refine blk_alloc ?_ _));refine blk_far ?_ NB101_104.out _;(with_reducible repeat (first|refine blk_drewN ?_ _|refine blk_drew ?_|refine blk_alloc ?_ _));refine blk_far ?_ NB101_104.out _;(with_reducible repeat (first|refine blk_drewN ?_ _|refine blk_drew ?_|refine blk_alloc ?_ _));exact BK101.out) hb);have n2_:=Aside0.mk (blk_below (g:=gb104) (o:=.cells #[.int .i64 t102,.int .i64 t103] 26 (0,0)) (by (with_reducible repeat (first|refine blk_drewN ?_ _|refine blk_drew ?_|refine blk_alloc ?_ _));refine blk_put (cs:=#[.int .i64 t102,.int .i64 0]) ?_ 1 _ rfl;(with_reducible repeat (first|refine blk_drewN ?_ _|refine blk_drew ?_|refine blk_alloc ?_ _));refine blk_put (cs:=#[.int .i64 0,.int .i64 0]) ?_ 0 _ rfl;(with_reducible repeat (first|refine blk_drewN ?_ _|refine blk_drew ?_|refine blk_alloc ?_ _));exact BK104.out) hb);have n3_:=Aside0.mk (below_step (by repeat (first|(with_reducible first|exact HB.out|apply below_alloc|apply pw_below_drewN|apply below_drew1|refine below_set ?_ GE101.out|refine below_set ?_ GE104.out)|exact HB.out)) hb);clear BK101;clear BK104;clear HB;have HO107:=n0_;have BK101:=n1_;have BK104:=n2_;have HB:=n3_;clear n0_ n1_ n2_ n3_;clear hb ho37))
      go_loopg [38] k (fun kq v38 w' => ∃ (x9_1 : List Bool) (x38_1 : Int) (x102000_1 : Int) (x102001_1 : Int),v38 = .int .i64 x38_1 ∧ Aside0 (threshold_Signers.l0 kq l0 l1 x9_1 l2 (l2.length : Int) x38_1 = some (r1,r2,r3)) ∧ Aside0 (kq ≤ k) ∧ Aside0 (Kd.R Kd.bool 4 w' w.heap.size (fun _ => True) v106 x9_1) ∧ Aside0 (w'.heap[gb101]? = some (.cells #[.int .i64 x102000_1,.int .i64 x102001_1] 26 (0,0))) ∧ Aside0 (w'.heap[gb104]? = some (.cells #[.int .i64 t102,.int .i64 t103] 26 (0,0))) ∧ Aside0 (Below w.heap.size w w'))
      case atStart => exact ⟨(y105),(0),(0),(0),(by first|rfl|(simp;done)|(simp only [IntWalk.i64_left];done)|(simp [*];done)),H',⟨Nat.le_refl _⟩,⟨by (with_reducible repeat (first|apply Kd.R_alloc|apply Kd.R_drewN|apply Kd.R_drew));exact HO107.out⟩,⟨by (with_reducible repeat (first|refine blk_drewN ?_ _|refine blk_drew ?_|refine blk_alloc ?_ _));exact BK101.out⟩,⟨by (with_reducible repeat (first|refine blk_drewN ?_ _|refine blk_drew ?_|refine blk_alloc ?_ _));exact BK104.out⟩,⟨by repeat (first|(with_reducible first|exact HB.out|apply below_alloc|apply pw_below_drewN|apply below_drew1|refine below_set ?_ GE101.out|refine below_set ?_ GE104.out)|exact HB.out)⟩⟩
      case round =>
       clear H'
       try clear c1
       try clear c2
       try clear p2
       try clear c3
       try clear c4
       try clear c5
       try clear c5b0
       try clear c9
       try clear c15
       try clear c15b0
       try clear c15b1
       try clear c19
       try clear c22
       try clear c22b0
       try clear c22b1
       try clear c26
       try clear c29
       try clear c29b0
       try clear c29b1
       try clear c30
       try clear c30b0
       try clear c30b1
       try clear c34
       try clear hcz10_0
       try clear hcz10_1
       try clear hcz20_0
       try clear hcz20_1
       try clear hcz21_0
       try clear hcz21_1
       try clear hcz27_0
       try clear hcz27_1
       try clear hcz28_0
       try clear hcz28_1
       try clear hcz35_0
       try clear hcz35_1
       try clear hfz10_0
       try clear hfz10_1
       try clear hfz20_0
       try clear hfz20_1
       try clear hfz21_0
       try clear hfz21_1
       try clear hfz27_0
       try clear hfz27_1
       try clear hfz28_0
       try clear hfz28_1
       try clear hfz35_0
       try clear hfz35_1
       obtain ⟨x9_1,x38_1,x102000_1,x102001_1,rfl,HA,HK1,HO_9,BK101,BK104,HB⟩:=hrel
       cases gk with
       | zero => exact absurd HA.out (by simp [threshold_Signers.l0])
       | succ k1 =>
        have H:=HA.out
        clear HA
        simp only [threshold_Signers.l0] at H
        by_cases c38 : x38_1 < (l2.length : Int)
        ·rw [if_pos c38] at H
         have c38b0 : decide (x38_1 < (l2.length : Int)) = true:=decide_eq_true c38
         clear c38
         by_cases c39 : 0 ≤ x38_1
         ·rw [if_pos c39] at H
          have c39b0 : decide (0 ≤ x38_1) = true:=decide_eq_true c39
          clear c39
          by_cases c40 : x38_1 < (l2.length : Int)
          ·rw [if_pos c40] at H
           have c40b0 : decide (x38_1 < (l2.length : Int)) = true:=decide_eq_true c40
           clear c40
           have HC41:=Aside0.mk H
           clear H
           have p108 : 0 ≤ (x38_1 : Int):=of_decide_eq_true (by first|(with_reducible assumption)|assumption)
           have q108 : x38_1 < (l2.length : Int):=of_decide_eq_true (by first|(with_reducible assumption)|assumption)
           obtain ⟨ad108,e108,hx108_0,hx108_1⟩:=at_T54 HR2.out x38_1 p108 q108
           cases e108
           replace hx108_0:=(HB.out.cell (World.block_lt_of_cell? w _ hx108_0)).trans hx108_0
           replace hx108_1:=(HB.out.cell (World.block_lt_of_cell? w _ hx108_1)).trans hx108_1
           replace p108:=eq_true p108
           replace q108:=eq_true q108
           go_upto_region 12 with (first|((with_reducible refine gate_dst (N:=11) rfl ?_);refine box_event ?hg (N:=11) ?hd (cs:=#[.int .i64 0,.int .i64 0]) (t:=54) ?hr ?_;(case hd => rfl);(case hg => rfl);(case hr => first|(go_simp;done)|(go_simp;rfl));intro gb109 hg w42 hbox hb;have n0_:=Aside0.mk (Kd.R_below (by (with_reducible repeat (first|apply Kd.R_alloc|apply Kd.R_drewN|apply Kd.R_drew));exact HO_9.out) hb);have n1_:=Aside0.mk (blk_below (g:=gb101) (o:=.cells #[.int .i64 x102000_1,.int .i64 x102001_1] 26 (0,0)) (by (with_reducible repeat (first|refine blk_drewN ?_ _|refine blk_drew ?_|refine blk_alloc ?_ _));exact BK101.out) hb);have n2_:=Aside0.mk (blk_below (g:=gb104) (o:=.cells #[.int .i64 t102,.int .i64 t103] 26 (0,0)) (by (with_reducible repeat (first|refine blk_drewN ?_ _|refine blk_drew ?_|refine blk_alloc ?_ _));exact BK104.out) hb);have n3_:=Aside0.mk (below_step (by repeat (first|(with_reducible first|exact HB.out|apply below_alloc|apply pw_below_drewN|apply below_drew1|refine below_set ?_ GE101.out|refine below_set ?_ GE104.out)|exact HB.out)) hb);have n4_:=Aside0.mk (hbox);have n5_:=Aside0.mk ((by rw [hg];exact (below_size (by repeat (first|(with_reducible first|exact HB.out|apply below_alloc|apply pw_below_drewN|apply below_drew1|refine below_set ?_ GE101.out|refine below_set ?_ GE104.out)|exact HB.out))) : w.heap.size ≤ gb109));have n6_:=Aside0.mk ((by rw [hg];exact (below_size (by repeat (first|(with_reducible first|exact HB.out|apply below_alloc|apply pw_below_drewN|apply below_drew1|refine below_set ?_ GE101.out|refine below_set ?_ GE104.out)|exact HB.out))) : w.heap.size ≤ gb109));have n7_:=Aside0.mk ((by rw [hg];exact Nat.ne_of_lt (blk_lt (g:=gb101) (o:=.cells #[.int .i64 x102000_1,.int .i64 x102001_1] 26 (0,0)) (by (with_reducible repeat (first|refine blk_drewN ?_ _|refine blk_drew ?_|refine blk_alloc ?_ _));exact BK101.out)) : gb101 ≠ gb109));have n8_:=Aside0.mk ((by rw [hg];exact Nat.ne_of_gt (blk_lt (g:=gb101) (o:=.cells #[.int .i64 x102000_1,.int .i64 x102001_1] 26 (0,0)) (by (with_reducible repeat (first|refine blk_drewN ?_ _|refine blk_drew ?_|refine blk_alloc ?_ _));exact BK101.out)) : gb109 ≠ gb101));have n9_:=Aside0.mk ((by rw [hg];exact Nat.ne_of_lt (blk_lt (g:=gb104) (o:=.cells #[.int .i64 t102,.int .i64 t103] 26 (0,0)) (by (with_reducible repeat (first|refine blk_drewN ?_ _|refine blk_drew ?_|refine blk_alloc ?_ _));exact BK104.out)) : gb104 ≠ gb109));have n10_:=Aside0.mk ((by rw [hg];exact Nat.ne_of_gt (blk_lt (g:=gb104) (o:=.cells #[.int .i64 t102,.int .i64 t103] 26 (0,0)) (by (with_reducible repeat (first|refine blk_drewN ?_ _|refine blk_drew ?_|refine blk_alloc ?_ _));exact BK104.out)) : gb109 ≠ gb104));clear HO_9;clear BK101;clear BK104;clear HB;have HO_9:=n0_;have BK101:=n1_;have BK104:=n2_;have HB:=n3_;have BK109:=n4_;have GW109:=n5_;have GE109:=n6_;have NB101_109:=n7_;have NB109_101:=n8_;have NB104_109:=n9_;have NB109_104:=n10_;clear n0_ n1_ n2_ n3_ n4_ n5_ n6_ n7_ n8_ n9_ n10_;clear hb hbox hg;have hnb43:=NB109_101.out;have hnc43:=NB101_109.out;have hnb44:=NB109_104.out;have hnc44:=NB104_109.out;have hcz45_0 : w42.cell? ⟨gb109,0,none⟩ = some (.int .i64 0):=(blk_cell BK109.out 0).trans rfl;have hcz45_1 : w42.cell? ⟨gb109,1,none⟩ = some (.int .i64 0):=(blk_cell BK109.out 1).trans rfl;have hfz45_0:=blk_frozen BK109.out 0;have hfz45_1:=blk_frozen BK109.out 1))
           (try simp only [Act.put,List.setIfInBounds_toArray,List.set_cons_zero,List.set_cons_succ])
           go_cut [52] (fun v52 wc => ∃ (kq : Nat) (x52_40 : Bool),v52 = .bool x52_40 ∧ Aside0 (threshold_Signers.j1 kq l0 l1 x9_1 x38_1 l2 (l2.length : Int) x38_1 x52_40 ((rd_T54 l2 x38_1).f0) ((rd_T54 l2 x38_1).f1) = some (r1,r2,r3)) ∧ Aside0 (kq ≤ k1) ∧ Aside0 (Kd.R Kd.bool 4 wc w.heap.size (fun _ => True) v106 x9_1) ∧ Aside0 (wc.heap[gb101]? = some (.cells #[.int .i64 x102000_1,.int .i64 x102001_1] 26 (0,0))) ∧ Aside0 (wc.heap[gb104]? = some (.cells #[.int .i64 t102,.int .i64 t103] 26 (0,0))) ∧ Aside0 (wc.heap[gb109]? = some (.cells #[.int .i64 ((rd_T54 l2 x38_1).f0),.int .i64 ((rd_T54 l2 x38_1).f1)] 54 (0,0))) ∧ Aside0 (Below w.heap.size w wc))
           case first =>
            have H:=HC41.out
            clear HC41
            replace H:=Option.bind_eq_some_iff.mp H
            obtain ⟨t110,A460,H⟩:=H
            replace H : (if t110 = true then ((signing_IsDigest.f ((rd_T54 l2 x38_1).f1)).bind fun t111 => (threshold_Signers.j1 k1 l0 l1 x9_1 x38_1 l2 (l2.length : Int) x38_1 (!t111) ((rd_T54 l2 x38_1).f0) ((rd_T54 l2 x38_1).f1))) else (threshold_Signers.j1 k1 l0 l1 x9_1 x38_1 l2 (l2.length : Int) x38_1 true ((rd_T54 l2 x38_1).f0) ((rd_T54 l2 x38_1).f1))) = some (r1,r2,r3):=H
            have A46:=Aside0.mk A460
            clear A460
            by_cases c47 : t110 = true
            ·subst c47
             have H1 : ((signing_IsDigest.f ((rd_T54 l2 x38_1).f1)).bind fun t111 => (threshold_Signers.j1 k1 l0 l1 x9_1 x38_1 l2 (l2.length : Int) x38_1 (!t111) ((rd_T54 l2 x38_1).f0) ((rd_T54 l2 x38_1).f1))) = some (r1,r2,r3):=by rw [if_pos rfl] at H;exact H
             clear H
             have H:=H1
             clear H1
             replace H:=Option.bind_eq_some_iff.mp H
             obtain ⟨t111,A480,H⟩:=H
             replace H : (threshold_Signers.j1 k1 l0 l1 x9_1 x38_1 l2 (l2.length : Int) x38_1 (!t111) ((rd_T54 l2 x38_1).f0) ((rd_T54 l2 x38_1).f1)) = some (r1,r2,r3):=H
             have A48:=Aside0.mk A480
             clear A480
             have H':=Aside0.mk H
             clear H
             have hnb49:=NB109_101.out
             have hnc49:=NB101_109.out
             have hnb50:=NB109_104.out
             have hnc50:=NB104_109.out
             have hcz51_0 : w42.cell? ⟨gb109,0,none⟩ = some (.int .i64 0):=(blk_cell BK109.out 0).trans rfl
             have hcz51_1 : w42.cell? ⟨gb109,1,none⟩ = some (.int .i64 0):=(blk_cell BK109.out 1).trans rfl
             have hfz51_0:=blk_frozen BK109.out 0
             have hfz51_1:=blk_frozen BK109.out 1
             go_wp2_with (first|((with_reducible refine gate_callee (f:=36) rfl ?_);refine goesL_ (some 45) rfl rfl Try.func36 (by kernel_rfl) rfl #[.int .i64 ((rd_T54 l2 x38_1).f0)] rfl (by (try simp only [List.map_toArray,List.map_cons,List.map_nil]);first|done|rfl|(simp only [List.length_drop,List.length_take];rfl)) ?_;(with_reducible refine (signing_IsKey.calls ((rd_T54 l2 x38_1).f0) true _ A46.out).mono ?_);rintro e w' ⟨rfl,⟨nd,rfl⟩⟩;refine ⟨_,rfl,?_⟩)|(go_at_call 34;(with_reducible refine (signing_IsDigest.calls ((rd_T54 l2 x38_1).f1) t111 _ A48.out).mono ?_);rintro e w' ⟨rfl,⟨nd,rfl⟩⟩))
             go_meet
             case rel => exact ⟨_,(!t111),(by first|rfl|(simp;done)|(simp only [IntWalk.i64_left];done)|(simp [*];done)),H',⟨by have:=HK1.out;first|omega|exact Nat.le_refl _⟩,⟨by (with_reducible repeat (first|apply Kd.R_alloc|apply Kd.R_drewN|apply Kd.R_drew));exact Kd.R_mono (Kd.R_far (p:=⟨gb109,1,none⟩) (Kd.R_far (p:=⟨gb109,0,none⟩) (Kd.R_types HO_9.out BK109.out (by decide)) (fun _ hk => hk.2) (.int .i64 ((rd_T54 l2 x38_1).f0))) (fun _ hk => hk.2) (.int .i64 ((rd_T54 l2 x38_1).f1))) (fun _ hk => trivial)⟩,⟨by (with_reducible repeat (first|refine blk_drewN ?_ _|refine blk_drew ?_|refine blk_alloc ?_ _));refine blk_far ?_ NB101_109.out _;(with_reducible repeat (first|refine blk_drewN ?_ _|refine blk_drew ?_|refine blk_alloc ?_ _));refine blk_far ?_ NB101_109.out _;(with_reducible repeat (first|refine blk_drewN ?_ _|refine blk_drew ?_|refine blk_alloc ?_ _));exact BK101.out⟩,⟨by (with_reducible repeat (first|refine blk_drewN ?_ _|refine blk_drew ?_|refine blk_alloc ?_ _));refine blk_far ?_ NB104_109.out _;(with_reducible repeat (first|refine blk_drewN ?_ _|refine blk_drew ?_|refine blk_alloc ?_ _));refine blk_far ?_ NB104_109.out _;(with_reducible repeat (first|refine blk_drewN ?_ _|refine blk_drew ?_|refine blk_alloc ?_ _));exact BK104.out⟩,⟨by (with_reducible repeat (first|refine blk_drewN ?_ _|refine blk_drew ?_|refine blk_alloc ?_ _));refine blk_put (cs:=#[.int .i64 ((rd_T54 l2 x38_1).f0),.int .i64 0]) ?_ 1 _ rfl;(with_reducible repeat (first|refine blk_drewN ?_ _|refine blk_drew ?_|refine blk_alloc ?_ _));refine blk_put (cs:=#[.int .i64 0,.int .i64 0]) ?_ 0 _ rfl;(with_reducible repeat (first|refine blk_drewN ?_ _|refine blk_drew ?_|refine blk_alloc ?_ _));exact BK109.out⟩,⟨by repeat (first|(with_reducible first|exact HB.out|apply below_alloc|apply pw_below_drewN|apply below_drew1|refine below_set ?_ GE101.out|refine below_set ?_ GE104.out|refine below_set ?_ GE109.out)|exact HB.out)⟩⟩
            ·replace c47:=Bool.eq_false_iff.mpr c47
             subst c47
             have H1 : (threshold_Signers.j1 k1 l0 l1 x9_1 x38_1 l2 (l2.length : Int) x38_1 true ((rd_T54 l2 x38_1).f0) ((rd_T54 l2 x38_1).f1)) = some (r1,r2,r3):=by rw [if_neg (show ¬ (false = true) by decide)] at H;exact H
             clear H
             have H:=H1
             clear H1
             have H':=Aside0.mk H
             clear H
             have hnb52:=NB109_101.out
             have hnc52:=NB101_109.out
             have hnb53:=NB109_104.out
             have hnc53:=NB104_109.out
             have hcz54_0 : w42.cell? ⟨gb109,0,none⟩ = some (.int .i64 0):=(blk_cell BK109.out 0).trans rfl
             have hcz54_1 : w42.cell? ⟨gb109,1,none⟩ = some (.int .i64 0):=(blk_cell BK109.out 1).trans rfl
             have hfz54_0:=blk_frozen BK109.out 0
             have hfz54_1:=blk_frozen BK109.out 1
             go_wp2_with (first|((with_reducible refine gate_callee (f:=36) rfl ?_);refine goesL_ (some 45) rfl rfl Try.func36 (by kernel_rfl) rfl #[.int .i64 ((rd_T54 l2 x38_1).f0)] rfl (by (try simp only [List.map_toArray,List.map_cons,List.map_nil]);first|done|rfl|(simp only [List.length_drop,List.length_take];rfl)) ?_;(with_reducible refine (signing_IsKey.calls ((rd_T54 l2 x38_1).f0) false _ A46.out).mono ?_);rintro e w' ⟨rfl,⟨nd,rfl⟩⟩;refine ⟨_,rfl,?_⟩))
             go_meet
             case rel => exact ⟨_,(true),(by first|rfl|(simp;done)|(simp only [IntWalk.i64_left];done)|(simp [*];done)),H',⟨by have:=HK1.out;first|omega|exact Nat.le_refl _⟩,⟨by (with_reducible repeat (first|apply Kd.R_alloc|apply Kd.R_drewN|apply Kd.R_drew));exact Kd.R_mono (Kd.R_far (p:=⟨gb109,1,none⟩) (Kd.R_far (p:=⟨gb109,0,none⟩) (Kd.R_types HO_9.out BK109.out (by decide)) (fun _ hk => hk.2) (.int .i64 ((rd_T54 l2 x38_1).f0))) (fun _ hk => hk.2) (.int .i64 ((rd_T54 l2 x38_1).f1))) (fun _ hk => trivial)⟩,⟨by (with_reducible repeat (first|refine blk_drewN ?_ _|refine blk_drew ?_|refine blk_alloc ?_ _));refine blk_far ?_ NB101_109.out _;(with_reducible repeat (first|refine blk_drewN ?_ _|refine blk_drew ?_|refine blk_alloc ?_ _));refine blk_far ?_ NB101_109.out _;(with_reducible repeat (first|refine blk_drewN ?_ _|refine blk_drew ?_|refine blk_alloc ?_ _));exact BK101.out⟩,⟨by (with_reducible repeat (first|refine blk_drewN ?_ _|refine blk_drew ?_|refine blk_alloc ?_ _));refine blk_far ?_ NB104_109.out _;(with_reducible repeat (first|refine blk_drewN ?_ _|refine blk_drew ?_|refine blk_alloc ?_ _));refine blk_far ?_ NB104_109.out _;(with_reducible repeat (first|refine blk_drewN ?_ _|refine blk_drew ?_|refine blk_alloc ?_ _));exact BK104.out⟩,⟨by (with_reducible repeat (first|refine blk_drewN ?_ _|refine blk_drew ?_|refine blk_alloc ?_ _));refine blk_put (cs:=#[.int .i64 ((rd_T54 l2 x38_1).f0),.int .i64 0]) ?_ 1 _ rfl;(with_reducible repeat (first|refine blk_drewN ?_ _|refine blk_drew ?_|refine blk_alloc ?_ _));refine blk_put (cs:=#[.int .i64 0,.int .i64 0]) ?_ 0 _ rfl;(with_reducible repeat (first|refine blk_drewN ?_ _|refine blk_drew ?_|refine blk_alloc ?_ _));exact BK109.out⟩,⟨by repeat (first|(with_reducible first|exact HB.out|apply below_alloc|apply pw_below_drewN|apply below_drew1|refine below_set ?_ GE101.out|refine below_set ?_ GE104.out|refine below_set ?_ GE109.out)|exact HB.out)⟩⟩
           case rest =>
            clear HC41
            try clear c1
            try clear p1
            try clear q1
            try clear hx1
            try clear c2
            try clear p2
            try clear c3
            try clear c4
            try clear c5
            try clear c5b0
            try clear c9
            try clear p10
            try clear q10
            try clear hx10
            try clear c15
            try clear c15b0
            try clear c15b1
            try clear c19
            try clear c22
            try clear c22b0
            try clear c22b1
            try clear c26
            try clear c29
            try clear c29b0
            try clear c29b1
            try clear c30
            try clear c30b0
            try clear c30b1
            try clear c34
            try clear c36
            try clear c38
            try clear c38b0
            try clear c39
            try clear c39b0
            try clear c40
            try clear c40b0
            try clear c43
            try clear c44
            try clear c47
            try clear c49
            try clear c50
            try clear c52
            try clear c53
            try clear hcz10_0
            try clear hcz10_1
            try clear hcz20_0
            try clear hcz20_1
            try clear hcz21_0
            try clear hcz21_1
            try clear hcz27_0
            try clear hcz27_1
            try clear hcz28_0
            try clear hcz28_1
            try clear hcz35_0
            try clear hcz35_1
            try clear hcz45_0
            try clear hcz45_1
            try clear hcz51_0
            try clear hcz51_1
            try clear hcz54_0
            try clear hcz54_1
            try clear hfz10_0
            try clear hfz10_1
            try clear hfz20_0
            try clear hfz20_1
            try clear hfz21_0
            try clear hfz21_1
            try clear hfz27_0
            try clear hfz27_1
            try clear hfz28_0
            try clear hfz28_1
            try clear hfz35_0
            try clear hfz35_1
            try clear hfz45_0
            try clear hfz45_1
            try clear hfz51_0
            try clear hfz51_1
            try clear hfz54_0
            try clear hfz54_1
            try clear hx108_0
            try clear hx108_1
            try clear p108
            try clear p2
            try clear q108
            obtain ⟨kq,x52_40,rfl,HA,HJ40,HO_9,BK101,BK104,BK109,HB⟩:=hcut
            cases kq with
            | zero => exact absurd HA.out (by simp [threshold_Signers.j1])
            | succ kj40 =>
             have H:=HA.out
             clear HA
             simp only [threshold_Signers.j1] at H
             by_cases c55 : x52_40 = true
             ·subst c55
              have H1 : (some (([] : List Int),3,wrap64 ((l0.length : Int) + x38_1))) = some (r1,r2,r3):=by rw [if_pos rfl] at H;exact H
              clear H
              have H:=H1
              clear H1
              simp only [Option.some.injEq,Prod.mk.injEq] at H
              obtain ⟨rfl,rfl,rfl⟩:=H
              have hnb56:=NB101_104.out
              have hnc56:=NB104_101.out
              have hnb57:=NB101_109.out
              have hnc57:=NB109_101.out
              have hcz58_0 : wc.cell? ⟨gb101,0,none⟩ = some (.int .i64 x102000_1):=(blk_cell BK101.out 0).trans rfl
              have hcz58_1 : wc.cell? ⟨gb101,1,none⟩ = some (.int .i64 x102001_1):=(blk_cell BK101.out 1).trans rfl
              have hfz58_0:=blk_frozen BK101.out 0
              have hfz58_1:=blk_frozen BK101.out 1
              go_wp2
              refine bodyPost_ret (results_tc rfl _ _ gb101 26 #[.int .i64 3,.int .i64 (wrap64 ((l0.length : Int) + x38_1))] (0,0) _ rfl (by (with_reducible repeat (first|refine blk_drewN ?_ _|refine blk_drew ?_|refine blk_alloc ?_ _));refine blk_put (cs:=#[.int .i64 3,.int .i64 x102001_1]) ?_ 1 _ rfl;(with_reducible repeat (first|refine blk_drewN ?_ _|refine blk_drew ?_|refine blk_alloc ?_ _));refine blk_put (cs:=#[.int .i64 x102000_1,.int .i64 x102001_1]) ?_ 0 _ rfl;(with_reducible repeat (first|refine blk_drewN ?_ _|refine blk_drew ?_|refine blk_alloc ?_ _));exact BK101.out) Try.underlying26 rfl (by kernel_rfl)) rfl ?_
              exact ⟨_,by first|rfl|(simp [errW_none,errW_some] <;> rfl)|(simp [*,errW_none,errW_some] <;> rfl),by first|exact Kd.R_nil _ _ _ _ _|exact Kd.N_nil _ _ _ _ _|exact Kd.V_nil _ _ _ _ _|exact Kd.Q_nil _ _ _ _ _|exact Kd.S_nil _ _ _ _ _,by repeat (first|(with_reducible first|exact HB.out|apply below_alloc|apply pw_below_drewN|apply below_drew1|refine below_set ?_ GE101.out|refine below_set ?_ GE104.out|refine below_set ?_ GE109.out)|exact HB.out)⟩
             ·replace c55:=Bool.eq_false_iff.mpr c55
              subst c55
              have H1 : ((slices_BinarySearch_int_int.f kj40 l0 ((rd_T54 l2 x38_1).f0)).bind fun bt112 => (if bt112.2 = true then ((signing_Verify.f kj40 ((rd_T54 l2 x38_1).f0) l1 ((rd_T54 l2 x38_1).f1)).bind fun bt114 => (if 0 ≤ bt112.1 then (if bt112.1 < (x9_1.length : Int) then (if rdOf false x9_1 bt112.1 = true then (threshold_Signers.l0 kj40 l0 l1 (x9_1.set (bt112.1 : Int).toNat true) l2 (l2.length : Int) (wrap64 (x38_1 + 1))) else (threshold_Signers.l0 kj40 l0 l1 (x9_1.set (bt112.1 : Int).toNat bt114.1) l2 (l2.length : Int) (wrap64 (x38_1 + 1)))) else (none)) else (none))) else (threshold_Signers.l0 kj40 l0 l1 x9_1 l2 (l2.length : Int) (wrap64 (x38_1 + 1))))) = some (r1,r2,r3):=by rw [if_neg (show ¬ (false = true) by decide)] at H;exact H
              clear H
              have H:=H1
              clear H1
              replace H:=Option.bind_eq_some_iff.mp H
              obtain ⟨⟨t112,t113⟩,A590,H⟩:=H
              replace H : (if t113 = true then ((signing_Verify.f kj40 ((rd_T54 l2 x38_1).f0) l1 ((rd_T54 l2 x38_1).f1)).bind fun bt114 => (if 0 ≤ t112 then (if t112 < (x9_1.length : Int) then (if rdOf false x9_1 t112 = true then (threshold_Signers.l0 kj40 l0 l1 (x9_1.set (t112 : Int).toNat true) l2 (l2.length : Int) (wrap64 (x38_1 + 1))) else (threshold_Signers.l0 kj40 l0 l1 (x9_1.set (t112 : Int).toNat bt114.1) l2 (l2.length : Int) (wrap64 (x38_1 + 1)))) else (none)) else (none))) else (threshold_Signers.l0 kj40 l0 l1 x9_1 l2 (l2.length : Int) (wrap64 (x38_1 + 1)))) = some (r1,r2,r3):=H
              have A59:=Aside0.mk A590
              clear A590
              by_cases c60 : t113 = true
              ·subst c60
               have H1 : ((signing_Verify.f kj40 ((rd_T54 l2 x38_1).f0) l1 ((rd_T54 l2 x38_1).f1)).bind fun bt114 => (if 0 ≤ t112 then (if t112 < (x9_1.length : Int) then (if rdOf false x9_1 t112 = true then (threshold_Signers.l0 kj40 l0 l1 (x9_1.set (t112 : Int).toNat true) l2 (l2.length : Int) (wrap64 (x38_1 + 1))) else (threshold_Signers.l0 kj40 l0 l1 (x9_1.set (t112 : Int).toNat bt114.1) l2 (l2.length : Int) (wrap64 (x38_1 + 1)))) else (none)) else (none))) = some (r1,r2,r3):=by rw [if_pos rfl] at H;exact H
               clear H
               have H:=H1
               clear H1
               replace H:=Option.bind_eq_some_iff.mp H
               obtain ⟨⟨t114,t115,t116⟩,A610,H⟩:=H
               replace H : (if 0 ≤ t112 then (if t112 < (x9_1.length : Int) then (if rdOf false x9_1 t112 = true then (threshold_Signers.l0 kj40 l0 l1 (x9_1.set (t112 : Int).toNat true) l2 (l2.length : Int) (wrap64 (x38_1 + 1))) else (threshold_Signers.l0 kj40 l0 l1 (x9_1.set (t112 : Int).toNat t114) l2 (l2.length : Int) (wrap64 (x38_1 + 1)))) else (none)) else (none)) = some (r1,r2,r3):=H
               have A61:=Aside0.mk A610
               clear A610
               by_cases c62 : 0 ≤ t112
               ·rw [if_pos c62] at H
                have c62b0 : decide (0 ≤ t112) = true:=decide_eq_true c62
                clear c62
                by_cases c63 : t112 < (x9_1.length : Int)
                ·rw [if_pos c63] at H
                 have c63b0 : decide (t112 < (x9_1.length : Int)) = true:=decide_eq_true c63
                 clear c63
                 obtain ⟨bq64,hbq64⟩ : ∃ b_ : Bool,b_ = (rdOf false x9_1 t112):=⟨_,rfl⟩
                 replace H : (if bq64 = true then (threshold_Signers.l0 kj40 l0 l1 (x9_1.set (t112 : Int).toNat true) l2 (l2.length : Int) (wrap64 (x38_1 + 1))) else (threshold_Signers.l0 kj40 l0 l1 (x9_1.set (t112 : Int).toNat t114) l2 (l2.length : Int) (wrap64 (x38_1 + 1)))) = some (r1,r2,r3):=by rw [← hbq64] at H;exact H
                 have Nbq64:=Aside0.mk hbq64
                 clear hbq64
                 by_cases c65 : bq64 = true
                 ·subst c65
                  have H1 : (threshold_Signers.l0 kj40 l0 l1 (x9_1.set (t112 : Int).toNat true) l2 (l2.length : Int) (wrap64 (x38_1 + 1))) = some (r1,r2,r3):=by rw [if_pos rfl] at H;exact H
                  clear H
                  have H:=H1
                  clear H1
                  obtain ⟨y119,hy119⟩ : ∃ y_ : List Bool,y_ = (x9_1.set (t112 : Int).toNat true):=⟨_,rfl⟩
                  replace H : (threshold_Signers.l0 kj40 l0 l1 y119 l2 (l2.length : Int) (wrap64 (x38_1 + 1))) = some (r1,r2,r3):=by first|(rw [hy119];with_reducible exact H)|(have H2_:=(Option.bind_some _ _).symm.trans H;rw [hy119];with_reducible exact H2_)|(have H2_:=(Option.bind_some _ _).symm.trans H;with_reducible exact H2_)|with_reducible exact H|(rw [hy119];exact H)|exact H
                  have Ny119:=Aside0.mk hy119
                  clear hy119
                  have H':=Aside0.mk H
                  clear H
                  have hnb67:=NB109_101.out
                  have hnc67:=NB101_109.out
                  have hnb68:=NB109_104.out
                  have hnc68:=NB104_109.out
                  have hcz69_0 : wc.cell? ⟨gb109,0,none⟩ = some (.int .i64 ((rd_T54 l2 x38_1).f0)):=(blk_cell BK109.out 0).trans rfl
                  have hcz69_1 : wc.cell? ⟨gb109,1,none⟩ = some (.int .i64 ((rd_T54 l2 x38_1).f1)):=(blk_cell BK109.out 1).trans rfl
                  have hfz69_0:=blk_frozen BK109.out 0
                  have hfz69_1:=blk_frozen BK109.out 1
                  go_wp2_with (first|((with_reducible refine gate_callee (f:=45) rfl ?_);refine goesL_ (some 62) rfl rfl Try.func45 (by kernel_rfl) rfl #[.slice A0 l0.length c0,.int .i64 ((rd_T54 l2 x38_1).f0)] rfl (by (try simp only [List.map_toArray,List.map_cons,List.map_nil]);first|done|rfl|(simp only [List.length_drop,List.length_take];rfl)) ?_;(with_reducible refine (slices_BinarySearch_int_int.calls kj40 _ _ l0 ((rd_T54 l2 x38_1).f0) t112 true _ ?side1 ?side2 A59.out).mono ?_);(case side1 => repeat (first|exact (Kd.C_below HR0.out HB.out)|(with_reducible refine Kd.C_alloc ?_ _)|(with_reducible refine Kd.C_drewN ?_ _)|(with_reducible refine Kd.C_drew ?_)));(case side2 => exact HC0.out);rintro e w' ⟨rfl,⟨nd,rfl⟩⟩;refine ⟨_,rfl,?_⟩;(try (rw [drewN_self wc];generalize hq_ : World.drewN wc _ = wc;have n0_ : Aside0 (Kd.R Kd.bool 4 wc w.heap.size (fun _ => True) v106 x9_1):=⟨by rw [← hq_];exact (by (with_reducible repeat (first|apply Kd.R_alloc|apply Kd.R_drewN|apply Kd.R_drew));exact HO_9.out)⟩;have n1_ : Aside0 (wc.heap[gb101]? = some (.cells #[.int .i64 x102000_1,.int .i64 x102001_1] 26 (0,0))):=⟨by rw [← hq_];exact (by (with_reducible repeat (first|refine blk_drewN ?_ _|refine blk_drew ?_|refine blk_alloc ?_ _));exact BK101.out)⟩;have n2_ : Aside0 (wc.heap[gb104]? = some (.cells #[.int .i64 t102,.int .i64 t103] 26 (0,0))):=⟨by rw [← hq_];exact (by (with_reducible repeat (first|refine blk_drewN ?_ _|refine blk_drew ?_|refine blk_alloc ?_ _));exact BK104.out)⟩;have n3_ : Aside0 (wc.heap[gb109]? = some (.cells #[.int .i64 ((rd_T54 l2 x38_1).f0),.int .i64 ((rd_T54 l2 x38_1).f1)] 54 (0,0))):=⟨by rw [← hq_];exact (by (with_reducible repeat (first|refine blk_drewN ?_ _|refine blk_drew ?_|refine blk_alloc ?_ _));exact BK109.out)⟩;have n4_ : Aside0 (Below w.heap.size w wc):=⟨by rw [← hq_];exact (by repeat (first|(with_reducible first|exact HB.out|apply below_alloc|apply pw_below_drewN|apply below_drew1|refine below_set ?_ GE101.out|refine below_set ?_ GE104.out|refine below_set ?_ GE109.out)|exact HB.out))⟩;clear HO_9 BK101 BK104 BK109 HB hq_;have HO_9:=n0_;have BK101:=n1_;have BK104:=n2_;have BK109:=n3_;have HB:=n4_;clear n0_ n1_ n2_ n3_ n4_));(try (have hcz69_0 : wc.cell? ⟨gb109,0,none⟩ = some (.int .i64 ((rd_T54 l2 x38_1).f0)):=(blk_cell BK109.out 0).trans rfl));(try (have hcz69_1 : wc.cell? ⟨gb109,1,none⟩ = some (.int .i64 ((rd_T54 l2 x38_1).f1)):=(blk_cell BK109.out 1).trans rfl));(try (have hfz69_0:=blk_frozen BK109.out 0));(try (have hfz69_1:=blk_frozen BK109.out 1)))|((with_reducible refine gate_callee (f:=22) rfl ?_);refine goesL_ (some 72) rfl rfl Try.func22 (by kernel_rfl) rfl #[.int .i64 ((rd_T54 l2 x38_1).f0),.slice A1 l1.length c1,.int .i64 ((rd_T54 l2 x38_1).f1)] rfl (by (try simp only [List.map_toArray,List.map_cons,List.map_nil]);first|done|rfl|(simp only [List.length_drop,List.length_take];rfl)) ?_;(with_reducible refine (signing_Verify.calls kj40 ((rd_T54 l2 x38_1).f0) _ _ l1 ((rd_T54 l2 x38_1).f1) t114 t115 t116 _ ?side1 ?side2 A61.out).mono ?_);(case side1 => repeat (first|exact (Kd.C_below HR1.out HB.out)|(with_reducible refine Kd.C_alloc ?_ _)|(with_reducible refine Kd.C_drewN ?_ _)|(with_reducible refine Kd.C_drew ?_)));(case side2 => exact HC1.out);rintro e w70 ⟨rfl,hb⟩;refine ⟨_,rfl,?_⟩;have n0_:=Aside0.mk (Kd.R_below (by (with_reducible repeat (first|apply Kd.R_alloc|apply Kd.R_drewN|apply Kd.R_drew));exact HO_9.out) hb);have n1_:=Aside0.mk (blk_below (g:=gb101) (o:=.cells #[.int .i64 x102000_1,.int .i64 x102001_1] 26 (0,0)) (by (with_reducible repeat (first|refine blk_drewN ?_ _|refine blk_drew ?_|refine blk_alloc ?_ _));exact BK101.out) hb);have n2_:=Aside0.mk (blk_below (g:=gb104) (o:=.cells #[.int .i64 t102,.int .i64 t103] 26 (0,0)) (by (with_reducible repeat (first|refine blk_drewN ?_ _|refine blk_drew ?_|refine blk_alloc ?_ _));exact BK104.out) hb);have n3_:=Aside0.mk (blk_below (g:=gb109) (o:=.cells #[.int .i64 ((rd_T54 l2 x38_1).f0),.int .i64 ((rd_T54 l2 x38_1).f1)] 54 (0,0)) (by (with_reducible repeat (first|refine blk_drewN ?_ _|refine blk_drew ?_|refine blk_alloc ?_ _));exact BK109.out) hb);have n4_:=Aside0.mk (below_step (by repeat (first|(with_reducible first|exact HB.out|apply below_alloc|apply pw_below_drewN|apply below_drew1|refine below_set ?_ GE101.out|refine below_set ?_ GE104.out|refine below_set ?_ GE109.out)|exact HB.out)) hb);clear HO_9;clear BK101;clear BK104;clear BK109;clear HB;have HO_9:=n0_;have BK101:=n1_;have BK104:=n2_;have BK109:=n3_;have HB:=n4_;clear n0_ n1_ n2_ n3_ n4_;(try clear hb);(try clear hb2);(try clear hk);(try clear hi))|((with_reducible refine gate_dst (N:=15) rfl ?_);refine box_event ?hg (N:=15) ?hd (cs:=#[.int .i64 0,.int .i64 0]) (t:=26) ?hr ?_;(case hd => rfl);(case hg => rfl);(case hr => first|(go_simp;done)|(go_simp;rfl));intro gb117 hg w71 hbox hb;have n0_:=Aside0.mk (Kd.R_below (by (with_reducible repeat (first|apply Kd.R_alloc|apply Kd.R_drewN|apply Kd.R_drew));exact HO_9.out) hb);have n1_:=Aside0.mk (blk_below (g:=gb101) (o:=.cells #[.int .i64 x102000_1,.int .i64 x102001_1] 26 (0,0)) (by (with_reducible repeat (first|refine blk_drewN ?_ _|refine blk_drew ?_|refine blk_alloc ?_ _));exact BK101.out) hb);have n2_:=Aside0.mk (blk_below (g:=gb104) (o:=.cells #[.int .i64 t102,.int .i64 t103] 26 (0,0)) (by (with_reducible repeat (first|refine blk_drewN ?_ _|refine blk_drew ?_|refine blk_alloc ?_ _));exact BK104.out) hb);have n3_:=Aside0.mk (blk_below (g:=gb109) (o:=.cells #[.int .i64 ((rd_T54 l2 x38_1).f0),.int .i64 ((rd_T54 l2 x38_1).f1)] 54 (0,0)) (by (with_reducible repeat (first|refine blk_drewN ?_ _|refine blk_drew ?_|refine blk_alloc ?_ _));exact BK109.out) hb);have n4_:=Aside0.mk (below_step (by repeat (first|(with_reducible first|exact HB.out|apply below_alloc|apply pw_below_drewN|apply below_drew1|refine below_set ?_ GE101.out|refine below_set ?_ GE104.out|refine below_set ?_ GE109.out)|exact HB.out)) hb);have n5_:=Aside0.mk (hbox);have n6_:=Aside0.mk ((by rw [hg];exact (below_size (by repeat (first|(with_reducible first|exact HB.out|apply below_alloc|apply pw_below_drewN|apply below_drew1|refine below_set ?_ GE101.out|refine below_set ?_ GE104.out|refine below_set ?_ GE109.out)|exact HB.out))) : w.heap.size ≤ gb117));have n7_:=Aside0.mk ((by rw [hg];exact (below_size (by repeat (first|(with_reducible first|exact HB.out|apply below_alloc|apply pw_below_drewN|apply below_drew1|refine below_set ?_ GE101.out|refine below_set ?_ GE104.out|refine below_set ?_ GE109.out)|exact HB.out))) : w.heap.size ≤ gb117));have n8_:=Aside0.mk ((by rw [hg];exact Nat.ne_of_lt (blk_lt (g:=gb101) (o:=.cells #[.int .i64 x102000_1,.int .i64 x102001_1] 26 (0,0)) (by (with_reducible repeat (first|refine blk_drewN ?_ _|refine blk_drew ?_|refine blk_alloc ?_ _));exact BK101.out)) : gb101 ≠ gb117));have n9_:=Aside0.mk ((by rw [hg];exact Nat.ne_of_gt (blk_lt (g:=gb101) (o:=.cells #[.int .i64 x102000_1,.int .i64 x102001_1] 26 (0,0)) (by (with_reducible repeat (first|refine blk_drewN ?_ _|refine blk_drew ?_|refine blk_alloc ?_ _));exact BK101.out)) : gb117 ≠ gb101));have n10_:=Aside0.mk ((by rw [hg];exact Nat.ne_of_lt (blk_lt (g:=gb104) (o:=.cells #[.int .i64 t102,.int .i64 t103] 26 (0,0)) (by (with_reducible repeat (first|refine blk_drewN ?_ _|refine blk_drew ?_|refine blk_alloc ?_ _));exact BK104.out)) : gb104 ≠ gb117));have n11_:=Aside0.mk ((by rw [hg];exact Nat.ne_of_gt (blk_lt (g:=gb104) (o:=.cells #[.int .i64 t102,.int .i64 t103] 26 (0,0)) (by (with_reducible repeat (first|refine blk_drewN ?_ _|refine blk_drew ?_|refine blk_alloc ?_ _));exact BK104.out)) : gb117 ≠ gb104));have n12_:=Aside0.mk ((by rw [hg];exact Nat.ne_of_lt (blk_lt (g:=gb109) (o:=.cells #[.int .i64 ((rd_T54 l2 x38_1).f0),.int .i64 ((rd_T54 l2 x38_1).f1)] 54 (0,0)) (by (with_reducible repeat (first|refine blk_drewN ?_ _|refine blk_drew ?_|refine blk_alloc ?_ _));exact BK109.out)) : gb109 ≠ gb117));have n13_:=Aside0.mk ((by rw [hg];exact Nat.ne_of_gt (blk_lt (g:=gb109) (o:=.cells #[.int .i64 ((rd_T54 l2 x38_1).f0),.int .i64 ((rd_T54 l2 x38_1).f1)] 54 (0,0)) (by (with_reducible repeat (first|refine blk_drewN ?_ _|refine blk_drew ?_|refine blk_alloc ?_ _));exact BK109.out)) : gb117 ≠ gb109));clear HO_9;clear BK101;clear BK104;clear BK109;clear HB;have HO_9:=n0_;have BK101:=n1_;have BK104:=n2_;have BK109:=n3_;have HB:=n4_;have BK117:=n5_;have GW117:=n6_;have GE117:=n7_;have NB101_117:=n8_;have NB117_101:=n9_;have NB104_117:=n10_;have NB117_104:=n11_;have NB109_117:=n12_;have NB117_109:=n13_;clear n0_ n1_ n2_ n3_ n4_ n5_ n6_ n7_ n8_ n9_ n10_ n11_ n12_ n13_;clear hb hbox hg;have hnb72:=NB117_101.out;have hnc72:=NB101_117.out;have hnb73:=NB117_104.out;have hnc73:=NB104_117.out;have hnb74:=NB117_109.out;have hnc74:=NB109_117.out;have hcz75_0 : w71.cell? ⟨gb117,0,none⟩ = some (.int .i64 0):=(blk_cell BK117.out 0).trans rfl;have hcz75_1 : w71.cell? ⟨gb117,1,none⟩ = some (.int .i64 0):=(blk_cell BK117.out 1).trans rfl;have hfz75_0:=blk_frozen BK117.out 0;have hfz75_1:=blk_frozen BK117.out 1)|((with_reducible refine gate_store (t:=26) (p:=15) rfl ?_);refine store_event (t:=26) (p:=15) (v:=?vo_w76) (w1:=((w71.setCell ⟨gb117,0,none⟩ (.int .i64 t115)).setCell ⟨gb117,1,none⟩ (.int .i64 t116))) ?hg ?ho ?hn ?hr ?_;(case ho => rfl);(case hg => rfl);(case hn => rfl);(case hr => first|(go_simp;done)|(go_simp;rfl));intro w76 hw;have n0_ : Aside0 (Kd.R Kd.bool 4 w76 w.heap.size (fun _ => True) v106 x9_1):=⟨(by rw [hw];exact (by (with_reducible repeat (first|apply Kd.R_alloc|apply Kd.R_drewN|apply Kd.R_drew));exact Kd.R_mono (Kd.R_far (p:=⟨gb117,1,none⟩) (Kd.R_far (p:=⟨gb117,0,none⟩) (Kd.R_types HO_9.out BK117.out (by decide)) (fun _ hk => hk.2) (.int .i64 t115)) (fun _ hk => hk.2) (.int .i64 t116)) (fun _ hk => trivial)))⟩;have n1_ : Aside0 (w76.heap[gb101]? = some (.cells #[.int .i64 x102000_1,.int .i64 x102001_1] 26 (0,0))):=⟨(by rw [hw];exact (by (with_reducible repeat (first|refine blk_drewN ?_ _|refine blk_drew ?_|refine blk_alloc ?_ _));refine blk_far ?_ NB101_117.out _;(with_reducible repeat (first|refine blk_drewN ?_ _|refine blk_drew ?_|refine blk_alloc ?_ _));refine blk_far ?_ NB101_117.out _;(with_reducible repeat (first|refine blk_drewN ?_ _|refine blk_drew ?_|refine blk_alloc ?_ _));exact BK101.out))⟩;have n2_ : Aside0 (w76.heap[gb104]? = some (.cells #[.int .i64 t102,.int .i64 t103] 26 (0,0))):=⟨(by rw [hw];exact (by (with_reducible repeat (first|refine blk_drewN ?_ _|refine blk_drew ?_|refine blk_alloc ?_ _));refine blk_far ?_ NB104_117.out _;(with_reducible repeat (first|refine blk_drewN ?_ _|refine blk_drew ?_|refine blk_alloc ?_ _));refine blk_far ?_ NB104_117.out _;(with_reducible repeat (first|refine blk_drewN ?_ _|refine blk_drew ?_|refine blk_alloc ?_ _));exact BK104.out))⟩;have n3_ : Aside0 (w76.heap[gb109]? = some (.cells #[.int .i64 ((rd_T54 l2 x38_1).f0),.int .i64 ((rd_T54 l2 x38_1).f1)] 54 (0,0))):=⟨(by rw [hw];exact (by (with_reducible repeat (first|refine blk_drewN ?_ _|refine blk_drew ?_|refine blk_alloc ?_ _));refine blk_far ?_ NB109_117.out _;(with_reducible repeat (first|refine blk_drewN ?_ _|refine blk_drew ?_|refine blk_alloc ?_ _));refine blk_far ?_ NB109_117.out _;(with_reducible repeat (first|refine blk_drewN ?_ _|refine blk_drew ?_|refine blk_alloc ?_ _));exact BK109.out))⟩;have n4_ : Aside0 (w76.heap[gb117]? = some (.cells #[.int .i64 t115,.int .i64 t116] 26 (0,0))):=⟨(by rw [hw];exact (by (with_reducible repeat (first|refine blk_drewN ?_ _|refine blk_drew ?_|refine blk_alloc ?_ _));refine blk_put (cs:=#[.int .i64 t115,.int .i64 0]) ?_ 1 _ rfl;(with_reducible repeat (first|refine blk_drewN ?_ _|refine blk_drew ?_|refine blk_alloc ?_ _));refine blk_put (cs:=#[.int .i64 0,.int .i64 0]) ?_ 0 _ rfl;(with_reducible repeat (first|refine blk_drewN ?_ _|refine blk_drew ?_|refine blk_alloc ?_ _));exact BK117.out))⟩;have n5_ : Aside0 (Below w.heap.size w w76):=⟨(by rw [hw];exact (by repeat (first|(with_reducible first|exact HB.out|apply below_alloc|apply pw_below_drewN|apply below_drew1|refine below_set ?_ GE101.out|refine below_set ?_ GE104.out|refine below_set ?_ GE109.out|refine below_set ?_ GE117.out)|exact HB.out)))⟩;clear hw;clear HO_9;clear BK101;clear BK104;clear BK109;clear BK117;clear HB;have HO_9:=n0_;have BK101:=n1_;have BK104:=n2_;have BK109:=n3_;have BK117:=n4_;have HB:=n5_;clear n0_ n1_ n2_ n3_ n4_ n5_;obtain ⟨Ao77,co77,eo77⟩:=Kd.R_slice HO_9.out;subst eo77;have p118 : 0 ≤ (t112 : Int):=of_decide_eq_true (by first|(with_reducible assumption)|assumption);have q118 : t112 < (x9_1.length : Int):=of_decide_eq_true (by first|(with_reducible assumption)|assumption);obtain ⟨ad118,e118,hx118_0⟩:=Kd.at_bool (Kd.R_reads' HO_9.out).2.2 t112 p118 q118;(try rw [← Nbq64.out] at hx118_0);cases e118;replace p118:=eq_true p118;replace q118:=eq_true q118;have p66 : 0 ≤ (t112 : Int):=of_decide_eq_true (by first|(with_reducible assumption)|assumption);have q66 : (t112 : Int) < ((x9_1.length : Int) : Int):=of_decide_eq_true (by first|(with_reducible assumption)|assumption);obtain ⟨go66,co66,eo66,gb66,gl66,cl66,HG66⟩:=Kd.R_form HO_9.out (by omega);(first|cases eo66|(injection eo66 with ea_ en_ ec_;(first|subst ea_|(injection ea_ with ea_;subst ea_));subst ec_;clear en_));have GB66:=Aside0.mk gb66;have GG66:=Aside0.mk HG66;clear gb66 gl66 HG66;(first|simp only [add_plain] at hx118_0|skip);obtain ⟨hx66_0,hf66_0⟩:=Kd.R_celln false HO_9.out (t112 : Int) p66 q66;replace p66:=eq_true p66;replace q66:=eq_true q66;obtain ⟨hy78_,hz78_⟩:=Kd.R_celln false HO_9.out (t112 : Int) (of_decide_eq_true (by first|(with_reducible assumption)|assumption)) (of_decide_eq_true (by first|(with_reducible assumption)|assumption));have HP78:=Kd.R_putg HO_9.out (t112 : Int) true)|((with_reducible refine gate_store (t:=4) (p:=84) rfl ?_);refine store_event (t:=4) (p:=84) (v:=?vo_w79) (w1:=(w76.setCell ⟨go66,(t112 : Int).toNat,none⟩ (.bool true))) ?hg ?ho ?hn ?hr ?_;(case ho => rfl);(case hg => rfl);(case hn => rfl);(case hr => first|(go_simp;done)|(go_simp;rfl));intro w79 hw;have hg : w76.grownBy w79 (some go66):=(by rw [hw];exact HP78.2);have hp_ : Kd.R Kd.bool 4 w79 w.heap.size (fun _ => True) (.slice (some ⟨go66,0,none⟩) x9_1.length co77) y119:=(by rw [hw,Ny119.out];exact HP78.1);clear HP78;have n0_:=Aside0.mk (hp_);have n1_:=Aside0.mk (blk_grown (g:=gb101) (o:=.cells #[.int .i64 x102000_1,.int .i64 x102001_1] 26 (0,0)) (by (with_reducible repeat (first|refine blk_drewN ?_ _|refine blk_drew ?_|refine blk_alloc ?_ _));exact BK101.out) hg (Kd.R_ne HO_9.out BK101.out (by decide)));have n2_:=Aside0.mk (blk_grown (g:=gb104) (o:=.cells #[.int .i64 t102,.int .i64 t103] 26 (0,0)) (by (with_reducible repeat (first|refine blk_drewN ?_ _|refine blk_drew ?_|refine blk_alloc ?_ _));exact BK104.out) hg (Kd.R_ne HO_9.out BK104.out (by decide)));have n3_:=Aside0.mk (blk_grown (g:=gb109) (o:=.cells #[.int .i64 ((rd_T54 l2 x38_1).f0),.int .i64 ((rd_T54 l2 x38_1).f1)] 54 (0,0)) (by (with_reducible repeat (first|refine blk_drewN ?_ _|refine blk_drew ?_|refine blk_alloc ?_ _));exact BK109.out) hg (Kd.R_ne HO_9.out BK109.out (by decide)));have n4_:=Aside0.mk (blk_grown (g:=gb117) (o:=.cells #[.int .i64 t115,.int .i64 t116] 26 (0,0)) (by (with_reducible repeat (first|refine blk_drewN ?_ _|refine blk_drew ?_|refine blk_alloc ?_ _));exact BK117.out) hg (Kd.R_ne HO_9.out BK117.out (by decide)));have n5_:=Aside0.mk ((by rw [hw];exact below_set (HB.out) GB66.out : Below w.heap.size w w79));clear HO_9;clear BK101;clear BK104;clear BK109;clear BK117;clear HB;have HO_9:=n0_;have BK101:=n1_;have BK104:=n2_;have BK109:=n3_;have BK117:=n4_;have HB:=n5_;clear n0_ n1_ n2_ n3_ n4_ n5_;clear hg hw hp_))
                  go_roundg kj40
                  case measure => have:=HK1.out;have:=HJ40.out;omega
                  case rel => exact ⟨(y119),(wrap64 (x38_1 + 1)),(x102000_1),(x102001_1),(by first|rfl|(simp;done)|(simp only [IntWalk.i64_left];done)|(simp [*];done)),H',⟨by have:=HK1.out;have:=HJ40.out;omega⟩,⟨by (with_reducible repeat (first|apply Kd.R_alloc|apply Kd.R_drewN|apply Kd.R_drew));exact HO_9.out⟩,⟨by (with_reducible repeat (first|refine blk_drewN ?_ _|refine blk_drew ?_|refine blk_alloc ?_ _));exact BK101.out⟩,⟨by (with_reducible repeat (first|refine blk_drewN ?_ _|refine blk_drew ?_|refine blk_alloc ?_ _));exact BK104.out⟩,⟨by repeat (first|(with_reducible first|exact HB.out|apply below_alloc|apply pw_below_drewN|apply below_drew1|refine below_set ?_ GE101.out|refine below_set ?_ GE104.out|refine below_set ?_ GE109.out|refine below_set ?_ GE117.out)|exact HB.out)⟩⟩
                 ·replace c65:=Bool.eq_false_iff.mpr c65
                  subst c65
                  have H1 : (threshold_Signers.l0 kj40 l0 l1 (x9_1.set (t112 : Int).toNat t114) l2 (l2.length : Int) (wrap64 (x38_1 + 1))) = some (r1,r2,r3):=by rw [if_neg (show ¬ (false = true) by decide)] at H;exact H
                  clear H
                  have H:=H1
                  clear H1
                  obtain ⟨y120,hy120⟩ : ∃ y_ : List Bool,y_ = (x9_1.set (t112 : Int).toNat t114):=⟨_,rfl⟩
                  replace H : (threshold_Signers.l0 kj40 l0 l1 y120 l2 (l2.length : Int) (wrap64 (x38_1 + 1))) = some (r1,r2,r3):=by first|(rw [hy120];with_reducible exact H)|(have H2_:=(Option.bind_some _ _).symm.trans H;rw [hy120];with_reducible exact H2_)|(have H2_:=(Option.bind_some _ _).symm.trans H;with_reducible exact H2_)|with_reducible exact H|(rw [hy120];exact H)|exact H
                  have Ny120:=Aside0.mk hy120
                  clear hy120
                  have H':=Aside0.mk H
                  clear H
                  have hnb81:=NB109_101.out
                  have hnc81:=NB101_109.out
                  have hnb82:=NB109_104.out
                  have hnc82:=NB104_109.out
                  have hcz83_0 : wc.cell? ⟨gb109,0,none⟩ = some (.int .i64 ((rd_T54 l2 x38_1).f0)):=(blk_cell BK109.out 0).trans rfl
                  have hcz83_1 : wc.cell? ⟨gb109,1,none⟩ = some (.int .i64 ((rd_T54 l2 x38_1).f1)):=(blk_cell BK109.out 1).trans rfl
                  have hfz83_0:=blk_frozen BK109.out 0
                  have hfz83_1:=blk_frozen BK109.out 1
                  go_wp2_with (first|((with_reducible refine gate_callee (f:=45) rfl ?_);refine goesL_ (some 62) rfl rfl Try.func45 (by kernel_rfl) rfl #[.slice A0 l0.length c0,.int .i64 ((rd_T54 l2 x38_1).f0)] rfl (by (try simp only [List.map_toArray,List.map_cons,List.map_nil]);first|done|rfl|(simp only [List.length_drop,List.length_take];rfl)) ?_;(with_reducible refine (slices_BinarySearch_int_int.calls kj40 _ _ l0 ((rd_T54 l2 x38_1).f0) t112 true _ ?side1 ?side2 A59.out).mono ?_);(case side1 => repeat (first|exact (Kd.C_below HR0.out HB.out)|(with_reducible refine Kd.C_alloc ?_ _)|(with_reducible refine Kd.C_drewN ?_ _)|(with_reducible refine Kd.C_drew ?_)));(case side2 => exact HC0.out);rintro e w' ⟨rfl,⟨nd,rfl⟩⟩;refine ⟨_,rfl,?_⟩;(try (rw [drewN_self wc];generalize hq_ : World.drewN wc _ = wc;have n0_ : Aside0 (Kd.R Kd.bool 4 wc w.heap.size (fun _ => True) v106 x9_1):=⟨by rw [← hq_];exact (by (with_reducible repeat (first|apply Kd.R_alloc|apply Kd.R_drewN|apply Kd.R_drew));exact HO_9.out)⟩;have n1_ : Aside0 (wc.heap[gb101]? = some (.cells #[.int .i64 x102000_1,.int .i64 x102001_1] 26 (0,0))):=⟨by rw [← hq_];exact (by (with_reducible repeat (first|refine blk_drewN ?_ _|refine blk_drew ?_|refine blk_alloc ?_ _));exact BK101.out)⟩;have n2_ : Aside0 (wc.heap[gb104]? = some (.cells #[.int .i64 t102,.int .i64 t103] 26 (0,0))):=⟨by rw [← hq_];exact (by (with_reducible repeat (first|refine blk_drewN ?_ _|refine blk_drew ?_|refine blk_alloc ?_ _));exact BK104.out)⟩;have n3_ : Aside0 (wc.heap[gb109]? = some (.cells #[.int .i64 ((rd_T54 l2 x38_1).f0),.int .i64 ((rd_T54 l2 x38_1).f1)] 54 (0,0))):=⟨by rw [← hq_];exact (by (with_reducible repeat (first|refine blk_drewN ?_ _|refine blk_drew ?_|refine blk_alloc ?_ _));exact BK109.out)⟩;have n4_ : Aside0 (Below w.heap.size w wc):=⟨by rw [← hq_];exact (by repeat (first|(with_reducible first|exact HB.out|apply below_alloc|apply pw_below_drewN|apply below_drew1|refine below_set ?_ GE101.out|refine below_set ?_ GE104.out|refine below_set ?_ GE109.out)|exact HB.out))⟩;clear HO_9 BK101 BK104 BK109 HB hq_;have HO_9:=n0_;have BK101:=n1_;have BK104:=n2_;have BK109:=n3_;have HB:=n4_;clear n0_ n1_ n2_ n3_ n4_));(try (have hcz83_0 : wc.cell? ⟨gb109,0,none⟩ = some (.int .i64 ((rd_T54 l2 x38_1).f0)):=(blk_cell BK109.out 0).trans rfl));(try (have hcz83_1 : wc.cell? ⟨gb109,1,none⟩ = some (.int .i64 ((rd_T54 l2 x38_1).f1)):=(blk_cell BK109.out 1).trans rfl));(try (have hfz83_0:=blk_frozen BK109.out 0));(try (have hfz83_1:=blk_frozen BK109.out 1)))|((with_reducible refine gate_callee (f:=22) rfl ?_);refine goesL_ (some 72) rfl rfl Try.func22 (by kernel_rfl) rfl #[.int .i64 ((rd_T54 l2 x38_1).f0),.slice A1 l1.length c1,.int .i64 ((rd_T54 l2 x38_1).f1)] rfl (by (try simp only [List.map_toArray,List.map_cons,List.map_nil]);first|done|rfl|(simp only [List.length_drop,List.length_take];rfl)) ?_;(with_reducible refine (signing_Verify.calls kj40 ((rd_T54 l2 x38_1).f0) _ _ l1 ((rd_T54 l2 x38_1).f1) t114 t115 t116 _ ?side1 ?side2 A61.out).mono ?_);(case side1 => repeat (first|exact (Kd.C_below HR1.out HB.out)|(with_reducible refine Kd.C_alloc ?_ _)|(with_reducible refine Kd.C_drewN ?_ _)|(with_reducible refine Kd.C_drew ?_)));(case side2 => exact HC1.out);rintro e w84 ⟨rfl,hb⟩;refine ⟨_,rfl,?_⟩;have n0_:=Aside0.mk (Kd.R_below (by (with_reducible repeat (first|apply Kd.R_alloc|apply Kd.R_drewN|apply Kd.R_drew));exact HO_9.out) hb);have n1_:=Aside0.mk (blk_below (g:=gb101) (o:=.cells #[.int .i64 x102000_1,.int .i64 x102001_1] 26 (0,0)) (by (with_reducible repeat (first|refine blk_drewN ?_ _|refine blk_drew ?_|refine blk_alloc ?_ _));exact BK101.out) hb);have n2_:=Aside0.mk (blk_below (g:=gb104) (o:=.cells #[.int .i64 t102,.int .i64 t103] 26 (0,0)) (by (with_reducible repeat (first|refine blk_drewN ?_ _|refine blk_drew ?_|refine blk_alloc ?_ _));exact BK104.out) hb);have n3_:=Aside0.mk (blk_below (g:=gb109) (o:=.cells #[.int .i64 ((rd_T54 l2 x38_1).f0),.int .i64 ((rd_T54 l2 x38_1).f1)] 54 (0,0)) (by (with_reducible repeat (first|refine blk_drewN ?_ _|refine blk_drew ?_|refine blk_alloc ?_ _));exact BK109.out) hb);have n4_:=Aside0.mk (below_step (by repeat (first|(with_reducible first|exact HB.out|apply below_alloc|apply pw_below_drewN|apply below_drew1|refine below_set ?_ GE101.out|refine below_set ?_ GE104.out|refine below_set ?_ GE109.out)|exact HB.out)) hb);clear HO_9;clear BK101;clear BK104;clear BK109;clear HB;have HO_9:=n0_;have BK101:=n1_;have BK104:=n2_;have BK109:=n3_;have HB:=n4_;clear n0_ n1_ n2_ n3_ n4_;(try clear hb);(try clear hb2);(try clear hk);(try clear hi))|((with_reducible refine gate_dst (N:=15) rfl ?_);refine box_event ?hg (N:=15) ?hd (cs:=#[.int .i64 0,.int .i64 0]) (t:=26) ?hr ?_;(case hd => rfl);(case hg => rfl);(case hr => first|(go_simp;done)|(go_simp;rfl));intro gb117 hg w85 hbox hb;have n0_:=Aside0.mk (Kd.R_below (by (with_reducible repeat (first|apply Kd.R_alloc|apply Kd.R_drewN|apply Kd.R_drew));exact HO_9.out) hb);have n1_:=Aside0.mk (blk_below (g:=gb101) (o:=.cells #[.int .i64 x102000_1,.int .i64 x102001_1] 26 (0,0)) (by (with_reducible repeat (first|refine blk_drewN ?_ _|refine blk_drew ?_|refine blk_alloc ?_ _));exact BK101.out) hb);have n2_:=Aside0.mk (blk_below (g:=gb104) (o:=.cells #[.int .i64 t102,.int .i64 t103] 26 (0,0)) (by (with_reducible repeat (first|refine blk_drewN ?_ _|refine blk_drew ?_|refine blk_alloc ?_ _));exact BK104.out) hb);have n3_:=Aside0.mk (blk_below (g:=gb109) (o:=.cells #[.int .i64 ((rd_T54 l2 x38_1).f0),.int .i64 ((rd_T54 l2 x38_1).f1)] 54 (0,0)) (by (with_reducible repeat (first|refine blk_drewN ?_ _|refine blk_drew ?_|refine blk_alloc ?_ _));exact BK109.out) hb);have n4_:=Aside0.mk (below_step (by repeat (first|(with_reducible first|exact HB.out|apply below_alloc|apply pw_below_drewN|apply below_drew1|refine below_set ?_ GE101.out|refine below_set ?_ GE104.out|refine below_set ?_ GE109.out)|exact HB.out)) hb);have n5_:=Aside0.mk (hbox);have n6_:=Aside0.mk ((by rw [hg];exact (below_size (by repeat (first|(with_reducible first|exact HB.out|apply below_alloc|apply pw_below_drewN|apply below_drew1|refine below_set ?_ GE101.out|refine below_set ?_ GE104.out|refine below_set ?_ GE109.out)|exact HB.out))) : w.heap.size ≤ gb117));have n7_:=Aside0.mk ((by rw [hg];exact (below_size (by repeat (first|(with_reducible first|exact HB.out|apply below_alloc|apply pw_below_drewN|apply below_drew1|refine below_set ?_ GE101.out|refine below_set ?_ GE104.out|refine below_set ?_ GE109.out)|exact HB.out))) : w.heap.size ≤ gb117));have n8_:=Aside0.mk ((by rw [hg];exact Nat.ne_of_lt (blk_lt (g:=gb101) (o:=.cells #[.int .i64 x102000_1,.int .i64 x102001_1] 26 (0,0)) (by (with_reducible repeat (first|refine blk_drewN ?_ _|refine blk_drew ?_|refine blk_alloc ?_ _));exact BK101.out)) : gb101 ≠ gb117));have n9_:=Aside0.mk ((by rw [hg];exact Nat.ne_of_gt (blk_lt (g:=gb101) (o:=.cells #[.int .i64 x102000_1,.int .i64 x102001_1] 26 (0,0)) (by (with_reducible repeat (first|refine blk_drewN ?_ _|refine blk_drew ?_|refine blk_alloc ?_ _));exact BK101.out)) : gb117 ≠ gb101));have n10_:=Aside0.mk ((by rw [hg];exact Nat.ne_of_lt (blk_lt (g:=gb104) (o:=.cells #[.int .i64 t102,.int .i64 t103] 26 (0,0)) (by (with_reducible repeat (first|refine blk_drewN ?_ _|refine blk_drew ?_|refine blk_alloc ?_ _));exact BK104.out)) : gb104 ≠ gb117));have n11_:=Aside0.mk ((by rw [hg];exact Nat.ne_of_gt (blk_lt (g:=gb104) (o:=.cells #[.int .i64 t102,.int .i64 t103] 26 (0,0)) (by (with_reducible repeat (first|refine blk_drewN ?_ _|refine blk_drew ?_|refine blk_alloc ?_ _));exact BK104.out)) : gb117 ≠ gb104));have n12_:=Aside0.mk ((by rw [hg];exact Nat.ne_of_lt (blk_lt (g:=gb109) (o:=.cells #[.int .i64 ((rd_T54 l2 x38_1).f0),.int .i64 ((rd_T54 l2 x38_1).f1)] 54 (0,0)) (by (with_reducible repeat (first|refine blk_drewN ?_ _|refine blk_drew ?_|refine blk_alloc ?_ _));exact BK109.out)) : gb109 ≠ gb117));have n13_:=Aside0.mk ((by rw [hg];exact Nat.ne_of_gt (blk_lt (g:=gb109) (o:=.cells #[.int .i64 ((rd_T54 l2 x38_1).f0),.int .i64 ((rd_T54 l2 x38_1).f1)] 54 (0,0)) (by (with_reducible repeat (first|refine blk_drewN ?_ _|refine blk_drew ?_|refine blk_alloc ?_ _));exact BK109.out)) : gb117 ≠ gb109));clear HO_9;clear BK101;clear BK104;clear BK109;clear HB;have HO_9:=n0_;have BK101:=n1_;have BK104:=n2_;have BK109:=n3_;have HB:=n4_;have BK117:=n5_;have GW117:=n6_;have GE117:=n7_;have NB101_117:=n8_;have NB117_101:=n9_;have NB104_117:=n10_;have NB117_104:=n11_;have NB109_117:=n12_;have NB117_109:=n13_;clear n0_ n1_ n2_ n3_ n4_ n5_ n6_ n7_ n8_ n9_ n10_ n11_ n12_ n13_;clear hb hbox hg;have hnb86:=NB117_101.out;have hnc86:=NB101_117.out;have hnb87:=NB117_104.out;have hnc87:=NB104_117.out;have hnb88:=NB117_109.out;have hnc88:=NB109_117.out;have hcz89_0 : w85.cell? ⟨gb117,0,none⟩ = some (.int .i64 0):=(blk_cell BK117.out 0).trans rfl;have hcz89_1 : w85.cell? ⟨gb117,1,none⟩ = some (.int .i64 0):=(blk_cell BK117.out 1).trans rfl;have hfz89_0:=blk_frozen BK117.out 0;have hfz89_1:=blk_frozen BK117.out 1)|((with_reducible refine gate_store (t:=26) (p:=15) rfl ?_);refine store_event (t:=26) (p:=15) (v:=?vo_w90) (w1:=((w85.setCell ⟨gb117,0,none⟩ (.int .i64 t115)).setCell ⟨gb117,1,none⟩ (.int .i64 t116))) ?hg ?ho ?hn ?hr ?_;(case ho => rfl);(case hg => rfl);(case hn => rfl);(case hr => first|(go_simp;done)|(go_simp;rfl));intro w90 hw;have n0_ : Aside0 (Kd.R Kd.bool 4 w90 w.heap.size (fun _ => True) v106 x9_1):=⟨(by rw [hw];exact (by (with_reducible repeat (first|apply Kd.R_alloc|apply Kd.R_drewN|apply Kd.R_drew));exact Kd.R_mono (Kd.R_far (p:=⟨gb117,1,none⟩) (Kd.R_far (p:=⟨gb117,0,none⟩) (Kd.R_types HO_9.out BK117.out (by decide)) (fun _ hk => hk.2) (.int .i64 t115)) (fun _ hk => hk.2) (.int .i64 t116)) (fun _ hk => trivial)))⟩;have n1_ : Aside0 (w90.heap[gb101]? = some (.cells #[.int .i64 x102000_1,.int .i64 x102001_1] 26 (0,0))):=⟨(by rw [hw];exact (by (with_reducible repeat (first|refine blk_drewN ?_ _|refine blk_drew ?_|refine blk_alloc ?_ _));refine blk_far ?_ NB101_117.out _;(with_reducible repeat (first|refine blk_drewN ?_ _|refine blk_drew ?_|refine blk_alloc ?_ _));refine blk_far ?_ NB101_117.out _;(with_reducible repeat (first|refine blk_drewN ?_ _|refine blk_drew ?_|refine blk_alloc ?_ _));exact BK101.out))⟩;have n2_ : Aside0 (w90.heap[gb104]? = some (.cells #[.int .i64 t102,.int .i64 t103] 26 (0,0))):=⟨(by rw [hw];exact (by (with_reducible repeat (first|refine blk_drewN ?_ _|refine blk_drew ?_|refine blk_alloc ?_ _));refine blk_far ?_ NB104_117.out _;(with_reducible repeat (first|refine blk_drewN ?_ _|refine blk_drew ?_|refine blk_alloc ?_ _));refine blk_far ?_ NB104_117.out _;(with_reducible repeat (first|refine blk_drewN ?_ _|refine blk_drew ?_|refine blk_alloc ?_ _));exact BK104.out))⟩;have n3_ : Aside0 (w90.heap[gb109]? = some (.cells #[.int .i64 ((rd_T54 l2 x38_1).f0),.int .i64 ((rd_T54 l2 x38_1).f1)] 54 (0,0))):=⟨(by rw [hw];exact (by (with_reducible repeat (first|refine blk_drewN ?_ _|refine blk_drew ?_|refine blk_alloc ?_ _));refine blk_far ?_ NB109_117.out _;(with_reducible repeat (first|refine blk_drewN ?_ _|refine blk_drew ?_|refine blk_alloc ?_ _));refine blk_far ?_ NB109_117.out _;(with_reducible repeat (first|refine blk_drewN ?_ _|refine blk_drew ?_|refine blk_alloc ?_ _));exact BK109.out))⟩;have n4_ : Aside0 (w90.heap[gb117]? = some (.cells #[.int .i64 t115,.int .i64 t116] 26 (0,0))):=⟨(by rw [hw];exact (by (with_reducible repeat (first|refine blk_drewN ?_ _|refine blk_drew ?_|refine blk_alloc ?_ _));refine blk_put (cs:=#[.int .i64 t115,.int .i64 0]) ?_ 1 _ rfl;(with_reducible repeat (first|refine blk_drewN ?_ _|refine blk_drew ?_|refine blk_alloc ?_ _));refine blk_put (cs:=#[.int .i64 0,.int .i64 0]) ?_ 0 _ rfl;(with_reducible repeat (first|refine blk_drewN ?_ _|refine blk_drew ?_|refine blk_alloc ?_ _));exact BK117.out))⟩;have n5_ : Aside0 (Below w.heap.size w w90):=⟨(by rw [hw];exact (by repeat (first|(with_reducible first|exact HB.out|apply below_alloc|apply pw_below_drewN|apply below_drew1|refine below_set ?_ GE101.out|refine below_set ?_ GE104.out|refine below_set ?_ GE109.out|refine below_set ?_ GE117.out)|exact HB.out)))⟩;clear hw;clear HO_9;clear BK101;clear BK104;clear BK109;clear BK117;clear HB;have HO_9:=n0_;have BK101:=n1_;have BK104:=n2_;have BK109:=n3_;have BK117:=n4_;have HB:=n5_;clear n0_ n1_ n2_ n3_ n4_ n5_;obtain ⟨Ao91,co91,eo91⟩:=Kd.R_slice HO_9.out;subst eo91;have p118 : 0 ≤ (t112 : Int):=of_decide_eq_true (by first|(with_reducible assumption)|assumption);have q118 : t112 < (x9_1.length : Int):=of_decide_eq_true (by first|(with_reducible assumption)|assumption);obtain ⟨ad118,e118,hx118_0⟩:=Kd.at_bool (Kd.R_reads' HO_9.out).2.2 t112 p118 q118;(try rw [← Nbq64.out] at hx118_0);cases e118;replace p118:=eq_true p118;replace q118:=eq_true q118;have p80 : 0 ≤ (t112 : Int):=of_decide_eq_true (by first|(with_reducible assumption)|assumption);have q80 : (t112 : Int) < ((x9_1.length : Int) : Int):=of_decide_eq_true (by first|(with_reducible assumption)|assumption);obtain ⟨go80,co80,eo80,gb80,gl80,cl80,HG80⟩:=Kd.R_form HO_9.out (by omega);(first|cases eo80|(injection eo80 with ea_ en_ ec_;(first|subst ea_|(injection ea_ with ea_;subst ea_));subst ec_;clear en_));have GB80:=Aside0.mk gb80;have GG80:=Aside0.mk HG80;clear gb80 gl80 HG80;(first|simp only [add_plain] at hx118_0|skip);obtain ⟨hx80_0,hf80_0⟩:=Kd.R_celln false HO_9.out (t112 : Int) p80 q80;replace p80:=eq_true p80;replace q80:=eq_true q80;obtain ⟨hy92_,hz92_⟩:=Kd.R_celln false HO_9.out (t112 : Int) (of_decide_eq_true (by first|(with_reducible assumption)|assumption)) (of_decide_eq_true (by first|(with_reducible assumption)|assumption));have HP92:=Kd.R_putg HO_9.out (t112 : Int) t114)|((with_reducible refine gate_store (t:=4) (p:=84) rfl ?_);refine store_event (t:=4) (p:=84) (v:=?vo_w93) (w1:=(w90.setCell ⟨go80,(t112 : Int).toNat,none⟩ (.bool t114))) ?hg ?ho ?hn ?hr ?_;(case ho => rfl);(case hg => rfl);(case hn => rfl);(case hr => first|(go_simp;done)|(go_simp;rfl));intro w93 hw;have hg : w90.grownBy w93 (some go80):=(by rw [hw];exact HP92.2);have hp_ : Kd.R Kd.bool 4 w93 w.heap.size (fun _ => True) (.slice (some ⟨go80,0,none⟩) x9_1.length co91) y120:=(by rw [hw,Ny120.out];exact HP92.1);clear HP92;have n0_:=Aside0.mk (hp_);have n1_:=Aside0.mk (blk_grown (g:=gb101) (o:=.cells #[.int .i64 x102000_1,.int .i64 x102001_1] 26 (0,0)) (by (with_reducible repeat (first|refine blk_drewN ?_ _|refine blk_drew ?_|refine blk_alloc ?_ _));exact BK101.out) hg (Kd.R_ne HO_9.out BK101.out (by decide)));have n2_:=Aside0.mk (blk_grown (g:=gb104) (o:=.cells #[.int .i64 t102,.int .i64 t103] 26 (0,0)) (by (with_reducible repeat (first|refine blk_drewN ?_ _|refine blk_drew ?_|refine blk_alloc ?_ _));exact BK104.out) hg (Kd.R_ne HO_9.out BK104.out (by decide)));have n3_:=Aside0.mk (blk_grown (g:=gb109) (o:=.cells #[.int .i64 ((rd_T54 l2 x38_1).f0),.int .i64 ((rd_T54 l2 x38_1).f1)] 54 (0,0)) (by (with_reducible repeat (first|refine blk_drewN ?_ _|refine blk_drew ?_|refine blk_alloc ?_ _));exact BK109.out) hg (Kd.R_ne HO_9.out BK109.out (by decide)));have n4_:=Aside0.mk (blk_grown (g:=gb117) (o:=.cells #[.int .i64 t115,.int .i64 t116] 26 (0,0)) (by (with_reducible repeat (first|refine blk_drewN ?_ _|refine blk_drew ?_|refine blk_alloc ?_ _));exact BK117.out) hg (Kd.R_ne HO_9.out BK117.out (by decide)));have n5_:=Aside0.mk ((by rw [hw];exact below_set (HB.out) GB80.out : Below w.heap.size w w93));clear HO_9;clear BK101;clear BK104;clear BK109;clear BK117;clear HB;have HO_9:=n0_;have BK101:=n1_;have BK104:=n2_;have BK109:=n3_;have BK117:=n4_;have HB:=n5_;clear n0_ n1_ n2_ n3_ n4_ n5_;clear hg hw hp_))
                  go_roundg kj40
                  case measure => have:=HK1.out;have:=HJ40.out;omega
                  case rel => exact ⟨(y120),(wrap64 (x38_1 + 1)),(x102000_1),(x102001_1),(by first|rfl|(simp;done)|(simp only [IntWalk.i64_left];done)|(simp [*];done)),H',⟨by have:=HK1.out;have:=HJ40.out;omega⟩,⟨by (with_reducible repeat (first|apply Kd.R_alloc|apply Kd.R_drewN|apply Kd.R_drew));exact HO_9.out⟩,⟨by (with_reducible repeat (first|refine blk_drewN ?_ _|refine blk_drew ?_|refine blk_alloc ?_ _));exact BK101.out⟩,⟨by (with_reducible repeat (first|refine blk_drewN ?_ _|refine blk_drew ?_|refine blk_alloc ?_ _));exact BK104.out⟩,⟨by repeat (first|(with_reducible first|exact HB.out|apply below_alloc|apply pw_below_drewN|apply below_drew1|refine below_set ?_ GE101.out|refine below_set ?_ GE104.out|refine below_set ?_ GE109.out|refine below_set ?_ GE117.out)|exact HB.out)⟩⟩
                ·rw [if_neg c63] at H
                 exact absurd H (by simp)
               ·rw [if_neg c62] at H
                exact absurd H (by simp)
              ·replace c60:=Bool.eq_false_iff.mpr c60
               subst c60
               have H1 : (threshold_Signers.l0 kj40 l0 l1 x9_1 l2 (l2.length : Int) (wrap64 (x38_1 + 1))) = some (r1,r2,r3):=by rw [if_neg (show ¬ (false = true) by decide)] at H;exact H
               clear H
               have H:=H1
               clear H1
               have H':=Aside0.mk H
               clear H
               have hnb94:=NB109_101.out
               have hnc94:=NB101_109.out
               have hnb95:=NB109_104.out
               have hnc95:=NB104_109.out
               have hcz96_0 : wc.cell? ⟨gb109,0,none⟩ = some (.int .i64 ((rd_T54 l2 x38_1).f0)):=(blk_cell BK109.out 0).trans rfl
               have hcz96_1 : wc.cell? ⟨gb109,1,none⟩ = some (.int .i64 ((rd_T54 l2 x38_1).f1)):=(blk_cell BK109.out 1).trans rfl
               have hfz96_0:=blk_frozen BK109.out 0
               have hfz96_1:=blk_frozen BK109.out 1
               go_wp2_with (first|((with_reducible refine gate_callee (f:=45) rfl ?_);refine goesL_ (some 62) rfl rfl Try.func45 (by kernel_rfl) rfl #[.slice A0 l0.length c0,.int .i64 ((rd_T54 l2 x38_1).f0)] rfl (by (try simp only [List.map_toArray,List.map_cons,List.map_nil]);first|done|rfl|(simp only [List.length_drop,List.length_take];rfl)) ?_;(with_reducible refine (slices_BinarySearch_int_int.calls kj40 _ _ l0 ((rd_T54 l2 x38_1).f0) t112 false _ ?side1 ?side2 A59.out).mono ?_);(case side1 => repeat (first|exact (Kd.C_below HR0.out HB.out)|(with_reducible refine Kd.C_alloc ?_ _)|(with_reducible refine Kd.C_drewN ?_ _)|(with_reducible refine Kd.C_drew ?_)));(case side2 => exact HC0.out);rintro e w' ⟨rfl,⟨nd,rfl⟩⟩;refine ⟨_,rfl,?_⟩))
               go_roundg kj40
               case measure => have:=HK1.out;have:=HJ40.out;omega
               case rel => exact ⟨(x9_1),(wrap64 (x38_1 + 1)),(x102000_1),(x102001_1),(by first|rfl|(simp;done)|(simp only [IntWalk.i64_left];done)|(simp [*];done)),H',⟨by have:=HK1.out;have:=HJ40.out;omega⟩,⟨by (with_reducible repeat (first|apply Kd.R_alloc|apply Kd.R_drewN|apply Kd.R_drew));exact HO_9.out⟩,⟨by (with_reducible repeat (first|refine blk_drewN ?_ _|refine blk_drew ?_|refine blk_alloc ?_ _));exact BK101.out⟩,⟨by (with_reducible repeat (first|refine blk_drewN ?_ _|refine blk_drew ?_|refine blk_alloc ?_ _));exact BK104.out⟩,⟨by repeat (first|(with_reducible first|exact HB.out|apply below_alloc|apply pw_below_drewN|apply below_drew1|refine below_set ?_ GE101.out|refine below_set ?_ GE104.out|refine below_set ?_ GE109.out)|exact HB.out)⟩⟩
          ·rw [if_neg c40] at H
           exact absurd H (by simp)
         ·rw [if_neg c39] at H
          exact absurd H (by simp)
        ·rw [if_neg c38] at H
         have c38b0 : decide (x38_1 < (l2.length : Int)) = false:=decide_eq_false c38
         clear c38
         have H':=Aside0.mk H
         clear H
         go_wp2
         go_loopg [16,88] k1 (fun kq v16 v88 w' => ∃ (x16_2 : List Int) (x88_2 : Int),v88 = .int .i64 x88_2 ∧ Aside0 (threshold_Signers.l1 kq x9_1 x16_2 l0 (l0.length : Int) x88_2 = some (r1,r2,r3)) ∧ Aside0 (kq ≤ k1) ∧ Aside0 (Kd.R Kd.bool 4 w' w.heap.size (fun _ => True) v106 x9_1) ∧ Aside0 (Kd.R (Kd.int .i64) 3 w' w.heap.size (fun _ => True) v16 x16_2) ∧ Aside0 (w'.heap[gb101]? = some (.cells #[.int .i64 x102000_1,.int .i64 x102001_1] 26 (0,0))) ∧ Aside0 (w'.heap[gb104]? = some (.cells #[.int .i64 t102,.int .i64 t103] 26 (0,0))) ∧ Aside0 (Below w.heap.size w w'))
         case atStart => exact ⟨(([] : List Int)),(0),(by first|rfl|(simp;done)|(simp only [IntWalk.i64_left];done)|(simp [*];done)),H',⟨Nat.le_refl _⟩,⟨by (with_reducible repeat (first|apply Kd.R_alloc|apply Kd.R_drewN|apply Kd.R_drew));exact HO_9.out⟩,⟨by first|exact Kd.R_nil _ _ _ _ _|exact Kd.N_nil _ _ _ _ _|exact Kd.V_nil _ _ _ _ _|exact Kd.Q_nil _ _ _ _ _|exact Kd.S_nil _ _ _ _ _⟩,⟨by (with_reducible repeat (first|refine blk_drewN ?_ _|refine blk_drew ?_|refine blk_alloc ?_ _));exact BK101.out⟩,⟨by (with_reducible repeat (first|refine blk_drewN ?_ _|refine blk_drew ?_|refine blk_alloc ?_ _));exact BK104.out⟩,⟨by repeat (first|(with_reducible first|exact HB.out|apply below_alloc|apply pw_below_drewN|apply below_drew1|refine below_set ?_ GE101.out|refine below_set ?_ GE104.out)|exact HB.out)⟩⟩
         case round =>
          clear H'
          try clear c1
          try clear p1
          try clear q1
          try clear hx1
          try clear c2
          try clear p2
          try clear c3
          try clear c4
          try clear c5
          try clear c5b0
          try clear c6
          try clear p6
          try clear q6
          try clear hx6
          try clear hf6
          try clear c7
          try clear c8
          try clear p8
          try clear q8
          try clear hx8
          try clear hf8
          try clear c9
          try clear p10
          try clear q10
          try clear hx10
          try clear p11
          try clear q11
          try clear hx11
          try clear c15
          try clear c15b0
          try clear c15b1
          try clear c19
          try clear c22
          try clear c22b0
          try clear c22b1
          try clear c26
          try clear c29
          try clear c29b0
          try clear c29b1
          try clear c30
          try clear c30b0
          try clear c30b1
          try clear c34
          try clear c36
          try clear c38
          try clear c38b0
          try clear c39
          try clear c39b0
          try clear c40
          try clear c40b0
          try clear c43
          try clear c44
          try clear c45
          try clear c47
          try clear c49
          try clear c50
          try clear c52
          try clear c53
          try clear c55
          try clear c56
          try clear c57
          try clear c60
          try clear c62
          try clear c62b0
          try clear c63
          try clear c63b0
          try clear p64
          try clear q64
          try clear c65
          try clear p66
          try clear q66
          try clear hx66
          try clear hf66
          try clear c67
          try clear c68
          try clear c72
          try clear c73
          try clear c74
          try clear p80
          try clear q80
          try clear hx80
          try clear hf80
          try clear c81
          try clear c82
          try clear c86
          try clear c87
          try clear c88
          try clear c94
          try clear c95
          try clear hcz10_0
          try clear hcz10_1
          try clear hcz20_0
          try clear hcz20_1
          try clear hcz21_0
          try clear hcz21_1
          try clear hcz27_0
          try clear hcz27_1
          try clear hcz28_0
          try clear hcz28_1
          try clear hcz35_0
          try clear hcz35_1
          try clear hcz45_0
          try clear hcz45_1
          try clear hcz51_0
          try clear hcz51_1
          try clear hcz54_0
          try clear hcz54_1
          try clear hcz58_0
          try clear hcz58_1
          try clear hcz69_0
          try clear hcz69_1
          try clear hcz75_0
          try clear hcz75_1
          try clear hcz83_0
          try clear hcz83_1
          try clear hcz89_0
          try clear hcz89_1
          try clear hcz96_0
          try clear hcz96_1
          try clear hfz10_0
          try clear hfz10_1
          try clear hfz20_0
          try clear hfz20_1
          try clear hfz21_0
          try clear hfz21_1
          try clear hfz27_0
          try clear hfz27_1
          try clear hfz28_0
          try clear hfz28_1
          try clear hfz35_0
          try clear hfz35_1
          try clear hfz45_0
          try clear hfz45_1
          try clear hfz51_0
          try clear hfz51_1
          try clear hfz54_0
          try clear hfz54_1
          try clear hfz58_0
          try clear hfz58_1
          try clear hfz69_0
          try clear hfz69_1
          try clear hfz75_0
          try clear hfz75_1
          try clear hfz83_0
          try clear hfz83_1
          try clear hfz89_0
          try clear hfz89_1
          try clear hfz96_0
          try clear hfz96_1
          try clear hx108_0
          try clear hx108_1
          try clear hx118_0
          try clear hx66_0
          try clear hx80_0
          try clear p1
          try clear p10
          try clear p108
          try clear p118
          try clear p2
          try clear p66
          try clear p80
          try clear q1
          try clear q10
          try clear q108
          try clear q118
          try clear q66
          try clear q80
          obtain ⟨x16_2,x88_2,rfl,HA,HK2,HO_9,HO_16,BK101,BK104,HB⟩:=hrel
          cases gk with
          | zero => exact absurd HA.out (by simp [threshold_Signers.l1])
          | succ k2 =>
           have H:=HA.out
           clear HA
           simp only [threshold_Signers.l1] at H
           by_cases c97 : x88_2 < (l0.length : Int)
           ·rw [if_pos c97] at H
            have c97b0 : decide (x88_2 < (l0.length : Int)) = true:=decide_eq_true c97
            clear c97
            by_cases c98 : 0 ≤ x88_2
            ·rw [if_pos c98] at H
             have c98b0 : decide (0 ≤ x88_2) = true:=decide_eq_true c98
             clear c98
             by_cases c99 : x88_2 < (l0.length : Int)
             ·rw [if_pos c99] at H
              have c99b0 : decide (x88_2 < (l0.length : Int)) = true:=decide_eq_true c99
              clear c99
              by_cases c100 : x88_2 < (x9_1.length : Int)
              ·rw [if_pos c100] at H
               have c100b0 : decide (x88_2 < (x9_1.length : Int)) = true:=decide_eq_true c100
               clear c100
               obtain ⟨bq101,hbq101⟩ : ∃ b_ : Bool,b_ = (rdOf false x9_1 x88_2):=⟨_,rfl⟩
               replace H : (if bq101 = true then (if x16_2.length < 17592186044416 then (threshold_Signers.l1 k2 x9_1 (x16_2 ++ [rd l0 x88_2]) l0 (l0.length : Int) (wrap64 (x88_2 + 1))) else (none)) else (threshold_Signers.l1 k2 x9_1 x16_2 l0 (l0.length : Int) (wrap64 (x88_2 + 1)))) = some (r1,r2,r3):=by rw [← hbq101] at H;exact H
               have Nbq101:=Aside0.mk hbq101
               clear hbq101
               by_cases c102 : bq101 = true
               ·subst c102
                have H1 : (if x16_2.length < 17592186044416 then (threshold_Signers.l1 k2 x9_1 (x16_2 ++ [rd l0 x88_2]) l0 (l0.length : Int) (wrap64 (x88_2 + 1))) else (none)) = some (r1,r2,r3):=by rw [if_pos rfl] at H;exact H
                clear H
                have H:=H1
                clear H1
                by_cases c103 : x16_2.length < 17592186044416
                ·rw [if_pos c103] at H
                 have LMc103:=Aside0.mk c103
                 clear c103
                 obtain ⟨y123,hy123⟩ : ∃ y_ : List Int,y_ = (x16_2 ++ [rd l0 x88_2]):=⟨_,rfl⟩
                 replace H : (threshold_Signers.l1 k2 x9_1 y123 l0 (l0.length : Int) (wrap64 (x88_2 + 1))) = some (r1,r2,r3):=by first|(rw [hy123];with_reducible exact H)|(have H2_:=(Option.bind_some _ _).symm.trans H;rw [hy123];with_reducible exact H2_)|(have H2_:=(Option.bind_some _ _).symm.trans H;with_reducible exact H2_)|with_reducible exact H|(rw [hy123];exact H)|exact H
                 have Ny123:=Aside0.mk hy123
                 clear hy123
                 have H':=Aside0.mk H
                 clear H
                 have p121 : 0 ≤ (x88_2 : Int):=of_decide_eq_true (by first|(with_reducible assumption)|assumption)
                 have q121 : x88_2 < (l0.length : Int):=of_decide_eq_true (by first|(with_reducible assumption)|assumption)
                 obtain ⟨ad121,e121,hx121_0⟩:=Kd.at_int HR0.out x88_2 p121 q121
                 cases e121
                 replace hx121_0:=(HB.out.cell (World.block_lt_of_cell? w _ hx121_0)).trans hx121_0
                 replace p121:=eq_true p121
                 replace q121:=eq_true q121
                 obtain ⟨Ao104,co104,eo104⟩:=Kd.R_slice HO_9.out
                 subst eo104
                 have p122 : 0 ≤ (x88_2 : Int):=of_decide_eq_true (by first|(with_reducible assumption)|assumption)
                 have q122 : x88_2 < (x9_1.length : Int):=of_decide_eq_true (by first|(with_reducible assumption)|assumption)
                 obtain ⟨ad122,e122,hx122_0⟩:=Kd.at_bool (Kd.R_reads' HO_9.out).2.2 x88_2 p122 q122
                 (try rw [← Nbq101.out] at hx122_0)
                 cases e122
                 replace p122:=eq_true p122
                 replace q122:=eq_true q122
                 go_wp2_with (first|((with_reducible refine gate_builtin (b:=.append) (xs:=#[.tmp 97,.tmp 99]) rfl ?_);at_builtin;refine Kd.R_append (Kd.int .i64) (w0:=w) w.heap.size rfl (.tmp 97) (.tmp 99) 23 3 (.int .i64 0) 8 rfl Try.underlying23 info3 rfl (by decide) (by omega) u16 x16_2 (rd l0 x88_2) [.int .i64 (rd l0 x88_2)] (fun _ => True) (fun _ => False) rfl rfl ?aP (fun _ hk => hk.elim) ?aF ?aO ?aB ?aS ?aL ?_;(case aP => exact rfl);(case aB => exact (by repeat (first|(with_reducible first|exact HB.out|apply below_alloc|apply pw_below_drewN|apply below_drew1|refine below_set ?_ GE101.out|refine below_set ?_ GE104.out)|exact HB.out)));(case aF => exact (fun _ _ => trivial));(case aO => exact (by (with_reducible repeat (first|apply Kd.R_alloc|apply Kd.R_drewN|apply Kd.R_drew));exact HO_16.out));(case aS => exact (below_size (by repeat (first|(with_reducible first|exact HB.out|apply below_alloc|apply pw_below_drewN|apply below_drew1|refine below_set ?_ GE101.out|refine below_set ?_ GE104.out)|exact HB.out))));(case aL => have:=LMc103.out;omega);intro v124 w105 ho hb hg hat;rw [← Ny123.out] at ho;have n0_:=Aside0.mk (Kd.R_over' (by (with_reducible repeat (first|apply Kd.R_alloc|apply Kd.R_drewN|apply Kd.R_drew));exact HO_9.out) (Kd.R_typed (by (with_reducible repeat (first|apply Kd.R_alloc|apply Kd.R_drewN|apply Kd.R_drew));exact HO_16.out)) (by decide) hg);have n1_:=Aside0.mk (blk_grown (g:=gb101) (o:=.cells #[.int .i64 x102000_1,.int .i64 x102001_1] 26 (0,0)) (by (with_reducible repeat (first|refine blk_drewN ?_ _|refine blk_drew ?_|refine blk_alloc ?_ _));exact BK101.out) hg (Kd.R_ne HO_16.out BK101.out (by decide)));have n2_:=Aside0.mk (blk_grown (g:=gb104) (o:=.cells #[.int .i64 t102,.int .i64 t103] 26 (0,0)) (by (with_reducible repeat (first|refine blk_drewN ?_ _|refine blk_drew ?_|refine blk_alloc ?_ _));exact BK104.out) hg (Kd.R_ne HO_16.out BK104.out (by decide)));have n3_:=Aside0.mk (hb);have n4_:=Aside0.mk (ho);clear HO_9;clear BK101;clear BK104;clear HB;clear HO_16;have HO_9:=n0_;have BK101:=n1_;have BK104:=n2_;have HB:=n3_;have HO125:=n4_;clear n0_ n1_ n2_ n3_ n4_;clear ho hb hg hat))
                 go_roundg k2
                 case measure => have:=HK1.out;have:=HK2.out;omega
                 case rel => exact ⟨(y123),(wrap64 (x88_2 + 1)),(by first|rfl|(simp;done)|(simp only [IntWalk.i64_left];done)|(simp [*];done)),H',⟨by have:=HK1.out;have:=HK2.out;omega⟩,⟨by (with_reducible repeat (first|apply Kd.R_alloc|apply Kd.R_drewN|apply Kd.R_drew));exact HO_9.out⟩,⟨by (with_reducible repeat (first|apply Kd.R_alloc|apply Kd.R_drewN|apply Kd.R_drew));exact HO125.out⟩,⟨by (with_reducible repeat (first|refine blk_drewN ?_ _|refine blk_drew ?_|refine blk_alloc ?_ _));exact BK101.out⟩,⟨by (with_reducible repeat (first|refine blk_drewN ?_ _|refine blk_drew ?_|refine blk_alloc ?_ _));exact BK104.out⟩,⟨by repeat (first|(with_reducible first|exact HB.out|apply below_alloc|apply pw_below_drewN|apply below_drew1|refine below_set ?_ GE101.out|refine below_set ?_ GE104.out)|exact HB.out)⟩⟩
                ·rw [if_neg c103] at H
                 exact absurd H (by simp)
               ·replace c102:=Bool.eq_false_iff.mpr c102
                subst c102
                have H1 : (threshold_Signers.l1 k2 x9_1 x16_2 l0 (l0.length : Int) (wrap64 (x88_2 + 1))) = some (r1,r2,r3):=by rw [if_neg (show ¬ (false = true) by decide)] at H;exact H
                clear H
                have H:=H1
                clear H1
                have H':=Aside0.mk H
                clear H
                have p121 : 0 ≤ (x88_2 : Int):=of_decide_eq_true (by first|(with_reducible assumption)|assumption)
                have q121 : x88_2 < (l0.length : Int):=of_decide_eq_true (by first|(with_reducible assumption)|assumption)
                obtain ⟨ad121,e121,hx121_0⟩:=Kd.at_int HR0.out x88_2 p121 q121
                cases e121
                replace hx121_0:=(HB.out.cell (World.block_lt_of_cell? w _ hx121_0)).trans hx121_0
                replace p121:=eq_true p121
                replace q121:=eq_true q121
                obtain ⟨Ao106,co106,eo106⟩:=Kd.R_slice HO_9.out
                subst eo106
                have p122 : 0 ≤ (x88_2 : Int):=of_decide_eq_true (by first|(with_reducible assumption)|assumption)
                have q122 : x88_2 < (x9_1.length : Int):=of_decide_eq_true (by first|(with_reducible assumption)|assumption)
                obtain ⟨ad122,e122,hx122_0⟩:=Kd.at_bool (Kd.R_reads' HO_9.out).2.2 x88_2 p122 q122
                (try rw [← Nbq101.out] at hx122_0)
                cases e122
                replace p122:=eq_true p122
                replace q122:=eq_true q122
                go_wp2
                go_roundg k2
                case measure => have:=HK1.out;have:=HK2.out;omega
                case rel => exact ⟨(x16_2),(wrap64 (x88_2 + 1)),(by first|rfl|(simp;done)|(simp only [IntWalk.i64_left];done)|(simp [*];done)),H',⟨by have:=HK1.out;have:=HK2.out;omega⟩,⟨by (with_reducible repeat (first|apply Kd.R_alloc|apply Kd.R_drewN|apply Kd.R_drew));exact HO_9.out⟩,⟨by (with_reducible repeat (first|apply Kd.R_alloc|apply Kd.R_drewN|apply Kd.R_drew));exact HO_16.out⟩,⟨by (with_reducible repeat (first|refine blk_drewN ?_ _|refine blk_drew ?_|refine blk_alloc ?_ _));exact BK101.out⟩,⟨by (with_reducible repeat (first|refine blk_drewN ?_ _|refine blk_drew ?_|refine blk_alloc ?_ _));exact BK104.out⟩,⟨by repeat (first|(with_reducible first|exact HB.out|apply below_alloc|apply pw_below_drewN|apply below_drew1|refine below_set ?_ GE101.out|refine below_set ?_ GE104.out)|exact HB.out)⟩⟩
              ·rw [if_neg c100] at H
               exact absurd H (by simp)
             ·rw [if_neg c99] at H
              exact absurd H (by simp)
            ·rw [if_neg c98] at H
             exact absurd H (by simp)
           ·rw [if_neg c97] at H
            have c97b0 : decide (x88_2 < (l0.length : Int)) = false:=decide_eq_false c97
            clear c97
            simp only [Option.some.injEq,Prod.mk.injEq] at H
            obtain ⟨rfl,rfl,rfl⟩:=H
            have hnb107:=NB101_104.out
            have hnc107:=NB104_101.out
            have hcz108_0 : wr.cell? ⟨gb101,0,none⟩ = some (.int .i64 x102000_1):=(blk_cell BK101.out 0).trans rfl
            have hcz108_1 : wr.cell? ⟨gb101,1,none⟩ = some (.int .i64 x102001_1):=(blk_cell BK101.out 1).trans rfl
            have hfz108_0:=blk_frozen BK101.out 0
            have hfz108_1:=blk_frozen BK101.out 1
            go_wp2
            refine bodyPost_ret (results_tc rfl _ _ gb101 26 #[.int .i64 0,.int .i64 0] (0,0) _ rfl (by (with_reducible repeat (first|refine blk_drewN ?_ _|refine blk_drew ?_|refine blk_alloc ?_ _));refine blk_put (cs:=#[.int .i64 0,.int .i64 x102001_1]) ?_ 1 _ rfl;(with_reducible repeat (first|refine blk_drewN ?_ _|refine blk_drew ?_|refine blk_alloc ?_ _));refine blk_put (cs:=#[.int .i64 x102000_1,.int .i64 x102001_1]) ?_ 0 _ rfl;(with_reducible repeat (first|refine blk_drewN ?_ _|refine blk_drew ?_|refine blk_alloc ?_ _));exact BK101.out) Try.underlying26 rfl (by kernel_rfl)) rfl ?_
            exact ⟨_,by first|rfl|(simp [errW_none,errW_some] <;> rfl)|(simp [*,errW_none,errW_some] <;> rfl),by (with_reducible repeat (first|apply Kd.R_alloc|apply Kd.R_drewN|apply Kd.R_drew));exact Kd.R_mono (Kd.R_far (p:=⟨gb101,1,none⟩) (Kd.R_far (p:=⟨gb101,0,none⟩) (Kd.R_types HO_16.out BK101.out (by decide)) (fun _ hk => hk.2) (.int .i64 0)) (fun _ hk => hk.2) (.int .i64 0)) (fun _ hk => trivial),by repeat (first|(with_reducible first|exact HB.out|apply below_alloc|apply pw_below_drewN|apply below_drew1|refine below_set ?_ GE101.out|refine below_set ?_ GE104.out)|exact HB.out)⟩
     ·rw [if_neg c30] at H
      exact absurd H (by simp)
    ·rw [if_neg c29] at H
     exact absurd H (by simp)

end Go.Proofs.Ytmpboljmigigfaa.Fn
