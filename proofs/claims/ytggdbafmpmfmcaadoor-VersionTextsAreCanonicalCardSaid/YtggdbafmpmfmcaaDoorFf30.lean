/- A function of the program as a plain Lean function, and the proof that the call comes to just what it says (written by wip/tools/xprint.py for this claim). Condition: the plain function has an answer. -/
import Derived.Test.YtggdbafmpmfmcaaDoorFn0
import Derived.Test.YtggdbafmpmfmcaaDoorFf45
import Derived.Test.YtggdbafmpmfmcaaDoorFf46
import Derived.Test.YtggdbafmpmfmcaaDoorFs0
import Derived.Test.YtggdbafmpmfmcaaDoorWA
import Derived.Test.YtggdbafmpmfmcaaDoorTight
namespace Go.Proofs.YtggdbafmpmfmcaaDoor.Fn
open Go.RowKit Go.Proofs.YtggdbafmpmfmcaaDoorW.PrintWords Go.Proofs.YtggdbafmpmfmcaaDoorW.PrintLast Go.Proofs.YtggdbafmpmfmcaaDoorW.PrintMore
attribute [local go_sem] max2_int min2_int max_two min_two max_three min_three max_four min_four   -- for this text's walks alone
set_option linter.unusedVariables false
set_option linter.unusedSimpArgs false

/-! ### version_Order: function 30 -/
def version_Order.j0 : Nat → Bool → Int → Int → Int → List ByteArray → Int → Int → Int → List ByteArray → Option (Int)
 | 0,_,_,_,_,_,_,_,_,_ => none
 | k + 1,x26,x102000,x102001,x102002,x102003,x103000,x103001,x103002,x103003 => if x26 = true then (some 0) else (if (x102003.length : Int) = 0 then (some 1) else (if (x103003.length : Int) = 0 then (some (-1)) else ((slices_CompareFunc_string_string_string_string.f x102003 x103003).bind fun t110 => (some t110))))
def version_Order.f (k : Nat) (a0_0 : Int) (a0_1 : Int) (a0_2 : Int) (l0_3 : List ByteArray) (a1_0 : Int) (a1_1 : Int) (a1_2 : Int) (l1_3 : List ByteArray) : Option (Int):=(cmp_Compare_int.f a0_0 a1_0).bind fun t103 => ((cmp_Compare_int.f a0_1 a1_1).bind fun t104 => ((cmp_Compare_int.f a0_2 a1_2).bind fun t105 => ((cmp_Or_int.f k (([t103,t104,t105] : List Int))).bind fun t109 => (if t109 = 0 then (if (l0_3.length : Int) = 0 then (version_Order.j0 k ((l1_3.length : Int) == 0) a0_0 a0_1 a0_2 l0_3 a1_0 a1_1 a1_2 l1_3) else (version_Order.j0 k false a0_0 a0_1 a0_2 l0_3 a1_0 a1_1 a1_2 l1_3)) else (some t109)))))
theorem version_Order.mono_l : ∀ k,(∀ y0 y1 y2 y3 y4 y5 y6 y7 y8,LeO (version_Order.j0 k y0 y1 y2 y3 y4 y5 y6 y7 y8) (version_Order.j0 (k + 1) y0 y1 y2 y3 y4 y5 y6 y7 y8))
 | 0 => fun _ _ _ _ _ _ _ _ _ r h => by simp [version_Order.j0] at h
 | k + 1 => by
  have ih0:=version_Order.mono_l k
  ·intro y0 y1 y2 y3 y4 y5 y6 y7 y8
   unfold version_Order.j0;repeat' first
   | (with_reducible exact ih0 _ _ _ _ _ _ _ _ _)
   | (with_reducible exact cmp_Or_int.mono _ _)
   | (with_reducible exact LeO.refl _)
   | (with_reducible exact LeO.none _)
   | (with_reducible refine LeO.ite ?_ ?_)
   | (with_reducible refine LeO.bind ?_ (fun _ => ?_))
   | exact ih0 _ _ _ _ _ _ _ _ _
   | exact cmp_Or_int.mono _ _
   | exact LeO.none _
   | refine LeO.ite ?_ ?_
   | refine LeO.bind ?_ (fun _ => ?_)
theorem version_Order.mono : ∀ a0 a1 a2 a3 a4 a5 a6 a7 k,LeO (version_Order.f k a0 a1 a2 a3 a4 a5 a6 a7) (version_Order.f (k + 1) a0 a1 a2 a3 a4 a5 a6 a7):=by
 intro a0 a1 a2 a3 a4 a5 a6 a7 k;have ih0:=version_Order.mono_l k;unfold version_Order.f
 repeat' first
   | (with_reducible exact ih0 _ _ _ _ _ _ _ _ _)
   | (with_reducible exact cmp_Or_int.mono _ _)
   | (with_reducible exact LeO.refl _)
   | (with_reducible exact LeO.none _)
   | (with_reducible refine LeO.ite ?_ ?_)
   | (with_reducible refine LeO.bind ?_ (fun _ => ?_))
   | exact ih0 _ _ _ _ _ _ _ _ _
   | exact cmp_Or_int.mono _ _
   | exact LeO.none _
   | refine LeO.ite ?_ ?_
   | refine LeO.bind ?_ (fun _ => ?_)
def version_Order.T1 : Bool × List (List Nat × List Nat):=(true,[([],[]),([0],[0]),([],[]),([2],[2]),([1,3],[1,3]),([],[]),([5],[5]),([],[]),([7],[7]),([6,8,4],[6,8]),([],[]),([10],[10]),([],[]),([12],[12]),([11,13,9],[11,13]),([4,9,14],[4,9,14]),([15,14],[15]),([16,16,0,1,2,3,4,5,6,7,8,9,10,11,12,13,14,15,16],[16])])
def version_Order.B1 : List Nat:=[0,1,0,4,15,0,32,0,128,511,0,1024,0,4096,16383,32767,65535,131071]
theorem version_Order.tab1 : rtab .any (opsOf Tryd.f30 1) = version_Order.T1:=by kernel_rfl
theorem version_Order.bits1 : waitsOk version_Order.T1.2 version_Order.B1 = true:=by kernel_rfl
set_option maxHeartbeats 8000000 in
set_option maxRecDepth 100000 in
theorem version_Order.calls (k : Nat) (a0_0 : Int) (a0_1 : Int) (a0_2 : Int) (A0_3 : Option Addr) (c0_3 : Nat) (l0_3 : List ByteArray) (a1_0 : Int) (a1_1 : Int) (a1_2 : Int) (A1_3 : Option Addr) (c1_3 : Nat) (l1_3 : List ByteArray) (r : Int) (w : World) (hr0_3 : Kd.C Kd.string w A0_3 l0_3.length l0_3) (hc0_3 : l0_3.length ≤ c0_3) (hr1_3 : Kd.C Kd.string w A1_3 l1_3.length l1_3) (hc1_3 : l1_3.length ≤ c1_3) (h : version_Order.f k a0_0 a0_1 a0_2 l0_3 a1_0 a1_1 a1_2 l1_3 = some r) :
  Calls Tryd.prog 30 #[.agg #[.int .i64 a0_0,.int .i64 a0_1,.int .i64 a0_2,.slice A0_3 l0_3.length c0_3],.agg #[.int .i64 a1_0,.int .i64 a1_1,.int .i64 a1_2,.slice A1_3 l1_3.length c1_3]] w fun e w' => e = .returned (.int .i64 r) ∧ Below w.heap.size w w':=by
 have hu24:=Tryd.underlying24;have HR0_3:=Aside0.mk hr0_3;have HC0_3:=Aside0.mk hc0_3;clear hr0_3 hc0_3;have HR1_3:=Aside0.mk hr1_3;have HC1_3:=Aside0.mk hc1_3;clear hr1_3 hc1_3;have HB:=Aside0.mk (Below.refl w.heap.size w);have H : ((cmp_Compare_int.f a0_0 a1_0).bind fun t103 => ((cmp_Compare_int.f a0_1 a1_1).bind fun t104 => ((cmp_Compare_int.f a0_2 a1_2).bind fun t105 => ((cmp_Or_int.f k (([t103,t104,t105] : List Int))).bind fun t109 => (if t109 = 0 then (if (l0_3.length : Int) = 0 then (version_Order.j0 k ((l1_3.length : Int) == 0) a0_0 a0_1 a0_2 l0_3 a1_0 a1_1 a1_2 l1_3) else (version_Order.j0 k false a0_0 a0_1 a0_2 l0_3 a1_0 a1_1 a1_2 l1_3)) else (some t109)))))) = some r:=h;clear h;replace H:=Option.bind_eq_some_iff.mp H;obtain ⟨t103,A30,H⟩:=H;replace H : ((cmp_Compare_int.f a0_1 a1_1).bind fun t104 => ((cmp_Compare_int.f a0_2 a1_2).bind fun t105 => ((cmp_Or_int.f k (([t103,t104,t105] : List Int))).bind fun t109 => (if t109 = 0 then (if (l0_3.length : Int) = 0 then (version_Order.j0 k ((l1_3.length : Int) == 0) a0_0 a0_1 a0_2 l0_3 a1_0 a1_1 a1_2 l1_3) else (version_Order.j0 k false a0_0 a0_1 a0_2 l0_3 a1_0 a1_1 a1_2 l1_3)) else (some t109))))) = some r:=H;have A3:=Aside0.mk A30;clear A30;replace H:=Option.bind_eq_some_iff.mp H;obtain ⟨t104,A40,H⟩:=H;replace H : ((cmp_Compare_int.f a0_2 a1_2).bind fun t105 => ((cmp_Or_int.f k (([t103,t104,t105] : List Int))).bind fun t109 => (if t109 = 0 then (if (l0_3.length : Int) = 0 then (version_Order.j0 k ((l1_3.length : Int) == 0) a0_0 a0_1 a0_2 l0_3 a1_0 a1_1 a1_2 l1_3) else (version_Order.j0 k false a0_0 a0_1 a0_2 l0_3 a1_0 a1_1 a1_2 l1_3)) else (some t109)))) = some r:=H;have A4:=Aside0.mk A40;clear A40;replace H:=Option.bind_eq_some_iff.mp H;obtain ⟨t105,A50,H⟩:=H;replace H : ((cmp_Or_int.f k (([t103,t104,t105] : List Int))).bind fun t109 => (if t109 = 0 then (if (l0_3.length : Int) = 0 then (version_Order.j0 k ((l1_3.length : Int) == 0) a0_0 a0_1 a0_2 l0_3 a1_0 a1_1 a1_2 l1_3) else (version_Order.j0 k false a0_0 a0_1 a0_2 l0_3 a1_0 a1_1 a1_2 l1_3)) else (some t109))) = some r:=H;have A5:=Aside0.mk A50;clear A50;obtain ⟨y106,hy106⟩ : ∃ y_ : List Int,y_ = (([t103,t104,t105] : List Int)):=⟨_,rfl⟩;replace H : ((cmp_Or_int.f k y106).bind fun t109 => (if t109 = 0 then (if (l0_3.length : Int) = 0 then (version_Order.j0 k ((l1_3.length : Int) == 0) a0_0 a0_1 a0_2 l0_3 a1_0 a1_1 a1_2 l1_3) else (version_Order.j0 k false a0_0 a0_1 a0_2 l0_3 a1_0 a1_1 a1_2 l1_3)) else (some t109))) = some r:=by first|(rw [hy106];with_reducible exact H)|(have H2_:=(Option.bind_some _ _).symm.trans H;rw [hy106];with_reducible exact H2_)|(have H2_:=(Option.bind_some _ _).symm.trans H;with_reducible exact H2_)|with_reducible exact H|(rw [hy106];exact H)|exact H
 have Ny106:=Aside0.mk hy106;clear hy106;replace H:=Option.bind_eq_some_iff.mp H;obtain ⟨t109,A60,H⟩:=H;replace H : (if t109 = 0 then (if (l0_3.length : Int) = 0 then (version_Order.j0 k ((l1_3.length : Int) == 0) a0_0 a0_1 a0_2 l0_3 a1_0 a1_1 a1_2 l1_3) else (version_Order.j0 k false a0_0 a0_1 a0_2 l0_3 a1_0 a1_1 a1_2 l1_3)) else (some t109)) = some r:=H;have A6:=Aside0.mk A60;clear A60;by_cases c7 : t109 = 0
 ·rw [if_pos c7] at H
  have c7b0 : (t109 == 0) = true:=beq_iff_eq.mpr c7;have c7b1 : (t109 != 0) = false:=bne_eq_false_iff_eq.mpr c7;clear c7;have HC8:=Aside0.mk H;clear H;go_enter Tryd.func30,Tryd.ntmps30;try go_wp2_with (first|((with_reducible refine gate_dst (N:=2) rfl ?_);(try (refine gate_guard (by rfl) ?_;dsimp only));refine box_event ?hg (N:=2) ?hd (cs:=#[.int .i64 a0_0,.int .i64 a0_1,.int .i64 a0_2,.slice A0_3 l0_3.length c0_3]) (t:=24) ?hr ?_;(case hd => rfl);(case hg => rfl);(case hr => first|(go_simp;done)|(go_simp;rfl));intro gb101 hg w9 hbox hb;have BK101:=Aside0.mk (hbox);have GW101:=Aside0.mk ((bs_ : w.heap.size ≤ gb101));have GE101:=Aside0.mk ((bs_ : w.heap.size ≤ gb101));replace HB:=Aside0.mk (below_step bel_ hb);clear hb hbox hg)|((with_reducible refine gate_dst (N:=3) rfl ?_);(try (refine gate_guard (by rfl) ?_;dsimp only));refine box_event ?hg (N:=3) ?hd (cs:=#[.int .i64 a1_0,.int .i64 a1_1,.int .i64 a1_2,.slice A1_3 l1_3.length c1_3]) (t:=24) ?hr ?_;(case hd => rfl);(case hg => rfl);(case hr => first|(go_simp;done)|(go_simp;rfl));intro gb102 hg w10 hbox hb;have BK102:=Aside0.mk (hbox);have GW102:=Aside0.mk ((bs_ : w.heap.size ≤ gb102));have GE102:=Aside0.mk ((bs_ : w.heap.size ≤ gb102));replace HB:=Aside0.mk (below_step bel_ hb);have NB101_102:=Aside0.mk ((by rw [hg];exact Nat.ne_of_lt (blk_lt (g:=gb101) (o:=.cells #[.int .i64 a0_0,.int .i64 a0_1,.int .i64 a0_2,.slice A0_3 l0_3.length c0_3] 24 (0,0)) (blk_mv BK101.out)) : gb101 ≠ gb102));have NB102_101:=Aside0.mk ((by rw [hg];exact Nat.ne_of_gt (blk_lt (g:=gb101) (o:=.cells #[.int .i64 a0_0,.int .i64 a0_1,.int .i64 a0_2,.slice A0_3 l0_3.length c0_3] 24 (0,0)) (blk_mv BK101.out)) : gb102 ≠ gb101));replace BK101:=Aside0.mk (blk_below (blk_mv BK101.out) hb);clear hb hbox hg))
  replace BK101:=Aside0.mk (blk_drew BK101.out);replace BK102:=Aside0.mk (blk_drew BK102.out);replace HB:=Aside0.mk (below_drew1 HB.out);refine start_ (n:=18) (S:=fun w' => w'.cell? ⟨gb101,0,none⟩ = some (.int .i64 a0_0) ∧ w'.cell? ⟨gb101,1,none⟩ = some (.int .i64 a0_1) ∧ w'.cell? ⟨gb101,2,none⟩ = some (.int .i64 a0_2) ∧ w'.cell? ⟨gb101,3,none⟩ = some (.slice A0_3 l0_3.length c0_3) ∧ w'.cell? ⟨gb102,0,none⟩ = some (.int .i64 a1_0) ∧ w'.cell? ⟨gb102,1,none⟩ = some (.int .i64 a1_1) ∧ w'.cell? ⟨gb102,2,none⟩ = some (.int .i64 a1_2) ∧ w'.cell? ⟨gb102,3,none⟩ = some (.slice A1_3 l1_3.length c1_3)) (ds:=[]) (bl_ 18 0) (by kernel_rfl) rfl rfl ⟨(blk_cell BK101.out 0).trans rfl,(blk_cell BK101.out 1).trans rfl,(blk_cell BK101.out 2).trans rfl,(blk_cell BK101.out 3).trans rfl,(blk_cell BK102.out 0).trans rfl,(blk_cell BK102.out 1).trans rfl,(blk_cell BK102.out 2).trans rfl,(blk_cell BK102.out 3).trans rfl⟩ (fun hHeld => ?_);refine with_tabW version_Order.tab1 version_Order.bits1 (fun HT_ HW_ => ?_);generalize w10.drew = w11 at BK101 BK102 HB hHeld ⊢;refine pu_ (v:=?_) (a':=?_) 0 6 (bl_ 18 1) rfl rfl HT_.out ?_ ?_ ?_;rotate_left
  ·intro w'
   go_simp;with_reducible rfl
  rotate_left
  ·simp only [Act.put,sa_,sb_,sc_,i64_w,i32_w]
   rfl
  refine pu_ (v:=?_) (a':=?_) 2 8 (bl_ 18 5) rfl rfl HT_.out ?_ ?_ ?_;rotate_left
  ·intro w'
   go_simp;with_reducible rfl
  rotate_left
  ·simp only [Act.put,sa_,sb_,sc_,i64_w,i32_w]
   rfl
  refine pu_ (v:=?_) (a':=?_) 5 11 (bl_ 18 37) rfl rfl HT_.out ?_ ?_ ?_;rotate_left
  ·intro w'
   go_simp;with_reducible rfl
  rotate_left
  ·simp only [Act.put,sa_,sb_,sc_,i64_w,i32_w]
   rfl
  refine pu_ (v:=?_) (a':=?_) 7 13 (bl_ 18 165) rfl rfl HT_.out ?_ ?_ ?_;rotate_left
  ·intro w'
   go_simp;with_reducible rfl
  rotate_left
  ·simp only [Act.put,sa_,sb_,sc_,i64_w,i32_w]
   rfl
  refine pu_ (v:=?_) (a':=?_) 10 16 (bl_ 18 1189) rfl rfl HT_.out ?_ ?_ ?_;rotate_left
  ·intro w'
   go_simp;with_reducible rfl
  rotate_left
  ·simp only [Act.put,sa_,sb_,sc_,i64_w,i32_w]
   rfl
  refine pu_ (v:=?_) (a':=?_) 12 18 (bl_ 18 5285) rfl rfl HT_.out ?_ ?_ ?_;rotate_left
  ·intro w'
   go_simp;with_reducible rfl
  rotate_left
  ·simp only [Act.put,sa_,sb_,sc_,i64_w,i32_w]
   rfl
  refine tk_ (v:=?_) (a':=?_) 1 7 (bl_ 18 5287) rfl rfl HT_.out HW_.out ?_ hHeld ?_ ?_;rotate_left
  ·rintro w' ⟨s0,s1,s2,s3,s4,s5,s6,s7⟩
   go_simp;with_reducible rfl
  rotate_left
  ·simp only [Act.put,sa_,sb_,sc_,i64_w,i32_w]
   rfl
  refine tk_ (v:=?_) (a':=?_) 3 9 (bl_ 18 5295) rfl rfl HT_.out HW_.out ?_ hHeld ?_ ?_;rotate_left
  ·rintro w' ⟨s0,s1,s2,s3,s4,s5,s6,s7⟩
   go_simp;with_reducible rfl
  rotate_left
  ·simp only [Act.put,sa_,sb_,sc_,i64_w,i32_w]
   rfl
  refine tk_ (v:=?_) (a':=?_) 6 12 (bl_ 18 5359) rfl rfl HT_.out HW_.out ?_ hHeld ?_ ?_;rotate_left
  ·rintro w' ⟨s0,s1,s2,s3,s4,s5,s6,s7⟩
   go_simp;with_reducible rfl
  rotate_left
  ·simp only [Act.put,sa_,sb_,sc_,i64_w,i32_w]
   rfl
  refine tk_ (v:=?_) (a':=?_) 8 14 (bl_ 18 5615) rfl rfl HT_.out HW_.out ?_ hHeld ?_ ?_;rotate_left
  ·rintro w' ⟨s0,s1,s2,s3,s4,s5,s6,s7⟩
   go_simp;with_reducible rfl
  rotate_left
  ·simp only [Act.put,sa_,sb_,sc_,i64_w,i32_w]
   rfl
  refine tk_ (v:=?_) (a':=?_) 11 17 (bl_ 18 7663) rfl rfl HT_.out HW_.out ?_ hHeld ?_ ?_;rotate_left
  ·rintro w' ⟨s0,s1,s2,s3,s4,s5,s6,s7⟩
   go_simp;with_reducible rfl
  rotate_left
  ·simp only [Act.put,sa_,sb_,sc_,i64_w,i32_w]
   rfl
  refine tk_ (v:=?_) (a':=?_) 13 19 (bl_ 18 15855) rfl rfl HT_.out HW_.out ?_ hHeld ?_ ?_;rotate_left
  ·rintro w' ⟨s0,s1,s2,s3,s4,s5,s6,s7⟩
   go_simp;with_reducible rfl
  rotate_left
  ·simp only [Act.put,sa_,sb_,sc_,i64_w,i32_w]
   rfl
  refine one_ (i:=4) (N:=some 10) (bl_ 18 15871) rfl rfl (one_of HT_.out (by kernel_rfl)) (by decide) (fun K hK => ?_);refine goes_ Tryd.func45 (by kernel_rfl) rfl #[.int .i64 a0_0,.int .i64 a1_0] (by rfl) rfl rfl ln_ ?_;with_reducible refine (cmp_Compare_int.calls a0_0 a1_0 t103 _ A3.out).mono ?_
  rintro e w' ⟨rfl,⟨nd,rfl⟩⟩;refine ⟨_,rfl,?_⟩;refine hK.out _ _ ⟨(blk_cell BK101.out 0).trans rfl,(blk_cell BK101.out 1).trans rfl,(blk_cell BK101.out 2).trans rfl,(blk_cell BK101.out 3).trans rfl,(blk_cell BK102.out 0).trans rfl,(blk_cell BK102.out 1).trans rfl,(blk_cell BK102.out 2).trans rfl,(blk_cell BK102.out 3).trans rfl⟩ (fun hHeld => ?_);clear hK K;refine norm_ (a':=?_) ?_ ?_;rotate_left
  ·show Act.put _ (some 10) _ = _
   simp only [Act.put,sa_,sb_,sc_,i64_w,i32_w];rfl
  refine one_ (i:=9) (N:=some 15) (bl_ 18 16383) rfl rfl (one_of HT_.out (by kernel_rfl)) (by decide) (fun K hK => ?_);refine goes_ Tryd.func45 (by kernel_rfl) rfl #[.int .i64 a0_1,.int .i64 a1_1] (by rfl) rfl rfl ln_ ?_;with_reducible refine (cmp_Compare_int.calls a0_1 a1_1 t104 _ A4.out).mono ?_
  rintro e w' ⟨rfl,⟨nd,rfl⟩⟩;refine ⟨_,rfl,?_⟩;refine hK.out _ _ ⟨(blk_cell BK101.out 0).trans rfl,(blk_cell BK101.out 1).trans rfl,(blk_cell BK101.out 2).trans rfl,(blk_cell BK101.out 3).trans rfl,(blk_cell BK102.out 0).trans rfl,(blk_cell BK102.out 1).trans rfl,(blk_cell BK102.out 2).trans rfl,(blk_cell BK102.out 3).trans rfl⟩ (fun hHeld => ?_);clear hK K;refine norm_ (a':=?_) ?_ ?_;rotate_left
  ·show Act.put _ (some 15) _ = _
   simp only [Act.put,sa_,sb_,sc_,i64_w,i32_w];rfl
  refine one_ (i:=14) (N:=some 20) (bl_ 18 32767) rfl rfl (one_of HT_.out (by kernel_rfl)) (by decide) (fun K hK => ?_);refine goes_ Tryd.func45 (by kernel_rfl) rfl #[.int .i64 a0_2,.int .i64 a1_2] (by rfl) rfl rfl ln_ ?_;with_reducible refine (cmp_Compare_int.calls a0_2 a1_2 t105 _ A5.out).mono ?_
  rintro e w' ⟨rfl,⟨nd,rfl⟩⟩;refine ⟨_,rfl,?_⟩;refine hK.out _ _ ⟨(blk_cell BK101.out 0).trans rfl,(blk_cell BK101.out 1).trans rfl,(blk_cell BK101.out 2).trans rfl,(blk_cell BK101.out 3).trans rfl,(blk_cell BK102.out 0).trans rfl,(blk_cell BK102.out 1).trans rfl,(blk_cell BK102.out 2).trans rfl,(blk_cell BK102.out 3).trans rfl⟩ (fun hHeld => ?_);clear hK K;refine norm_ (a':=?_) ?_ ?_;rotate_left
  ·show Act.put _ (some 20) _ = _
   simp only [Act.put,sa_,sb_,sc_,i64_w,i32_w];rfl
  refine one_ (i:=15) (N:=some 21) (bl_ 18 65535) rfl rfl (one_of HT_.out (by kernel_rfl)) (by decide) (fun K hK => ?_);refine Kd.R_lit_step (Kd.int .i64) _ 3 ?hg (N:=21) ?hd (xs:=([t103,t104,t105] : List Int)) (inner:=[.int .i64 t103,.int .i64 t104,.int .i64 t105]) (ok:=fun _ => True) (okp:=fun _ => True) ?hr ?hp (fun _ hk => hk) trivial (Below.refl _ _) (Nat.le_refl _) (by simp) ?_;(case hd => rfl);(case hg => rfl);(case hr => first|(go_simp;done)|(go_simp;rfl));(case hp => exact (Reps.one (show Kd.M (Kd.int .i64) _ _ _ t103 [.int .i64 t103] from rfl) (Reps.one (show Kd.M (Kd.int .i64) _ _ _ t104 [.int .i64 t104] from rfl) (Reps.one (show Kd.M (Kd.int .i64) _ _ _ t105 [.int .i64 t105] from rfl) (Reps.none _ _)))));intro v107 w12 ho13 hb hg_ hnew_;clear hg_ hnew_;(first|rw [← Ny106.out] at ho13|(simp only [Int.reduceToNat] at ho13;rw [← Ny106.out] at ho13));have HO108:=Aside0.mk (Kd.R_lower ho13 (below_size bel_));replace BK101:=Aside0.mk (blk_below (blk_mv BK101.out) hb);replace BK102:=Aside0.mk (blk_below (blk_mv BK102.out) hb);replace HB:=Aside0.mk (below_step bel_ hb);clear hb ho13;obtain ⟨Ao14,co14,eo14⟩:=Kd.R_slice HO108.out;(first|subst eo14|(injection eo14 with f1_ f2_ f3_;have f4_:=f1_.symm;have f5_:=f3_.symm;clear f1_ f2_ f3_;subst f4_;subst f5_));refine hK.out _ _ ⟨(blk_cell BK101.out 0).trans rfl,(blk_cell BK101.out 1).trans rfl,(blk_cell BK101.out 2).trans rfl,(blk_cell BK101.out 3).trans rfl,(blk_cell BK102.out 0).trans rfl,(blk_cell BK102.out 1).trans rfl,(blk_cell BK102.out 2).trans rfl,(blk_cell BK102.out 3).trans rfl⟩ (fun hHeld => ?_);clear hK K;refine norm_ (a':=?_) ?_ ?_;rotate_left
  ·show Act.put _ (some 21) _ = _
   simp only [Act.put,sa_,sb_,sc_,i64_w,i32_w];rfl
  refine one_ (i:=16) (N:=some 22) (bl_ 18 131071) rfl rfl (one_of HT_.out (by kernel_rfl)) (by decide) (fun K hK => ?_);refine goes_ Tryd.func44 (by kernel_rfl) rfl #[.slice Ao14 y106.length co14] (by rfl) rfl rfl ln_ ?_;with_reducible refine (cmp_Or_int.calls k _ _ y106 t109 _ ?side1 ?side2 A6.out).mono ?_
  (case side1 => first|exact (Kd.R_reads' HO108.out).2.2|exact Kd.C_mv (Kd.R_reads' HO108.out).2.2);(case side2 => exact (Kd.R_reads' HO108.out).2.1);rintro e w' ⟨rfl,⟨nd,rfl⟩⟩;refine ⟨_,rfl,?_⟩;refine hK.out _ _ ⟨(blk_cell BK101.out 0).trans rfl,(blk_cell BK101.out 1).trans rfl,(blk_cell BK101.out 2).trans rfl,(blk_cell BK101.out 3).trans rfl,(blk_cell BK102.out 0).trans rfl,(blk_cell BK102.out 1).trans rfl,(blk_cell BK102.out 2).trans rfl,(blk_cell BK102.out 3).trans rfl⟩ (fun hHeld => ?_);clear hK K;refine norm_ (a':=?_) ?_ ?_;rotate_left
  ·show Act.put _ (some 22) _ = _
   simp only [Act.put,sa_,sb_,sc_,i64_w,i32_w];rfl
  refine pu_ (v:=?_) (a':=?_) 17 5 (bl_ 18 262143) rfl rfl HT_.out ?_ ?_ ?_;rotate_left
  ·intro w'
   go_simp;with_reducible rfl
  rotate_left
  ·simp only [Act.put,sa_,sb_,sc_,i64_w,i32_w]
   rfl
  refine done_ (done_of HT_.out (by kernel_rfl)) ?_;go_upto_region 4 with (fail);go_cut [26] (fun v26 wc => ∃ (kq : Nat) (x26_7 : Bool),v26 = .bool x26_7 ∧ Aside0 (version_Order.j0 kq x26_7 a0_0 a0_1 a0_2 l0_3 a1_0 a1_1 a1_2 l1_3 = some r) ∧ Aside0 (kq ≤ k) ∧ Aside0 (wc.heap[gb101]? = some (.cells #[.int .i64 a0_0,.int .i64 a0_1,.int .i64 a0_2,(.slice A0_3 l0_3.length c0_3)] 24 (0,0))) ∧ Aside0 (wc.heap[gb102]? = some (.cells #[.int .i64 a1_0,.int .i64 a1_1,.int .i64 a1_2,(.slice A1_3 l1_3.length c1_3)] 24 (0,0))) ∧ Aside0 (Below w.heap.size w wc))
  case first =>
   have H:=HC8.out;clear HC8;by_cases c15 : (l0_3.length : Int) = 0
   ·rw [if_pos c15] at H
    have c15b0 : ((l0_3.length : Int) == 0) = true:=beq_iff_eq.mpr c15;have c15b1 : ((l0_3.length : Int) != 0) = false:=bne_eq_false_iff_eq.mpr c15;clear c15;(first|rw [c15b0]|(simp only [i64_w,i32_w];rw [c15b0])|skip);have H':=Aside0.mk H;clear H;have hnb16:=NB101_102.out;have hnc16:=NB102_101.out;have hcz17_0:=blk_c (v:=.int .i64 a0_0) BK101.out 0 rfl;have hcz17_1:=blk_c (v:=.int .i64 a0_1) BK101.out 1 rfl;have hcz17_2:=blk_c (v:=.int .i64 a0_2) BK101.out 2 rfl;have hcz17_3:=blk_c (v:=.slice A0_3 l0_3.length c0_3) BK101.out 3 rfl;have hfz17_0:=blk_frozen BK101.out 0;have hfz17_1:=blk_frozen BK101.out 1;have hfz17_2:=blk_frozen BK101.out 2;have hfz17_3:=blk_frozen BK101.out 3;have hcz18_0:=blk_c (v:=.int .i64 a1_0) BK102.out 0 rfl;have hcz18_1:=blk_c (v:=.int .i64 a1_1) BK102.out 1 rfl;have hcz18_2:=blk_c (v:=.int .i64 a1_2) BK102.out 2 rfl;have hcz18_3:=blk_c (v:=.slice A1_3 l1_3.length c1_3) BK102.out 3 rfl;have hfz18_0:=blk_frozen BK102.out 0;have hfz18_1:=blk_frozen BK102.out 1;have hfz18_2:=blk_frozen BK102.out 2;have hfz18_3:=blk_frozen BK102.out 3;go_wp2;go_meet
    case rel => exact ⟨_,(((l1_3.length : Int) == 0)),fr_,H',⟨om_⟩,⟨blk_mv BK101.out⟩,⟨blk_mv BK102.out⟩,⟨bel_⟩⟩
   ·rw [if_neg c15] at H
    have c15b0 : ((l0_3.length : Int) == 0) = false:=beq_eq_false_iff_ne.mpr c15;have c15b1 : ((l0_3.length : Int) != 0) = true:=bne_iff_ne.mpr c15;have c15b2 : ¬ (l0_3 = []):=fun h_ => c15 (by rw [h_];rfl);(first|rw [c15b0]|(simp only [i64_w,i32_w];rw [c15b0])|skip);have H':=Aside0.mk H;clear H;have hnb19:=NB101_102.out;have hnc19:=NB102_101.out;have hcz20_0:=blk_c (v:=.int .i64 a0_0) BK101.out 0 rfl;have hcz20_1:=blk_c (v:=.int .i64 a0_1) BK101.out 1 rfl;have hcz20_2:=blk_c (v:=.int .i64 a0_2) BK101.out 2 rfl;have hcz20_3:=blk_c (v:=.slice A0_3 l0_3.length c0_3) BK101.out 3 rfl;have hfz20_0:=blk_frozen BK101.out 0;have hfz20_1:=blk_frozen BK101.out 1;have hfz20_2:=blk_frozen BK101.out 2;have hfz20_3:=blk_frozen BK101.out 3;go_wp2;go_meet
    case rel => exact ⟨_,(false),fr_,H',⟨om_⟩,⟨blk_mv BK101.out⟩,⟨blk_mv BK102.out⟩,⟨bel_⟩⟩
  case rest =>
   clear HC8;(try clear c1);(try clear p2);(try clear c3);(try clear c4);(try clear c7);(try clear c7b0);(try clear c7b1);(try clear c15);(try clear c15b0);(try clear c15b1);(try clear c15b2);(try clear c16);(try clear c19);(try clear hcz17_0);(try clear hcz17_1);(try clear hcz17_2);(try clear hcz17_3);(try clear hcz18_0);(try clear hcz18_1);(try clear hcz18_2);(try clear hcz18_3);(try clear hcz20_0);(try clear hcz20_1);(try clear hcz20_2);(try clear hcz20_3);(try clear hfz17_0);(try clear hfz17_1);(try clear hfz17_2);(try clear hfz17_3);(try clear hfz18_0);(try clear hfz18_1);(try clear hfz18_2);(try clear hfz18_3);(try clear hfz20_0);(try clear hfz20_1);(try clear hfz20_2);(try clear hfz20_3);obtain ⟨kq,x26_7,rfl,HA,HJ7,BK101,BK102,HB⟩:=hcut;cases kq with
   | zero => exact absurd HA.out (by simp [version_Order.j0])
   | succ kj7 =>
    have H:=HA.out;clear HA;simp only [version_Order.j0] at H;by_cases c21 : x26_7 = true
    ·subst c21
     have H1 : (some 0) = some r:=by rw [if_pos rfl] at H;exact H
     clear H;have H:=H1;clear H1;obtain rfl:=Option.some.inj H;go_wp2;go_ret;exact ⟨by first|rfl|(simp [errW_none,errW_some] <;> rfl)|(simp [*,errW_none,errW_some] <;> rfl),bel_⟩
    ·replace c21:=Bool.eq_false_iff.mpr c21
     subst c21;have H1 : (if (l0_3.length : Int) = 0 then (some 1) else (if (l1_3.length : Int) = 0 then (some (-1)) else ((slices_CompareFunc_string_string_string_string.f l0_3 l1_3).bind fun t110 => (some t110)))) = some r:=by rw [if_neg (show ¬ (false = true) by decide)] at H;exact H
     clear H;have H:=H1;clear H1;by_cases c22 : (l0_3.length : Int) = 0
     ·rw [if_pos c22] at H
      have c22b0 : ((l0_3.length : Int) == 0) = true:=beq_iff_eq.mpr c22;have c22b1 : ((l0_3.length : Int) != 0) = false:=bne_eq_false_iff_eq.mpr c22;clear c22;obtain rfl:=Option.some.inj H;have hnb23:=NB101_102.out;have hnc23:=NB102_101.out;have hcz24_0:=blk_c (v:=.int .i64 a0_0) BK101.out 0 rfl;have hcz24_1:=blk_c (v:=.int .i64 a0_1) BK101.out 1 rfl;have hcz24_2:=blk_c (v:=.int .i64 a0_2) BK101.out 2 rfl;have hcz24_3:=blk_c (v:=.slice A0_3 l0_3.length c0_3) BK101.out 3 rfl;have hfz24_0:=blk_frozen BK101.out 0;have hfz24_1:=blk_frozen BK101.out 1;have hfz24_2:=blk_frozen BK101.out 2;have hfz24_3:=blk_frozen BK101.out 3;go_wp2;go_ret;exact ⟨by first|rfl|(simp [errW_none,errW_some] <;> rfl)|(simp [*,errW_none,errW_some] <;> rfl),bel_⟩
     ·rw [if_neg c22] at H
      have c22b0 : ((l0_3.length : Int) == 0) = false:=beq_eq_false_iff_ne.mpr c22;have c22b1 : ((l0_3.length : Int) != 0) = true:=bne_iff_ne.mpr c22;have c22b2 : ¬ (l0_3 = []):=fun h_ => c22 (by rw [h_];rfl);by_cases c25 : (l1_3.length : Int) = 0
      ·rw [if_pos c25] at H
       have c25b0 : ((l1_3.length : Int) == 0) = true:=beq_iff_eq.mpr c25;have c25b1 : ((l1_3.length : Int) != 0) = false:=bne_eq_false_iff_eq.mpr c25;clear c25;obtain rfl:=Option.some.inj H;have hnb26:=NB101_102.out;have hnc26:=NB102_101.out;have hcz27_0:=blk_c (v:=.int .i64 a0_0) BK101.out 0 rfl;have hcz27_1:=blk_c (v:=.int .i64 a0_1) BK101.out 1 rfl;have hcz27_2:=blk_c (v:=.int .i64 a0_2) BK101.out 2 rfl;have hcz27_3:=blk_c (v:=.slice A0_3 l0_3.length c0_3) BK101.out 3 rfl;have hfz27_0:=blk_frozen BK101.out 0;have hfz27_1:=blk_frozen BK101.out 1;have hfz27_2:=blk_frozen BK101.out 2;have hfz27_3:=blk_frozen BK101.out 3;have hcz28_0:=blk_c (v:=.int .i64 a1_0) BK102.out 0 rfl;have hcz28_1:=blk_c (v:=.int .i64 a1_1) BK102.out 1 rfl;have hcz28_2:=blk_c (v:=.int .i64 a1_2) BK102.out 2 rfl;have hcz28_3:=blk_c (v:=.slice A1_3 l1_3.length c1_3) BK102.out 3 rfl;have hfz28_0:=blk_frozen BK102.out 0;have hfz28_1:=blk_frozen BK102.out 1;have hfz28_2:=blk_frozen BK102.out 2;have hfz28_3:=blk_frozen BK102.out 3;go_wp2;go_ret;exact ⟨by first|rfl|(simp [errW_none,errW_some] <;> rfl)|(simp [*,errW_none,errW_some] <;> rfl),bel_⟩
      ·rw [if_neg c25] at H
       have c25b0 : ((l1_3.length : Int) == 0) = false:=beq_eq_false_iff_ne.mpr c25;have c25b1 : ((l1_3.length : Int) != 0) = true:=bne_iff_ne.mpr c25;have c25b2 : ¬ (l1_3 = []):=fun h_ => c25 (by rw [h_];rfl);replace H:=Option.bind_eq_some_iff.mp H;obtain ⟨t110,A290,H⟩:=H;replace H : (some t110) = some r:=H;have A29:=Aside0.mk A290;clear A290;obtain rfl:=Option.some.inj H;have hnb30:=NB101_102.out;have hnc30:=NB102_101.out;have hcz31_0:=blk_c (v:=.int .i64 a0_0) BK101.out 0 rfl;have hcz31_1:=blk_c (v:=.int .i64 a0_1) BK101.out 1 rfl;have hcz31_2:=blk_c (v:=.int .i64 a0_2) BK101.out 2 rfl;have hcz31_3:=blk_c (v:=.slice A0_3 l0_3.length c0_3) BK101.out 3 rfl;have hfz31_0:=blk_frozen BK101.out 0;have hfz31_1:=blk_frozen BK101.out 1;have hfz31_2:=blk_frozen BK101.out 2;have hfz31_3:=blk_frozen BK101.out 3;have hcz32_0:=blk_c (v:=.int .i64 a1_0) BK102.out 0 rfl;have hcz32_1:=blk_c (v:=.int .i64 a1_1) BK102.out 1 rfl;have hcz32_2:=blk_c (v:=.int .i64 a1_2) BK102.out 2 rfl;have hcz32_3:=blk_c (v:=.slice A1_3 l1_3.length c1_3) BK102.out 3 rfl;have hfz32_0:=blk_frozen BK102.out 0;have hfz32_1:=blk_frozen BK102.out 1;have hfz32_2:=blk_frozen BK102.out 2;have hfz32_3:=blk_frozen BK102.out 3;go_wp2_with (first|((with_reducible refine gate_callee (f:=46) rfl ?_);refine goesL_ (some 51) rfl rfl Tryd.func46 (by kernel_rfl) rfl #[.slice A0_3 l0_3.length c0_3,.slice A1_3 l1_3.length c1_3,.func (.func 47) #[] #[]] rfl ln_ ?_;(with_reducible refine (slices_CompareFunc_string_string_string_string.calls _ _ l0_3 _ _ l1_3 t110 _ ?side1 ?side2 ?side3 ?side4 A29.out).mono ?_);(case side1 => first|exact (Kd.C_below HR0_3.out HB.out)|exact Kd.C_mv (Kd.C_below HR0_3.out HB.out));(case side2 => exact HC0_3.out);(case side3 => first|exact (Kd.C_below HR1_3.out HB.out)|exact Kd.C_mv (Kd.C_below HR1_3.out HB.out));(case side4 => exact HC1_3.out);rintro e w33 ⟨rfl,hb⟩;refine ⟨_,rfl,?_⟩;replace BK101:=Aside0.mk (blk_below (blk_mv BK101.out) hb);replace BK102:=Aside0.mk (blk_below (blk_mv BK102.out) hb);replace HB:=Aside0.mk (below_step bel_ hb);(try clear hb);(try clear hb2);(try clear hk);(try clear hi)));go_ret;exact ⟨by first|rfl|(simp [errW_none,errW_some] <;> rfl)|(simp [*,errW_none,errW_some] <;> rfl),bel_⟩
 ·rw [if_neg c7] at H
  have c7b0 : (t109 == 0) = false:=beq_eq_false_iff_ne.mpr c7;have c7b1 : (t109 != 0) = true:=bne_iff_ne.mpr c7;obtain rfl:=Option.some.inj H;go_enter Tryd.func30,Tryd.ntmps30;try go_wp2_with (first|((with_reducible refine gate_dst (N:=2) rfl ?_);(try (refine gate_guard (by rfl) ?_;dsimp only));refine box_event ?hg (N:=2) ?hd (cs:=#[.int .i64 a0_0,.int .i64 a0_1,.int .i64 a0_2,.slice A0_3 l0_3.length c0_3]) (t:=24) ?hr ?_;(case hd => rfl);(case hg => rfl);(case hr => first|(go_simp;done)|(go_simp;rfl));intro gb101 hg w34 hbox hb;have BK101:=Aside0.mk (hbox);have GW101:=Aside0.mk ((bs_ : w.heap.size ≤ gb101));have GE101:=Aside0.mk ((bs_ : w.heap.size ≤ gb101));replace HB:=Aside0.mk (below_step bel_ hb);clear hb hbox hg)|((with_reducible refine gate_dst (N:=3) rfl ?_);(try (refine gate_guard (by rfl) ?_;dsimp only));refine box_event ?hg (N:=3) ?hd (cs:=#[.int .i64 a1_0,.int .i64 a1_1,.int .i64 a1_2,.slice A1_3 l1_3.length c1_3]) (t:=24) ?hr ?_;(case hd => rfl);(case hg => rfl);(case hr => first|(go_simp;done)|(go_simp;rfl));intro gb102 hg w35 hbox hb;have BK102:=Aside0.mk (hbox);have GW102:=Aside0.mk ((bs_ : w.heap.size ≤ gb102));have GE102:=Aside0.mk ((bs_ : w.heap.size ≤ gb102));replace HB:=Aside0.mk (below_step bel_ hb);have NB101_102:=Aside0.mk ((by rw [hg];exact Nat.ne_of_lt (blk_lt (g:=gb101) (o:=.cells #[.int .i64 a0_0,.int .i64 a0_1,.int .i64 a0_2,.slice A0_3 l0_3.length c0_3] 24 (0,0)) (blk_mv BK101.out)) : gb101 ≠ gb102));have NB102_101:=Aside0.mk ((by rw [hg];exact Nat.ne_of_gt (blk_lt (g:=gb101) (o:=.cells #[.int .i64 a0_0,.int .i64 a0_1,.int .i64 a0_2,.slice A0_3 l0_3.length c0_3] 24 (0,0)) (blk_mv BK101.out)) : gb102 ≠ gb101));replace BK101:=Aside0.mk (blk_below (blk_mv BK101.out) hb);clear hb hbox hg))
  replace BK101:=Aside0.mk (blk_drew BK101.out);replace BK102:=Aside0.mk (blk_drew BK102.out);replace HB:=Aside0.mk (below_drew1 HB.out);refine start_ (n:=18) (S:=fun w' => w'.cell? ⟨gb101,0,none⟩ = some (.int .i64 a0_0) ∧ w'.cell? ⟨gb101,1,none⟩ = some (.int .i64 a0_1) ∧ w'.cell? ⟨gb101,2,none⟩ = some (.int .i64 a0_2) ∧ w'.cell? ⟨gb101,3,none⟩ = some (.slice A0_3 l0_3.length c0_3) ∧ w'.cell? ⟨gb102,0,none⟩ = some (.int .i64 a1_0) ∧ w'.cell? ⟨gb102,1,none⟩ = some (.int .i64 a1_1) ∧ w'.cell? ⟨gb102,2,none⟩ = some (.int .i64 a1_2) ∧ w'.cell? ⟨gb102,3,none⟩ = some (.slice A1_3 l1_3.length c1_3)) (ds:=[]) (bl_ 18 0) (by kernel_rfl) rfl rfl ⟨(blk_cell BK101.out 0).trans rfl,(blk_cell BK101.out 1).trans rfl,(blk_cell BK101.out 2).trans rfl,(blk_cell BK101.out 3).trans rfl,(blk_cell BK102.out 0).trans rfl,(blk_cell BK102.out 1).trans rfl,(blk_cell BK102.out 2).trans rfl,(blk_cell BK102.out 3).trans rfl⟩ (fun hHeld => ?_);refine with_tabW version_Order.tab1 version_Order.bits1 (fun HT_ HW_ => ?_);generalize w35.drew = w36 at BK101 BK102 HB hHeld ⊢;refine pu_ (v:=?_) (a':=?_) 0 6 (bl_ 18 1) rfl rfl HT_.out ?_ ?_ ?_;rotate_left
  ·intro w'
   go_simp;with_reducible rfl
  rotate_left
  ·simp only [Act.put,sa_,sb_,sc_,i64_w,i32_w]
   rfl
  refine pu_ (v:=?_) (a':=?_) 2 8 (bl_ 18 5) rfl rfl HT_.out ?_ ?_ ?_;rotate_left
  ·intro w'
   go_simp;with_reducible rfl
  rotate_left
  ·simp only [Act.put,sa_,sb_,sc_,i64_w,i32_w]
   rfl
  refine pu_ (v:=?_) (a':=?_) 5 11 (bl_ 18 37) rfl rfl HT_.out ?_ ?_ ?_;rotate_left
  ·intro w'
   go_simp;with_reducible rfl
  rotate_left
  ·simp only [Act.put,sa_,sb_,sc_,i64_w,i32_w]
   rfl
  refine pu_ (v:=?_) (a':=?_) 7 13 (bl_ 18 165) rfl rfl HT_.out ?_ ?_ ?_;rotate_left
  ·intro w'
   go_simp;with_reducible rfl
  rotate_left
  ·simp only [Act.put,sa_,sb_,sc_,i64_w,i32_w]
   rfl
  refine pu_ (v:=?_) (a':=?_) 10 16 (bl_ 18 1189) rfl rfl HT_.out ?_ ?_ ?_;rotate_left
  ·intro w'
   go_simp;with_reducible rfl
  rotate_left
  ·simp only [Act.put,sa_,sb_,sc_,i64_w,i32_w]
   rfl
  refine pu_ (v:=?_) (a':=?_) 12 18 (bl_ 18 5285) rfl rfl HT_.out ?_ ?_ ?_;rotate_left
  ·intro w'
   go_simp;with_reducible rfl
  rotate_left
  ·simp only [Act.put,sa_,sb_,sc_,i64_w,i32_w]
   rfl
  refine tk_ (v:=?_) (a':=?_) 1 7 (bl_ 18 5287) rfl rfl HT_.out HW_.out ?_ hHeld ?_ ?_;rotate_left
  ·rintro w' ⟨s0,s1,s2,s3,s4,s5,s6,s7⟩
   go_simp;with_reducible rfl
  rotate_left
  ·simp only [Act.put,sa_,sb_,sc_,i64_w,i32_w]
   rfl
  refine tk_ (v:=?_) (a':=?_) 3 9 (bl_ 18 5295) rfl rfl HT_.out HW_.out ?_ hHeld ?_ ?_;rotate_left
  ·rintro w' ⟨s0,s1,s2,s3,s4,s5,s6,s7⟩
   go_simp;with_reducible rfl
  rotate_left
  ·simp only [Act.put,sa_,sb_,sc_,i64_w,i32_w]
   rfl
  refine tk_ (v:=?_) (a':=?_) 6 12 (bl_ 18 5359) rfl rfl HT_.out HW_.out ?_ hHeld ?_ ?_;rotate_left
  ·rintro w' ⟨s0,s1,s2,s3,s4,s5,s6,s7⟩
   go_simp;with_reducible rfl
  rotate_left
  ·simp only [Act.put,sa_,sb_,sc_,i64_w,i32_w]
   rfl
  refine tk_ (v:=?_) (a':=?_) 8 14 (bl_ 18 5615) rfl rfl HT_.out HW_.out ?_ hHeld ?_ ?_;rotate_left
  ·rintro w' ⟨s0,s1,s2,s3,s4,s5,s6,s7⟩
   go_simp;with_reducible rfl
  rotate_left
  ·simp only [Act.put,sa_,sb_,sc_,i64_w,i32_w]
   rfl
  refine tk_ (v:=?_) (a':=?_) 11 17 (bl_ 18 7663) rfl rfl HT_.out HW_.out ?_ hHeld ?_ ?_;rotate_left
  ·rintro w' ⟨s0,s1,s2,s3,s4,s5,s6,s7⟩
   go_simp;with_reducible rfl
  rotate_left
  ·simp only [Act.put,sa_,sb_,sc_,i64_w,i32_w]
   rfl
  refine tk_ (v:=?_) (a':=?_) 13 19 (bl_ 18 15855) rfl rfl HT_.out HW_.out ?_ hHeld ?_ ?_;rotate_left
  ·rintro w' ⟨s0,s1,s2,s3,s4,s5,s6,s7⟩
   go_simp;with_reducible rfl
  rotate_left
  ·simp only [Act.put,sa_,sb_,sc_,i64_w,i32_w]
   rfl
  refine one_ (i:=4) (N:=some 10) (bl_ 18 15871) rfl rfl (one_of HT_.out (by kernel_rfl)) (by decide) (fun K hK => ?_);refine goes_ Tryd.func45 (by kernel_rfl) rfl #[.int .i64 a0_0,.int .i64 a1_0] (by rfl) rfl rfl ln_ ?_;with_reducible refine (cmp_Compare_int.calls a0_0 a1_0 t103 _ A3.out).mono ?_
  rintro e w' ⟨rfl,⟨nd,rfl⟩⟩;refine ⟨_,rfl,?_⟩;refine hK.out _ _ ⟨(blk_cell BK101.out 0).trans rfl,(blk_cell BK101.out 1).trans rfl,(blk_cell BK101.out 2).trans rfl,(blk_cell BK101.out 3).trans rfl,(blk_cell BK102.out 0).trans rfl,(blk_cell BK102.out 1).trans rfl,(blk_cell BK102.out 2).trans rfl,(blk_cell BK102.out 3).trans rfl⟩ (fun hHeld => ?_);clear hK K;refine norm_ (a':=?_) ?_ ?_;rotate_left
  ·show Act.put _ (some 10) _ = _
   simp only [Act.put,sa_,sb_,sc_,i64_w,i32_w];rfl
  refine one_ (i:=9) (N:=some 15) (bl_ 18 16383) rfl rfl (one_of HT_.out (by kernel_rfl)) (by decide) (fun K hK => ?_);refine goes_ Tryd.func45 (by kernel_rfl) rfl #[.int .i64 a0_1,.int .i64 a1_1] (by rfl) rfl rfl ln_ ?_;with_reducible refine (cmp_Compare_int.calls a0_1 a1_1 t104 _ A4.out).mono ?_
  rintro e w' ⟨rfl,⟨nd,rfl⟩⟩;refine ⟨_,rfl,?_⟩;refine hK.out _ _ ⟨(blk_cell BK101.out 0).trans rfl,(blk_cell BK101.out 1).trans rfl,(blk_cell BK101.out 2).trans rfl,(blk_cell BK101.out 3).trans rfl,(blk_cell BK102.out 0).trans rfl,(blk_cell BK102.out 1).trans rfl,(blk_cell BK102.out 2).trans rfl,(blk_cell BK102.out 3).trans rfl⟩ (fun hHeld => ?_);clear hK K;refine norm_ (a':=?_) ?_ ?_;rotate_left
  ·show Act.put _ (some 15) _ = _
   simp only [Act.put,sa_,sb_,sc_,i64_w,i32_w];rfl
  refine one_ (i:=14) (N:=some 20) (bl_ 18 32767) rfl rfl (one_of HT_.out (by kernel_rfl)) (by decide) (fun K hK => ?_);refine goes_ Tryd.func45 (by kernel_rfl) rfl #[.int .i64 a0_2,.int .i64 a1_2] (by rfl) rfl rfl ln_ ?_;with_reducible refine (cmp_Compare_int.calls a0_2 a1_2 t105 _ A5.out).mono ?_
  rintro e w' ⟨rfl,⟨nd,rfl⟩⟩;refine ⟨_,rfl,?_⟩;refine hK.out _ _ ⟨(blk_cell BK101.out 0).trans rfl,(blk_cell BK101.out 1).trans rfl,(blk_cell BK101.out 2).trans rfl,(blk_cell BK101.out 3).trans rfl,(blk_cell BK102.out 0).trans rfl,(blk_cell BK102.out 1).trans rfl,(blk_cell BK102.out 2).trans rfl,(blk_cell BK102.out 3).trans rfl⟩ (fun hHeld => ?_);clear hK K;refine norm_ (a':=?_) ?_ ?_;rotate_left
  ·show Act.put _ (some 20) _ = _
   simp only [Act.put,sa_,sb_,sc_,i64_w,i32_w];rfl
  refine one_ (i:=15) (N:=some 21) (bl_ 18 65535) rfl rfl (one_of HT_.out (by kernel_rfl)) (by decide) (fun K hK => ?_);refine Kd.R_lit_step (Kd.int .i64) _ 3 ?hg (N:=21) ?hd (xs:=([t103,t104,t105] : List Int)) (inner:=[.int .i64 t103,.int .i64 t104,.int .i64 t105]) (ok:=fun _ => True) (okp:=fun _ => True) ?hr ?hp (fun _ hk => hk) trivial (Below.refl _ _) (Nat.le_refl _) (by simp) ?_;(case hd => rfl);(case hg => rfl);(case hr => first|(go_simp;done)|(go_simp;rfl));(case hp => exact (Reps.one (show Kd.M (Kd.int .i64) _ _ _ t103 [.int .i64 t103] from rfl) (Reps.one (show Kd.M (Kd.int .i64) _ _ _ t104 [.int .i64 t104] from rfl) (Reps.one (show Kd.M (Kd.int .i64) _ _ _ t105 [.int .i64 t105] from rfl) (Reps.none _ _)))));intro v107 w37 ho38 hb hg_ hnew_;clear hg_ hnew_;(first|rw [← Ny106.out] at ho38|(simp only [Int.reduceToNat] at ho38;rw [← Ny106.out] at ho38));have HO108:=Aside0.mk (Kd.R_lower ho38 (below_size bel_));replace BK101:=Aside0.mk (blk_below (blk_mv BK101.out) hb);replace BK102:=Aside0.mk (blk_below (blk_mv BK102.out) hb);replace HB:=Aside0.mk (below_step bel_ hb);clear hb ho38;obtain ⟨Ao39,co39,eo39⟩:=Kd.R_slice HO108.out;(first|subst eo39|(injection eo39 with f1_ f2_ f3_;have f4_:=f1_.symm;have f5_:=f3_.symm;clear f1_ f2_ f3_;subst f4_;subst f5_));refine hK.out _ _ ⟨(blk_cell BK101.out 0).trans rfl,(blk_cell BK101.out 1).trans rfl,(blk_cell BK101.out 2).trans rfl,(blk_cell BK101.out 3).trans rfl,(blk_cell BK102.out 0).trans rfl,(blk_cell BK102.out 1).trans rfl,(blk_cell BK102.out 2).trans rfl,(blk_cell BK102.out 3).trans rfl⟩ (fun hHeld => ?_);clear hK K;refine norm_ (a':=?_) ?_ ?_;rotate_left
  ·show Act.put _ (some 21) _ = _
   simp only [Act.put,sa_,sb_,sc_,i64_w,i32_w];rfl
  refine one_ (i:=16) (N:=some 22) (bl_ 18 131071) rfl rfl (one_of HT_.out (by kernel_rfl)) (by decide) (fun K hK => ?_);refine goes_ Tryd.func44 (by kernel_rfl) rfl #[.slice Ao39 y106.length co39] (by rfl) rfl rfl ln_ ?_;with_reducible refine (cmp_Or_int.calls k _ _ y106 t109 _ ?side1 ?side2 A6.out).mono ?_
  (case side1 => first|exact (Kd.R_reads' HO108.out).2.2|exact Kd.C_mv (Kd.R_reads' HO108.out).2.2);(case side2 => exact (Kd.R_reads' HO108.out).2.1);rintro e w' ⟨rfl,⟨nd,rfl⟩⟩;refine ⟨_,rfl,?_⟩;refine hK.out _ _ ⟨(blk_cell BK101.out 0).trans rfl,(blk_cell BK101.out 1).trans rfl,(blk_cell BK101.out 2).trans rfl,(blk_cell BK101.out 3).trans rfl,(blk_cell BK102.out 0).trans rfl,(blk_cell BK102.out 1).trans rfl,(blk_cell BK102.out 2).trans rfl,(blk_cell BK102.out 3).trans rfl⟩ (fun hHeld => ?_);clear hK K;refine norm_ (a':=?_) ?_ ?_;rotate_left
  ·show Act.put _ (some 22) _ = _
   simp only [Act.put,sa_,sb_,sc_,i64_w,i32_w];rfl
  refine pu_ (v:=?_) (a':=?_) 17 5 (bl_ 18 262143) rfl rfl HT_.out ?_ ?_ ?_;rotate_left
  ·intro w'
   go_simp;with_reducible rfl
  rotate_left
  ·simp only [Act.put,sa_,sb_,sc_,i64_w,i32_w]
   rfl
  refine done_ (done_of HT_.out (by kernel_rfl)) ?_;try go_wp2
  go_ret;exact ⟨by first|rfl|(simp [errW_none,errW_some] <;> rfl)|(simp [*,errW_none,errW_some] <;> rfl),bel_⟩

end Go.Proofs.YtggdbafmpmfmcaaDoor.Fn
