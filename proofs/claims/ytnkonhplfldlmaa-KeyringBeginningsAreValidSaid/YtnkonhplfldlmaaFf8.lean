/- A function of the program as a plain Lean function, and the proof that the call comes to just what it says (written by wip/tools/xprint.py for this claim). Condition: the plain function has an answer. -/
import Derived.Test.YtnkonhplfldlmaaFn0
import Derived.Test.YtnkonhplfldlmaaFf12
import Derived.Test.YtnkonhplfldlmaaFf13
import Derived.Test.YtnkonhplfldlmaaFs0
import Derived.Test.YtnkonhplfldlmaaWApart
import Derived.Test.YtnkonhplfldlmaaWGuard
import Derived.Test.YtnkonhplfldlmaaWKept
import Derived.Test.YtnkonhplfldlmaaWLast
import Derived.Test.YtnkonhplfldlmaaWMore
import Derived.Test.YtnkonhplfldlmaaWN
import Derived.Test.YtnkonhplfldlmaaWRepsOne
import Derived.Test.YtnkonhplfldlmaaWTab
import Derived.Test.YtnkonhplfldlmaaWWords
import Derived.Test.YtnkonhplfldlmaaTight
namespace Go.Proofs.Ytnkonhplfldlmaa.Fn
open Go.RowKit Go.Proofs.YtnkonhplfldlmaaW.PrintWords Go.Proofs.YtnkonhplfldlmaaW.PrintLast Go.Proofs.YtnkonhplfldlmaaW.PrintMore
attribute [local go_sem] max2_int min2_int max_two min_two max_three min_three max_four min_four   -- for this text's walks alone
set_option linter.unusedVariables false
set_option linter.unusedSimpArgs false

attribute [local go_sem high] eqA24
/-! ### changeforgelaw5_KeyringBeginningsAreValid: function 8 -/
def changeforgelaw5_KeyringBeginningsAreValid.j0 : Nat → List (S45) → Int → Bool → Int → Int → Option (Bool)
 | 0,_,_,_,_,_ => none
 | k + 1,x0,x1,x20,x104000,x104001 => if x20 = true then (none) else ((changeforgelaw5_in.f x1 0 (x0.length : Int)).bind fun t107 => (if t107 = true then (if (x0.length : Int) > 40 then (some true) else (if 0 ≤ x1 then (if x1 ≤ (x0.length : Int) then ((keyring_Validate.f (x0.take (x1 : Int).toNat)).bind fun bt112 => (if (bt112.1 == 0 && (bt112.2 == 0)) = true then (if x104000 = 0 then (some true) else (if x104001 ≥ x1 then (some true) else (if (bt112.1 == x104000 && (bt112.2 == x104001)) = true then (some (decide (x104001 < x1))) else (none)))) else (if (bt112.1 == x104000 && (bt112.2 == x104001)) = true then (some (decide (x104001 < x1))) else (none)))) else (none)) else (none))) else (some true)))
def changeforgelaw5_KeyringBeginningsAreValid.f (k : Nat) (l0 : List (S45)) (a1 : Int) : Option (Bool):=(keyring_Validate.f l0).bind fun bt101 => ((changeforgelaw5_keys.f k).bind fun t104 => (if t104 = true then (if (l0.length : Int) > 40 then ((changeforgelaw5_fault.f 2 (-1)).bind fun bt105 => (changeforgelaw5_KeyringBeginningsAreValid.j0 k l0 a1 (!(bt101.1 == bt105.1) || (!(bt101.2 == bt105.2))) bt101.1 bt101.2)) else (changeforgelaw5_KeyringBeginningsAreValid.j0 k l0 a1 false bt101.1 bt101.2)) else (changeforgelaw5_KeyringBeginningsAreValid.j0 k l0 a1 true bt101.1 bt101.2)))
theorem changeforgelaw5_KeyringBeginningsAreValid.mono_l : ∀ k,(∀ y0 y1 y2 y3 y4,LeO (changeforgelaw5_KeyringBeginningsAreValid.j0 k y0 y1 y2 y3 y4) (changeforgelaw5_KeyringBeginningsAreValid.j0 (k + 1) y0 y1 y2 y3 y4))
 | 0 => fun _ _ _ _ _ r h => by simp [changeforgelaw5_KeyringBeginningsAreValid.j0] at h
 | k + 1 => by
  have ih0:=changeforgelaw5_KeyringBeginningsAreValid.mono_l k
  ·intro y0 y1 y2 y3 y4
   unfold changeforgelaw5_KeyringBeginningsAreValid.j0;repeat' first
   | (with_reducible exact ih0 _ _ _ _ _)
   | (with_reducible exact changeforgelaw5_keys.mono _)
   | (with_reducible exact LeO.refl _)
   | (with_reducible exact LeO.none _)
   | (with_reducible refine LeO.ite ?_ ?_)
   | (with_reducible refine LeO.bind ?_ (fun _ => ?_))
   | exact ih0 _ _ _ _ _
   | exact changeforgelaw5_keys.mono _
   | exact LeO.none _
   | refine LeO.ite ?_ ?_
   | refine LeO.bind ?_ (fun _ => ?_)
theorem changeforgelaw5_KeyringBeginningsAreValid.mono : ∀ a0 a1 k,LeO (changeforgelaw5_KeyringBeginningsAreValid.f k a0 a1) (changeforgelaw5_KeyringBeginningsAreValid.f (k + 1) a0 a1):=by
 intro a0 a1 k;have ih0:=changeforgelaw5_KeyringBeginningsAreValid.mono_l k;unfold changeforgelaw5_KeyringBeginningsAreValid.f
 repeat' first
   | (with_reducible exact ih0 _ _ _ _ _)
   | (with_reducible exact changeforgelaw5_keys.mono _)
   | (with_reducible exact LeO.refl _)
   | (with_reducible exact LeO.none _)
   | (with_reducible refine LeO.ite ?_ ?_)
   | (with_reducible refine LeO.bind ?_ (fun _ => ?_))
   | exact ih0 _ _ _ _ _
   | exact changeforgelaw5_keys.mono _
   | exact LeO.none _
   | refine LeO.ite ?_ ?_
   | refine LeO.bind ?_ (fun _ => ?_)
def changeforgelaw5_KeyringBeginningsAreValid.T2 : Bool × List (List Nat × List Nat):=(true,[([],[]),([0],[0]),([1,0],[1]),([2],[2]),([3,2],[2,3]),([4,2],[2,4]),([5,2,2],[2,5]),([6],[6]),([6,6],[6]),([7,8,6],[6,7,8]),([6,9,2],[2,6,9]),([2,10],[2,10])])
def changeforgelaw5_KeyringBeginningsAreValid.B2 : List Nat:=[0,1,3,7,15,31,63,127,127,511,1023,2047]
theorem changeforgelaw5_KeyringBeginningsAreValid.tab2 : rtab .any (opsOf Try.f8 2) = changeforgelaw5_KeyringBeginningsAreValid.T2:=by kernel_rfl
theorem changeforgelaw5_KeyringBeginningsAreValid.bits2 : waitsOk changeforgelaw5_KeyringBeginningsAreValid.T2.2 changeforgelaw5_KeyringBeginningsAreValid.B2 = true:=by kernel_rfl
set_option maxHeartbeats 8000000 in
set_option maxRecDepth 100000 in
theorem changeforgelaw5_KeyringBeginningsAreValid.calls (k : Nat) (A0 : Option Addr) (c0 : Nat) (l0 : List (S45)) (a1 : Int) (r : Bool) (w : World) (hr0 : Kd.C k45 w A0 l0.length l0) (hc0 : l0.length ≤ c0) (h : changeforgelaw5_KeyringBeginningsAreValid.f k l0 a1 = some r) :
  Calls Try.prog 8 #[.slice A0 l0.length c0,.int .i64 a1] w fun e w' => e = .returned (.bool r) ∧ Below w.heap.size w w':=by
 have hu24:=Try.underlying24;have HR0:=Aside0.mk hr0;have HC0:=Aside0.mk hc0;clear hr0 hc0;have HB:=Aside0.mk (Below.refl w.heap.size w);have H : ((keyring_Validate.f l0).bind fun bt101 => ((changeforgelaw5_keys.f k).bind fun t104 => (if t104 = true then (if (l0.length : Int) > 40 then ((changeforgelaw5_fault.f 2 (-1)).bind fun bt105 => (changeforgelaw5_KeyringBeginningsAreValid.j0 k l0 a1 (!(bt101.1 == bt105.1) || (!(bt101.2 == bt105.2))) bt101.1 bt101.2)) else (changeforgelaw5_KeyringBeginningsAreValid.j0 k l0 a1 false bt101.1 bt101.2)) else (changeforgelaw5_KeyringBeginningsAreValid.j0 k l0 a1 true bt101.1 bt101.2)))) = some r:=h;clear h;replace H:=Option.bind_eq_some_iff.mp H;obtain ⟨⟨t101,t102⟩,A30,H⟩:=H;replace H : ((changeforgelaw5_keys.f k).bind fun t104 => (if t104 = true then (if (l0.length : Int) > 40 then ((changeforgelaw5_fault.f 2 (-1)).bind fun bt105 => (changeforgelaw5_KeyringBeginningsAreValid.j0 k l0 a1 (!(t101 == bt105.1) || (!(t102 == bt105.2))) t101 t102)) else (changeforgelaw5_KeyringBeginningsAreValid.j0 k l0 a1 false t101 t102)) else (changeforgelaw5_KeyringBeginningsAreValid.j0 k l0 a1 true t101 t102))) = some r:=H;have A3:=Aside0.mk A30;clear A30;have HC4:=Aside0.mk H;clear H;go_enter Try.func8,Try.ntmps8;go_upto_region 2 with (first|((with_reducible refine gate_callee (f:=13) rfl ?_);refine goesL_ (some 8) rfl rfl Try.func13 (by kernel_rfl) rfl #[.slice A0 l0.length c0] rfl ln_ ?_;(with_reducible refine (keyring_Validate.calls _ _ l0 t101 t102 _ ?side1 ?side2 A3.out).mono ?_);(case side1 => first|exact HR0.out|exact Kd.C_mv HR0.out);(case side2 => exact HC0.out);rintro e w5 ⟨rfl,hb⟩;refine ⟨_,rfl,?_⟩;replace HB:=Aside0.mk (below_step bel_ hb);(try clear hb);(try clear hb2);(try clear hk);(try clear hi))|((with_reducible refine gate_dst (N:=5) rfl ?_);(try (refine gate_guard (by rfl) ?_;dsimp only));refine box_event ?hg (N:=5) ?hd (cs:=#[.int .i64 0,.int .i64 0]) (t:=24) ?hr ?_;(case hd => rfl);(case hg => rfl);(case hr => first|(go_simp;done)|(go_simp;rfl));intro gb103 hg w6 hbox hb;have BK103:=Aside0.mk (hbox);have GW103:=Aside0.mk ((bs_ : w.heap.size ≤ gb103));have GE103:=Aside0.mk ((bs_ : w.heap.size ≤ gb103));replace HB:=Aside0.mk (below_step bel_ hb);clear hb hbox hg;have hcz7_0:=blk_c (v:=.int .i64 0) BK103.out 0 rfl;have hcz7_1:=blk_c (v:=.int .i64 0) BK103.out 1 rfl;have hfz7_0:=blk_frozen BK103.out 0;have hfz7_1:=blk_frozen BK103.out 1));(try simp only [Act.put,sa_,sb_,sc_]);go_cut [20] (fun v20 wc => ∃ (kq : Nat) (x20_3 : Bool),v20 = .bool x20_3 ∧ Aside0 (changeforgelaw5_KeyringBeginningsAreValid.j0 kq l0 a1 x20_3 t101 t102 = some r) ∧ Aside0 (kq ≤ k) ∧ Aside0 (wc.heap[gb103]? = some (.cells #[.int .i64 t101,.int .i64 t102] 24 (0,0))) ∧ Aside0 (Below w.heap.size w wc))
 case first =>
  have H:=HC4.out;clear HC4;replace H:=Option.bind_eq_some_iff.mp H;obtain ⟨t104,A80,H⟩:=H;replace H : (if t104 = true then (if (l0.length : Int) > 40 then ((changeforgelaw5_fault.f 2 (-1)).bind fun bt105 => (changeforgelaw5_KeyringBeginningsAreValid.j0 k l0 a1 (!(t101 == bt105.1) || (!(t102 == bt105.2))) t101 t102)) else (changeforgelaw5_KeyringBeginningsAreValid.j0 k l0 a1 false t101 t102)) else (changeforgelaw5_KeyringBeginningsAreValid.j0 k l0 a1 true t101 t102)) = some r:=H;have A8:=Aside0.mk A80;clear A80;by_cases c9 : t104 = true
  ·subst c9
   have H1 : (if (l0.length : Int) > 40 then ((changeforgelaw5_fault.f 2 (-1)).bind fun bt105 => (changeforgelaw5_KeyringBeginningsAreValid.j0 k l0 a1 (!(t101 == bt105.1) || (!(t102 == bt105.2))) t101 t102)) else (changeforgelaw5_KeyringBeginningsAreValid.j0 k l0 a1 false t101 t102)) = some r:=by rw [if_pos rfl] at H;exact H
   clear H;have H:=H1;clear H1;by_cases c10 : (l0.length : Int) > 40
   ·rw [if_pos c10] at H
    have c10b0 : decide (40 < (l0.length : Int)) = true:=decide_eq_true c10;have c10b1 : decide (40 < l0.length) = true:=decide_eq_true (by omega);clear c10;(first|rw [c10b0]|(simp only [i64_w,i32_w];rw [c10b0])|skip);replace H:=Option.bind_eq_some_iff.mp H;obtain ⟨⟨t105,t106⟩,A110,H⟩:=H;replace H : (changeforgelaw5_KeyringBeginningsAreValid.j0 k l0 a1 (!(t101 == t105) || (!(t102 == t106))) t101 t102) = some r:=H;have A11:=Aside0.mk A110;clear A110;have H':=Aside0.mk H;clear H;try go_wp2
    have n0_ : Aside0 (((w6.setCell ⟨gb103,0,none⟩ (.int .i64 t101)).setCell ⟨gb103,1,none⟩ (.int .i64 t102)).heap[gb103]? = some (.cells #[.int .i64 t101,.int .i64 t102] 24 (0,0))):=⟨by refine blk_mv ?_;refine blk_put (cs:=#[.int .i64 t101,.int .i64 0]) ?_ 1 _ rfl;refine blk_mv ?_;refine blk_put (cs:=#[.int .i64 0,.int .i64 0]) ?_ 0 _ rfl;refine blk_mv ?_;exact BK103.out⟩;have n1_ : Aside0 (Below w.heap.size w ((w6.setCell ⟨gb103,0,none⟩ (.int .i64 t101)).setCell ⟨gb103,1,none⟩ (.int .i64 t102))):=⟨bel_⟩;(try clear BK103);(try clear HB);generalize ((w6.setCell ⟨gb103,0,none⟩ (.int .i64 t101)).setCell ⟨gb103,1,none⟩ (.int .i64 t102)) = w12 at n0_ n1_ ⊢;have BK103:=n0_;have HB:=n1_;clear n0_ n1_;replace BK103:=Aside0.mk (blk_drew BK103.out);replace HB:=Aside0.mk (below_drew1 HB.out);refine start_ (n:=12) (S:=fun w' => w'.cell? ⟨gb103,0,none⟩ = some (.int .i64 t101) ∧ w'.cell? ⟨gb103,1,none⟩ = some (.int .i64 t102)) (ds:=[]) (bl_ 12 0) (by kernel_rfl) rfl rfl ⟨(blk_cell BK103.out 0).trans rfl,(blk_cell BK103.out 1).trans rfl⟩ (fun hHeld => ?_);refine with_tabW changeforgelaw5_KeyringBeginningsAreValid.tab2 changeforgelaw5_KeyringBeginningsAreValid.bits2 (fun HT_ HW_ => ?_);generalize w12.drew = w13 at BK103 HB hHeld ⊢;refine one_ (i:=0) (N:=some 9) (bl_ 12 1) rfl rfl (one_of HT_.out (by kernel_rfl)) (by decide) (fun K hK => ?_);refine goes_ Try.func12 (by kernel_rfl) rfl #[] (by rfl) rfl rfl ln_ ?_;with_reducible refine (changeforgelaw5_keys.calls k  true _ A8.out).mono ?_
    rintro e w14 ⟨rfl,hb⟩;refine ⟨_,rfl,?_⟩;replace BK103:=Aside0.mk (blk_below (blk_mv BK103.out) hb);replace HB:=Aside0.mk (below_step bel_ hb);(try clear hb);refine hK.out _ _ ⟨(blk_cell BK103.out 0).trans rfl,(blk_cell BK103.out 1).trans rfl⟩ (fun hHeld => ?_);clear hK K;refine norm_ (a':=?_) ?_ ?_;rotate_left
    ·show Act.put _ (some 9) _ = _
     simp only [Act.put,sa_,sb_,sc_,i64_w,i32_w];rfl
    refine pu_ (v:=?_) (a':=?_) 1 10 (bl_ 12 3) rfl rfl HT_.out ?_ ?_ ?_;rotate_left
    ·intro w'
     go_simp;with_reducible rfl
    rotate_left
    ·simp only [Act.put,sa_,sb_,sc_,i64_w,i32_w]
     rfl
    refine pu_ (v:=?_) (a':=?_) 2 11 (bl_ 12 7) rfl rfl HT_.out ?_ ?_ ?_;rotate_left
    ·intro w'
     go_simp;with_reducible rfl
    rotate_left
    ·simp only [Act.put,sa_,sb_,sc_,i64_w,i32_w]
     rfl
    refine pu_ (v:=?_) (a':=?_) 3 12 (bl_ 12 15) rfl rfl HT_.out ?_ ?_ ?_;rotate_left
    ·intro w'
     go_simp;with_reducible rfl
    rotate_left
    ·simp only [Act.put,sa_,sb_,sc_,i64_w,i32_w]
     rfl
    refine pu_ (v:=?_) (a':=?_) 4 13 (bl_ 12 31) rfl rfl HT_.out ?_ ?_ ?_;rotate_left
    ·intro w'
     go_simp;with_reducible rfl
    rotate_left
    ·simp only [Act.put,sa_,sb_,sc_,i64_w,i32_w]
     rfl
    refine pu_ (v:=?_) (a':=?_) 5 14 (bl_ 12 63) rfl rfl HT_.out ?_ ?_ ?_;rotate_left
    ·intro w'
     go_simp;with_reducible rfl
    rotate_left
    ·simp only [Act.put,sa_,sb_,sc_,i64_w,i32_w]
     rfl
    refine pu_ (v:=?_) (a':=?_) 6 15 (bl_ 12 127) rfl rfl HT_.out ?_ ?_ ?_;rotate_left
    ·intro w'
     go_simp;with_reducible rfl
    rotate_left
    ·simp only [Act.put,sa_,sb_,sc_,i64_w,i32_w]
     rfl
    refine tk_ (v:=?_) (a':=?_) 7 16 (bl_ 12 255) rfl rfl HT_.out HW_.out ?_ hHeld ?_ ?_;rotate_left
    ·rintro w' ⟨s0,s1⟩
     go_simp;with_reducible rfl
    rotate_left
    ·simp only [Act.put,sa_,sb_,sc_,i64_w,i32_w]
     rfl
    refine one_ (i:=8) (N:=some 17) (bl_ 12 511) rfl rfl (one_of HT_.out (by kernel_rfl)) (by decide) (fun K hK => ?_);refine goes_ Try.func16 (by kernel_rfl) rfl #[.int .i64 2,.int .i64 (-1)] (by rfl) rfl rfl ln_ ?_;with_reducible refine (changeforgelaw5_fault.calls 2 (-1) t105 t106 _ A11.out).mono ?_
    rintro e w15 ⟨rfl,hb⟩;refine ⟨_,rfl,?_⟩;replace BK103:=Aside0.mk (blk_below (blk_mv BK103.out) hb);replace HB:=Aside0.mk (below_step bel_ hb);(try clear hb);refine hK.out _ _ ⟨(blk_cell BK103.out 0).trans rfl,(blk_cell BK103.out 1).trans rfl⟩ (fun hHeld => ?_);clear hK K;refine norm_ (a':=?_) ?_ ?_;rotate_left
    ·show Act.put _ (some 17) _ = _
     simp only [Act.put,sa_,sb_,sc_,i64_w,i32_w];rfl
    refine pu_ (v:=?_) (a':=?_) 9 18 (bl_ 12 1023) rfl rfl HT_.out ?_ ?_ ?_;rotate_left
    ·intro w'
     go_simp;with_reducible rfl
    rotate_left
    ·simp only [Act.put,sa_,sb_,sc_,i64_w,i32_w]
     rfl
    refine pu_ (v:=?_) (a':=?_) 10 19 (bl_ 12 2047) rfl rfl HT_.out ?_ ?_ ?_;rotate_left
    ·intro w'
     go_simp;with_reducible rfl
    rotate_left
    ·simp only [Act.put,sa_,sb_,sc_,i64_w,i32_w]
     rfl
    refine pu_ (v:=?_) (a':=?_) 11 20 (bl_ 12 4095) rfl rfl HT_.out ?_ ?_ ?_;rotate_left
    ·intro w'
     go_simp;with_reducible rfl
    rotate_left
    ·simp only [Act.put,sa_,sb_,sc_,i64_w,i32_w]
     rfl
    refine done_ (done_of HT_.out (by kernel_rfl)) ?_;try go_wp2
    go_meet
    case rel => exact ⟨_,((!(t101 == t105) || (!(t102 == t106)))),fr_,H',⟨om_⟩,⟨blk_mv BK103.out⟩,⟨bel_⟩⟩
   ·rw [if_neg c10] at H
    have c10b0 : decide (40 < (l0.length : Int)) = false:=decide_eq_false c10;have c10b1 : decide (40 < l0.length) = false:=decide_eq_false (by omega);clear c10;(first|rw [c10b0]|(simp only [i64_w,i32_w];rw [c10b0])|skip);have H':=Aside0.mk H;clear H;try go_wp2
    have n0_ : Aside0 (((w6.setCell ⟨gb103,0,none⟩ (.int .i64 t101)).setCell ⟨gb103,1,none⟩ (.int .i64 t102)).heap[gb103]? = some (.cells #[.int .i64 t101,.int .i64 t102] 24 (0,0))):=⟨by refine blk_mv ?_;refine blk_put (cs:=#[.int .i64 t101,.int .i64 0]) ?_ 1 _ rfl;refine blk_mv ?_;refine blk_put (cs:=#[.int .i64 0,.int .i64 0]) ?_ 0 _ rfl;refine blk_mv ?_;exact BK103.out⟩;have n1_ : Aside0 (Below w.heap.size w ((w6.setCell ⟨gb103,0,none⟩ (.int .i64 t101)).setCell ⟨gb103,1,none⟩ (.int .i64 t102))):=⟨bel_⟩;(try clear BK103);(try clear HB);generalize ((w6.setCell ⟨gb103,0,none⟩ (.int .i64 t101)).setCell ⟨gb103,1,none⟩ (.int .i64 t102)) = w16 at n0_ n1_ ⊢;have BK103:=n0_;have HB:=n1_;clear n0_ n1_;replace BK103:=Aside0.mk (blk_drew BK103.out);replace HB:=Aside0.mk (below_drew1 HB.out);refine start_ (n:=12) (S:=fun w' => True) (ds:=[]) (bl_ 12 0) (by kernel_rfl) rfl rfl trivial (fun hHeld => ?_);refine with_tabW changeforgelaw5_KeyringBeginningsAreValid.tab2 changeforgelaw5_KeyringBeginningsAreValid.bits2 (fun HT_ HW_ => ?_);generalize w16.drew = w17 at BK103 HB hHeld ⊢;refine one_ (i:=0) (N:=some 9) (bl_ 12 1) rfl rfl (one_of HT_.out (by kernel_rfl)) (by decide) (fun K hK => ?_);refine goes_ Try.func12 (by kernel_rfl) rfl #[] (by rfl) rfl rfl ln_ ?_;with_reducible refine (changeforgelaw5_keys.calls k  true _ A8.out).mono ?_
    rintro e w18 ⟨rfl,hb⟩;refine ⟨_,rfl,?_⟩;replace BK103:=Aside0.mk (blk_below (blk_mv BK103.out) hb);replace HB:=Aside0.mk (below_step bel_ hb);(try clear hb);refine hK.out _ _ trivial (fun hHeld => ?_);clear hK K;refine norm_ (a':=?_) ?_ ?_;rotate_left
    ·show Act.put _ (some 9) _ = _
     simp only [Act.put,sa_,sb_,sc_,i64_w,i32_w];rfl
    refine pu_ (v:=?_) (a':=?_) 1 10 (bl_ 12 3) rfl rfl HT_.out ?_ ?_ ?_;rotate_left
    ·intro w'
     go_simp;with_reducible rfl
    rotate_left
    ·simp only [Act.put,sa_,sb_,sc_,i64_w,i32_w]
     rfl
    refine pu_ (v:=?_) (a':=?_) 2 11 (bl_ 12 7) rfl rfl HT_.out ?_ ?_ ?_;rotate_left
    ·intro w'
     go_simp;with_reducible rfl
    rotate_left
    ·simp only [Act.put,sa_,sb_,sc_,i64_w,i32_w]
     rfl
    refine pu_ (v:=?_) (a':=?_) 3 12 (bl_ 12 15) rfl rfl HT_.out ?_ ?_ ?_;rotate_left
    ·intro w'
     go_simp;with_reducible rfl
    rotate_left
    ·simp only [Act.put,sa_,sb_,sc_,i64_w,i32_w]
     rfl
    refine pu_ (v:=?_) (a':=?_) 4 13 (bl_ 12 31) rfl rfl HT_.out ?_ ?_ ?_;rotate_left
    ·intro w'
     go_simp;with_reducible rfl
    rotate_left
    ·simp only [Act.put,sa_,sb_,sc_,i64_w,i32_w]
     rfl
    refine pu_ (v:=?_) (a':=?_) 5 14 (bl_ 12 63) rfl rfl HT_.out ?_ ?_ ?_;rotate_left
    ·intro w'
     go_simp;with_reducible rfl
    rotate_left
    ·simp only [Act.put,sa_,sb_,sc_,i64_w,i32_w]
     rfl
    refine pu_ (v:=?_) (a':=?_) 6 15 (bl_ 12 127) rfl rfl HT_.out ?_ ?_ ?_;rotate_left
    ·intro w'
     go_simp;with_reducible rfl
    rotate_left
    ·simp only [Act.put,sa_,sb_,sc_,i64_w,i32_w]
     rfl
    refine pun_ (a':=?_) 7 16 (bl_ 12 255) rfl rfl HT_.out ?_ ?_;rotate_left
    ·simp only [Act.put,sa_,sb_,sc_,i64_w,i32_w]
     rfl
    refine pun_ (a':=?_) 8 17 (bl_ 12 511) rfl rfl HT_.out ?_ ?_;rotate_left
    ·simp only [Act.put,sa_,sb_,sc_,i64_w,i32_w]
     rfl
    refine pun_ (a':=?_) 9 18 (bl_ 12 1023) rfl rfl HT_.out ?_ ?_;rotate_left
    ·simp only [Act.put,sa_,sb_,sc_,i64_w,i32_w]
     rfl
    refine pu_ (v:=?_) (a':=?_) 10 19 (bl_ 12 2047) rfl rfl HT_.out ?_ ?_ ?_;rotate_left
    ·intro w'
     go_simp;with_reducible rfl
    rotate_left
    ·simp only [Act.put,sa_,sb_,sc_,i64_w,i32_w]
     rfl
    refine pu_ (v:=?_) (a':=?_) 11 20 (bl_ 12 4095) rfl rfl HT_.out ?_ ?_ ?_;rotate_left
    ·intro w'
     go_simp;with_reducible rfl
    rotate_left
    ·simp only [Act.put,sa_,sb_,sc_,i64_w,i32_w]
     rfl
    refine done_ (done_of HT_.out (by kernel_rfl)) ?_;try go_wp2
    go_meet
    case rel => exact ⟨_,(false),fr_,H',⟨om_⟩,⟨blk_mv BK103.out⟩,⟨bel_⟩⟩
  ·replace c9:=Bool.eq_false_iff.mpr c9
   subst c9;have H1 : (changeforgelaw5_KeyringBeginningsAreValid.j0 k l0 a1 true t101 t102) = some r:=by rw [if_neg (show ¬ (false = true) by decide)] at H;exact H
   clear H;have H:=H1;clear H1;have H':=Aside0.mk H;clear H;try go_wp2
   have n0_ : Aside0 (((w6.setCell ⟨gb103,0,none⟩ (.int .i64 t101)).setCell ⟨gb103,1,none⟩ (.int .i64 t102)).heap[gb103]? = some (.cells #[.int .i64 t101,.int .i64 t102] 24 (0,0))):=⟨by refine blk_mv ?_;refine blk_put (cs:=#[.int .i64 t101,.int .i64 0]) ?_ 1 _ rfl;refine blk_mv ?_;refine blk_put (cs:=#[.int .i64 0,.int .i64 0]) ?_ 0 _ rfl;refine blk_mv ?_;exact BK103.out⟩;have n1_ : Aside0 (Below w.heap.size w ((w6.setCell ⟨gb103,0,none⟩ (.int .i64 t101)).setCell ⟨gb103,1,none⟩ (.int .i64 t102))):=⟨bel_⟩;(try clear BK103);(try clear HB);generalize ((w6.setCell ⟨gb103,0,none⟩ (.int .i64 t101)).setCell ⟨gb103,1,none⟩ (.int .i64 t102)) = w19 at n0_ n1_ ⊢;have BK103:=n0_;have HB:=n1_;clear n0_ n1_;replace BK103:=Aside0.mk (blk_drew BK103.out);replace HB:=Aside0.mk (below_drew1 HB.out);refine start_ (n:=12) (S:=fun w' => True) (ds:=[]) (bl_ 12 0) (by kernel_rfl) rfl rfl trivial (fun hHeld => ?_);refine with_tabW changeforgelaw5_KeyringBeginningsAreValid.tab2 changeforgelaw5_KeyringBeginningsAreValid.bits2 (fun HT_ HW_ => ?_);generalize w19.drew = w20 at BK103 HB hHeld ⊢;refine one_ (i:=0) (N:=some 9) (bl_ 12 1) rfl rfl (one_of HT_.out (by kernel_rfl)) (by decide) (fun K hK => ?_);refine goes_ Try.func12 (by kernel_rfl) rfl #[] (by rfl) rfl rfl ln_ ?_;with_reducible refine (changeforgelaw5_keys.calls k  false _ A8.out).mono ?_
   rintro e w21 ⟨rfl,hb⟩;refine ⟨_,rfl,?_⟩;replace BK103:=Aside0.mk (blk_below (blk_mv BK103.out) hb);replace HB:=Aside0.mk (below_step bel_ hb);(try clear hb);refine hK.out _ _ trivial (fun hHeld => ?_);clear hK K;refine norm_ (a':=?_) ?_ ?_;rotate_left
   ·show Act.put _ (some 9) _ = _
    simp only [Act.put,sa_,sb_,sc_,i64_w,i32_w];rfl
   refine pu_ (v:=?_) (a':=?_) 1 10 (bl_ 12 3) rfl rfl HT_.out ?_ ?_ ?_;rotate_left
   ·intro w'
    go_simp;with_reducible rfl
   rotate_left
   ·simp only [Act.put,sa_,sb_,sc_,i64_w,i32_w]
    rfl
   refine pu_ (v:=?_) (a':=?_) 2 11 (bl_ 12 7) rfl rfl HT_.out ?_ ?_ ?_;rotate_left
   ·intro w'
    go_simp;with_reducible rfl
   rotate_left
   ·simp only [Act.put,sa_,sb_,sc_,i64_w,i32_w]
    rfl
   refine pun_ (a':=?_) 3 12 (bl_ 12 15) rfl rfl HT_.out ?_ ?_;rotate_left
   ·simp only [Act.put,sa_,sb_,sc_,i64_w,i32_w]
    rfl
   refine pun_ (a':=?_) 4 13 (bl_ 12 31) rfl rfl HT_.out ?_ ?_;rotate_left
   ·simp only [Act.put,sa_,sb_,sc_,i64_w,i32_w]
    rfl
   refine pun_ (a':=?_) 5 14 (bl_ 12 63) rfl rfl HT_.out ?_ ?_;rotate_left
   ·simp only [Act.put,sa_,sb_,sc_,i64_w,i32_w]
    rfl
   refine pun_ (a':=?_) 6 15 (bl_ 12 127) rfl rfl HT_.out ?_ ?_;rotate_left
   ·simp only [Act.put,sa_,sb_,sc_,i64_w,i32_w]
    rfl
   refine pun_ (a':=?_) 7 16 (bl_ 12 255) rfl rfl HT_.out ?_ ?_;rotate_left
   ·simp only [Act.put,sa_,sb_,sc_,i64_w,i32_w]
    rfl
   refine pun_ (a':=?_) 8 17 (bl_ 12 511) rfl rfl HT_.out ?_ ?_;rotate_left
   ·simp only [Act.put,sa_,sb_,sc_,i64_w,i32_w]
    rfl
   refine pun_ (a':=?_) 9 18 (bl_ 12 1023) rfl rfl HT_.out ?_ ?_;rotate_left
   ·simp only [Act.put,sa_,sb_,sc_,i64_w,i32_w]
    rfl
   refine pun_ (a':=?_) 10 19 (bl_ 12 2047) rfl rfl HT_.out ?_ ?_;rotate_left
   ·simp only [Act.put,sa_,sb_,sc_,i64_w,i32_w]
    rfl
   refine pu_ (v:=?_) (a':=?_) 11 20 (bl_ 12 4095) rfl rfl HT_.out ?_ ?_ ?_;rotate_left
   ·intro w'
    go_simp;with_reducible rfl
   rotate_left
   ·simp only [Act.put,sa_,sb_,sc_,i64_w,i32_w]
    rfl
   refine done_ (done_of HT_.out (by kernel_rfl)) ?_;try go_wp2
   go_meet
   case rel => exact ⟨_,(true),fr_,H',⟨om_⟩,⟨blk_mv BK103.out⟩,⟨bel_⟩⟩
 case rest =>
  clear HC4;(try clear c1);(try clear p2);(try clear c8);(try clear c9);(try clear c10);(try clear c10b0);(try clear c10b1);(try clear c12);(try clear c13);(try clear c16);(try clear hcz7_0);(try clear hcz7_1);(try clear hfz7_0);(try clear hfz7_1);obtain ⟨kq,x20_3,rfl,HA,HJ3,BK103,HB⟩:=hcut;cases kq with
  | zero => exact absurd HA.out (by simp [changeforgelaw5_KeyringBeginningsAreValid.j0])
  | succ kj3 =>
   have H:=HA.out;clear HA;simp only [changeforgelaw5_KeyringBeginningsAreValid.j0] at H;by_cases c22 : x20_3 = true
   ·subst c22
    have H1 : (none) = some r:=by rw [if_pos rfl] at H;exact H
    clear H;have H:=H1;clear H1;exact absurd H (by simp)
   ·replace c22:=Bool.eq_false_iff.mpr c22
    subst c22;have H1 : ((changeforgelaw5_in.f a1 0 (l0.length : Int)).bind fun t107 => (if t107 = true then (if (l0.length : Int) > 40 then (some true) else (if 0 ≤ a1 then (if a1 ≤ (l0.length : Int) then ((keyring_Validate.f (l0.take (a1 : Int).toNat)).bind fun bt112 => (if (bt112.1 == 0 && (bt112.2 == 0)) = true then (if t101 = 0 then (some true) else (if t102 ≥ a1 then (some true) else (if (bt112.1 == t101 && (bt112.2 == t102)) = true then (some (decide (t102 < a1))) else (none)))) else (if (bt112.1 == t101 && (bt112.2 == t102)) = true then (some (decide (t102 < a1))) else (none)))) else (none)) else (none))) else (some true))) = some r:=by rw [if_neg (show ¬ (false = true) by decide)] at H;exact H
    clear H;have H:=H1;clear H1;replace H:=Option.bind_eq_some_iff.mp H;obtain ⟨t107,A230,H⟩:=H;replace H : (if t107 = true then (if (l0.length : Int) > 40 then (some true) else (if 0 ≤ a1 then (if a1 ≤ (l0.length : Int) then ((keyring_Validate.f (l0.take (a1 : Int).toNat)).bind fun bt112 => (if (bt112.1 == 0 && (bt112.2 == 0)) = true then (if t101 = 0 then (some true) else (if t102 ≥ a1 then (some true) else (if (bt112.1 == t101 && (bt112.2 == t102)) = true then (some (decide (t102 < a1))) else (none)))) else (if (bt112.1 == t101 && (bt112.2 == t102)) = true then (some (decide (t102 < a1))) else (none)))) else (none)) else (none))) else (some true)) = some r:=H;have A23:=Aside0.mk A230;clear A230;by_cases c24 : t107 = true
    ·subst c24
     have H1 : (if (l0.length : Int) > 40 then (some true) else (if 0 ≤ a1 then (if a1 ≤ (l0.length : Int) then ((keyring_Validate.f (l0.take (a1 : Int).toNat)).bind fun bt112 => (if (bt112.1 == 0 && (bt112.2 == 0)) = true then (if t101 = 0 then (some true) else (if t102 ≥ a1 then (some true) else (if (bt112.1 == t101 && (bt112.2 == t102)) = true then (some (decide (t102 < a1))) else (none)))) else (if (bt112.1 == t101 && (bt112.2 == t102)) = true then (some (decide (t102 < a1))) else (none)))) else (none)) else (none))) = some r:=by rw [if_pos rfl] at H;exact H
     clear H;have H:=H1;clear H1;by_cases c25 : (l0.length : Int) > 40
     ·rw [if_pos c25] at H
      have c25b0 : decide (40 < (l0.length : Int)) = true:=decide_eq_true c25;have c25b1 : decide (40 < l0.length) = true:=decide_eq_true (by omega);clear c25;obtain rfl:=Option.some.inj H;go_wp2_with (first|((with_reducible refine gate_callee (f:=15) rfl ?_);refine goesL_ (some 24) rfl rfl Try.func15 (by kernel_rfl) rfl #[.int .i64 a1,.int .i64 0,.int .i64 (l0.length : Int)] rfl ln_ ?_;(with_reducible refine (changeforgelaw5_in.calls a1 0 (l0.length : Int) true _ A23.out).mono ?_);rintro e w' ⟨rfl,⟨nd,rfl⟩⟩;refine ⟨_,rfl,?_⟩));go_ret;exact ⟨by first|rfl|(simp [errW_none,errW_some] <;> rfl)|(simp [*,errW_none,errW_some] <;> rfl),bel_⟩
     ·rw [if_neg c25] at H
      have c25b0 : decide (40 < (l0.length : Int)) = false:=decide_eq_false c25;have c25b1 : decide (40 < l0.length) = false:=decide_eq_false (by omega);clear c25;by_cases c26 : 0 ≤ a1
      ·rw [if_pos c26] at H
       have c26b0:=eq_true c26;have c26b1 : decide (0 ≤ a1) = true:=decide_eq_true c26;clear c26;by_cases c27 : a1 ≤ (l0.length : Int)
       ·rw [if_pos c27] at H
        have c27b0:=eq_true c27;have c27b1 : decide (a1 ≤ (l0.length : Int)) = true:=decide_eq_true c27;clear c27;obtain ⟨y108,hy108⟩ : ∃ y_ : List (S45),y_ = (l0.take (a1 : Int).toNat):=⟨_,rfl⟩;replace H : ((keyring_Validate.f y108).bind fun bt112 => (if (bt112.1 == 0 && (bt112.2 == 0)) = true then (if t101 = 0 then (some true) else (if t102 ≥ a1 then (some true) else (if (bt112.1 == t101 && (bt112.2 == t102)) = true then (some (decide (t102 < a1))) else (none)))) else (if (bt112.1 == t101 && (bt112.2 == t102)) = true then (some (decide (t102 < a1))) else (none)))) = some r:=by first|(rw [hy108];with_reducible exact H)|(have H2_:=(Option.bind_some _ _).symm.trans H;rw [hy108];with_reducible exact H2_)|(have H2_:=(Option.bind_some _ _).symm.trans H;with_reducible exact H2_)|with_reducible exact H|(rw [hy108];exact H)|exact H
        have Ny108:=Aside0.mk hy108;clear hy108;replace H:=Option.bind_eq_some_iff.mp H;obtain ⟨⟨t112,t113⟩,A280,H⟩:=H;replace H : (if (t112 == 0 && (t113 == 0)) = true then (if t101 = 0 then (some true) else (if t102 ≥ a1 then (some true) else (if (t112 == t101 && (t113 == t102)) = true then (some (decide (t102 < a1))) else (none)))) else (if (t112 == t101 && (t113 == t102)) = true then (some (decide (t102 < a1))) else (none))) = some r:=H;have A28:=Aside0.mk A280;clear A280;by_cases c29 : (t112 == 0 && (t113 == 0)) = true
        ·rw [if_pos c29] at H
         have c29b0 : (t112 == 0 && (t113 == 0)) = true:=c29;(try (have c29b1 : decide (t112 = 0 && (t113 == 0)) = true:=by simpa using c29));(try (have c29b2 : (t112 == 0 && (t113 == 0)) = true:=by simpa using c29));clear c29;by_cases c30 : t101 = 0
         ·rw [if_pos c30] at H
          have c30b0 : (t101 == 0) = true:=beq_iff_eq.mpr c30;have c30b1 : (t101 != 0) = false:=bne_eq_false_iff_eq.mpr c30;clear c30;obtain rfl:=Option.some.inj H;go_wp2_with (first|((with_reducible refine gate_callee (f:=15) rfl ?_);refine goesL_ (some 24) rfl rfl Try.func15 (by kernel_rfl) rfl #[.int .i64 a1,.int .i64 0,.int .i64 (l0.length : Int)] rfl ln_ ?_;(with_reducible refine (changeforgelaw5_in.calls a1 0 (l0.length : Int) true _ A23.out).mono ?_);rintro e w' ⟨rfl,⟨nd,rfl⟩⟩;refine ⟨_,rfl,?_⟩;(try (rw [drewN_self wc];generalize hq_ : World.drewN wc _ = wc;have n0_ : Aside0 (wc.heap[gb103]? = some (.cells #[.int .i64 t101,.int .i64 t102] 24 (0,0))):=⟨by rw [← hq_];exact (blk_mv BK103.out)⟩;have n1_ : Aside0 (Below w.heap.size w wc):=⟨by rw [← hq_];exact bel_⟩;clear BK103 HB hq_;have BK103:=n0_;have HB:=n1_;clear n0_ n1_));have q31 : (a1 : Int) ≤ ((l0.length : Int) : Int):=of_decide_eq_true as_;obtain ⟨i031,hi031,_,hsz31,_⟩:=info_parts info45;have hroom31 : l0.length ≤ c0:=HC0.out;have hC31 : Kd.C k45 _ A0 l0.length l0:=HR0.out;have hcut31:=cut_to (P:=Try.prog) 22 45 .i64 Try.underlying22 hi031 A0 l0.length c0 a1 (of_decide_eq_true as_) q31 hroom31;have hr31:=Kd.C_take (m:=(a1 : Int).toNat) hC31 (by omega);have hy31 : y108.length = (a1 : Int).toNat:=(by rw [Ny108.out,List.length_take];omega);rw [← Ny108.out] at hr31;rw [← hy31] at hcut31;have HR111:=Aside0.mk hr31;have HC111:=Aside0.mk (show y108.length ≤ c0 from by omega);clear hr31 hC31 hroom31 hi031 hsz31;have KY31:=Aside0.mk hy31;clear hy31;replace q31:=eq_true q31)|((with_reducible refine gate_callee (f:=13) rfl ?_);refine goesL_ (some 34) rfl rfl Try.func13 (by kernel_rfl) rfl #[.slice A0 y108.length c0] rfl ln_ ?_;(with_reducible refine (keyring_Validate.calls _ _ y108 t112 t113 _ ?side1 ?side2 A28.out).mono ?_);(case side1 => first|exact (Kd.C_below HR111.out HB.out)|exact Kd.C_mv (Kd.C_below HR111.out HB.out));(case side2 => exact HC111.out);rintro e w32 ⟨rfl,hb⟩;refine ⟨_,rfl,?_⟩;replace BK103:=Aside0.mk (blk_below (blk_mv BK103.out) hb);replace HB:=Aside0.mk (below_step bel_ hb);(try clear hb);(try clear hb2);(try clear hk);(try clear hi))|((with_reducible refine gate_dst (N:=6) rfl ?_);(try (refine gate_guard (by rfl) ?_;dsimp only));refine box_event ?hg (N:=6) ?hd (cs:=#[.int .i64 0,.int .i64 0]) (t:=24) ?hr ?_;(case hd => rfl);(case hg => rfl);(case hr => first|(go_simp;done)|(go_simp;rfl));intro gb114 hg w33 hbox hb;have BK114:=Aside0.mk (hbox);have GW114:=Aside0.mk ((bs_ : w.heap.size ≤ gb114));have GE114:=Aside0.mk ((bs_ : w.heap.size ≤ gb114));replace HB:=Aside0.mk (below_step bel_ hb);have NB103_114:=Aside0.mk ((by rw [hg];exact Nat.ne_of_lt (blk_lt (g:=gb103) (o:=.cells #[.int .i64 t101,.int .i64 t102] 24 (0,0)) (blk_mv BK103.out)) : gb103 ≠ gb114));have NB114_103:=Aside0.mk ((by rw [hg];exact Nat.ne_of_gt (blk_lt (g:=gb103) (o:=.cells #[.int .i64 t101,.int .i64 t102] 24 (0,0)) (blk_mv BK103.out)) : gb114 ≠ gb103));replace BK103:=Aside0.mk (blk_below (blk_mv BK103.out) hb);clear hb hbox hg;have hnb34:=NB114_103.out;have hnc34:=NB103_114.out;have hcz35_0:=blk_c (v:=.int .i64 0) BK114.out 0 rfl;have hcz35_1:=blk_c (v:=.int .i64 0) BK114.out 1 rfl;have hfz35_0:=blk_frozen BK114.out 0;have hfz35_1:=blk_frozen BK114.out 1;have hcz36_0:=blk_c (v:=.int .i64 t101) BK103.out 0 rfl;have hcz36_1:=blk_c (v:=.int .i64 t102) BK103.out 1 rfl;have hfz36_0:=blk_frozen BK103.out 0;have hfz36_1:=blk_frozen BK103.out 1));go_ret;exact ⟨by first|rfl|(simp [errW_none,errW_some] <;> rfl)|(simp [*,errW_none,errW_some] <;> rfl),bel_⟩
         ·rw [if_neg c30] at H
          have c30b0 : (t101 == 0) = false:=beq_eq_false_iff_ne.mpr c30;have c30b1 : (t101 != 0) = true:=bne_iff_ne.mpr c30;by_cases c37 : t102 ≥ a1
          ·rw [if_pos c37] at H
           have c37b0 : decide (a1 ≤ t102) = true:=decide_eq_true c37;clear c37;obtain rfl:=Option.some.inj H;go_wp2_with (first|((with_reducible refine gate_callee (f:=15) rfl ?_);refine goesL_ (some 24) rfl rfl Try.func15 (by kernel_rfl) rfl #[.int .i64 a1,.int .i64 0,.int .i64 (l0.length : Int)] rfl ln_ ?_;(with_reducible refine (changeforgelaw5_in.calls a1 0 (l0.length : Int) true _ A23.out).mono ?_);rintro e w' ⟨rfl,⟨nd,rfl⟩⟩;refine ⟨_,rfl,?_⟩;(try (rw [drewN_self wc];generalize hq_ : World.drewN wc _ = wc;have n0_ : Aside0 (wc.heap[gb103]? = some (.cells #[.int .i64 t101,.int .i64 t102] 24 (0,0))):=⟨by rw [← hq_];exact (blk_mv BK103.out)⟩;have n1_ : Aside0 (Below w.heap.size w wc):=⟨by rw [← hq_];exact bel_⟩;clear BK103 HB hq_;have BK103:=n0_;have HB:=n1_;clear n0_ n1_));have q38 : (a1 : Int) ≤ ((l0.length : Int) : Int):=of_decide_eq_true as_;obtain ⟨i038,hi038,_,hsz38,_⟩:=info_parts info45;have hroom38 : l0.length ≤ c0:=HC0.out;have hC38 : Kd.C k45 _ A0 l0.length l0:=HR0.out;have hcut38:=cut_to (P:=Try.prog) 22 45 .i64 Try.underlying22 hi038 A0 l0.length c0 a1 (of_decide_eq_true as_) q38 hroom38;have hr38:=Kd.C_take (m:=(a1 : Int).toNat) hC38 (by omega);have hy38 : y108.length = (a1 : Int).toNat:=(by rw [Ny108.out,List.length_take];omega);rw [← Ny108.out] at hr38;rw [← hy38] at hcut38;have HR111:=Aside0.mk hr38;have HC111:=Aside0.mk (show y108.length ≤ c0 from by omega);clear hr38 hC38 hroom38 hi038 hsz38;have KY38:=Aside0.mk hy38;clear hy38;replace q38:=eq_true q38)|((with_reducible refine gate_callee (f:=13) rfl ?_);refine goesL_ (some 34) rfl rfl Try.func13 (by kernel_rfl) rfl #[.slice A0 y108.length c0] rfl ln_ ?_;(with_reducible refine (keyring_Validate.calls _ _ y108 t112 t113 _ ?side1 ?side2 A28.out).mono ?_);(case side1 => first|exact (Kd.C_below HR111.out HB.out)|exact Kd.C_mv (Kd.C_below HR111.out HB.out));(case side2 => exact HC111.out);rintro e w39 ⟨rfl,hb⟩;refine ⟨_,rfl,?_⟩;replace BK103:=Aside0.mk (blk_below (blk_mv BK103.out) hb);replace HB:=Aside0.mk (below_step bel_ hb);(try clear hb);(try clear hb2);(try clear hk);(try clear hi))|((with_reducible refine gate_dst (N:=6) rfl ?_);(try (refine gate_guard (by rfl) ?_;dsimp only));refine box_event ?hg (N:=6) ?hd (cs:=#[.int .i64 0,.int .i64 0]) (t:=24) ?hr ?_;(case hd => rfl);(case hg => rfl);(case hr => first|(go_simp;done)|(go_simp;rfl));intro gb114 hg w40 hbox hb;have BK114:=Aside0.mk (hbox);have GW114:=Aside0.mk ((bs_ : w.heap.size ≤ gb114));have GE114:=Aside0.mk ((bs_ : w.heap.size ≤ gb114));replace HB:=Aside0.mk (below_step bel_ hb);have NB103_114:=Aside0.mk ((by rw [hg];exact Nat.ne_of_lt (blk_lt (g:=gb103) (o:=.cells #[.int .i64 t101,.int .i64 t102] 24 (0,0)) (blk_mv BK103.out)) : gb103 ≠ gb114));have NB114_103:=Aside0.mk ((by rw [hg];exact Nat.ne_of_gt (blk_lt (g:=gb103) (o:=.cells #[.int .i64 t101,.int .i64 t102] 24 (0,0)) (blk_mv BK103.out)) : gb114 ≠ gb103));replace BK103:=Aside0.mk (blk_below (blk_mv BK103.out) hb);clear hb hbox hg;have hnb41:=NB114_103.out;have hnc41:=NB103_114.out;have hcz42_0:=blk_c (v:=.int .i64 0) BK114.out 0 rfl;have hcz42_1:=blk_c (v:=.int .i64 0) BK114.out 1 rfl;have hfz42_0:=blk_frozen BK114.out 0;have hfz42_1:=blk_frozen BK114.out 1;have hcz43_0:=blk_c (v:=.int .i64 t101) BK103.out 0 rfl;have hcz43_1:=blk_c (v:=.int .i64 t102) BK103.out 1 rfl;have hfz43_0:=blk_frozen BK103.out 0;have hfz43_1:=blk_frozen BK103.out 1));go_ret;exact ⟨by first|rfl|(simp [errW_none,errW_some] <;> rfl)|(simp [*,errW_none,errW_some] <;> rfl),bel_⟩
          ·rw [if_neg c37] at H
           have c37b0 : decide (a1 ≤ t102) = false:=decide_eq_false c37;clear c37;by_cases c44 : (t112 == t101 && (t113 == t102)) = true
           ·rw [if_pos c44] at H
            have c44b0 : (t112 == t101 && (t113 == t102)) = true:=c44;(try (have c44b1 : decide (t112 = t101 && (t113 == t102)) = true:=by simpa using c44));(try (have c44b2 : (t112 == t101 && (t113 == t102)) = true:=by simpa using c44));clear c44;obtain rfl:=Option.some.inj H;go_wp2_with (first|((with_reducible refine gate_callee (f:=15) rfl ?_);refine goesL_ (some 24) rfl rfl Try.func15 (by kernel_rfl) rfl #[.int .i64 a1,.int .i64 0,.int .i64 (l0.length : Int)] rfl ln_ ?_;(with_reducible refine (changeforgelaw5_in.calls a1 0 (l0.length : Int) true _ A23.out).mono ?_);rintro e w' ⟨rfl,⟨nd,rfl⟩⟩;refine ⟨_,rfl,?_⟩;(try (rw [drewN_self wc];generalize hq_ : World.drewN wc _ = wc;have n0_ : Aside0 (wc.heap[gb103]? = some (.cells #[.int .i64 t101,.int .i64 t102] 24 (0,0))):=⟨by rw [← hq_];exact (blk_mv BK103.out)⟩;have n1_ : Aside0 (Below w.heap.size w wc):=⟨by rw [← hq_];exact bel_⟩;clear BK103 HB hq_;have BK103:=n0_;have HB:=n1_;clear n0_ n1_));have q45 : (a1 : Int) ≤ ((l0.length : Int) : Int):=of_decide_eq_true as_;obtain ⟨i045,hi045,_,hsz45,_⟩:=info_parts info45;have hroom45 : l0.length ≤ c0:=HC0.out;have hC45 : Kd.C k45 _ A0 l0.length l0:=HR0.out;have hcut45:=cut_to (P:=Try.prog) 22 45 .i64 Try.underlying22 hi045 A0 l0.length c0 a1 (of_decide_eq_true as_) q45 hroom45;have hr45:=Kd.C_take (m:=(a1 : Int).toNat) hC45 (by omega);have hy45 : y108.length = (a1 : Int).toNat:=(by rw [Ny108.out,List.length_take];omega);rw [← Ny108.out] at hr45;rw [← hy45] at hcut45;have HR111:=Aside0.mk hr45;have HC111:=Aside0.mk (show y108.length ≤ c0 from by omega);clear hr45 hC45 hroom45 hi045 hsz45;have KY45:=Aside0.mk hy45;clear hy45;replace q45:=eq_true q45)|((with_reducible refine gate_callee (f:=13) rfl ?_);refine goesL_ (some 34) rfl rfl Try.func13 (by kernel_rfl) rfl #[.slice A0 y108.length c0] rfl ln_ ?_;(with_reducible refine (keyring_Validate.calls _ _ y108 t112 t113 _ ?side1 ?side2 A28.out).mono ?_);(case side1 => first|exact (Kd.C_below HR111.out HB.out)|exact Kd.C_mv (Kd.C_below HR111.out HB.out));(case side2 => exact HC111.out);rintro e w46 ⟨rfl,hb⟩;refine ⟨_,rfl,?_⟩;replace BK103:=Aside0.mk (blk_below (blk_mv BK103.out) hb);replace HB:=Aside0.mk (below_step bel_ hb);(try clear hb);(try clear hb2);(try clear hk);(try clear hi))|((with_reducible refine gate_dst (N:=6) rfl ?_);(try (refine gate_guard (by rfl) ?_;dsimp only));refine box_event ?hg (N:=6) ?hd (cs:=#[.int .i64 0,.int .i64 0]) (t:=24) ?hr ?_;(case hd => rfl);(case hg => rfl);(case hr => first|(go_simp;done)|(go_simp;rfl));intro gb114 hg w47 hbox hb;have BK114:=Aside0.mk (hbox);have GW114:=Aside0.mk ((bs_ : w.heap.size ≤ gb114));have GE114:=Aside0.mk ((bs_ : w.heap.size ≤ gb114));replace HB:=Aside0.mk (below_step bel_ hb);have NB103_114:=Aside0.mk ((by rw [hg];exact Nat.ne_of_lt (blk_lt (g:=gb103) (o:=.cells #[.int .i64 t101,.int .i64 t102] 24 (0,0)) (blk_mv BK103.out)) : gb103 ≠ gb114));have NB114_103:=Aside0.mk ((by rw [hg];exact Nat.ne_of_gt (blk_lt (g:=gb103) (o:=.cells #[.int .i64 t101,.int .i64 t102] 24 (0,0)) (blk_mv BK103.out)) : gb114 ≠ gb103));replace BK103:=Aside0.mk (blk_below (blk_mv BK103.out) hb);clear hb hbox hg;have hnb48:=NB114_103.out;have hnc48:=NB103_114.out;have hcz49_0:=blk_c (v:=.int .i64 0) BK114.out 0 rfl;have hcz49_1:=blk_c (v:=.int .i64 0) BK114.out 1 rfl;have hfz49_0:=blk_frozen BK114.out 0;have hfz49_1:=blk_frozen BK114.out 1;have hcz50_0:=blk_c (v:=.int .i64 t101) BK103.out 0 rfl;have hcz50_1:=blk_c (v:=.int .i64 t102) BK103.out 1 rfl;have hfz50_0:=blk_frozen BK103.out 0;have hfz50_1:=blk_frozen BK103.out 1));go_ret;exact ⟨by first|rfl|(simp [errW_none,errW_some] <;> rfl)|(simp [*,errW_none,errW_some] <;> rfl),bel_⟩
           ·rw [if_neg c44] at H
            exact absurd H (by simp)
        ·rw [if_neg c29] at H
         have c29b0 : (t112 == 0 && (t113 == 0)) = false:=by simpa using c29
         (try (have c29b1 : decide (t112 = 0 && (t113 == 0)) = false:=by simpa using c29));(try (have c29b2 : (t112 == 0 && (t113 == 0)) = false:=by simpa using c29));(try (have c29b3 : ¬ (t112 = 0 && (t113 == 0)):=by simpa using c29));clear c29;by_cases c51 : (t112 == t101 && (t113 == t102)) = true
         ·rw [if_pos c51] at H
          have c51b0 : (t112 == t101 && (t113 == t102)) = true:=c51;(try (have c51b1 : decide (t112 = t101 && (t113 == t102)) = true:=by simpa using c51));(try (have c51b2 : (t112 == t101 && (t113 == t102)) = true:=by simpa using c51));clear c51;obtain rfl:=Option.some.inj H;go_wp2_with (first|((with_reducible refine gate_callee (f:=15) rfl ?_);refine goesL_ (some 24) rfl rfl Try.func15 (by kernel_rfl) rfl #[.int .i64 a1,.int .i64 0,.int .i64 (l0.length : Int)] rfl ln_ ?_;(with_reducible refine (changeforgelaw5_in.calls a1 0 (l0.length : Int) true _ A23.out).mono ?_);rintro e w' ⟨rfl,⟨nd,rfl⟩⟩;refine ⟨_,rfl,?_⟩;(try (rw [drewN_self wc];generalize hq_ : World.drewN wc _ = wc;have n0_ : Aside0 (wc.heap[gb103]? = some (.cells #[.int .i64 t101,.int .i64 t102] 24 (0,0))):=⟨by rw [← hq_];exact (blk_mv BK103.out)⟩;have n1_ : Aside0 (Below w.heap.size w wc):=⟨by rw [← hq_];exact bel_⟩;clear BK103 HB hq_;have BK103:=n0_;have HB:=n1_;clear n0_ n1_));have q52 : (a1 : Int) ≤ ((l0.length : Int) : Int):=of_decide_eq_true as_;obtain ⟨i052,hi052,_,hsz52,_⟩:=info_parts info45;have hroom52 : l0.length ≤ c0:=HC0.out;have hC52 : Kd.C k45 _ A0 l0.length l0:=HR0.out;have hcut52:=cut_to (P:=Try.prog) 22 45 .i64 Try.underlying22 hi052 A0 l0.length c0 a1 (of_decide_eq_true as_) q52 hroom52;have hr52:=Kd.C_take (m:=(a1 : Int).toNat) hC52 (by omega);have hy52 : y108.length = (a1 : Int).toNat:=(by rw [Ny108.out,List.length_take];omega);rw [← Ny108.out] at hr52;rw [← hy52] at hcut52;have HR111:=Aside0.mk hr52;have HC111:=Aside0.mk (show y108.length ≤ c0 from by omega);clear hr52 hC52 hroom52 hi052 hsz52;have KY52:=Aside0.mk hy52;clear hy52;replace q52:=eq_true q52)|((with_reducible refine gate_callee (f:=13) rfl ?_);refine goesL_ (some 34) rfl rfl Try.func13 (by kernel_rfl) rfl #[.slice A0 y108.length c0] rfl ln_ ?_;(with_reducible refine (keyring_Validate.calls _ _ y108 t112 t113 _ ?side1 ?side2 A28.out).mono ?_);(case side1 => first|exact (Kd.C_below HR111.out HB.out)|exact Kd.C_mv (Kd.C_below HR111.out HB.out));(case side2 => exact HC111.out);rintro e w53 ⟨rfl,hb⟩;refine ⟨_,rfl,?_⟩;replace BK103:=Aside0.mk (blk_below (blk_mv BK103.out) hb);replace HB:=Aside0.mk (below_step bel_ hb);(try clear hb);(try clear hb2);(try clear hk);(try clear hi))|((with_reducible refine gate_dst (N:=6) rfl ?_);(try (refine gate_guard (by rfl) ?_;dsimp only));refine box_event ?hg (N:=6) ?hd (cs:=#[.int .i64 0,.int .i64 0]) (t:=24) ?hr ?_;(case hd => rfl);(case hg => rfl);(case hr => first|(go_simp;done)|(go_simp;rfl));intro gb114 hg w54 hbox hb;have BK114:=Aside0.mk (hbox);have GW114:=Aside0.mk ((bs_ : w.heap.size ≤ gb114));have GE114:=Aside0.mk ((bs_ : w.heap.size ≤ gb114));replace HB:=Aside0.mk (below_step bel_ hb);have NB103_114:=Aside0.mk ((by rw [hg];exact Nat.ne_of_lt (blk_lt (g:=gb103) (o:=.cells #[.int .i64 t101,.int .i64 t102] 24 (0,0)) (blk_mv BK103.out)) : gb103 ≠ gb114));have NB114_103:=Aside0.mk ((by rw [hg];exact Nat.ne_of_gt (blk_lt (g:=gb103) (o:=.cells #[.int .i64 t101,.int .i64 t102] 24 (0,0)) (blk_mv BK103.out)) : gb114 ≠ gb103));replace BK103:=Aside0.mk (blk_below (blk_mv BK103.out) hb);clear hb hbox hg;have hnb55:=NB114_103.out;have hnc55:=NB103_114.out;have hcz56_0:=blk_c (v:=.int .i64 0) BK114.out 0 rfl;have hcz56_1:=blk_c (v:=.int .i64 0) BK114.out 1 rfl;have hfz56_0:=blk_frozen BK114.out 0;have hfz56_1:=blk_frozen BK114.out 1;have hcz57_0:=blk_c (v:=.int .i64 t101) BK103.out 0 rfl;have hcz57_1:=blk_c (v:=.int .i64 t102) BK103.out 1 rfl;have hfz57_0:=blk_frozen BK103.out 0;have hfz57_1:=blk_frozen BK103.out 1));go_ret;exact ⟨by first|rfl|(simp [errW_none,errW_some] <;> rfl)|(simp [*,errW_none,errW_some] <;> rfl),bel_⟩
         ·rw [if_neg c51] at H
          exact absurd H (by simp)
       ·rw [if_neg c27] at H
        exact absurd H (by simp)
      ·rw [if_neg c26] at H
       exact absurd H (by simp)
    ·replace c24:=Bool.eq_false_iff.mpr c24
     subst c24;have H1 : (some true) = some r:=by rw [if_neg (show ¬ (false = true) by decide)] at H;exact H
     clear H;have H:=H1;clear H1;obtain rfl:=Option.some.inj H;go_wp2_with (first|((with_reducible refine gate_callee (f:=15) rfl ?_);refine goesL_ (some 24) rfl rfl Try.func15 (by kernel_rfl) rfl #[.int .i64 a1,.int .i64 0,.int .i64 (l0.length : Int)] rfl ln_ ?_;(with_reducible refine (changeforgelaw5_in.calls a1 0 (l0.length : Int) false _ A23.out).mono ?_);rintro e w' ⟨rfl,⟨nd,rfl⟩⟩;refine ⟨_,rfl,?_⟩));go_ret;exact ⟨by first|rfl|(simp [errW_none,errW_some] <;> rfl)|(simp [*,errW_none,errW_some] <;> rfl),bel_⟩

end Go.Proofs.Ytnkonhplfldlmaa.Fn
