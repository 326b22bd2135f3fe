/- A function of the program as a plain Lean function, and the proof that the call comes to just what it says (written by wip/tools/xprint.py for this claim). Condition: the plain function has an answer. -/
import Derived.Test.YtmcpcdnnnnhogaaFn0
import Derived.Test.YtmcpcdnnnnhogaaFf10
import Derived.Test.YtmcpcdnnnnhogaaFf11
import Derived.Test.YtmcpcdnnnnhogaaFf12
import Derived.Test.YtmcpcdnnnnhogaaFf16
import Derived.Test.YtmcpcdnnnnhogaaFf23
import Derived.Test.YtmcpcdnnnnhogaaFs0
import Derived.Test.YtmcpcdnnnnhogaaWA
import Derived.Test.YtmcpcdnnnnhogaaTight
namespace Go.Proofs.Ytmcpcdnnnnhogaa.Fn
open Go.RowKit Go.Proofs.YtmcpcdnnnnhogaaW.PrintWords Go.Proofs.YtmcpcdnnnnhogaaW.PrintLast Go.Proofs.YtmcpcdnnnnhogaaW.PrintMore
attribute [local go_sem] max2_int min2_int max_two min_two max_three min_three max_four min_four   -- for this text's walks alone
set_option linter.unusedVariables false
set_option linter.unusedSimpArgs false

/-! ### changeforgelaw5_TranslogProofsVerify: function 6 -/
def changeforgelaw5_TranslogProofsVerify.j0 : Nat → List Int → Int → Bool → Option (Bool)
 | 0,_,_,_ => none
 | k + 1,x0,x1,x24 => if x24 = true then (some true) else ((translog_Root.f k x0).bind fun bt105 => ((translog_Prove.f k x0 x1).bind fun bt109 => (if 0 ≤ x1 then (if x1 < (x0.length : Int) then ((translog_Verify.f k bt105.1 (x0.length : Int) x1 (rd x0 x1) bt109.1).bind fun bt116 => (if bt105.2.1 = 0 then (if bt109.2.1 = 0 then (if bt116.2.1 = 0 then (if bt116.1 = true then (some (decide ((bt109.1.length : Int) ≤ 6))) else (none)) else (none)) else (none)) else (none))) else (none)) else (none))))
def changeforgelaw5_TranslogProofsVerify.f (k : Nat) (l0 : List Int) (a1 : Int) : Option (Bool):=(changeforgelaw5_logs.f k).bind fun t101 => (if t101 = true then ((changeforgeref5_LeavesFault.f k l0).bind fun bt102 => (if bt102.1 = 0 then ((changeforgelaw5_in.f a1 0 (wrap64 ((l0.length : Int) - 1))).bind fun t104 => (changeforgelaw5_TranslogProofsVerify.j0 k l0 a1 (!t104))) else (changeforgelaw5_TranslogProofsVerify.j0 k l0 a1 true))) else (none))
theorem changeforgelaw5_TranslogProofsVerify.mono_l : ∀ k,(∀ y0 y1 y2,LeO (changeforgelaw5_TranslogProofsVerify.j0 k y0 y1 y2) (changeforgelaw5_TranslogProofsVerify.j0 (k + 1) y0 y1 y2))
 | 0 => fun _ _ _ r h => by simp [changeforgelaw5_TranslogProofsVerify.j0] at h
 | k + 1 => by
  have ih0:=changeforgelaw5_TranslogProofsVerify.mono_l k
  ·intro y0 y1 y2
   unfold changeforgelaw5_TranslogProofsVerify.j0;repeat' first
   | (with_reducible exact ih0 _ _ _)
   | (with_reducible exact changeforgelaw5_logs.mono _)
   | (with_reducible exact changeforgeref5_LeavesFault.mono _ _)
   | (with_reducible exact translog_Prove.mono _ _ _)
   | (with_reducible exact translog_Root.mono _ _)
   | (with_reducible exact translog_Verify.mono _ _ _ _ _ _)
   | (with_reducible exact LeO.refl _)
   | (with_reducible exact LeO.none _)
   | (with_reducible refine LeO.ite ?_ ?_)
   | (with_reducible refine LeO.bind ?_ (fun _ => ?_))
   | exact ih0 _ _ _
   | exact changeforgelaw5_logs.mono _
   | exact changeforgeref5_LeavesFault.mono _ _
   | exact translog_Prove.mono _ _ _
   | exact translog_Root.mono _ _
   | exact translog_Verify.mono _ _ _ _ _ _
   | exact LeO.none _
   | refine LeO.ite ?_ ?_
   | refine LeO.bind ?_ (fun _ => ?_)
theorem changeforgelaw5_TranslogProofsVerify.mono : ∀ a0 a1 k,LeO (changeforgelaw5_TranslogProofsVerify.f k a0 a1) (changeforgelaw5_TranslogProofsVerify.f (k + 1) a0 a1):=by
 intro a0 a1 k;have ih0:=changeforgelaw5_TranslogProofsVerify.mono_l k;unfold changeforgelaw5_TranslogProofsVerify.f
 repeat' first
   | (with_reducible exact ih0 _ _ _)
   | (with_reducible exact changeforgelaw5_logs.mono _)
   | (with_reducible exact changeforgeref5_LeavesFault.mono _ _)
   | (with_reducible exact translog_Prove.mono _ _ _)
   | (with_reducible exact translog_Root.mono _ _)
   | (with_reducible exact translog_Verify.mono _ _ _ _ _ _)
   | (with_reducible exact LeO.refl _)
   | (with_reducible exact LeO.none _)
   | (with_reducible refine LeO.ite ?_ ?_)
   | (with_reducible refine LeO.bind ?_ (fun _ => ?_))
   | exact ih0 _ _ _
   | exact changeforgelaw5_logs.mono _
   | exact changeforgeref5_LeavesFault.mono _ _
   | exact translog_Prove.mono _ _ _
   | exact translog_Root.mono _ _
   | exact translog_Verify.mono _ _ _ _ _ _
   | exact LeO.none _
   | refine LeO.ite ?_ ?_
   | refine LeO.bind ?_ (fun _ => ?_)
set_option maxHeartbeats 8000000 in
set_option maxRecDepth 100000 in
theorem changeforgelaw5_TranslogProofsVerify.calls (k : Nat) (A0 : Option Addr) (c0 : Nat) (l0 : List Int) (a1 : Int) (r : Bool) (w : World) (hr0 : Kd.C (Kd.int .i64) w A0 l0.length l0) (hc0 : l0.length ≤ c0) (h : changeforgelaw5_TranslogProofsVerify.f k l0 a1 = some r) :
  Calls Try.prog 6 #[.slice A0 l0.length c0,.int .i64 a1] w fun e w' => e = .returned (.bool r) ∧ Below w.heap.size w w':=by
 have hu24:=Try.underlying24;have hfd24_0 : ∀ (y0_ y1_ : Value) (w : World),(Instr.field 24 (.agg #[y0_,y1_]) 0).run Try.prog w = .ok (y0_) w:=fun _ _ _ => by kernel_rfl
 have HR0:=Aside0.mk hr0;have HC0:=Aside0.mk hc0;clear hr0 hc0;have HB:=Aside0.mk (Below.refl w.heap.size w);have H : ((changeforgelaw5_logs.f k).bind fun t101 => (if t101 = true then ((changeforgeref5_LeavesFault.f k l0).bind fun bt102 => (if bt102.1 = 0 then ((changeforgelaw5_in.f a1 0 (wrap64 ((l0.length : Int) - 1))).bind fun t104 => (changeforgelaw5_TranslogProofsVerify.j0 k l0 a1 (!t104))) else (changeforgelaw5_TranslogProofsVerify.j0 k l0 a1 true))) else (none))) = some r:=h;clear h;replace H:=Option.bind_eq_some_iff.mp H;obtain ⟨t101,A30,H⟩:=H;replace H : (if t101 = true then ((changeforgeref5_LeavesFault.f k l0).bind fun bt102 => (if bt102.1 = 0 then ((changeforgelaw5_in.f a1 0 (wrap64 ((l0.length : Int) - 1))).bind fun t104 => (changeforgelaw5_TranslogProofsVerify.j0 k l0 a1 (!t104))) else (changeforgelaw5_TranslogProofsVerify.j0 k l0 a1 true))) else (none)) = some r:=H;have A3:=Aside0.mk A30;clear A30;by_cases c4 : t101 = true
 ·subst c4
  have H1 : ((changeforgeref5_LeavesFault.f k l0).bind fun bt102 => (if bt102.1 = 0 then ((changeforgelaw5_in.f a1 0 (wrap64 ((l0.length : Int) - 1))).bind fun t104 => (changeforgelaw5_TranslogProofsVerify.j0 k l0 a1 (!t104))) else (changeforgelaw5_TranslogProofsVerify.j0 k l0 a1 true))) = some r:=by rw [if_pos rfl] at H;exact H
  clear H;have H:=H1;clear H1;have HC5:=Aside0.mk H;clear H;go_enter Try.func6,Try.ntmps6;go_upto_region 3 with (first|((with_reducible refine gate_callee (f:=12) rfl ?_);refine goesL_ (some 11) rfl rfl Try.func12 (by kernel_rfl) rfl #[] rfl ln_ ?_;(with_reducible refine (changeforgelaw5_logs.calls k  true _ A3.out).mono ?_);rintro e w6 ⟨rfl,hb⟩;refine ⟨_,rfl,?_⟩;replace HB:=Aside0.mk (below_step bel_ hb);(try clear hb);(try clear hb2);(try clear hk);(try clear hi)));(try simp only [Act.put,sa_,sb_,sc_]);go_cut [24] (fun v24 wc => ∃ (kq : Nat) (x24_4 : Bool),v24 = .bool x24_4 ∧ Aside0 (changeforgelaw5_TranslogProofsVerify.j0 kq l0 a1 x24_4 = some r) ∧ Aside0 (kq ≤ k) ∧ Aside0 (Below w.heap.size w wc))
  case first =>
   have H:=HC5.out;clear HC5;replace H:=Option.bind_eq_some_iff.mp H;obtain ⟨⟨t102,t103⟩,A70,H⟩:=H;replace H : (if t102 = 0 then ((changeforgelaw5_in.f a1 0 (wrap64 ((l0.length : Int) - 1))).bind fun t104 => (changeforgelaw5_TranslogProofsVerify.j0 k l0 a1 (!t104))) else (changeforgelaw5_TranslogProofsVerify.j0 k l0 a1 true)) = some r:=H;have A7:=Aside0.mk A70;clear A70;by_cases c8 : t102 = 0
   ·rw [if_pos c8] at H
    have c8b0 : (t102 == 0) = true:=beq_iff_eq.mpr c8;have c8b1 : (t102 != 0) = false:=bne_eq_false_iff_eq.mpr c8;clear c8;(first|rw [c8b0]|(simp only [i64_w,i32_w];rw [c8b0])|skip);replace H:=Option.bind_eq_some_iff.mp H;obtain ⟨t104,A90,H⟩:=H;replace H : (changeforgelaw5_TranslogProofsVerify.j0 k l0 a1 (!t104)) = some r:=H;have A9:=Aside0.mk A90;clear A90;have H':=Aside0.mk H;clear H;go_wp2_with (first|((with_reducible refine gate_callee (f:=10) rfl ?_);refine goesL_ (some 14) rfl rfl Try.func10 (by kernel_rfl) rfl #[.slice A0 l0.length c0] rfl ln_ ?_;(with_reducible refine (changeforgeref5_LeavesFault.calls k _ _ l0 t102 t103 _ ?side1 ?side2 A7.out).mono ?_);(case side1 => first|exact (Kd.C_below HR0.out HB.out)|exact Kd.C_mv (Kd.C_below HR0.out HB.out));(case side2 => exact HC0.out);rintro e w10 ⟨rfl,hb⟩;refine ⟨_,rfl,?_⟩;replace HB:=Aside0.mk (below_step bel_ hb);(try clear hb);(try clear hb2);(try clear hk);(try clear hi))|(go_at_call 14;(with_reducible refine (changeforgelaw5_in.calls a1 0 (wrap64 ((l0.length : Int) - 1)) t104 _ A9.out).mono ?_);rintro e w' ⟨rfl,⟨nd,rfl⟩⟩));go_meet
    case rel => exact ⟨_,(!t104),fr_,H',⟨om_⟩,⟨bel_⟩⟩
   ·rw [if_neg c8] at H
    have c8b0 : (t102 == 0) = false:=beq_eq_false_iff_ne.mpr c8;have c8b1 : (t102 != 0) = true:=bne_iff_ne.mpr c8;(first|rw [c8b0]|(simp only [i64_w,i32_w];rw [c8b0])|skip);have H':=Aside0.mk H;clear H;go_wp2_with (first|((with_reducible refine gate_callee (f:=10) rfl ?_);refine goesL_ (some 14) rfl rfl Try.func10 (by kernel_rfl) rfl #[.slice A0 l0.length c0] rfl ln_ ?_;(with_reducible refine (changeforgeref5_LeavesFault.calls k _ _ l0 t102 t103 _ ?side1 ?side2 A7.out).mono ?_);(case side1 => first|exact (Kd.C_below HR0.out HB.out)|exact Kd.C_mv (Kd.C_below HR0.out HB.out));(case side2 => exact HC0.out);rintro e w11 ⟨rfl,hb⟩;refine ⟨_,rfl,?_⟩;replace HB:=Aside0.mk (below_step bel_ hb);(try clear hb);(try clear hb2);(try clear hk);(try clear hi)));go_meet
    case rel => exact ⟨_,(true),fr_,H',⟨om_⟩,⟨bel_⟩⟩
  case rest =>
   clear HC5;(try clear c1);(try clear p2);(try clear c4);(try clear c6);(try clear p6);(try clear c8);(try clear c8b0);(try clear c8b1);(try clear c10);obtain ⟨kq,x24_4,rfl,HA,HJ4,HB⟩:=hcut;cases kq with
   | zero => exact absurd HA.out (by simp [changeforgelaw5_TranslogProofsVerify.j0])
   | succ kj4 =>
    have H:=HA.out;clear HA;simp only [changeforgelaw5_TranslogProofsVerify.j0] at H;by_cases c12 : x24_4 = true
    ·subst c12
     have H1 : (some true) = some r:=by rw [if_pos rfl] at H;exact H
     clear H;have H:=H1;clear H1;obtain rfl:=Option.some.inj H;go_wp2;go_ret;exact ⟨by first|rfl|(simp [errW_none,errW_some] <;> rfl)|(simp [*,errW_none,errW_some] <;> rfl),bel_⟩
    ·replace c12:=Bool.eq_false_iff.mpr c12
     subst c12;have H1 : ((translog_Root.f kj4 l0).bind fun bt105 => ((translog_Prove.f kj4 l0 a1).bind fun bt109 => (if 0 ≤ a1 then (if a1 < (l0.length : Int) then ((translog_Verify.f kj4 bt105.1 (l0.length : Int) a1 (rd l0 a1) bt109.1).bind fun bt116 => (if bt105.2.1 = 0 then (if bt109.2.1 = 0 then (if bt116.2.1 = 0 then (if bt116.1 = true then (some (decide ((bt109.1.length : Int) ≤ 6))) else (none)) else (none)) else (none)) else (none))) else (none)) else (none)))) = some r:=by rw [if_neg (show ¬ (false = true) by decide)] at H;exact H
     clear H;have H:=H1;clear H1;replace H:=Option.bind_eq_some_iff.mp H;obtain ⟨⟨t105,t106,t107⟩,A130,H⟩:=H;replace H : ((translog_Prove.f kj4 l0 a1).bind fun bt109 => (if 0 ≤ a1 then (if a1 < (l0.length : Int) then ((translog_Verify.f kj4 t105 (l0.length : Int) a1 (rd l0 a1) bt109.1).bind fun bt116 => (if t106 = 0 then (if bt109.2.1 = 0 then (if bt116.2.1 = 0 then (if bt116.1 = true then (some (decide ((bt109.1.length : Int) ≤ 6))) else (none)) else (none)) else (none)) else (none))) else (none)) else (none))) = some r:=H;have A13:=Aside0.mk A130;clear A130;replace H:=Option.bind_eq_some_iff.mp H;obtain ⟨⟨t109,t112,t113⟩,A140,H⟩:=H;replace H : (if 0 ≤ a1 then (if a1 < (l0.length : Int) then ((translog_Verify.f kj4 t105 (l0.length : Int) a1 (rd l0 a1) t109).bind fun bt116 => (if t106 = 0 then (if t112 = 0 then (if bt116.2.1 = 0 then (if bt116.1 = true then (some (decide ((t109.length : Int) ≤ 6))) else (none)) else (none)) else (none)) else (none))) else (none)) else (none)) = some r:=H;have A14:=Aside0.mk A140;clear A140;by_cases c15 : 0 ≤ a1
     ·rw [if_pos c15] at H
      have c15b0 : decide (0 ≤ a1) = true:=decide_eq_true c15;clear c15;by_cases c16 : a1 < (l0.length : Int)
      ·rw [if_pos c16] at H
       have c16b0 : decide (a1 < (l0.length : Int)) = true:=decide_eq_true c16;clear c16;replace H:=Option.bind_eq_some_iff.mp H;obtain ⟨⟨t116,t117,t118⟩,A170,H⟩:=H;replace H : (if t106 = 0 then (if t112 = 0 then (if t117 = 0 then (if t116 = true then (some (decide ((t109.length : Int) ≤ 6))) else (none)) else (none)) else (none)) else (none)) = some r:=H;have A17:=Aside0.mk A170;clear A170;by_cases c18 : t106 = 0
       ·rw [if_pos c18] at H
        have c18b0 : (t106 == 0) = true:=beq_iff_eq.mpr c18;have c18b1 : (t106 != 0) = false:=bne_eq_false_iff_eq.mpr c18;clear c18;by_cases c19 : t112 = 0
        ·rw [if_pos c19] at H
         have c19b0 : (t112 == 0) = true:=beq_iff_eq.mpr c19;have c19b1 : (t112 != 0) = false:=bne_eq_false_iff_eq.mpr c19;clear c19;by_cases c20 : t117 = 0
         ·rw [if_pos c20] at H
          have c20b0 : (t117 == 0) = true:=beq_iff_eq.mpr c20;have c20b1 : (t117 != 0) = false:=bne_eq_false_iff_eq.mpr c20;clear c20;by_cases c21 : t116 = true
          ·subst c21
           have H1 : (some (decide ((t109.length : Int) ≤ 6))) = some r:=by rw [if_pos rfl] at H;exact H
           clear H;have H:=H1;clear H1;obtain rfl:=Option.some.inj H;go_wp2_with (first|((with_reducible refine gate_callee (f:=11) rfl ?_);refine goesL_ (some 27) rfl rfl Try.func11 (by kernel_rfl) rfl #[.slice A0 l0.length c0] rfl ln_ ?_;(with_reducible refine (translog_Root.calls kj4 _ _ l0 t105 t106 t107 _ ?side1 ?side2 A13.out).mono ?_);(case side1 => first|exact (Kd.C_below HR0.out HB.out)|exact Kd.C_mv (Kd.C_below HR0.out HB.out));(case side2 => exact HC0.out);rintro e w22 ⟨rfl,hb⟩;refine ⟨_,rfl,?_⟩;replace HB:=Aside0.mk (below_step bel_ hb);(try clear hb);(try clear hb2);(try clear hk);(try clear hi))|((with_reducible refine gate_dst (N:=6) rfl ?_);(try (refine gate_guard (by rfl) ?_;dsimp only));refine box_event ?hg (N:=6) ?hd (cs:=#[.int .i64 0,.int .i64 0]) (t:=24) ?hr ?_;(case hd => rfl);(case hg => rfl);(case hr => first|(go_simp;done)|(go_simp;rfl));intro gb108 hg w23 hbox hb;have BK108:=Aside0.mk (hbox);have GW108:=Aside0.mk ((bs_ : w.heap.size ≤ gb108));have GE108:=Aside0.mk ((bs_ : w.heap.size ≤ gb108));replace HB:=Aside0.mk (below_step bel_ hb);clear hb hbox hg;have hcz24_0:=blk_c (v:=.int .i64 0) BK108.out 0 rfl;have hcz24_1:=blk_c (v:=.int .i64 0) BK108.out 1 rfl;have hfz24_0:=blk_frozen BK108.out 0;have hfz24_1:=blk_frozen BK108.out 1)|((with_reducible refine gate_callee (f:=16) rfl ?_);refine goesL_ (some 33) rfl rfl Try.func16 (by kernel_rfl) rfl #[.slice A0 l0.length c0,.int .i64 a1] rfl ln_ ?_;(with_reducible refine (translog_Prove.calls kj4 _ _ l0 a1 t109 t112 t113 _ ?side1 ?side2 A14.out).mono ?_);(case side1 => exact Kd.C_below HR0.out bel_);(case side2 => exact HC0.out);rintro e w25 ⟨v110,rfl,ho0,hb⟩;refine ⟨_,rfl,?_⟩;have HO111:=Aside0.mk (Kd.R_lower ho0 (below_size bel_));replace BK108:=Aside0.mk (blk_below (g:=gb108) (o:=.cells #[.int .i64 t106,.int .i64 t107] 24 (0,0)) (by refine blk_mv ?_;refine blk_put (cs:=#[.int .i64 t106,.int .i64 0]) ?_ 1 _ rfl;refine blk_mv ?_;refine blk_put (cs:=#[.int .i64 0,.int .i64 0]) ?_ 0 _ rfl;refine blk_mv ?_;exact BK108.out) hb);replace HB:=Aside0.mk (below_step bel_ hb);(try clear hb);(try clear hb2);(try clear hk);(try clear hi);(try clear ho0))|((with_reducible refine gate_dst (N:=8) rfl ?_);(try (refine gate_guard (by rfl) ?_;dsimp only));refine box_event ?hg (N:=8) ?hd (cs:=#[.int .i64 0,.int .i64 0]) (t:=24) ?hr ?_;(case hd => rfl);(case hg => rfl);(case hr => first|(go_simp;done)|(go_simp;rfl));intro gb114 hg w26 hbox hb;replace HO111:=Aside0.mk (Kd.R_below (Kd.R_mv HO111.out) hb);have BK114:=Aside0.mk (hbox);have GW114:=Aside0.mk ((bs_ : w.heap.size ≤ gb114));have GE114:=Aside0.mk ((bs_ : w.heap.size ≤ gb114));replace HB:=Aside0.mk (below_step bel_ hb);have NB108_114:=Aside0.mk ((by rw [hg];exact Nat.ne_of_lt (blk_lt (g:=gb108) (o:=.cells #[.int .i64 t106,.int .i64 t107] 24 (0,0)) (blk_mv BK108.out)) : gb108 ≠ gb114));have NB114_108:=Aside0.mk ((by rw [hg];exact Nat.ne_of_gt (blk_lt (g:=gb108) (o:=.cells #[.int .i64 t106,.int .i64 t107] 24 (0,0)) (blk_mv BK108.out)) : gb114 ≠ gb108));replace BK108:=Aside0.mk (blk_below (blk_mv BK108.out) hb);clear hb hbox hg;have hnb27:=NB114_108.out;have hnc27:=NB108_114.out;have hcz28_0:=blk_c (v:=.int .i64 0) BK114.out 0 rfl;have hcz28_1:=blk_c (v:=.int .i64 0) BK114.out 1 rfl;have hfz28_0:=blk_frozen BK114.out 0;have hfz28_1:=blk_frozen BK114.out 1;have p115 : 0 ≤ (a1 : Int):=of_decide_eq_true as_;have q115 : a1 < (l0.length : Int):=of_decide_eq_true as_;obtain ⟨ad115,e115,hx115_0⟩:=Kd.at_int HR0.out a1 p115 q115;cases e115;have hn115_0 : ad115.block ≠ gb114:=Nat.ne_of_lt (Nat.lt_of_lt_of_le (by have:=World.block_lt_of_cell? _ _ hx115_0;first|rwa [add_block] at this|exact this) GW114.out);have hn115_1 : ad115.block ≠ gb114:=Nat.ne_of_lt (Nat.lt_of_lt_of_le (by have:=World.block_lt_of_cell? _ _ hx115_0;first|rwa [add_block] at this|exact this) GW114.out);replace hx115_0:=(HB.out.cell (World.block_lt_of_cell? w _ hx115_0)).trans hx115_0;replace hx115_0:=(cell_far (p:=⟨gb114,0,none⟩) (by first|(rw [add_block];exact hn115_0)|(show (Addr.add _ _).block ≠ _;rw [add_block];exact hn115_0)|exact hn115_0) (.int .i64 t112)).trans hx115_0;replace hx115_0:=(cell_far (p:=⟨gb114,1,none⟩) (by first|(rw [add_block];exact hn115_1)|(show (Addr.add _ _).block ≠ _;rw [add_block];exact hn115_1)|exact hn115_1) (.int .i64 t113)).trans hx115_0;clear hn115_0;clear hn115_1;replace p115:=eq_true p115;replace q115:=eq_true q115;obtain ⟨Ao29,co29,eo29⟩:=Kd.R_slice HO111.out;subst eo29)|((with_reducible refine gate_callee (f:=23) rfl ?_);refine goesL_ (some 46) rfl rfl Try.func23 (by kernel_rfl) rfl #[.int .i64 t105,.int .i64 (l0.length : Int),.int .i64 a1,.int .i64 (rd l0 a1),.slice Ao29 t109.length co29] rfl ln_ ?_;(with_reducible refine (translog_Verify.calls kj4 t105 (l0.length : Int) a1 (rd l0 a1) _ _ t109 true t117 t118 _ ?side1 ?side2 A17.out).mono ?_);(case side1 => refine (Kd.R_reads' (e:=3) (base:=w.heap.size) (ok:=fun k_ => True) (n:=t109.length) (c:=co29) ?_).2.2;exact (by (with_reducible repeat (first|apply Kd.R_alloc|apply Kd.R_drewN|apply Kd.R_drew));exact (Kd.R_mono (Kd.R_far (p:=⟨gb114,1,none⟩) (Kd.R_far (p:=⟨gb114,0,none⟩) (Kd.R_types HO111.out BK114.out (by decide)) (fun _ hk => hk.2) (.int .i64 t112)) (fun _ hk => hk.2) (.int .i64 t113)) (fun _ h_ => h_.1))));(case side2 => exact (Kd.R_reads' HO111.out).2.1);rintro e w30 ⟨rfl,hb⟩;refine ⟨_,rfl,?_⟩;replace HO111:=Aside0.mk (Kd.R_below (by (with_reducible repeat (first|apply Kd.R_alloc|apply Kd.R_drewN|apply Kd.R_drew));exact (Kd.R_mono (Kd.R_far (p:=⟨gb114,1,none⟩) (Kd.R_far (p:=⟨gb114,0,none⟩) (Kd.R_types HO111.out BK114.out (by decide)) (fun _ hk => hk.2) (.int .i64 t112)) (fun _ hk => hk.2) (.int .i64 t113)) (fun _ h_ => h_.1))) hb);replace BK108:=Aside0.mk (blk_below (g:=gb108) (o:=.cells #[.int .i64 t106,.int .i64 t107] 24 (0,0)) (by refine blk_mv ?_;refine blk_far ?_ NB108_114.out _;refine blk_mv ?_;refine blk_far ?_ NB108_114.out _;refine blk_mv ?_;exact BK108.out) hb);replace BK114:=Aside0.mk (blk_below (g:=gb114) (o:=.cells #[.int .i64 t112,.int .i64 t113] 24 (0,0)) (by refine blk_mv ?_;refine blk_put (cs:=#[.int .i64 t112,.int .i64 0]) ?_ 1 _ rfl;refine blk_mv ?_;refine blk_put (cs:=#[.int .i64 0,.int .i64 0]) ?_ 0 _ rfl;refine blk_mv ?_;exact BK114.out) hb);replace HB:=Aside0.mk (below_step bel_ hb);(try clear hb);(try clear hb2);(try clear hk);(try clear hi))|((with_reducible refine gate_dst (N:=10) rfl ?_);(try (refine gate_guard (by rfl) ?_;dsimp only));refine box_event ?hg (N:=10) ?hd (cs:=#[.int .i64 0,.int .i64 0]) (t:=24) ?hr ?_;(case hd => rfl);(case hg => rfl);(case hr => first|(go_simp;done)|(go_simp;rfl));intro gb119 hg w31 hbox hb;replace HO111:=Aside0.mk (Kd.R_below (Kd.R_mv HO111.out) hb);have BK119:=Aside0.mk (hbox);have GW119:=Aside0.mk ((bs_ : w.heap.size ≤ gb119));have GE119:=Aside0.mk ((bs_ : w.heap.size ≤ gb119));replace HB:=Aside0.mk (below_step bel_ hb);have NB108_119:=Aside0.mk ((by rw [hg];exact Nat.ne_of_lt (blk_lt (g:=gb108) (o:=.cells #[.int .i64 t106,.int .i64 t107] 24 (0,0)) (blk_mv BK108.out)) : gb108 ≠ gb119));have NB119_108:=Aside0.mk ((by rw [hg];exact Nat.ne_of_gt (blk_lt (g:=gb108) (o:=.cells #[.int .i64 t106,.int .i64 t107] 24 (0,0)) (blk_mv BK108.out)) : gb119 ≠ gb108));replace BK108:=Aside0.mk (blk_below (blk_mv BK108.out) hb);have NB114_119:=Aside0.mk ((by rw [hg];exact Nat.ne_of_lt (blk_lt (g:=gb114) (o:=.cells #[.int .i64 t112,.int .i64 t113] 24 (0,0)) (blk_mv BK114.out)) : gb114 ≠ gb119));have NB119_114:=Aside0.mk ((by rw [hg];exact Nat.ne_of_gt (blk_lt (g:=gb114) (o:=.cells #[.int .i64 t112,.int .i64 t113] 24 (0,0)) (blk_mv BK114.out)) : gb119 ≠ gb114));replace BK114:=Aside0.mk (blk_below (blk_mv BK114.out) hb);clear hb hbox hg;have hnb32:=NB119_108.out;have hnc32:=NB108_119.out;have hnb33:=NB119_114.out;have hnc33:=NB114_119.out;have hcz34_0:=blk_c (v:=.int .i64 0) BK119.out 0 rfl;have hcz34_1:=blk_c (v:=.int .i64 0) BK119.out 1 rfl;have hfz34_0:=blk_frozen BK119.out 0;have hfz34_1:=blk_frozen BK119.out 1;have hcz35_0:=blk_c (v:=.int .i64 t106) BK108.out 0 rfl;have hcz35_1:=blk_c (v:=.int .i64 t107) BK108.out 1 rfl;have hfz35_0:=blk_frozen BK108.out 0;have hfz35_1:=blk_frozen BK108.out 1;have hcz36_0:=blk_c (v:=.int .i64 t112) BK114.out 0 rfl;have hcz36_1:=blk_c (v:=.int .i64 t113) BK114.out 1 rfl;have hfz36_0:=blk_frozen BK114.out 0;have hfz36_1:=blk_frozen BK114.out 1));go_ret;exact ⟨by first|rfl|(simp [errW_none,errW_some] <;> rfl)|(simp [*,errW_none,errW_some] <;> rfl),bel_⟩
          ·replace c21:=Bool.eq_false_iff.mpr c21
           subst c21;have H1 : (none) = some r:=by rw [if_neg (show ¬ (false = true) by decide)] at H;exact H
           clear H;have H:=H1;clear H1;exact absurd H (by simp)
         ·rw [if_neg c20] at H
          exact absurd H (by simp)
        ·rw [if_neg c19] at H
         exact absurd H (by simp)
       ·rw [if_neg c18] at H
        exact absurd H (by simp)
      ·rw [if_neg c16] at H
       exact absurd H (by simp)
     ·rw [if_neg c15] at H
      exact absurd H (by simp)
 ·replace c4:=Bool.eq_false_iff.mpr c4
  subst c4;have H1 : (none) = some r:=by rw [if_neg (show ¬ (false = true) by decide)] at H;exact H
  clear H;have H:=H1;clear H1;exact absurd H (by simp)

/-- THE ONE PURE STATEMENT of changeforgelaw5_TranslogProofsVerify: yours. -/
def changeforgelaw5_TranslogProofsVerify.Pure : Prop:=∀ (l0 : List Int) (a1 : Int),l0.length ≤ maxLen → l0.length * 8 ≤ 140737488351232 → (∀ x ∈ l0,(Lit.int .i64 x).wf = true) → (Lit.int .i64 a1).wf = true → ∃ k,changeforgelaw5_TranslogProofsVerify.f k l0 a1 = some true
theorem changeforgelaw5_TranslogProofsVerify.walk (P : changeforgelaw5_TranslogProofsVerify.Pure) (a0 : Option Addr) (len0 cap0 : Nat) (z0 : List Int) (a1 : Int) (w : World) (w0 : (a0 = none ∧ len0 = 0 ∧ cap0 = 0 ∧ z0 = []) ∨ ∃ x,a0 = some x ∧ len0 ≤ cap0 ∧ cap0 ≤ maxLen ∧ z0.length = cap0 ∧ (∀ i,i < z0.length → w.cell? (x.add i) = some (.int .i64 (z0.getD i 0))) ∧ ∀ n ∈ z0,(Lit.int .i64 n).wf = true) (y0 : len0 * 8 ≤ 140737488351232) (w1 : (Lit.int .i64 a1).wf = true) :
  Calls Try.prog 6 #[.slice a0 len0 cap0,.int .i64 a1] w fun e w' => e = .returned (.bool true) ∧ Below w.heap.size w w':=by
 obtain ⟨l0,rfl,hr0,hm0,hw0,hc0⟩:=ReadsInt.ofRowC w0;obtain ⟨k,h⟩:=P l0 a1 hm0 y0 hw0 w1;refine (changeforgelaw5_TranslogProofsVerify.calls k _ _ l0 a1 true w (Kd.C_of_reads (d:=(0 : Int)) (h1:=fun _ => rfl) hr0) hc0 h).mono ?_;rintro e w' ⟨rfl,hd⟩;exact ⟨rfl,hd⟩

end Go.Proofs.Ytmcpcdnnnnhogaa.Fn
