/- A function of the program as a plain Lean function, and the proof that the call comes to just what it says (written by wip/tools/xprint.py for this claim). Condition: the plain function has an answer. -/
import Derived.Test.YtnkonhplfldlmaaFn0
import Derived.Test.YtnkonhplfldlmaaFs0
import Derived.Test.YtnkonhplfldlmaaWA
import Derived.Test.YtnkonhplfldlmaaTight
namespace Go.Proofs.Ytnkonhplfldlmaa.Fn
open Go.RowKit Go.Proofs.YtnkonhplfldlmaaW.PrintWords Go.Proofs.YtnkonhplfldlmaaW.PrintLast Go.Proofs.YtnkonhplfldlmaaW.PrintMore
attribute [local go_sem] max2_int min2_int max_two min_two max_three min_three max_four min_four   -- for this text's walks alone
set_option linter.unusedVariables false
set_option linter.unusedSimpArgs false

/-! ### threshold_keysFault: function 49 -/
def threshold_keysFault.l0 : Nat → List Int → List Int → Int → Int → Option (Int × Int)
 | 0,_,_,_,_ => none
 | k + 1,x0,x9,x10,x11 => if x11 < x10 then (if 0 ≤ x11 then (if x11 < (x9.length : Int) then ((signing_IsKey.f (rd x9 x11)).bind fun t103 => (if t103 = true then (if x11 > 0 then (if 0 ≤ (wrap64 (x11 - 1)) then (if (wrap64 (x11 - 1)) < (x0.length : Int) then (if (rd x9 x11) ≤ (rd x0 (wrap64 (x11 - 1))) then (some (5,x11)) else (threshold_keysFault.l0 k x0 x9 x10 (wrap64 (x11 + 1)))) else (none)) else (none)) else (threshold_keysFault.l0 k x0 x9 x10 (wrap64 (x11 + 1)))) else (some (3,x11)))) else (none)) else (none)) else (some (0,0))
def threshold_keysFault.f (k : Nat) (l0 : List Int) : Option (Int × Int):=if (l0.length : Int) > 12 then (some (2,(-1))) else (threshold_keysFault.l0 k l0 l0 (l0.length : Int) 0)
theorem threshold_keysFault.mono_l : ∀ k,(∀ y0 y1 y2 y3,LeO (threshold_keysFault.l0 k y0 y1 y2 y3) (threshold_keysFault.l0 (k + 1) y0 y1 y2 y3))
 | 0 => fun _ _ _ _ r h => by simp [threshold_keysFault.l0] at h
 | k + 1 => by
  have ih0:=threshold_keysFault.mono_l k
  ·intro y0 y1 y2 y3
   unfold threshold_keysFault.l0;repeat' first
   | (with_reducible exact ih0 _ _ _ _)
   | (with_reducible exact LeO.refl _)
   | (with_reducible exact LeO.none _)
   | (with_reducible refine LeO.ite ?_ ?_)
   | (with_reducible refine LeO.bind ?_ (fun _ => ?_))
   | exact ih0 _ _ _ _
   | exact LeO.none _
   | refine LeO.ite ?_ ?_
   | refine LeO.bind ?_ (fun _ => ?_)
theorem threshold_keysFault.mono : ∀ a0 k,LeO (threshold_keysFault.f k a0) (threshold_keysFault.f (k + 1) a0):=by
 intro a0 k;have ih0:=threshold_keysFault.mono_l k;unfold threshold_keysFault.f
 repeat' first
   | (with_reducible exact ih0 _ _ _ _)
   | (with_reducible exact LeO.refl _)
   | (with_reducible exact LeO.none _)
   | (with_reducible refine LeO.ite ?_ ?_)
   | (with_reducible refine LeO.bind ?_ (fun _ => ?_))
   | exact ih0 _ _ _ _
   | exact LeO.none _
   | refine LeO.ite ?_ ?_
   | refine LeO.bind ?_ (fun _ => ?_)
set_option maxHeartbeats 8000000 in
set_option maxRecDepth 100000 in
theorem threshold_keysFault.calls (k : Nat) (A0 : Option Addr) (c0 : Nat) (l0 : List Int) (r1 : Int) (r2 : Int) (w : World) (hr0 : Kd.C (Kd.int .i64) w A0 l0.length l0) (hc0 : l0.length ≤ c0) (h : threshold_keysFault.f k l0 = some (r1,r2)) :
  Calls Try.prog 49 #[.slice A0 l0.length c0] w fun e w' => e = .returned (.agg #[.int .i64 r1,.int .i64 r2]) ∧ Below w.heap.size w w':=by
 have hu24:=Try.underlying24;have HR0:=Aside0.mk hr0;have HC0:=Aside0.mk hc0;clear hr0 hc0;have HB:=Aside0.mk (Below.refl w.heap.size w);have H : (if (l0.length : Int) > 12 then (some (2,(-1))) else (threshold_keysFault.l0 k l0 l0 (l0.length : Int) 0)) = some (r1,r2):=h;clear h;by_cases c2 : (l0.length : Int) > 12
 ·rw [if_pos c2] at H
  have c2b0 : decide (12 < (l0.length : Int)) = true:=decide_eq_true c2;have c2b1 : decide (12 < l0.length) = true:=decide_eq_true (by omega);clear c2;simp only [Option.some.injEq,Prod.mk.injEq] at H;obtain ⟨rfl,rfl⟩:=H;go_enter Try.func49,Try.ntmps49;go_wp2_with (first|((with_reducible refine gate_dst (N:=2) rfl ?_);refine box_event ?hg (N:=2) ?hd (cs:=#[.int .i64 0,.int .i64 0]) (t:=24) ?hr ?_;(case hd => rfl);(case hg => rfl);(case hr => first|(go_simp;done)|(go_simp;rfl));intro gb101 hg w3 hbox hb;have BK101:=Aside0.mk (hbox);have GW101:=Aside0.mk ((bs_ : w.heap.size ≤ gb101));have GE101:=Aside0.mk ((bs_ : w.heap.size ≤ gb101));replace HB:=Aside0.mk (below_step bel_ hb);clear hb hbox hg;have hcz4_0:=blk_c (v:=.int .i64 0) BK101.out 0 rfl;have hcz4_1:=blk_c (v:=.int .i64 0) BK101.out 1 rfl;have hfz4_0:=blk_frozen BK101.out 0;have hfz4_1:=blk_frozen BK101.out 1));refine bodyPost_ret (results_cell_row rfl _ _ gb101 24 #[.int .i64 2,.int .i64 (-1)] (0,0) _ rfl (by refine blk_mv ?_;refine blk_put (cs:=#[.int .i64 2,.int .i64 0]) ?_ 1 _ rfl;refine blk_mv ?_;refine blk_put (cs:=#[.int .i64 0,.int .i64 0]) ?_ 0 _ rfl;refine blk_mv ?_;exact BK101.out) Try.underlying24 rfl (by kernel_rfl)) rfl ?_;exact ⟨by first|rfl|(simp [errW_none,errW_some] <;> rfl)|(simp [*,errW_none,errW_some] <;> rfl),bel_⟩
 ·rw [if_neg c2] at H
  have c2b0 : decide (12 < (l0.length : Int)) = false:=decide_eq_false c2;have c2b1 : decide (12 < l0.length) = false:=decide_eq_false (by omega);clear c2;have H':=Aside0.mk H;clear H;go_enter Try.func49,Try.ntmps49;go_wp2_with (first|((with_reducible refine gate_dst (N:=2) rfl ?_);refine box_event ?hg (N:=2) ?hd (cs:=#[.int .i64 0,.int .i64 0]) (t:=24) ?hr ?_;(case hd => rfl);(case hg => rfl);(case hr => first|(go_simp;done)|(go_simp;rfl));intro gb101 hg w5 hbox hb;have BK101:=Aside0.mk (hbox);have GW101:=Aside0.mk ((bs_ : w.heap.size ≤ gb101));have GE101:=Aside0.mk ((bs_ : w.heap.size ≤ gb101));replace HB:=Aside0.mk (below_step bel_ hb);clear hb hbox hg));go_loopg [11] k (fun kq v11 w' => ∃ (x11_1 : Int) (x102000_1 : Int) (x102001_1 : Int),v11 = .int .i64 x11_1 ∧ Aside0 (threshold_keysFault.l0 kq l0 l0 (l0.length : Int) x11_1 = some (r1,r2)) ∧ Aside0 (kq ≤ k) ∧ Aside0 (w'.heap[gb101]? = some (.cells #[.int .i64 x102000_1,.int .i64 x102001_1] 24 (0,0))) ∧ Aside0 (Below w.heap.size w w'))
  case atStart => exact ⟨(0),(0),(0),fr_,H',⟨Nat.le_refl _⟩,⟨blk_mv BK101.out⟩,⟨bel_⟩⟩
  case round =>
   clear H';(try clear c2);(try clear c2b0);(try clear c2b1);(try clear p2);(try clear c4);(try clear hcz4_0);(try clear hcz4_1);(try clear hfz4_0);(try clear hfz4_1);obtain ⟨x11_1,x102000_1,x102001_1,rfl,HA,HK1,BK101,HB⟩:=hrel;cases gk with
   | zero => exact absurd HA.out (by simp [threshold_keysFault.l0])
   | succ k1 =>
    have H:=HA.out;clear HA;simp only [threshold_keysFault.l0] at H;by_cases c6 : x11_1 < (l0.length : Int)
    ·rw [if_pos c6] at H
     have c6b0 : decide (x11_1 < (l0.length : Int)) = true:=decide_eq_true c6;clear c6;by_cases c7 : 0 ≤ x11_1
     ·rw [if_pos c7] at H
      have c7b0 : decide (0 ≤ x11_1) = true:=decide_eq_true c7;clear c7;by_cases c8 : x11_1 < (l0.length : Int)
      ·rw [if_pos c8] at H
       have c8b0 : decide (x11_1 < (l0.length : Int)) = true:=decide_eq_true c8;clear c8;replace H:=Option.bind_eq_some_iff.mp H;obtain ⟨t103,A90,H⟩:=H;replace H : (if t103 = true then (if x11_1 > 0 then (if 0 ≤ (wrap64 (x11_1 - 1)) then (if (wrap64 (x11_1 - 1)) < (l0.length : Int) then (if (rd l0 x11_1) ≤ (rd l0 (wrap64 (x11_1 - 1))) then (some (5,x11_1)) else (threshold_keysFault.l0 k1 l0 l0 (l0.length : Int) (wrap64 (x11_1 + 1)))) else (none)) else (none)) else (threshold_keysFault.l0 k1 l0 l0 (l0.length : Int) (wrap64 (x11_1 + 1)))) else (some (3,x11_1))) = some (r1,r2):=H;have A9:=Aside0.mk A90;clear A90;by_cases c10 : t103 = true
       ·subst c10
        have H1 : (if x11_1 > 0 then (if 0 ≤ (wrap64 (x11_1 - 1)) then (if (wrap64 (x11_1 - 1)) < (l0.length : Int) then (if (rd l0 x11_1) ≤ (rd l0 (wrap64 (x11_1 - 1))) then (some (5,x11_1)) else (threshold_keysFault.l0 k1 l0 l0 (l0.length : Int) (wrap64 (x11_1 + 1)))) else (none)) else (none)) else (threshold_keysFault.l0 k1 l0 l0 (l0.length : Int) (wrap64 (x11_1 + 1)))) = some (r1,r2):=by rw [if_pos rfl] at H;exact H
        clear H;have H:=H1;clear H1;by_cases c11 : x11_1 > 0
        ·rw [if_pos c11] at H
         have c11b0 : decide (0 < x11_1) = true:=decide_eq_true c11;clear c11;obtain ⟨ji12,hji12⟩ : ∃ j_ : Int,(wrap64 (x11_1 - 1)) = j_:=⟨_,rfl⟩;replace H : (if 0 ≤ (ji12) then (if (ji12) < (l0.length : Int) then (if (rd l0 x11_1) ≤ (rd l0 (ji12)) then (some (5,x11_1)) else (threshold_keysFault.l0 k1 l0 l0 (l0.length : Int) (wrap64 (x11_1 + 1)))) else (none)) else (none)) = some (r1,r2):=by first|(rw [hji12] at H;exact H)|(simp only [hji12] at H ⊢;exact H)
         (try rw [hji12] at A9);have hji12w : (IntKind.i64.wrap (x11_1 - 1)) = ji12:=(i64_w _).trans hji12;by_cases c13 : 0 ≤ (ji12)
         ·rw [if_pos c13] at H
          have c13b0 : decide (0 ≤ (ji12)) = true:=decide_eq_true c13;clear c13;by_cases c14 : (ji12) < (l0.length : Int)
          ·rw [if_pos c14] at H
           have c14b0 : decide ((ji12) < (l0.length : Int)) = true:=decide_eq_true c14;clear c14;by_cases c15 : (rd l0 x11_1) ≤ (rd l0 (ji12))
           ·rw [if_pos c15] at H
            have c15b0 : decide ((rd l0 x11_1) ≤ (rd l0 (ji12))) = true:=decide_eq_true c15;clear c15;simp only [Option.some.injEq,Prod.mk.injEq] at H;obtain ⟨rfl,rfl⟩:=H;have p102 : 0 ≤ (x11_1 : Int):=of_decide_eq_true as_;have q102 : x11_1 < (l0.length : Int):=of_decide_eq_true as_;obtain ⟨ad102,e102,hx102_0⟩:=Kd.at_int HR0.out x11_1 p102 q102;cases e102
            replace hx102_0:=(HB.out.cell (World.block_lt_of_cell? w _ hx102_0)).trans hx102_0;replace p102:=eq_true p102;replace q102:=eq_true q102;go_wp2_with (first|((with_reducible refine gate_callee (f:=42) rfl ?_);refine goesL_ (some 17) rfl rfl Try.func42 (by kernel_rfl) rfl #[.int .i64 (rd l0 x11_1)] rfl ln_ ?_;(with_reducible refine (signing_IsKey.calls (rd l0 x11_1) true _ A9.out).mono ?_);rintro e w' ⟨rfl,⟨nd,rfl⟩⟩;refine ⟨_,rfl,?_⟩;(try (rw [drewN_self wr];generalize hq_ : World.drewN wr _ = wr;have n0_ : Aside0 (wr.heap[gb101]? = some (.cells #[.int .i64 x102000_1,.int .i64 x102001_1] 24 (0,0))):=⟨by rw [← hq_];exact (blk_mv BK101.out)⟩;have n1_ : Aside0 (Below w.heap.size w wr):=⟨by rw [← hq_];exact bel_⟩;clear BK101 HB hq_;have BK101:=n0_;have HB:=n1_;clear n0_ n1_));have p104 : 0 ≤ ((ji12) : Int):=of_decide_eq_true as_;have q104 : (ji12) < (l0.length : Int):=of_decide_eq_true as_;obtain ⟨ad104,e104,hx104_0⟩:=Kd.at_int HR0.out (ji12) p104 q104;obtain rfl : ad102 = ad104:=(by injection e104);replace hx104_0:=(HB.out.cell (World.block_lt_of_cell? w _ hx104_0)).trans hx104_0;replace p104:=eq_true p104;replace q104:=eq_true q104;have hcz16_0:=blk_c (v:=.int .i64 x102000_1) BK101.out 0 rfl;have hcz16_1:=blk_c (v:=.int .i64 x102001_1) BK101.out 1 rfl;have hfz16_0:=blk_frozen BK101.out 0;have hfz16_1:=blk_frozen BK101.out 1));refine bodyPost_ret (results_cell_row rfl _ _ gb101 24 #[.int .i64 5,.int .i64 x11_1] (0,0) _ rfl (by refine blk_mv ?_;refine blk_put (cs:=#[.int .i64 5,.int .i64 x102001_1]) ?_ 1 _ rfl;refine blk_mv ?_;refine blk_put (cs:=#[.int .i64 x102000_1,.int .i64 x102001_1]) ?_ 0 _ rfl;refine blk_mv ?_;exact BK101.out) Try.underlying24 rfl (by kernel_rfl)) rfl ?_;exact ⟨by first|rfl|(simp [errW_none,errW_some] <;> rfl)|(simp only [← hji12];first|rfl|(simp [errW_none,errW_some] <;> rfl))|(simp [*,errW_none,errW_some] <;> rfl),bel_⟩
           ·rw [if_neg c15] at H
            have c15b0 : decide ((rd l0 x11_1) ≤ (rd l0 (ji12))) = false:=decide_eq_false c15;clear c15;have H':=Aside0.mk H;clear H;have p102 : 0 ≤ (x11_1 : Int):=of_decide_eq_true as_;have q102 : x11_1 < (l0.length : Int):=of_decide_eq_true as_;obtain ⟨ad102,e102,hx102_0⟩:=Kd.at_int HR0.out x11_1 p102 q102;cases e102
            replace hx102_0:=(HB.out.cell (World.block_lt_of_cell? w _ hx102_0)).trans hx102_0;replace p102:=eq_true p102;replace q102:=eq_true q102;go_wp2_with (first|((with_reducible refine gate_callee (f:=42) rfl ?_);refine goesL_ (some 17) rfl rfl Try.func42 (by kernel_rfl) rfl #[.int .i64 (rd l0 x11_1)] rfl ln_ ?_;(with_reducible refine (signing_IsKey.calls (rd l0 x11_1) true _ A9.out).mono ?_);rintro e w' ⟨rfl,⟨nd,rfl⟩⟩;refine ⟨_,rfl,?_⟩;have p104 : 0 ≤ ((ji12) : Int):=of_decide_eq_true as_;have q104 : (ji12) < (l0.length : Int):=of_decide_eq_true as_;obtain ⟨ad104,e104,hx104_0⟩:=Kd.at_int HR0.out (ji12) p104 q104;obtain rfl : ad102 = ad104:=(by injection e104);replace hx104_0:=(HB.out.cell (World.block_lt_of_cell? w _ hx104_0)).trans hx104_0;replace p104:=eq_true p104;replace q104:=eq_true q104));go_roundg k1
            case measure => have:=HK1.out;omega
            case rel => exact ⟨(wrap64 (x11_1 + 1)),(x102000_1),(x102001_1),fr_,H',⟨by have:=HK1.out;omega⟩,⟨blk_mv BK101.out⟩,⟨bel_⟩⟩
          ·rw [if_neg c14] at H
           exact absurd H (by simp)
         ·rw [if_neg c13] at H
          exact absurd H (by simp)
        ·rw [if_neg c11] at H
         have c11b0 : decide (0 < x11_1) = false:=decide_eq_false c11;clear c11;have H':=Aside0.mk H;clear H;have p102 : 0 ≤ (x11_1 : Int):=of_decide_eq_true as_;have q102 : x11_1 < (l0.length : Int):=of_decide_eq_true as_;obtain ⟨ad102,e102,hx102_0⟩:=Kd.at_int HR0.out x11_1 p102 q102;cases e102
         replace hx102_0:=(HB.out.cell (World.block_lt_of_cell? w _ hx102_0)).trans hx102_0;replace p102:=eq_true p102;replace q102:=eq_true q102;go_wp2_with (first|((with_reducible refine gate_callee (f:=42) rfl ?_);refine goesL_ (some 17) rfl rfl Try.func42 (by kernel_rfl) rfl #[.int .i64 (rd l0 x11_1)] rfl ln_ ?_;(with_reducible refine (signing_IsKey.calls (rd l0 x11_1) true _ A9.out).mono ?_);rintro e w' ⟨rfl,⟨nd,rfl⟩⟩;refine ⟨_,rfl,?_⟩));go_roundg k1
         case measure => have:=HK1.out;omega
         case rel => exact ⟨(wrap64 (x11_1 + 1)),(x102000_1),(x102001_1),fr_,H',⟨by have:=HK1.out;omega⟩,⟨blk_mv BK101.out⟩,⟨bel_⟩⟩
       ·replace c10:=Bool.eq_false_iff.mpr c10
        subst c10;have H1 : (some (3,x11_1)) = some (r1,r2):=by rw [if_neg (show ¬ (false = true) by decide)] at H;exact H
        clear H;have H:=H1;clear H1;simp only [Option.some.injEq,Prod.mk.injEq] at H;obtain ⟨rfl,rfl⟩:=H;have p102 : 0 ≤ (x11_1 : Int):=of_decide_eq_true as_;have q102 : x11_1 < (l0.length : Int):=of_decide_eq_true as_;obtain ⟨ad102,e102,hx102_0⟩:=Kd.at_int HR0.out x11_1 p102 q102;cases e102
        replace hx102_0:=(HB.out.cell (World.block_lt_of_cell? w _ hx102_0)).trans hx102_0;replace p102:=eq_true p102;replace q102:=eq_true q102;go_wp2_with (first|((with_reducible refine gate_callee (f:=42) rfl ?_);refine goesL_ (some 17) rfl rfl Try.func42 (by kernel_rfl) rfl #[.int .i64 (rd l0 x11_1)] rfl ln_ ?_;(with_reducible refine (signing_IsKey.calls (rd l0 x11_1) false _ A9.out).mono ?_);rintro e w' ⟨rfl,⟨nd,rfl⟩⟩;refine ⟨_,rfl,?_⟩;(try (rw [drewN_self wr];generalize hq_ : World.drewN wr _ = wr;have n0_ : Aside0 (wr.heap[gb101]? = some (.cells #[.int .i64 x102000_1,.int .i64 x102001_1] 24 (0,0))):=⟨by rw [← hq_];exact (blk_mv BK101.out)⟩;have n1_ : Aside0 (Below w.heap.size w wr):=⟨by rw [← hq_];exact bel_⟩;clear BK101 HB hq_;have BK101:=n0_;have HB:=n1_;clear n0_ n1_));have hcz17_0:=blk_c (v:=.int .i64 x102000_1) BK101.out 0 rfl;have hcz17_1:=blk_c (v:=.int .i64 x102001_1) BK101.out 1 rfl;have hfz17_0:=blk_frozen BK101.out 0;have hfz17_1:=blk_frozen BK101.out 1));refine bodyPost_ret (results_cell_row rfl _ _ gb101 24 #[.int .i64 3,.int .i64 x11_1] (0,0) _ rfl (by refine blk_mv ?_;refine blk_put (cs:=#[.int .i64 3,.int .i64 x102001_1]) ?_ 1 _ rfl;refine blk_mv ?_;refine blk_put (cs:=#[.int .i64 x102000_1,.int .i64 x102001_1]) ?_ 0 _ rfl;refine blk_mv ?_;exact BK101.out) Try.underlying24 rfl (by kernel_rfl)) rfl ?_;exact ⟨by first|rfl|(simp [errW_none,errW_some] <;> rfl)|(simp [*,errW_none,errW_some] <;> rfl),bel_⟩
      ·rw [if_neg c8] at H
       exact absurd H (by simp)
     ·rw [if_neg c7] at H
      exact absurd H (by simp)
    ·rw [if_neg c6] at H
     have c6b0 : decide (x11_1 < (l0.length : Int)) = false:=decide_eq_false c6;clear c6;simp only [Option.some.injEq,Prod.mk.injEq] at H;obtain ⟨rfl,rfl⟩:=H;have hcz18_0:=blk_c (v:=.int .i64 x102000_1) BK101.out 0 rfl;have hcz18_1:=blk_c (v:=.int .i64 x102001_1) BK101.out 1 rfl;have hfz18_0:=blk_frozen BK101.out 0;have hfz18_1:=blk_frozen BK101.out 1;go_wp2;refine bodyPost_ret (results_cell_row rfl _ _ gb101 24 #[.int .i64 0,.int .i64 0] (0,0) _ rfl (by refine blk_mv ?_;refine blk_put (cs:=#[.int .i64 0,.int .i64 x102001_1]) ?_ 1 _ rfl;refine blk_mv ?_;refine blk_put (cs:=#[.int .i64 x102000_1,.int .i64 x102001_1]) ?_ 0 _ rfl;refine blk_mv ?_;exact BK101.out) Try.underlying24 rfl (by kernel_rfl)) rfl ?_;exact ⟨by first|rfl|(simp [errW_none,errW_some] <;> rfl)|(simp [*,errW_none,errW_some] <;> rfl),bel_⟩

end Go.Proofs.Ytnkonhplfldlmaa.Fn
