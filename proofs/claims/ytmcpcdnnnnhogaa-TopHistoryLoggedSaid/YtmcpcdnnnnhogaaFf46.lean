/- A function of the program as a plain Lean function, and the proof that the call comes to just what it says (written by wip/tools/xprint.py for this claim). Condition: the plain function has an answer. -/
import Derived.Test.YtmcpcdnnnnhogaaFn0
import Derived.Test.YtmcpcdnnnnhogaaWA
import Derived.Test.YtmcpcdnnnnhogaaTight
namespace Go.Proofs.Ytmcpcdnnnnhogaa.Fn
open Go.RowKit Go.Proofs.YtmcpcdnnnnhogaaW.PrintWords Go.Proofs.YtmcpcdnnnnhogaaW.PrintLast Go.Proofs.YtmcpcdnnnnhogaaW.PrintMore
attribute [local go_sem] max2_int min2_int max_two min_two max_three min_three max_four min_four   -- for this text's walks alone
set_option linter.unusedVariables false
set_option linter.unusedSimpArgs false

/-! ### history_Validate: function 46 -/
mutual
def history_Validate.l0 : Nat → List (S61) → Int → Int → Option (Int × Int)
 | 0,_,_,_ => none
 | k + 1,x11,x12,x13 => if x13 < x12 then (if 0 ≤ x13 then (if x13 < (x11.length : Int) then (if (((rd_T61 x11 x13).f0).length : Int) > 3 then (some (2,x13)) else (history_Validate.l1 k x13 x11 x12 x13 ((rd_T61 x11 x13).f0) (((rd_T61 x11 x13).f0).length : Int) 0 ((rd_T61 x11 x13).f0) ((rd_T61 x11 x13).f1) ((rd_T61 x11 x13).f2) ((rd_T61 x11 x13).f3) ((rd_T61 x11 x13).f4))) else (none)) else (none)) else (some (0,0))
def history_Validate.l1 : Nat → Int → List (S61) → Int → Int → List Int → Int → Int → List Int → Int → Int → Int → ByteArray → Option (Int × Int)
 | 0,_,_,_,_,_,_,_,_,_,_,_,_ => none
 | k + 1,x3,x11,x12,x13,x25,x26,x27,x104000,x104001,x104002,x104003,x104004 => if x27 < x26 then (if 0 ≤ x27 then (if x27 < (x25.length : Int) then (if (rd x25 x27) < 0 then (history_Validate.j2 k x3 x27 (rd x25 x27) x11 x12 x13 x25 x26 x27 true x104000 x104001 x104002 x104003 x104004) else (history_Validate.j2 k x3 x27 (rd x25 x27) x11 x12 x13 x25 x26 x27 (decide ((rd x25 x27) ≥ x3)) x104000 x104001 x104002 x104003 x104004)) else (none)) else (none)) else (if x104001 < 0 then (history_Validate.j3 k x3 x11 x12 x13 true x104000 x104001 x104002 x104003 x104004) else (history_Validate.j3 k x3 x11 x12 x13 (decide (x104001 > 7)) x104000 x104001 x104002 x104003 x104004))
def history_Validate.j2 : Nat → Int → Int → Int → List (S61) → Int → Int → List Int → Int → Int → Bool → List Int → Int → Int → Int → ByteArray → Option (Int × Int)
 | 0,_,_,_,_,_,_,_,_,_,_,_,_,_,_,_ => none
 | k + 1,x3,x5,x6,x11,x12,x13,x25,x26,x27,x38,x104000,x104001,x104002,x104003,x104004 => if x38 = true then (some (3,x3)) else (if x5 > 0 then (if 0 ≤ (wrap64 (x5 - 1)) then (if (wrap64 (x5 - 1)) < (x104000.length : Int) then (if (rd x104000 (wrap64 (x5 - 1))) ≥ x6 then (some (5,x3)) else (history_Validate.l1 k x3 x11 x12 x13 x25 x26 (wrap64 (x27 + 1)) x104000 x104001 x104002 x104003 x104004)) else (none)) else (none)) else (history_Validate.l1 k x3 x11 x12 x13 x25 x26 (wrap64 (x27 + 1)) x104000 x104001 x104002 x104003 x104004))
def history_Validate.j3 : Nat → Int → List (S61) → Int → Int → Bool → List Int → Int → Int → Int → ByteArray → Option (Int × Int)
 | 0,_,_,_,_,_,_,_,_,_,_ => none
 | k + 1,x3,x11,x12,x13,x56,x104000,x104001,x104002,x104003,x104004 => if x56 = true then (history_Validate.j4 k x3 x11 x12 x13 x56 x104000 x104001 x104002 x104003 x104004) else (if x104002 < 0 then (history_Validate.j4 k x3 x11 x12 x13 true x104000 x104001 x104002 x104003 x104004) else (if x104002 > 100000 then (history_Validate.j4 k x3 x11 x12 x13 (decide (x104002 > 100000)) x104000 x104001 x104002 x104003 x104004) else (if x104003 < 0 then (history_Validate.j4 k x3 x11 x12 x13 true x104000 x104001 x104002 x104003 x104004) else (history_Validate.j4 k x3 x11 x12 x13 (decide (x104003 ≥ 2305843009213693951)) x104000 x104001 x104002 x104003 x104004))))
def history_Validate.j4 : Nat → Int → List (S61) → Int → Int → Bool → List Int → Int → Int → Int → ByteArray → Option (Int × Int)
 | 0,_,_,_,_,_,_,_,_,_,_ => none
 | k + 1,x3,x11,x12,x13,x56,x104000,x104001,x104002,x104003,x104004 => if x56 = true then (some (3,x3)) else (if (x104004.size : Int) > 80 then (some (10,x3)) else (history_Validate.l0 k x11 x12 (wrap64 (x13 + 1))))
end
def history_Validate.f (k : Nat) (l0 : List (S61)) : Option (Int × Int):=if (l0.length : Int) > 60 then (some (2,(-1))) else (history_Validate.l0 k l0 (l0.length : Int) 0)
theorem history_Validate.mono_l : ∀ k,(∀ y0 y1 y2,LeO (history_Validate.l0 k y0 y1 y2) (history_Validate.l0 (k + 1) y0 y1 y2)) ∧ (∀ y0 y1 y2 y3 y4 y5 y6 y7 y8 y9 y10 y11,LeO (history_Validate.l1 k y0 y1 y2 y3 y4 y5 y6 y7 y8 y9 y10 y11) (history_Validate.l1 (k + 1) y0 y1 y2 y3 y4 y5 y6 y7 y8 y9 y10 y11)) ∧ (∀ y0 y1 y2 y3 y4 y5 y6 y7 y8 y9 y10 y11 y12 y13 y14,LeO (history_Validate.j2 k y0 y1 y2 y3 y4 y5 y6 y7 y8 y9 y10 y11 y12 y13 y14) (history_Validate.j2 (k + 1) y0 y1 y2 y3 y4 y5 y6 y7 y8 y9 y10 y11 y12 y13 y14)) ∧ (∀ y0 y1 y2 y3 y4 y5 y6 y7 y8 y9,LeO (history_Validate.j3 k y0 y1 y2 y3 y4 y5 y6 y7 y8 y9) (history_Validate.j3 (k + 1) y0 y1 y2 y3 y4 y5 y6 y7 y8 y9)) ∧ (∀ y0 y1 y2 y3 y4 y5 y6 y7 y8 y9,LeO (history_Validate.j4 k y0 y1 y2 y3 y4 y5 y6 y7 y8 y9) (history_Validate.j4 (k + 1) y0 y1 y2 y3 y4 y5 y6 y7 y8 y9))
 | 0 => ⟨fun _ _ _ r h => by simp [history_Validate.l0] at h,fun _ _ _ _ _ _ _ _ _ _ _ _ r h => by simp [history_Validate.l1] at h,fun _ _ _ _ _ _ _ _ _ _ _ _ _ _ _ r h => by simp [history_Validate.j2] at h,fun _ _ _ _ _ _ _ _ _ _ r h => by simp [history_Validate.j3] at h,fun _ _ _ _ _ _ _ _ _ _ r h => by simp [history_Validate.j4] at h⟩
 | k + 1 => by
  obtain ⟨ih0,ih1,ih2,ih3,ih4⟩:=history_Validate.mono_l k;refine ⟨?_,?_,?_,?_,?_⟩
  ·intro y0 y1 y2
   unfold history_Validate.l0;repeat' first
   | (with_reducible exact ih0 _ _ _)
   | (with_reducible exact ih1 _ _ _ _ _ _ _ _ _ _ _ _)
   | (with_reducible exact ih2 _ _ _ _ _ _ _ _ _ _ _ _ _ _ _)
   | (with_reducible exact ih3 _ _ _ _ _ _ _ _ _ _)
   | (with_reducible exact ih4 _ _ _ _ _ _ _ _ _ _)
   | (with_reducible exact LeO.refl _)
   | (with_reducible exact LeO.none _)
   | (with_reducible refine LeO.ite ?_ ?_)
   | (with_reducible refine LeO.bind ?_ (fun _ => ?_))
   | exact ih0 _ _ _
   | exact ih1 _ _ _ _ _ _ _ _ _ _ _ _
   | exact ih2 _ _ _ _ _ _ _ _ _ _ _ _ _ _ _
   | exact ih3 _ _ _ _ _ _ _ _ _ _
   | exact ih4 _ _ _ _ _ _ _ _ _ _
   | exact LeO.none _
   | refine LeO.ite ?_ ?_
   | refine LeO.bind ?_ (fun _ => ?_)
  ·intro y0 y1 y2 y3 y4 y5 y6 y7 y8 y9 y10 y11
   unfold history_Validate.l1;repeat' first
   | (with_reducible exact ih0 _ _ _)
   | (with_reducible exact ih1 _ _ _ _ _ _ _ _ _ _ _ _)
   | (with_reducible exact ih2 _ _ _ _ _ _ _ _ _ _ _ _ _ _ _)
   | (with_reducible exact ih3 _ _ _ _ _ _ _ _ _ _)
   | (with_reducible exact ih4 _ _ _ _ _ _ _ _ _ _)
   | (with_reducible exact LeO.refl _)
   | (with_reducible exact LeO.none _)
   | (with_reducible refine LeO.ite ?_ ?_)
   | (with_reducible refine LeO.bind ?_ (fun _ => ?_))
   | exact ih0 _ _ _
   | exact ih1 _ _ _ _ _ _ _ _ _ _ _ _
   | exact ih2 _ _ _ _ _ _ _ _ _ _ _ _ _ _ _
   | exact ih3 _ _ _ _ _ _ _ _ _ _
   | exact ih4 _ _ _ _ _ _ _ _ _ _
   | exact LeO.none _
   | refine LeO.ite ?_ ?_
   | refine LeO.bind ?_ (fun _ => ?_)
  ·intro y0 y1 y2 y3 y4 y5 y6 y7 y8 y9 y10 y11 y12 y13 y14
   unfold history_Validate.j2;repeat' first
   | (with_reducible exact ih0 _ _ _)
   | (with_reducible exact ih1 _ _ _ _ _ _ _ _ _ _ _ _)
   | (with_reducible exact ih2 _ _ _ _ _ _ _ _ _ _ _ _ _ _ _)
   | (with_reducible exact ih3 _ _ _ _ _ _ _ _ _ _)
   | (with_reducible exact ih4 _ _ _ _ _ _ _ _ _ _)
   | (with_reducible exact LeO.refl _)
   | (with_reducible exact LeO.none _)
   | (with_reducible refine LeO.ite ?_ ?_)
   | (with_reducible refine LeO.bind ?_ (fun _ => ?_))
   | exact ih0 _ _ _
   | exact ih1 _ _ _ _ _ _ _ _ _ _ _ _
   | exact ih2 _ _ _ _ _ _ _ _ _ _ _ _ _ _ _
   | exact ih3 _ _ _ _ _ _ _ _ _ _
   | exact ih4 _ _ _ _ _ _ _ _ _ _
   | exact LeO.none _
   | refine LeO.ite ?_ ?_
   | refine LeO.bind ?_ (fun _ => ?_)
  ·intro y0 y1 y2 y3 y4 y5 y6 y7 y8 y9
   unfold history_Validate.j3;repeat' first
   | (with_reducible exact ih0 _ _ _)
   | (with_reducible exact ih1 _ _ _ _ _ _ _ _ _ _ _ _)
   | (with_reducible exact ih2 _ _ _ _ _ _ _ _ _ _ _ _ _ _ _)
   | (with_reducible exact ih3 _ _ _ _ _ _ _ _ _ _)
   | (with_reducible exact ih4 _ _ _ _ _ _ _ _ _ _)
   | (with_reducible exact LeO.refl _)
   | (with_reducible exact LeO.none _)
   | (with_reducible refine LeO.ite ?_ ?_)
   | (with_reducible refine LeO.bind ?_ (fun _ => ?_))
   | exact ih0 _ _ _
   | exact ih1 _ _ _ _ _ _ _ _ _ _ _ _
   | exact ih2 _ _ _ _ _ _ _ _ _ _ _ _ _ _ _
   | exact ih3 _ _ _ _ _ _ _ _ _ _
   | exact ih4 _ _ _ _ _ _ _ _ _ _
   | exact LeO.none _
   | refine LeO.ite ?_ ?_
   | refine LeO.bind ?_ (fun _ => ?_)
  ·intro y0 y1 y2 y3 y4 y5 y6 y7 y8 y9
   unfold history_Validate.j4;repeat' first
   | (with_reducible exact ih0 _ _ _)
   | (with_reducible exact ih1 _ _ _ _ _ _ _ _ _ _ _ _)
   | (with_reducible exact ih2 _ _ _ _ _ _ _ _ _ _ _ _ _ _ _)
   | (with_reducible exact ih3 _ _ _ _ _ _ _ _ _ _)
   | (with_reducible exact ih4 _ _ _ _ _ _ _ _ _ _)
   | (with_reducible exact LeO.refl _)
   | (with_reducible exact LeO.none _)
   | (with_reducible refine LeO.ite ?_ ?_)
   | (with_reducible refine LeO.bind ?_ (fun _ => ?_))
   | exact ih0 _ _ _
   | exact ih1 _ _ _ _ _ _ _ _ _ _ _ _
   | exact ih2 _ _ _ _ _ _ _ _ _ _ _ _ _ _ _
   | exact ih3 _ _ _ _ _ _ _ _ _ _
   | exact ih4 _ _ _ _ _ _ _ _ _ _
   | exact LeO.none _
   | refine LeO.ite ?_ ?_
   | refine LeO.bind ?_ (fun _ => ?_)
theorem history_Validate.mono : ∀ a0 k,LeO (history_Validate.f k a0) (history_Validate.f (k + 1) a0):=by
 intro a0 k;obtain ⟨ih0,ih1,ih2,ih3,ih4⟩:=history_Validate.mono_l k;unfold history_Validate.f
 repeat' first
   | (with_reducible exact ih0 _ _ _)
   | (with_reducible exact ih1 _ _ _ _ _ _ _ _ _ _ _ _)
   | (with_reducible exact ih2 _ _ _ _ _ _ _ _ _ _ _ _ _ _ _)
   | (with_reducible exact ih3 _ _ _ _ _ _ _ _ _ _)
   | (with_reducible exact ih4 _ _ _ _ _ _ _ _ _ _)
   | (with_reducible exact LeO.refl _)
   | (with_reducible exact LeO.none _)
   | (with_reducible refine LeO.ite ?_ ?_)
   | (with_reducible refine LeO.bind ?_ (fun _ => ?_))
   | exact ih0 _ _ _
   | exact ih1 _ _ _ _ _ _ _ _ _ _ _ _
   | exact ih2 _ _ _ _ _ _ _ _ _ _ _ _ _ _ _
   | exact ih3 _ _ _ _ _ _ _ _ _ _
   | exact ih4 _ _ _ _ _ _ _ _ _ _
   | exact LeO.none _
   | refine LeO.ite ?_ ?_
   | refine LeO.bind ?_ (fun _ => ?_)
set_option maxHeartbeats 8000000 in
set_option maxRecDepth 100000 in
theorem history_Validate.calls (k : Nat) (A0 : Option Addr) (c0 : Nat) (l0 : List (S61)) (r1 : Int) (r2 : Int) (w : World) (hr0 : Kd.C k61 w A0 l0.length l0) (hc0 : l0.length ≤ c0) (h : history_Validate.f k l0 = some (r1,r2)) :
  Calls Try.prog 46 #[.slice A0 l0.length c0] w fun e w' => e = .returned (.agg #[.int .i64 r1,.int .i64 r2]) ∧ Below w.heap.size w w':=by
 have hu24:=Try.underlying24;have hu61:=Try.underlying61;have HR0:=Aside0.mk hr0;have HC0:=Aside0.mk hc0;clear hr0 hc0;have HB:=Aside0.mk (Below.refl w.heap.size w);have H : (if (l0.length : Int) > 60 then (some (2,(-1))) else (history_Validate.l0 k l0 (l0.length : Int) 0)) = some (r1,r2):=h;clear h;by_cases c2 : (l0.length : Int) > 60
 ·rw [if_pos c2] at H
  have c2b0 : decide (60 < (l0.length : Int)) = true:=decide_eq_true c2;have c2b1 : decide (60 < l0.length) = true:=decide_eq_true (by omega);clear c2;simp only [Option.some.injEq,Prod.mk.injEq] at H;obtain ⟨rfl,rfl⟩:=H;go_enter Try.func46,Try.ntmps46;go_wp2_with (first|((with_reducible refine gate_dst (N:=2) rfl ?_);refine box_event ?hg (N:=2) ?hd (cs:=#[.int .i64 0,.int .i64 0]) (t:=24) ?hr ?_;(case hd => rfl);(case hg => rfl);(case hr => first|(go_simp;done)|(go_simp;rfl));intro gb101 hg w3 hbox hb;have BK101:=Aside0.mk (hbox);have GW101:=Aside0.mk ((bs_ : w.heap.size ≤ gb101));have GE101:=Aside0.mk ((bs_ : w.heap.size ≤ gb101));replace HB:=Aside0.mk (below_step bel_ hb);clear hb hbox hg;have hcz4_0:=blk_c (v:=.int .i64 0) BK101.out 0 rfl;have hcz4_1:=blk_c (v:=.int .i64 0) BK101.out 1 rfl;have hfz4_0:=blk_frozen BK101.out 0;have hfz4_1:=blk_frozen BK101.out 1));refine bodyPost_ret (results_cell_row rfl _ _ gb101 24 #[.int .i64 2,.int .i64 (-1)] (0,0) _ rfl (by refine blk_mv ?_;refine blk_put (cs:=#[.int .i64 2,.int .i64 0]) ?_ 1 _ rfl;refine blk_mv ?_;refine blk_put (cs:=#[.int .i64 0,.int .i64 0]) ?_ 0 _ rfl;refine blk_mv ?_;exact BK101.out) Try.underlying24 rfl (by kernel_rfl)) rfl ?_;exact ⟨by first|rfl|(simp [errW_none,errW_some] <;> rfl)|(simp [*,errW_none,errW_some] <;> rfl),bel_⟩
 ·rw [if_neg c2] at H
  have c2b0 : decide (60 < (l0.length : Int)) = false:=decide_eq_false c2;have c2b1 : decide (60 < l0.length) = false:=decide_eq_false (by omega);clear c2;have H':=Aside0.mk H;clear H;go_enter Try.func46,Try.ntmps46;go_wp2_with (first|((with_reducible refine gate_dst (N:=2) rfl ?_);refine box_event ?hg (N:=2) ?hd (cs:=#[.int .i64 0,.int .i64 0]) (t:=24) ?hr ?_;(case hd => rfl);(case hg => rfl);(case hr => first|(go_simp;done)|(go_simp;rfl));intro gb101 hg w5 hbox hb;have BK101:=Aside0.mk (hbox);have GW101:=Aside0.mk ((bs_ : w.heap.size ≤ gb101));have GE101:=Aside0.mk ((bs_ : w.heap.size ≤ gb101));replace HB:=Aside0.mk (below_step bel_ hb);clear hb hbox hg));go_loopg [13] k (fun kq v13 w' => ∃ (x13_1 : Int) (x102000_1 : Int) (x102001_1 : Int),v13 = .int .i64 x13_1 ∧ Aside0 (history_Validate.l0 kq l0 (l0.length : Int) x13_1 = some (r1,r2)) ∧ Aside0 (kq ≤ k) ∧ Aside0 (w'.heap[gb101]? = some (.cells #[.int .i64 x102000_1,.int .i64 x102001_1] 24 (0,0))) ∧ Aside0 (Below w.heap.size w w'))
  case atStart => exact ⟨(0),(0),(0),fr_,H',⟨Nat.le_refl _⟩,⟨blk_mv BK101.out⟩,⟨bel_⟩⟩
  case round =>
   clear H';(try clear c2);(try clear c2b0);(try clear c2b1);(try clear p2);(try clear c4);(try clear hcz4_0);(try clear hcz4_1);(try clear hfz4_0);(try clear hfz4_1);obtain ⟨x13_1,x102000_1,x102001_1,rfl,HA,HK1,BK101,HB⟩:=hrel;cases gk with
   | zero => exact absurd HA.out (by simp [history_Validate.l0])
   | succ k1 =>
    have H:=HA.out;clear HA;simp only [history_Validate.l0] at H;by_cases c6 : x13_1 < (l0.length : Int)
    ·rw [if_pos c6] at H
     have c6b0 : decide (x13_1 < (l0.length : Int)) = true:=decide_eq_true c6;clear c6;by_cases c7 : 0 ≤ x13_1
     ·rw [if_pos c7] at H
      have c7b0 : decide (0 ≤ x13_1) = true:=decide_eq_true c7;clear c7;by_cases c8 : x13_1 < (l0.length : Int)
      ·rw [if_pos c8] at H
       have c8b0 : decide (x13_1 < (l0.length : Int)) = true:=decide_eq_true c8;clear c8;by_cases c9 : (((rd_T61 l0 x13_1).f0).length : Int) > 3
       ·rw [if_pos c9] at H
        have c9b0 : decide (3 < (((rd_T61 l0 x13_1).f0).length : Int)) = true:=decide_eq_true c9;have c9b1 : decide (3 < ((rd_T61 l0 x13_1).f0).length) = true:=decide_eq_true (by omega);clear c9;simp only [Option.some.injEq,Prod.mk.injEq] at H;obtain ⟨rfl,rfl⟩:=H;have p102 : 0 ≤ (x13_1 : Int):=of_decide_eq_true as_;have q102 : x13_1 < (l0.length : Int):=of_decide_eq_true as_;obtain ⟨ad102,A102_0,c102_0,e102,hx102_0,hx102_1,hx102_2,hx102_3,hx102_4,hl102_0,hi102_0⟩:=at_T61 HR0.out x13_1 p102 q102;cases e102
        replace hx102_0:=(HB.out.cell (World.block_lt_of_cell? w _ hx102_0)).trans hx102_0;replace hx102_1:=(HB.out.cell (World.block_lt_of_cell? w _ hx102_1)).trans hx102_1;replace hx102_2:=(HB.out.cell (World.block_lt_of_cell? w _ hx102_2)).trans hx102_2;replace hx102_3:=(HB.out.cell (World.block_lt_of_cell? w _ hx102_3)).trans hx102_3;replace hx102_4:=(HB.out.cell (World.block_lt_of_cell? w _ hx102_4)).trans hx102_4;have HR102_0:=Aside0.mk hi102_0;have HC102_0:=Aside0.mk hl102_0;clear hi102_0 hl102_0;replace p102:=eq_true p102;replace q102:=eq_true q102;go_wp2_with (first|((with_reducible refine gate_dst (N:=4) rfl ?_);refine box_event ?hg (N:=4) ?hd (cs:=#[.slice none 0 0,.int .i64 0,.int .i64 0,.int .i64 0,.string (⟨#[]⟩ : ByteArray)]) (t:=61) ?hr ?_;(case hd => rfl);(case hg => rfl);(case hr => first|(go_simp;done)|(go_simp;rfl));intro gb103 hg w10 hbox hb;have BK103:=Aside0.mk (hbox);have GW103:=Aside0.mk ((bs_ : w.heap.size ≤ gb103));have GE103:=Aside0.mk ((bs_ : w.heap.size ≤ gb103));replace HB:=Aside0.mk (below_step bel_ hb);have NB101_103:=Aside0.mk ((by rw [hg];exact Nat.ne_of_lt (blk_lt (g:=gb101) (o:=.cells #[.int .i64 x102000_1,.int .i64 x102001_1] 24 (0,0)) (blk_mv BK101.out)) : gb101 ≠ gb103));have NB103_101:=Aside0.mk ((by rw [hg];exact Nat.ne_of_gt (blk_lt (g:=gb101) (o:=.cells #[.int .i64 x102000_1,.int .i64 x102001_1] 24 (0,0)) (blk_mv BK101.out)) : gb103 ≠ gb101));replace BK101:=Aside0.mk (blk_below (blk_mv BK101.out) hb);clear hb hbox hg;have hnb11:=NB103_101.out;have hnc11:=NB101_103.out;have hcz12_0:=blk_c (v:=.slice none 0 0) BK103.out 0 rfl;have hcz12_1:=blk_c (v:=.int .i64 0) BK103.out 1 rfl;have hcz12_2:=blk_c (v:=.int .i64 0) BK103.out 2 rfl;have hcz12_3:=blk_c (v:=.int .i64 0) BK103.out 3 rfl;have hcz12_4:=blk_c (v:=.string (⟨#[]⟩ : ByteArray)) BK103.out 4 rfl;have hfz12_0:=blk_frozen BK103.out 0;have hfz12_1:=blk_frozen BK103.out 1;have hfz12_2:=blk_frozen BK103.out 2;have hfz12_3:=blk_frozen BK103.out 3;have hfz12_4:=blk_frozen BK103.out 4;have hcz13_0:=blk_c (v:=.int .i64 x102000_1) BK101.out 0 rfl;have hcz13_1:=blk_c (v:=.int .i64 x102001_1) BK101.out 1 rfl;have hfz13_0:=blk_frozen BK101.out 0;have hfz13_1:=blk_frozen BK101.out 1));refine bodyPost_ret (results_cell_row rfl _ _ gb101 24 #[.int .i64 2,.int .i64 x13_1] (0,0) _ rfl (by refine blk_mv ?_;refine blk_put (cs:=#[.int .i64 2,.int .i64 x102001_1]) ?_ 1 _ rfl;refine blk_mv ?_;refine blk_put (cs:=#[.int .i64 x102000_1,.int .i64 x102001_1]) ?_ 0 _ rfl;refine blk_mv ?_;refine blk_far ?_ NB101_103.out _;refine blk_mv ?_;refine blk_far ?_ NB101_103.out _;refine blk_mv ?_;refine blk_far ?_ NB101_103.out _;refine blk_mv ?_;refine blk_far ?_ NB101_103.out _;refine blk_mv ?_;refine blk_far ?_ NB101_103.out _;refine blk_mv ?_;exact BK101.out) Try.underlying24 rfl (by kernel_rfl)) rfl ?_;exact ⟨by first|rfl|(simp [errW_none,errW_some] <;> rfl)|(simp [*,errW_none,errW_some] <;> rfl),bel_⟩
       ·rw [if_neg c9] at H
        have c9b0 : decide (3 < (((rd_T61 l0 x13_1).f0).length : Int)) = false:=decide_eq_false c9;have c9b1 : decide (3 < ((rd_T61 l0 x13_1).f0).length) = false:=decide_eq_false (by omega);clear c9;have H':=Aside0.mk H;clear H;have p102 : 0 ≤ (x13_1 : Int):=of_decide_eq_true as_;have q102 : x13_1 < (l0.length : Int):=of_decide_eq_true as_;obtain ⟨ad102,A102_0,c102_0,e102,hx102_0,hx102_1,hx102_2,hx102_3,hx102_4,hl102_0,hi102_0⟩:=at_T61 HR0.out x13_1 p102 q102;cases e102
        replace hx102_0:=(HB.out.cell (World.block_lt_of_cell? w _ hx102_0)).trans hx102_0;replace hx102_1:=(HB.out.cell (World.block_lt_of_cell? w _ hx102_1)).trans hx102_1;replace hx102_2:=(HB.out.cell (World.block_lt_of_cell? w _ hx102_2)).trans hx102_2;replace hx102_3:=(HB.out.cell (World.block_lt_of_cell? w _ hx102_3)).trans hx102_3;replace hx102_4:=(HB.out.cell (World.block_lt_of_cell? w _ hx102_4)).trans hx102_4;have HR102_0:=Aside0.mk hi102_0;have HC102_0:=Aside0.mk hl102_0;clear hi102_0 hl102_0;replace p102:=eq_true p102;replace q102:=eq_true q102;go_wp2_with (first|((with_reducible refine gate_dst (N:=4) rfl ?_);refine box_event ?hg (N:=4) ?hd (cs:=#[.slice none 0 0,.int .i64 0,.int .i64 0,.int .i64 0,.string (⟨#[]⟩ : ByteArray)]) (t:=61) ?hr ?_;(case hd => rfl);(case hg => rfl);(case hr => first|(go_simp;done)|(go_simp;rfl));intro gb103 hg w14 hbox hb;have BK103:=Aside0.mk (hbox);have GW103:=Aside0.mk ((bs_ : w.heap.size ≤ gb103));have GE103:=Aside0.mk ((bs_ : w.heap.size ≤ gb103));replace HB:=Aside0.mk (below_step bel_ hb);have NB101_103:=Aside0.mk ((by rw [hg];exact Nat.ne_of_lt (blk_lt (g:=gb101) (o:=.cells #[.int .i64 x102000_1,.int .i64 x102001_1] 24 (0,0)) (blk_mv BK101.out)) : gb101 ≠ gb103));have NB103_101:=Aside0.mk ((by rw [hg];exact Nat.ne_of_gt (blk_lt (g:=gb101) (o:=.cells #[.int .i64 x102000_1,.int .i64 x102001_1] 24 (0,0)) (blk_mv BK101.out)) : gb103 ≠ gb101));replace BK101:=Aside0.mk (blk_below (blk_mv BK101.out) hb);clear hb hbox hg;have hnb15:=NB103_101.out;have hnc15:=NB101_103.out;have hcz16_0:=blk_c (v:=.slice none 0 0) BK103.out 0 rfl;have hcz16_1:=blk_c (v:=.int .i64 0) BK103.out 1 rfl;have hcz16_2:=blk_c (v:=.int .i64 0) BK103.out 2 rfl;have hcz16_3:=blk_c (v:=.int .i64 0) BK103.out 3 rfl;have hcz16_4:=blk_c (v:=.string (⟨#[]⟩ : ByteArray)) BK103.out 4 rfl;have hfz16_0:=blk_frozen BK103.out 0;have hfz16_1:=blk_frozen BK103.out 1;have hfz16_2:=blk_frozen BK103.out 2;have hfz16_3:=blk_frozen BK103.out 3;have hfz16_4:=blk_frozen BK103.out 4));go_loopg [27] k1 (fun kq v27 w' => ∃ (x27_2 : Int) (x102000_2 : Int) (x102001_2 : Int),v27 = .int .i64 x27_2 ∧ Aside0 (history_Validate.l1 kq x13_1 l0 (l0.length : Int) x13_1 ((rd_T61 l0 x13_1).f0) (((rd_T61 l0 x13_1).f0).length : Int) x27_2 ((rd_T61 l0 x13_1).f0) ((rd_T61 l0 x13_1).f1) ((rd_T61 l0 x13_1).f2) ((rd_T61 l0 x13_1).f3) ((rd_T61 l0 x13_1).f4) = some (r1,r2)) ∧ Aside0 (kq ≤ k1) ∧ Aside0 (w'.heap[gb101]? = some (.cells #[.int .i64 x102000_2,.int .i64 x102001_2] 24 (0,0))) ∧ Aside0 (w'.heap[gb103]? = some (.cells #[(.slice A102_0 ((rd_T61 l0 x13_1).f0).length c102_0),.int .i64 ((rd_T61 l0 x13_1).f1),.int .i64 ((rd_T61 l0 x13_1).f2),.int .i64 ((rd_T61 l0 x13_1).f3),.string ((rd_T61 l0 x13_1).f4)] 61 (0,0))) ∧ Aside0 (Below w.heap.size w w'))
        case atStart => exact ⟨(0),(x102000_1),(x102001_1),fr_,H',⟨Nat.le_refl _⟩,⟨by refine blk_mv ?_;refine blk_far ?_ NB101_103.out _;refine blk_mv ?_;refine blk_far ?_ NB101_103.out _;refine blk_mv ?_;refine blk_far ?_ NB101_103.out _;refine blk_mv ?_;refine blk_far ?_ NB101_103.out _;refine blk_mv ?_;refine blk_far ?_ NB101_103.out _;refine blk_mv ?_;exact BK101.out⟩,⟨by refine blk_mv ?_;refine blk_put (cs:=#[.slice A102_0 ((rd_T61 l0 x13_1).f0).length c102_0,.int .i64 ((rd_T61 l0 x13_1).f1),.int .i64 ((rd_T61 l0 x13_1).f2),.int .i64 ((rd_T61 l0 x13_1).f3),.string (⟨#[]⟩ : ByteArray)]) ?_ 4 _ rfl;refine blk_mv ?_;refine blk_put (cs:=#[.slice A102_0 ((rd_T61 l0 x13_1).f0).length c102_0,.int .i64 ((rd_T61 l0 x13_1).f1),.int .i64 ((rd_T61 l0 x13_1).f2),.int .i64 0,.string (⟨#[]⟩ : ByteArray)]) ?_ 3 _ rfl;refine blk_mv ?_;refine blk_put (cs:=#[.slice A102_0 ((rd_T61 l0 x13_1).f0).length c102_0,.int .i64 ((rd_T61 l0 x13_1).f1),.int .i64 0,.int .i64 0,.string (⟨#[]⟩ : ByteArray)]) ?_ 2 _ rfl;refine blk_mv ?_;refine blk_put (cs:=#[.slice A102_0 ((rd_T61 l0 x13_1).f0).length c102_0,.int .i64 0,.int .i64 0,.int .i64 0,.string (⟨#[]⟩ : ByteArray)]) ?_ 1 _ rfl;refine blk_mv ?_;refine blk_put (cs:=#[.slice none 0 0,.int .i64 0,.int .i64 0,.int .i64 0,.string (⟨#[]⟩ : ByteArray)]) ?_ 0 _ rfl;refine blk_mv ?_;exact BK103.out⟩,⟨bel_⟩⟩
        case round =>
         clear H';(try clear c1);(try clear p1);(try clear q1);(try clear hx1);(try clear c2);(try clear c2b0);(try clear c2b1);(try clear p2);(try clear c4);(try clear c6);(try clear c6b0);(try clear c7);(try clear c7b0);(try clear c8);(try clear c8b0);(try clear c9);(try clear c9b0);(try clear c9b1);(try clear c10);(try clear p10);(try clear q10);(try clear hx10);(try clear c11);(try clear c15);(try clear hcz12_0);(try clear hcz12_1);(try clear hcz12_2);(try clear hcz12_3);(try clear hcz12_4);(try clear hcz13_0);(try clear hcz13_1);(try clear hcz16_0);(try clear hcz16_1);(try clear hcz16_2);(try clear hcz16_3);(try clear hcz16_4);(try clear hcz4_0);(try clear hcz4_1);(try clear hfz12_0);(try clear hfz12_1);(try clear hfz12_2);(try clear hfz12_3);(try clear hfz12_4);(try clear hfz13_0);(try clear hfz13_1);(try clear hfz16_0);(try clear hfz16_1);(try clear hfz16_2);(try clear hfz16_3);(try clear hfz16_4);(try clear hfz4_0);(try clear hfz4_1);(try clear hx102_0);(try clear hx102_1);(try clear hx102_2);(try clear hx102_3);(try clear hx102_4);(try clear p102);(try clear p2);(try clear q102);obtain ⟨x27_2,x102000_2,x102001_2,rfl,HA,HK2,BK101,BK103,HB⟩:=hrel;cases gk with
         | zero => exact absurd HA.out (by simp [history_Validate.l1])
         | succ k2 =>
          have H:=HA.out;clear HA;simp only [history_Validate.l1] at H;by_cases c17 : x27_2 < (((rd_T61 l0 x13_1).f0).length : Int)
          ·rw [if_pos c17] at H
           have c17b0 : decide (x27_2 < (((rd_T61 l0 x13_1).f0).length : Int)) = true:=decide_eq_true c17;clear c17;by_cases c18 : 0 ≤ x27_2
           ·rw [if_pos c18] at H
            have c18b0 : decide (0 ≤ x27_2) = true:=decide_eq_true c18;clear c18;by_cases c19 : x27_2 < (((rd_T61 l0 x13_1).f0).length : Int)
            ·rw [if_pos c19] at H
             have c19b0 : decide (x27_2 < (((rd_T61 l0 x13_1).f0).length : Int)) = true:=decide_eq_true c19;clear c19;have HC20:=Aside0.mk H;clear H;have p104 : 0 ≤ (x27_2 : Int):=of_decide_eq_true as_;have q104 : x27_2 < (((rd_T61 l0 x13_1).f0).length : Int):=of_decide_eq_true as_;obtain ⟨ad104,e104,hx104_0⟩:=Kd.at_int HR102_0.out x27_2 p104 q104;cases e104
             replace hx104_0:=(HB.out.cell (World.block_lt_of_cell? w _ hx104_0)).trans hx104_0;replace p104:=eq_true p104;replace q104:=eq_true q104;go_upto_region 11 with (fail);go_cut [38] (fun v38 wc => ∃ (kq : Nat) (x38_19 : Bool),v38 = .bool x38_19 ∧ Aside0 (history_Validate.j2 kq x13_1 x27_2 (rd ((rd_T61 l0 x13_1).f0) x27_2) l0 (l0.length : Int) x13_1 ((rd_T61 l0 x13_1).f0) (((rd_T61 l0 x13_1).f0).length : Int) x27_2 x38_19 ((rd_T61 l0 x13_1).f0) ((rd_T61 l0 x13_1).f1) ((rd_T61 l0 x13_1).f2) ((rd_T61 l0 x13_1).f3) ((rd_T61 l0 x13_1).f4) = some (r1,r2)) ∧ Aside0 (kq ≤ k2) ∧ Aside0 (wc.heap[gb101]? = some (.cells #[.int .i64 x102000_2,.int .i64 x102001_2] 24 (0,0))) ∧ Aside0 (wc.heap[gb103]? = some (.cells #[(.slice (some ad104) ((rd_T61 l0 x13_1).f0).length c102_0),.int .i64 ((rd_T61 l0 x13_1).f1),.int .i64 ((rd_T61 l0 x13_1).f2),.int .i64 ((rd_T61 l0 x13_1).f3),.string ((rd_T61 l0 x13_1).f4)] 61 (0,0))) ∧ Aside0 (Below w.heap.size w wc))
             case first =>
              have H:=HC20.out;clear HC20;by_cases c21 : (rd ((rd_T61 l0 x13_1).f0) x27_2) < 0
              ·rw [if_pos c21] at H
               have c21b0 : decide ((rd ((rd_T61 l0 x13_1).f0) x27_2) < 0) = true:=decide_eq_true c21;clear c21;(first|rw [c21b0]|(simp only [i64_w,i32_w];rw [c21b0])|skip);have H':=Aside0.mk H;clear H;go_wp2;go_meet
               case rel => exact ⟨_,(true),fr_,H',⟨by have:=HK1.out;have:=HK2.out;first|omega|exact Nat.le_refl _⟩,⟨blk_mv BK101.out⟩,⟨blk_mv BK103.out⟩,⟨bel_⟩⟩
              ·rw [if_neg c21] at H
               have c21b0 : decide ((rd ((rd_T61 l0 x13_1).f0) x27_2) < 0) = false:=decide_eq_false c21;clear c21;(first|rw [c21b0]|(simp only [i64_w,i32_w];rw [c21b0])|skip);have H':=Aside0.mk H;clear H;go_wp2;go_meet
               case rel => exact ⟨_,(decide ((rd ((rd_T61 l0 x13_1).f0) x27_2) ≥ x13_1)),fr_,H',⟨by have:=HK1.out;have:=HK2.out;first|omega|exact Nat.le_refl _⟩,⟨blk_mv BK101.out⟩,⟨blk_mv BK103.out⟩,⟨bel_⟩⟩
             case rest =>
              clear HC20;(try clear c1);(try clear p1);(try clear q1);(try clear hx1);(try clear c2);(try clear c2b0);(try clear c2b1);(try clear p2);(try clear c4);(try clear c6);(try clear c6b0);(try clear c7);(try clear c7b0);(try clear c8);(try clear c8b0);(try clear c9);(try clear c9b0);(try clear c9b1);(try clear c10);(try clear p10);(try clear q10);(try clear hx10);(try clear c11);(try clear c15);(try clear c17);(try clear c17b0);(try clear c18);(try clear c18b0);(try clear c19);(try clear c19b0);(try clear c21);(try clear c21b0);(try clear hcz12_0);(try clear hcz12_1);(try clear hcz12_2);(try clear hcz12_3);(try clear hcz12_4);(try clear hcz13_0);(try clear hcz13_1);(try clear hcz16_0);(try clear hcz16_1);(try clear hcz16_2);(try clear hcz16_3);(try clear hcz16_4);(try clear hcz4_0);(try clear hcz4_1);(try clear hfz12_0);(try clear hfz12_1);(try clear hfz12_2);(try clear hfz12_3);(try clear hfz12_4);(try clear hfz13_0);(try clear hfz13_1);(try clear hfz16_0);(try clear hfz16_1);(try clear hfz16_2);(try clear hfz16_3);(try clear hfz16_4);(try clear hfz4_0);(try clear hfz4_1);(try clear hx102_0);(try clear hx102_1);(try clear hx102_2);(try clear hx102_3);(try clear hx102_4);(try clear hx104_0);(try clear p1);(try clear p10);(try clear p102);(try clear p104);(try clear p2);(try clear q1);(try clear q10);(try clear q102);(try clear q104);obtain ⟨kq,x38_19,rfl,HA,HJ19,BK101,BK103,HB⟩:=hcut;cases kq with
              | zero => exact absurd HA.out (by simp [history_Validate.j2])
              | succ kj19 =>
               have H:=HA.out;clear HA;simp only [history_Validate.j2] at H;by_cases c22 : x38_19 = true
               ·subst c22
                have H1 : (some (3,x13_1)) = some (r1,r2):=by rw [if_pos rfl] at H;exact H
                clear H;have H:=H1;clear H1;simp only [Option.some.injEq,Prod.mk.injEq] at H;obtain ⟨rfl,rfl⟩:=H;have hnb23:=NB101_103.out;have hnc23:=NB103_101.out;have hcz24_0:=blk_c (v:=.int .i64 x102000_2) BK101.out 0 rfl;have hcz24_1:=blk_c (v:=.int .i64 x102001_2) BK101.out 1 rfl;have hfz24_0:=blk_frozen BK101.out 0;have hfz24_1:=blk_frozen BK101.out 1;go_wp2;refine bodyPost_ret (results_cell_row rfl _ _ gb101 24 #[.int .i64 3,.int .i64 x13_1] (0,0) _ rfl (by refine blk_mv ?_;refine blk_put (cs:=#[.int .i64 3,.int .i64 x102001_2]) ?_ 1 _ rfl;refine blk_mv ?_;refine blk_put (cs:=#[.int .i64 x102000_2,.int .i64 x102001_2]) ?_ 0 _ rfl;refine blk_mv ?_;exact BK101.out) Try.underlying24 rfl (by kernel_rfl)) rfl ?_;exact ⟨by first|rfl|(simp [errW_none,errW_some] <;> rfl)|(simp [*,errW_none,errW_some] <;> rfl),bel_⟩
               ·replace c22:=Bool.eq_false_iff.mpr c22
                subst c22;have H1 : (if x27_2 > 0 then (if 0 ≤ (wrap64 (x27_2 - 1)) then (if (wrap64 (x27_2 - 1)) < (((rd_T61 l0 x13_1).f0).length : Int) then (if (rd ((rd_T61 l0 x13_1).f0) (wrap64 (x27_2 - 1))) ≥ (rd ((rd_T61 l0 x13_1).f0) x27_2) then (some (5,x13_1)) else (history_Validate.l1 kj19 x13_1 l0 (l0.length : Int) x13_1 ((rd_T61 l0 x13_1).f0) (((rd_T61 l0 x13_1).f0).length : Int) (wrap64 (x27_2 + 1)) ((rd_T61 l0 x13_1).f0) ((rd_T61 l0 x13_1).f1) ((rd_T61 l0 x13_1).f2) ((rd_T61 l0 x13_1).f3) ((rd_T61 l0 x13_1).f4))) else (none)) else (none)) else (history_Validate.l1 kj19 x13_1 l0 (l0.length : Int) x13_1 ((rd_T61 l0 x13_1).f0) (((rd_T61 l0 x13_1).f0).length : Int) (wrap64 (x27_2 + 1)) ((rd_T61 l0 x13_1).f0) ((rd_T61 l0 x13_1).f1) ((rd_T61 l0 x13_1).f2) ((rd_T61 l0 x13_1).f3) ((rd_T61 l0 x13_1).f4))) = some (r1,r2):=by rw [if_neg (show ¬ (false = true) by decide)] at H;exact H
                clear H;have H:=H1;clear H1;by_cases c25 : x27_2 > 0
                ·rw [if_pos c25] at H
                 have c25b0 : decide (0 < x27_2) = true:=decide_eq_true c25;clear c25;obtain ⟨ji26,hji26⟩ : ∃ j_ : Int,(wrap64 (x27_2 - 1)) = j_:=⟨_,rfl⟩;replace H : (if 0 ≤ (ji26) then (if (ji26) < (((rd_T61 l0 x13_1).f0).length : Int) then (if (rd ((rd_T61 l0 x13_1).f0) (ji26)) ≥ (rd ((rd_T61 l0 x13_1).f0) x27_2) then (some (5,x13_1)) else (history_Validate.l1 kj19 x13_1 l0 (l0.length : Int) x13_1 ((rd_T61 l0 x13_1).f0) (((rd_T61 l0 x13_1).f0).length : Int) (wrap64 (x27_2 + 1)) ((rd_T61 l0 x13_1).f0) ((rd_T61 l0 x13_1).f1) ((rd_T61 l0 x13_1).f2) ((rd_T61 l0 x13_1).f3) ((rd_T61 l0 x13_1).f4))) else (none)) else (none)) = some (r1,r2):=by first|(rw [hji26] at H;exact H)|(simp only [hji26] at H ⊢;exact H)
                 have hji26w : (IntKind.i64.wrap (x27_2 - 1)) = ji26:=(i64_w _).trans hji26;by_cases c27 : 0 ≤ (ji26)
                 ·rw [if_pos c27] at H
                  have c27b0 : decide (0 ≤ (ji26)) = true:=decide_eq_true c27;clear c27;by_cases c28 : (ji26) < (((rd_T61 l0 x13_1).f0).length : Int)
                  ·rw [if_pos c28] at H
                   have c28b0 : decide ((ji26) < (((rd_T61 l0 x13_1).f0).length : Int)) = true:=decide_eq_true c28;clear c28;by_cases c29 : (rd ((rd_T61 l0 x13_1).f0) (ji26)) ≥ (rd ((rd_T61 l0 x13_1).f0) x27_2)
                   ·rw [if_pos c29] at H
                    have c29b0 : decide ((rd ((rd_T61 l0 x13_1).f0) x27_2) ≤ (rd ((rd_T61 l0 x13_1).f0) (ji26))) = true:=decide_eq_true c29;clear c29;simp only [Option.some.injEq,Prod.mk.injEq] at H;obtain ⟨rfl,rfl⟩:=H;have hnb30:=NB103_101.out;have hnc30:=NB101_103.out;have hcz31_0:=blk_c (v:=.slice (some ad104) ((rd_T61 l0 x13_1).f0).length c102_0) BK103.out 0 rfl;have hcz31_1:=blk_c (v:=.int .i64 ((rd_T61 l0 x13_1).f1)) BK103.out 1 rfl;have hcz31_2:=blk_c (v:=.int .i64 ((rd_T61 l0 x13_1).f2)) BK103.out 2 rfl;have hcz31_3:=blk_c (v:=.int .i64 ((rd_T61 l0 x13_1).f3)) BK103.out 3 rfl;have hcz31_4:=blk_c (v:=.string ((rd_T61 l0 x13_1).f4)) BK103.out 4 rfl;have hfz31_0:=blk_frozen BK103.out 0;have hfz31_1:=blk_frozen BK103.out 1;have hfz31_2:=blk_frozen BK103.out 2;have hfz31_3:=blk_frozen BK103.out 3;have hfz31_4:=blk_frozen BK103.out 4;have p105 : 0 ≤ ((ji26) : Int):=of_decide_eq_true as_;have q105 : (ji26) < (((rd_T61 l0 x13_1).f0).length : Int):=of_decide_eq_true as_;obtain ⟨ad105,e105,hx105_0⟩:=Kd.at_int HR102_0.out (ji26) p105 q105;obtain rfl : ad104 = ad105:=(by injection e105);replace hx105_0:=(HB.out.cell (World.block_lt_of_cell? w _ hx105_0)).trans hx105_0;replace p105:=eq_true p105;replace q105:=eq_true q105;have hcz32_0:=blk_c (v:=.int .i64 x102000_2) BK101.out 0 rfl;have hcz32_1:=blk_c (v:=.int .i64 x102001_2) BK101.out 1 rfl;have hfz32_0:=blk_frozen BK101.out 0;have hfz32_1:=blk_frozen BK101.out 1;go_wp2;refine bodyPost_ret (results_cell_row rfl _ _ gb101 24 #[.int .i64 5,.int .i64 x13_1] (0,0) _ rfl (by refine blk_mv ?_;refine blk_put (cs:=#[.int .i64 5,.int .i64 x102001_2]) ?_ 1 _ rfl;refine blk_mv ?_;refine blk_put (cs:=#[.int .i64 x102000_2,.int .i64 x102001_2]) ?_ 0 _ rfl;refine blk_mv ?_;exact BK101.out) Try.underlying24 rfl (by kernel_rfl)) rfl ?_;exact ⟨by first|rfl|(simp [errW_none,errW_some] <;> rfl)|(simp only [← hji26];first|rfl|(simp [errW_none,errW_some] <;> rfl))|(simp [*,errW_none,errW_some] <;> rfl),bel_⟩
                   ·rw [if_neg c29] at H
                    have c29b0 : decide ((rd ((rd_T61 l0 x13_1).f0) x27_2) ≤ (rd ((rd_T61 l0 x13_1).f0) (ji26))) = false:=decide_eq_false c29;clear c29;have H':=Aside0.mk H;clear H;have hnb33:=NB103_101.out;have hnc33:=NB101_103.out;have hcz34_0:=blk_c (v:=.slice (some ad104) ((rd_T61 l0 x13_1).f0).length c102_0) BK103.out 0 rfl;have hcz34_1:=blk_c (v:=.int .i64 ((rd_T61 l0 x13_1).f1)) BK103.out 1 rfl;have hcz34_2:=blk_c (v:=.int .i64 ((rd_T61 l0 x13_1).f2)) BK103.out 2 rfl;have hcz34_3:=blk_c (v:=.int .i64 ((rd_T61 l0 x13_1).f3)) BK103.out 3 rfl;have hcz34_4:=blk_c (v:=.string ((rd_T61 l0 x13_1).f4)) BK103.out 4 rfl;have hfz34_0:=blk_frozen BK103.out 0;have hfz34_1:=blk_frozen BK103.out 1;have hfz34_2:=blk_frozen BK103.out 2;have hfz34_3:=blk_frozen BK103.out 3;have hfz34_4:=blk_frozen BK103.out 4;have p105 : 0 ≤ ((ji26) : Int):=of_decide_eq_true as_;have q105 : (ji26) < (((rd_T61 l0 x13_1).f0).length : Int):=of_decide_eq_true as_;obtain ⟨ad105,e105,hx105_0⟩:=Kd.at_int HR102_0.out (ji26) p105 q105;obtain rfl : ad104 = ad105:=(by injection e105);replace hx105_0:=(HB.out.cell (World.block_lt_of_cell? w _ hx105_0)).trans hx105_0;replace p105:=eq_true p105;replace q105:=eq_true q105;go_wp2;go_roundg kj19
                    case measure => have:=HK1.out;have:=HK2.out;have:=HJ19.out;omega
                    case rel => exact ⟨(wrap64 (x27_2 + 1)),(x102000_2),(x102001_2),fr_,H',⟨by have:=HK1.out;have:=HK2.out;have:=HJ19.out;omega⟩,⟨blk_mv BK101.out⟩,⟨blk_mv BK103.out⟩,⟨bel_⟩⟩
                  ·rw [if_neg c28] at H
                   exact absurd H (by simp)
                 ·rw [if_neg c27] at H
                  exact absurd H (by simp)
                ·rw [if_neg c25] at H
                 have c25b0 : decide (0 < x27_2) = false:=decide_eq_false c25;clear c25;have H':=Aside0.mk H;clear H;go_wp2;go_roundg kj19
                 case measure => have:=HK1.out;have:=HK2.out;have:=HJ19.out;omega
                 case rel => exact ⟨(wrap64 (x27_2 + 1)),(x102000_2),(x102001_2),fr_,H',⟨by have:=HK1.out;have:=HK2.out;have:=HJ19.out;omega⟩,⟨blk_mv BK101.out⟩,⟨blk_mv BK103.out⟩,⟨bel_⟩⟩
            ·rw [if_neg c19] at H
             exact absurd H (by simp)
           ·rw [if_neg c18] at H
            exact absurd H (by simp)
          ·rw [if_neg c17] at H
           have c17b0 : decide (x27_2 < (((rd_T61 l0 x13_1).f0).length : Int)) = false:=decide_eq_false c17;clear c17;have HC35:=Aside0.mk H;clear H;go_upto_region 16 with (fail);go_cut [56] (fun v56 wc => ∃ (kq : Nat) (x56_34 : Bool),v56 = .bool x56_34 ∧ Aside0 (history_Validate.j3 kq x13_1 l0 (l0.length : Int) x13_1 x56_34 ((rd_T61 l0 x13_1).f0) ((rd_T61 l0 x13_1).f1) ((rd_T61 l0 x13_1).f2) ((rd_T61 l0 x13_1).f3) ((rd_T61 l0 x13_1).f4) = some (r1,r2)) ∧ Aside0 (kq ≤ k2) ∧ Aside0 (wc.heap[gb101]? = some (.cells #[.int .i64 x102000_2,.int .i64 x102001_2] 24 (0,0))) ∧ Aside0 (wc.heap[gb103]? = some (.cells #[(.slice A102_0 ((rd_T61 l0 x13_1).f0).length c102_0),.int .i64 ((rd_T61 l0 x13_1).f1),.int .i64 ((rd_T61 l0 x13_1).f2),.int .i64 ((rd_T61 l0 x13_1).f3),.string ((rd_T61 l0 x13_1).f4)] 61 (0,0))) ∧ Aside0 (Below w.heap.size w wc))
           case first =>
            have H:=HC35.out;clear HC35;by_cases c36 : ((rd_T61 l0 x13_1).f1) < 0
            ·rw [if_pos c36] at H
             have c36b0 : decide (((rd_T61 l0 x13_1).f1) < 0) = true:=decide_eq_true c36;clear c36;(first|rw [c36b0]|(simp only [i64_w,i32_w];rw [c36b0])|skip);have H':=Aside0.mk H;clear H;have hnb37:=NB103_101.out;have hnc37:=NB101_103.out;have hcz38_0:=blk_c (v:=.slice A102_0 ((rd_T61 l0 x13_1).f0).length c102_0) BK103.out 0 rfl;have hcz38_1:=blk_c (v:=.int .i64 ((rd_T61 l0 x13_1).f1)) BK103.out 1 rfl;have hcz38_2:=blk_c (v:=.int .i64 ((rd_T61 l0 x13_1).f2)) BK103.out 2 rfl;have hcz38_3:=blk_c (v:=.int .i64 ((rd_T61 l0 x13_1).f3)) BK103.out 3 rfl;have hcz38_4:=blk_c (v:=.string ((rd_T61 l0 x13_1).f4)) BK103.out 4 rfl;have hfz38_0:=blk_frozen BK103.out 0;have hfz38_1:=blk_frozen BK103.out 1;have hfz38_2:=blk_frozen BK103.out 2;have hfz38_3:=blk_frozen BK103.out 3;have hfz38_4:=blk_frozen BK103.out 4;go_wp2;go_meet
             case rel => exact ⟨_,(true),fr_,H',⟨by have:=HK1.out;have:=HK2.out;first|omega|exact Nat.le_refl _⟩,⟨blk_mv BK101.out⟩,⟨blk_mv BK103.out⟩,⟨bel_⟩⟩
            ·rw [if_neg c36] at H
             have c36b0 : decide (((rd_T61 l0 x13_1).f1) < 0) = false:=decide_eq_false c36;clear c36;(first|rw [c36b0]|(simp only [i64_w,i32_w];rw [c36b0])|skip);have H':=Aside0.mk H;clear H;have hnb39:=NB103_101.out;have hnc39:=NB101_103.out;have hcz40_0:=blk_c (v:=.slice A102_0 ((rd_T61 l0 x13_1).f0).length c102_0) BK103.out 0 rfl;have hcz40_1:=blk_c (v:=.int .i64 ((rd_T61 l0 x13_1).f1)) BK103.out 1 rfl;have hcz40_2:=blk_c (v:=.int .i64 ((rd_T61 l0 x13_1).f2)) BK103.out 2 rfl;have hcz40_3:=blk_c (v:=.int .i64 ((rd_T61 l0 x13_1).f3)) BK103.out 3 rfl;have hcz40_4:=blk_c (v:=.string ((rd_T61 l0 x13_1).f4)) BK103.out 4 rfl;have hfz40_0:=blk_frozen BK103.out 0;have hfz40_1:=blk_frozen BK103.out 1;have hfz40_2:=blk_frozen BK103.out 2;have hfz40_3:=blk_frozen BK103.out 3;have hfz40_4:=blk_frozen BK103.out 4;go_wp2;go_meet
             case rel => exact ⟨_,(decide (((rd_T61 l0 x13_1).f1) > 7)),fr_,H',⟨by have:=HK1.out;have:=HK2.out;first|omega|exact Nat.le_refl _⟩,⟨blk_mv BK101.out⟩,⟨blk_mv BK103.out⟩,⟨bel_⟩⟩
           case rest =>
            clear HC35;(try clear c1);(try clear p1);(try clear q1);(try clear hx1);(try clear c2);(try clear c2b0);(try clear c2b1);(try clear p2);(try clear c3);(try clear c4);(try clear c6);(try clear c6b0);(try clear p6);(try clear c7);(try clear c7b0);(try clear c8);(try clear c8b0);(try clear c9);(try clear c9b0);(try clear c9b1);(try clear c10);(try clear p10);(try clear q10);(try clear hx10);(try clear c11);(try clear c15);(try clear c17);(try clear c17b0);(try clear c18);(try clear c18b0);(try clear c19);(try clear c19b0);(try clear c21);(try clear c21b0);(try clear c22);(try clear c23);(try clear c25);(try clear c25b0);(try clear c27);(try clear c27b0);(try clear c28);(try clear c28b0);(try clear c29);(try clear c29b0);(try clear c30);(try clear c33);(try clear c36);(try clear c36b0);(try clear c37);(try clear c39);(try clear hcz12_0);(try clear hcz12_1);(try clear hcz12_2);(try clear hcz12_3);(try clear hcz12_4);(try clear hcz13_0);(try clear hcz13_1);(try clear hcz16_0);(try clear hcz16_1);(try clear hcz16_2);(try clear hcz16_3);(try clear hcz16_4);(try clear hcz24_0);(try clear hcz24_1);(try clear hcz31_0);(try clear hcz31_1);(try clear hcz31_2);(try clear hcz31_3);(try clear hcz31_4);(try clear hcz32_0);(try clear hcz32_1);(try clear hcz34_0);(try clear hcz34_1);(try clear hcz34_2);(try clear hcz34_3);(try clear hcz34_4);(try clear hcz38_0);(try clear hcz38_1);(try clear hcz38_2);(try clear hcz38_3);(try clear hcz38_4);(try clear hcz40_0);(try clear hcz40_1);(try clear hcz40_2);(try clear hcz40_3);(try clear hcz40_4);(try clear hcz4_0);(try clear hcz4_1);(try clear hfz12_0);(try clear hfz12_1);(try clear hfz12_2);(try clear hfz12_3);(try clear hfz12_4);(try clear hfz13_0);(try clear hfz13_1);(try clear hfz16_0);(try clear hfz16_1);(try clear hfz16_2);(try clear hfz16_3);(try clear hfz16_4);(try clear hfz24_0);(try clear hfz24_1);(try clear hfz31_0);(try clear hfz31_1);(try clear hfz31_2);(try clear hfz31_3);(try clear hfz31_4);(try clear hfz32_0);(try clear hfz32_1);(try clear hfz34_0);(try clear hfz34_1);(try clear hfz34_2);(try clear hfz34_3);(try clear hfz34_4);(try clear hfz38_0);(try clear hfz38_1);(try clear hfz38_2);(try clear hfz38_3);(try clear hfz38_4);(try clear hfz40_0);(try clear hfz40_1);(try clear hfz40_2);(try clear hfz40_3);(try clear hfz40_4);(try clear hfz4_0);(try clear hfz4_1);(try clear hx102_0);(try clear hx102_1);(try clear hx102_2);(try clear hx102_3);(try clear hx102_4);(try clear hx104_0);(try clear hx105_0);(try clear p1);(try clear p10);(try clear p102);(try clear p104);(try clear p105);(try clear p2);(try clear q1);(try clear q10);(try clear q102);(try clear q104);(try clear q105);obtain ⟨kq,x56_34,rfl,HA,HJ34,BK101,BK103,HB⟩:=hcut;cases kq with
            | zero => exact absurd HA.out (by simp [history_Validate.j3])
            | succ kj34 =>
             have H:=HA.out;clear HA;simp only [history_Validate.j3] at H;have HC41:=Aside0.mk H;clear H;go_upto_if 56 with (fail);go_cut [56] (fun v56 wc => ∃ (kq : Nat) (x56_40 : Bool),v56 = .bool x56_40 ∧ Aside0 (history_Validate.j4 kq x13_1 l0 (l0.length : Int) x13_1 x56_40 ((rd_T61 l0 x13_1).f0) ((rd_T61 l0 x13_1).f1) ((rd_T61 l0 x13_1).f2) ((rd_T61 l0 x13_1).f3) ((rd_T61 l0 x13_1).f4) = some (r1,r2)) ∧ Aside0 (kq ≤ kj34) ∧ Aside0 (wc.heap[gb101]? = some (.cells #[.int .i64 x102000_2,.int .i64 x102001_2] 24 (0,0))) ∧ Aside0 (wc.heap[gb103]? = some (.cells #[(.slice A102_0 ((rd_T61 l0 x13_1).f0).length c102_0),.int .i64 ((rd_T61 l0 x13_1).f1),.int .i64 ((rd_T61 l0 x13_1).f2),.int .i64 ((rd_T61 l0 x13_1).f3),.string ((rd_T61 l0 x13_1).f4)] 61 (0,0))) ∧ Aside0 (Below w.heap.size w wc))
             case first =>
              have H:=HC41.out;clear HC41;by_cases c42 : x56_34 = true
              ·subst c42
               have H1 : (history_Validate.j4 kj34 x13_1 l0 (l0.length : Int) x13_1 true ((rd_T61 l0 x13_1).f0) ((rd_T61 l0 x13_1).f1) ((rd_T61 l0 x13_1).f2) ((rd_T61 l0 x13_1).f3) ((rd_T61 l0 x13_1).f4)) = some (r1,r2):=by rw [if_pos rfl] at H;exact H
               clear H;have H:=H1;clear H1;have H':=Aside0.mk H;clear H;go_wp2;go_meet
               case rel => exact ⟨_,(true),fr_,H',⟨by have:=HK1.out;have:=HK2.out;have:=HJ34.out;first|omega|exact Nat.le_refl _⟩,⟨blk_mv BK101.out⟩,⟨blk_mv BK103.out⟩,⟨bel_⟩⟩
              ·replace c42:=Bool.eq_false_iff.mpr c42
               subst c42;have H1 : (if ((rd_T61 l0 x13_1).f2) < 0 then (history_Validate.j4 kj34 x13_1 l0 (l0.length : Int) x13_1 true ((rd_T61 l0 x13_1).f0) ((rd_T61 l0 x13_1).f1) ((rd_T61 l0 x13_1).f2) ((rd_T61 l0 x13_1).f3) ((rd_T61 l0 x13_1).f4)) else (if ((rd_T61 l0 x13_1).f2) > 100000 then (history_Validate.j4 kj34 x13_1 l0 (l0.length : Int) x13_1 (decide (((rd_T61 l0 x13_1).f2) > 100000)) ((rd_T61 l0 x13_1).f0) ((rd_T61 l0 x13_1).f1) ((rd_T61 l0 x13_1).f2) ((rd_T61 l0 x13_1).f3) ((rd_T61 l0 x13_1).f4)) else (if ((rd_T61 l0 x13_1).f3) < 0 then (history_Validate.j4 kj34 x13_1 l0 (l0.length : Int) x13_1 true ((rd_T61 l0 x13_1).f0) ((rd_T61 l0 x13_1).f1) ((rd_T61 l0 x13_1).f2) ((rd_T61 l0 x13_1).f3) ((rd_T61 l0 x13_1).f4)) else (history_Validate.j4 kj34 x13_1 l0 (l0.length : Int) x13_1 (decide (((rd_T61 l0 x13_1).f3) ≥ 2305843009213693951)) ((rd_T61 l0 x13_1).f0) ((rd_T61 l0 x13_1).f1) ((rd_T61 l0 x13_1).f2) ((rd_T61 l0 x13_1).f3) ((rd_T61 l0 x13_1).f4))))) = some (r1,r2):=by rw [if_neg (show ¬ (false = true) by decide)] at H;exact H
               clear H;have H:=H1;clear H1;by_cases c43 : ((rd_T61 l0 x13_1).f2) < 0
               ·rw [if_pos c43] at H
                have c43b0 : decide (((rd_T61 l0 x13_1).f2) < 0) = true:=decide_eq_true c43;clear c43;(first|rw [c43b0]|(simp only [i64_w,i32_w];rw [c43b0])|skip);have H':=Aside0.mk H;clear H;have hnb44:=NB103_101.out;have hnc44:=NB101_103.out;have hcz45_0:=blk_c (v:=.slice A102_0 ((rd_T61 l0 x13_1).f0).length c102_0) BK103.out 0 rfl;have hcz45_1:=blk_c (v:=.int .i64 ((rd_T61 l0 x13_1).f1)) BK103.out 1 rfl;have hcz45_2:=blk_c (v:=.int .i64 ((rd_T61 l0 x13_1).f2)) BK103.out 2 rfl;have hcz45_3:=blk_c (v:=.int .i64 ((rd_T61 l0 x13_1).f3)) BK103.out 3 rfl;have hcz45_4:=blk_c (v:=.string ((rd_T61 l0 x13_1).f4)) BK103.out 4 rfl;have hfz45_0:=blk_frozen BK103.out 0;have hfz45_1:=blk_frozen BK103.out 1;have hfz45_2:=blk_frozen BK103.out 2;have hfz45_3:=blk_frozen BK103.out 3;have hfz45_4:=blk_frozen BK103.out 4;go_wp2;go_meet
                case rel => exact ⟨_,(true),fr_,H',⟨by have:=HK1.out;have:=HK2.out;have:=HJ34.out;first|omega|exact Nat.le_refl _⟩,⟨blk_mv BK101.out⟩,⟨blk_mv BK103.out⟩,⟨bel_⟩⟩
               ·rw [if_neg c43] at H
                have c43b0 : decide (((rd_T61 l0 x13_1).f2) < 0) = false:=decide_eq_false c43;clear c43;(first|rw [c43b0]|(simp only [i64_w,i32_w];rw [c43b0])|skip);by_cases c46 : ((rd_T61 l0 x13_1).f2) > 100000
                ·rw [if_pos c46] at H
                 have c46b0 : decide (100000 < ((rd_T61 l0 x13_1).f2)) = true:=decide_eq_true c46;clear c46;have H':=Aside0.mk H;clear H;have hnb47:=NB103_101.out;have hnc47:=NB101_103.out;have hcz48_0:=blk_c (v:=.slice A102_0 ((rd_T61 l0 x13_1).f0).length c102_0) BK103.out 0 rfl;have hcz48_1:=blk_c (v:=.int .i64 ((rd_T61 l0 x13_1).f1)) BK103.out 1 rfl;have hcz48_2:=blk_c (v:=.int .i64 ((rd_T61 l0 x13_1).f2)) BK103.out 2 rfl;have hcz48_3:=blk_c (v:=.int .i64 ((rd_T61 l0 x13_1).f3)) BK103.out 3 rfl;have hcz48_4:=blk_c (v:=.string ((rd_T61 l0 x13_1).f4)) BK103.out 4 rfl;have hfz48_0:=blk_frozen BK103.out 0;have hfz48_1:=blk_frozen BK103.out 1;have hfz48_2:=blk_frozen BK103.out 2;have hfz48_3:=blk_frozen BK103.out 3;have hfz48_4:=blk_frozen BK103.out 4;go_wp2;go_meet
                 case rel => exact ⟨_,(decide (((rd_T61 l0 x13_1).f2) > 100000)),fr_,H',⟨by have:=HK1.out;have:=HK2.out;have:=HJ34.out;first|omega|exact Nat.le_refl _⟩,⟨blk_mv BK101.out⟩,⟨blk_mv BK103.out⟩,⟨bel_⟩⟩
                ·rw [if_neg c46] at H
                 have c46b0 : decide (100000 < ((rd_T61 l0 x13_1).f2)) = false:=decide_eq_false c46;clear c46;by_cases c49 : ((rd_T61 l0 x13_1).f3) < 0
                 ·rw [if_pos c49] at H
                  have c49b0 : decide (((rd_T61 l0 x13_1).f3) < 0) = true:=decide_eq_true c49;clear c49;have H':=Aside0.mk H;clear H;have hnb50:=NB103_101.out;have hnc50:=NB101_103.out;have hcz51_0:=blk_c (v:=.slice A102_0 ((rd_T61 l0 x13_1).f0).length c102_0) BK103.out 0 rfl;have hcz51_1:=blk_c (v:=.int .i64 ((rd_T61 l0 x13_1).f1)) BK103.out 1 rfl;have hcz51_2:=blk_c (v:=.int .i64 ((rd_T61 l0 x13_1).f2)) BK103.out 2 rfl;have hcz51_3:=blk_c (v:=.int .i64 ((rd_T61 l0 x13_1).f3)) BK103.out 3 rfl;have hcz51_4:=blk_c (v:=.string ((rd_T61 l0 x13_1).f4)) BK103.out 4 rfl;have hfz51_0:=blk_frozen BK103.out 0;have hfz51_1:=blk_frozen BK103.out 1;have hfz51_2:=blk_frozen BK103.out 2;have hfz51_3:=blk_frozen BK103.out 3;have hfz51_4:=blk_frozen BK103.out 4;go_wp2;go_meet
                  case rel => exact ⟨_,(true),fr_,H',⟨by have:=HK1.out;have:=HK2.out;have:=HJ34.out;first|omega|exact Nat.le_refl _⟩,⟨blk_mv BK101.out⟩,⟨blk_mv BK103.out⟩,⟨bel_⟩⟩
                 ·rw [if_neg c49] at H
                  have c49b0 : decide (((rd_T61 l0 x13_1).f3) < 0) = false:=decide_eq_false c49;clear c49;have H':=Aside0.mk H;clear H;have hnb52:=NB103_101.out;have hnc52:=NB101_103.out;have hcz53_0:=blk_c (v:=.slice A102_0 ((rd_T61 l0 x13_1).f0).length c102_0) BK103.out 0 rfl;have hcz53_1:=blk_c (v:=.int .i64 ((rd_T61 l0 x13_1).f1)) BK103.out 1 rfl;have hcz53_2:=blk_c (v:=.int .i64 ((rd_T61 l0 x13_1).f2)) BK103.out 2 rfl;have hcz53_3:=blk_c (v:=.int .i64 ((rd_T61 l0 x13_1).f3)) BK103.out 3 rfl;have hcz53_4:=blk_c (v:=.string ((rd_T61 l0 x13_1).f4)) BK103.out 4 rfl;have hfz53_0:=blk_frozen BK103.out 0;have hfz53_1:=blk_frozen BK103.out 1;have hfz53_2:=blk_frozen BK103.out 2;have hfz53_3:=blk_frozen BK103.out 3;have hfz53_4:=blk_frozen BK103.out 4;go_wp2;go_meet
                  case rel => exact ⟨_,(decide (((rd_T61 l0 x13_1).f3) ≥ 2305843009213693951)),fr_,H',⟨by have:=HK1.out;have:=HK2.out;have:=HJ34.out;first|omega|exact Nat.le_refl _⟩,⟨blk_mv BK101.out⟩,⟨blk_mv BK103.out⟩,⟨bel_⟩⟩
             case rest =>
              clear HC41;(try clear c1);(try clear p1);(try clear q1);(try clear hx1);(try clear c2);(try clear c2b0);(try clear c2b1);(try clear p2);(try clear c3);(try clear c4);(try clear c5);(try clear c6);(try clear c6b0);(try clear p6);(try clear c7);(try clear c7b0);(try clear c8);(try clear c8b0);(try clear c9);(try clear c9b0);(try clear c9b1);(try clear c10);(try clear p10);(try clear q10);(try clear hx10);(try clear c11);(try clear c15);(try clear c17);(try clear c17b0);(try clear c18);(try clear c18b0);(try clear c19);(try clear c19b0);(try clear c21);(try clear c21b0);(try clear c22);(try clear c23);(try clear c25);(try clear c25b0);(try clear c27);(try clear c27b0);(try clear c28);(try clear c28b0);(try clear c29);(try clear c29b0);(try clear c30);(try clear c33);(try clear c36);(try clear c36b0);(try clear c37);(try clear c39);(try clear c42);(try clear c43);(try clear c43b0);(try clear c44);(try clear c46);(try clear c46b0);(try clear c47);(try clear c49);(try clear c49b0);(try clear c50);(try clear c52);(try clear hcz12_0);(try clear hcz12_1);(try clear hcz12_2);(try clear hcz12_3);(try clear hcz12_4);(try clear hcz13_0);(try clear hcz13_1);(try clear hcz16_0);(try clear hcz16_1);(try clear hcz16_2);(try clear hcz16_3);(try clear hcz16_4);(try clear hcz24_0);(try clear hcz24_1);(try clear hcz31_0);(try clear hcz31_1);(try clear hcz31_2);(try clear hcz31_3);(try clear hcz31_4);(try clear hcz32_0);(try clear hcz32_1);(try clear hcz34_0);(try clear hcz34_1);(try clear hcz34_2);(try clear hcz34_3);(try clear hcz34_4);(try clear hcz38_0);(try clear hcz38_1);(try clear hcz38_2);(try clear hcz38_3);(try clear hcz38_4);(try clear hcz40_0);(try clear hcz40_1);(try clear hcz40_2);(try clear hcz40_3);(try clear hcz40_4);(try clear hcz45_0);(try clear hcz45_1);(try clear hcz45_2);(try clear hcz45_3);(try clear hcz45_4);(try clear hcz48_0);(try clear hcz48_1);(try clear hcz48_2);(try clear hcz48_3);(try clear hcz48_4);(try clear hcz4_0);(try clear hcz4_1);(try clear hcz51_0);(try clear hcz51_1);(try clear hcz51_2);(try clear hcz51_3);(try clear hcz51_4);(try clear hcz53_0);(try clear hcz53_1);(try clear hcz53_2);(try clear hcz53_3);(try clear hcz53_4);(try clear hfz12_0);(try clear hfz12_1);(try clear hfz12_2);(try clear hfz12_3);(try clear hfz12_4);(try clear hfz13_0);(try clear hfz13_1);(try clear hfz16_0);(try clear hfz16_1);(try clear hfz16_2);(try clear hfz16_3);(try clear hfz16_4);(try clear hfz24_0);(try clear hfz24_1);(try clear hfz31_0);(try clear hfz31_1);(try clear hfz31_2);(try clear hfz31_3);(try clear hfz31_4);(try clear hfz32_0);(try clear hfz32_1);(try clear hfz34_0);(try clear hfz34_1);(try clear hfz34_2);(try clear hfz34_3);(try clear hfz34_4);(try clear hfz38_0);(try clear hfz38_1);(try clear hfz38_2);(try clear hfz38_3);(try clear hfz38_4);(try clear hfz40_0);(try clear hfz40_1);(try clear hfz40_2);(try clear hfz40_3);(try clear hfz40_4);(try clear hfz45_0);(try clear hfz45_1);(try clear hfz45_2);(try clear hfz45_3);(try clear hfz45_4);(try clear hfz48_0);(try clear hfz48_1);(try clear hfz48_2);(try clear hfz48_3);(try clear hfz48_4);(try clear hfz4_0);(try clear hfz4_1);(try clear hfz51_0);(try clear hfz51_1);(try clear hfz51_2);(try clear hfz51_3);(try clear hfz51_4);(try clear hfz53_0);(try clear hfz53_1);(try clear hfz53_2);(try clear hfz53_3);(try clear hfz53_4);(try clear hx102_0);(try clear hx102_1);(try clear hx102_2);(try clear hx102_3);(try clear hx102_4);(try clear hx104_0);(try clear hx105_0);(try clear p1);(try clear p10);(try clear p102);(try clear p104);(try clear p105);(try clear p2);(try clear p6);(try clear q1);(try clear q10);(try clear q102);(try clear q104);(try clear q105);obtain ⟨kq,x56_40,rfl,HA,HJ40,BK101,BK103,HB⟩:=hcut;cases kq with
              | zero => exact absurd HA.out (by simp [history_Validate.j4])
              | succ kj40 =>
               have H:=HA.out;clear HA;simp only [history_Validate.j4] at H;by_cases c54 : x56_40 = true
               ·subst c54
                have H1 : (some (3,x13_1)) = some (r1,r2):=by rw [if_pos rfl] at H;exact H
                clear H;have H:=H1;clear H1;simp only [Option.some.injEq,Prod.mk.injEq] at H;obtain ⟨rfl,rfl⟩:=H;have hnb55:=NB101_103.out;have hnc55:=NB103_101.out;have hcz56_0:=blk_c (v:=.int .i64 x102000_2) BK101.out 0 rfl;have hcz56_1:=blk_c (v:=.int .i64 x102001_2) BK101.out 1 rfl;have hfz56_0:=blk_frozen BK101.out 0;have hfz56_1:=blk_frozen BK101.out 1;go_wp2;refine bodyPost_ret (results_cell_row rfl _ _ gb101 24 #[.int .i64 3,.int .i64 x13_1] (0,0) _ rfl (by refine blk_mv ?_;refine blk_put (cs:=#[.int .i64 3,.int .i64 x102001_2]) ?_ 1 _ rfl;refine blk_mv ?_;refine blk_put (cs:=#[.int .i64 x102000_2,.int .i64 x102001_2]) ?_ 0 _ rfl;refine blk_mv ?_;exact BK101.out) Try.underlying24 rfl (by kernel_rfl)) rfl ?_;exact ⟨by first|rfl|(simp [errW_none,errW_some] <;> rfl)|(simp [*,errW_none,errW_some] <;> rfl),bel_⟩
               ·replace c54:=Bool.eq_false_iff.mpr c54
                subst c54;have H1 : (if (((rd_T61 l0 x13_1).f4).size : Int) > 80 then (some (10,x13_1)) else (history_Validate.l0 kj40 l0 (l0.length : Int) (wrap64 (x13_1 + 1)))) = some (r1,r2):=by rw [if_neg (show ¬ (false = true) by decide)] at H;exact H
                clear H;have H:=H1;clear H1;by_cases c57 : (((rd_T61 l0 x13_1).f4).size : Int) > 80
                ·rw [if_pos c57] at H
                 have c57b0 : decide (80 < (((rd_T61 l0 x13_1).f4).size : Int)) = true:=decide_eq_true c57;have c57b1 : decide (80 < ((rd_T61 l0 x13_1).f4).size) = true:=decide_eq_true (by omega);clear c57;simp only [Option.some.injEq,Prod.mk.injEq] at H;obtain ⟨rfl,rfl⟩:=H;have hnb58:=NB103_101.out;have hnc58:=NB101_103.out;have hcz59_0:=blk_c (v:=.slice A102_0 ((rd_T61 l0 x13_1).f0).length c102_0) BK103.out 0 rfl;have hcz59_1:=blk_c (v:=.int .i64 ((rd_T61 l0 x13_1).f1)) BK103.out 1 rfl;have hcz59_2:=blk_c (v:=.int .i64 ((rd_T61 l0 x13_1).f2)) BK103.out 2 rfl;have hcz59_3:=blk_c (v:=.int .i64 ((rd_T61 l0 x13_1).f3)) BK103.out 3 rfl;have hcz59_4:=blk_c (v:=.string ((rd_T61 l0 x13_1).f4)) BK103.out 4 rfl;have hfz59_0:=blk_frozen BK103.out 0;have hfz59_1:=blk_frozen BK103.out 1;have hfz59_2:=blk_frozen BK103.out 2;have hfz59_3:=blk_frozen BK103.out 3;have hfz59_4:=blk_frozen BK103.out 4;have hcz60_0:=blk_c (v:=.int .i64 x102000_2) BK101.out 0 rfl;have hcz60_1:=blk_c (v:=.int .i64 x102001_2) BK101.out 1 rfl;have hfz60_0:=blk_frozen BK101.out 0;have hfz60_1:=blk_frozen BK101.out 1;go_wp2;refine bodyPost_ret (results_cell_row rfl _ _ gb101 24 #[.int .i64 10,.int .i64 x13_1] (0,0) _ rfl (by refine blk_mv ?_;refine blk_put (cs:=#[.int .i64 10,.int .i64 x102001_2]) ?_ 1 _ rfl;refine blk_mv ?_;refine blk_put (cs:=#[.int .i64 x102000_2,.int .i64 x102001_2]) ?_ 0 _ rfl;refine blk_mv ?_;exact BK101.out) Try.underlying24 rfl (by kernel_rfl)) rfl ?_;exact ⟨by first|rfl|(simp [errW_none,errW_some] <;> rfl)|(simp [*,errW_none,errW_some] <;> rfl),bel_⟩
                ·rw [if_neg c57] at H
                 have c57b0 : decide (80 < (((rd_T61 l0 x13_1).f4).size : Int)) = false:=decide_eq_false c57;have c57b1 : decide (80 < ((rd_T61 l0 x13_1).f4).size) = false:=decide_eq_false (by omega);clear c57;have H':=Aside0.mk H;clear H;have hnb61:=NB103_101.out;have hnc61:=NB101_103.out;have hcz62_0:=blk_c (v:=.slice A102_0 ((rd_T61 l0 x13_1).f0).length c102_0) BK103.out 0 rfl;have hcz62_1:=blk_c (v:=.int .i64 ((rd_T61 l0 x13_1).f1)) BK103.out 1 rfl;have hcz62_2:=blk_c (v:=.int .i64 ((rd_T61 l0 x13_1).f2)) BK103.out 2 rfl;have hcz62_3:=blk_c (v:=.int .i64 ((rd_T61 l0 x13_1).f3)) BK103.out 3 rfl;have hcz62_4:=blk_c (v:=.string ((rd_T61 l0 x13_1).f4)) BK103.out 4 rfl;have hfz62_0:=blk_frozen BK103.out 0;have hfz62_1:=blk_frozen BK103.out 1;have hfz62_2:=blk_frozen BK103.out 2;have hfz62_3:=blk_frozen BK103.out 3;have hfz62_4:=blk_frozen BK103.out 4;go_wp2;go_roundg kj40
                 case measure => have:=HK1.out;have:=HK2.out;have:=HJ34.out;have:=HJ40.out;omega
                 case rel => exact ⟨(wrap64 (x13_1 + 1)),(x102000_2),(x102001_2),fr_,H',⟨by have:=HK1.out;have:=HK2.out;have:=HJ34.out;have:=HJ40.out;omega⟩,⟨blk_mv BK101.out⟩,⟨bel_⟩⟩
      ·rw [if_neg c8] at H
       exact absurd H (by simp)
     ·rw [if_neg c7] at H
      exact absurd H (by simp)
    ·rw [if_neg c6] at H
     have c6b0 : decide (x13_1 < (l0.length : Int)) = false:=decide_eq_false c6;clear c6;simp only [Option.some.injEq,Prod.mk.injEq] at H;obtain ⟨rfl,rfl⟩:=H;have hcz63_0:=blk_c (v:=.int .i64 x102000_1) BK101.out 0 rfl;have hcz63_1:=blk_c (v:=.int .i64 x102001_1) BK101.out 1 rfl;have hfz63_0:=blk_frozen BK101.out 0;have hfz63_1:=blk_frozen BK101.out 1;go_wp2;refine bodyPost_ret (results_cell_row rfl _ _ gb101 24 #[.int .i64 0,.int .i64 0] (0,0) _ rfl (by refine blk_mv ?_;refine blk_put (cs:=#[.int .i64 0,.int .i64 x102001_1]) ?_ 1 _ rfl;refine blk_mv ?_;refine blk_put (cs:=#[.int .i64 x102000_1,.int .i64 x102001_1]) ?_ 0 _ rfl;refine blk_mv ?_;exact BK101.out) Try.underlying24 rfl (by kernel_rfl)) rfl ?_;exact ⟨by first|rfl|(simp [errW_none,errW_some] <;> rfl)|(simp [*,errW_none,errW_some] <;> rfl),bel_⟩

end Go.Proofs.Ytmcpcdnnnnhogaa.Fn
