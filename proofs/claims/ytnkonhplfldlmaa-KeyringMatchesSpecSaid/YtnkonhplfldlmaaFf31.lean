/- A function of the program as a plain Lean function, and the proof that the call comes to just what it says (written by wip/tools/xprint.py for this claim). Condition: the plain function has an answer. -/
import Derived.Test.YtnkonhplfldlmaaFn0
import Derived.Test.YtnkonhplfldlmaaFs0
import Derived.Test.YtnkonhplfldlmaaWA
import Derived.Test.YtnkonhplfldlmaaTight
namespace Go.Proofs.Ytnkonhplfldlmaa.Fn
open Go.RowKit Go.Proofs.YtnkonhplfldlmaaW.PrintWords Go.Proofs.YtnkonhplfldlmaaW.PrintLast Go.Proofs.YtnkonhplfldlmaaW.PrintMore
attribute [local go_sem] max2_int min2_int max_two min_two max_three min_three max_four min_four   -- for this text's walks alone
set_option linter.unusedVariables false
set_option linter.unusedSimpArgs false

/-! ### signing_Message: function 31 -/
mutual
def signing_Message.l0 : Nat → List Int → List Int → Int → Int → Option (List Int × Int × Int)
 | 0,_,_,_,_ => none
 | k + 1,x4,x12,x13,x14 => if x14 < x13 then (if 0 ≤ x14 then (if x14 < (x12.length : Int) then ((signing_IsDigest.f (rd x12 x14)).bind fun t103 => (if t103 = true then (signing_Message.l1 k x4 (rd x12 x14) 56 x12 x13 x14) else (some (([] : List Int),3,x14)))) else (none)) else (none)) else (some (x4,0,0))
def signing_Message.l1 : Nat → List Int → Int → Int → List Int → Int → Int → Option (List Int × Int × Int)
 | 0,_,_,_,_,_,_ => none
 | k + 1,x4,x6,x7,x12,x13,x14 => if x7 ≥ 0 then (if 0 ≤ x7 then (if x4.length < 140737488355328 then (signing_Message.l1 k (x4 ++ [(shr .i64 x6 x7) % 256]) x6 (wrap64 (x7 - 8)) x12 x13 x14) else (none)) else (none)) else (signing_Message.l0 k x4 x12 x13 (wrap64 (x14 + 1)))
end
def signing_Message.f (k : Nat) (l0 : List Int) : Option (List Int × Int × Int):=if (l0.length : Int) > 64 then (some (([] : List Int),2,(-1))) else (signing_Message.l0 k ([] : List Int) l0 (l0.length : Int) 0)
theorem signing_Message.mono_l : ∀ k,(∀ y0 y1 y2 y3,LeO (signing_Message.l0 k y0 y1 y2 y3) (signing_Message.l0 (k + 1) y0 y1 y2 y3)) ∧ (∀ y0 y1 y2 y3 y4 y5,LeO (signing_Message.l1 k y0 y1 y2 y3 y4 y5) (signing_Message.l1 (k + 1) y0 y1 y2 y3 y4 y5))
 | 0 => ⟨fun _ _ _ _ r h => by simp [signing_Message.l0] at h,fun _ _ _ _ _ _ r h => by simp [signing_Message.l1] at h⟩
 | k + 1 => by
  obtain ⟨ih0,ih1⟩:=signing_Message.mono_l k;refine ⟨?_,?_⟩
  ·intro y0 y1 y2 y3
   unfold signing_Message.l0;repeat' first
   | (with_reducible exact ih0 _ _ _ _)
   | (with_reducible exact ih1 _ _ _ _ _ _)
   | (with_reducible exact LeO.refl _)
   | (with_reducible exact LeO.none _)
   | (with_reducible refine LeO.ite ?_ ?_)
   | (with_reducible refine LeO.bind ?_ (fun _ => ?_))
   | exact ih0 _ _ _ _
   | exact ih1 _ _ _ _ _ _
   | exact LeO.none _
   | refine LeO.ite ?_ ?_
   | refine LeO.bind ?_ (fun _ => ?_)
  ·intro y0 y1 y2 y3 y4 y5
   unfold signing_Message.l1;repeat' first
   | (with_reducible exact ih0 _ _ _ _)
   | (with_reducible exact ih1 _ _ _ _ _ _)
   | (with_reducible exact LeO.refl _)
   | (with_reducible exact LeO.none _)
   | (with_reducible refine LeO.ite ?_ ?_)
   | (with_reducible refine LeO.bind ?_ (fun _ => ?_))
   | exact ih0 _ _ _ _
   | exact ih1 _ _ _ _ _ _
   | exact LeO.none _
   | refine LeO.ite ?_ ?_
   | refine LeO.bind ?_ (fun _ => ?_)
theorem signing_Message.mono : ∀ a0 k,LeO (signing_Message.f k a0) (signing_Message.f (k + 1) a0):=by
 intro a0 k;obtain ⟨ih0,ih1⟩:=signing_Message.mono_l k;unfold signing_Message.f
 repeat' first
   | (with_reducible exact ih0 _ _ _ _)
   | (with_reducible exact ih1 _ _ _ _ _ _)
   | (with_reducible exact LeO.refl _)
   | (with_reducible exact LeO.none _)
   | (with_reducible refine LeO.ite ?_ ?_)
   | (with_reducible refine LeO.bind ?_ (fun _ => ?_))
   | exact ih0 _ _ _ _
   | exact ih1 _ _ _ _ _ _
   | exact LeO.none _
   | refine LeO.ite ?_ ?_
   | refine LeO.bind ?_ (fun _ => ?_)
set_option maxHeartbeats 8000000 in
set_option maxRecDepth 100000 in
theorem signing_Message.calls (k : Nat) (A0 : Option Addr) (c0 : Nat) (l0 : List Int) (r1 : List Int) (r2 : Int) (r3 : Int) (w : World) (hr0 : Kd.C (Kd.int .i64) w A0 l0.length l0) (hc0 : l0.length ≤ c0) (h : signing_Message.f k l0 = some (r1,r2,r3)) :
  Calls Try.prog 31 #[.slice A0 l0.length c0] w fun e w' => ∃ v0_ : Value,e = .returned (.tuple #[v0_,.agg #[.int .i64 r2,.int .i64 r3]]) ∧ Kd.R (Kd.int .u8) 5 w' w.heap.size (fun _ => True) v0_ r1 ∧ Below w.heap.size w w':=by
 have hu24:=Try.underlying24;have HR0:=Aside0.mk hr0;have HC0:=Aside0.mk hc0;clear hr0 hc0;have HB:=Aside0.mk (Below.refl w.heap.size w);have H : (if (l0.length : Int) > 64 then (some (([] : List Int),2,(-1))) else (signing_Message.l0 k ([] : List Int) l0 (l0.length : Int) 0)) = some (r1,r2,r3):=h;clear h;by_cases c2 : (l0.length : Int) > 64
 ·rw [if_pos c2] at H
  have c2b0 : decide (64 < (l0.length : Int)) = true:=decide_eq_true c2;have c2b1 : decide (64 < l0.length) = true:=decide_eq_true (by omega);clear c2;simp only [Option.some.injEq,Prod.mk.injEq] at H;obtain ⟨rfl,rfl,rfl⟩:=H;go_enter Try.func31,Try.ntmps31;go_wp2_with (first|((with_reducible refine gate_dst (N:=3) rfl ?_);refine box_event ?hg (N:=3) ?hd (cs:=#[.int .i64 0,.int .i64 0]) (t:=24) ?hr ?_;(case hd => rfl);(case hg => rfl);(case hr => first|(go_simp;done)|(go_simp;rfl));intro gb101 hg w3 hbox hb;have BK101:=Aside0.mk (hbox);have GW101:=Aside0.mk ((bs_ : w.heap.size ≤ gb101));have GE101:=Aside0.mk ((bs_ : w.heap.size ≤ gb101));replace HB:=Aside0.mk (below_step bel_ hb);clear hb hbox hg;have hcz4_0:=blk_c (v:=.int .i64 0) BK101.out 0 rfl;have hcz4_1:=blk_c (v:=.int .i64 0) BK101.out 1 rfl;have hfz4_0:=blk_frozen BK101.out 0;have hfz4_1:=blk_frozen BK101.out 1));refine bodyPost_ret (results_tc rfl _ _ gb101 24 #[.int .i64 2,.int .i64 (-1)] (0,0) _ rfl (by refine blk_mv ?_;refine blk_put (cs:=#[.int .i64 2,.int .i64 0]) ?_ 1 _ rfl;refine blk_mv ?_;refine blk_put (cs:=#[.int .i64 0,.int .i64 0]) ?_ 0 _ rfl;refine blk_mv ?_;exact BK101.out) Try.underlying24 rfl (by kernel_rfl)) rfl ?_;exact ⟨_,by first|rfl|(simp [errW_none,errW_some] <;> rfl)|(simp [*,errW_none,errW_some] <;> rfl),by first|exact Kd.R_nil _ _ _ _ _|exact Kd.N_nil _ _ _ _ _|exact Kd.V_nil _ _ _ _ _|exact Kd.Q_nil _ _ _ _ _|exact Kd.S_nil _ _ _ _ _,bel_⟩
 ·rw [if_neg c2] at H
  have c2b0 : decide (64 < (l0.length : Int)) = false:=decide_eq_false c2;have c2b1 : decide (64 < l0.length) = false:=decide_eq_false (by omega);clear c2;have H':=Aside0.mk H;clear H;go_enter Try.func31,Try.ntmps31;go_wp2_with (first|((with_reducible refine gate_dst (N:=3) rfl ?_);refine box_event ?hg (N:=3) ?hd (cs:=#[.int .i64 0,.int .i64 0]) (t:=24) ?hr ?_;(case hd => rfl);(case hg => rfl);(case hr => first|(go_simp;done)|(go_simp;rfl));intro gb101 hg w5 hbox hb;have BK101:=Aside0.mk (hbox);have GW101:=Aside0.mk ((bs_ : w.heap.size ≤ gb101));have GE101:=Aside0.mk ((bs_ : w.heap.size ≤ gb101));replace HB:=Aside0.mk (below_step bel_ hb);clear hb hbox hg));go_loopg [4,14] k (fun kq v4 v14 w' => ∃ (x4_1 : List Int) (x14_1 : Int) (x102000_1 : Int) (x102001_1 : Int),v14 = .int .i64 x14_1 ∧ Aside0 (signing_Message.l0 kq x4_1 l0 (l0.length : Int) x14_1 = some (r1,r2,r3)) ∧ Aside0 (kq ≤ k) ∧ Aside0 (Kd.R (Kd.int .u8) 5 w' w.heap.size (fun _ => True) v4 x4_1) ∧ Aside0 (w'.heap[gb101]? = some (.cells #[.int .i64 x102000_1,.int .i64 x102001_1] 24 (0,0))) ∧ Aside0 (Below w.heap.size w w'))
  case atStart => exact ⟨(([] : List Int)),(0),(0),(0),fr_,H',⟨Nat.le_refl _⟩,⟨by first|exact Kd.R_nil _ _ _ _ _|exact Kd.N_nil _ _ _ _ _|exact Kd.V_nil _ _ _ _ _|exact Kd.Q_nil _ _ _ _ _|exact Kd.S_nil _ _ _ _ _⟩,⟨blk_mv BK101.out⟩,⟨bel_⟩⟩
  case round =>
   clear H';(try clear c2);(try clear c2b0);(try clear c2b1);(try clear p2);(try clear c3);(try clear hcz4_0);(try clear hcz4_1);(try clear hfz4_0);(try clear hfz4_1);obtain ⟨x4_1,x14_1,x102000_1,x102001_1,rfl,HA,HK1,HO_4,BK101,HB⟩:=hrel;cases gk with
   | zero => exact absurd HA.out (by simp [signing_Message.l0])
   | succ k1 =>
    have H:=HA.out;clear HA;simp only [signing_Message.l0] at H;by_cases c6 : x14_1 < (l0.length : Int)
    ·rw [if_pos c6] at H
     have c6b0 : decide (x14_1 < (l0.length : Int)) = true:=decide_eq_true c6;clear c6;by_cases c7 : 0 ≤ x14_1
     ·rw [if_pos c7] at H
      have c7b0 : decide (0 ≤ x14_1) = true:=decide_eq_true c7;clear c7;by_cases c8 : x14_1 < (l0.length : Int)
      ·rw [if_pos c8] at H
       have c8b0 : decide (x14_1 < (l0.length : Int)) = true:=decide_eq_true c8;clear c8;replace H:=Option.bind_eq_some_iff.mp H;obtain ⟨t103,A90,H⟩:=H;replace H : (if t103 = true then (signing_Message.l1 k1 x4_1 (rd l0 x14_1) 56 l0 (l0.length : Int) x14_1) else (some (([] : List Int),3,x14_1))) = some (r1,r2,r3):=H;have A9:=Aside0.mk A90;clear A90;by_cases c10 : t103 = true
       ·subst c10
        have H1 : (signing_Message.l1 k1 x4_1 (rd l0 x14_1) 56 l0 (l0.length : Int) x14_1) = some (r1,r2,r3):=by rw [if_pos rfl] at H;exact H
        clear H;have H:=H1;clear H1;have H':=Aside0.mk H;clear H;have p102 : 0 ≤ (x14_1 : Int):=of_decide_eq_true as_;have q102 : x14_1 < (l0.length : Int):=of_decide_eq_true as_;obtain ⟨ad102,e102,hx102_0⟩:=Kd.at_int HR0.out x14_1 p102 q102;cases e102
        replace hx102_0:=(HB.out.cell (World.block_lt_of_cell? w _ hx102_0)).trans hx102_0;replace p102:=eq_true p102;replace q102:=eq_true q102;go_wp2_with (first|((with_reducible refine gate_callee (f:=50) rfl ?_);refine goesL_ (some 20) rfl rfl Try.func50 (by kernel_rfl) rfl #[.int .i64 (rd l0 x14_1)] rfl ln_ ?_;(with_reducible refine (signing_IsDigest.calls (rd l0 x14_1) true _ A9.out).mono ?_);rintro e w' ⟨rfl,⟨nd,rfl⟩⟩;refine ⟨_,rfl,?_⟩));go_loopg [4,7] k1 (fun kq v4 v7 w' => ∃ (x4_2 : List Int) (x7_2 : Int),v7 = .int .i64 x7_2 ∧ Aside0 (signing_Message.l1 kq x4_2 (rd l0 x14_1) x7_2 l0 (l0.length : Int) x14_1 = some (r1,r2,r3)) ∧ Aside0 (kq ≤ k1) ∧ Aside0 (Kd.R (Kd.int .u8) 5 w' w.heap.size (fun _ => True) v4 x4_2) ∧ Aside0 (w'.heap[gb101]? = some (.cells #[.int .i64 x102000_1,.int .i64 x102001_1] 24 (0,0))) ∧ Aside0 (Below w.heap.size w w'))
        case atStart => exact ⟨(x4_1),(56),fr_,H',⟨Nat.le_refl _⟩,⟨Kd.R_mv HO_4.out⟩,⟨blk_mv BK101.out⟩,⟨bel_⟩⟩
        case round =>
         clear H';(try clear c1);(try clear p1);(try clear q1);(try clear hx1);(try clear c2);(try clear c2b0);(try clear c2b1);(try clear p2);(try clear c3);(try clear c5);(try clear c6);(try clear c6b0);(try clear c7);(try clear c7b0);(try clear c8);(try clear c8b0);(try clear c10);(try clear p10);(try clear q10);(try clear hx10);(try clear hcz4_0);(try clear hcz4_1);(try clear hfz4_0);(try clear hfz4_1);(try clear hx102_0);(try clear p102);(try clear p2);(try clear q102);obtain ⟨x4_2,x7_2,rfl,HA,HK2,HO_4,BK101,HB⟩:=hrel;cases gk with
         | zero => exact absurd HA.out (by simp [signing_Message.l1])
         | succ k2 =>
          have H:=HA.out;clear HA;simp only [signing_Message.l1] at H;by_cases c11 : x7_2 ≥ 0
          ·rw [if_pos c11] at H
           have c11b0 : decide (0 ≤ x7_2) = true:=decide_eq_true c11;clear c11;by_cases c12 : 0 ≤ x7_2
           ·rw [if_pos c12] at H
            have c12b0:=eq_true c12;have c12b1 : decide (0 ≤ x7_2) = true:=decide_eq_true c12;clear c12;obtain ⟨ji13,hji13⟩ : ∃ j_ : Int,(shr .i64 (rd l0 x14_1) x7_2) = j_:=⟨_,rfl⟩;replace H : (if x4_2.length < 140737488355328 then (signing_Message.l1 k2 (x4_2 ++ [(ji13) % 256]) (rd l0 x14_1) (wrap64 (x7_2 - 8)) l0 (l0.length : Int) x14_1) else (none)) = some (r1,r2,r3):=by first|(rw [hji13] at H;exact H)|(simp only [hji13] at H ⊢;exact H)
            have hji13_ : ((rd l0 x14_1) / 2 ^ min x7_2.toNat 64) = ji13:=hji13;have hji13z : x7_2 ≤ 64 → ((rd l0 x14_1) / 2 ^ x7_2.toNat) = ji13:=shr_small hji13;by_cases c14 : x4_2.length < 140737488355328
            ·rw [if_pos c14] at H
             have LMc14:=Aside0.mk c14;clear c14;obtain ⟨y104,hy104⟩ : ∃ y_ : List Int,y_ = (x4_2 ++ [(ji13) % 256]):=⟨_,rfl⟩;replace H : (signing_Message.l1 k2 y104 (rd l0 x14_1) (wrap64 (x7_2 - 8)) l0 (l0.length : Int) x14_1) = some (r1,r2,r3):=by first|(rw [hy104];with_reducible exact H)|(have H2_:=(Option.bind_some _ _).symm.trans H;rw [hy104];with_reducible exact H2_)|(have H2_:=(Option.bind_some _ _).symm.trans H;with_reducible exact H2_)|with_reducible exact H|(rw [hy104];exact H)|exact H
             have Ny104:=Aside0.mk hy104;clear hy104;have H':=Aside0.mk H;clear H;go_wp2_with (first|((with_reducible refine gate_builtin (b:=.append) (xs:=#[.tmp 28,.tmp 33]) rfl ?_);at_builtin;refine Kd.R_append (Kd.int .u8) (w0:=w) w.heap.size rfl (.tmp 28) (.tmp 33) 50 5 (.int .u8 0) 1 rfl Try.underlying50 info5 rfl (by decide) (by omega) u4 x4_2 ((ji13) % 256) [.int .u8 ((ji13) % 256)] (fun _ => True) (fun _ => False) rfl rfl ?aP (fun _ hk => hk.elim) ?aF ?aO ?aB ?aS ?aL ?_;(case aP => exact rfl);(case aB => exact bel_);(case aF => exact (fun _ _ => trivial));(case aO => exact (Kd.R_mv HO_4.out));(case aS => exact (below_size bel_));(case aL => have:=LMc14.out;omega);intro v105 w15 ho hb hg hat;rw [← Ny104.out] at ho;replace BK101:=Aside0.mk (blk_grown (g:=gb101) (o:=.cells #[.int .i64 x102000_1,.int .i64 x102001_1] 24 (0,0)) (blk_mv BK101.out) hg (Kd.R_ne HO_4.out BK101.out (by decide)));replace HB:=Aside0.mk (hb);have HO106:=Aside0.mk (ho);clear HO_4;clear ho hb hg hat));go_roundg k2
             case measure => have:=HK1.out;have:=HK2.out;omega
             case rel => exact ⟨(y104),(wrap64 (x7_2 - 8)),fr_,H',⟨by have:=HK1.out;have:=HK2.out;omega⟩,⟨Kd.R_mv HO106.out⟩,⟨blk_mv BK101.out⟩,⟨bel_⟩⟩
            ·rw [if_neg c14] at H
             exact absurd H (by simp)
           ·rw [if_neg c12] at H
            exact absurd H (by simp)
          ·rw [if_neg c11] at H
           have c11b0 : decide (0 ≤ x7_2) = false:=decide_eq_false c11;clear c11;have H':=Aside0.mk H;clear H;go_wp2;go_roundg k2
           case measure => have:=HK1.out;have:=HK2.out;omega
           case rel => exact ⟨(x4_2),(wrap64 (x14_1 + 1)),(x102000_1),(x102001_1),fr_,H',⟨by have:=HK1.out;have:=HK2.out;omega⟩,⟨Kd.R_mv HO_4.out⟩,⟨blk_mv BK101.out⟩,⟨bel_⟩⟩
       ·replace c10:=Bool.eq_false_iff.mpr c10
        subst c10;have H1 : (some (([] : List Int),3,x14_1)) = some (r1,r2,r3):=by rw [if_neg (show ¬ (false = true) by decide)] at H;exact H
        clear H;have H:=H1;clear H1;simp only [Option.some.injEq,Prod.mk.injEq] at H;obtain ⟨rfl,rfl,rfl⟩:=H;have p102 : 0 ≤ (x14_1 : Int):=of_decide_eq_true as_;have q102 : x14_1 < (l0.length : Int):=of_decide_eq_true as_;obtain ⟨ad102,e102,hx102_0⟩:=Kd.at_int HR0.out x14_1 p102 q102;cases e102
        replace hx102_0:=(HB.out.cell (World.block_lt_of_cell? w _ hx102_0)).trans hx102_0;replace p102:=eq_true p102;replace q102:=eq_true q102;go_wp2_with (first|((with_reducible refine gate_callee (f:=50) rfl ?_);refine goesL_ (some 20) rfl rfl Try.func50 (by kernel_rfl) rfl #[.int .i64 (rd l0 x14_1)] rfl ln_ ?_;(with_reducible refine (signing_IsDigest.calls (rd l0 x14_1) false _ A9.out).mono ?_);rintro e w' ⟨rfl,⟨nd,rfl⟩⟩;refine ⟨_,rfl,?_⟩;(try (rw [drewN_self wr];generalize hq_ : World.drewN wr _ = wr;have n0_ : Aside0 (wr.heap[gb101]? = some (.cells #[.int .i64 x102000_1,.int .i64 x102001_1] 24 (0,0))):=⟨by rw [← hq_];exact (blk_mv BK101.out)⟩;have n1_ : Aside0 (Below w.heap.size w wr):=⟨by rw [← hq_];exact bel_⟩;clear BK101 HB hq_;have BK101:=n0_;have HB:=n1_;clear n0_ n1_));have hcz16_0:=blk_c (v:=.int .i64 x102000_1) BK101.out 0 rfl;have hcz16_1:=blk_c (v:=.int .i64 x102001_1) BK101.out 1 rfl;have hfz16_0:=blk_frozen BK101.out 0;have hfz16_1:=blk_frozen BK101.out 1));refine bodyPost_ret (results_tc rfl _ _ gb101 24 #[.int .i64 3,.int .i64 x14_1] (0,0) _ rfl (by refine blk_mv ?_;refine blk_put (cs:=#[.int .i64 3,.int .i64 x102001_1]) ?_ 1 _ rfl;refine blk_mv ?_;refine blk_put (cs:=#[.int .i64 x102000_1,.int .i64 x102001_1]) ?_ 0 _ rfl;refine blk_mv ?_;exact BK101.out) Try.underlying24 rfl (by kernel_rfl)) rfl ?_;exact ⟨_,by first|rfl|(simp [errW_none,errW_some] <;> rfl)|(simp [*,errW_none,errW_some] <;> rfl),by first|exact Kd.R_nil _ _ _ _ _|exact Kd.N_nil _ _ _ _ _|exact Kd.V_nil _ _ _ _ _|exact Kd.Q_nil _ _ _ _ _|exact Kd.S_nil _ _ _ _ _,bel_⟩
      ·rw [if_neg c8] at H
       exact absurd H (by simp)
     ·rw [if_neg c7] at H
      exact absurd H (by simp)
    ·rw [if_neg c6] at H
     have c6b0 : decide (x14_1 < (l0.length : Int)) = false:=decide_eq_false c6;clear c6;simp only [Option.some.injEq,Prod.mk.injEq] at H;obtain ⟨rfl,rfl,rfl⟩:=H;have hcz17_0:=blk_c (v:=.int .i64 x102000_1) BK101.out 0 rfl;have hcz17_1:=blk_c (v:=.int .i64 x102001_1) BK101.out 1 rfl;have hfz17_0:=blk_frozen BK101.out 0;have hfz17_1:=blk_frozen BK101.out 1;go_wp2;refine bodyPost_ret (results_tc rfl _ _ gb101 24 #[.int .i64 0,.int .i64 0] (0,0) _ rfl (by refine blk_mv ?_;refine blk_put (cs:=#[.int .i64 0,.int .i64 x102001_1]) ?_ 1 _ rfl;refine blk_mv ?_;refine blk_put (cs:=#[.int .i64 x102000_1,.int .i64 x102001_1]) ?_ 0 _ rfl;refine blk_mv ?_;exact BK101.out) Try.underlying24 rfl (by kernel_rfl)) rfl ?_;exact ⟨_,by first|rfl|(simp [errW_none,errW_some] <;> rfl)|(simp [*,errW_none,errW_some] <;> rfl),by (with_reducible repeat (first|apply Kd.R_alloc|apply Kd.R_drewN|apply Kd.R_drew));exact Kd.R_mono (Kd.R_far (p:=⟨gb101,1,none⟩) (Kd.R_far (p:=⟨gb101,0,none⟩) (Kd.R_types HO_4.out BK101.out (by decide)) (fun _ hk => hk.2) (.int .i64 0)) (fun _ hk => hk.2) (.int .i64 0)) (fun _ hk => trivial),bel_⟩

end Go.Proofs.Ytnkonhplfldlmaa.Fn
