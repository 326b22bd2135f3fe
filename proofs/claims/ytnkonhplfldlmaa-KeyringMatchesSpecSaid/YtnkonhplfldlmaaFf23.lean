/- A function of the program as a plain Lean function, and the proof that the call comes to just what it says (written by wip/tools/xprint.py for this claim). Condition: the plain function has an answer. -/
import Derived.Test.YtnkonhplfldlmaaFn0
import Derived.Test.YtnkonhplfldlmaaFf18
import Derived.Test.YtnkonhplfldlmaaWA
import Derived.Test.YtnkonhplfldlmaaTight
namespace Go.Proofs.Ytnkonhplfldlmaa.Fn
open Go.RowKit Go.Proofs.YtnkonhplfldlmaaW.PrintWords Go.Proofs.YtnkonhplfldlmaaW.PrintLast Go.Proofs.YtnkonhplfldlmaaW.PrintMore
attribute [local go_sem] max2_int min2_int max_two min_two max_three min_three max_four min_four   -- for this text's walks alone
set_option linter.unusedVariables false
set_option linter.unusedSimpArgs false

/-! ### changeforgeref5_UserKeys: function 23 -/
mutual
def changeforgeref5_UserKeys.l0 : Nat → List (S45) → Int → Int → List Int → Int → Option (List Int)
 | 0,_,_,_,_,_ => none
 | k + 1,x0,x1,x2,x7,x8 => changeforgeref5_UserKeys.l1 k x0 x1 x2 x7 x8 0 0
def changeforgeref5_UserKeys.l1 : Nat → List (S45) → Int → Int → List Int → Int → Int → Int → Option (List Int)
 | 0,_,_,_,_,_,_,_ => none
 | k + 1,x0,x1,x2,x7,x8,x9,x10 => if x10 < (x0.length : Int) then (if 0 ≤ x10 then (if ((rd_T45 x0 x10).f0) = 1 then (if ((rd_T45 x0 x10).f2) = x1 then (if ((rd_T45 x0 x10).f1) > x8 then (if x9 = 0 then ((changeforgeref5_KeyValid.f k x0 ((rd_T45 x0 x10).f1) x2).bind fun t106 => (if t106 = true then (changeforgeref5_UserKeys.l1 k x0 x1 x2 x7 x8 ((rd_T45 x0 x10).f1) (wrap64 (x10 + 1))) else (changeforgeref5_UserKeys.l1 k x0 x1 x2 x7 x8 x9 (wrap64 (x10 + 1))))) else (if ((rd_T45 x0 x10).f1) < x9 then ((changeforgeref5_KeyValid.f k x0 ((rd_T45 x0 x10).f1) x2).bind fun t107 => (if t107 = true then (changeforgeref5_UserKeys.l1 k x0 x1 x2 x7 x8 ((rd_T45 x0 x10).f1) (wrap64 (x10 + 1))) else (changeforgeref5_UserKeys.l1 k x0 x1 x2 x7 x8 x9 (wrap64 (x10 + 1))))) else (changeforgeref5_UserKeys.l1 k x0 x1 x2 x7 x8 x9 (wrap64 (x10 + 1))))) else (changeforgeref5_UserKeys.l1 k x0 x1 x2 x7 x8 x9 (wrap64 (x10 + 1)))) else (changeforgeref5_UserKeys.l1 k x0 x1 x2 x7 x8 x9 (wrap64 (x10 + 1)))) else (changeforgeref5_UserKeys.l1 k x0 x1 x2 x7 x8 x9 (wrap64 (x10 + 1)))) else (none)) else (if x9 = 0 then (some x7) else (if x7.length < 17592186044416 then (changeforgeref5_UserKeys.l0 k x0 x1 x2 (x7 ++ [x9]) x9) else (none)))
end
def changeforgeref5_UserKeys.f (k : Nat) (l0 : List (S45)) (a1 : Int) (a2 : Int) : Option (List Int):=changeforgeref5_UserKeys.l0 k l0 a1 a2 ([] : List Int) 0
theorem changeforgeref5_UserKeys.mono_l : ∀ k,(∀ y0 y1 y2 y3 y4,LeO (changeforgeref5_UserKeys.l0 k y0 y1 y2 y3 y4) (changeforgeref5_UserKeys.l0 (k + 1) y0 y1 y2 y3 y4)) ∧ (∀ y0 y1 y2 y3 y4 y5 y6,LeO (changeforgeref5_UserKeys.l1 k y0 y1 y2 y3 y4 y5 y6) (changeforgeref5_UserKeys.l1 (k + 1) y0 y1 y2 y3 y4 y5 y6))
 | 0 => ⟨fun _ _ _ _ _ r h => by simp [changeforgeref5_UserKeys.l0] at h,fun _ _ _ _ _ _ _ r h => by simp [changeforgeref5_UserKeys.l1] at h⟩
 | k + 1 => by
  obtain ⟨ih0,ih1⟩:=changeforgeref5_UserKeys.mono_l k;refine ⟨?_,?_⟩
  ·intro y0 y1 y2 y3 y4
   unfold changeforgeref5_UserKeys.l0;repeat' first
   | (with_reducible exact ih0 _ _ _ _ _)
   | (with_reducible exact ih1 _ _ _ _ _ _ _)
   | (with_reducible exact changeforgeref5_KeyValid.mono _ _ _ _)
   | (with_reducible exact LeO.refl _)
   | (with_reducible exact LeO.none _)
   | (with_reducible refine LeO.ite ?_ ?_)
   | (with_reducible refine LeO.bind ?_ (fun _ => ?_))
   | exact ih0 _ _ _ _ _
   | exact ih1 _ _ _ _ _ _ _
   | exact changeforgeref5_KeyValid.mono _ _ _ _
   | exact LeO.none _
   | refine LeO.ite ?_ ?_
   | refine LeO.bind ?_ (fun _ => ?_)
  ·intro y0 y1 y2 y3 y4 y5 y6
   unfold changeforgeref5_UserKeys.l1;repeat' first
   | (with_reducible exact ih0 _ _ _ _ _)
   | (with_reducible exact ih1 _ _ _ _ _ _ _)
   | (with_reducible exact changeforgeref5_KeyValid.mono _ _ _ _)
   | (with_reducible exact LeO.refl _)
   | (with_reducible exact LeO.none _)
   | (with_reducible refine LeO.ite ?_ ?_)
   | (with_reducible refine LeO.bind ?_ (fun _ => ?_))
   | exact ih0 _ _ _ _ _
   | exact ih1 _ _ _ _ _ _ _
   | exact changeforgeref5_KeyValid.mono _ _ _ _
   | exact LeO.none _
   | refine LeO.ite ?_ ?_
   | refine LeO.bind ?_ (fun _ => ?_)
theorem changeforgeref5_UserKeys.mono : ∀ a0 a1 a2 k,LeO (changeforgeref5_UserKeys.f k a0 a1 a2) (changeforgeref5_UserKeys.f (k + 1) a0 a1 a2):=by
 intro a0 a1 a2 k;obtain ⟨ih0,ih1⟩:=changeforgeref5_UserKeys.mono_l k;unfold changeforgeref5_UserKeys.f
 repeat' first
   | (with_reducible exact ih0 _ _ _ _ _)
   | (with_reducible exact ih1 _ _ _ _ _ _ _)
   | (with_reducible exact changeforgeref5_KeyValid.mono _ _ _ _)
   | (with_reducible exact LeO.refl _)
   | (with_reducible exact LeO.none _)
   | (with_reducible refine LeO.ite ?_ ?_)
   | (with_reducible refine LeO.bind ?_ (fun _ => ?_))
   | exact ih0 _ _ _ _ _
   | exact ih1 _ _ _ _ _ _ _
   | exact changeforgeref5_KeyValid.mono _ _ _ _
   | exact LeO.none _
   | refine LeO.ite ?_ ?_
   | refine LeO.bind ?_ (fun _ => ?_)
set_option maxHeartbeats 8000000 in
set_option maxRecDepth 100000 in
theorem changeforgeref5_UserKeys.calls (k : Nat) (A0 : Option Addr) (c0 : Nat) (l0 : List (S45)) (a1 : Int) (a2 : Int) (r : List Int) (w : World) (hr0 : Kd.C k45 w A0 l0.length l0) (hc0 : l0.length ≤ c0) (h : changeforgeref5_UserKeys.f k l0 a1 a2 = some r) :
  Calls Try.prog 23 #[.slice A0 l0.length c0,.int .i64 a1,.int .i64 a2] w fun e w' => ∃ v0_ : Value,e = .returned (v0_) ∧ Kd.R (Kd.int .i64) 3 w' w.heap.size (fun _ => True) v0_ r ∧ Below w.heap.size w w':=by
 have hu45:=Try.underlying45;have HR0:=Aside0.mk hr0;have HC0:=Aside0.mk hc0;clear hr0 hc0;have HB:=Aside0.mk (Below.refl w.heap.size w);have H : (changeforgeref5_UserKeys.l0 k l0 a1 a2 ([] : List Int) 0) = some r:=h;clear h;have H':=Aside0.mk H;clear H;go_enter Try.func23,Try.ntmps23;go_wp2;go_loopg [7,8] k (fun kq v7 v8 w' => ∃ (x7_1 : List Int) (x8_1 : Int),v8 = .int .i64 x8_1 ∧ Aside0 (changeforgeref5_UserKeys.l0 kq l0 a1 a2 x7_1 x8_1 = some r) ∧ Aside0 (kq ≤ k) ∧ Aside0 (Kd.R (Kd.int .i64) 3 w' w.heap.size (fun _ => True) v7 x7_1) ∧ Aside0 (Below w.heap.size w w'))
 case atStart => exact ⟨(([] : List Int)),(0),fr_,H',⟨Nat.le_refl _⟩,⟨by first|exact Kd.R_nil _ _ _ _ _|exact Kd.N_nil _ _ _ _ _|exact Kd.V_nil _ _ _ _ _|exact Kd.Q_nil _ _ _ _ _|exact Kd.S_nil _ _ _ _ _⟩,⟨bel_⟩⟩
 case round =>
  clear H';(try clear c2);(try clear p2);obtain ⟨x7_1,x8_1,rfl,HA,HK1,HO_7,HB⟩:=hrel;cases gk with
  | zero => exact absurd HA.out (by simp [changeforgeref5_UserKeys.l0])
  | succ k1 =>
   have H:=HA.out;clear HA;simp only [changeforgeref5_UserKeys.l0] at H;have H':=Aside0.mk H;clear H;go_wp2;go_loopg [9,10] k1 (fun kq v9 v10 w' => ∃ (x9_2 : Int) (x10_2 : Int),v9 = .int .i64 x9_2 ∧ v10 = .int .i64 x10_2 ∧ Aside0 (changeforgeref5_UserKeys.l1 kq l0 a1 a2 x7_1 x8_1 x9_2 x10_2 = some r) ∧ Aside0 (kq ≤ k1) ∧ Aside0 (Kd.R (Kd.int .i64) 3 w' w.heap.size (fun _ => True) u7 x7_1) ∧ Aside0 (Below w.heap.size w w'))
   case atStart => exact ⟨(0),(0),fr_,fr_,H',⟨Nat.le_refl _⟩,⟨Kd.R_mv HO_7.out⟩,⟨bel_⟩⟩
   case round =>
    clear H';(try clear c2);(try clear p2);(try clear p2);obtain ⟨x9_2,x10_2,rfl,rfl,HA,HK2,HO_7,HB⟩:=hrel;cases gk with
    | zero => exact absurd HA.out (by simp [changeforgeref5_UserKeys.l1])
    | succ k2 =>
     have H:=HA.out;clear HA;simp only [changeforgeref5_UserKeys.l1] at H;by_cases c4 : x10_2 < (l0.length : Int)
     ·rw [if_pos c4] at H
      have c4b0 : decide (x10_2 < (l0.length : Int)) = true:=decide_eq_true c4;clear c4;by_cases c5 : 0 ≤ x10_2
      ·rw [if_pos c5] at H
       have c5b0 : decide (0 ≤ x10_2) = true:=decide_eq_true c5;clear c5;by_cases c6 : ((rd_T45 l0 x10_2).f0) = 1
       ·rw [if_pos c6] at H
        have c6b0 : (((rd_T45 l0 x10_2).f0) == 1) = true:=beq_iff_eq.mpr c6;have c6b1 : (((rd_T45 l0 x10_2).f0) != 1) = false:=bne_eq_false_iff_eq.mpr c6;clear c6;by_cases c7 : ((rd_T45 l0 x10_2).f2) = a1
        ·rw [if_pos c7] at H
         have c7b0 : (((rd_T45 l0 x10_2).f2) == a1) = true:=beq_iff_eq.mpr c7;have c7b1 : (((rd_T45 l0 x10_2).f2) != a1) = false:=bne_eq_false_iff_eq.mpr c7;clear c7;by_cases c8 : ((rd_T45 l0 x10_2).f1) > x8_1
         ·rw [if_pos c8] at H
          have c8b0 : decide (x8_1 < ((rd_T45 l0 x10_2).f1)) = true:=decide_eq_true c8;clear c8;by_cases c9 : x9_2 = 0
          ·rw [if_pos c9] at H
           have c9b0 : (x9_2 == 0) = true:=beq_iff_eq.mpr c9;have c9b1 : (x9_2 != 0) = false:=bne_eq_false_iff_eq.mpr c9;clear c9;replace H:=Option.bind_eq_some_iff.mp H;obtain ⟨t106,A100,H⟩:=H;replace H : (if t106 = true then (changeforgeref5_UserKeys.l1 k2 l0 a1 a2 x7_1 x8_1 ((rd_T45 l0 x10_2).f1) (wrap64 (x10_2 + 1))) else (changeforgeref5_UserKeys.l1 k2 l0 a1 a2 x7_1 x8_1 x9_2 (wrap64 (x10_2 + 1)))) = some r:=H;have A10:=Aside0.mk A100;clear A100;by_cases c11 : t106 = true
           ·subst c11
            have H1 : (changeforgeref5_UserKeys.l1 k2 l0 a1 a2 x7_1 x8_1 ((rd_T45 l0 x10_2).f1) (wrap64 (x10_2 + 1))) = some r:=by rw [if_pos rfl] at H;exact H
            clear H;have H:=H1;clear H1;have H':=Aside0.mk H;clear H;have p104 : 0 ≤ (x10_2 : Int):=of_decide_eq_true as_;have q104 : x10_2 < (l0.length : Int):=of_decide_eq_true as_;obtain ⟨ad104,e104,hx104_0,hx104_1,hx104_2,hx104_3⟩:=at_T45 HR0.out x10_2 p104 q104;cases e104
            replace hx104_0:=(HB.out.cell (World.block_lt_of_cell? w _ hx104_0)).trans hx104_0;replace hx104_1:=(HB.out.cell (World.block_lt_of_cell? w _ hx104_1)).trans hx104_1;replace hx104_2:=(HB.out.cell (World.block_lt_of_cell? w _ hx104_2)).trans hx104_2;replace hx104_3:=(HB.out.cell (World.block_lt_of_cell? w _ hx104_3)).trans hx104_3;replace p104:=eq_true p104;replace q104:=eq_true q104;go_wp2_with (first|((with_reducible refine gate_dst (N:=11) rfl ?_);refine box_event ?hg (N:=11) ?hd (cs:=#[.int .i64 0,.int .i64 0,.int .i64 0,.int .i64 0]) (t:=45) ?hr ?_;(case hd => rfl);(case hg => rfl);(case hr => first|(go_simp;done)|(go_simp;rfl));intro gb105 hg w12 hbox hb;replace HO_7:=Aside0.mk (Kd.R_below (Kd.R_mv HO_7.out) hb);have BK105:=Aside0.mk (hbox);have GW105:=Aside0.mk ((bs_ : w.heap.size ≤ gb105));have GE105:=Aside0.mk ((bs_ : w.heap.size ≤ gb105));replace HB:=Aside0.mk (below_step bel_ hb);clear hb hbox hg;have hcz13_0:=blk_c (v:=.int .i64 0) BK105.out 0 rfl;have hcz13_1:=blk_c (v:=.int .i64 0) BK105.out 1 rfl;have hcz13_2:=blk_c (v:=.int .i64 0) BK105.out 2 rfl;have hcz13_3:=blk_c (v:=.int .i64 0) BK105.out 3 rfl;have hfz13_0:=blk_frozen BK105.out 0;have hfz13_1:=blk_frozen BK105.out 1;have hfz13_2:=blk_frozen BK105.out 2;have hfz13_3:=blk_frozen BK105.out 3)|(go_at_call 18;(with_reducible refine (changeforgeref5_KeyValid.calls k2 _ _ l0 ((rd_T45 l0 x10_2).f1) a2 true _ ?side1 ?side2 A10.out).mono ?_);(case side1 => exact Kd.C_below HR0.out bel_);(case side2 => exact HC0.out);rintro e w' ⟨rfl,⟨nd,rfl⟩⟩));go_roundg k2
            case measure => have:=HK1.out;have:=HK2.out;omega
            case rel => exact ⟨((rd_T45 l0 x10_2).f1),(wrap64 (x10_2 + 1)),fr_,fr_,H',⟨by have:=HK1.out;have:=HK2.out;omega⟩,⟨by (with_reducible repeat (first|apply Kd.R_alloc|apply Kd.R_drewN|apply Kd.R_drew));exact Kd.R_mono (Kd.R_far (p:=⟨gb105,3,none⟩) (Kd.R_far (p:=⟨gb105,2,none⟩) (Kd.R_far (p:=⟨gb105,1,none⟩) (Kd.R_far (p:=⟨gb105,0,none⟩) (Kd.R_types HO_7.out BK105.out (by decide)) (fun _ hk => hk.2) (.int .i64 ((rd_T45 l0 x10_2).f0))) (fun _ hk => hk.2) (.int .i64 ((rd_T45 l0 x10_2).f1))) (fun _ hk => hk.2) (.int .i64 ((rd_T45 l0 x10_2).f2))) (fun _ hk => hk.2) (.int .i64 ((rd_T45 l0 x10_2).f3))) (fun _ hk => trivial)⟩,⟨bel_⟩⟩
           ·replace c11:=Bool.eq_false_iff.mpr c11
            subst c11;have H1 : (changeforgeref5_UserKeys.l1 k2 l0 a1 a2 x7_1 x8_1 x9_2 (wrap64 (x10_2 + 1))) = some r:=by rw [if_neg (show ¬ (false = true) by decide)] at H;exact H
            clear H;have H:=H1;clear H1;have H':=Aside0.mk H;clear H;have p104 : 0 ≤ (x10_2 : Int):=of_decide_eq_true as_;have q104 : x10_2 < (l0.length : Int):=of_decide_eq_true as_;obtain ⟨ad104,e104,hx104_0,hx104_1,hx104_2,hx104_3⟩:=at_T45 HR0.out x10_2 p104 q104;cases e104
            replace hx104_0:=(HB.out.cell (World.block_lt_of_cell? w _ hx104_0)).trans hx104_0;replace hx104_1:=(HB.out.cell (World.block_lt_of_cell? w _ hx104_1)).trans hx104_1;replace hx104_2:=(HB.out.cell (World.block_lt_of_cell? w _ hx104_2)).trans hx104_2;replace hx104_3:=(HB.out.cell (World.block_lt_of_cell? w _ hx104_3)).trans hx104_3;replace p104:=eq_true p104;replace q104:=eq_true q104;go_wp2_with (first|((with_reducible refine gate_dst (N:=11) rfl ?_);refine box_event ?hg (N:=11) ?hd (cs:=#[.int .i64 0,.int .i64 0,.int .i64 0,.int .i64 0]) (t:=45) ?hr ?_;(case hd => rfl);(case hg => rfl);(case hr => first|(go_simp;done)|(go_simp;rfl));intro gb105 hg w14 hbox hb;replace HO_7:=Aside0.mk (Kd.R_below (Kd.R_mv HO_7.out) hb);have BK105:=Aside0.mk (hbox);have GW105:=Aside0.mk ((bs_ : w.heap.size ≤ gb105));have GE105:=Aside0.mk ((bs_ : w.heap.size ≤ gb105));replace HB:=Aside0.mk (below_step bel_ hb);clear hb hbox hg;have hcz15_0:=blk_c (v:=.int .i64 0) BK105.out 0 rfl;have hcz15_1:=blk_c (v:=.int .i64 0) BK105.out 1 rfl;have hcz15_2:=blk_c (v:=.int .i64 0) BK105.out 2 rfl;have hcz15_3:=blk_c (v:=.int .i64 0) BK105.out 3 rfl;have hfz15_0:=blk_frozen BK105.out 0;have hfz15_1:=blk_frozen BK105.out 1;have hfz15_2:=blk_frozen BK105.out 2;have hfz15_3:=blk_frozen BK105.out 3)|(go_at_call 18;(with_reducible refine (changeforgeref5_KeyValid.calls k2 _ _ l0 ((rd_T45 l0 x10_2).f1) a2 false _ ?side1 ?side2 A10.out).mono ?_);(case side1 => exact Kd.C_below HR0.out bel_);(case side2 => exact HC0.out);rintro e w' ⟨rfl,⟨nd,rfl⟩⟩));go_roundg k2
            case measure => have:=HK1.out;have:=HK2.out;omega
            case rel => exact ⟨(x9_2),(wrap64 (x10_2 + 1)),fr_,fr_,H',⟨by have:=HK1.out;have:=HK2.out;omega⟩,⟨by (with_reducible repeat (first|apply Kd.R_alloc|apply Kd.R_drewN|apply Kd.R_drew));exact Kd.R_mono (Kd.R_far (p:=⟨gb105,3,none⟩) (Kd.R_far (p:=⟨gb105,2,none⟩) (Kd.R_far (p:=⟨gb105,1,none⟩) (Kd.R_far (p:=⟨gb105,0,none⟩) (Kd.R_types HO_7.out BK105.out (by decide)) (fun _ hk => hk.2) (.int .i64 ((rd_T45 l0 x10_2).f0))) (fun _ hk => hk.2) (.int .i64 ((rd_T45 l0 x10_2).f1))) (fun _ hk => hk.2) (.int .i64 ((rd_T45 l0 x10_2).f2))) (fun _ hk => hk.2) (.int .i64 ((rd_T45 l0 x10_2).f3))) (fun _ hk => trivial)⟩,⟨bel_⟩⟩
          ·rw [if_neg c9] at H
           have c9b0 : (x9_2 == 0) = false:=beq_eq_false_iff_ne.mpr c9;have c9b1 : (x9_2 != 0) = true:=bne_iff_ne.mpr c9;by_cases c16 : ((rd_T45 l0 x10_2).f1) < x9_2
           ·rw [if_pos c16] at H
            have c16b0 : decide (((rd_T45 l0 x10_2).f1) < x9_2) = true:=decide_eq_true c16;clear c16;replace H:=Option.bind_eq_some_iff.mp H;obtain ⟨t107,A170,H⟩:=H;replace H : (if t107 = true then (changeforgeref5_UserKeys.l1 k2 l0 a1 a2 x7_1 x8_1 ((rd_T45 l0 x10_2).f1) (wrap64 (x10_2 + 1))) else (changeforgeref5_UserKeys.l1 k2 l0 a1 a2 x7_1 x8_1 x9_2 (wrap64 (x10_2 + 1)))) = some r:=H;have A17:=Aside0.mk A170;clear A170;by_cases c18 : t107 = true
            ·subst c18
             have H1 : (changeforgeref5_UserKeys.l1 k2 l0 a1 a2 x7_1 x8_1 ((rd_T45 l0 x10_2).f1) (wrap64 (x10_2 + 1))) = some r:=by rw [if_pos rfl] at H;exact H
             clear H;have H:=H1;clear H1;have H':=Aside0.mk H;clear H;have p104 : 0 ≤ (x10_2 : Int):=of_decide_eq_true as_;have q104 : x10_2 < (l0.length : Int):=of_decide_eq_true as_;obtain ⟨ad104,e104,hx104_0,hx104_1,hx104_2,hx104_3⟩:=at_T45 HR0.out x10_2 p104 q104;cases e104
             replace hx104_0:=(HB.out.cell (World.block_lt_of_cell? w _ hx104_0)).trans hx104_0;replace hx104_1:=(HB.out.cell (World.block_lt_of_cell? w _ hx104_1)).trans hx104_1;replace hx104_2:=(HB.out.cell (World.block_lt_of_cell? w _ hx104_2)).trans hx104_2;replace hx104_3:=(HB.out.cell (World.block_lt_of_cell? w _ hx104_3)).trans hx104_3;replace p104:=eq_true p104;replace q104:=eq_true q104;go_wp2_with (first|((with_reducible refine gate_dst (N:=11) rfl ?_);refine box_event ?hg (N:=11) ?hd (cs:=#[.int .i64 0,.int .i64 0,.int .i64 0,.int .i64 0]) (t:=45) ?hr ?_;(case hd => rfl);(case hg => rfl);(case hr => first|(go_simp;done)|(go_simp;rfl));intro gb105 hg w19 hbox hb;replace HO_7:=Aside0.mk (Kd.R_below (Kd.R_mv HO_7.out) hb);have BK105:=Aside0.mk (hbox);have GW105:=Aside0.mk ((bs_ : w.heap.size ≤ gb105));have GE105:=Aside0.mk ((bs_ : w.heap.size ≤ gb105));replace HB:=Aside0.mk (below_step bel_ hb);clear hb hbox hg;have hcz20_0:=blk_c (v:=.int .i64 0) BK105.out 0 rfl;have hcz20_1:=blk_c (v:=.int .i64 0) BK105.out 1 rfl;have hcz20_2:=blk_c (v:=.int .i64 0) BK105.out 2 rfl;have hcz20_3:=blk_c (v:=.int .i64 0) BK105.out 3 rfl;have hfz20_0:=blk_frozen BK105.out 0;have hfz20_1:=blk_frozen BK105.out 1;have hfz20_2:=blk_frozen BK105.out 2;have hfz20_3:=blk_frozen BK105.out 3)|(go_at_call 18;(with_reducible refine (changeforgeref5_KeyValid.calls k2 _ _ l0 ((rd_T45 l0 x10_2).f1) a2 true _ ?side1 ?side2 A17.out).mono ?_);(case side1 => exact Kd.C_below HR0.out bel_);(case side2 => exact HC0.out);rintro e w' ⟨rfl,⟨nd,rfl⟩⟩));go_roundg k2
             case measure => have:=HK1.out;have:=HK2.out;omega
             case rel => exact ⟨((rd_T45 l0 x10_2).f1),(wrap64 (x10_2 + 1)),fr_,fr_,H',⟨by have:=HK1.out;have:=HK2.out;omega⟩,⟨by (with_reducible repeat (first|apply Kd.R_alloc|apply Kd.R_drewN|apply Kd.R_drew));exact Kd.R_mono (Kd.R_far (p:=⟨gb105,3,none⟩) (Kd.R_far (p:=⟨gb105,2,none⟩) (Kd.R_far (p:=⟨gb105,1,none⟩) (Kd.R_far (p:=⟨gb105,0,none⟩) (Kd.R_types HO_7.out BK105.out (by decide)) (fun _ hk => hk.2) (.int .i64 ((rd_T45 l0 x10_2).f0))) (fun _ hk => hk.2) (.int .i64 ((rd_T45 l0 x10_2).f1))) (fun _ hk => hk.2) (.int .i64 ((rd_T45 l0 x10_2).f2))) (fun _ hk => hk.2) (.int .i64 ((rd_T45 l0 x10_2).f3))) (fun _ hk => trivial)⟩,⟨bel_⟩⟩
            ·replace c18:=Bool.eq_false_iff.mpr c18
             subst c18;have H1 : (changeforgeref5_UserKeys.l1 k2 l0 a1 a2 x7_1 x8_1 x9_2 (wrap64 (x10_2 + 1))) = some r:=by rw [if_neg (show ¬ (false = true) by decide)] at H;exact H
             clear H;have H:=H1;clear H1;have H':=Aside0.mk H;clear H;have p104 : 0 ≤ (x10_2 : Int):=of_decide_eq_true as_;have q104 : x10_2 < (l0.length : Int):=of_decide_eq_true as_;obtain ⟨ad104,e104,hx104_0,hx104_1,hx104_2,hx104_3⟩:=at_T45 HR0.out x10_2 p104 q104;cases e104
             replace hx104_0:=(HB.out.cell (World.block_lt_of_cell? w _ hx104_0)).trans hx104_0;replace hx104_1:=(HB.out.cell (World.block_lt_of_cell? w _ hx104_1)).trans hx104_1;replace hx104_2:=(HB.out.cell (World.block_lt_of_cell? w _ hx104_2)).trans hx104_2;replace hx104_3:=(HB.out.cell (World.block_lt_of_cell? w _ hx104_3)).trans hx104_3;replace p104:=eq_true p104;replace q104:=eq_true q104;go_wp2_with (first|((with_reducible refine gate_dst (N:=11) rfl ?_);refine box_event ?hg (N:=11) ?hd (cs:=#[.int .i64 0,.int .i64 0,.int .i64 0,.int .i64 0]) (t:=45) ?hr ?_;(case hd => rfl);(case hg => rfl);(case hr => first|(go_simp;done)|(go_simp;rfl));intro gb105 hg w21 hbox hb;replace HO_7:=Aside0.mk (Kd.R_below (Kd.R_mv HO_7.out) hb);have BK105:=Aside0.mk (hbox);have GW105:=Aside0.mk ((bs_ : w.heap.size ≤ gb105));have GE105:=Aside0.mk ((bs_ : w.heap.size ≤ gb105));replace HB:=Aside0.mk (below_step bel_ hb);clear hb hbox hg;have hcz22_0:=blk_c (v:=.int .i64 0) BK105.out 0 rfl;have hcz22_1:=blk_c (v:=.int .i64 0) BK105.out 1 rfl;have hcz22_2:=blk_c (v:=.int .i64 0) BK105.out 2 rfl;have hcz22_3:=blk_c (v:=.int .i64 0) BK105.out 3 rfl;have hfz22_0:=blk_frozen BK105.out 0;have hfz22_1:=blk_frozen BK105.out 1;have hfz22_2:=blk_frozen BK105.out 2;have hfz22_3:=blk_frozen BK105.out 3)|(go_at_call 18;(with_reducible refine (changeforgeref5_KeyValid.calls k2 _ _ l0 ((rd_T45 l0 x10_2).f1) a2 false _ ?side1 ?side2 A17.out).mono ?_);(case side1 => exact Kd.C_below HR0.out bel_);(case side2 => exact HC0.out);rintro e w' ⟨rfl,⟨nd,rfl⟩⟩));go_roundg k2
             case measure => have:=HK1.out;have:=HK2.out;omega
             case rel => exact ⟨(x9_2),(wrap64 (x10_2 + 1)),fr_,fr_,H',⟨by have:=HK1.out;have:=HK2.out;omega⟩,⟨by (with_reducible repeat (first|apply Kd.R_alloc|apply Kd.R_drewN|apply Kd.R_drew));exact Kd.R_mono (Kd.R_far (p:=⟨gb105,3,none⟩) (Kd.R_far (p:=⟨gb105,2,none⟩) (Kd.R_far (p:=⟨gb105,1,none⟩) (Kd.R_far (p:=⟨gb105,0,none⟩) (Kd.R_types HO_7.out BK105.out (by decide)) (fun _ hk => hk.2) (.int .i64 ((rd_T45 l0 x10_2).f0))) (fun _ hk => hk.2) (.int .i64 ((rd_T45 l0 x10_2).f1))) (fun _ hk => hk.2) (.int .i64 ((rd_T45 l0 x10_2).f2))) (fun _ hk => hk.2) (.int .i64 ((rd_T45 l0 x10_2).f3))) (fun _ hk => trivial)⟩,⟨bel_⟩⟩
           ·rw [if_neg c16] at H
            have c16b0 : decide (((rd_T45 l0 x10_2).f1) < x9_2) = false:=decide_eq_false c16;clear c16;have H':=Aside0.mk H;clear H;have p104 : 0 ≤ (x10_2 : Int):=of_decide_eq_true as_;have q104 : x10_2 < (l0.length : Int):=of_decide_eq_true as_;obtain ⟨ad104,e104,hx104_0,hx104_1,hx104_2,hx104_3⟩:=at_T45 HR0.out x10_2 p104 q104;cases e104
            replace hx104_0:=(HB.out.cell (World.block_lt_of_cell? w _ hx104_0)).trans hx104_0;replace hx104_1:=(HB.out.cell (World.block_lt_of_cell? w _ hx104_1)).trans hx104_1;replace hx104_2:=(HB.out.cell (World.block_lt_of_cell? w _ hx104_2)).trans hx104_2;replace hx104_3:=(HB.out.cell (World.block_lt_of_cell? w _ hx104_3)).trans hx104_3;replace p104:=eq_true p104;replace q104:=eq_true q104;go_wp2_with (first|((with_reducible refine gate_dst (N:=11) rfl ?_);refine box_event ?hg (N:=11) ?hd (cs:=#[.int .i64 0,.int .i64 0,.int .i64 0,.int .i64 0]) (t:=45) ?hr ?_;(case hd => rfl);(case hg => rfl);(case hr => first|(go_simp;done)|(go_simp;rfl));intro gb105 hg w23 hbox hb;replace HO_7:=Aside0.mk (Kd.R_below (Kd.R_mv HO_7.out) hb);have BK105:=Aside0.mk (hbox);have GW105:=Aside0.mk ((bs_ : w.heap.size ≤ gb105));have GE105:=Aside0.mk ((bs_ : w.heap.size ≤ gb105));replace HB:=Aside0.mk (below_step bel_ hb);clear hb hbox hg;have hcz24_0:=blk_c (v:=.int .i64 0) BK105.out 0 rfl;have hcz24_1:=blk_c (v:=.int .i64 0) BK105.out 1 rfl;have hcz24_2:=blk_c (v:=.int .i64 0) BK105.out 2 rfl;have hcz24_3:=blk_c (v:=.int .i64 0) BK105.out 3 rfl;have hfz24_0:=blk_frozen BK105.out 0;have hfz24_1:=blk_frozen BK105.out 1;have hfz24_2:=blk_frozen BK105.out 2;have hfz24_3:=blk_frozen BK105.out 3));go_roundg k2
            case measure => have:=HK1.out;have:=HK2.out;omega
            case rel => exact ⟨(x9_2),(wrap64 (x10_2 + 1)),fr_,fr_,H',⟨by have:=HK1.out;have:=HK2.out;omega⟩,⟨by (with_reducible repeat (first|apply Kd.R_alloc|apply Kd.R_drewN|apply Kd.R_drew));exact Kd.R_mono (Kd.R_far (p:=⟨gb105,3,none⟩) (Kd.R_far (p:=⟨gb105,2,none⟩) (Kd.R_far (p:=⟨gb105,1,none⟩) (Kd.R_far (p:=⟨gb105,0,none⟩) (Kd.R_types HO_7.out BK105.out (by decide)) (fun _ hk => hk.2) (.int .i64 ((rd_T45 l0 x10_2).f0))) (fun _ hk => hk.2) (.int .i64 ((rd_T45 l0 x10_2).f1))) (fun _ hk => hk.2) (.int .i64 ((rd_T45 l0 x10_2).f2))) (fun _ hk => hk.2) (.int .i64 ((rd_T45 l0 x10_2).f3))) (fun _ hk => trivial)⟩,⟨bel_⟩⟩
         ·rw [if_neg c8] at H
          have c8b0 : decide (x8_1 < ((rd_T45 l0 x10_2).f1)) = false:=decide_eq_false c8;clear c8;have H':=Aside0.mk H;clear H;have p104 : 0 ≤ (x10_2 : Int):=of_decide_eq_true as_;have q104 : x10_2 < (l0.length : Int):=of_decide_eq_true as_;obtain ⟨ad104,e104,hx104_0,hx104_1,hx104_2,hx104_3⟩:=at_T45 HR0.out x10_2 p104 q104;cases e104
          replace hx104_0:=(HB.out.cell (World.block_lt_of_cell? w _ hx104_0)).trans hx104_0;replace hx104_1:=(HB.out.cell (World.block_lt_of_cell? w _ hx104_1)).trans hx104_1;replace hx104_2:=(HB.out.cell (World.block_lt_of_cell? w _ hx104_2)).trans hx104_2;replace hx104_3:=(HB.out.cell (World.block_lt_of_cell? w _ hx104_3)).trans hx104_3;replace p104:=eq_true p104;replace q104:=eq_true q104;go_wp2_with (first|((with_reducible refine gate_dst (N:=11) rfl ?_);refine box_event ?hg (N:=11) ?hd (cs:=#[.int .i64 0,.int .i64 0,.int .i64 0,.int .i64 0]) (t:=45) ?hr ?_;(case hd => rfl);(case hg => rfl);(case hr => first|(go_simp;done)|(go_simp;rfl));intro gb105 hg w25 hbox hb;replace HO_7:=Aside0.mk (Kd.R_below (Kd.R_mv HO_7.out) hb);have BK105:=Aside0.mk (hbox);have GW105:=Aside0.mk ((bs_ : w.heap.size ≤ gb105));have GE105:=Aside0.mk ((bs_ : w.heap.size ≤ gb105));replace HB:=Aside0.mk (below_step bel_ hb);clear hb hbox hg;have hcz26_0:=blk_c (v:=.int .i64 0) BK105.out 0 rfl;have hcz26_1:=blk_c (v:=.int .i64 0) BK105.out 1 rfl;have hcz26_2:=blk_c (v:=.int .i64 0) BK105.out 2 rfl;have hcz26_3:=blk_c (v:=.int .i64 0) BK105.out 3 rfl;have hfz26_0:=blk_frozen BK105.out 0;have hfz26_1:=blk_frozen BK105.out 1;have hfz26_2:=blk_frozen BK105.out 2;have hfz26_3:=blk_frozen BK105.out 3));go_roundg k2
          case measure => have:=HK1.out;have:=HK2.out;omega
          case rel => exact ⟨(x9_2),(wrap64 (x10_2 + 1)),fr_,fr_,H',⟨by have:=HK1.out;have:=HK2.out;omega⟩,⟨by (with_reducible repeat (first|apply Kd.R_alloc|apply Kd.R_drewN|apply Kd.R_drew));exact Kd.R_mono (Kd.R_far (p:=⟨gb105,3,none⟩) (Kd.R_far (p:=⟨gb105,2,none⟩) (Kd.R_far (p:=⟨gb105,1,none⟩) (Kd.R_far (p:=⟨gb105,0,none⟩) (Kd.R_types HO_7.out BK105.out (by decide)) (fun _ hk => hk.2) (.int .i64 ((rd_T45 l0 x10_2).f0))) (fun _ hk => hk.2) (.int .i64 ((rd_T45 l0 x10_2).f1))) (fun _ hk => hk.2) (.int .i64 ((rd_T45 l0 x10_2).f2))) (fun _ hk => hk.2) (.int .i64 ((rd_T45 l0 x10_2).f3))) (fun _ hk => trivial)⟩,⟨bel_⟩⟩
        ·rw [if_neg c7] at H
         have c7b0 : (((rd_T45 l0 x10_2).f2) == a1) = false:=beq_eq_false_iff_ne.mpr c7;have c7b1 : (((rd_T45 l0 x10_2).f2) != a1) = true:=bne_iff_ne.mpr c7;have H':=Aside0.mk H;clear H;have p104 : 0 ≤ (x10_2 : Int):=of_decide_eq_true as_;have q104 : x10_2 < (l0.length : Int):=of_decide_eq_true as_;obtain ⟨ad104,e104,hx104_0,hx104_1,hx104_2,hx104_3⟩:=at_T45 HR0.out x10_2 p104 q104;cases e104
         replace hx104_0:=(HB.out.cell (World.block_lt_of_cell? w _ hx104_0)).trans hx104_0;replace hx104_1:=(HB.out.cell (World.block_lt_of_cell? w _ hx104_1)).trans hx104_1;replace hx104_2:=(HB.out.cell (World.block_lt_of_cell? w _ hx104_2)).trans hx104_2;replace hx104_3:=(HB.out.cell (World.block_lt_of_cell? w _ hx104_3)).trans hx104_3;replace p104:=eq_true p104;replace q104:=eq_true q104;go_wp2_with (first|((with_reducible refine gate_dst (N:=11) rfl ?_);refine box_event ?hg (N:=11) ?hd (cs:=#[.int .i64 0,.int .i64 0,.int .i64 0,.int .i64 0]) (t:=45) ?hr ?_;(case hd => rfl);(case hg => rfl);(case hr => first|(go_simp;done)|(go_simp;rfl));intro gb105 hg w27 hbox hb;replace HO_7:=Aside0.mk (Kd.R_below (Kd.R_mv HO_7.out) hb);have BK105:=Aside0.mk (hbox);have GW105:=Aside0.mk ((bs_ : w.heap.size ≤ gb105));have GE105:=Aside0.mk ((bs_ : w.heap.size ≤ gb105));replace HB:=Aside0.mk (below_step bel_ hb);clear hb hbox hg;have hcz28_0:=blk_c (v:=.int .i64 0) BK105.out 0 rfl;have hcz28_1:=blk_c (v:=.int .i64 0) BK105.out 1 rfl;have hcz28_2:=blk_c (v:=.int .i64 0) BK105.out 2 rfl;have hcz28_3:=blk_c (v:=.int .i64 0) BK105.out 3 rfl;have hfz28_0:=blk_frozen BK105.out 0;have hfz28_1:=blk_frozen BK105.out 1;have hfz28_2:=blk_frozen BK105.out 2;have hfz28_3:=blk_frozen BK105.out 3));go_roundg k2
         case measure => have:=HK1.out;have:=HK2.out;omega
         case rel => exact ⟨(x9_2),(wrap64 (x10_2 + 1)),fr_,fr_,H',⟨by have:=HK1.out;have:=HK2.out;omega⟩,⟨by (with_reducible repeat (first|apply Kd.R_alloc|apply Kd.R_drewN|apply Kd.R_drew));exact Kd.R_mono (Kd.R_far (p:=⟨gb105,3,none⟩) (Kd.R_far (p:=⟨gb105,2,none⟩) (Kd.R_far (p:=⟨gb105,1,none⟩) (Kd.R_far (p:=⟨gb105,0,none⟩) (Kd.R_types HO_7.out BK105.out (by decide)) (fun _ hk => hk.2) (.int .i64 ((rd_T45 l0 x10_2).f0))) (fun _ hk => hk.2) (.int .i64 ((rd_T45 l0 x10_2).f1))) (fun _ hk => hk.2) (.int .i64 ((rd_T45 l0 x10_2).f2))) (fun _ hk => hk.2) (.int .i64 ((rd_T45 l0 x10_2).f3))) (fun _ hk => trivial)⟩,⟨bel_⟩⟩
       ·rw [if_neg c6] at H
        have c6b0 : (((rd_T45 l0 x10_2).f0) == 1) = false:=beq_eq_false_iff_ne.mpr c6;have c6b1 : (((rd_T45 l0 x10_2).f0) != 1) = true:=bne_iff_ne.mpr c6;have H':=Aside0.mk H;clear H;have p104 : 0 ≤ (x10_2 : Int):=of_decide_eq_true as_;have q104 : x10_2 < (l0.length : Int):=of_decide_eq_true as_;obtain ⟨ad104,e104,hx104_0,hx104_1,hx104_2,hx104_3⟩:=at_T45 HR0.out x10_2 p104 q104;cases e104
        replace hx104_0:=(HB.out.cell (World.block_lt_of_cell? w _ hx104_0)).trans hx104_0;replace hx104_1:=(HB.out.cell (World.block_lt_of_cell? w _ hx104_1)).trans hx104_1;replace hx104_2:=(HB.out.cell (World.block_lt_of_cell? w _ hx104_2)).trans hx104_2;replace hx104_3:=(HB.out.cell (World.block_lt_of_cell? w _ hx104_3)).trans hx104_3;replace p104:=eq_true p104;replace q104:=eq_true q104;go_wp2_with (first|((with_reducible refine gate_dst (N:=11) rfl ?_);refine box_event ?hg (N:=11) ?hd (cs:=#[.int .i64 0,.int .i64 0,.int .i64 0,.int .i64 0]) (t:=45) ?hr ?_;(case hd => rfl);(case hg => rfl);(case hr => first|(go_simp;done)|(go_simp;rfl));intro gb105 hg w29 hbox hb;replace HO_7:=Aside0.mk (Kd.R_below (Kd.R_mv HO_7.out) hb);have BK105:=Aside0.mk (hbox);have GW105:=Aside0.mk ((bs_ : w.heap.size ≤ gb105));have GE105:=Aside0.mk ((bs_ : w.heap.size ≤ gb105));replace HB:=Aside0.mk (below_step bel_ hb);clear hb hbox hg;have hcz30_0:=blk_c (v:=.int .i64 0) BK105.out 0 rfl;have hcz30_1:=blk_c (v:=.int .i64 0) BK105.out 1 rfl;have hcz30_2:=blk_c (v:=.int .i64 0) BK105.out 2 rfl;have hcz30_3:=blk_c (v:=.int .i64 0) BK105.out 3 rfl;have hfz30_0:=blk_frozen BK105.out 0;have hfz30_1:=blk_frozen BK105.out 1;have hfz30_2:=blk_frozen BK105.out 2;have hfz30_3:=blk_frozen BK105.out 3));go_roundg k2
        case measure => have:=HK1.out;have:=HK2.out;omega
        case rel => exact ⟨(x9_2),(wrap64 (x10_2 + 1)),fr_,fr_,H',⟨by have:=HK1.out;have:=HK2.out;omega⟩,⟨by (with_reducible repeat (first|apply Kd.R_alloc|apply Kd.R_drewN|apply Kd.R_drew));exact Kd.R_mono (Kd.R_far (p:=⟨gb105,3,none⟩) (Kd.R_far (p:=⟨gb105,2,none⟩) (Kd.R_far (p:=⟨gb105,1,none⟩) (Kd.R_far (p:=⟨gb105,0,none⟩) (Kd.R_types HO_7.out BK105.out (by decide)) (fun _ hk => hk.2) (.int .i64 ((rd_T45 l0 x10_2).f0))) (fun _ hk => hk.2) (.int .i64 ((rd_T45 l0 x10_2).f1))) (fun _ hk => hk.2) (.int .i64 ((rd_T45 l0 x10_2).f2))) (fun _ hk => hk.2) (.int .i64 ((rd_T45 l0 x10_2).f3))) (fun _ hk => trivial)⟩,⟨bel_⟩⟩
      ·rw [if_neg c5] at H
       exact absurd H (by simp)
     ·rw [if_neg c4] at H
      have c4b0 : decide (x10_2 < (l0.length : Int)) = false:=decide_eq_false c4;clear c4;by_cases c31 : x9_2 = 0
      ·rw [if_pos c31] at H
       have c31b0 : (x9_2 == 0) = true:=beq_iff_eq.mpr c31;have c31b1 : (x9_2 != 0) = false:=bne_eq_false_iff_eq.mpr c31;clear c31;obtain rfl:=Option.some.inj H;go_wp2;go_ret;exact ⟨_,by first|rfl|(simp [errW_none,errW_some] <;> rfl)|(simp [*,errW_none,errW_some] <;> rfl),Kd.R_mv HO_7.out,bel_⟩
      ·rw [if_neg c31] at H
       have c31b0 : (x9_2 == 0) = false:=beq_eq_false_iff_ne.mpr c31;have c31b1 : (x9_2 != 0) = true:=bne_iff_ne.mpr c31;by_cases c32 : x7_1.length < 17592186044416
       ·rw [if_pos c32] at H
        have LMc32:=Aside0.mk c32;clear c32;obtain ⟨y101,hy101⟩ : ∃ y_ : List Int,y_ = (x7_1 ++ [x9_2]):=⟨_,rfl⟩;replace H : (changeforgeref5_UserKeys.l0 k2 l0 a1 a2 y101 x9_2) = some r:=by first|(rw [hy101];with_reducible exact H)|(have H2_:=(Option.bind_some _ _).symm.trans H;rw [hy101];with_reducible exact H2_)|(have H2_:=(Option.bind_some _ _).symm.trans H;with_reducible exact H2_)|with_reducible exact H|(rw [hy101];exact H)|exact H
        have Ny101:=Aside0.mk hy101;clear hy101;have H':=Aside0.mk H;clear H;go_wp2_with (first|((with_reducible refine gate_builtin (b:=.append) (xs:=#[.tmp 59,.tmp 61]) rfl ?_);at_builtin;refine Kd.R_append (Kd.int .i64) (w0:=w) w.heap.size rfl (.tmp 59) (.tmp 61) 36 3 (.int .i64 0) 8 rfl Try.underlying36 info3 rfl (by decide) (by omega) u7 x7_1 x9_2 [.int .i64 x9_2] (fun _ => True) (fun _ => False) rfl rfl ?aP (fun _ hk => hk.elim) ?aF ?aO ?aB ?aS ?aL ?_;(case aP => exact rfl);(case aB => exact bel_);(case aF => exact (fun _ _ => trivial));(case aO => exact (Kd.R_mv HO_7.out));(case aS => exact (below_size bel_));(case aL => have:=LMc32.out;omega);intro v102 w33 ho hb hg hat;rw [← Ny101.out] at ho;replace HB:=Aside0.mk (hb);have HO103:=Aside0.mk (ho);clear HO_7;clear ho hb hg hat));go_roundg k2
        case measure => have:=HK1.out;have:=HK2.out;omega
        case rel => exact ⟨(y101),(x9_2),fr_,H',⟨by have:=HK1.out;have:=HK2.out;omega⟩,⟨Kd.R_mv HO103.out⟩,⟨bel_⟩⟩
       ·rw [if_neg c32] at H
        exact absurd H (by simp)

end Go.Proofs.Ytnkonhplfldlmaa.Fn
