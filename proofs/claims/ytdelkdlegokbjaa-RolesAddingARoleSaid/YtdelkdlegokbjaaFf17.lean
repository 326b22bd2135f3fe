/- A function of the program as a plain Lean function, and the proof that the call comes to just what it says (written by wip/tools/xprint.py for this claim). Condition: the plain function has an answer. -/
import Derived.Test.YtdelkdlegokbjaaFn0
import Derived.Test.YtdelkdlegokbjaaFs0
import Derived.Test.YtdelkdlegokbjaaWA
import Derived.Test.YtdelkdlegokbjaaTight
namespace Go.Proofs.Ytdelkdlegokbjaa.Fn
open Go.RowKit Go.Proofs.YtdelkdlegokbjaaW.PrintWords Go.Proofs.YtdelkdlegokbjaaW.PrintLast Go.Proofs.YtdelkdlegokbjaaW.PrintMore
attribute [local go_sem] max2_int min2_int max_two min_two max_three min_three max_four min_four   -- for this text's walks alone
set_option linter.unusedVariables false
set_option linter.unusedSimpArgs false

/-! ### changeforgeref5_Signers: function 17 -/
mutual
def changeforgeref5_Signers.l0 : Nat → List Int → List Int → List (S58) → List Int → Int → Option (List Int)
 | 0,_,_,_,_,_ => none
 | k + 1,x0,x1,x2,x7,x8 => if x8 < (x0.length : Int) then (changeforgeref5_Signers.l1 k x0 x1 x2 x7 x8 false 0) else (some x7)
def changeforgeref5_Signers.l1 : Nat → List Int → List Int → List (S58) → List Int → Int → Bool → Int → Option (List Int)
 | 0,_,_,_,_,_,_,_ => none
 | k + 1,x0,x1,x2,x7,x8,x9,x10 => if x10 < (x2.length : Int) then (if x9 = true then (changeforgeref5_Signers.l1 k x0 x1 x2 x7 x8 true (wrap64 (x10 + 1))) else (if 0 ≤ x10 then (if 0 ≤ x8 then (if x8 < (x0.length : Int) then (if ((rd_T58 x2 x10).f0) = (rd x0 x8) then ((changeforgeref5_Sign.f k (rd x0 x8) x1).bind fun t105 => (changeforgeref5_Signers.l1 k x0 x1 x2 x7 x8 (((rd_T58 x2 x10).f1) == t105) (wrap64 (x10 + 1)))) else (changeforgeref5_Signers.l1 k x0 x1 x2 x7 x8 false (wrap64 (x10 + 1)))) else (none)) else (none)) else (none))) else (if x9 = true then (if 0 ≤ x8 then (if x8 < (x0.length : Int) then (if x7.length < 17592186044416 then (changeforgeref5_Signers.l0 k x0 x1 x2 (x7 ++ [rd x0 x8]) (wrap64 (x8 + 1))) else (none)) else (none)) else (none)) else (changeforgeref5_Signers.l0 k x0 x1 x2 x7 (wrap64 (x8 + 1))))
end
def changeforgeref5_Signers.f (k : Nat) (l0 : List Int) (l1 : List Int) (l2 : List (S58)) : Option (List Int):=changeforgeref5_Signers.l0 k l0 l1 l2 ([] : List Int) 0
theorem changeforgeref5_Signers.mono_l : ∀ k,(∀ y0 y1 y2 y3 y4,LeO (changeforgeref5_Signers.l0 k y0 y1 y2 y3 y4) (changeforgeref5_Signers.l0 (k + 1) y0 y1 y2 y3 y4)) ∧ (∀ y0 y1 y2 y3 y4 y5 y6,LeO (changeforgeref5_Signers.l1 k y0 y1 y2 y3 y4 y5 y6) (changeforgeref5_Signers.l1 (k + 1) y0 y1 y2 y3 y4 y5 y6))
 | 0 => ⟨fun _ _ _ _ _ r h => by simp [changeforgeref5_Signers.l0] at h,fun _ _ _ _ _ _ _ r h => by simp [changeforgeref5_Signers.l1] at h⟩
 | k + 1 => by
  obtain ⟨ih0,ih1⟩:=changeforgeref5_Signers.mono_l k;refine ⟨?_,?_⟩
  ·intro y0 y1 y2 y3 y4
   unfold changeforgeref5_Signers.l0;repeat' first
   | (with_reducible exact ih0 _ _ _ _ _)
   | (with_reducible exact ih1 _ _ _ _ _ _ _)
   | (with_reducible exact changeforgeref5_Sign.mono _ _ _)
   | (with_reducible exact LeO.refl _)
   | (with_reducible exact LeO.none _)
   | (with_reducible refine LeO.ite ?_ ?_)
   | (with_reducible refine LeO.bind ?_ (fun _ => ?_))
   | exact ih0 _ _ _ _ _
   | exact ih1 _ _ _ _ _ _ _
   | exact changeforgeref5_Sign.mono _ _ _
   | exact LeO.none _
   | refine LeO.ite ?_ ?_
   | refine LeO.bind ?_ (fun _ => ?_)
  ·intro y0 y1 y2 y3 y4 y5 y6
   unfold changeforgeref5_Signers.l1;repeat' first
   | (with_reducible exact ih0 _ _ _ _ _)
   | (with_reducible exact ih1 _ _ _ _ _ _ _)
   | (with_reducible exact changeforgeref5_Sign.mono _ _ _)
   | (with_reducible exact LeO.refl _)
   | (with_reducible exact LeO.none _)
   | (with_reducible refine LeO.ite ?_ ?_)
   | (with_reducible refine LeO.bind ?_ (fun _ => ?_))
   | exact ih0 _ _ _ _ _
   | exact ih1 _ _ _ _ _ _ _
   | exact changeforgeref5_Sign.mono _ _ _
   | exact LeO.none _
   | refine LeO.ite ?_ ?_
   | refine LeO.bind ?_ (fun _ => ?_)
theorem changeforgeref5_Signers.mono : ∀ a0 a1 a2 k,LeO (changeforgeref5_Signers.f k a0 a1 a2) (changeforgeref5_Signers.f (k + 1) a0 a1 a2):=by
 intro a0 a1 a2 k;obtain ⟨ih0,ih1⟩:=changeforgeref5_Signers.mono_l k;unfold changeforgeref5_Signers.f
 repeat' first
   | (with_reducible exact ih0 _ _ _ _ _)
   | (with_reducible exact ih1 _ _ _ _ _ _ _)
   | (with_reducible exact changeforgeref5_Sign.mono _ _ _)
   | (with_reducible exact LeO.refl _)
   | (with_reducible exact LeO.none _)
   | (with_reducible refine LeO.ite ?_ ?_)
   | (with_reducible refine LeO.bind ?_ (fun _ => ?_))
   | exact ih0 _ _ _ _ _
   | exact ih1 _ _ _ _ _ _ _
   | exact changeforgeref5_Sign.mono _ _ _
   | exact LeO.none _
   | refine LeO.ite ?_ ?_
   | refine LeO.bind ?_ (fun _ => ?_)
set_option maxHeartbeats 8000000 in
set_option maxRecDepth 100000 in
theorem changeforgeref5_Signers.calls (k : Nat) (A0 : Option Addr) (c0 : Nat) (l0 : List Int) (A1 : Option Addr) (c1 : Nat) (l1 : List Int) (A2 : Option Addr) (c2 : Nat) (l2 : List (S58)) (r : List Int) (w : World) (hr0 : Kd.C (Kd.int .i64) w A0 l0.length l0) (hc0 : l0.length ≤ c0) (hr1 : Kd.C (Kd.int .u8) w A1 l1.length l1) (hc1 : l1.length ≤ c1) (hr2 : Kd.C k58 w A2 l2.length l2) (hc2 : l2.length ≤ c2) (h : changeforgeref5_Signers.f k l0 l1 l2 = some r) :
  Calls Try.prog 17 #[.slice A0 l0.length c0,.slice A1 l1.length c1,.slice A2 l2.length c2] w fun e w' => ∃ v0_ : Value,e = .returned (v0_) ∧ Kd.R (Kd.int .i64) 3 w' w.heap.size (fun _ => True) v0_ r ∧ Below w.heap.size w w':=by
 have HR0:=Aside0.mk hr0;have HC0:=Aside0.mk hc0;clear hr0 hc0;have HR1:=Aside0.mk hr1;have HC1:=Aside0.mk hc1;clear hr1 hc1;have HR2:=Aside0.mk hr2;have HC2:=Aside0.mk hc2;clear hr2 hc2;have HB:=Aside0.mk (Below.refl w.heap.size w);have H : (changeforgeref5_Signers.l0 k l0 l1 l2 ([] : List Int) 0) = some r:=h;clear h;have H':=Aside0.mk H;clear H;go_enter Try.func17,Try.ntmps17;go_wp2;repeat (go_quiet (fail);try go_wp2)
 go_loopg [7,8] k (fun kq v7 v8 w' => ∃ (x7_1 : List Int) (x8_1 : Int),v8 = .int .i64 x8_1 ∧ Aside0 (changeforgeref5_Signers.l0 kq l0 l1 l2 x7_1 x8_1 = some r) ∧ Aside0 (kq ≤ k) ∧ Aside0 (Kd.R (Kd.int .i64) 3 w' w.heap.size (fun _ => True) v7 x7_1) ∧ Aside0 (Below w.heap.size w w'))
 case atStart => exact ⟨(([] : List Int)),(0),fr_,H',⟨Nat.le_refl _⟩,⟨by first|exact Kd.R_nil _ _ _ _ _|exact Kd.N_nil _ _ _ _ _|exact Kd.V_nil _ _ _ _ _|exact Kd.Q_nil _ _ _ _ _|exact Kd.S_nil _ _ _ _ _⟩,⟨bel_⟩⟩
 case round =>
  clear H';(try clear c1);(try clear c2);(try clear p2);obtain ⟨x7_1,x8_1,rfl,HA,HK1,HO_7,HB⟩:=hrel;cases gk with
  | zero => exact absurd HA.out (by simp [changeforgeref5_Signers.l0])
  | succ k1 =>
   have H:=HA.out;clear HA;simp only [changeforgeref5_Signers.l0] at H;by_cases c4 : x8_1 < (l0.length : Int)
   ·rw [if_pos c4] at H
    have c4b0 : decide (x8_1 < (l0.length : Int)) = true:=decide_eq_true c4;clear c4;have H':=Aside0.mk H;clear H;go_wp2;repeat (go_quiet (fail);try go_wp2)
    go_loopg [9,10] k1 (fun kq v9 v10 w' => ∃ (x9_2 : Bool) (x10_2 : Int),v9 = .bool x9_2 ∧ v10 = .int .i64 x10_2 ∧ Aside0 (changeforgeref5_Signers.l1 kq l0 l1 l2 x7_1 x8_1 x9_2 x10_2 = some r) ∧ Aside0 (kq ≤ k1) ∧ Aside0 (Kd.R (Kd.int .i64) 3 w' w.heap.size (fun _ => True) u7 x7_1) ∧ Aside0 (Below w.heap.size w w'))
    case atStart => exact ⟨(false),(0),fr_,fr_,H',⟨Nat.le_refl _⟩,⟨Kd.R_mv HO_7.out⟩,⟨bel_⟩⟩
    case round =>
     clear H';(try clear c1);(try clear c2);(try clear p2);(try clear c4);(try clear c4b0);(try clear p2);obtain ⟨x9_2,x10_2,rfl,rfl,HA,HK2,HO_7,HB⟩:=hrel;cases gk with
     | zero => exact absurd HA.out (by simp [changeforgeref5_Signers.l1])
     | succ k2 =>
      have H:=HA.out;clear HA;simp only [changeforgeref5_Signers.l1] at H;by_cases c5 : x10_2 < (l2.length : Int)
      ·rw [if_pos c5] at H
       have c5b0 : decide (x10_2 < (l2.length : Int)) = true:=decide_eq_true c5;clear c5;by_cases c6 : x9_2 = true
       ·subst c6
        have H1 : (changeforgeref5_Signers.l1 k2 l0 l1 l2 x7_1 x8_1 true (wrap64 (x10_2 + 1))) = some r:=by rw [if_pos rfl] at H;exact H
        clear H;have H:=H1;clear H1;have H':=Aside0.mk H;clear H;go_wp2;repeat (go_quiet (fail);try go_wp2)
        go_roundg k2
        case measure => have:=HK1.out;have:=HK2.out;omega
        case rel => exact ⟨(true),(wrap64 (x10_2 + 1)),fr_,fr_,H',⟨by have:=HK1.out;have:=HK2.out;omega⟩,⟨Kd.R_mv HO_7.out⟩,⟨bel_⟩⟩
       ·replace c6:=Bool.eq_false_iff.mpr c6
        subst c6;have H1 : (if 0 ≤ x10_2 then (if 0 ≤ x8_1 then (if x8_1 < (l0.length : Int) then (if ((rd_T58 l2 x10_2).f0) = (rd l0 x8_1) then ((changeforgeref5_Sign.f k2 (rd l0 x8_1) l1).bind fun t105 => (changeforgeref5_Signers.l1 k2 l0 l1 l2 x7_1 x8_1 (((rd_T58 l2 x10_2).f1) == t105) (wrap64 (x10_2 + 1)))) else (changeforgeref5_Signers.l1 k2 l0 l1 l2 x7_1 x8_1 false (wrap64 (x10_2 + 1)))) else (none)) else (none)) else (none)) = some r:=by rw [if_neg (show ¬ (false = true) by decide)] at H;exact H
        clear H;have H:=H1;clear H1;by_cases c7 : 0 ≤ x10_2
        ·rw [if_pos c7] at H
         have c7b0 : decide (0 ≤ x10_2) = true:=decide_eq_true c7;clear c7;by_cases c8 : 0 ≤ x8_1
         ·rw [if_pos c8] at H
          have c8b0 : decide (0 ≤ x8_1) = true:=decide_eq_true c8;clear c8;by_cases c9 : x8_1 < (l0.length : Int)
          ·rw [if_pos c9] at H
           have c9b0 : decide (x8_1 < (l0.length : Int)) = true:=decide_eq_true c9;clear c9;by_cases c10 : ((rd_T58 l2 x10_2).f0) = (rd l0 x8_1)
           ·rw [if_pos c10] at H
            have c10b0 : (((rd_T58 l2 x10_2).f0) == (rd l0 x8_1)) = true:=beq_iff_eq.mpr c10;have c10b1 : (((rd_T58 l2 x10_2).f0) != (rd l0 x8_1)) = false:=bne_eq_false_iff_eq.mpr c10;clear c10;replace H:=Option.bind_eq_some_iff.mp H;obtain ⟨t105,A110,H⟩:=H;replace H : (changeforgeref5_Signers.l1 k2 l0 l1 l2 x7_1 x8_1 (((rd_T58 l2 x10_2).f1) == t105) (wrap64 (x10_2 + 1))) = some r:=H;have A11:=Aside0.mk A110;clear A110;have H':=Aside0.mk H;clear H;have p101 : 0 ≤ (x10_2 : Int):=of_decide_eq_true as_;have q101 : x10_2 < (l2.length : Int):=of_decide_eq_true as_;obtain ⟨ad101,e101,hx101_0,hx101_1⟩:=at_T58 HR2.out x10_2 p101 q101;cases e101
            replace hx101_0:=(HB.out.cell (World.block_lt_of_cell? w _ hx101_0)).trans hx101_0;replace hx101_1:=(HB.out.cell (World.block_lt_of_cell? w _ hx101_1)).trans hx101_1;replace p101:=eq_true p101;replace q101:=eq_true q101;have p102 : 0 ≤ (x8_1 : Int):=of_decide_eq_true as_;have q102 : x8_1 < (l0.length : Int):=of_decide_eq_true as_;obtain ⟨ad102,e102,hx102_0⟩:=Kd.at_int HR0.out x8_1 p102 q102;cases e102
            replace hx102_0:=(HB.out.cell (World.block_lt_of_cell? w _ hx102_0)).trans hx102_0;replace p102:=eq_true p102;replace q102:=eq_true q102;have p103 : 0 ≤ (x10_2 : Int):=of_decide_eq_true as_;have q103 : x10_2 < (l2.length : Int):=of_decide_eq_true as_;obtain ⟨ad103,e103,hx103_0,hx103_1⟩:=at_T58 HR2.out x10_2 p103 q103;obtain rfl : ad101 = ad103:=(by injection e103);replace hx103_0:=(HB.out.cell (World.block_lt_of_cell? w _ hx103_0)).trans hx103_0;replace hx103_1:=(HB.out.cell (World.block_lt_of_cell? w _ hx103_1)).trans hx103_1;replace p103:=eq_true p103;replace q103:=eq_true q103;have p104 : 0 ≤ (x8_1 : Int):=of_decide_eq_true as_;have q104 : x8_1 < (l0.length : Int):=of_decide_eq_true as_;obtain ⟨ad104,e104,hx104_0⟩:=Kd.at_int HR0.out x8_1 p104 q104;obtain rfl : ad102 = ad104:=(by injection e104);replace hx104_0:=(HB.out.cell (World.block_lt_of_cell? w _ hx104_0)).trans hx104_0;replace p104:=eq_true p104;replace q104:=eq_true q104;go_wp2_with (first|(go_at_call 36;(with_reducible refine (changeforgeref5_Sign.calls k2 (rd l0 x8_1) _ _ l1 t105 _ ?side1 ?side2 A11.out).mono ?_);(case side1 => first|exact (Kd.C_below HR1.out HB.out)|exact Kd.C_mv (Kd.C_below HR1.out HB.out));(case side2 => exact HC1.out);rintro e w' ⟨rfl,⟨nd,rfl⟩⟩;(try first|exact ⟨rfl,_,World.drewN_drewN _ _ _⟩|exact ⟨rfl,_,Eq.trans (World.drewN_drewN _ _ _) (congrArg (World.drewN _) (Nat.add_assoc _ _ _))⟩)));repeat (go_quiet (first|(go_at_call 36;(with_reducible refine (changeforgeref5_Sign.calls k2 (rd l0 x8_1) _ _ l1 t105 _ ?side1 ?side2 A11.out).mono ?_);(case side1 => first|exact (Kd.C_below HR1.out HB.out)|exact Kd.C_mv (Kd.C_below HR1.out HB.out));(case side2 => exact HC1.out);rintro e w' ⟨rfl,⟨nd,rfl⟩⟩;(try first|exact ⟨rfl,_,World.drewN_drewN _ _ _⟩|exact ⟨rfl,_,Eq.trans (World.drewN_drewN _ _ _) (congrArg (World.drewN _) (Nat.add_assoc _ _ _))⟩)));try go_wp2_with (first|(go_at_call 36;(with_reducible refine (changeforgeref5_Sign.calls k2 (rd l0 x8_1) _ _ l1 t105 _ ?side1 ?side2 A11.out).mono ?_);(case side1 => first|exact (Kd.C_below HR1.out HB.out)|exact Kd.C_mv (Kd.C_below HR1.out HB.out));(case side2 => exact HC1.out);rintro e w' ⟨rfl,⟨nd,rfl⟩⟩;(try first|exact ⟨rfl,_,World.drewN_drewN _ _ _⟩|exact ⟨rfl,_,Eq.trans (World.drewN_drewN _ _ _) (congrArg (World.drewN _) (Nat.add_assoc _ _ _))⟩))))
            go_roundg k2
            case measure => have:=HK1.out;have:=HK2.out;omega
            case rel => exact ⟨((((rd_T58 l2 x10_2).f1) == t105)),(wrap64 (x10_2 + 1)),fr_,fr_,H',⟨by have:=HK1.out;have:=HK2.out;omega⟩,⟨Kd.R_mv HO_7.out⟩,⟨bel_⟩⟩
           ·rw [if_neg c10] at H
            have c10b0 : (((rd_T58 l2 x10_2).f0) == (rd l0 x8_1)) = false:=beq_eq_false_iff_ne.mpr c10;have c10b1 : (((rd_T58 l2 x10_2).f0) != (rd l0 x8_1)) = true:=bne_iff_ne.mpr c10;have H':=Aside0.mk H;clear H;have p101 : 0 ≤ (x10_2 : Int):=of_decide_eq_true as_;have q101 : x10_2 < (l2.length : Int):=of_decide_eq_true as_;obtain ⟨ad101,e101,hx101_0,hx101_1⟩:=at_T58 HR2.out x10_2 p101 q101;cases e101
            replace hx101_0:=(HB.out.cell (World.block_lt_of_cell? w _ hx101_0)).trans hx101_0;replace hx101_1:=(HB.out.cell (World.block_lt_of_cell? w _ hx101_1)).trans hx101_1;replace p101:=eq_true p101;replace q101:=eq_true q101;have p102 : 0 ≤ (x8_1 : Int):=of_decide_eq_true as_;have q102 : x8_1 < (l0.length : Int):=of_decide_eq_true as_;obtain ⟨ad102,e102,hx102_0⟩:=Kd.at_int HR0.out x8_1 p102 q102;cases e102
            replace hx102_0:=(HB.out.cell (World.block_lt_of_cell? w _ hx102_0)).trans hx102_0;replace p102:=eq_true p102;replace q102:=eq_true q102;go_wp2;repeat (go_quiet (fail);try go_wp2)
            go_roundg k2
            case measure => have:=HK1.out;have:=HK2.out;omega
            case rel => exact ⟨(false),(wrap64 (x10_2 + 1)),fr_,fr_,H',⟨by have:=HK1.out;have:=HK2.out;omega⟩,⟨Kd.R_mv HO_7.out⟩,⟨bel_⟩⟩
          ·rw [if_neg c9] at H
           exact absurd H (by simp)
         ·rw [if_neg c8] at H
          exact absurd H (by simp)
        ·rw [if_neg c7] at H
         exact absurd H (by simp)
      ·rw [if_neg c5] at H
       have c5b0 : decide (x10_2 < (l2.length : Int)) = false:=decide_eq_false c5;clear c5;by_cases c12 : x9_2 = true
       ·subst c12
        have H1 : (if 0 ≤ x8_1 then (if x8_1 < (l0.length : Int) then (if x7_1.length < 17592186044416 then (changeforgeref5_Signers.l0 k2 l0 l1 l2 (x7_1 ++ [rd l0 x8_1]) (wrap64 (x8_1 + 1))) else (none)) else (none)) else (none)) = some r:=by rw [if_pos rfl] at H;exact H
        clear H;have H:=H1;clear H1;by_cases c13 : 0 ≤ x8_1
        ·rw [if_pos c13] at H
         have c13b0 : decide (0 ≤ x8_1) = true:=decide_eq_true c13;clear c13;by_cases c14 : x8_1 < (l0.length : Int)
         ·rw [if_pos c14] at H
          have c14b0 : decide (x8_1 < (l0.length : Int)) = true:=decide_eq_true c14;clear c14;by_cases c15 : x7_1.length < 17592186044416
          ·rw [if_pos c15] at H
           have LMc15:=Aside0.mk c15;clear c15;obtain ⟨y107,hy107⟩ : ∃ y_ : List Int,y_ = (x7_1 ++ [rd l0 x8_1]):=⟨_,rfl⟩;replace H : (changeforgeref5_Signers.l0 k2 l0 l1 l2 y107 (wrap64 (x8_1 + 1))) = some r:=by first|(rw [hy107];with_reducible exact H)|(have H2_:=(Option.bind_some _ _).symm.trans H;rw [hy107];with_reducible exact H2_)|(have H2_:=(Option.bind_some _ _).symm.trans H;with_reducible exact H2_)|with_reducible exact H|(rw [hy107];exact H)|exact H
           have Ny107:=Aside0.mk hy107;clear hy107;have H':=Aside0.mk H;clear H;have p106 : 0 ≤ (x8_1 : Int):=of_decide_eq_true as_;have q106 : x8_1 < (l0.length : Int):=of_decide_eq_true as_;obtain ⟨ad106,e106,hx106_0⟩:=Kd.at_int HR0.out x8_1 p106 q106;cases e106
           replace hx106_0:=(HB.out.cell (World.block_lt_of_cell? w _ hx106_0)).trans hx106_0;replace p106:=eq_true p106;replace q106:=eq_true q106;go_wp2_with (first|((with_reducible refine gate_builtin (b:=.append) (xs:=#[.tmp 51,.tmp 56]) rfl ?_);at_builtin;refine Kd.R_append (Kd.int .i64) (w0:=w) w.heap.size rfl (.tmp 51) (.tmp 56) 30 3 (.int .i64 0) 8 rfl Try.underlying30 info3 rfl (by decide) (by omega) u7 x7_1 (rd l0 x8_1) [.int .i64 (rd l0 x8_1)] (fun _ => True) (fun _ => False) rfl rfl ?aP (fun _ hk => hk.elim) ?aF ?aO ?aB ?aS ?aL ?_;(case aP => exact rfl);(case aB => exact bel_);(case aF => exact (fun _ _ => trivial));(case aO => exact (Kd.R_mv HO_7.out));(case aS => exact (below_size bel_));(case aL => have:=LMc15.out;omega);intro v108 w16 ho hb hg hat;rw [← Ny107.out] at ho;replace HB:=Aside0.mk (hb);have HO109:=Aside0.mk (ho);clear HO_7;clear ho hb hg hat));repeat (go_quiet (first|((with_reducible refine gate_builtin (b:=.append) (xs:=#[.tmp 51,.tmp 56]) rfl ?_);at_builtin;refine Kd.R_append (Kd.int .i64) (w0:=w) w.heap.size rfl (.tmp 51) (.tmp 56) 30 3 (.int .i64 0) 8 rfl Try.underlying30 info3 rfl (by decide) (by omega) u7 x7_1 (rd l0 x8_1) [.int .i64 (rd l0 x8_1)] (fun _ => True) (fun _ => False) rfl rfl ?aP (fun _ hk => hk.elim) ?aF ?aO ?aB ?aS ?aL ?_;(case aP => exact rfl);(case aB => exact bel_);(case aF => exact (fun _ _ => trivial));(case aO => exact (Kd.R_mv HO_7.out));(case aS => exact (below_size bel_));(case aL => have:=LMc15.out;omega);intro v108 w16 ho hb hg hat;rw [← Ny107.out] at ho;replace HB:=Aside0.mk (hb);have HO109:=Aside0.mk (ho);clear HO_7;clear ho hb hg hat));try go_wp2_with (first|((with_reducible refine gate_builtin (b:=.append) (xs:=#[.tmp 51,.tmp 56]) rfl ?_);at_builtin;refine Kd.R_append (Kd.int .i64) (w0:=w) w.heap.size rfl (.tmp 51) (.tmp 56) 30 3 (.int .i64 0) 8 rfl Try.underlying30 info3 rfl (by decide) (by omega) u7 x7_1 (rd l0 x8_1) [.int .i64 (rd l0 x8_1)] (fun _ => True) (fun _ => False) rfl rfl ?aP (fun _ hk => hk.elim) ?aF ?aO ?aB ?aS ?aL ?_;(case aP => exact rfl);(case aB => exact bel_);(case aF => exact (fun _ _ => trivial));(case aO => exact (Kd.R_mv HO_7.out));(case aS => exact (below_size bel_));(case aL => have:=LMc15.out;omega);intro v108 w16 ho hb hg hat;rw [← Ny107.out] at ho;replace HB:=Aside0.mk (hb);have HO109:=Aside0.mk (ho);clear HO_7;clear ho hb hg hat)))
           go_roundg k2
           case measure => have:=HK1.out;have:=HK2.out;omega
           case rel => exact ⟨(y107),(wrap64 (x8_1 + 1)),fr_,H',⟨by have:=HK1.out;have:=HK2.out;omega⟩,⟨Kd.R_mv HO109.out⟩,⟨bel_⟩⟩
          ·rw [if_neg c15] at H
           exact absurd H (by simp)
         ·rw [if_neg c14] at H
          exact absurd H (by simp)
        ·rw [if_neg c13] at H
         exact absurd H (by simp)
       ·replace c12:=Bool.eq_false_iff.mpr c12
        subst c12;have H1 : (changeforgeref5_Signers.l0 k2 l0 l1 l2 x7_1 (wrap64 (x8_1 + 1))) = some r:=by rw [if_neg (show ¬ (false = true) by decide)] at H;exact H
        clear H;have H:=H1;clear H1;have H':=Aside0.mk H;clear H;go_wp2;repeat (go_quiet (fail);try go_wp2)
        go_roundg k2
        case measure => have:=HK1.out;have:=HK2.out;omega
        case rel => exact ⟨(x7_1),(wrap64 (x8_1 + 1)),fr_,H',⟨by have:=HK1.out;have:=HK2.out;omega⟩,⟨Kd.R_mv HO_7.out⟩,⟨bel_⟩⟩
   ·rw [if_neg c4] at H
    have c4b0 : decide (x8_1 < (l0.length : Int)) = false:=decide_eq_false c4;clear c4;obtain rfl:=Option.some.inj H;go_wp2;repeat (go_quiet (fail);try go_wp2)
    go_ret;exact ⟨_,by first|rfl|(simp [errW_none,errW_some] <;> rfl)|(simp [*,errW_none,errW_some] <;> rfl),Kd.R_mv HO_7.out,bel_⟩

end Go.Proofs.Ytdelkdlegokbjaa.Fn
