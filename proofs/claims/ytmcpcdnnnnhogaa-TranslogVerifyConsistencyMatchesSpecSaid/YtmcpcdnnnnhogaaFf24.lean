/- A function of the program as a plain Lean function, and the proof that the call comes to just what it says (written by wip/tools/xprint.py for this claim). Condition: the plain function has an answer. -/
import Derived.Test.YtmcpcdnnnnhogaaFn0
import Derived.Test.YtmcpcdnnnnhogaaFs0
import Derived.Test.YtmcpcdnnnnhogaaWA
import Derived.Test.YtmcpcdnnnnhogaaTight
namespace Go.Proofs.Ytmcpcdnnnnhogaa.Fn
open Go.RowKit Go.Proofs.YtmcpcdnnnnhogaaW.PrintWords Go.Proofs.YtmcpcdnnnnhogaaW.PrintLast Go.Proofs.YtmcpcdnnnnhogaaW.PrintMore
attribute [local go_sem] max2_int min2_int max_two min_two max_three min_three max_four min_four   -- for this text's walks alone
set_option linter.unusedVariables false
set_option linter.unusedSimpArgs false

/-! ### changeforgeref5_LogIncludes: function 24 -/
mutual
def changeforgeref5_LogIncludes.l0 : Nat → Int → List Int → Int → Int → Int → Int → Option (Bool)
 | 0,_,_,_,_,_,_ => none
 | k + 1,x0,x4,x11,x12,x13,x14 => if x14 < (x4.length : Int) then (if x12 = 0 then (some false) else (if (Int.tmod x11 2) = 1 then (changeforgeref5_LogIncludes.j1 k x0 x4 x11 x12 x13 x14 true) else (changeforgeref5_LogIncludes.j1 k x0 x4 x11 x12 x13 x14 (x11 == x12)))) else (if x12 = 0 then (some (x13 == x0)) else (some false))
def changeforgeref5_LogIncludes.j1 : Nat → Int → List Int → Int → Int → Int → Int → Bool → Option (Bool)
 | 0,_,_,_,_,_,_,_ => none
 | k + 1,x0,x4,x11,x12,x13,x14,x34 => if x34 = true then (if 0 ≤ x14 then (if x14 < (x4.length : Int) then ((changeforgeref1_DigestPair.f k (rd x4 x14) x13).bind fun t102 => (changeforgeref5_LogIncludes.l1 k x0 x4 x11 x12 t102 x14)) else (none)) else (none)) else (if 0 ≤ x14 then (if x14 < (x4.length : Int) then ((changeforgeref1_DigestPair.f k x13 (rd x4 x14)).bind fun t104 => (changeforgeref5_LogIncludes.l0 k x0 x4 (wrap64 (Int.tdiv x11 2)) (wrap64 (Int.tdiv x12 2)) t104 (wrap64 (x14 + 1)))) else (none)) else (none))
def changeforgeref5_LogIncludes.l1 : Nat → Int → List Int → Int → Int → Int → Int → Option (Bool)
 | 0,_,_,_,_,_,_ => none
 | k + 1,x0,x4,x11,x12,x13,x14 => if (Int.tmod x11 2) = 0 then (if x11 = 0 then (changeforgeref5_LogIncludes.l0 k x0 x4 (wrap64 (Int.tdiv x11 2)) (wrap64 (Int.tdiv x12 2)) x13 (wrap64 (x14 + 1))) else (changeforgeref5_LogIncludes.l1 k x0 x4 (wrap64 (Int.tdiv x11 2)) (wrap64 (Int.tdiv x12 2)) x13 x14)) else (changeforgeref5_LogIncludes.l0 k x0 x4 (wrap64 (Int.tdiv x11 2)) (wrap64 (Int.tdiv x12 2)) x13 (wrap64 (x14 + 1)))
end
def changeforgeref5_LogIncludes.f (k : Nat) (a0 : Int) (a1 : Int) (a2 : Int) (a3 : Int) (l4 : List Int) : Option (Bool):=changeforgeref5_LogIncludes.l0 k a0 l4 a2 (wrap64 (a1 - 1)) a3 0
theorem changeforgeref5_LogIncludes.mono_l : ∀ k,(∀ y0 y1 y2 y3 y4 y5,LeO (changeforgeref5_LogIncludes.l0 k y0 y1 y2 y3 y4 y5) (changeforgeref5_LogIncludes.l0 (k + 1) y0 y1 y2 y3 y4 y5)) ∧ (∀ y0 y1 y2 y3 y4 y5 y6,LeO (changeforgeref5_LogIncludes.j1 k y0 y1 y2 y3 y4 y5 y6) (changeforgeref5_LogIncludes.j1 (k + 1) y0 y1 y2 y3 y4 y5 y6)) ∧ (∀ y0 y1 y2 y3 y4 y5,LeO (changeforgeref5_LogIncludes.l1 k y0 y1 y2 y3 y4 y5) (changeforgeref5_LogIncludes.l1 (k + 1) y0 y1 y2 y3 y4 y5))
 | 0 => ⟨fun _ _ _ _ _ _ r h => by simp [changeforgeref5_LogIncludes.l0] at h,fun _ _ _ _ _ _ _ r h => by simp [changeforgeref5_LogIncludes.j1] at h,fun _ _ _ _ _ _ r h => by simp [changeforgeref5_LogIncludes.l1] at h⟩
 | k + 1 => by
  obtain ⟨ih0,ih1,ih2⟩:=changeforgeref5_LogIncludes.mono_l k;refine ⟨?_,?_,?_⟩
  ·intro y0 y1 y2 y3 y4 y5
   unfold changeforgeref5_LogIncludes.l0;repeat' first
   | (with_reducible exact ih0 _ _ _ _ _ _)
   | (with_reducible exact ih1 _ _ _ _ _ _ _)
   | (with_reducible exact ih2 _ _ _ _ _ _)
   | (with_reducible exact changeforgeref1_DigestPair.mono _ _ _)
   | (with_reducible exact LeO.refl _)
   | (with_reducible exact LeO.none _)
   | (with_reducible refine LeO.ite ?_ ?_)
   | (with_reducible refine LeO.bind ?_ (fun _ => ?_))
   | exact ih0 _ _ _ _ _ _
   | exact ih1 _ _ _ _ _ _ _
   | exact ih2 _ _ _ _ _ _
   | exact changeforgeref1_DigestPair.mono _ _ _
   | exact LeO.none _
   | refine LeO.ite ?_ ?_
   | refine LeO.bind ?_ (fun _ => ?_)
  ·intro y0 y1 y2 y3 y4 y5 y6
   unfold changeforgeref5_LogIncludes.j1;repeat' first
   | (with_reducible exact ih0 _ _ _ _ _ _)
   | (with_reducible exact ih1 _ _ _ _ _ _ _)
   | (with_reducible exact ih2 _ _ _ _ _ _)
   | (with_reducible exact changeforgeref1_DigestPair.mono _ _ _)
   | (with_reducible exact LeO.refl _)
   | (with_reducible exact LeO.none _)
   | (with_reducible refine LeO.ite ?_ ?_)
   | (with_reducible refine LeO.bind ?_ (fun _ => ?_))
   | exact ih0 _ _ _ _ _ _
   | exact ih1 _ _ _ _ _ _ _
   | exact ih2 _ _ _ _ _ _
   | exact changeforgeref1_DigestPair.mono _ _ _
   | exact LeO.none _
   | refine LeO.ite ?_ ?_
   | refine LeO.bind ?_ (fun _ => ?_)
  ·intro y0 y1 y2 y3 y4 y5
   unfold changeforgeref5_LogIncludes.l1;repeat' first
   | (with_reducible exact ih0 _ _ _ _ _ _)
   | (with_reducible exact ih1 _ _ _ _ _ _ _)
   | (with_reducible exact ih2 _ _ _ _ _ _)
   | (with_reducible exact changeforgeref1_DigestPair.mono _ _ _)
   | (with_reducible exact LeO.refl _)
   | (with_reducible exact LeO.none _)
   | (with_reducible refine LeO.ite ?_ ?_)
   | (with_reducible refine LeO.bind ?_ (fun _ => ?_))
   | exact ih0 _ _ _ _ _ _
   | exact ih1 _ _ _ _ _ _ _
   | exact ih2 _ _ _ _ _ _
   | exact changeforgeref1_DigestPair.mono _ _ _
   | exact LeO.none _
   | refine LeO.ite ?_ ?_
   | refine LeO.bind ?_ (fun _ => ?_)
theorem changeforgeref5_LogIncludes.mono : ∀ a0 a1 a2 a3 a4 k,LeO (changeforgeref5_LogIncludes.f k a0 a1 a2 a3 a4) (changeforgeref5_LogIncludes.f (k + 1) a0 a1 a2 a3 a4):=by
 intro a0 a1 a2 a3 a4 k;obtain ⟨ih0,ih1,ih2⟩:=changeforgeref5_LogIncludes.mono_l k;unfold changeforgeref5_LogIncludes.f
 repeat' first
   | (with_reducible exact ih0 _ _ _ _ _ _)
   | (with_reducible exact ih1 _ _ _ _ _ _ _)
   | (with_reducible exact ih2 _ _ _ _ _ _)
   | (with_reducible exact changeforgeref1_DigestPair.mono _ _ _)
   | (with_reducible exact LeO.refl _)
   | (with_reducible exact LeO.none _)
   | (with_reducible refine LeO.ite ?_ ?_)
   | (with_reducible refine LeO.bind ?_ (fun _ => ?_))
   | exact ih0 _ _ _ _ _ _
   | exact ih1 _ _ _ _ _ _ _
   | exact ih2 _ _ _ _ _ _
   | exact changeforgeref1_DigestPair.mono _ _ _
   | exact LeO.none _
   | refine LeO.ite ?_ ?_
   | refine LeO.bind ?_ (fun _ => ?_)
set_option maxHeartbeats 8000000 in
set_option maxRecDepth 100000 in
theorem changeforgeref5_LogIncludes.calls (k : Nat) (a0 : Int) (a1 : Int) (a2 : Int) (a3 : Int) (A4 : Option Addr) (c4 : Nat) (l4 : List Int) (r : Bool) (w : World) (hr4 : Kd.C (Kd.int .i64) w A4 l4.length l4) (hc4 : l4.length ≤ c4) (h : changeforgeref5_LogIncludes.f k a0 a1 a2 a3 l4 = some r) :
  Calls Try.prog 24 #[.int .i64 a0,.int .i64 a1,.int .i64 a2,.int .i64 a3,.slice A4 l4.length c4] w fun e w' => e = .returned (.bool r) ∧ Drawn0 w w':=by
 have HR4:=Aside0.mk hr4;have HC4:=Aside0.mk hc4;clear hr4 hc4;have H : (changeforgeref5_LogIncludes.l0 k a0 l4 a2 (wrap64 (a1 - 1)) a3 0) = some r:=h;clear h;have H':=Aside0.mk H;clear H;go_enter Try.func24,Try.ntmps24;go_wp2;go_loopg [11,12,13,14] k (fun kq v11 v12 v13 v14 w' => ∃ (x11_1 : Int) (x12_1 : Int) (x13_1 : Int) (x14_1 : Int),v11 = .int .i64 x11_1 ∧ v12 = .int .i64 x12_1 ∧ v13 = .int .i64 x13_1 ∧ v14 = .int .i64 x14_1 ∧ Aside0 (changeforgeref5_LogIncludes.l0 kq a0 l4 x11_1 x12_1 x13_1 x14_1 = some r) ∧ Aside0 (kq ≤ k) ∧ Drawn0 w w')
 case atStart => exact ⟨(a2),(wrap64 (a1 - 1)),(a3),(0),fr_,fr_,fr_,fr_,H',⟨Nat.le_refl _⟩,by repeat (first|exact Drawn0.refl _|apply Drawn0.step)⟩
 case round =>
  clear H';(try clear c2);(try clear p2);(try clear c4);obtain ⟨x11_1,x12_1,x13_1,x14_1,rfl,rfl,rfl,rfl,HA,HK1,⟨m1,rfl⟩⟩:=hrel;cases gk with
  | zero => exact absurd HA.out (by simp [changeforgeref5_LogIncludes.l0])
  | succ k1 =>
   have H:=HA.out;clear HA;simp only [changeforgeref5_LogIncludes.l0] at H;by_cases c6 : x14_1 < (l4.length : Int)
   ·rw [if_pos c6] at H
    have c6b0 : decide (x14_1 < (l4.length : Int)) = true:=decide_eq_true c6;clear c6;by_cases c7 : x12_1 = 0
    ·rw [if_pos c7] at H
     have c7b0 : (x12_1 == 0) = true:=beq_iff_eq.mpr c7;have c7b1 : (x12_1 != 0) = false:=bne_eq_false_iff_eq.mpr c7;clear c7;obtain rfl:=Option.some.inj H;go_wp2;go_ret;exact ⟨by first|rfl|(simp;done)|(simp only [IntWalk.i64_left];done)|(simp [*];done),by repeat (first|exact Drawn0.refl _|apply Drawn0.step)⟩
    ·rw [if_neg c7] at H
     have c7b0 : (x12_1 == 0) = false:=beq_eq_false_iff_ne.mpr c7;have c7b1 : (x12_1 != 0) = true:=bne_iff_ne.mpr c7;have HC8:=Aside0.mk H;clear H;go_upto_region 9 with (fail);go_cut [34] (fun v34 wc => ∃ (kq : Nat) (x34_7 : Bool),v34 = .bool x34_7 ∧ Aside0 (changeforgeref5_LogIncludes.j1 kq a0 l4 x11_1 x12_1 x13_1 x14_1 x34_7 = some r) ∧ Aside0 (kq ≤ k1) ∧ Drawn0 w wc)
     case first =>
      have H:=HC8.out;clear HC8;by_cases c9 : (Int.tmod x11_1 2) = 1
      ·rw [if_pos c9] at H
       have c9b0 : ((Int.tmod x11_1 2) == 1) = true:=beq_iff_eq.mpr c9;have c9b1 : ((Int.tmod x11_1 2) != 1) = false:=bne_eq_false_iff_eq.mpr c9;clear c9;(first|rw [c9b0]|(simp only [i64_w,i32_w];rw [c9b0])|skip);have H':=Aside0.mk H;clear H;go_wp2;go_meet
       case rel => exact ⟨_,(true),fr_,H',⟨by have:=HK1.out;first|omega|exact Nat.le_refl _⟩,by repeat (first|exact Drawn0.refl _|apply Drawn0.step)⟩
      ·rw [if_neg c9] at H
       have c9b0 : ((Int.tmod x11_1 2) == 1) = false:=beq_eq_false_iff_ne.mpr c9;have c9b1 : ((Int.tmod x11_1 2) != 1) = true:=bne_iff_ne.mpr c9;(first|rw [c9b0]|(simp only [i64_w,i32_w];rw [c9b0])|skip);have H':=Aside0.mk H;clear H;go_wp2;go_meet
       case rel => exact ⟨_,((x11_1 == x12_1)),fr_,H',⟨by have:=HK1.out;first|omega|exact Nat.le_refl _⟩,by repeat (first|exact Drawn0.refl _|apply Drawn0.step)⟩
     case rest =>
      clear HC8;(try clear c2);(try clear p2);(try clear c4);(try clear c6);(try clear c6b0);(try clear p6);(try clear c7);(try clear c7b0);(try clear c7b1);(try clear c9);(try clear c9b0);(try clear c9b1);(try clear p2);obtain ⟨kq,x34_7,rfl,HA,HJ7,⟨mc7,rfl⟩⟩:=hcut;cases kq with
      | zero => exact absurd HA.out (by simp [changeforgeref5_LogIncludes.j1])
      | succ kj7 =>
       have H:=HA.out;clear HA;simp only [changeforgeref5_LogIncludes.j1] at H;by_cases c10 : x34_7 = true
       ·subst c10
        have H1 : (if 0 ≤ x14_1 then (if x14_1 < (l4.length : Int) then ((changeforgeref1_DigestPair.f kj7 (rd l4 x14_1) x13_1).bind fun t102 => (changeforgeref5_LogIncludes.l1 kj7 a0 l4 x11_1 x12_1 t102 x14_1)) else (none)) else (none)) = some r:=by rw [if_pos rfl] at H;exact H
        clear H;have H:=H1;clear H1;by_cases c11 : 0 ≤ x14_1
        ·rw [if_pos c11] at H
         have c11b0 : decide (0 ≤ x14_1) = true:=decide_eq_true c11;clear c11;by_cases c12 : x14_1 < (l4.length : Int)
         ·rw [if_pos c12] at H
          have c12b0 : decide (x14_1 < (l4.length : Int)) = true:=decide_eq_true c12;clear c12;replace H:=Option.bind_eq_some_iff.mp H;obtain ⟨t102,A130,H⟩:=H;replace H : (changeforgeref5_LogIncludes.l1 kj7 a0 l4 x11_1 x12_1 t102 x14_1) = some r:=H;have A13:=Aside0.mk A130;clear A130;have H':=Aside0.mk H;clear H;have p101 : 0 ≤ (x14_1 : Int):=of_decide_eq_true as_;have q101 : x14_1 < (l4.length : Int):=of_decide_eq_true as_;obtain ⟨ad101,e101,hx101_0⟩:=Kd.at_int HR4.out x14_1 p101 q101;cases e101
          replace p101:=eq_true p101;replace q101:=eq_true q101;go_wp2_with (first|((with_reducible refine gate_callee (f:=33) rfl ?_);refine goesL_ (some 40) rfl rfl Try.func33 (by kernel_rfl) rfl #[.int .i64 (rd l4 x14_1),.int .i64 x13_1] rfl ln_ ?_;(with_reducible refine (changeforgeref1_DigestPair.calls kj7 (rd l4 x14_1) x13_1 t102 _ A13.out).mono ?_);rintro e w' ⟨rfl,⟨nd,rfl⟩⟩;refine ⟨_,rfl,?_⟩));go_loopg [11,12] kj7 (fun kq v11 v12 w' => ∃ (x11_3 : Int) (x12_3 : Int),v11 = .int .i64 x11_3 ∧ v12 = .int .i64 x12_3 ∧ Aside0 (changeforgeref5_LogIncludes.l1 kq a0 l4 x11_3 x12_3 t102 x14_1 = some r) ∧ Aside0 (kq ≤ kj7) ∧ Drawn0 w w')
          case atStart => exact ⟨(x11_1),(x12_1),fr_,fr_,H',⟨Nat.le_refl _⟩,by repeat (first|exact Drawn0.refl _|apply Drawn0.step)⟩
          case round =>
           clear H';(try clear c1);(try clear p1);(try clear q1);(try clear hx1);(try clear c2);(try clear p2);(try clear c3);(try clear c4);(try clear c6);(try clear c6b0);(try clear p6);(try clear c7);(try clear c7b0);(try clear c7b1);(try clear c9);(try clear c9b0);(try clear c9b1);(try clear c10);(try clear p10);(try clear q10);(try clear hx10);(try clear c11);(try clear c11b0);(try clear c12);(try clear c12b0);(try clear hx101_0);(try clear p101);(try clear p2);(try clear p6);(try clear q101);obtain ⟨x11_3,x12_3,rfl,rfl,HA,HK3,⟨m3,rfl⟩⟩:=hrel;cases gk with
           | zero => exact absurd HA.out (by simp [changeforgeref5_LogIncludes.l1])
           | succ k3 =>
            have H:=HA.out;clear HA;simp only [changeforgeref5_LogIncludes.l1] at H;by_cases c14 : (Int.tmod x11_3 2) = 0
            ·rw [if_pos c14] at H
             have c14b0 : ((Int.tmod x11_3 2) == 0) = true:=beq_iff_eq.mpr c14;have c14b1 : ((Int.tmod x11_3 2) != 0) = false:=bne_eq_false_iff_eq.mpr c14;clear c14;by_cases c15 : x11_3 = 0
             ·rw [if_pos c15] at H
              have c15b0 : (x11_3 == 0) = true:=beq_iff_eq.mpr c15;have c15b1 : (x11_3 != 0) = false:=bne_eq_false_iff_eq.mpr c15;clear c15;have H':=Aside0.mk H;clear H;go_wp2;go_roundg k3
              case measure => have:=HK1.out;have:=HJ7.out;have:=HK3.out;omega
              case rel => exact ⟨(wrap64 (Int.tdiv x11_3 2)),(wrap64 (Int.tdiv x12_3 2)),(t102),(wrap64 (x14_1 + 1)),fr_,fr_,fr_,fr_,H',⟨by have:=HK1.out;have:=HJ7.out;have:=HK3.out;omega⟩,by repeat (first|exact Drawn0.refl _|apply Drawn0.step)⟩
             ·rw [if_neg c15] at H
              have c15b0 : (x11_3 == 0) = false:=beq_eq_false_iff_ne.mpr c15;have c15b1 : (x11_3 != 0) = true:=bne_iff_ne.mpr c15;have H':=Aside0.mk H;clear H;go_wp2;go_roundg k3
              case measure => have:=HK1.out;have:=HJ7.out;have:=HK3.out;omega
              case rel => exact ⟨(wrap64 (Int.tdiv x11_3 2)),(wrap64 (Int.tdiv x12_3 2)),fr_,fr_,H',⟨by have:=HK1.out;have:=HJ7.out;have:=HK3.out;omega⟩,by repeat (first|exact Drawn0.refl _|apply Drawn0.step)⟩
            ·rw [if_neg c14] at H
             have c14b0 : ((Int.tmod x11_3 2) == 0) = false:=beq_eq_false_iff_ne.mpr c14;have c14b1 : ((Int.tmod x11_3 2) != 0) = true:=bne_iff_ne.mpr c14;have H':=Aside0.mk H;clear H;go_wp2;go_roundg k3
             case measure => have:=HK1.out;have:=HJ7.out;have:=HK3.out;omega
             case rel => exact ⟨(wrap64 (Int.tdiv x11_3 2)),(wrap64 (Int.tdiv x12_3 2)),(t102),(wrap64 (x14_1 + 1)),fr_,fr_,fr_,fr_,H',⟨by have:=HK1.out;have:=HJ7.out;have:=HK3.out;omega⟩,by repeat (first|exact Drawn0.refl _|apply Drawn0.step)⟩
         ·rw [if_neg c12] at H
          exact absurd H (by simp)
        ·rw [if_neg c11] at H
         exact absurd H (by simp)
       ·replace c10:=Bool.eq_false_iff.mpr c10
        subst c10;have H1 : (if 0 ≤ x14_1 then (if x14_1 < (l4.length : Int) then ((changeforgeref1_DigestPair.f kj7 x13_1 (rd l4 x14_1)).bind fun t104 => (changeforgeref5_LogIncludes.l0 kj7 a0 l4 (wrap64 (Int.tdiv x11_1 2)) (wrap64 (Int.tdiv x12_1 2)) t104 (wrap64 (x14_1 + 1)))) else (none)) else (none)) = some r:=by rw [if_neg (show ¬ (false = true) by decide)] at H;exact H
        clear H;have H:=H1;clear H1;by_cases c16 : 0 ≤ x14_1
        ·rw [if_pos c16] at H
         have c16b0 : decide (0 ≤ x14_1) = true:=decide_eq_true c16;clear c16;by_cases c17 : x14_1 < (l4.length : Int)
         ·rw [if_pos c17] at H
          have c17b0 : decide (x14_1 < (l4.length : Int)) = true:=decide_eq_true c17;clear c17;replace H:=Option.bind_eq_some_iff.mp H;obtain ⟨t104,A180,H⟩:=H;replace H : (changeforgeref5_LogIncludes.l0 kj7 a0 l4 (wrap64 (Int.tdiv x11_1 2)) (wrap64 (Int.tdiv x12_1 2)) t104 (wrap64 (x14_1 + 1))) = some r:=H;have A18:=Aside0.mk A180;clear A180;have H':=Aside0.mk H;clear H;have p103 : 0 ≤ (x14_1 : Int):=of_decide_eq_true as_;have q103 : x14_1 < (l4.length : Int):=of_decide_eq_true as_;obtain ⟨ad103,e103,hx103_0⟩:=Kd.at_int HR4.out x14_1 p103 q103;cases e103
          replace p103:=eq_true p103;replace q103:=eq_true q103;go_wp2_with (first|((with_reducible refine gate_callee (f:=33) rfl ?_);refine goesL_ (some 57) rfl rfl Try.func33 (by kernel_rfl) rfl #[.int .i64 x13_1,.int .i64 (rd l4 x14_1)] rfl ln_ ?_;(with_reducible refine (changeforgeref1_DigestPair.calls kj7 x13_1 (rd l4 x14_1) t104 _ A18.out).mono ?_);rintro e w' ⟨rfl,⟨nd,rfl⟩⟩;refine ⟨_,rfl,?_⟩));go_roundg kj7
          case measure => have:=HK1.out;have:=HJ7.out;omega
          case rel => exact ⟨(wrap64 (Int.tdiv x11_1 2)),(wrap64 (Int.tdiv x12_1 2)),(t104),(wrap64 (x14_1 + 1)),fr_,fr_,fr_,fr_,H',⟨by have:=HK1.out;have:=HJ7.out;omega⟩,by repeat (first|exact Drawn0.refl _|apply Drawn0.step)⟩
         ·rw [if_neg c17] at H
          exact absurd H (by simp)
        ·rw [if_neg c16] at H
         exact absurd H (by simp)
   ·rw [if_neg c6] at H
    have c6b0 : decide (x14_1 < (l4.length : Int)) = false:=decide_eq_false c6;clear c6;by_cases c19 : x12_1 = 0
    ·rw [if_pos c19] at H
     have c19b0 : (x12_1 == 0) = true:=beq_iff_eq.mpr c19;have c19b1 : (x12_1 != 0) = false:=bne_eq_false_iff_eq.mpr c19;clear c19;obtain rfl:=Option.some.inj H;go_wp2;go_ret;exact ⟨by first|rfl|(simp;done)|(simp only [IntWalk.i64_left];done)|(simp [*];done),by repeat (first|exact Drawn0.refl _|apply Drawn0.step)⟩
    ·rw [if_neg c19] at H
     have c19b0 : (x12_1 == 0) = false:=beq_eq_false_iff_ne.mpr c19;have c19b1 : (x12_1 != 0) = true:=bne_iff_ne.mpr c19;obtain rfl:=Option.some.inj H;go_wp2;go_ret;exact ⟨by first|rfl|(simp;done)|(simp only [IntWalk.i64_left];done)|(simp [*];done),by repeat (first|exact Drawn0.refl _|apply Drawn0.step)⟩

end Go.Proofs.Ytmcpcdnnnnhogaa.Fn
