/- A function of the program as a plain Lean function, and the proof that the call comes to just what it says (written by wip/tools/xprint.py for this claim). Condition: the plain function has an answer. -/
import Derived.Test.YtggdbafmpmfmcaaDoorFn0
import Derived.Test.YtggdbafmpmfmcaaDoorFs0
import Derived.Test.YtggdbafmpmfmcaaDoorWA
import Derived.Test.YtggdbafmpmfmcaaDoorTight
namespace Go.Proofs.YtggdbafmpmfmcaaDoor.Fn
open Go.RowKit Go.Proofs.YtggdbafmpmfmcaaDoorW.PrintWords Go.Proofs.YtggdbafmpmfmcaaDoorW.PrintLast Go.Proofs.YtggdbafmpmfmcaaDoorW.PrintMore
attribute [local go_sem] max2_int min2_int max_two min_two max_three min_three max_four min_four   -- for this text's walks alone
set_option linter.unusedVariables false
set_option linter.unusedSimpArgs false

/-! ### changeforgeref5_Identifier: function 28 -/
mutual
def changeforgeref5_Identifier.j0 : Nat → ByteArray → Bool → Option (Bool)
 | 0,_,_ => none
 | k + 1,x0,x22 => if x22 = true then (some false) else (changeforgeref5_Identifier.l0 k x0 0)
def changeforgeref5_Identifier.l0 : Nat → ByteArray → Int → Option (Bool)
 | 0,_,_ => none
 | k + 1,x0,x3 => if x3 < (x0.size : Int) then (if 0 ≤ x3 then ((changeforgeref5_in.f (wrap64 (bt x0 x3)) 48 57).bind fun t103 => (if t103 = true then (changeforgeref5_Identifier.l0 k x0 (wrap64 (x3 + 1))) else ((changeforgeref5_in.f (wrap64 (bt x0 x3)) 97 122).bind fun t104 => (if t104 = true then (changeforgeref5_Identifier.l0 k x0 (wrap64 (x3 + 1))) else ((changeforgeref5_in.f (wrap64 (bt x0 x3)) 65 90).bind fun t105 => (if t105 = true then (changeforgeref5_Identifier.l0 k x0 (wrap64 (x3 + 1))) else (if (wrap64 (bt x0 x3)) = 45 then (changeforgeref5_Identifier.l0 k x0 (wrap64 (x3 + 1))) else (some false)))))))) else (none)) else (some true)
end
def changeforgeref5_Identifier.f (k : Nat) (a0 : ByteArray) : Option (Bool):=(changeforgeref5_in.f (a0.size : Int) 1 8).bind fun t101 => (if t101 = true then ((changeforgeref5_Numeric.f k a0).bind fun t102 => (if t102 = true then (if (a0.size : Int) > 1 then (if 0 < (a0.size : Int) then (changeforgeref5_Identifier.j0 k a0 ((bt a0 0) == 48)) else (none)) else (changeforgeref5_Identifier.j0 k a0 false)) else (changeforgeref5_Identifier.j0 k a0 false))) else (changeforgeref5_Identifier.j0 k a0 true))
theorem changeforgeref5_Identifier.mono_l : ∀ k,(∀ y0 y1,LeO (changeforgeref5_Identifier.j0 k y0 y1) (changeforgeref5_Identifier.j0 (k + 1) y0 y1)) ∧ (∀ y0 y1,LeO (changeforgeref5_Identifier.l0 k y0 y1) (changeforgeref5_Identifier.l0 (k + 1) y0 y1))
 | 0 => ⟨fun _ _ r h => by simp [changeforgeref5_Identifier.j0] at h,fun _ _ r h => by simp [changeforgeref5_Identifier.l0] at h⟩
 | k + 1 => by
  obtain ⟨ih0,ih1⟩:=changeforgeref5_Identifier.mono_l k;refine ⟨?_,?_⟩
  ·intro y0 y1
   unfold changeforgeref5_Identifier.j0;repeat' first
   | (with_reducible exact ih0 _ _)
   | (with_reducible exact ih1 _ _)
   | (with_reducible exact changeforgeref5_Numeric.mono _ _)
   | (with_reducible exact LeO.refl _)
   | (with_reducible exact LeO.none _)
   | (with_reducible refine LeO.ite ?_ ?_)
   | (with_reducible refine LeO.bind ?_ (fun _ => ?_))
   | exact ih0 _ _
   | exact ih1 _ _
   | exact changeforgeref5_Numeric.mono _ _
   | exact LeO.none _
   | refine LeO.ite ?_ ?_
   | refine LeO.bind ?_ (fun _ => ?_)
  ·intro y0 y1
   unfold changeforgeref5_Identifier.l0;repeat' first
   | (with_reducible exact ih0 _ _)
   | (with_reducible exact ih1 _ _)
   | (with_reducible exact changeforgeref5_Numeric.mono _ _)
   | (with_reducible exact LeO.refl _)
   | (with_reducible exact LeO.none _)
   | (with_reducible refine LeO.ite ?_ ?_)
   | (with_reducible refine LeO.bind ?_ (fun _ => ?_))
   | exact ih0 _ _
   | exact ih1 _ _
   | exact changeforgeref5_Numeric.mono _ _
   | exact LeO.none _
   | refine LeO.ite ?_ ?_
   | refine LeO.bind ?_ (fun _ => ?_)
theorem changeforgeref5_Identifier.mono : ∀ a0 k,LeO (changeforgeref5_Identifier.f k a0) (changeforgeref5_Identifier.f (k + 1) a0):=by
 intro a0 k;obtain ⟨ih0,ih1⟩:=changeforgeref5_Identifier.mono_l k;unfold changeforgeref5_Identifier.f
 repeat' first
   | (with_reducible exact ih0 _ _)
   | (with_reducible exact ih1 _ _)
   | (with_reducible exact changeforgeref5_Numeric.mono _ _)
   | (with_reducible exact LeO.refl _)
   | (with_reducible exact LeO.none _)
   | (with_reducible refine LeO.ite ?_ ?_)
   | (with_reducible refine LeO.bind ?_ (fun _ => ?_))
   | exact ih0 _ _
   | exact ih1 _ _
   | exact changeforgeref5_Numeric.mono _ _
   | exact LeO.none _
   | refine LeO.ite ?_ ?_
   | refine LeO.bind ?_ (fun _ => ?_)
set_option maxHeartbeats 8000000 in
set_option maxRecDepth 100000 in
theorem changeforgeref5_Identifier.calls (k : Nat) (a0 : ByteArray) (r : Bool) (w : World) (h : changeforgeref5_Identifier.f k a0 = some r) :
  Calls Tryd.prog 28 #[.string a0] w fun e w' => e = .returned (.bool r) ∧ Drawn0 w w':=by
 have H : ((changeforgeref5_in.f (a0.size : Int) 1 8).bind fun t101 => (if t101 = true then ((changeforgeref5_Numeric.f k a0).bind fun t102 => (if t102 = true then (if (a0.size : Int) > 1 then (if 0 < (a0.size : Int) then (changeforgeref5_Identifier.j0 k a0 ((bt a0 0) == 48)) else (none)) else (changeforgeref5_Identifier.j0 k a0 false)) else (changeforgeref5_Identifier.j0 k a0 false))) else (changeforgeref5_Identifier.j0 k a0 true))) = some r:=h;clear h;have HC2:=Aside0.mk H;clear H;go_enter Tryd.func28,Tryd.ntmps28;go_upto_region 1 with (fail);go_cut [22] (fun v22 wc => ∃ (kq : Nat) (x22_1 : Bool),v22 = .bool x22_1 ∧ Aside0 (changeforgeref5_Identifier.j0 kq a0 x22_1 = some r) ∧ Aside0 (kq ≤ k) ∧ Drawn0 w wc)
 case first =>
  have H:=HC2.out;clear HC2;replace H:=Option.bind_eq_some_iff.mp H;obtain ⟨t101,A30,H⟩:=H;replace H : (if t101 = true then ((changeforgeref5_Numeric.f k a0).bind fun t102 => (if t102 = true then (if (a0.size : Int) > 1 then (if 0 < (a0.size : Int) then (changeforgeref5_Identifier.j0 k a0 ((bt a0 0) == 48)) else (none)) else (changeforgeref5_Identifier.j0 k a0 false)) else (changeforgeref5_Identifier.j0 k a0 false))) else (changeforgeref5_Identifier.j0 k a0 true)) = some r:=H;have A3:=Aside0.mk A30;clear A30;by_cases c4 : t101 = true
  ·subst c4
   have H1 : ((changeforgeref5_Numeric.f k a0).bind fun t102 => (if t102 = true then (if (a0.size : Int) > 1 then (if 0 < (a0.size : Int) then (changeforgeref5_Identifier.j0 k a0 ((bt a0 0) == 48)) else (none)) else (changeforgeref5_Identifier.j0 k a0 false)) else (changeforgeref5_Identifier.j0 k a0 false))) = some r:=by rw [if_pos rfl] at H;exact H
   clear H;have H:=H1;clear H1;replace H:=Option.bind_eq_some_iff.mp H;obtain ⟨t102,A50,H⟩:=H;replace H : (if t102 = true then (if (a0.size : Int) > 1 then (if 0 < (a0.size : Int) then (changeforgeref5_Identifier.j0 k a0 ((bt a0 0) == 48)) else (none)) else (changeforgeref5_Identifier.j0 k a0 false)) else (changeforgeref5_Identifier.j0 k a0 false)) = some r:=H;have A5:=Aside0.mk A50;clear A50;by_cases c6 : t102 = true
   ·subst c6
    have H1 : (if (a0.size : Int) > 1 then (if 0 < (a0.size : Int) then (changeforgeref5_Identifier.j0 k a0 ((bt a0 0) == 48)) else (none)) else (changeforgeref5_Identifier.j0 k a0 false)) = some r:=by rw [if_pos rfl] at H;exact H
    clear H;have H:=H1;clear H1;by_cases c7 : (a0.size : Int) > 1
    ·rw [if_pos c7] at H
     have c7b0 : decide (1 < (a0.size : Int)) = true:=decide_eq_true c7;have c7b1 : decide (1 < a0.size) = true:=decide_eq_true (by omega);clear c7;(first|rw [c7b0]|(simp only [i64_w,i32_w];rw [c7b0])|skip);by_cases c8 : 0 < (a0.size : Int)
     ·rw [if_pos c8] at H
      have c8b0 : decide (0 < (a0.size : Int)) = true:=decide_eq_true c8;have c8b1 : decide (0 < a0.size) = true:=decide_eq_true (by omega);clear c8;have H':=Aside0.mk H;clear H;go_wp2_with (first|((with_reducible refine gate_callee (f:=26) rfl ?_);refine goesL_ (some 7) rfl rfl Tryd.func26 (by kernel_rfl) rfl #[.int .i64 (a0.size : Int),.int .i64 1,.int .i64 8] rfl ln_ ?_;(with_reducible refine (changeforgeref5_in.calls (a0.size : Int) 1 8 true _ A3.out).mono ?_);rintro e w' ⟨rfl,⟨nd,rfl⟩⟩;refine ⟨_,rfl,?_⟩)|(go_at_call 41;(with_reducible refine (changeforgeref5_Numeric.calls k a0 true _ A5.out).mono ?_);rintro e w' ⟨rfl,⟨nd,rfl⟩⟩;have p9 : 0 ≤ (0 : Int):=(by omega);have q9 : 0 < a0.size:=(by have : (0 : Int) < (a0.size : Int):=of_decide_eq_true as_;omega);have hx9 : ∀ h : 0 < a0.size,((a0[0]'h).toNat : Int) = bt a0 0:=bt_at a0 0;clear p9;have qi9 : (0 < (a0.size : Int)) = True:=eq_true (of_decide_eq_true as_);replace q9:=eq_true q9));go_meet
      case rel => exact ⟨_,(((bt a0 0) == 48)),fr_,H',⟨om_⟩,by repeat (first|exact Drawn0.refl _|apply Drawn0.step)⟩
     ·rw [if_neg c8] at H
      exact absurd H (by simp)
    ·rw [if_neg c7] at H
     have c7b0 : decide (1 < (a0.size : Int)) = false:=decide_eq_false c7;have c7b1 : decide (1 < a0.size) = false:=decide_eq_false (by omega);clear c7;(first|rw [c7b0]|(simp only [i64_w,i32_w];rw [c7b0])|skip);have H':=Aside0.mk H;clear H;go_wp2_with (first|((with_reducible refine gate_callee (f:=26) rfl ?_);refine goesL_ (some 7) rfl rfl Tryd.func26 (by kernel_rfl) rfl #[.int .i64 (a0.size : Int),.int .i64 1,.int .i64 8] rfl ln_ ?_;(with_reducible refine (changeforgeref5_in.calls (a0.size : Int) 1 8 true _ A3.out).mono ?_);rintro e w' ⟨rfl,⟨nd,rfl⟩⟩;refine ⟨_,rfl,?_⟩)|(go_at_call 41;(with_reducible refine (changeforgeref5_Numeric.calls k a0 true _ A5.out).mono ?_);rintro e w' ⟨rfl,⟨nd,rfl⟩⟩));go_meet
     case rel => exact ⟨_,(false),fr_,H',⟨om_⟩,by repeat (first|exact Drawn0.refl _|apply Drawn0.step)⟩
   ·replace c6:=Bool.eq_false_iff.mpr c6
    subst c6;have H1 : (changeforgeref5_Identifier.j0 k a0 false) = some r:=by rw [if_neg (show ¬ (false = true) by decide)] at H;exact H
    clear H;have H:=H1;clear H1;have H':=Aside0.mk H;clear H;go_wp2_with (first|((with_reducible refine gate_callee (f:=26) rfl ?_);refine goesL_ (some 7) rfl rfl Tryd.func26 (by kernel_rfl) rfl #[.int .i64 (a0.size : Int),.int .i64 1,.int .i64 8] rfl ln_ ?_;(with_reducible refine (changeforgeref5_in.calls (a0.size : Int) 1 8 true _ A3.out).mono ?_);rintro e w' ⟨rfl,⟨nd,rfl⟩⟩;refine ⟨_,rfl,?_⟩)|(go_at_call 41;(with_reducible refine (changeforgeref5_Numeric.calls k a0 false _ A5.out).mono ?_);rintro e w' ⟨rfl,⟨nd,rfl⟩⟩));go_meet
    case rel => exact ⟨_,(false),fr_,H',⟨om_⟩,by repeat (first|exact Drawn0.refl _|apply Drawn0.step)⟩
  ·replace c4:=Bool.eq_false_iff.mpr c4
   subst c4;have H1 : (changeforgeref5_Identifier.j0 k a0 true) = some r:=by rw [if_neg (show ¬ (false = true) by decide)] at H;exact H
   clear H;have H:=H1;clear H1;have H':=Aside0.mk H;clear H;go_wp2_with (first|((with_reducible refine gate_callee (f:=26) rfl ?_);refine goesL_ (some 7) rfl rfl Tryd.func26 (by kernel_rfl) rfl #[.int .i64 (a0.size : Int),.int .i64 1,.int .i64 8] rfl ln_ ?_;(with_reducible refine (changeforgeref5_in.calls (a0.size : Int) 1 8 false _ A3.out).mono ?_);rintro e w' ⟨rfl,⟨nd,rfl⟩⟩;refine ⟨_,rfl,?_⟩));go_meet
   case rel => exact ⟨_,(true),fr_,H',⟨om_⟩,by repeat (first|exact Drawn0.refl _|apply Drawn0.step)⟩
 case rest =>
  clear HC2;(try clear c2);(try clear p2);(try clear c4);(try clear c6);(try clear c7);(try clear c7b0);(try clear c7b1);(try clear c8);(try clear c8b0);(try clear c8b1);(try clear p9);(try clear q9);(try clear hx9);(try clear qi9);(try clear p9);(try clear q9);obtain ⟨kq,x22_1,rfl,HA,HJ1,⟨mc1,rfl⟩⟩:=hcut;cases kq with
  | zero => exact absurd HA.out (by simp [changeforgeref5_Identifier.j0])
  | succ kj1 =>
   have H:=HA.out;clear HA;simp only [changeforgeref5_Identifier.j0] at H;by_cases c10 : x22_1 = true
   ·subst c10
    have H1 : (some false) = some r:=by rw [if_pos rfl] at H;exact H
    clear H;have H:=H1;clear H1;obtain rfl:=Option.some.inj H;go_wp2;go_ret;exact ⟨by first|rfl|(simp;done)|(simp only [IntWalk.i64_left];done)|(simp [*];done),by repeat (first|exact Drawn0.refl _|apply Drawn0.step)⟩
   ·replace c10:=Bool.eq_false_iff.mpr c10
    subst c10;have H1 : (changeforgeref5_Identifier.l0 kj1 a0 0) = some r:=by rw [if_neg (show ¬ (false = true) by decide)] at H;exact H
    clear H;have H:=H1;clear H1;have H':=Aside0.mk H;clear H;go_wp2;go_loopg [3] kj1 (fun kq v3 w' => ∃ (x3_2 : Int),v3 = .int .i64 x3_2 ∧ Aside0 (changeforgeref5_Identifier.l0 kq a0 x3_2 = some r) ∧ Aside0 (kq ≤ kj1) ∧ Drawn0 w w')
    case atStart => exact ⟨(0),fr_,H',⟨Nat.le_refl _⟩,by repeat (first|exact Drawn0.refl _|apply Drawn0.step)⟩
    case round =>
     clear H';(try clear c1);(try clear c2);(try clear p2);(try clear c4);(try clear c6);(try clear c7);(try clear c7b0);(try clear c7b1);(try clear c8);(try clear c8b0);(try clear c8b1);(try clear p9);(try clear q9);(try clear hx9);(try clear qi9);(try clear c10);(try clear p2);(try clear p9);(try clear q9);obtain ⟨x3_2,rfl,HA,HK2,⟨m2,rfl⟩⟩:=hrel;cases gk with
     | zero => exact absurd HA.out (by simp [changeforgeref5_Identifier.l0])
     | succ k2 =>
      have H:=HA.out;clear HA;simp only [changeforgeref5_Identifier.l0] at H;by_cases c11 : x3_2 < (a0.size : Int)
      ·rw [if_pos c11] at H
       have c11b0 : decide (x3_2 < (a0.size : Int)) = true:=decide_eq_true c11;clear c11;by_cases c12 : 0 ≤ x3_2
       ·rw [if_pos c12] at H
        have c12b0 : decide (0 ≤ x3_2) = true:=decide_eq_true c12;clear c12;replace H:=Option.bind_eq_some_iff.mp H;obtain ⟨t103,A140,H⟩:=H;replace H : (if t103 = true then (changeforgeref5_Identifier.l0 k2 a0 (wrap64 (x3_2 + 1))) else ((changeforgeref5_in.f (wrap64 (bt a0 x3_2)) 97 122).bind fun t104 => (if t104 = true then (changeforgeref5_Identifier.l0 k2 a0 (wrap64 (x3_2 + 1))) else ((changeforgeref5_in.f (wrap64 (bt a0 x3_2)) 65 90).bind fun t105 => (if t105 = true then (changeforgeref5_Identifier.l0 k2 a0 (wrap64 (x3_2 + 1))) else (if (wrap64 (bt a0 x3_2)) = 45 then (changeforgeref5_Identifier.l0 k2 a0 (wrap64 (x3_2 + 1))) else (some false))))))) = some r:=H;have A14:=Aside0.mk A140;clear A140;by_cases c15 : t103 = true
        ·subst c15
         have H1 : (changeforgeref5_Identifier.l0 k2 a0 (wrap64 (x3_2 + 1))) = some r:=by rw [if_pos rfl] at H;exact H
         clear H;have H:=H1;clear H1;have H':=Aside0.mk H;clear H;have p13 : 0 ≤ (x3_2 : Int):=of_decide_eq_true as_;have q13 : x3_2 < (a0.size : Int):=of_decide_eq_true as_;have hx13:=bt_at a0 x3_2;replace p13:=eq_true p13;replace q13:=eq_true q13;go_wp2_with (first|((with_reducible refine gate_callee (f:=26) rfl ?_);refine goesL_ (some 34) rfl rfl Tryd.func26 (by kernel_rfl) rfl #[.int .i64 (wrap64 (bt a0 x3_2)),.int .i64 48,.int .i64 57] rfl ln_ ?_;(with_reducible refine (changeforgeref5_in.calls (wrap64 (bt a0 x3_2)) 48 57 true _ A14.out).mono ?_);rintro e w' ⟨rfl,⟨nd,rfl⟩⟩;refine ⟨_,rfl,?_⟩));go_roundg k2
         case measure => have:=HJ1.out;have:=HK2.out;omega
         case rel => exact ⟨(wrap64 (x3_2 + 1)),fr_,H',⟨by have:=HJ1.out;have:=HK2.out;omega⟩,by repeat (first|exact Drawn0.refl _|apply Drawn0.step)⟩
        ·replace c15:=Bool.eq_false_iff.mpr c15
         subst c15;have H1 : ((changeforgeref5_in.f (wrap64 (bt a0 x3_2)) 97 122).bind fun t104 => (if t104 = true then (changeforgeref5_Identifier.l0 k2 a0 (wrap64 (x3_2 + 1))) else ((changeforgeref5_in.f (wrap64 (bt a0 x3_2)) 65 90).bind fun t105 => (if t105 = true then (changeforgeref5_Identifier.l0 k2 a0 (wrap64 (x3_2 + 1))) else (if (wrap64 (bt a0 x3_2)) = 45 then (changeforgeref5_Identifier.l0 k2 a0 (wrap64 (x3_2 + 1))) else (some false)))))) = some r:=by rw [if_neg (show ¬ (false = true) by decide)] at H;exact H
         clear H;have H:=H1;clear H1;replace H:=Option.bind_eq_some_iff.mp H;obtain ⟨t104,A160,H⟩:=H;replace H : (if t104 = true then (changeforgeref5_Identifier.l0 k2 a0 (wrap64 (x3_2 + 1))) else ((changeforgeref5_in.f (wrap64 (bt a0 x3_2)) 65 90).bind fun t105 => (if t105 = true then (changeforgeref5_Identifier.l0 k2 a0 (wrap64 (x3_2 + 1))) else (if (wrap64 (bt a0 x3_2)) = 45 then (changeforgeref5_Identifier.l0 k2 a0 (wrap64 (x3_2 + 1))) else (some false))))) = some r:=H;have A16:=Aside0.mk A160;clear A160;by_cases c17 : t104 = true
         ·subst c17
          have H1 : (changeforgeref5_Identifier.l0 k2 a0 (wrap64 (x3_2 + 1))) = some r:=by rw [if_pos rfl] at H;exact H
          clear H;have H:=H1;clear H1;have H':=Aside0.mk H;clear H;have p13 : 0 ≤ (x3_2 : Int):=of_decide_eq_true as_;have q13 : x3_2 < (a0.size : Int):=of_decide_eq_true as_;have hx13:=bt_at a0 x3_2;replace p13:=eq_true p13;replace q13:=eq_true q13;go_wp2_with (first|((with_reducible refine gate_callee (f:=26) rfl ?_);refine goesL_ (some 34) rfl rfl Tryd.func26 (by kernel_rfl) rfl #[.int .i64 (wrap64 (bt a0 x3_2)),.int .i64 48,.int .i64 57] rfl ln_ ?_;(with_reducible refine (changeforgeref5_in.calls (wrap64 (bt a0 x3_2)) 48 57 false _ A14.out).mono ?_);rintro e w' ⟨rfl,⟨nd,rfl⟩⟩;refine ⟨_,rfl,?_⟩)|(go_at_call 26;(with_reducible refine (changeforgeref5_in.calls (wrap64 (bt a0 x3_2)) 97 122 true _ A16.out).mono ?_);rintro e w' ⟨rfl,⟨nd,rfl⟩⟩));go_roundg k2
          case measure => have:=HJ1.out;have:=HK2.out;omega
          case rel => exact ⟨(wrap64 (x3_2 + 1)),fr_,H',⟨by have:=HJ1.out;have:=HK2.out;omega⟩,by repeat (first|exact Drawn0.refl _|apply Drawn0.step)⟩
         ·replace c17:=Bool.eq_false_iff.mpr c17
          subst c17;have H1 : ((changeforgeref5_in.f (wrap64 (bt a0 x3_2)) 65 90).bind fun t105 => (if t105 = true then (changeforgeref5_Identifier.l0 k2 a0 (wrap64 (x3_2 + 1))) else (if (wrap64 (bt a0 x3_2)) = 45 then (changeforgeref5_Identifier.l0 k2 a0 (wrap64 (x3_2 + 1))) else (some false)))) = some r:=by rw [if_neg (show ¬ (false = true) by decide)] at H;exact H
          clear H;have H:=H1;clear H1;replace H:=Option.bind_eq_some_iff.mp H;obtain ⟨t105,A180,H⟩:=H;replace H : (if t105 = true then (changeforgeref5_Identifier.l0 k2 a0 (wrap64 (x3_2 + 1))) else (if (wrap64 (bt a0 x3_2)) = 45 then (changeforgeref5_Identifier.l0 k2 a0 (wrap64 (x3_2 + 1))) else (some false))) = some r:=H;have A18:=Aside0.mk A180;clear A180;by_cases c19 : t105 = true
          ·subst c19
           have H1 : (changeforgeref5_Identifier.l0 k2 a0 (wrap64 (x3_2 + 1))) = some r:=by rw [if_pos rfl] at H;exact H
           clear H;have H:=H1;clear H1;have H':=Aside0.mk H;clear H;have p13 : 0 ≤ (x3_2 : Int):=of_decide_eq_true as_;have q13 : x3_2 < (a0.size : Int):=of_decide_eq_true as_;have hx13:=bt_at a0 x3_2;replace p13:=eq_true p13;replace q13:=eq_true q13;go_wp2_with (first|((with_reducible refine gate_callee (f:=26) rfl ?_);refine goesL_ (some 34) rfl rfl Tryd.func26 (by kernel_rfl) rfl #[.int .i64 (wrap64 (bt a0 x3_2)),.int .i64 48,.int .i64 57] rfl ln_ ?_;(with_reducible refine (changeforgeref5_in.calls (wrap64 (bt a0 x3_2)) 48 57 false _ A14.out).mono ?_);rintro e w' ⟨rfl,⟨nd,rfl⟩⟩;refine ⟨_,rfl,?_⟩)|(go_at_call 26;(with_reducible refine (changeforgeref5_in.calls (wrap64 (bt a0 x3_2)) 97 122 false _ A16.out).mono ?_);rintro e w' ⟨rfl,⟨nd,rfl⟩⟩)|(go_at_call 26;(with_reducible refine (changeforgeref5_in.calls (wrap64 (bt a0 x3_2)) 65 90 true _ A18.out).mono ?_);rintro e w' ⟨rfl,⟨nd,rfl⟩⟩));go_roundg k2
           case measure => have:=HJ1.out;have:=HK2.out;omega
           case rel => exact ⟨(wrap64 (x3_2 + 1)),fr_,H',⟨by have:=HJ1.out;have:=HK2.out;omega⟩,by repeat (first|exact Drawn0.refl _|apply Drawn0.step)⟩
          ·replace c19:=Bool.eq_false_iff.mpr c19
           subst c19;have H1 : (if (wrap64 (bt a0 x3_2)) = 45 then (changeforgeref5_Identifier.l0 k2 a0 (wrap64 (x3_2 + 1))) else (some false)) = some r:=by rw [if_neg (show ¬ (false = true) by decide)] at H;exact H
           clear H;have H:=H1;clear H1;by_cases c20 : (wrap64 (bt a0 x3_2)) = 45
           ·rw [if_pos c20] at H
            have c20b0 : ((wrap64 (bt a0 x3_2)) == 45) = true:=beq_iff_eq.mpr c20;have c20b1 : ((wrap64 (bt a0 x3_2)) != 45) = false:=bne_eq_false_iff_eq.mpr c20;clear c20;have H':=Aside0.mk H;clear H;have p13 : 0 ≤ (x3_2 : Int):=of_decide_eq_true as_;have q13 : x3_2 < (a0.size : Int):=of_decide_eq_true as_;have hx13:=bt_at a0 x3_2;replace p13:=eq_true p13;replace q13:=eq_true q13;go_wp2_with (first|((with_reducible refine gate_callee (f:=26) rfl ?_);refine goesL_ (some 34) rfl rfl Tryd.func26 (by kernel_rfl) rfl #[.int .i64 (wrap64 (bt a0 x3_2)),.int .i64 48,.int .i64 57] rfl ln_ ?_;(with_reducible refine (changeforgeref5_in.calls (wrap64 (bt a0 x3_2)) 48 57 false _ A14.out).mono ?_);rintro e w' ⟨rfl,⟨nd,rfl⟩⟩;refine ⟨_,rfl,?_⟩)|(go_at_call 26;(with_reducible refine (changeforgeref5_in.calls (wrap64 (bt a0 x3_2)) 97 122 false _ A16.out).mono ?_);rintro e w' ⟨rfl,⟨nd,rfl⟩⟩)|(go_at_call 26;(with_reducible refine (changeforgeref5_in.calls (wrap64 (bt a0 x3_2)) 65 90 false _ A18.out).mono ?_);rintro e w' ⟨rfl,⟨nd,rfl⟩⟩));go_roundg k2
            case measure => have:=HJ1.out;have:=HK2.out;omega
            case rel => exact ⟨(wrap64 (x3_2 + 1)),fr_,H',⟨by have:=HJ1.out;have:=HK2.out;omega⟩,by repeat (first|exact Drawn0.refl _|apply Drawn0.step)⟩
           ·rw [if_neg c20] at H
            have c20b0 : ((wrap64 (bt a0 x3_2)) == 45) = false:=beq_eq_false_iff_ne.mpr c20;have c20b1 : ((wrap64 (bt a0 x3_2)) != 45) = true:=bne_iff_ne.mpr c20;obtain rfl:=Option.some.inj H;have p13 : 0 ≤ (x3_2 : Int):=of_decide_eq_true as_;have q13 : x3_2 < (a0.size : Int):=of_decide_eq_true as_;have hx13:=bt_at a0 x3_2;replace p13:=eq_true p13;replace q13:=eq_true q13;go_wp2_with (first|((with_reducible refine gate_callee (f:=26) rfl ?_);refine goesL_ (some 34) rfl rfl Tryd.func26 (by kernel_rfl) rfl #[.int .i64 (wrap64 (bt a0 x3_2)),.int .i64 48,.int .i64 57] rfl ln_ ?_;(with_reducible refine (changeforgeref5_in.calls (wrap64 (bt a0 x3_2)) 48 57 false _ A14.out).mono ?_);rintro e w' ⟨rfl,⟨nd,rfl⟩⟩;refine ⟨_,rfl,?_⟩)|(go_at_call 26;(with_reducible refine (changeforgeref5_in.calls (wrap64 (bt a0 x3_2)) 97 122 false _ A16.out).mono ?_);rintro e w' ⟨rfl,⟨nd,rfl⟩⟩)|(go_at_call 26;(with_reducible refine (changeforgeref5_in.calls (wrap64 (bt a0 x3_2)) 65 90 false _ A18.out).mono ?_);rintro e w' ⟨rfl,⟨nd,rfl⟩⟩));go_ret;exact ⟨by first|rfl|(simp;done)|(simp only [IntWalk.i64_left];done)|(simp [*];done),by repeat (first|exact Drawn0.refl _|apply Drawn0.step)⟩
       ·rw [if_neg c12] at H
        exact absurd H (by simp)
      ·rw [if_neg c11] at H
       have c11b0 : decide (x3_2 < (a0.size : Int)) = false:=decide_eq_false c11;clear c11;obtain rfl:=Option.some.inj H;go_wp2;go_ret;exact ⟨by first|rfl|(simp;done)|(simp only [IntWalk.i64_left];done)|(simp [*];done),by repeat (first|exact Drawn0.refl _|apply Drawn0.step)⟩

end Go.Proofs.YtggdbafmpmfmcaaDoor.Fn
