/- A function of the program as a plain Lean function, and the proof that the call comes to just what it says (written by wip/tools/xprint.py for this claim). Condition: the plain function has an answer. -/
import Derived.Test.YtggdbafmpmfmcaaDoorFn0
import Derived.Test.YtggdbafmpmfmcaaDoorFs0
import Derived.Test.YtggdbafmpmfmcaaDoorWA
import Derived.Test.YtggdbafmpmfmcaaDoorTight
namespace Go.Proofs.YtggdbafmpmfmcaaDoor.Fn
open Go.RowKit Go.Proofs.YtggdbafmpmfmcaaDoorW.PrintWords Go.Proofs.YtggdbafmpmfmcaaDoorW.PrintLast Go.Proofs.YtggdbafmpmfmcaaDoorW.PrintMore
attribute [local go_sem] max2_int min2_int max_two min_two max_three min_three max_four min_four   -- for this text's walks alone
set_option linter.unusedVariables false
set_option linter.unusedSimpArgs false

/-! ### version_isIdentifier: function 29 -/
mutual
def version_isIdentifier.j0 : Nat → ByteArray → Bool → Option (Bool)
 | 0,_,_ => none
 | k + 1,x0,x11 => if x11 = true then (some false) else (version_isIdentifier.l0 k x0 (x0.size : Int) 0)
def version_isIdentifier.l0 : Nat → ByteArray → Int → Int → Option (Bool)
 | 0,_,_,_ => none
 | k + 1,x0,x13,x14 => if x14 < x13 then (if 0 ≤ x14 then (if x14 < (x0.size : Int) then (if (bt x0 x14) ≥ 48 then (if (bt x0 x14) ≤ 57 then (version_isIdentifier.l0 k x0 x13 (wrap64 (x14 + 1))) else (if (bt x0 x14) ≥ 97 then (if (bt x0 x14) ≤ 122 then (version_isIdentifier.l0 k x0 x13 (wrap64 (x14 + 1))) else (if (bt x0 x14) ≥ 65 then (if (bt x0 x14) ≤ 90 then (version_isIdentifier.l0 k x0 x13 (wrap64 (x14 + 1))) else (if ((bt x0 x14) = 45) then (version_isIdentifier.l0 k x0 x13 (wrap64 (x14 + 1))) else (some false))) else (if ((bt x0 x14) = 45) then (version_isIdentifier.l0 k x0 x13 (wrap64 (x14 + 1))) else (some false)))) else (if (bt x0 x14) ≥ 65 then (if (bt x0 x14) ≤ 90 then (version_isIdentifier.l0 k x0 x13 (wrap64 (x14 + 1))) else (if ((bt x0 x14) = 45) then (version_isIdentifier.l0 k x0 x13 (wrap64 (x14 + 1))) else (some false))) else (if ((bt x0 x14) = 45) then (version_isIdentifier.l0 k x0 x13 (wrap64 (x14 + 1))) else (some false))))) else (if (bt x0 x14) ≥ 97 then (if (bt x0 x14) ≤ 122 then (version_isIdentifier.l0 k x0 x13 (wrap64 (x14 + 1))) else (if (bt x0 x14) ≥ 65 then (if (bt x0 x14) ≤ 90 then (version_isIdentifier.l0 k x0 x13 (wrap64 (x14 + 1))) else (if ((bt x0 x14) = 45) then (version_isIdentifier.l0 k x0 x13 (wrap64 (x14 + 1))) else (some false))) else (if ((bt x0 x14) = 45) then (version_isIdentifier.l0 k x0 x13 (wrap64 (x14 + 1))) else (some false)))) else (if (bt x0 x14) ≥ 65 then (if (bt x0 x14) ≤ 90 then (version_isIdentifier.l0 k x0 x13 (wrap64 (x14 + 1))) else (if ((bt x0 x14) = 45) then (version_isIdentifier.l0 k x0 x13 (wrap64 (x14 + 1))) else (some false))) else (if ((bt x0 x14) = 45) then (version_isIdentifier.l0 k x0 x13 (wrap64 (x14 + 1))) else (some false))))) else (none)) else (none)) else ((version_isDigits.f x0).bind fun t101 => (if t101 = true then ((version_isCanonical.f x0).bind fun t102 => (some t102)) else (some true)))
end
def version_isIdentifier.f (k : Nat) (a0 : ByteArray) : Option (Bool):=if a0.toList = ([] : List UInt8) then (version_isIdentifier.j0 k a0 true) else (version_isIdentifier.j0 k a0 (decide ((a0.size : Int) > 8)))
theorem version_isIdentifier.mono_l : ∀ k,(∀ y0 y1,LeO (version_isIdentifier.j0 k y0 y1) (version_isIdentifier.j0 (k + 1) y0 y1)) ∧ (∀ y0 y1 y2,LeO (version_isIdentifier.l0 k y0 y1 y2) (version_isIdentifier.l0 (k + 1) y0 y1 y2))
 | 0 => ⟨fun _ _ r h => by simp [version_isIdentifier.j0] at h,fun _ _ _ r h => by simp [version_isIdentifier.l0] at h⟩
 | k + 1 => by
  obtain ⟨ih0,ih1⟩:=version_isIdentifier.mono_l k;refine ⟨?_,?_⟩
  ·intro y0 y1
   unfold version_isIdentifier.j0;repeat' first
   | (with_reducible exact ih0 _ _)
   | (with_reducible exact ih1 _ _ _)
   | (with_reducible exact LeO.refl _)
   | (with_reducible exact LeO.none _)
   | (with_reducible refine LeO.ite ?_ ?_)
   | (with_reducible refine LeO.bind ?_ (fun _ => ?_))
   | exact ih0 _ _
   | exact ih1 _ _ _
   | exact LeO.none _
   | refine LeO.ite ?_ ?_
   | refine LeO.bind ?_ (fun _ => ?_)
  ·intro y0 y1 y2
   unfold version_isIdentifier.l0;repeat' first
   | (with_reducible exact ih0 _ _)
   | (with_reducible exact ih1 _ _ _)
   | (with_reducible exact LeO.refl _)
   | (with_reducible exact LeO.none _)
   | (with_reducible refine LeO.ite ?_ ?_)
   | (with_reducible refine LeO.bind ?_ (fun _ => ?_))
   | exact ih0 _ _
   | exact ih1 _ _ _
   | exact LeO.none _
   | refine LeO.ite ?_ ?_
   | refine LeO.bind ?_ (fun _ => ?_)
theorem version_isIdentifier.mono : ∀ a0 k,LeO (version_isIdentifier.f k a0) (version_isIdentifier.f (k + 1) a0):=by
 intro a0 k;obtain ⟨ih0,ih1⟩:=version_isIdentifier.mono_l k;unfold version_isIdentifier.f
 repeat' first
   | (with_reducible exact ih0 _ _)
   | (with_reducible exact ih1 _ _ _)
   | (with_reducible exact LeO.refl _)
   | (with_reducible exact LeO.none _)
   | (with_reducible refine LeO.ite ?_ ?_)
   | (with_reducible refine LeO.bind ?_ (fun _ => ?_))
   | exact ih0 _ _
   | exact ih1 _ _ _
   | exact LeO.none _
   | refine LeO.ite ?_ ?_
   | refine LeO.bind ?_ (fun _ => ?_)
set_option maxHeartbeats 8000000 in
set_option maxRecDepth 100000 in
theorem version_isIdentifier.calls (k : Nat) (a0 : ByteArray) (r : Bool) (w : World) (h : version_isIdentifier.f k a0 = some r) :
  Calls Tryd.prog 29 #[.string a0] w fun e w' => e = .returned (.bool r) ∧ Below w.heap.size w w':=by
 have HB:=Aside0.mk (Below.refl w.heap.size w);have H : (if a0.toList = ([] : List UInt8) then (version_isIdentifier.j0 k a0 true) else (version_isIdentifier.j0 k a0 (decide ((a0.size : Int) > 8)))) = some r:=h;clear h;have HC2:=Aside0.mk H;clear H;go_enter Tryd.func29,Tryd.ntmps29;go_upto_region 1 with (fail);go_cut [11] (fun v11 wc => ∃ (kq : Nat) (x11_1 : Bool),v11 = .bool x11_1 ∧ Aside0 (version_isIdentifier.j0 kq a0 x11_1 = some r) ∧ Aside0 (kq ≤ k) ∧ Aside0 (Below w.heap.size w wc))
 case first =>
  have H:=HC2.out;clear HC2;by_cases c3 : a0.toList = ([] : List UInt8)
  ·rw [if_pos c3] at H
   have c3b0 : (a0.toList == ([] : List UInt8)) = true:=beq_iff_eq.mpr c3;have c3b1 : (a0.toList != ([] : List UInt8)) = false:=bne_eq_false_iff_eq.mpr c3;clear c3;(first|rw [c3b0]|(simp only [i64_w,i32_w];rw [c3b0])|skip);have H':=Aside0.mk H;clear H;go_wp2;go_meet
   case rel => exact ⟨_,(true),fr_,H',⟨om_⟩,⟨bel_⟩⟩
  ·rw [if_neg c3] at H
   have c3b0 : (a0.toList == ([] : List UInt8)) = false:=beq_eq_false_iff_ne.mpr c3;have c3b1 : (a0.toList != ([] : List UInt8)) = true:=bne_iff_ne.mpr c3;(first|rw [c3b0]|(simp only [i64_w,i32_w];rw [c3b0])|skip);have H':=Aside0.mk H;clear H;go_wp2;go_meet
   case rel => exact ⟨_,(decide ((a0.size : Int) > 8)),fr_,H',⟨om_⟩,⟨bel_⟩⟩
 case rest =>
  clear HC2;(try clear c2);(try clear p2);(try clear c3);(try clear c3b0);(try clear c3b1);obtain ⟨kq,x11_1,rfl,HA,HJ1,HB⟩:=hcut;cases kq with
  | zero => exact absurd HA.out (by simp [version_isIdentifier.j0])
  | succ kj1 =>
   have H:=HA.out;clear HA;simp only [version_isIdentifier.j0] at H;by_cases c4 : x11_1 = true
   ·subst c4
    have H1 : (some false) = some r:=by rw [if_pos rfl] at H;exact H
    clear H;have H:=H1;clear H1;obtain rfl:=Option.some.inj H;go_wp2;go_ret;exact ⟨by first|rfl|(simp [errW_none,errW_some] <;> rfl)|(simp [*,errW_none,errW_some] <;> rfl),bel_⟩
   ·replace c4:=Bool.eq_false_iff.mpr c4
    subst c4;have H1 : (version_isIdentifier.l0 kj1 a0 (a0.size : Int) 0) = some r:=by rw [if_neg (show ¬ (false = true) by decide)] at H;exact H
    clear H;have H:=H1;clear H1;have H':=Aside0.mk H;clear H;go_wp2;go_loopg [14] kj1 (fun kq v14 w' => ∃ (x14_2 : Int),v14 = .int .i64 x14_2 ∧ Aside0 (version_isIdentifier.l0 kq a0 (a0.size : Int) x14_2 = some r) ∧ Aside0 (kq ≤ kj1) ∧ Aside0 (Below w.heap.size w w'))
    case atStart => exact ⟨(0),fr_,H',⟨Nat.le_refl _⟩,⟨bel_⟩⟩
    case round =>
     clear H';(try clear c2);(try clear p2);(try clear c3);(try clear c3b0);(try clear c3b1);(try clear c4);(try clear p2);obtain ⟨x14_2,rfl,HA,HK2,HB⟩:=hrel;cases gk with
     | zero => exact absurd HA.out (by simp [version_isIdentifier.l0])
     | succ k2 =>
      have H:=HA.out;clear HA;simp only [version_isIdentifier.l0] at H;by_cases c5 : x14_2 < (a0.size : Int)
      ·rw [if_pos c5] at H
       have c5b0 : decide (x14_2 < (a0.size : Int)) = true:=decide_eq_true c5;clear c5;by_cases c6 : 0 ≤ x14_2
       ·rw [if_pos c6] at H
        have c6b0 : decide (0 ≤ x14_2) = true:=decide_eq_true c6;clear c6;by_cases c7 : x14_2 < (a0.size : Int)
        ·rw [if_pos c7] at H
         have c7b0 : decide (x14_2 < (a0.size : Int)) = true:=decide_eq_true c7;clear c7;by_cases c9 : (bt a0 x14_2) ≥ 48
         ·rw [if_pos c9] at H
          have c9b0 : decide (48 ≤ (bt a0 x14_2)) = true:=decide_eq_true c9;clear c9;by_cases c10 : (bt a0 x14_2) ≤ 57
          ·rw [if_pos c10] at H
           have c10b0 : decide ((bt a0 x14_2) ≤ 57) = true:=decide_eq_true c10;clear c10;have H':=Aside0.mk H;clear H;have p8 : 0 ≤ (x14_2 : Int):=of_decide_eq_true as_;have q8 : x14_2 < (a0.size : Int):=of_decide_eq_true as_;have hx8:=bt_at a0 x14_2;replace p8:=eq_true p8;replace q8:=eq_true q8;go_wp2;go_roundg k2
           case measure => have:=HJ1.out;have:=HK2.out;omega
           case rel => exact ⟨(wrap64 (x14_2 + 1)),fr_,H',⟨by have:=HJ1.out;have:=HK2.out;omega⟩,⟨bel_⟩⟩
          ·rw [if_neg c10] at H
           have c10b0 : decide ((bt a0 x14_2) ≤ 57) = false:=decide_eq_false c10;clear c10;by_cases c11 : (bt a0 x14_2) ≥ 97
           ·rw [if_pos c11] at H
            have c11b0 : decide (97 ≤ (bt a0 x14_2)) = true:=decide_eq_true c11;clear c11;by_cases c12 : (bt a0 x14_2) ≤ 122
            ·rw [if_pos c12] at H
             have c12b0 : decide ((bt a0 x14_2) ≤ 122) = true:=decide_eq_true c12;clear c12;have H':=Aside0.mk H;clear H;have p8 : 0 ≤ (x14_2 : Int):=of_decide_eq_true as_;have q8 : x14_2 < (a0.size : Int):=of_decide_eq_true as_;have hx8:=bt_at a0 x14_2;replace p8:=eq_true p8;replace q8:=eq_true q8;go_wp2;go_roundg k2
             case measure => have:=HJ1.out;have:=HK2.out;omega
             case rel => exact ⟨(wrap64 (x14_2 + 1)),fr_,H',⟨by have:=HJ1.out;have:=HK2.out;omega⟩,⟨bel_⟩⟩
            ·rw [if_neg c12] at H
             have c12b0 : decide ((bt a0 x14_2) ≤ 122) = false:=decide_eq_false c12;clear c12;by_cases c13 : (bt a0 x14_2) ≥ 65
             ·rw [if_pos c13] at H
              have c13b0 : decide (65 ≤ (bt a0 x14_2)) = true:=decide_eq_true c13;clear c13;by_cases c14 : (bt a0 x14_2) ≤ 90
              ·rw [if_pos c14] at H
               have c14b0 : decide ((bt a0 x14_2) ≤ 90) = true:=decide_eq_true c14;clear c14;have H':=Aside0.mk H;clear H;have p8 : 0 ≤ (x14_2 : Int):=of_decide_eq_true as_;have q8 : x14_2 < (a0.size : Int):=of_decide_eq_true as_;have hx8:=bt_at a0 x14_2;replace p8:=eq_true p8;replace q8:=eq_true q8;go_wp2;go_roundg k2
               case measure => have:=HJ1.out;have:=HK2.out;omega
               case rel => exact ⟨(wrap64 (x14_2 + 1)),fr_,H',⟨by have:=HJ1.out;have:=HK2.out;omega⟩,⟨bel_⟩⟩
              ·rw [if_neg c14] at H
               have c14b0 : decide ((bt a0 x14_2) ≤ 90) = false:=decide_eq_false c14;clear c14;by_cases c15 : ((bt a0 x14_2) = 45)
               ·rw [if_pos c15] at H
                have c15b0 : ((bt a0 x14_2) == 45) = true:=beq_iff_eq.mpr c15;have c15b1 : ((bt a0 x14_2) != 45) = false:=bne_eq_false_iff_eq.mpr c15;clear c15;have H':=Aside0.mk H;clear H;have p8 : 0 ≤ (x14_2 : Int):=of_decide_eq_true as_;have q8 : x14_2 < (a0.size : Int):=of_decide_eq_true as_;have hx8:=bt_at a0 x14_2;replace p8:=eq_true p8;replace q8:=eq_true q8;go_wp2;go_roundg k2
                case measure => have:=HJ1.out;have:=HK2.out;omega
                case rel => exact ⟨(wrap64 (x14_2 + 1)),fr_,H',⟨by have:=HJ1.out;have:=HK2.out;omega⟩,⟨bel_⟩⟩
               ·rw [if_neg c15] at H
                have c15b0 : ((bt a0 x14_2) == 45) = false:=beq_eq_false_iff_ne.mpr c15;have c15b1 : ((bt a0 x14_2) != 45) = true:=bne_iff_ne.mpr c15;obtain rfl:=Option.some.inj H;have p8 : 0 ≤ (x14_2 : Int):=of_decide_eq_true as_;have q8 : x14_2 < (a0.size : Int):=of_decide_eq_true as_;have hx8:=bt_at a0 x14_2;replace p8:=eq_true p8;replace q8:=eq_true q8;go_wp2;go_ret;exact ⟨by first|rfl|(simp [errW_none,errW_some] <;> rfl)|(simp [*,errW_none,errW_some] <;> rfl),bel_⟩
             ·rw [if_neg c13] at H
              have c13b0 : decide (65 ≤ (bt a0 x14_2)) = false:=decide_eq_false c13;clear c13;by_cases c16 : ((bt a0 x14_2) = 45)
              ·rw [if_pos c16] at H
               have c16b0 : ((bt a0 x14_2) == 45) = true:=beq_iff_eq.mpr c16;have c16b1 : ((bt a0 x14_2) != 45) = false:=bne_eq_false_iff_eq.mpr c16;clear c16;have H':=Aside0.mk H;clear H;have p8 : 0 ≤ (x14_2 : Int):=of_decide_eq_true as_;have q8 : x14_2 < (a0.size : Int):=of_decide_eq_true as_;have hx8:=bt_at a0 x14_2;replace p8:=eq_true p8;replace q8:=eq_true q8;go_wp2;go_roundg k2
               case measure => have:=HJ1.out;have:=HK2.out;omega
               case rel => exact ⟨(wrap64 (x14_2 + 1)),fr_,H',⟨by have:=HJ1.out;have:=HK2.out;omega⟩,⟨bel_⟩⟩
              ·rw [if_neg c16] at H
               have c16b0 : ((bt a0 x14_2) == 45) = false:=beq_eq_false_iff_ne.mpr c16;have c16b1 : ((bt a0 x14_2) != 45) = true:=bne_iff_ne.mpr c16;obtain rfl:=Option.some.inj H;have p8 : 0 ≤ (x14_2 : Int):=of_decide_eq_true as_;have q8 : x14_2 < (a0.size : Int):=of_decide_eq_true as_;have hx8:=bt_at a0 x14_2;replace p8:=eq_true p8;replace q8:=eq_true q8;go_wp2;go_ret;exact ⟨by first|rfl|(simp [errW_none,errW_some] <;> rfl)|(simp [*,errW_none,errW_some] <;> rfl),bel_⟩
           ·rw [if_neg c11] at H
            have c11b0 : decide (97 ≤ (bt a0 x14_2)) = false:=decide_eq_false c11;clear c11;by_cases c17 : (bt a0 x14_2) ≥ 65
            ·rw [if_pos c17] at H
             have c17b0 : decide (65 ≤ (bt a0 x14_2)) = true:=decide_eq_true c17;clear c17;by_cases c18 : (bt a0 x14_2) ≤ 90
             ·rw [if_pos c18] at H
              have c18b0 : decide ((bt a0 x14_2) ≤ 90) = true:=decide_eq_true c18;clear c18;have H':=Aside0.mk H;clear H;have p8 : 0 ≤ (x14_2 : Int):=of_decide_eq_true as_;have q8 : x14_2 < (a0.size : Int):=of_decide_eq_true as_;have hx8:=bt_at a0 x14_2;replace p8:=eq_true p8;replace q8:=eq_true q8;go_wp2;go_roundg k2
              case measure => have:=HJ1.out;have:=HK2.out;omega
              case rel => exact ⟨(wrap64 (x14_2 + 1)),fr_,H',⟨by have:=HJ1.out;have:=HK2.out;omega⟩,⟨bel_⟩⟩
             ·rw [if_neg c18] at H
              have c18b0 : decide ((bt a0 x14_2) ≤ 90) = false:=decide_eq_false c18;clear c18;by_cases c19 : ((bt a0 x14_2) = 45)
              ·rw [if_pos c19] at H
               have c19b0 : ((bt a0 x14_2) == 45) = true:=beq_iff_eq.mpr c19;have c19b1 : ((bt a0 x14_2) != 45) = false:=bne_eq_false_iff_eq.mpr c19;clear c19;have H':=Aside0.mk H;clear H;have p8 : 0 ≤ (x14_2 : Int):=of_decide_eq_true as_;have q8 : x14_2 < (a0.size : Int):=of_decide_eq_true as_;have hx8:=bt_at a0 x14_2;replace p8:=eq_true p8;replace q8:=eq_true q8;go_wp2;go_roundg k2
               case measure => have:=HJ1.out;have:=HK2.out;omega
               case rel => exact ⟨(wrap64 (x14_2 + 1)),fr_,H',⟨by have:=HJ1.out;have:=HK2.out;omega⟩,⟨bel_⟩⟩
              ·rw [if_neg c19] at H
               have c19b0 : ((bt a0 x14_2) == 45) = false:=beq_eq_false_iff_ne.mpr c19;have c19b1 : ((bt a0 x14_2) != 45) = true:=bne_iff_ne.mpr c19;obtain rfl:=Option.some.inj H;have p8 : 0 ≤ (x14_2 : Int):=of_decide_eq_true as_;have q8 : x14_2 < (a0.size : Int):=of_decide_eq_true as_;have hx8:=bt_at a0 x14_2;replace p8:=eq_true p8;replace q8:=eq_true q8;go_wp2;go_ret;exact ⟨by first|rfl|(simp [errW_none,errW_some] <;> rfl)|(simp [*,errW_none,errW_some] <;> rfl),bel_⟩
            ·rw [if_neg c17] at H
             have c17b0 : decide (65 ≤ (bt a0 x14_2)) = false:=decide_eq_false c17;clear c17;by_cases c20 : ((bt a0 x14_2) = 45)
             ·rw [if_pos c20] at H
              have c20b0 : ((bt a0 x14_2) == 45) = true:=beq_iff_eq.mpr c20;have c20b1 : ((bt a0 x14_2) != 45) = false:=bne_eq_false_iff_eq.mpr c20;clear c20;have H':=Aside0.mk H;clear H;have p8 : 0 ≤ (x14_2 : Int):=of_decide_eq_true as_;have q8 : x14_2 < (a0.size : Int):=of_decide_eq_true as_;have hx8:=bt_at a0 x14_2;replace p8:=eq_true p8;replace q8:=eq_true q8;go_wp2;go_roundg k2
              case measure => have:=HJ1.out;have:=HK2.out;omega
              case rel => exact ⟨(wrap64 (x14_2 + 1)),fr_,H',⟨by have:=HJ1.out;have:=HK2.out;omega⟩,⟨bel_⟩⟩
             ·rw [if_neg c20] at H
              have c20b0 : ((bt a0 x14_2) == 45) = false:=beq_eq_false_iff_ne.mpr c20;have c20b1 : ((bt a0 x14_2) != 45) = true:=bne_iff_ne.mpr c20;obtain rfl:=Option.some.inj H;have p8 : 0 ≤ (x14_2 : Int):=of_decide_eq_true as_;have q8 : x14_2 < (a0.size : Int):=of_decide_eq_true as_;have hx8:=bt_at a0 x14_2;replace p8:=eq_true p8;replace q8:=eq_true q8;go_wp2;go_ret;exact ⟨by first|rfl|(simp [errW_none,errW_some] <;> rfl)|(simp [*,errW_none,errW_some] <;> rfl),bel_⟩
         ·rw [if_neg c9] at H
          have c9b0 : decide (48 ≤ (bt a0 x14_2)) = false:=decide_eq_false c9;clear c9;by_cases c21 : (bt a0 x14_2) ≥ 97
          ·rw [if_pos c21] at H
           have c21b0 : decide (97 ≤ (bt a0 x14_2)) = true:=decide_eq_true c21;clear c21;by_cases c22 : (bt a0 x14_2) ≤ 122
           ·rw [if_pos c22] at H
            have c22b0 : decide ((bt a0 x14_2) ≤ 122) = true:=decide_eq_true c22;clear c22;have H':=Aside0.mk H;clear H;have p8 : 0 ≤ (x14_2 : Int):=of_decide_eq_true as_;have q8 : x14_2 < (a0.size : Int):=of_decide_eq_true as_;have hx8:=bt_at a0 x14_2;replace p8:=eq_true p8;replace q8:=eq_true q8;go_wp2;go_roundg k2
            case measure => have:=HJ1.out;have:=HK2.out;omega
            case rel => exact ⟨(wrap64 (x14_2 + 1)),fr_,H',⟨by have:=HJ1.out;have:=HK2.out;omega⟩,⟨bel_⟩⟩
           ·rw [if_neg c22] at H
            have c22b0 : decide ((bt a0 x14_2) ≤ 122) = false:=decide_eq_false c22;clear c22;by_cases c23 : (bt a0 x14_2) ≥ 65
            ·rw [if_pos c23] at H
             have c23b0 : decide (65 ≤ (bt a0 x14_2)) = true:=decide_eq_true c23;clear c23;by_cases c24 : (bt a0 x14_2) ≤ 90
             ·rw [if_pos c24] at H
              have c24b0 : decide ((bt a0 x14_2) ≤ 90) = true:=decide_eq_true c24;clear c24;have H':=Aside0.mk H;clear H;have p8 : 0 ≤ (x14_2 : Int):=of_decide_eq_true as_;have q8 : x14_2 < (a0.size : Int):=of_decide_eq_true as_;have hx8:=bt_at a0 x14_2;replace p8:=eq_true p8;replace q8:=eq_true q8;go_wp2;go_roundg k2
              case measure => have:=HJ1.out;have:=HK2.out;omega
              case rel => exact ⟨(wrap64 (x14_2 + 1)),fr_,H',⟨by have:=HJ1.out;have:=HK2.out;omega⟩,⟨bel_⟩⟩
             ·rw [if_neg c24] at H
              have c24b0 : decide ((bt a0 x14_2) ≤ 90) = false:=decide_eq_false c24;clear c24;by_cases c25 : ((bt a0 x14_2) = 45)
              ·rw [if_pos c25] at H
               have c25b0 : ((bt a0 x14_2) == 45) = true:=beq_iff_eq.mpr c25;have c25b1 : ((bt a0 x14_2) != 45) = false:=bne_eq_false_iff_eq.mpr c25;clear c25;have H':=Aside0.mk H;clear H;have p8 : 0 ≤ (x14_2 : Int):=of_decide_eq_true as_;have q8 : x14_2 < (a0.size : Int):=of_decide_eq_true as_;have hx8:=bt_at a0 x14_2;replace p8:=eq_true p8;replace q8:=eq_true q8;go_wp2;go_roundg k2
               case measure => have:=HJ1.out;have:=HK2.out;omega
               case rel => exact ⟨(wrap64 (x14_2 + 1)),fr_,H',⟨by have:=HJ1.out;have:=HK2.out;omega⟩,⟨bel_⟩⟩
              ·rw [if_neg c25] at H
               have c25b0 : ((bt a0 x14_2) == 45) = false:=beq_eq_false_iff_ne.mpr c25;have c25b1 : ((bt a0 x14_2) != 45) = true:=bne_iff_ne.mpr c25;obtain rfl:=Option.some.inj H;have p8 : 0 ≤ (x14_2 : Int):=of_decide_eq_true as_;have q8 : x14_2 < (a0.size : Int):=of_decide_eq_true as_;have hx8:=bt_at a0 x14_2;replace p8:=eq_true p8;replace q8:=eq_true q8;go_wp2;go_ret;exact ⟨by first|rfl|(simp [errW_none,errW_some] <;> rfl)|(simp [*,errW_none,errW_some] <;> rfl),bel_⟩
            ·rw [if_neg c23] at H
             have c23b0 : decide (65 ≤ (bt a0 x14_2)) = false:=decide_eq_false c23;clear c23;by_cases c26 : ((bt a0 x14_2) = 45)
             ·rw [if_pos c26] at H
              have c26b0 : ((bt a0 x14_2) == 45) = true:=beq_iff_eq.mpr c26;have c26b1 : ((bt a0 x14_2) != 45) = false:=bne_eq_false_iff_eq.mpr c26;clear c26;have H':=Aside0.mk H;clear H;have p8 : 0 ≤ (x14_2 : Int):=of_decide_eq_true as_;have q8 : x14_2 < (a0.size : Int):=of_decide_eq_true as_;have hx8:=bt_at a0 x14_2;replace p8:=eq_true p8;replace q8:=eq_true q8;go_wp2;go_roundg k2
              case measure => have:=HJ1.out;have:=HK2.out;omega
              case rel => exact ⟨(wrap64 (x14_2 + 1)),fr_,H',⟨by have:=HJ1.out;have:=HK2.out;omega⟩,⟨bel_⟩⟩
             ·rw [if_neg c26] at H
              have c26b0 : ((bt a0 x14_2) == 45) = false:=beq_eq_false_iff_ne.mpr c26;have c26b1 : ((bt a0 x14_2) != 45) = true:=bne_iff_ne.mpr c26;obtain rfl:=Option.some.inj H;have p8 : 0 ≤ (x14_2 : Int):=of_decide_eq_true as_;have q8 : x14_2 < (a0.size : Int):=of_decide_eq_true as_;have hx8:=bt_at a0 x14_2;replace p8:=eq_true p8;replace q8:=eq_true q8;go_wp2;go_ret;exact ⟨by first|rfl|(simp [errW_none,errW_some] <;> rfl)|(simp [*,errW_none,errW_some] <;> rfl),bel_⟩
          ·rw [if_neg c21] at H
           have c21b0 : decide (97 ≤ (bt a0 x14_2)) = false:=decide_eq_false c21;clear c21;by_cases c27 : (bt a0 x14_2) ≥ 65
           ·rw [if_pos c27] at H
            have c27b0 : decide (65 ≤ (bt a0 x14_2)) = true:=decide_eq_true c27;clear c27;by_cases c28 : (bt a0 x14_2) ≤ 90
            ·rw [if_pos c28] at H
             have c28b0 : decide ((bt a0 x14_2) ≤ 90) = true:=decide_eq_true c28;clear c28;have H':=Aside0.mk H;clear H;have p8 : 0 ≤ (x14_2 : Int):=of_decide_eq_true as_;have q8 : x14_2 < (a0.size : Int):=of_decide_eq_true as_;have hx8:=bt_at a0 x14_2;replace p8:=eq_true p8;replace q8:=eq_true q8;go_wp2;go_roundg k2
             case measure => have:=HJ1.out;have:=HK2.out;omega
             case rel => exact ⟨(wrap64 (x14_2 + 1)),fr_,H',⟨by have:=HJ1.out;have:=HK2.out;omega⟩,⟨bel_⟩⟩
            ·rw [if_neg c28] at H
             have c28b0 : decide ((bt a0 x14_2) ≤ 90) = false:=decide_eq_false c28;clear c28;by_cases c29 : ((bt a0 x14_2) = 45)
             ·rw [if_pos c29] at H
              have c29b0 : ((bt a0 x14_2) == 45) = true:=beq_iff_eq.mpr c29;have c29b1 : ((bt a0 x14_2) != 45) = false:=bne_eq_false_iff_eq.mpr c29;clear c29;have H':=Aside0.mk H;clear H;have p8 : 0 ≤ (x14_2 : Int):=of_decide_eq_true as_;have q8 : x14_2 < (a0.size : Int):=of_decide_eq_true as_;have hx8:=bt_at a0 x14_2;replace p8:=eq_true p8;replace q8:=eq_true q8;go_wp2;go_roundg k2
              case measure => have:=HJ1.out;have:=HK2.out;omega
              case rel => exact ⟨(wrap64 (x14_2 + 1)),fr_,H',⟨by have:=HJ1.out;have:=HK2.out;omega⟩,⟨bel_⟩⟩
             ·rw [if_neg c29] at H
              have c29b0 : ((bt a0 x14_2) == 45) = false:=beq_eq_false_iff_ne.mpr c29;have c29b1 : ((bt a0 x14_2) != 45) = true:=bne_iff_ne.mpr c29;obtain rfl:=Option.some.inj H;have p8 : 0 ≤ (x14_2 : Int):=of_decide_eq_true as_;have q8 : x14_2 < (a0.size : Int):=of_decide_eq_true as_;have hx8:=bt_at a0 x14_2;replace p8:=eq_true p8;replace q8:=eq_true q8;go_wp2;go_ret;exact ⟨by first|rfl|(simp [errW_none,errW_some] <;> rfl)|(simp [*,errW_none,errW_some] <;> rfl),bel_⟩
           ·rw [if_neg c27] at H
            have c27b0 : decide (65 ≤ (bt a0 x14_2)) = false:=decide_eq_false c27;clear c27;by_cases c30 : ((bt a0 x14_2) = 45)
            ·rw [if_pos c30] at H
             have c30b0 : ((bt a0 x14_2) == 45) = true:=beq_iff_eq.mpr c30;have c30b1 : ((bt a0 x14_2) != 45) = false:=bne_eq_false_iff_eq.mpr c30;clear c30;have H':=Aside0.mk H;clear H;have p8 : 0 ≤ (x14_2 : Int):=of_decide_eq_true as_;have q8 : x14_2 < (a0.size : Int):=of_decide_eq_true as_;have hx8:=bt_at a0 x14_2;replace p8:=eq_true p8;replace q8:=eq_true q8;go_wp2;go_roundg k2
             case measure => have:=HJ1.out;have:=HK2.out;omega
             case rel => exact ⟨(wrap64 (x14_2 + 1)),fr_,H',⟨by have:=HJ1.out;have:=HK2.out;omega⟩,⟨bel_⟩⟩
            ·rw [if_neg c30] at H
             have c30b0 : ((bt a0 x14_2) == 45) = false:=beq_eq_false_iff_ne.mpr c30;have c30b1 : ((bt a0 x14_2) != 45) = true:=bne_iff_ne.mpr c30;obtain rfl:=Option.some.inj H;have p8 : 0 ≤ (x14_2 : Int):=of_decide_eq_true as_;have q8 : x14_2 < (a0.size : Int):=of_decide_eq_true as_;have hx8:=bt_at a0 x14_2;replace p8:=eq_true p8;replace q8:=eq_true q8;go_wp2;go_ret;exact ⟨by first|rfl|(simp [errW_none,errW_some] <;> rfl)|(simp [*,errW_none,errW_some] <;> rfl),bel_⟩
        ·rw [if_neg c7] at H
         exact absurd H (by simp)
       ·rw [if_neg c6] at H
        exact absurd H (by simp)
      ·rw [if_neg c5] at H
       have c5b0 : decide (x14_2 < (a0.size : Int)) = false:=decide_eq_false c5;clear c5;replace H:=Option.bind_eq_some_iff.mp H;obtain ⟨t101,A310,H⟩:=H;replace H : (if t101 = true then ((version_isCanonical.f a0).bind fun t102 => (some t102)) else (some true)) = some r:=H;have A31:=Aside0.mk A310;clear A310;by_cases c32 : t101 = true
       ·subst c32
        have H1 : ((version_isCanonical.f a0).bind fun t102 => (some t102)) = some r:=by rw [if_pos rfl] at H;exact H
        clear H;have H:=H1;clear H1;replace H:=Option.bind_eq_some_iff.mp H;obtain ⟨t102,A330,H⟩:=H;replace H : (some t102) = some r:=H;have A33:=Aside0.mk A330;clear A330;obtain rfl:=Option.some.inj H;go_wp2_with (first|((with_reducible refine gate_callee (f:=42) rfl ?_);refine goesL_ (some 49) rfl rfl Tryd.func42 (by kernel_rfl) rfl #[.string a0] rfl ln_ ?_;(with_reducible refine (version_isDigits.calls a0 true _ A31.out).mono ?_);rintro e w34 ⟨rfl,hb⟩;refine ⟨_,rfl,?_⟩;replace HB:=Aside0.mk (below_step bel_ hb);(try clear hb);(try clear hb2);(try clear hk);(try clear hi))|(go_at_call 43;(with_reducible refine (version_isCanonical.calls a0 t102 _ A33.out).mono ?_);rintro e w' ⟨rfl,⟨nd,rfl⟩⟩));go_ret;exact ⟨by first|rfl|(simp [errW_none,errW_some] <;> rfl)|(simp [*,errW_none,errW_some] <;> rfl),bel_⟩
       ·replace c32:=Bool.eq_false_iff.mpr c32
        subst c32;have H1 : (some true) = some r:=by rw [if_neg (show ¬ (false = true) by decide)] at H;exact H
        clear H;have H:=H1;clear H1;obtain rfl:=Option.some.inj H;go_wp2_with (first|((with_reducible refine gate_callee (f:=42) rfl ?_);refine goesL_ (some 49) rfl rfl Tryd.func42 (by kernel_rfl) rfl #[.string a0] rfl ln_ ?_;(with_reducible refine (version_isDigits.calls a0 false _ A31.out).mono ?_);rintro e w35 ⟨rfl,hb⟩;refine ⟨_,rfl,?_⟩;replace HB:=Aside0.mk (below_step bel_ hb);(try clear hb);(try clear hb2);(try clear hk);(try clear hi)));go_ret;exact ⟨by first|rfl|(simp [errW_none,errW_some] <;> rfl)|(simp [*,errW_none,errW_some] <;> rfl),bel_⟩

end Go.Proofs.YtggdbafmpmfmcaaDoor.Fn
