/- A function of the program as a plain Lean function, and the proof that the call comes to just what it says (written by wip/tools/xprint.py for this claim). Condition: the plain function has an answer. -/
import Derived.Test.YtggdbafmpmfmcaaDoorFn0
import Derived.Test.YtggdbafmpmfmcaaDoorFs0
import Derived.Test.YtggdbafmpmfmcaaDoorWA
import Derived.Test.YtggdbafmpmfmcaaDoorTight
namespace Go.Proofs.YtggdbafmpmfmcaaDoor.Fn
open Go.RowKit Go.Proofs.YtggdbafmpmfmcaaDoorW.PrintWords Go.Proofs.YtggdbafmpmfmcaaDoorW.PrintLast Go.Proofs.YtggdbafmpmfmcaaDoorW.PrintMore
attribute [local go_sem] max2_int min2_int max_two min_two max_three min_three max_four min_four   -- for this text's walks alone
set_option linter.unusedVariables false
set_option linter.unusedSimpArgs false

/-! ### changeforgeref5_identifiers: function 32 -/
mutual
def changeforgeref5_identifiers.j0 : Nat → ByteArray → ByteArray → Bool → Option (Int)
 | 0,_,_,_ => none
 | k + 1,x0,x1,x11 => if x11 = true then ((changeforgeref5_value.f k x0).bind fun t103 => ((changeforgeref5_value.f k x1).bind fun t104 => ((changeforgeref5_Sign3.f t103 t104).bind fun t105 => (some t105)))) else ((changeforgeref5_Numeric.f k x0).bind fun t106 => (if t106 = true then (some (-1)) else ((changeforgeref5_Numeric.f k x1).bind fun t107 => (if t107 = true then (some 1) else (changeforgeref5_identifiers.l0 k x0 x1 0)))))
def changeforgeref5_identifiers.l0 : Nat → ByteArray → ByteArray → Int → Option (Int)
 | 0,_,_,_ => none
 | k + 1,x0,x1,x5 => if x5 < (x0.size : Int) then (changeforgeref5_identifiers.j2 k x0 x1 x5 (decide (x5 < (x1.size : Int)))) else (changeforgeref5_identifiers.j2 k x0 x1 x5 false)
def changeforgeref5_identifiers.j2 : Nat → ByteArray → ByteArray → Int → Bool → Option (Int)
 | 0,_,_,_,_ => none
 | k + 1,x0,x1,x5,x30 => if x30 = true then (if 0 ≤ x5 then (if x5 < (x0.size : Int) then (if x5 < (x1.size : Int) then (if (bt x0 x5) = (bt x1 x5) then (changeforgeref5_identifiers.l0 k x0 x1 (wrap64 (x5 + 1))) else ((changeforgeref5_Sign3.f (wrap64 (bt x0 x5)) (wrap64 (bt x1 x5))).bind fun t109 => (some t109))) else (none)) else (none)) else (none)) else ((changeforgeref5_Sign3.f (x0.size : Int) (x1.size : Int)).bind fun t108 => (some t108))
end
def changeforgeref5_identifiers.f (k : Nat) (a0 : ByteArray) (a1 : ByteArray) : Option (Int):=(changeforgeref5_Numeric.f k a0).bind fun t101 => (if t101 = true then ((changeforgeref5_Numeric.f k a1).bind fun t102 => (changeforgeref5_identifiers.j0 k a0 a1 t102)) else (changeforgeref5_identifiers.j0 k a0 a1 false))
theorem changeforgeref5_identifiers.mono_l : ∀ k,(∀ y0 y1 y2,LeO (changeforgeref5_identifiers.j0 k y0 y1 y2) (changeforgeref5_identifiers.j0 (k + 1) y0 y1 y2)) ∧ (∀ y0 y1 y2,LeO (changeforgeref5_identifiers.l0 k y0 y1 y2) (changeforgeref5_identifiers.l0 (k + 1) y0 y1 y2)) ∧ (∀ y0 y1 y2 y3,LeO (changeforgeref5_identifiers.j2 k y0 y1 y2 y3) (changeforgeref5_identifiers.j2 (k + 1) y0 y1 y2 y3))
 | 0 => ⟨fun _ _ _ r h => by simp [changeforgeref5_identifiers.j0] at h,fun _ _ _ r h => by simp [changeforgeref5_identifiers.l0] at h,fun _ _ _ _ r h => by simp [changeforgeref5_identifiers.j2] at h⟩
 | k + 1 => by
  obtain ⟨ih0,ih1,ih2⟩:=changeforgeref5_identifiers.mono_l k;refine ⟨?_,?_,?_⟩
  ·intro y0 y1 y2
   unfold changeforgeref5_identifiers.j0;repeat' first
   | (with_reducible exact ih0 _ _ _)
   | (with_reducible exact ih1 _ _ _)
   | (with_reducible exact ih2 _ _ _ _)
   | (with_reducible exact changeforgeref5_Numeric.mono _ _)
   | (with_reducible exact changeforgeref5_value.mono _ _)
   | (with_reducible exact LeO.refl _)
   | (with_reducible exact LeO.none _)
   | (with_reducible refine LeO.ite ?_ ?_)
   | (with_reducible refine LeO.bind ?_ (fun _ => ?_))
   | exact ih0 _ _ _
   | exact ih1 _ _ _
   | exact ih2 _ _ _ _
   | exact changeforgeref5_Numeric.mono _ _
   | exact changeforgeref5_value.mono _ _
   | exact LeO.none _
   | refine LeO.ite ?_ ?_
   | refine LeO.bind ?_ (fun _ => ?_)
  ·intro y0 y1 y2
   unfold changeforgeref5_identifiers.l0;repeat' first
   | (with_reducible exact ih0 _ _ _)
   | (with_reducible exact ih1 _ _ _)
   | (with_reducible exact ih2 _ _ _ _)
   | (with_reducible exact changeforgeref5_Numeric.mono _ _)
   | (with_reducible exact changeforgeref5_value.mono _ _)
   | (with_reducible exact LeO.refl _)
   | (with_reducible exact LeO.none _)
   | (with_reducible refine LeO.ite ?_ ?_)
   | (with_reducible refine LeO.bind ?_ (fun _ => ?_))
   | exact ih0 _ _ _
   | exact ih1 _ _ _
   | exact ih2 _ _ _ _
   | exact changeforgeref5_Numeric.mono _ _
   | exact changeforgeref5_value.mono _ _
   | exact LeO.none _
   | refine LeO.ite ?_ ?_
   | refine LeO.bind ?_ (fun _ => ?_)
  ·intro y0 y1 y2 y3
   unfold changeforgeref5_identifiers.j2;repeat' first
   | (with_reducible exact ih0 _ _ _)
   | (with_reducible exact ih1 _ _ _)
   | (with_reducible exact ih2 _ _ _ _)
   | (with_reducible exact changeforgeref5_Numeric.mono _ _)
   | (with_reducible exact changeforgeref5_value.mono _ _)
   | (with_reducible exact LeO.refl _)
   | (with_reducible exact LeO.none _)
   | (with_reducible refine LeO.ite ?_ ?_)
   | (with_reducible refine LeO.bind ?_ (fun _ => ?_))
   | exact ih0 _ _ _
   | exact ih1 _ _ _
   | exact ih2 _ _ _ _
   | exact changeforgeref5_Numeric.mono _ _
   | exact changeforgeref5_value.mono _ _
   | exact LeO.none _
   | refine LeO.ite ?_ ?_
   | refine LeO.bind ?_ (fun _ => ?_)
theorem changeforgeref5_identifiers.mono : ∀ a0 a1 k,LeO (changeforgeref5_identifiers.f k a0 a1) (changeforgeref5_identifiers.f (k + 1) a0 a1):=by
 intro a0 a1 k;obtain ⟨ih0,ih1,ih2⟩:=changeforgeref5_identifiers.mono_l k;unfold changeforgeref5_identifiers.f
 repeat' first
   | (with_reducible exact ih0 _ _ _)
   | (with_reducible exact ih1 _ _ _)
   | (with_reducible exact ih2 _ _ _ _)
   | (with_reducible exact changeforgeref5_Numeric.mono _ _)
   | (with_reducible exact changeforgeref5_value.mono _ _)
   | (with_reducible exact LeO.refl _)
   | (with_reducible exact LeO.none _)
   | (with_reducible refine LeO.ite ?_ ?_)
   | (with_reducible refine LeO.bind ?_ (fun _ => ?_))
   | exact ih0 _ _ _
   | exact ih1 _ _ _
   | exact ih2 _ _ _ _
   | exact changeforgeref5_Numeric.mono _ _
   | exact changeforgeref5_value.mono _ _
   | exact LeO.none _
   | refine LeO.ite ?_ ?_
   | refine LeO.bind ?_ (fun _ => ?_)
set_option maxHeartbeats 8000000 in
set_option maxRecDepth 100000 in
theorem changeforgeref5_identifiers.calls (k : Nat) (a0 : ByteArray) (a1 : ByteArray) (r : Int) (w : World) (h : changeforgeref5_identifiers.f k a0 a1 = some r) :
  Calls Tryd.prog 32 #[.string a0,.string a1] w fun e w' => e = .returned (.int .i64 r) ∧ Drawn0 w w':=by
 have H : ((changeforgeref5_Numeric.f k a0).bind fun t101 => (if t101 = true then ((changeforgeref5_Numeric.f k a1).bind fun t102 => (changeforgeref5_identifiers.j0 k a0 a1 t102)) else (changeforgeref5_identifiers.j0 k a0 a1 false))) = some r:=h;clear h;have HC3:=Aside0.mk H;clear H;go_enter Tryd.func32,Tryd.ntmps32;go_upto_region 1 with (fail);repeat (go_quiet (fail);go_upto_region 1 with (fail))
 go_cut [11] (fun v11 wc => ∃ (kq : Nat) (x11_2 : Bool),v11 = .bool x11_2 ∧ Aside0 (changeforgeref5_identifiers.j0 kq a0 a1 x11_2 = some r) ∧ Aside0 (kq ≤ k) ∧ Drawn0 w wc)
 case first =>
  have H:=HC3.out;clear HC3;replace H:=Option.bind_eq_some_iff.mp H;obtain ⟨t101,A40,H⟩:=H;replace H : (if t101 = true then ((changeforgeref5_Numeric.f k a1).bind fun t102 => (changeforgeref5_identifiers.j0 k a0 a1 t102)) else (changeforgeref5_identifiers.j0 k a0 a1 false)) = some r:=H;have A4:=Aside0.mk A40;clear A40;by_cases c5 : t101 = true
  ·subst c5
   have H1 : ((changeforgeref5_Numeric.f k a1).bind fun t102 => (changeforgeref5_identifiers.j0 k a0 a1 t102)) = some r:=by rw [if_pos rfl] at H;exact H
   clear H;have H:=H1;clear H1;replace H:=Option.bind_eq_some_iff.mp H;obtain ⟨t102,A60,H⟩:=H;replace H : (changeforgeref5_identifiers.j0 k a0 a1 t102) = some r:=H;have A6:=Aside0.mk A60;clear A60;have H':=Aside0.mk H;clear H;go_wp2_with (first|(go_at_call 41;(with_reducible refine (changeforgeref5_Numeric.calls k a0 true _ A4.out).mono ?_);rintro e w' ⟨rfl,⟨nd,rfl⟩⟩;(try first|exact ⟨rfl,_,World.drewN_drewN _ _ _⟩|exact ⟨rfl,_,Eq.trans (World.drewN_drewN _ _ _) (congrArg (World.drewN _) (Nat.add_assoc _ _ _))⟩))|(go_at_call 41;(with_reducible refine (changeforgeref5_Numeric.calls k a1 t102 _ A6.out).mono ?_);rintro e w' ⟨rfl,⟨nd,rfl⟩⟩;(try first|exact ⟨rfl,_,World.drewN_drewN _ _ _⟩|exact ⟨rfl,_,Eq.trans (World.drewN_drewN _ _ _) (congrArg (World.drewN _) (Nat.add_assoc _ _ _))⟩)));repeat (go_quiet (first|(go_at_call 41;(with_reducible refine (changeforgeref5_Numeric.calls k a0 true _ A4.out).mono ?_);rintro e w' ⟨rfl,⟨nd,rfl⟩⟩;(try first|exact ⟨rfl,_,World.drewN_drewN _ _ _⟩|exact ⟨rfl,_,Eq.trans (World.drewN_drewN _ _ _) (congrArg (World.drewN _) (Nat.add_assoc _ _ _))⟩))|(go_at_call 41;(with_reducible refine (changeforgeref5_Numeric.calls k a1 t102 _ A6.out).mono ?_);rintro e w' ⟨rfl,⟨nd,rfl⟩⟩;(try first|exact ⟨rfl,_,World.drewN_drewN _ _ _⟩|exact ⟨rfl,_,Eq.trans (World.drewN_drewN _ _ _) (congrArg (World.drewN _) (Nat.add_assoc _ _ _))⟩)));try go_wp2_with (first|(go_at_call 41;(with_reducible refine (changeforgeref5_Numeric.calls k a0 true _ A4.out).mono ?_);rintro e w' ⟨rfl,⟨nd,rfl⟩⟩;(try first|exact ⟨rfl,_,World.drewN_drewN _ _ _⟩|exact ⟨rfl,_,Eq.trans (World.drewN_drewN _ _ _) (congrArg (World.drewN _) (Nat.add_assoc _ _ _))⟩))|(go_at_call 41;(with_reducible refine (changeforgeref5_Numeric.calls k a1 t102 _ A6.out).mono ?_);rintro e w' ⟨rfl,⟨nd,rfl⟩⟩;(try first|exact ⟨rfl,_,World.drewN_drewN _ _ _⟩|exact ⟨rfl,_,Eq.trans (World.drewN_drewN _ _ _) (congrArg (World.drewN _) (Nat.add_assoc _ _ _))⟩))))
   go_meet
   case rel => exact ⟨_,(t102),fr_,H',⟨om_⟩,by repeat (first|exact Drawn0.refl _|apply Drawn0.step)⟩
  ·replace c5:=Bool.eq_false_iff.mpr c5
   subst c5;have H1 : (changeforgeref5_identifiers.j0 k a0 a1 false) = some r:=by rw [if_neg (show ¬ (false = true) by decide)] at H;exact H
   clear H;have H:=H1;clear H1;have H':=Aside0.mk H;clear H;go_wp2_with (first|(go_at_call 41;(with_reducible refine (changeforgeref5_Numeric.calls k a0 false _ A4.out).mono ?_);rintro e w' ⟨rfl,⟨nd,rfl⟩⟩;(try first|exact ⟨rfl,_,World.drewN_drewN _ _ _⟩|exact ⟨rfl,_,Eq.trans (World.drewN_drewN _ _ _) (congrArg (World.drewN _) (Nat.add_assoc _ _ _))⟩)));repeat (go_quiet (first|(go_at_call 41;(with_reducible refine (changeforgeref5_Numeric.calls k a0 false _ A4.out).mono ?_);rintro e w' ⟨rfl,⟨nd,rfl⟩⟩;(try first|exact ⟨rfl,_,World.drewN_drewN _ _ _⟩|exact ⟨rfl,_,Eq.trans (World.drewN_drewN _ _ _) (congrArg (World.drewN _) (Nat.add_assoc _ _ _))⟩)));try go_wp2_with (first|(go_at_call 41;(with_reducible refine (changeforgeref5_Numeric.calls k a0 false _ A4.out).mono ?_);rintro e w' ⟨rfl,⟨nd,rfl⟩⟩;(try first|exact ⟨rfl,_,World.drewN_drewN _ _ _⟩|exact ⟨rfl,_,Eq.trans (World.drewN_drewN _ _ _) (congrArg (World.drewN _) (Nat.add_assoc _ _ _))⟩))))
   go_meet
   case rel => exact ⟨_,(false),fr_,H',⟨om_⟩,by repeat (first|exact Drawn0.refl _|apply Drawn0.step)⟩
 case rest =>
  clear HC3;(try clear p2);(try clear c3);(try clear c5);obtain ⟨kq,x11_2,rfl,HA,HJ2,⟨mc2,rfl⟩⟩:=hcut;cases kq with
  | zero => exact absurd HA.out (by simp [changeforgeref5_identifiers.j0])
  | succ kj2 =>
   have H:=HA.out;clear HA;simp only [changeforgeref5_identifiers.j0] at H;by_cases c7 : x11_2 = true
   ·subst c7
    have H1 : ((changeforgeref5_value.f kj2 a0).bind fun t103 => ((changeforgeref5_value.f kj2 a1).bind fun t104 => ((changeforgeref5_Sign3.f t103 t104).bind fun t105 => (some t105)))) = some r:=by rw [if_pos rfl] at H;exact H
    clear H;have H:=H1;clear H1;replace H:=Option.bind_eq_some_iff.mp H;obtain ⟨t103,A80,H⟩:=H;replace H : ((changeforgeref5_value.f kj2 a1).bind fun t104 => ((changeforgeref5_Sign3.f t103 t104).bind fun t105 => (some t105))) = some r:=H;have A8:=Aside0.mk A80;clear A80;replace H:=Option.bind_eq_some_iff.mp H;obtain ⟨t104,A90,H⟩:=H;replace H : ((changeforgeref5_Sign3.f t103 t104).bind fun t105 => (some t105)) = some r:=H;have A9:=Aside0.mk A90;clear A90;replace H:=Option.bind_eq_some_iff.mp H;obtain ⟨t105,A100,H⟩:=H;replace H : (some t105) = some r:=H;have A10:=Aside0.mk A100;clear A100;obtain rfl:=Option.some.inj H;go_wp2_with (first|(go_at_call 48;(with_reducible refine (changeforgeref5_value.calls kj2 a0 t103 _ A8.out).mono ?_);rintro e w' ⟨rfl,⟨nd,rfl⟩⟩;(try first|exact ⟨rfl,_,World.drewN_drewN _ _ _⟩|exact ⟨rfl,_,Eq.trans (World.drewN_drewN _ _ _) (congrArg (World.drewN _) (Nat.add_assoc _ _ _))⟩))|(go_at_call 48;(with_reducible refine (changeforgeref5_value.calls kj2 a1 t104 _ A9.out).mono ?_);rintro e w' ⟨rfl,⟨nd,rfl⟩⟩;(try first|exact ⟨rfl,_,World.drewN_drewN _ _ _⟩|exact ⟨rfl,_,Eq.trans (World.drewN_drewN _ _ _) (congrArg (World.drewN _) (Nat.add_assoc _ _ _))⟩))|(go_at_call 31;(with_reducible refine (changeforgeref5_Sign3.calls t103 t104 t105 _ A10.out).mono ?_);rintro e w' ⟨rfl,⟨nd,rfl⟩⟩;(try first|exact ⟨rfl,_,World.drewN_drewN _ _ _⟩|exact ⟨rfl,_,Eq.trans (World.drewN_drewN _ _ _) (congrArg (World.drewN _) (Nat.add_assoc _ _ _))⟩)));repeat (go_quiet (first|(go_at_call 48;(with_reducible refine (changeforgeref5_value.calls kj2 a0 t103 _ A8.out).mono ?_);rintro e w' ⟨rfl,⟨nd,rfl⟩⟩;(try first|exact ⟨rfl,_,World.drewN_drewN _ _ _⟩|exact ⟨rfl,_,Eq.trans (World.drewN_drewN _ _ _) (congrArg (World.drewN _) (Nat.add_assoc _ _ _))⟩))|(go_at_call 48;(with_reducible refine (changeforgeref5_value.calls kj2 a1 t104 _ A9.out).mono ?_);rintro e w' ⟨rfl,⟨nd,rfl⟩⟩;(try first|exact ⟨rfl,_,World.drewN_drewN _ _ _⟩|exact ⟨rfl,_,Eq.trans (World.drewN_drewN _ _ _) (congrArg (World.drewN _) (Nat.add_assoc _ _ _))⟩))|(go_at_call 31;(with_reducible refine (changeforgeref5_Sign3.calls t103 t104 t105 _ A10.out).mono ?_);rintro e w' ⟨rfl,⟨nd,rfl⟩⟩;(try first|exact ⟨rfl,_,World.drewN_drewN _ _ _⟩|exact ⟨rfl,_,Eq.trans (World.drewN_drewN _ _ _) (congrArg (World.drewN _) (Nat.add_assoc _ _ _))⟩)));try go_wp2_with (first|(go_at_call 48;(with_reducible refine (changeforgeref5_value.calls kj2 a0 t103 _ A8.out).mono ?_);rintro e w' ⟨rfl,⟨nd,rfl⟩⟩;(try first|exact ⟨rfl,_,World.drewN_drewN _ _ _⟩|exact ⟨rfl,_,Eq.trans (World.drewN_drewN _ _ _) (congrArg (World.drewN _) (Nat.add_assoc _ _ _))⟩))|(go_at_call 48;(with_reducible refine (changeforgeref5_value.calls kj2 a1 t104 _ A9.out).mono ?_);rintro e w' ⟨rfl,⟨nd,rfl⟩⟩;(try first|exact ⟨rfl,_,World.drewN_drewN _ _ _⟩|exact ⟨rfl,_,Eq.trans (World.drewN_drewN _ _ _) (congrArg (World.drewN _) (Nat.add_assoc _ _ _))⟩))|(go_at_call 31;(with_reducible refine (changeforgeref5_Sign3.calls t103 t104 t105 _ A10.out).mono ?_);rintro e w' ⟨rfl,⟨nd,rfl⟩⟩;(try first|exact ⟨rfl,_,World.drewN_drewN _ _ _⟩|exact ⟨rfl,_,Eq.trans (World.drewN_drewN _ _ _) (congrArg (World.drewN _) (Nat.add_assoc _ _ _))⟩))))
    go_ret;exact ⟨by first|rfl|(simp;done)|(simp only [IntWalk.i64_left];done)|(simp [*];done),by repeat (first|exact Drawn0.refl _|apply Drawn0.step)⟩
   ·replace c7:=Bool.eq_false_iff.mpr c7
    subst c7;have H1 : ((changeforgeref5_Numeric.f kj2 a0).bind fun t106 => (if t106 = true then (some (-1)) else ((changeforgeref5_Numeric.f kj2 a1).bind fun t107 => (if t107 = true then (some 1) else (changeforgeref5_identifiers.l0 kj2 a0 a1 0))))) = some r:=by rw [if_neg (show ¬ (false = true) by decide)] at H;exact H
    clear H;have H:=H1;clear H1;replace H:=Option.bind_eq_some_iff.mp H;obtain ⟨t106,A110,H⟩:=H;replace H : (if t106 = true then (some (-1)) else ((changeforgeref5_Numeric.f kj2 a1).bind fun t107 => (if t107 = true then (some 1) else (changeforgeref5_identifiers.l0 kj2 a0 a1 0)))) = some r:=H;have A11:=Aside0.mk A110;clear A110;by_cases c12 : t106 = true
    ·subst c12
     have H1 : (some (-1)) = some r:=by rw [if_pos rfl] at H;exact H
     clear H;have H:=H1;clear H1;obtain rfl:=Option.some.inj H;go_wp2_with (first|(go_at_call 41;(with_reducible refine (changeforgeref5_Numeric.calls kj2 a0 true _ A11.out).mono ?_);rintro e w' ⟨rfl,⟨nd,rfl⟩⟩;(try first|exact ⟨rfl,_,World.drewN_drewN _ _ _⟩|exact ⟨rfl,_,Eq.trans (World.drewN_drewN _ _ _) (congrArg (World.drewN _) (Nat.add_assoc _ _ _))⟩)));repeat (go_quiet (first|(go_at_call 41;(with_reducible refine (changeforgeref5_Numeric.calls kj2 a0 true _ A11.out).mono ?_);rintro e w' ⟨rfl,⟨nd,rfl⟩⟩;(try first|exact ⟨rfl,_,World.drewN_drewN _ _ _⟩|exact ⟨rfl,_,Eq.trans (World.drewN_drewN _ _ _) (congrArg (World.drewN _) (Nat.add_assoc _ _ _))⟩)));try go_wp2_with (first|(go_at_call 41;(with_reducible refine (changeforgeref5_Numeric.calls kj2 a0 true _ A11.out).mono ?_);rintro e w' ⟨rfl,⟨nd,rfl⟩⟩;(try first|exact ⟨rfl,_,World.drewN_drewN _ _ _⟩|exact ⟨rfl,_,Eq.trans (World.drewN_drewN _ _ _) (congrArg (World.drewN _) (Nat.add_assoc _ _ _))⟩))))
     go_ret;exact ⟨by first|rfl|(simp;done)|(simp only [IntWalk.i64_left];done)|(simp [*];done),by repeat (first|exact Drawn0.refl _|apply Drawn0.step)⟩
    ·replace c12:=Bool.eq_false_iff.mpr c12
     subst c12;have H1 : ((changeforgeref5_Numeric.f kj2 a1).bind fun t107 => (if t107 = true then (some 1) else (changeforgeref5_identifiers.l0 kj2 a0 a1 0))) = some r:=by rw [if_neg (show ¬ (false = true) by decide)] at H;exact H
     clear H;have H:=H1;clear H1;replace H:=Option.bind_eq_some_iff.mp H;obtain ⟨t107,A130,H⟩:=H;replace H : (if t107 = true then (some 1) else (changeforgeref5_identifiers.l0 kj2 a0 a1 0)) = some r:=H;have A13:=Aside0.mk A130;clear A130;by_cases c14 : t107 = true
     ·subst c14
      have H1 : (some 1) = some r:=by rw [if_pos rfl] at H;exact H
      clear H;have H:=H1;clear H1;obtain rfl:=Option.some.inj H;go_wp2_with (first|(go_at_call 41;(with_reducible refine (changeforgeref5_Numeric.calls kj2 a0 false _ A11.out).mono ?_);rintro e w' ⟨rfl,⟨nd,rfl⟩⟩;(try first|exact ⟨rfl,_,World.drewN_drewN _ _ _⟩|exact ⟨rfl,_,Eq.trans (World.drewN_drewN _ _ _) (congrArg (World.drewN _) (Nat.add_assoc _ _ _))⟩))|(go_at_call 41;(with_reducible refine (changeforgeref5_Numeric.calls kj2 a1 true _ A13.out).mono ?_);rintro e w' ⟨rfl,⟨nd,rfl⟩⟩;(try first|exact ⟨rfl,_,World.drewN_drewN _ _ _⟩|exact ⟨rfl,_,Eq.trans (World.drewN_drewN _ _ _) (congrArg (World.drewN _) (Nat.add_assoc _ _ _))⟩)));repeat (go_quiet (first|(go_at_call 41;(with_reducible refine (changeforgeref5_Numeric.calls kj2 a0 false _ A11.out).mono ?_);rintro e w' ⟨rfl,⟨nd,rfl⟩⟩;(try first|exact ⟨rfl,_,World.drewN_drewN _ _ _⟩|exact ⟨rfl,_,Eq.trans (World.drewN_drewN _ _ _) (congrArg (World.drewN _) (Nat.add_assoc _ _ _))⟩))|(go_at_call 41;(with_reducible refine (changeforgeref5_Numeric.calls kj2 a1 true _ A13.out).mono ?_);rintro e w' ⟨rfl,⟨nd,rfl⟩⟩;(try first|exact ⟨rfl,_,World.drewN_drewN _ _ _⟩|exact ⟨rfl,_,Eq.trans (World.drewN_drewN _ _ _) (congrArg (World.drewN _) (Nat.add_assoc _ _ _))⟩)));try go_wp2_with (first|(go_at_call 41;(with_reducible refine (changeforgeref5_Numeric.calls kj2 a0 false _ A11.out).mono ?_);rintro e w' ⟨rfl,⟨nd,rfl⟩⟩;(try first|exact ⟨rfl,_,World.drewN_drewN _ _ _⟩|exact ⟨rfl,_,Eq.trans (World.drewN_drewN _ _ _) (congrArg (World.drewN _) (Nat.add_assoc _ _ _))⟩))|(go_at_call 41;(with_reducible refine (changeforgeref5_Numeric.calls kj2 a1 true _ A13.out).mono ?_);rintro e w' ⟨rfl,⟨nd,rfl⟩⟩;(try first|exact ⟨rfl,_,World.drewN_drewN _ _ _⟩|exact ⟨rfl,_,Eq.trans (World.drewN_drewN _ _ _) (congrArg (World.drewN _) (Nat.add_assoc _ _ _))⟩))))
      go_ret;exact ⟨by first|rfl|(simp;done)|(simp only [IntWalk.i64_left];done)|(simp [*];done),by repeat (first|exact Drawn0.refl _|apply Drawn0.step)⟩
     ·replace c14:=Bool.eq_false_iff.mpr c14
      subst c14;have H1 : (changeforgeref5_identifiers.l0 kj2 a0 a1 0) = some r:=by rw [if_neg (show ¬ (false = true) by decide)] at H;exact H
      clear H;have H:=H1;clear H1;have H':=Aside0.mk H;clear H;go_wp2_with (first|(go_at_call 41;(with_reducible refine (changeforgeref5_Numeric.calls kj2 a0 false _ A11.out).mono ?_);rintro e w' ⟨rfl,⟨nd,rfl⟩⟩;(try first|exact ⟨rfl,_,World.drewN_drewN _ _ _⟩|exact ⟨rfl,_,Eq.trans (World.drewN_drewN _ _ _) (congrArg (World.drewN _) (Nat.add_assoc _ _ _))⟩))|(go_at_call 41;(with_reducible refine (changeforgeref5_Numeric.calls kj2 a1 false _ A13.out).mono ?_);rintro e w' ⟨rfl,⟨nd,rfl⟩⟩;(try first|exact ⟨rfl,_,World.drewN_drewN _ _ _⟩|exact ⟨rfl,_,Eq.trans (World.drewN_drewN _ _ _) (congrArg (World.drewN _) (Nat.add_assoc _ _ _))⟩)));repeat (go_quiet (first|(go_at_call 41;(with_reducible refine (changeforgeref5_Numeric.calls kj2 a0 false _ A11.out).mono ?_);rintro e w' ⟨rfl,⟨nd,rfl⟩⟩;(try first|exact ⟨rfl,_,World.drewN_drewN _ _ _⟩|exact ⟨rfl,_,Eq.trans (World.drewN_drewN _ _ _) (congrArg (World.drewN _) (Nat.add_assoc _ _ _))⟩))|(go_at_call 41;(with_reducible refine (changeforgeref5_Numeric.calls kj2 a1 false _ A13.out).mono ?_);rintro e w' ⟨rfl,⟨nd,rfl⟩⟩;(try first|exact ⟨rfl,_,World.drewN_drewN _ _ _⟩|exact ⟨rfl,_,Eq.trans (World.drewN_drewN _ _ _) (congrArg (World.drewN _) (Nat.add_assoc _ _ _))⟩)));try go_wp2_with (first|(go_at_call 41;(with_reducible refine (changeforgeref5_Numeric.calls kj2 a0 false _ A11.out).mono ?_);rintro e w' ⟨rfl,⟨nd,rfl⟩⟩;(try first|exact ⟨rfl,_,World.drewN_drewN _ _ _⟩|exact ⟨rfl,_,Eq.trans (World.drewN_drewN _ _ _) (congrArg (World.drewN _) (Nat.add_assoc _ _ _))⟩))|(go_at_call 41;(with_reducible refine (changeforgeref5_Numeric.calls kj2 a1 false _ A13.out).mono ?_);rintro e w' ⟨rfl,⟨nd,rfl⟩⟩;(try first|exact ⟨rfl,_,World.drewN_drewN _ _ _⟩|exact ⟨rfl,_,Eq.trans (World.drewN_drewN _ _ _) (congrArg (World.drewN _) (Nat.add_assoc _ _ _))⟩))))
      go_loopg [5] kj2 (fun kq v5 w' => ∃ (x5_2 : Int),v5 = .int .i64 x5_2 ∧ Aside0 (changeforgeref5_identifiers.l0 kq a0 a1 x5_2 = some r) ∧ Aside0 (kq ≤ kj2) ∧ Drawn0 w w')
      case atStart => exact ⟨(0),fr_,H',⟨Nat.le_refl _⟩,by repeat (first|exact Drawn0.refl _|apply Drawn0.step)⟩
      case round =>
       clear H';(try clear c1);(try clear c2);(try clear p2);(try clear c3);(try clear c5);(try clear c7);(try clear c12);(try clear c14);(try clear p2);obtain ⟨x5_2,rfl,HA,HK2,⟨m2,rfl⟩⟩:=hrel;cases gk with
       | zero => exact absurd HA.out (by simp [changeforgeref5_identifiers.l0])
       | succ k2 =>
        have H:=HA.out;clear HA;simp only [changeforgeref5_identifiers.l0] at H;have HC15:=Aside0.mk H;clear H;go_upto_region 8 with (fail);repeat (go_quiet (fail);go_upto_region 8 with (fail))
        go_cut [30] (fun v30 wc => ∃ (kq : Nat) (x30_14 : Bool),v30 = .bool x30_14 ∧ Aside0 (changeforgeref5_identifiers.j2 kq a0 a1 x5_2 x30_14 = some r) ∧ Aside0 (kq ≤ k2) ∧ Drawn0 w wc)
        case first =>
         have H:=HC15.out;clear HC15;by_cases c16 : x5_2 < (a0.size : Int)
         ·rw [if_pos c16] at H
          have c16b0 : decide (x5_2 < (a0.size : Int)) = true:=decide_eq_true c16;clear c16;(first|rw [c16b0]|(simp only [i64_w,i32_w];rw [c16b0])|skip);have H':=Aside0.mk H;clear H;go_wp2;repeat (go_quiet (fail);try go_wp2)
          go_meet
          case rel => exact ⟨_,(decide (x5_2 < (a1.size : Int))),fr_,H',⟨by have:=HJ2.out;have:=HK2.out;first|omega|exact Nat.le_refl _⟩,by repeat (first|exact Drawn0.refl _|apply Drawn0.step)⟩
         ·rw [if_neg c16] at H
          have c16b0 : decide (x5_2 < (a0.size : Int)) = false:=decide_eq_false c16;clear c16;(first|rw [c16b0]|(simp only [i64_w,i32_w];rw [c16b0])|skip);have H':=Aside0.mk H;clear H;go_wp2;repeat (go_quiet (fail);try go_wp2)
          go_meet
          case rel => exact ⟨_,(false),fr_,H',⟨by have:=HJ2.out;have:=HK2.out;first|omega|exact Nat.le_refl _⟩,by repeat (first|exact Drawn0.refl _|apply Drawn0.step)⟩
        case rest =>
         clear HC15;(try clear c1);(try clear c2);(try clear p2);(try clear c3);(try clear c5);(try clear c7);(try clear c12);(try clear c14);(try clear c16);(try clear c16b0);(try clear p2);obtain ⟨kq,x30_14,rfl,HA,HJ14,⟨mc14,rfl⟩⟩:=hcut;cases kq with
         | zero => exact absurd HA.out (by simp [changeforgeref5_identifiers.j2])
         | succ kj14 =>
          have H:=HA.out;clear HA;simp only [changeforgeref5_identifiers.j2] at H;by_cases c17 : x30_14 = true
          ·subst c17
           have H1 : (if 0 ≤ x5_2 then (if x5_2 < (a0.size : Int) then (if x5_2 < (a1.size : Int) then (if (bt a0 x5_2) = (bt a1 x5_2) then (changeforgeref5_identifiers.l0 kj14 a0 a1 (wrap64 (x5_2 + 1))) else ((changeforgeref5_Sign3.f (wrap64 (bt a0 x5_2)) (wrap64 (bt a1 x5_2))).bind fun t109 => (some t109))) else (none)) else (none)) else (none)) = some r:=by rw [if_pos rfl] at H;exact H
           clear H;have H:=H1;clear H1;by_cases c18 : 0 ≤ x5_2
           ·rw [if_pos c18] at H
            have c18b0 : decide (0 ≤ x5_2) = true:=decide_eq_true c18;clear c18;by_cases c19 : x5_2 < (a0.size : Int)
            ·rw [if_pos c19] at H
             have c19b0 : decide (x5_2 < (a0.size : Int)) = true:=decide_eq_true c19;clear c19;by_cases c21 : x5_2 < (a1.size : Int)
             ·rw [if_pos c21] at H
              have c21b0 : decide (x5_2 < (a1.size : Int)) = true:=decide_eq_true c21;clear c21;by_cases c23 : (bt a0 x5_2) = (bt a1 x5_2)
              ·rw [if_pos c23] at H
               have c23b0 : ((bt a0 x5_2) == (bt a1 x5_2)) = true:=beq_iff_eq.mpr c23;have c23b1 : ((bt a0 x5_2) != (bt a1 x5_2)) = false:=bne_eq_false_iff_eq.mpr c23;clear c23;have H':=Aside0.mk H;clear H;have p20 : 0 ≤ (x5_2 : Int):=of_decide_eq_true as_;have q20 : x5_2 < (a0.size : Int):=of_decide_eq_true as_;have hx20:=bt_at a0 x5_2;replace p20:=eq_true p20;replace q20:=eq_true q20;have p22 : 0 ≤ (x5_2 : Int):=of_decide_eq_true as_;have q22 : x5_2 < (a1.size : Int):=of_decide_eq_true as_;have hx22:=bt_at a1 x5_2;replace p22:=eq_true p22;replace q22:=eq_true q22;go_wp2;repeat (go_quiet (fail);try go_wp2)
               go_roundg kj14
               case measure => have:=HJ2.out;have:=HK2.out;have:=HJ14.out;omega
               case rel => exact ⟨(wrap64 (x5_2 + 1)),fr_,H',⟨by have:=HJ2.out;have:=HK2.out;have:=HJ14.out;omega⟩,by repeat (first|exact Drawn0.refl _|apply Drawn0.step)⟩
              ·rw [if_neg c23] at H
               have c23b0 : ((bt a0 x5_2) == (bt a1 x5_2)) = false:=beq_eq_false_iff_ne.mpr c23;have c23b1 : ((bt a0 x5_2) != (bt a1 x5_2)) = true:=bne_iff_ne.mpr c23;replace H:=Option.bind_eq_some_iff.mp H;obtain ⟨t109,A260,H⟩:=H;replace H : (some t109) = some r:=H;have A26:=Aside0.mk A260;clear A260;obtain rfl:=Option.some.inj H;have p20 : 0 ≤ (x5_2 : Int):=of_decide_eq_true as_;have q20 : x5_2 < (a0.size : Int):=of_decide_eq_true as_;have hx20:=bt_at a0 x5_2;replace p20:=eq_true p20;replace q20:=eq_true q20;have p22 : 0 ≤ (x5_2 : Int):=of_decide_eq_true as_;have q22 : x5_2 < (a1.size : Int):=of_decide_eq_true as_;have hx22:=bt_at a1 x5_2;replace p22:=eq_true p22;replace q22:=eq_true q22;have p24 : 0 ≤ (x5_2 : Int):=of_decide_eq_true as_;have q24 : x5_2 < (a0.size : Int):=of_decide_eq_true as_;have hx24:=bt_at a0 x5_2;replace p24:=eq_true p24;replace q24:=eq_true q24;have p25 : 0 ≤ (x5_2 : Int):=of_decide_eq_true as_;have q25 : x5_2 < (a1.size : Int):=of_decide_eq_true as_;have hx25:=bt_at a1 x5_2;replace p25:=eq_true p25;replace q25:=eq_true q25;go_wp2_with (first|(go_at_call 31;(with_reducible refine (changeforgeref5_Sign3.calls (wrap64 (bt a0 x5_2)) (wrap64 (bt a1 x5_2)) t109 _ A26.out).mono ?_);rintro e w' ⟨rfl,⟨nd,rfl⟩⟩;(try first|exact ⟨rfl,_,World.drewN_drewN _ _ _⟩|exact ⟨rfl,_,Eq.trans (World.drewN_drewN _ _ _) (congrArg (World.drewN _) (Nat.add_assoc _ _ _))⟩)));repeat (go_quiet (first|(go_at_call 31;(with_reducible refine (changeforgeref5_Sign3.calls (wrap64 (bt a0 x5_2)) (wrap64 (bt a1 x5_2)) t109 _ A26.out).mono ?_);rintro e w' ⟨rfl,⟨nd,rfl⟩⟩;(try first|exact ⟨rfl,_,World.drewN_drewN _ _ _⟩|exact ⟨rfl,_,Eq.trans (World.drewN_drewN _ _ _) (congrArg (World.drewN _) (Nat.add_assoc _ _ _))⟩)));try go_wp2_with (first|(go_at_call 31;(with_reducible refine (changeforgeref5_Sign3.calls (wrap64 (bt a0 x5_2)) (wrap64 (bt a1 x5_2)) t109 _ A26.out).mono ?_);rintro e w' ⟨rfl,⟨nd,rfl⟩⟩;(try first|exact ⟨rfl,_,World.drewN_drewN _ _ _⟩|exact ⟨rfl,_,Eq.trans (World.drewN_drewN _ _ _) (congrArg (World.drewN _) (Nat.add_assoc _ _ _))⟩))))
               go_ret;exact ⟨by first|rfl|(simp;done)|(simp only [IntWalk.i64_left];done)|(simp [*];done),by repeat (first|exact Drawn0.refl _|apply Drawn0.step)⟩
             ·rw [if_neg c21] at H
              exact absurd H (by simp)
            ·rw [if_neg c19] at H
             exact absurd H (by simp)
           ·rw [if_neg c18] at H
            exact absurd H (by simp)
          ·replace c17:=Bool.eq_false_iff.mpr c17
           subst c17;have H1 : ((changeforgeref5_Sign3.f (a0.size : Int) (a1.size : Int)).bind fun t108 => (some t108)) = some r:=by rw [if_neg (show ¬ (false = true) by decide)] at H;exact H
           clear H;have H:=H1;clear H1;replace H:=Option.bind_eq_some_iff.mp H;obtain ⟨t108,A270,H⟩:=H;replace H : (some t108) = some r:=H;have A27:=Aside0.mk A270;clear A270;obtain rfl:=Option.some.inj H;go_wp2_with (first|(go_at_call 31;(with_reducible refine (changeforgeref5_Sign3.calls (a0.size : Int) (a1.size : Int) t108 _ A27.out).mono ?_);rintro e w' ⟨rfl,⟨nd,rfl⟩⟩;(try first|exact ⟨rfl,_,World.drewN_drewN _ _ _⟩|exact ⟨rfl,_,Eq.trans (World.drewN_drewN _ _ _) (congrArg (World.drewN _) (Nat.add_assoc _ _ _))⟩)));repeat (go_quiet (first|(go_at_call 31;(with_reducible refine (changeforgeref5_Sign3.calls (a0.size : Int) (a1.size : Int) t108 _ A27.out).mono ?_);rintro e w' ⟨rfl,⟨nd,rfl⟩⟩;(try first|exact ⟨rfl,_,World.drewN_drewN _ _ _⟩|exact ⟨rfl,_,Eq.trans (World.drewN_drewN _ _ _) (congrArg (World.drewN _) (Nat.add_assoc _ _ _))⟩)));try go_wp2_with (first|(go_at_call 31;(with_reducible refine (changeforgeref5_Sign3.calls (a0.size : Int) (a1.size : Int) t108 _ A27.out).mono ?_);rintro e w' ⟨rfl,⟨nd,rfl⟩⟩;(try first|exact ⟨rfl,_,World.drewN_drewN _ _ _⟩|exact ⟨rfl,_,Eq.trans (World.drewN_drewN _ _ _) (congrArg (World.drewN _) (Nat.add_assoc _ _ _))⟩))))
           go_ret;exact ⟨by first|rfl|(simp;done)|(simp only [IntWalk.i64_left];done)|(simp [*];done),by repeat (first|exact Drawn0.refl _|apply Drawn0.step)⟩

end Go.Proofs.YtggdbafmpmfmcaaDoor.Fn
