/- A function of the program as a plain Lean function, and the proof that the call comes to just what it says (written by wip/tools/xprint.py for this claim). Condition: the plain function has an answer. -/
import Derived.Test.YtmpboljmigigfaaFn0
import Derived.Test.YtmpboljmigigfaaFf17
import Derived.Test.YtmpboljmigigfaaFf25
import Derived.Test.YtmpboljmigigfaaFf26
import Derived.Test.YtmpboljmigigfaaFf31
import Derived.Test.YtmpboljmigigfaaFs0
import Derived.Test.YtmpboljmigigfaaWApart
import Derived.Test.YtmpboljmigigfaaWGuard
import Derived.Test.YtmpboljmigigfaaWLast
import Derived.Test.YtmpboljmigigfaaWMore
import Derived.Test.YtmpboljmigigfaaWN
import Derived.Test.YtmpboljmigigfaaWRepsOne
import Derived.Test.YtmpboljmigigfaaWWords
namespace Go.Proofs.Ytmpboljmigigfaa.Fn
open Go.RowKit Go.Proofs.YtmpboljmigigfaaW.PrintWords Go.Proofs.YtmpboljmigigfaaW.PrintLast Go.Proofs.YtmpboljmigigfaaW.PrintMore
attribute [local go_sem] max2_int min2_int max_two min_two max_three min_three max_four min_four   -- for this text's walks alone
set_option linter.unusedVariables false
set_option linter.unusedSimpArgs false

/-! ### changeforgelaw5_ThresholdSignersSuffice: function 11 -/
mutual
def changeforgelaw5_ThresholdSignersSuffice.j0 : Nat → List Int → Int → List Int → Int → Bool → Option (Bool)
 | 0,_,_,_,_,_ => none
 | k + 1,x0,x1,x2,x3,x33 => if x33 = true then (some true) else (changeforgelaw5_ThresholdSignersSuffice.l0 k x0 x1 x2 x3 ([] : List (S54)) 0)
def changeforgelaw5_ThresholdSignersSuffice.l0 : Nat → List Int → Int → List Int → Int → List (S54) → Int → Option (Bool)
 | 0,_,_,_,_,_,_ => none
 | k + 1,x0,x1,x2,x3,x9,x10 => if x10 < x3 then (if 0 ≤ x10 then (if x10 < (x0.length : Int) then ((signing_Sign.f k (rd x0 x10) x2).bind fun bt106 => (if bt106.2.1 = 0 then (if x9.length < 8796093022208 then (changeforgelaw5_ThresholdSignersSuffice.l0 k x0 x1 x2 x3 (x9 ++ [(⟨rd x0 x10,bt106.1⟩ : S54)]) (wrap64 (x10 + 1))) else (none)) else (none))) else (none)) else (none)) else ((threshold_Accept.f k x0 x1 x2 x9).bind fun bt114 => (if bt114.2.1 = 0 then (some (bt114.1 == (decide (x3 ≥ x1)))) else (none)))
end
def changeforgelaw5_ThresholdSignersSuffice.f (k : Nat) (l0 : List Int) (a1 : Int) (l2 : List Int) (a3 : Int) : Option (Bool):=(changeforgelaw5_accepts.f).bind fun t101 => (if t101 = true then ((changeforgeref5_ThresholdFault.f k l0 a1).bind fun bt102 => (if bt102.1 = 0 then (if (l2.length : Int) > 4096 then (changeforgelaw5_ThresholdSignersSuffice.j0 k l0 a1 l2 a3 true) else ((changeforgelaw5_in.f a3 0 (l0.length : Int)).bind fun t104 => (changeforgelaw5_ThresholdSignersSuffice.j0 k l0 a1 l2 a3 (!t104)))) else (changeforgelaw5_ThresholdSignersSuffice.j0 k l0 a1 l2 a3 true))) else (none))
theorem changeforgelaw5_ThresholdSignersSuffice.mono_l : ∀ k,(∀ y0 y1 y2 y3 y4,LeO (changeforgelaw5_ThresholdSignersSuffice.j0 k y0 y1 y2 y3 y4) (changeforgelaw5_ThresholdSignersSuffice.j0 (k + 1) y0 y1 y2 y3 y4)) ∧ (∀ y0 y1 y2 y3 y4 y5,LeO (changeforgelaw5_ThresholdSignersSuffice.l0 k y0 y1 y2 y3 y4 y5) (changeforgelaw5_ThresholdSignersSuffice.l0 (k + 1) y0 y1 y2 y3 y4 y5))
 | 0 => ⟨fun _ _ _ _ _ r h => by simp [changeforgelaw5_ThresholdSignersSuffice.j0] at h,fun _ _ _ _ _ _ r h => by simp [changeforgelaw5_ThresholdSignersSuffice.l0] at h⟩
 | k + 1 => by
  obtain ⟨ih0,ih1⟩:=changeforgelaw5_ThresholdSignersSuffice.mono_l k
  refine ⟨?_,?_⟩
  ·intro y0 y1 y2 y3 y4
   unfold changeforgelaw5_ThresholdSignersSuffice.j0
   repeat' first
   | (with_reducible exact ih0 _ _ _ _ _)
   | (with_reducible exact ih1 _ _ _ _ _ _)
   | (with_reducible exact changeforgeref5_ThresholdFault.mono _ _ _)
   | (with_reducible exact signing_Sign.mono _ _ _)
   | (with_reducible exact threshold_Accept.mono _ _ _ _ _)
   | (with_reducible exact LeO.refl _)
   | (with_reducible exact LeO.none _)
   | (with_reducible refine LeO.ite ?_ ?_)
   | (with_reducible refine LeO.bind ?_ (fun _ => ?_))
   | exact ih0 _ _ _ _ _
   | exact ih1 _ _ _ _ _ _
   | exact changeforgeref5_ThresholdFault.mono _ _ _
   | exact signing_Sign.mono _ _ _
   | exact threshold_Accept.mono _ _ _ _ _
   | exact LeO.none _
   | refine LeO.ite ?_ ?_
   | refine LeO.bind ?_ (fun _ => ?_)
  ·intro y0 y1 y2 y3 y4 y5
   unfold changeforgelaw5_ThresholdSignersSuffice.l0
   repeat' first
   | (with_reducible exact ih0 _ _ _ _ _)
   | (with_reducible exact ih1 _ _ _ _ _ _)
   | (with_reducible exact changeforgeref5_ThresholdFault.mono _ _ _)
   | (with_reducible exact signing_Sign.mono _ _ _)
   | (with_reducible exact threshold_Accept.mono _ _ _ _ _)
   | (with_reducible exact LeO.refl _)
   | (with_reducible exact LeO.none _)
   | (with_reducible refine LeO.ite ?_ ?_)
   | (with_reducible refine LeO.bind ?_ (fun _ => ?_))
   | exact ih0 _ _ _ _ _
   | exact ih1 _ _ _ _ _ _
   | exact changeforgeref5_ThresholdFault.mono _ _ _
   | exact signing_Sign.mono _ _ _
   | exact threshold_Accept.mono _ _ _ _ _
   | exact LeO.none _
   | refine LeO.ite ?_ ?_
   | refine LeO.bind ?_ (fun _ => ?_)
theorem changeforgelaw5_ThresholdSignersSuffice.mono : ∀ a0 a1 a2 a3 k,LeO (changeforgelaw5_ThresholdSignersSuffice.f k a0 a1 a2 a3) (changeforgelaw5_ThresholdSignersSuffice.f (k + 1) a0 a1 a2 a3):=by
 intro a0 a1 a2 a3 k
 obtain ⟨ih0,ih1⟩:=changeforgelaw5_ThresholdSignersSuffice.mono_l k
 unfold changeforgelaw5_ThresholdSignersSuffice.f
 repeat' first
   | (with_reducible exact ih0 _ _ _ _ _)
   | (with_reducible exact ih1 _ _ _ _ _ _)
   | (with_reducible exact changeforgeref5_ThresholdFault.mono _ _ _)
   | (with_reducible exact signing_Sign.mono _ _ _)
   | (with_reducible exact threshold_Accept.mono _ _ _ _ _)
   | (with_reducible exact LeO.refl _)
   | (with_reducible exact LeO.none _)
   | (with_reducible refine LeO.ite ?_ ?_)
   | (with_reducible refine LeO.bind ?_ (fun _ => ?_))
   | exact ih0 _ _ _ _ _
   | exact ih1 _ _ _ _ _ _
   | exact changeforgeref5_ThresholdFault.mono _ _ _
   | exact signing_Sign.mono _ _ _
   | exact threshold_Accept.mono _ _ _ _ _
   | exact LeO.none _
   | refine LeO.ite ?_ ?_
   | refine LeO.bind ?_ (fun _ => ?_)
set_option maxHeartbeats 8000000 in
set_option maxRecDepth 100000 in
theorem changeforgelaw5_ThresholdSignersSuffice.calls (k : Nat) (A0 : Option Addr) (c0 : Nat) (l0 : List Int) (a1 : Int) (A2 : Option Addr) (c2 : Nat) (l2 : List Int) (a3 : Int) (r : Bool) (w : World) (hr0 : Kd.C (Kd.int .i64) w A0 l0.length l0) (hc0 : l0.length ≤ c0) (hr2 : Kd.C (Kd.int .u8) w A2 l2.length l2) (hc2 : l2.length ≤ c2) (h : changeforgelaw5_ThresholdSignersSuffice.f k l0 a1 l2 a3 = some r) :
  Calls Try.prog 11 #[.slice A0 l0.length c0,.int .i64 a1,.slice A2 l2.length c2,.int .i64 a3] w fun e w' => e = .returned (.bool r) ∧ Below w.heap.size w w':=by
 have hu26:=Try.underlying26
 have hu54:=Try.underlying54
 have hfd26_0 : ∀ (y0_ y1_ : Value) (w : World),(Instr.field 26 (.agg #[y0_,y1_]) 0).run Try.prog w = .ok (y0_) w:=fun _ _ _ => by kernel_rfl
 have HR0:=Aside0.mk hr0
 have HC0:=Aside0.mk hc0
 clear hr0 hc0
 have HR2:=Aside0.mk hr2
 have HC2:=Aside0.mk hc2
 clear hr2 hc2
 have HB:=Aside0.mk (Below.refl w.heap.size w)
 have H : ((changeforgelaw5_accepts.f).bind fun t101 => (if t101 = true then ((changeforgeref5_ThresholdFault.f k l0 a1).bind fun bt102 => (if bt102.1 = 0 then (if (l2.length : Int) > 4096 then (changeforgelaw5_ThresholdSignersSuffice.j0 k l0 a1 l2 a3 true) else ((changeforgelaw5_in.f a3 0 (l0.length : Int)).bind fun t104 => (changeforgelaw5_ThresholdSignersSuffice.j0 k l0 a1 l2 a3 (!t104)))) else (changeforgelaw5_ThresholdSignersSuffice.j0 k l0 a1 l2 a3 true))) else (none))) = some r:=h
 clear h
 replace H:=Option.bind_eq_some_iff.mp H
 obtain ⟨t101,A50,H⟩:=H
 replace H : (if t101 = true then ((changeforgeref5_ThresholdFault.f k l0 a1).bind fun bt102 => (if bt102.1 = 0 then (if (l2.length : Int) > 4096 then (changeforgelaw5_ThresholdSignersSuffice.j0 k l0 a1 l2 a3 true) else ((changeforgelaw5_in.f a3 0 (l0.length : Int)).bind fun t104 => (changeforgelaw5_ThresholdSignersSuffice.j0 k l0 a1 l2 a3 (!t104)))) else (changeforgelaw5_ThresholdSignersSuffice.j0 k l0 a1 l2 a3 true))) else (none)) = some r:=H
 have A5:=Aside0.mk A50
 clear A50
 by_cases c6 : t101 = true
 ·subst c6
  have H1 : ((changeforgeref5_ThresholdFault.f k l0 a1).bind fun bt102 => (if bt102.1 = 0 then (if (l2.length : Int) > 4096 then (changeforgelaw5_ThresholdSignersSuffice.j0 k l0 a1 l2 a3 true) else ((changeforgelaw5_in.f a3 0 (l0.length : Int)).bind fun t104 => (changeforgelaw5_ThresholdSignersSuffice.j0 k l0 a1 l2 a3 (!t104)))) else (changeforgelaw5_ThresholdSignersSuffice.j0 k l0 a1 l2 a3 true))) = some r:=by rw [if_pos rfl] at H;exact H
  clear H
  have H:=H1
  clear H1
  have HC7:=Aside0.mk H
  clear H
  go_enter Try.func11,Try.ntmps11
  go_upto_region 3 with (first|((with_reducible refine gate_callee (f:=26) rfl ?_);refine goesL_ (some 15) rfl rfl Try.func26 (by kernel_rfl) rfl #[] rfl (by (try simp only [List.map_toArray,List.map_cons,List.map_nil]);first|done|rfl|(simp only [List.length_drop,List.length_take];rfl)) ?_;(with_reducible refine (changeforgelaw5_accepts.calls  true _ A5.out).mono ?_);rintro e w8 ⟨rfl,hb⟩;refine ⟨_,rfl,?_⟩;have n0_:=Aside0.mk (below_step (by repeat (first|(with_reducible first|exact HB.out|apply below_alloc|apply pw_below_drewN|apply below_drew1)|exact HB.out)) hb);clear HB;have HB:=n0_;clear n0_;(try clear hb);(try clear hb2);(try clear hk);(try clear hi)))
  (try simp only [Act.put,List.setIfInBounds_toArray,List.set_cons_zero,List.set_cons_succ])
  go_cut [33] (fun v33 wc => ∃ (kq : Nat) (x33_6 : Bool),v33 = .bool x33_6 ∧ Aside0 (changeforgelaw5_ThresholdSignersSuffice.j0 kq l0 a1 l2 a3 x33_6 = some r) ∧ Aside0 (kq ≤ k) ∧ Aside0 (Below w.heap.size w wc))
  case first =>
   have H:=HC7.out
   clear HC7
   replace H:=Option.bind_eq_some_iff.mp H
   obtain ⟨⟨t102,t103⟩,A90,H⟩:=H
   replace H : (if t102 = 0 then (if (l2.length : Int) > 4096 then (changeforgelaw5_ThresholdSignersSuffice.j0 k l0 a1 l2 a3 true) else ((changeforgelaw5_in.f a3 0 (l0.length : Int)).bind fun t104 => (changeforgelaw5_ThresholdSignersSuffice.j0 k l0 a1 l2 a3 (!t104)))) else (changeforgelaw5_ThresholdSignersSuffice.j0 k l0 a1 l2 a3 true)) = some r:=H
   have A9:=Aside0.mk A90
   clear A90
   by_cases c10 : t102 = 0
   ·rw [if_pos c10] at H
    have c10b0 : (t102 == 0) = true:=beq_iff_eq.mpr c10
    have c10b1 : (t102 != 0) = false:=bne_eq_false_iff_eq.mpr c10
    clear c10
    (first|rw [c10b0]|(simp only [i64_w,i32_w];rw [c10b0])|skip)
    by_cases c11 : (l2.length : Int) > 4096
    ·rw [if_pos c11] at H
     have c11b0 : decide (4096 < (l2.length : Int)) = true:=decide_eq_true c11
     have c11b1 : decide (4096 < l2.length) = true:=decide_eq_true (by omega)
     clear c11
     have H':=Aside0.mk H
     clear H
     go_wp2_with (first|((with_reducible refine gate_callee (f:=25) rfl ?_);refine goesL_ (some 19) rfl rfl Try.func25 (by kernel_rfl) rfl #[.slice A0 l0.length c0,.int .i64 a1] rfl (by (try simp only [List.map_toArray,List.map_cons,List.map_nil]);first|done|rfl|(simp only [List.length_drop,List.length_take];rfl)) ?_;(with_reducible refine (changeforgeref5_ThresholdFault.calls k _ _ l0 a1 t102 t103 _ ?side1 ?side2 A9.out).mono ?_);(case side1 => repeat (first|exact (Kd.C_below HR0.out HB.out)|(with_reducible refine Kd.C_alloc ?_ _)|(with_reducible refine Kd.C_drewN ?_ _)|(with_reducible refine Kd.C_drew ?_)));(case side2 => exact HC0.out);rintro e w12 ⟨rfl,hb⟩;refine ⟨_,rfl,?_⟩;have n0_:=Aside0.mk (below_step (by repeat (first|(with_reducible first|exact HB.out|apply below_alloc|apply pw_below_drewN|apply below_drew1)|exact HB.out)) hb);clear HB;have HB:=n0_;clear n0_;(try clear hb);(try clear hb2);(try clear hk);(try clear hi)))
     go_meet
     case rel => exact ⟨_,(true),(by first|rfl|(simp;done)|(simp only [IntWalk.i64_left];done)|(simp [*];done)),H',⟨by first|omega|exact Nat.le_refl _⟩,⟨by repeat (first|(with_reducible first|exact HB.out|apply below_alloc|apply pw_below_drewN|apply below_drew1)|exact HB.out)⟩⟩
    ·rw [if_neg c11] at H
     have c11b0 : decide (4096 < (l2.length : Int)) = false:=decide_eq_false c11
     have c11b1 : decide (4096 < l2.length) = false:=decide_eq_false (by omega)
     clear c11
     replace H:=Option.bind_eq_some_iff.mp H
     obtain ⟨t104,A130,H⟩:=H
     replace H : (changeforgelaw5_ThresholdSignersSuffice.j0 k l0 a1 l2 a3 (!t104)) = some r:=H
     have A13:=Aside0.mk A130
     clear A130
     have H':=Aside0.mk H
     clear H
     go_wp2_with (first|((with_reducible refine gate_callee (f:=25) rfl ?_);refine goesL_ (some 19) rfl rfl Try.func25 (by kernel_rfl) rfl #[.slice A0 l0.length c0,.int .i64 a1] rfl (by (try simp only [List.map_toArray,List.map_cons,List.map_nil]);first|done|rfl|(simp only [List.length_drop,List.length_take];rfl)) ?_;(with_reducible refine (changeforgeref5_ThresholdFault.calls k _ _ l0 a1 t102 t103 _ ?side1 ?side2 A9.out).mono ?_);(case side1 => repeat (first|exact (Kd.C_below HR0.out HB.out)|(with_reducible refine Kd.C_alloc ?_ _)|(with_reducible refine Kd.C_drewN ?_ _)|(with_reducible refine Kd.C_drew ?_)));(case side2 => exact HC0.out);rintro e w14 ⟨rfl,hb⟩;refine ⟨_,rfl,?_⟩;have n0_:=Aside0.mk (below_step (by repeat (first|(with_reducible first|exact HB.out|apply below_alloc|apply pw_below_drewN|apply below_drew1)|exact HB.out)) hb);clear HB;have HB:=n0_;clear n0_;(try clear hb);(try clear hb2);(try clear hk);(try clear hi))|(go_at_call 32;(with_reducible refine (changeforgelaw5_in.calls a3 0 (l0.length : Int) t104 _ A13.out).mono ?_);rintro e w' ⟨rfl,⟨nd,rfl⟩⟩))
     go_meet
     case rel => exact ⟨_,(!t104),(by first|rfl|(simp;done)|(simp only [IntWalk.i64_left];done)|(simp [*];done)),H',⟨by first|omega|exact Nat.le_refl _⟩,⟨by repeat (first|(with_reducible first|exact HB.out|apply below_alloc|apply pw_below_drewN|apply below_drew1)|exact HB.out)⟩⟩
   ·rw [if_neg c10] at H
    have c10b0 : (t102 == 0) = false:=beq_eq_false_iff_ne.mpr c10
    have c10b1 : (t102 != 0) = true:=bne_iff_ne.mpr c10
    (first|rw [c10b0]|(simp only [i64_w,i32_w];rw [c10b0])|skip)
    have H':=Aside0.mk H
    clear H
    go_wp2_with (first|((with_reducible refine gate_callee (f:=25) rfl ?_);refine goesL_ (some 19) rfl rfl Try.func25 (by kernel_rfl) rfl #[.slice A0 l0.length c0,.int .i64 a1] rfl (by (try simp only [List.map_toArray,List.map_cons,List.map_nil]);first|done|rfl|(simp only [List.length_drop,List.length_take];rfl)) ?_;(with_reducible refine (changeforgeref5_ThresholdFault.calls k _ _ l0 a1 t102 t103 _ ?side1 ?side2 A9.out).mono ?_);(case side1 => repeat (first|exact (Kd.C_below HR0.out HB.out)|(with_reducible refine Kd.C_alloc ?_ _)|(with_reducible refine Kd.C_drewN ?_ _)|(with_reducible refine Kd.C_drew ?_)));(case side2 => exact HC0.out);rintro e w15 ⟨rfl,hb⟩;refine ⟨_,rfl,?_⟩;have n0_:=Aside0.mk (below_step (by repeat (first|(with_reducible first|exact HB.out|apply below_alloc|apply pw_below_drewN|apply below_drew1)|exact HB.out)) hb);clear HB;have HB:=n0_;clear n0_;(try clear hb);(try clear hb2);(try clear hk);(try clear hi)))
    go_meet
    case rel => exact ⟨_,(true),(by first|rfl|(simp;done)|(simp only [IntWalk.i64_left];done)|(simp [*];done)),H',⟨by first|omega|exact Nat.le_refl _⟩,⟨by repeat (first|(with_reducible first|exact HB.out|apply below_alloc|apply pw_below_drewN|apply below_drew1)|exact HB.out)⟩⟩
  case rest =>
   clear HC7
   try clear c1
   try clear c2
   try clear p2
   try clear c6
   try clear c10
   try clear c10b0
   try clear c10b1
   try clear c11
   try clear c11b0
   try clear c11b1
   obtain ⟨kq,x33_6,rfl,HA,HJ6,HB⟩:=hcut
   cases kq with
   | zero => exact absurd HA.out (by simp [changeforgelaw5_ThresholdSignersSuffice.j0])
   | succ kj6 =>
    have H:=HA.out
    clear HA
    simp only [changeforgelaw5_ThresholdSignersSuffice.j0] at H
    by_cases c16 : x33_6 = true
    ·subst c16
     have H1 : (some true) = some r:=by rw [if_pos rfl] at H;exact H
     clear H
     have H:=H1
     clear H1
     obtain rfl:=Option.some.inj H
     go_wp2
     go_ret
     exact ⟨by first|rfl|(simp [errW_none,errW_some] <;> rfl)|(simp [*,errW_none,errW_some] <;> rfl),by repeat (first|(with_reducible first|exact HB.out|apply below_alloc|apply pw_below_drewN|apply below_drew1)|exact HB.out)⟩
    ·replace c16:=Bool.eq_false_iff.mpr c16
     subst c16
     have H1 : (changeforgelaw5_ThresholdSignersSuffice.l0 kj6 l0 a1 l2 a3 ([] : List (S54)) 0) = some r:=by rw [if_neg (show ¬ (false = true) by decide)] at H;exact H
     clear H
     have H:=H1
     clear H1
     have H':=Aside0.mk H
     clear H
     go_wp2
     go_loopg [9,10] kj6 (fun kq v9 v10 w' => ∃ (x9_2 : List (S54)) (x10_2 : Int),v10 = .int .i64 x10_2 ∧ Aside0 (changeforgelaw5_ThresholdSignersSuffice.l0 kq l0 a1 l2 a3 x9_2 x10_2 = some r) ∧ Aside0 (kq ≤ kj6) ∧ Aside0 (Kd.R k54 54 w' w.heap.size (fun _ => True) v9 x9_2) ∧ Aside0 (Below w.heap.size w w'))
     case atStart => exact ⟨(([] : List (S54))),(0),(by first|rfl|(simp;done)|(simp only [IntWalk.i64_left];done)|(simp [*];done)),H',⟨Nat.le_refl _⟩,⟨by first|exact Kd.R_nil _ _ _ _ _|exact Kd.N_nil _ _ _ _ _|exact Kd.V_nil _ _ _ _ _|exact Kd.Q_nil _ _ _ _ _|exact Kd.S_nil _ _ _ _ _⟩,⟨by repeat (first|(with_reducible first|exact HB.out|apply below_alloc|apply pw_below_drewN|apply below_drew1)|exact HB.out)⟩⟩
     case round =>
      clear H'
      try clear c1
      try clear c2
      try clear p2
      try clear c6
      try clear c10
      try clear c10b0
      try clear c10b1
      try clear c11
      try clear c11b0
      try clear c11b1
      try clear c16
      try clear p2
      obtain ⟨x9_2,x10_2,rfl,HA,HK2,HO_9,HB⟩:=hrel
      cases gk with
      | zero => exact absurd HA.out (by simp [changeforgelaw5_ThresholdSignersSuffice.l0])
      | succ k2 =>
       have H:=HA.out
       clear HA
       simp only [changeforgelaw5_ThresholdSignersSuffice.l0] at H
       by_cases c17 : x10_2 < a3
       ·rw [if_pos c17] at H
        have c17b0 : decide (x10_2 < a3) = true:=decide_eq_true c17
        clear c17
        by_cases c18 : 0 ≤ x10_2
        ·rw [if_pos c18] at H
         have c18b0 : decide (0 ≤ x10_2) = true:=decide_eq_true c18
         clear c18
         by_cases c19 : x10_2 < (l0.length : Int)
         ·rw [if_pos c19] at H
          have c19b0 : decide (x10_2 < (l0.length : Int)) = true:=decide_eq_true c19
          clear c19
          replace H:=Option.bind_eq_some_iff.mp H
          obtain ⟨⟨t106,t107,t108⟩,A200,H⟩:=H
          replace H : (if t107 = 0 then (if x9_2.length < 8796093022208 then (changeforgelaw5_ThresholdSignersSuffice.l0 k2 l0 a1 l2 a3 (x9_2 ++ [(⟨rd l0 x10_2,t106⟩ : S54)]) (wrap64 (x10_2 + 1))) else (none)) else (none)) = some r:=H
          have A20:=Aside0.mk A200
          clear A200
          by_cases c21 : t107 = 0
          ·rw [if_pos c21] at H
           have c21b0 : (t107 == 0) = true:=beq_iff_eq.mpr c21
           have c21b1 : (t107 != 0) = false:=bne_eq_false_iff_eq.mpr c21
           clear c21
           by_cases c22 : x9_2.length < 8796093022208
           ·rw [if_pos c22] at H
            have LMc22:=Aside0.mk c22
            clear c22
            obtain ⟨y111,hy111⟩ : ∃ y_ : List (S54),y_ = (x9_2 ++ [(⟨rd l0 x10_2,t106⟩ : S54)]):=⟨_,rfl⟩
            replace H : (changeforgelaw5_ThresholdSignersSuffice.l0 k2 l0 a1 l2 a3 y111 (wrap64 (x10_2 + 1))) = some r:=by first|(rw [hy111];with_reducible exact H)|(have H2_:=(Option.bind_some _ _).symm.trans H;rw [hy111];with_reducible exact H2_)|(have H2_:=(Option.bind_some _ _).symm.trans H;with_reducible exact H2_)|with_reducible exact H|(rw [hy111];exact H)|exact H
            have Ny111:=Aside0.mk hy111
            clear hy111
            have H':=Aside0.mk H
            clear H
            have p105 : 0 ≤ (x10_2 : Int):=of_decide_eq_true (by first|(with_reducible assumption)|assumption)
            have q105 : x10_2 < (l0.length : Int):=of_decide_eq_true (by first|(with_reducible assumption)|assumption)
            obtain ⟨ad105,e105,hx105_0⟩:=Kd.at_int HR0.out x10_2 p105 q105
            cases e105
            replace hx105_0:=(HB.out.cell (World.block_lt_of_cell? w _ hx105_0)).trans hx105_0
            replace p105:=eq_true p105
            replace q105:=eq_true q105
            go_wp2_with (first|((with_reducible refine gate_callee (f:=17) rfl ?_);refine goesL_ (some 45) rfl rfl Try.func17 (by kernel_rfl) rfl #[.int .i64 (rd l0 x10_2),.slice A2 l2.length c2] rfl (by (try simp only [List.map_toArray,List.map_cons,List.map_nil]);first|done|rfl|(simp only [List.length_drop,List.length_take];rfl)) ?_;(with_reducible refine (signing_Sign.calls k2 (rd l0 x10_2) _ _ l2 t106 t107 t108 _ ?side1 ?side2 A20.out).mono ?_);(case side1 => repeat (first|exact (Kd.C_below HR2.out HB.out)|(with_reducible refine Kd.C_alloc ?_ _)|(with_reducible refine Kd.C_drewN ?_ _)|(with_reducible refine Kd.C_drew ?_)));(case side2 => exact HC2.out);rintro e w23 ⟨rfl,hb⟩;refine ⟨_,rfl,?_⟩;have n0_:=Aside0.mk (Kd.R_below (by (with_reducible repeat (first|apply Kd.R_alloc|apply Kd.R_drewN|apply Kd.R_drew));exact HO_9.out) hb);have n1_:=Aside0.mk (below_step (by repeat (first|(with_reducible first|exact HB.out|apply below_alloc|apply pw_below_drewN|apply below_drew1)|exact HB.out)) hb);clear HO_9;clear HB;have HO_9:=n0_;have HB:=n1_;clear n0_ n1_;(try clear hb);(try clear hb2);(try clear hk);(try clear hi))|((with_reducible refine gate_dst (N:=12) rfl ?_);(try (refine gate_guard (by rfl) ?_;dsimp only));refine box_event ?hg (N:=12) ?hd (cs:=#[.int .i64 0,.int .i64 0]) (t:=26) ?hr ?_;(case hd => rfl);(case hg => rfl);(case hr => first|(go_simp;done)|(go_simp;rfl));intro gb109 hg w24 hbox hb;have n0_:=Aside0.mk (Kd.R_below (by (with_reducible repeat (first|apply Kd.R_alloc|apply Kd.R_drewN|apply Kd.R_drew));exact HO_9.out) hb);have n1_:=Aside0.mk (below_step (by repeat (first|(with_reducible first|exact HB.out|apply below_alloc|apply pw_below_drewN|apply below_drew1)|exact HB.out)) hb);have n2_:=Aside0.mk (hbox);have n3_:=Aside0.mk ((by rw [hg];exact (below_size (by repeat (first|(with_reducible first|exact HB.out|apply below_alloc|apply pw_below_drewN|apply below_drew1)|exact HB.out))) : w.heap.size ≤ gb109));have n4_:=Aside0.mk ((by rw [hg];exact (below_size (by repeat (first|(with_reducible first|exact HB.out|apply below_alloc|apply pw_below_drewN|apply below_drew1)|exact HB.out))) : w.heap.size ≤ gb109));clear HO_9;clear HB;have HO_9:=n0_;have HB:=n1_;have BK109:=n2_;have GW109:=n3_;have GE109:=n4_;clear n0_ n1_ n2_ n3_ n4_;clear hb hbox hg;have hcz25_0 : w24.cell? ⟨gb109,0,none⟩ = some (.int .i64 0):=(blk_cell BK109.out 0).trans rfl;have hcz25_1 : w24.cell? ⟨gb109,1,none⟩ = some (.int .i64 0):=(blk_cell BK109.out 1).trans rfl;have hfz25_0:=blk_frozen BK109.out 0;have hfz25_1:=blk_frozen BK109.out 1;have p110 : 0 ≤ (x10_2 : Int):=of_decide_eq_true (by first|(with_reducible assumption)|assumption);have q110 : x10_2 < (l0.length : Int):=of_decide_eq_true (by first|(with_reducible assumption)|assumption);obtain ⟨ad110,e110,hx110_0⟩:=Kd.at_int HR0.out x10_2 p110 q110;obtain rfl : ad105 = ad110:=(by injection e110);have hn110_0 : ad105.block ≠ gb109:=Nat.ne_of_lt (Nat.lt_of_lt_of_le (by have:=World.block_lt_of_cell? _ _ hx110_0;first|rwa [add_block] at this|exact this) GW109.out);have hn110_1 : ad105.block ≠ gb109:=Nat.ne_of_lt (Nat.lt_of_lt_of_le (by have:=World.block_lt_of_cell? _ _ hx110_0;first|rwa [add_block] at this|exact this) GW109.out);replace hx110_0:=(HB.out.cell (World.block_lt_of_cell? w _ hx110_0)).trans hx110_0;replace hx110_0:=(cell_far (p:=⟨gb109,0,none⟩) (by first|(rw [add_block];exact hn110_0)|(show (Addr.add _ _).block ≠ _;rw [add_block];exact hn110_0)|exact hn110_0) (.int .i64 t107)).trans hx110_0;replace hx110_0:=(cell_far (p:=⟨gb109,1,none⟩) (by first|(rw [add_block];exact hn110_1)|(show (Addr.add _ _).block ≠ _;rw [add_block];exact hn110_1)|exact hn110_1) (.int .i64 t108)).trans hx110_0;clear hn110_0;clear hn110_1;replace p110:=eq_true p110;replace q110:=eq_true q110)|((with_reducible refine gate_builtin (b:=.append) (xs:=#[.tmp 51,.tmp 58]) rfl ?_);(try (refine gate_guard (by rfl) ?_;dsimp only));at_builtin;refine Kd.R_append k54 (w0:=w) w.heap.size rfl (.tmp 51) (.tmp 58) 43 54 (.agg #[(.int .i64 0),(.int .i64 0)]) 16 rfl Try.underlying43 info54 rfl (by decide) (by omega) u9 x9_2 (⟨rd l0 x10_2,t106⟩ : S54) [.int .i64 (rd l0 x10_2),.int .i64 t106] (fun _ => True) (fun _ => False) rfl (by first|(go_simp;done)|(go_simp;rfl)) ?aP (fun _ hk => hk.elim) ?aF ?aO ?aB ?aS ?aL ?_;(case aP => exact k54_mkM _ _ _ (⟨rd l0 x10_2,t106⟩ : S54));(case aB => exact (by repeat (first|(with_reducible first|exact HB.out|apply below_alloc|apply pw_below_drewN|apply below_drew1|refine below_set ?_ GE109.out)|exact HB.out)));(case aF => exact (fun _ _ => trivial));(case aO => exact (by (with_reducible repeat (first|apply Kd.R_alloc|apply Kd.R_drewN|apply Kd.R_drew));exact Kd.R_mono (Kd.R_far (p:=⟨gb109,1,none⟩) (Kd.R_far (p:=⟨gb109,0,none⟩) (Kd.R_types HO_9.out BK109.out (by decide)) (fun _ hk => hk.2) (.int .i64 t107)) (fun _ hk => hk.2) (.int .i64 t108)) (fun _ hk => trivial)));(case aS => exact (below_size (by repeat (first|(with_reducible first|exact HB.out|apply below_alloc|apply pw_below_drewN|apply below_drew1|refine below_set ?_ GE109.out)|exact HB.out))));(case aL => have:=LMc22.out;omega);intro v112 w26 ho hb hg hat;rw [← Ny111.out] at ho;have n0_:=Aside0.mk (blk_grown (g:=gb109) (o:=.cells #[.int .i64 t107,.int .i64 t108] 26 (0,0)) (by (with_reducible repeat (first|refine blk_drewN ?_ _|refine blk_drew ?_|refine blk_alloc ?_ _));refine blk_put (cs:=#[.int .i64 t107,.int .i64 0]) ?_ 1 _ rfl;(with_reducible repeat (first|refine blk_drewN ?_ _|refine blk_drew ?_|refine blk_alloc ?_ _));refine blk_put (cs:=#[.int .i64 0,.int .i64 0]) ?_ 0 _ rfl;(with_reducible repeat (first|refine blk_drewN ?_ _|refine blk_drew ?_|refine blk_alloc ?_ _));exact BK109.out) hg (Kd.R_ne HO_9.out BK109.out (by decide)));have n1_:=Aside0.mk (hb);have n2_:=Aside0.mk (ho);clear BK109;clear HB;clear HO_9;have BK109:=n0_;have HB:=n1_;have HO113:=n2_;clear n0_ n1_ n2_;clear ho hb hg hat))
            go_roundg k2
            case measure => have:=HJ6.out;have:=HK2.out;omega
            case rel => exact ⟨(y111),(wrap64 (x10_2 + 1)),(by first|rfl|(simp;done)|(simp only [IntWalk.i64_left];done)|(simp [*];done)),H',⟨by have:=HJ6.out;have:=HK2.out;omega⟩,⟨by (with_reducible repeat (first|apply Kd.R_alloc|apply Kd.R_drewN|apply Kd.R_drew));exact HO113.out⟩,⟨by repeat (first|(with_reducible first|exact HB.out|apply below_alloc|apply pw_below_drewN|apply below_drew1|refine below_set ?_ GE109.out)|exact HB.out)⟩⟩
           ·rw [if_neg c22] at H
            exact absurd H (by simp)
          ·rw [if_neg c21] at H
           exact absurd H (by simp)
         ·rw [if_neg c19] at H
          exact absurd H (by simp)
        ·rw [if_neg c18] at H
         exact absurd H (by simp)
       ·rw [if_neg c17] at H
        have c17b0 : decide (x10_2 < a3) = false:=decide_eq_false c17
        clear c17
        replace H:=Option.bind_eq_some_iff.mp H
        obtain ⟨⟨t114,t115,t116⟩,A270,H⟩:=H
        replace H : (if t115 = 0 then (some (t114 == (decide (a3 ≥ a1)))) else (none)) = some r:=H
        have A27:=Aside0.mk A270
        clear A270
        by_cases c28 : t115 = 0
        ·rw [if_pos c28] at H
         have c28b0 : (t115 == 0) = true:=beq_iff_eq.mpr c28
         have c28b1 : (t115 != 0) = false:=bne_eq_false_iff_eq.mpr c28
         clear c28
         obtain rfl:=Option.some.inj H
         obtain ⟨Ao29,co29,eo29⟩:=Kd.R_slice HO_9.out
         subst eo29
         go_wp2_with (first|((with_reducible refine gate_callee (f:=31) rfl ?_);refine goesL_ (some 65) rfl rfl Try.func31 (by kernel_rfl) rfl #[.slice A0 l0.length c0,.int .i64 a1,.slice A2 l2.length c2,.slice Ao29 x9_2.length co29] rfl (by (try simp only [List.map_toArray,List.map_cons,List.map_nil]);first|done|rfl|(simp only [List.length_drop,List.length_take];rfl)) ?_;(with_reducible refine (threshold_Accept.calls k2 _ _ l0 a1 _ _ l2 _ _ x9_2 t114 t115 t116 _ ?side1 ?side2 ?side3 ?side4 ?side5 ?side6 A27.out).mono ?_);(case side1 => repeat (first|exact (Kd.C_below HR0.out HB.out)|(with_reducible refine Kd.C_alloc ?_ _)|(with_reducible refine Kd.C_drewN ?_ _)|(with_reducible refine Kd.C_drew ?_)));(case side2 => exact HC0.out);(case side3 => repeat (first|exact (Kd.C_below HR2.out HB.out)|(with_reducible refine Kd.C_alloc ?_ _)|(with_reducible refine Kd.C_drewN ?_ _)|(with_reducible refine Kd.C_drew ?_)));(case side4 => exact HC2.out);(case side5 => repeat (first|exact (Kd.R_reads' HO_9.out).2.2|(with_reducible refine Kd.C_alloc ?_ _)|(with_reducible refine Kd.C_drewN ?_ _)|(with_reducible refine Kd.C_drew ?_)));(case side6 => exact (Kd.R_reads' HO_9.out).2.1);rintro e w30 ⟨rfl,hb⟩;refine ⟨_,rfl,?_⟩;have n0_:=Aside0.mk (Kd.R_below (by (with_reducible repeat (first|apply Kd.R_alloc|apply Kd.R_drewN|apply Kd.R_drew));exact HO_9.out) hb);have n1_:=Aside0.mk (below_step (by repeat (first|(with_reducible first|exact HB.out|apply below_alloc|apply pw_below_drewN|apply below_drew1)|exact HB.out)) hb);clear HO_9;clear HB;have HO_9:=n0_;have HB:=n1_;clear n0_ n1_;(try clear hb);(try clear hb2);(try clear hk);(try clear hi))|((with_reducible refine gate_dst (N:=14) rfl ?_);(try (refine gate_guard (by rfl) ?_;dsimp only));refine box_event ?hg (N:=14) ?hd (cs:=#[.int .i64 0,.int .i64 0]) (t:=26) ?hr ?_;(case hd => rfl);(case hg => rfl);(case hr => first|(go_simp;done)|(go_simp;rfl));intro gb117 hg w31 hbox hb;have n0_:=Aside0.mk (below_step (by repeat (first|(with_reducible first|exact HB.out|apply below_alloc|apply pw_below_drewN|apply below_drew1)|exact HB.out)) hb);have n1_:=Aside0.mk (hbox);have n2_:=Aside0.mk ((by rw [hg];exact (below_size (by repeat (first|(with_reducible first|exact HB.out|apply below_alloc|apply pw_below_drewN|apply below_drew1)|exact HB.out))) : w.heap.size ≤ gb117));have n3_:=Aside0.mk ((by rw [hg];exact (below_size (by repeat (first|(with_reducible first|exact HB.out|apply below_alloc|apply pw_below_drewN|apply below_drew1)|exact HB.out))) : w.heap.size ≤ gb117));clear HB;have HB:=n0_;have BK117:=n1_;have GW117:=n2_;have GE117:=n3_;clear n0_ n1_ n2_ n3_;clear hb hbox hg;have hcz32_0 : w31.cell? ⟨gb117,0,none⟩ = some (.int .i64 0):=(blk_cell BK117.out 0).trans rfl;have hcz32_1 : w31.cell? ⟨gb117,1,none⟩ = some (.int .i64 0):=(blk_cell BK117.out 1).trans rfl;have hfz32_0:=blk_frozen BK117.out 0;have hfz32_1:=blk_frozen BK117.out 1))
         go_ret
         exact ⟨by first|rfl|(simp [errW_none,errW_some] <;> rfl)|(simp [*,errW_none,errW_some] <;> rfl),by repeat (first|(with_reducible first|exact HB.out|apply below_alloc|apply pw_below_drewN|apply below_drew1|refine below_set ?_ GE117.out)|exact HB.out)⟩
        ·rw [if_neg c28] at H
         exact absurd H (by simp)
 ·replace c6:=Bool.eq_false_iff.mpr c6
  subst c6
  have H1 : (none) = some r:=by rw [if_neg (show ¬ (false = true) by decide)] at H;exact H
  clear H
  have H:=H1
  clear H1
  exact absurd H (by simp)

/-- THE ONE PURE STATEMENT of changeforgelaw5_ThresholdSignersSuffice: yours. -/
def changeforgelaw5_ThresholdSignersSuffice.Pure : Prop:=∀ (l0 : List Int) (a1 : Int) (l2 : List Int) (a3 : Int),l0.length ≤ maxLen → l0.length * 8 ≤ 140737488351232 → (∀ x ∈ l0,(Lit.int .i64 x).wf = true) → (Lit.int .i64 a1).wf = true → l2.length ≤ maxLen → l2.length * 1 ≤ 140737488351232 → (∀ x ∈ l2,(Lit.int .u8 x).wf = true) → (Lit.int .i64 a3).wf = true → ∃ k,changeforgelaw5_ThresholdSignersSuffice.f k l0 a1 l2 a3 = some true
theorem changeforgelaw5_ThresholdSignersSuffice.walk (P : changeforgelaw5_ThresholdSignersSuffice.Pure) (a0 : Option Addr) (len0 cap0 : Nat) (z0 : List Int) (a1 : Int) (a2 : Option Addr) (len2 cap2 : Nat) (z2 : List Int) (a3 : Int) (w : World) (w0 : (a0 = none ∧ len0 = 0 ∧ cap0 = 0 ∧ z0 = []) ∨ ∃ x,a0 = some x ∧ len0 ≤ cap0 ∧ cap0 ≤ maxLen ∧ z0.length = cap0 ∧ (∀ i,i < z0.length → w.cell? (x.add i) = some (.int .i64 (z0.getD i 0))) ∧ ∀ n ∈ z0,(Lit.int .i64 n).wf = true) (y0 : len0 * 8 ≤ 140737488351232) (w1 : (Lit.int .i64 a1).wf = true) (w2 : (a2 = none ∧ len2 = 0 ∧ cap2 = 0 ∧ z2 = []) ∨ ∃ x,a2 = some x ∧ len2 ≤ cap2 ∧ cap2 ≤ maxLen ∧ z2.length = cap2 ∧ (∀ i,i < z2.length → w.cell? (x.add i) = some (.int .u8 (z2.getD i 0))) ∧ ∀ n ∈ z2,(Lit.int .u8 n).wf = true) (y2 : len2 * 1 ≤ 140737488351232) (w3 : (Lit.int .i64 a3).wf = true) :
  Calls Try.prog 11 #[.slice a0 len0 cap0,.int .i64 a1,.slice a2 len2 cap2,.int .i64 a3] w fun e w' => e = .returned (.bool true) ∧ Below w.heap.size w w':=by
 obtain ⟨l0,rfl,hr0,hm0,hw0,hc0⟩:=ReadsInt.ofRowC w0
 obtain ⟨l2,rfl,hr2,hm2,hw2,hc2⟩:=ReadsInt.ofRowC w2
 obtain ⟨k,h⟩:=P l0 a1 l2 a3 hm0 y0 hw0 w1 hm2 y2 hw2 w3
 refine (changeforgelaw5_ThresholdSignersSuffice.calls k _ _ l0 a1 _ _ l2 a3 true w (Kd.C_of_reads (d:=(0 : Int)) (h1:=fun _ => rfl) hr0) hc0 (Kd.C_of_reads (d:=(0 : Int)) (h1:=fun _ => rfl) hr2) hc2 h).mono ?_
 rintro e w' ⟨rfl,hd⟩
 exact ⟨rfl,hd⟩

end Go.Proofs.Ytmpboljmigigfaa.Fn
