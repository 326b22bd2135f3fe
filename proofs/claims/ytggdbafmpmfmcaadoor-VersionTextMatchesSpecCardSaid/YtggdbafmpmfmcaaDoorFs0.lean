/- A function of the program as a plain Lean function, and the proof that the call comes to just what it says (written by wip/tools/xprint.py for this claim). Condition: the plain function has an answer. -/
import Derived.Test.YtggdbafmpmfmcaaDoorFn0
import Derived.Test.YtggdbafmpmfmcaaDoorWA
import Derived.Test.YtggdbafmpmfmcaaDoorVerA
import Derived.Test.YtggdbafmpmfmcaaDoorVerB
import Derived.Test.YtggdbafmpmfmcaaDoorTight
namespace Go.Proofs.YtggdbafmpmfmcaaDoor.Fn
open Go.RowKit Go.Proofs.YtggdbafmpmfmcaaDoorW.PrintWords Go.Proofs.YtggdbafmpmfmcaaDoorW.PrintLast Go.Proofs.YtggdbafmpmfmcaaDoorW.PrintMore
attribute [local go_sem] max2_int min2_int max_two min_two max_three min_three max_four min_four   -- for this text's walks alone
set_option linter.unusedVariables false
set_option linter.unusedSimpArgs false

section
theorem eqA27 (d : Nat) (w : World) (x0 y0 : Int) (x1 y1 : Int) :
  (Op.equalIn (d + 2) 27 (.agg #[.int .i64 x0,.int .i64 x1]) (.agg #[.int .i64 y0,.int .i64 y1])).run Tryd.prog w = .ok (x0 == y0 && (x1 == y1)) w:=by
 refine eqA_of Tryd.underlying27 (by kernel_rfl) ?_;refine eqf_cons (by rfl) (by go_simp;rfl) (by go_simp;rfl) (by go_simp) ?_;exact eqf_last (by rfl) (by go_simp;rfl) (by go_simp;rfl) (by go_simp)
end
section
/-! ### version_isDigits_c1: function 56 -/
def version_isDigits_c1.f (a0 : Int) : Option (Bool):=if a0 < 48 then (some true) else (some (decide (a0 > 57)))
set_option maxHeartbeats 8000000 in
set_option maxRecDepth 100000 in
theorem version_isDigits_c1.calls (a0 : Int) (r : Bool) (w : World) (h : version_isDigits_c1.f a0 = some r) :
  Calls Tryd.prog 56 #[.int .i32 a0] w fun e w' => e = .returned (.bool r) ∧ Drawn0 w w':=by
 have H : (if a0 < 48 then (some true) else (some (decide (a0 > 57)))) = some r:=h;clear h;by_cases c2 : a0 < 48
 ·rw [if_pos c2] at H
  have c2b0 : decide (a0 < 48) = true:=decide_eq_true c2;clear c2;obtain rfl:=Option.some.inj H;go_enter Tryd.func56,Tryd.ntmps56;go_wp2;go_ret;exact ⟨by first|rfl|(simp;done)|(simp only [IntWalk.i64_left];done)|(simp [*];done),by repeat (first|exact Drawn0.refl _|apply Drawn0.step)⟩
 ·rw [if_neg c2] at H
  have c2b0 : decide (a0 < 48) = false:=decide_eq_false c2;clear c2;obtain rfl:=Option.some.inj H;go_enter Tryd.func56,Tryd.ntmps56;go_wp2;go_ret;exact ⟨by first|rfl|(simp;done)|(simp only [IntWalk.i64_left];done)|(simp [*];done),by repeat (first|exact Drawn0.refl _|apply Drawn0.step)⟩

end
section
/-! ### changeforgelaw5_fault: function 12 -/
def changeforgelaw5_fault.f (a0 : Int) (a1 : Int) : Option (Int × Int):=some (a0,a1)
set_option maxHeartbeats 8000000 in
set_option maxRecDepth 100000 in
theorem changeforgelaw5_fault.calls (a0 : Int) (a1 : Int) (r1 : Int) (r2 : Int) (w : World) (h : changeforgelaw5_fault.f a0 a1 = some (r1,r2)) :
  Calls Tryd.prog 12 #[.int .i64 a0,.int .i64 a1] w fun e w' => e = .returned (.agg #[.int .i64 r1,.int .i64 r2]) ∧ Below w.heap.size w w':=by
 have hu27:=Tryd.underlying27;have HB:=Aside0.mk (Below.refl w.heap.size w);have H : (some (a0,a1)) = some (r1,r2):=h;clear h;simp only [Option.some.injEq,Prod.mk.injEq] at H;obtain ⟨rfl,rfl⟩:=H;go_enter Tryd.func12,Tryd.ntmps12;go_wp2_with (first|((with_reducible refine gate_dst (N:=4) rfl ?_);refine box_event ?hg (N:=4) ?hd (cs:=#[.int .i64 0,.int .i64 0]) (t:=27) ?hr ?_;(case hd => rfl);(case hg => rfl);(case hr => first|(go_simp;done)|(go_simp;rfl));intro gb101 hg w3 hbox hb;have BK101:=Aside0.mk (hbox);have GW101:=Aside0.mk ((bs_ : w.heap.size ≤ gb101));have GE101:=Aside0.mk ((bs_ : w.heap.size ≤ gb101));replace HB:=Aside0.mk (below_step bel_ hb);clear hb hbox hg;have hcz4_0:=blk_c (v:=.int .i64 0) BK101.out 0 rfl;have hcz4_1:=blk_c (v:=.int .i64 0) BK101.out 1 rfl;have hfz4_0:=blk_frozen BK101.out 0;have hfz4_1:=blk_frozen BK101.out 1));refine bodyPost_ret (results_cell_row rfl _ _ gb101 27 #[.int .i64 a0,.int .i64 a1] (0,0) _ rfl (by refine blk_mv ?_;refine blk_put (cs:=#[.int .i64 a0,.int .i64 0]) ?_ 1 _ rfl;refine blk_mv ?_;refine blk_put (cs:=#[.int .i64 0,.int .i64 0]) ?_ 0 _ rfl;refine blk_mv ?_;exact BK101.out) Tryd.underlying27 rfl (by kernel_rfl)) rfl ?_;exact ⟨by first|rfl|(simp [errW_none,errW_some] <;> rfl)|(simp [*,errW_none,errW_some] <;> rfl),bel_⟩

end
section
/-! ### strings_ContainsFunc: function 55 -/
-- IMPORT Derived.Test.@SEAT@VerA
def strings_ContainsFunc.f (a0 : ByteArray) : Option Bool:=some (!a0.data.toList.all dgB)
theorem strings_ContainsFunc.calls (a0 : ByteArray) (r : Bool) (w : World) (h : strings_ContainsFunc.f a0 = some r) :
  Calls Tryd.prog 55 #[.string a0,.func (.func 56) #[] #[]] w fun e w' => e = .returned (.bool r) ∧ Below w.heap.size w w':=by
 rw [← Option.some.inj h];exact contains_calls a0 w

end
section
/-! ### version_isDigits: function 42 -/
def version_isDigits.f (a0 : ByteArray) : Option (Bool):=if a0.toList = ([] : List UInt8) then (some false) else ((strings_ContainsFunc.f a0).bind fun t101 => (some (!t101)))
set_option maxHeartbeats 8000000 in
set_option maxRecDepth 100000 in
theorem version_isDigits.calls (a0 : ByteArray) (r : Bool) (w : World) (h : version_isDigits.f a0 = some r) :
  Calls Tryd.prog 42 #[.string a0] w fun e w' => e = .returned (.bool r) ∧ Below w.heap.size w w':=by
 have HB:=Aside0.mk (Below.refl w.heap.size w);have H : (if a0.toList = ([] : List UInt8) then (some false) else ((strings_ContainsFunc.f a0).bind fun t101 => (some (!t101)))) = some r:=h;clear h;by_cases c2 : a0.toList = ([] : List UInt8)
 ·rw [if_pos c2] at H
  have c2b0 : (a0.toList == ([] : List UInt8)) = true:=beq_iff_eq.mpr c2;have c2b1 : (a0.toList != ([] : List UInt8)) = false:=bne_eq_false_iff_eq.mpr c2;clear c2;obtain rfl:=Option.some.inj H;go_enter Tryd.func42,Tryd.ntmps42;go_wp2;go_ret;exact ⟨by first|rfl|(simp [errW_none,errW_some] <;> rfl)|(simp [*,errW_none,errW_some] <;> rfl),bel_⟩
 ·rw [if_neg c2] at H
  have c2b0 : (a0.toList == ([] : List UInt8)) = false:=beq_eq_false_iff_ne.mpr c2;have c2b1 : (a0.toList != ([] : List UInt8)) = true:=bne_iff_ne.mpr c2;replace H:=Option.bind_eq_some_iff.mp H;obtain ⟨t101,A30,H⟩:=H;replace H : (some (!t101)) = some r:=H;have A3:=Aside0.mk A30;clear A30;obtain rfl:=Option.some.inj H;go_enter Tryd.func42,Tryd.ntmps42;go_wp2_with (first|(go_at_call 55;(with_reducible refine (strings_ContainsFunc.calls a0 t101 _ A3.out).mono ?_);rintro e w4 ⟨rfl,hb⟩;replace HB:=Aside0.mk (below_step bel_ hb);(try clear hb);(try clear hb2);(try clear hk);(try clear hi)));go_ret;exact ⟨by first|rfl|(simp [errW_none,errW_some] <;> rfl)|(simp [*,errW_none,errW_some] <;> rfl),bel_⟩

end
section
/-! ### version_isCanonical: function 43 -/
def version_isCanonical.f (a0 : ByteArray) : Option (Bool):=if a0.toList = ([48] : List UInt8) then (some true) else (if 0 < (a0.size : Int) then (some ((bt a0 0) != 48)) else (none))
set_option maxHeartbeats 8000000 in
set_option maxRecDepth 100000 in
theorem version_isCanonical.calls (a0 : ByteArray) (r : Bool) (w : World) (h : version_isCanonical.f a0 = some r) :
  Calls Tryd.prog 43 #[.string a0] w fun e w' => e = .returned (.bool r) ∧ Drawn0 w w':=by
 have H : (if a0.toList = ([48] : List UInt8) then (some true) else (if 0 < (a0.size : Int) then (some ((bt a0 0) != 48)) else (none))) = some r:=h;clear h;by_cases c2 : a0.toList = ([48] : List UInt8)
 ·rw [if_pos c2] at H
  have c2b0 : (a0.toList == ([48] : List UInt8)) = true:=beq_iff_eq.mpr c2;have c2b1 : (a0.toList != ([48] : List UInt8)) = false:=bne_eq_false_iff_eq.mpr c2;clear c2;obtain rfl:=Option.some.inj H;go_enter Tryd.func43,Tryd.ntmps43;go_wp2;go_ret;exact ⟨by first|rfl|(simp;done)|(simp only [IntWalk.i64_left];done)|(simp [*];done),by repeat (first|exact Drawn0.refl _|apply Drawn0.step)⟩
 ·rw [if_neg c2] at H
  have c2b0 : (a0.toList == ([48] : List UInt8)) = false:=beq_eq_false_iff_ne.mpr c2;have c2b1 : (a0.toList != ([48] : List UInt8)) = true:=bne_iff_ne.mpr c2;by_cases c3 : 0 < (a0.size : Int)
  ·rw [if_pos c3] at H
   have c3b0 : decide (0 < (a0.size : Int)) = true:=decide_eq_true c3;have c3b1 : decide (0 < a0.size) = true:=decide_eq_true (by omega);clear c3;obtain rfl:=Option.some.inj H;have p4 : 0 ≤ (0 : Int):=(by omega);have q4 : 0 < a0.size:=(by have : (0 : Int) < (a0.size : Int):=of_decide_eq_true as_;omega);have hx4 : ∀ h : 0 < a0.size,((a0[0]'h).toNat : Int) = bt a0 0:=bt_at a0 0;clear p4;have qi4 : (0 < (a0.size : Int)) = True:=eq_true (of_decide_eq_true as_);replace q4:=eq_true q4;go_enter Tryd.func43,Tryd.ntmps43;go_wp2;go_ret;exact ⟨by first|rfl|(simp;done)|(simp only [IntWalk.i64_left];done)|(simp [*];done),by repeat (first|exact Drawn0.refl _|apply Drawn0.step)⟩
  ·rw [if_neg c3] at H
   exact absurd H (by simp)

end
section
/-! ### cmp_Or_int: function 44 -/
def cmp_Or_int.l0 : Nat → Int → List Int → Int → Int → Option (Int)
 | 0,_,_,_,_ => none
 | k + 1,x3,x6,x7,x8 => if x8 < x7 then (if 0 ≤ x8 then (if x8 < (x6.length : Int) then (if (rd x6 x8) = x3 then (cmp_Or_int.l0 k x3 x6 x7 (wrap64 (x8 + 1))) else (some (rd x6 x8))) else (none)) else (none)) else (some x3)
def cmp_Or_int.f (k : Nat) (l0 : List Int) : Option (Int):=cmp_Or_int.l0 k 0 l0 (l0.length : Int) 0
theorem cmp_Or_int.mono_l : ∀ k,(∀ y0 y1 y2 y3,LeO (cmp_Or_int.l0 k y0 y1 y2 y3) (cmp_Or_int.l0 (k + 1) y0 y1 y2 y3))
 | 0 => fun _ _ _ _ r h => by simp [cmp_Or_int.l0] at h
 | k + 1 => by
  have ih0:=cmp_Or_int.mono_l k
  ·intro y0 y1 y2 y3
   unfold cmp_Or_int.l0;repeat' first
   | (with_reducible exact ih0 _ _ _ _)
   | (with_reducible exact LeO.refl _)
   | (with_reducible exact LeO.none _)
   | (with_reducible refine LeO.ite ?_ ?_)
   | (with_reducible refine LeO.bind ?_ (fun _ => ?_))
   | exact ih0 _ _ _ _
   | exact LeO.none _
   | refine LeO.ite ?_ ?_
   | refine LeO.bind ?_ (fun _ => ?_)
theorem cmp_Or_int.mono : ∀ a0 k,LeO (cmp_Or_int.f k a0) (cmp_Or_int.f (k + 1) a0):=by
 intro a0 k;have ih0:=cmp_Or_int.mono_l k;unfold cmp_Or_int.f
 repeat' first
   | (with_reducible exact ih0 _ _ _ _)
   | (with_reducible exact LeO.refl _)
   | (with_reducible exact LeO.none _)
   | (with_reducible refine LeO.ite ?_ ?_)
   | (with_reducible refine LeO.bind ?_ (fun _ => ?_))
   | exact ih0 _ _ _ _
   | exact LeO.none _
   | refine LeO.ite ?_ ?_
   | refine LeO.bind ?_ (fun _ => ?_)
set_option maxHeartbeats 8000000 in
set_option maxRecDepth 100000 in
theorem cmp_Or_int.calls (k : Nat) (A0 : Option Addr) (c0 : Nat) (l0 : List Int) (r : Int) (w : World) (hr0 : Kd.C (Kd.int .i64) w A0 l0.length l0) (hc0 : l0.length ≤ c0) (h : cmp_Or_int.f k l0 = some r) :
  Calls Tryd.prog 44 #[.slice A0 l0.length c0] w fun e w' => e = .returned (.int .i64 r) ∧ Drawn0 w w':=by
 have HR0:=Aside0.mk hr0;have HC0:=Aside0.mk hc0;clear hr0 hc0;have H : (cmp_Or_int.l0 k 0 l0 (l0.length : Int) 0) = some r:=h;clear h;have H':=Aside0.mk H;clear H;go_enter Tryd.func44,Tryd.ntmps44;go_wp2;go_loopg [8] k (fun kq v8 w' => ∃ (x8_1 : Int),v8 = .int .i64 x8_1 ∧ Aside0 (cmp_Or_int.l0 kq 0 l0 (l0.length : Int) x8_1 = some r) ∧ Aside0 (kq ≤ k) ∧ Drawn0 w w')
 case atStart => exact ⟨(0),fr_,H',⟨Nat.le_refl _⟩,by repeat (first|exact Drawn0.refl _|apply Drawn0.step)⟩
 case round =>
  clear H';obtain ⟨x8_1,rfl,HA,HK1,⟨m1,rfl⟩⟩:=hrel;cases gk with
  | zero => exact absurd HA.out (by simp [cmp_Or_int.l0])
  | succ k1 =>
   have H:=HA.out;clear HA;simp only [cmp_Or_int.l0] at H;by_cases c2 : x8_1 < (l0.length : Int)
   ·rw [if_pos c2] at H
    have c2b0 : decide (x8_1 < (l0.length : Int)) = true:=decide_eq_true c2;clear c2;by_cases c3 : 0 ≤ x8_1
    ·rw [if_pos c3] at H
     have c3b0 : decide (0 ≤ x8_1) = true:=decide_eq_true c3;clear c3;by_cases c4 : x8_1 < (l0.length : Int)
     ·rw [if_pos c4] at H
      have c4b0 : decide (x8_1 < (l0.length : Int)) = true:=decide_eq_true c4;clear c4;by_cases c5 : (rd l0 x8_1) = 0
      ·rw [if_pos c5] at H
       have c5b0 : ((rd l0 x8_1) == 0) = true:=beq_iff_eq.mpr c5;have c5b1 : ((rd l0 x8_1) != 0) = false:=bne_eq_false_iff_eq.mpr c5;clear c5;have H':=Aside0.mk H;clear H;have p101 : 0 ≤ (x8_1 : Int):=of_decide_eq_true as_;have q101 : x8_1 < (l0.length : Int):=of_decide_eq_true as_;obtain ⟨ad101,e101,hx101_0⟩:=Kd.at_int HR0.out x8_1 p101 q101;cases e101
       replace p101:=eq_true p101;replace q101:=eq_true q101;go_wp2;go_roundg k1
       case measure => have:=HK1.out;omega
       case rel => exact ⟨(wrap64 (x8_1 + 1)),fr_,H',⟨by have:=HK1.out;omega⟩,by repeat (first|exact Drawn0.refl _|apply Drawn0.step)⟩
      ·rw [if_neg c5] at H
       have c5b0 : ((rd l0 x8_1) == 0) = false:=beq_eq_false_iff_ne.mpr c5;have c5b1 : ((rd l0 x8_1) != 0) = true:=bne_iff_ne.mpr c5;obtain rfl:=Option.some.inj H;have p101 : 0 ≤ (x8_1 : Int):=of_decide_eq_true as_;have q101 : x8_1 < (l0.length : Int):=of_decide_eq_true as_;obtain ⟨ad101,e101,hx101_0⟩:=Kd.at_int HR0.out x8_1 p101 q101;cases e101
       replace p101:=eq_true p101;replace q101:=eq_true q101;go_wp2;go_ret;exact ⟨by first|rfl|(simp;done)|(simp only [IntWalk.i64_left];done)|(simp [*];done),by repeat (first|exact Drawn0.refl _|apply Drawn0.step)⟩
     ·rw [if_neg c4] at H
      exact absurd H (by simp)
    ·rw [if_neg c3] at H
     exact absurd H (by simp)
   ·rw [if_neg c2] at H
    have c2b0 : decide (x8_1 < (l0.length : Int)) = false:=decide_eq_false c2;clear c2;obtain rfl:=Option.some.inj H;go_wp2;go_ret;exact ⟨by first|rfl|(simp;done)|(simp only [IntWalk.i64_left];done)|(simp [*];done),by repeat (first|exact Drawn0.refl _|apply Drawn0.step)⟩

end
section
/-! ### cmp_isNaN_int: function 57 -/
def cmp_isNaN_int.f (a0 : Int) : Option (Bool):=some (a0 != a0)
set_option maxHeartbeats 8000000 in
set_option maxRecDepth 100000 in
theorem cmp_isNaN_int.calls (a0 : Int) (r : Bool) (w : World) (h : cmp_isNaN_int.f a0 = some r) :
  Calls Tryd.prog 57 #[.int .i64 a0] w fun e w' => e = .returned (.bool r) ∧ Drawn0 w w':=by
 have H : (some (a0 != a0)) = some r:=h;clear h;obtain rfl:=Option.some.inj H;go_enter Tryd.func57,Tryd.ntmps57;go_wp2;go_ret;exact ⟨by first|rfl|(simp;done)|(simp only [IntWalk.i64_left];done)|(simp [*];done),by repeat (first|exact Drawn0.refl _|apply Drawn0.step)⟩

end
section
/-! ### version_Clone: function 49 -/
-- IMPORT Derived.Test.@SEAT@VerB
def version_Clone.f (a0_0 : Int) (a0_1 : Int) (a0_2 : Int) (l0_3 : List ByteArray) : Option (Int × Int × Int × List ByteArray):=if l0_3.length ≤ 1000000 then some (a0_0,a0_1,a0_2,l0_3) else none
theorem version_Clone.calls (a0_0 : Int) (a0_1 : Int) (a0_2 : Int) (A0_3 : Option Addr) (c0_3 : Nat) (l0_3 : List ByteArray) (r1 : Int) (r2 : Int) (r3 : Int) (r4 : List ByteArray) (w : World) (hr0_3 : Kd.C Kd.string w A0_3 l0_3.length l0_3) (hc0_3 : l0_3.length ≤ c0_3) (h : version_Clone.f a0_0 a0_1 a0_2 l0_3 = some (r1,r2,r3,r4)) :
  Calls Tryd.prog 49 #[.agg #[.int .i64 a0_0,.int .i64 a0_1,.int .i64 a0_2,.slice A0_3 l0_3.length c0_3]] w fun e w' => ∃ v3_ : Value,e = .returned (.agg #[.int .i64 r1,.int .i64 r2,.int .i64 r3,v3_]) ∧ Kd.R Kd.string 9 w' w.heap.size (fun _ => True) v3_ r4 ∧ Below w.heap.size w w':=by
 unfold version_Clone.f at h;split at h
 ·rename_i hc
  have e:=Option.some.inj h;simp only [Prod.mk.injEq] at e;obtain ⟨rfl,rfl,rfl,rfl⟩:=e;exact clone_calls _ _ _ A0_3 c0_3 _ w hr0_3 hc0_3 hc
 ·cases h

end
section
/-! ### strconv_Itoa: function 50 -/
-- IMPORT Derived.Test.@SEAT@VerA
def strconv_Itoa.f (a0 : Int) : Option ByteArray:=if 0 ≤ a0 ∧ a0 ≤ 9223372036854775807 then some (decS a0.toNat) else none
theorem strconv_Itoa.calls (a0 : Int) (r : ByteArray) (w : World) (h : strconv_Itoa.f a0 = some r) (HL : Aside0 (LibOk w)) :
  Calls Tryd.prog 50 #[.int .i64 a0] w fun e w' => e = .returned (.string r) ∧ Below w.heap.size w w':=by
 unfold strconv_Itoa.f at h;split at h
 ·rename_i hc
  rw [← Option.some.inj h];exact itoa_calls a0 hc.1 hc.2 w HL.out
 ·cases h

end
section
/-! ### strings_Join: function 51 -/
-- IMPORT Derived.Test.@SEAT@VerA
def strings_Join.f (l0 : List ByteArray) (a1 : ByteArray) : Option ByteArray:=if l0.length ≤ 1000000 ∧ (joinL a1.data.toList (l0.map (·.data.toList))).length ≤ 140737488355328 then some ⟨(joinL a1.data.toList (l0.map (·.data.toList))).toArray⟩ else none
theorem strings_Join.calls (A0 : Option Addr) (c0 : Nat) (l0 : List ByteArray) (a1 : ByteArray) (r : ByteArray) (w : World) (hr0 : Kd.C Kd.string w A0 l0.length l0) (hc0 : l0.length ≤ c0) (h : strings_Join.f l0 a1 = some r) :
  Calls Tryd.prog 51 #[.slice A0 l0.length c0,.string a1] w fun e w' => e = .returned (.string r) ∧ Below w.heap.size w w':=by
 unfold strings_Join.f at h;split at h
 ·rename_i hc
  rw [← Option.some.inj h];exact join_calls A0 c0 l0 a1 w hr0 hc0 hc.1 hc.2
 ·cases h

end
section
/-! ### changeforgelaw5_ver: function 24 -/
def changeforgelaw5_ver.f (a0 : Int) (a1 : Int) (a2 : Int) : Option (Int × Int × Int × List ByteArray):=some (a0,a1,a2,([] : List ByteArray))
set_option maxHeartbeats 8000000 in
set_option maxRecDepth 100000 in
theorem changeforgelaw5_ver.calls (a0 : Int) (a1 : Int) (a2 : Int) (r1 : Int) (r2 : Int) (r3 : Int) (r4 : List ByteArray) (w : World) (h : changeforgelaw5_ver.f a0 a1 a2 = some (r1,r2,r3,r4)) :
  Calls Tryd.prog 24 #[.int .i64 a0,.int .i64 a1,.int .i64 a2] w fun e w' => ∃ v3_ : Value,e = .returned (.agg #[.int .i64 r1,.int .i64 r2,.int .i64 r3,v3_]) ∧ Kd.R Kd.string 9 w' w.heap.size (fun _ => True) v3_ r4 ∧ Below w.heap.size w w':=by
 have hu24:=Tryd.underlying24;have HB:=Aside0.mk (Below.refl w.heap.size w);have H : (some (a0,a1,a2,([] : List ByteArray))) = some (r1,r2,r3,r4):=h;clear h;simp only [Option.some.injEq,Prod.mk.injEq] at H;obtain ⟨rfl,rfl,rfl,rfl⟩:=H;go_enter Tryd.func24,Tryd.ntmps24;go_wp2_with (first|((with_reducible refine gate_dst (N:=6) rfl ?_);refine box_event ?hg (N:=6) ?hd (cs:=#[.int .i64 0,.int .i64 0,.int .i64 0,.slice none 0 0]) (t:=24) ?hr ?_;(case hd => rfl);(case hg => rfl);(case hr => first|(go_simp;done)|(go_simp;rfl));intro gb101 hg w4 hbox hb;have BK101:=Aside0.mk (hbox);have GW101:=Aside0.mk ((bs_ : w.heap.size ≤ gb101));have GE101:=Aside0.mk ((bs_ : w.heap.size ≤ gb101));replace HB:=Aside0.mk (below_step bel_ hb);clear hb hbox hg;have hcz5_0:=blk_c (v:=.int .i64 0) BK101.out 0 rfl;have hcz5_1:=blk_c (v:=.int .i64 0) BK101.out 1 rfl;have hcz5_2:=blk_c (v:=.int .i64 0) BK101.out 2 rfl;have hcz5_3:=blk_c (v:=.slice none 0 0) BK101.out 3 rfl;have hfz5_0:=blk_frozen BK101.out 0;have hfz5_1:=blk_frozen BK101.out 1;have hfz5_2:=blk_frozen BK101.out 2;have hfz5_3:=blk_frozen BK101.out 3));refine bodyPost_ret (results_cell_row rfl _ _ gb101 24 #[.int .i64 a0,.int .i64 a1,.int .i64 a2,.slice none 0 0] (0,0) _ rfl (by refine blk_mv ?_;refine blk_put (cs:=#[.int .i64 a0,.int .i64 a1,.int .i64 a2,.slice none 0 0]) ?_ 3 _ rfl;refine blk_mv ?_;refine blk_put (cs:=#[.int .i64 a0,.int .i64 a1,.int .i64 0,.slice none 0 0]) ?_ 2 _ rfl;refine blk_mv ?_;refine blk_put (cs:=#[.int .i64 a0,.int .i64 0,.int .i64 0,.slice none 0 0]) ?_ 1 _ rfl;refine blk_mv ?_;refine blk_put (cs:=#[.int .i64 0,.int .i64 0,.int .i64 0,.slice none 0 0]) ?_ 0 _ rfl;refine blk_mv ?_;exact BK101.out) Tryd.underlying24 rfl (by kernel_rfl)) rfl ?_;exact ⟨_,by first|rfl|(simp [errW_none,errW_some] <;> rfl)|(simp [*,errW_none,errW_some] <;> rfl),by first|exact Kd.R_nil _ _ _ _ _|exact Kd.N_nil _ _ _ _ _|exact Kd.V_nil _ _ _ _ _|exact Kd.Q_nil _ _ _ _ _|exact Kd.S_nil _ _ _ _ _,bel_⟩

end
section
/-! ### changeforgelaw5_pre: function 25 -/
def changeforgelaw5_pre.f (a0 : Int) (a1 : Int) (a2 : Int) (a3 : ByteArray) : Option (Int × Int × Int × List ByteArray):=some (a0,a1,a2,(([a3] : List ByteArray)))
set_option maxHeartbeats 8000000 in
set_option maxRecDepth 100000 in
theorem changeforgelaw5_pre.calls (a0 : Int) (a1 : Int) (a2 : Int) (a3 : ByteArray) (r1 : Int) (r2 : Int) (r3 : Int) (r4 : List ByteArray) (w : World) (h : changeforgelaw5_pre.f a0 a1 a2 a3 = some (r1,r2,r3,r4)) :
  Calls Tryd.prog 25 #[.int .i64 a0,.int .i64 a1,.int .i64 a2,.string a3] w fun e w' => ∃ v3_ : Value,e = .returned (.agg #[.int .i64 r1,.int .i64 r2,.int .i64 r3,v3_]) ∧ Kd.R Kd.string 9 w' w.heap.size (fun _ => True) v3_ r4 ∧ Below w.heap.size w w':=by
 have hu24:=Tryd.underlying24;have HB:=Aside0.mk (Below.refl w.heap.size w);have H : (some (a0,a1,a2,(([a3] : List ByteArray)))) = some (r1,r2,r3,r4):=h;clear h;obtain ⟨y102,hy102⟩ : ∃ y_ : List ByteArray,y_ = (([a3] : List ByteArray)):=⟨_,rfl⟩;replace H : (some (a0,a1,a2,y102)) = some (r1,r2,r3,r4):=by first|(rw [hy102];with_reducible exact H)|(have H2_:=(Option.bind_some _ _).symm.trans H;rw [hy102];with_reducible exact H2_)|(have H2_:=(Option.bind_some _ _).symm.trans H;with_reducible exact H2_)|with_reducible exact H|(rw [hy102];exact H)|exact H
 have Ny102:=Aside0.mk hy102;clear hy102;simp only [Option.some.injEq,Prod.mk.injEq] at H;obtain ⟨rfl,rfl,rfl,rfl⟩:=H;go_enter Tryd.func25,Tryd.ntmps25;go_wp2_with (first|((with_reducible refine gate_dst (N:=8) rfl ?_);refine box_event ?hg (N:=8) ?hd (cs:=#[.int .i64 0,.int .i64 0,.int .i64 0,.slice none 0 0]) (t:=24) ?hr ?_;(case hd => rfl);(case hg => rfl);(case hr => first|(go_simp;done)|(go_simp;rfl));intro gb101 hg w5 hbox hb;have BK101:=Aside0.mk (hbox);have GW101:=Aside0.mk ((bs_ : w.heap.size ≤ gb101));have GE101:=Aside0.mk ((bs_ : w.heap.size ≤ gb101));replace HB:=Aside0.mk (below_step bel_ hb);clear hb hbox hg)|((with_reducible refine gate_dst (N:=13) rfl ?_);refine Kd.R_lit Kd.string _ 9 ?hg (N:=13) ?hd (xs:=([a3] : List ByteArray)) (inner:=[.string a3]) (ok:=fun _ => True) (okp:=fun _ => True) ?hr ?hp (fun _ hk => hk) trivial (Below.refl _ _) (Nat.le_refl _) (by simp) ?_;(case hd => rfl);(case hg => rfl);(case hr => first|(go_simp;done)|(go_simp;rfl));(case hp => exact (Reps.one (show Kd.M Kd.string _ _ _ a3 [.string a3] from rfl) (Reps.none _ _)));intro v103 w6 ho7 hb hg_ hnew_;clear hg_ hnew_;(first|rw [← Ny102.out] at ho7|(simp only [Int.reduceToNat] at ho7;rw [← Ny102.out] at ho7));have HO104:=Aside0.mk (Kd.R_lower ho7 (below_size bel_));replace BK101:=Aside0.mk (blk_below (blk_mv BK101.out) hb);replace HB:=Aside0.mk (below_step bel_ hb);clear hb ho7;obtain ⟨Ao8,co8,eo8⟩:=Kd.R_slice HO104.out;subst eo8;have hcz9_0:=blk_c (v:=.int .i64 0) BK101.out 0 rfl;have hcz9_1:=blk_c (v:=.int .i64 0) BK101.out 1 rfl;have hcz9_2:=blk_c (v:=.int .i64 0) BK101.out 2 rfl;have hcz9_3:=blk_c (v:=.slice none 0 0) BK101.out 3 rfl;have hfz9_0:=blk_frozen BK101.out 0;have hfz9_1:=blk_frozen BK101.out 1;have hfz9_2:=blk_frozen BK101.out 2;have hfz9_3:=blk_frozen BK101.out 3));refine bodyPost_ret (results_cell_row rfl _ _ gb101 24 #[.int .i64 a0,.int .i64 a1,.int .i64 a2,.slice Ao8 y102.length co8] (0,0) _ rfl (by refine blk_mv ?_;refine blk_put (cs:=#[.int .i64 a0,.int .i64 a1,.int .i64 a2,.slice none 0 0]) ?_ 3 _ rfl;refine blk_mv ?_;refine blk_put (cs:=#[.int .i64 a0,.int .i64 a1,.int .i64 0,.slice none 0 0]) ?_ 2 _ rfl;refine blk_mv ?_;refine blk_put (cs:=#[.int .i64 a0,.int .i64 0,.int .i64 0,.slice none 0 0]) ?_ 1 _ rfl;refine blk_mv ?_;refine blk_put (cs:=#[.int .i64 0,.int .i64 0,.int .i64 0,.slice none 0 0]) ?_ 0 _ rfl;refine blk_mv ?_;exact BK101.out) Tryd.underlying24 rfl (by kernel_rfl)) rfl ?_;exact ⟨_,by first|rfl|(simp [errW_none,errW_some] <;> rfl)|(simp [*,errW_none,errW_some] <;> rfl),by (with_reducible repeat (first|apply Kd.R_alloc|apply Kd.R_drewN|apply Kd.R_drew));exact Kd.R_mono (Kd.R_far (p:=⟨gb101,3,none⟩) (Kd.R_far (p:=⟨gb101,2,none⟩) (Kd.R_far (p:=⟨gb101,1,none⟩) (Kd.R_far (p:=⟨gb101,0,none⟩) (Kd.R_types HO104.out BK101.out (by decide)) (fun _ hk => hk.2) (.int .i64 a0)) (fun _ hk => hk.2) (.int .i64 a1)) (fun _ hk => hk.2) (.int .i64 a2)) (fun _ hk => hk.2) (.slice Ao8 y102.length co8)) (fun _ hk => trivial),bel_⟩

end
section
/-! ### changeforgeref5_in: function 26 -/
def changeforgeref5_in.f (a0 : Int) (a1 : Int) (a2 : Int) : Option (Bool):=if a0 ≥ a1 then (some (decide (a0 ≤ a2))) else (some false)
set_option maxHeartbeats 8000000 in
set_option maxRecDepth 100000 in
theorem changeforgeref5_in.calls (a0 : Int) (a1 : Int) (a2 : Int) (r : Bool) (w : World) (h : changeforgeref5_in.f a0 a1 a2 = some r) :
  Calls Tryd.prog 26 #[.int .i64 a0,.int .i64 a1,.int .i64 a2] w fun e w' => e = .returned (.bool r) ∧ Drawn0 w w':=by
 have H : (if a0 ≥ a1 then (some (decide (a0 ≤ a2))) else (some false)) = some r:=h;clear h;by_cases c4 : a0 ≥ a1
 ·rw [if_pos c4] at H
  have c4b0 : decide (a1 ≤ a0) = true:=decide_eq_true c4;clear c4;obtain rfl:=Option.some.inj H;go_enter Tryd.func26,Tryd.ntmps26;go_wp2;go_ret;exact ⟨by first|rfl|(simp;done)|(simp only [IntWalk.i64_left];done)|(simp [*];done),by repeat (first|exact Drawn0.refl _|apply Drawn0.step)⟩
 ·rw [if_neg c4] at H
  have c4b0 : decide (a1 ≤ a0) = false:=decide_eq_false c4;clear c4;obtain rfl:=Option.some.inj H;go_enter Tryd.func26,Tryd.ntmps26;go_wp2;go_ret;exact ⟨by first|rfl|(simp;done)|(simp only [IntWalk.i64_left];done)|(simp [*];done),by repeat (first|exact Drawn0.refl _|apply Drawn0.step)⟩

end
section
/-! ### changeforgeref5_fault: function 27 -/
def changeforgeref5_fault.f (a0 : Int) (a1 : Int) : Option (Int × Int):=some (a0,a1)
set_option maxHeartbeats 8000000 in
set_option maxRecDepth 100000 in
theorem changeforgeref5_fault.calls (a0 : Int) (a1 : Int) (r1 : Int) (r2 : Int) (w : World) (h : changeforgeref5_fault.f a0 a1 = some (r1,r2)) :
  Calls Tryd.prog 27 #[.int .i64 a0,.int .i64 a1] w fun e w' => e = .returned (.agg #[.int .i64 r1,.int .i64 r2]) ∧ Below w.heap.size w w':=by
 have hu27:=Tryd.underlying27;have HB:=Aside0.mk (Below.refl w.heap.size w);have H : (some (a0,a1)) = some (r1,r2):=h;clear h;simp only [Option.some.injEq,Prod.mk.injEq] at H;obtain ⟨rfl,rfl⟩:=H;go_enter Tryd.func27,Tryd.ntmps27;go_wp2_with (first|((with_reducible refine gate_dst (N:=4) rfl ?_);refine box_event ?hg (N:=4) ?hd (cs:=#[.int .i64 0,.int .i64 0]) (t:=27) ?hr ?_;(case hd => rfl);(case hg => rfl);(case hr => first|(go_simp;done)|(go_simp;rfl));intro gb101 hg w3 hbox hb;have BK101:=Aside0.mk (hbox);have GW101:=Aside0.mk ((bs_ : w.heap.size ≤ gb101));have GE101:=Aside0.mk ((bs_ : w.heap.size ≤ gb101));replace HB:=Aside0.mk (below_step bel_ hb);clear hb hbox hg;have hcz4_0:=blk_c (v:=.int .i64 0) BK101.out 0 rfl;have hcz4_1:=blk_c (v:=.int .i64 0) BK101.out 1 rfl;have hfz4_0:=blk_frozen BK101.out 0;have hfz4_1:=blk_frozen BK101.out 1));refine bodyPost_ret (results_cell_row rfl _ _ gb101 27 #[.int .i64 a0,.int .i64 a1] (0,0) _ rfl (by refine blk_mv ?_;refine blk_put (cs:=#[.int .i64 a0,.int .i64 0]) ?_ 1 _ rfl;refine blk_mv ?_;refine blk_put (cs:=#[.int .i64 0,.int .i64 0]) ?_ 0 _ rfl;refine blk_mv ?_;exact BK101.out) Tryd.underlying27 rfl (by kernel_rfl)) rfl ?_;exact ⟨by first|rfl|(simp [errW_none,errW_some] <;> rfl)|(simp [*,errW_none,errW_some] <;> rfl),bel_⟩

end
section
/-! ### changeforgeref5_Numeric: function 41 -/
def changeforgeref5_Numeric.l0 : Nat → ByteArray → Int → Option (Bool)
 | 0,_,_ => none
 | k + 1,x0,x3 => if x3 < (x0.size : Int) then (if 0 ≤ x3 then (if (bt x0 x3) < 48 then (some false) else (if (bt x0 x3) > 57 then (some false) else (changeforgeref5_Numeric.l0 k x0 (wrap64 (x3 + 1))))) else (none)) else (some (decide ((x0.size : Int) > 0)))
def changeforgeref5_Numeric.f (k : Nat) (a0 : ByteArray) : Option (Bool):=changeforgeref5_Numeric.l0 k a0 0
theorem changeforgeref5_Numeric.mono_l : ∀ k,(∀ y0 y1,LeO (changeforgeref5_Numeric.l0 k y0 y1) (changeforgeref5_Numeric.l0 (k + 1) y0 y1))
 | 0 => fun _ _ r h => by simp [changeforgeref5_Numeric.l0] at h
 | k + 1 => by
  have ih0:=changeforgeref5_Numeric.mono_l k
  ·intro y0 y1
   unfold changeforgeref5_Numeric.l0;repeat' first
   | (with_reducible exact ih0 _ _)
   | (with_reducible exact LeO.refl _)
   | (with_reducible exact LeO.none _)
   | (with_reducible refine LeO.ite ?_ ?_)
   | (with_reducible refine LeO.bind ?_ (fun _ => ?_))
   | exact ih0 _ _
   | exact LeO.none _
   | refine LeO.ite ?_ ?_
   | refine LeO.bind ?_ (fun _ => ?_)
theorem changeforgeref5_Numeric.mono : ∀ a0 k,LeO (changeforgeref5_Numeric.f k a0) (changeforgeref5_Numeric.f (k + 1) a0):=by
 intro a0 k;have ih0:=changeforgeref5_Numeric.mono_l k;unfold changeforgeref5_Numeric.f
 repeat' first
   | (with_reducible exact ih0 _ _)
   | (with_reducible exact LeO.refl _)
   | (with_reducible exact LeO.none _)
   | (with_reducible refine LeO.ite ?_ ?_)
   | (with_reducible refine LeO.bind ?_ (fun _ => ?_))
   | exact ih0 _ _
   | exact LeO.none _
   | refine LeO.ite ?_ ?_
   | refine LeO.bind ?_ (fun _ => ?_)
set_option maxHeartbeats 8000000 in
set_option maxRecDepth 100000 in
theorem changeforgeref5_Numeric.calls (k : Nat) (a0 : ByteArray) (r : Bool) (w : World) (h : changeforgeref5_Numeric.f k a0 = some r) :
  Calls Tryd.prog 41 #[.string a0] w fun e w' => e = .returned (.bool r) ∧ Drawn0 w w':=by
 have H : (changeforgeref5_Numeric.l0 k a0 0) = some r:=h;clear h;have H':=Aside0.mk H;clear H;go_enter Tryd.func41,Tryd.ntmps41;go_wp2;go_loopg [3] k (fun kq v3 w' => ∃ (x3_1 : Int),v3 = .int .i64 x3_1 ∧ Aside0 (changeforgeref5_Numeric.l0 kq a0 x3_1 = some r) ∧ Aside0 (kq ≤ k) ∧ Drawn0 w w')
 case atStart => exact ⟨(0),fr_,H',⟨Nat.le_refl _⟩,by repeat (first|exact Drawn0.refl _|apply Drawn0.step)⟩
 case round =>
  clear H';obtain ⟨x3_1,rfl,HA,HK1,⟨m1,rfl⟩⟩:=hrel;cases gk with
  | zero => exact absurd HA.out (by simp [changeforgeref5_Numeric.l0])
  | succ k1 =>
   have H:=HA.out;clear HA;simp only [changeforgeref5_Numeric.l0] at H;by_cases c2 : x3_1 < (a0.size : Int)
   ·rw [if_pos c2] at H
    have c2b0 : decide (x3_1 < (a0.size : Int)) = true:=decide_eq_true c2;clear c2;by_cases c3 : 0 ≤ x3_1
    ·rw [if_pos c3] at H
     have c3b0 : decide (0 ≤ x3_1) = true:=decide_eq_true c3;clear c3;by_cases c5 : (bt a0 x3_1) < 48
     ·rw [if_pos c5] at H
      have c5b0 : decide ((bt a0 x3_1) < 48) = true:=decide_eq_true c5;clear c5;obtain rfl:=Option.some.inj H;have p4 : 0 ≤ (x3_1 : Int):=of_decide_eq_true as_;have q4 : x3_1 < (a0.size : Int):=of_decide_eq_true as_;have hx4:=bt_at a0 x3_1;replace p4:=eq_true p4;replace q4:=eq_true q4;go_wp2;go_ret;exact ⟨by first|rfl|(simp;done)|(simp only [IntWalk.i64_left];done)|(simp [*];done),by repeat (first|exact Drawn0.refl _|apply Drawn0.step)⟩
     ·rw [if_neg c5] at H
      have c5b0 : decide ((bt a0 x3_1) < 48) = false:=decide_eq_false c5;clear c5;by_cases c7 : (bt a0 x3_1) > 57
      ·rw [if_pos c7] at H
       have c7b0 : decide (57 < (bt a0 x3_1)) = true:=decide_eq_true c7;clear c7;obtain rfl:=Option.some.inj H;have p4 : 0 ≤ (x3_1 : Int):=of_decide_eq_true as_;have q4 : x3_1 < (a0.size : Int):=of_decide_eq_true as_;have hx4:=bt_at a0 x3_1;replace p4:=eq_true p4;replace q4:=eq_true q4;have p6 : 0 ≤ (x3_1 : Int):=of_decide_eq_true as_;have q6 : x3_1 < (a0.size : Int):=of_decide_eq_true as_;have hx6:=bt_at a0 x3_1;replace p6:=eq_true p6;replace q6:=eq_true q6;go_wp2;go_ret;exact ⟨by first|rfl|(simp;done)|(simp only [IntWalk.i64_left];done)|(simp [*];done),by repeat (first|exact Drawn0.refl _|apply Drawn0.step)⟩
      ·rw [if_neg c7] at H
       have c7b0 : decide (57 < (bt a0 x3_1)) = false:=decide_eq_false c7;clear c7;have H':=Aside0.mk H;clear H;have p4 : 0 ≤ (x3_1 : Int):=of_decide_eq_true as_;have q4 : x3_1 < (a0.size : Int):=of_decide_eq_true as_;have hx4:=bt_at a0 x3_1;replace p4:=eq_true p4;replace q4:=eq_true q4;have p6 : 0 ≤ (x3_1 : Int):=of_decide_eq_true as_;have q6 : x3_1 < (a0.size : Int):=of_decide_eq_true as_;have hx6:=bt_at a0 x3_1;replace p6:=eq_true p6;replace q6:=eq_true q6;go_wp2;go_roundg k1
       case measure => have:=HK1.out;omega
       case rel => exact ⟨(wrap64 (x3_1 + 1)),fr_,H',⟨by have:=HK1.out;omega⟩,by repeat (first|exact Drawn0.refl _|apply Drawn0.step)⟩
    ·rw [if_neg c3] at H
     exact absurd H (by simp)
   ·rw [if_neg c2] at H
    have c2b0 : decide (x3_1 < (a0.size : Int)) = false:=decide_eq_false c2;clear c2;obtain rfl:=Option.some.inj H;go_wp2;go_ret;exact ⟨by first|rfl|(simp;done)|(simp only [IntWalk.i64_left];done)|(simp [*];done),by repeat (first|exact Drawn0.refl _|apply Drawn0.step)⟩

end
section
/-! ### changeforgeref5_Sign3: function 31 -/
def changeforgeref5_Sign3.f (a0 : Int) (a1 : Int) : Option (Int):=if a0 < a1 then (some (-1)) else (if a0 > a1 then (some 1) else (some 0))
set_option maxHeartbeats 8000000 in
set_option maxRecDepth 100000 in
theorem changeforgeref5_Sign3.calls (a0 : Int) (a1 : Int) (r : Int) (w : World) (h : changeforgeref5_Sign3.f a0 a1 = some r) :
  Calls Tryd.prog 31 #[.int .i64 a0,.int .i64 a1] w fun e w' => e = .returned (.int .i64 r) ∧ Drawn0 w w':=by
 have H : (if a0 < a1 then (some (-1)) else (if a0 > a1 then (some 1) else (some 0))) = some r:=h;clear h;by_cases c3 : a0 < a1
 ·rw [if_pos c3] at H
  have c3b0 : decide (a0 < a1) = true:=decide_eq_true c3;clear c3;obtain rfl:=Option.some.inj H;go_enter Tryd.func31,Tryd.ntmps31;go_wp2;go_ret;exact ⟨by first|rfl|(simp;done)|(simp only [IntWalk.i64_left];done)|(simp [*];done),by repeat (first|exact Drawn0.refl _|apply Drawn0.step)⟩
 ·rw [if_neg c3] at H
  have c3b0 : decide (a0 < a1) = false:=decide_eq_false c3;clear c3;by_cases c4 : a0 > a1
  ·rw [if_pos c4] at H
   have c4b0 : decide (a1 < a0) = true:=decide_eq_true c4;clear c4;obtain rfl:=Option.some.inj H;go_enter Tryd.func31,Tryd.ntmps31;go_wp2;go_ret;exact ⟨by first|rfl|(simp;done)|(simp only [IntWalk.i64_left];done)|(simp [*];done),by repeat (first|exact Drawn0.refl _|apply Drawn0.step)⟩
  ·rw [if_neg c4] at H
   have c4b0 : decide (a1 < a0) = false:=decide_eq_false c4;clear c4;obtain rfl:=Option.some.inj H;go_enter Tryd.func31,Tryd.ntmps31;go_wp2;go_ret;exact ⟨by first|rfl|(simp;done)|(simp only [IntWalk.i64_left];done)|(simp [*];done),by repeat (first|exact Drawn0.refl _|apply Drawn0.step)⟩

end
section
/-! ### changeforgeref5_value: function 48 -/
def changeforgeref5_value.l0 : Nat → ByteArray → Int → Int → Option (Int)
 | 0,_,_,_ => none
 | k + 1,x0,x3,x4 => if x4 < (x0.size : Int) then (if 0 ≤ x4 then (changeforgeref5_value.l0 k x0 (wrap64 ((wrap64 (10 * x3)) + (((bt x0 x4) - 48) % 256))) (wrap64 (x4 + 1))) else (none)) else (some x3)
def changeforgeref5_value.f (k : Nat) (a0 : ByteArray) : Option (Int):=changeforgeref5_value.l0 k a0 0 0
theorem changeforgeref5_value.mono_l : ∀ k,(∀ y0 y1 y2,LeO (changeforgeref5_value.l0 k y0 y1 y2) (changeforgeref5_value.l0 (k + 1) y0 y1 y2))
 | 0 => fun _ _ _ r h => by simp [changeforgeref5_value.l0] at h
 | k + 1 => by
  have ih0:=changeforgeref5_value.mono_l k
  ·intro y0 y1 y2
   unfold changeforgeref5_value.l0;repeat' first
   | (with_reducible exact ih0 _ _ _)
   | (with_reducible exact LeO.refl _)
   | (with_reducible exact LeO.none _)
   | (with_reducible refine LeO.ite ?_ ?_)
   | (with_reducible refine LeO.bind ?_ (fun _ => ?_))
   | exact ih0 _ _ _
   | exact LeO.none _
   | refine LeO.ite ?_ ?_
   | refine LeO.bind ?_ (fun _ => ?_)
theorem changeforgeref5_value.mono : ∀ a0 k,LeO (changeforgeref5_value.f k a0) (changeforgeref5_value.f (k + 1) a0):=by
 intro a0 k;have ih0:=changeforgeref5_value.mono_l k;unfold changeforgeref5_value.f
 repeat' first
   | (with_reducible exact ih0 _ _ _)
   | (with_reducible exact LeO.refl _)
   | (with_reducible exact LeO.none _)
   | (with_reducible refine LeO.ite ?_ ?_)
   | (with_reducible refine LeO.bind ?_ (fun _ => ?_))
   | exact ih0 _ _ _
   | exact LeO.none _
   | refine LeO.ite ?_ ?_
   | refine LeO.bind ?_ (fun _ => ?_)
set_option maxHeartbeats 8000000 in
set_option maxRecDepth 100000 in
theorem changeforgeref5_value.calls (k : Nat) (a0 : ByteArray) (r : Int) (w : World) (h : changeforgeref5_value.f k a0 = some r) :
  Calls Tryd.prog 48 #[.string a0] w fun e w' => e = .returned (.int .i64 r) ∧ Drawn0 w w':=by
 have H : (changeforgeref5_value.l0 k a0 0 0) = some r:=h;clear h;have H':=Aside0.mk H;clear H;go_enter Tryd.func48,Tryd.ntmps48;go_wp2;go_loopg [3,4] k (fun kq v3 v4 w' => ∃ (x3_1 : Int) (x4_1 : Int),v3 = .int .i64 x3_1 ∧ v4 = .int .i64 x4_1 ∧ Aside0 (changeforgeref5_value.l0 kq a0 x3_1 x4_1 = some r) ∧ Aside0 (kq ≤ k) ∧ Drawn0 w w')
 case atStart => exact ⟨(0),(0),fr_,fr_,H',⟨Nat.le_refl _⟩,by repeat (first|exact Drawn0.refl _|apply Drawn0.step)⟩
 case round =>
  clear H';obtain ⟨x3_1,x4_1,rfl,rfl,HA,HK1,⟨m1,rfl⟩⟩:=hrel;cases gk with
  | zero => exact absurd HA.out (by simp [changeforgeref5_value.l0])
  | succ k1 =>
   have H:=HA.out;clear HA;simp only [changeforgeref5_value.l0] at H;by_cases c2 : x4_1 < (a0.size : Int)
   ·rw [if_pos c2] at H
    have c2b0 : decide (x4_1 < (a0.size : Int)) = true:=decide_eq_true c2;clear c2;by_cases c3 : 0 ≤ x4_1
    ·rw [if_pos c3] at H
     have c3b0 : decide (0 ≤ x4_1) = true:=decide_eq_true c3;clear c3;have H':=Aside0.mk H;clear H;have p4 : 0 ≤ (x4_1 : Int):=of_decide_eq_true as_;have q4 : x4_1 < (a0.size : Int):=of_decide_eq_true as_;have hx4:=bt_at a0 x4_1;replace p4:=eq_true p4;replace q4:=eq_true q4;go_wp2;go_roundg k1
     case measure => have:=HK1.out;omega
     case rel => exact ⟨(wrap64 ((wrap64 (10 * x3_1)) + (((bt a0 x4_1) - 48) % 256))),(wrap64 (x4_1 + 1)),fr_,fr_,H',⟨by have:=HK1.out;omega⟩,by repeat (first|exact Drawn0.refl _|apply Drawn0.step)⟩
    ·rw [if_neg c3] at H
     exact absurd H (by simp)
   ·rw [if_neg c2] at H
    have c2b0 : decide (x4_1 < (a0.size : Int)) = false:=decide_eq_false c2;clear c2;obtain rfl:=Option.some.inj H;go_wp2;go_ret;exact ⟨by first|rfl|(simp;done)|(simp only [IntWalk.i64_left];done)|(simp [*];done),by repeat (first|exact Drawn0.refl _|apply Drawn0.step)⟩

end
section
/-! ### changeforgelaw5_in: function 23 -/
def changeforgelaw5_in.f (a0 : Int) (a1 : Int) (a2 : Int) : Option (Bool):=if a0 ≥ a1 then (some (decide (a0 ≤ a2))) else (some false)
set_option maxHeartbeats 8000000 in
set_option maxRecDepth 100000 in
theorem changeforgelaw5_in.calls (a0 : Int) (a1 : Int) (a2 : Int) (r : Bool) (w : World) (h : changeforgelaw5_in.f a0 a1 a2 = some r) :
  Calls Tryd.prog 23 #[.int .i64 a0,.int .i64 a1,.int .i64 a2] w fun e w' => e = .returned (.bool r) ∧ Drawn0 w w':=by
 have H : (if a0 ≥ a1 then (some (decide (a0 ≤ a2))) else (some false)) = some r:=h;clear h;by_cases c4 : a0 ≥ a1
 ·rw [if_pos c4] at H
  have c4b0 : decide (a1 ≤ a0) = true:=decide_eq_true c4;clear c4;obtain rfl:=Option.some.inj H;go_enter Tryd.func23,Tryd.ntmps23;go_wp2;go_ret;exact ⟨by first|rfl|(simp;done)|(simp only [IntWalk.i64_left];done)|(simp [*];done),by repeat (first|exact Drawn0.refl _|apply Drawn0.step)⟩
 ·rw [if_neg c4] at H
  have c4b0 : decide (a1 ≤ a0) = false:=decide_eq_false c4;clear c4;obtain rfl:=Option.some.inj H;go_enter Tryd.func23,Tryd.ntmps23;go_wp2;go_ret;exact ⟨by first|rfl|(simp;done)|(simp only [IntWalk.i64_left];done)|(simp [*];done),by repeat (first|exact Drawn0.refl _|apply Drawn0.step)⟩

end
end Go.Proofs.YtggdbafmpmfmcaaDoor.Fn
