/- A function of the program as a plain Lean function, and the proof that the call comes to just what it says (written by wip/tools/xprint.py for this claim). Condition: the plain function has an answer. -/
import Derived.Test.YtdelkdlegokbjaaFn0
import Derived.Test.YtdelkdlegokbjaaWA
import Derived.Test.YtdelkdlegokbjaaShelf
import Derived.Test.YtdelkdlegokbjaaTight
namespace Go.Proofs.Ytdelkdlegokbjaa.Fn
open Go.RowKit Go.Proofs.YtdelkdlegokbjaaW.PrintWords Go.Proofs.YtdelkdlegokbjaaW.PrintLast Go.Proofs.YtdelkdlegokbjaaW.PrintMore
attribute [local go_sem] max2_int min2_int max_two min_two max_three min_three max_four min_four   -- for this text's walks alone
set_option linter.unusedVariables false
set_option linter.unusedSimpArgs false

section
theorem eqA27 (d : Nat) (w : World) (x0 y0 : Int) (x1 y1 : Int) :
  (Op.equalIn (d + 2) 27 (.agg #[.int .i64 x0,.int .i64 x1]) (.agg #[.int .i64 y0,.int .i64 y1])).run Try.prog w = .ok (x0 == y0 && (x1 == y1)) w:=by
 refine eqA_of Try.underlying27 (by kernel_rfl) ?_;refine eqf_cons (by rfl) (by go_simp;rfl) (by go_simp;rfl) (by go_simp) ?_;exact eqf_last (by rfl) (by go_simp;rfl) (by go_simp;rfl) (by go_simp)
end
section
/-! ### roles_Validate_c1: function 26 -/
def roles_Validate_c1.f (a0 : Int) (a1 : Int) : Option (Int × Int):=some (a0,a1)
set_option maxHeartbeats 800000 in
theorem roles_Validate_c1.calls (a0 : Int) (a1 : Int) (r1 : Int) (r2 : Int) (w : World) {p : Addr} (hc : w.cell? p = some (.int .i64 a1)) (h : roles_Validate_c1.f a0 a1 = some (r1,r2)) :
  Calls Try.prog 26 #[.int .i64 a0,.pointer (some p)] w fun e w' => e = .returned (.agg #[.int .i64 r1,.int .i64 r2]) ∧ Below w.heap.size w w':=by
 have hu:=Try.underlying27;have h2:=Option.some.inj h;injection h2 with e1 e2;subst e1 e2;clear h;have hcc : ∀ o : Obj,(w.alloc o).cell? p = some (.int .i64 a1):=fun o => pw_cell_below (below_alloc (Below.refl _ _) o) hc;go_enter Try.func26,Try.ntmps26;go_wp2_with fail
 have hb : (w.alloc (Obj.cells #[Value.int .i64 a0,Value.int .i64 a1] 27)).heap[w.heap.size]? = some (.cells #[.int .i64 a0,.int .i64 a1] 27 (0,0)):=by
  show (w.heap.push _)[w.heap.size]? = _;simp
 refine bodyPost_ret (results_cell_row rfl _ _ w.heap.size 27 #[.int .i64 a0,.int .i64 a1] (0,0) _ rfl hb Try.underlying27 rfl (by kernel_rfl)) rfl ?_;exact ⟨rfl,below_alloc (Below.refl _ _) _⟩

end
section
/-! ### stringslite_HasPrefix: function 44 -/
def stringslite_HasPrefix.f (a0 : ByteArray) (a1 : ByteArray) : Option (Bool):=if (a0.size : Int) ≥ (a1.size : Int) then (if 0 ≤ (a1.size : Int) then (if (a1.size : Int) ≤ (a0.size : Int) then (some ((a0.extract 0 ((a1.size : Int) : Int).toNat).toList == a1.toList)) else (none)) else (none)) else (some false)
set_option maxHeartbeats 8000000 in
set_option maxRecDepth 100000 in
theorem stringslite_HasPrefix.calls (a0 : ByteArray) (a1 : ByteArray) (r : Bool) (w : World) (h : stringslite_HasPrefix.f a0 a1 = some r) :
  Calls Try.prog 44 #[.string a0,.string a1] w fun e w' => e = .returned (.bool r) ∧ Drawn0 w w':=by
 have H : (if (a0.size : Int) ≥ (a1.size : Int) then (if 0 ≤ (a1.size : Int) then (if (a1.size : Int) ≤ (a0.size : Int) then (some ((a0.extract 0 ((a1.size : Int) : Int).toNat).toList == a1.toList)) else (none)) else (none)) else (some false)) = some r:=h;clear h;by_cases c3 : (a0.size : Int) ≥ (a1.size : Int)
 ·rw [if_pos c3] at H
  have c3b0 : decide ((a1.size : Int) ≤ (a0.size : Int)) = true:=decide_eq_true c3;have c3b1 : decide (a1.size ≤ a0.size) = true:=decide_eq_true (Int.ofNat_le.mp c3);clear c3;by_cases c4 : 0 ≤ (a1.size : Int)
  ·rw [if_pos c4] at H
   have c4b0:=eq_true c4;have c4b1 : decide (0 ≤ (a1.size : Int)) = true:=decide_eq_true c4;clear c4;by_cases c5 : (a1.size : Int) ≤ (a0.size : Int)
   ·rw [if_pos c5] at H
    have c5b0:=eq_true c5;have c5b1 : decide ((a1.size : Int) ≤ (a0.size : Int)) = true:=decide_eq_true c5;clear c5;obtain rfl:=Option.some.inj H;go_enter Try.func44,Try.ntmps44;go_wp2;go_ret;exact ⟨by first|rfl|(simp;done)|(simp only [IntWalk.i64_left];done)|(simp [*];done),by repeat (first|exact Drawn0.refl _|apply Drawn0.step)⟩
   ·rw [if_neg c5] at H
    exact absurd H (by simp)
  ·rw [if_neg c4] at H
   exact absurd H (by simp)
 ·rw [if_neg c3] at H
  have c3b0 : decide ((a1.size : Int) ≤ (a0.size : Int)) = false:=decide_eq_false c3;have c3b1 : decide (a1.size ≤ a0.size) = false:=decide_eq_false (fun h => c3 (Int.ofNat_le.mpr h));clear c3;obtain rfl:=Option.some.inj H;go_enter Try.func44,Try.ntmps44;go_wp2;go_ret;exact ⟨by first|rfl|(simp;done)|(simp only [IntWalk.i64_left];done)|(simp [*];done),by repeat (first|exact Drawn0.refl _|apply Drawn0.step)⟩

end
section
/-! ### strings_HasPrefix: function 27 -/
def strings_HasPrefix.f (a0 : ByteArray) (a1 : ByteArray) : Option (Bool):=(stringslite_HasPrefix.f a0 a1).bind fun t101 => (some t101)
set_option maxHeartbeats 8000000 in
set_option maxRecDepth 100000 in
theorem strings_HasPrefix.calls (a0 : ByteArray) (a1 : ByteArray) (r : Bool) (w : World) (h : strings_HasPrefix.f a0 a1 = some r) :
  Calls Try.prog 27 #[.string a0,.string a1] w fun e w' => e = .returned (.bool r) ∧ Drawn0 w w':=by
 have H : ((stringslite_HasPrefix.f a0 a1).bind fun t101 => (some t101)) = some r:=h;clear h;replace H:=Option.bind_eq_some_iff.mp H;obtain ⟨t101,A30,H⟩:=H;replace H : (some t101) = some r:=H;have A3:=Aside0.mk A30;clear A30;obtain rfl:=Option.some.inj H;go_enter Try.func27,Try.ntmps27;go_wp2_with (first|((with_reducible refine gate_callee (f:=44) rfl ?_);refine goesL_ (some 7) rfl rfl Try.func44 (by kernel_rfl) rfl #[.string a0,.string a1] rfl ln_ ?_;(with_reducible refine (stringslite_HasPrefix.calls a0 a1 t101 _ A3.out).mono ?_);rintro e w' ⟨rfl,⟨nd,rfl⟩⟩;refine ⟨_,rfl,?_⟩));go_ret;exact ⟨by first|rfl|(simp;done)|(simp only [IntWalk.i64_left];done)|(simp [*];done),by repeat (first|exact Drawn0.refl _|apply Drawn0.step)⟩

end
section
/-! ### signing_IsKey: function 38 -/
def signing_IsKey.f (a0 : Int) : Option (Bool):=if a0 ≥ 1 then (some (decide (a0 ≤ 1000000000))) else (some false)
set_option maxHeartbeats 8000000 in
set_option maxRecDepth 100000 in
theorem signing_IsKey.calls (a0 : Int) (r : Bool) (w : World) (h : signing_IsKey.f a0 = some r) :
  Calls Try.prog 38 #[.int .i64 a0] w fun e w' => e = .returned (.bool r) ∧ Drawn0 w w':=by
 have H : (if a0 ≥ 1 then (some (decide (a0 ≤ 1000000000))) else (some false)) = some r:=h;clear h;by_cases c2 : a0 ≥ 1
 ·rw [if_pos c2] at H
  have c2b0 : decide (1 ≤ a0) = true:=decide_eq_true c2;clear c2;obtain rfl:=Option.some.inj H;go_enter Try.func38,Try.ntmps38;go_wp2;go_ret;exact ⟨by first|rfl|(simp;done)|(simp only [IntWalk.i64_left];done)|(simp [*];done),by repeat (first|exact Drawn0.refl _|apply Drawn0.step)⟩
 ·rw [if_neg c2] at H
  have c2b0 : decide (1 ≤ a0) = false:=decide_eq_false c2;clear c2;obtain rfl:=Option.some.inj H;go_enter Try.func38,Try.ntmps38;go_wp2;go_ret;exact ⟨by first|rfl|(simp;done)|(simp only [IntWalk.i64_left];done)|(simp [*];done),by repeat (first|exact Drawn0.refl _|apply Drawn0.step)⟩

end
section
/-! ### signing_IsDigest: function 39 -/
def signing_IsDigest.f (a0 : Int) : Option (Bool):=if a0 ≥ 0 then (some (decide (a0 < 2305843009213693951))) else (some false)
set_option maxHeartbeats 8000000 in
set_option maxRecDepth 100000 in
theorem signing_IsDigest.calls (a0 : Int) (r : Bool) (w : World) (h : signing_IsDigest.f a0 = some r) :
  Calls Try.prog 39 #[.int .i64 a0] w fun e w' => e = .returned (.bool r) ∧ Drawn0 w w':=by
 have H : (if a0 ≥ 0 then (some (decide (a0 < 2305843009213693951))) else (some false)) = some r:=h;clear h;by_cases c2 : a0 ≥ 0
 ·rw [if_pos c2] at H
  have c2b0 : decide (0 ≤ a0) = true:=decide_eq_true c2;clear c2;obtain rfl:=Option.some.inj H;go_enter Try.func39,Try.ntmps39;go_wp2;go_ret;exact ⟨by first|rfl|(simp;done)|(simp only [IntWalk.i64_left];done)|(simp [*];done),by repeat (first|exact Drawn0.refl _|apply Drawn0.step)⟩
 ·rw [if_neg c2] at H
  have c2b0 : decide (0 ≤ a0) = false:=decide_eq_false c2;clear c2;obtain rfl:=Option.some.inj H;go_enter Try.func39,Try.ntmps39;go_wp2;go_ret;exact ⟨by first|rfl|(simp;done)|(simp only [IntWalk.i64_left];done)|(simp [*];done),by repeat (first|exact Drawn0.refl _|apply Drawn0.step)⟩

end
section
/-! ### cmp_isNaN_int: function 53 -/
def cmp_isNaN_int.f (a0 : Int) : Option (Bool):=some (a0 != a0)
set_option maxHeartbeats 8000000 in
set_option maxRecDepth 100000 in
theorem cmp_isNaN_int.calls (a0 : Int) (r : Bool) (w : World) (h : cmp_isNaN_int.f a0 = some r) :
  Calls Try.prog 53 #[.int .i64 a0] w fun e w' => e = .returned (.bool r) ∧ Drawn0 w w':=by
 have H : (some (a0 != a0)) = some r:=h;clear h;obtain rfl:=Option.some.inj H;go_enter Try.func53,Try.ntmps53;go_wp2;go_ret;exact ⟨by first|rfl|(simp;done)|(simp only [IntWalk.i64_left];done)|(simp [*];done),by repeat (first|exact Drawn0.refl _|apply Drawn0.step)⟩

end
section
/-! ### cmp_Less_int: function 47 -/
def cmp_Less_int.f (a0 : Int) (a1 : Int) : Option (Bool):=(cmp_isNaN_int.f a0).bind fun t101 => (if t101 = true then ((cmp_isNaN_int.f a1).bind fun t102 => (if t102 = true then (some (decide (a0 < a1))) else (some true))) else (some (decide (a0 < a1))))
set_option maxHeartbeats 8000000 in
set_option maxRecDepth 100000 in
theorem cmp_Less_int.calls (a0 : Int) (a1 : Int) (r : Bool) (w : World) (h : cmp_Less_int.f a0 a1 = some r) :
  Calls Try.prog 47 #[.int .i64 a0,.int .i64 a1] w fun e w' => e = .returned (.bool r) ∧ Drawn0 w w':=by
 have H : ((cmp_isNaN_int.f a0).bind fun t101 => (if t101 = true then ((cmp_isNaN_int.f a1).bind fun t102 => (if t102 = true then (some (decide (a0 < a1))) else (some true))) else (some (decide (a0 < a1))))) = some r:=h;clear h;replace H:=Option.bind_eq_some_iff.mp H;obtain ⟨t101,A30,H⟩:=H;replace H : (if t101 = true then ((cmp_isNaN_int.f a1).bind fun t102 => (if t102 = true then (some (decide (a0 < a1))) else (some true))) else (some (decide (a0 < a1)))) = some r:=H;have A3:=Aside0.mk A30;clear A30;by_cases c4 : t101 = true
 ·subst c4
  have H1 : ((cmp_isNaN_int.f a1).bind fun t102 => (if t102 = true then (some (decide (a0 < a1))) else (some true))) = some r:=by rw [if_pos rfl] at H;exact H
  clear H;have H:=H1;clear H1;replace H:=Option.bind_eq_some_iff.mp H;obtain ⟨t102,A50,H⟩:=H;replace H : (if t102 = true then (some (decide (a0 < a1))) else (some true)) = some r:=H;have A5:=Aside0.mk A50;clear A50;by_cases c6 : t102 = true
  ·subst c6
   have H1 : (some (decide (a0 < a1))) = some r:=by rw [if_pos rfl] at H;exact H
   clear H;have H:=H1;clear H1;obtain rfl:=Option.some.inj H;go_enter Try.func47,Try.ntmps47;go_wp2_with (first|((with_reducible refine gate_callee (f:=53) rfl ?_);refine goesL_ (some 6) rfl rfl Try.func53 (by kernel_rfl) rfl #[.int .i64 a0] rfl ln_ ?_;(with_reducible refine (cmp_isNaN_int.calls a0 true _ A3.out).mono ?_);rintro e w' ⟨rfl,⟨nd,rfl⟩⟩;refine ⟨_,rfl,?_⟩)|(go_at_call 53;(with_reducible refine (cmp_isNaN_int.calls a1 true _ A5.out).mono ?_);rintro e w' ⟨rfl,⟨nd,rfl⟩⟩));go_ret;exact ⟨by first|rfl|(simp;done)|(simp only [IntWalk.i64_left];done)|(simp [*];done),by repeat (first|exact Drawn0.refl _|apply Drawn0.step)⟩
  ·replace c6:=Bool.eq_false_iff.mpr c6
   subst c6;have H1 : (some true) = some r:=by rw [if_neg (show ¬ (false = true) by decide)] at H;exact H
   clear H;have H:=H1;clear H1;obtain rfl:=Option.some.inj H;go_enter Try.func47,Try.ntmps47;go_wp2_with (first|((with_reducible refine gate_callee (f:=53) rfl ?_);refine goesL_ (some 6) rfl rfl Try.func53 (by kernel_rfl) rfl #[.int .i64 a0] rfl ln_ ?_;(with_reducible refine (cmp_isNaN_int.calls a0 true _ A3.out).mono ?_);rintro e w' ⟨rfl,⟨nd,rfl⟩⟩;refine ⟨_,rfl,?_⟩)|(go_at_call 53;(with_reducible refine (cmp_isNaN_int.calls a1 false _ A5.out).mono ?_);rintro e w' ⟨rfl,⟨nd,rfl⟩⟩));go_ret;exact ⟨by first|rfl|(simp;done)|(simp only [IntWalk.i64_left];done)|(simp [*];done),by repeat (first|exact Drawn0.refl _|apply Drawn0.step)⟩
 ·replace c4:=Bool.eq_false_iff.mpr c4
  subst c4;have H1 : (some (decide (a0 < a1))) = some r:=by rw [if_neg (show ¬ (false = true) by decide)] at H;exact H
  clear H;have H:=H1;clear H1;obtain rfl:=Option.some.inj H;go_enter Try.func47,Try.ntmps47;go_wp2_with (first|((with_reducible refine gate_callee (f:=53) rfl ?_);refine goesL_ (some 6) rfl rfl Try.func53 (by kernel_rfl) rfl #[.int .i64 a0] rfl ln_ ?_;(with_reducible refine (cmp_isNaN_int.calls a0 false _ A3.out).mono ?_);rintro e w' ⟨rfl,⟨nd,rfl⟩⟩;refine ⟨_,rfl,?_⟩));go_ret;exact ⟨by first|rfl|(simp;done)|(simp only [IntWalk.i64_left];done)|(simp [*];done),by repeat (first|exact Drawn0.refl _|apply Drawn0.step)⟩

end
section
/-! ### slices_isNaN_int: function 48 -/
def slices_isNaN_int.f (a0 : Int) : Option (Bool):=some (a0 != a0)
set_option maxHeartbeats 8000000 in
set_option maxRecDepth 100000 in
theorem slices_isNaN_int.calls (a0 : Int) (r : Bool) (w : World) (h : slices_isNaN_int.f a0 = some r) :
  Calls Try.prog 48 #[.int .i64 a0] w fun e w' => e = .returned (.bool r) ∧ Drawn0 w w':=by
 have H : (some (a0 != a0)) = some r:=h;clear h;obtain rfl:=Option.some.inj H;go_enter Try.func48,Try.ntmps48;go_wp2;go_ret;exact ⟨by first|rfl|(simp;done)|(simp only [IntWalk.i64_left];done)|(simp [*];done),by repeat (first|exact Drawn0.refl _|apply Drawn0.step)⟩

end
section
/-! ### bits_Mul64: function 55 -/
-- IMPORT Derived.Test.@SEAT@Shelf
def bits_Mul64.f (a0 : Int) (a1 : Int) : Option (Int × Int):=if 0 ≤ a0 ∧ a0 < 18446744073709551616 then (if 0 ≤ a1 ∧ a1 < 18446744073709551616 then some (a0 * a1 / 18446744073709551616,a0 * a1 % 18446744073709551616) else none) else none
theorem bits_Mul64.calls (a0 : Int) (a1 : Int) (r1 : Int) (r2 : Int) (w : World) (h : bits_Mul64.f a0 a1 = some (r1,r2)) :
  Calls Try.prog 55 #[.int .u64 a0,.int .u64 a1] w fun e w' => e = .returned (.tuple #[.int .u64 r1,.int .u64 r2]) ∧ Drawn0 w w':=by
 unfold bits_Mul64.f at h;split at h
 ·split at h
  ·rename_i h0 h1
   obtain ⟨n,rfl⟩:=Int.eq_ofNat_of_zero_le h0.1;obtain ⟨m,rfl⟩:=Int.eq_ofNat_of_zero_le h1.1;simp only [Option.some.injEq,Prod.mk.injEq] at h;obtain ⟨rfl,rfl⟩:=h;have e1 : ((n * m / 18446744073709551616 : Nat) : Int) = (n : Int) * m / 18446744073709551616:=by rw [Int.natCast_ediv,Int.natCast_mul];rfl
   have e2 : ((n * m % 18446744073709551616 : Nat) : Int) = (n : Int) * m % 18446744073709551616:=by rw [Int.natCast_emod,Int.natCast_mul];rfl
   refine (Try.bits_Mul64 n m (by omega) (by omega) w).mono ?_;rintro e w' ⟨rfl,rfl⟩;rw [e1,e2];exact ⟨rfl,Drawn0.refl _⟩
  ·exact absurd h (by simp)
 ·exact absurd h (by simp)

end
section
/-! ### bits_Len64: function 58 -/
-- IMPORT Derived.Test.@SEAT@Shelf
def bits_Len64.f (a0 : Int) : Option (Int):=if 0 ≤ a0 then (if a0 ≤ 18446744073709551615 then some (Go.Lib.bitLen a0.toNat : Int) else none) else none
theorem bits_Len64.calls (a0 : Int) (r : Int) (w : World) (h : bits_Len64.f a0 = some r) :
  Calls Try.prog 58 #[.int .u64 a0] w fun e w' => e = .returned (.int .i64 r) ∧ Drawn0 w w':=by
 unfold bits_Len64.f at h;split at h
 ·split at h
  ·rename_i h0 h1
   obtain rfl:=Option.some.inj h;refine (Try.bits_Len64 a0 w h0 h1).mono ?_;rintro e w' ⟨rfl,rfl⟩;exact ⟨rfl,Drawn0.refl _⟩
  ·exact absurd h (by simp)
 ·exact absurd h (by simp)

end
section
/-! ### bits_LeadingZeros64: function 57 -/
def bits_LeadingZeros64.f (a0 : Int) : Option (Int):=(bits_Len64.f a0).bind fun t101 => (some (wrap64 (64 - t101)))
set_option maxHeartbeats 8000000 in
set_option maxRecDepth 100000 in
theorem bits_LeadingZeros64.calls (a0 : Int) (r : Int) (w : World) (h : bits_LeadingZeros64.f a0 = some r) :
  Calls Try.prog 57 #[.int .u64 a0] w fun e w' => e = .returned (.int .i64 r) ∧ Drawn0 w w':=by
 have H : ((bits_Len64.f a0).bind fun t101 => (some (wrap64 (64 - t101)))) = some r:=h;clear h;replace H:=Option.bind_eq_some_iff.mp H;obtain ⟨t101,A20,H⟩:=H;replace H : (some (wrap64 (64 - t101))) = some r:=H;have A2:=Aside0.mk A20;clear A20;obtain rfl:=Option.some.inj H;go_enter Try.func57,Try.ntmps57;go_wp2_with (first|((with_reducible refine gate_callee (f:=58) rfl ?_);refine goesL_ (some 4) rfl rfl Try.func58 (by kernel_rfl) rfl #[.int .u64 a0] rfl ln_ ?_;(with_reducible refine (bits_Len64.calls a0 t101 _ A2.out).mono ?_);rintro e w' ⟨rfl,⟨nd,rfl⟩⟩;refine ⟨_,rfl,?_⟩));go_ret;exact ⟨by first|rfl|(simp;done)|(simp only [IntWalk.i64_left];done)|(simp [*];done),by repeat (first|exact Drawn0.refl _|apply Drawn0.step)⟩

end
section
/-! ### changeforgeref5_Ints: function 18 -/
def changeforgeref5_Ints.l0 : Nat → List Int → List Int → Int → Option (Bool)
 | 0,_,_,_ => none
 | k + 1,x0,x1,x5 => if x5 < (x0.length : Int) then (if 0 ≤ x5 then (if x5 < (x1.length : Int) then (if (rd x0 x5) = (rd x1 x5) then (changeforgeref5_Ints.l0 k x0 x1 (wrap64 (x5 + 1))) else (some false)) else (none)) else (none)) else (some true)
def changeforgeref5_Ints.f (k : Nat) (l0 : List Int) (l1 : List Int) : Option (Bool):=if (l0.length : Int) = (l1.length : Int) then (changeforgeref5_Ints.l0 k l0 l1 0) else (some false)
theorem changeforgeref5_Ints.mono_l : ∀ k,(∀ y0 y1 y2,LeO (changeforgeref5_Ints.l0 k y0 y1 y2) (changeforgeref5_Ints.l0 (k + 1) y0 y1 y2))
 | 0 => fun _ _ _ r h => by simp [changeforgeref5_Ints.l0] at h
 | k + 1 => by
  have ih0:=changeforgeref5_Ints.mono_l k
  ·intro y0 y1 y2
   unfold changeforgeref5_Ints.l0;repeat' first
   | (with_reducible exact ih0 _ _ _)
   | (with_reducible exact LeO.refl _)
   | (with_reducible exact LeO.none _)
   | (with_reducible refine LeO.ite ?_ ?_)
   | (with_reducible refine LeO.bind ?_ (fun _ => ?_))
   | exact ih0 _ _ _
   | exact LeO.none _
   | refine LeO.ite ?_ ?_
   | refine LeO.bind ?_ (fun _ => ?_)
theorem changeforgeref5_Ints.mono : ∀ a0 a1 k,LeO (changeforgeref5_Ints.f k a0 a1) (changeforgeref5_Ints.f (k + 1) a0 a1):=by
 intro a0 a1 k;have ih0:=changeforgeref5_Ints.mono_l k;unfold changeforgeref5_Ints.f
 repeat' first
   | (with_reducible exact ih0 _ _ _)
   | (with_reducible exact LeO.refl _)
   | (with_reducible exact LeO.none _)
   | (with_reducible refine LeO.ite ?_ ?_)
   | (with_reducible refine LeO.bind ?_ (fun _ => ?_))
   | exact ih0 _ _ _
   | exact LeO.none _
   | refine LeO.ite ?_ ?_
   | refine LeO.bind ?_ (fun _ => ?_)
set_option maxHeartbeats 8000000 in
set_option maxRecDepth 100000 in
theorem changeforgeref5_Ints.calls (k : Nat) (A0 : Option Addr) (c0 : Nat) (l0 : List Int) (A1 : Option Addr) (c1 : Nat) (l1 : List Int) (r : Bool) (w : World) (hr0 : Kd.C (Kd.int .i64) w A0 l0.length l0) (hc0 : l0.length ≤ c0) (hr1 : Kd.C (Kd.int .i64) w A1 l1.length l1) (hc1 : l1.length ≤ c1) (h : changeforgeref5_Ints.f k l0 l1 = some r) :
  Calls Try.prog 18 #[.slice A0 l0.length c0,.slice A1 l1.length c1] w fun e w' => e = .returned (.bool r) ∧ Drawn0 w w':=by
 have HR0:=Aside0.mk hr0;have HC0:=Aside0.mk hc0;clear hr0 hc0;have HR1:=Aside0.mk hr1;have HC1:=Aside0.mk hc1;clear hr1 hc1;have H : (if (l0.length : Int) = (l1.length : Int) then (changeforgeref5_Ints.l0 k l0 l1 0) else (some false)) = some r:=h;clear h;by_cases c3 : (l0.length : Int) = (l1.length : Int)
 ·rw [if_pos c3] at H
  have c3b0 : ((l0.length : Int) == (l1.length : Int)) = true:=beq_iff_eq.mpr c3;have c3b1 : ((l0.length : Int) != (l1.length : Int)) = false:=bne_eq_false_iff_eq.mpr c3;have c3b2 : (l0.length == l1.length) = true:=by first|simpa using c3|(simp at c3 ⊢;omega)
  clear c3;have H':=Aside0.mk H;clear H;go_enter Try.func18,Try.ntmps18;go_wp2;repeat (go_quiet (fail);try go_wp2)
  go_loopg [5] k (fun kq v5 w' => ∃ (x5_1 : Int),v5 = .int .i64 x5_1 ∧ Aside0 (changeforgeref5_Ints.l0 kq l0 l1 x5_1 = some r) ∧ Aside0 (kq ≤ k) ∧ Drawn0 w w')
  case atStart => exact ⟨(0),fr_,H',⟨Nat.le_refl _⟩,by repeat (first|exact Drawn0.refl _|apply Drawn0.step)⟩
  case round =>
   clear H';(try clear c1);(try clear p2);(try clear c3);(try clear c3b0);(try clear c3b1);(try clear c3b2);obtain ⟨x5_1,rfl,HA,HK1,⟨m1,rfl⟩⟩:=hrel;cases gk with
   | zero => exact absurd HA.out (by simp [changeforgeref5_Ints.l0])
   | succ k1 =>
    have H:=HA.out;clear HA;simp only [changeforgeref5_Ints.l0] at H;by_cases c4 : x5_1 < (l0.length : Int)
    ·rw [if_pos c4] at H
     have c4b0 : decide (x5_1 < (l0.length : Int)) = true:=decide_eq_true c4;clear c4;by_cases c5 : 0 ≤ x5_1
     ·rw [if_pos c5] at H
      have c5b0 : decide (0 ≤ x5_1) = true:=decide_eq_true c5;clear c5;by_cases c6 : x5_1 < (l1.length : Int)
      ·rw [if_pos c6] at H
       have c6b0 : decide (x5_1 < (l1.length : Int)) = true:=decide_eq_true c6;clear c6;by_cases c7 : (rd l0 x5_1) = (rd l1 x5_1)
       ·rw [if_pos c7] at H
        have c7b0 : ((rd l0 x5_1) == (rd l1 x5_1)) = true:=beq_iff_eq.mpr c7;have c7b1 : ((rd l0 x5_1) != (rd l1 x5_1)) = false:=bne_eq_false_iff_eq.mpr c7;clear c7;have H':=Aside0.mk H;clear H;have p101 : 0 ≤ (x5_1 : Int):=of_decide_eq_true as_;have q101 : x5_1 < (l0.length : Int):=of_decide_eq_true as_;obtain ⟨ad101,e101,hx101_0⟩:=Kd.at_int HR0.out x5_1 p101 q101;cases e101
        replace p101:=eq_true p101;replace q101:=eq_true q101;have p102 : 0 ≤ (x5_1 : Int):=of_decide_eq_true as_;have q102 : x5_1 < (l1.length : Int):=of_decide_eq_true as_;obtain ⟨ad102,e102,hx102_0⟩:=Kd.at_int HR1.out x5_1 p102 q102;cases e102
        replace p102:=eq_true p102;replace q102:=eq_true q102;go_wp2;repeat (go_quiet (fail);try go_wp2)
        go_roundg k1
        case measure => have:=HK1.out;omega
        case rel => exact ⟨(wrap64 (x5_1 + 1)),fr_,H',⟨by have:=HK1.out;omega⟩,by repeat (first|exact Drawn0.refl _|apply Drawn0.step)⟩
       ·rw [if_neg c7] at H
        have c7b0 : ((rd l0 x5_1) == (rd l1 x5_1)) = false:=beq_eq_false_iff_ne.mpr c7;have c7b1 : ((rd l0 x5_1) != (rd l1 x5_1)) = true:=bne_iff_ne.mpr c7;obtain rfl:=Option.some.inj H;have p101 : 0 ≤ (x5_1 : Int):=of_decide_eq_true as_;have q101 : x5_1 < (l0.length : Int):=of_decide_eq_true as_;obtain ⟨ad101,e101,hx101_0⟩:=Kd.at_int HR0.out x5_1 p101 q101;cases e101
        replace p101:=eq_true p101;replace q101:=eq_true q101;have p102 : 0 ≤ (x5_1 : Int):=of_decide_eq_true as_;have q102 : x5_1 < (l1.length : Int):=of_decide_eq_true as_;obtain ⟨ad102,e102,hx102_0⟩:=Kd.at_int HR1.out x5_1 p102 q102;cases e102
        replace p102:=eq_true p102;replace q102:=eq_true q102;go_wp2;repeat (go_quiet (fail);try go_wp2)
        go_ret;exact ⟨by first|rfl|(simp;done)|(simp only [IntWalk.i64_left];done)|(simp [*];done),by repeat (first|exact Drawn0.refl _|apply Drawn0.step)⟩
      ·rw [if_neg c6] at H
       exact absurd H (by simp)
     ·rw [if_neg c5] at H
      exact absurd H (by simp)
    ·rw [if_neg c4] at H
     have c4b0 : decide (x5_1 < (l0.length : Int)) = false:=decide_eq_false c4;clear c4;obtain rfl:=Option.some.inj H;go_wp2;repeat (go_quiet (fail);try go_wp2)
     go_ret;exact ⟨by first|rfl|(simp;done)|(simp only [IntWalk.i64_left];done)|(simp [*];done),by repeat (first|exact Drawn0.refl _|apply Drawn0.step)⟩
 ·rw [if_neg c3] at H
  have c3b0 : ((l0.length : Int) == (l1.length : Int)) = false:=beq_eq_false_iff_ne.mpr c3;have c3b1 : ((l0.length : Int) != (l1.length : Int)) = true:=bne_iff_ne.mpr c3;have c3b2 : (l0.length == l1.length) = false:=by first|simpa using c3|(simp at c3 ⊢;omega)
  obtain rfl:=Option.some.inj H;go_enter Try.func18,Try.ntmps18;go_wp2;repeat (go_quiet (fail);try go_wp2)
  go_ret;exact ⟨by first|rfl|(simp;done)|(simp only [IntWalk.i64_left];done)|(simp [*];done),by repeat (first|exact Drawn0.refl _|apply Drawn0.step)⟩

end
section
/-! ### changeforgelaw5_fault: function 25 -/
def changeforgelaw5_fault.f (a0 : Int) (a1 : Int) : Option (Int × Int):=some (a0,a1)
set_option maxHeartbeats 8000000 in
set_option maxRecDepth 100000 in
theorem changeforgelaw5_fault.calls (a0 : Int) (a1 : Int) (r1 : Int) (r2 : Int) (w : World) (h : changeforgelaw5_fault.f a0 a1 = some (r1,r2)) :
  Calls Try.prog 25 #[.int .i64 a0,.int .i64 a1] w fun e w' => e = .returned (.agg #[.int .i64 r1,.int .i64 r2]) ∧ Below w.heap.size w w':=by
 have hu27:=Try.underlying27;have HB:=Aside0.mk (Below.refl w.heap.size w);have H : (some (a0,a1)) = some (r1,r2):=h;clear h;simp only [Option.some.injEq,Prod.mk.injEq] at H;obtain ⟨rfl,rfl⟩:=H;go_enter Try.func25,Try.ntmps25;go_wp2_with (first|((with_reducible refine gate_dst (N:=4) rfl ?_);refine box_event ?hg (N:=4) ?hd (cs:=#[.int .i64 0,.int .i64 0]) (t:=27) ?hr ?_;(case hd => rfl);(case hg => rfl);(case hr => first|(go_simp;done)|(go_simp;rfl));intro gb101 hg w3 hbox hb;have BK101:=Aside0.mk (hbox);have GW101:=Aside0.mk ((bs_ : w.heap.size ≤ gb101));have GE101:=Aside0.mk ((bs_ : w.heap.size ≤ gb101));replace HB:=Aside0.mk (below_step bel_ hb);clear hb hbox hg;have hcz4_0:=blk_c (v:=.int .i64 0) BK101.out 0 rfl;have hcz4_1:=blk_c (v:=.int .i64 0) BK101.out 1 rfl;have hfz4_0:=blk_frozen BK101.out 0;have hfz4_1:=blk_frozen BK101.out 1));refine bodyPost_ret (results_cell_row rfl _ _ gb101 27 #[.int .i64 a0,.int .i64 a1] (0,0) _ rfl (by refine blk_mv ?_;refine blk_put (cs:=#[.int .i64 a0,.int .i64 0]) ?_ 1 _ rfl;refine blk_mv ?_;refine blk_put (cs:=#[.int .i64 0,.int .i64 0]) ?_ 0 _ rfl;refine blk_mv ?_;exact BK101.out) Try.underlying27 rfl (by kernel_rfl)) rfl ?_;exact ⟨by first|rfl|(simp [errW_none,errW_some] <;> rfl)|(simp [*,errW_none,errW_some] <;> rfl),bel_⟩

end
section
/-! ### changeforgeref5_Starts: function 20 -/
def changeforgeref5_Starts.f (a0 : ByteArray) (a1 : ByteArray) : Option (Bool):=if (a0.size : Int) ≥ (a1.size : Int) then (if 0 ≤ (a1.size : Int) then (if (a1.size : Int) ≤ (a0.size : Int) then (some ((a0.extract 0 ((a1.size : Int) : Int).toNat).toList == a1.toList)) else (none)) else (none)) else (some false)
set_option maxHeartbeats 8000000 in
set_option maxRecDepth 100000 in
theorem changeforgeref5_Starts.calls (a0 : ByteArray) (a1 : ByteArray) (r : Bool) (w : World) (h : changeforgeref5_Starts.f a0 a1 = some r) :
  Calls Try.prog 20 #[.string a0,.string a1] w fun e w' => e = .returned (.bool r) ∧ Drawn0 w w':=by
 have H : (if (a0.size : Int) ≥ (a1.size : Int) then (if 0 ≤ (a1.size : Int) then (if (a1.size : Int) ≤ (a0.size : Int) then (some ((a0.extract 0 ((a1.size : Int) : Int).toNat).toList == a1.toList)) else (none)) else (none)) else (some false)) = some r:=h;clear h;by_cases c3 : (a0.size : Int) ≥ (a1.size : Int)
 ·rw [if_pos c3] at H
  have c3b0 : decide ((a1.size : Int) ≤ (a0.size : Int)) = true:=decide_eq_true c3;have c3b1 : decide (a1.size ≤ a0.size) = true:=decide_eq_true (Int.ofNat_le.mp c3);clear c3;by_cases c4 : 0 ≤ (a1.size : Int)
  ·rw [if_pos c4] at H
   have c4b0:=eq_true c4;have c4b1 : decide (0 ≤ (a1.size : Int)) = true:=decide_eq_true c4;clear c4;by_cases c5 : (a1.size : Int) ≤ (a0.size : Int)
   ·rw [if_pos c5] at H
    have c5b0:=eq_true c5;have c5b1 : decide ((a1.size : Int) ≤ (a0.size : Int)) = true:=decide_eq_true c5;clear c5;obtain rfl:=Option.some.inj H;go_enter Try.func20,Try.ntmps20;go_wp2;go_ret;exact ⟨by first|rfl|(simp;done)|(simp only [IntWalk.i64_left];done)|(simp [*];done),by repeat (first|exact Drawn0.refl _|apply Drawn0.step)⟩
   ·rw [if_neg c5] at H
    exact absurd H (by simp)
  ·rw [if_neg c4] at H
   exact absurd H (by simp)
 ·rw [if_neg c3] at H
  have c3b0 : decide ((a1.size : Int) ≤ (a0.size : Int)) = false:=decide_eq_false c3;have c3b1 : decide (a1.size ≤ a0.size) = false:=decide_eq_false (fun h => c3 (Int.ofNat_le.mpr h));clear c3;obtain rfl:=Option.some.inj H;go_enter Try.func20,Try.ntmps20;go_wp2;go_ret;exact ⟨by first|rfl|(simp;done)|(simp only [IntWalk.i64_left];done)|(simp [*];done),by repeat (first|exact Drawn0.refl _|apply Drawn0.step)⟩

end
section
/-! ### changeforgeref5_in: function 29 -/
def changeforgeref5_in.f (a0 : Int) (a1 : Int) (a2 : Int) : Option (Bool):=if a0 ≥ a1 then (some (decide (a0 ≤ a2))) else (some false)
set_option maxHeartbeats 8000000 in
set_option maxRecDepth 100000 in
theorem changeforgeref5_in.calls (a0 : Int) (a1 : Int) (a2 : Int) (r : Bool) (w : World) (h : changeforgeref5_in.f a0 a1 a2 = some r) :
  Calls Try.prog 29 #[.int .i64 a0,.int .i64 a1,.int .i64 a2] w fun e w' => e = .returned (.bool r) ∧ Drawn0 w w':=by
 have H : (if a0 ≥ a1 then (some (decide (a0 ≤ a2))) else (some false)) = some r:=h;clear h;by_cases c4 : a0 ≥ a1
 ·rw [if_pos c4] at H
  have c4b0 : decide (a1 ≤ a0) = true:=decide_eq_true c4;clear c4;obtain rfl:=Option.some.inj H;go_enter Try.func29,Try.ntmps29;go_wp2;go_ret;exact ⟨by first|rfl|(simp;done)|(simp only [IntWalk.i64_left];done)|(simp [*];done),by repeat (first|exact Drawn0.refl _|apply Drawn0.step)⟩
 ·rw [if_neg c4] at H
  have c4b0 : decide (a1 ≤ a0) = false:=decide_eq_false c4;clear c4;obtain rfl:=Option.some.inj H;go_enter Try.func29,Try.ntmps29;go_wp2;go_ret;exact ⟨by first|rfl|(simp;done)|(simp only [IntWalk.i64_left];done)|(simp [*];done),by repeat (first|exact Drawn0.refl _|apply Drawn0.step)⟩

end
section
/-! ### changeforgeref5_fault: function 30 -/
def changeforgeref5_fault.f (a0 : Int) (a1 : Int) : Option (Int × Int):=some (a0,a1)
set_option maxHeartbeats 8000000 in
set_option maxRecDepth 100000 in
theorem changeforgeref5_fault.calls (a0 : Int) (a1 : Int) (r1 : Int) (r2 : Int) (w : World) (h : changeforgeref5_fault.f a0 a1 = some (r1,r2)) :
  Calls Try.prog 30 #[.int .i64 a0,.int .i64 a1] w fun e w' => e = .returned (.agg #[.int .i64 r1,.int .i64 r2]) ∧ Below w.heap.size w w':=by
 have hu27:=Try.underlying27;have HB:=Aside0.mk (Below.refl w.heap.size w);have H : (some (a0,a1)) = some (r1,r2):=h;clear h;simp only [Option.some.injEq,Prod.mk.injEq] at H;obtain ⟨rfl,rfl⟩:=H;go_enter Try.func30,Try.ntmps30;go_wp2_with (first|((with_reducible refine gate_dst (N:=4) rfl ?_);refine box_event ?hg (N:=4) ?hd (cs:=#[.int .i64 0,.int .i64 0]) (t:=27) ?hr ?_;(case hd => rfl);(case hg => rfl);(case hr => first|(go_simp;done)|(go_simp;rfl));intro gb101 hg w3 hbox hb;have BK101:=Aside0.mk (hbox);have GW101:=Aside0.mk ((bs_ : w.heap.size ≤ gb101));have GE101:=Aside0.mk ((bs_ : w.heap.size ≤ gb101));replace HB:=Aside0.mk (below_step bel_ hb);clear hb hbox hg;have hcz4_0:=blk_c (v:=.int .i64 0) BK101.out 0 rfl;have hcz4_1:=blk_c (v:=.int .i64 0) BK101.out 1 rfl;have hfz4_0:=blk_frozen BK101.out 0;have hfz4_1:=blk_frozen BK101.out 1));refine bodyPost_ret (results_cell_row rfl _ _ gb101 27 #[.int .i64 a0,.int .i64 a1] (0,0) _ rfl (by refine blk_mv ?_;refine blk_put (cs:=#[.int .i64 a0,.int .i64 0]) ?_ 1 _ rfl;refine blk_mv ?_;refine blk_put (cs:=#[.int .i64 0,.int .i64 0]) ?_ 0 _ rfl;refine blk_mv ?_;exact BK101.out) Try.underlying27 rfl (by kernel_rfl)) rfl ?_;exact ⟨by first|rfl|(simp [errW_none,errW_some] <;> rfl)|(simp [*,errW_none,errW_some] <;> rfl),bel_⟩

end
section
/-! ### changeforgeref5_IsKey: function 34 -/
def changeforgeref5_IsKey.f (a0 : Int) : Option (Bool):=(changeforgeref5_in.f a0 1 1000000000).bind fun t101 => (some t101)
set_option maxHeartbeats 8000000 in
set_option maxRecDepth 100000 in
theorem changeforgeref5_IsKey.calls (a0 : Int) (r : Bool) (w : World) (h : changeforgeref5_IsKey.f a0 = some r) :
  Calls Try.prog 34 #[.int .i64 a0] w fun e w' => e = .returned (.bool r) ∧ Drawn0 w w':=by
 have H : ((changeforgeref5_in.f a0 1 1000000000).bind fun t101 => (some t101)) = some r:=h;clear h;replace H:=Option.bind_eq_some_iff.mp H;obtain ⟨t101,A20,H⟩:=H;replace H : (some t101) = some r:=H;have A2:=Aside0.mk A20;clear A20;obtain rfl:=Option.some.inj H;go_enter Try.func34,Try.ntmps34;go_wp2_with (first|((with_reducible refine gate_callee (f:=29) rfl ?_);refine goesL_ (some 4) rfl rfl Try.func29 (by kernel_rfl) rfl #[.int .i64 a0,.int .i64 1,.int .i64 1000000000] rfl ln_ ?_;(with_reducible refine (changeforgeref5_in.calls a0 1 1000000000 t101 _ A2.out).mono ?_);rintro e w' ⟨rfl,⟨nd,rfl⟩⟩;refine ⟨_,rfl,?_⟩));go_ret;exact ⟨by first|rfl|(simp;done)|(simp only [IntWalk.i64_left];done)|(simp [*];done),by repeat (first|exact Drawn0.refl _|apply Drawn0.step)⟩

end
section
/-! ### changeforgeref5_IsDigest: function 35 -/
def changeforgeref5_IsDigest.f (a0 : Int) : Option (Bool):=(changeforgeref5_in.f a0 0 2305843009213693950).bind fun t101 => (some t101)
set_option maxHeartbeats 8000000 in
set_option maxRecDepth 100000 in
theorem changeforgeref5_IsDigest.calls (a0 : Int) (r : Bool) (w : World) (h : changeforgeref5_IsDigest.f a0 = some r) :
  Calls Try.prog 35 #[.int .i64 a0] w fun e w' => e = .returned (.bool r) ∧ Drawn0 w w':=by
 have H : ((changeforgeref5_in.f a0 0 2305843009213693950).bind fun t101 => (some t101)) = some r:=h;clear h;replace H:=Option.bind_eq_some_iff.mp H;obtain ⟨t101,A20,H⟩:=H;replace H : (some t101) = some r:=H;have A2:=Aside0.mk A20;clear A20;obtain rfl:=Option.some.inj H;go_enter Try.func35,Try.ntmps35;go_wp2_with (first|((with_reducible refine gate_callee (f:=29) rfl ?_);refine goesL_ (some 4) rfl rfl Try.func29 (by kernel_rfl) rfl #[.int .i64 a0,.int .i64 0,.int .i64 2305843009213693950] rfl ln_ ?_;(with_reducible refine (changeforgeref5_in.calls a0 0 2305843009213693950 t101 _ A2.out).mono ?_);rintro e w' ⟨rfl,⟨nd,rfl⟩⟩;refine ⟨_,rfl,?_⟩));go_ret;exact ⟨by first|rfl|(simp;done)|(simp only [IntWalk.i64_left];done)|(simp [*];done),by repeat (first|exact Drawn0.refl _|apply Drawn0.step)⟩

end
section
/-! ### changeforgeref1_times: function 52 -/
def changeforgeref1_times.l0 : Nat → Int → Int → Int → Option (Int)
 | 0,_,_,_ => none
 | k + 1,x0,x1,x5 => if x1 > 0 then (if (Int.tmod x1 2) = 1 then (changeforgeref1_times.l0 k (Int.tmod (wrap64 (x0 + x0)) 2305843009213693951) (wrap64 (Int.tdiv x1 2)) (Int.tmod (wrap64 (x5 + x0)) 2305843009213693951)) else (changeforgeref1_times.l0 k (Int.tmod (wrap64 (x0 + x0)) 2305843009213693951) (wrap64 (Int.tdiv x1 2)) x5)) else (some x5)
def changeforgeref1_times.f (k : Nat) (a0 : Int) (a1 : Int) : Option (Int):=changeforgeref1_times.l0 k a0 a1 0
theorem changeforgeref1_times.mono_l : ∀ k,(∀ y0 y1 y2,LeO (changeforgeref1_times.l0 k y0 y1 y2) (changeforgeref1_times.l0 (k + 1) y0 y1 y2))
 | 0 => fun _ _ _ r h => by simp [changeforgeref1_times.l0] at h
 | k + 1 => by
  have ih0:=changeforgeref1_times.mono_l k
  ·intro y0 y1 y2
   unfold changeforgeref1_times.l0;repeat' first
   | (with_reducible exact ih0 _ _ _)
   | (with_reducible exact LeO.refl _)
   | (with_reducible exact LeO.none _)
   | (with_reducible refine LeO.ite ?_ ?_)
   | (with_reducible refine LeO.bind ?_ (fun _ => ?_))
   | exact ih0 _ _ _
   | exact LeO.none _
   | refine LeO.ite ?_ ?_
   | refine LeO.bind ?_ (fun _ => ?_)
theorem changeforgeref1_times.mono : ∀ a0 a1 k,LeO (changeforgeref1_times.f k a0 a1) (changeforgeref1_times.f (k + 1) a0 a1):=by
 intro a0 a1 k;have ih0:=changeforgeref1_times.mono_l k;unfold changeforgeref1_times.f
 repeat' first
   | (with_reducible exact ih0 _ _ _)
   | (with_reducible exact LeO.refl _)
   | (with_reducible exact LeO.none _)
   | (with_reducible refine LeO.ite ?_ ?_)
   | (with_reducible refine LeO.bind ?_ (fun _ => ?_))
   | exact ih0 _ _ _
   | exact LeO.none _
   | refine LeO.ite ?_ ?_
   | refine LeO.bind ?_ (fun _ => ?_)
set_option maxHeartbeats 8000000 in
set_option maxRecDepth 100000 in
theorem changeforgeref1_times.calls (k : Nat) (a0 : Int) (a1 : Int) (r : Int) (w : World) (h : changeforgeref1_times.f k a0 a1 = some r) :
  Calls Try.prog 52 #[.int .i64 a0,.int .i64 a1] w fun e w' => e = .returned (.int .i64 r) ∧ Drawn0 w w':=by
 have H : (changeforgeref1_times.l0 k a0 a1 0) = some r:=h;clear h;have H':=Aside0.mk H;clear H;go_enter Try.func52,Try.ntmps52;go_wp2;go_loopg [0,1,5] k (fun kq v0 v1 v5 w' => ∃ (x0_1 : Int) (x1_1 : Int) (x5_1 : Int),v0 = .int .i64 x0_1 ∧ v1 = .int .i64 x1_1 ∧ v5 = .int .i64 x5_1 ∧ Aside0 (changeforgeref1_times.l0 kq x0_1 x1_1 x5_1 = some r) ∧ Aside0 (kq ≤ k) ∧ Drawn0 w w')
 case atStart => exact ⟨(a0),(a1),(0),fr_,fr_,fr_,H',⟨Nat.le_refl _⟩,by repeat (first|exact Drawn0.refl _|apply Drawn0.step)⟩
 case round =>
  clear H';(try clear p2);obtain ⟨x0_1,x1_1,x5_1,rfl,rfl,rfl,HA,HK1,⟨m1,rfl⟩⟩:=hrel;cases gk with
  | zero => exact absurd HA.out (by simp [changeforgeref1_times.l0])
  | succ k1 =>
   have H:=HA.out;clear HA;simp only [changeforgeref1_times.l0] at H;by_cases c3 : x1_1 > 0
   ·rw [if_pos c3] at H
    have c3b0 : decide (0 < x1_1) = true:=decide_eq_true c3;clear c3;by_cases c4 : (Int.tmod x1_1 2) = 1
    ·rw [if_pos c4] at H
     have c4b0 : ((Int.tmod x1_1 2) == 1) = true:=beq_iff_eq.mpr c4;have c4b1 : ((Int.tmod x1_1 2) != 1) = false:=bne_eq_false_iff_eq.mpr c4;clear c4;have H':=Aside0.mk H;clear H;go_wp2;go_roundg k1
     case measure => have:=HK1.out;omega
     case rel => exact ⟨(Int.tmod (wrap64 (x0_1 + x0_1)) 2305843009213693951),(wrap64 (Int.tdiv x1_1 2)),(Int.tmod (wrap64 (x5_1 + x0_1)) 2305843009213693951),fr_,fr_,fr_,H',⟨by have:=HK1.out;omega⟩,by repeat (first|exact Drawn0.refl _|apply Drawn0.step)⟩
    ·rw [if_neg c4] at H
     have c4b0 : ((Int.tmod x1_1 2) == 1) = false:=beq_eq_false_iff_ne.mpr c4;have c4b1 : ((Int.tmod x1_1 2) != 1) = true:=bne_iff_ne.mpr c4;have H':=Aside0.mk H;clear H;go_wp2;go_roundg k1
     case measure => have:=HK1.out;omega
     case rel => exact ⟨(Int.tmod (wrap64 (x0_1 + x0_1)) 2305843009213693951),(wrap64 (Int.tdiv x1_1 2)),(x5_1),fr_,fr_,fr_,H',⟨by have:=HK1.out;omega⟩,by repeat (first|exact Drawn0.refl _|apply Drawn0.step)⟩
   ·rw [if_neg c3] at H
    have c3b0 : decide (0 < x1_1) = false:=decide_eq_false c3;clear c3;obtain rfl:=Option.some.inj H;go_wp2;go_ret;exact ⟨by first|rfl|(simp;done)|(simp only [IntWalk.i64_left];done)|(simp [*];done),by repeat (first|exact Drawn0.refl _|apply Drawn0.step)⟩

end
section
/-! ### changeforgeref1_DigestPair: function 45 -/
def changeforgeref1_DigestPair.f (k : Nat) (a0 : Int) (a1 : Int) : Option (Int):=(changeforgeref1_times.f k a0 1000003).bind fun t101 => ((changeforgeref1_times.f k a1 31).bind fun t102 => (some (Int.tmod (wrap64 ((wrap64 (t101 + t102)) + 7)) 2305843009213693951)))
theorem changeforgeref1_DigestPair.mono : ∀ a0 a1 k,LeO (changeforgeref1_DigestPair.f k a0 a1) (changeforgeref1_DigestPair.f (k + 1) a0 a1):=by
 intro a0 a1 k;unfold changeforgeref1_DigestPair.f
 repeat' first
   | (with_reducible exact changeforgeref1_times.mono _ _ _)
   | (with_reducible exact LeO.refl _)
   | (with_reducible exact LeO.none _)
   | (with_reducible refine LeO.ite ?_ ?_)
   | (with_reducible refine LeO.bind ?_ (fun _ => ?_))
   | exact changeforgeref1_times.mono _ _ _
   | exact LeO.none _
   | refine LeO.ite ?_ ?_
   | refine LeO.bind ?_ (fun _ => ?_)
set_option maxHeartbeats 8000000 in
set_option maxRecDepth 100000 in
theorem changeforgeref1_DigestPair.calls (k : Nat) (a0 : Int) (a1 : Int) (r : Int) (w : World) (h : changeforgeref1_DigestPair.f k a0 a1 = some r) :
  Calls Try.prog 45 #[.int .i64 a0,.int .i64 a1] w fun e w' => e = .returned (.int .i64 r) ∧ Drawn0 w w':=by
 have H : ((changeforgeref1_times.f k a0 1000003).bind fun t101 => ((changeforgeref1_times.f k a1 31).bind fun t102 => (some (Int.tmod (wrap64 ((wrap64 (t101 + t102)) + 7)) 2305843009213693951)))) = some r:=h;clear h;replace H:=Option.bind_eq_some_iff.mp H;obtain ⟨t101,A30,H⟩:=H;replace H : ((changeforgeref1_times.f k a1 31).bind fun t102 => (some (Int.tmod (wrap64 ((wrap64 (t101 + t102)) + 7)) 2305843009213693951))) = some r:=H;have A3:=Aside0.mk A30;clear A30;replace H:=Option.bind_eq_some_iff.mp H;obtain ⟨t102,A40,H⟩:=H;replace H : (some (Int.tmod (wrap64 ((wrap64 (t101 + t102)) + 7)) 2305843009213693951)) = some r:=H;have A4:=Aside0.mk A40;clear A40;obtain rfl:=Option.some.inj H;go_enter Try.func45,Try.ntmps45;go_wp2_with (first|((with_reducible refine gate_callee (f:=52) rfl ?_);refine goesL_ (some 6) rfl rfl Try.func52 (by kernel_rfl) rfl #[.int .i64 a0,.int .i64 1000003] rfl ln_ ?_;(with_reducible refine (changeforgeref1_times.calls k a0 1000003 t101 _ A3.out).mono ?_);rintro e w' ⟨rfl,⟨nd,rfl⟩⟩;refine ⟨_,rfl,?_⟩)|((with_reducible refine gate_callee (f:=52) rfl ?_);refine goesL_ (some 8) rfl rfl Try.func52 (by kernel_rfl) rfl #[.int .i64 a1,.int .i64 31] rfl ln_ ?_;(with_reducible refine (changeforgeref1_times.calls k a1 31 t102 _ A4.out).mono ?_);rintro e w' ⟨rfl,⟨nd,rfl⟩⟩;refine ⟨_,rfl,?_⟩));go_ret;exact ⟨by first|rfl|(simp;done)|(simp only [IntWalk.i64_left];done)|(simp [*];done),by repeat (first|exact Drawn0.refl _|apply Drawn0.step)⟩

end
section
/-! ### changeforgeref1_DigestOf: function 46 -/
def changeforgeref1_DigestOf.l0 : Nat → List Int → Int → Int → Option (Int)
 | 0,_,_,_ => none
 | k + 1,x0,x3,x4 => if x4 < (x0.length : Int) then ((changeforgeref1_times.f k x3 257).bind fun t101 => (if 0 ≤ x4 then (changeforgeref1_DigestOf.l0 k x0 (Int.tmod (wrap64 ((wrap64 (t101 + (wrap64 (rd x0 x4)))) + 1)) 2305843009213693951) (wrap64 (x4 + 1))) else (none))) else (some x3)
def changeforgeref1_DigestOf.f (k : Nat) (l0 : List Int) : Option (Int):=changeforgeref1_DigestOf.l0 k l0 1 0
theorem changeforgeref1_DigestOf.mono_l : ∀ k,(∀ y0 y1 y2,LeO (changeforgeref1_DigestOf.l0 k y0 y1 y2) (changeforgeref1_DigestOf.l0 (k + 1) y0 y1 y2))
 | 0 => fun _ _ _ r h => by simp [changeforgeref1_DigestOf.l0] at h
 | k + 1 => by
  have ih0:=changeforgeref1_DigestOf.mono_l k
  ·intro y0 y1 y2
   unfold changeforgeref1_DigestOf.l0;repeat' first
   | (with_reducible exact ih0 _ _ _)
   | (with_reducible exact changeforgeref1_times.mono _ _ _)
   | (with_reducible exact LeO.refl _)
   | (with_reducible exact LeO.none _)
   | (with_reducible refine LeO.ite ?_ ?_)
   | (with_reducible refine LeO.bind ?_ (fun _ => ?_))
   | exact ih0 _ _ _
   | exact changeforgeref1_times.mono _ _ _
   | exact LeO.none _
   | refine LeO.ite ?_ ?_
   | refine LeO.bind ?_ (fun _ => ?_)
theorem changeforgeref1_DigestOf.mono : ∀ a0 k,LeO (changeforgeref1_DigestOf.f k a0) (changeforgeref1_DigestOf.f (k + 1) a0):=by
 intro a0 k;have ih0:=changeforgeref1_DigestOf.mono_l k;unfold changeforgeref1_DigestOf.f
 repeat' first
   | (with_reducible exact ih0 _ _ _)
   | (with_reducible exact changeforgeref1_times.mono _ _ _)
   | (with_reducible exact LeO.refl _)
   | (with_reducible exact LeO.none _)
   | (with_reducible refine LeO.ite ?_ ?_)
   | (with_reducible refine LeO.bind ?_ (fun _ => ?_))
   | exact ih0 _ _ _
   | exact changeforgeref1_times.mono _ _ _
   | exact LeO.none _
   | refine LeO.ite ?_ ?_
   | refine LeO.bind ?_ (fun _ => ?_)
set_option maxHeartbeats 8000000 in
set_option maxRecDepth 100000 in
theorem changeforgeref1_DigestOf.calls (k : Nat) (A0 : Option Addr) (c0 : Nat) (l0 : List Int) (r : Int) (w : World) (hr0 : Kd.C (Kd.int .u8) w A0 l0.length l0) (hc0 : l0.length ≤ c0) (h : changeforgeref1_DigestOf.f k l0 = some r) :
  Calls Try.prog 46 #[.slice A0 l0.length c0] w fun e w' => e = .returned (.int .i64 r) ∧ Drawn0 w w':=by
 have HR0:=Aside0.mk hr0;have HC0:=Aside0.mk hc0;clear hr0 hc0;have H : (changeforgeref1_DigestOf.l0 k l0 1 0) = some r:=h;clear h;have H':=Aside0.mk H;clear H;go_enter Try.func46,Try.ntmps46;go_wp2;repeat (go_quiet (fail);try go_wp2)
 go_loopg [3,4] k (fun kq v3 v4 w' => ∃ (x3_1 : Int) (x4_1 : Int),v3 = .int .i64 x3_1 ∧ v4 = .int .i64 x4_1 ∧ Aside0 (changeforgeref1_DigestOf.l0 kq l0 x3_1 x4_1 = some r) ∧ Aside0 (kq ≤ k) ∧ Drawn0 w w')
 case atStart => exact ⟨(1),(0),fr_,fr_,H',⟨Nat.le_refl _⟩,by repeat (first|exact Drawn0.refl _|apply Drawn0.step)⟩
 case round =>
  clear H';obtain ⟨x3_1,x4_1,rfl,rfl,HA,HK1,⟨m1,rfl⟩⟩:=hrel;cases gk with
  | zero => exact absurd HA.out (by simp [changeforgeref1_DigestOf.l0])
  | succ k1 =>
   have H:=HA.out;clear HA;simp only [changeforgeref1_DigestOf.l0] at H;by_cases c2 : x4_1 < (l0.length : Int)
   ·rw [if_pos c2] at H
    have c2b0 : decide (x4_1 < (l0.length : Int)) = true:=decide_eq_true c2;clear c2;replace H:=Option.bind_eq_some_iff.mp H;obtain ⟨t101,A30,H⟩:=H;replace H : (if 0 ≤ x4_1 then (changeforgeref1_DigestOf.l0 k1 l0 (Int.tmod (wrap64 ((wrap64 (t101 + (wrap64 (rd l0 x4_1)))) + 1)) 2305843009213693951) (wrap64 (x4_1 + 1))) else (none)) = some r:=H;have A3:=Aside0.mk A30;clear A30;by_cases c4 : 0 ≤ x4_1
    ·rw [if_pos c4] at H
     have c4b0 : decide (0 ≤ x4_1) = true:=decide_eq_true c4;clear c4;have H':=Aside0.mk H;clear H;go_wp2_with (first|(go_at_call 52;(with_reducible refine (changeforgeref1_times.calls k1 x3_1 257 t101 _ A3.out).mono ?_);rintro e w' ⟨rfl,⟨nd,rfl⟩⟩;(try first|exact ⟨rfl,_,World.drewN_drewN _ _ _⟩|exact ⟨rfl,_,Eq.trans (World.drewN_drewN _ _ _) (congrArg (World.drewN _) (Nat.add_assoc _ _ _))⟩);have p102 : 0 ≤ (x4_1 : Int):=of_decide_eq_true as_;have q102 : x4_1 < (l0.length : Int):=of_decide_eq_true as_;obtain ⟨ad102,e102,hx102_0⟩:=Kd.at_int HR0.out x4_1 p102 q102;cases e102;replace p102:=eq_true p102;replace q102:=eq_true q102));repeat (go_quiet (first|(go_at_call 52;(with_reducible refine (changeforgeref1_times.calls k1 x3_1 257 t101 _ A3.out).mono ?_);rintro e w' ⟨rfl,⟨nd,rfl⟩⟩;(try first|exact ⟨rfl,_,World.drewN_drewN _ _ _⟩|exact ⟨rfl,_,Eq.trans (World.drewN_drewN _ _ _) (congrArg (World.drewN _) (Nat.add_assoc _ _ _))⟩);have p102 : 0 ≤ (x4_1 : Int):=of_decide_eq_true as_;have q102 : x4_1 < (l0.length : Int):=of_decide_eq_true as_;obtain ⟨ad102,e102,hx102_0⟩:=Kd.at_int HR0.out x4_1 p102 q102;cases e102;replace p102:=eq_true p102;replace q102:=eq_true q102));try go_wp2_with (first|(go_at_call 52;(with_reducible refine (changeforgeref1_times.calls k1 x3_1 257 t101 _ A3.out).mono ?_);rintro e w' ⟨rfl,⟨nd,rfl⟩⟩;(try first|exact ⟨rfl,_,World.drewN_drewN _ _ _⟩|exact ⟨rfl,_,Eq.trans (World.drewN_drewN _ _ _) (congrArg (World.drewN _) (Nat.add_assoc _ _ _))⟩);have p102 : 0 ≤ (x4_1 : Int):=of_decide_eq_true as_;have q102 : x4_1 < (l0.length : Int):=of_decide_eq_true as_;obtain ⟨ad102,e102,hx102_0⟩:=Kd.at_int HR0.out x4_1 p102 q102;cases e102;replace p102:=eq_true p102;replace q102:=eq_true q102)))
     go_roundg k1
     case measure => have:=HK1.out;omega
     case rel => exact ⟨(Int.tmod (wrap64 ((wrap64 (t101 + (wrap64 (rd l0 x4_1)))) + 1)) 2305843009213693951),(wrap64 (x4_1 + 1)),fr_,fr_,H',⟨by have:=HK1.out;omega⟩,by repeat (first|exact Drawn0.refl _|apply Drawn0.step)⟩
    ·rw [if_neg c4] at H
     exact absurd H (by simp)
   ·rw [if_neg c2] at H
    have c2b0 : decide (x4_1 < (l0.length : Int)) = false:=decide_eq_false c2;clear c2;obtain rfl:=Option.some.inj H;go_wp2;repeat (go_quiet (fail);try go_wp2)
    go_ret;exact ⟨by first|rfl|(simp;done)|(simp only [IntWalk.i64_left];done)|(simp [*];done),by repeat (first|exact Drawn0.refl _|apply Drawn0.step)⟩

end
section
/-! ### changeforgeref5_Sign: function 36 -/
def changeforgeref5_Sign.f (k : Nat) (a0 : Int) (l1 : List Int) : Option (Int):=(changeforgeref1_DigestOf.f k l1).bind fun t101 => ((changeforgeref1_DigestPair.f k a0 t101).bind fun t102 => (some t102))
theorem changeforgeref5_Sign.mono : ∀ a0 a1 k,LeO (changeforgeref5_Sign.f k a0 a1) (changeforgeref5_Sign.f (k + 1) a0 a1):=by
 intro a0 a1 k;unfold changeforgeref5_Sign.f
 repeat' first
   | (with_reducible exact changeforgeref1_DigestOf.mono _ _)
   | (with_reducible exact changeforgeref1_DigestPair.mono _ _ _)
   | (with_reducible exact LeO.refl _)
   | (with_reducible exact LeO.none _)
   | (with_reducible refine LeO.ite ?_ ?_)
   | (with_reducible refine LeO.bind ?_ (fun _ => ?_))
   | exact changeforgeref1_DigestOf.mono _ _
   | exact changeforgeref1_DigestPair.mono _ _ _
   | exact LeO.none _
   | refine LeO.ite ?_ ?_
   | refine LeO.bind ?_ (fun _ => ?_)
set_option maxHeartbeats 8000000 in
set_option maxRecDepth 100000 in
theorem changeforgeref5_Sign.calls (k : Nat) (a0 : Int) (A1 : Option Addr) (c1 : Nat) (l1 : List Int) (r : Int) (w : World) (hr1 : Kd.C (Kd.int .u8) w A1 l1.length l1) (hc1 : l1.length ≤ c1) (h : changeforgeref5_Sign.f k a0 l1 = some r) :
  Calls Try.prog 36 #[.int .i64 a0,.slice A1 l1.length c1] w fun e w' => e = .returned (.int .i64 r) ∧ Drawn0 w w':=by
 have HR1:=Aside0.mk hr1;have HC1:=Aside0.mk hc1;clear hr1 hc1;have H : ((changeforgeref1_DigestOf.f k l1).bind fun t101 => ((changeforgeref1_DigestPair.f k a0 t101).bind fun t102 => (some t102))) = some r:=h;clear h;replace H:=Option.bind_eq_some_iff.mp H;obtain ⟨t101,A30,H⟩:=H;replace H : ((changeforgeref1_DigestPair.f k a0 t101).bind fun t102 => (some t102)) = some r:=H;have A3:=Aside0.mk A30;clear A30;replace H:=Option.bind_eq_some_iff.mp H;obtain ⟨t102,A40,H⟩:=H;replace H : (some t102) = some r:=H;have A4:=Aside0.mk A40;clear A40;obtain rfl:=Option.some.inj H;go_enter Try.func36,Try.ntmps36;go_wp2_with (first|((with_reducible refine gate_callee (f:=46) rfl ?_);refine goesL_ (some 7) rfl rfl Try.func46 (by kernel_rfl) rfl #[.slice A1 l1.length c1] rfl ln_ ?_;(with_reducible refine (changeforgeref1_DigestOf.calls k _ _ l1 t101 _ ?side1 ?side2 A3.out).mono ?_);(case side1 => first|exact HR1.out|exact Kd.C_mv HR1.out);(case side2 => exact HC1.out);rintro e w' ⟨rfl,⟨nd,rfl⟩⟩;refine ⟨_,rfl,?_⟩)|((with_reducible refine gate_callee (f:=45) rfl ?_);refine goesL_ (some 8) rfl rfl Try.func45 (by kernel_rfl) rfl #[.int .i64 a0,.int .i64 t101] rfl ln_ ?_;(with_reducible refine (changeforgeref1_DigestPair.calls k a0 t101 t102 _ A4.out).mono ?_);rintro e w' ⟨rfl,⟨nd,rfl⟩⟩;refine ⟨_,rfl,?_⟩));go_ret;exact ⟨by first|rfl|(simp;done)|(simp only [IntWalk.i64_left];done)|(simp [*];done),by repeat (first|exact Drawn0.refl _|apply Drawn0.step)⟩

end
section
/-! ### changeforgelaw5_in: function 19 -/
def changeforgelaw5_in.f (a0 : Int) (a1 : Int) (a2 : Int) : Option (Bool):=if a0 ≥ a1 then (some (decide (a0 ≤ a2))) else (some false)
set_option maxHeartbeats 8000000 in
set_option maxRecDepth 100000 in
theorem changeforgelaw5_in.calls (a0 : Int) (a1 : Int) (a2 : Int) (r : Bool) (w : World) (h : changeforgelaw5_in.f a0 a1 a2 = some r) :
  Calls Try.prog 19 #[.int .i64 a0,.int .i64 a1,.int .i64 a2] w fun e w' => e = .returned (.bool r) ∧ Drawn0 w w':=by
 have H : (if a0 ≥ a1 then (some (decide (a0 ≤ a2))) else (some false)) = some r:=h;clear h;by_cases c4 : a0 ≥ a1
 ·rw [if_pos c4] at H
  have c4b0 : decide (a1 ≤ a0) = true:=decide_eq_true c4;clear c4;obtain rfl:=Option.some.inj H;go_enter Try.func19,Try.ntmps19;go_wp2;go_ret;exact ⟨by first|rfl|(simp;done)|(simp only [IntWalk.i64_left];done)|(simp [*];done),by repeat (first|exact Drawn0.refl _|apply Drawn0.step)⟩
 ·rw [if_neg c4] at H
  have c4b0 : decide (a1 ≤ a0) = false:=decide_eq_false c4;clear c4;obtain rfl:=Option.some.inj H;go_enter Try.func19,Try.ntmps19;go_wp2;go_ret;exact ⟨by first|rfl|(simp;done)|(simp only [IntWalk.i64_left];done)|(simp [*];done),by repeat (first|exact Drawn0.refl _|apply Drawn0.step)⟩

end
end Go.Proofs.Ytdelkdlegokbjaa.Fn
