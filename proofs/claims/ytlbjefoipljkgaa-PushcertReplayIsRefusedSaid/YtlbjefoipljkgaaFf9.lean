/- A function of the program as a plain Lean function, and the proof that the call comes to just what it says (written by wip/tools/xprint.py for this claim). Condition: the plain function has an answer. -/
import Derived.Test.YtlbjefoipljkgaaFn0
import Derived.Test.YtlbjefoipljkgaaFf16
import Derived.Test.YtlbjefoipljkgaaFf17
import Derived.Test.YtlbjefoipljkgaaFf20
import Derived.Test.YtlbjefoipljkgaaFf25
import Derived.Test.YtlbjefoipljkgaaFf26
import Derived.Test.YtlbjefoipljkgaaFf27
import Derived.Test.YtlbjefoipljkgaaFs0
import Derived.Test.YtlbjefoipljkgaaWA
import Derived.Test.YtlbjefoipljkgaaTight
namespace Go.Proofs.Ytlbjefoipljkgaa.Fn
open Go.RowKit Go.Proofs.YtlbjefoipljkgaaW.PrintWords Go.Proofs.YtlbjefoipljkgaaW.PrintLast Go.Proofs.YtlbjefoipljkgaaW.PrintMore
attribute [local go_sem] max2_int min2_int max_two min_two max_three min_three max_four min_four   -- for this text's walks alone
set_option linter.unusedVariables false
set_option linter.unusedSimpArgs false

attribute [local go_sem high] eqA26
/-! ### changeforgelaw5_pushes: function 9 -/
def changeforgelaw5_pushes.f (k : Nat)  : Option (Bool):=(changeforgelaw5_cert.f k).bind fun bt101 => ((pushcert_Certify.f k bt101.1 bt101.2.1 bt101.2.2.1 bt101.2.2.2.1 bt101.2.2.2.2.1 bt101.2.2.2.2.2.1 bt101.2.2.2.2.2.2).bind fun bt108 => ((pushcert_Check.f k 9 105 10 ([] : List Int) bt108.1 bt108.2.1 bt108.2.2.1 bt108.2.2.2.1 bt108.2.2.2.2.1 bt108.2.2.2.2.2.1 bt108.2.2.2.2.2.2.1).bind fun bt119 => ((pushcert_Check.f k 9 105 10 bt119.1 bt108.1 bt108.2.1 bt108.2.2.1 bt108.2.2.2.1 bt108.2.2.2.2.1 bt108.2.2.2.2.2.1 bt108.2.2.2.2.2.2.1).bind fun bt125 => ((pushcert_Check.f k 9 111 10 ([] : List Int) bt108.1 bt108.2.1 bt108.2.2.1 bt108.2.2.2.1 bt108.2.2.2.2.1 bt108.2.2.2.2.2.1 bt108.2.2.2.2.2.2.1).bind fun bt131 => ((changeforgelaw5_signs.f k).bind fun t137 => (if t137 = true then ((changeforgelaw5_nonce.f k 9 100).bind fun t138 => (if t138 ≥ 0 then (if bt108.2.2.2.2.2.2.2.1 = 0 then (if bt119.2.1 = 0 then (if (bt119.1.length : Int) = 1 then ((changeforgelaw5_fault.f 7 0).bind fun bt139 => (if (bt125.2.1 == bt139.1 && (bt125.2.2 == bt139.2)) = true then ((changeforgelaw5_fault.f 16 0).bind fun bt141 => (if (bt131.2.1 == bt141.1 && (bt131.2.2 == bt141.2)) = true then ((pushcert_Validate.f k 0 0 0 (⟨#[]⟩ : ByteArray) 0 0 0).bind fun bt143 => ((changeforgelaw5_fault.f 3 0).bind fun bt145 => (some (bt143.1 == bt145.1 && (bt143.2 == bt145.2))))) else (none))) else (none))) else (none)) else (none)) else (none)) else (none))) else (none)))))))
theorem changeforgelaw5_pushes.mono : ∀ k,LeO (changeforgelaw5_pushes.f k ) (changeforgelaw5_pushes.f (k + 1) ):=by
 intro  k;unfold changeforgelaw5_pushes.f
 repeat' first
   | (with_reducible exact changeforgelaw5_cert.mono _)
   | (with_reducible exact changeforgelaw5_nonce.mono _ _ _)
   | (with_reducible exact changeforgelaw5_signs.mono _)
   | (with_reducible exact pushcert_Certify.mono _ _ _ _ _ _ _ _)
   | (with_reducible exact pushcert_Check.mono _ _ _ _ _ _ _ _ _ _ _ _)
   | (with_reducible exact pushcert_Validate.mono _ _ _ _ _ _ _ _)
   | (with_reducible exact LeO.refl _)
   | (with_reducible exact LeO.none _)
   | (with_reducible refine LeO.ite ?_ ?_)
   | (with_reducible refine LeO.bind ?_ (fun _ => ?_))
   | exact changeforgelaw5_cert.mono _
   | exact changeforgelaw5_nonce.mono _ _ _
   | exact changeforgelaw5_signs.mono _
   | exact pushcert_Certify.mono _ _ _ _ _ _ _ _
   | exact pushcert_Check.mono _ _ _ _ _ _ _ _ _ _ _ _
   | exact pushcert_Validate.mono _ _ _ _ _ _ _ _
   | exact LeO.none _
   | refine LeO.ite ?_ ?_
   | refine LeO.bind ?_ (fun _ => ?_)
def changeforgelaw5_pushes.T5 : Bool × List (List Nat × List Nat):=(true,[([],[]),([0,0],[0]),([1,1],[1]),([2,1],[1,2]),([1,3],[1,3]),([4,2],[4]),([5],[5]),([6,5],[5,6]),([7,5],[5,7]),([5,8],[5,8]),([9,5],[9]),([10],[10]),([11,10],[10,11]),([12,10],[10,12]),([10,13],[10,13]),([14,10],[14]),([15],[15]),([16,15],[15,16]),([17,15],[15,17]),([15,18],[15,18]),([19,15],[19]),([20],[20]),([20,20],[20]),([21,22,20],[20,21,22]),([20,23],[20,23]),([24,22],[24]),([25],[25]),([25,25],[25]),([26,27,25],[25,26,27]),([25,28],[25,28]),([29,27],[29]),([30],[30]),([31,30,30],[30,31]),([32,30],[30]),([32,33,30],[30,32,33]),([30,34],[30,34]),([35,33,0,1,2,3,4,5,6,7,8,9,10,11,12,13,14,15,16,17,18,19,20,21,22,23,24,25,26,27,28,29,30,31,32,33,34,35],[35])])
def changeforgelaw5_pushes.B5 : List Nat:=[0,1,3,7,15,31,63,127,255,511,1023,2047,4095,8191,16383,32767,65535,131071,262143,524287,1048575,2097151,2097151,8388607,16777215,33554431,67108863,67108863,268435455,536870911,1073741823,2147483647,4294967295,8589934591,17179869183,34359738367,68719476735]
theorem changeforgelaw5_pushes.tab5 : rtab .any (opsOf Try.f9 5) = changeforgelaw5_pushes.T5:=by kernel_rfl
theorem changeforgelaw5_pushes.bits5 : waitsOk changeforgelaw5_pushes.T5.2 changeforgelaw5_pushes.B5 = true:=by kernel_rfl
set_option maxHeartbeats 8000000 in
set_option maxRecDepth 100000 in
theorem changeforgelaw5_pushes.calls (k : Nat)  (r : Bool) (w : World) (h : changeforgelaw5_pushes.f k  = some r) :
  Calls Try.prog 9 #[] w fun e w' => e = .returned (.bool r) ∧ Below w.heap.size w w':=by
 have hu23:=Try.underlying23;have hu26:=Try.underlying26;have HB:=Aside0.mk (Below.refl w.heap.size w);have H : ((changeforgelaw5_cert.f k).bind fun bt101 => ((pushcert_Certify.f k bt101.1 bt101.2.1 bt101.2.2.1 bt101.2.2.2.1 bt101.2.2.2.2.1 bt101.2.2.2.2.2.1 bt101.2.2.2.2.2.2).bind fun bt108 => ((pushcert_Check.f k 9 105 10 ([] : List Int) bt108.1 bt108.2.1 bt108.2.2.1 bt108.2.2.2.1 bt108.2.2.2.2.1 bt108.2.2.2.2.2.1 bt108.2.2.2.2.2.2.1).bind fun bt119 => ((pushcert_Check.f k 9 105 10 bt119.1 bt108.1 bt108.2.1 bt108.2.2.1 bt108.2.2.2.1 bt108.2.2.2.2.1 bt108.2.2.2.2.2.1 bt108.2.2.2.2.2.2.1).bind fun bt125 => ((pushcert_Check.f k 9 111 10 ([] : List Int) bt108.1 bt108.2.1 bt108.2.2.1 bt108.2.2.2.1 bt108.2.2.2.2.1 bt108.2.2.2.2.2.1 bt108.2.2.2.2.2.2.1).bind fun bt131 => ((changeforgelaw5_signs.f k).bind fun t137 => (if t137 = true then ((changeforgelaw5_nonce.f k 9 100).bind fun t138 => (if t138 ≥ 0 then (if bt108.2.2.2.2.2.2.2.1 = 0 then (if bt119.2.1 = 0 then (if (bt119.1.length : Int) = 1 then ((changeforgelaw5_fault.f 7 0).bind fun bt139 => (if (bt125.2.1 == bt139.1 && (bt125.2.2 == bt139.2)) = true then ((changeforgelaw5_fault.f 16 0).bind fun bt141 => (if (bt131.2.1 == bt141.1 && (bt131.2.2 == bt141.2)) = true then ((pushcert_Validate.f k 0 0 0 (⟨#[]⟩ : ByteArray) 0 0 0).bind fun bt143 => ((changeforgelaw5_fault.f 3 0).bind fun bt145 => (some (bt143.1 == bt145.1 && (bt143.2 == bt145.2))))) else (none))) else (none))) else (none)) else (none)) else (none)) else (none))) else (none)))))))) = some r:=h;clear h;replace H:=Option.bind_eq_some_iff.mp H;obtain ⟨⟨t101,t102,t103,t104,t105,t106,t107⟩,A10,H⟩:=H;replace H : ((pushcert_Certify.f k t101 t102 t103 t104 t105 t106 t107).bind fun bt108 => ((pushcert_Check.f k 9 105 10 ([] : List Int) bt108.1 bt108.2.1 bt108.2.2.1 bt108.2.2.2.1 bt108.2.2.2.2.1 bt108.2.2.2.2.2.1 bt108.2.2.2.2.2.2.1).bind fun bt119 => ((pushcert_Check.f k 9 105 10 bt119.1 bt108.1 bt108.2.1 bt108.2.2.1 bt108.2.2.2.1 bt108.2.2.2.2.1 bt108.2.2.2.2.2.1 bt108.2.2.2.2.2.2.1).bind fun bt125 => ((pushcert_Check.f k 9 111 10 ([] : List Int) bt108.1 bt108.2.1 bt108.2.2.1 bt108.2.2.2.1 bt108.2.2.2.2.1 bt108.2.2.2.2.2.1 bt108.2.2.2.2.2.2.1).bind fun bt131 => ((changeforgelaw5_signs.f k).bind fun t137 => (if t137 = true then ((changeforgelaw5_nonce.f k 9 100).bind fun t138 => (if t138 ≥ 0 then (if bt108.2.2.2.2.2.2.2.1 = 0 then (if bt119.2.1 = 0 then (if (bt119.1.length : Int) = 1 then ((changeforgelaw5_fault.f 7 0).bind fun bt139 => (if (bt125.2.1 == bt139.1 && (bt125.2.2 == bt139.2)) = true then ((changeforgelaw5_fault.f 16 0).bind fun bt141 => (if (bt131.2.1 == bt141.1 && (bt131.2.2 == bt141.2)) = true then ((pushcert_Validate.f k 0 0 0 (⟨#[]⟩ : ByteArray) 0 0 0).bind fun bt143 => ((changeforgelaw5_fault.f 3 0).bind fun bt145 => (some (bt143.1 == bt145.1 && (bt143.2 == bt145.2))))) else (none))) else (none))) else (none)) else (none)) else (none)) else (none))) else (none))))))) = some r:=H;have A1:=Aside0.mk A10;clear A10;replace H:=Option.bind_eq_some_iff.mp H;obtain ⟨⟨t108,t109,t110,t111,t112,t113,t114,t115,t116⟩,A20,H⟩:=H;replace H : ((pushcert_Check.f k 9 105 10 ([] : List Int) t108 t109 t110 t111 t112 t113 t114).bind fun bt119 => ((pushcert_Check.f k 9 105 10 bt119.1 t108 t109 t110 t111 t112 t113 t114).bind fun bt125 => ((pushcert_Check.f k 9 111 10 ([] : List Int) t108 t109 t110 t111 t112 t113 t114).bind fun bt131 => ((changeforgelaw5_signs.f k).bind fun t137 => (if t137 = true then ((changeforgelaw5_nonce.f k 9 100).bind fun t138 => (if t138 ≥ 0 then (if t115 = 0 then (if bt119.2.1 = 0 then (if (bt119.1.length : Int) = 1 then ((changeforgelaw5_fault.f 7 0).bind fun bt139 => (if (bt125.2.1 == bt139.1 && (bt125.2.2 == bt139.2)) = true then ((changeforgelaw5_fault.f 16 0).bind fun bt141 => (if (bt131.2.1 == bt141.1 && (bt131.2.2 == bt141.2)) = true then ((pushcert_Validate.f k 0 0 0 (⟨#[]⟩ : ByteArray) 0 0 0).bind fun bt143 => ((changeforgelaw5_fault.f 3 0).bind fun bt145 => (some (bt143.1 == bt145.1 && (bt143.2 == bt145.2))))) else (none))) else (none))) else (none)) else (none)) else (none)) else (none))) else (none)))))) = some r:=H;have A2:=Aside0.mk A20;clear A20;replace H:=Option.bind_eq_some_iff.mp H;obtain ⟨⟨t119,t122,t123⟩,A30,H⟩:=H;replace H : ((pushcert_Check.f k 9 105 10 t119 t108 t109 t110 t111 t112 t113 t114).bind fun bt125 => ((pushcert_Check.f k 9 111 10 ([] : List Int) t108 t109 t110 t111 t112 t113 t114).bind fun bt131 => ((changeforgelaw5_signs.f k).bind fun t137 => (if t137 = true then ((changeforgelaw5_nonce.f k 9 100).bind fun t138 => (if t138 ≥ 0 then (if t115 = 0 then (if t122 = 0 then (if (t119.length : Int) = 1 then ((changeforgelaw5_fault.f 7 0).bind fun bt139 => (if (bt125.2.1 == bt139.1 && (bt125.2.2 == bt139.2)) = true then ((changeforgelaw5_fault.f 16 0).bind fun bt141 => (if (bt131.2.1 == bt141.1 && (bt131.2.2 == bt141.2)) = true then ((pushcert_Validate.f k 0 0 0 (⟨#[]⟩ : ByteArray) 0 0 0).bind fun bt143 => ((changeforgelaw5_fault.f 3 0).bind fun bt145 => (some (bt143.1 == bt145.1 && (bt143.2 == bt145.2))))) else (none))) else (none))) else (none)) else (none)) else (none)) else (none))) else (none))))) = some r:=H;have A3:=Aside0.mk A30;clear A30;replace H:=Option.bind_eq_some_iff.mp H;obtain ⟨⟨t125,t128,t129⟩,A40,H⟩:=H;replace H : ((pushcert_Check.f k 9 111 10 ([] : List Int) t108 t109 t110 t111 t112 t113 t114).bind fun bt131 => ((changeforgelaw5_signs.f k).bind fun t137 => (if t137 = true then ((changeforgelaw5_nonce.f k 9 100).bind fun t138 => (if t138 ≥ 0 then (if t115 = 0 then (if t122 = 0 then (if (t119.length : Int) = 1 then ((changeforgelaw5_fault.f 7 0).bind fun bt139 => (if (t128 == bt139.1 && (t129 == bt139.2)) = true then ((changeforgelaw5_fault.f 16 0).bind fun bt141 => (if (bt131.2.1 == bt141.1 && (bt131.2.2 == bt141.2)) = true then ((pushcert_Validate.f k 0 0 0 (⟨#[]⟩ : ByteArray) 0 0 0).bind fun bt143 => ((changeforgelaw5_fault.f 3 0).bind fun bt145 => (some (bt143.1 == bt145.1 && (bt143.2 == bt145.2))))) else (none))) else (none))) else (none)) else (none)) else (none)) else (none))) else (none)))) = some r:=H;have A4:=Aside0.mk A40;clear A40;replace H:=Option.bind_eq_some_iff.mp H;obtain ⟨⟨t131,t134,t135⟩,A50,H⟩:=H;replace H : ((changeforgelaw5_signs.f k).bind fun t137 => (if t137 = true then ((changeforgelaw5_nonce.f k 9 100).bind fun t138 => (if t138 ≥ 0 then (if t115 = 0 then (if t122 = 0 then (if (t119.length : Int) = 1 then ((changeforgelaw5_fault.f 7 0).bind fun bt139 => (if (t128 == bt139.1 && (t129 == bt139.2)) = true then ((changeforgelaw5_fault.f 16 0).bind fun bt141 => (if (t134 == bt141.1 && (t135 == bt141.2)) = true then ((pushcert_Validate.f k 0 0 0 (⟨#[]⟩ : ByteArray) 0 0 0).bind fun bt143 => ((changeforgelaw5_fault.f 3 0).bind fun bt145 => (some (bt143.1 == bt145.1 && (bt143.2 == bt145.2))))) else (none))) else (none))) else (none)) else (none)) else (none)) else (none))) else (none))) = some r:=H;have A5:=Aside0.mk A50;clear A50;replace H:=Option.bind_eq_some_iff.mp H;obtain ⟨t137,A60,H⟩:=H;replace H : (if t137 = true then ((changeforgelaw5_nonce.f k 9 100).bind fun t138 => (if t138 ≥ 0 then (if t115 = 0 then (if t122 = 0 then (if (t119.length : Int) = 1 then ((changeforgelaw5_fault.f 7 0).bind fun bt139 => (if (t128 == bt139.1 && (t129 == bt139.2)) = true then ((changeforgelaw5_fault.f 16 0).bind fun bt141 => (if (t134 == bt141.1 && (t135 == bt141.2)) = true then ((pushcert_Validate.f k 0 0 0 (⟨#[]⟩ : ByteArray) 0 0 0).bind fun bt143 => ((changeforgelaw5_fault.f 3 0).bind fun bt145 => (some (bt143.1 == bt145.1 && (bt143.2 == bt145.2))))) else (none))) else (none))) else (none)) else (none)) else (none)) else (none))) else (none)) = some r:=H;have A6:=Aside0.mk A60;clear A60;by_cases c7 : t137 = true
 ·subst c7
  have H1 : ((changeforgelaw5_nonce.f k 9 100).bind fun t138 => (if t138 ≥ 0 then (if t115 = 0 then (if t122 = 0 then (if (t119.length : Int) = 1 then ((changeforgelaw5_fault.f 7 0).bind fun bt139 => (if (t128 == bt139.1 && (t129 == bt139.2)) = true then ((changeforgelaw5_fault.f 16 0).bind fun bt141 => (if (t134 == bt141.1 && (t135 == bt141.2)) = true then ((pushcert_Validate.f k 0 0 0 (⟨#[]⟩ : ByteArray) 0 0 0).bind fun bt143 => ((changeforgelaw5_fault.f 3 0).bind fun bt145 => (some (bt143.1 == bt145.1 && (bt143.2 == bt145.2))))) else (none))) else (none))) else (none)) else (none)) else (none)) else (none))) = some r:=by rw [if_pos rfl] at H;exact H
  clear H;have H:=H1;clear H1;replace H:=Option.bind_eq_some_iff.mp H;obtain ⟨t138,A80,H⟩:=H;replace H : (if t138 ≥ 0 then (if t115 = 0 then (if t122 = 0 then (if (t119.length : Int) = 1 then ((changeforgelaw5_fault.f 7 0).bind fun bt139 => (if (t128 == bt139.1 && (t129 == bt139.2)) = true then ((changeforgelaw5_fault.f 16 0).bind fun bt141 => (if (t134 == bt141.1 && (t135 == bt141.2)) = true then ((pushcert_Validate.f k 0 0 0 (⟨#[]⟩ : ByteArray) 0 0 0).bind fun bt143 => ((changeforgelaw5_fault.f 3 0).bind fun bt145 => (some (bt143.1 == bt145.1 && (bt143.2 == bt145.2))))) else (none))) else (none))) else (none)) else (none)) else (none)) else (none)) = some r:=H;have A8:=Aside0.mk A80;clear A80;by_cases c9 : t138 ≥ 0
  ·rw [if_pos c9] at H
   have c9b0 : decide (0 ≤ t138) = true:=decide_eq_true c9;clear c9;by_cases c10 : t115 = 0
   ·rw [if_pos c10] at H
    have c10b0 : (t115 == 0) = true:=beq_iff_eq.mpr c10;have c10b1 : (t115 != 0) = false:=bne_eq_false_iff_eq.mpr c10;clear c10;by_cases c11 : t122 = 0
    ·rw [if_pos c11] at H
     have c11b0 : (t122 == 0) = true:=beq_iff_eq.mpr c11;have c11b1 : (t122 != 0) = false:=bne_eq_false_iff_eq.mpr c11;clear c11;by_cases c12 : (t119.length : Int) = 1
     ·rw [if_pos c12] at H
      have c12b0 : ((t119.length : Int) == 1) = true:=beq_iff_eq.mpr c12;have c12b1 : ((t119.length : Int) != 1) = false:=bne_eq_false_iff_eq.mpr c12;clear c12;replace H:=Option.bind_eq_some_iff.mp H;obtain ⟨⟨t139,t140⟩,A130,H⟩:=H;replace H : (if (t128 == t139 && (t129 == t140)) = true then ((changeforgelaw5_fault.f 16 0).bind fun bt141 => (if (t134 == bt141.1 && (t135 == bt141.2)) = true then ((pushcert_Validate.f k 0 0 0 (⟨#[]⟩ : ByteArray) 0 0 0).bind fun bt143 => ((changeforgelaw5_fault.f 3 0).bind fun bt145 => (some (bt143.1 == bt145.1 && (bt143.2 == bt145.2))))) else (none))) else (none)) = some r:=H;have A13:=Aside0.mk A130;clear A130;by_cases c14 : (t128 == t139 && (t129 == t140)) = true
      ·rw [if_pos c14] at H
       have c14b0 : (t128 == t139 && (t129 == t140)) = true:=c14;(try (have c14b1 : decide (t128 = t139 && (t129 == t140)) = true:=by simpa using c14));(try (have c14b2 : (t128 == t139 && (t129 == t140)) = true:=by simpa using c14));clear c14;replace H:=Option.bind_eq_some_iff.mp H;obtain ⟨⟨t141,t142⟩,A150,H⟩:=H;replace H : (if (t134 == t141 && (t135 == t142)) = true then ((pushcert_Validate.f k 0 0 0 (⟨#[]⟩ : ByteArray) 0 0 0).bind fun bt143 => ((changeforgelaw5_fault.f 3 0).bind fun bt145 => (some (bt143.1 == bt145.1 && (bt143.2 == bt145.2))))) else (none)) = some r:=H;have A15:=Aside0.mk A150;clear A150;by_cases c16 : (t134 == t141 && (t135 == t142)) = true
       ·rw [if_pos c16] at H
        have c16b0 : (t134 == t141 && (t135 == t142)) = true:=c16;(try (have c16b1 : decide (t134 = t141 && (t135 == t142)) = true:=by simpa using c16));(try (have c16b2 : (t134 == t141 && (t135 == t142)) = true:=by simpa using c16));clear c16;replace H:=Option.bind_eq_some_iff.mp H;obtain ⟨⟨t143,t144⟩,A170,H⟩:=H;replace H : ((changeforgelaw5_fault.f 3 0).bind fun bt145 => (some (t143 == bt145.1 && (t144 == bt145.2)))) = some r:=H;have A17:=Aside0.mk A170;clear A170;replace H:=Option.bind_eq_some_iff.mp H;obtain ⟨⟨t145,t146⟩,A180,H⟩:=H;replace H : (some (t143 == t145 && (t144 == t146))) = some r:=H;have A18:=Aside0.mk A180;clear A180;obtain rfl:=Option.some.inj H;go_enter Try.func9,Try.ntmps9;try go_wp2_with (first|((with_reducible refine gate_callee (f:=25) rfl ?_);refine goesL_ (some 10) rfl rfl Try.func25 (by kernel_rfl) rfl #[] rfl ln_ ?_;(with_reducible refine (changeforgelaw5_cert.calls k  t101 t102 t103 t104 t105 t106 t107 _ A1.out).mono ?_);rintro e w19 ⟨rfl,hb⟩;refine ⟨_,rfl,?_⟩;replace HB:=Aside0.mk (below_step bel_ hb);(try clear hb);(try clear hb2);(try clear hk);(try clear hi))|((with_reducible refine gate_callee (f:=16) rfl ?_);refine goesL_ (some 11) rfl rfl Try.func16 (by kernel_rfl) rfl #[.agg #[.int .i64 t101,.int .i64 t102,.int .i64 t103,.string t104,.int .i64 t105,.int .i64 t106,.int .i64 t107]] rfl ln_ ?_;(with_reducible refine (pushcert_Certify.calls k t101 t102 t103 t104 t105 t106 t107 t108 t109 t110 t111 t112 t113 t114 t115 t116 _ A2.out).mono ?_);rintro e w20 ⟨rfl,hb⟩;refine ⟨_,rfl,?_⟩;replace HB:=Aside0.mk (below_step bel_ hb);(try clear hb);(try clear hb2);(try clear hk);(try clear hi))|((with_reducible refine gate_dst (N:=1) rfl ?_);(try (refine gate_guard (by rfl) ?_;dsimp only));refine box_event ?hg (N:=1) ?hd (cs:=#[.int .i64 0,.int .i64 0,.int .i64 0,.string (⟨#[]⟩ : ByteArray),.int .i64 0,.int .i64 0,.int .i64 0]) (t:=23) ?hr ?_;(case hd => rfl);(case hg => rfl);(case hr => first|(go_simp;done)|(go_simp;rfl));intro gb117 hg w21 hbox hb;have BK117:=Aside0.mk (hbox);have GW117:=Aside0.mk ((bs_ : w.heap.size ≤ gb117));have GE117:=Aside0.mk ((bs_ : w.heap.size ≤ gb117));replace HB:=Aside0.mk (below_step bel_ hb);clear hb hbox hg)|((with_reducible refine gate_dst (N:=2) rfl ?_);(try (refine gate_guard (by rfl) ?_;dsimp only));refine box_event ?hg (N:=2) ?hd (cs:=#[.int .i64 0,.int .i64 0]) (t:=26) ?hr ?_;(case hd => rfl);(case hg => rfl);(case hr => first|(go_simp;done)|(go_simp;rfl));intro gb118 hg w22 hbox hb;have BK118:=Aside0.mk (hbox);have GW118:=Aside0.mk ((bs_ : w.heap.size ≤ gb118));have GE118:=Aside0.mk ((bs_ : w.heap.size ≤ gb118));replace HB:=Aside0.mk (below_step bel_ hb);have NB117_118:=Aside0.mk ((by rw [hg];exact Nat.ne_of_lt (blk_lt (g:=gb117) (o:=.cells #[.int .i64 0,.int .i64 0,.int .i64 0,.string (⟨#[]⟩ : ByteArray),.int .i64 0,.int .i64 0,.int .i64 0] 23 (0,0)) (blk_mv BK117.out)) : gb117 ≠ gb118));have NB118_117:=Aside0.mk ((by rw [hg];exact Nat.ne_of_gt (blk_lt (g:=gb117) (o:=.cells #[.int .i64 0,.int .i64 0,.int .i64 0,.string (⟨#[]⟩ : ByteArray),.int .i64 0,.int .i64 0,.int .i64 0] 23 (0,0)) (blk_mv BK117.out)) : gb118 ≠ gb117));replace BK117:=Aside0.mk (blk_below (blk_mv BK117.out) hb);clear hb hbox hg;have hnb23:=NB117_118.out;have hnc23:=NB118_117.out;have hcz24_0:=blk_c (v:=.int .i64 0) BK117.out 0 rfl;have hcz24_1:=blk_c (v:=.int .i64 0) BK117.out 1 rfl;have hcz24_2:=blk_c (v:=.int .i64 0) BK117.out 2 rfl;have hcz24_3:=blk_c (v:=.string (⟨#[]⟩ : ByteArray)) BK117.out 3 rfl;have hcz24_4:=blk_c (v:=.int .i64 0) BK117.out 4 rfl;have hcz24_5:=blk_c (v:=.int .i64 0) BK117.out 5 rfl;have hcz24_6:=blk_c (v:=.int .i64 0) BK117.out 6 rfl;have hfz24_0:=blk_frozen BK117.out 0;have hfz24_1:=blk_frozen BK117.out 1;have hfz24_2:=blk_frozen BK117.out 2;have hfz24_3:=blk_frozen BK117.out 3;have hfz24_4:=blk_frozen BK117.out 4;have hfz24_5:=blk_frozen BK117.out 5;have hfz24_6:=blk_frozen BK117.out 6;have hcz25_0:=blk_c (v:=.int .i64 0) BK118.out 0 rfl;have hcz25_1:=blk_c (v:=.int .i64 0) BK118.out 1 rfl;have hfz25_0:=blk_frozen BK118.out 0;have hfz25_1:=blk_frozen BK118.out 1)|((with_reducible refine gate_callee (f:=20) rfl ?_);refine goesL_ (some 16) rfl rfl Try.func20 (by kernel_rfl) rfl #[.int .i64 9,.int .i64 105,.int .i64 10,.slice none 0 0,.agg #[.int .i64 t108,.int .i64 t109,.int .i64 t110,.string t111,.int .i64 t112,.int .i64 t113,.int .i64 t114]] rfl ln_ ?_;(refine (pushcert_Check.calls k 9 105 10 _ _ ([] : List Int) t108 t109 t110 t111 t112 t113 t114 t119 t122 t123 _ ?side1 ?side2 A3.out).mono ?_);(case side1 => exact Kd.C_nil _ _);(case side2 => exact Nat.le_refl _);rintro e w26 ⟨v120,rfl,ho0,hb⟩;refine ⟨_,rfl,?_⟩;have HO121:=Aside0.mk (Kd.R_lower ho0 (below_size bel_));replace BK117:=Aside0.mk (blk_below (g:=gb117) (o:=.cells #[.int .i64 t108,.int .i64 t109,.int .i64 t110,.string t111,.int .i64 t112,.int .i64 t113,.int .i64 t114] 23 (0,0)) (by refine blk_mv ?_;refine blk_far ?_ NB117_118.out _;refine blk_mv ?_;refine blk_far ?_ NB117_118.out _;refine blk_mv ?_;refine blk_put (cs:=#[.int .i64 t108,.int .i64 t109,.int .i64 t110,.string t111,.int .i64 t112,.int .i64 t113,.int .i64 0]) ?_ 6 _ rfl;refine blk_mv ?_;refine blk_put (cs:=#[.int .i64 t108,.int .i64 t109,.int .i64 t110,.string t111,.int .i64 t112,.int .i64 0,.int .i64 0]) ?_ 5 _ rfl;refine blk_mv ?_;refine blk_put (cs:=#[.int .i64 t108,.int .i64 t109,.int .i64 t110,.string t111,.int .i64 0,.int .i64 0,.int .i64 0]) ?_ 4 _ rfl;refine blk_mv ?_;refine blk_put (cs:=#[.int .i64 t108,.int .i64 t109,.int .i64 t110,.string (⟨#[]⟩ : ByteArray),.int .i64 0,.int .i64 0,.int .i64 0]) ?_ 3 _ rfl;refine blk_mv ?_;refine blk_put (cs:=#[.int .i64 t108,.int .i64 t109,.int .i64 0,.string (⟨#[]⟩ : ByteArray),.int .i64 0,.int .i64 0,.int .i64 0]) ?_ 2 _ rfl;refine blk_mv ?_;refine blk_put (cs:=#[.int .i64 t108,.int .i64 0,.int .i64 0,.string (⟨#[]⟩ : ByteArray),.int .i64 0,.int .i64 0,.int .i64 0]) ?_ 1 _ rfl;refine blk_mv ?_;refine blk_put (cs:=#[.int .i64 0,.int .i64 0,.int .i64 0,.string (⟨#[]⟩ : ByteArray),.int .i64 0,.int .i64 0,.int .i64 0]) ?_ 0 _ rfl;refine blk_mv ?_;exact BK117.out) hb);replace BK118:=Aside0.mk (blk_below (g:=gb118) (o:=.cells #[.int .i64 t115,.int .i64 t116] 26 (0,0)) (by refine blk_mv ?_;refine blk_put (cs:=#[.int .i64 t115,.int .i64 0]) ?_ 1 _ rfl;refine blk_mv ?_;refine blk_put (cs:=#[.int .i64 0,.int .i64 0]) ?_ 0 _ rfl;refine blk_mv ?_;refine blk_far ?_ NB118_117.out _;refine blk_mv ?_;refine blk_far ?_ NB118_117.out _;refine blk_mv ?_;refine blk_far ?_ NB118_117.out _;refine blk_mv ?_;refine blk_far ?_ NB118_117.out _;refine blk_mv ?_;refine blk_far ?_ NB118_117.out _;refine blk_mv ?_;refine blk_far ?_ NB118_117.out _;refine blk_mv ?_;refine blk_far ?_ NB118_117.out _;refine blk_mv ?_;exact BK118.out) hb);replace HB:=Aside0.mk (below_step bel_ hb);(try clear hb);(try clear hb2);(try clear hk);(try clear hi);(try clear ho0))|((with_reducible refine gate_dst (N:=4) rfl ?_);(try (refine gate_guard (by rfl) ?_;dsimp only));refine box_event ?hg (N:=4) ?hd (cs:=#[.int .i64 0,.int .i64 0]) (t:=26) ?hr ?_;(case hd => rfl);(case hg => rfl);(case hr => first|(go_simp;done)|(go_simp;rfl));intro gb124 hg w27 hbox hb;replace HO121:=Aside0.mk (Kd.R_below (Kd.R_mv HO121.out) hb);have BK124:=Aside0.mk (hbox);have GW124:=Aside0.mk ((bs_ : w.heap.size ≤ gb124));have GE124:=Aside0.mk ((bs_ : w.heap.size ≤ gb124));replace HB:=Aside0.mk (below_step bel_ hb);have NB117_124:=Aside0.mk ((by rw [hg];exact Nat.ne_of_lt (blk_lt (g:=gb117) (o:=.cells #[.int .i64 t108,.int .i64 t109,.int .i64 t110,.string t111,.int .i64 t112,.int .i64 t113,.int .i64 t114] 23 (0,0)) (blk_mv BK117.out)) : gb117 ≠ gb124));have NB124_117:=Aside0.mk ((by rw [hg];exact Nat.ne_of_gt (blk_lt (g:=gb117) (o:=.cells #[.int .i64 t108,.int .i64 t109,.int .i64 t110,.string t111,.int .i64 t112,.int .i64 t113,.int .i64 t114] 23 (0,0)) (blk_mv BK117.out)) : gb124 ≠ gb117));replace BK117:=Aside0.mk (blk_below (blk_mv BK117.out) hb);have NB118_124:=Aside0.mk ((by rw [hg];exact Nat.ne_of_lt (blk_lt (g:=gb118) (o:=.cells #[.int .i64 t115,.int .i64 t116] 26 (0,0)) (blk_mv BK118.out)) : gb118 ≠ gb124));have NB124_118:=Aside0.mk ((by rw [hg];exact Nat.ne_of_gt (blk_lt (g:=gb118) (o:=.cells #[.int .i64 t115,.int .i64 t116] 26 (0,0)) (blk_mv BK118.out)) : gb124 ≠ gb118));replace BK118:=Aside0.mk (blk_below (blk_mv BK118.out) hb);clear hb hbox hg;have hnb28:=NB124_117.out;have hnc28:=NB117_124.out;have hnb29:=NB124_118.out;have hnc29:=NB118_124.out;have hcz30_0:=blk_c (v:=.int .i64 0) BK124.out 0 rfl;have hcz30_1:=blk_c (v:=.int .i64 0) BK124.out 1 rfl;have hfz30_0:=blk_frozen BK124.out 0;have hfz30_1:=blk_frozen BK124.out 1;have hcz31_0:=blk_c (v:=.int .i64 t108) BK117.out 0 rfl;have hcz31_1:=blk_c (v:=.int .i64 t109) BK117.out 1 rfl;have hcz31_2:=blk_c (v:=.int .i64 t110) BK117.out 2 rfl;have hcz31_3:=blk_c (v:=.string t111) BK117.out 3 rfl;have hcz31_4:=blk_c (v:=.int .i64 t112) BK117.out 4 rfl;have hcz31_5:=blk_c (v:=.int .i64 t113) BK117.out 5 rfl;have hcz31_6:=blk_c (v:=.int .i64 t114) BK117.out 6 rfl;have hfz31_0:=blk_frozen BK117.out 0;have hfz31_1:=blk_frozen BK117.out 1;have hfz31_2:=blk_frozen BK117.out 2;have hfz31_3:=blk_frozen BK117.out 3;have hfz31_4:=blk_frozen BK117.out 4;have hfz31_5:=blk_frozen BK117.out 5;have hfz31_6:=blk_frozen BK117.out 6;obtain ⟨Ao32,co32,eo32⟩:=Kd.R_slice HO121.out;subst eo32)|((with_reducible refine gate_callee (f:=20) rfl ?_);refine goesL_ (some 22) rfl rfl Try.func20 (by kernel_rfl) rfl #[.int .i64 9,.int .i64 105,.int .i64 10,.slice Ao32 t119.length co32,.agg #[.int .i64 t108,.int .i64 t109,.int .i64 t110,.string t111,.int .i64 t112,.int .i64 t113,.int .i64 t114]] rfl ln_ ?_;(with_reducible refine (pushcert_Check.calls k 9 105 10 _ _ t119 t108 t109 t110 t111 t112 t113 t114 t125 t128 t129 _ ?side1 ?side2 A4.out).mono ?_);(case side1 => refine (Kd.R_reads' (e:=3) (base:=w.heap.size) (ok:=fun k_ => True) (n:=t119.length) (c:=co32) ?_).2.2;exact (by (with_reducible repeat (first|apply Kd.R_alloc|apply Kd.R_drewN|apply Kd.R_drew));exact (Kd.R_mono (Kd.R_far (p:=⟨gb124,1,none⟩) (Kd.R_far (p:=⟨gb124,0,none⟩) (Kd.R_types HO121.out BK124.out (by decide)) (fun _ hk => hk.2) (.int .i64 t122)) (fun _ hk => hk.2) (.int .i64 t123)) (fun _ h_ => h_.1))));(case side2 => exact (Kd.R_reads' HO121.out).2.1);rintro e w33 ⟨v126,rfl,ho0,hb⟩;refine ⟨_,rfl,?_⟩;have HO127:=Aside0.mk (Kd.R_lower (Kd.R_new' ho0 (Kd.R_lt (by (with_reducible repeat (first|apply Kd.R_alloc|apply Kd.R_drewN|apply Kd.R_drew));exact (Kd.R_mono (Kd.R_far (p:=⟨gb124,1,none⟩) (Kd.R_far (p:=⟨gb124,0,none⟩) (Kd.R_types HO121.out BK124.out (by decide)) (fun _ hk => hk.2) (.int .i64 t122)) (fun _ hk => hk.2) (.int .i64 t123)) (fun _ h_ => h_.1))))) (below_size bel_));replace HO121:=Aside0.mk (Kd.R_elder' (by (with_reducible repeat (first|apply Kd.R_alloc|apply Kd.R_drewN|apply Kd.R_drew));exact (Kd.R_mono (Kd.R_far (p:=⟨gb124,1,none⟩) (Kd.R_far (p:=⟨gb124,0,none⟩) (Kd.R_types HO121.out BK124.out (by decide)) (fun _ hk => hk.2) (.int .i64 t122)) (fun _ hk => hk.2) (.int .i64 t123)) (fun _ h_ => h_.1))) (Kd.R_base ho0) hb);replace BK117:=Aside0.mk (blk_below (g:=gb117) (o:=.cells #[.int .i64 t108,.int .i64 t109,.int .i64 t110,.string t111,.int .i64 t112,.int .i64 t113,.int .i64 t114] 23 (0,0)) (by refine blk_mv ?_;refine blk_far ?_ NB117_124.out _;refine blk_mv ?_;refine blk_far ?_ NB117_124.out _;refine blk_mv ?_;exact BK117.out) hb);replace BK118:=Aside0.mk (blk_below (g:=gb118) (o:=.cells #[.int .i64 t115,.int .i64 t116] 26 (0,0)) (by refine blk_mv ?_;refine blk_far ?_ NB118_124.out _;refine blk_mv ?_;refine blk_far ?_ NB118_124.out _;refine blk_mv ?_;exact BK118.out) hb);replace BK124:=Aside0.mk (blk_below (g:=gb124) (o:=.cells #[.int .i64 t122,.int .i64 t123] 26 (0,0)) (by refine blk_mv ?_;refine blk_put (cs:=#[.int .i64 t122,.int .i64 0]) ?_ 1 _ rfl;refine blk_mv ?_;refine blk_put (cs:=#[.int .i64 0,.int .i64 0]) ?_ 0 _ rfl;refine blk_mv ?_;exact BK124.out) hb);replace HB:=Aside0.mk (below_step bel_ hb);(try clear hb);(try clear hb2);(try clear hk);(try clear hi);(try clear ho0))|((with_reducible refine gate_dst (N:=6) rfl ?_);(try (refine gate_guard (by rfl) ?_;dsimp only));refine box_event ?hg (N:=6) ?hd (cs:=#[.int .i64 0,.int .i64 0]) (t:=26) ?hr ?_;(case hd => rfl);(case hg => rfl);(case hr => first|(go_simp;done)|(go_simp;rfl));intro gb130 hg w34 hbox hb;replace HO121:=Aside0.mk (Kd.R_below (Kd.R_mv HO121.out) hb);have BK130:=Aside0.mk (hbox);have GW130:=Aside0.mk ((bs_ : w.heap.size ≤ gb130));have GE130:=Aside0.mk ((bs_ : w.heap.size ≤ gb130));replace HB:=Aside0.mk (below_step bel_ hb);have NB117_130:=Aside0.mk ((by rw [hg];exact Nat.ne_of_lt (blk_lt (g:=gb117) (o:=.cells #[.int .i64 t108,.int .i64 t109,.int .i64 t110,.string t111,.int .i64 t112,.int .i64 t113,.int .i64 t114] 23 (0,0)) (blk_mv BK117.out)) : gb117 ≠ gb130));have NB130_117:=Aside0.mk ((by rw [hg];exact Nat.ne_of_gt (blk_lt (g:=gb117) (o:=.cells #[.int .i64 t108,.int .i64 t109,.int .i64 t110,.string t111,.int .i64 t112,.int .i64 t113,.int .i64 t114] 23 (0,0)) (blk_mv BK117.out)) : gb130 ≠ gb117));replace BK117:=Aside0.mk (blk_below (blk_mv BK117.out) hb);have NB118_130:=Aside0.mk ((by rw [hg];exact Nat.ne_of_lt (blk_lt (g:=gb118) (o:=.cells #[.int .i64 t115,.int .i64 t116] 26 (0,0)) (blk_mv BK118.out)) : gb118 ≠ gb130));have NB130_118:=Aside0.mk ((by rw [hg];exact Nat.ne_of_gt (blk_lt (g:=gb118) (o:=.cells #[.int .i64 t115,.int .i64 t116] 26 (0,0)) (blk_mv BK118.out)) : gb130 ≠ gb118));replace BK118:=Aside0.mk (blk_below (blk_mv BK118.out) hb);have NB124_130:=Aside0.mk ((by rw [hg];exact Nat.ne_of_lt (blk_lt (g:=gb124) (o:=.cells #[.int .i64 t122,.int .i64 t123] 26 (0,0)) (blk_mv BK124.out)) : gb124 ≠ gb130));have NB130_124:=Aside0.mk ((by rw [hg];exact Nat.ne_of_gt (blk_lt (g:=gb124) (o:=.cells #[.int .i64 t122,.int .i64 t123] 26 (0,0)) (blk_mv BK124.out)) : gb130 ≠ gb124));replace BK124:=Aside0.mk (blk_below (blk_mv BK124.out) hb);clear hb hbox hg;have hnb35:=NB130_117.out;have hnc35:=NB117_130.out;have hnb36:=NB130_118.out;have hnc36:=NB118_130.out;have hnb37:=NB130_124.out;have hnc37:=NB124_130.out;have hcz38_0:=blk_c (v:=.int .i64 0) BK130.out 0 rfl;have hcz38_1:=blk_c (v:=.int .i64 0) BK130.out 1 rfl;have hfz38_0:=blk_frozen BK130.out 0;have hfz38_1:=blk_frozen BK130.out 1;have hcz39_0:=blk_c (v:=.int .i64 t108) BK117.out 0 rfl;have hcz39_1:=blk_c (v:=.int .i64 t109) BK117.out 1 rfl;have hcz39_2:=blk_c (v:=.int .i64 t110) BK117.out 2 rfl;have hcz39_3:=blk_c (v:=.string t111) BK117.out 3 rfl;have hcz39_4:=blk_c (v:=.int .i64 t112) BK117.out 4 rfl;have hcz39_5:=blk_c (v:=.int .i64 t113) BK117.out 5 rfl;have hcz39_6:=blk_c (v:=.int .i64 t114) BK117.out 6 rfl;have hfz39_0:=blk_frozen BK117.out 0;have hfz39_1:=blk_frozen BK117.out 1;have hfz39_2:=blk_frozen BK117.out 2;have hfz39_3:=blk_frozen BK117.out 3;have hfz39_4:=blk_frozen BK117.out 4;have hfz39_5:=blk_frozen BK117.out 5;have hfz39_6:=blk_frozen BK117.out 6)|((with_reducible refine gate_callee (f:=20) rfl ?_);refine goesL_ (some 27) rfl rfl Try.func20 (by kernel_rfl) rfl #[.int .i64 9,.int .i64 111,.int .i64 10,.slice none 0 0,.agg #[.int .i64 t108,.int .i64 t109,.int .i64 t110,.string t111,.int .i64 t112,.int .i64 t113,.int .i64 t114]] rfl ln_ ?_;(refine (pushcert_Check.calls k 9 111 10 _ _ ([] : List Int) t108 t109 t110 t111 t112 t113 t114 t131 t134 t135 _ ?side1 ?side2 A5.out).mono ?_);(case side1 => exact Kd.C_nil _ _);(case side2 => exact Nat.le_refl _);rintro e w40 ⟨v132,rfl,ho0,hb⟩;refine ⟨_,rfl,?_⟩;have HO133:=Aside0.mk (Kd.R_lower (Kd.R_new' ho0 (Kd.R_lt (by (with_reducible repeat (first|apply Kd.R_alloc|apply Kd.R_drewN|apply Kd.R_drew));exact (Kd.R_mono (Kd.R_far (p:=⟨gb130,1,none⟩) (Kd.R_far (p:=⟨gb130,0,none⟩) (Kd.R_types HO121.out BK130.out (by decide)) (fun _ hk => hk.2) (.int .i64 t128)) (fun _ hk => hk.2) (.int .i64 t129)) (fun _ h_ => h_.1))))) (below_size bel_));replace HO121:=Aside0.mk (Kd.R_elder' (by (with_reducible repeat (first|apply Kd.R_alloc|apply Kd.R_drewN|apply Kd.R_drew));exact (Kd.R_mono (Kd.R_far (p:=⟨gb130,1,none⟩) (Kd.R_far (p:=⟨gb130,0,none⟩) (Kd.R_types HO121.out BK130.out (by decide)) (fun _ hk => hk.2) (.int .i64 t128)) (fun _ hk => hk.2) (.int .i64 t129)) (fun _ h_ => h_.1))) (Kd.R_base ho0) hb);replace BK117:=Aside0.mk (blk_below (g:=gb117) (o:=.cells #[.int .i64 t108,.int .i64 t109,.int .i64 t110,.string t111,.int .i64 t112,.int .i64 t113,.int .i64 t114] 23 (0,0)) (by refine blk_mv ?_;refine blk_far ?_ NB117_130.out _;refine blk_mv ?_;refine blk_far ?_ NB117_130.out _;refine blk_mv ?_;exact BK117.out) hb);replace BK118:=Aside0.mk (blk_below (g:=gb118) (o:=.cells #[.int .i64 t115,.int .i64 t116] 26 (0,0)) (by refine blk_mv ?_;refine blk_far ?_ NB118_130.out _;refine blk_mv ?_;refine blk_far ?_ NB118_130.out _;refine blk_mv ?_;exact BK118.out) hb);replace BK124:=Aside0.mk (blk_below (g:=gb124) (o:=.cells #[.int .i64 t122,.int .i64 t123] 26 (0,0)) (by refine blk_mv ?_;refine blk_far ?_ NB124_130.out _;refine blk_mv ?_;refine blk_far ?_ NB124_130.out _;refine blk_mv ?_;exact BK124.out) hb);replace BK130:=Aside0.mk (blk_below (g:=gb130) (o:=.cells #[.int .i64 t128,.int .i64 t129] 26 (0,0)) (by refine blk_mv ?_;refine blk_put (cs:=#[.int .i64 t128,.int .i64 0]) ?_ 1 _ rfl;refine blk_mv ?_;refine blk_put (cs:=#[.int .i64 0,.int .i64 0]) ?_ 0 _ rfl;refine blk_mv ?_;exact BK130.out) hb);replace HB:=Aside0.mk (below_step bel_ hb);(try clear hb);(try clear hb2);(try clear hk);(try clear hi);(try clear ho0))|((with_reducible refine gate_dst (N:=8) rfl ?_);(try (refine gate_guard (by rfl) ?_;dsimp only));refine box_event ?hg (N:=8) ?hd (cs:=#[.int .i64 0,.int .i64 0]) (t:=26) ?hr ?_;(case hd => rfl);(case hg => rfl);(case hr => first|(go_simp;done)|(go_simp;rfl));intro gb136 hg w41 hbox hb;replace HO121:=Aside0.mk (Kd.R_below (Kd.R_mv HO121.out) hb);have BK136:=Aside0.mk (hbox);have GW136:=Aside0.mk ((bs_ : w.heap.size ≤ gb136));have GE136:=Aside0.mk ((bs_ : w.heap.size ≤ gb136));replace HB:=Aside0.mk (below_step bel_ hb);have NB117_136:=Aside0.mk ((by rw [hg];exact Nat.ne_of_lt (blk_lt (g:=gb117) (o:=.cells #[.int .i64 t108,.int .i64 t109,.int .i64 t110,.string t111,.int .i64 t112,.int .i64 t113,.int .i64 t114] 23 (0,0)) (blk_mv BK117.out)) : gb117 ≠ gb136));have NB136_117:=Aside0.mk ((by rw [hg];exact Nat.ne_of_gt (blk_lt (g:=gb117) (o:=.cells #[.int .i64 t108,.int .i64 t109,.int .i64 t110,.string t111,.int .i64 t112,.int .i64 t113,.int .i64 t114] 23 (0,0)) (blk_mv BK117.out)) : gb136 ≠ gb117));replace BK117:=Aside0.mk (blk_below (blk_mv BK117.out) hb);have NB118_136:=Aside0.mk ((by rw [hg];exact Nat.ne_of_lt (blk_lt (g:=gb118) (o:=.cells #[.int .i64 t115,.int .i64 t116] 26 (0,0)) (blk_mv BK118.out)) : gb118 ≠ gb136));have NB136_118:=Aside0.mk ((by rw [hg];exact Nat.ne_of_gt (blk_lt (g:=gb118) (o:=.cells #[.int .i64 t115,.int .i64 t116] 26 (0,0)) (blk_mv BK118.out)) : gb136 ≠ gb118));replace BK118:=Aside0.mk (blk_below (blk_mv BK118.out) hb);have NB124_136:=Aside0.mk ((by rw [hg];exact Nat.ne_of_lt (blk_lt (g:=gb124) (o:=.cells #[.int .i64 t122,.int .i64 t123] 26 (0,0)) (blk_mv BK124.out)) : gb124 ≠ gb136));have NB136_124:=Aside0.mk ((by rw [hg];exact Nat.ne_of_gt (blk_lt (g:=gb124) (o:=.cells #[.int .i64 t122,.int .i64 t123] 26 (0,0)) (blk_mv BK124.out)) : gb136 ≠ gb124));replace BK124:=Aside0.mk (blk_below (blk_mv BK124.out) hb);have NB130_136:=Aside0.mk ((by rw [hg];exact Nat.ne_of_lt (blk_lt (g:=gb130) (o:=.cells #[.int .i64 t128,.int .i64 t129] 26 (0,0)) (blk_mv BK130.out)) : gb130 ≠ gb136));have NB136_130:=Aside0.mk ((by rw [hg];exact Nat.ne_of_gt (blk_lt (g:=gb130) (o:=.cells #[.int .i64 t128,.int .i64 t129] 26 (0,0)) (blk_mv BK130.out)) : gb136 ≠ gb130));replace BK130:=Aside0.mk (blk_below (blk_mv BK130.out) hb);clear hb hbox hg;have hnb42:=NB136_117.out;have hnc42:=NB117_136.out;have hnb43:=NB136_118.out;have hnc43:=NB118_136.out;have hnb44:=NB136_124.out;have hnc44:=NB124_136.out;have hnb45:=NB136_130.out;have hnc45:=NB130_136.out;have hcz46_0:=blk_c (v:=.int .i64 0) BK136.out 0 rfl;have hcz46_1:=blk_c (v:=.int .i64 0) BK136.out 1 rfl;have hfz46_0:=blk_frozen BK136.out 0;have hfz46_1:=blk_frozen BK136.out 1))
        have n0_ : Aside0 (Kd.R (Kd.int .i64) 3 ((w41.setCell ⟨gb136,0,none⟩ (.int .i64 t134)).setCell ⟨gb136,1,none⟩ (.int .i64 t135)) w.heap.size (fun _ => True) (.slice Ao32 t119.length co32) t119):=⟨by (with_reducible repeat (first|apply Kd.R_alloc|apply Kd.R_drewN|apply Kd.R_drew));exact Kd.R_mono (Kd.R_far (p:=⟨gb136,1,none⟩) (Kd.R_far (p:=⟨gb136,0,none⟩) (Kd.R_types HO121.out BK136.out (by decide)) (fun _ hk => hk.2) (.int .i64 t134)) (fun _ hk => hk.2) (.int .i64 t135)) (fun _ hk => trivial)⟩;have n1_ : Aside0 (((w41.setCell ⟨gb136,0,none⟩ (.int .i64 t134)).setCell ⟨gb136,1,none⟩ (.int .i64 t135)).heap[gb117]? = some (.cells #[.int .i64 t108,.int .i64 t109,.int .i64 t110,.string t111,.int .i64 t112,.int .i64 t113,.int .i64 t114] 23 (0,0))):=⟨by refine blk_mv ?_;refine blk_far ?_ NB117_136.out _;refine blk_mv ?_;refine blk_far ?_ NB117_136.out _;refine blk_mv ?_;exact BK117.out⟩;have n2_ : Aside0 (((w41.setCell ⟨gb136,0,none⟩ (.int .i64 t134)).setCell ⟨gb136,1,none⟩ (.int .i64 t135)).heap[gb118]? = some (.cells #[.int .i64 t115,.int .i64 t116] 26 (0,0))):=⟨by refine blk_mv ?_;refine blk_far ?_ NB118_136.out _;refine blk_mv ?_;refine blk_far ?_ NB118_136.out _;refine blk_mv ?_;exact BK118.out⟩;have n3_ : Aside0 (((w41.setCell ⟨gb136,0,none⟩ (.int .i64 t134)).setCell ⟨gb136,1,none⟩ (.int .i64 t135)).heap[gb124]? = some (.cells #[.int .i64 t122,.int .i64 t123] 26 (0,0))):=⟨by refine blk_mv ?_;refine blk_far ?_ NB124_136.out _;refine blk_mv ?_;refine blk_far ?_ NB124_136.out _;refine blk_mv ?_;exact BK124.out⟩;have n4_ : Aside0 (((w41.setCell ⟨gb136,0,none⟩ (.int .i64 t134)).setCell ⟨gb136,1,none⟩ (.int .i64 t135)).heap[gb130]? = some (.cells #[.int .i64 t128,.int .i64 t129] 26 (0,0))):=⟨by refine blk_mv ?_;refine blk_far ?_ NB130_136.out _;refine blk_mv ?_;refine blk_far ?_ NB130_136.out _;refine blk_mv ?_;exact BK130.out⟩;have n5_ : Aside0 (((w41.setCell ⟨gb136,0,none⟩ (.int .i64 t134)).setCell ⟨gb136,1,none⟩ (.int .i64 t135)).heap[gb136]? = some (.cells #[.int .i64 t134,.int .i64 t135] 26 (0,0))):=⟨by refine blk_mv ?_;refine blk_put (cs:=#[.int .i64 t134,.int .i64 0]) ?_ 1 _ rfl;refine blk_mv ?_;refine blk_put (cs:=#[.int .i64 0,.int .i64 0]) ?_ 0 _ rfl;refine blk_mv ?_;exact BK136.out⟩;have n6_ : Aside0 (Below w.heap.size w ((w41.setCell ⟨gb136,0,none⟩ (.int .i64 t134)).setCell ⟨gb136,1,none⟩ (.int .i64 t135))):=⟨bel_⟩;(try clear HO121);(try clear BK117);(try clear BK118);(try clear BK124);(try clear BK130);(try clear BK136);(try clear HB);generalize ((w41.setCell ⟨gb136,0,none⟩ (.int .i64 t134)).setCell ⟨gb136,1,none⟩ (.int .i64 t135)) = w47 at n0_ n1_ n2_ n3_ n4_ n5_ n6_ ⊢;have HO121:=n0_;have BK117:=n1_;have BK118:=n2_;have BK124:=n3_;have BK130:=n4_;have BK136:=n5_;have HB:=n6_;clear n0_ n1_ n2_ n3_ n4_ n5_ n6_;replace HO121:=Aside0.mk (Kd.R_drew HO121.out);replace BK117:=Aside0.mk (blk_drew BK117.out);replace BK118:=Aside0.mk (blk_drew BK118.out);replace BK124:=Aside0.mk (blk_drew BK124.out);replace BK130:=Aside0.mk (blk_drew BK130.out);replace BK136:=Aside0.mk (blk_drew BK136.out);replace HB:=Aside0.mk (below_drew1 HB.out);refine start_ (n:=37) (S:=fun w' => w'.cell? ⟨gb118,0,none⟩ = some (.int .i64 t115) ∧ w'.cell? ⟨gb118,1,none⟩ = some (.int .i64 t116) ∧ w'.cell? ⟨gb124,0,none⟩ = some (.int .i64 t122) ∧ w'.cell? ⟨gb124,1,none⟩ = some (.int .i64 t123) ∧ w'.cell? ⟨gb130,0,none⟩ = some (.int .i64 t128) ∧ w'.cell? ⟨gb130,1,none⟩ = some (.int .i64 t129) ∧ w'.cell? ⟨gb136,0,none⟩ = some (.int .i64 t134) ∧ w'.cell? ⟨gb136,1,none⟩ = some (.int .i64 t135)) (ds:=[]) (bl_ 37 0) (by kernel_rfl) rfl rfl ⟨(blk_cell BK118.out 0).trans rfl,(blk_cell BK118.out 1).trans rfl,(blk_cell BK124.out 0).trans rfl,(blk_cell BK124.out 1).trans rfl,(blk_cell BK130.out 0).trans rfl,(blk_cell BK130.out 1).trans rfl,(blk_cell BK136.out 0).trans rfl,(blk_cell BK136.out 1).trans rfl⟩ (fun hHeld => ?_);refine with_tabW changeforgelaw5_pushes.tab5 changeforgelaw5_pushes.bits5 (fun HT_ HW_ => ?_);generalize w47.drew = w48 at HO121 BK117 BK118 BK124 BK130 BK136 HB hHeld ⊢;refine one_ (i:=0) (N:=some 30) (bl_ 37 1) rfl rfl (one_of HT_.out (by kernel_rfl)) (by decide) (fun K hK => ?_);refine goes_ Try.func26 (by kernel_rfl) rfl #[] (by rfl) rfl rfl ln_ ?_;with_reducible refine (changeforgelaw5_signs.calls k  true _ A6.out).mono ?_
        rintro e w49 ⟨rfl,hb⟩;refine ⟨_,rfl,?_⟩;replace HO121:=Aside0.mk (Kd.R_below (Kd.R_mv HO121.out) hb);replace BK117:=Aside0.mk (blk_below (blk_mv BK117.out) hb);replace BK118:=Aside0.mk (blk_below (blk_mv BK118.out) hb);replace BK124:=Aside0.mk (blk_below (blk_mv BK124.out) hb);replace BK130:=Aside0.mk (blk_below (blk_mv BK130.out) hb);replace BK136:=Aside0.mk (blk_below (blk_mv BK136.out) hb);replace HB:=Aside0.mk (below_step bel_ hb);(try clear hb);refine hK.out _ _ ⟨(blk_cell BK118.out 0).trans rfl,(blk_cell BK118.out 1).trans rfl,(blk_cell BK124.out 0).trans rfl,(blk_cell BK124.out 1).trans rfl,(blk_cell BK130.out 0).trans rfl,(blk_cell BK130.out 1).trans rfl,(blk_cell BK136.out 0).trans rfl,(blk_cell BK136.out 1).trans rfl⟩ (fun hHeld => ?_);clear hK K;refine norm_ (a':=?_) ?_ ?_;rotate_left
        ·show Act.put _ (some 30) _ = _
         simp only [Act.put,sa_,sb_,sc_,i64_w,i32_w];rfl
        refine pu_ (v:=?_) (a':=?_) 1 31 (bl_ 37 3) rfl rfl HT_.out ?_ ?_ ?_;rotate_left
        ·intro w'
         go_simp;with_reducible rfl
        rotate_left
        ·simp only [Act.put,sa_,sb_,sc_,i64_w,i32_w]
         rfl
        refine one_ (i:=2) (N:=some 32) (bl_ 37 7) rfl rfl (one_of HT_.out (by kernel_rfl)) (by decide) (fun K hK => ?_);refine goes_ Try.func27 (by kernel_rfl) rfl #[.int .i64 9,.int .i64 100] (by rfl) rfl rfl ln_ ?_;with_reducible refine (changeforgelaw5_nonce.calls k 9 100 t138 _ A8.out).mono ?_
        rintro e w50 ⟨rfl,hb⟩;refine ⟨_,rfl,?_⟩;replace HO121:=Aside0.mk (Kd.R_below (Kd.R_mv HO121.out) hb);replace BK117:=Aside0.mk (blk_below (blk_mv BK117.out) hb);replace BK118:=Aside0.mk (blk_below (blk_mv BK118.out) hb);replace BK124:=Aside0.mk (blk_below (blk_mv BK124.out) hb);replace BK130:=Aside0.mk (blk_below (blk_mv BK130.out) hb);replace BK136:=Aside0.mk (blk_below (blk_mv BK136.out) hb);replace HB:=Aside0.mk (below_step bel_ hb);(try clear hb);refine hK.out _ _ ⟨(blk_cell BK118.out 0).trans rfl,(blk_cell BK118.out 1).trans rfl,(blk_cell BK124.out 0).trans rfl,(blk_cell BK124.out 1).trans rfl,(blk_cell BK130.out 0).trans rfl,(blk_cell BK130.out 1).trans rfl,(blk_cell BK136.out 0).trans rfl,(blk_cell BK136.out 1).trans rfl⟩ (fun hHeld => ?_);clear hK K;refine norm_ (a':=?_) ?_ ?_;rotate_left
        ·show Act.put _ (some 32) _ = _
         simp only [Act.put,sa_,sb_,sc_,i64_w,i32_w];rfl
        refine pu_ (v:=?_) (a':=?_) 3 33 (bl_ 37 15) rfl rfl HT_.out ?_ ?_ ?_;rotate_left
        ·intro w'
         go_simp;with_reducible rfl
        rotate_left
        ·simp only [Act.put,sa_,sb_,sc_,i64_w,i32_w]
         rfl
        refine pu_ (v:=?_) (a':=?_) 4 34 (bl_ 37 31) rfl rfl HT_.out ?_ ?_ ?_;rotate_left
        ·intro w'
         go_simp;with_reducible rfl
        rotate_left
        ·simp only [Act.put,sa_,sb_,sc_,i64_w,i32_w]
         rfl
        refine pu_ (v:=?_) (a':=?_) 5 35 (bl_ 37 63) rfl rfl HT_.out ?_ ?_ ?_;rotate_left
        ·intro w'
         go_simp;with_reducible rfl
        rotate_left
        ·simp only [Act.put,sa_,sb_,sc_,i64_w,i32_w]
         rfl
        refine pu_ (v:=?_) (a':=?_) 6 36 (bl_ 37 127) rfl rfl HT_.out ?_ ?_ ?_;rotate_left
        ·intro w'
         go_simp;with_reducible rfl
        rotate_left
        ·simp only [Act.put,sa_,sb_,sc_,i64_w,i32_w]
         rfl
        refine tk_ (v:=?_) (a':=?_) 7 37 (bl_ 37 255) rfl rfl HT_.out HW_.out ?_ hHeld ?_ ?_;rotate_left
        ·rintro w' ⟨s0,s1,s2,s3,s4,s5,s6,s7⟩
         go_simp;with_reducible rfl
        rotate_left
        ·simp only [Act.put,sa_,sb_,sc_,i64_w,i32_w]
         rfl
        refine pu_ (v:=?_) (a':=?_) 8 38 (bl_ 37 511) rfl rfl HT_.out ?_ ?_ ?_;rotate_left
        ·intro w'
         go_simp;with_reducible rfl
        rotate_left
        ·simp only [Act.put,sa_,sb_,sc_,i64_w,i32_w]
         rfl
        refine pu_ (v:=?_) (a':=?_) 9 39 (bl_ 37 1023) rfl rfl HT_.out ?_ ?_ ?_;rotate_left
        ·intro w'
         go_simp;with_reducible rfl
        rotate_left
        ·simp only [Act.put,sa_,sb_,sc_,i64_w,i32_w]
         rfl
        refine pu_ (v:=?_) (a':=?_) 10 40 (bl_ 37 2047) rfl rfl HT_.out ?_ ?_ ?_;rotate_left
        ·intro w'
         go_simp;with_reducible rfl
        rotate_left
        ·simp only [Act.put,sa_,sb_,sc_,i64_w,i32_w]
         rfl
        refine pu_ (v:=?_) (a':=?_) 11 41 (bl_ 37 4095) rfl rfl HT_.out ?_ ?_ ?_;rotate_left
        ·intro w'
         go_simp;with_reducible rfl
        rotate_left
        ·simp only [Act.put,sa_,sb_,sc_,i64_w,i32_w]
         rfl
        refine tk_ (v:=?_) (a':=?_) 12 42 (bl_ 37 8191) rfl rfl HT_.out HW_.out ?_ hHeld ?_ ?_;rotate_left
        ·rintro w' ⟨s0,s1,s2,s3,s4,s5,s6,s7⟩
         go_simp;with_reducible rfl
        rotate_left
        ·simp only [Act.put,sa_,sb_,sc_,i64_w,i32_w]
         rfl
        refine pu_ (v:=?_) (a':=?_) 13 43 (bl_ 37 16383) rfl rfl HT_.out ?_ ?_ ?_;rotate_left
        ·intro w'
         go_simp;with_reducible rfl
        rotate_left
        ·simp only [Act.put,sa_,sb_,sc_,i64_w,i32_w]
         rfl
        refine pu_ (v:=?_) (a':=?_) 14 44 (bl_ 37 32767) rfl rfl HT_.out ?_ ?_ ?_;rotate_left
        ·intro w'
         go_simp;with_reducible rfl
        rotate_left
        ·simp only [Act.put,sa_,sb_,sc_,i64_w,i32_w]
         rfl
        refine pu_ (v:=?_) (a':=?_) 15 45 (bl_ 37 65535) rfl rfl HT_.out ?_ ?_ ?_;rotate_left
        ·intro w'
         go_simp;with_reducible rfl
        rotate_left
        ·simp only [Act.put,sa_,sb_,sc_,i64_w,i32_w]
         rfl
        refine pu_ (v:=?_) (a':=?_) 16 46 (bl_ 37 131071) rfl rfl HT_.out ?_ ?_ ?_;rotate_left
        ·intro w'
         go_simp;with_reducible rfl
        rotate_left
        ·simp only [Act.put,sa_,sb_,sc_,i64_w,i32_w]
         rfl
        refine pu_ (v:=?_) (a':=?_) 17 47 (bl_ 37 262143) rfl rfl HT_.out ?_ ?_ ?_;rotate_left
        ·intro w'
         go_simp;with_reducible rfl
        rotate_left
        ·simp only [Act.put,sa_,sb_,sc_,i64_w,i32_w]
         rfl
        refine pu_ (v:=?_) (a':=?_) 18 48 (bl_ 37 524287) rfl rfl HT_.out ?_ ?_ ?_;rotate_left
        ·intro w'
         go_simp;with_reducible rfl
        rotate_left
        ·simp only [Act.put,sa_,sb_,sc_,i64_w,i32_w]
         rfl
        refine pu_ (v:=?_) (a':=?_) 19 49 (bl_ 37 1048575) rfl rfl HT_.out ?_ ?_ ?_;rotate_left
        ·intro w'
         go_simp;with_reducible rfl
        rotate_left
        ·simp only [Act.put,sa_,sb_,sc_,i64_w,i32_w]
         rfl
        refine pu_ (v:=?_) (a':=?_) 20 50 (bl_ 37 2097151) rfl rfl HT_.out ?_ ?_ ?_;rotate_left
        ·intro w'
         go_simp;with_reducible rfl
        rotate_left
        ·simp only [Act.put,sa_,sb_,sc_,i64_w,i32_w]
         rfl
        refine tk_ (v:=?_) (a':=?_) 21 51 (bl_ 37 4194303) rfl rfl HT_.out HW_.out ?_ hHeld ?_ ?_;rotate_left
        ·rintro w' ⟨s0,s1,s2,s3,s4,s5,s6,s7⟩
         go_simp;with_reducible rfl
        rotate_left
        ·simp only [Act.put,sa_,sb_,sc_,i64_w,i32_w]
         rfl
        refine one_ (i:=22) (N:=some 52) (bl_ 37 8388607) rfl rfl (one_of HT_.out (by kernel_rfl)) (by decide) (fun K hK => ?_);refine goes_ Try.func11 (by kernel_rfl) rfl #[.int .i64 7,.int .i64 0] (by rfl) rfl rfl ln_ ?_;with_reducible refine (changeforgelaw5_fault.calls 7 0 t139 t140 _ A13.out).mono ?_
        rintro e w51 ⟨rfl,hb⟩;refine ⟨_,rfl,?_⟩;replace HO121:=Aside0.mk (Kd.R_below (Kd.R_mv HO121.out) hb);replace BK117:=Aside0.mk (blk_below (blk_mv BK117.out) hb);replace BK118:=Aside0.mk (blk_below (blk_mv BK118.out) hb);replace BK124:=Aside0.mk (blk_below (blk_mv BK124.out) hb);replace BK130:=Aside0.mk (blk_below (blk_mv BK130.out) hb);replace BK136:=Aside0.mk (blk_below (blk_mv BK136.out) hb);replace HB:=Aside0.mk (below_step bel_ hb);(try clear hb);refine hK.out _ _ ⟨(blk_cell BK118.out 0).trans rfl,(blk_cell BK118.out 1).trans rfl,(blk_cell BK124.out 0).trans rfl,(blk_cell BK124.out 1).trans rfl,(blk_cell BK130.out 0).trans rfl,(blk_cell BK130.out 1).trans rfl,(blk_cell BK136.out 0).trans rfl,(blk_cell BK136.out 1).trans rfl⟩ (fun hHeld => ?_);clear hK K;refine norm_ (a':=?_) ?_ ?_;rotate_left
        ·show Act.put _ (some 52) _ = _
         simp only [Act.put,sa_,sb_,sc_,i64_w,i32_w];rfl
        refine pu_ (v:=?_) (a':=?_) 23 53 (bl_ 37 16777215) rfl rfl HT_.out ?_ ?_ ?_;rotate_left
        ·intro w'
         go_simp;with_reducible rfl
        rotate_left
        ·simp only [Act.put,sa_,sb_,sc_,i64_w,i32_w]
         rfl
        refine pu_ (v:=?_) (a':=?_) 24 54 (bl_ 37 33554431) rfl rfl HT_.out ?_ ?_ ?_;rotate_left
        ·intro w'
         go_simp;with_reducible rfl
        rotate_left
        ·simp only [Act.put,sa_,sb_,sc_,i64_w,i32_w]
         rfl
        refine pu_ (v:=?_) (a':=?_) 25 55 (bl_ 37 67108863) rfl rfl HT_.out ?_ ?_ ?_;rotate_left
        ·intro w'
         go_simp;with_reducible rfl
        rotate_left
        ·simp only [Act.put,sa_,sb_,sc_,i64_w,i32_w]
         rfl
        refine tk_ (v:=?_) (a':=?_) 26 56 (bl_ 37 134217727) rfl rfl HT_.out HW_.out ?_ hHeld ?_ ?_;rotate_left
        ·rintro w' ⟨s0,s1,s2,s3,s4,s5,s6,s7⟩
         go_simp;with_reducible rfl
        rotate_left
        ·simp only [Act.put,sa_,sb_,sc_,i64_w,i32_w]
         rfl
        refine one_ (i:=27) (N:=some 57) (bl_ 37 268435455) rfl rfl (one_of HT_.out (by kernel_rfl)) (by decide) (fun K hK => ?_);refine goes_ Try.func11 (by kernel_rfl) rfl #[.int .i64 16,.int .i64 0] (by rfl) rfl rfl ln_ ?_;with_reducible refine (changeforgelaw5_fault.calls 16 0 t141 t142 _ A15.out).mono ?_
        rintro e w52 ⟨rfl,hb⟩;refine ⟨_,rfl,?_⟩;replace HO121:=Aside0.mk (Kd.R_below (Kd.R_mv HO121.out) hb);replace BK117:=Aside0.mk (blk_below (blk_mv BK117.out) hb);replace BK118:=Aside0.mk (blk_below (blk_mv BK118.out) hb);replace BK124:=Aside0.mk (blk_below (blk_mv BK124.out) hb);replace BK130:=Aside0.mk (blk_below (blk_mv BK130.out) hb);replace BK136:=Aside0.mk (blk_below (blk_mv BK136.out) hb);replace HB:=Aside0.mk (below_step bel_ hb);(try clear hb);refine hK.out _ _ ⟨(blk_cell BK118.out 0).trans rfl,(blk_cell BK118.out 1).trans rfl,(blk_cell BK124.out 0).trans rfl,(blk_cell BK124.out 1).trans rfl,(blk_cell BK130.out 0).trans rfl,(blk_cell BK130.out 1).trans rfl,(blk_cell BK136.out 0).trans rfl,(blk_cell BK136.out 1).trans rfl⟩ (fun hHeld => ?_);clear hK K;refine norm_ (a':=?_) ?_ ?_;rotate_left
        ·show Act.put _ (some 57) _ = _
         simp only [Act.put,sa_,sb_,sc_,i64_w,i32_w];rfl
        refine pu_ (v:=?_) (a':=?_) 28 58 (bl_ 37 536870911) rfl rfl HT_.out ?_ ?_ ?_;rotate_left
        ·intro w'
         go_simp;with_reducible rfl
        rotate_left
        ·simp only [Act.put,sa_,sb_,sc_,i64_w,i32_w]
         rfl
        refine pu_ (v:=?_) (a':=?_) 29 59 (bl_ 37 1073741823) rfl rfl HT_.out ?_ ?_ ?_;rotate_left
        ·intro w'
         go_simp;with_reducible rfl
        rotate_left
        ·simp only [Act.put,sa_,sb_,sc_,i64_w,i32_w]
         rfl
        refine pu_ (v:=?_) (a':=?_) 30 60 (bl_ 37 2147483647) rfl rfl HT_.out ?_ ?_ ?_;rotate_left
        ·intro w'
         go_simp;with_reducible rfl
        rotate_left
        ·simp only [Act.put,sa_,sb_,sc_,i64_w,i32_w]
         rfl
        refine pu_ (v:=?_) (a':=?_) 31 61 (bl_ 37 4294967295) rfl rfl HT_.out ?_ ?_ ?_;rotate_left
        ·intro w'
         go_simp;with_reducible rfl
        rotate_left
        ·simp only [Act.put,sa_,sb_,sc_,i64_w,i32_w]
         rfl
        refine one_ (i:=32) (N:=some 62) (bl_ 37 8589934591) rfl rfl (one_of HT_.out (by kernel_rfl)) (by decide) (fun K hK => ?_);refine goes_ Try.func17 (by kernel_rfl) rfl #[.agg #[.int .i64 0,.int .i64 0,.int .i64 0,.string (⟨#[]⟩ : ByteArray),.int .i64 0,.int .i64 0,.int .i64 0]] (by rfl) rfl rfl ln_ ?_;with_reducible refine (pushcert_Validate.calls k 0 0 0 (⟨#[]⟩ : ByteArray) 0 0 0 t143 t144 _ A17.out).mono ?_
        rintro e w53 ⟨rfl,hb⟩;refine ⟨_,rfl,?_⟩;replace HO121:=Aside0.mk (Kd.R_below (Kd.R_mv HO121.out) hb);replace BK117:=Aside0.mk (blk_below (blk_mv BK117.out) hb);replace BK118:=Aside0.mk (blk_below (blk_mv BK118.out) hb);replace BK124:=Aside0.mk (blk_below (blk_mv BK124.out) hb);replace BK130:=Aside0.mk (blk_below (blk_mv BK130.out) hb);replace BK136:=Aside0.mk (blk_below (blk_mv BK136.out) hb);replace HB:=Aside0.mk (below_step bel_ hb);(try clear hb);refine hK.out _ _ ⟨(blk_cell BK118.out 0).trans rfl,(blk_cell BK118.out 1).trans rfl,(blk_cell BK124.out 0).trans rfl,(blk_cell BK124.out 1).trans rfl,(blk_cell BK130.out 0).trans rfl,(blk_cell BK130.out 1).trans rfl,(blk_cell BK136.out 0).trans rfl,(blk_cell BK136.out 1).trans rfl⟩ (fun hHeld => ?_);clear hK K;refine norm_ (a':=?_) ?_ ?_;rotate_left
        ·show Act.put _ (some 62) _ = _
         simp only [Act.put,sa_,sb_,sc_,i64_w,i32_w];rfl
        refine one_ (i:=33) (N:=some 63) (bl_ 37 17179869183) rfl rfl (one_of HT_.out (by kernel_rfl)) (by decide) (fun K hK => ?_);refine goes_ Try.func11 (by kernel_rfl) rfl #[.int .i64 3,.int .i64 0] (by rfl) rfl rfl ln_ ?_;with_reducible refine (changeforgelaw5_fault.calls 3 0 t145 t146 _ A18.out).mono ?_
        rintro e w54 ⟨rfl,hb⟩;refine ⟨_,rfl,?_⟩;replace HO121:=Aside0.mk (Kd.R_below (Kd.R_mv HO121.out) hb);replace BK117:=Aside0.mk (blk_below (blk_mv BK117.out) hb);replace BK118:=Aside0.mk (blk_below (blk_mv BK118.out) hb);replace BK124:=Aside0.mk (blk_below (blk_mv BK124.out) hb);replace BK130:=Aside0.mk (blk_below (blk_mv BK130.out) hb);replace BK136:=Aside0.mk (blk_below (blk_mv BK136.out) hb);replace HB:=Aside0.mk (below_step bel_ hb);(try clear hb);refine hK.out _ _ ⟨(blk_cell BK118.out 0).trans rfl,(blk_cell BK118.out 1).trans rfl,(blk_cell BK124.out 0).trans rfl,(blk_cell BK124.out 1).trans rfl,(blk_cell BK130.out 0).trans rfl,(blk_cell BK130.out 1).trans rfl,(blk_cell BK136.out 0).trans rfl,(blk_cell BK136.out 1).trans rfl⟩ (fun hHeld => ?_);clear hK K;refine norm_ (a':=?_) ?_ ?_;rotate_left
        ·show Act.put _ (some 63) _ = _
         simp only [Act.put,sa_,sb_,sc_,i64_w,i32_w];rfl
        refine pu_ (v:=?_) (a':=?_) 34 64 (bl_ 37 34359738367) rfl rfl HT_.out ?_ ?_ ?_;rotate_left
        ·intro w'
         go_simp;with_reducible rfl
        rotate_left
        ·simp only [Act.put,sa_,sb_,sc_,i64_w,i32_w]
         rfl
        refine pu_ (v:=?_) (a':=?_) 35 65 (bl_ 37 68719476735) rfl rfl HT_.out ?_ ?_ ?_;rotate_left
        ·intro w'
         go_simp;with_reducible rfl
        rotate_left
        ·simp only [Act.put,sa_,sb_,sc_,i64_w,i32_w]
         rfl
        refine pu_ (v:=?_) (a':=?_) 36 0 (bl_ 37 137438953471) rfl rfl HT_.out ?_ ?_ ?_;rotate_left
        ·intro w'
         go_simp;with_reducible rfl
        rotate_left
        ·simp only [Act.put,sa_,sb_,sc_,i64_w,i32_w]
         rfl
        refine done_ (done_of HT_.out (by kernel_rfl)) ?_;try go_wp2
        go_ret;exact ⟨by first|rfl|(simp [errW_none,errW_some] <;> rfl)|(simp [*,errW_none,errW_some] <;> rfl),bel_⟩
       ·rw [if_neg c16] at H
        exact absurd H (by simp)
      ·rw [if_neg c14] at H
       exact absurd H (by simp)
     ·rw [if_neg c12] at H
      exact absurd H (by simp)
    ·rw [if_neg c11] at H
     exact absurd H (by simp)
   ·rw [if_neg c10] at H
    exact absurd H (by simp)
  ·rw [if_neg c9] at H
   exact absurd H (by simp)
 ·replace c7:=Bool.eq_false_iff.mpr c7
  subst c7;have H1 : (none) = some r:=by rw [if_neg (show ¬ (false = true) by decide)] at H;exact H
  clear H;have H:=H1;clear H1;exact absurd H (by simp)

end Go.Proofs.Ytlbjefoipljkgaa.Fn
