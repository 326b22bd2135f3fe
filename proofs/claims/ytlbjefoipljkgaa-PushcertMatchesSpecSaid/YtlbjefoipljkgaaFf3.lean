/- A function of the program as a plain Lean function, and the proof that the call comes to just what it says (written by wip/tools/xprint.py for this claim). Condition: the plain function has an answer. -/
import Derived.Test.YtlbjefoipljkgaaFn0
import Derived.Test.YtlbjefoipljkgaaFf13
import Derived.Test.YtlbjefoipljkgaaFf14
import Derived.Test.YtlbjefoipljkgaaFf15
import Derived.Test.YtlbjefoipljkgaaFf16
import Derived.Test.YtlbjefoipljkgaaFf17
import Derived.Test.YtlbjefoipljkgaaFf18
import Derived.Test.YtlbjefoipljkgaaFf9
import Derived.Test.YtlbjefoipljkgaaFs0
import Derived.Test.YtlbjefoipljkgaaWA
import Derived.Test.YtlbjefoipljkgaaTight
namespace Go.Proofs.Ytlbjefoipljkgaa.Fn
open Go.RowKit Go.Proofs.YtlbjefoipljkgaaW.PrintWords Go.Proofs.YtlbjefoipljkgaaW.PrintLast Go.Proofs.YtlbjefoipljkgaaW.PrintMore
attribute [local go_sem] max2_int min2_int max_two min_two max_three min_three max_four min_four   -- for this text's walks alone
set_option linter.unusedVariables false
set_option linter.unusedSimpArgs false

attribute [local go_sem high] eqA23 eqA26
/-! ### changeforgelaw5_PushcertMatchesSpec: function 3 -/
mutual
def changeforgelaw5_PushcertMatchesSpec.j0 : Nat → Int → Int → Int → Int → Int → ByteArray → Int → Int → Int → Int → Int → Option (Bool)
 | 0,_,_,_,_,_,_,_,_,_,_,_ => none
 | k + 1,x0,x1,x102000,x102001,x102002,x102003,x102004,x102005,x102006,x104000,x104001 => (pushcert_Nonce.f k x0 x1).bind fun bt110 => (if (!(bt110.2.1 == x104000) || (!(bt110.2.2 == x104001))) = true then (changeforgelaw5_PushcertMatchesSpec.j1 k true x102000 x102001 x102002 x102003 x102004 x102005 x102006) else (if x104000 = 0 then ((changeforgeref5_Nonce.f k x0 x1).bind fun t114 => (changeforgelaw5_PushcertMatchesSpec.j1 k (bt110.1 != t114) x102000 x102001 x102002 x102003 x102004 x102005 x102006)) else (if bt110.1 = 0 then (changeforgelaw5_PushcertMatchesSpec.j1 k false x102000 x102001 x102002 x102003 x102004 x102005 x102006) else (changeforgelaw5_PushcertMatchesSpec.j1 k true x102000 x102001 x102002 x102003 x102004 x102005 x102006))))
def changeforgelaw5_PushcertMatchesSpec.j1 : Nat → Bool → Int → Int → Int → ByteArray → Int → Int → Int → Option (Bool)
 | 0,_,_,_,_,_,_,_,_ => none
 | k + 1,x51,x102000,x102001,x102002,x102003,x102004,x102005,x102006 => if x51 = true then (none) else ((changeforgeref5_CertFault.f k x102000 x102001 x102002 x102003 x102004 x102005 x102006).bind fun bt115 => ((pushcert_Certify.f k x102000 x102001 x102002 x102003 x102004 x102005 x102006).bind fun bt117 => ((pushcert_Validate.f k x102000 x102001 x102002 x102003 x102004 x102005 x102006).bind fun bt127 => (if (!(bt127.1 == bt115.1) || (!(bt127.2 == bt115.2))) = true then (changeforgelaw5_PushcertMatchesSpec.j2 k true x102000 x102001 x102002 x102003 x102004 x102005 x102006 bt115.1 bt115.2 bt117.2.2.2.2.2.2.2.1 bt117.2.2.2.2.2.2.2.2 bt117.1 bt117.2.1 bt117.2.2.1 bt117.2.2.2.1 bt117.2.2.2.2.1 bt117.2.2.2.2.2.1 bt117.2.2.2.2.2.2.1) else (if (!(bt117.2.2.2.2.2.2.2.1 == bt115.1) || (!(bt117.2.2.2.2.2.2.2.2 == bt115.2))) = true then (changeforgelaw5_PushcertMatchesSpec.j2 k true x102000 x102001 x102002 x102003 x102004 x102005 x102006 bt115.1 bt115.2 bt117.2.2.2.2.2.2.2.1 bt117.2.2.2.2.2.2.2.2 bt117.1 bt117.2.1 bt117.2.2.1 bt117.2.2.2.1 bt117.2.2.2.2.1 bt117.2.2.2.2.2.1 bt117.2.2.2.2.2.2.1) else (changeforgelaw5_PushcertMatchesSpec.j2 k (bt115.1 != 0) x102000 x102001 x102002 x102003 x102004 x102005 x102006 bt115.1 bt115.2 bt117.2.2.2.2.2.2.2.1 bt117.2.2.2.2.2.2.2.2 bt117.1 bt117.2.1 bt117.2.2.1 bt117.2.2.2.1 bt117.2.2.2.2.1 bt117.2.2.2.2.2.1 bt117.2.2.2.2.2.2.1))))))
def changeforgelaw5_PushcertMatchesSpec.j2 : Nat → Bool → Int → Int → Int → ByteArray → Int → Int → Int → Int → Int → Int → Int → Int → Int → Int → ByteArray → Int → Int → Int → Option (Bool)
 | 0,_,_,_,_,_,_,_,_,_,_,_,_,_,_,_,_,_,_,_ => none
 | k + 1,x72,x102000,x102001,x102002,x102003,x102004,x102005,x102006,x104000,x104001,x114000,x114001,x127000,x127001,x127002,x127003,x127004,x127005,x127006 => if x72 = true then ((pushcert_Validate.f k x102000 x102001 x102002 x102003 x102004 x102005 x102006).bind fun bt129 => (if (bt129.1 == x104000 && (bt129.2 == x104001)) = true then (if (x114000 == x104000 && (x114001 == x104001)) = true then (some (x127000 == 0 && (x127001 == 0 && (x127002 == 0 && (x127003.toList == ([] : List UInt8) && (x127004 == 0 && (x127005 == 0 && (x127006 == 0)))))))) else (none)) else (none))) else ((changeforgeref5_CertSignature.f k x102000 x102001 x102002 x102003 x102004 x102005 x102006).bind fun t131 => (some (x127000 == x102000 && (x127001 == x102001 && (x127002 == x102002 && (x127003.toList == x102003.toList && (x127004 == x102004 && (x127005 == x102005 && (x127006 == t131)))))))))
end
def changeforgelaw5_PushcertMatchesSpec.f (k : Nat) (a0 : Int) (a1 : Int) (a2_0 : Int) (a2_1 : Int) (a2_2 : Int) (a2_3 : ByteArray) (a2_4 : Int) (a2_5 : Int) (a2_6 : Int) : Option (Bool):=(changeforgelaw5_pushes.f k).bind fun t102 => (if t102 = true then ((changeforgeref5_IsKey.f a0).bind fun t104 => (if t104 = true then ((changeforgelaw5_in.f a1 0 100000).bind fun t105 => (if t105 = true then (changeforgelaw5_PushcertMatchesSpec.j0 k a0 a1 a2_0 a2_1 a2_2 a2_3 a2_4 a2_5 a2_6 0 0) else ((changeforgelaw5_fault.f 3 0).bind fun bt106 => (changeforgelaw5_PushcertMatchesSpec.j0 k a0 a1 a2_0 a2_1 a2_2 a2_3 a2_4 a2_5 a2_6 bt106.1 bt106.2)))) else ((changeforgelaw5_fault.f 3 (-1)).bind fun bt108 => (changeforgelaw5_PushcertMatchesSpec.j0 k a0 a1 a2_0 a2_1 a2_2 a2_3 a2_4 a2_5 a2_6 bt108.1 bt108.2)))) else (none))
theorem changeforgelaw5_PushcertMatchesSpec.mono_l : ∀ k,(∀ y0 y1 y2 y3 y4 y5 y6 y7 y8 y9 y10,LeO (changeforgelaw5_PushcertMatchesSpec.j0 k y0 y1 y2 y3 y4 y5 y6 y7 y8 y9 y10) (changeforgelaw5_PushcertMatchesSpec.j0 (k + 1) y0 y1 y2 y3 y4 y5 y6 y7 y8 y9 y10)) ∧ (∀ y0 y1 y2 y3 y4 y5 y6 y7,LeO (changeforgelaw5_PushcertMatchesSpec.j1 k y0 y1 y2 y3 y4 y5 y6 y7) (changeforgelaw5_PushcertMatchesSpec.j1 (k + 1) y0 y1 y2 y3 y4 y5 y6 y7)) ∧ (∀ y0 y1 y2 y3 y4 y5 y6 y7 y8 y9 y10 y11 y12 y13 y14 y15 y16 y17 y18,LeO (changeforgelaw5_PushcertMatchesSpec.j2 k y0 y1 y2 y3 y4 y5 y6 y7 y8 y9 y10 y11 y12 y13 y14 y15 y16 y17 y18) (changeforgelaw5_PushcertMatchesSpec.j2 (k + 1) y0 y1 y2 y3 y4 y5 y6 y7 y8 y9 y10 y11 y12 y13 y14 y15 y16 y17 y18))
 | 0 => ⟨fun _ _ _ _ _ _ _ _ _ _ _ r h => by simp [changeforgelaw5_PushcertMatchesSpec.j0] at h,fun _ _ _ _ _ _ _ _ r h => by simp [changeforgelaw5_PushcertMatchesSpec.j1] at h,fun _ _ _ _ _ _ _ _ _ _ _ _ _ _ _ _ _ _ _ r h => by simp [changeforgelaw5_PushcertMatchesSpec.j2] at h⟩
 | k + 1 => by
  obtain ⟨ih0,ih1,ih2⟩:=changeforgelaw5_PushcertMatchesSpec.mono_l k;refine ⟨?_,?_,?_⟩
  ·intro y0 y1 y2 y3 y4 y5 y6 y7 y8 y9 y10
   unfold changeforgelaw5_PushcertMatchesSpec.j0;repeat' first
   | (with_reducible exact ih0 _ _ _ _ _ _ _ _ _ _ _)
   | (with_reducible exact ih1 _ _ _ _ _ _ _ _)
   | (with_reducible exact ih2 _ _ _ _ _ _ _ _ _ _ _ _ _ _ _ _ _ _ _)
   | (with_reducible exact changeforgelaw5_pushes.mono _)
   | (with_reducible exact changeforgeref5_CertFault.mono _ _ _ _ _ _ _ _)
   | (with_reducible exact changeforgeref5_CertSignature.mono _ _ _ _ _ _ _ _)
   | (with_reducible exact changeforgeref5_Nonce.mono _ _ _)
   | (with_reducible exact pushcert_Certify.mono _ _ _ _ _ _ _ _)
   | (with_reducible exact pushcert_Nonce.mono _ _ _)
   | (with_reducible exact pushcert_Validate.mono _ _ _ _ _ _ _ _)
   | (with_reducible exact LeO.refl _)
   | (with_reducible exact LeO.none _)
   | (with_reducible refine LeO.ite ?_ ?_)
   | (with_reducible refine LeO.bind ?_ (fun _ => ?_))
   | exact ih0 _ _ _ _ _ _ _ _ _ _ _
   | exact ih1 _ _ _ _ _ _ _ _
   | exact ih2 _ _ _ _ _ _ _ _ _ _ _ _ _ _ _ _ _ _ _
   | exact changeforgelaw5_pushes.mono _
   | exact changeforgeref5_CertFault.mono _ _ _ _ _ _ _ _
   | exact changeforgeref5_CertSignature.mono _ _ _ _ _ _ _ _
   | exact changeforgeref5_Nonce.mono _ _ _
   | exact pushcert_Certify.mono _ _ _ _ _ _ _ _
   | exact pushcert_Nonce.mono _ _ _
   | exact pushcert_Validate.mono _ _ _ _ _ _ _ _
   | exact LeO.none _
   | refine LeO.ite ?_ ?_
   | refine LeO.bind ?_ (fun _ => ?_)
  ·intro y0 y1 y2 y3 y4 y5 y6 y7
   unfold changeforgelaw5_PushcertMatchesSpec.j1;repeat' first
   | (with_reducible exact ih0 _ _ _ _ _ _ _ _ _ _ _)
   | (with_reducible exact ih1 _ _ _ _ _ _ _ _)
   | (with_reducible exact ih2 _ _ _ _ _ _ _ _ _ _ _ _ _ _ _ _ _ _ _)
   | (with_reducible exact changeforgelaw5_pushes.mono _)
   | (with_reducible exact changeforgeref5_CertFault.mono _ _ _ _ _ _ _ _)
   | (with_reducible exact changeforgeref5_CertSignature.mono _ _ _ _ _ _ _ _)
   | (with_reducible exact changeforgeref5_Nonce.mono _ _ _)
   | (with_reducible exact pushcert_Certify.mono _ _ _ _ _ _ _ _)
   | (with_reducible exact pushcert_Nonce.mono _ _ _)
   | (with_reducible exact pushcert_Validate.mono _ _ _ _ _ _ _ _)
   | (with_reducible exact LeO.refl _)
   | (with_reducible exact LeO.none _)
   | (with_reducible refine LeO.ite ?_ ?_)
   | (with_reducible refine LeO.bind ?_ (fun _ => ?_))
   | exact ih0 _ _ _ _ _ _ _ _ _ _ _
   | exact ih1 _ _ _ _ _ _ _ _
   | exact ih2 _ _ _ _ _ _ _ _ _ _ _ _ _ _ _ _ _ _ _
   | exact changeforgelaw5_pushes.mono _
   | exact changeforgeref5_CertFault.mono _ _ _ _ _ _ _ _
   | exact changeforgeref5_CertSignature.mono _ _ _ _ _ _ _ _
   | exact changeforgeref5_Nonce.mono _ _ _
   | exact pushcert_Certify.mono _ _ _ _ _ _ _ _
   | exact pushcert_Nonce.mono _ _ _
   | exact pushcert_Validate.mono _ _ _ _ _ _ _ _
   | exact LeO.none _
   | refine LeO.ite ?_ ?_
   | refine LeO.bind ?_ (fun _ => ?_)
  ·intro y0 y1 y2 y3 y4 y5 y6 y7 y8 y9 y10 y11 y12 y13 y14 y15 y16 y17 y18
   unfold changeforgelaw5_PushcertMatchesSpec.j2;repeat' first
   | (with_reducible exact ih0 _ _ _ _ _ _ _ _ _ _ _)
   | (with_reducible exact ih1 _ _ _ _ _ _ _ _)
   | (with_reducible exact ih2 _ _ _ _ _ _ _ _ _ _ _ _ _ _ _ _ _ _ _)
   | (with_reducible exact changeforgelaw5_pushes.mono _)
   | (with_reducible exact changeforgeref5_CertFault.mono _ _ _ _ _ _ _ _)
   | (with_reducible exact changeforgeref5_CertSignature.mono _ _ _ _ _ _ _ _)
   | (with_reducible exact changeforgeref5_Nonce.mono _ _ _)
   | (with_reducible exact pushcert_Certify.mono _ _ _ _ _ _ _ _)
   | (with_reducible exact pushcert_Nonce.mono _ _ _)
   | (with_reducible exact pushcert_Validate.mono _ _ _ _ _ _ _ _)
   | (with_reducible exact LeO.refl _)
   | (with_reducible exact LeO.none _)
   | (with_reducible refine LeO.ite ?_ ?_)
   | (with_reducible refine LeO.bind ?_ (fun _ => ?_))
   | exact ih0 _ _ _ _ _ _ _ _ _ _ _
   | exact ih1 _ _ _ _ _ _ _ _
   | exact ih2 _ _ _ _ _ _ _ _ _ _ _ _ _ _ _ _ _ _ _
   | exact changeforgelaw5_pushes.mono _
   | exact changeforgeref5_CertFault.mono _ _ _ _ _ _ _ _
   | exact changeforgeref5_CertSignature.mono _ _ _ _ _ _ _ _
   | exact changeforgeref5_Nonce.mono _ _ _
   | exact pushcert_Certify.mono _ _ _ _ _ _ _ _
   | exact pushcert_Nonce.mono _ _ _
   | exact pushcert_Validate.mono _ _ _ _ _ _ _ _
   | exact LeO.none _
   | refine LeO.ite ?_ ?_
   | refine LeO.bind ?_ (fun _ => ?_)
theorem changeforgelaw5_PushcertMatchesSpec.mono : ∀ a0 a1 a2 a3 a4 a5 a6 a7 a8 k,LeO (changeforgelaw5_PushcertMatchesSpec.f k a0 a1 a2 a3 a4 a5 a6 a7 a8) (changeforgelaw5_PushcertMatchesSpec.f (k + 1) a0 a1 a2 a3 a4 a5 a6 a7 a8):=by
 intro a0 a1 a2 a3 a4 a5 a6 a7 a8 k;obtain ⟨ih0,ih1,ih2⟩:=changeforgelaw5_PushcertMatchesSpec.mono_l k;unfold changeforgelaw5_PushcertMatchesSpec.f
 repeat' first
   | (with_reducible exact ih0 _ _ _ _ _ _ _ _ _ _ _)
   | (with_reducible exact ih1 _ _ _ _ _ _ _ _)
   | (with_reducible exact ih2 _ _ _ _ _ _ _ _ _ _ _ _ _ _ _ _ _ _ _)
   | (with_reducible exact changeforgelaw5_pushes.mono _)
   | (with_reducible exact changeforgeref5_CertFault.mono _ _ _ _ _ _ _ _)
   | (with_reducible exact changeforgeref5_CertSignature.mono _ _ _ _ _ _ _ _)
   | (with_reducible exact changeforgeref5_Nonce.mono _ _ _)
   | (with_reducible exact pushcert_Certify.mono _ _ _ _ _ _ _ _)
   | (with_reducible exact pushcert_Nonce.mono _ _ _)
   | (with_reducible exact pushcert_Validate.mono _ _ _ _ _ _ _ _)
   | (with_reducible exact LeO.refl _)
   | (with_reducible exact LeO.none _)
   | (with_reducible refine LeO.ite ?_ ?_)
   | (with_reducible refine LeO.bind ?_ (fun _ => ?_))
   | exact ih0 _ _ _ _ _ _ _ _ _ _ _
   | exact ih1 _ _ _ _ _ _ _ _
   | exact ih2 _ _ _ _ _ _ _ _ _ _ _ _ _ _ _ _ _ _ _
   | exact changeforgelaw5_pushes.mono _
   | exact changeforgeref5_CertFault.mono _ _ _ _ _ _ _ _
   | exact changeforgeref5_CertSignature.mono _ _ _ _ _ _ _ _
   | exact changeforgeref5_Nonce.mono _ _ _
   | exact pushcert_Certify.mono _ _ _ _ _ _ _ _
   | exact pushcert_Nonce.mono _ _ _
   | exact pushcert_Validate.mono _ _ _ _ _ _ _ _
   | exact LeO.none _
   | refine LeO.ite ?_ ?_
   | refine LeO.bind ?_ (fun _ => ?_)
def changeforgelaw5_PushcertMatchesSpec.T13 : Bool × List (List Nat × List Nat):=(true,[([],[]),([0],[0]),([],[]),([1,2],[1,2]),([3,1],[3]),([4],[4]),([4],[4]),([5,6,4],[4,5,6]),([4,7],[4,7]),([8,4],[8]),([9],[9]),([10,9],[9,10]),([11,9],[9,11]),([9,12],[9,12])])
def changeforgelaw5_PushcertMatchesSpec.B13 : List Nat:=[0,1,0,7,15,31,31,127,255,511,1023,2047,4095,8191]
theorem changeforgelaw5_PushcertMatchesSpec.tab13 : rtab .any (opsOf Try.f3 13) = changeforgelaw5_PushcertMatchesSpec.T13:=by kernel_rfl
theorem changeforgelaw5_PushcertMatchesSpec.bits13 : waitsOk changeforgelaw5_PushcertMatchesSpec.T13.2 changeforgelaw5_PushcertMatchesSpec.B13 = true:=by kernel_rfl
def changeforgelaw5_PushcertMatchesSpec.T14 : Bool × List (List Nat × List Nat):=(true,[([],[]),([0],[0]),([],[]),([1,2],[1,2]),([3,1],[3]),([4],[4]),([4],[4]),([5,6,4],[4,5,6]),([4,7],[4,7]),([8,4],[8]),([9],[9]),([9],[9]),([10,11,9],[9,10,11]),([9,12],[9,12]),([13,9,0,1,2,3,4,5,6,7,8,9,10,11,12,13],[13])])
def changeforgelaw5_PushcertMatchesSpec.B14 : List Nat:=[0,1,0,7,15,31,31,127,255,511,1023,1023,4095,8191,16383]
theorem changeforgelaw5_PushcertMatchesSpec.tab14 : rtab .any (opsOf Try.f3 14) = changeforgelaw5_PushcertMatchesSpec.T14:=by kernel_rfl
theorem changeforgelaw5_PushcertMatchesSpec.bits14 : waitsOk changeforgelaw5_PushcertMatchesSpec.T14.2 changeforgelaw5_PushcertMatchesSpec.B14 = true:=by kernel_rfl
set_option maxHeartbeats 8000000 in
set_option maxRecDepth 100000 in
theorem changeforgelaw5_PushcertMatchesSpec.calls (k : Nat) (a0 : Int) (a1 : Int) (a2_0 : Int) (a2_1 : Int) (a2_2 : Int) (a2_3 : ByteArray) (a2_4 : Int) (a2_5 : Int) (a2_6 : Int) (r : Bool) (w : World) (h : changeforgelaw5_PushcertMatchesSpec.f k a0 a1 a2_0 a2_1 a2_2 a2_3 a2_4 a2_5 a2_6 = some r) :
  Calls Try.prog 3 #[.int .i64 a0,.int .i64 a1,.agg #[.int .i64 a2_0,.int .i64 a2_1,.int .i64 a2_2,.string a2_3,.int .i64 a2_4,.int .i64 a2_5,.int .i64 a2_6]] w fun e w' => e = .returned (.bool r) ∧ Below w.heap.size w w':=by
 have hu23:=Try.underlying23;have hu26:=Try.underlying26;have HB:=Aside0.mk (Below.refl w.heap.size w);have H : ((changeforgelaw5_pushes.f k).bind fun t102 => (if t102 = true then ((changeforgeref5_IsKey.f a0).bind fun t104 => (if t104 = true then ((changeforgelaw5_in.f a1 0 100000).bind fun t105 => (if t105 = true then (changeforgelaw5_PushcertMatchesSpec.j0 k a0 a1 a2_0 a2_1 a2_2 a2_3 a2_4 a2_5 a2_6 0 0) else ((changeforgelaw5_fault.f 3 0).bind fun bt106 => (changeforgelaw5_PushcertMatchesSpec.j0 k a0 a1 a2_0 a2_1 a2_2 a2_3 a2_4 a2_5 a2_6 bt106.1 bt106.2)))) else ((changeforgelaw5_fault.f 3 (-1)).bind fun bt108 => (changeforgelaw5_PushcertMatchesSpec.j0 k a0 a1 a2_0 a2_1 a2_2 a2_3 a2_4 a2_5 a2_6 bt108.1 bt108.2)))) else (none))) = some r:=h;clear h;replace H:=Option.bind_eq_some_iff.mp H;obtain ⟨t102,A40,H⟩:=H;replace H : (if t102 = true then ((changeforgeref5_IsKey.f a0).bind fun t104 => (if t104 = true then ((changeforgelaw5_in.f a1 0 100000).bind fun t105 => (if t105 = true then (changeforgelaw5_PushcertMatchesSpec.j0 k a0 a1 a2_0 a2_1 a2_2 a2_3 a2_4 a2_5 a2_6 0 0) else ((changeforgelaw5_fault.f 3 0).bind fun bt106 => (changeforgelaw5_PushcertMatchesSpec.j0 k a0 a1 a2_0 a2_1 a2_2 a2_3 a2_4 a2_5 a2_6 bt106.1 bt106.2)))) else ((changeforgelaw5_fault.f 3 (-1)).bind fun bt108 => (changeforgelaw5_PushcertMatchesSpec.j0 k a0 a1 a2_0 a2_1 a2_2 a2_3 a2_4 a2_5 a2_6 bt108.1 bt108.2)))) else (none)) = some r:=H;have A4:=Aside0.mk A40;clear A40;by_cases c5 : t102 = true
 ·subst c5
  have H1 : ((changeforgeref5_IsKey.f a0).bind fun t104 => (if t104 = true then ((changeforgelaw5_in.f a1 0 100000).bind fun t105 => (if t105 = true then (changeforgelaw5_PushcertMatchesSpec.j0 k a0 a1 a2_0 a2_1 a2_2 a2_3 a2_4 a2_5 a2_6 0 0) else ((changeforgelaw5_fault.f 3 0).bind fun bt106 => (changeforgelaw5_PushcertMatchesSpec.j0 k a0 a1 a2_0 a2_1 a2_2 a2_3 a2_4 a2_5 a2_6 bt106.1 bt106.2)))) else ((changeforgelaw5_fault.f 3 (-1)).bind fun bt108 => (changeforgelaw5_PushcertMatchesSpec.j0 k a0 a1 a2_0 a2_1 a2_2 a2_3 a2_4 a2_5 a2_6 bt108.1 bt108.2)))) = some r:=by rw [if_pos rfl] at H;exact H
  clear H;have H:=H1;clear H1;replace H:=Option.bind_eq_some_iff.mp H;obtain ⟨t104,A60,H⟩:=H;replace H : (if t104 = true then ((changeforgelaw5_in.f a1 0 100000).bind fun t105 => (if t105 = true then (changeforgelaw5_PushcertMatchesSpec.j0 k a0 a1 a2_0 a2_1 a2_2 a2_3 a2_4 a2_5 a2_6 0 0) else ((changeforgelaw5_fault.f 3 0).bind fun bt106 => (changeforgelaw5_PushcertMatchesSpec.j0 k a0 a1 a2_0 a2_1 a2_2 a2_3 a2_4 a2_5 a2_6 bt106.1 bt106.2)))) else ((changeforgelaw5_fault.f 3 (-1)).bind fun bt108 => (changeforgelaw5_PushcertMatchesSpec.j0 k a0 a1 a2_0 a2_1 a2_2 a2_3 a2_4 a2_5 a2_6 bt108.1 bt108.2))) = some r:=H;have A6:=Aside0.mk A60;clear A60;have HC7:=Aside0.mk H;clear H;go_enter Try.func3,Try.ntmps3;go_upto_if 16 with (first|((with_reducible refine gate_dst (N:=5) rfl ?_);refine box_event ?hg (N:=5) ?hd (cs:=#[.int .i64 a2_0,.int .i64 a2_1,.int .i64 a2_2,.string a2_3,.int .i64 a2_4,.int .i64 a2_5,.int .i64 a2_6]) (t:=23) ?hr ?_;(case hd => rfl);(case hg => rfl);(case hr => first|(go_simp;done)|(go_simp;rfl));intro gb101 hg w8 hbox hb;have BK101:=Aside0.mk (hbox);have GW101:=Aside0.mk ((bs_ : w.heap.size ≤ gb101));have GE101:=Aside0.mk ((bs_ : w.heap.size ≤ gb101));replace HB:=Aside0.mk (below_step bel_ hb);clear hb hbox hg)|((with_reducible refine gate_callee (f:=9) rfl ?_);refine goesL_ (some 11) rfl rfl Try.func9 (by kernel_rfl) rfl #[] rfl ln_ ?_;(with_reducible refine (changeforgelaw5_pushes.calls k  true _ A4.out).mono ?_);rintro e w9 ⟨rfl,hb⟩;refine ⟨_,rfl,?_⟩;replace BK101:=Aside0.mk (blk_below (blk_mv BK101.out) hb);replace HB:=Aside0.mk (below_step bel_ hb);(try clear hb);(try clear hb2);(try clear hk);(try clear hi))|((with_reducible refine gate_dst (N:=7) rfl ?_);refine box_event ?hg (N:=7) ?hd (cs:=#[.int .i64 0,.int .i64 0]) (t:=26) ?hr ?_;(case hd => rfl);(case hg => rfl);(case hr => first|(go_simp;done)|(go_simp;rfl));intro gb103 hg w10 hbox hb;have BK103:=Aside0.mk (hbox);have GW103:=Aside0.mk ((bs_ : w.heap.size ≤ gb103));have GE103:=Aside0.mk ((bs_ : w.heap.size ≤ gb103));replace HB:=Aside0.mk (below_step bel_ hb);have NB101_103:=Aside0.mk ((by rw [hg];exact Nat.ne_of_lt (blk_lt (g:=gb101) (o:=.cells #[.int .i64 a2_0,.int .i64 a2_1,.int .i64 a2_2,.string a2_3,.int .i64 a2_4,.int .i64 a2_5,.int .i64 a2_6] 23 (0,0)) (blk_mv BK101.out)) : gb101 ≠ gb103));have NB103_101:=Aside0.mk ((by rw [hg];exact Nat.ne_of_gt (blk_lt (g:=gb101) (o:=.cells #[.int .i64 a2_0,.int .i64 a2_1,.int .i64 a2_2,.string a2_3,.int .i64 a2_4,.int .i64 a2_5,.int .i64 a2_6] 23 (0,0)) (blk_mv BK101.out)) : gb103 ≠ gb101));replace BK101:=Aside0.mk (blk_below (blk_mv BK101.out) hb);clear hb hbox hg;have hnb11:=NB103_101.out;have hnc11:=NB101_103.out;have hcz12_0:=blk_c (v:=.int .i64 0) BK103.out 0 rfl;have hcz12_1:=blk_c (v:=.int .i64 0) BK103.out 1 rfl;have hfz12_0:=blk_frozen BK103.out 0;have hfz12_1:=blk_frozen BK103.out 1)|((with_reducible refine gate_callee (f:=10) rfl ?_);refine goesL_ (some 15) rfl rfl Try.func10 (by kernel_rfl) rfl #[.int .i64 a0] rfl ln_ ?_;(with_reducible refine (changeforgeref5_IsKey.calls a0 t104 _ A6.out).mono ?_);rintro e w' ⟨rfl,⟨nd,rfl⟩⟩;refine ⟨_,rfl,?_⟩));(try simp only [Act.put,sa_,sb_,sc_]);go_cut [] (fun wc => ∃ (kq : Nat) (x104000_6 : Int) (x104001_6 : Int),Aside0 (changeforgelaw5_PushcertMatchesSpec.j0 kq a0 a1 a2_0 a2_1 a2_2 a2_3 a2_4 a2_5 a2_6 x104000_6 x104001_6 = some r) ∧ Aside0 (kq ≤ k) ∧ Aside0 (wc.heap[gb101]? = some (.cells #[.int .i64 a2_0,.int .i64 a2_1,.int .i64 a2_2,.string a2_3,.int .i64 a2_4,.int .i64 a2_5,.int .i64 a2_6] 23 (0,0))) ∧ Aside0 (wc.heap[gb103]? = some (.cells #[.int .i64 x104000_6,.int .i64 x104001_6] 26 (0,0))) ∧ Aside0 (Below w.heap.size w wc))
  case first =>
   have H:=HC7.out;clear HC7;by_cases c13 : t104 = true
   ·subst c13
    have H1 : ((changeforgelaw5_in.f a1 0 100000).bind fun t105 => (if t105 = true then (changeforgelaw5_PushcertMatchesSpec.j0 k a0 a1 a2_0 a2_1 a2_2 a2_3 a2_4 a2_5 a2_6 0 0) else ((changeforgelaw5_fault.f 3 0).bind fun bt106 => (changeforgelaw5_PushcertMatchesSpec.j0 k a0 a1 a2_0 a2_1 a2_2 a2_3 a2_4 a2_5 a2_6 bt106.1 bt106.2)))) = some r:=by rw [if_pos rfl] at H;exact H
    clear H;have H:=H1;clear H1;replace H:=Option.bind_eq_some_iff.mp H;obtain ⟨t105,A140,H⟩:=H;replace H : (if t105 = true then (changeforgelaw5_PushcertMatchesSpec.j0 k a0 a1 a2_0 a2_1 a2_2 a2_3 a2_4 a2_5 a2_6 0 0) else ((changeforgelaw5_fault.f 3 0).bind fun bt106 => (changeforgelaw5_PushcertMatchesSpec.j0 k a0 a1 a2_0 a2_1 a2_2 a2_3 a2_4 a2_5 a2_6 bt106.1 bt106.2))) = some r:=H;have A14:=Aside0.mk A140;clear A140;by_cases c15 : t105 = true
    ·subst c15
     have H1 : (changeforgelaw5_PushcertMatchesSpec.j0 k a0 a1 a2_0 a2_1 a2_2 a2_3 a2_4 a2_5 a2_6 0 0) = some r:=by rw [if_pos rfl] at H;exact H
     clear H;have H:=H1;clear H1;have H':=Aside0.mk H;clear H;go_wp2_with (first|((with_reducible refine gate_callee (f:=12) rfl ?_);refine goesL_ (some 19) rfl rfl Try.func12 (by kernel_rfl) rfl #[.int .i64 a1,.int .i64 0,.int .i64 100000] rfl ln_ ?_;(with_reducible refine (changeforgelaw5_in.calls a1 0 100000 true _ A14.out).mono ?_);rintro e w' ⟨rfl,⟨nd,rfl⟩⟩;refine ⟨_,rfl,?_⟩));go_meet
     case rel => exact ⟨_,(0),(0),H',⟨om_⟩,⟨by refine blk_mv ?_;refine blk_far ?_ NB101_103.out _;refine blk_mv ?_;refine blk_far ?_ NB101_103.out _;refine blk_mv ?_;exact BK101.out⟩,⟨by refine blk_mv ?_;refine blk_put (cs:=#[.int .i64 0,.int .i64 0]) ?_ 1 _ rfl;refine blk_mv ?_;refine blk_put (cs:=#[.int .i64 0,.int .i64 0]) ?_ 0 _ rfl;refine blk_mv ?_;exact BK103.out⟩,⟨bel_⟩⟩
    ·replace c15:=Bool.eq_false_iff.mpr c15
     subst c15;have H1 : ((changeforgelaw5_fault.f 3 0).bind fun bt106 => (changeforgelaw5_PushcertMatchesSpec.j0 k a0 a1 a2_0 a2_1 a2_2 a2_3 a2_4 a2_5 a2_6 bt106.1 bt106.2)) = some r:=by rw [if_neg (show ¬ (false = true) by decide)] at H;exact H
     clear H;have H:=H1;clear H1;replace H:=Option.bind_eq_some_iff.mp H;obtain ⟨⟨t106,t107⟩,A160,H⟩:=H;replace H : (changeforgelaw5_PushcertMatchesSpec.j0 k a0 a1 a2_0 a2_1 a2_2 a2_3 a2_4 a2_5 a2_6 t106 t107) = some r:=H;have A16:=Aside0.mk A160;clear A160;have H':=Aside0.mk H;clear H;go_wp2_with (first|((with_reducible refine gate_callee (f:=12) rfl ?_);refine goesL_ (some 19) rfl rfl Try.func12 (by kernel_rfl) rfl #[.int .i64 a1,.int .i64 0,.int .i64 100000] rfl ln_ ?_;(with_reducible refine (changeforgelaw5_in.calls a1 0 100000 false _ A14.out).mono ?_);rintro e w' ⟨rfl,⟨nd,rfl⟩⟩;refine ⟨_,rfl,?_⟩)|((with_reducible refine gate_callee (f:=11) rfl ?_);refine goesL_ (some 21) rfl rfl Try.func11 (by kernel_rfl) rfl #[.int .i64 3,.int .i64 0] rfl ln_ ?_;(with_reducible refine (changeforgelaw5_fault.calls 3 0 t106 t107 _ A16.out).mono ?_);rintro e w17 ⟨rfl,hb⟩;refine ⟨_,rfl,?_⟩;replace BK101:=Aside0.mk (blk_below (g:=gb101) (o:=.cells #[.int .i64 a2_0,.int .i64 a2_1,.int .i64 a2_2,.string a2_3,.int .i64 a2_4,.int .i64 a2_5,.int .i64 a2_6] 23 (0,0)) (by refine blk_mv ?_;refine blk_far ?_ NB101_103.out _;refine blk_mv ?_;refine blk_far ?_ NB101_103.out _;refine blk_mv ?_;exact BK101.out) hb);replace BK103:=Aside0.mk (blk_below (g:=gb103) (o:=.cells #[.int .i64 0,.int .i64 0] 26 (0,0)) (by refine blk_mv ?_;refine blk_put (cs:=#[.int .i64 0,.int .i64 0]) ?_ 1 _ rfl;refine blk_mv ?_;refine blk_put (cs:=#[.int .i64 0,.int .i64 0]) ?_ 0 _ rfl;refine blk_mv ?_;exact BK103.out) hb);replace HB:=Aside0.mk (below_step bel_ hb);(try clear hb);(try clear hb2);(try clear hk);(try clear hi);have hnb18:=NB103_101.out;have hnc18:=NB101_103.out;have hcz19_0:=blk_c (v:=.int .i64 0) BK103.out 0 rfl;have hcz19_1:=blk_c (v:=.int .i64 0) BK103.out 1 rfl;have hfz19_0:=blk_frozen BK103.out 0;have hfz19_1:=blk_frozen BK103.out 1));go_meet
     case rel => exact ⟨_,(t106),(t107),H',⟨om_⟩,⟨by refine blk_mv ?_;refine blk_far ?_ NB101_103.out _;refine blk_mv ?_;refine blk_far ?_ NB101_103.out _;refine blk_mv ?_;exact BK101.out⟩,⟨by refine blk_mv ?_;refine blk_put (cs:=#[.int .i64 t106,.int .i64 0]) ?_ 1 _ rfl;refine blk_mv ?_;refine blk_put (cs:=#[.int .i64 0,.int .i64 0]) ?_ 0 _ rfl;refine blk_mv ?_;exact BK103.out⟩,⟨bel_⟩⟩
   ·replace c13:=Bool.eq_false_iff.mpr c13
    subst c13;have H1 : ((changeforgelaw5_fault.f 3 (-1)).bind fun bt108 => (changeforgelaw5_PushcertMatchesSpec.j0 k a0 a1 a2_0 a2_1 a2_2 a2_3 a2_4 a2_5 a2_6 bt108.1 bt108.2)) = some r:=by rw [if_neg (show ¬ (false = true) by decide)] at H;exact H
    clear H;have H:=H1;clear H1;replace H:=Option.bind_eq_some_iff.mp H;obtain ⟨⟨t108,t109⟩,A200,H⟩:=H;replace H : (changeforgelaw5_PushcertMatchesSpec.j0 k a0 a1 a2_0 a2_1 a2_2 a2_3 a2_4 a2_5 a2_6 t108 t109) = some r:=H;have A20:=Aside0.mk A200;clear A200;have H':=Aside0.mk H;clear H;go_wp2_with (first|((with_reducible refine gate_callee (f:=11) rfl ?_);refine goesL_ (some 17) rfl rfl Try.func11 (by kernel_rfl) rfl #[.int .i64 3,.int .i64 (-1)] rfl ln_ ?_;(with_reducible refine (changeforgelaw5_fault.calls 3 (-1) t108 t109 _ A20.out).mono ?_);rintro e w21 ⟨rfl,hb⟩;refine ⟨_,rfl,?_⟩;replace BK101:=Aside0.mk (blk_below (g:=gb101) (o:=.cells #[.int .i64 a2_0,.int .i64 a2_1,.int .i64 a2_2,.string a2_3,.int .i64 a2_4,.int .i64 a2_5,.int .i64 a2_6] 23 (0,0)) (by refine blk_mv ?_;refine blk_far ?_ NB101_103.out _;refine blk_mv ?_;refine blk_far ?_ NB101_103.out _;refine blk_mv ?_;exact BK101.out) hb);replace BK103:=Aside0.mk (blk_below (g:=gb103) (o:=.cells #[.int .i64 0,.int .i64 0] 26 (0,0)) (by refine blk_mv ?_;refine blk_put (cs:=#[.int .i64 0,.int .i64 0]) ?_ 1 _ rfl;refine blk_mv ?_;refine blk_put (cs:=#[.int .i64 0,.int .i64 0]) ?_ 0 _ rfl;refine blk_mv ?_;exact BK103.out) hb);replace HB:=Aside0.mk (below_step bel_ hb);(try clear hb);(try clear hb2);(try clear hk);(try clear hi);have hnb22:=NB103_101.out;have hnc22:=NB101_103.out;have hcz23_0:=blk_c (v:=.int .i64 0) BK103.out 0 rfl;have hcz23_1:=blk_c (v:=.int .i64 0) BK103.out 1 rfl;have hfz23_0:=blk_frozen BK103.out 0;have hfz23_1:=blk_frozen BK103.out 1));go_meet
    case rel => exact ⟨_,(t108),(t109),H',⟨om_⟩,⟨by refine blk_mv ?_;refine blk_far ?_ NB101_103.out _;refine blk_mv ?_;refine blk_far ?_ NB101_103.out _;refine blk_mv ?_;exact BK101.out⟩,⟨by refine blk_mv ?_;refine blk_put (cs:=#[.int .i64 t108,.int .i64 0]) ?_ 1 _ rfl;refine blk_mv ?_;refine blk_put (cs:=#[.int .i64 0,.int .i64 0]) ?_ 0 _ rfl;refine blk_mv ?_;exact BK103.out⟩,⟨bel_⟩⟩
  case rest =>
   clear HC7;(try clear c1);(try clear c2);(try clear p2);(try clear c3);(try clear c5);(try clear c9);(try clear c10);(try clear c11);(try clear c12);(try clear c13);(try clear c15);(try clear c18);(try clear c22);(try clear hcz12_0);(try clear hcz12_1);(try clear hcz19_0);(try clear hcz19_1);(try clear hcz23_0);(try clear hcz23_1);(try clear hfz12_0);(try clear hfz12_1);(try clear hfz19_0);(try clear hfz19_1);(try clear hfz23_0);(try clear hfz23_1);obtain ⟨kq,x104000_6,x104001_6,HA,HJ6,BK101,BK103,HB⟩:=hcut;cases kq with
   | zero => exact absurd HA.out (by simp [changeforgelaw5_PushcertMatchesSpec.j0])
   | succ kj6 =>
    have H:=HA.out;clear HA;simp only [changeforgelaw5_PushcertMatchesSpec.j0] at H;replace H:=Option.bind_eq_some_iff.mp H;obtain ⟨⟨t110,t111,t112⟩,A240,H⟩:=H;replace H : (if (!(t111 == x104000_6) || (!(t112 == x104001_6))) = true then (changeforgelaw5_PushcertMatchesSpec.j1 kj6 true a2_0 a2_1 a2_2 a2_3 a2_4 a2_5 a2_6) else (if x104000_6 = 0 then ((changeforgeref5_Nonce.f kj6 a0 a1).bind fun t114 => (changeforgelaw5_PushcertMatchesSpec.j1 kj6 (t110 != t114) a2_0 a2_1 a2_2 a2_3 a2_4 a2_5 a2_6)) else (if t110 = 0 then (changeforgelaw5_PushcertMatchesSpec.j1 kj6 false a2_0 a2_1 a2_2 a2_3 a2_4 a2_5 a2_6) else (changeforgelaw5_PushcertMatchesSpec.j1 kj6 true a2_0 a2_1 a2_2 a2_3 a2_4 a2_5 a2_6)))) = some r:=H;have A24:=Aside0.mk A240;clear A240;have HC25:=Aside0.mk H;clear H;go_upto_region 9 with (first|((with_reducible refine gate_callee (f:=13) rfl ?_);refine goesL_ (some 25) rfl rfl Try.func13 (by kernel_rfl) rfl #[.int .i64 a0,.int .i64 a1] rfl ln_ ?_;(with_reducible refine (pushcert_Nonce.calls kj6 a0 a1 t110 t111 t112 _ A24.out).mono ?_);rintro e w26 ⟨rfl,hb⟩;refine ⟨_,rfl,?_⟩;replace BK101:=Aside0.mk (blk_below (blk_mv BK101.out) hb);replace BK103:=Aside0.mk (blk_below (blk_mv BK103.out) hb);replace HB:=Aside0.mk (below_step bel_ hb);(try clear hb);(try clear hb2);(try clear hk);(try clear hi))|((with_reducible refine gate_dst (N:=9) rfl ?_);refine box_event ?hg (N:=9) ?hd (cs:=#[.int .i64 0,.int .i64 0]) (t:=26) ?hr ?_;(case hd => rfl);(case hg => rfl);(case hr => first|(go_simp;done)|(go_simp;rfl));intro gb113 hg w27 hbox hb;have BK113:=Aside0.mk (hbox);have GW113:=Aside0.mk ((bs_ : w.heap.size ≤ gb113));have GE113:=Aside0.mk ((bs_ : w.heap.size ≤ gb113));replace HB:=Aside0.mk (below_step bel_ hb);have NB101_113:=Aside0.mk ((by rw [hg];exact Nat.ne_of_lt (blk_lt (g:=gb101) (o:=.cells #[.int .i64 a2_0,.int .i64 a2_1,.int .i64 a2_2,.string a2_3,.int .i64 a2_4,.int .i64 a2_5,.int .i64 a2_6] 23 (0,0)) (blk_mv BK101.out)) : gb101 ≠ gb113));have NB113_101:=Aside0.mk ((by rw [hg];exact Nat.ne_of_gt (blk_lt (g:=gb101) (o:=.cells #[.int .i64 a2_0,.int .i64 a2_1,.int .i64 a2_2,.string a2_3,.int .i64 a2_4,.int .i64 a2_5,.int .i64 a2_6] 23 (0,0)) (blk_mv BK101.out)) : gb113 ≠ gb101));replace BK101:=Aside0.mk (blk_below (blk_mv BK101.out) hb);have NB103_113:=Aside0.mk ((by rw [hg];exact Nat.ne_of_lt (blk_lt (g:=gb103) (o:=.cells #[.int .i64 x104000_6,.int .i64 x104001_6] 26 (0,0)) (blk_mv BK103.out)) : gb103 ≠ gb113));have NB113_103:=Aside0.mk ((by rw [hg];exact Nat.ne_of_gt (blk_lt (g:=gb103) (o:=.cells #[.int .i64 x104000_6,.int .i64 x104001_6] 26 (0,0)) (blk_mv BK103.out)) : gb113 ≠ gb103));replace BK103:=Aside0.mk (blk_below (blk_mv BK103.out) hb);clear hb hbox hg;have hnb28:=NB113_101.out;have hnc28:=NB101_113.out;have hnb29:=NB113_103.out;have hnc29:=NB103_113.out;have hcz30_0:=blk_c (v:=.int .i64 0) BK113.out 0 rfl;have hcz30_1:=blk_c (v:=.int .i64 0) BK113.out 1 rfl;have hfz30_0:=blk_frozen BK113.out 0;have hfz30_1:=blk_frozen BK113.out 1));(try simp only [Act.put,sa_,sb_,sc_]);go_cut [51] (fun v51 wc => ∃ (kq : Nat) (x51_24 : Bool),v51 = .bool x51_24 ∧ Aside0 (changeforgelaw5_PushcertMatchesSpec.j1 kq x51_24 a2_0 a2_1 a2_2 a2_3 a2_4 a2_5 a2_6 = some r) ∧ Aside0 (kq ≤ kj6) ∧ Aside0 (wc.heap[gb101]? = some (.cells #[.int .i64 a2_0,.int .i64 a2_1,.int .i64 a2_2,.string a2_3,.int .i64 a2_4,.int .i64 a2_5,.int .i64 a2_6] 23 (0,0))) ∧ Aside0 (wc.heap[gb103]? = some (.cells #[.int .i64 x104000_6,.int .i64 x104001_6] 26 (0,0))) ∧ Aside0 (wc.heap[gb113]? = some (.cells #[.int .i64 t111,.int .i64 t112] 26 (0,0))) ∧ Aside0 (Below w.heap.size w wc))
    case first =>
     have H:=HC25.out;clear HC25;by_cases c31 : (!(t111 == x104000_6) || (!(t112 == x104001_6))) = true
     ·rw [if_pos c31] at H
      have c31b0 : (!(t111 == x104000_6) || (!(t112 == x104001_6))) = true:=c31;clear c31;(first|rw [c31b0]|(simp only [i64_w,i32_w];rw [c31b0])|skip);have H':=Aside0.mk H;clear H;have hnb32:=NB113_101.out;have hnc32:=NB101_113.out;have hnb33:=NB113_103.out;have hnc33:=NB103_113.out;have hcz34_0:=blk_c (v:=.int .i64 0) BK113.out 0 rfl;have hcz34_1:=blk_c (v:=.int .i64 0) BK113.out 1 rfl;have hfz34_0:=blk_frozen BK113.out 0;have hfz34_1:=blk_frozen BK113.out 1;have hnb35:=NB103_101.out;have hnc35:=NB101_103.out;have hcz36_0:=blk_c (v:=.int .i64 x104000_6) BK103.out 0 rfl;have hcz36_1:=blk_c (v:=.int .i64 x104001_6) BK103.out 1 rfl;have hfz36_0:=blk_frozen BK103.out 0;have hfz36_1:=blk_frozen BK103.out 1;go_wp2;go_meet
      case rel => exact ⟨_,(true),fr_,H',⟨by have:=HJ6.out;first|omega|exact Nat.le_refl _⟩,⟨by refine blk_mv ?_;refine blk_far ?_ NB101_113.out _;refine blk_mv ?_;refine blk_far ?_ NB101_113.out _;refine blk_mv ?_;exact BK101.out⟩,⟨by refine blk_mv ?_;refine blk_far ?_ NB103_113.out _;refine blk_mv ?_;refine blk_far ?_ NB103_113.out _;refine blk_mv ?_;exact BK103.out⟩,⟨by refine blk_mv ?_;refine blk_put (cs:=#[.int .i64 t111,.int .i64 0]) ?_ 1 _ rfl;refine blk_mv ?_;refine blk_put (cs:=#[.int .i64 0,.int .i64 0]) ?_ 0 _ rfl;refine blk_mv ?_;exact BK113.out⟩,⟨bel_⟩⟩
     ·rw [if_neg c31] at H
      have c31b0 : (!(t111 == x104000_6) || (!(t112 == x104001_6))) = false:=by simpa using c31
      clear c31;(first|rw [c31b0]|(simp only [i64_w,i32_w];rw [c31b0])|skip);by_cases c37 : x104000_6 = 0
      ·rw [if_pos c37] at H
       have c37b0 : (x104000_6 == 0) = true:=beq_iff_eq.mpr c37;have c37b1 : (x104000_6 != 0) = false:=bne_eq_false_iff_eq.mpr c37;clear c37;replace H:=Option.bind_eq_some_iff.mp H;obtain ⟨t114,A380,H⟩:=H;replace H : (changeforgelaw5_PushcertMatchesSpec.j1 kj6 (t110 != t114) a2_0 a2_1 a2_2 a2_3 a2_4 a2_5 a2_6) = some r:=H;have A38:=Aside0.mk A380;clear A380;have H':=Aside0.mk H;clear H;have hnb39:=NB113_101.out;have hnc39:=NB101_113.out;have hnb40:=NB113_103.out;have hnc40:=NB103_113.out;have hcz41_0:=blk_c (v:=.int .i64 0) BK113.out 0 rfl;have hcz41_1:=blk_c (v:=.int .i64 0) BK113.out 1 rfl;have hfz41_0:=blk_frozen BK113.out 0;have hfz41_1:=blk_frozen BK113.out 1;have hnb42:=NB103_101.out;have hnc42:=NB101_103.out;have hcz43_0:=blk_c (v:=.int .i64 x104000_6) BK103.out 0 rfl;have hcz43_1:=blk_c (v:=.int .i64 x104001_6) BK103.out 1 rfl;have hfz43_0:=blk_frozen BK103.out 0;have hfz43_1:=blk_frozen BK103.out 1;go_wp2_with (first|(go_at_call 14;(with_reducible refine (changeforgeref5_Nonce.calls kj6 a0 a1 t114 _ A38.out).mono ?_);rintro e w44 ⟨rfl,hb⟩;replace BK101:=Aside0.mk (blk_below (g:=gb101) (o:=.cells #[.int .i64 a2_0,.int .i64 a2_1,.int .i64 a2_2,.string a2_3,.int .i64 a2_4,.int .i64 a2_5,.int .i64 a2_6] 23 (0,0)) (by refine blk_mv ?_;refine blk_far ?_ NB101_113.out _;refine blk_mv ?_;refine blk_far ?_ NB101_113.out _;refine blk_mv ?_;exact BK101.out) hb);replace BK103:=Aside0.mk (blk_below (g:=gb103) (o:=.cells #[.int .i64 x104000_6,.int .i64 x104001_6] 26 (0,0)) (by refine blk_mv ?_;refine blk_far ?_ NB103_113.out _;refine blk_mv ?_;refine blk_far ?_ NB103_113.out _;refine blk_mv ?_;exact BK103.out) hb);replace BK113:=Aside0.mk (blk_below (g:=gb113) (o:=.cells #[.int .i64 t111,.int .i64 t112] 26 (0,0)) (by refine blk_mv ?_;refine blk_put (cs:=#[.int .i64 t111,.int .i64 0]) ?_ 1 _ rfl;refine blk_mv ?_;refine blk_put (cs:=#[.int .i64 0,.int .i64 0]) ?_ 0 _ rfl;refine blk_mv ?_;exact BK113.out) hb);replace HB:=Aside0.mk (below_step bel_ hb);(try clear hb);(try clear hb2);(try clear hk);(try clear hi)));go_meet
       case rel => exact ⟨_,((t110 != t114)),fr_,H',⟨by have:=HJ6.out;first|omega|exact Nat.le_refl _⟩,⟨blk_mv BK101.out⟩,⟨blk_mv BK103.out⟩,⟨blk_mv BK113.out⟩,⟨bel_⟩⟩
      ·rw [if_neg c37] at H
       have c37b0 : (x104000_6 == 0) = false:=beq_eq_false_iff_ne.mpr c37;have c37b1 : (x104000_6 != 0) = true:=bne_iff_ne.mpr c37;by_cases c45 : t110 = 0
       ·rw [if_pos c45] at H
        have c45b0 : (t110 == 0) = true:=beq_iff_eq.mpr c45;have c45b1 : (t110 != 0) = false:=bne_eq_false_iff_eq.mpr c45;clear c45;have H':=Aside0.mk H;clear H;have hnb46:=NB113_101.out;have hnc46:=NB101_113.out;have hnb47:=NB113_103.out;have hnc47:=NB103_113.out;have hcz48_0:=blk_c (v:=.int .i64 0) BK113.out 0 rfl;have hcz48_1:=blk_c (v:=.int .i64 0) BK113.out 1 rfl;have hfz48_0:=blk_frozen BK113.out 0;have hfz48_1:=blk_frozen BK113.out 1;have hnb49:=NB103_101.out;have hnc49:=NB101_103.out;have hcz50_0:=blk_c (v:=.int .i64 x104000_6) BK103.out 0 rfl;have hcz50_1:=blk_c (v:=.int .i64 x104001_6) BK103.out 1 rfl;have hfz50_0:=blk_frozen BK103.out 0;have hfz50_1:=blk_frozen BK103.out 1;go_wp2;go_meet
        case rel => exact ⟨_,(false),fr_,H',⟨by have:=HJ6.out;first|omega|exact Nat.le_refl _⟩,⟨by refine blk_mv ?_;refine blk_far ?_ NB101_113.out _;refine blk_mv ?_;refine blk_far ?_ NB101_113.out _;refine blk_mv ?_;exact BK101.out⟩,⟨by refine blk_mv ?_;refine blk_far ?_ NB103_113.out _;refine blk_mv ?_;refine blk_far ?_ NB103_113.out _;refine blk_mv ?_;exact BK103.out⟩,⟨by refine blk_mv ?_;refine blk_put (cs:=#[.int .i64 t111,.int .i64 0]) ?_ 1 _ rfl;refine blk_mv ?_;refine blk_put (cs:=#[.int .i64 0,.int .i64 0]) ?_ 0 _ rfl;refine blk_mv ?_;exact BK113.out⟩,⟨bel_⟩⟩
       ·rw [if_neg c45] at H
        have c45b0 : (t110 == 0) = false:=beq_eq_false_iff_ne.mpr c45;have c45b1 : (t110 != 0) = true:=bne_iff_ne.mpr c45;have H':=Aside0.mk H;clear H;have hnb51:=NB113_101.out;have hnc51:=NB101_113.out;have hnb52:=NB113_103.out;have hnc52:=NB103_113.out;have hcz53_0:=blk_c (v:=.int .i64 0) BK113.out 0 rfl;have hcz53_1:=blk_c (v:=.int .i64 0) BK113.out 1 rfl;have hfz53_0:=blk_frozen BK113.out 0;have hfz53_1:=blk_frozen BK113.out 1;have hnb54:=NB103_101.out;have hnc54:=NB101_103.out;have hcz55_0:=blk_c (v:=.int .i64 x104000_6) BK103.out 0 rfl;have hcz55_1:=blk_c (v:=.int .i64 x104001_6) BK103.out 1 rfl;have hfz55_0:=blk_frozen BK103.out 0;have hfz55_1:=blk_frozen BK103.out 1;go_wp2;go_meet
        case rel => exact ⟨_,(true),fr_,H',⟨by have:=HJ6.out;first|omega|exact Nat.le_refl _⟩,⟨by refine blk_mv ?_;refine blk_far ?_ NB101_113.out _;refine blk_mv ?_;refine blk_far ?_ NB101_113.out _;refine blk_mv ?_;exact BK101.out⟩,⟨by refine blk_mv ?_;refine blk_far ?_ NB103_113.out _;refine blk_mv ?_;refine blk_far ?_ NB103_113.out _;refine blk_mv ?_;exact BK103.out⟩,⟨by refine blk_mv ?_;refine blk_put (cs:=#[.int .i64 t111,.int .i64 0]) ?_ 1 _ rfl;refine blk_mv ?_;refine blk_put (cs:=#[.int .i64 0,.int .i64 0]) ?_ 0 _ rfl;refine blk_mv ?_;exact BK113.out⟩,⟨bel_⟩⟩
    case rest =>
     clear HC25;(try clear c1);(try clear c2);(try clear p2);(try clear c3);(try clear c4);(try clear c5);(try clear c9);(try clear c10);(try clear c11);(try clear c12);(try clear c13);(try clear c15);(try clear c18);(try clear c22);(try clear c28);(try clear c29);(try clear c31);(try clear c31b0);(try clear c32);(try clear c33);(try clear c35);(try clear c37);(try clear c37b0);(try clear c37b1);(try clear c39);(try clear c40);(try clear c42);(try clear c45);(try clear c45b0);(try clear c45b1);(try clear c46);(try clear c47);(try clear c49);(try clear c51);(try clear c52);(try clear c54);(try clear hcz12_0);(try clear hcz12_1);(try clear hcz19_0);(try clear hcz19_1);(try clear hcz23_0);(try clear hcz23_1);(try clear hcz30_0);(try clear hcz30_1);(try clear hcz34_0);(try clear hcz34_1);(try clear hcz36_0);(try clear hcz36_1);(try clear hcz41_0);(try clear hcz41_1);(try clear hcz43_0);(try clear hcz43_1);(try clear hcz48_0);(try clear hcz48_1);(try clear hcz50_0);(try clear hcz50_1);(try clear hcz53_0);(try clear hcz53_1);(try clear hcz55_0);(try clear hcz55_1);(try clear hfz12_0);(try clear hfz12_1);(try clear hfz19_0);(try clear hfz19_1);(try clear hfz23_0);(try clear hfz23_1);(try clear hfz30_0);(try clear hfz30_1);(try clear hfz34_0);(try clear hfz34_1);(try clear hfz36_0);(try clear hfz36_1);(try clear hfz41_0);(try clear hfz41_1);(try clear hfz43_0);(try clear hfz43_1);(try clear hfz48_0);(try clear hfz48_1);(try clear hfz50_0);(try clear hfz50_1);(try clear hfz53_0);(try clear hfz53_1);(try clear hfz55_0);(try clear hfz55_1);(try clear p2);obtain ⟨kq,x51_24,rfl,HA,HJ24,BK101,BK103,BK113,HB⟩:=hcut;cases kq with
     | zero => exact absurd HA.out (by simp [changeforgelaw5_PushcertMatchesSpec.j1])
     | succ kj24 =>
      have H:=HA.out;clear HA;simp only [changeforgelaw5_PushcertMatchesSpec.j1] at H;by_cases c56 : x51_24 = true
      ·subst c56
       have H1 : (none) = some r:=by rw [if_pos rfl] at H;exact H
       clear H;have H:=H1;clear H1;exact absurd H (by simp)
      ·replace c56:=Bool.eq_false_iff.mpr c56
       subst c56;have H1 : ((changeforgeref5_CertFault.f kj24 a2_0 a2_1 a2_2 a2_3 a2_4 a2_5 a2_6).bind fun bt115 => ((pushcert_Certify.f kj24 a2_0 a2_1 a2_2 a2_3 a2_4 a2_5 a2_6).bind fun bt117 => ((pushcert_Validate.f kj24 a2_0 a2_1 a2_2 a2_3 a2_4 a2_5 a2_6).bind fun bt127 => (if (!(bt127.1 == bt115.1) || (!(bt127.2 == bt115.2))) = true then (changeforgelaw5_PushcertMatchesSpec.j2 kj24 true a2_0 a2_1 a2_2 a2_3 a2_4 a2_5 a2_6 bt115.1 bt115.2 bt117.2.2.2.2.2.2.2.1 bt117.2.2.2.2.2.2.2.2 bt117.1 bt117.2.1 bt117.2.2.1 bt117.2.2.2.1 bt117.2.2.2.2.1 bt117.2.2.2.2.2.1 bt117.2.2.2.2.2.2.1) else (if (!(bt117.2.2.2.2.2.2.2.1 == bt115.1) || (!(bt117.2.2.2.2.2.2.2.2 == bt115.2))) = true then (changeforgelaw5_PushcertMatchesSpec.j2 kj24 true a2_0 a2_1 a2_2 a2_3 a2_4 a2_5 a2_6 bt115.1 bt115.2 bt117.2.2.2.2.2.2.2.1 bt117.2.2.2.2.2.2.2.2 bt117.1 bt117.2.1 bt117.2.2.1 bt117.2.2.2.1 bt117.2.2.2.2.1 bt117.2.2.2.2.2.1 bt117.2.2.2.2.2.2.1) else (changeforgelaw5_PushcertMatchesSpec.j2 kj24 (bt115.1 != 0) a2_0 a2_1 a2_2 a2_3 a2_4 a2_5 a2_6 bt115.1 bt115.2 bt117.2.2.2.2.2.2.2.1 bt117.2.2.2.2.2.2.2.2 bt117.1 bt117.2.1 bt117.2.2.1 bt117.2.2.2.1 bt117.2.2.2.2.1 bt117.2.2.2.2.2.1 bt117.2.2.2.2.2.2.1)))))) = some r:=by rw [if_neg (show ¬ (false = true) by decide)] at H;exact H
       clear H;have H:=H1;clear H1;replace H:=Option.bind_eq_some_iff.mp H;obtain ⟨⟨t115,t116⟩,A570,H⟩:=H;replace H : ((pushcert_Certify.f kj24 a2_0 a2_1 a2_2 a2_3 a2_4 a2_5 a2_6).bind fun bt117 => ((pushcert_Validate.f kj24 a2_0 a2_1 a2_2 a2_3 a2_4 a2_5 a2_6).bind fun bt127 => (if (!(bt127.1 == t115) || (!(bt127.2 == t116))) = true then (changeforgelaw5_PushcertMatchesSpec.j2 kj24 true a2_0 a2_1 a2_2 a2_3 a2_4 a2_5 a2_6 t115 t116 bt117.2.2.2.2.2.2.2.1 bt117.2.2.2.2.2.2.2.2 bt117.1 bt117.2.1 bt117.2.2.1 bt117.2.2.2.1 bt117.2.2.2.2.1 bt117.2.2.2.2.2.1 bt117.2.2.2.2.2.2.1) else (if (!(bt117.2.2.2.2.2.2.2.1 == t115) || (!(bt117.2.2.2.2.2.2.2.2 == t116))) = true then (changeforgelaw5_PushcertMatchesSpec.j2 kj24 true a2_0 a2_1 a2_2 a2_3 a2_4 a2_5 a2_6 t115 t116 bt117.2.2.2.2.2.2.2.1 bt117.2.2.2.2.2.2.2.2 bt117.1 bt117.2.1 bt117.2.2.1 bt117.2.2.2.1 bt117.2.2.2.2.1 bt117.2.2.2.2.2.1 bt117.2.2.2.2.2.2.1) else (changeforgelaw5_PushcertMatchesSpec.j2 kj24 (t115 != 0) a2_0 a2_1 a2_2 a2_3 a2_4 a2_5 a2_6 t115 t116 bt117.2.2.2.2.2.2.2.1 bt117.2.2.2.2.2.2.2.2 bt117.1 bt117.2.1 bt117.2.2.1 bt117.2.2.2.1 bt117.2.2.2.2.1 bt117.2.2.2.2.2.1 bt117.2.2.2.2.2.2.1))))) = some r:=H;have A57:=Aside0.mk A570;clear A570;replace H:=Option.bind_eq_some_iff.mp H;obtain ⟨⟨t117,t118,t119,t120,t121,t122,t123,t124,t125⟩,A580,H⟩:=H;replace H : ((pushcert_Validate.f kj24 a2_0 a2_1 a2_2 a2_3 a2_4 a2_5 a2_6).bind fun bt127 => (if (!(bt127.1 == t115) || (!(bt127.2 == t116))) = true then (changeforgelaw5_PushcertMatchesSpec.j2 kj24 true a2_0 a2_1 a2_2 a2_3 a2_4 a2_5 a2_6 t115 t116 t124 t125 t117 t118 t119 t120 t121 t122 t123) else (if (!(t124 == t115) || (!(t125 == t116))) = true then (changeforgelaw5_PushcertMatchesSpec.j2 kj24 true a2_0 a2_1 a2_2 a2_3 a2_4 a2_5 a2_6 t115 t116 t124 t125 t117 t118 t119 t120 t121 t122 t123) else (changeforgelaw5_PushcertMatchesSpec.j2 kj24 (t115 != 0) a2_0 a2_1 a2_2 a2_3 a2_4 a2_5 a2_6 t115 t116 t124 t125 t117 t118 t119 t120 t121 t122 t123)))) = some r:=H;have A58:=Aside0.mk A580;clear A580;have HC59:=Aside0.mk H;clear H;have hnb60:=NB101_103.out;have hnc60:=NB103_101.out;have hnb61:=NB101_113.out;have hnc61:=NB113_101.out;have hcz62_0:=blk_c (v:=.int .i64 a2_0) BK101.out 0 rfl;have hcz62_1:=blk_c (v:=.int .i64 a2_1) BK101.out 1 rfl;have hcz62_2:=blk_c (v:=.int .i64 a2_2) BK101.out 2 rfl;have hcz62_3:=blk_c (v:=.string a2_3) BK101.out 3 rfl;have hcz62_4:=blk_c (v:=.int .i64 a2_4) BK101.out 4 rfl;have hcz62_5:=blk_c (v:=.int .i64 a2_5) BK101.out 5 rfl;have hcz62_6:=blk_c (v:=.int .i64 a2_6) BK101.out 6 rfl;have hfz62_0:=blk_frozen BK101.out 0;have hfz62_1:=blk_frozen BK101.out 1;have hfz62_2:=blk_frozen BK101.out 2;have hfz62_3:=blk_frozen BK101.out 3;have hfz62_4:=blk_frozen BK101.out 4;have hfz62_5:=blk_frozen BK101.out 5;have hfz62_6:=blk_frozen BK101.out 6;go_upto_region 13 with (first|((with_reducible refine gate_callee (f:=15) rfl ?_);refine goesL_ (some 53) rfl rfl Try.func15 (by kernel_rfl) rfl #[.agg #[.int .i64 a2_0,.int .i64 a2_1,.int .i64 a2_2,.string a2_3,.int .i64 a2_4,.int .i64 a2_5,.int .i64 a2_6]] rfl ln_ ?_;(with_reducible refine (changeforgeref5_CertFault.calls kj24 a2_0 a2_1 a2_2 a2_3 a2_4 a2_5 a2_6 t115 t116 _ A57.out).mono ?_);rintro e w63 ⟨rfl,hb⟩;refine ⟨_,rfl,?_⟩;replace BK101:=Aside0.mk (blk_below (blk_mv BK101.out) hb);replace BK103:=Aside0.mk (blk_below (blk_mv BK103.out) hb);replace BK113:=Aside0.mk (blk_below (blk_mv BK113.out) hb);replace HB:=Aside0.mk (below_step bel_ hb);(try clear hb);(try clear hb2);(try clear hk);(try clear hi);have hnb64:=NB103_113.out;have hnc64:=NB113_103.out;have hcz65_0:=blk_c (v:=.int .i64 x104000_6) BK103.out 0 rfl;have hcz65_1:=blk_c (v:=.int .i64 x104001_6) BK103.out 1 rfl;have hfz65_0:=blk_frozen BK103.out 0;have hfz65_1:=blk_frozen BK103.out 1;have hcz66_0:=blk_c (v:=.int .i64 a2_0) BK101.out 0 rfl;have hcz66_1:=blk_c (v:=.int .i64 a2_1) BK101.out 1 rfl;have hcz66_2:=blk_c (v:=.int .i64 a2_2) BK101.out 2 rfl;have hcz66_3:=blk_c (v:=.string a2_3) BK101.out 3 rfl;have hcz66_4:=blk_c (v:=.int .i64 a2_4) BK101.out 4 rfl;have hcz66_5:=blk_c (v:=.int .i64 a2_5) BK101.out 5 rfl;have hcz66_6:=blk_c (v:=.int .i64 a2_6) BK101.out 6 rfl;have hfz66_0:=blk_frozen BK101.out 0;have hfz66_1:=blk_frozen BK101.out 1;have hfz66_2:=blk_frozen BK101.out 2;have hfz66_3:=blk_frozen BK101.out 3;have hfz66_4:=blk_frozen BK101.out 4;have hfz66_5:=blk_frozen BK101.out 5;have hfz66_6:=blk_frozen BK101.out 6)|((with_reducible refine gate_callee (f:=16) rfl ?_);refine goesL_ (some 56) rfl rfl Try.func16 (by kernel_rfl) rfl #[.agg #[.int .i64 a2_0,.int .i64 a2_1,.int .i64 a2_2,.string a2_3,.int .i64 a2_4,.int .i64 a2_5,.int .i64 a2_6]] rfl ln_ ?_;(with_reducible refine (pushcert_Certify.calls kj24 a2_0 a2_1 a2_2 a2_3 a2_4 a2_5 a2_6 t117 t118 t119 t120 t121 t122 t123 t124 t125 _ A58.out).mono ?_);rintro e w67 ⟨rfl,hb⟩;refine ⟨_,rfl,?_⟩;replace BK101:=Aside0.mk (blk_below (g:=gb101) (o:=.cells #[.int .i64 a2_0,.int .i64 a2_1,.int .i64 a2_2,.string a2_3,.int .i64 a2_4,.int .i64 a2_5,.int .i64 a2_6] 23 (0,0)) (by refine blk_mv ?_;refine blk_far ?_ NB101_103.out _;refine blk_mv ?_;refine blk_far ?_ NB101_103.out _;refine blk_mv ?_;exact BK101.out) hb);replace BK103:=Aside0.mk (blk_below (g:=gb103) (o:=.cells #[.int .i64 t115,.int .i64 t116] 26 (0,0)) (by refine blk_mv ?_;refine blk_put (cs:=#[.int .i64 t115,.int .i64 x104001_6]) ?_ 1 _ rfl;refine blk_mv ?_;refine blk_put (cs:=#[.int .i64 x104000_6,.int .i64 x104001_6]) ?_ 0 _ rfl;refine blk_mv ?_;exact BK103.out) hb);replace BK113:=Aside0.mk (blk_below (g:=gb113) (o:=.cells #[.int .i64 t111,.int .i64 t112] 26 (0,0)) (by refine blk_mv ?_;refine blk_far ?_ NB113_103.out _;refine blk_mv ?_;refine blk_far ?_ NB113_103.out _;refine blk_mv ?_;exact BK113.out) hb);replace HB:=Aside0.mk (below_step bel_ hb);(try clear hb);(try clear hb2);(try clear hk);(try clear hi))|((with_reducible refine gate_dst (N:=10) rfl ?_);refine box_event ?hg (N:=10) ?hd (cs:=#[.int .i64 0,.int .i64 0,.int .i64 0,.string (⟨#[]⟩ : ByteArray),.int .i64 0,.int .i64 0,.int .i64 0]) (t:=23) ?hr ?_;(case hd => rfl);(case hg => rfl);(case hr => first|(go_simp;done)|(go_simp;rfl));intro gb126 hg w68 hbox hb;have BK126:=Aside0.mk (hbox);have GW126:=Aside0.mk ((bs_ : w.heap.size ≤ gb126));have GE126:=Aside0.mk ((bs_ : w.heap.size ≤ gb126));replace HB:=Aside0.mk (below_step bel_ hb);have NB101_126:=Aside0.mk ((by rw [hg];exact Nat.ne_of_lt (blk_lt (g:=gb101) (o:=.cells #[.int .i64 a2_0,.int .i64 a2_1,.int .i64 a2_2,.string a2_3,.int .i64 a2_4,.int .i64 a2_5,.int .i64 a2_6] 23 (0,0)) (blk_mv BK101.out)) : gb101 ≠ gb126));have NB126_101:=Aside0.mk ((by rw [hg];exact Nat.ne_of_gt (blk_lt (g:=gb101) (o:=.cells #[.int .i64 a2_0,.int .i64 a2_1,.int .i64 a2_2,.string a2_3,.int .i64 a2_4,.int .i64 a2_5,.int .i64 a2_6] 23 (0,0)) (blk_mv BK101.out)) : gb126 ≠ gb101));replace BK101:=Aside0.mk (blk_below (blk_mv BK101.out) hb);have NB103_126:=Aside0.mk ((by rw [hg];exact Nat.ne_of_lt (blk_lt (g:=gb103) (o:=.cells #[.int .i64 t115,.int .i64 t116] 26 (0,0)) (blk_mv BK103.out)) : gb103 ≠ gb126));have NB126_103:=Aside0.mk ((by rw [hg];exact Nat.ne_of_gt (blk_lt (g:=gb103) (o:=.cells #[.int .i64 t115,.int .i64 t116] 26 (0,0)) (blk_mv BK103.out)) : gb126 ≠ gb103));replace BK103:=Aside0.mk (blk_below (blk_mv BK103.out) hb);have NB113_126:=Aside0.mk ((by rw [hg];exact Nat.ne_of_lt (blk_lt (g:=gb113) (o:=.cells #[.int .i64 t111,.int .i64 t112] 26 (0,0)) (blk_mv BK113.out)) : gb113 ≠ gb126));have NB126_113:=Aside0.mk ((by rw [hg];exact Nat.ne_of_gt (blk_lt (g:=gb113) (o:=.cells #[.int .i64 t111,.int .i64 t112] 26 (0,0)) (blk_mv BK113.out)) : gb126 ≠ gb113));replace BK113:=Aside0.mk (blk_below (blk_mv BK113.out) hb);clear hb hbox hg;have hnb69:=NB126_101.out;have hnc69:=NB101_126.out;have hnb70:=NB126_103.out;have hnc70:=NB103_126.out;have hnb71:=NB126_113.out;have hnc71:=NB113_126.out;have hcz72_0:=blk_c (v:=.int .i64 0) BK126.out 0 rfl;have hcz72_1:=blk_c (v:=.int .i64 0) BK126.out 1 rfl;have hcz72_2:=blk_c (v:=.int .i64 0) BK126.out 2 rfl;have hcz72_3:=blk_c (v:=.string (⟨#[]⟩ : ByteArray)) BK126.out 3 rfl;have hcz72_4:=blk_c (v:=.int .i64 0) BK126.out 4 rfl;have hcz72_5:=blk_c (v:=.int .i64 0) BK126.out 5 rfl;have hcz72_6:=blk_c (v:=.int .i64 0) BK126.out 6 rfl;have hfz72_0:=blk_frozen BK126.out 0;have hfz72_1:=blk_frozen BK126.out 1;have hfz72_2:=blk_frozen BK126.out 2;have hfz72_3:=blk_frozen BK126.out 3;have hfz72_4:=blk_frozen BK126.out 4;have hfz72_5:=blk_frozen BK126.out 5;have hfz72_6:=blk_frozen BK126.out 6;have hcz73_0:=blk_c (v:=.int .i64 t111) BK113.out 0 rfl;have hcz73_1:=blk_c (v:=.int .i64 t112) BK113.out 1 rfl;have hfz73_0:=blk_frozen BK113.out 0;have hfz73_1:=blk_frozen BK113.out 1));(try simp only [Act.put,sa_,sb_,sc_]);go_cut [72] (fun v72 wc => ∃ (kq : Nat) (x72_58 : Bool),v72 = .bool x72_58 ∧ Aside0 (changeforgelaw5_PushcertMatchesSpec.j2 kq x72_58 a2_0 a2_1 a2_2 a2_3 a2_4 a2_5 a2_6 t115 t116 t124 t125 t117 t118 t119 t120 t121 t122 t123 = some r) ∧ Aside0 (kq ≤ kj24) ∧ Aside0 (wc.heap[gb101]? = some (.cells #[.int .i64 a2_0,.int .i64 a2_1,.int .i64 a2_2,.string a2_3,.int .i64 a2_4,.int .i64 a2_5,.int .i64 a2_6] 23 (0,0))) ∧ Aside0 (wc.heap[gb103]? = some (.cells #[.int .i64 t115,.int .i64 t116] 26 (0,0))) ∧ Aside0 (wc.heap[gb113]? = some (.cells #[.int .i64 t124,.int .i64 t125] 26 (0,0))) ∧ Aside0 (wc.heap[gb126]? = some (.cells #[.int .i64 t117,.int .i64 t118,.int .i64 t119,.string t120,.int .i64 t121,.int .i64 t122,.int .i64 t123] 23 (0,0))) ∧ Aside0 (Below w.heap.size w wc))
       case first =>
        have H:=HC59.out;clear HC59;replace H:=Option.bind_eq_some_iff.mp H;obtain ⟨⟨t127,t128⟩,A740,H⟩:=H;replace H : (if (!(t127 == t115) || (!(t128 == t116))) = true then (changeforgelaw5_PushcertMatchesSpec.j2 kj24 true a2_0 a2_1 a2_2 a2_3 a2_4 a2_5 a2_6 t115 t116 t124 t125 t117 t118 t119 t120 t121 t122 t123) else (if (!(t124 == t115) || (!(t125 == t116))) = true then (changeforgelaw5_PushcertMatchesSpec.j2 kj24 true a2_0 a2_1 a2_2 a2_3 a2_4 a2_5 a2_6 t115 t116 t124 t125 t117 t118 t119 t120 t121 t122 t123) else (changeforgelaw5_PushcertMatchesSpec.j2 kj24 (t115 != 0) a2_0 a2_1 a2_2 a2_3 a2_4 a2_5 a2_6 t115 t116 t124 t125 t117 t118 t119 t120 t121 t122 t123))) = some r:=H;have A74:=Aside0.mk A740;clear A740;by_cases c75 : (!(t127 == t115) || (!(t128 == t116))) = true
        ·rw [if_pos c75] at H
         have c75b0 : (!(t127 == t115) || (!(t128 == t116))) = true:=c75;clear c75;(first|rw [c75b0]|(simp only [i64_w,i32_w];rw [c75b0])|skip);have H':=Aside0.mk H;clear H;try go_wp2
         have n0_ : Aside0 ((((((((((w68.setCell ⟨gb126,0,none⟩ (.int .i64 t117)).setCell ⟨gb126,1,none⟩ (.int .i64 t118)).setCell ⟨gb126,2,none⟩ (.int .i64 t119)).setCell ⟨gb126,3,none⟩ (.string t120)).setCell ⟨gb126,4,none⟩ (.int .i64 t121)).setCell ⟨gb126,5,none⟩ (.int .i64 t122)).setCell ⟨gb126,6,none⟩ (.int .i64 t123)).setCell ⟨gb113,0,none⟩ (.int .i64 t124)).setCell ⟨gb113,1,none⟩ (.int .i64 t125)).heap[gb101]? = some (.cells #[.int .i64 a2_0,.int .i64 a2_1,.int .i64 a2_2,.string a2_3,.int .i64 a2_4,.int .i64 a2_5,.int .i64 a2_6] 23 (0,0))):=⟨by refine blk_mv ?_;refine blk_far ?_ NB101_113.out _;refine blk_mv ?_;refine blk_far ?_ NB101_113.out _;refine blk_mv ?_;refine blk_far ?_ NB101_126.out _;refine blk_mv ?_;refine blk_far ?_ NB101_126.out _;refine blk_mv ?_;refine blk_far ?_ NB101_126.out _;refine blk_mv ?_;refine blk_far ?_ NB101_126.out _;refine blk_mv ?_;refine blk_far ?_ NB101_126.out _;refine blk_mv ?_;refine blk_far ?_ NB101_126.out _;refine blk_mv ?_;refine blk_far ?_ NB101_126.out _;refine blk_mv ?_;exact BK101.out⟩;have n1_ : Aside0 ((((((((((w68.setCell ⟨gb126,0,none⟩ (.int .i64 t117)).setCell ⟨gb126,1,none⟩ (.int .i64 t118)).setCell ⟨gb126,2,none⟩ (.int .i64 t119)).setCell ⟨gb126,3,none⟩ (.string t120)).setCell ⟨gb126,4,none⟩ (.int .i64 t121)).setCell ⟨gb126,5,none⟩ (.int .i64 t122)).setCell ⟨gb126,6,none⟩ (.int .i64 t123)).setCell ⟨gb113,0,none⟩ (.int .i64 t124)).setCell ⟨gb113,1,none⟩ (.int .i64 t125)).heap[gb103]? = some (.cells #[.int .i64 t115,.int .i64 t116] 26 (0,0))):=⟨by refine blk_mv ?_;refine blk_far ?_ NB103_113.out _;refine blk_mv ?_;refine blk_far ?_ NB103_113.out _;refine blk_mv ?_;refine blk_far ?_ NB103_126.out _;refine blk_mv ?_;refine blk_far ?_ NB103_126.out _;refine blk_mv ?_;refine blk_far ?_ NB103_126.out _;refine blk_mv ?_;refine blk_far ?_ NB103_126.out _;refine blk_mv ?_;refine blk_far ?_ NB103_126.out _;refine blk_mv ?_;refine blk_far ?_ NB103_126.out _;refine blk_mv ?_;refine blk_far ?_ NB103_126.out _;refine blk_mv ?_;exact BK103.out⟩;have n2_ : Aside0 ((((((((((w68.setCell ⟨gb126,0,none⟩ (.int .i64 t117)).setCell ⟨gb126,1,none⟩ (.int .i64 t118)).setCell ⟨gb126,2,none⟩ (.int .i64 t119)).setCell ⟨gb126,3,none⟩ (.string t120)).setCell ⟨gb126,4,none⟩ (.int .i64 t121)).setCell ⟨gb126,5,none⟩ (.int .i64 t122)).setCell ⟨gb126,6,none⟩ (.int .i64 t123)).setCell ⟨gb113,0,none⟩ (.int .i64 t124)).setCell ⟨gb113,1,none⟩ (.int .i64 t125)).heap[gb113]? = some (.cells #[.int .i64 t124,.int .i64 t125] 26 (0,0))):=⟨by refine blk_mv ?_;refine blk_put (cs:=#[.int .i64 t124,.int .i64 t112]) ?_ 1 _ rfl;refine blk_mv ?_;refine blk_put (cs:=#[.int .i64 t111,.int .i64 t112]) ?_ 0 _ rfl;refine blk_mv ?_;refine blk_far ?_ NB113_126.out _;refine blk_mv ?_;refine blk_far ?_ NB113_126.out _;refine blk_mv ?_;refine blk_far ?_ NB113_126.out _;refine blk_mv ?_;refine blk_far ?_ NB113_126.out _;refine blk_mv ?_;refine blk_far ?_ NB113_126.out _;refine blk_mv ?_;refine blk_far ?_ NB113_126.out _;refine blk_mv ?_;refine blk_far ?_ NB113_126.out _;refine blk_mv ?_;exact BK113.out⟩;have n3_ : Aside0 ((((((((((w68.setCell ⟨gb126,0,none⟩ (.int .i64 t117)).setCell ⟨gb126,1,none⟩ (.int .i64 t118)).setCell ⟨gb126,2,none⟩ (.int .i64 t119)).setCell ⟨gb126,3,none⟩ (.string t120)).setCell ⟨gb126,4,none⟩ (.int .i64 t121)).setCell ⟨gb126,5,none⟩ (.int .i64 t122)).setCell ⟨gb126,6,none⟩ (.int .i64 t123)).setCell ⟨gb113,0,none⟩ (.int .i64 t124)).setCell ⟨gb113,1,none⟩ (.int .i64 t125)).heap[gb126]? = some (.cells #[.int .i64 t117,.int .i64 t118,.int .i64 t119,.string t120,.int .i64 t121,.int .i64 t122,.int .i64 t123] 23 (0,0))):=⟨by refine blk_mv ?_;refine blk_far ?_ NB126_113.out _;refine blk_mv ?_;refine blk_far ?_ NB126_113.out _;refine blk_mv ?_;refine blk_put (cs:=#[.int .i64 t117,.int .i64 t118,.int .i64 t119,.string t120,.int .i64 t121,.int .i64 t122,.int .i64 0]) ?_ 6 _ rfl;refine blk_mv ?_;refine blk_put (cs:=#[.int .i64 t117,.int .i64 t118,.int .i64 t119,.string t120,.int .i64 t121,.int .i64 0,.int .i64 0]) ?_ 5 _ rfl;refine blk_mv ?_;refine blk_put (cs:=#[.int .i64 t117,.int .i64 t118,.int .i64 t119,.string t120,.int .i64 0,.int .i64 0,.int .i64 0]) ?_ 4 _ rfl;refine blk_mv ?_;refine blk_put (cs:=#[.int .i64 t117,.int .i64 t118,.int .i64 t119,.string (⟨#[]⟩ : ByteArray),.int .i64 0,.int .i64 0,.int .i64 0]) ?_ 3 _ rfl;refine blk_mv ?_;refine blk_put (cs:=#[.int .i64 t117,.int .i64 t118,.int .i64 0,.string (⟨#[]⟩ : ByteArray),.int .i64 0,.int .i64 0,.int .i64 0]) ?_ 2 _ rfl;refine blk_mv ?_;refine blk_put (cs:=#[.int .i64 t117,.int .i64 0,.int .i64 0,.string (⟨#[]⟩ : ByteArray),.int .i64 0,.int .i64 0,.int .i64 0]) ?_ 1 _ rfl;refine blk_mv ?_;refine blk_put (cs:=#[.int .i64 0,.int .i64 0,.int .i64 0,.string (⟨#[]⟩ : ByteArray),.int .i64 0,.int .i64 0,.int .i64 0]) ?_ 0 _ rfl;refine blk_mv ?_;exact BK126.out⟩;have n4_ : Aside0 (Below w.heap.size w (((((((((w68.setCell ⟨gb126,0,none⟩ (.int .i64 t117)).setCell ⟨gb126,1,none⟩ (.int .i64 t118)).setCell ⟨gb126,2,none⟩ (.int .i64 t119)).setCell ⟨gb126,3,none⟩ (.string t120)).setCell ⟨gb126,4,none⟩ (.int .i64 t121)).setCell ⟨gb126,5,none⟩ (.int .i64 t122)).setCell ⟨gb126,6,none⟩ (.int .i64 t123)).setCell ⟨gb113,0,none⟩ (.int .i64 t124)).setCell ⟨gb113,1,none⟩ (.int .i64 t125))):=⟨bel_⟩;(try clear BK101);(try clear BK103);(try clear BK113);(try clear BK126);(try clear HB);generalize (((((((((w68.setCell ⟨gb126,0,none⟩ (.int .i64 t117)).setCell ⟨gb126,1,none⟩ (.int .i64 t118)).setCell ⟨gb126,2,none⟩ (.int .i64 t119)).setCell ⟨gb126,3,none⟩ (.string t120)).setCell ⟨gb126,4,none⟩ (.int .i64 t121)).setCell ⟨gb126,5,none⟩ (.int .i64 t122)).setCell ⟨gb126,6,none⟩ (.int .i64 t123)).setCell ⟨gb113,0,none⟩ (.int .i64 t124)).setCell ⟨gb113,1,none⟩ (.int .i64 t125)) = w76 at n0_ n1_ n2_ n3_ n4_ ⊢;have BK101:=n0_;have BK103:=n1_;have BK113:=n2_;have BK126:=n3_;have HB:=n4_;clear n0_ n1_ n2_ n3_ n4_;replace BK101:=Aside0.mk (blk_drew BK101.out);replace BK103:=Aside0.mk (blk_drew BK103.out);replace BK113:=Aside0.mk (blk_drew BK113.out);replace BK126:=Aside0.mk (blk_drew BK126.out);replace HB:=Aside0.mk (below_drew1 HB.out);refine start_ (n:=14) (S:=fun w' => w'.cell? ⟨gb101,0,none⟩ = some (.int .i64 a2_0) ∧ w'.cell? ⟨gb101,1,none⟩ = some (.int .i64 a2_1) ∧ w'.cell? ⟨gb101,2,none⟩ = some (.int .i64 a2_2) ∧ w'.cell? ⟨gb101,3,none⟩ = some (.string a2_3) ∧ w'.cell? ⟨gb101,4,none⟩ = some (.int .i64 a2_4) ∧ w'.cell? ⟨gb101,5,none⟩ = some (.int .i64 a2_5) ∧ w'.cell? ⟨gb101,6,none⟩ = some (.int .i64 a2_6) ∧ w'.cell? ⟨gb103,0,none⟩ = some (.int .i64 t115) ∧ w'.cell? ⟨gb103,1,none⟩ = some (.int .i64 t116)) (ds:=[]) (bl_ 14 0) (by kernel_rfl) rfl rfl ⟨(blk_cell BK101.out 0).trans rfl,(blk_cell BK101.out 1).trans rfl,(blk_cell BK101.out 2).trans rfl,(blk_cell BK101.out 3).trans rfl,(blk_cell BK101.out 4).trans rfl,(blk_cell BK101.out 5).trans rfl,(blk_cell BK101.out 6).trans rfl,(blk_cell BK103.out 0).trans rfl,(blk_cell BK103.out 1).trans rfl⟩ (fun hHeld => ?_);refine with_tabW changeforgelaw5_PushcertMatchesSpec.tab13 changeforgelaw5_PushcertMatchesSpec.bits13 (fun HT_ HW_ => ?_);generalize w76.drew = w77 at BK101 BK103 BK113 BK126 HB hHeld ⊢;refine tk_ (v:=?_) (a':=?_) 0 59 (bl_ 14 1) rfl rfl HT_.out HW_.out ?_ hHeld ?_ ?_;rotate_left
         ·rintro w' ⟨s0,s1,s2,s3,s4,s5,s6,s7,s8⟩
          go_simp;with_reducible rfl
         rotate_left
         ·simp only [Act.put,sa_,sb_,sc_,i64_w,i32_w]
          rfl
         refine tk_ (v:=?_) (a':=?_) 2 61 (bl_ 14 5) rfl rfl HT_.out HW_.out ?_ hHeld ?_ ?_;rotate_left
         ·rintro w' ⟨s0,s1,s2,s3,s4,s5,s6,s7,s8⟩
          go_simp;with_reducible rfl
         rotate_left
         ·simp only [Act.put,sa_,sb_,sc_,i64_w,i32_w]
          rfl
         refine one_ (i:=1) (N:=some 60) (bl_ 14 7) rfl rfl (one_of HT_.out (by kernel_rfl)) (by decide) (fun K hK => ?_);refine goes_ Try.func17 (by kernel_rfl) rfl #[.agg #[.int .i64 a2_0,.int .i64 a2_1,.int .i64 a2_2,.string a2_3,.int .i64 a2_4,.int .i64 a2_5,.int .i64 a2_6]] (by rfl) rfl rfl ln_ ?_;with_reducible refine (pushcert_Validate.calls kj24 a2_0 a2_1 a2_2 a2_3 a2_4 a2_5 a2_6 t127 t128 _ A74.out).mono ?_
         rintro e w78 ⟨rfl,hb⟩;refine ⟨_,rfl,?_⟩;replace BK101:=Aside0.mk (blk_below (blk_mv BK101.out) hb);replace BK103:=Aside0.mk (blk_below (blk_mv BK103.out) hb);replace BK113:=Aside0.mk (blk_below (blk_mv BK113.out) hb);replace BK126:=Aside0.mk (blk_below (blk_mv BK126.out) hb);replace HB:=Aside0.mk (below_step bel_ hb);(try clear hb);refine hK.out _ _ ⟨(blk_cell BK101.out 0).trans rfl,(blk_cell BK101.out 1).trans rfl,(blk_cell BK101.out 2).trans rfl,(blk_cell BK101.out 3).trans rfl,(blk_cell BK101.out 4).trans rfl,(blk_cell BK101.out 5).trans rfl,(blk_cell BK101.out 6).trans rfl,(blk_cell BK103.out 0).trans rfl,(blk_cell BK103.out 1).trans rfl⟩ (fun hHeld => ?_);clear hK K;refine norm_ (a':=?_) ?_ ?_;rotate_left
         ·show Act.put _ (some 60) _ = _
          simp only [Act.put,sa_,sb_,sc_,i64_w,i32_w];rfl
         refine pu_ (v:=?_) (a':=?_) 3 62 (bl_ 14 15) rfl rfl HT_.out ?_ ?_ ?_;rotate_left
         ·intro w'
          go_simp;with_reducible rfl
         rotate_left
         ·simp only [Act.put,sa_,sb_,sc_,i64_w,i32_w]
          rfl
         refine pu_ (v:=?_) (a':=?_) 4 63 (bl_ 14 31) rfl rfl HT_.out ?_ ?_ ?_;rotate_left
         ·intro w'
          go_simp;with_reducible rfl
         rotate_left
         ·simp only [Act.put,sa_,sb_,sc_,i64_w,i32_w]
          rfl
         refine pun_ (a':=?_) 5 64 (bl_ 14 63) rfl rfl HT_.out ?_ ?_;rotate_left
         ·simp only [Act.put,sa_,sb_,sc_,i64_w,i32_w]
          rfl
         refine pun_ (a':=?_) 6 65 (bl_ 14 127) rfl rfl HT_.out ?_ ?_;rotate_left
         ·simp only [Act.put,sa_,sb_,sc_,i64_w,i32_w]
          rfl
         refine pun_ (a':=?_) 7 66 (bl_ 14 255) rfl rfl HT_.out ?_ ?_;rotate_left
         ·simp only [Act.put,sa_,sb_,sc_,i64_w,i32_w]
          rfl
         refine pu_ (v:=?_) (a':=?_) 8 67 (bl_ 14 511) rfl rfl HT_.out ?_ ?_ ?_;rotate_left
         ·intro w'
          go_simp;with_reducible rfl
         rotate_left
         ·simp only [Act.put,sa_,sb_,sc_,i64_w,i32_w]
          rfl
         refine pu_ (v:=?_) (a':=?_) 9 68 (bl_ 14 1023) rfl rfl HT_.out ?_ ?_ ?_;rotate_left
         ·intro w'
          go_simp;with_reducible rfl
         rotate_left
         ·simp only [Act.put,sa_,sb_,sc_,i64_w,i32_w]
          rfl
         refine pun_ (a':=?_) 10 69 (bl_ 14 2047) rfl rfl HT_.out ?_ ?_;rotate_left
         ·simp only [Act.put,sa_,sb_,sc_,i64_w,i32_w]
          rfl
         refine pun_ (a':=?_) 11 70 (bl_ 14 4095) rfl rfl HT_.out ?_ ?_;rotate_left
         ·simp only [Act.put,sa_,sb_,sc_,i64_w,i32_w]
          rfl
         refine pun_ (a':=?_) 12 71 (bl_ 14 8191) rfl rfl HT_.out ?_ ?_;rotate_left
         ·simp only [Act.put,sa_,sb_,sc_,i64_w,i32_w]
          rfl
         refine pu_ (v:=?_) (a':=?_) 13 72 (bl_ 14 16383) rfl rfl HT_.out ?_ ?_ ?_;rotate_left
         ·intro w'
          go_simp;with_reducible rfl
         rotate_left
         ·simp only [Act.put,sa_,sb_,sc_,i64_w,i32_w]
          rfl
         refine done_ (done_of HT_.out (by kernel_rfl)) ?_;try go_wp2
         go_meet
         case rel => exact ⟨_,(true),fr_,H',⟨by have:=HJ6.out;have:=HJ24.out;first|omega|exact Nat.le_refl _⟩,⟨blk_mv BK101.out⟩,⟨blk_mv BK103.out⟩,⟨blk_mv BK113.out⟩,⟨blk_mv BK126.out⟩,⟨bel_⟩⟩
        ·rw [if_neg c75] at H
         have c75b0 : (!(t127 == t115) || (!(t128 == t116))) = false:=by simpa using c75
         clear c75;(first|rw [c75b0]|(simp only [i64_w,i32_w];rw [c75b0])|skip);by_cases c79 : (!(t124 == t115) || (!(t125 == t116))) = true
         ·rw [if_pos c79] at H
          have c79b0 : (!(t124 == t115) || (!(t125 == t116))) = true:=c79;clear c79;have H':=Aside0.mk H;clear H;try go_wp2
          have n0_ : Aside0 ((((((((((w68.setCell ⟨gb126,0,none⟩ (.int .i64 t117)).setCell ⟨gb126,1,none⟩ (.int .i64 t118)).setCell ⟨gb126,2,none⟩ (.int .i64 t119)).setCell ⟨gb126,3,none⟩ (.string t120)).setCell ⟨gb126,4,none⟩ (.int .i64 t121)).setCell ⟨gb126,5,none⟩ (.int .i64 t122)).setCell ⟨gb126,6,none⟩ (.int .i64 t123)).setCell ⟨gb113,0,none⟩ (.int .i64 t124)).setCell ⟨gb113,1,none⟩ (.int .i64 t125)).heap[gb101]? = some (.cells #[.int .i64 a2_0,.int .i64 a2_1,.int .i64 a2_2,.string a2_3,.int .i64 a2_4,.int .i64 a2_5,.int .i64 a2_6] 23 (0,0))):=⟨by refine blk_mv ?_;refine blk_far ?_ NB101_113.out _;refine blk_mv ?_;refine blk_far ?_ NB101_113.out _;refine blk_mv ?_;refine blk_far ?_ NB101_126.out _;refine blk_mv ?_;refine blk_far ?_ NB101_126.out _;refine blk_mv ?_;refine blk_far ?_ NB101_126.out _;refine blk_mv ?_;refine blk_far ?_ NB101_126.out _;refine blk_mv ?_;refine blk_far ?_ NB101_126.out _;refine blk_mv ?_;refine blk_far ?_ NB101_126.out _;refine blk_mv ?_;refine blk_far ?_ NB101_126.out _;refine blk_mv ?_;exact BK101.out⟩;have n1_ : Aside0 ((((((((((w68.setCell ⟨gb126,0,none⟩ (.int .i64 t117)).setCell ⟨gb126,1,none⟩ (.int .i64 t118)).setCell ⟨gb126,2,none⟩ (.int .i64 t119)).setCell ⟨gb126,3,none⟩ (.string t120)).setCell ⟨gb126,4,none⟩ (.int .i64 t121)).setCell ⟨gb126,5,none⟩ (.int .i64 t122)).setCell ⟨gb126,6,none⟩ (.int .i64 t123)).setCell ⟨gb113,0,none⟩ (.int .i64 t124)).setCell ⟨gb113,1,none⟩ (.int .i64 t125)).heap[gb103]? = some (.cells #[.int .i64 t115,.int .i64 t116] 26 (0,0))):=⟨by refine blk_mv ?_;refine blk_far ?_ NB103_113.out _;refine blk_mv ?_;refine blk_far ?_ NB103_113.out _;refine blk_mv ?_;refine blk_far ?_ NB103_126.out _;refine blk_mv ?_;refine blk_far ?_ NB103_126.out _;refine blk_mv ?_;refine blk_far ?_ NB103_126.out _;refine blk_mv ?_;refine blk_far ?_ NB103_126.out _;refine blk_mv ?_;refine blk_far ?_ NB103_126.out _;refine blk_mv ?_;refine blk_far ?_ NB103_126.out _;refine blk_mv ?_;refine blk_far ?_ NB103_126.out _;refine blk_mv ?_;exact BK103.out⟩;have n2_ : Aside0 ((((((((((w68.setCell ⟨gb126,0,none⟩ (.int .i64 t117)).setCell ⟨gb126,1,none⟩ (.int .i64 t118)).setCell ⟨gb126,2,none⟩ (.int .i64 t119)).setCell ⟨gb126,3,none⟩ (.string t120)).setCell ⟨gb126,4,none⟩ (.int .i64 t121)).setCell ⟨gb126,5,none⟩ (.int .i64 t122)).setCell ⟨gb126,6,none⟩ (.int .i64 t123)).setCell ⟨gb113,0,none⟩ (.int .i64 t124)).setCell ⟨gb113,1,none⟩ (.int .i64 t125)).heap[gb113]? = some (.cells #[.int .i64 t124,.int .i64 t125] 26 (0,0))):=⟨by refine blk_mv ?_;refine blk_put (cs:=#[.int .i64 t124,.int .i64 t112]) ?_ 1 _ rfl;refine blk_mv ?_;refine blk_put (cs:=#[.int .i64 t111,.int .i64 t112]) ?_ 0 _ rfl;refine blk_mv ?_;refine blk_far ?_ NB113_126.out _;refine blk_mv ?_;refine blk_far ?_ NB113_126.out _;refine blk_mv ?_;refine blk_far ?_ NB113_126.out _;refine blk_mv ?_;refine blk_far ?_ NB113_126.out _;refine blk_mv ?_;refine blk_far ?_ NB113_126.out _;refine blk_mv ?_;refine blk_far ?_ NB113_126.out _;refine blk_mv ?_;refine blk_far ?_ NB113_126.out _;refine blk_mv ?_;exact BK113.out⟩;have n3_ : Aside0 ((((((((((w68.setCell ⟨gb126,0,none⟩ (.int .i64 t117)).setCell ⟨gb126,1,none⟩ (.int .i64 t118)).setCell ⟨gb126,2,none⟩ (.int .i64 t119)).setCell ⟨gb126,3,none⟩ (.string t120)).setCell ⟨gb126,4,none⟩ (.int .i64 t121)).setCell ⟨gb126,5,none⟩ (.int .i64 t122)).setCell ⟨gb126,6,none⟩ (.int .i64 t123)).setCell ⟨gb113,0,none⟩ (.int .i64 t124)).setCell ⟨gb113,1,none⟩ (.int .i64 t125)).heap[gb126]? = some (.cells #[.int .i64 t117,.int .i64 t118,.int .i64 t119,.string t120,.int .i64 t121,.int .i64 t122,.int .i64 t123] 23 (0,0))):=⟨by refine blk_mv ?_;refine blk_far ?_ NB126_113.out _;refine blk_mv ?_;refine blk_far ?_ NB126_113.out _;refine blk_mv ?_;refine blk_put (cs:=#[.int .i64 t117,.int .i64 t118,.int .i64 t119,.string t120,.int .i64 t121,.int .i64 t122,.int .i64 0]) ?_ 6 _ rfl;refine blk_mv ?_;refine blk_put (cs:=#[.int .i64 t117,.int .i64 t118,.int .i64 t119,.string t120,.int .i64 t121,.int .i64 0,.int .i64 0]) ?_ 5 _ rfl;refine blk_mv ?_;refine blk_put (cs:=#[.int .i64 t117,.int .i64 t118,.int .i64 t119,.string t120,.int .i64 0,.int .i64 0,.int .i64 0]) ?_ 4 _ rfl;refine blk_mv ?_;refine blk_put (cs:=#[.int .i64 t117,.int .i64 t118,.int .i64 t119,.string (⟨#[]⟩ : ByteArray),.int .i64 0,.int .i64 0,.int .i64 0]) ?_ 3 _ rfl;refine blk_mv ?_;refine blk_put (cs:=#[.int .i64 t117,.int .i64 t118,.int .i64 0,.string (⟨#[]⟩ : ByteArray),.int .i64 0,.int .i64 0,.int .i64 0]) ?_ 2 _ rfl;refine blk_mv ?_;refine blk_put (cs:=#[.int .i64 t117,.int .i64 0,.int .i64 0,.string (⟨#[]⟩ : ByteArray),.int .i64 0,.int .i64 0,.int .i64 0]) ?_ 1 _ rfl;refine blk_mv ?_;refine blk_put (cs:=#[.int .i64 0,.int .i64 0,.int .i64 0,.string (⟨#[]⟩ : ByteArray),.int .i64 0,.int .i64 0,.int .i64 0]) ?_ 0 _ rfl;refine blk_mv ?_;exact BK126.out⟩;have n4_ : Aside0 (Below w.heap.size w (((((((((w68.setCell ⟨gb126,0,none⟩ (.int .i64 t117)).setCell ⟨gb126,1,none⟩ (.int .i64 t118)).setCell ⟨gb126,2,none⟩ (.int .i64 t119)).setCell ⟨gb126,3,none⟩ (.string t120)).setCell ⟨gb126,4,none⟩ (.int .i64 t121)).setCell ⟨gb126,5,none⟩ (.int .i64 t122)).setCell ⟨gb126,6,none⟩ (.int .i64 t123)).setCell ⟨gb113,0,none⟩ (.int .i64 t124)).setCell ⟨gb113,1,none⟩ (.int .i64 t125))):=⟨bel_⟩;(try clear BK101);(try clear BK103);(try clear BK113);(try clear BK126);(try clear HB);generalize (((((((((w68.setCell ⟨gb126,0,none⟩ (.int .i64 t117)).setCell ⟨gb126,1,none⟩ (.int .i64 t118)).setCell ⟨gb126,2,none⟩ (.int .i64 t119)).setCell ⟨gb126,3,none⟩ (.string t120)).setCell ⟨gb126,4,none⟩ (.int .i64 t121)).setCell ⟨gb126,5,none⟩ (.int .i64 t122)).setCell ⟨gb126,6,none⟩ (.int .i64 t123)).setCell ⟨gb113,0,none⟩ (.int .i64 t124)).setCell ⟨gb113,1,none⟩ (.int .i64 t125)) = w80 at n0_ n1_ n2_ n3_ n4_ ⊢;have BK101:=n0_;have BK103:=n1_;have BK113:=n2_;have BK126:=n3_;have HB:=n4_;clear n0_ n1_ n2_ n3_ n4_;replace BK101:=Aside0.mk (blk_drew BK101.out);replace BK103:=Aside0.mk (blk_drew BK103.out);replace BK113:=Aside0.mk (blk_drew BK113.out);replace BK126:=Aside0.mk (blk_drew BK126.out);replace HB:=Aside0.mk (below_drew1 HB.out);refine start_ (n:=14) (S:=fun w' => w'.cell? ⟨gb101,0,none⟩ = some (.int .i64 a2_0) ∧ w'.cell? ⟨gb101,1,none⟩ = some (.int .i64 a2_1) ∧ w'.cell? ⟨gb101,2,none⟩ = some (.int .i64 a2_2) ∧ w'.cell? ⟨gb101,3,none⟩ = some (.string a2_3) ∧ w'.cell? ⟨gb101,4,none⟩ = some (.int .i64 a2_4) ∧ w'.cell? ⟨gb101,5,none⟩ = some (.int .i64 a2_5) ∧ w'.cell? ⟨gb101,6,none⟩ = some (.int .i64 a2_6) ∧ w'.cell? ⟨gb103,0,none⟩ = some (.int .i64 t115) ∧ w'.cell? ⟨gb103,1,none⟩ = some (.int .i64 t116) ∧ w'.cell? ⟨gb113,0,none⟩ = some (.int .i64 t124) ∧ w'.cell? ⟨gb113,1,none⟩ = some (.int .i64 t125)) (ds:=[]) (bl_ 14 0) (by kernel_rfl) rfl rfl ⟨(blk_cell BK101.out 0).trans rfl,(blk_cell BK101.out 1).trans rfl,(blk_cell BK101.out 2).trans rfl,(blk_cell BK101.out 3).trans rfl,(blk_cell BK101.out 4).trans rfl,(blk_cell BK101.out 5).trans rfl,(blk_cell BK101.out 6).trans rfl,(blk_cell BK103.out 0).trans rfl,(blk_cell BK103.out 1).trans rfl,(blk_cell BK113.out 0).trans rfl,(blk_cell BK113.out 1).trans rfl⟩ (fun hHeld => ?_);refine with_tabW changeforgelaw5_PushcertMatchesSpec.tab13 changeforgelaw5_PushcertMatchesSpec.bits13 (fun HT_ HW_ => ?_);generalize w80.drew = w81 at BK101 BK103 BK113 BK126 HB hHeld ⊢;refine tk_ (v:=?_) (a':=?_) 0 59 (bl_ 14 1) rfl rfl HT_.out HW_.out ?_ hHeld ?_ ?_;rotate_left
          ·rintro w' ⟨s0,s1,s2,s3,s4,s5,s6,s7,s8,s9,s10⟩
           go_simp;with_reducible rfl
          rotate_left
          ·simp only [Act.put,sa_,sb_,sc_,i64_w,i32_w]
           rfl
          refine tk_ (v:=?_) (a':=?_) 2 61 (bl_ 14 5) rfl rfl HT_.out HW_.out ?_ hHeld ?_ ?_;rotate_left
          ·rintro w' ⟨s0,s1,s2,s3,s4,s5,s6,s7,s8,s9,s10⟩
           go_simp;with_reducible rfl
          rotate_left
          ·simp only [Act.put,sa_,sb_,sc_,i64_w,i32_w]
           rfl
          refine one_ (i:=1) (N:=some 60) (bl_ 14 7) rfl rfl (one_of HT_.out (by kernel_rfl)) (by decide) (fun K hK => ?_);refine goes_ Try.func17 (by kernel_rfl) rfl #[.agg #[.int .i64 a2_0,.int .i64 a2_1,.int .i64 a2_2,.string a2_3,.int .i64 a2_4,.int .i64 a2_5,.int .i64 a2_6]] (by rfl) rfl rfl ln_ ?_;with_reducible refine (pushcert_Validate.calls kj24 a2_0 a2_1 a2_2 a2_3 a2_4 a2_5 a2_6 t127 t128 _ A74.out).mono ?_
          rintro e w82 ⟨rfl,hb⟩;refine ⟨_,rfl,?_⟩;replace BK101:=Aside0.mk (blk_below (blk_mv BK101.out) hb);replace BK103:=Aside0.mk (blk_below (blk_mv BK103.out) hb);replace BK113:=Aside0.mk (blk_below (blk_mv BK113.out) hb);replace BK126:=Aside0.mk (blk_below (blk_mv BK126.out) hb);replace HB:=Aside0.mk (below_step bel_ hb);(try clear hb);refine hK.out _ _ ⟨(blk_cell BK101.out 0).trans rfl,(blk_cell BK101.out 1).trans rfl,(blk_cell BK101.out 2).trans rfl,(blk_cell BK101.out 3).trans rfl,(blk_cell BK101.out 4).trans rfl,(blk_cell BK101.out 5).trans rfl,(blk_cell BK101.out 6).trans rfl,(blk_cell BK103.out 0).trans rfl,(blk_cell BK103.out 1).trans rfl,(blk_cell BK113.out 0).trans rfl,(blk_cell BK113.out 1).trans rfl⟩ (fun hHeld => ?_);clear hK K;refine norm_ (a':=?_) ?_ ?_;rotate_left
          ·show Act.put _ (some 60) _ = _
           simp only [Act.put,sa_,sb_,sc_,i64_w,i32_w];rfl
          refine pu_ (v:=?_) (a':=?_) 3 62 (bl_ 14 15) rfl rfl HT_.out ?_ ?_ ?_;rotate_left
          ·intro w'
           go_simp;with_reducible rfl
          rotate_left
          ·simp only [Act.put,sa_,sb_,sc_,i64_w,i32_w]
           rfl
          refine pu_ (v:=?_) (a':=?_) 4 63 (bl_ 14 31) rfl rfl HT_.out ?_ ?_ ?_;rotate_left
          ·intro w'
           go_simp;with_reducible rfl
          rotate_left
          ·simp only [Act.put,sa_,sb_,sc_,i64_w,i32_w]
           rfl
          refine tk_ (v:=?_) (a':=?_) 5 64 (bl_ 14 63) rfl rfl HT_.out HW_.out ?_ hHeld ?_ ?_;rotate_left
          ·rintro w' ⟨s0,s1,s2,s3,s4,s5,s6,s7,s8,s9,s10⟩
           go_simp;with_reducible rfl
          rotate_left
          ·simp only [Act.put,sa_,sb_,sc_,i64_w,i32_w]
           rfl
          refine tk_ (v:=?_) (a':=?_) 6 65 (bl_ 14 127) rfl rfl HT_.out HW_.out ?_ hHeld ?_ ?_;rotate_left
          ·rintro w' ⟨s0,s1,s2,s3,s4,s5,s6,s7,s8,s9,s10⟩
           go_simp;with_reducible rfl
          rotate_left
          ·simp only [Act.put,sa_,sb_,sc_,i64_w,i32_w]
           rfl
          refine pu_ (v:=?_) (a':=?_) 7 66 (bl_ 14 255) rfl rfl HT_.out ?_ ?_ ?_;rotate_left
          ·intro w'
           go_simp;with_reducible rfl
          rotate_left
          ·simp only [Act.put,sa_,sb_,sc_,i64_w,i32_w]
           rfl
          refine pu_ (v:=?_) (a':=?_) 8 67 (bl_ 14 511) rfl rfl HT_.out ?_ ?_ ?_;rotate_left
          ·intro w'
           go_simp;with_reducible rfl
          rotate_left
          ·simp only [Act.put,sa_,sb_,sc_,i64_w,i32_w]
           rfl
          refine pu_ (v:=?_) (a':=?_) 9 68 (bl_ 14 1023) rfl rfl HT_.out ?_ ?_ ?_;rotate_left
          ·intro w'
           go_simp;with_reducible rfl
          rotate_left
          ·simp only [Act.put,sa_,sb_,sc_,i64_w,i32_w]
           rfl
          refine pun_ (a':=?_) 10 69 (bl_ 14 2047) rfl rfl HT_.out ?_ ?_;rotate_left
          ·simp only [Act.put,sa_,sb_,sc_,i64_w,i32_w]
           rfl
          refine pun_ (a':=?_) 11 70 (bl_ 14 4095) rfl rfl HT_.out ?_ ?_;rotate_left
          ·simp only [Act.put,sa_,sb_,sc_,i64_w,i32_w]
           rfl
          refine pun_ (a':=?_) 12 71 (bl_ 14 8191) rfl rfl HT_.out ?_ ?_;rotate_left
          ·simp only [Act.put,sa_,sb_,sc_,i64_w,i32_w]
           rfl
          refine pu_ (v:=?_) (a':=?_) 13 72 (bl_ 14 16383) rfl rfl HT_.out ?_ ?_ ?_;rotate_left
          ·intro w'
           go_simp;with_reducible rfl
          rotate_left
          ·simp only [Act.put,sa_,sb_,sc_,i64_w,i32_w]
           rfl
          refine done_ (done_of HT_.out (by kernel_rfl)) ?_;try go_wp2
          go_meet
          case rel => exact ⟨_,(true),fr_,H',⟨by have:=HJ6.out;have:=HJ24.out;first|omega|exact Nat.le_refl _⟩,⟨blk_mv BK101.out⟩,⟨blk_mv BK103.out⟩,⟨blk_mv BK113.out⟩,⟨blk_mv BK126.out⟩,⟨bel_⟩⟩
         ·rw [if_neg c79] at H
          have c79b0 : (!(t124 == t115) || (!(t125 == t116))) = false:=by simpa using c79
          clear c79;have H':=Aside0.mk H;clear H;try go_wp2
          have n0_ : Aside0 ((((((((((w68.setCell ⟨gb126,0,none⟩ (.int .i64 t117)).setCell ⟨gb126,1,none⟩ (.int .i64 t118)).setCell ⟨gb126,2,none⟩ (.int .i64 t119)).setCell ⟨gb126,3,none⟩ (.string t120)).setCell ⟨gb126,4,none⟩ (.int .i64 t121)).setCell ⟨gb126,5,none⟩ (.int .i64 t122)).setCell ⟨gb126,6,none⟩ (.int .i64 t123)).setCell ⟨gb113,0,none⟩ (.int .i64 t124)).setCell ⟨gb113,1,none⟩ (.int .i64 t125)).heap[gb101]? = some (.cells #[.int .i64 a2_0,.int .i64 a2_1,.int .i64 a2_2,.string a2_3,.int .i64 a2_4,.int .i64 a2_5,.int .i64 a2_6] 23 (0,0))):=⟨by refine blk_mv ?_;refine blk_far ?_ NB101_113.out _;refine blk_mv ?_;refine blk_far ?_ NB101_113.out _;refine blk_mv ?_;refine blk_far ?_ NB101_126.out _;refine blk_mv ?_;refine blk_far ?_ NB101_126.out _;refine blk_mv ?_;refine blk_far ?_ NB101_126.out _;refine blk_mv ?_;refine blk_far ?_ NB101_126.out _;refine blk_mv ?_;refine blk_far ?_ NB101_126.out _;refine blk_mv ?_;refine blk_far ?_ NB101_126.out _;refine blk_mv ?_;refine blk_far ?_ NB101_126.out _;refine blk_mv ?_;exact BK101.out⟩;have n1_ : Aside0 ((((((((((w68.setCell ⟨gb126,0,none⟩ (.int .i64 t117)).setCell ⟨gb126,1,none⟩ (.int .i64 t118)).setCell ⟨gb126,2,none⟩ (.int .i64 t119)).setCell ⟨gb126,3,none⟩ (.string t120)).setCell ⟨gb126,4,none⟩ (.int .i64 t121)).setCell ⟨gb126,5,none⟩ (.int .i64 t122)).setCell ⟨gb126,6,none⟩ (.int .i64 t123)).setCell ⟨gb113,0,none⟩ (.int .i64 t124)).setCell ⟨gb113,1,none⟩ (.int .i64 t125)).heap[gb103]? = some (.cells #[.int .i64 t115,.int .i64 t116] 26 (0,0))):=⟨by refine blk_mv ?_;refine blk_far ?_ NB103_113.out _;refine blk_mv ?_;refine blk_far ?_ NB103_113.out _;refine blk_mv ?_;refine blk_far ?_ NB103_126.out _;refine blk_mv ?_;refine blk_far ?_ NB103_126.out _;refine blk_mv ?_;refine blk_far ?_ NB103_126.out _;refine blk_mv ?_;refine blk_far ?_ NB103_126.out _;refine blk_mv ?_;refine blk_far ?_ NB103_126.out _;refine blk_mv ?_;refine blk_far ?_ NB103_126.out _;refine blk_mv ?_;refine blk_far ?_ NB103_126.out _;refine blk_mv ?_;exact BK103.out⟩;have n2_ : Aside0 ((((((((((w68.setCell ⟨gb126,0,none⟩ (.int .i64 t117)).setCell ⟨gb126,1,none⟩ (.int .i64 t118)).setCell ⟨gb126,2,none⟩ (.int .i64 t119)).setCell ⟨gb126,3,none⟩ (.string t120)).setCell ⟨gb126,4,none⟩ (.int .i64 t121)).setCell ⟨gb126,5,none⟩ (.int .i64 t122)).setCell ⟨gb126,6,none⟩ (.int .i64 t123)).setCell ⟨gb113,0,none⟩ (.int .i64 t124)).setCell ⟨gb113,1,none⟩ (.int .i64 t125)).heap[gb113]? = some (.cells #[.int .i64 t124,.int .i64 t125] 26 (0,0))):=⟨by refine blk_mv ?_;refine blk_put (cs:=#[.int .i64 t124,.int .i64 t112]) ?_ 1 _ rfl;refine blk_mv ?_;refine blk_put (cs:=#[.int .i64 t111,.int .i64 t112]) ?_ 0 _ rfl;refine blk_mv ?_;refine blk_far ?_ NB113_126.out _;refine blk_mv ?_;refine blk_far ?_ NB113_126.out _;refine blk_mv ?_;refine blk_far ?_ NB113_126.out _;refine blk_mv ?_;refine blk_far ?_ NB113_126.out _;refine blk_mv ?_;refine blk_far ?_ NB113_126.out _;refine blk_mv ?_;refine blk_far ?_ NB113_126.out _;refine blk_mv ?_;refine blk_far ?_ NB113_126.out _;refine blk_mv ?_;exact BK113.out⟩;have n3_ : Aside0 ((((((((((w68.setCell ⟨gb126,0,none⟩ (.int .i64 t117)).setCell ⟨gb126,1,none⟩ (.int .i64 t118)).setCell ⟨gb126,2,none⟩ (.int .i64 t119)).setCell ⟨gb126,3,none⟩ (.string t120)).setCell ⟨gb126,4,none⟩ (.int .i64 t121)).setCell ⟨gb126,5,none⟩ (.int .i64 t122)).setCell ⟨gb126,6,none⟩ (.int .i64 t123)).setCell ⟨gb113,0,none⟩ (.int .i64 t124)).setCell ⟨gb113,1,none⟩ (.int .i64 t125)).heap[gb126]? = some (.cells #[.int .i64 t117,.int .i64 t118,.int .i64 t119,.string t120,.int .i64 t121,.int .i64 t122,.int .i64 t123] 23 (0,0))):=⟨by refine blk_mv ?_;refine blk_far ?_ NB126_113.out _;refine blk_mv ?_;refine blk_far ?_ NB126_113.out _;refine blk_mv ?_;refine blk_put (cs:=#[.int .i64 t117,.int .i64 t118,.int .i64 t119,.string t120,.int .i64 t121,.int .i64 t122,.int .i64 0]) ?_ 6 _ rfl;refine blk_mv ?_;refine blk_put (cs:=#[.int .i64 t117,.int .i64 t118,.int .i64 t119,.string t120,.int .i64 t121,.int .i64 0,.int .i64 0]) ?_ 5 _ rfl;refine blk_mv ?_;refine blk_put (cs:=#[.int .i64 t117,.int .i64 t118,.int .i64 t119,.string t120,.int .i64 0,.int .i64 0,.int .i64 0]) ?_ 4 _ rfl;refine blk_mv ?_;refine blk_put (cs:=#[.int .i64 t117,.int .i64 t118,.int .i64 t119,.string (⟨#[]⟩ : ByteArray),.int .i64 0,.int .i64 0,.int .i64 0]) ?_ 3 _ rfl;refine blk_mv ?_;refine blk_put (cs:=#[.int .i64 t117,.int .i64 t118,.int .i64 0,.string (⟨#[]⟩ : ByteArray),.int .i64 0,.int .i64 0,.int .i64 0]) ?_ 2 _ rfl;refine blk_mv ?_;refine blk_put (cs:=#[.int .i64 t117,.int .i64 0,.int .i64 0,.string (⟨#[]⟩ : ByteArray),.int .i64 0,.int .i64 0,.int .i64 0]) ?_ 1 _ rfl;refine blk_mv ?_;refine blk_put (cs:=#[.int .i64 0,.int .i64 0,.int .i64 0,.string (⟨#[]⟩ : ByteArray),.int .i64 0,.int .i64 0,.int .i64 0]) ?_ 0 _ rfl;refine blk_mv ?_;exact BK126.out⟩;have n4_ : Aside0 (Below w.heap.size w (((((((((w68.setCell ⟨gb126,0,none⟩ (.int .i64 t117)).setCell ⟨gb126,1,none⟩ (.int .i64 t118)).setCell ⟨gb126,2,none⟩ (.int .i64 t119)).setCell ⟨gb126,3,none⟩ (.string t120)).setCell ⟨gb126,4,none⟩ (.int .i64 t121)).setCell ⟨gb126,5,none⟩ (.int .i64 t122)).setCell ⟨gb126,6,none⟩ (.int .i64 t123)).setCell ⟨gb113,0,none⟩ (.int .i64 t124)).setCell ⟨gb113,1,none⟩ (.int .i64 t125))):=⟨bel_⟩;(try clear BK101);(try clear BK103);(try clear BK113);(try clear BK126);(try clear HB);generalize (((((((((w68.setCell ⟨gb126,0,none⟩ (.int .i64 t117)).setCell ⟨gb126,1,none⟩ (.int .i64 t118)).setCell ⟨gb126,2,none⟩ (.int .i64 t119)).setCell ⟨gb126,3,none⟩ (.string t120)).setCell ⟨gb126,4,none⟩ (.int .i64 t121)).setCell ⟨gb126,5,none⟩ (.int .i64 t122)).setCell ⟨gb126,6,none⟩ (.int .i64 t123)).setCell ⟨gb113,0,none⟩ (.int .i64 t124)).setCell ⟨gb113,1,none⟩ (.int .i64 t125)) = w83 at n0_ n1_ n2_ n3_ n4_ ⊢;have BK101:=n0_;have BK103:=n1_;have BK113:=n2_;have BK126:=n3_;have HB:=n4_;clear n0_ n1_ n2_ n3_ n4_;replace BK101:=Aside0.mk (blk_drew BK101.out);replace BK103:=Aside0.mk (blk_drew BK103.out);replace BK113:=Aside0.mk (blk_drew BK113.out);replace BK126:=Aside0.mk (blk_drew BK126.out);replace HB:=Aside0.mk (below_drew1 HB.out);refine start_ (n:=14) (S:=fun w' => w'.cell? ⟨gb101,0,none⟩ = some (.int .i64 a2_0) ∧ w'.cell? ⟨gb101,1,none⟩ = some (.int .i64 a2_1) ∧ w'.cell? ⟨gb101,2,none⟩ = some (.int .i64 a2_2) ∧ w'.cell? ⟨gb101,3,none⟩ = some (.string a2_3) ∧ w'.cell? ⟨gb101,4,none⟩ = some (.int .i64 a2_4) ∧ w'.cell? ⟨gb101,5,none⟩ = some (.int .i64 a2_5) ∧ w'.cell? ⟨gb101,6,none⟩ = some (.int .i64 a2_6) ∧ w'.cell? ⟨gb103,0,none⟩ = some (.int .i64 t115) ∧ w'.cell? ⟨gb103,1,none⟩ = some (.int .i64 t116) ∧ w'.cell? ⟨gb113,0,none⟩ = some (.int .i64 t124) ∧ w'.cell? ⟨gb113,1,none⟩ = some (.int .i64 t125)) (ds:=[]) (bl_ 14 0) (by kernel_rfl) rfl rfl ⟨(blk_cell BK101.out 0).trans rfl,(blk_cell BK101.out 1).trans rfl,(blk_cell BK101.out 2).trans rfl,(blk_cell BK101.out 3).trans rfl,(blk_cell BK101.out 4).trans rfl,(blk_cell BK101.out 5).trans rfl,(blk_cell BK101.out 6).trans rfl,(blk_cell BK103.out 0).trans rfl,(blk_cell BK103.out 1).trans rfl,(blk_cell BK113.out 0).trans rfl,(blk_cell BK113.out 1).trans rfl⟩ (fun hHeld => ?_);refine with_tabW changeforgelaw5_PushcertMatchesSpec.tab13 changeforgelaw5_PushcertMatchesSpec.bits13 (fun HT_ HW_ => ?_);generalize w83.drew = w84 at BK101 BK103 BK113 BK126 HB hHeld ⊢;refine tk_ (v:=?_) (a':=?_) 0 59 (bl_ 14 1) rfl rfl HT_.out HW_.out ?_ hHeld ?_ ?_;rotate_left
          ·rintro w' ⟨s0,s1,s2,s3,s4,s5,s6,s7,s8,s9,s10⟩
           go_simp;with_reducible rfl
          rotate_left
          ·simp only [Act.put,sa_,sb_,sc_,i64_w,i32_w]
           rfl
          refine tk_ (v:=?_) (a':=?_) 2 61 (bl_ 14 5) rfl rfl HT_.out HW_.out ?_ hHeld ?_ ?_;rotate_left
          ·rintro w' ⟨s0,s1,s2,s3,s4,s5,s6,s7,s8,s9,s10⟩
           go_simp;with_reducible rfl
          rotate_left
          ·simp only [Act.put,sa_,sb_,sc_,i64_w,i32_w]
           rfl
          refine one_ (i:=1) (N:=some 60) (bl_ 14 7) rfl rfl (one_of HT_.out (by kernel_rfl)) (by decide) (fun K hK => ?_);refine goes_ Try.func17 (by kernel_rfl) rfl #[.agg #[.int .i64 a2_0,.int .i64 a2_1,.int .i64 a2_2,.string a2_3,.int .i64 a2_4,.int .i64 a2_5,.int .i64 a2_6]] (by rfl) rfl rfl ln_ ?_;with_reducible refine (pushcert_Validate.calls kj24 a2_0 a2_1 a2_2 a2_3 a2_4 a2_5 a2_6 t127 t128 _ A74.out).mono ?_
          rintro e w85 ⟨rfl,hb⟩;refine ⟨_,rfl,?_⟩;replace BK101:=Aside0.mk (blk_below (blk_mv BK101.out) hb);replace BK103:=Aside0.mk (blk_below (blk_mv BK103.out) hb);replace BK113:=Aside0.mk (blk_below (blk_mv BK113.out) hb);replace BK126:=Aside0.mk (blk_below (blk_mv BK126.out) hb);replace HB:=Aside0.mk (below_step bel_ hb);(try clear hb);refine hK.out _ _ ⟨(blk_cell BK101.out 0).trans rfl,(blk_cell BK101.out 1).trans rfl,(blk_cell BK101.out 2).trans rfl,(blk_cell BK101.out 3).trans rfl,(blk_cell BK101.out 4).trans rfl,(blk_cell BK101.out 5).trans rfl,(blk_cell BK101.out 6).trans rfl,(blk_cell BK103.out 0).trans rfl,(blk_cell BK103.out 1).trans rfl,(blk_cell BK113.out 0).trans rfl,(blk_cell BK113.out 1).trans rfl⟩ (fun hHeld => ?_);clear hK K;refine norm_ (a':=?_) ?_ ?_;rotate_left
          ·show Act.put _ (some 60) _ = _
           simp only [Act.put,sa_,sb_,sc_,i64_w,i32_w];rfl
          refine pu_ (v:=?_) (a':=?_) 3 62 (bl_ 14 15) rfl rfl HT_.out ?_ ?_ ?_;rotate_left
          ·intro w'
           go_simp;with_reducible rfl
          rotate_left
          ·simp only [Act.put,sa_,sb_,sc_,i64_w,i32_w]
           rfl
          refine pu_ (v:=?_) (a':=?_) 4 63 (bl_ 14 31) rfl rfl HT_.out ?_ ?_ ?_;rotate_left
          ·intro w'
           go_simp;with_reducible rfl
          rotate_left
          ·simp only [Act.put,sa_,sb_,sc_,i64_w,i32_w]
           rfl
          refine tk_ (v:=?_) (a':=?_) 5 64 (bl_ 14 63) rfl rfl HT_.out HW_.out ?_ hHeld ?_ ?_;rotate_left
          ·rintro w' ⟨s0,s1,s2,s3,s4,s5,s6,s7,s8,s9,s10⟩
           go_simp;with_reducible rfl
          rotate_left
          ·simp only [Act.put,sa_,sb_,sc_,i64_w,i32_w]
           rfl
          refine tk_ (v:=?_) (a':=?_) 6 65 (bl_ 14 127) rfl rfl HT_.out HW_.out ?_ hHeld ?_ ?_;rotate_left
          ·rintro w' ⟨s0,s1,s2,s3,s4,s5,s6,s7,s8,s9,s10⟩
           go_simp;with_reducible rfl
          rotate_left
          ·simp only [Act.put,sa_,sb_,sc_,i64_w,i32_w]
           rfl
          refine pu_ (v:=?_) (a':=?_) 7 66 (bl_ 14 255) rfl rfl HT_.out ?_ ?_ ?_;rotate_left
          ·intro w'
           go_simp;with_reducible rfl
          rotate_left
          ·simp only [Act.put,sa_,sb_,sc_,i64_w,i32_w]
           rfl
          refine pu_ (v:=?_) (a':=?_) 8 67 (bl_ 14 511) rfl rfl HT_.out ?_ ?_ ?_;rotate_left
          ·intro w'
           go_simp;with_reducible rfl
          rotate_left
          ·simp only [Act.put,sa_,sb_,sc_,i64_w,i32_w]
           rfl
          refine pu_ (v:=?_) (a':=?_) 9 68 (bl_ 14 1023) rfl rfl HT_.out ?_ ?_ ?_;rotate_left
          ·intro w'
           go_simp;with_reducible rfl
          rotate_left
          ·simp only [Act.put,sa_,sb_,sc_,i64_w,i32_w]
           rfl
          refine pu_ (v:=?_) (a':=?_) 10 69 (bl_ 14 2047) rfl rfl HT_.out ?_ ?_ ?_;rotate_left
          ·intro w'
           go_simp;with_reducible rfl
          rotate_left
          ·simp only [Act.put,sa_,sb_,sc_,i64_w,i32_w]
           rfl
          refine tk_ (v:=?_) (a':=?_) 11 70 (bl_ 14 4095) rfl rfl HT_.out HW_.out ?_ hHeld ?_ ?_;rotate_left
          ·rintro w' ⟨s0,s1,s2,s3,s4,s5,s6,s7,s8,s9,s10⟩
           go_simp;with_reducible rfl
          rotate_left
          ·simp only [Act.put,sa_,sb_,sc_,i64_w,i32_w]
           rfl
          refine pu_ (v:=?_) (a':=?_) 12 71 (bl_ 14 8191) rfl rfl HT_.out ?_ ?_ ?_;rotate_left
          ·intro w'
           go_simp;with_reducible rfl
          rotate_left
          ·simp only [Act.put,sa_,sb_,sc_,i64_w,i32_w]
           rfl
          refine pu_ (v:=?_) (a':=?_) 13 72 (bl_ 14 16383) rfl rfl HT_.out ?_ ?_ ?_;rotate_left
          ·intro w'
           go_simp;with_reducible rfl
          rotate_left
          ·simp only [Act.put,sa_,sb_,sc_,i64_w,i32_w]
           rfl
          refine done_ (done_of HT_.out (by kernel_rfl)) ?_;try go_wp2
          go_meet
          case rel => exact ⟨_,((t115 != 0)),fr_,H',⟨by have:=HJ6.out;have:=HJ24.out;first|omega|exact Nat.le_refl _⟩,⟨blk_mv BK101.out⟩,⟨blk_mv BK103.out⟩,⟨blk_mv BK113.out⟩,⟨blk_mv BK126.out⟩,⟨bel_⟩⟩
       case rest =>
        clear HC59;(try clear c1);(try clear p2);(try clear c5);(try clear c6);(try clear c7);(try clear c15);(try clear c16);(try clear c17);(try clear c56);(try clear c60);(try clear c61);(try clear c64);(try clear c69);(try clear c70);(try clear c71);(try clear c75);(try clear c75b0);(try clear c79);(try clear c79b0);(try clear hcz62_0);(try clear hcz62_1);(try clear hcz62_2);(try clear hcz62_3);(try clear hcz62_4);(try clear hcz62_5);(try clear hcz62_6);(try clear hcz65_0);(try clear hcz65_1);(try clear hcz66_0);(try clear hcz66_1);(try clear hcz66_2);(try clear hcz66_3);(try clear hcz66_4);(try clear hcz66_5);(try clear hcz66_6);(try clear hcz72_0);(try clear hcz72_1);(try clear hcz72_2);(try clear hcz72_3);(try clear hcz72_4);(try clear hcz72_5);(try clear hcz72_6);(try clear hcz73_0);(try clear hcz73_1);(try clear hfz19_0);(try clear hfz19_1);(try clear hfz23_0);(try clear hfz23_1);(try clear hfz30_0);(try clear hfz30_1);(try clear hfz34_0);(try clear hfz34_1);(try clear hfz36_0);(try clear hfz36_1);(try clear hfz41_0);(try clear hfz41_1);(try clear hfz43_0);(try clear hfz43_1);(try clear hfz48_0);(try clear hfz48_1);(try clear hfz50_0);(try clear hfz50_1);(try clear hfz53_0);(try clear hfz53_1);(try clear hfz55_0);(try clear hfz55_1);(try clear hfz62_0);(try clear hfz62_1);(try clear hfz62_2);(try clear hfz62_3);(try clear hfz62_4);(try clear hfz62_5);(try clear hfz62_6);(try clear hfz65_0);(try clear hfz65_1);(try clear hfz66_0);(try clear hfz66_1);(try clear hfz66_2);(try clear hfz66_3);(try clear hfz66_4);(try clear hfz66_5);(try clear hfz66_6);(try clear hfz72_0);(try clear hfz72_1);(try clear hfz72_2);(try clear hfz72_3);(try clear hfz72_4);(try clear hfz72_5);(try clear hfz72_6);(try clear hfz73_0);(try clear hfz73_1);(try clear p2);obtain ⟨kq,x72_58,rfl,HA,HJ58,BK101,BK103,BK113,BK126,HB⟩:=hcut;cases kq with
        | zero => exact absurd HA.out (by simp [changeforgelaw5_PushcertMatchesSpec.j2])
        | succ kj58 =>
         have H:=HA.out;clear HA;simp only [changeforgelaw5_PushcertMatchesSpec.j2] at H;by_cases c86 : x72_58 = true
         ·subst c86
          have H1 : ((pushcert_Validate.f kj58 a2_0 a2_1 a2_2 a2_3 a2_4 a2_5 a2_6).bind fun bt129 => (if (bt129.1 == t115 && (bt129.2 == t116)) = true then (if (t124 == t115 && (t125 == t116)) = true then (some (t117 == 0 && (t118 == 0 && (t119 == 0 && (t120.toList == ([] : List UInt8) && (t121 == 0 && (t122 == 0 && (t123 == 0)))))))) else (none)) else (none))) = some r:=by rw [if_pos rfl] at H;exact H
          clear H;have H:=H1;clear H1;replace H:=Option.bind_eq_some_iff.mp H;obtain ⟨⟨t129,t130⟩,A870,H⟩:=H;replace H : (if (t129 == t115 && (t130 == t116)) = true then (if (t124 == t115 && (t125 == t116)) = true then (some (t117 == 0 && (t118 == 0 && (t119 == 0 && (t120.toList == ([] : List UInt8) && (t121 == 0 && (t122 == 0 && (t123 == 0)))))))) else (none)) else (none)) = some r:=H;have A87:=Aside0.mk A870;clear A870;by_cases c88 : (t129 == t115 && (t130 == t116)) = true
          ·rw [if_pos c88] at H
           have c88b0 : (t129 == t115 && (t130 == t116)) = true:=c88;(try (have c88b1 : decide (t129 = t115 && (t130 == t116)) = true:=by simpa using c88));(try (have c88b2 : (t129 == t115 && (t130 == t116)) = true:=by simpa using c88));clear c88;by_cases c89 : (t124 == t115 && (t125 == t116)) = true
           ·rw [if_pos c89] at H
            have c89b0 : (t124 == t115 && (t125 == t116)) = true:=c89;(try (have c89b1 : decide (t124 = t115 && (t125 == t116)) = true:=by simpa using c89));(try (have c89b2 : (t124 == t115 && (t125 == t116)) = true:=by simpa using c89));clear c89;obtain rfl:=Option.some.inj H;try go_wp2
            replace BK101:=Aside0.mk (blk_drew BK101.out);replace BK103:=Aside0.mk (blk_drew BK103.out);replace BK113:=Aside0.mk (blk_drew BK113.out);replace BK126:=Aside0.mk (blk_drew BK126.out);replace HB:=Aside0.mk (below_drew1 HB.out);refine start_ (n:=15) (S:=fun w' => w'.cell? ⟨gb101,0,none⟩ = some (.int .i64 a2_0) ∧ w'.cell? ⟨gb101,1,none⟩ = some (.int .i64 a2_1) ∧ w'.cell? ⟨gb101,2,none⟩ = some (.int .i64 a2_2) ∧ w'.cell? ⟨gb101,3,none⟩ = some (.string a2_3) ∧ w'.cell? ⟨gb101,4,none⟩ = some (.int .i64 a2_4) ∧ w'.cell? ⟨gb101,5,none⟩ = some (.int .i64 a2_5) ∧ w'.cell? ⟨gb101,6,none⟩ = some (.int .i64 a2_6) ∧ w'.cell? ⟨gb103,0,none⟩ = some (.int .i64 t115) ∧ w'.cell? ⟨gb103,1,none⟩ = some (.int .i64 t116) ∧ w'.cell? ⟨gb113,0,none⟩ = some (.int .i64 t124) ∧ w'.cell? ⟨gb113,1,none⟩ = some (.int .i64 t125) ∧ w'.cell? ⟨gb126,0,none⟩ = some (.int .i64 t117) ∧ w'.cell? ⟨gb126,1,none⟩ = some (.int .i64 t118) ∧ w'.cell? ⟨gb126,2,none⟩ = some (.int .i64 t119) ∧ w'.cell? ⟨gb126,3,none⟩ = some (.string t120) ∧ w'.cell? ⟨gb126,4,none⟩ = some (.int .i64 t121) ∧ w'.cell? ⟨gb126,5,none⟩ = some (.int .i64 t122) ∧ w'.cell? ⟨gb126,6,none⟩ = some (.int .i64 t123)) (ds:=[]) (bl_ 15 0) (by kernel_rfl) rfl rfl ⟨(blk_cell BK101.out 0).trans rfl,(blk_cell BK101.out 1).trans rfl,(blk_cell BK101.out 2).trans rfl,(blk_cell BK101.out 3).trans rfl,(blk_cell BK101.out 4).trans rfl,(blk_cell BK101.out 5).trans rfl,(blk_cell BK101.out 6).trans rfl,(blk_cell BK103.out 0).trans rfl,(blk_cell BK103.out 1).trans rfl,(blk_cell BK113.out 0).trans rfl,(blk_cell BK113.out 1).trans rfl,(blk_cell BK126.out 0).trans rfl,(blk_cell BK126.out 1).trans rfl,(blk_cell BK126.out 2).trans rfl,(blk_cell BK126.out 3).trans rfl,(blk_cell BK126.out 4).trans rfl,(blk_cell BK126.out 5).trans rfl,(blk_cell BK126.out 6).trans rfl⟩ (fun hHeld => ?_);refine with_tabW changeforgelaw5_PushcertMatchesSpec.tab14 changeforgelaw5_PushcertMatchesSpec.bits14 (fun HT_ HW_ => ?_);generalize wc.drew = w90 at BK101 BK103 BK113 BK126 HB hHeld ⊢;refine tk_ (v:=?_) (a':=?_) 0 73 (bl_ 15 1) rfl rfl HT_.out HW_.out ?_ hHeld ?_ ?_;rotate_left
            ·rintro w' ⟨s0,s1,s2,s3,s4,s5,s6,s7,s8,s9,s10,s11,s12,s13,s14,s15,s16,s17⟩
             go_simp;with_reducible rfl
            rotate_left
            ·simp only [Act.put,sa_,sb_,sc_,i64_w,i32_w]
             rfl
            refine tk_ (v:=?_) (a':=?_) 2 75 (bl_ 15 5) rfl rfl HT_.out HW_.out ?_ hHeld ?_ ?_;rotate_left
            ·rintro w' ⟨s0,s1,s2,s3,s4,s5,s6,s7,s8,s9,s10,s11,s12,s13,s14,s15,s16,s17⟩
             go_simp;with_reducible rfl
            rotate_left
            ·simp only [Act.put,sa_,sb_,sc_,i64_w,i32_w]
             rfl
            refine one_ (i:=1) (N:=some 74) (bl_ 15 7) rfl rfl (one_of HT_.out (by kernel_rfl)) (by decide) (fun K hK => ?_);refine goes_ Try.func17 (by kernel_rfl) rfl #[.agg #[.int .i64 a2_0,.int .i64 a2_1,.int .i64 a2_2,.string a2_3,.int .i64 a2_4,.int .i64 a2_5,.int .i64 a2_6]] (by rfl) rfl rfl ln_ ?_;with_reducible refine (pushcert_Validate.calls kj58 a2_0 a2_1 a2_2 a2_3 a2_4 a2_5 a2_6 t129 t130 _ A87.out).mono ?_
            rintro e w91 ⟨rfl,hb⟩;refine ⟨_,rfl,?_⟩;replace BK101:=Aside0.mk (blk_below (blk_mv BK101.out) hb);replace BK103:=Aside0.mk (blk_below (blk_mv BK103.out) hb);replace BK113:=Aside0.mk (blk_below (blk_mv BK113.out) hb);replace BK126:=Aside0.mk (blk_below (blk_mv BK126.out) hb);replace HB:=Aside0.mk (below_step bel_ hb);(try clear hb);refine hK.out _ _ ⟨(blk_cell BK101.out 0).trans rfl,(blk_cell BK101.out 1).trans rfl,(blk_cell BK101.out 2).trans rfl,(blk_cell BK101.out 3).trans rfl,(blk_cell BK101.out 4).trans rfl,(blk_cell BK101.out 5).trans rfl,(blk_cell BK101.out 6).trans rfl,(blk_cell BK103.out 0).trans rfl,(blk_cell BK103.out 1).trans rfl,(blk_cell BK113.out 0).trans rfl,(blk_cell BK113.out 1).trans rfl,(blk_cell BK126.out 0).trans rfl,(blk_cell BK126.out 1).trans rfl,(blk_cell BK126.out 2).trans rfl,(blk_cell BK126.out 3).trans rfl,(blk_cell BK126.out 4).trans rfl,(blk_cell BK126.out 5).trans rfl,(blk_cell BK126.out 6).trans rfl⟩ (fun hHeld => ?_);clear hK K;refine norm_ (a':=?_) ?_ ?_;rotate_left
            ·show Act.put _ (some 74) _ = _
             simp only [Act.put,sa_,sb_,sc_,i64_w,i32_w];rfl
            refine pu_ (v:=?_) (a':=?_) 3 76 (bl_ 15 15) rfl rfl HT_.out ?_ ?_ ?_;rotate_left
            ·intro w'
             go_simp;with_reducible rfl
            rotate_left
            ·simp only [Act.put,sa_,sb_,sc_,i64_w,i32_w]
             rfl
            refine pu_ (v:=?_) (a':=?_) 4 77 (bl_ 15 31) rfl rfl HT_.out ?_ ?_ ?_;rotate_left
            ·intro w'
             go_simp;with_reducible rfl
            rotate_left
            ·simp only [Act.put,sa_,sb_,sc_,i64_w,i32_w]
             rfl
            refine tk_ (v:=?_) (a':=?_) 5 78 (bl_ 15 63) rfl rfl HT_.out HW_.out ?_ hHeld ?_ ?_;rotate_left
            ·rintro w' ⟨s0,s1,s2,s3,s4,s5,s6,s7,s8,s9,s10,s11,s12,s13,s14,s15,s16,s17⟩
             go_simp;with_reducible rfl
            rotate_left
            ·simp only [Act.put,sa_,sb_,sc_,i64_w,i32_w]
             rfl
            refine tk_ (v:=?_) (a':=?_) 6 79 (bl_ 15 127) rfl rfl HT_.out HW_.out ?_ hHeld ?_ ?_;rotate_left
            ·rintro w' ⟨s0,s1,s2,s3,s4,s5,s6,s7,s8,s9,s10,s11,s12,s13,s14,s15,s16,s17⟩
             go_simp;with_reducible rfl
            rotate_left
            ·simp only [Act.put,sa_,sb_,sc_,i64_w,i32_w]
             rfl
            refine pu_ (v:=?_) (a':=?_) 7 80 (bl_ 15 255) rfl rfl HT_.out ?_ ?_ ?_;rotate_left
            ·intro w'
             go_simp;with_reducible rfl
            rotate_left
            ·simp only [Act.put,sa_,sb_,sc_,i64_w,i32_w]
             rfl
            refine pu_ (v:=?_) (a':=?_) 8 81 (bl_ 15 511) rfl rfl HT_.out ?_ ?_ ?_;rotate_left
            ·intro w'
             go_simp;with_reducible rfl
            rotate_left
            ·simp only [Act.put,sa_,sb_,sc_,i64_w,i32_w]
             rfl
            refine pu_ (v:=?_) (a':=?_) 9 82 (bl_ 15 1023) rfl rfl HT_.out ?_ ?_ ?_;rotate_left
            ·intro w'
             go_simp;with_reducible rfl
            rotate_left
            ·simp only [Act.put,sa_,sb_,sc_,i64_w,i32_w]
             rfl
            refine pu_ (v:=?_) (a':=?_) 11 84 (bl_ 15 3071) rfl rfl HT_.out ?_ ?_ ?_;rotate_left
            ·intro w'
             go_simp;with_reducible rfl
            rotate_left
            ·simp only [Act.put,sa_,sb_,sc_,i64_w,i32_w]
             rfl
            refine tk_ (v:=?_) (a':=?_) 10 83 (bl_ 15 4095) rfl rfl HT_.out HW_.out ?_ hHeld ?_ ?_;rotate_left
            ·rintro w' ⟨s0,s1,s2,s3,s4,s5,s6,s7,s8,s9,s10,s11,s12,s13,s14,s15,s16,s17⟩
             go_simp;with_reducible rfl
            rotate_left
            ·simp only [Act.put,sa_,sb_,sc_,i64_w,i32_w]
             rfl
            refine pu_ (v:=?_) (a':=?_) 12 85 (bl_ 15 8191) rfl rfl HT_.out ?_ ?_ ?_;rotate_left
            ·intro w'
             go_simp;with_reducible rfl
            rotate_left
            ·simp only [Act.put,sa_,sb_,sc_,i64_w,i32_w]
             rfl
            refine pu_ (v:=?_) (a':=?_) 13 86 (bl_ 15 16383) rfl rfl HT_.out ?_ ?_ ?_;rotate_left
            ·intro w'
             go_simp;with_reducible rfl
            rotate_left
            ·simp only [Act.put,sa_,sb_,sc_,i64_w,i32_w]
             rfl
            refine pu_ (v:=?_) (a':=?_) 14 6 (bl_ 15 32767) rfl rfl HT_.out ?_ ?_ ?_;rotate_left
            ·intro w'
             go_simp;with_reducible rfl
            rotate_left
            ·simp only [Act.put,sa_,sb_,sc_,i64_w,i32_w]
             rfl
            refine done_ (done_of HT_.out (by kernel_rfl)) ?_;try go_wp2
            go_ret;exact ⟨by first|rfl|(simp [errW_none,errW_some] <;> rfl)|(simp [*,errW_none,errW_some] <;> rfl),bel_⟩
           ·rw [if_neg c89] at H
            exact absurd H (by simp)
          ·rw [if_neg c88] at H
           exact absurd H (by simp)
         ·replace c86:=Bool.eq_false_iff.mpr c86
          subst c86;have H1 : ((changeforgeref5_CertSignature.f kj58 a2_0 a2_1 a2_2 a2_3 a2_4 a2_5 a2_6).bind fun t131 => (some (t117 == a2_0 && (t118 == a2_1 && (t119 == a2_2 && (t120.toList == a2_3.toList && (t121 == a2_4 && (t122 == a2_5 && (t123 == t131))))))))) = some r:=by rw [if_neg (show ¬ (false = true) by decide)] at H;exact H
          clear H;have H:=H1;clear H1;replace H:=Option.bind_eq_some_iff.mp H;obtain ⟨t131,A920,H⟩:=H;replace H : (some (t117 == a2_0 && (t118 == a2_1 && (t119 == a2_2 && (t120.toList == a2_3.toList && (t121 == a2_4 && (t122 == a2_5 && (t123 == t131)))))))) = some r:=H;have A92:=Aside0.mk A920;clear A920;obtain rfl:=Option.some.inj H;have hnb93:=NB101_103.out;have hnc93:=NB103_101.out;have hnb94:=NB101_113.out;have hnc94:=NB113_101.out;have hnb95:=NB101_126.out;have hnc95:=NB126_101.out;have hcz96_0:=blk_c (v:=.int .i64 a2_0) BK101.out 0 rfl;have hcz96_1:=blk_c (v:=.int .i64 a2_1) BK101.out 1 rfl;have hcz96_2:=blk_c (v:=.int .i64 a2_2) BK101.out 2 rfl;have hcz96_3:=blk_c (v:=.string a2_3) BK101.out 3 rfl;have hcz96_4:=blk_c (v:=.int .i64 a2_4) BK101.out 4 rfl;have hcz96_5:=blk_c (v:=.int .i64 a2_5) BK101.out 5 rfl;have hcz96_6:=blk_c (v:=.int .i64 a2_6) BK101.out 6 rfl;have hfz96_0:=blk_frozen BK101.out 0;have hfz96_1:=blk_frozen BK101.out 1;have hfz96_2:=blk_frozen BK101.out 2;have hfz96_3:=blk_frozen BK101.out 3;have hfz96_4:=blk_frozen BK101.out 4;have hfz96_5:=blk_frozen BK101.out 5;have hfz96_6:=blk_frozen BK101.out 6;go_wp2_with (first|((with_reducible refine gate_callee (f:=18) rfl ?_);refine goesL_ (some 88) rfl rfl Try.func18 (by kernel_rfl) rfl #[.agg #[.int .i64 a2_0,.int .i64 a2_1,.int .i64 a2_2,.string a2_3,.int .i64 a2_4,.int .i64 a2_5,.int .i64 a2_6]] rfl ln_ ?_;(with_reducible refine (changeforgeref5_CertSignature.calls kj58 a2_0 a2_1 a2_2 a2_3 a2_4 a2_5 a2_6 t131 _ A92.out).mono ?_);rintro e w97 ⟨rfl,hb⟩;refine ⟨_,rfl,?_⟩;replace BK101:=Aside0.mk (blk_below (blk_mv BK101.out) hb);replace BK103:=Aside0.mk (blk_below (blk_mv BK103.out) hb);replace BK113:=Aside0.mk (blk_below (blk_mv BK113.out) hb);replace BK126:=Aside0.mk (blk_below (blk_mv BK126.out) hb);replace HB:=Aside0.mk (below_step bel_ hb);(try clear hb);(try clear hb2);(try clear hk);(try clear hi);have hcz98_0:=blk_c (v:=.int .i64 a2_0) BK101.out 0 rfl;have hcz98_1:=blk_c (v:=.int .i64 a2_1) BK101.out 1 rfl;have hcz98_2:=blk_c (v:=.int .i64 a2_2) BK101.out 2 rfl;have hcz98_3:=blk_c (v:=.string a2_3) BK101.out 3 rfl;have hcz98_4:=blk_c (v:=.int .i64 a2_4) BK101.out 4 rfl;have hcz98_5:=blk_c (v:=.int .i64 a2_5) BK101.out 5 rfl;have hcz98_6:=blk_c (v:=.int .i64 a2_6) BK101.out 6 rfl;have hfz98_0:=blk_frozen BK101.out 0;have hfz98_1:=blk_frozen BK101.out 1;have hfz98_2:=blk_frozen BK101.out 2;have hfz98_3:=blk_frozen BK101.out 3;have hfz98_4:=blk_frozen BK101.out 4;have hfz98_5:=blk_frozen BK101.out 5;have hfz98_6:=blk_frozen BK101.out 6;have hnb99:=NB126_103.out;have hnc99:=NB103_126.out;have hnb100:=NB126_113.out;have hnc100:=NB113_126.out;have hcz101_0:=blk_c (v:=.int .i64 t117) BK126.out 0 rfl;have hcz101_1:=blk_c (v:=.int .i64 t118) BK126.out 1 rfl;have hcz101_2:=blk_c (v:=.int .i64 t119) BK126.out 2 rfl;have hcz101_3:=blk_c (v:=.string t120) BK126.out 3 rfl;have hcz101_4:=blk_c (v:=.int .i64 t121) BK126.out 4 rfl;have hcz101_5:=blk_c (v:=.int .i64 t122) BK126.out 5 rfl;have hcz101_6:=blk_c (v:=.int .i64 t123) BK126.out 6 rfl;have hfz101_0:=blk_frozen BK126.out 0;have hfz101_1:=blk_frozen BK126.out 1;have hfz101_2:=blk_frozen BK126.out 2;have hfz101_3:=blk_frozen BK126.out 3;have hfz101_4:=blk_frozen BK126.out 4;have hfz101_5:=blk_frozen BK126.out 5;have hfz101_6:=blk_frozen BK126.out 6));go_ret;exact ⟨by first|rfl|(simp [errW_none,errW_some] <;> rfl)|(simp [*,errW_none,errW_some] <;> rfl),bel_⟩
 ·replace c5:=Bool.eq_false_iff.mpr c5
  subst c5;have H1 : (none) = some r:=by rw [if_neg (show ¬ (false = true) by decide)] at H;exact H
  clear H;have H:=H1;clear H1;exact absurd H (by simp)

end Go.Proofs.Ytlbjefoipljkgaa.Fn
