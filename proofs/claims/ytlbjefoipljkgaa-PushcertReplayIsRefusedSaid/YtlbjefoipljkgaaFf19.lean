/- A function of the program as a plain Lean function, and the proof that the call comes to just what it says (written by wip/tools/xprint.py for this claim). Condition: the plain function has an answer. -/
import Derived.Test.YtlbjefoipljkgaaFn0
import Derived.Test.YtlbjefoipljkgaaFf14
import Derived.Test.YtlbjefoipljkgaaFf15
import Derived.Test.YtlbjefoipljkgaaFf18
import Derived.Test.YtlbjefoipljkgaaFs0
import Derived.Test.YtlbjefoipljkgaaWA
import Derived.Test.YtlbjefoipljkgaaTight
namespace Go.Proofs.Ytlbjefoipljkgaa.Fn
open Go.RowKit Go.Proofs.YtlbjefoipljkgaaW.PrintWords Go.Proofs.YtlbjefoipljkgaaW.PrintLast Go.Proofs.YtlbjefoipljkgaaW.PrintMore
attribute [local go_sem] max2_int min2_int max_two min_two max_three min_three max_four min_four   -- for this text's walks alone
set_option linter.unusedVariables false
set_option linter.unusedSimpArgs false

/-! ### changeforgeref5_PushFault: function 19 -/
mutual
def changeforgeref5_PushFault.j0 : Nat → Int → Int → Int → List Int → Bool → Int → Int → Int → ByteArray → Int → Int → Int → Option (Int × Int)
 | 0,_,_,_,_,_,_,_,_,_,_,_,_ => none
 | k + 1,x0,x1,x2,x3,x35,x102000,x102001,x102002,x102003,x102004,x102005,x102006 => if x35 = true then ((changeforgeref5_fault.f 3 (-2)).bind fun bt114 => (some (bt114.1,bt114.2))) else (if (x3.length : Int) > 40 then ((changeforgeref5_fault.f 2 (-3)).bind fun bt116 => (some (bt116.1,bt116.2))) else (changeforgeref5_PushFault.l0 k x0 x1 x2 x3 0 x102000 x102001 x102002 x102003 x102004 x102005 x102006))
def changeforgeref5_PushFault.l0 : Nat → Int → Int → Int → List Int → Int → Int → Int → Int → ByteArray → Int → Int → Int → Option (Int × Int)
 | 0,_,_,_,_,_,_,_,_,_,_,_,_ => none
 | k + 1,x0,x1,x2,x3,x12,x102000,x102001,x102002,x102003,x102004,x102005,x102006 => if x12 < (x3.length : Int) then (if 0 ≤ x12 then ((changeforgeref5_IsDigest.f (rd x3 x12)).bind fun t119 => (if t119 = true then (if x12 > 0 then (if 0 ≤ (wrap64 (x12 - 1)) then (if (wrap64 (x12 - 1)) < (x3.length : Int) then (changeforgeref5_PushFault.j2 k x0 x1 x2 x3 x12 (decide ((rd x3 x12) ≤ (rd x3 (wrap64 (x12 - 1))))) x102000 x102001 x102002 x102003 x102004 x102005 x102006) else (none)) else (none)) else (changeforgeref5_PushFault.j2 k x0 x1 x2 x3 x12 false x102000 x102001 x102002 x102003 x102004 x102005 x102006)) else (changeforgeref5_PushFault.j2 k x0 x1 x2 x3 x12 true x102000 x102001 x102002 x102003 x102004 x102005 x102006))) else (none)) else (if x102001 > x1 then (changeforgeref5_PushFault.j3 k x0 x3 true x102000 x102001 x102002 x102003 x102004 x102005 x102006) else (changeforgeref5_PushFault.j3 k x0 x3 (decide (x102001 < (wrap64 (x1 - x2)))) x102000 x102001 x102002 x102003 x102004 x102005 x102006))
def changeforgeref5_PushFault.j2 : Nat → Int → Int → Int → List Int → Int → Bool → Int → Int → Int → ByteArray → Int → Int → Int → Option (Int × Int)
 | 0,_,_,_,_,_,_,_,_,_,_,_,_,_ => none
 | k + 1,x0,x1,x2,x3,x12,x68,x102000,x102001,x102002,x102003,x102004,x102005,x102006 => if x68 = true then ((changeforgeref5_fault.f 5 (-3)).bind fun bt122 => (some (bt122.1,bt122.2))) else (changeforgeref5_PushFault.l0 k x0 x1 x2 x3 (wrap64 (x12 + 1)) x102000 x102001 x102002 x102003 x102004 x102005 x102006)
def changeforgeref5_PushFault.j3 : Nat → Int → List Int → Bool → Int → Int → Int → ByteArray → Int → Int → Int → Option (Int × Int)
 | 0,_,_,_,_,_,_,_,_,_,_ => none
 | k + 1,x0,x3,x81,x102000,x102001,x102002,x102003,x102004,x102005,x102006 => if x81 = true then ((changeforgeref5_fault.f 16 0).bind fun bt124 => (some (bt124.1,bt124.2))) else ((changeforgeref5_Nonce.f k x0 x102001).bind fun t126 => (if x102000 = t126 then ((changeforgeref5_CertSignature.f k x102000 x102001 x102002 x102003 x102004 x102005 x102006).bind fun t129 => (if x102006 = t129 then ((changeforgeref5_Has.f k x3 x102000).bind fun t132 => (if t132 = true then ((changeforgeref5_fault.f 7 0).bind fun bt133 => (some (bt133.1,bt133.2))) else (if (x3.length : Int) = 40 then ((changeforgeref5_fault.f 14 0).bind fun bt135 => (some (bt135.1,bt135.2))) else (some (0,0))))) else ((changeforgeref5_fault.f 18 2).bind fun bt130 => (some (bt130.1,bt130.2))))) else ((changeforgeref5_fault.f 18 1).bind fun bt127 => (some (bt127.1,bt127.2)))))
end
def changeforgeref5_PushFault.f (k : Nat) (a0 : Int) (a1 : Int) (a2 : Int) (l3 : List Int) (a4_0 : Int) (a4_1 : Int) (a4_2 : Int) (a4_3 : ByteArray) (a4_4 : Int) (a4_5 : Int) (a4_6 : Int) : Option (Int × Int):=(changeforgeref5_CertFault.f k a4_0 a4_1 a4_2 a4_3 a4_4 a4_5 a4_6).bind fun bt103 => (if bt103.1 = 0 then ((changeforgeref5_IsDigest.f a4_6).bind fun t106 => (if t106 = true then ((changeforgeref5_IsKey.f a0).bind fun t109 => (if t109 = true then ((changeforgeref5_in.f a1 0 100000).bind fun t112 => (if t112 = true then ((changeforgeref5_in.f a2 0 100000).bind fun t113 => (changeforgeref5_PushFault.j0 k a0 a1 a2 l3 (!t113) a4_0 a4_1 a4_2 a4_3 a4_4 a4_5 a4_6)) else (changeforgeref5_PushFault.j0 k a0 a1 a2 l3 true a4_0 a4_1 a4_2 a4_3 a4_4 a4_5 a4_6))) else ((changeforgeref5_fault.f 3 (-1)).bind fun bt110 => (some (bt110.1,bt110.2))))) else ((changeforgeref5_fault.f 3 1).bind fun bt107 => (some (bt107.1,bt107.2))))) else (some (bt103.1,bt103.2)))
theorem changeforgeref5_PushFault.mono_l : ∀ k,(∀ y0 y1 y2 y3 y4 y5 y6 y7 y8 y9 y10 y11,LeO (changeforgeref5_PushFault.j0 k y0 y1 y2 y3 y4 y5 y6 y7 y8 y9 y10 y11) (changeforgeref5_PushFault.j0 (k + 1) y0 y1 y2 y3 y4 y5 y6 y7 y8 y9 y10 y11)) ∧ (∀ y0 y1 y2 y3 y4 y5 y6 y7 y8 y9 y10 y11,LeO (changeforgeref5_PushFault.l0 k y0 y1 y2 y3 y4 y5 y6 y7 y8 y9 y10 y11) (changeforgeref5_PushFault.l0 (k + 1) y0 y1 y2 y3 y4 y5 y6 y7 y8 y9 y10 y11)) ∧ (∀ y0 y1 y2 y3 y4 y5 y6 y7 y8 y9 y10 y11 y12,LeO (changeforgeref5_PushFault.j2 k y0 y1 y2 y3 y4 y5 y6 y7 y8 y9 y10 y11 y12) (changeforgeref5_PushFault.j2 (k + 1) y0 y1 y2 y3 y4 y5 y6 y7 y8 y9 y10 y11 y12)) ∧ (∀ y0 y1 y2 y3 y4 y5 y6 y7 y8 y9,LeO (changeforgeref5_PushFault.j3 k y0 y1 y2 y3 y4 y5 y6 y7 y8 y9) (changeforgeref5_PushFault.j3 (k + 1) y0 y1 y2 y3 y4 y5 y6 y7 y8 y9))
 | 0 => ⟨fun _ _ _ _ _ _ _ _ _ _ _ _ r h => by simp [changeforgeref5_PushFault.j0] at h,fun _ _ _ _ _ _ _ _ _ _ _ _ r h => by simp [changeforgeref5_PushFault.l0] at h,fun _ _ _ _ _ _ _ _ _ _ _ _ _ r h => by simp [changeforgeref5_PushFault.j2] at h,fun _ _ _ _ _ _ _ _ _ _ r h => by simp [changeforgeref5_PushFault.j3] at h⟩
 | k + 1 => by
  obtain ⟨ih0,ih1,ih2,ih3⟩:=changeforgeref5_PushFault.mono_l k;refine ⟨?_,?_,?_,?_⟩
  ·intro y0 y1 y2 y3 y4 y5 y6 y7 y8 y9 y10 y11
   unfold changeforgeref5_PushFault.j0;repeat' first
   | (with_reducible exact ih0 _ _ _ _ _ _ _ _ _ _ _ _)
   | (with_reducible exact ih1 _ _ _ _ _ _ _ _ _ _ _ _)
   | (with_reducible exact ih2 _ _ _ _ _ _ _ _ _ _ _ _ _)
   | (with_reducible exact ih3 _ _ _ _ _ _ _ _ _ _)
   | (with_reducible exact changeforgeref5_CertFault.mono _ _ _ _ _ _ _ _)
   | (with_reducible exact changeforgeref5_CertSignature.mono _ _ _ _ _ _ _ _)
   | (with_reducible exact changeforgeref5_Has.mono _ _ _)
   | (with_reducible exact changeforgeref5_Nonce.mono _ _ _)
   | (with_reducible exact LeO.refl _)
   | (with_reducible exact LeO.none _)
   | (with_reducible refine LeO.ite ?_ ?_)
   | (with_reducible refine LeO.bind ?_ (fun _ => ?_))
   | exact ih0 _ _ _ _ _ _ _ _ _ _ _ _
   | exact ih1 _ _ _ _ _ _ _ _ _ _ _ _
   | exact ih2 _ _ _ _ _ _ _ _ _ _ _ _ _
   | exact ih3 _ _ _ _ _ _ _ _ _ _
   | exact changeforgeref5_CertFault.mono _ _ _ _ _ _ _ _
   | exact changeforgeref5_CertSignature.mono _ _ _ _ _ _ _ _
   | exact changeforgeref5_Has.mono _ _ _
   | exact changeforgeref5_Nonce.mono _ _ _
   | exact LeO.none _
   | refine LeO.ite ?_ ?_
   | refine LeO.bind ?_ (fun _ => ?_)
  ·intro y0 y1 y2 y3 y4 y5 y6 y7 y8 y9 y10 y11
   unfold changeforgeref5_PushFault.l0;repeat' first
   | (with_reducible exact ih0 _ _ _ _ _ _ _ _ _ _ _ _)
   | (with_reducible exact ih1 _ _ _ _ _ _ _ _ _ _ _ _)
   | (with_reducible exact ih2 _ _ _ _ _ _ _ _ _ _ _ _ _)
   | (with_reducible exact ih3 _ _ _ _ _ _ _ _ _ _)
   | (with_reducible exact changeforgeref5_CertFault.mono _ _ _ _ _ _ _ _)
   | (with_reducible exact changeforgeref5_CertSignature.mono _ _ _ _ _ _ _ _)
   | (with_reducible exact changeforgeref5_Has.mono _ _ _)
   | (with_reducible exact changeforgeref5_Nonce.mono _ _ _)
   | (with_reducible exact LeO.refl _)
   | (with_reducible exact LeO.none _)
   | (with_reducible refine LeO.ite ?_ ?_)
   | (with_reducible refine LeO.bind ?_ (fun _ => ?_))
   | exact ih0 _ _ _ _ _ _ _ _ _ _ _ _
   | exact ih1 _ _ _ _ _ _ _ _ _ _ _ _
   | exact ih2 _ _ _ _ _ _ _ _ _ _ _ _ _
   | exact ih3 _ _ _ _ _ _ _ _ _ _
   | exact changeforgeref5_CertFault.mono _ _ _ _ _ _ _ _
   | exact changeforgeref5_CertSignature.mono _ _ _ _ _ _ _ _
   | exact changeforgeref5_Has.mono _ _ _
   | exact changeforgeref5_Nonce.mono _ _ _
   | exact LeO.none _
   | refine LeO.ite ?_ ?_
   | refine LeO.bind ?_ (fun _ => ?_)
  ·intro y0 y1 y2 y3 y4 y5 y6 y7 y8 y9 y10 y11 y12
   unfold changeforgeref5_PushFault.j2;repeat' first
   | (with_reducible exact ih0 _ _ _ _ _ _ _ _ _ _ _ _)
   | (with_reducible exact ih1 _ _ _ _ _ _ _ _ _ _ _ _)
   | (with_reducible exact ih2 _ _ _ _ _ _ _ _ _ _ _ _ _)
   | (with_reducible exact ih3 _ _ _ _ _ _ _ _ _ _)
   | (with_reducible exact changeforgeref5_CertFault.mono _ _ _ _ _ _ _ _)
   | (with_reducible exact changeforgeref5_CertSignature.mono _ _ _ _ _ _ _ _)
   | (with_reducible exact changeforgeref5_Has.mono _ _ _)
   | (with_reducible exact changeforgeref5_Nonce.mono _ _ _)
   | (with_reducible exact LeO.refl _)
   | (with_reducible exact LeO.none _)
   | (with_reducible refine LeO.ite ?_ ?_)
   | (with_reducible refine LeO.bind ?_ (fun _ => ?_))
   | exact ih0 _ _ _ _ _ _ _ _ _ _ _ _
   | exact ih1 _ _ _ _ _ _ _ _ _ _ _ _
   | exact ih2 _ _ _ _ _ _ _ _ _ _ _ _ _
   | exact ih3 _ _ _ _ _ _ _ _ _ _
   | exact changeforgeref5_CertFault.mono _ _ _ _ _ _ _ _
   | exact changeforgeref5_CertSignature.mono _ _ _ _ _ _ _ _
   | exact changeforgeref5_Has.mono _ _ _
   | exact changeforgeref5_Nonce.mono _ _ _
   | exact LeO.none _
   | refine LeO.ite ?_ ?_
   | refine LeO.bind ?_ (fun _ => ?_)
  ·intro y0 y1 y2 y3 y4 y5 y6 y7 y8 y9
   unfold changeforgeref5_PushFault.j3;repeat' first
   | (with_reducible exact ih0 _ _ _ _ _ _ _ _ _ _ _ _)
   | (with_reducible exact ih1 _ _ _ _ _ _ _ _ _ _ _ _)
   | (with_reducible exact ih2 _ _ _ _ _ _ _ _ _ _ _ _ _)
   | (with_reducible exact ih3 _ _ _ _ _ _ _ _ _ _)
   | (with_reducible exact changeforgeref5_CertFault.mono _ _ _ _ _ _ _ _)
   | (with_reducible exact changeforgeref5_CertSignature.mono _ _ _ _ _ _ _ _)
   | (with_reducible exact changeforgeref5_Has.mono _ _ _)
   | (with_reducible exact changeforgeref5_Nonce.mono _ _ _)
   | (with_reducible exact LeO.refl _)
   | (with_reducible exact LeO.none _)
   | (with_reducible refine LeO.ite ?_ ?_)
   | (with_reducible refine LeO.bind ?_ (fun _ => ?_))
   | exact ih0 _ _ _ _ _ _ _ _ _ _ _ _
   | exact ih1 _ _ _ _ _ _ _ _ _ _ _ _
   | exact ih2 _ _ _ _ _ _ _ _ _ _ _ _ _
   | exact ih3 _ _ _ _ _ _ _ _ _ _
   | exact changeforgeref5_CertFault.mono _ _ _ _ _ _ _ _
   | exact changeforgeref5_CertSignature.mono _ _ _ _ _ _ _ _
   | exact changeforgeref5_Has.mono _ _ _
   | exact changeforgeref5_Nonce.mono _ _ _
   | exact LeO.none _
   | refine LeO.ite ?_ ?_
   | refine LeO.bind ?_ (fun _ => ?_)
theorem changeforgeref5_PushFault.mono : ∀ a0 a1 a2 a3 a4 a5 a6 a7 a8 a9 a10 k,LeO (changeforgeref5_PushFault.f k a0 a1 a2 a3 a4 a5 a6 a7 a8 a9 a10) (changeforgeref5_PushFault.f (k + 1) a0 a1 a2 a3 a4 a5 a6 a7 a8 a9 a10):=by
 intro a0 a1 a2 a3 a4 a5 a6 a7 a8 a9 a10 k;obtain ⟨ih0,ih1,ih2,ih3⟩:=changeforgeref5_PushFault.mono_l k;unfold changeforgeref5_PushFault.f
 repeat' first
   | (with_reducible exact ih0 _ _ _ _ _ _ _ _ _ _ _ _)
   | (with_reducible exact ih1 _ _ _ _ _ _ _ _ _ _ _ _)
   | (with_reducible exact ih2 _ _ _ _ _ _ _ _ _ _ _ _ _)
   | (with_reducible exact ih3 _ _ _ _ _ _ _ _ _ _)
   | (with_reducible exact changeforgeref5_CertFault.mono _ _ _ _ _ _ _ _)
   | (with_reducible exact changeforgeref5_CertSignature.mono _ _ _ _ _ _ _ _)
   | (with_reducible exact changeforgeref5_Has.mono _ _ _)
   | (with_reducible exact changeforgeref5_Nonce.mono _ _ _)
   | (with_reducible exact LeO.refl _)
   | (with_reducible exact LeO.none _)
   | (with_reducible refine LeO.ite ?_ ?_)
   | (with_reducible refine LeO.bind ?_ (fun _ => ?_))
   | exact ih0 _ _ _ _ _ _ _ _ _ _ _ _
   | exact ih1 _ _ _ _ _ _ _ _ _ _ _ _
   | exact ih2 _ _ _ _ _ _ _ _ _ _ _ _ _
   | exact ih3 _ _ _ _ _ _ _ _ _ _
   | exact changeforgeref5_CertFault.mono _ _ _ _ _ _ _ _
   | exact changeforgeref5_CertSignature.mono _ _ _ _ _ _ _ _
   | exact changeforgeref5_Has.mono _ _ _
   | exact changeforgeref5_Nonce.mono _ _ _
   | exact LeO.none _
   | refine LeO.ite ?_ ?_
   | refine LeO.bind ?_ (fun _ => ?_)
def changeforgeref5_PushFault.T15 : Bool × List (List Nat × List Nat):=(true,[([],[]),([],[]),([0,1],[0,1]),([2],[2]),([3],[3]),([4],[4]),([5,4],[5]),([6],[6]),([7,6],[6,7]),([8,6,6],[6,8]),([9],[9]),([9],[9]),([10,11,9],[9,10,11]),([12,9],[9,12]),([9],[9]),([9],[9]),([15,9],[9,15]),([14,16,9],[9,14,16]),([17,9],[9,17]),([13,18,9],[9,13,18]),([9,19,6],[6,9,19]),([6,20],[6,20])])
def changeforgeref5_PushFault.B15 : List Nat:=[0,0,3,7,15,31,63,127,255,511,1023,1023,4095,8191,1023,1023,33791,115711,246783,524287,1048575,2097151]
theorem changeforgeref5_PushFault.tab15 : rtab .any (opsOf Try.f19 15) = changeforgeref5_PushFault.T15:=by kernel_rfl
theorem changeforgeref5_PushFault.bits15 : waitsOk changeforgeref5_PushFault.T15.2 changeforgeref5_PushFault.B15 = true:=by kernel_rfl
set_option maxHeartbeats 8000000 in
set_option maxRecDepth 100000 in
theorem changeforgeref5_PushFault.calls (k : Nat) (a0 : Int) (a1 : Int) (a2 : Int) (A3 : Option Addr) (c3 : Nat) (l3 : List Int) (a4_0 : Int) (a4_1 : Int) (a4_2 : Int) (a4_3 : ByteArray) (a4_4 : Int) (a4_5 : Int) (a4_6 : Int) (r1 : Int) (r2 : Int) (w : World) (hr3 : Kd.C (Kd.int .i64) w A3 l3.length l3) (hc3 : l3.length ≤ c3) (h : changeforgeref5_PushFault.f k a0 a1 a2 l3 a4_0 a4_1 a4_2 a4_3 a4_4 a4_5 a4_6 = some (r1,r2)) :
  Calls Try.prog 19 #[.int .i64 a0,.int .i64 a1,.int .i64 a2,.slice A3 l3.length c3,.agg #[.int .i64 a4_0,.int .i64 a4_1,.int .i64 a4_2,.string a4_3,.int .i64 a4_4,.int .i64 a4_5,.int .i64 a4_6]] w fun e w' => e = .returned (.agg #[.int .i64 r1,.int .i64 r2]) ∧ Below w.heap.size w w':=by
 have hu23:=Try.underlying23;have hu26:=Try.underlying26;have HR3:=Aside0.mk hr3;have HC3:=Aside0.mk hc3;clear hr3 hc3;have HB:=Aside0.mk (Below.refl w.heap.size w);have H : ((changeforgeref5_CertFault.f k a4_0 a4_1 a4_2 a4_3 a4_4 a4_5 a4_6).bind fun bt103 => (if bt103.1 = 0 then ((changeforgeref5_IsDigest.f a4_6).bind fun t106 => (if t106 = true then ((changeforgeref5_IsKey.f a0).bind fun t109 => (if t109 = true then ((changeforgeref5_in.f a1 0 100000).bind fun t112 => (if t112 = true then ((changeforgeref5_in.f a2 0 100000).bind fun t113 => (changeforgeref5_PushFault.j0 k a0 a1 a2 l3 (!t113) a4_0 a4_1 a4_2 a4_3 a4_4 a4_5 a4_6)) else (changeforgeref5_PushFault.j0 k a0 a1 a2 l3 true a4_0 a4_1 a4_2 a4_3 a4_4 a4_5 a4_6))) else ((changeforgeref5_fault.f 3 (-1)).bind fun bt110 => (some (bt110.1,bt110.2))))) else ((changeforgeref5_fault.f 3 1).bind fun bt107 => (some (bt107.1,bt107.2))))) else (some (bt103.1,bt103.2)))) = some (r1,r2):=h;clear h;replace H:=Option.bind_eq_some_iff.mp H;obtain ⟨⟨t103,t104⟩,A60,H⟩:=H;replace H : (if t103 = 0 then ((changeforgeref5_IsDigest.f a4_6).bind fun t106 => (if t106 = true then ((changeforgeref5_IsKey.f a0).bind fun t109 => (if t109 = true then ((changeforgeref5_in.f a1 0 100000).bind fun t112 => (if t112 = true then ((changeforgeref5_in.f a2 0 100000).bind fun t113 => (changeforgeref5_PushFault.j0 k a0 a1 a2 l3 (!t113) a4_0 a4_1 a4_2 a4_3 a4_4 a4_5 a4_6)) else (changeforgeref5_PushFault.j0 k a0 a1 a2 l3 true a4_0 a4_1 a4_2 a4_3 a4_4 a4_5 a4_6))) else ((changeforgeref5_fault.f 3 (-1)).bind fun bt110 => (some (bt110.1,bt110.2))))) else ((changeforgeref5_fault.f 3 1).bind fun bt107 => (some (bt107.1,bt107.2))))) else (some (t103,t104))) = some (r1,r2):=H;have A6:=Aside0.mk A60;clear A60;by_cases c7 : t103 = 0
 ·rw [if_pos c7] at H
  have c7b0 : (t103 == 0) = true:=beq_iff_eq.mpr c7;have c7b1 : (t103 != 0) = false:=bne_eq_false_iff_eq.mpr c7;clear c7;replace H:=Option.bind_eq_some_iff.mp H;obtain ⟨t106,A80,H⟩:=H;replace H : (if t106 = true then ((changeforgeref5_IsKey.f a0).bind fun t109 => (if t109 = true then ((changeforgeref5_in.f a1 0 100000).bind fun t112 => (if t112 = true then ((changeforgeref5_in.f a2 0 100000).bind fun t113 => (changeforgeref5_PushFault.j0 k a0 a1 a2 l3 (!t113) a4_0 a4_1 a4_2 a4_3 a4_4 a4_5 a4_6)) else (changeforgeref5_PushFault.j0 k a0 a1 a2 l3 true a4_0 a4_1 a4_2 a4_3 a4_4 a4_5 a4_6))) else ((changeforgeref5_fault.f 3 (-1)).bind fun bt110 => (some (bt110.1,bt110.2))))) else ((changeforgeref5_fault.f 3 1).bind fun bt107 => (some (bt107.1,bt107.2)))) = some (r1,r2):=H;have A8:=Aside0.mk A80;clear A80;by_cases c9 : t106 = true
  ·subst c9
   have H1 : ((changeforgeref5_IsKey.f a0).bind fun t109 => (if t109 = true then ((changeforgeref5_in.f a1 0 100000).bind fun t112 => (if t112 = true then ((changeforgeref5_in.f a2 0 100000).bind fun t113 => (changeforgeref5_PushFault.j0 k a0 a1 a2 l3 (!t113) a4_0 a4_1 a4_2 a4_3 a4_4 a4_5 a4_6)) else (changeforgeref5_PushFault.j0 k a0 a1 a2 l3 true a4_0 a4_1 a4_2 a4_3 a4_4 a4_5 a4_6))) else ((changeforgeref5_fault.f 3 (-1)).bind fun bt110 => (some (bt110.1,bt110.2))))) = some (r1,r2):=by rw [if_pos rfl] at H;exact H
   clear H;have H:=H1;clear H1;replace H:=Option.bind_eq_some_iff.mp H;obtain ⟨t109,A100,H⟩:=H;replace H : (if t109 = true then ((changeforgeref5_in.f a1 0 100000).bind fun t112 => (if t112 = true then ((changeforgeref5_in.f a2 0 100000).bind fun t113 => (changeforgeref5_PushFault.j0 k a0 a1 a2 l3 (!t113) a4_0 a4_1 a4_2 a4_3 a4_4 a4_5 a4_6)) else (changeforgeref5_PushFault.j0 k a0 a1 a2 l3 true a4_0 a4_1 a4_2 a4_3 a4_4 a4_5 a4_6))) else ((changeforgeref5_fault.f 3 (-1)).bind fun bt110 => (some (bt110.1,bt110.2)))) = some (r1,r2):=H;have A10:=Aside0.mk A100;clear A100;by_cases c11 : t109 = true
   ·subst c11
    have H1 : ((changeforgeref5_in.f a1 0 100000).bind fun t112 => (if t112 = true then ((changeforgeref5_in.f a2 0 100000).bind fun t113 => (changeforgeref5_PushFault.j0 k a0 a1 a2 l3 (!t113) a4_0 a4_1 a4_2 a4_3 a4_4 a4_5 a4_6)) else (changeforgeref5_PushFault.j0 k a0 a1 a2 l3 true a4_0 a4_1 a4_2 a4_3 a4_4 a4_5 a4_6))) = some (r1,r2):=by rw [if_pos rfl] at H;exact H
    clear H;have H:=H1;clear H1;have HC12:=Aside0.mk H;clear H;go_enter Try.func19,Try.ntmps19;go_upto_region 8 with (first|((with_reducible refine gate_dst (N:=9) rfl ?_);refine box_event ?hg (N:=9) ?hd (cs:=#[.int .i64 a4_0,.int .i64 a4_1,.int .i64 a4_2,.string a4_3,.int .i64 a4_4,.int .i64 a4_5,.int .i64 a4_6]) (t:=23) ?hr ?_;(case hd => rfl);(case hg => rfl);(case hr => first|(go_simp;done)|(go_simp;rfl));intro gb101 hg w13 hbox hb;have BK101:=Aside0.mk (hbox);have GW101:=Aside0.mk ((bs_ : w.heap.size ≤ gb101));have GE101:=Aside0.mk ((bs_ : w.heap.size ≤ gb101));replace HB:=Aside0.mk (below_step bel_ hb);clear hb hbox hg)|((with_reducible refine gate_dst (N:=10) rfl ?_);refine box_event ?hg (N:=10) ?hd (cs:=#[.int .i64 0,.int .i64 0]) (t:=26) ?hr ?_;(case hd => rfl);(case hg => rfl);(case hr => first|(go_simp;done)|(go_simp;rfl));intro gb102 hg w14 hbox hb;have BK102:=Aside0.mk (hbox);have GW102:=Aside0.mk ((bs_ : w.heap.size ≤ gb102));have GE102:=Aside0.mk ((bs_ : w.heap.size ≤ gb102));replace HB:=Aside0.mk (below_step bel_ hb);have NB101_102:=Aside0.mk ((by rw [hg];exact Nat.ne_of_lt (blk_lt (g:=gb101) (o:=.cells #[.int .i64 a4_0,.int .i64 a4_1,.int .i64 a4_2,.string a4_3,.int .i64 a4_4,.int .i64 a4_5,.int .i64 a4_6] 23 (0,0)) (blk_mv BK101.out)) : gb101 ≠ gb102));have NB102_101:=Aside0.mk ((by rw [hg];exact Nat.ne_of_gt (blk_lt (g:=gb101) (o:=.cells #[.int .i64 a4_0,.int .i64 a4_1,.int .i64 a4_2,.string a4_3,.int .i64 a4_4,.int .i64 a4_5,.int .i64 a4_6] 23 (0,0)) (blk_mv BK101.out)) : gb102 ≠ gb101));replace BK101:=Aside0.mk (blk_below (blk_mv BK101.out) hb);clear hb hbox hg;have hnb15:=NB101_102.out;have hnc15:=NB102_101.out;have hcz16_0:=blk_c (v:=.int .i64 a4_0) BK101.out 0 rfl;have hcz16_1:=blk_c (v:=.int .i64 a4_1) BK101.out 1 rfl;have hcz16_2:=blk_c (v:=.int .i64 a4_2) BK101.out 2 rfl;have hcz16_3:=blk_c (v:=.string a4_3) BK101.out 3 rfl;have hcz16_4:=blk_c (v:=.int .i64 a4_4) BK101.out 4 rfl;have hcz16_5:=blk_c (v:=.int .i64 a4_5) BK101.out 5 rfl;have hcz16_6:=blk_c (v:=.int .i64 a4_6) BK101.out 6 rfl;have hfz16_0:=blk_frozen BK101.out 0;have hfz16_1:=blk_frozen BK101.out 1;have hfz16_2:=blk_frozen BK101.out 2;have hfz16_3:=blk_frozen BK101.out 3;have hfz16_4:=blk_frozen BK101.out 4;have hfz16_5:=blk_frozen BK101.out 5;have hfz16_6:=blk_frozen BK101.out 6)|((with_reducible refine gate_callee (f:=15) rfl ?_);refine goesL_ (some 14) rfl rfl Try.func15 (by kernel_rfl) rfl #[.agg #[.int .i64 a4_0,.int .i64 a4_1,.int .i64 a4_2,.string a4_3,.int .i64 a4_4,.int .i64 a4_5,.int .i64 a4_6]] rfl ln_ ?_;(with_reducible refine (changeforgeref5_CertFault.calls k a4_0 a4_1 a4_2 a4_3 a4_4 a4_5 a4_6 t103 t104 _ A6.out).mono ?_);rintro e w17 ⟨rfl,hb⟩;refine ⟨_,rfl,?_⟩;replace BK101:=Aside0.mk (blk_below (blk_mv BK101.out) hb);replace BK102:=Aside0.mk (blk_below (blk_mv BK102.out) hb);replace HB:=Aside0.mk (below_step bel_ hb);(try clear hb);(try clear hb2);(try clear hk);(try clear hi))|((with_reducible refine gate_dst (N:=11) rfl ?_);refine box_event ?hg (N:=11) ?hd (cs:=#[.int .i64 0,.int .i64 0]) (t:=26) ?hr ?_;(case hd => rfl);(case hg => rfl);(case hr => first|(go_simp;done)|(go_simp;rfl));intro gb105 hg w18 hbox hb;have BK105:=Aside0.mk (hbox);have GW105:=Aside0.mk ((bs_ : w.heap.size ≤ gb105));have GE105:=Aside0.mk ((bs_ : w.heap.size ≤ gb105));replace HB:=Aside0.mk (below_step bel_ hb);have NB101_105:=Aside0.mk ((by rw [hg];exact Nat.ne_of_lt (blk_lt (g:=gb101) (o:=.cells #[.int .i64 a4_0,.int .i64 a4_1,.int .i64 a4_2,.string a4_3,.int .i64 a4_4,.int .i64 a4_5,.int .i64 a4_6] 23 (0,0)) (blk_mv BK101.out)) : gb101 ≠ gb105));have NB105_101:=Aside0.mk ((by rw [hg];exact Nat.ne_of_gt (blk_lt (g:=gb101) (o:=.cells #[.int .i64 a4_0,.int .i64 a4_1,.int .i64 a4_2,.string a4_3,.int .i64 a4_4,.int .i64 a4_5,.int .i64 a4_6] 23 (0,0)) (blk_mv BK101.out)) : gb105 ≠ gb101));replace BK101:=Aside0.mk (blk_below (blk_mv BK101.out) hb);have NB102_105:=Aside0.mk ((by rw [hg];exact Nat.ne_of_lt (blk_lt (g:=gb102) (o:=.cells #[.int .i64 0,.int .i64 0] 26 (0,0)) (blk_mv BK102.out)) : gb102 ≠ gb105));have NB105_102:=Aside0.mk ((by rw [hg];exact Nat.ne_of_gt (blk_lt (g:=gb102) (o:=.cells #[.int .i64 0,.int .i64 0] 26 (0,0)) (blk_mv BK102.out)) : gb105 ≠ gb102));replace BK102:=Aside0.mk (blk_below (blk_mv BK102.out) hb);clear hb hbox hg;have hnb19:=NB105_101.out;have hnc19:=NB101_105.out;have hnb20:=NB105_102.out;have hnc20:=NB102_105.out;have hcz21_0:=blk_c (v:=.int .i64 0) BK105.out 0 rfl;have hcz21_1:=blk_c (v:=.int .i64 0) BK105.out 1 rfl;have hfz21_0:=blk_frozen BK105.out 0;have hfz21_1:=blk_frozen BK105.out 1;have hcz22_0:=blk_c (v:=.int .i64 a4_0) BK101.out 0 rfl;have hcz22_1:=blk_c (v:=.int .i64 a4_1) BK101.out 1 rfl;have hcz22_2:=blk_c (v:=.int .i64 a4_2) BK101.out 2 rfl;have hcz22_3:=blk_c (v:=.string a4_3) BK101.out 3 rfl;have hcz22_4:=blk_c (v:=.int .i64 a4_4) BK101.out 4 rfl;have hcz22_5:=blk_c (v:=.int .i64 a4_5) BK101.out 5 rfl;have hcz22_6:=blk_c (v:=.int .i64 a4_6) BK101.out 6 rfl;have hfz22_0:=blk_frozen BK101.out 0;have hfz22_1:=blk_frozen BK101.out 1;have hfz22_2:=blk_frozen BK101.out 2;have hfz22_3:=blk_frozen BK101.out 3;have hfz22_4:=blk_frozen BK101.out 4;have hfz22_5:=blk_frozen BK101.out 5;have hfz22_6:=blk_frozen BK101.out 6)|((with_reducible refine gate_callee (f:=23) rfl ?_);refine goesL_ (some 21) rfl rfl Try.func23 (by kernel_rfl) rfl #[.int .i64 a4_6] rfl ln_ ?_;(with_reducible refine (changeforgeref5_IsDigest.calls a4_6 true _ A8.out).mono ?_);rintro e w' ⟨rfl,⟨nd,rfl⟩⟩;refine ⟨_,rfl,?_⟩)|((with_reducible refine gate_callee (f:=10) rfl ?_);refine goesL_ (some 25) rfl rfl Try.func10 (by kernel_rfl) rfl #[.int .i64 a0] rfl ln_ ?_;(with_reducible refine (changeforgeref5_IsKey.calls a0 true _ A10.out).mono ?_);rintro e w' ⟨rfl,⟨nd,rfl⟩⟩;refine ⟨_,rfl,?_⟩));(try simp only [Act.put,sa_,sb_,sc_]);go_cut [35] (fun v35 wc => ∃ (kq : Nat) (x35_11 : Bool),v35 = .bool x35_11 ∧ Aside0 (changeforgeref5_PushFault.j0 kq a0 a1 a2 l3 x35_11 a4_0 a4_1 a4_2 a4_3 a4_4 a4_5 a4_6 = some (r1,r2)) ∧ Aside0 (kq ≤ k) ∧ Aside0 (wc.heap[gb101]? = some (.cells #[.int .i64 a4_0,.int .i64 a4_1,.int .i64 a4_2,.string a4_3,.int .i64 a4_4,.int .i64 a4_5,.int .i64 a4_6] 23 (0,0))) ∧ Aside0 (wc.heap[gb102]? = some (.cells #[.int .i64 0,.int .i64 0] 26 (0,0))) ∧ Aside0 (wc.heap[gb105]? = some (.cells #[.int .i64 t103,.int .i64 t104] 26 (0,0))) ∧ Aside0 (Below w.heap.size w wc))
    case first =>
     have H:=HC12.out;clear HC12;replace H:=Option.bind_eq_some_iff.mp H;obtain ⟨t112,A230,H⟩:=H;replace H : (if t112 = true then ((changeforgeref5_in.f a2 0 100000).bind fun t113 => (changeforgeref5_PushFault.j0 k a0 a1 a2 l3 (!t113) a4_0 a4_1 a4_2 a4_3 a4_4 a4_5 a4_6)) else (changeforgeref5_PushFault.j0 k a0 a1 a2 l3 true a4_0 a4_1 a4_2 a4_3 a4_4 a4_5 a4_6)) = some (r1,r2):=H;have A23:=Aside0.mk A230;clear A230;by_cases c24 : t112 = true
     ·subst c24
      have H1 : ((changeforgeref5_in.f a2 0 100000).bind fun t113 => (changeforgeref5_PushFault.j0 k a0 a1 a2 l3 (!t113) a4_0 a4_1 a4_2 a4_3 a4_4 a4_5 a4_6)) = some (r1,r2):=by rw [if_pos rfl] at H;exact H
      clear H;have H:=H1;clear H1;replace H:=Option.bind_eq_some_iff.mp H;obtain ⟨t113,A250,H⟩:=H;replace H : (changeforgeref5_PushFault.j0 k a0 a1 a2 l3 (!t113) a4_0 a4_1 a4_2 a4_3 a4_4 a4_5 a4_6) = some (r1,r2):=H;have A25:=Aside0.mk A250;clear A250;have H':=Aside0.mk H;clear H;go_wp2_with (first|((with_reducible refine gate_callee (f:=28) rfl ?_);refine goesL_ (some 29) rfl rfl Try.func28 (by kernel_rfl) rfl #[.int .i64 a1,.int .i64 0,.int .i64 100000] rfl ln_ ?_;(with_reducible refine (changeforgeref5_in.calls a1 0 100000 true _ A23.out).mono ?_);rintro e w' ⟨rfl,⟨nd,rfl⟩⟩;refine ⟨_,rfl,?_⟩)|(go_at_call 28;(with_reducible refine (changeforgeref5_in.calls a2 0 100000 t113 _ A25.out).mono ?_);rintro e w' ⟨rfl,⟨nd,rfl⟩⟩));go_meet
      case rel => exact ⟨_,(!t113),fr_,H',⟨om_⟩,⟨by refine blk_mv ?_;refine blk_far ?_ NB101_105.out _;refine blk_mv ?_;refine blk_far ?_ NB101_105.out _;refine blk_mv ?_;exact BK101.out⟩,⟨by refine blk_mv ?_;refine blk_far ?_ NB102_105.out _;refine blk_mv ?_;refine blk_far ?_ NB102_105.out _;refine blk_mv ?_;exact BK102.out⟩,⟨by refine blk_mv ?_;refine blk_put (cs:=#[.int .i64 t103,.int .i64 0]) ?_ 1 _ rfl;refine blk_mv ?_;refine blk_put (cs:=#[.int .i64 0,.int .i64 0]) ?_ 0 _ rfl;refine blk_mv ?_;exact BK105.out⟩,⟨bel_⟩⟩
     ·replace c24:=Bool.eq_false_iff.mpr c24
      subst c24;have H1 : (changeforgeref5_PushFault.j0 k a0 a1 a2 l3 true a4_0 a4_1 a4_2 a4_3 a4_4 a4_5 a4_6) = some (r1,r2):=by rw [if_neg (show ¬ (false = true) by decide)] at H;exact H
      clear H;have H:=H1;clear H1;have H':=Aside0.mk H;clear H;go_wp2_with (first|((with_reducible refine gate_callee (f:=28) rfl ?_);refine goesL_ (some 29) rfl rfl Try.func28 (by kernel_rfl) rfl #[.int .i64 a1,.int .i64 0,.int .i64 100000] rfl ln_ ?_;(with_reducible refine (changeforgeref5_in.calls a1 0 100000 false _ A23.out).mono ?_);rintro e w' ⟨rfl,⟨nd,rfl⟩⟩;refine ⟨_,rfl,?_⟩));go_meet
      case rel => exact ⟨_,(true),fr_,H',⟨om_⟩,⟨by refine blk_mv ?_;refine blk_far ?_ NB101_105.out _;refine blk_mv ?_;refine blk_far ?_ NB101_105.out _;refine blk_mv ?_;exact BK101.out⟩,⟨by refine blk_mv ?_;refine blk_far ?_ NB102_105.out _;refine blk_mv ?_;refine blk_far ?_ NB102_105.out _;refine blk_mv ?_;exact BK102.out⟩,⟨by refine blk_mv ?_;refine blk_put (cs:=#[.int .i64 t103,.int .i64 0]) ?_ 1 _ rfl;refine blk_mv ?_;refine blk_put (cs:=#[.int .i64 0,.int .i64 0]) ?_ 0 _ rfl;refine blk_mv ?_;exact BK105.out⟩,⟨bel_⟩⟩
    case rest =>
     clear HC12;(try clear c1);(try clear c2);(try clear p2);(try clear c3);(try clear c7);(try clear c7b0);(try clear c7b1);(try clear c9);(try clear c10);(try clear c11);(try clear c15);(try clear c19);(try clear c20);(try clear c23);(try clear c24);(try clear hcz16_0);(try clear hcz16_1);(try clear hcz16_2);(try clear hcz16_3);(try clear hcz16_4);(try clear hcz16_5);(try clear hcz16_6);(try clear hcz21_0);(try clear hcz21_1);(try clear hcz22_0);(try clear hcz22_1);(try clear hcz22_2);(try clear hcz22_3);(try clear hcz22_4);(try clear hcz22_5);(try clear hcz22_6);(try clear hfz16_0);(try clear hfz16_1);(try clear hfz16_2);(try clear hfz16_3);(try clear hfz16_4);(try clear hfz16_5);(try clear hfz16_6);(try clear hfz21_0);(try clear hfz21_1);(try clear hfz22_0);(try clear hfz22_1);(try clear hfz22_2);(try clear hfz22_3);(try clear hfz22_4);(try clear hfz22_5);(try clear hfz22_6);obtain ⟨kq,x35_11,rfl,HA,HJ11,BK101,BK102,BK105,HB⟩:=hcut;cases kq with
     | zero => exact absurd HA.out (by simp [changeforgeref5_PushFault.j0])
     | succ kj11 =>
      have H:=HA.out;clear HA;simp only [changeforgeref5_PushFault.j0] at H;by_cases c26 : x35_11 = true
      ·subst c26
       have H1 : ((changeforgeref5_fault.f 3 (-2)).bind fun bt114 => (some (bt114.1,bt114.2))) = some (r1,r2):=by rw [if_pos rfl] at H;exact H
       clear H;have H:=H1;clear H1;replace H:=Option.bind_eq_some_iff.mp H;obtain ⟨⟨t114,t115⟩,A270,H⟩:=H;replace H : (some (t114,t115)) = some (r1,r2):=H;have A27:=Aside0.mk A270;clear A270;simp only [Option.some.injEq,Prod.mk.injEq] at H;obtain ⟨rfl,rfl⟩:=H;go_wp2_with (first|((with_reducible refine gate_callee (f:=35) rfl ?_);refine goesL_ (some 36) rfl rfl Try.func35 (by kernel_rfl) rfl #[.int .i64 3,.int .i64 (-2)] rfl ln_ ?_;(with_reducible refine (changeforgeref5_fault.calls 3 (-2) t114 t115 _ A27.out).mono ?_);rintro e w28 ⟨rfl,hb⟩;refine ⟨_,rfl,?_⟩;replace BK101:=Aside0.mk (blk_below (blk_mv BK101.out) hb);replace BK102:=Aside0.mk (blk_below (blk_mv BK102.out) hb);replace BK105:=Aside0.mk (blk_below (blk_mv BK105.out) hb);replace HB:=Aside0.mk (below_step bel_ hb);(try clear hb);(try clear hb2);(try clear hk);(try clear hi);have hnb29:=NB102_101.out;have hnc29:=NB101_102.out;have hnb30:=NB102_105.out;have hnc30:=NB105_102.out;have hcz31_0:=blk_c (v:=.int .i64 0) BK102.out 0 rfl;have hcz31_1:=blk_c (v:=.int .i64 0) BK102.out 1 rfl;have hfz31_0:=blk_frozen BK102.out 0;have hfz31_1:=blk_frozen BK102.out 1));refine bodyPost_ret (results_cell_row rfl _ _ gb102 26 #[.int .i64 t114,.int .i64 t115] (0,0) _ rfl (by refine blk_mv ?_;refine blk_put (cs:=#[.int .i64 t114,.int .i64 0]) ?_ 1 _ rfl;refine blk_mv ?_;refine blk_put (cs:=#[.int .i64 0,.int .i64 0]) ?_ 0 _ rfl;refine blk_mv ?_;exact BK102.out) Try.underlying26 rfl (by kernel_rfl)) rfl ?_;exact ⟨by first|rfl|(simp [errW_none,errW_some] <;> rfl)|(simp [*,errW_none,errW_some] <;> rfl),bel_⟩
      ·replace c26:=Bool.eq_false_iff.mpr c26
       subst c26;have H1 : (if (l3.length : Int) > 40 then ((changeforgeref5_fault.f 2 (-3)).bind fun bt116 => (some (bt116.1,bt116.2))) else (changeforgeref5_PushFault.l0 kj11 a0 a1 a2 l3 0 a4_0 a4_1 a4_2 a4_3 a4_4 a4_5 a4_6)) = some (r1,r2):=by rw [if_neg (show ¬ (false = true) by decide)] at H;exact H
       clear H;have H:=H1;clear H1;by_cases c32 : (l3.length : Int) > 40
       ·rw [if_pos c32] at H
        have c32b0 : decide (40 < (l3.length : Int)) = true:=decide_eq_true c32;have c32b1 : decide (40 < l3.length) = true:=decide_eq_true (by omega);clear c32;replace H:=Option.bind_eq_some_iff.mp H;obtain ⟨⟨t116,t117⟩,A330,H⟩:=H;replace H : (some (t116,t117)) = some (r1,r2):=H;have A33:=Aside0.mk A330;clear A330;simp only [Option.some.injEq,Prod.mk.injEq] at H;obtain ⟨rfl,rfl⟩:=H;go_wp2_with (first|((with_reducible refine gate_callee (f:=35) rfl ?_);refine goesL_ (some 40) rfl rfl Try.func35 (by kernel_rfl) rfl #[.int .i64 2,.int .i64 (-3)] rfl ln_ ?_;(with_reducible refine (changeforgeref5_fault.calls 2 (-3) t116 t117 _ A33.out).mono ?_);rintro e w34 ⟨rfl,hb⟩;refine ⟨_,rfl,?_⟩;replace BK101:=Aside0.mk (blk_below (blk_mv BK101.out) hb);replace BK102:=Aside0.mk (blk_below (blk_mv BK102.out) hb);replace BK105:=Aside0.mk (blk_below (blk_mv BK105.out) hb);replace HB:=Aside0.mk (below_step bel_ hb);(try clear hb);(try clear hb2);(try clear hk);(try clear hi);have hnb35:=NB102_101.out;have hnc35:=NB101_102.out;have hnb36:=NB102_105.out;have hnc36:=NB105_102.out;have hcz37_0:=blk_c (v:=.int .i64 0) BK102.out 0 rfl;have hcz37_1:=blk_c (v:=.int .i64 0) BK102.out 1 rfl;have hfz37_0:=blk_frozen BK102.out 0;have hfz37_1:=blk_frozen BK102.out 1));refine bodyPost_ret (results_cell_row rfl _ _ gb102 26 #[.int .i64 t116,.int .i64 t117] (0,0) _ rfl (by refine blk_mv ?_;refine blk_put (cs:=#[.int .i64 t116,.int .i64 0]) ?_ 1 _ rfl;refine blk_mv ?_;refine blk_put (cs:=#[.int .i64 0,.int .i64 0]) ?_ 0 _ rfl;refine blk_mv ?_;exact BK102.out) Try.underlying26 rfl (by kernel_rfl)) rfl ?_;exact ⟨by first|rfl|(simp [errW_none,errW_some] <;> rfl)|(simp [*,errW_none,errW_some] <;> rfl),bel_⟩
       ·rw [if_neg c32] at H
        have c32b0 : decide (40 < (l3.length : Int)) = false:=decide_eq_false c32;have c32b1 : decide (40 < l3.length) = false:=decide_eq_false (by omega);clear c32;have H':=Aside0.mk H;clear H;go_wp2;go_loopg [12] kj11 (fun kq v12 w' => ∃ (x12_2 : Int) (x103000_2 : Int) (x103001_2 : Int),v12 = .int .i64 x12_2 ∧ Aside0 (changeforgeref5_PushFault.l0 kq a0 a1 a2 l3 x12_2 a4_0 a4_1 a4_2 a4_3 a4_4 a4_5 a4_6 = some (r1,r2)) ∧ Aside0 (kq ≤ kj11) ∧ Aside0 (w'.heap[gb101]? = some (.cells #[.int .i64 a4_0,.int .i64 a4_1,.int .i64 a4_2,.string a4_3,.int .i64 a4_4,.int .i64 a4_5,.int .i64 a4_6] 23 (0,0))) ∧ Aside0 (w'.heap[gb102]? = some (.cells #[.int .i64 x103000_2,.int .i64 x103001_2] 26 (0,0))) ∧ Aside0 (w'.heap[gb105]? = some (.cells #[.int .i64 t103,.int .i64 t104] 26 (0,0))) ∧ Aside0 (Below w.heap.size w w'))
        case atStart => exact ⟨(0),(0),(0),fr_,H',⟨Nat.le_refl _⟩,⟨blk_mv BK101.out⟩,⟨blk_mv BK102.out⟩,⟨blk_mv BK105.out⟩,⟨bel_⟩⟩
        case round =>
         clear H';(try clear c1);(try clear c2);(try clear p2);(try clear c3);(try clear c7);(try clear c7b0);(try clear c7b1);(try clear c9);(try clear c10);(try clear c11);(try clear c15);(try clear c19);(try clear c20);(try clear c23);(try clear c24);(try clear c26);(try clear c28);(try clear c29);(try clear c30);(try clear c32);(try clear c32b0);(try clear c32b1);(try clear c35);(try clear c36);(try clear hcz16_0);(try clear hcz16_1);(try clear hcz16_2);(try clear hcz16_3);(try clear hcz16_4);(try clear hcz16_5);(try clear hcz16_6);(try clear hcz21_0);(try clear hcz21_1);(try clear hcz22_0);(try clear hcz22_1);(try clear hcz22_2);(try clear hcz22_3);(try clear hcz22_4);(try clear hcz22_5);(try clear hcz22_6);(try clear hcz31_0);(try clear hcz31_1);(try clear hcz37_0);(try clear hcz37_1);(try clear hfz16_0);(try clear hfz16_1);(try clear hfz16_2);(try clear hfz16_3);(try clear hfz16_4);(try clear hfz16_5);(try clear hfz16_6);(try clear hfz21_0);(try clear hfz21_1);(try clear hfz22_0);(try clear hfz22_1);(try clear hfz22_2);(try clear hfz22_3);(try clear hfz22_4);(try clear hfz22_5);(try clear hfz22_6);(try clear hfz31_0);(try clear hfz31_1);(try clear hfz37_0);(try clear hfz37_1);(try clear p2);obtain ⟨x12_2,x103000_2,x103001_2,rfl,HA,HK2,BK101,BK102,BK105,HB⟩:=hrel;cases gk with
         | zero => exact absurd HA.out (by simp [changeforgeref5_PushFault.l0])
         | succ k2 =>
          have H:=HA.out;clear HA;simp only [changeforgeref5_PushFault.l0] at H;by_cases c38 : x12_2 < (l3.length : Int)
          ·rw [if_pos c38] at H
           have c38b0 : decide (x12_2 < (l3.length : Int)) = true:=decide_eq_true c38;clear c38;have HC39:=Aside0.mk H;clear H;go_upto_region 15 with (fail);go_cut [68] (fun v68 wc => ∃ (kq : Nat) (x68_38 : Bool),v68 = .bool x68_38 ∧ Aside0 (changeforgeref5_PushFault.j2 kq a0 a1 a2 l3 x12_2 x68_38 a4_0 a4_1 a4_2 a4_3 a4_4 a4_5 a4_6 = some (r1,r2)) ∧ Aside0 (kq ≤ k2) ∧ Aside0 (wc.heap[gb101]? = some (.cells #[.int .i64 a4_0,.int .i64 a4_1,.int .i64 a4_2,.string a4_3,.int .i64 a4_4,.int .i64 a4_5,.int .i64 a4_6] 23 (0,0))) ∧ Aside0 (wc.heap[gb102]? = some (.cells #[.int .i64 x103000_2,.int .i64 x103001_2] 26 (0,0))) ∧ Aside0 (wc.heap[gb105]? = some (.cells #[.int .i64 t103,.int .i64 t104] 26 (0,0))) ∧ Aside0 (Below w.heap.size w wc))
           case first =>
            have H:=HC39.out;clear HC39;by_cases c40 : 0 ≤ x12_2
            ·rw [if_pos c40] at H
             have c40b0 : decide (0 ≤ x12_2) = true:=decide_eq_true c40;clear c40;(first|rw [c40b0]|(simp only [i64_w,i32_w];rw [c40b0])|skip);replace H:=Option.bind_eq_some_iff.mp H;obtain ⟨t119,A410,H⟩:=H;replace H : (if t119 = true then (if x12_2 > 0 then (if 0 ≤ (wrap64 (x12_2 - 1)) then (if (wrap64 (x12_2 - 1)) < (l3.length : Int) then (changeforgeref5_PushFault.j2 k2 a0 a1 a2 l3 x12_2 (decide ((rd l3 x12_2) ≤ (rd l3 (wrap64 (x12_2 - 1))))) a4_0 a4_1 a4_2 a4_3 a4_4 a4_5 a4_6) else (none)) else (none)) else (changeforgeref5_PushFault.j2 k2 a0 a1 a2 l3 x12_2 false a4_0 a4_1 a4_2 a4_3 a4_4 a4_5 a4_6)) else (changeforgeref5_PushFault.j2 k2 a0 a1 a2 l3 x12_2 true a4_0 a4_1 a4_2 a4_3 a4_4 a4_5 a4_6)) = some (r1,r2):=H;have A41:=Aside0.mk A410;clear A410;by_cases c42 : t119 = true
             ·subst c42
              have H1 : (if x12_2 > 0 then (if 0 ≤ (wrap64 (x12_2 - 1)) then (if (wrap64 (x12_2 - 1)) < (l3.length : Int) then (changeforgeref5_PushFault.j2 k2 a0 a1 a2 l3 x12_2 (decide ((rd l3 x12_2) ≤ (rd l3 (wrap64 (x12_2 - 1))))) a4_0 a4_1 a4_2 a4_3 a4_4 a4_5 a4_6) else (none)) else (none)) else (changeforgeref5_PushFault.j2 k2 a0 a1 a2 l3 x12_2 false a4_0 a4_1 a4_2 a4_3 a4_4 a4_5 a4_6)) = some (r1,r2):=by rw [if_pos rfl] at H;exact H
              clear H;have H:=H1;clear H1;by_cases c43 : x12_2 > 0
              ·rw [if_pos c43] at H
               have c43b0 : decide (0 < x12_2) = true:=decide_eq_true c43;clear c43;obtain ⟨ji44,hji44⟩ : ∃ j_ : Int,(wrap64 (x12_2 - 1)) = j_:=⟨_,rfl⟩;replace H : (if 0 ≤ (ji44) then (if (ji44) < (l3.length : Int) then (changeforgeref5_PushFault.j2 k2 a0 a1 a2 l3 x12_2 (decide ((rd l3 x12_2) ≤ (rd l3 (ji44)))) a4_0 a4_1 a4_2 a4_3 a4_4 a4_5 a4_6) else (none)) else (none)) = some (r1,r2):=by first|(rw [hji44] at H;exact H)|(simp only [hji44] at H ⊢;exact H)
               (try rw [hji44] at A41);have hji44w : (IntKind.i64.wrap (x12_2 - 1)) = ji44:=(i64_w _).trans hji44;by_cases c45 : 0 ≤ (ji44)
               ·rw [if_pos c45] at H
                have c45b0 : decide (0 ≤ (ji44)) = true:=decide_eq_true c45;clear c45;by_cases c46 : (ji44) < (l3.length : Int)
                ·rw [if_pos c46] at H
                 have c46b0 : decide ((ji44) < (l3.length : Int)) = true:=decide_eq_true c46;clear c46;have H':=Aside0.mk H;clear H;try go_wp2
                 replace BK101:=Aside0.mk (blk_drew BK101.out);replace BK102:=Aside0.mk (blk_drew BK102.out);replace BK105:=Aside0.mk (blk_drew BK105.out);replace HB:=Aside0.mk (below_drew1 HB.out);have p118 : 0 ≤ (x12_2 : Int):=of_decide_eq_true as_;have q118 : x12_2 < (l3.length : Int):=of_decide_eq_true as_;obtain ⟨ad118,e118,hx118_0⟩:=Kd.at_int HR3.out x12_2 p118 q118;have hw118_0:=hx118_0;cases e118
                 replace hx118_0:=(HB.out.cell (World.block_lt_of_cell? w _ hx118_0)).trans hx118_0;replace p118:=eq_true p118;replace q118:=eq_true q118;have p120 : 0 ≤ (x12_2 : Int):=of_decide_eq_true as_;have q120 : x12_2 < (l3.length : Int):=of_decide_eq_true as_;obtain ⟨ad120,e120,hx120_0⟩:=Kd.at_int HR3.out x12_2 p120 q120;have hw120_0:=hx120_0;obtain rfl : ad118 = ad120:=(by injection e120);replace hx120_0:=(HB.out.cell (World.block_lt_of_cell? w _ hx120_0)).trans hx120_0;replace p120:=eq_true p120;replace q120:=eq_true q120;have p121 : 0 ≤ ((ji44) : Int):=of_decide_eq_true as_;have q121 : (ji44) < (l3.length : Int):=of_decide_eq_true as_;obtain ⟨ad121,e121,hx121_0⟩:=Kd.at_int HR3.out (ji44) p121 q121;have hw121_0:=hx121_0;obtain rfl : ad118 = ad121:=(by injection e121);replace hx121_0:=(HB.out.cell (World.block_lt_of_cell? w _ hx121_0)).trans hx121_0;replace p121:=eq_true p121;replace q121:=eq_true q121;refine start_ (n:=22) (S:=fun w' => w'.cell? (ad118.add (x12_2).toNat) = some (.int .i64 (rd l3 x12_2)) ∧ w'.cell? (ad118.add (x12_2).toNat) = some (.int .i64 (rd l3 x12_2)) ∧ w'.cell? (ad118.add ((ji44)).toNat) = some (.int .i64 (rd l3 (ji44)))) (ds:=[]) (bl_ 22 0) (by kernel_rfl) rfl rfl ⟨((HB.out.cell (World.block_lt_of_cell? w _ hw118_0)).trans hw118_0),((HB.out.cell (World.block_lt_of_cell? w _ hw120_0)).trans hw120_0),((HB.out.cell (World.block_lt_of_cell? w _ hw121_0)).trans hw121_0)⟩ (fun hHeld => ?_);refine with_tabW changeforgeref5_PushFault.tab15 changeforgeref5_PushFault.bits15 (fun HT_ HW_ => ?_);generalize wr.drew = w47 at BK101 BK102 BK105 HB hx118_0 hx120_0 hx121_0 hHeld ⊢;refine pu_ (v:=?_) (a':=?_) 0 47 (bl_ 22 1) rfl rfl HT_.out ?_ ?_ ?_;rotate_left
                 ·intro w'
                  go_simp;with_reducible rfl
                 rotate_left
                 ·simp only [Act.put,sa_,sb_,sc_,i64_w,i32_w]
                  rfl
                 refine pu_ (v:=?_) (a':=?_) 1 48 (bl_ 22 3) rfl rfl HT_.out ?_ ?_ ?_;rotate_left
                 ·intro w'
                  go_simp;with_reducible rfl
                 rotate_left
                 ·simp only [Act.put,sa_,sb_,sc_,i64_w,i32_w]
                  rfl
                 refine pu_ (v:=?_) (a':=?_) 2 49 (bl_ 22 7) rfl rfl HT_.out ?_ ?_ ?_;rotate_left
                 ·intro w'
                  go_simp;with_reducible rfl
                 rotate_left
                 ·simp only [Act.put,sa_,sb_,sc_,i64_w,i32_w]
                  rfl
                 refine tk_ (v:=?_) (a':=?_) 3 50 (bl_ 22 15) rfl rfl HT_.out HW_.out ?_ hHeld ?_ ?_;rotate_left
                 ·rintro w' ⟨s0,s1,s2⟩
                  go_simp;with_reducible rfl
                 rotate_left
                 ·simp only [Act.put,sa_,sb_,sc_,i64_w,i32_w]
                  rfl
                 refine one_ (i:=4) (N:=some 51) (bl_ 22 31) rfl rfl (one_of HT_.out (by kernel_rfl)) (by decide) (fun K hK => ?_);refine goes_ Try.func23 (by kernel_rfl) rfl #[.int .i64 (rd l3 x12_2)] (by rfl) rfl rfl ln_ ?_;with_reducible refine (changeforgeref5_IsDigest.calls (rd l3 x12_2) true _ A41.out).mono ?_
                 rintro e w' ⟨rfl,⟨nd,rfl⟩⟩;refine ⟨_,rfl,?_⟩;refine hK.out _ _ ⟨((HB.out.cell (World.block_lt_of_cell? w _ hw118_0)).trans hw118_0),((HB.out.cell (World.block_lt_of_cell? w _ hw120_0)).trans hw120_0),((HB.out.cell (World.block_lt_of_cell? w _ hw121_0)).trans hw121_0)⟩ (fun hHeld => ?_);clear hK K;refine norm_ (a':=?_) ?_ ?_;rotate_left
                 ·show Act.put _ (some 51) _ = _
                  simp only [Act.put,sa_,sb_,sc_,i64_w,i32_w];rfl
                 refine pu_ (v:=?_) (a':=?_) 5 52 (bl_ 22 63) rfl rfl HT_.out ?_ ?_ ?_;rotate_left
                 ·intro w'
                  go_simp;with_reducible rfl
                 rotate_left
                 ·simp only [Act.put,sa_,sb_,sc_,i64_w,i32_w]
                  rfl
                 refine pu_ (v:=?_) (a':=?_) 6 53 (bl_ 22 127) rfl rfl HT_.out ?_ ?_ ?_;rotate_left
                 ·intro w'
                  go_simp;with_reducible rfl
                 rotate_left
                 ·simp only [Act.put,sa_,sb_,sc_,i64_w,i32_w]
                  rfl
                 refine pu_ (v:=?_) (a':=?_) 7 54 (bl_ 22 255) rfl rfl HT_.out ?_ ?_ ?_;rotate_left
                 ·intro w'
                  go_simp;with_reducible rfl
                 rotate_left
                 ·simp only [Act.put,sa_,sb_,sc_,i64_w,i32_w]
                  rfl
                 refine pu_ (v:=?_) (a':=?_) 8 55 (bl_ 22 511) rfl rfl HT_.out ?_ ?_ ?_;rotate_left
                 ·intro w'
                  go_simp;with_reducible rfl
                 rotate_left
                 ·simp only [Act.put,sa_,sb_,sc_,i64_w,i32_w]
                  rfl
                 refine pu_ (v:=?_) (a':=?_) 9 56 (bl_ 22 1023) rfl rfl HT_.out ?_ ?_ ?_;rotate_left
                 ·intro w'
                  go_simp;with_reducible rfl
                 rotate_left
                 ·simp only [Act.put,sa_,sb_,sc_,i64_w,i32_w]
                  rfl
                 refine pu_ (v:=?_) (a':=?_) 10 57 (bl_ 22 2047) rfl rfl HT_.out ?_ ?_ ?_;rotate_left
                 ·intro w'
                  go_simp;with_reducible rfl
                 rotate_left
                 ·simp only [Act.put,sa_,sb_,sc_,i64_w,i32_w]
                  rfl
                 refine pu_ (v:=?_) (a':=?_) 11 58 (bl_ 22 4095) rfl rfl HT_.out ?_ ?_ ?_;rotate_left
                 ·intro w'
                  go_simp;with_reducible rfl
                 rotate_left
                 ·simp only [Act.put,sa_,sb_,sc_,i64_w,i32_w]
                  rfl
                 refine pu_ (v:=?_) (a':=?_) 12 59 (bl_ 22 8191) rfl rfl HT_.out ?_ ?_ ?_;rotate_left
                 ·intro w'
                  go_simp;with_reducible rfl
                 rotate_left
                 ·simp only [Act.put,sa_,sb_,sc_,i64_w,i32_w]
                  rfl
                 refine pu_ (v:=?_) (a':=?_) 14 61 (bl_ 22 24575) rfl rfl HT_.out ?_ ?_ ?_;rotate_left
                 ·intro w'
                  go_simp;with_reducible rfl
                 rotate_left
                 ·simp only [Act.put,sa_,sb_,sc_,i64_w,i32_w]
                  rfl
                 refine pu_ (v:=?_) (a':=?_) 15 62 (bl_ 22 57343) rfl rfl HT_.out ?_ ?_ ?_;rotate_left
                 ·intro w'
                  go_simp;with_reducible rfl
                 rotate_left
                 ·simp only [Act.put,sa_,sb_,sc_,i64_w,i32_w]
                  rfl
                 refine pu_ (v:=?_) (a':=?_) 16 63 (bl_ 22 122879) rfl rfl HT_.out ?_ ?_ ?_;rotate_left
                 ·intro w'
                  go_simp;with_reducible rfl
                 rotate_left
                 ·simp only [Act.put,sa_,sb_,sc_,i64_w,i32_w]
                  rfl
                 refine pu_ (v:=?_) (a':=?_) 17 64 (bl_ 22 253951) rfl rfl HT_.out ?_ ?_ ?_;rotate_left
                 ·intro w'
                  go_simp;with_reducible rfl
                 rotate_left
                 ·simp only [Act.put,sa_,sb_,sc_,i64_w,i32_w]
                  rfl
                 refine tk_ (v:=?_) (a':=?_) 13 60 (bl_ 22 262143) rfl rfl HT_.out HW_.out ?_ hHeld ?_ ?_;rotate_left
                 ·rintro w' ⟨s0,s1,s2⟩
                  go_simp;with_reducible rfl
                 rotate_left
                 ·simp only [Act.put,sa_,sb_,sc_,i64_w,i32_w]
                  rfl
                 refine tk_ (v:=?_) (a':=?_) 18 65 (bl_ 22 524287) rfl rfl HT_.out HW_.out ?_ hHeld ?_ ?_;rotate_left
                 ·rintro w' ⟨s0,s1,s2⟩
                  go_simp;with_reducible rfl
                 rotate_left
                 ·simp only [Act.put,sa_,sb_,sc_,i64_w,i32_w]
                  rfl
                 refine pu_ (v:=?_) (a':=?_) 19 66 (bl_ 22 1048575) rfl rfl HT_.out ?_ ?_ ?_;rotate_left
                 ·intro w'
                  go_simp;with_reducible rfl
                 rotate_left
                 ·simp only [Act.put,sa_,sb_,sc_,i64_w,i32_w]
                  rfl
                 refine pu_ (v:=?_) (a':=?_) 20 67 (bl_ 22 2097151) rfl rfl HT_.out ?_ ?_ ?_;rotate_left
                 ·intro w'
                  go_simp;with_reducible rfl
                 rotate_left
                 ·simp only [Act.put,sa_,sb_,sc_,i64_w,i32_w]
                  rfl
                 refine pu_ (v:=?_) (a':=?_) 21 68 (bl_ 22 4194303) rfl rfl HT_.out ?_ ?_ ?_;rotate_left
                 ·intro w'
                  go_simp;with_reducible rfl
                 rotate_left
                 ·simp only [Act.put,sa_,sb_,sc_,i64_w,i32_w]
                  rfl
                 refine done_ (done_of HT_.out (by kernel_rfl)) ?_;try go_wp2
                 go_meet
                 case rel => exact ⟨_,(decide ((rd l3 x12_2) ≤ (rd l3 (ji44)))),(by first|rfl|(simp;done)|(simp only [← hji44] <;> (first|rfl|simp))|(simp [*];done)),H',⟨by have:=HJ11.out;have:=HK2.out;first|omega|exact Nat.le_refl _⟩,⟨blk_mv BK101.out⟩,⟨blk_mv BK102.out⟩,⟨blk_mv BK105.out⟩,⟨bel_⟩⟩
                ·rw [if_neg c46] at H
                 exact absurd H (by simp)
               ·rw [if_neg c45] at H
                exact absurd H (by simp)
              ·rw [if_neg c43] at H
               have c43b0 : decide (0 < x12_2) = false:=decide_eq_false c43;clear c43;have H':=Aside0.mk H;clear H;try go_wp2
               replace BK101:=Aside0.mk (blk_drew BK101.out);replace BK102:=Aside0.mk (blk_drew BK102.out);replace BK105:=Aside0.mk (blk_drew BK105.out);replace HB:=Aside0.mk (below_drew1 HB.out);have p118 : 0 ≤ (x12_2 : Int):=of_decide_eq_true as_;have q118 : x12_2 < (l3.length : Int):=of_decide_eq_true as_;obtain ⟨ad118,e118,hx118_0⟩:=Kd.at_int HR3.out x12_2 p118 q118;have hw118_0:=hx118_0;cases e118
               replace hx118_0:=(HB.out.cell (World.block_lt_of_cell? w _ hx118_0)).trans hx118_0;replace p118:=eq_true p118;replace q118:=eq_true q118;refine start_ (n:=22) (S:=fun w' => w'.cell? (ad118.add (x12_2).toNat) = some (.int .i64 (rd l3 x12_2))) (ds:=[]) (bl_ 22 0) (by kernel_rfl) rfl rfl (((HB.out.cell (World.block_lt_of_cell? w _ hw118_0)).trans hw118_0)) (fun hHeld => ?_);refine with_tabW changeforgeref5_PushFault.tab15 changeforgeref5_PushFault.bits15 (fun HT_ HW_ => ?_);generalize wr.drew = w48 at BK101 BK102 BK105 HB hx118_0 hHeld ⊢;refine pu_ (v:=?_) (a':=?_) 0 47 (bl_ 22 1) rfl rfl HT_.out ?_ ?_ ?_;rotate_left
               ·intro w'
                go_simp;with_reducible rfl
               rotate_left
               ·simp only [Act.put,sa_,sb_,sc_,i64_w,i32_w]
                rfl
               refine pu_ (v:=?_) (a':=?_) 1 48 (bl_ 22 3) rfl rfl HT_.out ?_ ?_ ?_;rotate_left
               ·intro w'
                go_simp;with_reducible rfl
               rotate_left
               ·simp only [Act.put,sa_,sb_,sc_,i64_w,i32_w]
                rfl
               refine pu_ (v:=?_) (a':=?_) 2 49 (bl_ 22 7) rfl rfl HT_.out ?_ ?_ ?_;rotate_left
               ·intro w'
                go_simp;with_reducible rfl
               rotate_left
               ·simp only [Act.put,sa_,sb_,sc_,i64_w,i32_w]
                rfl
               refine tk_ (v:=?_) (a':=?_) 3 50 (bl_ 22 15) rfl rfl HT_.out HW_.out ?_ hHeld ?_ ?_;rotate_left
               ·intro w' s0
                go_simp;with_reducible rfl
               rotate_left
               ·simp only [Act.put,sa_,sb_,sc_,i64_w,i32_w]
                rfl
               refine one_ (i:=4) (N:=some 51) (bl_ 22 31) rfl rfl (one_of HT_.out (by kernel_rfl)) (by decide) (fun K hK => ?_);refine goes_ Try.func23 (by kernel_rfl) rfl #[.int .i64 (rd l3 x12_2)] (by rfl) rfl rfl ln_ ?_;with_reducible refine (changeforgeref5_IsDigest.calls (rd l3 x12_2) true _ A41.out).mono ?_
               rintro e w' ⟨rfl,⟨nd,rfl⟩⟩;refine ⟨_,rfl,?_⟩;refine hK.out _ _ (((HB.out.cell (World.block_lt_of_cell? w _ hw118_0)).trans hw118_0)) (fun hHeld => ?_);clear hK K;refine norm_ (a':=?_) ?_ ?_;rotate_left
               ·show Act.put _ (some 51) _ = _
                simp only [Act.put,sa_,sb_,sc_,i64_w,i32_w];rfl
               refine pu_ (v:=?_) (a':=?_) 5 52 (bl_ 22 63) rfl rfl HT_.out ?_ ?_ ?_;rotate_left
               ·intro w'
                go_simp;with_reducible rfl
               rotate_left
               ·simp only [Act.put,sa_,sb_,sc_,i64_w,i32_w]
                rfl
               refine pu_ (v:=?_) (a':=?_) 6 53 (bl_ 22 127) rfl rfl HT_.out ?_ ?_ ?_;rotate_left
               ·intro w'
                go_simp;with_reducible rfl
               rotate_left
               ·simp only [Act.put,sa_,sb_,sc_,i64_w,i32_w]
                rfl
               refine pu_ (v:=?_) (a':=?_) 7 54 (bl_ 22 255) rfl rfl HT_.out ?_ ?_ ?_;rotate_left
               ·intro w'
                go_simp;with_reducible rfl
               rotate_left
               ·simp only [Act.put,sa_,sb_,sc_,i64_w,i32_w]
                rfl
               refine pu_ (v:=?_) (a':=?_) 8 55 (bl_ 22 511) rfl rfl HT_.out ?_ ?_ ?_;rotate_left
               ·intro w'
                go_simp;with_reducible rfl
               rotate_left
               ·simp only [Act.put,sa_,sb_,sc_,i64_w,i32_w]
                rfl
               refine pu_ (v:=?_) (a':=?_) 9 56 (bl_ 22 1023) rfl rfl HT_.out ?_ ?_ ?_;rotate_left
               ·intro w'
                go_simp;with_reducible rfl
               rotate_left
               ·simp only [Act.put,sa_,sb_,sc_,i64_w,i32_w]
                rfl
               refine pun_ (a':=?_) 10 57 (bl_ 22 2047) rfl rfl HT_.out ?_ ?_;rotate_left
               ·simp only [Act.put,sa_,sb_,sc_,i64_w,i32_w]
                rfl
               refine pun_ (a':=?_) 11 58 (bl_ 22 4095) rfl rfl HT_.out ?_ ?_;rotate_left
               ·simp only [Act.put,sa_,sb_,sc_,i64_w,i32_w]
                rfl
               refine pun_ (a':=?_) 12 59 (bl_ 22 8191) rfl rfl HT_.out ?_ ?_;rotate_left
               ·simp only [Act.put,sa_,sb_,sc_,i64_w,i32_w]
                rfl
               refine pun_ (a':=?_) 13 60 (bl_ 22 16383) rfl rfl HT_.out ?_ ?_;rotate_left
               ·simp only [Act.put,sa_,sb_,sc_,i64_w,i32_w]
                rfl
               refine pun_ (a':=?_) 14 61 (bl_ 22 32767) rfl rfl HT_.out ?_ ?_;rotate_left
               ·simp only [Act.put,sa_,sb_,sc_,i64_w,i32_w]
                rfl
               refine pun_ (a':=?_) 15 62 (bl_ 22 65535) rfl rfl HT_.out ?_ ?_;rotate_left
               ·simp only [Act.put,sa_,sb_,sc_,i64_w,i32_w]
                rfl
               refine pun_ (a':=?_) 16 63 (bl_ 22 131071) rfl rfl HT_.out ?_ ?_;rotate_left
               ·simp only [Act.put,sa_,sb_,sc_,i64_w,i32_w]
                rfl
               refine pun_ (a':=?_) 17 64 (bl_ 22 262143) rfl rfl HT_.out ?_ ?_;rotate_left
               ·simp only [Act.put,sa_,sb_,sc_,i64_w,i32_w]
                rfl
               refine pun_ (a':=?_) 18 65 (bl_ 22 524287) rfl rfl HT_.out ?_ ?_;rotate_left
               ·simp only [Act.put,sa_,sb_,sc_,i64_w,i32_w]
                rfl
               refine pun_ (a':=?_) 19 66 (bl_ 22 1048575) rfl rfl HT_.out ?_ ?_;rotate_left
               ·simp only [Act.put,sa_,sb_,sc_,i64_w,i32_w]
                rfl
               refine pu_ (v:=?_) (a':=?_) 20 67 (bl_ 22 2097151) rfl rfl HT_.out ?_ ?_ ?_;rotate_left
               ·intro w'
                go_simp;with_reducible rfl
               rotate_left
               ·simp only [Act.put,sa_,sb_,sc_,i64_w,i32_w]
                rfl
               refine pu_ (v:=?_) (a':=?_) 21 68 (bl_ 22 4194303) rfl rfl HT_.out ?_ ?_ ?_;rotate_left
               ·intro w'
                go_simp;with_reducible rfl
               rotate_left
               ·simp only [Act.put,sa_,sb_,sc_,i64_w,i32_w]
                rfl
               refine done_ (done_of HT_.out (by kernel_rfl)) ?_;try go_wp2
               go_meet
               case rel => exact ⟨_,(false),fr_,H',⟨by have:=HJ11.out;have:=HK2.out;first|omega|exact Nat.le_refl _⟩,⟨blk_mv BK101.out⟩,⟨blk_mv BK102.out⟩,⟨blk_mv BK105.out⟩,⟨bel_⟩⟩
             ·replace c42:=Bool.eq_false_iff.mpr c42
              subst c42;have H1 : (changeforgeref5_PushFault.j2 k2 a0 a1 a2 l3 x12_2 true a4_0 a4_1 a4_2 a4_3 a4_4 a4_5 a4_6) = some (r1,r2):=by rw [if_neg (show ¬ (false = true) by decide)] at H;exact H
              clear H;have H:=H1;clear H1;have H':=Aside0.mk H;clear H;try go_wp2
              replace BK101:=Aside0.mk (blk_drew BK101.out);replace BK102:=Aside0.mk (blk_drew BK102.out);replace BK105:=Aside0.mk (blk_drew BK105.out);replace HB:=Aside0.mk (below_drew1 HB.out);have p118 : 0 ≤ (x12_2 : Int):=of_decide_eq_true as_;have q118 : x12_2 < (l3.length : Int):=of_decide_eq_true as_;obtain ⟨ad118,e118,hx118_0⟩:=Kd.at_int HR3.out x12_2 p118 q118;have hw118_0:=hx118_0;cases e118
              replace hx118_0:=(HB.out.cell (World.block_lt_of_cell? w _ hx118_0)).trans hx118_0;replace p118:=eq_true p118;replace q118:=eq_true q118;refine start_ (n:=22) (S:=fun w' => w'.cell? (ad118.add (x12_2).toNat) = some (.int .i64 (rd l3 x12_2))) (ds:=[]) (bl_ 22 0) (by kernel_rfl) rfl rfl (((HB.out.cell (World.block_lt_of_cell? w _ hw118_0)).trans hw118_0)) (fun hHeld => ?_);refine with_tabW changeforgeref5_PushFault.tab15 changeforgeref5_PushFault.bits15 (fun HT_ HW_ => ?_);generalize wr.drew = w49 at BK101 BK102 BK105 HB hx118_0 hHeld ⊢;refine pu_ (v:=?_) (a':=?_) 0 47 (bl_ 22 1) rfl rfl HT_.out ?_ ?_ ?_;rotate_left
              ·intro w'
               go_simp;with_reducible rfl
              rotate_left
              ·simp only [Act.put,sa_,sb_,sc_,i64_w,i32_w]
               rfl
              refine pu_ (v:=?_) (a':=?_) 1 48 (bl_ 22 3) rfl rfl HT_.out ?_ ?_ ?_;rotate_left
              ·intro w'
               go_simp;with_reducible rfl
              rotate_left
              ·simp only [Act.put,sa_,sb_,sc_,i64_w,i32_w]
               rfl
              refine pu_ (v:=?_) (a':=?_) 2 49 (bl_ 22 7) rfl rfl HT_.out ?_ ?_ ?_;rotate_left
              ·intro w'
               go_simp;with_reducible rfl
              rotate_left
              ·simp only [Act.put,sa_,sb_,sc_,i64_w,i32_w]
               rfl
              refine tk_ (v:=?_) (a':=?_) 3 50 (bl_ 22 15) rfl rfl HT_.out HW_.out ?_ hHeld ?_ ?_;rotate_left
              ·intro w' s0
               go_simp;with_reducible rfl
              rotate_left
              ·simp only [Act.put,sa_,sb_,sc_,i64_w,i32_w]
               rfl
              refine one_ (i:=4) (N:=some 51) (bl_ 22 31) rfl rfl (one_of HT_.out (by kernel_rfl)) (by decide) (fun K hK => ?_);refine goes_ Try.func23 (by kernel_rfl) rfl #[.int .i64 (rd l3 x12_2)] (by rfl) rfl rfl ln_ ?_;with_reducible refine (changeforgeref5_IsDigest.calls (rd l3 x12_2) false _ A41.out).mono ?_
              rintro e w' ⟨rfl,⟨nd,rfl⟩⟩;refine ⟨_,rfl,?_⟩;refine hK.out _ _ (((HB.out.cell (World.block_lt_of_cell? w _ hw118_0)).trans hw118_0)) (fun hHeld => ?_);clear hK K;refine norm_ (a':=?_) ?_ ?_;rotate_left
              ·show Act.put _ (some 51) _ = _
               simp only [Act.put,sa_,sb_,sc_,i64_w,i32_w];rfl
              refine pu_ (v:=?_) (a':=?_) 5 52 (bl_ 22 63) rfl rfl HT_.out ?_ ?_ ?_;rotate_left
              ·intro w'
               go_simp;with_reducible rfl
              rotate_left
              ·simp only [Act.put,sa_,sb_,sc_,i64_w,i32_w]
               rfl
              refine pu_ (v:=?_) (a':=?_) 6 53 (bl_ 22 127) rfl rfl HT_.out ?_ ?_ ?_;rotate_left
              ·intro w'
               go_simp;with_reducible rfl
              rotate_left
              ·simp only [Act.put,sa_,sb_,sc_,i64_w,i32_w]
               rfl
              refine pun_ (a':=?_) 7 54 (bl_ 22 255) rfl rfl HT_.out ?_ ?_;rotate_left
              ·simp only [Act.put,sa_,sb_,sc_,i64_w,i32_w]
               rfl
              refine pun_ (a':=?_) 8 55 (bl_ 22 511) rfl rfl HT_.out ?_ ?_;rotate_left
              ·simp only [Act.put,sa_,sb_,sc_,i64_w,i32_w]
               rfl
              refine pun_ (a':=?_) 9 56 (bl_ 22 1023) rfl rfl HT_.out ?_ ?_;rotate_left
              ·simp only [Act.put,sa_,sb_,sc_,i64_w,i32_w]
               rfl
              refine pun_ (a':=?_) 10 57 (bl_ 22 2047) rfl rfl HT_.out ?_ ?_;rotate_left
              ·simp only [Act.put,sa_,sb_,sc_,i64_w,i32_w]
               rfl
              refine pun_ (a':=?_) 11 58 (bl_ 22 4095) rfl rfl HT_.out ?_ ?_;rotate_left
              ·simp only [Act.put,sa_,sb_,sc_,i64_w,i32_w]
               rfl
              refine pun_ (a':=?_) 12 59 (bl_ 22 8191) rfl rfl HT_.out ?_ ?_;rotate_left
              ·simp only [Act.put,sa_,sb_,sc_,i64_w,i32_w]
               rfl
              refine pun_ (a':=?_) 13 60 (bl_ 22 16383) rfl rfl HT_.out ?_ ?_;rotate_left
              ·simp only [Act.put,sa_,sb_,sc_,i64_w,i32_w]
               rfl
              refine pun_ (a':=?_) 14 61 (bl_ 22 32767) rfl rfl HT_.out ?_ ?_;rotate_left
              ·simp only [Act.put,sa_,sb_,sc_,i64_w,i32_w]
               rfl
              refine pun_ (a':=?_) 15 62 (bl_ 22 65535) rfl rfl HT_.out ?_ ?_;rotate_left
              ·simp only [Act.put,sa_,sb_,sc_,i64_w,i32_w]
               rfl
              refine pun_ (a':=?_) 16 63 (bl_ 22 131071) rfl rfl HT_.out ?_ ?_;rotate_left
              ·simp only [Act.put,sa_,sb_,sc_,i64_w,i32_w]
               rfl
              refine pun_ (a':=?_) 17 64 (bl_ 22 262143) rfl rfl HT_.out ?_ ?_;rotate_left
              ·simp only [Act.put,sa_,sb_,sc_,i64_w,i32_w]
               rfl
              refine pun_ (a':=?_) 18 65 (bl_ 22 524287) rfl rfl HT_.out ?_ ?_;rotate_left
              ·simp only [Act.put,sa_,sb_,sc_,i64_w,i32_w]
               rfl
              refine pun_ (a':=?_) 19 66 (bl_ 22 1048575) rfl rfl HT_.out ?_ ?_;rotate_left
              ·simp only [Act.put,sa_,sb_,sc_,i64_w,i32_w]
               rfl
              refine pun_ (a':=?_) 20 67 (bl_ 22 2097151) rfl rfl HT_.out ?_ ?_;rotate_left
              ·simp only [Act.put,sa_,sb_,sc_,i64_w,i32_w]
               rfl
              refine pu_ (v:=?_) (a':=?_) 21 68 (bl_ 22 4194303) rfl rfl HT_.out ?_ ?_ ?_;rotate_left
              ·intro w'
               go_simp;with_reducible rfl
              rotate_left
              ·simp only [Act.put,sa_,sb_,sc_,i64_w,i32_w]
               rfl
              refine done_ (done_of HT_.out (by kernel_rfl)) ?_;try go_wp2
              go_meet
              case rel => exact ⟨_,(true),fr_,H',⟨by have:=HJ11.out;have:=HK2.out;first|omega|exact Nat.le_refl _⟩,⟨blk_mv BK101.out⟩,⟨blk_mv BK102.out⟩,⟨blk_mv BK105.out⟩,⟨bel_⟩⟩
            ·rw [if_neg c40] at H
             exact absurd H (by simp)
           case rest =>
            clear HC39;(try clear p1);(try clear q1);(try clear hx1);(try clear c2);(try clear p2);(try clear c4);(try clear p6);(try clear p11);(try clear q11);(try clear hx11);(try clear p12);(try clear q12);(try clear hx12);(try clear c23);(try clear c40);(try clear c40b0);(try clear c42);(try clear c43);(try clear c43b0);(try clear c45);(try clear c45b0);(try clear c46);(try clear c46b0);(try clear hx118_0);(try clear hx120_0);(try clear hx121_0);(try clear p118);(try clear p120);(try clear p121);(try clear q118);(try clear q120);(try clear q121);obtain ⟨kq,x68_38,rfl,HA,HJ38,BK101,BK102,BK105,HB⟩:=hcut;cases kq with
            | zero => exact absurd HA.out (by simp [changeforgeref5_PushFault.j2])
            | succ kj38 =>
             have H:=HA.out;clear HA;simp only [changeforgeref5_PushFault.j2] at H;by_cases c50 : x68_38 = true
             ·subst c50
              have H1 : ((changeforgeref5_fault.f 5 (-3)).bind fun bt122 => (some (bt122.1,bt122.2))) = some (r1,r2):=by rw [if_pos rfl] at H;exact H
              clear H;have H:=H1;clear H1;replace H:=Option.bind_eq_some_iff.mp H;obtain ⟨⟨t122,t123⟩,A510,H⟩:=H;replace H : (some (t122,t123)) = some (r1,r2):=H;have A51:=Aside0.mk A510;clear A510;simp only [Option.some.injEq,Prod.mk.injEq] at H;obtain ⟨rfl,rfl⟩:=H;go_wp2_with (first|((with_reducible refine gate_callee (f:=35) rfl ?_);refine goesL_ (some 69) rfl rfl Try.func35 (by kernel_rfl) rfl #[.int .i64 5,.int .i64 (-3)] rfl ln_ ?_;(with_reducible refine (changeforgeref5_fault.calls 5 (-3) t122 t123 _ A51.out).mono ?_);rintro e w52 ⟨rfl,hb⟩;refine ⟨_,rfl,?_⟩;replace BK101:=Aside0.mk (blk_below (blk_mv BK101.out) hb);replace BK102:=Aside0.mk (blk_below (blk_mv BK102.out) hb);replace BK105:=Aside0.mk (blk_below (blk_mv BK105.out) hb);replace HB:=Aside0.mk (below_step bel_ hb);(try clear hb);(try clear hb2);(try clear hk);(try clear hi);have hnb53:=NB102_101.out;have hnc53:=NB101_102.out;have hnb54:=NB102_105.out;have hnc54:=NB105_102.out;have hcz55_0:=blk_c (v:=.int .i64 x103000_2) BK102.out 0 rfl;have hcz55_1:=blk_c (v:=.int .i64 x103001_2) BK102.out 1 rfl;have hfz55_0:=blk_frozen BK102.out 0;have hfz55_1:=blk_frozen BK102.out 1));refine bodyPost_ret (results_cell_row rfl _ _ gb102 26 #[.int .i64 t122,.int .i64 t123] (0,0) _ rfl (by refine blk_mv ?_;refine blk_put (cs:=#[.int .i64 t122,.int .i64 x103001_2]) ?_ 1 _ rfl;refine blk_mv ?_;refine blk_put (cs:=#[.int .i64 x103000_2,.int .i64 x103001_2]) ?_ 0 _ rfl;refine blk_mv ?_;exact BK102.out) Try.underlying26 rfl (by kernel_rfl)) rfl ?_;exact ⟨by first|rfl|(simp [errW_none,errW_some] <;> rfl)|(simp [*,errW_none,errW_some] <;> rfl),bel_⟩
             ·replace c50:=Bool.eq_false_iff.mpr c50
              subst c50;have H1 : (changeforgeref5_PushFault.l0 kj38 a0 a1 a2 l3 (wrap64 (x12_2 + 1)) a4_0 a4_1 a4_2 a4_3 a4_4 a4_5 a4_6) = some (r1,r2):=by rw [if_neg (show ¬ (false = true) by decide)] at H;exact H
              clear H;have H:=H1;clear H1;have H':=Aside0.mk H;clear H;go_wp2;go_roundg kj38
              case measure => have:=HJ11.out;have:=HK2.out;have:=HJ38.out;omega
              case rel => exact ⟨(wrap64 (x12_2 + 1)),(x103000_2),(x103001_2),fr_,H',⟨by have:=HJ11.out;have:=HK2.out;have:=HJ38.out;omega⟩,⟨blk_mv BK101.out⟩,⟨blk_mv BK102.out⟩,⟨blk_mv BK105.out⟩,⟨bel_⟩⟩
          ·rw [if_neg c38] at H
           have c38b0 : decide (x12_2 < (l3.length : Int)) = false:=decide_eq_false c38;clear c38;have HC56:=Aside0.mk H;clear H;go_upto_region 17 with (fail);go_cut [81] (fun v81 wc => ∃ (kq : Nat) (x81_55 : Bool),v81 = .bool x81_55 ∧ Aside0 (changeforgeref5_PushFault.j3 kq a0 l3 x81_55 a4_0 a4_1 a4_2 a4_3 a4_4 a4_5 a4_6 = some (r1,r2)) ∧ Aside0 (kq ≤ k2) ∧ Aside0 (wc.heap[gb101]? = some (.cells #[.int .i64 a4_0,.int .i64 a4_1,.int .i64 a4_2,.string a4_3,.int .i64 a4_4,.int .i64 a4_5,.int .i64 a4_6] 23 (0,0))) ∧ Aside0 (wc.heap[gb102]? = some (.cells #[.int .i64 x103000_2,.int .i64 x103001_2] 26 (0,0))) ∧ Aside0 (wc.heap[gb105]? = some (.cells #[.int .i64 t103,.int .i64 t104] 26 (0,0))) ∧ Aside0 (Below w.heap.size w wc))
           case first =>
            have H:=HC56.out;clear HC56;by_cases c57 : a4_1 > a1
            ·rw [if_pos c57] at H
             have c57b0 : decide (a1 < a4_1) = true:=decide_eq_true c57;clear c57;(first|rw [c57b0]|(simp only [i64_w,i32_w];rw [c57b0])|skip);have H':=Aside0.mk H;clear H;have hnb58:=NB101_102.out;have hnc58:=NB102_101.out;have hnb59:=NB101_105.out;have hnc59:=NB105_101.out;have hcz60_0:=blk_c (v:=.int .i64 a4_0) BK101.out 0 rfl;have hcz60_1:=blk_c (v:=.int .i64 a4_1) BK101.out 1 rfl;have hcz60_2:=blk_c (v:=.int .i64 a4_2) BK101.out 2 rfl;have hcz60_3:=blk_c (v:=.string a4_3) BK101.out 3 rfl;have hcz60_4:=blk_c (v:=.int .i64 a4_4) BK101.out 4 rfl;have hcz60_5:=blk_c (v:=.int .i64 a4_5) BK101.out 5 rfl;have hcz60_6:=blk_c (v:=.int .i64 a4_6) BK101.out 6 rfl;have hfz60_0:=blk_frozen BK101.out 0;have hfz60_1:=blk_frozen BK101.out 1;have hfz60_2:=blk_frozen BK101.out 2;have hfz60_3:=blk_frozen BK101.out 3;have hfz60_4:=blk_frozen BK101.out 4;have hfz60_5:=blk_frozen BK101.out 5;have hfz60_6:=blk_frozen BK101.out 6;go_wp2;go_meet
             case rel => exact ⟨_,(true),fr_,H',⟨by have:=HJ11.out;have:=HK2.out;first|omega|exact Nat.le_refl _⟩,⟨blk_mv BK101.out⟩,⟨blk_mv BK102.out⟩,⟨blk_mv BK105.out⟩,⟨bel_⟩⟩
            ·rw [if_neg c57] at H
             have c57b0 : decide (a1 < a4_1) = false:=decide_eq_false c57;clear c57;(first|rw [c57b0]|(simp only [i64_w,i32_w];rw [c57b0])|skip);have H':=Aside0.mk H;clear H;have hnb61:=NB101_102.out;have hnc61:=NB102_101.out;have hnb62:=NB101_105.out;have hnc62:=NB105_101.out;have hcz63_0:=blk_c (v:=.int .i64 a4_0) BK101.out 0 rfl;have hcz63_1:=blk_c (v:=.int .i64 a4_1) BK101.out 1 rfl;have hcz63_2:=blk_c (v:=.int .i64 a4_2) BK101.out 2 rfl;have hcz63_3:=blk_c (v:=.string a4_3) BK101.out 3 rfl;have hcz63_4:=blk_c (v:=.int .i64 a4_4) BK101.out 4 rfl;have hcz63_5:=blk_c (v:=.int .i64 a4_5) BK101.out 5 rfl;have hcz63_6:=blk_c (v:=.int .i64 a4_6) BK101.out 6 rfl;have hfz63_0:=blk_frozen BK101.out 0;have hfz63_1:=blk_frozen BK101.out 1;have hfz63_2:=blk_frozen BK101.out 2;have hfz63_3:=blk_frozen BK101.out 3;have hfz63_4:=blk_frozen BK101.out 4;have hfz63_5:=blk_frozen BK101.out 5;have hfz63_6:=blk_frozen BK101.out 6;go_wp2;go_meet
             case rel => exact ⟨_,(decide (a4_1 < (wrap64 (a1 - a2)))),fr_,H',⟨by have:=HJ11.out;have:=HK2.out;first|omega|exact Nat.le_refl _⟩,⟨blk_mv BK101.out⟩,⟨blk_mv BK102.out⟩,⟨blk_mv BK105.out⟩,⟨bel_⟩⟩
           case rest =>
            clear HC56;(try clear p1);(try clear q1);(try clear hx1);(try clear c2);(try clear p2);(try clear c3);(try clear c4);(try clear c5);(try clear c6);(try clear p6);(try clear p11);(try clear q11);(try clear hx11);(try clear p12);(try clear q12);(try clear hx12);(try clear c23);(try clear c35);(try clear c38);(try clear c38b0);(try clear c40);(try clear c40b0);(try clear c42);(try clear c43);(try clear c43b0);(try clear c45);(try clear c45b0);(try clear c46);(try clear c46b0);(try clear c50);(try clear c53);(try clear c54);(try clear c57);(try clear c57b0);(try clear c58);(try clear c59);(try clear c61);(try clear c62);(try clear hcz55_0);(try clear hcz55_1);(try clear hcz60_0);(try clear hcz60_1);(try clear hcz60_2);(try clear hcz60_3);(try clear hcz60_4);(try clear hcz60_5);(try clear hcz60_6);(try clear hcz63_0);(try clear hcz63_1);(try clear hcz63_2);(try clear hcz63_3);(try clear hcz63_4);(try clear hcz63_5);(try clear hcz63_6);(try clear hfz55_0);(try clear hfz55_1);(try clear hfz60_0);(try clear hfz60_1);(try clear hfz60_2);(try clear hfz60_3);(try clear hfz60_4);(try clear hfz60_5);(try clear hfz60_6);(try clear hfz63_0);(try clear hfz63_1);(try clear hfz63_2);(try clear hfz63_3);(try clear hfz63_4);(try clear hfz63_5);(try clear hfz63_6);(try clear hx118_0);(try clear hx120_0);(try clear hx121_0);(try clear p1);(try clear p11);(try clear p118);(try clear p12);(try clear p120);(try clear p121);(try clear p2);(try clear p6);(try clear q1);(try clear q11);(try clear q118);(try clear q12);(try clear q120);(try clear q121);obtain ⟨kq,x81_55,rfl,HA,HJ55,BK101,BK102,BK105,HB⟩:=hcut;cases kq with
            | zero => exact absurd HA.out (by simp [changeforgeref5_PushFault.j3])
            | succ kj55 =>
             have H:=HA.out;clear HA;simp only [changeforgeref5_PushFault.j3] at H;by_cases c64 : x81_55 = true
             ·subst c64
              have H1 : ((changeforgeref5_fault.f 16 0).bind fun bt124 => (some (bt124.1,bt124.2))) = some (r1,r2):=by rw [if_pos rfl] at H;exact H
              clear H;have H:=H1;clear H1;replace H:=Option.bind_eq_some_iff.mp H;obtain ⟨⟨t124,t125⟩,A650,H⟩:=H;replace H : (some (t124,t125)) = some (r1,r2):=H;have A65:=Aside0.mk A650;clear A650;simp only [Option.some.injEq,Prod.mk.injEq] at H;obtain ⟨rfl,rfl⟩:=H;go_wp2_with (first|((with_reducible refine gate_callee (f:=35) rfl ?_);refine goesL_ (some 82) rfl rfl Try.func35 (by kernel_rfl) rfl #[.int .i64 16,.int .i64 0] rfl ln_ ?_;(with_reducible refine (changeforgeref5_fault.calls 16 0 t124 t125 _ A65.out).mono ?_);rintro e w66 ⟨rfl,hb⟩;refine ⟨_,rfl,?_⟩;replace BK101:=Aside0.mk (blk_below (blk_mv BK101.out) hb);replace BK102:=Aside0.mk (blk_below (blk_mv BK102.out) hb);replace BK105:=Aside0.mk (blk_below (blk_mv BK105.out) hb);replace HB:=Aside0.mk (below_step bel_ hb);(try clear hb);(try clear hb2);(try clear hk);(try clear hi);have hnb67:=NB102_101.out;have hnc67:=NB101_102.out;have hnb68:=NB102_105.out;have hnc68:=NB105_102.out;have hcz69_0:=blk_c (v:=.int .i64 x103000_2) BK102.out 0 rfl;have hcz69_1:=blk_c (v:=.int .i64 x103001_2) BK102.out 1 rfl;have hfz69_0:=blk_frozen BK102.out 0;have hfz69_1:=blk_frozen BK102.out 1));refine bodyPost_ret (results_cell_row rfl _ _ gb102 26 #[.int .i64 t124,.int .i64 t125] (0,0) _ rfl (by refine blk_mv ?_;refine blk_put (cs:=#[.int .i64 t124,.int .i64 x103001_2]) ?_ 1 _ rfl;refine blk_mv ?_;refine blk_put (cs:=#[.int .i64 x103000_2,.int .i64 x103001_2]) ?_ 0 _ rfl;refine blk_mv ?_;exact BK102.out) Try.underlying26 rfl (by kernel_rfl)) rfl ?_;exact ⟨by first|rfl|(simp [errW_none,errW_some] <;> rfl)|(simp [*,errW_none,errW_some] <;> rfl),bel_⟩
             ·replace c64:=Bool.eq_false_iff.mpr c64
              subst c64;have H1 : ((changeforgeref5_Nonce.f kj55 a0 a4_1).bind fun t126 => (if a4_0 = t126 then ((changeforgeref5_CertSignature.f kj55 a4_0 a4_1 a4_2 a4_3 a4_4 a4_5 a4_6).bind fun t129 => (if a4_6 = t129 then ((changeforgeref5_Has.f kj55 l3 a4_0).bind fun t132 => (if t132 = true then ((changeforgeref5_fault.f 7 0).bind fun bt133 => (some (bt133.1,bt133.2))) else (if (l3.length : Int) = 40 then ((changeforgeref5_fault.f 14 0).bind fun bt135 => (some (bt135.1,bt135.2))) else (some (0,0))))) else ((changeforgeref5_fault.f 18 2).bind fun bt130 => (some (bt130.1,bt130.2))))) else ((changeforgeref5_fault.f 18 1).bind fun bt127 => (some (bt127.1,bt127.2))))) = some (r1,r2):=by rw [if_neg (show ¬ (false = true) by decide)] at H;exact H
              clear H;have H:=H1;clear H1;replace H:=Option.bind_eq_some_iff.mp H;obtain ⟨t126,A700,H⟩:=H;replace H : (if a4_0 = t126 then ((changeforgeref5_CertSignature.f kj55 a4_0 a4_1 a4_2 a4_3 a4_4 a4_5 a4_6).bind fun t129 => (if a4_6 = t129 then ((changeforgeref5_Has.f kj55 l3 a4_0).bind fun t132 => (if t132 = true then ((changeforgeref5_fault.f 7 0).bind fun bt133 => (some (bt133.1,bt133.2))) else (if (l3.length : Int) = 40 then ((changeforgeref5_fault.f 14 0).bind fun bt135 => (some (bt135.1,bt135.2))) else (some (0,0))))) else ((changeforgeref5_fault.f 18 2).bind fun bt130 => (some (bt130.1,bt130.2))))) else ((changeforgeref5_fault.f 18 1).bind fun bt127 => (some (bt127.1,bt127.2)))) = some (r1,r2):=H;have A70:=Aside0.mk A700;clear A700;by_cases c71 : a4_0 = t126
              ·rw [if_pos c71] at H
               have c71b0 : (a4_0 == t126) = true:=beq_iff_eq.mpr c71;have c71b1 : (a4_0 != t126) = false:=bne_eq_false_iff_eq.mpr c71;clear c71;replace H:=Option.bind_eq_some_iff.mp H;obtain ⟨t129,A720,H⟩:=H;replace H : (if a4_6 = t129 then ((changeforgeref5_Has.f kj55 l3 a4_0).bind fun t132 => (if t132 = true then ((changeforgeref5_fault.f 7 0).bind fun bt133 => (some (bt133.1,bt133.2))) else (if (l3.length : Int) = 40 then ((changeforgeref5_fault.f 14 0).bind fun bt135 => (some (bt135.1,bt135.2))) else (some (0,0))))) else ((changeforgeref5_fault.f 18 2).bind fun bt130 => (some (bt130.1,bt130.2)))) = some (r1,r2):=H;have A72:=Aside0.mk A720;clear A720;by_cases c73 : a4_6 = t129
               ·rw [if_pos c73] at H
                have c73b0 : (a4_6 == t129) = true:=beq_iff_eq.mpr c73;have c73b1 : (a4_6 != t129) = false:=bne_eq_false_iff_eq.mpr c73;clear c73;replace H:=Option.bind_eq_some_iff.mp H;obtain ⟨t132,A740,H⟩:=H;replace H : (if t132 = true then ((changeforgeref5_fault.f 7 0).bind fun bt133 => (some (bt133.1,bt133.2))) else (if (l3.length : Int) = 40 then ((changeforgeref5_fault.f 14 0).bind fun bt135 => (some (bt135.1,bt135.2))) else (some (0,0)))) = some (r1,r2):=H;have A74:=Aside0.mk A740;clear A740;by_cases c75 : t132 = true
                ·subst c75
                 have H1 : ((changeforgeref5_fault.f 7 0).bind fun bt133 => (some (bt133.1,bt133.2))) = some (r1,r2):=by rw [if_pos rfl] at H;exact H
                 clear H;have H:=H1;clear H1;replace H:=Option.bind_eq_some_iff.mp H;obtain ⟨⟨t133,t134⟩,A760,H⟩:=H;replace H : (some (t133,t134)) = some (r1,r2):=H;have A76:=Aside0.mk A760;clear A760;simp only [Option.some.injEq,Prod.mk.injEq] at H;obtain ⟨rfl,rfl⟩:=H;try go_wp2
                 replace BK101:=Aside0.mk (blk_drew BK101.out);replace BK102:=Aside0.mk (blk_drew BK102.out);replace BK105:=Aside0.mk (blk_drew BK105.out);replace HB:=Aside0.mk (below_drew1 HB.out);refine start_ (n:=7) (S:=fun w' => w'.cell? ⟨gb101,0,none⟩ = some (.int .i64 a4_0) ∧ w'.cell? ⟨gb101,1,none⟩ = some (.int .i64 a4_1) ∧ w'.cell? ⟨gb101,2,none⟩ = some (.int .i64 a4_2) ∧ w'.cell? ⟨gb101,3,none⟩ = some (.string a4_3) ∧ w'.cell? ⟨gb101,4,none⟩ = some (.int .i64 a4_4) ∧ w'.cell? ⟨gb101,5,none⟩ = some (.int .i64 a4_5) ∧ w'.cell? ⟨gb101,6,none⟩ = some (.int .i64 a4_6)) (ds:=[]) (bl_ 7 0) (by kernel_rfl) rfl rfl ⟨(blk_cell BK101.out 0).trans rfl,(blk_cell BK101.out 1).trans rfl,(blk_cell BK101.out 2).trans rfl,(blk_cell BK101.out 3).trans rfl,(blk_cell BK101.out 4).trans rfl,(blk_cell BK101.out 5).trans rfl,(blk_cell BK101.out 6).trans rfl⟩ (fun hHeld => ?_);generalize wc.drew = w77 at BK101 BK102 BK105 HB hHeld ⊢;refine pure_ (i:=0) (N:=some 83) (v:=?_) (a':=?_) (bl_ 7 1) rfl rfl (by kernel_rfl) (fun _ _ _ h => h) (Or.inl ⟨by rfl,?_⟩) ?_ ?_;rotate_left
                 ·intro w'
                  go_simp;with_reducible rfl
                 rotate_left
                 ·simp only [Act.put,sa_,sb_,sc_,i64_w,i32_w]
                  rfl
                 refine pure_ (i:=2) (N:=some 85) (v:=?_) (a':=?_) (bl_ 7 5) rfl rfl (by kernel_rfl) (fun _ _ _ h => h) (Or.inl ⟨by rfl,?_⟩) ?_ ?_;rotate_left
                 ·intro w'
                  go_simp;with_reducible rfl
                 rotate_left
                 ·simp only [Act.put,sa_,sb_,sc_,i64_w,i32_w]
                  rfl
                 refine pure_ (i:=3) (N:=some 86) (v:=?_) (a':=?_) (bl_ 7 13) rfl rfl (by kernel_rfl) (fun _ _ _ h => h) (Or.inl ⟨by rfl,?_⟩) ?_ ?_;rotate_left
                 ·intro w'
                  go_simp;with_reducible rfl
                 rotate_left
                 ·simp only [Act.put,sa_,sb_,sc_,i64_w,i32_w]
                  rfl
                 refine take_ (i:=1) (N:=some 84) (v:=?_) (a':=?_) (bl_ 7 15) rfl rfl (by kernel_rfl) (fun _ _ _ h => h) (Or.inl ⟨by rfl,?_⟩) hHeld ?_ ?_;rotate_left
                 ·rintro w' ⟨s0,s1,s2,s3,s4,s5,s6⟩
                  go_simp;with_reducible rfl
                 rotate_left
                 ·simp only [Act.put,sa_,sb_,sc_,i64_w,i32_w]
                  rfl
                 refine take_ (i:=4) (N:=some 87) (v:=?_) (a':=?_) (bl_ 7 31) rfl rfl (by kernel_rfl) (fun _ _ _ h => h) (Or.inl ⟨by rfl,?_⟩) hHeld ?_ ?_;rotate_left
                 ·rintro w' ⟨s0,s1,s2,s3,s4,s5,s6⟩
                  go_simp;with_reducible rfl
                 rotate_left
                 ·simp only [Act.put,sa_,sb_,sc_,i64_w,i32_w]
                  rfl
                 refine one_ (i:=5) (N:=some 88) (bl_ 7 63) rfl rfl (by kernel_rfl) (by decide) (fun K hK => ?_);refine goes_ Try.func14 (by kernel_rfl) rfl #[.int .i64 a0,.int .i64 a4_1] (by rfl) rfl rfl ln_ ?_;with_reducible refine (changeforgeref5_Nonce.calls kj55 a0 a4_1 t126 _ A70.out).mono ?_
                 rintro e w78 ⟨rfl,hb⟩;refine ⟨_,rfl,?_⟩;replace BK101:=Aside0.mk (blk_below (blk_mv BK101.out) hb);replace BK102:=Aside0.mk (blk_below (blk_mv BK102.out) hb);replace BK105:=Aside0.mk (blk_below (blk_mv BK105.out) hb);replace HB:=Aside0.mk (below_step bel_ hb);(try clear hb);refine hK.out _ _ ⟨(blk_cell BK101.out 0).trans rfl,(blk_cell BK101.out 1).trans rfl,(blk_cell BK101.out 2).trans rfl,(blk_cell BK101.out 3).trans rfl,(blk_cell BK101.out 4).trans rfl,(blk_cell BK101.out 5).trans rfl,(blk_cell BK101.out 6).trans rfl⟩ (fun hHeld => ?_);clear hK K;refine norm_ (a':=?_) ?_ ?_;rotate_left
                 ·show Act.put _ (some 88) _ = _
                  simp only [Act.put,sa_,sb_,sc_,i64_w,i32_w];rfl
                 refine pure_ (i:=6) (N:=some 89) (v:=?_) (a':=?_) (bl_ 7 127) rfl rfl (by kernel_rfl) (fun _ _ _ h => h) (Or.inl ⟨by rfl,?_⟩) ?_ ?_;rotate_left
                 ·intro w'
                  go_simp;with_reducible rfl
                 rotate_left
                 ·simp only [Act.put,sa_,sb_,sc_,i64_w,i32_w]
                  rfl
                 refine done_ (by kernel_rfl) ?_;try go_wp2
                 replace BK101:=Aside0.mk (blk_drew BK101.out);replace BK102:=Aside0.mk (blk_drew BK102.out);replace BK105:=Aside0.mk (blk_drew BK105.out);replace HB:=Aside0.mk (below_drew1 HB.out);refine start_ (n:=5) (S:=fun w' => w'.cell? ⟨gb101,0,none⟩ = some (.int .i64 a4_0) ∧ w'.cell? ⟨gb101,1,none⟩ = some (.int .i64 a4_1) ∧ w'.cell? ⟨gb101,2,none⟩ = some (.int .i64 a4_2) ∧ w'.cell? ⟨gb101,3,none⟩ = some (.string a4_3) ∧ w'.cell? ⟨gb101,4,none⟩ = some (.int .i64 a4_4) ∧ w'.cell? ⟨gb101,5,none⟩ = some (.int .i64 a4_5) ∧ w'.cell? ⟨gb101,6,none⟩ = some (.int .i64 a4_6)) (ds:=[]) #[false,false,false,false,false] (by kernel_rfl) rfl rfl ⟨(blk_cell BK101.out 0).trans rfl,(blk_cell BK101.out 1).trans rfl,(blk_cell BK101.out 2).trans rfl,(blk_cell BK101.out 3).trans rfl,(blk_cell BK101.out 4).trans rfl,(blk_cell BK101.out 5).trans rfl,(blk_cell BK101.out 6).trans rfl⟩ (fun hHeld => ?_);generalize w78.drew = w79 at BK101 BK102 BK105 HB hHeld ⊢;refine pure_ (i:=0) (N:=some 91) (v:=?_) (a':=?_) #[true,false,false,false,false] rfl rfl (by kernel_rfl) (fun _ _ _ h => h) (Or.inl ⟨by rfl,?_⟩) ?_ ?_;rotate_left
                 ·intro w'
                  go_simp;with_reducible rfl
                 rotate_left
                 ·simp only [Act.put,sa_,sb_,sc_,i64_w,i32_w]
                  rfl
                 refine take_ (i:=1) (N:=some 92) (v:=?_) (a':=?_) #[true,true,false,false,false] rfl rfl (by kernel_rfl) (fun _ _ _ h => h) (Or.inl ⟨by rfl,?_⟩) hHeld ?_ ?_;rotate_left
                 ·rintro w' ⟨s0,s1,s2,s3,s4,s5,s6⟩
                  go_simp;with_reducible rfl
                 rotate_left
                 ·simp only [Act.put,sa_,sb_,sc_,i64_w,i32_w]
                  rfl
                 refine take_ (i:=2) (N:=some 93) (v:=?_) (a':=?_) #[true,true,true,false,false] rfl rfl (by kernel_rfl) (fun _ _ _ h => h) (Or.inl ⟨by rfl,?_⟩) hHeld ?_ ?_;rotate_left
                 ·rintro w' ⟨s0,s1,s2,s3,s4,s5,s6⟩
                  go_simp;with_reducible rfl
                 rotate_left
                 ·simp only [Act.put,sa_,sb_,sc_,i64_w,i32_w]
                  rfl
                 refine one_ (i:=3) (N:=some 94) #[true,true,true,true,false] rfl rfl (by kernel_rfl) (by decide) (fun K hK => ?_);refine goes_ Try.func18 (by kernel_rfl) rfl #[.agg #[.int .i64 a4_0,.int .i64 a4_1,.int .i64 a4_2,.string a4_3,.int .i64 a4_4,.int .i64 a4_5,.int .i64 a4_6]] (by rfl) rfl rfl ln_ ?_;with_reducible refine (changeforgeref5_CertSignature.calls kj55 a4_0 a4_1 a4_2 a4_3 a4_4 a4_5 a4_6 t129 _ A72.out).mono ?_
                 rintro e w80 ⟨rfl,hb⟩;refine ⟨_,rfl,?_⟩;replace BK101:=Aside0.mk (blk_below (blk_mv BK101.out) hb);replace BK102:=Aside0.mk (blk_below (blk_mv BK102.out) hb);replace BK105:=Aside0.mk (blk_below (blk_mv BK105.out) hb);replace HB:=Aside0.mk (below_step bel_ hb);(try clear hb);refine hK.out _ _ ⟨(blk_cell BK101.out 0).trans rfl,(blk_cell BK101.out 1).trans rfl,(blk_cell BK101.out 2).trans rfl,(blk_cell BK101.out 3).trans rfl,(blk_cell BK101.out 4).trans rfl,(blk_cell BK101.out 5).trans rfl,(blk_cell BK101.out 6).trans rfl⟩ (fun hHeld => ?_);clear hK K;refine norm_ (a':=?_) ?_ ?_;rotate_left
                 ·show Act.put _ (some 94) _ = _
                  simp only [Act.put,sa_,sb_,sc_,i64_w,i32_w];rfl
                 refine pure_ (i:=4) (N:=some 95) (v:=?_) (a':=?_) #[true,true,true,true,true] rfl rfl (by kernel_rfl) (fun _ _ _ h => h) (Or.inl ⟨by rfl,?_⟩) ?_ ?_;rotate_left
                 ·intro w'
                  go_simp;with_reducible rfl
                 rotate_left
                 ·simp only [Act.put,sa_,sb_,sc_,i64_w,i32_w]
                  rfl
                 refine done_ (by kernel_rfl) ?_;have hnb81:=NB101_102.out;have hnc81:=NB102_101.out;have hnb82:=NB101_105.out;have hnc82:=NB105_101.out;have hcz83_0:=blk_c (v:=.int .i64 a4_0) BK101.out 0 rfl;have hcz83_1:=blk_c (v:=.int .i64 a4_1) BK101.out 1 rfl;have hcz83_2:=blk_c (v:=.int .i64 a4_2) BK101.out 2 rfl;have hcz83_3:=blk_c (v:=.string a4_3) BK101.out 3 rfl;have hcz83_4:=blk_c (v:=.int .i64 a4_4) BK101.out 4 rfl;have hcz83_5:=blk_c (v:=.int .i64 a4_5) BK101.out 5 rfl;have hcz83_6:=blk_c (v:=.int .i64 a4_6) BK101.out 6 rfl;have hfz83_0:=blk_frozen BK101.out 0;have hfz83_1:=blk_frozen BK101.out 1;have hfz83_2:=blk_frozen BK101.out 2;have hfz83_3:=blk_frozen BK101.out 3;have hfz83_4:=blk_frozen BK101.out 4;have hfz83_5:=blk_frozen BK101.out 5;have hfz83_6:=blk_frozen BK101.out 6;try go_wp2_with (first|((with_reducible refine gate_callee (f:=24) rfl ?_);refine goesL_ (some 100) rfl rfl Try.func24 (by kernel_rfl) rfl #[.slice A3 l3.length c3,.int .i64 a4_0] rfl ln_ ?_;(with_reducible refine (changeforgeref5_Has.calls kj55 _ _ l3 a4_0 true _ ?side1 ?side2 A74.out).mono ?_);(case side1 => first|exact (Kd.C_below HR3.out HB.out)|exact Kd.C_mv (Kd.C_below HR3.out HB.out));(case side2 => exact HC3.out);rintro e w' ⟨rfl,⟨nd,rfl⟩⟩;refine ⟨_,rfl,?_⟩;(try (rw [drewN_self w80];generalize hq_ : World.drewN w80 _ = w80;have n0_ : Aside0 (w80.heap[gb101]? = some (.cells #[.int .i64 a4_0,.int .i64 a4_1,.int .i64 a4_2,.string a4_3,.int .i64 a4_4,.int .i64 a4_5,.int .i64 a4_6] 23 (0,0))):=⟨by rw [← hq_];exact (blk_mv BK101.out)⟩;have n1_ : Aside0 (w80.heap[gb102]? = some (.cells #[.int .i64 x103000_2,.int .i64 x103001_2] 26 (0,0))):=⟨by rw [← hq_];exact (blk_mv BK102.out)⟩;have n2_ : Aside0 (w80.heap[gb105]? = some (.cells #[.int .i64 t103,.int .i64 t104] 26 (0,0))):=⟨by rw [← hq_];exact (blk_mv BK105.out)⟩;have n3_ : Aside0 (Below w.heap.size w w80):=⟨by rw [← hq_];exact bel_⟩;clear BK101 BK102 BK105 HB hq_;have BK101:=n0_;have BK102:=n1_;have BK105:=n2_;have HB:=n3_;clear n0_ n1_ n2_ n3_));(try (have hcz83_0:=blk_c (v:=.int .i64 a4_0) BK101.out 0 rfl));(try (have hcz83_1:=blk_c (v:=.int .i64 a4_1) BK101.out 1 rfl));(try (have hcz83_2:=blk_c (v:=.int .i64 a4_2) BK101.out 2 rfl));(try (have hcz83_3:=blk_c (v:=.string a4_3) BK101.out 3 rfl));(try (have hcz83_4:=blk_c (v:=.int .i64 a4_4) BK101.out 4 rfl));(try (have hcz83_5:=blk_c (v:=.int .i64 a4_5) BK101.out 5 rfl));(try (have hcz83_6:=blk_c (v:=.int .i64 a4_6) BK101.out 6 rfl));(try (have hfz83_0:=blk_frozen BK101.out 0));(try (have hfz83_1:=blk_frozen BK101.out 1));(try (have hfz83_2:=blk_frozen BK101.out 2));(try (have hfz83_3:=blk_frozen BK101.out 3));(try (have hfz83_4:=blk_frozen BK101.out 4));(try (have hfz83_5:=blk_frozen BK101.out 5));(try (have hfz83_6:=blk_frozen BK101.out 6)))|((with_reducible refine gate_callee (f:=35) rfl ?_);refine goesL_ (some 101) rfl rfl Try.func35 (by kernel_rfl) rfl #[.int .i64 7,.int .i64 0] rfl ln_ ?_;(with_reducible refine (changeforgeref5_fault.calls 7 0 t133 t134 _ A76.out).mono ?_);rintro e w84 ⟨rfl,hb⟩;refine ⟨_,rfl,?_⟩;replace BK101:=Aside0.mk (blk_below (blk_mv BK101.out) hb);replace BK102:=Aside0.mk (blk_below (blk_mv BK102.out) hb);replace BK105:=Aside0.mk (blk_below (blk_mv BK105.out) hb);replace HB:=Aside0.mk (below_step bel_ hb);(try clear hb);(try clear hb2);(try clear hk);(try clear hi);have hnb85:=NB102_105.out;have hnc85:=NB105_102.out;have hcz86_0:=blk_c (v:=.int .i64 x103000_2) BK102.out 0 rfl;have hcz86_1:=blk_c (v:=.int .i64 x103001_2) BK102.out 1 rfl;have hfz86_0:=blk_frozen BK102.out 0;have hfz86_1:=blk_frozen BK102.out 1))
                 refine bodyPost_ret (results_cell_row rfl _ _ gb102 26 #[.int .i64 t133,.int .i64 t134] (0,0) _ rfl (by refine blk_mv ?_;refine blk_put (cs:=#[.int .i64 t133,.int .i64 x103001_2]) ?_ 1 _ rfl;refine blk_mv ?_;refine blk_put (cs:=#[.int .i64 x103000_2,.int .i64 x103001_2]) ?_ 0 _ rfl;refine blk_mv ?_;exact BK102.out) Try.underlying26 rfl (by kernel_rfl)) rfl ?_;exact ⟨by first|rfl|(simp [errW_none,errW_some] <;> rfl)|(simp [*,errW_none,errW_some] <;> rfl),bel_⟩
                ·replace c75:=Bool.eq_false_iff.mpr c75
                 subst c75;have H1 : (if (l3.length : Int) = 40 then ((changeforgeref5_fault.f 14 0).bind fun bt135 => (some (bt135.1,bt135.2))) else (some (0,0))) = some (r1,r2):=by rw [if_neg (show ¬ (false = true) by decide)] at H;exact H
                 clear H;have H:=H1;clear H1;by_cases c87 : (l3.length : Int) = 40
                 ·rw [if_pos c87] at H
                  have c87b0 : ((l3.length : Int) == 40) = true:=beq_iff_eq.mpr c87;have c87b1 : ((l3.length : Int) != 40) = false:=bne_eq_false_iff_eq.mpr c87;clear c87;replace H:=Option.bind_eq_some_iff.mp H;obtain ⟨⟨t135,t136⟩,A880,H⟩:=H;replace H : (some (t135,t136)) = some (r1,r2):=H;have A88:=Aside0.mk A880;clear A880;simp only [Option.some.injEq,Prod.mk.injEq] at H;obtain ⟨rfl,rfl⟩:=H;try go_wp2
                  replace BK101:=Aside0.mk (blk_drew BK101.out);replace BK102:=Aside0.mk (blk_drew BK102.out);replace BK105:=Aside0.mk (blk_drew BK105.out);replace HB:=Aside0.mk (below_drew1 HB.out);refine start_ (n:=7) (S:=fun w' => w'.cell? ⟨gb101,0,none⟩ = some (.int .i64 a4_0) ∧ w'.cell? ⟨gb101,1,none⟩ = some (.int .i64 a4_1) ∧ w'.cell? ⟨gb101,2,none⟩ = some (.int .i64 a4_2) ∧ w'.cell? ⟨gb101,3,none⟩ = some (.string a4_3) ∧ w'.cell? ⟨gb101,4,none⟩ = some (.int .i64 a4_4) ∧ w'.cell? ⟨gb101,5,none⟩ = some (.int .i64 a4_5) ∧ w'.cell? ⟨gb101,6,none⟩ = some (.int .i64 a4_6)) (ds:=[]) (bl_ 7 0) (by kernel_rfl) rfl rfl ⟨(blk_cell BK101.out 0).trans rfl,(blk_cell BK101.out 1).trans rfl,(blk_cell BK101.out 2).trans rfl,(blk_cell BK101.out 3).trans rfl,(blk_cell BK101.out 4).trans rfl,(blk_cell BK101.out 5).trans rfl,(blk_cell BK101.out 6).trans rfl⟩ (fun hHeld => ?_);generalize wc.drew = w89 at BK101 BK102 BK105 HB hHeld ⊢;refine pure_ (i:=0) (N:=some 83) (v:=?_) (a':=?_) (bl_ 7 1) rfl rfl (by kernel_rfl) (fun _ _ _ h => h) (Or.inl ⟨by rfl,?_⟩) ?_ ?_;rotate_left
                  ·intro w'
                   go_simp;with_reducible rfl
                  rotate_left
                  ·simp only [Act.put,sa_,sb_,sc_,i64_w,i32_w]
                   rfl
                  refine pure_ (i:=2) (N:=some 85) (v:=?_) (a':=?_) (bl_ 7 5) rfl rfl (by kernel_rfl) (fun _ _ _ h => h) (Or.inl ⟨by rfl,?_⟩) ?_ ?_;rotate_left
                  ·intro w'
                   go_simp;with_reducible rfl
                  rotate_left
                  ·simp only [Act.put,sa_,sb_,sc_,i64_w,i32_w]
                   rfl
                  refine pure_ (i:=3) (N:=some 86) (v:=?_) (a':=?_) (bl_ 7 13) rfl rfl (by kernel_rfl) (fun _ _ _ h => h) (Or.inl ⟨by rfl,?_⟩) ?_ ?_;rotate_left
                  ·intro w'
                   go_simp;with_reducible rfl
                  rotate_left
                  ·simp only [Act.put,sa_,sb_,sc_,i64_w,i32_w]
                   rfl
                  refine take_ (i:=1) (N:=some 84) (v:=?_) (a':=?_) (bl_ 7 15) rfl rfl (by kernel_rfl) (fun _ _ _ h => h) (Or.inl ⟨by rfl,?_⟩) hHeld ?_ ?_;rotate_left
                  ·rintro w' ⟨s0,s1,s2,s3,s4,s5,s6⟩
                   go_simp;with_reducible rfl
                  rotate_left
                  ·simp only [Act.put,sa_,sb_,sc_,i64_w,i32_w]
                   rfl
                  refine take_ (i:=4) (N:=some 87) (v:=?_) (a':=?_) (bl_ 7 31) rfl rfl (by kernel_rfl) (fun _ _ _ h => h) (Or.inl ⟨by rfl,?_⟩) hHeld ?_ ?_;rotate_left
                  ·rintro w' ⟨s0,s1,s2,s3,s4,s5,s6⟩
                   go_simp;with_reducible rfl
                  rotate_left
                  ·simp only [Act.put,sa_,sb_,sc_,i64_w,i32_w]
                   rfl
                  refine one_ (i:=5) (N:=some 88) (bl_ 7 63) rfl rfl (by kernel_rfl) (by decide) (fun K hK => ?_);refine goes_ Try.func14 (by kernel_rfl) rfl #[.int .i64 a0,.int .i64 a4_1] (by rfl) rfl rfl ln_ ?_;with_reducible refine (changeforgeref5_Nonce.calls kj55 a0 a4_1 t126 _ A70.out).mono ?_
                  rintro e w90 ⟨rfl,hb⟩;refine ⟨_,rfl,?_⟩;replace BK101:=Aside0.mk (blk_below (blk_mv BK101.out) hb);replace BK102:=Aside0.mk (blk_below (blk_mv BK102.out) hb);replace BK105:=Aside0.mk (blk_below (blk_mv BK105.out) hb);replace HB:=Aside0.mk (below_step bel_ hb);(try clear hb);refine hK.out _ _ ⟨(blk_cell BK101.out 0).trans rfl,(blk_cell BK101.out 1).trans rfl,(blk_cell BK101.out 2).trans rfl,(blk_cell BK101.out 3).trans rfl,(blk_cell BK101.out 4).trans rfl,(blk_cell BK101.out 5).trans rfl,(blk_cell BK101.out 6).trans rfl⟩ (fun hHeld => ?_);clear hK K;refine norm_ (a':=?_) ?_ ?_;rotate_left
                  ·show Act.put _ (some 88) _ = _
                   simp only [Act.put,sa_,sb_,sc_,i64_w,i32_w];rfl
                  refine pure_ (i:=6) (N:=some 89) (v:=?_) (a':=?_) (bl_ 7 127) rfl rfl (by kernel_rfl) (fun _ _ _ h => h) (Or.inl ⟨by rfl,?_⟩) ?_ ?_;rotate_left
                  ·intro w'
                   go_simp;with_reducible rfl
                  rotate_left
                  ·simp only [Act.put,sa_,sb_,sc_,i64_w,i32_w]
                   rfl
                  refine done_ (by kernel_rfl) ?_;try go_wp2
                  replace BK101:=Aside0.mk (blk_drew BK101.out);replace BK102:=Aside0.mk (blk_drew BK102.out);replace BK105:=Aside0.mk (blk_drew BK105.out);replace HB:=Aside0.mk (below_drew1 HB.out);refine start_ (n:=5) (S:=fun w' => w'.cell? ⟨gb101,0,none⟩ = some (.int .i64 a4_0) ∧ w'.cell? ⟨gb101,1,none⟩ = some (.int .i64 a4_1) ∧ w'.cell? ⟨gb101,2,none⟩ = some (.int .i64 a4_2) ∧ w'.cell? ⟨gb101,3,none⟩ = some (.string a4_3) ∧ w'.cell? ⟨gb101,4,none⟩ = some (.int .i64 a4_4) ∧ w'.cell? ⟨gb101,5,none⟩ = some (.int .i64 a4_5) ∧ w'.cell? ⟨gb101,6,none⟩ = some (.int .i64 a4_6)) (ds:=[]) #[false,false,false,false,false] (by kernel_rfl) rfl rfl ⟨(blk_cell BK101.out 0).trans rfl,(blk_cell BK101.out 1).trans rfl,(blk_cell BK101.out 2).trans rfl,(blk_cell BK101.out 3).trans rfl,(blk_cell BK101.out 4).trans rfl,(blk_cell BK101.out 5).trans rfl,(blk_cell BK101.out 6).trans rfl⟩ (fun hHeld => ?_);generalize w90.drew = w91 at BK101 BK102 BK105 HB hHeld ⊢;refine pure_ (i:=0) (N:=some 91) (v:=?_) (a':=?_) #[true,false,false,false,false] rfl rfl (by kernel_rfl) (fun _ _ _ h => h) (Or.inl ⟨by rfl,?_⟩) ?_ ?_;rotate_left
                  ·intro w'
                   go_simp;with_reducible rfl
                  rotate_left
                  ·simp only [Act.put,sa_,sb_,sc_,i64_w,i32_w]
                   rfl
                  refine take_ (i:=1) (N:=some 92) (v:=?_) (a':=?_) #[true,true,false,false,false] rfl rfl (by kernel_rfl) (fun _ _ _ h => h) (Or.inl ⟨by rfl,?_⟩) hHeld ?_ ?_;rotate_left
                  ·rintro w' ⟨s0,s1,s2,s3,s4,s5,s6⟩
                   go_simp;with_reducible rfl
                  rotate_left
                  ·simp only [Act.put,sa_,sb_,sc_,i64_w,i32_w]
                   rfl
                  refine take_ (i:=2) (N:=some 93) (v:=?_) (a':=?_) #[true,true,true,false,false] rfl rfl (by kernel_rfl) (fun _ _ _ h => h) (Or.inl ⟨by rfl,?_⟩) hHeld ?_ ?_;rotate_left
                  ·rintro w' ⟨s0,s1,s2,s3,s4,s5,s6⟩
                   go_simp;with_reducible rfl
                  rotate_left
                  ·simp only [Act.put,sa_,sb_,sc_,i64_w,i32_w]
                   rfl
                  refine one_ (i:=3) (N:=some 94) #[true,true,true,true,false] rfl rfl (by kernel_rfl) (by decide) (fun K hK => ?_);refine goes_ Try.func18 (by kernel_rfl) rfl #[.agg #[.int .i64 a4_0,.int .i64 a4_1,.int .i64 a4_2,.string a4_3,.int .i64 a4_4,.int .i64 a4_5,.int .i64 a4_6]] (by rfl) rfl rfl ln_ ?_;with_reducible refine (changeforgeref5_CertSignature.calls kj55 a4_0 a4_1 a4_2 a4_3 a4_4 a4_5 a4_6 t129 _ A72.out).mono ?_
                  rintro e w92 ⟨rfl,hb⟩;refine ⟨_,rfl,?_⟩;replace BK101:=Aside0.mk (blk_below (blk_mv BK101.out) hb);replace BK102:=Aside0.mk (blk_below (blk_mv BK102.out) hb);replace BK105:=Aside0.mk (blk_below (blk_mv BK105.out) hb);replace HB:=Aside0.mk (below_step bel_ hb);(try clear hb);refine hK.out _ _ ⟨(blk_cell BK101.out 0).trans rfl,(blk_cell BK101.out 1).trans rfl,(blk_cell BK101.out 2).trans rfl,(blk_cell BK101.out 3).trans rfl,(blk_cell BK101.out 4).trans rfl,(blk_cell BK101.out 5).trans rfl,(blk_cell BK101.out 6).trans rfl⟩ (fun hHeld => ?_);clear hK K;refine norm_ (a':=?_) ?_ ?_;rotate_left
                  ·show Act.put _ (some 94) _ = _
                   simp only [Act.put,sa_,sb_,sc_,i64_w,i32_w];rfl
                  refine pure_ (i:=4) (N:=some 95) (v:=?_) (a':=?_) #[true,true,true,true,true] rfl rfl (by kernel_rfl) (fun _ _ _ h => h) (Or.inl ⟨by rfl,?_⟩) ?_ ?_;rotate_left
                  ·intro w'
                   go_simp;with_reducible rfl
                  rotate_left
                  ·simp only [Act.put,sa_,sb_,sc_,i64_w,i32_w]
                   rfl
                  refine done_ (by kernel_rfl) ?_;have hnb93:=NB101_102.out;have hnc93:=NB102_101.out;have hnb94:=NB101_105.out;have hnc94:=NB105_101.out;have hcz95_0:=blk_c (v:=.int .i64 a4_0) BK101.out 0 rfl;have hcz95_1:=blk_c (v:=.int .i64 a4_1) BK101.out 1 rfl;have hcz95_2:=blk_c (v:=.int .i64 a4_2) BK101.out 2 rfl;have hcz95_3:=blk_c (v:=.string a4_3) BK101.out 3 rfl;have hcz95_4:=blk_c (v:=.int .i64 a4_4) BK101.out 4 rfl;have hcz95_5:=blk_c (v:=.int .i64 a4_5) BK101.out 5 rfl;have hcz95_6:=blk_c (v:=.int .i64 a4_6) BK101.out 6 rfl;have hfz95_0:=blk_frozen BK101.out 0;have hfz95_1:=blk_frozen BK101.out 1;have hfz95_2:=blk_frozen BK101.out 2;have hfz95_3:=blk_frozen BK101.out 3;have hfz95_4:=blk_frozen BK101.out 4;have hfz95_5:=blk_frozen BK101.out 5;have hfz95_6:=blk_frozen BK101.out 6;try go_wp2_with (first|((with_reducible refine gate_callee (f:=24) rfl ?_);refine goesL_ (some 100) rfl rfl Try.func24 (by kernel_rfl) rfl #[.slice A3 l3.length c3,.int .i64 a4_0] rfl ln_ ?_;(with_reducible refine (changeforgeref5_Has.calls kj55 _ _ l3 a4_0 false _ ?side1 ?side2 A74.out).mono ?_);(case side1 => first|exact (Kd.C_below HR3.out HB.out)|exact Kd.C_mv (Kd.C_below HR3.out HB.out));(case side2 => exact HC3.out);rintro e w' ⟨rfl,⟨nd,rfl⟩⟩;refine ⟨_,rfl,?_⟩;(try (rw [drewN_self w92];generalize hq_ : World.drewN w92 _ = w92;have n0_ : Aside0 (w92.heap[gb101]? = some (.cells #[.int .i64 a4_0,.int .i64 a4_1,.int .i64 a4_2,.string a4_3,.int .i64 a4_4,.int .i64 a4_5,.int .i64 a4_6] 23 (0,0))):=⟨by rw [← hq_];exact (blk_mv BK101.out)⟩;have n1_ : Aside0 (w92.heap[gb102]? = some (.cells #[.int .i64 x103000_2,.int .i64 x103001_2] 26 (0,0))):=⟨by rw [← hq_];exact (blk_mv BK102.out)⟩;have n2_ : Aside0 (w92.heap[gb105]? = some (.cells #[.int .i64 t103,.int .i64 t104] 26 (0,0))):=⟨by rw [← hq_];exact (blk_mv BK105.out)⟩;have n3_ : Aside0 (Below w.heap.size w w92):=⟨by rw [← hq_];exact bel_⟩;clear BK101 BK102 BK105 HB hq_;have BK101:=n0_;have BK102:=n1_;have BK105:=n2_;have HB:=n3_;clear n0_ n1_ n2_ n3_));(try (have hcz95_0:=blk_c (v:=.int .i64 a4_0) BK101.out 0 rfl));(try (have hcz95_1:=blk_c (v:=.int .i64 a4_1) BK101.out 1 rfl));(try (have hcz95_2:=blk_c (v:=.int .i64 a4_2) BK101.out 2 rfl));(try (have hcz95_3:=blk_c (v:=.string a4_3) BK101.out 3 rfl));(try (have hcz95_4:=blk_c (v:=.int .i64 a4_4) BK101.out 4 rfl));(try (have hcz95_5:=blk_c (v:=.int .i64 a4_5) BK101.out 5 rfl));(try (have hcz95_6:=blk_c (v:=.int .i64 a4_6) BK101.out 6 rfl));(try (have hfz95_0:=blk_frozen BK101.out 0));(try (have hfz95_1:=blk_frozen BK101.out 1));(try (have hfz95_2:=blk_frozen BK101.out 2));(try (have hfz95_3:=blk_frozen BK101.out 3));(try (have hfz95_4:=blk_frozen BK101.out 4));(try (have hfz95_5:=blk_frozen BK101.out 5));(try (have hfz95_6:=blk_frozen BK101.out 6)))|((with_reducible refine gate_callee (f:=35) rfl ?_);refine goesL_ (some 105) rfl rfl Try.func35 (by kernel_rfl) rfl #[.int .i64 14,.int .i64 0] rfl ln_ ?_;(with_reducible refine (changeforgeref5_fault.calls 14 0 t135 t136 _ A88.out).mono ?_);rintro e w96 ⟨rfl,hb⟩;refine ⟨_,rfl,?_⟩;replace BK101:=Aside0.mk (blk_below (blk_mv BK101.out) hb);replace BK102:=Aside0.mk (blk_below (blk_mv BK102.out) hb);replace BK105:=Aside0.mk (blk_below (blk_mv BK105.out) hb);replace HB:=Aside0.mk (below_step bel_ hb);(try clear hb);(try clear hb2);(try clear hk);(try clear hi);have hnb97:=NB102_105.out;have hnc97:=NB105_102.out;have hcz98_0:=blk_c (v:=.int .i64 x103000_2) BK102.out 0 rfl;have hcz98_1:=blk_c (v:=.int .i64 x103001_2) BK102.out 1 rfl;have hfz98_0:=blk_frozen BK102.out 0;have hfz98_1:=blk_frozen BK102.out 1))
                  refine bodyPost_ret (results_cell_row rfl _ _ gb102 26 #[.int .i64 t135,.int .i64 t136] (0,0) _ rfl (by refine blk_mv ?_;refine blk_put (cs:=#[.int .i64 t135,.int .i64 x103001_2]) ?_ 1 _ rfl;refine blk_mv ?_;refine blk_put (cs:=#[.int .i64 x103000_2,.int .i64 x103001_2]) ?_ 0 _ rfl;refine blk_mv ?_;exact BK102.out) Try.underlying26 rfl (by kernel_rfl)) rfl ?_;exact ⟨by first|rfl|(simp [errW_none,errW_some] <;> rfl)|(simp [*,errW_none,errW_some] <;> rfl),bel_⟩
                 ·rw [if_neg c87] at H
                  have c87b0 : ((l3.length : Int) == 40) = false:=beq_eq_false_iff_ne.mpr c87;have c87b1 : ((l3.length : Int) != 40) = true:=bne_iff_ne.mpr c87;simp only [Option.some.injEq,Prod.mk.injEq] at H;obtain ⟨rfl,rfl⟩:=H;try go_wp2
                  replace BK101:=Aside0.mk (blk_drew BK101.out);replace BK102:=Aside0.mk (blk_drew BK102.out);replace BK105:=Aside0.mk (blk_drew BK105.out);replace HB:=Aside0.mk (below_drew1 HB.out);refine start_ (n:=7) (S:=fun w' => w'.cell? ⟨gb101,0,none⟩ = some (.int .i64 a4_0) ∧ w'.cell? ⟨gb101,1,none⟩ = some (.int .i64 a4_1) ∧ w'.cell? ⟨gb101,2,none⟩ = some (.int .i64 a4_2) ∧ w'.cell? ⟨gb101,3,none⟩ = some (.string a4_3) ∧ w'.cell? ⟨gb101,4,none⟩ = some (.int .i64 a4_4) ∧ w'.cell? ⟨gb101,5,none⟩ = some (.int .i64 a4_5) ∧ w'.cell? ⟨gb101,6,none⟩ = some (.int .i64 a4_6)) (ds:=[]) (bl_ 7 0) (by kernel_rfl) rfl rfl ⟨(blk_cell BK101.out 0).trans rfl,(blk_cell BK101.out 1).trans rfl,(blk_cell BK101.out 2).trans rfl,(blk_cell BK101.out 3).trans rfl,(blk_cell BK101.out 4).trans rfl,(blk_cell BK101.out 5).trans rfl,(blk_cell BK101.out 6).trans rfl⟩ (fun hHeld => ?_);generalize wc.drew = w99 at BK101 BK102 BK105 HB hHeld ⊢;refine pure_ (i:=0) (N:=some 83) (v:=?_) (a':=?_) (bl_ 7 1) rfl rfl (by kernel_rfl) (fun _ _ _ h => h) (Or.inl ⟨by rfl,?_⟩) ?_ ?_;rotate_left
                  ·intro w'
                   go_simp;with_reducible rfl
                  rotate_left
                  ·simp only [Act.put,sa_,sb_,sc_,i64_w,i32_w]
                   rfl
                  refine pure_ (i:=2) (N:=some 85) (v:=?_) (a':=?_) (bl_ 7 5) rfl rfl (by kernel_rfl) (fun _ _ _ h => h) (Or.inl ⟨by rfl,?_⟩) ?_ ?_;rotate_left
                  ·intro w'
                   go_simp;with_reducible rfl
                  rotate_left
                  ·simp only [Act.put,sa_,sb_,sc_,i64_w,i32_w]
                   rfl
                  refine pure_ (i:=3) (N:=some 86) (v:=?_) (a':=?_) (bl_ 7 13) rfl rfl (by kernel_rfl) (fun _ _ _ h => h) (Or.inl ⟨by rfl,?_⟩) ?_ ?_;rotate_left
                  ·intro w'
                   go_simp;with_reducible rfl
                  rotate_left
                  ·simp only [Act.put,sa_,sb_,sc_,i64_w,i32_w]
                   rfl
                  refine take_ (i:=1) (N:=some 84) (v:=?_) (a':=?_) (bl_ 7 15) rfl rfl (by kernel_rfl) (fun _ _ _ h => h) (Or.inl ⟨by rfl,?_⟩) hHeld ?_ ?_;rotate_left
                  ·rintro w' ⟨s0,s1,s2,s3,s4,s5,s6⟩
                   go_simp;with_reducible rfl
                  rotate_left
                  ·simp only [Act.put,sa_,sb_,sc_,i64_w,i32_w]
                   rfl
                  refine take_ (i:=4) (N:=some 87) (v:=?_) (a':=?_) (bl_ 7 31) rfl rfl (by kernel_rfl) (fun _ _ _ h => h) (Or.inl ⟨by rfl,?_⟩) hHeld ?_ ?_;rotate_left
                  ·rintro w' ⟨s0,s1,s2,s3,s4,s5,s6⟩
                   go_simp;with_reducible rfl
                  rotate_left
                  ·simp only [Act.put,sa_,sb_,sc_,i64_w,i32_w]
                   rfl
                  refine one_ (i:=5) (N:=some 88) (bl_ 7 63) rfl rfl (by kernel_rfl) (by decide) (fun K hK => ?_);refine goes_ Try.func14 (by kernel_rfl) rfl #[.int .i64 a0,.int .i64 a4_1] (by rfl) rfl rfl ln_ ?_;with_reducible refine (changeforgeref5_Nonce.calls kj55 a0 a4_1 t126 _ A70.out).mono ?_
                  rintro e w100 ⟨rfl,hb⟩;refine ⟨_,rfl,?_⟩;replace BK101:=Aside0.mk (blk_below (blk_mv BK101.out) hb);replace BK102:=Aside0.mk (blk_below (blk_mv BK102.out) hb);replace BK105:=Aside0.mk (blk_below (blk_mv BK105.out) hb);replace HB:=Aside0.mk (below_step bel_ hb);(try clear hb);refine hK.out _ _ ⟨(blk_cell BK101.out 0).trans rfl,(blk_cell BK101.out 1).trans rfl,(blk_cell BK101.out 2).trans rfl,(blk_cell BK101.out 3).trans rfl,(blk_cell BK101.out 4).trans rfl,(blk_cell BK101.out 5).trans rfl,(blk_cell BK101.out 6).trans rfl⟩ (fun hHeld => ?_);clear hK K;refine norm_ (a':=?_) ?_ ?_;rotate_left
                  ·show Act.put _ (some 88) _ = _
                   simp only [Act.put,sa_,sb_,sc_,i64_w,i32_w];rfl
                  refine pure_ (i:=6) (N:=some 89) (v:=?_) (a':=?_) (bl_ 7 127) rfl rfl (by kernel_rfl) (fun _ _ _ h => h) (Or.inl ⟨by rfl,?_⟩) ?_ ?_;rotate_left
                  ·intro w'
                   go_simp;with_reducible rfl
                  rotate_left
                  ·simp only [Act.put,sa_,sb_,sc_,i64_w,i32_w]
                   rfl
                  refine done_ (by kernel_rfl) ?_;try go_wp2
                  replace BK101:=Aside0.mk (blk_drew BK101.out);replace BK102:=Aside0.mk (blk_drew BK102.out);replace BK105:=Aside0.mk (blk_drew BK105.out);replace HB:=Aside0.mk (below_drew1 HB.out);refine start_ (n:=5) (S:=fun w' => w'.cell? ⟨gb101,0,none⟩ = some (.int .i64 a4_0) ∧ w'.cell? ⟨gb101,1,none⟩ = some (.int .i64 a4_1) ∧ w'.cell? ⟨gb101,2,none⟩ = some (.int .i64 a4_2) ∧ w'.cell? ⟨gb101,3,none⟩ = some (.string a4_3) ∧ w'.cell? ⟨gb101,4,none⟩ = some (.int .i64 a4_4) ∧ w'.cell? ⟨gb101,5,none⟩ = some (.int .i64 a4_5) ∧ w'.cell? ⟨gb101,6,none⟩ = some (.int .i64 a4_6)) (ds:=[]) #[false,false,false,false,false] (by kernel_rfl) rfl rfl ⟨(blk_cell BK101.out 0).trans rfl,(blk_cell BK101.out 1).trans rfl,(blk_cell BK101.out 2).trans rfl,(blk_cell BK101.out 3).trans rfl,(blk_cell BK101.out 4).trans rfl,(blk_cell BK101.out 5).trans rfl,(blk_cell BK101.out 6).trans rfl⟩ (fun hHeld => ?_);generalize w100.drew = w101 at BK101 BK102 BK105 HB hHeld ⊢;refine pure_ (i:=0) (N:=some 91) (v:=?_) (a':=?_) #[true,false,false,false,false] rfl rfl (by kernel_rfl) (fun _ _ _ h => h) (Or.inl ⟨by rfl,?_⟩) ?_ ?_;rotate_left
                  ·intro w'
                   go_simp;with_reducible rfl
                  rotate_left
                  ·simp only [Act.put,sa_,sb_,sc_,i64_w,i32_w]
                   rfl
                  refine take_ (i:=1) (N:=some 92) (v:=?_) (a':=?_) #[true,true,false,false,false] rfl rfl (by kernel_rfl) (fun _ _ _ h => h) (Or.inl ⟨by rfl,?_⟩) hHeld ?_ ?_;rotate_left
                  ·rintro w' ⟨s0,s1,s2,s3,s4,s5,s6⟩
                   go_simp;with_reducible rfl
                  rotate_left
                  ·simp only [Act.put,sa_,sb_,sc_,i64_w,i32_w]
                   rfl
                  refine take_ (i:=2) (N:=some 93) (v:=?_) (a':=?_) #[true,true,true,false,false] rfl rfl (by kernel_rfl) (fun _ _ _ h => h) (Or.inl ⟨by rfl,?_⟩) hHeld ?_ ?_;rotate_left
                  ·rintro w' ⟨s0,s1,s2,s3,s4,s5,s6⟩
                   go_simp;with_reducible rfl
                  rotate_left
                  ·simp only [Act.put,sa_,sb_,sc_,i64_w,i32_w]
                   rfl
                  refine one_ (i:=3) (N:=some 94) #[true,true,true,true,false] rfl rfl (by kernel_rfl) (by decide) (fun K hK => ?_);refine goes_ Try.func18 (by kernel_rfl) rfl #[.agg #[.int .i64 a4_0,.int .i64 a4_1,.int .i64 a4_2,.string a4_3,.int .i64 a4_4,.int .i64 a4_5,.int .i64 a4_6]] (by rfl) rfl rfl ln_ ?_;with_reducible refine (changeforgeref5_CertSignature.calls kj55 a4_0 a4_1 a4_2 a4_3 a4_4 a4_5 a4_6 t129 _ A72.out).mono ?_
                  rintro e w102 ⟨rfl,hb⟩;refine ⟨_,rfl,?_⟩;replace BK101:=Aside0.mk (blk_below (blk_mv BK101.out) hb);replace BK102:=Aside0.mk (blk_below (blk_mv BK102.out) hb);replace BK105:=Aside0.mk (blk_below (blk_mv BK105.out) hb);replace HB:=Aside0.mk (below_step bel_ hb);(try clear hb);refine hK.out _ _ ⟨(blk_cell BK101.out 0).trans rfl,(blk_cell BK101.out 1).trans rfl,(blk_cell BK101.out 2).trans rfl,(blk_cell BK101.out 3).trans rfl,(blk_cell BK101.out 4).trans rfl,(blk_cell BK101.out 5).trans rfl,(blk_cell BK101.out 6).trans rfl⟩ (fun hHeld => ?_);clear hK K;refine norm_ (a':=?_) ?_ ?_;rotate_left
                  ·show Act.put _ (some 94) _ = _
                   simp only [Act.put,sa_,sb_,sc_,i64_w,i32_w];rfl
                  refine pure_ (i:=4) (N:=some 95) (v:=?_) (a':=?_) #[true,true,true,true,true] rfl rfl (by kernel_rfl) (fun _ _ _ h => h) (Or.inl ⟨by rfl,?_⟩) ?_ ?_;rotate_left
                  ·intro w'
                   go_simp;with_reducible rfl
                  rotate_left
                  ·simp only [Act.put,sa_,sb_,sc_,i64_w,i32_w]
                   rfl
                  refine done_ (by kernel_rfl) ?_;have hnb103:=NB101_102.out;have hnc103:=NB102_101.out;have hnb104:=NB101_105.out;have hnc104:=NB105_101.out;have hcz105_0:=blk_c (v:=.int .i64 a4_0) BK101.out 0 rfl;have hcz105_1:=blk_c (v:=.int .i64 a4_1) BK101.out 1 rfl;have hcz105_2:=blk_c (v:=.int .i64 a4_2) BK101.out 2 rfl;have hcz105_3:=blk_c (v:=.string a4_3) BK101.out 3 rfl;have hcz105_4:=blk_c (v:=.int .i64 a4_4) BK101.out 4 rfl;have hcz105_5:=blk_c (v:=.int .i64 a4_5) BK101.out 5 rfl;have hcz105_6:=blk_c (v:=.int .i64 a4_6) BK101.out 6 rfl;have hfz105_0:=blk_frozen BK101.out 0;have hfz105_1:=blk_frozen BK101.out 1;have hfz105_2:=blk_frozen BK101.out 2;have hfz105_3:=blk_frozen BK101.out 3;have hfz105_4:=blk_frozen BK101.out 4;have hfz105_5:=blk_frozen BK101.out 5;have hfz105_6:=blk_frozen BK101.out 6;try go_wp2_with (first|((with_reducible refine gate_callee (f:=24) rfl ?_);refine goesL_ (some 100) rfl rfl Try.func24 (by kernel_rfl) rfl #[.slice A3 l3.length c3,.int .i64 a4_0] rfl ln_ ?_;(with_reducible refine (changeforgeref5_Has.calls kj55 _ _ l3 a4_0 false _ ?side1 ?side2 A74.out).mono ?_);(case side1 => first|exact (Kd.C_below HR3.out HB.out)|exact Kd.C_mv (Kd.C_below HR3.out HB.out));(case side2 => exact HC3.out);rintro e w' ⟨rfl,⟨nd,rfl⟩⟩;refine ⟨_,rfl,?_⟩;(try (rw [drewN_self w102];generalize hq_ : World.drewN w102 _ = w102;have n0_ : Aside0 (w102.heap[gb101]? = some (.cells #[.int .i64 a4_0,.int .i64 a4_1,.int .i64 a4_2,.string a4_3,.int .i64 a4_4,.int .i64 a4_5,.int .i64 a4_6] 23 (0,0))):=⟨by rw [← hq_];exact (blk_mv BK101.out)⟩;have n1_ : Aside0 (w102.heap[gb102]? = some (.cells #[.int .i64 x103000_2,.int .i64 x103001_2] 26 (0,0))):=⟨by rw [← hq_];exact (blk_mv BK102.out)⟩;have n2_ : Aside0 (w102.heap[gb105]? = some (.cells #[.int .i64 t103,.int .i64 t104] 26 (0,0))):=⟨by rw [← hq_];exact (blk_mv BK105.out)⟩;have n3_ : Aside0 (Below w.heap.size w w102):=⟨by rw [← hq_];exact bel_⟩;clear BK101 BK102 BK105 HB hq_;have BK101:=n0_;have BK102:=n1_;have BK105:=n2_;have HB:=n3_;clear n0_ n1_ n2_ n3_));(try (have hcz105_0:=blk_c (v:=.int .i64 a4_0) BK101.out 0 rfl));(try (have hcz105_1:=blk_c (v:=.int .i64 a4_1) BK101.out 1 rfl));(try (have hcz105_2:=blk_c (v:=.int .i64 a4_2) BK101.out 2 rfl));(try (have hcz105_3:=blk_c (v:=.string a4_3) BK101.out 3 rfl));(try (have hcz105_4:=blk_c (v:=.int .i64 a4_4) BK101.out 4 rfl));(try (have hcz105_5:=blk_c (v:=.int .i64 a4_5) BK101.out 5 rfl));(try (have hcz105_6:=blk_c (v:=.int .i64 a4_6) BK101.out 6 rfl));(try (have hfz105_0:=blk_frozen BK101.out 0));(try (have hfz105_1:=blk_frozen BK101.out 1));(try (have hfz105_2:=blk_frozen BK101.out 2));(try (have hfz105_3:=blk_frozen BK101.out 3));(try (have hfz105_4:=blk_frozen BK101.out 4));(try (have hfz105_5:=blk_frozen BK101.out 5));(try (have hfz105_6:=blk_frozen BK101.out 6));have hnb106:=NB102_105.out;have hnc106:=NB105_102.out;have hcz107_0:=blk_c (v:=.int .i64 x103000_2) BK102.out 0 rfl;have hcz107_1:=blk_c (v:=.int .i64 x103001_2) BK102.out 1 rfl;have hfz107_0:=blk_frozen BK102.out 0;have hfz107_1:=blk_frozen BK102.out 1))
                  refine bodyPost_ret (results_cell_row rfl _ _ gb102 26 #[.int .i64 0,.int .i64 0] (0,0) _ rfl (by refine blk_mv ?_;refine blk_put (cs:=#[.int .i64 0,.int .i64 x103001_2]) ?_ 1 _ rfl;refine blk_mv ?_;refine blk_put (cs:=#[.int .i64 x103000_2,.int .i64 x103001_2]) ?_ 0 _ rfl;refine blk_mv ?_;exact BK102.out) Try.underlying26 rfl (by kernel_rfl)) rfl ?_;exact ⟨by first|rfl|(simp [errW_none,errW_some] <;> rfl)|(simp [*,errW_none,errW_some] <;> rfl),bel_⟩
               ·rw [if_neg c73] at H
                have c73b0 : (a4_6 == t129) = false:=beq_eq_false_iff_ne.mpr c73;have c73b1 : (a4_6 != t129) = true:=bne_iff_ne.mpr c73;replace H:=Option.bind_eq_some_iff.mp H;obtain ⟨⟨t130,t131⟩,A1080,H⟩:=H;replace H : (some (t130,t131)) = some (r1,r2):=H;have A108:=Aside0.mk A1080;clear A1080;simp only [Option.some.injEq,Prod.mk.injEq] at H;obtain ⟨rfl,rfl⟩:=H;try go_wp2
                replace BK101:=Aside0.mk (blk_drew BK101.out);replace BK102:=Aside0.mk (blk_drew BK102.out);replace BK105:=Aside0.mk (blk_drew BK105.out);replace HB:=Aside0.mk (below_drew1 HB.out);refine start_ (n:=7) (S:=fun w' => w'.cell? ⟨gb101,0,none⟩ = some (.int .i64 a4_0) ∧ w'.cell? ⟨gb101,1,none⟩ = some (.int .i64 a4_1) ∧ w'.cell? ⟨gb101,2,none⟩ = some (.int .i64 a4_2) ∧ w'.cell? ⟨gb101,3,none⟩ = some (.string a4_3) ∧ w'.cell? ⟨gb101,4,none⟩ = some (.int .i64 a4_4) ∧ w'.cell? ⟨gb101,5,none⟩ = some (.int .i64 a4_5) ∧ w'.cell? ⟨gb101,6,none⟩ = some (.int .i64 a4_6)) (ds:=[]) (bl_ 7 0) (by kernel_rfl) rfl rfl ⟨(blk_cell BK101.out 0).trans rfl,(blk_cell BK101.out 1).trans rfl,(blk_cell BK101.out 2).trans rfl,(blk_cell BK101.out 3).trans rfl,(blk_cell BK101.out 4).trans rfl,(blk_cell BK101.out 5).trans rfl,(blk_cell BK101.out 6).trans rfl⟩ (fun hHeld => ?_);generalize wc.drew = w109 at BK101 BK102 BK105 HB hHeld ⊢;refine pure_ (i:=0) (N:=some 83) (v:=?_) (a':=?_) (bl_ 7 1) rfl rfl (by kernel_rfl) (fun _ _ _ h => h) (Or.inl ⟨by rfl,?_⟩) ?_ ?_;rotate_left
                ·intro w'
                 go_simp;with_reducible rfl
                rotate_left
                ·simp only [Act.put,sa_,sb_,sc_,i64_w,i32_w]
                 rfl
                refine pure_ (i:=2) (N:=some 85) (v:=?_) (a':=?_) (bl_ 7 5) rfl rfl (by kernel_rfl) (fun _ _ _ h => h) (Or.inl ⟨by rfl,?_⟩) ?_ ?_;rotate_left
                ·intro w'
                 go_simp;with_reducible rfl
                rotate_left
                ·simp only [Act.put,sa_,sb_,sc_,i64_w,i32_w]
                 rfl
                refine pure_ (i:=3) (N:=some 86) (v:=?_) (a':=?_) (bl_ 7 13) rfl rfl (by kernel_rfl) (fun _ _ _ h => h) (Or.inl ⟨by rfl,?_⟩) ?_ ?_;rotate_left
                ·intro w'
                 go_simp;with_reducible rfl
                rotate_left
                ·simp only [Act.put,sa_,sb_,sc_,i64_w,i32_w]
                 rfl
                refine take_ (i:=1) (N:=some 84) (v:=?_) (a':=?_) (bl_ 7 15) rfl rfl (by kernel_rfl) (fun _ _ _ h => h) (Or.inl ⟨by rfl,?_⟩) hHeld ?_ ?_;rotate_left
                ·rintro w' ⟨s0,s1,s2,s3,s4,s5,s6⟩
                 go_simp;with_reducible rfl
                rotate_left
                ·simp only [Act.put,sa_,sb_,sc_,i64_w,i32_w]
                 rfl
                refine take_ (i:=4) (N:=some 87) (v:=?_) (a':=?_) (bl_ 7 31) rfl rfl (by kernel_rfl) (fun _ _ _ h => h) (Or.inl ⟨by rfl,?_⟩) hHeld ?_ ?_;rotate_left
                ·rintro w' ⟨s0,s1,s2,s3,s4,s5,s6⟩
                 go_simp;with_reducible rfl
                rotate_left
                ·simp only [Act.put,sa_,sb_,sc_,i64_w,i32_w]
                 rfl
                refine one_ (i:=5) (N:=some 88) (bl_ 7 63) rfl rfl (by kernel_rfl) (by decide) (fun K hK => ?_);refine goes_ Try.func14 (by kernel_rfl) rfl #[.int .i64 a0,.int .i64 a4_1] (by rfl) rfl rfl ln_ ?_;with_reducible refine (changeforgeref5_Nonce.calls kj55 a0 a4_1 t126 _ A70.out).mono ?_
                rintro e w110 ⟨rfl,hb⟩;refine ⟨_,rfl,?_⟩;replace BK101:=Aside0.mk (blk_below (blk_mv BK101.out) hb);replace BK102:=Aside0.mk (blk_below (blk_mv BK102.out) hb);replace BK105:=Aside0.mk (blk_below (blk_mv BK105.out) hb);replace HB:=Aside0.mk (below_step bel_ hb);(try clear hb);refine hK.out _ _ ⟨(blk_cell BK101.out 0).trans rfl,(blk_cell BK101.out 1).trans rfl,(blk_cell BK101.out 2).trans rfl,(blk_cell BK101.out 3).trans rfl,(blk_cell BK101.out 4).trans rfl,(blk_cell BK101.out 5).trans rfl,(blk_cell BK101.out 6).trans rfl⟩ (fun hHeld => ?_);clear hK K;refine norm_ (a':=?_) ?_ ?_;rotate_left
                ·show Act.put _ (some 88) _ = _
                 simp only [Act.put,sa_,sb_,sc_,i64_w,i32_w];rfl
                refine pure_ (i:=6) (N:=some 89) (v:=?_) (a':=?_) (bl_ 7 127) rfl rfl (by kernel_rfl) (fun _ _ _ h => h) (Or.inl ⟨by rfl,?_⟩) ?_ ?_;rotate_left
                ·intro w'
                 go_simp;with_reducible rfl
                rotate_left
                ·simp only [Act.put,sa_,sb_,sc_,i64_w,i32_w]
                 rfl
                refine done_ (by kernel_rfl) ?_;try go_wp2
                replace BK101:=Aside0.mk (blk_drew BK101.out);replace BK102:=Aside0.mk (blk_drew BK102.out);replace BK105:=Aside0.mk (blk_drew BK105.out);replace HB:=Aside0.mk (below_drew1 HB.out);refine start_ (n:=5) (S:=fun w' => w'.cell? ⟨gb101,0,none⟩ = some (.int .i64 a4_0) ∧ w'.cell? ⟨gb101,1,none⟩ = some (.int .i64 a4_1) ∧ w'.cell? ⟨gb101,2,none⟩ = some (.int .i64 a4_2) ∧ w'.cell? ⟨gb101,3,none⟩ = some (.string a4_3) ∧ w'.cell? ⟨gb101,4,none⟩ = some (.int .i64 a4_4) ∧ w'.cell? ⟨gb101,5,none⟩ = some (.int .i64 a4_5) ∧ w'.cell? ⟨gb101,6,none⟩ = some (.int .i64 a4_6)) (ds:=[]) #[false,false,false,false,false] (by kernel_rfl) rfl rfl ⟨(blk_cell BK101.out 0).trans rfl,(blk_cell BK101.out 1).trans rfl,(blk_cell BK101.out 2).trans rfl,(blk_cell BK101.out 3).trans rfl,(blk_cell BK101.out 4).trans rfl,(blk_cell BK101.out 5).trans rfl,(blk_cell BK101.out 6).trans rfl⟩ (fun hHeld => ?_);generalize w110.drew = w111 at BK101 BK102 BK105 HB hHeld ⊢;refine pure_ (i:=0) (N:=some 91) (v:=?_) (a':=?_) #[true,false,false,false,false] rfl rfl (by kernel_rfl) (fun _ _ _ h => h) (Or.inl ⟨by rfl,?_⟩) ?_ ?_;rotate_left
                ·intro w'
                 go_simp;with_reducible rfl
                rotate_left
                ·simp only [Act.put,sa_,sb_,sc_,i64_w,i32_w]
                 rfl
                refine take_ (i:=1) (N:=some 92) (v:=?_) (a':=?_) #[true,true,false,false,false] rfl rfl (by kernel_rfl) (fun _ _ _ h => h) (Or.inl ⟨by rfl,?_⟩) hHeld ?_ ?_;rotate_left
                ·rintro w' ⟨s0,s1,s2,s3,s4,s5,s6⟩
                 go_simp;with_reducible rfl
                rotate_left
                ·simp only [Act.put,sa_,sb_,sc_,i64_w,i32_w]
                 rfl
                refine take_ (i:=2) (N:=some 93) (v:=?_) (a':=?_) #[true,true,true,false,false] rfl rfl (by kernel_rfl) (fun _ _ _ h => h) (Or.inl ⟨by rfl,?_⟩) hHeld ?_ ?_;rotate_left
                ·rintro w' ⟨s0,s1,s2,s3,s4,s5,s6⟩
                 go_simp;with_reducible rfl
                rotate_left
                ·simp only [Act.put,sa_,sb_,sc_,i64_w,i32_w]
                 rfl
                refine one_ (i:=3) (N:=some 94) #[true,true,true,true,false] rfl rfl (by kernel_rfl) (by decide) (fun K hK => ?_);refine goes_ Try.func18 (by kernel_rfl) rfl #[.agg #[.int .i64 a4_0,.int .i64 a4_1,.int .i64 a4_2,.string a4_3,.int .i64 a4_4,.int .i64 a4_5,.int .i64 a4_6]] (by rfl) rfl rfl ln_ ?_;with_reducible refine (changeforgeref5_CertSignature.calls kj55 a4_0 a4_1 a4_2 a4_3 a4_4 a4_5 a4_6 t129 _ A72.out).mono ?_
                rintro e w112 ⟨rfl,hb⟩;refine ⟨_,rfl,?_⟩;replace BK101:=Aside0.mk (blk_below (blk_mv BK101.out) hb);replace BK102:=Aside0.mk (blk_below (blk_mv BK102.out) hb);replace BK105:=Aside0.mk (blk_below (blk_mv BK105.out) hb);replace HB:=Aside0.mk (below_step bel_ hb);(try clear hb);refine hK.out _ _ ⟨(blk_cell BK101.out 0).trans rfl,(blk_cell BK101.out 1).trans rfl,(blk_cell BK101.out 2).trans rfl,(blk_cell BK101.out 3).trans rfl,(blk_cell BK101.out 4).trans rfl,(blk_cell BK101.out 5).trans rfl,(blk_cell BK101.out 6).trans rfl⟩ (fun hHeld => ?_);clear hK K;refine norm_ (a':=?_) ?_ ?_;rotate_left
                ·show Act.put _ (some 94) _ = _
                 simp only [Act.put,sa_,sb_,sc_,i64_w,i32_w];rfl
                refine pure_ (i:=4) (N:=some 95) (v:=?_) (a':=?_) #[true,true,true,true,true] rfl rfl (by kernel_rfl) (fun _ _ _ h => h) (Or.inl ⟨by rfl,?_⟩) ?_ ?_;rotate_left
                ·intro w'
                 go_simp;with_reducible rfl
                rotate_left
                ·simp only [Act.put,sa_,sb_,sc_,i64_w,i32_w]
                 rfl
                refine done_ (by kernel_rfl) ?_;try go_wp2_with (first|((with_reducible refine gate_callee (f:=35) rfl ?_);refine goesL_ (some 96) rfl rfl Try.func35 (by kernel_rfl) rfl #[.int .i64 18,.int .i64 2] rfl ln_ ?_;(with_reducible refine (changeforgeref5_fault.calls 18 2 t130 t131 _ A108.out).mono ?_);rintro e w113 ⟨rfl,hb⟩;refine ⟨_,rfl,?_⟩;replace BK101:=Aside0.mk (blk_below (blk_mv BK101.out) hb);replace BK102:=Aside0.mk (blk_below (blk_mv BK102.out) hb);replace BK105:=Aside0.mk (blk_below (blk_mv BK105.out) hb);replace HB:=Aside0.mk (below_step bel_ hb);(try clear hb);(try clear hb2);(try clear hk);(try clear hi);have hnb114:=NB102_101.out;have hnc114:=NB101_102.out;have hnb115:=NB102_105.out;have hnc115:=NB105_102.out;have hcz116_0:=blk_c (v:=.int .i64 x103000_2) BK102.out 0 rfl;have hcz116_1:=blk_c (v:=.int .i64 x103001_2) BK102.out 1 rfl;have hfz116_0:=blk_frozen BK102.out 0;have hfz116_1:=blk_frozen BK102.out 1))
                refine bodyPost_ret (results_cell_row rfl _ _ gb102 26 #[.int .i64 t130,.int .i64 t131] (0,0) _ rfl (by refine blk_mv ?_;refine blk_put (cs:=#[.int .i64 t130,.int .i64 x103001_2]) ?_ 1 _ rfl;refine blk_mv ?_;refine blk_put (cs:=#[.int .i64 x103000_2,.int .i64 x103001_2]) ?_ 0 _ rfl;refine blk_mv ?_;exact BK102.out) Try.underlying26 rfl (by kernel_rfl)) rfl ?_;exact ⟨by first|rfl|(simp [errW_none,errW_some] <;> rfl)|(simp [*,errW_none,errW_some] <;> rfl),bel_⟩
              ·rw [if_neg c71] at H
               have c71b0 : (a4_0 == t126) = false:=beq_eq_false_iff_ne.mpr c71;have c71b1 : (a4_0 != t126) = true:=bne_iff_ne.mpr c71;replace H:=Option.bind_eq_some_iff.mp H;obtain ⟨⟨t127,t128⟩,A1170,H⟩:=H;replace H : (some (t127,t128)) = some (r1,r2):=H;have A117:=Aside0.mk A1170;clear A1170;simp only [Option.some.injEq,Prod.mk.injEq] at H;obtain ⟨rfl,rfl⟩:=H;try go_wp2
               replace BK101:=Aside0.mk (blk_drew BK101.out);replace BK102:=Aside0.mk (blk_drew BK102.out);replace BK105:=Aside0.mk (blk_drew BK105.out);replace HB:=Aside0.mk (below_drew1 HB.out);refine start_ (n:=7) (S:=fun w' => w'.cell? ⟨gb101,0,none⟩ = some (.int .i64 a4_0) ∧ w'.cell? ⟨gb101,1,none⟩ = some (.int .i64 a4_1) ∧ w'.cell? ⟨gb101,2,none⟩ = some (.int .i64 a4_2) ∧ w'.cell? ⟨gb101,3,none⟩ = some (.string a4_3) ∧ w'.cell? ⟨gb101,4,none⟩ = some (.int .i64 a4_4) ∧ w'.cell? ⟨gb101,5,none⟩ = some (.int .i64 a4_5) ∧ w'.cell? ⟨gb101,6,none⟩ = some (.int .i64 a4_6)) (ds:=[]) (bl_ 7 0) (by kernel_rfl) rfl rfl ⟨(blk_cell BK101.out 0).trans rfl,(blk_cell BK101.out 1).trans rfl,(blk_cell BK101.out 2).trans rfl,(blk_cell BK101.out 3).trans rfl,(blk_cell BK101.out 4).trans rfl,(blk_cell BK101.out 5).trans rfl,(blk_cell BK101.out 6).trans rfl⟩ (fun hHeld => ?_);generalize wc.drew = w118 at BK101 BK102 BK105 HB hHeld ⊢;refine pure_ (i:=0) (N:=some 83) (v:=?_) (a':=?_) (bl_ 7 1) rfl rfl (by kernel_rfl) (fun _ _ _ h => h) (Or.inl ⟨by rfl,?_⟩) ?_ ?_;rotate_left
               ·intro w'
                go_simp;with_reducible rfl
               rotate_left
               ·simp only [Act.put,sa_,sb_,sc_,i64_w,i32_w]
                rfl
               refine pure_ (i:=2) (N:=some 85) (v:=?_) (a':=?_) (bl_ 7 5) rfl rfl (by kernel_rfl) (fun _ _ _ h => h) (Or.inl ⟨by rfl,?_⟩) ?_ ?_;rotate_left
               ·intro w'
                go_simp;with_reducible rfl
               rotate_left
               ·simp only [Act.put,sa_,sb_,sc_,i64_w,i32_w]
                rfl
               refine pure_ (i:=3) (N:=some 86) (v:=?_) (a':=?_) (bl_ 7 13) rfl rfl (by kernel_rfl) (fun _ _ _ h => h) (Or.inl ⟨by rfl,?_⟩) ?_ ?_;rotate_left
               ·intro w'
                go_simp;with_reducible rfl
               rotate_left
               ·simp only [Act.put,sa_,sb_,sc_,i64_w,i32_w]
                rfl
               refine take_ (i:=1) (N:=some 84) (v:=?_) (a':=?_) (bl_ 7 15) rfl rfl (by kernel_rfl) (fun _ _ _ h => h) (Or.inl ⟨by rfl,?_⟩) hHeld ?_ ?_;rotate_left
               ·rintro w' ⟨s0,s1,s2,s3,s4,s5,s6⟩
                go_simp;with_reducible rfl
               rotate_left
               ·simp only [Act.put,sa_,sb_,sc_,i64_w,i32_w]
                rfl
               refine take_ (i:=4) (N:=some 87) (v:=?_) (a':=?_) (bl_ 7 31) rfl rfl (by kernel_rfl) (fun _ _ _ h => h) (Or.inl ⟨by rfl,?_⟩) hHeld ?_ ?_;rotate_left
               ·rintro w' ⟨s0,s1,s2,s3,s4,s5,s6⟩
                go_simp;with_reducible rfl
               rotate_left
               ·simp only [Act.put,sa_,sb_,sc_,i64_w,i32_w]
                rfl
               refine one_ (i:=5) (N:=some 88) (bl_ 7 63) rfl rfl (by kernel_rfl) (by decide) (fun K hK => ?_);refine goes_ Try.func14 (by kernel_rfl) rfl #[.int .i64 a0,.int .i64 a4_1] (by rfl) rfl rfl ln_ ?_;with_reducible refine (changeforgeref5_Nonce.calls kj55 a0 a4_1 t126 _ A70.out).mono ?_
               rintro e w119 ⟨rfl,hb⟩;refine ⟨_,rfl,?_⟩;replace BK101:=Aside0.mk (blk_below (blk_mv BK101.out) hb);replace BK102:=Aside0.mk (blk_below (blk_mv BK102.out) hb);replace BK105:=Aside0.mk (blk_below (blk_mv BK105.out) hb);replace HB:=Aside0.mk (below_step bel_ hb);(try clear hb);refine hK.out _ _ ⟨(blk_cell BK101.out 0).trans rfl,(blk_cell BK101.out 1).trans rfl,(blk_cell BK101.out 2).trans rfl,(blk_cell BK101.out 3).trans rfl,(blk_cell BK101.out 4).trans rfl,(blk_cell BK101.out 5).trans rfl,(blk_cell BK101.out 6).trans rfl⟩ (fun hHeld => ?_);clear hK K;refine norm_ (a':=?_) ?_ ?_;rotate_left
               ·show Act.put _ (some 88) _ = _
                simp only [Act.put,sa_,sb_,sc_,i64_w,i32_w];rfl
               refine pure_ (i:=6) (N:=some 89) (v:=?_) (a':=?_) (bl_ 7 127) rfl rfl (by kernel_rfl) (fun _ _ _ h => h) (Or.inl ⟨by rfl,?_⟩) ?_ ?_;rotate_left
               ·intro w'
                go_simp;with_reducible rfl
               rotate_left
               ·simp only [Act.put,sa_,sb_,sc_,i64_w,i32_w]
                rfl
               refine done_ (by kernel_rfl) ?_;try go_wp2_with (first|((with_reducible refine gate_callee (f:=35) rfl ?_);refine goesL_ (some 90) rfl rfl Try.func35 (by kernel_rfl) rfl #[.int .i64 18,.int .i64 1] rfl ln_ ?_;(with_reducible refine (changeforgeref5_fault.calls 18 1 t127 t128 _ A117.out).mono ?_);rintro e w120 ⟨rfl,hb⟩;refine ⟨_,rfl,?_⟩;replace BK101:=Aside0.mk (blk_below (blk_mv BK101.out) hb);replace BK102:=Aside0.mk (blk_below (blk_mv BK102.out) hb);replace BK105:=Aside0.mk (blk_below (blk_mv BK105.out) hb);replace HB:=Aside0.mk (below_step bel_ hb);(try clear hb);(try clear hb2);(try clear hk);(try clear hi);have hnb121:=NB102_101.out;have hnc121:=NB101_102.out;have hnb122:=NB102_105.out;have hnc122:=NB105_102.out;have hcz123_0:=blk_c (v:=.int .i64 x103000_2) BK102.out 0 rfl;have hcz123_1:=blk_c (v:=.int .i64 x103001_2) BK102.out 1 rfl;have hfz123_0:=blk_frozen BK102.out 0;have hfz123_1:=blk_frozen BK102.out 1))
               refine bodyPost_ret (results_cell_row rfl _ _ gb102 26 #[.int .i64 t127,.int .i64 t128] (0,0) _ rfl (by refine blk_mv ?_;refine blk_put (cs:=#[.int .i64 t127,.int .i64 x103001_2]) ?_ 1 _ rfl;refine blk_mv ?_;refine blk_put (cs:=#[.int .i64 x103000_2,.int .i64 x103001_2]) ?_ 0 _ rfl;refine blk_mv ?_;exact BK102.out) Try.underlying26 rfl (by kernel_rfl)) rfl ?_;exact ⟨by first|rfl|(simp [errW_none,errW_some] <;> rfl)|(simp [*,errW_none,errW_some] <;> rfl),bel_⟩
   ·replace c11:=Bool.eq_false_iff.mpr c11
    subst c11;have H1 : ((changeforgeref5_fault.f 3 (-1)).bind fun bt110 => (some (bt110.1,bt110.2))) = some (r1,r2):=by rw [if_neg (show ¬ (false = true) by decide)] at H;exact H
    clear H;have H:=H1;clear H1;replace H:=Option.bind_eq_some_iff.mp H;obtain ⟨⟨t110,t111⟩,A1240,H⟩:=H;replace H : (some (t110,t111)) = some (r1,r2):=H;have A124:=Aside0.mk A1240;clear A1240;simp only [Option.some.injEq,Prod.mk.injEq] at H;obtain ⟨rfl,rfl⟩:=H;go_enter Try.func19,Try.ntmps19;go_wp2_with (first|((with_reducible refine gate_dst (N:=9) rfl ?_);refine box_event ?hg (N:=9) ?hd (cs:=#[.int .i64 a4_0,.int .i64 a4_1,.int .i64 a4_2,.string a4_3,.int .i64 a4_4,.int .i64 a4_5,.int .i64 a4_6]) (t:=23) ?hr ?_;(case hd => rfl);(case hg => rfl);(case hr => first|(go_simp;done)|(go_simp;rfl));intro gb101 hg w125 hbox hb;have BK101:=Aside0.mk (hbox);have GW101:=Aside0.mk ((bs_ : w.heap.size ≤ gb101));have GE101:=Aside0.mk ((bs_ : w.heap.size ≤ gb101));replace HB:=Aside0.mk (below_step bel_ hb);clear hb hbox hg)|((with_reducible refine gate_dst (N:=10) rfl ?_);refine box_event ?hg (N:=10) ?hd (cs:=#[.int .i64 0,.int .i64 0]) (t:=26) ?hr ?_;(case hd => rfl);(case hg => rfl);(case hr => first|(go_simp;done)|(go_simp;rfl));intro gb102 hg w126 hbox hb;have BK102:=Aside0.mk (hbox);have GW102:=Aside0.mk ((bs_ : w.heap.size ≤ gb102));have GE102:=Aside0.mk ((bs_ : w.heap.size ≤ gb102));replace HB:=Aside0.mk (below_step bel_ hb);have NB101_102:=Aside0.mk ((by rw [hg];exact Nat.ne_of_lt (blk_lt (g:=gb101) (o:=.cells #[.int .i64 a4_0,.int .i64 a4_1,.int .i64 a4_2,.string a4_3,.int .i64 a4_4,.int .i64 a4_5,.int .i64 a4_6] 23 (0,0)) (blk_mv BK101.out)) : gb101 ≠ gb102));have NB102_101:=Aside0.mk ((by rw [hg];exact Nat.ne_of_gt (blk_lt (g:=gb101) (o:=.cells #[.int .i64 a4_0,.int .i64 a4_1,.int .i64 a4_2,.string a4_3,.int .i64 a4_4,.int .i64 a4_5,.int .i64 a4_6] 23 (0,0)) (blk_mv BK101.out)) : gb102 ≠ gb101));replace BK101:=Aside0.mk (blk_below (blk_mv BK101.out) hb);clear hb hbox hg;have hnb127:=NB101_102.out;have hnc127:=NB102_101.out;have hcz128_0:=blk_c (v:=.int .i64 a4_0) BK101.out 0 rfl;have hcz128_1:=blk_c (v:=.int .i64 a4_1) BK101.out 1 rfl;have hcz128_2:=blk_c (v:=.int .i64 a4_2) BK101.out 2 rfl;have hcz128_3:=blk_c (v:=.string a4_3) BK101.out 3 rfl;have hcz128_4:=blk_c (v:=.int .i64 a4_4) BK101.out 4 rfl;have hcz128_5:=blk_c (v:=.int .i64 a4_5) BK101.out 5 rfl;have hcz128_6:=blk_c (v:=.int .i64 a4_6) BK101.out 6 rfl;have hfz128_0:=blk_frozen BK101.out 0;have hfz128_1:=blk_frozen BK101.out 1;have hfz128_2:=blk_frozen BK101.out 2;have hfz128_3:=blk_frozen BK101.out 3;have hfz128_4:=blk_frozen BK101.out 4;have hfz128_5:=blk_frozen BK101.out 5;have hfz128_6:=blk_frozen BK101.out 6)|((with_reducible refine gate_callee (f:=15) rfl ?_);refine goesL_ (some 14) rfl rfl Try.func15 (by kernel_rfl) rfl #[.agg #[.int .i64 a4_0,.int .i64 a4_1,.int .i64 a4_2,.string a4_3,.int .i64 a4_4,.int .i64 a4_5,.int .i64 a4_6]] rfl ln_ ?_;(with_reducible refine (changeforgeref5_CertFault.calls k a4_0 a4_1 a4_2 a4_3 a4_4 a4_5 a4_6 t103 t104 _ A6.out).mono ?_);rintro e w129 ⟨rfl,hb⟩;refine ⟨_,rfl,?_⟩;replace BK101:=Aside0.mk (blk_below (blk_mv BK101.out) hb);replace BK102:=Aside0.mk (blk_below (blk_mv BK102.out) hb);replace HB:=Aside0.mk (below_step bel_ hb);(try clear hb);(try clear hb2);(try clear hk);(try clear hi))|((with_reducible refine gate_dst (N:=11) rfl ?_);refine box_event ?hg (N:=11) ?hd (cs:=#[.int .i64 0,.int .i64 0]) (t:=26) ?hr ?_;(case hd => rfl);(case hg => rfl);(case hr => first|(go_simp;done)|(go_simp;rfl));intro gb105 hg w130 hbox hb;have BK105:=Aside0.mk (hbox);have GW105:=Aside0.mk ((bs_ : w.heap.size ≤ gb105));have GE105:=Aside0.mk ((bs_ : w.heap.size ≤ gb105));replace HB:=Aside0.mk (below_step bel_ hb);have NB101_105:=Aside0.mk ((by rw [hg];exact Nat.ne_of_lt (blk_lt (g:=gb101) (o:=.cells #[.int .i64 a4_0,.int .i64 a4_1,.int .i64 a4_2,.string a4_3,.int .i64 a4_4,.int .i64 a4_5,.int .i64 a4_6] 23 (0,0)) (blk_mv BK101.out)) : gb101 ≠ gb105));have NB105_101:=Aside0.mk ((by rw [hg];exact Nat.ne_of_gt (blk_lt (g:=gb101) (o:=.cells #[.int .i64 a4_0,.int .i64 a4_1,.int .i64 a4_2,.string a4_3,.int .i64 a4_4,.int .i64 a4_5,.int .i64 a4_6] 23 (0,0)) (blk_mv BK101.out)) : gb105 ≠ gb101));replace BK101:=Aside0.mk (blk_below (blk_mv BK101.out) hb);have NB102_105:=Aside0.mk ((by rw [hg];exact Nat.ne_of_lt (blk_lt (g:=gb102) (o:=.cells #[.int .i64 0,.int .i64 0] 26 (0,0)) (blk_mv BK102.out)) : gb102 ≠ gb105));have NB105_102:=Aside0.mk ((by rw [hg];exact Nat.ne_of_gt (blk_lt (g:=gb102) (o:=.cells #[.int .i64 0,.int .i64 0] 26 (0,0)) (blk_mv BK102.out)) : gb105 ≠ gb102));replace BK102:=Aside0.mk (blk_below (blk_mv BK102.out) hb);clear hb hbox hg;have hnb131:=NB105_101.out;have hnc131:=NB101_105.out;have hnb132:=NB105_102.out;have hnc132:=NB102_105.out;have hcz133_0:=blk_c (v:=.int .i64 0) BK105.out 0 rfl;have hcz133_1:=blk_c (v:=.int .i64 0) BK105.out 1 rfl;have hfz133_0:=blk_frozen BK105.out 0;have hfz133_1:=blk_frozen BK105.out 1;have hcz134_0:=blk_c (v:=.int .i64 a4_0) BK101.out 0 rfl;have hcz134_1:=blk_c (v:=.int .i64 a4_1) BK101.out 1 rfl;have hcz134_2:=blk_c (v:=.int .i64 a4_2) BK101.out 2 rfl;have hcz134_3:=blk_c (v:=.string a4_3) BK101.out 3 rfl;have hcz134_4:=blk_c (v:=.int .i64 a4_4) BK101.out 4 rfl;have hcz134_5:=blk_c (v:=.int .i64 a4_5) BK101.out 5 rfl;have hcz134_6:=blk_c (v:=.int .i64 a4_6) BK101.out 6 rfl;have hfz134_0:=blk_frozen BK101.out 0;have hfz134_1:=blk_frozen BK101.out 1;have hfz134_2:=blk_frozen BK101.out 2;have hfz134_3:=blk_frozen BK101.out 3;have hfz134_4:=blk_frozen BK101.out 4;have hfz134_5:=blk_frozen BK101.out 5;have hfz134_6:=blk_frozen BK101.out 6)|((with_reducible refine gate_callee (f:=23) rfl ?_);refine goesL_ (some 21) rfl rfl Try.func23 (by kernel_rfl) rfl #[.int .i64 a4_6] rfl ln_ ?_;(with_reducible refine (changeforgeref5_IsDigest.calls a4_6 true _ A8.out).mono ?_);rintro e w' ⟨rfl,⟨nd,rfl⟩⟩;refine ⟨_,rfl,?_⟩)|((with_reducible refine gate_callee (f:=10) rfl ?_);refine goesL_ (some 25) rfl rfl Try.func10 (by kernel_rfl) rfl #[.int .i64 a0] rfl ln_ ?_;(with_reducible refine (changeforgeref5_IsKey.calls a0 false _ A10.out).mono ?_);rintro e w' ⟨rfl,⟨nd,rfl⟩⟩;refine ⟨_,rfl,?_⟩)|((with_reducible refine gate_callee (f:=35) rfl ?_);refine goesL_ (some 27) rfl rfl Try.func35 (by kernel_rfl) rfl #[.int .i64 3,.int .i64 (-1)] rfl ln_ ?_;(with_reducible refine (changeforgeref5_fault.calls 3 (-1) t110 t111 _ A124.out).mono ?_);rintro e w135 ⟨rfl,hb⟩;refine ⟨_,rfl,?_⟩;replace BK101:=Aside0.mk (blk_below (g:=gb101) (o:=.cells #[.int .i64 a4_0,.int .i64 a4_1,.int .i64 a4_2,.string a4_3,.int .i64 a4_4,.int .i64 a4_5,.int .i64 a4_6] 23 (0,0)) (by refine blk_mv ?_;refine blk_far ?_ NB101_105.out _;refine blk_mv ?_;refine blk_far ?_ NB101_105.out _;refine blk_mv ?_;exact BK101.out) hb);replace BK102:=Aside0.mk (blk_below (g:=gb102) (o:=.cells #[.int .i64 0,.int .i64 0] 26 (0,0)) (by refine blk_mv ?_;refine blk_far ?_ NB102_105.out _;refine blk_mv ?_;refine blk_far ?_ NB102_105.out _;refine blk_mv ?_;exact BK102.out) hb);replace BK105:=Aside0.mk (blk_below (g:=gb105) (o:=.cells #[.int .i64 t103,.int .i64 t104] 26 (0,0)) (by refine blk_mv ?_;refine blk_put (cs:=#[.int .i64 t103,.int .i64 0]) ?_ 1 _ rfl;refine blk_mv ?_;refine blk_put (cs:=#[.int .i64 0,.int .i64 0]) ?_ 0 _ rfl;refine blk_mv ?_;exact BK105.out) hb);replace HB:=Aside0.mk (below_step bel_ hb);(try clear hb);(try clear hb2);(try clear hk);(try clear hi);have hcz136_0:=blk_c (v:=.int .i64 0) BK102.out 0 rfl;have hcz136_1:=blk_c (v:=.int .i64 0) BK102.out 1 rfl;have hfz136_0:=blk_frozen BK102.out 0;have hfz136_1:=blk_frozen BK102.out 1));refine bodyPost_ret (results_cell_row rfl _ _ gb102 26 #[.int .i64 t110,.int .i64 t111] (0,0) _ rfl (by refine blk_mv ?_;refine blk_put (cs:=#[.int .i64 t110,.int .i64 0]) ?_ 1 _ rfl;refine blk_mv ?_;refine blk_put (cs:=#[.int .i64 0,.int .i64 0]) ?_ 0 _ rfl;refine blk_mv ?_;exact BK102.out) Try.underlying26 rfl (by kernel_rfl)) rfl ?_;exact ⟨by first|rfl|(simp [errW_none,errW_some] <;> rfl)|(simp [*,errW_none,errW_some] <;> rfl),bel_⟩
  ·replace c9:=Bool.eq_false_iff.mpr c9
   subst c9;have H1 : ((changeforgeref5_fault.f 3 1).bind fun bt107 => (some (bt107.1,bt107.2))) = some (r1,r2):=by rw [if_neg (show ¬ (false = true) by decide)] at H;exact H
   clear H;have H:=H1;clear H1;replace H:=Option.bind_eq_some_iff.mp H;obtain ⟨⟨t107,t108⟩,A1370,H⟩:=H;replace H : (some (t107,t108)) = some (r1,r2):=H;have A137:=Aside0.mk A1370;clear A1370;simp only [Option.some.injEq,Prod.mk.injEq] at H;obtain ⟨rfl,rfl⟩:=H;go_enter Try.func19,Try.ntmps19;go_wp2_with (first|((with_reducible refine gate_dst (N:=9) rfl ?_);refine box_event ?hg (N:=9) ?hd (cs:=#[.int .i64 a4_0,.int .i64 a4_1,.int .i64 a4_2,.string a4_3,.int .i64 a4_4,.int .i64 a4_5,.int .i64 a4_6]) (t:=23) ?hr ?_;(case hd => rfl);(case hg => rfl);(case hr => first|(go_simp;done)|(go_simp;rfl));intro gb101 hg w138 hbox hb;have BK101:=Aside0.mk (hbox);have GW101:=Aside0.mk ((bs_ : w.heap.size ≤ gb101));have GE101:=Aside0.mk ((bs_ : w.heap.size ≤ gb101));replace HB:=Aside0.mk (below_step bel_ hb);clear hb hbox hg)|((with_reducible refine gate_dst (N:=10) rfl ?_);refine box_event ?hg (N:=10) ?hd (cs:=#[.int .i64 0,.int .i64 0]) (t:=26) ?hr ?_;(case hd => rfl);(case hg => rfl);(case hr => first|(go_simp;done)|(go_simp;rfl));intro gb102 hg w139 hbox hb;have BK102:=Aside0.mk (hbox);have GW102:=Aside0.mk ((bs_ : w.heap.size ≤ gb102));have GE102:=Aside0.mk ((bs_ : w.heap.size ≤ gb102));replace HB:=Aside0.mk (below_step bel_ hb);have NB101_102:=Aside0.mk ((by rw [hg];exact Nat.ne_of_lt (blk_lt (g:=gb101) (o:=.cells #[.int .i64 a4_0,.int .i64 a4_1,.int .i64 a4_2,.string a4_3,.int .i64 a4_4,.int .i64 a4_5,.int .i64 a4_6] 23 (0,0)) (blk_mv BK101.out)) : gb101 ≠ gb102));have NB102_101:=Aside0.mk ((by rw [hg];exact Nat.ne_of_gt (blk_lt (g:=gb101) (o:=.cells #[.int .i64 a4_0,.int .i64 a4_1,.int .i64 a4_2,.string a4_3,.int .i64 a4_4,.int .i64 a4_5,.int .i64 a4_6] 23 (0,0)) (blk_mv BK101.out)) : gb102 ≠ gb101));replace BK101:=Aside0.mk (blk_below (blk_mv BK101.out) hb);clear hb hbox hg;have hnb140:=NB101_102.out;have hnc140:=NB102_101.out;have hcz141_0:=blk_c (v:=.int .i64 a4_0) BK101.out 0 rfl;have hcz141_1:=blk_c (v:=.int .i64 a4_1) BK101.out 1 rfl;have hcz141_2:=blk_c (v:=.int .i64 a4_2) BK101.out 2 rfl;have hcz141_3:=blk_c (v:=.string a4_3) BK101.out 3 rfl;have hcz141_4:=blk_c (v:=.int .i64 a4_4) BK101.out 4 rfl;have hcz141_5:=blk_c (v:=.int .i64 a4_5) BK101.out 5 rfl;have hcz141_6:=blk_c (v:=.int .i64 a4_6) BK101.out 6 rfl;have hfz141_0:=blk_frozen BK101.out 0;have hfz141_1:=blk_frozen BK101.out 1;have hfz141_2:=blk_frozen BK101.out 2;have hfz141_3:=blk_frozen BK101.out 3;have hfz141_4:=blk_frozen BK101.out 4;have hfz141_5:=blk_frozen BK101.out 5;have hfz141_6:=blk_frozen BK101.out 6)|((with_reducible refine gate_callee (f:=15) rfl ?_);refine goesL_ (some 14) rfl rfl Try.func15 (by kernel_rfl) rfl #[.agg #[.int .i64 a4_0,.int .i64 a4_1,.int .i64 a4_2,.string a4_3,.int .i64 a4_4,.int .i64 a4_5,.int .i64 a4_6]] rfl ln_ ?_;(with_reducible refine (changeforgeref5_CertFault.calls k a4_0 a4_1 a4_2 a4_3 a4_4 a4_5 a4_6 t103 t104 _ A6.out).mono ?_);rintro e w142 ⟨rfl,hb⟩;refine ⟨_,rfl,?_⟩;replace BK101:=Aside0.mk (blk_below (blk_mv BK101.out) hb);replace BK102:=Aside0.mk (blk_below (blk_mv BK102.out) hb);replace HB:=Aside0.mk (below_step bel_ hb);(try clear hb);(try clear hb2);(try clear hk);(try clear hi))|((with_reducible refine gate_dst (N:=11) rfl ?_);refine box_event ?hg (N:=11) ?hd (cs:=#[.int .i64 0,.int .i64 0]) (t:=26) ?hr ?_;(case hd => rfl);(case hg => rfl);(case hr => first|(go_simp;done)|(go_simp;rfl));intro gb105 hg w143 hbox hb;have BK105:=Aside0.mk (hbox);have GW105:=Aside0.mk ((bs_ : w.heap.size ≤ gb105));have GE105:=Aside0.mk ((bs_ : w.heap.size ≤ gb105));replace HB:=Aside0.mk (below_step bel_ hb);have NB101_105:=Aside0.mk ((by rw [hg];exact Nat.ne_of_lt (blk_lt (g:=gb101) (o:=.cells #[.int .i64 a4_0,.int .i64 a4_1,.int .i64 a4_2,.string a4_3,.int .i64 a4_4,.int .i64 a4_5,.int .i64 a4_6] 23 (0,0)) (blk_mv BK101.out)) : gb101 ≠ gb105));have NB105_101:=Aside0.mk ((by rw [hg];exact Nat.ne_of_gt (blk_lt (g:=gb101) (o:=.cells #[.int .i64 a4_0,.int .i64 a4_1,.int .i64 a4_2,.string a4_3,.int .i64 a4_4,.int .i64 a4_5,.int .i64 a4_6] 23 (0,0)) (blk_mv BK101.out)) : gb105 ≠ gb101));replace BK101:=Aside0.mk (blk_below (blk_mv BK101.out) hb);have NB102_105:=Aside0.mk ((by rw [hg];exact Nat.ne_of_lt (blk_lt (g:=gb102) (o:=.cells #[.int .i64 0,.int .i64 0] 26 (0,0)) (blk_mv BK102.out)) : gb102 ≠ gb105));have NB105_102:=Aside0.mk ((by rw [hg];exact Nat.ne_of_gt (blk_lt (g:=gb102) (o:=.cells #[.int .i64 0,.int .i64 0] 26 (0,0)) (blk_mv BK102.out)) : gb105 ≠ gb102));replace BK102:=Aside0.mk (blk_below (blk_mv BK102.out) hb);clear hb hbox hg;have hnb144:=NB105_101.out;have hnc144:=NB101_105.out;have hnb145:=NB105_102.out;have hnc145:=NB102_105.out;have hcz146_0:=blk_c (v:=.int .i64 0) BK105.out 0 rfl;have hcz146_1:=blk_c (v:=.int .i64 0) BK105.out 1 rfl;have hfz146_0:=blk_frozen BK105.out 0;have hfz146_1:=blk_frozen BK105.out 1;have hcz147_0:=blk_c (v:=.int .i64 a4_0) BK101.out 0 rfl;have hcz147_1:=blk_c (v:=.int .i64 a4_1) BK101.out 1 rfl;have hcz147_2:=blk_c (v:=.int .i64 a4_2) BK101.out 2 rfl;have hcz147_3:=blk_c (v:=.string a4_3) BK101.out 3 rfl;have hcz147_4:=blk_c (v:=.int .i64 a4_4) BK101.out 4 rfl;have hcz147_5:=blk_c (v:=.int .i64 a4_5) BK101.out 5 rfl;have hcz147_6:=blk_c (v:=.int .i64 a4_6) BK101.out 6 rfl;have hfz147_0:=blk_frozen BK101.out 0;have hfz147_1:=blk_frozen BK101.out 1;have hfz147_2:=blk_frozen BK101.out 2;have hfz147_3:=blk_frozen BK101.out 3;have hfz147_4:=blk_frozen BK101.out 4;have hfz147_5:=blk_frozen BK101.out 5;have hfz147_6:=blk_frozen BK101.out 6)|((with_reducible refine gate_callee (f:=23) rfl ?_);refine goesL_ (some 21) rfl rfl Try.func23 (by kernel_rfl) rfl #[.int .i64 a4_6] rfl ln_ ?_;(with_reducible refine (changeforgeref5_IsDigest.calls a4_6 false _ A8.out).mono ?_);rintro e w' ⟨rfl,⟨nd,rfl⟩⟩;refine ⟨_,rfl,?_⟩)|((with_reducible refine gate_callee (f:=35) rfl ?_);refine goesL_ (some 23) rfl rfl Try.func35 (by kernel_rfl) rfl #[.int .i64 3,.int .i64 1] rfl ln_ ?_;(with_reducible refine (changeforgeref5_fault.calls 3 1 t107 t108 _ A137.out).mono ?_);rintro e w148 ⟨rfl,hb⟩;refine ⟨_,rfl,?_⟩;replace BK101:=Aside0.mk (blk_below (g:=gb101) (o:=.cells #[.int .i64 a4_0,.int .i64 a4_1,.int .i64 a4_2,.string a4_3,.int .i64 a4_4,.int .i64 a4_5,.int .i64 a4_6] 23 (0,0)) (by refine blk_mv ?_;refine blk_far ?_ NB101_105.out _;refine blk_mv ?_;refine blk_far ?_ NB101_105.out _;refine blk_mv ?_;exact BK101.out) hb);replace BK102:=Aside0.mk (blk_below (g:=gb102) (o:=.cells #[.int .i64 0,.int .i64 0] 26 (0,0)) (by refine blk_mv ?_;refine blk_far ?_ NB102_105.out _;refine blk_mv ?_;refine blk_far ?_ NB102_105.out _;refine blk_mv ?_;exact BK102.out) hb);replace BK105:=Aside0.mk (blk_below (g:=gb105) (o:=.cells #[.int .i64 t103,.int .i64 t104] 26 (0,0)) (by refine blk_mv ?_;refine blk_put (cs:=#[.int .i64 t103,.int .i64 0]) ?_ 1 _ rfl;refine blk_mv ?_;refine blk_put (cs:=#[.int .i64 0,.int .i64 0]) ?_ 0 _ rfl;refine blk_mv ?_;exact BK105.out) hb);replace HB:=Aside0.mk (below_step bel_ hb);(try clear hb);(try clear hb2);(try clear hk);(try clear hi);have hcz149_0:=blk_c (v:=.int .i64 0) BK102.out 0 rfl;have hcz149_1:=blk_c (v:=.int .i64 0) BK102.out 1 rfl;have hfz149_0:=blk_frozen BK102.out 0;have hfz149_1:=blk_frozen BK102.out 1));refine bodyPost_ret (results_cell_row rfl _ _ gb102 26 #[.int .i64 t107,.int .i64 t108] (0,0) _ rfl (by refine blk_mv ?_;refine blk_put (cs:=#[.int .i64 t107,.int .i64 0]) ?_ 1 _ rfl;refine blk_mv ?_;refine blk_put (cs:=#[.int .i64 0,.int .i64 0]) ?_ 0 _ rfl;refine blk_mv ?_;exact BK102.out) Try.underlying26 rfl (by kernel_rfl)) rfl ?_;exact ⟨by first|rfl|(simp [errW_none,errW_some] <;> rfl)|(simp [*,errW_none,errW_some] <;> rfl),bel_⟩
 ·rw [if_neg c7] at H
  have c7b0 : (t103 == 0) = false:=beq_eq_false_iff_ne.mpr c7;have c7b1 : (t103 != 0) = true:=bne_iff_ne.mpr c7;simp only [Option.some.injEq,Prod.mk.injEq] at H;obtain ⟨rfl,rfl⟩:=H;go_enter Try.func19,Try.ntmps19;go_wp2_with (first|((with_reducible refine gate_dst (N:=9) rfl ?_);refine box_event ?hg (N:=9) ?hd (cs:=#[.int .i64 a4_0,.int .i64 a4_1,.int .i64 a4_2,.string a4_3,.int .i64 a4_4,.int .i64 a4_5,.int .i64 a4_6]) (t:=23) ?hr ?_;(case hd => rfl);(case hg => rfl);(case hr => first|(go_simp;done)|(go_simp;rfl));intro gb101 hg w150 hbox hb;have BK101:=Aside0.mk (hbox);have GW101:=Aside0.mk ((bs_ : w.heap.size ≤ gb101));have GE101:=Aside0.mk ((bs_ : w.heap.size ≤ gb101));replace HB:=Aside0.mk (below_step bel_ hb);clear hb hbox hg)|((with_reducible refine gate_dst (N:=10) rfl ?_);refine box_event ?hg (N:=10) ?hd (cs:=#[.int .i64 0,.int .i64 0]) (t:=26) ?hr ?_;(case hd => rfl);(case hg => rfl);(case hr => first|(go_simp;done)|(go_simp;rfl));intro gb102 hg w151 hbox hb;have BK102:=Aside0.mk (hbox);have GW102:=Aside0.mk ((bs_ : w.heap.size ≤ gb102));have GE102:=Aside0.mk ((bs_ : w.heap.size ≤ gb102));replace HB:=Aside0.mk (below_step bel_ hb);have NB101_102:=Aside0.mk ((by rw [hg];exact Nat.ne_of_lt (blk_lt (g:=gb101) (o:=.cells #[.int .i64 a4_0,.int .i64 a4_1,.int .i64 a4_2,.string a4_3,.int .i64 a4_4,.int .i64 a4_5,.int .i64 a4_6] 23 (0,0)) (blk_mv BK101.out)) : gb101 ≠ gb102));have NB102_101:=Aside0.mk ((by rw [hg];exact Nat.ne_of_gt (blk_lt (g:=gb101) (o:=.cells #[.int .i64 a4_0,.int .i64 a4_1,.int .i64 a4_2,.string a4_3,.int .i64 a4_4,.int .i64 a4_5,.int .i64 a4_6] 23 (0,0)) (blk_mv BK101.out)) : gb102 ≠ gb101));replace BK101:=Aside0.mk (blk_below (blk_mv BK101.out) hb);clear hb hbox hg;have hnb152:=NB101_102.out;have hnc152:=NB102_101.out;have hcz153_0:=blk_c (v:=.int .i64 a4_0) BK101.out 0 rfl;have hcz153_1:=blk_c (v:=.int .i64 a4_1) BK101.out 1 rfl;have hcz153_2:=blk_c (v:=.int .i64 a4_2) BK101.out 2 rfl;have hcz153_3:=blk_c (v:=.string a4_3) BK101.out 3 rfl;have hcz153_4:=blk_c (v:=.int .i64 a4_4) BK101.out 4 rfl;have hcz153_5:=blk_c (v:=.int .i64 a4_5) BK101.out 5 rfl;have hcz153_6:=blk_c (v:=.int .i64 a4_6) BK101.out 6 rfl;have hfz153_0:=blk_frozen BK101.out 0;have hfz153_1:=blk_frozen BK101.out 1;have hfz153_2:=blk_frozen BK101.out 2;have hfz153_3:=blk_frozen BK101.out 3;have hfz153_4:=blk_frozen BK101.out 4;have hfz153_5:=blk_frozen BK101.out 5;have hfz153_6:=blk_frozen BK101.out 6)|((with_reducible refine gate_callee (f:=15) rfl ?_);refine goesL_ (some 14) rfl rfl Try.func15 (by kernel_rfl) rfl #[.agg #[.int .i64 a4_0,.int .i64 a4_1,.int .i64 a4_2,.string a4_3,.int .i64 a4_4,.int .i64 a4_5,.int .i64 a4_6]] rfl ln_ ?_;(with_reducible refine (changeforgeref5_CertFault.calls k a4_0 a4_1 a4_2 a4_3 a4_4 a4_5 a4_6 t103 t104 _ A6.out).mono ?_);rintro e w154 ⟨rfl,hb⟩;refine ⟨_,rfl,?_⟩;replace BK101:=Aside0.mk (blk_below (blk_mv BK101.out) hb);replace BK102:=Aside0.mk (blk_below (blk_mv BK102.out) hb);replace HB:=Aside0.mk (below_step bel_ hb);(try clear hb);(try clear hb2);(try clear hk);(try clear hi))|((with_reducible refine gate_dst (N:=11) rfl ?_);refine box_event ?hg (N:=11) ?hd (cs:=#[.int .i64 0,.int .i64 0]) (t:=26) ?hr ?_;(case hd => rfl);(case hg => rfl);(case hr => first|(go_simp;done)|(go_simp;rfl));intro gb105 hg w155 hbox hb;have BK105:=Aside0.mk (hbox);have GW105:=Aside0.mk ((bs_ : w.heap.size ≤ gb105));have GE105:=Aside0.mk ((bs_ : w.heap.size ≤ gb105));replace HB:=Aside0.mk (below_step bel_ hb);have NB101_105:=Aside0.mk ((by rw [hg];exact Nat.ne_of_lt (blk_lt (g:=gb101) (o:=.cells #[.int .i64 a4_0,.int .i64 a4_1,.int .i64 a4_2,.string a4_3,.int .i64 a4_4,.int .i64 a4_5,.int .i64 a4_6] 23 (0,0)) (blk_mv BK101.out)) : gb101 ≠ gb105));have NB105_101:=Aside0.mk ((by rw [hg];exact Nat.ne_of_gt (blk_lt (g:=gb101) (o:=.cells #[.int .i64 a4_0,.int .i64 a4_1,.int .i64 a4_2,.string a4_3,.int .i64 a4_4,.int .i64 a4_5,.int .i64 a4_6] 23 (0,0)) (blk_mv BK101.out)) : gb105 ≠ gb101));replace BK101:=Aside0.mk (blk_below (blk_mv BK101.out) hb);have NB102_105:=Aside0.mk ((by rw [hg];exact Nat.ne_of_lt (blk_lt (g:=gb102) (o:=.cells #[.int .i64 0,.int .i64 0] 26 (0,0)) (blk_mv BK102.out)) : gb102 ≠ gb105));have NB105_102:=Aside0.mk ((by rw [hg];exact Nat.ne_of_gt (blk_lt (g:=gb102) (o:=.cells #[.int .i64 0,.int .i64 0] 26 (0,0)) (blk_mv BK102.out)) : gb105 ≠ gb102));replace BK102:=Aside0.mk (blk_below (blk_mv BK102.out) hb);clear hb hbox hg;have hnb156:=NB105_101.out;have hnc156:=NB101_105.out;have hnb157:=NB105_102.out;have hnc157:=NB102_105.out;have hcz158_0:=blk_c (v:=.int .i64 0) BK105.out 0 rfl;have hcz158_1:=blk_c (v:=.int .i64 0) BK105.out 1 rfl;have hfz158_0:=blk_frozen BK105.out 0;have hfz158_1:=blk_frozen BK105.out 1;have hcz159_0:=blk_c (v:=.int .i64 0) BK102.out 0 rfl;have hcz159_1:=blk_c (v:=.int .i64 0) BK102.out 1 rfl;have hfz159_0:=blk_frozen BK102.out 0;have hfz159_1:=blk_frozen BK102.out 1));refine bodyPost_ret (results_cell_row rfl _ _ gb102 26 #[.int .i64 t103,.int .i64 t104] (0,0) _ rfl (by refine blk_mv ?_;refine blk_put (cs:=#[.int .i64 t103,.int .i64 0]) ?_ 1 _ rfl;refine blk_mv ?_;refine blk_put (cs:=#[.int .i64 0,.int .i64 0]) ?_ 0 _ rfl;refine blk_mv ?_;refine blk_far ?_ NB102_105.out _;refine blk_mv ?_;refine blk_far ?_ NB102_105.out _;refine blk_mv ?_;exact BK102.out) Try.underlying26 rfl (by kernel_rfl)) rfl ?_;exact ⟨by first|rfl|(simp [errW_none,errW_some] <;> rfl)|(simp [*,errW_none,errW_some] <;> rfl),bel_⟩

end Go.Proofs.Ytlbjefoipljkgaa.Fn
