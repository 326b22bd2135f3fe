/- A function of the program as a plain Lean function, and the proof that the call comes to just what it says (written by wip/tools/xprint.py for this claim). Condition: the plain function has an answer. -/
import Derived.Test.YtdelkdlegokbjaaFn0
import Derived.Test.YtdelkdlegokbjaaFf10
import Derived.Test.YtdelkdlegokbjaaFf11
import Derived.Test.YtdelkdlegokbjaaFf12
import Derived.Test.YtdelkdlegokbjaaFf13
import Derived.Test.YtdelkdlegokbjaaFf14
import Derived.Test.YtdelkdlegokbjaaFf15
import Derived.Test.YtdelkdlegokbjaaFf16
import Derived.Test.YtdelkdlegokbjaaFf17
import Derived.Test.YtdelkdlegokbjaaFf8
import Derived.Test.YtdelkdlegokbjaaFf9
import Derived.Test.YtdelkdlegokbjaaFs0
import Derived.Test.YtdelkdlegokbjaaWA
import Derived.Test.YtdelkdlegokbjaaTight
namespace Go.Proofs.Ytdelkdlegokbjaa.Fn
open Go.RowKit Go.Proofs.YtdelkdlegokbjaaW.PrintWords Go.Proofs.YtdelkdlegokbjaaW.PrintLast Go.Proofs.YtdelkdlegokbjaaW.PrintMore
attribute [local go_sem] max2_int min2_int max_two min_two max_three min_three max_four min_four   -- for this text's walks alone
set_option linter.unusedVariables false
set_option linter.unusedSimpArgs false

attribute [local go_sem high] eqA27
/-! ### changeforgelaw5_RolesMatchSpec: function 3 -/
mutual
def changeforgelaw5_RolesMatchSpec.j0 : Nat → List (S40) → ByteArray → List Int → List (S58) → Bool → Option (Bool)
 | 0,_,_,_,_,_ => none
 | k + 1,x0,x1,x2,x3,x28 => if x28 = true then (none) else ((changeforgeref5_PathFault.f k x0 x1).bind fun bt106 => ((roles_Chain.f k x0 x1).bind fun bt109 => ((roles_Of.f k x0 x1).bind fun bt115 => ((roles_Authorized.f k x0 x1 x2 x3).bind fun bt119 => (if (!(bt109.2.1 == bt106.1) || (!(bt109.2.2 == bt106.2))) = true then (changeforgelaw5_RolesMatchSpec.j1 k x0 x1 x2 x3 bt109.1 bt115.1 bt119.1 true bt106.1 bt106.2 bt109.2.1 bt109.2.2 bt115.2.1 bt115.2.2 bt119.2.1 bt119.2.2) else (if (!(bt115.2.1 == bt106.1) || (!(bt115.2.2 == bt106.2))) = true then (changeforgelaw5_RolesMatchSpec.j1 k x0 x1 x2 x3 bt109.1 bt115.1 bt119.1 true bt106.1 bt106.2 bt109.2.1 bt109.2.2 bt115.2.1 bt115.2.2 bt119.2.1 bt119.2.2) else (changeforgelaw5_RolesMatchSpec.j1 k x0 x1 x2 x3 bt109.1 bt115.1 bt119.1 (bt106.1 != 0) bt106.1 bt106.2 bt109.2.1 bt109.2.2 bt115.2.1 bt115.2.2 bt119.2.1 bt119.2.2)))))))
def changeforgelaw5_RolesMatchSpec.j1 : Nat → List (S40) → ByteArray → List Int → List (S58) → List Int → Int → Bool → Bool → Int → Int → Int → Int → Int → Int → Int → Int → Option (Bool)
 | 0,_,_,_,_,_,_,_,_,_,_,_,_,_,_,_,_ => none
 | k + 1,x0,x1,x2,x3,x10,x12,x14,x64,x109000,x109001,x115000,x115001,x119000,x119001,x123000,x123001 => if x64 = true then (if (x115000 == x109000 && (x115001 == x109001)) = true then (if (x119000 == x109000 && (x119001 == x109001)) = true then (if (x123000 == x109000 && (x123001 == x109001)) = true then (if (x10.length : Int) = 0 then (if x12 = 0 then (some (!x14)) else (none)) else (none)) else (none)) else (none)) else (none)) else ((changeforgeref5_RoleChain.f k x0 x1 0).bind fun t123 => (if 0 ≤ (wrap64 ((t123.length : Int) - 1)) then (if (wrap64 ((t123.length : Int) - 1)) < (t123.length : Int) then (if 0 ≤ (rd t123 (wrap64 ((t123.length : Int) - 1))) then (if (rd t123 (wrap64 ((t123.length : Int) - 1))) < (x0.length : Int) then ((changeforgeref5_SignersFault.f k ((rd_T40 x0 (rd t123 (wrap64 ((t123.length : Int) - 1)))).f2) x2 x3).bind fun bt128 => (if bt128.1 = 0 then ((changeforgeref5_Signers.f k ((rd_T40 x0 (rd t123 (wrap64 ((t123.length : Int) - 1)))).f2) x2 x3).bind fun t132 => ((changeforgeref5_Ints.f k x10 t123).bind fun t136 => (if t136 = true then (if x12 = (rd t123 (wrap64 ((t123.length : Int) - 1))) then (if (x123000 == bt128.1 && (x123001 == bt128.2)) = true then (some (x14 == (decide ((t132.length : Int) ≥ ((rd_T40 x0 (rd t123 (wrap64 ((t123.length : Int) - 1)))).f3))))) else (none)) else (none)) else (none)))) else ((changeforgeref5_Ints.f k x10 t123).bind fun t137 => (if t137 = true then (if x12 = (rd t123 (wrap64 ((t123.length : Int) - 1))) then (if (x123000 == bt128.1 && (x123001 == bt128.2)) = true then (some (x14 == false)) else (none)) else (none)) else (none))))) else (none)) else (none)) else (none)) else (none)))
end
def changeforgelaw5_RolesMatchSpec.f (k : Nat) (l0 : List (S40)) (a1 : ByteArray) (l2 : List Int) (l3 : List (S58)) : Option (Bool):=(changeforgelaw5_delegates.f).bind fun t101 => (if t101 = true then ((roles_Validate.f k l0).bind fun bt102 => ((changeforgeref5_RolesFault.f k l0).bind fun bt104 => (changeforgelaw5_RolesMatchSpec.j0 k l0 a1 l2 l3 (!(bt102.1 == bt104.1) || (!(bt102.2 == bt104.2)))))) else (changeforgelaw5_RolesMatchSpec.j0 k l0 a1 l2 l3 true))
theorem changeforgelaw5_RolesMatchSpec.mono_l : ∀ k,(∀ y0 y1 y2 y3 y4,LeO (changeforgelaw5_RolesMatchSpec.j0 k y0 y1 y2 y3 y4) (changeforgelaw5_RolesMatchSpec.j0 (k + 1) y0 y1 y2 y3 y4)) ∧ (∀ y0 y1 y2 y3 y4 y5 y6 y7 y8 y9 y10 y11 y12 y13 y14 y15,LeO (changeforgelaw5_RolesMatchSpec.j1 k y0 y1 y2 y3 y4 y5 y6 y7 y8 y9 y10 y11 y12 y13 y14 y15) (changeforgelaw5_RolesMatchSpec.j1 (k + 1) y0 y1 y2 y3 y4 y5 y6 y7 y8 y9 y10 y11 y12 y13 y14 y15))
 | 0 => ⟨fun _ _ _ _ _ r h => by simp [changeforgelaw5_RolesMatchSpec.j0] at h,fun _ _ _ _ _ _ _ _ _ _ _ _ _ _ _ _ r h => by simp [changeforgelaw5_RolesMatchSpec.j1] at h⟩
 | k + 1 => by
  obtain ⟨ih0,ih1⟩:=changeforgelaw5_RolesMatchSpec.mono_l k;refine ⟨?_,?_⟩
  ·intro y0 y1 y2 y3 y4
   unfold changeforgelaw5_RolesMatchSpec.j0;repeat' first
   | (with_reducible exact ih0 _ _ _ _ _)
   | (with_reducible exact ih1 _ _ _ _ _ _ _ _ _ _ _ _ _ _ _ _)
   | (with_reducible exact changeforgeref5_Ints.mono _ _ _)
   | (with_reducible exact changeforgeref5_PathFault.mono _ _ _)
   | (with_reducible exact changeforgeref5_RoleChain.mono _ _ _ _)
   | (with_reducible exact changeforgeref5_RolesFault.mono _ _)
   | (with_reducible exact changeforgeref5_Signers.mono _ _ _ _)
   | (with_reducible exact changeforgeref5_SignersFault.mono _ _ _ _)
   | (with_reducible exact roles_Authorized.mono _ _ _ _ _)
   | (with_reducible exact roles_Chain.mono _ _ _)
   | (with_reducible exact roles_Of.mono _ _ _)
   | (with_reducible exact roles_Validate.mono _ _)
   | (with_reducible exact LeO.refl _)
   | (with_reducible exact LeO.none _)
   | (with_reducible refine LeO.ite ?_ ?_)
   | (with_reducible refine LeO.bind ?_ (fun _ => ?_))
   | exact ih0 _ _ _ _ _
   | exact ih1 _ _ _ _ _ _ _ _ _ _ _ _ _ _ _ _
   | exact changeforgeref5_Ints.mono _ _ _
   | exact changeforgeref5_PathFault.mono _ _ _
   | exact changeforgeref5_RoleChain.mono _ _ _ _
   | exact changeforgeref5_RolesFault.mono _ _
   | exact changeforgeref5_Signers.mono _ _ _ _
   | exact changeforgeref5_SignersFault.mono _ _ _ _
   | exact roles_Authorized.mono _ _ _ _ _
   | exact roles_Chain.mono _ _ _
   | exact roles_Of.mono _ _ _
   | exact roles_Validate.mono _ _
   | exact LeO.none _
   | refine LeO.ite ?_ ?_
   | refine LeO.bind ?_ (fun _ => ?_)
  ·intro y0 y1 y2 y3 y4 y5 y6 y7 y8 y9 y10 y11 y12 y13 y14 y15
   unfold changeforgelaw5_RolesMatchSpec.j1;repeat' first
   | (with_reducible exact ih0 _ _ _ _ _)
   | (with_reducible exact ih1 _ _ _ _ _ _ _ _ _ _ _ _ _ _ _ _)
   | (with_reducible exact changeforgeref5_Ints.mono _ _ _)
   | (with_reducible exact changeforgeref5_PathFault.mono _ _ _)
   | (with_reducible exact changeforgeref5_RoleChain.mono _ _ _ _)
   | (with_reducible exact changeforgeref5_RolesFault.mono _ _)
   | (with_reducible exact changeforgeref5_Signers.mono _ _ _ _)
   | (with_reducible exact changeforgeref5_SignersFault.mono _ _ _ _)
   | (with_reducible exact roles_Authorized.mono _ _ _ _ _)
   | (with_reducible exact roles_Chain.mono _ _ _)
   | (with_reducible exact roles_Of.mono _ _ _)
   | (with_reducible exact roles_Validate.mono _ _)
   | (with_reducible exact LeO.refl _)
   | (with_reducible exact LeO.none _)
   | (with_reducible refine LeO.ite ?_ ?_)
   | (with_reducible refine LeO.bind ?_ (fun _ => ?_))
   | exact ih0 _ _ _ _ _
   | exact ih1 _ _ _ _ _ _ _ _ _ _ _ _ _ _ _ _
   | exact changeforgeref5_Ints.mono _ _ _
   | exact changeforgeref5_PathFault.mono _ _ _
   | exact changeforgeref5_RoleChain.mono _ _ _ _
   | exact changeforgeref5_RolesFault.mono _ _
   | exact changeforgeref5_Signers.mono _ _ _ _
   | exact changeforgeref5_SignersFault.mono _ _ _ _
   | exact roles_Authorized.mono _ _ _ _ _
   | exact roles_Chain.mono _ _ _
   | exact roles_Of.mono _ _ _
   | exact roles_Validate.mono _ _
   | exact LeO.none _
   | refine LeO.ite ?_ ?_
   | refine LeO.bind ?_ (fun _ => ?_)
theorem changeforgelaw5_RolesMatchSpec.mono : ∀ a0 a1 a2 a3 k,LeO (changeforgelaw5_RolesMatchSpec.f k a0 a1 a2 a3) (changeforgelaw5_RolesMatchSpec.f (k + 1) a0 a1 a2 a3):=by
 intro a0 a1 a2 a3 k;obtain ⟨ih0,ih1⟩:=changeforgelaw5_RolesMatchSpec.mono_l k;unfold changeforgelaw5_RolesMatchSpec.f
 repeat' first
   | (with_reducible exact ih0 _ _ _ _ _)
   | (with_reducible exact ih1 _ _ _ _ _ _ _ _ _ _ _ _ _ _ _ _)
   | (with_reducible exact changeforgeref5_Ints.mono _ _ _)
   | (with_reducible exact changeforgeref5_PathFault.mono _ _ _)
   | (with_reducible exact changeforgeref5_RoleChain.mono _ _ _ _)
   | (with_reducible exact changeforgeref5_RolesFault.mono _ _)
   | (with_reducible exact changeforgeref5_Signers.mono _ _ _ _)
   | (with_reducible exact changeforgeref5_SignersFault.mono _ _ _ _)
   | (with_reducible exact roles_Authorized.mono _ _ _ _ _)
   | (with_reducible exact roles_Chain.mono _ _ _)
   | (with_reducible exact roles_Of.mono _ _ _)
   | (with_reducible exact roles_Validate.mono _ _)
   | (with_reducible exact LeO.refl _)
   | (with_reducible exact LeO.none _)
   | (with_reducible refine LeO.ite ?_ ?_)
   | (with_reducible refine LeO.bind ?_ (fun _ => ?_))
   | exact ih0 _ _ _ _ _
   | exact ih1 _ _ _ _ _ _ _ _ _ _ _ _ _ _ _ _
   | exact changeforgeref5_Ints.mono _ _ _
   | exact changeforgeref5_PathFault.mono _ _ _
   | exact changeforgeref5_RoleChain.mono _ _ _ _
   | exact changeforgeref5_RolesFault.mono _ _
   | exact changeforgeref5_Signers.mono _ _ _ _
   | exact changeforgeref5_SignersFault.mono _ _ _ _
   | exact roles_Authorized.mono _ _ _ _ _
   | exact roles_Chain.mono _ _ _
   | exact roles_Of.mono _ _ _
   | exact roles_Validate.mono _ _
   | exact LeO.none _
   | refine LeO.ite ?_ ?_
   | refine LeO.bind ?_ (fun _ => ?_)
def changeforgelaw5_RolesMatchSpec.T12 : Bool × List (List Nat × List Nat):=(true,[([],[]),([0],[0]),([1],[1]),([2],[2]),([3],[3]),([3],[3]),([4,5,3],[3,4,5]),([6,3],[3,6]),([7,3],[3,7]),([3],[3]),([3],[3]),([8,9,10,3,3],[3,8,9,10]),([11,3],[3,11]),([3],[3]),([3],[3]),([13,14,3],[3,13,14]),([15,3],[3,15]),([16,3],[3,16]),([12,17,3],[3,12,17]),([3,18],[3,18]),([19,11,0,1,2,3,4,5,6,7,8,9,10,11,12,13,14,15,16,17,18,19],[19])])
def changeforgelaw5_RolesMatchSpec.B12 : List Nat:=[0,1,3,7,15,15,63,127,255,15,15,2047,4095,15,15,24591,57359,122895,262143,524287,1048575]
theorem changeforgelaw5_RolesMatchSpec.tab12 : rtab .any (opsOf Try.f3 12) = changeforgelaw5_RolesMatchSpec.T12:=by kernel_rfl
theorem changeforgelaw5_RolesMatchSpec.bits12 : waitsOk changeforgelaw5_RolesMatchSpec.T12.2 changeforgelaw5_RolesMatchSpec.B12 = true:=by kernel_rfl
set_option maxHeartbeats 8000000 in
set_option maxRecDepth 100000 in
theorem changeforgelaw5_RolesMatchSpec.calls (k : Nat) (A0 : Option Addr) (c0 : Nat) (l0 : List (S40)) (a1 : ByteArray) (A2 : Option Addr) (c2 : Nat) (l2 : List Int) (A3 : Option Addr) (c3 : Nat) (l3 : List (S58)) (r : Bool) (w : World) (hr0 : Kd.C k40 w A0 l0.length l0) (hc0 : l0.length ≤ c0) (hr2 : Kd.C (Kd.int .u8) w A2 l2.length l2) (hc2 : l2.length ≤ c2) (hr3 : Kd.C k58 w A3 l3.length l3) (hc3 : l3.length ≤ c3) (h : changeforgelaw5_RolesMatchSpec.f k l0 a1 l2 l3 = some r) :
  Calls Try.prog 3 #[.slice A0 l0.length c0,.string a1,.slice A2 l2.length c2,.slice A3 l3.length c3] w fun e w' => e = .returned (.bool r) ∧ Below w.heap.size w w':=by
 have hu27:=Try.underlying27;have HR0:=Aside0.mk hr0;have HC0:=Aside0.mk hc0;clear hr0 hc0;have HR2:=Aside0.mk hr2;have HC2:=Aside0.mk hc2;clear hr2 hc2;have HR3:=Aside0.mk hr3;have HC3:=Aside0.mk hc3;clear hr3 hc3;have HB:=Aside0.mk (Below.refl w.heap.size w);have H : ((changeforgelaw5_delegates.f).bind fun t101 => (if t101 = true then ((roles_Validate.f k l0).bind fun bt102 => ((changeforgeref5_RolesFault.f k l0).bind fun bt104 => (changeforgelaw5_RolesMatchSpec.j0 k l0 a1 l2 l3 (!(bt102.1 == bt104.1) || (!(bt102.2 == bt104.2)))))) else (changeforgelaw5_RolesMatchSpec.j0 k l0 a1 l2 l3 true))) = some r:=h;clear h;have HC5:=Aside0.mk H;clear H;go_enter Try.func3,Try.ntmps3;go_upto_region 1 with (fail);go_cut [28] (fun v28 wc => ∃ (kq : Nat) (x28_4 : Bool),v28 = .bool x28_4 ∧ Aside0 (changeforgelaw5_RolesMatchSpec.j0 kq l0 a1 l2 l3 x28_4 = some r) ∧ Aside0 (kq ≤ k) ∧ Aside0 (Below w.heap.size w wc))
 case first =>
  have H:=HC5.out;clear HC5;replace H:=Option.bind_eq_some_iff.mp H;obtain ⟨t101,A60,H⟩:=H;replace H : (if t101 = true then ((roles_Validate.f k l0).bind fun bt102 => ((changeforgeref5_RolesFault.f k l0).bind fun bt104 => (changeforgelaw5_RolesMatchSpec.j0 k l0 a1 l2 l3 (!(bt102.1 == bt104.1) || (!(bt102.2 == bt104.2)))))) else (changeforgelaw5_RolesMatchSpec.j0 k l0 a1 l2 l3 true)) = some r:=H;have A6:=Aside0.mk A60;clear A60;by_cases c7 : t101 = true
  ·subst c7
   have H1 : ((roles_Validate.f k l0).bind fun bt102 => ((changeforgeref5_RolesFault.f k l0).bind fun bt104 => (changeforgelaw5_RolesMatchSpec.j0 k l0 a1 l2 l3 (!(bt102.1 == bt104.1) || (!(bt102.2 == bt104.2)))))) = some r:=by rw [if_pos rfl] at H;exact H
   clear H;have H:=H1;clear H1;replace H:=Option.bind_eq_some_iff.mp H;obtain ⟨⟨t102,t103⟩,A80,H⟩:=H;replace H : ((changeforgeref5_RolesFault.f k l0).bind fun bt104 => (changeforgelaw5_RolesMatchSpec.j0 k l0 a1 l2 l3 (!(t102 == bt104.1) || (!(t103 == bt104.2))))) = some r:=H;have A8:=Aside0.mk A80;clear A80;replace H:=Option.bind_eq_some_iff.mp H;obtain ⟨⟨t104,t105⟩,A90,H⟩:=H;replace H : (changeforgelaw5_RolesMatchSpec.j0 k l0 a1 l2 l3 (!(t102 == t104) || (!(t103 == t105)))) = some r:=H;have A9:=Aside0.mk A90;clear A90;have H':=Aside0.mk H;clear H;go_wp2_with (first|((with_reducible refine gate_callee (f:=8) rfl ?_);refine goesL_ (some 20) rfl rfl Try.func8 (by kernel_rfl) rfl #[] rfl ln_ ?_;(with_reducible refine (changeforgelaw5_delegates.calls  true _ A6.out).mono ?_);rintro e w10 ⟨rfl,hb⟩;refine ⟨_,rfl,?_⟩;replace HB:=Aside0.mk (below_step bel_ hb);(try clear hb);(try clear hb2);(try clear hk);(try clear hi))|(go_at_call 9;(with_reducible refine (roles_Validate.calls k _ _ l0 t102 t103 _ ?side1 ?side2 A8.out).mono ?_);(case side1 => first|exact (Kd.C_below HR0.out HB.out)|exact Kd.C_mv (Kd.C_below HR0.out HB.out));(case side2 => exact HC0.out);rintro e w11 ⟨rfl,hb⟩;replace HB:=Aside0.mk (below_step bel_ hb);(try clear hb);(try clear hb2);(try clear hk);(try clear hi))|(go_at_call 10;(with_reducible refine (changeforgeref5_RolesFault.calls k _ _ l0 t104 t105 _ ?side1 ?side2 A9.out).mono ?_);(case side1 => first|exact (Kd.C_below HR0.out HB.out)|exact Kd.C_mv (Kd.C_below HR0.out HB.out));(case side2 => exact HC0.out);rintro e w12 ⟨rfl,hb⟩;replace HB:=Aside0.mk (below_step bel_ hb);(try clear hb);(try clear hb2);(try clear hk);(try clear hi)));go_meet
   case rel => exact ⟨_,((!(t102 == t104) || (!(t103 == t105)))),fr_,H',⟨om_⟩,⟨bel_⟩⟩
  ·replace c7:=Bool.eq_false_iff.mpr c7
   subst c7;have H1 : (changeforgelaw5_RolesMatchSpec.j0 k l0 a1 l2 l3 true) = some r:=by rw [if_neg (show ¬ (false = true) by decide)] at H;exact H
   clear H;have H:=H1;clear H1;have H':=Aside0.mk H;clear H;go_wp2_with (first|((with_reducible refine gate_callee (f:=8) rfl ?_);refine goesL_ (some 20) rfl rfl Try.func8 (by kernel_rfl) rfl #[] rfl ln_ ?_;(with_reducible refine (changeforgelaw5_delegates.calls  false _ A6.out).mono ?_);rintro e w13 ⟨rfl,hb⟩;refine ⟨_,rfl,?_⟩;replace HB:=Aside0.mk (below_step bel_ hb);(try clear hb);(try clear hb2);(try clear hk);(try clear hi)));go_meet
   case rel => exact ⟨_,(true),fr_,H',⟨om_⟩,⟨bel_⟩⟩
 case rest =>
  clear HC5;(try clear c2);(try clear p2);(try clear c3);(try clear c7);(try clear c8);obtain ⟨kq,x28_4,rfl,HA,HJ4,HB⟩:=hcut;cases kq with
  | zero => exact absurd HA.out (by simp [changeforgelaw5_RolesMatchSpec.j0])
  | succ kj4 =>
   have H:=HA.out;clear HA;simp only [changeforgelaw5_RolesMatchSpec.j0] at H;by_cases c14 : x28_4 = true
   ·subst c14
    have H1 : (none) = some r:=by rw [if_pos rfl] at H;exact H
    clear H;have H:=H1;clear H1;exact absurd H (by simp)
   ·replace c14:=Bool.eq_false_iff.mpr c14
    subst c14;have H1 : ((changeforgeref5_PathFault.f kj4 l0 a1).bind fun bt106 => ((roles_Chain.f kj4 l0 a1).bind fun bt109 => ((roles_Of.f kj4 l0 a1).bind fun bt115 => ((roles_Authorized.f kj4 l0 a1 l2 l3).bind fun bt119 => (if (!(bt109.2.1 == bt106.1) || (!(bt109.2.2 == bt106.2))) = true then (changeforgelaw5_RolesMatchSpec.j1 kj4 l0 a1 l2 l3 bt109.1 bt115.1 bt119.1 true bt106.1 bt106.2 bt109.2.1 bt109.2.2 bt115.2.1 bt115.2.2 bt119.2.1 bt119.2.2) else (if (!(bt115.2.1 == bt106.1) || (!(bt115.2.2 == bt106.2))) = true then (changeforgelaw5_RolesMatchSpec.j1 kj4 l0 a1 l2 l3 bt109.1 bt115.1 bt119.1 true bt106.1 bt106.2 bt109.2.1 bt109.2.2 bt115.2.1 bt115.2.2 bt119.2.1 bt119.2.2) else (changeforgelaw5_RolesMatchSpec.j1 kj4 l0 a1 l2 l3 bt109.1 bt115.1 bt119.1 (bt106.1 != 0) bt106.1 bt106.2 bt109.2.1 bt109.2.2 bt115.2.1 bt115.2.2 bt119.2.1 bt119.2.2))))))) = some r:=by rw [if_neg (show ¬ (false = true) by decide)] at H;exact H
    clear H;have H:=H1;clear H1;replace H:=Option.bind_eq_some_iff.mp H;obtain ⟨⟨t106,t107⟩,A150,H⟩:=H;replace H : ((roles_Chain.f kj4 l0 a1).bind fun bt109 => ((roles_Of.f kj4 l0 a1).bind fun bt115 => ((roles_Authorized.f kj4 l0 a1 l2 l3).bind fun bt119 => (if (!(bt109.2.1 == t106) || (!(bt109.2.2 == t107))) = true then (changeforgelaw5_RolesMatchSpec.j1 kj4 l0 a1 l2 l3 bt109.1 bt115.1 bt119.1 true t106 t107 bt109.2.1 bt109.2.2 bt115.2.1 bt115.2.2 bt119.2.1 bt119.2.2) else (if (!(bt115.2.1 == t106) || (!(bt115.2.2 == t107))) = true then (changeforgelaw5_RolesMatchSpec.j1 kj4 l0 a1 l2 l3 bt109.1 bt115.1 bt119.1 true t106 t107 bt109.2.1 bt109.2.2 bt115.2.1 bt115.2.2 bt119.2.1 bt119.2.2) else (changeforgelaw5_RolesMatchSpec.j1 kj4 l0 a1 l2 l3 bt109.1 bt115.1 bt119.1 (t106 != 0) t106 t107 bt109.2.1 bt109.2.2 bt115.2.1 bt115.2.2 bt119.2.1 bt119.2.2)))))) = some r:=H;have A15:=Aside0.mk A150;clear A150;replace H:=Option.bind_eq_some_iff.mp H;obtain ⟨⟨t109,t112,t113⟩,A160,H⟩:=H;replace H : ((roles_Of.f kj4 l0 a1).bind fun bt115 => ((roles_Authorized.f kj4 l0 a1 l2 l3).bind fun bt119 => (if (!(t112 == t106) || (!(t113 == t107))) = true then (changeforgelaw5_RolesMatchSpec.j1 kj4 l0 a1 l2 l3 t109 bt115.1 bt119.1 true t106 t107 t112 t113 bt115.2.1 bt115.2.2 bt119.2.1 bt119.2.2) else (if (!(bt115.2.1 == t106) || (!(bt115.2.2 == t107))) = true then (changeforgelaw5_RolesMatchSpec.j1 kj4 l0 a1 l2 l3 t109 bt115.1 bt119.1 true t106 t107 t112 t113 bt115.2.1 bt115.2.2 bt119.2.1 bt119.2.2) else (changeforgelaw5_RolesMatchSpec.j1 kj4 l0 a1 l2 l3 t109 bt115.1 bt119.1 (t106 != 0) t106 t107 t112 t113 bt115.2.1 bt115.2.2 bt119.2.1 bt119.2.2))))) = some r:=H;have A16:=Aside0.mk A160;clear A160;replace H:=Option.bind_eq_some_iff.mp H;obtain ⟨⟨t115,t116,t117⟩,A170,H⟩:=H;replace H : ((roles_Authorized.f kj4 l0 a1 l2 l3).bind fun bt119 => (if (!(t112 == t106) || (!(t113 == t107))) = true then (changeforgelaw5_RolesMatchSpec.j1 kj4 l0 a1 l2 l3 t109 t115 bt119.1 true t106 t107 t112 t113 t116 t117 bt119.2.1 bt119.2.2) else (if (!(t116 == t106) || (!(t117 == t107))) = true then (changeforgelaw5_RolesMatchSpec.j1 kj4 l0 a1 l2 l3 t109 t115 bt119.1 true t106 t107 t112 t113 t116 t117 bt119.2.1 bt119.2.2) else (changeforgelaw5_RolesMatchSpec.j1 kj4 l0 a1 l2 l3 t109 t115 bt119.1 (t106 != 0) t106 t107 t112 t113 t116 t117 bt119.2.1 bt119.2.2)))) = some r:=H;have A17:=Aside0.mk A170;clear A170;replace H:=Option.bind_eq_some_iff.mp H;obtain ⟨⟨t119,t120,t121⟩,A180,H⟩:=H;replace H : (if (!(t112 == t106) || (!(t113 == t107))) = true then (changeforgelaw5_RolesMatchSpec.j1 kj4 l0 a1 l2 l3 t109 t115 t119 true t106 t107 t112 t113 t116 t117 t120 t121) else (if (!(t116 == t106) || (!(t117 == t107))) = true then (changeforgelaw5_RolesMatchSpec.j1 kj4 l0 a1 l2 l3 t109 t115 t119 true t106 t107 t112 t113 t116 t117 t120 t121) else (changeforgelaw5_RolesMatchSpec.j1 kj4 l0 a1 l2 l3 t109 t115 t119 (t106 != 0) t106 t107 t112 t113 t116 t117 t120 t121))) = some r:=H;have A18:=Aside0.mk A180;clear A180;have HC19:=Aside0.mk H;clear H;go_upto_region 7 with (first|((with_reducible refine gate_callee (f:=11) rfl ?_);refine goesL_ (some 31) rfl rfl Try.func11 (by kernel_rfl) rfl #[.slice A0 l0.length c0,.string a1] rfl ln_ ?_;(with_reducible refine (changeforgeref5_PathFault.calls kj4 _ _ l0 a1 t106 t107 _ ?side1 ?side2 A15.out).mono ?_);(case side1 => first|exact (Kd.C_below HR0.out HB.out)|exact Kd.C_mv (Kd.C_below HR0.out HB.out));(case side2 => exact HC0.out);rintro e w20 ⟨rfl,hb⟩;refine ⟨_,rfl,?_⟩;replace HB:=Aside0.mk (below_step bel_ hb);(try clear hb);(try clear hb2);(try clear hk);(try clear hi))|((with_reducible refine gate_dst (N:=9) rfl ?_);(try (refine gate_guard (by rfl) ?_;dsimp only));refine box_event ?hg (N:=9) ?hd (cs:=#[.int .i64 0,.int .i64 0]) (t:=27) ?hr ?_;(case hd => rfl);(case hg => rfl);(case hr => first|(go_simp;done)|(go_simp;rfl));intro gb108 hg w21 hbox hb;have BK108:=Aside0.mk (hbox);have GW108:=Aside0.mk ((bs_ : w.heap.size ≤ gb108));have GE108:=Aside0.mk ((bs_ : w.heap.size ≤ gb108));replace HB:=Aside0.mk (below_step bel_ hb);clear hb hbox hg;have hcz22_0:=blk_c (v:=.int .i64 0) BK108.out 0 rfl;have hcz22_1:=blk_c (v:=.int .i64 0) BK108.out 1 rfl;have hfz22_0:=blk_frozen BK108.out 0;have hfz22_1:=blk_frozen BK108.out 1)|((with_reducible refine gate_callee (f:=12) rfl ?_);refine goesL_ (some 35) rfl rfl Try.func12 (by kernel_rfl) rfl #[.slice A0 l0.length c0,.string a1] rfl ln_ ?_;(with_reducible refine (roles_Chain.calls kj4 _ _ l0 a1 t109 t112 t113 _ ?side1 ?side2 A16.out).mono ?_);(case side1 => exact Kd.C_below HR0.out bel_);(case side2 => exact HC0.out);rintro e w23 ⟨v110,rfl,ho0,hb⟩;refine ⟨_,rfl,?_⟩;have HO111:=Aside0.mk (Kd.R_lower ho0 (below_size bel_));replace BK108:=Aside0.mk (blk_below (g:=gb108) (o:=.cells #[.int .i64 t106,.int .i64 t107] 27 (0,0)) (by refine blk_mv ?_;refine blk_put (cs:=#[.int .i64 t106,.int .i64 0]) ?_ 1 _ rfl;refine blk_mv ?_;refine blk_put (cs:=#[.int .i64 0,.int .i64 0]) ?_ 0 _ rfl;refine blk_mv ?_;exact BK108.out) hb);replace HB:=Aside0.mk (below_step bel_ hb);(try clear hb);(try clear hb2);(try clear hk);(try clear hi);(try clear ho0))|((with_reducible refine gate_dst (N:=11) rfl ?_);(try (refine gate_guard (by rfl) ?_;dsimp only));refine box_event ?hg (N:=11) ?hd (cs:=#[.int .i64 0,.int .i64 0]) (t:=27) ?hr ?_;(case hd => rfl);(case hg => rfl);(case hr => first|(go_simp;done)|(go_simp;rfl));intro gb114 hg w24 hbox hb;replace HO111:=Aside0.mk (Kd.R_below (Kd.R_mv HO111.out) hb);have BK114:=Aside0.mk (hbox);have GW114:=Aside0.mk ((bs_ : w.heap.size ≤ gb114));have GE114:=Aside0.mk ((bs_ : w.heap.size ≤ gb114));replace HB:=Aside0.mk (below_step bel_ hb);have NB108_114:=Aside0.mk ((by rw [hg];exact Nat.ne_of_lt (blk_lt (g:=gb108) (o:=.cells #[.int .i64 t106,.int .i64 t107] 27 (0,0)) (blk_mv BK108.out)) : gb108 ≠ gb114));have NB114_108:=Aside0.mk ((by rw [hg];exact Nat.ne_of_gt (blk_lt (g:=gb108) (o:=.cells #[.int .i64 t106,.int .i64 t107] 27 (0,0)) (blk_mv BK108.out)) : gb114 ≠ gb108));replace BK108:=Aside0.mk (blk_below (blk_mv BK108.out) hb);clear hb hbox hg;have hnb25:=NB114_108.out;have hnc25:=NB108_114.out;have hcz26_0:=blk_c (v:=.int .i64 0) BK114.out 0 rfl;have hcz26_1:=blk_c (v:=.int .i64 0) BK114.out 1 rfl;have hfz26_0:=blk_frozen BK114.out 0;have hfz26_1:=blk_frozen BK114.out 1)|((with_reducible refine gate_callee (f:=13) rfl ?_);refine goesL_ (some 41) rfl rfl Try.func13 (by kernel_rfl) rfl #[.slice A0 l0.length c0,.string a1] rfl ln_ ?_;(with_reducible refine (roles_Of.calls kj4 _ _ l0 a1 t115 t116 t117 _ ?side1 ?side2 A17.out).mono ?_);(case side1 => exact Kd.C_below HR0.out bel_);(case side2 => exact HC0.out);rintro e w27 ⟨rfl,hb⟩;refine ⟨_,rfl,?_⟩;replace HO111:=Aside0.mk (Kd.R_below (by (with_reducible repeat (first|apply Kd.R_alloc|apply Kd.R_drewN|apply Kd.R_drew));exact (Kd.R_mono (Kd.R_far (p:=⟨gb114,1,none⟩) (Kd.R_far (p:=⟨gb114,0,none⟩) (Kd.R_types HO111.out BK114.out (by decide)) (fun _ hk => hk.2) (.int .i64 t112)) (fun _ hk => hk.2) (.int .i64 t113)) (fun _ h_ => h_.1))) hb);replace BK108:=Aside0.mk (blk_below (g:=gb108) (o:=.cells #[.int .i64 t106,.int .i64 t107] 27 (0,0)) (by refine blk_mv ?_;refine blk_far ?_ NB108_114.out _;refine blk_mv ?_;refine blk_far ?_ NB108_114.out _;refine blk_mv ?_;exact BK108.out) hb);replace BK114:=Aside0.mk (blk_below (g:=gb114) (o:=.cells #[.int .i64 t112,.int .i64 t113] 27 (0,0)) (by refine blk_mv ?_;refine blk_put (cs:=#[.int .i64 t112,.int .i64 0]) ?_ 1 _ rfl;refine blk_mv ?_;refine blk_put (cs:=#[.int .i64 0,.int .i64 0]) ?_ 0 _ rfl;refine blk_mv ?_;exact BK114.out) hb);replace HB:=Aside0.mk (below_step bel_ hb);(try clear hb);(try clear hb2);(try clear hk);(try clear hi))|((with_reducible refine gate_dst (N:=13) rfl ?_);(try (refine gate_guard (by rfl) ?_;dsimp only));refine box_event ?hg (N:=13) ?hd (cs:=#[.int .i64 0,.int .i64 0]) (t:=27) ?hr ?_;(case hd => rfl);(case hg => rfl);(case hr => first|(go_simp;done)|(go_simp;rfl));intro gb118 hg w28 hbox hb;replace HO111:=Aside0.mk (Kd.R_below (Kd.R_mv HO111.out) hb);have BK118:=Aside0.mk (hbox);have GW118:=Aside0.mk ((bs_ : w.heap.size ≤ gb118));have GE118:=Aside0.mk ((bs_ : w.heap.size ≤ gb118));replace HB:=Aside0.mk (below_step bel_ hb);have NB108_118:=Aside0.mk ((by rw [hg];exact Nat.ne_of_lt (blk_lt (g:=gb108) (o:=.cells #[.int .i64 t106,.int .i64 t107] 27 (0,0)) (blk_mv BK108.out)) : gb108 ≠ gb118));have NB118_108:=Aside0.mk ((by rw [hg];exact Nat.ne_of_gt (blk_lt (g:=gb108) (o:=.cells #[.int .i64 t106,.int .i64 t107] 27 (0,0)) (blk_mv BK108.out)) : gb118 ≠ gb108));replace BK108:=Aside0.mk (blk_below (blk_mv BK108.out) hb);have NB114_118:=Aside0.mk ((by rw [hg];exact Nat.ne_of_lt (blk_lt (g:=gb114) (o:=.cells #[.int .i64 t112,.int .i64 t113] 27 (0,0)) (blk_mv BK114.out)) : gb114 ≠ gb118));have NB118_114:=Aside0.mk ((by rw [hg];exact Nat.ne_of_gt (blk_lt (g:=gb114) (o:=.cells #[.int .i64 t112,.int .i64 t113] 27 (0,0)) (blk_mv BK114.out)) : gb118 ≠ gb114));replace BK114:=Aside0.mk (blk_below (blk_mv BK114.out) hb);clear hb hbox hg;have hnb29:=NB118_108.out;have hnc29:=NB108_118.out;have hnb30:=NB118_114.out;have hnc30:=NB114_118.out;have hcz31_0:=blk_c (v:=.int .i64 0) BK118.out 0 rfl;have hcz31_1:=blk_c (v:=.int .i64 0) BK118.out 1 rfl;have hfz31_0:=blk_frozen BK118.out 0;have hfz31_1:=blk_frozen BK118.out 1)|((with_reducible refine gate_callee (f:=14) rfl ?_);refine goesL_ (some 49) rfl rfl Try.func14 (by kernel_rfl) rfl #[.slice A0 l0.length c0,.string a1,.slice A2 l2.length c2,.slice A3 l3.length c3] rfl ln_ ?_;(with_reducible refine (roles_Authorized.calls kj4 _ _ l0 a1 _ _ l2 _ _ l3 t119 t120 t121 _ ?side1 ?side2 ?side3 ?side4 ?side5 ?side6 A18.out).mono ?_);(case side1 => exact Kd.C_below HR0.out bel_);(case side2 => exact HC0.out);(case side3 => exact Kd.C_below HR2.out bel_);(case side4 => exact HC2.out);(case side5 => exact Kd.C_below HR3.out bel_);(case side6 => exact HC3.out);rintro e w32 ⟨rfl,hb⟩;refine ⟨_,rfl,?_⟩;replace HO111:=Aside0.mk (Kd.R_below (by (with_reducible repeat (first|apply Kd.R_alloc|apply Kd.R_drewN|apply Kd.R_drew));exact (Kd.R_mono (Kd.R_far (p:=⟨gb118,1,none⟩) (Kd.R_far (p:=⟨gb118,0,none⟩) (Kd.R_types HO111.out BK118.out (by decide)) (fun _ hk => hk.2) (.int .i64 t116)) (fun _ hk => hk.2) (.int .i64 t117)) (fun _ h_ => h_.1))) hb);replace BK108:=Aside0.mk (blk_below (g:=gb108) (o:=.cells #[.int .i64 t106,.int .i64 t107] 27 (0,0)) (by refine blk_mv ?_;refine blk_far ?_ NB108_118.out _;refine blk_mv ?_;refine blk_far ?_ NB108_118.out _;refine blk_mv ?_;exact BK108.out) hb);replace BK114:=Aside0.mk (blk_below (g:=gb114) (o:=.cells #[.int .i64 t112,.int .i64 t113] 27 (0,0)) (by refine blk_mv ?_;refine blk_far ?_ NB114_118.out _;refine blk_mv ?_;refine blk_far ?_ NB114_118.out _;refine blk_mv ?_;exact BK114.out) hb);replace BK118:=Aside0.mk (blk_below (g:=gb118) (o:=.cells #[.int .i64 t116,.int .i64 t117] 27 (0,0)) (by refine blk_mv ?_;refine blk_put (cs:=#[.int .i64 t116,.int .i64 0]) ?_ 1 _ rfl;refine blk_mv ?_;refine blk_put (cs:=#[.int .i64 0,.int .i64 0]) ?_ 0 _ rfl;refine blk_mv ?_;exact BK118.out) hb);replace HB:=Aside0.mk (below_step bel_ hb);(try clear hb);(try clear hb2);(try clear hk);(try clear hi))|((with_reducible refine gate_dst (N:=15) rfl ?_);(try (refine gate_guard (by rfl) ?_;dsimp only));refine box_event ?hg (N:=15) ?hd (cs:=#[.int .i64 0,.int .i64 0]) (t:=27) ?hr ?_;(case hd => rfl);(case hg => rfl);(case hr => first|(go_simp;done)|(go_simp;rfl));intro gb122 hg w33 hbox hb;replace HO111:=Aside0.mk (Kd.R_below (Kd.R_mv HO111.out) hb);have BK122:=Aside0.mk (hbox);have GW122:=Aside0.mk ((bs_ : w.heap.size ≤ gb122));have GE122:=Aside0.mk ((bs_ : w.heap.size ≤ gb122));replace HB:=Aside0.mk (below_step bel_ hb);have NB108_122:=Aside0.mk ((by rw [hg];exact Nat.ne_of_lt (blk_lt (g:=gb108) (o:=.cells #[.int .i64 t106,.int .i64 t107] 27 (0,0)) (blk_mv BK108.out)) : gb108 ≠ gb122));have NB122_108:=Aside0.mk ((by rw [hg];exact Nat.ne_of_gt (blk_lt (g:=gb108) (o:=.cells #[.int .i64 t106,.int .i64 t107] 27 (0,0)) (blk_mv BK108.out)) : gb122 ≠ gb108));replace BK108:=Aside0.mk (blk_below (blk_mv BK108.out) hb);have NB114_122:=Aside0.mk ((by rw [hg];exact Nat.ne_of_lt (blk_lt (g:=gb114) (o:=.cells #[.int .i64 t112,.int .i64 t113] 27 (0,0)) (blk_mv BK114.out)) : gb114 ≠ gb122));have NB122_114:=Aside0.mk ((by rw [hg];exact Nat.ne_of_gt (blk_lt (g:=gb114) (o:=.cells #[.int .i64 t112,.int .i64 t113] 27 (0,0)) (blk_mv BK114.out)) : gb122 ≠ gb114));replace BK114:=Aside0.mk (blk_below (blk_mv BK114.out) hb);have NB118_122:=Aside0.mk ((by rw [hg];exact Nat.ne_of_lt (blk_lt (g:=gb118) (o:=.cells #[.int .i64 t116,.int .i64 t117] 27 (0,0)) (blk_mv BK118.out)) : gb118 ≠ gb122));have NB122_118:=Aside0.mk ((by rw [hg];exact Nat.ne_of_gt (blk_lt (g:=gb118) (o:=.cells #[.int .i64 t116,.int .i64 t117] 27 (0,0)) (blk_mv BK118.out)) : gb122 ≠ gb118));replace BK118:=Aside0.mk (blk_below (blk_mv BK118.out) hb);clear hb hbox hg;have hnb34:=NB122_108.out;have hnc34:=NB108_122.out;have hnb35:=NB122_114.out;have hnc35:=NB114_122.out;have hnb36:=NB122_118.out;have hnc36:=NB118_122.out;have hcz37_0:=blk_c (v:=.int .i64 0) BK122.out 0 rfl;have hcz37_1:=blk_c (v:=.int .i64 0) BK122.out 1 rfl;have hfz37_0:=blk_frozen BK122.out 0;have hfz37_1:=blk_frozen BK122.out 1));(try simp only [Act.put,sa_,sb_,sc_]);go_cut [64] (fun v64 wc => ∃ (kq : Nat) (x64_18 : Bool),v64 = .bool x64_18 ∧ Aside0 (changeforgelaw5_RolesMatchSpec.j1 kq l0 a1 l2 l3 t109 t115 t119 x64_18 t106 t107 t112 t113 t116 t117 t120 t121 = some r) ∧ Aside0 (kq ≤ kj4) ∧ Aside0 (Kd.R (Kd.int .i64) 3 wc w.heap.size (fun _ => True) v110 t109) ∧ Aside0 (wc.heap[gb108]? = some (.cells #[.int .i64 t106,.int .i64 t107] 27 (0,0))) ∧ Aside0 (wc.heap[gb114]? = some (.cells #[.int .i64 t112,.int .i64 t113] 27 (0,0))) ∧ Aside0 (wc.heap[gb118]? = some (.cells #[.int .i64 t116,.int .i64 t117] 27 (0,0))) ∧ Aside0 (wc.heap[gb122]? = some (.cells #[.int .i64 t120,.int .i64 t121] 27 (0,0))) ∧ Aside0 (Below w.heap.size w wc))
    case first =>
     have H:=HC19.out;clear HC19;by_cases c38 : (!(t112 == t106) || (!(t113 == t107))) = true
     ·rw [if_pos c38] at H
      have c38b0 : (!(t112 == t106) || (!(t113 == t107))) = true:=c38;clear c38;(first|rw [c38b0]|(simp only [i64_w,i32_w];rw [c38b0])|skip);have H':=Aside0.mk H;clear H;have hnb39:=NB114_108.out;have hnc39:=NB108_114.out;have hnb40:=NB114_118.out;have hnc40:=NB118_114.out;have hnb41:=NB114_122.out;have hnc41:=NB122_114.out;have hcz42_0:=blk_c (v:=.int .i64 t112) BK114.out 0 rfl;have hcz42_1:=blk_c (v:=.int .i64 t113) BK114.out 1 rfl;have hfz42_0:=blk_frozen BK114.out 0;have hfz42_1:=blk_frozen BK114.out 1;have hnb43:=NB108_118.out;have hnc43:=NB118_108.out;have hnb44:=NB108_122.out;have hnc44:=NB122_108.out;have hcz45_0:=blk_c (v:=.int .i64 t106) BK108.out 0 rfl;have hcz45_1:=blk_c (v:=.int .i64 t107) BK108.out 1 rfl;have hfz45_0:=blk_frozen BK108.out 0;have hfz45_1:=blk_frozen BK108.out 1;go_wp2;go_meet
      case rel => exact ⟨_,(true),fr_,H',⟨by have:=HJ4.out;first|omega|exact Nat.le_refl _⟩,⟨by (with_reducible repeat (first|apply Kd.R_alloc|apply Kd.R_drewN|apply Kd.R_drew));exact Kd.R_mono (Kd.R_far (p:=⟨gb122,1,none⟩) (Kd.R_far (p:=⟨gb122,0,none⟩) (Kd.R_types HO111.out BK122.out (by decide)) (fun _ hk => hk.2) (.int .i64 t120)) (fun _ hk => hk.2) (.int .i64 t121)) (fun _ hk => trivial)⟩,⟨by refine blk_mv ?_;refine blk_far ?_ NB108_122.out _;refine blk_mv ?_;refine blk_far ?_ NB108_122.out _;refine blk_mv ?_;exact BK108.out⟩,⟨by refine blk_mv ?_;refine blk_far ?_ NB114_122.out _;refine blk_mv ?_;refine blk_far ?_ NB114_122.out _;refine blk_mv ?_;exact BK114.out⟩,⟨by refine blk_mv ?_;refine blk_far ?_ NB118_122.out _;refine blk_mv ?_;refine blk_far ?_ NB118_122.out _;refine blk_mv ?_;exact BK118.out⟩,⟨by refine blk_mv ?_;refine blk_put (cs:=#[.int .i64 t120,.int .i64 0]) ?_ 1 _ rfl;refine blk_mv ?_;refine blk_put (cs:=#[.int .i64 0,.int .i64 0]) ?_ 0 _ rfl;refine blk_mv ?_;exact BK122.out⟩,⟨bel_⟩⟩
     ·rw [if_neg c38] at H
      have c38b0 : (!(t112 == t106) || (!(t113 == t107))) = false:=by simpa using c38
      clear c38;(first|rw [c38b0]|(simp only [i64_w,i32_w];rw [c38b0])|skip);by_cases c46 : (!(t116 == t106) || (!(t117 == t107))) = true
      ·rw [if_pos c46] at H
       have c46b0 : (!(t116 == t106) || (!(t117 == t107))) = true:=c46;clear c46;have H':=Aside0.mk H;clear H;have hnb47:=NB114_108.out;have hnc47:=NB108_114.out;have hnb48:=NB114_118.out;have hnc48:=NB118_114.out;have hnb49:=NB114_122.out;have hnc49:=NB122_114.out;have hcz50_0:=blk_c (v:=.int .i64 t112) BK114.out 0 rfl;have hcz50_1:=blk_c (v:=.int .i64 t113) BK114.out 1 rfl;have hfz50_0:=blk_frozen BK114.out 0;have hfz50_1:=blk_frozen BK114.out 1;have hnb51:=NB108_118.out;have hnc51:=NB118_108.out;have hnb52:=NB108_122.out;have hnc52:=NB122_108.out;have hcz53_0:=blk_c (v:=.int .i64 t106) BK108.out 0 rfl;have hcz53_1:=blk_c (v:=.int .i64 t107) BK108.out 1 rfl;have hfz53_0:=blk_frozen BK108.out 0;have hfz53_1:=blk_frozen BK108.out 1;have hnb54:=NB118_122.out;have hnc54:=NB122_118.out;have hcz55_0:=blk_c (v:=.int .i64 t116) BK118.out 0 rfl;have hcz55_1:=blk_c (v:=.int .i64 t117) BK118.out 1 rfl;have hfz55_0:=blk_frozen BK118.out 0;have hfz55_1:=blk_frozen BK118.out 1;go_wp2;go_meet
       case rel => exact ⟨_,(true),fr_,H',⟨by have:=HJ4.out;first|omega|exact Nat.le_refl _⟩,⟨by (with_reducible repeat (first|apply Kd.R_alloc|apply Kd.R_drewN|apply Kd.R_drew));exact Kd.R_mono (Kd.R_far (p:=⟨gb122,1,none⟩) (Kd.R_far (p:=⟨gb122,0,none⟩) (Kd.R_types HO111.out BK122.out (by decide)) (fun _ hk => hk.2) (.int .i64 t120)) (fun _ hk => hk.2) (.int .i64 t121)) (fun _ hk => trivial)⟩,⟨by refine blk_mv ?_;refine blk_far ?_ NB108_122.out _;refine blk_mv ?_;refine blk_far ?_ NB108_122.out _;refine blk_mv ?_;exact BK108.out⟩,⟨by refine blk_mv ?_;refine blk_far ?_ NB114_122.out _;refine blk_mv ?_;refine blk_far ?_ NB114_122.out _;refine blk_mv ?_;exact BK114.out⟩,⟨by refine blk_mv ?_;refine blk_far ?_ NB118_122.out _;refine blk_mv ?_;refine blk_far ?_ NB118_122.out _;refine blk_mv ?_;exact BK118.out⟩,⟨by refine blk_mv ?_;refine blk_put (cs:=#[.int .i64 t120,.int .i64 0]) ?_ 1 _ rfl;refine blk_mv ?_;refine blk_put (cs:=#[.int .i64 0,.int .i64 0]) ?_ 0 _ rfl;refine blk_mv ?_;exact BK122.out⟩,⟨bel_⟩⟩
      ·rw [if_neg c46] at H
       have c46b0 : (!(t116 == t106) || (!(t117 == t107))) = false:=by simpa using c46
       clear c46;have H':=Aside0.mk H;clear H;have hnb56:=NB114_108.out;have hnc56:=NB108_114.out;have hnb57:=NB114_118.out;have hnc57:=NB118_114.out;have hnb58:=NB114_122.out;have hnc58:=NB122_114.out;have hcz59_0:=blk_c (v:=.int .i64 t112) BK114.out 0 rfl;have hcz59_1:=blk_c (v:=.int .i64 t113) BK114.out 1 rfl;have hfz59_0:=blk_frozen BK114.out 0;have hfz59_1:=blk_frozen BK114.out 1;have hnb60:=NB108_118.out;have hnc60:=NB118_108.out;have hnb61:=NB108_122.out;have hnc61:=NB122_108.out;have hcz62_0:=blk_c (v:=.int .i64 t106) BK108.out 0 rfl;have hcz62_1:=blk_c (v:=.int .i64 t107) BK108.out 1 rfl;have hfz62_0:=blk_frozen BK108.out 0;have hfz62_1:=blk_frozen BK108.out 1;have hnb63:=NB118_122.out;have hnc63:=NB122_118.out;have hcz64_0:=blk_c (v:=.int .i64 t116) BK118.out 0 rfl;have hcz64_1:=blk_c (v:=.int .i64 t117) BK118.out 1 rfl;have hfz64_0:=blk_frozen BK118.out 0;have hfz64_1:=blk_frozen BK118.out 1;go_wp2;go_meet
       case rel => exact ⟨_,((t106 != 0)),fr_,H',⟨by have:=HJ4.out;first|omega|exact Nat.le_refl _⟩,⟨by (with_reducible repeat (first|apply Kd.R_alloc|apply Kd.R_drewN|apply Kd.R_drew));exact Kd.R_mono (Kd.R_far (p:=⟨gb122,1,none⟩) (Kd.R_far (p:=⟨gb122,0,none⟩) (Kd.R_types HO111.out BK122.out (by decide)) (fun _ hk => hk.2) (.int .i64 t120)) (fun _ hk => hk.2) (.int .i64 t121)) (fun _ hk => trivial)⟩,⟨by refine blk_mv ?_;refine blk_far ?_ NB108_122.out _;refine blk_mv ?_;refine blk_far ?_ NB108_122.out _;refine blk_mv ?_;exact BK108.out⟩,⟨by refine blk_mv ?_;refine blk_far ?_ NB114_122.out _;refine blk_mv ?_;refine blk_far ?_ NB114_122.out _;refine blk_mv ?_;exact BK114.out⟩,⟨by refine blk_mv ?_;refine blk_far ?_ NB118_122.out _;refine blk_mv ?_;refine blk_far ?_ NB118_122.out _;refine blk_mv ?_;exact BK118.out⟩,⟨by refine blk_mv ?_;refine blk_put (cs:=#[.int .i64 t120,.int .i64 0]) ?_ 1 _ rfl;refine blk_mv ?_;refine blk_put (cs:=#[.int .i64 0,.int .i64 0]) ?_ 0 _ rfl;refine blk_mv ?_;exact BK122.out⟩,⟨bel_⟩⟩
    case rest =>
     clear HC19;(try clear c1);(try clear c2);(try clear p2);(try clear c3);(try clear c4);(try clear c5);(try clear c6);(try clear c7);(try clear c8);(try clear c11);(try clear c12);(try clear c13);(try clear c14);(try clear c25);(try clear c29);(try clear c30);(try clear c34);(try clear c35);(try clear c36);(try clear c38);(try clear c38b0);(try clear c39);(try clear c40);(try clear c41);(try clear c43);(try clear c44);(try clear c46);(try clear c46b0);(try clear c47);(try clear c48);(try clear c49);(try clear c51);(try clear c52);(try clear c54);(try clear c56);(try clear c57);(try clear c58);(try clear c60);(try clear c61);(try clear c63);(try clear hcz22_0);(try clear hcz22_1);(try clear hcz26_0);(try clear hcz26_1);(try clear hcz31_0);(try clear hcz31_1);(try clear hcz37_0);(try clear hcz37_1);(try clear hcz42_0);(try clear hcz42_1);(try clear hcz45_0);(try clear hcz45_1);(try clear hcz50_0);(try clear hcz50_1);(try clear hcz53_0);(try clear hcz53_1);(try clear hcz55_0);(try clear hcz55_1);(try clear hcz59_0);(try clear hcz59_1);(try clear hcz62_0);(try clear hcz62_1);(try clear hcz64_0);(try clear hcz64_1);(try clear hfz22_0);(try clear hfz22_1);(try clear hfz26_0);(try clear hfz26_1);(try clear hfz31_0);(try clear hfz31_1);(try clear hfz37_0);(try clear hfz37_1);(try clear hfz42_0);(try clear hfz42_1);(try clear hfz45_0);(try clear hfz45_1);(try clear hfz50_0);(try clear hfz50_1);(try clear hfz53_0);(try clear hfz53_1);(try clear hfz55_0);(try clear hfz55_1);(try clear hfz59_0);(try clear hfz59_1);(try clear hfz62_0);(try clear hfz62_1);(try clear hfz64_0);(try clear hfz64_1);(try clear p2);obtain ⟨kq,x64_18,rfl,HA,HJ18,HO_10,BK108,BK114,BK118,BK122,HB⟩:=hcut;cases kq with
     | zero => exact absurd HA.out (by simp [changeforgelaw5_RolesMatchSpec.j1])
     | succ kj18 =>
      have H:=HA.out;clear HA;simp only [changeforgelaw5_RolesMatchSpec.j1] at H;by_cases c65 : x64_18 = true
      ·subst c65
       have H1 : (if (t112 == t106 && (t113 == t107)) = true then (if (t116 == t106 && (t117 == t107)) = true then (if (t120 == t106 && (t121 == t107)) = true then (if (t109.length : Int) = 0 then (if t115 = 0 then (some (!t119)) else (none)) else (none)) else (none)) else (none)) else (none)) = some r:=by rw [if_pos rfl] at H;exact H
       clear H;have H:=H1;clear H1;by_cases c66 : (t112 == t106 && (t113 == t107)) = true
       ·rw [if_pos c66] at H
        have c66b0 : (t112 == t106 && (t113 == t107)) = true:=c66;(try (have c66b1 : decide (t112 = t106 && (t113 == t107)) = true:=by simpa using c66));(try (have c66b2 : (t112 == t106 && (t113 == t107)) = true:=by simpa using c66));clear c66;by_cases c67 : (t116 == t106 && (t117 == t107)) = true
        ·rw [if_pos c67] at H
         have c67b0 : (t116 == t106 && (t117 == t107)) = true:=c67;(try (have c67b1 : decide (t116 = t106 && (t117 == t107)) = true:=by simpa using c67));(try (have c67b2 : (t116 == t106 && (t117 == t107)) = true:=by simpa using c67));clear c67;by_cases c68 : (t120 == t106 && (t121 == t107)) = true
         ·rw [if_pos c68] at H
          have c68b0 : (t120 == t106 && (t121 == t107)) = true:=c68;(try (have c68b1 : decide (t120 = t106 && (t121 == t107)) = true:=by simpa using c68));(try (have c68b2 : (t120 == t106 && (t121 == t107)) = true:=by simpa using c68));clear c68;by_cases c69 : (t109.length : Int) = 0
          ·rw [if_pos c69] at H
           have c69b0 : ((t109.length : Int) == 0) = true:=beq_iff_eq.mpr c69;have c69b1 : ((t109.length : Int) != 0) = false:=bne_eq_false_iff_eq.mpr c69;clear c69;by_cases c70 : t115 = 0
           ·rw [if_pos c70] at H
            have c70b0 : (t115 == 0) = true:=beq_iff_eq.mpr c70;have c70b1 : (t115 != 0) = false:=bne_eq_false_iff_eq.mpr c70;clear c70;obtain rfl:=Option.some.inj H;have hnb71:=NB114_108.out;have hnc71:=NB108_114.out;have hnb72:=NB114_118.out;have hnc72:=NB118_114.out;have hnb73:=NB114_122.out;have hnc73:=NB122_114.out;have hcz74_0:=blk_c (v:=.int .i64 t112) BK114.out 0 rfl;have hcz74_1:=blk_c (v:=.int .i64 t113) BK114.out 1 rfl;have hfz74_0:=blk_frozen BK114.out 0;have hfz74_1:=blk_frozen BK114.out 1;have hnb75:=NB108_118.out;have hnc75:=NB118_108.out;have hnb76:=NB108_122.out;have hnc76:=NB122_108.out;have hcz77_0:=blk_c (v:=.int .i64 t106) BK108.out 0 rfl;have hcz77_1:=blk_c (v:=.int .i64 t107) BK108.out 1 rfl;have hfz77_0:=blk_frozen BK108.out 0;have hfz77_1:=blk_frozen BK108.out 1;have hnb78:=NB118_122.out;have hnc78:=NB122_118.out;have hcz79_0:=blk_c (v:=.int .i64 t116) BK118.out 0 rfl;have hcz79_1:=blk_c (v:=.int .i64 t117) BK118.out 1 rfl;have hfz79_0:=blk_frozen BK118.out 0;have hfz79_1:=blk_frozen BK118.out 1;have hcz80_0:=blk_c (v:=.int .i64 t120) BK122.out 0 rfl;have hcz80_1:=blk_c (v:=.int .i64 t121) BK122.out 1 rfl;have hfz80_0:=blk_frozen BK122.out 0;have hfz80_1:=blk_frozen BK122.out 1;obtain ⟨Ao81,co81,eo81⟩:=Kd.R_slice HO_10.out;subst eo81;go_wp2;go_ret;exact ⟨by first|rfl|(simp [errW_none,errW_some] <;> rfl)|(simp [*,errW_none,errW_some] <;> rfl),bel_⟩
           ·rw [if_neg c70] at H
            exact absurd H (by simp)
          ·rw [if_neg c69] at H
           exact absurd H (by simp)
         ·rw [if_neg c68] at H
          exact absurd H (by simp)
        ·rw [if_neg c67] at H
         exact absurd H (by simp)
       ·rw [if_neg c66] at H
        exact absurd H (by simp)
      ·replace c65:=Bool.eq_false_iff.mpr c65
       subst c65;have H1 : ((changeforgeref5_RoleChain.f kj18 l0 a1 0).bind fun t123 => (if 0 ≤ (wrap64 ((t123.length : Int) - 1)) then (if (wrap64 ((t123.length : Int) - 1)) < (t123.length : Int) then (if 0 ≤ (rd t123 (wrap64 ((t123.length : Int) - 1))) then (if (rd t123 (wrap64 ((t123.length : Int) - 1))) < (l0.length : Int) then ((changeforgeref5_SignersFault.f kj18 ((rd_T40 l0 (rd t123 (wrap64 ((t123.length : Int) - 1)))).f2) l2 l3).bind fun bt128 => (if bt128.1 = 0 then ((changeforgeref5_Signers.f kj18 ((rd_T40 l0 (rd t123 (wrap64 ((t123.length : Int) - 1)))).f2) l2 l3).bind fun t132 => ((changeforgeref5_Ints.f kj18 t109 t123).bind fun t136 => (if t136 = true then (if t115 = (rd t123 (wrap64 ((t123.length : Int) - 1))) then (if (t120 == bt128.1 && (t121 == bt128.2)) = true then (some (t119 == (decide ((t132.length : Int) ≥ ((rd_T40 l0 (rd t123 (wrap64 ((t123.length : Int) - 1)))).f3))))) else (none)) else (none)) else (none)))) else ((changeforgeref5_Ints.f kj18 t109 t123).bind fun t137 => (if t137 = true then (if t115 = (rd t123 (wrap64 ((t123.length : Int) - 1))) then (if (t120 == bt128.1 && (t121 == bt128.2)) = true then (some (t119 == false)) else (none)) else (none)) else (none))))) else (none)) else (none)) else (none)) else (none))) = some r:=by rw [if_neg (show ¬ (false = true) by decide)] at H;exact H
       clear H;have H:=H1;clear H1;replace H:=Option.bind_eq_some_iff.mp H;obtain ⟨t123,A820,H⟩:=H;replace H : (if 0 ≤ (wrap64 ((t123.length : Int) - 1)) then (if (wrap64 ((t123.length : Int) - 1)) < (t123.length : Int) then (if 0 ≤ (rd t123 (wrap64 ((t123.length : Int) - 1))) then (if (rd t123 (wrap64 ((t123.length : Int) - 1))) < (l0.length : Int) then ((changeforgeref5_SignersFault.f kj18 ((rd_T40 l0 (rd t123 (wrap64 ((t123.length : Int) - 1)))).f2) l2 l3).bind fun bt128 => (if bt128.1 = 0 then ((changeforgeref5_Signers.f kj18 ((rd_T40 l0 (rd t123 (wrap64 ((t123.length : Int) - 1)))).f2) l2 l3).bind fun t132 => ((changeforgeref5_Ints.f kj18 t109 t123).bind fun t136 => (if t136 = true then (if t115 = (rd t123 (wrap64 ((t123.length : Int) - 1))) then (if (t120 == bt128.1 && (t121 == bt128.2)) = true then (some (t119 == (decide ((t132.length : Int) ≥ ((rd_T40 l0 (rd t123 (wrap64 ((t123.length : Int) - 1)))).f3))))) else (none)) else (none)) else (none)))) else ((changeforgeref5_Ints.f kj18 t109 t123).bind fun t137 => (if t137 = true then (if t115 = (rd t123 (wrap64 ((t123.length : Int) - 1))) then (if (t120 == bt128.1 && (t121 == bt128.2)) = true then (some (t119 == false)) else (none)) else (none)) else (none))))) else (none)) else (none)) else (none)) else (none)) = some r:=H;have A82:=Aside0.mk A820;clear A820;obtain ⟨ji83,hji83⟩ : ∃ j_ : Int,(wrap64 ((t123.length : Int) - 1)) = j_:=⟨_,rfl⟩;replace H : (if 0 ≤ (ji83) then (if (ji83) < (t123.length : Int) then (if 0 ≤ (rd t123 (ji83)) then (if (rd t123 (ji83)) < (l0.length : Int) then ((changeforgeref5_SignersFault.f kj18 ((rd_T40 l0 (rd t123 (ji83))).f2) l2 l3).bind fun bt128 => (if bt128.1 = 0 then ((changeforgeref5_Signers.f kj18 ((rd_T40 l0 (rd t123 (ji83))).f2) l2 l3).bind fun t132 => ((changeforgeref5_Ints.f kj18 t109 t123).bind fun t136 => (if t136 = true then (if t115 = (rd t123 (ji83)) then (if (t120 == bt128.1 && (t121 == bt128.2)) = true then (some (t119 == (decide ((t132.length : Int) ≥ ((rd_T40 l0 (rd t123 (ji83))).f3))))) else (none)) else (none)) else (none)))) else ((changeforgeref5_Ints.f kj18 t109 t123).bind fun t137 => (if t137 = true then (if t115 = (rd t123 (ji83)) then (if (t120 == bt128.1 && (t121 == bt128.2)) = true then (some (t119 == false)) else (none)) else (none)) else (none))))) else (none)) else (none)) else (none)) else (none)) = some r:=by first|(rw [hji83] at H;exact H)|(simp only [hji83] at H ⊢;exact H)
       (try rw [hji83] at A82);have hji83w : (IntKind.i64.wrap ((t123.length : Int) - 1)) = ji83:=(i64_w _).trans hji83;by_cases c84 : 0 ≤ (ji83)
       ·rw [if_pos c84] at H
        have c84b0 : decide (0 ≤ (ji83)) = true:=decide_eq_true c84;clear c84;by_cases c85 : (ji83) < (t123.length : Int)
        ·rw [if_pos c85] at H
         have c85b0 : decide ((ji83) < (t123.length : Int)) = true:=decide_eq_true c85;clear c85;by_cases c86 : 0 ≤ (rd t123 (ji83))
         ·rw [if_pos c86] at H
          have c86b0 : decide (0 ≤ (rd t123 (ji83))) = true:=decide_eq_true c86;clear c86;by_cases c87 : (rd t123 (ji83)) < (l0.length : Int)
          ·rw [if_pos c87] at H
           have c87b0 : decide ((rd t123 (ji83)) < (l0.length : Int)) = true:=decide_eq_true c87;clear c87;replace H:=Option.bind_eq_some_iff.mp H;obtain ⟨⟨t128,t129⟩,A880,H⟩:=H;replace H : (if t128 = 0 then ((changeforgeref5_Signers.f kj18 ((rd_T40 l0 (rd t123 (ji83))).f2) l2 l3).bind fun t132 => ((changeforgeref5_Ints.f kj18 t109 t123).bind fun t136 => (if t136 = true then (if t115 = (rd t123 (ji83)) then (if (t120 == t128 && (t121 == t129)) = true then (some (t119 == (decide ((t132.length : Int) ≥ ((rd_T40 l0 (rd t123 (ji83))).f3))))) else (none)) else (none)) else (none)))) else ((changeforgeref5_Ints.f kj18 t109 t123).bind fun t137 => (if t137 = true then (if t115 = (rd t123 (ji83)) then (if (t120 == t128 && (t121 == t129)) = true then (some (t119 == false)) else (none)) else (none)) else (none)))) = some r:=H;have A88:=Aside0.mk A880;clear A880;by_cases c89 : t128 = 0
           ·rw [if_pos c89] at H
            have c89b0 : (t128 == 0) = true:=beq_iff_eq.mpr c89;have c89b1 : (t128 != 0) = false:=bne_eq_false_iff_eq.mpr c89;clear c89;replace H:=Option.bind_eq_some_iff.mp H;obtain ⟨t132,A900,H⟩:=H;replace H : ((changeforgeref5_Ints.f kj18 t109 t123).bind fun t136 => (if t136 = true then (if t115 = (rd t123 (ji83)) then (if (t120 == t128 && (t121 == t129)) = true then (some (t119 == (decide ((t132.length : Int) ≥ ((rd_T40 l0 (rd t123 (ji83))).f3))))) else (none)) else (none)) else (none))) = some r:=H;have A90:=Aside0.mk A900;clear A900;replace H:=Option.bind_eq_some_iff.mp H;obtain ⟨t136,A910,H⟩:=H;replace H : (if t136 = true then (if t115 = (rd t123 (ji83)) then (if (t120 == t128 && (t121 == t129)) = true then (some (t119 == (decide ((t132.length : Int) ≥ ((rd_T40 l0 (rd t123 (ji83))).f3))))) else (none)) else (none)) else (none)) = some r:=H;have A91:=Aside0.mk A910;clear A910;by_cases c92 : t136 = true
            ·subst c92
             have H1 : (if t115 = (rd t123 (ji83)) then (if (t120 == t128 && (t121 == t129)) = true then (some (t119 == (decide ((t132.length : Int) ≥ ((rd_T40 l0 (rd t123 (ji83))).f3))))) else (none)) else (none)) = some r:=by rw [if_pos rfl] at H;exact H
             clear H;have H:=H1;clear H1;by_cases c93 : t115 = (rd t123 (ji83))
             ·rw [if_pos c93] at H
              have c93b0 : (t115 == (rd t123 (ji83))) = true:=beq_iff_eq.mpr c93;have c93b1 : (t115 != (rd t123 (ji83))) = false:=bne_eq_false_iff_eq.mpr c93;clear c93;by_cases c94 : (t120 == t128 && (t121 == t129)) = true
              ·rw [if_pos c94] at H
               have c94b0 : (t120 == t128 && (t121 == t129)) = true:=c94;(try (have c94b1 : decide (t120 = t128 && (t121 == t129)) = true:=by simpa using c94));(try (have c94b2 : (t120 == t128 && (t121 == t129)) = true:=by simpa using c94));clear c94;obtain rfl:=Option.some.inj H;try go_wp2_with (first|((with_reducible refine gate_callee (f:=15) rfl ?_);refine goesL_ (some 93) rfl rfl Try.func15 (by kernel_rfl) rfl #[.slice A0 l0.length c0,.string a1,.int .i64 0] rfl ln_ ?_;(with_reducible refine (changeforgeref5_RoleChain.calls kj18 _ _ l0 a1 0 t123 _ ?side1 ?side2 A82.out).mono ?_);(case side1 => first|exact (Kd.C_below HR0.out HB.out)|exact Kd.C_mv (Kd.C_below HR0.out HB.out));(case side2 => exact HC0.out);rintro e w95 ⟨v124,rfl,ho0,hb⟩;refine ⟨_,rfl,?_⟩;have HO125:=Aside0.mk (Kd.R_lower (Kd.R_new' ho0 (Kd.R_lt (Kd.R_mv HO_10.out))) (below_size bel_));replace HO_10:=Aside0.mk (Kd.R_elder' (Kd.R_mv HO_10.out) (Kd.R_base ho0) hb);replace BK108:=Aside0.mk (blk_below (blk_mv BK108.out) hb);replace BK114:=Aside0.mk (blk_below (blk_mv BK114.out) hb);replace BK118:=Aside0.mk (blk_below (blk_mv BK118.out) hb);replace BK122:=Aside0.mk (blk_below (blk_mv BK122.out) hb);replace HB:=Aside0.mk (below_step bel_ hb);(try clear hb);(try clear hb2);(try clear hk);(try clear hi);(try clear ho0);obtain ⟨Ao96,co96,eo96⟩:=Kd.R_slice HO125.out;subst eo96;have p126 : 0 ≤ ((ji83) : Int):=of_decide_eq_true as_;have q126 : (ji83) < (t123.length : Int):=of_decide_eq_true as_;obtain ⟨ad126,e126,hx126_0⟩:=Kd.at_int (Kd.R_reads' HO125.out).2.2 (ji83) p126 q126;cases e126;replace p126:=eq_true p126;replace q126:=eq_true q126;have p127 : 0 ≤ ((rd t123 (ji83)) : Int):=of_decide_eq_true as_;have q127 : (rd t123 (ji83)) < (l0.length : Int):=of_decide_eq_true as_;obtain ⟨ad127,A127_2,c127_2,e127,hx127_0,hx127_1,hx127_2,hx127_3,hl127_2,hi127_2⟩:=at_T40 HR0.out (rd t123 (ji83)) p127 q127;cases e127;replace hx127_0:=(HB.out.cell (World.block_lt_of_cell? w _ hx127_0)).trans hx127_0;replace hx127_1:=(HB.out.cell (World.block_lt_of_cell? w _ hx127_1)).trans hx127_1;replace hx127_2:=(HB.out.cell (World.block_lt_of_cell? w _ hx127_2)).trans hx127_2;replace hx127_3:=(HB.out.cell (World.block_lt_of_cell? w _ hx127_3)).trans hx127_3;have HR127_2:=Aside0.mk hi127_2;have HC127_2:=Aside0.mk hl127_2;clear hi127_2 hl127_2;replace p127:=eq_true p127;replace q127:=eq_true q127)|((with_reducible refine gate_callee (f:=16) rfl ?_);refine goesL_ (some 107) rfl rfl Try.func16 (by kernel_rfl) rfl #[.slice A127_2 ((rd_T40 l0 (rd t123 (ji83))).f2).length c127_2,.slice A2 l2.length c2,.slice A3 l3.length c3] rfl (by (try simp only [List.map_toArray,List.map_cons,List.map_nil]);first|done|(simp only [hji83];rfl)|rfl|(simp only [List.length_drop,List.length_take];rfl)) ?_;(with_reducible refine (changeforgeref5_SignersFault.calls kj18 _ _ ((rd_T40 l0 (rd t123 (ji83))).f2) _ _ l2 _ _ l3 t128 t129 _ ?side1 ?side2 ?side3 ?side4 ?side5 ?side6 A88.out).mono ?_);(case side1 => first|exact (Kd.C_below HR127_2.out HB.out)|exact Kd.C_mv (Kd.C_below HR127_2.out HB.out));(case side2 => exact HC127_2.out);(case side3 => first|exact (Kd.C_below HR2.out HB.out)|exact Kd.C_mv (Kd.C_below HR2.out HB.out));(case side4 => exact HC2.out);(case side5 => first|exact (Kd.C_below HR3.out HB.out)|exact Kd.C_mv (Kd.C_below HR3.out HB.out));(case side6 => exact HC3.out);rintro e w97 ⟨rfl,hb⟩;refine ⟨_,rfl,?_⟩;replace HO_10:=Aside0.mk (Kd.R_below (Kd.R_mv HO_10.out) hb);replace HO125:=Aside0.mk (Kd.R_below (Kd.R_mv HO125.out) hb);replace BK108:=Aside0.mk (blk_below (blk_mv BK108.out) hb);replace BK114:=Aside0.mk (blk_below (blk_mv BK114.out) hb);replace BK118:=Aside0.mk (blk_below (blk_mv BK118.out) hb);replace BK122:=Aside0.mk (blk_below (blk_mv BK122.out) hb);replace HB:=Aside0.mk (below_step bel_ hb);(try clear hb);(try clear hb2);(try clear hk);(try clear hi))|((with_reducible refine gate_dst (N:=18) rfl ?_);(try (refine gate_guard (by rfl) ?_;dsimp only));refine box_event ?hg (N:=18) ?hd (cs:=#[.int .i64 0,.int .i64 0]) (t:=27) ?hr ?_;(case hd => rfl);(case hg => rfl);(case hr => first|(go_simp;done)|(go_simp;rfl));intro gb130 hg w98 hbox hb;replace HO_10:=Aside0.mk (Kd.R_below (Kd.R_mv HO_10.out) hb);replace HO125:=Aside0.mk (Kd.R_below (Kd.R_mv HO125.out) hb);have BK130:=Aside0.mk (hbox);have GW130:=Aside0.mk ((bs_ : w.heap.size ≤ gb130));have GE130:=Aside0.mk ((bs_ : w.heap.size ≤ gb130));replace HB:=Aside0.mk (below_step bel_ hb);have NB108_130:=Aside0.mk ((by rw [hg];exact Nat.ne_of_lt (blk_lt (g:=gb108) (o:=.cells #[.int .i64 t106,.int .i64 t107] 27 (0,0)) (blk_mv BK108.out)) : gb108 ≠ gb130));have NB130_108:=Aside0.mk ((by rw [hg];exact Nat.ne_of_gt (blk_lt (g:=gb108) (o:=.cells #[.int .i64 t106,.int .i64 t107] 27 (0,0)) (blk_mv BK108.out)) : gb130 ≠ gb108));replace BK108:=Aside0.mk (blk_below (blk_mv BK108.out) hb);have NB114_130:=Aside0.mk ((by rw [hg];exact Nat.ne_of_lt (blk_lt (g:=gb114) (o:=.cells #[.int .i64 t112,.int .i64 t113] 27 (0,0)) (blk_mv BK114.out)) : gb114 ≠ gb130));have NB130_114:=Aside0.mk ((by rw [hg];exact Nat.ne_of_gt (blk_lt (g:=gb114) (o:=.cells #[.int .i64 t112,.int .i64 t113] 27 (0,0)) (blk_mv BK114.out)) : gb130 ≠ gb114));replace BK114:=Aside0.mk (blk_below (blk_mv BK114.out) hb);have NB118_130:=Aside0.mk ((by rw [hg];exact Nat.ne_of_lt (blk_lt (g:=gb118) (o:=.cells #[.int .i64 t116,.int .i64 t117] 27 (0,0)) (blk_mv BK118.out)) : gb118 ≠ gb130));have NB130_118:=Aside0.mk ((by rw [hg];exact Nat.ne_of_gt (blk_lt (g:=gb118) (o:=.cells #[.int .i64 t116,.int .i64 t117] 27 (0,0)) (blk_mv BK118.out)) : gb130 ≠ gb118));replace BK118:=Aside0.mk (blk_below (blk_mv BK118.out) hb);have NB122_130:=Aside0.mk ((by rw [hg];exact Nat.ne_of_lt (blk_lt (g:=gb122) (o:=.cells #[.int .i64 t120,.int .i64 t121] 27 (0,0)) (blk_mv BK122.out)) : gb122 ≠ gb130));have NB130_122:=Aside0.mk ((by rw [hg];exact Nat.ne_of_gt (blk_lt (g:=gb122) (o:=.cells #[.int .i64 t120,.int .i64 t121] 27 (0,0)) (blk_mv BK122.out)) : gb130 ≠ gb122));replace BK122:=Aside0.mk (blk_below (blk_mv BK122.out) hb);clear hb hbox hg;have hnb99:=NB130_108.out;have hnc99:=NB108_130.out;have hnb100:=NB130_114.out;have hnc100:=NB114_130.out;have hnb101:=NB130_118.out;have hnc101:=NB118_130.out;have hnb102:=NB130_122.out;have hnc102:=NB122_130.out;have hcz103_0:=blk_c (v:=.int .i64 0) BK130.out 0 rfl;have hcz103_1:=blk_c (v:=.int .i64 0) BK130.out 1 rfl;have hfz103_0:=blk_frozen BK130.out 0;have hfz103_1:=blk_frozen BK130.out 1))
               have n0_ : Aside0 (Kd.R (Kd.int .i64) 3 ((w98.setCell ⟨gb130,0,none⟩ (.int .i64 t128)).setCell ⟨gb130,1,none⟩ (.int .i64 t129)) w.heap.size (fun k_ => some k_ ≠ (.slice (some ad126) t123.length co96 : Value).ownBlock) v110 t109):=⟨by (with_reducible repeat (first|apply Kd.R_alloc|apply Kd.R_drewN|apply Kd.R_drew));exact Kd.R_mono (Kd.R_far (p:=⟨gb130,1,none⟩) (Kd.R_far (p:=⟨gb130,0,none⟩) (Kd.R_types HO_10.out BK130.out (by decide)) (fun _ hk => hk.2) (.int .i64 t128)) (fun _ hk => hk.2) (.int .i64 t129)) (fun _ hk => hk.1.2)⟩;have n1_ : Aside0 (Kd.R (Kd.int .i64) 3 ((w98.setCell ⟨gb130,0,none⟩ (.int .i64 t128)).setCell ⟨gb130,1,none⟩ (.int .i64 t129)) w.heap.size (fun k_ => some k_ ≠ (v110 : Value).ownBlock) (.slice (some ad126) t123.length co96) t123):=⟨by (with_reducible repeat (first|apply Kd.R_alloc|apply Kd.R_drewN|apply Kd.R_drew));exact Kd.R_mono (Kd.R_far (p:=⟨gb130,1,none⟩) (Kd.R_far (p:=⟨gb130,0,none⟩) (Kd.R_types HO125.out BK130.out (by decide)) (fun _ hk => hk.2) (.int .i64 t128)) (fun _ hk => hk.2) (.int .i64 t129)) (fun _ hk => hk.1.2)⟩;have n2_ : Aside0 (((w98.setCell ⟨gb130,0,none⟩ (.int .i64 t128)).setCell ⟨gb130,1,none⟩ (.int .i64 t129)).heap[gb108]? = some (.cells #[.int .i64 t106,.int .i64 t107] 27 (0,0))):=⟨by refine blk_mv ?_;refine blk_far ?_ NB108_130.out _;refine blk_mv ?_;refine blk_far ?_ NB108_130.out _;refine blk_mv ?_;exact BK108.out⟩;have n3_ : Aside0 (((w98.setCell ⟨gb130,0,none⟩ (.int .i64 t128)).setCell ⟨gb130,1,none⟩ (.int .i64 t129)).heap[gb114]? = some (.cells #[.int .i64 t112,.int .i64 t113] 27 (0,0))):=⟨by refine blk_mv ?_;refine blk_far ?_ NB114_130.out _;refine blk_mv ?_;refine blk_far ?_ NB114_130.out _;refine blk_mv ?_;exact BK114.out⟩;have n4_ : Aside0 (((w98.setCell ⟨gb130,0,none⟩ (.int .i64 t128)).setCell ⟨gb130,1,none⟩ (.int .i64 t129)).heap[gb118]? = some (.cells #[.int .i64 t116,.int .i64 t117] 27 (0,0))):=⟨by refine blk_mv ?_;refine blk_far ?_ NB118_130.out _;refine blk_mv ?_;refine blk_far ?_ NB118_130.out _;refine blk_mv ?_;exact BK118.out⟩;have n5_ : Aside0 (((w98.setCell ⟨gb130,0,none⟩ (.int .i64 t128)).setCell ⟨gb130,1,none⟩ (.int .i64 t129)).heap[gb122]? = some (.cells #[.int .i64 t120,.int .i64 t121] 27 (0,0))):=⟨by refine blk_mv ?_;refine blk_far ?_ NB122_130.out _;refine blk_mv ?_;refine blk_far ?_ NB122_130.out _;refine blk_mv ?_;exact BK122.out⟩;have n6_ : Aside0 (((w98.setCell ⟨gb130,0,none⟩ (.int .i64 t128)).setCell ⟨gb130,1,none⟩ (.int .i64 t129)).heap[gb130]? = some (.cells #[.int .i64 t128,.int .i64 t129] 27 (0,0))):=⟨by refine blk_mv ?_;refine blk_put (cs:=#[.int .i64 t128,.int .i64 0]) ?_ 1 _ rfl;refine blk_mv ?_;refine blk_put (cs:=#[.int .i64 0,.int .i64 0]) ?_ 0 _ rfl;refine blk_mv ?_;exact BK130.out⟩;have n7_ : Aside0 (Below w.heap.size w ((w98.setCell ⟨gb130,0,none⟩ (.int .i64 t128)).setCell ⟨gb130,1,none⟩ (.int .i64 t129))):=⟨bel_⟩;(try clear HO_10);(try clear HO125);(try clear BK108);(try clear BK114);(try clear BK118);(try clear BK122);(try clear BK130);(try clear HB);generalize ((w98.setCell ⟨gb130,0,none⟩ (.int .i64 t128)).setCell ⟨gb130,1,none⟩ (.int .i64 t129)) = w104 at n0_ n1_ n2_ n3_ n4_ n5_ n6_ n7_ ⊢;have HO_10:=n0_;have HO125:=n1_;have BK108:=n2_;have BK114:=n3_;have BK118:=n4_;have BK122:=n5_;have BK130:=n6_;have HB:=n7_;clear n0_ n1_ n2_ n3_ n4_ n5_ n6_ n7_;replace HO_10:=Aside0.mk (Kd.R_drew HO_10.out);replace HO125:=Aside0.mk (Kd.R_drew HO125.out);replace BK108:=Aside0.mk (blk_drew BK108.out);replace BK114:=Aside0.mk (blk_drew BK114.out);replace BK118:=Aside0.mk (blk_drew BK118.out);replace BK122:=Aside0.mk (blk_drew BK122.out);replace BK130:=Aside0.mk (blk_drew BK130.out);replace HB:=Aside0.mk (below_drew1 HB.out);have p131 : 0 ≤ ((rd t123 (ji83)) : Int):=of_decide_eq_true as_;have q131 : (rd t123 (ji83)) < (l0.length : Int):=of_decide_eq_true as_;obtain ⟨ad131,A131_2,c131_2,e131,hx131_0,hx131_1,hx131_2,hx131_3,hl131_2,hi131_2⟩:=at_T40 HR0.out (rd t123 (ji83)) p131 q131;have hw131_3:=hx131_3;have hw131_2:=hx131_2;have hw131_1:=hx131_1;have hw131_0:=hx131_0;obtain rfl : ad127 = ad131:=(by injection e131);replace hx131_0:=(HB.out.cell (World.block_lt_of_cell? w _ hx131_0)).trans hx131_0;replace hx131_1:=(HB.out.cell (World.block_lt_of_cell? w _ hx131_1)).trans hx131_1;replace hx131_2:=(HB.out.cell (World.block_lt_of_cell? w _ hx131_2)).trans hx131_2;replace hx131_3:=(HB.out.cell (World.block_lt_of_cell? w _ hx131_3)).trans hx131_3;have HR131_2:=Aside0.mk hi131_2;have HC131_2:=Aside0.mk hl131_2;clear hi131_2 hl131_2;replace p131:=eq_true p131;replace q131:=eq_true q131;have p135 : 0 ≤ ((rd t123 (ji83)) : Int):=of_decide_eq_true as_;have q135 : (rd t123 (ji83)) < (l0.length : Int):=of_decide_eq_true as_;obtain ⟨ad135,A135_2,c135_2,e135,hx135_0,hx135_1,hx135_2,hx135_3,hl135_2,hi135_2⟩:=at_T40 HR0.out (rd t123 (ji83)) p135 q135;have hw135_3:=hx135_3;have hw135_2:=hx135_2;have hw135_1:=hx135_1;have hw135_0:=hx135_0;obtain rfl : ad127 = ad135:=(by injection e135);replace hx135_0:=(HB.out.cell (World.block_lt_of_cell? w _ hx135_0)).trans hx135_0;replace hx135_1:=(HB.out.cell (World.block_lt_of_cell? w _ hx135_1)).trans hx135_1;replace hx135_2:=(HB.out.cell (World.block_lt_of_cell? w _ hx135_2)).trans hx135_2;replace hx135_3:=(HB.out.cell (World.block_lt_of_cell? w _ hx135_3)).trans hx135_3;have HR135_2:=Aside0.mk hi135_2;have HC135_2:=Aside0.mk hl135_2;clear hi135_2 hl135_2;replace p135:=eq_true p135;replace q135:=eq_true q135;have ea_:=Option.some.inj (hx131_2.symm.trans hx135_2);injection ea_ with ea_ en_ ec_;subst ea_;subst ec_;clear en_;refine start_ (n:=21) (S:=fun w' => w'.cell? ⟨gb130,0,none⟩ = some (.int .i64 t128) ∧ w'.cell? ⟨gb130,1,none⟩ = some (.int .i64 t129) ∧ w'.cell? (ad127.add (((rd t123 (ji83))).toNat * 4)) = some (.int .i64 ((rd_T40 l0 (rd t123 (ji83))).f0)) ∧ w'.cell? ⟨(ad127.add (((rd t123 (ji83))).toNat * 4)).block,(ad127.add (((rd t123 (ji83))).toNat * 4)).off + 1,none⟩ = some (.string ((rd_T40 l0 (rd t123 (ji83))).f1)) ∧ w'.cell? ⟨(ad127.add (((rd t123 (ji83))).toNat * 4)).block,(ad127.add (((rd t123 (ji83))).toNat * 4)).off + 2,none⟩ = some (.slice A131_2 ((rd_T40 l0 (rd t123 (ji83))).f2).length c131_2) ∧ w'.cell? ⟨(ad127.add (((rd t123 (ji83))).toNat * 4)).block,(ad127.add (((rd t123 (ji83))).toNat * 4)).off + 3,none⟩ = some (.int .i64 ((rd_T40 l0 (rd t123 (ji83))).f3)) ∧ w'.cell? (ad127.add (((rd t123 (ji83))).toNat * 4)) = some (.int .i64 ((rd_T40 l0 (rd t123 (ji83))).f0)) ∧ w'.cell? ⟨(ad127.add (((rd t123 (ji83))).toNat * 4)).block,(ad127.add (((rd t123 (ji83))).toNat * 4)).off + 1,none⟩ = some (.string ((rd_T40 l0 (rd t123 (ji83))).f1)) ∧ w'.cell? ⟨(ad127.add (((rd t123 (ji83))).toNat * 4)).block,(ad127.add (((rd t123 (ji83))).toNat * 4)).off + 2,none⟩ = some (.slice A131_2 ((rd_T40 l0 (rd t123 (ji83))).f2).length c131_2) ∧ w'.cell? ⟨(ad127.add (((rd t123 (ji83))).toNat * 4)).block,(ad127.add (((rd t123 (ji83))).toNat * 4)).off + 3,none⟩ = some (.int .i64 ((rd_T40 l0 (rd t123 (ji83))).f3))) (ds:=[]) (bl_ 21 0) (by kernel_rfl) rfl rfl ⟨(blk_cell BK130.out 0).trans rfl,(blk_cell BK130.out 1).trans rfl,((HB.out.cell (World.block_lt_of_cell? w _ hw131_0)).trans hw131_0),((HB.out.cell (World.block_lt_of_cell? w _ hw131_1)).trans hw131_1),((HB.out.cell (World.block_lt_of_cell? w _ hw131_2)).trans hw131_2),((HB.out.cell (World.block_lt_of_cell? w _ hw131_3)).trans hw131_3),((HB.out.cell (World.block_lt_of_cell? w _ hw135_0)).trans hw135_0),((HB.out.cell (World.block_lt_of_cell? w _ hw135_1)).trans hw135_1),((HB.out.cell (World.block_lt_of_cell? w _ hw135_2)).trans hw135_2),((HB.out.cell (World.block_lt_of_cell? w _ hw135_3)).trans hw135_3)⟩ (fun hHeld => ?_);refine with_tabW changeforgelaw5_RolesMatchSpec.tab12 changeforgelaw5_RolesMatchSpec.bits12 (fun HT_ HW_ => ?_);generalize w104.drew = w105 at HO_10 HO125 BK108 BK114 BK118 BK122 BK130 HB HR131_2 HR135_2 hx131_0 hx131_1 hx131_2 hx131_3 hx135_0 hx135_1 hx135_2 hx135_3 hHeld ⊢;refine pu_ (v:=?_) (a':=?_) 0 108 (bl_ 21 1) rfl rfl HT_.out ?_ ?_ ?_;rotate_left
               ·intro w'
                go_simp;with_reducible rfl
               rotate_left
               ·simp only [Act.put,sa_,sb_,sc_,i64_w,i32_w]
                rfl
               refine tk_ (v:=?_) (a':=?_) 1 109 (bl_ 21 3) rfl rfl HT_.out HW_.out ?_ hHeld ?_ ?_;rotate_left
               ·rintro w' ⟨s0,s1,s2,s3,s4,s5,s6,s7,s8,s9⟩
                go_simp;with_reducible rfl
               rotate_left
               ·simp only [Act.put,sa_,sb_,sc_,i64_w,i32_w]
                rfl
               refine pu_ (v:=?_) (a':=?_) 2 110 (bl_ 21 7) rfl rfl HT_.out ?_ ?_ ?_;rotate_left
               ·intro w'
                go_simp;with_reducible rfl
               rotate_left
               ·simp only [Act.put,sa_,sb_,sc_,i64_w,i32_w]
                rfl
               refine pu_ (v:=?_) (a':=?_) 3 111 (bl_ 21 15) rfl rfl HT_.out ?_ ?_ ?_;rotate_left
               ·intro w'
                go_simp;with_reducible rfl
               rotate_left
               ·simp only [Act.put,sa_,sb_,sc_,i64_w,i32_w]
                rfl
               refine pu_ (v:=?_) (a':=?_) 4 112 (bl_ 21 31) rfl rfl HT_.out ?_ ?_ ?_;rotate_left
               ·intro w'
                go_simp;with_reducible rfl
               rotate_left
               ·simp only [Act.put,sa_,sb_,sc_,i64_w,i32_w]
                rfl
               refine pu_ (v:=?_) (a':=?_) 5 113 (bl_ 21 63) rfl rfl HT_.out ?_ ?_ ?_;rotate_left
               ·intro w'
                go_simp;with_reducible rfl
               rotate_left
               ·simp only [Act.put,sa_,sb_,sc_,i64_w,i32_w]
                rfl
               refine pu_ (v:=?_) (a':=?_) 6 114 (bl_ 21 127) rfl rfl HT_.out ?_ ?_ ?_;rotate_left
               ·intro w'
                go_simp;with_reducible rfl
               rotate_left
               ·simp only [Act.put,sa_,sb_,sc_,i64_w,i32_w]
                rfl
               refine pu_ (v:=?_) (a':=?_) 7 115 (bl_ 21 255) rfl rfl HT_.out ?_ ?_ ?_;rotate_left
               ·intro w'
                go_simp;with_reducible rfl
               rotate_left
               ·simp only [Act.put,sa_,sb_,sc_,i64_w,i32_w]
                rfl
               refine pu_ (v:=?_) (a':=?_) 9 117 (bl_ 21 767) rfl rfl HT_.out ?_ ?_ ?_;rotate_left
               ·intro w'
                go_simp;with_reducible rfl
               rotate_left
               ·simp only [Act.put,sa_,sb_,sc_,i64_w,i32_w]
                rfl
               refine pu_ (v:=?_) (a':=?_) 10 118 (bl_ 21 1791) rfl rfl HT_.out ?_ ?_ ?_;rotate_left
               ·intro w'
                go_simp;with_reducible rfl
               rotate_left
               ·simp only [Act.put,sa_,sb_,sc_,i64_w,i32_w]
                rfl
               refine pu_ (v:=?_) (a':=?_) 13 121 (bl_ 21 9983) rfl rfl HT_.out ?_ ?_ ?_;rotate_left
               ·intro w'
                go_simp;with_reducible rfl
               rotate_left
               ·simp only [Act.put,sa_,sb_,sc_,i64_w,i32_w]
                rfl
               refine pu_ (v:=?_) (a':=?_) 14 122 (bl_ 21 26367) rfl rfl HT_.out ?_ ?_ ?_;rotate_left
               ·intro w'
                go_simp;with_reducible rfl
               rotate_left
               ·simp only [Act.put,sa_,sb_,sc_,i64_w,i32_w]
                rfl
               refine pu_ (v:=?_) (a':=?_) 15 123 (bl_ 21 59135) rfl rfl HT_.out ?_ ?_ ?_;rotate_left
               ·intro w'
                go_simp;with_reducible rfl
               rotate_left
               ·simp only [Act.put,sa_,sb_,sc_,i64_w,i32_w]
                rfl
               refine pu_ (v:=?_) (a':=?_) 16 124 (bl_ 21 124671) rfl rfl HT_.out ?_ ?_ ?_;rotate_left
               ·intro w'
                go_simp;with_reducible rfl
               rotate_left
               ·simp only [Act.put,sa_,sb_,sc_,i64_w,i32_w]
                rfl
               refine tk_ (v:=?_) (a':=?_) 8 116 (bl_ 21 124927) rfl rfl HT_.out HW_.out ?_ hHeld ?_ ?_;rotate_left
               ·rintro w' ⟨s0,s1,s2,s3,s4,s5,s6,s7,s8,s9⟩
                go_simp;with_reducible rfl
               rotate_left
               ·simp only [Act.put,sa_,sb_,sc_,i64_w,i32_w]
                rfl
               refine tk_ (v:=?_) (a':=?_) 17 125 (bl_ 21 255999) rfl rfl HT_.out HW_.out ?_ hHeld ?_ ?_;rotate_left
               ·rintro w' ⟨s0,s1,s2,s3,s4,s5,s6,s7,s8,s9⟩
                go_simp;with_reducible rfl
               rotate_left
               ·simp only [Act.put,sa_,sb_,sc_,i64_w,i32_w]
                rfl
               refine one_ (i:=11) (N:=some 119) (bl_ 21 258047) rfl rfl (one_of HT_.out (by kernel_rfl)) (by decide) (fun K hK => ?_);refine goes_ Try.func17 (by kernel_rfl) rfl #[.slice A131_2 ((rd_T40 l0 (rd t123 (ji83))).f2).length c131_2,.slice A2 l2.length c2,.slice A3 l3.length c3] (by rfl) rfl rfl (by (try simp only [List.map_toArray,List.map_cons,List.map_nil]);first|done|(simp only [hji83];rfl)|rfl|(simp only [List.length_drop,List.length_take];rfl)) ?_;with_reducible refine (changeforgeref5_Signers.calls kj18 _ _ ((rd_T40 l0 (rd t123 (ji83))).f2) _ _ l2 _ _ l3 t132 _ ?side1 ?side2 ?side3 ?side4 ?side5 ?side6 A90.out).mono ?_
               (case side1 => first|exact (Kd.C_below HR131_2.out HB.out)|exact Kd.C_mv (Kd.C_below HR131_2.out HB.out));(case side2 => exact HC131_2.out);(case side3 => first|exact (Kd.C_below HR2.out HB.out)|exact Kd.C_mv (Kd.C_below HR2.out HB.out));(case side4 => exact HC2.out);(case side5 => first|exact (Kd.C_below HR3.out HB.out)|exact Kd.C_mv (Kd.C_below HR3.out HB.out));(case side6 => exact HC3.out);rintro e w106 ⟨v133,rfl,ho0,hb⟩;refine ⟨_,rfl,?_⟩;have HO134:=Aside0.mk (Kd.R_lower (Kd.R_new' (Kd.R_new' ho0 (Kd.R_lt (Kd.R_mv HO_10.out))) (Kd.R_lt (Kd.R_mv HO125.out))) (below_size bel_));replace HO_10:=Aside0.mk (Kd.R_elder' (Kd.R_mv HO_10.out) (Kd.R_base ho0) hb);replace HO125:=Aside0.mk (Kd.R_elder' (Kd.R_mv HO125.out) (Kd.R_base ho0) hb);replace BK108:=Aside0.mk (blk_below (blk_mv BK108.out) hb);replace BK114:=Aside0.mk (blk_below (blk_mv BK114.out) hb);replace BK118:=Aside0.mk (blk_below (blk_mv BK118.out) hb);replace BK122:=Aside0.mk (blk_below (blk_mv BK122.out) hb);replace BK130:=Aside0.mk (blk_below (blk_mv BK130.out) hb);replace HB:=Aside0.mk (below_step bel_ hb);(try clear hb);(try clear ho0);obtain ⟨Ao107,co107,eo107⟩:=Kd.R_slice HO134.out;(first|subst eo107|(injection eo107 with f1_ f2_ f3_;have f4_:=f1_.symm;have f5_:=f3_.symm;clear f1_ f2_ f3_;subst f4_;subst f5_));refine hK.out _ _ ⟨(blk_cell BK130.out 0).trans rfl,(blk_cell BK130.out 1).trans rfl,((HB.out.cell (World.block_lt_of_cell? w _ hw131_0)).trans hw131_0),((HB.out.cell (World.block_lt_of_cell? w _ hw131_1)).trans hw131_1),((HB.out.cell (World.block_lt_of_cell? w _ hw131_2)).trans hw131_2),((HB.out.cell (World.block_lt_of_cell? w _ hw131_3)).trans hw131_3),((HB.out.cell (World.block_lt_of_cell? w _ hw135_0)).trans hw135_0),((HB.out.cell (World.block_lt_of_cell? w _ hw135_1)).trans hw135_1),((HB.out.cell (World.block_lt_of_cell? w _ hw135_2)).trans hw135_2),((HB.out.cell (World.block_lt_of_cell? w _ hw135_3)).trans hw135_3)⟩ (fun hHeld => ?_);clear hK K;refine norm_ (a':=?_) ?_ ?_;rotate_left
               ·show Act.put _ (some 119) _ = _
                simp only [Act.put,sa_,sb_,sc_,i64_w,i32_w];rfl
               refine pu_ (v:=?_) (a':=?_) 12 120 (bl_ 21 262143) rfl rfl HT_.out ?_ ?_ ?_;rotate_left
               ·intro w'
                go_simp;with_reducible rfl
               rotate_left
               ·simp only [Act.put,sa_,sb_,sc_,i64_w,i32_w]
                rfl
               refine pu_ (v:=?_) (a':=?_) 18 126 (bl_ 21 524287) rfl rfl HT_.out ?_ ?_ ?_;rotate_left
               ·intro w'
                go_simp;with_reducible rfl
               rotate_left
               ·simp only [Act.put,sa_,sb_,sc_,i64_w,i32_w]
                rfl
               refine pu_ (v:=?_) (a':=?_) 19 127 (bl_ 21 1048575) rfl rfl HT_.out ?_ ?_ ?_;rotate_left
               ·intro w'
                go_simp;with_reducible rfl
               rotate_left
               ·simp only [Act.put,sa_,sb_,sc_,i64_w,i32_w]
                rfl
               refine pu_ (v:=?_) (a':=?_) 20 19 (bl_ 21 2097151) rfl rfl HT_.out ?_ ?_ ?_;rotate_left
               ·intro w'
                go_simp;with_reducible rfl
               rotate_left
               ·simp only [Act.put,sa_,sb_,sc_,i64_w,i32_w]
                rfl
               refine done_ (done_of HT_.out (by kernel_rfl)) ?_;obtain ⟨Ao108,co108,eo108⟩:=Kd.R_slice HO_10.out;subst eo108;try go_wp2_with (first|((with_reducible refine gate_callee (f:=18) rfl ?_);refine goesL_ (some 130) rfl rfl Try.func18 (by kernel_rfl) rfl #[.slice Ao108 t109.length co108,.slice (some ad126) t123.length co96] rfl ln_ ?_;(with_reducible refine (changeforgeref5_Ints.calls kj18 _ _ t109 _ _ t123 true _ ?side1 ?side2 ?side3 ?side4 A91.out).mono ?_);(case side1 => first|exact (Kd.R_reads' HO_10.out).2.2|exact Kd.C_mv (Kd.R_reads' HO_10.out).2.2);(case side2 => exact (Kd.R_reads' HO_10.out).2.1);(case side3 => first|exact (Kd.R_reads' HO125.out).2.2|exact Kd.C_mv (Kd.R_reads' HO125.out).2.2);(case side4 => exact (Kd.R_reads' HO125.out).2.1);rintro e w' ⟨rfl,⟨nd,rfl⟩⟩;refine ⟨_,rfl,?_⟩;have hnb109:=NB122_108.out;have hnc109:=NB108_122.out;have hnb110:=NB122_114.out;have hnc110:=NB114_122.out;have hnb111:=NB122_118.out;have hnc111:=NB118_122.out;have hcz112_0:=blk_c (v:=.int .i64 t120) BK122.out 0 rfl;have hcz112_1:=blk_c (v:=.int .i64 t121) BK122.out 1 rfl;have hfz112_0:=blk_frozen BK122.out 0;have hfz112_1:=blk_frozen BK122.out 1;have hcz113_0:=blk_c (v:=.int .i64 t128) BK130.out 0 rfl;have hcz113_1:=blk_c (v:=.int .i64 t129) BK130.out 1 rfl;have hfz113_0:=blk_frozen BK130.out 0;have hfz113_1:=blk_frozen BK130.out 1))
               go_ret;exact ⟨by first|rfl|(simp [errW_none,errW_some] <;> rfl)|(simp only [← hji83];first|rfl|(simp [errW_none,errW_some] <;> rfl))|(simp [*,errW_none,errW_some] <;> rfl),bel_⟩
              ·rw [if_neg c94] at H
               exact absurd H (by simp)
             ·rw [if_neg c93] at H
              exact absurd H (by simp)
            ·replace c92:=Bool.eq_false_iff.mpr c92
             subst c92;have H1 : (none) = some r:=by rw [if_neg (show ¬ (false = true) by decide)] at H;exact H
             clear H;have H:=H1;clear H1;exact absurd H (by simp)
           ·rw [if_neg c89] at H
            have c89b0 : (t128 == 0) = false:=beq_eq_false_iff_ne.mpr c89;have c89b1 : (t128 != 0) = true:=bne_iff_ne.mpr c89;replace H:=Option.bind_eq_some_iff.mp H;obtain ⟨t137,A1140,H⟩:=H;replace H : (if t137 = true then (if t115 = (rd t123 (ji83)) then (if (t120 == t128 && (t121 == t129)) = true then (some (t119 == false)) else (none)) else (none)) else (none)) = some r:=H;have A114:=Aside0.mk A1140;clear A1140;by_cases c115 : t137 = true
            ·subst c115
             have H1 : (if t115 = (rd t123 (ji83)) then (if (t120 == t128 && (t121 == t129)) = true then (some (t119 == false)) else (none)) else (none)) = some r:=by rw [if_pos rfl] at H;exact H
             clear H;have H:=H1;clear H1;by_cases c116 : t115 = (rd t123 (ji83))
             ·rw [if_pos c116] at H
              have c116b0 : (t115 == (rd t123 (ji83))) = true:=beq_iff_eq.mpr c116;have c116b1 : (t115 != (rd t123 (ji83))) = false:=bne_eq_false_iff_eq.mpr c116;clear c116;by_cases c117 : (t120 == t128 && (t121 == t129)) = true
              ·rw [if_pos c117] at H
               have c117b0 : (t120 == t128 && (t121 == t129)) = true:=c117;(try (have c117b1 : decide (t120 = t128 && (t121 == t129)) = true:=by simpa using c117));(try (have c117b2 : (t120 == t128 && (t121 == t129)) = true:=by simpa using c117));clear c117;obtain rfl:=Option.some.inj H;try go_wp2_with (first|((with_reducible refine gate_callee (f:=15) rfl ?_);refine goesL_ (some 93) rfl rfl Try.func15 (by kernel_rfl) rfl #[.slice A0 l0.length c0,.string a1,.int .i64 0] rfl ln_ ?_;(with_reducible refine (changeforgeref5_RoleChain.calls kj18 _ _ l0 a1 0 t123 _ ?side1 ?side2 A82.out).mono ?_);(case side1 => first|exact (Kd.C_below HR0.out HB.out)|exact Kd.C_mv (Kd.C_below HR0.out HB.out));(case side2 => exact HC0.out);rintro e w118 ⟨v124,rfl,ho0,hb⟩;refine ⟨_,rfl,?_⟩;have HO125:=Aside0.mk (Kd.R_lower (Kd.R_new' ho0 (Kd.R_lt (Kd.R_mv HO_10.out))) (below_size bel_));replace HO_10:=Aside0.mk (Kd.R_elder' (Kd.R_mv HO_10.out) (Kd.R_base ho0) hb);replace BK108:=Aside0.mk (blk_below (blk_mv BK108.out) hb);replace BK114:=Aside0.mk (blk_below (blk_mv BK114.out) hb);replace BK118:=Aside0.mk (blk_below (blk_mv BK118.out) hb);replace BK122:=Aside0.mk (blk_below (blk_mv BK122.out) hb);replace HB:=Aside0.mk (below_step bel_ hb);(try clear hb);(try clear hb2);(try clear hk);(try clear hi);(try clear ho0);obtain ⟨Ao119,co119,eo119⟩:=Kd.R_slice HO125.out;subst eo119;have p126 : 0 ≤ ((ji83) : Int):=of_decide_eq_true as_;have q126 : (ji83) < (t123.length : Int):=of_decide_eq_true as_;obtain ⟨ad126,e126,hx126_0⟩:=Kd.at_int (Kd.R_reads' HO125.out).2.2 (ji83) p126 q126;cases e126;replace p126:=eq_true p126;replace q126:=eq_true q126;have p127 : 0 ≤ ((rd t123 (ji83)) : Int):=of_decide_eq_true as_;have q127 : (rd t123 (ji83)) < (l0.length : Int):=of_decide_eq_true as_;obtain ⟨ad127,A127_2,c127_2,e127,hx127_0,hx127_1,hx127_2,hx127_3,hl127_2,hi127_2⟩:=at_T40 HR0.out (rd t123 (ji83)) p127 q127;cases e127;replace hx127_0:=(HB.out.cell (World.block_lt_of_cell? w _ hx127_0)).trans hx127_0;replace hx127_1:=(HB.out.cell (World.block_lt_of_cell? w _ hx127_1)).trans hx127_1;replace hx127_2:=(HB.out.cell (World.block_lt_of_cell? w _ hx127_2)).trans hx127_2;replace hx127_3:=(HB.out.cell (World.block_lt_of_cell? w _ hx127_3)).trans hx127_3;have HR127_2:=Aside0.mk hi127_2;have HC127_2:=Aside0.mk hl127_2;clear hi127_2 hl127_2;replace p127:=eq_true p127;replace q127:=eq_true q127)|((with_reducible refine gate_callee (f:=16) rfl ?_);refine goesL_ (some 107) rfl rfl Try.func16 (by kernel_rfl) rfl #[.slice A127_2 ((rd_T40 l0 (rd t123 (ji83))).f2).length c127_2,.slice A2 l2.length c2,.slice A3 l3.length c3] rfl (by (try simp only [List.map_toArray,List.map_cons,List.map_nil]);first|done|(simp only [hji83];rfl)|rfl|(simp only [List.length_drop,List.length_take];rfl)) ?_;(with_reducible refine (changeforgeref5_SignersFault.calls kj18 _ _ ((rd_T40 l0 (rd t123 (ji83))).f2) _ _ l2 _ _ l3 t128 t129 _ ?side1 ?side2 ?side3 ?side4 ?side5 ?side6 A88.out).mono ?_);(case side1 => first|exact (Kd.C_below HR127_2.out HB.out)|exact Kd.C_mv (Kd.C_below HR127_2.out HB.out));(case side2 => exact HC127_2.out);(case side3 => first|exact (Kd.C_below HR2.out HB.out)|exact Kd.C_mv (Kd.C_below HR2.out HB.out));(case side4 => exact HC2.out);(case side5 => first|exact (Kd.C_below HR3.out HB.out)|exact Kd.C_mv (Kd.C_below HR3.out HB.out));(case side6 => exact HC3.out);rintro e w120 ⟨rfl,hb⟩;refine ⟨_,rfl,?_⟩;replace HO_10:=Aside0.mk (Kd.R_below (Kd.R_mv HO_10.out) hb);replace HO125:=Aside0.mk (Kd.R_below (Kd.R_mv HO125.out) hb);replace BK108:=Aside0.mk (blk_below (blk_mv BK108.out) hb);replace BK114:=Aside0.mk (blk_below (blk_mv BK114.out) hb);replace BK118:=Aside0.mk (blk_below (blk_mv BK118.out) hb);replace BK122:=Aside0.mk (blk_below (blk_mv BK122.out) hb);replace HB:=Aside0.mk (below_step bel_ hb);(try clear hb);(try clear hb2);(try clear hk);(try clear hi))|((with_reducible refine gate_dst (N:=18) rfl ?_);(try (refine gate_guard (by rfl) ?_;dsimp only));refine box_event ?hg (N:=18) ?hd (cs:=#[.int .i64 0,.int .i64 0]) (t:=27) ?hr ?_;(case hd => rfl);(case hg => rfl);(case hr => first|(go_simp;done)|(go_simp;rfl));intro gb130 hg w121 hbox hb;replace HO_10:=Aside0.mk (Kd.R_below (Kd.R_mv HO_10.out) hb);replace HO125:=Aside0.mk (Kd.R_below (Kd.R_mv HO125.out) hb);have BK130:=Aside0.mk (hbox);have GW130:=Aside0.mk ((bs_ : w.heap.size ≤ gb130));have GE130:=Aside0.mk ((bs_ : w.heap.size ≤ gb130));replace HB:=Aside0.mk (below_step bel_ hb);have NB108_130:=Aside0.mk ((by rw [hg];exact Nat.ne_of_lt (blk_lt (g:=gb108) (o:=.cells #[.int .i64 t106,.int .i64 t107] 27 (0,0)) (blk_mv BK108.out)) : gb108 ≠ gb130));have NB130_108:=Aside0.mk ((by rw [hg];exact Nat.ne_of_gt (blk_lt (g:=gb108) (o:=.cells #[.int .i64 t106,.int .i64 t107] 27 (0,0)) (blk_mv BK108.out)) : gb130 ≠ gb108));replace BK108:=Aside0.mk (blk_below (blk_mv BK108.out) hb);have NB114_130:=Aside0.mk ((by rw [hg];exact Nat.ne_of_lt (blk_lt (g:=gb114) (o:=.cells #[.int .i64 t112,.int .i64 t113] 27 (0,0)) (blk_mv BK114.out)) : gb114 ≠ gb130));have NB130_114:=Aside0.mk ((by rw [hg];exact Nat.ne_of_gt (blk_lt (g:=gb114) (o:=.cells #[.int .i64 t112,.int .i64 t113] 27 (0,0)) (blk_mv BK114.out)) : gb130 ≠ gb114));replace BK114:=Aside0.mk (blk_below (blk_mv BK114.out) hb);have NB118_130:=Aside0.mk ((by rw [hg];exact Nat.ne_of_lt (blk_lt (g:=gb118) (o:=.cells #[.int .i64 t116,.int .i64 t117] 27 (0,0)) (blk_mv BK118.out)) : gb118 ≠ gb130));have NB130_118:=Aside0.mk ((by rw [hg];exact Nat.ne_of_gt (blk_lt (g:=gb118) (o:=.cells #[.int .i64 t116,.int .i64 t117] 27 (0,0)) (blk_mv BK118.out)) : gb130 ≠ gb118));replace BK118:=Aside0.mk (blk_below (blk_mv BK118.out) hb);have NB122_130:=Aside0.mk ((by rw [hg];exact Nat.ne_of_lt (blk_lt (g:=gb122) (o:=.cells #[.int .i64 t120,.int .i64 t121] 27 (0,0)) (blk_mv BK122.out)) : gb122 ≠ gb130));have NB130_122:=Aside0.mk ((by rw [hg];exact Nat.ne_of_gt (blk_lt (g:=gb122) (o:=.cells #[.int .i64 t120,.int .i64 t121] 27 (0,0)) (blk_mv BK122.out)) : gb130 ≠ gb122));replace BK122:=Aside0.mk (blk_below (blk_mv BK122.out) hb);clear hb hbox hg;have hnb122:=NB130_108.out;have hnc122:=NB108_130.out;have hnb123:=NB130_114.out;have hnc123:=NB114_130.out;have hnb124:=NB130_118.out;have hnc124:=NB118_130.out;have hnb125:=NB130_122.out;have hnc125:=NB122_130.out;have hcz126_0:=blk_c (v:=.int .i64 0) BK130.out 0 rfl;have hcz126_1:=blk_c (v:=.int .i64 0) BK130.out 1 rfl;have hfz126_0:=blk_frozen BK130.out 0;have hfz126_1:=blk_frozen BK130.out 1))
               have n0_ : Aside0 (Kd.R (Kd.int .i64) 3 ((w121.setCell ⟨gb130,0,none⟩ (.int .i64 t128)).setCell ⟨gb130,1,none⟩ (.int .i64 t129)) w.heap.size (fun k_ => some k_ ≠ (.slice (some ad126) t123.length co119 : Value).ownBlock) v110 t109):=⟨by (with_reducible repeat (first|apply Kd.R_alloc|apply Kd.R_drewN|apply Kd.R_drew));exact Kd.R_mono (Kd.R_far (p:=⟨gb130,1,none⟩) (Kd.R_far (p:=⟨gb130,0,none⟩) (Kd.R_types HO_10.out BK130.out (by decide)) (fun _ hk => hk.2) (.int .i64 t128)) (fun _ hk => hk.2) (.int .i64 t129)) (fun _ hk => hk.1.2)⟩;have n1_ : Aside0 (Kd.R (Kd.int .i64) 3 ((w121.setCell ⟨gb130,0,none⟩ (.int .i64 t128)).setCell ⟨gb130,1,none⟩ (.int .i64 t129)) w.heap.size (fun k_ => some k_ ≠ (v110 : Value).ownBlock) (.slice (some ad126) t123.length co119) t123):=⟨by (with_reducible repeat (first|apply Kd.R_alloc|apply Kd.R_drewN|apply Kd.R_drew));exact Kd.R_mono (Kd.R_far (p:=⟨gb130,1,none⟩) (Kd.R_far (p:=⟨gb130,0,none⟩) (Kd.R_types HO125.out BK130.out (by decide)) (fun _ hk => hk.2) (.int .i64 t128)) (fun _ hk => hk.2) (.int .i64 t129)) (fun _ hk => hk.1.2)⟩;have n2_ : Aside0 (((w121.setCell ⟨gb130,0,none⟩ (.int .i64 t128)).setCell ⟨gb130,1,none⟩ (.int .i64 t129)).heap[gb108]? = some (.cells #[.int .i64 t106,.int .i64 t107] 27 (0,0))):=⟨by refine blk_mv ?_;refine blk_far ?_ NB108_130.out _;refine blk_mv ?_;refine blk_far ?_ NB108_130.out _;refine blk_mv ?_;exact BK108.out⟩;have n3_ : Aside0 (((w121.setCell ⟨gb130,0,none⟩ (.int .i64 t128)).setCell ⟨gb130,1,none⟩ (.int .i64 t129)).heap[gb114]? = some (.cells #[.int .i64 t112,.int .i64 t113] 27 (0,0))):=⟨by refine blk_mv ?_;refine blk_far ?_ NB114_130.out _;refine blk_mv ?_;refine blk_far ?_ NB114_130.out _;refine blk_mv ?_;exact BK114.out⟩;have n4_ : Aside0 (((w121.setCell ⟨gb130,0,none⟩ (.int .i64 t128)).setCell ⟨gb130,1,none⟩ (.int .i64 t129)).heap[gb118]? = some (.cells #[.int .i64 t116,.int .i64 t117] 27 (0,0))):=⟨by refine blk_mv ?_;refine blk_far ?_ NB118_130.out _;refine blk_mv ?_;refine blk_far ?_ NB118_130.out _;refine blk_mv ?_;exact BK118.out⟩;have n5_ : Aside0 (((w121.setCell ⟨gb130,0,none⟩ (.int .i64 t128)).setCell ⟨gb130,1,none⟩ (.int .i64 t129)).heap[gb122]? = some (.cells #[.int .i64 t120,.int .i64 t121] 27 (0,0))):=⟨by refine blk_mv ?_;refine blk_far ?_ NB122_130.out _;refine blk_mv ?_;refine blk_far ?_ NB122_130.out _;refine blk_mv ?_;exact BK122.out⟩;have n6_ : Aside0 (((w121.setCell ⟨gb130,0,none⟩ (.int .i64 t128)).setCell ⟨gb130,1,none⟩ (.int .i64 t129)).heap[gb130]? = some (.cells #[.int .i64 t128,.int .i64 t129] 27 (0,0))):=⟨by refine blk_mv ?_;refine blk_put (cs:=#[.int .i64 t128,.int .i64 0]) ?_ 1 _ rfl;refine blk_mv ?_;refine blk_put (cs:=#[.int .i64 0,.int .i64 0]) ?_ 0 _ rfl;refine blk_mv ?_;exact BK130.out⟩;have n7_ : Aside0 (Below w.heap.size w ((w121.setCell ⟨gb130,0,none⟩ (.int .i64 t128)).setCell ⟨gb130,1,none⟩ (.int .i64 t129))):=⟨bel_⟩;(try clear HO_10);(try clear HO125);(try clear BK108);(try clear BK114);(try clear BK118);(try clear BK122);(try clear BK130);(try clear HB);generalize ((w121.setCell ⟨gb130,0,none⟩ (.int .i64 t128)).setCell ⟨gb130,1,none⟩ (.int .i64 t129)) = w127 at n0_ n1_ n2_ n3_ n4_ n5_ n6_ n7_ ⊢;have HO_10:=n0_;have HO125:=n1_;have BK108:=n2_;have BK114:=n3_;have BK118:=n4_;have BK122:=n5_;have BK130:=n6_;have HB:=n7_;clear n0_ n1_ n2_ n3_ n4_ n5_ n6_ n7_;replace HO_10:=Aside0.mk (Kd.R_drew HO_10.out);replace HO125:=Aside0.mk (Kd.R_drew HO125.out);replace BK108:=Aside0.mk (blk_drew BK108.out);replace BK114:=Aside0.mk (blk_drew BK114.out);replace BK118:=Aside0.mk (blk_drew BK118.out);replace BK122:=Aside0.mk (blk_drew BK122.out);replace BK130:=Aside0.mk (blk_drew BK130.out);replace HB:=Aside0.mk (below_drew1 HB.out);refine start_ (n:=21) (S:=fun w' => w'.cell? ⟨gb130,0,none⟩ = some (.int .i64 t128) ∧ w'.cell? ⟨gb130,1,none⟩ = some (.int .i64 t129)) (ds:=[]) (bl_ 21 0) (by kernel_rfl) rfl rfl ⟨(blk_cell BK130.out 0).trans rfl,(blk_cell BK130.out 1).trans rfl⟩ (fun hHeld => ?_);refine with_tabW changeforgelaw5_RolesMatchSpec.tab12 changeforgelaw5_RolesMatchSpec.bits12 (fun HT_ HW_ => ?_);generalize w127.drew = w128 at HO_10 HO125 BK108 BK114 BK118 BK122 BK130 HB hHeld ⊢;refine pu_ (v:=?_) (a':=?_) 0 108 (bl_ 21 1) rfl rfl HT_.out ?_ ?_ ?_;rotate_left
               ·intro w'
                go_simp;with_reducible rfl
               rotate_left
               ·simp only [Act.put,sa_,sb_,sc_,i64_w,i32_w]
                rfl
               refine tk_ (v:=?_) (a':=?_) 1 109 (bl_ 21 3) rfl rfl HT_.out HW_.out ?_ hHeld ?_ ?_;rotate_left
               ·rintro w' ⟨s0,s1⟩
                go_simp;with_reducible rfl
               rotate_left
               ·simp only [Act.put,sa_,sb_,sc_,i64_w,i32_w]
                rfl
               refine pu_ (v:=?_) (a':=?_) 2 110 (bl_ 21 7) rfl rfl HT_.out ?_ ?_ ?_;rotate_left
               ·intro w'
                go_simp;with_reducible rfl
               rotate_left
               ·simp only [Act.put,sa_,sb_,sc_,i64_w,i32_w]
                rfl
               refine pu_ (v:=?_) (a':=?_) 3 111 (bl_ 21 15) rfl rfl HT_.out ?_ ?_ ?_;rotate_left
               ·intro w'
                go_simp;with_reducible rfl
               rotate_left
               ·simp only [Act.put,sa_,sb_,sc_,i64_w,i32_w]
                rfl
               refine pun_ (a':=?_) 4 112 (bl_ 21 31) rfl rfl HT_.out ?_ ?_;rotate_left
               ·simp only [Act.put,sa_,sb_,sc_,i64_w,i32_w]
                rfl
               refine pun_ (a':=?_) 5 113 (bl_ 21 63) rfl rfl HT_.out ?_ ?_;rotate_left
               ·simp only [Act.put,sa_,sb_,sc_,i64_w,i32_w]
                rfl
               refine pun_ (a':=?_) 6 114 (bl_ 21 127) rfl rfl HT_.out ?_ ?_;rotate_left
               ·simp only [Act.put,sa_,sb_,sc_,i64_w,i32_w]
                rfl
               refine pun_ (a':=?_) 7 115 (bl_ 21 255) rfl rfl HT_.out ?_ ?_;rotate_left
               ·simp only [Act.put,sa_,sb_,sc_,i64_w,i32_w]
                rfl
               refine pun_ (a':=?_) 8 116 (bl_ 21 511) rfl rfl HT_.out ?_ ?_;rotate_left
               ·simp only [Act.put,sa_,sb_,sc_,i64_w,i32_w]
                rfl
               refine pun_ (a':=?_) 9 117 (bl_ 21 1023) rfl rfl HT_.out ?_ ?_;rotate_left
               ·simp only [Act.put,sa_,sb_,sc_,i64_w,i32_w]
                rfl
               refine pun_ (a':=?_) 10 118 (bl_ 21 2047) rfl rfl HT_.out ?_ ?_;rotate_left
               ·simp only [Act.put,sa_,sb_,sc_,i64_w,i32_w]
                rfl
               refine pun_ (a':=?_) 11 119 (bl_ 21 4095) rfl rfl HT_.out ?_ ?_;rotate_left
               ·simp only [Act.put,sa_,sb_,sc_,i64_w,i32_w]
                rfl
               refine pun_ (a':=?_) 12 120 (bl_ 21 8191) rfl rfl HT_.out ?_ ?_;rotate_left
               ·simp only [Act.put,sa_,sb_,sc_,i64_w,i32_w]
                rfl
               refine pun_ (a':=?_) 13 121 (bl_ 21 16383) rfl rfl HT_.out ?_ ?_;rotate_left
               ·simp only [Act.put,sa_,sb_,sc_,i64_w,i32_w]
                rfl
               refine pun_ (a':=?_) 14 122 (bl_ 21 32767) rfl rfl HT_.out ?_ ?_;rotate_left
               ·simp only [Act.put,sa_,sb_,sc_,i64_w,i32_w]
                rfl
               refine pun_ (a':=?_) 15 123 (bl_ 21 65535) rfl rfl HT_.out ?_ ?_;rotate_left
               ·simp only [Act.put,sa_,sb_,sc_,i64_w,i32_w]
                rfl
               refine pun_ (a':=?_) 16 124 (bl_ 21 131071) rfl rfl HT_.out ?_ ?_;rotate_left
               ·simp only [Act.put,sa_,sb_,sc_,i64_w,i32_w]
                rfl
               refine pun_ (a':=?_) 17 125 (bl_ 21 262143) rfl rfl HT_.out ?_ ?_;rotate_left
               ·simp only [Act.put,sa_,sb_,sc_,i64_w,i32_w]
                rfl
               refine pun_ (a':=?_) 18 126 (bl_ 21 524287) rfl rfl HT_.out ?_ ?_;rotate_left
               ·simp only [Act.put,sa_,sb_,sc_,i64_w,i32_w]
                rfl
               refine pu_ (v:=?_) (a':=?_) 19 127 (bl_ 21 1048575) rfl rfl HT_.out ?_ ?_ ?_;rotate_left
               ·intro w'
                go_simp;with_reducible rfl
               rotate_left
               ·simp only [Act.put,sa_,sb_,sc_,i64_w,i32_w]
                rfl
               refine pu_ (v:=?_) (a':=?_) 20 19 (bl_ 21 2097151) rfl rfl HT_.out ?_ ?_ ?_;rotate_left
               ·intro w'
                go_simp;with_reducible rfl
               rotate_left
               ·simp only [Act.put,sa_,sb_,sc_,i64_w,i32_w]
                rfl
               refine done_ (done_of HT_.out (by kernel_rfl)) ?_;obtain ⟨Ao129,co129,eo129⟩:=Kd.R_slice HO_10.out;subst eo129;try go_wp2_with (first|((with_reducible refine gate_callee (f:=18) rfl ?_);refine goesL_ (some 130) rfl rfl Try.func18 (by kernel_rfl) rfl #[.slice Ao129 t109.length co129,.slice (some ad126) t123.length co119] rfl ln_ ?_;(with_reducible refine (changeforgeref5_Ints.calls kj18 _ _ t109 _ _ t123 true _ ?side1 ?side2 ?side3 ?side4 A114.out).mono ?_);(case side1 => first|exact (Kd.R_reads' HO_10.out).2.2|exact Kd.C_mv (Kd.R_reads' HO_10.out).2.2);(case side2 => exact (Kd.R_reads' HO_10.out).2.1);(case side3 => first|exact (Kd.R_reads' HO125.out).2.2|exact Kd.C_mv (Kd.R_reads' HO125.out).2.2);(case side4 => exact (Kd.R_reads' HO125.out).2.1);rintro e w' ⟨rfl,⟨nd,rfl⟩⟩;refine ⟨_,rfl,?_⟩;have hnb130:=NB122_108.out;have hnc130:=NB108_122.out;have hnb131:=NB122_114.out;have hnc131:=NB114_122.out;have hnb132:=NB122_118.out;have hnc132:=NB118_122.out;have hcz133_0:=blk_c (v:=.int .i64 t120) BK122.out 0 rfl;have hcz133_1:=blk_c (v:=.int .i64 t121) BK122.out 1 rfl;have hfz133_0:=blk_frozen BK122.out 0;have hfz133_1:=blk_frozen BK122.out 1;have hcz134_0:=blk_c (v:=.int .i64 t128) BK130.out 0 rfl;have hcz134_1:=blk_c (v:=.int .i64 t129) BK130.out 1 rfl;have hfz134_0:=blk_frozen BK130.out 0;have hfz134_1:=blk_frozen BK130.out 1))
               go_ret;exact ⟨by first|rfl|(simp [errW_none,errW_some] <;> rfl)|(simp only [← hji83];first|rfl|(simp [errW_none,errW_some] <;> rfl))|(simp [*,errW_none,errW_some] <;> rfl),bel_⟩
              ·rw [if_neg c117] at H
               exact absurd H (by simp)
             ·rw [if_neg c116] at H
              exact absurd H (by simp)
            ·replace c115:=Bool.eq_false_iff.mpr c115
             subst c115;have H1 : (none) = some r:=by rw [if_neg (show ¬ (false = true) by decide)] at H;exact H
             clear H;have H:=H1;clear H1;exact absurd H (by simp)
          ·rw [if_neg c87] at H
           exact absurd H (by simp)
         ·rw [if_neg c86] at H
          exact absurd H (by simp)
        ·rw [if_neg c85] at H
         exact absurd H (by simp)
       ·rw [if_neg c84] at H
        exact absurd H (by simp)

end Go.Proofs.Ytdelkdlegokbjaa.Fn
