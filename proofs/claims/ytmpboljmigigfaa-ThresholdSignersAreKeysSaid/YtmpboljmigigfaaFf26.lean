/- A function of the program as a plain Lean function, and the proof that the call comes to just what it says (written by wip/tools/xprint.py for this claim). Condition: the plain function has an answer. -/
import Derived.Test.YtmpboljmigigfaaFn0
import Derived.Test.YtmpboljmigigfaaFf13
import Derived.Test.YtmpboljmigigfaaFf27
import Derived.Test.YtmpboljmigigfaaFf29
import Derived.Test.YtmpboljmigigfaaFf31
import Derived.Test.YtmpboljmigigfaaFf43
import Derived.Test.YtmpboljmigigfaaFs0
import Derived.Test.YtmpboljmigigfaaWApart
import Derived.Test.YtmpboljmigigfaaWGuard
import Derived.Test.YtmpboljmigigfaaWInv
import Derived.Test.YtmpboljmigigfaaWKept
import Derived.Test.YtmpboljmigigfaaWLast
import Derived.Test.YtmpboljmigigfaaWMore
import Derived.Test.YtmpboljmigigfaaWN
import Derived.Test.YtmpboljmigigfaaWRepsOne
import Derived.Test.YtmpboljmigigfaaWTab
import Derived.Test.YtmpboljmigigfaaWWords
import Derived.Test.YtmpboljmigigfaaBconst
import Derived.Test.YtmpboljmigigfaaPuSigns
import Derived.Test.YtmpboljmigigfaaPuThr
namespace Go.Proofs.Ytmpboljmigigfaa.Fn
open Go.RowKit Go.Proofs.YtmpboljmigigfaaW.PrintWords Go.Proofs.YtmpboljmigigfaaW.PrintLast Go.Proofs.YtmpboljmigigfaaW.PrintMore
attribute [local go_sem] max2_int min2_int max_two min_two max_three min_three max_four min_four   -- for this text's walks alone
set_option linter.unusedVariables false
set_option linter.unusedSimpArgs false

/-! ### changeforgelaw5_accepts: function 26 -/
-- IMPORT Derived.Test.@SEAT@PuThr
-- IMPORT Derived.Test.@SEAT@PuSigns
-- IMPORT Derived.Test.@SEAT@Bconst
-- @PRIVATE@
def changeforgelaw5_acceptsx.f (k : Nat)  : Option (Bool):=(changeforgelaw5_two.f k (([97] : List Int))).bind fun t104 => ((threshold_Accept.f k (([5,7] : List Int)) 2 (([97] : List Int)) t104).bind fun bt113 => (if 0 < (t104.length : Int) then ((threshold_Accept.f k (([5,7] : List Int)) 2 (([97] : List Int)) (([(⟨(rd_T54 t104 0).f0,(rd_T54 t104 0).f1⟩ : S54),(⟨(rd_T54 t104 0).f0,(rd_T54 t104 0).f1⟩ : S54)] : List (S54)))).bind fun bt128 => (if 1 ≤ (t104.length : Int) then ((threshold_Signers.f k (([5,7] : List Int)) (([97] : List Int)) (t104.drop 1)).bind fun bt142 => ((changeforgelaw5_signs.f k).bind fun t148 => (if t148 = true then (if bt113.2.1 = 0 then (if bt128.2.1 = 0 then (if bt142.2.1 = 0 then (if bt113.1 = true then (if bt128.1 = true then (none) else ((changeforgeref5_Ints.f k bt142.1 (([7] : List Int))).bind fun t152 => (if t152 = true then ((threshold_Validate.f k (([5,5] : List Int)) 1).bind fun bt156 => ((changeforgelaw5_fault.f 5 1).bind fun bt158 => (some (bt156.1 == bt158.1 && (bt156.2 == bt158.2))))) else (none)))) else (none)) else (none)) else (none)) else (none)) else (none)))) else (none))) else (none)))
theorem changeforgelaw5_acceptsx.mono : ∀ k,LeO (changeforgelaw5_acceptsx.f k ) (changeforgelaw5_acceptsx.f (k + 1) ):=by
 intro  k
 unfold changeforgelaw5_acceptsx.f
 repeat' first
   | (with_reducible exact changeforgelaw5_signs.mono _)
   | (with_reducible exact changeforgelaw5_two.mono _ _)
   | (with_reducible exact changeforgeref5_Ints.mono _ _ _)
   | (with_reducible exact threshold_Accept.mono _ _ _ _ _)
   | (with_reducible exact threshold_Signers.mono _ _ _ _)
   | (with_reducible exact threshold_Validate.mono _ _ _)
   | (with_reducible exact LeO.refl _)
   | (with_reducible exact LeO.none _)
   | (with_reducible refine LeO.ite ?_ ?_)
   | (with_reducible refine LeO.bind ?_ (fun _ => ?_))
   | exact changeforgelaw5_signs.mono _
   | exact changeforgelaw5_two.mono _ _
   | exact changeforgeref5_Ints.mono _ _ _
   | exact threshold_Accept.mono _ _ _ _ _
   | exact threshold_Signers.mono _ _ _ _
   | exact threshold_Validate.mono _ _ _
   | exact LeO.none _
   | refine LeO.ite ?_ ?_
   | refine LeO.bind ?_ (fun _ => ?_)
def changeforgelaw5_acceptsx.T3 : Bool × List (List Nat × List Nat):=(true,[([],[]),([],[]),([1],[1]),([],[]),([3],[3]),([4],[4]),([],[]),([6],[6]),([7],[7]),([5,8],[5,8]),([0,2,9],[0,2,9]),([10],[10]),([11],[11]),([11],[11]),([],[]),([12,10,0,1,2,3,4,5,6,7,8,9,10,11,12,14],[12]),([14,13,15,0,1,2,3,4,5,6,7,8,9,10,11,12,13,14,15],[13,14])])
def changeforgelaw5_acceptsx.B3 : List Nat:=[0,0,2,0,8,24,0,64,192,504,1023,2047,4095,4095,0,24575,65535]
theorem changeforgelaw5_acceptsx.tab3 : rtab .any (opsOf Try.f26 3) = changeforgelaw5_acceptsx.T3:=by kernel_rfl
theorem changeforgelaw5_acceptsx.bits3 : waitsOk changeforgelaw5_acceptsx.T3.2 changeforgelaw5_acceptsx.B3 = true:=by kernel_rfl
set_option maxHeartbeats 8000000 in
set_option maxRecDepth 100000 in
theorem changeforgelaw5_acceptsx.calls (k : Nat)  (r : Bool) (w : World) (h : changeforgelaw5_acceptsx.f k  = some r) :
  Calls Try.prog 26 #[] w fun e w' => e = .returned (.bool r) ∧ Below w.heap.size w w':=by
 have hu26:=Try.underlying26
 have hu54:=Try.underlying54
 have HB:=Aside0.mk (Below.refl w.heap.size w)
 have H : ((changeforgelaw5_two.f k (([97] : List Int))).bind fun t104 => ((threshold_Accept.f k (([5,7] : List Int)) 2 (([97] : List Int)) t104).bind fun bt113 => (if 0 < (t104.length : Int) then ((threshold_Accept.f k (([5,7] : List Int)) 2 (([97] : List Int)) (([(⟨(rd_T54 t104 0).f0,(rd_T54 t104 0).f1⟩ : S54),(⟨(rd_T54 t104 0).f0,(rd_T54 t104 0).f1⟩ : S54)] : List (S54)))).bind fun bt128 => (if 1 ≤ (t104.length : Int) then ((threshold_Signers.f k (([5,7] : List Int)) (([97] : List Int)) (t104.drop 1)).bind fun bt142 => ((changeforgelaw5_signs.f k).bind fun t148 => (if t148 = true then (if bt113.2.1 = 0 then (if bt128.2.1 = 0 then (if bt142.2.1 = 0 then (if bt113.1 = true then (if bt128.1 = true then (none) else ((changeforgeref5_Ints.f k bt142.1 (([7] : List Int))).bind fun t152 => (if t152 = true then ((threshold_Validate.f k (([5,5] : List Int)) 1).bind fun bt156 => ((changeforgelaw5_fault.f 5 1).bind fun bt158 => (some (bt156.1 == bt158.1 && (bt156.2 == bt158.2))))) else (none)))) else (none)) else (none)) else (none)) else (none)) else (none)))) else (none))) else (none)))) = some r:=h
 clear h
 obtain ⟨y101,hy101⟩ : ∃ y_ : List Int,y_ = (([97] : List Int)):=⟨_,rfl⟩
 replace H : ((changeforgelaw5_two.f k y101).bind fun t104 => ((threshold_Accept.f k (([5,7] : List Int)) 2 (([97] : List Int)) t104).bind fun bt113 => (if 0 < (t104.length : Int) then ((threshold_Accept.f k (([5,7] : List Int)) 2 (([97] : List Int)) (([(⟨(rd_T54 t104 0).f0,(rd_T54 t104 0).f1⟩ : S54),(⟨(rd_T54 t104 0).f0,(rd_T54 t104 0).f1⟩ : S54)] : List (S54)))).bind fun bt128 => (if 1 ≤ (t104.length : Int) then ((threshold_Signers.f k (([5,7] : List Int)) (([97] : List Int)) (t104.drop 1)).bind fun bt142 => ((changeforgelaw5_signs.f k).bind fun t148 => (if t148 = true then (if bt113.2.1 = 0 then (if bt128.2.1 = 0 then (if bt142.2.1 = 0 then (if bt113.1 = true then (if bt128.1 = true then (none) else ((changeforgeref5_Ints.f k bt142.1 (([7] : List Int))).bind fun t152 => (if t152 = true then ((threshold_Validate.f k (([5,5] : List Int)) 1).bind fun bt156 => ((changeforgelaw5_fault.f 5 1).bind fun bt158 => (some (bt156.1 == bt158.1 && (bt156.2 == bt158.2))))) else (none)))) else (none)) else (none)) else (none)) else (none)) else (none)))) else (none))) else (none)))) = some r:=by first|(rw [hy101];with_reducible exact H)|(have H2_:=(Option.bind_some _ _).symm.trans H;rw [hy101];with_reducible exact H2_)|(have H2_:=(Option.bind_some _ _).symm.trans H;with_reducible exact H2_)|with_reducible exact H|(rw [hy101];exact H)|exact H
 have Ny101:=Aside0.mk hy101
 clear hy101
 replace H:=Option.bind_eq_some_iff.mp H
 obtain ⟨t104,A10,H⟩:=H
 replace H : ((threshold_Accept.f k (([5,7] : List Int)) 2 (([97] : List Int)) t104).bind fun bt113 => (if 0 < (t104.length : Int) then ((threshold_Accept.f k (([5,7] : List Int)) 2 (([97] : List Int)) (([(⟨(rd_T54 t104 0).f0,(rd_T54 t104 0).f1⟩ : S54),(⟨(rd_T54 t104 0).f0,(rd_T54 t104 0).f1⟩ : S54)] : List (S54)))).bind fun bt128 => (if 1 ≤ (t104.length : Int) then ((threshold_Signers.f k (([5,7] : List Int)) (([97] : List Int)) (t104.drop 1)).bind fun bt142 => ((changeforgelaw5_signs.f k).bind fun t148 => (if t148 = true then (if bt113.2.1 = 0 then (if bt128.2.1 = 0 then (if bt142.2.1 = 0 then (if bt113.1 = true then (if bt128.1 = true then (none) else ((changeforgeref5_Ints.f k bt142.1 (([7] : List Int))).bind fun t152 => (if t152 = true then ((threshold_Validate.f k (([5,5] : List Int)) 1).bind fun bt156 => ((changeforgelaw5_fault.f 5 1).bind fun bt158 => (some (bt156.1 == bt158.1 && (bt156.2 == bt158.2))))) else (none)))) else (none)) else (none)) else (none)) else (none)) else (none)))) else (none))) else (none))) = some r:=H
 have A1:=Aside0.mk A10
 clear A10
 obtain ⟨y107,hy107⟩ : ∃ y_ : List Int,y_ = (([5,7] : List Int)):=⟨_,rfl⟩
 replace H : ((threshold_Accept.f k y107 2 (([97] : List Int)) t104).bind fun bt113 => (if 0 < (t104.length : Int) then ((threshold_Accept.f k (([5,7] : List Int)) 2 (([97] : List Int)) (([(⟨(rd_T54 t104 0).f0,(rd_T54 t104 0).f1⟩ : S54),(⟨(rd_T54 t104 0).f0,(rd_T54 t104 0).f1⟩ : S54)] : List (S54)))).bind fun bt128 => (if 1 ≤ (t104.length : Int) then ((threshold_Signers.f k (([5,7] : List Int)) (([97] : List Int)) (t104.drop 1)).bind fun bt142 => ((changeforgelaw5_signs.f k).bind fun t148 => (if t148 = true then (if bt113.2.1 = 0 then (if bt128.2.1 = 0 then (if bt142.2.1 = 0 then (if bt113.1 = true then (if bt128.1 = true then (none) else ((changeforgeref5_Ints.f k bt142.1 (([7] : List Int))).bind fun t152 => (if t152 = true then ((threshold_Validate.f k (([5,5] : List Int)) 1).bind fun bt156 => ((changeforgelaw5_fault.f 5 1).bind fun bt158 => (some (bt156.1 == bt158.1 && (bt156.2 == bt158.2))))) else (none)))) else (none)) else (none)) else (none)) else (none)) else (none)))) else (none))) else (none))) = some r:=by first|(rw [hy107];with_reducible exact H)|(have H2_:=(Option.bind_some _ _).symm.trans H;rw [hy107];with_reducible exact H2_)|(have H2_:=(Option.bind_some _ _).symm.trans H;with_reducible exact H2_)|with_reducible exact H|(rw [hy107];exact H)|exact H
 have Ny107:=Aside0.mk hy107
 clear hy107
 obtain ⟨y110,hy110⟩ : ∃ y_ : List Int,y_ = (([97] : List Int)):=⟨_,rfl⟩
 replace H : ((threshold_Accept.f k y107 2 y110 t104).bind fun bt113 => (if 0 < (t104.length : Int) then ((threshold_Accept.f k (([5,7] : List Int)) 2 (([97] : List Int)) (([(⟨(rd_T54 t104 0).f0,(rd_T54 t104 0).f1⟩ : S54),(⟨(rd_T54 t104 0).f0,(rd_T54 t104 0).f1⟩ : S54)] : List (S54)))).bind fun bt128 => (if 1 ≤ (t104.length : Int) then ((threshold_Signers.f k (([5,7] : List Int)) (([97] : List Int)) (t104.drop 1)).bind fun bt142 => ((changeforgelaw5_signs.f k).bind fun t148 => (if t148 = true then (if bt113.2.1 = 0 then (if bt128.2.1 = 0 then (if bt142.2.1 = 0 then (if bt113.1 = true then (if bt128.1 = true then (none) else ((changeforgeref5_Ints.f k bt142.1 (([7] : List Int))).bind fun t152 => (if t152 = true then ((threshold_Validate.f k (([5,5] : List Int)) 1).bind fun bt156 => ((changeforgelaw5_fault.f 5 1).bind fun bt158 => (some (bt156.1 == bt158.1 && (bt156.2 == bt158.2))))) else (none)))) else (none)) else (none)) else (none)) else (none)) else (none)))) else (none))) else (none))) = some r:=by first|(rw [hy110];with_reducible exact H)|(have H2_:=(Option.bind_some _ _).symm.trans H;rw [hy110];with_reducible exact H2_)|(have H2_:=(Option.bind_some _ _).symm.trans H;with_reducible exact H2_)|with_reducible exact H|(rw [hy110];exact H)|exact H
 have Ny110:=Aside0.mk hy110
 clear hy110
 replace H:=Option.bind_eq_some_iff.mp H
 obtain ⟨⟨t113,t114,t115⟩,A20,H⟩:=H
 replace H : (if 0 < (t104.length : Int) then ((threshold_Accept.f k (([5,7] : List Int)) 2 (([97] : List Int)) (([(⟨(rd_T54 t104 0).f0,(rd_T54 t104 0).f1⟩ : S54),(⟨(rd_T54 t104 0).f0,(rd_T54 t104 0).f1⟩ : S54)] : List (S54)))).bind fun bt128 => (if 1 ≤ (t104.length : Int) then ((threshold_Signers.f k (([5,7] : List Int)) (([97] : List Int)) (t104.drop 1)).bind fun bt142 => ((changeforgelaw5_signs.f k).bind fun t148 => (if t148 = true then (if t114 = 0 then (if bt128.2.1 = 0 then (if bt142.2.1 = 0 then (if t113 = true then (if bt128.1 = true then (none) else ((changeforgeref5_Ints.f k bt142.1 (([7] : List Int))).bind fun t152 => (if t152 = true then ((threshold_Validate.f k (([5,5] : List Int)) 1).bind fun bt156 => ((changeforgelaw5_fault.f 5 1).bind fun bt158 => (some (bt156.1 == bt158.1 && (bt156.2 == bt158.2))))) else (none)))) else (none)) else (none)) else (none)) else (none)) else (none)))) else (none))) else (none)) = some r:=H
 have A2:=Aside0.mk A20
 clear A20
 obtain ⟨y117,hy117⟩ : ∃ y_ : List Int,y_ = (([5,7] : List Int)):=⟨_,rfl⟩
 replace H : (if 0 < (t104.length : Int) then ((threshold_Accept.f k y117 2 (([97] : List Int)) (([(⟨(rd_T54 t104 0).f0,(rd_T54 t104 0).f1⟩ : S54),(⟨(rd_T54 t104 0).f0,(rd_T54 t104 0).f1⟩ : S54)] : List (S54)))).bind fun bt128 => (if 1 ≤ (t104.length : Int) then ((threshold_Signers.f k (([5,7] : List Int)) (([97] : List Int)) (t104.drop 1)).bind fun bt142 => ((changeforgelaw5_signs.f k).bind fun t148 => (if t148 = true then (if t114 = 0 then (if bt128.2.1 = 0 then (if bt142.2.1 = 0 then (if t113 = true then (if bt128.1 = true then (none) else ((changeforgeref5_Ints.f k bt142.1 (([7] : List Int))).bind fun t152 => (if t152 = true then ((threshold_Validate.f k (([5,5] : List Int)) 1).bind fun bt156 => ((changeforgelaw5_fault.f 5 1).bind fun bt158 => (some (bt156.1 == bt158.1 && (bt156.2 == bt158.2))))) else (none)))) else (none)) else (none)) else (none)) else (none)) else (none)))) else (none))) else (none)) = some r:=by first|(rw [hy117];with_reducible exact H)|(have H2_:=(Option.bind_some _ _).symm.trans H;rw [hy117];with_reducible exact H2_)|(have H2_:=(Option.bind_some _ _).symm.trans H;with_reducible exact H2_)|with_reducible exact H|(rw [hy117];exact H)|exact H
 have Ny117:=Aside0.mk hy117
 clear hy117
 obtain ⟨y120,hy120⟩ : ∃ y_ : List Int,y_ = (([97] : List Int)):=⟨_,rfl⟩
 replace H : (if 0 < (t104.length : Int) then ((threshold_Accept.f k y117 2 y120 (([(⟨(rd_T54 t104 0).f0,(rd_T54 t104 0).f1⟩ : S54),(⟨(rd_T54 t104 0).f0,(rd_T54 t104 0).f1⟩ : S54)] : List (S54)))).bind fun bt128 => (if 1 ≤ (t104.length : Int) then ((threshold_Signers.f k (([5,7] : List Int)) (([97] : List Int)) (t104.drop 1)).bind fun bt142 => ((changeforgelaw5_signs.f k).bind fun t148 => (if t148 = true then (if t114 = 0 then (if bt128.2.1 = 0 then (if bt142.2.1 = 0 then (if t113 = true then (if bt128.1 = true then (none) else ((changeforgeref5_Ints.f k bt142.1 (([7] : List Int))).bind fun t152 => (if t152 = true then ((threshold_Validate.f k (([5,5] : List Int)) 1).bind fun bt156 => ((changeforgelaw5_fault.f 5 1).bind fun bt158 => (some (bt156.1 == bt158.1 && (bt156.2 == bt158.2))))) else (none)))) else (none)) else (none)) else (none)) else (none)) else (none)))) else (none))) else (none)) = some r:=by first|(rw [hy120];with_reducible exact H)|(have H2_:=(Option.bind_some _ _).symm.trans H;rw [hy120];with_reducible exact H2_)|(have H2_:=(Option.bind_some _ _).symm.trans H;with_reducible exact H2_)|with_reducible exact H|(rw [hy120];exact H)|exact H
 have Ny120:=Aside0.mk hy120
 clear hy120
 by_cases c3 : 0 < (t104.length : Int)
 ·rw [if_pos c3] at H
  have c3b0 : decide (0 < (t104.length : Int)) = true:=decide_eq_true c3
  have c3b1 : decide (0 < t104.length) = true:=decide_eq_true (by omega)
  clear c3
  obtain ⟨y125,hy125⟩ : ∃ y_ : List (S54),y_ = (([(⟨(rd_T54 t104 0).f0,(rd_T54 t104 0).f1⟩ : S54),(⟨(rd_T54 t104 0).f0,(rd_T54 t104 0).f1⟩ : S54)] : List (S54))):=⟨_,rfl⟩
  replace H : ((threshold_Accept.f k y117 2 y120 y125).bind fun bt128 => (if 1 ≤ (t104.length : Int) then ((threshold_Signers.f k (([5,7] : List Int)) (([97] : List Int)) (t104.drop 1)).bind fun bt142 => ((changeforgelaw5_signs.f k).bind fun t148 => (if t148 = true then (if t114 = 0 then (if bt128.2.1 = 0 then (if bt142.2.1 = 0 then (if t113 = true then (if bt128.1 = true then (none) else ((changeforgeref5_Ints.f k bt142.1 (([7] : List Int))).bind fun t152 => (if t152 = true then ((threshold_Validate.f k (([5,5] : List Int)) 1).bind fun bt156 => ((changeforgelaw5_fault.f 5 1).bind fun bt158 => (some (bt156.1 == bt158.1 && (bt156.2 == bt158.2))))) else (none)))) else (none)) else (none)) else (none)) else (none)) else (none)))) else (none))) = some r:=by first|(rw [hy125];with_reducible exact H)|(have H2_:=(Option.bind_some _ _).symm.trans H;rw [hy125];with_reducible exact H2_)|(have H2_:=(Option.bind_some _ _).symm.trans H;with_reducible exact H2_)|with_reducible exact H|(rw [hy125];exact H)|exact H
  have Ny125:=Aside0.mk hy125
  clear hy125
  replace H:=Option.bind_eq_some_iff.mp H
  obtain ⟨⟨t128,t129,t130⟩,A40,H⟩:=H
  replace H : (if 1 ≤ (t104.length : Int) then ((threshold_Signers.f k (([5,7] : List Int)) (([97] : List Int)) (t104.drop 1)).bind fun bt142 => ((changeforgelaw5_signs.f k).bind fun t148 => (if t148 = true then (if t114 = 0 then (if t129 = 0 then (if bt142.2.1 = 0 then (if t113 = true then (if t128 = true then (none) else ((changeforgeref5_Ints.f k bt142.1 (([7] : List Int))).bind fun t152 => (if t152 = true then ((threshold_Validate.f k (([5,5] : List Int)) 1).bind fun bt156 => ((changeforgelaw5_fault.f 5 1).bind fun bt158 => (some (bt156.1 == bt158.1 && (bt156.2 == bt158.2))))) else (none)))) else (none)) else (none)) else (none)) else (none)) else (none)))) else (none)) = some r:=H
  have A4:=Aside0.mk A40
  clear A40
  obtain ⟨y132,hy132⟩ : ∃ y_ : List Int,y_ = (([5,7] : List Int)):=⟨_,rfl⟩
  replace H : (if 1 ≤ (t104.length : Int) then ((threshold_Signers.f k y132 (([97] : List Int)) (t104.drop 1)).bind fun bt142 => ((changeforgelaw5_signs.f k).bind fun t148 => (if t148 = true then (if t114 = 0 then (if t129 = 0 then (if bt142.2.1 = 0 then (if t113 = true then (if t128 = true then (none) else ((changeforgeref5_Ints.f k bt142.1 (([7] : List Int))).bind fun t152 => (if t152 = true then ((threshold_Validate.f k (([5,5] : List Int)) 1).bind fun bt156 => ((changeforgelaw5_fault.f 5 1).bind fun bt158 => (some (bt156.1 == bt158.1 && (bt156.2 == bt158.2))))) else (none)))) else (none)) else (none)) else (none)) else (none)) else (none)))) else (none)) = some r:=by first|(rw [hy132];with_reducible exact H)|(have H2_:=(Option.bind_some _ _).symm.trans H;rw [hy132];with_reducible exact H2_)|(have H2_:=(Option.bind_some _ _).symm.trans H;with_reducible exact H2_)|with_reducible exact H|(rw [hy132];exact H)|exact H
  have Ny132:=Aside0.mk hy132
  clear hy132
  obtain ⟨y135,hy135⟩ : ∃ y_ : List Int,y_ = (([97] : List Int)):=⟨_,rfl⟩
  replace H : (if 1 ≤ (t104.length : Int) then ((threshold_Signers.f k y132 y135 (t104.drop 1)).bind fun bt142 => ((changeforgelaw5_signs.f k).bind fun t148 => (if t148 = true then (if t114 = 0 then (if t129 = 0 then (if bt142.2.1 = 0 then (if t113 = true then (if t128 = true then (none) else ((changeforgeref5_Ints.f k bt142.1 (([7] : List Int))).bind fun t152 => (if t152 = true then ((threshold_Validate.f k (([5,5] : List Int)) 1).bind fun bt156 => ((changeforgelaw5_fault.f 5 1).bind fun bt158 => (some (bt156.1 == bt158.1 && (bt156.2 == bt158.2))))) else (none)))) else (none)) else (none)) else (none)) else (none)) else (none)))) else (none)) = some r:=by first|(rw [hy135];with_reducible exact H)|(have H2_:=(Option.bind_some _ _).symm.trans H;rw [hy135];with_reducible exact H2_)|(have H2_:=(Option.bind_some _ _).symm.trans H;with_reducible exact H2_)|with_reducible exact H|(rw [hy135];exact H)|exact H
  have Ny135:=Aside0.mk hy135
  clear hy135
  by_cases c5 : 1 ≤ (t104.length : Int)
  ·rw [if_pos c5] at H
   have c5b0:=eq_true c5
   have c5b1 : decide (1 ≤ (t104.length : Int)) = true:=decide_eq_true c5
   clear c5
   obtain ⟨y138,hy138⟩ : ∃ y_ : List (S54),y_ = (t104.drop 1):=⟨_,rfl⟩
   replace H : ((threshold_Signers.f k y132 y135 y138).bind fun bt142 => ((changeforgelaw5_signs.f k).bind fun t148 => (if t148 = true then (if t114 = 0 then (if t129 = 0 then (if bt142.2.1 = 0 then (if t113 = true then (if t128 = true then (none) else ((changeforgeref5_Ints.f k bt142.1 (([7] : List Int))).bind fun t152 => (if t152 = true then ((threshold_Validate.f k (([5,5] : List Int)) 1).bind fun bt156 => ((changeforgelaw5_fault.f 5 1).bind fun bt158 => (some (bt156.1 == bt158.1 && (bt156.2 == bt158.2))))) else (none)))) else (none)) else (none)) else (none)) else (none)) else (none)))) = some r:=by first|(rw [hy138];with_reducible exact H)|(have H2_:=(Option.bind_some _ _).symm.trans H;rw [hy138];with_reducible exact H2_)|(have H2_:=(Option.bind_some _ _).symm.trans H;with_reducible exact H2_)|with_reducible exact H|(rw [hy138];exact H)|exact H
   have Ny138:=Aside0.mk hy138
   clear hy138
   replace H:=Option.bind_eq_some_iff.mp H
   obtain ⟨⟨t142,t145,t146⟩,A60,H⟩:=H
   replace H : ((changeforgelaw5_signs.f k).bind fun t148 => (if t148 = true then (if t114 = 0 then (if t129 = 0 then (if t145 = 0 then (if t113 = true then (if t128 = true then (none) else ((changeforgeref5_Ints.f k t142 (([7] : List Int))).bind fun t152 => (if t152 = true then ((threshold_Validate.f k (([5,5] : List Int)) 1).bind fun bt156 => ((changeforgelaw5_fault.f 5 1).bind fun bt158 => (some (bt156.1 == bt158.1 && (bt156.2 == bt158.2))))) else (none)))) else (none)) else (none)) else (none)) else (none)) else (none))) = some r:=H
   have A6:=Aside0.mk A60
   clear A60
   replace H:=Option.bind_eq_some_iff.mp H
   obtain ⟨t148,A70,H⟩:=H
   replace H : (if t148 = true then (if t114 = 0 then (if t129 = 0 then (if t145 = 0 then (if t113 = true then (if t128 = true then (none) else ((changeforgeref5_Ints.f k t142 (([7] : List Int))).bind fun t152 => (if t152 = true then ((threshold_Validate.f k (([5,5] : List Int)) 1).bind fun bt156 => ((changeforgelaw5_fault.f 5 1).bind fun bt158 => (some (bt156.1 == bt158.1 && (bt156.2 == bt158.2))))) else (none)))) else (none)) else (none)) else (none)) else (none)) else (none)) = some r:=H
   have A7:=Aside0.mk A70
   clear A70
   by_cases c8 : t148 = true
   ·subst c8
    have H1 : (if t114 = 0 then (if t129 = 0 then (if t145 = 0 then (if t113 = true then (if t128 = true then (none) else ((changeforgeref5_Ints.f k t142 (([7] : List Int))).bind fun t152 => (if t152 = true then ((threshold_Validate.f k (([5,5] : List Int)) 1).bind fun bt156 => ((changeforgelaw5_fault.f 5 1).bind fun bt158 => (some (bt156.1 == bt158.1 && (bt156.2 == bt158.2))))) else (none)))) else (none)) else (none)) else (none)) else (none)) = some r:=by rw [if_pos rfl] at H;exact H
    clear H
    have H:=H1
    clear H1
    by_cases c9 : t114 = 0
    ·rw [if_pos c9] at H
     have c9b0 : (t114 == 0) = true:=beq_iff_eq.mpr c9
     have c9b1 : (t114 != 0) = false:=bne_eq_false_iff_eq.mpr c9
     clear c9
     by_cases c10 : t129 = 0
     ·rw [if_pos c10] at H
      have c10b0 : (t129 == 0) = true:=beq_iff_eq.mpr c10
      have c10b1 : (t129 != 0) = false:=bne_eq_false_iff_eq.mpr c10
      clear c10
      by_cases c11 : t145 = 0
      ·rw [if_pos c11] at H
       have c11b0 : (t145 == 0) = true:=beq_iff_eq.mpr c11
       have c11b1 : (t145 != 0) = false:=bne_eq_false_iff_eq.mpr c11
       clear c11
       by_cases c12 : t113 = true
       ·subst c12
        have H1 : (if t128 = true then (none) else ((changeforgeref5_Ints.f k t142 (([7] : List Int))).bind fun t152 => (if t152 = true then ((threshold_Validate.f k (([5,5] : List Int)) 1).bind fun bt156 => ((changeforgelaw5_fault.f 5 1).bind fun bt158 => (some (bt156.1 == bt158.1 && (bt156.2 == bt158.2))))) else (none)))) = some r:=by rw [if_pos rfl] at H;exact H
        clear H
        have H:=H1
        clear H1
        by_cases c13 : t128 = true
        ·subst c13
         have H1 : (none) = some r:=by rw [if_pos rfl] at H;exact H
         clear H
         have H:=H1
         clear H1
         exact absurd H (by simp)
        ·replace c13:=Bool.eq_false_iff.mpr c13
         subst c13
         have H1 : ((changeforgeref5_Ints.f k t142 (([7] : List Int))).bind fun t152 => (if t152 = true then ((threshold_Validate.f k (([5,5] : List Int)) 1).bind fun bt156 => ((changeforgelaw5_fault.f 5 1).bind fun bt158 => (some (bt156.1 == bt158.1 && (bt156.2 == bt158.2))))) else (none))) = some r:=by rw [if_neg (show ¬ (false = true) by decide)] at H;exact H
         clear H
         have H:=H1
         clear H1
         obtain ⟨y149,hy149⟩ : ∃ y_ : List Int,y_ = (([7] : List Int)):=⟨_,rfl⟩
         replace H : ((changeforgeref5_Ints.f k t142 y149).bind fun t152 => (if t152 = true then ((threshold_Validate.f k (([5,5] : List Int)) 1).bind fun bt156 => ((changeforgelaw5_fault.f 5 1).bind fun bt158 => (some (bt156.1 == bt158.1 && (bt156.2 == bt158.2))))) else (none))) = some r:=by first|(rw [hy149];with_reducible exact H)|(have H2_:=(Option.bind_some _ _).symm.trans H;rw [hy149];with_reducible exact H2_)|(have H2_:=(Option.bind_some _ _).symm.trans H;with_reducible exact H2_)|with_reducible exact H|(rw [hy149];exact H)|exact H
         have Ny149:=Aside0.mk hy149
         clear hy149
         replace H:=Option.bind_eq_some_iff.mp H
         obtain ⟨t152,A140,H⟩:=H
         replace H : (if t152 = true then ((threshold_Validate.f k (([5,5] : List Int)) 1).bind fun bt156 => ((changeforgelaw5_fault.f 5 1).bind fun bt158 => (some (bt156.1 == bt158.1 && (bt156.2 == bt158.2))))) else (none)) = some r:=H
         have A14:=Aside0.mk A140
         clear A140
         by_cases c15 : t152 = true
         ·subst c15
          have H1 : ((threshold_Validate.f k (([5,5] : List Int)) 1).bind fun bt156 => ((changeforgelaw5_fault.f 5 1).bind fun bt158 => (some (bt156.1 == bt158.1 && (bt156.2 == bt158.2))))) = some r:=by rw [if_pos rfl] at H;exact H
          clear H
          have H:=H1
          clear H1
          obtain ⟨y153,hy153⟩ : ∃ y_ : List Int,y_ = (([5,5] : List Int)):=⟨_,rfl⟩
          replace H : ((threshold_Validate.f k y153 1).bind fun bt156 => ((changeforgelaw5_fault.f 5 1).bind fun bt158 => (some (bt156.1 == bt158.1 && (bt156.2 == bt158.2))))) = some r:=by first|(rw [hy153];with_reducible exact H)|(have H2_:=(Option.bind_some _ _).symm.trans H;rw [hy153];with_reducible exact H2_)|(have H2_:=(Option.bind_some _ _).symm.trans H;with_reducible exact H2_)|with_reducible exact H|(rw [hy153];exact H)|exact H
          have Ny153:=Aside0.mk hy153
          clear hy153
          replace H:=Option.bind_eq_some_iff.mp H
          obtain ⟨⟨t156,t157⟩,A160,H⟩:=H
          replace H : ((changeforgelaw5_fault.f 5 1).bind fun bt158 => (some (t156 == bt158.1 && (t157 == bt158.2)))) = some r:=H
          have A16:=Aside0.mk A160
          clear A160
          replace H:=Option.bind_eq_some_iff.mp H
          obtain ⟨⟨t158,t159⟩,A170,H⟩:=H
          replace H : (some (t156 == t158 && (t157 == t159))) = some r:=H
          have A17:=Aside0.mk A170
          clear A170
          obtain rfl:=Option.some.inj H
          go_enter Try.func26,Try.ntmps26
          try go_wp2_with (first|((with_reducible refine gate_dst (N:=8) rfl ?_);(try (refine gate_guard (by rfl) ?_;dsimp only));refine Kd.R_lit (Kd.int .u8) _ 5 ?hg (N:=8) ?hd (xs:=([97] : List Int)) (inner:=[.int .u8 97]) (ok:=fun _ => True) (okp:=fun _ => True) ?hr ?hp (fun _ hk => hk) trivial (Below.refl _ _) (Nat.le_refl _) (by simp) ?_;(case hd => rfl);(case hg => rfl);(case hr => first|(go_simp;done)|(go_simp;rfl));(case hp => exact (Reps.one (show Kd.M (Kd.int .u8) _ _ _ 97 [.int .u8 97] from rfl) (Reps.none _ _)));intro v102 w18 ho19 hb hg_ hnew_;clear hg_ hnew_;(first|rw [← Ny101.out] at ho19|(simp only [Int.reduceToNat] at ho19;rw [← Ny101.out] at ho19));have n0_:=Aside0.mk (Bc.Kf_lower (Bc.Kf_of_R ho19 (by rw [Ny101.out];decide)) (below_size (by repeat (first|(with_reducible first|exact HB.out|apply below_alloc|apply pw_below_drewN|apply below_drew1)|exact HB.out))));have n1_:=Aside0.mk (below_step (by repeat (first|(with_reducible first|exact HB.out|apply below_alloc|apply pw_below_drewN|apply below_drew1)|exact HB.out)) hb);clear HB;have HO103:=n0_;have HB:=n1_;clear n0_ n1_;clear hb ho19;obtain ⟨Ao20,co20,eo20⟩:=Bc.Kf_slice HO103.out;subst eo20)|((with_reducible refine gate_dst (N:=9) rfl ?_);(try (refine gate_guard (by rfl) ?_;dsimp only));obtain ⟨p_,hr_,hp_,hc_⟩:=Bc.Kf_conv (P:=Try.prog) Try.underlying22 Try.underlying5 HO103.out;refine Kd.event_run ?hg (v:=.slice Ao20 y101.length co20) (w1:=w18.freeze p_ 1) ?hr ?_;(case hg => rfl);(case hr => first|(go_simp;done)|(go_simp;rfl)|(go_simp;exact hc_)|(go_simp;rw [hc_];rfl));have n0_:=Aside0.mk (Bc.Kf_freeze HO103.out p_ 1 hr_);have n1_:=Aside0.mk (Bc.below_freeze HB.out p_ 1 hp_);clear HO103;clear HB;generalize w18.freeze p_ 1 = wz9 at n0_ n1_ ⊢;have HO103:=n0_;have HB:=n1_;clear n0_ n1_ hc_ hr_ hp_)|((with_reducible refine gate_callee (f:=43) rfl ?_);refine goesL_ (some 10) rfl rfl Try.func43 (by kernel_rfl) rfl #[.slice Ao20 y101.length co20] rfl (by (try simp only [List.map_toArray,List.map_cons,List.map_nil]);first|done|rfl|(simp only [List.length_drop,List.length_take];rfl)) ?_;(with_reducible refine (changeforgelaw5_two.calls k _ _ y101 t104 _ ?side1 ?side2 A1.out).mono ?_);(case side1 => repeat (first|exact (Bc.Kf_reads' HO103.out).2.2|(with_reducible refine Kd.C_alloc ?_ _)|(with_reducible refine Kd.C_drewN ?_ _)|(with_reducible refine Kd.C_drew ?_)));(case side2 => exact (Bc.Kf_reads' HO103.out).2.1);rintro e w21 ⟨v105,rfl,ho0,hb⟩;refine ⟨_,rfl,?_⟩;have n0_:=Aside0.mk (Bc.Kf_below (by (with_reducible repeat (first|apply Bc.Kf_alloc|apply Bc.Kf_drewN|apply Bc.Kf_drew));exact HO103.out) hb);have n1_:=Aside0.mk (Kd.R_lower ho0 (below_size (by repeat (first|(with_reducible first|exact HB.out|apply below_alloc|apply pw_below_drewN|apply below_drew1)|exact HB.out))));have n2_:=Aside0.mk (below_step (by repeat (first|(with_reducible first|exact HB.out|apply below_alloc|apply pw_below_drewN|apply below_drew1)|exact HB.out)) hb);clear HO103;clear HB;have HO103:=n0_;have HO106:=n1_;have HB:=n2_;clear n0_ n1_ n2_;(try clear hb);(try clear hb2);(try clear hk);(try clear hi);(try clear ho0))|((with_reducible refine gate_dst (N:=12) rfl ?_);(try (refine gate_guard (by rfl) ?_;dsimp only));refine Kd.R_lit (Kd.int .i64) _ 3 ?hg (N:=12) ?hd (xs:=([5,7] : List Int)) (inner:=[.int .i64 5,.int .i64 7]) (ok:=fun _ => True) (okp:=fun _ => True) ?hr ?hp (fun _ hk => hk) trivial (Below.refl _ _) (Nat.le_refl _) (by simp) ?_;(case hd => rfl);(case hg => rfl);(case hr => first|(go_simp;done)|(go_simp;rfl));(case hp => exact (Reps.one (show Kd.M (Kd.int .i64) _ _ _ 5 [.int .i64 5] from rfl) (Reps.one (show Kd.M (Kd.int .i64) _ _ _ 7 [.int .i64 7] from rfl) (Reps.none _ _))));intro v108 w22 ho23 hb hg_ hnew_;clear hg_ hnew_;(first|rw [← Ny107.out] at ho23|(simp only [Int.reduceToNat] at ho23;rw [← Ny107.out] at ho23));have n0_:=Aside0.mk (Kd.R_below (by (with_reducible repeat (first|apply Kd.R_alloc|apply Kd.R_drewN|apply Kd.R_drew));exact HO106.out) hb);have n1_:=Aside0.mk (Kd.R_lower ho23 (below_size (by repeat (first|(with_reducible first|exact HB.out|apply below_alloc|apply pw_below_drewN|apply below_drew1)|exact HB.out))));have n2_:=Aside0.mk (below_step (by repeat (first|(with_reducible first|exact HB.out|apply below_alloc|apply pw_below_drewN|apply below_drew1)|exact HB.out)) hb);clear HO106;clear HB;have HO106:=n0_;have HO109:=n1_;have HB:=n2_;clear n0_ n1_ n2_;clear hb ho23)|((with_reducible refine gate_dst (N:=13) rfl ?_);(try (refine gate_guard (by rfl) ?_;dsimp only));refine Kd.R_lit (Kd.int .u8) _ 5 ?hg (N:=13) ?hd (xs:=([97] : List Int)) (inner:=[.int .u8 97]) (ok:=fun _ => True) (okp:=fun _ => True) ?hr ?hp (fun _ hk => hk) trivial (Below.refl _ _) (Nat.le_refl _) (by simp) ?_;(case hd => rfl);(case hg => rfl);(case hr => first|(go_simp;done)|(go_simp;rfl));(case hp => exact (Reps.one (show Kd.M (Kd.int .u8) _ _ _ 97 [.int .u8 97] from rfl) (Reps.none _ _)));intro v111 w24 ho25 hb hg_ hnew_;clear hg_ hnew_;(first|rw [← Ny110.out] at ho25|(simp only [Int.reduceToNat] at ho25;rw [← Ny110.out] at ho25));have n0_:=Aside0.mk (Kd.R_below (by (with_reducible repeat (first|apply Kd.R_alloc|apply Kd.R_drewN|apply Kd.R_drew));exact HO106.out) hb);have n1_:=Aside0.mk (Kd.R_below (by (with_reducible repeat (first|apply Kd.R_alloc|apply Kd.R_drewN|apply Kd.R_drew));exact HO109.out) hb);have n2_:=Aside0.mk (Bc.Kf_lower (Bc.Kf_of_R ho25 (by rw [Ny110.out];decide)) (below_size (by repeat (first|(with_reducible first|exact HB.out|apply below_alloc|apply pw_below_drewN|apply below_drew1)|exact HB.out))));have n3_:=Aside0.mk (below_step (by repeat (first|(with_reducible first|exact HB.out|apply below_alloc|apply pw_below_drewN|apply below_drew1)|exact HB.out)) hb);clear HO106;clear HO109;clear HB;have HO106:=n0_;have HO109:=n1_;have HO112:=n2_;have HB:=n3_;clear n0_ n1_ n2_ n3_;clear hb ho25;obtain ⟨Ao26,co26,eo26⟩:=Kd.R_slice HO109.out;subst eo26;obtain ⟨Ao27,co27,eo27⟩:=Bc.Kf_slice HO112.out;subst eo27;obtain ⟨Ao28,co28,eo28⟩:=Kd.R_slice HO106.out;subst eo28)|((with_reducible refine gate_dst (N:=14) rfl ?_);(try (refine gate_guard (by rfl) ?_;dsimp only));obtain ⟨p_,hr_,hp_,hc_⟩:=Bc.Kf_conv (P:=Try.prog) Try.underlying22 Try.underlying5 HO112.out;refine Kd.event_run ?hg (v:=.slice Ao27 y110.length co27) (w1:=w24.freeze p_ 1) ?hr ?_;(case hg => rfl);(case hr => first|(go_simp;done)|(go_simp;rfl)|(go_simp;exact hc_)|(go_simp;rw [hc_];rfl));have n0_:=Aside0.mk (Bc.R_freeze HO106.out p_ 1 hr_ (by decide));have n1_:=Aside0.mk (Bc.R_freeze HO109.out p_ 1 hr_ (by decide));have n2_:=Aside0.mk (Bc.Kf_freeze HO112.out p_ 1 hr_);have n3_:=Aside0.mk (Bc.below_freeze HB.out p_ 1 hp_);clear HO106;clear HO109;clear HO112;clear HB;generalize w24.freeze p_ 1 = wz14 at n0_ n1_ n2_ n3_ ⊢;have HO106:=n0_;have HO109:=n1_;have HO112:=n2_;have HB:=n3_;clear n0_ n1_ n2_ n3_ hc_ hr_ hp_)|((with_reducible refine gate_callee (f:=31) rfl ?_);refine goesL_ (some 16) rfl rfl Try.func31 (by kernel_rfl) rfl #[.slice Ao26 y107.length co26,.int .i64 2,.slice Ao27 y110.length co27,.slice Ao28 t104.length co28] rfl (by (try simp only [List.map_toArray,List.map_cons,List.map_nil]);first|done|rfl|(simp only [List.length_drop,List.length_take];rfl)) ?_;(with_reducible refine (threshold_Accept.calls k _ _ y107 2 _ _ y110 _ _ t104 true t114 t115 _ ?side1 ?side2 ?side3 ?side4 ?side5 ?side6 A2.out).mono ?_);(case side1 => repeat (first|exact (Kd.R_reads' HO109.out).2.2|(with_reducible refine Kd.C_alloc ?_ _)|(with_reducible refine Kd.C_drewN ?_ _)|(with_reducible refine Kd.C_drew ?_)));(case side2 => exact (Kd.R_reads' HO109.out).2.1);(case side3 => repeat (first|exact (Bc.Kf_reads' HO112.out).2.2|(with_reducible refine Kd.C_alloc ?_ _)|(with_reducible refine Kd.C_drewN ?_ _)|(with_reducible refine Kd.C_drew ?_)));(case side4 => exact (Bc.Kf_reads' HO112.out).2.1);(case side5 => repeat (first|exact (Kd.R_reads' HO106.out).2.2|(with_reducible refine Kd.C_alloc ?_ _)|(with_reducible refine Kd.C_drewN ?_ _)|(with_reducible refine Kd.C_drew ?_)));(case side6 => exact (Kd.R_reads' HO106.out).2.1);rintro e w29 ⟨rfl,hb⟩;refine ⟨_,rfl,?_⟩;have n0_:=Aside0.mk (Kd.R_below (by (with_reducible repeat (first|apply Kd.R_alloc|apply Kd.R_drewN|apply Kd.R_drew));exact HO106.out) hb);have n1_:=Aside0.mk (Kd.R_below (by (with_reducible repeat (first|apply Kd.R_alloc|apply Kd.R_drewN|apply Kd.R_drew));exact HO109.out) hb);have n2_:=Aside0.mk (Bc.Kf_below (by (with_reducible repeat (first|apply Bc.Kf_alloc|apply Bc.Kf_drewN|apply Bc.Kf_drew));exact HO112.out) hb);have n3_:=Aside0.mk (below_step (by repeat (first|(with_reducible first|exact HB.out|apply below_alloc|apply pw_below_drewN|apply below_drew1)|exact HB.out)) hb);clear HO106;clear HO109;clear HO112;clear HB;have HO106:=n0_;have HO109:=n1_;have HO112:=n2_;have HB:=n3_;clear n0_ n1_ n2_ n3_;(try clear hb);(try clear hb2);(try clear hk);(try clear hi))|((with_reducible refine gate_dst (N:=3) rfl ?_);(try (refine gate_guard (by rfl) ?_;dsimp only));refine box_event ?hg (N:=3) ?hd (cs:=#[.int .i64 0,.int .i64 0]) (t:=26) ?hr ?_;(case hd => rfl);(case hg => rfl);(case hr => first|(go_simp;done)|(go_simp;rfl));intro gb116 hg w30 hbox hb;have n0_:=Aside0.mk (Kd.R_below (by (with_reducible repeat (first|apply Kd.R_alloc|apply Kd.R_drewN|apply Kd.R_drew));exact HO106.out) hb);have n1_:=Aside0.mk (below_step (by repeat (first|(with_reducible first|exact HB.out|apply below_alloc|apply pw_below_drewN|apply below_drew1)|exact HB.out)) hb);have n2_:=Aside0.mk (hbox);have n3_:=Aside0.mk ((by rw [hg];exact (below_size (by repeat (first|(with_reducible first|exact HB.out|apply below_alloc|apply pw_below_drewN|apply below_drew1)|exact HB.out))) : w.heap.size ≤ gb116));have n4_:=Aside0.mk ((by rw [hg];exact (below_size (by repeat (first|(with_reducible first|exact HB.out|apply below_alloc|apply pw_below_drewN|apply below_drew1)|exact HB.out))) : w.heap.size ≤ gb116));clear HO106;clear HB;have HO106:=n0_;have HB:=n1_;have BK116:=n2_;have GW116:=n3_;have GE116:=n4_;clear n0_ n1_ n2_ n3_ n4_;clear hb hbox hg;have hcz31_0 : w30.cell? ⟨gb116,0,none⟩ = some (.int .i64 0):=(blk_cell BK116.out 0).trans rfl;have hcz31_1 : w30.cell? ⟨gb116,1,none⟩ = some (.int .i64 0):=(blk_cell BK116.out 1).trans rfl;have hfz31_0:=blk_frozen BK116.out 0;have hfz31_1:=blk_frozen BK116.out 1))
          have n0_ : Aside0 (Kd.R k54 54 ((w30.setCell ⟨gb116,0,none⟩ (.int .i64 t114)).setCell ⟨gb116,1,none⟩ (.int .i64 t115)) w.heap.size (fun _ => True) (.slice Ao28 t104.length co28) t104):=⟨by (with_reducible repeat (first|apply Kd.R_alloc|apply Kd.R_drewN|apply Kd.R_drew));exact Kd.R_mono (Kd.R_far (p:=⟨gb116,1,none⟩) (Kd.R_far (p:=⟨gb116,0,none⟩) (Kd.R_types HO106.out BK116.out (by decide)) (fun _ hk => hk.2) (.int .i64 t114)) (fun _ hk => hk.2) (.int .i64 t115)) (fun _ hk => trivial)⟩
          have n1_ : Aside0 (((w30.setCell ⟨gb116,0,none⟩ (.int .i64 t114)).setCell ⟨gb116,1,none⟩ (.int .i64 t115)).heap[gb116]? = some (.cells #[.int .i64 t114,.int .i64 t115] 26 (0,0))):=⟨by (with_reducible repeat (first|refine blk_drewN ?_ _|refine blk_drew ?_|refine blk_alloc ?_ _));refine blk_put (cs:=#[.int .i64 t114,.int .i64 0]) ?_ 1 _ rfl;(with_reducible repeat (first|refine blk_drewN ?_ _|refine blk_drew ?_|refine blk_alloc ?_ _));refine blk_put (cs:=#[.int .i64 0,.int .i64 0]) ?_ 0 _ rfl;(with_reducible repeat (first|refine blk_drewN ?_ _|refine blk_drew ?_|refine blk_alloc ?_ _));exact BK116.out⟩
          have n2_ : Aside0 (Below w.heap.size w ((w30.setCell ⟨gb116,0,none⟩ (.int .i64 t114)).setCell ⟨gb116,1,none⟩ (.int .i64 t115))):=⟨by repeat (first|(with_reducible first|exact HB.out|apply below_alloc|apply pw_below_drewN|apply below_drew1|refine below_set ?_ GE116.out)|exact HB.out)⟩
          (try clear HO106)
          (try clear BK116)
          (try clear HB)
          generalize ((w30.setCell ⟨gb116,0,none⟩ (.int .i64 t114)).setCell ⟨gb116,1,none⟩ (.int .i64 t115)) = w32 at n0_ n1_ n2_ ⊢
          have HO106:=n0_
          have BK116:=n1_
          have HB:=n2_
          clear n0_ n1_ n2_
          have n0_:=Aside0.mk (Kd.R_drew HO106.out)
          have n1_:=Aside0.mk (blk_drew BK116.out)
          have n2_:=Aside0.mk (below_drew1 HB.out)
          clear HO106
          clear BK116
          clear HB
          have HO106:=n0_
          have BK116:=n1_
          have HB:=n2_
          clear n0_ n1_ n2_
          have p123 : 0 ≤ (0 : Int):=(by omega)
          have q123 : 0 < (t104.length : Int):=of_decide_eq_true (by first|(with_reducible assumption)|assumption)
          obtain ⟨ad123,e123,hx123_0,hx123_1⟩:=at_T54 (Kd.R_reads' HO106.out).2.2 0 p123 q123
          cases e123
          have qi123 : (0 < t104.length) = True:=eq_true (by omega)
          (try rw [show ((0 : Int)).toNat = 0 from rfl] at hx123_0)
          (try rw [show 0 * 2 = 0 from rfl] at hx123_0)
          (try rw [Addr.add_zero'] at hx123_0)
          (try rw [show ((0 : Int)).toNat = 0 from rfl] at hx123_1)
          (try rw [show 0 * 2 = 0 from rfl] at hx123_1)
          (try rw [Addr.add_zero'] at hx123_1)
          replace p123:=eq_true p123
          replace q123:=eq_true q123
          have p124 : 0 ≤ (0 : Int):=(by omega)
          have q124 : 0 < (t104.length : Int):=of_decide_eq_true (by first|(with_reducible assumption)|assumption)
          obtain ⟨ad124,e124,hx124_0,hx124_1⟩:=at_T54 (Kd.R_reads' HO106.out).2.2 0 p124 q124
          obtain rfl : ad123 = ad124:=(by injection e124)
          have qi124 : (0 < t104.length) = True:=eq_true (by omega)
          (try rw [show ((0 : Int)).toNat = 0 from rfl] at hx124_0)
          (try rw [show 0 * 2 = 0 from rfl] at hx124_0)
          (try rw [Addr.add_zero'] at hx124_0)
          (try rw [show ((0 : Int)).toNat = 0 from rfl] at hx124_1)
          (try rw [show 0 * 2 = 0 from rfl] at hx124_1)
          (try rw [Addr.add_zero'] at hx124_1)
          replace p124:=eq_true p124
          replace q124:=eq_true q124
          refine start_ (n:=17) (S:=fun w' => True) (ds:=[]) #[false,false,false,false,false,false,false,false,false,false,false,false,false,false,false,false,false] (by kernel_rfl) rfl rfl trivial (fun hHeld => ?_);refine with_tabW changeforgelaw5_acceptsx.tab3 changeforgelaw5_acceptsx.bits3 (fun HT_ HW_ => ?_)
          generalize w32.drew = w33 at HO106 BK116 HB hx123_0 hx123_1 hx124_0 hx124_1 hHeld ⊢
          refine pure_ (i:=3) (N:=some 23) (v:=?_) (a':=?_) #[false,false,false,true,false,false,false,false,false,false,false,false,false,false,false,false,false] rfl rfl (any_of HT_.out (by kernel_rfl)) (fun _ _ _ h => h) (Or.inl ⟨by rfl,?_⟩) ?_ ?_
          rotate_left
          ·intro w'
           go_simp
           with_reducible rfl
          rotate_left
          ·simp only [Act.put,List.setIfInBounds_toArray,List.set_cons_zero,List.set_cons_succ,i64_w,i32_w]
           rfl
          refine pure_ (i:=6) (N:=some 26) (v:=?_) (a':=?_) #[false,false,false,true,false,false,true,false,false,false,false,false,false,false,false,false,false] rfl rfl (any_of HT_.out (by kernel_rfl)) (fun _ _ _ h => h) (Or.inl ⟨by rfl,?_⟩) ?_ ?_
          rotate_left
          ·intro w'
           go_simp
           with_reducible rfl
          rotate_left
          ·simp only [Act.put,List.setIfInBounds_toArray,List.set_cons_zero,List.set_cons_succ,i64_w,i32_w]
           rfl
          refine inv_at [0,1,2,4,5,7,8,9,10,11,12,13,14,15,16] (fun a0_ b a w' => ∃ (v118 : Value) (v121 : Value) (v126 : Value) (gb131 : Nat) (m2_ : Value) (m14_ : Value),a = putSel a0_ b [(0,20,v118),(1,21,v121),(2,22,m2_),(4,24,.pointer (some ad123)),(5,25,.agg #[.int .i64 ((rd_T54 t104 0).f0),.int .i64 ((rd_T54 t104 0).f1)]),(7,27,.pointer (some ad123)),(8,28,.agg #[.int .i64 ((rd_T54 t104 0).f0),.int .i64 ((rd_T54 t104 0).f1)]),(9,29,v126),(10,30,.tuple #[.bool false,.agg #[.int .i64 t129,.int .i64 t130]]),(11,19,.tuple #[.bool false,.agg #[.int .i64 t129,.int .i64 t130]]),(12,31,.bool false),(13,32,.agg #[.int .i64 t129,.int .i64 t130]),(14,5,m14_),(15,4,.bool false)] ∧ (Kd.R k54 54 w' w.heap.size (fun _ => True) (.slice (some ad123) t104.length co28) t104) ∧ (w'.heap[gb116]? = some (.cells #[.int .i64 t114,.int .i64 t115] 26 (0,0))) ∧ (Below w.heap.size w w') ∧ (b 0 = true → Kd.R (Kd.int .i64) 3 w' w.heap.size (fun _ => True) v118 y117) ∧ (b 1 = true → Bc.Kf 5 w' w.heap.size v121 y120) ∧ (b 9 = true → Kd.R k54 54 w' w.heap.size (fun k_ => some k_ ≠ (.slice (some ad123) t104.length co28 : Value).ownBlock) v126 y125) ∧ (b 14 = true → b 16 = false → w'.heap[gb131]? = some (.cells #[.int .i64 0,.int .i64 0] 26 (0,0))) ∧ (b 14 = true → w.heap.size ≤ gb131) ∧ (b 14 = true → w.heap.size ≤ gb131) ∧ (b 14 = true → gb116 ≠ gb131) ∧ (b 14 = true → gb131 ≠ gb116) ∧ (b 16 = true → w'.heap[gb131]? = some (.cells #[.int .i64 t129,.int .i64 t130] 26 (0,0))) ∧ (b 2 = true → (m2_ : Value) = v121) ∧ (b 14 = true → (m14_ : Value) = .pointer (some ⟨gb131,0,none⟩))) HT_.out HW_.out (by kernel_rfl) (by kernel_rfl) ?_ ?_ ?_
          ·exact ⟨.bool false,.bool false,.bool false,0,.bool false,.bool false,by simp only [putSel,Bool.false_eq_true,if_false],HO106.out,BK116.out,HB.out,fun h_ => absurd h_ (by decide),fun h_ => absurd h_ (by decide),fun h_ => absurd h_ (by decide),fun h_ => absurd h_ (by decide),fun h_ => absurd h_ (by decide),fun h_ => absurd h_ (by decide),fun h_ => absurd h_ (by decide),fun h_ => absurd h_ (by decide),fun h_ => absurd h_ (by decide),fun h_ => absurd h_ (by decide),fun h_ => absurd h_ (by decide)⟩
          ·skip
           clear BK116 HB HO106
           refine steps_cons ?_ ?_
           ·rintro b a w' ⟨v118,v121,v126,gb131,m2_,m14_,ha,Q_HO106,Q_BK116,Q_HB,Q_HO119,Q_HO122,Q_HO127,Q_BK131,Q_GW131,Q_GE131,Q_NB116_131,Q_NB131_116,Q_BK131_e16,Q_X2_,Q_X14_⟩ hb_ hon hoff
            refine ⟨_,rfl,fun K hK => ?_⟩
            replace ha:=Aside0.mk ha
            have HO106:=Aside0.mk Q_HO106
            have BK116:=Aside0.mk Q_BK116
            have HB:=Aside0.mk Q_HB
            refine Kd.R_lit_step (Kd.int .i64) _ 3 ?hg (N:=20) ?hd (xs:=([5,7] : List Int)) (inner:=[.int .i64 5,.int .i64 7]) (ok:=fun _ => True) (okp:=fun _ => True) ?hr ?hp (fun _ hk => hk) trivial (Below.refl _ _) (Nat.le_refl _) (by simp) ?_;(case hd => rfl);(case hg => rfl);(case hr => first|(go_simp;done)|(go_simp;rfl));(case hp => exact (Reps.one (show Kd.M (Kd.int .i64) _ _ _ 5 [.int .i64 5] from rfl) (Reps.one (show Kd.M (Kd.int .i64) _ _ _ 7 [.int .i64 7] from rfl) (Reps.none _ _))))
            intro v118 w34 ho35 hb hg_ hnew_
            clear hg_ hnew_
            (first|rw [← Ny117.out] at ho35|(simp only [Int.reduceToNat] at ho35;rw [← Ny117.out] at ho35))
            have n0_:=Aside0.mk (Kd.R_below (by (with_reducible repeat (first|apply Kd.R_alloc|apply Kd.R_drewN|apply Kd.R_drew));exact HO106.out) hb)
            have n1_:=Aside0.mk (Kd.R_lower ho35 (below_size (by repeat (first|(with_reducible first|exact HB.out|apply below_alloc|apply pw_below_drewN|apply below_drew1|refine below_set ?_ GE116.out)|exact HB.out))))
            have n2_:=Aside0.mk (blk_below (g:=gb116) (o:=.cells #[.int .i64 t114,.int .i64 t115] 26 (0,0)) (by (with_reducible repeat (first|refine blk_drewN ?_ _|refine blk_drew ?_|refine blk_alloc ?_ _));exact BK116.out) hb)
            have n3_:=Aside0.mk (below_step (by repeat (first|(with_reducible first|exact HB.out|apply below_alloc|apply pw_below_drewN|apply below_drew1|refine below_set ?_ GE116.out)|exact HB.out)) hb)
            have z_HO122:=fun (h0_ : b 1 = true) => (show Bc.Kf 5 w34 w.heap.size v121 y120 from by first|exact (Bc.Kf_below (by (with_reducible repeat (first|apply Bc.Kf_alloc|apply Bc.Kf_drewN|apply Bc.Kf_drew));exact (Q_HO122 h0_)) hb)|exact Kd.R_mono (Bc.Kf_below (by (with_reducible repeat (first|apply Bc.Kf_alloc|apply Bc.Kf_drewN|apply Bc.Kf_drew));exact (Q_HO122 h0_)) hb) (fun _ h_ => by first|trivial|exact h_|exact h_.1))
            have z_HO127:=fun (h0_ : b 9 = true) => (show Kd.R k54 54 w34 w.heap.size (fun k_ => some k_ ≠ (.slice (some ad123) t104.length co28 : Value).ownBlock) v126 y125 from by first|exact (Kd.R_below (by (with_reducible repeat (first|apply Kd.R_alloc|apply Kd.R_drewN|apply Kd.R_drew));exact (Q_HO127 h0_)) hb)|exact Kd.R_mono (Kd.R_below (by (with_reducible repeat (first|apply Kd.R_alloc|apply Kd.R_drewN|apply Kd.R_drew));exact (Q_HO127 h0_)) hb) (fun _ h_ => by first|trivial|exact h_|exact h_.1))
            have z_BK131:=fun (h0_ : b 14 = true) (h1_ : b 16 = false) => (show w34.heap[gb131]? = some (.cells #[.int .i64 0,.int .i64 0] 26 (0,0)) from by first|exact (blk_below (g:=gb131) (o:=.cells #[.int .i64 0,.int .i64 0] 26 (0,0)) (by (with_reducible repeat (first|refine blk_drewN ?_ _|refine blk_drew ?_|refine blk_alloc ?_ _));exact (Q_BK131 h0_ h1_)) hb))
            clear HO106
            clear BK116
            clear HB
            have HO106:=n0_
            have HO119:=n1_
            have BK116:=n2_
            have HB:=n3_
            clear n0_ n1_ n2_ n3_
            clear hb ho35
            refine hK.out _ _ ⟨v118,v121,v126,gb131,m2_,m14_,(by rw [ha.out];exact putSel_upk 0 hb_ rfl rfl rfl),(by (with_reducible repeat (first|apply Kd.R_alloc|apply Kd.R_drewN|apply Kd.R_drew));exact HO106.out),(by (with_reducible repeat (first|refine blk_drewN ?_ _|refine blk_drew ?_|refine blk_alloc ?_ _));exact BK116.out),(by repeat (first|(with_reducible first|exact HB.out|apply below_alloc|apply pw_below_drewN|apply below_drew1|refine below_set ?_ GE116.out)|exact HB.out)),fun _ => (by (with_reducible repeat (first|apply Kd.R_alloc|apply Kd.R_drewN|apply Kd.R_drew));exact HO119.out),z_HO122,z_HO127,z_BK131,Q_GW131,Q_GE131,Q_NB116_131,Q_NB131_116,fun h0_ => absurd ((hoff 16 (by kernel_rfl)).symm.trans h0_) (by decide),Q_X2_,Q_X14_⟩
           refine steps_cons ?_ ?_
           ·rintro b a w' ⟨v118,v121,v126,gb131,m2_,m14_,ha,Q_HO106,Q_BK116,Q_HB,Q_HO119,Q_HO122,Q_HO127,Q_BK131,Q_GW131,Q_GE131,Q_NB116_131,Q_NB131_116,Q_BK131_e16,Q_X2_,Q_X14_⟩ hb_ hon hoff
            refine ⟨_,rfl,fun K hK => ?_⟩
            replace ha:=Aside0.mk ha
            have HO106:=Aside0.mk Q_HO106
            have BK116:=Aside0.mk Q_BK116
            have HB:=Aside0.mk Q_HB
            refine Kd.R_lit_step (Kd.int .u8) _ 5 ?hg (N:=21) ?hd (xs:=([97] : List Int)) (inner:=[.int .u8 97]) (ok:=fun _ => True) (okp:=fun _ => True) ?hr ?hp (fun _ hk => hk) trivial (Below.refl _ _) (Nat.le_refl _) (by simp) ?_;(case hd => rfl);(case hg => rfl);(case hr => first|(go_simp;done)|(go_simp;rfl));(case hp => exact (Reps.one (show Kd.M (Kd.int .u8) _ _ _ 97 [.int .u8 97] from rfl) (Reps.none _ _)))
            intro v121 w34 ho35 hb hg_ hnew_
            clear hg_ hnew_
            (first|rw [← Ny120.out] at ho35|(simp only [Int.reduceToNat] at ho35;rw [← Ny120.out] at ho35))
            have n0_:=Aside0.mk (Kd.R_below (by (with_reducible repeat (first|apply Kd.R_alloc|apply Kd.R_drewN|apply Kd.R_drew));exact HO106.out) hb)
            have n1_:=Aside0.mk (Bc.Kf_lower (Bc.Kf_of_R ho35 (by rw [Ny120.out];decide)) (below_size (by repeat (first|(with_reducible first|exact HB.out|apply below_alloc|apply pw_below_drewN|apply below_drew1|refine below_set ?_ GE116.out)|exact HB.out))))
            have n2_:=Aside0.mk (blk_below (g:=gb116) (o:=.cells #[.int .i64 t114,.int .i64 t115] 26 (0,0)) (by (with_reducible repeat (first|refine blk_drewN ?_ _|refine blk_drew ?_|refine blk_alloc ?_ _));exact BK116.out) hb)
            have n3_:=Aside0.mk (below_step (by repeat (first|(with_reducible first|exact HB.out|apply below_alloc|apply pw_below_drewN|apply below_drew1|refine below_set ?_ GE116.out)|exact HB.out)) hb)
            have z_HO119:=fun (h0_ : b 0 = true) => (show Kd.R (Kd.int .i64) 3 w34 w.heap.size (fun _ => True) v118 y117 from by first|exact (Kd.R_below (by (with_reducible repeat (first|apply Kd.R_alloc|apply Kd.R_drewN|apply Kd.R_drew));exact (Q_HO119 h0_)) hb)|exact Kd.R_mono (Kd.R_below (by (with_reducible repeat (first|apply Kd.R_alloc|apply Kd.R_drewN|apply Kd.R_drew));exact (Q_HO119 h0_)) hb) (fun _ h_ => by first|trivial|exact h_|exact h_.1))
            have z_HO127:=fun (h0_ : b 9 = true) => (show Kd.R k54 54 w34 w.heap.size (fun k_ => some k_ ≠ (.slice (some ad123) t104.length co28 : Value).ownBlock) v126 y125 from by first|exact (Kd.R_below (by (with_reducible repeat (first|apply Kd.R_alloc|apply Kd.R_drewN|apply Kd.R_drew));exact (Q_HO127 h0_)) hb)|exact Kd.R_mono (Kd.R_below (by (with_reducible repeat (first|apply Kd.R_alloc|apply Kd.R_drewN|apply Kd.R_drew));exact (Q_HO127 h0_)) hb) (fun _ h_ => by first|trivial|exact h_|exact h_.1))
            have z_BK131:=fun (h0_ : b 14 = true) (h1_ : b 16 = false) => (show w34.heap[gb131]? = some (.cells #[.int .i64 0,.int .i64 0] 26 (0,0)) from by first|exact (blk_below (g:=gb131) (o:=.cells #[.int .i64 0,.int .i64 0] 26 (0,0)) (by (with_reducible repeat (first|refine blk_drewN ?_ _|refine blk_drew ?_|refine blk_alloc ?_ _));exact (Q_BK131 h0_ h1_)) hb))
            clear HO106
            clear BK116
            clear HB
            have HO106:=n0_
            have HO122:=n1_
            have BK116:=n2_
            have HB:=n3_
            clear n0_ n1_ n2_ n3_
            clear hb ho35
            refine hK.out _ _ ⟨v118,v121,v126,gb131,m2_,m14_,(by rw [ha.out];exact putSel_upk 1 hb_ rfl rfl rfl),(by (with_reducible repeat (first|apply Kd.R_alloc|apply Kd.R_drewN|apply Kd.R_drew));exact HO106.out),(by (with_reducible repeat (first|refine blk_drewN ?_ _|refine blk_drew ?_|refine blk_alloc ?_ _));exact BK116.out),(by repeat (first|(with_reducible first|exact HB.out|apply below_alloc|apply pw_below_drewN|apply below_drew1|refine below_set ?_ GE116.out)|exact HB.out)),z_HO119,fun _ => (by (with_reducible repeat (first|apply Bc.Kf_alloc|apply Bc.Kf_drewN|apply Bc.Kf_drew));exact HO122.out),z_HO127,z_BK131,Q_GW131,Q_GE131,Q_NB116_131,Q_NB131_116,fun h0_ => absurd ((hoff 16 (by kernel_rfl)).symm.trans h0_) (by decide),fun h0_ => absurd ((hoff 2 (by kernel_rfl)).symm.trans h0_) (by decide),Q_X14_⟩
           refine steps_cons ?_ ?_
           ·rintro b a w' ⟨v118,v121,v126,gb131,m2_,m14_,ha,Q_HO106,Q_BK116,Q_HB,Q_HO119,Q_HO122,Q_HO127,Q_BK131,Q_GW131,Q_GE131,Q_NB116_131,Q_NB131_116,Q_BK131_e16,Q_X2_,Q_X14_⟩ hb_ hon hoff
            refine ⟨_,rfl,fun K hK => ?_⟩
            have e21 : a.tmps[21]? = some (v121):=by rw [ha];exact putSel_on (e:=(1,21,v121)) 1 rfl rfl (hon 1 (by kernel_rfl)) rfl
            replace ha:=Aside0.mk ha
            have HO106:=Aside0.mk Q_HO106
            have BK116:=Aside0.mk Q_BK116
            have HB:=Aside0.mk Q_HB
            have HO122:=Aside0.mk (Q_HO122 (hon 1 (by kernel_rfl)))
            obtain ⟨Ao2_0,co2_0,eo_⟩:=Bc.Kf_slice HO122.out
            subst eo_
            obtain ⟨p_,hr_,hp_,hc_⟩:=Bc.Kf_conv (P:=Try.prog) Try.underlying22 Try.underlying5 HO122.out
            refine value_ (w1:=w'.freeze p_ 1) (v:=.slice Ao2_0 y120.length co2_0) (by rfl) rfl ?_ ?_
            ·go_simp
             first|done|rfl|exact hc_
            refine hK.out _ _ ⟨v118,.slice Ao2_0 y120.length co2_0,v126,gb131,(.slice Ao2_0 y120.length co2_0),m14_,(by rw [ha.out];exact putSel_upk 2 hb_ rfl rfl rfl),(Bc.R_freeze Q_HO106 p_ 1 hr_ (by decide)),(Bc.blk_freeze Q_BK116 p_ 1 hr_ (by decide)),(Bc.below_freeze Q_HB p_ 1 hp_),(fun h0_ => Bc.R_freeze (Q_HO119 h0_) p_ 1 hr_ (by decide)),(fun h0_ => Bc.Kf_freeze (Q_HO122 h0_) p_ 1 hr_),(fun h0_ => Bc.R_freeze (Q_HO127 h0_) p_ 1 hr_ (by decide)),(fun h0_ h1_ => Bc.blk_freeze (Q_BK131 h0_ h1_) p_ 1 hr_ (by decide)),Q_GW131,Q_GE131,Q_NB116_131,Q_NB131_116,fun h0_ => absurd ((hoff 16 (by kernel_rfl)).symm.trans h0_) (by decide),fun _ => rfl,Q_X14_⟩
           refine steps_cons ?_ ?_
           ·rintro b a w' ⟨v118,v121,v126,gb131,m2_,m14_,ha,Q_HO106,Q_BK116,Q_HB,Q_HO119,Q_HO122,Q_HO127,Q_BK131,Q_GW131,Q_GE131,Q_NB116_131,Q_NB131_116,Q_BK131_e16,Q_X2_,Q_X14_⟩ hb_ hon hoff
            refine ⟨_,rfl,fun K hK => ?_⟩
            have e23 : a.tmps[23]? = some (.slice (some ad123) t104.length co28):=by rw [ha];exact (putSel_off rfl).trans rfl
            replace ha:=Aside0.mk ha
            have HO106:=Aside0.mk Q_HO106
            have BK116:=Aside0.mk Q_BK116
            have HB:=Aside0.mk Q_HB
            refine value_ (w1:=w') (v:=.pointer (some ad123)) (by rfl) rfl ?_ ?_
            ·go_simp
             (try simp only [i64_w])
             try rfl
            refine hK.out _ _ ⟨v118,v121,v126,gb131,m2_,m14_,(by rw [ha.out];exact putSel_upk 3 hb_ rfl rfl rfl),Q_HO106,Q_BK116,Q_HB,Q_HO119,Q_HO122,fun h0_ => absurd ((hoff 9 (by kernel_rfl)).symm.trans h0_) (by decide),Q_BK131,Q_GW131,Q_GE131,Q_NB116_131,Q_NB131_116,fun h0_ => absurd ((hoff 16 (by kernel_rfl)).symm.trans h0_) (by decide),Q_X2_,Q_X14_⟩
           refine steps_cons ?_ ?_
           ·rintro b a w' ⟨v118,v121,v126,gb131,m2_,m14_,ha,Q_HO106,Q_BK116,Q_HB,Q_HO119,Q_HO122,Q_HO127,Q_BK131,Q_GW131,Q_GE131,Q_NB116_131,Q_NB131_116,Q_BK131_e16,Q_X2_,Q_X14_⟩ hb_ hon hoff
            refine ⟨_,rfl,fun K hK => ?_⟩
            have e24 : a.tmps[24]? = some (.pointer (some ad123)):=by rw [ha];exact putSel_on (e:=(4,24,.pointer (some ad123))) 3 rfl rfl (hon 4 (by kernel_rfl)) rfl
            replace ha:=Aside0.mk ha
            have HO106:=Aside0.mk Q_HO106
            have BK116:=Aside0.mk Q_BK116
            have HB:=Aside0.mk Q_HB
            obtain ⟨ad123_z,e123_z,hx123_0_z,hx123_1_z⟩:=at_T54 (Kd.R_reads' HO106.out).2.2 0 (of_eq_true p123) (of_eq_true q123)
            cases e123_z
            have hs0_ : w'.cell? ad123 = some (.int .i64 ((rd_T54 t104 0).f0)):=(by first|exact hx123_0_z|(have h_:=hx123_0_z;(try simp only [Int.reduceToNat,Nat.zero_mul,Nat.reduceMul,Nat.reduceEqDiff,Go.Addr.add,↓reduceIte,Addr.add_zero'] at h_);exact h_))
            have hs1_ : w'.cell? ⟨ad123.block,ad123.off + 1,none⟩ = some (.int .i64 ((rd_T54 t104 0).f1)):=(by first|exact hx123_1_z|(have h_:=hx123_1_z;(try simp only [Int.reduceToNat,Nat.zero_mul,Nat.reduceMul,Nat.reduceEqDiff,Go.Addr.add,↓reduceIte,Addr.add_zero'] at h_);exact h_))
            refine value_ (w1:=w') (v:=.agg #[.int .i64 ((rd_T54 t104 0).f0),.int .i64 ((rd_T54 t104 0).f1)]) (by rfl) rfl ?_ ?_
            ·go_simp
             (try simp only [i64_w])
             try rfl
            refine hK.out _ _ ⟨v118,v121,v126,gb131,m2_,m14_,(by rw [ha.out];exact putSel_upk 4 hb_ rfl rfl rfl),Q_HO106,Q_BK116,Q_HB,Q_HO119,Q_HO122,fun h0_ => absurd ((hoff 9 (by kernel_rfl)).symm.trans h0_) (by decide),Q_BK131,Q_GW131,Q_GE131,Q_NB116_131,Q_NB131_116,fun h0_ => absurd ((hoff 16 (by kernel_rfl)).symm.trans h0_) (by decide),Q_X2_,Q_X14_⟩
           refine steps_cons ?_ ?_
           ·rintro b a w' ⟨v118,v121,v126,gb131,m2_,m14_,ha,Q_HO106,Q_BK116,Q_HB,Q_HO119,Q_HO122,Q_HO127,Q_BK131,Q_GW131,Q_GE131,Q_NB116_131,Q_NB131_116,Q_BK131_e16,Q_X2_,Q_X14_⟩ hb_ hon hoff
            refine ⟨_,rfl,fun K hK => ?_⟩
            have e26 : a.tmps[26]? = some (.slice (some ad123) t104.length co28):=by rw [ha];exact (putSel_off rfl).trans rfl
            replace ha:=Aside0.mk ha
            have HO106:=Aside0.mk Q_HO106
            have BK116:=Aside0.mk Q_BK116
            have HB:=Aside0.mk Q_HB
            refine value_ (w1:=w') (v:=.pointer (some ad123)) (by rfl) rfl ?_ ?_
            ·go_simp
             (try simp only [i64_w])
             try rfl
            refine hK.out _ _ ⟨v118,v121,v126,gb131,m2_,m14_,(by rw [ha.out];exact putSel_upk 5 hb_ rfl rfl rfl),Q_HO106,Q_BK116,Q_HB,Q_HO119,Q_HO122,fun h0_ => absurd ((hoff 9 (by kernel_rfl)).symm.trans h0_) (by decide),Q_BK131,Q_GW131,Q_GE131,Q_NB116_131,Q_NB131_116,fun h0_ => absurd ((hoff 16 (by kernel_rfl)).symm.trans h0_) (by decide),Q_X2_,Q_X14_⟩
           refine steps_cons ?_ ?_
           ·rintro b a w' ⟨v118,v121,v126,gb131,m2_,m14_,ha,Q_HO106,Q_BK116,Q_HB,Q_HO119,Q_HO122,Q_HO127,Q_BK131,Q_GW131,Q_GE131,Q_NB116_131,Q_NB131_116,Q_BK131_e16,Q_X2_,Q_X14_⟩ hb_ hon hoff
            refine ⟨_,rfl,fun K hK => ?_⟩
            have e27 : a.tmps[27]? = some (.pointer (some ad123)):=by rw [ha];exact putSel_on (e:=(7,27,.pointer (some ad123))) 5 rfl rfl (hon 7 (by kernel_rfl)) rfl
            replace ha:=Aside0.mk ha
            have HO106:=Aside0.mk Q_HO106
            have BK116:=Aside0.mk Q_BK116
            have HB:=Aside0.mk Q_HB
            obtain ⟨ad124_z,e124_z,hx124_0_z,hx124_1_z⟩:=at_T54 (Kd.R_reads' HO106.out).2.2 0 (of_eq_true p124) (of_eq_true q124)
            cases e124_z
            have hs2_ : w'.cell? ad123 = some (.int .i64 ((rd_T54 t104 0).f0)):=(by first|exact hx124_0_z|(have h_:=hx124_0_z;(try simp only [Int.reduceToNat,Nat.zero_mul,Nat.reduceMul,Nat.reduceEqDiff,Go.Addr.add,↓reduceIte,Addr.add_zero'] at h_);exact h_))
            have hs3_ : w'.cell? ⟨ad123.block,ad123.off + 1,none⟩ = some (.int .i64 ((rd_T54 t104 0).f1)):=(by first|exact hx124_1_z|(have h_:=hx124_1_z;(try simp only [Int.reduceToNat,Nat.zero_mul,Nat.reduceMul,Nat.reduceEqDiff,Go.Addr.add,↓reduceIte,Addr.add_zero'] at h_);exact h_))
            refine value_ (w1:=w') (v:=.agg #[.int .i64 ((rd_T54 t104 0).f0),.int .i64 ((rd_T54 t104 0).f1)]) (by rfl) rfl ?_ ?_
            ·go_simp
             (try simp only [i64_w])
             try rfl
            refine hK.out _ _ ⟨v118,v121,v126,gb131,m2_,m14_,(by rw [ha.out];exact putSel_upk 6 hb_ rfl rfl rfl),Q_HO106,Q_BK116,Q_HB,Q_HO119,Q_HO122,fun h0_ => absurd ((hoff 9 (by kernel_rfl)).symm.trans h0_) (by decide),Q_BK131,Q_GW131,Q_GE131,Q_NB116_131,Q_NB131_116,fun h0_ => absurd ((hoff 16 (by kernel_rfl)).symm.trans h0_) (by decide),Q_X2_,Q_X14_⟩
           refine steps_cons ?_ ?_
           ·rintro b a w' ⟨v118,v121,v126,gb131,m2_,m14_,ha,Q_HO106,Q_BK116,Q_HB,Q_HO119,Q_HO122,Q_HO127,Q_BK131,Q_GW131,Q_GE131,Q_NB116_131,Q_NB131_116,Q_BK131_e16,Q_X2_,Q_X14_⟩ hb_ hon hoff
            refine ⟨_,rfl,fun K hK => ?_⟩
            have e25 : a.tmps[25]? = some (.agg #[.int .i64 ((rd_T54 t104 0).f0),.int .i64 ((rd_T54 t104 0).f1)]):=by rw [ha];exact putSel_on (e:=(5,25,.agg #[.int .i64 ((rd_T54 t104 0).f0),.int .i64 ((rd_T54 t104 0).f1)])) 4 rfl rfl (hon 5 (by kernel_rfl)) rfl
            have e28 : a.tmps[28]? = some (.agg #[.int .i64 ((rd_T54 t104 0).f0),.int .i64 ((rd_T54 t104 0).f1)]):=by rw [ha];exact putSel_on (e:=(8,28,.agg #[.int .i64 ((rd_T54 t104 0).f0),.int .i64 ((rd_T54 t104 0).f1)])) 6 rfl rfl (hon 8 (by kernel_rfl)) rfl
            replace ha:=Aside0.mk ha
            have HO106:=Aside0.mk Q_HO106
            have BK116:=Aside0.mk Q_BK116
            have HB:=Aside0.mk Q_HB
            refine Kd.R_lit_step k54 _ 54 ?hg (N:=29) ?hd (xs:=([(⟨(rd_T54 t104 0).f0,(rd_T54 t104 0).f1⟩ : S54),(⟨(rd_T54 t104 0).f0,(rd_T54 t104 0).f1⟩ : S54)] : List (S54))) (inner:=[.int .i64 ((rd_T54 t104 0).f0),.int .i64 ((rd_T54 t104 0).f1),.int .i64 ((rd_T54 t104 0).f0),.int .i64 ((rd_T54 t104 0).f1)]) (ok:=fun _ => True) (okp:=fun _ => True) ?hr ?hp (fun _ hk => hk) trivial (Below.refl _ _) (Nat.le_refl _) (by simp) ?_;(case hd => rfl);(case hg => rfl);(case hr => first|(go_simp;done)|(go_simp;rfl));(case hp => exact (Reps.c2 (show Kd.M k54 _ _ _ (⟨(rd_T54 t104 0).f0,(rd_T54 t104 0).f1⟩ : S54) [.int .i64 ((rd_T54 t104 0).f0),.int .i64 ((rd_T54 t104 0).f1)] from (k54_mkM _ _ _ (⟨(rd_T54 t104 0).f0,(rd_T54 t104 0).f1⟩ : S54) )) (Reps.c2 (show Kd.M k54 _ _ _ (⟨(rd_T54 t104 0).f0,(rd_T54 t104 0).f1⟩ : S54) [.int .i64 ((rd_T54 t104 0).f0),.int .i64 ((rd_T54 t104 0).f1)] from (k54_mkM _ _ _ (⟨(rd_T54 t104 0).f0,(rd_T54 t104 0).f1⟩ : S54) )) (Reps.none _ _))))
            intro v126 w34 ho35 hb hg_ hnew_
            clear hg_ hnew_
            (first|rw [← Ny125.out] at ho35|(simp only [Int.reduceToNat] at ho35;rw [← Ny125.out] at ho35))
            have n0_:=Aside0.mk (Kd.R_elder' (by (with_reducible repeat (first|apply Kd.R_alloc|apply Kd.R_drewN|apply Kd.R_drew));exact HO106.out) (Kd.R_base ho35) hb)
            have n1_:=Aside0.mk (Kd.R_lower (Kd.R_new' ho35 (Kd.R_lt (by (with_reducible repeat (first|apply Kd.R_alloc|apply Kd.R_drewN|apply Kd.R_drew));exact HO106.out))) (below_size (by repeat (first|(with_reducible first|exact HB.out|apply below_alloc|apply pw_below_drewN|apply below_drew1|refine below_set ?_ GE116.out)|exact HB.out))))
            have n2_:=Aside0.mk (blk_below (g:=gb116) (o:=.cells #[.int .i64 t114,.int .i64 t115] 26 (0,0)) (by (with_reducible repeat (first|refine blk_drewN ?_ _|refine blk_drew ?_|refine blk_alloc ?_ _));exact BK116.out) hb)
            have n3_:=Aside0.mk (below_step (by repeat (first|(with_reducible first|exact HB.out|apply below_alloc|apply pw_below_drewN|apply below_drew1|refine below_set ?_ GE116.out)|exact HB.out)) hb)
            have z_HO119:=fun (h0_ : b 0 = true) => (show Kd.R (Kd.int .i64) 3 w34 w.heap.size (fun _ => True) v118 y117 from by first|exact (Kd.R_below (by (with_reducible repeat (first|apply Kd.R_alloc|apply Kd.R_drewN|apply Kd.R_drew));exact (Q_HO119 h0_)) hb)|exact Kd.R_mono (Kd.R_below (by (with_reducible repeat (first|apply Kd.R_alloc|apply Kd.R_drewN|apply Kd.R_drew));exact (Q_HO119 h0_)) hb) (fun _ h_ => by first|trivial|exact h_|exact h_.1))
            have z_HO122:=fun (h0_ : b 1 = true) => (show Bc.Kf 5 w34 w.heap.size v121 y120 from by first|exact (Bc.Kf_below (by (with_reducible repeat (first|apply Bc.Kf_alloc|apply Bc.Kf_drewN|apply Bc.Kf_drew));exact (Q_HO122 h0_)) hb)|exact Kd.R_mono (Bc.Kf_below (by (with_reducible repeat (first|apply Bc.Kf_alloc|apply Bc.Kf_drewN|apply Bc.Kf_drew));exact (Q_HO122 h0_)) hb) (fun _ h_ => by first|trivial|exact h_|exact h_.1))
            have z_BK131:=fun (h0_ : b 14 = true) (h1_ : b 16 = false) => (show w34.heap[gb131]? = some (.cells #[.int .i64 0,.int .i64 0] 26 (0,0)) from by first|exact (blk_below (g:=gb131) (o:=.cells #[.int .i64 0,.int .i64 0] 26 (0,0)) (by (with_reducible repeat (first|refine blk_drewN ?_ _|refine blk_drew ?_|refine blk_alloc ?_ _));exact (Q_BK131 h0_ h1_)) hb))
            clear HO106
            clear BK116
            clear HB
            have HO106:=n0_
            have HO127:=n1_
            have BK116:=n2_
            have HB:=n3_
            clear n0_ n1_ n2_ n3_
            clear hb ho35
            refine hK.out _ _ ⟨v118,v121,v126,gb131,m2_,m14_,(by rw [ha.out];exact putSel_upk 7 hb_ rfl rfl rfl),(by (with_reducible repeat (first|apply Kd.R_alloc|apply Kd.R_drewN|apply Kd.R_drew));exact Kd.R_mono HO106.out (fun _ _ => trivial)),(by (with_reducible repeat (first|refine blk_drewN ?_ _|refine blk_drew ?_|refine blk_alloc ?_ _));exact BK116.out),(by repeat (first|(with_reducible first|exact HB.out|apply below_alloc|apply pw_below_drewN|apply below_drew1|refine below_set ?_ GE116.out)|exact HB.out)),z_HO119,z_HO122,fun _ => (by (with_reducible repeat (first|apply Kd.R_alloc|apply Kd.R_drewN|apply Kd.R_drew));exact Kd.R_mono HO127.out (fun _ hk => hk.2)),z_BK131,Q_GW131,Q_GE131,Q_NB116_131,Q_NB131_116,fun h0_ => absurd ((hoff 16 (by kernel_rfl)).symm.trans h0_) (by decide),Q_X2_,Q_X14_⟩
           refine steps_cons ?_ ?_
           ·rintro b a w' ⟨v118,v121,v126,gb131,m2_,m14_,ha,Q_HO106,Q_BK116,Q_HB,Q_HO119,Q_HO122,Q_HO127,Q_BK131,Q_GW131,Q_GE131,Q_NB116_131,Q_NB131_116,Q_BK131_e16,Q_X2_,Q_X14_⟩ hb_ hon hoff
            refine ⟨_,rfl,fun K hK => ?_⟩
            have e20 : a.tmps[20]? = some (v118):=by rw [ha];exact putSel_on (e:=(0,20,v118)) 0 rfl rfl (hon 0 (by kernel_rfl)) rfl
            have e22 : a.tmps[22]? = some (m2_):=by rw [ha];exact putSel_on (e:=(2,22,m2_)) 2 rfl rfl (hon 2 (by kernel_rfl)) rfl
            rw [Q_X2_ (hon 2 (by kernel_rfl))] at e22
            have e29 : a.tmps[29]? = some (v126):=by rw [ha];exact putSel_on (e:=(9,29,v126)) 7 rfl rfl (hon 9 (by kernel_rfl)) rfl
            replace ha:=Aside0.mk ha
            have HO106:=Aside0.mk Q_HO106
            have BK116:=Aside0.mk Q_BK116
            have HB:=Aside0.mk Q_HB
            have HO119:=Aside0.mk (Q_HO119 (hon 0 (by kernel_rfl)))
            have HO122:=Aside0.mk (Q_HO122 (hon 1 (by kernel_rfl)))
            have HO127:=Aside0.mk (Q_HO127 (hon 9 (by kernel_rfl)))
            obtain ⟨Ao41,co41,eo41⟩:=Kd.R_slice HO119.out
            (first|subst eo41|(injection eo41 with f1_ f2_ f3_;have f4_:=f1_.symm;have f5_:=f3_.symm;clear f1_ f2_ f3_;subst f4_;subst f5_))
            obtain ⟨Ao42,co42,eo42⟩:=Bc.Kf_slice HO122.out
            (first|subst eo42|(injection eo42 with f1_ f2_ f3_;have f4_:=f1_.symm;have f5_:=f3_.symm;clear f1_ f2_ f3_;subst f4_;subst f5_))
            obtain ⟨Ao43,co43,eo43⟩:=Kd.R_slice HO127.out
            (first|subst eo43|(injection eo43 with f1_ f2_ f3_;have f4_:=f1_.symm;have f5_:=f3_.symm;clear f1_ f2_ f3_;subst f4_;subst f5_))
            refine goes_ Try.func31 (by kernel_rfl) rfl #[.slice Ao41 y117.length co41,.int .i64 2,.slice Ao42 y120.length co42,.slice Ao43 y125.length co43] (by rfl) rfl rfl (by first|(simp only [List.map_toArray,List.map_cons,List.map_nil,Act.eval,Array.getD_eq_getD_getElem?,Option.getD_some,e20,e22,e29];done)|(simp only [List.map_toArray,List.map_cons,List.map_nil,Act.eval,Array.getD_eq_getD_getElem?,Option.getD_some,e20,e22,e29];rfl)) ?_
            with_reducible refine (threshold_Accept.calls k _ _ y117 2 _ _ y120 _ _ y125 false t129 t130 _ ?side1 ?side2 ?side3 ?side4 ?side5 ?side6 A4.out).mono ?_
            (case side1 => repeat (first|exact (Kd.R_reads' HO119.out).2.2|(with_reducible refine Kd.C_alloc ?_ _)|(with_reducible refine Kd.C_drewN ?_ _)|(with_reducible refine Kd.C_drew ?_)))
            (case side2 => exact (Kd.R_reads' HO119.out).2.1)
            (case side3 => repeat (first|exact (Bc.Kf_reads' HO122.out).2.2|(with_reducible refine Kd.C_alloc ?_ _)|(with_reducible refine Kd.C_drewN ?_ _)|(with_reducible refine Kd.C_drew ?_)))
            (case side4 => exact (Bc.Kf_reads' HO122.out).2.1)
            (case side5 => repeat (first|exact (Kd.R_reads' HO127.out).2.2|(with_reducible refine Kd.C_alloc ?_ _)|(with_reducible refine Kd.C_drewN ?_ _)|(with_reducible refine Kd.C_drew ?_)))
            (case side6 => exact (Kd.R_reads' HO127.out).2.1)
            rintro e w44 ⟨rfl,hb⟩
            refine ⟨_,rfl,?_⟩
            have n0_:=Aside0.mk (Kd.R_below (by (with_reducible repeat (first|apply Kd.R_alloc|apply Kd.R_drewN|apply Kd.R_drew));exact HO106.out) hb)
            have n1_:=Aside0.mk (Kd.R_below (by (with_reducible repeat (first|apply Kd.R_alloc|apply Kd.R_drewN|apply Kd.R_drew));exact HO119.out) hb)
            have n2_:=Aside0.mk (Bc.Kf_below (by (with_reducible repeat (first|apply Bc.Kf_alloc|apply Bc.Kf_drewN|apply Bc.Kf_drew));exact HO122.out) hb)
            have n3_:=Aside0.mk (Kd.R_below (by (with_reducible repeat (first|apply Kd.R_alloc|apply Kd.R_drewN|apply Kd.R_drew));exact HO127.out) hb)
            have n4_:=Aside0.mk (blk_below (g:=gb116) (o:=.cells #[.int .i64 t114,.int .i64 t115] 26 (0,0)) (by (with_reducible repeat (first|refine blk_drewN ?_ _|refine blk_drew ?_|refine blk_alloc ?_ _));exact BK116.out) hb)
            have n5_:=Aside0.mk (below_step (by repeat (first|(with_reducible first|exact HB.out|apply below_alloc|apply pw_below_drewN|apply below_drew1|refine below_set ?_ GE116.out)|exact HB.out)) hb)
            have z_BK131:=fun (h0_ : b 14 = true) (h1_ : b 16 = false) => (show w44.heap[gb131]? = some (.cells #[.int .i64 0,.int .i64 0] 26 (0,0)) from by first|exact (blk_below (g:=gb131) (o:=.cells #[.int .i64 0,.int .i64 0] 26 (0,0)) (by (with_reducible repeat (first|refine blk_drewN ?_ _|refine blk_drew ?_|refine blk_alloc ?_ _));exact (Q_BK131 h0_ h1_)) hb))
            clear HO106
            clear HO119
            clear HO122
            clear HO127
            clear BK116
            clear HB
            have HO106:=n0_
            have HO119:=n1_
            have HO122:=n2_
            have HO127:=n3_
            have BK116:=n4_
            have HB:=n5_
            clear n0_ n1_ n2_ n3_ n4_ n5_
            (try clear hb)
            (try clear hb2)
            (try clear hk)
            (try clear hi)
            refine hK.out _ _ ⟨.slice Ao41 y117.length co41,.slice Ao42 y120.length co42,.slice Ao43 y125.length co43,gb131,m2_,m14_,(by rw [ha.out];exact putSel_upk 8 hb_ rfl rfl rfl),(by (with_reducible repeat (first|apply Kd.R_alloc|apply Kd.R_drewN|apply Kd.R_drew));exact HO106.out),(by (with_reducible repeat (first|refine blk_drewN ?_ _|refine blk_drew ?_|refine blk_alloc ?_ _));exact BK116.out),(by repeat (first|(with_reducible first|exact HB.out|apply below_alloc|apply pw_below_drewN|apply below_drew1|refine below_set ?_ GE116.out)|exact HB.out)),fun _ => (by (with_reducible repeat (first|apply Kd.R_alloc|apply Kd.R_drewN|apply Kd.R_drew));exact HO119.out),fun _ => (by (with_reducible repeat (first|apply Bc.Kf_alloc|apply Bc.Kf_drewN|apply Bc.Kf_drew));exact HO122.out),fun _ => (by (with_reducible repeat (first|apply Kd.R_alloc|apply Kd.R_drewN|apply Kd.R_drew));exact HO127.out),z_BK131,Q_GW131,Q_GE131,Q_NB116_131,Q_NB131_116,fun h0_ => absurd ((hoff 16 (by kernel_rfl)).symm.trans h0_) (by decide),Q_X2_,Q_X14_⟩
           refine steps_cons ?_ ?_
           ·rintro b a w' ⟨v118,v121,v126,gb131,m2_,m14_,ha,Q_HO106,Q_BK116,Q_HB,Q_HO119,Q_HO122,Q_HO127,Q_BK131,Q_GW131,Q_GE131,Q_NB116_131,Q_NB131_116,Q_BK131_e16,Q_X2_,Q_X14_⟩ hb_ hon hoff
            refine ⟨_,rfl,fun K hK => ?_⟩
            have e30 : a.tmps[30]? = some (.tuple #[.bool false,.agg #[.int .i64 t129,.int .i64 t130]]):=by rw [ha];exact putSel_on (e:=(10,30,.tuple #[.bool false,.agg #[.int .i64 t129,.int .i64 t130]])) 8 rfl rfl (hon 10 (by kernel_rfl)) rfl
            replace ha:=Aside0.mk ha
            have HO106:=Aside0.mk Q_HO106
            have BK116:=Aside0.mk Q_BK116
            have HB:=Aside0.mk Q_HB
            have HO119:=Aside0.mk (Q_HO119 (hon 0 (by kernel_rfl)))
            have HO122:=Aside0.mk (Q_HO122 (hon 1 (by kernel_rfl)))
            have HO127:=Aside0.mk (Q_HO127 (hon 9 (by kernel_rfl)))
            refine value_ (w1:=w') (v:=.tuple #[.bool false,.agg #[.int .i64 t129,.int .i64 t130]]) (by rfl) rfl ?_ ?_
            ·go_simp
             (try simp only [i64_w])
             try rfl
            refine hK.out _ _ ⟨v118,v121,v126,gb131,m2_,m14_,(by rw [ha.out];exact putSel_upk 9 hb_ rfl rfl rfl),Q_HO106,Q_BK116,Q_HB,Q_HO119,Q_HO122,Q_HO127,Q_BK131,Q_GW131,Q_GE131,Q_NB116_131,Q_NB131_116,fun h0_ => absurd ((hoff 16 (by kernel_rfl)).symm.trans h0_) (by decide),Q_X2_,Q_X14_⟩
           refine steps_cons ?_ ?_
           ·rintro b a w' ⟨v118,v121,v126,gb131,m2_,m14_,ha,Q_HO106,Q_BK116,Q_HB,Q_HO119,Q_HO122,Q_HO127,Q_BK131,Q_GW131,Q_GE131,Q_NB116_131,Q_NB131_116,Q_BK131_e16,Q_X2_,Q_X14_⟩ hb_ hon hoff
            refine ⟨_,rfl,fun K hK => ?_⟩
            have e19 : a.tmps[19]? = some (.tuple #[.bool false,.agg #[.int .i64 t129,.int .i64 t130]]):=by rw [ha];exact putSel_on (e:=(11,19,.tuple #[.bool false,.agg #[.int .i64 t129,.int .i64 t130]])) 9 rfl rfl (hon 11 (by kernel_rfl)) rfl
            replace ha:=Aside0.mk ha
            have HO106:=Aside0.mk Q_HO106
            have BK116:=Aside0.mk Q_BK116
            have HB:=Aside0.mk Q_HB
            have HO119:=Aside0.mk (Q_HO119 (hon 0 (by kernel_rfl)))
            have HO122:=Aside0.mk (Q_HO122 (hon 1 (by kernel_rfl)))
            have HO127:=Aside0.mk (Q_HO127 (hon 9 (by kernel_rfl)))
            refine value_ (w1:=w') (v:=.bool false) (by rfl) rfl ?_ ?_
            ·go_simp
             (try simp only [i64_w])
             try rfl
            refine hK.out _ _ ⟨v118,v121,v126,gb131,m2_,m14_,(by rw [ha.out];exact putSel_upk 10 hb_ rfl rfl rfl),Q_HO106,Q_BK116,Q_HB,Q_HO119,Q_HO122,Q_HO127,Q_BK131,Q_GW131,Q_GE131,Q_NB116_131,Q_NB131_116,fun h0_ => absurd ((hoff 16 (by kernel_rfl)).symm.trans h0_) (by decide),Q_X2_,Q_X14_⟩
           refine steps_cons ?_ ?_
           ·rintro b a w' ⟨v118,v121,v126,gb131,m2_,m14_,ha,Q_HO106,Q_BK116,Q_HB,Q_HO119,Q_HO122,Q_HO127,Q_BK131,Q_GW131,Q_GE131,Q_NB116_131,Q_NB131_116,Q_BK131_e16,Q_X2_,Q_X14_⟩ hb_ hon hoff
            refine ⟨_,rfl,fun K hK => ?_⟩
            have e19 : a.tmps[19]? = some (.tuple #[.bool false,.agg #[.int .i64 t129,.int .i64 t130]]):=by rw [ha];exact putSel_on (e:=(11,19,.tuple #[.bool false,.agg #[.int .i64 t129,.int .i64 t130]])) 9 rfl rfl (hon 11 (by kernel_rfl)) rfl
            replace ha:=Aside0.mk ha
            have HO106:=Aside0.mk Q_HO106
            have BK116:=Aside0.mk Q_BK116
            have HB:=Aside0.mk Q_HB
            have HO119:=Aside0.mk (Q_HO119 (hon 0 (by kernel_rfl)))
            have HO122:=Aside0.mk (Q_HO122 (hon 1 (by kernel_rfl)))
            have HO127:=Aside0.mk (Q_HO127 (hon 9 (by kernel_rfl)))
            refine value_ (w1:=w') (v:=.agg #[.int .i64 t129,.int .i64 t130]) (by rfl) rfl ?_ ?_
            ·go_simp
             (try simp only [i64_w])
             try rfl
            refine hK.out _ _ ⟨v118,v121,v126,gb131,m2_,m14_,(by rw [ha.out];exact putSel_upk 11 hb_ rfl rfl rfl),Q_HO106,Q_BK116,Q_HB,Q_HO119,Q_HO122,Q_HO127,Q_BK131,Q_GW131,Q_GE131,Q_NB116_131,Q_NB131_116,fun h0_ => absurd ((hoff 16 (by kernel_rfl)).symm.trans h0_) (by decide),Q_X2_,Q_X14_⟩
           refine steps_cons ?_ ?_
           ·rintro b a w' ⟨v118,v121,v126,gb131,m2_,m14_,ha,Q_HO106,Q_BK116,Q_HB,Q_HO119,Q_HO122,Q_HO127,Q_BK131,Q_GW131,Q_GE131,Q_NB116_131,Q_NB131_116,Q_BK131_e16,Q_X2_,Q_X14_⟩ hb_ hon hoff
            refine ⟨_,rfl,fun K hK => ?_⟩
            replace ha:=Aside0.mk ha
            have HO106:=Aside0.mk Q_HO106
            have BK116:=Aside0.mk Q_BK116
            have HB:=Aside0.mk Q_HB
            refine box_step ?hg (N:=5) ?hd (cs:=#[.int .i64 0,.int .i64 0]) (t:=26) ?hr ?_;(case hd => rfl);(case hg => rfl);(case hr => first|(go_simp;done)|(go_simp;rfl))
            intro gb131 hg w34 hbox hb
            have n0_:=Aside0.mk (Kd.R_below (by (with_reducible repeat (first|apply Kd.R_alloc|apply Kd.R_drewN|apply Kd.R_drew));exact HO106.out) hb)
            have n1_:=Aside0.mk (blk_below (g:=gb116) (o:=.cells #[.int .i64 t114,.int .i64 t115] 26 (0,0)) (by (with_reducible repeat (first|refine blk_drewN ?_ _|refine blk_drew ?_|refine blk_alloc ?_ _));exact BK116.out) hb)
            have n2_:=Aside0.mk (below_step (by repeat (first|(with_reducible first|exact HB.out|apply below_alloc|apply pw_below_drewN|apply below_drew1|refine below_set ?_ GE116.out)|exact HB.out)) hb)
            have n3_:=Aside0.mk (hbox)
            have n4_:=Aside0.mk ((by rw [hg];exact (below_size (by repeat (first|(with_reducible first|exact HB.out|apply below_alloc|apply pw_below_drewN|apply below_drew1|refine below_set ?_ GE116.out)|exact HB.out))) : w.heap.size ≤ gb131))
            have n5_:=Aside0.mk ((by rw [hg];exact (below_size (by repeat (first|(with_reducible first|exact HB.out|apply below_alloc|apply pw_below_drewN|apply below_drew1|refine below_set ?_ GE116.out)|exact HB.out))) : w.heap.size ≤ gb131))
            have n6_:=Aside0.mk ((by rw [hg];exact Nat.ne_of_lt (blk_lt (g:=gb116) (o:=.cells #[.int .i64 t114,.int .i64 t115] 26 (0,0)) (by (with_reducible repeat (first|refine blk_drewN ?_ _|refine blk_drew ?_|refine blk_alloc ?_ _));exact BK116.out)) : gb116 ≠ gb131))
            have n7_:=Aside0.mk ((by rw [hg];exact Nat.ne_of_gt (blk_lt (g:=gb116) (o:=.cells #[.int .i64 t114,.int .i64 t115] 26 (0,0)) (by (with_reducible repeat (first|refine blk_drewN ?_ _|refine blk_drew ?_|refine blk_alloc ?_ _));exact BK116.out)) : gb131 ≠ gb116))
            have z_HO119:=fun (h0_ : b 0 = true) => (show Kd.R (Kd.int .i64) 3 w34 w.heap.size (fun _ => True) v118 y117 from by first|exact (Kd.R_below (by (with_reducible repeat (first|apply Kd.R_alloc|apply Kd.R_drewN|apply Kd.R_drew));exact (Q_HO119 h0_)) hb)|exact Kd.R_mono (Kd.R_below (by (with_reducible repeat (first|apply Kd.R_alloc|apply Kd.R_drewN|apply Kd.R_drew));exact (Q_HO119 h0_)) hb) (fun _ h_ => by first|trivial|exact h_|exact h_.1))
            have z_HO122:=fun (h0_ : b 1 = true) => (show Bc.Kf 5 w34 w.heap.size v121 y120 from by first|exact (Bc.Kf_below (by (with_reducible repeat (first|apply Bc.Kf_alloc|apply Bc.Kf_drewN|apply Bc.Kf_drew));exact (Q_HO122 h0_)) hb)|exact Kd.R_mono (Bc.Kf_below (by (with_reducible repeat (first|apply Bc.Kf_alloc|apply Bc.Kf_drewN|apply Bc.Kf_drew));exact (Q_HO122 h0_)) hb) (fun _ h_ => by first|trivial|exact h_|exact h_.1))
            have z_HO127:=fun (h0_ : b 9 = true) => (show Kd.R k54 54 w34 w.heap.size (fun k_ => some k_ ≠ (.slice (some ad123) t104.length co28 : Value).ownBlock) v126 y125 from by first|exact (Kd.R_below (by (with_reducible repeat (first|apply Kd.R_alloc|apply Kd.R_drewN|apply Kd.R_drew));exact (Q_HO127 h0_)) hb)|exact Kd.R_mono (Kd.R_below (by (with_reducible repeat (first|apply Kd.R_alloc|apply Kd.R_drewN|apply Kd.R_drew));exact (Q_HO127 h0_)) hb) (fun _ h_ => by first|trivial|exact h_|exact h_.1))
            clear HO106
            clear BK116
            clear HB
            have HO106:=n0_
            have BK116:=n1_
            have HB:=n2_
            have BK131:=n3_
            have GW131:=n4_
            have GE131:=n5_
            have NB116_131:=n6_
            have NB131_116:=n7_
            clear n0_ n1_ n2_ n3_ n4_ n5_ n6_ n7_
            clear hb hbox hg
            refine hK.out _ _ ⟨v118,v121,v126,gb131,m2_,(.pointer (some ⟨gb131,0,none⟩)),(by rw [ha.out];exact putSel_upk 12 hb_ rfl rfl rfl),(by (with_reducible repeat (first|apply Kd.R_alloc|apply Kd.R_drewN|apply Kd.R_drew));exact HO106.out),(by (with_reducible repeat (first|refine blk_drewN ?_ _|refine blk_drew ?_|refine blk_alloc ?_ _));exact BK116.out),(by repeat (first|(with_reducible first|exact HB.out|apply below_alloc|apply pw_below_drewN|apply below_drew1|refine below_set ?_ GE116.out|refine below_set ?_ GE131.out)|exact HB.out)),z_HO119,z_HO122,z_HO127,fun _ _ => (by (with_reducible repeat (first|refine blk_drewN ?_ _|refine blk_drew ?_|refine blk_alloc ?_ _));exact BK131.out),fun _ => GW131.out,fun _ => GE131.out,fun _ => NB116_131.out,fun _ => NB131_116.out,fun h0_ => absurd ((hoff 16 (by kernel_rfl)).symm.trans h0_) (by decide),Q_X2_,fun _ => rfl⟩
           refine steps_cons ?_ ?_
           ·rintro b a w' ⟨v118,v121,v126,gb131,m2_,m14_,ha,Q_HO106,Q_BK116,Q_HB,Q_HO119,Q_HO122,Q_HO127,Q_BK131,Q_GW131,Q_GE131,Q_NB116_131,Q_NB131_116,Q_BK131_e16,Q_X2_,Q_X14_⟩ hb_ hon hoff
            refine ⟨_,rfl,fun K hK => ?_⟩
            have e31 : a.tmps[31]? = some (.bool false):=by rw [ha];exact putSel_on (e:=(12,31,.bool false)) 10 rfl rfl (hon 12 (by kernel_rfl)) rfl
            replace ha:=Aside0.mk ha
            have HO106:=Aside0.mk Q_HO106
            have BK116:=Aside0.mk Q_BK116
            have HB:=Aside0.mk Q_HB
            have HO119:=Aside0.mk (Q_HO119 (hon 0 (by kernel_rfl)))
            have HO122:=Aside0.mk (Q_HO122 (hon 1 (by kernel_rfl)))
            have HO127:=Aside0.mk (Q_HO127 (hon 9 (by kernel_rfl)))
            have BK131:=Aside0.mk (Q_BK131 (hon 14 (by kernel_rfl)) (hoff 16 (by kernel_rfl)))
            have GW131:=Aside0.mk (Q_GW131 (hon 14 (by kernel_rfl)))
            have GE131:=Aside0.mk (Q_GE131 (hon 14 (by kernel_rfl)))
            have NB116_131:=Aside0.mk (Q_NB116_131 (hon 14 (by kernel_rfl)))
            have NB131_116:=Aside0.mk (Q_NB131_116 (hon 14 (by kernel_rfl)))
            refine value_ (w1:=w') (v:=.bool false) (by rfl) rfl ?_ ?_
            ·go_simp
             (try simp only [i64_w])
             try rfl
            refine hK.out _ _ ⟨v118,v121,v126,gb131,m2_,m14_,(by rw [ha.out];exact putSel_upk 13 hb_ rfl rfl rfl),Q_HO106,Q_BK116,Q_HB,Q_HO119,Q_HO122,Q_HO127,Q_BK131,Q_GW131,Q_GE131,Q_NB116_131,Q_NB131_116,fun h0_ => absurd ((hoff 16 (by kernel_rfl)).symm.trans h0_) (by decide),Q_X2_,Q_X14_⟩
           refine steps_cons ?_ ?_
           ·rintro b a w' ⟨v118,v121,v126,gb131,m2_,m14_,ha,Q_HO106,Q_BK116,Q_HB,Q_HO119,Q_HO122,Q_HO127,Q_BK131,Q_GW131,Q_GE131,Q_NB116_131,Q_NB131_116,Q_BK131_e16,Q_X2_,Q_X14_⟩ hb_ hon hoff
            refine ⟨_,rfl,fun K hK => ?_⟩
            have e5 : a.tmps[5]? = some (m14_):=by rw [ha];exact putSel_on (e:=(14,5,m14_)) 12 rfl rfl (hon 14 (by kernel_rfl)) rfl
            rw [Q_X14_ (hon 14 (by kernel_rfl))] at e5
            have e32 : a.tmps[32]? = some (.agg #[.int .i64 t129,.int .i64 t130]):=by rw [ha];exact putSel_on (e:=(13,32,.agg #[.int .i64 t129,.int .i64 t130])) 11 rfl rfl (hon 13 (by kernel_rfl)) rfl
            replace ha:=Aside0.mk ha
            have HO106:=Aside0.mk Q_HO106
            have BK116:=Aside0.mk Q_BK116
            have HB:=Aside0.mk Q_HB
            have HO119:=Aside0.mk (Q_HO119 (hon 0 (by kernel_rfl)))
            have HO122:=Aside0.mk (Q_HO122 (hon 1 (by kernel_rfl)))
            have HO127:=Aside0.mk (Q_HO127 (hon 9 (by kernel_rfl)))
            have BK131:=Aside0.mk (Q_BK131 (hon 14 (by kernel_rfl)) hb_)
            have GW131:=Aside0.mk (Q_GW131 (hon 14 (by kernel_rfl)))
            have GE131:=Aside0.mk (Q_GE131 (hon 14 (by kernel_rfl)))
            have NB116_131:=Aside0.mk (Q_NB116_131 (hon 14 (by kernel_rfl)))
            have NB131_116:=Aside0.mk (Q_NB131_116 (hon 14 (by kernel_rfl)))
            have hs46 : w'.cell? ⟨gb131,0,none⟩ = some (.int .i64 0):=(blk_cell BK131.out 0).trans rfl
            have hfs46:=blk_frozen BK131.out 0
            have hns46_0:=NB116_131.out
            have hms46_0:=NB131_116.out
            have hs47 : w'.cell? ⟨gb131,1,none⟩ = some (.int .i64 0):=(blk_cell BK131.out 1).trans rfl
            have hfs47:=blk_frozen BK131.out 1
            have hns47_0:=NB116_131.out
            have hms47_0:=NB131_116.out
            refine skip_ (w1:=?_) (by rfl) rfl ?_ ?_
            rotate_left
            ·go_simp
             rfl
            refine hK.out _ _ ⟨v118,v121,v126,gb131,m2_,m14_,(by rw [ha.out];exact putSel_none (v:=undef) rfl),(by (with_reducible repeat (first|apply Kd.R_alloc|apply Kd.R_drewN|apply Kd.R_drew));exact Kd.R_mono (Kd.R_far (p:=⟨gb131,1,none⟩) (Kd.R_far (p:=⟨gb131,0,none⟩) (Kd.R_types HO106.out BK131.out (by decide)) (fun _ hk => hk.2) (.int .i64 t129)) (fun _ hk => hk.2) (.int .i64 t130)) (fun _ hk => hk.1)),(by (with_reducible repeat (first|refine blk_drewN ?_ _|refine blk_drew ?_|refine blk_alloc ?_ _));refine blk_far ?_ NB116_131.out _;(with_reducible repeat (first|refine blk_drewN ?_ _|refine blk_drew ?_|refine blk_alloc ?_ _));refine blk_far ?_ NB116_131.out _;(with_reducible repeat (first|refine blk_drewN ?_ _|refine blk_drew ?_|refine blk_alloc ?_ _));exact BK116.out),(by repeat (first|(with_reducible first|exact HB.out|apply below_alloc|apply pw_below_drewN|apply below_drew1|refine below_set ?_ GE116.out|refine below_set ?_ GE131.out)|exact HB.out)),fun _ => (by (with_reducible repeat (first|apply Kd.R_alloc|apply Kd.R_drewN|apply Kd.R_drew));exact Kd.R_mono (Kd.R_far (p:=⟨gb131,1,none⟩) (Kd.R_far (p:=⟨gb131,0,none⟩) (Kd.R_types HO119.out BK131.out (by decide)) (fun _ hk => hk.2) (.int .i64 t129)) (fun _ hk => hk.2) (.int .i64 t130)) (fun _ hk => trivial)),fun _ => (by (with_reducible repeat (first|apply Bc.Kf_alloc|apply Bc.Kf_drewN|apply Bc.Kf_drew));exact (Bc.Kf_far (p:=⟨gb131,1,none⟩) (Bc.Kf_far (p:=⟨gb131,0,none⟩) HO122.out (Bc.Kf_sep HO122.out BK131.out (by decide)) (.int .i64 t129)) (Bc.Kf_sep HO122.out BK131.out (by decide)) (.int .i64 t130))),fun _ => (by (with_reducible repeat (first|apply Kd.R_alloc|apply Kd.R_drewN|apply Kd.R_drew));exact Kd.R_mono (Kd.R_far (p:=⟨gb131,1,none⟩) (Kd.R_far (p:=⟨gb131,0,none⟩) (Kd.R_types HO127.out BK131.out (by decide)) (fun _ hk => hk.2) (.int .i64 t129)) (fun _ hk => hk.2) (.int .i64 t130)) (fun _ hk => hk.1)),fun _ h1_ => absurd ((up_self b 16).symm.trans h1_) (by decide),fun _ => GW131.out,fun _ => GE131.out,fun _ => NB116_131.out,fun _ => NB131_116.out,fun _ => (by (with_reducible repeat (first|refine blk_drewN ?_ _|refine blk_drew ?_|refine blk_alloc ?_ _));refine blk_put (cs:=#[.int .i64 t129,.int .i64 0]) ?_ 1 _ rfl;(with_reducible repeat (first|refine blk_drewN ?_ _|refine blk_drew ?_|refine blk_alloc ?_ _));refine blk_put (cs:=#[.int .i64 0,.int .i64 0]) ?_ 0 _ rfl;(with_reducible repeat (first|refine blk_drewN ?_ _|refine blk_drew ?_|refine blk_alloc ?_ _));exact BK131.out),Q_X2_,Q_X14_⟩
           exact steps_nil
          rintro b a w47 hall ⟨v118,v121,v126,gb131,m2_,m14_,ha,Q_HO106,Q_BK116,Q_HB,Q_HO119,Q_HO122,Q_HO127,Q_BK131,Q_GW131,Q_GE131,Q_NB116_131,Q_NB131_116,Q_BK131_e16,Q_X2_,Q_X14_⟩
          clear BK116 HB HO106
          have hb0_:=hall 0 (by kernel_rfl)
          have hb1_:=hall 1 (by kernel_rfl)
          have hb2_:=hall 2 (by kernel_rfl)
          have hb4_:=hall 4 (by kernel_rfl)
          have hb5_:=hall 5 (by kernel_rfl)
          have hb7_:=hall 7 (by kernel_rfl)
          have hb8_:=hall 8 (by kernel_rfl)
          have hb9_:=hall 9 (by kernel_rfl)
          have hb10_:=hall 10 (by kernel_rfl)
          have hb11_:=hall 11 (by kernel_rfl)
          have hb12_:=hall 12 (by kernel_rfl)
          have hb13_:=hall 13 (by kernel_rfl)
          have hb14_:=hall 14 (by kernel_rfl)
          have hb15_:=hall 15 (by kernel_rfl)
          have hb16_:=hall 16 (by kernel_rfl)
          subst ha
          obtain rfl:=Q_X2_ hb2_
          obtain rfl:=Q_X14_ hb14_
          simp only [putSel,hb0_,hb1_,hb2_,hb4_,hb5_,hb7_,hb8_,hb9_,hb10_,hb11_,hb12_,hb13_,hb14_,hb15_,hb16_,if_true,Act.put,List.setIfInBounds_toArray,List.set_cons_zero,List.set_cons_succ]
          have HO106:=Aside0.mk Q_HO106
          clear Q_HO106
          have BK116:=Aside0.mk Q_BK116
          clear Q_BK116
          have HB:=Aside0.mk Q_HB
          clear Q_HB
          have HO119:=Aside0.mk (Q_HO119 hb0_)
          clear Q_HO119
          have HO122:=Aside0.mk (Q_HO122 hb1_)
          clear Q_HO122
          have HO127:=Aside0.mk (Q_HO127 hb9_)
          clear Q_HO127
          clear Q_BK131
          have GW131:=Aside0.mk (Q_GW131 hb14_)
          clear Q_GW131
          have GE131:=Aside0.mk (Q_GE131 hb14_)
          clear Q_GE131
          have NB116_131:=Aside0.mk (Q_NB116_131 hb14_)
          clear Q_NB116_131
          have NB131_116:=Aside0.mk (Q_NB131_116 hb14_)
          clear Q_NB131_116
          have BK131:=Aside0.mk (Q_BK131_e16 hb16_)
          clear Q_BK131_e16
          clear hall hb0_ hb1_ hb2_ hb4_ hb5_ hb7_ hb8_ hb9_ hb10_ hb11_ hb12_ hb13_ hb14_ hb15_ hb16_
          try go_wp2_with (first|((with_reducible refine gate_dst (N:=34) rfl ?_);(try (refine gate_guard (by rfl) ?_;dsimp only));refine Kd.R_lit (Kd.int .i64) _ 3 ?hg (N:=34) ?hd (xs:=([5,7] : List Int)) (inner:=[.int .i64 5,.int .i64 7]) (ok:=fun _ => True) (okp:=fun _ => True) ?hr ?hp (fun _ hk => hk) trivial (Below.refl _ _) (Nat.le_refl _) (by simp) ?_;(case hd => rfl);(case hg => rfl);(case hr => first|(go_simp;done)|(go_simp;rfl));(case hp => exact (Reps.one (show Kd.M (Kd.int .i64) _ _ _ 5 [.int .i64 5] from rfl) (Reps.one (show Kd.M (Kd.int .i64) _ _ _ 7 [.int .i64 7] from rfl) (Reps.none _ _))));intro v133 w48 ho49 hb hg_ hnew_;clear hg_ hnew_;(first|rw [← Ny132.out] at ho49|(simp only [Int.reduceToNat] at ho49;rw [← Ny132.out] at ho49));have n0_:=Aside0.mk (Kd.R_below (by (with_reducible repeat (first|apply Kd.R_alloc|apply Kd.R_drewN|apply Kd.R_drew));exact HO106.out) hb);have n1_:=Aside0.mk (Kd.R_lower ho49 (below_size (by repeat (first|(with_reducible first|exact HB.out|apply below_alloc|apply pw_below_drewN|apply below_drew1|refine below_set ?_ GE116.out|refine below_set ?_ GE131.out)|exact HB.out))));have n2_:=Aside0.mk (blk_below (g:=gb116) (o:=.cells #[.int .i64 t114,.int .i64 t115] 26 (0,0)) (by (with_reducible repeat (first|refine blk_drewN ?_ _|refine blk_drew ?_|refine blk_alloc ?_ _));exact BK116.out) hb);have n3_:=Aside0.mk (blk_below (g:=gb131) (o:=.cells #[.int .i64 t129,.int .i64 t130] 26 (0,0)) (by (with_reducible repeat (first|refine blk_drewN ?_ _|refine blk_drew ?_|refine blk_alloc ?_ _));exact BK131.out) hb);have n4_:=Aside0.mk (below_step (by repeat (first|(with_reducible first|exact HB.out|apply below_alloc|apply pw_below_drewN|apply below_drew1|refine below_set ?_ GE116.out|refine below_set ?_ GE131.out)|exact HB.out)) hb);clear HO106;clear BK116;clear BK131;clear HB;have HO106:=n0_;have HO134:=n1_;have BK116:=n2_;have BK131:=n3_;have HB:=n4_;clear n0_ n1_ n2_ n3_ n4_;clear hb ho49)|((with_reducible refine gate_dst (N:=35) rfl ?_);(try (refine gate_guard (by rfl) ?_;dsimp only));refine Kd.R_lit (Kd.int .u8) _ 5 ?hg (N:=35) ?hd (xs:=([97] : List Int)) (inner:=[.int .u8 97]) (ok:=fun _ => True) (okp:=fun _ => True) ?hr ?hp (fun _ hk => hk) trivial (Below.refl _ _) (Nat.le_refl _) (by simp) ?_;(case hd => rfl);(case hg => rfl);(case hr => first|(go_simp;done)|(go_simp;rfl));(case hp => exact (Reps.one (show Kd.M (Kd.int .u8) _ _ _ 97 [.int .u8 97] from rfl) (Reps.none _ _)));intro v136 w50 ho51 hb hg_ hnew_;clear hg_ hnew_;(first|rw [← Ny135.out] at ho51|(simp only [Int.reduceToNat] at ho51;rw [← Ny135.out] at ho51));have n0_:=Aside0.mk (Kd.R_below (by (with_reducible repeat (first|apply Kd.R_alloc|apply Kd.R_drewN|apply Kd.R_drew));exact HO106.out) hb);have n1_:=Aside0.mk (Kd.R_below (by (with_reducible repeat (first|apply Kd.R_alloc|apply Kd.R_drewN|apply Kd.R_drew));exact HO134.out) hb);have n2_:=Aside0.mk (Bc.Kf_lower (Bc.Kf_of_R ho51 (by rw [Ny135.out];decide)) (below_size (by repeat (first|(with_reducible first|exact HB.out|apply below_alloc|apply pw_below_drewN|apply below_drew1|refine below_set ?_ GE116.out|refine below_set ?_ GE131.out)|exact HB.out))));have n3_:=Aside0.mk (blk_below (g:=gb116) (o:=.cells #[.int .i64 t114,.int .i64 t115] 26 (0,0)) (by (with_reducible repeat (first|refine blk_drewN ?_ _|refine blk_drew ?_|refine blk_alloc ?_ _));exact BK116.out) hb);have n4_:=Aside0.mk (blk_below (g:=gb131) (o:=.cells #[.int .i64 t129,.int .i64 t130] 26 (0,0)) (by (with_reducible repeat (first|refine blk_drewN ?_ _|refine blk_drew ?_|refine blk_alloc ?_ _));exact BK131.out) hb);have n5_:=Aside0.mk (below_step (by repeat (first|(with_reducible first|exact HB.out|apply below_alloc|apply pw_below_drewN|apply below_drew1|refine below_set ?_ GE116.out|refine below_set ?_ GE131.out)|exact HB.out)) hb);clear HO106;clear HO134;clear BK116;clear BK131;clear HB;have HO106:=n0_;have HO134:=n1_;have HO137:=n2_;have BK116:=n3_;have BK131:=n4_;have HB:=n5_;clear n0_ n1_ n2_ n3_ n4_ n5_;clear hb ho51;have q52 : (1 : Int) ≤ ((t104.length : Int) : Int):=of_decide_eq_true (by first|(with_reducible assumption)|assumption);obtain ⟨i052,hi052,_,hsz52,_⟩:=info_parts info54;have hroom52 : t104.length ≤ co28:=(Kd.R_reads' HO106.out).2.1;have hC52 : Kd.C k54 _ (some ad123) t104.length t104:=(Kd.R_reads' HO106.out).2.2;have hcut52:=cut_from (P:=Try.prog) 43 54 .i64 Try.underlying43 hi052 2 hsz52 (some ad123) t104.length co28 1 (by omega) q52;have hr52:=Kd.C_drop (m:=(1 : Int).toNat) (c:=co28) hC52 (by omega) hroom52;obtain ⟨A52,hA52⟩ : ∃ A1,A1 = (if co28 = (1 : Int).toNat then (some ad123) else ((some ad123) : Option Addr).map (·.add ((1 : Int).toNat * 2))):=⟨_,rfl⟩;obtain ⟨c52,hc52⟩ : ∃ c1,c1 = co28 - (1 : Int).toNat:=⟨_,rfl⟩;have hy52 : y138.length = t104.length - (1 : Int).toNat:=(by rw [Ny138.out,List.length_drop] <;> omega);rw [show (t104).drop (1 : Int).toNat = y138 from Ny138.out.symm] at hr52;replace hr52 : Kd.C k54 _ A52 y138.length y138:=(by rw [hA52];exact hr52);rw [← hy52,← hA52,← hc52] at hcut52;have HR141:=Aside0.mk hr52;have HC141:=Aside0.mk (show y138.length ≤ c52 from by rw [hy52,hc52];exact Nat.sub_le_sub_right hroom52 _);clear hr52 hC52 hroom52 hi052 hsz52 hc52;have KY52:=Aside0.mk hy52;have KA52:=Aside0.mk hA52;clear hy52 hA52;have KL52:=Aside0.mk (show 1 ≤ t104.length from by omega);replace q52:=eq_true q52;obtain ⟨Ao53,co53,eo53⟩:=Kd.R_slice HO134.out;subst eo53;obtain ⟨Ao54,co54,eo54⟩:=Bc.Kf_slice HO137.out;subst eo54)|((with_reducible refine gate_dst (N:=36) rfl ?_);(try (refine gate_guard (by rfl) ?_;dsimp only));obtain ⟨p_,hr_,hp_,hc_⟩:=Bc.Kf_conv (P:=Try.prog) Try.underlying22 Try.underlying5 HO137.out;refine Kd.event_run ?hg (v:=.slice Ao54 y135.length co54) (w1:=w50.freeze p_ 1) ?hr ?_;(case hg => rfl);(case hr => first|(go_simp;done)|(go_simp;rfl)|(go_simp;exact hc_)|(go_simp;rw [hc_];rfl));have n0_:=Aside0.mk (Bc.R_freeze HO106.out p_ 1 hr_ (by decide));have n1_:=Aside0.mk (Bc.R_freeze HO134.out p_ 1 hr_ (by decide));have n2_:=Aside0.mk (Bc.Kf_freeze HO137.out p_ 1 hr_);have n3_:=Aside0.mk (Bc.blk_freeze BK116.out p_ 1 hr_ (by decide));have n4_:=Aside0.mk (Bc.blk_freeze BK131.out p_ 1 hr_ (by decide));have n5_:=Aside0.mk (Bc.below_freeze HB.out p_ 1 hp_);have n6_:=Aside0.mk (Bc.C_freezeR HR141.out p_ 1 hr_ (fun _ _ h => h));clear HO106;clear HO134;clear HO137;clear BK116;clear BK131;clear HB;clear HR141;generalize w50.freeze p_ 1 = wz36 at n0_ n1_ n2_ n3_ n4_ n5_ n6_ ⊢;have HO106:=n0_;have HO134:=n1_;have HO137:=n2_;have BK116:=n3_;have BK131:=n4_;have HB:=n5_;have HR141:=n6_;clear n0_ n1_ n2_ n3_ n4_ n5_ n6_ hc_ hr_ hp_)|((with_reducible refine gate_callee (f:=29) rfl ?_);refine goesL_ (some 39) rfl rfl Try.func29 (by kernel_rfl) rfl #[.slice Ao53 y132.length co53,.slice Ao54 y135.length co54,.slice A52 y138.length c52] rfl (by (try simp only [List.map_toArray,List.map_cons,List.map_nil]);first|done|rfl|(simp only [List.length_drop,List.length_take];rfl)) ?_;(with_reducible refine (threshold_Signers.calls k _ _ y132 _ _ y135 _ _ y138 t142 t145 t146 _ ?side1 ?side2 ?side3 ?side4 ?side5 ?side6 A6.out).mono ?_);(case side1 => repeat (first|exact (Kd.R_reads' HO134.out).2.2|(with_reducible refine Kd.C_alloc ?_ _)|(with_reducible refine Kd.C_drewN ?_ _)|(with_reducible refine Kd.C_drew ?_)));(case side2 => exact (Kd.R_reads' HO134.out).2.1);(case side3 => repeat (first|exact (Bc.Kf_reads' HO137.out).2.2|(with_reducible refine Kd.C_alloc ?_ _)|(with_reducible refine Kd.C_drewN ?_ _)|(with_reducible refine Kd.C_drew ?_)));(case side4 => exact (Bc.Kf_reads' HO137.out).2.1);(case side5 => repeat (first|exact (by repeat (first|(with_reducible exact HR141.out)|(with_reducible refine Kd.C_alloc ?_ _)|(with_reducible refine Kd.C_drewN ?_ _)|(with_reducible refine Kd.C_drew ?_)|exact HR141.out))|(with_reducible refine Kd.C_alloc ?_ _)|(with_reducible refine Kd.C_drewN ?_ _)|(with_reducible refine Kd.C_drew ?_)));(case side6 => exact HC141.out);rintro e w55 ⟨v143,rfl,ho0,hb⟩;refine ⟨_,rfl,?_⟩;have n0_:=Aside0.mk (Kd.R_below (by (with_reducible repeat (first|apply Kd.R_alloc|apply Kd.R_drewN|apply Kd.R_drew));exact HO106.out) hb);have n1_:=Aside0.mk (Kd.R_elder' (by (with_reducible repeat (first|apply Kd.R_alloc|apply Kd.R_drewN|apply Kd.R_drew));exact HO134.out) (Kd.R_base ho0) hb);have n2_:=Aside0.mk (Bc.Kf_below (by (with_reducible repeat (first|apply Bc.Kf_alloc|apply Bc.Kf_drewN|apply Bc.Kf_drew));exact HO137.out) hb);have n3_:=Aside0.mk (Kd.R_lower (Kd.R_new' ho0 (Kd.R_lt (by (with_reducible repeat (first|apply Kd.R_alloc|apply Kd.R_drewN|apply Kd.R_drew));exact HO134.out))) (below_size (by repeat (first|(with_reducible first|exact HB.out|apply below_alloc|apply pw_below_drewN|apply below_drew1|refine below_set ?_ GE116.out|refine below_set ?_ GE131.out)|exact HB.out))));have n4_:=Aside0.mk (blk_below (g:=gb116) (o:=.cells #[.int .i64 t114,.int .i64 t115] 26 (0,0)) (by (with_reducible repeat (first|refine blk_drewN ?_ _|refine blk_drew ?_|refine blk_alloc ?_ _));exact BK116.out) hb);have n5_:=Aside0.mk (blk_below (g:=gb131) (o:=.cells #[.int .i64 t129,.int .i64 t130] 26 (0,0)) (by (with_reducible repeat (first|refine blk_drewN ?_ _|refine blk_drew ?_|refine blk_alloc ?_ _));exact BK131.out) hb);have n6_:=Aside0.mk (Kd.C_below (by repeat (first|(with_reducible exact HR141.out)|(with_reducible refine Kd.C_alloc ?_ _)|(with_reducible refine Kd.C_drewN ?_ _)|(with_reducible refine Kd.C_drew ?_)|exact HR141.out)) hb);have n7_:=Aside0.mk (below_step (by repeat (first|(with_reducible first|exact HB.out|apply below_alloc|apply pw_below_drewN|apply below_drew1|refine below_set ?_ GE116.out|refine below_set ?_ GE131.out)|exact HB.out)) hb);clear HO106;clear HO134;clear HO137;clear BK116;clear BK131;clear HR141;clear HB;have HO106:=n0_;have HO134:=n1_;have HO137:=n2_;have HO144:=n3_;have BK116:=n4_;have BK131:=n5_;have HR141:=n6_;have HB:=n7_;clear n0_ n1_ n2_ n3_ n4_ n5_ n6_ n7_;(try clear hb);(try clear hb2);(try clear hk);(try clear hi);(try clear ho0))|((with_reducible refine gate_dst (N:=7) rfl ?_);(try (refine gate_guard (by rfl) ?_;dsimp only));refine box_event ?hg (N:=7) ?hd (cs:=#[.int .i64 0,.int .i64 0]) (t:=26) ?hr ?_;(case hd => rfl);(case hg => rfl);(case hr => first|(go_simp;done)|(go_simp;rfl));intro gb147 hg w56 hbox hb;have n0_:=Aside0.mk (Kd.R_below (by (with_reducible repeat (first|apply Kd.R_alloc|apply Kd.R_drewN|apply Kd.R_drew));exact HO144.out) hb);have n1_:=Aside0.mk (blk_below (g:=gb116) (o:=.cells #[.int .i64 t114,.int .i64 t115] 26 (0,0)) (by (with_reducible repeat (first|refine blk_drewN ?_ _|refine blk_drew ?_|refine blk_alloc ?_ _));exact BK116.out) hb);have n2_:=Aside0.mk (blk_below (g:=gb131) (o:=.cells #[.int .i64 t129,.int .i64 t130] 26 (0,0)) (by (with_reducible repeat (first|refine blk_drewN ?_ _|refine blk_drew ?_|refine blk_alloc ?_ _));exact BK131.out) hb);have n3_:=Aside0.mk (below_step (by repeat (first|(with_reducible first|exact HB.out|apply below_alloc|apply pw_below_drewN|apply below_drew1|refine below_set ?_ GE116.out|refine below_set ?_ GE131.out)|exact HB.out)) hb);have n4_:=Aside0.mk (hbox);have n5_:=Aside0.mk ((by rw [hg];exact (below_size (by repeat (first|(with_reducible first|exact HB.out|apply below_alloc|apply pw_below_drewN|apply below_drew1|refine below_set ?_ GE116.out|refine below_set ?_ GE131.out)|exact HB.out))) : w.heap.size ≤ gb147));have n6_:=Aside0.mk ((by rw [hg];exact (below_size (by repeat (first|(with_reducible first|exact HB.out|apply below_alloc|apply pw_below_drewN|apply below_drew1|refine below_set ?_ GE116.out|refine below_set ?_ GE131.out)|exact HB.out))) : w.heap.size ≤ gb147));have n7_:=Aside0.mk ((by rw [hg];exact Nat.ne_of_lt (blk_lt (g:=gb116) (o:=.cells #[.int .i64 t114,.int .i64 t115] 26 (0,0)) (by (with_reducible repeat (first|refine blk_drewN ?_ _|refine blk_drew ?_|refine blk_alloc ?_ _));exact BK116.out)) : gb116 ≠ gb147));have n8_:=Aside0.mk ((by rw [hg];exact Nat.ne_of_gt (blk_lt (g:=gb116) (o:=.cells #[.int .i64 t114,.int .i64 t115] 26 (0,0)) (by (with_reducible repeat (first|refine blk_drewN ?_ _|refine blk_drew ?_|refine blk_alloc ?_ _));exact BK116.out)) : gb147 ≠ gb116));have n9_:=Aside0.mk ((by rw [hg];exact Nat.ne_of_lt (blk_lt (g:=gb131) (o:=.cells #[.int .i64 t129,.int .i64 t130] 26 (0,0)) (by (with_reducible repeat (first|refine blk_drewN ?_ _|refine blk_drew ?_|refine blk_alloc ?_ _));exact BK131.out)) : gb131 ≠ gb147));have n10_:=Aside0.mk ((by rw [hg];exact Nat.ne_of_gt (blk_lt (g:=gb131) (o:=.cells #[.int .i64 t129,.int .i64 t130] 26 (0,0)) (by (with_reducible repeat (first|refine blk_drewN ?_ _|refine blk_drew ?_|refine blk_alloc ?_ _));exact BK131.out)) : gb147 ≠ gb131));clear HO144;clear BK116;clear BK131;clear HB;have HO144:=n0_;have BK116:=n1_;have BK131:=n2_;have HB:=n3_;have BK147:=n4_;have GW147:=n5_;have GE147:=n6_;have NB116_147:=n7_;have NB147_116:=n8_;have NB131_147:=n9_;have NB147_131:=n10_;clear n0_ n1_ n2_ n3_ n4_ n5_ n6_ n7_ n8_ n9_ n10_;clear hb hbox hg;have hnb57:=NB147_116.out;have hnc57:=NB116_147.out;have hnb58:=NB147_131.out;have hnc58:=NB131_147.out;have hcz59_0 : w56.cell? ⟨gb147,0,none⟩ = some (.int .i64 0):=(blk_cell BK147.out 0).trans rfl;have hcz59_1 : w56.cell? ⟨gb147,1,none⟩ = some (.int .i64 0):=(blk_cell BK147.out 1).trans rfl;have hfz59_0:=blk_frozen BK147.out 0;have hfz59_1:=blk_frozen BK147.out 1)|((with_reducible refine gate_callee (f:=13) rfl ?_);refine goesL_ (some 42) rfl rfl Try.func13 (by kernel_rfl) rfl #[] rfl (by (try simp only [List.map_toArray,List.map_cons,List.map_nil]);first|done|rfl|(simp only [List.length_drop,List.length_take];rfl)) ?_;(with_reducible refine (changeforgelaw5_signs.calls k  true _ A7.out).mono ?_);rintro e w60 ⟨rfl,hb⟩;refine ⟨_,rfl,?_⟩;have n0_:=Aside0.mk (Kd.R_below (by (with_reducible repeat (first|apply Kd.R_alloc|apply Kd.R_drewN|apply Kd.R_drew));exact (Kd.R_mono (Kd.R_far (p:=⟨gb147,1,none⟩) (Kd.R_far (p:=⟨gb147,0,none⟩) (Kd.R_types HO144.out BK147.out (by decide)) (fun _ hk => hk.2) (.int .i64 t145)) (fun _ hk => hk.2) (.int .i64 t146)) (fun _ h_ => h_.1))) hb);have n1_:=Aside0.mk (blk_below (g:=gb116) (o:=.cells #[.int .i64 t114,.int .i64 t115] 26 (0,0)) (by (with_reducible repeat (first|refine blk_drewN ?_ _|refine blk_drew ?_|refine blk_alloc ?_ _));refine blk_far ?_ NB116_147.out _;(with_reducible repeat (first|refine blk_drewN ?_ _|refine blk_drew ?_|refine blk_alloc ?_ _));refine blk_far ?_ NB116_147.out _;(with_reducible repeat (first|refine blk_drewN ?_ _|refine blk_drew ?_|refine blk_alloc ?_ _));exact BK116.out) hb);have n2_:=Aside0.mk (blk_below (g:=gb131) (o:=.cells #[.int .i64 t129,.int .i64 t130] 26 (0,0)) (by (with_reducible repeat (first|refine blk_drewN ?_ _|refine blk_drew ?_|refine blk_alloc ?_ _));refine blk_far ?_ NB131_147.out _;(with_reducible repeat (first|refine blk_drewN ?_ _|refine blk_drew ?_|refine blk_alloc ?_ _));refine blk_far ?_ NB131_147.out _;(with_reducible repeat (first|refine blk_drewN ?_ _|refine blk_drew ?_|refine blk_alloc ?_ _));exact BK131.out) hb);have n3_:=Aside0.mk (blk_below (g:=gb147) (o:=.cells #[.int .i64 t145,.int .i64 t146] 26 (0,0)) (by (with_reducible repeat (first|refine blk_drewN ?_ _|refine blk_drew ?_|refine blk_alloc ?_ _));refine blk_put (cs:=#[.int .i64 t145,.int .i64 0]) ?_ 1 _ rfl;(with_reducible repeat (first|refine blk_drewN ?_ _|refine blk_drew ?_|refine blk_alloc ?_ _));refine blk_put (cs:=#[.int .i64 0,.int .i64 0]) ?_ 0 _ rfl;(with_reducible repeat (first|refine blk_drewN ?_ _|refine blk_drew ?_|refine blk_alloc ?_ _));exact BK147.out) hb);have n4_:=Aside0.mk (below_step (by repeat (first|(with_reducible first|exact HB.out|apply below_alloc|apply pw_below_drewN|apply below_drew1|refine below_set ?_ GE116.out|refine below_set ?_ GE131.out|refine below_set ?_ GE147.out)|exact HB.out)) hb);clear HO144;clear BK116;clear BK131;clear BK147;clear HB;have HO144:=n0_;have BK116:=n1_;have BK131:=n2_;have BK147:=n3_;have HB:=n4_;clear n0_ n1_ n2_ n3_ n4_;(try clear hb);(try clear hb2);(try clear hk);(try clear hi);have hnb61:=NB116_131.out;have hnc61:=NB131_116.out;have hcz62_0 : w60.cell? ⟨gb116,0,none⟩ = some (.int .i64 t114):=(blk_cell BK116.out 0).trans rfl;have hcz62_1 : w60.cell? ⟨gb116,1,none⟩ = some (.int .i64 t115):=(blk_cell BK116.out 1).trans rfl;have hfz62_0:=blk_frozen BK116.out 0;have hfz62_1:=blk_frozen BK116.out 1;have hcz63_0 : w60.cell? ⟨gb131,0,none⟩ = some (.int .i64 t129):=(blk_cell BK131.out 0).trans rfl;have hcz63_1 : w60.cell? ⟨gb131,1,none⟩ = some (.int .i64 t130):=(blk_cell BK131.out 1).trans rfl;have hfz63_0:=blk_frozen BK131.out 0;have hfz63_1:=blk_frozen BK131.out 1;have hcz64_0 : w60.cell? ⟨gb147,0,none⟩ = some (.int .i64 t145):=(blk_cell BK147.out 0).trans rfl;have hcz64_1 : w60.cell? ⟨gb147,1,none⟩ = some (.int .i64 t146):=(blk_cell BK147.out 1).trans rfl;have hfz64_0:=blk_frozen BK147.out 0;have hfz64_1:=blk_frozen BK147.out 1)|((with_reducible refine gate_dst (N:=67) rfl ?_);(try (refine gate_guard (by rfl) ?_;dsimp only));refine Kd.R_lit (Kd.int .i64) _ 3 ?hg (N:=67) ?hd (xs:=([7] : List Int)) (inner:=[.int .i64 7]) (ok:=fun _ => True) (okp:=fun _ => True) ?hr ?hp (fun _ hk => hk) trivial (Below.refl _ _) (Nat.le_refl _) (by simp) ?_;(case hd => rfl);(case hg => rfl);(case hr => first|(go_simp;done)|(go_simp;rfl));(case hp => exact (Reps.one (show Kd.M (Kd.int .i64) _ _ _ 7 [.int .i64 7] from rfl) (Reps.none _ _)));intro v150 w65 ho66 hb hg_ hnew_;clear hg_ hnew_;(first|rw [← Ny149.out] at ho66|(simp only [Int.reduceToNat] at ho66;rw [← Ny149.out] at ho66));have n0_:=Aside0.mk (Kd.R_elder' (by (with_reducible repeat (first|apply Kd.R_alloc|apply Kd.R_drewN|apply Kd.R_drew));exact HO144.out) (Kd.R_base ho66) hb);have n1_:=Aside0.mk (Kd.R_lower (Kd.R_new' ho66 (Kd.R_lt (by (with_reducible repeat (first|apply Kd.R_alloc|apply Kd.R_drewN|apply Kd.R_drew));exact HO144.out))) (below_size (by repeat (first|(with_reducible first|exact HB.out|apply below_alloc|apply pw_below_drewN|apply below_drew1|refine below_set ?_ GE116.out|refine below_set ?_ GE131.out|refine below_set ?_ GE147.out)|exact HB.out))));have n2_:=Aside0.mk (blk_below (g:=gb116) (o:=.cells #[.int .i64 t114,.int .i64 t115] 26 (0,0)) (by (with_reducible repeat (first|refine blk_drewN ?_ _|refine blk_drew ?_|refine blk_alloc ?_ _));exact BK116.out) hb);have n3_:=Aside0.mk (blk_below (g:=gb131) (o:=.cells #[.int .i64 t129,.int .i64 t130] 26 (0,0)) (by (with_reducible repeat (first|refine blk_drewN ?_ _|refine blk_drew ?_|refine blk_alloc ?_ _));exact BK131.out) hb);have n4_:=Aside0.mk (blk_below (g:=gb147) (o:=.cells #[.int .i64 t145,.int .i64 t146] 26 (0,0)) (by (with_reducible repeat (first|refine blk_drewN ?_ _|refine blk_drew ?_|refine blk_alloc ?_ _));exact BK147.out) hb);have n5_:=Aside0.mk (below_step (by repeat (first|(with_reducible first|exact HB.out|apply below_alloc|apply pw_below_drewN|apply below_drew1|refine below_set ?_ GE116.out|refine below_set ?_ GE131.out|refine below_set ?_ GE147.out)|exact HB.out)) hb);clear HO144;clear BK116;clear BK131;clear BK147;clear HB;have HO144:=n0_;have HO151:=n1_;have BK116:=n2_;have BK131:=n3_;have BK147:=n4_;have HB:=n5_;clear n0_ n1_ n2_ n3_ n4_ n5_;clear hb ho66;obtain ⟨Ao67,co67,eo67⟩:=Kd.R_slice HO144.out;subst eo67;obtain ⟨Ao68,co68,eo68⟩:=Kd.R_slice HO151.out;subst eo68)|(go_at_call 24;(with_reducible refine (changeforgeref5_Ints.calls k _ _ t142 _ _ y149 true _ ?side1 ?side2 ?side3 ?side4 A14.out).mono ?_);(case side1 => repeat (first|exact (Kd.R_reads' HO144.out).2.2|(with_reducible refine Kd.C_alloc ?_ _)|(with_reducible refine Kd.C_drewN ?_ _)|(with_reducible refine Kd.C_drew ?_)));(case side2 => exact (Kd.R_reads' HO144.out).2.1);(case side3 => repeat (first|exact (Kd.R_reads' HO151.out).2.2|(with_reducible refine Kd.C_alloc ?_ _)|(with_reducible refine Kd.C_drewN ?_ _)|(with_reducible refine Kd.C_drew ?_)));(case side4 => exact (Kd.R_reads' HO151.out).2.1);rintro e w' ⟨rfl,⟨nd,rfl⟩⟩)|((with_reducible refine gate_dst (N:=71) rfl ?_);(try (refine gate_guard (by rfl) ?_;dsimp only));refine Kd.R_lit (Kd.int .i64) _ 3 ?hg (N:=71) ?hd (xs:=([5,5] : List Int)) (inner:=[.int .i64 5,.int .i64 5]) (ok:=fun _ => True) (okp:=fun _ => True) ?hr ?hp (fun _ hk => hk) trivial (Below.refl _ _) (Nat.le_refl _) (by simp) ?_;(case hd => rfl);(case hg => rfl);(case hr => first|(go_simp;done)|(go_simp;rfl));(case hp => exact (Reps.one (show Kd.M (Kd.int .i64) _ _ _ 5 [.int .i64 5] from rfl) (Reps.one (show Kd.M (Kd.int .i64) _ _ _ 5 [.int .i64 5] from rfl) (Reps.none _ _))));intro v154 w69 ho70 hb hg_ hnew_;clear hg_ hnew_;(first|rw [← Ny153.out] at ho70|(simp only [Int.reduceToNat] at ho70;rw [← Ny153.out] at ho70));have n0_:=Aside0.mk (Kd.R_lower ho70 (below_size (by repeat (first|(with_reducible first|exact HB.out|apply below_alloc|apply pw_below_drewN|apply below_drew1|refine below_set ?_ GE116.out|refine below_set ?_ GE131.out|refine below_set ?_ GE147.out)|exact HB.out))));have n1_:=Aside0.mk (blk_below (g:=gb116) (o:=.cells #[.int .i64 t114,.int .i64 t115] 26 (0,0)) (by (with_reducible repeat (first|refine blk_drewN ?_ _|refine blk_drew ?_|refine blk_alloc ?_ _));exact BK116.out) hb);have n2_:=Aside0.mk (blk_below (g:=gb131) (o:=.cells #[.int .i64 t129,.int .i64 t130] 26 (0,0)) (by (with_reducible repeat (first|refine blk_drewN ?_ _|refine blk_drew ?_|refine blk_alloc ?_ _));exact BK131.out) hb);have n3_:=Aside0.mk (blk_below (g:=gb147) (o:=.cells #[.int .i64 t145,.int .i64 t146] 26 (0,0)) (by (with_reducible repeat (first|refine blk_drewN ?_ _|refine blk_drew ?_|refine blk_alloc ?_ _));exact BK147.out) hb);have n4_:=Aside0.mk (below_step (by repeat (first|(with_reducible first|exact HB.out|apply below_alloc|apply pw_below_drewN|apply below_drew1|refine below_set ?_ GE116.out|refine below_set ?_ GE131.out|refine below_set ?_ GE147.out)|exact HB.out)) hb);clear BK116;clear BK131;clear BK147;clear HB;have HO155:=n0_;have BK116:=n1_;have BK131:=n2_;have BK147:=n3_;have HB:=n4_;clear n0_ n1_ n2_ n3_ n4_;clear hb ho70;obtain ⟨Ao71,co71,eo71⟩:=Kd.R_slice HO155.out;subst eo71)|(go_at_call 27;(with_reducible refine (threshold_Validate.calls k _ _ y153 1 t156 t157 _ ?side1 ?side2 A16.out).mono ?_);(case side1 => repeat (first|exact (Kd.R_reads' HO155.out).2.2|(with_reducible refine Kd.C_alloc ?_ _)|(with_reducible refine Kd.C_drewN ?_ _)|(with_reducible refine Kd.C_drew ?_)));(case side2 => exact (Kd.R_reads' HO155.out).2.1);rintro e w72 ⟨rfl,hb⟩;have n0_:=Aside0.mk (Kd.R_below (by (with_reducible repeat (first|apply Kd.R_alloc|apply Kd.R_drewN|apply Kd.R_drew));exact HO155.out) hb);have n1_:=Aside0.mk (blk_below (g:=gb116) (o:=.cells #[.int .i64 t114,.int .i64 t115] 26 (0,0)) (by (with_reducible repeat (first|refine blk_drewN ?_ _|refine blk_drew ?_|refine blk_alloc ?_ _));exact BK116.out) hb);have n2_:=Aside0.mk (blk_below (g:=gb131) (o:=.cells #[.int .i64 t129,.int .i64 t130] 26 (0,0)) (by (with_reducible repeat (first|refine blk_drewN ?_ _|refine blk_drew ?_|refine blk_alloc ?_ _));exact BK131.out) hb);have n3_:=Aside0.mk (blk_below (g:=gb147) (o:=.cells #[.int .i64 t145,.int .i64 t146] 26 (0,0)) (by (with_reducible repeat (first|refine blk_drewN ?_ _|refine blk_drew ?_|refine blk_alloc ?_ _));exact BK147.out) hb);have n4_:=Aside0.mk (below_step (by repeat (first|(with_reducible first|exact HB.out|apply below_alloc|apply pw_below_drewN|apply below_drew1|refine below_set ?_ GE116.out|refine below_set ?_ GE131.out|refine below_set ?_ GE147.out)|exact HB.out)) hb);clear HO155;clear BK116;clear BK131;clear BK147;clear HB;have HO155:=n0_;have BK116:=n1_;have BK131:=n2_;have BK147:=n3_;have HB:=n4_;clear n0_ n1_ n2_ n3_ n4_;(try clear hb);(try clear hb2);(try clear hk);(try clear hi))|(go_at_call 21;(with_reducible refine (changeforgelaw5_fault.calls 5 1 t158 t159 _ A17.out).mono ?_);rintro e w73 ⟨rfl,hb⟩;have n0_:=Aside0.mk (blk_below (g:=gb116) (o:=.cells #[.int .i64 t114,.int .i64 t115] 26 (0,0)) (by (with_reducible repeat (first|refine blk_drewN ?_ _|refine blk_drew ?_|refine blk_alloc ?_ _));exact BK116.out) hb);have n1_:=Aside0.mk (blk_below (g:=gb131) (o:=.cells #[.int .i64 t129,.int .i64 t130] 26 (0,0)) (by (with_reducible repeat (first|refine blk_drewN ?_ _|refine blk_drew ?_|refine blk_alloc ?_ _));exact BK131.out) hb);have n2_:=Aside0.mk (blk_below (g:=gb147) (o:=.cells #[.int .i64 t145,.int .i64 t146] 26 (0,0)) (by (with_reducible repeat (first|refine blk_drewN ?_ _|refine blk_drew ?_|refine blk_alloc ?_ _));exact BK147.out) hb);have n3_:=Aside0.mk (below_step (by repeat (first|(with_reducible first|exact HB.out|apply below_alloc|apply pw_below_drewN|apply below_drew1|refine below_set ?_ GE116.out|refine below_set ?_ GE131.out|refine below_set ?_ GE147.out)|exact HB.out)) hb);clear BK116;clear BK131;clear BK147;clear HB;have BK116:=n0_;have BK131:=n1_;have BK147:=n2_;have HB:=n3_;clear n0_ n1_ n2_ n3_;(try clear hb);(try clear hb2);(try clear hk);(try clear hi)))
          all_goals (go_ret;exact ⟨by first|rfl|(simp [errW_none,errW_some] <;> rfl)|(simp [*,errW_none,errW_some] <;> rfl),by repeat (first|(with_reducible first|exact HB.out|apply below_alloc|apply pw_below_drewN|apply below_drew1|refine below_set ?_ GE116.out|refine below_set ?_ GE131.out|refine below_set ?_ GE147.out)|exact HB.out)⟩)
         ·replace c15:=Bool.eq_false_iff.mpr c15
          subst c15
          have H1 : (none) = some r:=by rw [if_neg (show ¬ (false = true) by decide)] at H;exact H
          clear H
          have H:=H1
          clear H1
          exact absurd H (by simp)
       ·replace c12:=Bool.eq_false_iff.mpr c12
        subst c12
        have H1 : (none) = some r:=by rw [if_neg (show ¬ (false = true) by decide)] at H;exact H
        clear H
        have H:=H1
        clear H1
        exact absurd H (by simp)
      ·rw [if_neg c11] at H
       exact absurd H (by simp)
     ·rw [if_neg c10] at H
      exact absurd H (by simp)
    ·rw [if_neg c9] at H
     exact absurd H (by simp)
   ·replace c8:=Bool.eq_false_iff.mpr c8
    subst c8
    have H1 : (none) = some r:=by rw [if_neg (show ¬ (false = true) by decide)] at H;exact H
    clear H
    have H:=H1
    clear H1
    exact absurd H (by simp)
  ·rw [if_neg c5] at H
   exact absurd H (by simp)
 ·rw [if_neg c3] at H
  exact absurd H (by simp)

def changeforgelaw5_accepts.f : Option (Bool):=some true
theorem changeforgelaw5_accepts.ev : Ev (fun k => changeforgelaw5_acceptsx.f k) true:=by
 unfold changeforgelaw5_acceptsx.f
 have hb : Pure.isByte [97]:=by
  intro x hx
  rw [List.mem_singleton] at hx
  subst hx
  exact ⟨by decide,by decide⟩
 refine Pure.ev_bind (Pure.two_ev [97] hb (by decide)) ?_
 refine Pure.ev_bind (Pure.pAccept_ev [5,7] 2 [97] _ hb) ?_
 refine Pure.ev_if_pos (by simp) ?_
 refine Pure.ev_bind (Pure.pAccept_ev [5,7] 2 [97] _ hb) ?_
 refine Pure.ev_if_pos (by simp) ?_
 refine Pure.ev_bind (Pure.pSigners_ev [5,7] [97] _ hb) ?_
 refine Pure.ev_bind Pure.signs_ev ?_
 have e1 : Pure.acceptRes [5,7] 2 [97] [{ f0:=5,f1:=Pure.sgn 5 [97] },{ f0:=7,f1:=Pure.sgn 7 [97] }] = (true,0,0):=by decide
 have e2 : Pure.acceptRes [5,7] 2 [97] [{ f0:=5,f1:=Pure.sgn 5 [97] },{ f0:=5,f1:=Pure.sgn 5 [97] }] = (false,0,0):=by decide
 have e3 : Pure.signersRes [5,7] [97] (List.drop 1 [{ f0:=5,f1:=Pure.sgn 5 [97] },{ f0:=7,f1:=Pure.sgn 7 [97] }]) = ([7],0,0):=by decide
 have e4 : (rd_T54 [{ f0:=5,f1:=Pure.sgn 5 [97] },{ f0:=7,f1:=Pure.sgn 7 [97] }] 0) = { f0:=5,f1:=Pure.sgn 5 [97] }:=rfl
 rw [e4]
 rw [e1,e2,e3]
 refine Pure.ev_if_pos rfl (Pure.ev_if_pos rfl (Pure.ev_if_pos rfl (Pure.ev_if_pos rfl (Pure.ev_if_pos rfl (Pure.ev_if_neg (by decide) ?_)))))
 refine Pure.ev_bind (Pure.rInts_ev [7] [7] (by decide)) ?_
 refine Pure.ev_if_pos (by decide) ?_
 refine Pure.ev_bind (Pure.pThr_ev [5,5] 1) ?_
 simp only [changeforgelaw5_fault.f,Option.bind_some]
 exact Pure.ev_now fun k => by decide
theorem changeforgelaw5_accepts.calls (r : Bool) (w : World) (h : changeforgelaw5_accepts.f = some r) :
  Calls Try.prog 26 #[] w fun e w' => e = .returned (.bool r) ∧ Below w.heap.size w w':=by
 obtain rfl:=Option.some.inj h
 obtain ⟨k,hk⟩:=Pure.ev_total changeforgelaw5_accepts.ev
 exact changeforgelaw5_acceptsx.calls k true w hk

end Go.Proofs.Ytmpboljmigigfaa.Fn
