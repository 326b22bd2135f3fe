/- A function of the program as a plain Lean function, and the proof that the call comes to just what it says (written by wip/tools/xprint.py for this claim). Condition: the plain function has an answer. -/
import Derived.Test.YtmcpcdnnnnhogaaFn0
import Derived.Test.YtmcpcdnnnnhogaaFf10
import Derived.Test.YtmcpcdnnnnhogaaFf11
import Derived.Test.YtmcpcdnnnnhogaaFf12
import Derived.Test.YtmcpcdnnnnhogaaFf13
import Derived.Test.YtmcpcdnnnnhogaaFf16
import Derived.Test.YtmcpcdnnnnhogaaFf18
import Derived.Test.YtmcpcdnnnnhogaaFf19
import Derived.Test.YtmcpcdnnnnhogaaFf20
import Derived.Test.YtmcpcdnnnnhogaaFs0
import Derived.Test.YtmcpcdnnnnhogaaWA
import Derived.Test.YtmcpcdnnnnhogaaTight
namespace Go.Proofs.Ytmcpcdnnnnhogaa.Fn
open Go.RowKit Go.Proofs.YtmcpcdnnnnhogaaW.PrintWords Go.Proofs.YtmcpcdnnnnhogaaW.PrintLast Go.Proofs.YtmcpcdnnnnhogaaW.PrintMore
attribute [local go_sem] max2_int min2_int max_two min_two max_three min_three max_four min_four   -- for this text's walks alone
set_option linter.unusedVariables false
set_option linter.unusedSimpArgs false

attribute [local go_sem high] eqA24
/-! ### changeforgelaw5_TranslogMatchesSpec: function 3 -/
mutual
def changeforgelaw5_TranslogMatchesSpec.j0 : Nat → List Int → Int → Int → Bool → Int → Int → Option (Bool)
 | 0,_,_,_,_,_,_ => none
 | k + 1,x0,x1,x2,x45,x104000,x104001 => if x45 = true then (none) else (if x104000 = 0 then ((changeforgelaw5_in.f x1 0 (wrap64 ((x0.length : Int) - 1))).bind fun t111 => (changeforgelaw5_TranslogMatchesSpec.j1 k x0 x1 x2 (!t111) x104000 x104001 x104000 x104001)) else (changeforgelaw5_TranslogMatchesSpec.j1 k x0 x1 x2 false x104000 x104001 x104000 x104001))
def changeforgelaw5_TranslogMatchesSpec.j1 : Nat → List Int → Int → Int → Bool → Int → Int → Int → Int → Option (Bool)
 | 0,_,_,_,_,_,_,_,_ => none
 | k + 1,x0,x1,x2,x57,x104000,x104001,x111000,x111001 => if x57 = true then ((changeforgelaw5_fault.f 3 (-1)).bind fun bt112 => (changeforgelaw5_TranslogMatchesSpec.j2 k x0 x1 x2 x104000 x104001 bt112.1 bt112.2)) else (changeforgelaw5_TranslogMatchesSpec.j2 k x0 x1 x2 x104000 x104001 x111000 x111001)
def changeforgelaw5_TranslogMatchesSpec.j2 : Nat → List Int → Int → Int → Int → Int → Int → Int → Option (Bool)
 | 0,_,_,_,_,_,_,_ => none
 | k + 1,x0,x1,x2,x104000,x104001,x111000,x111001 => (translog_Prove.f k x0 x1).bind fun bt114 => (if (!(bt114.2.1 == x111000) || (!(bt114.2.2 == x111001))) = true then (changeforgelaw5_TranslogMatchesSpec.j3 k x0 x2 true x104000 x104001) else (if x111000 = 0 then ((changeforgeref5_LogProof.f k x0 x1).bind fun t119 => ((changeforgeref5_Ints.f k bt114.1 t119).bind fun t122 => (changeforgelaw5_TranslogMatchesSpec.j3 k x0 x2 (!t122) x104000 x104001))) else (if (bt114.1.length : Int) > 0 then (changeforgelaw5_TranslogMatchesSpec.j3 k x0 x2 true x104000 x104001) else (changeforgelaw5_TranslogMatchesSpec.j3 k x0 x2 false x104000 x104001))))
def changeforgelaw5_TranslogMatchesSpec.j3 : Nat → List Int → Int → Bool → Int → Int → Option (Bool)
 | 0,_,_,_,_,_ => none
 | k + 1,x0,x2,x90,x104000,x104001 => if x90 = true then (none) else (if x104000 = 0 then ((changeforgelaw5_in.f x2 1 (x0.length : Int)).bind fun t123 => (changeforgelaw5_TranslogMatchesSpec.j4 k x0 x2 (!t123) x104000 x104001)) else (changeforgelaw5_TranslogMatchesSpec.j4 k x0 x2 false x104000 x104001))
def changeforgelaw5_TranslogMatchesSpec.j4 : Nat → List Int → Int → Bool → Int → Int → Option (Bool)
 | 0,_,_,_,_,_ => none
 | k + 1,x0,x2,x101,x111000,x111001 => if x101 = true then ((changeforgelaw5_fault.f 3 (-1)).bind fun bt124 => (changeforgelaw5_TranslogMatchesSpec.j5 k x0 x2 bt124.1 bt124.2)) else (changeforgelaw5_TranslogMatchesSpec.j5 k x0 x2 x111000 x111001)
def changeforgelaw5_TranslogMatchesSpec.j5 : Nat → List Int → Int → Int → Int → Option (Bool)
 | 0,_,_,_,_ => none
 | k + 1,x0,x2,x111000,x111001 => (translog_ProveConsistency.f k x0 x2).bind fun bt126 => (if (bt126.2.1 == x111000 && (bt126.2.2 == x111001)) = true then (if x111000 = 0 then ((changeforgeref5_LogContinues.f k x0 x2).bind fun t131 => ((changeforgeref5_Ints.f k bt126.1 t131).bind fun t134 => (some t134))) else (if (bt126.1.length : Int) = 0 then (some true) else (none))) else (none))
end
def changeforgelaw5_TranslogMatchesSpec.f (k : Nat) (l0 : List Int) (a1 : Int) (a2 : Int) : Option (Bool):=(changeforgeref5_LeavesFault.f k l0).bind fun bt101 => ((translog_Root.f k l0).bind fun bt104 => ((changeforgelaw5_logs.f k).bind fun t108 => (if t108 = true then (if (!(bt104.2.1 == bt101.1) || (!(bt104.2.2 == bt101.2))) = true then (changeforgelaw5_TranslogMatchesSpec.j0 k l0 a1 a2 true bt101.1 bt101.2) else (if bt101.1 = 0 then ((changeforgeref5_LogRoot.f k l0).bind fun t109 => (changeforgelaw5_TranslogMatchesSpec.j0 k l0 a1 a2 (bt104.1 != t109) bt101.1 bt101.2)) else (if bt104.1 = 0 then (changeforgelaw5_TranslogMatchesSpec.j0 k l0 a1 a2 false bt101.1 bt101.2) else (changeforgelaw5_TranslogMatchesSpec.j0 k l0 a1 a2 true bt101.1 bt101.2)))) else (changeforgelaw5_TranslogMatchesSpec.j0 k l0 a1 a2 true bt101.1 bt101.2))))
theorem changeforgelaw5_TranslogMatchesSpec.mono_l : ∀ k,(∀ y0 y1 y2 y3 y4 y5,LeO (changeforgelaw5_TranslogMatchesSpec.j0 k y0 y1 y2 y3 y4 y5) (changeforgelaw5_TranslogMatchesSpec.j0 (k + 1) y0 y1 y2 y3 y4 y5)) ∧ (∀ y0 y1 y2 y3 y4 y5 y6 y7,LeO (changeforgelaw5_TranslogMatchesSpec.j1 k y0 y1 y2 y3 y4 y5 y6 y7) (changeforgelaw5_TranslogMatchesSpec.j1 (k + 1) y0 y1 y2 y3 y4 y5 y6 y7)) ∧ (∀ y0 y1 y2 y3 y4 y5 y6,LeO (changeforgelaw5_TranslogMatchesSpec.j2 k y0 y1 y2 y3 y4 y5 y6) (changeforgelaw5_TranslogMatchesSpec.j2 (k + 1) y0 y1 y2 y3 y4 y5 y6)) ∧ (∀ y0 y1 y2 y3 y4,LeO (changeforgelaw5_TranslogMatchesSpec.j3 k y0 y1 y2 y3 y4) (changeforgelaw5_TranslogMatchesSpec.j3 (k + 1) y0 y1 y2 y3 y4)) ∧ (∀ y0 y1 y2 y3 y4,LeO (changeforgelaw5_TranslogMatchesSpec.j4 k y0 y1 y2 y3 y4) (changeforgelaw5_TranslogMatchesSpec.j4 (k + 1) y0 y1 y2 y3 y4)) ∧ (∀ y0 y1 y2 y3,LeO (changeforgelaw5_TranslogMatchesSpec.j5 k y0 y1 y2 y3) (changeforgelaw5_TranslogMatchesSpec.j5 (k + 1) y0 y1 y2 y3))
 | 0 => ⟨fun _ _ _ _ _ _ r h => by simp [changeforgelaw5_TranslogMatchesSpec.j0] at h,fun _ _ _ _ _ _ _ _ r h => by simp [changeforgelaw5_TranslogMatchesSpec.j1] at h,fun _ _ _ _ _ _ _ r h => by simp [changeforgelaw5_TranslogMatchesSpec.j2] at h,fun _ _ _ _ _ r h => by simp [changeforgelaw5_TranslogMatchesSpec.j3] at h,fun _ _ _ _ _ r h => by simp [changeforgelaw5_TranslogMatchesSpec.j4] at h,fun _ _ _ _ r h => by simp [changeforgelaw5_TranslogMatchesSpec.j5] at h⟩
 | k + 1 => by
  obtain ⟨ih0,ih1,ih2,ih3,ih4,ih5⟩:=changeforgelaw5_TranslogMatchesSpec.mono_l k;refine ⟨?_,?_,?_,?_,?_,?_⟩
  ·intro y0 y1 y2 y3 y4 y5
   unfold changeforgelaw5_TranslogMatchesSpec.j0;repeat' first
   | (with_reducible exact ih0 _ _ _ _ _ _)
   | (with_reducible exact ih1 _ _ _ _ _ _ _ _)
   | (with_reducible exact ih2 _ _ _ _ _ _ _)
   | (with_reducible exact ih3 _ _ _ _ _)
   | (with_reducible exact ih4 _ _ _ _ _)
   | (with_reducible exact ih5 _ _ _ _)
   | (with_reducible exact changeforgelaw5_logs.mono _)
   | (with_reducible exact changeforgeref5_Ints.mono _ _ _)
   | (with_reducible exact changeforgeref5_LeavesFault.mono _ _)
   | (with_reducible exact changeforgeref5_LogContinues.mono _ _ _)
   | (with_reducible exact changeforgeref5_LogProof.mono _ _ _)
   | (with_reducible exact changeforgeref5_LogRoot.mono _ _)
   | (with_reducible exact translog_Prove.mono _ _ _)
   | (with_reducible exact translog_ProveConsistency.mono _ _ _)
   | (with_reducible exact translog_Root.mono _ _)
   | (with_reducible exact LeO.refl _)
   | (with_reducible exact LeO.none _)
   | (with_reducible refine LeO.ite ?_ ?_)
   | (with_reducible refine LeO.bind ?_ (fun _ => ?_))
   | exact ih0 _ _ _ _ _ _
   | exact ih1 _ _ _ _ _ _ _ _
   | exact ih2 _ _ _ _ _ _ _
   | exact ih3 _ _ _ _ _
   | exact ih4 _ _ _ _ _
   | exact ih5 _ _ _ _
   | exact changeforgelaw5_logs.mono _
   | exact changeforgeref5_Ints.mono _ _ _
   | exact changeforgeref5_LeavesFault.mono _ _
   | exact changeforgeref5_LogContinues.mono _ _ _
   | exact changeforgeref5_LogProof.mono _ _ _
   | exact changeforgeref5_LogRoot.mono _ _
   | exact translog_Prove.mono _ _ _
   | exact translog_ProveConsistency.mono _ _ _
   | exact translog_Root.mono _ _
   | exact LeO.none _
   | refine LeO.ite ?_ ?_
   | refine LeO.bind ?_ (fun _ => ?_)
  ·intro y0 y1 y2 y3 y4 y5 y6 y7
   unfold changeforgelaw5_TranslogMatchesSpec.j1;repeat' first
   | (with_reducible exact ih0 _ _ _ _ _ _)
   | (with_reducible exact ih1 _ _ _ _ _ _ _ _)
   | (with_reducible exact ih2 _ _ _ _ _ _ _)
   | (with_reducible exact ih3 _ _ _ _ _)
   | (with_reducible exact ih4 _ _ _ _ _)
   | (with_reducible exact ih5 _ _ _ _)
   | (with_reducible exact changeforgelaw5_logs.mono _)
   | (with_reducible exact changeforgeref5_Ints.mono _ _ _)
   | (with_reducible exact changeforgeref5_LeavesFault.mono _ _)
   | (with_reducible exact changeforgeref5_LogContinues.mono _ _ _)
   | (with_reducible exact changeforgeref5_LogProof.mono _ _ _)
   | (with_reducible exact changeforgeref5_LogRoot.mono _ _)
   | (with_reducible exact translog_Prove.mono _ _ _)
   | (with_reducible exact translog_ProveConsistency.mono _ _ _)
   | (with_reducible exact translog_Root.mono _ _)
   | (with_reducible exact LeO.refl _)
   | (with_reducible exact LeO.none _)
   | (with_reducible refine LeO.ite ?_ ?_)
   | (with_reducible refine LeO.bind ?_ (fun _ => ?_))
   | exact ih0 _ _ _ _ _ _
   | exact ih1 _ _ _ _ _ _ _ _
   | exact ih2 _ _ _ _ _ _ _
   | exact ih3 _ _ _ _ _
   | exact ih4 _ _ _ _ _
   | exact ih5 _ _ _ _
   | exact changeforgelaw5_logs.mono _
   | exact changeforgeref5_Ints.mono _ _ _
   | exact changeforgeref5_LeavesFault.mono _ _
   | exact changeforgeref5_LogContinues.mono _ _ _
   | exact changeforgeref5_LogProof.mono _ _ _
   | exact changeforgeref5_LogRoot.mono _ _
   | exact translog_Prove.mono _ _ _
   | exact translog_ProveConsistency.mono _ _ _
   | exact translog_Root.mono _ _
   | exact LeO.none _
   | refine LeO.ite ?_ ?_
   | refine LeO.bind ?_ (fun _ => ?_)
  ·intro y0 y1 y2 y3 y4 y5 y6
   unfold changeforgelaw5_TranslogMatchesSpec.j2;repeat' first
   | (with_reducible exact ih0 _ _ _ _ _ _)
   | (with_reducible exact ih1 _ _ _ _ _ _ _ _)
   | (with_reducible exact ih2 _ _ _ _ _ _ _)
   | (with_reducible exact ih3 _ _ _ _ _)
   | (with_reducible exact ih4 _ _ _ _ _)
   | (with_reducible exact ih5 _ _ _ _)
   | (with_reducible exact changeforgelaw5_logs.mono _)
   | (with_reducible exact changeforgeref5_Ints.mono _ _ _)
   | (with_reducible exact changeforgeref5_LeavesFault.mono _ _)
   | (with_reducible exact changeforgeref5_LogContinues.mono _ _ _)
   | (with_reducible exact changeforgeref5_LogProof.mono _ _ _)
   | (with_reducible exact changeforgeref5_LogRoot.mono _ _)
   | (with_reducible exact translog_Prove.mono _ _ _)
   | (with_reducible exact translog_ProveConsistency.mono _ _ _)
   | (with_reducible exact translog_Root.mono _ _)
   | (with_reducible exact LeO.refl _)
   | (with_reducible exact LeO.none _)
   | (with_reducible refine LeO.ite ?_ ?_)
   | (with_reducible refine LeO.bind ?_ (fun _ => ?_))
   | exact ih0 _ _ _ _ _ _
   | exact ih1 _ _ _ _ _ _ _ _
   | exact ih2 _ _ _ _ _ _ _
   | exact ih3 _ _ _ _ _
   | exact ih4 _ _ _ _ _
   | exact ih5 _ _ _ _
   | exact changeforgelaw5_logs.mono _
   | exact changeforgeref5_Ints.mono _ _ _
   | exact changeforgeref5_LeavesFault.mono _ _
   | exact changeforgeref5_LogContinues.mono _ _ _
   | exact changeforgeref5_LogProof.mono _ _ _
   | exact changeforgeref5_LogRoot.mono _ _
   | exact translog_Prove.mono _ _ _
   | exact translog_ProveConsistency.mono _ _ _
   | exact translog_Root.mono _ _
   | exact LeO.none _
   | refine LeO.ite ?_ ?_
   | refine LeO.bind ?_ (fun _ => ?_)
  ·intro y0 y1 y2 y3 y4
   unfold changeforgelaw5_TranslogMatchesSpec.j3;repeat' first
   | (with_reducible exact ih0 _ _ _ _ _ _)
   | (with_reducible exact ih1 _ _ _ _ _ _ _ _)
   | (with_reducible exact ih2 _ _ _ _ _ _ _)
   | (with_reducible exact ih3 _ _ _ _ _)
   | (with_reducible exact ih4 _ _ _ _ _)
   | (with_reducible exact ih5 _ _ _ _)
   | (with_reducible exact changeforgelaw5_logs.mono _)
   | (with_reducible exact changeforgeref5_Ints.mono _ _ _)
   | (with_reducible exact changeforgeref5_LeavesFault.mono _ _)
   | (with_reducible exact changeforgeref5_LogContinues.mono _ _ _)
   | (with_reducible exact changeforgeref5_LogProof.mono _ _ _)
   | (with_reducible exact changeforgeref5_LogRoot.mono _ _)
   | (with_reducible exact translog_Prove.mono _ _ _)
   | (with_reducible exact translog_ProveConsistency.mono _ _ _)
   | (with_reducible exact translog_Root.mono _ _)
   | (with_reducible exact LeO.refl _)
   | (with_reducible exact LeO.none _)
   | (with_reducible refine LeO.ite ?_ ?_)
   | (with_reducible refine LeO.bind ?_ (fun _ => ?_))
   | exact ih0 _ _ _ _ _ _
   | exact ih1 _ _ _ _ _ _ _ _
   | exact ih2 _ _ _ _ _ _ _
   | exact ih3 _ _ _ _ _
   | exact ih4 _ _ _ _ _
   | exact ih5 _ _ _ _
   | exact changeforgelaw5_logs.mono _
   | exact changeforgeref5_Ints.mono _ _ _
   | exact changeforgeref5_LeavesFault.mono _ _
   | exact changeforgeref5_LogContinues.mono _ _ _
   | exact changeforgeref5_LogProof.mono _ _ _
   | exact changeforgeref5_LogRoot.mono _ _
   | exact translog_Prove.mono _ _ _
   | exact translog_ProveConsistency.mono _ _ _
   | exact translog_Root.mono _ _
   | exact LeO.none _
   | refine LeO.ite ?_ ?_
   | refine LeO.bind ?_ (fun _ => ?_)
  ·intro y0 y1 y2 y3 y4
   unfold changeforgelaw5_TranslogMatchesSpec.j4;repeat' first
   | (with_reducible exact ih0 _ _ _ _ _ _)
   | (with_reducible exact ih1 _ _ _ _ _ _ _ _)
   | (with_reducible exact ih2 _ _ _ _ _ _ _)
   | (with_reducible exact ih3 _ _ _ _ _)
   | (with_reducible exact ih4 _ _ _ _ _)
   | (with_reducible exact ih5 _ _ _ _)
   | (with_reducible exact changeforgelaw5_logs.mono _)
   | (with_reducible exact changeforgeref5_Ints.mono _ _ _)
   | (with_reducible exact changeforgeref5_LeavesFault.mono _ _)
   | (with_reducible exact changeforgeref5_LogContinues.mono _ _ _)
   | (with_reducible exact changeforgeref5_LogProof.mono _ _ _)
   | (with_reducible exact changeforgeref5_LogRoot.mono _ _)
   | (with_reducible exact translog_Prove.mono _ _ _)
   | (with_reducible exact translog_ProveConsistency.mono _ _ _)
   | (with_reducible exact translog_Root.mono _ _)
   | (with_reducible exact LeO.refl _)
   | (with_reducible exact LeO.none _)
   | (with_reducible refine LeO.ite ?_ ?_)
   | (with_reducible refine LeO.bind ?_ (fun _ => ?_))
   | exact ih0 _ _ _ _ _ _
   | exact ih1 _ _ _ _ _ _ _ _
   | exact ih2 _ _ _ _ _ _ _
   | exact ih3 _ _ _ _ _
   | exact ih4 _ _ _ _ _
   | exact ih5 _ _ _ _
   | exact changeforgelaw5_logs.mono _
   | exact changeforgeref5_Ints.mono _ _ _
   | exact changeforgeref5_LeavesFault.mono _ _
   | exact changeforgeref5_LogContinues.mono _ _ _
   | exact changeforgeref5_LogProof.mono _ _ _
   | exact changeforgeref5_LogRoot.mono _ _
   | exact translog_Prove.mono _ _ _
   | exact translog_ProveConsistency.mono _ _ _
   | exact translog_Root.mono _ _
   | exact LeO.none _
   | refine LeO.ite ?_ ?_
   | refine LeO.bind ?_ (fun _ => ?_)
  ·intro y0 y1 y2 y3
   unfold changeforgelaw5_TranslogMatchesSpec.j5;repeat' first
   | (with_reducible exact ih0 _ _ _ _ _ _)
   | (with_reducible exact ih1 _ _ _ _ _ _ _ _)
   | (with_reducible exact ih2 _ _ _ _ _ _ _)
   | (with_reducible exact ih3 _ _ _ _ _)
   | (with_reducible exact ih4 _ _ _ _ _)
   | (with_reducible exact ih5 _ _ _ _)
   | (with_reducible exact changeforgelaw5_logs.mono _)
   | (with_reducible exact changeforgeref5_Ints.mono _ _ _)
   | (with_reducible exact changeforgeref5_LeavesFault.mono _ _)
   | (with_reducible exact changeforgeref5_LogContinues.mono _ _ _)
   | (with_reducible exact changeforgeref5_LogProof.mono _ _ _)
   | (with_reducible exact changeforgeref5_LogRoot.mono _ _)
   | (with_reducible exact translog_Prove.mono _ _ _)
   | (with_reducible exact translog_ProveConsistency.mono _ _ _)
   | (with_reducible exact translog_Root.mono _ _)
   | (with_reducible exact LeO.refl _)
   | (with_reducible exact LeO.none _)
   | (with_reducible refine LeO.ite ?_ ?_)
   | (with_reducible refine LeO.bind ?_ (fun _ => ?_))
   | exact ih0 _ _ _ _ _ _
   | exact ih1 _ _ _ _ _ _ _ _
   | exact ih2 _ _ _ _ _ _ _
   | exact ih3 _ _ _ _ _
   | exact ih4 _ _ _ _ _
   | exact ih5 _ _ _ _
   | exact changeforgelaw5_logs.mono _
   | exact changeforgeref5_Ints.mono _ _ _
   | exact changeforgeref5_LeavesFault.mono _ _
   | exact changeforgeref5_LogContinues.mono _ _ _
   | exact changeforgeref5_LogProof.mono _ _ _
   | exact changeforgeref5_LogRoot.mono _ _
   | exact translog_Prove.mono _ _ _
   | exact translog_ProveConsistency.mono _ _ _
   | exact translog_Root.mono _ _
   | exact LeO.none _
   | refine LeO.ite ?_ ?_
   | refine LeO.bind ?_ (fun _ => ?_)
theorem changeforgelaw5_TranslogMatchesSpec.mono : ∀ a0 a1 a2 k,LeO (changeforgelaw5_TranslogMatchesSpec.f k a0 a1 a2) (changeforgelaw5_TranslogMatchesSpec.f (k + 1) a0 a1 a2):=by
 intro a0 a1 a2 k;obtain ⟨ih0,ih1,ih2,ih3,ih4,ih5⟩:=changeforgelaw5_TranslogMatchesSpec.mono_l k;unfold changeforgelaw5_TranslogMatchesSpec.f
 repeat' first
   | (with_reducible exact ih0 _ _ _ _ _ _)
   | (with_reducible exact ih1 _ _ _ _ _ _ _ _)
   | (with_reducible exact ih2 _ _ _ _ _ _ _)
   | (with_reducible exact ih3 _ _ _ _ _)
   | (with_reducible exact ih4 _ _ _ _ _)
   | (with_reducible exact ih5 _ _ _ _)
   | (with_reducible exact changeforgelaw5_logs.mono _)
   | (with_reducible exact changeforgeref5_Ints.mono _ _ _)
   | (with_reducible exact changeforgeref5_LeavesFault.mono _ _)
   | (with_reducible exact changeforgeref5_LogContinues.mono _ _ _)
   | (with_reducible exact changeforgeref5_LogProof.mono _ _ _)
   | (with_reducible exact changeforgeref5_LogRoot.mono _ _)
   | (with_reducible exact translog_Prove.mono _ _ _)
   | (with_reducible exact translog_ProveConsistency.mono _ _ _)
   | (with_reducible exact translog_Root.mono _ _)
   | (with_reducible exact LeO.refl _)
   | (with_reducible exact LeO.none _)
   | (with_reducible refine LeO.ite ?_ ?_)
   | (with_reducible refine LeO.bind ?_ (fun _ => ?_))
   | exact ih0 _ _ _ _ _ _
   | exact ih1 _ _ _ _ _ _ _ _
   | exact ih2 _ _ _ _ _ _ _
   | exact ih3 _ _ _ _ _
   | exact ih4 _ _ _ _ _
   | exact ih5 _ _ _ _
   | exact changeforgelaw5_logs.mono _
   | exact changeforgeref5_Ints.mono _ _ _
   | exact changeforgeref5_LeavesFault.mono _ _
   | exact changeforgeref5_LogContinues.mono _ _ _
   | exact changeforgeref5_LogProof.mono _ _ _
   | exact changeforgeref5_LogRoot.mono _ _
   | exact translog_Prove.mono _ _ _
   | exact translog_ProveConsistency.mono _ _ _
   | exact translog_Root.mono _ _
   | exact LeO.none _
   | refine LeO.ite ?_ ?_
   | refine LeO.bind ?_ (fun _ => ?_)
set_option maxHeartbeats 8000000 in
set_option maxRecDepth 100000 in
theorem changeforgelaw5_TranslogMatchesSpec.calls (k : Nat) (A0 : Option Addr) (c0 : Nat) (l0 : List Int) (a1 : Int) (a2 : Int) (r : Bool) (w : World) (hr0 : Kd.C (Kd.int .i64) w A0 l0.length l0) (hc0 : l0.length ≤ c0) (h : changeforgelaw5_TranslogMatchesSpec.f k l0 a1 a2 = some r) :
  Calls Try.prog 3 #[.slice A0 l0.length c0,.int .i64 a1,.int .i64 a2] w fun e w' => e = .returned (.bool r) ∧ Below w.heap.size w w':=by
 have hu24:=Try.underlying24;have HR0:=Aside0.mk hr0;have HC0:=Aside0.mk hc0;clear hr0 hc0;have HB:=Aside0.mk (Below.refl w.heap.size w);have H : ((changeforgeref5_LeavesFault.f k l0).bind fun bt101 => ((translog_Root.f k l0).bind fun bt104 => ((changeforgelaw5_logs.f k).bind fun t108 => (if t108 = true then (if (!(bt104.2.1 == bt101.1) || (!(bt104.2.2 == bt101.2))) = true then (changeforgelaw5_TranslogMatchesSpec.j0 k l0 a1 a2 true bt101.1 bt101.2) else (if bt101.1 = 0 then ((changeforgeref5_LogRoot.f k l0).bind fun t109 => (changeforgelaw5_TranslogMatchesSpec.j0 k l0 a1 a2 (bt104.1 != t109) bt101.1 bt101.2)) else (if bt104.1 = 0 then (changeforgelaw5_TranslogMatchesSpec.j0 k l0 a1 a2 false bt101.1 bt101.2) else (changeforgelaw5_TranslogMatchesSpec.j0 k l0 a1 a2 true bt101.1 bt101.2)))) else (changeforgelaw5_TranslogMatchesSpec.j0 k l0 a1 a2 true bt101.1 bt101.2))))) = some r:=h;clear h;replace H:=Option.bind_eq_some_iff.mp H;obtain ⟨⟨t101,t102⟩,A40,H⟩:=H;replace H : ((translog_Root.f k l0).bind fun bt104 => ((changeforgelaw5_logs.f k).bind fun t108 => (if t108 = true then (if (!(bt104.2.1 == t101) || (!(bt104.2.2 == t102))) = true then (changeforgelaw5_TranslogMatchesSpec.j0 k l0 a1 a2 true t101 t102) else (if t101 = 0 then ((changeforgeref5_LogRoot.f k l0).bind fun t109 => (changeforgelaw5_TranslogMatchesSpec.j0 k l0 a1 a2 (bt104.1 != t109) t101 t102)) else (if bt104.1 = 0 then (changeforgelaw5_TranslogMatchesSpec.j0 k l0 a1 a2 false t101 t102) else (changeforgelaw5_TranslogMatchesSpec.j0 k l0 a1 a2 true t101 t102)))) else (changeforgelaw5_TranslogMatchesSpec.j0 k l0 a1 a2 true t101 t102)))) = some r:=H;have A4:=Aside0.mk A40;clear A40;replace H:=Option.bind_eq_some_iff.mp H;obtain ⟨⟨t104,t105,t106⟩,A50,H⟩:=H;replace H : ((changeforgelaw5_logs.f k).bind fun t108 => (if t108 = true then (if (!(t105 == t101) || (!(t106 == t102))) = true then (changeforgelaw5_TranslogMatchesSpec.j0 k l0 a1 a2 true t101 t102) else (if t101 = 0 then ((changeforgeref5_LogRoot.f k l0).bind fun t109 => (changeforgelaw5_TranslogMatchesSpec.j0 k l0 a1 a2 (t104 != t109) t101 t102)) else (if t104 = 0 then (changeforgelaw5_TranslogMatchesSpec.j0 k l0 a1 a2 false t101 t102) else (changeforgelaw5_TranslogMatchesSpec.j0 k l0 a1 a2 true t101 t102)))) else (changeforgelaw5_TranslogMatchesSpec.j0 k l0 a1 a2 true t101 t102))) = some r:=H;have A5:=Aside0.mk A50;clear A50;have HC6:=Aside0.mk H;clear H;go_enter Try.func3,Try.ntmps3;go_upto_region 3 with (first|((with_reducible refine gate_callee (f:=10) rfl ?_);refine goesL_ (some 13) rfl rfl Try.func10 (by kernel_rfl) rfl #[.slice A0 l0.length c0] rfl ln_ ?_;(with_reducible refine (changeforgeref5_LeavesFault.calls k _ _ l0 t101 t102 _ ?side1 ?side2 A4.out).mono ?_);(case side1 => first|exact HR0.out|exact Kd.C_mv HR0.out);(case side2 => exact HC0.out);rintro e w7 ⟨rfl,hb⟩;refine ⟨_,rfl,?_⟩;replace HB:=Aside0.mk (below_step bel_ hb);(try clear hb);(try clear hb2);(try clear hk);(try clear hi))|((with_reducible refine gate_dst (N:=7) rfl ?_);(try (refine gate_guard (by rfl) ?_;dsimp only));refine box_event ?hg (N:=7) ?hd (cs:=#[.int .i64 0,.int .i64 0]) (t:=24) ?hr ?_;(case hd => rfl);(case hg => rfl);(case hr => first|(go_simp;done)|(go_simp;rfl));intro gb103 hg w8 hbox hb;have BK103:=Aside0.mk (hbox);have GW103:=Aside0.mk ((bs_ : w.heap.size ≤ gb103));have GE103:=Aside0.mk ((bs_ : w.heap.size ≤ gb103));replace HB:=Aside0.mk (below_step bel_ hb);clear hb hbox hg;have hcz9_0:=blk_c (v:=.int .i64 0) BK103.out 0 rfl;have hcz9_1:=blk_c (v:=.int .i64 0) BK103.out 1 rfl;have hfz9_0:=blk_frozen BK103.out 0;have hfz9_1:=blk_frozen BK103.out 1)|((with_reducible refine gate_callee (f:=11) rfl ?_);refine goesL_ (some 16) rfl rfl Try.func11 (by kernel_rfl) rfl #[.slice A0 l0.length c0] rfl ln_ ?_;(with_reducible refine (translog_Root.calls k _ _ l0 t104 t105 t106 _ ?side1 ?side2 A5.out).mono ?_);(case side1 => exact Kd.C_below HR0.out bel_);(case side2 => exact HC0.out);rintro e w10 ⟨rfl,hb⟩;refine ⟨_,rfl,?_⟩;replace BK103:=Aside0.mk (blk_below (g:=gb103) (o:=.cells #[.int .i64 t101,.int .i64 t102] 24 (0,0)) (by refine blk_mv ?_;refine blk_put (cs:=#[.int .i64 t101,.int .i64 0]) ?_ 1 _ rfl;refine blk_mv ?_;refine blk_put (cs:=#[.int .i64 0,.int .i64 0]) ?_ 0 _ rfl;refine blk_mv ?_;exact BK103.out) hb);replace HB:=Aside0.mk (below_step bel_ hb);(try clear hb);(try clear hb2);(try clear hk);(try clear hi))|((with_reducible refine gate_dst (N:=9) rfl ?_);(try (refine gate_guard (by rfl) ?_;dsimp only));refine box_event ?hg (N:=9) ?hd (cs:=#[.int .i64 0,.int .i64 0]) (t:=24) ?hr ?_;(case hd => rfl);(case hg => rfl);(case hr => first|(go_simp;done)|(go_simp;rfl));intro gb107 hg w11 hbox hb;have BK107:=Aside0.mk (hbox);have GW107:=Aside0.mk ((bs_ : w.heap.size ≤ gb107));have GE107:=Aside0.mk ((bs_ : w.heap.size ≤ gb107));replace HB:=Aside0.mk (below_step bel_ hb);have NB103_107:=Aside0.mk ((by rw [hg];exact Nat.ne_of_lt (blk_lt (g:=gb103) (o:=.cells #[.int .i64 t101,.int .i64 t102] 24 (0,0)) (blk_mv BK103.out)) : gb103 ≠ gb107));have NB107_103:=Aside0.mk ((by rw [hg];exact Nat.ne_of_gt (blk_lt (g:=gb103) (o:=.cells #[.int .i64 t101,.int .i64 t102] 24 (0,0)) (blk_mv BK103.out)) : gb107 ≠ gb103));replace BK103:=Aside0.mk (blk_below (blk_mv BK103.out) hb);clear hb hbox hg;have hnb12:=NB107_103.out;have hnc12:=NB103_107.out;have hcz13_0:=blk_c (v:=.int .i64 0) BK107.out 0 rfl;have hcz13_1:=blk_c (v:=.int .i64 0) BK107.out 1 rfl;have hfz13_0:=blk_frozen BK107.out 0;have hfz13_1:=blk_frozen BK107.out 1));(try simp only [Act.put,sa_,sb_,sc_]);go_cut [45] (fun v45 wc => ∃ (kq : Nat) (x45_5 : Bool),v45 = .bool x45_5 ∧ Aside0 (changeforgelaw5_TranslogMatchesSpec.j0 kq l0 a1 a2 x45_5 t101 t102 = some r) ∧ Aside0 (kq ≤ k) ∧ Aside0 (wc.heap[gb103]? = some (.cells #[.int .i64 t101,.int .i64 t102] 24 (0,0))) ∧ Aside0 (wc.heap[gb107]? = some (.cells #[.int .i64 t105,.int .i64 t106] 24 (0,0))) ∧ Aside0 (Below w.heap.size w wc))
 case first =>
  have H:=HC6.out;clear HC6;replace H:=Option.bind_eq_some_iff.mp H;obtain ⟨t108,A140,H⟩:=H;replace H : (if t108 = true then (if (!(t105 == t101) || (!(t106 == t102))) = true then (changeforgelaw5_TranslogMatchesSpec.j0 k l0 a1 a2 true t101 t102) else (if t101 = 0 then ((changeforgeref5_LogRoot.f k l0).bind fun t109 => (changeforgelaw5_TranslogMatchesSpec.j0 k l0 a1 a2 (t104 != t109) t101 t102)) else (if t104 = 0 then (changeforgelaw5_TranslogMatchesSpec.j0 k l0 a1 a2 false t101 t102) else (changeforgelaw5_TranslogMatchesSpec.j0 k l0 a1 a2 true t101 t102)))) else (changeforgelaw5_TranslogMatchesSpec.j0 k l0 a1 a2 true t101 t102)) = some r:=H;have A14:=Aside0.mk A140;clear A140;by_cases c15 : t108 = true
  ·subst c15
   have H1 : (if (!(t105 == t101) || (!(t106 == t102))) = true then (changeforgelaw5_TranslogMatchesSpec.j0 k l0 a1 a2 true t101 t102) else (if t101 = 0 then ((changeforgeref5_LogRoot.f k l0).bind fun t109 => (changeforgelaw5_TranslogMatchesSpec.j0 k l0 a1 a2 (t104 != t109) t101 t102)) else (if t104 = 0 then (changeforgelaw5_TranslogMatchesSpec.j0 k l0 a1 a2 false t101 t102) else (changeforgelaw5_TranslogMatchesSpec.j0 k l0 a1 a2 true t101 t102)))) = some r:=by rw [if_pos rfl] at H;exact H
   clear H;have H:=H1;clear H1;by_cases c16 : (!(t105 == t101) || (!(t106 == t102))) = true
   ·rw [if_pos c16] at H
    have c16b0 : (!(t105 == t101) || (!(t106 == t102))) = true:=c16;clear c16;(first|rw [c16b0]|(simp only [i64_w,i32_w];rw [c16b0])|skip);have H':=Aside0.mk H;clear H;go_wp2_with (first|((with_reducible refine gate_callee (f:=12) rfl ?_);refine goesL_ (some 19) rfl rfl Try.func12 (by kernel_rfl) rfl #[] rfl ln_ ?_;(with_reducible refine (changeforgelaw5_logs.calls k  true _ A14.out).mono ?_);rintro e w17 ⟨rfl,hb⟩;refine ⟨_,rfl,?_⟩;replace BK103:=Aside0.mk (blk_below (g:=gb103) (o:=.cells #[.int .i64 t101,.int .i64 t102] 24 (0,0)) (by refine blk_mv ?_;refine blk_far ?_ NB103_107.out _;refine blk_mv ?_;refine blk_far ?_ NB103_107.out _;refine blk_mv ?_;exact BK103.out) hb);replace BK107:=Aside0.mk (blk_below (g:=gb107) (o:=.cells #[.int .i64 t105,.int .i64 t106] 24 (0,0)) (by refine blk_mv ?_;refine blk_put (cs:=#[.int .i64 t105,.int .i64 0]) ?_ 1 _ rfl;refine blk_mv ?_;refine blk_put (cs:=#[.int .i64 0,.int .i64 0]) ?_ 0 _ rfl;refine blk_mv ?_;exact BK107.out) hb);replace HB:=Aside0.mk (below_step bel_ hb);(try clear hb);(try clear hb2);(try clear hk);(try clear hi);have hnb18:=NB107_103.out;have hnc18:=NB103_107.out;have hcz19_0:=blk_c (v:=.int .i64 t105) BK107.out 0 rfl;have hcz19_1:=blk_c (v:=.int .i64 t106) BK107.out 1 rfl;have hfz19_0:=blk_frozen BK107.out 0;have hfz19_1:=blk_frozen BK107.out 1;have hcz20_0:=blk_c (v:=.int .i64 t101) BK103.out 0 rfl;have hcz20_1:=blk_c (v:=.int .i64 t102) BK103.out 1 rfl;have hfz20_0:=blk_frozen BK103.out 0;have hfz20_1:=blk_frozen BK103.out 1));go_meet
    case rel => exact ⟨_,(true),fr_,H',⟨om_⟩,⟨blk_mv BK103.out⟩,⟨blk_mv BK107.out⟩,⟨bel_⟩⟩
   ·rw [if_neg c16] at H
    have c16b0 : (!(t105 == t101) || (!(t106 == t102))) = false:=by simpa using c16
    clear c16;(first|rw [c16b0]|(simp only [i64_w,i32_w];rw [c16b0])|skip);by_cases c21 : t101 = 0
    ·rw [if_pos c21] at H
     have c21b0 : (t101 == 0) = true:=beq_iff_eq.mpr c21;have c21b1 : (t101 != 0) = false:=bne_eq_false_iff_eq.mpr c21;clear c21;replace H:=Option.bind_eq_some_iff.mp H;obtain ⟨t109,A220,H⟩:=H;replace H : (changeforgelaw5_TranslogMatchesSpec.j0 k l0 a1 a2 (t104 != t109) t101 t102) = some r:=H;have A22:=Aside0.mk A220;clear A220;have H':=Aside0.mk H;clear H;go_wp2_with (first|((with_reducible refine gate_callee (f:=12) rfl ?_);refine goesL_ (some 19) rfl rfl Try.func12 (by kernel_rfl) rfl #[] rfl ln_ ?_;(with_reducible refine (changeforgelaw5_logs.calls k  true _ A14.out).mono ?_);rintro e w23 ⟨rfl,hb⟩;refine ⟨_,rfl,?_⟩;replace BK103:=Aside0.mk (blk_below (g:=gb103) (o:=.cells #[.int .i64 t101,.int .i64 t102] 24 (0,0)) (by refine blk_mv ?_;refine blk_far ?_ NB103_107.out _;refine blk_mv ?_;refine blk_far ?_ NB103_107.out _;refine blk_mv ?_;exact BK103.out) hb);replace BK107:=Aside0.mk (blk_below (g:=gb107) (o:=.cells #[.int .i64 t105,.int .i64 t106] 24 (0,0)) (by refine blk_mv ?_;refine blk_put (cs:=#[.int .i64 t105,.int .i64 0]) ?_ 1 _ rfl;refine blk_mv ?_;refine blk_put (cs:=#[.int .i64 0,.int .i64 0]) ?_ 0 _ rfl;refine blk_mv ?_;exact BK107.out) hb);replace HB:=Aside0.mk (below_step bel_ hb);(try clear hb);(try clear hb2);(try clear hk);(try clear hi);have hnb24:=NB107_103.out;have hnc24:=NB103_107.out;have hcz25_0:=blk_c (v:=.int .i64 t105) BK107.out 0 rfl;have hcz25_1:=blk_c (v:=.int .i64 t106) BK107.out 1 rfl;have hfz25_0:=blk_frozen BK107.out 0;have hfz25_1:=blk_frozen BK107.out 1;have hcz26_0:=blk_c (v:=.int .i64 t101) BK103.out 0 rfl;have hcz26_1:=blk_c (v:=.int .i64 t102) BK103.out 1 rfl;have hfz26_0:=blk_frozen BK103.out 0;have hfz26_1:=blk_frozen BK103.out 1)|(go_at_call 13;(with_reducible refine (changeforgeref5_LogRoot.calls k _ _ l0 t109 _ ?side1 ?side2 A22.out).mono ?_);(case side1 => first|exact (Kd.C_below HR0.out HB.out)|exact Kd.C_mv (Kd.C_below HR0.out HB.out));(case side2 => exact HC0.out);rintro e w27 ⟨rfl,hb⟩;replace BK103:=Aside0.mk (blk_below (blk_mv BK103.out) hb);replace BK107:=Aside0.mk (blk_below (blk_mv BK107.out) hb);replace HB:=Aside0.mk (below_step bel_ hb);(try clear hb);(try clear hb2);(try clear hk);(try clear hi)));go_meet
     case rel => exact ⟨_,((t104 != t109)),fr_,H',⟨om_⟩,⟨blk_mv BK103.out⟩,⟨blk_mv BK107.out⟩,⟨bel_⟩⟩
    ·rw [if_neg c21] at H
     have c21b0 : (t101 == 0) = false:=beq_eq_false_iff_ne.mpr c21;have c21b1 : (t101 != 0) = true:=bne_iff_ne.mpr c21;by_cases c28 : t104 = 0
     ·rw [if_pos c28] at H
      have c28b0 : (t104 == 0) = true:=beq_iff_eq.mpr c28;have c28b1 : (t104 != 0) = false:=bne_eq_false_iff_eq.mpr c28;clear c28;have H':=Aside0.mk H;clear H;go_wp2_with (first|((with_reducible refine gate_callee (f:=12) rfl ?_);refine goesL_ (some 19) rfl rfl Try.func12 (by kernel_rfl) rfl #[] rfl ln_ ?_;(with_reducible refine (changeforgelaw5_logs.calls k  true _ A14.out).mono ?_);rintro e w29 ⟨rfl,hb⟩;refine ⟨_,rfl,?_⟩;replace BK103:=Aside0.mk (blk_below (g:=gb103) (o:=.cells #[.int .i64 t101,.int .i64 t102] 24 (0,0)) (by refine blk_mv ?_;refine blk_far ?_ NB103_107.out _;refine blk_mv ?_;refine blk_far ?_ NB103_107.out _;refine blk_mv ?_;exact BK103.out) hb);replace BK107:=Aside0.mk (blk_below (g:=gb107) (o:=.cells #[.int .i64 t105,.int .i64 t106] 24 (0,0)) (by refine blk_mv ?_;refine blk_put (cs:=#[.int .i64 t105,.int .i64 0]) ?_ 1 _ rfl;refine blk_mv ?_;refine blk_put (cs:=#[.int .i64 0,.int .i64 0]) ?_ 0 _ rfl;refine blk_mv ?_;exact BK107.out) hb);replace HB:=Aside0.mk (below_step bel_ hb);(try clear hb);(try clear hb2);(try clear hk);(try clear hi);have hnb30:=NB107_103.out;have hnc30:=NB103_107.out;have hcz31_0:=blk_c (v:=.int .i64 t105) BK107.out 0 rfl;have hcz31_1:=blk_c (v:=.int .i64 t106) BK107.out 1 rfl;have hfz31_0:=blk_frozen BK107.out 0;have hfz31_1:=blk_frozen BK107.out 1;have hcz32_0:=blk_c (v:=.int .i64 t101) BK103.out 0 rfl;have hcz32_1:=blk_c (v:=.int .i64 t102) BK103.out 1 rfl;have hfz32_0:=blk_frozen BK103.out 0;have hfz32_1:=blk_frozen BK103.out 1));go_meet
      case rel => exact ⟨_,(false),fr_,H',⟨om_⟩,⟨blk_mv BK103.out⟩,⟨blk_mv BK107.out⟩,⟨bel_⟩⟩
     ·rw [if_neg c28] at H
      have c28b0 : (t104 == 0) = false:=beq_eq_false_iff_ne.mpr c28;have c28b1 : (t104 != 0) = true:=bne_iff_ne.mpr c28;have H':=Aside0.mk H;clear H;go_wp2_with (first|((with_reducible refine gate_callee (f:=12) rfl ?_);refine goesL_ (some 19) rfl rfl Try.func12 (by kernel_rfl) rfl #[] rfl ln_ ?_;(with_reducible refine (changeforgelaw5_logs.calls k  true _ A14.out).mono ?_);rintro e w33 ⟨rfl,hb⟩;refine ⟨_,rfl,?_⟩;replace BK103:=Aside0.mk (blk_below (g:=gb103) (o:=.cells #[.int .i64 t101,.int .i64 t102] 24 (0,0)) (by refine blk_mv ?_;refine blk_far ?_ NB103_107.out _;refine blk_mv ?_;refine blk_far ?_ NB103_107.out _;refine blk_mv ?_;exact BK103.out) hb);replace BK107:=Aside0.mk (blk_below (g:=gb107) (o:=.cells #[.int .i64 t105,.int .i64 t106] 24 (0,0)) (by refine blk_mv ?_;refine blk_put (cs:=#[.int .i64 t105,.int .i64 0]) ?_ 1 _ rfl;refine blk_mv ?_;refine blk_put (cs:=#[.int .i64 0,.int .i64 0]) ?_ 0 _ rfl;refine blk_mv ?_;exact BK107.out) hb);replace HB:=Aside0.mk (below_step bel_ hb);(try clear hb);(try clear hb2);(try clear hk);(try clear hi);have hnb34:=NB107_103.out;have hnc34:=NB103_107.out;have hcz35_0:=blk_c (v:=.int .i64 t105) BK107.out 0 rfl;have hcz35_1:=blk_c (v:=.int .i64 t106) BK107.out 1 rfl;have hfz35_0:=blk_frozen BK107.out 0;have hfz35_1:=blk_frozen BK107.out 1;have hcz36_0:=blk_c (v:=.int .i64 t101) BK103.out 0 rfl;have hcz36_1:=blk_c (v:=.int .i64 t102) BK103.out 1 rfl;have hfz36_0:=blk_frozen BK103.out 0;have hfz36_1:=blk_frozen BK103.out 1));go_meet
      case rel => exact ⟨_,(true),fr_,H',⟨om_⟩,⟨blk_mv BK103.out⟩,⟨blk_mv BK107.out⟩,⟨bel_⟩⟩
  ·replace c15:=Bool.eq_false_iff.mpr c15
   subst c15;have H1 : (changeforgelaw5_TranslogMatchesSpec.j0 k l0 a1 a2 true t101 t102) = some r:=by rw [if_neg (show ¬ (false = true) by decide)] at H;exact H
   clear H;have H:=H1;clear H1;have H':=Aside0.mk H;clear H;go_wp2_with (first|((with_reducible refine gate_callee (f:=12) rfl ?_);refine goesL_ (some 19) rfl rfl Try.func12 (by kernel_rfl) rfl #[] rfl ln_ ?_;(with_reducible refine (changeforgelaw5_logs.calls k  false _ A14.out).mono ?_);rintro e w37 ⟨rfl,hb⟩;refine ⟨_,rfl,?_⟩;replace BK103:=Aside0.mk (blk_below (g:=gb103) (o:=.cells #[.int .i64 t101,.int .i64 t102] 24 (0,0)) (by refine blk_mv ?_;refine blk_far ?_ NB103_107.out _;refine blk_mv ?_;refine blk_far ?_ NB103_107.out _;refine blk_mv ?_;exact BK103.out) hb);replace BK107:=Aside0.mk (blk_below (g:=gb107) (o:=.cells #[.int .i64 t105,.int .i64 t106] 24 (0,0)) (by refine blk_mv ?_;refine blk_put (cs:=#[.int .i64 t105,.int .i64 0]) ?_ 1 _ rfl;refine blk_mv ?_;refine blk_put (cs:=#[.int .i64 0,.int .i64 0]) ?_ 0 _ rfl;refine blk_mv ?_;exact BK107.out) hb);replace HB:=Aside0.mk (below_step bel_ hb);(try clear hb);(try clear hb2);(try clear hk);(try clear hi)));go_meet
   case rel => exact ⟨_,(true),fr_,H',⟨om_⟩,⟨blk_mv BK103.out⟩,⟨blk_mv BK107.out⟩,⟨bel_⟩⟩
 case rest =>
  clear HC6;(try clear c1);(try clear c2);(try clear p2);(try clear c3);(try clear c10);(try clear c11);(try clear c12);(try clear c15);(try clear c16);(try clear c16b0);(try clear c18);(try clear c21);(try clear c21b0);(try clear c21b1);(try clear c24);(try clear c28);(try clear c28b0);(try clear c28b1);(try clear c30);(try clear c34);(try clear hcz13_0);(try clear hcz13_1);(try clear hcz19_0);(try clear hcz19_1);(try clear hcz20_0);(try clear hcz20_1);(try clear hcz25_0);(try clear hcz25_1);(try clear hcz26_0);(try clear hcz26_1);(try clear hcz31_0);(try clear hcz31_1);(try clear hcz32_0);(try clear hcz32_1);(try clear hcz35_0);(try clear hcz35_1);(try clear hcz36_0);(try clear hcz36_1);(try clear hcz9_0);(try clear hcz9_1);(try clear hfz13_0);(try clear hfz13_1);(try clear hfz19_0);(try clear hfz19_1);(try clear hfz20_0);(try clear hfz20_1);(try clear hfz25_0);(try clear hfz25_1);(try clear hfz26_0);(try clear hfz26_1);(try clear hfz31_0);(try clear hfz31_1);(try clear hfz32_0);(try clear hfz32_1);(try clear hfz35_0);(try clear hfz35_1);(try clear hfz36_0);(try clear hfz36_1);(try clear hfz9_0);(try clear hfz9_1);obtain ⟨kq,x45_5,rfl,HA,HJ5,BK103,BK107,HB⟩:=hcut;cases kq with
  | zero => exact absurd HA.out (by simp [changeforgelaw5_TranslogMatchesSpec.j0])
  | succ kj5 =>
   have H:=HA.out;clear HA;simp only [changeforgelaw5_TranslogMatchesSpec.j0] at H;by_cases c38 : x45_5 = true
   ·subst c38
    have H1 : (none) = some r:=by rw [if_pos rfl] at H;exact H
    clear H;have H:=H1;clear H1;exact absurd H (by simp)
   ·replace c38:=Bool.eq_false_iff.mpr c38
    subst c38;have H1 : (if t101 = 0 then ((changeforgelaw5_in.f a1 0 (wrap64 ((l0.length : Int) - 1))).bind fun t111 => (changeforgelaw5_TranslogMatchesSpec.j1 kj5 l0 a1 a2 (!t111) t101 t102 t101 t102)) else (changeforgelaw5_TranslogMatchesSpec.j1 kj5 l0 a1 a2 false t101 t102 t101 t102)) = some r:=by rw [if_neg (show ¬ (false = true) by decide)] at H;exact H
    clear H;have H:=H1;clear H1;have HC39:=Aside0.mk H;clear H;have hnb40:=NB103_107.out;have hnc40:=NB107_103.out;have hcz41_0:=blk_c (v:=.int .i64 t101) BK103.out 0 rfl;have hcz41_1:=blk_c (v:=.int .i64 t102) BK103.out 1 rfl;have hfz41_0:=blk_frozen BK103.out 0;have hfz41_1:=blk_frozen BK103.out 1;go_upto_region 6 with (first|((with_reducible refine gate_dst (N:=10) rfl ?_);(try (refine gate_guard (by rfl) ?_;dsimp only));refine box_event ?hg (N:=10) ?hd (cs:=#[.int .i64 0,.int .i64 0]) (t:=24) ?hr ?_;(case hd => rfl);(case hg => rfl);(case hr => first|(go_simp;done)|(go_simp;rfl));intro gb110 hg w42 hbox hb;have BK110:=Aside0.mk (hbox);have GW110:=Aside0.mk ((bs_ : w.heap.size ≤ gb110));have GE110:=Aside0.mk ((bs_ : w.heap.size ≤ gb110));replace HB:=Aside0.mk (below_step bel_ hb);have NB103_110:=Aside0.mk ((by rw [hg];exact Nat.ne_of_lt (blk_lt (g:=gb103) (o:=.cells #[.int .i64 t101,.int .i64 t102] 24 (0,0)) (blk_mv BK103.out)) : gb103 ≠ gb110));have NB110_103:=Aside0.mk ((by rw [hg];exact Nat.ne_of_gt (blk_lt (g:=gb103) (o:=.cells #[.int .i64 t101,.int .i64 t102] 24 (0,0)) (blk_mv BK103.out)) : gb110 ≠ gb103));replace BK103:=Aside0.mk (blk_below (blk_mv BK103.out) hb);have NB107_110:=Aside0.mk ((by rw [hg];exact Nat.ne_of_lt (blk_lt (g:=gb107) (o:=.cells #[.int .i64 t105,.int .i64 t106] 24 (0,0)) (blk_mv BK107.out)) : gb107 ≠ gb110));have NB110_107:=Aside0.mk ((by rw [hg];exact Nat.ne_of_gt (blk_lt (g:=gb107) (o:=.cells #[.int .i64 t105,.int .i64 t106] 24 (0,0)) (blk_mv BK107.out)) : gb110 ≠ gb107));replace BK107:=Aside0.mk (blk_below (blk_mv BK107.out) hb);clear hb hbox hg;have hnb43:=NB110_103.out;have hnc43:=NB103_110.out;have hnb44:=NB110_107.out;have hnc44:=NB107_110.out;have hcz45_0:=blk_c (v:=.int .i64 0) BK110.out 0 rfl;have hcz45_1:=blk_c (v:=.int .i64 0) BK110.out 1 rfl;have hfz45_0:=blk_frozen BK110.out 0;have hfz45_1:=blk_frozen BK110.out 1));(try simp only [Act.put,sa_,sb_,sc_]);go_cut [57] (fun v57 wc => ∃ (kq : Nat) (x57_38 : Bool),v57 = .bool x57_38 ∧ Aside0 (changeforgelaw5_TranslogMatchesSpec.j1 kq l0 a1 a2 x57_38 t101 t102 t101 t102 = some r) ∧ Aside0 (kq ≤ kj5) ∧ Aside0 (wc.heap[gb103]? = some (.cells #[.int .i64 t101,.int .i64 t102] 24 (0,0))) ∧ Aside0 (wc.heap[gb107]? = some (.cells #[.int .i64 t105,.int .i64 t106] 24 (0,0))) ∧ Aside0 (wc.heap[gb110]? = some (.cells #[.int .i64 t101,.int .i64 t102] 24 (0,0))) ∧ Aside0 (Below w.heap.size w wc))
    case first =>
     have H:=HC39.out;clear HC39;by_cases c46 : t101 = 0
     ·rw [if_pos c46] at H
      have c46b0 : (t101 == 0) = true:=beq_iff_eq.mpr c46;have c46b1 : (t101 != 0) = false:=bne_eq_false_iff_eq.mpr c46;clear c46;(first|rw [c46b0]|(simp only [i64_w,i32_w];rw [c46b0])|skip);replace H:=Option.bind_eq_some_iff.mp H;obtain ⟨t111,A470,H⟩:=H;replace H : (changeforgelaw5_TranslogMatchesSpec.j1 kj5 l0 a1 a2 (!t111) t101 t102 t101 t102) = some r:=H;have A47:=Aside0.mk A470;clear A470;have H':=Aside0.mk H;clear H;have hnb48:=NB110_103.out;have hnc48:=NB103_110.out;have hnb49:=NB110_107.out;have hnc49:=NB107_110.out;have hcz50_0:=blk_c (v:=.int .i64 0) BK110.out 0 rfl;have hcz50_1:=blk_c (v:=.int .i64 0) BK110.out 1 rfl;have hfz50_0:=blk_frozen BK110.out 0;have hfz50_1:=blk_frozen BK110.out 1;go_wp2_with (first|(go_at_call 14;(with_reducible refine (changeforgelaw5_in.calls a1 0 (wrap64 ((l0.length : Int) - 1)) t111 _ A47.out).mono ?_);rintro e w' ⟨rfl,⟨nd,rfl⟩⟩));go_meet
      case rel => exact ⟨_,(!t111),fr_,H',⟨by have:=HJ5.out;first|omega|exact Nat.le_refl _⟩,⟨by refine blk_mv ?_;refine blk_far ?_ NB103_110.out _;refine blk_mv ?_;refine blk_far ?_ NB103_110.out _;refine blk_mv ?_;exact BK103.out⟩,⟨by refine blk_mv ?_;refine blk_far ?_ NB107_110.out _;refine blk_mv ?_;refine blk_far ?_ NB107_110.out _;refine blk_mv ?_;exact BK107.out⟩,⟨by refine blk_mv ?_;refine blk_put (cs:=#[.int .i64 t101,.int .i64 0]) ?_ 1 _ rfl;refine blk_mv ?_;refine blk_put (cs:=#[.int .i64 0,.int .i64 0]) ?_ 0 _ rfl;refine blk_mv ?_;exact BK110.out⟩,⟨bel_⟩⟩
     ·rw [if_neg c46] at H
      have c46b0 : (t101 == 0) = false:=beq_eq_false_iff_ne.mpr c46;have c46b1 : (t101 != 0) = true:=bne_iff_ne.mpr c46;(first|rw [c46b0]|(simp only [i64_w,i32_w];rw [c46b0])|skip);have H':=Aside0.mk H;clear H;have hnb51:=NB110_103.out;have hnc51:=NB103_110.out;have hnb52:=NB110_107.out;have hnc52:=NB107_110.out;have hcz53_0:=blk_c (v:=.int .i64 0) BK110.out 0 rfl;have hcz53_1:=blk_c (v:=.int .i64 0) BK110.out 1 rfl;have hfz53_0:=blk_frozen BK110.out 0;have hfz53_1:=blk_frozen BK110.out 1;go_wp2;go_meet
      case rel => exact ⟨_,(false),fr_,H',⟨by have:=HJ5.out;first|omega|exact Nat.le_refl _⟩,⟨by refine blk_mv ?_;refine blk_far ?_ NB103_110.out _;refine blk_mv ?_;refine blk_far ?_ NB103_110.out _;refine blk_mv ?_;exact BK103.out⟩,⟨by refine blk_mv ?_;refine blk_far ?_ NB107_110.out _;refine blk_mv ?_;refine blk_far ?_ NB107_110.out _;refine blk_mv ?_;exact BK107.out⟩,⟨by refine blk_mv ?_;refine blk_put (cs:=#[.int .i64 t101,.int .i64 0]) ?_ 1 _ rfl;refine blk_mv ?_;refine blk_put (cs:=#[.int .i64 0,.int .i64 0]) ?_ 0 _ rfl;refine blk_mv ?_;exact BK110.out⟩,⟨bel_⟩⟩
    case rest =>
     clear HC39;(try clear c1);(try clear c2);(try clear p2);(try clear c3);(try clear c4);(try clear c5);(try clear p6);(try clear c10);(try clear c11);(try clear c12);(try clear c15);(try clear c16);(try clear c16b0);(try clear c18);(try clear c21);(try clear c21b0);(try clear c21b1);(try clear c24);(try clear c28);(try clear c28b0);(try clear c28b1);(try clear c30);(try clear c34);(try clear c38);(try clear c40);(try clear c43);(try clear c44);(try clear c46);(try clear c46b0);(try clear c46b1);(try clear c48);(try clear c49);(try clear c51);(try clear c52);(try clear hcz13_0);(try clear hcz13_1);(try clear hcz19_0);(try clear hcz19_1);(try clear hcz20_0);(try clear hcz20_1);(try clear hcz25_0);(try clear hcz25_1);(try clear hcz26_0);(try clear hcz26_1);(try clear hcz31_0);(try clear hcz31_1);(try clear hcz32_0);(try clear hcz32_1);(try clear hcz35_0);(try clear hcz35_1);(try clear hcz36_0);(try clear hcz36_1);(try clear hcz41_0);(try clear hcz41_1);(try clear hcz45_0);(try clear hcz45_1);(try clear hcz50_0);(try clear hcz50_1);(try clear hcz53_0);(try clear hcz53_1);(try clear hcz9_0);(try clear hcz9_1);(try clear hfz13_0);(try clear hfz13_1);(try clear hfz19_0);(try clear hfz19_1);(try clear hfz20_0);(try clear hfz20_1);(try clear hfz25_0);(try clear hfz25_1);(try clear hfz26_0);(try clear hfz26_1);(try clear hfz31_0);(try clear hfz31_1);(try clear hfz32_0);(try clear hfz32_1);(try clear hfz35_0);(try clear hfz35_1);(try clear hfz36_0);(try clear hfz36_1);(try clear hfz41_0);(try clear hfz41_1);(try clear hfz45_0);(try clear hfz45_1);(try clear hfz50_0);(try clear hfz50_1);(try clear hfz53_0);(try clear hfz53_1);(try clear hfz9_0);(try clear hfz9_1);(try clear p2);obtain ⟨kq,x57_38,rfl,HA,HJ38,BK103,BK107,BK110,HB⟩:=hcut;cases kq with
     | zero => exact absurd HA.out (by simp [changeforgelaw5_TranslogMatchesSpec.j1])
     | succ kj38 =>
      have H:=HA.out;clear HA;simp only [changeforgelaw5_TranslogMatchesSpec.j1] at H;have HC54:=Aside0.mk H;clear H;go_upto_if 57 with (fail);go_cut [] (fun wc => ∃ (kq : Nat) (x111000_53 : Int) (x111001_53 : Int),Aside0 (changeforgelaw5_TranslogMatchesSpec.j2 kq l0 a1 a2 t101 t102 x111000_53 x111001_53 = some r) ∧ Aside0 (kq ≤ kj38) ∧ Aside0 (wc.heap[gb103]? = some (.cells #[.int .i64 t101,.int .i64 t102] 24 (0,0))) ∧ Aside0 (wc.heap[gb107]? = some (.cells #[.int .i64 t105,.int .i64 t106] 24 (0,0))) ∧ Aside0 (wc.heap[gb110]? = some (.cells #[.int .i64 x111000_53,.int .i64 x111001_53] 24 (0,0))) ∧ Aside0 (Below w.heap.size w wc))
      case first =>
       have H:=HC54.out;clear HC54;by_cases c55 : x57_38 = true
       ·subst c55
        have H1 : ((changeforgelaw5_fault.f 3 (-1)).bind fun bt112 => (changeforgelaw5_TranslogMatchesSpec.j2 kj38 l0 a1 a2 t101 t102 bt112.1 bt112.2)) = some r:=by rw [if_pos rfl] at H;exact H
        clear H;have H:=H1;clear H1;replace H:=Option.bind_eq_some_iff.mp H;obtain ⟨⟨t112,t113⟩,A560,H⟩:=H;replace H : (changeforgelaw5_TranslogMatchesSpec.j2 kj38 l0 a1 a2 t101 t102 t112 t113) = some r:=H;have A56:=Aside0.mk A560;clear A560;have H':=Aside0.mk H;clear H;go_wp2_with (first|((with_reducible refine gate_callee (f:=15) rfl ?_);refine goesL_ (some 58) rfl rfl Try.func15 (by kernel_rfl) rfl #[.int .i64 3,.int .i64 (-1)] rfl ln_ ?_;(with_reducible refine (changeforgelaw5_fault.calls 3 (-1) t112 t113 _ A56.out).mono ?_);rintro e w57 ⟨rfl,hb⟩;refine ⟨_,rfl,?_⟩;replace BK103:=Aside0.mk (blk_below (blk_mv BK103.out) hb);replace BK107:=Aside0.mk (blk_below (blk_mv BK107.out) hb);replace BK110:=Aside0.mk (blk_below (blk_mv BK110.out) hb);replace HB:=Aside0.mk (below_step bel_ hb);(try clear hb);(try clear hb2);(try clear hk);(try clear hi);have hnb58:=NB110_103.out;have hnc58:=NB103_110.out;have hnb59:=NB110_107.out;have hnc59:=NB107_110.out;have hcz60_0:=blk_c (v:=.int .i64 t101) BK110.out 0 rfl;have hcz60_1:=blk_c (v:=.int .i64 t102) BK110.out 1 rfl;have hfz60_0:=blk_frozen BK110.out 0;have hfz60_1:=blk_frozen BK110.out 1));go_meet
        case rel => exact ⟨_,(t112),(t113),H',⟨by have:=HJ5.out;have:=HJ38.out;first|omega|exact Nat.le_refl _⟩,⟨by refine blk_mv ?_;refine blk_far ?_ NB103_110.out _;refine blk_mv ?_;refine blk_far ?_ NB103_110.out _;refine blk_mv ?_;exact BK103.out⟩,⟨by refine blk_mv ?_;refine blk_far ?_ NB107_110.out _;refine blk_mv ?_;refine blk_far ?_ NB107_110.out _;refine blk_mv ?_;exact BK107.out⟩,⟨by refine blk_mv ?_;refine blk_put (cs:=#[.int .i64 t112,.int .i64 t102]) ?_ 1 _ rfl;refine blk_mv ?_;refine blk_put (cs:=#[.int .i64 t101,.int .i64 t102]) ?_ 0 _ rfl;refine blk_mv ?_;exact BK110.out⟩,⟨bel_⟩⟩
       ·replace c55:=Bool.eq_false_iff.mpr c55
        subst c55;have H1 : (changeforgelaw5_TranslogMatchesSpec.j2 kj38 l0 a1 a2 t101 t102 t101 t102) = some r:=by rw [if_neg (show ¬ (false = true) by decide)] at H;exact H
        clear H;have H:=H1;clear H1;have H':=Aside0.mk H;clear H;go_wp2;go_meet
        case rel => exact ⟨_,(t101),(t102),H',⟨by have:=HJ5.out;have:=HJ38.out;first|omega|exact Nat.le_refl _⟩,⟨blk_mv BK103.out⟩,⟨blk_mv BK107.out⟩,⟨blk_mv BK110.out⟩,⟨bel_⟩⟩
      case rest =>
       clear HC54;(try clear c1);(try clear c2);(try clear p2);(try clear c3);(try clear c4);(try clear c5);(try clear p6);(try clear c10);(try clear c11);(try clear c12);(try clear c15);(try clear c16);(try clear c16b0);(try clear c18);(try clear c21);(try clear c21b0);(try clear c21b1);(try clear c24);(try clear c28);(try clear c28b0);(try clear c28b1);(try clear c30);(try clear c34);(try clear c38);(try clear c40);(try clear c43);(try clear c44);(try clear c46);(try clear c46b0);(try clear c46b1);(try clear c48);(try clear c49);(try clear c51);(try clear c52);(try clear c55);(try clear c58);(try clear c59);(try clear hcz13_0);(try clear hcz13_1);(try clear hcz19_0);(try clear hcz19_1);(try clear hcz20_0);(try clear hcz20_1);(try clear hcz25_0);(try clear hcz25_1);(try clear hcz26_0);(try clear hcz26_1);(try clear hcz31_0);(try clear hcz31_1);(try clear hcz32_0);(try clear hcz32_1);(try clear hcz35_0);(try clear hcz35_1);(try clear hcz36_0);(try clear hcz36_1);(try clear hcz41_0);(try clear hcz41_1);(try clear hcz45_0);(try clear hcz45_1);(try clear hcz50_0);(try clear hcz50_1);(try clear hcz53_0);(try clear hcz53_1);(try clear hcz60_0);(try clear hcz60_1);(try clear hcz9_0);(try clear hcz9_1);(try clear hfz13_0);(try clear hfz13_1);(try clear hfz19_0);(try clear hfz19_1);(try clear hfz20_0);(try clear hfz20_1);(try clear hfz25_0);(try clear hfz25_1);(try clear hfz26_0);(try clear hfz26_1);(try clear hfz31_0);(try clear hfz31_1);(try clear hfz32_0);(try clear hfz32_1);(try clear hfz35_0);(try clear hfz35_1);(try clear hfz36_0);(try clear hfz36_1);(try clear hfz41_0);(try clear hfz41_1);(try clear hfz45_0);(try clear hfz45_1);(try clear hfz50_0);(try clear hfz50_1);(try clear hfz53_0);(try clear hfz53_1);(try clear hfz60_0);(try clear hfz60_1);(try clear hfz9_0);(try clear hfz9_1);(try clear p2);(try clear p6);obtain ⟨kq,x111000_53,x111001_53,HA,HJ53,BK103,BK107,BK110,HB⟩:=hcut;cases kq with
       | zero => exact absurd HA.out (by simp [changeforgelaw5_TranslogMatchesSpec.j2])
       | succ kj53 =>
        have H:=HA.out;clear HA;simp only [changeforgelaw5_TranslogMatchesSpec.j2] at H;replace H:=Option.bind_eq_some_iff.mp H;obtain ⟨⟨t114,t117,t118⟩,A610,H⟩:=H;replace H : (if (!(t117 == x111000_53) || (!(t118 == x111001_53))) = true then (changeforgelaw5_TranslogMatchesSpec.j3 kj53 l0 a2 true t101 t102) else (if x111000_53 = 0 then ((changeforgeref5_LogProof.f kj53 l0 a1).bind fun t119 => ((changeforgeref5_Ints.f kj53 t114 t119).bind fun t122 => (changeforgelaw5_TranslogMatchesSpec.j3 kj53 l0 a2 (!t122) t101 t102))) else (if (t114.length : Int) > 0 then (changeforgelaw5_TranslogMatchesSpec.j3 kj53 l0 a2 true t101 t102) else (changeforgelaw5_TranslogMatchesSpec.j3 kj53 l0 a2 false t101 t102)))) = some r:=H;have A61:=Aside0.mk A610;clear A610;have HC62:=Aside0.mk H;clear H;go_upto_region 9 with (first|((with_reducible refine gate_callee (f:=16) rfl ?_);refine goesL_ (some 62) rfl rfl Try.func16 (by kernel_rfl) rfl #[.slice A0 l0.length c0,.int .i64 a1] rfl ln_ ?_;(with_reducible refine (translog_Prove.calls kj53 _ _ l0 a1 t114 t117 t118 _ ?side1 ?side2 A61.out).mono ?_);(case side1 => first|exact (Kd.C_below HR0.out HB.out)|exact Kd.C_mv (Kd.C_below HR0.out HB.out));(case side2 => exact HC0.out);rintro e w63 ⟨v115,rfl,ho0,hb⟩;refine ⟨_,rfl,?_⟩;have HO116:=Aside0.mk (Kd.R_lower ho0 (below_size bel_));replace BK103:=Aside0.mk (blk_below (blk_mv BK103.out) hb);replace BK107:=Aside0.mk (blk_below (blk_mv BK107.out) hb);replace BK110:=Aside0.mk (blk_below (blk_mv BK110.out) hb);replace HB:=Aside0.mk (below_step bel_ hb);(try clear hb);(try clear hb2);(try clear hk);(try clear hi);(try clear ho0);have hnb64:=NB107_103.out;have hnc64:=NB103_107.out;have hnb65:=NB107_110.out;have hnc65:=NB110_107.out;have hcz66_0:=blk_c (v:=.int .i64 t105) BK107.out 0 rfl;have hcz66_1:=blk_c (v:=.int .i64 t106) BK107.out 1 rfl;have hfz66_0:=blk_frozen BK107.out 0;have hfz66_1:=blk_frozen BK107.out 1));(try simp only [Act.put,sa_,sb_,sc_]);go_cut [90] (fun v90 wc => ∃ (kq : Nat) (x90_61 : Bool),v90 = .bool x90_61 ∧ Aside0 (changeforgelaw5_TranslogMatchesSpec.j3 kq l0 a2 x90_61 t101 t102 = some r) ∧ Aside0 (kq ≤ kj53) ∧ Aside0 (wc.heap[gb103]? = some (.cells #[.int .i64 t101,.int .i64 t102] 24 (0,0))) ∧ Aside0 (wc.heap[gb107]? = some (.cells #[.int .i64 t117,.int .i64 t118] 24 (0,0))) ∧ Aside0 (wc.heap[gb110]? = some (.cells #[.int .i64 x111000_53,.int .i64 x111001_53] 24 (0,0))) ∧ Aside0 (Below w.heap.size w wc))
        case first =>
         have H:=HC62.out;clear HC62;by_cases c67 : (!(t117 == x111000_53) || (!(t118 == x111001_53))) = true
         ·rw [if_pos c67] at H
          have c67b0 : (!(t117 == x111000_53) || (!(t118 == x111001_53))) = true:=c67;clear c67;(first|rw [c67b0]|(simp only [i64_w,i32_w];rw [c67b0])|skip);have H':=Aside0.mk H;clear H;have hnb68:=NB107_103.out;have hnc68:=NB103_107.out;have hnb69:=NB107_110.out;have hnc69:=NB110_107.out;have hcz70_0:=blk_c (v:=.int .i64 t105) BK107.out 0 rfl;have hcz70_1:=blk_c (v:=.int .i64 t106) BK107.out 1 rfl;have hfz70_0:=blk_frozen BK107.out 0;have hfz70_1:=blk_frozen BK107.out 1;have hnb71:=NB110_103.out;have hnc71:=NB103_110.out;have hcz72_0:=blk_c (v:=.int .i64 x111000_53) BK110.out 0 rfl;have hcz72_1:=blk_c (v:=.int .i64 x111001_53) BK110.out 1 rfl;have hfz72_0:=blk_frozen BK110.out 0;have hfz72_1:=blk_frozen BK110.out 1;go_wp2;go_meet
          case rel => exact ⟨_,(true),fr_,H',⟨by have:=HJ5.out;have:=HJ38.out;have:=HJ53.out;first|omega|exact Nat.le_refl _⟩,⟨by refine blk_mv ?_;refine blk_far ?_ NB103_107.out _;refine blk_mv ?_;refine blk_far ?_ NB103_107.out _;refine blk_mv ?_;exact BK103.out⟩,⟨by refine blk_mv ?_;refine blk_put (cs:=#[.int .i64 t117,.int .i64 t106]) ?_ 1 _ rfl;refine blk_mv ?_;refine blk_put (cs:=#[.int .i64 t105,.int .i64 t106]) ?_ 0 _ rfl;refine blk_mv ?_;exact BK107.out⟩,⟨by refine blk_mv ?_;refine blk_far ?_ NB110_107.out _;refine blk_mv ?_;refine blk_far ?_ NB110_107.out _;refine blk_mv ?_;exact BK110.out⟩,⟨bel_⟩⟩
         ·rw [if_neg c67] at H
          have c67b0 : (!(t117 == x111000_53) || (!(t118 == x111001_53))) = false:=by simpa using c67
          clear c67;(first|rw [c67b0]|(simp only [i64_w,i32_w];rw [c67b0])|skip);by_cases c73 : x111000_53 = 0
          ·rw [if_pos c73] at H
           have c73b0 : (x111000_53 == 0) = true:=beq_iff_eq.mpr c73;have c73b1 : (x111000_53 != 0) = false:=bne_eq_false_iff_eq.mpr c73;clear c73;replace H:=Option.bind_eq_some_iff.mp H;obtain ⟨t119,A740,H⟩:=H;replace H : ((changeforgeref5_Ints.f kj53 t114 t119).bind fun t122 => (changeforgelaw5_TranslogMatchesSpec.j3 kj53 l0 a2 (!t122) t101 t102)) = some r:=H;have A74:=Aside0.mk A740;clear A740;replace H:=Option.bind_eq_some_iff.mp H;obtain ⟨t122,A750,H⟩:=H;replace H : (changeforgelaw5_TranslogMatchesSpec.j3 kj53 l0 a2 (!t122) t101 t102) = some r:=H;have A75:=Aside0.mk A750;clear A750;have H':=Aside0.mk H;clear H;have hnb76:=NB107_103.out;have hnc76:=NB103_107.out;have hnb77:=NB107_110.out;have hnc77:=NB110_107.out;have hcz78_0:=blk_c (v:=.int .i64 t105) BK107.out 0 rfl;have hcz78_1:=blk_c (v:=.int .i64 t106) BK107.out 1 rfl;have hfz78_0:=blk_frozen BK107.out 0;have hfz78_1:=blk_frozen BK107.out 1;have hnb79:=NB110_103.out;have hnc79:=NB103_110.out;have hcz80_0:=blk_c (v:=.int .i64 x111000_53) BK110.out 0 rfl;have hcz80_1:=blk_c (v:=.int .i64 x111001_53) BK110.out 1 rfl;have hfz80_0:=blk_frozen BK110.out 0;have hfz80_1:=blk_frozen BK110.out 1;go_wp2_with (first|(go_at_call 18;(with_reducible refine (changeforgeref5_LogProof.calls kj53 (fun k_ => k_ < w.heap.size) _ _ l0 a1 t119 _ ?side1 A74.out).mono ?_);(case side1 => exact Kd.V_mk HC0.out (Kd.F_below (Kd.C_F (Kd.heap_int .i64) HR0.out) bel_));rintro e w81 ⟨v120,rfl,ho0,hb⟩;have HO121:=Aside0.mk (Kd.R_lower (Kd.R_new' (Kd.R_mono (ok':=fun k_ => True) ho0 (fun _ hk_ => trivial)) (Kd.R_lt (by (with_reducible repeat (first|apply Kd.R_alloc|apply Kd.R_drewN|apply Kd.R_drew));exact (Kd.R_mono (Kd.R_far (p:=⟨gb107,1,none⟩) (Kd.R_far (p:=⟨gb107,0,none⟩) (Kd.R_types HO116.out BK107.out (by decide)) (fun _ hk => hk.2) (.int .i64 t117)) (fun _ hk => hk.2) (.int .i64 t118)) (fun _ h_ => h_.1))))) (below_size bel_));replace HO116:=Aside0.mk (Kd.R_elder' (by (with_reducible repeat (first|apply Kd.R_alloc|apply Kd.R_drewN|apply Kd.R_drew));exact (Kd.R_mono (Kd.R_far (p:=⟨gb107,1,none⟩) (Kd.R_far (p:=⟨gb107,0,none⟩) (Kd.R_types HO116.out BK107.out (by decide)) (fun _ hk => hk.2) (.int .i64 t117)) (fun _ hk => hk.2) (.int .i64 t118)) (fun _ h_ => h_.1))) (Kd.R_base ho0) hb);replace BK103:=Aside0.mk (blk_below (g:=gb103) (o:=.cells #[.int .i64 t101,.int .i64 t102] 24 (0,0)) (by refine blk_mv ?_;refine blk_far ?_ NB103_107.out _;refine blk_mv ?_;refine blk_far ?_ NB103_107.out _;refine blk_mv ?_;exact BK103.out) hb);replace BK107:=Aside0.mk (blk_below (g:=gb107) (o:=.cells #[.int .i64 t117,.int .i64 t118] 24 (0,0)) (by refine blk_mv ?_;refine blk_put (cs:=#[.int .i64 t117,.int .i64 t106]) ?_ 1 _ rfl;refine blk_mv ?_;refine blk_put (cs:=#[.int .i64 t105,.int .i64 t106]) ?_ 0 _ rfl;refine blk_mv ?_;exact BK107.out) hb);replace BK110:=Aside0.mk (blk_below (g:=gb110) (o:=.cells #[.int .i64 x111000_53,.int .i64 x111001_53] 24 (0,0)) (by refine blk_mv ?_;refine blk_far ?_ NB110_107.out _;refine blk_mv ?_;refine blk_far ?_ NB110_107.out _;refine blk_mv ?_;exact BK110.out) hb);replace HB:=Aside0.mk (below_step bel_ hb);(try clear hb);(try clear hb2);(try clear hk);(try clear hi);(try clear ho0);obtain ⟨Ao82,co82,eo82⟩:=Kd.R_slice HO116.out;subst eo82;obtain ⟨Ao83,co83,eo83⟩:=Kd.R_slice HO121.out;subst eo83)|(go_at_call 17;(with_reducible refine (changeforgeref5_Ints.calls kj53 _ _ t114 _ _ t119 t122 _ ?side1 ?side2 ?side3 ?side4 A75.out).mono ?_);(case side1 => first|exact (Kd.R_reads' HO116.out).2.2|exact Kd.C_mv (Kd.R_reads' HO116.out).2.2);(case side2 => exact (Kd.R_reads' HO116.out).2.1);(case side3 => first|exact (Kd.R_reads' HO121.out).2.2|exact Kd.C_mv (Kd.R_reads' HO121.out).2.2);(case side4 => exact (Kd.R_reads' HO121.out).2.1);rintro e w' ⟨rfl,⟨nd,rfl⟩⟩));go_meet
           case rel => exact ⟨_,(!t122),fr_,H',⟨by have:=HJ5.out;have:=HJ38.out;have:=HJ53.out;first|omega|exact Nat.le_refl _⟩,⟨blk_mv BK103.out⟩,⟨blk_mv BK107.out⟩,⟨blk_mv BK110.out⟩,⟨bel_⟩⟩
          ·rw [if_neg c73] at H
           have c73b0 : (x111000_53 == 0) = false:=beq_eq_false_iff_ne.mpr c73;have c73b1 : (x111000_53 != 0) = true:=bne_iff_ne.mpr c73;by_cases c84 : (t114.length : Int) > 0
           ·rw [if_pos c84] at H
            have c84b0 : decide (0 < (t114.length : Int)) = true:=decide_eq_true c84;have c84b1 : decide (0 < t114.length) = true:=decide_eq_true (by omega);clear c84;have H':=Aside0.mk H;clear H;have hnb85:=NB107_103.out;have hnc85:=NB103_107.out;have hnb86:=NB107_110.out;have hnc86:=NB110_107.out;have hcz87_0:=blk_c (v:=.int .i64 t105) BK107.out 0 rfl;have hcz87_1:=blk_c (v:=.int .i64 t106) BK107.out 1 rfl;have hfz87_0:=blk_frozen BK107.out 0;have hfz87_1:=blk_frozen BK107.out 1;have hnb88:=NB110_103.out;have hnc88:=NB103_110.out;have hcz89_0:=blk_c (v:=.int .i64 x111000_53) BK110.out 0 rfl;have hcz89_1:=blk_c (v:=.int .i64 x111001_53) BK110.out 1 rfl;have hfz89_0:=blk_frozen BK110.out 0;have hfz89_1:=blk_frozen BK110.out 1;obtain ⟨Ao90,co90,eo90⟩:=Kd.R_slice HO116.out;subst eo90;go_wp2;go_meet
            case rel => exact ⟨_,(true),fr_,H',⟨by have:=HJ5.out;have:=HJ38.out;have:=HJ53.out;first|omega|exact Nat.le_refl _⟩,⟨by refine blk_mv ?_;refine blk_far ?_ NB103_107.out _;refine blk_mv ?_;refine blk_far ?_ NB103_107.out _;refine blk_mv ?_;exact BK103.out⟩,⟨by refine blk_mv ?_;refine blk_put (cs:=#[.int .i64 t117,.int .i64 t106]) ?_ 1 _ rfl;refine blk_mv ?_;refine blk_put (cs:=#[.int .i64 t105,.int .i64 t106]) ?_ 0 _ rfl;refine blk_mv ?_;exact BK107.out⟩,⟨by refine blk_mv ?_;refine blk_far ?_ NB110_107.out _;refine blk_mv ?_;refine blk_far ?_ NB110_107.out _;refine blk_mv ?_;exact BK110.out⟩,⟨bel_⟩⟩
           ·rw [if_neg c84] at H
            have c84b0 : decide (0 < (t114.length : Int)) = false:=decide_eq_false c84;have c84b1 : decide (0 < t114.length) = false:=decide_eq_false (by omega);clear c84;have H':=Aside0.mk H;clear H;have hnb91:=NB107_103.out;have hnc91:=NB103_107.out;have hnb92:=NB107_110.out;have hnc92:=NB110_107.out;have hcz93_0:=blk_c (v:=.int .i64 t105) BK107.out 0 rfl;have hcz93_1:=blk_c (v:=.int .i64 t106) BK107.out 1 rfl;have hfz93_0:=blk_frozen BK107.out 0;have hfz93_1:=blk_frozen BK107.out 1;have hnb94:=NB110_103.out;have hnc94:=NB103_110.out;have hcz95_0:=blk_c (v:=.int .i64 x111000_53) BK110.out 0 rfl;have hcz95_1:=blk_c (v:=.int .i64 x111001_53) BK110.out 1 rfl;have hfz95_0:=blk_frozen BK110.out 0;have hfz95_1:=blk_frozen BK110.out 1;obtain ⟨Ao96,co96,eo96⟩:=Kd.R_slice HO116.out;subst eo96;go_wp2;go_meet
            case rel => exact ⟨_,(false),fr_,H',⟨by have:=HJ5.out;have:=HJ38.out;have:=HJ53.out;first|omega|exact Nat.le_refl _⟩,⟨by refine blk_mv ?_;refine blk_far ?_ NB103_107.out _;refine blk_mv ?_;refine blk_far ?_ NB103_107.out _;refine blk_mv ?_;exact BK103.out⟩,⟨by refine blk_mv ?_;refine blk_put (cs:=#[.int .i64 t117,.int .i64 t106]) ?_ 1 _ rfl;refine blk_mv ?_;refine blk_put (cs:=#[.int .i64 t105,.int .i64 t106]) ?_ 0 _ rfl;refine blk_mv ?_;exact BK107.out⟩,⟨by refine blk_mv ?_;refine blk_far ?_ NB110_107.out _;refine blk_mv ?_;refine blk_far ?_ NB110_107.out _;refine blk_mv ?_;exact BK110.out⟩,⟨bel_⟩⟩
        case rest =>
         clear HC62;(try clear c1);(try clear c2);(try clear p2);(try clear c3);(try clear c4);(try clear c5);(try clear c6);(try clear p6);(try clear c7);(try clear c8);(try clear c9);(try clear c10);(try clear c11);(try clear c12);(try clear c15);(try clear c16);(try clear c16b0);(try clear c18);(try clear c21);(try clear c21b0);(try clear c21b1);(try clear c24);(try clear c28);(try clear c28b0);(try clear c28b1);(try clear c30);(try clear c34);(try clear c38);(try clear c40);(try clear c43);(try clear c44);(try clear c46);(try clear c46b0);(try clear c46b1);(try clear c48);(try clear c49);(try clear c51);(try clear c52);(try clear c55);(try clear c58);(try clear c59);(try clear c64);(try clear p64);(try clear c65);(try clear c67);(try clear c67b0);(try clear c68);(try clear c69);(try clear c71);(try clear c73);(try clear c73b0);(try clear c73b1);(try clear c76);(try clear c77);(try clear c79);(try clear c84);(try clear c84b0);(try clear c84b1);(try clear c85);(try clear c86);(try clear c88);(try clear c91);(try clear c92);(try clear c94);(try clear hcz13_0);(try clear hcz13_1);(try clear hcz19_0);(try clear hcz19_1);(try clear hcz20_0);(try clear hcz20_1);(try clear hcz25_0);(try clear hcz25_1);(try clear hcz26_0);(try clear hcz26_1);(try clear hcz31_0);(try clear hcz31_1);(try clear hcz32_0);(try clear hcz32_1);(try clear hcz35_0);(try clear hcz35_1);(try clear hcz36_0);(try clear hcz36_1);(try clear hcz41_0);(try clear hcz41_1);(try clear hcz45_0);(try clear hcz45_1);(try clear hcz50_0);(try clear hcz50_1);(try clear hcz53_0);(try clear hcz53_1);(try clear hcz60_0);(try clear hcz60_1);(try clear hcz66_0);(try clear hcz66_1);(try clear hcz70_0);(try clear hcz70_1);(try clear hcz72_0);(try clear hcz72_1);(try clear hcz78_0);(try clear hcz78_1);(try clear hcz80_0);(try clear hcz80_1);(try clear hcz87_0);(try clear hcz87_1);(try clear hcz89_0);(try clear hcz89_1);(try clear hcz93_0);(try clear hcz93_1);(try clear hcz95_0);(try clear hcz95_1);(try clear hcz9_0);(try clear hcz9_1);(try clear hfz13_0);(try clear hfz13_1);(try clear hfz19_0);(try clear hfz19_1);(try clear hfz20_0);(try clear hfz20_1);(try clear hfz25_0);(try clear hfz25_1);(try clear hfz26_0);(try clear hfz26_1);(try clear hfz31_0);(try clear hfz31_1);(try clear hfz32_0);(try clear hfz32_1);(try clear hfz35_0);(try clear hfz35_1);(try clear hfz36_0);(try clear hfz36_1);(try clear hfz41_0);(try clear hfz41_1);(try clear hfz45_0);(try clear hfz45_1);(try clear hfz50_0);(try clear hfz50_1);(try clear hfz53_0);(try clear hfz53_1);(try clear hfz60_0);(try clear hfz60_1);(try clear hfz66_0);(try clear hfz66_1);(try clear hfz70_0);(try clear hfz70_1);(try clear hfz72_0);(try clear hfz72_1);(try clear hfz78_0);(try clear hfz78_1);(try clear hfz80_0);(try clear hfz80_1);(try clear hfz87_0);(try clear hfz87_1);(try clear hfz89_0);(try clear hfz89_1);(try clear hfz93_0);(try clear hfz93_1);(try clear hfz95_0);(try clear hfz95_1);(try clear hfz9_0);(try clear hfz9_1);(try clear p2);(try clear p6);obtain ⟨kq,x90_61,rfl,HA,HJ61,BK103,BK107,BK110,HB⟩:=hcut;cases kq with
         | zero => exact absurd HA.out (by simp [changeforgelaw5_TranslogMatchesSpec.j3])
         | succ kj61 =>
          have H:=HA.out;clear HA;simp only [changeforgelaw5_TranslogMatchesSpec.j3] at H;by_cases c97 : x90_61 = true
          ·subst c97
           have H1 : (none) = some r:=by rw [if_pos rfl] at H;exact H
           clear H;have H:=H1;clear H1;exact absurd H (by simp)
          ·replace c97:=Bool.eq_false_iff.mpr c97
           subst c97;have H1 : (if t101 = 0 then ((changeforgelaw5_in.f a2 1 (l0.length : Int)).bind fun t123 => (changeforgelaw5_TranslogMatchesSpec.j4 kj61 l0 a2 (!t123) t101 t102)) else (changeforgelaw5_TranslogMatchesSpec.j4 kj61 l0 a2 false t101 t102)) = some r:=by rw [if_neg (show ¬ (false = true) by decide)] at H;exact H
           clear H;have H:=H1;clear H1;have HC98:=Aside0.mk H;clear H;have hnb99:=NB103_107.out;have hnc99:=NB107_103.out;have hnb100:=NB103_110.out;have hnc100:=NB110_103.out;have hcz101_0:=blk_c (v:=.int .i64 t101) BK103.out 0 rfl;have hcz101_1:=blk_c (v:=.int .i64 t102) BK103.out 1 rfl;have hfz101_0:=blk_frozen BK103.out 0;have hfz101_1:=blk_frozen BK103.out 1;have hnb102:=NB110_107.out;have hnc102:=NB107_110.out;have hcz103_0:=blk_c (v:=.int .i64 x111000_53) BK110.out 0 rfl;have hcz103_1:=blk_c (v:=.int .i64 x111001_53) BK110.out 1 rfl;have hfz103_0:=blk_frozen BK110.out 0;have hfz103_1:=blk_frozen BK110.out 1;go_upto_region 12 with (fail);go_cut [101] (fun v101 wc => ∃ (kq : Nat) (x101_97 : Bool),v101 = .bool x101_97 ∧ Aside0 (changeforgelaw5_TranslogMatchesSpec.j4 kq l0 a2 x101_97 t101 t102 = some r) ∧ Aside0 (kq ≤ kj61) ∧ Aside0 (wc.heap[gb103]? = some (.cells #[.int .i64 t101,.int .i64 t102] 24 (0,0))) ∧ Aside0 (wc.heap[gb107]? = some (.cells #[.int .i64 t117,.int .i64 t118] 24 (0,0))) ∧ Aside0 (wc.heap[gb110]? = some (.cells #[.int .i64 t101,.int .i64 t102] 24 (0,0))) ∧ Aside0 (Below w.heap.size w wc))
           case first =>
            have H:=HC98.out;clear HC98;by_cases c104 : t101 = 0
            ·rw [if_pos c104] at H
             have c104b0 : (t101 == 0) = true:=beq_iff_eq.mpr c104;have c104b1 : (t101 != 0) = false:=bne_eq_false_iff_eq.mpr c104;clear c104;(first|rw [c104b0]|(simp only [i64_w,i32_w];rw [c104b0])|skip);replace H:=Option.bind_eq_some_iff.mp H;obtain ⟨t123,A1050,H⟩:=H;replace H : (changeforgelaw5_TranslogMatchesSpec.j4 kj61 l0 a2 (!t123) t101 t102) = some r:=H;have A105:=Aside0.mk A1050;clear A1050;have H':=Aside0.mk H;clear H;have hnb106:=NB110_103.out;have hnc106:=NB103_110.out;have hnb107:=NB110_107.out;have hnc107:=NB107_110.out;have hcz108_0:=blk_c (v:=.int .i64 x111000_53) BK110.out 0 rfl;have hcz108_1:=blk_c (v:=.int .i64 x111001_53) BK110.out 1 rfl;have hfz108_0:=blk_frozen BK110.out 0;have hfz108_1:=blk_frozen BK110.out 1;go_wp2_with (first|(go_at_call 14;(with_reducible refine (changeforgelaw5_in.calls a2 1 (l0.length : Int) t123 _ A105.out).mono ?_);rintro e w' ⟨rfl,⟨nd,rfl⟩⟩));go_meet
             case rel => exact ⟨_,(!t123),fr_,H',⟨by have:=HJ5.out;have:=HJ38.out;have:=HJ53.out;have:=HJ61.out;first|omega|exact Nat.le_refl _⟩,⟨by refine blk_mv ?_;refine blk_far ?_ NB103_110.out _;refine blk_mv ?_;refine blk_far ?_ NB103_110.out _;refine blk_mv ?_;exact BK103.out⟩,⟨by refine blk_mv ?_;refine blk_far ?_ NB107_110.out _;refine blk_mv ?_;refine blk_far ?_ NB107_110.out _;refine blk_mv ?_;exact BK107.out⟩,⟨by refine blk_mv ?_;refine blk_put (cs:=#[.int .i64 t101,.int .i64 x111001_53]) ?_ 1 _ rfl;refine blk_mv ?_;refine blk_put (cs:=#[.int .i64 x111000_53,.int .i64 x111001_53]) ?_ 0 _ rfl;refine blk_mv ?_;exact BK110.out⟩,⟨bel_⟩⟩
            ·rw [if_neg c104] at H
             have c104b0 : (t101 == 0) = false:=beq_eq_false_iff_ne.mpr c104;have c104b1 : (t101 != 0) = true:=bne_iff_ne.mpr c104;(first|rw [c104b0]|(simp only [i64_w,i32_w];rw [c104b0])|skip);have H':=Aside0.mk H;clear H;have hnb109:=NB110_103.out;have hnc109:=NB103_110.out;have hnb110:=NB110_107.out;have hnc110:=NB107_110.out;have hcz111_0:=blk_c (v:=.int .i64 x111000_53) BK110.out 0 rfl;have hcz111_1:=blk_c (v:=.int .i64 x111001_53) BK110.out 1 rfl;have hfz111_0:=blk_frozen BK110.out 0;have hfz111_1:=blk_frozen BK110.out 1;go_wp2;go_meet
             case rel => exact ⟨_,(false),fr_,H',⟨by have:=HJ5.out;have:=HJ38.out;have:=HJ53.out;have:=HJ61.out;first|omega|exact Nat.le_refl _⟩,⟨by refine blk_mv ?_;refine blk_far ?_ NB103_110.out _;refine blk_mv ?_;refine blk_far ?_ NB103_110.out _;refine blk_mv ?_;exact BK103.out⟩,⟨by refine blk_mv ?_;refine blk_far ?_ NB107_110.out _;refine blk_mv ?_;refine blk_far ?_ NB107_110.out _;refine blk_mv ?_;exact BK107.out⟩,⟨by refine blk_mv ?_;refine blk_put (cs:=#[.int .i64 t101,.int .i64 x111001_53]) ?_ 1 _ rfl;refine blk_mv ?_;refine blk_put (cs:=#[.int .i64 x111000_53,.int .i64 x111001_53]) ?_ 0 _ rfl;refine blk_mv ?_;exact BK110.out⟩,⟨bel_⟩⟩
           case rest =>
            clear HC98;(try clear c1);(try clear c2);(try clear p2);(try clear c3);(try clear c4);(try clear c5);(try clear c6);(try clear p6);(try clear c7);(try clear c8);(try clear c9);(try clear c10);(try clear c11);(try clear c12);(try clear c15);(try clear c16);(try clear c16b0);(try clear c18);(try clear c21);(try clear c21b0);(try clear c21b1);(try clear c24);(try clear c28);(try clear c28b0);(try clear c28b1);(try clear c30);(try clear c34);(try clear c38);(try clear c40);(try clear c43);(try clear c44);(try clear c46);(try clear c46b0);(try clear c46b1);(try clear c48);(try clear c49);(try clear c51);(try clear c52);(try clear c55);(try clear c58);(try clear c59);(try clear c64);(try clear p64);(try clear c65);(try clear c67);(try clear c67b0);(try clear c68);(try clear c69);(try clear c71);(try clear c73);(try clear c73b0);(try clear c73b1);(try clear c76);(try clear c77);(try clear c79);(try clear c84);(try clear c84b0);(try clear c84b1);(try clear c85);(try clear c86);(try clear c88);(try clear c91);(try clear c92);(try clear c94);(try clear c97);(try clear c99);(try clear c100);(try clear c102);(try clear c104);(try clear c104b0);(try clear c104b1);(try clear c106);(try clear c107);(try clear c109);(try clear c110);(try clear hcz101_0);(try clear hcz101_1);(try clear hcz103_0);(try clear hcz103_1);(try clear hcz108_0);(try clear hcz108_1);(try clear hcz111_0);(try clear hcz111_1);(try clear hcz13_0);(try clear hcz13_1);(try clear hcz19_0);(try clear hcz19_1);(try clear hcz20_0);(try clear hcz20_1);(try clear hcz25_0);(try clear hcz25_1);(try clear hcz26_0);(try clear hcz26_1);(try clear hcz31_0);(try clear hcz31_1);(try clear hcz32_0);(try clear hcz32_1);(try clear hcz35_0);(try clear hcz35_1);(try clear hcz36_0);(try clear hcz36_1);(try clear hcz41_0);(try clear hcz41_1);(try clear hcz45_0);(try clear hcz45_1);(try clear hcz50_0);(try clear hcz50_1);(try clear hcz53_0);(try clear hcz53_1);(try clear hcz60_0);(try clear hcz60_1);(try clear hcz66_0);(try clear hcz66_1);(try clear hcz70_0);(try clear hcz70_1);(try clear hcz72_0);(try clear hcz72_1);(try clear hcz78_0);(try clear hcz78_1);(try clear hcz80_0);(try clear hcz80_1);(try clear hcz87_0);(try clear hcz87_1);(try clear hcz89_0);(try clear hcz89_1);(try clear hcz93_0);(try clear hcz93_1);(try clear hcz95_0);(try clear hcz95_1);(try clear hcz9_0);(try clear hcz9_1);(try clear hfz101_0);(try clear hfz101_1);(try clear hfz103_0);(try clear hfz103_1);(try clear hfz108_0);(try clear hfz108_1);(try clear hfz111_0);(try clear hfz111_1);(try clear hfz13_0);(try clear hfz13_1);(try clear hfz19_0);(try clear hfz19_1);(try clear hfz20_0);(try clear hfz20_1);(try clear hfz25_0);(try clear hfz25_1);(try clear hfz26_0);(try clear hfz26_1);(try clear hfz31_0);(try clear hfz31_1);(try clear hfz32_0);(try clear hfz32_1);(try clear hfz35_0);(try clear hfz35_1);(try clear hfz36_0);(try clear hfz36_1);(try clear hfz41_0);(try clear hfz41_1);(try clear hfz45_0);(try clear hfz45_1);(try clear hfz50_0);(try clear hfz50_1);(try clear hfz53_0);(try clear hfz53_1);(try clear hfz60_0);(try clear hfz60_1);(try clear hfz66_0);(try clear hfz66_1);(try clear hfz70_0);(try clear hfz70_1);(try clear hfz72_0);(try clear hfz72_1);(try clear hfz78_0);(try clear hfz78_1);(try clear hfz80_0);(try clear hfz80_1);(try clear hfz87_0);(try clear hfz87_1);(try clear hfz89_0);(try clear hfz89_1);(try clear hfz93_0);(try clear hfz93_1);(try clear hfz95_0);(try clear hfz95_1);(try clear hfz9_0);(try clear hfz9_1);(try clear p2);(try clear p6);(try clear p64);obtain ⟨kq,x101_97,rfl,HA,HJ97,BK103,BK107,BK110,HB⟩:=hcut;cases kq with
            | zero => exact absurd HA.out (by simp [changeforgelaw5_TranslogMatchesSpec.j4])
            | succ kj97 =>
             have H:=HA.out;clear HA;simp only [changeforgelaw5_TranslogMatchesSpec.j4] at H;have HC112:=Aside0.mk H;clear H;go_upto_if 101 with (fail);go_cut [] (fun wc => ∃ (kq : Nat) (x111000_111 : Int) (x111001_111 : Int),Aside0 (changeforgelaw5_TranslogMatchesSpec.j5 kq l0 a2 x111000_111 x111001_111 = some r) ∧ Aside0 (kq ≤ kj97) ∧ Aside0 (wc.heap[gb103]? = some (.cells #[.int .i64 t101,.int .i64 t102] 24 (0,0))) ∧ Aside0 (wc.heap[gb107]? = some (.cells #[.int .i64 t117,.int .i64 t118] 24 (0,0))) ∧ Aside0 (wc.heap[gb110]? = some (.cells #[.int .i64 x111000_111,.int .i64 x111001_111] 24 (0,0))) ∧ Aside0 (Below w.heap.size w wc))
             case first =>
              have H:=HC112.out;clear HC112;by_cases c113 : x101_97 = true
              ·subst c113
               have H1 : ((changeforgelaw5_fault.f 3 (-1)).bind fun bt124 => (changeforgelaw5_TranslogMatchesSpec.j5 kj97 l0 a2 bt124.1 bt124.2)) = some r:=by rw [if_pos rfl] at H;exact H
               clear H;have H:=H1;clear H1;replace H:=Option.bind_eq_some_iff.mp H;obtain ⟨⟨t124,t125⟩,A1140,H⟩:=H;replace H : (changeforgelaw5_TranslogMatchesSpec.j5 kj97 l0 a2 t124 t125) = some r:=H;have A114:=Aside0.mk A1140;clear A1140;have H':=Aside0.mk H;clear H;go_wp2_with (first|((with_reducible refine gate_callee (f:=15) rfl ?_);refine goesL_ (some 102) rfl rfl Try.func15 (by kernel_rfl) rfl #[.int .i64 3,.int .i64 (-1)] rfl ln_ ?_;(with_reducible refine (changeforgelaw5_fault.calls 3 (-1) t124 t125 _ A114.out).mono ?_);rintro e w115 ⟨rfl,hb⟩;refine ⟨_,rfl,?_⟩;replace BK103:=Aside0.mk (blk_below (blk_mv BK103.out) hb);replace BK107:=Aside0.mk (blk_below (blk_mv BK107.out) hb);replace BK110:=Aside0.mk (blk_below (blk_mv BK110.out) hb);replace HB:=Aside0.mk (below_step bel_ hb);(try clear hb);(try clear hb2);(try clear hk);(try clear hi);have hnb116:=NB110_103.out;have hnc116:=NB103_110.out;have hnb117:=NB110_107.out;have hnc117:=NB107_110.out;have hcz118_0:=blk_c (v:=.int .i64 t101) BK110.out 0 rfl;have hcz118_1:=blk_c (v:=.int .i64 t102) BK110.out 1 rfl;have hfz118_0:=blk_frozen BK110.out 0;have hfz118_1:=blk_frozen BK110.out 1));go_meet
               case rel => exact ⟨_,(t124),(t125),H',⟨by have:=HJ5.out;have:=HJ38.out;have:=HJ53.out;have:=HJ61.out;have:=HJ97.out;first|omega|exact Nat.le_refl _⟩,⟨by refine blk_mv ?_;refine blk_far ?_ NB103_110.out _;refine blk_mv ?_;refine blk_far ?_ NB103_110.out _;refine blk_mv ?_;exact BK103.out⟩,⟨by refine blk_mv ?_;refine blk_far ?_ NB107_110.out _;refine blk_mv ?_;refine blk_far ?_ NB107_110.out _;refine blk_mv ?_;exact BK107.out⟩,⟨by refine blk_mv ?_;refine blk_put (cs:=#[.int .i64 t124,.int .i64 t102]) ?_ 1 _ rfl;refine blk_mv ?_;refine blk_put (cs:=#[.int .i64 t101,.int .i64 t102]) ?_ 0 _ rfl;refine blk_mv ?_;exact BK110.out⟩,⟨bel_⟩⟩
              ·replace c113:=Bool.eq_false_iff.mpr c113
               subst c113;have H1 : (changeforgelaw5_TranslogMatchesSpec.j5 kj97 l0 a2 t101 t102) = some r:=by rw [if_neg (show ¬ (false = true) by decide)] at H;exact H
               clear H;have H:=H1;clear H1;have H':=Aside0.mk H;clear H;go_wp2;go_meet
               case rel => exact ⟨_,(t101),(t102),H',⟨by have:=HJ5.out;have:=HJ38.out;have:=HJ53.out;have:=HJ61.out;have:=HJ97.out;first|omega|exact Nat.le_refl _⟩,⟨blk_mv BK103.out⟩,⟨blk_mv BK107.out⟩,⟨blk_mv BK110.out⟩,⟨bel_⟩⟩
             case rest =>
              clear HC112;(try clear c1);(try clear c2);(try clear p2);(try clear c3);(try clear c4);(try clear c5);(try clear c6);(try clear p6);(try clear c7);(try clear c8);(try clear c9);(try clear c10);(try clear c11);(try clear c12);(try clear c15);(try clear c16);(try clear c16b0);(try clear c18);(try clear c21);(try clear c21b0);(try clear c21b1);(try clear c24);(try clear c28);(try clear c28b0);(try clear c28b1);(try clear c30);(try clear c34);(try clear c38);(try clear c40);(try clear c43);(try clear c44);(try clear c46);(try clear c46b0);(try clear c46b1);(try clear c48);(try clear c49);(try clear c51);(try clear c52);(try clear c55);(try clear c58);(try clear c59);(try clear c64);(try clear p64);(try clear c65);(try clear c67);(try clear c67b0);(try clear c68);(try clear c69);(try clear c71);(try clear c73);(try clear c73b0);(try clear c73b1);(try clear c76);(try clear c77);(try clear c79);(try clear c84);(try clear c84b0);(try clear c84b1);(try clear c85);(try clear c86);(try clear c88);(try clear c91);(try clear c92);(try clear c94);(try clear c97);(try clear c99);(try clear c100);(try clear c102);(try clear c104);(try clear c104b0);(try clear c104b1);(try clear c106);(try clear c107);(try clear c109);(try clear c110);(try clear c113);(try clear c116);(try clear c117);(try clear hcz101_0);(try clear hcz101_1);(try clear hcz103_0);(try clear hcz103_1);(try clear hcz108_0);(try clear hcz108_1);(try clear hcz111_0);(try clear hcz111_1);(try clear hcz118_0);(try clear hcz118_1);(try clear hcz13_0);(try clear hcz13_1);(try clear hcz19_0);(try clear hcz19_1);(try clear hcz20_0);(try clear hcz20_1);(try clear hcz25_0);(try clear hcz25_1);(try clear hcz26_0);(try clear hcz26_1);(try clear hcz31_0);(try clear hcz31_1);(try clear hcz32_0);(try clear hcz32_1);(try clear hcz35_0);(try clear hcz35_1);(try clear hcz36_0);(try clear hcz36_1);(try clear hcz41_0);(try clear hcz41_1);(try clear hcz45_0);(try clear hcz45_1);(try clear hcz50_0);(try clear hcz50_1);(try clear hcz53_0);(try clear hcz53_1);(try clear hcz60_0);(try clear hcz60_1);(try clear hcz66_0);(try clear hcz66_1);(try clear hcz70_0);(try clear hcz70_1);(try clear hcz72_0);(try clear hcz72_1);(try clear hcz78_0);(try clear hcz78_1);(try clear hcz80_0);(try clear hcz80_1);(try clear hcz87_0);(try clear hcz87_1);(try clear hcz89_0);(try clear hcz89_1);(try clear hcz93_0);(try clear hcz93_1);(try clear hcz95_0);(try clear hcz95_1);(try clear hcz9_0);(try clear hcz9_1);(try clear hfz101_0);(try clear hfz101_1);(try clear hfz103_0);(try clear hfz103_1);(try clear hfz108_0);(try clear hfz108_1);(try clear hfz111_0);(try clear hfz111_1);(try clear hfz118_0);(try clear hfz118_1);(try clear hfz13_0);(try clear hfz13_1);(try clear hfz19_0);(try clear hfz19_1);(try clear hfz20_0);(try clear hfz20_1);(try clear hfz25_0);(try clear hfz25_1);(try clear hfz26_0);(try clear hfz26_1);(try clear hfz31_0);(try clear hfz31_1);(try clear hfz32_0);(try clear hfz32_1);(try clear hfz35_0);(try clear hfz35_1);(try clear hfz36_0);(try clear hfz36_1);(try clear hfz41_0);(try clear hfz41_1);(try clear hfz45_0);(try clear hfz45_1);(try clear hfz50_0);(try clear hfz50_1);(try clear hfz53_0);(try clear hfz53_1);(try clear hfz60_0);(try clear hfz60_1);(try clear hfz66_0);(try clear hfz66_1);(try clear hfz70_0);(try clear hfz70_1);(try clear hfz72_0);(try clear hfz72_1);(try clear hfz78_0);(try clear hfz78_1);(try clear hfz80_0);(try clear hfz80_1);(try clear hfz87_0);(try clear hfz87_1);(try clear hfz89_0);(try clear hfz89_1);(try clear hfz93_0);(try clear hfz93_1);(try clear hfz95_0);(try clear hfz95_1);(try clear hfz9_0);(try clear hfz9_1);(try clear p2);(try clear p6);(try clear p64);obtain ⟨kq,x111000_111,x111001_111,HA,HJ111,BK103,BK107,BK110,HB⟩:=hcut;cases kq with
              | zero => exact absurd HA.out (by simp [changeforgelaw5_TranslogMatchesSpec.j5])
              | succ kj111 =>
               have H:=HA.out;clear HA;simp only [changeforgelaw5_TranslogMatchesSpec.j5] at H;replace H:=Option.bind_eq_some_iff.mp H;obtain ⟨⟨t126,t129,t130⟩,A1190,H⟩:=H;replace H : (if (t129 == x111000_111 && (t130 == x111001_111)) = true then (if x111000_111 = 0 then ((changeforgeref5_LogContinues.f kj111 l0 a2).bind fun t131 => ((changeforgeref5_Ints.f kj111 t126 t131).bind fun t134 => (some t134))) else (if (t126.length : Int) = 0 then (some true) else (none))) else (none)) = some r:=H;have A119:=Aside0.mk A1190;clear A1190;by_cases c120 : (t129 == x111000_111 && (t130 == x111001_111)) = true
               ·rw [if_pos c120] at H
                have c120b0 : (t129 == x111000_111 && (t130 == x111001_111)) = true:=c120;(try (have c120b1 : decide (t129 = x111000_111 && (t130 == x111001_111)) = true:=by simpa using c120));(try (have c120b2 : (t129 == x111000_111 && (t130 == x111001_111)) = true:=by simpa using c120));clear c120;by_cases c121 : x111000_111 = 0
                ·rw [if_pos c121] at H
                 have c121b0 : (x111000_111 == 0) = true:=beq_iff_eq.mpr c121;have c121b1 : (x111000_111 != 0) = false:=bne_eq_false_iff_eq.mpr c121;clear c121;replace H:=Option.bind_eq_some_iff.mp H;obtain ⟨t131,A1220,H⟩:=H;replace H : ((changeforgeref5_Ints.f kj111 t126 t131).bind fun t134 => (some t134)) = some r:=H;have A122:=Aside0.mk A1220;clear A1220;replace H:=Option.bind_eq_some_iff.mp H;obtain ⟨t134,A1230,H⟩:=H;replace H : (some t134) = some r:=H;have A123:=Aside0.mk A1230;clear A1230;obtain rfl:=Option.some.inj H;go_wp2_with (first|((with_reducible refine gate_callee (f:=19) rfl ?_);refine goesL_ (some 106) rfl rfl Try.func19 (by kernel_rfl) rfl #[.slice A0 l0.length c0,.int .i64 a2] rfl ln_ ?_;(with_reducible refine (translog_ProveConsistency.calls kj111 _ _ l0 a2 t126 t129 t130 _ ?side1 ?side2 A119.out).mono ?_);(case side1 => first|exact (Kd.C_below HR0.out HB.out)|exact Kd.C_mv (Kd.C_below HR0.out HB.out));(case side2 => exact HC0.out);rintro e w124 ⟨v127,rfl,ho0,hb⟩;refine ⟨_,rfl,?_⟩;have HO128:=Aside0.mk (Kd.R_lower ho0 (below_size bel_));replace BK103:=Aside0.mk (blk_below (blk_mv BK103.out) hb);replace BK107:=Aside0.mk (blk_below (blk_mv BK107.out) hb);replace BK110:=Aside0.mk (blk_below (blk_mv BK110.out) hb);replace HB:=Aside0.mk (below_step bel_ hb);(try clear hb);(try clear hb2);(try clear hk);(try clear hi);(try clear ho0);have hnb125:=NB107_103.out;have hnc125:=NB103_107.out;have hnb126:=NB107_110.out;have hnc126:=NB110_107.out;have hcz127_0:=blk_c (v:=.int .i64 t117) BK107.out 0 rfl;have hcz127_1:=blk_c (v:=.int .i64 t118) BK107.out 1 rfl;have hfz127_0:=blk_frozen BK107.out 0;have hfz127_1:=blk_frozen BK107.out 1)|((with_reducible refine gate_store (t:=24) (p:=9) rfl ?_);refine store_event (t:=24) (p:=9) (v:=?vo_w128) (w1:=((w124.setCell ⟨gb107,0,none⟩ (.int .i64 t129)).setCell ⟨gb107,1,none⟩ (.int .i64 t130))) ?hg ?ho ?hn ?hr ?_;(case ho => rfl);(case hg => rfl);(case hn => rfl);(case hr => first|(go_simp;done)|(go_simp;rfl));intro w128 hw;have n0_ : Aside0 (Kd.R (Kd.int .i64) 3 w128 w.heap.size (fun _ => True) v127 t126):=⟨(by rw [hw];exact (by (with_reducible repeat (first|apply Kd.R_alloc|apply Kd.R_drewN|apply Kd.R_drew));exact Kd.R_mono (Kd.R_far (p:=⟨gb107,1,none⟩) (Kd.R_far (p:=⟨gb107,0,none⟩) (Kd.R_types HO128.out BK107.out (by decide)) (fun _ hk => hk.2) (.int .i64 t129)) (fun _ hk => hk.2) (.int .i64 t130)) (fun _ hk => trivial)))⟩;have n1_ : Aside0 (w128.heap[gb103]? = some (.cells #[.int .i64 t101,.int .i64 t102] 24 (0,0))):=⟨(by rw [hw];exact (by refine blk_mv ?_;refine blk_far ?_ NB103_107.out _;refine blk_mv ?_;refine blk_far ?_ NB103_107.out _;refine blk_mv ?_;exact BK103.out))⟩;have n2_ : Aside0 (w128.heap[gb107]? = some (.cells #[.int .i64 t129,.int .i64 t130] 24 (0,0))):=⟨(by rw [hw];exact (by refine blk_mv ?_;refine blk_put (cs:=#[.int .i64 t129,.int .i64 t118]) ?_ 1 _ rfl;refine blk_mv ?_;refine blk_put (cs:=#[.int .i64 t117,.int .i64 t118]) ?_ 0 _ rfl;refine blk_mv ?_;exact BK107.out))⟩;have n3_ : Aside0 (w128.heap[gb110]? = some (.cells #[.int .i64 x111000_111,.int .i64 x111001_111] 24 (0,0))):=⟨(by rw [hw];exact (by refine blk_mv ?_;refine blk_far ?_ NB110_107.out _;refine blk_mv ?_;refine blk_far ?_ NB110_107.out _;refine blk_mv ?_;exact BK110.out))⟩;have n4_ : Aside0 (Below w.heap.size w w128):=⟨(by rw [hw];exact bel_)⟩;clear hw;clear HO128;clear BK103;clear BK107;clear BK110;clear HB;have HO128:=n0_;have BK103:=n1_;have BK107:=n2_;have BK110:=n3_;have HB:=n4_;clear n0_ n1_ n2_ n3_ n4_;have hcz129_0:=blk_c (v:=.int .i64 t129) BK107.out 0 rfl;have hcz129_1:=blk_c (v:=.int .i64 t130) BK107.out 1 rfl;have hfz129_0:=blk_frozen BK107.out 0;have hfz129_1:=blk_frozen BK107.out 1;have hnb130:=NB110_103.out;have hnc130:=NB103_110.out;have hcz131_0:=blk_c (v:=.int .i64 x111000_111) BK110.out 0 rfl;have hcz131_1:=blk_c (v:=.int .i64 x111001_111) BK110.out 1 rfl;have hfz131_0:=blk_frozen BK110.out 0;have hfz131_1:=blk_frozen BK110.out 1)|(go_at_call 20;(with_reducible refine (changeforgeref5_LogContinues.calls kj111 (fun k_ => k_ < w.heap.size) _ _ l0 a2 t131 _ ?side1 A122.out).mono ?_);(case side1 => exact Kd.V_mk HC0.out (Kd.F_below (Kd.C_F (Kd.heap_int .i64) HR0.out) bel_));rintro e w132 ⟨v132,rfl,ho0,hb⟩;have HO133:=Aside0.mk (Kd.R_lower (Kd.R_new' (Kd.R_mono (ok':=fun k_ => True) ho0 (fun _ hk_ => trivial)) (Kd.R_lt (Kd.R_mv HO128.out))) (below_size bel_));replace HO128:=Aside0.mk (Kd.R_elder' (Kd.R_mv HO128.out) (Kd.R_base ho0) hb);replace BK103:=Aside0.mk (blk_below (blk_mv BK103.out) hb);replace BK107:=Aside0.mk (blk_below (blk_mv BK107.out) hb);replace BK110:=Aside0.mk (blk_below (blk_mv BK110.out) hb);replace HB:=Aside0.mk (below_step bel_ hb);(try clear hb);(try clear hb2);(try clear hk);(try clear hi);(try clear ho0);obtain ⟨Ao133,co133,eo133⟩:=Kd.R_slice HO128.out;subst eo133;obtain ⟨Ao134,co134,eo134⟩:=Kd.R_slice HO133.out;subst eo134)|(go_at_call 17;(with_reducible refine (changeforgeref5_Ints.calls kj111 _ _ t126 _ _ t131 t134 _ ?side1 ?side2 ?side3 ?side4 A123.out).mono ?_);(case side1 => first|exact (Kd.R_reads' HO128.out).2.2|exact Kd.C_mv (Kd.R_reads' HO128.out).2.2);(case side2 => exact (Kd.R_reads' HO128.out).2.1);(case side3 => first|exact (Kd.R_reads' HO133.out).2.2|exact Kd.C_mv (Kd.R_reads' HO133.out).2.2);(case side4 => exact (Kd.R_reads' HO133.out).2.1);rintro e w' ⟨rfl,⟨nd,rfl⟩⟩));go_ret;exact ⟨by first|rfl|(simp [errW_none,errW_some] <;> rfl)|(simp [*,errW_none,errW_some] <;> rfl),bel_⟩
                ·rw [if_neg c121] at H
                 have c121b0 : (x111000_111 == 0) = false:=beq_eq_false_iff_ne.mpr c121;have c121b1 : (x111000_111 != 0) = true:=bne_iff_ne.mpr c121;by_cases c135 : (t126.length : Int) = 0
                 ·rw [if_pos c135] at H
                  have c135b0 : ((t126.length : Int) == 0) = true:=beq_iff_eq.mpr c135;have c135b1 : ((t126.length : Int) != 0) = false:=bne_eq_false_iff_eq.mpr c135;clear c135;obtain rfl:=Option.some.inj H;go_wp2_with (first|((with_reducible refine gate_callee (f:=19) rfl ?_);refine goesL_ (some 106) rfl rfl Try.func19 (by kernel_rfl) rfl #[.slice A0 l0.length c0,.int .i64 a2] rfl ln_ ?_;(with_reducible refine (translog_ProveConsistency.calls kj111 _ _ l0 a2 t126 t129 t130 _ ?side1 ?side2 A119.out).mono ?_);(case side1 => first|exact (Kd.C_below HR0.out HB.out)|exact Kd.C_mv (Kd.C_below HR0.out HB.out));(case side2 => exact HC0.out);rintro e w136 ⟨v127,rfl,ho0,hb⟩;refine ⟨_,rfl,?_⟩;have HO128:=Aside0.mk (Kd.R_lower ho0 (below_size bel_));replace BK103:=Aside0.mk (blk_below (blk_mv BK103.out) hb);replace BK107:=Aside0.mk (blk_below (blk_mv BK107.out) hb);replace BK110:=Aside0.mk (blk_below (blk_mv BK110.out) hb);replace HB:=Aside0.mk (below_step bel_ hb);(try clear hb);(try clear hb2);(try clear hk);(try clear hi);(try clear ho0);have hnb137:=NB107_103.out;have hnc137:=NB103_107.out;have hnb138:=NB107_110.out;have hnc138:=NB110_107.out;have hcz139_0:=blk_c (v:=.int .i64 t117) BK107.out 0 rfl;have hcz139_1:=blk_c (v:=.int .i64 t118) BK107.out 1 rfl;have hfz139_0:=blk_frozen BK107.out 0;have hfz139_1:=blk_frozen BK107.out 1;have hnb140:=NB110_103.out;have hnc140:=NB103_110.out;have hcz141_0:=blk_c (v:=.int .i64 x111000_111) BK110.out 0 rfl;have hcz141_1:=blk_c (v:=.int .i64 x111001_111) BK110.out 1 rfl;have hfz141_0:=blk_frozen BK110.out 0;have hfz141_1:=blk_frozen BK110.out 1;obtain ⟨Ao142,co142,eo142⟩:=Kd.R_slice HO128.out;subst eo142));go_ret;exact ⟨by first|rfl|(simp [errW_none,errW_some] <;> rfl)|(simp [*,errW_none,errW_some] <;> rfl),bel_⟩
                 ·rw [if_neg c135] at H
                  exact absurd H (by simp)
               ·rw [if_neg c120] at H
                exact absurd H (by simp)

/-- THE ONE PURE STATEMENT of changeforgelaw5_TranslogMatchesSpec: yours. -/
def changeforgelaw5_TranslogMatchesSpec.Pure : Prop:=∀ (l0 : List Int) (a1 : Int) (a2 : Int),l0.length ≤ maxLen → l0.length * 8 ≤ 140737488351232 → (∀ x ∈ l0,(Lit.int .i64 x).wf = true) → (Lit.int .i64 a1).wf = true → (Lit.int .i64 a2).wf = true → ∃ k,changeforgelaw5_TranslogMatchesSpec.f k l0 a1 a2 = some true
theorem changeforgelaw5_TranslogMatchesSpec.walk (P : changeforgelaw5_TranslogMatchesSpec.Pure) (a0 : Option Addr) (len0 cap0 : Nat) (z0 : List Int) (a1 : Int) (a2 : Int) (w : World) (w0 : (a0 = none ∧ len0 = 0 ∧ cap0 = 0 ∧ z0 = []) ∨ ∃ x,a0 = some x ∧ len0 ≤ cap0 ∧ cap0 ≤ maxLen ∧ z0.length = cap0 ∧ (∀ i,i < z0.length → w.cell? (x.add i) = some (.int .i64 (z0.getD i 0))) ∧ ∀ n ∈ z0,(Lit.int .i64 n).wf = true) (y0 : len0 * 8 ≤ 140737488351232) (w1 : (Lit.int .i64 a1).wf = true) (w2 : (Lit.int .i64 a2).wf = true) :
  Calls Try.prog 3 #[.slice a0 len0 cap0,.int .i64 a1,.int .i64 a2] w fun e w' => e = .returned (.bool true) ∧ Below w.heap.size w w':=by
 obtain ⟨l0,rfl,hr0,hm0,hw0,hc0⟩:=ReadsInt.ofRowC w0;obtain ⟨k,h⟩:=P l0 a1 a2 hm0 y0 hw0 w1 w2;refine (changeforgelaw5_TranslogMatchesSpec.calls k _ _ l0 a1 a2 true w (Kd.C_of_reads (d:=(0 : Int)) (h1:=fun _ => rfl) hr0) hc0 h).mono ?_;rintro e w' ⟨rfl,hd⟩;exact ⟨rfl,hd⟩

end Go.Proofs.Ytmcpcdnnnnhogaa.Fn
