/- A function of the program as a plain Lean function, and the proof that the call comes to just what it says (written by wip/tools/xprint.py for this claim). Condition: the plain function has an answer. -/
import Derived.Test.YtnkonhplfldlmaaFn0
import Derived.Test.YtnkonhplfldlmaaFf11
import Derived.Test.YtnkonhplfldlmaaFf12
import Derived.Test.YtnkonhplfldlmaaFf13
import Derived.Test.YtnkonhplfldlmaaFf17
import Derived.Test.YtnkonhplfldlmaaFf18
import Derived.Test.YtnkonhplfldlmaaFf19
import Derived.Test.YtnkonhplfldlmaaFf20
import Derived.Test.YtnkonhplfldlmaaFf21
import Derived.Test.YtnkonhplfldlmaaFf23
import Derived.Test.YtnkonhplfldlmaaFs0
import Derived.Test.YtnkonhplfldlmaaWA
import Derived.Test.YtnkonhplfldlmaaTight
namespace Go.Proofs.Ytnkonhplfldlmaa.Fn
open Go.RowKit Go.Proofs.YtnkonhplfldlmaaW.PrintWords Go.Proofs.YtnkonhplfldlmaaW.PrintLast Go.Proofs.YtnkonhplfldlmaaW.PrintMore
attribute [local go_sem] max2_int min2_int max_two min_two max_three min_three max_four min_four   -- for this text's walks alone
set_option linter.unusedVariables false
set_option linter.unusedSimpArgs false

attribute [local go_sem high] eqA24
/-! ### changeforgelaw5_KeyringMatchesSpec: function 3 -/
mutual
def changeforgelaw5_KeyringMatchesSpec.j0 : Nat → List (S45) → Int → Int → Int → Bool → Int → Int → Option (Bool)
 | 0,_,_,_,_,_,_,_ => none
 | k + 1,x0,x1,x2,x3,x24,x104000,x104001 => if x24 = true then (none) else (if x104000 = 0 then ((changeforgeref5_IsKey.f x1).bind fun t108 => (if t108 = true then ((changeforgelaw5_in.f x2 0 100000).bind fun t109 => (changeforgelaw5_KeyringMatchesSpec.j1 k x0 x1 x2 x3 (!t109) x104000 x104001 x104000 x104001)) else (changeforgelaw5_KeyringMatchesSpec.j1 k x0 x1 x2 x3 true x104000 x104001 x104000 x104001))) else (changeforgelaw5_KeyringMatchesSpec.j1 k x0 x1 x2 x3 false x104000 x104001 x104000 x104001))
def changeforgelaw5_KeyringMatchesSpec.j1 : Nat → List (S45) → Int → Int → Int → Bool → Int → Int → Int → Int → Option (Bool)
 | 0,_,_,_,_,_,_,_,_,_ => none
 | k + 1,x0,x1,x2,x3,x38,x104000,x104001,x108000,x108001 => if x38 = true then ((changeforgelaw5_fault.f 3 (-1)).bind fun bt110 => (changeforgelaw5_KeyringMatchesSpec.j2 k x0 x1 x2 x3 x104000 x104001 bt110.1 bt110.2)) else (changeforgelaw5_KeyringMatchesSpec.j2 k x0 x1 x2 x3 x104000 x104001 x108000 x108001)
def changeforgelaw5_KeyringMatchesSpec.j2 : Nat → List (S45) → Int → Int → Int → Int → Int → Int → Int → Option (Bool)
 | 0,_,_,_,_,_,_,_,_ => none
 | k + 1,x0,x1,x2,x3,x104000,x104001,x108000,x108001 => (keyring_Valid.f x0 x1 x2).bind fun bt112 => (if (!(bt112.2.1 == x108000) || (!(bt112.2.2 == x108001))) = true then (changeforgelaw5_KeyringMatchesSpec.j3 k x0 x1 x2 x3 true x104000 x104001) else (if x108000 = 0 then ((changeforgeref5_KeyValid.f k x0 x1 x2).bind fun t116 => (changeforgelaw5_KeyringMatchesSpec.j3 k x0 x1 x2 x3 (bt112.1 != t116) x104000 x104001)) else (changeforgelaw5_KeyringMatchesSpec.j3 k x0 x1 x2 x3 (bt112.1 != false) x104000 x104001)))
def changeforgelaw5_KeyringMatchesSpec.j3 : Nat → List (S45) → Int → Int → Int → Bool → Int → Int → Option (Bool)
 | 0,_,_,_,_,_,_,_ => none
 | k + 1,x0,x1,x2,x3,x62,x104000,x104001 => if x62 = true then (none) else (if x104000 = 0 then ((changeforgeref5_IsKey.f x1).bind fun t117 => (changeforgelaw5_KeyringMatchesSpec.j4 k x0 x1 x2 x3 (!t117) x104000 x104001 x104000 x104001)) else (changeforgelaw5_KeyringMatchesSpec.j4 k x0 x1 x2 x3 false x104000 x104001 x104000 x104001))
def changeforgelaw5_KeyringMatchesSpec.j4 : Nat → List (S45) → Int → Int → Int → Bool → Int → Int → Int → Int → Option (Bool)
 | 0,_,_,_,_,_,_,_,_,_ => none
 | k + 1,x0,x1,x2,x3,x71,x104000,x104001,x108000,x108001 => if x71 = true then ((changeforgelaw5_fault.f 3 (-1)).bind fun bt118 => (changeforgelaw5_KeyringMatchesSpec.j5 k x0 x1 x2 x3 x104000 x104001 bt118.1 bt118.2)) else (changeforgelaw5_KeyringMatchesSpec.j5 k x0 x1 x2 x3 x104000 x104001 x108000 x108001)
def changeforgelaw5_KeyringMatchesSpec.j5 : Nat → List (S45) → Int → Int → Int → Int → Int → Int → Int → Option (Bool)
 | 0,_,_,_,_,_,_,_,_ => none
 | k + 1,x0,x1,x2,x3,x104000,x104001,x108000,x108001 => if x108000 = 0 then ((changeforgeref5_KeyOwner.f k x0 x1).bind fun t120 => (changeforgelaw5_KeyringMatchesSpec.j6 k x0 x1 x2 x3 (decide (t120 < 0)) x104000 x104001 x108000 x108001)) else (changeforgelaw5_KeyringMatchesSpec.j6 k x0 x1 x2 x3 false x104000 x104001 x108000 x108001)
def changeforgelaw5_KeyringMatchesSpec.j6 : Nat → List (S45) → Int → Int → Int → Bool → Int → Int → Int → Int → Option (Bool)
 | 0,_,_,_,_,_,_,_,_,_ => none
 | k + 1,x0,x1,x2,x3,x81,x104000,x104001,x108000,x108001 => if x81 = true then ((changeforgelaw5_fault.f 6 0).bind fun bt121 => (changeforgelaw5_KeyringMatchesSpec.j7 k x0 x1 x2 x3 x104000 x104001 bt121.1 bt121.2)) else (changeforgelaw5_KeyringMatchesSpec.j7 k x0 x1 x2 x3 x104000 x104001 x108000 x108001)
def changeforgelaw5_KeyringMatchesSpec.j7 : Nat → List (S45) → Int → Int → Int → Int → Int → Int → Int → Option (Bool)
 | 0,_,_,_,_,_,_,_,_ => none
 | k + 1,x0,x1,x2,x3,x104000,x104001,x108000,x108001 => (keyring_Owner.f x0 x1).bind fun bt123 => (if (!(bt123.2.1 == x108000) || (!(bt123.2.2 == x108001))) = true then (changeforgelaw5_KeyringMatchesSpec.j8 k x0 x2 x3 true x104000 x104001) else (if x108000 = 0 then ((changeforgeref5_KeyOwner.f k x0 x1).bind fun t126 => (changeforgelaw5_KeyringMatchesSpec.j8 k x0 x2 x3 (bt123.1 != t126) x104000 x104001)) else (if bt123.1 = 0 then (changeforgelaw5_KeyringMatchesSpec.j8 k x0 x2 x3 false x104000 x104001) else (changeforgelaw5_KeyringMatchesSpec.j8 k x0 x2 x3 true x104000 x104001))))
def changeforgelaw5_KeyringMatchesSpec.j8 : Nat → List (S45) → Int → Int → Bool → Int → Int → Option (Bool)
 | 0,_,_,_,_,_,_ => none
 | k + 1,x0,x2,x3,x112,x104000,x104001 => if x112 = true then (none) else (if x104000 = 0 then ((changeforgelaw5_in.f x3 0 7).bind fun t127 => (if t127 = true then ((changeforgelaw5_in.f x2 0 100000).bind fun t128 => (if t128 = true then ((keyring_Keys.f x0 x3 x2).bind fun bt129 => (if (bt129.2.1 == x104000 && (bt129.2.2 == x104001)) = true then ((changeforgeref5_UserKeys.f k x0 x3 x2).bind fun t134 => ((changeforgeref5_Ints.f k bt129.1 t134).bind fun t137 => (some t137))) else (none))) else ((changeforgelaw5_fault.f 3 (-1)).bind fun bt138 => ((keyring_Keys.f x0 x3 x2).bind fun bt140 => (if (bt140.2.1 == bt138.1 && (bt140.2.2 == bt138.2)) = true then (if bt138.1 = 0 then ((changeforgeref5_UserKeys.f k x0 x3 x2).bind fun t145 => ((changeforgeref5_Ints.f k bt140.1 t145).bind fun t148 => (some t148))) else (if (bt140.1.length : Int) = 0 then (some true) else (none))) else (none)))))) else ((changeforgelaw5_fault.f 3 (-1)).bind fun bt149 => ((keyring_Keys.f x0 x3 x2).bind fun bt151 => (if (bt151.2.1 == bt149.1 && (bt151.2.2 == bt149.2)) = true then (if bt149.1 = 0 then ((changeforgeref5_UserKeys.f k x0 x3 x2).bind fun t156 => ((changeforgeref5_Ints.f k bt151.1 t156).bind fun t159 => (some t159))) else (if (bt151.1.length : Int) = 0 then (some true) else (none))) else (none)))))) else ((keyring_Keys.f x0 x3 x2).bind fun bt160 => (if (bt160.2.1 == x104000 && (bt160.2.2 == x104001)) = true then (if (bt160.1.length : Int) = 0 then (some true) else (none)) else (none))))
end
def changeforgelaw5_KeyringMatchesSpec.f (k : Nat) (l0 : List (S45)) (a1 : Int) (a2 : Int) (a3 : Int) : Option (Bool):=(changeforgeref5_KeyringFault.f k l0).bind fun bt101 => ((changeforgelaw5_keys.f k).bind fun t104 => (if t104 = true then ((keyring_Validate.f l0).bind fun bt105 => (changeforgelaw5_KeyringMatchesSpec.j0 k l0 a1 a2 a3 (!(bt105.1 == bt101.1) || (!(bt105.2 == bt101.2))) bt101.1 bt101.2)) else (changeforgelaw5_KeyringMatchesSpec.j0 k l0 a1 a2 a3 true bt101.1 bt101.2)))
theorem changeforgelaw5_KeyringMatchesSpec.mono_l : ∀ k,(∀ y0 y1 y2 y3 y4 y5 y6,LeO (changeforgelaw5_KeyringMatchesSpec.j0 k y0 y1 y2 y3 y4 y5 y6) (changeforgelaw5_KeyringMatchesSpec.j0 (k + 1) y0 y1 y2 y3 y4 y5 y6)) ∧ (∀ y0 y1 y2 y3 y4 y5 y6 y7 y8,LeO (changeforgelaw5_KeyringMatchesSpec.j1 k y0 y1 y2 y3 y4 y5 y6 y7 y8) (changeforgelaw5_KeyringMatchesSpec.j1 (k + 1) y0 y1 y2 y3 y4 y5 y6 y7 y8)) ∧ (∀ y0 y1 y2 y3 y4 y5 y6 y7,LeO (changeforgelaw5_KeyringMatchesSpec.j2 k y0 y1 y2 y3 y4 y5 y6 y7) (changeforgelaw5_KeyringMatchesSpec.j2 (k + 1) y0 y1 y2 y3 y4 y5 y6 y7)) ∧ (∀ y0 y1 y2 y3 y4 y5 y6,LeO (changeforgelaw5_KeyringMatchesSpec.j3 k y0 y1 y2 y3 y4 y5 y6) (changeforgelaw5_KeyringMatchesSpec.j3 (k + 1) y0 y1 y2 y3 y4 y5 y6)) ∧ (∀ y0 y1 y2 y3 y4 y5 y6 y7 y8,LeO (changeforgelaw5_KeyringMatchesSpec.j4 k y0 y1 y2 y3 y4 y5 y6 y7 y8) (changeforgelaw5_KeyringMatchesSpec.j4 (k + 1) y0 y1 y2 y3 y4 y5 y6 y7 y8)) ∧ (∀ y0 y1 y2 y3 y4 y5 y6 y7,LeO (changeforgelaw5_KeyringMatchesSpec.j5 k y0 y1 y2 y3 y4 y5 y6 y7) (changeforgelaw5_KeyringMatchesSpec.j5 (k + 1) y0 y1 y2 y3 y4 y5 y6 y7)) ∧ (∀ y0 y1 y2 y3 y4 y5 y6 y7 y8,LeO (changeforgelaw5_KeyringMatchesSpec.j6 k y0 y1 y2 y3 y4 y5 y6 y7 y8) (changeforgelaw5_KeyringMatchesSpec.j6 (k + 1) y0 y1 y2 y3 y4 y5 y6 y7 y8)) ∧ (∀ y0 y1 y2 y3 y4 y5 y6 y7,LeO (changeforgelaw5_KeyringMatchesSpec.j7 k y0 y1 y2 y3 y4 y5 y6 y7) (changeforgelaw5_KeyringMatchesSpec.j7 (k + 1) y0 y1 y2 y3 y4 y5 y6 y7)) ∧ (∀ y0 y1 y2 y3 y4 y5,LeO (changeforgelaw5_KeyringMatchesSpec.j8 k y0 y1 y2 y3 y4 y5) (changeforgelaw5_KeyringMatchesSpec.j8 (k + 1) y0 y1 y2 y3 y4 y5))
 | 0 => ⟨fun _ _ _ _ _ _ _ r h => by simp [changeforgelaw5_KeyringMatchesSpec.j0] at h,fun _ _ _ _ _ _ _ _ _ r h => by simp [changeforgelaw5_KeyringMatchesSpec.j1] at h,fun _ _ _ _ _ _ _ _ r h => by simp [changeforgelaw5_KeyringMatchesSpec.j2] at h,fun _ _ _ _ _ _ _ r h => by simp [changeforgelaw5_KeyringMatchesSpec.j3] at h,fun _ _ _ _ _ _ _ _ _ r h => by simp [changeforgelaw5_KeyringMatchesSpec.j4] at h,fun _ _ _ _ _ _ _ _ r h => by simp [changeforgelaw5_KeyringMatchesSpec.j5] at h,fun _ _ _ _ _ _ _ _ _ r h => by simp [changeforgelaw5_KeyringMatchesSpec.j6] at h,fun _ _ _ _ _ _ _ _ r h => by simp [changeforgelaw5_KeyringMatchesSpec.j7] at h,fun _ _ _ _ _ _ r h => by simp [changeforgelaw5_KeyringMatchesSpec.j8] at h⟩
 | k + 1 => by
  obtain ⟨ih0,ih1,ih2,ih3,ih4,ih5,ih6,ih7,ih8⟩:=changeforgelaw5_KeyringMatchesSpec.mono_l k;refine ⟨?_,?_,?_,?_,?_,?_,?_,?_,?_⟩
  ·intro y0 y1 y2 y3 y4 y5 y6
   unfold changeforgelaw5_KeyringMatchesSpec.j0;repeat' first
   | (with_reducible exact ih0 _ _ _ _ _ _ _)
   | (with_reducible exact ih1 _ _ _ _ _ _ _ _ _)
   | (with_reducible exact ih2 _ _ _ _ _ _ _ _)
   | (with_reducible exact ih3 _ _ _ _ _ _ _)
   | (with_reducible exact ih4 _ _ _ _ _ _ _ _ _)
   | (with_reducible exact ih5 _ _ _ _ _ _ _ _)
   | (with_reducible exact ih6 _ _ _ _ _ _ _ _ _)
   | (with_reducible exact ih7 _ _ _ _ _ _ _ _)
   | (with_reducible exact ih8 _ _ _ _ _ _)
   | (with_reducible exact changeforgelaw5_keys.mono _)
   | (with_reducible exact changeforgeref5_Ints.mono _ _ _)
   | (with_reducible exact changeforgeref5_KeyOwner.mono _ _ _)
   | (with_reducible exact changeforgeref5_KeyValid.mono _ _ _ _)
   | (with_reducible exact changeforgeref5_KeyringFault.mono _ _)
   | (with_reducible exact changeforgeref5_UserKeys.mono _ _ _ _)
   | (with_reducible exact LeO.refl _)
   | (with_reducible exact LeO.none _)
   | (with_reducible refine LeO.ite ?_ ?_)
   | (with_reducible refine LeO.bind ?_ (fun _ => ?_))
   | exact ih0 _ _ _ _ _ _ _
   | exact ih1 _ _ _ _ _ _ _ _ _
   | exact ih2 _ _ _ _ _ _ _ _
   | exact ih3 _ _ _ _ _ _ _
   | exact ih4 _ _ _ _ _ _ _ _ _
   | exact ih5 _ _ _ _ _ _ _ _
   | exact ih6 _ _ _ _ _ _ _ _ _
   | exact ih7 _ _ _ _ _ _ _ _
   | exact ih8 _ _ _ _ _ _
   | exact changeforgelaw5_keys.mono _
   | exact changeforgeref5_Ints.mono _ _ _
   | exact changeforgeref5_KeyOwner.mono _ _ _
   | exact changeforgeref5_KeyValid.mono _ _ _ _
   | exact changeforgeref5_KeyringFault.mono _ _
   | exact changeforgeref5_UserKeys.mono _ _ _ _
   | exact LeO.none _
   | refine LeO.ite ?_ ?_
   | refine LeO.bind ?_ (fun _ => ?_)
  ·intro y0 y1 y2 y3 y4 y5 y6 y7 y8
   unfold changeforgelaw5_KeyringMatchesSpec.j1;repeat' first
   | (with_reducible exact ih0 _ _ _ _ _ _ _)
   | (with_reducible exact ih1 _ _ _ _ _ _ _ _ _)
   | (with_reducible exact ih2 _ _ _ _ _ _ _ _)
   | (with_reducible exact ih3 _ _ _ _ _ _ _)
   | (with_reducible exact ih4 _ _ _ _ _ _ _ _ _)
   | (with_reducible exact ih5 _ _ _ _ _ _ _ _)
   | (with_reducible exact ih6 _ _ _ _ _ _ _ _ _)
   | (with_reducible exact ih7 _ _ _ _ _ _ _ _)
   | (with_reducible exact ih8 _ _ _ _ _ _)
   | (with_reducible exact changeforgelaw5_keys.mono _)
   | (with_reducible exact changeforgeref5_Ints.mono _ _ _)
   | (with_reducible exact changeforgeref5_KeyOwner.mono _ _ _)
   | (with_reducible exact changeforgeref5_KeyValid.mono _ _ _ _)
   | (with_reducible exact changeforgeref5_KeyringFault.mono _ _)
   | (with_reducible exact changeforgeref5_UserKeys.mono _ _ _ _)
   | (with_reducible exact LeO.refl _)
   | (with_reducible exact LeO.none _)
   | (with_reducible refine LeO.ite ?_ ?_)
   | (with_reducible refine LeO.bind ?_ (fun _ => ?_))
   | exact ih0 _ _ _ _ _ _ _
   | exact ih1 _ _ _ _ _ _ _ _ _
   | exact ih2 _ _ _ _ _ _ _ _
   | exact ih3 _ _ _ _ _ _ _
   | exact ih4 _ _ _ _ _ _ _ _ _
   | exact ih5 _ _ _ _ _ _ _ _
   | exact ih6 _ _ _ _ _ _ _ _ _
   | exact ih7 _ _ _ _ _ _ _ _
   | exact ih8 _ _ _ _ _ _
   | exact changeforgelaw5_keys.mono _
   | exact changeforgeref5_Ints.mono _ _ _
   | exact changeforgeref5_KeyOwner.mono _ _ _
   | exact changeforgeref5_KeyValid.mono _ _ _ _
   | exact changeforgeref5_KeyringFault.mono _ _
   | exact changeforgeref5_UserKeys.mono _ _ _ _
   | exact LeO.none _
   | refine LeO.ite ?_ ?_
   | refine LeO.bind ?_ (fun _ => ?_)
  ·intro y0 y1 y2 y3 y4 y5 y6 y7
   unfold changeforgelaw5_KeyringMatchesSpec.j2;repeat' first
   | (with_reducible exact ih0 _ _ _ _ _ _ _)
   | (with_reducible exact ih1 _ _ _ _ _ _ _ _ _)
   | (with_reducible exact ih2 _ _ _ _ _ _ _ _)
   | (with_reducible exact ih3 _ _ _ _ _ _ _)
   | (with_reducible exact ih4 _ _ _ _ _ _ _ _ _)
   | (with_reducible exact ih5 _ _ _ _ _ _ _ _)
   | (with_reducible exact ih6 _ _ _ _ _ _ _ _ _)
   | (with_reducible exact ih7 _ _ _ _ _ _ _ _)
   | (with_reducible exact ih8 _ _ _ _ _ _)
   | (with_reducible exact changeforgelaw5_keys.mono _)
   | (with_reducible exact changeforgeref5_Ints.mono _ _ _)
   | (with_reducible exact changeforgeref5_KeyOwner.mono _ _ _)
   | (with_reducible exact changeforgeref5_KeyValid.mono _ _ _ _)
   | (with_reducible exact changeforgeref5_KeyringFault.mono _ _)
   | (with_reducible exact changeforgeref5_UserKeys.mono _ _ _ _)
   | (with_reducible exact LeO.refl _)
   | (with_reducible exact LeO.none _)
   | (with_reducible refine LeO.ite ?_ ?_)
   | (with_reducible refine LeO.bind ?_ (fun _ => ?_))
   | exact ih0 _ _ _ _ _ _ _
   | exact ih1 _ _ _ _ _ _ _ _ _
   | exact ih2 _ _ _ _ _ _ _ _
   | exact ih3 _ _ _ _ _ _ _
   | exact ih4 _ _ _ _ _ _ _ _ _
   | exact ih5 _ _ _ _ _ _ _ _
   | exact ih6 _ _ _ _ _ _ _ _ _
   | exact ih7 _ _ _ _ _ _ _ _
   | exact ih8 _ _ _ _ _ _
   | exact changeforgelaw5_keys.mono _
   | exact changeforgeref5_Ints.mono _ _ _
   | exact changeforgeref5_KeyOwner.mono _ _ _
   | exact changeforgeref5_KeyValid.mono _ _ _ _
   | exact changeforgeref5_KeyringFault.mono _ _
   | exact changeforgeref5_UserKeys.mono _ _ _ _
   | exact LeO.none _
   | refine LeO.ite ?_ ?_
   | refine LeO.bind ?_ (fun _ => ?_)
  ·intro y0 y1 y2 y3 y4 y5 y6
   unfold changeforgelaw5_KeyringMatchesSpec.j3;repeat' first
   | (with_reducible exact ih0 _ _ _ _ _ _ _)
   | (with_reducible exact ih1 _ _ _ _ _ _ _ _ _)
   | (with_reducible exact ih2 _ _ _ _ _ _ _ _)
   | (with_reducible exact ih3 _ _ _ _ _ _ _)
   | (with_reducible exact ih4 _ _ _ _ _ _ _ _ _)
   | (with_reducible exact ih5 _ _ _ _ _ _ _ _)
   | (with_reducible exact ih6 _ _ _ _ _ _ _ _ _)
   | (with_reducible exact ih7 _ _ _ _ _ _ _ _)
   | (with_reducible exact ih8 _ _ _ _ _ _)
   | (with_reducible exact changeforgelaw5_keys.mono _)
   | (with_reducible exact changeforgeref5_Ints.mono _ _ _)
   | (with_reducible exact changeforgeref5_KeyOwner.mono _ _ _)
   | (with_reducible exact changeforgeref5_KeyValid.mono _ _ _ _)
   | (with_reducible exact changeforgeref5_KeyringFault.mono _ _)
   | (with_reducible exact changeforgeref5_UserKeys.mono _ _ _ _)
   | (with_reducible exact LeO.refl _)
   | (with_reducible exact LeO.none _)
   | (with_reducible refine LeO.ite ?_ ?_)
   | (with_reducible refine LeO.bind ?_ (fun _ => ?_))
   | exact ih0 _ _ _ _ _ _ _
   | exact ih1 _ _ _ _ _ _ _ _ _
   | exact ih2 _ _ _ _ _ _ _ _
   | exact ih3 _ _ _ _ _ _ _
   | exact ih4 _ _ _ _ _ _ _ _ _
   | exact ih5 _ _ _ _ _ _ _ _
   | exact ih6 _ _ _ _ _ _ _ _ _
   | exact ih7 _ _ _ _ _ _ _ _
   | exact ih8 _ _ _ _ _ _
   | exact changeforgelaw5_keys.mono _
   | exact changeforgeref5_Ints.mono _ _ _
   | exact changeforgeref5_KeyOwner.mono _ _ _
   | exact changeforgeref5_KeyValid.mono _ _ _ _
   | exact changeforgeref5_KeyringFault.mono _ _
   | exact changeforgeref5_UserKeys.mono _ _ _ _
   | exact LeO.none _
   | refine LeO.ite ?_ ?_
   | refine LeO.bind ?_ (fun _ => ?_)
  ·intro y0 y1 y2 y3 y4 y5 y6 y7 y8
   unfold changeforgelaw5_KeyringMatchesSpec.j4;repeat' first
   | (with_reducible exact ih0 _ _ _ _ _ _ _)
   | (with_reducible exact ih1 _ _ _ _ _ _ _ _ _)
   | (with_reducible exact ih2 _ _ _ _ _ _ _ _)
   | (with_reducible exact ih3 _ _ _ _ _ _ _)
   | (with_reducible exact ih4 _ _ _ _ _ _ _ _ _)
   | (with_reducible exact ih5 _ _ _ _ _ _ _ _)
   | (with_reducible exact ih6 _ _ _ _ _ _ _ _ _)
   | (with_reducible exact ih7 _ _ _ _ _ _ _ _)
   | (with_reducible exact ih8 _ _ _ _ _ _)
   | (with_reducible exact changeforgelaw5_keys.mono _)
   | (with_reducible exact changeforgeref5_Ints.mono _ _ _)
   | (with_reducible exact changeforgeref5_KeyOwner.mono _ _ _)
   | (with_reducible exact changeforgeref5_KeyValid.mono _ _ _ _)
   | (with_reducible exact changeforgeref5_KeyringFault.mono _ _)
   | (with_reducible exact changeforgeref5_UserKeys.mono _ _ _ _)
   | (with_reducible exact LeO.refl _)
   | (with_reducible exact LeO.none _)
   | (with_reducible refine LeO.ite ?_ ?_)
   | (with_reducible refine LeO.bind ?_ (fun _ => ?_))
   | exact ih0 _ _ _ _ _ _ _
   | exact ih1 _ _ _ _ _ _ _ _ _
   | exact ih2 _ _ _ _ _ _ _ _
   | exact ih3 _ _ _ _ _ _ _
   | exact ih4 _ _ _ _ _ _ _ _ _
   | exact ih5 _ _ _ _ _ _ _ _
   | exact ih6 _ _ _ _ _ _ _ _ _
   | exact ih7 _ _ _ _ _ _ _ _
   | exact ih8 _ _ _ _ _ _
   | exact changeforgelaw5_keys.mono _
   | exact changeforgeref5_Ints.mono _ _ _
   | exact changeforgeref5_KeyOwner.mono _ _ _
   | exact changeforgeref5_KeyValid.mono _ _ _ _
   | exact changeforgeref5_KeyringFault.mono _ _
   | exact changeforgeref5_UserKeys.mono _ _ _ _
   | exact LeO.none _
   | refine LeO.ite ?_ ?_
   | refine LeO.bind ?_ (fun _ => ?_)
  ·intro y0 y1 y2 y3 y4 y5 y6 y7
   unfold changeforgelaw5_KeyringMatchesSpec.j5;repeat' first
   | (with_reducible exact ih0 _ _ _ _ _ _ _)
   | (with_reducible exact ih1 _ _ _ _ _ _ _ _ _)
   | (with_reducible exact ih2 _ _ _ _ _ _ _ _)
   | (with_reducible exact ih3 _ _ _ _ _ _ _)
   | (with_reducible exact ih4 _ _ _ _ _ _ _ _ _)
   | (with_reducible exact ih5 _ _ _ _ _ _ _ _)
   | (with_reducible exact ih6 _ _ _ _ _ _ _ _ _)
   | (with_reducible exact ih7 _ _ _ _ _ _ _ _)
   | (with_reducible exact ih8 _ _ _ _ _ _)
   | (with_reducible exact changeforgelaw5_keys.mono _)
   | (with_reducible exact changeforgeref5_Ints.mono _ _ _)
   | (with_reducible exact changeforgeref5_KeyOwner.mono _ _ _)
   | (with_reducible exact changeforgeref5_KeyValid.mono _ _ _ _)
   | (with_reducible exact changeforgeref5_KeyringFault.mono _ _)
   | (with_reducible exact changeforgeref5_UserKeys.mono _ _ _ _)
   | (with_reducible exact LeO.refl _)
   | (with_reducible exact LeO.none _)
   | (with_reducible refine LeO.ite ?_ ?_)
   | (with_reducible refine LeO.bind ?_ (fun _ => ?_))
   | exact ih0 _ _ _ _ _ _ _
   | exact ih1 _ _ _ _ _ _ _ _ _
   | exact ih2 _ _ _ _ _ _ _ _
   | exact ih3 _ _ _ _ _ _ _
   | exact ih4 _ _ _ _ _ _ _ _ _
   | exact ih5 _ _ _ _ _ _ _ _
   | exact ih6 _ _ _ _ _ _ _ _ _
   | exact ih7 _ _ _ _ _ _ _ _
   | exact ih8 _ _ _ _ _ _
   | exact changeforgelaw5_keys.mono _
   | exact changeforgeref5_Ints.mono _ _ _
   | exact changeforgeref5_KeyOwner.mono _ _ _
   | exact changeforgeref5_KeyValid.mono _ _ _ _
   | exact changeforgeref5_KeyringFault.mono _ _
   | exact changeforgeref5_UserKeys.mono _ _ _ _
   | exact LeO.none _
   | refine LeO.ite ?_ ?_
   | refine LeO.bind ?_ (fun _ => ?_)
  ·intro y0 y1 y2 y3 y4 y5 y6 y7 y8
   unfold changeforgelaw5_KeyringMatchesSpec.j6;repeat' first
   | (with_reducible exact ih0 _ _ _ _ _ _ _)
   | (with_reducible exact ih1 _ _ _ _ _ _ _ _ _)
   | (with_reducible exact ih2 _ _ _ _ _ _ _ _)
   | (with_reducible exact ih3 _ _ _ _ _ _ _)
   | (with_reducible exact ih4 _ _ _ _ _ _ _ _ _)
   | (with_reducible exact ih5 _ _ _ _ _ _ _ _)
   | (with_reducible exact ih6 _ _ _ _ _ _ _ _ _)
   | (with_reducible exact ih7 _ _ _ _ _ _ _ _)
   | (with_reducible exact ih8 _ _ _ _ _ _)
   | (with_reducible exact changeforgelaw5_keys.mono _)
   | (with_reducible exact changeforgeref5_Ints.mono _ _ _)
   | (with_reducible exact changeforgeref5_KeyOwner.mono _ _ _)
   | (with_reducible exact changeforgeref5_KeyValid.mono _ _ _ _)
   | (with_reducible exact changeforgeref5_KeyringFault.mono _ _)
   | (with_reducible exact changeforgeref5_UserKeys.mono _ _ _ _)
   | (with_reducible exact LeO.refl _)
   | (with_reducible exact LeO.none _)
   | (with_reducible refine LeO.ite ?_ ?_)
   | (with_reducible refine LeO.bind ?_ (fun _ => ?_))
   | exact ih0 _ _ _ _ _ _ _
   | exact ih1 _ _ _ _ _ _ _ _ _
   | exact ih2 _ _ _ _ _ _ _ _
   | exact ih3 _ _ _ _ _ _ _
   | exact ih4 _ _ _ _ _ _ _ _ _
   | exact ih5 _ _ _ _ _ _ _ _
   | exact ih6 _ _ _ _ _ _ _ _ _
   | exact ih7 _ _ _ _ _ _ _ _
   | exact ih8 _ _ _ _ _ _
   | exact changeforgelaw5_keys.mono _
   | exact changeforgeref5_Ints.mono _ _ _
   | exact changeforgeref5_KeyOwner.mono _ _ _
   | exact changeforgeref5_KeyValid.mono _ _ _ _
   | exact changeforgeref5_KeyringFault.mono _ _
   | exact changeforgeref5_UserKeys.mono _ _ _ _
   | exact LeO.none _
   | refine LeO.ite ?_ ?_
   | refine LeO.bind ?_ (fun _ => ?_)
  ·intro y0 y1 y2 y3 y4 y5 y6 y7
   unfold changeforgelaw5_KeyringMatchesSpec.j7;repeat' first
   | (with_reducible exact ih0 _ _ _ _ _ _ _)
   | (with_reducible exact ih1 _ _ _ _ _ _ _ _ _)
   | (with_reducible exact ih2 _ _ _ _ _ _ _ _)
   | (with_reducible exact ih3 _ _ _ _ _ _ _)
   | (with_reducible exact ih4 _ _ _ _ _ _ _ _ _)
   | (with_reducible exact ih5 _ _ _ _ _ _ _ _)
   | (with_reducible exact ih6 _ _ _ _ _ _ _ _ _)
   | (with_reducible exact ih7 _ _ _ _ _ _ _ _)
   | (with_reducible exact ih8 _ _ _ _ _ _)
   | (with_reducible exact changeforgelaw5_keys.mono _)
   | (with_reducible exact changeforgeref5_Ints.mono _ _ _)
   | (with_reducible exact changeforgeref5_KeyOwner.mono _ _ _)
   | (with_reducible exact changeforgeref5_KeyValid.mono _ _ _ _)
   | (with_reducible exact changeforgeref5_KeyringFault.mono _ _)
   | (with_reducible exact changeforgeref5_UserKeys.mono _ _ _ _)
   | (with_reducible exact LeO.refl _)
   | (with_reducible exact LeO.none _)
   | (with_reducible refine LeO.ite ?_ ?_)
   | (with_reducible refine LeO.bind ?_ (fun _ => ?_))
   | exact ih0 _ _ _ _ _ _ _
   | exact ih1 _ _ _ _ _ _ _ _ _
   | exact ih2 _ _ _ _ _ _ _ _
   | exact ih3 _ _ _ _ _ _ _
   | exact ih4 _ _ _ _ _ _ _ _ _
   | exact ih5 _ _ _ _ _ _ _ _
   | exact ih6 _ _ _ _ _ _ _ _ _
   | exact ih7 _ _ _ _ _ _ _ _
   | exact ih8 _ _ _ _ _ _
   | exact changeforgelaw5_keys.mono _
   | exact changeforgeref5_Ints.mono _ _ _
   | exact changeforgeref5_KeyOwner.mono _ _ _
   | exact changeforgeref5_KeyValid.mono _ _ _ _
   | exact changeforgeref5_KeyringFault.mono _ _
   | exact changeforgeref5_UserKeys.mono _ _ _ _
   | exact LeO.none _
   | refine LeO.ite ?_ ?_
   | refine LeO.bind ?_ (fun _ => ?_)
  ·intro y0 y1 y2 y3 y4 y5
   unfold changeforgelaw5_KeyringMatchesSpec.j8;repeat' first
   | (with_reducible exact ih0 _ _ _ _ _ _ _)
   | (with_reducible exact ih1 _ _ _ _ _ _ _ _ _)
   | (with_reducible exact ih2 _ _ _ _ _ _ _ _)
   | (with_reducible exact ih3 _ _ _ _ _ _ _)
   | (with_reducible exact ih4 _ _ _ _ _ _ _ _ _)
   | (with_reducible exact ih5 _ _ _ _ _ _ _ _)
   | (with_reducible exact ih6 _ _ _ _ _ _ _ _ _)
   | (with_reducible exact ih7 _ _ _ _ _ _ _ _)
   | (with_reducible exact ih8 _ _ _ _ _ _)
   | (with_reducible exact changeforgelaw5_keys.mono _)
   | (with_reducible exact changeforgeref5_Ints.mono _ _ _)
   | (with_reducible exact changeforgeref5_KeyOwner.mono _ _ _)
   | (with_reducible exact changeforgeref5_KeyValid.mono _ _ _ _)
   | (with_reducible exact changeforgeref5_KeyringFault.mono _ _)
   | (with_reducible exact changeforgeref5_UserKeys.mono _ _ _ _)
   | (with_reducible exact LeO.refl _)
   | (with_reducible exact LeO.none _)
   | (with_reducible refine LeO.ite ?_ ?_)
   | (with_reducible refine LeO.bind ?_ (fun _ => ?_))
   | exact ih0 _ _ _ _ _ _ _
   | exact ih1 _ _ _ _ _ _ _ _ _
   | exact ih2 _ _ _ _ _ _ _ _
   | exact ih3 _ _ _ _ _ _ _
   | exact ih4 _ _ _ _ _ _ _ _ _
   | exact ih5 _ _ _ _ _ _ _ _
   | exact ih6 _ _ _ _ _ _ _ _ _
   | exact ih7 _ _ _ _ _ _ _ _
   | exact ih8 _ _ _ _ _ _
   | exact changeforgelaw5_keys.mono _
   | exact changeforgeref5_Ints.mono _ _ _
   | exact changeforgeref5_KeyOwner.mono _ _ _
   | exact changeforgeref5_KeyValid.mono _ _ _ _
   | exact changeforgeref5_KeyringFault.mono _ _
   | exact changeforgeref5_UserKeys.mono _ _ _ _
   | exact LeO.none _
   | refine LeO.ite ?_ ?_
   | refine LeO.bind ?_ (fun _ => ?_)
theorem changeforgelaw5_KeyringMatchesSpec.mono : ∀ a0 a1 a2 a3 k,LeO (changeforgelaw5_KeyringMatchesSpec.f k a0 a1 a2 a3) (changeforgelaw5_KeyringMatchesSpec.f (k + 1) a0 a1 a2 a3):=by
 intro a0 a1 a2 a3 k;obtain ⟨ih0,ih1,ih2,ih3,ih4,ih5,ih6,ih7,ih8⟩:=changeforgelaw5_KeyringMatchesSpec.mono_l k;unfold changeforgelaw5_KeyringMatchesSpec.f
 repeat' first
   | (with_reducible exact ih0 _ _ _ _ _ _ _)
   | (with_reducible exact ih1 _ _ _ _ _ _ _ _ _)
   | (with_reducible exact ih2 _ _ _ _ _ _ _ _)
   | (with_reducible exact ih3 _ _ _ _ _ _ _)
   | (with_reducible exact ih4 _ _ _ _ _ _ _ _ _)
   | (with_reducible exact ih5 _ _ _ _ _ _ _ _)
   | (with_reducible exact ih6 _ _ _ _ _ _ _ _ _)
   | (with_reducible exact ih7 _ _ _ _ _ _ _ _)
   | (with_reducible exact ih8 _ _ _ _ _ _)
   | (with_reducible exact changeforgelaw5_keys.mono _)
   | (with_reducible exact changeforgeref5_Ints.mono _ _ _)
   | (with_reducible exact changeforgeref5_KeyOwner.mono _ _ _)
   | (with_reducible exact changeforgeref5_KeyValid.mono _ _ _ _)
   | (with_reducible exact changeforgeref5_KeyringFault.mono _ _)
   | (with_reducible exact changeforgeref5_UserKeys.mono _ _ _ _)
   | (with_reducible exact LeO.refl _)
   | (with_reducible exact LeO.none _)
   | (with_reducible refine LeO.ite ?_ ?_)
   | (with_reducible refine LeO.bind ?_ (fun _ => ?_))
   | exact ih0 _ _ _ _ _ _ _
   | exact ih1 _ _ _ _ _ _ _ _ _
   | exact ih2 _ _ _ _ _ _ _ _
   | exact ih3 _ _ _ _ _ _ _
   | exact ih4 _ _ _ _ _ _ _ _ _
   | exact ih5 _ _ _ _ _ _ _ _
   | exact ih6 _ _ _ _ _ _ _ _ _
   | exact ih7 _ _ _ _ _ _ _ _
   | exact ih8 _ _ _ _ _ _
   | exact changeforgelaw5_keys.mono _
   | exact changeforgeref5_Ints.mono _ _ _
   | exact changeforgeref5_KeyOwner.mono _ _ _
   | exact changeforgeref5_KeyValid.mono _ _ _ _
   | exact changeforgeref5_KeyringFault.mono _ _
   | exact changeforgeref5_UserKeys.mono _ _ _ _
   | exact LeO.none _
   | refine LeO.ite ?_ ?_
   | refine LeO.bind ?_ (fun _ => ?_)
def changeforgelaw5_KeyringMatchesSpec.T2 : Bool × List (List Nat × List Nat):=(true,[([],[]),([0],[0]),([1,0],[1]),([2],[2]),([3,2,2],[2,3]),([2],[2]),([4,5,2],[2,4,5]),([2,6],[2,6])])
def changeforgelaw5_KeyringMatchesSpec.B2 : List Nat:=[0,1,3,7,15,7,63,127]
theorem changeforgelaw5_KeyringMatchesSpec.tab2 : rtab .any (opsOf Try.f3 2) = changeforgelaw5_KeyringMatchesSpec.T2:=by kernel_rfl
theorem changeforgelaw5_KeyringMatchesSpec.bits2 : waitsOk changeforgelaw5_KeyringMatchesSpec.T2.2 changeforgelaw5_KeyringMatchesSpec.B2 = true:=by kernel_rfl
def leftNo : Code → Option Nat
  | .region n _ _ => some n
  | .seq a _ => leftNo a
  | _ => none
def tailAt (n : Nat) : Code → Option Code
  | .seq a b => if (leftNo b == some n) = true then some b else match tailAt n b with
    | some c => some c
    | none => tailAt n a
  | _ => none
theorem keepK {c : Code} {Q : Exit → Act → World → Prop} {K : Act → World → Prop} {a : Act} {w : World} (h : ∀ (a : Act) (w : World), Code.wp Try.prog c Q a w → K a w) (g : Code.wp Try.prog c Q a w) : K a w := h a w g
noncomputable def changeforgelaw5_KeyringMatchesSpec.rest13_code : Code := ((Try.f3.body.bind (tailAt 13)).getD .skip)
set_option maxHeartbeats 8000000 in
set_option maxRecDepth 100000 in
theorem changeforgelaw5_KeyringMatchesSpec.rest13 (k : Nat) (A0 : Option Addr) (c0 : Nat) (l0 : List S45) (a1 a2 a3 : Int) (r : Bool) (w : World) (HR0 : Aside0 (k45.C w A0 l0.length l0)) (HC0 : Aside0 (l0.length ≤ c0)) (t101 t102 : Int) (gb103 : Nat) (GW103 GE103 : Aside0 (w.heap.size ≤ gb103)) (kj5 : Nat) (HJ5 : Aside0 (kj5 + 1 ≤ k)) (gb107 : Nat) (GW107 GE107 : Aside0 (w.heap.size ≤ gb107)) (NB103_107 : Aside0 (gb103 ≠ gb107)) (NB107_103 : Aside0 (gb107 ≠ gb103)) (kj20 : Nat) (HJ20 : Aside0 (kj20 + 1 ≤ kj5)) (kj35 : Nat) (HJ35 : Aside0 (kj35 + 1 ≤ kj20)) (t112 : Bool) (t113 t114 : Int) (gb115 : Nat) (GW115 GE115 : Aside0 (w.heap.size ≤ gb115)) (NB103_115 : Aside0 (gb103 ≠ gb115)) (NB115_103 : Aside0 (gb115 ≠ gb103)) (NB107_115 : Aside0 (gb107 ≠ gb115)) (NB115_107 : Aside0 (gb115 ≠ gb107)) (kj42 : Nat) (HJ42 : Aside0 (kj42 + 1 ≤ kj35)) (kj67 : Nat) (HJ67 : Aside0 (kj67 + 1 ≤ kj42)) (wc : World) (u15 u16 u17 u18 u19 u20 u21 u22 u23 u24 u25 u26 u27 u28 u29 u30 u31 u32 u33 u34 u35 u36 u37 u38 u39 u40 u41 u42 u43 u44 u45 u46 u47 u48 u49 u50 u51 u52 u53 u54 u55 u56 u57 u58 u59 u60 u61 u62 u63 u64 u65 u66 u67 u68 u69 u70 u71 u72 u73 u74 u75 u76 u77 u78 u79 u80 u81 u82 u83 u84 u85 u86 u87 u88 u89 u90 u91 u92 u93 u94 u95 u96 u97 u98 u99 u100 u101 u102 u103 u104 u105 u106 u107 u108 u109 u110 u111 u112 u113 u114 u115 u116 u117 u118 u119 u120 u121 u122 u123 u124 u125 u126 u127 u128 u129 u130 u131 u132 u133 u134 u135 u136 u137 u138 u139 u140 u141 u142 u143 u144 u145 u146 u147 u148 u149 u150 u151 u152 u153 u154 u155 u156 u157 u158 u159 u160 : Value) (hcut : ∃ kq x108000_81 x108001_81, Aside0 (j5 kq l0 a1 a2 a3 t101 t102 x108000_81 x108001_81 = some r) ∧ Aside0 (kq ≤ kj67) ∧ Aside0 (wc.heap[gb103]? = some (Obj.cells #[Value.int IntKind.i64 t101, Value.int IntKind.i64 t102] 24)) ∧ Aside0 (wc.heap[gb107]? = some (Obj.cells #[Value.int IntKind.i64 x108000_81, Value.int IntKind.i64 x108001_81] 24)) ∧ Aside0 (wc.heap[gb115]? = some (Obj.cells #[Value.int IntKind.i64 t113, Value.int IntKind.i64 t114] 24)) ∧ Aside0 (Below w.heap.size w wc)) :
  Code.wp Try.prog changeforgelaw5_KeyringMatchesSpec.rest13_code (bodyPost Try.prog Try.f3 fun e w' => e = Ending.returned (Value.bool r) ∧ Below w.heap.size w w') { tmps := #[Value.slice A0 l0.length c0, Value.int IntKind.i64 a1, Value.int IntKind.i64 a2, Value.int IntKind.i64 a3, undef, undef, undef, undef, Value.bool false, Value.pointer (some { block := gb103, off := 0 }), Value.pointer (some { block := gb107, off := 0 }), Value.bool t112, Value.pointer (some { block := gb115, off := 0 }), undef, undef, u15, u16, u17, u18, u19, u20, u21, u22, u23, u24, u25, u26, u27, u28, u29, u30, u31, u32, u33, u34, u35, u36, u37, u38, u39, u40, u41, u42, u43, u44, u45, u46, u47, u48, u49, u50, u51, u52, u53, u54, u55, u56, u57, u58, u59, u60, u61, u62, u63, u64, u65, u66, u67, u68, u69, u70, u71, u72, u73, u74, u75, u76, u77, u78, u79, u80, u81, u82, u83, u84, u85, u86, u87, u88, u89, u90, u91, u92, u93, u94, u95, u96, u97, u98, u99, u100, u101, u102, u103, u104, u105, u106, u107, u108, u109, u110, u111, u112, u113, u114, u115, u116, u117, u118, u119, u120, u121, u122, u123, u124, u125, u126, u127, u128, u129, u130, u131, u132, u133, u134, u135, u136, u137, u138, u139, u140, u141, u142, u143, u144, u145, u146, u147, u148, u149, u150, u151, u152, u153, u154, u155, u156, u157, u158, u159, u160], defers := [] } wc := by
 let Q0_ : Exit → Act → World → Prop := bodyPost Try.prog Try.f3 fun e w' => e = Ending.returned (Value.bool r) ∧ Below w.heap.size w w'
 change Code.wp Try.prog changeforgelaw5_KeyringMatchesSpec.rest13_code Q0_ _ _
 conv => arg 2; whnf
 dsimp only
 (try clear c1);(try clear c2);(try clear p2);(try clear c3);(try clear c4);(try clear c5);(try clear c6);(try clear c7);(try clear c8);(try clear c11);(try clear c12);(try clear c13);(try clear c16);(try clear c17);(try clear c20);(try clear c24);(try clear c26);(try clear c26b0);(try clear c26b1);(try clear c28);(try clear c30);(try clear c32);(try clear c34);(try clear c37);(try clear c40);(try clear c46);(try clear c47);(try clear c49);(try clear c49b0);(try clear c50);(try clear c51);(try clear c53);(try clear c55);(try clear c55b0);(try clear c55b1);(try clear c57);(try clear c58);(try clear c60);(try clear c62);(try clear c63);(try clear c65);(try clear c67);(try clear c69);(try clear c70);(try clear c72);(try clear c74);(try clear c74b0);(try clear c74b1);(try clear c76);(try clear c77);(try clear c79);(try clear c80);(try clear c83);(try clear c86);(try clear c87);(try clear hcz22_0);(try clear hcz22_1);(try clear hcz25_0);(try clear hcz25_1);(try clear hcz31_0);(try clear hcz31_1);(try clear hcz33_0);(try clear hcz33_1);(try clear hcz35_0);(try clear hcz35_1);(try clear hcz41_0);(try clear hcz41_1);(try clear hcz48_0);(try clear hcz48_1);(try clear hcz52_0);(try clear hcz52_1);(try clear hcz54_0);(try clear hcz54_1);(try clear hcz59_0);(try clear hcz59_1);(try clear hcz61_0);(try clear hcz61_1);(try clear hcz64_0);(try clear hcz64_1);(try clear hcz66_0);(try clear hcz66_1);(try clear hcz71_0);(try clear hcz71_1);(try clear hcz73_0);(try clear hcz73_1);(try clear hcz78_0);(try clear hcz78_1);(try clear hcz81_0);(try clear hcz81_1);(try clear hcz88_0);(try clear hcz88_1);(try clear hcz9_0);(try clear hcz9_1);(try clear hfz22_0);(try clear hfz22_1);(try clear hfz25_0);(try clear hfz25_1);(try clear hfz31_0);(try clear hfz31_1);(try clear hfz33_0);(try clear hfz33_1);(try clear hfz35_0);(try clear hfz35_1);(try clear hfz41_0);(try clear hfz41_1);(try clear hfz48_0);(try clear hfz48_1);(try clear hfz52_0);(try clear hfz52_1);(try clear hfz54_0);(try clear hfz54_1);(try clear hfz59_0);(try clear hfz59_1);(try clear hfz61_0);(try clear hfz61_1);(try clear hfz64_0);(try clear hfz64_1);(try clear hfz66_0);(try clear hfz66_1);(try clear hfz71_0);(try clear hfz71_1);(try clear hfz73_0);(try clear hfz73_1);(try clear hfz78_0);(try clear hfz78_1);(try clear hfz81_0);(try clear hfz81_1);(try clear hfz88_0);(try clear hfz88_1);(try clear hfz9_0);(try clear hfz9_1);(try clear p2);obtain ⟨kq,x108000_81,x108001_81,HA,HJ81,BK103,BK107,BK115,HB⟩:=hcut;cases kq with
 | zero => exact absurd HA.out (by simp [changeforgelaw5_KeyringMatchesSpec.j5])
 | succ kj81 =>
  have H:=HA.out;clear HA;simp only [changeforgelaw5_KeyringMatchesSpec.j5] at H;have HC89:=Aside0.mk H;clear H;go_upto_region 13 with (fail);go_cut [81] (fun v81 wc => ∃ (kq : Nat) (x81_88 : Bool),v81 = .bool x81_88 ∧ Aside0 (changeforgelaw5_KeyringMatchesSpec.j6 kq l0 a1 a2 a3 x81_88 t101 t102 x108000_81 x108001_81 = some r) ∧ Aside0 (kq ≤ kj81) ∧ Aside0 (wc.heap[gb103]? = some (.cells #[.int .i64 t101,.int .i64 t102] 24 (0,0))) ∧ Aside0 (wc.heap[gb107]? = some (.cells #[.int .i64 x108000_81,.int .i64 x108001_81] 24 (0,0))) ∧ Aside0 (wc.heap[gb115]? = some (.cells #[.int .i64 t113,.int .i64 t114] 24 (0,0))) ∧ Aside0 (Below w.heap.size w wc))
  case first =>
   have H:=HC89.out;clear HC89;by_cases c90 : x108000_81 = 0
   ·rw [if_pos c90] at H
    have c90b0 : (x108000_81 == 0) = true:=beq_iff_eq.mpr c90;have c90b1 : (x108000_81 != 0) = false:=bne_eq_false_iff_eq.mpr c90;clear c90;(first|rw [c90b0]|(simp only [i64_w,i32_w];rw [c90b0])|skip);replace H:=Option.bind_eq_some_iff.mp H;obtain ⟨t120,A910,H⟩:=H;replace H : (changeforgelaw5_KeyringMatchesSpec.j6 kj81 l0 a1 a2 a3 (decide (t120 < 0)) t101 t102 x108000_81 x108001_81) = some r:=H;have A91:=Aside0.mk A910;clear A910;have H':=Aside0.mk H;clear H;have hnb92:=NB107_103.out;have hnc92:=NB103_107.out;have hnb93:=NB107_115.out;have hnc93:=NB115_107.out;have hcz94_0:=blk_c (v:=.int .i64 x108000_81) BK107.out 0 rfl;have hcz94_1:=blk_c (v:=.int .i64 x108001_81) BK107.out 1 rfl;have hfz94_0:=blk_frozen BK107.out 0;have hfz94_1:=blk_frozen BK107.out 1;go_wp2_with (first|(go_at_call 19;(with_reducible refine (changeforgeref5_KeyOwner.calls kj81 _ _ l0 a1 t120 _ ?side1 ?side2 A91.out).mono ?_);(case side1 => first|exact (Kd.C_below HR0.out HB.out)|exact Kd.C_mv (Kd.C_below HR0.out HB.out));(case side2 => exact HC0.out);rintro e w' ⟨rfl,⟨nd,rfl⟩⟩));go_meet
    case rel => exact ⟨_,(decide (t120 < 0)),fr_,H',⟨by have:=HJ5.out;have:=HJ20.out;have:=HJ35.out;have:=HJ42.out;have:=HJ67.out;have:=HJ81.out;first|omega|exact Nat.le_refl _⟩,⟨blk_mv BK103.out⟩,⟨blk_mv BK107.out⟩,⟨blk_mv BK115.out⟩,⟨bel_⟩⟩
   ·rw [if_neg c90] at H
    have c90b0 : (x108000_81 == 0) = false:=beq_eq_false_iff_ne.mpr c90;have c90b1 : (x108000_81 != 0) = true:=bne_iff_ne.mpr c90;(first|rw [c90b0]|(simp only [i64_w,i32_w];rw [c90b0])|skip);have H':=Aside0.mk H;clear H;have hnb95:=NB107_103.out;have hnc95:=NB103_107.out;have hnb96:=NB107_115.out;have hnc96:=NB115_107.out;have hcz97_0:=blk_c (v:=.int .i64 x108000_81) BK107.out 0 rfl;have hcz97_1:=blk_c (v:=.int .i64 x108001_81) BK107.out 1 rfl;have hfz97_0:=blk_frozen BK107.out 0;have hfz97_1:=blk_frozen BK107.out 1;go_wp2;go_meet
    case rel => exact ⟨_,(false),fr_,H',⟨by have:=HJ5.out;have:=HJ20.out;have:=HJ35.out;have:=HJ42.out;have:=HJ67.out;have:=HJ81.out;first|omega|exact Nat.le_refl _⟩,⟨blk_mv BK103.out⟩,⟨blk_mv BK107.out⟩,⟨blk_mv BK115.out⟩,⟨bel_⟩⟩
  case rest =>
   clear HC89;(try clear c1);(try clear c2);(try clear p2);(try clear c3);(try clear c4);(try clear c5);(try clear c6);(try clear c7);(try clear c8);(try clear c9);(try clear c11);(try clear c12);(try clear c13);(try clear c16);(try clear c17);(try clear c20);(try clear c24);(try clear c26);(try clear c26b0);(try clear c26b1);(try clear c28);(try clear c30);(try clear c32);(try clear c34);(try clear c37);(try clear c40);(try clear c46);(try clear c47);(try clear c49);(try clear c49b0);(try clear c50);(try clear c51);(try clear c53);(try clear c55);(try clear c55b0);(try clear c55b1);(try clear c57);(try clear c58);(try clear c60);(try clear c62);(try clear c63);(try clear c65);(try clear c67);(try clear c69);(try clear c70);(try clear c72);(try clear c74);(try clear c74b0);(try clear c74b1);(try clear c76);(try clear c77);(try clear c79);(try clear c80);(try clear c83);(try clear c86);(try clear c87);(try clear c90);(try clear c90b0);(try clear c90b1);(try clear c92);(try clear c93);(try clear c95);(try clear c96);(try clear hcz22_0);(try clear hcz22_1);(try clear hcz25_0);(try clear hcz25_1);(try clear hcz31_0);(try clear hcz31_1);(try clear hcz33_0);(try clear hcz33_1);(try clear hcz35_0);(try clear hcz35_1);(try clear hcz41_0);(try clear hcz41_1);(try clear hcz48_0);(try clear hcz48_1);(try clear hcz52_0);(try clear hcz52_1);(try clear hcz54_0);(try clear hcz54_1);(try clear hcz59_0);(try clear hcz59_1);(try clear hcz61_0);(try clear hcz61_1);(try clear hcz64_0);(try clear hcz64_1);(try clear hcz66_0);(try clear hcz66_1);(try clear hcz71_0);(try clear hcz71_1);(try clear hcz73_0);(try clear hcz73_1);(try clear hcz78_0);(try clear hcz78_1);(try clear hcz81_0);(try clear hcz81_1);(try clear hcz88_0);(try clear hcz88_1);(try clear hcz94_0);(try clear hcz94_1);(try clear hcz97_0);(try clear hcz97_1);(try clear hcz9_0);(try clear hcz9_1);(try clear hfz22_0);(try clear hfz22_1);(try clear hfz25_0);(try clear hfz25_1);(try clear hfz31_0);(try clear hfz31_1);(try clear hfz33_0);(try clear hfz33_1);(try clear hfz35_0);(try clear hfz35_1);(try clear hfz41_0);(try clear hfz41_1);(try clear hfz48_0);(try clear hfz48_1);(try clear hfz52_0);(try clear hfz52_1);(try clear hfz54_0);(try clear hfz54_1);(try clear hfz59_0);(try clear hfz59_1);(try clear hfz61_0);(try clear hfz61_1);(try clear hfz64_0);(try clear hfz64_1);(try clear hfz66_0);(try clear hfz66_1);(try clear hfz71_0);(try clear hfz71_1);(try clear hfz73_0);(try clear hfz73_1);(try clear hfz78_0);(try clear hfz78_1);(try clear hfz81_0);(try clear hfz81_1);(try clear hfz88_0);(try clear hfz88_1);(try clear hfz94_0);(try clear hfz94_1);(try clear hfz97_0);(try clear hfz97_1);(try clear hfz9_0);(try clear hfz9_1);(try clear p2);obtain ⟨kq,x81_88,rfl,HA,HJ88,BK103,BK107,BK115,HB⟩:=hcut;cases kq with
   | zero => exact absurd HA.out (by simp [changeforgelaw5_KeyringMatchesSpec.j6])
   | succ kj88 =>
    have H:=HA.out;clear HA;simp only [changeforgelaw5_KeyringMatchesSpec.j6] at H;have HC98:=Aside0.mk H;clear H;go_upto_if 81 with (fail);go_cut [] (fun wc => ∃ (kq : Nat) (x108000_97 : Int) (x108001_97 : Int),Aside0 (changeforgelaw5_KeyringMatchesSpec.j7 kq l0 a1 a2 a3 t101 t102 x108000_97 x108001_97 = some r) ∧ Aside0 (kq ≤ kj88) ∧ Aside0 (wc.heap[gb103]? = some (.cells #[.int .i64 t101,.int .i64 t102] 24 (0,0))) ∧ Aside0 (wc.heap[gb107]? = some (.cells #[.int .i64 x108000_97,.int .i64 x108001_97] 24 (0,0))) ∧ Aside0 (wc.heap[gb115]? = some (.cells #[.int .i64 t113,.int .i64 t114] 24 (0,0))) ∧ Aside0 (Below w.heap.size w wc))
    case first =>
     have H:=HC98.out;clear HC98;by_cases c99 : x81_88 = true
     ·subst c99
      have H1 : ((changeforgelaw5_fault.f 6 0).bind fun bt121 => (changeforgelaw5_KeyringMatchesSpec.j7 kj88 l0 a1 a2 a3 t101 t102 bt121.1 bt121.2)) = some r:=by rw [if_pos rfl] at H;exact H
      clear H;have H:=H1;clear H1;replace H:=Option.bind_eq_some_iff.mp H;obtain ⟨⟨t121,t122⟩,A1000,H⟩:=H;replace H : (changeforgelaw5_KeyringMatchesSpec.j7 kj88 l0 a1 a2 a3 t101 t102 t121 t122) = some r:=H;have A100:=Aside0.mk A1000;clear A1000;have H':=Aside0.mk H;clear H;go_wp2_with (first|((with_reducible refine gate_callee (f:=16) rfl ?_);refine goesL_ (some 82) rfl rfl Try.func16 (by kernel_rfl) rfl #[.int .i64 6,.int .i64 0] rfl ln_ ?_;(with_reducible refine (changeforgelaw5_fault.calls 6 0 t121 t122 _ A100.out).mono ?_);rintro e w101 ⟨rfl,hb⟩;refine ⟨_,rfl,?_⟩;replace BK103:=Aside0.mk (blk_below (blk_mv BK103.out) hb);replace BK107:=Aside0.mk (blk_below (blk_mv BK107.out) hb);replace BK115:=Aside0.mk (blk_below (blk_mv BK115.out) hb);replace HB:=Aside0.mk (below_step bel_ hb);(try clear hb);(try clear hb2);(try clear hk);(try clear hi);have hnb102:=NB107_103.out;have hnc102:=NB103_107.out;have hnb103:=NB107_115.out;have hnc103:=NB115_107.out;have hcz104_0:=blk_c (v:=.int .i64 x108000_81) BK107.out 0 rfl;have hcz104_1:=blk_c (v:=.int .i64 x108001_81) BK107.out 1 rfl;have hfz104_0:=blk_frozen BK107.out 0;have hfz104_1:=blk_frozen BK107.out 1));go_meet
      case rel => exact ⟨_,(t121),(t122),H',⟨by have:=HJ5.out;have:=HJ20.out;have:=HJ35.out;have:=HJ42.out;have:=HJ67.out;have:=HJ81.out;have:=HJ88.out;first|omega|exact Nat.le_refl _⟩,⟨by refine blk_mv ?_;refine blk_far ?_ NB103_107.out _;refine blk_mv ?_;refine blk_far ?_ NB103_107.out _;refine blk_mv ?_;exact BK103.out⟩,⟨by refine blk_mv ?_;refine blk_put (cs:=#[.int .i64 t121,.int .i64 x108001_81]) ?_ 1 _ rfl;refine blk_mv ?_;refine blk_put (cs:=#[.int .i64 x108000_81,.int .i64 x108001_81]) ?_ 0 _ rfl;refine blk_mv ?_;exact BK107.out⟩,⟨by refine blk_mv ?_;refine blk_far ?_ NB115_107.out _;refine blk_mv ?_;refine blk_far ?_ NB115_107.out _;refine blk_mv ?_;exact BK115.out⟩,⟨bel_⟩⟩
     ·replace c99:=Bool.eq_false_iff.mpr c99
      subst c99;have H1 : (changeforgelaw5_KeyringMatchesSpec.j7 kj88 l0 a1 a2 a3 t101 t102 x108000_81 x108001_81) = some r:=by rw [if_neg (show ¬ (false = true) by decide)] at H;exact H
      clear H;have H:=H1;clear H1;have H':=Aside0.mk H;clear H;go_wp2;go_meet
      case rel => exact ⟨_,(x108000_81),(x108001_81),H',⟨by have:=HJ5.out;have:=HJ20.out;have:=HJ35.out;have:=HJ42.out;have:=HJ67.out;have:=HJ81.out;have:=HJ88.out;first|omega|exact Nat.le_refl _⟩,⟨blk_mv BK103.out⟩,⟨blk_mv BK107.out⟩,⟨blk_mv BK115.out⟩,⟨bel_⟩⟩
    case rest =>
     clear HC98;(try clear c1);(try clear c2);(try clear p2);(try clear c3);(try clear c4);(try clear c5);(try clear c6);(try clear c7);(try clear c8);(try clear c9);(try clear c10);(try clear c11);(try clear c12);(try clear c13);(try clear c16);(try clear c17);(try clear c20);(try clear c24);(try clear c26);(try clear c26b0);(try clear c26b1);(try clear c28);(try clear c30);(try clear c32);(try clear c34);(try clear c37);(try clear c40);(try clear c46);(try clear c47);(try clear c49);(try clear c49b0);(try clear c50);(try clear c51);(try clear c53);(try clear c55);(try clear c55b0);(try clear c55b1);(try clear c57);(try clear c58);(try clear c60);(try clear c62);(try clear c63);(try clear c65);(try clear c67);(try clear c69);(try clear c70);(try clear c72);(try clear c74);(try clear c74b0);(try clear c74b1);(try clear c76);(try clear c77);(try clear c79);(try clear c80);(try clear c83);(try clear c86);(try clear c87);(try clear c90);(try clear c90b0);(try clear c90b1);(try clear c92);(try clear c93);(try clear c95);(try clear c96);(try clear c99);(try clear c102);(try clear c103);(try clear hcz104_0);(try clear hcz104_1);(try clear hcz22_0);(try clear hcz22_1);(try clear hcz25_0);(try clear hcz25_1);(try clear hcz31_0);(try clear hcz31_1);(try clear hcz33_0);(try clear hcz33_1);(try clear hcz35_0);(try clear hcz35_1);(try clear hcz41_0);(try clear hcz41_1);(try clear hcz48_0);(try clear hcz48_1);(try clear hcz52_0);(try clear hcz52_1);(try clear hcz54_0);(try clear hcz54_1);(try clear hcz59_0);(try clear hcz59_1);(try clear hcz61_0);(try clear hcz61_1);(try clear hcz64_0);(try clear hcz64_1);(try clear hcz66_0);(try clear hcz66_1);(try clear hcz71_0);(try clear hcz71_1);(try clear hcz73_0);(try clear hcz73_1);(try clear hcz78_0);(try clear hcz78_1);(try clear hcz81_0);(try clear hcz81_1);(try clear hcz88_0);(try clear hcz88_1);(try clear hcz94_0);(try clear hcz94_1);(try clear hcz97_0);(try clear hcz97_1);(try clear hcz9_0);(try clear hcz9_1);(try clear hfz104_0);(try clear hfz104_1);(try clear hfz22_0);(try clear hfz22_1);(try clear hfz25_0);(try clear hfz25_1);(try clear hfz31_0);(try clear hfz31_1);(try clear hfz33_0);(try clear hfz33_1);(try clear hfz35_0);(try clear hfz35_1);(try clear hfz41_0);(try clear hfz41_1);(try clear hfz48_0);(try clear hfz48_1);(try clear hfz52_0);(try clear hfz52_1);(try clear hfz54_0);(try clear hfz54_1);(try clear hfz59_0);(try clear hfz59_1);(try clear hfz61_0);(try clear hfz61_1);(try clear hfz64_0);(try clear hfz64_1);(try clear hfz66_0);(try clear hfz66_1);(try clear hfz71_0);(try clear hfz71_1);(try clear hfz73_0);(try clear hfz73_1);(try clear hfz78_0);(try clear hfz78_1);(try clear hfz81_0);(try clear hfz81_1);(try clear hfz88_0);(try clear hfz88_1);(try clear hfz94_0);(try clear hfz94_1);(try clear hfz97_0);(try clear hfz97_1);(try clear hfz9_0);(try clear hfz9_1);(try clear p2);obtain ⟨kq,x108000_97,x108001_97,HA,HJ97,BK103,BK107,BK115,HB⟩:=hcut;cases kq with
     | zero => exact absurd HA.out (by simp [changeforgelaw5_KeyringMatchesSpec.j7])
     | succ kj97 =>
      have H:=HA.out;clear HA;simp only [changeforgelaw5_KeyringMatchesSpec.j7] at H;replace H:=Option.bind_eq_some_iff.mp H;obtain ⟨⟨t123,t124,t125⟩,A1050,H⟩:=H;replace H : (if (!(t124 == x108000_97) || (!(t125 == x108001_97))) = true then (changeforgelaw5_KeyringMatchesSpec.j8 kj97 l0 a2 a3 true t101 t102) else (if x108000_97 = 0 then ((changeforgeref5_KeyOwner.f kj97 l0 a1).bind fun t126 => (changeforgelaw5_KeyringMatchesSpec.j8 kj97 l0 a2 a3 (t123 != t126) t101 t102)) else (if t123 = 0 then (changeforgelaw5_KeyringMatchesSpec.j8 kj97 l0 a2 a3 false t101 t102) else (changeforgelaw5_KeyringMatchesSpec.j8 kj97 l0 a2 a3 true t101 t102)))) = some r:=H;have A105:=Aside0.mk A1050;clear A1050;have HC106:=Aside0.mk H;clear H;go_upto_region 16 with (first|((with_reducible refine gate_callee (f:=20) rfl ?_);refine goesL_ (some 86) rfl rfl Try.func20 (by kernel_rfl) rfl #[.slice A0 l0.length c0,.int .i64 a1] rfl ln_ ?_;(with_reducible refine (keyring_Owner.calls _ _ l0 a1 t123 t124 t125 _ ?side1 ?side2 A105.out).mono ?_);(case side1 => first|exact (Kd.C_below HR0.out HB.out)|exact Kd.C_mv (Kd.C_below HR0.out HB.out));(case side2 => exact HC0.out);rintro e w107 ⟨rfl,hb⟩;refine ⟨_,rfl,?_⟩;replace BK103:=Aside0.mk (blk_below (blk_mv BK103.out) hb);replace BK107:=Aside0.mk (blk_below (blk_mv BK107.out) hb);replace BK115:=Aside0.mk (blk_below (blk_mv BK115.out) hb);replace HB:=Aside0.mk (below_step bel_ hb);(try clear hb);(try clear hb2);(try clear hk);(try clear hi);have hnb108:=NB115_103.out;have hnc108:=NB103_115.out;have hnb109:=NB115_107.out;have hnc109:=NB107_115.out;have hcz110_0:=blk_c (v:=.int .i64 t113) BK115.out 0 rfl;have hcz110_1:=blk_c (v:=.int .i64 t114) BK115.out 1 rfl;have hfz110_0:=blk_frozen BK115.out 0;have hfz110_1:=blk_frozen BK115.out 1));(try simp only [Act.put,sa_,sb_,sc_]);go_cut [112] (fun v112 wc => ∃ (kq : Nat) (x112_105 : Bool),v112 = .bool x112_105 ∧ Aside0 (changeforgelaw5_KeyringMatchesSpec.j8 kq l0 a2 a3 x112_105 t101 t102 = some r) ∧ Aside0 (kq ≤ kj97) ∧ Aside0 (wc.heap[gb103]? = some (.cells #[.int .i64 t101,.int .i64 t102] 24 (0,0))) ∧ Aside0 (wc.heap[gb107]? = some (.cells #[.int .i64 x108000_97,.int .i64 x108001_97] 24 (0,0))) ∧ Aside0 (wc.heap[gb115]? = some (.cells #[.int .i64 t124,.int .i64 t125] 24 (0,0))) ∧ Aside0 (Below w.heap.size w wc))
      case first =>
       have H:=HC106.out;clear HC106;by_cases c111 : (!(t124 == x108000_97) || (!(t125 == x108001_97))) = true
       ·rw [if_pos c111] at H
        have c111b0 : (!(t124 == x108000_97) || (!(t125 == x108001_97))) = true:=c111;clear c111;(first|rw [c111b0]|(simp only [i64_w,i32_w];rw [c111b0])|skip);have H':=Aside0.mk H;clear H;have hnb112:=NB115_103.out;have hnc112:=NB103_115.out;have hnb113:=NB115_107.out;have hnc113:=NB107_115.out;have hcz114_0:=blk_c (v:=.int .i64 t113) BK115.out 0 rfl;have hcz114_1:=blk_c (v:=.int .i64 t114) BK115.out 1 rfl;have hfz114_0:=blk_frozen BK115.out 0;have hfz114_1:=blk_frozen BK115.out 1;have hnb115:=NB107_103.out;have hnc115:=NB103_107.out;have hcz116_0:=blk_c (v:=.int .i64 x108000_97) BK107.out 0 rfl;have hcz116_1:=blk_c (v:=.int .i64 x108001_97) BK107.out 1 rfl;have hfz116_0:=blk_frozen BK107.out 0;have hfz116_1:=blk_frozen BK107.out 1;go_wp2;go_meet
        case rel => exact ⟨_,(true),fr_,H',⟨by have:=HJ5.out;have:=HJ20.out;have:=HJ35.out;have:=HJ42.out;have:=HJ67.out;have:=HJ81.out;have:=HJ88.out;have:=HJ97.out;first|omega|exact Nat.le_refl _⟩,⟨by refine blk_mv ?_;refine blk_far ?_ NB103_115.out _;refine blk_mv ?_;refine blk_far ?_ NB103_115.out _;refine blk_mv ?_;exact BK103.out⟩,⟨by refine blk_mv ?_;refine blk_far ?_ NB107_115.out _;refine blk_mv ?_;refine blk_far ?_ NB107_115.out _;refine blk_mv ?_;exact BK107.out⟩,⟨by refine blk_mv ?_;refine blk_put (cs:=#[.int .i64 t124,.int .i64 t114]) ?_ 1 _ rfl;refine blk_mv ?_;refine blk_put (cs:=#[.int .i64 t113,.int .i64 t114]) ?_ 0 _ rfl;refine blk_mv ?_;exact BK115.out⟩,⟨bel_⟩⟩
       ·rw [if_neg c111] at H
        have c111b0 : (!(t124 == x108000_97) || (!(t125 == x108001_97))) = false:=by simpa using c111
        clear c111;(first|rw [c111b0]|(simp only [i64_w,i32_w];rw [c111b0])|skip);by_cases c117 : x108000_97 = 0
        ·rw [if_pos c117] at H
         have c117b0 : (x108000_97 == 0) = true:=beq_iff_eq.mpr c117;have c117b1 : (x108000_97 != 0) = false:=bne_eq_false_iff_eq.mpr c117;clear c117;replace H:=Option.bind_eq_some_iff.mp H;obtain ⟨t126,A1180,H⟩:=H;replace H : (changeforgelaw5_KeyringMatchesSpec.j8 kj97 l0 a2 a3 (t123 != t126) t101 t102) = some r:=H;have A118:=Aside0.mk A1180;clear A1180;have H':=Aside0.mk H;clear H;have hnb119:=NB115_103.out;have hnc119:=NB103_115.out;have hnb120:=NB115_107.out;have hnc120:=NB107_115.out;have hcz121_0:=blk_c (v:=.int .i64 t113) BK115.out 0 rfl;have hcz121_1:=blk_c (v:=.int .i64 t114) BK115.out 1 rfl;have hfz121_0:=blk_frozen BK115.out 0;have hfz121_1:=blk_frozen BK115.out 1;have hnb122:=NB107_103.out;have hnc122:=NB103_107.out;have hcz123_0:=blk_c (v:=.int .i64 x108000_97) BK107.out 0 rfl;have hcz123_1:=blk_c (v:=.int .i64 x108001_97) BK107.out 1 rfl;have hfz123_0:=blk_frozen BK107.out 0;have hfz123_1:=blk_frozen BK107.out 1;go_wp2_with (first|(go_at_call 19;(with_reducible refine (changeforgeref5_KeyOwner.calls kj97 _ _ l0 a1 t126 _ ?side1 ?side2 A118.out).mono ?_);(case side1 => exact Kd.C_below HR0.out bel_);(case side2 => exact HC0.out);rintro e w' ⟨rfl,⟨nd,rfl⟩⟩));go_meet
         case rel => exact ⟨_,((t123 != t126)),fr_,H',⟨by have:=HJ5.out;have:=HJ20.out;have:=HJ35.out;have:=HJ42.out;have:=HJ67.out;have:=HJ81.out;have:=HJ88.out;have:=HJ97.out;first|omega|exact Nat.le_refl _⟩,⟨by refine blk_mv ?_;refine blk_far ?_ NB103_115.out _;refine blk_mv ?_;refine blk_far ?_ NB103_115.out _;refine blk_mv ?_;exact BK103.out⟩,⟨by refine blk_mv ?_;refine blk_far ?_ NB107_115.out _;refine blk_mv ?_;refine blk_far ?_ NB107_115.out _;refine blk_mv ?_;exact BK107.out⟩,⟨by refine blk_mv ?_;refine blk_put (cs:=#[.int .i64 t124,.int .i64 t114]) ?_ 1 _ rfl;refine blk_mv ?_;refine blk_put (cs:=#[.int .i64 t113,.int .i64 t114]) ?_ 0 _ rfl;refine blk_mv ?_;exact BK115.out⟩,⟨bel_⟩⟩
        ·rw [if_neg c117] at H
         have c117b0 : (x108000_97 == 0) = false:=beq_eq_false_iff_ne.mpr c117;have c117b1 : (x108000_97 != 0) = true:=bne_iff_ne.mpr c117;by_cases c124 : t123 = 0
         ·rw [if_pos c124] at H
          have c124b0 : (t123 == 0) = true:=beq_iff_eq.mpr c124;have c124b1 : (t123 != 0) = false:=bne_eq_false_iff_eq.mpr c124;clear c124;have H':=Aside0.mk H;clear H;have hnb125:=NB115_103.out;have hnc125:=NB103_115.out;have hnb126:=NB115_107.out;have hnc126:=NB107_115.out;have hcz127_0:=blk_c (v:=.int .i64 t113) BK115.out 0 rfl;have hcz127_1:=blk_c (v:=.int .i64 t114) BK115.out 1 rfl;have hfz127_0:=blk_frozen BK115.out 0;have hfz127_1:=blk_frozen BK115.out 1;have hnb128:=NB107_103.out;have hnc128:=NB103_107.out;have hcz129_0:=blk_c (v:=.int .i64 x108000_97) BK107.out 0 rfl;have hcz129_1:=blk_c (v:=.int .i64 x108001_97) BK107.out 1 rfl;have hfz129_0:=blk_frozen BK107.out 0;have hfz129_1:=blk_frozen BK107.out 1;go_wp2;go_meet
          case rel => exact ⟨_,(false),fr_,H',⟨by have:=HJ5.out;have:=HJ20.out;have:=HJ35.out;have:=HJ42.out;have:=HJ67.out;have:=HJ81.out;have:=HJ88.out;have:=HJ97.out;first|omega|exact Nat.le_refl _⟩,⟨by refine blk_mv ?_;refine blk_far ?_ NB103_115.out _;refine blk_mv ?_;refine blk_far ?_ NB103_115.out _;refine blk_mv ?_;exact BK103.out⟩,⟨by refine blk_mv ?_;refine blk_far ?_ NB107_115.out _;refine blk_mv ?_;refine blk_far ?_ NB107_115.out _;refine blk_mv ?_;exact BK107.out⟩,⟨by refine blk_mv ?_;refine blk_put (cs:=#[.int .i64 t124,.int .i64 t114]) ?_ 1 _ rfl;refine blk_mv ?_;refine blk_put (cs:=#[.int .i64 t113,.int .i64 t114]) ?_ 0 _ rfl;refine blk_mv ?_;exact BK115.out⟩,⟨bel_⟩⟩
         ·rw [if_neg c124] at H
          have c124b0 : (t123 == 0) = false:=beq_eq_false_iff_ne.mpr c124;have c124b1 : (t123 != 0) = true:=bne_iff_ne.mpr c124;have H':=Aside0.mk H;clear H;have hnb130:=NB115_103.out;have hnc130:=NB103_115.out;have hnb131:=NB115_107.out;have hnc131:=NB107_115.out;have hcz132_0:=blk_c (v:=.int .i64 t113) BK115.out 0 rfl;have hcz132_1:=blk_c (v:=.int .i64 t114) BK115.out 1 rfl;have hfz132_0:=blk_frozen BK115.out 0;have hfz132_1:=blk_frozen BK115.out 1;have hnb133:=NB107_103.out;have hnc133:=NB103_107.out;have hcz134_0:=blk_c (v:=.int .i64 x108000_97) BK107.out 0 rfl;have hcz134_1:=blk_c (v:=.int .i64 x108001_97) BK107.out 1 rfl;have hfz134_0:=blk_frozen BK107.out 0;have hfz134_1:=blk_frozen BK107.out 1;go_wp2;go_meet
          case rel => exact ⟨_,(true),fr_,H',⟨by have:=HJ5.out;have:=HJ20.out;have:=HJ35.out;have:=HJ42.out;have:=HJ67.out;have:=HJ81.out;have:=HJ88.out;have:=HJ97.out;first|omega|exact Nat.le_refl _⟩,⟨by refine blk_mv ?_;refine blk_far ?_ NB103_115.out _;refine blk_mv ?_;refine blk_far ?_ NB103_115.out _;refine blk_mv ?_;exact BK103.out⟩,⟨by refine blk_mv ?_;refine blk_far ?_ NB107_115.out _;refine blk_mv ?_;refine blk_far ?_ NB107_115.out _;refine blk_mv ?_;exact BK107.out⟩,⟨by refine blk_mv ?_;refine blk_put (cs:=#[.int .i64 t124,.int .i64 t114]) ?_ 1 _ rfl;refine blk_mv ?_;refine blk_put (cs:=#[.int .i64 t113,.int .i64 t114]) ?_ 0 _ rfl;refine blk_mv ?_;exact BK115.out⟩,⟨bel_⟩⟩
      case rest =>
       clear HC106;(try clear c1);(try clear c2);(try clear p2);(try clear c3);(try clear c4);(try clear c5);(try clear c6);(try clear c7);(try clear c8);(try clear c9);(try clear c10);(try clear c11);(try clear c12);(try clear c13);(try clear c16);(try clear c17);(try clear c20);(try clear c24);(try clear c26);(try clear c26b0);(try clear c26b1);(try clear c28);(try clear c30);(try clear c32);(try clear c34);(try clear c37);(try clear c40);(try clear c46);(try clear c47);(try clear c49);(try clear c49b0);(try clear c50);(try clear c51);(try clear c53);(try clear c55);(try clear c55b0);(try clear c55b1);(try clear c57);(try clear c58);(try clear c60);(try clear c62);(try clear c63);(try clear c65);(try clear c67);(try clear c69);(try clear c70);(try clear c72);(try clear c74);(try clear c74b0);(try clear c74b1);(try clear c76);(try clear c77);(try clear c79);(try clear c80);(try clear c83);(try clear c86);(try clear c87);(try clear c90);(try clear c90b0);(try clear c90b1);(try clear c92);(try clear c93);(try clear c95);(try clear c96);(try clear c99);(try clear c102);(try clear c103);(try clear c108);(try clear c109);(try clear c111);(try clear c111b0);(try clear c112);(try clear c113);(try clear c115);(try clear c117);(try clear c117b0);(try clear c117b1);(try clear c119);(try clear c120);(try clear c122);(try clear c124);(try clear c124b0);(try clear c124b1);(try clear c125);(try clear c126);(try clear c128);(try clear c130);(try clear c131);(try clear c133);(try clear hcz104_0);(try clear hcz104_1);(try clear hcz110_0);(try clear hcz110_1);(try clear hcz114_0);(try clear hcz114_1);(try clear hcz116_0);(try clear hcz116_1);(try clear hcz121_0);(try clear hcz121_1);(try clear hcz123_0);(try clear hcz123_1);(try clear hcz127_0);(try clear hcz127_1);(try clear hcz129_0);(try clear hcz129_1);(try clear hcz132_0);(try clear hcz132_1);(try clear hcz134_0);(try clear hcz134_1);(try clear hcz22_0);(try clear hcz22_1);(try clear hcz25_0);(try clear hcz25_1);(try clear hcz31_0);(try clear hcz31_1);(try clear hcz33_0);(try clear hcz33_1);(try clear hcz35_0);(try clear hcz35_1);(try clear hcz41_0);(try clear hcz41_1);(try clear hcz48_0);(try clear hcz48_1);(try clear hcz52_0);(try clear hcz52_1);(try clear hcz54_0);(try clear hcz54_1);(try clear hcz59_0);(try clear hcz59_1);(try clear hcz61_0);(try clear hcz61_1);(try clear hcz64_0);(try clear hcz64_1);(try clear hcz66_0);(try clear hcz66_1);(try clear hcz71_0);(try clear hcz71_1);(try clear hcz73_0);(try clear hcz73_1);(try clear hcz78_0);(try clear hcz78_1);(try clear hcz81_0);(try clear hcz81_1);(try clear hcz88_0);(try clear hcz88_1);(try clear hcz94_0);(try clear hcz94_1);(try clear hcz97_0);(try clear hcz97_1);(try clear hcz9_0);(try clear hcz9_1);(try clear hfz104_0);(try clear hfz104_1);(try clear hfz110_0);(try clear hfz110_1);(try clear hfz114_0);(try clear hfz114_1);(try clear hfz116_0);(try clear hfz116_1);(try clear hfz121_0);(try clear hfz121_1);(try clear hfz123_0);(try clear hfz123_1);(try clear hfz127_0);(try clear hfz127_1);(try clear hfz129_0);(try clear hfz129_1);(try clear hfz132_0);(try clear hfz132_1);(try clear hfz134_0);(try clear hfz134_1);(try clear hfz22_0);(try clear hfz22_1);(try clear hfz25_0);(try clear hfz25_1);(try clear hfz31_0);(try clear hfz31_1);(try clear hfz33_0);(try clear hfz33_1);(try clear hfz35_0);(try clear hfz35_1);(try clear hfz41_0);(try clear hfz41_1);(try clear hfz48_0);(try clear hfz48_1);(try clear hfz52_0);(try clear hfz52_1);(try clear hfz54_0);(try clear hfz54_1);(try clear hfz59_0);(try clear hfz59_1);(try clear hfz61_0);(try clear hfz61_1);(try clear hfz64_0);(try clear hfz64_1);(try clear hfz66_0);(try clear hfz66_1);(try clear hfz71_0);(try clear hfz71_1);(try clear hfz73_0);(try clear hfz73_1);(try clear hfz78_0);(try clear hfz78_1);(try clear hfz81_0);(try clear hfz81_1);(try clear hfz88_0);(try clear hfz88_1);(try clear hfz94_0);(try clear hfz94_1);(try clear hfz97_0);(try clear hfz97_1);(try clear hfz9_0);(try clear hfz9_1);(try clear p2);obtain ⟨kq,x112_105,rfl,HA,HJ105,BK103,BK107,BK115,HB⟩:=hcut;cases kq with
       | zero => exact absurd HA.out (by simp [changeforgelaw5_KeyringMatchesSpec.j8])
       | succ kj105 =>
        have H:=HA.out;clear HA;simp only [changeforgelaw5_KeyringMatchesSpec.j8] at H;by_cases c135 : x112_105 = true
        ·subst c135
         have H1 : (none) = some r:=by rw [if_pos rfl] at H;exact H
         clear H;have H:=H1;clear H1;exact absurd H (by simp)
        ·replace c135:=Bool.eq_false_iff.mpr c135
         subst c135;have H1 : (if t101 = 0 then ((changeforgelaw5_in.f a3 0 7).bind fun t127 => (if t127 = true then ((changeforgelaw5_in.f a2 0 100000).bind fun t128 => (if t128 = true then ((keyring_Keys.f l0 a3 a2).bind fun bt129 => (if (bt129.2.1 == t101 && (bt129.2.2 == t102)) = true then ((changeforgeref5_UserKeys.f kj105 l0 a3 a2).bind fun t134 => ((changeforgeref5_Ints.f kj105 bt129.1 t134).bind fun t137 => (some t137))) else (none))) else ((changeforgelaw5_fault.f 3 (-1)).bind fun bt138 => ((keyring_Keys.f l0 a3 a2).bind fun bt140 => (if (bt140.2.1 == bt138.1 && (bt140.2.2 == bt138.2)) = true then (if bt138.1 = 0 then ((changeforgeref5_UserKeys.f kj105 l0 a3 a2).bind fun t145 => ((changeforgeref5_Ints.f kj105 bt140.1 t145).bind fun t148 => (some t148))) else (if (bt140.1.length : Int) = 0 then (some true) else (none))) else (none)))))) else ((changeforgelaw5_fault.f 3 (-1)).bind fun bt149 => ((keyring_Keys.f l0 a3 a2).bind fun bt151 => (if (bt151.2.1 == bt149.1 && (bt151.2.2 == bt149.2)) = true then (if bt149.1 = 0 then ((changeforgeref5_UserKeys.f kj105 l0 a3 a2).bind fun t156 => ((changeforgeref5_Ints.f kj105 bt151.1 t156).bind fun t159 => (some t159))) else (if (bt151.1.length : Int) = 0 then (some true) else (none))) else (none)))))) else ((keyring_Keys.f l0 a3 a2).bind fun bt160 => (if (bt160.2.1 == t101 && (bt160.2.2 == t102)) = true then (if (bt160.1.length : Int) = 0 then (some true) else (none)) else (none)))) = some r:=by rw [if_neg (show ¬ (false = true) by decide)] at H;exact H
         clear H;have H:=H1;clear H1;by_cases c136 : t101 = 0
         ·rw [if_pos c136] at H
          have c136b0 : (t101 == 0) = true:=beq_iff_eq.mpr c136;have c136b1 : (t101 != 0) = false:=bne_eq_false_iff_eq.mpr c136;clear c136;replace H:=Option.bind_eq_some_iff.mp H;obtain ⟨t127,A1370,H⟩:=H;replace H : (if t127 = true then ((changeforgelaw5_in.f a2 0 100000).bind fun t128 => (if t128 = true then ((keyring_Keys.f l0 a3 a2).bind fun bt129 => (if (bt129.2.1 == t101 && (bt129.2.2 == t102)) = true then ((changeforgeref5_UserKeys.f kj105 l0 a3 a2).bind fun t134 => ((changeforgeref5_Ints.f kj105 bt129.1 t134).bind fun t137 => (some t137))) else (none))) else ((changeforgelaw5_fault.f 3 (-1)).bind fun bt138 => ((keyring_Keys.f l0 a3 a2).bind fun bt140 => (if (bt140.2.1 == bt138.1 && (bt140.2.2 == bt138.2)) = true then (if bt138.1 = 0 then ((changeforgeref5_UserKeys.f kj105 l0 a3 a2).bind fun t145 => ((changeforgeref5_Ints.f kj105 bt140.1 t145).bind fun t148 => (some t148))) else (if (bt140.1.length : Int) = 0 then (some true) else (none))) else (none)))))) else ((changeforgelaw5_fault.f 3 (-1)).bind fun bt149 => ((keyring_Keys.f l0 a3 a2).bind fun bt151 => (if (bt151.2.1 == bt149.1 && (bt151.2.2 == bt149.2)) = true then (if bt149.1 = 0 then ((changeforgeref5_UserKeys.f kj105 l0 a3 a2).bind fun t156 => ((changeforgeref5_Ints.f kj105 bt151.1 t156).bind fun t159 => (some t159))) else (if (bt151.1.length : Int) = 0 then (some true) else (none))) else (none))))) = some r:=H;have A137:=Aside0.mk A1370;clear A1370;by_cases c138 : t127 = true
          ·subst c138
           have H1 : ((changeforgelaw5_in.f a2 0 100000).bind fun t128 => (if t128 = true then ((keyring_Keys.f l0 a3 a2).bind fun bt129 => (if (bt129.2.1 == t101 && (bt129.2.2 == t102)) = true then ((changeforgeref5_UserKeys.f kj105 l0 a3 a2).bind fun t134 => ((changeforgeref5_Ints.f kj105 bt129.1 t134).bind fun t137 => (some t137))) else (none))) else ((changeforgelaw5_fault.f 3 (-1)).bind fun bt138 => ((keyring_Keys.f l0 a3 a2).bind fun bt140 => (if (bt140.2.1 == bt138.1 && (bt140.2.2 == bt138.2)) = true then (if bt138.1 = 0 then ((changeforgeref5_UserKeys.f kj105 l0 a3 a2).bind fun t145 => ((changeforgeref5_Ints.f kj105 bt140.1 t145).bind fun t148 => (some t148))) else (if (bt140.1.length : Int) = 0 then (some true) else (none))) else (none)))))) = some r:=by rw [if_pos rfl] at H;exact H
           clear H;have H:=H1;clear H1;replace H:=Option.bind_eq_some_iff.mp H;obtain ⟨t128,A1390,H⟩:=H;replace H : (if t128 = true then ((keyring_Keys.f l0 a3 a2).bind fun bt129 => (if (bt129.2.1 == t101 && (bt129.2.2 == t102)) = true then ((changeforgeref5_UserKeys.f kj105 l0 a3 a2).bind fun t134 => ((changeforgeref5_Ints.f kj105 bt129.1 t134).bind fun t137 => (some t137))) else (none))) else ((changeforgelaw5_fault.f 3 (-1)).bind fun bt138 => ((keyring_Keys.f l0 a3 a2).bind fun bt140 => (if (bt140.2.1 == bt138.1 && (bt140.2.2 == bt138.2)) = true then (if bt138.1 = 0 then ((changeforgeref5_UserKeys.f kj105 l0 a3 a2).bind fun t145 => ((changeforgeref5_Ints.f kj105 bt140.1 t145).bind fun t148 => (some t148))) else (if (bt140.1.length : Int) = 0 then (some true) else (none))) else (none))))) = some r:=H;have A139:=Aside0.mk A1390;clear A1390;by_cases c140 : t128 = true
           ·subst c140
            have H1 : ((keyring_Keys.f l0 a3 a2).bind fun bt129 => (if (bt129.2.1 == t101 && (bt129.2.2 == t102)) = true then ((changeforgeref5_UserKeys.f kj105 l0 a3 a2).bind fun t134 => ((changeforgeref5_Ints.f kj105 bt129.1 t134).bind fun t137 => (some t137))) else (none))) = some r:=by rw [if_pos rfl] at H;exact H
            clear H;have H:=H1;clear H1;replace H:=Option.bind_eq_some_iff.mp H;obtain ⟨⟨t129,t132,t133⟩,A1410,H⟩:=H;replace H : (if (t132 == t101 && (t133 == t102)) = true then ((changeforgeref5_UserKeys.f kj105 l0 a3 a2).bind fun t134 => ((changeforgeref5_Ints.f kj105 t129 t134).bind fun t137 => (some t137))) else (none)) = some r:=H;have A141:=Aside0.mk A1410;clear A1410;by_cases c142 : (t132 == t101 && (t133 == t102)) = true
            ·rw [if_pos c142] at H
             have c142b0 : (t132 == t101 && (t133 == t102)) = true:=c142;(try (have c142b1 : decide (t132 = t101 && (t133 == t102)) = true:=by simpa using c142));(try (have c142b2 : (t132 == t101 && (t133 == t102)) = true:=by simpa using c142));clear c142;replace H:=Option.bind_eq_some_iff.mp H;obtain ⟨t134,A1430,H⟩:=H;replace H : ((changeforgeref5_Ints.f kj105 t129 t134).bind fun t137 => (some t137)) = some r:=H;have A143:=Aside0.mk A1430;clear A1430;replace H:=Option.bind_eq_some_iff.mp H;obtain ⟨t137,A1440,H⟩:=H;replace H : (some t137) = some r:=H;have A144:=Aside0.mk A1440;clear A1440;obtain rfl:=Option.some.inj H;have hnb145:=NB103_107.out;have hnc145:=NB107_103.out;have hnb146:=NB103_115.out;have hnc146:=NB115_103.out;have hcz147_0:=blk_c (v:=.int .i64 t101) BK103.out 0 rfl;have hcz147_1:=blk_c (v:=.int .i64 t102) BK103.out 1 rfl;have hfz147_0:=blk_frozen BK103.out 0;have hfz147_1:=blk_frozen BK103.out 1;have hnb148:=NB107_115.out;have hnc148:=NB115_107.out;have hcz149_0:=blk_c (v:=.int .i64 x108000_97) BK107.out 0 rfl;have hcz149_1:=blk_c (v:=.int .i64 x108001_97) BK107.out 1 rfl;have hfz149_0:=blk_frozen BK107.out 0;have hfz149_1:=blk_frozen BK107.out 1;go_wp2_with (first|(go_at_call 15;(with_reducible refine (changeforgelaw5_in.calls a3 0 7 true _ A137.out).mono ?_);rintro e w' ⟨rfl,⟨nd,rfl⟩⟩)|(go_at_call 15;(with_reducible refine (changeforgelaw5_in.calls a2 0 100000 true _ A139.out).mono ?_);rintro e w' ⟨rfl,⟨nd,rfl⟩⟩)|((with_reducible refine gate_callee (f:=21) rfl ?_);refine goesL_ (some 132) rfl rfl Try.func21 (by kernel_rfl) rfl #[.slice A0 l0.length c0,.int .i64 a3,.int .i64 a2] rfl ln_ ?_;(with_reducible refine (keyring_Keys.calls _ _ l0 a3 a2 t129 t132 t133 _ ?side1 ?side2 A141.out).mono ?_);(case side1 => exact Kd.C_below HR0.out bel_);(case side2 => exact HC0.out);rintro e w150 ⟨v130,rfl,ho0,hb⟩;refine ⟨_,rfl,?_⟩;have HO131:=Aside0.mk (Kd.R_lower ho0 (below_size bel_));replace BK103:=Aside0.mk (blk_below (g:=gb103) (o:=.cells #[.int .i64 t101,.int .i64 t102] 24 (0,0)) (by refine blk_mv ?_;refine blk_far ?_ NB103_107.out _;refine blk_mv ?_;refine blk_far ?_ NB103_107.out _;refine blk_mv ?_;exact BK103.out) hb);replace BK107:=Aside0.mk (blk_below (g:=gb107) (o:=.cells #[.int .i64 t101,.int .i64 t102] 24 (0,0)) (by refine blk_mv ?_;refine blk_put (cs:=#[.int .i64 t101,.int .i64 x108001_97]) ?_ 1 _ rfl;refine blk_mv ?_;refine blk_put (cs:=#[.int .i64 x108000_97,.int .i64 x108001_97]) ?_ 0 _ rfl;refine blk_mv ?_;exact BK107.out) hb);replace BK115:=Aside0.mk (blk_below (g:=gb115) (o:=.cells #[.int .i64 t124,.int .i64 t125] 24 (0,0)) (by refine blk_mv ?_;refine blk_far ?_ NB115_107.out _;refine blk_mv ?_;refine blk_far ?_ NB115_107.out _;refine blk_mv ?_;exact BK115.out) hb);replace HB:=Aside0.mk (below_step bel_ hb);(try clear hb);(try clear hb2);(try clear hk);(try clear hi);(try clear ho0);have hcz151_0:=blk_c (v:=.int .i64 t124) BK115.out 0 rfl;have hcz151_1:=blk_c (v:=.int .i64 t125) BK115.out 1 rfl;have hfz151_0:=blk_frozen BK115.out 0;have hfz151_1:=blk_frozen BK115.out 1;have hcz152_0:=blk_c (v:=.int .i64 t101) BK107.out 0 rfl;have hcz152_1:=blk_c (v:=.int .i64 t102) BK107.out 1 rfl;have hfz152_0:=blk_frozen BK107.out 0;have hfz152_1:=blk_frozen BK107.out 1)|(go_at_call 23;(with_reducible refine (changeforgeref5_UserKeys.calls kj105 _ _ l0 a3 a2 t134 _ ?side1 ?side2 A143.out).mono ?_);(case side1 => exact Kd.C_below HR0.out bel_);(case side2 => exact HC0.out);rintro e w153 ⟨v135,rfl,ho0,hb⟩;have HO136:=Aside0.mk (Kd.R_lower (Kd.R_new' ho0 (Kd.R_lt (by (with_reducible repeat (first|apply Kd.R_alloc|apply Kd.R_drewN|apply Kd.R_drew));exact (Kd.R_mono (Kd.R_far (p:=⟨gb115,1,none⟩) (Kd.R_far (p:=⟨gb115,0,none⟩) (Kd.R_types HO131.out BK115.out (by decide)) (fun _ hk => hk.2) (.int .i64 t132)) (fun _ hk => hk.2) (.int .i64 t133)) (fun _ h_ => h_.1))))) (below_size bel_));replace HO131:=Aside0.mk (Kd.R_elder' (by (with_reducible repeat (first|apply Kd.R_alloc|apply Kd.R_drewN|apply Kd.R_drew));exact (Kd.R_mono (Kd.R_far (p:=⟨gb115,1,none⟩) (Kd.R_far (p:=⟨gb115,0,none⟩) (Kd.R_types HO131.out BK115.out (by decide)) (fun _ hk => hk.2) (.int .i64 t132)) (fun _ hk => hk.2) (.int .i64 t133)) (fun _ h_ => h_.1))) (Kd.R_base ho0) hb);replace BK103:=Aside0.mk (blk_below (g:=gb103) (o:=.cells #[.int .i64 t101,.int .i64 t102] 24 (0,0)) (by refine blk_mv ?_;refine blk_far ?_ NB103_115.out _;refine blk_mv ?_;refine blk_far ?_ NB103_115.out _;refine blk_mv ?_;exact BK103.out) hb);replace BK107:=Aside0.mk (blk_below (g:=gb107) (o:=.cells #[.int .i64 t101,.int .i64 t102] 24 (0,0)) (by refine blk_mv ?_;refine blk_far ?_ NB107_115.out _;refine blk_mv ?_;refine blk_far ?_ NB107_115.out _;refine blk_mv ?_;exact BK107.out) hb);replace BK115:=Aside0.mk (blk_below (g:=gb115) (o:=.cells #[.int .i64 t132,.int .i64 t133] 24 (0,0)) (by refine blk_mv ?_;refine blk_put (cs:=#[.int .i64 t132,.int .i64 t125]) ?_ 1 _ rfl;refine blk_mv ?_;refine blk_put (cs:=#[.int .i64 t124,.int .i64 t125]) ?_ 0 _ rfl;refine blk_mv ?_;exact BK115.out) hb);replace HB:=Aside0.mk (below_step bel_ hb);(try clear hb);(try clear hb2);(try clear hk);(try clear hi);(try clear ho0);obtain ⟨Ao154,co154,eo154⟩:=Kd.R_slice HO131.out;subst eo154;obtain ⟨Ao155,co155,eo155⟩:=Kd.R_slice HO136.out;subst eo155)|(go_at_call 22;(with_reducible refine (changeforgeref5_Ints.calls kj105 _ _ t129 _ _ t134 t137 _ ?side1 ?side2 ?side3 ?side4 A144.out).mono ?_);(case side1 => first|exact (Kd.R_reads' HO131.out).2.2|exact Kd.C_mv (Kd.R_reads' HO131.out).2.2);(case side2 => exact (Kd.R_reads' HO131.out).2.1);(case side3 => first|exact (Kd.R_reads' HO136.out).2.2|exact Kd.C_mv (Kd.R_reads' HO136.out).2.2);(case side4 => exact (Kd.R_reads' HO136.out).2.1);rintro e w' ⟨rfl,⟨nd,rfl⟩⟩));go_ret;exact ⟨by first|rfl|(simp [errW_none,errW_some] <;> rfl)|(simp [*,errW_none,errW_some] <;> rfl),bel_⟩
            ·rw [if_neg c142] at H
             exact absurd H (by simp)
           ·replace c140:=Bool.eq_false_iff.mpr c140
            subst c140;have H1 : ((changeforgelaw5_fault.f 3 (-1)).bind fun bt138 => ((keyring_Keys.f l0 a3 a2).bind fun bt140 => (if (bt140.2.1 == bt138.1 && (bt140.2.2 == bt138.2)) = true then (if bt138.1 = 0 then ((changeforgeref5_UserKeys.f kj105 l0 a3 a2).bind fun t145 => ((changeforgeref5_Ints.f kj105 bt140.1 t145).bind fun t148 => (some t148))) else (if (bt140.1.length : Int) = 0 then (some true) else (none))) else (none)))) = some r:=by rw [if_neg (show ¬ (false = true) by decide)] at H;exact H
            clear H;have H:=H1;clear H1;replace H:=Option.bind_eq_some_iff.mp H;obtain ⟨⟨t138,t139⟩,A1560,H⟩:=H;replace H : ((keyring_Keys.f l0 a3 a2).bind fun bt140 => (if (bt140.2.1 == t138 && (bt140.2.2 == t139)) = true then (if t138 = 0 then ((changeforgeref5_UserKeys.f kj105 l0 a3 a2).bind fun t145 => ((changeforgeref5_Ints.f kj105 bt140.1 t145).bind fun t148 => (some t148))) else (if (bt140.1.length : Int) = 0 then (some true) else (none))) else (none))) = some r:=H;have A156:=Aside0.mk A1560;clear A1560;replace H:=Option.bind_eq_some_iff.mp H;obtain ⟨⟨t140,t143,t144⟩,A1570,H⟩:=H;replace H : (if (t143 == t138 && (t144 == t139)) = true then (if t138 = 0 then ((changeforgeref5_UserKeys.f kj105 l0 a3 a2).bind fun t145 => ((changeforgeref5_Ints.f kj105 t140 t145).bind fun t148 => (some t148))) else (if (t140.length : Int) = 0 then (some true) else (none))) else (none)) = some r:=H;have A157:=Aside0.mk A1570;clear A1570;by_cases c158 : (t143 == t138 && (t144 == t139)) = true
            ·rw [if_pos c158] at H
             have c158b0 : (t143 == t138 && (t144 == t139)) = true:=c158;(try (have c158b1 : decide (t143 = t138 && (t144 == t139)) = true:=by simpa using c158));(try (have c158b2 : (t143 == t138 && (t144 == t139)) = true:=by simpa using c158));clear c158;by_cases c159 : t138 = 0
             ·rw [if_pos c159] at H
              have c159b0 : (t138 == 0) = true:=beq_iff_eq.mpr c159;have c159b1 : (t138 != 0) = false:=bne_eq_false_iff_eq.mpr c159;clear c159;replace H:=Option.bind_eq_some_iff.mp H;obtain ⟨t145,A1600,H⟩:=H;replace H : ((changeforgeref5_Ints.f kj105 t140 t145).bind fun t148 => (some t148)) = some r:=H;have A160:=Aside0.mk A1600;clear A1600;replace H:=Option.bind_eq_some_iff.mp H;obtain ⟨t148,A1610,H⟩:=H;replace H : (some t148) = some r:=H;have A161:=Aside0.mk A1610;clear A1610;obtain rfl:=Option.some.inj H;have hnb162:=NB103_107.out;have hnc162:=NB107_103.out;have hnb163:=NB103_115.out;have hnc163:=NB115_103.out;have hcz164_0:=blk_c (v:=.int .i64 t101) BK103.out 0 rfl;have hcz164_1:=blk_c (v:=.int .i64 t102) BK103.out 1 rfl;have hfz164_0:=blk_frozen BK103.out 0;have hfz164_1:=blk_frozen BK103.out 1;have hnb165:=NB107_115.out;have hnc165:=NB115_107.out;have hcz166_0:=blk_c (v:=.int .i64 x108000_97) BK107.out 0 rfl;have hcz166_1:=blk_c (v:=.int .i64 x108001_97) BK107.out 1 rfl;have hfz166_0:=blk_frozen BK107.out 0;have hfz166_1:=blk_frozen BK107.out 1;go_wp2_with (first|(go_at_call 15;(with_reducible refine (changeforgelaw5_in.calls a3 0 7 true _ A137.out).mono ?_);rintro e w' ⟨rfl,⟨nd,rfl⟩⟩)|(go_at_call 15;(with_reducible refine (changeforgelaw5_in.calls a2 0 100000 false _ A139.out).mono ?_);rintro e w' ⟨rfl,⟨nd,rfl⟩⟩)|((with_reducible refine gate_callee (f:=16) rfl ?_);refine goesL_ (some 127) rfl rfl Try.func16 (by kernel_rfl) rfl #[.int .i64 3,.int .i64 (-1)] rfl ln_ ?_;(with_reducible refine (changeforgelaw5_fault.calls 3 (-1) t138 t139 _ A156.out).mono ?_);rintro e w167 ⟨rfl,hb⟩;refine ⟨_,rfl,?_⟩;replace BK103:=Aside0.mk (blk_below (g:=gb103) (o:=.cells #[.int .i64 t101,.int .i64 t102] 24 (0,0)) (by refine blk_mv ?_;refine blk_far ?_ NB103_107.out _;refine blk_mv ?_;refine blk_far ?_ NB103_107.out _;refine blk_mv ?_;exact BK103.out) hb);replace BK107:=Aside0.mk (blk_below (g:=gb107) (o:=.cells #[.int .i64 t101,.int .i64 t102] 24 (0,0)) (by refine blk_mv ?_;refine blk_put (cs:=#[.int .i64 t101,.int .i64 x108001_97]) ?_ 1 _ rfl;refine blk_mv ?_;refine blk_put (cs:=#[.int .i64 x108000_97,.int .i64 x108001_97]) ?_ 0 _ rfl;refine blk_mv ?_;exact BK107.out) hb);replace BK115:=Aside0.mk (blk_below (g:=gb115) (o:=.cells #[.int .i64 t124,.int .i64 t125] 24 (0,0)) (by refine blk_mv ?_;refine blk_far ?_ NB115_107.out _;refine blk_mv ?_;refine blk_far ?_ NB115_107.out _;refine blk_mv ?_;exact BK115.out) hb);replace HB:=Aside0.mk (below_step bel_ hb);(try clear hb);(try clear hb2);(try clear hk);(try clear hi);have hcz168_0:=blk_c (v:=.int .i64 t101) BK107.out 0 rfl;have hcz168_1:=blk_c (v:=.int .i64 t102) BK107.out 1 rfl;have hfz168_0:=blk_frozen BK107.out 0;have hfz168_1:=blk_frozen BK107.out 1)|((with_reducible refine gate_callee (f:=21) rfl ?_);refine goesL_ (some 132) rfl rfl Try.func21 (by kernel_rfl) rfl #[.slice A0 l0.length c0,.int .i64 a3,.int .i64 a2] rfl ln_ ?_;(with_reducible refine (keyring_Keys.calls _ _ l0 a3 a2 t140 t143 t144 _ ?side1 ?side2 A157.out).mono ?_);(case side1 => exact Kd.C_below HR0.out bel_);(case side2 => exact HC0.out);rintro e w169 ⟨v141,rfl,ho0,hb⟩;refine ⟨_,rfl,?_⟩;have HO142:=Aside0.mk (Kd.R_lower ho0 (below_size bel_));replace BK103:=Aside0.mk (blk_below (g:=gb103) (o:=.cells #[.int .i64 t101,.int .i64 t102] 24 (0,0)) (by refine blk_mv ?_;refine blk_far ?_ NB103_107.out _;refine blk_mv ?_;refine blk_far ?_ NB103_107.out _;refine blk_mv ?_;exact BK103.out) hb);replace BK107:=Aside0.mk (blk_below (g:=gb107) (o:=.cells #[.int .i64 t138,.int .i64 t139] 24 (0,0)) (by refine blk_mv ?_;refine blk_put (cs:=#[.int .i64 t138,.int .i64 t102]) ?_ 1 _ rfl;refine blk_mv ?_;refine blk_put (cs:=#[.int .i64 t101,.int .i64 t102]) ?_ 0 _ rfl;refine blk_mv ?_;exact BK107.out) hb);replace BK115:=Aside0.mk (blk_below (g:=gb115) (o:=.cells #[.int .i64 t124,.int .i64 t125] 24 (0,0)) (by refine blk_mv ?_;refine blk_far ?_ NB115_107.out _;refine blk_mv ?_;refine blk_far ?_ NB115_107.out _;refine blk_mv ?_;exact BK115.out) hb);replace HB:=Aside0.mk (below_step bel_ hb);(try clear hb);(try clear hb2);(try clear hk);(try clear hi);(try clear ho0);have hcz170_0:=blk_c (v:=.int .i64 t124) BK115.out 0 rfl;have hcz170_1:=blk_c (v:=.int .i64 t125) BK115.out 1 rfl;have hfz170_0:=blk_frozen BK115.out 0;have hfz170_1:=blk_frozen BK115.out 1;have hcz171_0:=blk_c (v:=.int .i64 t138) BK107.out 0 rfl;have hcz171_1:=blk_c (v:=.int .i64 t139) BK107.out 1 rfl;have hfz171_0:=blk_frozen BK107.out 0;have hfz171_1:=blk_frozen BK107.out 1)|(go_at_call 23;(with_reducible refine (changeforgeref5_UserKeys.calls kj105 _ _ l0 a3 a2 t145 _ ?side1 ?side2 A160.out).mono ?_);(case side1 => exact Kd.C_below HR0.out bel_);(case side2 => exact HC0.out);rintro e w172 ⟨v146,rfl,ho0,hb⟩;have HO147:=Aside0.mk (Kd.R_lower (Kd.R_new' ho0 (Kd.R_lt (by (with_reducible repeat (first|apply Kd.R_alloc|apply Kd.R_drewN|apply Kd.R_drew));exact (Kd.R_mono (Kd.R_far (p:=⟨gb115,1,none⟩) (Kd.R_far (p:=⟨gb115,0,none⟩) (Kd.R_types HO142.out BK115.out (by decide)) (fun _ hk => hk.2) (.int .i64 t143)) (fun _ hk => hk.2) (.int .i64 t144)) (fun _ h_ => h_.1))))) (below_size bel_));replace HO142:=Aside0.mk (Kd.R_elder' (by (with_reducible repeat (first|apply Kd.R_alloc|apply Kd.R_drewN|apply Kd.R_drew));exact (Kd.R_mono (Kd.R_far (p:=⟨gb115,1,none⟩) (Kd.R_far (p:=⟨gb115,0,none⟩) (Kd.R_types HO142.out BK115.out (by decide)) (fun _ hk => hk.2) (.int .i64 t143)) (fun _ hk => hk.2) (.int .i64 t144)) (fun _ h_ => h_.1))) (Kd.R_base ho0) hb);replace BK103:=Aside0.mk (blk_below (g:=gb103) (o:=.cells #[.int .i64 t101,.int .i64 t102] 24 (0,0)) (by refine blk_mv ?_;refine blk_far ?_ NB103_115.out _;refine blk_mv ?_;refine blk_far ?_ NB103_115.out _;refine blk_mv ?_;exact BK103.out) hb);replace BK107:=Aside0.mk (blk_below (g:=gb107) (o:=.cells #[.int .i64 t138,.int .i64 t139] 24 (0,0)) (by refine blk_mv ?_;refine blk_far ?_ NB107_115.out _;refine blk_mv ?_;refine blk_far ?_ NB107_115.out _;refine blk_mv ?_;exact BK107.out) hb);replace BK115:=Aside0.mk (blk_below (g:=gb115) (o:=.cells #[.int .i64 t143,.int .i64 t144] 24 (0,0)) (by refine blk_mv ?_;refine blk_put (cs:=#[.int .i64 t143,.int .i64 t125]) ?_ 1 _ rfl;refine blk_mv ?_;refine blk_put (cs:=#[.int .i64 t124,.int .i64 t125]) ?_ 0 _ rfl;refine blk_mv ?_;exact BK115.out) hb);replace HB:=Aside0.mk (below_step bel_ hb);(try clear hb);(try clear hb2);(try clear hk);(try clear hi);(try clear ho0);obtain ⟨Ao173,co173,eo173⟩:=Kd.R_slice HO142.out;subst eo173;obtain ⟨Ao174,co174,eo174⟩:=Kd.R_slice HO147.out;subst eo174)|(go_at_call 22;(with_reducible refine (changeforgeref5_Ints.calls kj105 _ _ t140 _ _ t145 t148 _ ?side1 ?side2 ?side3 ?side4 A161.out).mono ?_);(case side1 => first|exact (Kd.R_reads' HO142.out).2.2|exact Kd.C_mv (Kd.R_reads' HO142.out).2.2);(case side2 => exact (Kd.R_reads' HO142.out).2.1);(case side3 => first|exact (Kd.R_reads' HO147.out).2.2|exact Kd.C_mv (Kd.R_reads' HO147.out).2.2);(case side4 => exact (Kd.R_reads' HO147.out).2.1);rintro e w' ⟨rfl,⟨nd,rfl⟩⟩));go_ret;exact ⟨by first|rfl|(simp [errW_none,errW_some] <;> rfl)|(simp [*,errW_none,errW_some] <;> rfl),bel_⟩
             ·rw [if_neg c159] at H
              have c159b0 : (t138 == 0) = false:=beq_eq_false_iff_ne.mpr c159;have c159b1 : (t138 != 0) = true:=bne_iff_ne.mpr c159;by_cases c175 : (t140.length : Int) = 0
              ·rw [if_pos c175] at H
               have c175b0 : ((t140.length : Int) == 0) = true:=beq_iff_eq.mpr c175;have c175b1 : ((t140.length : Int) != 0) = false:=bne_eq_false_iff_eq.mpr c175;clear c175;obtain rfl:=Option.some.inj H;have hnb176:=NB103_107.out;have hnc176:=NB107_103.out;have hnb177:=NB103_115.out;have hnc177:=NB115_103.out;have hcz178_0:=blk_c (v:=.int .i64 t101) BK103.out 0 rfl;have hcz178_1:=blk_c (v:=.int .i64 t102) BK103.out 1 rfl;have hfz178_0:=blk_frozen BK103.out 0;have hfz178_1:=blk_frozen BK103.out 1;have hnb179:=NB107_115.out;have hnc179:=NB115_107.out;have hcz180_0:=blk_c (v:=.int .i64 x108000_97) BK107.out 0 rfl;have hcz180_1:=blk_c (v:=.int .i64 x108001_97) BK107.out 1 rfl;have hfz180_0:=blk_frozen BK107.out 0;have hfz180_1:=blk_frozen BK107.out 1;go_wp2_with (first|(go_at_call 15;(with_reducible refine (changeforgelaw5_in.calls a3 0 7 true _ A137.out).mono ?_);rintro e w' ⟨rfl,⟨nd,rfl⟩⟩)|(go_at_call 15;(with_reducible refine (changeforgelaw5_in.calls a2 0 100000 false _ A139.out).mono ?_);rintro e w' ⟨rfl,⟨nd,rfl⟩⟩)|((with_reducible refine gate_callee (f:=16) rfl ?_);refine goesL_ (some 127) rfl rfl Try.func16 (by kernel_rfl) rfl #[.int .i64 3,.int .i64 (-1)] rfl ln_ ?_;(with_reducible refine (changeforgelaw5_fault.calls 3 (-1) t138 t139 _ A156.out).mono ?_);rintro e w181 ⟨rfl,hb⟩;refine ⟨_,rfl,?_⟩;replace BK103:=Aside0.mk (blk_below (g:=gb103) (o:=.cells #[.int .i64 t101,.int .i64 t102] 24 (0,0)) (by refine blk_mv ?_;refine blk_far ?_ NB103_107.out _;refine blk_mv ?_;refine blk_far ?_ NB103_107.out _;refine blk_mv ?_;exact BK103.out) hb);replace BK107:=Aside0.mk (blk_below (g:=gb107) (o:=.cells #[.int .i64 t101,.int .i64 t102] 24 (0,0)) (by refine blk_mv ?_;refine blk_put (cs:=#[.int .i64 t101,.int .i64 x108001_97]) ?_ 1 _ rfl;refine blk_mv ?_;refine blk_put (cs:=#[.int .i64 x108000_97,.int .i64 x108001_97]) ?_ 0 _ rfl;refine blk_mv ?_;exact BK107.out) hb);replace BK115:=Aside0.mk (blk_below (g:=gb115) (o:=.cells #[.int .i64 t124,.int .i64 t125] 24 (0,0)) (by refine blk_mv ?_;refine blk_far ?_ NB115_107.out _;refine blk_mv ?_;refine blk_far ?_ NB115_107.out _;refine blk_mv ?_;exact BK115.out) hb);replace HB:=Aside0.mk (below_step bel_ hb);(try clear hb);(try clear hb2);(try clear hk);(try clear hi);have hcz182_0:=blk_c (v:=.int .i64 t101) BK107.out 0 rfl;have hcz182_1:=blk_c (v:=.int .i64 t102) BK107.out 1 rfl;have hfz182_0:=blk_frozen BK107.out 0;have hfz182_1:=blk_frozen BK107.out 1)|((with_reducible refine gate_callee (f:=21) rfl ?_);refine goesL_ (some 132) rfl rfl Try.func21 (by kernel_rfl) rfl #[.slice A0 l0.length c0,.int .i64 a3,.int .i64 a2] rfl ln_ ?_;(with_reducible refine (keyring_Keys.calls _ _ l0 a3 a2 t140 t143 t144 _ ?side1 ?side2 A157.out).mono ?_);(case side1 => exact Kd.C_below HR0.out bel_);(case side2 => exact HC0.out);rintro e w183 ⟨v141,rfl,ho0,hb⟩;refine ⟨_,rfl,?_⟩;have HO142:=Aside0.mk (Kd.R_lower ho0 (below_size bel_));replace BK103:=Aside0.mk (blk_below (g:=gb103) (o:=.cells #[.int .i64 t101,.int .i64 t102] 24 (0,0)) (by refine blk_mv ?_;refine blk_far ?_ NB103_107.out _;refine blk_mv ?_;refine blk_far ?_ NB103_107.out _;refine blk_mv ?_;exact BK103.out) hb);replace BK107:=Aside0.mk (blk_below (g:=gb107) (o:=.cells #[.int .i64 t138,.int .i64 t139] 24 (0,0)) (by refine blk_mv ?_;refine blk_put (cs:=#[.int .i64 t138,.int .i64 t102]) ?_ 1 _ rfl;refine blk_mv ?_;refine blk_put (cs:=#[.int .i64 t101,.int .i64 t102]) ?_ 0 _ rfl;refine blk_mv ?_;exact BK107.out) hb);replace BK115:=Aside0.mk (blk_below (g:=gb115) (o:=.cells #[.int .i64 t124,.int .i64 t125] 24 (0,0)) (by refine blk_mv ?_;refine blk_far ?_ NB115_107.out _;refine blk_mv ?_;refine blk_far ?_ NB115_107.out _;refine blk_mv ?_;exact BK115.out) hb);replace HB:=Aside0.mk (below_step bel_ hb);(try clear hb);(try clear hb2);(try clear hk);(try clear hi);(try clear ho0);have hcz184_0:=blk_c (v:=.int .i64 t124) BK115.out 0 rfl;have hcz184_1:=blk_c (v:=.int .i64 t125) BK115.out 1 rfl;have hfz184_0:=blk_frozen BK115.out 0;have hfz184_1:=blk_frozen BK115.out 1;have hcz185_0:=blk_c (v:=.int .i64 t138) BK107.out 0 rfl;have hcz185_1:=blk_c (v:=.int .i64 t139) BK107.out 1 rfl;have hfz185_0:=blk_frozen BK107.out 0;have hfz185_1:=blk_frozen BK107.out 1;obtain ⟨Ao186,co186,eo186⟩:=Kd.R_slice HO142.out;subst eo186));go_ret;exact ⟨by first|rfl|(simp [errW_none,errW_some] <;> rfl)|(simp [*,errW_none,errW_some] <;> rfl),bel_⟩
              ·rw [if_neg c175] at H
               exact absurd H (by simp)
            ·rw [if_neg c158] at H
             exact absurd H (by simp)
          ·replace c138:=Bool.eq_false_iff.mpr c138
           subst c138;have H1 : ((changeforgelaw5_fault.f 3 (-1)).bind fun bt149 => ((keyring_Keys.f l0 a3 a2).bind fun bt151 => (if (bt151.2.1 == bt149.1 && (bt151.2.2 == bt149.2)) = true then (if bt149.1 = 0 then ((changeforgeref5_UserKeys.f kj105 l0 a3 a2).bind fun t156 => ((changeforgeref5_Ints.f kj105 bt151.1 t156).bind fun t159 => (some t159))) else (if (bt151.1.length : Int) = 0 then (some true) else (none))) else (none)))) = some r:=by rw [if_neg (show ¬ (false = true) by decide)] at H;exact H
           clear H;have H:=H1;clear H1;replace H:=Option.bind_eq_some_iff.mp H;obtain ⟨⟨t149,t150⟩,A1870,H⟩:=H;replace H : ((keyring_Keys.f l0 a3 a2).bind fun bt151 => (if (bt151.2.1 == t149 && (bt151.2.2 == t150)) = true then (if t149 = 0 then ((changeforgeref5_UserKeys.f kj105 l0 a3 a2).bind fun t156 => ((changeforgeref5_Ints.f kj105 bt151.1 t156).bind fun t159 => (some t159))) else (if (bt151.1.length : Int) = 0 then (some true) else (none))) else (none))) = some r:=H;have A187:=Aside0.mk A1870;clear A1870;replace H:=Option.bind_eq_some_iff.mp H;obtain ⟨⟨t151,t154,t155⟩,A1880,H⟩:=H;replace H : (if (t154 == t149 && (t155 == t150)) = true then (if t149 = 0 then ((changeforgeref5_UserKeys.f kj105 l0 a3 a2).bind fun t156 => ((changeforgeref5_Ints.f kj105 t151 t156).bind fun t159 => (some t159))) else (if (t151.length : Int) = 0 then (some true) else (none))) else (none)) = some r:=H;have A188:=Aside0.mk A1880;clear A1880;by_cases c189 : (t154 == t149 && (t155 == t150)) = true
           ·rw [if_pos c189] at H
            have c189b0 : (t154 == t149 && (t155 == t150)) = true:=c189;(try (have c189b1 : decide (t154 = t149 && (t155 == t150)) = true:=by simpa using c189));(try (have c189b2 : (t154 == t149 && (t155 == t150)) = true:=by simpa using c189));clear c189;by_cases c190 : t149 = 0
            ·rw [if_pos c190] at H
             have c190b0 : (t149 == 0) = true:=beq_iff_eq.mpr c190;have c190b1 : (t149 != 0) = false:=bne_eq_false_iff_eq.mpr c190;clear c190;replace H:=Option.bind_eq_some_iff.mp H;obtain ⟨t156,A1910,H⟩:=H;replace H : ((changeforgeref5_Ints.f kj105 t151 t156).bind fun t159 => (some t159)) = some r:=H;have A191:=Aside0.mk A1910;clear A1910;replace H:=Option.bind_eq_some_iff.mp H;obtain ⟨t159,A1920,H⟩:=H;replace H : (some t159) = some r:=H;have A192:=Aside0.mk A1920;clear A1920;obtain rfl:=Option.some.inj H;have hnb193:=NB103_107.out;have hnc193:=NB107_103.out;have hnb194:=NB103_115.out;have hnc194:=NB115_103.out;have hcz195_0:=blk_c (v:=.int .i64 t101) BK103.out 0 rfl;have hcz195_1:=blk_c (v:=.int .i64 t102) BK103.out 1 rfl;have hfz195_0:=blk_frozen BK103.out 0;have hfz195_1:=blk_frozen BK103.out 1;have hnb196:=NB107_115.out;have hnc196:=NB115_107.out;have hcz197_0:=blk_c (v:=.int .i64 x108000_97) BK107.out 0 rfl;have hcz197_1:=blk_c (v:=.int .i64 x108001_97) BK107.out 1 rfl;have hfz197_0:=blk_frozen BK107.out 0;have hfz197_1:=blk_frozen BK107.out 1;go_wp2_with (first|(go_at_call 15;(with_reducible refine (changeforgelaw5_in.calls a3 0 7 false _ A137.out).mono ?_);rintro e w' ⟨rfl,⟨nd,rfl⟩⟩)|((with_reducible refine gate_callee (f:=16) rfl ?_);refine goesL_ (some 127) rfl rfl Try.func16 (by kernel_rfl) rfl #[.int .i64 3,.int .i64 (-1)] rfl ln_ ?_;(with_reducible refine (changeforgelaw5_fault.calls 3 (-1) t149 t150 _ A187.out).mono ?_);rintro e w198 ⟨rfl,hb⟩;refine ⟨_,rfl,?_⟩;replace BK103:=Aside0.mk (blk_below (g:=gb103) (o:=.cells #[.int .i64 t101,.int .i64 t102] 24 (0,0)) (by refine blk_mv ?_;refine blk_far ?_ NB103_107.out _;refine blk_mv ?_;refine blk_far ?_ NB103_107.out _;refine blk_mv ?_;exact BK103.out) hb);replace BK107:=Aside0.mk (blk_below (g:=gb107) (o:=.cells #[.int .i64 t101,.int .i64 t102] 24 (0,0)) (by refine blk_mv ?_;refine blk_put (cs:=#[.int .i64 t101,.int .i64 x108001_97]) ?_ 1 _ rfl;refine blk_mv ?_;refine blk_put (cs:=#[.int .i64 x108000_97,.int .i64 x108001_97]) ?_ 0 _ rfl;refine blk_mv ?_;exact BK107.out) hb);replace BK115:=Aside0.mk (blk_below (g:=gb115) (o:=.cells #[.int .i64 t124,.int .i64 t125] 24 (0,0)) (by refine blk_mv ?_;refine blk_far ?_ NB115_107.out _;refine blk_mv ?_;refine blk_far ?_ NB115_107.out _;refine blk_mv ?_;exact BK115.out) hb);replace HB:=Aside0.mk (below_step bel_ hb);(try clear hb);(try clear hb2);(try clear hk);(try clear hi);have hcz199_0:=blk_c (v:=.int .i64 t101) BK107.out 0 rfl;have hcz199_1:=blk_c (v:=.int .i64 t102) BK107.out 1 rfl;have hfz199_0:=blk_frozen BK107.out 0;have hfz199_1:=blk_frozen BK107.out 1)|((with_reducible refine gate_callee (f:=21) rfl ?_);refine goesL_ (some 132) rfl rfl Try.func21 (by kernel_rfl) rfl #[.slice A0 l0.length c0,.int .i64 a3,.int .i64 a2] rfl ln_ ?_;(with_reducible refine (keyring_Keys.calls _ _ l0 a3 a2 t151 t154 t155 _ ?side1 ?side2 A188.out).mono ?_);(case side1 => exact Kd.C_below HR0.out bel_);(case side2 => exact HC0.out);rintro e w200 ⟨v152,rfl,ho0,hb⟩;refine ⟨_,rfl,?_⟩;have HO153:=Aside0.mk (Kd.R_lower ho0 (below_size bel_));replace BK103:=Aside0.mk (blk_below (g:=gb103) (o:=.cells #[.int .i64 t101,.int .i64 t102] 24 (0,0)) (by refine blk_mv ?_;refine blk_far ?_ NB103_107.out _;refine blk_mv ?_;refine blk_far ?_ NB103_107.out _;refine blk_mv ?_;exact BK103.out) hb);replace BK107:=Aside0.mk (blk_below (g:=gb107) (o:=.cells #[.int .i64 t149,.int .i64 t150] 24 (0,0)) (by refine blk_mv ?_;refine blk_put (cs:=#[.int .i64 t149,.int .i64 t102]) ?_ 1 _ rfl;refine blk_mv ?_;refine blk_put (cs:=#[.int .i64 t101,.int .i64 t102]) ?_ 0 _ rfl;refine blk_mv ?_;exact BK107.out) hb);replace BK115:=Aside0.mk (blk_below (g:=gb115) (o:=.cells #[.int .i64 t124,.int .i64 t125] 24 (0,0)) (by refine blk_mv ?_;refine blk_far ?_ NB115_107.out _;refine blk_mv ?_;refine blk_far ?_ NB115_107.out _;refine blk_mv ?_;exact BK115.out) hb);replace HB:=Aside0.mk (below_step bel_ hb);(try clear hb);(try clear hb2);(try clear hk);(try clear hi);(try clear ho0);have hcz201_0:=blk_c (v:=.int .i64 t124) BK115.out 0 rfl;have hcz201_1:=blk_c (v:=.int .i64 t125) BK115.out 1 rfl;have hfz201_0:=blk_frozen BK115.out 0;have hfz201_1:=blk_frozen BK115.out 1;have hcz202_0:=blk_c (v:=.int .i64 t149) BK107.out 0 rfl;have hcz202_1:=blk_c (v:=.int .i64 t150) BK107.out 1 rfl;have hfz202_0:=blk_frozen BK107.out 0;have hfz202_1:=blk_frozen BK107.out 1)|(go_at_call 23;(with_reducible refine (changeforgeref5_UserKeys.calls kj105 _ _ l0 a3 a2 t156 _ ?side1 ?side2 A191.out).mono ?_);(case side1 => exact Kd.C_below HR0.out bel_);(case side2 => exact HC0.out);rintro e w203 ⟨v157,rfl,ho0,hb⟩;have HO158:=Aside0.mk (Kd.R_lower (Kd.R_new' ho0 (Kd.R_lt (by (with_reducible repeat (first|apply Kd.R_alloc|apply Kd.R_drewN|apply Kd.R_drew));exact (Kd.R_mono (Kd.R_far (p:=⟨gb115,1,none⟩) (Kd.R_far (p:=⟨gb115,0,none⟩) (Kd.R_types HO153.out BK115.out (by decide)) (fun _ hk => hk.2) (.int .i64 t154)) (fun _ hk => hk.2) (.int .i64 t155)) (fun _ h_ => h_.1))))) (below_size bel_));replace HO153:=Aside0.mk (Kd.R_elder' (by (with_reducible repeat (first|apply Kd.R_alloc|apply Kd.R_drewN|apply Kd.R_drew));exact (Kd.R_mono (Kd.R_far (p:=⟨gb115,1,none⟩) (Kd.R_far (p:=⟨gb115,0,none⟩) (Kd.R_types HO153.out BK115.out (by decide)) (fun _ hk => hk.2) (.int .i64 t154)) (fun _ hk => hk.2) (.int .i64 t155)) (fun _ h_ => h_.1))) (Kd.R_base ho0) hb);replace BK103:=Aside0.mk (blk_below (g:=gb103) (o:=.cells #[.int .i64 t101,.int .i64 t102] 24 (0,0)) (by refine blk_mv ?_;refine blk_far ?_ NB103_115.out _;refine blk_mv ?_;refine blk_far ?_ NB103_115.out _;refine blk_mv ?_;exact BK103.out) hb);replace BK107:=Aside0.mk (blk_below (g:=gb107) (o:=.cells #[.int .i64 t149,.int .i64 t150] 24 (0,0)) (by refine blk_mv ?_;refine blk_far ?_ NB107_115.out _;refine blk_mv ?_;refine blk_far ?_ NB107_115.out _;refine blk_mv ?_;exact BK107.out) hb);replace BK115:=Aside0.mk (blk_below (g:=gb115) (o:=.cells #[.int .i64 t154,.int .i64 t155] 24 (0,0)) (by refine blk_mv ?_;refine blk_put (cs:=#[.int .i64 t154,.int .i64 t125]) ?_ 1 _ rfl;refine blk_mv ?_;refine blk_put (cs:=#[.int .i64 t124,.int .i64 t125]) ?_ 0 _ rfl;refine blk_mv ?_;exact BK115.out) hb);replace HB:=Aside0.mk (below_step bel_ hb);(try clear hb);(try clear hb2);(try clear hk);(try clear hi);(try clear ho0);obtain ⟨Ao204,co204,eo204⟩:=Kd.R_slice HO153.out;subst eo204;obtain ⟨Ao205,co205,eo205⟩:=Kd.R_slice HO158.out;subst eo205)|(go_at_call 22;(with_reducible refine (changeforgeref5_Ints.calls kj105 _ _ t151 _ _ t156 t159 _ ?side1 ?side2 ?side3 ?side4 A192.out).mono ?_);(case side1 => first|exact (Kd.R_reads' HO153.out).2.2|exact Kd.C_mv (Kd.R_reads' HO153.out).2.2);(case side2 => exact (Kd.R_reads' HO153.out).2.1);(case side3 => first|exact (Kd.R_reads' HO158.out).2.2|exact Kd.C_mv (Kd.R_reads' HO158.out).2.2);(case side4 => exact (Kd.R_reads' HO158.out).2.1);rintro e w' ⟨rfl,⟨nd,rfl⟩⟩));go_ret;exact ⟨by first|rfl|(simp [errW_none,errW_some] <;> rfl)|(simp [*,errW_none,errW_some] <;> rfl),bel_⟩
            ·rw [if_neg c190] at H
             have c190b0 : (t149 == 0) = false:=beq_eq_false_iff_ne.mpr c190;have c190b1 : (t149 != 0) = true:=bne_iff_ne.mpr c190;by_cases c206 : (t151.length : Int) = 0
             ·rw [if_pos c206] at H
              have c206b0 : ((t151.length : Int) == 0) = true:=beq_iff_eq.mpr c206;have c206b1 : ((t151.length : Int) != 0) = false:=bne_eq_false_iff_eq.mpr c206;clear c206;obtain rfl:=Option.some.inj H;have hnb207:=NB103_107.out;have hnc207:=NB107_103.out;have hnb208:=NB103_115.out;have hnc208:=NB115_103.out;have hcz209_0:=blk_c (v:=.int .i64 t101) BK103.out 0 rfl;have hcz209_1:=blk_c (v:=.int .i64 t102) BK103.out 1 rfl;have hfz209_0:=blk_frozen BK103.out 0;have hfz209_1:=blk_frozen BK103.out 1;have hnb210:=NB107_115.out;have hnc210:=NB115_107.out;have hcz211_0:=blk_c (v:=.int .i64 x108000_97) BK107.out 0 rfl;have hcz211_1:=blk_c (v:=.int .i64 x108001_97) BK107.out 1 rfl;have hfz211_0:=blk_frozen BK107.out 0;have hfz211_1:=blk_frozen BK107.out 1;go_wp2_with (first|(go_at_call 15;(with_reducible refine (changeforgelaw5_in.calls a3 0 7 false _ A137.out).mono ?_);rintro e w' ⟨rfl,⟨nd,rfl⟩⟩)|((with_reducible refine gate_callee (f:=16) rfl ?_);refine goesL_ (some 127) rfl rfl Try.func16 (by kernel_rfl) rfl #[.int .i64 3,.int .i64 (-1)] rfl ln_ ?_;(with_reducible refine (changeforgelaw5_fault.calls 3 (-1) t149 t150 _ A187.out).mono ?_);rintro e w212 ⟨rfl,hb⟩;refine ⟨_,rfl,?_⟩;replace BK103:=Aside0.mk (blk_below (g:=gb103) (o:=.cells #[.int .i64 t101,.int .i64 t102] 24 (0,0)) (by refine blk_mv ?_;refine blk_far ?_ NB103_107.out _;refine blk_mv ?_;refine blk_far ?_ NB103_107.out _;refine blk_mv ?_;exact BK103.out) hb);replace BK107:=Aside0.mk (blk_below (g:=gb107) (o:=.cells #[.int .i64 t101,.int .i64 t102] 24 (0,0)) (by refine blk_mv ?_;refine blk_put (cs:=#[.int .i64 t101,.int .i64 x108001_97]) ?_ 1 _ rfl;refine blk_mv ?_;refine blk_put (cs:=#[.int .i64 x108000_97,.int .i64 x108001_97]) ?_ 0 _ rfl;refine blk_mv ?_;exact BK107.out) hb);replace BK115:=Aside0.mk (blk_below (g:=gb115) (o:=.cells #[.int .i64 t124,.int .i64 t125] 24 (0,0)) (by refine blk_mv ?_;refine blk_far ?_ NB115_107.out _;refine blk_mv ?_;refine blk_far ?_ NB115_107.out _;refine blk_mv ?_;exact BK115.out) hb);replace HB:=Aside0.mk (below_step bel_ hb);(try clear hb);(try clear hb2);(try clear hk);(try clear hi);have hcz213_0:=blk_c (v:=.int .i64 t101) BK107.out 0 rfl;have hcz213_1:=blk_c (v:=.int .i64 t102) BK107.out 1 rfl;have hfz213_0:=blk_frozen BK107.out 0;have hfz213_1:=blk_frozen BK107.out 1)|((with_reducible refine gate_callee (f:=21) rfl ?_);refine goesL_ (some 132) rfl rfl Try.func21 (by kernel_rfl) rfl #[.slice A0 l0.length c0,.int .i64 a3,.int .i64 a2] rfl ln_ ?_;(with_reducible refine (keyring_Keys.calls _ _ l0 a3 a2 t151 t154 t155 _ ?side1 ?side2 A188.out).mono ?_);(case side1 => exact Kd.C_below HR0.out bel_);(case side2 => exact HC0.out);rintro e w214 ⟨v152,rfl,ho0,hb⟩;refine ⟨_,rfl,?_⟩;have HO153:=Aside0.mk (Kd.R_lower ho0 (below_size bel_));replace BK103:=Aside0.mk (blk_below (g:=gb103) (o:=.cells #[.int .i64 t101,.int .i64 t102] 24 (0,0)) (by refine blk_mv ?_;refine blk_far ?_ NB103_107.out _;refine blk_mv ?_;refine blk_far ?_ NB103_107.out _;refine blk_mv ?_;exact BK103.out) hb);replace BK107:=Aside0.mk (blk_below (g:=gb107) (o:=.cells #[.int .i64 t149,.int .i64 t150] 24 (0,0)) (by refine blk_mv ?_;refine blk_put (cs:=#[.int .i64 t149,.int .i64 t102]) ?_ 1 _ rfl;refine blk_mv ?_;refine blk_put (cs:=#[.int .i64 t101,.int .i64 t102]) ?_ 0 _ rfl;refine blk_mv ?_;exact BK107.out) hb);replace BK115:=Aside0.mk (blk_below (g:=gb115) (o:=.cells #[.int .i64 t124,.int .i64 t125] 24 (0,0)) (by refine blk_mv ?_;refine blk_far ?_ NB115_107.out _;refine blk_mv ?_;refine blk_far ?_ NB115_107.out _;refine blk_mv ?_;exact BK115.out) hb);replace HB:=Aside0.mk (below_step bel_ hb);(try clear hb);(try clear hb2);(try clear hk);(try clear hi);(try clear ho0);have hcz215_0:=blk_c (v:=.int .i64 t124) BK115.out 0 rfl;have hcz215_1:=blk_c (v:=.int .i64 t125) BK115.out 1 rfl;have hfz215_0:=blk_frozen BK115.out 0;have hfz215_1:=blk_frozen BK115.out 1;have hcz216_0:=blk_c (v:=.int .i64 t149) BK107.out 0 rfl;have hcz216_1:=blk_c (v:=.int .i64 t150) BK107.out 1 rfl;have hfz216_0:=blk_frozen BK107.out 0;have hfz216_1:=blk_frozen BK107.out 1;obtain ⟨Ao217,co217,eo217⟩:=Kd.R_slice HO153.out;subst eo217));go_ret;exact ⟨by first|rfl|(simp [errW_none,errW_some] <;> rfl)|(simp [*,errW_none,errW_some] <;> rfl),bel_⟩
             ·rw [if_neg c206] at H
              exact absurd H (by simp)
           ·rw [if_neg c189] at H
            exact absurd H (by simp)
         ·rw [if_neg c136] at H
          have c136b0 : (t101 == 0) = false:=beq_eq_false_iff_ne.mpr c136;have c136b1 : (t101 != 0) = true:=bne_iff_ne.mpr c136;replace H:=Option.bind_eq_some_iff.mp H;obtain ⟨⟨t160,t163,t164⟩,A2180,H⟩:=H;replace H : (if (t163 == t101 && (t164 == t102)) = true then (if (t160.length : Int) = 0 then (some true) else (none)) else (none)) = some r:=H;have A218:=Aside0.mk A2180;clear A2180;by_cases c219 : (t163 == t101 && (t164 == t102)) = true
          ·rw [if_pos c219] at H
           have c219b0 : (t163 == t101 && (t164 == t102)) = true:=c219;(try (have c219b1 : decide (t163 = t101 && (t164 == t102)) = true:=by simpa using c219));(try (have c219b2 : (t163 == t101 && (t164 == t102)) = true:=by simpa using c219));clear c219;by_cases c220 : (t160.length : Int) = 0
           ·rw [if_pos c220] at H
            have c220b0 : ((t160.length : Int) == 0) = true:=beq_iff_eq.mpr c220;have c220b1 : ((t160.length : Int) != 0) = false:=bne_eq_false_iff_eq.mpr c220;clear c220;obtain rfl:=Option.some.inj H;have hnb221:=NB103_107.out;have hnc221:=NB107_103.out;have hnb222:=NB103_115.out;have hnc222:=NB115_103.out;have hcz223_0:=blk_c (v:=.int .i64 t101) BK103.out 0 rfl;have hcz223_1:=blk_c (v:=.int .i64 t102) BK103.out 1 rfl;have hfz223_0:=blk_frozen BK103.out 0;have hfz223_1:=blk_frozen BK103.out 1;have hnb224:=NB107_115.out;have hnc224:=NB115_107.out;have hcz225_0:=blk_c (v:=.int .i64 x108000_97) BK107.out 0 rfl;have hcz225_1:=blk_c (v:=.int .i64 x108001_97) BK107.out 1 rfl;have hfz225_0:=blk_frozen BK107.out 0;have hfz225_1:=blk_frozen BK107.out 1;go_wp2_with (first|((with_reducible refine gate_callee (f:=21) rfl ?_);refine goesL_ (some 132) rfl rfl Try.func21 (by kernel_rfl) rfl #[.slice A0 l0.length c0,.int .i64 a3,.int .i64 a2] rfl ln_ ?_;(with_reducible refine (keyring_Keys.calls _ _ l0 a3 a2 t160 t163 t164 _ ?side1 ?side2 A218.out).mono ?_);(case side1 => exact Kd.C_below HR0.out bel_);(case side2 => exact HC0.out);rintro e w226 ⟨v161,rfl,ho0,hb⟩;refine ⟨_,rfl,?_⟩;have HO162:=Aside0.mk (Kd.R_lower ho0 (below_size bel_));replace BK103:=Aside0.mk (blk_below (g:=gb103) (o:=.cells #[.int .i64 t101,.int .i64 t102] 24 (0,0)) (by refine blk_mv ?_;refine blk_far ?_ NB103_107.out _;refine blk_mv ?_;refine blk_far ?_ NB103_107.out _;refine blk_mv ?_;exact BK103.out) hb);replace BK107:=Aside0.mk (blk_below (g:=gb107) (o:=.cells #[.int .i64 t101,.int .i64 t102] 24 (0,0)) (by refine blk_mv ?_;refine blk_put (cs:=#[.int .i64 t101,.int .i64 x108001_97]) ?_ 1 _ rfl;refine blk_mv ?_;refine blk_put (cs:=#[.int .i64 x108000_97,.int .i64 x108001_97]) ?_ 0 _ rfl;refine blk_mv ?_;exact BK107.out) hb);replace BK115:=Aside0.mk (blk_below (g:=gb115) (o:=.cells #[.int .i64 t124,.int .i64 t125] 24 (0,0)) (by refine blk_mv ?_;refine blk_far ?_ NB115_107.out _;refine blk_mv ?_;refine blk_far ?_ NB115_107.out _;refine blk_mv ?_;exact BK115.out) hb);replace HB:=Aside0.mk (below_step bel_ hb);(try clear hb);(try clear hb2);(try clear hk);(try clear hi);(try clear ho0);have hcz227_0:=blk_c (v:=.int .i64 t124) BK115.out 0 rfl;have hcz227_1:=blk_c (v:=.int .i64 t125) BK115.out 1 rfl;have hfz227_0:=blk_frozen BK115.out 0;have hfz227_1:=blk_frozen BK115.out 1;have hcz228_0:=blk_c (v:=.int .i64 t101) BK107.out 0 rfl;have hcz228_1:=blk_c (v:=.int .i64 t102) BK107.out 1 rfl;have hfz228_0:=blk_frozen BK107.out 0;have hfz228_1:=blk_frozen BK107.out 1;obtain ⟨Ao229,co229,eo229⟩:=Kd.R_slice HO162.out;subst eo229));go_ret;exact ⟨by first|rfl|(simp [errW_none,errW_some] <;> rfl)|(simp [*,errW_none,errW_some] <;> rfl),bel_⟩
           ·rw [if_neg c220] at H
            exact absurd H (by simp)
          ·rw [if_neg c219] at H
           exact absurd H (by simp)

set_option maxHeartbeats 8000000 in
set_option maxRecDepth 100000 in
theorem changeforgelaw5_KeyringMatchesSpec.calls (k : Nat) (A0 : Option Addr) (c0 : Nat) (l0 : List (S45)) (a1 : Int) (a2 : Int) (a3 : Int) (r : Bool) (w : World) (hr0 : Kd.C k45 w A0 l0.length l0) (hc0 : l0.length ≤ c0) (h : changeforgelaw5_KeyringMatchesSpec.f k l0 a1 a2 a3 = some r) :
  Calls Try.prog 3 #[.slice A0 l0.length c0,.int .i64 a1,.int .i64 a2,.int .i64 a3] w fun e w' => e = .returned (.bool r) ∧ Below w.heap.size w w':=by
 have hu24:=Try.underlying24;have HR0:=Aside0.mk hr0;have HC0:=Aside0.mk hc0;clear hr0 hc0;have HB:=Aside0.mk (Below.refl w.heap.size w);have H : ((changeforgeref5_KeyringFault.f k l0).bind fun bt101 => ((changeforgelaw5_keys.f k).bind fun t104 => (if t104 = true then ((keyring_Validate.f l0).bind fun bt105 => (changeforgelaw5_KeyringMatchesSpec.j0 k l0 a1 a2 a3 (!(bt105.1 == bt101.1) || (!(bt105.2 == bt101.2))) bt101.1 bt101.2)) else (changeforgelaw5_KeyringMatchesSpec.j0 k l0 a1 a2 a3 true bt101.1 bt101.2)))) = some r:=h;clear h;replace H:=Option.bind_eq_some_iff.mp H;obtain ⟨⟨t101,t102⟩,A50,H⟩:=H;replace H : ((changeforgelaw5_keys.f k).bind fun t104 => (if t104 = true then ((keyring_Validate.f l0).bind fun bt105 => (changeforgelaw5_KeyringMatchesSpec.j0 k l0 a1 a2 a3 (!(bt105.1 == t101) || (!(bt105.2 == t102))) t101 t102)) else (changeforgelaw5_KeyringMatchesSpec.j0 k l0 a1 a2 a3 true t101 t102))) = some r:=H;have A5:=Aside0.mk A50;clear A50;have HC6:=Aside0.mk H;clear H;go_enter Try.func3,Try.ntmps3;go_upto_region 2 with (first|((with_reducible refine gate_callee (f:=11) rfl ?_);refine goesL_ (some 16) rfl rfl Try.func11 (by kernel_rfl) rfl #[.slice A0 l0.length c0] rfl ln_ ?_;(with_reducible refine (changeforgeref5_KeyringFault.calls k _ _ l0 t101 t102 _ ?side1 ?side2 A5.out).mono ?_);(case side1 => first|exact HR0.out|exact Kd.C_mv HR0.out);(case side2 => exact HC0.out);rintro e w7 ⟨rfl,hb⟩;refine ⟨_,rfl,?_⟩;replace HB:=Aside0.mk (below_step bel_ hb);(try clear hb);(try clear hb2);(try clear hk);(try clear hi))|((with_reducible refine gate_dst (N:=9) rfl ?_);(try (refine gate_guard (by rfl) ?_;dsimp only));refine box_event ?hg (N:=9) ?hd (cs:=#[.int .i64 0,.int .i64 0]) (t:=24) ?hr ?_;(case hd => rfl);(case hg => rfl);(case hr => first|(go_simp;done)|(go_simp;rfl));intro gb103 hg w8 hbox hb;have BK103:=Aside0.mk (hbox);have GW103:=Aside0.mk ((bs_ : w.heap.size ≤ gb103));have GE103:=Aside0.mk ((bs_ : w.heap.size ≤ gb103));replace HB:=Aside0.mk (below_step bel_ hb);clear hb hbox hg;have hcz9_0:=blk_c (v:=.int .i64 0) BK103.out 0 rfl;have hcz9_1:=blk_c (v:=.int .i64 0) BK103.out 1 rfl;have hfz9_0:=blk_frozen BK103.out 0;have hfz9_1:=blk_frozen BK103.out 1));(try simp only [Act.put,sa_,sb_,sc_]);go_cut [24] (fun v24 wc => ∃ (kq : Nat) (x24_5 : Bool),v24 = .bool x24_5 ∧ Aside0 (changeforgelaw5_KeyringMatchesSpec.j0 kq l0 a1 a2 a3 x24_5 t101 t102 = some r) ∧ Aside0 (kq ≤ k) ∧ Aside0 (wc.heap[gb103]? = some (.cells #[.int .i64 t101,.int .i64 t102] 24 (0,0))) ∧ Aside0 (Below w.heap.size w wc))
 case first =>
  have H:=HC6.out;clear HC6;replace H:=Option.bind_eq_some_iff.mp H;obtain ⟨t104,A100,H⟩:=H;replace H : (if t104 = true then ((keyring_Validate.f l0).bind fun bt105 => (changeforgelaw5_KeyringMatchesSpec.j0 k l0 a1 a2 a3 (!(bt105.1 == t101) || (!(bt105.2 == t102))) t101 t102)) else (changeforgelaw5_KeyringMatchesSpec.j0 k l0 a1 a2 a3 true t101 t102)) = some r:=H;have A10:=Aside0.mk A100;clear A100;by_cases c11 : t104 = true
  ·subst c11
   have H1 : ((keyring_Validate.f l0).bind fun bt105 => (changeforgelaw5_KeyringMatchesSpec.j0 k l0 a1 a2 a3 (!(bt105.1 == t101) || (!(bt105.2 == t102))) t101 t102)) = some r:=by rw [if_pos rfl] at H;exact H
   clear H;have H:=H1;clear H1;replace H:=Option.bind_eq_some_iff.mp H;obtain ⟨⟨t105,t106⟩,A120,H⟩:=H;replace H : (changeforgelaw5_KeyringMatchesSpec.j0 k l0 a1 a2 a3 (!(t105 == t101) || (!(t106 == t102))) t101 t102) = some r:=H;have A12:=Aside0.mk A120;clear A120;have H':=Aside0.mk H;clear H;try go_wp2
   have n0_ : Aside0 (((w8.setCell ⟨gb103,0,none⟩ (.int .i64 t101)).setCell ⟨gb103,1,none⟩ (.int .i64 t102)).heap[gb103]? = some (.cells #[.int .i64 t101,.int .i64 t102] 24 (0,0))):=⟨by refine blk_mv ?_;refine blk_put (cs:=#[.int .i64 t101,.int .i64 0]) ?_ 1 _ rfl;refine blk_mv ?_;refine blk_put (cs:=#[.int .i64 0,.int .i64 0]) ?_ 0 _ rfl;refine blk_mv ?_;exact BK103.out⟩;have n1_ : Aside0 (Below w.heap.size w ((w8.setCell ⟨gb103,0,none⟩ (.int .i64 t101)).setCell ⟨gb103,1,none⟩ (.int .i64 t102))):=⟨bel_⟩;(try clear BK103);(try clear HB);generalize ((w8.setCell ⟨gb103,0,none⟩ (.int .i64 t101)).setCell ⟨gb103,1,none⟩ (.int .i64 t102)) = w13 at n0_ n1_ ⊢;have BK103:=n0_;have HB:=n1_;clear n0_ n1_;replace BK103:=Aside0.mk (blk_drew BK103.out);replace HB:=Aside0.mk (below_drew1 HB.out);refine start_ (n:=8) (S:=fun w' => w'.cell? ⟨gb103,0,none⟩ = some (.int .i64 t101) ∧ w'.cell? ⟨gb103,1,none⟩ = some (.int .i64 t102)) (ds:=[]) (bl_ 8 0) (by kernel_rfl) rfl rfl ⟨(blk_cell BK103.out 0).trans rfl,(blk_cell BK103.out 1).trans rfl⟩ (fun hHeld => ?_);refine with_tabW changeforgelaw5_KeyringMatchesSpec.tab2 changeforgelaw5_KeyringMatchesSpec.bits2 (fun HT_ HW_ => ?_);generalize w13.drew = w14 at BK103 HB hHeld ⊢;refine one_ (i:=0) (N:=some 17) (bl_ 8 1) rfl rfl (one_of HT_.out (by kernel_rfl)) (by decide) (fun K hK => ?_);refine goes_ Try.func12 (by kernel_rfl) rfl #[] (by rfl) rfl rfl ln_ ?_;with_reducible refine (changeforgelaw5_keys.calls k  true _ A10.out).mono ?_
   rintro e w15 ⟨rfl,hb⟩;refine ⟨_,rfl,?_⟩;replace BK103:=Aside0.mk (blk_below (blk_mv BK103.out) hb);replace HB:=Aside0.mk (below_step bel_ hb);(try clear hb);refine hK.out _ _ ⟨(blk_cell BK103.out 0).trans rfl,(blk_cell BK103.out 1).trans rfl⟩ (fun hHeld => ?_);clear hK K;refine norm_ (a':=?_) ?_ ?_;rotate_left
   ·show Act.put _ (some 17) _ = _
    simp only [Act.put,sa_,sb_,sc_,i64_w,i32_w];rfl
   refine pu_ (v:=?_) (a':=?_) 1 18 (bl_ 8 3) rfl rfl HT_.out ?_ ?_ ?_;rotate_left
   ·intro w'
    go_simp;with_reducible rfl
   rotate_left
   ·simp only [Act.put,sa_,sb_,sc_,i64_w,i32_w]
    rfl
   refine pu_ (v:=?_) (a':=?_) 2 19 (bl_ 8 7) rfl rfl HT_.out ?_ ?_ ?_;rotate_left
   ·intro w'
    go_simp;with_reducible rfl
   rotate_left
   ·simp only [Act.put,sa_,sb_,sc_,i64_w,i32_w]
    rfl
   refine pu_ (v:=?_) (a':=?_) 3 20 (bl_ 8 15) rfl rfl HT_.out ?_ ?_ ?_;rotate_left
   ·intro w'
    go_simp;with_reducible rfl
   rotate_left
   ·simp only [Act.put,sa_,sb_,sc_,i64_w,i32_w]
    rfl
   refine tk_ (v:=?_) (a':=?_) 5 22 (bl_ 8 47) rfl rfl HT_.out HW_.out ?_ hHeld ?_ ?_;rotate_left
   ·rintro w' ⟨s0,s1⟩
    go_simp;with_reducible rfl
   rotate_left
   ·simp only [Act.put,sa_,sb_,sc_,i64_w,i32_w]
    rfl
   refine one_ (i:=4) (N:=some 21) (bl_ 8 63) rfl rfl (one_of HT_.out (by kernel_rfl)) (by decide) (fun K hK => ?_);refine goes_ Try.func13 (by kernel_rfl) rfl #[.slice A0 l0.length c0] (by rfl) rfl rfl ln_ ?_;with_reducible refine (keyring_Validate.calls _ _ l0 t105 t106 _ ?side1 ?side2 A12.out).mono ?_
   (case side1 => first|exact (Kd.C_below HR0.out HB.out)|exact Kd.C_mv (Kd.C_below HR0.out HB.out));(case side2 => exact HC0.out);rintro e w16 ⟨rfl,hb⟩;refine ⟨_,rfl,?_⟩;replace BK103:=Aside0.mk (blk_below (blk_mv BK103.out) hb);replace HB:=Aside0.mk (below_step bel_ hb);(try clear hb);refine hK.out _ _ ⟨(blk_cell BK103.out 0).trans rfl,(blk_cell BK103.out 1).trans rfl⟩ (fun hHeld => ?_);clear hK K;refine norm_ (a':=?_) ?_ ?_;rotate_left
   ·show Act.put _ (some 21) _ = _
    simp only [Act.put,sa_,sb_,sc_,i64_w,i32_w];rfl
   refine pu_ (v:=?_) (a':=?_) 6 23 (bl_ 8 127) rfl rfl HT_.out ?_ ?_ ?_;rotate_left
   ·intro w'
    go_simp;with_reducible rfl
   rotate_left
   ·simp only [Act.put,sa_,sb_,sc_,i64_w,i32_w]
    rfl
   refine pu_ (v:=?_) (a':=?_) 7 24 (bl_ 8 255) rfl rfl HT_.out ?_ ?_ ?_;rotate_left
   ·intro w'
    go_simp;with_reducible rfl
   rotate_left
   ·simp only [Act.put,sa_,sb_,sc_,i64_w,i32_w]
    rfl
   refine done_ (done_of HT_.out (by kernel_rfl)) ?_;try go_wp2
   go_meet
   case rel => exact ⟨_,((!(t105 == t101) || (!(t106 == t102)))),fr_,H',⟨om_⟩,⟨blk_mv BK103.out⟩,⟨bel_⟩⟩
  ·replace c11:=Bool.eq_false_iff.mpr c11
   subst c11;have H1 : (changeforgelaw5_KeyringMatchesSpec.j0 k l0 a1 a2 a3 true t101 t102) = some r:=by rw [if_neg (show ¬ (false = true) by decide)] at H;exact H
   clear H;have H:=H1;clear H1;have H':=Aside0.mk H;clear H;try go_wp2
   have n0_ : Aside0 (((w8.setCell ⟨gb103,0,none⟩ (.int .i64 t101)).setCell ⟨gb103,1,none⟩ (.int .i64 t102)).heap[gb103]? = some (.cells #[.int .i64 t101,.int .i64 t102] 24 (0,0))):=⟨by refine blk_mv ?_;refine blk_put (cs:=#[.int .i64 t101,.int .i64 0]) ?_ 1 _ rfl;refine blk_mv ?_;refine blk_put (cs:=#[.int .i64 0,.int .i64 0]) ?_ 0 _ rfl;refine blk_mv ?_;exact BK103.out⟩;have n1_ : Aside0 (Below w.heap.size w ((w8.setCell ⟨gb103,0,none⟩ (.int .i64 t101)).setCell ⟨gb103,1,none⟩ (.int .i64 t102))):=⟨bel_⟩;(try clear BK103);(try clear HB);generalize ((w8.setCell ⟨gb103,0,none⟩ (.int .i64 t101)).setCell ⟨gb103,1,none⟩ (.int .i64 t102)) = w17 at n0_ n1_ ⊢;have BK103:=n0_;have HB:=n1_;clear n0_ n1_;replace BK103:=Aside0.mk (blk_drew BK103.out);replace HB:=Aside0.mk (below_drew1 HB.out);refine start_ (n:=8) (S:=fun w' => True) (ds:=[]) (bl_ 8 0) (by kernel_rfl) rfl rfl trivial (fun hHeld => ?_);refine with_tabW changeforgelaw5_KeyringMatchesSpec.tab2 changeforgelaw5_KeyringMatchesSpec.bits2 (fun HT_ HW_ => ?_);generalize w17.drew = w18 at BK103 HB hHeld ⊢;refine one_ (i:=0) (N:=some 17) (bl_ 8 1) rfl rfl (one_of HT_.out (by kernel_rfl)) (by decide) (fun K hK => ?_);refine goes_ Try.func12 (by kernel_rfl) rfl #[] (by rfl) rfl rfl ln_ ?_;with_reducible refine (changeforgelaw5_keys.calls k  false _ A10.out).mono ?_
   rintro e w19 ⟨rfl,hb⟩;refine ⟨_,rfl,?_⟩;replace BK103:=Aside0.mk (blk_below (blk_mv BK103.out) hb);replace HB:=Aside0.mk (below_step bel_ hb);(try clear hb);refine hK.out _ _ trivial (fun hHeld => ?_);clear hK K;refine norm_ (a':=?_) ?_ ?_;rotate_left
   ·show Act.put _ (some 17) _ = _
    simp only [Act.put,sa_,sb_,sc_,i64_w,i32_w];rfl
   refine pu_ (v:=?_) (a':=?_) 1 18 (bl_ 8 3) rfl rfl HT_.out ?_ ?_ ?_;rotate_left
   ·intro w'
    go_simp;with_reducible rfl
   rotate_left
   ·simp only [Act.put,sa_,sb_,sc_,i64_w,i32_w]
    rfl
   refine pu_ (v:=?_) (a':=?_) 2 19 (bl_ 8 7) rfl rfl HT_.out ?_ ?_ ?_;rotate_left
   ·intro w'
    go_simp;with_reducible rfl
   rotate_left
   ·simp only [Act.put,sa_,sb_,sc_,i64_w,i32_w]
    rfl
   refine pun_ (a':=?_) 3 20 (bl_ 8 15) rfl rfl HT_.out ?_ ?_;rotate_left
   ·simp only [Act.put,sa_,sb_,sc_,i64_w,i32_w]
    rfl
   refine pun_ (a':=?_) 4 21 (bl_ 8 31) rfl rfl HT_.out ?_ ?_;rotate_left
   ·simp only [Act.put,sa_,sb_,sc_,i64_w,i32_w]
    rfl
   refine pun_ (a':=?_) 5 22 (bl_ 8 63) rfl rfl HT_.out ?_ ?_;rotate_left
   ·simp only [Act.put,sa_,sb_,sc_,i64_w,i32_w]
    rfl
   refine pun_ (a':=?_) 6 23 (bl_ 8 127) rfl rfl HT_.out ?_ ?_;rotate_left
   ·simp only [Act.put,sa_,sb_,sc_,i64_w,i32_w]
    rfl
   refine pu_ (v:=?_) (a':=?_) 7 24 (bl_ 8 255) rfl rfl HT_.out ?_ ?_ ?_;rotate_left
   ·intro w'
    go_simp;with_reducible rfl
   rotate_left
   ·simp only [Act.put,sa_,sb_,sc_,i64_w,i32_w]
    rfl
   refine done_ (done_of HT_.out (by kernel_rfl)) ?_;try go_wp2
   go_meet
   case rel => exact ⟨_,(true),fr_,H',⟨om_⟩,⟨blk_mv BK103.out⟩,⟨bel_⟩⟩
 case rest =>
  clear HC6;(try clear c1);(try clear p2);(try clear c3);(try clear c11);(try clear c12);(try clear c13);(try clear hcz9_0);(try clear hcz9_1);(try clear hfz9_0);(try clear hfz9_1);obtain ⟨kq,x24_5,rfl,HA,HJ5,BK103,HB⟩:=hcut;cases kq with
  | zero => exact absurd HA.out (by simp [changeforgelaw5_KeyringMatchesSpec.j0])
  | succ kj5 =>
   have H:=HA.out;clear HA;simp only [changeforgelaw5_KeyringMatchesSpec.j0] at H;by_cases c20 : x24_5 = true
   ·subst c20
    have H1 : (none) = some r:=by rw [if_pos rfl] at H;exact H
    clear H;have H:=H1;clear H1;exact absurd H (by simp)
   ·replace c20:=Bool.eq_false_iff.mpr c20
    subst c20;have H1 : (if t101 = 0 then ((changeforgeref5_IsKey.f a1).bind fun t108 => (if t108 = true then ((changeforgelaw5_in.f a2 0 100000).bind fun t109 => (changeforgelaw5_KeyringMatchesSpec.j1 kj5 l0 a1 a2 a3 (!t109) t101 t102 t101 t102)) else (changeforgelaw5_KeyringMatchesSpec.j1 kj5 l0 a1 a2 a3 true t101 t102 t101 t102))) else (changeforgelaw5_KeyringMatchesSpec.j1 kj5 l0 a1 a2 a3 false t101 t102 t101 t102)) = some r:=by rw [if_neg (show ¬ (false = true) by decide)] at H;exact H
    clear H;have H:=H1;clear H1;have HC21:=Aside0.mk H;clear H;have hcz22_0:=blk_c (v:=.int .i64 t101) BK103.out 0 rfl;have hcz22_1:=blk_c (v:=.int .i64 t102) BK103.out 1 rfl;have hfz22_0:=blk_frozen BK103.out 0;have hfz22_1:=blk_frozen BK103.out 1;go_upto_region 5 with (first|((with_reducible refine gate_dst (N:=10) rfl ?_);(try (refine gate_guard (by rfl) ?_;dsimp only));refine box_event ?hg (N:=10) ?hd (cs:=#[.int .i64 0,.int .i64 0]) (t:=24) ?hr ?_;(case hd => rfl);(case hg => rfl);(case hr => first|(go_simp;done)|(go_simp;rfl));intro gb107 hg w23 hbox hb;have BK107:=Aside0.mk (hbox);have GW107:=Aside0.mk ((bs_ : w.heap.size ≤ gb107));have GE107:=Aside0.mk ((bs_ : w.heap.size ≤ gb107));replace HB:=Aside0.mk (below_step bel_ hb);have NB103_107:=Aside0.mk ((by rw [hg];exact Nat.ne_of_lt (blk_lt (g:=gb103) (o:=.cells #[.int .i64 t101,.int .i64 t102] 24 (0,0)) (blk_mv BK103.out)) : gb103 ≠ gb107));have NB107_103:=Aside0.mk ((by rw [hg];exact Nat.ne_of_gt (blk_lt (g:=gb103) (o:=.cells #[.int .i64 t101,.int .i64 t102] 24 (0,0)) (blk_mv BK103.out)) : gb107 ≠ gb103));replace BK103:=Aside0.mk (blk_below (blk_mv BK103.out) hb);clear hb hbox hg;have hnb24:=NB107_103.out;have hnc24:=NB103_107.out;have hcz25_0:=blk_c (v:=.int .i64 0) BK107.out 0 rfl;have hcz25_1:=blk_c (v:=.int .i64 0) BK107.out 1 rfl;have hfz25_0:=blk_frozen BK107.out 0;have hfz25_1:=blk_frozen BK107.out 1));(try simp only [Act.put,sa_,sb_,sc_]);go_cut [38] (fun v38 wc => ∃ (kq : Nat) (x38_20 : Bool),v38 = .bool x38_20 ∧ Aside0 (changeforgelaw5_KeyringMatchesSpec.j1 kq l0 a1 a2 a3 x38_20 t101 t102 t101 t102 = some r) ∧ Aside0 (kq ≤ kj5) ∧ Aside0 (wc.heap[gb103]? = some (.cells #[.int .i64 t101,.int .i64 t102] 24 (0,0))) ∧ Aside0 (wc.heap[gb107]? = some (.cells #[.int .i64 t101,.int .i64 t102] 24 (0,0))) ∧ Aside0 (Below w.heap.size w wc))
    case first =>
     have H:=HC21.out;clear HC21;by_cases c26 : t101 = 0
     ·rw [if_pos c26] at H
      have c26b0 : (t101 == 0) = true:=beq_iff_eq.mpr c26;have c26b1 : (t101 != 0) = false:=bne_eq_false_iff_eq.mpr c26;clear c26;(first|rw [c26b0]|(simp only [i64_w,i32_w];rw [c26b0])|skip);replace H:=Option.bind_eq_some_iff.mp H;obtain ⟨t108,A270,H⟩:=H;replace H : (if t108 = true then ((changeforgelaw5_in.f a2 0 100000).bind fun t109 => (changeforgelaw5_KeyringMatchesSpec.j1 kj5 l0 a1 a2 a3 (!t109) t101 t102 t101 t102)) else (changeforgelaw5_KeyringMatchesSpec.j1 kj5 l0 a1 a2 a3 true t101 t102 t101 t102)) = some r:=H;have A27:=Aside0.mk A270;clear A270;by_cases c28 : t108 = true
      ·subst c28
       have H1 : ((changeforgelaw5_in.f a2 0 100000).bind fun t109 => (changeforgelaw5_KeyringMatchesSpec.j1 kj5 l0 a1 a2 a3 (!t109) t101 t102 t101 t102)) = some r:=by rw [if_pos rfl] at H;exact H
       clear H;have H:=H1;clear H1;replace H:=Option.bind_eq_some_iff.mp H;obtain ⟨t109,A290,H⟩:=H;replace H : (changeforgelaw5_KeyringMatchesSpec.j1 kj5 l0 a1 a2 a3 (!t109) t101 t102 t101 t102) = some r:=H;have A29:=Aside0.mk A290;clear A290;have H':=Aside0.mk H;clear H;have hnb30:=NB107_103.out;have hnc30:=NB103_107.out;have hcz31_0:=blk_c (v:=.int .i64 0) BK107.out 0 rfl;have hcz31_1:=blk_c (v:=.int .i64 0) BK107.out 1 rfl;have hfz31_0:=blk_frozen BK107.out 0;have hfz31_1:=blk_frozen BK107.out 1;go_wp2_with (first|(go_at_call 14;(with_reducible refine (changeforgeref5_IsKey.calls a1 true _ A27.out).mono ?_);rintro e w' ⟨rfl,⟨nd,rfl⟩⟩)|(go_at_call 15;(with_reducible refine (changeforgelaw5_in.calls a2 0 100000 t109 _ A29.out).mono ?_);rintro e w' ⟨rfl,⟨nd,rfl⟩⟩));go_meet
       case rel => exact ⟨_,(!t109),fr_,H',⟨by have:=HJ5.out;first|omega|exact Nat.le_refl _⟩,⟨by refine blk_mv ?_;refine blk_far ?_ NB103_107.out _;refine blk_mv ?_;refine blk_far ?_ NB103_107.out _;refine blk_mv ?_;exact BK103.out⟩,⟨by refine blk_mv ?_;refine blk_put (cs:=#[.int .i64 t101,.int .i64 0]) ?_ 1 _ rfl;refine blk_mv ?_;refine blk_put (cs:=#[.int .i64 0,.int .i64 0]) ?_ 0 _ rfl;refine blk_mv ?_;exact BK107.out⟩,⟨bel_⟩⟩
      ·replace c28:=Bool.eq_false_iff.mpr c28
       subst c28;have H1 : (changeforgelaw5_KeyringMatchesSpec.j1 kj5 l0 a1 a2 a3 true t101 t102 t101 t102) = some r:=by rw [if_neg (show ¬ (false = true) by decide)] at H;exact H
       clear H;have H:=H1;clear H1;have H':=Aside0.mk H;clear H;have hnb32:=NB107_103.out;have hnc32:=NB103_107.out;have hcz33_0:=blk_c (v:=.int .i64 0) BK107.out 0 rfl;have hcz33_1:=blk_c (v:=.int .i64 0) BK107.out 1 rfl;have hfz33_0:=blk_frozen BK107.out 0;have hfz33_1:=blk_frozen BK107.out 1;go_wp2_with (first|(go_at_call 14;(with_reducible refine (changeforgeref5_IsKey.calls a1 false _ A27.out).mono ?_);rintro e w' ⟨rfl,⟨nd,rfl⟩⟩));go_meet
       case rel => exact ⟨_,(true),fr_,H',⟨by have:=HJ5.out;first|omega|exact Nat.le_refl _⟩,⟨by refine blk_mv ?_;refine blk_far ?_ NB103_107.out _;refine blk_mv ?_;refine blk_far ?_ NB103_107.out _;refine blk_mv ?_;exact BK103.out⟩,⟨by refine blk_mv ?_;refine blk_put (cs:=#[.int .i64 t101,.int .i64 0]) ?_ 1 _ rfl;refine blk_mv ?_;refine blk_put (cs:=#[.int .i64 0,.int .i64 0]) ?_ 0 _ rfl;refine blk_mv ?_;exact BK107.out⟩,⟨bel_⟩⟩
     ·rw [if_neg c26] at H
      have c26b0 : (t101 == 0) = false:=beq_eq_false_iff_ne.mpr c26;have c26b1 : (t101 != 0) = true:=bne_iff_ne.mpr c26;(first|rw [c26b0]|(simp only [i64_w,i32_w];rw [c26b0])|skip);have H':=Aside0.mk H;clear H;have hnb34:=NB107_103.out;have hnc34:=NB103_107.out;have hcz35_0:=blk_c (v:=.int .i64 0) BK107.out 0 rfl;have hcz35_1:=blk_c (v:=.int .i64 0) BK107.out 1 rfl;have hfz35_0:=blk_frozen BK107.out 0;have hfz35_1:=blk_frozen BK107.out 1;go_wp2;go_meet
      case rel => exact ⟨_,(false),fr_,H',⟨by have:=HJ5.out;first|omega|exact Nat.le_refl _⟩,⟨by refine blk_mv ?_;refine blk_far ?_ NB103_107.out _;refine blk_mv ?_;refine blk_far ?_ NB103_107.out _;refine blk_mv ?_;exact BK103.out⟩,⟨by refine blk_mv ?_;refine blk_put (cs:=#[.int .i64 t101,.int .i64 0]) ?_ 1 _ rfl;refine blk_mv ?_;refine blk_put (cs:=#[.int .i64 0,.int .i64 0]) ?_ 0 _ rfl;refine blk_mv ?_;exact BK107.out⟩,⟨bel_⟩⟩
    case rest =>
     clear HC21;(try clear c1);(try clear c2);(try clear p2);(try clear c3);(try clear c11);(try clear c12);(try clear c13);(try clear c20);(try clear c24);(try clear c26);(try clear c26b0);(try clear c26b1);(try clear c28);(try clear c30);(try clear c32);(try clear c34);(try clear hcz22_0);(try clear hcz22_1);(try clear hcz25_0);(try clear hcz25_1);(try clear hcz31_0);(try clear hcz31_1);(try clear hcz33_0);(try clear hcz33_1);(try clear hcz35_0);(try clear hcz35_1);(try clear hcz9_0);(try clear hcz9_1);(try clear hfz22_0);(try clear hfz22_1);(try clear hfz25_0);(try clear hfz25_1);(try clear hfz31_0);(try clear hfz31_1);(try clear hfz33_0);(try clear hfz33_1);(try clear hfz35_0);(try clear hfz35_1);(try clear hfz9_0);(try clear hfz9_1);(try clear p2);obtain ⟨kq,x38_20,rfl,HA,HJ20,BK103,BK107,HB⟩:=hcut;cases kq with
     | zero => exact absurd HA.out (by simp [changeforgelaw5_KeyringMatchesSpec.j1])
     | succ kj20 =>
      have H:=HA.out;clear HA;simp only [changeforgelaw5_KeyringMatchesSpec.j1] at H;have HC36:=Aside0.mk H;clear H;go_upto_if 38 with (fail);go_cut [] (fun wc => ∃ (kq : Nat) (x108000_35 : Int) (x108001_35 : Int),Aside0 (changeforgelaw5_KeyringMatchesSpec.j2 kq l0 a1 a2 a3 t101 t102 x108000_35 x108001_35 = some r) ∧ Aside0 (kq ≤ kj20) ∧ Aside0 (wc.heap[gb103]? = some (.cells #[.int .i64 t101,.int .i64 t102] 24 (0,0))) ∧ Aside0 (wc.heap[gb107]? = some (.cells #[.int .i64 x108000_35,.int .i64 x108001_35] 24 (0,0))) ∧ Aside0 (Below w.heap.size w wc))
      case first =>
       have H:=HC36.out;clear HC36;by_cases c37 : x38_20 = true
       ·subst c37
        have H1 : ((changeforgelaw5_fault.f 3 (-1)).bind fun bt110 => (changeforgelaw5_KeyringMatchesSpec.j2 kj20 l0 a1 a2 a3 t101 t102 bt110.1 bt110.2)) = some r:=by rw [if_pos rfl] at H;exact H
        clear H;have H:=H1;clear H1;replace H:=Option.bind_eq_some_iff.mp H;obtain ⟨⟨t110,t111⟩,A380,H⟩:=H;replace H : (changeforgelaw5_KeyringMatchesSpec.j2 kj20 l0 a1 a2 a3 t101 t102 t110 t111) = some r:=H;have A38:=Aside0.mk A380;clear A380;have H':=Aside0.mk H;clear H;go_wp2_with (first|((with_reducible refine gate_callee (f:=16) rfl ?_);refine goesL_ (some 39) rfl rfl Try.func16 (by kernel_rfl) rfl #[.int .i64 3,.int .i64 (-1)] rfl ln_ ?_;(with_reducible refine (changeforgelaw5_fault.calls 3 (-1) t110 t111 _ A38.out).mono ?_);rintro e w39 ⟨rfl,hb⟩;refine ⟨_,rfl,?_⟩;replace BK103:=Aside0.mk (blk_below (blk_mv BK103.out) hb);replace BK107:=Aside0.mk (blk_below (blk_mv BK107.out) hb);replace HB:=Aside0.mk (below_step bel_ hb);(try clear hb);(try clear hb2);(try clear hk);(try clear hi);have hnb40:=NB107_103.out;have hnc40:=NB103_107.out;have hcz41_0:=blk_c (v:=.int .i64 t101) BK107.out 0 rfl;have hcz41_1:=blk_c (v:=.int .i64 t102) BK107.out 1 rfl;have hfz41_0:=blk_frozen BK107.out 0;have hfz41_1:=blk_frozen BK107.out 1));go_meet
        case rel => exact ⟨_,(t110),(t111),H',⟨by have:=HJ5.out;have:=HJ20.out;first|omega|exact Nat.le_refl _⟩,⟨by refine blk_mv ?_;refine blk_far ?_ NB103_107.out _;refine blk_mv ?_;refine blk_far ?_ NB103_107.out _;refine blk_mv ?_;exact BK103.out⟩,⟨by refine blk_mv ?_;refine blk_put (cs:=#[.int .i64 t110,.int .i64 t102]) ?_ 1 _ rfl;refine blk_mv ?_;refine blk_put (cs:=#[.int .i64 t101,.int .i64 t102]) ?_ 0 _ rfl;refine blk_mv ?_;exact BK107.out⟩,⟨bel_⟩⟩
       ·replace c37:=Bool.eq_false_iff.mpr c37
        subst c37;have H1 : (changeforgelaw5_KeyringMatchesSpec.j2 kj20 l0 a1 a2 a3 t101 t102 t101 t102) = some r:=by rw [if_neg (show ¬ (false = true) by decide)] at H;exact H
        clear H;have H:=H1;clear H1;have H':=Aside0.mk H;clear H;go_wp2;go_meet
        case rel => exact ⟨_,(t101),(t102),H',⟨by have:=HJ5.out;have:=HJ20.out;first|omega|exact Nat.le_refl _⟩,⟨blk_mv BK103.out⟩,⟨blk_mv BK107.out⟩,⟨bel_⟩⟩
      case rest =>
       clear HC36;(try clear c1);(try clear c2);(try clear p2);(try clear c3);(try clear c4);(try clear c11);(try clear c12);(try clear c13);(try clear c16);(try clear c20);(try clear c24);(try clear c26);(try clear c26b0);(try clear c26b1);(try clear c28);(try clear c30);(try clear c32);(try clear c34);(try clear c37);(try clear c40);(try clear hcz22_0);(try clear hcz22_1);(try clear hcz25_0);(try clear hcz25_1);(try clear hcz31_0);(try clear hcz31_1);(try clear hcz33_0);(try clear hcz33_1);(try clear hcz35_0);(try clear hcz35_1);(try clear hcz41_0);(try clear hcz41_1);(try clear hcz9_0);(try clear hcz9_1);(try clear hfz22_0);(try clear hfz22_1);(try clear hfz25_0);(try clear hfz25_1);(try clear hfz31_0);(try clear hfz31_1);(try clear hfz33_0);(try clear hfz33_1);(try clear hfz35_0);(try clear hfz35_1);(try clear hfz41_0);(try clear hfz41_1);(try clear hfz9_0);(try clear hfz9_1);(try clear p2);obtain ⟨kq,x108000_35,x108001_35,HA,HJ35,BK103,BK107,HB⟩:=hcut;cases kq with
       | zero => exact absurd HA.out (by simp [changeforgelaw5_KeyringMatchesSpec.j2])
       | succ kj35 =>
        have H:=HA.out;clear HA;simp only [changeforgelaw5_KeyringMatchesSpec.j2] at H;replace H:=Option.bind_eq_some_iff.mp H;obtain ⟨⟨t112,t113,t114⟩,A420,H⟩:=H;replace H : (if (!(t113 == x108000_35) || (!(t114 == x108001_35))) = true then (changeforgelaw5_KeyringMatchesSpec.j3 kj35 l0 a1 a2 a3 true t101 t102) else (if x108000_35 = 0 then ((changeforgeref5_KeyValid.f kj35 l0 a1 a2).bind fun t116 => (changeforgelaw5_KeyringMatchesSpec.j3 kj35 l0 a1 a2 a3 (t112 != t116) t101 t102)) else (changeforgelaw5_KeyringMatchesSpec.j3 kj35 l0 a1 a2 a3 (t112 != false) t101 t102))) = some r:=H;have A42:=Aside0.mk A420;clear A420;have HC43:=Aside0.mk H;clear H;go_upto_region 8 with (first|((with_reducible refine gate_callee (f:=17) rfl ?_);refine goesL_ (some 44) rfl rfl Try.func17 (by kernel_rfl) rfl #[.slice A0 l0.length c0,.int .i64 a1,.int .i64 a2] rfl ln_ ?_;(with_reducible refine (keyring_Valid.calls _ _ l0 a1 a2 t112 t113 t114 _ ?side1 ?side2 A42.out).mono ?_);(case side1 => first|exact (Kd.C_below HR0.out HB.out)|exact Kd.C_mv (Kd.C_below HR0.out HB.out));(case side2 => exact HC0.out);rintro e w44 ⟨rfl,hb⟩;refine ⟨_,rfl,?_⟩;replace BK103:=Aside0.mk (blk_below (blk_mv BK103.out) hb);replace BK107:=Aside0.mk (blk_below (blk_mv BK107.out) hb);replace HB:=Aside0.mk (below_step bel_ hb);(try clear hb);(try clear hb2);(try clear hk);(try clear hi))|((with_reducible refine gate_dst (N:=12) rfl ?_);(try (refine gate_guard (by rfl) ?_;dsimp only));refine box_event ?hg (N:=12) ?hd (cs:=#[.int .i64 0,.int .i64 0]) (t:=24) ?hr ?_;(case hd => rfl);(case hg => rfl);(case hr => first|(go_simp;done)|(go_simp;rfl));intro gb115 hg w45 hbox hb;have BK115:=Aside0.mk (hbox);have GW115:=Aside0.mk ((bs_ : w.heap.size ≤ gb115));have GE115:=Aside0.mk ((bs_ : w.heap.size ≤ gb115));replace HB:=Aside0.mk (below_step bel_ hb);have NB103_115:=Aside0.mk ((by rw [hg];exact Nat.ne_of_lt (blk_lt (g:=gb103) (o:=.cells #[.int .i64 t101,.int .i64 t102] 24 (0,0)) (blk_mv BK103.out)) : gb103 ≠ gb115));have NB115_103:=Aside0.mk ((by rw [hg];exact Nat.ne_of_gt (blk_lt (g:=gb103) (o:=.cells #[.int .i64 t101,.int .i64 t102] 24 (0,0)) (blk_mv BK103.out)) : gb115 ≠ gb103));replace BK103:=Aside0.mk (blk_below (blk_mv BK103.out) hb);have NB107_115:=Aside0.mk ((by rw [hg];exact Nat.ne_of_lt (blk_lt (g:=gb107) (o:=.cells #[.int .i64 x108000_35,.int .i64 x108001_35] 24 (0,0)) (blk_mv BK107.out)) : gb107 ≠ gb115));have NB115_107:=Aside0.mk ((by rw [hg];exact Nat.ne_of_gt (blk_lt (g:=gb107) (o:=.cells #[.int .i64 x108000_35,.int .i64 x108001_35] 24 (0,0)) (blk_mv BK107.out)) : gb115 ≠ gb107));replace BK107:=Aside0.mk (blk_below (blk_mv BK107.out) hb);clear hb hbox hg;have hnb46:=NB115_103.out;have hnc46:=NB103_115.out;have hnb47:=NB115_107.out;have hnc47:=NB107_115.out;have hcz48_0:=blk_c (v:=.int .i64 0) BK115.out 0 rfl;have hcz48_1:=blk_c (v:=.int .i64 0) BK115.out 1 rfl;have hfz48_0:=blk_frozen BK115.out 0;have hfz48_1:=blk_frozen BK115.out 1));(try simp only [Act.put,sa_,sb_,sc_]);go_cut [62] (fun v62 wc => ∃ (kq : Nat) (x62_42 : Bool),v62 = .bool x62_42 ∧ Aside0 (changeforgelaw5_KeyringMatchesSpec.j3 kq l0 a1 a2 a3 x62_42 t101 t102 = some r) ∧ Aside0 (kq ≤ kj35) ∧ Aside0 (wc.heap[gb103]? = some (.cells #[.int .i64 t101,.int .i64 t102] 24 (0,0))) ∧ Aside0 (wc.heap[gb107]? = some (.cells #[.int .i64 x108000_35,.int .i64 x108001_35] 24 (0,0))) ∧ Aside0 (wc.heap[gb115]? = some (.cells #[.int .i64 t113,.int .i64 t114] 24 (0,0))) ∧ Aside0 (Below w.heap.size w wc))
        case first =>
         have H:=HC43.out;clear HC43;by_cases c49 : (!(t113 == x108000_35) || (!(t114 == x108001_35))) = true
         ·rw [if_pos c49] at H
          have c49b0 : (!(t113 == x108000_35) || (!(t114 == x108001_35))) = true:=c49;clear c49;(first|rw [c49b0]|(simp only [i64_w,i32_w];rw [c49b0])|skip);have H':=Aside0.mk H;clear H;have hnb50:=NB115_103.out;have hnc50:=NB103_115.out;have hnb51:=NB115_107.out;have hnc51:=NB107_115.out;have hcz52_0:=blk_c (v:=.int .i64 0) BK115.out 0 rfl;have hcz52_1:=blk_c (v:=.int .i64 0) BK115.out 1 rfl;have hfz52_0:=blk_frozen BK115.out 0;have hfz52_1:=blk_frozen BK115.out 1;have hnb53:=NB107_103.out;have hnc53:=NB103_107.out;have hcz54_0:=blk_c (v:=.int .i64 x108000_35) BK107.out 0 rfl;have hcz54_1:=blk_c (v:=.int .i64 x108001_35) BK107.out 1 rfl;have hfz54_0:=blk_frozen BK107.out 0;have hfz54_1:=blk_frozen BK107.out 1;go_wp2;go_meet
          case rel => exact ⟨_,(true),fr_,H',⟨by have:=HJ5.out;have:=HJ20.out;have:=HJ35.out;first|omega|exact Nat.le_refl _⟩,⟨by refine blk_mv ?_;refine blk_far ?_ NB103_115.out _;refine blk_mv ?_;refine blk_far ?_ NB103_115.out _;refine blk_mv ?_;exact BK103.out⟩,⟨by refine blk_mv ?_;refine blk_far ?_ NB107_115.out _;refine blk_mv ?_;refine blk_far ?_ NB107_115.out _;refine blk_mv ?_;exact BK107.out⟩,⟨by refine blk_mv ?_;refine blk_put (cs:=#[.int .i64 t113,.int .i64 0]) ?_ 1 _ rfl;refine blk_mv ?_;refine blk_put (cs:=#[.int .i64 0,.int .i64 0]) ?_ 0 _ rfl;refine blk_mv ?_;exact BK115.out⟩,⟨bel_⟩⟩
         ·rw [if_neg c49] at H
          have c49b0 : (!(t113 == x108000_35) || (!(t114 == x108001_35))) = false:=by simpa using c49
          clear c49;(first|rw [c49b0]|(simp only [i64_w,i32_w];rw [c49b0])|skip);by_cases c55 : x108000_35 = 0
          ·rw [if_pos c55] at H
           have c55b0 : (x108000_35 == 0) = true:=beq_iff_eq.mpr c55;have c55b1 : (x108000_35 != 0) = false:=bne_eq_false_iff_eq.mpr c55;clear c55;replace H:=Option.bind_eq_some_iff.mp H;obtain ⟨t116,A560,H⟩:=H;replace H : (changeforgelaw5_KeyringMatchesSpec.j3 kj35 l0 a1 a2 a3 (t112 != t116) t101 t102) = some r:=H;have A56:=Aside0.mk A560;clear A560;have H':=Aside0.mk H;clear H;have hnb57:=NB115_103.out;have hnc57:=NB103_115.out;have hnb58:=NB115_107.out;have hnc58:=NB107_115.out;have hcz59_0:=blk_c (v:=.int .i64 0) BK115.out 0 rfl;have hcz59_1:=blk_c (v:=.int .i64 0) BK115.out 1 rfl;have hfz59_0:=blk_frozen BK115.out 0;have hfz59_1:=blk_frozen BK115.out 1;have hnb60:=NB107_103.out;have hnc60:=NB103_107.out;have hcz61_0:=blk_c (v:=.int .i64 x108000_35) BK107.out 0 rfl;have hcz61_1:=blk_c (v:=.int .i64 x108001_35) BK107.out 1 rfl;have hfz61_0:=blk_frozen BK107.out 0;have hfz61_1:=blk_frozen BK107.out 1;go_wp2_with (first|(go_at_call 18;(with_reducible refine (changeforgeref5_KeyValid.calls kj35 _ _ l0 a1 a2 t116 _ ?side1 ?side2 A56.out).mono ?_);(case side1 => exact Kd.C_below HR0.out bel_);(case side2 => exact HC0.out);rintro e w' ⟨rfl,⟨nd,rfl⟩⟩));go_meet
           case rel => exact ⟨_,((t112 != t116)),fr_,H',⟨by have:=HJ5.out;have:=HJ20.out;have:=HJ35.out;first|omega|exact Nat.le_refl _⟩,⟨by refine blk_mv ?_;refine blk_far ?_ NB103_115.out _;refine blk_mv ?_;refine blk_far ?_ NB103_115.out _;refine blk_mv ?_;exact BK103.out⟩,⟨by refine blk_mv ?_;refine blk_far ?_ NB107_115.out _;refine blk_mv ?_;refine blk_far ?_ NB107_115.out _;refine blk_mv ?_;exact BK107.out⟩,⟨by refine blk_mv ?_;refine blk_put (cs:=#[.int .i64 t113,.int .i64 0]) ?_ 1 _ rfl;refine blk_mv ?_;refine blk_put (cs:=#[.int .i64 0,.int .i64 0]) ?_ 0 _ rfl;refine blk_mv ?_;exact BK115.out⟩,⟨bel_⟩⟩
          ·rw [if_neg c55] at H
           have c55b0 : (x108000_35 == 0) = false:=beq_eq_false_iff_ne.mpr c55;have c55b1 : (x108000_35 != 0) = true:=bne_iff_ne.mpr c55;have H':=Aside0.mk H;clear H;have hnb62:=NB115_103.out;have hnc62:=NB103_115.out;have hnb63:=NB115_107.out;have hnc63:=NB107_115.out;have hcz64_0:=blk_c (v:=.int .i64 0) BK115.out 0 rfl;have hcz64_1:=blk_c (v:=.int .i64 0) BK115.out 1 rfl;have hfz64_0:=blk_frozen BK115.out 0;have hfz64_1:=blk_frozen BK115.out 1;have hnb65:=NB107_103.out;have hnc65:=NB103_107.out;have hcz66_0:=blk_c (v:=.int .i64 x108000_35) BK107.out 0 rfl;have hcz66_1:=blk_c (v:=.int .i64 x108001_35) BK107.out 1 rfl;have hfz66_0:=blk_frozen BK107.out 0;have hfz66_1:=blk_frozen BK107.out 1;go_wp2;go_meet
           case rel => exact ⟨_,((t112 != false)),fr_,H',⟨by have:=HJ5.out;have:=HJ20.out;have:=HJ35.out;first|omega|exact Nat.le_refl _⟩,⟨by refine blk_mv ?_;refine blk_far ?_ NB103_115.out _;refine blk_mv ?_;refine blk_far ?_ NB103_115.out _;refine blk_mv ?_;exact BK103.out⟩,⟨by refine blk_mv ?_;refine blk_far ?_ NB107_115.out _;refine blk_mv ?_;refine blk_far ?_ NB107_115.out _;refine blk_mv ?_;exact BK107.out⟩,⟨by refine blk_mv ?_;refine blk_put (cs:=#[.int .i64 t113,.int .i64 0]) ?_ 1 _ rfl;refine blk_mv ?_;refine blk_put (cs:=#[.int .i64 0,.int .i64 0]) ?_ 0 _ rfl;refine blk_mv ?_;exact BK115.out⟩,⟨bel_⟩⟩
        case rest =>
         clear HC43;(try clear c1);(try clear c2);(try clear p2);(try clear c3);(try clear c4);(try clear c5);(try clear c6);(try clear c11);(try clear c12);(try clear c13);(try clear c16);(try clear c17);(try clear c20);(try clear c24);(try clear c26);(try clear c26b0);(try clear c26b1);(try clear c28);(try clear c30);(try clear c32);(try clear c34);(try clear c37);(try clear c40);(try clear c46);(try clear c47);(try clear c49);(try clear c49b0);(try clear c50);(try clear c51);(try clear c53);(try clear c55);(try clear c55b0);(try clear c55b1);(try clear c57);(try clear c58);(try clear c60);(try clear c62);(try clear c63);(try clear c65);(try clear hcz22_0);(try clear hcz22_1);(try clear hcz25_0);(try clear hcz25_1);(try clear hcz31_0);(try clear hcz31_1);(try clear hcz33_0);(try clear hcz33_1);(try clear hcz35_0);(try clear hcz35_1);(try clear hcz41_0);(try clear hcz41_1);(try clear hcz48_0);(try clear hcz48_1);(try clear hcz52_0);(try clear hcz52_1);(try clear hcz54_0);(try clear hcz54_1);(try clear hcz59_0);(try clear hcz59_1);(try clear hcz61_0);(try clear hcz61_1);(try clear hcz64_0);(try clear hcz64_1);(try clear hcz66_0);(try clear hcz66_1);(try clear hcz9_0);(try clear hcz9_1);(try clear hfz22_0);(try clear hfz22_1);(try clear hfz25_0);(try clear hfz25_1);(try clear hfz31_0);(try clear hfz31_1);(try clear hfz33_0);(try clear hfz33_1);(try clear hfz35_0);(try clear hfz35_1);(try clear hfz41_0);(try clear hfz41_1);(try clear hfz48_0);(try clear hfz48_1);(try clear hfz52_0);(try clear hfz52_1);(try clear hfz54_0);(try clear hfz54_1);(try clear hfz59_0);(try clear hfz59_1);(try clear hfz61_0);(try clear hfz61_1);(try clear hfz64_0);(try clear hfz64_1);(try clear hfz66_0);(try clear hfz66_1);(try clear hfz9_0);(try clear hfz9_1);(try clear p2);obtain ⟨kq,x62_42,rfl,HA,HJ42,BK103,BK107,BK115,HB⟩:=hcut;cases kq with
         | zero => exact absurd HA.out (by simp [changeforgelaw5_KeyringMatchesSpec.j3])
         | succ kj42 =>
          have H:=HA.out;clear HA;simp only [changeforgelaw5_KeyringMatchesSpec.j3] at H;by_cases c67 : x62_42 = true
          ·subst c67
           have H1 : (none) = some r:=by rw [if_pos rfl] at H;exact H
           clear H;have H:=H1;clear H1;exact absurd H (by simp)
          ·replace c67:=Bool.eq_false_iff.mpr c67
           subst c67;have H1 : (if t101 = 0 then ((changeforgeref5_IsKey.f a1).bind fun t117 => (changeforgelaw5_KeyringMatchesSpec.j4 kj42 l0 a1 a2 a3 (!t117) t101 t102 t101 t102)) else (changeforgelaw5_KeyringMatchesSpec.j4 kj42 l0 a1 a2 a3 false t101 t102 t101 t102)) = some r:=by rw [if_neg (show ¬ (false = true) by decide)] at H;exact H
           clear H;have H:=H1;clear H1;have HC68:=Aside0.mk H;clear H;have hnb69:=NB103_107.out;have hnc69:=NB107_103.out;have hnb70:=NB103_115.out;have hnc70:=NB115_103.out;have hcz71_0:=blk_c (v:=.int .i64 t101) BK103.out 0 rfl;have hcz71_1:=blk_c (v:=.int .i64 t102) BK103.out 1 rfl;have hfz71_0:=blk_frozen BK103.out 0;have hfz71_1:=blk_frozen BK103.out 1;have hnb72:=NB107_115.out;have hnc72:=NB115_107.out;have hcz73_0:=blk_c (v:=.int .i64 x108000_35) BK107.out 0 rfl;have hcz73_1:=blk_c (v:=.int .i64 x108001_35) BK107.out 1 rfl;have hfz73_0:=blk_frozen BK107.out 0;have hfz73_1:=blk_frozen BK107.out 1;go_upto_region 11 with (fail);go_cut [71] (fun v71 wc => ∃ (kq : Nat) (x71_67 : Bool),v71 = .bool x71_67 ∧ Aside0 (changeforgelaw5_KeyringMatchesSpec.j4 kq l0 a1 a2 a3 x71_67 t101 t102 t101 t102 = some r) ∧ Aside0 (kq ≤ kj42) ∧ Aside0 (wc.heap[gb103]? = some (.cells #[.int .i64 t101,.int .i64 t102] 24 (0,0))) ∧ Aside0 (wc.heap[gb107]? = some (.cells #[.int .i64 t101,.int .i64 t102] 24 (0,0))) ∧ Aside0 (wc.heap[gb115]? = some (.cells #[.int .i64 t113,.int .i64 t114] 24 (0,0))) ∧ Aside0 (Below w.heap.size w wc))
           case first =>
            have H:=HC68.out;clear HC68;by_cases c74 : t101 = 0
            ·rw [if_pos c74] at H
             have c74b0 : (t101 == 0) = true:=beq_iff_eq.mpr c74;have c74b1 : (t101 != 0) = false:=bne_eq_false_iff_eq.mpr c74;clear c74;(first|rw [c74b0]|(simp only [i64_w,i32_w];rw [c74b0])|skip);replace H:=Option.bind_eq_some_iff.mp H;obtain ⟨t117,A750,H⟩:=H;replace H : (changeforgelaw5_KeyringMatchesSpec.j4 kj42 l0 a1 a2 a3 (!t117) t101 t102 t101 t102) = some r:=H;have A75:=Aside0.mk A750;clear A750;have H':=Aside0.mk H;clear H;have hnb76:=NB107_103.out;have hnc76:=NB103_107.out;have hnb77:=NB107_115.out;have hnc77:=NB115_107.out;have hcz78_0:=blk_c (v:=.int .i64 x108000_35) BK107.out 0 rfl;have hcz78_1:=blk_c (v:=.int .i64 x108001_35) BK107.out 1 rfl;have hfz78_0:=blk_frozen BK107.out 0;have hfz78_1:=blk_frozen BK107.out 1;go_wp2_with (first|(go_at_call 14;(with_reducible refine (changeforgeref5_IsKey.calls a1 t117 _ A75.out).mono ?_);rintro e w' ⟨rfl,⟨nd,rfl⟩⟩));go_meet
             case rel => exact ⟨_,(!t117),fr_,H',⟨by have:=HJ5.out;have:=HJ20.out;have:=HJ35.out;have:=HJ42.out;first|omega|exact Nat.le_refl _⟩,⟨by refine blk_mv ?_;refine blk_far ?_ NB103_107.out _;refine blk_mv ?_;refine blk_far ?_ NB103_107.out _;refine blk_mv ?_;exact BK103.out⟩,⟨by refine blk_mv ?_;refine blk_put (cs:=#[.int .i64 t101,.int .i64 x108001_35]) ?_ 1 _ rfl;refine blk_mv ?_;refine blk_put (cs:=#[.int .i64 x108000_35,.int .i64 x108001_35]) ?_ 0 _ rfl;refine blk_mv ?_;exact BK107.out⟩,⟨by refine blk_mv ?_;refine blk_far ?_ NB115_107.out _;refine blk_mv ?_;refine blk_far ?_ NB115_107.out _;refine blk_mv ?_;exact BK115.out⟩,⟨bel_⟩⟩
            ·rw [if_neg c74] at H
             have c74b0 : (t101 == 0) = false:=beq_eq_false_iff_ne.mpr c74;have c74b1 : (t101 != 0) = true:=bne_iff_ne.mpr c74;(first|rw [c74b0]|(simp only [i64_w,i32_w];rw [c74b0])|skip);have H':=Aside0.mk H;clear H;have hnb79:=NB107_103.out;have hnc79:=NB103_107.out;have hnb80:=NB107_115.out;have hnc80:=NB115_107.out;have hcz81_0:=blk_c (v:=.int .i64 x108000_35) BK107.out 0 rfl;have hcz81_1:=blk_c (v:=.int .i64 x108001_35) BK107.out 1 rfl;have hfz81_0:=blk_frozen BK107.out 0;have hfz81_1:=blk_frozen BK107.out 1;go_wp2;go_meet
             case rel => exact ⟨_,(false),fr_,H',⟨by have:=HJ5.out;have:=HJ20.out;have:=HJ35.out;have:=HJ42.out;first|omega|exact Nat.le_refl _⟩,⟨by refine blk_mv ?_;refine blk_far ?_ NB103_107.out _;refine blk_mv ?_;refine blk_far ?_ NB103_107.out _;refine blk_mv ?_;exact BK103.out⟩,⟨by refine blk_mv ?_;refine blk_put (cs:=#[.int .i64 t101,.int .i64 x108001_35]) ?_ 1 _ rfl;refine blk_mv ?_;refine blk_put (cs:=#[.int .i64 x108000_35,.int .i64 x108001_35]) ?_ 0 _ rfl;refine blk_mv ?_;exact BK107.out⟩,⟨by refine blk_mv ?_;refine blk_far ?_ NB115_107.out _;refine blk_mv ?_;refine blk_far ?_ NB115_107.out _;refine blk_mv ?_;exact BK115.out⟩,⟨bel_⟩⟩
           case rest =>
            clear HC68;(try clear c1);(try clear c2);(try clear p2);(try clear c3);(try clear c4);(try clear c5);(try clear c6);(try clear c7);(try clear c8);(try clear c11);(try clear c12);(try clear c13);(try clear c16);(try clear c17);(try clear c20);(try clear c24);(try clear c26);(try clear c26b0);(try clear c26b1);(try clear c28);(try clear c30);(try clear c32);(try clear c34);(try clear c37);(try clear c40);(try clear c46);(try clear c47);(try clear c49);(try clear c49b0);(try clear c50);(try clear c51);(try clear c53);(try clear c55);(try clear c55b0);(try clear c55b1);(try clear c57);(try clear c58);(try clear c60);(try clear c62);(try clear c63);(try clear c65);(try clear c67);(try clear c69);(try clear c70);(try clear c72);(try clear c74);(try clear c74b0);(try clear c74b1);(try clear c76);(try clear c77);(try clear c79);(try clear c80);(try clear hcz22_0);(try clear hcz22_1);(try clear hcz25_0);(try clear hcz25_1);(try clear hcz31_0);(try clear hcz31_1);(try clear hcz33_0);(try clear hcz33_1);(try clear hcz35_0);(try clear hcz35_1);(try clear hcz41_0);(try clear hcz41_1);(try clear hcz48_0);(try clear hcz48_1);(try clear hcz52_0);(try clear hcz52_1);(try clear hcz54_0);(try clear hcz54_1);(try clear hcz59_0);(try clear hcz59_1);(try clear hcz61_0);(try clear hcz61_1);(try clear hcz64_0);(try clear hcz64_1);(try clear hcz66_0);(try clear hcz66_1);(try clear hcz71_0);(try clear hcz71_1);(try clear hcz73_0);(try clear hcz73_1);(try clear hcz78_0);(try clear hcz78_1);(try clear hcz81_0);(try clear hcz81_1);(try clear hcz9_0);(try clear hcz9_1);(try clear hfz22_0);(try clear hfz22_1);(try clear hfz25_0);(try clear hfz25_1);(try clear hfz31_0);(try clear hfz31_1);(try clear hfz33_0);(try clear hfz33_1);(try clear hfz35_0);(try clear hfz35_1);(try clear hfz41_0);(try clear hfz41_1);(try clear hfz48_0);(try clear hfz48_1);(try clear hfz52_0);(try clear hfz52_1);(try clear hfz54_0);(try clear hfz54_1);(try clear hfz59_0);(try clear hfz59_1);(try clear hfz61_0);(try clear hfz61_1);(try clear hfz64_0);(try clear hfz64_1);(try clear hfz66_0);(try clear hfz66_1);(try clear hfz71_0);(try clear hfz71_1);(try clear hfz73_0);(try clear hfz73_1);(try clear hfz78_0);(try clear hfz78_1);(try clear hfz81_0);(try clear hfz81_1);(try clear hfz9_0);(try clear hfz9_1);(try clear p2);obtain ⟨kq,x71_67,rfl,HA,HJ67,BK103,BK107,BK115,HB⟩:=hcut;cases kq with
            | zero => exact absurd HA.out (by simp [changeforgelaw5_KeyringMatchesSpec.j4])
            | succ kj67 =>
             have H:=HA.out;clear HA;simp only [changeforgelaw5_KeyringMatchesSpec.j4] at H;have HC82:=Aside0.mk H;clear H;go_upto_if 71 with (fail);go_cut [] (fun wc => ∃ (kq : Nat) (x108000_81 : Int) (x108001_81 : Int),Aside0 (changeforgelaw5_KeyringMatchesSpec.j5 kq l0 a1 a2 a3 t101 t102 x108000_81 x108001_81 = some r) ∧ Aside0 (kq ≤ kj67) ∧ Aside0 (wc.heap[gb103]? = some (.cells #[.int .i64 t101,.int .i64 t102] 24 (0,0))) ∧ Aside0 (wc.heap[gb107]? = some (.cells #[.int .i64 x108000_81,.int .i64 x108001_81] 24 (0,0))) ∧ Aside0 (wc.heap[gb115]? = some (.cells #[.int .i64 t113,.int .i64 t114] 24 (0,0))) ∧ Aside0 (Below w.heap.size w wc))
             case first =>
              have H:=HC82.out;clear HC82;by_cases c83 : x71_67 = true
              ·subst c83
               have H1 : ((changeforgelaw5_fault.f 3 (-1)).bind fun bt118 => (changeforgelaw5_KeyringMatchesSpec.j5 kj67 l0 a1 a2 a3 t101 t102 bt118.1 bt118.2)) = some r:=by rw [if_pos rfl] at H;exact H
               clear H;have H:=H1;clear H1;replace H:=Option.bind_eq_some_iff.mp H;obtain ⟨⟨t118,t119⟩,A840,H⟩:=H;replace H : (changeforgelaw5_KeyringMatchesSpec.j5 kj67 l0 a1 a2 a3 t101 t102 t118 t119) = some r:=H;have A84:=Aside0.mk A840;clear A840;have H':=Aside0.mk H;clear H;go_wp2_with (first|((with_reducible refine gate_callee (f:=16) rfl ?_);refine goesL_ (some 72) rfl rfl Try.func16 (by kernel_rfl) rfl #[.int .i64 3,.int .i64 (-1)] rfl ln_ ?_;(with_reducible refine (changeforgelaw5_fault.calls 3 (-1) t118 t119 _ A84.out).mono ?_);rintro e w85 ⟨rfl,hb⟩;refine ⟨_,rfl,?_⟩;replace BK103:=Aside0.mk (blk_below (blk_mv BK103.out) hb);replace BK107:=Aside0.mk (blk_below (blk_mv BK107.out) hb);replace BK115:=Aside0.mk (blk_below (blk_mv BK115.out) hb);replace HB:=Aside0.mk (below_step bel_ hb);(try clear hb);(try clear hb2);(try clear hk);(try clear hi);have hnb86:=NB107_103.out;have hnc86:=NB103_107.out;have hnb87:=NB107_115.out;have hnc87:=NB115_107.out;have hcz88_0:=blk_c (v:=.int .i64 t101) BK107.out 0 rfl;have hcz88_1:=blk_c (v:=.int .i64 t102) BK107.out 1 rfl;have hfz88_0:=blk_frozen BK107.out 0;have hfz88_1:=blk_frozen BK107.out 1));go_meet
               case rel => exact ⟨_,(t118),(t119),H',⟨by have:=HJ5.out;have:=HJ20.out;have:=HJ35.out;have:=HJ42.out;have:=HJ67.out;first|omega|exact Nat.le_refl _⟩,⟨by refine blk_mv ?_;refine blk_far ?_ NB103_107.out _;refine blk_mv ?_;refine blk_far ?_ NB103_107.out _;refine blk_mv ?_;exact BK103.out⟩,⟨by refine blk_mv ?_;refine blk_put (cs:=#[.int .i64 t118,.int .i64 t102]) ?_ 1 _ rfl;refine blk_mv ?_;refine blk_put (cs:=#[.int .i64 t101,.int .i64 t102]) ?_ 0 _ rfl;refine blk_mv ?_;exact BK107.out⟩,⟨by refine blk_mv ?_;refine blk_far ?_ NB115_107.out _;refine blk_mv ?_;refine blk_far ?_ NB115_107.out _;refine blk_mv ?_;exact BK115.out⟩,⟨bel_⟩⟩
              ·replace c83:=Bool.eq_false_iff.mpr c83
               subst c83;have H1 : (changeforgelaw5_KeyringMatchesSpec.j5 kj67 l0 a1 a2 a3 t101 t102 t101 t102) = some r:=by rw [if_neg (show ¬ (false = true) by decide)] at H;exact H
               clear H;have H:=H1;clear H1;have H':=Aside0.mk H;clear H;go_wp2;go_meet
               case rel => exact ⟨_,(t101),(t102),H',⟨by have:=HJ5.out;have:=HJ20.out;have:=HJ35.out;have:=HJ42.out;have:=HJ67.out;first|omega|exact Nat.le_refl _⟩,⟨blk_mv BK103.out⟩,⟨blk_mv BK107.out⟩,⟨blk_mv BK115.out⟩,⟨bel_⟩⟩
             case rest =>
              exact keepK (by assumption) (changeforgelaw5_KeyringMatchesSpec.rest13 k A0 c0 l0 a1 a2 a3 r w HR0 HC0 t101 t102 gb103 GW103 GE103 kj5 HJ5 gb107 GW107 GE107 NB103_107 NB107_103 kj20 HJ20 kj35 HJ35 t112 t113 t114 gb115 GW115 GE115 NB103_115 NB115_103 NB107_115 NB115_107 kj42 HJ42 kj67 HJ67 wc _ _ _ _ _ _ _ _ _ _ _ _ _ _ _ _ _ _ _ _ _ _ _ _ _ _ _ _ _ _ _ _ _ _ _ _ _ _ _ _ _ _ _ _ _ _ _ _ _ _ _ _ _ _ _ _ _ _ _ _ _ _ _ _ _ _ _ _ _ _ _ _ _ _ _ _ _ _ _ _ _ _ _ _ _ _ _ _ _ _ _ _ _ _ _ _ _ _ _ _ _ _ _ _ _ _ _ _ _ _ _ _ _ _ _ _ _ _ _ _ _ _ _ _ _ _ _ _ _ _ _ _ _ _ _ _ _ _ _ _ _ _ _ _ _ _ hcut)
end Go.Proofs.Ytnkonhplfldlmaa.Fn
