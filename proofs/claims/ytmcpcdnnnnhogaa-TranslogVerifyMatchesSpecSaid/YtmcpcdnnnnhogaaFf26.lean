/- A function of the program as a plain Lean function, and the proof that the call comes to just what it says (written by wip/tools/xprint.py for this claim). Condition: the plain function has an answer. -/
import Derived.Test.YtmcpcdnnnnhogaaFn0
import Derived.Test.YtmcpcdnnnnhogaaFs0
import Derived.Test.YtmcpcdnnnnhogaaWA
import Derived.Test.YtmcpcdnnnnhogaaTight
namespace Go.Proofs.Ytmcpcdnnnnhogaa.Fn
open Go.RowKit Go.Proofs.YtmcpcdnnnnhogaaW.PrintWords Go.Proofs.YtmcpcdnnnnhogaaW.PrintLast Go.Proofs.YtmcpcdnnnnhogaaW.PrintMore
attribute [local go_sem] max2_int min2_int max_two min_two max_three min_three max_four min_four   -- for this text's walks alone
set_option linter.unusedVariables false
set_option linter.unusedSimpArgs false

/-! ### changeforgeref5_LogExtends: function 26 -/
mutual
def changeforgeref5_LogExtends.j0 : Nat → Int → Int → Int → Int → List Int → List Int → Bool → Option (Bool)
 | 0,_,_,_,_,_,_,_ => none
 | k + 1,x0,x1,x2,x3,x4,x11,x37 => if x37 = true then ((some (([x0] : List Int) : List Int)).bind fun y102 => (if y102.length + x4.length < 17592186044416 then (changeforgeref5_LogExtends.j1 k x0 x1 x2 x3 (y102 ++ x4)) else (none))) else (changeforgeref5_LogExtends.j1 k x0 x1 x2 x3 x11)
def changeforgeref5_LogExtends.j1 : Nat → Int → Int → Int → Int → List Int → Option (Bool)
 | 0,_,_,_,_,_ => none
 | k + 1,x0,x1,x2,x3,x11 => if (x11.length : Int) = 0 then (some false) else (changeforgeref5_LogExtends.l0 k x0 x2 x11 (wrap64 (x1 - 1)) (wrap64 (x3 - 1)))
def changeforgeref5_LogExtends.l0 : Nat → Int → Int → List Int → Int → Int → Option (Bool)
 | 0,_,_,_,_,_ => none
 | k + 1,x0,x2,x11,x12,x13 => if (Int.tmod x12 2) = 1 then (changeforgeref5_LogExtends.l0 k x0 x2 x11 (wrap64 (Int.tdiv x12 2)) (wrap64 (Int.tdiv x13 2))) else (if 0 < (x11.length : Int) then (changeforgeref5_LogExtends.l1 k x0 x2 x11 x12 x13 (rd x11 0) (rd x11 0) 1) else (none))
def changeforgeref5_LogExtends.l1 : Nat → Int → Int → List Int → Int → Int → Int → Int → Int → Option (Bool)
 | 0,_,_,_,_,_,_,_,_ => none
 | k + 1,x0,x2,x11,x12,x13,x14,x15,x16 => if x16 < (x11.length : Int) then (if x13 = 0 then (some false) else (if (Int.tmod x12 2) = 1 then (changeforgeref5_LogExtends.j4 k x0 x2 x11 x12 x13 x14 x15 x16 true) else (changeforgeref5_LogExtends.j4 k x0 x2 x11 x12 x13 x14 x15 x16 (x12 == x13)))) else (if x13 = 0 then (if x14 = x0 then (some (x15 == x2)) else (some false)) else (some false))
def changeforgeref5_LogExtends.j4 : Nat → Int → Int → List Int → Int → Int → Int → Int → Int → Bool → Option (Bool)
 | 0,_,_,_,_,_,_,_,_,_ => none
 | k + 1,x0,x2,x11,x12,x13,x14,x15,x16,x77 => if x77 = true then (if 0 ≤ x16 then (if x16 < (x11.length : Int) then ((changeforgeref1_DigestPair.f k (rd x11 x16) x14).bind fun t111 => ((changeforgeref1_DigestPair.f k (rd x11 x16) x15).bind fun t113 => (changeforgeref5_LogExtends.l2 k x0 x2 x11 x12 x13 t111 t113 x16))) else (none)) else (none)) else (if 0 ≤ x16 then (if x16 < (x11.length : Int) then ((changeforgeref1_DigestPair.f k x15 (rd x11 x16)).bind fun t115 => (changeforgeref5_LogExtends.l1 k x0 x2 x11 (wrap64 (Int.tdiv x12 2)) (wrap64 (Int.tdiv x13 2)) x14 t115 (wrap64 (x16 + 1)))) else (none)) else (none))
def changeforgeref5_LogExtends.l2 : Nat → Int → Int → List Int → Int → Int → Int → Int → Int → Option (Bool)
 | 0,_,_,_,_,_,_,_,_ => none
 | k + 1,x0,x2,x11,x12,x13,x14,x15,x16 => if (Int.tmod x12 2) = 0 then (if x12 = 0 then (changeforgeref5_LogExtends.l1 k x0 x2 x11 (wrap64 (Int.tdiv x12 2)) (wrap64 (Int.tdiv x13 2)) x14 x15 (wrap64 (x16 + 1))) else (changeforgeref5_LogExtends.l2 k x0 x2 x11 (wrap64 (Int.tdiv x12 2)) (wrap64 (Int.tdiv x13 2)) x14 x15 x16)) else (changeforgeref5_LogExtends.l1 k x0 x2 x11 (wrap64 (Int.tdiv x12 2)) (wrap64 (Int.tdiv x13 2)) x14 x15 (wrap64 (x16 + 1)))
end
def changeforgeref5_LogExtends.f (k : Nat) (a0 : Int) (a1 : Int) (a2 : Int) (a3 : Int) (l4 : List Int) : Option (Bool):=if a1 = a3 then (if (l4.length : Int) = 0 then (some (a0 == a2)) else (some false)) else ((changeforgeref5_Power.f k a1).bind fun t101 => (if (wrap64 (2 * t101)) = a1 then (changeforgeref5_LogExtends.j0 k a0 a1 a2 a3 l4 l4 true) else (changeforgeref5_LogExtends.j0 k a0 a1 a2 a3 l4 l4 (a1 == 1))))
theorem changeforgeref5_LogExtends.mono_l : ∀ k,(∀ y0 y1 y2 y3 y4 y5 y6,LeO (changeforgeref5_LogExtends.j0 k y0 y1 y2 y3 y4 y5 y6) (changeforgeref5_LogExtends.j0 (k + 1) y0 y1 y2 y3 y4 y5 y6)) ∧ (∀ y0 y1 y2 y3 y4,LeO (changeforgeref5_LogExtends.j1 k y0 y1 y2 y3 y4) (changeforgeref5_LogExtends.j1 (k + 1) y0 y1 y2 y3 y4)) ∧ (∀ y0 y1 y2 y3 y4,LeO (changeforgeref5_LogExtends.l0 k y0 y1 y2 y3 y4) (changeforgeref5_LogExtends.l0 (k + 1) y0 y1 y2 y3 y4)) ∧ (∀ y0 y1 y2 y3 y4 y5 y6 y7,LeO (changeforgeref5_LogExtends.l1 k y0 y1 y2 y3 y4 y5 y6 y7) (changeforgeref5_LogExtends.l1 (k + 1) y0 y1 y2 y3 y4 y5 y6 y7)) ∧ (∀ y0 y1 y2 y3 y4 y5 y6 y7 y8,LeO (changeforgeref5_LogExtends.j4 k y0 y1 y2 y3 y4 y5 y6 y7 y8) (changeforgeref5_LogExtends.j4 (k + 1) y0 y1 y2 y3 y4 y5 y6 y7 y8)) ∧ (∀ y0 y1 y2 y3 y4 y5 y6 y7,LeO (changeforgeref5_LogExtends.l2 k y0 y1 y2 y3 y4 y5 y6 y7) (changeforgeref5_LogExtends.l2 (k + 1) y0 y1 y2 y3 y4 y5 y6 y7))
 | 0 => ⟨fun _ _ _ _ _ _ _ r h => by simp [changeforgeref5_LogExtends.j0] at h,fun _ _ _ _ _ r h => by simp [changeforgeref5_LogExtends.j1] at h,fun _ _ _ _ _ r h => by simp [changeforgeref5_LogExtends.l0] at h,fun _ _ _ _ _ _ _ _ r h => by simp [changeforgeref5_LogExtends.l1] at h,fun _ _ _ _ _ _ _ _ _ r h => by simp [changeforgeref5_LogExtends.j4] at h,fun _ _ _ _ _ _ _ _ r h => by simp [changeforgeref5_LogExtends.l2] at h⟩
 | k + 1 => by
  obtain ⟨ih0,ih1,ih2,ih3,ih4,ih5⟩:=changeforgeref5_LogExtends.mono_l k;refine ⟨?_,?_,?_,?_,?_,?_⟩
  ·intro y0 y1 y2 y3 y4 y5 y6
   unfold changeforgeref5_LogExtends.j0;repeat' first
   | (with_reducible exact ih0 _ _ _ _ _ _ _)
   | (with_reducible exact ih1 _ _ _ _ _)
   | (with_reducible exact ih2 _ _ _ _ _)
   | (with_reducible exact ih3 _ _ _ _ _ _ _ _)
   | (with_reducible exact ih4 _ _ _ _ _ _ _ _ _)
   | (with_reducible exact ih5 _ _ _ _ _ _ _ _)
   | (with_reducible exact changeforgeref1_DigestPair.mono _ _ _)
   | (with_reducible exact changeforgeref5_Power.mono _ _)
   | (with_reducible exact LeO.refl _)
   | (with_reducible exact LeO.none _)
   | (with_reducible refine LeO.ite ?_ ?_)
   | (with_reducible refine LeO.bind ?_ (fun _ => ?_))
   | exact ih0 _ _ _ _ _ _ _
   | exact ih1 _ _ _ _ _
   | exact ih2 _ _ _ _ _
   | exact ih3 _ _ _ _ _ _ _ _
   | exact ih4 _ _ _ _ _ _ _ _ _
   | exact ih5 _ _ _ _ _ _ _ _
   | exact changeforgeref1_DigestPair.mono _ _ _
   | exact changeforgeref5_Power.mono _ _
   | exact LeO.none _
   | refine LeO.ite ?_ ?_
   | refine LeO.bind ?_ (fun _ => ?_)
  ·intro y0 y1 y2 y3 y4
   unfold changeforgeref5_LogExtends.j1;repeat' first
   | (with_reducible exact ih0 _ _ _ _ _ _ _)
   | (with_reducible exact ih1 _ _ _ _ _)
   | (with_reducible exact ih2 _ _ _ _ _)
   | (with_reducible exact ih3 _ _ _ _ _ _ _ _)
   | (with_reducible exact ih4 _ _ _ _ _ _ _ _ _)
   | (with_reducible exact ih5 _ _ _ _ _ _ _ _)
   | (with_reducible exact changeforgeref1_DigestPair.mono _ _ _)
   | (with_reducible exact changeforgeref5_Power.mono _ _)
   | (with_reducible exact LeO.refl _)
   | (with_reducible exact LeO.none _)
   | (with_reducible refine LeO.ite ?_ ?_)
   | (with_reducible refine LeO.bind ?_ (fun _ => ?_))
   | exact ih0 _ _ _ _ _ _ _
   | exact ih1 _ _ _ _ _
   | exact ih2 _ _ _ _ _
   | exact ih3 _ _ _ _ _ _ _ _
   | exact ih4 _ _ _ _ _ _ _ _ _
   | exact ih5 _ _ _ _ _ _ _ _
   | exact changeforgeref1_DigestPair.mono _ _ _
   | exact changeforgeref5_Power.mono _ _
   | exact LeO.none _
   | refine LeO.ite ?_ ?_
   | refine LeO.bind ?_ (fun _ => ?_)
  ·intro y0 y1 y2 y3 y4
   unfold changeforgeref5_LogExtends.l0;repeat' first
   | (with_reducible exact ih0 _ _ _ _ _ _ _)
   | (with_reducible exact ih1 _ _ _ _ _)
   | (with_reducible exact ih2 _ _ _ _ _)
   | (with_reducible exact ih3 _ _ _ _ _ _ _ _)
   | (with_reducible exact ih4 _ _ _ _ _ _ _ _ _)
   | (with_reducible exact ih5 _ _ _ _ _ _ _ _)
   | (with_reducible exact changeforgeref1_DigestPair.mono _ _ _)
   | (with_reducible exact changeforgeref5_Power.mono _ _)
   | (with_reducible exact LeO.refl _)
   | (with_reducible exact LeO.none _)
   | (with_reducible refine LeO.ite ?_ ?_)
   | (with_reducible refine LeO.bind ?_ (fun _ => ?_))
   | exact ih0 _ _ _ _ _ _ _
   | exact ih1 _ _ _ _ _
   | exact ih2 _ _ _ _ _
   | exact ih3 _ _ _ _ _ _ _ _
   | exact ih4 _ _ _ _ _ _ _ _ _
   | exact ih5 _ _ _ _ _ _ _ _
   | exact changeforgeref1_DigestPair.mono _ _ _
   | exact changeforgeref5_Power.mono _ _
   | exact LeO.none _
   | refine LeO.ite ?_ ?_
   | refine LeO.bind ?_ (fun _ => ?_)
  ·intro y0 y1 y2 y3 y4 y5 y6 y7
   unfold changeforgeref5_LogExtends.l1;repeat' first
   | (with_reducible exact ih0 _ _ _ _ _ _ _)
   | (with_reducible exact ih1 _ _ _ _ _)
   | (with_reducible exact ih2 _ _ _ _ _)
   | (with_reducible exact ih3 _ _ _ _ _ _ _ _)
   | (with_reducible exact ih4 _ _ _ _ _ _ _ _ _)
   | (with_reducible exact ih5 _ _ _ _ _ _ _ _)
   | (with_reducible exact changeforgeref1_DigestPair.mono _ _ _)
   | (with_reducible exact changeforgeref5_Power.mono _ _)
   | (with_reducible exact LeO.refl _)
   | (with_reducible exact LeO.none _)
   | (with_reducible refine LeO.ite ?_ ?_)
   | (with_reducible refine LeO.bind ?_ (fun _ => ?_))
   | exact ih0 _ _ _ _ _ _ _
   | exact ih1 _ _ _ _ _
   | exact ih2 _ _ _ _ _
   | exact ih3 _ _ _ _ _ _ _ _
   | exact ih4 _ _ _ _ _ _ _ _ _
   | exact ih5 _ _ _ _ _ _ _ _
   | exact changeforgeref1_DigestPair.mono _ _ _
   | exact changeforgeref5_Power.mono _ _
   | exact LeO.none _
   | refine LeO.ite ?_ ?_
   | refine LeO.bind ?_ (fun _ => ?_)
  ·intro y0 y1 y2 y3 y4 y5 y6 y7 y8
   unfold changeforgeref5_LogExtends.j4;repeat' first
   | (with_reducible exact ih0 _ _ _ _ _ _ _)
   | (with_reducible exact ih1 _ _ _ _ _)
   | (with_reducible exact ih2 _ _ _ _ _)
   | (with_reducible exact ih3 _ _ _ _ _ _ _ _)
   | (with_reducible exact ih4 _ _ _ _ _ _ _ _ _)
   | (with_reducible exact ih5 _ _ _ _ _ _ _ _)
   | (with_reducible exact changeforgeref1_DigestPair.mono _ _ _)
   | (with_reducible exact changeforgeref5_Power.mono _ _)
   | (with_reducible exact LeO.refl _)
   | (with_reducible exact LeO.none _)
   | (with_reducible refine LeO.ite ?_ ?_)
   | (with_reducible refine LeO.bind ?_ (fun _ => ?_))
   | exact ih0 _ _ _ _ _ _ _
   | exact ih1 _ _ _ _ _
   | exact ih2 _ _ _ _ _
   | exact ih3 _ _ _ _ _ _ _ _
   | exact ih4 _ _ _ _ _ _ _ _ _
   | exact ih5 _ _ _ _ _ _ _ _
   | exact changeforgeref1_DigestPair.mono _ _ _
   | exact changeforgeref5_Power.mono _ _
   | exact LeO.none _
   | refine LeO.ite ?_ ?_
   | refine LeO.bind ?_ (fun _ => ?_)
  ·intro y0 y1 y2 y3 y4 y5 y6 y7
   unfold changeforgeref5_LogExtends.l2;repeat' first
   | (with_reducible exact ih0 _ _ _ _ _ _ _)
   | (with_reducible exact ih1 _ _ _ _ _)
   | (with_reducible exact ih2 _ _ _ _ _)
   | (with_reducible exact ih3 _ _ _ _ _ _ _ _)
   | (with_reducible exact ih4 _ _ _ _ _ _ _ _ _)
   | (with_reducible exact ih5 _ _ _ _ _ _ _ _)
   | (with_reducible exact changeforgeref1_DigestPair.mono _ _ _)
   | (with_reducible exact changeforgeref5_Power.mono _ _)
   | (with_reducible exact LeO.refl _)
   | (with_reducible exact LeO.none _)
   | (with_reducible refine LeO.ite ?_ ?_)
   | (with_reducible refine LeO.bind ?_ (fun _ => ?_))
   | exact ih0 _ _ _ _ _ _ _
   | exact ih1 _ _ _ _ _
   | exact ih2 _ _ _ _ _
   | exact ih3 _ _ _ _ _ _ _ _
   | exact ih4 _ _ _ _ _ _ _ _ _
   | exact ih5 _ _ _ _ _ _ _ _
   | exact changeforgeref1_DigestPair.mono _ _ _
   | exact changeforgeref5_Power.mono _ _
   | exact LeO.none _
   | refine LeO.ite ?_ ?_
   | refine LeO.bind ?_ (fun _ => ?_)
theorem changeforgeref5_LogExtends.mono : ∀ a0 a1 a2 a3 a4 k,LeO (changeforgeref5_LogExtends.f k a0 a1 a2 a3 a4) (changeforgeref5_LogExtends.f (k + 1) a0 a1 a2 a3 a4):=by
 intro a0 a1 a2 a3 a4 k;obtain ⟨ih0,ih1,ih2,ih3,ih4,ih5⟩:=changeforgeref5_LogExtends.mono_l k;unfold changeforgeref5_LogExtends.f
 repeat' first
   | (with_reducible exact ih0 _ _ _ _ _ _ _)
   | (with_reducible exact ih1 _ _ _ _ _)
   | (with_reducible exact ih2 _ _ _ _ _)
   | (with_reducible exact ih3 _ _ _ _ _ _ _ _)
   | (with_reducible exact ih4 _ _ _ _ _ _ _ _ _)
   | (with_reducible exact ih5 _ _ _ _ _ _ _ _)
   | (with_reducible exact changeforgeref1_DigestPair.mono _ _ _)
   | (with_reducible exact changeforgeref5_Power.mono _ _)
   | (with_reducible exact LeO.refl _)
   | (with_reducible exact LeO.none _)
   | (with_reducible refine LeO.ite ?_ ?_)
   | (with_reducible refine LeO.bind ?_ (fun _ => ?_))
   | exact ih0 _ _ _ _ _ _ _
   | exact ih1 _ _ _ _ _
   | exact ih2 _ _ _ _ _
   | exact ih3 _ _ _ _ _ _ _ _
   | exact ih4 _ _ _ _ _ _ _ _ _
   | exact ih5 _ _ _ _ _ _ _ _
   | exact changeforgeref1_DigestPair.mono _ _ _
   | exact changeforgeref5_Power.mono _ _
   | exact LeO.none _
   | refine LeO.ite ?_ ?_
   | refine LeO.bind ?_ (fun _ => ?_)
set_option maxHeartbeats 8000000 in
set_option maxRecDepth 100000 in
theorem changeforgeref5_LogExtends.calls (k : Nat) (a0 : Int) (a1 : Int) (a2 : Int) (a3 : Int) (P4_ : Nat → Prop) (A4 : Option Addr) (c4 : Nat) (l4 : List Int) (r : Bool) (w : World) (hs4 : Kd.V (Kd.int .i64) 3 w w.heap.size (fun k_ => P4_ k_) (.slice A4 l4.length c4) l4) (h : changeforgeref5_LogExtends.f k a0 a1 a2 a3 l4 = some r) :
  Calls Try.prog 26 #[.int .i64 a0,.int .i64 a1,.int .i64 a2,.int .i64 a3,.slice A4 l4.length c4] w fun e w' => e = .returned (.bool r) ∧ Below w.heap.size w w':=by
 have HO4:=Aside0.mk (show Kd.V (Kd.int .i64) 3 w w.heap.size (fun k_ => (P4_ k_ ∨ w.heap.size ≤ k_)) (.slice A4 l4.length c4) l4 from Kd.V_mono hs4 (fun k_ hk => .inl hk));have HB:=Aside0.mk (Below.refl w.heap.size w);have H : (if a1 = a3 then (if (l4.length : Int) = 0 then (some (a0 == a2)) else (some false)) else ((changeforgeref5_Power.f k a1).bind fun t101 => (if (wrap64 (2 * t101)) = a1 then (changeforgeref5_LogExtends.j0 k a0 a1 a2 a3 l4 l4 true) else (changeforgeref5_LogExtends.j0 k a0 a1 a2 a3 l4 l4 (a1 == 1))))) = some r:=h;clear h;by_cases c6 : a1 = a3
 ·rw [if_pos c6] at H
  have c6b0 : (a1 == a3) = true:=beq_iff_eq.mpr c6;have c6b1 : (a1 != a3) = false:=bne_eq_false_iff_eq.mpr c6;clear c6;by_cases c7 : (l4.length : Int) = 0
  ·rw [if_pos c7] at H
   have c7b0 : ((l4.length : Int) == 0) = true:=beq_iff_eq.mpr c7;have c7b1 : ((l4.length : Int) != 0) = false:=bne_eq_false_iff_eq.mpr c7;clear c7;obtain rfl:=Option.some.inj H;go_enter Try.func26,Try.ntmps26;go_wp2;go_ret;exact ⟨by first|rfl|(simp [errW_none,errW_some] <;> rfl)|(simp [*,errW_none,errW_some] <;> rfl),bel_⟩
  ·rw [if_neg c7] at H
   have c7b0 : ((l4.length : Int) == 0) = false:=beq_eq_false_iff_ne.mpr c7;have c7b1 : ((l4.length : Int) != 0) = true:=bne_iff_ne.mpr c7;have c7b2 : ¬ (l4 = []):=fun h_ => c7 (by rw [h_];rfl);obtain rfl:=Option.some.inj H;go_enter Try.func26,Try.ntmps26;go_wp2;go_ret;exact ⟨by first|rfl|(simp [errW_none,errW_some] <;> rfl)|(simp [*,errW_none,errW_some] <;> rfl),bel_⟩
 ·rw [if_neg c6] at H
  have c6b0 : (a1 == a3) = false:=beq_eq_false_iff_ne.mpr c6;have c6b1 : (a1 != a3) = true:=bne_iff_ne.mpr c6;have HC8:=Aside0.mk H;clear H;go_enter Try.func26,Try.ntmps26;go_upto_region 4 with (fail);go_cut [37] (fun v37 wc => ∃ (kq : Nat) (x37_7 : Bool),v37 = .bool x37_7 ∧ Aside0 (changeforgeref5_LogExtends.j0 kq a0 a1 a2 a3 l4 l4 x37_7 = some r) ∧ Aside0 (kq ≤ k) ∧ Aside0 (Kd.V (Kd.int .i64) 3 wc w.heap.size (fun k_ => (P4_ k_ ∨ w.heap.size ≤ k_)) (.slice A4 l4.length c4) l4) ∧ Aside0 (Kd.V (Kd.int .i64) 3 wc w.heap.size (fun k_ => (P4_ k_ ∨ w.heap.size ≤ k_)) (.slice A4 l4.length c4) l4) ∧ Aside0 (Below w.heap.size w wc))
  case first =>
   have H:=HC8.out;clear HC8;replace H:=Option.bind_eq_some_iff.mp H;obtain ⟨t101,A90,H⟩:=H;replace H : (if (wrap64 (2 * t101)) = a1 then (changeforgeref5_LogExtends.j0 k a0 a1 a2 a3 l4 l4 true) else (changeforgeref5_LogExtends.j0 k a0 a1 a2 a3 l4 l4 (a1 == 1))) = some r:=H;have A9:=Aside0.mk A90;clear A90;by_cases c10 : (wrap64 (2 * t101)) = a1
   ·rw [if_pos c10] at H
    have c10b0 : ((wrap64 (2 * t101)) == a1) = true:=beq_iff_eq.mpr c10;have c10b1 : ((wrap64 (2 * t101)) != a1) = false:=bne_eq_false_iff_eq.mpr c10;clear c10;(first|rw [c10b0]|(simp only [i64_w,i32_w];rw [c10b0])|skip);have H':=Aside0.mk H;clear H;go_wp2_with (first|((with_reducible refine gate_callee (f:=35) rfl ?_);refine goesL_ (some 30) rfl rfl Try.func35 (by kernel_rfl) rfl #[.int .i64 a1] rfl ln_ ?_;(with_reducible refine (changeforgeref5_Power.calls k a1 t101 _ A9.out).mono ?_);rintro e w' ⟨rfl,⟨nd,rfl⟩⟩;refine ⟨_,rfl,?_⟩));go_meet
    case rel => exact ⟨_,(true),fr_,H',⟨om_⟩,⟨by (with_reducible repeat (first|apply Kd.V_alloc|apply Kd.V_drewN|apply Kd.V_drew));exact HO4.out⟩,⟨by (with_reducible repeat (first|apply Kd.V_alloc|apply Kd.V_drewN|apply Kd.V_drew));exact HO4.out⟩,⟨bel_⟩⟩
   ·rw [if_neg c10] at H
    have c10b0 : ((wrap64 (2 * t101)) == a1) = false:=beq_eq_false_iff_ne.mpr c10;have c10b1 : ((wrap64 (2 * t101)) != a1) = true:=bne_iff_ne.mpr c10;(first|rw [c10b0]|(simp only [i64_w,i32_w];rw [c10b0])|skip);have H':=Aside0.mk H;clear H;go_wp2_with (first|((with_reducible refine gate_callee (f:=35) rfl ?_);refine goesL_ (some 30) rfl rfl Try.func35 (by kernel_rfl) rfl #[.int .i64 a1] rfl ln_ ?_;(with_reducible refine (changeforgeref5_Power.calls k a1 t101 _ A9.out).mono ?_);rintro e w' ⟨rfl,⟨nd,rfl⟩⟩;refine ⟨_,rfl,?_⟩));go_meet
    case rel => exact ⟨_,((a1 == 1)),fr_,H',⟨om_⟩,⟨by (with_reducible repeat (first|apply Kd.V_alloc|apply Kd.V_drewN|apply Kd.V_drew));exact HO4.out⟩,⟨by (with_reducible repeat (first|apply Kd.V_alloc|apply Kd.V_drewN|apply Kd.V_drew));exact HO4.out⟩,⟨bel_⟩⟩
  case rest =>
   clear HC8;(try clear c1);(try clear c2);(try clear p2);(try clear c3);(try clear c4);(try clear c6);(try clear c6b0);(try clear c6b1);(try clear p6);(try clear c7);(try clear c7b0);(try clear c7b1);(try clear c7b2);(try clear c10);(try clear c10b0);(try clear c10b1);obtain ⟨kq,x37_7,rfl,HA,HJ7,HO_4,HO_11,HB⟩:=hcut;cases kq with
   | zero => exact absurd HA.out (by simp [changeforgeref5_LogExtends.j0])
   | succ kj7 =>
    have H:=HA.out;clear HA;simp only [changeforgeref5_LogExtends.j0] at H;have HC11:=Aside0.mk H;clear H;go_upto_if 37 with (fail);go_cut [11] (fun v11 wc => ∃ (kq : Nat) (x11_10 : List Int),Aside0 (changeforgeref5_LogExtends.j1 kq a0 a1 a2 a3 x11_10 = some r) ∧ Aside0 (kq ≤ kj7) ∧ Aside0 (Kd.V (Kd.int .i64) 3 wc w.heap.size (fun k_ => (P4_ k_ ∨ w.heap.size ≤ k_)) v11 x11_10) ∧ Aside0 (Below w.heap.size w wc))
    case first =>
     have H:=HC11.out;clear HC11;by_cases c12 : x37_7 = true
     ·subst c12
      have H1 : ((some (([a0] : List Int) : List Int)).bind fun y102 => (if y102.length + l4.length < 17592186044416 then (changeforgeref5_LogExtends.j1 kj7 a0 a1 a2 a3 (y102 ++ l4)) else (none))) = some r:=by rw [if_pos rfl] at H;exact H
      clear H;have H:=H1;clear H1;obtain ⟨y102,hy102⟩ : ∃ y_ : List Int,y_ = (([a0] : List Int)):=⟨_,rfl⟩;replace H : (if y102.length + l4.length < 17592186044416 then (changeforgeref5_LogExtends.j1 kj7 a0 a1 a2 a3 (y102 ++ l4)) else (none)) = some r:=by first|(rw [hy102];with_reducible exact H)|(have H2_:=(Option.bind_some _ _).symm.trans H;rw [hy102];with_reducible exact H2_)|(have H2_:=(Option.bind_some _ _).symm.trans H;with_reducible exact H2_)|with_reducible exact H|(rw [hy102];exact H)|exact H
      have Ny102:=Aside0.mk hy102;clear hy102;by_cases c13 : y102.length + l4.length < 17592186044416
      ·rw [if_pos c13] at H
       have LMc13:=Aside0.mk c13;clear c13;obtain ⟨y105,hy105⟩ : ∃ y_ : List Int,y_ = (y102 ++ l4):=⟨_,rfl⟩;replace H : (changeforgeref5_LogExtends.j1 kj7 a0 a1 a2 a3 y105) = some r:=by first|(rw [hy105];with_reducible exact H)|(have H2_:=(Option.bind_some _ _).symm.trans H;rw [hy105];with_reducible exact H2_)|(have H2_:=(Option.bind_some _ _).symm.trans H;with_reducible exact H2_)|with_reducible exact H|(rw [hy105];exact H)|exact H
       have Ny105:=Aside0.mk hy105;clear hy105;have H':=Aside0.mk H;clear H;go_wp2_with (first|((with_reducible refine gate_dst (N:=39) rfl ?_);refine Kd.R_lit (Kd.int .i64) _ 3 ?hg (N:=39) ?hd (xs:=([a0] : List Int)) (inner:=[.int .i64 a0]) (ok:=fun _ => True) (okp:=fun _ => True) ?hr ?hp (fun _ hk => hk) trivial (Below.refl _ _) (Nat.le_refl _) (by simp) ?_;(case hd => rfl);(case hg => rfl);(case hr => first|(go_simp;done)|(go_simp;rfl));(case hp => exact (Reps.one (show Kd.M (Kd.int .i64) _ _ _ a0 [.int .i64 a0] from rfl) (Reps.none _ _)));intro v103 w14 ho15 hb hg_ hnew_;clear hg_ hnew_;(first|rw [← Ny102.out] at ho15|(simp only [Int.reduceToNat] at ho15;rw [← Ny102.out] at ho15));replace HO_4:=Aside0.mk (Kd.V_elder' (by (with_reducible repeat (first|apply Kd.V_alloc|apply Kd.V_drewN|apply Kd.V_drew));exact HO_4.out) (Kd.R_base ho15) hb);replace HO_11:=Aside0.mk (Kd.V_elder' (by (with_reducible repeat (first|apply Kd.V_alloc|apply Kd.V_drewN|apply Kd.V_drew));exact HO_11.out) (Kd.R_base ho15) hb);have HO104:=Aside0.mk (Kd.R_lower (Kd.R_newM (M:=fun k_ => (w.heap.size ≤ k_)) ho15 (below_size bel_) (fun k_ h_ => h_)) (below_size bel_));replace HB:=Aside0.mk (below_step bel_ hb);clear hb ho15)|((with_reducible refine gate_builtin (b:=.append) (xs:=#[.tmp 39,.tmp 40]) rfl ?_);at_builtin;refine Kd.R_append_rows (Kd.int .i64) (w0:=w) w.heap.size rfl (.tmp 39) (.tmp 40) 22 3 (.int .i64 0) 8 rfl Try.underlying22 info3 rfl (by decide) (by omega) v103 y102 l4 _ _ _ (fun k_ => (w.heap.size ≤ k_)) (fun _ => False) rfl rfl ?aO ?aR (fun _ _ h => h) (fun _ h => h.elim) ?aF ?aB ?aS ?aL ?_;(case aR => first|exact (Kd.V_reads' HO_4.out).2.2|exact Kd.C_mv (Kd.V_reads' HO_4.out).2.2);(case aB => exact bel_);(case aF => exact (fun k_ hk => (Nat.le_trans (below_size bel_) hk)));(case aO => exact (by (with_reducible repeat (first|apply Kd.R_alloc|apply Kd.R_drewN|apply Kd.R_drew));exact Kd.R_mono HO104.out (fun _ hk => hk.1)));(case aS => exact (below_size bel_));(case aL => have:=LMc13.out;omega);intro v106 w16 ho hb hg hat;rw [← Ny105.out] at ho;replace HO_4:=Aside0.mk (Kd.V_afterv (ok:=(fun k_ => (P4_ k_ ∨ w.heap.size ≤ k_))) (by (with_reducible repeat (first|apply Kd.V_alloc|apply Kd.V_drewN|apply Kd.V_drew));exact HO_4.out) hg hat);replace HO_11:=Aside0.mk (Kd.V_afterv (ok:=(fun k_ => (P4_ k_ ∨ w.heap.size ≤ k_))) (by (with_reducible repeat (first|apply Kd.V_alloc|apply Kd.V_drewN|apply Kd.V_drew));exact HO_11.out) hg hat);replace HB:=Aside0.mk (hb);have HO107:=Aside0.mk (ho);clear HO104;clear ho hb hg hat));go_meet
       case rel => exact ⟨_,(y105),H',⟨by have:=HJ7.out;first|omega|exact Nat.le_refl _⟩,⟨Kd.V_mono (Kd.R_V (Kd.R_mv HO107.out)) (fun k_ hk => by first|exact ⟨(.inr (hk.1)),hk.2⟩|exact (.inr (hk)))⟩,⟨bel_⟩⟩
      ·rw [if_neg c13] at H
       exact absurd H (by simp)
     ·replace c12:=Bool.eq_false_iff.mpr c12
      subst c12;have H1 : (changeforgeref5_LogExtends.j1 kj7 a0 a1 a2 a3 l4) = some r:=by rw [if_neg (show ¬ (false = true) by decide)] at H;exact H
      clear H;have H:=H1;clear H1;have H':=Aside0.mk H;clear H;go_wp2;go_meet
      case rel => exact ⟨_,(l4),H',⟨by have:=HJ7.out;first|omega|exact Nat.le_refl _⟩,⟨by (with_reducible repeat (first|apply Kd.V_alloc|apply Kd.V_drewN|apply Kd.V_drew));exact HO_11.out⟩,⟨bel_⟩⟩
    case rest =>
     clear HC11;(try clear c1);(try clear c2);(try clear p2);(try clear c3);(try clear c4);(try clear c6);(try clear c6b0);(try clear c6b1);(try clear p6);(try clear c7);(try clear c7b0);(try clear c7b1);(try clear c7b2);(try clear c10);(try clear c10b0);(try clear c10b1);(try clear c12);(try clear c13);(try clear p2);(try clear p6);obtain ⟨kq,x11_10,HA,HJ10,HO_11,HB⟩:=hcut;cases kq with
     | zero => exact absurd HA.out (by simp [changeforgeref5_LogExtends.j1])
     | succ kj10 =>
      have H:=HA.out;clear HA;simp only [changeforgeref5_LogExtends.j1] at H;by_cases c17 : (x11_10.length : Int) = 0
      ·rw [if_pos c17] at H
       have c17b0 : ((x11_10.length : Int) == 0) = true:=beq_iff_eq.mpr c17;have c17b1 : ((x11_10.length : Int) != 0) = false:=bne_eq_false_iff_eq.mpr c17;clear c17;obtain rfl:=Option.some.inj H;obtain ⟨Ao18,co18,eo18⟩:=Kd.V_slice HO_11.out;subst eo18;go_wp2;go_ret;exact ⟨by first|rfl|(simp [errW_none,errW_some] <;> rfl)|(simp [*,errW_none,errW_some] <;> rfl),bel_⟩
      ·rw [if_neg c17] at H
       have c17b0 : ((x11_10.length : Int) == 0) = false:=beq_eq_false_iff_ne.mpr c17;have c17b1 : ((x11_10.length : Int) != 0) = true:=bne_iff_ne.mpr c17;have c17b2 : ¬ (x11_10 = []):=fun h_ => c17 (by rw [h_];rfl);have H':=Aside0.mk H;clear H;obtain ⟨Ao19,co19,eo19⟩:=Kd.V_slice HO_11.out;subst eo19;go_wp2;go_loopg [12,13] kj10 (fun kq v12 v13 w' => ∃ (x12_3 : Int) (x13_3 : Int),v12 = .int .i64 x12_3 ∧ v13 = .int .i64 x13_3 ∧ Aside0 (changeforgeref5_LogExtends.l0 kq a0 a2 x11_10 x12_3 x13_3 = some r) ∧ Aside0 (kq ≤ kj10) ∧ Aside0 (Kd.V (Kd.int .i64) 3 w' w.heap.size (fun k_ => (P4_ k_ ∨ w.heap.size ≤ k_)) (.slice Ao19 x11_10.length co19) x11_10) ∧ Aside0 (Below w.heap.size w w'))
       case atStart => exact ⟨(wrap64 (a1 - 1)),(wrap64 (a3 - 1)),fr_,fr_,H',⟨Nat.le_refl _⟩,⟨by (with_reducible repeat (first|apply Kd.V_alloc|apply Kd.V_drewN|apply Kd.V_drew));exact HO_11.out⟩,⟨bel_⟩⟩
       case round =>
        clear H';(try clear c1);(try clear c2);(try clear p2);(try clear c3);(try clear c4);(try clear c6);(try clear c6b0);(try clear c6b1);(try clear p6);(try clear c7);(try clear c7b0);(try clear c7b1);(try clear c7b2);(try clear c10);(try clear c10b0);(try clear c10b1);(try clear c12);(try clear c13);(try clear c17);(try clear c17b0);(try clear c17b1);(try clear c17b2);(try clear p2);(try clear p6);obtain ⟨x12_3,x13_3,rfl,rfl,HA,HK3,HO_11,HB⟩:=hrel;cases gk with
        | zero => exact absurd HA.out (by simp [changeforgeref5_LogExtends.l0])
        | succ k3 =>
         have H:=HA.out;clear HA;simp only [changeforgeref5_LogExtends.l0] at H;by_cases c20 : (Int.tmod x12_3 2) = 1
         ·rw [if_pos c20] at H
          have c20b0 : ((Int.tmod x12_3 2) == 1) = true:=beq_iff_eq.mpr c20;have c20b1 : ((Int.tmod x12_3 2) != 1) = false:=bne_eq_false_iff_eq.mpr c20;clear c20;have H':=Aside0.mk H;clear H;go_wp2;go_roundg k3
          case measure => have:=HJ7.out;have:=HJ10.out;have:=HK3.out;omega
          case rel => exact ⟨(wrap64 (Int.tdiv x12_3 2)),(wrap64 (Int.tdiv x13_3 2)),fr_,fr_,H',⟨by have:=HJ7.out;have:=HJ10.out;have:=HK3.out;omega⟩,⟨by (with_reducible repeat (first|apply Kd.V_alloc|apply Kd.V_drewN|apply Kd.V_drew));exact HO_11.out⟩,⟨bel_⟩⟩
         ·rw [if_neg c20] at H
          have c20b0 : ((Int.tmod x12_3 2) == 1) = false:=beq_eq_false_iff_ne.mpr c20;have c20b1 : ((Int.tmod x12_3 2) != 1) = true:=bne_iff_ne.mpr c20;by_cases c21 : 0 < (x11_10.length : Int)
          ·rw [if_pos c21] at H
           have c21b0 : decide (0 < (x11_10.length : Int)) = true:=decide_eq_true c21;have c21b1 : decide (0 < x11_10.length) = true:=decide_eq_true (by omega);clear c21;have H':=Aside0.mk H;clear H;have p108 : 0 ≤ (0 : Int):=(by omega);have q108 : 0 < (x11_10.length : Int):=of_decide_eq_true as_;obtain ⟨ad108,e108,hx108_0⟩:=Kd.at_int (Kd.V_reads' HO_11.out).2.2 0 p108 q108;cases e108
           have qi108 : (0 < x11_10.length) = True:=eq_true (by omega);(try rw [show ((0 : Int)).toNat = 0 from rfl] at hx108_0);(try rw [Addr.add_zero'] at hx108_0);replace p108:=eq_true p108;replace q108:=eq_true q108;have p109 : 0 ≤ (0 : Int):=(by omega);have q109 : 0 < (x11_10.length : Int):=of_decide_eq_true as_;obtain ⟨ad109,e109,hx109_0⟩:=Kd.at_int (Kd.V_reads' HO_11.out).2.2 0 p109 q109;obtain rfl : ad108 = ad109:=(by injection e109);have qi109 : (0 < x11_10.length) = True:=eq_true (by omega);(try rw [show ((0 : Int)).toNat = 0 from rfl] at hx109_0);(try rw [Addr.add_zero'] at hx109_0);replace p109:=eq_true p109;replace q109:=eq_true q109;go_wp2;go_loopg [12,13,14,15,16] k3 (fun kq v12 v13 v14 v15 v16 w' => ∃ (x12_4 : Int) (x13_4 : Int) (x14_4 : Int) (x15_4 : Int) (x16_4 : Int),v12 = .int .i64 x12_4 ∧ v13 = .int .i64 x13_4 ∧ v14 = .int .i64 x14_4 ∧ v15 = .int .i64 x15_4 ∧ v16 = .int .i64 x16_4 ∧ Aside0 (changeforgeref5_LogExtends.l1 kq a0 a2 x11_10 x12_4 x13_4 x14_4 x15_4 x16_4 = some r) ∧ Aside0 (kq ≤ k3) ∧ Aside0 (Kd.V (Kd.int .i64) 3 w' w.heap.size (fun k_ => (P4_ k_ ∨ w.heap.size ≤ k_)) (.slice (some ad108) x11_10.length co19) x11_10) ∧ Aside0 (Below w.heap.size w w'))
           case atStart => exact ⟨(x12_3),(x13_3),(rd x11_10 0),(rd x11_10 0),(1),fr_,fr_,fr_,fr_,fr_,H',⟨Nat.le_refl _⟩,⟨by (with_reducible repeat (first|apply Kd.V_alloc|apply Kd.V_drewN|apply Kd.V_drew));exact HO_11.out⟩,⟨bel_⟩⟩
           case round =>
            clear H';(try clear c1);(try clear p1);(try clear q1);(try clear hx1);(try clear qi1);(try clear c2);(try clear p2);(try clear c3);(try clear c4);(try clear c6);(try clear c6b0);(try clear c6b1);(try clear p6);(try clear c7);(try clear c7b0);(try clear c7b1);(try clear c7b2);(try clear c10);(try clear c10b0);(try clear c10b1);(try clear p10);(try clear q10);(try clear hx10);(try clear qi10);(try clear c12);(try clear c13);(try clear c17);(try clear c17b0);(try clear c17b1);(try clear c17b2);(try clear c20);(try clear c20b0);(try clear c20b1);(try clear c21);(try clear c21b0);(try clear c21b1);(try clear hx108_0);(try clear hx109_0);(try clear p108);(try clear p109);(try clear p2);(try clear p6);(try clear q108);(try clear q109);obtain ⟨x12_4,x13_4,x14_4,x15_4,x16_4,rfl,rfl,rfl,rfl,rfl,HA,HK4,HO_11,HB⟩:=hrel;cases gk with
            | zero => exact absurd HA.out (by simp [changeforgeref5_LogExtends.l1])
            | succ k4 =>
             have H:=HA.out;clear HA;simp only [changeforgeref5_LogExtends.l1] at H;by_cases c22 : x16_4 < (x11_10.length : Int)
             ·rw [if_pos c22] at H
              have c22b0 : decide (x16_4 < (x11_10.length : Int)) = true:=decide_eq_true c22;clear c22;by_cases c23 : x13_4 = 0
              ·rw [if_pos c23] at H
               have c23b0 : (x13_4 == 0) = true:=beq_iff_eq.mpr c23;have c23b1 : (x13_4 != 0) = false:=bne_eq_false_iff_eq.mpr c23;clear c23;obtain rfl:=Option.some.inj H;go_wp2;go_ret;exact ⟨by first|rfl|(simp [errW_none,errW_some] <;> rfl)|(simp [*,errW_none,errW_some] <;> rfl),bel_⟩
              ·rw [if_neg c23] at H
               have c23b0 : (x13_4 == 0) = false:=beq_eq_false_iff_ne.mpr c23;have c23b1 : (x13_4 != 0) = true:=bne_iff_ne.mpr c23;have HC24:=Aside0.mk H;clear H;go_upto_region 20 with (fail);go_cut [77] (fun v77 wc => ∃ (kq : Nat) (x77_23 : Bool),v77 = .bool x77_23 ∧ Aside0 (changeforgeref5_LogExtends.j4 kq a0 a2 x11_10 x12_4 x13_4 x14_4 x15_4 x16_4 x77_23 = some r) ∧ Aside0 (kq ≤ k4) ∧ Aside0 (Kd.V (Kd.int .i64) 3 wc w.heap.size (fun k_ => (P4_ k_ ∨ w.heap.size ≤ k_)) (.slice (some ad108) x11_10.length co19) x11_10) ∧ Aside0 (Below w.heap.size w wc))
               case first =>
                have H:=HC24.out;clear HC24;by_cases c25 : (Int.tmod x12_4 2) = 1
                ·rw [if_pos c25] at H
                 have c25b0 : ((Int.tmod x12_4 2) == 1) = true:=beq_iff_eq.mpr c25;have c25b1 : ((Int.tmod x12_4 2) != 1) = false:=bne_eq_false_iff_eq.mpr c25;clear c25;(first|rw [c25b0]|(simp only [i64_w,i32_w];rw [c25b0])|skip);have H':=Aside0.mk H;clear H;go_wp2;go_meet
                 case rel => exact ⟨_,(true),fr_,H',⟨by have:=HJ7.out;have:=HJ10.out;have:=HK3.out;have:=HK4.out;first|omega|exact Nat.le_refl _⟩,⟨by (with_reducible repeat (first|apply Kd.V_alloc|apply Kd.V_drewN|apply Kd.V_drew));exact HO_11.out⟩,⟨bel_⟩⟩
                ·rw [if_neg c25] at H
                 have c25b0 : ((Int.tmod x12_4 2) == 1) = false:=beq_eq_false_iff_ne.mpr c25;have c25b1 : ((Int.tmod x12_4 2) != 1) = true:=bne_iff_ne.mpr c25;(first|rw [c25b0]|(simp only [i64_w,i32_w];rw [c25b0])|skip);have H':=Aside0.mk H;clear H;go_wp2;go_meet
                 case rel => exact ⟨_,((x12_4 == x13_4)),fr_,H',⟨by have:=HJ7.out;have:=HJ10.out;have:=HK3.out;have:=HK4.out;first|omega|exact Nat.le_refl _⟩,⟨by (with_reducible repeat (first|apply Kd.V_alloc|apply Kd.V_drewN|apply Kd.V_drew));exact HO_11.out⟩,⟨bel_⟩⟩
               case rest =>
                clear HC24;(try clear c1);(try clear p1);(try clear q1);(try clear hx1);(try clear qi1);(try clear c2);(try clear p2);(try clear c3);(try clear c4);(try clear c6);(try clear c6b0);(try clear c6b1);(try clear p6);(try clear c7);(try clear c7b0);(try clear c7b1);(try clear c7b2);(try clear c10);(try clear c10b0);(try clear c10b1);(try clear p10);(try clear q10);(try clear hx10);(try clear qi10);(try clear c12);(try clear c13);(try clear c17);(try clear c17b0);(try clear c17b1);(try clear c17b2);(try clear c20);(try clear c20b0);(try clear c20b1);(try clear c21);(try clear c21b0);(try clear c21b1);(try clear c22);(try clear c22b0);(try clear c23);(try clear c23b0);(try clear c23b1);(try clear c25);(try clear c25b0);(try clear c25b1);(try clear hx108_0);(try clear hx109_0);(try clear p1);(try clear p10);(try clear p108);(try clear p109);(try clear p2);(try clear p6);(try clear q1);(try clear q10);(try clear q108);(try clear q109);obtain ⟨kq,x77_23,rfl,HA,HJ23,HO_11,HB⟩:=hcut;cases kq with
                | zero => exact absurd HA.out (by simp [changeforgeref5_LogExtends.j4])
                | succ kj23 =>
                 have H:=HA.out;clear HA;simp only [changeforgeref5_LogExtends.j4] at H;by_cases c26 : x77_23 = true
                 ·subst c26
                  have H1 : (if 0 ≤ x16_4 then (if x16_4 < (x11_10.length : Int) then ((changeforgeref1_DigestPair.f kj23 (rd x11_10 x16_4) x14_4).bind fun t111 => ((changeforgeref1_DigestPair.f kj23 (rd x11_10 x16_4) x15_4).bind fun t113 => (changeforgeref5_LogExtends.l2 kj23 a0 a2 x11_10 x12_4 x13_4 t111 t113 x16_4))) else (none)) else (none)) = some r:=by rw [if_pos rfl] at H;exact H
                  clear H;have H:=H1;clear H1;by_cases c27 : 0 ≤ x16_4
                  ·rw [if_pos c27] at H
                   have c27b0 : decide (0 ≤ x16_4) = true:=decide_eq_true c27;clear c27;by_cases c28 : x16_4 < (x11_10.length : Int)
                   ·rw [if_pos c28] at H
                    have c28b0 : decide (x16_4 < (x11_10.length : Int)) = true:=decide_eq_true c28;clear c28;replace H:=Option.bind_eq_some_iff.mp H;obtain ⟨t111,A290,H⟩:=H;replace H : ((changeforgeref1_DigestPair.f kj23 (rd x11_10 x16_4) x15_4).bind fun t113 => (changeforgeref5_LogExtends.l2 kj23 a0 a2 x11_10 x12_4 x13_4 t111 t113 x16_4)) = some r:=H;have A29:=Aside0.mk A290;clear A290;replace H:=Option.bind_eq_some_iff.mp H;obtain ⟨t113,A300,H⟩:=H;replace H : (changeforgeref5_LogExtends.l2 kj23 a0 a2 x11_10 x12_4 x13_4 t111 t113 x16_4) = some r:=H;have A30:=Aside0.mk A300;clear A300;have H':=Aside0.mk H;clear H;have p110 : 0 ≤ (x16_4 : Int):=of_decide_eq_true as_;have q110 : x16_4 < (x11_10.length : Int):=of_decide_eq_true as_;obtain ⟨ad110,e110,hx110_0⟩:=Kd.at_int (Kd.V_reads' HO_11.out).2.2 x16_4 p110 q110;obtain rfl : ad108 = ad110:=(by injection e110);replace p110:=eq_true p110;replace q110:=eq_true q110;go_wp2_with (first|((with_reducible refine gate_callee (f:=33) rfl ?_);refine goesL_ (some 83) rfl rfl Try.func33 (by kernel_rfl) rfl #[.int .i64 (rd x11_10 x16_4),.int .i64 x14_4] rfl ln_ ?_;(with_reducible refine (changeforgeref1_DigestPair.calls kj23 (rd x11_10 x16_4) x14_4 t111 _ A29.out).mono ?_);rintro e w' ⟨rfl,⟨nd,rfl⟩⟩;refine ⟨_,rfl,?_⟩;have p112 : 0 ≤ (x16_4 : Int):=of_decide_eq_true as_;have q112 : x16_4 < (x11_10.length : Int):=of_decide_eq_true as_;obtain ⟨ad112,e112,hx112_0⟩:=Kd.at_int (Kd.V_reads' HO_11.out).2.2 x16_4 p112 q112;obtain rfl : ad108 = ad112:=(by injection e112);replace p112:=eq_true p112;replace q112:=eq_true q112)|((with_reducible refine gate_callee (f:=33) rfl ?_);refine goesL_ (some 89) rfl rfl Try.func33 (by kernel_rfl) rfl #[.int .i64 (rd x11_10 x16_4),.int .i64 x15_4] rfl ln_ ?_;(with_reducible refine (changeforgeref1_DigestPair.calls kj23 (rd x11_10 x16_4) x15_4 t113 _ A30.out).mono ?_);rintro e w' ⟨rfl,⟨nd,rfl⟩⟩;refine ⟨_,rfl,?_⟩));go_loopg [12,13] kj23 (fun kq v12 v13 w' => ∃ (x12_6 : Int) (x13_6 : Int),v12 = .int .i64 x12_6 ∧ v13 = .int .i64 x13_6 ∧ Aside0 (changeforgeref5_LogExtends.l2 kq a0 a2 x11_10 x12_6 x13_6 t111 t113 x16_4 = some r) ∧ Aside0 (kq ≤ kj23) ∧ Aside0 (Kd.V (Kd.int .i64) 3 w' w.heap.size (fun k_ => (P4_ k_ ∨ w.heap.size ≤ k_)) (.slice (some ad108) x11_10.length co19) x11_10) ∧ Aside0 (Below w.heap.size w w'))
                    case atStart => exact ⟨(x12_4),(x13_4),fr_,fr_,H',⟨Nat.le_refl _⟩,⟨by (with_reducible repeat (first|apply Kd.V_alloc|apply Kd.V_drewN|apply Kd.V_drew));exact HO_11.out⟩,⟨bel_⟩⟩
                    case round =>
                     clear H';(try clear c1);(try clear p1);(try clear q1);(try clear hx1);(try clear qi1);(try clear c2);(try clear p2);(try clear c3);(try clear c4);(try clear c6);(try clear c6b0);(try clear c6b1);(try clear p6);(try clear c7);(try clear c7b0);(try clear c7b1);(try clear c7b2);(try clear c10);(try clear c10b0);(try clear c10b1);(try clear p10);(try clear q10);(try clear hx10);(try clear qi10);(try clear p11);(try clear q11);(try clear hx11);(try clear c12);(try clear c13);(try clear c17);(try clear c17b0);(try clear c17b1);(try clear c17b2);(try clear c20);(try clear c20b0);(try clear c20b1);(try clear c21);(try clear c21b0);(try clear c21b1);(try clear c22);(try clear c22b0);(try clear c23);(try clear c23b0);(try clear c23b1);(try clear c25);(try clear c25b0);(try clear c25b1);(try clear c26);(try clear c27);(try clear c27b0);(try clear c28);(try clear c28b0);(try clear hx108_0);(try clear hx109_0);(try clear hx110_0);(try clear hx112_0);(try clear p1);(try clear p10);(try clear p108);(try clear p109);(try clear p110);(try clear p112);(try clear p2);(try clear p6);(try clear q1);(try clear q10);(try clear q108);(try clear q109);(try clear q110);(try clear q112);obtain ⟨x12_6,x13_6,rfl,rfl,HA,HK6,HO_11,HB⟩:=hrel;cases gk with
                     | zero => exact absurd HA.out (by simp [changeforgeref5_LogExtends.l2])
                     | succ k6 =>
                      have H:=HA.out;clear HA;simp only [changeforgeref5_LogExtends.l2] at H;by_cases c31 : (Int.tmod x12_6 2) = 0
                      ·rw [if_pos c31] at H
                       have c31b0 : ((Int.tmod x12_6 2) == 0) = true:=beq_iff_eq.mpr c31;have c31b1 : ((Int.tmod x12_6 2) != 0) = false:=bne_eq_false_iff_eq.mpr c31;clear c31;by_cases c32 : x12_6 = 0
                       ·rw [if_pos c32] at H
                        have c32b0 : (x12_6 == 0) = true:=beq_iff_eq.mpr c32;have c32b1 : (x12_6 != 0) = false:=bne_eq_false_iff_eq.mpr c32;clear c32;have H':=Aside0.mk H;clear H;go_wp2;go_roundg k6
                        case measure => have:=HJ7.out;have:=HJ10.out;have:=HK3.out;have:=HK4.out;have:=HJ23.out;have:=HK6.out;omega
                        case rel => exact ⟨(wrap64 (Int.tdiv x12_6 2)),(wrap64 (Int.tdiv x13_6 2)),(t111),(t113),(wrap64 (x16_4 + 1)),fr_,fr_,fr_,fr_,fr_,H',⟨by have:=HJ7.out;have:=HJ10.out;have:=HK3.out;have:=HK4.out;have:=HJ23.out;have:=HK6.out;omega⟩,⟨by (with_reducible repeat (first|apply Kd.V_alloc|apply Kd.V_drewN|apply Kd.V_drew));exact HO_11.out⟩,⟨bel_⟩⟩
                       ·rw [if_neg c32] at H
                        have c32b0 : (x12_6 == 0) = false:=beq_eq_false_iff_ne.mpr c32;have c32b1 : (x12_6 != 0) = true:=bne_iff_ne.mpr c32;have H':=Aside0.mk H;clear H;go_wp2;go_roundg k6
                        case measure => have:=HJ7.out;have:=HJ10.out;have:=HK3.out;have:=HK4.out;have:=HJ23.out;have:=HK6.out;omega
                        case rel => exact ⟨(wrap64 (Int.tdiv x12_6 2)),(wrap64 (Int.tdiv x13_6 2)),fr_,fr_,H',⟨by have:=HJ7.out;have:=HJ10.out;have:=HK3.out;have:=HK4.out;have:=HJ23.out;have:=HK6.out;omega⟩,⟨by (with_reducible repeat (first|apply Kd.V_alloc|apply Kd.V_drewN|apply Kd.V_drew));exact HO_11.out⟩,⟨bel_⟩⟩
                      ·rw [if_neg c31] at H
                       have c31b0 : ((Int.tmod x12_6 2) == 0) = false:=beq_eq_false_iff_ne.mpr c31;have c31b1 : ((Int.tmod x12_6 2) != 0) = true:=bne_iff_ne.mpr c31;have H':=Aside0.mk H;clear H;go_wp2;go_roundg k6
                       case measure => have:=HJ7.out;have:=HJ10.out;have:=HK3.out;have:=HK4.out;have:=HJ23.out;have:=HK6.out;omega
                       case rel => exact ⟨(wrap64 (Int.tdiv x12_6 2)),(wrap64 (Int.tdiv x13_6 2)),(t111),(t113),(wrap64 (x16_4 + 1)),fr_,fr_,fr_,fr_,fr_,H',⟨by have:=HJ7.out;have:=HJ10.out;have:=HK3.out;have:=HK4.out;have:=HJ23.out;have:=HK6.out;omega⟩,⟨by (with_reducible repeat (first|apply Kd.V_alloc|apply Kd.V_drewN|apply Kd.V_drew));exact HO_11.out⟩,⟨bel_⟩⟩
                   ·rw [if_neg c28] at H
                    exact absurd H (by simp)
                  ·rw [if_neg c27] at H
                   exact absurd H (by simp)
                 ·replace c26:=Bool.eq_false_iff.mpr c26
                  subst c26;have H1 : (if 0 ≤ x16_4 then (if x16_4 < (x11_10.length : Int) then ((changeforgeref1_DigestPair.f kj23 x15_4 (rd x11_10 x16_4)).bind fun t115 => (changeforgeref5_LogExtends.l1 kj23 a0 a2 x11_10 (wrap64 (Int.tdiv x12_4 2)) (wrap64 (Int.tdiv x13_4 2)) x14_4 t115 (wrap64 (x16_4 + 1)))) else (none)) else (none)) = some r:=by rw [if_neg (show ¬ (false = true) by decide)] at H;exact H
                  clear H;have H:=H1;clear H1;by_cases c33 : 0 ≤ x16_4
                  ·rw [if_pos c33] at H
                   have c33b0 : decide (0 ≤ x16_4) = true:=decide_eq_true c33;clear c33;by_cases c34 : x16_4 < (x11_10.length : Int)
                   ·rw [if_pos c34] at H
                    have c34b0 : decide (x16_4 < (x11_10.length : Int)) = true:=decide_eq_true c34;clear c34;replace H:=Option.bind_eq_some_iff.mp H;obtain ⟨t115,A350,H⟩:=H;replace H : (changeforgeref5_LogExtends.l1 kj23 a0 a2 x11_10 (wrap64 (Int.tdiv x12_4 2)) (wrap64 (Int.tdiv x13_4 2)) x14_4 t115 (wrap64 (x16_4 + 1))) = some r:=H;have A35:=Aside0.mk A350;clear A350;have H':=Aside0.mk H;clear H;have p114 : 0 ≤ (x16_4 : Int):=of_decide_eq_true as_;have q114 : x16_4 < (x11_10.length : Int):=of_decide_eq_true as_;obtain ⟨ad114,e114,hx114_0⟩:=Kd.at_int (Kd.V_reads' HO_11.out).2.2 x16_4 p114 q114;obtain rfl : ad108 = ad114:=(by injection e114);replace p114:=eq_true p114;replace q114:=eq_true q114;go_wp2_with (first|((with_reducible refine gate_callee (f:=33) rfl ?_);refine goesL_ (some 106) rfl rfl Try.func33 (by kernel_rfl) rfl #[.int .i64 x15_4,.int .i64 (rd x11_10 x16_4)] rfl ln_ ?_;(with_reducible refine (changeforgeref1_DigestPair.calls kj23 x15_4 (rd x11_10 x16_4) t115 _ A35.out).mono ?_);rintro e w' ⟨rfl,⟨nd,rfl⟩⟩;refine ⟨_,rfl,?_⟩));go_roundg kj23
                    case measure => have:=HJ7.out;have:=HJ10.out;have:=HK3.out;have:=HK4.out;have:=HJ23.out;omega
                    case rel => exact ⟨(wrap64 (Int.tdiv x12_4 2)),(wrap64 (Int.tdiv x13_4 2)),(x14_4),(t115),(wrap64 (x16_4 + 1)),fr_,fr_,fr_,fr_,fr_,H',⟨by have:=HJ7.out;have:=HJ10.out;have:=HK3.out;have:=HK4.out;have:=HJ23.out;omega⟩,⟨by (with_reducible repeat (first|apply Kd.V_alloc|apply Kd.V_drewN|apply Kd.V_drew));exact HO_11.out⟩,⟨bel_⟩⟩
                   ·rw [if_neg c34] at H
                    exact absurd H (by simp)
                  ·rw [if_neg c33] at H
                   exact absurd H (by simp)
             ·rw [if_neg c22] at H
              have c22b0 : decide (x16_4 < (x11_10.length : Int)) = false:=decide_eq_false c22;clear c22;by_cases c36 : x13_4 = 0
              ·rw [if_pos c36] at H
               have c36b0 : (x13_4 == 0) = true:=beq_iff_eq.mpr c36;have c36b1 : (x13_4 != 0) = false:=bne_eq_false_iff_eq.mpr c36;clear c36;by_cases c37 : x14_4 = a0
               ·rw [if_pos c37] at H
                have c37b0 : (x14_4 == a0) = true:=beq_iff_eq.mpr c37;have c37b1 : (x14_4 != a0) = false:=bne_eq_false_iff_eq.mpr c37;clear c37;obtain rfl:=Option.some.inj H;go_wp2;go_ret;exact ⟨by first|rfl|(simp [errW_none,errW_some] <;> rfl)|(simp [*,errW_none,errW_some] <;> rfl),bel_⟩
               ·rw [if_neg c37] at H
                have c37b0 : (x14_4 == a0) = false:=beq_eq_false_iff_ne.mpr c37;have c37b1 : (x14_4 != a0) = true:=bne_iff_ne.mpr c37;obtain rfl:=Option.some.inj H;go_wp2;go_ret;exact ⟨by first|rfl|(simp [errW_none,errW_some] <;> rfl)|(simp [*,errW_none,errW_some] <;> rfl),bel_⟩
              ·rw [if_neg c36] at H
               have c36b0 : (x13_4 == 0) = false:=beq_eq_false_iff_ne.mpr c36;have c36b1 : (x13_4 != 0) = true:=bne_iff_ne.mpr c36;obtain rfl:=Option.some.inj H;go_wp2;go_ret;exact ⟨by first|rfl|(simp [errW_none,errW_some] <;> rfl)|(simp [*,errW_none,errW_some] <;> rfl),bel_⟩
          ·rw [if_neg c21] at H
           exact absurd H (by simp)

end Go.Proofs.Ytmcpcdnnnnhogaa.Fn
