/- A function of the program as a plain Lean function, and the proof that the call comes to just what it says (written by wip/tools/xprint.py for this claim). Condition: the plain function has an answer. -/
import Derived.Test.YtmcpcdnnnnhogaaFn0
import Derived.Test.YtmcpcdnnnnhogaaFs0
import Derived.Test.YtmcpcdnnnnhogaaWA
import Derived.Test.YtmcpcdnnnnhogaaTight
namespace Go.Proofs.Ytmcpcdnnnnhogaa.Fn
open Go.RowKit Go.Proofs.YtmcpcdnnnnhogaaW.PrintWords Go.Proofs.YtmcpcdnnnnhogaaW.PrintLast Go.Proofs.YtmcpcdnnnnhogaaW.PrintMore
attribute [local go_sem] max2_int min2_int max_two min_two max_three min_three max_four min_four   -- for this text's walks alone
set_option linter.unusedVariables false
set_option linter.unusedSimpArgs false

/-! ### changeforgeref5_LogRoot: function 13 -/
mutual
def changeforgeref5_LogRoot.l0 : Nat → List Int → List Int → List Int → Int → Option (Int)
 | 0,_,_,_,_ => none
 | k + 1,x0,x3,x4,x5 => if x5 < (x0.length : Int) then (if 0 ≤ x5 then (if x3.length < 17592186044416 then ((some (x3 ++ [rd x0 x5] : List Int)).bind fun y102 => (if x4.length < 17592186044416 then (changeforgeref5_LogRoot.l1 k x0 y102 (x4 ++ [1]) x5 (y102.length : Int)) else (none))) else (none)) else (none)) else (if (x3.length : Int) = 0 then (some 0) else (if 0 ≤ (wrap64 ((x3.length : Int) - 1)) then (if (wrap64 ((x3.length : Int) - 1)) < (x3.length : Int) then (changeforgeref5_LogRoot.l2 k x3 (rd x3 (wrap64 ((x3.length : Int) - 1))) (wrap64 ((x3.length : Int) - 2))) else (none)) else (none)))
def changeforgeref5_LogRoot.l1 : Nat → List Int → List Int → List Int → Int → Int → Option (Int)
 | 0,_,_,_,_,_ => none
 | k + 1,x0,x3,x4,x5,x6 => if x6 > 1 then (if 0 ≤ (wrap64 (x6 - 1)) then (if (wrap64 (x6 - 1)) < (x4.length : Int) then (if 0 ≤ (wrap64 (x6 - 2)) then (if (wrap64 (x6 - 2)) < (x4.length : Int) then (if (rd x4 (wrap64 (x6 - 1))) = (rd x4 (wrap64 (x6 - 2))) then (if (wrap64 (x6 - 2)) < (x3.length : Int) then (if (wrap64 (x6 - 1)) < (x3.length : Int) then ((changeforgeref1_DigestPair.f k (rd x3 (wrap64 (x6 - 2))) (rd x3 (wrap64 (x6 - 1)))).bind fun t114 => (if (wrap64 (x6 - 1)) ≤ (x3.length : Int) then ((some ((x3.set ((wrap64 (x6 - 2)) : Int).toNat t114).take ((wrap64 (x6 - 1)) : Int).toNat : List Int)).bind fun y116 => (if (wrap64 (x6 - 1)) ≤ (x4.length : Int) then (changeforgeref5_LogRoot.l1 k x0 y116 ((x4.set ((wrap64 (x6 - 2)) : Int).toNat (wrap64 (2 * (rd x4 (wrap64 (x6 - 2)))))).take ((wrap64 (x6 - 1)) : Int).toNat) x5 (y116.length : Int)) else (none))) else (none))) else (none)) else (none)) else (changeforgeref5_LogRoot.l0 k x0 x3 x4 (wrap64 (x5 + 1)))) else (none)) else (none)) else (none)) else (none)) else (changeforgeref5_LogRoot.l0 k x0 x3 x4 (wrap64 (x5 + 1)))
def changeforgeref5_LogRoot.l2 : Nat → List Int → Int → Int → Option (Int)
 | 0,_,_,_ => none
 | k + 1,x3,x7,x8 => if x8 ≥ 0 then (if 0 ≤ x8 then (if x8 < (x3.length : Int) then ((changeforgeref1_DigestPair.f k (rd x3 x8) x7).bind fun t124 => (changeforgeref5_LogRoot.l2 k x3 t124 (wrap64 (x8 - 1)))) else (none)) else (none)) else (some x7)
end
def changeforgeref5_LogRoot.f (k : Nat) (l0 : List Int) : Option (Int):=changeforgeref5_LogRoot.l0 k l0 ([] : List Int) ([] : List Int) 0
theorem changeforgeref5_LogRoot.mono_l : ∀ k,(∀ y0 y1 y2 y3,LeO (changeforgeref5_LogRoot.l0 k y0 y1 y2 y3) (changeforgeref5_LogRoot.l0 (k + 1) y0 y1 y2 y3)) ∧ (∀ y0 y1 y2 y3 y4,LeO (changeforgeref5_LogRoot.l1 k y0 y1 y2 y3 y4) (changeforgeref5_LogRoot.l1 (k + 1) y0 y1 y2 y3 y4)) ∧ (∀ y0 y1 y2,LeO (changeforgeref5_LogRoot.l2 k y0 y1 y2) (changeforgeref5_LogRoot.l2 (k + 1) y0 y1 y2))
 | 0 => ⟨fun _ _ _ _ r h => by simp [changeforgeref5_LogRoot.l0] at h,fun _ _ _ _ _ r h => by simp [changeforgeref5_LogRoot.l1] at h,fun _ _ _ r h => by simp [changeforgeref5_LogRoot.l2] at h⟩
 | k + 1 => by
  obtain ⟨ih0,ih1,ih2⟩:=changeforgeref5_LogRoot.mono_l k;refine ⟨?_,?_,?_⟩
  ·intro y0 y1 y2 y3
   unfold changeforgeref5_LogRoot.l0;repeat' first
   | (with_reducible exact ih0 _ _ _ _)
   | (with_reducible exact ih1 _ _ _ _ _)
   | (with_reducible exact ih2 _ _ _)
   | (with_reducible exact changeforgeref1_DigestPair.mono _ _ _)
   | (with_reducible exact LeO.refl _)
   | (with_reducible exact LeO.none _)
   | (with_reducible refine LeO.ite ?_ ?_)
   | (with_reducible refine LeO.bind ?_ (fun _ => ?_))
   | exact ih0 _ _ _ _
   | exact ih1 _ _ _ _ _
   | exact ih2 _ _ _
   | exact changeforgeref1_DigestPair.mono _ _ _
   | exact LeO.none _
   | refine LeO.ite ?_ ?_
   | refine LeO.bind ?_ (fun _ => ?_)
  ·intro y0 y1 y2 y3 y4
   unfold changeforgeref5_LogRoot.l1;repeat' first
   | (with_reducible exact ih0 _ _ _ _)
   | (with_reducible exact ih1 _ _ _ _ _)
   | (with_reducible exact ih2 _ _ _)
   | (with_reducible exact changeforgeref1_DigestPair.mono _ _ _)
   | (with_reducible exact LeO.refl _)
   | (with_reducible exact LeO.none _)
   | (with_reducible refine LeO.ite ?_ ?_)
   | (with_reducible refine LeO.bind ?_ (fun _ => ?_))
   | exact ih0 _ _ _ _
   | exact ih1 _ _ _ _ _
   | exact ih2 _ _ _
   | exact changeforgeref1_DigestPair.mono _ _ _
   | exact LeO.none _
   | refine LeO.ite ?_ ?_
   | refine LeO.bind ?_ (fun _ => ?_)
  ·intro y0 y1 y2
   unfold changeforgeref5_LogRoot.l2;repeat' first
   | (with_reducible exact ih0 _ _ _ _)
   | (with_reducible exact ih1 _ _ _ _ _)
   | (with_reducible exact ih2 _ _ _)
   | (with_reducible exact changeforgeref1_DigestPair.mono _ _ _)
   | (with_reducible exact LeO.refl _)
   | (with_reducible exact LeO.none _)
   | (with_reducible refine LeO.ite ?_ ?_)
   | (with_reducible refine LeO.bind ?_ (fun _ => ?_))
   | exact ih0 _ _ _ _
   | exact ih1 _ _ _ _ _
   | exact ih2 _ _ _
   | exact changeforgeref1_DigestPair.mono _ _ _
   | exact LeO.none _
   | refine LeO.ite ?_ ?_
   | refine LeO.bind ?_ (fun _ => ?_)
theorem changeforgeref5_LogRoot.mono : ∀ a0 k,LeO (changeforgeref5_LogRoot.f k a0) (changeforgeref5_LogRoot.f (k + 1) a0):=by
 intro a0 k;obtain ⟨ih0,ih1,ih2⟩:=changeforgeref5_LogRoot.mono_l k;unfold changeforgeref5_LogRoot.f
 repeat' first
   | (with_reducible exact ih0 _ _ _ _)
   | (with_reducible exact ih1 _ _ _ _ _)
   | (with_reducible exact ih2 _ _ _)
   | (with_reducible exact changeforgeref1_DigestPair.mono _ _ _)
   | (with_reducible exact LeO.refl _)
   | (with_reducible exact LeO.none _)
   | (with_reducible refine LeO.ite ?_ ?_)
   | (with_reducible refine LeO.bind ?_ (fun _ => ?_))
   | exact ih0 _ _ _ _
   | exact ih1 _ _ _ _ _
   | exact ih2 _ _ _
   | exact changeforgeref1_DigestPair.mono _ _ _
   | exact LeO.none _
   | refine LeO.ite ?_ ?_
   | refine LeO.bind ?_ (fun _ => ?_)
def changeforgeref5_LogRoot.T8 : Bool × List (List Nat × List Nat):=(true,[([],[]),([0],[0]),([1],[1]),([2],[2]),([2],[2]),([4,2],[2,4]),([3,5,2],[2,3,5]),([6,2],[2,6]),([2],[2]),([2],[2]),([9,2],[2,9]),([8,10,2],[2,8,10]),([11,2],[2,11]),([7,12,2],[2,7,12]),([2,13],[2,13])])
def changeforgeref5_LogRoot.B8 : List Nat:=[0,1,3,7,7,23,63,127,7,7,519,1799,3847,8191,16383]
theorem changeforgeref5_LogRoot.tab8 : rtab .any (opsOf Try.f13 8) = changeforgeref5_LogRoot.T8:=by kernel_rfl
theorem changeforgeref5_LogRoot.bits8 : waitsOk changeforgeref5_LogRoot.T8.2 changeforgeref5_LogRoot.B8 = true:=by kernel_rfl
def changeforgeref5_LogRoot.T11 : Bool × List (List Nat × List Nat):=(true,[([],[]),([],[]),([1],[1]),([],[]),([],[]),([4],[4]),([3,5],[3,5]),([6],[6]),([],[]),([],[]),([9],[9]),([8,10],[8,10]),([11],[11]),([7,12],[7,12]),([0,2,0,1,2,3,4,5,6,7,8,9,10,11,12,13],[0,2]),([14,13,13,0,1,2,3,4,5,6,7,8,9,10,11,12,13],[13,14])])
def changeforgeref5_LogRoot.B11 : List Nat:=[0,0,2,0,0,16,56,120,0,0,512,1792,3840,8184,16383,32767]
theorem changeforgeref5_LogRoot.tab11 : rtab .any (opsOf Try.f13 11) = changeforgeref5_LogRoot.T11:=by kernel_rfl
theorem changeforgeref5_LogRoot.bits11 : waitsOk changeforgeref5_LogRoot.T11.2 changeforgeref5_LogRoot.B11 = true:=by kernel_rfl
set_option maxHeartbeats 8000000 in
set_option maxRecDepth 100000 in
theorem changeforgeref5_LogRoot.calls (k : Nat) (A0 : Option Addr) (c0 : Nat) (l0 : List Int) (r : Int) (w : World) (hr0 : Kd.C (Kd.int .i64) w A0 l0.length l0) (hc0 : l0.length ≤ c0) (h : changeforgeref5_LogRoot.f k l0 = some r) :
  Calls Try.prog 13 #[.slice A0 l0.length c0] w fun e w' => e = .returned (.int .i64 r) ∧ Below w.heap.size w w':=by
 have HR0:=Aside0.mk hr0;have HC0:=Aside0.mk hc0;clear hr0 hc0;have HB:=Aside0.mk (Below.refl w.heap.size w);have H : (changeforgeref5_LogRoot.l0 k l0 ([] : List Int) ([] : List Int) 0) = some r:=h;clear h;have H':=Aside0.mk H;clear H;go_enter Try.func13,Try.ntmps13;go_wp2;go_loopg [3,4,5] k (fun kq v3 v4 v5 w' => ∃ (x3_1 : List Int) (x4_1 : List Int) (x5_1 : Int),v5 = .int .i64 x5_1 ∧ Aside0 (changeforgeref5_LogRoot.l0 kq l0 x3_1 x4_1 x5_1 = some r) ∧ Aside0 (kq ≤ k) ∧ Aside0 (Kd.R (Kd.int .i64) 3 w' w.heap.size (fun k_ => some k_ ≠ (v4 : Value).ownBlock) v3 x3_1) ∧ Aside0 (Kd.R (Kd.int .i64) 3 w' w.heap.size (fun k_ => some k_ ≠ (v3 : Value).ownBlock) v4 x4_1) ∧ Aside0 (Below w.heap.size w w'))
 case atStart => exact ⟨(([] : List Int)),(([] : List Int)),(0),fr_,H',⟨Nat.le_refl _⟩,⟨by first|exact Kd.R_nil _ _ _ _ _|exact Kd.N_nil _ _ _ _ _|exact Kd.V_nil _ _ _ _ _|exact Kd.Q_nil _ _ _ _ _|exact Kd.S_nil _ _ _ _ _⟩,⟨by first|exact Kd.R_nil _ _ _ _ _|exact Kd.N_nil _ _ _ _ _|exact Kd.V_nil _ _ _ _ _|exact Kd.Q_nil _ _ _ _ _|exact Kd.S_nil _ _ _ _ _⟩,⟨bel_⟩⟩
 case round =>
  clear H';(try clear c1);obtain ⟨x3_1,x4_1,x5_1,rfl,HA,HK1,HO_3,HO_4,HB⟩:=hrel;cases gk with
  | zero => exact absurd HA.out (by simp [changeforgeref5_LogRoot.l0])
  | succ k1 =>
   have H:=HA.out;clear HA;simp only [changeforgeref5_LogRoot.l0] at H;by_cases c2 : x5_1 < (l0.length : Int)
   ·rw [if_pos c2] at H
    have c2b0 : decide (x5_1 < (l0.length : Int)) = true:=decide_eq_true c2;clear c2;by_cases c3 : 0 ≤ x5_1
    ·rw [if_pos c3] at H
     have c3b0 : decide (0 ≤ x5_1) = true:=decide_eq_true c3;clear c3;by_cases c4 : x3_1.length < 17592186044416
     ·rw [if_pos c4] at H
      have LMc4:=Aside0.mk c4;clear c4;obtain ⟨y102,hy102⟩ : ∃ y_ : List Int,y_ = (x3_1 ++ [rd l0 x5_1]):=⟨_,rfl⟩;replace H : (if x4_1.length < 17592186044416 then (changeforgeref5_LogRoot.l1 k1 l0 y102 (x4_1 ++ [1]) x5_1 (y102.length : Int)) else (none)) = some r:=by first|(rw [hy102];with_reducible exact H)|(have H2_:=(Option.bind_some _ _).symm.trans H;rw [hy102];with_reducible exact H2_)|(have H2_:=(Option.bind_some _ _).symm.trans H;with_reducible exact H2_)|with_reducible exact H|(rw [hy102];exact H)|exact H
      have Ny102:=Aside0.mk hy102;clear hy102;by_cases c5 : x4_1.length < 17592186044416
      ·rw [if_pos c5] at H
       have LMc5:=Aside0.mk c5;clear c5;obtain ⟨y105,hy105⟩ : ∃ y_ : List Int,y_ = (x4_1 ++ [1]):=⟨_,rfl⟩;replace H : (changeforgeref5_LogRoot.l1 k1 l0 y102 y105 x5_1 (y102.length : Int)) = some r:=by first|(rw [hy105];with_reducible exact H)|(have H2_:=(Option.bind_some _ _).symm.trans H;rw [hy105];with_reducible exact H2_)|(have H2_:=(Option.bind_some _ _).symm.trans H;with_reducible exact H2_)|with_reducible exact H|(rw [hy105];exact H)|exact H
       have Ny105:=Aside0.mk hy105;clear hy105;have H':=Aside0.mk H;clear H;have p101 : 0 ≤ (x5_1 : Int):=of_decide_eq_true as_;have q101 : x5_1 < (l0.length : Int):=of_decide_eq_true as_;obtain ⟨ad101,e101,hx101_0⟩:=Kd.at_int HR0.out x5_1 p101 q101;cases e101
       replace hx101_0:=(HB.out.cell (World.block_lt_of_cell? w _ hx101_0)).trans hx101_0;replace p101:=eq_true p101;replace q101:=eq_true q101;go_wp2_with (first|((with_reducible refine gate_builtin (b:=.append) (xs:=#[.tmp 15,.tmp 20]) rfl ?_);at_builtin;refine Kd.R_append (Kd.int .i64) (w0:=w) w.heap.size rfl (.tmp 15) (.tmp 20) 22 3 (.int .i64 0) 8 rfl Try.underlying22 info3 rfl (by decide) (by omega) u3 x3_1 (rd l0 x5_1) [.int .i64 (rd l0 x5_1)] (fun k_ => some k_ ≠ (u4 : Value).ownBlock) (fun _ => False) rfl rfl ?aP (fun _ hk => hk.elim) ?aF ?aO ?aB ?aS ?aL ?_;(case aP => exact rfl);(case aB => exact bel_);(case aF => exact (fun k_ hk => Kd.fresh' (Kd.R_lt (Kd.R_mv HO_4.out)) k_ hk));(case aO => exact (Kd.R_mv HO_3.out));(case aS => exact (below_size bel_));(case aL => have:=LMc4.out;omega);intro v103 w6 ho hb hg hat;rw [← Ny102.out] at ho;replace HO_4:=Aside0.mk (Kd.R_after (ok:=(fun _ => True)) (by (with_reducible repeat (first|apply Kd.R_alloc|apply Kd.R_drewN|apply Kd.R_drew));exact Kd.R_mono HO_4.out (fun _ hk => ⟨trivial,hk⟩)) hg hat);replace HB:=Aside0.mk (hb);have HO104:=Aside0.mk (ho);clear HO_3;clear ho hb hg hat)|((with_reducible refine gate_builtin (b:=.append) (xs:=#[.tmp 22,.tmp 23]) rfl ?_);at_builtin;refine Kd.R_append (Kd.int .i64) (w0:=w) w.heap.size rfl (.tmp 22) (.tmp 23) 22 3 (.int .i64 0) 8 rfl Try.underlying22 info3 rfl (by decide) (by omega) u4 x4_1 1 [.int .i64 1] (fun k_ => some k_ ≠ (v103 : Value).ownBlock) (fun _ => False) rfl rfl ?aP (fun _ hk => hk.elim) ?aF ?aO ?aB ?aS ?aL ?_;(case aP => exact rfl);(case aB => exact bel_);(case aF => exact (fun k_ hk => Kd.fresh' (Kd.R_lt (Kd.R_mv HO104.out)) k_ hk));(case aO => exact (by (with_reducible repeat (first|apply Kd.R_alloc|apply Kd.R_drewN|apply Kd.R_drew));exact Kd.R_mono HO_4.out (fun _ hk => hk.2)));(case aS => exact (below_size bel_));(case aL => have:=LMc5.out;omega);intro v106 w7 ho hb hg hat;rw [← Ny105.out] at ho;replace HO104:=Aside0.mk (Kd.R_after (ok:=(fun _ => True)) (by (with_reducible repeat (first|apply Kd.R_alloc|apply Kd.R_drewN|apply Kd.R_drew));exact Kd.R_mono HO104.out (fun _ hk => ⟨trivial,hk⟩)) hg hat);replace HB:=Aside0.mk (hb);have HO107:=Aside0.mk (ho);clear HO_4;clear ho hb hg hat;obtain ⟨Ao8,co8,eo8⟩:=Kd.R_slice HO104.out;subst eo8));go_loopg [3,4,6] k1 (fun kq v3 v4 v6 w' => ∃ (x3_2 : List Int) (x4_2 : List Int) (x6_2 : Int),v6 = .int .i64 x6_2 ∧ Aside0 (changeforgeref5_LogRoot.l1 kq l0 x3_2 x4_2 x5_1 x6_2 = some r) ∧ Aside0 (kq ≤ k1) ∧ Aside0 (Kd.R (Kd.int .i64) 3 w' w.heap.size (fun k_ => some k_ ≠ (v4 : Value).ownBlock) v3 x3_2) ∧ Aside0 (Kd.R (Kd.int .i64) 3 w' w.heap.size (fun k_ => some k_ ≠ (v3 : Value).ownBlock) v4 x4_2) ∧ Aside0 (Below w.heap.size w w'))
       case atStart => exact ⟨(y102),(y105),((y102.length : Int)),fr_,H',⟨Nat.le_refl _⟩,⟨by (with_reducible repeat (first|apply Kd.R_alloc|apply Kd.R_drewN|apply Kd.R_drew));exact Kd.R_mono HO104.out (fun _ hk => hk.2)⟩,⟨Kd.R_mv HO107.out⟩,⟨bel_⟩⟩
       case round =>
        clear H';(try clear c1);(try clear p1);(try clear q1);(try clear hx1);(try clear c2);(try clear c2b0);(try clear p2);(try clear c3);(try clear c3b0);(try clear c4);(try clear c5);(try clear hx101_0);(try clear p101);(try clear q101);obtain ⟨x3_2,x4_2,x6_2,rfl,HA,HK2,HO_3,HO_4,HB⟩:=hrel;cases gk with
        | zero => exact absurd HA.out (by simp [changeforgeref5_LogRoot.l1])
        | succ k2 =>
         have H:=HA.out;clear HA;simp only [changeforgeref5_LogRoot.l1] at H;by_cases c9 : x6_2 > 1
         ·rw [if_pos c9] at H
          have c9b0 : decide (1 < x6_2) = true:=decide_eq_true c9;clear c9;obtain ⟨ji10,hji10⟩ : ∃ j_ : Int,(wrap64 (x6_2 - 1)) = j_:=⟨_,rfl⟩;replace H : (if 0 ≤ (ji10) then (if (ji10) < (x4_2.length : Int) then (if 0 ≤ (wrap64 (x6_2 - 2)) then (if (wrap64 (x6_2 - 2)) < (x4_2.length : Int) then (if (rd x4_2 (ji10)) = (rd x4_2 (wrap64 (x6_2 - 2))) then (if (wrap64 (x6_2 - 2)) < (x3_2.length : Int) then (if (ji10) < (x3_2.length : Int) then ((changeforgeref1_DigestPair.f k2 (rd x3_2 (wrap64 (x6_2 - 2))) (rd x3_2 (ji10))).bind fun t114 => (if (ji10) ≤ (x3_2.length : Int) then ((some ((x3_2.set ((wrap64 (x6_2 - 2)) : Int).toNat t114).take ((ji10) : Int).toNat : List Int)).bind fun y116 => (if (ji10) ≤ (x4_2.length : Int) then (changeforgeref5_LogRoot.l1 k2 l0 y116 ((x4_2.set ((wrap64 (x6_2 - 2)) : Int).toNat (wrap64 (2 * (rd x4_2 (wrap64 (x6_2 - 2)))))).take ((ji10) : Int).toNat) x5_1 (y116.length : Int)) else (none))) else (none))) else (none)) else (none)) else (changeforgeref5_LogRoot.l0 k2 l0 x3_2 x4_2 (wrap64 (x5_1 + 1)))) else (none)) else (none)) else (none)) else (none)) = some r:=by first|(rw [hji10] at H;exact H)|(simp only [hji10] at H ⊢;exact H)
          have hji10w : (IntKind.i64.wrap (x6_2 - 1)) = ji10:=(i64_w _).trans hji10;by_cases c11 : 0 ≤ (ji10)
          ·rw [if_pos c11] at H
           have c11b0 : decide (0 ≤ (ji10)) = true:=decide_eq_true c11;clear c11;by_cases c12 : (ji10) < (x4_2.length : Int)
           ·rw [if_pos c12] at H
            have c12b0 : decide ((ji10) < (x4_2.length : Int)) = true:=decide_eq_true c12;clear c12;obtain ⟨ji13,hji13⟩ : ∃ j_ : Int,(wrap64 (x6_2 - 2)) = j_:=⟨_,rfl⟩;replace H : (if 0 ≤ (ji13) then (if (ji13) < (x4_2.length : Int) then (if (rd x4_2 (ji10)) = (rd x4_2 (ji13)) then (if (ji13) < (x3_2.length : Int) then (if (ji10) < (x3_2.length : Int) then ((changeforgeref1_DigestPair.f k2 (rd x3_2 (ji13)) (rd x3_2 (ji10))).bind fun t114 => (if (ji10) ≤ (x3_2.length : Int) then ((some ((x3_2.set ((ji13) : Int).toNat t114).take ((ji10) : Int).toNat : List Int)).bind fun y116 => (if (ji10) ≤ (x4_2.length : Int) then (changeforgeref5_LogRoot.l1 k2 l0 y116 ((x4_2.set ((ji13) : Int).toNat (wrap64 (2 * (rd x4_2 (ji13))))).take ((ji10) : Int).toNat) x5_1 (y116.length : Int)) else (none))) else (none))) else (none)) else (none)) else (changeforgeref5_LogRoot.l0 k2 l0 x3_2 x4_2 (wrap64 (x5_1 + 1)))) else (none)) else (none)) = some r:=by first|(rw [hji13] at H;exact H)|(simp only [hji13] at H ⊢;exact H)
            have hji13w : (IntKind.i64.wrap (x6_2 - 2)) = ji13:=(i64_w _).trans hji13;by_cases c14 : 0 ≤ (ji13)
            ·rw [if_pos c14] at H
             have c14b0 : decide (0 ≤ (ji13)) = true:=decide_eq_true c14;clear c14;by_cases c15 : (ji13) < (x4_2.length : Int)
             ·rw [if_pos c15] at H
              have c15b0 : decide ((ji13) < (x4_2.length : Int)) = true:=decide_eq_true c15;clear c15;by_cases c16 : (rd x4_2 (ji10)) = (rd x4_2 (ji13))
              ·rw [if_pos c16] at H
               have c16b0 : ((rd x4_2 (ji10)) == (rd x4_2 (ji13))) = true:=beq_iff_eq.mpr c16;have c16b1 : ((rd x4_2 (ji10)) != (rd x4_2 (ji13))) = false:=bne_eq_false_iff_eq.mpr c16;clear c16;obtain ⟨y111,hy111⟩ : ∃ y_ : List Int,y_ = (x4_2.set ((ji13) : Int).toNat (wrap64 (2 * (rd x4_2 (ji13))))):=⟨_,rfl⟩;replace H : (if (ji13) < (x3_2.length : Int) then (if (ji10) < (x3_2.length : Int) then ((changeforgeref1_DigestPair.f k2 (rd x3_2 (ji13)) (rd x3_2 (ji10))).bind fun t114 => (if (ji10) ≤ (x3_2.length : Int) then ((some ((x3_2.set ((ji13) : Int).toNat t114).take ((ji10) : Int).toNat : List Int)).bind fun y116 => (if (ji10) ≤ (x4_2.length : Int) then (changeforgeref5_LogRoot.l1 k2 l0 y116 (y111.take ((ji10) : Int).toNat) x5_1 (y116.length : Int)) else (none))) else (none))) else (none)) else (none)) = some r:=by first|(rw [hy111];with_reducible exact H)|(have H2_:=(Option.bind_some _ _).symm.trans H;rw [hy111];with_reducible exact H2_)|(have H2_:=(Option.bind_some _ _).symm.trans H;with_reducible exact H2_)|with_reducible exact H|(rw [hy111];exact H)|exact H
               have Ny111:=Aside0.mk hy111;clear hy111;by_cases c18 : (ji13) < (x3_2.length : Int)
               ·rw [if_pos c18] at H
                have c18b0 : decide ((ji13) < (x3_2.length : Int)) = true:=decide_eq_true c18;clear c18;by_cases c19 : (ji10) < (x3_2.length : Int)
                ·rw [if_pos c19] at H
                 have c19b0 : decide ((ji10) < (x3_2.length : Int)) = true:=decide_eq_true c19;clear c19;replace H:=Option.bind_eq_some_iff.mp H;obtain ⟨t114,A200,H⟩:=H;replace H : (if (ji10) ≤ (x3_2.length : Int) then ((some ((x3_2.set ((ji13) : Int).toNat t114).take ((ji10) : Int).toNat : List Int)).bind fun y116 => (if (ji10) ≤ (x4_2.length : Int) then (changeforgeref5_LogRoot.l1 k2 l0 y116 (y111.take ((ji10) : Int).toNat) x5_1 (y116.length : Int)) else (none))) else (none)) = some r:=H;have A20:=Aside0.mk A200;clear A200;obtain ⟨y115,hy115⟩ : ∃ y_ : List Int,y_ = (x3_2.set ((ji13) : Int).toNat t114):=⟨_,rfl⟩;replace H : (if (ji10) ≤ (x3_2.length : Int) then ((some (y115.take ((ji10) : Int).toNat : List Int)).bind fun y116 => (if (ji10) ≤ (x4_2.length : Int) then (changeforgeref5_LogRoot.l1 k2 l0 y116 (y111.take ((ji10) : Int).toNat) x5_1 (y116.length : Int)) else (none))) else (none)) = some r:=by first|(rw [hy115];with_reducible exact H)|(have H2_:=(Option.bind_some _ _).symm.trans H;rw [hy115];with_reducible exact H2_)|(have H2_:=(Option.bind_some _ _).symm.trans H;with_reducible exact H2_)|with_reducible exact H|(rw [hy115];exact H)|exact H
                 have Ny115:=Aside0.mk hy115;clear hy115;by_cases c22 : (ji10) ≤ (x3_2.length : Int)
                 ·rw [if_pos c22] at H
                  have c22b0:=eq_true c22;have c22b1 : decide ((ji10) ≤ (x3_2.length : Int)) = true:=decide_eq_true c22;clear c22;obtain ⟨y116,hy116⟩ : ∃ y_ : List Int,y_ = (y115.take ((ji10) : Int).toNat):=⟨_,rfl⟩;replace H : (if (ji10) ≤ (x4_2.length : Int) then (changeforgeref5_LogRoot.l1 k2 l0 y116 (y111.take ((ji10) : Int).toNat) x5_1 (y116.length : Int)) else (none)) = some r:=by first|(rw [hy116];with_reducible exact H)|(have H2_:=(Option.bind_some _ _).symm.trans H;rw [hy116];with_reducible exact H2_)|(have H2_:=(Option.bind_some _ _).symm.trans H;with_reducible exact H2_)|with_reducible exact H|(rw [hy116];exact H)|exact H
                  have Ny116:=Aside0.mk hy116;clear hy116;by_cases c23 : (ji10) ≤ (x4_2.length : Int)
                  ·rw [if_pos c23] at H
                   have c23b0:=eq_true c23;have c23b1 : decide ((ji10) ≤ (x4_2.length : Int)) = true:=decide_eq_true c23;clear c23;obtain ⟨y119,hy119⟩ : ∃ y_ : List Int,y_ = (y111.take ((ji10) : Int).toNat):=⟨_,rfl⟩;replace H : (changeforgeref5_LogRoot.l1 k2 l0 y116 y119 x5_1 (y116.length : Int)) = some r:=by first|(rw [hy119];with_reducible exact H)|(have H2_:=(Option.bind_some _ _).symm.trans H;rw [hy119];with_reducible exact H2_)|(have H2_:=(Option.bind_some _ _).symm.trans H;with_reducible exact H2_)|with_reducible exact H|(rw [hy119];exact H)|exact H
                   have Ny119:=Aside0.mk hy119;clear hy119;have H':=Aside0.mk H;clear H;try go_wp2
                   replace HO_3:=Aside0.mk (Kd.R_drew HO_3.out);replace HO_4:=Aside0.mk (Kd.R_drew HO_4.out);replace HB:=Aside0.mk (below_drew1 HB.out);obtain ⟨Ao25,co25,eo25⟩:=Kd.R_slice HO_4.out;(first|subst eo25|(injection eo25 with f1_ f2_ f3_;have f4_:=f1_.symm;have f5_:=f3_.symm;clear f1_ f2_ f3_;subst f4_;subst f5_));have p108 : 0 ≤ ((ji10) : Int):=of_decide_eq_true as_;have q108 : (ji10) < (x4_2.length : Int):=of_decide_eq_true as_;obtain ⟨ad108,e108,hx108_0⟩:=Kd.at_int (Kd.R_reads' HO_4.out).2.2 (ji10) p108 q108;cases e108
                   replace p108:=eq_true p108;replace q108:=eq_true q108;have p109 : 0 ≤ ((ji13) : Int):=of_decide_eq_true as_;have q109 : (ji13) < (x4_2.length : Int):=of_decide_eq_true as_;obtain ⟨ad109,e109,hx109_0⟩:=Kd.at_int (Kd.R_reads' HO_4.out).2.2 (ji13) p109 q109;obtain rfl : ad108 = ad109:=(by injection e109);replace p109:=eq_true p109;replace q109:=eq_true q109;refine start_ (n:=15) (S:=fun w' => w'.cell? (ad108.add ((ji10)).toNat) = some (.int .i64 (rd x4_2 (ji10))) ∧ w'.cell? (ad108.add ((ji13)).toNat) = some (.int .i64 (rd x4_2 (ji13)))) (ds:=[]) (bl_ 15 0) (by kernel_rfl) rfl rfl ⟨hx108_0,hx109_0⟩ (fun hHeld => ?_);refine with_tabW changeforgeref5_LogRoot.tab8 changeforgeref5_LogRoot.bits8 (fun HT_ HW_ => ?_);generalize wr.drew = w24 at HO_3 HO_4 HB hx108_0 hx109_0 hHeld ⊢;refine pu_ (v:=?_) (a':=?_) 0 27 (bl_ 15 1) rfl rfl HT_.out ?_ ?_ ?_;rotate_left
                   ·intro w'
                    go_simp;with_reducible rfl
                   rotate_left
                   ·simp only [Act.put,sa_,sb_,sc_,i64_w,i32_w]
                    rfl
                   refine pu_ (v:=?_) (a':=?_) 1 28 (bl_ 15 3) rfl rfl HT_.out ?_ ?_ ?_;rotate_left
                   ·intro w'
                    go_simp;with_reducible rfl
                   rotate_left
                   ·simp only [Act.put,sa_,sb_,sc_,i64_w,i32_w]
                    rfl
                   refine pu_ (v:=?_) (a':=?_) 2 29 (bl_ 15 7) rfl rfl HT_.out ?_ ?_ ?_;rotate_left
                   ·intro w'
                    go_simp;with_reducible rfl
                   rotate_left
                   ·simp only [Act.put,sa_,sb_,sc_,i64_w,i32_w]
                    rfl
                   refine pu_ (v:=?_) (a':=?_) 3 30 (bl_ 15 15) rfl rfl HT_.out ?_ ?_ ?_;rotate_left
                   ·intro w'
                    go_simp;with_reducible rfl
                   rotate_left
                   ·simp only [Act.put,sa_,sb_,sc_,i64_w,i32_w]
                    rfl
                   refine pu_ (v:=?_) (a':=?_) 4 31 (bl_ 15 31) rfl rfl HT_.out ?_ ?_ ?_;rotate_left
                   ·intro w'
                    go_simp;with_reducible rfl
                   rotate_left
                   ·simp only [Act.put,sa_,sb_,sc_,i64_w,i32_w]
                    rfl
                   refine pu_ (v:=?_) (a':=?_) 5 32 (bl_ 15 63) rfl rfl HT_.out ?_ ?_ ?_;rotate_left
                   ·intro w'
                    go_simp;with_reducible rfl
                   rotate_left
                   ·simp only [Act.put,sa_,sb_,sc_,i64_w,i32_w]
                    rfl
                   refine pu_ (v:=?_) (a':=?_) 6 33 (bl_ 15 127) rfl rfl HT_.out ?_ ?_ ?_;rotate_left
                   ·intro w'
                    go_simp;with_reducible rfl
                   rotate_left
                   ·simp only [Act.put,sa_,sb_,sc_,i64_w,i32_w]
                    rfl
                   refine pu_ (v:=?_) (a':=?_) 8 35 (bl_ 15 383) rfl rfl HT_.out ?_ ?_ ?_;rotate_left
                   ·intro w'
                    go_simp;with_reducible rfl
                   rotate_left
                   ·simp only [Act.put,sa_,sb_,sc_,i64_w,i32_w]
                    rfl
                   refine pu_ (v:=?_) (a':=?_) 9 36 (bl_ 15 895) rfl rfl HT_.out ?_ ?_ ?_;rotate_left
                   ·intro w'
                    go_simp;with_reducible rfl
                   rotate_left
                   ·simp only [Act.put,sa_,sb_,sc_,i64_w,i32_w]
                    rfl
                   refine pu_ (v:=?_) (a':=?_) 10 37 (bl_ 15 1919) rfl rfl HT_.out ?_ ?_ ?_;rotate_left
                   ·intro w'
                    go_simp;with_reducible rfl
                   rotate_left
                   ·simp only [Act.put,sa_,sb_,sc_,i64_w,i32_w]
                    rfl
                   refine pu_ (v:=?_) (a':=?_) 11 38 (bl_ 15 3967) rfl rfl HT_.out ?_ ?_ ?_;rotate_left
                   ·intro w'
                    go_simp;with_reducible rfl
                   rotate_left
                   ·simp only [Act.put,sa_,sb_,sc_,i64_w,i32_w]
                    rfl
                   refine tk_ (v:=?_) (a':=?_) 7 34 (bl_ 15 4095) rfl rfl HT_.out HW_.out ?_ hHeld ?_ ?_;rotate_left
                   ·rintro w' ⟨s0,s1⟩
                    go_simp;with_reducible rfl
                   rotate_left
                   ·simp only [Act.put,sa_,sb_,sc_,i64_w,i32_w]
                    rfl
                   refine tk_ (v:=?_) (a':=?_) 12 39 (bl_ 15 8191) rfl rfl HT_.out HW_.out ?_ hHeld ?_ ?_;rotate_left
                   ·rintro w' ⟨s0,s1⟩
                    go_simp;with_reducible rfl
                   rotate_left
                   ·simp only [Act.put,sa_,sb_,sc_,i64_w,i32_w]
                    rfl
                   refine pu_ (v:=?_) (a':=?_) 13 40 (bl_ 15 16383) rfl rfl HT_.out ?_ ?_ ?_;rotate_left
                   ·intro w'
                    go_simp;with_reducible rfl
                   rotate_left
                   ·simp only [Act.put,sa_,sb_,sc_,i64_w,i32_w]
                    rfl
                   refine pu_ (v:=?_) (a':=?_) 14 41 (bl_ 15 32767) rfl rfl HT_.out ?_ ?_ ?_;rotate_left
                   ·intro w'
                    go_simp;with_reducible rfl
                   rotate_left
                   ·simp only [Act.put,sa_,sb_,sc_,i64_w,i32_w]
                    rfl
                   refine done_ (done_of HT_.out (by kernel_rfl)) ?_;have p110 : 0 ≤ ((ji13) : Int):=of_decide_eq_true as_;have q110 : (ji13) < (x4_2.length : Int):=of_decide_eq_true as_;obtain ⟨ad110,e110,hx110_0⟩:=Kd.at_int (Kd.R_reads' HO_4.out).2.2 (ji13) p110 q110;obtain rfl : ad108 = ad110:=(by injection e110);replace p110:=eq_true p110;replace q110:=eq_true q110;have p17 : 0 ≤ ((ji13) : Int):=of_decide_eq_true as_;have q17 : ((ji13) : Int) < ((x4_2.length : Int) : Int):=of_decide_eq_true as_;obtain ⟨go17,co17,eo17,gb17,gl17,cl17,HG17⟩:=Kd.R_form HO_4.out (by omega);(first|cases eo17|(injection eo17 with ea_ en_ ec_;(first|subst ea_|(injection ea_ with ea_;subst ea_));subst ec_;clear en_));have GB17:=Aside0.mk gb17;have GG17:=Aside0.mk HG17;clear gb17 gl17 HG17;(first|simp only [add_plain] at hx108_0|skip);(first|simp only [add_plain] at hx109_0|skip);(first|simp only [add_plain] at hx110_0|skip);obtain ⟨hx17_0,hf17_0⟩:=Kd.R_celln 0 HO_4.out ((ji13) : Int) p17 q17;replace p17:=eq_true p17;replace q17:=eq_true q17;obtain ⟨hy26_,hz26_⟩:=Kd.R_celln 0 HO_4.out ((ji13) : Int) (of_decide_eq_true as_) (of_decide_eq_true as_);have HP26:=Kd.R_putg HO_4.out ((ji13) : Int) (wrap64 (2 * (rd x4_2 (ji13))));try go_wp2_with (first|((with_reducible refine gate_store (t:=3) (p:=53) rfl ?_);refine store_event (t:=3) (p:=53) (v:=?vo_w27) (w1:=(w24.setCell ⟨go17,((ji13) : Int).toNat,none⟩ (.int .i64 (wrap64 (2 * (rd x4_2 (ji13))))))) ?hg ?ho ?hn ?hr ?_;(case ho => rfl);(case hg => rfl);(case hn => rfl);(case hr => first|(go_simp;done)|(go_simp;rfl));intro w27 hw;have hg : w24.grownBy w27 (some go17):=(by rw [hw];exact HP26.2);have hp_ : Kd.R (Kd.int .i64) 3 w27 w.heap.size (fun k_ => some k_ ≠ (u3 : Value).ownBlock) (.slice (some ⟨go17,0,none⟩) x4_2.length co25) y111:=(by rw [hw,Ny111.out];exact HP26.1);clear HP26;replace HO_3:=Aside0.mk (Kd.R_after (v:=(.slice (some ⟨go17,0,none⟩) x4_2.length co25)) (v1:=(.slice (some ⟨go17,0,none⟩) x4_2.length co25)) (ok:=(fun _ => True)) (by (with_reducible repeat (first|apply Kd.R_alloc|apply Kd.R_drewN|apply Kd.R_drew));exact Kd.R_mono HO_3.out (fun _ hk => ⟨trivial,hk⟩)) hg (.inl rfl));replace HO_4:=Aside0.mk (hp_);replace HB:=Aside0.mk ((by rw [hw];exact below_set (HB.out) GB17.out : Below w.heap.size w w27));clear hg hw hp_))
                   replace HO_3:=Aside0.mk (Kd.R_drew HO_3.out);replace HO_4:=Aside0.mk (Kd.R_drew HO_4.out);replace HB:=Aside0.mk (below_drew1 HB.out);obtain ⟨Ao29,co29,eo29⟩:=Kd.R_slice HO_3.out;(first|subst eo29|(injection eo29 with f1_ f2_ f3_;have f4_:=f1_.symm;have f5_:=f3_.symm;clear f1_ f2_ f3_;subst f4_;subst f5_));have p112 : 0 ≤ ((ji13) : Int):=of_decide_eq_true as_;have q112 : (ji13) < (x3_2.length : Int):=of_decide_eq_true as_;obtain ⟨ad112,e112,hx112_0⟩:=Kd.at_int (Kd.R_reads' HO_3.out).2.2 (ji13) p112 q112;cases e112
                   replace p112:=eq_true p112;replace q112:=eq_true q112;have p113 : 0 ≤ ((ji10) : Int):=of_decide_eq_true as_;have q113 : (ji10) < (x3_2.length : Int):=of_decide_eq_true as_;obtain ⟨ad113,e113,hx113_0⟩:=Kd.at_int (Kd.R_reads' HO_3.out).2.2 (ji10) p113 q113;obtain rfl : ad112 = ad113:=(by injection e113);replace p113:=eq_true p113;replace q113:=eq_true q113;refine start_ (n:=16) (S:=fun w' => w'.cell? (ad112.add ((ji13)).toNat) = some (.int .i64 (rd x3_2 (ji13))) ∧ w'.cell? (ad112.add ((ji10)).toNat) = some (.int .i64 (rd x3_2 (ji10)))) (ds:=[15]) (bl_ 16 0) (by kernel_rfl) rfl rfl ⟨hx112_0,hx113_0⟩ (fun hHeld => ?_);refine with_tabW changeforgeref5_LogRoot.tab11 changeforgeref5_LogRoot.bits11 (fun HT_ HW_ => ?_);generalize w27.drew = w28 at HO_3 HO_4 HB hx112_0 hx113_0 hHeld ⊢;refine pu_ (v:=?_) (a':=?_) 0 54 (bl_ 16 1) rfl rfl HT_.out ?_ ?_ ?_;rotate_left
                   ·intro w'
                    go_simp;with_reducible rfl
                   rotate_left
                   ·simp only [Act.put,sa_,sb_,sc_,i64_w,i32_w]
                    rfl
                   refine pu_ (v:=?_) (a':=?_) 1 55 (bl_ 16 3) rfl rfl HT_.out ?_ ?_ ?_;rotate_left
                   ·intro w'
                    go_simp;with_reducible rfl
                   rotate_left
                   ·simp only [Act.put,sa_,sb_,sc_,i64_w,i32_w]
                    rfl
                   refine pu_ (v:=?_) (a':=?_) 2 56 (bl_ 16 7) rfl rfl HT_.out ?_ ?_ ?_;rotate_left
                   ·intro w'
                    go_simp;with_reducible rfl
                   rotate_left
                   ·simp only [Act.put,sa_,sb_,sc_,i64_w,i32_w]
                    rfl
                   refine pu_ (v:=?_) (a':=?_) 3 57 (bl_ 16 15) rfl rfl HT_.out ?_ ?_ ?_;rotate_left
                   ·intro w'
                    go_simp;with_reducible rfl
                   rotate_left
                   ·simp only [Act.put,sa_,sb_,sc_,i64_w,i32_w]
                    rfl
                   refine pu_ (v:=?_) (a':=?_) 4 58 (bl_ 16 31) rfl rfl HT_.out ?_ ?_ ?_;rotate_left
                   ·intro w'
                    go_simp;with_reducible rfl
                   rotate_left
                   ·simp only [Act.put,sa_,sb_,sc_,i64_w,i32_w]
                    rfl
                   refine pu_ (v:=?_) (a':=?_) 5 59 (bl_ 16 63) rfl rfl HT_.out ?_ ?_ ?_;rotate_left
                   ·intro w'
                    go_simp;with_reducible rfl
                   rotate_left
                   ·simp only [Act.put,sa_,sb_,sc_,i64_w,i32_w]
                    rfl
                   refine pu_ (v:=?_) (a':=?_) 6 60 (bl_ 16 127) rfl rfl HT_.out ?_ ?_ ?_;rotate_left
                   ·intro w'
                    go_simp;with_reducible rfl
                   rotate_left
                   ·simp only [Act.put,sa_,sb_,sc_,i64_w,i32_w]
                    rfl
                   refine pu_ (v:=?_) (a':=?_) 8 62 (bl_ 16 383) rfl rfl HT_.out ?_ ?_ ?_;rotate_left
                   ·intro w'
                    go_simp;with_reducible rfl
                   rotate_left
                   ·simp only [Act.put,sa_,sb_,sc_,i64_w,i32_w]
                    rfl
                   refine pu_ (v:=?_) (a':=?_) 9 63 (bl_ 16 895) rfl rfl HT_.out ?_ ?_ ?_;rotate_left
                   ·intro w'
                    go_simp;with_reducible rfl
                   rotate_left
                   ·simp only [Act.put,sa_,sb_,sc_,i64_w,i32_w]
                    rfl
                   refine pu_ (v:=?_) (a':=?_) 10 64 (bl_ 16 1919) rfl rfl HT_.out ?_ ?_ ?_;rotate_left
                   ·intro w'
                    go_simp;with_reducible rfl
                   rotate_left
                   ·simp only [Act.put,sa_,sb_,sc_,i64_w,i32_w]
                    rfl
                   refine pu_ (v:=?_) (a':=?_) 11 65 (bl_ 16 3967) rfl rfl HT_.out ?_ ?_ ?_;rotate_left
                   ·intro w'
                    go_simp;with_reducible rfl
                   rotate_left
                   ·simp only [Act.put,sa_,sb_,sc_,i64_w,i32_w]
                    rfl
                   refine tk_ (v:=?_) (a':=?_) 7 61 (bl_ 16 4095) rfl rfl HT_.out HW_.out ?_ hHeld ?_ ?_;rotate_left
                   ·rintro w' ⟨s0,s1⟩
                    go_simp;with_reducible rfl
                   rotate_left
                   ·simp only [Act.put,sa_,sb_,sc_,i64_w,i32_w]
                    rfl
                   refine tk_ (v:=?_) (a':=?_) 12 66 (bl_ 16 8191) rfl rfl HT_.out HW_.out ?_ hHeld ?_ ?_;rotate_left
                   ·rintro w' ⟨s0,s1⟩
                    go_simp;with_reducible rfl
                   rotate_left
                   ·simp only [Act.put,sa_,sb_,sc_,i64_w,i32_w]
                    rfl
                   refine one_ (i:=13) (N:=some 67) (bl_ 16 16383) rfl rfl (one_of HT_.out (by kernel_rfl)) (by decide) (fun K hK => ?_);refine goes_ Try.func33 (by kernel_rfl) rfl #[.int .i64 (rd x3_2 (ji13)),.int .i64 (rd x3_2 (ji10))] (by rfl) rfl rfl (by (try simp only [List.map_toArray,List.map_cons,List.map_nil]);first|done|(simp only [hji10,hji13];rfl)|rfl|(simp only [List.length_drop,List.length_take];rfl)) ?_;with_reducible refine (changeforgeref1_DigestPair.calls k2 (rd x3_2 (ji13)) (rd x3_2 (ji10)) t114 _ A20.out).mono ?_
                   rintro e w' ⟨rfl,⟨nd,rfl⟩⟩;refine ⟨_,rfl,?_⟩;replace HO_3:=Aside0.mk (Kd.R_drewN HO_3.out nd);replace HO_4:=Aside0.mk (Kd.R_drewN HO_4.out nd);have p21 : 0 ≤ ((ji13) : Int):=of_decide_eq_true as_;have q21 : ((ji13) : Int) < ((x3_2.length : Int) : Int):=of_decide_eq_true as_;obtain ⟨go21,co21,eo21,gb21,gl21,cl21,HG21⟩:=Kd.R_form HO_3.out (by omega);(first|cases eo21|(injection eo21 with ea_ en_ ec_;(first|subst ea_|(injection ea_ with ea_;subst ea_));subst ec_;clear en_));have GB21:=Aside0.mk gb21;have GG21:=Aside0.mk HG21;clear gb21 gl21 HG21;(first|simp only [add_plain] at hx112_0|skip);(first|simp only [add_plain] at hx113_0|skip);obtain ⟨hx21_0,hf21_0⟩:=Kd.R_celln 0 HO_3.out ((ji13) : Int) p21 q21;replace p21:=eq_true p21;replace q21:=eq_true q21;have HP30:=Kd.R_putn HO_3.out ((ji13) : Int) t114;rw [← Ny115.out] at HP30;have HQ30:=Aside0.mk HP30;clear HP30;refine hK.out _ _ ⟨hHeld.1,hHeld.2⟩ (fun hHeld => ?_);clear hK K;refine norm_ (a':=?_) ?_ ?_;rotate_left
                   ·show Act.put _ (some 67) _ = _
                    simp only [Act.put,sa_,sb_,sc_,i64_w,i32_w];rfl
                   refine pu_ (v:=?_) (a':=?_) 14 68 (bl_ 16 32767) rfl rfl HT_.out ?_ ?_ ?_;rotate_left
                   ·intro w'
                    go_simp;with_reducible rfl
                   rotate_left
                   ·simp only [Act.put,sa_,sb_,sc_,i64_w,i32_w]
                    rfl
                   refine last_ (i:=15) (N:=none) (bl_ 16 65535) rfl rfl (one_of HT_.out (by kernel_rfl)) (by decide) (fun K hK => ?_);refine skip_ (w1:=?_) ?_ ?_ ?_ ?_;rotate_left
                   ·rfl
                   ·rfl
                   ·go_simp
                    rfl
                   refine hK.out _ _ ?_;clear hK K;refine done_ (done_of HT_.out (by kernel_rfl)) ?_;have n0_ : Aside0 (Kd.R (Kd.int .i64) 3 ((w28.drewN nd).setCell ⟨go21,((ji13) : Int).toNat,none⟩ (.int .i64 t114)) w.heap.size (fun k_ => some k_ ≠ (.slice (some ⟨go17,0,none⟩) x4_2.length co25 : Value).ownBlock) (.slice (some ⟨go21,0,none⟩) x3_2.length co29) y115):=⟨by (with_reducible repeat (first|apply Kd.R_alloc|apply Kd.R_drewN|apply Kd.R_drew));exact Kd.R_mono HQ30.out (fun _ hk => hk.2)⟩;have n1_ : Aside0 (Kd.R (Kd.int .i64) 3 ((w28.drewN nd).setCell ⟨go21,((ji13) : Int).toNat,none⟩ (.int .i64 t114)) w.heap.size (fun k_ => some k_ ≠ (.slice (some ⟨go21,0,none⟩) x3_2.length co29 : Value).ownBlock) (.slice (some ⟨go17,0,none⟩) x4_2.length co25) y111):=⟨by (with_reducible repeat (first|apply Kd.R_alloc|apply Kd.R_drewN|apply Kd.R_drew));exact Kd.R_mono (Kd.R_far (p:=⟨go21,((ji13) : Int).toNat,none⟩) (Kd.R_mono HO_4.out (fun k_ hk => (⟨hk,fun e_ => hk (by rw [e_];rfl)⟩ : _ ∧ k_ ≠ go21))) (fun _ hk => hk.2) (.int .i64 t114)) (fun _ hk => hk.1)⟩;have n2_ : Aside0 (Below w.heap.size w ((w28.drewN nd).setCell ⟨go21,((ji13) : Int).toNat,none⟩ (.int .i64 t114))):=⟨by repeat (first|(with_reducible first|exact HB.out|apply below_alloc|apply pw_below_drewN|apply below_drew1|refine below_set ?_ GB21.out)|exact HB.out)⟩;(try clear HO_3);(try clear HO_4);(try clear HB);generalize ((w28.drewN nd).setCell ⟨go21,((ji13) : Int).toNat,none⟩ (.int .i64 t114)) = w31 at n0_ n1_ n2_ ⊢;have HO_3:=n0_;have HO_4:=n1_;have HB:=n2_;clear n0_ n1_ n2_;have q32 : ((ji10) : Int) ≤ ((x3_2.length : Int) : Int):=of_decide_eq_true as_;obtain ⟨i032,hi032,_,hsz32,_⟩:=info_parts info3;have hcut32:=cut_to (P:=Try.prog) 22 3 .i64 Try.underlying22 hi032 (some ⟨go21,0,none⟩) x3_2.length co29 (ji10) (of_decide_eq_true as_) q32 (Kd.R_reads' HO_3.out).2.1;have hr32:=Kd.R_take (m:=((ji10) : Int).toNat) HO_3.out (by first|omega|(have e_:=(Kd.R_reads' HO_3.out).1;omega));have hy32 : y116.length = ((ji10) : Int).toNat:=(by rw [Ny116.out,List.length_take];first|omega|(have e_:=(Kd.R_reads' HO_3.out).1;omega));rw [← Ny116.out] at hr32;rw [← hy32] at hr32 hcut32;clear hy32 hi032 hsz32 HO_3;have HO118:=Aside0.mk hr32;clear hr32;replace q32:=eq_true q32;have q33 : ((ji10) : Int) ≤ ((x4_2.length : Int) : Int):=of_decide_eq_true as_;obtain ⟨i033,hi033,_,hsz33,_⟩:=info_parts info3;have hcut33:=cut_to (P:=Try.prog) 22 3 .i64 Try.underlying22 hi033 (some ⟨go17,0,none⟩) x4_2.length co25 (ji10) (of_decide_eq_true as_) q33 (Kd.R_reads' HO_4.out).2.1;have hr33:=Kd.R_take (m:=((ji10) : Int).toNat) HO_4.out (by first|omega|(have e_:=(Kd.R_reads' HO_4.out).1;omega));have hy33 : y119.length = ((ji10) : Int).toNat:=(by rw [Ny119.out,List.length_take];first|omega|(have e_:=(Kd.R_reads' HO_4.out).1;omega));rw [← Ny119.out] at hr33;rw [← hy33] at hr33 hcut33;clear hy33 hi033 hsz33 HO_4;have HO121:=Aside0.mk hr33;clear hr33;replace q33:=eq_true q33;try go_wp2
                   go_roundg k2
                   case measure => have:=HK1.out;have:=HK2.out;omega
                   case rel => exact ⟨(y116),(y119),((y116.length : Int)),fr_,H',⟨by have:=HK1.out;have:=HK2.out;omega⟩,⟨Kd.R_mv HO118.out⟩,⟨Kd.R_mv HO121.out⟩,⟨bel_⟩⟩
                  ·rw [if_neg c23] at H
                   exact absurd H (by simp)
                 ·rw [if_neg c22] at H
                  exact absurd H (by simp)
                ·rw [if_neg c19] at H
                 exact absurd H (by simp)
               ·rw [if_neg c18] at H
                exact absurd H (by simp)
              ·rw [if_neg c16] at H
               have c16b0 : ((rd x4_2 (ji10)) == (rd x4_2 (ji13))) = false:=beq_eq_false_iff_ne.mpr c16;have c16b1 : ((rd x4_2 (ji10)) != (rd x4_2 (ji13))) = true:=bne_iff_ne.mpr c16;have H':=Aside0.mk H;clear H;try go_wp2
               replace HO_3:=Aside0.mk (Kd.R_drew HO_3.out);replace HO_4:=Aside0.mk (Kd.R_drew HO_4.out);replace HB:=Aside0.mk (below_drew1 HB.out);obtain ⟨Ao35,co35,eo35⟩:=Kd.R_slice HO_4.out;(first|subst eo35|(injection eo35 with f1_ f2_ f3_;have f4_:=f1_.symm;have f5_:=f3_.symm;clear f1_ f2_ f3_;subst f4_;subst f5_));have p108 : 0 ≤ ((ji10) : Int):=of_decide_eq_true as_;have q108 : (ji10) < (x4_2.length : Int):=of_decide_eq_true as_;obtain ⟨ad108,e108,hx108_0⟩:=Kd.at_int (Kd.R_reads' HO_4.out).2.2 (ji10) p108 q108;cases e108
               replace p108:=eq_true p108;replace q108:=eq_true q108;have p109 : 0 ≤ ((ji13) : Int):=of_decide_eq_true as_;have q109 : (ji13) < (x4_2.length : Int):=of_decide_eq_true as_;obtain ⟨ad109,e109,hx109_0⟩:=Kd.at_int (Kd.R_reads' HO_4.out).2.2 (ji13) p109 q109;obtain rfl : ad108 = ad109:=(by injection e109);replace p109:=eq_true p109;replace q109:=eq_true q109;refine start_ (n:=15) (S:=fun w' => w'.cell? (ad108.add ((ji10)).toNat) = some (.int .i64 (rd x4_2 (ji10))) ∧ w'.cell? (ad108.add ((ji13)).toNat) = some (.int .i64 (rd x4_2 (ji13)))) (ds:=[]) (bl_ 15 0) (by kernel_rfl) rfl rfl ⟨hx108_0,hx109_0⟩ (fun hHeld => ?_);refine with_tabW changeforgeref5_LogRoot.tab8 changeforgeref5_LogRoot.bits8 (fun HT_ HW_ => ?_);generalize wr.drew = w34 at HO_3 HO_4 HB hx108_0 hx109_0 hHeld ⊢;refine pu_ (v:=?_) (a':=?_) 0 27 (bl_ 15 1) rfl rfl HT_.out ?_ ?_ ?_;rotate_left
               ·intro w'
                go_simp;with_reducible rfl
               rotate_left
               ·simp only [Act.put,sa_,sb_,sc_,i64_w,i32_w]
                rfl
               refine pu_ (v:=?_) (a':=?_) 1 28 (bl_ 15 3) rfl rfl HT_.out ?_ ?_ ?_;rotate_left
               ·intro w'
                go_simp;with_reducible rfl
               rotate_left
               ·simp only [Act.put,sa_,sb_,sc_,i64_w,i32_w]
                rfl
               refine pu_ (v:=?_) (a':=?_) 2 29 (bl_ 15 7) rfl rfl HT_.out ?_ ?_ ?_;rotate_left
               ·intro w'
                go_simp;with_reducible rfl
               rotate_left
               ·simp only [Act.put,sa_,sb_,sc_,i64_w,i32_w]
                rfl
               refine pu_ (v:=?_) (a':=?_) 3 30 (bl_ 15 15) rfl rfl HT_.out ?_ ?_ ?_;rotate_left
               ·intro w'
                go_simp;with_reducible rfl
               rotate_left
               ·simp only [Act.put,sa_,sb_,sc_,i64_w,i32_w]
                rfl
               refine pu_ (v:=?_) (a':=?_) 4 31 (bl_ 15 31) rfl rfl HT_.out ?_ ?_ ?_;rotate_left
               ·intro w'
                go_simp;with_reducible rfl
               rotate_left
               ·simp only [Act.put,sa_,sb_,sc_,i64_w,i32_w]
                rfl
               refine pu_ (v:=?_) (a':=?_) 5 32 (bl_ 15 63) rfl rfl HT_.out ?_ ?_ ?_;rotate_left
               ·intro w'
                go_simp;with_reducible rfl
               rotate_left
               ·simp only [Act.put,sa_,sb_,sc_,i64_w,i32_w]
                rfl
               refine pu_ (v:=?_) (a':=?_) 6 33 (bl_ 15 127) rfl rfl HT_.out ?_ ?_ ?_;rotate_left
               ·intro w'
                go_simp;with_reducible rfl
               rotate_left
               ·simp only [Act.put,sa_,sb_,sc_,i64_w,i32_w]
                rfl
               refine pu_ (v:=?_) (a':=?_) 8 35 (bl_ 15 383) rfl rfl HT_.out ?_ ?_ ?_;rotate_left
               ·intro w'
                go_simp;with_reducible rfl
               rotate_left
               ·simp only [Act.put,sa_,sb_,sc_,i64_w,i32_w]
                rfl
               refine pu_ (v:=?_) (a':=?_) 9 36 (bl_ 15 895) rfl rfl HT_.out ?_ ?_ ?_;rotate_left
               ·intro w'
                go_simp;with_reducible rfl
               rotate_left
               ·simp only [Act.put,sa_,sb_,sc_,i64_w,i32_w]
                rfl
               refine pu_ (v:=?_) (a':=?_) 10 37 (bl_ 15 1919) rfl rfl HT_.out ?_ ?_ ?_;rotate_left
               ·intro w'
                go_simp;with_reducible rfl
               rotate_left
               ·simp only [Act.put,sa_,sb_,sc_,i64_w,i32_w]
                rfl
               refine pu_ (v:=?_) (a':=?_) 11 38 (bl_ 15 3967) rfl rfl HT_.out ?_ ?_ ?_;rotate_left
               ·intro w'
                go_simp;with_reducible rfl
               rotate_left
               ·simp only [Act.put,sa_,sb_,sc_,i64_w,i32_w]
                rfl
               refine tk_ (v:=?_) (a':=?_) 7 34 (bl_ 15 4095) rfl rfl HT_.out HW_.out ?_ hHeld ?_ ?_;rotate_left
               ·rintro w' ⟨s0,s1⟩
                go_simp;with_reducible rfl
               rotate_left
               ·simp only [Act.put,sa_,sb_,sc_,i64_w,i32_w]
                rfl
               refine tk_ (v:=?_) (a':=?_) 12 39 (bl_ 15 8191) rfl rfl HT_.out HW_.out ?_ hHeld ?_ ?_;rotate_left
               ·rintro w' ⟨s0,s1⟩
                go_simp;with_reducible rfl
               rotate_left
               ·simp only [Act.put,sa_,sb_,sc_,i64_w,i32_w]
                rfl
               refine pu_ (v:=?_) (a':=?_) 13 40 (bl_ 15 16383) rfl rfl HT_.out ?_ ?_ ?_;rotate_left
               ·intro w'
                go_simp;with_reducible rfl
               rotate_left
               ·simp only [Act.put,sa_,sb_,sc_,i64_w,i32_w]
                rfl
               refine pu_ (v:=?_) (a':=?_) 14 41 (bl_ 15 32767) rfl rfl HT_.out ?_ ?_ ?_;rotate_left
               ·intro w'
                go_simp;with_reducible rfl
               rotate_left
               ·simp only [Act.put,sa_,sb_,sc_,i64_w,i32_w]
                rfl
               refine done_ (done_of HT_.out (by kernel_rfl)) ?_;try go_wp2
               go_roundg k2
               case measure => have:=HK1.out;have:=HK2.out;omega
               case rel => exact ⟨(x3_2),(x4_2),(wrap64 (x5_1 + 1)),fr_,H',⟨by have:=HK1.out;have:=HK2.out;omega⟩,⟨Kd.R_mv HO_3.out⟩,⟨Kd.R_mv HO_4.out⟩,⟨bel_⟩⟩
             ·rw [if_neg c15] at H
              exact absurd H (by simp)
            ·rw [if_neg c14] at H
             exact absurd H (by simp)
           ·rw [if_neg c12] at H
            exact absurd H (by simp)
          ·rw [if_neg c11] at H
           exact absurd H (by simp)
         ·rw [if_neg c9] at H
          have c9b0 : decide (1 < x6_2) = false:=decide_eq_false c9;clear c9;have H':=Aside0.mk H;clear H;try go_wp2
          replace HO_3:=Aside0.mk (Kd.R_drew HO_3.out);replace HO_4:=Aside0.mk (Kd.R_drew HO_4.out);replace HB:=Aside0.mk (below_drew1 HB.out);refine start_ (n:=15) (S:=fun w' => True) (ds:=[]) (bl_ 15 0) (by kernel_rfl) rfl rfl trivial (fun hHeld => ?_);refine with_tabW changeforgeref5_LogRoot.tab8 changeforgeref5_LogRoot.bits8 (fun HT_ HW_ => ?_);generalize wr.drew = w36 at HO_3 HO_4 HB hHeld ⊢;refine pu_ (v:=?_) (a':=?_) 0 27 (bl_ 15 1) rfl rfl HT_.out ?_ ?_ ?_;rotate_left
          ·intro w'
           go_simp;with_reducible rfl
          rotate_left
          ·simp only [Act.put,sa_,sb_,sc_,i64_w,i32_w]
           rfl
          refine pu_ (v:=?_) (a':=?_) 1 28 (bl_ 15 3) rfl rfl HT_.out ?_ ?_ ?_;rotate_left
          ·intro w'
           go_simp;with_reducible rfl
          rotate_left
          ·simp only [Act.put,sa_,sb_,sc_,i64_w,i32_w]
           rfl
          refine pu_ (v:=?_) (a':=?_) 2 29 (bl_ 15 7) rfl rfl HT_.out ?_ ?_ ?_;rotate_left
          ·intro w'
           go_simp;with_reducible rfl
          rotate_left
          ·simp only [Act.put,sa_,sb_,sc_,i64_w,i32_w]
           rfl
          refine pun_ (a':=?_) 3 30 (bl_ 15 15) rfl rfl HT_.out ?_ ?_;rotate_left
          ·simp only [Act.put,sa_,sb_,sc_,i64_w,i32_w]
           rfl
          refine pun_ (a':=?_) 4 31 (bl_ 15 31) rfl rfl HT_.out ?_ ?_;rotate_left
          ·simp only [Act.put,sa_,sb_,sc_,i64_w,i32_w]
           rfl
          refine pun_ (a':=?_) 5 32 (bl_ 15 63) rfl rfl HT_.out ?_ ?_;rotate_left
          ·simp only [Act.put,sa_,sb_,sc_,i64_w,i32_w]
           rfl
          refine pun_ (a':=?_) 6 33 (bl_ 15 127) rfl rfl HT_.out ?_ ?_;rotate_left
          ·simp only [Act.put,sa_,sb_,sc_,i64_w,i32_w]
           rfl
          refine pun_ (a':=?_) 7 34 (bl_ 15 255) rfl rfl HT_.out ?_ ?_;rotate_left
          ·simp only [Act.put,sa_,sb_,sc_,i64_w,i32_w]
           rfl
          refine pun_ (a':=?_) 8 35 (bl_ 15 511) rfl rfl HT_.out ?_ ?_;rotate_left
          ·simp only [Act.put,sa_,sb_,sc_,i64_w,i32_w]
           rfl
          refine pun_ (a':=?_) 9 36 (bl_ 15 1023) rfl rfl HT_.out ?_ ?_;rotate_left
          ·simp only [Act.put,sa_,sb_,sc_,i64_w,i32_w]
           rfl
          refine pun_ (a':=?_) 10 37 (bl_ 15 2047) rfl rfl HT_.out ?_ ?_;rotate_left
          ·simp only [Act.put,sa_,sb_,sc_,i64_w,i32_w]
           rfl
          refine pun_ (a':=?_) 11 38 (bl_ 15 4095) rfl rfl HT_.out ?_ ?_;rotate_left
          ·simp only [Act.put,sa_,sb_,sc_,i64_w,i32_w]
           rfl
          refine pun_ (a':=?_) 12 39 (bl_ 15 8191) rfl rfl HT_.out ?_ ?_;rotate_left
          ·simp only [Act.put,sa_,sb_,sc_,i64_w,i32_w]
           rfl
          refine pun_ (a':=?_) 13 40 (bl_ 15 16383) rfl rfl HT_.out ?_ ?_;rotate_left
          ·simp only [Act.put,sa_,sb_,sc_,i64_w,i32_w]
           rfl
          refine pu_ (v:=?_) (a':=?_) 14 41 (bl_ 15 32767) rfl rfl HT_.out ?_ ?_ ?_;rotate_left
          ·intro w'
           go_simp;with_reducible rfl
          rotate_left
          ·simp only [Act.put,sa_,sb_,sc_,i64_w,i32_w]
           rfl
          refine done_ (done_of HT_.out (by kernel_rfl)) ?_;try go_wp2
          go_roundg k2
          case measure => have:=HK1.out;have:=HK2.out;omega
          case rel => exact ⟨(x3_2),(x4_2),(wrap64 (x5_1 + 1)),fr_,H',⟨by have:=HK1.out;have:=HK2.out;omega⟩,⟨Kd.R_mv HO_3.out⟩,⟨Kd.R_mv HO_4.out⟩,⟨bel_⟩⟩
      ·rw [if_neg c5] at H
       exact absurd H (by simp)
     ·rw [if_neg c4] at H
      exact absurd H (by simp)
    ·rw [if_neg c3] at H
     exact absurd H (by simp)
   ·rw [if_neg c2] at H
    have c2b0 : decide (x5_1 < (l0.length : Int)) = false:=decide_eq_false c2;clear c2;by_cases c37 : (x3_1.length : Int) = 0
    ·rw [if_pos c37] at H
     have c37b0 : ((x3_1.length : Int) == 0) = true:=beq_iff_eq.mpr c37;have c37b1 : ((x3_1.length : Int) != 0) = false:=bne_eq_false_iff_eq.mpr c37;clear c37;obtain rfl:=Option.some.inj H;obtain ⟨Ao38,co38,eo38⟩:=Kd.R_slice HO_3.out;subst eo38;go_wp2;go_ret;exact ⟨by first|rfl|(simp [errW_none,errW_some] <;> rfl)|(simp [*,errW_none,errW_some] <;> rfl),bel_⟩
    ·rw [if_neg c37] at H
     have c37b0 : ((x3_1.length : Int) == 0) = false:=beq_eq_false_iff_ne.mpr c37;have c37b1 : ((x3_1.length : Int) != 0) = true:=bne_iff_ne.mpr c37;have c37b2 : ¬ (x3_1 = []):=fun h_ => c37 (by rw [h_];rfl);obtain ⟨ji39,hji39⟩ : ∃ j_ : Int,(wrap64 ((x3_1.length : Int) - 1)) = j_:=⟨_,rfl⟩;replace H : (if 0 ≤ (ji39) then (if (ji39) < (x3_1.length : Int) then (changeforgeref5_LogRoot.l2 k1 x3_1 (rd x3_1 (ji39)) (wrap64 ((x3_1.length : Int) - 2))) else (none)) else (none)) = some r:=by first|(rw [hji39] at H;exact H)|(simp only [hji39] at H ⊢;exact H)
     have hji39w : (IntKind.i64.wrap ((x3_1.length : Int) - 1)) = ji39:=(i64_w _).trans hji39;by_cases c40 : 0 ≤ (ji39)
     ·rw [if_pos c40] at H
      have c40b0 : decide (0 ≤ (ji39)) = true:=decide_eq_true c40;clear c40;by_cases c41 : (ji39) < (x3_1.length : Int)
      ·rw [if_pos c41] at H
       have c41b0 : decide ((ji39) < (x3_1.length : Int)) = true:=decide_eq_true c41;clear c41;have H':=Aside0.mk H;clear H;obtain ⟨Ao42,co42,eo42⟩:=Kd.R_slice HO_3.out;subst eo42;have p122 : 0 ≤ ((ji39) : Int):=of_decide_eq_true as_;have q122 : (ji39) < (x3_1.length : Int):=of_decide_eq_true as_;obtain ⟨ad122,e122,hx122_0⟩:=Kd.at_int (Kd.R_reads' HO_3.out).2.2 (ji39) p122 q122;cases e122
       replace p122:=eq_true p122;replace q122:=eq_true q122;go_wp2;go_loopg [7,8] k1 (fun kq v7 v8 w' => ∃ (x7_2 : Int) (x8_2 : Int),v7 = .int .i64 x7_2 ∧ v8 = .int .i64 x8_2 ∧ Aside0 (changeforgeref5_LogRoot.l2 kq x3_1 x7_2 x8_2 = some r) ∧ Aside0 (kq ≤ k1) ∧ Aside0 (Kd.R (Kd.int .i64) 3 w' w.heap.size (fun _ => True) (.slice (some ad122) x3_1.length co42) x3_1) ∧ Aside0 (Below w.heap.size w w'))
       case atStart => exact ⟨(rd x3_1 (ji39)),(wrap64 ((x3_1.length : Int) - 2)),(by first|rfl|(simp;done)|(simp only [← hji39] <;> (first|rfl|simp))|(simp [*];done)),fr_,H',⟨Nat.le_refl _⟩,⟨by (with_reducible repeat (first|apply Kd.R_alloc|apply Kd.R_drewN|apply Kd.R_drew));exact Kd.R_mono HO_3.out (fun _ hk => trivial)⟩,⟨bel_⟩⟩
       case round =>
        clear H';(try clear c1);(try clear p1);(try clear q1);(try clear hx1);(try clear hf1);(try clear c2);(try clear c2b0);(try clear p2);(try clear q2);(try clear hx2);(try clear hf2);(try clear c3);(try clear q3);(try clear c4);(try clear c5);(try clear p6);(try clear c9);(try clear c9b0);(try clear p10);(try clear q10);(try clear hx10);(try clear c11);(try clear p11);(try clear q11);(try clear hx11);(try clear c12);(try clear p12);(try clear q12);(try clear hx12);(try clear c14);(try clear c15);(try clear c16);(try clear c16b0);(try clear c16b1);(try clear p17);(try clear q17);(try clear hx17);(try clear hf17);(try clear c18);(try clear c19);(try clear p21);(try clear q21);(try clear hx21);(try clear hf21);(try clear c22);(try clear c23);(try clear q32);(try clear c33);(try clear q33);(try clear c37);(try clear c37b0);(try clear c37b1);(try clear c37b2);(try clear c40);(try clear c40b0);(try clear c41);(try clear c41b0);(try clear hx108_0);(try clear hx109_0);(try clear hx110_0);(try clear hx112_0);(try clear hx113_0);(try clear hx122_0);(try clear hx17_0);(try clear hx21_0);(try clear p108);(try clear p109);(try clear p110);(try clear p112);(try clear p113);(try clear p122);(try clear p17);(try clear p21);(try clear q108);(try clear q109);(try clear q110);(try clear q112);(try clear q113);(try clear q122);(try clear q17);(try clear q21);(try clear q32);(try clear q33);obtain ⟨x7_2,x8_2,rfl,rfl,HA,HK2,HO_3,HB⟩:=hrel;cases gk with
        | zero => exact absurd HA.out (by simp [changeforgeref5_LogRoot.l2])
        | succ k2 =>
         have H:=HA.out;clear HA;simp only [changeforgeref5_LogRoot.l2] at H;by_cases c43 : x8_2 ≥ 0
         ·rw [if_pos c43] at H
          have c43b0 : decide (0 ≤ x8_2) = true:=decide_eq_true c43;clear c43;by_cases c44 : 0 ≤ x8_2
          ·rw [if_pos c44] at H
           have c44b0 : decide (0 ≤ x8_2) = true:=decide_eq_true c44;clear c44;by_cases c45 : x8_2 < (x3_1.length : Int)
           ·rw [if_pos c45] at H
            have c45b0 : decide (x8_2 < (x3_1.length : Int)) = true:=decide_eq_true c45;clear c45;replace H:=Option.bind_eq_some_iff.mp H;obtain ⟨t124,A460,H⟩:=H;replace H : (changeforgeref5_LogRoot.l2 k2 x3_1 t124 (wrap64 (x8_2 - 1))) = some r:=H;have A46:=Aside0.mk A460;clear A460;have H':=Aside0.mk H;clear H;have p123 : 0 ≤ (x8_2 : Int):=of_decide_eq_true as_;have q123 : x8_2 < (x3_1.length : Int):=of_decide_eq_true as_;obtain ⟨ad123,e123,hx123_0⟩:=Kd.at_int (Kd.R_reads' HO_3.out).2.2 x8_2 p123 q123;obtain rfl : ad122 = ad123:=(by injection e123);replace p123:=eq_true p123;replace q123:=eq_true q123;go_wp2_with (first|((with_reducible refine gate_callee (f:=33) rfl ?_);refine goesL_ (some 98) rfl rfl Try.func33 (by kernel_rfl) rfl #[.int .i64 (rd x3_1 x8_2),.int .i64 x7_2] rfl ln_ ?_;(with_reducible refine (changeforgeref1_DigestPair.calls k2 (rd x3_1 x8_2) x7_2 t124 _ A46.out).mono ?_);rintro e w' ⟨rfl,⟨nd,rfl⟩⟩;refine ⟨_,rfl,?_⟩));go_roundg k2
            case measure => have:=HK1.out;have:=HK2.out;omega
            case rel => exact ⟨(t124),(wrap64 (x8_2 - 1)),fr_,fr_,H',⟨by have:=HK1.out;have:=HK2.out;omega⟩,⟨Kd.R_mv HO_3.out⟩,⟨bel_⟩⟩
           ·rw [if_neg c45] at H
            exact absurd H (by simp)
          ·rw [if_neg c44] at H
           exact absurd H (by simp)
         ·rw [if_neg c43] at H
          have c43b0 : decide (0 ≤ x8_2) = false:=decide_eq_false c43;clear c43;obtain rfl:=Option.some.inj H;go_wp2;go_ret;exact ⟨by first|rfl|(simp [errW_none,errW_some] <;> rfl)|(simp only [← hji39];first|rfl|(simp [errW_none,errW_some] <;> rfl))|(simp [*,errW_none,errW_some] <;> rfl),bel_⟩
      ·rw [if_neg c41] at H
       exact absurd H (by simp)
     ·rw [if_neg c40] at H
      exact absurd H (by simp)

end Go.Proofs.Ytmcpcdnnnnhogaa.Fn
