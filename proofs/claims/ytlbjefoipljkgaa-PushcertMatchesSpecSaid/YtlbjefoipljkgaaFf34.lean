/- A function of the program as a plain Lean function, and the proof that the call comes to just what it says (written by wip/tools/xprint.py for this claim). Condition: the plain function has an answer. -/
import Derived.Test.YtlbjefoipljkgaaFn0
import Derived.Test.YtlbjefoipljkgaaWA
import Derived.Test.YtlbjefoipljkgaaTight
namespace Go.Proofs.Ytlbjefoipljkgaa.Fn
open Go.RowKit Go.Proofs.YtlbjefoipljkgaaW.PrintWords Go.Proofs.YtlbjefoipljkgaaW.PrintLast Go.Proofs.YtlbjefoipljkgaaW.PrintMore
attribute [local go_sem] max2_int min2_int max_two min_two max_three min_three max_four min_four   -- for this text's walks alone
set_option linter.unusedVariables false
set_option linter.unusedSimpArgs false

/-! ### changeforgeref5_Message: function 34 -/
mutual
def changeforgeref5_Message.l0 : Nat → List Int → List Int → Int → Option (List Int)
 | 0,_,_,_ => none
 | k + 1,x0,x3,x4 => if x4 < (x0.length : Int) then (if 0 ≤ x4 then (changeforgeref5_Message.l1 k x0 x3 x4 (rd x0 x4) ([] : List Int) 0) else (none)) else (some x3)
def changeforgeref5_Message.l1 : Nat → List Int → List Int → Int → Int → List Int → Int → Option (List Int)
 | 0,_,_,_,_,_,_ => none
 | k + 1,x0,x3,x4,x5,x6,x7 => if x7 < 8 then (if x6.length < 140737488355328 then (changeforgeref5_Message.l1 k x0 x3 x4 (wrap64 (Int.tdiv x5 256)) (x6 ++ [(Int.tmod x5 256) % 256]) (wrap64 (x7 + 1))) else (none)) else (changeforgeref5_Message.l2 k x0 x3 x4 x6 7)
def changeforgeref5_Message.l2 : Nat → List Int → List Int → Int → List Int → Int → Option (List Int)
 | 0,_,_,_,_,_ => none
 | k + 1,x0,x3,x4,x6,x8 => if x8 ≥ 0 then (if 0 ≤ x8 then (if x8 < (x6.length : Int) then (if x3.length < 140737488355328 then (changeforgeref5_Message.l2 k x0 (x3 ++ [rd x6 x8]) x4 x6 (wrap64 (x8 - 1))) else (none)) else (none)) else (none)) else (changeforgeref5_Message.l0 k x0 x3 (wrap64 (x4 + 1)))
end
def changeforgeref5_Message.f (k : Nat) (l0 : List Int) : Option (List Int):=changeforgeref5_Message.l0 k l0 ([] : List Int) 0
theorem changeforgeref5_Message.mono_l : ∀ k,(∀ y0 y1 y2,LeO (changeforgeref5_Message.l0 k y0 y1 y2) (changeforgeref5_Message.l0 (k + 1) y0 y1 y2)) ∧ (∀ y0 y1 y2 y3 y4 y5,LeO (changeforgeref5_Message.l1 k y0 y1 y2 y3 y4 y5) (changeforgeref5_Message.l1 (k + 1) y0 y1 y2 y3 y4 y5)) ∧ (∀ y0 y1 y2 y3 y4,LeO (changeforgeref5_Message.l2 k y0 y1 y2 y3 y4) (changeforgeref5_Message.l2 (k + 1) y0 y1 y2 y3 y4))
 | 0 => ⟨fun _ _ _ r h => by simp [changeforgeref5_Message.l0] at h,fun _ _ _ _ _ _ r h => by simp [changeforgeref5_Message.l1] at h,fun _ _ _ _ _ r h => by simp [changeforgeref5_Message.l2] at h⟩
 | k + 1 => by
  obtain ⟨ih0,ih1,ih2⟩:=changeforgeref5_Message.mono_l k;refine ⟨?_,?_,?_⟩
  ·intro y0 y1 y2
   unfold changeforgeref5_Message.l0;repeat' first
   | (with_reducible exact ih0 _ _ _)
   | (with_reducible exact ih1 _ _ _ _ _ _)
   | (with_reducible exact ih2 _ _ _ _ _)
   | (with_reducible exact LeO.refl _)
   | (with_reducible exact LeO.none _)
   | (with_reducible refine LeO.ite ?_ ?_)
   | (with_reducible refine LeO.bind ?_ (fun _ => ?_))
   | exact ih0 _ _ _
   | exact ih1 _ _ _ _ _ _
   | exact ih2 _ _ _ _ _
   | exact LeO.none _
   | refine LeO.ite ?_ ?_
   | refine LeO.bind ?_ (fun _ => ?_)
  ·intro y0 y1 y2 y3 y4 y5
   unfold changeforgeref5_Message.l1;repeat' first
   | (with_reducible exact ih0 _ _ _)
   | (with_reducible exact ih1 _ _ _ _ _ _)
   | (with_reducible exact ih2 _ _ _ _ _)
   | (with_reducible exact LeO.refl _)
   | (with_reducible exact LeO.none _)
   | (with_reducible refine LeO.ite ?_ ?_)
   | (with_reducible refine LeO.bind ?_ (fun _ => ?_))
   | exact ih0 _ _ _
   | exact ih1 _ _ _ _ _ _
   | exact ih2 _ _ _ _ _
   | exact LeO.none _
   | refine LeO.ite ?_ ?_
   | refine LeO.bind ?_ (fun _ => ?_)
  ·intro y0 y1 y2 y3 y4
   unfold changeforgeref5_Message.l2;repeat' first
   | (with_reducible exact ih0 _ _ _)
   | (with_reducible exact ih1 _ _ _ _ _ _)
   | (with_reducible exact ih2 _ _ _ _ _)
   | (with_reducible exact LeO.refl _)
   | (with_reducible exact LeO.none _)
   | (with_reducible refine LeO.ite ?_ ?_)
   | (with_reducible refine LeO.bind ?_ (fun _ => ?_))
   | exact ih0 _ _ _
   | exact ih1 _ _ _ _ _ _
   | exact ih2 _ _ _ _ _
   | exact LeO.none _
   | refine LeO.ite ?_ ?_
   | refine LeO.bind ?_ (fun _ => ?_)
theorem changeforgeref5_Message.mono : ∀ a0 k,LeO (changeforgeref5_Message.f k a0) (changeforgeref5_Message.f (k + 1) a0):=by
 intro a0 k;obtain ⟨ih0,ih1,ih2⟩:=changeforgeref5_Message.mono_l k;unfold changeforgeref5_Message.f
 repeat' first
   | (with_reducible exact ih0 _ _ _)
   | (with_reducible exact ih1 _ _ _ _ _ _)
   | (with_reducible exact ih2 _ _ _ _ _)
   | (with_reducible exact LeO.refl _)
   | (with_reducible exact LeO.none _)
   | (with_reducible refine LeO.ite ?_ ?_)
   | (with_reducible refine LeO.bind ?_ (fun _ => ?_))
   | exact ih0 _ _ _
   | exact ih1 _ _ _ _ _ _
   | exact ih2 _ _ _ _ _
   | exact LeO.none _
   | refine LeO.ite ?_ ?_
   | refine LeO.bind ?_ (fun _ => ?_)
set_option maxHeartbeats 8000000 in
set_option maxRecDepth 100000 in
theorem changeforgeref5_Message.calls (k : Nat) (A0 : Option Addr) (c0 : Nat) (l0 : List Int) (r : List Int) (w : World) (hr0 : Kd.C (Kd.int .i64) w A0 l0.length l0) (hc0 : l0.length ≤ c0) (h : changeforgeref5_Message.f k l0 = some r) :
  Calls Try.prog 34 #[.slice A0 l0.length c0] w fun e w' => ∃ v0_ : Value,e = .returned (v0_) ∧ Kd.R (Kd.int .u8) 5 w' w.heap.size (fun _ => True) v0_ r ∧ Below w.heap.size w w':=by
 have HR0:=Aside0.mk hr0;have HC0:=Aside0.mk hc0;clear hr0 hc0;have HB:=Aside0.mk (Below.refl w.heap.size w);have H : (changeforgeref5_Message.l0 k l0 ([] : List Int) 0) = some r:=h;clear h;have H':=Aside0.mk H;clear H;go_enter Try.func34,Try.ntmps34;go_wp2;go_loopg [3,4] k (fun kq v3 v4 w' => ∃ (x3_1 : List Int) (x4_1 : Int),v4 = .int .i64 x4_1 ∧ Aside0 (changeforgeref5_Message.l0 kq l0 x3_1 x4_1 = some r) ∧ Aside0 (kq ≤ k) ∧ Aside0 (Kd.R (Kd.int .u8) 5 w' w.heap.size (fun _ => True) v3 x3_1) ∧ Aside0 (Below w.heap.size w w'))
 case atStart => exact ⟨(([] : List Int)),(0),fr_,H',⟨Nat.le_refl _⟩,⟨by first|exact Kd.R_nil _ _ _ _ _|exact Kd.N_nil _ _ _ _ _|exact Kd.V_nil _ _ _ _ _|exact Kd.Q_nil _ _ _ _ _|exact Kd.S_nil _ _ _ _ _⟩,⟨bel_⟩⟩
 case round =>
  clear H';obtain ⟨x3_1,x4_1,rfl,HA,HK1,HO_3,HB⟩:=hrel;cases gk with
  | zero => exact absurd HA.out (by simp [changeforgeref5_Message.l0])
  | succ k1 =>
   have H:=HA.out;clear HA;simp only [changeforgeref5_Message.l0] at H;by_cases c2 : x4_1 < (l0.length : Int)
   ·rw [if_pos c2] at H
    have c2b0 : decide (x4_1 < (l0.length : Int)) = true:=decide_eq_true c2;clear c2;by_cases c3 : 0 ≤ x4_1
    ·rw [if_pos c3] at H
     have c3b0 : decide (0 ≤ x4_1) = true:=decide_eq_true c3;clear c3;have H':=Aside0.mk H;clear H;have p101 : 0 ≤ (x4_1 : Int):=of_decide_eq_true as_;have q101 : x4_1 < (l0.length : Int):=of_decide_eq_true as_;obtain ⟨ad101,e101,hx101_0⟩:=Kd.at_int HR0.out x4_1 p101 q101;cases e101
     replace hx101_0:=(HB.out.cell (World.block_lt_of_cell? w _ hx101_0)).trans hx101_0;replace p101:=eq_true p101;replace q101:=eq_true q101;go_wp2;go_loopg [5,6,7] k1 (fun kq v5 v6 v7 w' => ∃ (x5_2 : Int) (x6_2 : List Int) (x7_2 : Int),v5 = .int .i64 x5_2 ∧ v7 = .int .i64 x7_2 ∧ Aside0 (changeforgeref5_Message.l1 kq l0 x3_1 x4_1 x5_2 x6_2 x7_2 = some r) ∧ Aside0 (kq ≤ k1) ∧ Aside0 (Kd.R (Kd.int .u8) 5 w' w.heap.size (fun k_ => some k_ ≠ (v6 : Value).ownBlock) u3 x3_1) ∧ Aside0 (Kd.R (Kd.int .u8) 5 w' w.heap.size (fun k_ => some k_ ≠ (u3 : Value).ownBlock) v6 x6_2) ∧ Aside0 (Below w.heap.size w w'))
     case atStart => exact ⟨(rd l0 x4_1),(([] : List Int)),(0),fr_,fr_,H',⟨Nat.le_refl _⟩,⟨by (with_reducible repeat (first|apply Kd.R_alloc|apply Kd.R_drewN|apply Kd.R_drew));exact Kd.R_mono HO_3.out (fun _ hk => (by simp [Value.ownBlock]))⟩,⟨by first|exact Kd.R_nil _ _ _ _ _|exact Kd.N_nil _ _ _ _ _|exact Kd.V_nil _ _ _ _ _|exact Kd.Q_nil _ _ _ _ _|exact Kd.S_nil _ _ _ _ _⟩,⟨bel_⟩⟩
     case round =>
      clear H';(try clear p1);(try clear q1);(try clear hx1);(try clear c2);(try clear c2b0);(try clear p2);(try clear c3);(try clear c3b0);(try clear hx101_0);(try clear p101);(try clear q101);obtain ⟨x5_2,x6_2,x7_2,rfl,rfl,HA,HK2,HO_3,HO_6,HB⟩:=hrel;cases gk with
      | zero => exact absurd HA.out (by simp [changeforgeref5_Message.l1])
      | succ k2 =>
       have H:=HA.out;clear HA;simp only [changeforgeref5_Message.l1] at H;by_cases c4 : x7_2 < 8
       ·rw [if_pos c4] at H
        have c4b0 : decide (x7_2 < 8) = true:=decide_eq_true c4;clear c4;by_cases c5 : x6_2.length < 140737488355328
        ·rw [if_pos c5] at H
         have LMc5:=Aside0.mk c5;clear c5;obtain ⟨y102,hy102⟩ : ∃ y_ : List Int,y_ = (x6_2 ++ [(Int.tmod x5_2 256) % 256]):=⟨_,rfl⟩;replace H : (changeforgeref5_Message.l1 k2 l0 x3_1 x4_1 (wrap64 (Int.tdiv x5_2 256)) y102 (wrap64 (x7_2 + 1))) = some r:=by first|(rw [hy102];with_reducible exact H)|(have H2_:=(Option.bind_some _ _).symm.trans H;rw [hy102];with_reducible exact H2_)|(have H2_:=(Option.bind_some _ _).symm.trans H;with_reducible exact H2_)|with_reducible exact H|(rw [hy102];exact H)|exact H
         have Ny102:=Aside0.mk hy102;clear hy102;have H':=Aside0.mk H;clear H;go_wp2_with (first|((with_reducible refine gate_builtin (b:=.append) (xs:=#[.tmp 23,.tmp 27]) rfl ?_);at_builtin;refine Kd.R_append (Kd.int .u8) (w0:=w) w.heap.size rfl (.tmp 23) (.tmp 27) 51 5 (.int .u8 0) 1 rfl Try.underlying51 info5 rfl (by decide) (by omega) u6 x6_2 ((Int.tmod x5_2 256) % 256) [.int .u8 ((Int.tmod x5_2 256) % 256)] (fun k_ => some k_ ≠ (u3 : Value).ownBlock) (fun _ => False) rfl rfl ?aP (fun _ hk => hk.elim) ?aF ?aO ?aB ?aS ?aL ?_;(case aP => exact rfl);(case aB => exact bel_);(case aF => exact (fun k_ hk => Kd.fresh' (Kd.R_lt (Kd.R_mv HO_3.out)) k_ hk));(case aO => exact (Kd.R_mv HO_6.out));(case aS => exact (below_size bel_));(case aL => have:=LMc5.out;omega);intro v103 w6 ho hb hg hat;rw [← Ny102.out] at ho;replace HO_3:=Aside0.mk (Kd.R_after (ok:=(fun _ => True)) (by (with_reducible repeat (first|apply Kd.R_alloc|apply Kd.R_drewN|apply Kd.R_drew));exact Kd.R_mono HO_3.out (fun _ hk => ⟨trivial,hk⟩)) hg hat);replace HB:=Aside0.mk (hb);have HO104:=Aside0.mk (ho);clear HO_6;clear ho hb hg hat));go_roundg k2
         case measure => have:=HK1.out;have:=HK2.out;omega
         case rel => exact ⟨(wrap64 (Int.tdiv x5_2 256)),(y102),(wrap64 (x7_2 + 1)),fr_,fr_,H',⟨by have:=HK1.out;have:=HK2.out;omega⟩,⟨by (with_reducible repeat (first|apply Kd.R_alloc|apply Kd.R_drewN|apply Kd.R_drew));exact Kd.R_mono HO_3.out (fun _ hk => hk.2)⟩,⟨Kd.R_mv HO104.out⟩,⟨bel_⟩⟩
        ·rw [if_neg c5] at H
         exact absurd H (by simp)
       ·rw [if_neg c4] at H
        have c4b0 : decide (x7_2 < 8) = false:=decide_eq_false c4;clear c4;have H':=Aside0.mk H;clear H;go_wp2;go_loopg [3,8] k2 (fun kq v3 v8 w' => ∃ (x3_3 : List Int) (x8_3 : Int),v8 = .int .i64 x8_3 ∧ Aside0 (changeforgeref5_Message.l2 kq l0 x3_3 x4_1 x6_2 x8_3 = some r) ∧ Aside0 (kq ≤ k2) ∧ Aside0 (Kd.R (Kd.int .u8) 5 w' w.heap.size (fun k_ => some k_ ≠ (u6 : Value).ownBlock) v3 x3_3) ∧ Aside0 (Kd.R (Kd.int .u8) 5 w' w.heap.size (fun k_ => some k_ ≠ (v3 : Value).ownBlock) u6 x6_2) ∧ Aside0 (Below w.heap.size w w'))
        case atStart => exact ⟨(x3_1),(7),fr_,H',⟨Nat.le_refl _⟩,⟨Kd.R_mv HO_3.out⟩,⟨Kd.R_mv HO_6.out⟩,⟨bel_⟩⟩
        case round =>
         clear H';(try clear p1);(try clear q1);(try clear hx1);(try clear c2);(try clear c2b0);(try clear p2);(try clear c3);(try clear c3b0);(try clear c4);(try clear c4b0);(try clear c5);(try clear p6);(try clear hx101_0);(try clear p1);(try clear p101);(try clear p2);(try clear q1);(try clear q101);obtain ⟨x3_3,x8_3,rfl,HA,HK3,HO_3,HO_6,HB⟩:=hrel;cases gk with
         | zero => exact absurd HA.out (by simp [changeforgeref5_Message.l2])
         | succ k3 =>
          have H:=HA.out;clear HA;simp only [changeforgeref5_Message.l2] at H;by_cases c7 : x8_3 ≥ 0
          ·rw [if_pos c7] at H
           have c7b0 : decide (0 ≤ x8_3) = true:=decide_eq_true c7;clear c7;by_cases c8 : 0 ≤ x8_3
           ·rw [if_pos c8] at H
            have c8b0 : decide (0 ≤ x8_3) = true:=decide_eq_true c8;clear c8;by_cases c9 : x8_3 < (x6_2.length : Int)
            ·rw [if_pos c9] at H
             have c9b0 : decide (x8_3 < (x6_2.length : Int)) = true:=decide_eq_true c9;clear c9;by_cases c10 : x3_3.length < 140737488355328
             ·rw [if_pos c10] at H
              have LMc10:=Aside0.mk c10;clear c10;obtain ⟨y106,hy106⟩ : ∃ y_ : List Int,y_ = (x3_3 ++ [rd x6_2 x8_3]):=⟨_,rfl⟩;replace H : (changeforgeref5_Message.l2 k3 l0 y106 x4_1 x6_2 (wrap64 (x8_3 - 1))) = some r:=by first|(rw [hy106];with_reducible exact H)|(have H2_:=(Option.bind_some _ _).symm.trans H;rw [hy106];with_reducible exact H2_)|(have H2_:=(Option.bind_some _ _).symm.trans H;with_reducible exact H2_)|with_reducible exact H|(rw [hy106];exact H)|exact H
              have Ny106:=Aside0.mk hy106;clear hy106;have H':=Aside0.mk H;clear H;obtain ⟨Ao11,co11,eo11⟩:=Kd.R_slice HO_6.out;subst eo11;have p105 : 0 ≤ (x8_3 : Int):=of_decide_eq_true as_;have q105 : x8_3 < (x6_2.length : Int):=of_decide_eq_true as_;obtain ⟨ad105,e105,hx105_0⟩:=Kd.at_int (Kd.R_reads' HO_6.out).2.2 x8_3 p105 q105;cases e105
              replace p105:=eq_true p105;replace q105:=eq_true q105;go_wp2_with (first|((with_reducible refine gate_builtin (b:=.append) (xs:=#[.tmp 35,.tmp 40]) rfl ?_);at_builtin;refine Kd.R_append (Kd.int .u8) (w0:=w) w.heap.size rfl (.tmp 35) (.tmp 40) 51 5 (.int .u8 0) 1 rfl Try.underlying51 info5 rfl (by decide) (by omega) u3 x3_3 (rd x6_2 x8_3) [.int .u8 (rd x6_2 x8_3)] (fun k_ => some k_ ≠ (.slice (some ad105) x6_2.length co11 : Value).ownBlock) (fun _ => False) rfl rfl ?aP (fun _ hk => hk.elim) ?aF ?aO ?aB ?aS ?aL ?_;(case aP => exact rfl);(case aB => exact bel_);(case aF => exact (fun k_ hk => Kd.fresh' (Kd.R_lt (Kd.R_mv HO_6.out)) k_ hk));(case aO => exact (Kd.R_mv HO_3.out));(case aS => exact (below_size bel_));(case aL => have:=LMc10.out;omega);intro v107 w12 ho hb hg hat;rw [← Ny106.out] at ho;replace HO_6:=Aside0.mk (Kd.R_after (ok:=(fun _ => True)) (by (with_reducible repeat (first|apply Kd.R_alloc|apply Kd.R_drewN|apply Kd.R_drew));exact Kd.R_mono HO_6.out (fun _ hk => ⟨trivial,hk⟩)) hg hat);replace HB:=Aside0.mk (hb);have HO108:=Aside0.mk (ho);clear HO_3;clear ho hb hg hat));go_roundg k3
              case measure => have:=HK1.out;have:=HK2.out;have:=HK3.out;omega
              case rel => exact ⟨(y106),(wrap64 (x8_3 - 1)),fr_,H',⟨by have:=HK1.out;have:=HK2.out;have:=HK3.out;omega⟩,⟨Kd.R_mv HO108.out⟩,⟨by (with_reducible repeat (first|apply Kd.R_alloc|apply Kd.R_drewN|apply Kd.R_drew));exact Kd.R_mono HO_6.out (fun _ hk => hk.2)⟩,⟨bel_⟩⟩
             ·rw [if_neg c10] at H
              exact absurd H (by simp)
            ·rw [if_neg c9] at H
             exact absurd H (by simp)
           ·rw [if_neg c8] at H
            exact absurd H (by simp)
          ·rw [if_neg c7] at H
           have c7b0 : decide (0 ≤ x8_3) = false:=decide_eq_false c7;clear c7;have H':=Aside0.mk H;clear H;go_wp2;go_roundg k3
           case measure => have:=HK1.out;have:=HK2.out;have:=HK3.out;omega
           case rel => exact ⟨(x3_3),(wrap64 (x4_1 + 1)),fr_,H',⟨by have:=HK1.out;have:=HK2.out;have:=HK3.out;omega⟩,⟨by (with_reducible repeat (first|apply Kd.R_alloc|apply Kd.R_drewN|apply Kd.R_drew));exact Kd.R_mono HO_3.out (fun _ hk => trivial)⟩,⟨bel_⟩⟩
    ·rw [if_neg c3] at H
     exact absurd H (by simp)
   ·rw [if_neg c2] at H
    have c2b0 : decide (x4_1 < (l0.length : Int)) = false:=decide_eq_false c2;clear c2;obtain rfl:=Option.some.inj H;go_wp2;go_ret;exact ⟨_,by first|rfl|(simp [errW_none,errW_some] <;> rfl)|(simp [*,errW_none,errW_some] <;> rfl),Kd.R_mv HO_3.out,bel_⟩

end Go.Proofs.Ytlbjefoipljkgaa.Fn
