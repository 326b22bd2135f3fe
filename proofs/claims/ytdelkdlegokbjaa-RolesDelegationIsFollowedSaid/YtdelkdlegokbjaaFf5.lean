/- A function of the program as a plain Lean function, and the proof that the call comes to just what it says (written by wip/tools/xprint.py for this claim). Condition: the plain function has an answer. -/
import Derived.Test.YtdelkdlegokbjaaFn0
import Derived.Test.YtdelkdlegokbjaaFf13
import Derived.Test.YtdelkdlegokbjaaFf8
import Derived.Test.YtdelkdlegokbjaaFs0
import Derived.Test.YtdelkdlegokbjaaWA
import Derived.Test.YtdelkdlegokbjaaTight
namespace Go.Proofs.Ytdelkdlegokbjaa.Fn
open Go.RowKit Go.Proofs.YtdelkdlegokbjaaW.PrintWords Go.Proofs.YtdelkdlegokbjaaW.PrintLast Go.Proofs.YtdelkdlegokbjaaW.PrintMore
attribute [local go_sem] max2_int min2_int max_two min_two max_three min_three max_four min_four   -- for this text's walks alone
set_option linter.unusedVariables false
set_option linter.unusedSimpArgs false

/-! ### changeforgelaw5_RolesDelegationIsFollowed: function 5 -/
mutual
def changeforgelaw5_RolesDelegationIsFollowed.j0 : Nat → List (S40) → ByteArray → Int → Bool → Option (Bool)
 | 0,_,_,_,_ => none
 | k + 1,x0,x1,x5,x20 => if x20 = true then ((changeforgelaw5_delegates.f).bind fun t106 => (if t106 = true then (some (x5 == 0)) else (none))) else ((changeforgelaw5_in.f x5 0 (wrap64 ((x0.length : Int) - 1))).bind fun t107 => (if t107 = true then (changeforgelaw5_RolesDelegationIsFollowed.l0 k x0 x1 x5 (wrap64 (x5 + 1))) else (none)))
def changeforgelaw5_RolesDelegationIsFollowed.l0 : Nat → List (S40) → ByteArray → Int → Int → Option (Bool)
 | 0,_,_,_,_ => none
 | k + 1,x0,x1,x5,x7 => if x7 < (x0.length : Int) then (if 0 ≤ x7 then (if ((rd_T40 x0 x7).f0) = x5 then ((changeforgeref5_Starts.f x1 ((rd_T40 x0 x7).f1)).bind fun t110 => (if t110 = true then (none) else (changeforgelaw5_RolesDelegationIsFollowed.l0 k x0 x1 x5 (wrap64 (x7 + 1))))) else (changeforgelaw5_RolesDelegationIsFollowed.l0 k x0 x1 x5 (wrap64 (x7 + 1)))) else (none)) else (some true)
end
def changeforgelaw5_RolesDelegationIsFollowed.f (k : Nat) (l0 : List (S40)) (a1 : ByteArray) : Option (Bool):=(roles_Of.f k l0 a1).bind fun bt101 => ((changeforgelaw5_delegates.f).bind fun t105 => (if t105 = true then (changeforgelaw5_RolesDelegationIsFollowed.j0 k l0 a1 bt101.1 (bt101.2.1 != 0)) else (changeforgelaw5_RolesDelegationIsFollowed.j0 k l0 a1 bt101.1 true)))
theorem changeforgelaw5_RolesDelegationIsFollowed.mono_l : ∀ k,(∀ y0 y1 y2 y3,LeO (changeforgelaw5_RolesDelegationIsFollowed.j0 k y0 y1 y2 y3) (changeforgelaw5_RolesDelegationIsFollowed.j0 (k + 1) y0 y1 y2 y3)) ∧ (∀ y0 y1 y2 y3,LeO (changeforgelaw5_RolesDelegationIsFollowed.l0 k y0 y1 y2 y3) (changeforgelaw5_RolesDelegationIsFollowed.l0 (k + 1) y0 y1 y2 y3))
 | 0 => ⟨fun _ _ _ _ r h => by simp [changeforgelaw5_RolesDelegationIsFollowed.j0] at h,fun _ _ _ _ r h => by simp [changeforgelaw5_RolesDelegationIsFollowed.l0] at h⟩
 | k + 1 => by
  obtain ⟨ih0,ih1⟩:=changeforgelaw5_RolesDelegationIsFollowed.mono_l k;refine ⟨?_,?_⟩
  ·intro y0 y1 y2 y3
   unfold changeforgelaw5_RolesDelegationIsFollowed.j0;repeat' first
   | (with_reducible exact ih0 _ _ _ _)
   | (with_reducible exact ih1 _ _ _ _)
   | (with_reducible exact roles_Of.mono _ _ _)
   | (with_reducible exact LeO.refl _)
   | (with_reducible exact LeO.none _)
   | (with_reducible refine LeO.ite ?_ ?_)
   | (with_reducible refine LeO.bind ?_ (fun _ => ?_))
   | exact ih0 _ _ _ _
   | exact ih1 _ _ _ _
   | exact roles_Of.mono _ _ _
   | exact LeO.none _
   | refine LeO.ite ?_ ?_
   | refine LeO.bind ?_ (fun _ => ?_)
  ·intro y0 y1 y2 y3
   unfold changeforgelaw5_RolesDelegationIsFollowed.l0;repeat' first
   | (with_reducible exact ih0 _ _ _ _)
   | (with_reducible exact ih1 _ _ _ _)
   | (with_reducible exact roles_Of.mono _ _ _)
   | (with_reducible exact LeO.refl _)
   | (with_reducible exact LeO.none _)
   | (with_reducible refine LeO.ite ?_ ?_)
   | (with_reducible refine LeO.bind ?_ (fun _ => ?_))
   | exact ih0 _ _ _ _
   | exact ih1 _ _ _ _
   | exact roles_Of.mono _ _ _
   | exact LeO.none _
   | refine LeO.ite ?_ ?_
   | refine LeO.bind ?_ (fun _ => ?_)
theorem changeforgelaw5_RolesDelegationIsFollowed.mono : ∀ a0 a1 k,LeO (changeforgelaw5_RolesDelegationIsFollowed.f k a0 a1) (changeforgelaw5_RolesDelegationIsFollowed.f (k + 1) a0 a1):=by
 intro a0 a1 k;obtain ⟨ih0,ih1⟩:=changeforgelaw5_RolesDelegationIsFollowed.mono_l k;unfold changeforgelaw5_RolesDelegationIsFollowed.f
 repeat' first
   | (with_reducible exact ih0 _ _ _ _)
   | (with_reducible exact ih1 _ _ _ _)
   | (with_reducible exact roles_Of.mono _ _ _)
   | (with_reducible exact LeO.refl _)
   | (with_reducible exact LeO.none _)
   | (with_reducible refine LeO.ite ?_ ?_)
   | (with_reducible refine LeO.bind ?_ (fun _ => ?_))
   | exact ih0 _ _ _ _
   | exact ih1 _ _ _ _
   | exact roles_Of.mono _ _ _
   | exact LeO.none _
   | refine LeO.ite ?_ ?_
   | refine LeO.bind ?_ (fun _ => ?_)
set_option maxHeartbeats 8000000 in
set_option maxRecDepth 100000 in
theorem changeforgelaw5_RolesDelegationIsFollowed.calls (k : Nat) (A0 : Option Addr) (c0 : Nat) (l0 : List (S40)) (a1 : ByteArray) (r : Bool) (w : World) (hr0 : Kd.C k40 w A0 l0.length l0) (hc0 : l0.length ≤ c0) (h : changeforgelaw5_RolesDelegationIsFollowed.f k l0 a1 = some r) :
  Calls Try.prog 5 #[.slice A0 l0.length c0,.string a1] w fun e w' => e = .returned (.bool r) ∧ Below w.heap.size w w':=by
 have hu27:=Try.underlying27;have HR0:=Aside0.mk hr0;have HC0:=Aside0.mk hc0;clear hr0 hc0;have HB:=Aside0.mk (Below.refl w.heap.size w);have H : ((roles_Of.f k l0 a1).bind fun bt101 => ((changeforgelaw5_delegates.f).bind fun t105 => (if t105 = true then (changeforgelaw5_RolesDelegationIsFollowed.j0 k l0 a1 bt101.1 (bt101.2.1 != 0)) else (changeforgelaw5_RolesDelegationIsFollowed.j0 k l0 a1 bt101.1 true)))) = some r:=h;clear h;replace H:=Option.bind_eq_some_iff.mp H;obtain ⟨⟨t101,t102,t103⟩,A30,H⟩:=H;replace H : ((changeforgelaw5_delegates.f).bind fun t105 => (if t105 = true then (changeforgelaw5_RolesDelegationIsFollowed.j0 k l0 a1 t101 (t102 != 0)) else (changeforgelaw5_RolesDelegationIsFollowed.j0 k l0 a1 t101 true))) = some r:=H;have A3:=Aside0.mk A30;clear A30;have HC4:=Aside0.mk H;clear H;go_enter Try.func5,Try.ntmps5;go_upto_region 2 with (first|((with_reducible refine gate_callee (f:=13) rfl ?_);refine goesL_ (some 11) rfl rfl Try.func13 (by kernel_rfl) rfl #[.slice A0 l0.length c0,.string a1] rfl ln_ ?_;(with_reducible refine (roles_Of.calls k _ _ l0 a1 t101 t102 t103 _ ?side1 ?side2 A3.out).mono ?_);(case side1 => first|exact HR0.out|exact Kd.C_mv HR0.out);(case side2 => exact HC0.out);rintro e w5 ⟨rfl,hb⟩;refine ⟨_,rfl,?_⟩;replace HB:=Aside0.mk (below_step bel_ hb);(try clear hb);(try clear hb2);(try clear hk);(try clear hi))|((with_reducible refine gate_dst (N:=6) rfl ?_);refine box_event ?hg (N:=6) ?hd (cs:=#[.int .i64 0,.int .i64 0]) (t:=27) ?hr ?_;(case hd => rfl);(case hg => rfl);(case hr => first|(go_simp;done)|(go_simp;rfl));intro gb104 hg w6 hbox hb;have BK104:=Aside0.mk (hbox);have GW104:=Aside0.mk ((bs_ : w.heap.size ≤ gb104));have GE104:=Aside0.mk ((bs_ : w.heap.size ≤ gb104));replace HB:=Aside0.mk (below_step bel_ hb);clear hb hbox hg;have hcz7_0:=blk_c (v:=.int .i64 0) BK104.out 0 rfl;have hcz7_1:=blk_c (v:=.int .i64 0) BK104.out 1 rfl;have hfz7_0:=blk_frozen BK104.out 0;have hfz7_1:=blk_frozen BK104.out 1));(try simp only [Act.put,sa_,sb_,sc_]);go_cut [20] (fun v20 wc => ∃ (kq : Nat) (x20_3 : Bool),v20 = .bool x20_3 ∧ Aside0 (changeforgelaw5_RolesDelegationIsFollowed.j0 kq l0 a1 t101 x20_3 = some r) ∧ Aside0 (kq ≤ k) ∧ Aside0 (wc.heap[gb104]? = some (.cells #[.int .i64 t102,.int .i64 t103] 27 (0,0))) ∧ Aside0 (Below w.heap.size w wc))
 case first =>
  have H:=HC4.out;clear HC4;replace H:=Option.bind_eq_some_iff.mp H;obtain ⟨t105,A80,H⟩:=H;replace H : (if t105 = true then (changeforgelaw5_RolesDelegationIsFollowed.j0 k l0 a1 t101 (t102 != 0)) else (changeforgelaw5_RolesDelegationIsFollowed.j0 k l0 a1 t101 true)) = some r:=H;have A8:=Aside0.mk A80;clear A80;by_cases c9 : t105 = true
  ·subst c9
   have H1 : (changeforgelaw5_RolesDelegationIsFollowed.j0 k l0 a1 t101 (t102 != 0)) = some r:=by rw [if_pos rfl] at H;exact H
   clear H;have H:=H1;clear H1;have H':=Aside0.mk H;clear H;go_wp2_with (first|((with_reducible refine gate_callee (f:=8) rfl ?_);refine goesL_ (some 14) rfl rfl Try.func8 (by kernel_rfl) rfl #[] rfl ln_ ?_;(with_reducible refine (changeforgelaw5_delegates.calls  true _ A8.out).mono ?_);rintro e w10 ⟨rfl,hb⟩;refine ⟨_,rfl,?_⟩;replace BK104:=Aside0.mk (blk_below (g:=gb104) (o:=.cells #[.int .i64 t102,.int .i64 t103] 27 (0,0)) (by refine blk_mv ?_;refine blk_put (cs:=#[.int .i64 t102,.int .i64 0]) ?_ 1 _ rfl;refine blk_mv ?_;refine blk_put (cs:=#[.int .i64 0,.int .i64 0]) ?_ 0 _ rfl;refine blk_mv ?_;exact BK104.out) hb);replace HB:=Aside0.mk (below_step bel_ hb);(try clear hb);(try clear hb2);(try clear hk);(try clear hi);have hcz11_0:=blk_c (v:=.int .i64 t102) BK104.out 0 rfl;have hcz11_1:=blk_c (v:=.int .i64 t103) BK104.out 1 rfl;have hfz11_0:=blk_frozen BK104.out 0;have hfz11_1:=blk_frozen BK104.out 1));go_meet
   case rel => exact ⟨_,((t102 != 0)),fr_,H',⟨om_⟩,⟨blk_mv BK104.out⟩,⟨bel_⟩⟩
  ·replace c9:=Bool.eq_false_iff.mpr c9
   subst c9;have H1 : (changeforgelaw5_RolesDelegationIsFollowed.j0 k l0 a1 t101 true) = some r:=by rw [if_neg (show ¬ (false = true) by decide)] at H;exact H
   clear H;have H:=H1;clear H1;have H':=Aside0.mk H;clear H;go_wp2_with (first|((with_reducible refine gate_callee (f:=8) rfl ?_);refine goesL_ (some 14) rfl rfl Try.func8 (by kernel_rfl) rfl #[] rfl ln_ ?_;(with_reducible refine (changeforgelaw5_delegates.calls  false _ A8.out).mono ?_);rintro e w12 ⟨rfl,hb⟩;refine ⟨_,rfl,?_⟩;replace BK104:=Aside0.mk (blk_below (g:=gb104) (o:=.cells #[.int .i64 t102,.int .i64 t103] 27 (0,0)) (by refine blk_mv ?_;refine blk_put (cs:=#[.int .i64 t102,.int .i64 0]) ?_ 1 _ rfl;refine blk_mv ?_;refine blk_put (cs:=#[.int .i64 0,.int .i64 0]) ?_ 0 _ rfl;refine blk_mv ?_;exact BK104.out) hb);replace HB:=Aside0.mk (below_step bel_ hb);(try clear hb);(try clear hb2);(try clear hk);(try clear hi)));go_meet
   case rel => exact ⟨_,(true),fr_,H',⟨om_⟩,⟨blk_mv BK104.out⟩,⟨bel_⟩⟩
 case rest =>
  clear HC4;(try clear c1);(try clear p2);(try clear c5);(try clear c8);(try clear c9);(try clear hcz11_0);(try clear hcz11_1);(try clear hcz7_0);(try clear hcz7_1);(try clear hfz11_0);(try clear hfz11_1);(try clear hfz7_0);(try clear hfz7_1);obtain ⟨kq,x20_3,rfl,HA,HJ3,BK104,HB⟩:=hcut;cases kq with
  | zero => exact absurd HA.out (by simp [changeforgelaw5_RolesDelegationIsFollowed.j0])
  | succ kj3 =>
   have H:=HA.out;clear HA;simp only [changeforgelaw5_RolesDelegationIsFollowed.j0] at H;by_cases c13 : x20_3 = true
   ·subst c13
    have H1 : ((changeforgelaw5_delegates.f).bind fun t106 => (if t106 = true then (some (t101 == 0)) else (none))) = some r:=by rw [if_pos rfl] at H;exact H
    clear H;have H:=H1;clear H1;replace H:=Option.bind_eq_some_iff.mp H;obtain ⟨t106,A140,H⟩:=H;replace H : (if t106 = true then (some (t101 == 0)) else (none)) = some r:=H;have A14:=Aside0.mk A140;clear A140;by_cases c15 : t106 = true
    ·subst c15
     have H1 : (some (t101 == 0)) = some r:=by rw [if_pos rfl] at H;exact H
     clear H;have H:=H1;clear H1;obtain rfl:=Option.some.inj H;go_wp2_with (first|((with_reducible refine gate_callee (f:=8) rfl ?_);refine goesL_ (some 21) rfl rfl Try.func8 (by kernel_rfl) rfl #[] rfl ln_ ?_;(with_reducible refine (changeforgelaw5_delegates.calls  true _ A14.out).mono ?_);rintro e w16 ⟨rfl,hb⟩;refine ⟨_,rfl,?_⟩;replace BK104:=Aside0.mk (blk_below (blk_mv BK104.out) hb);replace HB:=Aside0.mk (below_step bel_ hb);(try clear hb);(try clear hb2);(try clear hk);(try clear hi)));go_ret;exact ⟨by first|rfl|(simp [errW_none,errW_some] <;> rfl)|(simp [*,errW_none,errW_some] <;> rfl),bel_⟩
    ·replace c15:=Bool.eq_false_iff.mpr c15
     subst c15;have H1 : (none) = some r:=by rw [if_neg (show ¬ (false = true) by decide)] at H;exact H
     clear H;have H:=H1;clear H1;exact absurd H (by simp)
   ·replace c13:=Bool.eq_false_iff.mpr c13
    subst c13;have H1 : ((changeforgelaw5_in.f t101 0 (wrap64 ((l0.length : Int) - 1))).bind fun t107 => (if t107 = true then (changeforgelaw5_RolesDelegationIsFollowed.l0 kj3 l0 a1 t101 (wrap64 (t101 + 1))) else (none))) = some r:=by rw [if_neg (show ¬ (false = true) by decide)] at H;exact H
    clear H;have H:=H1;clear H1;replace H:=Option.bind_eq_some_iff.mp H;obtain ⟨t107,A170,H⟩:=H;replace H : (if t107 = true then (changeforgelaw5_RolesDelegationIsFollowed.l0 kj3 l0 a1 t101 (wrap64 (t101 + 1))) else (none)) = some r:=H;have A17:=Aside0.mk A170;clear A170;by_cases c18 : t107 = true
    ·subst c18
     have H1 : (changeforgelaw5_RolesDelegationIsFollowed.l0 kj3 l0 a1 t101 (wrap64 (t101 + 1))) = some r:=by rw [if_pos rfl] at H;exact H
     clear H;have H:=H1;clear H1;have H':=Aside0.mk H;clear H;go_wp2_with (first|((with_reducible refine gate_callee (f:=19) rfl ?_);refine goesL_ (some 30) rfl rfl Try.func19 (by kernel_rfl) rfl #[.int .i64 t101,.int .i64 0,.int .i64 (wrap64 ((l0.length : Int) - 1))] rfl ln_ ?_;(with_reducible refine (changeforgelaw5_in.calls t101 0 (wrap64 ((l0.length : Int) - 1)) true _ A17.out).mono ?_);rintro e w' ⟨rfl,⟨nd,rfl⟩⟩;refine ⟨_,rfl,?_⟩));go_loopg [7] kj3 (fun kq v7 w' => ∃ (x7_2 : Int),v7 = .int .i64 x7_2 ∧ Aside0 (changeforgelaw5_RolesDelegationIsFollowed.l0 kq l0 a1 t101 x7_2 = some r) ∧ Aside0 (kq ≤ kj3) ∧ Aside0 (w'.heap[gb104]? = some (.cells #[.int .i64 t102,.int .i64 t103] 27 (0,0))) ∧ Aside0 (Below w.heap.size w w'))
     case atStart => exact ⟨(wrap64 (t101 + 1)),fr_,H',⟨Nat.le_refl _⟩,⟨blk_mv BK104.out⟩,⟨bel_⟩⟩
     case round =>
      clear H';(try clear c1);(try clear p2);(try clear c5);(try clear p6);(try clear c8);(try clear c9);(try clear c13);(try clear c15);(try clear c18);(try clear hcz11_0);(try clear hcz11_1);(try clear hcz7_0);(try clear hcz7_1);(try clear hfz11_0);(try clear hfz11_1);(try clear hfz7_0);(try clear hfz7_1);(try clear p2);obtain ⟨x7_2,rfl,HA,HK2,BK104,HB⟩:=hrel;cases gk with
      | zero => exact absurd HA.out (by simp [changeforgelaw5_RolesDelegationIsFollowed.l0])
      | succ k2 =>
       have H:=HA.out;clear HA;simp only [changeforgelaw5_RolesDelegationIsFollowed.l0] at H;by_cases c19 : x7_2 < (l0.length : Int)
       ·rw [if_pos c19] at H
        have c19b0 : decide (x7_2 < (l0.length : Int)) = true:=decide_eq_true c19;clear c19;by_cases c20 : 0 ≤ x7_2
        ·rw [if_pos c20] at H
         have c20b0 : decide (0 ≤ x7_2) = true:=decide_eq_true c20;clear c20;by_cases c21 : ((rd_T40 l0 x7_2).f0) = t101
         ·rw [if_pos c21] at H
          have c21b0 : (((rd_T40 l0 x7_2).f0) == t101) = true:=beq_iff_eq.mpr c21;have c21b1 : (((rd_T40 l0 x7_2).f0) != t101) = false:=bne_eq_false_iff_eq.mpr c21;clear c21;replace H:=Option.bind_eq_some_iff.mp H;obtain ⟨t110,A220,H⟩:=H;replace H : (if t110 = true then (none) else (changeforgelaw5_RolesDelegationIsFollowed.l0 k2 l0 a1 t101 (wrap64 (x7_2 + 1)))) = some r:=H;have A22:=Aside0.mk A220;clear A220;by_cases c23 : t110 = true
          ·subst c23
           have H1 : (none) = some r:=by rw [if_pos rfl] at H;exact H
           clear H;have H:=H1;clear H1;exact absurd H (by simp)
          ·replace c23:=Bool.eq_false_iff.mpr c23
           subst c23;have H1 : (changeforgelaw5_RolesDelegationIsFollowed.l0 k2 l0 a1 t101 (wrap64 (x7_2 + 1))) = some r:=by rw [if_neg (show ¬ (false = true) by decide)] at H;exact H
           clear H;have H:=H1;clear H1;have H':=Aside0.mk H;clear H;have p108 : 0 ≤ (x7_2 : Int):=of_decide_eq_true as_;have q108 : x7_2 < (l0.length : Int):=of_decide_eq_true as_;obtain ⟨ad108,A108_2,c108_2,e108,hx108_0,hx108_1,hx108_2,hx108_3,hl108_2,hi108_2⟩:=at_T40 HR0.out x7_2 p108 q108;cases e108
           replace hx108_0:=(HB.out.cell (World.block_lt_of_cell? w _ hx108_0)).trans hx108_0;replace hx108_1:=(HB.out.cell (World.block_lt_of_cell? w _ hx108_1)).trans hx108_1;replace hx108_2:=(HB.out.cell (World.block_lt_of_cell? w _ hx108_2)).trans hx108_2;replace hx108_3:=(HB.out.cell (World.block_lt_of_cell? w _ hx108_3)).trans hx108_3;have HR108_2:=Aside0.mk hi108_2;have HC108_2:=Aside0.mk hl108_2;clear hi108_2 hl108_2;replace p108:=eq_true p108;replace q108:=eq_true q108;have p109 : 0 ≤ (x7_2 : Int):=of_decide_eq_true as_;have q109 : x7_2 < (l0.length : Int):=of_decide_eq_true as_;obtain ⟨ad109,A109_2,c109_2,e109,hx109_0,hx109_1,hx109_2,hx109_3,hl109_2,hi109_2⟩:=at_T40 HR0.out x7_2 p109 q109;obtain rfl : ad108 = ad109:=(by injection e109);replace hx109_0:=(HB.out.cell (World.block_lt_of_cell? w _ hx109_0)).trans hx109_0;replace hx109_1:=(HB.out.cell (World.block_lt_of_cell? w _ hx109_1)).trans hx109_1;replace hx109_2:=(HB.out.cell (World.block_lt_of_cell? w _ hx109_2)).trans hx109_2;replace hx109_3:=(HB.out.cell (World.block_lt_of_cell? w _ hx109_3)).trans hx109_3;have HR109_2:=Aside0.mk hi109_2;have HC109_2:=Aside0.mk hl109_2;clear hi109_2 hl109_2;replace p109:=eq_true p109;replace q109:=eq_true q109;have ea_:=Option.some.inj (hx108_2.symm.trans hx109_2);injection ea_ with ea_ en_ ec_;subst ea_;subst ec_;clear en_;go_wp2_with (first|(go_at_call 20;(with_reducible refine (changeforgeref5_Starts.calls a1 ((rd_T40 l0 x7_2).f1) false _ A22.out).mono ?_);rintro e w' ⟨rfl,⟨nd,rfl⟩⟩));go_roundg k2
           case measure => have:=HJ3.out;have:=HK2.out;omega
           case rel => exact ⟨(wrap64 (x7_2 + 1)),fr_,H',⟨by have:=HJ3.out;have:=HK2.out;omega⟩,⟨blk_mv BK104.out⟩,⟨bel_⟩⟩
         ·rw [if_neg c21] at H
          have c21b0 : (((rd_T40 l0 x7_2).f0) == t101) = false:=beq_eq_false_iff_ne.mpr c21;have c21b1 : (((rd_T40 l0 x7_2).f0) != t101) = true:=bne_iff_ne.mpr c21;have H':=Aside0.mk H;clear H;have p108 : 0 ≤ (x7_2 : Int):=of_decide_eq_true as_;have q108 : x7_2 < (l0.length : Int):=of_decide_eq_true as_;obtain ⟨ad108,A108_2,c108_2,e108,hx108_0,hx108_1,hx108_2,hx108_3,hl108_2,hi108_2⟩:=at_T40 HR0.out x7_2 p108 q108;cases e108
          replace hx108_0:=(HB.out.cell (World.block_lt_of_cell? w _ hx108_0)).trans hx108_0;replace hx108_1:=(HB.out.cell (World.block_lt_of_cell? w _ hx108_1)).trans hx108_1;replace hx108_2:=(HB.out.cell (World.block_lt_of_cell? w _ hx108_2)).trans hx108_2;replace hx108_3:=(HB.out.cell (World.block_lt_of_cell? w _ hx108_3)).trans hx108_3;have HR108_2:=Aside0.mk hi108_2;have HC108_2:=Aside0.mk hl108_2;clear hi108_2 hl108_2;replace p108:=eq_true p108;replace q108:=eq_true q108;go_wp2;go_roundg k2
          case measure => have:=HJ3.out;have:=HK2.out;omega
          case rel => exact ⟨(wrap64 (x7_2 + 1)),fr_,H',⟨by have:=HJ3.out;have:=HK2.out;omega⟩,⟨blk_mv BK104.out⟩,⟨bel_⟩⟩
        ·rw [if_neg c20] at H
         exact absurd H (by simp)
       ·rw [if_neg c19] at H
        have c19b0 : decide (x7_2 < (l0.length : Int)) = false:=decide_eq_false c19;clear c19;obtain rfl:=Option.some.inj H;go_wp2;go_ret;exact ⟨by first|rfl|(simp [errW_none,errW_some] <;> rfl)|(simp [*,errW_none,errW_some] <;> rfl),bel_⟩
    ·replace c18:=Bool.eq_false_iff.mpr c18
     subst c18;have H1 : (none) = some r:=by rw [if_neg (show ¬ (false = true) by decide)] at H;exact H
     clear H;have H:=H1;clear H1;exact absurd H (by simp)

end Go.Proofs.Ytdelkdlegokbjaa.Fn
