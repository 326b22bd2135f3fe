/- A function of the program as a plain Lean function, and the proof that the call comes to just what it says (written by wip/tools/xprint.py for this claim). Condition: the plain function has an answer. -/
import Derived.Test.YtmpboljmigigfaaFn0
import Derived.Test.YtmpboljmigigfaaFf26
import Derived.Test.YtmpboljmigigfaaFf29
import Derived.Test.YtmpboljmigigfaaFs0
import Derived.Test.YtmpboljmigigfaaWApart
import Derived.Test.YtmpboljmigigfaaWLast
import Derived.Test.YtmpboljmigigfaaWMore
import Derived.Test.YtmpboljmigigfaaWN
import Derived.Test.YtmpboljmigigfaaWRepsOne
import Derived.Test.YtmpboljmigigfaaWWords
namespace Go.Proofs.Ytmpboljmigigfaa.Fn
open Go.RowKit Go.Proofs.YtmpboljmigigfaaW.PrintWords Go.Proofs.YtmpboljmigigfaaW.PrintLast Go.Proofs.YtmpboljmigigfaaW.PrintMore
attribute [local go_sem] max2_int min2_int max_two min_two max_three min_three max_four min_four   -- for this text's walks alone
set_option linter.unusedVariables false
set_option linter.unusedSimpArgs false

/-! ### changeforgelaw5_ThresholdIgnoresOrderAndRepetition: function 10 -/
def changeforgelaw5_ThresholdIgnoresOrderAndRepetition.l0 : Nat → List Int → List Int → List (S54) → Int → List (S54) → Int → Option (Bool)
 | 0,_,_,_,_,_,_ => none
 | k + 1,x0,x1,x2,x3,x9,x10 => if x10 ≥ 0 then (if 0 ≤ x10 then (if x10 < (x2.length : Int) then (if x9.length < 8796093022208 then (changeforgelaw5_ThresholdIgnoresOrderAndRepetition.l0 k x0 x1 x2 x3 (x9 ++ [(⟨(rd_T54 x2 x10).f0,(rd_T54 x2 x10).f1⟩ : S54)]) (wrap64 (x10 - 1))) else (none)) else (none)) else (none)) else ((changeforgelaw5_in.f x3 0 (wrap64 ((x2.length : Int) - 1))).bind fun t106 => (if t106 = true then (if 0 ≤ x3 then (if x3 < (x2.length : Int) then (if x9.length < 8796093022208 then ((threshold_Signers.f k x0 x1 x2).bind fun bt111 => ((threshold_Signers.f k x0 x1 (x9 ++ [(⟨(rd_T54 x2 x3).f0,(rd_T54 x2 x3).f1⟩ : S54)])).bind fun bt117 => (if ((bt111.2.1 == 0) == (bt117.2.1 == 0)) = true then ((changeforgeref5_Ints.f k bt111.1 bt117.1).bind fun t123 => (some t123)) else (none)))) else (none)) else (none)) else (none)) else ((threshold_Signers.f k x0 x1 x2).bind fun bt124 => ((threshold_Signers.f k x0 x1 x9).bind fun bt130 => (if ((bt124.2.1 == 0) == (bt130.2.1 == 0)) = true then ((changeforgeref5_Ints.f k bt124.1 bt130.1).bind fun t136 => (some t136)) else (none))))))
def changeforgelaw5_ThresholdIgnoresOrderAndRepetition.f (k : Nat) (l0 : List Int) (l1 : List Int) (l2 : List (S54)) (a3 : Int) : Option (Bool):=(changeforgelaw5_accepts.f).bind fun t101 => (if t101 = true then (if (l2.length : Int) > 23 then (some true) else (changeforgelaw5_ThresholdIgnoresOrderAndRepetition.l0 k l0 l1 l2 a3 ([] : List (S54)) (wrap64 ((l2.length : Int) - 1)))) else (none))
theorem changeforgelaw5_ThresholdIgnoresOrderAndRepetition.mono_l : ∀ k,(∀ y0 y1 y2 y3 y4 y5,LeO (changeforgelaw5_ThresholdIgnoresOrderAndRepetition.l0 k y0 y1 y2 y3 y4 y5) (changeforgelaw5_ThresholdIgnoresOrderAndRepetition.l0 (k + 1) y0 y1 y2 y3 y4 y5))
 | 0 => fun _ _ _ _ _ _ r h => by simp [changeforgelaw5_ThresholdIgnoresOrderAndRepetition.l0] at h
 | k + 1 => by
  have ih0:=changeforgelaw5_ThresholdIgnoresOrderAndRepetition.mono_l k
  ·intro y0 y1 y2 y3 y4 y5
   unfold changeforgelaw5_ThresholdIgnoresOrderAndRepetition.l0
   repeat' first
   | (with_reducible exact ih0 _ _ _ _ _ _)
   | (with_reducible exact changeforgeref5_Ints.mono _ _ _)
   | (with_reducible exact threshold_Signers.mono _ _ _ _)
   | (with_reducible exact LeO.refl _)
   | (with_reducible exact LeO.none _)
   | (with_reducible refine LeO.ite ?_ ?_)
   | (with_reducible refine LeO.bind ?_ (fun _ => ?_))
   | exact ih0 _ _ _ _ _ _
   | exact changeforgeref5_Ints.mono _ _ _
   | exact threshold_Signers.mono _ _ _ _
   | exact LeO.none _
   | refine LeO.ite ?_ ?_
   | refine LeO.bind ?_ (fun _ => ?_)
theorem changeforgelaw5_ThresholdIgnoresOrderAndRepetition.mono : ∀ a0 a1 a2 a3 k,LeO (changeforgelaw5_ThresholdIgnoresOrderAndRepetition.f k a0 a1 a2 a3) (changeforgelaw5_ThresholdIgnoresOrderAndRepetition.f (k + 1) a0 a1 a2 a3):=by
 intro a0 a1 a2 a3 k
 have ih0:=changeforgelaw5_ThresholdIgnoresOrderAndRepetition.mono_l k
 unfold changeforgelaw5_ThresholdIgnoresOrderAndRepetition.f
 repeat' first
   | (with_reducible exact ih0 _ _ _ _ _ _)
   | (with_reducible exact changeforgeref5_Ints.mono _ _ _)
   | (with_reducible exact threshold_Signers.mono _ _ _ _)
   | (with_reducible exact LeO.refl _)
   | (with_reducible exact LeO.none _)
   | (with_reducible refine LeO.ite ?_ ?_)
   | (with_reducible refine LeO.bind ?_ (fun _ => ?_))
   | exact ih0 _ _ _ _ _ _
   | exact changeforgeref5_Ints.mono _ _ _
   | exact threshold_Signers.mono _ _ _ _
   | exact LeO.none _
   | refine LeO.ite ?_ ?_
   | refine LeO.bind ?_ (fun _ => ?_)
set_option maxHeartbeats 8000000 in
set_option maxRecDepth 100000 in
theorem changeforgelaw5_ThresholdIgnoresOrderAndRepetition.calls (k : Nat) (A0 : Option Addr) (c0 : Nat) (l0 : List Int) (A1 : Option Addr) (c1 : Nat) (l1 : List Int) (A2 : Option Addr) (c2 : Nat) (l2 : List (S54)) (a3 : Int) (r : Bool) (w : World) (hr0 : Kd.C (Kd.int .i64) w A0 l0.length l0) (hc0 : l0.length ≤ c0) (hr1 : Kd.C (Kd.int .u8) w A1 l1.length l1) (hc1 : l1.length ≤ c1) (hr2 : Kd.C k54 w A2 l2.length l2) (hc2 : l2.length ≤ c2) (h : changeforgelaw5_ThresholdIgnoresOrderAndRepetition.f k l0 l1 l2 a3 = some r) :
  Calls Try.prog 10 #[.slice A0 l0.length c0,.slice A1 l1.length c1,.slice A2 l2.length c2,.int .i64 a3] w fun e w' => e = .returned (.bool r) ∧ Below w.heap.size w w':=by
 have hu54:=Try.underlying54
 have hu26:=Try.underlying26
 have HR0:=Aside0.mk hr0
 have HC0:=Aside0.mk hc0
 clear hr0 hc0
 have HR1:=Aside0.mk hr1
 have HC1:=Aside0.mk hc1
 clear hr1 hc1
 have HR2:=Aside0.mk hr2
 have HC2:=Aside0.mk hc2
 clear hr2 hc2
 have HB:=Aside0.mk (Below.refl w.heap.size w)
 have H : ((changeforgelaw5_accepts.f).bind fun t101 => (if t101 = true then (if (l2.length : Int) > 23 then (some true) else (changeforgelaw5_ThresholdIgnoresOrderAndRepetition.l0 k l0 l1 l2 a3 ([] : List (S54)) (wrap64 ((l2.length : Int) - 1)))) else (none))) = some r:=h
 clear h
 replace H:=Option.bind_eq_some_iff.mp H
 obtain ⟨t101,A50,H⟩:=H
 replace H : (if t101 = true then (if (l2.length : Int) > 23 then (some true) else (changeforgelaw5_ThresholdIgnoresOrderAndRepetition.l0 k l0 l1 l2 a3 ([] : List (S54)) (wrap64 ((l2.length : Int) - 1)))) else (none)) = some r:=H
 have A5:=Aside0.mk A50
 clear A50
 by_cases c6 : t101 = true
 ·subst c6
  have H1 : (if (l2.length : Int) > 23 then (some true) else (changeforgelaw5_ThresholdIgnoresOrderAndRepetition.l0 k l0 l1 l2 a3 ([] : List (S54)) (wrap64 ((l2.length : Int) - 1)))) = some r:=by rw [if_pos rfl] at H;exact H
  clear H
  have H:=H1
  clear H1
  by_cases c7 : (l2.length : Int) > 23
  ·rw [if_pos c7] at H
   have c7b0 : decide (23 < (l2.length : Int)) = true:=decide_eq_true c7
   have c7b1 : decide (23 < l2.length) = true:=decide_eq_true (by omega)
   clear c7
   obtain rfl:=Option.some.inj H
   go_enter Try.func10,Try.ntmps10
   go_wp2_with (first|((with_reducible refine gate_callee (f:=26) rfl ?_);refine goesL_ (some 15) rfl rfl Try.func26 (by kernel_rfl) rfl #[] rfl (by (try simp only [List.map_toArray,List.map_cons,List.map_nil]);first|done|rfl|(simp only [List.length_drop,List.length_take];rfl)) ?_;(with_reducible refine (changeforgelaw5_accepts.calls  true _ A5.out).mono ?_);rintro e w8 ⟨rfl,hb⟩;refine ⟨_,rfl,?_⟩;have n0_:=Aside0.mk (below_step (by repeat (first|(with_reducible first|exact HB.out|apply below_alloc|apply pw_below_drewN|apply below_drew1)|exact HB.out)) hb);clear HB;have HB:=n0_;clear n0_;(try clear hb);(try clear hb2);(try clear hk);(try clear hi)))
   go_ret
   exact ⟨by first|rfl|(simp [errW_none,errW_some] <;> rfl)|(simp [*,errW_none,errW_some] <;> rfl),by repeat (first|(with_reducible first|exact HB.out|apply below_alloc|apply pw_below_drewN|apply below_drew1)|exact HB.out)⟩
  ·rw [if_neg c7] at H
   have c7b0 : decide (23 < (l2.length : Int)) = false:=decide_eq_false c7
   have c7b1 : decide (23 < l2.length) = false:=decide_eq_false (by omega)
   clear c7
   have H':=Aside0.mk H
   clear H
   go_enter Try.func10,Try.ntmps10
   go_wp2_with (first|((with_reducible refine gate_callee (f:=26) rfl ?_);refine goesL_ (some 15) rfl rfl Try.func26 (by kernel_rfl) rfl #[] rfl (by (try simp only [List.map_toArray,List.map_cons,List.map_nil]);first|done|rfl|(simp only [List.length_drop,List.length_take];rfl)) ?_;(with_reducible refine (changeforgelaw5_accepts.calls  true _ A5.out).mono ?_);rintro e w9 ⟨rfl,hb⟩;refine ⟨_,rfl,?_⟩;have n0_:=Aside0.mk (below_step (by repeat (first|(with_reducible first|exact HB.out|apply below_alloc|apply pw_below_drewN|apply below_drew1)|exact HB.out)) hb);clear HB;have HB:=n0_;clear n0_;(try clear hb);(try clear hb2);(try clear hk);(try clear hi)))
   go_loopg [9,10] k (fun kq v9 v10 w' => ∃ (x9_1 : List (S54)) (x10_1 : Int),v10 = .int .i64 x10_1 ∧ Aside0 (changeforgelaw5_ThresholdIgnoresOrderAndRepetition.l0 kq l0 l1 l2 a3 x9_1 x10_1 = some r) ∧ Aside0 (kq ≤ k) ∧ Aside0 (Kd.R k54 54 w' w.heap.size (fun _ => True) v9 x9_1) ∧ Aside0 (Below w.heap.size w w'))
   case atStart => exact ⟨(([] : List (S54))),(wrap64 ((l2.length : Int) - 1)),(by first|rfl|(simp;done)|(simp only [IntWalk.i64_left];done)|(simp [*];done)),H',⟨Nat.le_refl _⟩,⟨by first|exact Kd.R_nil _ _ _ _ _|exact Kd.N_nil _ _ _ _ _|exact Kd.V_nil _ _ _ _ _|exact Kd.Q_nil _ _ _ _ _|exact Kd.S_nil _ _ _ _ _⟩,⟨by repeat (first|(with_reducible first|exact HB.out|apply below_alloc|apply pw_below_drewN|apply below_drew1)|exact HB.out)⟩⟩
   case round =>
    clear H'
    try clear c1
    try clear c2
    try clear p2
    try clear c6
    try clear p6
    try clear c7
    try clear c7b0
    try clear c7b1
    obtain ⟨x9_1,x10_1,rfl,HA,HK1,HO_9,HB⟩:=hrel
    cases gk with
    | zero => exact absurd HA.out (by simp [changeforgelaw5_ThresholdIgnoresOrderAndRepetition.l0])
    | succ k1 =>
     have H:=HA.out
     clear HA
     simp only [changeforgelaw5_ThresholdIgnoresOrderAndRepetition.l0] at H
     by_cases c10 : x10_1 ≥ 0
     ·rw [if_pos c10] at H
      have c10b0 : decide (0 ≤ x10_1) = true:=decide_eq_true c10
      clear c10
      by_cases c11 : 0 ≤ x10_1
      ·rw [if_pos c11] at H
       have c11b0 : decide (0 ≤ x10_1) = true:=decide_eq_true c11
       clear c11
       by_cases c12 : x10_1 < (l2.length : Int)
       ·rw [if_pos c12] at H
        have c12b0 : decide (x10_1 < (l2.length : Int)) = true:=decide_eq_true c12
        clear c12
        by_cases c13 : x9_1.length < 8796093022208
        ·rw [if_pos c13] at H
         have LMc13:=Aside0.mk c13
         clear c13
         obtain ⟨y103,hy103⟩ : ∃ y_ : List (S54),y_ = (x9_1 ++ [(⟨(rd_T54 l2 x10_1).f0,(rd_T54 l2 x10_1).f1⟩ : S54)]):=⟨_,rfl⟩
         replace H : (changeforgelaw5_ThresholdIgnoresOrderAndRepetition.l0 k1 l0 l1 l2 a3 y103 (wrap64 (x10_1 - 1))) = some r:=by first|(rw [hy103];with_reducible exact H)|(have H2_:=(Option.bind_some _ _).symm.trans H;rw [hy103];with_reducible exact H2_)|(have H2_:=(Option.bind_some _ _).symm.trans H;with_reducible exact H2_)|with_reducible exact H|(rw [hy103];exact H)|exact H
         have Ny103:=Aside0.mk hy103
         clear hy103
         have H':=Aside0.mk H
         clear H
         have p102 : 0 ≤ (x10_1 : Int):=of_decide_eq_true (by first|(with_reducible assumption)|assumption)
         have q102 : x10_1 < (l2.length : Int):=of_decide_eq_true (by first|(with_reducible assumption)|assumption)
         obtain ⟨ad102,e102,hx102_0,hx102_1⟩:=at_T54 HR2.out x10_1 p102 q102
         cases e102
         replace hx102_0:=(HB.out.cell (World.block_lt_of_cell? w _ hx102_0)).trans hx102_0
         replace hx102_1:=(HB.out.cell (World.block_lt_of_cell? w _ hx102_1)).trans hx102_1
         replace p102:=eq_true p102
         replace q102:=eq_true q102
         go_wp2_with (first|((with_reducible refine gate_builtin (b:=.append) (xs:=#[.tmp 27,.tmp 32]) rfl ?_);at_builtin;refine Kd.R_append k54 (w0:=w) w.heap.size rfl (.tmp 27) (.tmp 32) 43 54 (.agg #[(.int .i64 0),(.int .i64 0)]) 16 rfl Try.underlying43 info54 rfl (by decide) (by omega) u9 x9_1 (⟨(rd_T54 l2 x10_1).f0,(rd_T54 l2 x10_1).f1⟩ : S54) [.int .i64 ((rd_T54 l2 x10_1).f0),.int .i64 ((rd_T54 l2 x10_1).f1)] (fun _ => True) (fun _ => False) rfl rfl ?aP (fun _ hk => hk.elim) ?aF ?aO ?aB ?aS ?aL ?_;(case aP => exact k54_mkM _ _ _ (⟨(rd_T54 l2 x10_1).f0,(rd_T54 l2 x10_1).f1⟩ : S54));(case aB => exact (by repeat (first|(with_reducible first|exact HB.out|apply below_alloc|apply pw_below_drewN|apply below_drew1)|exact HB.out)));(case aF => exact (fun _ _ => trivial));(case aO => exact (by (with_reducible repeat (first|apply Kd.R_alloc|apply Kd.R_drewN|apply Kd.R_drew));exact HO_9.out));(case aS => exact (below_size (by repeat (first|(with_reducible first|exact HB.out|apply below_alloc|apply pw_below_drewN|apply below_drew1)|exact HB.out))));(case aL => have:=LMc13.out;omega);intro v104 w14 ho hb hg hat;rw [← Ny103.out] at ho;have n0_:=Aside0.mk (hb);have n1_:=Aside0.mk (ho);clear HB;clear HO_9;have HB:=n0_;have HO105:=n1_;clear n0_ n1_;clear ho hb hg hat))
         go_roundg k1
         case measure => have:=HK1.out;omega
         case rel => exact ⟨(y103),(wrap64 (x10_1 - 1)),(by first|rfl|(simp;done)|(simp only [IntWalk.i64_left];done)|(simp [*];done)),H',⟨by have:=HK1.out;omega⟩,⟨by (with_reducible repeat (first|apply Kd.R_alloc|apply Kd.R_drewN|apply Kd.R_drew));exact HO105.out⟩,⟨by repeat (first|(with_reducible first|exact HB.out|apply below_alloc|apply pw_below_drewN|apply below_drew1)|exact HB.out)⟩⟩
        ·rw [if_neg c13] at H
         exact absurd H (by simp)
       ·rw [if_neg c12] at H
        exact absurd H (by simp)
      ·rw [if_neg c11] at H
       exact absurd H (by simp)
     ·rw [if_neg c10] at H
      have c10b0 : decide (0 ≤ x10_1) = false:=decide_eq_false c10
      clear c10
      replace H:=Option.bind_eq_some_iff.mp H
      obtain ⟨t106,A150,H⟩:=H
      replace H : (if t106 = true then (if 0 ≤ a3 then (if a3 < (l2.length : Int) then (if x9_1.length < 8796093022208 then ((threshold_Signers.f k1 l0 l1 l2).bind fun bt111 => ((threshold_Signers.f k1 l0 l1 (x9_1 ++ [(⟨(rd_T54 l2 a3).f0,(rd_T54 l2 a3).f1⟩ : S54)])).bind fun bt117 => (if ((bt111.2.1 == 0) == (bt117.2.1 == 0)) = true then ((changeforgeref5_Ints.f k1 bt111.1 bt117.1).bind fun t123 => (some t123)) else (none)))) else (none)) else (none)) else (none)) else ((threshold_Signers.f k1 l0 l1 l2).bind fun bt124 => ((threshold_Signers.f k1 l0 l1 x9_1).bind fun bt130 => (if ((bt124.2.1 == 0) == (bt130.2.1 == 0)) = true then ((changeforgeref5_Ints.f k1 bt124.1 bt130.1).bind fun t136 => (some t136)) else (none))))) = some r:=H
      have A15:=Aside0.mk A150
      clear A150
      by_cases c16 : t106 = true
      ·subst c16
       have H1 : (if 0 ≤ a3 then (if a3 < (l2.length : Int) then (if x9_1.length < 8796093022208 then ((threshold_Signers.f k1 l0 l1 l2).bind fun bt111 => ((threshold_Signers.f k1 l0 l1 (x9_1 ++ [(⟨(rd_T54 l2 a3).f0,(rd_T54 l2 a3).f1⟩ : S54)])).bind fun bt117 => (if ((bt111.2.1 == 0) == (bt117.2.1 == 0)) = true then ((changeforgeref5_Ints.f k1 bt111.1 bt117.1).bind fun t123 => (some t123)) else (none)))) else (none)) else (none)) else (none)) = some r:=by rw [if_pos rfl] at H;exact H
       clear H
       have H:=H1
       clear H1
       by_cases c17 : 0 ≤ a3
       ·rw [if_pos c17] at H
        have c17b0 : decide (0 ≤ a3) = true:=decide_eq_true c17
        clear c17
        by_cases c18 : a3 < (l2.length : Int)
        ·rw [if_pos c18] at H
         have c18b0 : decide (a3 < (l2.length : Int)) = true:=decide_eq_true c18
         clear c18
         by_cases c19 : x9_1.length < 8796093022208
         ·rw [if_pos c19] at H
          have LMc19:=Aside0.mk c19
          clear c19
          obtain ⟨y108,hy108⟩ : ∃ y_ : List (S54),y_ = (x9_1 ++ [(⟨(rd_T54 l2 a3).f0,(rd_T54 l2 a3).f1⟩ : S54)]):=⟨_,rfl⟩
          replace H : ((threshold_Signers.f k1 l0 l1 l2).bind fun bt111 => ((threshold_Signers.f k1 l0 l1 y108).bind fun bt117 => (if ((bt111.2.1 == 0) == (bt117.2.1 == 0)) = true then ((changeforgeref5_Ints.f k1 bt111.1 bt117.1).bind fun t123 => (some t123)) else (none)))) = some r:=by first|(rw [hy108];with_reducible exact H)|(have H2_:=(Option.bind_some _ _).symm.trans H;rw [hy108];with_reducible exact H2_)|(have H2_:=(Option.bind_some _ _).symm.trans H;with_reducible exact H2_)|with_reducible exact H|(rw [hy108];exact H)|exact H
          have Ny108:=Aside0.mk hy108
          clear hy108
          replace H:=Option.bind_eq_some_iff.mp H
          obtain ⟨⟨t111,t114,t115⟩,A200,H⟩:=H
          replace H : ((threshold_Signers.f k1 l0 l1 y108).bind fun bt117 => (if ((t114 == 0) == (bt117.2.1 == 0)) = true then ((changeforgeref5_Ints.f k1 t111 bt117.1).bind fun t123 => (some t123)) else (none))) = some r:=H
          have A20:=Aside0.mk A200
          clear A200
          replace H:=Option.bind_eq_some_iff.mp H
          obtain ⟨⟨t117,t120,t121⟩,A210,H⟩:=H
          replace H : (if ((t114 == 0) == (t120 == 0)) = true then ((changeforgeref5_Ints.f k1 t111 t117).bind fun t123 => (some t123)) else (none)) = some r:=H
          have A21:=Aside0.mk A210
          clear A210
          by_cases c22 : ((t114 == 0) == (t120 == 0)) = true
          ·rw [if_pos c22] at H
           have c22b0 : ((t114 == 0) == (t120 == 0)) = true:=c22
           (try (have c22b1 : decide ((t114 == 0) = (t120 == 0)) = true:=by simpa using c22))
           (try (have c22b2 : ((t114 == 0) == (t120 == 0)) = true:=by simpa using c22))
           clear c22
           replace H:=Option.bind_eq_some_iff.mp H
           obtain ⟨t123,A230,H⟩:=H
           replace H : (some t123) = some r:=H
           have A23:=Aside0.mk A230
           clear A230
           obtain rfl:=Option.some.inj H
           go_wp2_with (first|((with_reducible refine gate_callee (f:=32) rfl ?_);refine goesL_ (some 38) rfl rfl Try.func32 (by kernel_rfl) rfl #[.int .i64 a3,.int .i64 0,.int .i64 (wrap64 ((l2.length : Int) - 1))] rfl (by (try simp only [List.map_toArray,List.map_cons,List.map_nil]);first|done|rfl|(simp only [List.length_drop,List.length_take];rfl)) ?_;(with_reducible refine (changeforgelaw5_in.calls a3 0 (wrap64 ((l2.length : Int) - 1)) true _ A15.out).mono ?_);rintro e w' ⟨rfl,⟨nd,rfl⟩⟩;refine ⟨_,rfl,?_⟩;(try (rw [drewN_self wr];generalize hq_ : World.drewN wr _ = wr;have n0_ : Aside0 (Kd.R k54 54 wr w.heap.size (fun _ => True) u9 x9_1):=⟨by rw [← hq_];exact (by (with_reducible repeat (first|apply Kd.R_alloc|apply Kd.R_drewN|apply Kd.R_drew));exact HO_9.out)⟩;have n1_ : Aside0 (Below w.heap.size w wr):=⟨by rw [← hq_];exact (by repeat (first|(with_reducible first|exact HB.out|apply below_alloc|apply pw_below_drewN|apply below_drew1)|exact HB.out))⟩;clear HO_9 HB hq_;have HO_9:=n0_;have HB:=n1_;clear n0_ n1_));have p107 : 0 ≤ (a3 : Int):=of_decide_eq_true (by first|(with_reducible assumption)|assumption);have q107 : a3 < (l2.length : Int):=of_decide_eq_true (by first|(with_reducible assumption)|assumption);obtain ⟨ad107,e107,hx107_0,hx107_1⟩:=at_T54 HR2.out a3 p107 q107;cases e107;replace hx107_0:=(HB.out.cell (World.block_lt_of_cell? w _ hx107_0)).trans hx107_0;replace hx107_1:=(HB.out.cell (World.block_lt_of_cell? w _ hx107_1)).trans hx107_1;replace p107:=eq_true p107;replace q107:=eq_true q107)|((with_reducible refine gate_builtin (b:=.append) (xs:=#[.tmp 39,.tmp 44]) rfl ?_);at_builtin;refine Kd.R_append k54 (w0:=w) w.heap.size rfl (.tmp 39) (.tmp 44) 43 54 (.agg #[(.int .i64 0),(.int .i64 0)]) 16 rfl Try.underlying43 info54 rfl (by decide) (by omega) u9 x9_1 (⟨(rd_T54 l2 a3).f0,(rd_T54 l2 a3).f1⟩ : S54) [.int .i64 ((rd_T54 l2 a3).f0),.int .i64 ((rd_T54 l2 a3).f1)] (fun _ => True) (fun _ => False) rfl rfl ?aP (fun _ hk => hk.elim) ?aF ?aO ?aB ?aS ?aL ?_;(case aP => exact k54_mkM _ _ _ (⟨(rd_T54 l2 a3).f0,(rd_T54 l2 a3).f1⟩ : S54));(case aB => exact (by repeat (first|(with_reducible first|exact HB.out|apply below_alloc|apply pw_below_drewN|apply below_drew1)|exact HB.out)));(case aF => exact (fun _ _ => trivial));(case aO => exact (by (with_reducible repeat (first|apply Kd.R_alloc|apply Kd.R_drewN|apply Kd.R_drew));exact HO_9.out));(case aS => exact (below_size (by repeat (first|(with_reducible first|exact HB.out|apply below_alloc|apply pw_below_drewN|apply below_drew1)|exact HB.out))));(case aL => have:=LMc19.out;omega);intro v109 w24 ho hb hg hat;rw [← Ny108.out] at ho;have n0_:=Aside0.mk (hb);have n1_:=Aside0.mk (ho);clear HB;clear HO_9;have HB:=n0_;have HO110:=n1_;clear n0_ n1_;clear ho hb hg hat)|((with_reducible refine gate_callee (f:=29) rfl ?_);refine goesL_ (some 50) rfl rfl Try.func29 (by kernel_rfl) rfl #[.slice A0 l0.length c0,.slice A1 l1.length c1,.slice (some ad107) l2.length c2] rfl (by (try simp only [List.map_toArray,List.map_cons,List.map_nil]);first|done|rfl|(simp only [List.length_drop,List.length_take];rfl)) ?_;(with_reducible refine (threshold_Signers.calls k1 _ _ l0 _ _ l1 _ _ l2 t111 t114 t115 _ ?side1 ?side2 ?side3 ?side4 ?side5 ?side6 A20.out).mono ?_);(case side1 => repeat (first|exact (Kd.C_below HR0.out HB.out)|(with_reducible refine Kd.C_alloc ?_ _)|(with_reducible refine Kd.C_drewN ?_ _)|(with_reducible refine Kd.C_drew ?_)));(case side2 => exact HC0.out);(case side3 => repeat (first|exact (Kd.C_below HR1.out HB.out)|(with_reducible refine Kd.C_alloc ?_ _)|(with_reducible refine Kd.C_drewN ?_ _)|(with_reducible refine Kd.C_drew ?_)));(case side4 => exact HC1.out);(case side5 => repeat (first|exact (Kd.C_below HR2.out HB.out)|(with_reducible refine Kd.C_alloc ?_ _)|(with_reducible refine Kd.C_drewN ?_ _)|(with_reducible refine Kd.C_drew ?_)));(case side6 => exact HC2.out);rintro e w25 ⟨v112,rfl,ho0,hb⟩;refine ⟨_,rfl,?_⟩;have n0_:=Aside0.mk (Kd.R_below (by (with_reducible repeat (first|apply Kd.R_alloc|apply Kd.R_drewN|apply Kd.R_drew));exact HO110.out) hb);have n1_:=Aside0.mk (Kd.R_lower ho0 (below_size (by repeat (first|(with_reducible first|exact HB.out|apply below_alloc|apply pw_below_drewN|apply below_drew1)|exact HB.out))));have n2_:=Aside0.mk (below_step (by repeat (first|(with_reducible first|exact HB.out|apply below_alloc|apply pw_below_drewN|apply below_drew1)|exact HB.out)) hb);clear HO110;clear HB;have HO110:=n0_;have HO113:=n1_;have HB:=n2_;clear n0_ n1_ n2_;(try clear hb);(try clear hb2);(try clear hk);(try clear hi);(try clear ho0))|((with_reducible refine gate_dst (N:=12) rfl ?_);refine box_event ?hg (N:=12) ?hd (cs:=#[.int .i64 0,.int .i64 0]) (t:=26) ?hr ?_;(case hd => rfl);(case hg => rfl);(case hr => first|(go_simp;done)|(go_simp;rfl));intro gb116 hg w26 hbox hb;have n0_:=Aside0.mk (Kd.R_below (by (with_reducible repeat (first|apply Kd.R_alloc|apply Kd.R_drewN|apply Kd.R_drew));exact HO110.out) hb);have n1_:=Aside0.mk (Kd.R_below (by (with_reducible repeat (first|apply Kd.R_alloc|apply Kd.R_drewN|apply Kd.R_drew));exact HO113.out) hb);have n2_:=Aside0.mk (below_step (by repeat (first|(with_reducible first|exact HB.out|apply below_alloc|apply pw_below_drewN|apply below_drew1)|exact HB.out)) hb);have n3_:=Aside0.mk (hbox);have n4_:=Aside0.mk ((by rw [hg];exact (below_size (by repeat (first|(with_reducible first|exact HB.out|apply below_alloc|apply pw_below_drewN|apply below_drew1)|exact HB.out))) : w.heap.size ≤ gb116));have n5_:=Aside0.mk ((by rw [hg];exact (below_size (by repeat (first|(with_reducible first|exact HB.out|apply below_alloc|apply pw_below_drewN|apply below_drew1)|exact HB.out))) : w.heap.size ≤ gb116));clear HO110;clear HO113;clear HB;have HO110:=n0_;have HO113:=n1_;have HB:=n2_;have BK116:=n3_;have GW116:=n4_;have GE116:=n5_;clear n0_ n1_ n2_ n3_ n4_ n5_;clear hb hbox hg;have hcz27_0 : w26.cell? ⟨gb116,0,none⟩ = some (.int .i64 0):=(blk_cell BK116.out 0).trans rfl;have hcz27_1 : w26.cell? ⟨gb116,1,none⟩ = some (.int .i64 0):=(blk_cell BK116.out 1).trans rfl;have hfz27_0:=blk_frozen BK116.out 0;have hfz27_1:=blk_frozen BK116.out 1;obtain ⟨Ao28,co28,eo28⟩:=Kd.R_slice HO110.out;subst eo28)|((with_reducible refine gate_callee (f:=29) rfl ?_);refine goesL_ (some 57) rfl rfl Try.func29 (by kernel_rfl) rfl #[.slice A0 l0.length c0,.slice A1 l1.length c1,.slice Ao28 y108.length co28] rfl (by (try simp only [List.map_toArray,List.map_cons,List.map_nil]);first|done|rfl|(simp only [List.length_drop,List.length_take];rfl)) ?_;(with_reducible refine (threshold_Signers.calls k1 _ _ l0 _ _ l1 _ _ y108 t117 t120 t121 _ ?side1 ?side2 ?side3 ?side4 ?side5 ?side6 A21.out).mono ?_);(case side1 => exact Kd.C_below HR0.out (by repeat (first|(with_reducible first|exact HB.out|apply below_alloc|apply pw_below_drewN|apply below_drew1|refine below_set ?_ GE116.out)|exact HB.out)));(case side2 => exact HC0.out);(case side3 => exact Kd.C_below HR1.out (by repeat (first|(with_reducible first|exact HB.out|apply below_alloc|apply pw_below_drewN|apply below_drew1|refine below_set ?_ GE116.out)|exact HB.out)));(case side4 => exact HC1.out);(case side5 => refine (Kd.R_reads' (e:=54) (base:=w.heap.size) (ok:=fun k_ => True) (n:=y108.length) (c:=co28) ?_).2.2;exact (by (with_reducible repeat (first|apply Kd.R_alloc|apply Kd.R_drewN|apply Kd.R_drew));exact (Kd.R_mono (Kd.R_far (p:=⟨gb116,1,none⟩) (Kd.R_far (p:=⟨gb116,0,none⟩) (Kd.R_types HO110.out BK116.out (by decide)) (fun _ hk => hk.2) (.int .i64 t114)) (fun _ hk => hk.2) (.int .i64 t115)) (fun _ h_ => h_.1))));(case side6 => exact (Kd.R_reads' HO110.out).2.1);rintro e w29 ⟨v118,rfl,ho0,hb⟩;refine ⟨_,rfl,?_⟩;have n0_:=Aside0.mk (Kd.R_below (by (with_reducible repeat (first|apply Kd.R_alloc|apply Kd.R_drewN|apply Kd.R_drew));exact (Kd.R_mono (Kd.R_far (p:=⟨gb116,1,none⟩) (Kd.R_far (p:=⟨gb116,0,none⟩) (Kd.R_types HO110.out BK116.out (by decide)) (fun _ hk => hk.2) (.int .i64 t114)) (fun _ hk => hk.2) (.int .i64 t115)) (fun _ h_ => h_.1))) hb);have n1_:=Aside0.mk (Kd.R_elder' (by (with_reducible repeat (first|apply Kd.R_alloc|apply Kd.R_drewN|apply Kd.R_drew));exact (Kd.R_mono (Kd.R_far (p:=⟨gb116,1,none⟩) (Kd.R_far (p:=⟨gb116,0,none⟩) (Kd.R_types HO113.out BK116.out (by decide)) (fun _ hk => hk.2) (.int .i64 t114)) (fun _ hk => hk.2) (.int .i64 t115)) (fun _ h_ => h_.1))) (Kd.R_base ho0) hb);have n2_:=Aside0.mk (Kd.R_lower (Kd.R_new' ho0 (Kd.R_lt (by (with_reducible repeat (first|apply Kd.R_alloc|apply Kd.R_drewN|apply Kd.R_drew));exact (Kd.R_mono (Kd.R_far (p:=⟨gb116,1,none⟩) (Kd.R_far (p:=⟨gb116,0,none⟩) (Kd.R_types HO113.out BK116.out (by decide)) (fun _ hk => hk.2) (.int .i64 t114)) (fun _ hk => hk.2) (.int .i64 t115)) (fun _ h_ => h_.1))))) (below_size (by repeat (first|(with_reducible first|exact HB.out|apply below_alloc|apply pw_below_drewN|apply below_drew1|refine below_set ?_ GE116.out)|exact HB.out))));have n3_:=Aside0.mk (blk_below (g:=gb116) (o:=.cells #[.int .i64 t114,.int .i64 t115] 26 (0,0)) (by (with_reducible repeat (first|refine blk_drewN ?_ _|refine blk_drew ?_|refine blk_alloc ?_ _));refine blk_put (cs:=#[.int .i64 t114,.int .i64 0]) ?_ 1 _ rfl;(with_reducible repeat (first|refine blk_drewN ?_ _|refine blk_drew ?_|refine blk_alloc ?_ _));refine blk_put (cs:=#[.int .i64 0,.int .i64 0]) ?_ 0 _ rfl;(with_reducible repeat (first|refine blk_drewN ?_ _|refine blk_drew ?_|refine blk_alloc ?_ _));exact BK116.out) hb);have n4_:=Aside0.mk (below_step (by repeat (first|(with_reducible first|exact HB.out|apply below_alloc|apply pw_below_drewN|apply below_drew1|refine below_set ?_ GE116.out)|exact HB.out)) hb);clear HO110;clear HO113;clear BK116;clear HB;have HO110:=n0_;have HO113:=n1_;have HO119:=n2_;have BK116:=n3_;have HB:=n4_;clear n0_ n1_ n2_ n3_ n4_;(try clear hb);(try clear hb2);(try clear hk);(try clear hi);(try clear ho0))|((with_reducible refine gate_dst (N:=14) rfl ?_);refine box_event ?hg (N:=14) ?hd (cs:=#[.int .i64 0,.int .i64 0]) (t:=26) ?hr ?_;(case hd => rfl);(case hg => rfl);(case hr => first|(go_simp;done)|(go_simp;rfl));intro gb122 hg w30 hbox hb;have n0_:=Aside0.mk (Kd.R_below (by (with_reducible repeat (first|apply Kd.R_alloc|apply Kd.R_drewN|apply Kd.R_drew));exact HO113.out) hb);have n1_:=Aside0.mk (Kd.R_below (by (with_reducible repeat (first|apply Kd.R_alloc|apply Kd.R_drewN|apply Kd.R_drew));exact HO119.out) hb);have n2_:=Aside0.mk (blk_below (g:=gb116) (o:=.cells #[.int .i64 t114,.int .i64 t115] 26 (0,0)) (by (with_reducible repeat (first|refine blk_drewN ?_ _|refine blk_drew ?_|refine blk_alloc ?_ _));exact BK116.out) hb);have n3_:=Aside0.mk (below_step (by repeat (first|(with_reducible first|exact HB.out|apply below_alloc|apply pw_below_drewN|apply below_drew1|refine below_set ?_ GE116.out)|exact HB.out)) hb);have n4_:=Aside0.mk (hbox);have n5_:=Aside0.mk ((by rw [hg];exact (below_size (by repeat (first|(with_reducible first|exact HB.out|apply below_alloc|apply pw_below_drewN|apply below_drew1|refine below_set ?_ GE116.out)|exact HB.out))) : w.heap.size ≤ gb122));have n6_:=Aside0.mk ((by rw [hg];exact (below_size (by repeat (first|(with_reducible first|exact HB.out|apply below_alloc|apply pw_below_drewN|apply below_drew1|refine below_set ?_ GE116.out)|exact HB.out))) : w.heap.size ≤ gb122));have n7_:=Aside0.mk ((by rw [hg];exact Nat.ne_of_lt (blk_lt (g:=gb116) (o:=.cells #[.int .i64 t114,.int .i64 t115] 26 (0,0)) (by (with_reducible repeat (first|refine blk_drewN ?_ _|refine blk_drew ?_|refine blk_alloc ?_ _));exact BK116.out)) : gb116 ≠ gb122));have n8_:=Aside0.mk ((by rw [hg];exact Nat.ne_of_gt (blk_lt (g:=gb116) (o:=.cells #[.int .i64 t114,.int .i64 t115] 26 (0,0)) (by (with_reducible repeat (first|refine blk_drewN ?_ _|refine blk_drew ?_|refine blk_alloc ?_ _));exact BK116.out)) : gb122 ≠ gb116));clear HO113;clear HO119;clear BK116;clear HB;have HO113:=n0_;have HO119:=n1_;have BK116:=n2_;have HB:=n3_;have BK122:=n4_;have GW122:=n5_;have GE122:=n6_;have NB116_122:=n7_;have NB122_116:=n8_;clear n0_ n1_ n2_ n3_ n4_ n5_ n6_ n7_ n8_;clear hb hbox hg;have hnb31:=NB122_116.out;have hnc31:=NB116_122.out;have hcz32_0 : w30.cell? ⟨gb122,0,none⟩ = some (.int .i64 0):=(blk_cell BK122.out 0).trans rfl;have hcz32_1 : w30.cell? ⟨gb122,1,none⟩ = some (.int .i64 0):=(blk_cell BK122.out 1).trans rfl;have hfz32_0:=blk_frozen BK122.out 0;have hfz32_1:=blk_frozen BK122.out 1;have hcz33_0 : w30.cell? ⟨gb116,0,none⟩ = some (.int .i64 t114):=(blk_cell BK116.out 0).trans rfl;have hcz33_1 : w30.cell? ⟨gb116,1,none⟩ = some (.int .i64 t115):=(blk_cell BK116.out 1).trans rfl;have hfz33_0:=blk_frozen BK116.out 0;have hfz33_1:=blk_frozen BK116.out 1;obtain ⟨Ao34,co34,eo34⟩:=Kd.R_slice HO113.out;subst eo34;obtain ⟨Ao35,co35,eo35⟩:=Kd.R_slice HO119.out;subst eo35)|(go_at_call 24;(with_reducible refine (changeforgeref5_Ints.calls k1 _ _ t111 _ _ t117 t123 _ ?side1 ?side2 ?side3 ?side4 A23.out).mono ?_);(case side1 => refine (Kd.R_reads' (e:=3) (base:=w.heap.size) (ok:=fun k_ => (True ∧ some k_ ≠ (.slice Ao35 t117.length co35 : Value).ownBlock)) (n:=t111.length) (c:=co34) ?_).2.2;exact (by (with_reducible repeat (first|apply Kd.R_alloc|apply Kd.R_drewN|apply Kd.R_drew));exact (Kd.R_mono (Kd.R_far (p:=⟨gb122,1,none⟩) (Kd.R_far (p:=⟨gb122,0,none⟩) (Kd.R_types HO113.out BK122.out (by decide)) (fun _ hk => hk.2) (.int .i64 t120)) (fun _ hk => hk.2) (.int .i64 t121)) (fun _ h_ => h_.1))));(case side2 => exact (Kd.R_reads' HO113.out).2.1);(case side3 => refine (Kd.R_reads' (e:=3) (base:=w.heap.size) (ok:=fun k_ => (True ∧ some k_ ≠ (.slice Ao34 t111.length co34 : Value).ownBlock)) (n:=t117.length) (c:=co35) ?_).2.2;exact (by (with_reducible repeat (first|apply Kd.R_alloc|apply Kd.R_drewN|apply Kd.R_drew));exact (Kd.R_mono (Kd.R_far (p:=⟨gb122,1,none⟩) (Kd.R_far (p:=⟨gb122,0,none⟩) (Kd.R_types HO119.out BK122.out (by decide)) (fun _ hk => hk.2) (.int .i64 t120)) (fun _ hk => hk.2) (.int .i64 t121)) (fun _ h_ => h_.1))));(case side4 => exact (Kd.R_reads' HO119.out).2.1);rintro e w' ⟨rfl,⟨nd,rfl⟩⟩))
           go_ret
           exact ⟨by first|rfl|(simp [errW_none,errW_some] <;> rfl)|(simp [*,errW_none,errW_some] <;> rfl),by repeat (first|(with_reducible first|exact HB.out|apply below_alloc|apply pw_below_drewN|apply below_drew1|refine below_set ?_ GE116.out|refine below_set ?_ GE122.out)|exact HB.out)⟩
          ·rw [if_neg c22] at H
           exact absurd H (by simp)
         ·rw [if_neg c19] at H
          exact absurd H (by simp)
        ·rw [if_neg c18] at H
         exact absurd H (by simp)
       ·rw [if_neg c17] at H
        exact absurd H (by simp)
      ·replace c16:=Bool.eq_false_iff.mpr c16
       subst c16
       have H1 : ((threshold_Signers.f k1 l0 l1 l2).bind fun bt124 => ((threshold_Signers.f k1 l0 l1 x9_1).bind fun bt130 => (if ((bt124.2.1 == 0) == (bt130.2.1 == 0)) = true then ((changeforgeref5_Ints.f k1 bt124.1 bt130.1).bind fun t136 => (some t136)) else (none)))) = some r:=by rw [if_neg (show ¬ (false = true) by decide)] at H;exact H
       clear H
       have H:=H1
       clear H1
       replace H:=Option.bind_eq_some_iff.mp H
       obtain ⟨⟨t124,t127,t128⟩,A360,H⟩:=H
       replace H : ((threshold_Signers.f k1 l0 l1 x9_1).bind fun bt130 => (if ((t127 == 0) == (bt130.2.1 == 0)) = true then ((changeforgeref5_Ints.f k1 t124 bt130.1).bind fun t136 => (some t136)) else (none))) = some r:=H
       have A36:=Aside0.mk A360
       clear A360
       replace H:=Option.bind_eq_some_iff.mp H
       obtain ⟨⟨t130,t133,t134⟩,A370,H⟩:=H
       replace H : (if ((t127 == 0) == (t133 == 0)) = true then ((changeforgeref5_Ints.f k1 t124 t130).bind fun t136 => (some t136)) else (none)) = some r:=H
       have A37:=Aside0.mk A370
       clear A370
       by_cases c38 : ((t127 == 0) == (t133 == 0)) = true
       ·rw [if_pos c38] at H
        have c38b0 : ((t127 == 0) == (t133 == 0)) = true:=c38
        (try (have c38b1 : decide ((t127 == 0) = (t133 == 0)) = true:=by simpa using c38))
        (try (have c38b2 : ((t127 == 0) == (t133 == 0)) = true:=by simpa using c38))
        clear c38
        replace H:=Option.bind_eq_some_iff.mp H
        obtain ⟨t136,A390,H⟩:=H
        replace H : (some t136) = some r:=H
        have A39:=Aside0.mk A390
        clear A390
        obtain rfl:=Option.some.inj H
        go_wp2_with (first|((with_reducible refine gate_callee (f:=32) rfl ?_);refine goesL_ (some 38) rfl rfl Try.func32 (by kernel_rfl) rfl #[.int .i64 a3,.int .i64 0,.int .i64 (wrap64 ((l2.length : Int) - 1))] rfl (by (try simp only [List.map_toArray,List.map_cons,List.map_nil]);first|done|rfl|(simp only [List.length_drop,List.length_take];rfl)) ?_;(with_reducible refine (changeforgelaw5_in.calls a3 0 (wrap64 ((l2.length : Int) - 1)) false _ A15.out).mono ?_);rintro e w' ⟨rfl,⟨nd,rfl⟩⟩;refine ⟨_,rfl,?_⟩;(try (rw [drewN_self wr];generalize hq_ : World.drewN wr _ = wr;have n0_ : Aside0 (Kd.R k54 54 wr w.heap.size (fun _ => True) u9 x9_1):=⟨by rw [← hq_];exact (by (with_reducible repeat (first|apply Kd.R_alloc|apply Kd.R_drewN|apply Kd.R_drew));exact HO_9.out)⟩;have n1_ : Aside0 (Below w.heap.size w wr):=⟨by rw [← hq_];exact (by repeat (first|(with_reducible first|exact HB.out|apply below_alloc|apply pw_below_drewN|apply below_drew1)|exact HB.out))⟩;clear HO_9 HB hq_;have HO_9:=n0_;have HB:=n1_;clear n0_ n1_)))|((with_reducible refine gate_callee (f:=29) rfl ?_);refine goesL_ (some 50) rfl rfl Try.func29 (by kernel_rfl) rfl #[.slice A0 l0.length c0,.slice A1 l1.length c1,.slice A2 l2.length c2] rfl (by (try simp only [List.map_toArray,List.map_cons,List.map_nil]);first|done|rfl|(simp only [List.length_drop,List.length_take];rfl)) ?_;(with_reducible refine (threshold_Signers.calls k1 _ _ l0 _ _ l1 _ _ l2 t124 t127 t128 _ ?side1 ?side2 ?side3 ?side4 ?side5 ?side6 A36.out).mono ?_);(case side1 => repeat (first|exact (Kd.C_below HR0.out HB.out)|(with_reducible refine Kd.C_alloc ?_ _)|(with_reducible refine Kd.C_drewN ?_ _)|(with_reducible refine Kd.C_drew ?_)));(case side2 => exact HC0.out);(case side3 => repeat (first|exact (Kd.C_below HR1.out HB.out)|(with_reducible refine Kd.C_alloc ?_ _)|(with_reducible refine Kd.C_drewN ?_ _)|(with_reducible refine Kd.C_drew ?_)));(case side4 => exact HC1.out);(case side5 => repeat (first|exact (Kd.C_below HR2.out HB.out)|(with_reducible refine Kd.C_alloc ?_ _)|(with_reducible refine Kd.C_drewN ?_ _)|(with_reducible refine Kd.C_drew ?_)));(case side6 => exact HC2.out);rintro e w40 ⟨v125,rfl,ho0,hb⟩;refine ⟨_,rfl,?_⟩;have n0_:=Aside0.mk (Kd.R_below (by (with_reducible repeat (first|apply Kd.R_alloc|apply Kd.R_drewN|apply Kd.R_drew));exact HO_9.out) hb);have n1_:=Aside0.mk (Kd.R_lower ho0 (below_size (by repeat (first|(with_reducible first|exact HB.out|apply below_alloc|apply pw_below_drewN|apply below_drew1)|exact HB.out))));have n2_:=Aside0.mk (below_step (by repeat (first|(with_reducible first|exact HB.out|apply below_alloc|apply pw_below_drewN|apply below_drew1)|exact HB.out)) hb);clear HO_9;clear HB;have HO_9:=n0_;have HO126:=n1_;have HB:=n2_;clear n0_ n1_ n2_;(try clear hb);(try clear hb2);(try clear hk);(try clear hi);(try clear ho0))|((with_reducible refine gate_dst (N:=12) rfl ?_);refine box_event ?hg (N:=12) ?hd (cs:=#[.int .i64 0,.int .i64 0]) (t:=26) ?hr ?_;(case hd => rfl);(case hg => rfl);(case hr => first|(go_simp;done)|(go_simp;rfl));intro gb129 hg w41 hbox hb;have n0_:=Aside0.mk (Kd.R_below (by (with_reducible repeat (first|apply Kd.R_alloc|apply Kd.R_drewN|apply Kd.R_drew));exact HO_9.out) hb);have n1_:=Aside0.mk (Kd.R_below (by (with_reducible repeat (first|apply Kd.R_alloc|apply Kd.R_drewN|apply Kd.R_drew));exact HO126.out) hb);have n2_:=Aside0.mk (below_step (by repeat (first|(with_reducible first|exact HB.out|apply below_alloc|apply pw_below_drewN|apply below_drew1)|exact HB.out)) hb);have n3_:=Aside0.mk (hbox);have n4_:=Aside0.mk ((by rw [hg];exact (below_size (by repeat (first|(with_reducible first|exact HB.out|apply below_alloc|apply pw_below_drewN|apply below_drew1)|exact HB.out))) : w.heap.size ≤ gb129));have n5_:=Aside0.mk ((by rw [hg];exact (below_size (by repeat (first|(with_reducible first|exact HB.out|apply below_alloc|apply pw_below_drewN|apply below_drew1)|exact HB.out))) : w.heap.size ≤ gb129));clear HO_9;clear HO126;clear HB;have HO_9:=n0_;have HO126:=n1_;have HB:=n2_;have BK129:=n3_;have GW129:=n4_;have GE129:=n5_;clear n0_ n1_ n2_ n3_ n4_ n5_;clear hb hbox hg;have hcz42_0 : w41.cell? ⟨gb129,0,none⟩ = some (.int .i64 0):=(blk_cell BK129.out 0).trans rfl;have hcz42_1 : w41.cell? ⟨gb129,1,none⟩ = some (.int .i64 0):=(blk_cell BK129.out 1).trans rfl;have hfz42_0:=blk_frozen BK129.out 0;have hfz42_1:=blk_frozen BK129.out 1;obtain ⟨Ao43,co43,eo43⟩:=Kd.R_slice HO_9.out;subst eo43)|((with_reducible refine gate_callee (f:=29) rfl ?_);refine goesL_ (some 57) rfl rfl Try.func29 (by kernel_rfl) rfl #[.slice A0 l0.length c0,.slice A1 l1.length c1,.slice Ao43 x9_1.length co43] rfl (by (try simp only [List.map_toArray,List.map_cons,List.map_nil]);first|done|rfl|(simp only [List.length_drop,List.length_take];rfl)) ?_;(with_reducible refine (threshold_Signers.calls k1 _ _ l0 _ _ l1 _ _ x9_1 t130 t133 t134 _ ?side1 ?side2 ?side3 ?side4 ?side5 ?side6 A37.out).mono ?_);(case side1 => exact Kd.C_below HR0.out (by repeat (first|(with_reducible first|exact HB.out|apply below_alloc|apply pw_below_drewN|apply below_drew1|refine below_set ?_ GE129.out)|exact HB.out)));(case side2 => exact HC0.out);(case side3 => exact Kd.C_below HR1.out (by repeat (first|(with_reducible first|exact HB.out|apply below_alloc|apply pw_below_drewN|apply below_drew1|refine below_set ?_ GE129.out)|exact HB.out)));(case side4 => exact HC1.out);(case side5 => refine (Kd.R_reads' (e:=54) (base:=w.heap.size) (ok:=fun k_ => True) (n:=x9_1.length) (c:=co43) ?_).2.2;exact (by (with_reducible repeat (first|apply Kd.R_alloc|apply Kd.R_drewN|apply Kd.R_drew));exact (Kd.R_mono (Kd.R_far (p:=⟨gb129,1,none⟩) (Kd.R_far (p:=⟨gb129,0,none⟩) (Kd.R_types HO_9.out BK129.out (by decide)) (fun _ hk => hk.2) (.int .i64 t127)) (fun _ hk => hk.2) (.int .i64 t128)) (fun _ h_ => h_.1))));(case side6 => exact (Kd.R_reads' HO_9.out).2.1);rintro e w44 ⟨v131,rfl,ho0,hb⟩;refine ⟨_,rfl,?_⟩;have n0_:=Aside0.mk (Kd.R_below (by (with_reducible repeat (first|apply Kd.R_alloc|apply Kd.R_drewN|apply Kd.R_drew));exact (Kd.R_mono (Kd.R_far (p:=⟨gb129,1,none⟩) (Kd.R_far (p:=⟨gb129,0,none⟩) (Kd.R_types HO_9.out BK129.out (by decide)) (fun _ hk => hk.2) (.int .i64 t127)) (fun _ hk => hk.2) (.int .i64 t128)) (fun _ h_ => h_.1))) hb);have n1_:=Aside0.mk (Kd.R_elder' (by (with_reducible repeat (first|apply Kd.R_alloc|apply Kd.R_drewN|apply Kd.R_drew));exact (Kd.R_mono (Kd.R_far (p:=⟨gb129,1,none⟩) (Kd.R_far (p:=⟨gb129,0,none⟩) (Kd.R_types HO126.out BK129.out (by decide)) (fun _ hk => hk.2) (.int .i64 t127)) (fun _ hk => hk.2) (.int .i64 t128)) (fun _ h_ => h_.1))) (Kd.R_base ho0) hb);have n2_:=Aside0.mk (Kd.R_lower (Kd.R_new' ho0 (Kd.R_lt (by (with_reducible repeat (first|apply Kd.R_alloc|apply Kd.R_drewN|apply Kd.R_drew));exact (Kd.R_mono (Kd.R_far (p:=⟨gb129,1,none⟩) (Kd.R_far (p:=⟨gb129,0,none⟩) (Kd.R_types HO126.out BK129.out (by decide)) (fun _ hk => hk.2) (.int .i64 t127)) (fun _ hk => hk.2) (.int .i64 t128)) (fun _ h_ => h_.1))))) (below_size (by repeat (first|(with_reducible first|exact HB.out|apply below_alloc|apply pw_below_drewN|apply below_drew1|refine below_set ?_ GE129.out)|exact HB.out))));have n3_:=Aside0.mk (blk_below (g:=gb129) (o:=.cells #[.int .i64 t127,.int .i64 t128] 26 (0,0)) (by (with_reducible repeat (first|refine blk_drewN ?_ _|refine blk_drew ?_|refine blk_alloc ?_ _));refine blk_put (cs:=#[.int .i64 t127,.int .i64 0]) ?_ 1 _ rfl;(with_reducible repeat (first|refine blk_drewN ?_ _|refine blk_drew ?_|refine blk_alloc ?_ _));refine blk_put (cs:=#[.int .i64 0,.int .i64 0]) ?_ 0 _ rfl;(with_reducible repeat (first|refine blk_drewN ?_ _|refine blk_drew ?_|refine blk_alloc ?_ _));exact BK129.out) hb);have n4_:=Aside0.mk (below_step (by repeat (first|(with_reducible first|exact HB.out|apply below_alloc|apply pw_below_drewN|apply below_drew1|refine below_set ?_ GE129.out)|exact HB.out)) hb);clear HO_9;clear HO126;clear BK129;clear HB;have HO_9:=n0_;have HO126:=n1_;have HO132:=n2_;have BK129:=n3_;have HB:=n4_;clear n0_ n1_ n2_ n3_ n4_;(try clear hb);(try clear hb2);(try clear hk);(try clear hi);(try clear ho0))|((with_reducible refine gate_dst (N:=14) rfl ?_);refine box_event ?hg (N:=14) ?hd (cs:=#[.int .i64 0,.int .i64 0]) (t:=26) ?hr ?_;(case hd => rfl);(case hg => rfl);(case hr => first|(go_simp;done)|(go_simp;rfl));intro gb135 hg w45 hbox hb;have n0_:=Aside0.mk (Kd.R_below (by (with_reducible repeat (first|apply Kd.R_alloc|apply Kd.R_drewN|apply Kd.R_drew));exact HO126.out) hb);have n1_:=Aside0.mk (Kd.R_below (by (with_reducible repeat (first|apply Kd.R_alloc|apply Kd.R_drewN|apply Kd.R_drew));exact HO132.out) hb);have n2_:=Aside0.mk (blk_below (g:=gb129) (o:=.cells #[.int .i64 t127,.int .i64 t128] 26 (0,0)) (by (with_reducible repeat (first|refine blk_drewN ?_ _|refine blk_drew ?_|refine blk_alloc ?_ _));exact BK129.out) hb);have n3_:=Aside0.mk (below_step (by repeat (first|(with_reducible first|exact HB.out|apply below_alloc|apply pw_below_drewN|apply below_drew1|refine below_set ?_ GE129.out)|exact HB.out)) hb);have n4_:=Aside0.mk (hbox);have n5_:=Aside0.mk ((by rw [hg];exact (below_size (by repeat (first|(with_reducible first|exact HB.out|apply below_alloc|apply pw_below_drewN|apply below_drew1|refine below_set ?_ GE129.out)|exact HB.out))) : w.heap.size ≤ gb135));have n6_:=Aside0.mk ((by rw [hg];exact (below_size (by repeat (first|(with_reducible first|exact HB.out|apply below_alloc|apply pw_below_drewN|apply below_drew1|refine below_set ?_ GE129.out)|exact HB.out))) : w.heap.size ≤ gb135));have n7_:=Aside0.mk ((by rw [hg];exact Nat.ne_of_lt (blk_lt (g:=gb129) (o:=.cells #[.int .i64 t127,.int .i64 t128] 26 (0,0)) (by (with_reducible repeat (first|refine blk_drewN ?_ _|refine blk_drew ?_|refine blk_alloc ?_ _));exact BK129.out)) : gb129 ≠ gb135));have n8_:=Aside0.mk ((by rw [hg];exact Nat.ne_of_gt (blk_lt (g:=gb129) (o:=.cells #[.int .i64 t127,.int .i64 t128] 26 (0,0)) (by (with_reducible repeat (first|refine blk_drewN ?_ _|refine blk_drew ?_|refine blk_alloc ?_ _));exact BK129.out)) : gb135 ≠ gb129));clear HO126;clear HO132;clear BK129;clear HB;have HO126:=n0_;have HO132:=n1_;have BK129:=n2_;have HB:=n3_;have BK135:=n4_;have GW135:=n5_;have GE135:=n6_;have NB129_135:=n7_;have NB135_129:=n8_;clear n0_ n1_ n2_ n3_ n4_ n5_ n6_ n7_ n8_;clear hb hbox hg;have hnb46:=NB135_129.out;have hnc46:=NB129_135.out;have hcz47_0 : w45.cell? ⟨gb135,0,none⟩ = some (.int .i64 0):=(blk_cell BK135.out 0).trans rfl;have hcz47_1 : w45.cell? ⟨gb135,1,none⟩ = some (.int .i64 0):=(blk_cell BK135.out 1).trans rfl;have hfz47_0:=blk_frozen BK135.out 0;have hfz47_1:=blk_frozen BK135.out 1;have hcz48_0 : w45.cell? ⟨gb129,0,none⟩ = some (.int .i64 t127):=(blk_cell BK129.out 0).trans rfl;have hcz48_1 : w45.cell? ⟨gb129,1,none⟩ = some (.int .i64 t128):=(blk_cell BK129.out 1).trans rfl;have hfz48_0:=blk_frozen BK129.out 0;have hfz48_1:=blk_frozen BK129.out 1;obtain ⟨Ao49,co49,eo49⟩:=Kd.R_slice HO126.out;subst eo49;obtain ⟨Ao50,co50,eo50⟩:=Kd.R_slice HO132.out;subst eo50)|(go_at_call 24;(with_reducible refine (changeforgeref5_Ints.calls k1 _ _ t124 _ _ t130 t136 _ ?side1 ?side2 ?side3 ?side4 A39.out).mono ?_);(case side1 => refine (Kd.R_reads' (e:=3) (base:=w.heap.size) (ok:=fun k_ => (True ∧ some k_ ≠ (.slice Ao50 t130.length co50 : Value).ownBlock)) (n:=t124.length) (c:=co49) ?_).2.2;exact (by (with_reducible repeat (first|apply Kd.R_alloc|apply Kd.R_drewN|apply Kd.R_drew));exact (Kd.R_mono (Kd.R_far (p:=⟨gb135,1,none⟩) (Kd.R_far (p:=⟨gb135,0,none⟩) (Kd.R_types HO126.out BK135.out (by decide)) (fun _ hk => hk.2) (.int .i64 t133)) (fun _ hk => hk.2) (.int .i64 t134)) (fun _ h_ => h_.1))));(case side2 => exact (Kd.R_reads' HO126.out).2.1);(case side3 => refine (Kd.R_reads' (e:=3) (base:=w.heap.size) (ok:=fun k_ => (True ∧ some k_ ≠ (.slice Ao49 t124.length co49 : Value).ownBlock)) (n:=t130.length) (c:=co50) ?_).2.2;exact (by (with_reducible repeat (first|apply Kd.R_alloc|apply Kd.R_drewN|apply Kd.R_drew));exact (Kd.R_mono (Kd.R_far (p:=⟨gb135,1,none⟩) (Kd.R_far (p:=⟨gb135,0,none⟩) (Kd.R_types HO132.out BK135.out (by decide)) (fun _ hk => hk.2) (.int .i64 t133)) (fun _ hk => hk.2) (.int .i64 t134)) (fun _ h_ => h_.1))));(case side4 => exact (Kd.R_reads' HO132.out).2.1);rintro e w' ⟨rfl,⟨nd,rfl⟩⟩))
        go_ret
        exact ⟨by first|rfl|(simp [errW_none,errW_some] <;> rfl)|(simp [*,errW_none,errW_some] <;> rfl),by repeat (first|(with_reducible first|exact HB.out|apply below_alloc|apply pw_below_drewN|apply below_drew1|refine below_set ?_ GE129.out|refine below_set ?_ GE135.out)|exact HB.out)⟩
       ·rw [if_neg c38] at H
        exact absurd H (by simp)
 ·replace c6:=Bool.eq_false_iff.mpr c6
  subst c6
  have H1 : (none) = some r:=by rw [if_neg (show ¬ (false = true) by decide)] at H;exact H
  clear H
  have H:=H1
  clear H1
  exact absurd H (by simp)

end Go.Proofs.Ytmpboljmigigfaa.Fn
