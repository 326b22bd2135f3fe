/- A function of the program as a plain Lean function, and the proof that the call comes to just what it says (written by wip/tools/xprint.py for this claim). Condition: the plain function has an answer. -/
import Derived.Test.YtnkonhplfldlmaaFn0
import Derived.Test.YtnkonhplfldlmaaFf54
import Derived.Test.YtnkonhplfldlmaaFs0
import Derived.Test.YtnkonhplfldlmaaWA
import Derived.Test.YtnkonhplfldlmaaTight
namespace Go.Proofs.Ytnkonhplfldlmaa.Fn
open Go.RowKit Go.Proofs.YtnkonhplfldlmaaW.PrintWords Go.Proofs.YtnkonhplfldlmaaW.PrintLast Go.Proofs.YtnkonhplfldlmaaW.PrintMore
attribute [local go_sem] max2_int min2_int max_two min_two max_three min_three max_four min_four   -- for this text's walks alone
set_option linter.unusedVariables false
set_option linter.unusedSimpArgs false

/-! ### translog_prove: function 55 -/
def translog_prove.f : Nat → List Int → Int → Option (List Int)
 | 0,_,_ => none
 | k + 1,l0,a1 => if (l0.length : Int) = 1 then (some ([] : List Int)) else ((translog_split.f (l0.length : Int)).bind fun t101 => (if a1 < t101 then (if 0 ≤ t101 then (if t101 ≤ (l0.length : Int) then ((translog_prove.f k (l0.take (t101 : Int).toNat) a1).bind fun t103 => ((translog_root.f k (l0.drop (t101 : Int).toNat)).bind fun t107 => (if t103.length < 17592186044416 then (some (t103 ++ [t107])) else (none)))) else (none)) else (none)) else (if 0 ≤ t101 then (if t101 ≤ (l0.length : Int) then ((translog_prove.f k (l0.drop (t101 : Int).toNat) (wrap64 (a1 - t101))).bind fun t112 => ((translog_root.f k (l0.take (t101 : Int).toNat)).bind fun t116 => (if t112.length < 17592186044416 then (some (t112 ++ [t116])) else (none)))) else (none)) else (none))))
theorem translog_prove.mono_l : ∀ k,(∀ y0 y1,LeO (translog_prove.f k y0 y1) (translog_prove.f (k + 1) y0 y1))
 | 0 => fun _ _ r h => by simp [translog_prove.f] at h
 | k + 1 => by
  have ih0:=translog_prove.mono_l k
  ·intro y0 y1
   unfold translog_prove.f;repeat' first
   | (with_reducible exact ih0 _ _)
   | (with_reducible exact translog_root.mono _ _)
   | (with_reducible exact LeO.refl _)
   | (with_reducible exact LeO.none _)
   | (with_reducible refine LeO.ite ?_ ?_)
   | (with_reducible refine LeO.bind ?_ (fun _ => ?_))
   | exact ih0 _ _
   | exact translog_root.mono _ _
   | exact LeO.none _
   | refine LeO.ite ?_ ?_
   | refine LeO.bind ?_ (fun _ => ?_)
theorem translog_prove.mono : ∀ a0 a1 k,LeO (translog_prove.f k a0 a1) (translog_prove.f (k + 1) a0 a1):=by
 intro a0 a1 k;have ih0:=translog_prove.mono_l k;exact ih0 a0 a1
def translog_prove.T6 : Bool × List (List Nat × List Nat):=(true,[([],[]),([],[]),([0,1],[0,1]),([],[]),([2,3],[2,3]),([],[]),([],[]),([5,6],[5,6]),([7,4],[7]),([8],[8]),([4,9,8],[4,9]),([10,10,0,1,2,3,4,5,6,7,8,9,10],[10])])
def translog_prove.B6 : List Nat:=[0,0,3,0,15,0,0,96,255,511,1023,2047]
theorem translog_prove.tab6 : rtab .any (opsOf Try.f55 6) = translog_prove.T6:=by kernel_rfl
theorem translog_prove.bits6 : waitsOk translog_prove.T6.2 translog_prove.B6 = true:=by kernel_rfl
def translog_prove.T7 : Bool × List (List Nat × List Nat):=(true,[([],[]),([],[]),([0,1],[0,1]),([],[]),([],[]),([3,4],[3,4]),([2,5],[2,5]),([],[]),([],[]),([7,8],[7,8]),([9,6],[9]),([10],[10]),([6,11,10],[6,11]),([12,12,0,1,2,3,4,5,6,7,8,9,10,11,12],[12])])
def translog_prove.B7 : List Nat:=[0,0,3,0,0,24,63,0,0,384,1023,2047,4095,8191]
theorem translog_prove.tab7 : rtab .any (opsOf Try.f55 7) = translog_prove.T7:=by kernel_rfl
theorem translog_prove.bits7 : waitsOk translog_prove.T7.2 translog_prove.B7 = true:=by kernel_rfl
set_option maxHeartbeats 8000000 in
set_option maxRecDepth 100000 in
theorem translog_prove.calls (k : Nat) : ∀ (A0 : Option Addr) (c0 : Nat) (l0 : List Int) (a1 : Int) (r : List Int) (w : World) (hr0 : Kd.C (Kd.int .i64) w A0 l0.length l0) (hc0 : l0.length ≤ c0) (h : translog_prove.f k l0 a1 = some r),
  Calls Try.prog 55 #[.slice A0 l0.length c0,.int .i64 a1] w fun e w' => ∃ v0_ : Value,e = .returned (v0_) ∧ Kd.R (Kd.int .i64) 3 w' w.heap.size (fun _ => True) v0_ r ∧ Below w.heap.size w w':=by
 induction k using Nat.strongRecOn with
 | _ k ih =>
 intro A0 c0 l0 a1 r w hr0 hc0 h;cases k with
 | zero => exact absurd h (by simp [translog_prove.f])
 | succ k =>
 simp only [translog_prove.f] at h;have HR0:=Aside0.mk hr0;have HC0:=Aside0.mk hc0;clear hr0 hc0;have HB:=Aside0.mk (Below.refl w.heap.size w);have H : (if (l0.length : Int) = 1 then (some ([] : List Int)) else ((translog_split.f (l0.length : Int)).bind fun t101 => (if a1 < t101 then (if 0 ≤ t101 then (if t101 ≤ (l0.length : Int) then ((translog_prove.f k (l0.take (t101 : Int).toNat) a1).bind fun t103 => ((translog_root.f k (l0.drop (t101 : Int).toNat)).bind fun t107 => (if t103.length < 17592186044416 then (some (t103 ++ [t107])) else (none)))) else (none)) else (none)) else (if 0 ≤ t101 then (if t101 ≤ (l0.length : Int) then ((translog_prove.f k (l0.drop (t101 : Int).toNat) (wrap64 (a1 - t101))).bind fun t112 => ((translog_root.f k (l0.take (t101 : Int).toNat)).bind fun t116 => (if t112.length < 17592186044416 then (some (t112 ++ [t116])) else (none)))) else (none)) else (none))))) = some r:=h;clear h;by_cases c3 : (l0.length : Int) = 1
 ·rw [if_pos c3] at H
  have c3b0 : ((l0.length : Int) == 1) = true:=beq_iff_eq.mpr c3;have c3b1 : ((l0.length : Int) != 1) = false:=bne_eq_false_iff_eq.mpr c3;clear c3;obtain rfl:=Option.some.inj H;go_enter Try.func55,Try.ntmps55;go_wp2;go_ret;exact ⟨_,by first|rfl|(simp [errW_none,errW_some] <;> rfl)|(simp [*,errW_none,errW_some] <;> rfl),by first|exact Kd.R_nil _ _ _ _ _|exact Kd.N_nil _ _ _ _ _|exact Kd.V_nil _ _ _ _ _|exact Kd.Q_nil _ _ _ _ _|exact Kd.S_nil _ _ _ _ _,bel_⟩
 ·rw [if_neg c3] at H
  have c3b0 : ((l0.length : Int) == 1) = false:=beq_eq_false_iff_ne.mpr c3;have c3b1 : ((l0.length : Int) != 1) = true:=bne_iff_ne.mpr c3;replace H:=Option.bind_eq_some_iff.mp H;obtain ⟨t101,A40,H⟩:=H;replace H : (if a1 < t101 then (if 0 ≤ t101 then (if t101 ≤ (l0.length : Int) then ((translog_prove.f k (l0.take (t101 : Int).toNat) a1).bind fun t103 => ((translog_root.f k (l0.drop (t101 : Int).toNat)).bind fun t107 => (if t103.length < 17592186044416 then (some (t103 ++ [t107])) else (none)))) else (none)) else (none)) else (if 0 ≤ t101 then (if t101 ≤ (l0.length : Int) then ((translog_prove.f k (l0.drop (t101 : Int).toNat) (wrap64 (a1 - t101))).bind fun t112 => ((translog_root.f k (l0.take (t101 : Int).toNat)).bind fun t116 => (if t112.length < 17592186044416 then (some (t112 ++ [t116])) else (none)))) else (none)) else (none))) = some r:=H;have A4:=Aside0.mk A40;clear A40;by_cases c5 : a1 < t101
  ·rw [if_pos c5] at H
   have c5b0 : decide (a1 < t101) = true:=decide_eq_true c5;clear c5;by_cases c6 : 0 ≤ t101
   ·rw [if_pos c6] at H
    have c6b0:=eq_true c6;have c6b1 : decide (0 ≤ t101) = true:=decide_eq_true c6;clear c6;by_cases c7 : t101 ≤ (l0.length : Int)
    ·rw [if_pos c7] at H
     have c7b0:=eq_true c7;have c7b1 : decide (t101 ≤ (l0.length : Int)) = true:=decide_eq_true c7;clear c7;replace H:=Option.bind_eq_some_iff.mp H;obtain ⟨t103,A80,H⟩:=H;replace H : ((translog_root.f k (l0.drop (t101 : Int).toNat)).bind fun t107 => (if t103.length < 17592186044416 then (some (t103 ++ [t107])) else (none))) = some r:=H;have A8:=Aside0.mk A80;clear A80;have c9b0:=eq_true (of_decide_eq_true as_ : 0 ≤ t101);have c10b0:=eq_true (of_decide_eq_true as_ : t101 ≤ (l0.length : Int));replace H:=Option.bind_eq_some_iff.mp H;obtain ⟨t107,A110,H⟩:=H;replace H : (if t103.length < 17592186044416 then (some (t103 ++ [t107])) else (none)) = some r:=H;have A11:=Aside0.mk A110;clear A110;by_cases c12 : t103.length < 17592186044416
     ·rw [if_pos c12] at H
      have LMc12:=Aside0.mk c12;clear c12;obtain ⟨y108,hy108⟩ : ∃ y_ : List Int,y_ = (t103 ++ [t107]):=⟨_,rfl⟩;replace H : (some y108) = some r:=by first|(rw [hy108];with_reducible exact H)|(have H2_:=(Option.bind_some _ _).symm.trans H;rw [hy108];with_reducible exact H2_)|(have H2_:=(Option.bind_some _ _).symm.trans H;with_reducible exact H2_)|with_reducible exact H|(rw [hy108];exact H)|exact H
      have Ny108:=Aside0.mk hy108;clear hy108;obtain rfl:=Option.some.inj H;go_enter Try.func55,Try.ntmps55;try go_wp2_with (first|((with_reducible refine gate_callee (f:=69) rfl ?_);refine goesL_ (some 12) rfl rfl Try.func69 (by kernel_rfl) rfl #[.int .i64 (l0.length : Int)] rfl ln_ ?_;(with_reducible refine (translog_split.calls (l0.length : Int) t101 _ A4.out).mono ?_);rintro e w' ⟨rfl,⟨nd,rfl⟩⟩;refine ⟨_,rfl,?_⟩))
      generalize hq_ : World.drewN w _ = w13;have n0_ : Aside0 (Below w.heap.size w w13):=⟨by rw [← hq_];exact bel_⟩;clear HB hq_;have HB:=n0_;clear n0_;replace HB:=Aside0.mk (below_drew1 HB.out);obtain ⟨i015,hi015,_,hsz15,_⟩:=info_parts info3;obtain ⟨hcut15,hA15,hC15⟩:=print_take_of (P:=Try.prog) (Value.int .i64) 0 36 3 .i64 Try.underlying36 hi015 hsz15 A0 c0 l0 t101 (of_decide_eq_true as_) (of_decide_eq_true as_) HC0.out;have HR102:=Aside0.mk (Kd.C_of_reads (h1:=fun _ => rfl) (hA15 _ (Kd.reads_of_C HR0.out)));have HC102:=Aside0.mk hC15;clear hA15 hC15 hi015 hsz15;obtain ⟨i016,hi016,_,hsz16,_⟩:=info_parts info3;obtain ⟨A16,hcut16,hA16,hC16⟩:=print_drop_of (P:=Try.prog) (Value.int .i64) 0 36 3 .i64 Try.underlying36 hi016 hsz16 A0 c0 l0 t101 (of_decide_eq_true as_) (of_decide_eq_true as_) HC0.out;have HR106:=Aside0.mk (Kd.C_of_reads (h1:=fun _ => rfl) (hA16 _ (Kd.reads_of_C HR0.out)));have HC106:=Aside0.mk hC16;clear hA16 hC16 hi016 hsz16;refine start_ (n:=12) (S:=fun w' => True) (ds:=[]) (bl_ 12 0) (by kernel_rfl) rfl rfl trivial (fun hHeld => ?_);refine with_tabW translog_prove.tab6 translog_prove.bits6 (fun HT_ HW_ => ?_);generalize w13.drew = w14 at HB HR102 HR106 hHeld ⊢;refine pu_ (v:=?_) (a':=?_) 0 16 (bl_ 12 1) rfl rfl HT_.out ?_ ?_ ?_;rotate_left
      ·intro w'
       go_simp;with_reducible rfl
      rotate_left
      ·simp only [Act.put,sa_,sb_,sc_,i64_w,i32_w]
       rfl
      refine pu_ (v:=?_) (a':=?_) 1 17 (bl_ 12 3) rfl rfl HT_.out ?_ ?_ ?_;rotate_left
      ·intro w'
       go_simp;with_reducible rfl
      rotate_left
      ·simp only [Act.put,sa_,sb_,sc_,i64_w,i32_w]
       rfl
      refine pu_ (v:=?_) (a':=?_) 2 18 (bl_ 12 7) rfl rfl HT_.out ?_ ?_ ?_;rotate_left
      ·intro w'
       go_simp;with_reducible rfl
      rotate_left
      ·simp only [Act.put,sa_,sb_,sc_,i64_w,i32_w]
       rfl
      refine pu_ (v:=?_) (a':=?_) 3 19 (bl_ 12 15) rfl rfl HT_.out ?_ ?_ ?_;rotate_left
      ·intro w'
       go_simp;with_reducible rfl
      rotate_left
      ·simp only [Act.put,sa_,sb_,sc_,i64_w,i32_w]
       rfl
      refine pu_ (v:=?_) (a':=?_) 5 21 (bl_ 12 47) rfl rfl HT_.out ?_ ?_ ?_;rotate_left
      ·intro w'
       go_simp;with_reducible rfl
      rotate_left
      ·simp only [Act.put,sa_,sb_,sc_,i64_w,i32_w]
       rfl
      refine pu_ (v:=?_) (a':=?_) 6 22 (bl_ 12 111) rfl rfl HT_.out ?_ ?_ ?_;rotate_left
      ·intro w'
       go_simp;with_reducible rfl
      rotate_left
      ·simp only [Act.put,sa_,sb_,sc_,i64_w,i32_w]
       rfl
      refine pu_ (v:=?_) (a':=?_) 7 23 (bl_ 12 239) rfl rfl HT_.out ?_ ?_ ?_;rotate_left
      ·intro w'
       go_simp;with_reducible rfl
      rotate_left
      ·simp only [Act.put,sa_,sb_,sc_,i64_w,i32_w]
       rfl
      refine one_ (i:=4) (N:=some 20) (bl_ 12 255) rfl rfl (one_of HT_.out (by kernel_rfl)) (by decide) (fun K hK => ?_);refine goes_ Try.func55 (by kernel_rfl) rfl #[.slice A0 (l0.take (t101 : Int).toNat).length c0,.int .i64 a1] (by rfl) rfl rfl (by (try simp only [List.map_toArray,List.map_cons,List.map_nil]);first|done|(rw [show (l0.take (t101 : Int).toNat).length = t101.toNat from (by rw [List.length_take];have h_ : (t101 : Int) ≤ (l0.length : Int):=of_decide_eq_true as_;omega)] <;> rfl)|rfl|(simp only [List.length_drop,List.length_take];rfl)) ?_;with_reducible refine (ih k (by omega) _ _ (l0.take (t101 : Int).toNat) a1 t103 _ ?side1 ?side2 A8.out).mono ?_
      (case side1 => first|exact (Kd.C_below HR102.out HB.out)|exact Kd.C_mv (Kd.C_below HR102.out HB.out));(case side2 => exact HC102.out);rintro e w17 ⟨v104,rfl,ho0,hb⟩;refine ⟨_,rfl,?_⟩;have HO105:=Aside0.mk (Kd.R_lower ho0 (below_size bel_));replace HB:=Aside0.mk (below_step bel_ hb);(try clear hb);(try clear ho0);refine hK.out _ _ trivial (fun hHeld => ?_);clear hK K;refine norm_ (a':=?_) ?_ ?_;rotate_left
      ·show Act.put _ (some 20) _ = _
       simp only [Act.put,sa_,sb_,sc_,i64_w,i32_w];rfl
      refine one_ (i:=8) (N:=some 24) (bl_ 12 511) rfl rfl (one_of HT_.out (by kernel_rfl)) (by decide) (fun K hK => ?_);refine goes_ Try.func54 (by kernel_rfl) rfl #[.slice A16 (l0.drop (t101 : Int).toNat).length (c0 - t101.toNat)] (by rfl) rfl rfl (by (try simp only [List.map_toArray,List.map_cons,List.map_nil]);first|done|(rw [show (l0.drop (t101 : Int).toNat).length = (l0.length - t101.toNat) from List.length_drop] <;> rfl)|rfl|(simp only [List.length_drop,List.length_take];rfl)) ?_;with_reducible refine (translog_root.calls k _ _ (l0.drop (t101 : Int).toNat) t107 _ ?side1 ?side2 A11.out).mono ?_
      (case side1 => first|exact (Kd.C_below HR106.out HB.out)|exact Kd.C_mv (Kd.C_below HR106.out HB.out));(case side2 => exact HC106.out);rintro e w18 ⟨rfl,hb⟩;refine ⟨_,rfl,?_⟩;replace HO105:=Aside0.mk (Kd.R_below (Kd.R_mv HO105.out) hb);replace HB:=Aside0.mk (below_step bel_ hb);(try clear hb);refine hK.out _ _ trivial (fun hHeld => ?_);clear hK K;refine norm_ (a':=?_) ?_ ?_;rotate_left
      ·show Act.put _ (some 24) _ = _
       simp only [Act.put,sa_,sb_,sc_,i64_w,i32_w];rfl
      refine one_ (i:=9) (N:=some 25) (bl_ 12 1023) rfl rfl (one_of HT_.out (by kernel_rfl)) (by decide) (fun K hK => ?_);refine value_ (w1:=?_) (v:=?_) (by rfl) rfl ?_ ?_;rotate_left 2
      ·go_simp
       constructor
       ·rfl
       ·rfl
      refine hK.out _ _ trivial (fun hHeld => ?_);clear hK K;refine norm_ (a':=?_) ?_ ?_;rotate_left
      ·show Act.put _ (some 25) _ = _
       simp only [Act.put,sa_,sb_,sc_,i64_w,i32_w];rfl
      refine one_ (i:=10) (N:=some 26) (bl_ 12 2047) rfl rfl (one_of HT_.out (by kernel_rfl)) (by decide) (fun K hK => ?_);refine Kd.R_append_step (Kd.int .i64) (w0:=w) w.heap.size (by rfl) (.tmp 20) (.tmp 25) 36 3 (.int .i64 0) 8 rfl Try.underlying36 info3 rfl (by decide) (by omega) v104 t103 t107 [.int .i64 t107] (fun _ => True) (fun _ => False) rfl rfl ?aP (fun _ hk => hk.elim) ?aF ?aO ?aB ?aS ?aL ?_;(case aP => exact rfl);(case aB => exact bel_);(case aF => exact (fun _ _ => trivial));(case aO => exact (Kd.R_mv HO105.out));(case aS => exact (below_size bel_));(case aL => have:=LMc12.out;omega);intro v109 w19 ho hb hg hat
      rw [← Ny108.out] at ho;replace HB:=Aside0.mk (hb);have HO110:=Aside0.mk (ho);clear HO105 ho hb hg hat
      refine hK.out _ _ trivial (fun hHeld => ?_);clear hK K;refine norm_ (a':=?_) ?_ ?_;rotate_left
      ·show Act.put _ (some 26) _ = _
       simp only [Act.put,sa_,sb_,sc_,i64_w,i32_w];rfl
      refine pu_ (v:=?_) (a':=?_) 11 4 (bl_ 12 4095) rfl rfl HT_.out ?_ ?_ ?_;rotate_left
      ·intro w'
       go_simp;with_reducible rfl
      rotate_left
      ·simp only [Act.put,sa_,sb_,sc_,i64_w,i32_w]
       rfl
      refine done_ (done_of HT_.out (by kernel_rfl)) ?_;try go_wp2
      go_ret;exact ⟨_,by first|rfl|(simp [errW_none,errW_some] <;> rfl)|(simp [*,errW_none,errW_some] <;> rfl),Kd.R_mv HO110.out,bel_⟩
     ·rw [if_neg c12] at H
      exact absurd H (by simp)
    ·rw [if_neg c7] at H
     exact absurd H (by simp)
   ·rw [if_neg c6] at H
    exact absurd H (by simp)
  ·rw [if_neg c5] at H
   have c5b0 : decide (a1 < t101) = false:=decide_eq_false c5;clear c5;by_cases c20 : 0 ≤ t101
   ·rw [if_pos c20] at H
    have c20b0:=eq_true c20;have c20b1 : decide (0 ≤ t101) = true:=decide_eq_true c20;clear c20;by_cases c21 : t101 ≤ (l0.length : Int)
    ·rw [if_pos c21] at H
     have c21b0:=eq_true c21;have c21b1 : decide (t101 ≤ (l0.length : Int)) = true:=decide_eq_true c21;clear c21;replace H:=Option.bind_eq_some_iff.mp H;obtain ⟨t112,A220,H⟩:=H;replace H : ((translog_root.f k (l0.take (t101 : Int).toNat)).bind fun t116 => (if t112.length < 17592186044416 then (some (t112 ++ [t116])) else (none))) = some r:=H;have A22:=Aside0.mk A220;clear A220;have c23b0:=eq_true (of_decide_eq_true as_ : 0 ≤ t101);have c24b0:=eq_true (of_decide_eq_true as_ : t101 ≤ (l0.length : Int));replace H:=Option.bind_eq_some_iff.mp H;obtain ⟨t116,A250,H⟩:=H;replace H : (if t112.length < 17592186044416 then (some (t112 ++ [t116])) else (none)) = some r:=H;have A25:=Aside0.mk A250;clear A250;by_cases c26 : t112.length < 17592186044416
     ·rw [if_pos c26] at H
      have LMc26:=Aside0.mk c26;clear c26;obtain ⟨y117,hy117⟩ : ∃ y_ : List Int,y_ = (t112 ++ [t116]):=⟨_,rfl⟩;replace H : (some y117) = some r:=by first|(rw [hy117];with_reducible exact H)|(have H2_:=(Option.bind_some _ _).symm.trans H;rw [hy117];with_reducible exact H2_)|(have H2_:=(Option.bind_some _ _).symm.trans H;with_reducible exact H2_)|with_reducible exact H|(rw [hy117];exact H)|exact H
      have Ny117:=Aside0.mk hy117;clear hy117;obtain rfl:=Option.some.inj H;go_enter Try.func55,Try.ntmps55;try go_wp2_with (first|((with_reducible refine gate_callee (f:=69) rfl ?_);refine goesL_ (some 12) rfl rfl Try.func69 (by kernel_rfl) rfl #[.int .i64 (l0.length : Int)] rfl ln_ ?_;(with_reducible refine (translog_split.calls (l0.length : Int) t101 _ A4.out).mono ?_);rintro e w' ⟨rfl,⟨nd,rfl⟩⟩;refine ⟨_,rfl,?_⟩))
      generalize hq_ : World.drewN w _ = w27;have n0_ : Aside0 (Below w.heap.size w w27):=⟨by rw [← hq_];exact bel_⟩;clear HB hq_;have HB:=n0_;clear n0_;replace HB:=Aside0.mk (below_drew1 HB.out);obtain ⟨i029,hi029,_,hsz29,_⟩:=info_parts info3;obtain ⟨A29,hcut29,hA29,hC29⟩:=print_drop_of (P:=Try.prog) (Value.int .i64) 0 36 3 .i64 Try.underlying36 hi029 hsz29 A0 c0 l0 t101 (of_decide_eq_true as_) (of_decide_eq_true as_) HC0.out;have HR111:=Aside0.mk (Kd.C_of_reads (h1:=fun _ => rfl) (hA29 _ (Kd.reads_of_C HR0.out)));have HC111:=Aside0.mk hC29;clear hA29 hC29 hi029 hsz29;obtain ⟨i030,hi030,_,hsz30,_⟩:=info_parts info3;obtain ⟨hcut30,hA30,hC30⟩:=print_take_of (P:=Try.prog) (Value.int .i64) 0 36 3 .i64 Try.underlying36 hi030 hsz30 A0 c0 l0 t101 (of_decide_eq_true as_) (of_decide_eq_true as_) HC0.out;have HR115:=Aside0.mk (Kd.C_of_reads (h1:=fun _ => rfl) (hA30 _ (Kd.reads_of_C HR0.out)));have HC115:=Aside0.mk hC30;clear hA30 hC30 hi030 hsz30;refine start_ (n:=14) (S:=fun w' => True) (ds:=[]) (bl_ 14 0) (by kernel_rfl) rfl rfl trivial (fun hHeld => ?_);refine with_tabW translog_prove.tab7 translog_prove.bits7 (fun HT_ HW_ => ?_);generalize w27.drew = w28 at HB HR111 HR115 hHeld ⊢;refine pu_ (v:=?_) (a':=?_) 0 27 (bl_ 14 1) rfl rfl HT_.out ?_ ?_ ?_;rotate_left
      ·intro w'
       go_simp;with_reducible rfl
      rotate_left
      ·simp only [Act.put,sa_,sb_,sc_,i64_w,i32_w]
       rfl
      refine pu_ (v:=?_) (a':=?_) 1 28 (bl_ 14 3) rfl rfl HT_.out ?_ ?_ ?_;rotate_left
      ·intro w'
       go_simp;with_reducible rfl
      rotate_left
      ·simp only [Act.put,sa_,sb_,sc_,i64_w,i32_w]
       rfl
      refine pu_ (v:=?_) (a':=?_) 2 29 (bl_ 14 7) rfl rfl HT_.out ?_ ?_ ?_;rotate_left
      ·intro w'
       go_simp;with_reducible rfl
      rotate_left
      ·simp only [Act.put,sa_,sb_,sc_,i64_w,i32_w]
       rfl
      refine pu_ (v:=?_) (a':=?_) 3 30 (bl_ 14 15) rfl rfl HT_.out ?_ ?_ ?_;rotate_left
      ·intro w'
       go_simp;with_reducible rfl
      rotate_left
      ·simp only [Act.put,sa_,sb_,sc_,i64_w,i32_w]
       rfl
      refine pu_ (v:=?_) (a':=?_) 4 31 (bl_ 14 31) rfl rfl HT_.out ?_ ?_ ?_;rotate_left
      ·intro w'
       go_simp;with_reducible rfl
      rotate_left
      ·simp only [Act.put,sa_,sb_,sc_,i64_w,i32_w]
       rfl
      refine pu_ (v:=?_) (a':=?_) 5 32 (bl_ 14 63) rfl rfl HT_.out ?_ ?_ ?_;rotate_left
      ·intro w'
       go_simp;with_reducible rfl
      rotate_left
      ·simp only [Act.put,sa_,sb_,sc_,i64_w,i32_w]
       rfl
      refine pu_ (v:=?_) (a':=?_) 7 34 (bl_ 14 191) rfl rfl HT_.out ?_ ?_ ?_;rotate_left
      ·intro w'
       go_simp;with_reducible rfl
      rotate_left
      ·simp only [Act.put,sa_,sb_,sc_,i64_w,i32_w]
       rfl
      refine pu_ (v:=?_) (a':=?_) 8 35 (bl_ 14 447) rfl rfl HT_.out ?_ ?_ ?_;rotate_left
      ·intro w'
       go_simp;with_reducible rfl
      rotate_left
      ·simp only [Act.put,sa_,sb_,sc_,i64_w,i32_w]
       rfl
      refine pu_ (v:=?_) (a':=?_) 9 36 (bl_ 14 959) rfl rfl HT_.out ?_ ?_ ?_;rotate_left
      ·intro w'
       go_simp;with_reducible rfl
      rotate_left
      ·simp only [Act.put,sa_,sb_,sc_,i64_w,i32_w]
       rfl
      refine one_ (i:=6) (N:=some 33) (bl_ 14 1023) rfl rfl (one_of HT_.out (by kernel_rfl)) (by decide) (fun K hK => ?_);refine goes_ Try.func55 (by kernel_rfl) rfl #[.slice A29 (l0.drop (t101 : Int).toNat).length (c0 - t101.toNat),.int .i64 (wrap64 (a1 - t101))] (by rfl) rfl rfl (by (try simp only [List.map_toArray,List.map_cons,List.map_nil]);first|done|(rw [show (l0.drop (t101 : Int).toNat).length = (l0.length - t101.toNat) from List.length_drop] <;> rfl)|rfl|(simp only [List.length_drop,List.length_take];rfl)) ?_;with_reducible refine (ih k (by omega) _ _ (l0.drop (t101 : Int).toNat) (wrap64 (a1 - t101)) t112 _ ?side1 ?side2 A22.out).mono ?_
      (case side1 => first|exact (Kd.C_below HR111.out HB.out)|exact Kd.C_mv (Kd.C_below HR111.out HB.out));(case side2 => exact HC111.out);rintro e w31 ⟨v113,rfl,ho0,hb⟩;refine ⟨_,rfl,?_⟩;have HO114:=Aside0.mk (Kd.R_lower ho0 (below_size bel_));replace HB:=Aside0.mk (below_step bel_ hb);(try clear hb);(try clear ho0);refine hK.out _ _ trivial (fun hHeld => ?_);clear hK K;refine norm_ (a':=?_) ?_ ?_;rotate_left
      ·show Act.put _ (some 33) _ = _
       simp only [Act.put,sa_,sb_,sc_,i64_w,i32_w];rfl
      refine one_ (i:=10) (N:=some 37) (bl_ 14 2047) rfl rfl (one_of HT_.out (by kernel_rfl)) (by decide) (fun K hK => ?_);refine goes_ Try.func54 (by kernel_rfl) rfl #[.slice A0 (l0.take (t101 : Int).toNat).length c0] (by rfl) rfl rfl (by (try simp only [List.map_toArray,List.map_cons,List.map_nil]);first|done|(rw [show (l0.take (t101 : Int).toNat).length = t101.toNat from (by rw [List.length_take];have h_ : (t101 : Int) ≤ (l0.length : Int):=of_decide_eq_true as_;omega)] <;> rfl)|rfl|(simp only [List.length_drop,List.length_take];rfl)) ?_;with_reducible refine (translog_root.calls k _ _ (l0.take (t101 : Int).toNat) t116 _ ?side1 ?side2 A25.out).mono ?_
      (case side1 => first|exact (Kd.C_below HR115.out HB.out)|exact Kd.C_mv (Kd.C_below HR115.out HB.out));(case side2 => exact HC115.out);rintro e w32 ⟨rfl,hb⟩;refine ⟨_,rfl,?_⟩;replace HO114:=Aside0.mk (Kd.R_below (Kd.R_mv HO114.out) hb);replace HB:=Aside0.mk (below_step bel_ hb);(try clear hb);refine hK.out _ _ trivial (fun hHeld => ?_);clear hK K;refine norm_ (a':=?_) ?_ ?_;rotate_left
      ·show Act.put _ (some 37) _ = _
       simp only [Act.put,sa_,sb_,sc_,i64_w,i32_w];rfl
      refine one_ (i:=11) (N:=some 38) (bl_ 14 4095) rfl rfl (one_of HT_.out (by kernel_rfl)) (by decide) (fun K hK => ?_);refine value_ (w1:=?_) (v:=?_) (by rfl) rfl ?_ ?_;rotate_left 2
      ·go_simp
       constructor
       ·rfl
       ·rfl
      refine hK.out _ _ trivial (fun hHeld => ?_);clear hK K;refine norm_ (a':=?_) ?_ ?_;rotate_left
      ·show Act.put _ (some 38) _ = _
       simp only [Act.put,sa_,sb_,sc_,i64_w,i32_w];rfl
      refine one_ (i:=12) (N:=some 39) (bl_ 14 8191) rfl rfl (one_of HT_.out (by kernel_rfl)) (by decide) (fun K hK => ?_);refine Kd.R_append_step (Kd.int .i64) (w0:=w) w.heap.size (by rfl) (.tmp 33) (.tmp 38) 36 3 (.int .i64 0) 8 rfl Try.underlying36 info3 rfl (by decide) (by omega) v113 t112 t116 [.int .i64 t116] (fun _ => True) (fun _ => False) rfl rfl ?aP (fun _ hk => hk.elim) ?aF ?aO ?aB ?aS ?aL ?_;(case aP => exact rfl);(case aB => exact bel_);(case aF => exact (fun _ _ => trivial));(case aO => exact (Kd.R_mv HO114.out));(case aS => exact (below_size bel_));(case aL => have:=LMc26.out;omega);intro v118 w33 ho hb hg hat
      rw [← Ny117.out] at ho;replace HB:=Aside0.mk (hb);have HO119:=Aside0.mk (ho);clear HO114 ho hb hg hat
      refine hK.out _ _ trivial (fun hHeld => ?_);clear hK K;refine norm_ (a':=?_) ?_ ?_;rotate_left
      ·show Act.put _ (some 39) _ = _
       simp only [Act.put,sa_,sb_,sc_,i64_w,i32_w];rfl
      refine pu_ (v:=?_) (a':=?_) 13 4 (bl_ 14 16383) rfl rfl HT_.out ?_ ?_ ?_;rotate_left
      ·intro w'
       go_simp;with_reducible rfl
      rotate_left
      ·simp only [Act.put,sa_,sb_,sc_,i64_w,i32_w]
       rfl
      refine done_ (done_of HT_.out (by kernel_rfl)) ?_;try go_wp2
      go_ret;exact ⟨_,by first|rfl|(simp [errW_none,errW_some] <;> rfl)|(simp [*,errW_none,errW_some] <;> rfl),Kd.R_mv HO119.out,bel_⟩
     ·rw [if_neg c26] at H
      exact absurd H (by simp)
    ·rw [if_neg c21] at H
     exact absurd H (by simp)
   ·rw [if_neg c20] at H
    exact absurd H (by simp)

end Go.Proofs.Ytnkonhplfldlmaa.Fn
