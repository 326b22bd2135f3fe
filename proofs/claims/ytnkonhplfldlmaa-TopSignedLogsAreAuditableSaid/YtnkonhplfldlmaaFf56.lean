/- A function of the program as a plain Lean function, and the proof that the call comes to just what it says (written by wip/tools/xprint.py for this claim). Condition: the plain function has an answer. -/
import Derived.Test.YtnkonhplfldlmaaFn0
import Derived.Test.YtnkonhplfldlmaaFf54
import Derived.Test.YtnkonhplfldlmaaFs0
import Derived.Test.YtnkonhplfldlmaaWA
import Derived.Test.YtnkonhplfldlmaaTight
namespace Go.Proofs.Ytnkonhplfldlmaa.Fn
open Go.RowKit Go.Proofs.YtnkonhplfldlmaaW.PrintWords Go.Proofs.YtnkonhplfldlmaaW.PrintLast Go.Proofs.YtnkonhplfldlmaaW.PrintMore
attribute [local go_sem] max2_int min2_int max_two min_two max_three min_three max_four min_four   -- for this text's walks alone
set_option linter.unusedVariables false
set_option linter.unusedSimpArgs false

/-! ### translog_subproof: function 56 -/
mutual
def translog_subproof.j0 : Nat → List Int → Int → Bool → Int → Bool → Option (List Int)
 | 0,_,_,_,_,_ => none
 | k + 1,x0,x1,x2,x7,x11 => if x11 = true then (some ([] : List Int)) else (if x1 = x7 then ((translog_root.f k x0).bind fun t101 => (some (([t101] : List Int)))) else ((translog_split.f x7).bind fun t105 => (if x1 ≤ t105 then (if 0 ≤ t105 then (if t105 ≤ (x0.length : Int) then ((translog_subproof.f k (x0.take (t105 : Int).toNat) x1 x2).bind fun t107 => ((translog_root.f k (x0.drop (t105 : Int).toNat)).bind fun t111 => (if t107.length < 17592186044416 then (some (t107 ++ [t111])) else (none)))) else (none)) else (none)) else (if 0 ≤ t105 then (if t105 ≤ (x0.length : Int) then ((translog_subproof.f k (x0.drop (t105 : Int).toNat) (wrap64 (x1 - t105)) false).bind fun t116 => ((translog_root.f k (x0.take (t105 : Int).toNat)).bind fun t120 => (if t116.length < 17592186044416 then (some (t116 ++ [t120])) else (none)))) else (none)) else (none)))))
def translog_subproof.f : Nat → List Int → Int → Bool → Option (List Int)
 | 0,_,_,_ => none
 | k + 1,l0,a1,a2 => if a1 = (l0.length : Int) then (translog_subproof.j0 k l0 a1 a2 (l0.length : Int) a2) else (translog_subproof.j0 k l0 a1 a2 (l0.length : Int) false)
end
theorem translog_subproof.mono_l : ∀ k,(∀ y0 y1 y2,LeO (translog_subproof.f k y0 y1 y2) (translog_subproof.f (k + 1) y0 y1 y2)) ∧ (∀ y0 y1 y2 y3 y4,LeO (translog_subproof.j0 k y0 y1 y2 y3 y4) (translog_subproof.j0 (k + 1) y0 y1 y2 y3 y4))
 | 0 => ⟨fun _ _ _ r h => by simp [translog_subproof.f] at h,fun _ _ _ _ _ r h => by simp [translog_subproof.j0] at h⟩
 | k + 1 => by
  obtain ⟨ih0,ih1⟩:=translog_subproof.mono_l k;refine ⟨?_,?_⟩
  ·intro y0 y1 y2
   unfold translog_subproof.f;repeat' first
   | (with_reducible exact ih0 _ _ _)
   | (with_reducible exact ih1 _ _ _ _ _)
   | (with_reducible exact translog_root.mono _ _)
   | (with_reducible exact LeO.refl _)
   | (with_reducible exact LeO.none _)
   | (with_reducible refine LeO.ite ?_ ?_)
   | (with_reducible refine LeO.bind ?_ (fun _ => ?_))
   | exact ih0 _ _ _
   | exact ih1 _ _ _ _ _
   | exact translog_root.mono _ _
   | exact LeO.none _
   | refine LeO.ite ?_ ?_
   | refine LeO.bind ?_ (fun _ => ?_)
  ·intro y0 y1 y2 y3 y4
   unfold translog_subproof.j0;repeat' first
   | (with_reducible exact ih0 _ _ _)
   | (with_reducible exact ih1 _ _ _ _ _)
   | (with_reducible exact translog_root.mono _ _)
   | (with_reducible exact LeO.refl _)
   | (with_reducible exact LeO.none _)
   | (with_reducible refine LeO.ite ?_ ?_)
   | (with_reducible refine LeO.bind ?_ (fun _ => ?_))
   | exact ih0 _ _ _
   | exact ih1 _ _ _ _ _
   | exact translog_root.mono _ _
   | exact LeO.none _
   | refine LeO.ite ?_ ?_
   | refine LeO.bind ?_ (fun _ => ?_)
theorem translog_subproof.mono : ∀ a0 a1 a2 k,LeO (translog_subproof.f k a0 a1 a2) (translog_subproof.f (k + 1) a0 a1 a2):=by
 intro a0 a1 a2 k;obtain ⟨ih0,ih1⟩:=translog_subproof.mono_l k;exact ih0 a0 a1 a2
def translog_subproof.T8 : Bool × List (List Nat × List Nat):=(true,[([],[]),([],[]),([0,1],[0,1]),([],[]),([],[]),([2,3,4],[2,3,4]),([],[]),([],[]),([6,7],[6,7]),([8,5],[8]),([9],[9]),([5,10,9],[5,10]),([11,11,0,1,2,3,4,5,6,7,8,9,10,11],[11])])
def translog_subproof.B8 : List Nat:=[0,0,3,0,0,31,0,0,192,511,1023,2047,4095]
theorem translog_subproof.tab8 : rtab .any (opsOf Try.f56 8) = translog_subproof.T8:=by kernel_rfl
theorem translog_subproof.bits8 : waitsOk translog_subproof.T8.2 translog_subproof.B8 = true:=by kernel_rfl
def translog_subproof.T9 : Bool × List (List Nat × List Nat):=(true,[([],[]),([],[]),([0,1],[0,1]),([],[]),([],[]),([3,4],[3,4]),([2,5],[2,5]),([],[]),([],[]),([7,8],[7,8]),([9,6],[9]),([10],[10]),([6,11,10],[6,11]),([12,12,0,1,2,3,4,5,6,7,8,9,10,11,12],[12])])
def translog_subproof.B9 : List Nat:=[0,0,3,0,0,24,63,0,0,384,1023,2047,4095,8191]
theorem translog_subproof.tab9 : rtab .any (opsOf Try.f56 9) = translog_subproof.T9:=by kernel_rfl
theorem translog_subproof.bits9 : waitsOk translog_subproof.T9.2 translog_subproof.B9 = true:=by kernel_rfl
set_option maxHeartbeats 8000000 in
set_option maxRecDepth 100000 in
theorem translog_subproof.calls (k : Nat) : ∀ (A0 : Option Addr) (c0 : Nat) (l0 : List Int) (a1 : Int) (a2 : Bool) (r : List Int) (w : World) (hr0 : Kd.C (Kd.int .i64) w A0 l0.length l0) (hc0 : l0.length ≤ c0) (h : translog_subproof.f k l0 a1 a2 = some r),
  Calls Try.prog 56 #[.slice A0 l0.length c0,.int .i64 a1,.bool a2] w fun e w' => ∃ v0_ : Value,e = .returned (v0_) ∧ Kd.R (Kd.int .i64) 3 w' w.heap.size (fun _ => True) v0_ r ∧ Below w.heap.size w w':=by
 induction k using Nat.strongRecOn with
 | _ k ih =>
 intro A0 c0 l0 a1 a2 r w hr0 hc0 h;cases k with
 | zero => exact absurd h (by simp [translog_subproof.f])
 | succ k =>
 simp only [translog_subproof.f] at h;have HR0:=Aside0.mk hr0;have HC0:=Aside0.mk hc0;clear hr0 hc0;have HB:=Aside0.mk (Below.refl w.heap.size w);have H : (if a1 = (l0.length : Int) then (translog_subproof.j0 k l0 a1 a2 (l0.length : Int) a2) else (translog_subproof.j0 k l0 a1 a2 (l0.length : Int) false)) = some r:=h;clear h;have HC4:=Aside0.mk H;clear H;go_enter Try.func56,Try.ntmps56;go_upto_region 2 with (fail);go_cut [11] (fun v11 wc => ∃ (kq : Nat) (x11_3 : Bool),v11 = .bool x11_3 ∧ Aside0 (translog_subproof.j0 kq l0 a1 a2 (l0.length : Int) x11_3 = some r) ∧ Aside0 (kq ≤ k) ∧ Aside0 (Below w.heap.size w wc))
 case first =>
  have H:=HC4.out;clear HC4;by_cases c5 : a1 = (l0.length : Int)
  ·rw [if_pos c5] at H
   have c5b0 : (a1 == (l0.length : Int)) = true:=beq_iff_eq.mpr c5;have c5b1 : (a1 != (l0.length : Int)) = false:=bne_eq_false_iff_eq.mpr c5;clear c5;(first|rw [c5b0]|(simp only [i64_w,i32_w];rw [c5b0])|skip);have H':=Aside0.mk H;clear H;go_wp2;go_meet
   case rel => exact ⟨_,(a2),fr_,H',⟨om_⟩,⟨bel_⟩⟩
  ·rw [if_neg c5] at H
   have c5b0 : (a1 == (l0.length : Int)) = false:=beq_eq_false_iff_ne.mpr c5;have c5b1 : (a1 != (l0.length : Int)) = true:=bne_iff_ne.mpr c5;(first|rw [c5b0]|(simp only [i64_w,i32_w];rw [c5b0])|skip);have H':=Aside0.mk H;clear H;go_wp2;go_meet
   case rel => exact ⟨_,(false),fr_,H',⟨om_⟩,⟨bel_⟩⟩
 case rest =>
  clear HC4;(try clear p2);(try clear c5);(try clear c5b0);(try clear c5b1);obtain ⟨kq,x11_3,rfl,HA,HJ3,HB⟩:=hcut;cases kq with
  | zero => exact absurd HA.out (by simp [translog_subproof.j0])
  | succ kj3 =>
   have H:=HA.out;clear HA;simp only [translog_subproof.j0] at H;by_cases c6 : x11_3 = true
   ·subst c6
    have H1 : (some ([] : List Int)) = some r:=by rw [if_pos rfl] at H;exact H
    clear H;have H:=H1;clear H1;obtain rfl:=Option.some.inj H;go_wp2;go_ret;exact ⟨_,by first|rfl|(simp [errW_none,errW_some] <;> rfl)|(simp [*,errW_none,errW_some] <;> rfl),by first|exact Kd.R_nil _ _ _ _ _|exact Kd.N_nil _ _ _ _ _|exact Kd.V_nil _ _ _ _ _|exact Kd.Q_nil _ _ _ _ _|exact Kd.S_nil _ _ _ _ _,bel_⟩
   ·replace c6:=Bool.eq_false_iff.mpr c6
    subst c6;have H1 : (if a1 = (l0.length : Int) then ((translog_root.f kj3 l0).bind fun t101 => (some (([t101] : List Int)))) else ((translog_split.f (l0.length : Int)).bind fun t105 => (if a1 ≤ t105 then (if 0 ≤ t105 then (if t105 ≤ (l0.length : Int) then ((translog_subproof.f kj3 (l0.take (t105 : Int).toNat) a1 a2).bind fun t107 => ((translog_root.f kj3 (l0.drop (t105 : Int).toNat)).bind fun t111 => (if t107.length < 17592186044416 then (some (t107 ++ [t111])) else (none)))) else (none)) else (none)) else (if 0 ≤ t105 then (if t105 ≤ (l0.length : Int) then ((translog_subproof.f kj3 (l0.drop (t105 : Int).toNat) (wrap64 (a1 - t105)) false).bind fun t116 => ((translog_root.f kj3 (l0.take (t105 : Int).toNat)).bind fun t120 => (if t116.length < 17592186044416 then (some (t116 ++ [t120])) else (none)))) else (none)) else (none))))) = some r:=by rw [if_neg (show ¬ (false = true) by decide)] at H;exact H
    clear H;have H:=H1;clear H1;by_cases c7 : a1 = (l0.length : Int)
    ·rw [if_pos c7] at H
     have c7b0 : (a1 == (l0.length : Int)) = true:=beq_iff_eq.mpr c7;have c7b1 : (a1 != (l0.length : Int)) = false:=bne_eq_false_iff_eq.mpr c7;clear c7;replace H:=Option.bind_eq_some_iff.mp H;obtain ⟨t101,A80,H⟩:=H;replace H : (some (([t101] : List Int))) = some r:=H;have A8:=Aside0.mk A80;clear A80;obtain ⟨y102,hy102⟩ : ∃ y_ : List Int,y_ = (([t101] : List Int)):=⟨_,rfl⟩;replace H : (some y102) = some r:=by first|(rw [hy102];with_reducible exact H)|(have H2_:=(Option.bind_some _ _).symm.trans H;rw [hy102];with_reducible exact H2_)|(have H2_:=(Option.bind_some _ _).symm.trans H;with_reducible exact H2_)|with_reducible exact H|(rw [hy102];exact H)|exact H
     have Ny102:=Aside0.mk hy102;clear hy102;obtain rfl:=Option.some.inj H;go_wp2_with (first|((with_reducible refine gate_callee (f:=54) rfl ?_);refine goesL_ (some 23) rfl rfl Try.func54 (by kernel_rfl) rfl #[.slice A0 l0.length c0] rfl ln_ ?_;(with_reducible refine (translog_root.calls kj3 _ _ l0 t101 _ ?side1 ?side2 A8.out).mono ?_);(case side1 => first|exact (Kd.C_below HR0.out HB.out)|exact Kd.C_mv (Kd.C_below HR0.out HB.out));(case side2 => exact HC0.out);rintro e w9 ⟨rfl,hb⟩;refine ⟨_,rfl,?_⟩;replace HB:=Aside0.mk (below_step bel_ hb);(try clear hb);(try clear hb2);(try clear hk);(try clear hi))|((with_reducible refine gate_dst (N:=24) rfl ?_);refine Kd.R_lit (Kd.int .i64) _ 3 ?hg (N:=24) ?hd (xs:=([t101] : List Int)) (inner:=[.int .i64 t101]) (ok:=fun _ => True) (okp:=fun _ => True) ?hr ?hp (fun _ hk => hk) trivial (Below.refl _ _) (Nat.le_refl _) (by simp) ?_;(case hd => rfl);(case hg => rfl);(case hr => first|(go_simp;done)|(go_simp;rfl));(case hp => exact (Reps.one (show Kd.M (Kd.int .i64) _ _ _ t101 [.int .i64 t101] from rfl) (Reps.none _ _)));intro v103 w10 ho11 hb hg_ hnew_;clear hg_ hnew_;(first|rw [← Ny102.out] at ho11|(simp only [Int.reduceToNat] at ho11;rw [← Ny102.out] at ho11));have HO104:=Aside0.mk (Kd.R_lower ho11 (below_size bel_));replace HB:=Aside0.mk (below_step bel_ hb);clear hb ho11));go_ret;exact ⟨_,by first|rfl|(simp [errW_none,errW_some] <;> rfl)|(simp [*,errW_none,errW_some] <;> rfl),Kd.R_mv HO104.out,bel_⟩
    ·rw [if_neg c7] at H
     have c7b0 : (a1 == (l0.length : Int)) = false:=beq_eq_false_iff_ne.mpr c7;have c7b1 : (a1 != (l0.length : Int)) = true:=bne_iff_ne.mpr c7;replace H:=Option.bind_eq_some_iff.mp H;obtain ⟨t105,A120,H⟩:=H;replace H : (if a1 ≤ t105 then (if 0 ≤ t105 then (if t105 ≤ (l0.length : Int) then ((translog_subproof.f kj3 (l0.take (t105 : Int).toNat) a1 a2).bind fun t107 => ((translog_root.f kj3 (l0.drop (t105 : Int).toNat)).bind fun t111 => (if t107.length < 17592186044416 then (some (t107 ++ [t111])) else (none)))) else (none)) else (none)) else (if 0 ≤ t105 then (if t105 ≤ (l0.length : Int) then ((translog_subproof.f kj3 (l0.drop (t105 : Int).toNat) (wrap64 (a1 - t105)) false).bind fun t116 => ((translog_root.f kj3 (l0.take (t105 : Int).toNat)).bind fun t120 => (if t116.length < 17592186044416 then (some (t116 ++ [t120])) else (none)))) else (none)) else (none))) = some r:=H;have A12:=Aside0.mk A120;clear A120;by_cases c13 : a1 ≤ t105
     ·rw [if_pos c13] at H
      have c13b0 : decide (a1 ≤ t105) = true:=decide_eq_true c13;clear c13;by_cases c14 : 0 ≤ t105
      ·rw [if_pos c14] at H
       have c14b0:=eq_true c14;have c14b1 : decide (0 ≤ t105) = true:=decide_eq_true c14;clear c14;by_cases c15 : t105 ≤ (l0.length : Int)
       ·rw [if_pos c15] at H
        have c15b0:=eq_true c15;have c15b1 : decide (t105 ≤ (l0.length : Int)) = true:=decide_eq_true c15;clear c15;replace H:=Option.bind_eq_some_iff.mp H;obtain ⟨t107,A160,H⟩:=H;replace H : ((translog_root.f kj3 (l0.drop (t105 : Int).toNat)).bind fun t111 => (if t107.length < 17592186044416 then (some (t107 ++ [t111])) else (none))) = some r:=H;have A16:=Aside0.mk A160;clear A160;have c17b0:=eq_true (of_decide_eq_true as_ : 0 ≤ t105);have c18b0:=eq_true (of_decide_eq_true as_ : t105 ≤ (l0.length : Int));replace H:=Option.bind_eq_some_iff.mp H;obtain ⟨t111,A190,H⟩:=H;replace H : (if t107.length < 17592186044416 then (some (t107 ++ [t111])) else (none)) = some r:=H;have A19:=Aside0.mk A190;clear A190;by_cases c20 : t107.length < 17592186044416
        ·rw [if_pos c20] at H
         have LMc20:=Aside0.mk c20;clear c20;obtain ⟨y112,hy112⟩ : ∃ y_ : List Int,y_ = (t107 ++ [t111]):=⟨_,rfl⟩;replace H : (some y112) = some r:=by first|(rw [hy112];with_reducible exact H)|(have H2_:=(Option.bind_some _ _).symm.trans H;rw [hy112];with_reducible exact H2_)|(have H2_:=(Option.bind_some _ _).symm.trans H;with_reducible exact H2_)|with_reducible exact H|(rw [hy112];exact H)|exact H
         have Ny112:=Aside0.mk hy112;clear hy112;obtain rfl:=Option.some.inj H;try go_wp2_with (first|((with_reducible refine gate_callee (f:=69) rfl ?_);refine goesL_ (some 26) rfl rfl Try.func69 (by kernel_rfl) rfl #[.int .i64 (l0.length : Int)] rfl ln_ ?_;(with_reducible refine (translog_split.calls (l0.length : Int) t105 _ A12.out).mono ?_);rintro e w' ⟨rfl,⟨nd,rfl⟩⟩;refine ⟨_,rfl,?_⟩))
         (try (rw [drewN_self wc];generalize hq_ : World.drewN wc _ = wc;have n0_ : Aside0 (Below w.heap.size w wc):=⟨by rw [← hq_];exact bel_⟩;clear HB hq_;have HB:=n0_;clear n0_));replace HB:=Aside0.mk (below_drew1 HB.out);obtain ⟨i022,hi022,_,hsz22,_⟩:=info_parts info3;obtain ⟨hcut22,hA22,hC22⟩:=print_take_of (P:=Try.prog) (Value.int .i64) 0 36 3 .i64 Try.underlying36 hi022 hsz22 A0 c0 l0 t105 (of_decide_eq_true as_) (of_decide_eq_true as_) HC0.out;have HR106:=Aside0.mk (Kd.C_of_reads (h1:=fun _ => rfl) (hA22 _ (Kd.reads_of_C HR0.out)));have HC106:=Aside0.mk hC22;clear hA22 hC22 hi022 hsz22;obtain ⟨i023,hi023,_,hsz23,_⟩:=info_parts info3;obtain ⟨A23,hcut23,hA23,hC23⟩:=print_drop_of (P:=Try.prog) (Value.int .i64) 0 36 3 .i64 Try.underlying36 hi023 hsz23 A0 c0 l0 t105 (of_decide_eq_true as_) (of_decide_eq_true as_) HC0.out;have HR110:=Aside0.mk (Kd.C_of_reads (h1:=fun _ => rfl) (hA23 _ (Kd.reads_of_C HR0.out)));have HC110:=Aside0.mk hC23;clear hA23 hC23 hi023 hsz23;refine start_ (n:=13) (S:=fun w' => True) (ds:=[]) (bl_ 13 0) (by kernel_rfl) rfl rfl trivial (fun hHeld => ?_);refine with_tabW translog_subproof.tab8 translog_subproof.bits8 (fun HT_ HW_ => ?_);generalize wc.drew = w21 at HB HR106 HR110 hHeld ⊢;refine pu_ (v:=?_) (a':=?_) 0 30 (bl_ 13 1) rfl rfl HT_.out ?_ ?_ ?_;rotate_left
         ·intro w'
          go_simp;with_reducible rfl
         rotate_left
         ·simp only [Act.put,sa_,sb_,sc_,i64_w,i32_w]
          rfl
         refine pu_ (v:=?_) (a':=?_) 1 31 (bl_ 13 3) rfl rfl HT_.out ?_ ?_ ?_;rotate_left
         ·intro w'
          go_simp;with_reducible rfl
         rotate_left
         ·simp only [Act.put,sa_,sb_,sc_,i64_w,i32_w]
          rfl
         refine pu_ (v:=?_) (a':=?_) 2 32 (bl_ 13 7) rfl rfl HT_.out ?_ ?_ ?_;rotate_left
         ·intro w'
          go_simp;with_reducible rfl
         rotate_left
         ·simp only [Act.put,sa_,sb_,sc_,i64_w,i32_w]
          rfl
         refine pu_ (v:=?_) (a':=?_) 3 33 (bl_ 13 15) rfl rfl HT_.out ?_ ?_ ?_;rotate_left
         ·intro w'
          go_simp;with_reducible rfl
         rotate_left
         ·simp only [Act.put,sa_,sb_,sc_,i64_w,i32_w]
          rfl
         refine pu_ (v:=?_) (a':=?_) 4 34 (bl_ 13 31) rfl rfl HT_.out ?_ ?_ ?_;rotate_left
         ·intro w'
          go_simp;with_reducible rfl
         rotate_left
         ·simp only [Act.put,sa_,sb_,sc_,i64_w,i32_w]
          rfl
         refine pu_ (v:=?_) (a':=?_) 6 36 (bl_ 13 95) rfl rfl HT_.out ?_ ?_ ?_;rotate_left
         ·intro w'
          go_simp;with_reducible rfl
         rotate_left
         ·simp only [Act.put,sa_,sb_,sc_,i64_w,i32_w]
          rfl
         refine pu_ (v:=?_) (a':=?_) 7 37 (bl_ 13 223) rfl rfl HT_.out ?_ ?_ ?_;rotate_left
         ·intro w'
          go_simp;with_reducible rfl
         rotate_left
         ·simp only [Act.put,sa_,sb_,sc_,i64_w,i32_w]
          rfl
         refine pu_ (v:=?_) (a':=?_) 8 38 (bl_ 13 479) rfl rfl HT_.out ?_ ?_ ?_;rotate_left
         ·intro w'
          go_simp;with_reducible rfl
         rotate_left
         ·simp only [Act.put,sa_,sb_,sc_,i64_w,i32_w]
          rfl
         refine one_ (i:=5) (N:=some 35) (bl_ 13 511) rfl rfl (one_of HT_.out (by kernel_rfl)) (by decide) (fun K hK => ?_);refine goes_ Try.func56 (by kernel_rfl) rfl #[.slice A0 (l0.take (t105 : Int).toNat).length c0,.int .i64 a1,.bool a2] (by rfl) rfl rfl (by (try simp only [List.map_toArray,List.map_cons,List.map_nil]);first|done|(rw [show (l0.take (t105 : Int).toNat).length = t105.toNat from (by rw [List.length_take];have h_ : (t105 : Int) ≤ (l0.length : Int):=of_decide_eq_true as_;omega)] <;> rfl)|rfl|(simp only [List.length_drop,List.length_take];rfl)) ?_;with_reducible refine (ih kj3 (by have:=HJ3.out;omega) _ _ (l0.take (t105 : Int).toNat) a1 a2 t107 _ ?side1 ?side2 A16.out).mono ?_
         (case side1 => first|exact (Kd.C_below HR106.out HB.out)|exact Kd.C_mv (Kd.C_below HR106.out HB.out));(case side2 => exact HC106.out);rintro e w24 ⟨v108,rfl,ho0,hb⟩;refine ⟨_,rfl,?_⟩;have HO109:=Aside0.mk (Kd.R_lower ho0 (below_size bel_));replace HB:=Aside0.mk (below_step bel_ hb);(try clear hb);(try clear ho0);refine hK.out _ _ trivial (fun hHeld => ?_);clear hK K;refine norm_ (a':=?_) ?_ ?_;rotate_left
         ·show Act.put _ (some 35) _ = _
          simp only [Act.put,sa_,sb_,sc_,i64_w,i32_w];rfl
         refine one_ (i:=9) (N:=some 39) (bl_ 13 1023) rfl rfl (one_of HT_.out (by kernel_rfl)) (by decide) (fun K hK => ?_);refine goes_ Try.func54 (by kernel_rfl) rfl #[.slice A23 (l0.drop (t105 : Int).toNat).length (c0 - t105.toNat)] (by rfl) rfl rfl (by (try simp only [List.map_toArray,List.map_cons,List.map_nil]);first|done|(rw [show (l0.drop (t105 : Int).toNat).length = (l0.length - t105.toNat) from List.length_drop] <;> rfl)|rfl|(simp only [List.length_drop,List.length_take];rfl)) ?_;with_reducible refine (translog_root.calls kj3 _ _ (l0.drop (t105 : Int).toNat) t111 _ ?side1 ?side2 A19.out).mono ?_
         (case side1 => first|exact (Kd.C_below HR110.out HB.out)|exact Kd.C_mv (Kd.C_below HR110.out HB.out));(case side2 => exact HC110.out);rintro e w25 ⟨rfl,hb⟩;refine ⟨_,rfl,?_⟩;replace HO109:=Aside0.mk (Kd.R_below (Kd.R_mv HO109.out) hb);replace HB:=Aside0.mk (below_step bel_ hb);(try clear hb);refine hK.out _ _ trivial (fun hHeld => ?_);clear hK K;refine norm_ (a':=?_) ?_ ?_;rotate_left
         ·show Act.put _ (some 39) _ = _
          simp only [Act.put,sa_,sb_,sc_,i64_w,i32_w];rfl
         refine one_ (i:=10) (N:=some 40) (bl_ 13 2047) rfl rfl (one_of HT_.out (by kernel_rfl)) (by decide) (fun K hK => ?_);refine value_ (w1:=?_) (v:=?_) (by rfl) rfl ?_ ?_;rotate_left 2
         ·go_simp
          constructor
          ·rfl
          ·rfl
         refine hK.out _ _ trivial (fun hHeld => ?_);clear hK K;refine norm_ (a':=?_) ?_ ?_;rotate_left
         ·show Act.put _ (some 40) _ = _
          simp only [Act.put,sa_,sb_,sc_,i64_w,i32_w];rfl
         refine one_ (i:=11) (N:=some 41) (bl_ 13 4095) rfl rfl (one_of HT_.out (by kernel_rfl)) (by decide) (fun K hK => ?_);refine Kd.R_append_step (Kd.int .i64) (w0:=w) w.heap.size (by rfl) (.tmp 35) (.tmp 40) 36 3 (.int .i64 0) 8 rfl Try.underlying36 info3 rfl (by decide) (by omega) v108 t107 t111 [.int .i64 t111] (fun _ => True) (fun _ => False) rfl rfl ?aP (fun _ hk => hk.elim) ?aF ?aO ?aB ?aS ?aL ?_;(case aP => exact rfl);(case aB => exact bel_);(case aF => exact (fun _ _ => trivial));(case aO => exact (Kd.R_mv HO109.out));(case aS => exact (below_size bel_));(case aL => have:=LMc20.out;omega);intro v113 w26 ho hb hg hat
         rw [← Ny112.out] at ho;replace HB:=Aside0.mk (hb);have HO114:=Aside0.mk (ho);clear HO109 ho hb hg hat
         refine hK.out _ _ trivial (fun hHeld => ?_);clear hK K;refine norm_ (a':=?_) ?_ ?_;rotate_left
         ·show Act.put _ (some 41) _ = _
          simp only [Act.put,sa_,sb_,sc_,i64_w,i32_w];rfl
         refine pu_ (v:=?_) (a':=?_) 12 6 (bl_ 13 8191) rfl rfl HT_.out ?_ ?_ ?_;rotate_left
         ·intro w'
          go_simp;with_reducible rfl
         rotate_left
         ·simp only [Act.put,sa_,sb_,sc_,i64_w,i32_w]
          rfl
         refine done_ (done_of HT_.out (by kernel_rfl)) ?_;try go_wp2
         go_ret;exact ⟨_,by first|rfl|(simp [errW_none,errW_some] <;> rfl)|(simp [*,errW_none,errW_some] <;> rfl),Kd.R_mv HO114.out,bel_⟩
        ·rw [if_neg c20] at H
         exact absurd H (by simp)
       ·rw [if_neg c15] at H
        exact absurd H (by simp)
      ·rw [if_neg c14] at H
       exact absurd H (by simp)
     ·rw [if_neg c13] at H
      have c13b0 : decide (a1 ≤ t105) = false:=decide_eq_false c13;clear c13;by_cases c27 : 0 ≤ t105
      ·rw [if_pos c27] at H
       have c27b0:=eq_true c27;have c27b1 : decide (0 ≤ t105) = true:=decide_eq_true c27;clear c27;by_cases c28 : t105 ≤ (l0.length : Int)
       ·rw [if_pos c28] at H
        have c28b0:=eq_true c28;have c28b1 : decide (t105 ≤ (l0.length : Int)) = true:=decide_eq_true c28;clear c28;replace H:=Option.bind_eq_some_iff.mp H;obtain ⟨t116,A290,H⟩:=H;replace H : ((translog_root.f kj3 (l0.take (t105 : Int).toNat)).bind fun t120 => (if t116.length < 17592186044416 then (some (t116 ++ [t120])) else (none))) = some r:=H;have A29:=Aside0.mk A290;clear A290;have c30b0:=eq_true (of_decide_eq_true as_ : 0 ≤ t105);have c31b0:=eq_true (of_decide_eq_true as_ : t105 ≤ (l0.length : Int));replace H:=Option.bind_eq_some_iff.mp H;obtain ⟨t120,A320,H⟩:=H;replace H : (if t116.length < 17592186044416 then (some (t116 ++ [t120])) else (none)) = some r:=H;have A32:=Aside0.mk A320;clear A320;by_cases c33 : t116.length < 17592186044416
        ·rw [if_pos c33] at H
         have LMc33:=Aside0.mk c33;clear c33;obtain ⟨y121,hy121⟩ : ∃ y_ : List Int,y_ = (t116 ++ [t120]):=⟨_,rfl⟩;replace H : (some y121) = some r:=by first|(rw [hy121];with_reducible exact H)|(have H2_:=(Option.bind_some _ _).symm.trans H;rw [hy121];with_reducible exact H2_)|(have H2_:=(Option.bind_some _ _).symm.trans H;with_reducible exact H2_)|with_reducible exact H|(rw [hy121];exact H)|exact H
         have Ny121:=Aside0.mk hy121;clear hy121;obtain rfl:=Option.some.inj H;try go_wp2_with (first|((with_reducible refine gate_callee (f:=69) rfl ?_);refine goesL_ (some 26) rfl rfl Try.func69 (by kernel_rfl) rfl #[.int .i64 (l0.length : Int)] rfl ln_ ?_;(with_reducible refine (translog_split.calls (l0.length : Int) t105 _ A12.out).mono ?_);rintro e w' ⟨rfl,⟨nd,rfl⟩⟩;refine ⟨_,rfl,?_⟩))
         (try (rw [drewN_self wc];generalize hq_ : World.drewN wc _ = wc;have n0_ : Aside0 (Below w.heap.size w wc):=⟨by rw [← hq_];exact bel_⟩;clear HB hq_;have HB:=n0_;clear n0_));replace HB:=Aside0.mk (below_drew1 HB.out);obtain ⟨i035,hi035,_,hsz35,_⟩:=info_parts info3;obtain ⟨A35,hcut35,hA35,hC35⟩:=print_drop_of (P:=Try.prog) (Value.int .i64) 0 36 3 .i64 Try.underlying36 hi035 hsz35 A0 c0 l0 t105 (of_decide_eq_true as_) (of_decide_eq_true as_) HC0.out;have HR115:=Aside0.mk (Kd.C_of_reads (h1:=fun _ => rfl) (hA35 _ (Kd.reads_of_C HR0.out)));have HC115:=Aside0.mk hC35;clear hA35 hC35 hi035 hsz35;obtain ⟨i036,hi036,_,hsz36,_⟩:=info_parts info3;obtain ⟨hcut36,hA36,hC36⟩:=print_take_of (P:=Try.prog) (Value.int .i64) 0 36 3 .i64 Try.underlying36 hi036 hsz36 A0 c0 l0 t105 (of_decide_eq_true as_) (of_decide_eq_true as_) HC0.out;have HR119:=Aside0.mk (Kd.C_of_reads (h1:=fun _ => rfl) (hA36 _ (Kd.reads_of_C HR0.out)));have HC119:=Aside0.mk hC36;clear hA36 hC36 hi036 hsz36;refine start_ (n:=14) (S:=fun w' => True) (ds:=[]) (bl_ 14 0) (by kernel_rfl) rfl rfl trivial (fun hHeld => ?_);refine with_tabW translog_subproof.tab9 translog_subproof.bits9 (fun HT_ HW_ => ?_);generalize wc.drew = w34 at HB HR115 HR119 hHeld ⊢;refine pu_ (v:=?_) (a':=?_) 0 42 (bl_ 14 1) rfl rfl HT_.out ?_ ?_ ?_;rotate_left
         ·intro w'
          go_simp;with_reducible rfl
         rotate_left
         ·simp only [Act.put,sa_,sb_,sc_,i64_w,i32_w]
          rfl
         refine pu_ (v:=?_) (a':=?_) 1 43 (bl_ 14 3) rfl rfl HT_.out ?_ ?_ ?_;rotate_left
         ·intro w'
          go_simp;with_reducible rfl
         rotate_left
         ·simp only [Act.put,sa_,sb_,sc_,i64_w,i32_w]
          rfl
         refine pu_ (v:=?_) (a':=?_) 2 44 (bl_ 14 7) rfl rfl HT_.out ?_ ?_ ?_;rotate_left
         ·intro w'
          go_simp;with_reducible rfl
         rotate_left
         ·simp only [Act.put,sa_,sb_,sc_,i64_w,i32_w]
          rfl
         refine pu_ (v:=?_) (a':=?_) 3 45 (bl_ 14 15) rfl rfl HT_.out ?_ ?_ ?_;rotate_left
         ·intro w'
          go_simp;with_reducible rfl
         rotate_left
         ·simp only [Act.put,sa_,sb_,sc_,i64_w,i32_w]
          rfl
         refine pu_ (v:=?_) (a':=?_) 4 46 (bl_ 14 31) rfl rfl HT_.out ?_ ?_ ?_;rotate_left
         ·intro w'
          go_simp;with_reducible rfl
         rotate_left
         ·simp only [Act.put,sa_,sb_,sc_,i64_w,i32_w]
          rfl
         refine pu_ (v:=?_) (a':=?_) 5 47 (bl_ 14 63) rfl rfl HT_.out ?_ ?_ ?_;rotate_left
         ·intro w'
          go_simp;with_reducible rfl
         rotate_left
         ·simp only [Act.put,sa_,sb_,sc_,i64_w,i32_w]
          rfl
         refine pu_ (v:=?_) (a':=?_) 7 49 (bl_ 14 191) rfl rfl HT_.out ?_ ?_ ?_;rotate_left
         ·intro w'
          go_simp;with_reducible rfl
         rotate_left
         ·simp only [Act.put,sa_,sb_,sc_,i64_w,i32_w]
          rfl
         refine pu_ (v:=?_) (a':=?_) 8 50 (bl_ 14 447) rfl rfl HT_.out ?_ ?_ ?_;rotate_left
         ·intro w'
          go_simp;with_reducible rfl
         rotate_left
         ·simp only [Act.put,sa_,sb_,sc_,i64_w,i32_w]
          rfl
         refine pu_ (v:=?_) (a':=?_) 9 51 (bl_ 14 959) rfl rfl HT_.out ?_ ?_ ?_;rotate_left
         ·intro w'
          go_simp;with_reducible rfl
         rotate_left
         ·simp only [Act.put,sa_,sb_,sc_,i64_w,i32_w]
          rfl
         refine one_ (i:=6) (N:=some 48) (bl_ 14 1023) rfl rfl (one_of HT_.out (by kernel_rfl)) (by decide) (fun K hK => ?_);refine goes_ Try.func56 (by kernel_rfl) rfl #[.slice A35 (l0.drop (t105 : Int).toNat).length (c0 - t105.toNat),.int .i64 (wrap64 (a1 - t105)),.bool false] (by rfl) rfl rfl (by (try simp only [List.map_toArray,List.map_cons,List.map_nil]);first|done|(rw [show (l0.drop (t105 : Int).toNat).length = (l0.length - t105.toNat) from List.length_drop] <;> rfl)|rfl|(simp only [List.length_drop,List.length_take];rfl)) ?_;with_reducible refine (ih kj3 (by have:=HJ3.out;omega) _ _ (l0.drop (t105 : Int).toNat) (wrap64 (a1 - t105)) false t116 _ ?side1 ?side2 A29.out).mono ?_
         (case side1 => first|exact (Kd.C_below HR115.out HB.out)|exact Kd.C_mv (Kd.C_below HR115.out HB.out));(case side2 => exact HC115.out);rintro e w37 ⟨v117,rfl,ho0,hb⟩;refine ⟨_,rfl,?_⟩;have HO118:=Aside0.mk (Kd.R_lower ho0 (below_size bel_));replace HB:=Aside0.mk (below_step bel_ hb);(try clear hb);(try clear ho0);refine hK.out _ _ trivial (fun hHeld => ?_);clear hK K;refine norm_ (a':=?_) ?_ ?_;rotate_left
         ·show Act.put _ (some 48) _ = _
          simp only [Act.put,sa_,sb_,sc_,i64_w,i32_w];rfl
         refine one_ (i:=10) (N:=some 52) (bl_ 14 2047) rfl rfl (one_of HT_.out (by kernel_rfl)) (by decide) (fun K hK => ?_);refine goes_ Try.func54 (by kernel_rfl) rfl #[.slice A0 (l0.take (t105 : Int).toNat).length c0] (by rfl) rfl rfl (by (try simp only [List.map_toArray,List.map_cons,List.map_nil]);first|done|(rw [show (l0.take (t105 : Int).toNat).length = t105.toNat from (by rw [List.length_take];have h_ : (t105 : Int) ≤ (l0.length : Int):=of_decide_eq_true as_;omega)] <;> rfl)|rfl|(simp only [List.length_drop,List.length_take];rfl)) ?_;with_reducible refine (translog_root.calls kj3 _ _ (l0.take (t105 : Int).toNat) t120 _ ?side1 ?side2 A32.out).mono ?_
         (case side1 => first|exact (Kd.C_below HR119.out HB.out)|exact Kd.C_mv (Kd.C_below HR119.out HB.out));(case side2 => exact HC119.out);rintro e w38 ⟨rfl,hb⟩;refine ⟨_,rfl,?_⟩;replace HO118:=Aside0.mk (Kd.R_below (Kd.R_mv HO118.out) hb);replace HB:=Aside0.mk (below_step bel_ hb);(try clear hb);refine hK.out _ _ trivial (fun hHeld => ?_);clear hK K;refine norm_ (a':=?_) ?_ ?_;rotate_left
         ·show Act.put _ (some 52) _ = _
          simp only [Act.put,sa_,sb_,sc_,i64_w,i32_w];rfl
         refine one_ (i:=11) (N:=some 53) (bl_ 14 4095) rfl rfl (one_of HT_.out (by kernel_rfl)) (by decide) (fun K hK => ?_);refine value_ (w1:=?_) (v:=?_) (by rfl) rfl ?_ ?_;rotate_left 2
         ·go_simp
          constructor
          ·rfl
          ·rfl
         refine hK.out _ _ trivial (fun hHeld => ?_);clear hK K;refine norm_ (a':=?_) ?_ ?_;rotate_left
         ·show Act.put _ (some 53) _ = _
          simp only [Act.put,sa_,sb_,sc_,i64_w,i32_w];rfl
         refine one_ (i:=12) (N:=some 54) (bl_ 14 8191) rfl rfl (one_of HT_.out (by kernel_rfl)) (by decide) (fun K hK => ?_);refine Kd.R_append_step (Kd.int .i64) (w0:=w) w.heap.size (by rfl) (.tmp 48) (.tmp 53) 36 3 (.int .i64 0) 8 rfl Try.underlying36 info3 rfl (by decide) (by omega) v117 t116 t120 [.int .i64 t120] (fun _ => True) (fun _ => False) rfl rfl ?aP (fun _ hk => hk.elim) ?aF ?aO ?aB ?aS ?aL ?_;(case aP => exact rfl);(case aB => exact bel_);(case aF => exact (fun _ _ => trivial));(case aO => exact (Kd.R_mv HO118.out));(case aS => exact (below_size bel_));(case aL => have:=LMc33.out;omega);intro v122 w39 ho hb hg hat
         rw [← Ny121.out] at ho;replace HB:=Aside0.mk (hb);have HO123:=Aside0.mk (ho);clear HO118 ho hb hg hat
         refine hK.out _ _ trivial (fun hHeld => ?_);clear hK K;refine norm_ (a':=?_) ?_ ?_;rotate_left
         ·show Act.put _ (some 54) _ = _
          simp only [Act.put,sa_,sb_,sc_,i64_w,i32_w];rfl
         refine pu_ (v:=?_) (a':=?_) 13 6 (bl_ 14 16383) rfl rfl HT_.out ?_ ?_ ?_;rotate_left
         ·intro w'
          go_simp;with_reducible rfl
         rotate_left
         ·simp only [Act.put,sa_,sb_,sc_,i64_w,i32_w]
          rfl
         refine done_ (done_of HT_.out (by kernel_rfl)) ?_;try go_wp2
         go_ret;exact ⟨_,by first|rfl|(simp [errW_none,errW_some] <;> rfl)|(simp [*,errW_none,errW_some] <;> rfl),Kd.R_mv HO123.out,bel_⟩
        ·rw [if_neg c33] at H
         exact absurd H (by simp)
       ·rw [if_neg c28] at H
        exact absurd H (by simp)
      ·rw [if_neg c27] at H
       exact absurd H (by simp)

end Go.Proofs.Ytnkonhplfldlmaa.Fn
