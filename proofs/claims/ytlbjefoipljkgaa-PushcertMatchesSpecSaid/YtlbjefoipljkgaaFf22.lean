/- A function of the program as a plain Lean function, and the proof that the call comes to just what it says (written by wip/tools/xprint.py for this claim). Condition: the plain function has an answer. -/
import Derived.Test.YtlbjefoipljkgaaFn0
import Derived.Test.YtlbjefoipljkgaaWA
import Derived.Test.YtlbjefoipljkgaaTight
namespace Go.Proofs.Ytlbjefoipljkgaa.Fn
open Go.RowKit Go.Proofs.YtlbjefoipljkgaaW.PrintWords Go.Proofs.YtlbjefoipljkgaaW.PrintLast Go.Proofs.YtlbjefoipljkgaaW.PrintMore
attribute [local go_sem] max2_int min2_int max_two min_two max_three min_three max_four min_four   -- for this text's walks alone
set_option linter.unusedVariables false
set_option linter.unusedSimpArgs false

/-! ### changeforgeref5_Inserted: function 22 -/
def changeforgeref5_Inserted.l0 : Nat → List Int → Int → List Int → Int → Option (List Int)
 | 0,_,_,_,_ => none
 | k + 1,x0,x1,x5,x6 => if x6 < (x0.length : Int) then (if 0 ≤ x6 then (if (rd x0 x6) < x1 then (if x5.length < 17592186044416 then (changeforgeref5_Inserted.l0 k x0 x1 (x5 ++ [rd x0 x6]) (wrap64 (x6 + 1))) else (none)) else (if x5.length < 17592186044416 then ((some (x5 ++ [x1] : List Int)).bind fun y106 => (if 0 ≤ (x5.length : Int) then (if (x5.length : Int) ≤ (x0.length : Int) then (if y106.length + (x0.drop ((x5.length : Int) : Int).toNat).length < 17592186044416 then (some (y106 ++ (x0.drop ((x5.length : Int) : Int).toNat))) else (none)) else (none)) else (none))) else (none))) else (none)) else (if x5.length < 17592186044416 then ((some (x5 ++ [x1] : List Int)).bind fun y113 => (if 0 ≤ (x5.length : Int) then (if (x5.length : Int) ≤ (x0.length : Int) then (if y113.length + (x0.drop ((x5.length : Int) : Int).toNat).length < 17592186044416 then (some (y113 ++ (x0.drop ((x5.length : Int) : Int).toNat))) else (none)) else (none)) else (none))) else (none))
def changeforgeref5_Inserted.f (k : Nat) (l0 : List Int) (a1 : Int) : Option (List Int):=changeforgeref5_Inserted.l0 k l0 a1 ([] : List Int) 0
theorem changeforgeref5_Inserted.mono_l : ∀ k,(∀ y0 y1 y2 y3,LeO (changeforgeref5_Inserted.l0 k y0 y1 y2 y3) (changeforgeref5_Inserted.l0 (k + 1) y0 y1 y2 y3))
 | 0 => fun _ _ _ _ r h => by simp [changeforgeref5_Inserted.l0] at h
 | k + 1 => by
  have ih0:=changeforgeref5_Inserted.mono_l k
  ·intro y0 y1 y2 y3
   unfold changeforgeref5_Inserted.l0;repeat' first
   | (with_reducible exact ih0 _ _ _ _)
   | (with_reducible exact LeO.refl _)
   | (with_reducible exact LeO.none _)
   | (with_reducible refine LeO.ite ?_ ?_)
   | (with_reducible refine LeO.bind ?_ (fun _ => ?_))
   | exact ih0 _ _ _ _
   | exact LeO.none _
   | refine LeO.ite ?_ ?_
   | refine LeO.bind ?_ (fun _ => ?_)
theorem changeforgeref5_Inserted.mono : ∀ a0 a1 k,LeO (changeforgeref5_Inserted.f k a0 a1) (changeforgeref5_Inserted.f (k + 1) a0 a1):=by
 intro a0 a1 k;have ih0:=changeforgeref5_Inserted.mono_l k;unfold changeforgeref5_Inserted.f
 repeat' first
   | (with_reducible exact ih0 _ _ _ _)
   | (with_reducible exact LeO.refl _)
   | (with_reducible exact LeO.none _)
   | (with_reducible refine LeO.ite ?_ ?_)
   | (with_reducible refine LeO.bind ?_ (fun _ => ?_))
   | exact ih0 _ _ _ _
   | exact LeO.none _
   | refine LeO.ite ?_ ?_
   | refine LeO.bind ?_ (fun _ => ?_)
set_option maxHeartbeats 8000000 in
set_option maxRecDepth 100000 in
theorem changeforgeref5_Inserted.calls (k : Nat) (A0 : Option Addr) (c0 : Nat) (l0 : List Int) (a1 : Int) (r : List Int) (w : World) (hr0 : Kd.C (Kd.int .i64) w A0 l0.length l0) (hc0 : l0.length ≤ c0) (h : changeforgeref5_Inserted.f k l0 a1 = some r) :
  Calls Try.prog 22 #[.slice A0 l0.length c0,.int .i64 a1] w fun e w' => ∃ v0_ : Value,e = .returned (v0_) ∧ Kd.R (Kd.int .i64) 3 w' w.heap.size (fun _ => True) v0_ r ∧ Below w.heap.size w w':=by
 have HR0:=Aside0.mk hr0;have HC0:=Aside0.mk hc0;clear hr0 hc0;have HB:=Aside0.mk (Below.refl w.heap.size w);have H : (changeforgeref5_Inserted.l0 k l0 a1 ([] : List Int) 0) = some r:=h;clear h;have H':=Aside0.mk H;clear H;go_enter Try.func22,Try.ntmps22;go_wp2;go_loopg [5,6] k (fun kq v5 v6 w' => ∃ (x5_1 : List Int) (x6_1 : Int),v6 = .int .i64 x6_1 ∧ Aside0 (changeforgeref5_Inserted.l0 kq l0 a1 x5_1 x6_1 = some r) ∧ Aside0 (kq ≤ k) ∧ Aside0 (Kd.R (Kd.int .i64) 3 w' w.heap.size (fun _ => True) v5 x5_1) ∧ Aside0 (Below w.heap.size w w'))
 case atStart => exact ⟨(([] : List Int)),(0),fr_,H',⟨Nat.le_refl _⟩,⟨by first|exact Kd.R_nil _ _ _ _ _|exact Kd.N_nil _ _ _ _ _|exact Kd.V_nil _ _ _ _ _|exact Kd.Q_nil _ _ _ _ _|exact Kd.S_nil _ _ _ _ _⟩,⟨bel_⟩⟩
 case round =>
  clear H';(try clear c2);(try clear p2);obtain ⟨x5_1,x6_1,rfl,HA,HK1,HO_5,HB⟩:=hrel;cases gk with
  | zero => exact absurd HA.out (by simp [changeforgeref5_Inserted.l0])
  | succ k1 =>
   have H:=HA.out;clear HA;simp only [changeforgeref5_Inserted.l0] at H;by_cases c3 : x6_1 < (l0.length : Int)
   ·rw [if_pos c3] at H
    have c3b0 : decide (x6_1 < (l0.length : Int)) = true:=decide_eq_true c3;clear c3;by_cases c4 : 0 ≤ x6_1
    ·rw [if_pos c4] at H
     have c4b0 : decide (0 ≤ x6_1) = true:=decide_eq_true c4;clear c4;by_cases c5 : (rd l0 x6_1) < a1
     ·rw [if_pos c5] at H
      have c5b0 : decide ((rd l0 x6_1) < a1) = true:=decide_eq_true c5;clear c5;by_cases c6 : x5_1.length < 17592186044416
      ·rw [if_pos c6] at H
       have LMc6:=Aside0.mk c6;clear c6;obtain ⟨y103,hy103⟩ : ∃ y_ : List Int,y_ = (x5_1 ++ [rd l0 x6_1]):=⟨_,rfl⟩;replace H : (changeforgeref5_Inserted.l0 k1 l0 a1 y103 (wrap64 (x6_1 + 1))) = some r:=by first|(rw [hy103];with_reducible exact H)|(have H2_:=(Option.bind_some _ _).symm.trans H;rw [hy103];with_reducible exact H2_)|(have H2_:=(Option.bind_some _ _).symm.trans H;with_reducible exact H2_)|with_reducible exact H|(rw [hy103];exact H)|exact H
       have Ny103:=Aside0.mk hy103;clear hy103;have H':=Aside0.mk H;clear H;have p101 : 0 ≤ (x6_1 : Int):=of_decide_eq_true as_;have q101 : x6_1 < (l0.length : Int):=of_decide_eq_true as_;obtain ⟨ad101,e101,hx101_0⟩:=Kd.at_int HR0.out x6_1 p101 q101;cases e101
       replace hx101_0:=(HB.out.cell (World.block_lt_of_cell? w _ hx101_0)).trans hx101_0;replace p101:=eq_true p101;replace q101:=eq_true q101;have p102 : 0 ≤ (x6_1 : Int):=of_decide_eq_true as_;have q102 : x6_1 < (l0.length : Int):=of_decide_eq_true as_;obtain ⟨ad102,e102,hx102_0⟩:=Kd.at_int HR0.out x6_1 p102 q102;obtain rfl : ad101 = ad102:=(by injection e102);replace hx102_0:=(HB.out.cell (World.block_lt_of_cell? w _ hx102_0)).trans hx102_0;replace p102:=eq_true p102;replace q102:=eq_true q102;go_wp2_with (first|((with_reducible refine gate_builtin (b:=.append) (xs:=#[.tmp 22,.tmp 27]) rfl ?_);at_builtin;refine Kd.R_append (Kd.int .i64) (w0:=w) w.heap.size rfl (.tmp 22) (.tmp 27) 38 3 (.int .i64 0) 8 rfl Try.underlying38 info3 rfl (by decide) (by omega) u5 x5_1 (rd l0 x6_1) [.int .i64 (rd l0 x6_1)] (fun _ => True) (fun _ => False) rfl rfl ?aP (fun _ hk => hk.elim) ?aF ?aO ?aB ?aS ?aL ?_;(case aP => exact rfl);(case aB => exact bel_);(case aF => exact (fun _ _ => trivial));(case aO => exact (Kd.R_mv HO_5.out));(case aS => exact (below_size bel_));(case aL => have:=LMc6.out;omega);intro v104 w7 ho hb hg hat;rw [← Ny103.out] at ho;replace HB:=Aside0.mk (hb);have HO105:=Aside0.mk (ho);clear HO_5;clear ho hb hg hat));go_roundg k1
       case measure => have:=HK1.out;omega
       case rel => exact ⟨(y103),(wrap64 (x6_1 + 1)),fr_,H',⟨by have:=HK1.out;omega⟩,⟨Kd.R_mv HO105.out⟩,⟨bel_⟩⟩
      ·rw [if_neg c6] at H
       exact absurd H (by simp)
     ·rw [if_neg c5] at H
      have c5b0 : decide ((rd l0 x6_1) < a1) = false:=decide_eq_false c5;clear c5;by_cases c8 : x5_1.length < 17592186044416
      ·rw [if_pos c8] at H
       have LMc8:=Aside0.mk c8;clear c8;obtain ⟨y106,hy106⟩ : ∃ y_ : List Int,y_ = (x5_1 ++ [a1]):=⟨_,rfl⟩;replace H : (if 0 ≤ (x5_1.length : Int) then (if (x5_1.length : Int) ≤ (l0.length : Int) then (if y106.length + (l0.drop ((x5_1.length : Int) : Int).toNat).length < 17592186044416 then (some (y106 ++ (l0.drop ((x5_1.length : Int) : Int).toNat))) else (none)) else (none)) else (none)) = some r:=by first|(rw [hy106];with_reducible exact H)|(have H2_:=(Option.bind_some _ _).symm.trans H;rw [hy106];with_reducible exact H2_)|(have H2_:=(Option.bind_some _ _).symm.trans H;with_reducible exact H2_)|with_reducible exact H|(rw [hy106];exact H)|exact H
       have Ny106:=Aside0.mk hy106;clear hy106;by_cases c9 : 0 ≤ (x5_1.length : Int)
       ·rw [if_pos c9] at H
        have c9b0:=eq_true c9;have c9b1 : decide (0 ≤ (x5_1.length : Int)) = true:=decide_eq_true c9;clear c9;by_cases c10 : (x5_1.length : Int) ≤ (l0.length : Int)
        ·rw [if_pos c10] at H
         have c10b0:=eq_true c10;have c10b1 : decide ((x5_1.length : Int) ≤ (l0.length : Int)) = true:=decide_eq_true c10;clear c10;by_cases c11 : y106.length + (l0.drop ((x5_1.length : Int) : Int).toNat).length < 17592186044416
         ·rw [if_pos c11] at H
          have LMc11:=Aside0.mk c11;clear c11;obtain ⟨y110,hy110⟩ : ∃ y_ : List Int,y_ = (y106 ++ (l0.drop ((x5_1.length : Int) : Int).toNat)):=⟨_,rfl⟩;replace H : (some y110) = some r:=by first|(rw [hy110];with_reducible exact H)|(have H2_:=(Option.bind_some _ _).symm.trans H;rw [hy110];with_reducible exact H2_)|(have H2_:=(Option.bind_some _ _).symm.trans H;with_reducible exact H2_)|with_reducible exact H|(rw [hy110];exact H)|exact H
          have Ny110:=Aside0.mk hy110;clear hy110;obtain rfl:=Option.some.inj H;have p101 : 0 ≤ (x6_1 : Int):=of_decide_eq_true as_;have q101 : x6_1 < (l0.length : Int):=of_decide_eq_true as_;obtain ⟨ad101,e101,hx101_0⟩:=Kd.at_int HR0.out x6_1 p101 q101;cases e101
          replace hx101_0:=(HB.out.cell (World.block_lt_of_cell? w _ hx101_0)).trans hx101_0;replace p101:=eq_true p101;replace q101:=eq_true q101;obtain ⟨Ao12,co12,eo12⟩:=Kd.R_slice HO_5.out;subst eo12;go_wp2_with (first|((with_reducible refine gate_builtin (b:=.append) (xs:=#[.tmp 31,.tmp 33]) rfl ?_);at_builtin;refine Kd.R_append (Kd.int .i64) (w0:=w) w.heap.size rfl (.tmp 31) (.tmp 33) 38 3 (.int .i64 0) 8 rfl Try.underlying38 info3 rfl (by decide) (by omega) (.slice Ao12 x5_1.length co12) x5_1 a1 [.int .i64 a1] (fun _ => True) (fun _ => False) rfl rfl ?aP (fun _ hk => hk.elim) ?aF ?aO ?aB ?aS ?aL ?_;(case aP => exact rfl);(case aB => exact bel_);(case aF => exact (fun _ _ => trivial));(case aO => exact (Kd.R_mv HO_5.out));(case aS => exact (below_size bel_));(case aL => have:=LMc8.out;omega);intro v107 w13 ho hb hg hat;rw [← Ny106.out] at ho;replace HB:=Aside0.mk (hb);have HO108:=Aside0.mk (ho);clear HO_5;clear ho hb hg hat;obtain ⟨i014,hi014,_,hsz14,_⟩:=info_parts info3;obtain ⟨A14,hcut14,hA14,hC14⟩:=print_drop_of (P:=Try.prog) (Value.int .i64) 0 38 3 .i64 Try.underlying38 hi014 hsz14 (some ad101) c0 l0 (x5_1.length : Int) (of_decide_eq_true as_) (of_decide_eq_true as_) HC0.out;have HR109:=Aside0.mk (Kd.C_of_reads (h1:=fun _ => rfl) (hA14 _ (Kd.reads_of_C HR0.out)));have HC109:=Aside0.mk hC14;clear hA14 hC14 hi014 hsz14)|((with_reducible refine gate_builtin (b:=.append) (xs:=#[.tmp 35,.tmp 38]) rfl ?_);at_builtin;refine Kd.R_append_rows (Kd.int .i64) (w0:=w) w.heap.size rfl (.tmp 35) (.tmp 38) 38 3 (.int .i64 0) 8 rfl Try.underlying38 info3 rfl (by decide) (by omega) v107 y106 (l0.drop ((x5_1.length : Int) : Int).toNat) _ _ _ (fun _ => True) (fun _ => False) rfl rfl ?aO ?aR (fun _ _ h => h) (fun _ h => h.elim) ?aF ?aB ?aS ?aL ?_;(case aR => first|exact (Kd.C_below HR109.out HB.out)|exact Kd.C_mv (Kd.C_below HR109.out HB.out)|exact Kd.C_lenm (Kd.C_below HR109.out HB.out) (by simp)|exact Kd.C_lenm (Kd.C_mv (Kd.C_below HR109.out HB.out)) (by simp));(case aB => exact bel_);(case aF => exact (fun _ _ => trivial));(case aO => exact (Kd.R_mv HO108.out));(case aS => exact (below_size bel_));(case aL => have:=LMc11.out;have hlx_:=(show (l0.drop ((x5_1.length : Int) : Int).toNat).length = (l0.length - (x5_1.length : Int).toNat) from List.length_drop);omega);intro v111 w15 ho hb hg hat;rw [← Ny110.out] at ho;replace HB:=Aside0.mk (hb);have HO112:=Aside0.mk (ho);clear HO108;clear ho hb hg hat));go_ret;exact ⟨_,by first|rfl|(simp [errW_none,errW_some] <;> rfl)|(simp [*,errW_none,errW_some] <;> rfl),Kd.R_mv HO112.out,bel_⟩
         ·rw [if_neg c11] at H
          exact absurd H (by simp)
        ·rw [if_neg c10] at H
         exact absurd H (by simp)
       ·rw [if_neg c9] at H
        exact absurd H (by simp)
      ·rw [if_neg c8] at H
       exact absurd H (by simp)
    ·rw [if_neg c4] at H
     exact absurd H (by simp)
   ·rw [if_neg c3] at H
    have c3b0 : decide (x6_1 < (l0.length : Int)) = false:=decide_eq_false c3;clear c3;by_cases c16 : x5_1.length < 17592186044416
    ·rw [if_pos c16] at H
     have LMc16:=Aside0.mk c16;clear c16;obtain ⟨y113,hy113⟩ : ∃ y_ : List Int,y_ = (x5_1 ++ [a1]):=⟨_,rfl⟩;replace H : (if 0 ≤ (x5_1.length : Int) then (if (x5_1.length : Int) ≤ (l0.length : Int) then (if y113.length + (l0.drop ((x5_1.length : Int) : Int).toNat).length < 17592186044416 then (some (y113 ++ (l0.drop ((x5_1.length : Int) : Int).toNat))) else (none)) else (none)) else (none)) = some r:=by first|(rw [hy113];with_reducible exact H)|(have H2_:=(Option.bind_some _ _).symm.trans H;rw [hy113];with_reducible exact H2_)|(have H2_:=(Option.bind_some _ _).symm.trans H;with_reducible exact H2_)|with_reducible exact H|(rw [hy113];exact H)|exact H
     have Ny113:=Aside0.mk hy113;clear hy113;by_cases c17 : 0 ≤ (x5_1.length : Int)
     ·rw [if_pos c17] at H
      have c17b0:=eq_true c17;have c17b1 : decide (0 ≤ (x5_1.length : Int)) = true:=decide_eq_true c17;clear c17;by_cases c18 : (x5_1.length : Int) ≤ (l0.length : Int)
      ·rw [if_pos c18] at H
       have c18b0:=eq_true c18;have c18b1 : decide ((x5_1.length : Int) ≤ (l0.length : Int)) = true:=decide_eq_true c18;clear c18;by_cases c19 : y113.length + (l0.drop ((x5_1.length : Int) : Int).toNat).length < 17592186044416
       ·rw [if_pos c19] at H
        have LMc19:=Aside0.mk c19;clear c19;obtain ⟨y117,hy117⟩ : ∃ y_ : List Int,y_ = (y113 ++ (l0.drop ((x5_1.length : Int) : Int).toNat)):=⟨_,rfl⟩;replace H : (some y117) = some r:=by first|(rw [hy117];with_reducible exact H)|(have H2_:=(Option.bind_some _ _).symm.trans H;rw [hy117];with_reducible exact H2_)|(have H2_:=(Option.bind_some _ _).symm.trans H;with_reducible exact H2_)|with_reducible exact H|(rw [hy117];exact H)|exact H
        have Ny117:=Aside0.mk hy117;clear hy117;obtain rfl:=Option.some.inj H;obtain ⟨Ao20,co20,eo20⟩:=Kd.R_slice HO_5.out;subst eo20;go_wp2_with (first|((with_reducible refine gate_builtin (b:=.append) (xs:=#[.tmp 31,.tmp 33]) rfl ?_);at_builtin;refine Kd.R_append (Kd.int .i64) (w0:=w) w.heap.size rfl (.tmp 31) (.tmp 33) 38 3 (.int .i64 0) 8 rfl Try.underlying38 info3 rfl (by decide) (by omega) (.slice Ao20 x5_1.length co20) x5_1 a1 [.int .i64 a1] (fun _ => True) (fun _ => False) rfl rfl ?aP (fun _ hk => hk.elim) ?aF ?aO ?aB ?aS ?aL ?_;(case aP => exact rfl);(case aB => exact bel_);(case aF => exact (fun _ _ => trivial));(case aO => exact (Kd.R_mv HO_5.out));(case aS => exact (below_size bel_));(case aL => have:=LMc16.out;omega);intro v114 w21 ho hb hg hat;rw [← Ny113.out] at ho;replace HB:=Aside0.mk (hb);have HO115:=Aside0.mk (ho);clear HO_5;clear ho hb hg hat;obtain ⟨i022,hi022,_,hsz22,_⟩:=info_parts info3;obtain ⟨A22,hcut22,hA22,hC22⟩:=print_drop_of (P:=Try.prog) (Value.int .i64) 0 38 3 .i64 Try.underlying38 hi022 hsz22 A0 c0 l0 (x5_1.length : Int) (of_decide_eq_true as_) (of_decide_eq_true as_) HC0.out;have HR116:=Aside0.mk (Kd.C_of_reads (h1:=fun _ => rfl) (hA22 _ (Kd.reads_of_C HR0.out)));have HC116:=Aside0.mk hC22;clear hA22 hC22 hi022 hsz22)|((with_reducible refine gate_builtin (b:=.append) (xs:=#[.tmp 35,.tmp 38]) rfl ?_);at_builtin;refine Kd.R_append_rows (Kd.int .i64) (w0:=w) w.heap.size rfl (.tmp 35) (.tmp 38) 38 3 (.int .i64 0) 8 rfl Try.underlying38 info3 rfl (by decide) (by omega) v114 y113 (l0.drop ((x5_1.length : Int) : Int).toNat) _ _ _ (fun _ => True) (fun _ => False) rfl rfl ?aO ?aR (fun _ _ h => h) (fun _ h => h.elim) ?aF ?aB ?aS ?aL ?_;(case aR => first|exact (Kd.C_below HR116.out HB.out)|exact Kd.C_mv (Kd.C_below HR116.out HB.out)|exact Kd.C_lenm (Kd.C_below HR116.out HB.out) (by simp)|exact Kd.C_lenm (Kd.C_mv (Kd.C_below HR116.out HB.out)) (by simp));(case aB => exact bel_);(case aF => exact (fun _ _ => trivial));(case aO => exact (Kd.R_mv HO115.out));(case aS => exact (below_size bel_));(case aL => have:=LMc19.out;have hlx_:=(show (l0.drop ((x5_1.length : Int) : Int).toNat).length = (l0.length - (x5_1.length : Int).toNat) from List.length_drop);omega);intro v118 w23 ho hb hg hat;rw [← Ny117.out] at ho;replace HB:=Aside0.mk (hb);have HO119:=Aside0.mk (ho);clear HO115;clear ho hb hg hat));go_ret;exact ⟨_,by first|rfl|(simp [errW_none,errW_some] <;> rfl)|(simp [*,errW_none,errW_some] <;> rfl),Kd.R_mv HO119.out,bel_⟩
       ·rw [if_neg c19] at H
        exact absurd H (by simp)
      ·rw [if_neg c18] at H
       exact absurd H (by simp)
     ·rw [if_neg c17] at H
      exact absurd H (by simp)
    ·rw [if_neg c16] at H
     exact absurd H (by simp)

end Go.Proofs.Ytlbjefoipljkgaa.Fn
