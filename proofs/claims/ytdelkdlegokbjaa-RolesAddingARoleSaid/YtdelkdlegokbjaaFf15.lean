/- A function of the program as a plain Lean function, and the proof that the call comes to just what it says (written by wip/tools/xprint.py for this claim). Condition: the plain function has an answer. -/
import Derived.Test.YtdelkdlegokbjaaFn0
import Derived.Test.YtdelkdlegokbjaaFs0
import Derived.Test.YtdelkdlegokbjaaWA
import Derived.Test.YtdelkdlegokbjaaTight
namespace Go.Proofs.Ytdelkdlegokbjaa.Fn
open Go.RowKit Go.Proofs.YtdelkdlegokbjaaW.PrintWords Go.Proofs.YtdelkdlegokbjaaW.PrintLast Go.Proofs.YtdelkdlegokbjaaW.PrintMore
attribute [local go_sem] max2_int min2_int max_two min_two max_three min_three max_four min_four   -- for this text's walks alone
set_option linter.unusedVariables false
set_option linter.unusedSimpArgs false

/-! ### changeforgeref5_RoleChain: function 15 -/
mutual
def changeforgeref5_RoleChain.l0 : Nat → List (S40) → ByteArray → Int → Int → Option (List Int)
 | 0,_,_,_,_ => none
 | k + 1,x0,x1,x2,x7 => if x7 < (x0.length : Int) then (if 0 ≤ x7 then (if ((rd_T40 x0 x7).f0) = x2 then ((changeforgeref5_Starts.f x1 ((rd_T40 x0 x7).f1)).bind fun t106 => (if t106 = true then ((some (([x2] : List Int) : List Int)).bind fun y107 => ((changeforgeref5_RoleChain.f k x0 x1 x7).bind fun t110 => (if y107.length + t110.length < 17592186044416 then (some (y107 ++ t110)) else (none)))) else (changeforgeref5_RoleChain.l0 k x0 x1 x2 (wrap64 (x7 + 1))))) else (changeforgeref5_RoleChain.l0 k x0 x1 x2 (wrap64 (x7 + 1)))) else (none)) else (some (([x2] : List Int)))
def changeforgeref5_RoleChain.f : Nat → List (S40) → ByteArray → Int → Option (List Int)
 | 0,_,_,_ => none
 | k + 1,l0,a1,a2 => changeforgeref5_RoleChain.l0 k l0 a1 a2 (wrap64 (a2 + 1))
end
theorem changeforgeref5_RoleChain.mono_l : ∀ k,(∀ y0 y1 y2,LeO (changeforgeref5_RoleChain.f k y0 y1 y2) (changeforgeref5_RoleChain.f (k + 1) y0 y1 y2)) ∧ (∀ y0 y1 y2 y3,LeO (changeforgeref5_RoleChain.l0 k y0 y1 y2 y3) (changeforgeref5_RoleChain.l0 (k + 1) y0 y1 y2 y3))
 | 0 => ⟨fun _ _ _ r h => by simp [changeforgeref5_RoleChain.f] at h,fun _ _ _ _ r h => by simp [changeforgeref5_RoleChain.l0] at h⟩
 | k + 1 => by
  obtain ⟨ih0,ih1⟩:=changeforgeref5_RoleChain.mono_l k;refine ⟨?_,?_⟩
  ·intro y0 y1 y2
   unfold changeforgeref5_RoleChain.f;repeat' first
   | (with_reducible exact ih0 _ _ _)
   | (with_reducible exact ih1 _ _ _ _)
   | (with_reducible exact LeO.refl _)
   | (with_reducible exact LeO.none _)
   | (with_reducible refine LeO.ite ?_ ?_)
   | (with_reducible refine LeO.bind ?_ (fun _ => ?_))
   | exact ih0 _ _ _
   | exact ih1 _ _ _ _
   | exact LeO.none _
   | refine LeO.ite ?_ ?_
   | refine LeO.bind ?_ (fun _ => ?_)
  ·intro y0 y1 y2 y3
   unfold changeforgeref5_RoleChain.l0;repeat' first
   | (with_reducible exact ih0 _ _ _)
   | (with_reducible exact ih1 _ _ _ _)
   | (with_reducible exact LeO.refl _)
   | (with_reducible exact LeO.none _)
   | (with_reducible refine LeO.ite ?_ ?_)
   | (with_reducible refine LeO.bind ?_ (fun _ => ?_))
   | exact ih0 _ _ _
   | exact ih1 _ _ _ _
   | exact LeO.none _
   | refine LeO.ite ?_ ?_
   | refine LeO.bind ?_ (fun _ => ?_)
theorem changeforgeref5_RoleChain.mono : ∀ a0 a1 a2 k,LeO (changeforgeref5_RoleChain.f k a0 a1 a2) (changeforgeref5_RoleChain.f (k + 1) a0 a1 a2):=by
 intro a0 a1 a2 k;obtain ⟨ih0,ih1⟩:=changeforgeref5_RoleChain.mono_l k;exact ih0 a0 a1 a2
set_option maxHeartbeats 8000000 in
set_option maxRecDepth 100000 in
theorem changeforgeref5_RoleChain.calls (k : Nat) : ∀ (A0 : Option Addr) (c0 : Nat) (l0 : List (S40)) (a1 : ByteArray) (a2 : Int) (r : List Int) (w : World) (hr0 : Kd.C k40 w A0 l0.length l0) (hc0 : l0.length ≤ c0) (h : changeforgeref5_RoleChain.f k l0 a1 a2 = some r),
  Calls Try.prog 15 #[.slice A0 l0.length c0,.string a1,.int .i64 a2] w fun e w' => ∃ v0_ : Value,e = .returned (v0_) ∧ Kd.R (Kd.int .i64) 3 w' w.heap.size (fun _ => True) v0_ r ∧ Below w.heap.size w w':=by
 induction k using Nat.strongRecOn with
 | _ k ih =>
 intro A0 c0 l0 a1 a2 r w hr0 hc0 h;cases k with
 | zero => exact absurd h (by simp [changeforgeref5_RoleChain.f])
 | succ k =>
 simp only [changeforgeref5_RoleChain.f] at h;have HR0:=Aside0.mk hr0;have HC0:=Aside0.mk hc0;clear hr0 hc0;have HB:=Aside0.mk (Below.refl w.heap.size w);have H : (changeforgeref5_RoleChain.l0 k l0 a1 a2 (wrap64 (a2 + 1))) = some r:=h;clear h;have H':=Aside0.mk H;clear H;go_enter Try.func15,Try.ntmps15;go_wp2;go_loopg [7] k (fun kq v7 w' => ∃ (x7_1 : Int),v7 = .int .i64 x7_1 ∧ Aside0 (changeforgeref5_RoleChain.l0 kq l0 a1 a2 x7_1 = some r) ∧ Aside0 (kq ≤ k) ∧ Aside0 (Below w.heap.size w w'))
 case atStart => exact ⟨(wrap64 (a2 + 1)),fr_,H',⟨Nat.le_refl _⟩,⟨bel_⟩⟩
 case round =>
  clear H';(try clear c1);(try clear p2);obtain ⟨x7_1,rfl,HA,HK1,HB⟩:=hrel;cases gk with
  | zero => exact absurd HA.out (by simp [changeforgeref5_RoleChain.l0])
  | succ k1 =>
   have H:=HA.out;clear HA;simp only [changeforgeref5_RoleChain.l0] at H;by_cases c4 : x7_1 < (l0.length : Int)
   ·rw [if_pos c4] at H
    have c4b0 : decide (x7_1 < (l0.length : Int)) = true:=decide_eq_true c4;clear c4;by_cases c5 : 0 ≤ x7_1
    ·rw [if_pos c5] at H
     have c5b0 : decide (0 ≤ x7_1) = true:=decide_eq_true c5;clear c5;by_cases c6 : ((rd_T40 l0 x7_1).f0) = a2
     ·rw [if_pos c6] at H
      have c6b0 : (((rd_T40 l0 x7_1).f0) == a2) = true:=beq_iff_eq.mpr c6;have c6b1 : (((rd_T40 l0 x7_1).f0) != a2) = false:=bne_eq_false_iff_eq.mpr c6;clear c6;replace H:=Option.bind_eq_some_iff.mp H;obtain ⟨t106,A70,H⟩:=H;replace H : (if t106 = true then ((some (([a2] : List Int) : List Int)).bind fun y107 => ((changeforgeref5_RoleChain.f k1 l0 a1 x7_1).bind fun t110 => (if y107.length + t110.length < 17592186044416 then (some (y107 ++ t110)) else (none)))) else (changeforgeref5_RoleChain.l0 k1 l0 a1 a2 (wrap64 (x7_1 + 1)))) = some r:=H;have A7:=Aside0.mk A70;clear A70;by_cases c8 : t106 = true
      ·subst c8
       have H1 : ((some (([a2] : List Int) : List Int)).bind fun y107 => ((changeforgeref5_RoleChain.f k1 l0 a1 x7_1).bind fun t110 => (if y107.length + t110.length < 17592186044416 then (some (y107 ++ t110)) else (none)))) = some r:=by rw [if_pos rfl] at H;exact H
       clear H;have H:=H1;clear H1;obtain ⟨y107,hy107⟩ : ∃ y_ : List Int,y_ = (([a2] : List Int)):=⟨_,rfl⟩;replace H : ((changeforgeref5_RoleChain.f k1 l0 a1 x7_1).bind fun t110 => (if y107.length + t110.length < 17592186044416 then (some (y107 ++ t110)) else (none))) = some r:=by first|(rw [hy107];with_reducible exact H)|(have H2_:=(Option.bind_some _ _).symm.trans H;rw [hy107];with_reducible exact H2_)|(have H2_:=(Option.bind_some _ _).symm.trans H;with_reducible exact H2_)|with_reducible exact H|(rw [hy107];exact H)|exact H
       have Ny107:=Aside0.mk hy107;clear hy107;replace H:=Option.bind_eq_some_iff.mp H;obtain ⟨t110,A90,H⟩:=H;replace H : (if y107.length + t110.length < 17592186044416 then (some (y107 ++ t110)) else (none)) = some r:=H;have A9:=Aside0.mk A90;clear A90;by_cases c10 : y107.length + t110.length < 17592186044416
       ·rw [if_pos c10] at H
        have LMc10:=Aside0.mk c10;clear c10;obtain ⟨y113,hy113⟩ : ∃ y_ : List Int,y_ = (y107 ++ t110):=⟨_,rfl⟩;replace H : (some y113) = some r:=by first|(rw [hy113];with_reducible exact H)|(have H2_:=(Option.bind_some _ _).symm.trans H;rw [hy113];with_reducible exact H2_)|(have H2_:=(Option.bind_some _ _).symm.trans H;with_reducible exact H2_)|with_reducible exact H|(rw [hy113];exact H)|exact H
        have Ny113:=Aside0.mk hy113;clear hy113;obtain rfl:=Option.some.inj H;have p104 : 0 ≤ (x7_1 : Int):=of_decide_eq_true as_;have q104 : x7_1 < (l0.length : Int):=of_decide_eq_true as_;obtain ⟨ad104,A104_2,c104_2,e104,hx104_0,hx104_1,hx104_2,hx104_3,hl104_2,hi104_2⟩:=at_T40 HR0.out x7_1 p104 q104;cases e104
        replace hx104_0:=(HB.out.cell (World.block_lt_of_cell? w _ hx104_0)).trans hx104_0;replace hx104_1:=(HB.out.cell (World.block_lt_of_cell? w _ hx104_1)).trans hx104_1;replace hx104_2:=(HB.out.cell (World.block_lt_of_cell? w _ hx104_2)).trans hx104_2;replace hx104_3:=(HB.out.cell (World.block_lt_of_cell? w _ hx104_3)).trans hx104_3;have HR104_2:=Aside0.mk hi104_2;have HC104_2:=Aside0.mk hl104_2;clear hi104_2 hl104_2;replace p104:=eq_true p104;replace q104:=eq_true q104;have p105 : 0 ≤ (x7_1 : Int):=of_decide_eq_true as_;have q105 : x7_1 < (l0.length : Int):=of_decide_eq_true as_;obtain ⟨ad105,A105_2,c105_2,e105,hx105_0,hx105_1,hx105_2,hx105_3,hl105_2,hi105_2⟩:=at_T40 HR0.out x7_1 p105 q105;obtain rfl : ad104 = ad105:=(by injection e105);replace hx105_0:=(HB.out.cell (World.block_lt_of_cell? w _ hx105_0)).trans hx105_0;replace hx105_1:=(HB.out.cell (World.block_lt_of_cell? w _ hx105_1)).trans hx105_1;replace hx105_2:=(HB.out.cell (World.block_lt_of_cell? w _ hx105_2)).trans hx105_2;replace hx105_3:=(HB.out.cell (World.block_lt_of_cell? w _ hx105_3)).trans hx105_3;have HR105_2:=Aside0.mk hi105_2;have HC105_2:=Aside0.mk hl105_2;clear hi105_2 hl105_2;replace p105:=eq_true p105;replace q105:=eq_true q105;have ea_:=Option.some.inj (hx104_2.symm.trans hx105_2);injection ea_ with ea_ en_ ec_;subst ea_;subst ec_;clear en_;go_wp2_with (first|(go_at_call 20;(with_reducible refine (changeforgeref5_Starts.calls a1 ((rd_T40 l0 x7_1).f1) true _ A7.out).mono ?_);rintro e w' ⟨rfl,⟨nd,rfl⟩⟩)|((with_reducible refine gate_dst (N:=33) rfl ?_);refine Kd.R_lit (Kd.int .i64) _ 3 ?hg (N:=33) ?hd (xs:=([a2] : List Int)) (inner:=[.int .i64 a2]) (ok:=fun _ => True) (okp:=fun _ => True) ?hr ?hp (fun _ hk => hk) trivial (Below.refl _ _) (Nat.le_refl _) (by simp) ?_;(case hd => rfl);(case hg => rfl);(case hr => first|(go_simp;done)|(go_simp;rfl));(case hp => exact (Reps.one (show Kd.M (Kd.int .i64) _ _ _ a2 [.int .i64 a2] from rfl) (Reps.none _ _)));intro v108 w11 ho12 hb hg_ hnew_;clear hg_ hnew_;(first|rw [← Ny107.out] at ho12|(simp only [Int.reduceToNat] at ho12;rw [← Ny107.out] at ho12));have HO109:=Aside0.mk (Kd.R_lower ho12 (below_size bel_));replace HB:=Aside0.mk (below_step bel_ hb);clear hb ho12)|((with_reducible refine gate_callee (f:=15) rfl ?_);refine goesL_ (some 37) rfl rfl Try.func15 (by kernel_rfl) rfl #[.slice (some ad104) l0.length c0,.string a1,.int .i64 x7_1] rfl ln_ ?_;(with_reducible refine (ih k1 (by have:=HK1.out;omega) _ _ l0 a1 x7_1 t110 _ ?side1 ?side2 A9.out).mono ?_);(case side1 => first|exact (Kd.C_below HR0.out HB.out)|exact Kd.C_mv (Kd.C_below HR0.out HB.out));(case side2 => exact HC0.out);rintro e w13 ⟨v111,rfl,ho0,hb⟩;refine ⟨_,rfl,?_⟩;have HO112:=Aside0.mk (Kd.R_lower (Kd.R_new' ho0 (Kd.R_lt (Kd.R_mv HO109.out))) (below_size bel_));replace HO109:=Aside0.mk (Kd.R_elder' (Kd.R_mv HO109.out) (Kd.R_base ho0) hb);replace HB:=Aside0.mk (below_step bel_ hb);(try clear hb);(try clear hb2);(try clear hk);(try clear hi);(try clear ho0);obtain ⟨Ao15,co15,eo15⟩:=Kd.R_slice HO112.out;subst eo15)|((with_reducible refine gate_builtin (b:=.append) (xs:=#[.tmp 33,.tmp 37]) rfl ?_);at_builtin;refine Kd.R_append_rows (Kd.int .i64) (w0:=w) w.heap.size rfl (.tmp 33) (.tmp 37) 30 3 (.int .i64 0) 8 rfl Try.underlying30 info3 rfl (by decide) (by omega) v108 y107 t110 _ _ _ (fun k_ => some k_ ≠ (.slice Ao15 t110.length co15 : Value).ownBlock) (fun _ => False) rfl rfl ?aO ?aR (fun _ _ h => h) (fun _ h => h.elim) ?aF ?aB ?aS ?aL ?_;(case aR => first|exact (Kd.R_reads' HO112.out).2.2|exact Kd.C_mv (Kd.R_reads' HO112.out).2.2);(case aB => exact bel_);(case aF => exact (fun k_ hk => Kd.fresh' (Kd.R_lt (Kd.R_mv HO112.out)) k_ hk));(case aO => exact (by (with_reducible repeat (first|apply Kd.R_alloc|apply Kd.R_drewN|apply Kd.R_drew));exact Kd.R_mono HO109.out (fun _ hk => hk.2)));(case aS => exact (below_size bel_));(case aL => have:=LMc10.out;omega);intro v114 w14 ho hb hg hat;rw [← Ny113.out] at ho;replace HO112:=Aside0.mk (Kd.R_after (ok:=(fun _ => True)) (Kd.R_mv HO112.out) hg hat);replace HB:=Aside0.mk (hb);have HO115:=Aside0.mk (ho);clear HO109;clear ho hb hg hat));go_ret;exact ⟨_,by first|rfl|(simp [errW_none,errW_some] <;> rfl)|(simp [*,errW_none,errW_some] <;> rfl),by (with_reducible repeat (first|apply Kd.R_alloc|apply Kd.R_drewN|apply Kd.R_drew));exact Kd.R_mono HO115.out (fun _ hk => trivial),bel_⟩
       ·rw [if_neg c10] at H
        exact absurd H (by simp)
      ·replace c8:=Bool.eq_false_iff.mpr c8
       subst c8;have H1 : (changeforgeref5_RoleChain.l0 k1 l0 a1 a2 (wrap64 (x7_1 + 1))) = some r:=by rw [if_neg (show ¬ (false = true) by decide)] at H;exact H
       clear H;have H:=H1;clear H1;have H':=Aside0.mk H;clear H;have p104 : 0 ≤ (x7_1 : Int):=of_decide_eq_true as_;have q104 : x7_1 < (l0.length : Int):=of_decide_eq_true as_;obtain ⟨ad104,A104_2,c104_2,e104,hx104_0,hx104_1,hx104_2,hx104_3,hl104_2,hi104_2⟩:=at_T40 HR0.out x7_1 p104 q104;cases e104
       replace hx104_0:=(HB.out.cell (World.block_lt_of_cell? w _ hx104_0)).trans hx104_0;replace hx104_1:=(HB.out.cell (World.block_lt_of_cell? w _ hx104_1)).trans hx104_1;replace hx104_2:=(HB.out.cell (World.block_lt_of_cell? w _ hx104_2)).trans hx104_2;replace hx104_3:=(HB.out.cell (World.block_lt_of_cell? w _ hx104_3)).trans hx104_3;have HR104_2:=Aside0.mk hi104_2;have HC104_2:=Aside0.mk hl104_2;clear hi104_2 hl104_2;replace p104:=eq_true p104;replace q104:=eq_true q104;have p105 : 0 ≤ (x7_1 : Int):=of_decide_eq_true as_;have q105 : x7_1 < (l0.length : Int):=of_decide_eq_true as_;obtain ⟨ad105,A105_2,c105_2,e105,hx105_0,hx105_1,hx105_2,hx105_3,hl105_2,hi105_2⟩:=at_T40 HR0.out x7_1 p105 q105;obtain rfl : ad104 = ad105:=(by injection e105);replace hx105_0:=(HB.out.cell (World.block_lt_of_cell? w _ hx105_0)).trans hx105_0;replace hx105_1:=(HB.out.cell (World.block_lt_of_cell? w _ hx105_1)).trans hx105_1;replace hx105_2:=(HB.out.cell (World.block_lt_of_cell? w _ hx105_2)).trans hx105_2;replace hx105_3:=(HB.out.cell (World.block_lt_of_cell? w _ hx105_3)).trans hx105_3;have HR105_2:=Aside0.mk hi105_2;have HC105_2:=Aside0.mk hl105_2;clear hi105_2 hl105_2;replace p105:=eq_true p105;replace q105:=eq_true q105;have ea_:=Option.some.inj (hx104_2.symm.trans hx105_2);injection ea_ with ea_ en_ ec_;subst ea_;subst ec_;clear en_;go_wp2_with (first|(go_at_call 20;(with_reducible refine (changeforgeref5_Starts.calls a1 ((rd_T40 l0 x7_1).f1) false _ A7.out).mono ?_);rintro e w' ⟨rfl,⟨nd,rfl⟩⟩));go_roundg k1
       case measure => have:=HK1.out;omega
       case rel => exact ⟨(wrap64 (x7_1 + 1)),fr_,H',⟨by have:=HK1.out;omega⟩,⟨bel_⟩⟩
     ·rw [if_neg c6] at H
      have c6b0 : (((rd_T40 l0 x7_1).f0) == a2) = false:=beq_eq_false_iff_ne.mpr c6;have c6b1 : (((rd_T40 l0 x7_1).f0) != a2) = true:=bne_iff_ne.mpr c6;have H':=Aside0.mk H;clear H;have p104 : 0 ≤ (x7_1 : Int):=of_decide_eq_true as_;have q104 : x7_1 < (l0.length : Int):=of_decide_eq_true as_;obtain ⟨ad104,A104_2,c104_2,e104,hx104_0,hx104_1,hx104_2,hx104_3,hl104_2,hi104_2⟩:=at_T40 HR0.out x7_1 p104 q104;cases e104
      replace hx104_0:=(HB.out.cell (World.block_lt_of_cell? w _ hx104_0)).trans hx104_0;replace hx104_1:=(HB.out.cell (World.block_lt_of_cell? w _ hx104_1)).trans hx104_1;replace hx104_2:=(HB.out.cell (World.block_lt_of_cell? w _ hx104_2)).trans hx104_2;replace hx104_3:=(HB.out.cell (World.block_lt_of_cell? w _ hx104_3)).trans hx104_3;have HR104_2:=Aside0.mk hi104_2;have HC104_2:=Aside0.mk hl104_2;clear hi104_2 hl104_2;replace p104:=eq_true p104;replace q104:=eq_true q104;go_wp2;go_roundg k1
      case measure => have:=HK1.out;omega
      case rel => exact ⟨(wrap64 (x7_1 + 1)),fr_,H',⟨by have:=HK1.out;omega⟩,⟨bel_⟩⟩
    ·rw [if_neg c5] at H
     exact absurd H (by simp)
   ·rw [if_neg c4] at H
    have c4b0 : decide (x7_1 < (l0.length : Int)) = false:=decide_eq_false c4;clear c4;obtain ⟨y101,hy101⟩ : ∃ y_ : List Int,y_ = (([a2] : List Int)):=⟨_,rfl⟩;replace H : (some y101) = some r:=by first|(rw [hy101];with_reducible exact H)|(have H2_:=(Option.bind_some _ _).symm.trans H;rw [hy101];with_reducible exact H2_)|(have H2_:=(Option.bind_some _ _).symm.trans H;with_reducible exact H2_)|with_reducible exact H|(rw [hy101];exact H)|exact H
    have Ny101:=Aside0.mk hy101;clear hy101;obtain rfl:=Option.some.inj H;go_wp2_with (first|((with_reducible refine gate_dst (N:=40) rfl ?_);refine Kd.R_lit (Kd.int .i64) _ 3 ?hg (N:=40) ?hd (xs:=([a2] : List Int)) (inner:=[.int .i64 a2]) (ok:=fun _ => True) (okp:=fun _ => True) ?hr ?hp (fun _ hk => hk) trivial (Below.refl _ _) (Nat.le_refl _) (by simp) ?_;(case hd => rfl);(case hg => rfl);(case hr => first|(go_simp;done)|(go_simp;rfl));(case hp => exact (Reps.one (show Kd.M (Kd.int .i64) _ _ _ a2 [.int .i64 a2] from rfl) (Reps.none _ _)));intro v102 w16 ho17 hb hg_ hnew_;clear hg_ hnew_;(first|rw [← Ny101.out] at ho17|(simp only [Int.reduceToNat] at ho17;rw [← Ny101.out] at ho17));have HO103:=Aside0.mk (Kd.R_lower ho17 (below_size bel_));replace HB:=Aside0.mk (below_step bel_ hb);clear hb ho17));go_ret;exact ⟨_,by first|rfl|(simp [errW_none,errW_some] <;> rfl)|(simp [*,errW_none,errW_some] <;> rfl),Kd.R_mv HO103.out,bel_⟩

end Go.Proofs.Ytdelkdlegokbjaa.Fn
