/- A function of the program as a plain Lean function, and the proof that the call comes to just what it says (written by wip/tools/xprint.py for this claim). Condition: the plain function has an answer. -/
import Derived.Test.YtdelkdlegokbjaaFn0
import Derived.Test.YtdelkdlegokbjaaFf9
import Derived.Test.YtdelkdlegokbjaaFs0
import Derived.Test.YtdelkdlegokbjaaWA
import Derived.Test.YtdelkdlegokbjaaTight
namespace Go.Proofs.Ytdelkdlegokbjaa.Fn
open Go.RowKit Go.Proofs.YtdelkdlegokbjaaW.PrintWords Go.Proofs.YtdelkdlegokbjaaW.PrintLast Go.Proofs.YtdelkdlegokbjaaW.PrintMore
attribute [local go_sem] max2_int min2_int max_two min_two max_three min_three max_four min_four   -- for this text's walks alone
set_option linter.unusedVariables false
set_option linter.unusedSimpArgs false

attribute [local go_sem high] eqA27
/-! ### roles_Chain: function 12 -/
mutual
def roles_Chain.j0 : Nat → List (S40) → ByteArray → Bool → Option (List Int × Int × Int)
 | 0,_,_,_ => none
 | k + 1,x0,x1,x21 => if x21 = true then (some (([] : List Int),12,(-2))) else (roles_Chain.l0 k x0 x1 (([0] : List Int)) 1)
def roles_Chain.l0 : Nat → List (S40) → ByteArray → List Int → Int → Option (List Int × Int × Int)
 | 0,_,_,_,_ => none
 | k + 1,x0,x1,x7,x8 => if x8 < (x0.length : Int) then (if 0 ≤ x8 then (if 0 ≤ (wrap64 ((x7.length : Int) - 1)) then (if (wrap64 ((x7.length : Int) - 1)) < (x7.length : Int) then (if ((rd_T40 x0 x8).f0) = (rd x7 (wrap64 ((x7.length : Int) - 1))) then ((strings_HasPrefix.f x1 ((rd_T40 x0 x8).f1)).bind fun t111 => (if t111 = true then (if x7.length < 17592186044416 then (roles_Chain.l0 k x0 x1 (x7 ++ [x8]) (wrap64 (x8 + 1))) else (none)) else (roles_Chain.l0 k x0 x1 x7 (wrap64 (x8 + 1))))) else (roles_Chain.l0 k x0 x1 x7 (wrap64 (x8 + 1)))) else (none)) else (none)) else (none)) else (some (x7,0,0))
end
def roles_Chain.f (k : Nat) (l0 : List (S40)) (a1 : ByteArray) : Option (List Int × Int × Int):=(roles_Validate.f k l0).bind fun bt102 => (if (!(bt102.1 == 0) || (!(bt102.2 == 0))) = true then (some (([] : List Int),bt102.1,bt102.2)) else (if a1.toList = ([] : List UInt8) then (roles_Chain.j0 k l0 a1 true) else (roles_Chain.j0 k l0 a1 (decide ((a1.size : Int) > 60)))))
theorem roles_Chain.mono_l : ∀ k,(∀ y0 y1 y2,LeO (roles_Chain.j0 k y0 y1 y2) (roles_Chain.j0 (k + 1) y0 y1 y2)) ∧ (∀ y0 y1 y2 y3,LeO (roles_Chain.l0 k y0 y1 y2 y3) (roles_Chain.l0 (k + 1) y0 y1 y2 y3))
 | 0 => ⟨fun _ _ _ r h => by simp [roles_Chain.j0] at h,fun _ _ _ _ r h => by simp [roles_Chain.l0] at h⟩
 | k + 1 => by
  obtain ⟨ih0,ih1⟩:=roles_Chain.mono_l k;refine ⟨?_,?_⟩
  ·intro y0 y1 y2
   unfold roles_Chain.j0;repeat' first
   | (with_reducible exact ih0 _ _ _)
   | (with_reducible exact ih1 _ _ _ _)
   | (with_reducible exact roles_Validate.mono _ _)
   | (with_reducible exact LeO.refl _)
   | (with_reducible exact LeO.none _)
   | (with_reducible refine LeO.ite ?_ ?_)
   | (with_reducible refine LeO.bind ?_ (fun _ => ?_))
   | exact ih0 _ _ _
   | exact ih1 _ _ _ _
   | exact roles_Validate.mono _ _
   | exact LeO.none _
   | refine LeO.ite ?_ ?_
   | refine LeO.bind ?_ (fun _ => ?_)
  ·intro y0 y1 y2 y3
   unfold roles_Chain.l0;repeat' first
   | (with_reducible exact ih0 _ _ _)
   | (with_reducible exact ih1 _ _ _ _)
   | (with_reducible exact roles_Validate.mono _ _)
   | (with_reducible exact LeO.refl _)
   | (with_reducible exact LeO.none _)
   | (with_reducible refine LeO.ite ?_ ?_)
   | (with_reducible refine LeO.bind ?_ (fun _ => ?_))
   | exact ih0 _ _ _
   | exact ih1 _ _ _ _
   | exact roles_Validate.mono _ _
   | exact LeO.none _
   | refine LeO.ite ?_ ?_
   | refine LeO.bind ?_ (fun _ => ?_)
theorem roles_Chain.mono : ∀ a0 a1 k,LeO (roles_Chain.f k a0 a1) (roles_Chain.f (k + 1) a0 a1):=by
 intro a0 a1 k;obtain ⟨ih0,ih1⟩:=roles_Chain.mono_l k;unfold roles_Chain.f
 repeat' first
   | (with_reducible exact ih0 _ _ _)
   | (with_reducible exact ih1 _ _ _ _)
   | (with_reducible exact roles_Validate.mono _ _)
   | (with_reducible exact LeO.refl _)
   | (with_reducible exact LeO.none _)
   | (with_reducible refine LeO.ite ?_ ?_)
   | (with_reducible refine LeO.bind ?_ (fun _ => ?_))
   | exact ih0 _ _ _
   | exact ih1 _ _ _ _
   | exact roles_Validate.mono _ _
   | exact LeO.none _
   | refine LeO.ite ?_ ?_
   | refine LeO.bind ?_ (fun _ => ?_)
def roles_Chain.T10 : Bool × List (List Nat × List Nat):=(true,[([],[]),([],[]),([0,1],[0,1]),([2],[2]),([3],[3]),([],[]),([],[]),([6],[6]),([7],[7]),([5,8],[5,8]),([9],[9]),([4,10],[4,10]),([11],[11]),([12],[12]),([12],[12]),([12],[12]),([14,15,12],[12,14,15]),([16,12],[12,16]),([17,12],[12,17]),([13,18,12,12],[12,13,18]),([12,19],[12,19])])
def roles_Chain.B10 : List Nat:=[0,0,3,7,15,0,0,64,192,480,992,2047,4095,8191,8191,8191,57343,122879,253951,524287,1048575]
theorem roles_Chain.tab10 : rtab .any (opsOf Try.f12 10) = roles_Chain.T10:=by kernel_rfl
theorem roles_Chain.bits10 : waitsOk roles_Chain.T10.2 roles_Chain.B10 = true:=by kernel_rfl
set_option maxHeartbeats 8000000 in
set_option maxRecDepth 100000 in
theorem roles_Chain.calls (k : Nat) (A0 : Option Addr) (c0 : Nat) (l0 : List (S40)) (a1 : ByteArray) (r1 : List Int) (r2 : Int) (r3 : Int) (w : World) (hr0 : Kd.C k40 w A0 l0.length l0) (hc0 : l0.length ≤ c0) (h : roles_Chain.f k l0 a1 = some (r1,r2,r3)) :
  Calls Try.prog 12 #[.slice A0 l0.length c0,.string a1] w fun e w' => ∃ v0_ : Value,e = .returned (.tuple #[v0_,.agg #[.int .i64 r2,.int .i64 r3]]) ∧ Kd.R (Kd.int .i64) 3 w' w.heap.size (fun _ => True) v0_ r1 ∧ Below w.heap.size w w':=by
 have hu27:=Try.underlying27;have HR0:=Aside0.mk hr0;have HC0:=Aside0.mk hc0;clear hr0 hc0;have HB:=Aside0.mk (Below.refl w.heap.size w);have H : ((roles_Validate.f k l0).bind fun bt102 => (if (!(bt102.1 == 0) || (!(bt102.2 == 0))) = true then (some (([] : List Int),bt102.1,bt102.2)) else (if a1.toList = ([] : List UInt8) then (roles_Chain.j0 k l0 a1 true) else (roles_Chain.j0 k l0 a1 (decide ((a1.size : Int) > 60)))))) = some (r1,r2,r3):=h;clear h;replace H:=Option.bind_eq_some_iff.mp H;obtain ⟨⟨t102,t103⟩,A30,H⟩:=H;replace H : (if (!(t102 == 0) || (!(t103 == 0))) = true then (some (([] : List Int),t102,t103)) else (if a1.toList = ([] : List UInt8) then (roles_Chain.j0 k l0 a1 true) else (roles_Chain.j0 k l0 a1 (decide ((a1.size : Int) > 60))))) = some (r1,r2,r3):=H;have A3:=Aside0.mk A30;clear A30;by_cases c4 : (!(t102 == 0) || (!(t103 == 0))) = true
 ·rw [if_pos c4] at H
  have c4b0 : (!(t102 == 0) || (!(t103 == 0))) = true:=c4;clear c4;simp only [Option.some.injEq,Prod.mk.injEq] at H;obtain ⟨rfl,rfl,rfl⟩:=H;go_enter Try.func12,Try.ntmps12;try go_wp2_with (first|((with_reducible refine gate_dst (N:=5) rfl ?_);(try (refine gate_guard (by rfl) ?_;dsimp only));refine box_event ?hg (N:=5) ?hd (cs:=#[.int .i64 0,.int .i64 0]) (t:=27) ?hr ?_;(case hd => rfl);(case hg => rfl);(case hr => first|(go_simp;done)|(go_simp;rfl));intro gb101 hg w5 hbox hb;have BK101:=Aside0.mk (hbox);have GW101:=Aside0.mk ((bs_ : w.heap.size ≤ gb101));have GE101:=Aside0.mk ((bs_ : w.heap.size ≤ gb101));replace HB:=Aside0.mk (below_step bel_ hb);clear hb hbox hg)|((with_reducible refine gate_callee (f:=9) rfl ?_);refine goesL_ (some 10) rfl rfl Try.func9 (by kernel_rfl) rfl #[.slice A0 l0.length c0] rfl ln_ ?_;(with_reducible refine (roles_Validate.calls k _ _ l0 t102 t103 _ ?side1 ?side2 A3.out).mono ?_);(case side1 => first|exact (Kd.C_below HR0.out HB.out)|exact Kd.C_mv (Kd.C_below HR0.out HB.out));(case side2 => exact HC0.out);rintro e w6 ⟨rfl,hb⟩;refine ⟨_,rfl,?_⟩;replace BK101:=Aside0.mk (blk_below (blk_mv BK101.out) hb);replace HB:=Aside0.mk (below_step bel_ hb);(try clear hb);(try clear hb2);(try clear hk);(try clear hi))|((with_reducible refine gate_dst (N:=6) rfl ?_);(try (refine gate_guard (by rfl) ?_;dsimp only));refine box_event ?hg (N:=6) ?hd (cs:=#[.int .i64 0,.int .i64 0]) (t:=27) ?hr ?_;(case hd => rfl);(case hg => rfl);(case hr => first|(go_simp;done)|(go_simp;rfl));intro gb104 hg w7 hbox hb;have BK104:=Aside0.mk (hbox);have GW104:=Aside0.mk ((bs_ : w.heap.size ≤ gb104));have GE104:=Aside0.mk ((bs_ : w.heap.size ≤ gb104));replace HB:=Aside0.mk (below_step bel_ hb);have NB101_104:=Aside0.mk ((by rw [hg];exact Nat.ne_of_lt (blk_lt (g:=gb101) (o:=.cells #[.int .i64 0,.int .i64 0] 27 (0,0)) (blk_mv BK101.out)) : gb101 ≠ gb104));have NB104_101:=Aside0.mk ((by rw [hg];exact Nat.ne_of_gt (blk_lt (g:=gb101) (o:=.cells #[.int .i64 0,.int .i64 0] 27 (0,0)) (blk_mv BK101.out)) : gb104 ≠ gb101));replace BK101:=Aside0.mk (blk_below (blk_mv BK101.out) hb);clear hb hbox hg;have hnb8:=NB104_101.out;have hnc8:=NB101_104.out;have hcz9_0:=blk_c (v:=.int .i64 0) BK104.out 0 rfl;have hcz9_1:=blk_c (v:=.int .i64 0) BK104.out 1 rfl;have hfz9_0:=blk_frozen BK104.out 0;have hfz9_1:=blk_frozen BK104.out 1))
  have n0_ : Aside0 (((w7.setCell ⟨gb104,0,none⟩ (.int .i64 t102)).setCell ⟨gb104,1,none⟩ (.int .i64 t103)).heap[gb101]? = some (.cells #[.int .i64 0,.int .i64 0] 27 (0,0))):=⟨by refine blk_mv ?_;refine blk_far ?_ NB101_104.out _;refine blk_mv ?_;refine blk_far ?_ NB101_104.out _;refine blk_mv ?_;exact BK101.out⟩;have n1_ : Aside0 (((w7.setCell ⟨gb104,0,none⟩ (.int .i64 t102)).setCell ⟨gb104,1,none⟩ (.int .i64 t103)).heap[gb104]? = some (.cells #[.int .i64 t102,.int .i64 t103] 27 (0,0))):=⟨by refine blk_mv ?_;refine blk_put (cs:=#[.int .i64 t102,.int .i64 0]) ?_ 1 _ rfl;refine blk_mv ?_;refine blk_put (cs:=#[.int .i64 0,.int .i64 0]) ?_ 0 _ rfl;refine blk_mv ?_;exact BK104.out⟩;have n2_ : Aside0 (Below w.heap.size w ((w7.setCell ⟨gb104,0,none⟩ (.int .i64 t102)).setCell ⟨gb104,1,none⟩ (.int .i64 t103))):=⟨bel_⟩;(try clear BK101);(try clear BK104);(try clear HB);generalize ((w7.setCell ⟨gb104,0,none⟩ (.int .i64 t102)).setCell ⟨gb104,1,none⟩ (.int .i64 t103)) = w10 at n0_ n1_ n2_ ⊢;have BK101:=n0_;have BK104:=n1_;have HB:=n2_;clear n0_ n1_ n2_;replace BK101:=Aside0.mk (blk_drew BK101.out);replace BK104:=Aside0.mk (blk_drew BK104.out);replace HB:=Aside0.mk (below_drew1 HB.out);refine start_ (n:=3) (S:=fun w' => w'.cell? ⟨gb104,0,none⟩ = some (.int .i64 t102) ∧ w'.cell? ⟨gb104,1,none⟩ = some (.int .i64 t103)) (ds:=[]) #[false,false,false] (by kernel_rfl) rfl rfl ⟨(blk_cell BK104.out 0).trans rfl,(blk_cell BK104.out 1).trans rfl⟩ (fun hHeld => ?_);generalize w10.drew = w11 at BK101 BK104 HB hHeld ⊢;refine pure_ (i:=1) (N:=some 4) (v:=?_) (a':=?_) #[false,true,false] rfl rfl (by kernel_rfl) (fun _ _ _ h => h) (Or.inl ⟨by rfl,?_⟩) ?_ ?_;rotate_left
  ·intro w'
   go_simp;with_reducible rfl
  rotate_left
  ·simp only [Act.put,sa_,sb_,sc_,i64_w,i32_w]
   rfl
  refine take_ (i:=0) (N:=some 14) (v:=?_) (a':=?_) #[true,true,false] rfl rfl (by kernel_rfl) (fun _ _ _ h => h) (Or.inl ⟨by rfl,?_⟩) hHeld ?_ ?_;rotate_left
  ·rintro w' ⟨s0,s1⟩
   go_simp;with_reducible rfl
  rotate_left
  ·simp only [Act.put,sa_,sb_,sc_,i64_w,i32_w]
   rfl
  refine one_ (i:=2) (N:=none) #[true,true,true] rfl rfl (by kernel_rfl) (by decide) (fun K hK => ?_);have hs12 : w11.cell? ⟨gb101,0,none⟩ = some (.int .i64 0):=(blk_cell BK101.out 0).trans rfl;have hfs12:=blk_frozen BK101.out 0;have hns12_1:=NB104_101.out;have hms12_1:=NB101_104.out;have hs13 : w11.cell? ⟨gb101,1,none⟩ = some (.int .i64 0):=(blk_cell BK101.out 1).trans rfl;have hfs13:=blk_frozen BK101.out 1;have hns13_1:=NB104_101.out;have hms13_1:=NB101_104.out;refine skip_ (w1:=?_) ?_ ?_ ?_ ?_;rotate_left
  ·rfl
  ·rfl
  ·go_simp
   rfl
  refine hK.out _ _ ⟨((cell_far (p:=⟨gb101,_,none⟩) NB104_101.out _).trans (((cell_far (p:=⟨gb101,_,none⟩) NB104_101.out _).trans (hHeld.1)))),((cell_far (p:=⟨gb101,_,none⟩) NB104_101.out _).trans (((cell_far (p:=⟨gb101,_,none⟩) NB104_101.out _).trans (hHeld.2))))⟩ (fun hHeld => ?_);clear hK K;refine done_ (by kernel_rfl) ?_;try go_wp2
  refine bodyPost_ret (results_tc rfl _ _ gb101 27 #[.int .i64 t102,.int .i64 t103] (0,0) _ rfl (by refine blk_mv ?_;refine blk_put (cs:=#[.int .i64 t102,.int .i64 0]) ?_ 1 _ rfl;refine blk_mv ?_;refine blk_put (cs:=#[.int .i64 0,.int .i64 0]) ?_ 0 _ rfl;refine blk_mv ?_;exact BK101.out) Try.underlying27 rfl (by kernel_rfl)) rfl ?_;exact ⟨_,by first|rfl|(simp [errW_none,errW_some] <;> rfl)|(simp [*,errW_none,errW_some] <;> rfl),by first|exact Kd.R_nil _ _ _ _ _|exact Kd.N_nil _ _ _ _ _|exact Kd.V_nil _ _ _ _ _|exact Kd.Q_nil _ _ _ _ _|exact Kd.S_nil _ _ _ _ _,bel_⟩
 ·rw [if_neg c4] at H
  have c4b0 : (!(t102 == 0) || (!(t103 == 0))) = false:=by simpa using c4
  clear c4;have HC14:=Aside0.mk H;clear H;go_enter Try.func12,Try.ntmps12;go_upto_region 4 with (first|((with_reducible refine gate_dst (N:=5) rfl ?_);(try (refine gate_guard (by rfl) ?_;dsimp only));refine box_event ?hg (N:=5) ?hd (cs:=#[.int .i64 0,.int .i64 0]) (t:=27) ?hr ?_;(case hd => rfl);(case hg => rfl);(case hr => first|(go_simp;done)|(go_simp;rfl));intro gb101 hg w15 hbox hb;have BK101:=Aside0.mk (hbox);have GW101:=Aside0.mk ((bs_ : w.heap.size ≤ gb101));have GE101:=Aside0.mk ((bs_ : w.heap.size ≤ gb101));replace HB:=Aside0.mk (below_step bel_ hb);clear hb hbox hg)|((with_reducible refine gate_callee (f:=9) rfl ?_);refine goesL_ (some 10) rfl rfl Try.func9 (by kernel_rfl) rfl #[.slice A0 l0.length c0] rfl ln_ ?_;(with_reducible refine (roles_Validate.calls k _ _ l0 t102 t103 _ ?side1 ?side2 A3.out).mono ?_);(case side1 => first|exact (Kd.C_below HR0.out HB.out)|exact Kd.C_mv (Kd.C_below HR0.out HB.out));(case side2 => exact HC0.out);rintro e w16 ⟨rfl,hb⟩;refine ⟨_,rfl,?_⟩;replace BK101:=Aside0.mk (blk_below (blk_mv BK101.out) hb);replace HB:=Aside0.mk (below_step bel_ hb);(try clear hb);(try clear hb2);(try clear hk);(try clear hi))|((with_reducible refine gate_dst (N:=6) rfl ?_);(try (refine gate_guard (by rfl) ?_;dsimp only));refine box_event ?hg (N:=6) ?hd (cs:=#[.int .i64 0,.int .i64 0]) (t:=27) ?hr ?_;(case hd => rfl);(case hg => rfl);(case hr => first|(go_simp;done)|(go_simp;rfl));intro gb104 hg w17 hbox hb;have BK104:=Aside0.mk (hbox);have GW104:=Aside0.mk ((bs_ : w.heap.size ≤ gb104));have GE104:=Aside0.mk ((bs_ : w.heap.size ≤ gb104));replace HB:=Aside0.mk (below_step bel_ hb);have NB101_104:=Aside0.mk ((by rw [hg];exact Nat.ne_of_lt (blk_lt (g:=gb101) (o:=.cells #[.int .i64 0,.int .i64 0] 27 (0,0)) (blk_mv BK101.out)) : gb101 ≠ gb104));have NB104_101:=Aside0.mk ((by rw [hg];exact Nat.ne_of_gt (blk_lt (g:=gb101) (o:=.cells #[.int .i64 0,.int .i64 0] 27 (0,0)) (blk_mv BK101.out)) : gb104 ≠ gb101));replace BK101:=Aside0.mk (blk_below (blk_mv BK101.out) hb);clear hb hbox hg;have hnb18:=NB104_101.out;have hnc18:=NB101_104.out;have hcz19_0:=blk_c (v:=.int .i64 0) BK104.out 0 rfl;have hcz19_1:=blk_c (v:=.int .i64 0) BK104.out 1 rfl;have hfz19_0:=blk_frozen BK104.out 0;have hfz19_1:=blk_frozen BK104.out 1));(try simp only [Act.put,sa_,sb_,sc_]);go_cut [21] (fun v21 wc => ∃ (kq : Nat) (x21_13 : Bool),v21 = .bool x21_13 ∧ Aside0 (roles_Chain.j0 kq l0 a1 x21_13 = some (r1,r2,r3)) ∧ Aside0 (kq ≤ k) ∧ Aside0 (wc.heap[gb101]? = some (.cells #[.int .i64 0,.int .i64 0] 27 (0,0))) ∧ Aside0 (wc.heap[gb104]? = some (.cells #[.int .i64 t102,.int .i64 t103] 27 (0,0))) ∧ Aside0 (Below w.heap.size w wc))
  case first =>
   have H:=HC14.out;clear HC14;by_cases c20 : a1.toList = ([] : List UInt8)
   ·rw [if_pos c20] at H
    have c20b0 : (a1.toList == ([] : List UInt8)) = true:=beq_iff_eq.mpr c20;have c20b1 : (a1.toList != ([] : List UInt8)) = false:=bne_eq_false_iff_eq.mpr c20;clear c20;(first|rw [c20b0]|(simp only [i64_w,i32_w];rw [c20b0])|skip);have H':=Aside0.mk H;clear H;go_wp2;go_meet
    case rel => exact ⟨_,(true),fr_,H',⟨om_⟩,⟨by refine blk_mv ?_;refine blk_far ?_ NB101_104.out _;refine blk_mv ?_;refine blk_far ?_ NB101_104.out _;refine blk_mv ?_;exact BK101.out⟩,⟨by refine blk_mv ?_;refine blk_put (cs:=#[.int .i64 t102,.int .i64 0]) ?_ 1 _ rfl;refine blk_mv ?_;refine blk_put (cs:=#[.int .i64 0,.int .i64 0]) ?_ 0 _ rfl;refine blk_mv ?_;exact BK104.out⟩,⟨bel_⟩⟩
   ·rw [if_neg c20] at H
    have c20b0 : (a1.toList == ([] : List UInt8)) = false:=beq_eq_false_iff_ne.mpr c20;have c20b1 : (a1.toList != ([] : List UInt8)) = true:=bne_iff_ne.mpr c20;(first|rw [c20b0]|(simp only [i64_w,i32_w];rw [c20b0])|skip);have H':=Aside0.mk H;clear H;go_wp2;go_meet
    case rel => exact ⟨_,(decide ((a1.size : Int) > 60)),fr_,H',⟨om_⟩,⟨by refine blk_mv ?_;refine blk_far ?_ NB101_104.out _;refine blk_mv ?_;refine blk_far ?_ NB101_104.out _;refine blk_mv ?_;exact BK101.out⟩,⟨by refine blk_mv ?_;refine blk_put (cs:=#[.int .i64 t102,.int .i64 0]) ?_ 1 _ rfl;refine blk_mv ?_;refine blk_put (cs:=#[.int .i64 0,.int .i64 0]) ?_ 0 _ rfl;refine blk_mv ?_;exact BK104.out⟩,⟨bel_⟩⟩
  case rest =>
   clear HC14;(try clear c1);(try clear c2);(try clear p2);(try clear c4);(try clear c4b0);(try clear c8);(try clear c9);(try clear c12);(try clear c18);(try clear c20);(try clear c20b0);(try clear c20b1);(try clear hcz19_0);(try clear hcz19_1);(try clear hcz9_0);(try clear hcz9_1);(try clear hfz19_0);(try clear hfz19_1);(try clear hfz9_0);(try clear hfz9_1);obtain ⟨kq,x21_13,rfl,HA,HJ13,BK101,BK104,HB⟩:=hcut;cases kq with
   | zero => exact absurd HA.out (by simp [roles_Chain.j0])
   | succ kj13 =>
    have H:=HA.out;clear HA;simp only [roles_Chain.j0] at H;by_cases c21 : x21_13 = true
    ·subst c21
     have H1 : (some (([] : List Int),12,(-2))) = some (r1,r2,r3):=by rw [if_pos rfl] at H;exact H
     clear H;have H:=H1;clear H1;simp only [Option.some.injEq,Prod.mk.injEq] at H;obtain ⟨rfl,rfl,rfl⟩:=H;have hnb22:=NB101_104.out;have hnc22:=NB104_101.out;have hcz23_0:=blk_c (v:=.int .i64 0) BK101.out 0 rfl;have hcz23_1:=blk_c (v:=.int .i64 0) BK101.out 1 rfl;have hfz23_0:=blk_frozen BK101.out 0;have hfz23_1:=blk_frozen BK101.out 1;go_wp2;refine bodyPost_ret (results_tc rfl _ _ gb101 27 #[.int .i64 12,.int .i64 (-2)] (0,0) _ rfl (by refine blk_mv ?_;refine blk_put (cs:=#[.int .i64 12,.int .i64 0]) ?_ 1 _ rfl;refine blk_mv ?_;refine blk_put (cs:=#[.int .i64 0,.int .i64 0]) ?_ 0 _ rfl;refine blk_mv ?_;exact BK101.out) Try.underlying27 rfl (by kernel_rfl)) rfl ?_;exact ⟨_,by first|rfl|(simp [errW_none,errW_some] <;> rfl)|(simp [*,errW_none,errW_some] <;> rfl),by first|exact Kd.R_nil _ _ _ _ _|exact Kd.N_nil _ _ _ _ _|exact Kd.V_nil _ _ _ _ _|exact Kd.Q_nil _ _ _ _ _|exact Kd.S_nil _ _ _ _ _,bel_⟩
    ·replace c21:=Bool.eq_false_iff.mpr c21
     subst c21;have H1 : (roles_Chain.l0 kj13 l0 a1 (([0] : List Int)) 1) = some (r1,r2,r3):=by rw [if_neg (show ¬ (false = true) by decide)] at H;exact H
     clear H;have H:=H1;clear H1;obtain ⟨y105,hy105⟩ : ∃ y_ : List Int,y_ = (([0] : List Int)):=⟨_,rfl⟩;replace H : (roles_Chain.l0 kj13 l0 a1 y105 1) = some (r1,r2,r3):=by first|(rw [hy105];with_reducible exact H)|(have H2_:=(Option.bind_some _ _).symm.trans H;rw [hy105];with_reducible exact H2_)|(have H2_:=(Option.bind_some _ _).symm.trans H;with_reducible exact H2_)|with_reducible exact H|(rw [hy105];exact H)|exact H
     have Ny105:=Aside0.mk hy105;clear hy105;have H':=Aside0.mk H;clear H;go_wp2_with (first|((with_reducible refine gate_dst (N:=23) rfl ?_);(try (refine gate_guard (by rfl) ?_;dsimp only));refine Kd.R_lit (Kd.int .i64) _ 3 ?hg (N:=23) ?hd (xs:=([0] : List Int)) (inner:=[.int .i64 0]) (ok:=fun _ => True) (okp:=fun _ => True) ?hr ?hp (fun _ hk => hk) trivial (Below.refl _ _) (Nat.le_refl _) (by simp) ?_;(case hd => rfl);(case hg => rfl);(case hr => first|(go_simp;done)|(go_simp;rfl));(case hp => exact (Reps.one (show Kd.M (Kd.int .i64) _ _ _ 0 [.int .i64 0] from rfl) (Reps.none _ _)));intro v106 w24 ho25 hb hg_ hnew_;clear hg_ hnew_;(first|rw [← Ny105.out] at ho25|(simp only [Int.reduceToNat] at ho25;rw [← Ny105.out] at ho25));have HO107:=Aside0.mk (Kd.R_lower ho25 (below_size bel_));replace BK101:=Aside0.mk (blk_below (blk_mv BK101.out) hb);replace BK104:=Aside0.mk (blk_below (blk_mv BK104.out) hb);replace HB:=Aside0.mk (below_step bel_ hb);clear hb ho25));go_loopg [7,8] kj13 (fun kq v7 v8 w' => ∃ (x7_2 : List Int) (x8_2 : Int),v8 = .int .i64 x8_2 ∧ Aside0 (roles_Chain.l0 kq l0 a1 x7_2 x8_2 = some (r1,r2,r3)) ∧ Aside0 (kq ≤ kj13) ∧ Aside0 (Kd.R (Kd.int .i64) 3 w' w.heap.size (fun _ => True) v7 x7_2) ∧ Aside0 (w'.heap[gb101]? = some (.cells #[.int .i64 0,.int .i64 0] 27 (0,0))) ∧ Aside0 (w'.heap[gb104]? = some (.cells #[.int .i64 t102,.int .i64 t103] 27 (0,0))) ∧ Aside0 (Below w.heap.size w w'))
     case atStart => exact ⟨(y105),(1),fr_,H',⟨Nat.le_refl _⟩,⟨Kd.R_mv HO107.out⟩,⟨blk_mv BK101.out⟩,⟨blk_mv BK104.out⟩,⟨bel_⟩⟩
     case round =>
      clear H';(try clear c1);(try clear c2);(try clear p2);(try clear c4);(try clear c4b0);(try clear c8);(try clear c9);(try clear c12);(try clear c18);(try clear c20);(try clear c20b0);(try clear c20b1);(try clear c21);(try clear c22);(try clear hcz19_0);(try clear hcz19_1);(try clear hcz23_0);(try clear hcz23_1);(try clear hcz9_0);(try clear hcz9_1);(try clear hfz19_0);(try clear hfz19_1);(try clear hfz23_0);(try clear hfz23_1);(try clear hfz9_0);(try clear hfz9_1);(try clear p2);obtain ⟨x7_2,x8_2,rfl,HA,HK2,HO_7,BK101,BK104,HB⟩:=hrel;cases gk with
      | zero => exact absurd HA.out (by simp [roles_Chain.l0])
      | succ k2 =>
       have H:=HA.out;clear HA;simp only [roles_Chain.l0] at H;by_cases c26 : x8_2 < (l0.length : Int)
       ·rw [if_pos c26] at H
        have c26b0 : decide (x8_2 < (l0.length : Int)) = true:=decide_eq_true c26;clear c26;by_cases c27 : 0 ≤ x8_2
        ·rw [if_pos c27] at H
         have c27b0 : decide (0 ≤ x8_2) = true:=decide_eq_true c27;clear c27;obtain ⟨ji28,hji28⟩ : ∃ j_ : Int,(wrap64 ((x7_2.length : Int) - 1)) = j_:=⟨_,rfl⟩;replace H : (if 0 ≤ (ji28) then (if (ji28) < (x7_2.length : Int) then (if ((rd_T40 l0 x8_2).f0) = (rd x7_2 (ji28)) then ((strings_HasPrefix.f a1 ((rd_T40 l0 x8_2).f1)).bind fun t111 => (if t111 = true then (if x7_2.length < 17592186044416 then (roles_Chain.l0 k2 l0 a1 (x7_2 ++ [x8_2]) (wrap64 (x8_2 + 1))) else (none)) else (roles_Chain.l0 k2 l0 a1 x7_2 (wrap64 (x8_2 + 1))))) else (roles_Chain.l0 k2 l0 a1 x7_2 (wrap64 (x8_2 + 1)))) else (none)) else (none)) = some (r1,r2,r3):=by first|(rw [hji28] at H;exact H)|(simp only [hji28] at H ⊢;exact H)
         have hji28w : (IntKind.i64.wrap ((x7_2.length : Int) - 1)) = ji28:=(i64_w _).trans hji28;by_cases c29 : 0 ≤ (ji28)
         ·rw [if_pos c29] at H
          have c29b0 : decide (0 ≤ (ji28)) = true:=decide_eq_true c29;clear c29;by_cases c30 : (ji28) < (x7_2.length : Int)
          ·rw [if_pos c30] at H
           have c30b0 : decide ((ji28) < (x7_2.length : Int)) = true:=decide_eq_true c30;clear c30;by_cases c31 : ((rd_T40 l0 x8_2).f0) = (rd x7_2 (ji28))
           ·rw [if_pos c31] at H
            have c31b0 : (((rd_T40 l0 x8_2).f0) == (rd x7_2 (ji28))) = true:=beq_iff_eq.mpr c31;have c31b1 : (((rd_T40 l0 x8_2).f0) != (rd x7_2 (ji28))) = false:=bne_eq_false_iff_eq.mpr c31;clear c31;replace H:=Option.bind_eq_some_iff.mp H;obtain ⟨t111,A320,H⟩:=H;replace H : (if t111 = true then (if x7_2.length < 17592186044416 then (roles_Chain.l0 k2 l0 a1 (x7_2 ++ [x8_2]) (wrap64 (x8_2 + 1))) else (none)) else (roles_Chain.l0 k2 l0 a1 x7_2 (wrap64 (x8_2 + 1)))) = some (r1,r2,r3):=H;have A32:=Aside0.mk A320;clear A320;by_cases c33 : t111 = true
            ·subst c33
             have H1 : (if x7_2.length < 17592186044416 then (roles_Chain.l0 k2 l0 a1 (x7_2 ++ [x8_2]) (wrap64 (x8_2 + 1))) else (none)) = some (r1,r2,r3):=by rw [if_pos rfl] at H;exact H
             clear H;have H:=H1;clear H1;by_cases c34 : x7_2.length < 17592186044416
             ·rw [if_pos c34] at H
              have LMc34:=Aside0.mk c34;clear c34;obtain ⟨y112,hy112⟩ : ∃ y_ : List Int,y_ = (x7_2 ++ [x8_2]):=⟨_,rfl⟩;replace H : (roles_Chain.l0 k2 l0 a1 y112 (wrap64 (x8_2 + 1))) = some (r1,r2,r3):=by first|(rw [hy112];with_reducible exact H)|(have H2_:=(Option.bind_some _ _).symm.trans H;rw [hy112];with_reducible exact H2_)|(have H2_:=(Option.bind_some _ _).symm.trans H;with_reducible exact H2_)|with_reducible exact H|(rw [hy112];exact H)|exact H
              have Ny112:=Aside0.mk hy112;clear hy112;have H':=Aside0.mk H;clear H;try go_wp2
              replace HO_7:=Aside0.mk (Kd.R_drew HO_7.out);replace BK101:=Aside0.mk (blk_drew BK101.out);replace BK104:=Aside0.mk (blk_drew BK104.out);replace HB:=Aside0.mk (below_drew1 HB.out);have p108 : 0 ≤ (x8_2 : Int):=of_decide_eq_true as_;have q108 : x8_2 < (l0.length : Int):=of_decide_eq_true as_;obtain ⟨ad108,A108_2,c108_2,e108,hx108_0,hx108_1,hx108_2,hx108_3,hl108_2,hi108_2⟩:=at_T40 HR0.out x8_2 p108 q108;have hw108_3:=hx108_3;have hw108_2:=hx108_2;have hw108_1:=hx108_1;have hw108_0:=hx108_0;cases e108
              replace hx108_0:=(HB.out.cell (World.block_lt_of_cell? w _ hx108_0)).trans hx108_0;replace hx108_1:=(HB.out.cell (World.block_lt_of_cell? w _ hx108_1)).trans hx108_1;replace hx108_2:=(HB.out.cell (World.block_lt_of_cell? w _ hx108_2)).trans hx108_2;replace hx108_3:=(HB.out.cell (World.block_lt_of_cell? w _ hx108_3)).trans hx108_3;have HR108_2:=Aside0.mk hi108_2;have HC108_2:=Aside0.mk hl108_2;clear hi108_2 hl108_2;replace p108:=eq_true p108;replace q108:=eq_true q108;obtain ⟨Ao36,co36,eo36⟩:=Kd.R_slice HO_7.out;(first|subst eo36|(injection eo36 with f1_ f2_ f3_;have f4_:=f1_.symm;have f5_:=f3_.symm;clear f1_ f2_ f3_;subst f4_;subst f5_));have p109 : 0 ≤ ((ji28) : Int):=of_decide_eq_true as_;have q109 : (ji28) < (x7_2.length : Int):=of_decide_eq_true as_;obtain ⟨ad109,e109,hx109_0⟩:=Kd.at_int (Kd.R_reads' HO_7.out).2.2 (ji28) p109 q109;cases e109
              replace p109:=eq_true p109;replace q109:=eq_true q109;have p110 : 0 ≤ (x8_2 : Int):=of_decide_eq_true as_;have q110 : x8_2 < (l0.length : Int):=of_decide_eq_true as_;obtain ⟨ad110,A110_2,c110_2,e110,hx110_0,hx110_1,hx110_2,hx110_3,hl110_2,hi110_2⟩:=at_T40 HR0.out x8_2 p110 q110;have hw110_3:=hx110_3;have hw110_2:=hx110_2;have hw110_1:=hx110_1;have hw110_0:=hx110_0;obtain rfl : ad108 = ad110:=(by injection e110);replace hx110_0:=(HB.out.cell (World.block_lt_of_cell? w _ hx110_0)).trans hx110_0;replace hx110_1:=(HB.out.cell (World.block_lt_of_cell? w _ hx110_1)).trans hx110_1;replace hx110_2:=(HB.out.cell (World.block_lt_of_cell? w _ hx110_2)).trans hx110_2;replace hx110_3:=(HB.out.cell (World.block_lt_of_cell? w _ hx110_3)).trans hx110_3;have HR110_2:=Aside0.mk hi110_2;have HC110_2:=Aside0.mk hl110_2;clear hi110_2 hl110_2;replace p110:=eq_true p110;replace q110:=eq_true q110;have ea_:=Option.some.inj (hx108_2.symm.trans hx110_2);injection ea_ with ea_ en_ ec_;subst ea_;subst ec_;clear en_;refine start_ (n:=21) (S:=fun w' => w'.cell? (ad108.add ((x8_2).toNat * 4)) = some (.int .i64 ((rd_T40 l0 x8_2).f0)) ∧ w'.cell? ⟨(ad108.add ((x8_2).toNat * 4)).block,(ad108.add ((x8_2).toNat * 4)).off + 1,none⟩ = some (.string ((rd_T40 l0 x8_2).f1)) ∧ w'.cell? ⟨(ad108.add ((x8_2).toNat * 4)).block,(ad108.add ((x8_2).toNat * 4)).off + 2,none⟩ = some (.slice A108_2 ((rd_T40 l0 x8_2).f2).length c108_2) ∧ w'.cell? ⟨(ad108.add ((x8_2).toNat * 4)).block,(ad108.add ((x8_2).toNat * 4)).off + 3,none⟩ = some (.int .i64 ((rd_T40 l0 x8_2).f3)) ∧ w'.cell? (ad109.add ((ji28)).toNat) = some (.int .i64 (rd x7_2 (ji28))) ∧ w'.cell? (ad108.add ((x8_2).toNat * 4)) = some (.int .i64 ((rd_T40 l0 x8_2).f0)) ∧ w'.cell? ⟨(ad108.add ((x8_2).toNat * 4)).block,(ad108.add ((x8_2).toNat * 4)).off + 1,none⟩ = some (.string ((rd_T40 l0 x8_2).f1)) ∧ w'.cell? ⟨(ad108.add ((x8_2).toNat * 4)).block,(ad108.add ((x8_2).toNat * 4)).off + 2,none⟩ = some (.slice A108_2 ((rd_T40 l0 x8_2).f2).length c108_2) ∧ w'.cell? ⟨(ad108.add ((x8_2).toNat * 4)).block,(ad108.add ((x8_2).toNat * 4)).off + 3,none⟩ = some (.int .i64 ((rd_T40 l0 x8_2).f3))) (ds:=[]) (bl_ 21 0) (by kernel_rfl) rfl rfl ⟨((HB.out.cell (World.block_lt_of_cell? w _ hw108_0)).trans hw108_0),((HB.out.cell (World.block_lt_of_cell? w _ hw108_1)).trans hw108_1),((HB.out.cell (World.block_lt_of_cell? w _ hw108_2)).trans hw108_2),((HB.out.cell (World.block_lt_of_cell? w _ hw108_3)).trans hw108_3),hx109_0,((HB.out.cell (World.block_lt_of_cell? w _ hw110_0)).trans hw110_0),((HB.out.cell (World.block_lt_of_cell? w _ hw110_1)).trans hw110_1),((HB.out.cell (World.block_lt_of_cell? w _ hw110_2)).trans hw110_2),((HB.out.cell (World.block_lt_of_cell? w _ hw110_3)).trans hw110_3)⟩ (fun hHeld => ?_);refine with_tabW roles_Chain.tab10 roles_Chain.bits10 (fun HT_ HW_ => ?_);generalize wr.drew = w35 at HO_7 BK101 BK104 HB HR108_2 HR110_2 hx108_0 hx108_1 hx108_2 hx108_3 hx109_0 hx110_0 hx110_1 hx110_2 hx110_3 hHeld ⊢;refine pu_ (v:=?_) (a':=?_) 0 30 (bl_ 21 1) rfl rfl HT_.out ?_ ?_ ?_;rotate_left
              ·intro w'
               go_simp;with_reducible rfl
              rotate_left
              ·simp only [Act.put,sa_,sb_,sc_,i64_w,i32_w]
               rfl
              refine pu_ (v:=?_) (a':=?_) 1 31 (bl_ 21 3) rfl rfl HT_.out ?_ ?_ ?_;rotate_left
              ·intro w'
               go_simp;with_reducible rfl
              rotate_left
              ·simp only [Act.put,sa_,sb_,sc_,i64_w,i32_w]
               rfl
              refine pu_ (v:=?_) (a':=?_) 2 32 (bl_ 21 7) rfl rfl HT_.out ?_ ?_ ?_;rotate_left
              ·intro w'
               go_simp;with_reducible rfl
              rotate_left
              ·simp only [Act.put,sa_,sb_,sc_,i64_w,i32_w]
               rfl
              refine pu_ (v:=?_) (a':=?_) 3 33 (bl_ 21 15) rfl rfl HT_.out ?_ ?_ ?_;rotate_left
              ·intro w'
               go_simp;with_reducible rfl
              rotate_left
              ·simp only [Act.put,sa_,sb_,sc_,i64_w,i32_w]
               rfl
              refine pu_ (v:=?_) (a':=?_) 5 35 (bl_ 21 47) rfl rfl HT_.out ?_ ?_ ?_;rotate_left
              ·intro w'
               go_simp;with_reducible rfl
              rotate_left
              ·simp only [Act.put,sa_,sb_,sc_,i64_w,i32_w]
               rfl
              refine pu_ (v:=?_) (a':=?_) 6 36 (bl_ 21 111) rfl rfl HT_.out ?_ ?_ ?_;rotate_left
              ·intro w'
               go_simp;with_reducible rfl
              rotate_left
              ·simp only [Act.put,sa_,sb_,sc_,i64_w,i32_w]
               rfl
              refine pu_ (v:=?_) (a':=?_) 7 37 (bl_ 21 239) rfl rfl HT_.out ?_ ?_ ?_;rotate_left
              ·intro w'
               go_simp;with_reducible rfl
              rotate_left
              ·simp only [Act.put,sa_,sb_,sc_,i64_w,i32_w]
               rfl
              refine pu_ (v:=?_) (a':=?_) 8 38 (bl_ 21 495) rfl rfl HT_.out ?_ ?_ ?_;rotate_left
              ·intro w'
               go_simp;with_reducible rfl
              rotate_left
              ·simp only [Act.put,sa_,sb_,sc_,i64_w,i32_w]
               rfl
              refine pu_ (v:=?_) (a':=?_) 9 39 (bl_ 21 1007) rfl rfl HT_.out ?_ ?_ ?_;rotate_left
              ·intro w'
               go_simp;with_reducible rfl
              rotate_left
              ·simp only [Act.put,sa_,sb_,sc_,i64_w,i32_w]
               rfl
              refine tk_ (v:=?_) (a':=?_) 4 34 (bl_ 21 1023) rfl rfl HT_.out HW_.out ?_ hHeld ?_ ?_;rotate_left
              ·rintro w' ⟨s0,s1,s2,s3,s4,s5,s6,s7,s8⟩
               go_simp;with_reducible rfl
              rotate_left
              ·simp only [Act.put,sa_,sb_,sc_,i64_w,i32_w]
               rfl
              refine tk_ (v:=?_) (a':=?_) 10 40 (bl_ 21 2047) rfl rfl HT_.out HW_.out ?_ hHeld ?_ ?_;rotate_left
              ·rintro w' ⟨s0,s1,s2,s3,s4,s5,s6,s7,s8⟩
               go_simp;with_reducible rfl
              rotate_left
              ·simp only [Act.put,sa_,sb_,sc_,i64_w,i32_w]
               rfl
              refine pu_ (v:=?_) (a':=?_) 11 41 (bl_ 21 4095) rfl rfl HT_.out ?_ ?_ ?_;rotate_left
              ·intro w'
               go_simp;with_reducible rfl
              rotate_left
              ·simp only [Act.put,sa_,sb_,sc_,i64_w,i32_w]
               rfl
              refine pu_ (v:=?_) (a':=?_) 12 42 (bl_ 21 8191) rfl rfl HT_.out ?_ ?_ ?_;rotate_left
              ·intro w'
               go_simp;with_reducible rfl
              rotate_left
              ·simp only [Act.put,sa_,sb_,sc_,i64_w,i32_w]
               rfl
              refine pu_ (v:=?_) (a':=?_) 13 43 (bl_ 21 16383) rfl rfl HT_.out ?_ ?_ ?_;rotate_left
              ·intro w'
               go_simp;with_reducible rfl
              rotate_left
              ·simp only [Act.put,sa_,sb_,sc_,i64_w,i32_w]
               rfl
              refine pu_ (v:=?_) (a':=?_) 14 44 (bl_ 21 32767) rfl rfl HT_.out ?_ ?_ ?_;rotate_left
              ·intro w'
               go_simp;with_reducible rfl
              rotate_left
              ·simp only [Act.put,sa_,sb_,sc_,i64_w,i32_w]
               rfl
              refine pu_ (v:=?_) (a':=?_) 15 45 (bl_ 21 65535) rfl rfl HT_.out ?_ ?_ ?_;rotate_left
              ·intro w'
               go_simp;with_reducible rfl
              rotate_left
              ·simp only [Act.put,sa_,sb_,sc_,i64_w,i32_w]
               rfl
              refine pu_ (v:=?_) (a':=?_) 16 46 (bl_ 21 131071) rfl rfl HT_.out ?_ ?_ ?_;rotate_left
              ·intro w'
               go_simp;with_reducible rfl
              rotate_left
              ·simp only [Act.put,sa_,sb_,sc_,i64_w,i32_w]
               rfl
              refine pu_ (v:=?_) (a':=?_) 17 47 (bl_ 21 262143) rfl rfl HT_.out ?_ ?_ ?_;rotate_left
              ·intro w'
               go_simp;with_reducible rfl
              rotate_left
              ·simp only [Act.put,sa_,sb_,sc_,i64_w,i32_w]
               rfl
              refine tk_ (v:=?_) (a':=?_) 18 48 (bl_ 21 524287) rfl rfl HT_.out HW_.out ?_ hHeld ?_ ?_;rotate_left
              ·rintro w' ⟨s0,s1,s2,s3,s4,s5,s6,s7,s8⟩
               go_simp;with_reducible rfl
              rotate_left
              ·simp only [Act.put,sa_,sb_,sc_,i64_w,i32_w]
               rfl
              refine one_ (i:=19) (N:=some 49) (bl_ 21 1048575) rfl rfl (one_of HT_.out (by kernel_rfl)) (by decide) (fun K hK => ?_);refine goes_ Try.func27 (by kernel_rfl) rfl #[.string a1,.string ((rd_T40 l0 x8_2).f1)] (by rfl) rfl rfl ln_ ?_;with_reducible refine (strings_HasPrefix.calls a1 ((rd_T40 l0 x8_2).f1) true _ A32.out).mono ?_
              rintro e w' ⟨rfl,⟨nd,rfl⟩⟩;refine ⟨_,rfl,?_⟩;refine hK.out _ _ ⟨((HB.out.cell (World.block_lt_of_cell? w _ hw108_0)).trans hw108_0),((HB.out.cell (World.block_lt_of_cell? w _ hw108_1)).trans hw108_1),((HB.out.cell (World.block_lt_of_cell? w _ hw108_2)).trans hw108_2),((HB.out.cell (World.block_lt_of_cell? w _ hw108_3)).trans hw108_3),hHeld.2.2.2.2.1,((HB.out.cell (World.block_lt_of_cell? w _ hw110_0)).trans hw110_0),((HB.out.cell (World.block_lt_of_cell? w _ hw110_1)).trans hw110_1),((HB.out.cell (World.block_lt_of_cell? w _ hw110_2)).trans hw110_2),((HB.out.cell (World.block_lt_of_cell? w _ hw110_3)).trans hw110_3)⟩ (fun hHeld => ?_);clear hK K;refine norm_ (a':=?_) ?_ ?_;rotate_left
              ·show Act.put _ (some 49) _ = _
               simp only [Act.put,sa_,sb_,sc_,i64_w,i32_w];rfl
              refine pu_ (v:=?_) (a':=?_) 20 50 (bl_ 21 2097151) rfl rfl HT_.out ?_ ?_ ?_;rotate_left
              ·intro w'
               go_simp;with_reducible rfl
              rotate_left
              ·simp only [Act.put,sa_,sb_,sc_,i64_w,i32_w]
               rfl
              refine done_ (done_of HT_.out (by kernel_rfl)) ?_;try go_wp2_with (first|((with_reducible refine gate_builtin (b:=.append) (xs:=#[.tmp 51,.tmp 53]) rfl ?_);(try (refine gate_guard (by rfl) ?_;dsimp only));at_builtin;refine Kd.R_append (Kd.int .i64) (w0:=w) w.heap.size rfl (.tmp 51) (.tmp 53) 30 3 (.int .i64 0) 8 rfl Try.underlying30 info3 rfl (by decide) (by omega) (.slice (some ad109) x7_2.length co36) x7_2 x8_2 [.int .i64 x8_2] (fun _ => True) (fun _ => False) rfl rfl ?aP (fun _ hk => hk.elim) ?aF ?aO ?aB ?aS ?aL ?_;(case aP => exact rfl);(case aB => exact bel_);(case aF => exact (fun _ _ => trivial));(case aO => exact (Kd.R_mv HO_7.out));(case aS => exact (below_size bel_));(case aL => have:=LMc34.out;omega);intro v113 w37 ho hb hg hat;rw [← Ny112.out] at ho;replace BK101:=Aside0.mk (blk_grown (g:=gb101) (o:=.cells #[.int .i64 0,.int .i64 0] 27 (0,0)) (blk_mv BK101.out) hg (Kd.R_ne HO_7.out BK101.out (by decide)));replace BK104:=Aside0.mk (blk_grown (g:=gb104) (o:=.cells #[.int .i64 t102,.int .i64 t103] 27 (0,0)) (blk_mv BK104.out) hg (Kd.R_ne HO_7.out BK104.out (by decide)));replace HB:=Aside0.mk (hb);have HO114:=Aside0.mk (ho);clear HO_7;clear ho hb hg hat))
              go_roundg k2
              case measure => have:=HJ13.out;have:=HK2.out;omega
              case rel => exact ⟨(y112),(wrap64 (x8_2 + 1)),fr_,H',⟨by have:=HJ13.out;have:=HK2.out;omega⟩,⟨Kd.R_mv HO114.out⟩,⟨blk_mv BK101.out⟩,⟨blk_mv BK104.out⟩,⟨bel_⟩⟩
             ·rw [if_neg c34] at H
              exact absurd H (by simp)
            ·replace c33:=Bool.eq_false_iff.mpr c33
             subst c33;have H1 : (roles_Chain.l0 k2 l0 a1 x7_2 (wrap64 (x8_2 + 1))) = some (r1,r2,r3):=by rw [if_neg (show ¬ (false = true) by decide)] at H;exact H
             clear H;have H:=H1;clear H1;have H':=Aside0.mk H;clear H;try go_wp2
             replace HO_7:=Aside0.mk (Kd.R_drew HO_7.out);replace BK101:=Aside0.mk (blk_drew BK101.out);replace BK104:=Aside0.mk (blk_drew BK104.out);replace HB:=Aside0.mk (below_drew1 HB.out);have p108 : 0 ≤ (x8_2 : Int):=of_decide_eq_true as_;have q108 : x8_2 < (l0.length : Int):=of_decide_eq_true as_;obtain ⟨ad108,A108_2,c108_2,e108,hx108_0,hx108_1,hx108_2,hx108_3,hl108_2,hi108_2⟩:=at_T40 HR0.out x8_2 p108 q108;have hw108_3:=hx108_3;have hw108_2:=hx108_2;have hw108_1:=hx108_1;have hw108_0:=hx108_0;cases e108
             replace hx108_0:=(HB.out.cell (World.block_lt_of_cell? w _ hx108_0)).trans hx108_0;replace hx108_1:=(HB.out.cell (World.block_lt_of_cell? w _ hx108_1)).trans hx108_1;replace hx108_2:=(HB.out.cell (World.block_lt_of_cell? w _ hx108_2)).trans hx108_2;replace hx108_3:=(HB.out.cell (World.block_lt_of_cell? w _ hx108_3)).trans hx108_3;have HR108_2:=Aside0.mk hi108_2;have HC108_2:=Aside0.mk hl108_2;clear hi108_2 hl108_2;replace p108:=eq_true p108;replace q108:=eq_true q108;obtain ⟨Ao39,co39,eo39⟩:=Kd.R_slice HO_7.out;(first|subst eo39|(injection eo39 with f1_ f2_ f3_;have f4_:=f1_.symm;have f5_:=f3_.symm;clear f1_ f2_ f3_;subst f4_;subst f5_));have p109 : 0 ≤ ((ji28) : Int):=of_decide_eq_true as_;have q109 : (ji28) < (x7_2.length : Int):=of_decide_eq_true as_;obtain ⟨ad109,e109,hx109_0⟩:=Kd.at_int (Kd.R_reads' HO_7.out).2.2 (ji28) p109 q109;cases e109
             replace p109:=eq_true p109;replace q109:=eq_true q109;have p110 : 0 ≤ (x8_2 : Int):=of_decide_eq_true as_;have q110 : x8_2 < (l0.length : Int):=of_decide_eq_true as_;obtain ⟨ad110,A110_2,c110_2,e110,hx110_0,hx110_1,hx110_2,hx110_3,hl110_2,hi110_2⟩:=at_T40 HR0.out x8_2 p110 q110;have hw110_3:=hx110_3;have hw110_2:=hx110_2;have hw110_1:=hx110_1;have hw110_0:=hx110_0;obtain rfl : ad108 = ad110:=(by injection e110);replace hx110_0:=(HB.out.cell (World.block_lt_of_cell? w _ hx110_0)).trans hx110_0;replace hx110_1:=(HB.out.cell (World.block_lt_of_cell? w _ hx110_1)).trans hx110_1;replace hx110_2:=(HB.out.cell (World.block_lt_of_cell? w _ hx110_2)).trans hx110_2;replace hx110_3:=(HB.out.cell (World.block_lt_of_cell? w _ hx110_3)).trans hx110_3;have HR110_2:=Aside0.mk hi110_2;have HC110_2:=Aside0.mk hl110_2;clear hi110_2 hl110_2;replace p110:=eq_true p110;replace q110:=eq_true q110;have ea_:=Option.some.inj (hx108_2.symm.trans hx110_2);injection ea_ with ea_ en_ ec_;subst ea_;subst ec_;clear en_;refine start_ (n:=21) (S:=fun w' => w'.cell? (ad108.add ((x8_2).toNat * 4)) = some (.int .i64 ((rd_T40 l0 x8_2).f0)) ∧ w'.cell? ⟨(ad108.add ((x8_2).toNat * 4)).block,(ad108.add ((x8_2).toNat * 4)).off + 1,none⟩ = some (.string ((rd_T40 l0 x8_2).f1)) ∧ w'.cell? ⟨(ad108.add ((x8_2).toNat * 4)).block,(ad108.add ((x8_2).toNat * 4)).off + 2,none⟩ = some (.slice A108_2 ((rd_T40 l0 x8_2).f2).length c108_2) ∧ w'.cell? ⟨(ad108.add ((x8_2).toNat * 4)).block,(ad108.add ((x8_2).toNat * 4)).off + 3,none⟩ = some (.int .i64 ((rd_T40 l0 x8_2).f3)) ∧ w'.cell? (ad109.add ((ji28)).toNat) = some (.int .i64 (rd x7_2 (ji28))) ∧ w'.cell? (ad108.add ((x8_2).toNat * 4)) = some (.int .i64 ((rd_T40 l0 x8_2).f0)) ∧ w'.cell? ⟨(ad108.add ((x8_2).toNat * 4)).block,(ad108.add ((x8_2).toNat * 4)).off + 1,none⟩ = some (.string ((rd_T40 l0 x8_2).f1)) ∧ w'.cell? ⟨(ad108.add ((x8_2).toNat * 4)).block,(ad108.add ((x8_2).toNat * 4)).off + 2,none⟩ = some (.slice A108_2 ((rd_T40 l0 x8_2).f2).length c108_2) ∧ w'.cell? ⟨(ad108.add ((x8_2).toNat * 4)).block,(ad108.add ((x8_2).toNat * 4)).off + 3,none⟩ = some (.int .i64 ((rd_T40 l0 x8_2).f3))) (ds:=[]) (bl_ 21 0) (by kernel_rfl) rfl rfl ⟨((HB.out.cell (World.block_lt_of_cell? w _ hw108_0)).trans hw108_0),((HB.out.cell (World.block_lt_of_cell? w _ hw108_1)).trans hw108_1),((HB.out.cell (World.block_lt_of_cell? w _ hw108_2)).trans hw108_2),((HB.out.cell (World.block_lt_of_cell? w _ hw108_3)).trans hw108_3),hx109_0,((HB.out.cell (World.block_lt_of_cell? w _ hw110_0)).trans hw110_0),((HB.out.cell (World.block_lt_of_cell? w _ hw110_1)).trans hw110_1),((HB.out.cell (World.block_lt_of_cell? w _ hw110_2)).trans hw110_2),((HB.out.cell (World.block_lt_of_cell? w _ hw110_3)).trans hw110_3)⟩ (fun hHeld => ?_);refine with_tabW roles_Chain.tab10 roles_Chain.bits10 (fun HT_ HW_ => ?_);generalize wr.drew = w38 at HO_7 BK101 BK104 HB HR108_2 HR110_2 hx108_0 hx108_1 hx108_2 hx108_3 hx109_0 hx110_0 hx110_1 hx110_2 hx110_3 hHeld ⊢;refine pu_ (v:=?_) (a':=?_) 0 30 (bl_ 21 1) rfl rfl HT_.out ?_ ?_ ?_;rotate_left
             ·intro w'
              go_simp;with_reducible rfl
             rotate_left
             ·simp only [Act.put,sa_,sb_,sc_,i64_w,i32_w]
              rfl
             refine pu_ (v:=?_) (a':=?_) 1 31 (bl_ 21 3) rfl rfl HT_.out ?_ ?_ ?_;rotate_left
             ·intro w'
              go_simp;with_reducible rfl
             rotate_left
             ·simp only [Act.put,sa_,sb_,sc_,i64_w,i32_w]
              rfl
             refine pu_ (v:=?_) (a':=?_) 2 32 (bl_ 21 7) rfl rfl HT_.out ?_ ?_ ?_;rotate_left
             ·intro w'
              go_simp;with_reducible rfl
             rotate_left
             ·simp only [Act.put,sa_,sb_,sc_,i64_w,i32_w]
              rfl
             refine pu_ (v:=?_) (a':=?_) 3 33 (bl_ 21 15) rfl rfl HT_.out ?_ ?_ ?_;rotate_left
             ·intro w'
              go_simp;with_reducible rfl
             rotate_left
             ·simp only [Act.put,sa_,sb_,sc_,i64_w,i32_w]
              rfl
             refine pu_ (v:=?_) (a':=?_) 5 35 (bl_ 21 47) rfl rfl HT_.out ?_ ?_ ?_;rotate_left
             ·intro w'
              go_simp;with_reducible rfl
             rotate_left
             ·simp only [Act.put,sa_,sb_,sc_,i64_w,i32_w]
              rfl
             refine pu_ (v:=?_) (a':=?_) 6 36 (bl_ 21 111) rfl rfl HT_.out ?_ ?_ ?_;rotate_left
             ·intro w'
              go_simp;with_reducible rfl
             rotate_left
             ·simp only [Act.put,sa_,sb_,sc_,i64_w,i32_w]
              rfl
             refine pu_ (v:=?_) (a':=?_) 7 37 (bl_ 21 239) rfl rfl HT_.out ?_ ?_ ?_;rotate_left
             ·intro w'
              go_simp;with_reducible rfl
             rotate_left
             ·simp only [Act.put,sa_,sb_,sc_,i64_w,i32_w]
              rfl
             refine pu_ (v:=?_) (a':=?_) 8 38 (bl_ 21 495) rfl rfl HT_.out ?_ ?_ ?_;rotate_left
             ·intro w'
              go_simp;with_reducible rfl
             rotate_left
             ·simp only [Act.put,sa_,sb_,sc_,i64_w,i32_w]
              rfl
             refine pu_ (v:=?_) (a':=?_) 9 39 (bl_ 21 1007) rfl rfl HT_.out ?_ ?_ ?_;rotate_left
             ·intro w'
              go_simp;with_reducible rfl
             rotate_left
             ·simp only [Act.put,sa_,sb_,sc_,i64_w,i32_w]
              rfl
             refine tk_ (v:=?_) (a':=?_) 4 34 (bl_ 21 1023) rfl rfl HT_.out HW_.out ?_ hHeld ?_ ?_;rotate_left
             ·rintro w' ⟨s0,s1,s2,s3,s4,s5,s6,s7,s8⟩
              go_simp;with_reducible rfl
             rotate_left
             ·simp only [Act.put,sa_,sb_,sc_,i64_w,i32_w]
              rfl
             refine tk_ (v:=?_) (a':=?_) 10 40 (bl_ 21 2047) rfl rfl HT_.out HW_.out ?_ hHeld ?_ ?_;rotate_left
             ·rintro w' ⟨s0,s1,s2,s3,s4,s5,s6,s7,s8⟩
              go_simp;with_reducible rfl
             rotate_left
             ·simp only [Act.put,sa_,sb_,sc_,i64_w,i32_w]
              rfl
             refine pu_ (v:=?_) (a':=?_) 11 41 (bl_ 21 4095) rfl rfl HT_.out ?_ ?_ ?_;rotate_left
             ·intro w'
              go_simp;with_reducible rfl
             rotate_left
             ·simp only [Act.put,sa_,sb_,sc_,i64_w,i32_w]
              rfl
             refine pu_ (v:=?_) (a':=?_) 12 42 (bl_ 21 8191) rfl rfl HT_.out ?_ ?_ ?_;rotate_left
             ·intro w'
              go_simp;with_reducible rfl
             rotate_left
             ·simp only [Act.put,sa_,sb_,sc_,i64_w,i32_w]
              rfl
             refine pu_ (v:=?_) (a':=?_) 13 43 (bl_ 21 16383) rfl rfl HT_.out ?_ ?_ ?_;rotate_left
             ·intro w'
              go_simp;with_reducible rfl
             rotate_left
             ·simp only [Act.put,sa_,sb_,sc_,i64_w,i32_w]
              rfl
             refine pu_ (v:=?_) (a':=?_) 14 44 (bl_ 21 32767) rfl rfl HT_.out ?_ ?_ ?_;rotate_left
             ·intro w'
              go_simp;with_reducible rfl
             rotate_left
             ·simp only [Act.put,sa_,sb_,sc_,i64_w,i32_w]
              rfl
             refine pu_ (v:=?_) (a':=?_) 15 45 (bl_ 21 65535) rfl rfl HT_.out ?_ ?_ ?_;rotate_left
             ·intro w'
              go_simp;with_reducible rfl
             rotate_left
             ·simp only [Act.put,sa_,sb_,sc_,i64_w,i32_w]
              rfl
             refine pu_ (v:=?_) (a':=?_) 16 46 (bl_ 21 131071) rfl rfl HT_.out ?_ ?_ ?_;rotate_left
             ·intro w'
              go_simp;with_reducible rfl
             rotate_left
             ·simp only [Act.put,sa_,sb_,sc_,i64_w,i32_w]
              rfl
             refine pu_ (v:=?_) (a':=?_) 17 47 (bl_ 21 262143) rfl rfl HT_.out ?_ ?_ ?_;rotate_left
             ·intro w'
              go_simp;with_reducible rfl
             rotate_left
             ·simp only [Act.put,sa_,sb_,sc_,i64_w,i32_w]
              rfl
             refine tk_ (v:=?_) (a':=?_) 18 48 (bl_ 21 524287) rfl rfl HT_.out HW_.out ?_ hHeld ?_ ?_;rotate_left
             ·rintro w' ⟨s0,s1,s2,s3,s4,s5,s6,s7,s8⟩
              go_simp;with_reducible rfl
             rotate_left
             ·simp only [Act.put,sa_,sb_,sc_,i64_w,i32_w]
              rfl
             refine one_ (i:=19) (N:=some 49) (bl_ 21 1048575) rfl rfl (one_of HT_.out (by kernel_rfl)) (by decide) (fun K hK => ?_);refine goes_ Try.func27 (by kernel_rfl) rfl #[.string a1,.string ((rd_T40 l0 x8_2).f1)] (by rfl) rfl rfl ln_ ?_;with_reducible refine (strings_HasPrefix.calls a1 ((rd_T40 l0 x8_2).f1) false _ A32.out).mono ?_
             rintro e w' ⟨rfl,⟨nd,rfl⟩⟩;refine ⟨_,rfl,?_⟩;refine hK.out _ _ ⟨((HB.out.cell (World.block_lt_of_cell? w _ hw108_0)).trans hw108_0),((HB.out.cell (World.block_lt_of_cell? w _ hw108_1)).trans hw108_1),((HB.out.cell (World.block_lt_of_cell? w _ hw108_2)).trans hw108_2),((HB.out.cell (World.block_lt_of_cell? w _ hw108_3)).trans hw108_3),hHeld.2.2.2.2.1,((HB.out.cell (World.block_lt_of_cell? w _ hw110_0)).trans hw110_0),((HB.out.cell (World.block_lt_of_cell? w _ hw110_1)).trans hw110_1),((HB.out.cell (World.block_lt_of_cell? w _ hw110_2)).trans hw110_2),((HB.out.cell (World.block_lt_of_cell? w _ hw110_3)).trans hw110_3)⟩ (fun hHeld => ?_);clear hK K;refine norm_ (a':=?_) ?_ ?_;rotate_left
             ·show Act.put _ (some 49) _ = _
              simp only [Act.put,sa_,sb_,sc_,i64_w,i32_w];rfl
             refine pu_ (v:=?_) (a':=?_) 20 50 (bl_ 21 2097151) rfl rfl HT_.out ?_ ?_ ?_;rotate_left
             ·intro w'
              go_simp;with_reducible rfl
             rotate_left
             ·simp only [Act.put,sa_,sb_,sc_,i64_w,i32_w]
              rfl
             refine done_ (done_of HT_.out (by kernel_rfl)) ?_;try go_wp2
             go_roundg k2
             case measure => have:=HJ13.out;have:=HK2.out;omega
             case rel => exact ⟨(x7_2),(wrap64 (x8_2 + 1)),fr_,H',⟨by have:=HJ13.out;have:=HK2.out;omega⟩,⟨Kd.R_mv HO_7.out⟩,⟨blk_mv BK101.out⟩,⟨blk_mv BK104.out⟩,⟨bel_⟩⟩
           ·rw [if_neg c31] at H
            have c31b0 : (((rd_T40 l0 x8_2).f0) == (rd x7_2 (ji28))) = false:=beq_eq_false_iff_ne.mpr c31;have c31b1 : (((rd_T40 l0 x8_2).f0) != (rd x7_2 (ji28))) = true:=bne_iff_ne.mpr c31;have H':=Aside0.mk H;clear H;try go_wp2
            replace HO_7:=Aside0.mk (Kd.R_drew HO_7.out);replace BK101:=Aside0.mk (blk_drew BK101.out);replace BK104:=Aside0.mk (blk_drew BK104.out);replace HB:=Aside0.mk (below_drew1 HB.out);have p108 : 0 ≤ (x8_2 : Int):=of_decide_eq_true as_;have q108 : x8_2 < (l0.length : Int):=of_decide_eq_true as_;obtain ⟨ad108,A108_2,c108_2,e108,hx108_0,hx108_1,hx108_2,hx108_3,hl108_2,hi108_2⟩:=at_T40 HR0.out x8_2 p108 q108;have hw108_3:=hx108_3;have hw108_2:=hx108_2;have hw108_1:=hx108_1;have hw108_0:=hx108_0;cases e108
            replace hx108_0:=(HB.out.cell (World.block_lt_of_cell? w _ hx108_0)).trans hx108_0;replace hx108_1:=(HB.out.cell (World.block_lt_of_cell? w _ hx108_1)).trans hx108_1;replace hx108_2:=(HB.out.cell (World.block_lt_of_cell? w _ hx108_2)).trans hx108_2;replace hx108_3:=(HB.out.cell (World.block_lt_of_cell? w _ hx108_3)).trans hx108_3;have HR108_2:=Aside0.mk hi108_2;have HC108_2:=Aside0.mk hl108_2;clear hi108_2 hl108_2;replace p108:=eq_true p108;replace q108:=eq_true q108;obtain ⟨Ao41,co41,eo41⟩:=Kd.R_slice HO_7.out;(first|subst eo41|(injection eo41 with f1_ f2_ f3_;have f4_:=f1_.symm;have f5_:=f3_.symm;clear f1_ f2_ f3_;subst f4_;subst f5_));have p109 : 0 ≤ ((ji28) : Int):=of_decide_eq_true as_;have q109 : (ji28) < (x7_2.length : Int):=of_decide_eq_true as_;obtain ⟨ad109,e109,hx109_0⟩:=Kd.at_int (Kd.R_reads' HO_7.out).2.2 (ji28) p109 q109;cases e109
            replace p109:=eq_true p109;replace q109:=eq_true q109;refine start_ (n:=21) (S:=fun w' => w'.cell? (ad108.add ((x8_2).toNat * 4)) = some (.int .i64 ((rd_T40 l0 x8_2).f0)) ∧ w'.cell? ⟨(ad108.add ((x8_2).toNat * 4)).block,(ad108.add ((x8_2).toNat * 4)).off + 1,none⟩ = some (.string ((rd_T40 l0 x8_2).f1)) ∧ w'.cell? ⟨(ad108.add ((x8_2).toNat * 4)).block,(ad108.add ((x8_2).toNat * 4)).off + 2,none⟩ = some (.slice A108_2 ((rd_T40 l0 x8_2).f2).length c108_2) ∧ w'.cell? ⟨(ad108.add ((x8_2).toNat * 4)).block,(ad108.add ((x8_2).toNat * 4)).off + 3,none⟩ = some (.int .i64 ((rd_T40 l0 x8_2).f3)) ∧ w'.cell? (ad109.add ((ji28)).toNat) = some (.int .i64 (rd x7_2 (ji28)))) (ds:=[]) (bl_ 21 0) (by kernel_rfl) rfl rfl ⟨((HB.out.cell (World.block_lt_of_cell? w _ hw108_0)).trans hw108_0),((HB.out.cell (World.block_lt_of_cell? w _ hw108_1)).trans hw108_1),((HB.out.cell (World.block_lt_of_cell? w _ hw108_2)).trans hw108_2),((HB.out.cell (World.block_lt_of_cell? w _ hw108_3)).trans hw108_3),hx109_0⟩ (fun hHeld => ?_);refine with_tabW roles_Chain.tab10 roles_Chain.bits10 (fun HT_ HW_ => ?_);generalize wr.drew = w40 at HO_7 BK101 BK104 HB HR108_2 hx108_0 hx108_1 hx108_2 hx108_3 hx109_0 hHeld ⊢;refine pu_ (v:=?_) (a':=?_) 0 30 (bl_ 21 1) rfl rfl HT_.out ?_ ?_ ?_;rotate_left
            ·intro w'
             go_simp;with_reducible rfl
            rotate_left
            ·simp only [Act.put,sa_,sb_,sc_,i64_w,i32_w]
             rfl
            refine pu_ (v:=?_) (a':=?_) 1 31 (bl_ 21 3) rfl rfl HT_.out ?_ ?_ ?_;rotate_left
            ·intro w'
             go_simp;with_reducible rfl
            rotate_left
            ·simp only [Act.put,sa_,sb_,sc_,i64_w,i32_w]
             rfl
            refine pu_ (v:=?_) (a':=?_) 2 32 (bl_ 21 7) rfl rfl HT_.out ?_ ?_ ?_;rotate_left
            ·intro w'
             go_simp;with_reducible rfl
            rotate_left
            ·simp only [Act.put,sa_,sb_,sc_,i64_w,i32_w]
             rfl
            refine pu_ (v:=?_) (a':=?_) 3 33 (bl_ 21 15) rfl rfl HT_.out ?_ ?_ ?_;rotate_left
            ·intro w'
             go_simp;with_reducible rfl
            rotate_left
            ·simp only [Act.put,sa_,sb_,sc_,i64_w,i32_w]
             rfl
            refine pu_ (v:=?_) (a':=?_) 5 35 (bl_ 21 47) rfl rfl HT_.out ?_ ?_ ?_;rotate_left
            ·intro w'
             go_simp;with_reducible rfl
            rotate_left
            ·simp only [Act.put,sa_,sb_,sc_,i64_w,i32_w]
             rfl
            refine pu_ (v:=?_) (a':=?_) 6 36 (bl_ 21 111) rfl rfl HT_.out ?_ ?_ ?_;rotate_left
            ·intro w'
             go_simp;with_reducible rfl
            rotate_left
            ·simp only [Act.put,sa_,sb_,sc_,i64_w,i32_w]
             rfl
            refine pu_ (v:=?_) (a':=?_) 7 37 (bl_ 21 239) rfl rfl HT_.out ?_ ?_ ?_;rotate_left
            ·intro w'
             go_simp;with_reducible rfl
            rotate_left
            ·simp only [Act.put,sa_,sb_,sc_,i64_w,i32_w]
             rfl
            refine pu_ (v:=?_) (a':=?_) 8 38 (bl_ 21 495) rfl rfl HT_.out ?_ ?_ ?_;rotate_left
            ·intro w'
             go_simp;with_reducible rfl
            rotate_left
            ·simp only [Act.put,sa_,sb_,sc_,i64_w,i32_w]
             rfl
            refine pu_ (v:=?_) (a':=?_) 9 39 (bl_ 21 1007) rfl rfl HT_.out ?_ ?_ ?_;rotate_left
            ·intro w'
             go_simp;with_reducible rfl
            rotate_left
            ·simp only [Act.put,sa_,sb_,sc_,i64_w,i32_w]
             rfl
            refine tk_ (v:=?_) (a':=?_) 4 34 (bl_ 21 1023) rfl rfl HT_.out HW_.out ?_ hHeld ?_ ?_;rotate_left
            ·rintro w' ⟨s0,s1,s2,s3,s4⟩
             go_simp;with_reducible rfl
            rotate_left
            ·simp only [Act.put,sa_,sb_,sc_,i64_w,i32_w]
             rfl
            refine tk_ (v:=?_) (a':=?_) 10 40 (bl_ 21 2047) rfl rfl HT_.out HW_.out ?_ hHeld ?_ ?_;rotate_left
            ·rintro w' ⟨s0,s1,s2,s3,s4⟩
             go_simp;with_reducible rfl
            rotate_left
            ·simp only [Act.put,sa_,sb_,sc_,i64_w,i32_w]
             rfl
            refine pu_ (v:=?_) (a':=?_) 11 41 (bl_ 21 4095) rfl rfl HT_.out ?_ ?_ ?_;rotate_left
            ·intro w'
             go_simp;with_reducible rfl
            rotate_left
            ·simp only [Act.put,sa_,sb_,sc_,i64_w,i32_w]
             rfl
            refine pu_ (v:=?_) (a':=?_) 12 42 (bl_ 21 8191) rfl rfl HT_.out ?_ ?_ ?_;rotate_left
            ·intro w'
             go_simp;with_reducible rfl
            rotate_left
            ·simp only [Act.put,sa_,sb_,sc_,i64_w,i32_w]
             rfl
            refine pun_ (a':=?_) 13 43 (bl_ 21 16383) rfl rfl HT_.out ?_ ?_;rotate_left
            ·simp only [Act.put,sa_,sb_,sc_,i64_w,i32_w]
             rfl
            refine pun_ (a':=?_) 14 44 (bl_ 21 32767) rfl rfl HT_.out ?_ ?_;rotate_left
            ·simp only [Act.put,sa_,sb_,sc_,i64_w,i32_w]
             rfl
            refine pun_ (a':=?_) 15 45 (bl_ 21 65535) rfl rfl HT_.out ?_ ?_;rotate_left
            ·simp only [Act.put,sa_,sb_,sc_,i64_w,i32_w]
             rfl
            refine pun_ (a':=?_) 16 46 (bl_ 21 131071) rfl rfl HT_.out ?_ ?_;rotate_left
            ·simp only [Act.put,sa_,sb_,sc_,i64_w,i32_w]
             rfl
            refine pun_ (a':=?_) 17 47 (bl_ 21 262143) rfl rfl HT_.out ?_ ?_;rotate_left
            ·simp only [Act.put,sa_,sb_,sc_,i64_w,i32_w]
             rfl
            refine pun_ (a':=?_) 18 48 (bl_ 21 524287) rfl rfl HT_.out ?_ ?_;rotate_left
            ·simp only [Act.put,sa_,sb_,sc_,i64_w,i32_w]
             rfl
            refine pun_ (a':=?_) 19 49 (bl_ 21 1048575) rfl rfl HT_.out ?_ ?_;rotate_left
            ·simp only [Act.put,sa_,sb_,sc_,i64_w,i32_w]
             rfl
            refine pu_ (v:=?_) (a':=?_) 20 50 (bl_ 21 2097151) rfl rfl HT_.out ?_ ?_ ?_;rotate_left
            ·intro w'
             go_simp;with_reducible rfl
            rotate_left
            ·simp only [Act.put,sa_,sb_,sc_,i64_w,i32_w]
             rfl
            refine done_ (done_of HT_.out (by kernel_rfl)) ?_;try go_wp2
            go_roundg k2
            case measure => have:=HJ13.out;have:=HK2.out;omega
            case rel => exact ⟨(x7_2),(wrap64 (x8_2 + 1)),fr_,H',⟨by have:=HJ13.out;have:=HK2.out;omega⟩,⟨Kd.R_mv HO_7.out⟩,⟨blk_mv BK101.out⟩,⟨blk_mv BK104.out⟩,⟨bel_⟩⟩
          ·rw [if_neg c30] at H
           exact absurd H (by simp)
         ·rw [if_neg c29] at H
          exact absurd H (by simp)
        ·rw [if_neg c27] at H
         exact absurd H (by simp)
       ·rw [if_neg c26] at H
        have c26b0 : decide (x8_2 < (l0.length : Int)) = false:=decide_eq_false c26;clear c26;simp only [Option.some.injEq,Prod.mk.injEq] at H;obtain ⟨rfl,rfl,rfl⟩:=H;have hnb42:=NB101_104.out;have hnc42:=NB104_101.out;have hcz43_0:=blk_c (v:=.int .i64 0) BK101.out 0 rfl;have hcz43_1:=blk_c (v:=.int .i64 0) BK101.out 1 rfl;have hfz43_0:=blk_frozen BK101.out 0;have hfz43_1:=blk_frozen BK101.out 1;go_wp2;refine bodyPost_ret (results_tc rfl _ _ gb101 27 #[.int .i64 0,.int .i64 0] (0,0) _ rfl (by refine blk_mv ?_;refine blk_put (cs:=#[.int .i64 0,.int .i64 0]) ?_ 1 _ rfl;refine blk_mv ?_;refine blk_put (cs:=#[.int .i64 0,.int .i64 0]) ?_ 0 _ rfl;refine blk_mv ?_;exact BK101.out) Try.underlying27 rfl (by kernel_rfl)) rfl ?_;exact ⟨_,by first|rfl|(simp [errW_none,errW_some] <;> rfl)|(simp [*,errW_none,errW_some] <;> rfl),by (with_reducible repeat (first|apply Kd.R_alloc|apply Kd.R_drewN|apply Kd.R_drew));exact Kd.R_mono (Kd.R_far (p:=⟨gb101,1,none⟩) (Kd.R_far (p:=⟨gb101,0,none⟩) (Kd.R_types HO_7.out BK101.out (by decide)) (fun _ hk => hk.2) (.int .i64 0)) (fun _ hk => hk.2) (.int .i64 0)) (fun _ hk => trivial),bel_⟩

end Go.Proofs.Ytdelkdlegokbjaa.Fn
