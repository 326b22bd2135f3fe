/- A function of the program as a plain Lean function, and the proof that the call comes to just what it says (written by wip/tools/xprint.py for this claim). Condition: the plain function has an answer. -/
import Derived.Test.YtdelkdlegokbjaaFn0
import Derived.Test.YtdelkdlegokbjaaFf12
import Derived.Test.YtdelkdlegokbjaaFf8
import Derived.Test.YtdelkdlegokbjaaFs0
import Derived.Test.YtdelkdlegokbjaaWA
import Derived.Test.YtdelkdlegokbjaaTight
namespace Go.Proofs.Ytdelkdlegokbjaa.Fn
open Go.RowKit Go.Proofs.YtdelkdlegokbjaaW.PrintWords Go.Proofs.YtdelkdlegokbjaaW.PrintLast Go.Proofs.YtdelkdlegokbjaaW.PrintMore
attribute [local go_sem] max2_int min2_int max_two min_two max_three min_three max_four min_four   -- for this text's walks alone
set_option linter.unusedVariables false
set_option linter.unusedSimpArgs false

/-! ### changeforgelaw5_RolesChainsAreNested: function 4 -/
mutual
def changeforgelaw5_RolesChainsAreNested.j0 : Nat → List (S40) → ByteArray → List Int → Bool → Option (Bool)
 | 0,_,_,_,_ => none
 | k + 1,x0,x1,x5,x20 => if x20 = true then ((changeforgelaw5_delegates.f).bind fun t108 => (if t108 = true then (some ((x5.length : Int) == 0)) else (none))) else (if (x5.length : Int) = 0 then (changeforgelaw5_RolesChainsAreNested.j1 k x0 x1 x5 true) else (if 0 < (x5.length : Int) then (changeforgelaw5_RolesChainsAreNested.j1 k x0 x1 x5 ((rd x5 0) != 0)) else (none)))
def changeforgelaw5_RolesChainsAreNested.j1 : Nat → List (S40) → ByteArray → List Int → Bool → Option (Bool)
 | 0,_,_,_,_ => none
 | k + 1,x0,x1,x5,x35 => if x35 = true then (none) else (changeforgelaw5_RolesChainsAreNested.l0 k x0 x1 x5 0)
def changeforgelaw5_RolesChainsAreNested.l0 : Nat → List (S40) → ByteArray → List Int → Int → Option (Bool)
 | 0,_,_,_,_ => none
 | k + 1,x0,x1,x5,x7 => if x7 < (x5.length : Int) then (if 0 ≤ x7 then ((changeforgelaw5_in.f (rd x5 x7) 0 (wrap64 ((x0.length : Int) - 1))).bind fun t111 => (if t111 = true then (if 0 ≤ (rd x5 x7) then (if (rd x5 x7) < (x0.length : Int) then ((changeforgeref5_Starts.f x1 ((rd_T40 x0 (rd x5 x7)).f1)).bind fun t114 => (changeforgelaw5_RolesChainsAreNested.j3 k x0 x1 x5 x7 (!t114))) else (none)) else (none)) else (changeforgelaw5_RolesChainsAreNested.j3 k x0 x1 x5 x7 true))) else (none)) else (some true)
def changeforgelaw5_RolesChainsAreNested.j3 : Nat → List (S40) → ByteArray → List Int → Int → Bool → Option (Bool)
 | 0,_,_,_,_,_ => none
 | k + 1,x0,x1,x5,x7,x63 => if x63 = true then (none) else (if x7 > 0 then (if 0 ≤ x7 then (if x7 < (x5.length : Int) then (if 0 ≤ (wrap64 (x7 - 1)) then (if (wrap64 (x7 - 1)) < (x5.length : Int) then (if (rd x5 x7) ≤ (rd x5 (wrap64 (x7 - 1))) then (none) else (if 0 ≤ (rd x5 x7) then (if (rd x5 x7) < (x0.length : Int) then (if ((rd_T40 x0 (rd x5 x7)).f0) = (rd x5 (wrap64 (x7 - 1))) then (if 0 ≤ (rd x5 (wrap64 (x7 - 1))) then (if (rd x5 (wrap64 (x7 - 1))) < (x0.length : Int) then ((changeforgeref5_Starts.f ((rd_T40 x0 (rd x5 x7)).f1) ((rd_T40 x0 (rd x5 (wrap64 (x7 - 1)))).f1)).bind fun t124 => (if t124 = true then (changeforgelaw5_RolesChainsAreNested.l0 k x0 x1 x5 (wrap64 (x7 + 1))) else (none))) else (none)) else (none)) else (none)) else (none)) else (none))) else (none)) else (none)) else (none)) else (none)) else (changeforgelaw5_RolesChainsAreNested.l0 k x0 x1 x5 (wrap64 (x7 + 1))))
end
def changeforgelaw5_RolesChainsAreNested.f (k : Nat) (l0 : List (S40)) (a1 : ByteArray) : Option (Bool):=(roles_Chain.f k l0 a1).bind fun bt101 => ((changeforgelaw5_delegates.f).bind fun t107 => (if t107 = true then (changeforgelaw5_RolesChainsAreNested.j0 k l0 a1 bt101.1 (bt101.2.1 != 0)) else (changeforgelaw5_RolesChainsAreNested.j0 k l0 a1 bt101.1 true)))
theorem changeforgelaw5_RolesChainsAreNested.mono_l : ∀ k,(∀ y0 y1 y2 y3,LeO (changeforgelaw5_RolesChainsAreNested.j0 k y0 y1 y2 y3) (changeforgelaw5_RolesChainsAreNested.j0 (k + 1) y0 y1 y2 y3)) ∧ (∀ y0 y1 y2 y3,LeO (changeforgelaw5_RolesChainsAreNested.j1 k y0 y1 y2 y3) (changeforgelaw5_RolesChainsAreNested.j1 (k + 1) y0 y1 y2 y3)) ∧ (∀ y0 y1 y2 y3,LeO (changeforgelaw5_RolesChainsAreNested.l0 k y0 y1 y2 y3) (changeforgelaw5_RolesChainsAreNested.l0 (k + 1) y0 y1 y2 y3)) ∧ (∀ y0 y1 y2 y3 y4,LeO (changeforgelaw5_RolesChainsAreNested.j3 k y0 y1 y2 y3 y4) (changeforgelaw5_RolesChainsAreNested.j3 (k + 1) y0 y1 y2 y3 y4))
 | 0 => ⟨fun _ _ _ _ r h => by simp [changeforgelaw5_RolesChainsAreNested.j0] at h,fun _ _ _ _ r h => by simp [changeforgelaw5_RolesChainsAreNested.j1] at h,fun _ _ _ _ r h => by simp [changeforgelaw5_RolesChainsAreNested.l0] at h,fun _ _ _ _ _ r h => by simp [changeforgelaw5_RolesChainsAreNested.j3] at h⟩
 | k + 1 => by
  obtain ⟨ih0,ih1,ih2,ih3⟩:=changeforgelaw5_RolesChainsAreNested.mono_l k;refine ⟨?_,?_,?_,?_⟩
  ·intro y0 y1 y2 y3
   unfold changeforgelaw5_RolesChainsAreNested.j0;repeat' first
   | (with_reducible exact ih0 _ _ _ _)
   | (with_reducible exact ih1 _ _ _ _)
   | (with_reducible exact ih2 _ _ _ _)
   | (with_reducible exact ih3 _ _ _ _ _)
   | (with_reducible exact roles_Chain.mono _ _ _)
   | (with_reducible exact LeO.refl _)
   | (with_reducible exact LeO.none _)
   | (with_reducible refine LeO.ite ?_ ?_)
   | (with_reducible refine LeO.bind ?_ (fun _ => ?_))
   | exact ih0 _ _ _ _
   | exact ih1 _ _ _ _
   | exact ih2 _ _ _ _
   | exact ih3 _ _ _ _ _
   | exact roles_Chain.mono _ _ _
   | exact LeO.none _
   | refine LeO.ite ?_ ?_
   | refine LeO.bind ?_ (fun _ => ?_)
  ·intro y0 y1 y2 y3
   unfold changeforgelaw5_RolesChainsAreNested.j1;repeat' first
   | (with_reducible exact ih0 _ _ _ _)
   | (with_reducible exact ih1 _ _ _ _)
   | (with_reducible exact ih2 _ _ _ _)
   | (with_reducible exact ih3 _ _ _ _ _)
   | (with_reducible exact roles_Chain.mono _ _ _)
   | (with_reducible exact LeO.refl _)
   | (with_reducible exact LeO.none _)
   | (with_reducible refine LeO.ite ?_ ?_)
   | (with_reducible refine LeO.bind ?_ (fun _ => ?_))
   | exact ih0 _ _ _ _
   | exact ih1 _ _ _ _
   | exact ih2 _ _ _ _
   | exact ih3 _ _ _ _ _
   | exact roles_Chain.mono _ _ _
   | exact LeO.none _
   | refine LeO.ite ?_ ?_
   | refine LeO.bind ?_ (fun _ => ?_)
  ·intro y0 y1 y2 y3
   unfold changeforgelaw5_RolesChainsAreNested.l0;repeat' first
   | (with_reducible exact ih0 _ _ _ _)
   | (with_reducible exact ih1 _ _ _ _)
   | (with_reducible exact ih2 _ _ _ _)
   | (with_reducible exact ih3 _ _ _ _ _)
   | (with_reducible exact roles_Chain.mono _ _ _)
   | (with_reducible exact LeO.refl _)
   | (with_reducible exact LeO.none _)
   | (with_reducible refine LeO.ite ?_ ?_)
   | (with_reducible refine LeO.bind ?_ (fun _ => ?_))
   | exact ih0 _ _ _ _
   | exact ih1 _ _ _ _
   | exact ih2 _ _ _ _
   | exact ih3 _ _ _ _ _
   | exact roles_Chain.mono _ _ _
   | exact LeO.none _
   | refine LeO.ite ?_ ?_
   | refine LeO.bind ?_ (fun _ => ?_)
  ·intro y0 y1 y2 y3 y4
   unfold changeforgelaw5_RolesChainsAreNested.j3;repeat' first
   | (with_reducible exact ih0 _ _ _ _)
   | (with_reducible exact ih1 _ _ _ _)
   | (with_reducible exact ih2 _ _ _ _)
   | (with_reducible exact ih3 _ _ _ _ _)
   | (with_reducible exact roles_Chain.mono _ _ _)
   | (with_reducible exact LeO.refl _)
   | (with_reducible exact LeO.none _)
   | (with_reducible refine LeO.ite ?_ ?_)
   | (with_reducible refine LeO.bind ?_ (fun _ => ?_))
   | exact ih0 _ _ _ _
   | exact ih1 _ _ _ _
   | exact ih2 _ _ _ _
   | exact ih3 _ _ _ _ _
   | exact roles_Chain.mono _ _ _
   | exact LeO.none _
   | refine LeO.ite ?_ ?_
   | refine LeO.bind ?_ (fun _ => ?_)
theorem changeforgelaw5_RolesChainsAreNested.mono : ∀ a0 a1 k,LeO (changeforgelaw5_RolesChainsAreNested.f k a0 a1) (changeforgelaw5_RolesChainsAreNested.f (k + 1) a0 a1):=by
 intro a0 a1 k;obtain ⟨ih0,ih1,ih2,ih3⟩:=changeforgelaw5_RolesChainsAreNested.mono_l k;unfold changeforgelaw5_RolesChainsAreNested.f
 repeat' first
   | (with_reducible exact ih0 _ _ _ _)
   | (with_reducible exact ih1 _ _ _ _)
   | (with_reducible exact ih2 _ _ _ _)
   | (with_reducible exact ih3 _ _ _ _ _)
   | (with_reducible exact roles_Chain.mono _ _ _)
   | (with_reducible exact LeO.refl _)
   | (with_reducible exact LeO.none _)
   | (with_reducible refine LeO.ite ?_ ?_)
   | (with_reducible refine LeO.bind ?_ (fun _ => ?_))
   | exact ih0 _ _ _ _
   | exact ih1 _ _ _ _
   | exact ih2 _ _ _ _
   | exact ih3 _ _ _ _ _
   | exact roles_Chain.mono _ _ _
   | exact LeO.none _
   | refine LeO.ite ?_ ?_
   | refine LeO.bind ?_ (fun _ => ?_)
def changeforgelaw5_RolesChainsAreNested.T11 : Bool × List (List Nat × List Nat):=(true,[([],[]),([0],[0]),([1],[1]),([2],[2]),([2],[2]),([3,4,2],[2,3,4]),([5,2],[2,5]),([2],[2]),([2],[2]),([8,2],[2,8]),([7,9,2],[2,7,9]),([10,2],[2,10]),([6,11,2],[2,6,11]),([12,2,2],[2,12]),([13],[13]),([13],[13]),([13],[13]),([15,16,13],[13,15,16]),([17,13],[13,17]),([14,18,13],[13,14,18]),([19,13],[13,19]),([20,13],[13,20]),([13],[13]),([13],[13]),([23,13],[13,23]),([22,24,13],[13,22,24]),([25,13],[13,25]),([21,26,13],[13,21,26]),([13,27,2],[2,13,27]),([28,13,2],[2,28]),([29],[29]),([29],[29]),([29],[29]),([31,32,29],[29,31,32]),([33,29],[29,33]),([30,34,29],[29,30,34]),([35,29],[29,35]),([36,29],[29,36]),([29],[29]),([29],[29]),([29],[29]),([40,29],[29,40]),([39,41,29],[29,39,41]),([42,29],[29,42]),([38,43,29],[29,38,43]),([44,29],[29,44]),([45,29],[29,45]),([37,46,29,29],[29,37,46]),([47,29],[29,47]),([29,48,2],[2,29,48]),([2,49],[2,49])])
def changeforgelaw5_RolesChainsAreNested.B11 : List Nat:=[0,1,3,7,7,31,63,7,7,263,903,1927,4095,8191,16383,16383,16383,114687,245759,524287,1048575,2097151,16383,16383,8404991,29376511,62930943,134217727,268435455,536870911,1073741823,1073741823,1073741823,7516192767,16106127359,34359738367,68719476735,137438953471,1073741823,1073741823,1073741823,1100585369599,3849364439039,8247410950143,17318381879295,34910567923711,70094940012543,140737488355327,281474976710655,562949953421311,1125899906842623]
theorem changeforgelaw5_RolesChainsAreNested.tab11 : rtab .any (opsOf Try.f4 11) = changeforgelaw5_RolesChainsAreNested.T11:=by kernel_rfl
theorem changeforgelaw5_RolesChainsAreNested.bits11 : waitsOk changeforgelaw5_RolesChainsAreNested.T11.2 changeforgelaw5_RolesChainsAreNested.B11 = true:=by kernel_rfl
set_option maxHeartbeats 8000000 in
set_option maxRecDepth 100000 in
theorem changeforgelaw5_RolesChainsAreNested.calls (k : Nat) (A0 : Option Addr) (c0 : Nat) (l0 : List (S40)) (a1 : ByteArray) (r : Bool) (w : World) (hr0 : Kd.C k40 w A0 l0.length l0) (hc0 : l0.length ≤ c0) (h : changeforgelaw5_RolesChainsAreNested.f k l0 a1 = some r) :
  Calls Try.prog 4 #[.slice A0 l0.length c0,.string a1] w fun e w' => e = .returned (.bool r) ∧ Below w.heap.size w w':=by
 have hu27:=Try.underlying27;have HR0:=Aside0.mk hr0;have HC0:=Aside0.mk hc0;clear hr0 hc0;have HB:=Aside0.mk (Below.refl w.heap.size w);have H : ((roles_Chain.f k l0 a1).bind fun bt101 => ((changeforgelaw5_delegates.f).bind fun t107 => (if t107 = true then (changeforgelaw5_RolesChainsAreNested.j0 k l0 a1 bt101.1 (bt101.2.1 != 0)) else (changeforgelaw5_RolesChainsAreNested.j0 k l0 a1 bt101.1 true)))) = some r:=h;clear h;replace H:=Option.bind_eq_some_iff.mp H;obtain ⟨⟨t101,t104,t105⟩,A30,H⟩:=H;replace H : ((changeforgelaw5_delegates.f).bind fun t107 => (if t107 = true then (changeforgelaw5_RolesChainsAreNested.j0 k l0 a1 t101 (t104 != 0)) else (changeforgelaw5_RolesChainsAreNested.j0 k l0 a1 t101 true))) = some r:=H;have A3:=Aside0.mk A30;clear A30;have HC4:=Aside0.mk H;clear H;go_enter Try.func4,Try.ntmps4;go_upto_region 2 with (first|((with_reducible refine gate_callee (f:=12) rfl ?_);refine goesL_ (some 11) rfl rfl Try.func12 (by kernel_rfl) rfl #[.slice A0 l0.length c0,.string a1] rfl ln_ ?_;(with_reducible refine (roles_Chain.calls k _ _ l0 a1 t101 t104 t105 _ ?side1 ?side2 A3.out).mono ?_);(case side1 => first|exact HR0.out|exact Kd.C_mv HR0.out);(case side2 => exact HC0.out);rintro e w5 ⟨v102,rfl,ho0,hb⟩;refine ⟨_,rfl,?_⟩;have HO103:=Aside0.mk (Kd.R_lower ho0 (below_size bel_));replace HB:=Aside0.mk (below_step bel_ hb);(try clear hb);(try clear hb2);(try clear hk);(try clear hi);(try clear ho0))|((with_reducible refine gate_dst (N:=6) rfl ?_);(try (refine gate_guard (by rfl) ?_;dsimp only));refine box_event ?hg (N:=6) ?hd (cs:=#[.int .i64 0,.int .i64 0]) (t:=27) ?hr ?_;(case hd => rfl);(case hg => rfl);(case hr => first|(go_simp;done)|(go_simp;rfl));intro gb106 hg w6 hbox hb;replace HO103:=Aside0.mk (Kd.R_below (Kd.R_mv HO103.out) hb);have BK106:=Aside0.mk (hbox);have GW106:=Aside0.mk ((bs_ : w.heap.size ≤ gb106));have GE106:=Aside0.mk ((bs_ : w.heap.size ≤ gb106));replace HB:=Aside0.mk (below_step bel_ hb);clear hb hbox hg;have hcz7_0:=blk_c (v:=.int .i64 0) BK106.out 0 rfl;have hcz7_1:=blk_c (v:=.int .i64 0) BK106.out 1 rfl;have hfz7_0:=blk_frozen BK106.out 0;have hfz7_1:=blk_frozen BK106.out 1));(try simp only [Act.put,sa_,sb_,sc_]);go_cut [20] (fun v20 wc => ∃ (kq : Nat) (x20_3 : Bool),v20 = .bool x20_3 ∧ Aside0 (changeforgelaw5_RolesChainsAreNested.j0 kq l0 a1 t101 x20_3 = some r) ∧ Aside0 (kq ≤ k) ∧ Aside0 (Kd.R (Kd.int .i64) 3 wc w.heap.size (fun _ => True) v102 t101) ∧ Aside0 (wc.heap[gb106]? = some (.cells #[.int .i64 t104,.int .i64 t105] 27 (0,0))) ∧ Aside0 (Below w.heap.size w wc))
 case first =>
  have H:=HC4.out;clear HC4;replace H:=Option.bind_eq_some_iff.mp H;obtain ⟨t107,A80,H⟩:=H;replace H : (if t107 = true then (changeforgelaw5_RolesChainsAreNested.j0 k l0 a1 t101 (t104 != 0)) else (changeforgelaw5_RolesChainsAreNested.j0 k l0 a1 t101 true)) = some r:=H;have A8:=Aside0.mk A80;clear A80;by_cases c9 : t107 = true
  ·subst c9
   have H1 : (changeforgelaw5_RolesChainsAreNested.j0 k l0 a1 t101 (t104 != 0)) = some r:=by rw [if_pos rfl] at H;exact H
   clear H;have H:=H1;clear H1;have H':=Aside0.mk H;clear H;go_wp2_with (first|((with_reducible refine gate_callee (f:=8) rfl ?_);refine goesL_ (some 14) rfl rfl Try.func8 (by kernel_rfl) rfl #[] rfl ln_ ?_;(with_reducible refine (changeforgelaw5_delegates.calls  true _ A8.out).mono ?_);rintro e w10 ⟨rfl,hb⟩;refine ⟨_,rfl,?_⟩;replace HO103:=Aside0.mk (Kd.R_below (by (with_reducible repeat (first|apply Kd.R_alloc|apply Kd.R_drewN|apply Kd.R_drew));exact (Kd.R_mono (Kd.R_far (p:=⟨gb106,1,none⟩) (Kd.R_far (p:=⟨gb106,0,none⟩) (Kd.R_types HO103.out BK106.out (by decide)) (fun _ hk => hk.2) (.int .i64 t104)) (fun _ hk => hk.2) (.int .i64 t105)) (fun _ h_ => h_.1))) hb);replace BK106:=Aside0.mk (blk_below (g:=gb106) (o:=.cells #[.int .i64 t104,.int .i64 t105] 27 (0,0)) (by refine blk_mv ?_;refine blk_put (cs:=#[.int .i64 t104,.int .i64 0]) ?_ 1 _ rfl;refine blk_mv ?_;refine blk_put (cs:=#[.int .i64 0,.int .i64 0]) ?_ 0 _ rfl;refine blk_mv ?_;exact BK106.out) hb);replace HB:=Aside0.mk (below_step bel_ hb);(try clear hb);(try clear hb2);(try clear hk);(try clear hi);have hcz11_0:=blk_c (v:=.int .i64 t104) BK106.out 0 rfl;have hcz11_1:=blk_c (v:=.int .i64 t105) BK106.out 1 rfl;have hfz11_0:=blk_frozen BK106.out 0;have hfz11_1:=blk_frozen BK106.out 1));go_meet
   case rel => exact ⟨_,((t104 != 0)),fr_,H',⟨om_⟩,⟨Kd.R_mv HO103.out⟩,⟨blk_mv BK106.out⟩,⟨bel_⟩⟩
  ·replace c9:=Bool.eq_false_iff.mpr c9
   subst c9;have H1 : (changeforgelaw5_RolesChainsAreNested.j0 k l0 a1 t101 true) = some r:=by rw [if_neg (show ¬ (false = true) by decide)] at H;exact H
   clear H;have H:=H1;clear H1;have H':=Aside0.mk H;clear H;go_wp2_with (first|((with_reducible refine gate_callee (f:=8) rfl ?_);refine goesL_ (some 14) rfl rfl Try.func8 (by kernel_rfl) rfl #[] rfl ln_ ?_;(with_reducible refine (changeforgelaw5_delegates.calls  false _ A8.out).mono ?_);rintro e w12 ⟨rfl,hb⟩;refine ⟨_,rfl,?_⟩;replace HO103:=Aside0.mk (Kd.R_below (by (with_reducible repeat (first|apply Kd.R_alloc|apply Kd.R_drewN|apply Kd.R_drew));exact (Kd.R_mono (Kd.R_far (p:=⟨gb106,1,none⟩) (Kd.R_far (p:=⟨gb106,0,none⟩) (Kd.R_types HO103.out BK106.out (by decide)) (fun _ hk => hk.2) (.int .i64 t104)) (fun _ hk => hk.2) (.int .i64 t105)) (fun _ h_ => h_.1))) hb);replace BK106:=Aside0.mk (blk_below (g:=gb106) (o:=.cells #[.int .i64 t104,.int .i64 t105] 27 (0,0)) (by refine blk_mv ?_;refine blk_put (cs:=#[.int .i64 t104,.int .i64 0]) ?_ 1 _ rfl;refine blk_mv ?_;refine blk_put (cs:=#[.int .i64 0,.int .i64 0]) ?_ 0 _ rfl;refine blk_mv ?_;exact BK106.out) hb);replace HB:=Aside0.mk (below_step bel_ hb);(try clear hb);(try clear hb2);(try clear hk);(try clear hi)));go_meet
   case rel => exact ⟨_,(true),fr_,H',⟨om_⟩,⟨Kd.R_mv HO103.out⟩,⟨blk_mv BK106.out⟩,⟨bel_⟩⟩
 case rest =>
  clear HC4;(try clear c1);(try clear p2);(try clear c4);(try clear c8);(try clear c9);(try clear c12);(try clear hcz11_0);(try clear hcz11_1);(try clear hcz7_0);(try clear hcz7_1);(try clear hfz11_0);(try clear hfz11_1);(try clear hfz7_0);(try clear hfz7_1);obtain ⟨kq,x20_3,rfl,HA,HJ3,HO_5,BK106,HB⟩:=hcut;cases kq with
  | zero => exact absurd HA.out (by simp [changeforgelaw5_RolesChainsAreNested.j0])
  | succ kj3 =>
   have H:=HA.out;clear HA;simp only [changeforgelaw5_RolesChainsAreNested.j0] at H;by_cases c13 : x20_3 = true
   ·subst c13
    have H1 : ((changeforgelaw5_delegates.f).bind fun t108 => (if t108 = true then (some ((t101.length : Int) == 0)) else (none))) = some r:=by rw [if_pos rfl] at H;exact H
    clear H;have H:=H1;clear H1;replace H:=Option.bind_eq_some_iff.mp H;obtain ⟨t108,A140,H⟩:=H;replace H : (if t108 = true then (some ((t101.length : Int) == 0)) else (none)) = some r:=H;have A14:=Aside0.mk A140;clear A140;by_cases c15 : t108 = true
    ·subst c15
     have H1 : (some ((t101.length : Int) == 0)) = some r:=by rw [if_pos rfl] at H;exact H
     clear H;have H:=H1;clear H1;obtain rfl:=Option.some.inj H;go_wp2_with (first|((with_reducible refine gate_callee (f:=8) rfl ?_);refine goesL_ (some 21) rfl rfl Try.func8 (by kernel_rfl) rfl #[] rfl ln_ ?_;(with_reducible refine (changeforgelaw5_delegates.calls  true _ A14.out).mono ?_);rintro e w16 ⟨rfl,hb⟩;refine ⟨_,rfl,?_⟩;replace HO_5:=Aside0.mk (Kd.R_below (Kd.R_mv HO_5.out) hb);replace BK106:=Aside0.mk (blk_below (blk_mv BK106.out) hb);replace HB:=Aside0.mk (below_step bel_ hb);(try clear hb);(try clear hb2);(try clear hk);(try clear hi);obtain ⟨Ao17,co17,eo17⟩:=Kd.R_slice HO_5.out;subst eo17));go_ret;exact ⟨by first|rfl|(simp [errW_none,errW_some] <;> rfl)|(simp [*,errW_none,errW_some] <;> rfl),bel_⟩
    ·replace c15:=Bool.eq_false_iff.mpr c15
     subst c15;have H1 : (none) = some r:=by rw [if_neg (show ¬ (false = true) by decide)] at H;exact H
     clear H;have H:=H1;clear H1;exact absurd H (by simp)
   ·replace c13:=Bool.eq_false_iff.mpr c13
    subst c13;have H1 : (if (t101.length : Int) = 0 then (changeforgelaw5_RolesChainsAreNested.j1 kj3 l0 a1 t101 true) else (if 0 < (t101.length : Int) then (changeforgelaw5_RolesChainsAreNested.j1 kj3 l0 a1 t101 ((rd t101 0) != 0)) else (none))) = some r:=by rw [if_neg (show ¬ (false = true) by decide)] at H;exact H
    clear H;have H:=H1;clear H1;have HC18:=Aside0.mk H;clear H;go_upto_region 4 with (fail);go_cut [35] (fun v35 wc => ∃ (kq : Nat) (x35_17 : Bool),v35 = .bool x35_17 ∧ Aside0 (changeforgelaw5_RolesChainsAreNested.j1 kq l0 a1 t101 x35_17 = some r) ∧ Aside0 (kq ≤ kj3) ∧ Aside0 (Kd.R (Kd.int .i64) 3 wc w.heap.size (fun _ => True) v102 t101) ∧ Aside0 (wc.heap[gb106]? = some (.cells #[.int .i64 t104,.int .i64 t105] 27 (0,0))) ∧ Aside0 (Below w.heap.size w wc))
    case first =>
     have H:=HC18.out;clear HC18;by_cases c19 : (t101.length : Int) = 0
     ·rw [if_pos c19] at H
      have c19b0 : ((t101.length : Int) == 0) = true:=beq_iff_eq.mpr c19;have c19b1 : ((t101.length : Int) != 0) = false:=bne_eq_false_iff_eq.mpr c19;clear c19;(first|rw [c19b0]|(simp only [i64_w,i32_w];rw [c19b0])|skip);have H':=Aside0.mk H;clear H;obtain ⟨Ao20,co20,eo20⟩:=Kd.R_slice HO_5.out;subst eo20;go_wp2;go_meet
      case rel => exact ⟨_,(true),fr_,H',⟨by have:=HJ3.out;first|omega|exact Nat.le_refl _⟩,⟨Kd.R_mv HO_5.out⟩,⟨blk_mv BK106.out⟩,⟨bel_⟩⟩
     ·rw [if_neg c19] at H
      have c19b0 : ((t101.length : Int) == 0) = false:=beq_eq_false_iff_ne.mpr c19;have c19b1 : ((t101.length : Int) != 0) = true:=bne_iff_ne.mpr c19;have c19b2 : ¬ (t101 = []):=fun h_ => c19 (by rw [h_];rfl);(first|rw [c19b0]|(simp only [i64_w,i32_w];rw [c19b0])|skip);by_cases c21 : 0 < (t101.length : Int)
      ·rw [if_pos c21] at H
       have c21b0 : decide (0 < (t101.length : Int)) = true:=decide_eq_true c21;have c21b1 : decide (0 < t101.length) = true:=decide_eq_true (by omega);clear c21;have H':=Aside0.mk H;clear H;obtain ⟨Ao22,co22,eo22⟩:=Kd.R_slice HO_5.out;subst eo22;have p109 : 0 ≤ (0 : Int):=(by omega);have q109 : 0 < (t101.length : Int):=of_decide_eq_true as_;obtain ⟨ad109,e109,hx109_0⟩:=Kd.at_int (Kd.R_reads' HO_5.out).2.2 0 p109 q109;cases e109
       have qi109 : (0 < t101.length) = True:=eq_true (by omega);(try rw [show ((0 : Int)).toNat = 0 from rfl] at hx109_0);(try rw [Addr.add_zero'] at hx109_0);replace p109:=eq_true p109;replace q109:=eq_true q109;go_wp2;go_meet
       case rel => exact ⟨_,(((rd t101 0) != 0)),fr_,H',⟨by have:=HJ3.out;first|omega|exact Nat.le_refl _⟩,⟨Kd.R_mv HO_5.out⟩,⟨blk_mv BK106.out⟩,⟨bel_⟩⟩
      ·rw [if_neg c21] at H
       exact absurd H (by simp)
    case rest =>
     clear HC18;(try clear c1);(try clear p1);(try clear q1);(try clear hx1);(try clear qi1);(try clear c2);(try clear p2);(try clear c4);(try clear c8);(try clear c9);(try clear p10);(try clear q10);(try clear hx10);(try clear qi10);(try clear c12);(try clear c13);(try clear c15);(try clear c19);(try clear c19b0);(try clear c19b1);(try clear c19b2);(try clear c21);(try clear c21b0);(try clear c21b1);(try clear hcz11_0);(try clear hcz11_1);(try clear hcz7_0);(try clear hcz7_1);(try clear hfz11_0);(try clear hfz11_1);(try clear hfz7_0);(try clear hfz7_1);(try clear hx109_0);(try clear p109);(try clear p2);(try clear q109);obtain ⟨kq,x35_17,rfl,HA,HJ17,HO_5,BK106,HB⟩:=hcut;cases kq with
     | zero => exact absurd HA.out (by simp [changeforgelaw5_RolesChainsAreNested.j1])
     | succ kj17 =>
      have H:=HA.out;clear HA;simp only [changeforgelaw5_RolesChainsAreNested.j1] at H;by_cases c23 : x35_17 = true
      ·subst c23
       have H1 : (none) = some r:=by rw [if_pos rfl] at H;exact H
       clear H;have H:=H1;clear H1;exact absurd H (by simp)
      ·replace c23:=Bool.eq_false_iff.mpr c23
       subst c23;have H1 : (changeforgelaw5_RolesChainsAreNested.l0 kj17 l0 a1 t101 0) = some r:=by rw [if_neg (show ¬ (false = true) by decide)] at H;exact H
       clear H;have H:=H1;clear H1;have H':=Aside0.mk H;clear H;go_wp2;go_loopg [7] kj17 (fun kq v7 w' => ∃ (x7_3 : Int),v7 = .int .i64 x7_3 ∧ Aside0 (changeforgelaw5_RolesChainsAreNested.l0 kq l0 a1 t101 x7_3 = some r) ∧ Aside0 (kq ≤ kj17) ∧ Aside0 (Kd.R (Kd.int .i64) 3 w' w.heap.size (fun _ => True) v102 t101) ∧ Aside0 (w'.heap[gb106]? = some (.cells #[.int .i64 t104,.int .i64 t105] 27 (0,0))) ∧ Aside0 (Below w.heap.size w w'))
       case atStart => exact ⟨(0),fr_,H',⟨Nat.le_refl _⟩,⟨Kd.R_mv HO_5.out⟩,⟨blk_mv BK106.out⟩,⟨bel_⟩⟩
       case round =>
        clear H';(try clear c1);(try clear p1);(try clear q1);(try clear hx1);(try clear qi1);(try clear c2);(try clear p2);(try clear c4);(try clear c8);(try clear c9);(try clear p10);(try clear q10);(try clear hx10);(try clear qi10);(try clear c12);(try clear c13);(try clear c15);(try clear c19);(try clear c19b0);(try clear c19b1);(try clear c19b2);(try clear c21);(try clear c21b0);(try clear c21b1);(try clear c23);(try clear hcz11_0);(try clear hcz11_1);(try clear hcz7_0);(try clear hcz7_1);(try clear hfz11_0);(try clear hfz11_1);(try clear hfz7_0);(try clear hfz7_1);(try clear hx109_0);(try clear p1);(try clear p10);(try clear p109);(try clear p2);(try clear q1);(try clear q10);(try clear q109);obtain ⟨x7_3,rfl,HA,HK3,HO_5,BK106,HB⟩:=hrel;cases gk with
        | zero => exact absurd HA.out (by simp [changeforgelaw5_RolesChainsAreNested.l0])
        | succ k3 =>
         have H:=HA.out;clear HA;simp only [changeforgelaw5_RolesChainsAreNested.l0] at H;by_cases c24 : x7_3 < (t101.length : Int)
         ·rw [if_pos c24] at H
          have c24b0 : decide (x7_3 < (t101.length : Int)) = true:=decide_eq_true c24;clear c24;have HC25:=Aside0.mk H;clear H;obtain ⟨Ao26,co26,eo26⟩:=Kd.R_slice HO_5.out;subst eo26;go_upto_region 9 with (fail);go_cut [63] (fun v63 wc => ∃ (kq : Nat) (x63_24 : Bool),v63 = .bool x63_24 ∧ Aside0 (changeforgelaw5_RolesChainsAreNested.j3 kq l0 a1 t101 x7_3 x63_24 = some r) ∧ Aside0 (kq ≤ k3) ∧ Aside0 (Kd.R (Kd.int .i64) 3 wc w.heap.size (fun _ => True) (.slice Ao26 t101.length co26) t101) ∧ Aside0 (wc.heap[gb106]? = some (.cells #[.int .i64 t104,.int .i64 t105] 27 (0,0))) ∧ Aside0 (Below w.heap.size w wc))
          case first =>
           have H:=HC25.out;clear HC25;by_cases c27 : 0 ≤ x7_3
           ·rw [if_pos c27] at H
            have c27b0 : decide (0 ≤ x7_3) = true:=decide_eq_true c27;clear c27;(first|rw [c27b0]|(simp only [i64_w,i32_w];rw [c27b0])|skip);replace H:=Option.bind_eq_some_iff.mp H;obtain ⟨t111,A280,H⟩:=H;replace H : (if t111 = true then (if 0 ≤ (rd t101 x7_3) then (if (rd t101 x7_3) < (l0.length : Int) then ((changeforgeref5_Starts.f a1 ((rd_T40 l0 (rd t101 x7_3)).f1)).bind fun t114 => (changeforgelaw5_RolesChainsAreNested.j3 k3 l0 a1 t101 x7_3 (!t114))) else (none)) else (none)) else (changeforgelaw5_RolesChainsAreNested.j3 k3 l0 a1 t101 x7_3 true)) = some r:=H;have A28:=Aside0.mk A280;clear A280;by_cases c29 : t111 = true
            ·subst c29
             have H1 : (if 0 ≤ (rd t101 x7_3) then (if (rd t101 x7_3) < (l0.length : Int) then ((changeforgeref5_Starts.f a1 ((rd_T40 l0 (rd t101 x7_3)).f1)).bind fun t114 => (changeforgelaw5_RolesChainsAreNested.j3 k3 l0 a1 t101 x7_3 (!t114))) else (none)) else (none)) = some r:=by rw [if_pos rfl] at H;exact H
             clear H;have H:=H1;clear H1;by_cases c30 : 0 ≤ (rd t101 x7_3)
             ·rw [if_pos c30] at H
              have c30b0 : decide (0 ≤ (rd t101 x7_3)) = true:=decide_eq_true c30;clear c30;by_cases c31 : (rd t101 x7_3) < (l0.length : Int)
              ·rw [if_pos c31] at H
               have c31b0 : decide ((rd t101 x7_3) < (l0.length : Int)) = true:=decide_eq_true c31;clear c31;replace H:=Option.bind_eq_some_iff.mp H;obtain ⟨t114,A320,H⟩:=H;replace H : (changeforgelaw5_RolesChainsAreNested.j3 k3 l0 a1 t101 x7_3 (!t114)) = some r:=H;have A32:=Aside0.mk A320;clear A320;have H':=Aside0.mk H;clear H;have p110 : 0 ≤ (x7_3 : Int):=of_decide_eq_true as_;have q110 : x7_3 < (t101.length : Int):=of_decide_eq_true as_;obtain ⟨ad110,e110,hx110_0⟩:=Kd.at_int (Kd.R_reads' HO_5.out).2.2 x7_3 p110 q110;cases e110
               replace p110:=eq_true p110;replace q110:=eq_true q110;go_wp2_with (first|((with_reducible refine gate_callee (f:=19) rfl ?_);refine goesL_ (some 49) rfl rfl Try.func19 (by kernel_rfl) rfl #[.int .i64 (rd t101 x7_3),.int .i64 0,.int .i64 (wrap64 ((l0.length : Int) - 1))] rfl ln_ ?_;(with_reducible refine (changeforgelaw5_in.calls (rd t101 x7_3) 0 (wrap64 ((l0.length : Int) - 1)) true _ A28.out).mono ?_);rintro e w' ⟨rfl,⟨nd,rfl⟩⟩;refine ⟨_,rfl,?_⟩;have p112 : 0 ≤ (x7_3 : Int):=of_decide_eq_true as_;have q112 : x7_3 < (t101.length : Int):=of_decide_eq_true as_;obtain ⟨ad112,e112,hx112_0⟩:=Kd.at_int (Kd.R_reads' HO_5.out).2.2 x7_3 p112 q112;obtain rfl : ad110 = ad112:=(by injection e112);replace p112:=eq_true p112;replace q112:=eq_true q112;have p113 : 0 ≤ ((rd t101 x7_3) : Int):=of_decide_eq_true as_;have q113 : (rd t101 x7_3) < (l0.length : Int):=of_decide_eq_true as_;obtain ⟨ad113,A113_2,c113_2,e113,hx113_0,hx113_1,hx113_2,hx113_3,hl113_2,hi113_2⟩:=at_T40 HR0.out (rd t101 x7_3) p113 q113;cases e113;replace hx113_0:=(HB.out.cell (World.block_lt_of_cell? w _ hx113_0)).trans hx113_0;replace hx113_1:=(HB.out.cell (World.block_lt_of_cell? w _ hx113_1)).trans hx113_1;replace hx113_2:=(HB.out.cell (World.block_lt_of_cell? w _ hx113_2)).trans hx113_2;replace hx113_3:=(HB.out.cell (World.block_lt_of_cell? w _ hx113_3)).trans hx113_3;have HR113_2:=Aside0.mk hi113_2;have HC113_2:=Aside0.mk hl113_2;clear hi113_2 hl113_2;replace p113:=eq_true p113;replace q113:=eq_true q113)|(go_at_call 20;(with_reducible refine (changeforgeref5_Starts.calls a1 ((rd_T40 l0 (rd t101 x7_3)).f1) t114 _ A32.out).mono ?_);rintro e w' ⟨rfl,⟨nd,rfl⟩⟩));go_meet
               case rel => exact ⟨_,(!t114),fr_,H',⟨by have:=HJ3.out;have:=HJ17.out;have:=HK3.out;first|omega|exact Nat.le_refl _⟩,⟨Kd.R_mv HO_5.out⟩,⟨blk_mv BK106.out⟩,⟨bel_⟩⟩
              ·rw [if_neg c31] at H
               exact absurd H (by simp)
             ·rw [if_neg c30] at H
              exact absurd H (by simp)
            ·replace c29:=Bool.eq_false_iff.mpr c29
             subst c29;have H1 : (changeforgelaw5_RolesChainsAreNested.j3 k3 l0 a1 t101 x7_3 true) = some r:=by rw [if_neg (show ¬ (false = true) by decide)] at H;exact H
             clear H;have H:=H1;clear H1;have H':=Aside0.mk H;clear H;have p110 : 0 ≤ (x7_3 : Int):=of_decide_eq_true as_;have q110 : x7_3 < (t101.length : Int):=of_decide_eq_true as_;obtain ⟨ad110,e110,hx110_0⟩:=Kd.at_int (Kd.R_reads' HO_5.out).2.2 x7_3 p110 q110;cases e110
             replace p110:=eq_true p110;replace q110:=eq_true q110;go_wp2_with (first|((with_reducible refine gate_callee (f:=19) rfl ?_);refine goesL_ (some 49) rfl rfl Try.func19 (by kernel_rfl) rfl #[.int .i64 (rd t101 x7_3),.int .i64 0,.int .i64 (wrap64 ((l0.length : Int) - 1))] rfl ln_ ?_;(with_reducible refine (changeforgelaw5_in.calls (rd t101 x7_3) 0 (wrap64 ((l0.length : Int) - 1)) false _ A28.out).mono ?_);rintro e w' ⟨rfl,⟨nd,rfl⟩⟩;refine ⟨_,rfl,?_⟩));go_meet
             case rel => exact ⟨_,(true),fr_,H',⟨by have:=HJ3.out;have:=HJ17.out;have:=HK3.out;first|omega|exact Nat.le_refl _⟩,⟨Kd.R_mv HO_5.out⟩,⟨blk_mv BK106.out⟩,⟨bel_⟩⟩
           ·rw [if_neg c27] at H
            exact absurd H (by simp)
          case rest =>
           clear HC25;(try clear c1);(try clear p1);(try clear q1);(try clear hx1);(try clear qi1);(try clear c2);(try clear p2);(try clear c3);(try clear c4);(try clear p6);(try clear c8);(try clear c9);(try clear p10);(try clear q10);(try clear hx10);(try clear qi10);(try clear c11);(try clear p11);(try clear q11);(try clear hx11);(try clear c12);(try clear c13);(try clear c15);(try clear c19);(try clear c19b0);(try clear c19b1);(try clear c19b2);(try clear c21);(try clear c21b0);(try clear c21b1);(try clear c23);(try clear c24);(try clear c24b0);(try clear c27);(try clear c27b0);(try clear c29);(try clear c30);(try clear c30b0);(try clear c31);(try clear c31b0);(try clear hcz11_0);(try clear hcz11_1);(try clear hcz7_0);(try clear hcz7_1);(try clear hfz11_0);(try clear hfz11_1);(try clear hfz7_0);(try clear hfz7_1);(try clear hx109_0);(try clear hx110_0);(try clear hx112_0);(try clear hx113_0);(try clear hx113_1);(try clear hx113_2);(try clear hx113_3);(try clear p1);(try clear p10);(try clear p109);(try clear p110);(try clear p112);(try clear p113);(try clear p2);(try clear q1);(try clear q10);(try clear q109);(try clear q110);(try clear q112);(try clear q113);obtain ⟨kq,x63_24,rfl,HA,HJ24,HO_5,BK106,HB⟩:=hcut;cases kq with
           | zero => exact absurd HA.out (by simp [changeforgelaw5_RolesChainsAreNested.j3])
           | succ kj24 =>
            have H:=HA.out;clear HA;simp only [changeforgelaw5_RolesChainsAreNested.j3] at H;by_cases c33 : x63_24 = true
            ·subst c33
             have H1 : (none) = some r:=by rw [if_pos rfl] at H;exact H
             clear H;have H:=H1;clear H1;exact absurd H (by simp)
            ·replace c33:=Bool.eq_false_iff.mpr c33
             subst c33;have H1 : (if x7_3 > 0 then (if 0 ≤ x7_3 then (if x7_3 < (t101.length : Int) then (if 0 ≤ (wrap64 (x7_3 - 1)) then (if (wrap64 (x7_3 - 1)) < (t101.length : Int) then (if (rd t101 x7_3) ≤ (rd t101 (wrap64 (x7_3 - 1))) then (none) else (if 0 ≤ (rd t101 x7_3) then (if (rd t101 x7_3) < (l0.length : Int) then (if ((rd_T40 l0 (rd t101 x7_3)).f0) = (rd t101 (wrap64 (x7_3 - 1))) then (if 0 ≤ (rd t101 (wrap64 (x7_3 - 1))) then (if (rd t101 (wrap64 (x7_3 - 1))) < (l0.length : Int) then ((changeforgeref5_Starts.f ((rd_T40 l0 (rd t101 x7_3)).f1) ((rd_T40 l0 (rd t101 (wrap64 (x7_3 - 1)))).f1)).bind fun t124 => (if t124 = true then (changeforgelaw5_RolesChainsAreNested.l0 kj24 l0 a1 t101 (wrap64 (x7_3 + 1))) else (none))) else (none)) else (none)) else (none)) else (none)) else (none))) else (none)) else (none)) else (none)) else (none)) else (changeforgelaw5_RolesChainsAreNested.l0 kj24 l0 a1 t101 (wrap64 (x7_3 + 1)))) = some r:=by rw [if_neg (show ¬ (false = true) by decide)] at H;exact H
             clear H;have H:=H1;clear H1;by_cases c34 : x7_3 > 0
             ·rw [if_pos c34] at H
              have c34b0 : decide (0 < x7_3) = true:=decide_eq_true c34;clear c34;by_cases c35 : 0 ≤ x7_3
              ·rw [if_pos c35] at H
               have c35b0 : decide (0 ≤ x7_3) = true:=decide_eq_true c35;clear c35;by_cases c36 : x7_3 < (t101.length : Int)
               ·rw [if_pos c36] at H
                have c36b0 : decide (x7_3 < (t101.length : Int)) = true:=decide_eq_true c36;clear c36;obtain ⟨ji37,hji37⟩ : ∃ j_ : Int,(wrap64 (x7_3 - 1)) = j_:=⟨_,rfl⟩;replace H : (if 0 ≤ (ji37) then (if (ji37) < (t101.length : Int) then (if (rd t101 x7_3) ≤ (rd t101 (ji37)) then (none) else (if 0 ≤ (rd t101 x7_3) then (if (rd t101 x7_3) < (l0.length : Int) then (if ((rd_T40 l0 (rd t101 x7_3)).f0) = (rd t101 (ji37)) then (if 0 ≤ (rd t101 (ji37)) then (if (rd t101 (ji37)) < (l0.length : Int) then ((changeforgeref5_Starts.f ((rd_T40 l0 (rd t101 x7_3)).f1) ((rd_T40 l0 (rd t101 (ji37))).f1)).bind fun t124 => (if t124 = true then (changeforgelaw5_RolesChainsAreNested.l0 kj24 l0 a1 t101 (wrap64 (x7_3 + 1))) else (none))) else (none)) else (none)) else (none)) else (none)) else (none))) else (none)) else (none)) = some r:=by first|(rw [hji37] at H;exact H)|(simp only [hji37] at H ⊢;exact H)
                have hji37w : (IntKind.i64.wrap (x7_3 - 1)) = ji37:=(i64_w _).trans hji37;by_cases c38 : 0 ≤ (ji37)
                ·rw [if_pos c38] at H
                 have c38b0 : decide (0 ≤ (ji37)) = true:=decide_eq_true c38;clear c38;by_cases c39 : (ji37) < (t101.length : Int)
                 ·rw [if_pos c39] at H
                  have c39b0 : decide ((ji37) < (t101.length : Int)) = true:=decide_eq_true c39;clear c39;by_cases c40 : (rd t101 x7_3) ≤ (rd t101 (ji37))
                  ·rw [if_pos c40] at H
                   exact absurd H (by simp)
                  ·rw [if_neg c40] at H
                   have c40b0 : decide ((rd t101 x7_3) ≤ (rd t101 (ji37))) = false:=decide_eq_false c40;clear c40;by_cases c41 : 0 ≤ (rd t101 x7_3)
                   ·rw [if_pos c41] at H
                    have c41b0 : decide (0 ≤ (rd t101 x7_3)) = true:=decide_eq_true c41;clear c41;by_cases c42 : (rd t101 x7_3) < (l0.length : Int)
                    ·rw [if_pos c42] at H
                     have c42b0 : decide ((rd t101 x7_3) < (l0.length : Int)) = true:=decide_eq_true c42;clear c42;by_cases c43 : ((rd_T40 l0 (rd t101 x7_3)).f0) = (rd t101 (ji37))
                     ·rw [if_pos c43] at H
                      have c43b0 : (((rd_T40 l0 (rd t101 x7_3)).f0) == (rd t101 (ji37))) = true:=beq_iff_eq.mpr c43;have c43b1 : (((rd_T40 l0 (rd t101 x7_3)).f0) != (rd t101 (ji37))) = false:=bne_eq_false_iff_eq.mpr c43;clear c43;by_cases c44 : 0 ≤ (rd t101 (ji37))
                      ·rw [if_pos c44] at H
                       have c44b0 : decide (0 ≤ (rd t101 (ji37))) = true:=decide_eq_true c44;clear c44;by_cases c45 : (rd t101 (ji37)) < (l0.length : Int)
                       ·rw [if_pos c45] at H
                        have c45b0 : decide ((rd t101 (ji37)) < (l0.length : Int)) = true:=decide_eq_true c45;clear c45;replace H:=Option.bind_eq_some_iff.mp H;obtain ⟨t124,A460,H⟩:=H;replace H : (if t124 = true then (changeforgelaw5_RolesChainsAreNested.l0 kj24 l0 a1 t101 (wrap64 (x7_3 + 1))) else (none)) = some r:=H;have A46:=Aside0.mk A460;clear A460;by_cases c47 : t124 = true
                        ·subst c47
                         have H1 : (changeforgelaw5_RolesChainsAreNested.l0 kj24 l0 a1 t101 (wrap64 (x7_3 + 1))) = some r:=by rw [if_pos rfl] at H;exact H
                         clear H;have H:=H1;clear H1;have H':=Aside0.mk H;clear H;try go_wp2
                         replace HO_5:=Aside0.mk (Kd.R_drew HO_5.out);replace BK106:=Aside0.mk (blk_drew BK106.out);replace HB:=Aside0.mk (below_drew1 HB.out);have p115 : 0 ≤ (x7_3 : Int):=of_decide_eq_true as_;have q115 : x7_3 < (t101.length : Int):=of_decide_eq_true as_;obtain ⟨ad115,e115,hx115_0⟩:=Kd.at_int (Kd.R_reads' HO_5.out).2.2 x7_3 p115 q115;cases e115
                         replace p115:=eq_true p115;replace q115:=eq_true q115;have p116 : 0 ≤ ((ji37) : Int):=of_decide_eq_true as_;have q116 : (ji37) < (t101.length : Int):=of_decide_eq_true as_;obtain ⟨ad116,e116,hx116_0⟩:=Kd.at_int (Kd.R_reads' HO_5.out).2.2 (ji37) p116 q116;obtain rfl : ad115 = ad116:=(by injection e116);replace p116:=eq_true p116;replace q116:=eq_true q116;have p117 : 0 ≤ (x7_3 : Int):=of_decide_eq_true as_;have q117 : x7_3 < (t101.length : Int):=of_decide_eq_true as_;obtain ⟨ad117,e117,hx117_0⟩:=Kd.at_int (Kd.R_reads' HO_5.out).2.2 x7_3 p117 q117;obtain rfl : ad115 = ad117:=(by injection e117);replace p117:=eq_true p117;replace q117:=eq_true q117;have p118 : 0 ≤ ((rd t101 x7_3) : Int):=of_decide_eq_true as_;have q118 : (rd t101 x7_3) < (l0.length : Int):=of_decide_eq_true as_;obtain ⟨ad118,A118_2,c118_2,e118,hx118_0,hx118_1,hx118_2,hx118_3,hl118_2,hi118_2⟩:=at_T40 HR0.out (rd t101 x7_3) p118 q118;have hw118_3:=hx118_3;have hw118_2:=hx118_2;have hw118_1:=hx118_1;have hw118_0:=hx118_0;cases e118
                         replace hx118_0:=(HB.out.cell (World.block_lt_of_cell? w _ hx118_0)).trans hx118_0;replace hx118_1:=(HB.out.cell (World.block_lt_of_cell? w _ hx118_1)).trans hx118_1;replace hx118_2:=(HB.out.cell (World.block_lt_of_cell? w _ hx118_2)).trans hx118_2;replace hx118_3:=(HB.out.cell (World.block_lt_of_cell? w _ hx118_3)).trans hx118_3;have HR118_2:=Aside0.mk hi118_2;have HC118_2:=Aside0.mk hl118_2;clear hi118_2 hl118_2;replace p118:=eq_true p118;replace q118:=eq_true q118;have p119 : 0 ≤ ((ji37) : Int):=of_decide_eq_true as_;have q119 : (ji37) < (t101.length : Int):=of_decide_eq_true as_;obtain ⟨ad119,e119,hx119_0⟩:=Kd.at_int (Kd.R_reads' HO_5.out).2.2 (ji37) p119 q119;obtain rfl : ad115 = ad119:=(by injection e119);replace p119:=eq_true p119;replace q119:=eq_true q119;have p120 : 0 ≤ (x7_3 : Int):=of_decide_eq_true as_;have q120 : x7_3 < (t101.length : Int):=of_decide_eq_true as_;obtain ⟨ad120,e120,hx120_0⟩:=Kd.at_int (Kd.R_reads' HO_5.out).2.2 x7_3 p120 q120;obtain rfl : ad115 = ad120:=(by injection e120);replace p120:=eq_true p120;replace q120:=eq_true q120;have p121 : 0 ≤ ((rd t101 x7_3) : Int):=of_decide_eq_true as_;have q121 : (rd t101 x7_3) < (l0.length : Int):=of_decide_eq_true as_;obtain ⟨ad121,A121_2,c121_2,e121,hx121_0,hx121_1,hx121_2,hx121_3,hl121_2,hi121_2⟩:=at_T40 HR0.out (rd t101 x7_3) p121 q121;have hw121_3:=hx121_3;have hw121_2:=hx121_2;have hw121_1:=hx121_1;have hw121_0:=hx121_0;obtain rfl : ad118 = ad121:=(by injection e121);replace hx121_0:=(HB.out.cell (World.block_lt_of_cell? w _ hx121_0)).trans hx121_0;replace hx121_1:=(HB.out.cell (World.block_lt_of_cell? w _ hx121_1)).trans hx121_1;replace hx121_2:=(HB.out.cell (World.block_lt_of_cell? w _ hx121_2)).trans hx121_2;replace hx121_3:=(HB.out.cell (World.block_lt_of_cell? w _ hx121_3)).trans hx121_3;have HR121_2:=Aside0.mk hi121_2;have HC121_2:=Aside0.mk hl121_2;clear hi121_2 hl121_2;replace p121:=eq_true p121;replace q121:=eq_true q121;have ea_:=Option.some.inj (hx118_2.symm.trans hx121_2);injection ea_ with ea_ en_ ec_;subst ea_;subst ec_;clear en_;have p122 : 0 ≤ ((ji37) : Int):=of_decide_eq_true as_;have q122 : (ji37) < (t101.length : Int):=of_decide_eq_true as_;obtain ⟨ad122,e122,hx122_0⟩:=Kd.at_int (Kd.R_reads' HO_5.out).2.2 (ji37) p122 q122;obtain rfl : ad115 = ad122:=(by injection e122);replace p122:=eq_true p122;replace q122:=eq_true q122;have p123 : 0 ≤ ((rd t101 (ji37)) : Int):=of_decide_eq_true as_;have q123 : (rd t101 (ji37)) < (l0.length : Int):=of_decide_eq_true as_;obtain ⟨ad123,A123_2,c123_2,e123,hx123_0,hx123_1,hx123_2,hx123_3,hl123_2,hi123_2⟩:=at_T40 HR0.out (rd t101 (ji37)) p123 q123;have hw123_3:=hx123_3;have hw123_2:=hx123_2;have hw123_1:=hx123_1;have hw123_0:=hx123_0;obtain rfl : ad118 = ad123:=(by injection e123);replace hx123_0:=(HB.out.cell (World.block_lt_of_cell? w _ hx123_0)).trans hx123_0;replace hx123_1:=(HB.out.cell (World.block_lt_of_cell? w _ hx123_1)).trans hx123_1;replace hx123_2:=(HB.out.cell (World.block_lt_of_cell? w _ hx123_2)).trans hx123_2;replace hx123_3:=(HB.out.cell (World.block_lt_of_cell? w _ hx123_3)).trans hx123_3;have HR123_2:=Aside0.mk hi123_2;have HC123_2:=Aside0.mk hl123_2;clear hi123_2 hl123_2;replace p123:=eq_true p123;replace q123:=eq_true q123;refine start_ (n:=51) (S:=fun w' => w'.cell? (ad115.add (x7_3).toNat) = some (.int .i64 (rd t101 x7_3)) ∧ w'.cell? (ad115.add ((ji37)).toNat) = some (.int .i64 (rd t101 (ji37))) ∧ w'.cell? (ad115.add (x7_3).toNat) = some (.int .i64 (rd t101 x7_3)) ∧ w'.cell? (ad118.add (((rd t101 x7_3)).toNat * 4)) = some (.int .i64 ((rd_T40 l0 (rd t101 x7_3)).f0)) ∧ w'.cell? ⟨(ad118.add (((rd t101 x7_3)).toNat * 4)).block,(ad118.add (((rd t101 x7_3)).toNat * 4)).off + 1,none⟩ = some (.string ((rd_T40 l0 (rd t101 x7_3)).f1)) ∧ w'.cell? ⟨(ad118.add (((rd t101 x7_3)).toNat * 4)).block,(ad118.add (((rd t101 x7_3)).toNat * 4)).off + 2,none⟩ = some (.slice A118_2 ((rd_T40 l0 (rd t101 x7_3)).f2).length c118_2) ∧ w'.cell? ⟨(ad118.add (((rd t101 x7_3)).toNat * 4)).block,(ad118.add (((rd t101 x7_3)).toNat * 4)).off + 3,none⟩ = some (.int .i64 ((rd_T40 l0 (rd t101 x7_3)).f3)) ∧ w'.cell? (ad115.add ((ji37)).toNat) = some (.int .i64 (rd t101 (ji37))) ∧ w'.cell? (ad115.add (x7_3).toNat) = some (.int .i64 (rd t101 x7_3)) ∧ w'.cell? (ad118.add (((rd t101 x7_3)).toNat * 4)) = some (.int .i64 ((rd_T40 l0 (rd t101 x7_3)).f0)) ∧ w'.cell? ⟨(ad118.add (((rd t101 x7_3)).toNat * 4)).block,(ad118.add (((rd t101 x7_3)).toNat * 4)).off + 1,none⟩ = some (.string ((rd_T40 l0 (rd t101 x7_3)).f1)) ∧ w'.cell? ⟨(ad118.add (((rd t101 x7_3)).toNat * 4)).block,(ad118.add (((rd t101 x7_3)).toNat * 4)).off + 2,none⟩ = some (.slice A118_2 ((rd_T40 l0 (rd t101 x7_3)).f2).length c118_2) ∧ w'.cell? ⟨(ad118.add (((rd t101 x7_3)).toNat * 4)).block,(ad118.add (((rd t101 x7_3)).toNat * 4)).off + 3,none⟩ = some (.int .i64 ((rd_T40 l0 (rd t101 x7_3)).f3)) ∧ w'.cell? (ad115.add ((ji37)).toNat) = some (.int .i64 (rd t101 (ji37))) ∧ w'.cell? (ad118.add (((rd t101 (ji37))).toNat * 4)) = some (.int .i64 ((rd_T40 l0 (rd t101 (ji37))).f0)) ∧ w'.cell? ⟨(ad118.add (((rd t101 (ji37))).toNat * 4)).block,(ad118.add (((rd t101 (ji37))).toNat * 4)).off + 1,none⟩ = some (.string ((rd_T40 l0 (rd t101 (ji37))).f1)) ∧ w'.cell? ⟨(ad118.add (((rd t101 (ji37))).toNat * 4)).block,(ad118.add (((rd t101 (ji37))).toNat * 4)).off + 2,none⟩ = some (.slice A123_2 ((rd_T40 l0 (rd t101 (ji37))).f2).length c123_2) ∧ w'.cell? ⟨(ad118.add (((rd t101 (ji37))).toNat * 4)).block,(ad118.add (((rd t101 (ji37))).toNat * 4)).off + 3,none⟩ = some (.int .i64 ((rd_T40 l0 (rd t101 (ji37))).f3))) (ds:=[]) (bl_ 51 0) (by kernel_rfl) rfl rfl ⟨hx115_0,hx116_0,hx117_0,((HB.out.cell (World.block_lt_of_cell? w _ hw118_0)).trans hw118_0),((HB.out.cell (World.block_lt_of_cell? w _ hw118_1)).trans hw118_1),((HB.out.cell (World.block_lt_of_cell? w _ hw118_2)).trans hw118_2),((HB.out.cell (World.block_lt_of_cell? w _ hw118_3)).trans hw118_3),hx119_0,hx120_0,((HB.out.cell (World.block_lt_of_cell? w _ hw121_0)).trans hw121_0),((HB.out.cell (World.block_lt_of_cell? w _ hw121_1)).trans hw121_1),((HB.out.cell (World.block_lt_of_cell? w _ hw121_2)).trans hw121_2),((HB.out.cell (World.block_lt_of_cell? w _ hw121_3)).trans hw121_3),hx122_0,((HB.out.cell (World.block_lt_of_cell? w _ hw123_0)).trans hw123_0),((HB.out.cell (World.block_lt_of_cell? w _ hw123_1)).trans hw123_1),((HB.out.cell (World.block_lt_of_cell? w _ hw123_2)).trans hw123_2),((HB.out.cell (World.block_lt_of_cell? w _ hw123_3)).trans hw123_3)⟩ (fun hHeld => ?_);refine with_tabW changeforgelaw5_RolesChainsAreNested.tab11 changeforgelaw5_RolesChainsAreNested.bits11 (fun HT_ HW_ => ?_);generalize wc.drew = w48 at HO_5 BK106 HB HR118_2 HR121_2 HR123_2 hx115_0 hx116_0 hx117_0 hx118_0 hx118_1 hx118_2 hx118_3 hx119_0 hx120_0 hx121_0 hx121_1 hx121_2 hx121_3 hx122_0 hx123_0 hx123_1 hx123_2 hx123_3 hHeld ⊢;refine pu_ (v:=?_) (a':=?_) 0 64 (bl_ 51 1) rfl rfl HT_.out ?_ ?_ ?_;rotate_left
                         ·intro w'
                          go_simp;with_reducible rfl
                         rotate_left
                         ·simp only [Act.put,sa_,sb_,sc_,i64_w,i32_w]
                          rfl
                         refine pu_ (v:=?_) (a':=?_) 1 65 (bl_ 51 3) rfl rfl HT_.out ?_ ?_ ?_;rotate_left
                         ·intro w'
                          go_simp;with_reducible rfl
                         rotate_left
                         ·simp only [Act.put,sa_,sb_,sc_,i64_w,i32_w]
                          rfl
                         refine pu_ (v:=?_) (a':=?_) 2 66 (bl_ 51 7) rfl rfl HT_.out ?_ ?_ ?_;rotate_left
                         ·intro w'
                          go_simp;with_reducible rfl
                         rotate_left
                         ·simp only [Act.put,sa_,sb_,sc_,i64_w,i32_w]
                          rfl
                         refine pu_ (v:=?_) (a':=?_) 3 67 (bl_ 51 15) rfl rfl HT_.out ?_ ?_ ?_;rotate_left
                         ·intro w'
                          go_simp;with_reducible rfl
                         rotate_left
                         ·simp only [Act.put,sa_,sb_,sc_,i64_w,i32_w]
                          rfl
                         refine pu_ (v:=?_) (a':=?_) 4 68 (bl_ 51 31) rfl rfl HT_.out ?_ ?_ ?_;rotate_left
                         ·intro w'
                          go_simp;with_reducible rfl
                         rotate_left
                         ·simp only [Act.put,sa_,sb_,sc_,i64_w,i32_w]
                          rfl
                         refine pu_ (v:=?_) (a':=?_) 5 69 (bl_ 51 63) rfl rfl HT_.out ?_ ?_ ?_;rotate_left
                         ·intro w'
                          go_simp;with_reducible rfl
                         rotate_left
                         ·simp only [Act.put,sa_,sb_,sc_,i64_w,i32_w]
                          rfl
                         refine pu_ (v:=?_) (a':=?_) 7 71 (bl_ 51 191) rfl rfl HT_.out ?_ ?_ ?_;rotate_left
                         ·intro w'
                          go_simp;with_reducible rfl
                         rotate_left
                         ·simp only [Act.put,sa_,sb_,sc_,i64_w,i32_w]
                          rfl
                         refine pu_ (v:=?_) (a':=?_) 8 72 (bl_ 51 447) rfl rfl HT_.out ?_ ?_ ?_;rotate_left
                         ·intro w'
                          go_simp;with_reducible rfl
                         rotate_left
                         ·simp only [Act.put,sa_,sb_,sc_,i64_w,i32_w]
                          rfl
                         refine pu_ (v:=?_) (a':=?_) 9 73 (bl_ 51 959) rfl rfl HT_.out ?_ ?_ ?_;rotate_left
                         ·intro w'
                          go_simp;with_reducible rfl
                         rotate_left
                         ·simp only [Act.put,sa_,sb_,sc_,i64_w,i32_w]
                          rfl
                         refine pu_ (v:=?_) (a':=?_) 10 74 (bl_ 51 1983) rfl rfl HT_.out ?_ ?_ ?_;rotate_left
                         ·intro w'
                          go_simp;with_reducible rfl
                         rotate_left
                         ·simp only [Act.put,sa_,sb_,sc_,i64_w,i32_w]
                          rfl
                         refine tk_ (v:=?_) (a':=?_) 6 70 (bl_ 51 2047) rfl rfl HT_.out HW_.out ?_ hHeld ?_ ?_;rotate_left
                         ·rintro w' ⟨s0,s1,s2,s3,s4,s5,s6,s7,s8,s9,s10,s11,s12,s13,s14,s15,s16,s17⟩
                          go_simp;with_reducible rfl
                         rotate_left
                         ·simp only [Act.put,sa_,sb_,sc_,i64_w,i32_w]
                          rfl
                         refine tk_ (v:=?_) (a':=?_) 11 75 (bl_ 51 4095) rfl rfl HT_.out HW_.out ?_ hHeld ?_ ?_;rotate_left
                         ·rintro w' ⟨s0,s1,s2,s3,s4,s5,s6,s7,s8,s9,s10,s11,s12,s13,s14,s15,s16,s17⟩
                          go_simp;with_reducible rfl
                         rotate_left
                         ·simp only [Act.put,sa_,sb_,sc_,i64_w,i32_w]
                          rfl
                         refine pu_ (v:=?_) (a':=?_) 12 76 (bl_ 51 8191) rfl rfl HT_.out ?_ ?_ ?_;rotate_left
                         ·intro w'
                          go_simp;with_reducible rfl
                         rotate_left
                         ·simp only [Act.put,sa_,sb_,sc_,i64_w,i32_w]
                          rfl
                         refine pu_ (v:=?_) (a':=?_) 13 77 (bl_ 51 16383) rfl rfl HT_.out ?_ ?_ ?_;rotate_left
                         ·intro w'
                          go_simp;with_reducible rfl
                         rotate_left
                         ·simp only [Act.put,sa_,sb_,sc_,i64_w,i32_w]
                          rfl
                         refine pu_ (v:=?_) (a':=?_) 14 78 (bl_ 51 32767) rfl rfl HT_.out ?_ ?_ ?_;rotate_left
                         ·intro w'
                          go_simp;with_reducible rfl
                         rotate_left
                         ·simp only [Act.put,sa_,sb_,sc_,i64_w,i32_w]
                          rfl
                         refine pu_ (v:=?_) (a':=?_) 15 79 (bl_ 51 65535) rfl rfl HT_.out ?_ ?_ ?_;rotate_left
                         ·intro w'
                          go_simp;with_reducible rfl
                         rotate_left
                         ·simp only [Act.put,sa_,sb_,sc_,i64_w,i32_w]
                          rfl
                         refine pu_ (v:=?_) (a':=?_) 16 80 (bl_ 51 131071) rfl rfl HT_.out ?_ ?_ ?_;rotate_left
                         ·intro w'
                          go_simp;with_reducible rfl
                         rotate_left
                         ·simp only [Act.put,sa_,sb_,sc_,i64_w,i32_w]
                          rfl
                         refine pu_ (v:=?_) (a':=?_) 17 81 (bl_ 51 262143) rfl rfl HT_.out ?_ ?_ ?_;rotate_left
                         ·intro w'
                          go_simp;with_reducible rfl
                         rotate_left
                         ·simp only [Act.put,sa_,sb_,sc_,i64_w,i32_w]
                          rfl
                         refine pu_ (v:=?_) (a':=?_) 22 86 (bl_ 51 4456447) rfl rfl HT_.out ?_ ?_ ?_;rotate_left
                         ·intro w'
                          go_simp;with_reducible rfl
                         rotate_left
                         ·simp only [Act.put,sa_,sb_,sc_,i64_w,i32_w]
                          rfl
                         refine pu_ (v:=?_) (a':=?_) 23 87 (bl_ 51 12845055) rfl rfl HT_.out ?_ ?_ ?_;rotate_left
                         ·intro w'
                          go_simp;with_reducible rfl
                         rotate_left
                         ·simp only [Act.put,sa_,sb_,sc_,i64_w,i32_w]
                          rfl
                         refine pu_ (v:=?_) (a':=?_) 24 88 (bl_ 51 29622271) rfl rfl HT_.out ?_ ?_ ?_;rotate_left
                         ·intro w'
                          go_simp;with_reducible rfl
                         rotate_left
                         ·simp only [Act.put,sa_,sb_,sc_,i64_w,i32_w]
                          rfl
                         refine pu_ (v:=?_) (a':=?_) 25 89 (bl_ 51 63176703) rfl rfl HT_.out ?_ ?_ ?_;rotate_left
                         ·intro w'
                          go_simp;with_reducible rfl
                         rotate_left
                         ·simp only [Act.put,sa_,sb_,sc_,i64_w,i32_w]
                          rfl
                         refine tk_ (v:=?_) (a':=?_) 18 82 (bl_ 51 63438847) rfl rfl HT_.out HW_.out ?_ hHeld ?_ ?_;rotate_left
                         ·rintro w' ⟨s0,s1,s2,s3,s4,s5,s6,s7,s8,s9,s10,s11,s12,s13,s14,s15,s16,s17⟩
                          go_simp;with_reducible rfl
                         rotate_left
                         ·simp only [Act.put,sa_,sb_,sc_,i64_w,i32_w]
                          rfl
                         refine pu_ (v:=?_) (a':=?_) 19 83 (bl_ 51 63963135) rfl rfl HT_.out ?_ ?_ ?_;rotate_left
                         ·intro w'
                          go_simp;with_reducible rfl
                         rotate_left
                         ·simp only [Act.put,sa_,sb_,sc_,i64_w,i32_w]
                          rfl
                         refine pu_ (v:=?_) (a':=?_) 20 84 (bl_ 51 65011711) rfl rfl HT_.out ?_ ?_ ?_;rotate_left
                         ·intro w'
                          go_simp;with_reducible rfl
                         rotate_left
                         ·simp only [Act.put,sa_,sb_,sc_,i64_w,i32_w]
                          rfl
                         refine tk_ (v:=?_) (a':=?_) 21 85 (bl_ 51 67108863) rfl rfl HT_.out HW_.out ?_ hHeld ?_ ?_;rotate_left
                         ·rintro w' ⟨s0,s1,s2,s3,s4,s5,s6,s7,s8,s9,s10,s11,s12,s13,s14,s15,s16,s17⟩
                          go_simp;with_reducible rfl
                         rotate_left
                         ·simp only [Act.put,sa_,sb_,sc_,i64_w,i32_w]
                          rfl
                         refine tk_ (v:=?_) (a':=?_) 26 90 (bl_ 51 134217727) rfl rfl HT_.out HW_.out ?_ hHeld ?_ ?_;rotate_left
                         ·rintro w' ⟨s0,s1,s2,s3,s4,s5,s6,s7,s8,s9,s10,s11,s12,s13,s14,s15,s16,s17⟩
                          go_simp;with_reducible rfl
                         rotate_left
                         ·simp only [Act.put,sa_,sb_,sc_,i64_w,i32_w]
                          rfl
                         refine pu_ (v:=?_) (a':=?_) 27 91 (bl_ 51 268435455) rfl rfl HT_.out ?_ ?_ ?_;rotate_left
                         ·intro w'
                          go_simp;with_reducible rfl
                         rotate_left
                         ·simp only [Act.put,sa_,sb_,sc_,i64_w,i32_w]
                          rfl
                         refine pu_ (v:=?_) (a':=?_) 28 92 (bl_ 51 536870911) rfl rfl HT_.out ?_ ?_ ?_;rotate_left
                         ·intro w'
                          go_simp;with_reducible rfl
                         rotate_left
                         ·simp only [Act.put,sa_,sb_,sc_,i64_w,i32_w]
                          rfl
                         refine pu_ (v:=?_) (a':=?_) 29 93 (bl_ 51 1073741823) rfl rfl HT_.out ?_ ?_ ?_;rotate_left
                         ·intro w'
                          go_simp;with_reducible rfl
                         rotate_left
                         ·simp only [Act.put,sa_,sb_,sc_,i64_w,i32_w]
                          rfl
                         refine pu_ (v:=?_) (a':=?_) 30 94 (bl_ 51 2147483647) rfl rfl HT_.out ?_ ?_ ?_;rotate_left
                         ·intro w'
                          go_simp;with_reducible rfl
                         rotate_left
                         ·simp only [Act.put,sa_,sb_,sc_,i64_w,i32_w]
                          rfl
                         refine pu_ (v:=?_) (a':=?_) 31 95 (bl_ 51 4294967295) rfl rfl HT_.out ?_ ?_ ?_;rotate_left
                         ·intro w'
                          go_simp;with_reducible rfl
                         rotate_left
                         ·simp only [Act.put,sa_,sb_,sc_,i64_w,i32_w]
                          rfl
                         refine pu_ (v:=?_) (a':=?_) 32 96 (bl_ 51 8589934591) rfl rfl HT_.out ?_ ?_ ?_;rotate_left
                         ·intro w'
                          go_simp;with_reducible rfl
                         rotate_left
                         ·simp only [Act.put,sa_,sb_,sc_,i64_w,i32_w]
                          rfl
                         refine pu_ (v:=?_) (a':=?_) 33 97 (bl_ 51 17179869183) rfl rfl HT_.out ?_ ?_ ?_;rotate_left
                         ·intro w'
                          go_simp;with_reducible rfl
                         rotate_left
                         ·simp only [Act.put,sa_,sb_,sc_,i64_w,i32_w]
                          rfl
                         refine pu_ (v:=?_) (a':=?_) 38 102 (bl_ 51 292057776127) rfl rfl HT_.out ?_ ?_ ?_;rotate_left
                         ·intro w'
                          go_simp;with_reducible rfl
                         rotate_left
                         ·simp only [Act.put,sa_,sb_,sc_,i64_w,i32_w]
                          rfl
                         refine pu_ (v:=?_) (a':=?_) 39 103 (bl_ 51 841813590015) rfl rfl HT_.out ?_ ?_ ?_;rotate_left
                         ·intro w'
                          go_simp;with_reducible rfl
                         rotate_left
                         ·simp only [Act.put,sa_,sb_,sc_,i64_w,i32_w]
                          rfl
                         refine pu_ (v:=?_) (a':=?_) 40 104 (bl_ 51 1941325217791) rfl rfl HT_.out ?_ ?_ ?_;rotate_left
                         ·intro w'
                          go_simp;with_reducible rfl
                         rotate_left
                         ·simp only [Act.put,sa_,sb_,sc_,i64_w,i32_w]
                          rfl
                         refine pu_ (v:=?_) (a':=?_) 41 105 (bl_ 51 4140348473343) rfl rfl HT_.out ?_ ?_ ?_;rotate_left
                         ·intro w'
                          go_simp;with_reducible rfl
                         rotate_left
                         ·simp only [Act.put,sa_,sb_,sc_,i64_w,i32_w]
                          rfl
                         refine pu_ (v:=?_) (a':=?_) 42 106 (bl_ 51 8538394984447) rfl rfl HT_.out ?_ ?_ ?_;rotate_left
                         ·intro w'
                          go_simp;with_reducible rfl
                         rotate_left
                         ·simp only [Act.put,sa_,sb_,sc_,i64_w,i32_w]
                          rfl
                         refine tk_ (v:=?_) (a':=?_) 34 98 (bl_ 51 8555574853631) rfl rfl HT_.out HW_.out ?_ hHeld ?_ ?_;rotate_left
                         ·rintro w' ⟨s0,s1,s2,s3,s4,s5,s6,s7,s8,s9,s10,s11,s12,s13,s14,s15,s16,s17⟩
                          go_simp;with_reducible rfl
                         rotate_left
                         ·simp only [Act.put,sa_,sb_,sc_,i64_w,i32_w]
                          rfl
                         refine pu_ (v:=?_) (a':=?_) 35 99 (bl_ 51 8589934591999) rfl rfl HT_.out ?_ ?_ ?_;rotate_left
                         ·intro w'
                          go_simp;with_reducible rfl
                         rotate_left
                         ·simp only [Act.put,sa_,sb_,sc_,i64_w,i32_w]
                          rfl
                         refine pu_ (v:=?_) (a':=?_) 36 100 (bl_ 51 8658654068735) rfl rfl HT_.out ?_ ?_ ?_;rotate_left
                         ·intro w'
                          go_simp;with_reducible rfl
                         rotate_left
                         ·simp only [Act.put,sa_,sb_,sc_,i64_w,i32_w]
                          rfl
                         refine tk_ (v:=?_) (a':=?_) 37 101 (bl_ 51 8796093022207) rfl rfl HT_.out HW_.out ?_ hHeld ?_ ?_;rotate_left
                         ·rintro w' ⟨s0,s1,s2,s3,s4,s5,s6,s7,s8,s9,s10,s11,s12,s13,s14,s15,s16,s17⟩
                          go_simp;with_reducible rfl
                         rotate_left
                         ·simp only [Act.put,sa_,sb_,sc_,i64_w,i32_w]
                          rfl
                         refine tk_ (v:=?_) (a':=?_) 43 107 (bl_ 51 17592186044415) rfl rfl HT_.out HW_.out ?_ hHeld ?_ ?_;rotate_left
                         ·rintro w' ⟨s0,s1,s2,s3,s4,s5,s6,s7,s8,s9,s10,s11,s12,s13,s14,s15,s16,s17⟩
                          go_simp;with_reducible rfl
                         rotate_left
                         ·simp only [Act.put,sa_,sb_,sc_,i64_w,i32_w]
                          rfl
                         refine pu_ (v:=?_) (a':=?_) 44 108 (bl_ 51 35184372088831) rfl rfl HT_.out ?_ ?_ ?_;rotate_left
                         ·intro w'
                          go_simp;with_reducible rfl
                         rotate_left
                         ·simp only [Act.put,sa_,sb_,sc_,i64_w,i32_w]
                          rfl
                         refine pu_ (v:=?_) (a':=?_) 45 109 (bl_ 51 70368744177663) rfl rfl HT_.out ?_ ?_ ?_;rotate_left
                         ·intro w'
                          go_simp;with_reducible rfl
                         rotate_left
                         ·simp only [Act.put,sa_,sb_,sc_,i64_w,i32_w]
                          rfl
                         refine tk_ (v:=?_) (a':=?_) 46 110 (bl_ 51 140737488355327) rfl rfl HT_.out HW_.out ?_ hHeld ?_ ?_;rotate_left
                         ·rintro w' ⟨s0,s1,s2,s3,s4,s5,s6,s7,s8,s9,s10,s11,s12,s13,s14,s15,s16,s17⟩
                          go_simp;with_reducible rfl
                         rotate_left
                         ·simp only [Act.put,sa_,sb_,sc_,i64_w,i32_w]
                          rfl
                         refine one_ (i:=47) (N:=some 111) (bl_ 51 281474976710655) rfl rfl (one_of HT_.out (by kernel_rfl)) (by decide) (fun K hK => ?_);refine goes_ Try.func20 (by kernel_rfl) rfl #[.string ((rd_T40 l0 (rd t101 x7_3)).f1),.string ((rd_T40 l0 (rd t101 (ji37))).f1)] (by rfl) rfl rfl (by (try simp only [List.map_toArray,List.map_cons,List.map_nil]);first|done|(simp only [hji37];rfl)|rfl|(simp only [List.length_drop,List.length_take];rfl)) ?_;with_reducible refine (changeforgeref5_Starts.calls ((rd_T40 l0 (rd t101 x7_3)).f1) ((rd_T40 l0 (rd t101 (ji37))).f1) true _ A46.out).mono ?_
                         rintro e w' ⟨rfl,⟨nd,rfl⟩⟩;refine ⟨_,rfl,?_⟩;refine hK.out _ _ ⟨hHeld.1,hHeld.2.1,hHeld.2.2.1,((HB.out.cell (World.block_lt_of_cell? w _ hw118_0)).trans hw118_0),((HB.out.cell (World.block_lt_of_cell? w _ hw118_1)).trans hw118_1),((HB.out.cell (World.block_lt_of_cell? w _ hw118_2)).trans hw118_2),((HB.out.cell (World.block_lt_of_cell? w _ hw118_3)).trans hw118_3),hHeld.2.2.2.2.2.2.2.1,hHeld.2.2.2.2.2.2.2.2.1,((HB.out.cell (World.block_lt_of_cell? w _ hw121_0)).trans hw121_0),((HB.out.cell (World.block_lt_of_cell? w _ hw121_1)).trans hw121_1),((HB.out.cell (World.block_lt_of_cell? w _ hw121_2)).trans hw121_2),((HB.out.cell (World.block_lt_of_cell? w _ hw121_3)).trans hw121_3),hHeld.2.2.2.2.2.2.2.2.2.2.2.2.2.1,((HB.out.cell (World.block_lt_of_cell? w _ hw123_0)).trans hw123_0),((HB.out.cell (World.block_lt_of_cell? w _ hw123_1)).trans hw123_1),((HB.out.cell (World.block_lt_of_cell? w _ hw123_2)).trans hw123_2),((HB.out.cell (World.block_lt_of_cell? w _ hw123_3)).trans hw123_3)⟩ (fun hHeld => ?_);clear hK K;refine norm_ (a':=?_) ?_ ?_;rotate_left
                         ·show Act.put _ (some 111) _ = _
                          simp only [Act.put,sa_,sb_,sc_,i64_w,i32_w];rfl
                         refine pu_ (v:=?_) (a':=?_) 48 112 (bl_ 51 562949953421311) rfl rfl HT_.out ?_ ?_ ?_;rotate_left
                         ·intro w'
                          go_simp;with_reducible rfl
                         rotate_left
                         ·simp only [Act.put,sa_,sb_,sc_,i64_w,i32_w]
                          rfl
                         refine pu_ (v:=?_) (a':=?_) 49 113 (bl_ 51 1125899906842623) rfl rfl HT_.out ?_ ?_ ?_;rotate_left
                         ·intro w'
                          go_simp;with_reducible rfl
                         rotate_left
                         ·simp only [Act.put,sa_,sb_,sc_,i64_w,i32_w]
                          rfl
                         refine pu_ (v:=?_) (a':=?_) 50 114 (bl_ 51 2251799813685247) rfl rfl HT_.out ?_ ?_ ?_;rotate_left
                         ·intro w'
                          go_simp;with_reducible rfl
                         rotate_left
                         ·simp only [Act.put,sa_,sb_,sc_,i64_w,i32_w]
                          rfl
                         refine done_ (done_of HT_.out (by kernel_rfl)) ?_;try go_wp2
                         go_roundg kj24
                         case measure => have:=HJ3.out;have:=HJ17.out;have:=HK3.out;have:=HJ24.out;omega
                         case rel => exact ⟨(wrap64 (x7_3 + 1)),fr_,H',⟨by have:=HJ3.out;have:=HJ17.out;have:=HK3.out;have:=HJ24.out;omega⟩,⟨Kd.R_mv HO_5.out⟩,⟨blk_mv BK106.out⟩,⟨bel_⟩⟩
                        ·replace c47:=Bool.eq_false_iff.mpr c47
                         subst c47;have H1 : (none) = some r:=by rw [if_neg (show ¬ (false = true) by decide)] at H;exact H
                         clear H;have H:=H1;clear H1;exact absurd H (by simp)
                       ·rw [if_neg c45] at H
                        exact absurd H (by simp)
                      ·rw [if_neg c44] at H
                       exact absurd H (by simp)
                     ·rw [if_neg c43] at H
                      exact absurd H (by simp)
                    ·rw [if_neg c42] at H
                     exact absurd H (by simp)
                   ·rw [if_neg c41] at H
                    exact absurd H (by simp)
                 ·rw [if_neg c39] at H
                  exact absurd H (by simp)
                ·rw [if_neg c38] at H
                 exact absurd H (by simp)
               ·rw [if_neg c36] at H
                exact absurd H (by simp)
              ·rw [if_neg c35] at H
               exact absurd H (by simp)
             ·rw [if_neg c34] at H
              have c34b0 : decide (0 < x7_3) = false:=decide_eq_false c34;clear c34;have H':=Aside0.mk H;clear H;try go_wp2
              replace HO_5:=Aside0.mk (Kd.R_drew HO_5.out);replace BK106:=Aside0.mk (blk_drew BK106.out);replace HB:=Aside0.mk (below_drew1 HB.out);refine start_ (n:=51) (S:=fun w' => True) (ds:=[]) (bl_ 51 0) (by kernel_rfl) rfl rfl trivial (fun hHeld => ?_);refine with_tabW changeforgelaw5_RolesChainsAreNested.tab11 changeforgelaw5_RolesChainsAreNested.bits11 (fun HT_ HW_ => ?_);generalize wc.drew = w49 at HO_5 BK106 HB hHeld ⊢;refine pu_ (v:=?_) (a':=?_) 0 64 (bl_ 51 1) rfl rfl HT_.out ?_ ?_ ?_;rotate_left
              ·intro w'
               go_simp;with_reducible rfl
              rotate_left
              ·simp only [Act.put,sa_,sb_,sc_,i64_w,i32_w]
               rfl
              refine pu_ (v:=?_) (a':=?_) 1 65 (bl_ 51 3) rfl rfl HT_.out ?_ ?_ ?_;rotate_left
              ·intro w'
               go_simp;with_reducible rfl
              rotate_left
              ·simp only [Act.put,sa_,sb_,sc_,i64_w,i32_w]
               rfl
              refine pu_ (v:=?_) (a':=?_) 2 66 (bl_ 51 7) rfl rfl HT_.out ?_ ?_ ?_;rotate_left
              ·intro w'
               go_simp;with_reducible rfl
              rotate_left
              ·simp only [Act.put,sa_,sb_,sc_,i64_w,i32_w]
               rfl
              refine pun_ (a':=?_) 3 67 (bl_ 51 15) rfl rfl HT_.out ?_ ?_;rotate_left
              ·simp only [Act.put,sa_,sb_,sc_,i64_w,i32_w]
               rfl
              refine pun_ (a':=?_) 4 68 (bl_ 51 31) rfl rfl HT_.out ?_ ?_;rotate_left
              ·simp only [Act.put,sa_,sb_,sc_,i64_w,i32_w]
               rfl
              refine pun_ (a':=?_) 5 69 (bl_ 51 63) rfl rfl HT_.out ?_ ?_;rotate_left
              ·simp only [Act.put,sa_,sb_,sc_,i64_w,i32_w]
               rfl
              refine pun_ (a':=?_) 6 70 (bl_ 51 127) rfl rfl HT_.out ?_ ?_;rotate_left
              ·simp only [Act.put,sa_,sb_,sc_,i64_w,i32_w]
               rfl
              refine pun_ (a':=?_) 7 71 (bl_ 51 255) rfl rfl HT_.out ?_ ?_;rotate_left
              ·simp only [Act.put,sa_,sb_,sc_,i64_w,i32_w]
               rfl
              refine pun_ (a':=?_) 8 72 (bl_ 51 511) rfl rfl HT_.out ?_ ?_;rotate_left
              ·simp only [Act.put,sa_,sb_,sc_,i64_w,i32_w]
               rfl
              refine pun_ (a':=?_) 9 73 (bl_ 51 1023) rfl rfl HT_.out ?_ ?_;rotate_left
              ·simp only [Act.put,sa_,sb_,sc_,i64_w,i32_w]
               rfl
              refine pun_ (a':=?_) 10 74 (bl_ 51 2047) rfl rfl HT_.out ?_ ?_;rotate_left
              ·simp only [Act.put,sa_,sb_,sc_,i64_w,i32_w]
               rfl
              refine pun_ (a':=?_) 11 75 (bl_ 51 4095) rfl rfl HT_.out ?_ ?_;rotate_left
              ·simp only [Act.put,sa_,sb_,sc_,i64_w,i32_w]
               rfl
              refine pun_ (a':=?_) 12 76 (bl_ 51 8191) rfl rfl HT_.out ?_ ?_;rotate_left
              ·simp only [Act.put,sa_,sb_,sc_,i64_w,i32_w]
               rfl
              refine pun_ (a':=?_) 13 77 (bl_ 51 16383) rfl rfl HT_.out ?_ ?_;rotate_left
              ·simp only [Act.put,sa_,sb_,sc_,i64_w,i32_w]
               rfl
              refine pun_ (a':=?_) 14 78 (bl_ 51 32767) rfl rfl HT_.out ?_ ?_;rotate_left
              ·simp only [Act.put,sa_,sb_,sc_,i64_w,i32_w]
               rfl
              refine pun_ (a':=?_) 15 79 (bl_ 51 65535) rfl rfl HT_.out ?_ ?_;rotate_left
              ·simp only [Act.put,sa_,sb_,sc_,i64_w,i32_w]
               rfl
              refine pun_ (a':=?_) 16 80 (bl_ 51 131071) rfl rfl HT_.out ?_ ?_;rotate_left
              ·simp only [Act.put,sa_,sb_,sc_,i64_w,i32_w]
               rfl
              refine pun_ (a':=?_) 17 81 (bl_ 51 262143) rfl rfl HT_.out ?_ ?_;rotate_left
              ·simp only [Act.put,sa_,sb_,sc_,i64_w,i32_w]
               rfl
              refine pun_ (a':=?_) 18 82 (bl_ 51 524287) rfl rfl HT_.out ?_ ?_;rotate_left
              ·simp only [Act.put,sa_,sb_,sc_,i64_w,i32_w]
               rfl
              refine pun_ (a':=?_) 19 83 (bl_ 51 1048575) rfl rfl HT_.out ?_ ?_;rotate_left
              ·simp only [Act.put,sa_,sb_,sc_,i64_w,i32_w]
               rfl
              refine pun_ (a':=?_) 20 84 (bl_ 51 2097151) rfl rfl HT_.out ?_ ?_;rotate_left
              ·simp only [Act.put,sa_,sb_,sc_,i64_w,i32_w]
               rfl
              refine pun_ (a':=?_) 21 85 (bl_ 51 4194303) rfl rfl HT_.out ?_ ?_;rotate_left
              ·simp only [Act.put,sa_,sb_,sc_,i64_w,i32_w]
               rfl
              refine pun_ (a':=?_) 22 86 (bl_ 51 8388607) rfl rfl HT_.out ?_ ?_;rotate_left
              ·simp only [Act.put,sa_,sb_,sc_,i64_w,i32_w]
               rfl
              refine pun_ (a':=?_) 23 87 (bl_ 51 16777215) rfl rfl HT_.out ?_ ?_;rotate_left
              ·simp only [Act.put,sa_,sb_,sc_,i64_w,i32_w]
               rfl
              refine pun_ (a':=?_) 24 88 (bl_ 51 33554431) rfl rfl HT_.out ?_ ?_;rotate_left
              ·simp only [Act.put,sa_,sb_,sc_,i64_w,i32_w]
               rfl
              refine pun_ (a':=?_) 25 89 (bl_ 51 67108863) rfl rfl HT_.out ?_ ?_;rotate_left
              ·simp only [Act.put,sa_,sb_,sc_,i64_w,i32_w]
               rfl
              refine pun_ (a':=?_) 26 90 (bl_ 51 134217727) rfl rfl HT_.out ?_ ?_;rotate_left
              ·simp only [Act.put,sa_,sb_,sc_,i64_w,i32_w]
               rfl
              refine pun_ (a':=?_) 27 91 (bl_ 51 268435455) rfl rfl HT_.out ?_ ?_;rotate_left
              ·simp only [Act.put,sa_,sb_,sc_,i64_w,i32_w]
               rfl
              refine pun_ (a':=?_) 28 92 (bl_ 51 536870911) rfl rfl HT_.out ?_ ?_;rotate_left
              ·simp only [Act.put,sa_,sb_,sc_,i64_w,i32_w]
               rfl
              refine pun_ (a':=?_) 29 93 (bl_ 51 1073741823) rfl rfl HT_.out ?_ ?_;rotate_left
              ·simp only [Act.put,sa_,sb_,sc_,i64_w,i32_w]
               rfl
              refine pun_ (a':=?_) 30 94 (bl_ 51 2147483647) rfl rfl HT_.out ?_ ?_;rotate_left
              ·simp only [Act.put,sa_,sb_,sc_,i64_w,i32_w]
               rfl
              refine pun_ (a':=?_) 31 95 (bl_ 51 4294967295) rfl rfl HT_.out ?_ ?_;rotate_left
              ·simp only [Act.put,sa_,sb_,sc_,i64_w,i32_w]
               rfl
              refine pun_ (a':=?_) 32 96 (bl_ 51 8589934591) rfl rfl HT_.out ?_ ?_;rotate_left
              ·simp only [Act.put,sa_,sb_,sc_,i64_w,i32_w]
               rfl
              refine pun_ (a':=?_) 33 97 (bl_ 51 17179869183) rfl rfl HT_.out ?_ ?_;rotate_left
              ·simp only [Act.put,sa_,sb_,sc_,i64_w,i32_w]
               rfl
              refine pun_ (a':=?_) 34 98 (bl_ 51 34359738367) rfl rfl HT_.out ?_ ?_;rotate_left
              ·simp only [Act.put,sa_,sb_,sc_,i64_w,i32_w]
               rfl
              refine pun_ (a':=?_) 35 99 (bl_ 51 68719476735) rfl rfl HT_.out ?_ ?_;rotate_left
              ·simp only [Act.put,sa_,sb_,sc_,i64_w,i32_w]
               rfl
              refine pun_ (a':=?_) 36 100 (bl_ 51 137438953471) rfl rfl HT_.out ?_ ?_;rotate_left
              ·simp only [Act.put,sa_,sb_,sc_,i64_w,i32_w]
               rfl
              refine pun_ (a':=?_) 37 101 (bl_ 51 274877906943) rfl rfl HT_.out ?_ ?_;rotate_left
              ·simp only [Act.put,sa_,sb_,sc_,i64_w,i32_w]
               rfl
              refine pun_ (a':=?_) 38 102 (bl_ 51 549755813887) rfl rfl HT_.out ?_ ?_;rotate_left
              ·simp only [Act.put,sa_,sb_,sc_,i64_w,i32_w]
               rfl
              refine pun_ (a':=?_) 39 103 (bl_ 51 1099511627775) rfl rfl HT_.out ?_ ?_;rotate_left
              ·simp only [Act.put,sa_,sb_,sc_,i64_w,i32_w]
               rfl
              refine pun_ (a':=?_) 40 104 (bl_ 51 2199023255551) rfl rfl HT_.out ?_ ?_;rotate_left
              ·simp only [Act.put,sa_,sb_,sc_,i64_w,i32_w]
               rfl
              refine pun_ (a':=?_) 41 105 (bl_ 51 4398046511103) rfl rfl HT_.out ?_ ?_;rotate_left
              ·simp only [Act.put,sa_,sb_,sc_,i64_w,i32_w]
               rfl
              refine pun_ (a':=?_) 42 106 (bl_ 51 8796093022207) rfl rfl HT_.out ?_ ?_;rotate_left
              ·simp only [Act.put,sa_,sb_,sc_,i64_w,i32_w]
               rfl
              refine pun_ (a':=?_) 43 107 (bl_ 51 17592186044415) rfl rfl HT_.out ?_ ?_;rotate_left
              ·simp only [Act.put,sa_,sb_,sc_,i64_w,i32_w]
               rfl
              refine pun_ (a':=?_) 44 108 (bl_ 51 35184372088831) rfl rfl HT_.out ?_ ?_;rotate_left
              ·simp only [Act.put,sa_,sb_,sc_,i64_w,i32_w]
               rfl
              refine pun_ (a':=?_) 45 109 (bl_ 51 70368744177663) rfl rfl HT_.out ?_ ?_;rotate_left
              ·simp only [Act.put,sa_,sb_,sc_,i64_w,i32_w]
               rfl
              refine pun_ (a':=?_) 46 110 (bl_ 51 140737488355327) rfl rfl HT_.out ?_ ?_;rotate_left
              ·simp only [Act.put,sa_,sb_,sc_,i64_w,i32_w]
               rfl
              refine pun_ (a':=?_) 47 111 (bl_ 51 281474976710655) rfl rfl HT_.out ?_ ?_;rotate_left
              ·simp only [Act.put,sa_,sb_,sc_,i64_w,i32_w]
               rfl
              refine pun_ (a':=?_) 48 112 (bl_ 51 562949953421311) rfl rfl HT_.out ?_ ?_;rotate_left
              ·simp only [Act.put,sa_,sb_,sc_,i64_w,i32_w]
               rfl
              refine pun_ (a':=?_) 49 113 (bl_ 51 1125899906842623) rfl rfl HT_.out ?_ ?_;rotate_left
              ·simp only [Act.put,sa_,sb_,sc_,i64_w,i32_w]
               rfl
              refine pu_ (v:=?_) (a':=?_) 50 114 (bl_ 51 2251799813685247) rfl rfl HT_.out ?_ ?_ ?_;rotate_left
              ·intro w'
               go_simp;with_reducible rfl
              rotate_left
              ·simp only [Act.put,sa_,sb_,sc_,i64_w,i32_w]
               rfl
              refine done_ (done_of HT_.out (by kernel_rfl)) ?_;try go_wp2
              go_roundg kj24
              case measure => have:=HJ3.out;have:=HJ17.out;have:=HK3.out;have:=HJ24.out;omega
              case rel => exact ⟨(wrap64 (x7_3 + 1)),fr_,H',⟨by have:=HJ3.out;have:=HJ17.out;have:=HK3.out;have:=HJ24.out;omega⟩,⟨Kd.R_mv HO_5.out⟩,⟨blk_mv BK106.out⟩,⟨bel_⟩⟩
         ·rw [if_neg c24] at H
          have c24b0 : decide (x7_3 < (t101.length : Int)) = false:=decide_eq_false c24;clear c24;obtain rfl:=Option.some.inj H;obtain ⟨Ao50,co50,eo50⟩:=Kd.R_slice HO_5.out;subst eo50;go_wp2;go_ret;exact ⟨by first|rfl|(simp [errW_none,errW_some] <;> rfl)|(simp [*,errW_none,errW_some] <;> rfl),bel_⟩

end Go.Proofs.Ytdelkdlegokbjaa.Fn
