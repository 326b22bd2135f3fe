/- A function of the program as a plain Lean function, and the proof that the call comes to just what it says (written by wip/tools/xprint.py for this claim). Condition: the plain function has an answer. -/
import Derived.Test.YtdelkdlegokbjaaFn0
import Derived.Test.YtdelkdlegokbjaaFf28
import Derived.Test.YtdelkdlegokbjaaFs0
import Derived.Test.YtdelkdlegokbjaaWA
import Derived.Test.YtdelkdlegokbjaaClos
import Derived.Test.YtdelkdlegokbjaaTight
namespace Go.Proofs.Ytdelkdlegokbjaa.Fn
open Go.RowKit Go.Proofs.YtdelkdlegokbjaaW.PrintWords Go.Proofs.YtdelkdlegokbjaaW.PrintLast Go.Proofs.YtdelkdlegokbjaaW.PrintMore
attribute [local go_sem] max2_int min2_int max_two min_two max_three min_three max_four min_four   -- for this text's walks alone
set_option linter.unusedVariables false
set_option linter.unusedSimpArgs false

attribute [local go_sem high] eqA27
-- IMPORT Derived.Test.@SEAT@Clos
/-! ### roles_Validate: function 9 -/
mutual
def roles_Validate.j0 : Nat → List (S40) → Bool → Option (Int × Int)
 | 0,_,_ => none
 | k + 1,x0,x14 => if x14 = true then (some (9,(-1))) else (roles_Validate.l0 k x0 x0 (x0.length : Int) 0)
def roles_Validate.l0 : Nat → List (S40) → List (S40) → Int → Int → Option (Int × Int)
 | 0,_,_,_,_ => none
 | k + 1,x0,x16,x17,x18 => if x18 < x17 then (if 0 ≤ x18 then (if x18 < (x16.length : Int) then (if x18 = 0 then (if ((rd_T40 x16 x18).f0) = (-1) then (if x18 > 0 then (if ((rd_T40 x16 x18).f0) < 0 then (roles_Validate.j2 k x0 x16 x17 x18 true x18 ((rd_T40 x16 x18).f0) ((rd_T40 x16 x18).f1) ((rd_T40 x16 x18).f2) ((rd_T40 x16 x18).f3)) else (roles_Validate.j2 k x0 x16 x17 x18 (decide (((rd_T40 x16 x18).f0) ≥ x18)) x18 ((rd_T40 x16 x18).f0) ((rd_T40 x16 x18).f1) ((rd_T40 x16 x18).f2) ((rd_T40 x16 x18).f3))) else (roles_Validate.j2 k x0 x16 x17 x18 false x18 ((rd_T40 x16 x18).f0) ((rd_T40 x16 x18).f1) ((rd_T40 x16 x18).f2) ((rd_T40 x16 x18).f3))) else (roles_Validate.j2 k x0 x16 x17 x18 true x18 ((rd_T40 x16 x18).f0) ((rd_T40 x16 x18).f1) ((rd_T40 x16 x18).f2) ((rd_T40 x16 x18).f3))) else (if x18 > 0 then (if ((rd_T40 x16 x18).f0) < 0 then (roles_Validate.j2 k x0 x16 x17 x18 true x18 ((rd_T40 x16 x18).f0) ((rd_T40 x16 x18).f1) ((rd_T40 x16 x18).f2) ((rd_T40 x16 x18).f3)) else (roles_Validate.j2 k x0 x16 x17 x18 (decide (((rd_T40 x16 x18).f0) ≥ x18)) x18 ((rd_T40 x16 x18).f0) ((rd_T40 x16 x18).f1) ((rd_T40 x16 x18).f2) ((rd_T40 x16 x18).f3))) else (roles_Validate.j2 k x0 x16 x17 x18 false x18 ((rd_T40 x16 x18).f0) ((rd_T40 x16 x18).f1) ((rd_T40 x16 x18).f2) ((rd_T40 x16 x18).f3)))) else (none)) else (none)) else (some (0,0))
def roles_Validate.j2 : Nat → List (S40) → List (S40) → Int → Int → Bool → Int → Int → ByteArray → List Int → Int → Option (Int × Int)
 | 0,_,_,_,_,_,_,_,_,_,_ => none
 | k + 1,x0,x16,x17,x18,x24,x104000,x105000,x105001,x105002,x105003 => if x24 = true then ((roles_Validate_c1.f 3 x104000).bind fun bt105 => (some (bt105.1,bt105.2))) else (if x104000 = 0 then (if x105001.toList = ([] : List UInt8) then (if (x105001.size : Int) > 60 then (roles_Validate.j3 k x0 x16 x17 x18 true x104000 x105000 x105001 x105002 x105003) else (if x104000 > 0 then (if 0 ≤ x105000 then (if x105000 < (x0.length : Int) then ((strings_HasPrefix.f x105001 ((rd_T40 x0 x105000).f1)).bind fun t108 => (roles_Validate.j3 k x0 x16 x17 x18 (!t108) x104000 x105000 x105001 x105002 x105003)) else (none)) else (none)) else (roles_Validate.j3 k x0 x16 x17 x18 false x104000 x105000 x105001 x105002 x105003))) else (roles_Validate.j3 k x0 x16 x17 x18 true x104000 x105000 x105001 x105002 x105003)) else (if (x105001.size : Int) > 60 then (roles_Validate.j3 k x0 x16 x17 x18 true x104000 x105000 x105001 x105002 x105003) else (if x104000 > 0 then (if 0 ≤ x105000 then (if x105000 < (x0.length : Int) then ((strings_HasPrefix.f x105001 ((rd_T40 x0 x105000).f1)).bind fun t110 => (roles_Validate.j3 k x0 x16 x17 x18 (!t110) x104000 x105000 x105001 x105002 x105003)) else (none)) else (none)) else (roles_Validate.j3 k x0 x16 x17 x18 false x104000 x105000 x105001 x105002 x105003))))
def roles_Validate.j3 : Nat → List (S40) → List (S40) → Int → Int → Bool → Int → Int → ByteArray → List Int → Int → Option (Int × Int)
 | 0,_,_,_,_,_,_,_,_,_,_ => none
 | k + 1,x0,x16,x17,x18,x49,x104000,x105000,x105001,x105002,x105003 => if x49 = true then ((roles_Validate_c1.f 12 x104000).bind fun bt111 => (some (bt111.1,bt111.2))) else ((threshold_Validate.f k x105002 x105003).bind fun bt113 => (if (!(bt113.1 == 0) || (!(bt113.2 == 0))) = true then ((roles_Validate_c1.f bt113.1 x104000).bind fun bt116 => (some (bt116.1,bt116.2))) else (roles_Validate.l0 k x0 x16 x17 (wrap64 (x18 + 1)))))
end
def roles_Validate.f (k : Nat) (l0 : List (S40)) : Option (Int × Int):=if (l0.length : Int) = 0 then (roles_Validate.j0 k l0 true) else (roles_Validate.j0 k l0 (decide ((l0.length : Int) > 12)))
theorem roles_Validate.mono_l : ∀ k,(∀ y0 y1,LeO (roles_Validate.j0 k y0 y1) (roles_Validate.j0 (k + 1) y0 y1)) ∧ (∀ y0 y1 y2 y3,LeO (roles_Validate.l0 k y0 y1 y2 y3) (roles_Validate.l0 (k + 1) y0 y1 y2 y3)) ∧ (∀ y0 y1 y2 y3 y4 y5 y6 y7 y8 y9,LeO (roles_Validate.j2 k y0 y1 y2 y3 y4 y5 y6 y7 y8 y9) (roles_Validate.j2 (k + 1) y0 y1 y2 y3 y4 y5 y6 y7 y8 y9)) ∧ (∀ y0 y1 y2 y3 y4 y5 y6 y7 y8 y9,LeO (roles_Validate.j3 k y0 y1 y2 y3 y4 y5 y6 y7 y8 y9) (roles_Validate.j3 (k + 1) y0 y1 y2 y3 y4 y5 y6 y7 y8 y9))
 | 0 => ⟨fun _ _ r h => by simp [roles_Validate.j0] at h,fun _ _ _ _ r h => by simp [roles_Validate.l0] at h,fun _ _ _ _ _ _ _ _ _ _ r h => by simp [roles_Validate.j2] at h,fun _ _ _ _ _ _ _ _ _ _ r h => by simp [roles_Validate.j3] at h⟩
 | k + 1 => by
  obtain ⟨ih0,ih1,ih2,ih3⟩:=roles_Validate.mono_l k;refine ⟨?_,?_,?_,?_⟩
  ·intro y0 y1
   unfold roles_Validate.j0;repeat' first
   | (with_reducible exact ih0 _ _)
   | (with_reducible exact ih1 _ _ _ _)
   | (with_reducible exact ih2 _ _ _ _ _ _ _ _ _ _)
   | (with_reducible exact ih3 _ _ _ _ _ _ _ _ _ _)
   | (with_reducible exact threshold_Validate.mono _ _ _)
   | (with_reducible exact LeO.refl _)
   | (with_reducible exact LeO.none _)
   | (with_reducible refine LeO.ite ?_ ?_)
   | (with_reducible refine LeO.bind ?_ (fun _ => ?_))
   | exact ih0 _ _
   | exact ih1 _ _ _ _
   | exact ih2 _ _ _ _ _ _ _ _ _ _
   | exact ih3 _ _ _ _ _ _ _ _ _ _
   | exact threshold_Validate.mono _ _ _
   | exact LeO.none _
   | refine LeO.ite ?_ ?_
   | refine LeO.bind ?_ (fun _ => ?_)
  ·intro y0 y1 y2 y3
   unfold roles_Validate.l0;repeat' first
   | (with_reducible exact ih0 _ _)
   | (with_reducible exact ih1 _ _ _ _)
   | (with_reducible exact ih2 _ _ _ _ _ _ _ _ _ _)
   | (with_reducible exact ih3 _ _ _ _ _ _ _ _ _ _)
   | (with_reducible exact threshold_Validate.mono _ _ _)
   | (with_reducible exact LeO.refl _)
   | (with_reducible exact LeO.none _)
   | (with_reducible refine LeO.ite ?_ ?_)
   | (with_reducible refine LeO.bind ?_ (fun _ => ?_))
   | exact ih0 _ _
   | exact ih1 _ _ _ _
   | exact ih2 _ _ _ _ _ _ _ _ _ _
   | exact ih3 _ _ _ _ _ _ _ _ _ _
   | exact threshold_Validate.mono _ _ _
   | exact LeO.none _
   | refine LeO.ite ?_ ?_
   | refine LeO.bind ?_ (fun _ => ?_)
  ·intro y0 y1 y2 y3 y4 y5 y6 y7 y8 y9
   unfold roles_Validate.j2;repeat' first
   | (with_reducible exact ih0 _ _)
   | (with_reducible exact ih1 _ _ _ _)
   | (with_reducible exact ih2 _ _ _ _ _ _ _ _ _ _)
   | (with_reducible exact ih3 _ _ _ _ _ _ _ _ _ _)
   | (with_reducible exact threshold_Validate.mono _ _ _)
   | (with_reducible exact LeO.refl _)
   | (with_reducible exact LeO.none _)
   | (with_reducible refine LeO.ite ?_ ?_)
   | (with_reducible refine LeO.bind ?_ (fun _ => ?_))
   | exact ih0 _ _
   | exact ih1 _ _ _ _
   | exact ih2 _ _ _ _ _ _ _ _ _ _
   | exact ih3 _ _ _ _ _ _ _ _ _ _
   | exact threshold_Validate.mono _ _ _
   | exact LeO.none _
   | refine LeO.ite ?_ ?_
   | refine LeO.bind ?_ (fun _ => ?_)
  ·intro y0 y1 y2 y3 y4 y5 y6 y7 y8 y9
   unfold roles_Validate.j3;repeat' first
   | (with_reducible exact ih0 _ _)
   | (with_reducible exact ih1 _ _ _ _)
   | (with_reducible exact ih2 _ _ _ _ _ _ _ _ _ _)
   | (with_reducible exact ih3 _ _ _ _ _ _ _ _ _ _)
   | (with_reducible exact threshold_Validate.mono _ _ _)
   | (with_reducible exact LeO.refl _)
   | (with_reducible exact LeO.none _)
   | (with_reducible refine LeO.ite ?_ ?_)
   | (with_reducible refine LeO.bind ?_ (fun _ => ?_))
   | exact ih0 _ _
   | exact ih1 _ _ _ _
   | exact ih2 _ _ _ _ _ _ _ _ _ _
   | exact ih3 _ _ _ _ _ _ _ _ _ _
   | exact threshold_Validate.mono _ _ _
   | exact LeO.none _
   | refine LeO.ite ?_ ?_
   | refine LeO.bind ?_ (fun _ => ?_)
theorem roles_Validate.mono : ∀ a0 k,LeO (roles_Validate.f k a0) (roles_Validate.f (k + 1) a0):=by
 intro a0 k;obtain ⟨ih0,ih1,ih2,ih3⟩:=roles_Validate.mono_l k;unfold roles_Validate.f
 repeat' first
   | (with_reducible exact ih0 _ _)
   | (with_reducible exact ih1 _ _ _ _)
   | (with_reducible exact ih2 _ _ _ _ _ _ _ _ _ _)
   | (with_reducible exact ih3 _ _ _ _ _ _ _ _ _ _)
   | (with_reducible exact threshold_Validate.mono _ _ _)
   | (with_reducible exact LeO.refl _)
   | (with_reducible exact LeO.none _)
   | (with_reducible refine LeO.ite ?_ ?_)
   | (with_reducible refine LeO.bind ?_ (fun _ => ?_))
   | exact ih0 _ _
   | exact ih1 _ _ _ _
   | exact ih2 _ _ _ _ _ _ _ _ _ _
   | exact ih3 _ _ _ _ _ _ _ _ _ _
   | exact threshold_Validate.mono _ _ _
   | exact LeO.none _
   | refine LeO.ite ?_ ?_
   | refine LeO.bind ?_ (fun _ => ?_)
def roles_Validate.T9 : Bool × List (List Nat × List Nat):=(true,[([],[]),([0],[0]),([1],[1]),([2],[2]),([3,2],[2,3]),([4,2],[2,4]),([2,5],[2,5]),([6,2],[6]),([7],[7]),([8,7],[7,8]),([9,7],[7,9]),([10,7],[7,10]),([7,11],[7,11]),([12,7],[12]),([13],[13]),([14,13],[13,14]),([15,13,13],[13,15]),([16],[16]),([17,16],[16,17]),([16],[16]),([16],[16]),([20,16],[16,20]),([19,21,16],[16,19,21]),([22,16],[16,22]),([23,16],[16,23]),([18,24,16,16],[16,18,24]),([25,16],[16,25]),([16,26,13],[13,16,26]),([13,27],[13,27]),([28,25],[28])])
def roles_Validate.B9 : List Nat:=[0,1,3,7,15,31,63,127,255,511,1023,2047,4095,8191,16383,32767,65535,131071,262143,131071,131071,1179647,3801087,7995391,16383999,33554431,67108863,134217727,268435455,536870911]
theorem roles_Validate.tab9 : rtab .any (opsOf Try.f9 9) = roles_Validate.T9:=by kernel_rfl
theorem roles_Validate.bits9 : waitsOk roles_Validate.T9.2 roles_Validate.B9 = true:=by kernel_rfl
set_option maxHeartbeats 8000000 in
set_option maxRecDepth 100000 in
theorem roles_Validate.calls (k : Nat) (A0 : Option Addr) (c0 : Nat) (l0 : List (S40)) (r1 : Int) (r2 : Int) (w : World) (hr0 : Kd.C k40 w A0 l0.length l0) (hc0 : l0.length ≤ c0) (h : roles_Validate.f k l0 = some (r1,r2)) :
  Calls Try.prog 9 #[.slice A0 l0.length c0] w fun e w' => e = .returned (.agg #[.int .i64 r1,.int .i64 r2]) ∧ Below w.heap.size w w':=by
 have hu27:=Try.underlying27;have hu40:=Try.underlying40;have HR0:=Aside0.mk hr0;have HC0:=Aside0.mk hc0;clear hr0 hc0;have HB:=Aside0.mk (Below.refl w.heap.size w);have H : (if (l0.length : Int) = 0 then (roles_Validate.j0 k l0 true) else (roles_Validate.j0 k l0 (decide ((l0.length : Int) > 12)))) = some (r1,r2):=h;clear h;have HC2:=Aside0.mk H;clear H;have hmf : ∀ (fn : Go.Fn) (first cap : Array Value) (w : World),(Instr.makeFunc fn first cap).run Try.prog w = .ok (.func fn first cap) w:=fun _ _ _ _ => rfl;go_enter Try.func9,Try.ntmps9;go_upto_region 1 with (first|((with_reducible refine gate_dst (N:=2) rfl ?_);(try (refine gate_guard (by rfl) ?_;dsimp only));refine box_event ?hg (N:=2) ?hd (cs:=#[.int .i64 0,.int .i64 0]) (t:=27) ?hr ?_;(case hd => rfl);(case hg => rfl);(case hr => first|(go_simp;done)|(go_simp;rfl));intro gb101 hg w3 hbox hb;have BK101:=Aside0.mk (hbox);have GW101:=Aside0.mk ((bs_ : w.heap.size ≤ gb101));have GE101:=Aside0.mk ((bs_ : w.heap.size ≤ gb101));replace HB:=Aside0.mk (below_step bel_ hb);clear hb hbox hg));(try simp only [Act.put,sa_,sb_,sc_]);go_cut [14] (fun v14 wc => ∃ (kq : Nat) (x14_1 : Bool),v14 = .bool x14_1 ∧ Aside0 (roles_Validate.j0 kq l0 x14_1 = some (r1,r2)) ∧ Aside0 (kq ≤ k) ∧ Aside0 (wc.heap[gb101]? = some (.cells #[.int .i64 0,.int .i64 0] 27 (0,0))) ∧ Aside0 (Below w.heap.size w wc))
 case first =>
  have H:=HC2.out;clear HC2;by_cases c4 : (l0.length : Int) = 0
  ·rw [if_pos c4] at H
   have c4b0 : ((l0.length : Int) == 0) = true:=beq_iff_eq.mpr c4;have c4b1 : ((l0.length : Int) != 0) = false:=bne_eq_false_iff_eq.mpr c4;clear c4;(first|rw [c4b0]|(simp only [i64_w,i32_w];rw [c4b0])|skip);have H':=Aside0.mk H;clear H;go_wp2;go_meet
   case rel => exact ⟨_,(true),fr_,H',⟨om_⟩,⟨blk_mv BK101.out⟩,⟨bel_⟩⟩
  ·rw [if_neg c4] at H
   have c4b0 : ((l0.length : Int) == 0) = false:=beq_eq_false_iff_ne.mpr c4;have c4b1 : ((l0.length : Int) != 0) = true:=bne_iff_ne.mpr c4;have c4b2 : ¬ (l0 = []):=fun h_ => c4 (by rw [h_];rfl);(first|rw [c4b0]|(simp only [i64_w,i32_w];rw [c4b0])|skip);have H':=Aside0.mk H;clear H;go_wp2;go_meet
   case rel => exact ⟨_,(decide ((l0.length : Int) > 12)),fr_,H',⟨om_⟩,⟨blk_mv BK101.out⟩,⟨bel_⟩⟩
 case rest =>
  clear HC2;(try clear p2);(try clear c4);(try clear c4b0);(try clear c4b1);(try clear c4b2);obtain ⟨kq,x14_1,rfl,HA,HJ1,BK101,HB⟩:=hcut;cases kq with
  | zero => exact absurd HA.out (by simp [roles_Validate.j0])
  | succ kj1 =>
   have H:=HA.out;clear HA;simp only [roles_Validate.j0] at H;by_cases c5 : x14_1 = true
   ·subst c5
    have H1 : (some (9,(-1))) = some (r1,r2):=by rw [if_pos rfl] at H;exact H
    clear H;have H:=H1;clear H1;simp only [Option.some.injEq,Prod.mk.injEq] at H;obtain ⟨rfl,rfl⟩:=H;have hcz6_0:=blk_c (v:=.int .i64 0) BK101.out 0 rfl;have hcz6_1:=blk_c (v:=.int .i64 0) BK101.out 1 rfl;have hfz6_0:=blk_frozen BK101.out 0;have hfz6_1:=blk_frozen BK101.out 1;go_wp2;refine bodyPost_ret (results_cell_row rfl _ _ gb101 27 #[.int .i64 9,.int .i64 (-1)] (0,0) _ rfl (by refine blk_mv ?_;refine blk_put (cs:=#[.int .i64 9,.int .i64 0]) ?_ 1 _ rfl;refine blk_mv ?_;refine blk_put (cs:=#[.int .i64 0,.int .i64 0]) ?_ 0 _ rfl;refine blk_mv ?_;exact BK101.out) Try.underlying27 rfl (by kernel_rfl)) rfl ?_;exact ⟨by first|rfl|(simp [errW_none,errW_some] <;> rfl)|(simp [*,errW_none,errW_some] <;> rfl),bel_⟩
   ·replace c5:=Bool.eq_false_iff.mpr c5
    subst c5;have H1 : (roles_Validate.l0 kj1 l0 l0 (l0.length : Int) 0) = some (r1,r2):=by rw [if_neg (show ¬ (false = true) by decide)] at H;exact H
    clear H;have H:=H1;clear H1;have H':=Aside0.mk H;clear H;go_wp2;go_loopg [18] kj1 (fun kq v18 w' => ∃ (x18_2 : Int) (x102000_2 : Int) (x102001_2 : Int),v18 = .int .i64 x18_2 ∧ Aside0 (roles_Validate.l0 kq l0 l0 (l0.length : Int) x18_2 = some (r1,r2)) ∧ Aside0 (kq ≤ kj1) ∧ Aside0 (w'.heap[gb101]? = some (.cells #[.int .i64 x102000_2,.int .i64 x102001_2] 27 (0,0))) ∧ Aside0 (Below w.heap.size w w'))
    case atStart => exact ⟨(0),(0),(0),fr_,H',⟨Nat.le_refl _⟩,⟨blk_mv BK101.out⟩,⟨bel_⟩⟩
    case round =>
     clear H';(try clear p2);(try clear c4);(try clear c4b0);(try clear c4b1);(try clear c4b2);(try clear c5);(try clear hcz6_0);(try clear hcz6_1);(try clear hfz6_0);(try clear hfz6_1);(try clear p2);obtain ⟨x18_2,x102000_2,x102001_2,rfl,HA,HK2,BK101,HB⟩:=hrel;cases gk with
     | zero => exact absurd HA.out (by simp [roles_Validate.l0])
     | succ k2 =>
      have H:=HA.out;clear HA;simp only [roles_Validate.l0] at H;by_cases c7 : x18_2 < (l0.length : Int)
      ·rw [if_pos c7] at H
       have c7b0 : decide (x18_2 < (l0.length : Int)) = true:=decide_eq_true c7;clear c7;by_cases c8 : 0 ≤ x18_2
       ·rw [if_pos c8] at H
        have c8b0 : decide (0 ≤ x18_2) = true:=decide_eq_true c8;clear c8;by_cases c9 : x18_2 < (l0.length : Int)
        ·rw [if_pos c9] at H
         have c9b0 : decide (x18_2 < (l0.length : Int)) = true:=decide_eq_true c9;clear c9;have HC10:=Aside0.mk H;clear H;have p102 : 0 ≤ (x18_2 : Int):=of_decide_eq_true as_;have q102 : x18_2 < (l0.length : Int):=of_decide_eq_true as_;obtain ⟨ad102,A102_2,c102_2,e102,hx102_0,hx102_1,hx102_2,hx102_3,hl102_2,hi102_2⟩:=at_T40 HR0.out x18_2 p102 q102;cases e102
         replace hx102_0:=(HB.out.cell (World.block_lt_of_cell? w _ hx102_0)).trans hx102_0;replace hx102_1:=(HB.out.cell (World.block_lt_of_cell? w _ hx102_1)).trans hx102_1;replace hx102_2:=(HB.out.cell (World.block_lt_of_cell? w _ hx102_2)).trans hx102_2;replace hx102_3:=(HB.out.cell (World.block_lt_of_cell? w _ hx102_3)).trans hx102_3;have HR102_2:=Aside0.mk hi102_2;have HC102_2:=Aside0.mk hl102_2;clear hi102_2 hl102_2;replace p102:=eq_true p102;replace q102:=eq_true q102;go_upto_region 7 with (first|((with_reducible refine gate_dst (N:=3) rfl ?_);(try (refine gate_guard (by rfl) ?_;dsimp only));refine box_event ?hg (N:=3) ?hd (cs:=#[.int .i64 0]) (t:=3) ?hr ?_;(case hd => rfl);(case hg => rfl);(case hr => first|(go_simp;done)|(go_simp;rfl));intro gb103 hg w11 hbox hb;have BK103:=Aside0.mk (hbox);have GW103:=Aside0.mk ((bs_ : w.heap.size ≤ gb103));have GE103:=Aside0.mk ((bs_ : w.heap.size ≤ gb103));replace HB:=Aside0.mk (below_step bel_ hb);have NB101_103:=Aside0.mk ((by rw [hg];exact Nat.ne_of_lt (blk_lt (g:=gb101) (o:=.cells #[.int .i64 x102000_2,.int .i64 x102001_2] 27 (0,0)) (blk_mv BK101.out)) : gb101 ≠ gb103));have NB103_101:=Aside0.mk ((by rw [hg];exact Nat.ne_of_gt (blk_lt (g:=gb101) (o:=.cells #[.int .i64 x102000_2,.int .i64 x102001_2] 27 (0,0)) (blk_mv BK101.out)) : gb103 ≠ gb101));replace BK101:=Aside0.mk (blk_below (blk_mv BK101.out) hb);clear hb hbox hg)|((with_reducible refine gate_dst (N:=4) rfl ?_);(try (refine gate_guard (by rfl) ?_;dsimp only));refine box_event ?hg (N:=4) ?hd (cs:=#[.int .i64 0,.string (⟨#[]⟩ : ByteArray),.slice none 0 0,.int .i64 0]) (t:=40) ?hr ?_;(case hd => rfl);(case hg => rfl);(case hr => first|(go_simp;done)|(go_simp;rfl));intro gb104 hg w12 hbox hb;have BK104:=Aside0.mk (hbox);have GW104:=Aside0.mk ((bs_ : w.heap.size ≤ gb104));have GE104:=Aside0.mk ((bs_ : w.heap.size ≤ gb104));replace HB:=Aside0.mk (below_step bel_ hb);have NB101_104:=Aside0.mk ((by rw [hg];exact Nat.ne_of_lt (blk_lt (g:=gb101) (o:=.cells #[.int .i64 x102000_2,.int .i64 x102001_2] 27 (0,0)) (blk_mv BK101.out)) : gb101 ≠ gb104));have NB104_101:=Aside0.mk ((by rw [hg];exact Nat.ne_of_gt (blk_lt (g:=gb101) (o:=.cells #[.int .i64 x102000_2,.int .i64 x102001_2] 27 (0,0)) (blk_mv BK101.out)) : gb104 ≠ gb101));replace BK101:=Aside0.mk (blk_below (blk_mv BK101.out) hb);have NB103_104:=Aside0.mk ((by rw [hg];exact Nat.ne_of_lt (blk_lt (g:=gb103) (o:=.cells #[.int .i64 0] 3 (0,0)) (blk_mv BK103.out)) : gb103 ≠ gb104));have NB104_103:=Aside0.mk ((by rw [hg];exact Nat.ne_of_gt (blk_lt (g:=gb103) (o:=.cells #[.int .i64 0] 3 (0,0)) (blk_mv BK103.out)) : gb104 ≠ gb103));replace BK103:=Aside0.mk (blk_below (blk_mv BK103.out) hb);clear hb hbox hg;have hnb13:=NB103_101.out;have hnc13:=NB101_103.out;have hnb14:=NB103_104.out;have hnc14:=NB104_103.out;have hcz15_0:=blk_c (v:=.int .i64 0) BK103.out 0 rfl;have hfz15_0:=blk_frozen BK103.out 0;have hnb16:=NB104_101.out;have hnc16:=NB101_104.out;have hcz17_0:=blk_c (v:=.int .i64 0) BK104.out 0 rfl;have hcz17_1:=blk_c (v:=.string (⟨#[]⟩ : ByteArray)) BK104.out 1 rfl;have hcz17_2:=blk_c (v:=.slice none 0 0) BK104.out 2 rfl;have hcz17_3:=blk_c (v:=.int .i64 0) BK104.out 3 rfl;have hfz17_0:=blk_frozen BK104.out 0;have hfz17_1:=blk_frozen BK104.out 1;have hfz17_2:=blk_frozen BK104.out 2;have hfz17_3:=blk_frozen BK104.out 3));(try simp only [Act.put,sa_,sb_,sc_]);go_cut [24] (fun v24 wc => ∃ (kq : Nat) (x24_9 : Bool),v24 = .bool x24_9 ∧ Aside0 (roles_Validate.j2 kq l0 l0 (l0.length : Int) x18_2 x24_9 x18_2 ((rd_T40 l0 x18_2).f0) ((rd_T40 l0 x18_2).f1) ((rd_T40 l0 x18_2).f2) ((rd_T40 l0 x18_2).f3) = some (r1,r2)) ∧ Aside0 (kq ≤ k2) ∧ Aside0 (wc.heap[gb101]? = some (.cells #[.int .i64 x102000_2,.int .i64 x102001_2] 27 (0,0))) ∧ Aside0 (wc.heap[gb103]? = some (.cells #[.int .i64 x18_2] 3 (0,0))) ∧ Aside0 (wc.heap[gb104]? = some (.cells #[.int .i64 ((rd_T40 l0 x18_2).f0),.string ((rd_T40 l0 x18_2).f1),(.slice A102_2 ((rd_T40 l0 x18_2).f2).length c102_2),.int .i64 ((rd_T40 l0 x18_2).f3)] 40 (0,0))) ∧ Aside0 (Below w.heap.size w wc))
         case first =>
          have H:=HC10.out;clear HC10;by_cases c18 : x18_2 = 0
          ·rw [if_pos c18] at H
           have c18b0 : (x18_2 == 0) = true:=beq_iff_eq.mpr c18;have c18b1 : (x18_2 != 0) = false:=bne_eq_false_iff_eq.mpr c18;clear c18;(first|rw [c18b0]|(simp only [i64_w,i32_w];rw [c18b0])|skip);by_cases c19 : ((rd_T40 l0 x18_2).f0) = (-1)
           ·rw [if_pos c19] at H
            have c19b0 : (((rd_T40 l0 x18_2).f0) == (-1)) = true:=beq_iff_eq.mpr c19;have c19b1 : (((rd_T40 l0 x18_2).f0) != (-1)) = false:=bne_eq_false_iff_eq.mpr c19;clear c19;by_cases c20 : x18_2 > 0
            ·rw [if_pos c20] at H
             have c20b0 : decide (0 < x18_2) = true:=decide_eq_true c20;clear c20;by_cases c21 : ((rd_T40 l0 x18_2).f0) < 0
             ·rw [if_pos c21] at H
              have c21b0 : decide (((rd_T40 l0 x18_2).f0) < 0) = true:=decide_eq_true c21;clear c21;have H':=Aside0.mk H;clear H;have hnb22:=NB103_101.out;have hnc22:=NB101_103.out;have hnb23:=NB103_104.out;have hnc23:=NB104_103.out;have hcz24_0:=blk_c (v:=.int .i64 0) BK103.out 0 rfl;have hfz24_0:=blk_frozen BK103.out 0;have hnb25:=NB104_101.out;have hnc25:=NB101_104.out;have hcz26_0:=blk_c (v:=.int .i64 0) BK104.out 0 rfl;have hcz26_1:=blk_c (v:=.string (⟨#[]⟩ : ByteArray)) BK104.out 1 rfl;have hcz26_2:=blk_c (v:=.slice none 0 0) BK104.out 2 rfl;have hcz26_3:=blk_c (v:=.int .i64 0) BK104.out 3 rfl;have hfz26_0:=blk_frozen BK104.out 0;have hfz26_1:=blk_frozen BK104.out 1;have hfz26_2:=blk_frozen BK104.out 2;have hfz26_3:=blk_frozen BK104.out 3;go_wp2;go_meet
              case rel => exact ⟨_,(true),fr_,H',⟨by have:=HJ1.out;have:=HK2.out;first|omega|exact Nat.le_refl _⟩,⟨by refine blk_mv ?_;refine blk_far ?_ NB101_104.out _;refine blk_mv ?_;refine blk_far ?_ NB101_104.out _;refine blk_mv ?_;refine blk_far ?_ NB101_104.out _;refine blk_mv ?_;refine blk_far ?_ NB101_104.out _;refine blk_mv ?_;refine blk_far ?_ NB101_103.out _;refine blk_mv ?_;exact BK101.out⟩,⟨by refine blk_mv ?_;refine blk_far ?_ NB103_104.out _;refine blk_mv ?_;refine blk_far ?_ NB103_104.out _;refine blk_mv ?_;refine blk_far ?_ NB103_104.out _;refine blk_mv ?_;refine blk_far ?_ NB103_104.out _;refine blk_mv ?_;refine blk_put (cs:=#[.int .i64 0]) ?_ 0 _ rfl;refine blk_mv ?_;exact BK103.out⟩,⟨by refine blk_mv ?_;refine blk_put (cs:=#[.int .i64 ((rd_T40 l0 x18_2).f0),.string ((rd_T40 l0 x18_2).f1),.slice A102_2 ((rd_T40 l0 x18_2).f2).length c102_2,.int .i64 0]) ?_ 3 _ rfl;refine blk_mv ?_;refine blk_put (cs:=#[.int .i64 ((rd_T40 l0 x18_2).f0),.string ((rd_T40 l0 x18_2).f1),.slice none 0 0,.int .i64 0]) ?_ 2 _ rfl;refine blk_mv ?_;refine blk_put (cs:=#[.int .i64 ((rd_T40 l0 x18_2).f0),.string (⟨#[]⟩ : ByteArray),.slice none 0 0,.int .i64 0]) ?_ 1 _ rfl;refine blk_mv ?_;refine blk_put (cs:=#[.int .i64 0,.string (⟨#[]⟩ : ByteArray),.slice none 0 0,.int .i64 0]) ?_ 0 _ rfl;refine blk_mv ?_;refine blk_far ?_ NB104_103.out _;refine blk_mv ?_;exact BK104.out⟩,⟨bel_⟩⟩
             ·rw [if_neg c21] at H
              have c21b0 : decide (((rd_T40 l0 x18_2).f0) < 0) = false:=decide_eq_false c21;clear c21;have H':=Aside0.mk H;clear H;have hnb27:=NB103_101.out;have hnc27:=NB101_103.out;have hnb28:=NB103_104.out;have hnc28:=NB104_103.out;have hcz29_0:=blk_c (v:=.int .i64 0) BK103.out 0 rfl;have hfz29_0:=blk_frozen BK103.out 0;have hnb30:=NB104_101.out;have hnc30:=NB101_104.out;have hcz31_0:=blk_c (v:=.int .i64 0) BK104.out 0 rfl;have hcz31_1:=blk_c (v:=.string (⟨#[]⟩ : ByteArray)) BK104.out 1 rfl;have hcz31_2:=blk_c (v:=.slice none 0 0) BK104.out 2 rfl;have hcz31_3:=blk_c (v:=.int .i64 0) BK104.out 3 rfl;have hfz31_0:=blk_frozen BK104.out 0;have hfz31_1:=blk_frozen BK104.out 1;have hfz31_2:=blk_frozen BK104.out 2;have hfz31_3:=blk_frozen BK104.out 3;go_wp2;go_meet
              case rel => exact ⟨_,(decide (((rd_T40 l0 x18_2).f0) ≥ x18_2)),fr_,H',⟨by have:=HJ1.out;have:=HK2.out;first|omega|exact Nat.le_refl _⟩,⟨by refine blk_mv ?_;refine blk_far ?_ NB101_104.out _;refine blk_mv ?_;refine blk_far ?_ NB101_104.out _;refine blk_mv ?_;refine blk_far ?_ NB101_104.out _;refine blk_mv ?_;refine blk_far ?_ NB101_104.out _;refine blk_mv ?_;refine blk_far ?_ NB101_103.out _;refine blk_mv ?_;exact BK101.out⟩,⟨by refine blk_mv ?_;refine blk_far ?_ NB103_104.out _;refine blk_mv ?_;refine blk_far ?_ NB103_104.out _;refine blk_mv ?_;refine blk_far ?_ NB103_104.out _;refine blk_mv ?_;refine blk_far ?_ NB103_104.out _;refine blk_mv ?_;refine blk_put (cs:=#[.int .i64 0]) ?_ 0 _ rfl;refine blk_mv ?_;exact BK103.out⟩,⟨by refine blk_mv ?_;refine blk_put (cs:=#[.int .i64 ((rd_T40 l0 x18_2).f0),.string ((rd_T40 l0 x18_2).f1),.slice A102_2 ((rd_T40 l0 x18_2).f2).length c102_2,.int .i64 0]) ?_ 3 _ rfl;refine blk_mv ?_;refine blk_put (cs:=#[.int .i64 ((rd_T40 l0 x18_2).f0),.string ((rd_T40 l0 x18_2).f1),.slice none 0 0,.int .i64 0]) ?_ 2 _ rfl;refine blk_mv ?_;refine blk_put (cs:=#[.int .i64 ((rd_T40 l0 x18_2).f0),.string (⟨#[]⟩ : ByteArray),.slice none 0 0,.int .i64 0]) ?_ 1 _ rfl;refine blk_mv ?_;refine blk_put (cs:=#[.int .i64 0,.string (⟨#[]⟩ : ByteArray),.slice none 0 0,.int .i64 0]) ?_ 0 _ rfl;refine blk_mv ?_;refine blk_far ?_ NB104_103.out _;refine blk_mv ?_;exact BK104.out⟩,⟨bel_⟩⟩
            ·rw [if_neg c20] at H
             have c20b0 : decide (0 < x18_2) = false:=decide_eq_false c20;clear c20;have H':=Aside0.mk H;clear H;have hnb32:=NB103_101.out;have hnc32:=NB101_103.out;have hnb33:=NB103_104.out;have hnc33:=NB104_103.out;have hcz34_0:=blk_c (v:=.int .i64 0) BK103.out 0 rfl;have hfz34_0:=blk_frozen BK103.out 0;have hnb35:=NB104_101.out;have hnc35:=NB101_104.out;have hcz36_0:=blk_c (v:=.int .i64 0) BK104.out 0 rfl;have hcz36_1:=blk_c (v:=.string (⟨#[]⟩ : ByteArray)) BK104.out 1 rfl;have hcz36_2:=blk_c (v:=.slice none 0 0) BK104.out 2 rfl;have hcz36_3:=blk_c (v:=.int .i64 0) BK104.out 3 rfl;have hfz36_0:=blk_frozen BK104.out 0;have hfz36_1:=blk_frozen BK104.out 1;have hfz36_2:=blk_frozen BK104.out 2;have hfz36_3:=blk_frozen BK104.out 3;go_wp2;go_meet
             case rel => exact ⟨_,(false),fr_,H',⟨by have:=HJ1.out;have:=HK2.out;first|omega|exact Nat.le_refl _⟩,⟨by refine blk_mv ?_;refine blk_far ?_ NB101_104.out _;refine blk_mv ?_;refine blk_far ?_ NB101_104.out _;refine blk_mv ?_;refine blk_far ?_ NB101_104.out _;refine blk_mv ?_;refine blk_far ?_ NB101_104.out _;refine blk_mv ?_;refine blk_far ?_ NB101_103.out _;refine blk_mv ?_;exact BK101.out⟩,⟨by refine blk_mv ?_;refine blk_far ?_ NB103_104.out _;refine blk_mv ?_;refine blk_far ?_ NB103_104.out _;refine blk_mv ?_;refine blk_far ?_ NB103_104.out _;refine blk_mv ?_;refine blk_far ?_ NB103_104.out _;refine blk_mv ?_;refine blk_put (cs:=#[.int .i64 0]) ?_ 0 _ rfl;refine blk_mv ?_;exact BK103.out⟩,⟨by refine blk_mv ?_;refine blk_put (cs:=#[.int .i64 ((rd_T40 l0 x18_2).f0),.string ((rd_T40 l0 x18_2).f1),.slice A102_2 ((rd_T40 l0 x18_2).f2).length c102_2,.int .i64 0]) ?_ 3 _ rfl;refine blk_mv ?_;refine blk_put (cs:=#[.int .i64 ((rd_T40 l0 x18_2).f0),.string ((rd_T40 l0 x18_2).f1),.slice none 0 0,.int .i64 0]) ?_ 2 _ rfl;refine blk_mv ?_;refine blk_put (cs:=#[.int .i64 ((rd_T40 l0 x18_2).f0),.string (⟨#[]⟩ : ByteArray),.slice none 0 0,.int .i64 0]) ?_ 1 _ rfl;refine blk_mv ?_;refine blk_put (cs:=#[.int .i64 0,.string (⟨#[]⟩ : ByteArray),.slice none 0 0,.int .i64 0]) ?_ 0 _ rfl;refine blk_mv ?_;refine blk_far ?_ NB104_103.out _;refine blk_mv ?_;exact BK104.out⟩,⟨bel_⟩⟩
           ·rw [if_neg c19] at H
            have c19b0 : (((rd_T40 l0 x18_2).f0) == (-1)) = false:=beq_eq_false_iff_ne.mpr c19;have c19b1 : (((rd_T40 l0 x18_2).f0) != (-1)) = true:=bne_iff_ne.mpr c19;have H':=Aside0.mk H;clear H;have hnb37:=NB103_101.out;have hnc37:=NB101_103.out;have hnb38:=NB103_104.out;have hnc38:=NB104_103.out;have hcz39_0:=blk_c (v:=.int .i64 0) BK103.out 0 rfl;have hfz39_0:=blk_frozen BK103.out 0;have hnb40:=NB104_101.out;have hnc40:=NB101_104.out;have hcz41_0:=blk_c (v:=.int .i64 0) BK104.out 0 rfl;have hcz41_1:=blk_c (v:=.string (⟨#[]⟩ : ByteArray)) BK104.out 1 rfl;have hcz41_2:=blk_c (v:=.slice none 0 0) BK104.out 2 rfl;have hcz41_3:=blk_c (v:=.int .i64 0) BK104.out 3 rfl;have hfz41_0:=blk_frozen BK104.out 0;have hfz41_1:=blk_frozen BK104.out 1;have hfz41_2:=blk_frozen BK104.out 2;have hfz41_3:=blk_frozen BK104.out 3;go_wp2;go_meet
            case rel => exact ⟨_,(true),fr_,H',⟨by have:=HJ1.out;have:=HK2.out;first|omega|exact Nat.le_refl _⟩,⟨by refine blk_mv ?_;refine blk_far ?_ NB101_104.out _;refine blk_mv ?_;refine blk_far ?_ NB101_104.out _;refine blk_mv ?_;refine blk_far ?_ NB101_104.out _;refine blk_mv ?_;refine blk_far ?_ NB101_104.out _;refine blk_mv ?_;refine blk_far ?_ NB101_103.out _;refine blk_mv ?_;exact BK101.out⟩,⟨by refine blk_mv ?_;refine blk_far ?_ NB103_104.out _;refine blk_mv ?_;refine blk_far ?_ NB103_104.out _;refine blk_mv ?_;refine blk_far ?_ NB103_104.out _;refine blk_mv ?_;refine blk_far ?_ NB103_104.out _;refine blk_mv ?_;refine blk_put (cs:=#[.int .i64 0]) ?_ 0 _ rfl;refine blk_mv ?_;exact BK103.out⟩,⟨by refine blk_mv ?_;refine blk_put (cs:=#[.int .i64 ((rd_T40 l0 x18_2).f0),.string ((rd_T40 l0 x18_2).f1),.slice A102_2 ((rd_T40 l0 x18_2).f2).length c102_2,.int .i64 0]) ?_ 3 _ rfl;refine blk_mv ?_;refine blk_put (cs:=#[.int .i64 ((rd_T40 l0 x18_2).f0),.string ((rd_T40 l0 x18_2).f1),.slice none 0 0,.int .i64 0]) ?_ 2 _ rfl;refine blk_mv ?_;refine blk_put (cs:=#[.int .i64 ((rd_T40 l0 x18_2).f0),.string (⟨#[]⟩ : ByteArray),.slice none 0 0,.int .i64 0]) ?_ 1 _ rfl;refine blk_mv ?_;refine blk_put (cs:=#[.int .i64 0,.string (⟨#[]⟩ : ByteArray),.slice none 0 0,.int .i64 0]) ?_ 0 _ rfl;refine blk_mv ?_;refine blk_far ?_ NB104_103.out _;refine blk_mv ?_;exact BK104.out⟩,⟨bel_⟩⟩
          ·rw [if_neg c18] at H
           have c18b0 : (x18_2 == 0) = false:=beq_eq_false_iff_ne.mpr c18;have c18b1 : (x18_2 != 0) = true:=bne_iff_ne.mpr c18;(first|rw [c18b0]|(simp only [i64_w,i32_w];rw [c18b0])|skip);by_cases c42 : x18_2 > 0
           ·rw [if_pos c42] at H
            have c42b0 : decide (0 < x18_2) = true:=decide_eq_true c42;clear c42;by_cases c43 : ((rd_T40 l0 x18_2).f0) < 0
            ·rw [if_pos c43] at H
             have c43b0 : decide (((rd_T40 l0 x18_2).f0) < 0) = true:=decide_eq_true c43;clear c43;have H':=Aside0.mk H;clear H;have hnb44:=NB103_101.out;have hnc44:=NB101_103.out;have hnb45:=NB103_104.out;have hnc45:=NB104_103.out;have hcz46_0:=blk_c (v:=.int .i64 0) BK103.out 0 rfl;have hfz46_0:=blk_frozen BK103.out 0;have hnb47:=NB104_101.out;have hnc47:=NB101_104.out;have hcz48_0:=blk_c (v:=.int .i64 0) BK104.out 0 rfl;have hcz48_1:=blk_c (v:=.string (⟨#[]⟩ : ByteArray)) BK104.out 1 rfl;have hcz48_2:=blk_c (v:=.slice none 0 0) BK104.out 2 rfl;have hcz48_3:=blk_c (v:=.int .i64 0) BK104.out 3 rfl;have hfz48_0:=blk_frozen BK104.out 0;have hfz48_1:=blk_frozen BK104.out 1;have hfz48_2:=blk_frozen BK104.out 2;have hfz48_3:=blk_frozen BK104.out 3;go_wp2;go_meet
             case rel => exact ⟨_,(true),fr_,H',⟨by have:=HJ1.out;have:=HK2.out;first|omega|exact Nat.le_refl _⟩,⟨by refine blk_mv ?_;refine blk_far ?_ NB101_104.out _;refine blk_mv ?_;refine blk_far ?_ NB101_104.out _;refine blk_mv ?_;refine blk_far ?_ NB101_104.out _;refine blk_mv ?_;refine blk_far ?_ NB101_104.out _;refine blk_mv ?_;refine blk_far ?_ NB101_103.out _;refine blk_mv ?_;exact BK101.out⟩,⟨by refine blk_mv ?_;refine blk_far ?_ NB103_104.out _;refine blk_mv ?_;refine blk_far ?_ NB103_104.out _;refine blk_mv ?_;refine blk_far ?_ NB103_104.out _;refine blk_mv ?_;refine blk_far ?_ NB103_104.out _;refine blk_mv ?_;refine blk_put (cs:=#[.int .i64 0]) ?_ 0 _ rfl;refine blk_mv ?_;exact BK103.out⟩,⟨by refine blk_mv ?_;refine blk_put (cs:=#[.int .i64 ((rd_T40 l0 x18_2).f0),.string ((rd_T40 l0 x18_2).f1),.slice A102_2 ((rd_T40 l0 x18_2).f2).length c102_2,.int .i64 0]) ?_ 3 _ rfl;refine blk_mv ?_;refine blk_put (cs:=#[.int .i64 ((rd_T40 l0 x18_2).f0),.string ((rd_T40 l0 x18_2).f1),.slice none 0 0,.int .i64 0]) ?_ 2 _ rfl;refine blk_mv ?_;refine blk_put (cs:=#[.int .i64 ((rd_T40 l0 x18_2).f0),.string (⟨#[]⟩ : ByteArray),.slice none 0 0,.int .i64 0]) ?_ 1 _ rfl;refine blk_mv ?_;refine blk_put (cs:=#[.int .i64 0,.string (⟨#[]⟩ : ByteArray),.slice none 0 0,.int .i64 0]) ?_ 0 _ rfl;refine blk_mv ?_;refine blk_far ?_ NB104_103.out _;refine blk_mv ?_;exact BK104.out⟩,⟨bel_⟩⟩
            ·rw [if_neg c43] at H
             have c43b0 : decide (((rd_T40 l0 x18_2).f0) < 0) = false:=decide_eq_false c43;clear c43;have H':=Aside0.mk H;clear H;have hnb49:=NB103_101.out;have hnc49:=NB101_103.out;have hnb50:=NB103_104.out;have hnc50:=NB104_103.out;have hcz51_0:=blk_c (v:=.int .i64 0) BK103.out 0 rfl;have hfz51_0:=blk_frozen BK103.out 0;have hnb52:=NB104_101.out;have hnc52:=NB101_104.out;have hcz53_0:=blk_c (v:=.int .i64 0) BK104.out 0 rfl;have hcz53_1:=blk_c (v:=.string (⟨#[]⟩ : ByteArray)) BK104.out 1 rfl;have hcz53_2:=blk_c (v:=.slice none 0 0) BK104.out 2 rfl;have hcz53_3:=blk_c (v:=.int .i64 0) BK104.out 3 rfl;have hfz53_0:=blk_frozen BK104.out 0;have hfz53_1:=blk_frozen BK104.out 1;have hfz53_2:=blk_frozen BK104.out 2;have hfz53_3:=blk_frozen BK104.out 3;go_wp2;go_meet
             case rel => exact ⟨_,(decide (((rd_T40 l0 x18_2).f0) ≥ x18_2)),fr_,H',⟨by have:=HJ1.out;have:=HK2.out;first|omega|exact Nat.le_refl _⟩,⟨by refine blk_mv ?_;refine blk_far ?_ NB101_104.out _;refine blk_mv ?_;refine blk_far ?_ NB101_104.out _;refine blk_mv ?_;refine blk_far ?_ NB101_104.out _;refine blk_mv ?_;refine blk_far ?_ NB101_104.out _;refine blk_mv ?_;refine blk_far ?_ NB101_103.out _;refine blk_mv ?_;exact BK101.out⟩,⟨by refine blk_mv ?_;refine blk_far ?_ NB103_104.out _;refine blk_mv ?_;refine blk_far ?_ NB103_104.out _;refine blk_mv ?_;refine blk_far ?_ NB103_104.out _;refine blk_mv ?_;refine blk_far ?_ NB103_104.out _;refine blk_mv ?_;refine blk_put (cs:=#[.int .i64 0]) ?_ 0 _ rfl;refine blk_mv ?_;exact BK103.out⟩,⟨by refine blk_mv ?_;refine blk_put (cs:=#[.int .i64 ((rd_T40 l0 x18_2).f0),.string ((rd_T40 l0 x18_2).f1),.slice A102_2 ((rd_T40 l0 x18_2).f2).length c102_2,.int .i64 0]) ?_ 3 _ rfl;refine blk_mv ?_;refine blk_put (cs:=#[.int .i64 ((rd_T40 l0 x18_2).f0),.string ((rd_T40 l0 x18_2).f1),.slice none 0 0,.int .i64 0]) ?_ 2 _ rfl;refine blk_mv ?_;refine blk_put (cs:=#[.int .i64 ((rd_T40 l0 x18_2).f0),.string (⟨#[]⟩ : ByteArray),.slice none 0 0,.int .i64 0]) ?_ 1 _ rfl;refine blk_mv ?_;refine blk_put (cs:=#[.int .i64 0,.string (⟨#[]⟩ : ByteArray),.slice none 0 0,.int .i64 0]) ?_ 0 _ rfl;refine blk_mv ?_;refine blk_far ?_ NB104_103.out _;refine blk_mv ?_;exact BK104.out⟩,⟨bel_⟩⟩
           ·rw [if_neg c42] at H
            have c42b0 : decide (0 < x18_2) = false:=decide_eq_false c42;clear c42;have H':=Aside0.mk H;clear H;have hnb54:=NB103_101.out;have hnc54:=NB101_103.out;have hnb55:=NB103_104.out;have hnc55:=NB104_103.out;have hcz56_0:=blk_c (v:=.int .i64 0) BK103.out 0 rfl;have hfz56_0:=blk_frozen BK103.out 0;go_wp2;go_meet
            case rel => exact ⟨_,(false),fr_,H',⟨by have:=HJ1.out;have:=HK2.out;first|omega|exact Nat.le_refl _⟩,⟨by refine blk_mv ?_;refine blk_far ?_ NB101_104.out _;refine blk_mv ?_;refine blk_far ?_ NB101_104.out _;refine blk_mv ?_;refine blk_far ?_ NB101_104.out _;refine blk_mv ?_;refine blk_far ?_ NB101_104.out _;refine blk_mv ?_;refine blk_far ?_ NB101_103.out _;refine blk_mv ?_;exact BK101.out⟩,⟨by refine blk_mv ?_;refine blk_far ?_ NB103_104.out _;refine blk_mv ?_;refine blk_far ?_ NB103_104.out _;refine blk_mv ?_;refine blk_far ?_ NB103_104.out _;refine blk_mv ?_;refine blk_far ?_ NB103_104.out _;refine blk_mv ?_;refine blk_put (cs:=#[.int .i64 0]) ?_ 0 _ rfl;refine blk_mv ?_;exact BK103.out⟩,⟨by refine blk_mv ?_;refine blk_put (cs:=#[.int .i64 ((rd_T40 l0 x18_2).f0),.string ((rd_T40 l0 x18_2).f1),.slice A102_2 ((rd_T40 l0 x18_2).f2).length c102_2,.int .i64 0]) ?_ 3 _ rfl;refine blk_mv ?_;refine blk_put (cs:=#[.int .i64 ((rd_T40 l0 x18_2).f0),.string ((rd_T40 l0 x18_2).f1),.slice none 0 0,.int .i64 0]) ?_ 2 _ rfl;refine blk_mv ?_;refine blk_put (cs:=#[.int .i64 ((rd_T40 l0 x18_2).f0),.string (⟨#[]⟩ : ByteArray),.slice none 0 0,.int .i64 0]) ?_ 1 _ rfl;refine blk_mv ?_;refine blk_put (cs:=#[.int .i64 0,.string (⟨#[]⟩ : ByteArray),.slice none 0 0,.int .i64 0]) ?_ 0 _ rfl;refine blk_mv ?_;refine blk_far ?_ NB104_103.out _;refine blk_mv ?_;exact BK104.out⟩,⟨bel_⟩⟩
         case rest =>
          clear HC10;(try clear c1);(try clear p1);(try clear q1);(try clear hx1);(try clear c2);(try clear p2);(try clear c3);(try clear c4);(try clear c4b0);(try clear c4b1);(try clear c4b2);(try clear c5);(try clear c7);(try clear c7b0);(try clear c8);(try clear c8b0);(try clear c9);(try clear c9b0);(try clear c10);(try clear p10);(try clear q10);(try clear hx10);(try clear c13);(try clear c14);(try clear c16);(try clear c18);(try clear c18b0);(try clear c18b1);(try clear c19);(try clear c19b0);(try clear c19b1);(try clear c20);(try clear c20b0);(try clear c21);(try clear c21b0);(try clear c22);(try clear c23);(try clear c25);(try clear c27);(try clear c28);(try clear c30);(try clear c32);(try clear c33);(try clear c35);(try clear c37);(try clear c38);(try clear c40);(try clear c42);(try clear c42b0);(try clear c43);(try clear c43b0);(try clear c44);(try clear c45);(try clear c47);(try clear c49);(try clear c50);(try clear c52);(try clear c54);(try clear c55);(try clear hcz15_0);(try clear hcz17_0);(try clear hcz17_1);(try clear hcz17_2);(try clear hcz17_3);(try clear hcz24_0);(try clear hcz26_0);(try clear hcz26_1);(try clear hcz26_2);(try clear hcz26_3);(try clear hcz29_0);(try clear hcz31_0);(try clear hcz31_1);(try clear hcz31_2);(try clear hcz31_3);(try clear hcz34_0);(try clear hcz36_0);(try clear hcz36_1);(try clear hcz36_2);(try clear hcz36_3);(try clear hcz39_0);(try clear hcz41_0);(try clear hcz41_1);(try clear hcz41_2);(try clear hcz41_3);(try clear hcz46_0);(try clear hcz48_0);(try clear hcz48_1);(try clear hcz48_2);(try clear hcz48_3);(try clear hcz51_0);(try clear hcz53_0);(try clear hcz53_1);(try clear hcz53_2);(try clear hcz53_3);(try clear hcz56_0);(try clear hcz6_0);(try clear hcz6_1);(try clear hfz15_0);(try clear hfz17_0);(try clear hfz17_1);(try clear hfz17_2);(try clear hfz17_3);(try clear hfz24_0);(try clear hfz26_0);(try clear hfz26_1);(try clear hfz26_2);(try clear hfz26_3);(try clear hfz29_0);(try clear hfz31_0);(try clear hfz31_1);(try clear hfz31_2);(try clear hfz31_3);(try clear hfz34_0);(try clear hfz36_0);(try clear hfz36_1);(try clear hfz36_2);(try clear hfz36_3);(try clear hfz39_0);(try clear hfz41_0);(try clear hfz41_1);(try clear hfz41_2);(try clear hfz41_3);(try clear hfz46_0);(try clear hfz48_0);(try clear hfz48_1);(try clear hfz48_2);(try clear hfz48_3);(try clear hfz51_0);(try clear hfz53_0);(try clear hfz53_1);(try clear hfz53_2);(try clear hfz53_3);(try clear hfz56_0);(try clear hfz6_0);(try clear hfz6_1);(try clear hx102_0);(try clear hx102_1);(try clear hx102_2);(try clear hx102_3);(try clear p102);(try clear p2);(try clear q102);obtain ⟨kq,x24_9,rfl,HA,HJ9,BK101,BK103,BK104,HB⟩:=hcut;cases kq with
          | zero => exact absurd HA.out (by simp [roles_Validate.j2])
          | succ kj9 =>
           have H:=HA.out;clear HA;simp only [roles_Validate.j2] at H;by_cases c57 : x24_9 = true
           ·subst c57
            have H1 : ((roles_Validate_c1.f 3 x18_2).bind fun bt105 => (some (bt105.1,bt105.2))) = some (r1,r2):=by rw [if_pos rfl] at H;exact H
            clear H;have H:=H1;clear H1;replace H:=Option.bind_eq_some_iff.mp H;obtain ⟨⟨t105,t106⟩,A580,H⟩:=H;replace H : (some (t105,t106)) = some (r1,r2):=H;have A58:=Aside0.mk A580;clear A580;simp only [Option.some.injEq,Prod.mk.injEq] at H;obtain ⟨rfl,rfl⟩:=H;go_wp2_with (first|((with_reducible refine gate_dst (N:=48) rfl ?_);refine Clos.goesF_ (some 48) rfl rfl Try.func26 (by kernel_rfl) rfl (caps:=#[.pointer (some ⟨gb103,0,none⟩)]) #[.int .i64 3,.pointer (some ⟨gb103,0,none⟩)] rfl rfl ln_ ?_;(with_reducible refine (roles_Validate_c1.calls 3 x18_2 t105 t106 _ (blk_cell (cs:=#[.int .i64 x18_2]) (t:=3) (blk_mv BK103.out) 0) A58.out).mono ?_);rintro e w59 ⟨rfl,hb⟩;refine ⟨_,rfl,?_⟩;replace BK101:=Aside0.mk (blk_below (blk_mv BK101.out) hb);replace BK103:=Aside0.mk (blk_below (blk_mv BK103.out) hb);replace BK104:=Aside0.mk (blk_below (blk_mv BK104.out) hb);replace HB:=Aside0.mk (below_step bel_ hb);(try clear hb);(try clear hb2);(try clear hk);(try clear hi);have hnb60:=NB101_103.out;have hnc60:=NB103_101.out;have hnb61:=NB101_104.out;have hnc61:=NB104_101.out;have hcz62_0:=blk_c (v:=.int .i64 x102000_2) BK101.out 0 rfl;have hcz62_1:=blk_c (v:=.int .i64 x102001_2) BK101.out 1 rfl;have hfz62_0:=blk_frozen BK101.out 0;have hfz62_1:=blk_frozen BK101.out 1));refine bodyPost_ret (results_cell_row rfl _ _ gb101 27 #[.int .i64 t105,.int .i64 t106] (0,0) _ rfl (by refine blk_mv ?_;refine blk_put (cs:=#[.int .i64 t105,.int .i64 x102001_2]) ?_ 1 _ rfl;refine blk_mv ?_;refine blk_put (cs:=#[.int .i64 x102000_2,.int .i64 x102001_2]) ?_ 0 _ rfl;refine blk_mv ?_;exact BK101.out) Try.underlying27 rfl (by kernel_rfl)) rfl ?_;exact ⟨by first|rfl|(simp [errW_none,errW_some] <;> rfl)|(simp [*,errW_none,errW_some] <;> rfl),bel_⟩
           ·replace c57:=Bool.eq_false_iff.mpr c57
            subst c57;have H1 : (if x18_2 = 0 then (if ((rd_T40 l0 x18_2).f1).toList = ([] : List UInt8) then (if (((rd_T40 l0 x18_2).f1).size : Int) > 60 then (roles_Validate.j3 kj9 l0 l0 (l0.length : Int) x18_2 true x18_2 ((rd_T40 l0 x18_2).f0) ((rd_T40 l0 x18_2).f1) ((rd_T40 l0 x18_2).f2) ((rd_T40 l0 x18_2).f3)) else (if x18_2 > 0 then (if 0 ≤ ((rd_T40 l0 x18_2).f0) then (if ((rd_T40 l0 x18_2).f0) < (l0.length : Int) then ((strings_HasPrefix.f ((rd_T40 l0 x18_2).f1) ((rd_T40 l0 ((rd_T40 l0 x18_2).f0)).f1)).bind fun t108 => (roles_Validate.j3 kj9 l0 l0 (l0.length : Int) x18_2 (!t108) x18_2 ((rd_T40 l0 x18_2).f0) ((rd_T40 l0 x18_2).f1) ((rd_T40 l0 x18_2).f2) ((rd_T40 l0 x18_2).f3))) else (none)) else (none)) else (roles_Validate.j3 kj9 l0 l0 (l0.length : Int) x18_2 false x18_2 ((rd_T40 l0 x18_2).f0) ((rd_T40 l0 x18_2).f1) ((rd_T40 l0 x18_2).f2) ((rd_T40 l0 x18_2).f3)))) else (roles_Validate.j3 kj9 l0 l0 (l0.length : Int) x18_2 true x18_2 ((rd_T40 l0 x18_2).f0) ((rd_T40 l0 x18_2).f1) ((rd_T40 l0 x18_2).f2) ((rd_T40 l0 x18_2).f3))) else (if (((rd_T40 l0 x18_2).f1).size : Int) > 60 then (roles_Validate.j3 kj9 l0 l0 (l0.length : Int) x18_2 true x18_2 ((rd_T40 l0 x18_2).f0) ((rd_T40 l0 x18_2).f1) ((rd_T40 l0 x18_2).f2) ((rd_T40 l0 x18_2).f3)) else (if x18_2 > 0 then (if 0 ≤ ((rd_T40 l0 x18_2).f0) then (if ((rd_T40 l0 x18_2).f0) < (l0.length : Int) then ((strings_HasPrefix.f ((rd_T40 l0 x18_2).f1) ((rd_T40 l0 ((rd_T40 l0 x18_2).f0)).f1)).bind fun t110 => (roles_Validate.j3 kj9 l0 l0 (l0.length : Int) x18_2 (!t110) x18_2 ((rd_T40 l0 x18_2).f0) ((rd_T40 l0 x18_2).f1) ((rd_T40 l0 x18_2).f2) ((rd_T40 l0 x18_2).f3))) else (none)) else (none)) else (roles_Validate.j3 kj9 l0 l0 (l0.length : Int) x18_2 false x18_2 ((rd_T40 l0 x18_2).f0) ((rd_T40 l0 x18_2).f1) ((rd_T40 l0 x18_2).f2) ((rd_T40 l0 x18_2).f3))))) = some (r1,r2):=by rw [if_neg (show ¬ (false = true) by decide)] at H;exact H
            clear H;have H:=H1;clear H1;have HC63:=Aside0.mk H;clear H;go_upto_region 9 with (fail);go_cut [49] (fun v49 wc => ∃ (kq : Nat) (x49_62 : Bool),v49 = .bool x49_62 ∧ Aside0 (roles_Validate.j3 kq l0 l0 (l0.length : Int) x18_2 x49_62 x18_2 ((rd_T40 l0 x18_2).f0) ((rd_T40 l0 x18_2).f1) ((rd_T40 l0 x18_2).f2) ((rd_T40 l0 x18_2).f3) = some (r1,r2)) ∧ Aside0 (kq ≤ kj9) ∧ Aside0 (wc.heap[gb101]? = some (.cells #[.int .i64 x102000_2,.int .i64 x102001_2] 27 (0,0))) ∧ Aside0 (wc.heap[gb103]? = some (.cells #[.int .i64 x18_2] 3 (0,0))) ∧ Aside0 (wc.heap[gb104]? = some (.cells #[.int .i64 ((rd_T40 l0 x18_2).f0),.string ((rd_T40 l0 x18_2).f1),(.slice A102_2 ((rd_T40 l0 x18_2).f2).length c102_2),.int .i64 ((rd_T40 l0 x18_2).f3)] 40 (0,0))) ∧ Aside0 (Below w.heap.size w wc))
            case first =>
             have H:=HC63.out;clear HC63;by_cases c64 : x18_2 = 0
             ·rw [if_pos c64] at H
              have c64b0 : (x18_2 == 0) = true:=beq_iff_eq.mpr c64;have c64b1 : (x18_2 != 0) = false:=bne_eq_false_iff_eq.mpr c64;clear c64;(first|rw [c64b0]|(simp only [i64_w,i32_w];rw [c64b0])|skip);by_cases c65 : ((rd_T40 l0 x18_2).f1).toList = ([] : List UInt8)
              ·rw [if_pos c65] at H
               have c65b0 : (((rd_T40 l0 x18_2).f1).toList == ([] : List UInt8)) = true:=beq_iff_eq.mpr c65;have c65b1 : (((rd_T40 l0 x18_2).f1).toList != ([] : List UInt8)) = false:=bne_eq_false_iff_eq.mpr c65;clear c65;by_cases c66 : (((rd_T40 l0 x18_2).f1).size : Int) > 60
               ·rw [if_pos c66] at H
                have c66b0 : decide (60 < (((rd_T40 l0 x18_2).f1).size : Int)) = true:=decide_eq_true c66;have c66b1 : decide (60 < ((rd_T40 l0 x18_2).f1).size) = true:=decide_eq_true (by omega);clear c66;have H':=Aside0.mk H;clear H;try go_wp2
                replace BK101:=Aside0.mk (blk_drew BK101.out);replace BK103:=Aside0.mk (blk_drew BK103.out);replace BK104:=Aside0.mk (blk_drew BK104.out);replace HB:=Aside0.mk (below_drew1 HB.out);refine start_ (n:=30) (S:=fun w' => w'.cell? ⟨gb103,0,none⟩ = some (.int .i64 x18_2) ∧ w'.cell? ⟨gb104,0,none⟩ = some (.int .i64 ((rd_T40 l0 x18_2).f0)) ∧ w'.cell? ⟨gb104,1,none⟩ = some (.string ((rd_T40 l0 x18_2).f1)) ∧ w'.cell? ⟨gb104,2,none⟩ = some (.slice A102_2 ((rd_T40 l0 x18_2).f2).length c102_2) ∧ w'.cell? ⟨gb104,3,none⟩ = some (.int .i64 ((rd_T40 l0 x18_2).f3))) (ds:=[]) (bl_ 30 0) (by kernel_rfl) rfl rfl ⟨(blk_cell BK103.out 0).trans rfl,(blk_cell BK104.out 0).trans rfl,(blk_cell BK104.out 1).trans rfl,(blk_cell BK104.out 2).trans rfl,(blk_cell BK104.out 3).trans rfl⟩ (fun hHeld => ?_);refine with_tabW roles_Validate.tab9 roles_Validate.bits9 (fun HT_ HW_ => ?_);generalize wc.drew = w67 at BK101 BK103 BK104 HB hHeld ⊢;refine tk_ (v:=?_) (a':=?_) 0 50 (bl_ 30 1) rfl rfl HT_.out HW_.out ?_ hHeld ?_ ?_;rotate_left
                ·rintro w' ⟨s0,s1,s2,s3,s4⟩
                 go_simp;with_reducible rfl
                rotate_left
                ·simp only [Act.put,sa_,sb_,sc_,i64_w,i32_w]
                 rfl
                refine pu_ (v:=?_) (a':=?_) 1 51 (bl_ 30 3) rfl rfl HT_.out ?_ ?_ ?_;rotate_left
                ·intro w'
                 go_simp;with_reducible rfl
                rotate_left
                ·simp only [Act.put,sa_,sb_,sc_,i64_w,i32_w]
                 rfl
                refine pu_ (v:=?_) (a':=?_) 2 52 (bl_ 30 7) rfl rfl HT_.out ?_ ?_ ?_;rotate_left
                ·intro w'
                 go_simp;with_reducible rfl
                rotate_left
                ·simp only [Act.put,sa_,sb_,sc_,i64_w,i32_w]
                 rfl
                refine pu_ (v:=?_) (a':=?_) 3 53 (bl_ 30 15) rfl rfl HT_.out ?_ ?_ ?_;rotate_left
                ·intro w'
                 go_simp;with_reducible rfl
                rotate_left
                ·simp only [Act.put,sa_,sb_,sc_,i64_w,i32_w]
                 rfl
                refine tk_ (v:=?_) (a':=?_) 4 54 (bl_ 30 31) rfl rfl HT_.out HW_.out ?_ hHeld ?_ ?_;rotate_left
                ·rintro w' ⟨s0,s1,s2,s3,s4⟩
                 go_simp;with_reducible rfl
                rotate_left
                ·simp only [Act.put,sa_,sb_,sc_,i64_w,i32_w]
                 rfl
                refine pu_ (v:=?_) (a':=?_) 5 55 (bl_ 30 63) rfl rfl HT_.out ?_ ?_ ?_;rotate_left
                ·intro w'
                 go_simp;with_reducible rfl
                rotate_left
                ·simp only [Act.put,sa_,sb_,sc_,i64_w,i32_w]
                 rfl
                refine pu_ (v:=?_) (a':=?_) 6 56 (bl_ 30 127) rfl rfl HT_.out ?_ ?_ ?_;rotate_left
                ·intro w'
                 go_simp;with_reducible rfl
                rotate_left
                ·simp only [Act.put,sa_,sb_,sc_,i64_w,i32_w]
                 rfl
                refine pu_ (v:=?_) (a':=?_) 7 57 (bl_ 30 255) rfl rfl HT_.out ?_ ?_ ?_;rotate_left
                ·intro w'
                 go_simp;with_reducible rfl
                rotate_left
                ·simp only [Act.put,sa_,sb_,sc_,i64_w,i32_w]
                 rfl
                refine pu_ (v:=?_) (a':=?_) 8 58 (bl_ 30 511) rfl rfl HT_.out ?_ ?_ ?_;rotate_left
                ·intro w'
                 go_simp;with_reducible rfl
                rotate_left
                ·simp only [Act.put,sa_,sb_,sc_,i64_w,i32_w]
                 rfl
                refine tk_ (v:=?_) (a':=?_) 9 59 (bl_ 30 1023) rfl rfl HT_.out HW_.out ?_ hHeld ?_ ?_;rotate_left
                ·rintro w' ⟨s0,s1,s2,s3,s4⟩
                 go_simp;with_reducible rfl
                rotate_left
                ·simp only [Act.put,sa_,sb_,sc_,i64_w,i32_w]
                 rfl
                refine pu_ (v:=?_) (a':=?_) 10 60 (bl_ 30 2047) rfl rfl HT_.out ?_ ?_ ?_;rotate_left
                ·intro w'
                 go_simp;with_reducible rfl
                rotate_left
                ·simp only [Act.put,sa_,sb_,sc_,i64_w,i32_w]
                 rfl
                refine pu_ (v:=?_) (a':=?_) 11 61 (bl_ 30 4095) rfl rfl HT_.out ?_ ?_ ?_;rotate_left
                ·intro w'
                 go_simp;with_reducible rfl
                rotate_left
                ·simp only [Act.put,sa_,sb_,sc_,i64_w,i32_w]
                 rfl
                refine pu_ (v:=?_) (a':=?_) 12 62 (bl_ 30 8191) rfl rfl HT_.out ?_ ?_ ?_;rotate_left
                ·intro w'
                 go_simp;with_reducible rfl
                rotate_left
                ·simp only [Act.put,sa_,sb_,sc_,i64_w,i32_w]
                 rfl
                refine pu_ (v:=?_) (a':=?_) 13 63 (bl_ 30 16383) rfl rfl HT_.out ?_ ?_ ?_;rotate_left
                ·intro w'
                 go_simp;with_reducible rfl
                rotate_left
                ·simp only [Act.put,sa_,sb_,sc_,i64_w,i32_w]
                 rfl
                refine pun_ (a':=?_) 14 64 (bl_ 30 32767) rfl rfl HT_.out ?_ ?_;rotate_left
                ·simp only [Act.put,sa_,sb_,sc_,i64_w,i32_w]
                 rfl
                refine pun_ (a':=?_) 15 65 (bl_ 30 65535) rfl rfl HT_.out ?_ ?_;rotate_left
                ·simp only [Act.put,sa_,sb_,sc_,i64_w,i32_w]
                 rfl
                refine pun_ (a':=?_) 16 66 (bl_ 30 131071) rfl rfl HT_.out ?_ ?_;rotate_left
                ·simp only [Act.put,sa_,sb_,sc_,i64_w,i32_w]
                 rfl
                refine pun_ (a':=?_) 17 67 (bl_ 30 262143) rfl rfl HT_.out ?_ ?_;rotate_left
                ·simp only [Act.put,sa_,sb_,sc_,i64_w,i32_w]
                 rfl
                refine pun_ (a':=?_) 18 68 (bl_ 30 524287) rfl rfl HT_.out ?_ ?_;rotate_left
                ·simp only [Act.put,sa_,sb_,sc_,i64_w,i32_w]
                 rfl
                refine pun_ (a':=?_) 19 69 (bl_ 30 1048575) rfl rfl HT_.out ?_ ?_;rotate_left
                ·simp only [Act.put,sa_,sb_,sc_,i64_w,i32_w]
                 rfl
                refine pun_ (a':=?_) 20 70 (bl_ 30 2097151) rfl rfl HT_.out ?_ ?_;rotate_left
                ·simp only [Act.put,sa_,sb_,sc_,i64_w,i32_w]
                 rfl
                refine pun_ (a':=?_) 21 71 (bl_ 30 4194303) rfl rfl HT_.out ?_ ?_;rotate_left
                ·simp only [Act.put,sa_,sb_,sc_,i64_w,i32_w]
                 rfl
                refine pun_ (a':=?_) 22 72 (bl_ 30 8388607) rfl rfl HT_.out ?_ ?_;rotate_left
                ·simp only [Act.put,sa_,sb_,sc_,i64_w,i32_w]
                 rfl
                refine pun_ (a':=?_) 23 73 (bl_ 30 16777215) rfl rfl HT_.out ?_ ?_;rotate_left
                ·simp only [Act.put,sa_,sb_,sc_,i64_w,i32_w]
                 rfl
                refine pun_ (a':=?_) 24 74 (bl_ 30 33554431) rfl rfl HT_.out ?_ ?_;rotate_left
                ·simp only [Act.put,sa_,sb_,sc_,i64_w,i32_w]
                 rfl
                refine pun_ (a':=?_) 25 75 (bl_ 30 67108863) rfl rfl HT_.out ?_ ?_;rotate_left
                ·simp only [Act.put,sa_,sb_,sc_,i64_w,i32_w]
                 rfl
                refine pun_ (a':=?_) 26 76 (bl_ 30 134217727) rfl rfl HT_.out ?_ ?_;rotate_left
                ·simp only [Act.put,sa_,sb_,sc_,i64_w,i32_w]
                 rfl
                refine pun_ (a':=?_) 27 77 (bl_ 30 268435455) rfl rfl HT_.out ?_ ?_;rotate_left
                ·simp only [Act.put,sa_,sb_,sc_,i64_w,i32_w]
                 rfl
                refine pu_ (v:=?_) (a':=?_) 28 78 (bl_ 30 536870911) rfl rfl HT_.out ?_ ?_ ?_;rotate_left
                ·intro w'
                 go_simp;with_reducible rfl
                rotate_left
                ·simp only [Act.put,sa_,sb_,sc_,i64_w,i32_w]
                 rfl
                refine pu_ (v:=?_) (a':=?_) 29 49 (bl_ 30 1073741823) rfl rfl HT_.out ?_ ?_ ?_;rotate_left
                ·intro w'
                 go_simp;with_reducible rfl
                rotate_left
                ·simp only [Act.put,sa_,sb_,sc_,i64_w,i32_w]
                 rfl
                refine done_ (done_of HT_.out (by kernel_rfl)) ?_;try go_wp2
                go_meet
                case rel => exact ⟨_,(true),fr_,H',⟨by have:=HJ1.out;have:=HK2.out;have:=HJ9.out;first|omega|exact Nat.le_refl _⟩,⟨blk_mv BK101.out⟩,⟨blk_mv BK103.out⟩,⟨blk_mv BK104.out⟩,⟨bel_⟩⟩
               ·rw [if_neg c66] at H
                have c66b0 : decide (60 < (((rd_T40 l0 x18_2).f1).size : Int)) = false:=decide_eq_false c66;have c66b1 : decide (60 < ((rd_T40 l0 x18_2).f1).size) = false:=decide_eq_false (by omega);clear c66;by_cases c68 : x18_2 > 0
                ·rw [if_pos c68] at H
                 have c68b0 : decide (0 < x18_2) = true:=decide_eq_true c68;clear c68;by_cases c69 : 0 ≤ ((rd_T40 l0 x18_2).f0)
                 ·rw [if_pos c69] at H
                  have c69b0 : decide (0 ≤ ((rd_T40 l0 x18_2).f0)) = true:=decide_eq_true c69;clear c69;by_cases c70 : ((rd_T40 l0 x18_2).f0) < (l0.length : Int)
                  ·rw [if_pos c70] at H
                   have c70b0 : decide (((rd_T40 l0 x18_2).f0) < (l0.length : Int)) = true:=decide_eq_true c70;clear c70;replace H:=Option.bind_eq_some_iff.mp H;obtain ⟨t108,A710,H⟩:=H;replace H : (roles_Validate.j3 kj9 l0 l0 (l0.length : Int) x18_2 (!t108) x18_2 ((rd_T40 l0 x18_2).f0) ((rd_T40 l0 x18_2).f1) ((rd_T40 l0 x18_2).f2) ((rd_T40 l0 x18_2).f3)) = some (r1,r2):=H;have A71:=Aside0.mk A710;clear A710;have H':=Aside0.mk H;clear H;try go_wp2
                   replace BK101:=Aside0.mk (blk_drew BK101.out);replace BK103:=Aside0.mk (blk_drew BK103.out);replace BK104:=Aside0.mk (blk_drew BK104.out);replace HB:=Aside0.mk (below_drew1 HB.out);have p107 : 0 ≤ (((rd_T40 l0 x18_2).f0) : Int):=of_decide_eq_true as_;have q107 : ((rd_T40 l0 x18_2).f0) < (l0.length : Int):=of_decide_eq_true as_;obtain ⟨ad107,A107_2,c107_2,e107,hx107_0,hx107_1,hx107_2,hx107_3,hl107_2,hi107_2⟩:=at_T40 HR0.out ((rd_T40 l0 x18_2).f0) p107 q107;have hw107_3:=hx107_3;have hw107_2:=hx107_2;have hw107_1:=hx107_1;have hw107_0:=hx107_0;obtain rfl : ad102 = ad107:=(by injection e107);replace hx107_0:=(HB.out.cell (World.block_lt_of_cell? w _ hx107_0)).trans hx107_0;replace hx107_1:=(HB.out.cell (World.block_lt_of_cell? w _ hx107_1)).trans hx107_1;replace hx107_2:=(HB.out.cell (World.block_lt_of_cell? w _ hx107_2)).trans hx107_2;replace hx107_3:=(HB.out.cell (World.block_lt_of_cell? w _ hx107_3)).trans hx107_3;have HR107_2:=Aside0.mk hi107_2;have HC107_2:=Aside0.mk hl107_2;clear hi107_2 hl107_2;replace p107:=eq_true p107;replace q107:=eq_true q107;refine start_ (n:=30) (S:=fun w' => w'.cell? ⟨gb103,0,none⟩ = some (.int .i64 x18_2) ∧ w'.cell? ⟨gb104,0,none⟩ = some (.int .i64 ((rd_T40 l0 x18_2).f0)) ∧ w'.cell? ⟨gb104,1,none⟩ = some (.string ((rd_T40 l0 x18_2).f1)) ∧ w'.cell? ⟨gb104,2,none⟩ = some (.slice A102_2 ((rd_T40 l0 x18_2).f2).length c102_2) ∧ w'.cell? ⟨gb104,3,none⟩ = some (.int .i64 ((rd_T40 l0 x18_2).f3)) ∧ w'.cell? (ad102.add ((((rd_T40 l0 x18_2).f0)).toNat * 4)) = some (.int .i64 ((rd_T40 l0 ((rd_T40 l0 x18_2).f0)).f0)) ∧ w'.cell? ⟨(ad102.add ((((rd_T40 l0 x18_2).f0)).toNat * 4)).block,(ad102.add ((((rd_T40 l0 x18_2).f0)).toNat * 4)).off + 1,none⟩ = some (.string ((rd_T40 l0 ((rd_T40 l0 x18_2).f0)).f1)) ∧ w'.cell? ⟨(ad102.add ((((rd_T40 l0 x18_2).f0)).toNat * 4)).block,(ad102.add ((((rd_T40 l0 x18_2).f0)).toNat * 4)).off + 2,none⟩ = some (.slice A107_2 ((rd_T40 l0 ((rd_T40 l0 x18_2).f0)).f2).length c107_2) ∧ w'.cell? ⟨(ad102.add ((((rd_T40 l0 x18_2).f0)).toNat * 4)).block,(ad102.add ((((rd_T40 l0 x18_2).f0)).toNat * 4)).off + 3,none⟩ = some (.int .i64 ((rd_T40 l0 ((rd_T40 l0 x18_2).f0)).f3))) (ds:=[]) (bl_ 30 0) (by kernel_rfl) rfl rfl ⟨(blk_cell BK103.out 0).trans rfl,(blk_cell BK104.out 0).trans rfl,(blk_cell BK104.out 1).trans rfl,(blk_cell BK104.out 2).trans rfl,(blk_cell BK104.out 3).trans rfl,((HB.out.cell (World.block_lt_of_cell? w _ hw107_0)).trans hw107_0),((HB.out.cell (World.block_lt_of_cell? w _ hw107_1)).trans hw107_1),((HB.out.cell (World.block_lt_of_cell? w _ hw107_2)).trans hw107_2),((HB.out.cell (World.block_lt_of_cell? w _ hw107_3)).trans hw107_3)⟩ (fun hHeld => ?_);refine with_tabW roles_Validate.tab9 roles_Validate.bits9 (fun HT_ HW_ => ?_);generalize wc.drew = w72 at BK101 BK103 BK104 HB HR107_2 hx107_0 hx107_1 hx107_2 hx107_3 hHeld ⊢;refine tk_ (v:=?_) (a':=?_) 0 50 (bl_ 30 1) rfl rfl HT_.out HW_.out ?_ hHeld ?_ ?_;rotate_left
                   ·rintro w' ⟨s0,s1,s2,s3,s4,s5,s6,s7,s8⟩
                    go_simp;with_reducible rfl
                   rotate_left
                   ·simp only [Act.put,sa_,sb_,sc_,i64_w,i32_w]
                    rfl
                   refine pu_ (v:=?_) (a':=?_) 1 51 (bl_ 30 3) rfl rfl HT_.out ?_ ?_ ?_;rotate_left
                   ·intro w'
                    go_simp;with_reducible rfl
                   rotate_left
                   ·simp only [Act.put,sa_,sb_,sc_,i64_w,i32_w]
                    rfl
                   refine pu_ (v:=?_) (a':=?_) 2 52 (bl_ 30 7) rfl rfl HT_.out ?_ ?_ ?_;rotate_left
                   ·intro w'
                    go_simp;with_reducible rfl
                   rotate_left
                   ·simp only [Act.put,sa_,sb_,sc_,i64_w,i32_w]
                    rfl
                   refine pu_ (v:=?_) (a':=?_) 3 53 (bl_ 30 15) rfl rfl HT_.out ?_ ?_ ?_;rotate_left
                   ·intro w'
                    go_simp;with_reducible rfl
                   rotate_left
                   ·simp only [Act.put,sa_,sb_,sc_,i64_w,i32_w]
                    rfl
                   refine tk_ (v:=?_) (a':=?_) 4 54 (bl_ 30 31) rfl rfl HT_.out HW_.out ?_ hHeld ?_ ?_;rotate_left
                   ·rintro w' ⟨s0,s1,s2,s3,s4,s5,s6,s7,s8⟩
                    go_simp;with_reducible rfl
                   rotate_left
                   ·simp only [Act.put,sa_,sb_,sc_,i64_w,i32_w]
                    rfl
                   refine pu_ (v:=?_) (a':=?_) 5 55 (bl_ 30 63) rfl rfl HT_.out ?_ ?_ ?_;rotate_left
                   ·intro w'
                    go_simp;with_reducible rfl
                   rotate_left
                   ·simp only [Act.put,sa_,sb_,sc_,i64_w,i32_w]
                    rfl
                   refine pu_ (v:=?_) (a':=?_) 6 56 (bl_ 30 127) rfl rfl HT_.out ?_ ?_ ?_;rotate_left
                   ·intro w'
                    go_simp;with_reducible rfl
                   rotate_left
                   ·simp only [Act.put,sa_,sb_,sc_,i64_w,i32_w]
                    rfl
                   refine pu_ (v:=?_) (a':=?_) 7 57 (bl_ 30 255) rfl rfl HT_.out ?_ ?_ ?_;rotate_left
                   ·intro w'
                    go_simp;with_reducible rfl
                   rotate_left
                   ·simp only [Act.put,sa_,sb_,sc_,i64_w,i32_w]
                    rfl
                   refine pu_ (v:=?_) (a':=?_) 8 58 (bl_ 30 511) rfl rfl HT_.out ?_ ?_ ?_;rotate_left
                   ·intro w'
                    go_simp;with_reducible rfl
                   rotate_left
                   ·simp only [Act.put,sa_,sb_,sc_,i64_w,i32_w]
                    rfl
                   refine tk_ (v:=?_) (a':=?_) 9 59 (bl_ 30 1023) rfl rfl HT_.out HW_.out ?_ hHeld ?_ ?_;rotate_left
                   ·rintro w' ⟨s0,s1,s2,s3,s4,s5,s6,s7,s8⟩
                    go_simp;with_reducible rfl
                   rotate_left
                   ·simp only [Act.put,sa_,sb_,sc_,i64_w,i32_w]
                    rfl
                   refine pu_ (v:=?_) (a':=?_) 10 60 (bl_ 30 2047) rfl rfl HT_.out ?_ ?_ ?_;rotate_left
                   ·intro w'
                    go_simp;with_reducible rfl
                   rotate_left
                   ·simp only [Act.put,sa_,sb_,sc_,i64_w,i32_w]
                    rfl
                   refine pu_ (v:=?_) (a':=?_) 11 61 (bl_ 30 4095) rfl rfl HT_.out ?_ ?_ ?_;rotate_left
                   ·intro w'
                    go_simp;with_reducible rfl
                   rotate_left
                   ·simp only [Act.put,sa_,sb_,sc_,i64_w,i32_w]
                    rfl
                   refine pu_ (v:=?_) (a':=?_) 12 62 (bl_ 30 8191) rfl rfl HT_.out ?_ ?_ ?_;rotate_left
                   ·intro w'
                    go_simp;with_reducible rfl
                   rotate_left
                   ·simp only [Act.put,sa_,sb_,sc_,i64_w,i32_w]
                    rfl
                   refine pu_ (v:=?_) (a':=?_) 13 63 (bl_ 30 16383) rfl rfl HT_.out ?_ ?_ ?_;rotate_left
                   ·intro w'
                    go_simp;with_reducible rfl
                   rotate_left
                   ·simp only [Act.put,sa_,sb_,sc_,i64_w,i32_w]
                    rfl
                   refine tk_ (v:=?_) (a':=?_) 14 64 (bl_ 30 32767) rfl rfl HT_.out HW_.out ?_ hHeld ?_ ?_;rotate_left
                   ·rintro w' ⟨s0,s1,s2,s3,s4,s5,s6,s7,s8⟩
                    go_simp;with_reducible rfl
                   rotate_left
                   ·simp only [Act.put,sa_,sb_,sc_,i64_w,i32_w]
                    rfl
                   refine pu_ (v:=?_) (a':=?_) 15 65 (bl_ 30 65535) rfl rfl HT_.out ?_ ?_ ?_;rotate_left
                   ·intro w'
                    go_simp;with_reducible rfl
                   rotate_left
                   ·simp only [Act.put,sa_,sb_,sc_,i64_w,i32_w]
                    rfl
                   refine pu_ (v:=?_) (a':=?_) 16 66 (bl_ 30 131071) rfl rfl HT_.out ?_ ?_ ?_;rotate_left
                   ·intro w'
                    go_simp;with_reducible rfl
                   rotate_left
                   ·simp only [Act.put,sa_,sb_,sc_,i64_w,i32_w]
                    rfl
                   refine pu_ (v:=?_) (a':=?_) 17 67 (bl_ 30 262143) rfl rfl HT_.out ?_ ?_ ?_;rotate_left
                   ·intro w'
                    go_simp;with_reducible rfl
                   rotate_left
                   ·simp only [Act.put,sa_,sb_,sc_,i64_w,i32_w]
                    rfl
                   refine pu_ (v:=?_) (a':=?_) 19 69 (bl_ 30 786431) rfl rfl HT_.out ?_ ?_ ?_;rotate_left
                   ·intro w'
                    go_simp;with_reducible rfl
                   rotate_left
                   ·simp only [Act.put,sa_,sb_,sc_,i64_w,i32_w]
                    rfl
                   refine pu_ (v:=?_) (a':=?_) 20 70 (bl_ 30 1835007) rfl rfl HT_.out ?_ ?_ ?_;rotate_left
                   ·intro w'
                    go_simp;with_reducible rfl
                   rotate_left
                   ·simp only [Act.put,sa_,sb_,sc_,i64_w,i32_w]
                    rfl
                   refine tk_ (v:=?_) (a':=?_) 18 68 (bl_ 30 2097151) rfl rfl HT_.out HW_.out ?_ hHeld ?_ ?_;rotate_left
                   ·rintro w' ⟨s0,s1,s2,s3,s4,s5,s6,s7,s8⟩
                    go_simp;with_reducible rfl
                   rotate_left
                   ·simp only [Act.put,sa_,sb_,sc_,i64_w,i32_w]
                    rfl
                   refine tk_ (v:=?_) (a':=?_) 21 71 (bl_ 30 4194303) rfl rfl HT_.out HW_.out ?_ hHeld ?_ ?_;rotate_left
                   ·rintro w' ⟨s0,s1,s2,s3,s4,s5,s6,s7,s8⟩
                    go_simp;with_reducible rfl
                   rotate_left
                   ·simp only [Act.put,sa_,sb_,sc_,i64_w,i32_w]
                    rfl
                   refine pu_ (v:=?_) (a':=?_) 22 72 (bl_ 30 8388607) rfl rfl HT_.out ?_ ?_ ?_;rotate_left
                   ·intro w'
                    go_simp;with_reducible rfl
                   rotate_left
                   ·simp only [Act.put,sa_,sb_,sc_,i64_w,i32_w]
                    rfl
                   refine pu_ (v:=?_) (a':=?_) 23 73 (bl_ 30 16777215) rfl rfl HT_.out ?_ ?_ ?_;rotate_left
                   ·intro w'
                    go_simp;with_reducible rfl
                   rotate_left
                   ·simp only [Act.put,sa_,sb_,sc_,i64_w,i32_w]
                    rfl
                   refine tk_ (v:=?_) (a':=?_) 24 74 (bl_ 30 33554431) rfl rfl HT_.out HW_.out ?_ hHeld ?_ ?_;rotate_left
                   ·rintro w' ⟨s0,s1,s2,s3,s4,s5,s6,s7,s8⟩
                    go_simp;with_reducible rfl
                   rotate_left
                   ·simp only [Act.put,sa_,sb_,sc_,i64_w,i32_w]
                    rfl
                   refine one_ (i:=25) (N:=some 75) (bl_ 30 67108863) rfl rfl (one_of HT_.out (by kernel_rfl)) (by decide) (fun K hK => ?_);refine goes_ Try.func27 (by kernel_rfl) rfl #[.string ((rd_T40 l0 x18_2).f1),.string ((rd_T40 l0 ((rd_T40 l0 x18_2).f0)).f1)] (by rfl) rfl rfl ln_ ?_;with_reducible refine (strings_HasPrefix.calls ((rd_T40 l0 x18_2).f1) ((rd_T40 l0 ((rd_T40 l0 x18_2).f0)).f1) t108 _ A71.out).mono ?_
                   rintro e w' ⟨rfl,⟨nd,rfl⟩⟩;refine ⟨_,rfl,?_⟩;refine hK.out _ _ ⟨(blk_cell BK103.out 0).trans rfl,(blk_cell BK104.out 0).trans rfl,(blk_cell BK104.out 1).trans rfl,(blk_cell BK104.out 2).trans rfl,(blk_cell BK104.out 3).trans rfl,((HB.out.cell (World.block_lt_of_cell? w _ hw107_0)).trans hw107_0),((HB.out.cell (World.block_lt_of_cell? w _ hw107_1)).trans hw107_1),((HB.out.cell (World.block_lt_of_cell? w _ hw107_2)).trans hw107_2),((HB.out.cell (World.block_lt_of_cell? w _ hw107_3)).trans hw107_3)⟩ (fun hHeld => ?_);clear hK K;refine norm_ (a':=?_) ?_ ?_;rotate_left
                   ·show Act.put _ (some 75) _ = _
                    simp only [Act.put,sa_,sb_,sc_,i64_w,i32_w];rfl
                   refine pu_ (v:=?_) (a':=?_) 26 76 (bl_ 30 134217727) rfl rfl HT_.out ?_ ?_ ?_;rotate_left
                   ·intro w'
                    go_simp;with_reducible rfl
                   rotate_left
                   ·simp only [Act.put,sa_,sb_,sc_,i64_w,i32_w]
                    rfl
                   refine pu_ (v:=?_) (a':=?_) 27 77 (bl_ 30 268435455) rfl rfl HT_.out ?_ ?_ ?_;rotate_left
                   ·intro w'
                    go_simp;with_reducible rfl
                   rotate_left
                   ·simp only [Act.put,sa_,sb_,sc_,i64_w,i32_w]
                    rfl
                   refine pu_ (v:=?_) (a':=?_) 28 78 (bl_ 30 536870911) rfl rfl HT_.out ?_ ?_ ?_;rotate_left
                   ·intro w'
                    go_simp;with_reducible rfl
                   rotate_left
                   ·simp only [Act.put,sa_,sb_,sc_,i64_w,i32_w]
                    rfl
                   refine pu_ (v:=?_) (a':=?_) 29 49 (bl_ 30 1073741823) rfl rfl HT_.out ?_ ?_ ?_;rotate_left
                   ·intro w'
                    go_simp;with_reducible rfl
                   rotate_left
                   ·simp only [Act.put,sa_,sb_,sc_,i64_w,i32_w]
                    rfl
                   refine done_ (done_of HT_.out (by kernel_rfl)) ?_;try go_wp2
                   go_meet
                   case rel => exact ⟨_,(!t108),fr_,H',⟨by have:=HJ1.out;have:=HK2.out;have:=HJ9.out;first|omega|exact Nat.le_refl _⟩,⟨blk_mv BK101.out⟩,⟨blk_mv BK103.out⟩,⟨blk_mv BK104.out⟩,⟨bel_⟩⟩
                  ·rw [if_neg c70] at H
                   exact absurd H (by simp)
                 ·rw [if_neg c69] at H
                  exact absurd H (by simp)
                ·rw [if_neg c68] at H
                 have c68b0 : decide (0 < x18_2) = false:=decide_eq_false c68;clear c68;have H':=Aside0.mk H;clear H;try go_wp2
                 replace BK101:=Aside0.mk (blk_drew BK101.out);replace BK103:=Aside0.mk (blk_drew BK103.out);replace BK104:=Aside0.mk (blk_drew BK104.out);replace HB:=Aside0.mk (below_drew1 HB.out);refine start_ (n:=30) (S:=fun w' => w'.cell? ⟨gb103,0,none⟩ = some (.int .i64 x18_2) ∧ w'.cell? ⟨gb104,0,none⟩ = some (.int .i64 ((rd_T40 l0 x18_2).f0)) ∧ w'.cell? ⟨gb104,1,none⟩ = some (.string ((rd_T40 l0 x18_2).f1)) ∧ w'.cell? ⟨gb104,2,none⟩ = some (.slice A102_2 ((rd_T40 l0 x18_2).f2).length c102_2) ∧ w'.cell? ⟨gb104,3,none⟩ = some (.int .i64 ((rd_T40 l0 x18_2).f3))) (ds:=[]) (bl_ 30 0) (by kernel_rfl) rfl rfl ⟨(blk_cell BK103.out 0).trans rfl,(blk_cell BK104.out 0).trans rfl,(blk_cell BK104.out 1).trans rfl,(blk_cell BK104.out 2).trans rfl,(blk_cell BK104.out 3).trans rfl⟩ (fun hHeld => ?_);refine with_tabW roles_Validate.tab9 roles_Validate.bits9 (fun HT_ HW_ => ?_);generalize wc.drew = w73 at BK101 BK103 BK104 HB hHeld ⊢;refine tk_ (v:=?_) (a':=?_) 0 50 (bl_ 30 1) rfl rfl HT_.out HW_.out ?_ hHeld ?_ ?_;rotate_left
                 ·rintro w' ⟨s0,s1,s2,s3,s4⟩
                  go_simp;with_reducible rfl
                 rotate_left
                 ·simp only [Act.put,sa_,sb_,sc_,i64_w,i32_w]
                  rfl
                 refine pu_ (v:=?_) (a':=?_) 1 51 (bl_ 30 3) rfl rfl HT_.out ?_ ?_ ?_;rotate_left
                 ·intro w'
                  go_simp;with_reducible rfl
                 rotate_left
                 ·simp only [Act.put,sa_,sb_,sc_,i64_w,i32_w]
                  rfl
                 refine pu_ (v:=?_) (a':=?_) 2 52 (bl_ 30 7) rfl rfl HT_.out ?_ ?_ ?_;rotate_left
                 ·intro w'
                  go_simp;with_reducible rfl
                 rotate_left
                 ·simp only [Act.put,sa_,sb_,sc_,i64_w,i32_w]
                  rfl
                 refine pu_ (v:=?_) (a':=?_) 3 53 (bl_ 30 15) rfl rfl HT_.out ?_ ?_ ?_;rotate_left
                 ·intro w'
                  go_simp;with_reducible rfl
                 rotate_left
                 ·simp only [Act.put,sa_,sb_,sc_,i64_w,i32_w]
                  rfl
                 refine tk_ (v:=?_) (a':=?_) 4 54 (bl_ 30 31) rfl rfl HT_.out HW_.out ?_ hHeld ?_ ?_;rotate_left
                 ·rintro w' ⟨s0,s1,s2,s3,s4⟩
                  go_simp;with_reducible rfl
                 rotate_left
                 ·simp only [Act.put,sa_,sb_,sc_,i64_w,i32_w]
                  rfl
                 refine pu_ (v:=?_) (a':=?_) 5 55 (bl_ 30 63) rfl rfl HT_.out ?_ ?_ ?_;rotate_left
                 ·intro w'
                  go_simp;with_reducible rfl
                 rotate_left
                 ·simp only [Act.put,sa_,sb_,sc_,i64_w,i32_w]
                  rfl
                 refine pu_ (v:=?_) (a':=?_) 6 56 (bl_ 30 127) rfl rfl HT_.out ?_ ?_ ?_;rotate_left
                 ·intro w'
                  go_simp;with_reducible rfl
                 rotate_left
                 ·simp only [Act.put,sa_,sb_,sc_,i64_w,i32_w]
                  rfl
                 refine pu_ (v:=?_) (a':=?_) 7 57 (bl_ 30 255) rfl rfl HT_.out ?_ ?_ ?_;rotate_left
                 ·intro w'
                  go_simp;with_reducible rfl
                 rotate_left
                 ·simp only [Act.put,sa_,sb_,sc_,i64_w,i32_w]
                  rfl
                 refine pu_ (v:=?_) (a':=?_) 8 58 (bl_ 30 511) rfl rfl HT_.out ?_ ?_ ?_;rotate_left
                 ·intro w'
                  go_simp;with_reducible rfl
                 rotate_left
                 ·simp only [Act.put,sa_,sb_,sc_,i64_w,i32_w]
                  rfl
                 refine tk_ (v:=?_) (a':=?_) 9 59 (bl_ 30 1023) rfl rfl HT_.out HW_.out ?_ hHeld ?_ ?_;rotate_left
                 ·rintro w' ⟨s0,s1,s2,s3,s4⟩
                  go_simp;with_reducible rfl
                 rotate_left
                 ·simp only [Act.put,sa_,sb_,sc_,i64_w,i32_w]
                  rfl
                 refine pu_ (v:=?_) (a':=?_) 10 60 (bl_ 30 2047) rfl rfl HT_.out ?_ ?_ ?_;rotate_left
                 ·intro w'
                  go_simp;with_reducible rfl
                 rotate_left
                 ·simp only [Act.put,sa_,sb_,sc_,i64_w,i32_w]
                  rfl
                 refine pu_ (v:=?_) (a':=?_) 11 61 (bl_ 30 4095) rfl rfl HT_.out ?_ ?_ ?_;rotate_left
                 ·intro w'
                  go_simp;with_reducible rfl
                 rotate_left
                 ·simp only [Act.put,sa_,sb_,sc_,i64_w,i32_w]
                  rfl
                 refine pu_ (v:=?_) (a':=?_) 12 62 (bl_ 30 8191) rfl rfl HT_.out ?_ ?_ ?_;rotate_left
                 ·intro w'
                  go_simp;with_reducible rfl
                 rotate_left
                 ·simp only [Act.put,sa_,sb_,sc_,i64_w,i32_w]
                  rfl
                 refine pu_ (v:=?_) (a':=?_) 13 63 (bl_ 30 16383) rfl rfl HT_.out ?_ ?_ ?_;rotate_left
                 ·intro w'
                  go_simp;with_reducible rfl
                 rotate_left
                 ·simp only [Act.put,sa_,sb_,sc_,i64_w,i32_w]
                  rfl
                 refine tk_ (v:=?_) (a':=?_) 14 64 (bl_ 30 32767) rfl rfl HT_.out HW_.out ?_ hHeld ?_ ?_;rotate_left
                 ·rintro w' ⟨s0,s1,s2,s3,s4⟩
                  go_simp;with_reducible rfl
                 rotate_left
                 ·simp only [Act.put,sa_,sb_,sc_,i64_w,i32_w]
                  rfl
                 refine pu_ (v:=?_) (a':=?_) 15 65 (bl_ 30 65535) rfl rfl HT_.out ?_ ?_ ?_;rotate_left
                 ·intro w'
                  go_simp;with_reducible rfl
                 rotate_left
                 ·simp only [Act.put,sa_,sb_,sc_,i64_w,i32_w]
                  rfl
                 refine pu_ (v:=?_) (a':=?_) 16 66 (bl_ 30 131071) rfl rfl HT_.out ?_ ?_ ?_;rotate_left
                 ·intro w'
                  go_simp;with_reducible rfl
                 rotate_left
                 ·simp only [Act.put,sa_,sb_,sc_,i64_w,i32_w]
                  rfl
                 refine pun_ (a':=?_) 17 67 (bl_ 30 262143) rfl rfl HT_.out ?_ ?_;rotate_left
                 ·simp only [Act.put,sa_,sb_,sc_,i64_w,i32_w]
                  rfl
                 refine pun_ (a':=?_) 18 68 (bl_ 30 524287) rfl rfl HT_.out ?_ ?_;rotate_left
                 ·simp only [Act.put,sa_,sb_,sc_,i64_w,i32_w]
                  rfl
                 refine pun_ (a':=?_) 19 69 (bl_ 30 1048575) rfl rfl HT_.out ?_ ?_;rotate_left
                 ·simp only [Act.put,sa_,sb_,sc_,i64_w,i32_w]
                  rfl
                 refine pun_ (a':=?_) 20 70 (bl_ 30 2097151) rfl rfl HT_.out ?_ ?_;rotate_left
                 ·simp only [Act.put,sa_,sb_,sc_,i64_w,i32_w]
                  rfl
                 refine pun_ (a':=?_) 21 71 (bl_ 30 4194303) rfl rfl HT_.out ?_ ?_;rotate_left
                 ·simp only [Act.put,sa_,sb_,sc_,i64_w,i32_w]
                  rfl
                 refine pun_ (a':=?_) 22 72 (bl_ 30 8388607) rfl rfl HT_.out ?_ ?_;rotate_left
                 ·simp only [Act.put,sa_,sb_,sc_,i64_w,i32_w]
                  rfl
                 refine pun_ (a':=?_) 23 73 (bl_ 30 16777215) rfl rfl HT_.out ?_ ?_;rotate_left
                 ·simp only [Act.put,sa_,sb_,sc_,i64_w,i32_w]
                  rfl
                 refine pun_ (a':=?_) 24 74 (bl_ 30 33554431) rfl rfl HT_.out ?_ ?_;rotate_left
                 ·simp only [Act.put,sa_,sb_,sc_,i64_w,i32_w]
                  rfl
                 refine pun_ (a':=?_) 25 75 (bl_ 30 67108863) rfl rfl HT_.out ?_ ?_;rotate_left
                 ·simp only [Act.put,sa_,sb_,sc_,i64_w,i32_w]
                  rfl
                 refine pun_ (a':=?_) 26 76 (bl_ 30 134217727) rfl rfl HT_.out ?_ ?_;rotate_left
                 ·simp only [Act.put,sa_,sb_,sc_,i64_w,i32_w]
                  rfl
                 refine pu_ (v:=?_) (a':=?_) 27 77 (bl_ 30 268435455) rfl rfl HT_.out ?_ ?_ ?_;rotate_left
                 ·intro w'
                  go_simp;with_reducible rfl
                 rotate_left
                 ·simp only [Act.put,sa_,sb_,sc_,i64_w,i32_w]
                  rfl
                 refine pu_ (v:=?_) (a':=?_) 28 78 (bl_ 30 536870911) rfl rfl HT_.out ?_ ?_ ?_;rotate_left
                 ·intro w'
                  go_simp;with_reducible rfl
                 rotate_left
                 ·simp only [Act.put,sa_,sb_,sc_,i64_w,i32_w]
                  rfl
                 refine pu_ (v:=?_) (a':=?_) 29 49 (bl_ 30 1073741823) rfl rfl HT_.out ?_ ?_ ?_;rotate_left
                 ·intro w'
                  go_simp;with_reducible rfl
                 rotate_left
                 ·simp only [Act.put,sa_,sb_,sc_,i64_w,i32_w]
                  rfl
                 refine done_ (done_of HT_.out (by kernel_rfl)) ?_;try go_wp2
                 go_meet
                 case rel => exact ⟨_,(false),fr_,H',⟨by have:=HJ1.out;have:=HK2.out;have:=HJ9.out;first|omega|exact Nat.le_refl _⟩,⟨blk_mv BK101.out⟩,⟨blk_mv BK103.out⟩,⟨blk_mv BK104.out⟩,⟨bel_⟩⟩
              ·rw [if_neg c65] at H
               have c65b0 : (((rd_T40 l0 x18_2).f1).toList == ([] : List UInt8)) = false:=beq_eq_false_iff_ne.mpr c65;have c65b1 : (((rd_T40 l0 x18_2).f1).toList != ([] : List UInt8)) = true:=bne_iff_ne.mpr c65;have H':=Aside0.mk H;clear H;try go_wp2
               replace BK101:=Aside0.mk (blk_drew BK101.out);replace BK103:=Aside0.mk (blk_drew BK103.out);replace BK104:=Aside0.mk (blk_drew BK104.out);replace HB:=Aside0.mk (below_drew1 HB.out);refine start_ (n:=30) (S:=fun w' => w'.cell? ⟨gb103,0,none⟩ = some (.int .i64 x18_2) ∧ w'.cell? ⟨gb104,0,none⟩ = some (.int .i64 ((rd_T40 l0 x18_2).f0)) ∧ w'.cell? ⟨gb104,1,none⟩ = some (.string ((rd_T40 l0 x18_2).f1)) ∧ w'.cell? ⟨gb104,2,none⟩ = some (.slice A102_2 ((rd_T40 l0 x18_2).f2).length c102_2) ∧ w'.cell? ⟨gb104,3,none⟩ = some (.int .i64 ((rd_T40 l0 x18_2).f3))) (ds:=[]) (bl_ 30 0) (by kernel_rfl) rfl rfl ⟨(blk_cell BK103.out 0).trans rfl,(blk_cell BK104.out 0).trans rfl,(blk_cell BK104.out 1).trans rfl,(blk_cell BK104.out 2).trans rfl,(blk_cell BK104.out 3).trans rfl⟩ (fun hHeld => ?_);refine with_tabW roles_Validate.tab9 roles_Validate.bits9 (fun HT_ HW_ => ?_);generalize wc.drew = w74 at BK101 BK103 BK104 HB hHeld ⊢;refine tk_ (v:=?_) (a':=?_) 0 50 (bl_ 30 1) rfl rfl HT_.out HW_.out ?_ hHeld ?_ ?_;rotate_left
               ·rintro w' ⟨s0,s1,s2,s3,s4⟩
                go_simp;with_reducible rfl
               rotate_left
               ·simp only [Act.put,sa_,sb_,sc_,i64_w,i32_w]
                rfl
               refine pu_ (v:=?_) (a':=?_) 1 51 (bl_ 30 3) rfl rfl HT_.out ?_ ?_ ?_;rotate_left
               ·intro w'
                go_simp;with_reducible rfl
               rotate_left
               ·simp only [Act.put,sa_,sb_,sc_,i64_w,i32_w]
                rfl
               refine pu_ (v:=?_) (a':=?_) 2 52 (bl_ 30 7) rfl rfl HT_.out ?_ ?_ ?_;rotate_left
               ·intro w'
                go_simp;with_reducible rfl
               rotate_left
               ·simp only [Act.put,sa_,sb_,sc_,i64_w,i32_w]
                rfl
               refine pu_ (v:=?_) (a':=?_) 3 53 (bl_ 30 15) rfl rfl HT_.out ?_ ?_ ?_;rotate_left
               ·intro w'
                go_simp;with_reducible rfl
               rotate_left
               ·simp only [Act.put,sa_,sb_,sc_,i64_w,i32_w]
                rfl
               refine tk_ (v:=?_) (a':=?_) 4 54 (bl_ 30 31) rfl rfl HT_.out HW_.out ?_ hHeld ?_ ?_;rotate_left
               ·rintro w' ⟨s0,s1,s2,s3,s4⟩
                go_simp;with_reducible rfl
               rotate_left
               ·simp only [Act.put,sa_,sb_,sc_,i64_w,i32_w]
                rfl
               refine pu_ (v:=?_) (a':=?_) 5 55 (bl_ 30 63) rfl rfl HT_.out ?_ ?_ ?_;rotate_left
               ·intro w'
                go_simp;with_reducible rfl
               rotate_left
               ·simp only [Act.put,sa_,sb_,sc_,i64_w,i32_w]
                rfl
               refine pu_ (v:=?_) (a':=?_) 6 56 (bl_ 30 127) rfl rfl HT_.out ?_ ?_ ?_;rotate_left
               ·intro w'
                go_simp;with_reducible rfl
               rotate_left
               ·simp only [Act.put,sa_,sb_,sc_,i64_w,i32_w]
                rfl
               refine pu_ (v:=?_) (a':=?_) 7 57 (bl_ 30 255) rfl rfl HT_.out ?_ ?_ ?_;rotate_left
               ·intro w'
                go_simp;with_reducible rfl
               rotate_left
               ·simp only [Act.put,sa_,sb_,sc_,i64_w,i32_w]
                rfl
               refine pun_ (a':=?_) 8 58 (bl_ 30 511) rfl rfl HT_.out ?_ ?_;rotate_left
               ·simp only [Act.put,sa_,sb_,sc_,i64_w,i32_w]
                rfl
               refine pun_ (a':=?_) 9 59 (bl_ 30 1023) rfl rfl HT_.out ?_ ?_;rotate_left
               ·simp only [Act.put,sa_,sb_,sc_,i64_w,i32_w]
                rfl
               refine pun_ (a':=?_) 10 60 (bl_ 30 2047) rfl rfl HT_.out ?_ ?_;rotate_left
               ·simp only [Act.put,sa_,sb_,sc_,i64_w,i32_w]
                rfl
               refine pun_ (a':=?_) 11 61 (bl_ 30 4095) rfl rfl HT_.out ?_ ?_;rotate_left
               ·simp only [Act.put,sa_,sb_,sc_,i64_w,i32_w]
                rfl
               refine pu_ (v:=?_) (a':=?_) 12 62 (bl_ 30 8191) rfl rfl HT_.out ?_ ?_ ?_;rotate_left
               ·intro w'
                go_simp;with_reducible rfl
               rotate_left
               ·simp only [Act.put,sa_,sb_,sc_,i64_w,i32_w]
                rfl
               refine pu_ (v:=?_) (a':=?_) 13 63 (bl_ 30 16383) rfl rfl HT_.out ?_ ?_ ?_;rotate_left
               ·intro w'
                go_simp;with_reducible rfl
               rotate_left
               ·simp only [Act.put,sa_,sb_,sc_,i64_w,i32_w]
                rfl
               refine pun_ (a':=?_) 14 64 (bl_ 30 32767) rfl rfl HT_.out ?_ ?_;rotate_left
               ·simp only [Act.put,sa_,sb_,sc_,i64_w,i32_w]
                rfl
               refine pun_ (a':=?_) 15 65 (bl_ 30 65535) rfl rfl HT_.out ?_ ?_;rotate_left
               ·simp only [Act.put,sa_,sb_,sc_,i64_w,i32_w]
                rfl
               refine pun_ (a':=?_) 16 66 (bl_ 30 131071) rfl rfl HT_.out ?_ ?_;rotate_left
               ·simp only [Act.put,sa_,sb_,sc_,i64_w,i32_w]
                rfl
               refine pun_ (a':=?_) 17 67 (bl_ 30 262143) rfl rfl HT_.out ?_ ?_;rotate_left
               ·simp only [Act.put,sa_,sb_,sc_,i64_w,i32_w]
                rfl
               refine pun_ (a':=?_) 18 68 (bl_ 30 524287) rfl rfl HT_.out ?_ ?_;rotate_left
               ·simp only [Act.put,sa_,sb_,sc_,i64_w,i32_w]
                rfl
               refine pun_ (a':=?_) 19 69 (bl_ 30 1048575) rfl rfl HT_.out ?_ ?_;rotate_left
               ·simp only [Act.put,sa_,sb_,sc_,i64_w,i32_w]
                rfl
               refine pun_ (a':=?_) 20 70 (bl_ 30 2097151) rfl rfl HT_.out ?_ ?_;rotate_left
               ·simp only [Act.put,sa_,sb_,sc_,i64_w,i32_w]
                rfl
               refine pun_ (a':=?_) 21 71 (bl_ 30 4194303) rfl rfl HT_.out ?_ ?_;rotate_left
               ·simp only [Act.put,sa_,sb_,sc_,i64_w,i32_w]
                rfl
               refine pun_ (a':=?_) 22 72 (bl_ 30 8388607) rfl rfl HT_.out ?_ ?_;rotate_left
               ·simp only [Act.put,sa_,sb_,sc_,i64_w,i32_w]
                rfl
               refine pun_ (a':=?_) 23 73 (bl_ 30 16777215) rfl rfl HT_.out ?_ ?_;rotate_left
               ·simp only [Act.put,sa_,sb_,sc_,i64_w,i32_w]
                rfl
               refine pun_ (a':=?_) 24 74 (bl_ 30 33554431) rfl rfl HT_.out ?_ ?_;rotate_left
               ·simp only [Act.put,sa_,sb_,sc_,i64_w,i32_w]
                rfl
               refine pun_ (a':=?_) 25 75 (bl_ 30 67108863) rfl rfl HT_.out ?_ ?_;rotate_left
               ·simp only [Act.put,sa_,sb_,sc_,i64_w,i32_w]
                rfl
               refine pun_ (a':=?_) 26 76 (bl_ 30 134217727) rfl rfl HT_.out ?_ ?_;rotate_left
               ·simp only [Act.put,sa_,sb_,sc_,i64_w,i32_w]
                rfl
               refine pun_ (a':=?_) 27 77 (bl_ 30 268435455) rfl rfl HT_.out ?_ ?_;rotate_left
               ·simp only [Act.put,sa_,sb_,sc_,i64_w,i32_w]
                rfl
               refine pu_ (v:=?_) (a':=?_) 28 78 (bl_ 30 536870911) rfl rfl HT_.out ?_ ?_ ?_;rotate_left
               ·intro w'
                go_simp;with_reducible rfl
               rotate_left
               ·simp only [Act.put,sa_,sb_,sc_,i64_w,i32_w]
                rfl
               refine pu_ (v:=?_) (a':=?_) 29 49 (bl_ 30 1073741823) rfl rfl HT_.out ?_ ?_ ?_;rotate_left
               ·intro w'
                go_simp;with_reducible rfl
               rotate_left
               ·simp only [Act.put,sa_,sb_,sc_,i64_w,i32_w]
                rfl
               refine done_ (done_of HT_.out (by kernel_rfl)) ?_;try go_wp2
               go_meet
               case rel => exact ⟨_,(true),fr_,H',⟨by have:=HJ1.out;have:=HK2.out;have:=HJ9.out;first|omega|exact Nat.le_refl _⟩,⟨blk_mv BK101.out⟩,⟨blk_mv BK103.out⟩,⟨blk_mv BK104.out⟩,⟨bel_⟩⟩
             ·rw [if_neg c64] at H
              have c64b0 : (x18_2 == 0) = false:=beq_eq_false_iff_ne.mpr c64;have c64b1 : (x18_2 != 0) = true:=bne_iff_ne.mpr c64;(first|rw [c64b0]|(simp only [i64_w,i32_w];rw [c64b0])|skip);by_cases c75 : (((rd_T40 l0 x18_2).f1).size : Int) > 60
              ·rw [if_pos c75] at H
               have c75b0 : decide (60 < (((rd_T40 l0 x18_2).f1).size : Int)) = true:=decide_eq_true c75;have c75b1 : decide (60 < ((rd_T40 l0 x18_2).f1).size) = true:=decide_eq_true (by omega);clear c75;have H':=Aside0.mk H;clear H;try go_wp2
               replace BK101:=Aside0.mk (blk_drew BK101.out);replace BK103:=Aside0.mk (blk_drew BK103.out);replace BK104:=Aside0.mk (blk_drew BK104.out);replace HB:=Aside0.mk (below_drew1 HB.out);refine start_ (n:=30) (S:=fun w' => w'.cell? ⟨gb103,0,none⟩ = some (.int .i64 x18_2) ∧ w'.cell? ⟨gb104,0,none⟩ = some (.int .i64 ((rd_T40 l0 x18_2).f0)) ∧ w'.cell? ⟨gb104,1,none⟩ = some (.string ((rd_T40 l0 x18_2).f1)) ∧ w'.cell? ⟨gb104,2,none⟩ = some (.slice A102_2 ((rd_T40 l0 x18_2).f2).length c102_2) ∧ w'.cell? ⟨gb104,3,none⟩ = some (.int .i64 ((rd_T40 l0 x18_2).f3))) (ds:=[]) (bl_ 30 0) (by kernel_rfl) rfl rfl ⟨(blk_cell BK103.out 0).trans rfl,(blk_cell BK104.out 0).trans rfl,(blk_cell BK104.out 1).trans rfl,(blk_cell BK104.out 2).trans rfl,(blk_cell BK104.out 3).trans rfl⟩ (fun hHeld => ?_);refine with_tabW roles_Validate.tab9 roles_Validate.bits9 (fun HT_ HW_ => ?_);generalize wc.drew = w76 at BK101 BK103 BK104 HB hHeld ⊢;refine tk_ (v:=?_) (a':=?_) 0 50 (bl_ 30 1) rfl rfl HT_.out HW_.out ?_ hHeld ?_ ?_;rotate_left
               ·rintro w' ⟨s0,s1,s2,s3,s4⟩
                go_simp;with_reducible rfl
               rotate_left
               ·simp only [Act.put,sa_,sb_,sc_,i64_w,i32_w]
                rfl
               refine pu_ (v:=?_) (a':=?_) 1 51 (bl_ 30 3) rfl rfl HT_.out ?_ ?_ ?_;rotate_left
               ·intro w'
                go_simp;with_reducible rfl
               rotate_left
               ·simp only [Act.put,sa_,sb_,sc_,i64_w,i32_w]
                rfl
               refine pu_ (v:=?_) (a':=?_) 2 52 (bl_ 30 7) rfl rfl HT_.out ?_ ?_ ?_;rotate_left
               ·intro w'
                go_simp;with_reducible rfl
               rotate_left
               ·simp only [Act.put,sa_,sb_,sc_,i64_w,i32_w]
                rfl
               refine pun_ (a':=?_) 3 53 (bl_ 30 15) rfl rfl HT_.out ?_ ?_;rotate_left
               ·simp only [Act.put,sa_,sb_,sc_,i64_w,i32_w]
                rfl
               refine pun_ (a':=?_) 4 54 (bl_ 30 31) rfl rfl HT_.out ?_ ?_;rotate_left
               ·simp only [Act.put,sa_,sb_,sc_,i64_w,i32_w]
                rfl
               refine pun_ (a':=?_) 5 55 (bl_ 30 63) rfl rfl HT_.out ?_ ?_;rotate_left
               ·simp only [Act.put,sa_,sb_,sc_,i64_w,i32_w]
                rfl
               refine pu_ (v:=?_) (a':=?_) 6 56 (bl_ 30 127) rfl rfl HT_.out ?_ ?_ ?_;rotate_left
               ·intro w'
                go_simp;with_reducible rfl
               rotate_left
               ·simp only [Act.put,sa_,sb_,sc_,i64_w,i32_w]
                rfl
               refine pu_ (v:=?_) (a':=?_) 7 57 (bl_ 30 255) rfl rfl HT_.out ?_ ?_ ?_;rotate_left
               ·intro w'
                go_simp;with_reducible rfl
               rotate_left
               ·simp only [Act.put,sa_,sb_,sc_,i64_w,i32_w]
                rfl
               refine pu_ (v:=?_) (a':=?_) 8 58 (bl_ 30 511) rfl rfl HT_.out ?_ ?_ ?_;rotate_left
               ·intro w'
                go_simp;with_reducible rfl
               rotate_left
               ·simp only [Act.put,sa_,sb_,sc_,i64_w,i32_w]
                rfl
               refine tk_ (v:=?_) (a':=?_) 9 59 (bl_ 30 1023) rfl rfl HT_.out HW_.out ?_ hHeld ?_ ?_;rotate_left
               ·rintro w' ⟨s0,s1,s2,s3,s4⟩
                go_simp;with_reducible rfl
               rotate_left
               ·simp only [Act.put,sa_,sb_,sc_,i64_w,i32_w]
                rfl
               refine pu_ (v:=?_) (a':=?_) 10 60 (bl_ 30 2047) rfl rfl HT_.out ?_ ?_ ?_;rotate_left
               ·intro w'
                go_simp;with_reducible rfl
               rotate_left
               ·simp only [Act.put,sa_,sb_,sc_,i64_w,i32_w]
                rfl
               refine pu_ (v:=?_) (a':=?_) 11 61 (bl_ 30 4095) rfl rfl HT_.out ?_ ?_ ?_;rotate_left
               ·intro w'
                go_simp;with_reducible rfl
               rotate_left
               ·simp only [Act.put,sa_,sb_,sc_,i64_w,i32_w]
                rfl
               refine pu_ (v:=?_) (a':=?_) 12 62 (bl_ 30 8191) rfl rfl HT_.out ?_ ?_ ?_;rotate_left
               ·intro w'
                go_simp;with_reducible rfl
               rotate_left
               ·simp only [Act.put,sa_,sb_,sc_,i64_w,i32_w]
                rfl
               refine pu_ (v:=?_) (a':=?_) 13 63 (bl_ 30 16383) rfl rfl HT_.out ?_ ?_ ?_;rotate_left
               ·intro w'
                go_simp;with_reducible rfl
               rotate_left
               ·simp only [Act.put,sa_,sb_,sc_,i64_w,i32_w]
                rfl
               refine pun_ (a':=?_) 14 64 (bl_ 30 32767) rfl rfl HT_.out ?_ ?_;rotate_left
               ·simp only [Act.put,sa_,sb_,sc_,i64_w,i32_w]
                rfl
               refine pun_ (a':=?_) 15 65 (bl_ 30 65535) rfl rfl HT_.out ?_ ?_;rotate_left
               ·simp only [Act.put,sa_,sb_,sc_,i64_w,i32_w]
                rfl
               refine pun_ (a':=?_) 16 66 (bl_ 30 131071) rfl rfl HT_.out ?_ ?_;rotate_left
               ·simp only [Act.put,sa_,sb_,sc_,i64_w,i32_w]
                rfl
               refine pun_ (a':=?_) 17 67 (bl_ 30 262143) rfl rfl HT_.out ?_ ?_;rotate_left
               ·simp only [Act.put,sa_,sb_,sc_,i64_w,i32_w]
                rfl
               refine pun_ (a':=?_) 18 68 (bl_ 30 524287) rfl rfl HT_.out ?_ ?_;rotate_left
               ·simp only [Act.put,sa_,sb_,sc_,i64_w,i32_w]
                rfl
               refine pun_ (a':=?_) 19 69 (bl_ 30 1048575) rfl rfl HT_.out ?_ ?_;rotate_left
               ·simp only [Act.put,sa_,sb_,sc_,i64_w,i32_w]
                rfl
               refine pun_ (a':=?_) 20 70 (bl_ 30 2097151) rfl rfl HT_.out ?_ ?_;rotate_left
               ·simp only [Act.put,sa_,sb_,sc_,i64_w,i32_w]
                rfl
               refine pun_ (a':=?_) 21 71 (bl_ 30 4194303) rfl rfl HT_.out ?_ ?_;rotate_left
               ·simp only [Act.put,sa_,sb_,sc_,i64_w,i32_w]
                rfl
               refine pun_ (a':=?_) 22 72 (bl_ 30 8388607) rfl rfl HT_.out ?_ ?_;rotate_left
               ·simp only [Act.put,sa_,sb_,sc_,i64_w,i32_w]
                rfl
               refine pun_ (a':=?_) 23 73 (bl_ 30 16777215) rfl rfl HT_.out ?_ ?_;rotate_left
               ·simp only [Act.put,sa_,sb_,sc_,i64_w,i32_w]
                rfl
               refine pun_ (a':=?_) 24 74 (bl_ 30 33554431) rfl rfl HT_.out ?_ ?_;rotate_left
               ·simp only [Act.put,sa_,sb_,sc_,i64_w,i32_w]
                rfl
               refine pun_ (a':=?_) 25 75 (bl_ 30 67108863) rfl rfl HT_.out ?_ ?_;rotate_left
               ·simp only [Act.put,sa_,sb_,sc_,i64_w,i32_w]
                rfl
               refine pun_ (a':=?_) 26 76 (bl_ 30 134217727) rfl rfl HT_.out ?_ ?_;rotate_left
               ·simp only [Act.put,sa_,sb_,sc_,i64_w,i32_w]
                rfl
               refine pun_ (a':=?_) 27 77 (bl_ 30 268435455) rfl rfl HT_.out ?_ ?_;rotate_left
               ·simp only [Act.put,sa_,sb_,sc_,i64_w,i32_w]
                rfl
               refine pu_ (v:=?_) (a':=?_) 28 78 (bl_ 30 536870911) rfl rfl HT_.out ?_ ?_ ?_;rotate_left
               ·intro w'
                go_simp;with_reducible rfl
               rotate_left
               ·simp only [Act.put,sa_,sb_,sc_,i64_w,i32_w]
                rfl
               refine pu_ (v:=?_) (a':=?_) 29 49 (bl_ 30 1073741823) rfl rfl HT_.out ?_ ?_ ?_;rotate_left
               ·intro w'
                go_simp;with_reducible rfl
               rotate_left
               ·simp only [Act.put,sa_,sb_,sc_,i64_w,i32_w]
                rfl
               refine done_ (done_of HT_.out (by kernel_rfl)) ?_;try go_wp2
               go_meet
               case rel => exact ⟨_,(true),fr_,H',⟨by have:=HJ1.out;have:=HK2.out;have:=HJ9.out;first|omega|exact Nat.le_refl _⟩,⟨blk_mv BK101.out⟩,⟨blk_mv BK103.out⟩,⟨blk_mv BK104.out⟩,⟨bel_⟩⟩
              ·rw [if_neg c75] at H
               have c75b0 : decide (60 < (((rd_T40 l0 x18_2).f1).size : Int)) = false:=decide_eq_false c75;have c75b1 : decide (60 < ((rd_T40 l0 x18_2).f1).size) = false:=decide_eq_false (by omega);clear c75;by_cases c77 : x18_2 > 0
               ·rw [if_pos c77] at H
                have c77b0 : decide (0 < x18_2) = true:=decide_eq_true c77;clear c77;by_cases c78 : 0 ≤ ((rd_T40 l0 x18_2).f0)
                ·rw [if_pos c78] at H
                 have c78b0 : decide (0 ≤ ((rd_T40 l0 x18_2).f0)) = true:=decide_eq_true c78;clear c78;by_cases c79 : ((rd_T40 l0 x18_2).f0) < (l0.length : Int)
                 ·rw [if_pos c79] at H
                  have c79b0 : decide (((rd_T40 l0 x18_2).f0) < (l0.length : Int)) = true:=decide_eq_true c79;clear c79;replace H:=Option.bind_eq_some_iff.mp H;obtain ⟨t110,A800,H⟩:=H;replace H : (roles_Validate.j3 kj9 l0 l0 (l0.length : Int) x18_2 (!t110) x18_2 ((rd_T40 l0 x18_2).f0) ((rd_T40 l0 x18_2).f1) ((rd_T40 l0 x18_2).f2) ((rd_T40 l0 x18_2).f3)) = some (r1,r2):=H;have A80:=Aside0.mk A800;clear A800;have H':=Aside0.mk H;clear H;try go_wp2
                  replace BK101:=Aside0.mk (blk_drew BK101.out);replace BK103:=Aside0.mk (blk_drew BK103.out);replace BK104:=Aside0.mk (blk_drew BK104.out);replace HB:=Aside0.mk (below_drew1 HB.out);have p109 : 0 ≤ (((rd_T40 l0 x18_2).f0) : Int):=of_decide_eq_true as_;have q109 : ((rd_T40 l0 x18_2).f0) < (l0.length : Int):=of_decide_eq_true as_;obtain ⟨ad109,A109_2,c109_2,e109,hx109_0,hx109_1,hx109_2,hx109_3,hl109_2,hi109_2⟩:=at_T40 HR0.out ((rd_T40 l0 x18_2).f0) p109 q109;have hw109_3:=hx109_3;have hw109_2:=hx109_2;have hw109_1:=hx109_1;have hw109_0:=hx109_0;obtain rfl : ad102 = ad109:=(by injection e109);replace hx109_0:=(HB.out.cell (World.block_lt_of_cell? w _ hx109_0)).trans hx109_0;replace hx109_1:=(HB.out.cell (World.block_lt_of_cell? w _ hx109_1)).trans hx109_1;replace hx109_2:=(HB.out.cell (World.block_lt_of_cell? w _ hx109_2)).trans hx109_2;replace hx109_3:=(HB.out.cell (World.block_lt_of_cell? w _ hx109_3)).trans hx109_3;have HR109_2:=Aside0.mk hi109_2;have HC109_2:=Aside0.mk hl109_2;clear hi109_2 hl109_2;replace p109:=eq_true p109;replace q109:=eq_true q109;refine start_ (n:=30) (S:=fun w' => w'.cell? ⟨gb103,0,none⟩ = some (.int .i64 x18_2) ∧ w'.cell? ⟨gb104,0,none⟩ = some (.int .i64 ((rd_T40 l0 x18_2).f0)) ∧ w'.cell? ⟨gb104,1,none⟩ = some (.string ((rd_T40 l0 x18_2).f1)) ∧ w'.cell? ⟨gb104,2,none⟩ = some (.slice A102_2 ((rd_T40 l0 x18_2).f2).length c102_2) ∧ w'.cell? ⟨gb104,3,none⟩ = some (.int .i64 ((rd_T40 l0 x18_2).f3)) ∧ w'.cell? (ad102.add ((((rd_T40 l0 x18_2).f0)).toNat * 4)) = some (.int .i64 ((rd_T40 l0 ((rd_T40 l0 x18_2).f0)).f0)) ∧ w'.cell? ⟨(ad102.add ((((rd_T40 l0 x18_2).f0)).toNat * 4)).block,(ad102.add ((((rd_T40 l0 x18_2).f0)).toNat * 4)).off + 1,none⟩ = some (.string ((rd_T40 l0 ((rd_T40 l0 x18_2).f0)).f1)) ∧ w'.cell? ⟨(ad102.add ((((rd_T40 l0 x18_2).f0)).toNat * 4)).block,(ad102.add ((((rd_T40 l0 x18_2).f0)).toNat * 4)).off + 2,none⟩ = some (.slice A109_2 ((rd_T40 l0 ((rd_T40 l0 x18_2).f0)).f2).length c109_2) ∧ w'.cell? ⟨(ad102.add ((((rd_T40 l0 x18_2).f0)).toNat * 4)).block,(ad102.add ((((rd_T40 l0 x18_2).f0)).toNat * 4)).off + 3,none⟩ = some (.int .i64 ((rd_T40 l0 ((rd_T40 l0 x18_2).f0)).f3))) (ds:=[]) (bl_ 30 0) (by kernel_rfl) rfl rfl ⟨(blk_cell BK103.out 0).trans rfl,(blk_cell BK104.out 0).trans rfl,(blk_cell BK104.out 1).trans rfl,(blk_cell BK104.out 2).trans rfl,(blk_cell BK104.out 3).trans rfl,((HB.out.cell (World.block_lt_of_cell? w _ hw109_0)).trans hw109_0),((HB.out.cell (World.block_lt_of_cell? w _ hw109_1)).trans hw109_1),((HB.out.cell (World.block_lt_of_cell? w _ hw109_2)).trans hw109_2),((HB.out.cell (World.block_lt_of_cell? w _ hw109_3)).trans hw109_3)⟩ (fun hHeld => ?_);refine with_tabW roles_Validate.tab9 roles_Validate.bits9 (fun HT_ HW_ => ?_);generalize wc.drew = w81 at BK101 BK103 BK104 HB HR109_2 hx109_0 hx109_1 hx109_2 hx109_3 hHeld ⊢;refine tk_ (v:=?_) (a':=?_) 0 50 (bl_ 30 1) rfl rfl HT_.out HW_.out ?_ hHeld ?_ ?_;rotate_left
                  ·rintro w' ⟨s0,s1,s2,s3,s4,s5,s6,s7,s8⟩
                   go_simp;with_reducible rfl
                  rotate_left
                  ·simp only [Act.put,sa_,sb_,sc_,i64_w,i32_w]
                   rfl
                  refine pu_ (v:=?_) (a':=?_) 1 51 (bl_ 30 3) rfl rfl HT_.out ?_ ?_ ?_;rotate_left
                  ·intro w'
                   go_simp;with_reducible rfl
                  rotate_left
                  ·simp only [Act.put,sa_,sb_,sc_,i64_w,i32_w]
                   rfl
                  refine pu_ (v:=?_) (a':=?_) 2 52 (bl_ 30 7) rfl rfl HT_.out ?_ ?_ ?_;rotate_left
                  ·intro w'
                   go_simp;with_reducible rfl
                  rotate_left
                  ·simp only [Act.put,sa_,sb_,sc_,i64_w,i32_w]
                   rfl
                  refine pun_ (a':=?_) 3 53 (bl_ 30 15) rfl rfl HT_.out ?_ ?_;rotate_left
                  ·simp only [Act.put,sa_,sb_,sc_,i64_w,i32_w]
                   rfl
                  refine pun_ (a':=?_) 4 54 (bl_ 30 31) rfl rfl HT_.out ?_ ?_;rotate_left
                  ·simp only [Act.put,sa_,sb_,sc_,i64_w,i32_w]
                   rfl
                  refine pun_ (a':=?_) 5 55 (bl_ 30 63) rfl rfl HT_.out ?_ ?_;rotate_left
                  ·simp only [Act.put,sa_,sb_,sc_,i64_w,i32_w]
                   rfl
                  refine pu_ (v:=?_) (a':=?_) 6 56 (bl_ 30 127) rfl rfl HT_.out ?_ ?_ ?_;rotate_left
                  ·intro w'
                   go_simp;with_reducible rfl
                  rotate_left
                  ·simp only [Act.put,sa_,sb_,sc_,i64_w,i32_w]
                   rfl
                  refine pu_ (v:=?_) (a':=?_) 7 57 (bl_ 30 255) rfl rfl HT_.out ?_ ?_ ?_;rotate_left
                  ·intro w'
                   go_simp;with_reducible rfl
                  rotate_left
                  ·simp only [Act.put,sa_,sb_,sc_,i64_w,i32_w]
                   rfl
                  refine pu_ (v:=?_) (a':=?_) 8 58 (bl_ 30 511) rfl rfl HT_.out ?_ ?_ ?_;rotate_left
                  ·intro w'
                   go_simp;with_reducible rfl
                  rotate_left
                  ·simp only [Act.put,sa_,sb_,sc_,i64_w,i32_w]
                   rfl
                  refine tk_ (v:=?_) (a':=?_) 9 59 (bl_ 30 1023) rfl rfl HT_.out HW_.out ?_ hHeld ?_ ?_;rotate_left
                  ·rintro w' ⟨s0,s1,s2,s3,s4,s5,s6,s7,s8⟩
                   go_simp;with_reducible rfl
                  rotate_left
                  ·simp only [Act.put,sa_,sb_,sc_,i64_w,i32_w]
                   rfl
                  refine pu_ (v:=?_) (a':=?_) 10 60 (bl_ 30 2047) rfl rfl HT_.out ?_ ?_ ?_;rotate_left
                  ·intro w'
                   go_simp;with_reducible rfl
                  rotate_left
                  ·simp only [Act.put,sa_,sb_,sc_,i64_w,i32_w]
                   rfl
                  refine pu_ (v:=?_) (a':=?_) 11 61 (bl_ 30 4095) rfl rfl HT_.out ?_ ?_ ?_;rotate_left
                  ·intro w'
                   go_simp;with_reducible rfl
                  rotate_left
                  ·simp only [Act.put,sa_,sb_,sc_,i64_w,i32_w]
                   rfl
                  refine pu_ (v:=?_) (a':=?_) 12 62 (bl_ 30 8191) rfl rfl HT_.out ?_ ?_ ?_;rotate_left
                  ·intro w'
                   go_simp;with_reducible rfl
                  rotate_left
                  ·simp only [Act.put,sa_,sb_,sc_,i64_w,i32_w]
                   rfl
                  refine pu_ (v:=?_) (a':=?_) 13 63 (bl_ 30 16383) rfl rfl HT_.out ?_ ?_ ?_;rotate_left
                  ·intro w'
                   go_simp;with_reducible rfl
                  rotate_left
                  ·simp only [Act.put,sa_,sb_,sc_,i64_w,i32_w]
                   rfl
                  refine tk_ (v:=?_) (a':=?_) 14 64 (bl_ 30 32767) rfl rfl HT_.out HW_.out ?_ hHeld ?_ ?_;rotate_left
                  ·rintro w' ⟨s0,s1,s2,s3,s4,s5,s6,s7,s8⟩
                   go_simp;with_reducible rfl
                  rotate_left
                  ·simp only [Act.put,sa_,sb_,sc_,i64_w,i32_w]
                   rfl
                  refine pu_ (v:=?_) (a':=?_) 15 65 (bl_ 30 65535) rfl rfl HT_.out ?_ ?_ ?_;rotate_left
                  ·intro w'
                   go_simp;with_reducible rfl
                  rotate_left
                  ·simp only [Act.put,sa_,sb_,sc_,i64_w,i32_w]
                   rfl
                  refine pu_ (v:=?_) (a':=?_) 16 66 (bl_ 30 131071) rfl rfl HT_.out ?_ ?_ ?_;rotate_left
                  ·intro w'
                   go_simp;with_reducible rfl
                  rotate_left
                  ·simp only [Act.put,sa_,sb_,sc_,i64_w,i32_w]
                   rfl
                  refine pu_ (v:=?_) (a':=?_) 17 67 (bl_ 30 262143) rfl rfl HT_.out ?_ ?_ ?_;rotate_left
                  ·intro w'
                   go_simp;with_reducible rfl
                  rotate_left
                  ·simp only [Act.put,sa_,sb_,sc_,i64_w,i32_w]
                   rfl
                  refine pu_ (v:=?_) (a':=?_) 19 69 (bl_ 30 786431) rfl rfl HT_.out ?_ ?_ ?_;rotate_left
                  ·intro w'
                   go_simp;with_reducible rfl
                  rotate_left
                  ·simp only [Act.put,sa_,sb_,sc_,i64_w,i32_w]
                   rfl
                  refine pu_ (v:=?_) (a':=?_) 20 70 (bl_ 30 1835007) rfl rfl HT_.out ?_ ?_ ?_;rotate_left
                  ·intro w'
                   go_simp;with_reducible rfl
                  rotate_left
                  ·simp only [Act.put,sa_,sb_,sc_,i64_w,i32_w]
                   rfl
                  refine tk_ (v:=?_) (a':=?_) 18 68 (bl_ 30 2097151) rfl rfl HT_.out HW_.out ?_ hHeld ?_ ?_;rotate_left
                  ·rintro w' ⟨s0,s1,s2,s3,s4,s5,s6,s7,s8⟩
                   go_simp;with_reducible rfl
                  rotate_left
                  ·simp only [Act.put,sa_,sb_,sc_,i64_w,i32_w]
                   rfl
                  refine tk_ (v:=?_) (a':=?_) 21 71 (bl_ 30 4194303) rfl rfl HT_.out HW_.out ?_ hHeld ?_ ?_;rotate_left
                  ·rintro w' ⟨s0,s1,s2,s3,s4,s5,s6,s7,s8⟩
                   go_simp;with_reducible rfl
                  rotate_left
                  ·simp only [Act.put,sa_,sb_,sc_,i64_w,i32_w]
                   rfl
                  refine pu_ (v:=?_) (a':=?_) 22 72 (bl_ 30 8388607) rfl rfl HT_.out ?_ ?_ ?_;rotate_left
                  ·intro w'
                   go_simp;with_reducible rfl
                  rotate_left
                  ·simp only [Act.put,sa_,sb_,sc_,i64_w,i32_w]
                   rfl
                  refine pu_ (v:=?_) (a':=?_) 23 73 (bl_ 30 16777215) rfl rfl HT_.out ?_ ?_ ?_;rotate_left
                  ·intro w'
                   go_simp;with_reducible rfl
                  rotate_left
                  ·simp only [Act.put,sa_,sb_,sc_,i64_w,i32_w]
                   rfl
                  refine tk_ (v:=?_) (a':=?_) 24 74 (bl_ 30 33554431) rfl rfl HT_.out HW_.out ?_ hHeld ?_ ?_;rotate_left
                  ·rintro w' ⟨s0,s1,s2,s3,s4,s5,s6,s7,s8⟩
                   go_simp;with_reducible rfl
                  rotate_left
                  ·simp only [Act.put,sa_,sb_,sc_,i64_w,i32_w]
                   rfl
                  refine one_ (i:=25) (N:=some 75) (bl_ 30 67108863) rfl rfl (one_of HT_.out (by kernel_rfl)) (by decide) (fun K hK => ?_);refine goes_ Try.func27 (by kernel_rfl) rfl #[.string ((rd_T40 l0 x18_2).f1),.string ((rd_T40 l0 ((rd_T40 l0 x18_2).f0)).f1)] (by rfl) rfl rfl ln_ ?_;with_reducible refine (strings_HasPrefix.calls ((rd_T40 l0 x18_2).f1) ((rd_T40 l0 ((rd_T40 l0 x18_2).f0)).f1) t110 _ A80.out).mono ?_
                  rintro e w' ⟨rfl,⟨nd,rfl⟩⟩;refine ⟨_,rfl,?_⟩;refine hK.out _ _ ⟨(blk_cell BK103.out 0).trans rfl,(blk_cell BK104.out 0).trans rfl,(blk_cell BK104.out 1).trans rfl,(blk_cell BK104.out 2).trans rfl,(blk_cell BK104.out 3).trans rfl,((HB.out.cell (World.block_lt_of_cell? w _ hw109_0)).trans hw109_0),((HB.out.cell (World.block_lt_of_cell? w _ hw109_1)).trans hw109_1),((HB.out.cell (World.block_lt_of_cell? w _ hw109_2)).trans hw109_2),((HB.out.cell (World.block_lt_of_cell? w _ hw109_3)).trans hw109_3)⟩ (fun hHeld => ?_);clear hK K;refine norm_ (a':=?_) ?_ ?_;rotate_left
                  ·show Act.put _ (some 75) _ = _
                   simp only [Act.put,sa_,sb_,sc_,i64_w,i32_w];rfl
                  refine pu_ (v:=?_) (a':=?_) 26 76 (bl_ 30 134217727) rfl rfl HT_.out ?_ ?_ ?_;rotate_left
                  ·intro w'
                   go_simp;with_reducible rfl
                  rotate_left
                  ·simp only [Act.put,sa_,sb_,sc_,i64_w,i32_w]
                   rfl
                  refine pu_ (v:=?_) (a':=?_) 27 77 (bl_ 30 268435455) rfl rfl HT_.out ?_ ?_ ?_;rotate_left
                  ·intro w'
                   go_simp;with_reducible rfl
                  rotate_left
                  ·simp only [Act.put,sa_,sb_,sc_,i64_w,i32_w]
                   rfl
                  refine pu_ (v:=?_) (a':=?_) 28 78 (bl_ 30 536870911) rfl rfl HT_.out ?_ ?_ ?_;rotate_left
                  ·intro w'
                   go_simp;with_reducible rfl
                  rotate_left
                  ·simp only [Act.put,sa_,sb_,sc_,i64_w,i32_w]
                   rfl
                  refine pu_ (v:=?_) (a':=?_) 29 49 (bl_ 30 1073741823) rfl rfl HT_.out ?_ ?_ ?_;rotate_left
                  ·intro w'
                   go_simp;with_reducible rfl
                  rotate_left
                  ·simp only [Act.put,sa_,sb_,sc_,i64_w,i32_w]
                   rfl
                  refine done_ (done_of HT_.out (by kernel_rfl)) ?_;try go_wp2
                  go_meet
                  case rel => exact ⟨_,(!t110),fr_,H',⟨by have:=HJ1.out;have:=HK2.out;have:=HJ9.out;first|omega|exact Nat.le_refl _⟩,⟨blk_mv BK101.out⟩,⟨blk_mv BK103.out⟩,⟨blk_mv BK104.out⟩,⟨bel_⟩⟩
                 ·rw [if_neg c79] at H
                  exact absurd H (by simp)
                ·rw [if_neg c78] at H
                 exact absurd H (by simp)
               ·rw [if_neg c77] at H
                have c77b0 : decide (0 < x18_2) = false:=decide_eq_false c77;clear c77;have H':=Aside0.mk H;clear H;try go_wp2
                replace BK101:=Aside0.mk (blk_drew BK101.out);replace BK103:=Aside0.mk (blk_drew BK103.out);replace BK104:=Aside0.mk (blk_drew BK104.out);replace HB:=Aside0.mk (below_drew1 HB.out);refine start_ (n:=30) (S:=fun w' => w'.cell? ⟨gb103,0,none⟩ = some (.int .i64 x18_2) ∧ w'.cell? ⟨gb104,0,none⟩ = some (.int .i64 ((rd_T40 l0 x18_2).f0)) ∧ w'.cell? ⟨gb104,1,none⟩ = some (.string ((rd_T40 l0 x18_2).f1)) ∧ w'.cell? ⟨gb104,2,none⟩ = some (.slice A102_2 ((rd_T40 l0 x18_2).f2).length c102_2) ∧ w'.cell? ⟨gb104,3,none⟩ = some (.int .i64 ((rd_T40 l0 x18_2).f3))) (ds:=[]) (bl_ 30 0) (by kernel_rfl) rfl rfl ⟨(blk_cell BK103.out 0).trans rfl,(blk_cell BK104.out 0).trans rfl,(blk_cell BK104.out 1).trans rfl,(blk_cell BK104.out 2).trans rfl,(blk_cell BK104.out 3).trans rfl⟩ (fun hHeld => ?_);refine with_tabW roles_Validate.tab9 roles_Validate.bits9 (fun HT_ HW_ => ?_);generalize wc.drew = w82 at BK101 BK103 BK104 HB hHeld ⊢;refine tk_ (v:=?_) (a':=?_) 0 50 (bl_ 30 1) rfl rfl HT_.out HW_.out ?_ hHeld ?_ ?_;rotate_left
                ·rintro w' ⟨s0,s1,s2,s3,s4⟩
                 go_simp;with_reducible rfl
                rotate_left
                ·simp only [Act.put,sa_,sb_,sc_,i64_w,i32_w]
                 rfl
                refine pu_ (v:=?_) (a':=?_) 1 51 (bl_ 30 3) rfl rfl HT_.out ?_ ?_ ?_;rotate_left
                ·intro w'
                 go_simp;with_reducible rfl
                rotate_left
                ·simp only [Act.put,sa_,sb_,sc_,i64_w,i32_w]
                 rfl
                refine pu_ (v:=?_) (a':=?_) 2 52 (bl_ 30 7) rfl rfl HT_.out ?_ ?_ ?_;rotate_left
                ·intro w'
                 go_simp;with_reducible rfl
                rotate_left
                ·simp only [Act.put,sa_,sb_,sc_,i64_w,i32_w]
                 rfl
                refine pun_ (a':=?_) 3 53 (bl_ 30 15) rfl rfl HT_.out ?_ ?_;rotate_left
                ·simp only [Act.put,sa_,sb_,sc_,i64_w,i32_w]
                 rfl
                refine pun_ (a':=?_) 4 54 (bl_ 30 31) rfl rfl HT_.out ?_ ?_;rotate_left
                ·simp only [Act.put,sa_,sb_,sc_,i64_w,i32_w]
                 rfl
                refine pun_ (a':=?_) 5 55 (bl_ 30 63) rfl rfl HT_.out ?_ ?_;rotate_left
                ·simp only [Act.put,sa_,sb_,sc_,i64_w,i32_w]
                 rfl
                refine pu_ (v:=?_) (a':=?_) 6 56 (bl_ 30 127) rfl rfl HT_.out ?_ ?_ ?_;rotate_left
                ·intro w'
                 go_simp;with_reducible rfl
                rotate_left
                ·simp only [Act.put,sa_,sb_,sc_,i64_w,i32_w]
                 rfl
                refine pu_ (v:=?_) (a':=?_) 7 57 (bl_ 30 255) rfl rfl HT_.out ?_ ?_ ?_;rotate_left
                ·intro w'
                 go_simp;with_reducible rfl
                rotate_left
                ·simp only [Act.put,sa_,sb_,sc_,i64_w,i32_w]
                 rfl
                refine pu_ (v:=?_) (a':=?_) 8 58 (bl_ 30 511) rfl rfl HT_.out ?_ ?_ ?_;rotate_left
                ·intro w'
                 go_simp;with_reducible rfl
                rotate_left
                ·simp only [Act.put,sa_,sb_,sc_,i64_w,i32_w]
                 rfl
                refine tk_ (v:=?_) (a':=?_) 9 59 (bl_ 30 1023) rfl rfl HT_.out HW_.out ?_ hHeld ?_ ?_;rotate_left
                ·rintro w' ⟨s0,s1,s2,s3,s4⟩
                 go_simp;with_reducible rfl
                rotate_left
                ·simp only [Act.put,sa_,sb_,sc_,i64_w,i32_w]
                 rfl
                refine pu_ (v:=?_) (a':=?_) 10 60 (bl_ 30 2047) rfl rfl HT_.out ?_ ?_ ?_;rotate_left
                ·intro w'
                 go_simp;with_reducible rfl
                rotate_left
                ·simp only [Act.put,sa_,sb_,sc_,i64_w,i32_w]
                 rfl
                refine pu_ (v:=?_) (a':=?_) 11 61 (bl_ 30 4095) rfl rfl HT_.out ?_ ?_ ?_;rotate_left
                ·intro w'
                 go_simp;with_reducible rfl
                rotate_left
                ·simp only [Act.put,sa_,sb_,sc_,i64_w,i32_w]
                 rfl
                refine pu_ (v:=?_) (a':=?_) 12 62 (bl_ 30 8191) rfl rfl HT_.out ?_ ?_ ?_;rotate_left
                ·intro w'
                 go_simp;with_reducible rfl
                rotate_left
                ·simp only [Act.put,sa_,sb_,sc_,i64_w,i32_w]
                 rfl
                refine pu_ (v:=?_) (a':=?_) 13 63 (bl_ 30 16383) rfl rfl HT_.out ?_ ?_ ?_;rotate_left
                ·intro w'
                 go_simp;with_reducible rfl
                rotate_left
                ·simp only [Act.put,sa_,sb_,sc_,i64_w,i32_w]
                 rfl
                refine tk_ (v:=?_) (a':=?_) 14 64 (bl_ 30 32767) rfl rfl HT_.out HW_.out ?_ hHeld ?_ ?_;rotate_left
                ·rintro w' ⟨s0,s1,s2,s3,s4⟩
                 go_simp;with_reducible rfl
                rotate_left
                ·simp only [Act.put,sa_,sb_,sc_,i64_w,i32_w]
                 rfl
                refine pu_ (v:=?_) (a':=?_) 15 65 (bl_ 30 65535) rfl rfl HT_.out ?_ ?_ ?_;rotate_left
                ·intro w'
                 go_simp;with_reducible rfl
                rotate_left
                ·simp only [Act.put,sa_,sb_,sc_,i64_w,i32_w]
                 rfl
                refine pu_ (v:=?_) (a':=?_) 16 66 (bl_ 30 131071) rfl rfl HT_.out ?_ ?_ ?_;rotate_left
                ·intro w'
                 go_simp;with_reducible rfl
                rotate_left
                ·simp only [Act.put,sa_,sb_,sc_,i64_w,i32_w]
                 rfl
                refine pun_ (a':=?_) 17 67 (bl_ 30 262143) rfl rfl HT_.out ?_ ?_;rotate_left
                ·simp only [Act.put,sa_,sb_,sc_,i64_w,i32_w]
                 rfl
                refine pun_ (a':=?_) 18 68 (bl_ 30 524287) rfl rfl HT_.out ?_ ?_;rotate_left
                ·simp only [Act.put,sa_,sb_,sc_,i64_w,i32_w]
                 rfl
                refine pun_ (a':=?_) 19 69 (bl_ 30 1048575) rfl rfl HT_.out ?_ ?_;rotate_left
                ·simp only [Act.put,sa_,sb_,sc_,i64_w,i32_w]
                 rfl
                refine pun_ (a':=?_) 20 70 (bl_ 30 2097151) rfl rfl HT_.out ?_ ?_;rotate_left
                ·simp only [Act.put,sa_,sb_,sc_,i64_w,i32_w]
                 rfl
                refine pun_ (a':=?_) 21 71 (bl_ 30 4194303) rfl rfl HT_.out ?_ ?_;rotate_left
                ·simp only [Act.put,sa_,sb_,sc_,i64_w,i32_w]
                 rfl
                refine pun_ (a':=?_) 22 72 (bl_ 30 8388607) rfl rfl HT_.out ?_ ?_;rotate_left
                ·simp only [Act.put,sa_,sb_,sc_,i64_w,i32_w]
                 rfl
                refine pun_ (a':=?_) 23 73 (bl_ 30 16777215) rfl rfl HT_.out ?_ ?_;rotate_left
                ·simp only [Act.put,sa_,sb_,sc_,i64_w,i32_w]
                 rfl
                refine pun_ (a':=?_) 24 74 (bl_ 30 33554431) rfl rfl HT_.out ?_ ?_;rotate_left
                ·simp only [Act.put,sa_,sb_,sc_,i64_w,i32_w]
                 rfl
                refine pun_ (a':=?_) 25 75 (bl_ 30 67108863) rfl rfl HT_.out ?_ ?_;rotate_left
                ·simp only [Act.put,sa_,sb_,sc_,i64_w,i32_w]
                 rfl
                refine pun_ (a':=?_) 26 76 (bl_ 30 134217727) rfl rfl HT_.out ?_ ?_;rotate_left
                ·simp only [Act.put,sa_,sb_,sc_,i64_w,i32_w]
                 rfl
                refine pu_ (v:=?_) (a':=?_) 27 77 (bl_ 30 268435455) rfl rfl HT_.out ?_ ?_ ?_;rotate_left
                ·intro w'
                 go_simp;with_reducible rfl
                rotate_left
                ·simp only [Act.put,sa_,sb_,sc_,i64_w,i32_w]
                 rfl
                refine pu_ (v:=?_) (a':=?_) 28 78 (bl_ 30 536870911) rfl rfl HT_.out ?_ ?_ ?_;rotate_left
                ·intro w'
                 go_simp;with_reducible rfl
                rotate_left
                ·simp only [Act.put,sa_,sb_,sc_,i64_w,i32_w]
                 rfl
                refine pu_ (v:=?_) (a':=?_) 29 49 (bl_ 30 1073741823) rfl rfl HT_.out ?_ ?_ ?_;rotate_left
                ·intro w'
                 go_simp;with_reducible rfl
                rotate_left
                ·simp only [Act.put,sa_,sb_,sc_,i64_w,i32_w]
                 rfl
                refine done_ (done_of HT_.out (by kernel_rfl)) ?_;try go_wp2
                go_meet
                case rel => exact ⟨_,(false),fr_,H',⟨by have:=HJ1.out;have:=HK2.out;have:=HJ9.out;first|omega|exact Nat.le_refl _⟩,⟨blk_mv BK101.out⟩,⟨blk_mv BK103.out⟩,⟨blk_mv BK104.out⟩,⟨bel_⟩⟩
            case rest =>
             clear HC63;(try clear c1);(try clear p1);(try clear q1);(try clear hx1);(try clear c2);(try clear p2);(try clear c7);(try clear c10);(try clear p10);(try clear q10);(try clear hx10);(try clear c27);(try clear c75);(try clear c75b0);(try clear c75b1);(try clear c77);(try clear c77b0);(try clear c78);(try clear c78b0);(try clear c79);(try clear c79b0);(try clear hx109_0);(try clear hx109_1);(try clear hx109_2);(try clear hx109_3);(try clear p109);(try clear q109);obtain ⟨kq,x49_62,rfl,HA,HJ62,BK101,BK103,BK104,HB⟩:=hcut;cases kq with
             | zero => exact absurd HA.out (by simp [roles_Validate.j3])
             | succ kj62 =>
              have H:=HA.out;clear HA;simp only [roles_Validate.j3] at H;by_cases c83 : x49_62 = true
              ·subst c83
               have H1 : ((roles_Validate_c1.f 12 x18_2).bind fun bt111 => (some (bt111.1,bt111.2))) = some (r1,r2):=by rw [if_pos rfl] at H;exact H
               clear H;have H:=H1;clear H1;replace H:=Option.bind_eq_some_iff.mp H;obtain ⟨⟨t111,t112⟩,A840,H⟩:=H;replace H : (some (t111,t112)) = some (r1,r2):=H;have A84:=Aside0.mk A840;clear A840;simp only [Option.some.injEq,Prod.mk.injEq] at H;obtain ⟨rfl,rfl⟩:=H;go_wp2_with (first|((with_reducible refine gate_dst (N:=80) rfl ?_);refine Clos.goesF_ (some 80) rfl rfl Try.func26 (by kernel_rfl) rfl (caps:=#[.pointer (some ⟨gb103,0,none⟩)]) #[.int .i64 12,.pointer (some ⟨gb103,0,none⟩)] rfl rfl ln_ ?_;(with_reducible refine (roles_Validate_c1.calls 12 x18_2 t111 t112 _ (blk_cell (cs:=#[.int .i64 x18_2]) (t:=3) (blk_mv BK103.out) 0) A84.out).mono ?_);rintro e w85 ⟨rfl,hb⟩;refine ⟨_,rfl,?_⟩;replace BK101:=Aside0.mk (blk_below (blk_mv BK101.out) hb);replace BK103:=Aside0.mk (blk_below (blk_mv BK103.out) hb);replace BK104:=Aside0.mk (blk_below (blk_mv BK104.out) hb);replace HB:=Aside0.mk (below_step bel_ hb);(try clear hb);(try clear hb2);(try clear hk);(try clear hi);have hnb86:=NB101_103.out;have hnc86:=NB103_101.out;have hnb87:=NB101_104.out;have hnc87:=NB104_101.out;have hcz88_0:=blk_c (v:=.int .i64 x102000_2) BK101.out 0 rfl;have hcz88_1:=blk_c (v:=.int .i64 x102001_2) BK101.out 1 rfl;have hfz88_0:=blk_frozen BK101.out 0;have hfz88_1:=blk_frozen BK101.out 1));refine bodyPost_ret (results_cell_row rfl _ _ gb101 27 #[.int .i64 t111,.int .i64 t112] (0,0) _ rfl (by refine blk_mv ?_;refine blk_put (cs:=#[.int .i64 t111,.int .i64 x102001_2]) ?_ 1 _ rfl;refine blk_mv ?_;refine blk_put (cs:=#[.int .i64 x102000_2,.int .i64 x102001_2]) ?_ 0 _ rfl;refine blk_mv ?_;exact BK101.out) Try.underlying27 rfl (by kernel_rfl)) rfl ?_;exact ⟨by first|rfl|(simp [errW_none,errW_some] <;> rfl)|(simp [*,errW_none,errW_some] <;> rfl),bel_⟩
              ·replace c83:=Bool.eq_false_iff.mpr c83
               subst c83;have H1 : ((threshold_Validate.f kj62 ((rd_T40 l0 x18_2).f2) ((rd_T40 l0 x18_2).f3)).bind fun bt113 => (if (!(bt113.1 == 0) || (!(bt113.2 == 0))) = true then ((roles_Validate_c1.f bt113.1 x18_2).bind fun bt116 => (some (bt116.1,bt116.2))) else (roles_Validate.l0 kj62 l0 l0 (l0.length : Int) (wrap64 (x18_2 + 1))))) = some (r1,r2):=by rw [if_neg (show ¬ (false = true) by decide)] at H;exact H
               clear H;have H:=H1;clear H1;replace H:=Option.bind_eq_some_iff.mp H;obtain ⟨⟨t113,t114⟩,A890,H⟩:=H;replace H : (if (!(t113 == 0) || (!(t114 == 0))) = true then ((roles_Validate_c1.f t113 x18_2).bind fun bt116 => (some (bt116.1,bt116.2))) else (roles_Validate.l0 kj62 l0 l0 (l0.length : Int) (wrap64 (x18_2 + 1)))) = some (r1,r2):=H;have A89:=Aside0.mk A890;clear A890;by_cases c90 : (!(t113 == 0) || (!(t114 == 0))) = true
               ·rw [if_pos c90] at H
                have c90b0 : (!(t113 == 0) || (!(t114 == 0))) = true:=c90;clear c90;replace H:=Option.bind_eq_some_iff.mp H;obtain ⟨⟨t116,t117⟩,A910,H⟩:=H;replace H : (some (t116,t117)) = some (r1,r2):=H;have A91:=Aside0.mk A910;clear A910;simp only [Option.some.injEq,Prod.mk.injEq] at H;obtain ⟨rfl,rfl⟩:=H;have hnb92:=NB104_101.out;have hnc92:=NB101_104.out;have hnb93:=NB104_103.out;have hnc93:=NB103_104.out;have hcz94_0:=blk_c (v:=.int .i64 ((rd_T40 l0 x18_2).f0)) BK104.out 0 rfl;have hcz94_1:=blk_c (v:=.string ((rd_T40 l0 x18_2).f1)) BK104.out 1 rfl;have hcz94_2:=blk_c (v:=.slice A102_2 ((rd_T40 l0 x18_2).f2).length c102_2) BK104.out 2 rfl;have hcz94_3:=blk_c (v:=.int .i64 ((rd_T40 l0 x18_2).f3)) BK104.out 3 rfl;have hfz94_0:=blk_frozen BK104.out 0;have hfz94_1:=blk_frozen BK104.out 1;have hfz94_2:=blk_frozen BK104.out 2;have hfz94_3:=blk_frozen BK104.out 3;go_wp2_with (first|((with_reducible refine gate_callee (f:=28) rfl ?_);refine goesL_ (some 85) rfl rfl Try.func28 (by kernel_rfl) rfl #[.slice A102_2 ((rd_T40 l0 x18_2).f2).length c102_2,.int .i64 ((rd_T40 l0 x18_2).f3)] rfl ln_ ?_;(with_reducible refine (threshold_Validate.calls kj62 _ _ ((rd_T40 l0 x18_2).f2) ((rd_T40 l0 x18_2).f3) t113 t114 _ ?side1 ?side2 A89.out).mono ?_);(case side1 => first|exact (Kd.C_below HR102_2.out HB.out)|exact Kd.C_mv (Kd.C_below HR102_2.out HB.out));(case side2 => exact HC102_2.out);rintro e w95 ⟨rfl,hb⟩;refine ⟨_,rfl,?_⟩;replace BK101:=Aside0.mk (blk_below (blk_mv BK101.out) hb);replace BK103:=Aside0.mk (blk_below (blk_mv BK103.out) hb);replace BK104:=Aside0.mk (blk_below (blk_mv BK104.out) hb);replace HB:=Aside0.mk (below_step bel_ hb);(try clear hb);(try clear hb2);(try clear hk);(try clear hi))|((with_reducible refine gate_dst (N:=6) rfl ?_);(try (refine gate_guard (by rfl) ?_;dsimp only));refine box_event ?hg (N:=6) ?hd (cs:=#[.int .i64 0,.int .i64 0]) (t:=27) ?hr ?_;(case hd => rfl);(case hg => rfl);(case hr => first|(go_simp;done)|(go_simp;rfl));intro gb115 hg w96 hbox hb;have BK115:=Aside0.mk (hbox);have GW115:=Aside0.mk ((bs_ : w.heap.size ≤ gb115));have GE115:=Aside0.mk ((bs_ : w.heap.size ≤ gb115));replace HB:=Aside0.mk (below_step bel_ hb);have NB101_115:=Aside0.mk ((by rw [hg];exact Nat.ne_of_lt (blk_lt (g:=gb101) (o:=.cells #[.int .i64 x102000_2,.int .i64 x102001_2] 27 (0,0)) (blk_mv BK101.out)) : gb101 ≠ gb115));have NB115_101:=Aside0.mk ((by rw [hg];exact Nat.ne_of_gt (blk_lt (g:=gb101) (o:=.cells #[.int .i64 x102000_2,.int .i64 x102001_2] 27 (0,0)) (blk_mv BK101.out)) : gb115 ≠ gb101));replace BK101:=Aside0.mk (blk_below (blk_mv BK101.out) hb);have NB103_115:=Aside0.mk ((by rw [hg];exact Nat.ne_of_lt (blk_lt (g:=gb103) (o:=.cells #[.int .i64 x18_2] 3 (0,0)) (blk_mv BK103.out)) : gb103 ≠ gb115));have NB115_103:=Aside0.mk ((by rw [hg];exact Nat.ne_of_gt (blk_lt (g:=gb103) (o:=.cells #[.int .i64 x18_2] 3 (0,0)) (blk_mv BK103.out)) : gb115 ≠ gb103));replace BK103:=Aside0.mk (blk_below (blk_mv BK103.out) hb);have NB104_115:=Aside0.mk ((by rw [hg];exact Nat.ne_of_lt (blk_lt (g:=gb104) (o:=.cells #[.int .i64 ((rd_T40 l0 x18_2).f0),.string ((rd_T40 l0 x18_2).f1),.slice A102_2 ((rd_T40 l0 x18_2).f2).length c102_2,.int .i64 ((rd_T40 l0 x18_2).f3)] 40 (0,0)) (blk_mv BK104.out)) : gb104 ≠ gb115));have NB115_104:=Aside0.mk ((by rw [hg];exact Nat.ne_of_gt (blk_lt (g:=gb104) (o:=.cells #[.int .i64 ((rd_T40 l0 x18_2).f0),.string ((rd_T40 l0 x18_2).f1),.slice A102_2 ((rd_T40 l0 x18_2).f2).length c102_2,.int .i64 ((rd_T40 l0 x18_2).f3)] 40 (0,0)) (blk_mv BK104.out)) : gb115 ≠ gb104));replace BK104:=Aside0.mk (blk_below (blk_mv BK104.out) hb);clear hb hbox hg;have hnb97:=NB115_101.out;have hnc97:=NB101_115.out;have hnb98:=NB115_103.out;have hnc98:=NB103_115.out;have hnb99:=NB115_104.out;have hnc99:=NB104_115.out;have hcz100_0:=blk_c (v:=.int .i64 0) BK115.out 0 rfl;have hcz100_1:=blk_c (v:=.int .i64 0) BK115.out 1 rfl;have hfz100_0:=blk_frozen BK115.out 0;have hfz100_1:=blk_frozen BK115.out 1)|((with_reducible refine gate_dst (N:=92) rfl ?_);refine Clos.goesF_ (some 92) rfl rfl Try.func26 (by kernel_rfl) rfl (caps:=#[.pointer (some ⟨gb103,0,none⟩)]) #[.int .i64 t113,.pointer (some ⟨gb103,0,none⟩)] rfl rfl ln_ ?_;(with_reducible refine (roles_Validate_c1.calls t113 x18_2 t116 t117 _ (blk_cell (cs:=#[.int .i64 x18_2]) (t:=3) (by refine blk_mv ?_;refine blk_far ?_ NB103_115.out _;refine blk_mv ?_;refine blk_far ?_ NB103_115.out _;refine blk_mv ?_;exact BK103.out) 0) A91.out).mono ?_);rintro e w101 ⟨rfl,hb⟩;refine ⟨_,rfl,?_⟩;replace BK101:=Aside0.mk (blk_below (g:=gb101) (o:=.cells #[.int .i64 x102000_2,.int .i64 x102001_2] 27 (0,0)) (by refine blk_mv ?_;refine blk_far ?_ NB101_115.out _;refine blk_mv ?_;refine blk_far ?_ NB101_115.out _;refine blk_mv ?_;exact BK101.out) hb);replace BK103:=Aside0.mk (blk_below (g:=gb103) (o:=.cells #[.int .i64 x18_2] 3 (0,0)) (by refine blk_mv ?_;refine blk_far ?_ NB103_115.out _;refine blk_mv ?_;refine blk_far ?_ NB103_115.out _;refine blk_mv ?_;exact BK103.out) hb);replace BK104:=Aside0.mk (blk_below (g:=gb104) (o:=.cells #[.int .i64 ((rd_T40 l0 x18_2).f0),.string ((rd_T40 l0 x18_2).f1),.slice A102_2 ((rd_T40 l0 x18_2).f2).length c102_2,.int .i64 ((rd_T40 l0 x18_2).f3)] 40 (0,0)) (by refine blk_mv ?_;refine blk_far ?_ NB104_115.out _;refine blk_mv ?_;refine blk_far ?_ NB104_115.out _;refine blk_mv ?_;exact BK104.out) hb);replace BK115:=Aside0.mk (blk_below (g:=gb115) (o:=.cells #[.int .i64 t113,.int .i64 t114] 27 (0,0)) (by refine blk_mv ?_;refine blk_put (cs:=#[.int .i64 t113,.int .i64 0]) ?_ 1 _ rfl;refine blk_mv ?_;refine blk_put (cs:=#[.int .i64 0,.int .i64 0]) ?_ 0 _ rfl;refine blk_mv ?_;exact BK115.out) hb);replace HB:=Aside0.mk (below_step bel_ hb);(try clear hb);(try clear hb2);(try clear hk);(try clear hi);have hnb102:=NB101_103.out;have hnc102:=NB103_101.out;have hcz103_0:=blk_c (v:=.int .i64 x102000_2) BK101.out 0 rfl;have hcz103_1:=blk_c (v:=.int .i64 x102001_2) BK101.out 1 rfl;have hfz103_0:=blk_frozen BK101.out 0;have hfz103_1:=blk_frozen BK101.out 1));refine bodyPost_ret (results_cell_row rfl _ _ gb101 27 #[.int .i64 t116,.int .i64 t117] (0,0) _ rfl (by refine blk_mv ?_;refine blk_put (cs:=#[.int .i64 t116,.int .i64 x102001_2]) ?_ 1 _ rfl;refine blk_mv ?_;refine blk_put (cs:=#[.int .i64 x102000_2,.int .i64 x102001_2]) ?_ 0 _ rfl;refine blk_mv ?_;exact BK101.out) Try.underlying27 rfl (by kernel_rfl)) rfl ?_;exact ⟨by first|rfl|(simp [errW_none,errW_some] <;> rfl)|(simp [*,errW_none,errW_some] <;> rfl),bel_⟩
               ·rw [if_neg c90] at H
                have c90b0 : (!(t113 == 0) || (!(t114 == 0))) = false:=by simpa using c90
                clear c90;have H':=Aside0.mk H;clear H;have hnb104:=NB104_101.out;have hnc104:=NB101_104.out;have hnb105:=NB104_103.out;have hnc105:=NB103_104.out;have hcz106_0:=blk_c (v:=.int .i64 ((rd_T40 l0 x18_2).f0)) BK104.out 0 rfl;have hcz106_1:=blk_c (v:=.string ((rd_T40 l0 x18_2).f1)) BK104.out 1 rfl;have hcz106_2:=blk_c (v:=.slice A102_2 ((rd_T40 l0 x18_2).f2).length c102_2) BK104.out 2 rfl;have hcz106_3:=blk_c (v:=.int .i64 ((rd_T40 l0 x18_2).f3)) BK104.out 3 rfl;have hfz106_0:=blk_frozen BK104.out 0;have hfz106_1:=blk_frozen BK104.out 1;have hfz106_2:=blk_frozen BK104.out 2;have hfz106_3:=blk_frozen BK104.out 3;go_wp2_with (first|((with_reducible refine gate_callee (f:=28) rfl ?_);refine goesL_ (some 85) rfl rfl Try.func28 (by kernel_rfl) rfl #[.slice A102_2 ((rd_T40 l0 x18_2).f2).length c102_2,.int .i64 ((rd_T40 l0 x18_2).f3)] rfl ln_ ?_;(with_reducible refine (threshold_Validate.calls kj62 _ _ ((rd_T40 l0 x18_2).f2) ((rd_T40 l0 x18_2).f3) t113 t114 _ ?side1 ?side2 A89.out).mono ?_);(case side1 => first|exact (Kd.C_below HR102_2.out HB.out)|exact Kd.C_mv (Kd.C_below HR102_2.out HB.out));(case side2 => exact HC102_2.out);rintro e w107 ⟨rfl,hb⟩;refine ⟨_,rfl,?_⟩;replace BK101:=Aside0.mk (blk_below (blk_mv BK101.out) hb);replace BK103:=Aside0.mk (blk_below (blk_mv BK103.out) hb);replace BK104:=Aside0.mk (blk_below (blk_mv BK104.out) hb);replace HB:=Aside0.mk (below_step bel_ hb);(try clear hb);(try clear hb2);(try clear hk);(try clear hi))|((with_reducible refine gate_dst (N:=6) rfl ?_);(try (refine gate_guard (by rfl) ?_;dsimp only));refine box_event ?hg (N:=6) ?hd (cs:=#[.int .i64 0,.int .i64 0]) (t:=27) ?hr ?_;(case hd => rfl);(case hg => rfl);(case hr => first|(go_simp;done)|(go_simp;rfl));intro gb115 hg w108 hbox hb;have BK115:=Aside0.mk (hbox);have GW115:=Aside0.mk ((bs_ : w.heap.size ≤ gb115));have GE115:=Aside0.mk ((bs_ : w.heap.size ≤ gb115));replace HB:=Aside0.mk (below_step bel_ hb);have NB101_115:=Aside0.mk ((by rw [hg];exact Nat.ne_of_lt (blk_lt (g:=gb101) (o:=.cells #[.int .i64 x102000_2,.int .i64 x102001_2] 27 (0,0)) (blk_mv BK101.out)) : gb101 ≠ gb115));have NB115_101:=Aside0.mk ((by rw [hg];exact Nat.ne_of_gt (blk_lt (g:=gb101) (o:=.cells #[.int .i64 x102000_2,.int .i64 x102001_2] 27 (0,0)) (blk_mv BK101.out)) : gb115 ≠ gb101));replace BK101:=Aside0.mk (blk_below (blk_mv BK101.out) hb);have NB103_115:=Aside0.mk ((by rw [hg];exact Nat.ne_of_lt (blk_lt (g:=gb103) (o:=.cells #[.int .i64 x18_2] 3 (0,0)) (blk_mv BK103.out)) : gb103 ≠ gb115));have NB115_103:=Aside0.mk ((by rw [hg];exact Nat.ne_of_gt (blk_lt (g:=gb103) (o:=.cells #[.int .i64 x18_2] 3 (0,0)) (blk_mv BK103.out)) : gb115 ≠ gb103));replace BK103:=Aside0.mk (blk_below (blk_mv BK103.out) hb);have NB104_115:=Aside0.mk ((by rw [hg];exact Nat.ne_of_lt (blk_lt (g:=gb104) (o:=.cells #[.int .i64 ((rd_T40 l0 x18_2).f0),.string ((rd_T40 l0 x18_2).f1),.slice A102_2 ((rd_T40 l0 x18_2).f2).length c102_2,.int .i64 ((rd_T40 l0 x18_2).f3)] 40 (0,0)) (blk_mv BK104.out)) : gb104 ≠ gb115));have NB115_104:=Aside0.mk ((by rw [hg];exact Nat.ne_of_gt (blk_lt (g:=gb104) (o:=.cells #[.int .i64 ((rd_T40 l0 x18_2).f0),.string ((rd_T40 l0 x18_2).f1),.slice A102_2 ((rd_T40 l0 x18_2).f2).length c102_2,.int .i64 ((rd_T40 l0 x18_2).f3)] 40 (0,0)) (blk_mv BK104.out)) : gb115 ≠ gb104));replace BK104:=Aside0.mk (blk_below (blk_mv BK104.out) hb);clear hb hbox hg;have hnb109:=NB115_101.out;have hnc109:=NB101_115.out;have hnb110:=NB115_103.out;have hnc110:=NB103_115.out;have hnb111:=NB115_104.out;have hnc111:=NB104_115.out;have hcz112_0:=blk_c (v:=.int .i64 0) BK115.out 0 rfl;have hcz112_1:=blk_c (v:=.int .i64 0) BK115.out 1 rfl;have hfz112_0:=blk_frozen BK115.out 0;have hfz112_1:=blk_frozen BK115.out 1));go_roundg kj62
                case measure => have:=HJ1.out;have:=HK2.out;have:=HJ9.out;have:=HJ62.out;omega
                case rel => exact ⟨(wrap64 (x18_2 + 1)),(x102000_2),(x102001_2),fr_,H',⟨by have:=HJ1.out;have:=HK2.out;have:=HJ9.out;have:=HJ62.out;omega⟩,⟨by refine blk_mv ?_;refine blk_far ?_ NB101_115.out _;refine blk_mv ?_;refine blk_far ?_ NB101_115.out _;refine blk_mv ?_;exact BK101.out⟩,⟨bel_⟩⟩
        ·rw [if_neg c9] at H
         exact absurd H (by simp)
       ·rw [if_neg c8] at H
        exact absurd H (by simp)
      ·rw [if_neg c7] at H
       have c7b0 : decide (x18_2 < (l0.length : Int)) = false:=decide_eq_false c7;clear c7;simp only [Option.some.injEq,Prod.mk.injEq] at H;obtain ⟨rfl,rfl⟩:=H;have hcz113_0:=blk_c (v:=.int .i64 x102000_2) BK101.out 0 rfl;have hcz113_1:=blk_c (v:=.int .i64 x102001_2) BK101.out 1 rfl;have hfz113_0:=blk_frozen BK101.out 0;have hfz113_1:=blk_frozen BK101.out 1;go_wp2;refine bodyPost_ret (results_cell_row rfl _ _ gb101 27 #[.int .i64 0,.int .i64 0] (0,0) _ rfl (by refine blk_mv ?_;refine blk_put (cs:=#[.int .i64 0,.int .i64 x102001_2]) ?_ 1 _ rfl;refine blk_mv ?_;refine blk_put (cs:=#[.int .i64 x102000_2,.int .i64 x102001_2]) ?_ 0 _ rfl;refine blk_mv ?_;exact BK101.out) Try.underlying27 rfl (by kernel_rfl)) rfl ?_;exact ⟨by first|rfl|(simp [errW_none,errW_some] <;> rfl)|(simp [*,errW_none,errW_some] <;> rfl),bel_⟩

end Go.Proofs.Ytdelkdlegokbjaa.Fn
