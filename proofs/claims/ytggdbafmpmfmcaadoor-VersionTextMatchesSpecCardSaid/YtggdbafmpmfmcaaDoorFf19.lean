/- A function of the program as a plain Lean function, and the proof that the call comes to just what it says (written by wip/tools/xprint.py for this claim). Condition: the plain function has an answer. -/
import Derived.Test.YtggdbafmpmfmcaaDoorFn0
import Derived.Test.YtggdbafmpmfmcaaDoorFf35
import Derived.Test.YtggdbafmpmfmcaaDoorWA
import Derived.Test.YtggdbafmpmfmcaaDoorTight
namespace Go.Proofs.YtggdbafmpmfmcaaDoor.Fn
open Go.RowKit Go.Proofs.YtggdbafmpmfmcaaDoorW.PrintWords Go.Proofs.YtggdbafmpmfmcaaDoorW.PrintLast Go.Proofs.YtggdbafmpmfmcaaDoorW.PrintMore
attribute [local go_sem] max2_int min2_int max_two min_two max_three min_three max_four min_four   -- for this text's walks alone
set_option linter.unusedVariables false
set_option linter.unusedSimpArgs false

/-! ### changeforgeref5_VersionText: function 19 -/
def changeforgeref5_VersionText.l0 : Nat → ByteArray → Int → Int → Int → Int → List ByteArray → Option (ByteArray)
 | 0,_,_,_,_,_,_ => none
 | k + 1,x3,x4,x102000,x102001,x102002,x102003 => if x4 < (x102003.length : Int) then (if x4 = 0 then (if x3.size + 1 ≤ 9223372036854775807 then (if 0 ≤ x4 then (if (x3 ++ (⟨#[45]⟩ : ByteArray)).size + (rdOf ByteArray.empty x102003 x4).size ≤ 9223372036854775807 then (changeforgeref5_VersionText.l0 k ((x3 ++ (⟨#[45]⟩ : ByteArray)) ++ (rdOf ByteArray.empty x102003 x4)) (wrap64 (x4 + 1)) x102000 x102001 x102002 x102003) else (none)) else (none)) else (none)) else (if x3.size + 1 ≤ 9223372036854775807 then (if 0 ≤ x4 then (if (x3 ++ (⟨#[46]⟩ : ByteArray)).size + (rdOf ByteArray.empty x102003 x4).size ≤ 9223372036854775807 then (changeforgeref5_VersionText.l0 k ((x3 ++ (⟨#[46]⟩ : ByteArray)) ++ (rdOf ByteArray.empty x102003 x4)) (wrap64 (x4 + 1)) x102000 x102001 x102002 x102003) else (none)) else (none)) else (none))) else (some x3)
def changeforgeref5_VersionText.f (k : Nat) (a0_0 : Int) (a0_1 : Int) (a0_2 : Int) (l0_3 : List ByteArray) : Option (ByteArray):=(changeforgeref5_Digits.f a0_0).bind fun t102 => (if t102.size + 1 ≤ 9223372036854775807 then ((changeforgeref5_Digits.f a0_1).bind fun t103 => (if (t102 ++ (⟨#[46]⟩ : ByteArray)).size + t103.size ≤ 9223372036854775807 then (if ((t102 ++ (⟨#[46]⟩ : ByteArray)) ++ t103).size + 1 ≤ 9223372036854775807 then ((changeforgeref5_Digits.f a0_2).bind fun t104 => (if (((t102 ++ (⟨#[46]⟩ : ByteArray)) ++ t103) ++ (⟨#[46]⟩ : ByteArray)).size + t104.size ≤ 9223372036854775807 then (changeforgeref5_VersionText.l0 k ((((t102 ++ (⟨#[46]⟩ : ByteArray)) ++ t103) ++ (⟨#[46]⟩ : ByteArray)) ++ t104) 0 a0_0 a0_1 a0_2 l0_3) else (none))) else (none)) else (none))) else (none))
theorem changeforgeref5_VersionText.mono_l : ∀ k,(∀ y0 y1 y2 y3 y4 y5,LeO (changeforgeref5_VersionText.l0 k y0 y1 y2 y3 y4 y5) (changeforgeref5_VersionText.l0 (k + 1) y0 y1 y2 y3 y4 y5))
 | 0 => fun _ _ _ _ _ _ r h => by simp [changeforgeref5_VersionText.l0] at h
 | k + 1 => by
  have ih0:=changeforgeref5_VersionText.mono_l k
  ·intro y0 y1 y2 y3 y4 y5
   unfold changeforgeref5_VersionText.l0;repeat' first
   | (with_reducible exact ih0 _ _ _ _ _ _)
   | (with_reducible exact LeO.refl _)
   | (with_reducible exact LeO.none _)
   | (with_reducible refine LeO.ite ?_ ?_)
   | (with_reducible refine LeO.bind ?_ (fun _ => ?_))
   | exact ih0 _ _ _ _ _ _
   | exact LeO.none _
   | refine LeO.ite ?_ ?_
   | refine LeO.bind ?_ (fun _ => ?_)
theorem changeforgeref5_VersionText.mono : ∀ a0 a1 a2 a3 k,LeO (changeforgeref5_VersionText.f k a0 a1 a2 a3) (changeforgeref5_VersionText.f (k + 1) a0 a1 a2 a3):=by
 intro a0 a1 a2 a3 k;have ih0:=changeforgeref5_VersionText.mono_l k;unfold changeforgeref5_VersionText.f
 repeat' first
   | (with_reducible exact ih0 _ _ _ _ _ _)
   | (with_reducible exact LeO.refl _)
   | (with_reducible exact LeO.none _)
   | (with_reducible refine LeO.ite ?_ ?_)
   | (with_reducible refine LeO.bind ?_ (fun _ => ?_))
   | exact ih0 _ _ _ _ _ _
   | exact LeO.none _
   | refine LeO.ite ?_ ?_
   | refine LeO.bind ?_ (fun _ => ?_)
set_option maxHeartbeats 8000000 in
set_option maxRecDepth 100000 in
theorem changeforgeref5_VersionText.calls (k : Nat) (a0_0 : Int) (a0_1 : Int) (a0_2 : Int) (A0_3 : Option Addr) (c0_3 : Nat) (l0_3 : List ByteArray) (r : ByteArray) (w : World) (hr0_3 : Kd.C Kd.string w A0_3 l0_3.length l0_3) (hc0_3 : l0_3.length ≤ c0_3) (h : changeforgeref5_VersionText.f k a0_0 a0_1 a0_2 l0_3 = some r) :
  Calls Tryd.prog 19 #[.agg #[.int .i64 a0_0,.int .i64 a0_1,.int .i64 a0_2,.slice A0_3 l0_3.length c0_3]] w fun e w' => e = .returned (.string r) ∧ Below w.heap.size w w':=by
 have hu24:=Tryd.underlying24;have HR0_3:=Aside0.mk hr0_3;have HC0_3:=Aside0.mk hc0_3;clear hr0_3 hc0_3;have HB:=Aside0.mk (Below.refl w.heap.size w);have H : ((changeforgeref5_Digits.f a0_0).bind fun t102 => (if t102.size + 1 ≤ 9223372036854775807 then ((changeforgeref5_Digits.f a0_1).bind fun t103 => (if (t102 ++ (⟨#[46]⟩ : ByteArray)).size + t103.size ≤ 9223372036854775807 then (if ((t102 ++ (⟨#[46]⟩ : ByteArray)) ++ t103).size + 1 ≤ 9223372036854775807 then ((changeforgeref5_Digits.f a0_2).bind fun t104 => (if (((t102 ++ (⟨#[46]⟩ : ByteArray)) ++ t103) ++ (⟨#[46]⟩ : ByteArray)).size + t104.size ≤ 9223372036854775807 then (changeforgeref5_VersionText.l0 k ((((t102 ++ (⟨#[46]⟩ : ByteArray)) ++ t103) ++ (⟨#[46]⟩ : ByteArray)) ++ t104) 0 a0_0 a0_1 a0_2 l0_3) else (none))) else (none)) else (none))) else (none))) = some r:=h;clear h;replace H:=Option.bind_eq_some_iff.mp H;obtain ⟨t102,A20,H⟩:=H;replace H : (if t102.size + 1 ≤ 9223372036854775807 then ((changeforgeref5_Digits.f a0_1).bind fun t103 => (if (t102 ++ (⟨#[46]⟩ : ByteArray)).size + t103.size ≤ 9223372036854775807 then (if ((t102 ++ (⟨#[46]⟩ : ByteArray)) ++ t103).size + 1 ≤ 9223372036854775807 then ((changeforgeref5_Digits.f a0_2).bind fun t104 => (if (((t102 ++ (⟨#[46]⟩ : ByteArray)) ++ t103) ++ (⟨#[46]⟩ : ByteArray)).size + t104.size ≤ 9223372036854775807 then (changeforgeref5_VersionText.l0 k ((((t102 ++ (⟨#[46]⟩ : ByteArray)) ++ t103) ++ (⟨#[46]⟩ : ByteArray)) ++ t104) 0 a0_0 a0_1 a0_2 l0_3) else (none))) else (none)) else (none))) else (none)) = some r:=H;have A2:=Aside0.mk A20;clear A20;by_cases c3 : t102.size + 1 ≤ 9223372036854775807
 ·rw [if_pos c3] at H
  have c3b0:=eq_true c3;have c3b1 : decide (t102.size + 1 ≤ 9223372036854775807) = true:=decide_eq_true c3;try have c3b2 : (9223372036854775807 < t102.size + 1) = False:=eq_false (Nat.not_lt.2 c3)
  replace H:=Option.bind_eq_some_iff.mp H;obtain ⟨t103,A40,H⟩:=H;replace H : (if (t102 ++ (⟨#[46]⟩ : ByteArray)).size + t103.size ≤ 9223372036854775807 then (if ((t102 ++ (⟨#[46]⟩ : ByteArray)) ++ t103).size + 1 ≤ 9223372036854775807 then ((changeforgeref5_Digits.f a0_2).bind fun t104 => (if (((t102 ++ (⟨#[46]⟩ : ByteArray)) ++ t103) ++ (⟨#[46]⟩ : ByteArray)).size + t104.size ≤ 9223372036854775807 then (changeforgeref5_VersionText.l0 k ((((t102 ++ (⟨#[46]⟩ : ByteArray)) ++ t103) ++ (⟨#[46]⟩ : ByteArray)) ++ t104) 0 a0_0 a0_1 a0_2 l0_3) else (none))) else (none)) else (none)) = some r:=H;have A4:=Aside0.mk A40;clear A40;by_cases c5 : (t102 ++ (⟨#[46]⟩ : ByteArray)).size + t103.size ≤ 9223372036854775807
  ·rw [if_pos c5] at H
   have c5b0:=eq_true c5;have c5b1 : decide ((t102 ++ (⟨#[46]⟩ : ByteArray)).size + t103.size ≤ 9223372036854775807) = true:=decide_eq_true c5;try have c5b2 : (9223372036854775807 < (t102 ++ (⟨#[46]⟩ : ByteArray)).size + t103.size) = False:=eq_false (Nat.not_lt.2 c5)
   try (have c5s_:=c5;simp only [ByteArray.size_append,bsz_,List.size_toArray,List.length_cons,List.length_nil,Nat.zero_add,Nat.reduceAdd] at c5s_;have c5t_:=eq_false (Nat.not_lt.2 c5s_))
   by_cases c6 : ((t102 ++ (⟨#[46]⟩ : ByteArray)) ++ t103).size + 1 ≤ 9223372036854775807
   ·rw [if_pos c6] at H
    have c6b0:=eq_true c6;have c6b1 : decide (((t102 ++ (⟨#[46]⟩ : ByteArray)) ++ t103).size + 1 ≤ 9223372036854775807) = true:=decide_eq_true c6;try have c6b2 : (9223372036854775807 < ((t102 ++ (⟨#[46]⟩ : ByteArray)) ++ t103).size + 1) = False:=eq_false (Nat.not_lt.2 c6)
    try (have c6s_:=c6;simp only [ByteArray.size_append,bsz_,List.size_toArray,List.length_cons,List.length_nil,Nat.zero_add,Nat.reduceAdd] at c6s_;have c6t_:=eq_false (Nat.not_lt.2 c6s_))
    replace H:=Option.bind_eq_some_iff.mp H;obtain ⟨t104,A70,H⟩:=H;replace H : (if (((t102 ++ (⟨#[46]⟩ : ByteArray)) ++ t103) ++ (⟨#[46]⟩ : ByteArray)).size + t104.size ≤ 9223372036854775807 then (changeforgeref5_VersionText.l0 k ((((t102 ++ (⟨#[46]⟩ : ByteArray)) ++ t103) ++ (⟨#[46]⟩ : ByteArray)) ++ t104) 0 a0_0 a0_1 a0_2 l0_3) else (none)) = some r:=H;have A7:=Aside0.mk A70;clear A70;by_cases c8 : (((t102 ++ (⟨#[46]⟩ : ByteArray)) ++ t103) ++ (⟨#[46]⟩ : ByteArray)).size + t104.size ≤ 9223372036854775807
    ·rw [if_pos c8] at H
     have c8b0:=eq_true c8;have c8b1 : decide ((((t102 ++ (⟨#[46]⟩ : ByteArray)) ++ t103) ++ (⟨#[46]⟩ : ByteArray)).size + t104.size ≤ 9223372036854775807) = true:=decide_eq_true c8;try have c8b2 : (9223372036854775807 < (((t102 ++ (⟨#[46]⟩ : ByteArray)) ++ t103) ++ (⟨#[46]⟩ : ByteArray)).size + t104.size) = False:=eq_false (Nat.not_lt.2 c8)
     try (have c8s_:=c8;simp only [ByteArray.size_append,bsz_,List.size_toArray,List.length_cons,List.length_nil,Nat.zero_add,Nat.reduceAdd] at c8s_;have c8t_:=eq_false (Nat.not_lt.2 c8s_))
     have H':=Aside0.mk H;clear H;go_enter Tryd.func19,Tryd.ntmps19;go_wp2_with (first|((with_reducible refine gate_dst (N:=1) rfl ?_);refine box_event ?hg (N:=1) ?hd (cs:=#[.int .i64 a0_0,.int .i64 a0_1,.int .i64 a0_2,.slice A0_3 l0_3.length c0_3]) (t:=24) ?hr ?_;(case hd => rfl);(case hg => rfl);(case hr => first|(go_simp;done)|(go_simp;rfl));intro gb101 hg w9 hbox hb;have BK101:=Aside0.mk (hbox);have GW101:=Aside0.mk ((bs_ : w.heap.size ≤ gb101));have GE101:=Aside0.mk ((bs_ : w.heap.size ≤ gb101));replace HB:=Aside0.mk (below_step bel_ hb);clear hb hbox hg;have hcz10_0:=blk_c (v:=.int .i64 a0_0) BK101.out 0 rfl;have hcz10_1:=blk_c (v:=.int .i64 a0_1) BK101.out 1 rfl;have hcz10_2:=blk_c (v:=.int .i64 a0_2) BK101.out 2 rfl;have hcz10_3:=blk_c (v:=.slice A0_3 l0_3.length c0_3) BK101.out 3 rfl;have hfz10_0:=blk_frozen BK101.out 0;have hfz10_1:=blk_frozen BK101.out 1;have hfz10_2:=blk_frozen BK101.out 2;have hfz10_3:=blk_frozen BK101.out 3)|(go_at_call 35;(with_reducible refine (changeforgeref5_Digits.calls a0_0 t102 _ A2.out).mono ?_);rintro e w' ⟨rfl,⟨nd,rfl⟩⟩;(try first|exact ⟨rfl,_,World.drewN_drewN _ _ _⟩|exact ⟨rfl,_,Eq.trans (World.drewN_drewN _ _ _) (congrArg (World.drewN _) (Nat.add_assoc _ _ _))⟩))|(go_at_call 35;(with_reducible refine (changeforgeref5_Digits.calls a0_1 t103 _ A4.out).mono ?_);rintro e w' ⟨rfl,⟨nd,rfl⟩⟩;(try first|exact ⟨rfl,_,World.drewN_drewN _ _ _⟩|exact ⟨rfl,_,Eq.trans (World.drewN_drewN _ _ _) (congrArg (World.drewN _) (Nat.add_assoc _ _ _))⟩))|(go_at_call 35;(with_reducible refine (changeforgeref5_Digits.calls a0_2 t104 _ A7.out).mono ?_);rintro e w' ⟨rfl,⟨nd,rfl⟩⟩;(try first|exact ⟨rfl,_,World.drewN_drewN _ _ _⟩|exact ⟨rfl,_,Eq.trans (World.drewN_drewN _ _ _) (congrArg (World.drewN _) (Nat.add_assoc _ _ _))⟩)));repeat (go_quiet (first|((with_reducible refine gate_dst (N:=1) rfl ?_);refine box_event ?hg (N:=1) ?hd (cs:=#[.int .i64 a0_0,.int .i64 a0_1,.int .i64 a0_2,.slice A0_3 l0_3.length c0_3]) (t:=24) ?hr ?_;(case hd => rfl);(case hg => rfl);(case hr => first|(go_simp;done)|(go_simp;rfl));intro gb101 hg w9 hbox hb;have BK101:=Aside0.mk (hbox);have GW101:=Aside0.mk ((bs_ : w.heap.size ≤ gb101));have GE101:=Aside0.mk ((bs_ : w.heap.size ≤ gb101));replace HB:=Aside0.mk (below_step bel_ hb);clear hb hbox hg;have hcz10_0:=blk_c (v:=.int .i64 a0_0) BK101.out 0 rfl;have hcz10_1:=blk_c (v:=.int .i64 a0_1) BK101.out 1 rfl;have hcz10_2:=blk_c (v:=.int .i64 a0_2) BK101.out 2 rfl;have hcz10_3:=blk_c (v:=.slice A0_3 l0_3.length c0_3) BK101.out 3 rfl;have hfz10_0:=blk_frozen BK101.out 0;have hfz10_1:=blk_frozen BK101.out 1;have hfz10_2:=blk_frozen BK101.out 2;have hfz10_3:=blk_frozen BK101.out 3)|(go_at_call 35;(with_reducible refine (changeforgeref5_Digits.calls a0_0 t102 _ A2.out).mono ?_);rintro e w' ⟨rfl,⟨nd,rfl⟩⟩;(try first|exact ⟨rfl,_,World.drewN_drewN _ _ _⟩|exact ⟨rfl,_,Eq.trans (World.drewN_drewN _ _ _) (congrArg (World.drewN _) (Nat.add_assoc _ _ _))⟩))|(go_at_call 35;(with_reducible refine (changeforgeref5_Digits.calls a0_1 t103 _ A4.out).mono ?_);rintro e w' ⟨rfl,⟨nd,rfl⟩⟩;(try first|exact ⟨rfl,_,World.drewN_drewN _ _ _⟩|exact ⟨rfl,_,Eq.trans (World.drewN_drewN _ _ _) (congrArg (World.drewN _) (Nat.add_assoc _ _ _))⟩))|(go_at_call 35;(with_reducible refine (changeforgeref5_Digits.calls a0_2 t104 _ A7.out).mono ?_);rintro e w' ⟨rfl,⟨nd,rfl⟩⟩;(try first|exact ⟨rfl,_,World.drewN_drewN _ _ _⟩|exact ⟨rfl,_,Eq.trans (World.drewN_drewN _ _ _) (congrArg (World.drewN _) (Nat.add_assoc _ _ _))⟩)));try go_wp2_with (first|((with_reducible refine gate_dst (N:=1) rfl ?_);refine box_event ?hg (N:=1) ?hd (cs:=#[.int .i64 a0_0,.int .i64 a0_1,.int .i64 a0_2,.slice A0_3 l0_3.length c0_3]) (t:=24) ?hr ?_;(case hd => rfl);(case hg => rfl);(case hr => first|(go_simp;done)|(go_simp;rfl));intro gb101 hg w9 hbox hb;have BK101:=Aside0.mk (hbox);have GW101:=Aside0.mk ((bs_ : w.heap.size ≤ gb101));have GE101:=Aside0.mk ((bs_ : w.heap.size ≤ gb101));replace HB:=Aside0.mk (below_step bel_ hb);clear hb hbox hg;have hcz10_0:=blk_c (v:=.int .i64 a0_0) BK101.out 0 rfl;have hcz10_1:=blk_c (v:=.int .i64 a0_1) BK101.out 1 rfl;have hcz10_2:=blk_c (v:=.int .i64 a0_2) BK101.out 2 rfl;have hcz10_3:=blk_c (v:=.slice A0_3 l0_3.length c0_3) BK101.out 3 rfl;have hfz10_0:=blk_frozen BK101.out 0;have hfz10_1:=blk_frozen BK101.out 1;have hfz10_2:=blk_frozen BK101.out 2;have hfz10_3:=blk_frozen BK101.out 3)|(go_at_call 35;(with_reducible refine (changeforgeref5_Digits.calls a0_0 t102 _ A2.out).mono ?_);rintro e w' ⟨rfl,⟨nd,rfl⟩⟩;(try first|exact ⟨rfl,_,World.drewN_drewN _ _ _⟩|exact ⟨rfl,_,Eq.trans (World.drewN_drewN _ _ _) (congrArg (World.drewN _) (Nat.add_assoc _ _ _))⟩))|(go_at_call 35;(with_reducible refine (changeforgeref5_Digits.calls a0_1 t103 _ A4.out).mono ?_);rintro e w' ⟨rfl,⟨nd,rfl⟩⟩;(try first|exact ⟨rfl,_,World.drewN_drewN _ _ _⟩|exact ⟨rfl,_,Eq.trans (World.drewN_drewN _ _ _) (congrArg (World.drewN _) (Nat.add_assoc _ _ _))⟩))|(go_at_call 35;(with_reducible refine (changeforgeref5_Digits.calls a0_2 t104 _ A7.out).mono ?_);rintro e w' ⟨rfl,⟨nd,rfl⟩⟩;(try first|exact ⟨rfl,_,World.drewN_drewN _ _ _⟩|exact ⟨rfl,_,Eq.trans (World.drewN_drewN _ _ _) (congrArg (World.drewN _) (Nat.add_assoc _ _ _))⟩))))
     go_loopg [3,4] k (fun kq v3 v4 w' => ∃ (x3_1 : ByteArray) (x4_1 : Int),v3 = .string x3_1 ∧ v4 = .int .i64 x4_1 ∧ Aside0 (changeforgeref5_VersionText.l0 kq x3_1 x4_1 a0_0 a0_1 a0_2 l0_3 = some r) ∧ Aside0 (kq ≤ k) ∧ Aside0 (w'.heap[gb101]? = some (.cells #[.int .i64 a0_0,.int .i64 a0_1,.int .i64 a0_2,(.slice A0_3 l0_3.length c0_3)] 24 (0,0))) ∧ Aside0 (Below w.heap.size w w'))
     case atStart => exact ⟨((((t102 ++ (⟨#[46]⟩ : ByteArray)) ++ t103) ++ (⟨#[46]⟩ : ByteArray)) ++ t104),(0),fr_,fr_,H',⟨Nat.le_refl _⟩,⟨blk_mv BK101.out⟩,⟨bel_⟩⟩
     case round =>
      clear H';(try clear c1);(try clear p2);(try clear c3);(try clear c3b0);(try clear c3b1);(try clear c3b2);(try clear c5);(try clear c5b0);(try clear c5b1);(try clear c5b2);(try clear c6);(try clear c6b0);(try clear c6b1);(try clear c6b2);(try clear c8);(try clear c8b0);(try clear c8b1);(try clear c8b2);(try clear hcz10_0);(try clear hcz10_1);(try clear hcz10_2);(try clear hcz10_3);(try clear hfz10_0);(try clear hfz10_1);(try clear hfz10_2);(try clear hfz10_3);obtain ⟨x3_1,x4_1,rfl,rfl,HA,HK1,BK101,HB⟩:=hrel;cases gk with
      | zero => exact absurd HA.out (by simp [changeforgeref5_VersionText.l0])
      | succ k1 =>
       have H:=HA.out;clear HA;simp only [changeforgeref5_VersionText.l0] at H;by_cases c11 : x4_1 < (l0_3.length : Int)
       ·rw [if_pos c11] at H
        have c11b0 : decide (x4_1 < (l0_3.length : Int)) = true:=decide_eq_true c11;clear c11;by_cases c12 : x4_1 = 0
        ·rw [if_pos c12] at H
         have c12b0 : (x4_1 == 0) = true:=beq_iff_eq.mpr c12;have c12b1 : (x4_1 != 0) = false:=bne_eq_false_iff_eq.mpr c12;clear c12;by_cases c13 : x3_1.size + 1 ≤ 9223372036854775807
         ·rw [if_pos c13] at H
          have c13b0:=eq_true c13;have c13b1 : decide (x3_1.size + 1 ≤ 9223372036854775807) = true:=decide_eq_true c13;try have c13b2 : (9223372036854775807 < x3_1.size + 1) = False:=eq_false (Nat.not_lt.2 c13)
          by_cases c14 : 0 ≤ x4_1
          ·rw [if_pos c14] at H
           have c14b0 : decide (0 ≤ x4_1) = true:=decide_eq_true c14;clear c14;by_cases c15 : (x3_1 ++ (⟨#[45]⟩ : ByteArray)).size + (rdOf ByteArray.empty l0_3 x4_1).size ≤ 9223372036854775807
           ·rw [if_pos c15] at H
            have c15b0:=eq_true c15;have c15b1 : decide ((x3_1 ++ (⟨#[45]⟩ : ByteArray)).size + (rdOf ByteArray.empty l0_3 x4_1).size ≤ 9223372036854775807) = true:=decide_eq_true c15;try have c15b2 : (9223372036854775807 < (x3_1 ++ (⟨#[45]⟩ : ByteArray)).size + (rdOf ByteArray.empty l0_3 x4_1).size) = False:=eq_false (Nat.not_lt.2 c15)
            try (have c15s_:=c15;simp only [ByteArray.size_append,bsz_,List.size_toArray,List.length_cons,List.length_nil,Nat.zero_add,Nat.reduceAdd] at c15s_;have c15t_:=eq_false (Nat.not_lt.2 c15s_))
            have H':=Aside0.mk H;clear H;have hcz16_0:=blk_c (v:=.int .i64 a0_0) BK101.out 0 rfl;have hcz16_1:=blk_c (v:=.int .i64 a0_1) BK101.out 1 rfl;have hcz16_2:=blk_c (v:=.int .i64 a0_2) BK101.out 2 rfl;have hcz16_3:=blk_c (v:=.slice A0_3 l0_3.length c0_3) BK101.out 3 rfl;have hfz16_0:=blk_frozen BK101.out 0;have hfz16_1:=blk_frozen BK101.out 1;have hfz16_2:=blk_frozen BK101.out 2;have hfz16_3:=blk_frozen BK101.out 3;have p105 : 0 ≤ (x4_1 : Int):=of_decide_eq_true as_;have q105 : x4_1 < (l0_3.length : Int):=of_decide_eq_true as_;obtain ⟨ad105,e105,hx105_0⟩:=Kd.at_string HR0_3.out x4_1 p105 q105;cases e105
            replace hx105_0:=(HB.out.cell (World.block_lt_of_cell? w _ hx105_0)).trans hx105_0;replace p105:=eq_true p105;replace q105:=eq_true q105;go_wp2;repeat (go_quiet (fail);try go_wp2)
            go_roundg k1
            case measure => have:=HK1.out;omega
            case rel => exact ⟨((x3_1 ++ (⟨#[45]⟩ : ByteArray)) ++ (rdOf ByteArray.empty l0_3 x4_1)),(wrap64 (x4_1 + 1)),fr_,fr_,H',⟨by have:=HK1.out;omega⟩,⟨blk_mv BK101.out⟩,⟨bel_⟩⟩
           ·rw [if_neg c15] at H
            exact absurd H (by simp)
          ·rw [if_neg c14] at H
           exact absurd H (by simp)
         ·rw [if_neg c13] at H
          exact absurd H (by simp)
        ·rw [if_neg c12] at H
         have c12b0 : (x4_1 == 0) = false:=beq_eq_false_iff_ne.mpr c12;have c12b1 : (x4_1 != 0) = true:=bne_iff_ne.mpr c12;by_cases c17 : x3_1.size + 1 ≤ 9223372036854775807
         ·rw [if_pos c17] at H
          have c17b0:=eq_true c17;have c17b1 : decide (x3_1.size + 1 ≤ 9223372036854775807) = true:=decide_eq_true c17;try have c17b2 : (9223372036854775807 < x3_1.size + 1) = False:=eq_false (Nat.not_lt.2 c17)
          by_cases c18 : 0 ≤ x4_1
          ·rw [if_pos c18] at H
           have c18b0 : decide (0 ≤ x4_1) = true:=decide_eq_true c18;clear c18;by_cases c19 : (x3_1 ++ (⟨#[46]⟩ : ByteArray)).size + (rdOf ByteArray.empty l0_3 x4_1).size ≤ 9223372036854775807
           ·rw [if_pos c19] at H
            have c19b0:=eq_true c19;have c19b1 : decide ((x3_1 ++ (⟨#[46]⟩ : ByteArray)).size + (rdOf ByteArray.empty l0_3 x4_1).size ≤ 9223372036854775807) = true:=decide_eq_true c19;try have c19b2 : (9223372036854775807 < (x3_1 ++ (⟨#[46]⟩ : ByteArray)).size + (rdOf ByteArray.empty l0_3 x4_1).size) = False:=eq_false (Nat.not_lt.2 c19)
            try (have c19s_:=c19;simp only [ByteArray.size_append,bsz_,List.size_toArray,List.length_cons,List.length_nil,Nat.zero_add,Nat.reduceAdd] at c19s_;have c19t_:=eq_false (Nat.not_lt.2 c19s_))
            have H':=Aside0.mk H;clear H;have hcz20_0:=blk_c (v:=.int .i64 a0_0) BK101.out 0 rfl;have hcz20_1:=blk_c (v:=.int .i64 a0_1) BK101.out 1 rfl;have hcz20_2:=blk_c (v:=.int .i64 a0_2) BK101.out 2 rfl;have hcz20_3:=blk_c (v:=.slice A0_3 l0_3.length c0_3) BK101.out 3 rfl;have hfz20_0:=blk_frozen BK101.out 0;have hfz20_1:=blk_frozen BK101.out 1;have hfz20_2:=blk_frozen BK101.out 2;have hfz20_3:=blk_frozen BK101.out 3;have p106 : 0 ≤ (x4_1 : Int):=of_decide_eq_true as_;have q106 : x4_1 < (l0_3.length : Int):=of_decide_eq_true as_;obtain ⟨ad106,e106,hx106_0⟩:=Kd.at_string HR0_3.out x4_1 p106 q106;cases e106
            replace hx106_0:=(HB.out.cell (World.block_lt_of_cell? w _ hx106_0)).trans hx106_0;replace p106:=eq_true p106;replace q106:=eq_true q106;go_wp2;repeat (go_quiet (fail);try go_wp2)
            go_roundg k1
            case measure => have:=HK1.out;omega
            case rel => exact ⟨((x3_1 ++ (⟨#[46]⟩ : ByteArray)) ++ (rdOf ByteArray.empty l0_3 x4_1)),(wrap64 (x4_1 + 1)),fr_,fr_,H',⟨by have:=HK1.out;omega⟩,⟨blk_mv BK101.out⟩,⟨bel_⟩⟩
           ·rw [if_neg c19] at H
            exact absurd H (by simp)
          ·rw [if_neg c18] at H
           exact absurd H (by simp)
         ·rw [if_neg c17] at H
          exact absurd H (by simp)
       ·rw [if_neg c11] at H
        have c11b0 : decide (x4_1 < (l0_3.length : Int)) = false:=decide_eq_false c11;clear c11;obtain rfl:=Option.some.inj H;have hcz21_0:=blk_c (v:=.int .i64 a0_0) BK101.out 0 rfl;have hcz21_1:=blk_c (v:=.int .i64 a0_1) BK101.out 1 rfl;have hcz21_2:=blk_c (v:=.int .i64 a0_2) BK101.out 2 rfl;have hcz21_3:=blk_c (v:=.slice A0_3 l0_3.length c0_3) BK101.out 3 rfl;have hfz21_0:=blk_frozen BK101.out 0;have hfz21_1:=blk_frozen BK101.out 1;have hfz21_2:=blk_frozen BK101.out 2;have hfz21_3:=blk_frozen BK101.out 3;go_wp2;repeat (go_quiet (fail);try go_wp2)
        go_ret;exact ⟨by first|rfl|(simp [errW_none,errW_some] <;> rfl)|(simp [*,errW_none,errW_some] <;> rfl),bel_⟩
    ·rw [if_neg c8] at H
     exact absurd H (by simp)
   ·rw [if_neg c6] at H
    exact absurd H (by simp)
  ·rw [if_neg c5] at H
   exact absurd H (by simp)
 ·rw [if_neg c3] at H
  exact absurd H (by simp)

end Go.Proofs.YtggdbafmpmfmcaaDoor.Fn
