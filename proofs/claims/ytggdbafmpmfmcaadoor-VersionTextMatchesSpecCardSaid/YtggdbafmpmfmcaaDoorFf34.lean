/- A function of the program as a plain Lean function, and the proof that the call comes to just what it says (written by wip/tools/xprint.py for this claim). Condition: the plain function has an answer. -/
import Derived.Test.YtggdbafmpmfmcaaDoorFn0
import Derived.Test.YtggdbafmpmfmcaaDoorFs0
import Derived.Test.YtggdbafmpmfmcaaDoorWA
import Derived.Test.YtggdbafmpmfmcaaDoorLib0
import Derived.Test.YtggdbafmpmfmcaaDoorTight
namespace Go.Proofs.YtggdbafmpmfmcaaDoor.Fn
open Go.RowKit Go.Proofs.YtggdbafmpmfmcaaDoorW.PrintWords Go.Proofs.YtggdbafmpmfmcaaDoorW.PrintLast Go.Proofs.YtggdbafmpmfmcaaDoorW.PrintMore
attribute [local go_sem] max2_int min2_int max_two min_two max_three min_three max_four min_four   -- for this text's walks alone
set_option linter.unusedVariables false
set_option linter.unusedSimpArgs false

-- IMPORT Derived.Test.@SEAT@Lib0
/-! ### version_text: function 34 -/
def version_text.f (a0_0 : Int) (a0_1 : Int) (a0_2 : Int) (l0_3 : List ByteArray) : Option (ByteArray):=(strconv_Itoa.f a0_0).bind fun t102 => (if t102.size + 1 ≤ 9223372036854775807 then ((strconv_Itoa.f a0_1).bind fun t103 => (if (t102 ++ (⟨#[46]⟩ : ByteArray)).size + t103.size ≤ 9223372036854775807 then (if ((t102 ++ (⟨#[46]⟩ : ByteArray)) ++ t103).size + 1 ≤ 9223372036854775807 then ((strconv_Itoa.f a0_2).bind fun t104 => (if (((t102 ++ (⟨#[46]⟩ : ByteArray)) ++ t103) ++ (⟨#[46]⟩ : ByteArray)).size + t104.size ≤ 9223372036854775807 then (if (l0_3.length : Int) > 0 then ((strings_Join.f l0_3 (⟨#[46]⟩ : ByteArray)).bind fun t105 => (if 1 + t105.size ≤ 9223372036854775807 then (if ((((t102 ++ (⟨#[46]⟩ : ByteArray)) ++ t103) ++ (⟨#[46]⟩ : ByteArray)) ++ t104).size + ((⟨#[45]⟩ : ByteArray) ++ t105).size ≤ 9223372036854775807 then (some (((((t102 ++ (⟨#[46]⟩ : ByteArray)) ++ t103) ++ (⟨#[46]⟩ : ByteArray)) ++ t104) ++ ((⟨#[45]⟩ : ByteArray) ++ t105))) else (none)) else (none))) else (some ((((t102 ++ (⟨#[46]⟩ : ByteArray)) ++ t103) ++ (⟨#[46]⟩ : ByteArray)) ++ t104))) else (none))) else (none)) else (none))) else (none))
def version_text.T1 : Bool × List (List Nat × List Nat):=(true,[([],[]),([0],[0]),([1],[1]),([2],[2]),([],[]),([4],[4]),([5,2],[5]),([3,6],[3,6]),([7],[7]),([],[]),([9],[9]),([10,6],[10]),([8,11],[8,11]),([12,11,0,1,2,3,4,5,6,7,8,9,10,11,12],[12])])
def version_text.B1 : List Nat:=[0,1,3,7,0,16,55,127,255,0,512,1655,4095,8191]
theorem version_text.tab1 : rtab .any (opsOf Tryd.f34 1) = version_text.T1:=by kernel_rfl
theorem version_text.bits1 : waitsOk version_text.T1.2 version_text.B1 = true:=by kernel_rfl
set_option maxHeartbeats 8000000 in
set_option maxRecDepth 100000 in
theorem version_text.calls (a0_0 : Int) (a0_1 : Int) (a0_2 : Int) (A0_3 : Option Addr) (c0_3 : Nat) (l0_3 : List ByteArray) (r : ByteArray) (w : World) (hr0_3 : Kd.C Kd.string w A0_3 l0_3.length l0_3) (hc0_3 : l0_3.length ≤ c0_3) (h : version_text.f a0_0 a0_1 a0_2 l0_3 = some r) (HL : Aside0 (LibOk w)) :
  Calls Tryd.prog 34 #[.agg #[.int .i64 a0_0,.int .i64 a0_1,.int .i64 a0_2,.slice A0_3 l0_3.length c0_3]] w fun e w' => e = .returned (.string r) ∧ Below w.heap.size w w':=by
 have hu24:=Tryd.underlying24;have HR0_3:=Aside0.mk hr0_3;have HC0_3:=Aside0.mk hc0_3;clear hr0_3 hc0_3;have HB:=Aside0.mk (Below.refl w.heap.size w);have H : ((strconv_Itoa.f a0_0).bind fun t102 => (if t102.size + 1 ≤ 9223372036854775807 then ((strconv_Itoa.f a0_1).bind fun t103 => (if (t102 ++ (⟨#[46]⟩ : ByteArray)).size + t103.size ≤ 9223372036854775807 then (if ((t102 ++ (⟨#[46]⟩ : ByteArray)) ++ t103).size + 1 ≤ 9223372036854775807 then ((strconv_Itoa.f a0_2).bind fun t104 => (if (((t102 ++ (⟨#[46]⟩ : ByteArray)) ++ t103) ++ (⟨#[46]⟩ : ByteArray)).size + t104.size ≤ 9223372036854775807 then (if (l0_3.length : Int) > 0 then ((strings_Join.f l0_3 (⟨#[46]⟩ : ByteArray)).bind fun t105 => (if 1 + t105.size ≤ 9223372036854775807 then (if ((((t102 ++ (⟨#[46]⟩ : ByteArray)) ++ t103) ++ (⟨#[46]⟩ : ByteArray)) ++ t104).size + ((⟨#[45]⟩ : ByteArray) ++ t105).size ≤ 9223372036854775807 then (some (((((t102 ++ (⟨#[46]⟩ : ByteArray)) ++ t103) ++ (⟨#[46]⟩ : ByteArray)) ++ t104) ++ ((⟨#[45]⟩ : ByteArray) ++ t105))) else (none)) else (none))) else (some ((((t102 ++ (⟨#[46]⟩ : ByteArray)) ++ t103) ++ (⟨#[46]⟩ : ByteArray)) ++ t104))) else (none))) else (none)) else (none))) else (none))) = some r:=h;clear h;replace H:=Option.bind_eq_some_iff.mp H;obtain ⟨t102,A20,H⟩:=H;replace H : (if t102.size + 1 ≤ 9223372036854775807 then ((strconv_Itoa.f a0_1).bind fun t103 => (if (t102 ++ (⟨#[46]⟩ : ByteArray)).size + t103.size ≤ 9223372036854775807 then (if ((t102 ++ (⟨#[46]⟩ : ByteArray)) ++ t103).size + 1 ≤ 9223372036854775807 then ((strconv_Itoa.f a0_2).bind fun t104 => (if (((t102 ++ (⟨#[46]⟩ : ByteArray)) ++ t103) ++ (⟨#[46]⟩ : ByteArray)).size + t104.size ≤ 9223372036854775807 then (if (l0_3.length : Int) > 0 then ((strings_Join.f l0_3 (⟨#[46]⟩ : ByteArray)).bind fun t105 => (if 1 + t105.size ≤ 9223372036854775807 then (if ((((t102 ++ (⟨#[46]⟩ : ByteArray)) ++ t103) ++ (⟨#[46]⟩ : ByteArray)) ++ t104).size + ((⟨#[45]⟩ : ByteArray) ++ t105).size ≤ 9223372036854775807 then (some (((((t102 ++ (⟨#[46]⟩ : ByteArray)) ++ t103) ++ (⟨#[46]⟩ : ByteArray)) ++ t104) ++ ((⟨#[45]⟩ : ByteArray) ++ t105))) else (none)) else (none))) else (some ((((t102 ++ (⟨#[46]⟩ : ByteArray)) ++ t103) ++ (⟨#[46]⟩ : ByteArray)) ++ t104))) else (none))) else (none)) else (none))) else (none)) = some r:=H;have A2:=Aside0.mk A20;clear A20;by_cases c3 : t102.size + 1 ≤ 9223372036854775807
 ·rw [if_pos c3] at H
  have c3b0:=eq_true c3;have c3b1 : decide (t102.size + 1 ≤ 9223372036854775807) = true:=decide_eq_true c3;try have c3b2 : (9223372036854775807 < t102.size + 1) = False:=eq_false (Nat.not_lt.2 c3)
  replace H:=Option.bind_eq_some_iff.mp H;obtain ⟨t103,A40,H⟩:=H;replace H : (if (t102 ++ (⟨#[46]⟩ : ByteArray)).size + t103.size ≤ 9223372036854775807 then (if ((t102 ++ (⟨#[46]⟩ : ByteArray)) ++ t103).size + 1 ≤ 9223372036854775807 then ((strconv_Itoa.f a0_2).bind fun t104 => (if (((t102 ++ (⟨#[46]⟩ : ByteArray)) ++ t103) ++ (⟨#[46]⟩ : ByteArray)).size + t104.size ≤ 9223372036854775807 then (if (l0_3.length : Int) > 0 then ((strings_Join.f l0_3 (⟨#[46]⟩ : ByteArray)).bind fun t105 => (if 1 + t105.size ≤ 9223372036854775807 then (if ((((t102 ++ (⟨#[46]⟩ : ByteArray)) ++ t103) ++ (⟨#[46]⟩ : ByteArray)) ++ t104).size + ((⟨#[45]⟩ : ByteArray) ++ t105).size ≤ 9223372036854775807 then (some (((((t102 ++ (⟨#[46]⟩ : ByteArray)) ++ t103) ++ (⟨#[46]⟩ : ByteArray)) ++ t104) ++ ((⟨#[45]⟩ : ByteArray) ++ t105))) else (none)) else (none))) else (some ((((t102 ++ (⟨#[46]⟩ : ByteArray)) ++ t103) ++ (⟨#[46]⟩ : ByteArray)) ++ t104))) else (none))) else (none)) else (none)) = some r:=H;have A4:=Aside0.mk A40;clear A40;by_cases c5 : (t102 ++ (⟨#[46]⟩ : ByteArray)).size + t103.size ≤ 9223372036854775807
  ·rw [if_pos c5] at H
   have c5b0:=eq_true c5;have c5b1 : decide ((t102 ++ (⟨#[46]⟩ : ByteArray)).size + t103.size ≤ 9223372036854775807) = true:=decide_eq_true c5;try have c5b2 : (9223372036854775807 < (t102 ++ (⟨#[46]⟩ : ByteArray)).size + t103.size) = False:=eq_false (Nat.not_lt.2 c5)
   try (have c5s_:=c5;simp only [ByteArray.size_append,bsz_,List.size_toArray,List.length_cons,List.length_nil,Nat.zero_add,Nat.reduceAdd] at c5s_;have c5t_:=eq_false (Nat.not_lt.2 c5s_))
   by_cases c6 : ((t102 ++ (⟨#[46]⟩ : ByteArray)) ++ t103).size + 1 ≤ 9223372036854775807
   ·rw [if_pos c6] at H
    have c6b0:=eq_true c6;have c6b1 : decide (((t102 ++ (⟨#[46]⟩ : ByteArray)) ++ t103).size + 1 ≤ 9223372036854775807) = true:=decide_eq_true c6;try have c6b2 : (9223372036854775807 < ((t102 ++ (⟨#[46]⟩ : ByteArray)) ++ t103).size + 1) = False:=eq_false (Nat.not_lt.2 c6)
    try (have c6s_:=c6;simp only [ByteArray.size_append,bsz_,List.size_toArray,List.length_cons,List.length_nil,Nat.zero_add,Nat.reduceAdd] at c6s_;have c6t_:=eq_false (Nat.not_lt.2 c6s_))
    replace H:=Option.bind_eq_some_iff.mp H;obtain ⟨t104,A70,H⟩:=H;replace H : (if (((t102 ++ (⟨#[46]⟩ : ByteArray)) ++ t103) ++ (⟨#[46]⟩ : ByteArray)).size + t104.size ≤ 9223372036854775807 then (if (l0_3.length : Int) > 0 then ((strings_Join.f l0_3 (⟨#[46]⟩ : ByteArray)).bind fun t105 => (if 1 + t105.size ≤ 9223372036854775807 then (if ((((t102 ++ (⟨#[46]⟩ : ByteArray)) ++ t103) ++ (⟨#[46]⟩ : ByteArray)) ++ t104).size + ((⟨#[45]⟩ : ByteArray) ++ t105).size ≤ 9223372036854775807 then (some (((((t102 ++ (⟨#[46]⟩ : ByteArray)) ++ t103) ++ (⟨#[46]⟩ : ByteArray)) ++ t104) ++ ((⟨#[45]⟩ : ByteArray) ++ t105))) else (none)) else (none))) else (some ((((t102 ++ (⟨#[46]⟩ : ByteArray)) ++ t103) ++ (⟨#[46]⟩ : ByteArray)) ++ t104))) else (none)) = some r:=H;have A7:=Aside0.mk A70;clear A70;by_cases c8 : (((t102 ++ (⟨#[46]⟩ : ByteArray)) ++ t103) ++ (⟨#[46]⟩ : ByteArray)).size + t104.size ≤ 9223372036854775807
    ·rw [if_pos c8] at H
     have c8b0:=eq_true c8;have c8b1 : decide ((((t102 ++ (⟨#[46]⟩ : ByteArray)) ++ t103) ++ (⟨#[46]⟩ : ByteArray)).size + t104.size ≤ 9223372036854775807) = true:=decide_eq_true c8;try have c8b2 : (9223372036854775807 < (((t102 ++ (⟨#[46]⟩ : ByteArray)) ++ t103) ++ (⟨#[46]⟩ : ByteArray)).size + t104.size) = False:=eq_false (Nat.not_lt.2 c8)
     try (have c8s_:=c8;simp only [ByteArray.size_append,bsz_,List.size_toArray,List.length_cons,List.length_nil,Nat.zero_add,Nat.reduceAdd] at c8s_;have c8t_:=eq_false (Nat.not_lt.2 c8s_))
     by_cases c9 : (l0_3.length : Int) > 0
     ·rw [if_pos c9] at H
      have c9b0 : decide (0 < (l0_3.length : Int)) = true:=decide_eq_true c9;have c9b1 : decide (0 < l0_3.length) = true:=decide_eq_true (by omega);clear c9;replace H:=Option.bind_eq_some_iff.mp H;obtain ⟨t105,A100,H⟩:=H;replace H : (if 1 + t105.size ≤ 9223372036854775807 then (if ((((t102 ++ (⟨#[46]⟩ : ByteArray)) ++ t103) ++ (⟨#[46]⟩ : ByteArray)) ++ t104).size + ((⟨#[45]⟩ : ByteArray) ++ t105).size ≤ 9223372036854775807 then (some (((((t102 ++ (⟨#[46]⟩ : ByteArray)) ++ t103) ++ (⟨#[46]⟩ : ByteArray)) ++ t104) ++ ((⟨#[45]⟩ : ByteArray) ++ t105))) else (none)) else (none)) = some r:=H;have A10:=Aside0.mk A100;clear A100;by_cases c11 : 1 + t105.size ≤ 9223372036854775807
      ·rw [if_pos c11] at H
       have c11b0:=eq_true c11;have c11b1 : decide (1 + t105.size ≤ 9223372036854775807) = true:=decide_eq_true c11;try have c11b2 : (9223372036854775807 < 1 + t105.size) = False:=eq_false (Nat.not_lt.2 c11)
       by_cases c12 : ((((t102 ++ (⟨#[46]⟩ : ByteArray)) ++ t103) ++ (⟨#[46]⟩ : ByteArray)) ++ t104).size + ((⟨#[45]⟩ : ByteArray) ++ t105).size ≤ 9223372036854775807
       ·rw [if_pos c12] at H
        have c12b0:=eq_true c12;have c12b1 : decide (((((t102 ++ (⟨#[46]⟩ : ByteArray)) ++ t103) ++ (⟨#[46]⟩ : ByteArray)) ++ t104).size + ((⟨#[45]⟩ : ByteArray) ++ t105).size ≤ 9223372036854775807) = true:=decide_eq_true c12;try have c12b2 : (9223372036854775807 < ((((t102 ++ (⟨#[46]⟩ : ByteArray)) ++ t103) ++ (⟨#[46]⟩ : ByteArray)) ++ t104).size + ((⟨#[45]⟩ : ByteArray) ++ t105).size) = False:=eq_false (Nat.not_lt.2 c12)
        try (have c12s_:=c12;simp only [ByteArray.size_append,bsz_,List.size_toArray,List.length_cons,List.length_nil,Nat.zero_add,Nat.reduceAdd] at c12s_;have c12t_:=eq_false (Nat.not_lt.2 c12s_))
        obtain rfl:=Option.some.inj H;go_enter Tryd.func34,Tryd.ntmps34;try go_wp2_with (first|((with_reducible refine gate_dst (N:=1) rfl ?_);refine box_event ?hg (N:=1) ?hd (cs:=#[.int .i64 a0_0,.int .i64 a0_1,.int .i64 a0_2,.slice A0_3 l0_3.length c0_3]) (t:=24) ?hr ?_;(case hd => rfl);(case hg => rfl);(case hr => first|(go_simp;done)|(go_simp;rfl));intro gb101 hg w13 hbox hb;have BK101:=Aside0.mk (hbox);have GW101:=Aside0.mk ((bs_ : w.heap.size ≤ gb101));have GE101:=Aside0.mk ((bs_ : w.heap.size ≤ gb101));replace HB:=Aside0.mk (below_step bel_ hb);clear hb hbox hg))
        replace BK101:=Aside0.mk (blk_drew BK101.out);replace HB:=Aside0.mk (below_drew1 HB.out);refine start_ (n:=14) (S:=fun w' => w'.cell? ⟨gb101,0,none⟩ = some (.int .i64 a0_0) ∧ w'.cell? ⟨gb101,1,none⟩ = some (.int .i64 a0_1) ∧ w'.cell? ⟨gb101,2,none⟩ = some (.int .i64 a0_2) ∧ w'.cell? ⟨gb101,3,none⟩ = some (.slice A0_3 l0_3.length c0_3)) (ds:=[]) (bl_ 14 0) (by kernel_rfl) rfl rfl ⟨(blk_cell BK101.out 0).trans rfl,(blk_cell BK101.out 1).trans rfl,(blk_cell BK101.out 2).trans rfl,(blk_cell BK101.out 3).trans rfl⟩ (fun hHeld => ?_);refine with_tabW version_text.tab1 version_text.bits1 (fun HT_ HW_ => ?_);generalize w13.drew = w14 at BK101 HB hHeld ⊢;refine pu_ (v:=?_) (a':=?_) 0 4 (bl_ 14 1) rfl rfl HT_.out ?_ ?_ ?_;rotate_left
        ·intro w'
         go_simp;with_reducible rfl
        rotate_left
        ·simp only [Act.put,sa_,sb_,sc_,i64_w,i32_w]
         rfl
        refine pu_ (v:=?_) (a':=?_) 4 8 (bl_ 14 17) rfl rfl HT_.out ?_ ?_ ?_;rotate_left
        ·intro w'
         go_simp;with_reducible rfl
        rotate_left
        ·simp only [Act.put,sa_,sb_,sc_,i64_w,i32_w]
         rfl
        refine pu_ (v:=?_) (a':=?_) 9 13 (bl_ 14 529) rfl rfl HT_.out ?_ ?_ ?_;rotate_left
        ·intro w'
         go_simp;with_reducible rfl
        rotate_left
        ·simp only [Act.put,sa_,sb_,sc_,i64_w,i32_w]
         rfl
        refine tk_ (v:=?_) (a':=?_) 1 5 (bl_ 14 531) rfl rfl HT_.out HW_.out ?_ hHeld ?_ ?_;rotate_left
        ·rintro w' ⟨s0,s1,s2,s3⟩
         go_simp;with_reducible rfl
        rotate_left
        ·simp only [Act.put,sa_,sb_,sc_,i64_w,i32_w]
         rfl
        refine tk_ (v:=?_) (a':=?_) 5 9 (bl_ 14 563) rfl rfl HT_.out HW_.out ?_ hHeld ?_ ?_;rotate_left
        ·rintro w' ⟨s0,s1,s2,s3⟩
         go_simp;with_reducible rfl
        rotate_left
        ·simp only [Act.put,sa_,sb_,sc_,i64_w,i32_w]
         rfl
        refine tk_ (v:=?_) (a':=?_) 10 14 (bl_ 14 1587) rfl rfl HT_.out HW_.out ?_ hHeld ?_ ?_;rotate_left
        ·rintro w' ⟨s0,s1,s2,s3⟩
         go_simp;with_reducible rfl
        rotate_left
        ·simp only [Act.put,sa_,sb_,sc_,i64_w,i32_w]
         rfl
        refine one_ (i:=2) (N:=some 6) (bl_ 14 1591) rfl rfl (one_of HT_.out (by kernel_rfl)) (by decide) (fun K hK => ?_);refine goes_ Tryd.func50 (by kernel_rfl) rfl #[.int .i64 a0_0] (by rfl) rfl rfl ln_ ?_;with_reducible refine (strconv_Itoa.calls a0_0 t102 _ A2.out (lo_ HL)).mono ?_
        rintro e w15 ⟨rfl,hb⟩;refine ⟨_,rfl,?_⟩;replace BK101:=Aside0.mk (blk_below (blk_mv BK101.out) hb);replace HB:=Aside0.mk (below_step bel_ hb);(try clear hb);refine hK.out _ _ ⟨(blk_cell BK101.out 0).trans rfl,(blk_cell BK101.out 1).trans rfl,(blk_cell BK101.out 2).trans rfl,(blk_cell BK101.out 3).trans rfl⟩ (fun hHeld => ?_);clear hK K;refine norm_ (a':=?_) ?_ ?_;rotate_left
        ·show Act.put _ (some 6) _ = _
         simp only [Act.put,sa_,sb_,sc_,i64_w,i32_w];rfl
        refine pu_ (v:=?_) (a':=?_) 3 7 (bl_ 14 1599) rfl rfl HT_.out ?_ ?_ ?_;rotate_left
        ·intro w'
         go_simp;with_reducible rfl
        rotate_left
        ·simp only [Act.put,sa_,sb_,sc_,i64_w,i32_w]
         rfl
        refine one_ (i:=6) (N:=some 10) (bl_ 14 1663) rfl rfl (one_of HT_.out (by kernel_rfl)) (by decide) (fun K hK => ?_);refine goes_ Tryd.func50 (by kernel_rfl) rfl #[.int .i64 a0_1] (by rfl) rfl rfl ln_ ?_;with_reducible refine (strconv_Itoa.calls a0_1 t103 _ A4.out (lo_ HL)).mono ?_
        rintro e w16 ⟨rfl,hb⟩;refine ⟨_,rfl,?_⟩;replace BK101:=Aside0.mk (blk_below (blk_mv BK101.out) hb);replace HB:=Aside0.mk (below_step bel_ hb);(try clear hb);refine hK.out _ _ ⟨(blk_cell BK101.out 0).trans rfl,(blk_cell BK101.out 1).trans rfl,(blk_cell BK101.out 2).trans rfl,(blk_cell BK101.out 3).trans rfl⟩ (fun hHeld => ?_);clear hK K;refine norm_ (a':=?_) ?_ ?_;rotate_left
        ·show Act.put _ (some 10) _ = _
         simp only [Act.put,sa_,sb_,sc_,i64_w,i32_w];rfl
        refine pu_ (v:=?_) (a':=?_) 7 11 (bl_ 14 1791) rfl rfl HT_.out ?_ ?_ ?_;rotate_left
        ·intro w'
         go_simp;with_reducible rfl
        rotate_left
        ·simp only [Act.put,sa_,sb_,sc_,i64_w,i32_w]
         rfl
        refine pu_ (v:=?_) (a':=?_) 8 12 (bl_ 14 2047) rfl rfl HT_.out ?_ ?_ ?_;rotate_left
        ·intro w'
         go_simp;with_reducible rfl
        rotate_left
        ·simp only [Act.put,sa_,sb_,sc_,i64_w,i32_w]
         rfl
        refine one_ (i:=11) (N:=some 15) (bl_ 14 4095) rfl rfl (one_of HT_.out (by kernel_rfl)) (by decide) (fun K hK => ?_);refine goes_ Tryd.func50 (by kernel_rfl) rfl #[.int .i64 a0_2] (by rfl) rfl rfl ln_ ?_;with_reducible refine (strconv_Itoa.calls a0_2 t104 _ A7.out (lo_ HL)).mono ?_
        rintro e w17 ⟨rfl,hb⟩;refine ⟨_,rfl,?_⟩;replace BK101:=Aside0.mk (blk_below (blk_mv BK101.out) hb);replace HB:=Aside0.mk (below_step bel_ hb);(try clear hb);refine hK.out _ _ ⟨(blk_cell BK101.out 0).trans rfl,(blk_cell BK101.out 1).trans rfl,(blk_cell BK101.out 2).trans rfl,(blk_cell BK101.out 3).trans rfl⟩ (fun hHeld => ?_);clear hK K;refine norm_ (a':=?_) ?_ ?_;rotate_left
        ·show Act.put _ (some 15) _ = _
         simp only [Act.put,sa_,sb_,sc_,i64_w,i32_w];rfl
        refine pu_ (v:=?_) (a':=?_) 12 16 (bl_ 14 8191) rfl rfl HT_.out ?_ ?_ ?_;rotate_left
        ·intro w'
         go_simp;with_reducible rfl
        rotate_left
        ·simp only [Act.put,sa_,sb_,sc_,i64_w,i32_w]
         rfl
        refine pu_ (v:=?_) (a':=?_) 13 3 (bl_ 14 16383) rfl rfl HT_.out ?_ ?_ ?_;rotate_left
        ·intro w'
         go_simp;with_reducible rfl
        rotate_left
        ·simp only [Act.put,sa_,sb_,sc_,i64_w,i32_w]
         rfl
        refine done_ (done_of HT_.out (by kernel_rfl)) ?_;have hcz18_0:=blk_c (v:=.int .i64 a0_0) BK101.out 0 rfl;have hcz18_1:=blk_c (v:=.int .i64 a0_1) BK101.out 1 rfl;have hcz18_2:=blk_c (v:=.int .i64 a0_2) BK101.out 2 rfl;have hcz18_3:=blk_c (v:=.slice A0_3 l0_3.length c0_3) BK101.out 3 rfl;have hfz18_0:=blk_frozen BK101.out 0;have hfz18_1:=blk_frozen BK101.out 1;have hfz18_2:=blk_frozen BK101.out 2;have hfz18_3:=blk_frozen BK101.out 3;try go_wp2_with (first|((with_reducible refine gate_callee (f:=51) rfl ?_);refine goesL_ (some 24) rfl rfl Tryd.func51 (by kernel_rfl) rfl #[.slice A0_3 l0_3.length c0_3,.string (⟨#[46]⟩ : ByteArray)] rfl ln_ ?_;(with_reducible refine (strings_Join.calls _ _ l0_3 (⟨#[46]⟩ : ByteArray) t105 _ ?side1 ?side2 A10.out).mono ?_);(case side1 => first|exact (Kd.C_below HR0_3.out HB.out)|exact Kd.C_mv (Kd.C_below HR0_3.out HB.out));(case side2 => exact HC0_3.out);rintro e w19 ⟨rfl,hb⟩;refine ⟨_,rfl,?_⟩;replace BK101:=Aside0.mk (blk_below (blk_mv BK101.out) hb);replace HB:=Aside0.mk (below_step bel_ hb);(try clear hb);(try clear hb2);(try clear hk);(try clear hi)))
        go_ret;exact ⟨by first|rfl|(simp [errW_none,errW_some] <;> rfl)|(simp [*,errW_none,errW_some] <;> rfl),bel_⟩
       ·rw [if_neg c12] at H
        exact absurd H (by simp)
      ·rw [if_neg c11] at H
       exact absurd H (by simp)
     ·rw [if_neg c9] at H
      have c9b0 : decide (0 < (l0_3.length : Int)) = false:=decide_eq_false c9;have c9b1 : decide (0 < l0_3.length) = false:=decide_eq_false (by omega);clear c9;obtain rfl:=Option.some.inj H;go_enter Tryd.func34,Tryd.ntmps34;try go_wp2_with (first|((with_reducible refine gate_dst (N:=1) rfl ?_);refine box_event ?hg (N:=1) ?hd (cs:=#[.int .i64 a0_0,.int .i64 a0_1,.int .i64 a0_2,.slice A0_3 l0_3.length c0_3]) (t:=24) ?hr ?_;(case hd => rfl);(case hg => rfl);(case hr => first|(go_simp;done)|(go_simp;rfl));intro gb101 hg w20 hbox hb;have BK101:=Aside0.mk (hbox);have GW101:=Aside0.mk ((bs_ : w.heap.size ≤ gb101));have GE101:=Aside0.mk ((bs_ : w.heap.size ≤ gb101));replace HB:=Aside0.mk (below_step bel_ hb);clear hb hbox hg))
      replace BK101:=Aside0.mk (blk_drew BK101.out);replace HB:=Aside0.mk (below_drew1 HB.out);refine start_ (n:=14) (S:=fun w' => w'.cell? ⟨gb101,0,none⟩ = some (.int .i64 a0_0) ∧ w'.cell? ⟨gb101,1,none⟩ = some (.int .i64 a0_1) ∧ w'.cell? ⟨gb101,2,none⟩ = some (.int .i64 a0_2) ∧ w'.cell? ⟨gb101,3,none⟩ = some (.slice A0_3 l0_3.length c0_3)) (ds:=[]) (bl_ 14 0) (by kernel_rfl) rfl rfl ⟨(blk_cell BK101.out 0).trans rfl,(blk_cell BK101.out 1).trans rfl,(blk_cell BK101.out 2).trans rfl,(blk_cell BK101.out 3).trans rfl⟩ (fun hHeld => ?_);refine with_tabW version_text.tab1 version_text.bits1 (fun HT_ HW_ => ?_);generalize w20.drew = w21 at BK101 HB hHeld ⊢;refine pu_ (v:=?_) (a':=?_) 0 4 (bl_ 14 1) rfl rfl HT_.out ?_ ?_ ?_;rotate_left
      ·intro w'
       go_simp;with_reducible rfl
      rotate_left
      ·simp only [Act.put,sa_,sb_,sc_,i64_w,i32_w]
       rfl
      refine pu_ (v:=?_) (a':=?_) 4 8 (bl_ 14 17) rfl rfl HT_.out ?_ ?_ ?_;rotate_left
      ·intro w'
       go_simp;with_reducible rfl
      rotate_left
      ·simp only [Act.put,sa_,sb_,sc_,i64_w,i32_w]
       rfl
      refine pu_ (v:=?_) (a':=?_) 9 13 (bl_ 14 529) rfl rfl HT_.out ?_ ?_ ?_;rotate_left
      ·intro w'
       go_simp;with_reducible rfl
      rotate_left
      ·simp only [Act.put,sa_,sb_,sc_,i64_w,i32_w]
       rfl
      refine tk_ (v:=?_) (a':=?_) 1 5 (bl_ 14 531) rfl rfl HT_.out HW_.out ?_ hHeld ?_ ?_;rotate_left
      ·rintro w' ⟨s0,s1,s2,s3⟩
       go_simp;with_reducible rfl
      rotate_left
      ·simp only [Act.put,sa_,sb_,sc_,i64_w,i32_w]
       rfl
      refine tk_ (v:=?_) (a':=?_) 5 9 (bl_ 14 563) rfl rfl HT_.out HW_.out ?_ hHeld ?_ ?_;rotate_left
      ·rintro w' ⟨s0,s1,s2,s3⟩
       go_simp;with_reducible rfl
      rotate_left
      ·simp only [Act.put,sa_,sb_,sc_,i64_w,i32_w]
       rfl
      refine tk_ (v:=?_) (a':=?_) 10 14 (bl_ 14 1587) rfl rfl HT_.out HW_.out ?_ hHeld ?_ ?_;rotate_left
      ·rintro w' ⟨s0,s1,s2,s3⟩
       go_simp;with_reducible rfl
      rotate_left
      ·simp only [Act.put,sa_,sb_,sc_,i64_w,i32_w]
       rfl
      refine one_ (i:=2) (N:=some 6) (bl_ 14 1591) rfl rfl (one_of HT_.out (by kernel_rfl)) (by decide) (fun K hK => ?_);refine goes_ Tryd.func50 (by kernel_rfl) rfl #[.int .i64 a0_0] (by rfl) rfl rfl ln_ ?_;with_reducible refine (strconv_Itoa.calls a0_0 t102 _ A2.out (lo_ HL)).mono ?_
      rintro e w22 ⟨rfl,hb⟩;refine ⟨_,rfl,?_⟩;replace BK101:=Aside0.mk (blk_below (blk_mv BK101.out) hb);replace HB:=Aside0.mk (below_step bel_ hb);(try clear hb);refine hK.out _ _ ⟨(blk_cell BK101.out 0).trans rfl,(blk_cell BK101.out 1).trans rfl,(blk_cell BK101.out 2).trans rfl,(blk_cell BK101.out 3).trans rfl⟩ (fun hHeld => ?_);clear hK K;refine norm_ (a':=?_) ?_ ?_;rotate_left
      ·show Act.put _ (some 6) _ = _
       simp only [Act.put,sa_,sb_,sc_,i64_w,i32_w];rfl
      refine pu_ (v:=?_) (a':=?_) 3 7 (bl_ 14 1599) rfl rfl HT_.out ?_ ?_ ?_;rotate_left
      ·intro w'
       go_simp;with_reducible rfl
      rotate_left
      ·simp only [Act.put,sa_,sb_,sc_,i64_w,i32_w]
       rfl
      refine one_ (i:=6) (N:=some 10) (bl_ 14 1663) rfl rfl (one_of HT_.out (by kernel_rfl)) (by decide) (fun K hK => ?_);refine goes_ Tryd.func50 (by kernel_rfl) rfl #[.int .i64 a0_1] (by rfl) rfl rfl ln_ ?_;with_reducible refine (strconv_Itoa.calls a0_1 t103 _ A4.out (lo_ HL)).mono ?_
      rintro e w23 ⟨rfl,hb⟩;refine ⟨_,rfl,?_⟩;replace BK101:=Aside0.mk (blk_below (blk_mv BK101.out) hb);replace HB:=Aside0.mk (below_step bel_ hb);(try clear hb);refine hK.out _ _ ⟨(blk_cell BK101.out 0).trans rfl,(blk_cell BK101.out 1).trans rfl,(blk_cell BK101.out 2).trans rfl,(blk_cell BK101.out 3).trans rfl⟩ (fun hHeld => ?_);clear hK K;refine norm_ (a':=?_) ?_ ?_;rotate_left
      ·show Act.put _ (some 10) _ = _
       simp only [Act.put,sa_,sb_,sc_,i64_w,i32_w];rfl
      refine pu_ (v:=?_) (a':=?_) 7 11 (bl_ 14 1791) rfl rfl HT_.out ?_ ?_ ?_;rotate_left
      ·intro w'
       go_simp;with_reducible rfl
      rotate_left
      ·simp only [Act.put,sa_,sb_,sc_,i64_w,i32_w]
       rfl
      refine pu_ (v:=?_) (a':=?_) 8 12 (bl_ 14 2047) rfl rfl HT_.out ?_ ?_ ?_;rotate_left
      ·intro w'
       go_simp;with_reducible rfl
      rotate_left
      ·simp only [Act.put,sa_,sb_,sc_,i64_w,i32_w]
       rfl
      refine one_ (i:=11) (N:=some 15) (bl_ 14 4095) rfl rfl (one_of HT_.out (by kernel_rfl)) (by decide) (fun K hK => ?_);refine goes_ Tryd.func50 (by kernel_rfl) rfl #[.int .i64 a0_2] (by rfl) rfl rfl ln_ ?_;with_reducible refine (strconv_Itoa.calls a0_2 t104 _ A7.out (lo_ HL)).mono ?_
      rintro e w24 ⟨rfl,hb⟩;refine ⟨_,rfl,?_⟩;replace BK101:=Aside0.mk (blk_below (blk_mv BK101.out) hb);replace HB:=Aside0.mk (below_step bel_ hb);(try clear hb);refine hK.out _ _ ⟨(blk_cell BK101.out 0).trans rfl,(blk_cell BK101.out 1).trans rfl,(blk_cell BK101.out 2).trans rfl,(blk_cell BK101.out 3).trans rfl⟩ (fun hHeld => ?_);clear hK K;refine norm_ (a':=?_) ?_ ?_;rotate_left
      ·show Act.put _ (some 15) _ = _
       simp only [Act.put,sa_,sb_,sc_,i64_w,i32_w];rfl
      refine pu_ (v:=?_) (a':=?_) 12 16 (bl_ 14 8191) rfl rfl HT_.out ?_ ?_ ?_;rotate_left
      ·intro w'
       go_simp;with_reducible rfl
      rotate_left
      ·simp only [Act.put,sa_,sb_,sc_,i64_w,i32_w]
       rfl
      refine pu_ (v:=?_) (a':=?_) 13 3 (bl_ 14 16383) rfl rfl HT_.out ?_ ?_ ?_;rotate_left
      ·intro w'
       go_simp;with_reducible rfl
      rotate_left
      ·simp only [Act.put,sa_,sb_,sc_,i64_w,i32_w]
       rfl
      refine done_ (done_of HT_.out (by kernel_rfl)) ?_;have hcz25_0:=blk_c (v:=.int .i64 a0_0) BK101.out 0 rfl;have hcz25_1:=blk_c (v:=.int .i64 a0_1) BK101.out 1 rfl;have hcz25_2:=blk_c (v:=.int .i64 a0_2) BK101.out 2 rfl;have hcz25_3:=blk_c (v:=.slice A0_3 l0_3.length c0_3) BK101.out 3 rfl;have hfz25_0:=blk_frozen BK101.out 0;have hfz25_1:=blk_frozen BK101.out 1;have hfz25_2:=blk_frozen BK101.out 2;have hfz25_3:=blk_frozen BK101.out 3;try go_wp2
      go_ret;exact ⟨by first|rfl|(simp [errW_none,errW_some] <;> rfl)|(simp [*,errW_none,errW_some] <;> rfl),bel_⟩
    ·rw [if_neg c8] at H
     exact absurd H (by simp)
   ·rw [if_neg c6] at H
    exact absurd H (by simp)
  ·rw [if_neg c5] at H
   exact absurd H (by simp)
 ·rw [if_neg c3] at H
  exact absurd H (by simp)

end Go.Proofs.YtggdbafmpmfmcaaDoor.Fn
