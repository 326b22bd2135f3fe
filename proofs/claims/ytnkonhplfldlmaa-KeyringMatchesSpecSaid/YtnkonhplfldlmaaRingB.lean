/- keyring.Validate, Valid and Owner answer as the events say, by scanning them (own work). Condition of each: the events' keys are numbers of the machine. -/
import Derived.Test.YtnkonhplfldlmaaRingA
namespace Go.Proofs.Ytnkonhplfldlmaa.Fn
open Go Go.Maps Go.RowKit Go.Proofs.YtnkonhplfldlmaaW.PrintWords Go.Proofs.YtnkonhplfldlmaaW.PrintLast Go.Proofs.YtnkonhplfldlmaaW.PrintMore Go.Proofs.Ytnkonhplfldlmaa.PtrMap
attribute [local go_sem high] eqA24
set_option linter.unusedVariables false
set_option linter.unusedSimpArgs false
def validF (l : List S45) (key time : Int) : Bool × Int × Int :=
  if (ringFault l).1 ≠ 0 then (false, ringFault l) else if ¬ ((1 ≤ key ∧ key ≤ 1000000000) ∧ (0 ≤ time ∧ time ≤ 100000)) then (false, 3, -1) else (keyValid l key time, 0, 0)
def ownerF (l : List S45) (key : Int) : Int × Int × Int :=
  if (ringFault l).1 ≠ 0 then (0, ringFault l) else if ¬ (1 ≤ key ∧ key ≤ 1000000000) then (0, 3, -1) else if kt l key 1 < 0 then (0, 6, 0) else (ow l key, 0, 0)
theorem rf_zero : ∀ (r p : List S45), (rf p r).1 = 0 → rf p r = (0, 0)
  | [], p, _ => rfl
  | e :: r, p, h => by
    simp only [rf] at h ⊢
    split at h
    · rename_i hc
      rw [if_pos hc]
      exact rf_zero r _ h
    · rename_i hc
      exact absurd h hc
theorem ringFault_zero {l : List S45} (h : (ringFault l).1 = 0) : ringFault l = (0, 0) := by
  unfold ringFault at h ⊢
  split
  · rename_i hc
    rw [if_pos hc] at h
    exact absurd h (by decide)
  · rename_i hc
    rw [if_neg hc] at h
    exact rf_zero _ _ h
theorem wf_key {key : Int} (h : 1 ≤ key ∧ key ≤ 1000000000) : (Lit.int .i64 key).wf = true := WalkArith.wf_i64 (by omega)
theorem RM.base {w0 w1 W : World} {b n : Nat} {p : List S45} {F : Int → Option Nat} (h : RM w1 W b n p F) (hs : w0.heap.size ≤ w1.heap.size) : RM w0 W b n p F :=
  ⟨Nat.le_trans hs h.ge, h.tm, h.map, h.no, fun x g hx => ⟨(h.at_ x g hx).1, (h.at_ x g hx).2.1, Nat.le_trans hs (h.at_ x g hx).2.2⟩, h.inj⟩
theorem RM.lost {w0 W : World} {b n : Nat} {p : List S45} {F : Int → Option Nat} (h : RM w0 W b n p F) {x : Int} (hF : F x = none) : kt p x 1 < 0 := by
  rw [kt_none fun c hc hh => h.no _ hF c hc hh.2]
  decide
theorem RM.none_of {w0 W : World} {b n : Nat} {p : List S45} {F : Int → Option Nat} (h : RM w0 W b n p F) {x : Int} (hk : kt p x 1 < 0) : F x = none := by
  cases hF : F x with
  | none => rfl
  | some g =>
    have := (h.at_ x g hF).1
    omega
theorem RM.some_of {w0 W : World} {b n : Nat} {p : List S45} {F : Int → Option Nat} (h : RM w0 W b n p F) {x : Int} (hk : ¬ kt p x 1 < 0) : ∃ g, F x = some g := by
  cases hF : F x with
  | none => exact absurd (h.lost hF) hk
  | some g => exact ⟨g, rfl⟩
theorem RM.invalid {w0 W : World} {b n : Nat} {p : List S45} {F : Int → Option Nat} (h : RM w0 W b n p F) {x : Int} (hF : F x = none) (t : Int) : keyValid p x t = false := by
  have := h.lost hF
  exact decide_eq_false (by omega)
theorem RM.valid {w0 W : World} {b n : Nat} {p : List S45} {F : Int → Option Nat} (h : RM w0 W b n p F) {x : Int} {g : Nat} (hF : F x = some g) (t : Int) : keyValid p x t = (decide (kt p x 1 ≤ t) && (decide (kt p x 2 < 0) || decide (t < kt p x 2))) := by
  have := (h.at_ _ _ hF).1
  unfold keyValid
  rw [← Bool.decide_or, ← Bool.decide_and, decide_eq_decide]
  omega
theorem replay_says (A0 : Option Addr) (c0 : Nat) (l0 : List S45) (w : World) (hr0 : Kd.C k45 w A0 l0.length l0) (hc0 : l0.length ≤ c0) (hwf : keysWf l0 = true) (r1 r2 : Int) (h : ringFault l0 = (r1, r2)) :
    Calls Try.prog 41 #[.slice A0 l0.length c0] w fun e w' => Below w.heap.size w w' ∧ ∃ m : Option Nat, e = .returned (.tuple #[.map m, .agg #[.int .i64 r1, .int .i64 r2]]) ∧ (r1 = 0 → ∃ b n F, m = some b ∧ RM w w' b n l0 F) := by
  have h1 := replay_calls A0 c0 l0 w hr0 hc0 hwf
  rw [h] at h1
  exact h1
set_option maxHeartbeats 8000000 in
set_option maxRecDepth 100000 in
theorem sv_calls (g : Nat) (u a r t : Int) (w : World) (h : w.heap[g]? = some (.cells #[.int .i64 u, .int .i64 a, .int .i64 r] 71 (0, 0))) :
    Calls Try.prog 44 #[.pointer (some ⟨g, 0, none⟩), .int .i64 t] w fun e w' => e = .returned (.bool (decide (a ≤ t) && (decide (r < 0) || decide (t < r)))) ∧ Drawn0 w w' := by
  have hcz_0 := cellS71_0 h
  have hcz_1 := cellS71_1 h
  have hcz_2 := cellS71_2 h
  clear h
  by_cases c3 : a ≤ t
  · have c3b : decide (a ≤ t) = true := decide_eq_true c3
    clear c3
    by_cases c4 : r < 0
    · have c4b : decide (r < 0) = true := decide_eq_true c4
      clear c4
      go_enter Try.func44, Try.ntmps44
      go_wp2
      go_ret
      exact ⟨by first | rfl | (simp [*]; done), by repeat (first | exact Drawn0.refl _ | apply Drawn0.step)⟩
    · have c4b : decide (r < 0) = false := decide_eq_false c4
      clear c4
      go_enter Try.func44, Try.ntmps44
      go_wp2
      go_ret
      exact ⟨by first | rfl | (simp [*]; done), by repeat (first | exact Drawn0.refl _ | apply Drawn0.step)⟩
  · have c3b : decide (a ≤ t) = false := decide_eq_false c3
    clear c3
    go_enter Try.func44, Try.ntmps44
    go_wp2
    go_ret
    exact ⟨by first | rfl | (simp [*]; done), by repeat (first | exact Drawn0.refl _ | apply Drawn0.step)⟩
set_option maxHeartbeats 8000000 in
set_option maxRecDepth 100000 in
theorem validate_calls (A0 : Option Addr) (c0 : Nat) (l0 : List S45) (w : World) (hr0 : Kd.C k45 w A0 l0.length l0) (hc0 : l0.length ≤ c0) (hwf : keysWf l0 = true) :
    Calls Try.prog 13 #[.slice A0 l0.length c0] w fun e w' => e = .returned (.agg #[.int .i64 (ringFault l0).1, .int .i64 (ringFault l0).2]) ∧ Below w.heap.size w w' := by
  have hu24 := Try.underlying24
  replace hwf := Aside0.mk hwf
  have HR0 := Aside0.mk hr0
  clear hr0
  have HB := Aside0.mk (Below.refl w.heap.size w)
  replace hc0 := Aside0.mk hc0
  generalize hRF : ringFault l0 = R
  obtain ⟨r1, r2⟩ := R
  replace hRF := Aside0.mk hRF
  go_enter Try.func13, Try.ntmps13
  go_wp2_with (first | ((with_reducible refine gate_dst (N := 2) rfl ?_); refine box_event ?hg (N := 2) ?hd (cs := #[.int .i64 0, .int .i64 0]) (t := 24) ?hr ?_; (case hd => rfl); (case hg => rfl); (case hr => first | (go_simp; done) | (go_simp; rfl)); intro gb101 hg w3 hbox hb; have BK101 := Aside0.mk hbox; have GW101 := Aside0.mk (bs_ : w.heap.size ≤ gb101); replace HB := Aside0.mk (below_step bel_ hb); clear hb hbox hg) | ((with_reducible refine gate_callee (f := 41) rfl ?_); refine goesL_ (some 7) rfl rfl Try.func41 (by kernel_rfl) rfl #[.slice A0 l0.length c0] rfl ln_ ?_; refine (replay_says A0 c0 l0 _ ?s1 hc0.out hwf.out r1 r2 hRF.out).mono ?_; (case s1 => first | exact (Kd.C_below HR0.out HB.out) | exact Kd.C_mv (Kd.C_below HR0.out HB.out)); rintro _ w5 ⟨hb, m, rfl, hR⟩; refine ⟨_, rfl, ?_⟩; clear hR; replace BK101 := Aside0.mk (blk_below (blk_mv BK101.out) hb); replace HB := Aside0.mk (below_step bel_ hb); clear hb) | ((with_reducible refine gate_dst (N := 4) rfl ?_); refine box_event ?hg (N := 4) ?hd (cs := #[.int .i64 0, .int .i64 0]) (t := 24) ?hr ?_; (case hd => rfl); (case hg => rfl); (case hr => first | (go_simp; done) | (go_simp; rfl)); intro gb105 hg w8 hbox hb; have BK105 := Aside0.mk hbox; have GW105 := Aside0.mk (bs_ : w.heap.size ≤ gb105); replace HB := Aside0.mk (below_step bel_ hb); have NBa : gb101 ≠ gb105 := (by rw [hg]; exact Nat.ne_of_lt (blk_lt (g := gb101) (o := .cells #[.int .i64 0, .int .i64 0] 24 (0, 0)) (blk_mv BK101.out))); have NBb := NBa.symm; replace BK101 := Aside0.mk (blk_below (blk_mv BK101.out) hb); (try replace HM := Aside0.mk (RM.step HM.out hb)); clear hbox hb hg; have hcz10_0 := blk_c (v := .int .i64 0) BK105.out 0 rfl; have hcz10_1 := blk_c (v := .int .i64 0) BK105.out 1 rfl; have hfz10_0 := blk_frozen BK105.out 0; have hfz10_1 := blk_frozen BK105.out 1) | ((with_reducible refine gate_dst (N := 10) rfl ?_); refine name_world (fun W' => W'.heap[gb101]? = some (.cells #[.int .i64 0, .int .i64 0] 24 (0, 0)) ∧ W'.heap[gb105]? = some (.cells #[.int .i64 r1, .int .i64 r2] 24 (0, 0)) ∧ Below w.heap.size w W') ⟨by refine blk_far ?_ NBa _; refine blk_far ?_ NBa _; exact BK101.out, by refine blk_put (cs := #[.int .i64 r1, .int .i64 0]) ?_ 1 _ rfl; refine blk_put (cs := #[.int .i64 0, .int .i64 0]) ?_ 0 _ rfl; exact BK105.out, bel_⟩ ?_; intro w9 hw; obtain ⟨hw1, hw2, hw3⟩ := hw; replace BK101 := Aside0.mk hw1; replace BK105 := Aside0.mk hw2; replace HB := Aside0.mk hw3; clear hw1 hw2 hw3 hcz10_0 hcz10_1 hfz10_0 hfz10_1; have hf0 := blk_c (v := .int .i64 r1) BK105.out 0 rfl; have hf1 := blk_c (v := .int .i64 r2) BK105.out 1 rfl; have hz0 := blk_c (v := .int .i64 0) BK101.out 0 rfl; have hz1 := blk_c (v := .int .i64 0) BK101.out 1 rfl; have hzf0 := blk_frozen BK101.out 0; have hzf1 := blk_frozen BK101.out 1))
  refine bodyPost_ret (results_cell_row rfl _ _ gb101 24 #[.int .i64 r1, .int .i64 r2] (0, 0) _ rfl (by refine blk_mv ?_; refine blk_put (cs := #[.int .i64 r1, .int .i64 0]) ?_ 1 _ rfl; refine blk_mv ?_; refine blk_put (cs := #[.int .i64 0, .int .i64 0]) ?_ 0 _ rfl; refine blk_mv ?_; exact BK101.out) Try.underlying24 rfl (by kernel_rfl)) rfl ?_
  exact ⟨rfl, bel_⟩
set_option maxHeartbeats 8000000 in
set_option maxRecDepth 100000 in
theorem valid_calls (A0 : Option Addr) (c0 : Nat) (l0 : List S45) (key time : Int) (w : World) (hr0 : Kd.C k45 w A0 l0.length l0) (hc0 : l0.length ≤ c0) (hwf : keysWf l0 = true) :
    Calls Try.prog 17 #[.slice A0 l0.length c0, .int .i64 key, .int .i64 time] w fun e w' => e = .returned (.tuple #[.bool (validF l0 key time).1, .agg #[.int .i64 (validF l0 key time).2.1, .int .i64 (validF l0 key time).2.2]]) ∧ Below w.heap.size w w' := by
  have hu24 := Try.underlying24
  replace hwf := Aside0.mk hwf
  have HR0 := Aside0.mk hr0
  clear hr0
  have HB := Aside0.mk (Below.refl w.heap.size w)
  replace hc0 := Aside0.mk hc0
  by_cases hz : (ringFault l0).1 = 0
  rotate_left
  · have hne : ringFault l0 = ((ringFault l0).1, (ringFault l0).2) := rfl
    have hv : validF l0 key time = (false, ringFault l0) := by rw [validF, if_pos hz]
    rw [hv]
    clear hv
    generalize (ringFault l0).1 = r1 at hne hz ⊢
    generalize (ringFault l0).2 = r2 at hne ⊢
    have c5b0 : (!(r1 == 0) || (!(r2 == 0))) = true := by simp [hz]
    replace hRF := Aside0.mk hne
    clear hne hz
    go_enter Try.func17, Try.ntmps17
    go_wp2_with (first | ((with_reducible refine gate_dst (N := 7) rfl ?_); refine box_event ?hg (N := 7) ?hd (cs := #[.int .i64 0, .int .i64 0]) (t := 24) ?hr ?_; (case hd => rfl); (case hg => rfl); (case hr => first | (go_simp; done) | (go_simp; rfl)); intro gb101 hg w3 hbox hb; have BK101 := Aside0.mk hbox; have GW101 := Aside0.mk (bs_ : w.heap.size ≤ gb101); replace HB := Aside0.mk (below_step bel_ hb); clear hb hbox hg) | ((with_reducible refine gate_callee (f := 41) rfl ?_); refine goesL_ (some 13) rfl rfl Try.func41 (by kernel_rfl) rfl #[.slice A0 l0.length c0] rfl ln_ ?_; refine (replay_says A0 c0 l0 _ ?s1 hc0.out hwf.out r1 r2 hRF.out).mono ?_; (case s1 => first | exact (Kd.C_below HR0.out HB.out) | exact Kd.C_mv (Kd.C_below HR0.out HB.out)); rintro _ w5 ⟨hb, m, rfl, hR⟩; refine ⟨_, rfl, ?_⟩; clear hR; replace BK101 := Aside0.mk (blk_below (blk_mv BK101.out) hb); replace HB := Aside0.mk (below_step bel_ hb); clear hb) | ((with_reducible refine gate_dst (N := 9) rfl ?_); refine box_event ?hg (N := 9) ?hd (cs := #[.int .i64 0, .int .i64 0]) (t := 24) ?hr ?_; (case hd => rfl); (case hg => rfl); (case hr => first | (go_simp; done) | (go_simp; rfl)); intro gb105 hg w8 hbox hb; have BK105 := Aside0.mk hbox; have GW105 := Aside0.mk (bs_ : w.heap.size ≤ gb105); replace HB := Aside0.mk (below_step bel_ hb); have NBa : gb101 ≠ gb105 := (by rw [hg]; exact Nat.ne_of_lt (blk_lt (g := gb101) (o := .cells #[.int .i64 0, .int .i64 0] 24 (0, 0)) (blk_mv BK101.out))); have NBb := NBa.symm; replace BK101 := Aside0.mk (blk_below (blk_mv BK101.out) hb); (try replace HM := Aside0.mk (RM.step HM.out hb)); clear hbox hb hg; have hcz10_0 := blk_c (v := .int .i64 0) BK105.out 0 rfl; have hcz10_1 := blk_c (v := .int .i64 0) BK105.out 1 rfl; have hfz10_0 := blk_frozen BK105.out 0; have hfz10_1 := blk_frozen BK105.out 1) | ((with_reducible refine gate_dst (N := 17) rfl ?_); refine name_world (fun W' => W'.heap[gb101]? = some (.cells #[.int .i64 0, .int .i64 0] 24 (0, 0)) ∧ W'.heap[gb105]? = some (.cells #[.int .i64 r1, .int .i64 r2] 24 (0, 0)) ∧ Below w.heap.size w W') ⟨by refine blk_far ?_ NBa _; refine blk_far ?_ NBa _; exact BK101.out, by refine blk_put (cs := #[.int .i64 r1, .int .i64 0]) ?_ 1 _ rfl; refine blk_put (cs := #[.int .i64 0, .int .i64 0]) ?_ 0 _ rfl; exact BK105.out, bel_⟩ ?_; intro w9 hw; obtain ⟨hw1, hw2, hw3⟩ := hw; replace BK101 := Aside0.mk hw1; replace BK105 := Aside0.mk hw2; replace HB := Aside0.mk hw3; clear hw1 hw2 hw3 hcz10_0 hcz10_1 hfz10_0 hfz10_1; have hf0 := blk_c (v := .int .i64 r1) BK105.out 0 rfl; have hf1 := blk_c (v := .int .i64 r2) BK105.out 1 rfl; have hz0 := blk_c (v := .int .i64 0) BK101.out 0 rfl; have hz1 := blk_c (v := .int .i64 0) BK101.out 1 rfl; have hzf0 := blk_frozen BK101.out 0; have hzf1 := blk_frozen BK101.out 1))
    have eN1 := NBa
    have eN2 := NBb
    go_region
    go_wp2
    refine bodyPost_ret (results_tc rfl _ _ gb101 24 #[.int .i64 r1, .int .i64 r2] (0, 0) _ rfl (by refine blk_mv ?_; refine blk_put (cs := #[.int .i64 r1, .int .i64 0]) ?_ 1 _ rfl; refine blk_mv ?_; refine blk_put (cs := #[.int .i64 0, .int .i64 0]) ?_ 0 _ rfl; refine blk_mv ?_; exact BK101.out) Try.underlying24 rfl (by kernel_rfl)) rfl ?_
    exact ⟨rfl, bel_⟩
  replace hRF := Aside0.mk (ringFault_zero hz)
  cases hk1 : signing_IsKey.f key with
  | none => exact absurd hk1 (by unfold signing_IsKey.f; split <;> simp)
  | some q1 =>
    have hk1' := isKey_says hk1
    cases q1
    · have hv : validF l0 key time = (false, 3, -1) := by rw [validF, if_neg (not_not_intro hz), if_pos (fun hh => of_decide_eq_false hk1'.symm hh.1)]
      rw [hv]
      clear hv hz hk1'
      go_enter Try.func17, Try.ntmps17
      go_wp2_with (first | ((with_reducible refine gate_dst (N := 7) rfl ?_); refine box_event ?hg (N := 7) ?hd (cs := #[.int .i64 0, .int .i64 0]) (t := 24) ?hr ?_; (case hd => rfl); (case hg => rfl); (case hr => first | (go_simp; done) | (go_simp; rfl)); intro gb101 hg w3 hbox hb; have BK101 := Aside0.mk hbox; have GW101 := Aside0.mk (bs_ : w.heap.size ≤ gb101); replace HB := Aside0.mk (below_step bel_ hb); clear hb hbox hg) | ((with_reducible refine gate_callee (f := 41) rfl ?_); refine goesL_ (some 13) rfl rfl Try.func41 (by kernel_rfl) rfl #[.slice A0 l0.length c0] rfl ln_ ?_; refine (replay_says A0 c0 l0 _ ?s1 hc0.out hwf.out 0 0 hRF.out).mono ?_; (case s1 => first | exact (Kd.C_below HR0.out HB.out) | exact Kd.C_mv (Kd.C_below HR0.out HB.out)); rintro _ w5 ⟨hb, m, rfl, hR⟩; refine ⟨_, rfl, ?_⟩; obtain ⟨bm, n, F, rfl, hM⟩ := hR rfl; have HM := Aside0.mk (hM.base HB.out.size); clear hR hM; replace BK101 := Aside0.mk (blk_below (blk_mv BK101.out) hb); replace HB := Aside0.mk (below_step bel_ hb); clear hb) | ((with_reducible refine gate_dst (N := 9) rfl ?_); refine box_event ?hg (N := 9) ?hd (cs := #[.int .i64 0, .int .i64 0]) (t := 24) ?hr ?_; (case hd => rfl); (case hg => rfl); (case hr => first | (go_simp; done) | (go_simp; rfl)); intro gb105 hg w8 hbox hb; have BK105 := Aside0.mk hbox; have GW105 := Aside0.mk (bs_ : w.heap.size ≤ gb105); replace HB := Aside0.mk (below_step bel_ hb); have NBa : gb101 ≠ gb105 := (by rw [hg]; exact Nat.ne_of_lt (blk_lt (g := gb101) (o := .cells #[.int .i64 0, .int .i64 0] 24 (0, 0)) (blk_mv BK101.out))); have NBb := NBa.symm; replace BK101 := Aside0.mk (blk_below (blk_mv BK101.out) hb); (try replace HM := Aside0.mk (RM.step HM.out hb)); clear hbox hb hg; have hcz10_0 := blk_c (v := .int .i64 0) BK105.out 0 rfl; have hcz10_1 := blk_c (v := .int .i64 0) BK105.out 1 rfl; have hfz10_0 := blk_frozen BK105.out 0; have hfz10_1 := blk_frozen BK105.out 1) | ((with_reducible refine gate_dst (N := 17) rfl ?_); refine name_world (fun W' => W'.heap[gb101]? = some (.cells #[.int .i64 0, .int .i64 0] 24 (0, 0)) ∧ W'.heap[gb105]? = some (.cells #[.int .i64 0, .int .i64 0] 24 (0, 0)) ∧ Below w.heap.size w W' ∧ RM w W' bm n l0 F) ⟨by refine blk_far ?_ NBa _; refine blk_far ?_ NBa _; exact BK101.out, by refine blk_put (cs := #[.int .i64 0, .int .i64 0]) ?_ 1 _ rfl; refine blk_put (cs := #[.int .i64 0, .int .i64 0]) ?_ 0 _ rfl; exact BK105.out, bel_, by refine RM.far (RM.far HM.out BK105.out (by decide) _) (t := 24) (cs := #[.int .i64 0, .int .i64 0]) (fr := (0, 0)) (blk_put BK105.out 0 _ rfl) (by decide) _⟩ ?_; intro w9 hw; obtain ⟨hw1, hw2, hw3, hw4⟩ := hw; replace BK101 := Aside0.mk hw1; replace BK105 := Aside0.mk hw2; replace HB := Aside0.mk hw3; replace HM := Aside0.mk hw4; clear hw4; clear hw1 hw2 hw3 hcz10_0 hcz10_1 hfz10_0 hfz10_1; have hf0 := blk_c (v := .int .i64 0) BK105.out 0 rfl; have hf1 := blk_c (v := .int .i64 0) BK105.out 1 rfl; have hz0 := blk_c (v := .int .i64 0) BK101.out 0 rfl; have hz1 := blk_c (v := .int .i64 0) BK101.out 1 rfl; have hzf0 := blk_frozen BK101.out 0; have hzf1 := blk_frozen BK101.out 1) | ((with_reducible refine gate_callee (f := 42) rfl ?_); refine goesL_ (some 23) rfl rfl Try.func42 (by kernel_rfl) rfl #[.int .i64 key] rfl ln_ ?_; (with_reducible refine (signing_IsKey.calls key false _ hk1).mono ?_); rintro _ _ ⟨rfl, ⟨_, rfl⟩⟩; refine ⟨_, rfl, ?_⟩))
      refine bodyPost_ret (results_tc rfl _ _ gb101 24 #[.int .i64 3, .int .i64 (-1)] (0, 0) _ rfl (by refine blk_mv ?_; refine blk_put (cs := #[.int .i64 3, .int .i64 0]) ?_ 1 _ rfl; refine blk_mv ?_; refine blk_put (cs := #[.int .i64 0, .int .i64 0]) ?_ 0 _ rfl; refine blk_mv ?_; exact BK101.out) Try.underlying24 rfl (by kernel_rfl)) rfl ?_
      exact ⟨rfl, bel_⟩
    cases hk2 : keyring_isTime.f time with
    | none => exact absurd hk2 (by unfold keyring_isTime.f; split <;> simp)
    | some q2 =>
      have hk2' := isTime_says hk2
      cases q2
      · have hv : validF l0 key time = (false, 3, -1) := by rw [validF, if_neg (not_not_intro hz), if_pos (fun hh => of_decide_eq_false hk2'.symm hh.2)]
        rw [hv]
        clear hv hz hk1' hk2'
        go_enter Try.func17, Try.ntmps17
        go_wp2_with (first | ((with_reducible refine gate_dst (N := 7) rfl ?_); refine box_event ?hg (N := 7) ?hd (cs := #[.int .i64 0, .int .i64 0]) (t := 24) ?hr ?_; (case hd => rfl); (case hg => rfl); (case hr => first | (go_simp; done) | (go_simp; rfl)); intro gb101 hg w3 hbox hb; have BK101 := Aside0.mk hbox; have GW101 := Aside0.mk (bs_ : w.heap.size ≤ gb101); replace HB := Aside0.mk (below_step bel_ hb); clear hb hbox hg) | ((with_reducible refine gate_callee (f := 41) rfl ?_); refine goesL_ (some 13) rfl rfl Try.func41 (by kernel_rfl) rfl #[.slice A0 l0.length c0] rfl ln_ ?_; refine (replay_says A0 c0 l0 _ ?s1 hc0.out hwf.out 0 0 hRF.out).mono ?_; (case s1 => first | exact (Kd.C_below HR0.out HB.out) | exact Kd.C_mv (Kd.C_below HR0.out HB.out)); rintro _ w5 ⟨hb, m, rfl, hR⟩; refine ⟨_, rfl, ?_⟩; obtain ⟨bm, n, F, rfl, hM⟩ := hR rfl; have HM := Aside0.mk (hM.base HB.out.size); clear hR hM; replace BK101 := Aside0.mk (blk_below (blk_mv BK101.out) hb); replace HB := Aside0.mk (below_step bel_ hb); clear hb) | ((with_reducible refine gate_dst (N := 9) rfl ?_); refine box_event ?hg (N := 9) ?hd (cs := #[.int .i64 0, .int .i64 0]) (t := 24) ?hr ?_; (case hd => rfl); (case hg => rfl); (case hr => first | (go_simp; done) | (go_simp; rfl)); intro gb105 hg w8 hbox hb; have BK105 := Aside0.mk hbox; have GW105 := Aside0.mk (bs_ : w.heap.size ≤ gb105); replace HB := Aside0.mk (below_step bel_ hb); have NBa : gb101 ≠ gb105 := (by rw [hg]; exact Nat.ne_of_lt (blk_lt (g := gb101) (o := .cells #[.int .i64 0, .int .i64 0] 24 (0, 0)) (blk_mv BK101.out))); have NBb := NBa.symm; replace BK101 := Aside0.mk (blk_below (blk_mv BK101.out) hb); (try replace HM := Aside0.mk (RM.step HM.out hb)); clear hbox hb hg; have hcz10_0 := blk_c (v := .int .i64 0) BK105.out 0 rfl; have hcz10_1 := blk_c (v := .int .i64 0) BK105.out 1 rfl; have hfz10_0 := blk_frozen BK105.out 0; have hfz10_1 := blk_frozen BK105.out 1) | ((with_reducible refine gate_dst (N := 17) rfl ?_); refine name_world (fun W' => W'.heap[gb101]? = some (.cells #[.int .i64 0, .int .i64 0] 24 (0, 0)) ∧ W'.heap[gb105]? = some (.cells #[.int .i64 0, .int .i64 0] 24 (0, 0)) ∧ Below w.heap.size w W' ∧ RM w W' bm n l0 F) ⟨by refine blk_far ?_ NBa _; refine blk_far ?_ NBa _; exact BK101.out, by refine blk_put (cs := #[.int .i64 0, .int .i64 0]) ?_ 1 _ rfl; refine blk_put (cs := #[.int .i64 0, .int .i64 0]) ?_ 0 _ rfl; exact BK105.out, bel_, by refine RM.far (RM.far HM.out BK105.out (by decide) _) (t := 24) (cs := #[.int .i64 0, .int .i64 0]) (fr := (0, 0)) (blk_put BK105.out 0 _ rfl) (by decide) _⟩ ?_; intro w9 hw; obtain ⟨hw1, hw2, hw3, hw4⟩ := hw; replace BK101 := Aside0.mk hw1; replace BK105 := Aside0.mk hw2; replace HB := Aside0.mk hw3; replace HM := Aside0.mk hw4; clear hw4; clear hw1 hw2 hw3 hcz10_0 hcz10_1 hfz10_0 hfz10_1; have hf0 := blk_c (v := .int .i64 0) BK105.out 0 rfl; have hf1 := blk_c (v := .int .i64 0) BK105.out 1 rfl; have hz0 := blk_c (v := .int .i64 0) BK101.out 0 rfl; have hz1 := blk_c (v := .int .i64 0) BK101.out 1 rfl; have hzf0 := blk_frozen BK101.out 0; have hzf1 := blk_frozen BK101.out 1) | ((with_reducible refine gate_callee (f := 42) rfl ?_); refine goesL_ (some 23) rfl rfl Try.func42 (by kernel_rfl) rfl #[.int .i64 key] rfl ln_ ?_; (with_reducible refine (signing_IsKey.calls key true _ hk1).mono ?_); rintro _ _ ⟨rfl, ⟨_, rfl⟩⟩; refine ⟨_, rfl, ?_⟩) | (go_at_call 43; (with_reducible refine (keyring_isTime.calls time false _ hk2).mono ?_); rintro _ _ ⟨rfl, ⟨_, rfl⟩⟩))
        refine bodyPost_ret (results_tc rfl _ _ gb101 24 #[.int .i64 3, .int .i64 (-1)] (0, 0) _ rfl (by refine blk_mv ?_; refine blk_put (cs := #[.int .i64 3, .int .i64 0]) ?_ 1 _ rfl; refine blk_mv ?_; refine blk_put (cs := #[.int .i64 0, .int .i64 0]) ?_ 0 _ rfl; refine blk_mv ?_; exact BK101.out) Try.underlying24 rfl (by kernel_rfl)) rfl ?_
        exact ⟨rfl, bel_⟩
      have hv : validF l0 key time = (keyValid l0 key time, 0, 0) := by rw [validF, if_neg (not_not_intro hz), if_neg (not_not_intro ⟨of_decide_eq_true hk1'.symm, of_decide_eq_true hk2'.symm⟩)]
      have hwk := Aside0.mk (wf_key (of_decide_eq_true hk1'.symm))
      rw [hv]
      clear hv hz hk1' hk2'
      go_enter Try.func17, Try.ntmps17
      go_wp2_with (first | ((with_reducible refine gate_dst (N := 7) rfl ?_); refine box_event ?hg (N := 7) ?hd (cs := #[.int .i64 0, .int .i64 0]) (t := 24) ?hr ?_; (case hd => rfl); (case hg => rfl); (case hr => first | (go_simp; done) | (go_simp; rfl)); intro gb101 hg w3 hbox hb; have BK101 := Aside0.mk hbox; have GW101 := Aside0.mk (bs_ : w.heap.size ≤ gb101); replace HB := Aside0.mk (below_step bel_ hb); clear hb hbox hg) | ((with_reducible refine gate_callee (f := 41) rfl ?_); refine goesL_ (some 13) rfl rfl Try.func41 (by kernel_rfl) rfl #[.slice A0 l0.length c0] rfl ln_ ?_; refine (replay_says A0 c0 l0 _ ?s1 hc0.out hwf.out 0 0 hRF.out).mono ?_; (case s1 => first | exact (Kd.C_below HR0.out HB.out) | exact Kd.C_mv (Kd.C_below HR0.out HB.out)); rintro _ w5 ⟨hb, m, rfl, hR⟩; refine ⟨_, rfl, ?_⟩; obtain ⟨bm, n, F, rfl, hM⟩ := hR rfl; have HM := Aside0.mk (hM.base HB.out.size); clear hR hM; replace BK101 := Aside0.mk (blk_below (blk_mv BK101.out) hb); replace HB := Aside0.mk (below_step bel_ hb); clear hb) | ((with_reducible refine gate_dst (N := 9) rfl ?_); refine box_event ?hg (N := 9) ?hd (cs := #[.int .i64 0, .int .i64 0]) (t := 24) ?hr ?_; (case hd => rfl); (case hg => rfl); (case hr => first | (go_simp; done) | (go_simp; rfl)); intro gb105 hg w8 hbox hb; have BK105 := Aside0.mk hbox; have GW105 := Aside0.mk (bs_ : w.heap.size ≤ gb105); replace HB := Aside0.mk (below_step bel_ hb); have NBa : gb101 ≠ gb105 := (by rw [hg]; exact Nat.ne_of_lt (blk_lt (g := gb101) (o := .cells #[.int .i64 0, .int .i64 0] 24 (0, 0)) (blk_mv BK101.out))); have NBb := NBa.symm; replace BK101 := Aside0.mk (blk_below (blk_mv BK101.out) hb); (try replace HM := Aside0.mk (RM.step HM.out hb)); clear hbox hb hg; have hcz10_0 := blk_c (v := .int .i64 0) BK105.out 0 rfl; have hcz10_1 := blk_c (v := .int .i64 0) BK105.out 1 rfl; have hfz10_0 := blk_frozen BK105.out 0; have hfz10_1 := blk_frozen BK105.out 1) | ((with_reducible refine gate_dst (N := 17) rfl ?_); refine name_world (fun W' => W'.heap[gb101]? = some (.cells #[.int .i64 0, .int .i64 0] 24 (0, 0)) ∧ W'.heap[gb105]? = some (.cells #[.int .i64 0, .int .i64 0] 24 (0, 0)) ∧ Below w.heap.size w W' ∧ RM w W' bm n l0 F) ⟨by refine blk_far ?_ NBa _; refine blk_far ?_ NBa _; exact BK101.out, by refine blk_put (cs := #[.int .i64 0, .int .i64 0]) ?_ 1 _ rfl; refine blk_put (cs := #[.int .i64 0, .int .i64 0]) ?_ 0 _ rfl; exact BK105.out, bel_, by refine RM.far (RM.far HM.out BK105.out (by decide) _) (t := 24) (cs := #[.int .i64 0, .int .i64 0]) (fr := (0, 0)) (blk_put BK105.out 0 _ rfl) (by decide) _⟩ ?_; intro w9 hw; obtain ⟨hw1, hw2, hw3, hw4⟩ := hw; replace BK101 := Aside0.mk hw1; replace BK105 := Aside0.mk hw2; replace HB := Aside0.mk hw3; replace HM := Aside0.mk hw4; clear hw4; clear hw1 hw2 hw3 hcz10_0 hcz10_1 hfz10_0 hfz10_1; have hf0 := blk_c (v := .int .i64 0) BK105.out 0 rfl; have hf1 := blk_c (v := .int .i64 0) BK105.out 1 rfl; have hz0 := blk_c (v := .int .i64 0) BK101.out 0 rfl; have hz1 := blk_c (v := .int .i64 0) BK101.out 1 rfl; have hzf0 := blk_frozen BK101.out 0; have hzf1 := blk_frozen BK101.out 1) | ((with_reducible refine gate_callee (f := 42) rfl ?_); refine goesL_ (some 23) rfl rfl Try.func42 (by kernel_rfl) rfl #[.int .i64 key] rfl ln_ ?_; (with_reducible refine (signing_IsKey.calls key true _ hk1).mono ?_); rintro _ _ ⟨rfl, ⟨_, rfl⟩⟩; refine ⟨_, rfl, ?_⟩) | (go_at_call 43; (with_reducible refine (keyring_isTime.calls time true _ hk2).mono ?_); rintro _ _ ⟨rfl, ⟨_, rfl⟩⟩) | ((with_reducible refine gate_dst (N := 33) rfl ?_); refine name_world (fun W' => W'.heap[gb101]? = some (.cells #[.int .i64 0, .int .i64 0] 24 (0, 0)) ∧ Below w.heap.size w W' ∧ RM w W' bm n l0 F) ⟨blk_mv BK101.out, bel_, RM.mv HM.out⟩ ?_; intro w10 hw; obtain ⟨hw1, hw2, hw3⟩ := hw; replace BK101 := Aside0.mk hw1; replace HB := Aside0.mk hw2; replace HM := Aside0.mk hw3; clear hw1 hw2 hw3 hf0 hf1 hz0 hz1 hzf0 hzf1; have hz0 := blk_c (v := .int .i64 0) BK101.out 0 rfl; have hz1 := blk_c (v := .int .i64 0) BK101.out 1 rfl; have hzf0 := blk_frozen BK101.out 0; have hzf1 := blk_frozen BK101.out 1; cases hF : F key; (have hkv := Aside0.mk (HM.out.invalid hF time); replace hF := Aside0.mk hF; refine wp_look_none (some 33) rfl rfl _ _ rfl HM.out rfl key rfl hwk.out hF.out ?_); rotate_left; (rename_i g; have hkv := Aside0.mk (HM.out.valid hF time); have hst := Aside0.mk (HM.out.at_ _ _ hF).2; replace hF := Aside0.mk hF; refine wp_look_some (some 33) rfl rfl _ _ rfl HM.out rfl key rfl hwk.out hF.out ?_)) | (go_at_call 44; refine (sv_calls _ _ _ _ time _ hst.out.1).mono ?_; rintro _ _ ⟨rfl, ⟨_, rfl⟩⟩))
      · refine bodyPost_ret (results_tc rfl _ _ gb101 24 #[.int .i64 0, .int .i64 0] (0, 0) _ rfl (by refine blk_mv ?_; refine blk_put (cs := #[.int .i64 0, .int .i64 0]) ?_ 1 _ rfl; refine blk_mv ?_; refine blk_put (cs := #[.int .i64 0, .int .i64 0]) ?_ 0 _ rfl; refine blk_mv ?_; exact BK101.out) Try.underlying24 rfl (by kernel_rfl)) rfl ?_
        exact ⟨by rw [hkv.out]; first | rfl | simp, bel_⟩
      · refine bodyPost_ret (results_tc rfl _ _ gb101 24 #[.int .i64 0, .int .i64 0] (0, 0) _ rfl (by refine blk_mv ?_; refine blk_put (cs := #[.int .i64 0, .int .i64 0]) ?_ 1 _ rfl; refine blk_mv ?_; refine blk_put (cs := #[.int .i64 0, .int .i64 0]) ?_ 0 _ rfl; refine blk_mv ?_; exact BK101.out) Try.underlying24 rfl (by kernel_rfl)) rfl ?_
        exact ⟨by rw [hkv.out]; first | rfl | simp, bel_⟩
set_option maxHeartbeats 8000000 in
set_option maxRecDepth 100000 in
theorem owner_calls (A0 : Option Addr) (c0 : Nat) (l0 : List S45) (key : Int) (w : World) (hr0 : Kd.C k45 w A0 l0.length l0) (hc0 : l0.length ≤ c0) (hwf : keysWf l0 = true) :
    Calls Try.prog 20 #[.slice A0 l0.length c0, .int .i64 key] w fun e w' => e = .returned (.tuple #[.int .i64 (ownerF l0 key).1, .agg #[.int .i64 (ownerF l0 key).2.1, .int .i64 (ownerF l0 key).2.2]]) ∧ Below w.heap.size w w' := by
  have hu24 := Try.underlying24
  replace hwf := Aside0.mk hwf
  have HR0 := Aside0.mk hr0
  clear hr0
  have HB := Aside0.mk (Below.refl w.heap.size w)
  replace hc0 := Aside0.mk hc0
  by_cases hz : (ringFault l0).1 = 0
  rotate_left
  · have hne : ringFault l0 = ((ringFault l0).1, (ringFault l0).2) := rfl
    have hv : ownerF l0 key = (0, ringFault l0) := by rw [ownerF, if_pos hz]
    rw [hv]
    clear hv
    generalize (ringFault l0).1 = r1 at hne hz ⊢
    generalize (ringFault l0).2 = r2 at hne ⊢
    have c5b0 : (!(r1 == 0) || (!(r2 == 0))) = true := by simp [hz]
    replace hRF := Aside0.mk hne
    clear hne hz
    go_enter Try.func20, Try.ntmps20
    go_wp2_with (first | ((with_reducible refine gate_dst (N := 5) rfl ?_); refine box_event ?hg (N := 5) ?hd (cs := #[.int .i64 0, .int .i64 0]) (t := 24) ?hr ?_; (case hd => rfl); (case hg => rfl); (case hr => first | (go_simp; done) | (go_simp; rfl)); intro gb101 hg w3 hbox hb; have BK101 := Aside0.mk hbox; have GW101 := Aside0.mk (bs_ : w.heap.size ≤ gb101); replace HB := Aside0.mk (below_step bel_ hb); clear hb hbox hg) | ((with_reducible refine gate_callee (f := 41) rfl ?_); refine goesL_ (some 10) rfl rfl Try.func41 (by kernel_rfl) rfl #[.slice A0 l0.length c0] rfl ln_ ?_; refine (replay_says A0 c0 l0 _ ?s1 hc0.out hwf.out r1 r2 hRF.out).mono ?_; (case s1 => first | exact (Kd.C_below HR0.out HB.out) | exact Kd.C_mv (Kd.C_below HR0.out HB.out)); rintro _ w5 ⟨hb, m, rfl, hR⟩; refine ⟨_, rfl, ?_⟩; clear hR; replace BK101 := Aside0.mk (blk_below (blk_mv BK101.out) hb); replace HB := Aside0.mk (below_step bel_ hb); clear hb) | ((with_reducible refine gate_dst (N := 7) rfl ?_); refine box_event ?hg (N := 7) ?hd (cs := #[.int .i64 0, .int .i64 0]) (t := 24) ?hr ?_; (case hd => rfl); (case hg => rfl); (case hr => first | (go_simp; done) | (go_simp; rfl)); intro gb105 hg w8 hbox hb; have BK105 := Aside0.mk hbox; have GW105 := Aside0.mk (bs_ : w.heap.size ≤ gb105); replace HB := Aside0.mk (below_step bel_ hb); have NBa : gb101 ≠ gb105 := (by rw [hg]; exact Nat.ne_of_lt (blk_lt (g := gb101) (o := .cells #[.int .i64 0, .int .i64 0] 24 (0, 0)) (blk_mv BK101.out))); have NBb := NBa.symm; replace BK101 := Aside0.mk (blk_below (blk_mv BK101.out) hb); (try replace HM := Aside0.mk (RM.step HM.out hb)); clear hbox hb hg; have hcz10_0 := blk_c (v := .int .i64 0) BK105.out 0 rfl; have hcz10_1 := blk_c (v := .int .i64 0) BK105.out 1 rfl; have hfz10_0 := blk_frozen BK105.out 0; have hfz10_1 := blk_frozen BK105.out 1) | ((with_reducible refine gate_dst (N := 14) rfl ?_); refine name_world (fun W' => W'.heap[gb101]? = some (.cells #[.int .i64 0, .int .i64 0] 24 (0, 0)) ∧ W'.heap[gb105]? = some (.cells #[.int .i64 r1, .int .i64 r2] 24 (0, 0)) ∧ Below w.heap.size w W') ⟨by refine blk_far ?_ NBa _; refine blk_far ?_ NBa _; exact BK101.out, by refine blk_put (cs := #[.int .i64 r1, .int .i64 0]) ?_ 1 _ rfl; refine blk_put (cs := #[.int .i64 0, .int .i64 0]) ?_ 0 _ rfl; exact BK105.out, bel_⟩ ?_; intro w9 hw; obtain ⟨hw1, hw2, hw3⟩ := hw; replace BK101 := Aside0.mk hw1; replace BK105 := Aside0.mk hw2; replace HB := Aside0.mk hw3; clear hw1 hw2 hw3 hcz10_0 hcz10_1 hfz10_0 hfz10_1; have hf0 := blk_c (v := .int .i64 r1) BK105.out 0 rfl; have hf1 := blk_c (v := .int .i64 r2) BK105.out 1 rfl; have hz0 := blk_c (v := .int .i64 0) BK101.out 0 rfl; have hz1 := blk_c (v := .int .i64 0) BK101.out 1 rfl; have hzf0 := blk_frozen BK101.out 0; have hzf1 := blk_frozen BK101.out 1))
    have eN1 := NBa
    have eN2 := NBb
    go_region
    go_wp2
    refine bodyPost_ret (results_tc rfl _ _ gb101 24 #[.int .i64 r1, .int .i64 r2] (0, 0) _ rfl (by refine blk_mv ?_; refine blk_put (cs := #[.int .i64 r1, .int .i64 0]) ?_ 1 _ rfl; refine blk_mv ?_; refine blk_put (cs := #[.int .i64 0, .int .i64 0]) ?_ 0 _ rfl; refine blk_mv ?_; exact BK101.out) Try.underlying24 rfl (by kernel_rfl)) rfl ?_
    exact ⟨rfl, bel_⟩
  replace hRF := Aside0.mk (ringFault_zero hz)
  cases hk1 : signing_IsKey.f key with
  | none => exact absurd hk1 (by unfold signing_IsKey.f; split <;> simp)
  | some q1 =>
    have hk1' := isKey_says hk1
    cases q1
    · have hv : ownerF l0 key = (0, 3, -1) := by rw [ownerF, if_neg (not_not_intro hz), if_pos (of_decide_eq_false hk1'.symm)]
      rw [hv]
      clear hv hz hk1'
      go_enter Try.func20, Try.ntmps20
      go_wp2_with (first | ((with_reducible refine gate_dst (N := 5) rfl ?_); refine box_event ?hg (N := 5) ?hd (cs := #[.int .i64 0, .int .i64 0]) (t := 24) ?hr ?_; (case hd => rfl); (case hg => rfl); (case hr => first | (go_simp; done) | (go_simp; rfl)); intro gb101 hg w3 hbox hb; have BK101 := Aside0.mk hbox; have GW101 := Aside0.mk (bs_ : w.heap.size ≤ gb101); replace HB := Aside0.mk (below_step bel_ hb); clear hb hbox hg) | ((with_reducible refine gate_callee (f := 41) rfl ?_); refine goesL_ (some 10) rfl rfl Try.func41 (by kernel_rfl) rfl #[.slice A0 l0.length c0] rfl ln_ ?_; refine (replay_says A0 c0 l0 _ ?s1 hc0.out hwf.out 0 0 hRF.out).mono ?_; (case s1 => first | exact (Kd.C_below HR0.out HB.out) | exact Kd.C_mv (Kd.C_below HR0.out HB.out)); rintro _ w5 ⟨hb, m, rfl, hR⟩; refine ⟨_, rfl, ?_⟩; obtain ⟨bm, n, F, rfl, hM⟩ := hR rfl; have HM := Aside0.mk (hM.base HB.out.size); clear hR hM; replace BK101 := Aside0.mk (blk_below (blk_mv BK101.out) hb); replace HB := Aside0.mk (below_step bel_ hb); clear hb) | ((with_reducible refine gate_dst (N := 7) rfl ?_); refine box_event ?hg (N := 7) ?hd (cs := #[.int .i64 0, .int .i64 0]) (t := 24) ?hr ?_; (case hd => rfl); (case hg => rfl); (case hr => first | (go_simp; done) | (go_simp; rfl)); intro gb105 hg w8 hbox hb; have BK105 := Aside0.mk hbox; have GW105 := Aside0.mk (bs_ : w.heap.size ≤ gb105); replace HB := Aside0.mk (below_step bel_ hb); have NBa : gb101 ≠ gb105 := (by rw [hg]; exact Nat.ne_of_lt (blk_lt (g := gb101) (o := .cells #[.int .i64 0, .int .i64 0] 24 (0, 0)) (blk_mv BK101.out))); have NBb := NBa.symm; replace BK101 := Aside0.mk (blk_below (blk_mv BK101.out) hb); (try replace HM := Aside0.mk (RM.step HM.out hb)); clear hbox hb hg; have hcz10_0 := blk_c (v := .int .i64 0) BK105.out 0 rfl; have hcz10_1 := blk_c (v := .int .i64 0) BK105.out 1 rfl; have hfz10_0 := blk_frozen BK105.out 0; have hfz10_1 := blk_frozen BK105.out 1) | ((with_reducible refine gate_dst (N := 14) rfl ?_); refine name_world (fun W' => W'.heap[gb101]? = some (.cells #[.int .i64 0, .int .i64 0] 24 (0, 0)) ∧ W'.heap[gb105]? = some (.cells #[.int .i64 0, .int .i64 0] 24 (0, 0)) ∧ Below w.heap.size w W' ∧ RM w W' bm n l0 F) ⟨by refine blk_far ?_ NBa _; refine blk_far ?_ NBa _; exact BK101.out, by refine blk_put (cs := #[.int .i64 0, .int .i64 0]) ?_ 1 _ rfl; refine blk_put (cs := #[.int .i64 0, .int .i64 0]) ?_ 0 _ rfl; exact BK105.out, bel_, by refine RM.far (RM.far HM.out BK105.out (by decide) _) (t := 24) (cs := #[.int .i64 0, .int .i64 0]) (fr := (0, 0)) (blk_put BK105.out 0 _ rfl) (by decide) _⟩ ?_; intro w9 hw; obtain ⟨hw1, hw2, hw3, hw4⟩ := hw; replace BK101 := Aside0.mk hw1; replace BK105 := Aside0.mk hw2; replace HB := Aside0.mk hw3; replace HM := Aside0.mk hw4; clear hw4; clear hw1 hw2 hw3 hcz10_0 hcz10_1 hfz10_0 hfz10_1; have hf0 := blk_c (v := .int .i64 0) BK105.out 0 rfl; have hf1 := blk_c (v := .int .i64 0) BK105.out 1 rfl; have hz0 := blk_c (v := .int .i64 0) BK101.out 0 rfl; have hz1 := blk_c (v := .int .i64 0) BK101.out 1 rfl; have hzf0 := blk_frozen BK101.out 0; have hzf1 := blk_frozen BK101.out 1) | ((with_reducible refine gate_callee (f := 42) rfl ?_); refine goesL_ (some 20) rfl rfl Try.func42 (by kernel_rfl) rfl #[.int .i64 key] rfl ln_ ?_; (with_reducible refine (signing_IsKey.calls key false _ hk1).mono ?_); rintro _ _ ⟨rfl, ⟨_, rfl⟩⟩; refine ⟨_, rfl, ?_⟩))
      refine bodyPost_ret (results_tc rfl _ _ gb101 24 #[.int .i64 3, .int .i64 (-1)] (0, 0) _ rfl (by refine blk_mv ?_; refine blk_put (cs := #[.int .i64 3, .int .i64 0]) ?_ 1 _ rfl; refine blk_mv ?_; refine blk_put (cs := #[.int .i64 0, .int .i64 0]) ?_ 0 _ rfl; refine blk_mv ?_; exact BK101.out) Try.underlying24 rfl (by kernel_rfl)) rfl ?_
      exact ⟨rfl, bel_⟩
    have hwk := Aside0.mk (wf_key (of_decide_eq_true hk1'.symm))
    by_cases hkt : kt l0 key 1 < 0
    · have hv : ownerF l0 key = (0, 6, 0) := by rw [ownerF, if_neg (not_not_intro hz), if_neg (not_not_intro (of_decide_eq_true hk1'.symm)), if_pos hkt]
      rw [hv]
      clear hv hz hk1'
      replace hkt := Aside0.mk hkt
      go_enter Try.func20, Try.ntmps20
      go_wp2_with (first | ((with_reducible refine gate_dst (N := 5) rfl ?_); refine box_event ?hg (N := 5) ?hd (cs := #[.int .i64 0, .int .i64 0]) (t := 24) ?hr ?_; (case hd => rfl); (case hg => rfl); (case hr => first | (go_simp; done) | (go_simp; rfl)); intro gb101 hg w3 hbox hb; have BK101 := Aside0.mk hbox; have GW101 := Aside0.mk (bs_ : w.heap.size ≤ gb101); replace HB := Aside0.mk (below_step bel_ hb); clear hb hbox hg) | ((with_reducible refine gate_callee (f := 41) rfl ?_); refine goesL_ (some 10) rfl rfl Try.func41 (by kernel_rfl) rfl #[.slice A0 l0.length c0] rfl ln_ ?_; refine (replay_says A0 c0 l0 _ ?s1 hc0.out hwf.out 0 0 hRF.out).mono ?_; (case s1 => first | exact (Kd.C_below HR0.out HB.out) | exact Kd.C_mv (Kd.C_below HR0.out HB.out)); rintro _ w5 ⟨hb, m, rfl, hR⟩; refine ⟨_, rfl, ?_⟩; obtain ⟨bm, n, F, rfl, hM⟩ := hR rfl; have HM := Aside0.mk (hM.base HB.out.size); clear hR hM; replace BK101 := Aside0.mk (blk_below (blk_mv BK101.out) hb); replace HB := Aside0.mk (below_step bel_ hb); clear hb) | ((with_reducible refine gate_dst (N := 7) rfl ?_); refine box_event ?hg (N := 7) ?hd (cs := #[.int .i64 0, .int .i64 0]) (t := 24) ?hr ?_; (case hd => rfl); (case hg => rfl); (case hr => first | (go_simp; done) | (go_simp; rfl)); intro gb105 hg w8 hbox hb; have BK105 := Aside0.mk hbox; have GW105 := Aside0.mk (bs_ : w.heap.size ≤ gb105); replace HB := Aside0.mk (below_step bel_ hb); have NBa : gb101 ≠ gb105 := (by rw [hg]; exact Nat.ne_of_lt (blk_lt (g := gb101) (o := .cells #[.int .i64 0, .int .i64 0] 24 (0, 0)) (blk_mv BK101.out))); have NBb := NBa.symm; replace BK101 := Aside0.mk (blk_below (blk_mv BK101.out) hb); (try replace HM := Aside0.mk (RM.step HM.out hb)); clear hbox hb hg; have hcz10_0 := blk_c (v := .int .i64 0) BK105.out 0 rfl; have hcz10_1 := blk_c (v := .int .i64 0) BK105.out 1 rfl; have hfz10_0 := blk_frozen BK105.out 0; have hfz10_1 := blk_frozen BK105.out 1) | ((with_reducible refine gate_dst (N := 14) rfl ?_); refine name_world (fun W' => W'.heap[gb101]? = some (.cells #[.int .i64 0, .int .i64 0] 24 (0, 0)) ∧ W'.heap[gb105]? = some (.cells #[.int .i64 0, .int .i64 0] 24 (0, 0)) ∧ Below w.heap.size w W' ∧ RM w W' bm n l0 F) ⟨by refine blk_far ?_ NBa _; refine blk_far ?_ NBa _; exact BK101.out, by refine blk_put (cs := #[.int .i64 0, .int .i64 0]) ?_ 1 _ rfl; refine blk_put (cs := #[.int .i64 0, .int .i64 0]) ?_ 0 _ rfl; exact BK105.out, bel_, by refine RM.far (RM.far HM.out BK105.out (by decide) _) (t := 24) (cs := #[.int .i64 0, .int .i64 0]) (fr := (0, 0)) (blk_put BK105.out 0 _ rfl) (by decide) _⟩ ?_; intro w9 hw; obtain ⟨hw1, hw2, hw3, hw4⟩ := hw; replace BK101 := Aside0.mk hw1; replace BK105 := Aside0.mk hw2; replace HB := Aside0.mk hw3; replace HM := Aside0.mk hw4; clear hw4; clear hw1 hw2 hw3 hcz10_0 hcz10_1 hfz10_0 hfz10_1; have hf0 := blk_c (v := .int .i64 0) BK105.out 0 rfl; have hf1 := blk_c (v := .int .i64 0) BK105.out 1 rfl; have hz0 := blk_c (v := .int .i64 0) BK101.out 0 rfl; have hz1 := blk_c (v := .int .i64 0) BK101.out 1 rfl; have hzf0 := blk_frozen BK101.out 0; have hzf1 := blk_frozen BK101.out 1) | ((with_reducible refine gate_callee (f := 42) rfl ?_); refine goesL_ (some 20) rfl rfl Try.func42 (by kernel_rfl) rfl #[.int .i64 key] rfl ln_ ?_; (with_reducible refine (signing_IsKey.calls key true _ hk1).mono ?_); rintro _ _ ⟨rfl, ⟨_, rfl⟩⟩; refine ⟨_, rfl, ?_⟩) | ((with_reducible refine gate_dst (N := 26) rfl ?_); refine name_world (fun W' => W'.heap[gb101]? = some (.cells #[.int .i64 0, .int .i64 0] 24 (0, 0)) ∧ Below w.heap.size w W' ∧ RM w W' bm n l0 F) ⟨blk_mv BK101.out, bel_, RM.mv HM.out⟩ ?_; intro w10 hw; obtain ⟨hw1, hw2, hw3⟩ := hw; replace BK101 := Aside0.mk hw1; replace HB := Aside0.mk hw2; replace HM := Aside0.mk hw3; clear hw1 hw2 hw3 hf0 hf1 hz0 hz1 hzf0 hzf1; have hz0 := blk_c (v := .int .i64 0) BK101.out 0 rfl; have hz1 := blk_c (v := .int .i64 0) BK101.out 1 rfl; have hzf0 := blk_frozen BK101.out 0; have hzf1 := blk_frozen BK101.out 1; have hF := Aside0.mk (HM.out.none_of hkt.out); refine wp_look_none (some 26) rfl rfl _ _ rfl HM.out rfl key rfl hwk.out hF.out ?_))
      refine bodyPost_ret (results_tc rfl _ _ gb101 24 #[.int .i64 6, .int .i64 0] (0, 0) _ rfl (by refine blk_mv ?_; refine blk_put (cs := #[.int .i64 6, .int .i64 0]) ?_ 1 _ rfl; refine blk_mv ?_; refine blk_put (cs := #[.int .i64 0, .int .i64 0]) ?_ 0 _ rfl; refine blk_mv ?_; exact BK101.out) Try.underlying24 rfl (by kernel_rfl)) rfl ?_
      exact ⟨rfl, bel_⟩
    · have hv : ownerF l0 key = (ow l0 key, 0, 0) := by rw [ownerF, if_neg (not_not_intro hz), if_neg (not_not_intro (of_decide_eq_true hk1'.symm)), if_neg hkt]
      rw [hv]
      clear hv hz hk1'
      replace hkt := Aside0.mk hkt
      go_enter Try.func20, Try.ntmps20
      go_wp2_with (first | ((with_reducible refine gate_dst (N := 5) rfl ?_); refine box_event ?hg (N := 5) ?hd (cs := #[.int .i64 0, .int .i64 0]) (t := 24) ?hr ?_; (case hd => rfl); (case hg => rfl); (case hr => first | (go_simp; done) | (go_simp; rfl)); intro gb101 hg w3 hbox hb; have BK101 := Aside0.mk hbox; have GW101 := Aside0.mk (bs_ : w.heap.size ≤ gb101); replace HB := Aside0.mk (below_step bel_ hb); clear hb hbox hg) | ((with_reducible refine gate_callee (f := 41) rfl ?_); refine goesL_ (some 10) rfl rfl Try.func41 (by kernel_rfl) rfl #[.slice A0 l0.length c0] rfl ln_ ?_; refine (replay_says A0 c0 l0 _ ?s1 hc0.out hwf.out 0 0 hRF.out).mono ?_; (case s1 => first | exact (Kd.C_below HR0.out HB.out) | exact Kd.C_mv (Kd.C_below HR0.out HB.out)); rintro _ w5 ⟨hb, m, rfl, hR⟩; refine ⟨_, rfl, ?_⟩; obtain ⟨bm, n, F, rfl, hM⟩ := hR rfl; have HM := Aside0.mk (hM.base HB.out.size); clear hR hM; replace BK101 := Aside0.mk (blk_below (blk_mv BK101.out) hb); replace HB := Aside0.mk (below_step bel_ hb); clear hb) | ((with_reducible refine gate_dst (N := 7) rfl ?_); refine box_event ?hg (N := 7) ?hd (cs := #[.int .i64 0, .int .i64 0]) (t := 24) ?hr ?_; (case hd => rfl); (case hg => rfl); (case hr => first | (go_simp; done) | (go_simp; rfl)); intro gb105 hg w8 hbox hb; have BK105 := Aside0.mk hbox; have GW105 := Aside0.mk (bs_ : w.heap.size ≤ gb105); replace HB := Aside0.mk (below_step bel_ hb); have NBa : gb101 ≠ gb105 := (by rw [hg]; exact Nat.ne_of_lt (blk_lt (g := gb101) (o := .cells #[.int .i64 0, .int .i64 0] 24 (0, 0)) (blk_mv BK101.out))); have NBb := NBa.symm; replace BK101 := Aside0.mk (blk_below (blk_mv BK101.out) hb); (try replace HM := Aside0.mk (RM.step HM.out hb)); clear hbox hb hg; have hcz10_0 := blk_c (v := .int .i64 0) BK105.out 0 rfl; have hcz10_1 := blk_c (v := .int .i64 0) BK105.out 1 rfl; have hfz10_0 := blk_frozen BK105.out 0; have hfz10_1 := blk_frozen BK105.out 1) | ((with_reducible refine gate_dst (N := 14) rfl ?_); refine name_world (fun W' => W'.heap[gb101]? = some (.cells #[.int .i64 0, .int .i64 0] 24 (0, 0)) ∧ W'.heap[gb105]? = some (.cells #[.int .i64 0, .int .i64 0] 24 (0, 0)) ∧ Below w.heap.size w W' ∧ RM w W' bm n l0 F) ⟨by refine blk_far ?_ NBa _; refine blk_far ?_ NBa _; exact BK101.out, by refine blk_put (cs := #[.int .i64 0, .int .i64 0]) ?_ 1 _ rfl; refine blk_put (cs := #[.int .i64 0, .int .i64 0]) ?_ 0 _ rfl; exact BK105.out, bel_, by refine RM.far (RM.far HM.out BK105.out (by decide) _) (t := 24) (cs := #[.int .i64 0, .int .i64 0]) (fr := (0, 0)) (blk_put BK105.out 0 _ rfl) (by decide) _⟩ ?_; intro w9 hw; obtain ⟨hw1, hw2, hw3, hw4⟩ := hw; replace BK101 := Aside0.mk hw1; replace BK105 := Aside0.mk hw2; replace HB := Aside0.mk hw3; replace HM := Aside0.mk hw4; clear hw4; clear hw1 hw2 hw3 hcz10_0 hcz10_1 hfz10_0 hfz10_1; have hf0 := blk_c (v := .int .i64 0) BK105.out 0 rfl; have hf1 := blk_c (v := .int .i64 0) BK105.out 1 rfl; have hz0 := blk_c (v := .int .i64 0) BK101.out 0 rfl; have hz1 := blk_c (v := .int .i64 0) BK101.out 1 rfl; have hzf0 := blk_frozen BK101.out 0; have hzf1 := blk_frozen BK101.out 1) | ((with_reducible refine gate_callee (f := 42) rfl ?_); refine goesL_ (some 20) rfl rfl Try.func42 (by kernel_rfl) rfl #[.int .i64 key] rfl ln_ ?_; (with_reducible refine (signing_IsKey.calls key true _ hk1).mono ?_); rintro _ _ ⟨rfl, ⟨_, rfl⟩⟩; refine ⟨_, rfl, ?_⟩) | ((with_reducible refine gate_dst (N := 26) rfl ?_); refine name_world (fun W' => W'.heap[gb101]? = some (.cells #[.int .i64 0, .int .i64 0] 24 (0, 0)) ∧ Below w.heap.size w W' ∧ RM w W' bm n l0 F) ⟨blk_mv BK101.out, bel_, RM.mv HM.out⟩ ?_; intro w10 hw; obtain ⟨hw1, hw2, hw3⟩ := hw; replace BK101 := Aside0.mk hw1; replace HB := Aside0.mk hw2; replace HM := Aside0.mk hw3; clear hw1 hw2 hw3 hf0 hf1 hz0 hz1 hzf0 hzf1; have hz0 := blk_c (v := .int .i64 0) BK101.out 0 rfl; have hz1 := blk_c (v := .int .i64 0) BK101.out 1 rfl; have hzf0 := blk_frozen BK101.out 0; have hzf1 := blk_frozen BK101.out 1; obtain ⟨g, hF⟩ := HM.out.some_of hkt.out; have hst := Aside0.mk (HM.out.at_ _ _ hF).2; have hs0 := cellS71_0 hst.out.1; replace hF := Aside0.mk hF; refine wp_look_some (some 26) rfl rfl _ _ rfl HM.out rfl key rfl hwk.out hF.out ?_) | ((with_reducible refine gate_dst (N := 31) rfl ?_); refine wp_look_some (some 31) rfl rfl _ _ rfl (RM.mv HM.out) rfl key rfl hwk.out hF.out ?_))
      refine bodyPost_ret (results_tc rfl _ _ gb101 24 #[.int .i64 0, .int .i64 0] (0, 0) _ rfl (by refine blk_mv ?_; refine blk_put (cs := #[.int .i64 0, .int .i64 0]) ?_ 1 _ rfl; refine blk_mv ?_; refine blk_put (cs := #[.int .i64 0, .int .i64 0]) ?_ 0 _ rfl; refine blk_mv ?_; exact BK101.out) Try.underlying24 rfl (by kernel_rfl)) rfl ?_
      exact ⟨rfl, bel_⟩
end Go.Proofs.Ytnkonhplfldlmaa.Fn
