/- Plain lemmas: consistency proofs: the program's reader and the reference's check. No condition but what each states. -/
import Derived.Test.YtmcpcdnnnnhogaaFf25
import Derived.Test.YtmcpcdnnnnhogaaFf40
import Derived.Test.YtmcpcdnnnnhogaaFf45
import Derived.Test.YtmcpcdnnnnhogaaFf49
import Derived.Test.YtmcpcdnnnnhogaaFn0
import Derived.Test.YtmcpcdnnnnhogaaFs0
import Derived.Test.YtmcpcdnnnnhogaaPuBits
set_option linter.unusedVariables false
namespace Go.Proofs.Ytmcpcdnnnnhogaa.Pure
open Go.RowKit Go.Proofs.Ytmcpcdnnnnhogaa.Fn Go.Proofs.YtmcpcdnnnnhogaaW.PrintWords Go.Proofs.YtmcpcdnnnnhogaaW.PrintLast Go.Proofs.YtmcpcdnnnnhogaaW.PrintMore
def cdirs : Nat → Nat → Nat → List Bool
  | 0, _, _ => []
  | f + 1, m, n => if m = n then [] else if m ≤ sp n then cdirs f m (sp n) ++ [false] else cdirs f (m - sp n) (n - sp n) ++ [true]
def cst (st : Int × Int × List Int × Bool) (d : Bool) : Int × Int × List Int × Bool :=
  (if d then pairD (nxt st.2.2.1 st.2.2.2).1 st.1 else st.1, if d then pairD (nxt st.2.2.1 st.2.2.2).1 st.2.1 else pairD st.2.1 (nxt st.2.2.1 st.2.2.2).1, (nxt st.2.2.1 st.2.2.2).2.1, (nxt st.2.2.1 st.2.2.2).2.2)
def seed (w : Bool) (old : Int) (s : List Int) (ok : Bool) : Int × Int × List Int × Bool :=
  if w then (old, old, s, ok) else ((nxt s ok).1, (nxt s ok).1, (nxt s ok).2.1, (nxt s ok).2.2)
def cinv (st : Int × Int × List Int × Bool) : Prop := isDig st.1 = true ∧ isDig st.2.1 = true ∧ allDig st.2.2.1
theorem seed_inv (w : Bool) {old : Int} {s : List Int} (ok : Bool) (h : isDig old = true) (hs : allDig s) : cinv (seed w old s ok) := by
  unfold seed
  cases w
  · exact ⟨(nxt_dig hs ok).1, (nxt_dig hs ok).1, (nxt_dig hs ok).2⟩
  · exact ⟨h, h, hs⟩
theorem cst_inv {st : Int × Int × List Int × Bool} (h : cinv st) (d : Bool) : cinv (cst st d) := by
  obtain ⟨h1, h2, h3⟩ := h
  cases d
  · exact ⟨h1, isDig_pairD _ _, (nxt_dig h3 _).2⟩
  · exact ⟨isDig_pairD _ _, isDig_pairD _ _, (nxt_dig h3 _).2⟩
theorem cfold_inv : ∀ (ds : List Bool) {st : Int × Int × List Int × Bool}, cinv st → cinv (ds.foldl cst st)
  | [], st, h => h
  | d :: ds, st, h => cfold_inv ds (cst_inv h d)
theorem roots_ev (old : Int) (s : List Int) (ok : Bool) (hv : isDig old = true) (hs : allDig s) : ∀ (n m f : Nat) (w : Bool), 1 ≤ m → m ≤ n → n ≤ 64 → n ≤ f →
    Ev (fun k => translog_reader_roots.f k s ok (m : Int) (n : Int) w old) ((cdirs f m n).foldl cst (seed (w && !(cdirs f m n).any id) old s ok)) := by
  intro n
  induction n using Nat.strongRecOn with
  | _ n ih =>
    intro m f w hm hmn hn hf
    obtain ⟨f, rfl⟩ : ∃ g, f = g + 1 := ⟨f - 1, by omega⟩
    by_cases h1 : m = n
    · subst h1
      simp only [cdirs, if_true, List.any_nil, Bool.not_false, Bool.and_true, List.foldl_nil]
      refine Ev.step (f := fun k => translog_reader_roots.j0 k (m : Int) (m : Int) w old w s ok) (fun k => by simp only [translog_reader_roots.f]; rw [if_pos trivial]) ?_
      cases w
      · refine Ev.step (f := fun _ => some (seed false old s ok)) (fun k => by simp only [translog_reader_roots.j0]; rw [if_neg (by decide), if_pos trivial, pNext]; rfl) ?_
        exact Ev.now _
      · refine Ev.step (f := fun _ => some (seed true old s ok)) (fun k => by simp only [translog_reader_roots.j0]; rw [if_pos trivial]; rfl) ?_
        exact Ev.now _
    have hsp := sp_split (n := n) (by omega) hn
    have hlt := sp_lt (n := n) (by omega)
    have hp := sp_pos n
    simp only [cdirs]
    rw [if_neg h1]
    refine Ev.step (f := fun k => translog_reader_roots.j0 k (m : Int) (n : Int) w old false s ok) (fun k => by simp only [translog_reader_roots.f]; rw [if_neg (by omega)]) ?_
    by_cases hi : m ≤ sp n
    · rw [if_pos hi, List.foldl_append, List.any_append]
      refine Ev.step (f := fun k => (translog_reader_roots.f k s ok (m : Int) (sp n : Int) w old).bind fun a => (translog_reader_next.f a.2.2.1 a.2.2.2).bind fun b => (translog_pair.f a.2.1 b.1).bind fun c => some (a.1, c, b.2.1, b.2.2)) (fun k => ?_) ?_
      · simp only [translog_reader_roots.j0]
        rw [if_neg (by decide), if_neg (by omega), hsp]
        simp only [Option.bind_some]
        rw [if_pos (by omega)]
      · refine ev_bind (ih (sp n) hlt m f w hm hi (by omega) (by omega)) ?_
        simp only [List.any_cons, List.any_nil, id, Bool.or_false]
        obtain ⟨h3, h4, h5⟩ := cfold_inv (cdirs f m (sp n)) (seed_inv (w && !(cdirs f m (sp n)).any id) ok hv hs)
        refine ev_now fun k => ?_
        rw [pNext, Option.bind_some, pPair h4 (nxt_dig h5 _).1]
        rfl
    · rw [if_neg hi, List.foldl_append, List.any_append]
      refine Ev.step (f := fun k => (translog_reader_roots.f k s ok ((m - sp n : Nat) : Int) ((n - sp n : Nat) : Int) false old).bind fun a => (translog_reader_next.f a.2.2.1 a.2.2.2).bind fun b => (translog_pair.f b.1 a.1).bind fun c => (translog_pair.f b.1 a.2.1).bind fun e => some (c, e, b.2.1, b.2.2)) (fun k => ?_) ?_
      · simp only [translog_reader_roots.j0]
        rw [if_neg (by decide), if_neg (by omega), hsp]
        simp only [Option.bind_some]
        rw [if_neg (by omega), w64 (by omega) (by omega), w64 (by omega) (by omega), show (m : Int) - (sp n : Int) = ((m - sp n : Nat) : Int) from by omega, show (n : Int) - (sp n : Int) = ((n - sp n : Nat) : Int) from by omega]
      · refine ev_bind (ih (n - sp n) (by omega) (m - sp n) f false (by omega) (by omega) (by omega) (by omega)) ?_
        have e1 : (w && !((cdirs f (m - sp n) (n - sp n)).any id || [true].any id)) = false := by simp
        rw [e1, Bool.false_and]
        obtain ⟨h3, h4, h5⟩ := cfold_inv (cdirs f (m - sp n) (n - sp n)) (seed_inv false ok hv hs)
        refine ev_now fun k => ?_
        rw [pNext, Option.bind_some, pPair (nxt_dig h5 _).1 h3, Option.bind_some, pPair (nxt_dig h5 _).1 h4]
        rfl
/-- What a consistency proof says. -/
def cext (old new : Int) : List Bool → Int → Int → List Int → Bool
  | [], x, y, [] => x == old && y == new
  | [], _, _, _ :: _ => false
  | _ :: _, _, _, [] => false
  | d :: ds, x, y, z :: p => cext old new ds (if d then pairD z x else x) (if d then pairD z y else pairD y z) p
theorem cfold_false : ∀ (ds : List Bool) (x y : Int) (s : List Int), (ds.foldl cst (x, y, s, false)).2.2.2 = false
  | [], x, y, s => rfl
  | d :: ds, x, y, s => by
    have : cst (x, y, s, false) d = ((cst (x, y, s, false) d).1, (cst (x, y, s, false) d).2.1, (cst (x, y, s, false) d).2.2.1, false) := by
      unfold cst
      cases s <;> rfl
    rw [List.foldl_cons, this]
    exact cfold_false ds _ _ _
theorem cext_eq (old new : Int) : ∀ (ds : List Bool) (x y : Int) (s : List Int), cext old new ds x y s = ((ds.foldl cst (x, y, s, true)).2.2.2 && (ds.foldl cst (x, y, s, true)).2.2.1.isEmpty && ((ds.foldl cst (x, y, s, true)).1 == old && (ds.foldl cst (x, y, s, true)).2.1 == new))
  | [], x, y, [] => by simp [cext]
  | [], x, y, z :: l => by simp [cext]
  | d :: ds, x, y, [] => by
    rw [List.foldl_cons, show cst (x, y, [], true) d = ((cst (x, y, [], true) d).1, (cst (x, y, [], true) d).2.1, [], false) from rfl, cfold_false]
    rfl
  | d :: ds, x, y, z :: l => by
    rw [List.foldl_cons, show cst (x, y, z :: l, true) d = (if d then pairD z x else x, if d then pairD z y else pairD y z, l, true) from rfl]
    exact cext_eq old new ds _ _ l
def consOf (old new : Int) (m n : Nat) (p : List Int) : Bool :=
  if (cdirs 64 m n).any id then (match p with | [] => false | z :: p => cext old new (cdirs 64 m n) z z p) else cext old new (cdirs 64 m n) old old p
theorem consOf_eq (old new : Int) (m n : Nat) (p : List Int) : consOf old new m n p = ((((cdirs 64 m n).foldl cst (seed (true && !(cdirs 64 m n).any id) old p true)).2.2.2 && ((cdirs 64 m n).foldl cst (seed (true && !(cdirs 64 m n).any id) old p true)).2.2.1.isEmpty) && (((cdirs 64 m n).foldl cst (seed (true && !(cdirs 64 m n).any id) old p true)).1 == old && ((cdirs 64 m n).foldl cst (seed (true && !(cdirs 64 m n).any id) old p true)).2.1 == new)) := by
  unfold consOf
  by_cases h : (cdirs 64 m n).any id = true
  · rw [if_pos h, h]
    cases p with
    | nil =>
      rw [show seed (true && !true) old [] true = ((0 : Int), (0 : Int), [], false) from rfl, cfold_false]
      rfl
    | cons z p => exact cext_eq old new _ z z p
  · rw [if_neg h]
    rw [Bool.not_eq_true] at h
    rw [h]
    exact cext_eq old new _ old old p
def conFault (old m new n : Int) (p : List Int) : Int × Int := bad (isDig old) (decide (1 ≤ m ∧ m ≤ n)) (isDig new) (decide (1 ≤ n ∧ n ≤ 64)) p
def conOk (old m new n : Int) (p : List Int) : Bool := decide ((conFault old m new n p).1 = 0) && consOf old new m.toNat n.toNat p
theorem pCons_ev (old m new n : Int) (p : List Int) : Ev (fun k => translog_VerifyConsistency.f k old m new n p) (conOk old m new n p, (conFault old m new n p).1, (conFault old m new n p).2) := by
  unfold translog_VerifyConsistency.f
  simp only [sIsDig, Option.bind_some]
  by_cases hw : (conFault old m new n p).1 = 0
  · obtain ⟨h1, h2, h3, h4, h5, h6, h7⟩ := bad_ok hw
    rw [decide_eq_true_eq] at h2 h4
    have h8 : conFault old m new n p = (0, 0) := h7
    refine ev_if_pos (by omega) (ev_if_pos (by omega) ?_)
    refine ev_bind (ranges_ev _ _ _ _) ?_
    rw [h1, h3, decide_eq_true (show m ≤ n by omega), decide_eq_true (show n ≤ 64 by omega)]
    refine ev_if_neg (by decide) ?_
    refine ev_bind (pPf_ev p) ?_
    rw [pfFault_of h5 h6]
    refine ev_if_neg (by decide) ?_
    obtain ⟨n', rfl⟩ := Int.eq_ofNat_of_zero_le (show 0 ≤ n by omega)
    obtain ⟨m', rfl⟩ := Int.eq_ofNat_of_zero_le (show 0 ≤ m by omega)
    refine ev_bind (roots_ev old p true h1 h6 n' m' 64 true (by omega) (by omega) (by omega) (by omega)) ?_
    simp only [pDone, Option.bind_some]
    unfold conOk
    rw [h8, consOf_eq]
    simp only [Int.toNat_natCast, decide_true, Bool.true_and]
    generalize (cdirs 64 m' n').foldl cst (seed (!(cdirs 64 m' n').any id) old p true) = st
    by_cases hc : (st.2.2.2 && st.2.2.1.isEmpty) = true
    · refine ev_if_pos hc ?_
      rw [hc, Bool.true_and]
      by_cases hx : st.1 = old
      · refine ev_if_pos hx ?_
        rw [hx, beq_self_eq_true, Bool.true_and]
        exact Ev.now _
      · refine ev_if_neg hx ?_
        rw [beq_eq_false_iff_ne.mpr hx, Bool.false_and]
        exact Ev.now _
    · refine ev_if_neg hc ?_
      rw [Bool.not_eq_true] at hc
      rw [hc, Bool.false_and]
      exact Ev.now _
  · have hv : conOk old m new n p = false := by
      unfold conOk
      rw [decide_eq_false hw]
      rfl
    rw [hv]
    have key : ∀ (a b c d : Bool) (g : Nat → Option (Bool × Int × Int)), conFault old m new n p = rng a b c d → ¬ (rng a b c d).1 = 0 → Ev (fun k => (translog_ranges.f k [a, b, c, d]).bind fun bt => if (!(bt.1 == 0) || (!(bt.2 == 0))) = true then some (false, bt.1, bt.2) else g k) (false, (conFault old m new n p).1, (conFault old m new n p).2) := by
      intro a b c d g e1 e2
      refine ev_bind (ranges_ev a b c d) ?_
      refine ev_if_pos (ne_zero e2) ?_
      rw [e1]
      exact Ev.now _
    by_cases hm : m ≥ 1
    · refine ev_if_pos hm ?_
      have e0 : decide (1 ≤ m ∧ m ≤ n) = decide (m ≤ n) := by rw [decide_eq_decide]; omega
      by_cases hn : n ≥ 1
      · refine ev_if_pos hn ?_
        have e1 : decide (1 ≤ n ∧ n ≤ 64) = decide (n ≤ 64) := by rw [decide_eq_decide]; omega
        by_cases hr : (rng (isDig old) (decide (m ≤ n)) (isDig new) (decide (n ≤ 64))).1 = 0
        · have e : conFault old m new n p = pfFault p := by
            unfold conFault bad
            rw [e0, e1]
            revert hr
            unfold rng
            cases isDig old <;> cases decide (m ≤ n) <;> cases isDig new <;> cases decide (n ≤ 64) <;> intro hr <;> first | exact absurd hr (by decide) | rfl
          have e2 : rng (isDig old) (decide (m ≤ n)) (isDig new) (decide (n ≤ 64)) = (0, 0) := by
            revert hr
            unfold rng
            cases isDig old <;> cases decide (m ≤ n) <;> cases isDig new <;> cases decide (n ≤ 64) <;> intro hr <;> first | exact absurd hr (by decide) | rfl
          refine ev_bind (ranges_ev _ _ _ _) ?_
          refine ev_if_neg (eq_zero' e2) ?_
          refine ev_bind (pPf_ev p) ?_
          rw [e] at hw ⊢
          refine ev_if_pos (ne_zero hw) ?_
          exact Ev.now _
        · have e : conFault old m new n p = rng (isDig old) (decide (m ≤ n)) (isDig new) (decide (n ≤ 64)) := by
            unfold conFault bad
            rw [e0, e1]
            revert hr
            unfold rng
            cases isDig old <;> cases decide (m ≤ n) <;> cases isDig new <;> cases decide (n ≤ 64) <;> intro hr <;> first | exact absurd rfl hr | rfl
          exact key _ _ _ _ _ e hr
      · refine ev_if_neg hn ?_
        refine key (isDig old) (decide (m ≤ n)) (isDig new) false _ ?_ ?_
        · unfold conFault bad rng
          rw [e0, show decide (1 ≤ n ∧ n ≤ 64) = false from by rw [decide_eq_false_iff_not]; omega]
          rfl
        · have : decide (m ≤ n) = false := by rw [decide_eq_false_iff_not]; omega
          rw [this]
          exact rng_ne _ _ _ _ (by simp)
    · refine ev_if_neg hm ?_
      have e0 : decide (1 ≤ m ∧ m ≤ n) = false := by rw [decide_eq_false_iff_not]; omega
      by_cases hn : n ≥ 1
      · refine ev_if_pos hn ?_
        refine key (isDig old) false (isDig new) (decide (n ≤ 64)) _ ?_ ?_
        · unfold conFault bad rng
          rw [e0]
          cases isDig old <;> rfl
        · exact rng_ne _ _ _ _ (by simp)
      · refine ev_if_neg hn ?_
        refine key (isDig old) false (isDig new) false _ ?_ ?_
        · unfold conFault bad rng
          rw [e0]
          cases isDig old <;> rfl
        · exact rng_ne _ _ _ _ (by simp)
end Go.Proofs.Ytmcpcdnnnnhogaa.Pure
