/- Plain lemmas: the transparency log's readers of proofs, and the checks of proofs. No condition but what each states. -/
import Derived.Test.YtmcpcdnnnnhogaaFf21
import Derived.Test.YtmcpcdnnnnhogaaFf23
import Derived.Test.YtmcpcdnnnnhogaaFf38
import Derived.Test.YtmcpcdnnnnhogaaFf40
import Derived.Test.YtmcpcdnnnnhogaaFf42
import Derived.Test.YtmcpcdnnnnhogaaFf43
import Derived.Test.YtmcpcdnnnnhogaaFf49
import Derived.Test.YtmcpcdnnnnhogaaFn0
import Derived.Test.YtmcpcdnnnnhogaaFs0
import Derived.Test.YtmcpcdnnnnhogaaPuLog
set_option linter.unusedVariables false
namespace Go.Proofs.Ytmcpcdnnnnhogaa.Pure
open Go.RowKit Go.Proofs.Ytmcpcdnnnnhogaa.Fn Go.Proofs.YtmcpcdnnnnhogaaW.PrintWords Go.Proofs.YtmcpcdnnnnhogaaW.PrintLast Go.Proofs.YtmcpcdnnnnhogaaW.PrintMore
def nxt (s : List Int) (ok : Bool) : Int × List Int × Bool := match s with
  | [] => (0, [], false)
  | x :: l => (x, l, ok)
theorem pNext (s : List Int) (ok : Bool) : translog_reader_next.f s ok = some (nxt s ok) := by cases s <;> rfl
theorem nxt_dig {s : List Int} (h : allDig s) (ok : Bool) : isDig (nxt s ok).1 = true ∧ allDig (nxt s ok).2.1 := by
  cases s with
  | nil => exact ⟨show isDig 0 = true by decide, h⟩
  | cons x l => exact ⟨h x (List.mem_cons_self ..), fun y hy => h y (List.mem_cons_of_mem _ hy)⟩
/-- One step of an inclusion proof upwards; d: the proof's root stands on the left. -/
def stp (st : Int × List Int × Bool) (d : Bool) : Int × List Int × Bool :=
  (if d then pairD (nxt st.2.1 st.2.2).1 st.1 else pairD st.1 (nxt st.2.1 st.2.2).1, (nxt st.2.1 st.2.2).2.1, (nxt st.2.1 st.2.2).2.2)
def dirs : Nat → Nat → Nat → List Bool
  | 0, _, _ => []
  | f + 1, n, i => if n < 2 then [] else if i < sp n then dirs f (sp n) i ++ [false] else dirs f (n - sp n) (i - sp n) ++ [true]
theorem fold_dig : ∀ (ds : List Bool) (v : Int) (s : List Int) (ok : Bool), isDig v = true → allDig s → isDig (ds.foldl stp (v, s, ok)).1 = true ∧ allDig (ds.foldl stp (v, s, ok)).2.1
  | [], v, s, ok, hv, hs => ⟨hv, hs⟩
  | d :: ds, v, s, ok, hv, hs => by
    refine fold_dig ds _ _ _ ?_ (nxt_dig hs ok).2
    show isDig (if d then _ else _) = true
    cases d
    · exact isDig_pairD _ _
    · exact isDig_pairD _ _
theorem inc_ev (leaf : Int) (s : List Int) (ok : Bool) (hv : isDig leaf = true) (hs : allDig s) : ∀ (n i f : Nat), i < n → n ≤ 64 → n ≤ f → Ev (fun k => translog_reader_include.f k s ok (n : Int) (i : Int) leaf) ((dirs f n i).foldl stp (leaf, s, ok)) := by
  intro n
  induction n using Nat.strongRecOn with
  | _ n ih =>
    intro i f hin hn hf
    obtain ⟨f, rfl⟩ : ∃ g, f = g + 1 := ⟨f - 1, by omega⟩
    by_cases h1 : n = 1
    · refine Ev.step (f := fun _ => some (leaf, s, ok)) (fun k => by simp only [translog_reader_include.f]; rw [if_pos (by omega)]) ?_
      simp only [dirs]
      rw [if_pos (by omega)]
      exact Ev.now _
    have hsp := sp_split (n := n) (by omega) hn
    have hlt := sp_lt (n := n) (by omega)
    have hp := sp_pos n
    simp only [dirs]
    rw [if_neg (by omega)]
    by_cases hi : i < sp n
    · rw [if_pos hi, List.foldl_append]
      refine Ev.step (f := fun k => (translog_reader_include.f k s ok (sp n : Int) (i : Int) leaf).bind fun a => (translog_reader_next.f a.2.1 a.2.2).bind fun b => (translog_pair.f a.1 b.1).bind fun c => some (c, b.2.1, b.2.2)) (fun k => ?_) ?_
      · simp only [translog_reader_include.f]
        rw [if_neg (by omega), hsp]
        simp only [Option.bind_some]
        rw [if_pos (by omega)]
      · refine ev_bind (ih (sp n) hlt i f hi (by omega) (by omega)) ?_
        obtain ⟨h3, h4⟩ := fold_dig (dirs f (sp n) i) leaf s ok hv hs
        refine ev_now fun k => ?_
        rw [pNext, Option.bind_some, pPair h3 (nxt_dig h4 _).1]
        rfl
    · rw [if_neg hi, List.foldl_append]
      refine Ev.step (f := fun k => (translog_reader_include.f k s ok ((n - sp n : Nat) : Int) ((i - sp n : Nat) : Int) leaf).bind fun a => (translog_reader_next.f a.2.1 a.2.2).bind fun b => (translog_pair.f b.1 a.1).bind fun c => some (c, b.2.1, b.2.2)) (fun k => ?_) ?_
      · simp only [translog_reader_include.f]
        rw [if_neg (by omega), hsp]
        simp only [Option.bind_some]
        rw [if_neg (by omega), w64 (by omega) (by omega), w64 (by omega) (by omega), show (i : Int) - (sp n : Int) = ((i - sp n : Nat) : Int) from by omega, show (n : Int) - (sp n : Int) = ((n - sp n : Nat) : Int) from by omega]
      · refine ev_bind (ih (n - sp n) (by omega) (i - sp n) f (by omega) (by omega) (by omega)) ?_
        obtain ⟨h3, h4⟩ := fold_dig (dirs f (n - sp n) (i - sp n)) leaf s ok hv hs
        refine ev_now fun k => ?_
        rw [pNext, Option.bind_some, pPair (nxt_dig h4 _).1 h3]
        rfl
theorem pDone (s : List Int) (ok : Bool) : translog_reader_done.f s ok = some (ok && s.isEmpty, s, ok) := by
  unfold translog_reader_done.f
  cases ok
  · rfl
  · cases s with
    | nil => rfl
    | cons x l =>
      have : (((x :: l).length : Int) == 0) = false := by rw [beq_eq_false_iff_ne]; simp only [List.length_cons]; omega
      rw [if_pos rfl, this]
      rfl
/-- What an inclusion proof says. -/
def incl : List Bool → Int → Int → List Int → Bool
  | [], root, r, [] => r == root
  | [], _, _, _ :: _ => false
  | _ :: _, _, _, [] => false
  | d :: ds, root, r, x :: p => incl ds root (if d then pairD x r else pairD r x) p
theorem fold_false : ∀ (ds : List Bool) (v : Int) (s : List Int), (ds.foldl stp (v, s, false)).2.2 = false
  | [], v, s => rfl
  | d :: ds, v, s => by
    have : stp (v, s, false) d = ((stp (v, s, false) d).1, (stp (v, s, false) d).2.1, false) := by
      unfold stp
      cases s <;> rfl
    rw [List.foldl_cons, this]
    exact fold_false ds _ _
theorem incl_eq (root : Int) : ∀ (ds : List Bool) (r : Int) (s : List Int), incl ds root r s = ((ds.foldl stp (r, s, true)).2.2 && (ds.foldl stp (r, s, true)).2.1.isEmpty && ((ds.foldl stp (r, s, true)).1 == root))
  | [], r, [] => by simp [incl]
  | [], r, x :: l => by simp [incl]
  | d :: ds, r, [] => by
    rw [List.foldl_cons, show stp (r, [], true) d = ((stp (r, [], true) d).1, [], false) from rfl, fold_false]
    rfl
  | d :: ds, r, x :: l => by
    rw [List.foldl_cons, show stp (r, x :: l, true) d = (if d then pairD x r else pairD r x, l, true) from rfl]
    exact incl_eq root ds _ l
/-! faults -/
def rng (a b c d : Bool) : Int × Int := if a then (if b then (if c then (if d then (0, 0) else (3, 3)) else (3, 2)) else (3, 1)) else (3, 0)
theorem rng_ne : ∀ a b c d : Bool, (a && b && c) = false → ¬ (rng a b c d).1 = 0 := by decide
theorem ranges_ev (a b c d : Bool) : Ev (fun k => translog_ranges.f k [a, b, c, d]) (rng a b c d) := by
  refine Ev.of (k := 6) (translog_ranges.mono _) ?_
  revert a b c d
  decide +kernel
def pfFault (p : List Int) : Int × Int := if (p.length : Int) ≤ 64 then digFault 4 p else (2, -1)
theorem pPf_loop (l : List Int) (hl : l.length ≤ 64) : ∀ (d i : Nat), i + d = l.length → Ev (fun k => translog_proofFault.l0 k 4 l (l.length : Int) i) (digFault (4 + i) (l.drop i)) := by
  intro d
  induction d with
  | zero =>
    intro i hi
    refine Ev.step (f := fun _ => some (0, 0)) (fun k => by simp only [translog_proofFault.l0]; rw [if_neg (by omega)]) ?_
    rw [List.drop_of_length_le (by omega)]
    exact Ev.now _
  | succ d ih =>
    intro i hi
    have h1 : i < l.length := by omega
    rw [drop_cons h1]
    by_cases hd : isDig l[i] = true
    · refine Ev.step (fun k => by simp only [translog_proofFault.l0]; rw [if_pos (by omega), if_pos (by omega), if_pos (by omega), rd_get l i h1, sIsDig, Option.bind_some, if_pos hd, w64 (by omega) (by omega)]) ?_
      simp only [digFault, if_pos hd]
      have := ih (i + 1) (by omega)
      rw [show (4 : Int) + ((i + 1 : Nat) : Int) = 4 + (i : Int) + 1 from by omega] at this
      exact this
    · refine Ev.step (f := fun _ => some (3, 4 + (i : Int))) (fun k => by simp only [translog_proofFault.l0]; rw [if_pos (by omega), if_pos (by omega), if_pos (by omega), rd_get l i h1, sIsDig, Option.bind_some, if_neg hd, w64 (by omega) (by omega)]) ?_
      simp only [digFault, if_neg hd]
      exact Ev.now _
theorem pPf_ev (l : List Int) : Ev (fun k => translog_proofFault.f k l 4) (pfFault l) := by
  unfold translog_proofFault.f pfFault
  by_cases h : (l.length : Int) ≤ 64
  · refine ev_if_neg (by omega) ?_
    rw [if_pos h]
    exact pPf_loop l (by omega) l.length 0 (by omega)
  · refine ev_if_pos (by omega) ?_
    rw [if_neg h]
    exact Ev.now _
theorem rPf_loop (l : List Int) (hl : l.length ≤ 64) : ∀ (d i : Nat), i + d = l.length → Ev (fun k => changeforgeref5_ProofFault.l0 k l i) (digFault (4 + i) (l.drop i)) := by
  intro d
  induction d with
  | zero =>
    intro i hi
    refine Ev.step (f := fun _ => some (0, 0)) (fun k => by simp only [changeforgeref5_ProofFault.l0]; rw [if_neg (by omega)]) ?_
    rw [List.drop_of_length_le (by omega)]
    exact Ev.now _
  | succ d ih =>
    intro i hi
    have h1 : i < l.length := by omega
    rw [drop_cons h1]
    by_cases hd : isDig l[i] = true
    · refine Ev.step (fun k => by simp only [changeforgeref5_ProofFault.l0]; rw [if_pos (by omega), if_pos (by omega), rd_get l i h1, rIsDig, Option.bind_some, if_pos hd, w64 (n := (i : Int) + 1) (by omega) (by omega)]) ?_
      simp only [digFault, if_pos hd]
      have := ih (i + 1) (by omega)
      rw [show (4 : Int) + ((i + 1 : Nat) : Int) = 4 + (i : Int) + 1 from by omega] at this
      exact this
    · refine Ev.step (f := fun _ => some (3, 4 + (i : Int))) (fun k => by simp only [changeforgeref5_ProofFault.l0]; rw [if_pos (by omega), if_pos (by omega), rd_get l i h1, rIsDig, Option.bind_some, if_neg hd, w64 (n := 4 + (i : Int)) (by omega) (by omega)]; rfl) ?_
      simp only [digFault, if_neg hd]
      exact Ev.now _
theorem rPf_ev (l : List Int) : Ev (fun k => changeforgeref5_ProofFault.f k l) (pfFault l) := by
  unfold changeforgeref5_ProofFault.f pfFault
  by_cases h : (l.length : Int) ≤ 64
  · refine ev_if_neg (by omega) ?_
    rw [if_pos h]
    exact rPf_loop l (by omega) l.length 0 (by omega)
  · refine ev_if_pos (by omega) ?_
    rw [if_neg h]
    exact ev_now fun k => rfl
/-- The first fault of four conditions and a proof. -/
def bad (a b c d : Bool) (p : List Int) : Int × Int := if a then (if b then (if c then (if d then pfFault p else (3, 3)) else (3, 2)) else (3, 1)) else (3, 0)
theorem rBad_ev (a b c d : Bool) (p : List Int) : Ev (fun k => changeforgelaw5_firstBad.f k a b c d p) (bad a b c d p) := by
  unfold changeforgelaw5_firstBad.f bad
  cases a
  · exact ev_if_neg (by decide) (ev_now fun k => rfl)
  refine ev_if_pos rfl ?_
  cases b
  · exact ev_if_neg (by decide) (ev_now fun k => rfl)
  refine ev_if_pos rfl ?_
  cases c
  · exact ev_if_neg (by decide) (ev_now fun k => rfl)
  refine ev_if_pos rfl ?_
  cases d
  · exact ev_if_neg (by decide) (ev_now fun k => rfl)
  refine ev_if_pos rfl ?_
  exact ev_bind (rPf_ev p) (Ev.now _)
theorem pfFault_ok {p : List Int} (h : (pfFault p).1 = 0) : p.length ≤ 64 ∧ allDig p ∧ pfFault p = (0, 0) := by
  unfold pfFault at *
  by_cases hl : (p.length : Int) ≤ 64
  · rw [if_pos hl] at h ⊢
    exact ⟨by omega, digFault_zero p 4 h, digFault_ok p 4 (digFault_zero p 4 h)⟩
  · rw [if_neg hl] at h
    exact absurd h (by decide)
theorem pfFault_of {p : List Int} (h : p.length ≤ 64) (hd : allDig p) : pfFault p = (0, 0) := by
  unfold pfFault
  rw [if_pos (by omega)]
  exact digFault_ok p 4 hd
theorem pf_code (p : List Int) : (pfFault p).1 = 0 → pfFault p = (0, 0) := fun h => (pfFault_ok h).2.2
theorem ne_zero {x : Int × Int} (h : ¬ x.1 = 0) : (!(x.1 == 0) || (!(x.2 == 0))) = true := by simp [h]
theorem eq_zero' {x : Int × Int} (h : x = (0, 0)) : ¬ (!(x.1 == 0) || (!(x.2 == 0))) = true := by rw [h]; decide
theorem bad_ok {a b c d : Bool} {p : List Int} (h : (bad a b c d p).1 = 0) : a = true ∧ b = true ∧ c = true ∧ d = true ∧ p.length ≤ 64 ∧ allDig p ∧ bad a b c d p = (0, 0) := by
  unfold bad at h ⊢
  cases a
  · exact absurd h (by simp)
  cases b
  · exact absurd h (by simp)
  cases c
  · exact absurd h (by simp)
  cases d
  · exact absurd h (by simp)
  have h' : (pfFault p).1 = 0 := h
  obtain ⟨h1, h2, h3⟩ := pfFault_ok h'
  exact ⟨rfl, rfl, rfl, rfl, h1, h2, h3⟩
/-- The check of an inclusion proof. -/
def verFault (root n i leaf : Int) (p : List Int) : Int × Int := bad (isDig root) (decide (1 ≤ n ∧ n ≤ 64)) (decide (0 ≤ i ∧ i < n)) (isDig leaf) p
def verOk (root n i leaf : Int) (p : List Int) : Bool := decide ((verFault root n i leaf p).1 = 0) && incl (dirs 64 n.toNat i.toNat) root leaf p
theorem pVerify_ev (root n i leaf : Int) (p : List Int) : Ev (fun k => translog_Verify.f k root n i leaf p) (verOk root n i leaf p, (verFault root n i leaf p).1, (verFault root n i leaf p).2) := by
  unfold translog_Verify.f
  simp only [sIsDig, Option.bind_some]
  by_cases hw : (verFault root n i leaf p).1 = 0
  · obtain ⟨h1, h2, h3, h4, h5, h6, h7⟩ := bad_ok hw
    rw [decide_eq_true_eq] at h2 h3
    have h8 : verFault root n i leaf p = (0, 0) := h7
    refine ev_if_pos (by omega) (ev_if_pos (by omega) ?_)
    refine ev_bind (ranges_ev _ _ _ _) ?_
    rw [h1, h4, decide_eq_true (show n ≤ 64 by omega), decide_eq_true (show i < n by omega)]
    refine ev_if_neg (by decide) ?_
    refine ev_bind (pPf_ev p) ?_
    rw [pfFault_of h5 h6]
    refine ev_if_neg (by decide) ?_
    obtain ⟨n', rfl⟩ := Int.eq_ofNat_of_zero_le (show 0 ≤ n by omega)
    obtain ⟨i', rfl⟩ := Int.eq_ofNat_of_zero_le (show 0 ≤ i by omega)
    refine ev_bind (inc_ev leaf p true h4 h6 n' i' 64 (by omega) (by omega) (by omega)) ?_
    simp only [pDone, Option.bind_some]
    unfold verOk
    rw [h8, incl_eq]
    simp only [Int.toNat_natCast, decide_true, Bool.true_and]
    by_cases hc : (((dirs 64 n' i').foldl stp (leaf, p, true)).2.2 && ((dirs 64 n' i').foldl stp (leaf, p, true)).2.1.isEmpty) = true
    · refine ev_if_pos hc ?_
      rw [hc, Bool.true_and]
      exact Ev.now _
    · refine ev_if_neg hc ?_
      rw [Bool.not_eq_true] at hc
      rw [hc, Bool.false_and]
      exact Ev.now _
  · have hv : verOk root n i leaf p = false := by
      unfold verOk
      rw [decide_eq_false hw]
      rfl
    rw [hv]
    have key : ∀ (a b c d : Bool) (g : Nat → Option (Bool × Int × Int)), verFault root n i leaf p = rng a b c d → ¬ (rng a b c d).1 = 0 → Ev (fun k => (translog_ranges.f k [a, b, c, d]).bind fun bt => if (!(bt.1 == 0) || (!(bt.2 == 0))) = true then some (false, bt.1, bt.2) else g k) (false, (verFault root n i leaf p).1, (verFault root n i leaf p).2) := by
      intro a b c d g e1 e2
      refine ev_bind (ranges_ev a b c d) ?_
      refine ev_if_pos (ne_zero e2) ?_
      rw [e1]
      exact Ev.now _
    by_cases hn : n ≥ 1
    · refine ev_if_pos hn ?_
      by_cases hi : i ≥ 0
      · refine ev_if_pos hi ?_
        by_cases hr : (rng (isDig root) (decide (n ≤ 64)) (decide (i < n)) (isDig leaf)).1 = 0
        · have e : verFault root n i leaf p = pfFault p := by
            unfold verFault bad
            rw [show decide (1 ≤ n ∧ n ≤ 64) = decide (n ≤ 64) from by rw [decide_eq_decide]; omega, show decide (0 ≤ i ∧ i < n) = decide (i < n) from by rw [decide_eq_decide]; omega]
            revert hr
            unfold rng
            cases isDig root <;> cases decide (n ≤ 64) <;> cases decide (i < n) <;> cases isDig leaf <;> intro hr <;> first | exact absurd hr (by decide) | rfl
          have e2 : rng (isDig root) (decide (n ≤ 64)) (decide (i < n)) (isDig leaf) = (0, 0) := by
            revert hr
            unfold rng
            cases isDig root <;> cases decide (n ≤ 64) <;> cases decide (i < n) <;> cases isDig leaf <;> intro hr <;> first | exact absurd hr (by decide) | rfl
          refine ev_bind (ranges_ev _ _ _ _) ?_
          refine ev_if_neg (eq_zero' e2) ?_
          refine ev_bind (pPf_ev p) ?_
          rw [e] at hw ⊢
          refine ev_if_pos (ne_zero hw) ?_
          exact Ev.now _
        · have e : verFault root n i leaf p = rng (isDig root) (decide (n ≤ 64)) (decide (i < n)) (isDig leaf) := by
            unfold verFault bad
            rw [show decide (1 ≤ n ∧ n ≤ 64) = decide (n ≤ 64) from by rw [decide_eq_decide]; omega, show decide (0 ≤ i ∧ i < n) = decide (i < n) from by rw [decide_eq_decide]; omega]
            revert hr
            unfold rng
            cases isDig root <;> cases decide (n ≤ 64) <;> cases decide (i < n) <;> cases isDig leaf <;> intro hr <;> first | exact absurd rfl hr | rfl
          exact key _ _ _ _ _ e hr
      · refine ev_if_neg hi ?_
        refine key (isDig root) (decide (n ≤ 64)) false (isDig leaf) _ ?_ ?_
        · unfold verFault bad rng
          rw [show decide (1 ≤ n ∧ n ≤ 64) = decide (n ≤ 64) from by rw [decide_eq_decide]; omega, show decide (0 ≤ i ∧ i < n) = false from by rw [decide_eq_false_iff_not]; omega]
          cases isDig root <;> cases decide (n ≤ 64) <;> rfl
        · exact rng_ne _ _ _ _ (by simp)
    · refine ev_if_neg hn ?_
      have e0 : decide (1 ≤ n ∧ n ≤ 64) = false := by rw [decide_eq_false_iff_not]; omega
      by_cases hi : i ≥ 0
      · refine ev_if_pos hi ?_
        refine key (isDig root) false (decide (i < n)) (isDig leaf) _ ?_ ?_
        · unfold verFault bad rng
          rw [e0]
          cases isDig root <;> rfl
        · exact rng_ne _ _ _ _ (by simp)
      · refine ev_if_neg hi ?_
        refine key (isDig root) false false (isDig leaf) _ ?_ ?_
        · unfold verFault bad rng
          rw [e0]
          cases isDig root <;> rfl
        · exact rng_ne _ _ _ _ (by simp)
end Go.Proofs.Ytmcpcdnnnnhogaa.Pure
