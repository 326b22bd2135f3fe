/- The digests of a growing history form a transparency log that is consistent with its earlier states: the plain law. Its condition: the parameters are of their kinds and sizes. -/
import Derived.Test.YtmcpcdnnnnhogaaFf27
import Derived.Test.YtmcpcdnnnnhogaaFf46
import Derived.Test.YtmcpcdnnnnhogaaFf9
import Derived.Test.YtmcpcdnnnnhogaaFn0
import Derived.Test.YtmcpcdnnnnhogaaFp9
import Derived.Test.YtmcpcdnnnnhogaaFs0
import Derived.Test.YtmcpcdnnnnhogaaFp9
import Derived.Test.YtmcpcdnnnnhogaaPuLaws
set_option linter.unusedVariables false
namespace Go.Proofs.Ytmcpcdnnnnhogaa.Pure
open Go.RowKit Go.Proofs.Ytmcpcdnnnnhogaa.Fn Go.Proofs.YtmcpcdnnnnhogaaW.PrintWords Go.Proofs.YtmcpcdnnnnhogaaW.PrintLast Go.Proofs.YtmcpcdnnnnhogaaW.PrintMore
abbrev Cm := S61
theorem bytesOf_byte (r : ByteArray) : isByte (bytesOf r) := by
  intro x hx
  unfold bytesOf at hx
  obtain ⟨y, hy, rfl⟩ := List.mem_map.1 hx
  have := y.toNat_lt
  omega
theorem cm_get (l : List Cm) (i : Nat) (h : i < l.length) : rd_T61 l (i : Int) = l[i] := by
  unfold rd_T61
  rw [List.getD_eq_getElem?_getD, Int.toNat_natCast, List.getElem?_eq_getElem h]
  rfl
/-! validity -/
def pft (i : Int) (l : List Int) : Nat → Nat → Int
  | 0, _ => 0
  | d + 1, k => if rd l (k : Int) < 0 ∨ rd l (k : Int) ≥ i then 3 else if 0 < k ∧ rd l ((k - 1 : Nat) : Int) ≥ rd l (k : Int) then 5 else pft i l d (k + 1)
def lateBad (c : Cm) : Prop := c.f1 < 0 ∨ c.f1 > 7 ∨ c.f2 < 0 ∨ c.f2 > 100000 ∨ c.f3 < 0 ∨ c.f3 ≥ 2305843009213693951
instance (c : Cm) : Decidable (lateBad c) := by unfold lateBad; infer_instance
def cfl (i : Int) (c : Cm) : Int := if (c.f0.length : Int) > 3 then 2 else if pft i c.f0 c.f0.length 0 ≠ 0 then pft i c.f0 c.f0.length 0 else if lateBad c then 3 else if (c.f4.size : Int) > 80 then 10 else 0
def hfl : Nat → List Cm → Int × Int
  | _, [] => (0, 0)
  | i, c :: r => if cfl i c = 0 then hfl (i + 1) r else (cfl i c, (i : Int))
def hv (l : List Cm) : Int × Int := if (l.length : Int) > 60 then (2, -1) else hfl 0 l
theorem drop_cm {l : List Cm} {i : Nat} (h : i < l.length) : l.drop i = l[i] :: l.drop (i + 1) := List.drop_eq_getElem_cons h
theorem val_late (l : List Cm) (hl : l.length ≤ 60) (i : Nat) (hi : i < l.length) (c : Cm) {res : Int × Int} (hn : ¬ lateBad c → ¬ (c.f4.size : Int) > 80 → Ev (fun k => history_Validate.l0 k l (l.length : Int) ((i + 1 : Nat) : Int)) res)
    (h3 : lateBad c → res = (3, (i : Int))) (h10 : ¬ lateBad c → (c.f4.size : Int) > 80 → res = (10, (i : Int))) :
    Ev (fun k => if c.f1 < 0 then history_Validate.j3 k (i : Int) l (l.length : Int) (i : Int) true c.f0 c.f1 c.f2 c.f3 c.f4 else history_Validate.j3 k (i : Int) l (l.length : Int) (i : Int) (decide (c.f1 > 7)) c.f0 c.f1 c.f2 c.f3 c.f4) res := by
  have j4t : lateBad c → Ev (fun k => history_Validate.j4 k (i : Int) l (l.length : Int) (i : Int) true c.f0 c.f1 c.f2 c.f3 c.f4) res := by
    intro hb
    refine Ev.step (f := fun _ => some (3, (i : Int))) (fun k => by simp only [history_Validate.j4]; rw [if_pos trivial]) ?_
    rw [h3 hb]
    exact Ev.now _
  have j4f : ¬ lateBad c → Ev (fun k => history_Validate.j4 k (i : Int) l (l.length : Int) (i : Int) false c.f0 c.f1 c.f2 c.f3 c.f4) res := by
    intro hb
    by_cases hs : (c.f4.size : Int) > 80
    · refine Ev.step (f := fun _ => some (10, (i : Int))) (fun k => by simp only [history_Validate.j4]; rw [if_neg (by decide), if_pos hs]) ?_
      rw [h10 hb hs]
      exact Ev.now _
    · refine Ev.step (fun k => by simp only [history_Validate.j4]; rw [if_neg (by decide), if_neg hs, w64 (n := (i : Int) + 1) (by omega) (by omega)]) ?_
      exact hn hb hs
  have j3t : lateBad c → Ev (fun k => history_Validate.j3 k (i : Int) l (l.length : Int) (i : Int) true c.f0 c.f1 c.f2 c.f3 c.f4) res := by
    intro hb
    refine Ev.step (fun k => by simp only [history_Validate.j3]; rw [if_pos trivial]) ?_
    exact j4t hb
  by_cases h1 : c.f1 < 0
  · exact ev_if_pos h1 (j3t (Or.inl h1))
  refine ev_if_neg h1 ?_
  by_cases h2 : c.f1 > 7
  · rw [decide_eq_true h2]
    exact j3t (Or.inr (Or.inl h2))
  rw [decide_eq_false h2]
  by_cases h4 : c.f2 < 0
  · refine Ev.step (fun k => by simp only [history_Validate.j3]; rw [if_neg (by decide), if_pos h4]) ?_
    exact j4t (by unfold lateBad; omega)
  by_cases h5 : c.f2 > 100000
  · refine Ev.step (fun k => by simp only [history_Validate.j3]; rw [if_neg (by decide), if_neg h4, if_pos h5, decide_eq_true h5]) ?_
    exact j4t (by unfold lateBad; omega)
  by_cases h6 : c.f3 < 0
  · refine Ev.step (fun k => by simp only [history_Validate.j3]; rw [if_neg (by decide), if_neg h4, if_neg h5, if_pos h6]) ?_
    exact j4t (by unfold lateBad; omega)
  by_cases h7 : c.f3 ≥ 2305843009213693951
  · refine Ev.step (fun k => by simp only [history_Validate.j3]; rw [if_neg (by decide), if_neg h4, if_neg h5, if_neg h6, decide_eq_true h7]) ?_
    exact j4t (by unfold lateBad; omega)
  · refine Ev.step (fun k => by simp only [history_Validate.j3]; rw [if_neg (by decide), if_neg h4, if_neg h5, if_neg h6, decide_eq_false h7]) ?_
    exact j4f (by unfold lateBad; omega)
theorem val_par (l : List Cm) (hl : l.length ≤ 60) (i : Nat) (hi : i < l.length) (c : Cm) (hc : c.f0.length ≤ 3) {res : Int × Int} : ∀ (d k' : Nat), k' + d = c.f0.length →
    (pft i c.f0 d k' ≠ 0 → res = (pft i c.f0 d k', (i : Int))) →
    (pft i c.f0 d k' = 0 → Ev (fun k => if c.f1 < 0 then history_Validate.j3 k (i : Int) l (l.length : Int) (i : Int) true c.f0 c.f1 c.f2 c.f3 c.f4 else history_Validate.j3 k (i : Int) l (l.length : Int) (i : Int) (decide (c.f1 > 7)) c.f0 c.f1 c.f2 c.f3 c.f4) res) →
    Ev (fun k => history_Validate.l1 k (i : Int) l (l.length : Int) (i : Int) c.f0 (c.f0.length : Int) (k' : Int) c.f0 c.f1 c.f2 c.f3 c.f4) res := by
  intro d
  induction d with
  | zero =>
    intro k' hk _ h
    refine Ev.step (fun k => by simp only [history_Validate.l1]; rw [if_neg (by omega)]) ?_
    exact h rfl
  | succ d ih =>
    intro k' hk hne h
    simp only [pft] at hne h
    have j2t : rd c.f0 (k' : Int) < 0 ∨ rd c.f0 (k' : Int) ≥ i → Ev (fun k => history_Validate.j2 k (i : Int) (k' : Int) (rd c.f0 (k' : Int)) l (l.length : Int) (i : Int) c.f0 (c.f0.length : Int) (k' : Int) true c.f0 c.f1 c.f2 c.f3 c.f4) res := by
      intro hb
      refine Ev.step (f := fun _ => some (3, (i : Int))) (fun k => by simp only [history_Validate.j2]; rw [if_pos trivial]) ?_
      rw [if_pos hb] at hne
      rw [hne (by decide)]
      exact Ev.now _
    by_cases h1 : rd c.f0 (k' : Int) < 0
    · refine Ev.step (fun k => by simp only [history_Validate.l1]; rw [if_pos (by omega), if_pos (by omega), if_pos (by omega), if_pos h1]) ?_
      exact j2t (Or.inl h1)
    refine Ev.step (fun k => by simp only [history_Validate.l1]; rw [if_pos (by omega), if_pos (by omega), if_pos (by omega), if_neg h1]) ?_
    by_cases h2 : rd c.f0 (k' : Int) ≥ i
    · rw [decide_eq_true h2]
      exact j2t (Or.inr h2)
    rw [decide_eq_false h2]
    rw [if_neg (show ¬ (rd c.f0 (k' : Int) < 0 ∨ rd c.f0 (k' : Int) ≥ i) by omega)] at hne h
    by_cases h3 : 0 < k'
    · by_cases h4 : rd c.f0 ((k' - 1 : Nat) : Int) ≥ rd c.f0 (k' : Int)
      · rw [if_pos ⟨h3, h4⟩] at hne
        refine Ev.step (f := fun _ => some (5, (i : Int))) (fun k => by simp only [history_Validate.j2]; rw [if_neg (by decide), if_pos (by omega), w64 (n := (k' : Int) - 1) (by omega) (by omega), show (k' : Int) - 1 = ((k' - 1 : Nat) : Int) from by omega, if_pos (by omega), if_pos (by omega), if_pos h4]) ?_
        rw [hne (by decide)]
        exact Ev.now _
      · rw [if_neg (by omega)] at hne h
        refine Ev.step (fun k => by simp only [history_Validate.j2]; rw [if_neg (by decide), if_pos (by omega), w64 (n := (k' : Int) - 1) (by omega) (by omega), show (k' : Int) - 1 = ((k' - 1 : Nat) : Int) from by omega, if_pos (by omega), if_pos (by omega), if_neg h4, w64 (n := (k' : Int) + 1) (by omega) (by omega)]) ?_
        exact ih (k' + 1) (by omega) hne h
    · rw [if_neg (by omega)] at hne h
      refine Ev.step (fun k => by simp only [history_Validate.j2]; rw [if_neg (by decide), if_neg (by omega), w64 (n := (k' : Int) + 1) (by omega) (by omega)]) ?_
      exact ih (k' + 1) (by omega) hne h
theorem val_loop (l : List Cm) (hl : l.length ≤ 60) : ∀ (d i : Nat), i + d = l.length → Ev (fun k => history_Validate.l0 k l (l.length : Int) (i : Int)) (hfl i (l.drop i)) := by
  intro d
  induction d with
  | zero =>
    intro i hi
    refine Ev.step (f := fun _ => some (0, 0)) (fun k => by simp only [history_Validate.l0]; rw [if_neg (by omega)]) ?_
    rw [List.drop_of_length_le (by omega)]
    exact Ev.now _
  | succ d ih =>
    intro i hi
    have hil : i < l.length := by omega
    rw [drop_cm hil]
    simp only [hfl]
    have hnext := ih (i + 1) (by omega)
    generalize hc : l[i] = c at *
    by_cases h3 : (c.f0.length : Int) > 3
    · have e : cfl i c = 2 := by unfold cfl; rw [if_pos h3]
      refine Ev.step (f := fun _ => some (2, (i : Int))) (fun k => by simp only [history_Validate.l0]; rw [if_pos (by omega), if_pos (by omega), if_pos (by omega), cm_get l i hil, hc, if_pos h3]) ?_
      rw [e, if_neg (by decide)]
      exact Ev.now _
    · refine Ev.step (fun k => by simp only [history_Validate.l0]; rw [if_pos (by omega), if_pos (by omega), if_pos (by omega), cm_get l i hil, hc, if_neg h3]) ?_
      refine val_par l hl i hil c (by omega) c.f0.length 0 (by omega) (fun hp => ?_) (fun hp => ?_)
      · have e : cfl i c = pft i c.f0 c.f0.length 0 := by unfold cfl; rw [if_neg h3, if_pos hp]
        rw [e, if_neg hp]
      · refine val_late l hl i hil c (fun g1 g2 => ?_) (fun g1 => ?_) (fun g1 g2 => ?_)
        · have e : cfl i c = 0 := by unfold cfl; rw [if_neg h3, if_neg (by simp [hp]), if_neg g1, if_neg g2]
          rw [e, if_pos rfl]
          exact hnext
        · have e : cfl i c = 3 := by unfold cfl; rw [if_neg h3, if_neg (by simp [hp]), if_pos g1]
          rw [e, if_neg (by decide)]
        · have e : cfl i c = 10 := by unfold cfl; rw [if_neg h3, if_neg (by simp [hp]), if_neg g1, if_pos g2]
          rw [e, if_neg (by decide)]
theorem val_ev (l : List Cm) : Ev (fun k => history_Validate.f k l) (hv l) := by
  unfold history_Validate.f hv
  by_cases h : (l.length : Int) > 60
  · refine ev_if_pos h ?_
    rw [if_pos h]
    exact Ev.now _
  · refine ev_if_neg h ?_
    rw [if_neg h]
    exact val_loop l (by omega) l.length 0 (by omega)
/-! digests -/
def cd (ds : List Int) (c : Cm) : Int := (c.f0.map fun p => rd ds p).foldl pairD (pairD (pairD (pairD (dig (bytesOf c.f4)) c.f1) c.f2) c.f3)
def dgs : List Int → List Cm → List Int
  | ds, [] => ds
  | ds, c :: r => dgs (ds ++ [cd ds c]) r
theorem fold_pair : ∀ (l : List Int) (x : Int), isDig x = true → isDig (l.foldl pairD x) = true
  | [], x, h => h
  | y :: l, x, h => fold_pair l _ (isDig_pairD _ _)
theorem cd_dig (ds : List Int) (c : Cm) : isDig (cd ds c) = true := fold_pair _ _ (isDig_pairD _ _)
theorem dgs_dig : ∀ (l : List Cm) (ds : List Int), allDig ds → allDig (dgs ds l)
  | [], ds, h => h
  | c :: r, ds, h => dgs_dig r _ fun x hx => by
    rcases List.mem_append.mp hx with h1 | h1
    · exact h x h1
    · rw [List.mem_singleton.mp h1]
      exact cd_dig ds c
theorem dgs_app : ∀ (l : List Cm) (ds : List Int), ∃ t, dgs ds l = ds ++ t ∧ t.length = l.length
  | [], ds => ⟨[], by simp [dgs], rfl⟩
  | c :: r, ds => by
    obtain ⟨t, h1, h2⟩ := dgs_app r (ds ++ [cd ds c])
    exact ⟨cd ds c :: t, by rw [show dgs ds (c :: r) = dgs (ds ++ [cd ds c]) r from rfl, h1, List.append_assoc]; rfl, by rw [List.length_cons, h2, List.length_cons]⟩
theorem dgs_take : ∀ (l : List Cm) (ds : List Int) (m : Nat), dgs ds (l.take m) = (dgs ds l).take (ds.length + m)
  | [], ds, m => by
    rw [List.take_nil]
    show ds = ds.take _
    rw [List.take_of_length_le (by omega)]
  | c :: r, ds, 0 => by
    obtain ⟨t, h1, _⟩ := dgs_app (c :: r) ds
    rw [h1]
    show ds = _
    rw [Nat.add_zero, List.take_left]
  | c :: r, ds, m + 1 => by
    rw [List.take_succ_cons]
    show dgs (ds ++ [cd ds c]) (r.take m) = (dgs (ds ++ [cd ds c]) r).take _
    rw [dgs_take r _ m, List.length_append, List.length_singleton]
    congr 1
    omega
theorem dgs_len (l : List Cm) : (dgs [] l).length = l.length := by
  obtain ⟨t, h1, h2⟩ := dgs_app l []
  rw [h1, List.nil_append, h2]
theorem pft_zero (i : Int) (l : List Int) : ∀ (d k : Nat), pft i l d k = 0 → ∀ j, k ≤ j → j < k + d → 0 ≤ rd l (j : Int) ∧ rd l (j : Int) < i := by
  intro d
  induction d with
  | zero => intro k _ j h1 h2; omega
  | succ d ih =>
    intro k h j h1 h2
    simp only [pft] at h
    by_cases hb : rd l (k : Int) < 0 ∨ rd l (k : Int) ≥ i
    · rw [if_pos hb] at h
      exact absurd h (by decide)
    rw [if_neg hb] at h
    by_cases hc : 0 < k ∧ rd l ((k - 1 : Nat) : Int) ≥ rd l (k : Int)
    · rw [if_pos hc] at h
      exact absurd h (by decide)
    rw [if_neg hc] at h
    by_cases hj : j = k
    · subst hj
      omega
    · exact ih (k + 1) h j (by omega) (by omega)
theorem cfl_zero {i : Int} {c : Cm} (h : cfl i c = 0) : c.f0.length ≤ 3 ∧ (∀ j : Nat, j < c.f0.length → 0 ≤ rd c.f0 (j : Int) ∧ rd c.f0 (j : Int) < i) ∧ ¬ lateBad c ∧ c.f4.size ≤ 80 := by
  unfold cfl at h
  by_cases h3 : (c.f0.length : Int) > 3
  · rw [if_pos h3] at h
    exact absurd h (by decide)
  rw [if_neg h3] at h
  by_cases hp : pft i c.f0 c.f0.length 0 ≠ 0
  · rw [if_pos hp] at h
    exact absurd h hp
  rw [if_neg hp] at h
  by_cases hb : lateBad c
  · rw [if_pos hb] at h
    exact absurd h (by decide)
  rw [if_neg hb] at h
  by_cases hs : (c.f4.size : Int) > 80
  · rw [if_pos hs] at h
    exact absurd h (by decide)
  exact ⟨by omega, fun j hj => pft_zero i c.f0 c.f0.length 0 (by omega) j (by omega) (by omega), hb, by omega⟩
theorem hfl_cons {i : Nat} {c : Cm} {r : List Cm} (h : (hfl i (c :: r)).1 = 0) : cfl i c = 0 ∧ (hfl (i + 1) r).1 = 0 := by
  simp only [hfl] at h
  by_cases hc : cfl i c = 0
  · rw [if_pos hc] at h
    exact ⟨hc, h⟩
  · rw [if_neg hc] at h
    exact absurd h hc
theorem hfl_ok : ∀ (l : List Cm) (i : Nat), (hfl i l).1 = 0 → hfl i l = (0, 0)
  | [], i, _ => rfl
  | c :: r, i, h => by
    obtain ⟨h1, h2⟩ := hfl_cons h
    simp only [hfl]
    rw [if_pos h1]
    exact hfl_ok r (i + 1) h2
theorem hfl_take : ∀ (l : List Cm) (i m : Nat), (hfl i l).1 = 0 → (hfl i (l.take m)).1 = 0
  | [], i, m, _ => by rw [List.take_nil]; rfl
  | c :: r, i, 0, _ => rfl
  | c :: r, i, m + 1, h => by
    obtain ⟨h1, h2⟩ := hfl_cons h
    rw [List.take_succ_cons]
    simp only [hfl]
    rw [if_pos h1]
    exact hfl_take r (i + 1) m h2
theorem rd_left {ds z : List Int} {p : Int} (h0 : 0 ≤ p) (h : p < ds.length) : rd (ds ++ z) p = rd ds p := by
  obtain ⟨q, rfl⟩ := Int.eq_ofNat_of_zero_le h0
  rw [rd_get _ q (by rw [List.length_append]; omega), rd_get _ q (by omega), List.getElem_append_left (by omega)]
theorem rd_isDig {ds : List Int} (h : allDig ds) {p : Int} (h0 : 0 ≤ p) (h1 : p < ds.length) : isDig (rd ds p) = true := by
  obtain ⟨q, rfl⟩ := Int.eq_ofNat_of_zero_le h0
  rw [rd_get _ q (by omega)]
  exact h _ (List.getElem_mem _)
theorem dig_par (ds z : List Int) (hds : allDig ds) (l : List Cm) (i : Nat) (hi : i = ds.length) (hz : 1 ≤ z.length) (ps : List Int) (hps : ps.length ≤ 3) (hp : ∀ j : Nat, j < ps.length → 0 ≤ rd ps (j : Int) ∧ rd ps (j : Int) < i) (hl : i < 1000) {res : List Int × Int × Int} :
    ∀ (d j : Nat) (x : Int), j + d = ps.length → isDig x = true →
    Ev (fun k => history_Digests.l0 k ((ds ++ z).set i (((ps.drop j).map fun p => rd ds p).foldl pairD x)) l (l.length : Int) ((i + 1 : Nat) : Int)) res →
    Ev (fun k => history_Digests.l2 k (ds ++ z) (i : Int) x l (l.length : Int) (i : Int) ps (ps.length : Int) (j : Int)) res := by
  intro d
  induction d with
  | zero =>
    intro j x hj hx h
    rw [List.drop_of_length_le (by omega)] at h
    refine Ev.step (fun k => by simp only [history_Digests.l2]; rw [if_neg (by omega), if_pos (by omega), if_pos (by rw [List.length_append]; omega), w64 (n := (i : Int) + 1) (by omega) (by omega), Int.toNat_natCast]) ?_
    exact h
  | succ d ih =>
    intro j x hj hx h
    have hjl : j < ps.length := by omega
    obtain ⟨p0, p1⟩ := hp j hjl
    rw [drop_cons hjl, List.map_cons, List.foldl_cons, ← rd_get ps j hjl] at h
    have hd := rd_isDig hds p0 (by omega)
    refine Ev.step (fun k => by simp only [history_Digests.l2]; rw [if_pos (by omega), if_pos (by omega), if_pos (by omega), if_pos p0, if_pos (by rw [List.length_append]; omega), rd_left p0 (by omega), pPair_eq x _ hx hd, Option.bind_some, w64 (n := (j : Int) + 1) (by omega) (by omega)]) ?_
    exact ih (j + 1) _ (by omega) (isDig_pairD _ _) h
theorem dig_loop (l : List Cm) (hl : l.length ≤ 60) : ∀ (d i : Nat) (ds : List Int), i + d = l.length → ds.length = i → allDig ds → (hfl i (l.drop i)).1 = 0 →
    Ev (fun k => history_Digests.l0 k (ds ++ List.replicate d 0) l (l.length : Int) (i : Int)) (dgs ds (l.drop i), 0, 0) := by
  intro d
  induction d with
  | zero =>
    intro i ds hi hds _ _
    rw [List.drop_of_length_le (by omega)]
    refine Ev.step (f := fun _ => some (ds ++ List.replicate 0 0, 0, 0)) (fun k => by simp only [history_Digests.l0]; rw [if_neg (by omega)]) ?_
    rw [List.replicate_zero, List.append_nil]
    exact Ev.now _
  | succ d ih =>
    intro i ds hi hds had hv
    have hil : i < l.length := by omega
    rw [drop_cm hil] at hv ⊢
    obtain ⟨v1, v2⟩ := hfl_cons hv
    have hnext := fun ds' h1 h2 => ih (i + 1) ds' (by omega) h1 h2 v2
    generalize hc : l[i] = c at *
    obtain ⟨c1, c2, c3, c4⟩ := cfl_zero v1
    unfold lateBad at c3
    have hb : strBytes.f c.f4 = some (bytesOf c.f4) := if_pos (by omega)
    have d1 : isDig c.f1 = true := (isDig_iff _).2 (by omega)
    have d2 : isDig c.f2 = true := (isDig_iff _).2 (by omega)
    have d3 : isDig c.f3 = true := (isDig_iff _).2 (by omega)
    refine Ev.step (fun k => by simp only [history_Digests.l0]; rw [if_pos (by omega), if_pos (by omega), if_pos (by omega), cm_get l i hil, hc, hb, Option.bind_some]) ?_
    refine ev_bind (pDigest_ev (bytesOf c.f4) (bytesOf_byte _) (by rw [bytesOf_length]; omega)) ?_
    simp only [Option.bind_some, List.length_cons, List.length_nil]
    refine Ev.step (fun k => by simp only [history_Digests.l1]; rw [if_pos (by simp), if_pos (by simp), if_pos (by simp), show rd [c.f1, c.f2, c.f3] 0 = c.f1 from rfl, pPair_eq _ _ (isDig_dig _) d1, Option.bind_some, show wrap64 (0 + 1) = 1 from w64 (by omega) (by omega)]) ?_
    refine Ev.step (fun k => by simp only [history_Digests.l1]; rw [if_pos (by simp), if_pos (by simp), if_pos (by simp), show rd [c.f1, c.f2, c.f3] 1 = c.f2 from rfl, pPair_eq _ _ (isDig_pairD _ _) d2, Option.bind_some, show wrap64 (1 + 1) = 2 from w64 (by omega) (by omega)]) ?_
    refine Ev.step (fun k => by simp only [history_Digests.l1]; rw [if_pos (by simp), if_pos (by simp), if_pos (by simp), show rd [c.f1, c.f2, c.f3] 2 = c.f3 from rfl, pPair_eq _ _ (isDig_pairD _ _) d3, Option.bind_some, show wrap64 (2 + 1) = 3 from w64 (by omega) (by omega)]) ?_
    refine Ev.step (fun k => by simp only [history_Digests.l1]; rw [if_neg (by simp)]) ?_
    refine dig_par ds (List.replicate (d + 1) 0) had l i hds.symm (by simp) c.f0 c1 c2 (by omega) c.f0.length 0 _ (by omega) (isDig_pairD _ _) ?_
    have e : (ds ++ List.replicate (d + 1) 0).set i (((c.f0.drop 0).map fun p => rd ds p).foldl pairD (pairD (pairD (pairD (dig (bytesOf c.f4)) c.f1) c.f2) c.f3)) = (ds ++ [cd ds c]) ++ List.replicate d 0 := by
      rw [List.drop_zero, List.set_append_right _ _ (by omega), hds, Nat.sub_self, List.replicate_succ, List.set_cons_zero, List.append_assoc]
      rfl
    rw [e]
    exact hnext (ds ++ [cd ds c]) (by rw [List.length_append, List.length_singleton, hds]) (fun x hx => by
      rcases List.mem_append.mp hx with h1 | h1
      · exact had x h1
      · rw [List.mem_singleton.mp h1]
        exact cd_dig ds c)
theorem digs_ev (l : List Cm) : Ev (fun k => history_Digests.f k l) (if (hv l).1 = 0 then dgs [] l else [], (hv l).1, (hv l).2) := by
  unfold history_Digests.f
  refine ev_bind (val_ev l) ?_
  by_cases h : (hv l).1 = 0
  · have hl : ¬ (l.length : Int) > 60 := by
      intro h'
      unfold hv at h
      rw [if_pos h'] at h
      exact absurd h (by decide)
    have hh : (hfl 0 l).1 = 0 := by
      unfold hv at h
      rw [if_neg hl] at h
      exact h
    have h00 : hv l = (0, 0) := by
      unfold hv
      rw [if_neg hl]
      exact hfl_ok l 0 hh
    refine ev_if_neg (eq_zero' h00) (ev_if_pos (by omega) (ev_if_pos (by omega) ?_))
    rw [h00]
    have := dig_loop l (by omega) l.length 0 [] (by omega) rfl (fun x hx => by simp at hx) hh
    simp only [Int.toNat_natCast]
    exact this
  · refine ev_if_pos (ne_zero h) ?_
    rw [if_neg h]
    exact Ev.now _
theorem ints3_loop (a : List Int) (hl : a.length ≤ 1000) : ∀ (d i : Nat), i + d = a.length → Ev (fun k => changeforgeref3_Ints.l0 k a a i) true := by
  intro d
  induction d with
  | zero =>
    intro i hi
    exact Ev.step (f := fun _ => some true) (fun k => by simp only [changeforgeref3_Ints.l0]; rw [if_neg (by omega)]) (Ev.now _)
  | succ d ih =>
    intro i hi
    refine Ev.step (fun k => by simp only [changeforgeref3_Ints.l0]; rw [if_pos (by omega), if_pos (by omega), if_pos (by omega), if_pos trivial, w64 (n := (i : Int) + 1) (by omega) (by omega)]) ?_
    exact ih (i + 1) (by omega)
theorem in3_eq (a b c : Int) : changeforgeref3_In.f a b c = some (decide (b ≤ a ∧ a ≤ c)) := by
  unfold changeforgeref3_In.f
  by_cases h : a ≥ b
  · rw [if_pos h]
    congr 1
    rw [decide_eq_decide]
    omega
  · rw [if_neg h]
    congr 1
    symm
    rw [decide_eq_false_iff_not]
    omega
theorem TopHistoryLogged : changeforgetop_TopHistoryLogged.Pure := by
  intro l m _ _
  refine ev_total ?_
  unfold changeforgetop_TopHistoryLogged.f
  have h12 := pRootX_ev [1, 2]
  have e12 : (if (msgFault [1, 2]).1 = 0 then root [1, 2] else 0, (msgFault [1, 2]).1, (msgFault [1, 2]).2) = ((1000072 : Int), (0 : Int), (0 : Int)) := by
    rw [show msgFault [1, 2] = (0, 0) from by decide, root_big (by decide)]
    rw [show sp ([1, 2] : List Int).length = 1 from by decide +kernel]
    rw [root_small (by decide), root_small (by decide)]
    decide +kernel
  rw [e12] at h12
  refine ev_bind h12 (ev_if_pos rfl (ev_if_pos rfl ?_))
  refine ev_bind (digs_ev l) ?_
  by_cases h : (hv l).1 = 0
  · refine ev_if_pos h ?_
    rw [if_pos h]
    have hl : ¬ (l.length : Int) > 60 := by
      intro h'
      unfold hv at h
      rw [if_pos h'] at h
      exact absurd h (by decide)
    have hh : (hfl 0 l).1 = 0 := by
      unfold hv at h
      rw [if_neg hl] at h
      exact h
    have el := dgs_len l
    simp only [el, in3_eq, Option.bind_some]
    refine ev_if_pos (by trivial) ?_
    by_cases hm : 1 ≤ m ∧ m ≤ (l.length : Int)
    · refine ev_if_pos (by rw [decide_eq_true_eq]; exact hm) (ev_if_neg (by omega) (ev_if_pos (by omega) (ev_if_pos (by omega) ?_)))
      obtain ⟨m', rfl⟩ := Int.eq_ofNat_of_zero_le (show 0 ≤ m by omega)
      simp only [Int.toNat_natCast]
      have hvT : hv (l.take m') = (0, 0) := by
        unfold hv
        rw [if_neg (by rw [List.length_take]; omega)]
        exact hfl_ok _ 0 (hfl_take l 0 m' hh)
      have hE := digs_ev (l.take m')
      rw [hvT, if_pos rfl, dgs_take l [] m', List.length_nil, Nat.zero_add] at hE
      have hD : allDig (dgs [] l) := dgs_dig l [] (fun x hx => by simp at hx)
      generalize dgs [] l = D at *
      have hDl : D.length ≤ 64 := by omega
      have hFD : msgFault D = (0, 0) := by
        unfold msgFault
        rw [if_pos (by omega)]
        exact digFault_ok _ 0 hD
      have hFT : msgFault (D.take m') = (0, 0) := by
        unfold msgFault
        rw [if_pos (by rw [List.length_take]; omega)]
        exact digFault_ok _ 0 (take_dig hD _)
      have hR := pRootX_ev D
      rw [hFD, if_pos rfl] at hR
      have hO := pRootX_ev (D.take m')
      rw [hFT, if_pos rfl] at hO
      have hcf : contFault D (m' : Int) = (0, 0) := by
        unfold contFault
        rw [hFD, if_pos rfl, if_pos (by omega)]
      have hP := pContX_ev D (m' : Int)
      rw [hcf, if_pos rfl] at hP
      obtain ⟨h4, h5⟩ := subp_facts D.length D m' true rfl (by omega) (by omega) hD
      have hV := pCons_ev (root (D.take m')) (m' : Int) (root D) (D.length : Int) (subp D m' true)
      have hvf : conFault (root (D.take m')) (m' : Int) (root D) (D.length : Int) (subp D m' true) = (0, 0) := by
        unfold conFault bad
        rw [root_dig hD, root_dig (take_dig hD _), decide_eq_true (show 1 ≤ (m' : Int) ∧ (m' : Int) ≤ (D.length : Int) by omega), decide_eq_true (show 1 ≤ (D.length : Int) ∧ (D.length : Int) ≤ 64 by omega)]
        exact pfFault_of (by omega) h5
      have hok : conOk (root (D.take m')) (m' : Int) (root D) (D.length : Int) (subp D m' true) = true := by
        unfold conOk
        rw [hvf]
        simp only [Int.toNat_natCast]
        rw [subp_cons (by omega) (by omega) (by omega)]
        rfl
      rw [hok, hvf] at hV
      simp only [Int.toNat_natCast] at hP
      rw [el] at hV
      refine ev_bind hE (ev_bind hO (ev_bind hR (ev_bind hP ?_)))
      refine ev_if_pos (by trivial) (ev_if_pos (by trivial) (ev_if_pos (by trivial) (ev_if_pos (by trivial) (ev_if_pos (by omega) ?_))))
      have hI : Ev (fun k => changeforgeref3_Ints.f k (D.take m') (D.take m')) true := by
        unfold changeforgeref3_Ints.f
        refine ev_if_pos rfl ?_
        exact ints3_loop (D.take m') (by rw [List.length_take]; omega) (D.take m').length 0 (by omega)
      refine ev_bind hI (ev_if_pos (by trivial) (ev_bind hV (ev_if_pos (by trivial) (Ev.now _))))
    · refine ev_if_neg (by rw [decide_eq_true_eq]; exact hm) ?_
      rw [beq_self_eq_true]
      exact Ev.now _
  · refine ev_if_neg h ?_
    rw [if_neg h]
    exact Ev.now _
end Go.Proofs.Ytmcpcdnnnnhogaa.Pure
