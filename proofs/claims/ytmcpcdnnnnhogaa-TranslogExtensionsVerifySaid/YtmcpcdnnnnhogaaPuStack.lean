/- Plain lemmas: the reference's roots with a stack of complete subtrees, its proofs from the root downwards. No condition but what each states. -/
import Derived.Test.YtmcpcdnnnnhogaaFf13
import Derived.Test.YtmcpcdnnnnhogaaFn0
import Derived.Test.YtmcpcdnnnnhogaaFs0
import Derived.Test.YtmcpcdnnnnhogaaPuExt
set_option linter.unusedVariables false
namespace Go.Proofs.Ytmcpcdnnnnhogaa.Pure
open Go.RowKit Go.Proofs.Ytmcpcdnnnnhogaa.Fn Go.Proofs.YtmcpcdnnnnhogaaW.PrintWords Go.Proofs.YtmcpcdnnnnhogaaW.PrintLast Go.Proofs.YtmcpcdnnnnhogaaW.PrintMore
theorem sp_pow (j t : Nat) (h1 : 1 ≤ t) (h2 : t ≤ 2 ^ j) : sp (2 ^ j + t) = 2 ^ j := by
  have hp : 1 ≤ 2 ^ j := Nat.one_le_two_pow
  unfold sp
  rw [(Nat.log2_eq_iff (by omega)).mpr (⟨by omega, by rw [Nat.pow_succ]; omega⟩ : 2 ^ j ≤ 2 ^ j + t - 1 ∧ 2 ^ j + t - 1 < 2 ^ (j + 1))]
theorem root_join {a b : List Int} {j : Nat} (ha : a.length = 2 ^ j) (h1 : 1 ≤ b.length) (h2 : b.length ≤ 2 ^ j) : root (a ++ b) = pairD (root a) (root b) := by
  have hp : 1 ≤ 2 ^ j := Nat.one_le_two_pow
  have e : sp (a ++ b).length = a.length := by rw [List.length_append, ha, sp_pow j b.length h1 h2]
  rw [root_big (by rw [List.length_append]; omega), e, List.take_left, List.drop_left]
abbrev Stk := List (List Int × Nat)
def cat : Stk → List Int
  | [] => []
  | c :: r => cat r ++ c.1
def rts (st : Stk) : List Int := (st.map fun c => root c.1).reverse
def szs (st : Stk) : List Int := (st.map fun c => ((2 ^ c.2 : Nat) : Int)).reverse
theorem rts_cons (c : List Int × Nat) (st : Stk) : rts (c :: st) = rts st ++ [root c.1] := by simp [rts]
theorem szs_cons (c : List Int × Nat) (st : Stk) : szs (c :: st) = szs st ++ [((2 ^ c.2 : Nat) : Int)] := by simp [szs]
theorem rts_len (st : Stk) : (rts st).length = st.length := by simp [rts]
theorem szs_len (st : Stk) : (szs st).length = st.length := by simp [szs]
/-- Chunks of the sizes 2^j, the later ones smaller. -/
def Wf : Stk → Prop
  | [] => True
  | c :: r => c.1.length = 2 ^ c.2 ∧ (∀ d ∈ r, c.2 < d.2) ∧ Wf r
theorem Wf.of_mem {st : Stk} (h : Wf st) : ∀ c ∈ st, c.1.length = 2 ^ c.2 := by
  induction st with
  | nil => intro c hc; simp at hc
  | cons d r ih =>
    intro c hc
    rcases List.mem_cons.mp hc with e | hc
    · rw [e]; exact h.1
    · exact ih h.2.2 c hc
theorem rd_app1 (A : List Int) (u v : Int) : rd (A ++ [u] ++ [v]) ((A.length : Int) + 1) = v := by
  have h : A.length + 1 < (A ++ [u] ++ [v]).length := by simp
  have := rd_get (A ++ [u] ++ [v]) (A.length + 1) h
  rw [show ((A.length + 1 : Nat) : Int) = (A.length : Int) + 1 from by omega] at this
  rw [this]
  rw [List.getElem_append_right (by simp)]
  simp
theorem rd_app0 (A X : List Int) (u : Int) : rd (A ++ [u] ++ X) (A.length : Int) = u := by
  have h : A.length < (A ++ [u] ++ X).length := by simp
  rw [rd_get _ _ h, List.getElem_append_left (by simp), List.getElem_append_right (by omega)]
  simp
theorem set_app (A : List Int) (u v x : Int) : ((A ++ [u] ++ [v]).set A.length x).take (A.length + 1) = A ++ [x] := by
  rw [List.append_assoc, List.set_append_right _ _ (by omega), Nat.sub_self]
  show (A ++ [x, v]).take (A.length + 1) = A ++ [x]
  rw [show A ++ [x, v] = (A ++ [x]) ++ [v] from by simp]
  exact List.take_left' (by simp)
theorem stk_in (l : List Int) (hl : l.length ≤ 64) (i : Nat) (hi : i < l.length) (hd : allDig l) {res : Int}
    (next : ∀ st : Stk, Wf st → cat st = l.take (i + 1) → st.length ≤ i + 1 → Ev (fun k => changeforgeref5_LogRoot.l0 k l (rts st) (szs st) ((i + 1 : Nat) : Int)) res) :
    ∀ (rest : Stk) (c : List Int × Nat), c.1.length = 2 ^ c.2 → (∀ d ∈ rest, c.2 ≤ d.2) → Wf rest → cat (c :: rest) = l.take (i + 1) → rest.length ≤ i →
    Ev (fun k => changeforgeref5_LogRoot.l1 k l (rts (c :: rest)) (szs (c :: rest)) (i : Int) ((rts (c :: rest)).length : Int)) res := by
  intro rest
  induction rest with
  | nil =>
    intro c hc _ _ hcat _
    refine Ev.step (fun k => by simp only [changeforgeref5_LogRoot.l1]; rw [if_neg (by rw [rts_len]; simp), w64 (by omega) (by omega)]) ?_
    exact next [c] ⟨hc, fun d hd => by simp at hd, trivial⟩ hcat (by simp)
  | cons d rest ih =>
    intro c hc hle hwf hcat hlen
    obtain ⟨hd1, hd2, hd3⟩ := hwf
    have hlen2 : rest.length + 1 ≤ i := hlen
    have ex : rts (c :: d :: rest) = rts rest ++ [root d.1] ++ [root c.1] := by rw [rts_cons, rts_cons]
    have es : szs (c :: d :: rest) = szs rest ++ [((2 ^ d.2 : Nat) : Int)] ++ [((2 ^ c.2 : Nat) : Int)] := by rw [szs_cons, szs_cons]
    have en : ((rts (c :: d :: rest)).length : Int) = (rest.length : Int) + 2 := by rw [rts_len]; simp; omega
    have es2 : ((szs (c :: d :: rest)).length : Int) = (rest.length : Int) + 2 := by rw [szs_len]; simp; omega
    have w1 : wrap64 ((rest.length : Int) + 2 - 1) = (rest.length : Int) + 1 := by rw [w64 (by omega) (by omega)]; omega
    have w2 : wrap64 ((rest.length : Int) + 2 - 2) = (rest.length : Int) := by rw [w64 (by omega) (by omega)]; omega
    have r1 : rd (szs (c :: d :: rest)) ((rest.length : Int) + 1) = ((2 ^ c.2 : Nat) : Int) := by rw [es, ← szs_len rest]; exact rd_app1 _ _ _
    have r2 : rd (szs (c :: d :: rest)) (rest.length : Int) = ((2 ^ d.2 : Nat) : Int) := by rw [es, ← szs_len rest]; exact rd_app0 _ _ _
    have r3 : rd (rts (c :: d :: rest)) ((rest.length : Int) + 1) = root c.1 := by rw [ex, ← rts_len rest]; exact rd_app1 _ _ _
    have r4 : rd (rts (c :: d :: rest)) (rest.length : Int) = root d.1 := by rw [ex, ← rts_len rest]; exact rd_app0 _ _ _
    by_cases he : c.2 = d.2
    · have hcat2 : cat rest ++ (d.1 ++ c.1) = l.take (i + 1) := by rw [← hcat]; simp [cat]
      have hall : allDig (cat rest ++ (d.1 ++ c.1)) := by rw [hcat2]; exact take_dig hd _
      have hdd : isDig (root d.1) = true := root_dig fun x hx => hall x (by simp [hx])
      have hcd : isDig (root c.1) = true := root_dig fun x hx => hall x (by simp [hx])
      have hlen3 : d.1.length + c.1.length ≤ 64 := by
        have := congrArg List.length hcat2
        rw [List.length_append, List.length_append, List.length_take] at this
        omega
      have hj : root (d.1 ++ c.1) = pairD (root d.1) (root c.1) := root_join hd1 (by rw [hc]; exact Nat.one_le_two_pow) (by rw [hc, he]; exact Nat.le_refl _)
      have hpw : 2 * ((2 ^ d.2 : Nat) : Int) = ((2 ^ (d.2 + 1) : Nat) : Int) := by rw [Nat.pow_succ]; omega
      have e1 : (((rts (c :: d :: rest)).set ((rest.length : Int).toNat) (pairD (root d.1) (root c.1))).take (((rest.length : Int) + 1).toNat)) = rts ((d.1 ++ c.1, d.2 + 1) :: rest) := by
        rw [show ((rest.length : Int) + 1).toNat = rest.length + 1 from by omega, Int.toNat_natCast, ex, rts_cons, hj, ← rts_len rest]
        exact set_app _ _ _ _
      have e2 : (((szs (c :: d :: rest)).set ((rest.length : Int).toNat) ((2 ^ (d.2 + 1) : Nat) : Int)).take (((rest.length : Int) + 1).toNat)) = szs ((d.1 ++ c.1, d.2 + 1) :: rest) := by
        rw [show ((rest.length : Int) + 1).toNat = rest.length + 1 from by omega, Int.toNat_natCast, es, szs_cons, ← szs_len rest]
        exact set_app _ _ _ _
      refine Ev.step (f := fun k => (changeforgeref1_DigestPair.f k (root d.1) (root c.1)).bind fun t => changeforgeref5_LogRoot.l1 k l (((rts (c :: d :: rest)).set ((rest.length : Int).toNat) t).take (((rest.length : Int) + 1).toNat)) (szs ((d.1 ++ c.1, d.2 + 1) :: rest)) (i : Int) ((((rts (c :: d :: rest)).set ((rest.length : Int).toNat) t).take (((rest.length : Int) + 1).toNat)).length : Int)) (fun k => ?_) ?_
      · simp only [changeforgeref5_LogRoot.l1]
        rw [en, w1, w2, es2]
        rw [if_pos (by omega), if_pos (by omega), if_pos (by omega), if_pos (by omega), if_pos (by omega), r1, r2, if_pos (by rw [he]), if_pos (by omega), if_pos (by omega), r3, r4, w64 (n := 2 * ((2 ^ d.2 : Nat) : Int)) (by omega) (by omega), hpw, e2]
        simp only [Option.bind_some, if_pos (show (rest.length : Int) + 1 ≤ (rest.length : Int) + 2 by omega)]
      · refine ev_bind (rPairD hdd hcd) ?_
        rw [e1]
        exact ih (d.1 ++ c.1, d.2 + 1) (by simp only; rw [List.length_append, hd1, hc, he, Nat.pow_succ]; omega) (fun e hemem => by have := hd2 e hemem; simp only; omega) hd3 (by rw [show cat ((d.1 ++ c.1, d.2 + 1) :: rest) = cat rest ++ (d.1 ++ c.1) from rfl]; exact hcat2) (by omega)
    · refine Ev.step (f := fun k => changeforgeref5_LogRoot.l0 k l (rts (c :: d :: rest)) (szs (c :: d :: rest)) ((i + 1 : Nat) : Int)) (fun k => ?_) ?_
      · simp only [changeforgeref5_LogRoot.l1]
        rw [en, w1, w2, es2]
        have hne : ¬ ((2 ^ c.2 : Nat) : Int) = ((2 ^ d.2 : Nat) : Int) := by
          intro h
          have h' : 2 ^ c.2 = 2 ^ d.2 := Int.ofNat.inj h
          rcases Nat.lt_or_gt_of_ne he with g | g
          · have := Nat.pow_lt_pow_right (a := 2) (by omega) g
            omega
          · have := Nat.pow_lt_pow_right (a := 2) (by omega) g
            omega
        rw [if_pos (by omega), if_pos (by omega), if_pos (by omega), if_pos (by omega), if_pos (by omega), r1, r2, if_neg hne, w64 (n := (i : Int) + 1) (by omega) (by omega)]
        rfl
      · refine next (c :: d :: rest) ⟨hc, ?_, hd1, hd2, hd3⟩ hcat (by simp; omega)
        have hcd : c.2 < d.2 := by have := hle d (List.mem_cons_self ..); omega
        intro e hemem
        rcases List.mem_cons.mp hemem with h | h
        · rw [h]; exact hcd
        · have := hd2 e h
          omega
theorem stk_out : ∀ (rest : Stk) (acc X : List Int), 1 ≤ acc.length → Wf rest → (∀ d ∈ rest, acc.length ≤ 2 ^ d.2) → allDig (cat rest ++ acc) → rest.length ≤ 64 →
    Ev (fun k => changeforgeref5_LogRoot.l2 k (rts rest ++ X) (root acc) ((rest.length : Int) - 1)) (root (cat rest ++ acc)) := by
  intro rest
  induction rest with
  | nil =>
    intro acc X h1 _ _ _ _
    refine Ev.step (f := fun _ => some (root acc)) (fun k => by simp only [changeforgeref5_LogRoot.l2]; rw [if_neg (by simp)]) ?_
    exact Ev.now _
  | cons d rest ih =>
    intro acc X h1 hwf hle hall hlen
    obtain ⟨hd1, hd2, hd3⟩ := hwf
    have hlen2 : rest.length + 1 ≤ 64 := hlen
    have hall2 : allDig (cat rest ++ (d.1 ++ acc)) := by
      have : cat (d :: rest) ++ acc = cat rest ++ (d.1 ++ acc) := by simp [cat]
      rw [← this]
      exact hall
    have hdd : isDig (root d.1) = true := root_dig fun x hx => hall2 x (by simp [hx])
    have had : isDig (root acc) = true := root_dig fun x hx => hall2 x (by simp [hx])
    have e0 : (((d :: rest).length : Int) - 1) = (rest.length : Int) := by simp
    have er : rts (d :: rest) ++ X = rts rest ++ [root d.1] ++ X := by rw [rts_cons]
    rw [e0, er]
    have r1 : rd (rts rest ++ [root d.1] ++ X) (rest.length : Int) = root d.1 := by rw [← rts_len rest]; exact rd_app0 _ _ _
    refine Ev.step (f := fun k => (changeforgeref1_DigestPair.f k (root d.1) (root acc)).bind fun t => changeforgeref5_LogRoot.l2 k (rts rest ++ [root d.1] ++ X) t ((rest.length : Int) - 1)) (fun k => ?_) ?_
    · simp only [changeforgeref5_LogRoot.l2]
      rw [if_pos (by omega), if_pos (by omega), if_pos (by rw [List.length_append, List.length_append, rts_len, List.length_singleton]; omega), r1, w64 (by omega) (by omega)]
    · refine ev_bind (rPairD hdd had) ?_
      rw [← root_join hd1 h1 (hle d (List.mem_cons_self ..)), show cat (d :: rest) ++ acc = cat rest ++ (d.1 ++ acc) from by simp [cat], List.append_assoc]
      refine ih (d.1 ++ acc) ([root d.1] ++ X) (by rw [List.length_append]; omega) hd3 (fun e hemem => ?_) hall2 (by omega)
      have h3 := hd2 e hemem
      have h4 := hle d (List.mem_cons_self ..)
      have h5 : 2 ^ (d.2 + 1) ≤ 2 ^ e.2 := Nat.pow_le_pow_right (by omega) (by omega)
      rw [Nat.pow_succ] at h5
      rw [List.length_append, hd1]
      omega
theorem stk_loop (l : List Int) (hl : l.length ≤ 64) (hd : allDig l) : ∀ (d i : Nat) (st : Stk), i + d = l.length → Wf st → cat st = l.take i → st.length ≤ i →
    Ev (fun k => changeforgeref5_LogRoot.l0 k l (rts st) (szs st) (i : Int)) (root l) := by
  intro d
  induction d with
  | zero =>
    intro i st hi hwf hcat hlen
    have hcat2 : cat st = l := by rw [hcat, List.take_of_length_le (by omega)]
    cases st with
    | nil =>
      refine Ev.step (f := fun _ => some 0) (fun k => by simp only [changeforgeref5_LogRoot.l0]; rw [if_neg (by omega), if_pos (by rfl)]) ?_
      have : l = [] := by rw [← hcat2]; rfl
      rw [this, root_small (by simp)]
      exact Ev.now _
    | cons c rest =>
      have hl2 : rest.length + 1 ≤ i := hlen
      have en : ((rts (c :: rest)).length : Int) = (rest.length : Int) + 1 := by rw [rts_len]; simp
      have w1 : wrap64 ((rest.length : Int) + 1 - 1) = (rest.length : Int) := by rw [w64 (by omega) (by omega)]; omega
      have w2 : wrap64 ((rest.length : Int) + 1 - 2) = (rest.length : Int) - 1 := by rw [w64 (by omega) (by omega)]; omega
      have r1 : rd (rts (c :: rest)) (rest.length : Int) = root c.1 := by
        have := rd_app0 (rts rest) [] (root c.1)
        rw [rts_len, List.append_nil] at this
        rw [rts_cons]
        exact this
      refine Ev.step (fun k => by simp only [changeforgeref5_LogRoot.l0]; rw [if_neg (by omega), en, w1, w2, if_neg (by omega), if_pos (by omega), if_pos (by omega), r1]) ?_
      have h := stk_out rest c.1 [root c.1] (by rw [hwf.1]; exact Nat.one_le_two_pow) hwf.2.2 (fun e he => by rw [hwf.1]; exact Nat.pow_le_pow_right (by omega) (Nat.le_of_lt (hwf.2.1 e he))) (by rw [show cat rest ++ c.1 = cat (c :: rest) from rfl, hcat2]; exact hd) (by omega)
      rw [rts_cons]
      rw [show cat rest ++ c.1 = cat (c :: rest) from rfl, hcat2] at h
      exact h
  | succ d ih =>
    intro i st hi hwf hcat hlen
    have hil : i < l.length := by omega
    have e1 : rts st ++ [l[i]] = rts (([l[i]], 0) :: st) := by rw [rts_cons, root_small (by simp)]; rfl
    have e2 : szs st ++ [1] = szs (([l[i]], 0) :: st) := by rw [szs_cons]; rfl
    refine Ev.step (fun k => by simp only [changeforgeref5_LogRoot.l0]; rw [if_pos (by omega), if_pos (by omega), rd_get l i hil, e1, e2, if_pos (by rw [rts_len]; omega), Option.bind_some, if_pos (by rw [szs_len]; omega)]) ?_
    refine stk_in l hl i hil hd (fun st' h1 h2 h3 => ih (i + 1) st' (by omega) h1 h2 h3) st ([l[i]], 0) (by simp) (fun e he => Nat.zero_le _) hwf ?_ hlen
    show cat st ++ [l[i]] = _
    rw [hcat, List.take_succ_eq_append_getElem hil]
theorem rRoot_ev {l : List Int} (hl : l.length ≤ 64) (hd : allDig l) : Ev (fun k => changeforgeref5_LogRoot.f k l) (root l) := by
  unfold changeforgeref5_LogRoot.f
  exact stk_loop l hl hd l.length 0 [] (by omega) trivial rfl (Nat.zero_le _)
end Go.Proofs.Ytmcpcdnnnnhogaa.Pure
