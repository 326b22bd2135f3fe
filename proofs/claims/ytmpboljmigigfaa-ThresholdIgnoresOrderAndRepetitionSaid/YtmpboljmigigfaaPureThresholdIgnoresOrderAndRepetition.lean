/- Neither the order of signatures nor their repetition changes the signers: the plain law. Its condition: the parameters are of their kinds and sizes. -/
import Derived.Test.YtmpboljmigigfaaFf10
import Derived.Test.YtmpboljmigigfaaFf26
import Derived.Test.YtmpboljmigigfaaFf29
import Derived.Test.YtmpboljmigigfaaFn0
import Derived.Test.YtmpboljmigigfaaFp10
import Derived.Test.YtmpboljmigigfaaFs0
import Derived.Test.YtmpboljmigigfaaPuThr
set_option linter.unusedVariables false
namespace Go.Proofs.Ytmpboljmigigfaa.Pure
open Go.RowKit Go.Proofs.Ytmpboljmigigfaa.Fn Go.Proofs.YtmpboljmigigfaaW.PrintWords Go.Proofs.YtmpboljmigigfaaW.PrintLast Go.Proofs.YtmpboljmigigfaaW.PrintMore
theorem lIn2 (a b c : Int) : changeforgelaw5_in.f a b c = some (decide (b ≤ a ∧ a ≤ c)) := by
  unfold changeforgelaw5_in.f
  by_cases h : a ≥ b
  · rw [if_pos h]
    congr 1
    rw [decide_eq_decide]
    omega
  · rw [if_neg h]
    congr 1
    symm
    rw [decide_eq_false_iff_not]
    omega
/-- Lists with the same signatures have the same signers, and either both a fault or none. -/
theorem same_sigs (keys data : List Int) (a b : List Sg) (ha : a.length ≤ 24) (hb : b.length ≤ 24) (h : ∀ s, s ∈ a ↔ s ∈ b) :
    ((signersFault keys data a).1 = 0 ↔ (signersFault keys data b).1 = 0) ∧ signers keys data a = signers keys data b := by
  constructor
  · constructor
    · intro hf
      obtain ⟨_, h1, h2, h3, h4⟩ := signersFault_ok hf
      rw [signersFault_of h1 h2 (by omega) (fun s hs => h4 s ((h s).2 hs))]
    · intro hf
      obtain ⟨_, h1, h2, h3, h4⟩ := signersFault_ok hf
      rw [signersFault_of h1 h2 (by omega) (fun s hs => h4 s ((h s).1 hs))]
  · unfold signers
    refine List.filter_congr fun k _ => ?_
    unfold hasSig
    rw [Bool.eq_iff_iff, List.any_eq_true, List.any_eq_true]
    exact ⟨fun ⟨s, hs, hp⟩ => ⟨s, (h s).1 hs, hp⟩, fun ⟨s, hs, hp⟩ => ⟨s, (h s).2 hs, hp⟩⟩
theorem back_ends (keys data : List Int) (sigs : List Sg) (i : Int) (hb : isByte data) (hk : keys.length ≤ 140737488351232) (hs : sigs.length ≤ 23) (back : List Sg) (hback : back = sigs.reverse) :
    Ev (fun k => changeforgelaw5_ThresholdIgnoresOrderAndRepetition.l0 k keys data sigs i back (-1)) true := by
  refine Ev.step (fun k => by simp only [changeforgelaw5_ThresholdIgnoresOrderAndRepetition.l0]; rw [if_neg (by decide), lIn2, Option.bind_some, w64 (n := (sigs.length : Int) - 1) (by omega) (by omega)]) ?_
  have last : ∀ b : List Sg, b.length ≤ 24 → (∀ s, s ∈ sigs ↔ s ∈ b) → Ev (fun k => (threshold_Signers.f k keys data sigs).bind fun x => (threshold_Signers.f k keys data b).bind fun y => if ((x.2.1 == 0) == (y.2.1 == 0)) = true then ((changeforgeref5_Ints.f k x.1 y.1).bind fun t => some t) else none) true := by
    intro b hbl h
    obtain ⟨hf, he⟩ := same_sigs keys data sigs b (by omega) hbl h
    refine ev_bind (pSigners_ev keys data sigs hb) (ev_bind (pSigners_ev keys data b hb) ?_)
    unfold signersRes
    by_cases f : (signersFault keys data sigs).1 = 0
    · rw [if_pos f, if_pos (hf.1 f), he]
      refine ev_if_pos rfl (ev_bind (rInts_ev _ _ ?_) (ev_now fun k => by simp))
      have := List.length_filter_le (hasSig data b) keys
      unfold signers
      dsimp only
      omega
    · rw [if_neg f, if_neg (fun h => f (hf.2 h))]
      have f2 : ¬ (signersFault keys data b).1 = 0 := fun h => f (hf.2 h)
      refine ev_if_pos (by dsimp only; rw [beq_eq_false_iff_ne.mpr f, beq_eq_false_iff_ne.mpr f2]; rfl) (ev_bind (rInts_ev _ _ (by simp)) (ev_now fun k => by simp))
  by_cases hi : 0 ≤ i ∧ i ≤ (sigs.length : Int) - 1
  · refine ev_if_pos (decide_eq_true hi) ?_
    obtain ⟨n, rfl⟩ := Int.eq_ofNat_of_zero_le hi.1
    have hn : n < sigs.length := by omega
    refine ev_if_pos (by omega) (ev_if_pos (by omega) (ev_if_pos (by rw [hback, List.length_reverse]; omega) ?_))
    rw [rdS_get sigs n hn]
    have hbl : (back ++ [(⟨sigs[n].f0, sigs[n].f1⟩ : Sg)]).length ≤ 24 := by
      rw [hback, List.length_append, List.length_reverse, List.length_singleton]
      omega
    clear hb hk
    refine last _ hbl (fun s => ?_)
    rw [hback, List.mem_append, List.mem_reverse, List.mem_singleton]
    refine ⟨Or.inl, fun h => ?_⟩
    rcases h with h | h
    · exact h
    · rw [h]
      exact List.getElem_mem hn
  · refine ev_if_neg (by rw [decide_eq_true_eq]; exact hi) ?_
    exact last back (by rw [hback, List.length_reverse]; omega) (fun s => by rw [hback, List.mem_reverse])
theorem back_loop (keys data : List Int) (sigs : List Sg) (i : Int) (hb : isByte data) (hk : keys.length ≤ 140737488351232) (hs : sigs.length ≤ 23) : ∀ (d : Nat) (acc : List Sg), d ≤ sigs.length → acc = (sigs.drop d).reverse →
    Ev (fun k => changeforgelaw5_ThresholdIgnoresOrderAndRepetition.l0 k keys data sigs i acc ((d : Int) - 1)) true := by
  intro d
  induction d with
  | zero =>
    intro acc hd ha
    exact back_ends keys data sigs i hb hk hs acc (by rw [ha, List.drop_zero])
  | succ d ih =>
    intro acc hd ha
    have e : ((d + 1 : Nat) : Int) - 1 = (d : Int) := by omega
    rw [e]
    have hdl : d < sigs.length := by omega
    have hal : acc.length ≤ 23 := by rw [ha, List.length_reverse, List.length_drop]; omega
    refine Ev.step (fun k => by simp only [changeforgelaw5_ThresholdIgnoresOrderAndRepetition.l0]; rw [if_pos (by omega), if_pos (by omega), if_pos (by omega), if_pos (by omega), rdS_get sigs d hdl, w64 (n := (d : Int) - 1) (by omega) (by omega)]) ?_
    exact ih _ (by omega) (by rw [List.drop_eq_getElem_cons hdl, List.reverse_cons, ha])
theorem ThresholdIgnoresOrderAndRepetition : changeforgelaw5_ThresholdIgnoresOrderAndRepetition.Pure := by
  intro keys data sigs i hk hd hs hi
  refine ev_total ?_
  have hb := bytes_of_wf hd.2
  unfold changeforgelaw5_ThresholdIgnoresOrderAndRepetition.f
  simp only [changeforgelaw5_accepts.f, Option.bind_some]
  refine ev_if_pos (by trivial) ?_
  by_cases h1 : (sigs.length : Int) > 23
  · exact ev_if_pos h1 (Ev.now _)
  · refine ev_if_neg h1 ?_
    have := hk.1
    rw [w64 (by omega) (by omega)]
    exact back_loop keys data sigs i hb (by omega) (by omega) sigs.length [] (Nat.le_refl _) (by rw [List.drop_length]; rfl)
end Go.Proofs.Ytmpboljmigigfaa.Pure
