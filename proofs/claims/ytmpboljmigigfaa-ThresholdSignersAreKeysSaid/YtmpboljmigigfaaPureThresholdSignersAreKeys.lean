/- The signers are keys of the list, in its order, each with a signature that verifies: the plain law. Its condition: the parameters are of their kinds and sizes. -/
import Derived.Test.YtmpboljmigigfaaFf12
import Derived.Test.YtmpboljmigigfaaFf26
import Derived.Test.YtmpboljmigigfaaFn0
import Derived.Test.YtmpboljmigigfaaFp12
import Derived.Test.YtmpboljmigigfaaFs0
import Derived.Test.YtmpboljmigigfaaPuThr
set_option linter.unusedVariables false
namespace Go.Proofs.Ytmpboljmigigfaa.Pure
open Go.RowKit Go.Proofs.Ytmpboljmigigfaa.Fn Go.Proofs.YtmpboljmigigfaaW.PrintWords Go.Proofs.YtmpboljmigigfaaW.PrintLast Go.Proofs.YtmpboljmigigfaaW.PrintMore
theorem are_inner (keys data : List Int) (sigs : List Sg) (l : List Int) (hb : isByte data) (hd : (data.length : Int) ≤ 4096) (hg : goodSigs sigs) (hs : sigs.length ≤ 24) (i : Nat) (hi : i < l.length) (hk : isKey l[i] = true) (hl : l.length ≤ 12)
    (h : Ev (fun k => (changeforgeref5_Has.f k keys (rd l i)).bind fun t => if t = true then (if (i : Int) > 0 then (if 0 ≤ (wrap64 ((i : Int) - 1)) then (if (wrap64 ((i : Int) - 1)) < (l.length : Int) then (if (rd l i) ≤ (rd l (wrap64 ((i : Int) - 1))) then none else (changeforgelaw5_ThresholdSignersAreKeys.l0 k keys data sigs l (wrap64 ((i : Int) + 1)))) else none) else none) else (changeforgelaw5_ThresholdSignersAreKeys.l0 k keys data sigs l (wrap64 ((i : Int) + 1)))) else none) true) :
    ∀ (d j : Nat) (b : Bool), j + d = sigs.length → (b || (sigs.drop j).any (isSig data l[i])) = true → Ev (fun k => changeforgelaw5_ThresholdSignersAreKeys.l1 k keys data sigs l i b j) true := by
  intro d
  induction d with
  | zero =>
    intro j b hj hbj
    rw [List.drop_of_length_le (by omega), List.any_nil, Bool.or_false] at hbj
    refine Ev.step (fun k => by simp only [changeforgelaw5_ThresholdSignersAreKeys.l1]; rw [if_neg (by omega), if_pos hbj, if_pos (by omega), if_pos (by omega)]) ?_
    exact h
  | succ d ih =>
    intro j b hj hbj
    have hjl : j < sigs.length := by omega
    rw [any_drop_cons hjl] at hbj
    obtain ⟨g1, g2⟩ := hg _ (List.getElem_mem hjl)
    refine Ev.step (fun k => by simp only [changeforgelaw5_ThresholdSignersAreKeys.l1]; rw [if_pos (by omega), if_pos (by omega), if_pos (by omega), if_pos (by omega), rd_get l i hi, rdS_get sigs j hjl]) ?_
    refine ev_bind (verify_ev l[i] data sigs[j].f1 hb) ?_
    have ev : verifyRes l[i] data sigs[j].f1 = (sgn l[i] data == sigs[j].f1, 0, 0) := by
      have es : (signFault l[i] data).1 = 0 := by
        unfold signFault
        rw [if_pos hk, if_pos hd]
      unfold verifyRes
      rw [if_pos es, if_pos g2]
    rw [ev, succ_w (by omega)]
    by_cases hbt : b = true
    · refine ev_if_pos hbt (ih (j + 1) true (by omega) (by simp))
    · have hbf : b = false := by simpa using hbt
      subst hbf
      refine ev_if_neg (by decide) (ev_if_pos (by trivial) ?_)
      rw [Bool.false_or] at hbj
      have e : isSig data l[i] sigs[j] = ((sgn l[i] data == sigs[j].f1) && (sigs[j].f0 == l[i])) := by
        unfold isSig
        rw [Bool.eq_iff_iff, decide_eq_true_eq, Bool.and_eq_true, beq_iff_eq, beq_iff_eq]
        exact ⟨fun h => ⟨h.2.symm, h.1⟩, fun h => ⟨h.2, h.1.symm⟩⟩
      rw [e] at hbj
      by_cases hv : (sgn l[i] data == sigs[j].f1) = true
      · refine ev_if_pos hv (ih (j + 1) _ (by omega) ?_)
        rw [hv, Bool.true_and] at hbj
        exact hbj
      · refine ev_if_neg hv (ih (j + 1) false (by omega) ?_)
        simp only [Bool.not_eq_true] at hv
        rw [hv, Bool.false_and] at hbj
        exact hbj
theorem are_loop (keys data : List Int) (sigs : List Sg) (hb : isByte data) (hf : (signersFault keys data sigs).1 = 0) : ∀ (d i : Nat), i + d = (signers keys data sigs).length →
    Ev (fun k => changeforgelaw5_ThresholdSignersAreKeys.l0 k keys data sigs (signers keys data sigs) i) true := by
  obtain ⟨_, h1, h2, h3, h4⟩ := signersFault_ok hf
  obtain ⟨_, hkl, hk, hr⟩ := keysFault_ok h1
  have hsub : (signers keys data sigs).Sublist keys := List.filter_sublist
  have hlen : (signers keys data sigs).length ≤ keys.length := hsub.length_le
  have hrs : rises (signers keys data sigs) := List.Pairwise.sublist hsub hr
  intro d
  induction d with
  | zero =>
    intro i hi
    exact Ev.step (f := fun _ => some true) (fun k => by simp only [changeforgelaw5_ThresholdSignersAreKeys.l0]; rw [if_neg (by omega)]) (Ev.now _)
  | succ d ih =>
    intro i hi
    have hil : i < (signers keys data sigs).length := by omega
    have hmem : (signers keys data sigs)[i] ∈ keys := hsub.subset (List.getElem_mem hil)
    have hp : hasSig data sigs (signers keys data sigs)[i] = true := (List.mem_filter.1 (List.getElem_mem hil)).2
    refine Ev.step (fun k => by simp only [changeforgelaw5_ThresholdSignersAreKeys.l0]; rw [if_pos (by omega)]) ?_
    refine are_inner keys data sigs _ hb h2 h4 (by omega) i hil (hk _ hmem) (by omega) ?_ sigs.length 0 false (by omega) (by simpa [hasSig] using hp)
    rw [rd_get _ i hil]
    refine ev_bind (rHas_ev keys _ (by omega)) ?_
    rw [decide_eq_true hmem]
    refine ev_if_pos (by trivial) ?_
    rw [succ_w (by omega)]
    by_cases h0 : 0 < i
    · refine ev_if_pos (by omega) ?_
      rw [pred_w h0 (by omega)]
      refine ev_if_pos (by omega) (ev_if_pos (by omega) ?_)
      have e : rd (signers keys data sigs) ((i - 1 : Nat) : Int) = (signers keys data sigs)[i - 1] := rd_get _ (i - 1) (by omega)
      rw [e]
      have := rises_get hrs (i := i - 1) (j := i) (by omega) hil (by omega)
      exact ev_if_neg (by omega) (ih (i + 1) (by omega))
    · exact ev_if_neg (by omega) (ih (i + 1) (by omega))
theorem ThresholdSignersAreKeys : changeforgelaw5_ThresholdSignersAreKeys.Pure := by
  intro keys data sigs hk hd hs
  refine ev_total ?_
  have hb := bytes_of_wf hd.2
  unfold changeforgelaw5_ThresholdSignersAreKeys.f
  refine ev_bind (pSigners_ev keys data sigs hb) ?_
  simp only [changeforgelaw5_accepts.f, Option.bind_some]
  refine ev_if_pos (by trivial) ?_
  unfold signersRes
  by_cases hf : (signersFault keys data sigs).1 = 0
  · rw [if_pos hf]
    refine ev_if_pos (by trivial) ?_
    refine Ev.step (fun k => by simp only [changeforgelaw5_ThresholdSignersAreKeys.j0]; rw [if_neg (by decide)]) ?_
    exact are_loop keys data sigs hb hf (signers keys data sigs).length 0 (by omega)
  · rw [if_neg hf]
    refine ev_if_neg hf ?_
    have e : decide ((([] : List Int).length : Int) > 0) = false := by decide
    simp only [e]
    refine Ev.step (fun k => by simp only [changeforgelaw5_ThresholdSignersAreKeys.j0]; rw [if_neg (by decide)]) ?_
    exact Ev.step (f := fun _ => some true) (fun k => by simp only [changeforgelaw5_ThresholdSignersAreKeys.l0]; rw [if_neg (by decide)]) (Ev.now _)
end Go.Proofs.Ytmpboljmigigfaa.Pure
