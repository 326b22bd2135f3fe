/- Signers and acceptance are as specified: the plain law. Its condition: the parameters are of their kinds and sizes. -/
import Derived.Test.YtmpboljmigigfaaFf26
import Derived.Test.YtmpboljmigigfaaFf8
import Derived.Test.YtmpboljmigigfaaFn0
import Derived.Test.YtmpboljmigigfaaFp8
import Derived.Test.YtmpboljmigigfaaPuThr
set_option linter.unusedVariables false
namespace Go.Proofs.Ytmpboljmigigfaa.Pure
open Go.RowKit Go.Proofs.Ytmpboljmigigfaa.Fn Go.Proofs.YtmpboljmigigfaaW.PrintWords Go.Proofs.YtmpboljmigigfaaW.PrintLast Go.Proofs.YtmpboljmigigfaaW.PrintMore
theorem ThresholdMatchesSpec : changeforgelaw5_ThresholdMatchesSpec.Pure := by
  intro keys need data sigs hk hn hd hs
  refine ev_total ?_
  have hb := bytes_of_wf hd.2
  unfold changeforgelaw5_ThresholdMatchesSpec.f
  refine ev_bind (rThr_ev keys need) ?_
  simp only [changeforgelaw5_accepts.f, Option.bind_some]
  refine ev_if_pos (by trivial) (ev_bind (pThr_ev keys need) ?_)
  have same : ∀ x : Int × Int, (!(x.1 == x.1) || (!(x.2 == x.2))) = false := fun x => by simp
  rw [same]
  refine Ev.step (fun k => by simp only [changeforgelaw5_ThresholdMatchesSpec.j0]; rw [if_neg (by decide)]) ?_
  refine ev_bind (rSigFault_ev keys data sigs) (ev_bind (pSigners_ev keys data sigs hb) ?_)
  have j : ∀ l : List Int, ((signersFault keys data sigs).1 = 0 → l = signers keys data sigs) → Ev (fun k => changeforgelaw5_ThresholdMatchesSpec.j1 k keys need data sigs l false (thrFault keys need).1 (thrFault keys need).2 (signersFault keys data sigs).1 (signersFault keys data sigs).2) true := by
    intro l hl
    refine Ev.step (fun k => by simp only [changeforgelaw5_ThresholdMatchesSpec.j1]; rw [if_neg (by decide)]) ?_
    by_cases h1 : (thrFault keys need).1 = 0
    · refine ev_if_pos h1 (ev_bind (pAccept_ev keys need data sigs hb) ?_)
      unfold acceptRes
      rw [if_pos h1]
      by_cases h2 : (signersFault keys data sigs).1 = 0
      · rw [if_pos h2, (signersFault_ok h2).1]
        refine ev_if_pos rfl (ev_if_pos (by trivial) (ev_now fun k => ?_))
        rw [hl h2]
        simp
      · rw [if_neg h2]
        refine ev_if_pos (by simp) (ev_if_neg h2 (ev_now fun k => ?_))
        simp
    · refine ev_if_neg h1 (ev_bind (pAccept_ev keys need data sigs hb) ?_)
      unfold acceptRes
      rw [if_neg h1]
      exact ev_if_pos (by simp) (ev_now fun k => by simp)
  unfold signersRes
  by_cases h : (signersFault keys data sigs).1 = 0
  · rw [if_pos h]
    have e := (signersFault_ok h).1
    refine ev_if_neg (by rw [e]; exact Bool.false_ne_true) (ev_if_pos h ?_)
    refine ev_bind (rSigners_ev keys data sigs hb h) (ev_bind (rInts_ev _ _ ?_) ?_)
    · have := List.length_filter_le (hasSig data sigs) keys
      have := hk.1
      unfold signers
      dsimp only
      omega
    · simp only [decide_true, Bool.not_true]
      exact j _ (fun _ => rfl)
  · rw [if_neg h]
    exact ev_if_neg (by simp) (ev_if_neg h (ev_if_neg (by simp) (j _ (fun h2 => absurd h2 h))))
end Go.Proofs.Ytmpboljmigigfaa.Pure
