/- More signatures never undo an acceptance, and a lower threshold is easier to reach: the plain law. Its condition: the parameters are of their kinds and sizes. -/
import Derived.Test.YtmpboljmigigfaaFf26
import Derived.Test.YtmpboljmigigfaaFf9
import Derived.Test.YtmpboljmigigfaaFn0
import Derived.Test.YtmpboljmigigfaaFp9
import Derived.Test.YtmpboljmigigfaaFs0
import Derived.Test.YtmpboljmigigfaaPuThr
set_option linter.unusedVariables false
namespace Go.Proofs.Ytmpboljmigigfaa.Pure
open Go.RowKit Go.Proofs.Ytmpboljmigigfaa.Fn Go.Proofs.YtmpboljmigigfaaW.PrintWords Go.Proofs.YtmpboljmigigfaaW.PrintLast Go.Proofs.YtmpboljmigigfaaW.PrintMore
theorem lIn (a b c : Int) : changeforgelaw5_in.f a b c = some (decide (b ≤ a ∧ a ≤ c)) := by
  unfold changeforgelaw5_in.f
  by_cases h : a ≥ b
  · rw [if_pos h]
    congr 1
    rw [decide_eq_decide]
    omega
  · rw [if_neg h]
    congr 1
    symm
    rw [decide_eq_false_iff_not]
    omega
theorem filter_more (keys : List Int) (p q : Int → Bool) (h : ∀ k ∈ keys, p k = true → q k = true) : (keys.filter p).length ≤ (keys.filter q).length := by
  induction keys with
  | nil => simp
  | cons k ks ih =>
    have ih := ih (fun k hk => h k (List.mem_cons_of_mem _ hk))
    rw [List.filter_cons, List.filter_cons]
    by_cases hp : p k = true
    · rw [if_pos hp, if_pos (h k List.mem_cons_self hp)]
      simpa using ih
    · rw [if_neg hp]
      split
      · simp only [List.length_cons]
        omega
      · exact ih
theorem ThresholdIsMonotone : changeforgelaw5_ThresholdIsMonotone.Pure := by
  intro keys need less data a b hk hn hl hd ha hb'
  refine ev_total ?_
  have hb := bytes_of_wf hd.2
  unfold changeforgelaw5_ThresholdIsMonotone.f
  simp only [changeforgelaw5_accepts.f, Option.bind_some]
  refine ev_if_pos (by trivial) ?_
  have jt : Ev (fun k => changeforgelaw5_ThresholdIsMonotone.j0 k keys need less data a b true) true :=
    Ev.step (fun k => by simp only [changeforgelaw5_ThresholdIsMonotone.j0]; rw [if_pos (by trivial)]) (Ev.now _)
  by_cases h1 : (a.length : Int) > 24
  · exact ev_if_pos h1 jt
  · refine ev_if_neg h1 ?_
    by_cases h2 : (b.length : Int) > 24
    · rw [decide_eq_true h2]
      exact jt
    · rw [decide_eq_false h2]
      refine Ev.step (fun k => by simp only [changeforgelaw5_ThresholdIsMonotone.j0]; rw [if_neg (by decide)]) ?_
      refine ev_if_pos (by simp only [List.length_nil]; omega) ?_
      simp only [Option.bind_some, List.nil_append]
      refine ev_if_pos (by omega) ?_
      refine ev_bind (pAccept_ev keys need data a hb) (ev_bind (pAccept_ev keys need data (a ++ b) hb) (ev_bind (pAccept_ev keys less data a hb) ?_))
      simp only [lIn, Option.bind_some]
      by_cases f1 : (thrFault keys need).1 = 0
      · by_cases f2 : (signersFault keys data a).1 = 0
        · obtain ⟨_, ks, n1, n2⟩ := thrFault_ok f1
          obtain ⟨_, _, d1, s1, g1⟩ := signersFault_ok f2
          have e1 : acceptRes keys need data a = (decide (((signers keys data a).length : Int) ≥ need), 0, 0) := by
            unfold acceptRes
            rw [if_pos f1, if_pos f2]
          rw [e1]
          refine ev_if_pos (by trivial) ?_
          by_cases hx : ((signers keys data a).length : Int) ≥ need
          · refine ev_if_pos (decide_eq_true hx) ?_
            have rest : Ev (fun _ : Nat => if decide (1 ≤ less ∧ less ≤ need) = true then (if (acceptRes keys less data a).2.1 = 0 then some (acceptRes keys less data a).1 else none) else some true) true := by
              by_cases hl2 : 1 ≤ less ∧ less ≤ need
              · refine ev_if_pos (decide_eq_true hl2) ?_
                have e2 : acceptRes keys less data a = (true, 0, 0) := by
                  have f3 : thrFault keys less = (0, 0) := by
                    unfold thrFault
                    rw [if_pos ks, if_pos ⟨hl2.1, by omega⟩]
                  unfold acceptRes
                  rw [f3, if_pos (by trivial), if_pos f2, decide_eq_true (by omega)]
                rw [e2]
                exact ev_if_pos (by trivial) (Ev.now _)
              · exact ev_if_neg (by rw [decide_eq_true_eq]; exact hl2) (Ev.now _)
            by_cases f4 : (signersFault keys data (a ++ b)).1 = 0
            · have more : ((signers keys data (a ++ b)).length : Int) ≥ need := by
                have := filter_more keys (hasSig data a) (hasSig data (a ++ b)) (fun k _ h => by
                  unfold hasSig at *
                  rw [List.any_append, h, Bool.true_or])
                unfold signers at *
                omega
              have e3 : acceptRes keys need data (a ++ b) = (true, 0, 0) := by
                unfold acceptRes
                rw [if_pos f1, if_pos f4, decide_eq_true more]
              rw [e3]
              exact ev_if_pos (by trivial) (ev_if_pos (by trivial) rest)
            · have e3 : acceptRes keys need data (a ++ b) = (false, (signersFault keys data (a ++ b)).1, (signersFault keys data (a ++ b)).2) := by
                unfold acceptRes
                rw [if_pos f1, if_neg f4]
              rw [e3]
              exact ev_if_neg f4 rest
          · refine ev_if_neg (by rw [decide_eq_true_eq]; exact hx) (Ev.now _)
        · have e1 : acceptRes keys need data a = (false, (signersFault keys data a).1, (signersFault keys data a).2) := by
            unfold acceptRes
            rw [if_pos f1, if_neg f2]
          rw [e1]
          exact ev_if_neg f2 (ev_now fun k => rfl)
      · have e1 : acceptRes keys need data a = (false, (thrFault keys need).1, (thrFault keys need).2) := by
          unfold acceptRes
          rw [if_neg f1]
        rw [e1]
        exact ev_if_neg f1 (ev_now fun k => rfl)
end Go.Proofs.Ytmpboljmigigfaa.Pure
