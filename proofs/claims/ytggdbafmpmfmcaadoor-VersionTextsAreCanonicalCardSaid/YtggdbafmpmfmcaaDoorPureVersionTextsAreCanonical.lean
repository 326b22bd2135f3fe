/- The plain law: Parse takes a version's text back to the version, and takes no other text. No condition but the printed statement's own. -/
import Derived.Test.YtggdbafmpmfmcaaDoorFf20
import Derived.Test.YtggdbafmpmfmcaaDoorFf5
import Derived.Test.YtggdbafmpmfmcaaDoorFn0
import Derived.Test.YtggdbafmpmfmcaaDoorFp5
import Derived.Test.YtggdbafmpmfmcaaDoorPuVE
set_option linter.unusedVariables false
set_option linter.unusedSimpArgs false
namespace Go.Proofs.YtggdbafmpmfmcaaDoor.Pure
open Go Go.RowKit Go.Proofs.YtggdbafmpmfmcaaDoor.Fn Go.Proofs.YtggdbafmpmfmcaaDoorW.PrintWords Go.Proofs.YtggdbafmpmfmcaaDoorW.PrintLast Go.Proofs.YtggdbafmpmfmcaaDoorW.PrintMore
theorem zeroV : okV 0 0 0 [] := ⟨by decide, by decide, by decide, by decide, fun s hs => by cases hs⟩
theorem canon_j0 (s : ByteArray) : Ev (fun k => changeforgelaw5_VersionTextsAreCanonical.j0 k s false) true := by
  refine Ev.step (fun k => by
    simp only [changeforgelaw5_VersionTextsAreCanonical.j0]
    rw [if_neg (by decide)]) ?_
  simp only [version_Parse.f]
  rcases verParse_inv s with ⟨a, b, c, p, e, ho, ht⟩ | e
  · simp only [e, Option.bind_some, pFormat_ok ho, if_true]
    rw [show textB a b c p = s from chars_inj ((textB_list a b c p).trans ht.symm), beq_self_eq_true]
    exact Ev.now _
  · rw [e]
    split
    · simp only [Option.bind_some, pFormat_ok zeroV]
      rw [if_neg (by decide)]
      exact Ev.now _
    · simp only [badV, Option.bind_some, pFormat_ok zeroV]
      rw [if_neg (by decide)]
      exact Ev.now _
theorem VersionTextsAreCanonical : changeforgelaw5_VersionTextsAreCanonical.Pure := by
  intro x0 s hw hs
  obtain ⟨a, b, c, p⟩ := x0
  refine Ev.rounds (g := fun k => changeforgelaw5_VersionTextsAreCanonical.f k a b c p s) ?_
  unfold changeforgelaw5_VersionTextsAreCanonical.f
  refine ev_bind orders ?_
  simp only [if_true]
  rcases fault_cases a b c p with ⟨hA, eA⟩ | eA
  · simp only [pFormat_ok hA, version_Parse.f, Option.bind_some, verParse_ok hA (textB_list a b c p), if_true]
    have r := rSame a b c p a b c p (by have := hA.2.2.2.1; omega)
    rw [decide_eq_true ⟨rfl, rfl, rfl, rfl⟩] at r
    refine ev_bind r ?_
    exact canon_j0 s
  · simp only [pFormat_bad eA, version_Parse.f, Option.bind_some, if_neg eA]
    exact canon_j0 s
end Go.Proofs.YtggdbafmpmfmcaaDoor.Pure
