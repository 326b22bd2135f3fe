/- The plain law: texts of versions and their reading are the reference's. No condition but the printed statement's own. -/
import Derived.Test.YtggdbafmpmfmcaaDoorFf20
import Derived.Test.YtggdbafmpmfmcaaDoorFf4
import Derived.Test.YtggdbafmpmfmcaaDoorFn0
import Derived.Test.YtggdbafmpmfmcaaDoorFp4
import Derived.Test.YtggdbafmpmfmcaaDoorFs0
import Derived.Test.YtggdbafmpmfmcaaDoorPuVG
set_option linter.unusedVariables false
set_option linter.unusedSimpArgs false
namespace Go.Proofs.YtggdbafmpmfmcaaDoor.Pure
open Go Go.RowKit Go.Proofs.YtggdbafmpmfmcaaDoor.Fn Go.Proofs.YtggdbafmpmfmcaaDoorW.PrintWords Go.Proofs.YtggdbafmpmfmcaaDoorW.PrintLast Go.Proofs.YtggdbafmpmfmcaaDoorW.PrintMore
theorem text_j0 (s : ByteArray) : Ev (fun k => changeforgelaw5_VersionTextMatchesSpec.j0 k s false) true := by
  have s0 := rSame 0 0 0 [] 0 0 0 [] (by decide)
  rw [decide_eq_true ⟨rfl, rfl, rfl, rfl⟩] at s0
  refine Ev.step (fun k => by
    simp only [changeforgelaw5_VersionTextMatchesSpec.j0]
    rw [if_neg (by decide)]) ?_
  simp only [version_Parse.f, changeforgelaw5_fault.f, Option.bind_some]
  by_cases hz : 80 < s.size
  · have e : verParse s = (0, 0, 0, [], 2, -1) := by unfold verParse; rw [if_pos hz]
    simp only [e, if_pos (show (s.size : Int) > 80 from by omega), beq_self_eq_true, Bool.and_self, if_true]
    refine ev_bind s0 ?_
    exact Ev.now _
  · simp only [if_neg (show ¬ (s.size : Int) > 80 from by omega)]
    obtain ⟨r, hr, hcase⟩ := rVersionOf s (by omega)
    refine ev_bind hr ?_
    rcases hcase with ⟨a, b, c, p, rfl, ho, ht⟩ | ⟨rfl, hno⟩
    · simp only [verParse_ok ho ht, if_true]
      have r := rSame a b c p a b c p (by have := ho.2.2.2.1; omega)
      rw [decide_eq_true ⟨rfl, rfl, rfl, rfl⟩] at r
      refine ev_bind r ?_
      exact Ev.now _
    · rcases verParse_inv s with ⟨a, b, c, p, e, ho, ht⟩ | e
      · exact absurd ⟨a, b, c, p, ho, ht⟩ hno
      · rw [if_neg hz] at e
        simp only [e, badV, Bool.false_eq_true, if_false, beq_self_eq_true, Bool.and_self, if_true]
        refine ev_bind s0 ?_
        exact Ev.now _
theorem VersionTextMatchesSpec : changeforgelaw5_VersionTextMatchesSpec.Pure := by
  intro x0 s hw hs
  obtain ⟨a, b, c, p⟩ := x0
  refine Ev.rounds (g := fun k => changeforgelaw5_VersionTextMatchesSpec.f k a b c p s) ?_
  unfold changeforgelaw5_VersionTextMatchesSpec.f
  refine ev_bind orders ?_
  simp only [if_true]
  refine ev_bind (rFault a b c p) ?_
  rcases fault_cases a b c p with ⟨hA, eA⟩ | eA
  · simp only [eA, pFormat_ok hA, Option.bind_some, beq_self_eq_true, Bool.not_true, Bool.or_self, Bool.false_eq_true, if_false, if_true]
    refine ev_bind (rText hA) ?_
    rw [show ((textB a b c p).toList != (textB a b c p).toList) = false from bne_self_eq_false _]
    exact text_j0 s
  · simp only [pFormat_bad eA, Option.bind_some, beq_self_eq_true, Bool.not_true, Bool.or_self, Bool.false_eq_true, if_false, if_neg eA, if_pos (show (⟨#[]⟩ : ByteArray).toList = [] from by rw [chars_eq])]
    exact text_j0 s
end Go.Proofs.YtggdbafmpmfmcaaDoor.Pure
