/- The plain law: faults, order and successor of versions are the reference's. No condition but the printed statement's own. -/
import Derived.Test.YtggdbafmpmfmcaaDoorFf10
import Derived.Test.YtggdbafmpmfmcaaDoorFf11
import Derived.Test.YtggdbafmpmfmcaaDoorFf13
import Derived.Test.YtggdbafmpmfmcaaDoorFf16
import Derived.Test.YtggdbafmpmfmcaaDoorFf3
import Derived.Test.YtggdbafmpmfmcaaDoorFn0
import Derived.Test.YtggdbafmpmfmcaaDoorFp3
import Derived.Test.YtggdbafmpmfmcaaDoorFs0
import Derived.Test.YtggdbafmpmfmcaaDoorPuVD
set_option linter.unusedVariables false
set_option linter.unusedSimpArgs false
namespace Go.Proofs.YtggdbafmpmfmcaaDoor.Pure
open Go Go.RowKit Go.Proofs.YtggdbafmpmfmcaaDoor.Fn Go.Proofs.YtggdbafmpmfmcaaDoorW.PrintWords Go.Proofs.YtggdbafmpmfmcaaDoorW.PrintLast Go.Proofs.YtggdbafmpmfmcaaDoorW.PrintMore
theorem spec_j4 {a b c : Int} {p : List ByteArray} (e1 e2 : Int) (h : version_Next.f a b c p = some (0, 0, 0, [], e1, e2)) (h1 : e1 ≠ 0) :
    Ev (fun k => changeforgelaw5_VersionMatchesSpec.j4 k a b c p e1 e2) true := by
  refine Ev.step (fun k => by
    simp only [changeforgelaw5_VersionMatchesSpec.j4]
    rw [h]) ?_
  simp only [Option.bind_some, beq_self_eq_true, Bool.and_self, if_true, if_neg h1]
  have s := rSame 0 0 0 [] 0 0 0 [] (by decide)
  rw [decide_eq_true ⟨rfl, rfl, rfl, rfl⟩] at s
  refine ev_bind s ?_
  exact Ev.now _
theorem spec_j2 (a b c : Int) (p : List ByteArray) : Ev (fun k => changeforgelaw5_VersionMatchesSpec.j2 k false a b c p (verFault a b c p).1 (verFault a b c p).2) true := by
  rcases fault_cases a b c p with ⟨hA, eA⟩ | eA
  · rw [eA]
    refine Ev.step (f := fun k => (changeforgeref5_VersionFault.f k a b (nextV c p).1 (nextV c p).2).bind fun bt127 => (changeforgelaw5_VersionMatchesSpec.j3 k (bt127.1 != 0) a b c p 0 0)) (fun k => by
      simp only [changeforgelaw5_VersionMatchesSpec.j2]
      rw [if_neg (by decide), if_pos trivial, rNext hA]
      rfl) ?_
    refine ev_bind (rFault a b (nextV c p).1 (nextV c p).2) ?_
    by_cases hn : nxtOk c p
    · have hN := next_ok hA hn
      rw [of_ok hN]
      refine Ev.step (fun k => by
        simp only [changeforgelaw5_VersionMatchesSpec.j3]
        rw [if_neg (by decide)]) ?_
      refine Ev.step (fun k => by
        simp only [changeforgelaw5_VersionMatchesSpec.j4]
        rw [pNext_ok hA hn]) ?_
      simp only [Option.bind_some, beq_self_eq_true, Bool.and_self, if_true, rNext hA]
      have s := rSame a b (nextV c p).1 (nextV c p).2 a b (nextV c p).1 (nextV c p).2 (by have := hN.2.2.2.1; omega)
      rw [decide_eq_true ⟨rfl, rfl, rfl, rfl⟩] at s
      refine ev_bind s ?_
      exact Ev.now _
    · rw [show ((verFault a b (nextV c p).1 (nextV c p).2).1 != 0) = true from bne_iff_ne.2 (next_bad hn)]
      refine Ev.step (fun k => by
        simp only [changeforgelaw5_VersionMatchesSpec.j3, changeforgelaw5_fault.f, Option.bind_some]
        rw [if_pos trivial]) ?_
      exact spec_j4 10 (-1) (pNext_end hA hn) (by decide)
  · refine Ev.step (fun k => by
      simp only [changeforgelaw5_VersionMatchesSpec.j2]
      rw [if_neg (by decide), if_neg eA]) ?_
    refine Ev.step (fun k => by
      simp only [changeforgelaw5_VersionMatchesSpec.j3]
      rw [if_neg (by decide)]) ?_
    exact spec_j4 _ _ (pNext_bad eA) eA
theorem VersionMatchesSpec : changeforgelaw5_VersionMatchesSpec.Pure := by
  intro x0 x1 hw0 hw1
  obtain ⟨a1, a2, a3, p⟩ := x0
  obtain ⟨b1, b2, b3, q⟩ := x1
  refine Ev.rounds (g := fun k => changeforgelaw5_VersionMatchesSpec.f k a1 a2 a3 p b1 b2 b3 q) ?_
  unfold changeforgelaw5_VersionMatchesSpec.f
  refine ev_bind orders ?_
  simp only [if_true]
  refine ev_bind (rFault a1 a2 a3 p) ?_
  simp only [version_Validate.f, Option.bind_some, beq_self_eq_true, Bool.not_true, Bool.or_self, Bool.false_eq_true, if_false]
  have tail := spec_j2 a1 a2 a3 p
  rcases fault_cases a1 a2 a3 p with ⟨hA, eA⟩ | eA
  · rw [eA] at tail
    simp only [eA, if_true]
    refine ev_bind (rFault b1 b2 b3 q) ?_
    rcases fault_cases b1 b2 b3 q with ⟨hB, eB⟩ | eB
    · rw [eB]
      refine Ev.step (fun k => by
        simp only [changeforgelaw5_VersionMatchesSpec.j0]
        rw [if_neg (by decide)]) ?_
      refine Ev.step (f := fun k => (version_Compare.f k a1 a2 a3 p b1 b2 b3 q).bind _) (fun k => by
        simp only [changeforgelaw5_VersionMatchesSpec.j1]
        rfl) ?_
      refine ev_bind (pCompare_ok a1 a2 a3 p b1 b2 b3 q eA eB) ?_
      simp only [beq_self_eq_true, Bool.not_true, Bool.or_self, Bool.false_eq_true, if_false, if_true]
      refine ev_bind (rOrder hA hB) ?_
      rw [show (verCmp a1 a2 a3 p b1 b2 b3 q != verCmp a1 a2 a3 p b1 b2 b3 q) = false from bne_self_eq_false _]
      exact tail
    · rw [show ((verFault b1 b2 b3 q).1 != 0) = true from bne_iff_ne.2 eB]
      refine Ev.step (f := fun k => (changeforgeref5_VersionFault.f k b1 b2 b3 q).bind fun bt112 => (changeforgelaw5_VersionMatchesSpec.j1 k a1 a2 a3 p b1 b2 b3 q 0 0 bt112.1 (-2))) (fun k => by
        simp only [changeforgelaw5_VersionMatchesSpec.j0]
        rw [if_pos trivial]
        rfl) ?_
      refine ev_bind (rFault b1 b2 b3 q) ?_
      refine Ev.step (fun k => by
        simp only [changeforgelaw5_VersionMatchesSpec.j1]
        rw [pCompare_b k a1 a2 a3 p b1 b2 b3 q eA (fun h => eB (by rw [h]))]) ?_
      simp only [Option.bind_some, beq_self_eq_true, Bool.not_true, Bool.or_self, Bool.false_eq_true, if_false, if_neg eB, if_true]
      exact tail
  · simp only [if_neg eA]
    refine Ev.step (fun k => by
      simp only [changeforgelaw5_VersionMatchesSpec.j0]
      rw [if_neg (by decide)]) ?_
    refine Ev.step (fun k => by
      simp only [changeforgelaw5_VersionMatchesSpec.j1]
      rw [pCompare_a k a1 a2 a3 p b1 b2 b3 q (fun h => eA (by rw [h]))]) ?_
    simp only [Option.bind_some, beq_self_eq_true, Bool.not_true, Bool.or_self, Bool.false_eq_true, if_false, if_neg eA, if_true]
    exact tail
end Go.Proofs.YtggdbafmpmfmcaaDoor.Pure
