/- The plain law: a release comes last among the versions of its numbers, and ahead of those with a greater patch number. No condition but the printed statement's own. -/
import Derived.Test.YtggdbafmpmfmcaaDoorFf8
import Derived.Test.YtggdbafmpmfmcaaDoorFn0
import Derived.Test.YtggdbafmpmfmcaaDoorFp8
import Derived.Test.YtggdbafmpmfmcaaDoorFs0
import Derived.Test.YtggdbafmpmfmcaaDoorPuVC
set_option linter.unusedVariables false
set_option linter.unusedSimpArgs false
namespace Go.Proofs.YtggdbafmpmfmcaaDoor.Pure
open Go Go.RowKit Go.Proofs.YtggdbafmpmfmcaaDoor.Fn Go.Proofs.YtggdbafmpmfmcaaDoorW.PrintWords Go.Proofs.YtggdbafmpmfmcaaDoorW.PrintLast Go.Proofs.YtggdbafmpmfmcaaDoorW.PrintMore
theorem VersionReleasesComeLast : changeforgelaw5_VersionReleasesComeLast.Pure := by
  intro x0 l1 hw hl
  obtain ⟨a, b, c, p⟩ := x0
  have jt : ∀ r1 r2 r3 r4 s1 s2 s3 t1 t2 t3, Ev (fun k => changeforgelaw5_VersionReleasesComeLast.j0 k true r1 r2 r3 r4 s1 s2 s3 l1 t1 t2 t3 l1) true := fun _ _ _ _ _ _ _ _ _ _ => Ev.step (f := fun _ => some true) (fun k => by simp only [changeforgelaw5_VersionReleasesComeLast.j0]; rfl) (Ev.now _)
  refine Ev.rounds (g := fun k => changeforgelaw5_VersionReleasesComeLast.f k a b c p l1) ?_
  unfold changeforgelaw5_VersionReleasesComeLast.f changeforgelaw5_ver.f
  refine ev_bind orders ?_
  simp only [if_true, Option.bind_some]
  refine ev_bind (rFault a b c l1) ?_
  rcases fault_cases a b c l1 with ⟨ho, he⟩ | he
  · simp only [he, if_true]
    by_cases h0 : l1.length = 0
    · simp only [if_pos (show (l1.length : Int) = 0 from by omega)]
      exact jt _ _ _ _ _ _ _ _ _ _
    · simp only [if_neg (show ¬ (l1.length : Int) = 0 from by omega)]
      by_cases hc : c = 1000000000
      · rw [hc]
        exact jt _ _ _ _ _ _ _ _ _ _
      · rw [beq_eq_false_iff_ne.2 hc]
        have hr : okV a b c [] := ⟨ho.1, ho.2.1, ho.2.2.1, by simp, fun s hs => by cases hs⟩
        have hn : okV a b (c + 1) l1 := ⟨ho.1, ho.2.1, by have := ho.2.2.1; omega, ho.2.2.2⟩
        have e1 : verCmp a b c l1 a b c [] = -1 := by
          unfold verCmp
          simp [h0]
        have e2 : verCmp a b c [] a b (c + 1) l1 = -1 := by
          unfold verCmp
          rw [if_neg (by simp), if_neg (by simp), if_pos (by omega)]
          exact icmp_lt.2 (by omega)
        have e3 : verCmp a b c l1 a b (c + 1) l1 = -1 := by
          unfold verCmp
          rw [if_neg (by simp), if_neg (by simp), if_pos (by omega)]
          exact icmp_lt.2 (by omega)
        have c1 := lCompare ho hr
        have c2 := lCompare hr hn
        have c3 := lCompare ho hn
        rw [e1] at c1
        rw [e2] at c2
        rw [e3] at c3
        refine Ev.step (fun k => by
          simp only [changeforgelaw5_VersionReleasesComeLast.j0]
          rw [if_neg (by decide), w64 (by have := ho.2.2.1; omega) (by have := ho.2.2.1; omega)]) ?_
        refine ev_bind c1 ?_
        simp only [if_true]
        refine ev_bind c2 ?_
        simp only [if_true]
        refine ev_bind c3 ?_
        exact Ev.now _
  · simp only [if_neg he]
    exact jt _ _ _ _ _ _ _ _ _ _
end Go.Proofs.YtggdbafmpmfmcaaDoor.Pure
