/- A change is authorized only by enough different keys of the responsible role: the plain law. Its condition: the parameters are of their kinds and sizes. -/
import Derived.Test.YtdelkdlegokbjaaFf7
import Derived.Test.YtdelkdlegokbjaaFf8
import Derived.Test.YtdelkdlegokbjaaFn0
import Derived.Test.YtdelkdlegokbjaaFp7
import Derived.Test.YtdelkdlegokbjaaPuRoles
set_option linter.unusedVariables false
namespace Go.Proofs.Ytdelkdlegokbjaa.Pure
open Go.RowKit Go.Proofs.Ytdelkdlegokbjaa.Fn Go.Proofs.YtdelkdlegokbjaaW.PrintWords Go.Proofs.YtdelkdlegokbjaaW.PrintLast Go.Proofs.YtdelkdlegokbjaaW.PrintMore
theorem RolesNeedTheirKeys : changeforgelaw5_RolesNeedTheirKeys.Pure := by
  intro l path data sigs hl hp hd hs
  refine ev_total ?_
  have hb := bytes_of_wf hd.2
  unfold changeforgelaw5_RolesNeedTheirKeys.f
  refine ev_bind (pAuth_ev l path data sigs hb) (ev_bind (pOf_ev l path) ?_)
  simp only [changeforgelaw5_delegates.f, Option.bind_some]
  refine ev_if_pos (by trivial) ?_
  have out : ∀ x : Int, Ev (fun k => changeforgelaw5_RolesNeedTheirKeys.j0 k l data sigs false x true) true := fun x =>
    Ev.step (f := fun _ => some true) (fun k => by simp only [changeforgelaw5_RolesNeedTheirKeys.j0, changeforgelaw5_delegates.f, Option.bind_some]; rfl) (Ev.now _)
  unfold authRes ofRes
  by_cases h : (pathFault l path).1 = 0
  · obtain ⟨e, hr, _, _⟩ := pathFault_ok h
    obtain ⟨_, h1, h2, h3⟩ := rolesFault_ok hr
    have hlt := lastAt_lt (l := l) (path := path) (by omega)
    obtain ⟨_, _, ht⟩ := h3 _ hlt
    rw [if_pos h, if_pos h]
    unfold acceptRes
    rw [if_pos ht]
    by_cases hf : (signersFault (rl l (lastAt l path)).f2 data sigs).1 = 0
    · rw [if_pos hf]
      refine ev_if_pos (by trivial) ?_
      refine Ev.step (fun k => by simp only [changeforgelaw5_RolesNeedTheirKeys.j0]; rw [if_neg (by decide), lIn, Option.bind_some, w64 (n := (l.length : Int) - 1) (by omega) (by omega)]) ?_
      refine ev_if_pos (by rw [decide_eq_true_eq]; omega) (ev_if_pos (by omega) (ev_if_pos (by omega) ?_))
      refine ev_bind (pSigners_ev _ data sigs hb) ?_
      unfold signersRes
      rw [if_pos hf]
      refine ev_if_pos (by trivial) (ev_now fun k => ?_)
      simp
    · rw [if_neg hf]
      exact ev_if_neg hf (out _)
  · rw [if_neg h, if_neg h]
    exact ev_if_neg h (out _)
end Go.Proofs.Ytdelkdlegokbjaa.Pure
