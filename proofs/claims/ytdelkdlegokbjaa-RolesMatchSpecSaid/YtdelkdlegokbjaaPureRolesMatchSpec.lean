/- Chains, responsible roles and authorizations, with all errors, are as specified: the plain law. Its condition: the parameters are of their kinds and sizes. -/
import Derived.Test.YtdelkdlegokbjaaFf3
import Derived.Test.YtdelkdlegokbjaaFf8
import Derived.Test.YtdelkdlegokbjaaFn0
import Derived.Test.YtdelkdlegokbjaaFp3
import Derived.Test.YtdelkdlegokbjaaFs0
import Derived.Test.YtdelkdlegokbjaaPuRoles
set_option linter.unusedVariables false
namespace Go.Proofs.Ytdelkdlegokbjaa.Pure
open Go.RowKit Go.Proofs.Ytdelkdlegokbjaa.Fn Go.Proofs.YtdelkdlegokbjaaW.PrintWords Go.Proofs.YtdelkdlegokbjaaW.PrintLast Go.Proofs.YtdelkdlegokbjaaW.PrintMore
theorem RolesMatchSpec : changeforgelaw5_RolesMatchSpec.Pure := by
  intro l path data sigs hl hp hd hs
  refine ev_total ?_
  have hb := bytes_of_wf hd.2
  have hm : l.length ≤ 9000000000000000000 := by have := hl.1; omega
  have same : ∀ x : Int × Int, (!(x.1 == x.1) || (!(x.2 == x.2))) = false := fun x => by simp
  have same2 : ∀ x : Int × Int, (x.1 == x.1 && (x.2 == x.2)) = true := fun x => by simp
  unfold changeforgelaw5_RolesMatchSpec.f
  simp only [changeforgelaw5_delegates.f, Option.bind_some]
  refine ev_if_pos (by trivial) (ev_bind (pRoles_ev l) (ev_bind (rRoles_ev l hm) ?_))
  rw [same]
  refine Ev.step (fun k => by simp only [changeforgelaw5_RolesMatchSpec.j0]; rw [if_neg (by decide)]) ?_
  refine ev_bind (rPath_ev l path hm) (ev_bind (pChain_ev l path) (ev_bind (pOf_ev l path) (ev_bind (pAuth_ev l path data sigs hb) ?_)))
  unfold chainRes ofRes authRes
  by_cases h : (pathFault l path).1 = 0
  · obtain ⟨e, hr, _, _⟩ := pathFault_ok h
    obtain ⟨_, h1, h2, h3⟩ := rolesFault_ok hr
    have hlt := lastAt_lt (l := l) (path := path) (by omega)
    obtain ⟨_, _, ht⟩ := h3 _ hlt
    have hcl := chain_length l path (by omega)
    have hcp : 0 < (chain l path).length := by unfold chain; rw [List.length_cons]; omega
    have hil : (ints (chain l path)).length = (chain l path).length := by unfold ints; rw [List.length_map]
    have hints : Ev (fun k => changeforgeref5_Ints.f k (ints (chain l path)) (ints (chain l path))) true := ev_val (rInts_ev _ _ (by omega)) (by simp)
    rw [if_pos h, if_pos h, if_pos h, e]
    refine ev_if_neg (by exact Bool.false_ne_true) (ev_if_neg (by exact Bool.false_ne_true) ?_)
    have hw : wrap64 (((ints (chain l path)).length : Int) - 1) = ((ints (chain l path)).length : Int) - 1 := w64 (by omega) (by omega)
    refine Ev.step (fun k => by simp only [changeforgelaw5_RolesMatchSpec.j1]; rw [if_neg (by decide)]) ?_
    refine ev_bind (rChain_ev l path h2 (by omega)) ?_
    rw [hw, chain_last]
    refine ev_if_pos (by omega) (ev_if_pos (by omega) (ev_if_pos (by omega) (ev_if_pos (by omega) ?_)))
    refine ev_bind (rSigFault_ev _ data sigs) ?_
    unfold acceptRes
    rw [if_pos ht]
    by_cases hf : (signersFault (rl l (lastAt l path)).f2 data sigs).1 = 0
    · rw [if_pos hf, (signersFault_ok hf).1]
      refine ev_if_pos rfl (ev_bind (rSigners_ev _ data sigs hb hf) (ev_bind hints (ev_if_pos (by trivial) (ev_if_pos rfl (ev_if_pos rfl (ev_now fun k => ?_))))))
      simp
    · rw [if_neg hf]
      refine ev_if_neg hf (ev_bind hints (ev_if_pos (by trivial) (ev_if_pos rfl (ev_if_pos (by simp) (ev_now fun k => by simp)))))
  · rw [if_neg h, if_neg h, if_neg h]
    have e : ((pathFault l path).1 != 0) = true := by simpa using h
    refine ev_if_neg (by rw [same]; exact Bool.false_ne_true) (ev_if_neg (by rw [same]; exact Bool.false_ne_true) ?_)
    dsimp only
    rw [e]
    refine Ev.step (fun k => by simp only [changeforgelaw5_RolesMatchSpec.j1]; rw [if_pos trivial]) ?_
    exact ev_if_pos (same2 _) (ev_if_pos (same2 _) (ev_if_pos (same2 _) (ev_if_pos (by simp) (ev_if_pos (by trivial) (ev_now fun k => rfl)))))
end Go.Proofs.Ytdelkdlegokbjaa.Pure
