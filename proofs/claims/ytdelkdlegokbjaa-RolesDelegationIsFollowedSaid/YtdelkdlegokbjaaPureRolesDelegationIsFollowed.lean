/- No later role that could continue a chain is left out: the plain law. Its condition: the parameters are of their kinds and sizes. -/
import Derived.Test.YtdelkdlegokbjaaFf5
import Derived.Test.YtdelkdlegokbjaaFf8
import Derived.Test.YtdelkdlegokbjaaFn0
import Derived.Test.YtdelkdlegokbjaaFp5
import Derived.Test.YtdelkdlegokbjaaPuRoles
set_option linter.unusedVariables false
namespace Go.Proofs.Ytdelkdlegokbjaa.Pure
open Go.RowKit Go.Proofs.Ytdelkdlegokbjaa.Fn Go.Proofs.YtdelkdlegokbjaaW.PrintWords Go.Proofs.YtdelkdlegokbjaaW.PrintLast Go.Proofs.YtdelkdlegokbjaaW.PrintMore
theorem followed_loop (l : List Rl) (path : ByteArray) (hl : l.length ≤ 12) : ∀ (d i : Nat), i + d = l.length → lastAt l path < i → Ev (fun k => changeforgelaw5_RolesDelegationIsFollowed.l0 k l path (lastAt l path) i) true := by
  intro d
  induction d with
  | zero =>
    intro i hi _
    exact Ev.step (f := fun _ => some true) (fun k => by simp only [changeforgelaw5_RolesDelegationIsFollowed.l0]; rw [if_neg (by omega)]) (Ev.now _)
  | succ d ih =>
    intro i hi hlt
    refine Ev.step (fun k => by simp only [changeforgelaw5_RolesDelegationIsFollowed.l0]; rw [if_pos (by omega), if_pos (by omega), rStarts, Option.bind_some, succ_w (i := i) (by omega)]) ?_
    have hf := chain_free (l := l) (path := path) hlt (by omega)
    by_cases h0 : (rl l i).f0 = (lastAt l path : Int)
    · exact ev_if_pos h0 (ev_if_neg (fun h => hf ⟨h0, h⟩) (ih (i + 1) (by omega) (by omega)))
    · exact ev_if_neg h0 (ih (i + 1) (by omega) (by omega))
theorem RolesDelegationIsFollowed : changeforgelaw5_RolesDelegationIsFollowed.Pure := by
  intro l path hl hp
  refine ev_total ?_
  unfold changeforgelaw5_RolesDelegationIsFollowed.f
  refine ev_bind (pOf_ev l path) ?_
  simp only [changeforgelaw5_delegates.f, Option.bind_some]
  refine ev_if_pos (by trivial) ?_
  unfold ofRes
  by_cases h : (pathFault l path).1 = 0
  · obtain ⟨e, hr, _, _⟩ := pathFault_ok h
    obtain ⟨_, h1, h2, _⟩ := rolesFault_ok hr
    have hlt := lastAt_lt (l := l) (path := path) (by omega)
    rw [if_pos h]
    refine Ev.step (fun k => by simp only [changeforgelaw5_RolesDelegationIsFollowed.j0]; rw [if_neg (by decide), lIn, Option.bind_some, w64 (n := (l.length : Int) - 1) (by omega) (by omega)]) ?_
    refine ev_if_pos (by rw [decide_eq_true_eq]; omega) ?_
    rw [succ_w (by omega)]
    exact followed_loop l path h2 (l.length - (lastAt l path + 1)) _ (by omega) (by omega)
  · rw [if_neg h]
    have e : ((pathFault l path).1 != 0) = true := by simpa using h
    dsimp only
    rw [e]
    exact Ev.step (f := fun _ => some true) (fun k => by simp only [changeforgelaw5_RolesDelegationIsFollowed.j0, changeforgelaw5_delegates.f, Option.bind_some]; rfl) (Ev.now _)
end Go.Proofs.Ytdelkdlegokbjaa.Pure
