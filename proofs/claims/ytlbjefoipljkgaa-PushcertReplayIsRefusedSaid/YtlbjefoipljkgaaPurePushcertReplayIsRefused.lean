/- A certificate that was accepted is refused afterwards, whatever other nonces are used meanwhile: the plain law. Its condition: the parameters are of their kinds and sizes. -/
import Derived.Test.YtlbjefoipljkgaaFf6
import Derived.Test.YtlbjefoipljkgaaFn0
import Derived.Test.YtlbjefoipljkgaaFp6
import Derived.Test.YtlbjefoipljkgaaPuPush
set_option linter.unusedVariables false
namespace Go.Proofs.Ytlbjefoipljkgaa.Pure
open Go.RowKit Go.Proofs.Ytlbjefoipljkgaa.Fn Go.Proofs.YtlbjefoipljkgaaW.PrintWords Go.Proofs.YtlbjefoipljkgaaW.PrintLast Go.Proofs.YtlbjefoipljkgaaW.PrintMore
theorem PushcertReplayIsRefused : changeforgelaw5_PushcertReplayIsRefused.Pure := by
  intro s now win l c x _ _ _ _ _ _
  refine ev_total ?_
  unfold changeforgelaw5_PushcertReplayIsRefused.f
  refine ev_bind pushes_ev (ev_if_pos rfl (ev_bind (pCheck_ev s now win l c.f0 c.f1 c.f2 c.f3 c.f4 c.f5 c.f6) ?_))
  unfold checkRes
  by_cases h : (pushFault s now win l c.f0 c.f1 c.f2 c.f3 c.f4 c.f5 c.f6).1 = 0
  · obtain ⟨e, g1, g2, g3, g4, g5, g6, g7, g8, g9, g10, g11⟩ := push_ok h
    obtain ⟨_, u2, u3, u4⟩ := used_ok g6
    rw [if_pos h]
    refine ev_if_pos rfl ?_
    have again : ∀ l2 : List Int, l2.length ≤ 40 → rises l2 → (∀ y ∈ l2, isDig y = true) → c.f0 ∈ l2 → checkRes s now win l2 c.f0 c.f1 c.f2 c.f3 c.f4 c.f5 c.f6 = ([], 7, 0) := by
      intro l2 h1 h2 h3 h4
      have hu := used_of h1 h2 h3
      have hp : pushFault s now win l2 c.f0 c.f1 c.f2 c.f3 c.f4 c.f5 c.f6 = (7, 0) := by
        rw [push_of g1 g2 g3 g4 g5 (by rw [hu]), g7]
        unfold chk
        rw [if_neg (by decide), if_pos g8, if_pos g9, if_pos h4]
      unfold checkRes
      rw [hp, if_neg (by decide)]
    have hd0 : isDig c.f0 = true := ((certOk_iff _ _ _ _ _).1 (certFault_ok g1).2.1).1
    have m0 : c.f0 ∈ ins l c.f0 := (mem_ins _ _ _).2 (Or.inl rfl)
    have r0 := rises_ins u3 g10
    have d0 : ∀ y ∈ ins l c.f0, isDig y = true := by
      intro y hy
      rcases (mem_ins _ _ _).1 hy with rfl | hy
      · exact hd0
      · exact u4 y hy
    have l0 := ins_len l c.f0
    refine ev_bind (ev_val (pCheck_ev s now win (ins l c.f0) c.f0 c.f1 c.f2 c.f3 c.f4 c.f5 c.f6) (again _ (by omega) r0 d0 m0)) ?_
    simp only [rIsDig, Option.bind_some]
    have jt : Ev (fun k => changeforgelaw5_PushcertReplayIsRefused.j0 k s now win x (ins l c.f0) true c.f0 c.f1 c.f2 c.f3 c.f4 c.f5 c.f6 7 0) true :=
      Ev.step (f := fun _ => some true) (fun k => by simp only [changeforgelaw5_PushcertReplayIsRefused.j0]; rw [if_pos trivial]; simp [lFault]) (Ev.now _)
    by_cases hx : isDig x = true
    · refine ev_if_pos hx (ev_bind (rHas_ev (ins l c.f0) x (by omega)) ?_)
      by_cases hm : x ∈ ins l c.f0
      · exact ev_if_pos (decide_eq_true hm) jt
      · refine ev_if_neg (by rw [decide_eq_true_eq]; exact hm) ?_
        by_cases hl : (ins l c.f0).length > 39
        · rw [decide_eq_true (show ((ins l c.f0).length : Int) > 39 by omega)]
          exact jt
        · rw [decide_eq_false (show ¬ ((ins l c.f0).length : Int) > 39 by omega)]
          refine Ev.step (fun k => by simp only [changeforgelaw5_PushcertReplayIsRefused.j0]; rw [if_neg (by decide)]) ?_
          refine ev_bind (rIns_ev (ins l c.f0) x (by omega)) ?_
          have l1 := ins_len (ins l c.f0) x
          refine ev_bind (ev_val (pCheck_ev s now win (ins (ins l c.f0) x) c.f0 c.f1 c.f2 c.f3 c.f4 c.f5 c.f6) (again _ (by omega) (rises_ins r0 hm) (fun y hy => ?_) ((mem_ins _ _ _).2 (Or.inr m0)))) ?_
          · rcases (mem_ins _ _ _).1 hy with rfl | hy
            · exact hx
            · exact d0 y hy
          · simp only [lFault, Option.bind_some]
            exact ev_if_pos (by decide) (ev_now fun k => by decide)
    · exact ev_if_neg hx jt
  · rw [if_neg h]
    exact ev_if_neg h (ev_now fun k => by simp)
end Go.Proofs.Ytlbjefoipljkgaa.Pure
