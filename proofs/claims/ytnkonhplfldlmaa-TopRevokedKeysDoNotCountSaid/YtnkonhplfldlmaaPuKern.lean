/- Plain lemmas: the closed example of the top laws on signatures holds; the keys of a user are a key list. No condition but what each states. -/
import Derived.Test.YtnkonhplfldlmaaFf21
import Derived.Test.YtnkonhplfldlmaaFf26
import Derived.Test.YtnkonhplfldlmaaFf33
import Derived.Test.YtnkonhplfldlmaaFf53
import Derived.Test.YtnkonhplfldlmaaFn0
import Derived.Test.YtnkonhplfldlmaaPuRingL
import Derived.Test.YtnkonhplfldlmaaPuThr
import Derived.Test.YtnkonhplfldlmaaPuLog
set_option linter.unusedVariables false
namespace Go.Proofs.Ytnkonhplfldlmaa.Pure
open Go Go.RowKit Go.Proofs.Ytnkonhplfldlmaa.Fn Go.Proofs.YtnkonhplfldlmaaW.PrintWords Go.Proofs.YtnkonhplfldlmaaW.PrintLast Go.Proofs.YtnkonhplfldlmaaW.PrintMore
theorem kNe_zero {x : Int × Int} (h : ¬ x.1 = 0) : (!(x.1 == 0) || (!(x.2 == 0))) = true := by simp [h]
theorem kEq_zero {x : Int × Int} (h : x = (0, 0)) : ¬ (!(x.1 == 0) || (!(x.2 == 0))) = true := by rw [h]; decide
theorem kLeaves_loop (l : List Int) (hl : l.length ≤ 64) : ∀ (d i : Nat), i + d = l.length → Ev (fun k => translog_fault.l0 k l (l.length : Int) i) (digFault i (l.drop i)) := by
  intro d
  induction d with
  | zero =>
    intro i hi
    refine Ev.step (f := fun _ => some (0, 0)) (fun k => by simp only [translog_fault.l0]; rw [if_neg (by omega)]) ?_
    rw [List.drop_of_length_le (by omega)]
    exact Ev.now _
  | succ d ih =>
    intro i hi
    have h1 : i < l.length := by omega
    rw [drop_cons h1]
    by_cases hd : isDig l[i] = true
    · refine Ev.step (fun k => by simp only [translog_fault.l0]; rw [if_pos (by omega), if_pos (by omega), if_pos (by omega), rd_get l i h1, sIsDig, Option.bind_some, if_pos hd, w64 (by omega) (by omega)]) ?_
      simp only [digFault, if_pos hd]
      exact ih (i + 1) (by omega)
    · refine Ev.step (f := fun _ => some (3, (i : Int))) (fun k => by simp only [translog_fault.l0]; rw [if_pos (by omega), if_pos (by omega), if_pos (by omega), rd_get l i h1, sIsDig, Option.bind_some, if_neg hd]) ?_
      simp only [digFault, if_neg hd]
      exact Ev.now _
theorem kLeaves_ev (l : List Int) : Ev (fun k => translog_fault.f k l) (msgFault l) := by
  unfold translog_fault.f msgFault
  by_cases h : (l.length : Int) ≤ 64
  · refine ev_if_neg (by omega) ?_
    simp only [if_pos h]
    exact kLeaves_loop l (by omega) l.length 0 (by omega)
  · refine ev_if_pos (by omega) ?_
    simp only [if_neg h]
    exact Ev.now _
theorem kRootX_ev (l : List Int) : Ev (fun k => translog_Root.f k l) (if (msgFault l).1 = 0 then root l else 0, (msgFault l).1, (msgFault l).2) := by
  unfold translog_Root.f
  refine ev_bind (kLeaves_ev l) ?_
  by_cases h : (msgFault l).1 = 0
  · obtain ⟨h1, h2, h3⟩ := msgFault_ok h
    refine ev_if_neg (kEq_zero h3) ?_
    rw [h3]
    exact ev_bind (pRoot_ev l.length l rfl (by omega) h2) (Ev.now _)
  · refine ev_if_pos (kNe_zero h) ?_
    rw [if_neg h]
    exact Ev.now _
theorem ex_keys2 : keyring_Keys.f [⟨1, 5, 3, 1⟩] 3 1 = some ([5], 0, 0) := by rfl
theorem kern_ev : Ev (fun k => changeforgetop_kernSigns.f k) true := by
  unfold changeforgetop_kernSigns.f
  have e1 : signRes 1 [] = (1000041, 0, 0) := by decide
  have e3 : msgRes [258] = ([0, 0, 0, 0, 0, 0, 1, 2], 0, 0) := by decide
  have e4 : msgFault [1, 2] = (0, 0) := by decide
  have e5 : root [1, 2] = 1000072 := by
    rw [root_big (by decide), root_small (by decide), root_small (by decide)]
    decide
  have e6 : signersRes [1] [] [(⟨1, 1000041⟩ : Sg)] = ([1], 0, 0) := by decide
  have hb : isByte [] := fun x hx => by simp at hx
  refine ev_bind (sign_ev 1 [] hb) (ev_bind (pMsg_ev [258]) (ev_bind (kRootX_ev [1, 2]) ?_))
  simp only [ex_keys2, Option.bind_some]
  refine ev_bind (pSigners_ev [1] [] [(⟨1, 1000041⟩ : Sg)] hb) ?_
  rw [e1, e3, e4, e5, e6]
  simp only [if_true, List.length_cons, List.length_nil]
  refine ev_if_pos (by decide) (ev_bind (rInts_ev [5] [5] (by decide)) (ev_if_pos (by decide) (ev_bind (rInts_ev [1] [1] (by decide)) ?_)))
  exact ev_now fun k => rfl
theorem rf_keys : ∀ (r p : List Ke), (rf p r).1 = 0 → ∀ e ∈ r, 1 ≤ e.f1 ∧ e.f1 ≤ 1000000000
  | [], p, _, e, he => absurd he (by simp)
  | c :: r, p, h, e, he => by
    simp only [rf] at h
    by_cases hc : ef p c = 0
    · rw [if_pos hc] at h
      rcases List.mem_cons.1 he with rfl | he
      · unfold ef at hc
        split at hc
        · cases hc
        split at hc
        · cases hc
        omega
      · exact rf_keys r _ h e he
    · rw [if_neg hc] at h
      exact absurd h hc
theorem ring_keys {l : List Ke} (h : (ringFault l).1 = 0) : ∀ e ∈ l, isKey e.f1 = true := by
  intro e he
  unfold ringFault at h
  split at h
  · cases h
  · exact decide_eq_true (rf_keys l [] h e he)
theorem kfAt_of (l : List Int) (hk : ∀ x ∈ l, isKey x = true) (hr : rises l) : ∀ d i, i + d = l.length → kfAt l d i = (0, 0)
  | 0, _, _ => rfl
  | d + 1, i, hd => by
    unfold kfAt
    have hi : i < l.length := by omega
    rw [if_pos (by rw [rd_get l i hi]; exact hk _ (List.getElem_mem _)), if_neg ?_]
    · exact kfAt_of l hk hr d (i + 1) (by omega)
    · rintro ⟨h0, hle⟩
      rw [rd_get l i hi, rd_get l (i - 1) (by omega)] at hle
      have := rises_get hr (i := i - 1) (j := i) (by omega) hi (by omega)
      omega
theorem keysFault_of {l : List Int} (hl : (l.length : Int) ≤ 12) (hk : ∀ x ∈ l, isKey x = true) (hr : rises l) : keysFault l = (0, 0) := by
  unfold keysFault
  rw [if_pos hl]
  exact kfAt_of l hk hr _ 0 (by omega)
theorem userKeys_rises {l : List Ke} (h : (ringFault l).1 = 0) (user time : Int) : rises (userKeys l user time) := by
  have h1 := userKeys_sorted l user time
  have h2 := userKeys_nodup h user time
  exact (h1.and h2).imp fun ⟨a, b⟩ => by omega
theorem userKeys_keys {l : List Ke} (h : (ringFault l).1 = 0) (user time : Int) : ∀ x ∈ userKeys l user time, isKey x = true := by
  intro x hx
  obtain ⟨hk, _⟩ := (mem_userKeys h user time x).1 hx
  obtain ⟨e, he, _, rfl⟩ := kt_mem hk
  exact ring_keys h e he
end Go.Proofs.Ytnkonhplfldlmaa.Pure
