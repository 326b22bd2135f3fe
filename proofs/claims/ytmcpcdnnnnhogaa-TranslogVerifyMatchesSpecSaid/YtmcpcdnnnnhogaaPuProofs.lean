/- Plain lemmas: the program's exported proofs and roots, the reference's proofs from the root downwards. No condition but what each states. -/
import Derived.Test.YtmcpcdnnnnhogaaFf10
import Derived.Test.YtmcpcdnnnnhogaaFf11
import Derived.Test.YtmcpcdnnnnhogaaFf16
import Derived.Test.YtmcpcdnnnnhogaaFf18
import Derived.Test.YtmcpcdnnnnhogaaFf19
import Derived.Test.YtmcpcdnnnnhogaaFf20
import Derived.Test.YtmcpcdnnnnhogaaFf31
import Derived.Test.YtmcpcdnnnnhogaaFf32
import Derived.Test.YtmcpcdnnnnhogaaFf37
import Derived.Test.YtmcpcdnnnnhogaaFn0
import Derived.Test.YtmcpcdnnnnhogaaFs0
import Derived.Test.YtmcpcdnnnnhogaaPuStack
set_option linter.unusedVariables false
namespace Go.Proofs.Ytmcpcdnnnnhogaa.Pure
open Go.RowKit Go.Proofs.Ytmcpcdnnnnhogaa.Fn Go.Proofs.YtmcpcdnnnnhogaaW.PrintWords Go.Proofs.YtmcpcdnnnnhogaaW.PrintLast Go.Proofs.YtmcpcdnnnnhogaaW.PrintMore
theorem rev_loop (l : List Int) (hl : l.length ≤ 1000) : ∀ (j : Nat) (acc : List Int), j ≤ l.length → acc.length + j ≤ 1000 → Ev (fun k => changeforgeref5_reversed.l0 k l acc ((j : Int) - 1)) (acc ++ (l.take j).reverse) := by
  intro j
  induction j with
  | zero =>
    intro acc _ _
    refine Ev.step (f := fun _ => some acc) (fun k => by simp only [changeforgeref5_reversed.l0]; rw [if_neg (by omega)]) ?_
    simp only [List.take_zero, List.reverse_nil, List.append_nil]
    exact Ev.now _
  | succ j ih =>
    intro acc hj ha
    have hjl : j < l.length := by omega
    refine Ev.step (fun k => by simp only [changeforgeref5_reversed.l0]; rw [show (((j + 1 : Nat) : Int) - 1) = (j : Int) from by omega, if_pos (by omega), if_pos (by omega), if_pos (by omega), if_pos (by omega), rd_get l j hjl, w64 (by omega) (by omega)]) ?_
    have := ih (acc ++ [l[j]]) (by omega) (by rw [List.length_append, List.length_singleton]; omega)
    rw [List.take_succ_eq_append_getElem hjl, List.reverse_append, show acc ++ ([l[j]].reverse ++ (l.take j).reverse) = acc ++ [l[j]] ++ (l.take j).reverse from by simp]
    exact this
theorem rev_ev (l : List Int) (hl : l.length ≤ 1000) : Ev (fun k => changeforgeref5_reversed.f k l) l.reverse := by
  unfold changeforgeref5_reversed.f
  rw [w64 (by omega) (by omega)]
  have := rev_loop l hl l.length [] (Nat.le_refl _) (by simpa using hl)
  rw [List.take_of_length_le (Nat.le_refl _), List.nil_append] at this
  exact this
theorem rProof_loop : ∀ (n : Nat) (l : List Int) (i : Nat) (down : List Int), l.length = n → n ≤ 64 → i < n → allDig l → down.length + n ≤ 200 → Ev (fun k => changeforgeref5_LogProof.l0 k l (i : Int) down) (prv l i ++ down.reverse) := by
  intro n
  induction n using Nat.strongRecOn with
  | _ n ih =>
    intro l i down hl hn hin hd hdl
    by_cases h1 : n = 1
    · rw [prv_small (by omega), List.nil_append]
      refine Ev.step (fun k => by simp only [changeforgeref5_LogProof.l0]; rw [if_neg (by omega)]) ?_
      exact ev_bind (rev_ev down (by omega)) (Ev.now _)
    have hlt := sp_lt (n := n) (by omega)
    have hp := sp_pos n
    refine Ev.step (fun k => by simp only [changeforgeref5_LogProof.l0]; rw [if_pos (by omega), hl]) ?_
    refine ev_bind (rPower_ev (by omega) hn) ?_
    by_cases hi : i < sp n
    · rw [prv_left (by omega) (by rw [hl]; exact hi), hl]
      refine ev_if_pos (by omega) (ev_if_pos (by omega) (ev_if_pos (by omega) ?_))
      simp only [Int.toNat_natCast]
      refine ev_bind (rRoot_ev (by rw [List.length_drop]; omega) (drop_dig hd _)) (ev_if_pos (by omega) ?_)
      have := ih (sp n) hlt (l.take (sp n)) i (down ++ [root (l.drop (sp n))]) (by rw [List.length_take]; omega) (by omega) hi (take_dig hd _) (by rw [List.length_append, List.length_singleton]; omega)
      rw [List.reverse_append, List.reverse_singleton] at this
      rw [List.append_assoc]
      exact this
    · rw [prv_right (by omega) (by rw [hl]; exact hi), hl]
      refine ev_if_neg (by omega) (ev_if_pos (by omega) (ev_if_pos (by omega) ?_))
      simp only [Int.toNat_natCast]
      refine ev_bind (rRoot_ev (by rw [List.length_take]; omega) (take_dig hd _)) (ev_if_pos (by omega) ?_)
      have := ih (n - sp n) (by omega) (l.drop (sp n)) (i - sp n) (down ++ [root (l.take (sp n))]) (by rw [List.length_drop]; omega) (by omega) (by omega) (drop_dig hd _) (by rw [List.length_append, List.length_singleton]; omega)
      rw [List.reverse_append, List.reverse_singleton] at this
      rw [List.append_assoc, w64 (by omega) (by omega), show (i : Int) - (sp n : Int) = ((i - sp n : Nat) : Int) from by omega]
      exact this
theorem rProof_ev {l : List Int} {i : Nat} (hl : l.length ≤ 64) (hi : i < l.length) (hd : allDig l) : Ev (fun k => changeforgeref5_LogProof.f k l (i : Int)) (prv l i) := by
  unfold changeforgeref5_LogProof.f
  have := rProof_loop l.length l i [] rfl hl hi hd (by simp; omega)
  rw [List.reverse_nil, List.append_nil] at this
  exact this
/-! consistency proofs -/
def subp (l : List Int) (m : Nat) (w : Bool) : List Int :=
  if h : l.length < 2 ∨ m = l.length then (if w then [] else [root l]) else if m ≤ sp l.length then subp (l.take (sp l.length)) m w ++ [root (l.drop (sp l.length))] else subp (l.drop (sp l.length)) (m - sp l.length) false ++ [root (l.take (sp l.length))]
termination_by l.length
decreasing_by
  · rw [List.length_take]
    have := sp_lt (n := l.length) (by omega)
    omega
  · rw [List.length_drop]
    have := sp_pos l.length
    omega
theorem subp_end {l : List Int} {m : Nat} (h : m = l.length) (w : Bool) : subp l m w = if w then [] else [root l] := by rw [subp, dif_pos (Or.inr h)]
theorem subp_left {l : List Int} {m : Nat} (h1 : 1 ≤ m) (h : m < l.length) (w : Bool) (hi : m ≤ sp l.length) : subp l m w = subp (l.take (sp l.length)) m w ++ [root (l.drop (sp l.length))] := by rw [subp, dif_neg (by omega), if_pos hi]
theorem subp_right {l : List Int} {m : Nat} (h1 : 1 ≤ m) (h : m < l.length) (w : Bool) (hi : ¬ m ≤ sp l.length) : subp l m w = subp (l.drop (sp l.length)) (m - sp l.length) false ++ [root (l.take (sp l.length))] := by rw [subp, dif_neg (by omega), if_neg hi]
theorem subp_facts : ∀ (n : Nat) (l : List Int) (m : Nat) (w : Bool), l.length = n → 1 ≤ m → m ≤ n → allDig l → (subp l m w).length ≤ n ∧ allDig (subp l m w) := by
  intro n
  induction n using Nat.strongRecOn with
  | _ n ih =>
    intro l m w hl hm hmn hd
    by_cases h2 : m = n
    · rw [subp_end (by omega)]
      cases w
      · refine ⟨by simp; omega, fun x hx => ?_⟩
        simp only [Bool.false_eq_true, if_false, List.mem_singleton] at hx
        rw [hx]
        exact root_dig hd
      · exact ⟨Nat.zero_le _, fun x hx => by simp at hx⟩
    have hlt := sp_lt (n := n) (by omega)
    have hp := sp_pos n
    by_cases hi : m ≤ sp n
    · rw [subp_left hm (by omega) w (by rw [hl]; exact hi), hl]
      obtain ⟨h3, h4⟩ := ih (sp n) hlt (l.take (sp n)) m w (by rw [List.length_take]; omega) hm hi (take_dig hd _)
      refine ⟨by rw [List.length_append, List.length_singleton]; omega, fun x hx => ?_⟩
      rcases List.mem_append.mp hx with h5 | h5
      · exact h4 x h5
      · rw [List.mem_singleton.mp h5]
        exact root_dig (drop_dig hd _)
    · rw [subp_right hm (by omega) w (by rw [hl]; exact hi), hl]
      obtain ⟨h3, h4⟩ := ih (n - sp n) (by omega) (l.drop (sp n)) (m - sp n) false (by rw [List.length_drop]; omega) (by omega) (by omega) (drop_dig hd _)
      refine ⟨by rw [List.length_append, List.length_singleton]; omega, fun x hx => ?_⟩
      rcases List.mem_append.mp hx with h5 | h5
      · exact h4 x h5
      · rw [List.mem_singleton.mp h5]
        exact root_dig (take_dig hd _)
theorem pSub_ev : ∀ (n : Nat) (l : List Int) (m : Nat) (w : Bool), l.length = n → n ≤ 64 → 1 ≤ m → m ≤ n → allDig l → Ev (fun k => translog_subproof.f k l (m : Int) w) (subp l m w) := by
  intro n
  induction n using Nat.strongRecOn with
  | _ n ih =>
    intro l m w hl hn hm hmn hd
    by_cases h1 : m = n
    · rw [subp_end (by omega)]
      refine Ev.step (f := fun k => translog_subproof.j0 k l (m : Int) w (l.length : Int) w) (fun k => by simp only [translog_subproof.f]; rw [if_pos (by omega)]) ?_
      cases w
      · refine Ev.step (fun k => by simp only [translog_subproof.j0]; rw [if_neg (by decide), if_pos (by omega)]) ?_
        exact ev_bind (pRoot_ev n l hl hn hd) (Ev.now _)
      · refine Ev.step (f := fun _ => some []) (fun k => by simp only [translog_subproof.j0]; rw [if_pos trivial]) ?_
        exact Ev.now _
    have hsp := sp_split (n := n) (by omega) hn
    have hlt := sp_lt (n := n) (by omega)
    have hp := sp_pos n
    refine Ev.step (f := fun k => translog_subproof.j0 k l (m : Int) w (l.length : Int) false) (fun k => by simp only [translog_subproof.f]; rw [if_neg (by omega)]) ?_
    by_cases hi : m ≤ sp n
    · rw [subp_left hm (by omega) w (by rw [hl]; exact hi), hl]
      refine Ev.step (f := fun k => (translog_subproof.f k (l.take (sp n)) (m : Int) w).bind fun a => (translog_root.f k (l.drop (sp n))).bind fun b => if a.length < 17592186044416 then some (a ++ [b]) else none) (fun k => ?_) ?_
      · simp only [translog_subproof.j0]
        rw [if_neg (by decide), if_neg (by omega), hsp]
        simp only [Option.bind_some]
        rw [if_pos (by omega), if_pos (by omega), if_pos (by omega)]
        simp only [Int.toNat_natCast]
      · refine ev_bind (ih (sp n) hlt (l.take (sp n)) m w (by rw [List.length_take]; omega) (by omega) hm hi (take_dig hd _)) ?_
        refine ev_bind (pRoot_ev (n - sp n) (l.drop (sp n)) (by rw [List.length_drop]; omega) (by omega) (drop_dig hd _)) ?_
        have := (subp_facts (sp n) (l.take (sp n)) m w (by rw [List.length_take]; omega) hm hi (take_dig hd _)).1
        exact ev_if_pos (by omega) (Ev.now _)
    · rw [subp_right hm (by omega) w (by rw [hl]; exact hi), hl]
      refine Ev.step (f := fun k => (translog_subproof.f k (l.drop (sp n)) ((m - sp n : Nat) : Int) false).bind fun a => (translog_root.f k (l.take (sp n))).bind fun b => if a.length < 17592186044416 then some (a ++ [b]) else none) (fun k => ?_) ?_
      · simp only [translog_subproof.j0]
        rw [if_neg (by decide), if_neg (by omega), hsp]
        simp only [Option.bind_some]
        rw [if_neg (by omega), if_pos (by omega), if_pos (by omega), w64 (by omega) (by omega), show (m : Int) - (sp n : Int) = ((m - sp n : Nat) : Int) from by omega]
        simp only [Int.toNat_natCast]
      · refine ev_bind (ih (n - sp n) (by omega) (l.drop (sp n)) (m - sp n) false (by rw [List.length_drop]; omega) (by omega) (by omega) (by omega) (drop_dig hd _)) ?_
        refine ev_bind (pRoot_ev (sp n) (l.take (sp n)) (by rw [List.length_take]; omega) (by omega) (take_dig hd _)) ?_
        have := (subp_facts (n - sp n) (l.drop (sp n)) (m - sp n) false (by rw [List.length_drop]; omega) (by omega) (by omega) (drop_dig hd _)).1
        exact ev_if_pos (by omega) (Ev.now _)
theorem rCont_loop : ∀ (n : Nat) (l : List Int) (m : Nat) (down : List Int) (w : Bool), l.length = n → n ≤ 64 → 1 ≤ m → m ≤ n → allDig l → down.length + n ≤ 200 → Ev (fun k => changeforgeref5_LogContinues.l0 k l (m : Int) down w) (subp l m w ++ down.reverse) := by
  intro n
  induction n using Nat.strongRecOn with
  | _ n ih =>
    intro l m down w hl hn hm hmn hd hdl
    by_cases h1 : m = n
    · rw [subp_end (by omega)]
      cases w
      · refine Ev.step (fun k => by simp only [changeforgeref5_LogContinues.l0]; rw [if_neg (by omega), if_neg (by decide)]) ?_
        refine ev_bind (rRoot_ev (by omega) hd) (ev_if_pos (by omega) ?_)
        have := rev_ev (down ++ [root l]) (by rw [List.length_append, List.length_singleton]; omega)
        rw [List.reverse_append, List.reverse_singleton] at this
        exact ev_bind this (Ev.now _)
      · refine Ev.step (fun k => by simp only [changeforgeref5_LogContinues.l0]; rw [if_neg (by omega), if_pos trivial]) ?_
        exact ev_bind (rev_ev down (by omega)) (Ev.now _)
    have hlt := sp_lt (n := n) (by omega)
    have hp := sp_pos n
    refine Ev.step (fun k => by simp only [changeforgeref5_LogContinues.l0]; rw [if_pos (by omega), hl]) ?_
    refine ev_bind (rPower_ev (by omega) hn) ?_
    by_cases hi : m ≤ sp n
    · rw [subp_left hm (by omega) w (by rw [hl]; exact hi), hl]
      refine ev_if_pos (by omega) (ev_if_pos (by omega) (ev_if_pos (by omega) ?_))
      simp only [Int.toNat_natCast]
      refine ev_bind (rRoot_ev (by rw [List.length_drop]; omega) (drop_dig hd _)) (ev_if_pos (by omega) ?_)
      have := ih (sp n) hlt (l.take (sp n)) m (down ++ [root (l.drop (sp n))]) w (by rw [List.length_take]; omega) (by omega) hm hi (take_dig hd _) (by rw [List.length_append, List.length_singleton]; omega)
      rw [List.reverse_append, List.reverse_singleton] at this
      rw [List.append_assoc]
      exact this
    · rw [subp_right hm (by omega) w (by rw [hl]; exact hi), hl]
      refine ev_if_neg (by omega) (ev_if_pos (by omega) (ev_if_pos (by omega) ?_))
      simp only [Int.toNat_natCast]
      refine ev_bind (rRoot_ev (by rw [List.length_take]; omega) (take_dig hd _)) (ev_if_pos (by omega) ?_)
      have := ih (n - sp n) (by omega) (l.drop (sp n)) (m - sp n) (down ++ [root (l.take (sp n))]) false (by rw [List.length_drop]; omega) (by omega) (by omega) (by omega) (drop_dig hd _) (by rw [List.length_append, List.length_singleton]; omega)
      rw [List.reverse_append, List.reverse_singleton] at this
      rw [List.append_assoc, w64 (by omega) (by omega), show (m : Int) - (sp n : Int) = ((m - sp n : Nat) : Int) from by omega]
      exact this
theorem rCont_ev {l : List Int} {m : Nat} (hl : l.length ≤ 64) (hm : 1 ≤ m) (hml : m ≤ l.length) (hd : allDig l) : Ev (fun k => changeforgeref5_LogContinues.f k l (m : Int)) (subp l m true) := by
  unfold changeforgeref5_LogContinues.f
  have := rCont_loop l.length l m [] true rfl hl hm hml hd (by simp; omega)
  rw [List.reverse_nil, List.append_nil] at this
  exact this
/-! faults of leaves; the exported functions -/
theorem rLeaves_loop (l : List Int) (hl : l.length ≤ 64) : ∀ (d i : Nat), i + d = l.length → Ev (fun k => changeforgeref5_LeavesFault.l0 k l i) (digFault i (l.drop i)) := by
  intro d
  induction d with
  | zero =>
    intro i hi
    refine Ev.step (f := fun _ => some (0, 0)) (fun k => by simp only [changeforgeref5_LeavesFault.l0]; rw [if_neg (by omega)]) ?_
    rw [List.drop_of_length_le (by omega)]
    exact Ev.now _
  | succ d ih =>
    intro i hi
    have h1 : i < l.length := by omega
    rw [drop_cons h1]
    by_cases hd : isDig l[i] = true
    · refine Ev.step (fun k => by simp only [changeforgeref5_LeavesFault.l0]; rw [if_pos (by omega), if_pos (by omega), rd_get l i h1, rIsDig, Option.bind_some, if_pos hd, w64 (by omega) (by omega)]) ?_
      simp only [digFault, if_pos hd]
      exact ih (i + 1) (by omega)
    · refine Ev.step (f := fun _ => some (3, (i : Int))) (fun k => by simp only [changeforgeref5_LeavesFault.l0]; rw [if_pos (by omega), if_pos (by omega), rd_get l i h1, rIsDig, Option.bind_some, if_neg hd]; rfl) ?_
      simp only [digFault, if_neg hd]
      exact Ev.now _
theorem rLeaves_ev (l : List Int) : Ev (fun k => changeforgeref5_LeavesFault.f k l) (msgFault l) := by
  unfold changeforgeref5_LeavesFault.f msgFault
  by_cases h : (l.length : Int) ≤ 64
  · refine ev_if_neg (by omega) ?_
    simp only [if_pos h]
    exact rLeaves_loop l (by omega) l.length 0 (by omega)
  · refine ev_if_pos (by omega) ?_
    simp only [if_neg h]
    exact ev_now fun k => rfl
theorem pLeaves_loop (l : List Int) (hl : l.length ≤ 64) : ∀ (d i : Nat), i + d = l.length → Ev (fun k => translog_fault.l0 k l (l.length : Int) i) (digFault i (l.drop i)) := by
  intro d
  induction d with
  | zero =>
    intro i hi
    refine Ev.step (f := fun _ => some (0, 0)) (fun k => by simp only [translog_fault.l0]; rw [if_neg (by omega)]) ?_
    rw [List.drop_of_length_le (by omega)]
    exact Ev.now _
  | succ d ih =>
    intro i hi
    have h1 : i < l.length := by omega
    rw [drop_cons h1]
    by_cases hd : isDig l[i] = true
    · refine Ev.step (fun k => by simp only [translog_fault.l0]; rw [if_pos (by omega), if_pos (by omega), if_pos (by omega), rd_get l i h1, sIsDig, Option.bind_some, if_pos hd, w64 (by omega) (by omega)]) ?_
      simp only [digFault, if_pos hd]
      exact ih (i + 1) (by omega)
    · refine Ev.step (f := fun _ => some (3, (i : Int))) (fun k => by simp only [translog_fault.l0]; rw [if_pos (by omega), if_pos (by omega), if_pos (by omega), rd_get l i h1, sIsDig, Option.bind_some, if_neg hd]) ?_
      simp only [digFault, if_neg hd]
      exact Ev.now _
theorem pLeaves_ev (l : List Int) : Ev (fun k => translog_fault.f k l) (msgFault l) := by
  unfold translog_fault.f msgFault
  by_cases h : (l.length : Int) ≤ 64
  · refine ev_if_neg (by omega) ?_
    simp only [if_pos h]
    exact pLeaves_loop l (by omega) l.length 0 (by omega)
  · refine ev_if_pos (by omega) ?_
    simp only [if_neg h]
    exact Ev.now _
theorem pRootX_ev (l : List Int) : Ev (fun k => translog_Root.f k l) (if (msgFault l).1 = 0 then root l else 0, (msgFault l).1, (msgFault l).2) := by
  unfold translog_Root.f
  refine ev_bind (pLeaves_ev l) ?_
  by_cases h : (msgFault l).1 = 0
  · obtain ⟨h1, h2, h3⟩ := msgFault_ok h
    refine ev_if_neg (eq_zero' h3) ?_
    rw [h3]
    exact ev_bind (pRoot_ev l.length l rfl (by omega) h2) (Ev.now _)
  · refine ev_if_pos (ne_zero h) ?_
    rw [if_neg h]
    exact Ev.now _
def proveFault (l : List Int) (i : Int) : Int × Int := if (msgFault l).1 = 0 then (if 0 ≤ i ∧ i < l.length then (0, 0) else (3, -1)) else msgFault l
theorem pProveX_ev (l : List Int) (i : Int) : Ev (fun k => translog_Prove.f k l i) (if (proveFault l i).1 = 0 then prv l i.toNat else [], (proveFault l i).1, (proveFault l i).2) := by
  unfold translog_Prove.f
  refine ev_bind (pLeaves_ev l) ?_
  unfold proveFault
  by_cases h : (msgFault l).1 = 0
  · obtain ⟨h1, h2, h3⟩ := msgFault_ok h
    refine ev_if_neg (eq_zero' h3) ?_
    rw [if_pos h]
    by_cases hi : 0 ≤ i ∧ i < l.length
    · rw [if_pos hi]
      refine ev_if_neg (by omega) (ev_if_neg (by omega) ?_)
      obtain ⟨i', rfl⟩ := Int.eq_ofNat_of_zero_le hi.1
      exact ev_bind (pProve_ev l.length l i' rfl (by omega) (by omega) h2) (Ev.now _)
    · rw [if_neg hi]
      by_cases h0 : i < 0
      · exact ev_if_pos h0 (Ev.now _)
      · exact ev_if_neg h0 (ev_if_pos (by omega) (Ev.now _))
  · refine ev_if_pos (ne_zero h) ?_
    rw [if_neg h, if_neg h]
    exact Ev.now _
def contFault (l : List Int) (m : Int) : Int × Int := if (msgFault l).1 = 0 then (if 1 ≤ m ∧ m ≤ l.length then (0, 0) else (3, -1)) else msgFault l
theorem pContX_ev (l : List Int) (m : Int) : Ev (fun k => translog_ProveConsistency.f k l m) (if (contFault l m).1 = 0 then subp l m.toNat true else [], (contFault l m).1, (contFault l m).2) := by
  unfold translog_ProveConsistency.f
  refine ev_bind (pLeaves_ev l) ?_
  unfold contFault
  by_cases h : (msgFault l).1 = 0
  · obtain ⟨h1, h2, h3⟩ := msgFault_ok h
    refine ev_if_neg (eq_zero' h3) ?_
    rw [if_pos h]
    by_cases hi : 1 ≤ m ∧ m ≤ l.length
    · rw [if_pos hi]
      refine ev_if_neg (by omega) (ev_if_neg (by omega) ?_)
      obtain ⟨m', rfl⟩ := Int.eq_ofNat_of_zero_le (show 0 ≤ m by omega)
      exact ev_bind (pSub_ev l.length l m' true rfl (by omega) (by omega) (by omega) h2) (Ev.now _)
    · rw [if_neg hi]
      by_cases h0 : m < 1
      · exact ev_if_pos h0 (Ev.now _)
      · exact ev_if_neg h0 (ev_if_pos (by omega) (Ev.now _))
  · refine ev_if_pos (ne_zero h) ?_
    rw [if_neg h, if_neg h]
    exact Ev.now _
end Go.Proofs.Ytmcpcdnnnnhogaa.Pure
