/- In a log of signed messages, every signature is included, verifies for its message, and stays included when the log grows: the plain law. Its condition: the parameters are of their kinds and sizes. -/
import Derived.Test.YtnkonhplfldlmaaFf10
import Derived.Test.YtnkonhplfldlmaaFf33
import Derived.Test.YtnkonhplfldlmaaFf34
import Derived.Test.YtnkonhplfldlmaaFf35
import Derived.Test.YtnkonhplfldlmaaFn0
import Derived.Test.YtnkonhplfldlmaaFs0
import Derived.Test.YtnkonhplfldlmaaPuSigned
set_option linter.unusedVariables false
namespace Go.Proofs.Ytnkonhplfldlmaa.Pure
open Go Go.RowKit Go.Proofs.Ytnkonhplfldlmaa.Fn Go.Proofs.YtnkonhplfldlmaaW.PrintWords Go.Proofs.YtnkonhplfldlmaaW.PrintLast Go.Proofs.YtnkonhplfldlmaaW.PrintMore
theorem kIn_eq (a b c : Int) : changeforgetop_kernIn.f a b c = some (decide (b ≤ a ∧ a ≤ c)) := by
  unfold changeforgetop_kernIn.f
  by_cases h : a ≥ b
  · rw [if_pos h]
    congr 1
    rw [decide_eq_decide]
    omega
  · rw [if_neg h]
    congr 1
    symm
    rw [decide_eq_false_iff_not]
    omega
def leafOf (key : Int) (m : Int) : Int := sgn key (msg [m])
theorem leaves_dig (key : Int) (l : List Int) : allDig (l.map (leafOf key)) := fun x hx => by
  obtain ⟨m, _, rfl⟩ := List.mem_map.1 hx
  exact isDig_sgn _ _
/-- What is checked of the finished log. -/
theorem audit (L : List Int) (hL : allDig L) (hn : L.length ≤ 64) (i m : Nat) (hi : i < m) (hm : m ≤ L.length) :
    Ev (fun k => changeforgetop_TopSignedLogsAreAuditable.j2 k (i : Int) (m : Int) L (root (L.take m)) (root L) (prv (L.take m) i) (prv L i) (subp L m true) false) true := by
  have ht : (L.take m).length = m := by rw [List.length_take]; omega
  have hLt := take_dig hL m
  refine Ev.step (fun k => by simp only [changeforgetop_TopSignedLogsAreAuditable.j2]; rw [if_neg (by decide), if_pos (by omega), if_pos (by omega)]) ?_
  obtain ⟨h4, h5⟩ := prv_facts (L.take m).length (L.take m) i rfl hLt
  obtain ⟨g4, g5⟩ := prv_facts L.length L i rfl hL
  obtain ⟨s4, s5⟩ := subp_facts L.length L m true rfl (by omega) hm hL
  have hlf : isDig (rd L (i : Int)) = true := by
    rw [rd_get L i (by omega)]
    exact hL _ (List.getElem_mem _)
  have V1 := pVerify_ev (root (L.take m)) (m : Int) (i : Int) (rd L (i : Int)) (prv (L.take m) i)
  have f1 : verFault (root (L.take m)) (m : Int) (i : Int) (rd L (i : Int)) (prv (L.take m) i) = (0, 0) := by
    unfold verFault bad
    rw [root_dig hLt, hlf, decide_eq_true (show 1 ≤ (m : Int) ∧ (m : Int) ≤ 64 by omega), decide_eq_true (show 0 ≤ (i : Int) ∧ (i : Int) < (m : Int) by omega)]
    exact pfFault_of (by omega) h5
  have o1 : verOk (root (L.take m)) (m : Int) (i : Int) (rd L (i : Int)) (prv (L.take m) i) = true := by
    unfold verOk
    rw [f1]
    simp only [Int.toNat_natCast]
    have := prv_incl (l := L.take m) (i := i) (by omega) (by omega)
    rw [ht, rd_take hi] at this
    rw [this]
    rfl
  rw [o1, f1] at V1
  have V2 := pVerify_ev (root L) (L.length : Int) (i : Int) (rd L (i : Int)) (prv L i)
  have f2 : verFault (root L) (L.length : Int) (i : Int) (rd L (i : Int)) (prv L i) = (0, 0) := by
    unfold verFault bad
    rw [root_dig hL, hlf, decide_eq_true (show 1 ≤ (L.length : Int) ∧ (L.length : Int) ≤ 64 by omega), decide_eq_true (show 0 ≤ (i : Int) ∧ (i : Int) < (L.length : Int) by omega)]
    exact pfFault_of (by omega) g5
  have o2 : verOk (root L) (L.length : Int) (i : Int) (rd L (i : Int)) (prv L i) = true := by
    unfold verOk
    rw [f2]
    simp only [Int.toNat_natCast]
    rw [prv_incl (by omega) (by omega)]
    rfl
  rw [o2, f2] at V2
  have V3 := pCons_ev (root (L.take m)) (m : Int) (root L) (L.length : Int) (subp L m true)
  have f3 : conFault (root (L.take m)) (m : Int) (root L) (L.length : Int) (subp L m true) = (0, 0) := by
    unfold conFault bad
    rw [root_dig hL, root_dig hLt, decide_eq_true (show 1 ≤ (m : Int) ∧ (m : Int) ≤ (L.length : Int) by omega), decide_eq_true (show 1 ≤ (L.length : Int) ∧ (L.length : Int) ≤ 64 by omega)]
    exact pfFault_of (by omega) s5
  have o3 : conOk (root (L.take m)) (m : Int) (root L) (L.length : Int) (subp L m true) = true := by
    unfold conOk
    rw [f3]
    simp only [Int.toNat_natCast]
    rw [subp_cons (by omega) (by omega) (by omega)]
    rfl
  rw [o3, f3] at V3
  refine ev_bind V1 (ev_bind V2 (ev_bind V3 ?_))
  exact ev_if_pos rfl (ev_if_pos rfl (ev_if_pos rfl (ev_if_pos rfl (ev_if_pos rfl (Ev.now _)))))
theorem audit_all (L : List Int) (hL : allDig L) (hn : L.length ≤ 64) (i m : Nat) (hi : i < m) (hm : m ≤ L.length) :
    Ev (fun k => if 0 ≤ (m : Int) then (if (m : Int) ≤ (L.length : Int) then ((translog_Root.f k (L.take (m : Int).toNat)).bind fun bt129 => ((translog_Root.f k L).bind fun bt133 => ((translog_Prove.f k (L.take (m : Int).toNat) (i : Int)).bind fun bt141 => ((translog_Prove.f k L (i : Int)).bind fun bt147 => ((translog_ProveConsistency.f k L (m : Int)).bind fun bt153 => (if bt129.2.1 = 0 then (if bt133.2.1 = 0 then (if bt141.2.1 = 0 then (if bt147.2.1 = 0 then (changeforgetop_TopSignedLogsAreAuditable.j2 k (i : Int) (m : Int) L bt129.1 bt133.1 bt141.1 bt147.1 bt153.1 (bt153.2.1 != 0)) else (changeforgetop_TopSignedLogsAreAuditable.j2 k (i : Int) (m : Int) L bt129.1 bt133.1 bt141.1 bt147.1 bt153.1 true)) else (changeforgetop_TopSignedLogsAreAuditable.j2 k (i : Int) (m : Int) L bt129.1 bt133.1 bt141.1 bt147.1 bt153.1 true)) else (changeforgetop_TopSignedLogsAreAuditable.j2 k (i : Int) (m : Int) L bt129.1 bt133.1 bt141.1 bt147.1 bt153.1 true)) else (changeforgetop_TopSignedLogsAreAuditable.j2 k (i : Int) (m : Int) L bt129.1 bt133.1 bt141.1 bt147.1 bt153.1 true))))))) else (none)) else (none)) true := by
  have ht : (L.take m).length = m := by rw [List.length_take]; omega
  have hLt := take_dig hL m
  have eL : msgFault L = (0, 0) := by
    unfold msgFault
    rw [if_pos (by omega)]
    exact digFault_ok _ 0 hL
  have eT : msgFault (L.take m) = (0, 0) := by
    unfold msgFault
    rw [if_pos (by omega)]
    exact digFault_ok _ 0 hLt
  have pL : proveFault L (i : Int) = (0, 0) := by
    unfold proveFault
    rw [eL, if_pos rfl, if_pos (by omega)]
  have pT : proveFault (L.take m) (i : Int) = (0, 0) := by
    unfold proveFault
    rw [eT, if_pos rfl, if_pos (by omega)]
  have cL : contFault L (m : Int) = (0, 0) := by
    unfold contFault
    rw [eL, if_pos rfl, if_pos (by omega)]
  have R1 := pRootX_ev (L.take m)
  rw [eT, if_pos rfl] at R1
  have R2 := pRootX_ev L
  rw [eL, if_pos rfl] at R2
  have P1 := pProveX_ev (L.take m) (i : Int)
  rw [pT, if_pos rfl] at P1
  have P2 := pProveX_ev L (i : Int)
  rw [pL, if_pos rfl] at P2
  have C := pContX_ev L (m : Int)
  rw [cL, if_pos rfl] at C
  simp only [Int.toNat_natCast] at P1 P2 C ⊢
  refine ev_if_pos (by omega) (ev_if_pos (by omega) (ev_bind R1 (ev_bind R2 (ev_bind P1 (ev_bind P2 (ev_bind C ?_))))))
  exact ev_if_pos rfl (ev_if_pos rfl (ev_if_pos rfl (ev_if_pos rfl (audit L hL hn i m hi hm))))
theorem one_of {l : List Int} {i : Nat} (h : i < l.length) : (l.take (i + 1)).drop i = [l[i]] := by
  rw [← List.take_append_getElem h, List.drop_append_of_le_length (by rw [List.length_take]; omega), List.drop_of_length_le (by rw [List.length_take]; omega)]
  rfl
theorem signed_loop (key : Int) (hk : isKey key = true) (l : List Int) (hl : l.length ≤ 64) (hd : allDig l) (i0 m : Nat) (hi0 : i0 < m) (hm : m ≤ l.length) :
    ∀ (d i : Nat), i + d = l.length → Ev (fun k => changeforgetop_TopSignedLogsAreAuditable.l0 k key l (i0 : Int) (m : Int) ((l.take i).map (leafOf key)) (i : Int)) true := by
  intro d
  induction d with
  | zero =>
    intro i hi
    refine Ev.step (fun k => by simp only [changeforgetop_TopSignedLogsAreAuditable.l0]; rw [if_neg (by omega)]) ?_
    rw [List.take_of_length_le (by omega)]
    exact audit_all _ (leaves_dig key l) (by rw [List.length_map]; omega) i0 m hi0 (by rw [List.length_map]; omega)
  | succ d ih =>
    intro i hi
    have hil : i < l.length := by omega
    have hx : isDig l[i] = true := hd _ (List.getElem_mem hil)
    have hw : wrap64 ((i : Int) + 1) = ((i + 1 : Nat) : Int) := by rw [w64 (by omega) (by omega)]; rfl
    have hnext := ih (i + 1) (by omega)
    rw [← List.take_append_getElem hil, List.map_append] at hnext
    refine Ev.step (fun k => by simp only [changeforgetop_TopSignedLogsAreAuditable.l0]; rw [if_pos (by omega), if_pos (by omega), hw, if_pos (by omega), if_pos (by omega), Int.toNat_natCast, Int.toNat_natCast, one_of hil]) ?_
    generalize l[i] = x at hx hnext
    have hM := pMsg_ev [x]
    have eM : msgFault [x] = (0, 0) := by
      unfold msgFault
      rw [if_pos (by simp)]
      exact digFault_ok _ 0 (fun y hy => by rw [List.mem_singleton.1 hy]; exact hx)
    unfold msgRes at hM
    rw [eM, if_pos rfl] at hM
    have hb := msg_byte [x]
    have hlen : ((msg [x]).length : Int) ≤ 4096 := by
      have := msg_length [x]
      simp at this
      omega
    have sf : signFault key (msg [x]) = (0, 0) := by
      unfold signFault
      rw [if_pos hk, if_pos hlen]
    have hS := sign_ev key (msg [x]) hb
    unfold signRes at hS
    rw [sf, if_pos rfl] at hS
    have hV := verify_ev key (msg [x]) (sgn key (msg [x])) hb
    unfold verifyRes at hV
    rw [sf, if_pos rfl, if_pos (isDig_sgn _ _), beq_self_eq_true] at hV
    refine ev_bind hM (ev_bind hS (ev_bind hV ?_))
    refine ev_if_pos rfl (ev_if_pos rfl (ev_if_pos rfl (ev_if_pos rfl (ev_if_pos ?_ hnext))))
    rw [List.length_map, List.length_take]
    omega
theorem TopSignedLogsAreAuditable : changeforgetop_TopSignedLogsAreAuditable.Pure := by
  intro key l i m _ hl _ _ _ _
  refine ev_total ?_
  unfold changeforgetop_TopSignedLogsAreAuditable.f
  refine ev_bind kern_ev (ev_if_pos rfl ?_)
  simp only [rIsKey, kIn_eq, Option.bind_some]
  have yes : Ev (fun k => changeforgetop_TopSignedLogsAreAuditable.j0 k key l i m true) true :=
    Ev.step (f := fun _ => some true) (fun k => by simp only [changeforgetop_TopSignedLogsAreAuditable.j0]; rw [if_pos trivial]) (Ev.now _)
  by_cases h64 : (l.length : Int) > 64
  · exact ev_if_pos h64 yes
  refine ev_if_neg h64 ?_
  by_cases hk : isKey key = true
  · refine ev_if_pos hk (ev_bind (rLeaves_ev l) ?_)
    by_cases hz : (msgFault l).1 = 0
    · refine ev_if_pos hz ?_
      obtain ⟨h1, h2, h3⟩ := msgFault_ok hz
      by_cases hi : 0 ≤ i ∧ i ≤ wrap64 (m - 1)
      · refine ev_if_pos (decide_eq_true hi) ?_
        by_cases hm : 1 ≤ m ∧ m ≤ (l.length : Int)
        · rw [decide_eq_true hm]
          rw [w64 (by omega) (by omega)] at hi
          obtain ⟨i', rfl⟩ := Int.eq_ofNat_of_zero_le hi.1
          obtain ⟨m', rfl⟩ := Int.eq_ofNat_of_zero_le (show 0 ≤ m by omega)
          refine Ev.step (fun k => by simp only [changeforgetop_TopSignedLogsAreAuditable.j0]; rw [if_neg (by decide)]) ?_
          exact signed_loop key hk l (by omega) h2 i' m' (by omega) (by omega) l.length 0 (by omega)
        · rw [decide_eq_false hm]
          exact yes
      · exact ev_if_neg (by simpa using hi) yes
    · exact ev_if_neg hz yes
  · exact ev_if_neg hk yes
end Go.Proofs.Ytnkonhplfldlmaa.Pure
