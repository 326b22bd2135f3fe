/- Signatures by need keys of the list are accepted, by fewer they are not: the plain law. Its condition: the parameters are of their kinds and sizes. -/
import Derived.Test.YtmpboljmigigfaaFf11
import Derived.Test.YtmpboljmigigfaaFf26
import Derived.Test.YtmpboljmigigfaaFn0
import Derived.Test.YtmpboljmigigfaaFs0
import Derived.Test.YtmpboljmigigfaaPuThr
set_option linter.unusedVariables false
namespace Go.Proofs.Ytmpboljmigigfaa.Pure
open Go.RowKit Go.Proofs.Ytmpboljmigigfaa.Fn Go.Proofs.YtmpboljmigigfaaW.PrintWords Go.Proofs.YtmpboljmigigfaaW.PrintLast Go.Proofs.YtmpboljmigigfaaW.PrintMore
theorem lIn3 (a b c : Int) : changeforgelaw5_in.f a b c = some (decide (b ≤ a ∧ a ≤ c)) := by
  unfold changeforgelaw5_in.f
  by_cases h : a ≥ b
  · rw [if_pos h]
    congr 1
    rw [decide_eq_decide]
    omega
  · rw [if_neg h]
    congr 1
    symm
    rw [decide_eq_false_iff_not]
    omega
def sigOf (data : List Int) (k : Int) : Sg := ⟨k, sgn k data⟩
theorem signers_of (keys data : List Int) (n : Nat) (hn : n ≤ keys.length) (hs : rises keys) : (signers keys data ((keys.take n).map (sigOf data))).length = n := by
  have e : signers keys data ((keys.take n).map (sigOf data)) = keys.take n := by
    unfold signers
    conv => lhs; rw [← List.take_append_drop n keys]
    rw [List.filter_append]
    have h1 : (keys.take n).filter (hasSig data (((keys.take n ++ keys.drop n).take n).map (sigOf data))) = keys.take n := by
      rw [List.filter_eq_self]
      intro k hk
      unfold hasSig
      rw [List.take_append_drop, List.any_eq_true]
      refine ⟨sigOf data k, List.mem_map.2 ⟨k, hk, rfl⟩, ?_⟩
      unfold isSig sigOf
      simp
    have h2 : (keys.drop n).filter (hasSig data (((keys.take n ++ keys.drop n).take n).map (sigOf data))) = [] := by
      rw [List.filter_eq_nil_iff]
      intro k hk hp
      unfold hasSig at hp
      rw [List.take_append_drop, List.any_eq_true] at hp
      obtain ⟨s, hs1, hs2⟩ := hp
      obtain ⟨k2, hk2, rfl⟩ := List.mem_map.1 hs1
      unfold isSig sigOf at hs2
      rw [decide_eq_true_eq] at hs2
      have e2 : k2 = k := hs2.1
      subst e2
      obtain ⟨i, hi, ei⟩ := List.mem_iff_getElem.1 hk2
      obtain ⟨j, hj, ej⟩ := List.mem_iff_getElem.1 hk
      rw [List.length_take] at hi
      rw [List.length_drop] at hj
      rw [List.getElem_take] at ei
      rw [List.getElem_drop] at ej
      have := rises_get hs (i := i) (j := n + j) (by omega) (by omega) (by omega)
      omega
    rw [h1, h2, List.append_nil]
  rw [e, List.length_take]
  omega
theorem suffice_loop (keys data : List Int) (need : Int) (n : Nat) (hn : n ≤ keys.length) (hf : (thrFault keys need).1 = 0) (hb : isByte data) (hd : (data.length : Int) ≤ 4096) : ∀ (d i : Nat) (acc : List Sg), i + d = n → acc = (keys.take i).map (sigOf data) →
    Ev (fun k => changeforgelaw5_ThresholdSignersSuffice.l0 k keys need data (n : Int) acc i) true := by
  obtain ⟨_, hk0, n1, n2⟩ := thrFault_ok hf
  obtain ⟨_, hl, hk, hs⟩ := keysFault_ok hk0
  intro d
  induction d with
  | zero =>
    intro i acc hi ha
    refine Ev.step (fun k => by simp only [changeforgelaw5_ThresholdSignersSuffice.l0]; rw [if_neg (by omega)]) ?_
    refine ev_bind (pAccept_ev keys need data acc hb) ?_
    have hi2 : i = n := by omega
    subst hi2
    have hsl := signers_of keys data i hn hs
    have g : (signersFault keys data acc).1 = 0 := by
      rw [signersFault_of hk0 hd (by rw [ha, List.length_map, List.length_take]; omega) (fun s hs1 => by
        rw [ha] at hs1
        obtain ⟨k, hkm, rfl⟩ := List.mem_map.1 hs1
        exact ⟨hk k (List.mem_of_mem_take hkm), isDig_sgn _ _⟩)]
    have e : acceptRes keys need data acc = (decide (((signers keys data acc).length : Int) ≥ need), 0, 0) := by
      unfold acceptRes
      rw [if_pos hf, if_pos g]
    rw [e]
    refine ev_if_pos (by trivial) (ev_now fun k => ?_)
    rw [ha, hsl]
    simp
  | succ d ih =>
    intro i acc hi ha
    have hil : i < keys.length := by omega
    refine Ev.step (fun k => by simp only [changeforgelaw5_ThresholdSignersSuffice.l0]; rw [if_pos (by omega), if_pos (by omega), if_pos (by omega), rd_get keys i hil]) ?_
    refine ev_bind (sign_ok keys[i] data (hk _ (List.getElem_mem hil)) hb hd) ?_
    refine ev_if_pos (by trivial) (ev_if_pos (by rw [ha, List.length_map, List.length_take]; omega) ?_)
    rw [succ_w (by omega)]
    refine ih (i + 1) _ (by omega) ?_
    rw [List.take_succ_eq_append_getElem hil, List.map_append, ha]
    rfl
theorem ThresholdSignersSuffice : changeforgelaw5_ThresholdSignersSuffice.Pure := by
  intro keys need data n hk1 hk hk2 hn hd1 hd2 hd3 hn2
  refine ev_total ?_
  have hb := bytes_of_wf hd3
  unfold changeforgelaw5_ThresholdSignersSuffice.f
  simp only [changeforgelaw5_accepts.f, Option.bind_some]
  refine ev_if_pos (by trivial) (ev_bind (rThr_ev keys need) ?_)
  have jt : Ev (fun k => changeforgelaw5_ThresholdSignersSuffice.j0 k keys need data n true) true :=
    Ev.step (fun k => by simp only [changeforgelaw5_ThresholdSignersSuffice.j0]; rw [if_pos (by trivial)]) (Ev.now _)
  by_cases h1 : (thrFault keys need).1 = 0
  · refine ev_if_pos h1 ?_
    by_cases h2 : (data.length : Int) > 4096
    · exact ev_if_pos h2 jt
    · refine ev_if_neg h2 ?_
      simp only [lIn3, Option.bind_some]
      by_cases h3 : 0 ≤ n ∧ n ≤ (keys.length : Int)
      · rw [decide_eq_true h3]
        refine Ev.step (fun k => by simp only [changeforgelaw5_ThresholdSignersSuffice.j0]; rw [if_neg (by decide)]) ?_
        obtain ⟨m, rfl⟩ := Int.eq_ofNat_of_zero_le h3.1
        exact suffice_loop keys data need m (by omega) h1 hb (by omega) m 0 [] (by omega) rfl
      · rw [decide_eq_false h3]
        exact jt
  · exact ev_if_neg h1 jt
end Go.Proofs.Ytmpboljmigigfaa.Pure
