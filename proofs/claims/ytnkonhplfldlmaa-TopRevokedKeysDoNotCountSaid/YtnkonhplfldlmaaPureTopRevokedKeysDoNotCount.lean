/- Signatures by the valid keys of a user are counted, and signatures by keys that were revoked before are not: the plain law. Its condition: the parameters are of their kinds and sizes. -/
import Derived.Test.YtnkonhplfldlmaaFf28
import Derived.Test.YtnkonhplfldlmaaFf9
import Derived.Test.YtnkonhplfldlmaaFn0
import Derived.Test.YtnkonhplfldlmaaFo0
import Derived.Test.YtnkonhplfldlmaaFp9
import Derived.Test.YtnkonhplfldlmaaPuKern
set_option linter.unusedVariables false
namespace Go.Proofs.Ytnkonhplfldlmaa.Pure
open Go Go.RowKit Go.Proofs.Ytnkonhplfldlmaa.Fn Go.Proofs.YtnkonhplfldlmaaW.PrintWords Go.Proofs.YtnkonhplfldlmaaW.PrintLast Go.Proofs.YtnkonhplfldlmaaW.PrintMore
def sgOf (data : List Int) (e : Ke) : Sg := ⟨e.f1, sgn e.f1 data⟩
def addsOf (data : List Int) (p : List Ke) : List Sg := (p.filter fun e => decide (e.f0 = 1)).map (sgOf data)
theorem addsOf_len (data : List Int) (p : List Ke) : (addsOf data p).length ≤ p.length := by
  unfold addsOf
  rw [List.length_map]
  exact List.length_filter_le _ _
theorem top_signed (l : List Ke) (user time : Int) (data : List Int) (hb : isByte data) (hdl : (data.length : Int) ≤ 4096) (hz : (ringFault l).1 = 0) (V : List Int)
    (E : ∀ j, j ≤ l.length → (addsOf data (l.take j)).length ≤ 24 → (j = l.length ∨ 24 ≤ (addsOf data (l.take j)).length) → Ev (fun k => (threshold_Signers.f k V data (addsOf data (l.take j))).bind fun bt => if bt.2.1 = 0 then changeforgetop_TopRevokedKeysDoNotCount.l1 k l user time V bt.1 0 else none) true) :
    ∀ (d i : Nat), i + d = l.length → (addsOf data (l.take i)).length ≤ 24 → Ev (fun k => changeforgetop_TopRevokedKeysDoNotCount.l0 k l user time data V (addsOf data (l.take i)) (i : Int)) true := by
  have hlen := ring_len hz
  intro d
  induction d with
  | zero =>
    intro i hi hc
    refine Ev.step (fun k => by simp only [changeforgetop_TopRevokedKeysDoNotCount.l0]; rw [if_neg (by omega)]) ?_
    refine Ev.step (fun k => by simp only [changeforgetop_TopRevokedKeysDoNotCount.j2]; rw [if_neg (by decide)]) ?_
    exact E i (by omega) hc (.inl (by omega))
  | succ d ih =>
    intro i hi hc
    have hil : i < l.length := by omega
    refine Ev.step (fun k => by simp only [changeforgetop_TopRevokedKeysDoNotCount.l0]; rw [if_pos (by omega)]) ?_
    by_cases h24 : ((addsOf data (l.take i)).length : Int) < 24
    · rw [decide_eq_true h24]
      have hk := ring_keys hz _ (List.getElem_mem hil)
      have hs := sign_ev l[i].f1 data hb
      have hsf : signFault l[i].f1 data = (0, 0) := by
        unfold signFault
        rw [if_pos hk, if_pos hdl]
      unfold signRes at hs
      rw [hsf, if_pos rfl] at hs
      refine Ev.step (fun k => by simp only [changeforgetop_TopRevokedKeysDoNotCount.j2]; rw [if_pos trivial, if_pos (by omega), if_pos (by omega), ke_get l i hil, w64 (n := (i : Int) + 1) (by omega) (by omega)]) ?_
      refine ev_bind hs (ev_if_pos rfl ?_)
      have htk : l.take (i + 1) = l.take i ++ [l[i]] := (List.take_append_getElem hil).symm
      have hn : (addsOf data (l.take (i + 1))).length ≤ 24 := by
        rw [htk]
        unfold addsOf at h24 ⊢
        rw [List.filter_append, List.map_append, List.length_append]
        have := List.length_filter_le (fun e : Ke => decide (e.f0 = 1)) [l[i]]
        rw [List.length_map] at h24 ⊢
        rw [List.length_map]
        simp only [List.length_singleton] at this
        omega
      have hnext := ih (i + 1) (by omega) hn
      by_cases h1 : l[i].f0 = 1
      · refine ev_if_pos h1 (ev_if_pos (by omega) ?_)
        have : addsOf data (l.take (i + 1)) = addsOf data (l.take i) ++ [(⟨l[i].f1, sgn l[i].f1 data⟩ : Sg)] := by
          rw [htk]
          unfold addsOf
          rw [List.filter_append, List.map_append, List.filter_cons_of_pos (by simpa using h1)]
          rfl
        rw [this] at hnext
        exact hnext
      · refine ev_if_neg h1 ?_
        have : addsOf data (l.take (i + 1)) = addsOf data (l.take i) := by
          rw [htk]
          unfold addsOf
          rw [List.filter_append, List.map_append, List.filter_cons_of_neg (by simpa using h1)]
          simp
        rw [this] at hnext
        exact hnext
    · rw [decide_eq_false h24]
      refine Ev.step (fun k => by simp only [changeforgetop_TopRevokedKeysDoNotCount.j2]; rw [if_neg (by decide)]) ?_
      exact E i (by omega) hc (.inr (by omega))
theorem top_each (l : List Ke) (hw : ∀ x ∈ l, wf45 x) (user time : Int) (ht : 0 ≤ time ∧ time ≤ 100000) (hz : (ringFault l).1 = 0) (S : List Int) (hS : ∀ x ∈ S, x ∈ userKeys l user time) (hSl : S.length ≤ 1000) (hend : (l.length : Int) > 24 ∨ S = userKeys l user time) :
    ∀ (d i : Nat), i + d = S.length → Ev (fun k => changeforgetop_TopRevokedKeysDoNotCount.l1 k l user time (userKeys l user time) S (i : Int)) true := by
  intro d
  induction d with
  | zero =>
    intro i hi
    refine Ev.step (fun k => by simp only [changeforgetop_TopRevokedKeysDoNotCount.l1]; rw [if_neg (by omega)]) ?_
    by_cases hc : (l.length : Int) > 24
    · exact ev_if_pos hc (Ev.now _)
    · refine ev_if_neg hc (ev_bind (rInts_ev S _ (by omega)) ?_)
      rw [hend.resolve_left hc, decide_eq_true rfl]
      exact Ev.now _
  | succ d ih =>
    intro i hi
    have hil : i < S.length := by omega
    have hx := hS _ (List.getElem_mem hil)
    obtain ⟨k1, k2, k3⟩ := (mem_userKeys hz user time _).1 hx
    have hk := of_decide_eq_true (userKeys_keys hz user time _ hx)
    refine Ev.step (fun k => by simp only [changeforgetop_TopRevokedKeysDoNotCount.l1, rd_get S i hil, pValid hw, pOwner hw, Option.bind_some]; rw [if_pos (by omega), if_pos (by omega), validF_of hz hk ht, ownerF_of hz hk, if_neg (show ¬ kt l S[i] 1 < 0 by omega), w64 (n := (i : Int) + 1) (by omega) (by omega)]) ?_
    exact ev_if_pos rfl (ev_if_pos rfl (ev_if_pos k3 (ev_if_pos k2 (ih (i + 1) (by omega)))))
theorem TopRevokedKeysDoNotCount : changeforgetop_TopRevokedKeysDoNotCount.Pure := by
  intro l user time data h0 _ _ hd
  refine ev_total ?_
  have hb := bytes_of_wf hd.2
  unfold changeforgetop_TopRevokedKeysDoNotCount.f
  refine ev_bind kern_ev (ev_if_pos rfl ?_)
  simp only [pKeys h0.2, Option.bind_some]
  have late : ∀ b : Bool, (b = false → (keysF l user time).2.1 = 0 ∧ ((keysF l user time).1.length : Int) ≤ 12 ∧ (data.length : Int) ≤ 4096) → Ev (fun k => changeforgetop_TopRevokedKeysDoNotCount.j0 k l user time data (keysF l user time).1 b (keysF l user time).2.1 (keysF l user time).2.2) true := by
    intro b hbb
    cases b with
    | true =>
      refine Ev.step (f := fun _ => some true) (fun k => ?_) (Ev.now _)
      simp only [changeforgetop_TopRevokedKeysDoNotCount.j0]
      rw [if_pos trivial]
      by_cases hc : (keysF l user time).2.1 = 0
      · rw [if_pos hc]
      · rw [if_neg hc, keysF_bad hc]
        rfl
    | false =>
      obtain ⟨hc, h12, h4096⟩ := hbb rfl
      obtain ⟨hz, v2, v3, v4⟩ := keysF_ok hc
      rw [v4] at h12 ⊢
      refine Ev.step (fun k => by simp only [changeforgetop_TopRevokedKeysDoNotCount.j0]; rw [if_neg (by decide)]) ?_
      refine top_signed l user time data hb h4096 hz (userKeys l user time) ?_ l.length 0 (by omega) (by simp [addsOf])
      intro j hj hc24 hor
      have hgood : goodSigs (addsOf data (l.take j)) := fun s hs => by
        obtain ⟨e, he, rfl⟩ := List.mem_map.1 hs
        exact ⟨ring_keys hz e (List.mem_of_mem_take (List.mem_filter.1 he).1), isDig_sgn _ _⟩
      have hf := signersFault_of (keys := userKeys l user time) (data := data) (sigs := addsOf data (l.take j)) (by rw [keysFault_of h12 (userKeys_keys hz user time) (userKeys_rises hz user time)]) h4096 (by omega) hgood
      have hs := pSigners_ev (userKeys l user time) data (addsOf data (l.take j)) hb
      unfold signersRes at hs
      rw [hf, if_pos rfl] at hs
      refine ev_bind hs (ev_if_pos rfl ?_)
      refine top_each l h0.2 user time v3 hz _ (fun x hx => (List.mem_filter.1 hx).1) ?_ ?_ _ 0 (Nat.zero_add _)
      · have h12' : ((userKeys l user time).length : Int) ≤ 12 := h12
        have := List.length_filter_le (hasSig data (addsOf data (l.take j))) (userKeys l user time)
        omega
      · by_cases hlong : (l.length : Int) > 24
        · exact .inl hlong
        · refine .inr ?_
          have hjl : j = l.length := by
            rcases hor with h | h
            · exact h
            · have := addsOf_len data (l.take j)
              rw [List.length_take] at this
              omega
          subst hjl
          refine List.filter_eq_self.2 fun x hx => ?_
          obtain ⟨k1, _, _⟩ := (mem_userKeys hz user time x).1 hx
          obtain ⟨e, he, h1, rfl⟩ := kt_mem k1
          unfold hasSig
          refine List.any_eq_true.2 ⟨sgOf data e, ?_, decide_eq_true ⟨rfl, rfl⟩⟩
          rw [List.take_of_length_le (Nat.le_refl _)]
          exact List.mem_map.2 ⟨e, List.mem_filter.2 ⟨he, by simpa using h1⟩, rfl⟩
  by_cases hc : (keysF l user time).2.1 = 0
  · refine ev_if_pos hc ?_
    by_cases h12 : ((keysF l user time).1.length : Int) > 12
    · exact ev_if_pos h12 (late true (fun h => by cases h))
    · refine ev_if_neg h12 (late _ fun h => ⟨hc, by omega, ?_⟩)
      have := of_decide_eq_false h
      omega
  · exact ev_if_neg hc (late true (fun h => by cases h))
end Go.Proofs.Ytnkonhplfldlmaa.Pure
