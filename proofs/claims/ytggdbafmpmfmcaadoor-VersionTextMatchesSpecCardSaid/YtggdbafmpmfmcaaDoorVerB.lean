/- version.Clone makes a copy of its own (own work). Condition: fewer than a million identifiers. -/
import Derived.Test.YtggdbafmpmfmcaaDoorVer
import Derived.Test.YtggdbafmpmfmcaaDoorFn0
import Derived.Test.YtggdbafmpmfmcaaDoorTight
import Derived.WalkKit
import Derived.Lib.Walk
import Derived.Lib.SliceRun
set_option linter.unusedVariables false
set_option linter.unusedSimpArgs false
namespace Go.Proofs.YtggdbafmpmfmcaaDoor.Fn
open Go Go.RowKit Go.Proofs.YtggdbafmpmfmcaaDoorW.PrintWords Go.Proofs.YtggdbafmpmfmcaaDoorW.PrintLast Go.Proofs.YtggdbafmpmfmcaaDoorW.PrintMore
theorem blk_put4 {w : World} {g : Nat} {t : TypeId} {v0 v1 v2 v3 u0 u1 u2 u3 : Value} (h : w.heap[g]? = some (.cells #[v0, v1, v2, v3] t (0, 0))) :
    ((((w.setCell ⟨g, 0, none⟩ u0).setCell ⟨g, 1, none⟩ u1).setCell ⟨g, 2, none⟩ u2).setCell ⟨g, 3, none⟩ u3).heap[g]? = some (.cells #[u0, u1, u2, u3] t (0, 0)) :=
  blk_put (cs := #[u0, u1, u2, v3]) (blk_put (cs := #[u0, u1, v2, v3]) (blk_put (cs := #[u0, v1, v2, v3]) (blk_put h 0 u0 rfl) 1 u1 rfl) 2 u2 rfl) 3 u3 rfl
theorem info_str : (Tryd.prog.info? 9).map (fun i => (i.zero, i.size, i.bytes)) = some (some (.string ⟨#[]⟩), 1, 16) := by kernel_rfl
set_option maxHeartbeats 4000000 in
set_option maxRecDepth 100000 in
theorem clone_calls (a b c : Int) (A0 : Option Addr) (c0 : Nat) (l : List ByteArray) (w : World) (hr0 : Kd.C Kd.string w A0 l.length l) (hc0 : l.length ≤ c0) (hbig : l.length ≤ 1000000) :
    Calls Tryd.prog 49 #[.agg #[.int .i64 a, .int .i64 b, .int .i64 c, .slice A0 l.length c0]] w fun e w' => ∃ v3_ : Value, e = .returned (.agg #[.int .i64 a, .int .i64 b, .int .i64 c, v3_]) ∧ Kd.R Kd.string 9 w' w.heap.size (fun _ => True) v3_ l ∧ Below w.heap.size w w' := by
  have hu := Tryd.underlying22
  have hu24 := Tryd.underlying24
  obtain ⟨i0, hi, hz0, hz1, hz2⟩ := info_parts info_str
  cases A0 with
  | none =>
    have h0 : l = [] := by
      obtain ⟨_, _, h⟩ := hr0
      rcases Nat.eq_zero_or_pos l.length with h0 | h0
      · exact List.length_eq_zero_iff.1 h0
      · obtain ⟨ad, e, _⟩ := h h0
        cases e
    subst h0
    clear hr0 hc0 hbig hi hz0 hz1 hz2
    go_enter Tryd.func49, Tryd.ntmps49
    go_wp2
    refine bodyPost_ret (results_cell_row rfl _ _ (w.heap.size + 1) 24 #[.int .i64 a, .int .i64 b, .int .i64 c, .slice none 0 0] (0, 0) _ rfl (by rw [show w.heap.size + 1 = (w.alloc (Obj.cells #[.int .i64 a, .int .i64 b, .int .i64 c, .slice none 0 0] 24)).heap.size from by simp]; exact blk_new _ _) hu24 rfl (by kernel_rfl)) rfl ?_
    exact ⟨_, rfl, Kd.R_nil _ _ _ _ _, below_alloc (below_alloc (Below.refl _ _) _) _⟩
  | some ad =>
    obtain ⟨n, hn⟩ : ∃ n, n = l.length := ⟨_, rfl⟩
    have L := Aside0.mk (show (pw_strs l).length = n from by rw [pw_strs, List.length_map]; omega)
    have B := Aside0.mk hbig
    have H := Aside0.mk (show ∀ (j : Nat) u, (pw_strs l)[j]? = some u → w.cell? (ad.add j) = some u from fun j u hj => by
      obtain ⟨_, _, h⟩ := hr0
      have hj2 := (List.getElem?_eq_some_iff.1 hj).1
      rw [pw_strs, List.length_map] at hj2
      obtain ⟨ad', e, hc⟩ := h (by omega)
      cases e
      obtain ⟨cs, _, hr, hcell⟩ := hc j _ (List.getElem?_eq_getElem hj2)
      have e : cs = [.string l[j]] := hr
      subst e
      have hu : u = .string l[j] := by
        rw [pw_strs, List.getElem?_map, List.getElem?_eq_getElem hj2] at hj
        exact (Option.some.inj hj).symm
      subst hu
      simpa [show Kd.string.sz = 1 from rfl] using hcell 0 _ rfl)
    have N := Aside0.mk hn
    rw [← hn] at hc0 ⊢
    clear hbig hr0 hn hc0
    go_enter Tryd.func49, Tryd.ntmps49
    go_wp2_with (at_builtin; refine wpList_append_own _ rfl _ _ 22 rfl (w.heap.size + 2) 9 i0 (.string ⟨#[]⟩) 1 16 hu hi hz0 hz1 hz2 rfl (by decide) _ _ _ rfl (World.ownsRow_nil _ _ _ _) ad n c0 (pw_strs l) rfl ?qc1 ?qc2 ?qc3 ?qc4 ?qc5 (by simp) ?_)
    case qc1 => first | exact L.out | (rw [Nat.mul_one]; exact L.out)
    case qc2 => exact fun j u hj => Lib.cell?_alloc_some _ (Lib.cell?_alloc_some _ (H.out j u hj))
    case qc3 => intro u hu; obtain ⟨x, _, rfl⟩ := List.mem_map.1 hu; rfl
    case qc4 => have := B.out; have := N.out; unfold maxLen; omega
    case qc5 => have := B.out; have := N.out; omega
    intro v' w1 hown hgrow hnil
    have hb1 : w1.heap[w.heap.size]? = some (.cells #[.int .i64 a, .int .i64 b, .int .i64 c, .slice (some ad) n c0] 24 (0, 0)) := (hgrow.block _ (by simp; omega) (by simp [Value.ownBlock])).trans (blk_alloc (blk_new _ _) _)
    have hb2 : w1.heap[w.heap.size + 1]? = some (.cells #[.int .i64 0, .int .i64 0, .int .i64 0, .slice none 0 0] 24 (0, 0)) := (hgrow.block _ (by simp) (by simp [Value.ownBlock])).trans (by rw [show w.heap.size + 1 = (w.alloc (Obj.cells #[.int .i64 a, .int .i64 b, .int .i64 c, .slice (some ad) n c0] 24)).heap.size from by simp]; exact blk_new _ _)
    have hbel : Below w.heap.size w w1 := (below_alloc (below_alloc (Below.refl _ _) _) _).grown hgrow (by simp; omega) (by intro k hk; simp [Value.ownBlock] at hk)
    have hR : Kd.R Kd.string 9 w1 (w.heap.size + 2) (fun k => w.heap.size + 2 ≤ k) v' l := Kd.R_of_own (enc := Value.string) (by rw [N.out] at hown; exact hown) (own_base hown)
    have hbase := own_base hown
    obtain ⟨A1, c1, rfl⟩ : ∃ A1 c1, v' = .slice A1 n c1 := by
      rcases hown.2 with ⟨h1, h2⟩ | ⟨g, cap, cur, h1, _⟩
      · have : n = 0 := by first | exact h2 | exact h2.1
        exact ⟨none, 0, by rw [this]; exact h1⟩
      · exact ⟨_, _, h1⟩
    have HO := Aside0.mk hown
    have HG := Aside0.mk hbel
    have HR := Aside0.mk hR
    have H1 := Aside0.mk hb1
    have H2 := Aside0.mk hb2
    clear hown hgrow hnil hbel hR
    have hc0 := blk_c (v := .int .i64 a) hb1 0 rfl
    have hc1 := blk_c (v := .int .i64 b) hb1 1 rfl
    have hc2 := blk_c (v := .int .i64 c) hb1 2 rfl
    have hc3 := blk_c (v := .slice (some ad) n c0) hb1 3 rfl
    have hf3 := blk_frozen hb1 3
    have hd0 := blk_c (v := .int .i64 0) hb2 0 rfl
    have hd1 := blk_c (v := .int .i64 0) hb2 1 rfl
    have hd2 := blk_c (v := .int .i64 0) hb2 2 rfl
    have hd3 := blk_c (v := .slice none 0 0) hb2 3 rfl
    have hg0 := blk_frozen hb2 0
    have hg1 := blk_frozen hb2 1
    have hg2 := blk_frozen hb2 2
    have hg3 := blk_frozen hb2 3
    clear hb1 hb2
    go_wp2
    have hR := HR.out
    have hf : ∀ (k : Nat), w.heap.size + 2 ≤ k → k ≠ w.heap.size + 1 := fun k hk => by omega
    refine bodyPost_ret (results_cell_row rfl _ _ (w.heap.size + 1) 24 #[.int .i64 a, .int .i64 b, .int .i64 c, .slice A1 n c1] (0, 0) _ rfl (blk_put4 (blk_far H2.out (by simp) _)) hu24 rfl (by kernel_rfl)) rfl ?_
    exact ⟨_, rfl, Kd.R_mono (Kd.R_lower (Kd.R_far (Kd.R_far (Kd.R_far (Kd.R_far (Kd.R_far hR (fun k hk => by show k ≠ w.heap.size; omega) _) hf _) hf _) hf _) hf _) (by omega)) (fun _ _ => trivial),
      below_set (below_set (below_set (below_set (below_set HG.out (Nat.le_refl _)) (by omega)) (by omega)) (by omega)) (by omega)⟩
end Go.Proofs.YtggdbafmpmfmcaaDoor.Fn
