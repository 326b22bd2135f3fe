/- A row of bytes that '[]byte("constant")' makes: its mark stands behind its last cell, so the row is only read (own work). Kf: such a row; what it reads, how it stays, and what the mark leaves as it is. -/
import Derived.Lib.SlBytesConst
import Derived.Test.YtdelkdlegokbjaaWA
set_option linter.unusedVariables false
namespace Go.Proofs.Ytdelkdlegokbjaa.Bc
open Go.RowKit Go.Proofs.YtdelkdlegokbjaaW.PrintWords
def Kf (e : Nat) (w : World) (base : Nat) (v : Value) (xs : List Int) : Prop :=
  ∃ g c cells fz, v = .slice (some ⟨g, 0, none⟩) xs.length c ∧ base ≤ g ∧ xs.length ≤ c ∧ w.heap[g]? = some (.cells cells e fz) ∧ (Kd.int .u8).C w (some ⟨g, 0, none⟩) xs.length xs
variable {e base : Nat} {w w1 W : World} {v : Value} {xs : List Int}
theorem Kf_of_R {ok : Nat → Prop} (h : (Kd.int .u8).R e w base ok v xs) (hp : 0 < xs.length) : Kf e w base v xs := by
  obtain ⟨g, cap, rfl, hg, hlt, cells, hc⟩ := Kd.R_form h hp
  obtain ⟨_, h2, h3⟩ := Kd.R_reads' h
  exact ⟨g, cap, cells, (0, 0), rfl, hg, h2, hc, h3⟩
theorem Kf_below (h : Kf e w base v xs) (hb : Below w.heap.size w w1) : Kf e w1 base v xs := by
  obtain ⟨g, c, cells, fz, rfl, hg, hc, hh, hC⟩ := h
  refine ⟨g, c, cells, fz, rfl, hg, hc, ?_, Kd.C_below hC hb⟩
  rw [hb.block g (Array.getElem?_eq_some_iff.1 hh).1]
  exact hh
theorem Kf_lower {base' : Nat} (h : Kf e w base v xs) (hb : base' ≤ base) : Kf e w base' v xs := by
  obtain ⟨g, c, cells, fz, rfl, hg, r⟩ := h
  exact ⟨g, c, cells, fz, rfl, Nat.le_trans hb hg, r⟩
theorem Kf_mono {P : Prop} (h : Kf e w base v xs) (_ : P) : Kf e w base v xs := h
theorem Kf_alloc (h : Kf e w base v xs) (o : Obj) : Kf e (w.alloc o) base v xs := Kf_below h (below_alloc (Below.refl _ _) o)
theorem Kf_drew (h : Kf e w base v xs) : Kf e w.drew base v xs := Kf_below h (below_drew (Below.refl _ _))
theorem Kf_drewN (h : Kf e w base v xs) (m : Nat) : Kf e (w.drewN m) base v xs := Kf_below h (pw_below_drewN (Below.refl _ _) m)
theorem Kf_slice (h : Kf e w base v xs) : ∃ A c, v = .slice A xs.length c := by
  obtain ⟨g, c, cells, fz, rfl, _⟩ := h
  exact ⟨_, _, rfl⟩
theorem Kf_reads' {A : Option Addr} {n c : Nat} (h : Kf e w base (.slice A n c) xs) : n = xs.length ∧ n ≤ c ∧ (Kd.int .u8).C w A xs.length xs := by
  obtain ⟨g, c', cells, fz, he, hg, hc, hh, hC⟩ := h
  injection he with h1 h2 h3
  subst h1 h2 h3
  exact ⟨rfl, hc, hC⟩
theorem Kf_sep {g : Nat} {cs : Array Value} {q : TypeId} {fz : Nat × Nat} (h : Kf e w base v xs) (hb : w.heap[g]? = some (.cells cs q fz)) (hq : e ≠ q) : ∀ k, v.ownBlock = some k → k ≠ g := by
  obtain ⟨g2, c, cells, fz2, rfl, hg, hc, hh, hC⟩ := h
  intro k hk he
  have h2 : g2 = k := by simpa [Value.ownBlock] using hk
  subst h2 he
  rw [hb] at hh
  injection hh with hh
  injection hh with _ h2 _
  exact hq h2.symm
theorem Kf_far (h : Kf e w base v xs) {p : Addr} (hne : ∀ k, v.ownBlock = some k → k ≠ p.block) (u : Value) : Kf e (w.setCell p u) base v xs := by
  obtain ⟨g, c, cells, fz, rfl, hg, hc, hh, hC⟩ := h
  have hk : g ≠ p.block := hne g (by simp [Value.ownBlock])
  refine ⟨g, c, cells, fz, rfl, hg, hc, (Below.heap_setCell w p u g hk).trans hh, hC.1, hC.2.1, fun hn => ?_⟩
  obtain ⟨ad, ha, hcl⟩ := hC.2.2 hn
  injection ha with ha
  subst ha
  refine ⟨_, rfl, fun j q hj => ?_⟩
  obtain ⟨cs, h1, h2, h3⟩ := hcl j q hj
  refine ⟨cs, h1, h2, fun i u' hu => ?_⟩
  have hb : ((⟨g, 0, none⟩ : Addr).add (j * (Kd.int .u8).sz + i)).block = g := by
    unfold Addr.add
    split <;> simp_all
  rw [← h3 i u' hu]
  simp only [World.cell?, hb, Below.heap_setCell w p u g hk]
theorem heap_freeze (w : World) (p : Addr) (n : Nat) (k : Nat) (hk : k ≠ p.block) : (w.freeze p n).heap[k]? = w.heap[k]? := by
  unfold World.freeze
  split
  · rfl
  · simp only [Array.getElem?_modify]
    rw [if_neg (Ne.symm hk)]
theorem size_freeze (w : World) (p : Addr) (n : Nat) : (w.freeze p n).heap.size = w.heap.size := by
  unfold World.freeze
  split
  · rfl
  · simp
theorem heap_freeze_at (w : World) (p : Addr) (n : Nat) {cells : Array Value} {e : TypeId} {fz : Nat × Nat} (h : w.heap[p.block]? = some (.cells cells e fz)) : ∃ fz', (w.freeze p n).heap[p.block]? = some (.cells cells e fz') := by
  unfold World.freeze
  split
  · exact ⟨fz, h⟩
  · obtain ⟨lo, hi⟩ := fz
    simp only [Array.getElem?_modify, if_true, h, Option.map_some]
    exact ⟨_, rfl⟩
theorem cell_freeze (w : World) (p : Addr) (n : Nat) (hp : ∃ cells e fz, w.heap[p.block]? = some (.cells cells e fz)) {a : Addr} {u : Value} (h : w.cell? a = some u) : (w.freeze p n).cell? a = some u := by
  obtain ⟨cells, e, fz, hc⟩ := hp
  by_cases hk : a.block = p.block
  · obtain ⟨fz', hf⟩ := heap_freeze_at w p n hc
    rw [← h]
    simp only [World.cell?, hk, hf, hc]
  · rw [← h]
    simp only [World.cell?, heap_freeze w p n a.block hk]
theorem C_freeze {α : Type} {d : Kd α} {A : Option Addr} {n : Nat} {ys : List α} (p : Addr) (m : Nat) (hp : ∃ cells e fz, w.heap[p.block]? = some (.cells cells e fz))
    (hK : ∀ x cs, d.K w x cs → d.K (w.freeze p m) x cs) (h : d.C w A n ys) : d.C (w.freeze p m) A n ys := by
  refine ⟨h.1, h.2.1, fun hn => ?_⟩
  obtain ⟨ad, ha, hc⟩ := h.2.2 hn
  refine ⟨ad, ha, fun j q hj => ?_⟩
  obtain ⟨c, h1, h2, h3⟩ := hc j q hj
  exact ⟨c, h1, hK _ _ h2, fun i u hu => cell_freeze w p m hp (h3 i u hu)⟩
/-- The block that is marked: a row of e's. -/
def Rows (e : Nat) (w : World) (g : Nat) : Prop := ∃ cells fz, w.heap[g]? = some (.cells cells e fz)
theorem Kf_freeze (h : Kf e w base v xs) (p : Addr) (m : Nat) (hp : Rows e w p.block) : Kf e (w.freeze p m) base v xs := by
  obtain ⟨g, c, cells, fz, rfl, hg, hc, hh, hC⟩ := h
  obtain ⟨cells2, fz2, hp⟩ := hp
  have hC' := C_freeze (d := Kd.int .u8) p m ⟨cells2, e, fz2, hp⟩ (fun _ _ h => h) hC
  by_cases hk : g = p.block
  · subst hk
    obtain ⟨fz', hf⟩ := heap_freeze_at w p m hp
    exact ⟨p.block, c, cells2, fz', rfl, hg, hc, hf, hC'⟩
  · exact ⟨g, c, cells, fz, rfl, hg, hc, by rw [heap_freeze w p m g hk]; exact hh, hC'⟩
theorem R_freeze {α : Type} {d : Kd α} {q : Nat} {ok : Nat → Prop} {ys : List α} (h : d.R q w base ok v ys) (p : Addr) (m : Nat) (hp : Rows e w p.block) (hne : e ∉ q :: d.E) : d.R q (w.freeze p m) base ok v ys := by
  refine Kd.R_mono (Kd.R_step (Kd.R_bound h) (fun k hk _ => heap_freeze w p m k (fun he => ?_))) (fun k hk => hk.1)
  obtain ⟨cells, fz, hc⟩ := hp
  obtain ⟨q', hq, cells', hc'⟩ := hk.2.2.2
  rw [he, hc] at hc'
  injection hc' with hc'
  injection hc' with _ h2 _
  subst h2
  exact hne hq
theorem blk_freeze {k : Nat} {cells : Array Value} {q : TypeId} {fz : Nat × Nat} (h : w.heap[k]? = some (.cells cells q fz)) (p : Addr) (m : Nat) (hp : Rows e w p.block) (hne : e ≠ q) : (w.freeze p m).heap[k]? = some (.cells cells q fz) := by
  obtain ⟨c2, f2, hp⟩ := hp
  rw [heap_freeze w p m k (fun he => ?_)]
  · exact h
  · rw [he, hp] at h
    injection h with h
    injection h with _ h2 _
    exact hne h2
theorem below_freeze {B : Nat} {w0 : World} (h : Below B w0 W) (p : Addr) (m : Nat) (hp : B ≤ p.block) : Below B w0 (W.freeze p m) := by
  have hs := size_freeze W p m
  refine ⟨?_, ?_, ?_, by rw [hs]; exact h.size, fun k hk => by rw [heap_freeze W p m k (by omega)]; exact h.block k hk⟩
  all_goals
    unfold World.freeze
    split
    · first | exact h.os | exact h.tape | exact h.output
    · first | exact h.os | exact h.tape | exact h.output
theorem C_freezeR {α : Type} {d : Kd α} {A : Option Addr} {n : Nat} {ys : List α} (h : d.C w A n ys) (p : Addr) (m : Nat) (hp : Rows e w p.block) (hK : ∀ x cs, d.K w x cs → d.K (w.freeze p m) x cs) : d.C (w.freeze p m) A n ys := by
  obtain ⟨c, f, hp⟩ := hp
  exact C_freeze p m ⟨c, e, f, hp⟩ hK h
variable {P : Program}
theorem run_conv {t : TypeId} (ht : P.underlying t = some (.slice e)) (he : P.underlying e = some (.int .u8)) {g n c : Nat} {cells : Array Value} {fz : Nat × Nat} (hh : w.heap[g]? = some (.cells cells e fz)) :
    (convert t t (.slice (some ⟨g, 0, none⟩) n c)).run P w = .ok (.slice (some ⟨g, 0, none⟩) n c) (w.freeze ⟨g, cells.size, none⟩ 1) := by
  have hsh : w.shape? g = some (e, cells.size) := by
    unfold World.shape?
    rw [hh]
  simp [convert, run_underlying ht, run_underlying he, markStringish, hsh]
/-- The conversion of a row that is only read: what it comes to, and that the block marked is a row of e's that lies behind 'base'. -/
theorem Kf_conv {t : TypeId} (ht : P.underlying t = some (.slice e)) (he : P.underlying e = some (.int .u8)) (h : Kf e w base v xs) :
    ∃ p : Addr, Rows e w p.block ∧ base ≤ p.block ∧ (convert t t v).run P w = .ok v (w.freeze p 1) := by
  obtain ⟨g, c, cells, fz, rfl, hg, hc, hh, hC⟩ := h
  exact ⟨⟨g, cells.size, none⟩, ⟨cells, fz, hh⟩, hg, run_conv ht he hh⟩
end Go.Proofs.Ytdelkdlegokbjaa.Bc
