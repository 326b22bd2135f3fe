/- What is read as data at a type is a value of a printed kind (whole numbers, bools, strings, slices, structs). No condition. -/
import Derived.Test.YtggdbafmpmfmcaaDoorWA
import Derived.ChangeArms
import Derived.ChangeSlices
import Derived.Deep.Slices
import Derived.SizedLaws
import Derived.KernelRfl
set_option linter.unusedVariables false
namespace Go.Proofs.YtggdbafmpmfmcaaDoor.Opens
open Go.RowKit Go.ChangeShapes Go.WideShapes Go.Deep Go.Proofs.YtggdbafmpmfmcaaDoorW.PrintWords

theorem list_of {α : Type} {p : Nat → α → Prop} : ∀ n : Nat, (∀ i, i < n → ∃ x, p i x) → ∃ xs : List α, xs.length = n ∧ ∀ i x, xs[i]? = some x → p i x
  | 0, _ => ⟨[], rfl, fun i x h => by simp at h⟩
  | n + 1, h => by
    obtain ⟨xs, hl, hx⟩ := list_of n (fun i hi => h i (by omega))
    obtain ⟨x, hp⟩ := h n (by omega)
    refine ⟨xs ++ [x], by simp [hl], fun i y hy => ?_⟩
    by_cases hi : i < xs.length
    · rw [List.getElem?_append_left hi] at hy
      exact hx i y hy
    · have hi2 : i = n := by
        have := (List.getElem?_eq_some_iff.1 hy).1
        rw [List.length_append, List.length_singleton] at this
        omega
      subst hi2
      rw [← hl] at hy
      have : x = y := by simpa using hy
      subst this
      exact hp

variable {H : Type}

def Opens {α : Type} (enc : TypeId × Value → H) (P : Program) (t : TypeId) (d : Kd α) (wf : α → Prop) : Prop :=
  ∀ (w : World) (fuel : Nat) (cs : List Value) (y : DataW H × List MemPlace), DataW.trod enc P w 0 (fun _ => true) true fuel t cs = some y → (∀ n ∈ y.1.weights P t, n ≤ 140737488351232) → ∃ x, d.K w x cs ∧ wf x
def OpensF {α : Type} (enc : TypeId × Value → H) (P : Program) (fs : List Field) (off : Nat) (d : Kd α) (wf : α → Prop) : Prop :=
  ∀ (w : World) (n : Nat) (cs : List Value) (ys : List (DataW H × List MemPlace)), cs.length = off + d.sz → ys.length = fs.length →
    (∀ (i : Nat) (f : Field), fs[i]? = some f → DataW.trod enc P w 0 (fun _ => true) true n f.type ((cs.drop f.offset).take (P.cellsOf f.type)) = ys[i]?) →
    (∀ m ∈ DataW.weightsEach P (fs.map (·.type)) (ys.map (·.1)), m ≤ 140737488351232) → ∃ x, d.K w x (cs.drop off) ∧ wf x

variable {enc : TypeId × Value → H} {P : Program}

theorem opens_int {t : TypeId} {k : IntKind} (h : P.underlying t = some (.int k)) : Opens enc P t (Kd.int k) (fun x => (Lit.int k x).wf = true) := by
  intro w fuel cs y hf _
  obtain ⟨n, rfl, _, hw⟩ := DataW.trod_int h hf
  exact ⟨n, rfl, hw⟩
theorem opens_bool {t : TypeId} (h : P.underlying t = some .bool) : Opens enc P t Kd.bool (fun _ => True) := by
  intro w fuel cs y hf _
  obtain ⟨b, rfl, _⟩ := DataW.trod_bool h hf
  exact ⟨b, rfl, trivial⟩
theorem opens_string {t : TypeId} (h : P.underlying t = some .string) : Opens enc P t Kd.string (fun s => s.size ≤ 140737488351232) := by
  intro w fuel cs y hf hw
  obtain ⟨s, rfl, rfl, _⟩ := DataW.trod_string h hf
  refine ⟨s, rfl, ?_⟩
  have := hw s.data.toList.length (by simp [DataW.weights])
  simpa using this
theorem weightsAll_mem : ∀ {e : TypeId} {l : List (DataW H)} {d : DataW H}, d ∈ l → ∀ n ∈ d.weights P e, n ∈ DataW.weightsAll P e l
  | e, [], d, h, n, hn => by simp at h
  | e, x :: l, d, h, n, hn => by
    simp only [DataW.weightsAll, List.mem_append]
    rcases List.mem_cons.1 h with rfl | h
    · exact Or.inl hn
    · exact Or.inr (weightsAll_mem h n hn)
theorem opens_slice {α : Type} {t e B : Nat} {d : Kd α} {wf : α → Prop} (ht : P.underlying t = some (.slice e)) (hc : P.cellsOf e = d.sz) (hB : P.bytesOf e = B) (he : Opens enc P e d wf) :
    Opens enc P t (Kd.slice e d) (fun xs => xs.length * B ≤ 140737488351232 ∧ ∀ x ∈ xs, wf x) := by
  intro w fuel cs y hf hw
  rcases open_slice ht hf with ⟨rfl, rfl⟩ | ⟨a, len, cap, m, n, D, Pl, rfl, _, hl, hm, hmm, rfl, hx⟩
  · exact ⟨[], ⟨none, 0, rfl, Nat.le_refl _, rfl, by simp, fun h => absurd h (by simp)⟩, by simp, fun x h => by simp at h⟩
  · simp only [if_true] at hmm
    subst hmm
    have hws : ∀ i, i < len → ∀ k ∈ (D i).weights P e, k ≤ 140737488351232 := by
      intro i hi k hk
      refine hw k ?_
      simp only [DataW.weights, ht]
      refine List.mem_cons_of_mem _ (List.mem_append.2 (Or.inl (weightsAll_mem (d := D i) ?_ k hk)))
      exact List.mem_map.2 ⟨i, List.mem_range.2 hi, rfl⟩
    have hlen : len * B ≤ 140737488351232 := by
      have := hw ((List.map D (List.range len)).length + (List.map (fun j => D (len + j)) (List.range (m - len))).length |>.mul B) (by
        simp only [DataW.weights, ht, hB]
        exact List.mem_cons_self)
      simp only [List.length_map, List.length_range, Nat.mul_eq] at this
      exact Nat.le_trans (Nat.mul_le_mul_right _ (by omega)) this
    obtain ⟨xs, hxl, hxs⟩ := list_of (p := fun i x => ∃ cs', w.cells? 0 (a.add (i * P.cellsOf e)) (P.cellsOf e) = some cs' ∧ d.K w x cs' ∧ wf x) len (fun i hi => by
      obtain ⟨cs', h1, h2⟩ := hx i (by omega)
      obtain ⟨x, hk, hwf⟩ := he w n cs' _ h2 (hws i hi)
      exact ⟨x, cs', h1, hk, hwf⟩)
    refine ⟨xs, ⟨some a, m, by rw [hxl], by omega, rfl, ?_, fun _ => ⟨a, rfl, fun j p hj => ?_⟩⟩, by rw [hxl]; exact hlen, fun x hxm => ?_⟩
    · rw [hxl]
      unfold maxLen at hm
      omega
    · obtain ⟨cs', h1, hk, _⟩ := hxs j p hj
      obtain ⟨_, hcl, hcell⟩ := World.cells?_some h1
      refine ⟨cs', by rw [hcl, hc], hk, fun i u hu => ?_⟩
      have hi : i < P.cellsOf e := by
        have := (List.getElem?_eq_some_iff.1 hu).1
        omega
      have := hcell i hi
      rw [hu] at this
      rw [← this, hc, ← Deep.add_add]
    · obtain ⟨i, hi⟩ := List.getElem?_of_mem hxm
      obtain ⟨_, _, _, hwf⟩ := hxs i x hi
      exact hwf
theorem opensF_one {α : Type} {f : Field} {off : Nat} {d : Kd α} {wf : α → Prop} (ho : f.offset = off) (hc : P.cellsOf f.type = d.sz) (h : Opens enc P f.type d wf) : OpensF enc P [f] off d wf := by
  intro w n cs ys hl hy hx hw
  match ys, hy with
  | [y], _ =>
    have h0 := hx 0 f rfl
    rw [ho, hc, List.take_of_length_le (by rw [List.length_drop, hl]; omega)] at h0
    refine h w n _ y h0 (fun m hm => hw m ?_)
    simp only [List.map_cons, List.map_nil, DataW.weightsEach, List.append_nil]
    exact hm
theorem opensF_cons {α β : Type} {f : Field} {fs : List Field} {off : Nat} {a : Kd α} {b : Kd β} {wfa : α → Prop} {wfb : β → Prop} (ho : f.offset = off) (hc : P.cellsOf f.type = a.sz) (h : Opens enc P f.type a wfa) (hs : OpensF enc P fs (off + a.sz) b wfb) :
    OpensF enc P (f :: fs) off (Kd.pair a b) (fun x => wfa x.1 ∧ wfb x.2) := by
  intro w n cs ys hl hy hx hw
  have hsz : (Kd.pair a b).sz = a.sz + b.sz := rfl
  rw [hsz] at hl
  match ys, hy with
  | y :: ys, hy =>
    have h0 := hx 0 f rfl
    rw [ho, hc] at h0
    obtain ⟨x0, hk0, hw0⟩ := h w n _ y h0 (fun m hm => hw m (by
      simp only [List.map_cons, DataW.weightsEach, List.mem_append]
      exact Or.inl hm))
    obtain ⟨x1, hk1, hw1⟩ := hs w n cs ys (by omega) (by simpa using hy) (fun i g hg => by simpa using hx (i + 1) g (by simpa using hg)) (fun m hm => hw m (by
      simp only [List.map_cons, DataW.weightsEach, List.mem_append]
      exact Or.inr hm))
    refine ⟨(x0, x1), ⟨_, _, ?_, hk0, hk1⟩, hw0, hw1⟩
    rw [← List.drop_drop, List.take_append_drop]
theorem opens_struct {α β : Type} {t : TypeId} {fs : Array Field} {d : Kd α} {wf : α → Prop} (ht : P.underlying t = some (.struct fs)) (hc : P.cellsOf t = d.sz) (h : OpensF enc P fs.toList 0 d wf) (f : β → α) (g : α → β) (hfg : ∀ x, f (g x) = x) :
    Opens enc P t (Kd.iso d f) (fun x => wf (f x)) := by
  intro w fuel cs y hf hw
  obtain ⟨xs, n, rfl, rfl, hcl, hxl, hx⟩ := DataW.trod_struct ht hf
  obtain ⟨x, hk, hwf⟩ := h w n cs xs (by rw [hcl, hc]; omega) (by simpa using hxl) (fun i f hf => hx i f (by simpa using hf)) (fun m hm => hw m (by
    simp only [DataW.weights, ht]
    exact hm))
  refine ⟨g x, ?_, by show wf (f (g x)); rw [hfg]; exact hwf⟩
  show d.K w (f (g x)) cs
  rw [hfg]
  simpa using hk
theorem opens_arg {α : Type} {t : TypeId} {d : Kd α} {wf : α → Prop} {ts : List TypeId} {ds : List (DataW H)} {j : Nat} {w : World} {v : Value} {y : DataW H} {ps : List MemPlace} (h : Opens enc P t d wf) (hsz : (DataW.weightsEach P ts ds).all (· ≤ reachBytes) = true) (ht : ts[j]? = some t) (hd : ds[j]? = some y)
    (hv : DataW.Trod enc P w 0 (fun _ => true) true t v y ps) : ∃ x, d.K w x v.cells.toList ∧ wf x := by
  obtain ⟨fuel, hf⟩ := hv
  refine h w fuel _ _ hf (fun n hn => ?_)
  have := List.all_eq_true.1 hsz n (DataW.weights_mem_each ht hd n hn)
  have h2 : n ≤ reachBytes := of_decide_eq_true this
  exact h2
end Go.Proofs.YtggdbafmpmfmcaaDoor.Opens
