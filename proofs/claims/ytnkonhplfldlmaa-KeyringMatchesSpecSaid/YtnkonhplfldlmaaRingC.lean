/- keyring.Keys answers as the events say, by scanning them, whatever order the map is met in (own work). Condition: the events' keys are numbers of the machine. -/
import Derived.Test.YtnkonhplfldlmaaRingB
import Derived.Test.YtnkonhplfldlmaaShelf
import Derived.Test.YtnkonhplfldlmaaWA
import Derived.Sort.OwnSorted
namespace Go.Proofs.Ytnkonhplfldlmaa.Fn
open Go Go.Maps Go.Sort Go.Shelf Go.RowKit Go.Proofs.YtnkonhplfldlmaaW.PrintWords Go.Proofs.YtnkonhplfldlmaaW.PrintLast Go.Proofs.YtnkonhplfldlmaaW.PrintMore Go.Proofs.Ytnkonhplfldlmaa.PtrMap
attribute [local go_sem high] eqA24
set_option linter.unusedVariables false
set_option linter.unusedSimpArgs false
def keysF (l : List S45) (user time : Int) : List Int × Int × Int :=
  if (ringFault l).1 ≠ 0 then ([], ringFault l) else if ¬ ((0 ≤ user ∧ user ≤ 7) ∧ (0 ≤ time ∧ time ≤ 100000)) then ([], 3, -1) else (userKeys l user time, 0, 0)
theorem grownBy_sorted_int {w : World} {g n : Nat} {os : Array Obj} (d : Array Int) : w.grownBy (grow (putRow (Value.int .i64) (Sort.ahead w n) g 0 d) os) (some g) := by
  refine ⟨rfl, rfl, rfl, by simp, fun k hk hne => ?_⟩
  rw [heap_grow_old _ _ (by simpa using hk)]
  have : g ≠ k := fun e => hne (by rw [e])
  simp [putRow, mapBlock, Sort.ahead, Array.getElem?_modify, this]
theorem heap_sorted_int {w : World} {g n : Nat} {os : Array Obj} {cur : Array Value} {e : TypeId} {fr : Nat × Nat} (d : Array Int) (hb : w.heap[g]? = some (.cells cur e fr)) :
    (grow (putRow (Value.int .i64) (Sort.ahead w n) g 0 d) os).heap[g]? = some (.cells (putCells (Value.int .i64) 0 d cur) e fr) := by
  have hg : g < w.heap.size := (Array.getElem?_eq_some_iff.1 hb).1
  rw [heap_grow_old _ _ (by simpa using hg)]
  simp [putRow, mapBlock, Sort.ahead, Array.getElem?_modify, hb, onCells]
theorem take_putCells_int (cur : Array Value) (ts : List Int) (h : ts.length ≤ cur.size) : (putCells (Value.int .i64) 0 ts.toArray cur).toList.take ts.length = ts.map (Value.int .i64) := by
  apply List.ext_getElem?
  intro j
  by_cases hj : j < ts.length
  · rw [List.getElem?_take_of_lt hj, Array.getElem?_toList]
    simp [putCells, hj, show j < cur.size by omega]
  · rw [List.getElem?_take_eq_none (by omega), List.getElem?_eq_none (by simp; omega)]
theorem holds_int {w : World} {g : Nat} {cur : Array Value} {e : TypeId} {ss : List Int} (hb : w.heap[g]? = some (.cells cur e (0, 0))) (ht : cur.toList.take ss.length = ss.map (Value.int .i64)) : Holds (Value.int .i64) w g 0 ss.toArray := by
  intro j hj
  have hj' : j < ss.length := by simpa using hj
  refine ⟨?_, by simp [World.frozen?, hb]⟩
  have h1 : (cur.toList.take ss.length)[j]? = (ss.map (Value.int .i64))[j]? := by rw [ht]
  rw [List.getElem?_take_of_lt hj'] at h1
  simp only [World.cell?, hb, Nat.zero_add]
  simp only [Option.isSome_none, Bool.false_eq_true, if_false]
  rw [← Array.getElem?_toList, h1]
  simp [hj']
/-- 'slices.Sort' at a slice of the call's own. -/
theorem sort_calls {v : Value} {ss : List Int} {W : World} {base : Nat} (ho : Kd.R (Kd.int .i64) 3 W base (fun _ => True) v ss) (hl : ss.length ≤ 1000) :
    Calls Try.prog 46 #[v] W fun e w' => e = .returned (.tuple #[]) ∧ Kd.R (Kd.int .i64) 3 w' base (fun _ => True) v (ss.mergeSort fun x y => decide (x ≤ y)) ∧ W.grownBy w' v.ownBlock := by
  have hown := Kd.own_of_R ho
  rcases hown.2 with ⟨rfl, he⟩ | ⟨g, cap, cur, rfl, hb, hg, hle, hm, hs, ht⟩
  · obtain rfl : ss = [] := List.length_eq_zero_iff.1 he
    refine (Try.slices_Sort_int_none none 0 W).mono ?_
    rintro e w' ⟨rfl, rfl⟩
    exact ⟨rfl, by rw [List.mergeSort_nil]; exact ho, ⟨rfl, rfl, rfl, Nat.le_refl _, fun _ _ _ => rfl⟩⟩
  · rw [Nat.mul_one] at ht
    refine (Try.slices_Sort_int g 0 cap ss W (holds_int hg ht) (blk_lt hg) (by omega)).mono ?_
    rintro e w' ⟨rfl, n, os, rfl⟩
    have hls : (ss.mergeSort fun x y => decide (x ≤ y)).length = ss.length := List.length_mergeSort _
    refine ⟨rfl, ?_, grownBy_sorted_int _⟩
    have hR := Kd.R_of_own (enc := Value.int .i64) (h1 := fun _ => rfl) (e := 3) (w := grow (putRow (Value.int .i64) (Sort.ahead W n) g 0 (ss.mergeSort fun x y => decide (x ≤ y)).toArray) os) (base := base) (ok := fun _ => True) (v := .slice (some ⟨g, 0, none⟩) ss.length cap) (xs := ss.mergeSort fun x y => decide (x ≤ y))
      ⟨by simp [encs], .inr ⟨g, cap, _, by rw [hls], hb, heap_sorted_int _ hg, by rw [hls]; exact hle, hm, by simp [putCells, hs], by rw [Nat.mul_one]; exact take_putCells_int cur _ (by rw [hls]; omega)⟩⟩ (fun _ _ => trivial)
    exact hR
theorem ins_perm (x : Int) : ∀ l : List Int, (ins x l).Perm (x :: l)
  | [] => List.Perm.refl _
  | y :: r => by
    unfold ins
    split
    · exact List.Perm.refl _
    · exact ((ins_perm x r).cons y).trans (List.Perm.swap x y r)
theorem isort_perm : ∀ l : List Int, (isort l).Perm l
  | [] => List.Perm.refl _
  | x :: r => (ins_perm x _).trans ((isort_perm r).cons x)
theorem ins_sorted (x : Int) : ∀ l : List Int, l.Pairwise (· ≤ ·) → (ins x l).Pairwise (· ≤ ·)
  | [], _ => List.pairwise_singleton _ _
  | y :: r, h => by
    unfold ins
    split
    · rename_i hc
      refine List.pairwise_cons.2 ⟨fun z hz => ?_, h⟩
      rcases List.mem_cons.1 hz with rfl | hz
      · exact hc
      · exact Int.le_trans hc ((List.pairwise_cons.1 h).1 z hz)
    · rename_i hc
      refine List.pairwise_cons.2 ⟨fun z hz => ?_, ins_sorted x r (List.pairwise_cons.1 h).2⟩
      rcases List.mem_cons.1 ((ins_perm x r).mem_iff.1 hz) with rfl | hz
      · omega
      · exact (List.pairwise_cons.1 h).1 z hz
theorem isort_sorted : ∀ l : List Int, (isort l).Pairwise (· ≤ ·)
  | [] => List.Pairwise.nil
  | x :: r => ins_sorted x _ (isort_sorted r)
theorem sorted_unique : ∀ {l1 l2 : List Int}, l1.Pairwise (· ≤ ·) → l2.Pairwise (· ≤ ·) → l1.Perm l2 → l1 = l2
  | [], l2, _, _, h => (List.nil_perm.1 h).symm
  | x :: r, [], _, _, h => absurd (List.perm_nil.1 h) (by simp)
  | x :: r, y :: s, h1, h2, h => by
    have hxy : x = y := by
      have hx : x ∈ y :: s := h.mem_iff.1 (List.mem_cons_self ..)
      have hy : y ∈ x :: r := h.mem_iff.2 (List.mem_cons_self ..)
      have a : x ≤ y := by
        rcases List.mem_cons.1 hy with e | e
        · omega
        · exact (List.pairwise_cons.1 h1).1 y e
      have b : y ≤ x := by
        rcases List.mem_cons.1 hx with e | e
        · omega
        · exact (List.pairwise_cons.1 h2).1 x e
      omega
    subst hxy
    rw [sorted_unique (List.pairwise_cons.1 h1).2 (List.pairwise_cons.1 h2).2 (List.Perm.cons_inv h)]
theorem mergeSort_isort {ss l : List Int} (h : ss.Perm l) : (ss.mergeSort fun x y => decide (x ≤ y)) = isort l := by
  have h1 : (ss.mergeSort fun x y => decide (x ≤ y)).Pairwise (· ≤ ·) := by
    have := List.pairwise_mergeSort (le := fun (x y : Int) => decide (x ≤ y)) (fun a b c h1 h2 => by simp at *; omega) (fun a b => by simp; omega) ss
    exact this.imp (fun h => by simpa using h)
  exact sorted_unique h1 (isort_sorted l) ((List.mergeSort_perm ss _).trans (h.trans (isort_perm l).symm))
/-- Two lists without repeats that have the same elements. -/
theorem perm_of_mem : ∀ {l1 l2 : List Int}, l1.Nodup → l2.Nodup → (∀ x, x ∈ l1 ↔ x ∈ l2) → l1.Perm l2
  | [], l2, _, _, h => by
    cases l2 with
    | nil => exact List.Perm.refl _
    | cons y s => exact absurd ((h y).2 (List.mem_cons_self ..)) (by simp)
  | x :: r, l2, h1, h2, h => by
    have hx := (h x).1 (List.mem_cons_self ..)
    have p := List.perm_cons_erase hx
    refine List.Perm.trans (List.Perm.cons x (perm_of_mem (List.nodup_cons.1 h1).2 (h2.erase x) fun y => ?_)) p.symm
    rw [h2.mem_erase_iff]
    constructor
    · intro hy
      exact ⟨fun e => (List.nodup_cons.1 h1).1 (e ▸ hy), (h y).1 (List.mem_cons_of_mem _ hy)⟩
    · rintro ⟨hne, hy⟩
      rcases List.mem_cons.1 ((h y).2 hy) with e | e
      · exact absurd e hne
      · exact e
theorem length_le_of_mem {l1 l2 : List Int} (h1 : l1.Nodup) (h : ∀ x ∈ l1, x ∈ l2) : l1.length ≤ l2.length := by
  induction l1 generalizing l2 with
  | nil => exact Nat.zero_le _
  | cons x r ih =>
    have hx := h x (List.mem_cons_self ..)
    have p := List.perm_cons_erase hx
    have := ih (l2 := l2.erase x) (List.nodup_cons.1 h1).2 (fun y hy => (List.mem_erase_of_ne (fun e => (List.nodup_cons.1 h1).1 (by rw [← e]; exact hy))).2 (h y (List.mem_cons_of_mem _ hy)))
    rw [p.length_eq]
    simp only [List.length_cons]
    omega
/-- What the map that the loop is over says, once and for all. -/
structure KD (l0 : List S45) (F : Int → Option Nat) (D : DataW Unit) : Prop where
  at_ : ∀ x, D.atKey (.int .i64 x) (.lit (.int .i64 (-1))) = .lit (.int .i64 (code (F x)))
  has : ∀ x, Maps.has D (.int .i64 x) = (F x).isSome
  ktg : ∀ x g, F x = some g → 0 ≤ kt l0 x 1
  ktn : ∀ x, F x = none → kt l0 x 1 < 0
/-- The loop of Keys: ss, what was collected of the keys that are no longer to come. -/
structure KL (w W : World) (gb bm r n : Nat) (l0 : List S45) (F : Int → Option Nat) (D : DataW Unit) (v : Value) (ss : List Int) (left : Lit → Bool) (cnt : Nat) : Prop where
  rg : W.ranges Try.prog 3 pe bm r n D left cnt
  st : ∀ x g, F x = some g → IsS71 w W g (ow l0 x) (kt l0 x 1) (kt l0 x 2)
  own : Kd.R (Kd.int .i64) 3 W w.heap.size (fun _ => True) v ss
  bk : W.heap[gb]? = some (.cells #[.int .i64 0, .int .i64 0] 24 (0, 0))
  bel : Below w.heap.size w W
  hr : w.heap.size ≤ r
  hgb : w.heap.size ≤ gb
theorem KL.grown {w W W1 : World} {gb bm r n : Nat} {l0 : List S45} {F : Int → Option Nat} {D : DataW Unit} {v : Value} {ss : List Int} {left : Lit → Bool} {cnt : Nat} (h : KL w W gb bm r n l0 F D v ss left cnt) (hb : Below W.heap.size W W1) : KL w W1 gb bm r n l0 F D v ss left cnt :=
  ⟨h.rg.kept (grown_of_below hb none) (by simp) (by simp), fun x g hx => (h.st x g hx).below hb, Kd.R_below h.own hb, blk_below h.bk hb, h.bel.trans (hb.mono h.bel.size), h.hr, h.hgb⟩
theorem KL.mv {w W W1 : World} {gb bm r n : Nat} {l0 : List S45} {F : Int → Option Nat} {D : DataW Unit} {v : Value} {ss : List Int} {left : Lit → Bool} {cnt : Nat} [hp : Pl W1 W] (h : KL w W gb bm r n l0 F D v ss left cnt) : KL w W1 gb bm r n l0 F D v ss left cnt := h.grown hp.bel
theorem iter_not {P : Program} {W : World} {b r n : Nat} {D : DataW Unit} {left : Lit → Bool} {cnt : Nat} {cs : Array Value} {t : TypeId} {fr : Nat × Nat} (h : W.ranges P 3 pe b r n D left cnt) : W.heap[r]? ≠ some (.cells cs t fr) := by
  obtain ⟨_, _, _, _, _, _, _, _, _, hit, _⟩ := h
  rw [hit]
  intro hc
  cases hc
/-- The append of a key: the same slice's row and new blocks alone have turned. -/
theorem KL.push {w W W1 : World} {gb bm r n : Nat} {l0 : List S45} {F : Int → Option Nat} {D : DataW Unit} {v v1 : Value} {ss ss1 : List Int} {left : Lit → Bool} {cnt : Nat} (h : KL w W gb bm r n l0 F D v ss left cnt)
    (ho : Kd.R (Kd.int .i64) 3 W1 w.heap.size (fun _ => True) v1 ss1) (hb : Below w.heap.size w W1) (hg : W.grownBy W1 v.ownBlock) : KL w W1 gb bm r n l0 F D v1 ss1 left cnt := by
  have hown := Kd.own_of_R h.own
  have hbm : some bm ≠ v.ownBlock := by
    obtain ⟨es, c, hb, _⟩ := h.rg.owns
    rcases hown.2 with ⟨rfl, _⟩ | ⟨g, cap, cur, rfl, _, hg, _⟩
    · simp [Value.ownBlock]
    · intro e1
      have : bm = g := by simpa [Value.ownBlock] using e1
      subst this
      rw [hb] at hg
      cases hg
  exact ⟨h.rg.kept hg hbm (row_ne_iter hown h.rg), fun x g hx => (h.st x g hx).grown hg ((h.st x g hx).own_ne h.own (by decide)), ho, blk_grown h.bk hg (Kd.R_ne h.own h.bk (by decide)), hb, h.hr, h.hgb⟩
theorem KL.sorted {w W W1 : World} {gb bm r n : Nat} {l0 : List S45} {F : Int → Option Nat} {D : DataW Unit} {v : Value} {ss ss1 : List Int} {left : Lit → Bool} {cnt : Nat} (h : KL w W gb bm r n l0 F D v ss left cnt)
    (ho : Kd.R (Kd.int .i64) 3 W1 w.heap.size (fun _ => True) v ss1) (hg : W.grownBy W1 v.ownBlock) : KL w W1 gb bm r n l0 F D v ss1 left cnt :=
  h.push ho (h.bel.grown hg h.bel.size (fun k hk => ((Kd.own_of_R h.own).lt k hk).1)) hg
theorem KL.last {w W : World} {gb bm r n : Nat} {l0 : List S45} {F : Int → Option Nat} {D : DataW Unit} {v : Value} {ss : List Int} {left : Lit → Bool} {cnt : Nat} (h : KL w W gb bm r n l0 F D v ss left cnt) :
    Kd.R (Kd.int .i64) 3 ((W.setCell ⟨gb, 0, none⟩ (.int .i64 0)).setCell ⟨gb, 1, none⟩ (.int .i64 0)) w.heap.size (fun _ => True) v ss := by
  have hg : ∀ (W' : World) (o : Nat) (u : Value), W'.grownBy (W'.setCell ⟨gb, o, none⟩ u) (some gb) := fun W' o u => ⟨rfl, rfl, rfl, by simp [World.setCell], fun k hk hne => Below.heap_setCell W' ⟨gb, o, none⟩ _ k (fun hc => hne (by rw [hc]))⟩
  have hne : some gb ≠ v.ownBlock := Kd.R_ne h.own h.bk (by decide)
  exact Kd.R_grown2 (Kd.R_grown2 h.own rfl (hg W 0 _) (fun k hk => by injection hk with hk; exact hk ▸ hne)) rfl (hg _ 1 _) (fun k hk => by injection hk with hk; exact hk ▸ hne)
/-- The step of the loop over the map. -/
theorem wp_next_keys {ops : Array Oper} {rest : List Oper} {o : Oper} {a : Act} {Q : Exit → Act → World → Prop} {w W : World} {gb bm r n : Nat} {l0 : List S45} {F : Int → Option Nat} {D : DataW Unit} {v : Value} {ss : List Int} {left : Lit → Bool} {cnt : Nat} (N : Option Tmp) (hd : o.dst = N)
    (hg : o.guard = none) (it : Operand) (hop : o.op = Op.next it false) (hit : a.eval it = .pointer (some ⟨r, 0, none⟩)) (hD : KD l0 F D) (h : KL w W gb bm r n l0 F D v ss left cnt) (user time : Int)
    (hDone : (∀ kl, left kl = false) → wpList Try.prog ops Q rest (a.put N (.tuple #[.bool false])) W)
    (hNo : ∀ (x : Int) (g : Nat) (w1 : World) (cnt1 : Nat), F x = some g → left (.int .i64 x) = true → KL w w1 gb bm r n l0 F D v ss (fun z => left z && !z.sameKey (.int .i64 x)) cnt1 → cnt1 < cnt → IsS71 w w1 g (ow l0 x) (kt l0 x 1) (kt l0 x 2) →
      (Instr.entry (.pointer (some ⟨r, 0, none⟩))).run Try.prog w1 = .ok (.tuple #[.int .i64 x, .pointer (some ⟨g, 0, none⟩)]) w1 → (ow l0 x == user) = false → wpList Try.prog ops Q rest (a.put N (.tuple #[.bool true, .int .i64 x, .pointer (some ⟨g, 0, none⟩)])) w1)
    (hIn : ∀ (x : Int) (g : Nat) (w1 : World) (cnt1 : Nat), F x = some g → left (.int .i64 x) = true → KL w w1 gb bm r n l0 F D v ss (fun z => left z && !z.sameKey (.int .i64 x)) cnt1 → cnt1 < cnt → IsS71 w w1 g (ow l0 x) (kt l0 x 1) (kt l0 x 2) →
      (Instr.entry (.pointer (some ⟨r, 0, none⟩))).run Try.prog w1 = .ok (.tuple #[.int .i64 x, .pointer (some ⟨g, 0, none⟩)]) w1 → (ow l0 x == user) = true → keyValid l0 x time = false → wpList Try.prog ops Q rest (a.put N (.tuple #[.bool true, .int .i64 x, .pointer (some ⟨g, 0, none⟩)])) w1)
    (hYes : ∀ (x : Int) (g : Nat) (w1 : World) (cnt1 : Nat), F x = some g → left (.int .i64 x) = true → KL w w1 gb bm r n l0 F D v ss (fun z => left z && !z.sameKey (.int .i64 x)) cnt1 → cnt1 < cnt → IsS71 w w1 g (ow l0 x) (kt l0 x 1) (kt l0 x 2) →
      (Instr.entry (.pointer (some ⟨r, 0, none⟩))).run Try.prog w1 = .ok (.tuple #[.int .i64 x, .pointer (some ⟨g, 0, none⟩)]) w1 → (ow l0 x == user) = true → keyValid l0 x time = true → wpList Try.prog ops Q rest (a.put N (.tuple #[.bool true, .int .i64 x, .pointer (some ⟨g, 0, none⟩)])) w1) :
    wpList Try.prog ops Q (o :: rest) a W := by
  subst hd
  refine wpList_next_ptr W hg it hop 3 .i64 int3 Try.underlying3 bm r n D left cnt hit h.rg (fun _ hl => hDone hl) ?_
  intro x c w1 cnt1 hwx hlx hat hrg hlt hgr hsz hen
  have hh : (F x).isSome = true := by
    rw [← hD.has]
    exact Maps.has_true_of_atKey hat
  obtain ⟨g, hF⟩ := Option.isSome_iff_exists.1 hh
  have hc : c = some g := by
    have h1 := hat (.lit (.int .i64 (-1)))
    rw [hD.at_, hF] at h1
    exact code_inj (by injection h1 with h1; injection h1 with _ h1; exact h1.symm)
  subst hc
  have hown := Kd.own_of_R h.own
  have hK : KL w w1 gb bm r n l0 F D v ss (fun z => left z && !z.sameKey (.int .i64 x)) cnt1 := by
    refine ⟨hrg, fun y g' hy => (h.st y g' hy).grown hgr ?_, Kd.R_grown2 h.own rfl hgr ?_, blk_grown h.bk hgr ?_, h.bel.grown hgr h.bel.size ?_, h.hr, h.hgb⟩
    · intro hc
      injection hc with hc
      subst hc
      exact iter_not h.rg (h.st y _ hy).1
    · intro k hk
      injection hk with hk
      subst hk
      exact row_ne_iter hown h.rg
    · intro hc
      injection hc with hc
      subst hc
      exact iter_not h.rg h.bk
    · intro k hk
      injection hk with hk
      subst hk
      exact h.hr
  have hS := hK.st x g hF
  simp only [ptr, Option.map_some] at hen
  by_cases hu : (ow l0 x == user) = true
  · by_cases hv : keyValid l0 x time = true
    · exact hYes x g w1 cnt1 hF hlx hK hlt hS hen hu hv
    · exact hIn x g w1 cnt1 hF hlx hK hlt hS hen hu (by simpa using hv)
  · exact hNo x g w1 cnt1 hF hlx hK hlt hS hen (by simpa using hu)
/-- 'range m', ahead of the loop. -/
theorem wp_range_keys {ops : Array Oper} {rest : List Oper} {o : Oper} {a : Act} {Q : Exit → Act → World → Prop} {w W : World} {gb bm n : Nat} {l0 : List S45} {F : Int → Option Nat} (N : Option Tmp) (hd : o.dst = N)
    (hg : o.guard = none) (m : Operand) (hop : o.op = Op.range 66 m) (hm : a.eval m = .map (some bm)) (h : RM w W bm n l0 F) (hbk : W.heap[gb]? = some (.cells #[.int .i64 0, .int .i64 0] 24 (0, 0))) (hB : Below w.heap.size w W) (hgb : w.heap.size ≤ gb)
    (hK : ∀ (r : Nat) (D : DataW Unit) (w1 : World), KD l0 F D → KL w w1 gb bm r n l0 F D (.slice none 0 0) [] (Maps.has D) (Maps.size D) → wpList Try.prog ops Q rest (a.put N (.pointer (some ⟨r, 0, none⟩))) w1) : wpList Try.prog ops Q (o :: rest) a W := by
  subst hd
  obtain ⟨D, hD, h1, h2⟩ := h.map
  refine wpList_range_own W hg m 66 hop 3 69 int3 Try.underlying66 pe bm n D hm hD ?_
  intro w1 hrg hgr hsz
  refine hK W.heap.size D w1 ⟨h1, h2, fun x g hx => (h.at_ x g hx).1, fun x hx => h.lost hx⟩ ⟨hrg, fun x g hx => (h.at_ x g hx).2.grown hgr (by simp), Kd.R_nil _ _ _ _ _, blk_grown hbk hgr (by simp), hB.grown hgr hB.size (by simp), hB.size, hgb⟩
/-- Which keys have been collected. -/
def Got (l0 : List S45) (F : Int → Option Nat) (user time : Int) (ss : List Int) (left : Lit → Bool) : Prop :=
  ss.Nodup ∧ ∀ x, x ∈ ss ↔ ((F x).isSome = true ∧ left (.int .i64 x) = false ∧ ow l0 x = user ∧ keyValid l0 x time = true)
theorem same_int (x y : Int) : (Lit.int .i64 x).sameKey (.int .i64 y) = decide (x = y) := by
  by_cases h : x = y
  · subst h
    rw [decide_eq_true rfl]
    exact WideAt.sameKey_self (by simp [WideAt.IsKeyLit])
  · rw [decide_eq_false h]
    exact Maps.sameKey_ne (fun hc => h (by injection hc))
theorem Got.start {l0 : List S45} {F : Int → Option Nat} {user time : Int} {D : DataW Unit} (hD : KD l0 F D) : Got l0 F user time [] (Maps.has D) := by
  refine ⟨List.nodup_nil, fun x => ⟨fun h => absurd h (by simp), fun h => ?_⟩⟩
  rw [hD.has] at h
  exact absurd (h.1.symm.trans h.2.1) (by decide)
theorem Got.skip {l0 : List S45} {F : Int → Option Nat} {user time : Int} {ss : List Int} {left : Lit → Bool} (h : Got l0 F user time ss left) {x : Int} (hx : ¬ (ow l0 x = user ∧ keyValid l0 x time = true)) : Got l0 F user time ss (fun z => left z && !z.sameKey (.int .i64 x)) := by
  refine ⟨h.1, fun y => ?_⟩
  rw [h.2 y]
  simp only [same_int]
  by_cases hy : y = x
  · subst hy
    constructor
    · rintro ⟨_, _, h3⟩
      exact absurd h3 hx
    · rintro ⟨_, _, h3⟩
      exact absurd h3 hx
  · simp [hy]
theorem Got.push {l0 : List S45} {F : Int → Option Nat} {user time : Int} {ss : List Int} {left : Lit → Bool} (h : Got l0 F user time ss left) {x : Int} {g : Nat} (hF : F x = some g) (hl : left (.int .i64 x) = true) (hu : ow l0 x = user) (hv : keyValid l0 x time = true) :
    Got l0 F user time (ss ++ [x]) (fun z => left z && !z.sameKey (.int .i64 x)) := by
  have hn : x ∉ ss := fun hc => by
    have := ((h.2 x).1 hc).2.1
    rw [hl] at this
    cases this
  refine ⟨List.nodup_append.2 ⟨h.1, List.nodup_cons.2 ⟨by simp, List.nodup_nil⟩, fun a ha b hb => by rw [List.mem_singleton.1 hb]; exact fun e => hn (e ▸ ha)⟩, fun y => ?_⟩
  rw [List.mem_append, h.2 y, List.mem_singleton]
  simp only [same_int]
  by_cases hy : y = x
  · subst hy
    simp [hF, hu, hv]
  · simp [hy]
/-- A key that was added is the key of an event. -/
theorem kt_mem : ∀ {l : List S45} {x k : Int}, 0 ≤ kt l x k → ∃ e ∈ l, e.f0 = k ∧ e.f1 = x
  | [], x, k, h => absurd h (by simp [kt])
  | e :: r, x, k, h => by
    simp only [kt] at h
    split at h
    · rename_i hc
      exact ⟨e, List.mem_cons_self .., hc⟩
    · obtain ⟨c, hc, hh⟩ := kt_mem h
      exact ⟨c, List.mem_cons_of_mem _ hc, hh⟩
theorem Got.length {l0 : List S45} {F : Int → Option Nat} {D : DataW Unit} {user time : Int} {ss : List Int} {left : Lit → Bool} (h : Got l0 F user time ss left) (hD : KD l0 F D) : ss.length ≤ l0.length := by
  have := length_le_of_mem (l2 := l0.map S45.f1) h.1 fun x hx => by
    obtain ⟨g, hF⟩ := Option.isSome_iff_exists.1 ((h.2 x).1 hx).1
    obtain ⟨e, he, _, h2⟩ := kt_mem (hD.ktg x g hF)
    exact List.mem_map.2 ⟨e, he, h2⟩
  simpa using this
theorem ringFault_len {l : List S45} (h : ringFault l = (0, 0)) : l.length ≤ 40 := by
  unfold ringFault at h
  split at h
  · cases h
  · omega

theorem kt_ge : ∀ {l : List S45} {e : S45} {k : Int}, Tm l → e ∈ l → e.f0 = k → 0 ≤ kt l e.f1 k
  | [], e, k, hT, he, _ => absurd he (by simp)
  | c :: r, e, k, hT, he, hk => by
    simp only [kt]
    split
    · exact hT c (List.mem_cons_self ..)
    · rename_i hc
      rcases List.mem_cons.1 he with rfl | he
      · exact absurd ⟨hk, rfl⟩ hc
      · exact kt_ge (fun c hc => hT c (List.mem_cons_of_mem _ hc)) he hk
theorem ef_zero {p : List S45} {e : S45} (h : ef p e = 0) : 0 ≤ e.f3 ∧ (e.f0 = 1 → kt p e.f1 1 < 0) := by
  unfold ef at h
  split at h
  · cases h
  split at h
  · cases h
  rename_i h1 h2
  split at h
  · cases h
  split at h
  · cases h
  rename_i h3 h4
  exact ⟨by omega, fun hh => by omega⟩
/-- Each key is added once, by its owner. -/
def Adds (p : List S45) : Prop := Tm p ∧ ((p.filter fun e => decide (e.f0 = 1)).map S45.f1).Nodup ∧ ∀ e ∈ p, e.f0 = 1 → ow p e.f1 = e.f2
theorem Adds.step {p : List S45} {e : S45} (h : Adds p) (he : ef p e = 0) : Adds (p ++ [e]) := by
  obtain ⟨hT, hn, ho⟩ := h
  obtain ⟨h3, h1⟩ := ef_zero he
  have hno : e.f0 = 1 → ∀ c ∈ p, ¬ (c.f0 = 1 ∧ c.f1 = e.f1) := fun hh => (kt_no hT (h1 hh)).2
  refine ⟨fun c hc => ?_, ?_, fun c hc hc1 => ?_⟩
  · rcases List.mem_append.1 hc with hc | hc
    · exact hT c hc
    · rw [List.mem_singleton.1 hc]
      exact h3
  · rw [List.filter_append, List.map_append]
    by_cases hh : e.f0 = 1
    · rw [List.filter_cons_of_pos (by simpa using hh), List.filter_nil]
      refine List.nodup_append.2 ⟨hn, List.nodup_cons.2 ⟨by simp, List.nodup_nil⟩, fun a ha b hb hab => ?_⟩
      obtain ⟨c, hc, rfl⟩ := List.mem_map.1 ha
      rw [List.mem_filter] at hc
      have hb2 : b = e.f1 := by simpa using hb
      exact hno hh c hc.1 ⟨of_decide_eq_true hc.2, hab.trans hb2⟩
    · rw [List.filter_cons_of_neg (by simpa using hh), List.filter_nil]
      simpa using hn
  · rcases List.mem_append.1 hc with hc | hc
    · rw [ow_app _ (kt_ge hT hc hc1)]
      exact ho c hc hc1
    · obtain rfl := List.mem_singleton.1 hc
      rw [ow_snoc_none c (hno hc1), if_pos ⟨hc1, rfl⟩]
theorem adds_all : ∀ (r p : List S45), Adds p → (rf p r).1 = 0 → Adds (p ++ r)
  | [], p, h, _ => by rw [List.append_nil]; exact h
  | e :: r, p, h, hr => by
    simp only [rf] at hr
    by_cases hc : ef p e = 0
    · rw [if_pos hc] at hr
      have := adds_all r (p ++ [e]) (h.step hc) hr
      rwa [List.append_assoc] at this
    · rw [if_neg hc] at hr
      exact absurd hr hc
theorem adds_of {l : List S45} (h : (ringFault l).1 = 0) : Adds l := by
  unfold ringFault at h
  split at h
  · cases h
  · exact adds_all l [] ⟨fun _ h => absurd h (by simp), List.nodup_nil, fun _ h => absurd h (by simp)⟩ h
theorem kept_nodup : ∀ {l : List S45} (q : S45 → Bool), ((l.filter fun e => decide (e.f0 = 1)).map S45.f1).Nodup → ((l.filter fun e => decide (e.f0 = 1) && q e).map S45.f1).Nodup := by
  intro l q h
  have hs : ((l.filter fun e => decide (e.f0 = 1) && q e).map S45.f1).Sublist ((l.filter fun e => decide (e.f0 = 1)).map S45.f1) := by
    rw [show (l.filter fun e => decide (e.f0 = 1) && q e) = (l.filter fun e => decide (e.f0 = 1)).filter q from by rw [List.filter_filter]; congr 1; funext e; exact Bool.and_comm _ _]
    exact List.Sublist.map _ List.filter_sublist
  exact h.sublist hs
theorem mem_userKeys {l : List S45} (h : (ringFault l).1 = 0) (user time x : Int) : x ∈ userKeys l user time ↔ (0 ≤ kt l x 1 ∧ ow l x = user ∧ keyValid l x time = true) := by
  obtain ⟨hT, hn, ho⟩ := adds_of h
  unfold userKeys
  rw [(isort_perm _).mem_iff, List.mem_map]
  constructor
  · rintro ⟨e, he, rfl⟩
    rw [List.mem_filter, Bool.and_eq_true, decide_eq_true_eq] at he
    obtain ⟨he, ⟨h1, h2⟩, h3⟩ := he
    exact ⟨kt_ge hT he h1, (ho e he h1).trans h2, h3⟩
  · rintro ⟨hk, hu, hv⟩
    obtain ⟨e, he, h1, rfl⟩ := kt_mem hk
    exact ⟨e, List.mem_filter.2 ⟨he, by rw [Bool.and_eq_true, decide_eq_true_eq]; exact ⟨⟨h1, (ho e he h1).symm.trans hu⟩, hv⟩⟩, rfl⟩
theorem userKeys_nodup {l : List S45} (h : (ringFault l).1 = 0) (user time : Int) : (userKeys l user time).Nodup := by
  obtain ⟨hT, hn, ho⟩ := adds_of h
  unfold userKeys
  rw [(isort_perm _).nodup_iff]
  have := kept_nodup (l := l) (fun e => decide (e.f2 = user) && keyValid l e.f1 time) hn
  refine cast ?_ this
  congr 3
  funext e
  by_cases a : e.f0 = 1 <;> by_cases b : e.f2 = user <;> simp [a, b]
/-- What was collected, sorted, is what the events say. -/
theorem Got.done {l0 : List S45} {F : Int → Option Nat} {D : DataW Unit} {user time : Int} {ss : List Int} {left : Lit → Bool} (h : Got l0 F user time ss left) (hD : KD l0 F D) (hz : (ringFault l0).1 = 0) (hl : ∀ kl, left kl = false) : (ss.mergeSort fun x y => decide (x ≤ y)) = userKeys l0 user time := by
  have hp : ss.Perm (userKeys l0 user time) := perm_of_mem h.1 (userKeys_nodup hz user time) fun x => by
    rw [h.2 x, mem_userKeys hz]
    constructor
    · rintro ⟨h1, _, h2, h3⟩
      obtain ⟨g, hF⟩ := Option.isSome_iff_exists.1 h1
      exact ⟨hD.ktg x g hF, h2, h3⟩
    · rintro ⟨h1, h2, h3⟩
      refine ⟨?_, hl _, h2, h3⟩
      cases hF : F x with
      | none =>
        have := hD.ktn x hF
        omega
      | some g => rfl
  rw [mergeSort_isort hp]
  unfold userKeys
  exact sorted_unique (isort_sorted _) (isort_sorted _) (isort_perm _)
theorem sv_says (g : Nat) (u a r t : Int) (w : World) (h : w.heap[g]? = some (.cells #[.int .i64 u, .int .i64 a, .int .i64 r] 71 (0, 0))) (q : Bool) (hq : (decide (a ≤ t) && (decide (r < 0) || decide (t < r))) = q) :
    Calls Try.prog 44 #[.pointer (some ⟨g, 0, none⟩), .int .i64 t] w fun e w' => e = .returned (.bool q) ∧ Drawn0 w w' := by
  subst hq
  exact sv_calls g u a r t w h
theorem valid_says {p : List S45} {x t : Int} (h : 0 ≤ kt p x 1) {q : Bool} (hq : keyValid p x t = q) : (decide (kt p x 1 ≤ t) && (decide (kt p x 2 < 0) || decide (t < kt p x 2))) = q := by
  rw [← hq]
  unfold keyValid
  rw [← Bool.decide_or, ← Bool.decide_and, decide_eq_decide]
  omega
set_option maxHeartbeats 8000000 in
set_option maxRecDepth 100000 in
theorem keys_calls (A0 : Option Addr) (c0 : Nat) (l0 : List S45) (user time : Int) (w : World) (hr0 : Kd.C k45 w A0 l0.length l0) (hc0 : l0.length ≤ c0) (hwf : keysWf l0 = true) :
    Calls Try.prog 21 #[.slice A0 l0.length c0, .int .i64 user, .int .i64 time] w fun e w' => ∃ v0_ : Value, e = .returned (.tuple #[v0_, .agg #[.int .i64 (keysF l0 user time).2.1, .int .i64 (keysF l0 user time).2.2]]) ∧ Kd.R (Kd.int .i64) 3 w' w.heap.size (fun _ => True) v0_ (keysF l0 user time).1 ∧ Below w.heap.size w w' := by
  have hu24 := Try.underlying24
  replace hwf := Aside0.mk hwf
  have HR0 := Aside0.mk hr0
  clear hr0
  have HB := Aside0.mk (Below.refl w.heap.size w)
  replace hc0 := Aside0.mk hc0
  by_cases hz : (ringFault l0).1 = 0
  rotate_left
  · have hne : ringFault l0 = ((ringFault l0).1, (ringFault l0).2) := rfl
    have hv : keysF l0 user time = ([], ringFault l0) := by rw [keysF, if_pos hz]
    rw [hv]
    clear hv
    generalize (ringFault l0).1 = r1 at hne hz ⊢
    generalize (ringFault l0).2 = r2 at hne ⊢
    have c5b0 : (!(r1 == 0) || (!(r2 == 0))) = true := by simp [hz]
    replace hRF := Aside0.mk hne
    clear hne hz
    go_enter Try.func21, Try.ntmps21
    go_wp2_with (first | ((with_reducible refine gate_dst (N := 7) rfl ?_); refine box_event ?hg (N := 7) ?hd (cs := #[.int .i64 0, .int .i64 0]) (t := 24) ?hr ?_; (case hd => rfl); (case hg => rfl); (case hr => first | (go_simp; done) | (go_simp; rfl)); intro gb101 hg w3 hbox hb; have BK101 := Aside0.mk hbox; have GW101 := Aside0.mk (bs_ : w.heap.size ≤ gb101); replace HB := Aside0.mk (below_step bel_ hb); clear hb hbox hg) | ((with_reducible refine gate_callee (f := 41) rfl ?_); refine goesL_ (some 15) rfl rfl Try.func41 (by kernel_rfl) rfl #[.slice A0 l0.length c0] rfl ln_ ?_; refine (replay_says A0 c0 l0 _ ?s1 hc0.out hwf.out r1 r2 hRF.out).mono ?_; (case s1 => first | exact (Kd.C_below HR0.out HB.out) | exact Kd.C_mv (Kd.C_below HR0.out HB.out)); rintro _ w5 ⟨hb, m, rfl, hR⟩; refine ⟨_, rfl, ?_⟩; clear hR; replace BK101 := Aside0.mk (blk_below (blk_mv BK101.out) hb); replace HB := Aside0.mk (below_step bel_ hb); clear hb) | ((with_reducible refine gate_dst (N := 9) rfl ?_); refine box_event ?hg (N := 9) ?hd (cs := #[.int .i64 0, .int .i64 0]) (t := 24) ?hr ?_; (case hd => rfl); (case hg => rfl); (case hr => first | (go_simp; done) | (go_simp; rfl)); intro gb105 hg w8 hbox hb; have BK105 := Aside0.mk hbox; have GW105 := Aside0.mk (bs_ : w.heap.size ≤ gb105); replace HB := Aside0.mk (below_step bel_ hb); have NBa : gb101 ≠ gb105 := (by rw [hg]; exact Nat.ne_of_lt (blk_lt (g := gb101) (o := .cells #[.int .i64 0, .int .i64 0] 24 (0, 0)) (blk_mv BK101.out))); have NBb := NBa.symm; replace BK101 := Aside0.mk (blk_below (blk_mv BK101.out) hb); (try replace HM := Aside0.mk (RM.step HM.out hb)); clear hbox hb hg; have hcz10_0 := blk_c (v := .int .i64 0) BK105.out 0 rfl; have hcz10_1 := blk_c (v := .int .i64 0) BK105.out 1 rfl; have hfz10_0 := blk_frozen BK105.out 0; have hfz10_1 := blk_frozen BK105.out 1) | ((with_reducible refine gate_dst (N := 19) rfl ?_); refine name_world (fun W' => W'.heap[gb101]? = some (.cells #[.int .i64 0, .int .i64 0] 24 (0, 0)) ∧ W'.heap[gb105]? = some (.cells #[.int .i64 r1, .int .i64 r2] 24 (0, 0)) ∧ Below w.heap.size w W') ⟨by refine blk_far ?_ NBa _; refine blk_far ?_ NBa _; exact BK101.out, by refine blk_put (cs := #[.int .i64 r1, .int .i64 0]) ?_ 1 _ rfl; refine blk_put (cs := #[.int .i64 0, .int .i64 0]) ?_ 0 _ rfl; exact BK105.out, bel_⟩ ?_; intro w9 hw; obtain ⟨hw1, hw2, hw3⟩ := hw; replace BK101 := Aside0.mk hw1; replace BK105 := Aside0.mk hw2; replace HB := Aside0.mk hw3; clear hw1 hw2 hw3 hcz10_0 hcz10_1 hfz10_0 hfz10_1; have hf0 := blk_c (v := .int .i64 r1) BK105.out 0 rfl; have hf1 := blk_c (v := .int .i64 r2) BK105.out 1 rfl; have hz0 := blk_c (v := .int .i64 0) BK101.out 0 rfl; have hz1 := blk_c (v := .int .i64 0) BK101.out 1 rfl; have hzf0 := blk_frozen BK101.out 0; have hzf1 := blk_frozen BK101.out 1))
    have eN1 := NBa
    have eN2 := NBb
    go_region
    go_wp2
    refine bodyPost_ret (results_tc rfl _ _ gb101 24 #[.int .i64 r1, .int .i64 r2] (0, 0) _ rfl (by refine blk_mv ?_; refine blk_put (cs := #[.int .i64 r1, .int .i64 0]) ?_ 1 _ rfl; refine blk_mv ?_; refine blk_put (cs := #[.int .i64 0, .int .i64 0]) ?_ 0 _ rfl; refine blk_mv ?_; exact BK101.out) Try.underlying24 rfl (by kernel_rfl)) rfl ?_
    exact ⟨_, rfl, Kd.R_nil _ _ _ _ _, bel_⟩
  have hRF := Aside0.mk (ringFault_zero hz)
  cases hk1 : keyring_isUser.f user with
  | none => exact absurd hk1 (by unfold keyring_isUser.f; split <;> simp)
  | some q1 =>
    have hk1' := isUser_says hk1
    cases q1
    · have hv : keysF l0 user time = ([], 3, -1) := by rw [keysF, if_neg (not_not_intro hz), if_pos (fun hh => of_decide_eq_false hk1'.symm hh.1)]
      rw [hv]
      clear hv hz hk1'
      go_enter Try.func21, Try.ntmps21
      go_wp2_with (first | ((with_reducible refine gate_dst (N := 7) rfl ?_); refine box_event ?hg (N := 7) ?hd (cs := #[.int .i64 0, .int .i64 0]) (t := 24) ?hr ?_; (case hd => rfl); (case hg => rfl); (case hr => first | (go_simp; done) | (go_simp; rfl)); intro gb101 hg w3 hbox hb; have BK101 := Aside0.mk hbox; have GW101 := Aside0.mk (bs_ : w.heap.size ≤ gb101); replace HB := Aside0.mk (below_step bel_ hb); clear hb hbox hg) | ((with_reducible refine gate_callee (f := 41) rfl ?_); refine goesL_ (some 15) rfl rfl Try.func41 (by kernel_rfl) rfl #[.slice A0 l0.length c0] rfl ln_ ?_; refine (replay_says A0 c0 l0 _ ?s1 hc0.out hwf.out 0 0 hRF.out).mono ?_; (case s1 => first | exact (Kd.C_below HR0.out HB.out) | exact Kd.C_mv (Kd.C_below HR0.out HB.out)); rintro _ w5 ⟨hb, m, rfl, hR⟩; refine ⟨_, rfl, ?_⟩; obtain ⟨bm, n, F, rfl, hM⟩ := hR rfl; have HM := Aside0.mk (hM.base HB.out.size); clear hR hM; replace BK101 := Aside0.mk (blk_below (blk_mv BK101.out) hb); replace HB := Aside0.mk (below_step bel_ hb); clear hb) | ((with_reducible refine gate_dst (N := 9) rfl ?_); refine box_event ?hg (N := 9) ?hd (cs := #[.int .i64 0, .int .i64 0]) (t := 24) ?hr ?_; (case hd => rfl); (case hg => rfl); (case hr => first | (go_simp; done) | (go_simp; rfl)); intro gb105 hg w8 hbox hb; have BK105 := Aside0.mk hbox; have GW105 := Aside0.mk (bs_ : w.heap.size ≤ gb105); replace HB := Aside0.mk (below_step bel_ hb); have NBa : gb101 ≠ gb105 := (by rw [hg]; exact Nat.ne_of_lt (blk_lt (g := gb101) (o := .cells #[.int .i64 0, .int .i64 0] 24 (0, 0)) (blk_mv BK101.out))); have NBb := NBa.symm; replace BK101 := Aside0.mk (blk_below (blk_mv BK101.out) hb); (try replace HM := Aside0.mk (RM.step HM.out hb)); clear hbox hb hg; have hcz10_0 := blk_c (v := .int .i64 0) BK105.out 0 rfl; have hcz10_1 := blk_c (v := .int .i64 0) BK105.out 1 rfl; have hfz10_0 := blk_frozen BK105.out 0; have hfz10_1 := blk_frozen BK105.out 1) | ((with_reducible refine gate_dst (N := 19) rfl ?_); refine name_world (fun W' => W'.heap[gb101]? = some (.cells #[.int .i64 0, .int .i64 0] 24 (0, 0)) ∧ W'.heap[gb105]? = some (.cells #[.int .i64 0, .int .i64 0] 24 (0, 0)) ∧ Below w.heap.size w W' ∧ RM w W' bm n l0 F) ⟨by refine blk_far ?_ NBa _; refine blk_far ?_ NBa _; exact BK101.out, by refine blk_put (cs := #[.int .i64 0, .int .i64 0]) ?_ 1 _ rfl; refine blk_put (cs := #[.int .i64 0, .int .i64 0]) ?_ 0 _ rfl; exact BK105.out, bel_, by refine RM.far (RM.far HM.out BK105.out (by decide) _) (t := 24) (cs := #[.int .i64 0, .int .i64 0]) (fr := (0, 0)) (blk_put BK105.out 0 _ rfl) (by decide) _⟩ ?_; intro w9 hw; obtain ⟨hw1, hw2, hw3, hw4⟩ := hw; replace BK101 := Aside0.mk hw1; replace BK105 := Aside0.mk hw2; replace HB := Aside0.mk hw3; replace HM := Aside0.mk hw4; clear hw4; clear hw1 hw2 hw3 hcz10_0 hcz10_1 hfz10_0 hfz10_1; have hf0 := blk_c (v := .int .i64 0) BK105.out 0 rfl; have hf1 := blk_c (v := .int .i64 0) BK105.out 1 rfl; have hz0 := blk_c (v := .int .i64 0) BK101.out 0 rfl; have hz1 := blk_c (v := .int .i64 0) BK101.out 1 rfl; have hzf0 := blk_frozen BK101.out 0; have hzf1 := blk_frozen BK101.out 1) | ((with_reducible refine gate_callee (f := 45) rfl ?_); refine goesL_ (some 25) rfl rfl Try.func45 (by kernel_rfl) rfl #[.int .i64 user] rfl ln_ ?_; (with_reducible refine (keyring_isUser.calls user false _ hk1).mono ?_); rintro _ _ ⟨rfl, ⟨_, rfl⟩⟩; refine ⟨_, rfl, ?_⟩))
      refine bodyPost_ret (results_tc rfl _ _ gb101 24 #[.int .i64 3, .int .i64 (-1)] (0, 0) _ rfl (by refine blk_mv ?_; refine blk_put (cs := #[.int .i64 3, .int .i64 0]) ?_ 1 _ rfl; refine blk_mv ?_; refine blk_put (cs := #[.int .i64 0, .int .i64 0]) ?_ 0 _ rfl; refine blk_mv ?_; exact BK101.out) Try.underlying24 rfl (by kernel_rfl)) rfl ?_
      exact ⟨_, rfl, Kd.R_nil _ _ _ _ _, bel_⟩
    cases hk2 : keyring_isTime.f time with
    | none => exact absurd hk2 (by unfold keyring_isTime.f; split <;> simp)
    | some q2 =>
      have hk2' := isTime_says hk2
      cases q2
      · have hv : keysF l0 user time = ([], 3, -1) := by rw [keysF, if_neg (not_not_intro hz), if_pos (fun hh => of_decide_eq_false hk2'.symm hh.2)]
        rw [hv]
        clear hv hz hk1' hk2'
        go_enter Try.func21, Try.ntmps21
        go_wp2_with (first | ((with_reducible refine gate_dst (N := 7) rfl ?_); refine box_event ?hg (N := 7) ?hd (cs := #[.int .i64 0, .int .i64 0]) (t := 24) ?hr ?_; (case hd => rfl); (case hg => rfl); (case hr => first | (go_simp; done) | (go_simp; rfl)); intro gb101 hg w3 hbox hb; have BK101 := Aside0.mk hbox; have GW101 := Aside0.mk (bs_ : w.heap.size ≤ gb101); replace HB := Aside0.mk (below_step bel_ hb); clear hb hbox hg) | ((with_reducible refine gate_callee (f := 41) rfl ?_); refine goesL_ (some 15) rfl rfl Try.func41 (by kernel_rfl) rfl #[.slice A0 l0.length c0] rfl ln_ ?_; refine (replay_says A0 c0 l0 _ ?s1 hc0.out hwf.out 0 0 hRF.out).mono ?_; (case s1 => first | exact (Kd.C_below HR0.out HB.out) | exact Kd.C_mv (Kd.C_below HR0.out HB.out)); rintro _ w5 ⟨hb, m, rfl, hR⟩; refine ⟨_, rfl, ?_⟩; obtain ⟨bm, n, F, rfl, hM⟩ := hR rfl; have HM := Aside0.mk (hM.base HB.out.size); clear hR hM; replace BK101 := Aside0.mk (blk_below (blk_mv BK101.out) hb); replace HB := Aside0.mk (below_step bel_ hb); clear hb) | ((with_reducible refine gate_dst (N := 9) rfl ?_); refine box_event ?hg (N := 9) ?hd (cs := #[.int .i64 0, .int .i64 0]) (t := 24) ?hr ?_; (case hd => rfl); (case hg => rfl); (case hr => first | (go_simp; done) | (go_simp; rfl)); intro gb105 hg w8 hbox hb; have BK105 := Aside0.mk hbox; have GW105 := Aside0.mk (bs_ : w.heap.size ≤ gb105); replace HB := Aside0.mk (below_step bel_ hb); have NBa : gb101 ≠ gb105 := (by rw [hg]; exact Nat.ne_of_lt (blk_lt (g := gb101) (o := .cells #[.int .i64 0, .int .i64 0] 24 (0, 0)) (blk_mv BK101.out))); have NBb := NBa.symm; replace BK101 := Aside0.mk (blk_below (blk_mv BK101.out) hb); (try replace HM := Aside0.mk (RM.step HM.out hb)); clear hbox hb hg; have hcz10_0 := blk_c (v := .int .i64 0) BK105.out 0 rfl; have hcz10_1 := blk_c (v := .int .i64 0) BK105.out 1 rfl; have hfz10_0 := blk_frozen BK105.out 0; have hfz10_1 := blk_frozen BK105.out 1) | ((with_reducible refine gate_dst (N := 19) rfl ?_); refine name_world (fun W' => W'.heap[gb101]? = some (.cells #[.int .i64 0, .int .i64 0] 24 (0, 0)) ∧ W'.heap[gb105]? = some (.cells #[.int .i64 0, .int .i64 0] 24 (0, 0)) ∧ Below w.heap.size w W' ∧ RM w W' bm n l0 F) ⟨by refine blk_far ?_ NBa _; refine blk_far ?_ NBa _; exact BK101.out, by refine blk_put (cs := #[.int .i64 0, .int .i64 0]) ?_ 1 _ rfl; refine blk_put (cs := #[.int .i64 0, .int .i64 0]) ?_ 0 _ rfl; exact BK105.out, bel_, by refine RM.far (RM.far HM.out BK105.out (by decide) _) (t := 24) (cs := #[.int .i64 0, .int .i64 0]) (fr := (0, 0)) (blk_put BK105.out 0 _ rfl) (by decide) _⟩ ?_; intro w9 hw; obtain ⟨hw1, hw2, hw3, hw4⟩ := hw; replace BK101 := Aside0.mk hw1; replace BK105 := Aside0.mk hw2; replace HB := Aside0.mk hw3; replace HM := Aside0.mk hw4; clear hw4; clear hw1 hw2 hw3 hcz10_0 hcz10_1 hfz10_0 hfz10_1; have hf0 := blk_c (v := .int .i64 0) BK105.out 0 rfl; have hf1 := blk_c (v := .int .i64 0) BK105.out 1 rfl; have hz0 := blk_c (v := .int .i64 0) BK101.out 0 rfl; have hz1 := blk_c (v := .int .i64 0) BK101.out 1 rfl; have hzf0 := blk_frozen BK101.out 0; have hzf1 := blk_frozen BK101.out 1) | ((with_reducible refine gate_callee (f := 45) rfl ?_); refine goesL_ (some 25) rfl rfl Try.func45 (by kernel_rfl) rfl #[.int .i64 user] rfl ln_ ?_; (with_reducible refine (keyring_isUser.calls user true _ hk1).mono ?_); rintro _ _ ⟨rfl, ⟨_, rfl⟩⟩; refine ⟨_, rfl, ?_⟩) | (go_at_call 43; (with_reducible refine (keyring_isTime.calls time false _ hk2).mono ?_); rintro _ _ ⟨rfl, ⟨_, rfl⟩⟩))
        refine bodyPost_ret (results_tc rfl _ _ gb101 24 #[.int .i64 3, .int .i64 (-1)] (0, 0) _ rfl (by refine blk_mv ?_; refine blk_put (cs := #[.int .i64 3, .int .i64 0]) ?_ 1 _ rfl; refine blk_mv ?_; refine blk_put (cs := #[.int .i64 0, .int .i64 0]) ?_ 0 _ rfl; refine blk_mv ?_; exact BK101.out) Try.underlying24 rfl (by kernel_rfl)) rfl ?_
        exact ⟨_, rfl, Kd.R_nil _ _ _ _ _, bel_⟩
      have hv : keysF l0 user time = (userKeys l0 user time, 0, 0) := by rw [keysF, if_neg (not_not_intro hz), if_neg (not_not_intro ⟨of_decide_eq_true hk1'.symm, of_decide_eq_true hk2'.symm⟩)]
      rw [hv]
      replace hz := Aside0.mk hz
      have hlen := Aside0.mk (ringFault_len hRF.out)
      clear hv hk1' hk2'
      go_enter Try.func21, Try.ntmps21
      go_wp2_with (first | ((with_reducible refine gate_dst (N := 7) rfl ?_); refine box_event ?hg (N := 7) ?hd (cs := #[.int .i64 0, .int .i64 0]) (t := 24) ?hr ?_; (case hd => rfl); (case hg => rfl); (case hr => first | (go_simp; done) | (go_simp; rfl)); intro gb101 hg w3 hbox hb; have BK101 := Aside0.mk hbox; have GW101 := Aside0.mk (bs_ : w.heap.size ≤ gb101); replace HB := Aside0.mk (below_step bel_ hb); clear hb hbox hg) | ((with_reducible refine gate_callee (f := 41) rfl ?_); refine goesL_ (some 15) rfl rfl Try.func41 (by kernel_rfl) rfl #[.slice A0 l0.length c0] rfl ln_ ?_; refine (replay_says A0 c0 l0 _ ?s1 hc0.out hwf.out 0 0 hRF.out).mono ?_; (case s1 => first | exact (Kd.C_below HR0.out HB.out) | exact Kd.C_mv (Kd.C_below HR0.out HB.out)); rintro _ w5 ⟨hb, m, rfl, hR⟩; refine ⟨_, rfl, ?_⟩; obtain ⟨bm, n, F, rfl, hM⟩ := hR rfl; have HM := Aside0.mk (hM.base HB.out.size); clear hR hM; replace BK101 := Aside0.mk (blk_below (blk_mv BK101.out) hb); replace HB := Aside0.mk (below_step bel_ hb); clear hb) | ((with_reducible refine gate_dst (N := 9) rfl ?_); refine box_event ?hg (N := 9) ?hd (cs := #[.int .i64 0, .int .i64 0]) (t := 24) ?hr ?_; (case hd => rfl); (case hg => rfl); (case hr => first | (go_simp; done) | (go_simp; rfl)); intro gb105 hg w8 hbox hb; have BK105 := Aside0.mk hbox; have GW105 := Aside0.mk (bs_ : w.heap.size ≤ gb105); replace HB := Aside0.mk (below_step bel_ hb); have NBa : gb101 ≠ gb105 := (by rw [hg]; exact Nat.ne_of_lt (blk_lt (g := gb101) (o := .cells #[.int .i64 0, .int .i64 0] 24 (0, 0)) (blk_mv BK101.out))); have NBb := NBa.symm; replace BK101 := Aside0.mk (blk_below (blk_mv BK101.out) hb); (try replace HM := Aside0.mk (RM.step HM.out hb)); clear hbox hb hg; have hcz10_0 := blk_c (v := .int .i64 0) BK105.out 0 rfl; have hcz10_1 := blk_c (v := .int .i64 0) BK105.out 1 rfl; have hfz10_0 := blk_frozen BK105.out 0; have hfz10_1 := blk_frozen BK105.out 1) | ((with_reducible refine gate_dst (N := 19) rfl ?_); refine name_world (fun W' => W'.heap[gb101]? = some (.cells #[.int .i64 0, .int .i64 0] 24 (0, 0)) ∧ W'.heap[gb105]? = some (.cells #[.int .i64 0, .int .i64 0] 24 (0, 0)) ∧ Below w.heap.size w W' ∧ RM w W' bm n l0 F) ⟨by refine blk_far ?_ NBa _; refine blk_far ?_ NBa _; exact BK101.out, by refine blk_put (cs := #[.int .i64 0, .int .i64 0]) ?_ 1 _ rfl; refine blk_put (cs := #[.int .i64 0, .int .i64 0]) ?_ 0 _ rfl; exact BK105.out, bel_, by refine RM.far (RM.far HM.out BK105.out (by decide) _) (t := 24) (cs := #[.int .i64 0, .int .i64 0]) (fr := (0, 0)) (blk_put BK105.out 0 _ rfl) (by decide) _⟩ ?_; intro w9 hw; obtain ⟨hw1, hw2, hw3, hw4⟩ := hw; replace BK101 := Aside0.mk hw1; replace BK105 := Aside0.mk hw2; replace HB := Aside0.mk hw3; replace HM := Aside0.mk hw4; clear hw4; clear hw1 hw2 hw3 hcz10_0 hcz10_1 hfz10_0 hfz10_1; have hf0 := blk_c (v := .int .i64 0) BK105.out 0 rfl; have hf1 := blk_c (v := .int .i64 0) BK105.out 1 rfl; have hz0 := blk_c (v := .int .i64 0) BK101.out 0 rfl; have hz1 := blk_c (v := .int .i64 0) BK101.out 1 rfl; have hzf0 := blk_frozen BK101.out 0; have hzf1 := blk_frozen BK101.out 1) | ((with_reducible refine gate_callee (f := 45) rfl ?_); refine goesL_ (some 25) rfl rfl Try.func45 (by kernel_rfl) rfl #[.int .i64 user] rfl ln_ ?_; (with_reducible refine (keyring_isUser.calls user true _ hk1).mono ?_); rintro _ _ ⟨rfl, ⟨_, rfl⟩⟩; refine ⟨_, rfl, ?_⟩) | (go_at_call 43; (with_reducible refine (keyring_isTime.calls time true _ hk2).mono ?_); rintro _ _ ⟨rfl, ⟨_, rfl⟩⟩) | ((with_reducible refine gate_dst (N := 34) rfl ?_); refine wp_range_keys (some 34) rfl rfl _ rfl rfl (RM.mv HM.out) (blk_mv BK101.out) bel_ GW101.out ?_; intro r D w12 hD hK; replace hD := Aside0.mk hD; replace hK := Aside0.mk hK; clear HM BK101 BK105 HB GW101 hf0 hf1 hz0 hz1 hzf0 hzf1))
      go_frame
      go_loopg [10] (Maps.size D + 1) (fun kq v10 w' => ∃ (ss : List Int) (left : Lit → Bool) (cnt : Nat), Aside0 (cnt < kq) ∧ Aside0 (Got l0 F user time ss left) ∧ Aside0 (KL w w' gb101 bm r n l0 F D v10 ss left cnt))
      case atStart => exact ⟨[], _, _, ⟨Nat.lt_succ_self _⟩, ⟨Got.start hD.out⟩, hK⟩
      case round =>
        clear hK
        obtain ⟨ss, left, cnt, hC, hGot, hKL⟩ := hrel
        have hShort := Aside0.mk (hGot.out.length hD.out)
        replace hShort := Aside0.mk (show ss.length ≤ 40 from Nat.le_trans hShort.out hlen.out)
        cases gk with
        | zero => exact absurd hC.out (Nat.not_lt_zero _)
        | succ k1 =>
          go_wp2_with (first | ((with_reducible refine gate_dst (N := 35) rfl ?_); refine wp_next_keys (some 35) rfl rfl _ rfl rfl hD.out hKL.out user time ?_ ?_ ?_ ?_; (intro hl; have hEnd := Aside0.mk hl; clear hl); rotate_left; (intro x g w13 cnt1 hF hlx hK1 hlt hS hen hu; have hWhy := Aside0.mk (show ¬ (ow l0 x = user ∧ keyValid l0 x time = true) from fun hh => by rw [hh.1] at hu; simp at hu); replace hKL := Aside0.mk hK1; have hS1 := Aside0.mk hS.1; have hs0 := cellS71_0 hS.1; replace hlt := Aside0.mk hlt; have hPos := Aside0.mk (hD.out.ktg x g hF); clear hF hlx hK1 hS); rotate_left; (intro x g w13 cnt1 hF hlx hK1 hlt hS hen hu hv; have hWhy := Aside0.mk (show ¬ (ow l0 x = user ∧ keyValid l0 x time = true) from fun hh => by rw [hh.2] at hv; cases hv); have hq := Aside0.mk hv; clear hv; replace hKL := Aside0.mk hK1; have hS1 := Aside0.mk hS.1; have hs0 := cellS71_0 hS.1; replace hlt := Aside0.mk hlt; have hPos := Aside0.mk (hD.out.ktg x g hF); clear hF hlx hK1 hS); rotate_left; (intro x g w13 cnt1 hF hlx hK1 hlt hS hen hu hv; have hWant := Aside0.mk (show ow l0 x = user from by simpa using hu); have hq := Aside0.mk hv; clear hv; have hF1 := Aside0.mk hF; have hl1 := Aside0.mk hlx; replace hKL := Aside0.mk hK1; have hS1 := Aside0.mk hS.1; have hs0 := cellS71_0 hS.1; replace hlt := Aside0.mk hlt; have hPos := Aside0.mk (hD.out.ktg x g hF); clear hF hlx hK1 hS); rotate_left) | (go_at_call 44; refine (sv_says _ _ _ _ time _ hS1.out _ (valid_says hPos.out hq.out)).mono ?_; rintro _ _ ⟨rfl, ⟨_, rfl⟩⟩) | ((with_reducible refine gate_builtin (b := .append) (xs := #[.tmp 51, .tmp 53]) rfl ?_); at_builtin; refine Kd.R_append (Kd.int .i64) (w0 := w) w.heap.size rfl (.tmp 51) (.tmp 53) 36 3 (.int .i64 0) 8 rfl Try.underlying36 info3 rfl (by decide) (by omega) u10 ss x [.int .i64 x] (fun _ => True) (fun _ => False) rfl rfl ?aP (fun _ hk => hk.elim) ?aF ?aO ?aB ?aS ?aL ?_; (case aP => exact rfl); (case aB => exact (KL.mv hKL.out).bel); (case aF => exact (fun _ _ => trivial)); (case aO => exact (KL.mv hKL.out).own); (case aS => exact (KL.mv hKL.out).bel.size); (case aL => have := hShort.out; omega); intro v14 w14 ho hb hg hat; have hKP := Aside0.mk (KL.push (KL.mv hKL.out) ho hb hg); clear ho hb hg hat) | ((with_reducible refine gate_callee (f := 46) rfl ?_); refine goesL_ (some 56) rfl rfl Try.func46 (by kernel_rfl) rfl #[u10] rfl ln_ ?_; refine (sort_calls (KL.mv hKL.out).own (by have := hShort.out; omega)).mono ?_; rintro _ w20 ⟨rfl, ho, hg⟩; refine ⟨_, rfl, ?_⟩; have hKP := Aside0.mk (KL.sorted (KL.mv hKL.out) ho hg); have HB := Aside0.mk hKP.out.bel; have BK101 := Aside0.mk hKP.out.bk; have GW101 := Aside0.mk hKP.out.hgb; have hz0 := blk_c (v := .int .i64 0) BK101.out 0 rfl; have hz1 := blk_c (v := .int .i64 0) BK101.out 1 rfl; have hzf0 := blk_frozen BK101.out 0; have hzf1 := blk_frozen BK101.out 1; clear ho hg hKL))
          rotate_left
          · go_roundg k1
            case measure => omega
            case rel => exact ⟨ss, _, cnt1, ⟨by have := hC.out; have := hlt.out; omega⟩, ⟨hGot.out.skip hWhy.out⟩, ⟨KL.mv hKL.out⟩⟩
          · go_roundg k1
            case measure => omega
            case rel => exact ⟨ss, _, cnt1, ⟨by have := hC.out; have := hlt.out; omega⟩, ⟨hGot.out.skip hWhy.out⟩, ⟨KL.mv hKL.out⟩⟩
          · go_roundg k1
            case measure => omega
            case rel => exact ⟨ss ++ [x], _, cnt1, ⟨by have := hC.out; have := hlt.out; omega⟩, ⟨hGot.out.push hF1.out hl1.out hWant.out hq.out⟩, ⟨KL.mv hKP.out⟩⟩
          · refine bodyPost_ret (results_tc rfl _ _ gb101 24 #[.int .i64 0, .int .i64 0] (0, 0) _ rfl (by refine blk_mv ?_; refine blk_put (cs := #[.int .i64 0, .int .i64 0]) ?_ 1 _ rfl; refine blk_mv ?_; refine blk_put (cs := #[.int .i64 0, .int .i64 0]) ?_ 0 _ rfl; refine blk_mv ?_; exact BK101.out) Try.underlying24 rfl (by kernel_rfl)) rfl ?_
            exact ⟨_, rfl, by rw [← hGot.out.done hD.out hz.out hEnd.out]; exact hKP.out.last, bel_⟩
end Go.Proofs.Ytnkonhplfldlmaa.Fn
