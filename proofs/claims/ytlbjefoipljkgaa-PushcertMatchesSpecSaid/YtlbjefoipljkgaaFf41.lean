/- A function of the program as a plain Lean function, and the proof that the call comes to just what it says (written by wip/tools/xprint.py for this claim). Condition: the plain function has an answer. -/
import Derived.Test.YtlbjefoipljkgaaFn0
import Derived.Test.YtlbjefoipljkgaaWA
import Derived.Test.YtlbjefoipljkgaaShelf
import Derived.Test.YtlbjefoipljkgaaTight
namespace Go.Proofs.Ytlbjefoipljkgaa.Fn
open Go.RowKit Go.Proofs.YtlbjefoipljkgaaW.PrintWords Go.Proofs.YtlbjefoipljkgaaW.PrintLast Go.Proofs.YtlbjefoipljkgaaW.PrintMore
attribute [local go_sem] max2_int min2_int max_two min_two max_three min_three max_four min_four   -- for this text's walks alone
set_option linter.unusedVariables false
set_option linter.unusedSimpArgs false

/-! ### slices_Insert_int_int: function 41 -/
-- IMPORT Derived.Test.@SEAT@Shelf
-- IMPORT Derived.Test.@SEAT@WKept
def slices_Insert_int_int.f (a0 : List Int) (a1 : Int) (a2 : List Int) : Option (List Int) :=
  if 0 ≤ a1 ∧ a1 ≤ (a0.length : Int) ∧ a2.length = 1 ∧ a0.length ≤ 1000000 then some (a0.take a1.toNat ++ a2 ++ a0.drop a1.toNat) else none
theorem ins_cells {L cs L1 L2 : List Value} {i n : Nat} (x : Value) (hn : cs.length = n) (hi : i ≤ n) (hL : L.take n = cs) (hlen : n + 1 ≤ L.length)
    (h1 : L1 = L.take (i + 1) ++ cs.drop i ++ L.drop (i + 1 + (cs.drop i).length)) (h2 : L2 = L1.take i ++ [x] ++ L1.drop (i + 1)) : L2.take (n + 1) = cs.take i ++ [x] ++ cs.drop i := by
  have a : (L.take (i + 1)).length = i + 1 := by rw [List.length_take]; omega
  have b : L1.take i = cs.take i := by
    rw [h1, List.append_assoc, List.take_append_of_le_length (by omega), List.take_take, Nat.min_eq_left (by omega), ← hL, List.take_take, Nat.min_eq_left hi]
  have c : L1.drop (i + 1) = cs.drop i ++ L.drop (i + 1 + (cs.drop i).length) := by
    rw [h1, List.append_assoc]
    exact List.drop_left' a
  rw [h2, b, c, ← List.append_assoc, List.take_append_of_le_length (by simp; omega), List.take_of_length_le (by simp; omega)]
theorem ins_cells2 {L0 cs L1 L2 : List Value} {i n : Nat} (x : Value) (hn : cs.length = n) (hi : i ≤ n) (h0 : L0.take i = cs.take i) (hlen : n + 1 ≤ L0.length)
    (h1 : L1 = L0.take i ++ [x] ++ L0.drop (i + 1)) (h2 : L2 = L1.take (i + 1) ++ cs.drop i ++ L1.drop (i + 1 + (cs.drop i).length)) : L2.take (n + 1) = cs.take i ++ [x] ++ cs.drop i := by
  have a : (L0.take i ++ [x]).length = i + 1 := by rw [List.length_append, List.length_take, List.length_singleton]; omega
  have b : L1.take (i + 1) = cs.take i ++ [x] := by
    rw [h1, List.take_left' a, h0]
  rw [h2, b, List.take_append_of_le_length (by simp; omega), List.take_of_length_le (by simp; omega)]
theorem below_setCells {B g : Nat} {w W : World} (h : Below B w W) (hg : B ≤ g) (o : Nat) (vs : List Value) : Below B w (W.setCells g o vs) := by
  obtain ⟨h1, h2, h3, h4⟩ := setCells_same g vs o W
  exact ⟨h1.trans h.os, h2.trans h.tape, h3.trans h.output, by rw [h4]; exact h.size, fun k hk => (setCells_far vs o k (by omega)).trans (h.block k hk)⟩
theorem below_alloc_drew {B : Nat} {w W : World} (h : Below B w W) (hB : B ≤ W.heap.size) (o : Obj) : Below B w (W.drew.alloc o) := (below_drew h).alloc hB o
theorem kept_setCells {g : Nat} {w W : World} {S : Nat → Prop} (h : Kept w W S) (hg : S g ∨ w.heap.size ≤ g) (o : Nat) (vs : List Value) : Kept w (W.setCells g o vs) S :=
  h.then_ (S2 := fun k => k = g) ⟨by rw [(setCells_same g vs o W).2.2.2]; exact Nat.le_refl _, fun i _ hn => setCells_far vs o i hn⟩ (fun k hk => by rw [hk]; exact hg)
theorem nums_ins (l0 : List Int) (x : Int) (i : Nat) : (nums .i64 l0).take i ++ [.int .i64 x] ++ (nums .i64 l0).drop i = nums .i64 (l0.take i ++ [x] ++ l0.drop i) := by
  simp [nums]
theorem nums_one (l : List Int) : ∀ v ∈ nums .i64 l, v.oneCell' = true := by
  intro v hv
  obtain ⟨x, _, rfl⟩ := List.mem_map.1 hv
  rfl
theorem nums_get {l : List Int} {j : Nat} {v : Value} {cur : Array Value} {n : Nat} (hl : l.length = n) (h : cur.toList.take n = nums .i64 l) (hj : (nums .i64 l)[j]? = some v) : cur[j]? = some v := by
  rw [← h, List.getElem?_take] at hj
  split at hj
  · simpa using hj
  · cases hj
theorem new_row (cs : List Value) (n G : Nat) (hn : cs.length = n) (hG : n ≤ G) : (cs.toArray ++ Builtin.zeroCells (Value.int .i64 0).cells (G - n)).size = G ∧ (cs.toArray ++ Builtin.zeroCells (Value.int .i64 0).cells (G - n)).toList.take n = cs := by
  refine ⟨?_, ?_⟩
  · simp [Builtin.zeroCells, Value.cells]
    omega
  · rw [Array.toList_append, List.toList_toArray, List.take_append_of_le_length (by omega), List.take_of_length_le (by omega)]
theorem ins_grow {w W1 W2 : World} {R0 : Array Value} {i n G : Nat} {cs vs : List Value} {x : Value} (hv : vs = [x]) (h1 : W1 = (w.alloc (.cells R0 3)).drew.setCells w.heap.size i vs) (h2 : W2 = W1.drew.setCells w.heap.size (i + 1) (cs.drop i))
    (hR : R0.size = G) (hG : n + 1 ≤ G) (hn : cs.length = n) (hi : i ≤ n) (h0 : R0.toList.take i = cs.take i) :
    ∃ cur, W2.heap[w.heap.size]? = some (.cells cur 3 (0, 0)) ∧ cur.size = G ∧ cur.toList.take (n + 1) = cs.take i ++ [x] ++ cs.drop i := by
  subst hv
  have hg0 : (w.alloc (.cells R0 3)).drew.heap[w.heap.size]? = some (.cells R0 3 (0, 0)) := heap_alloc_new w _
  obtain ⟨cur1, hg1, hs1, ht1⟩ := setCells_row [x] i _ R0 hg0 (by simp; omega)
  rw [← h1] at hg1
  have hg1' : W1.drew.heap[w.heap.size]? = some (.cells cur1 3 (0, 0)) := hg1
  obtain ⟨cur2, hg2, hs2, ht2⟩ := setCells_row (cs.drop i) (i + 1) _ cur1 hg1' (by rw [List.length_drop]; omega)
  rw [← h2] at hg2
  have hl : n + 1 ≤ R0.toList.length := by have := Array.length_toList (xs := R0); omega
  exact ⟨cur2, hg2, by omega, ins_cells2 x hn hi h0 hl ht1 ht2⟩
theorem grow_row (cs : List Value) (i n G : Nat) (hn : cs.length = n) (hi : i ≤ n) (hG : n + 1 ≤ G) : ((cs.take i).toArray ++ Builtin.zeroCells (Value.int .i64 0).cells (n + 1 - i) ++ Builtin.zeroCells (Value.int .i64 0).cells (G - (n + 1))).size = G ∧
    ((cs.take i).toArray ++ Builtin.zeroCells (Value.int .i64 0).cells (n + 1 - i) ++ Builtin.zeroCells (Value.int .i64 0).cells (G - (n + 1))).toList.take i = cs.take i := by
  have hl : (cs.take i).length = i := by rw [List.length_take]; omega
  refine ⟨?_, ?_⟩
  · simp [Builtin.zeroCells, Value.cells]
    omega
  · rw [Array.toList_append, Array.toList_append, List.toList_toArray, List.append_assoc, List.take_append_of_le_length (by omega), List.take_of_length_le (by omega)]
/-- The row that is left. -/
theorem ins_end {w0 W : World} {g n cap : Nat} {cur : Array Value} {l : List Int} {ok : Nat → Prop} (hb : w0.heap.size ≤ g) (hg : W.heap[g]? = some (.cells cur 3 (0, 0))) (hn : l.length = n + 1) (hc : n + 1 ≤ cap) (hm : cap ≤ 9223372036854775807) (hs : cur.size = cap)
    (ht : cur.toList.take (n + 1) = nums .i64 l) (hok : ok g) : Kd.R (Kd.int .i64) 3 W w0.heap.size ok (.slice (some ⟨g, 0, none⟩) (n + 1) cap) l := by
  refine Kd.R_of_own (enc := Value.int .i64) ⟨?_, .inr ⟨g, cap, cur, ?_, hb, hg, ?_, hm, ?_, ?_⟩⟩ (fun k hk => ?_)
  · simp [encs]
  · rw [hn]
  · omega
  · omega
  · rw [Nat.mul_one, hn]
    exact ht
  · injection hk with hk
    exact hk ▸ hok
set_option maxHeartbeats 4000000 in
set_option maxRecDepth 100000 in
theorem slices_Insert_int_int.calls (P0_ : Nat → Prop) (u9000_ : Value) (l0 : List Int) (a1 : Int) (P2_ : Nat → Prop) (u9001_ : Value) (l2 : List Int) (r : List Int) (w0 w : World) (hB : Below w0.heap.size w0 w)
    (ho0 : Kd.R (Kd.int .i64) 3 w w0.heap.size P0_ u9000_ l0) (hp0_2 : ∀ k_, P0_ k_ → ¬ P2_ k_) (ho2 : Kd.R (Kd.int .i64) 3 w w0.heap.size P2_ u9001_ l2) (hp2_0 : ∀ k_, P2_ k_ → ¬ P0_ k_) (h : slices_Insert_int_int.f l0 a1 l2 = some r) :
    Calls Try.prog 41 #[u9000_, .int .i64 a1, u9001_] w fun e w' => ∃ v0_ : Value, e = .returned (v0_) ∧ Kd.R (Kd.int .i64) 3 w' w0.heap.size (fun k_ => ((P0_ k_ ∨ P2_ k_) ∨ w.heap.size ≤ k_)) v0_ r ∧ Below w0.heap.size w0 w' ∧ Kept w w' (fun k_ => P0_ k_ ∨ P2_ k_) := by
  unfold slices_Insert_int_int.f at h
  split at h
  case isFalse => exact absurd h (by simp)
  rename_i hc
  obtain ⟨h0, h1, h2, h3⟩ := hc
  obtain ⟨x, rfl⟩ : ∃ x, l2 = [x] := by
    match l2, h2 with
    | [x], _ => exact ⟨x, rfl⟩
  obtain ⟨i, rfl⟩ := Int.eq_ofNat_of_zero_le h0
  rw [Int.toNat_natCast] at h
  injection h with h
  obtain rfl : r = l0.take i ++ [x] ++ l0.drop i := h.symm
  have hi : i ≤ l0.length := by omega
  have hBw := hB.size
  obtain ⟨_, how2⟩ := Kd.own_of_R ho2
  obtain ⟨_, how0⟩ := Kd.own_of_R ho0
  have hP2 := ho2.1
  have hP0 := ho0.1
  rcases how2 with ⟨_, he⟩ | ⟨g2, cap2, cur2, rfl, hb2, hg2, hle2, hm2, hs2, ht2⟩
  · exact absurd he (by simp)
  have hvs : ∀ j v, (nums .i64 [x])[j]? = some v → w.cell? ⟨g2, 0 + j, none⟩ = some v := fun j v hj => by
    rw [Nat.zero_add, blk_cell hg2]
    exact nums_get (n := 1) rfl ht2 hj
  have hlen : (nums .i64 l0).length = l0.length := nums_length _ _
  have hres : ∀ n, (l0.take i ++ [x] ++ l0.drop i).length = n + 1 ↔ n = l0.length := fun n => by simp; omega
  rcases how0 with ⟨rfl, he⟩ | ⟨g, cap, cur, rfl, hb, hg, hle, hm, hs, ht⟩
  · obtain rfl : l0 = [] := List.length_eq_zero_iff.1 he
    obtain rfl : i = 0 := by simpa using hi
    refine (Any2.slices_Insert_int_end_grow Try.laysNm221 none 0 0 g2 0 1 cap2 [] (nums .i64 [x]) w (by omega) (by omega) (by omega) (by omega) rfl rfl (fun _ => rfl) (fun a ha => by cases ha) hvs (nums_one _)).mono ?_
    rintro e w' ⟨rfl, rfl⟩
    have G1 := grownCap_ge w (0 + 1) 0 3
    have G2 := grownCap_le_maxLen w (0 + 1) 0 3 (by unfold maxLen; omega)
    refine ⟨_, rfl, ins_end (n := 0) hBw (heap_alloc_new w.drew _) (by simp) G1 G2 ?_ ?_ (.inr (Nat.le_refl _)), below_alloc_drew hB hBw _, (Kept.refl w _).drew.alloc _⟩
    · exact (new_row _ (0 + 1) _ rfl G1).1
    · exact (new_row _ (0 + 1) _ rfl G1).2
  · have hb' := hb
    have hsz : cur.size = cap := by omega
    have htk : cur.toList.take l0.length = nums .i64 l0 := by rw [Nat.mul_one] at ht; exact ht
    have hgw : g < w.heap.size := blk_lt hg
    have hcs : ∀ j v, (nums .i64 l0)[j]? = some v → w.cell? ⟨g, 0 + j, none⟩ = some v := fun j v hj => by
      rw [Nat.zero_add, blk_cell hg]
      exact nums_get rfl htk hj
    have hne : g2 ≠ g := fun e => hp0_2 g (hP0 g rfl) (e ▸ hP2 g2 rfl)
    have hfz : ∀ j, w.frozen? ⟨g, j, none⟩ = false := fun j => blk_frozen hg j
    have hsome : ∀ j, j < cap → (w.cell? ⟨g, 0 + j, none⟩).isSome = true := fun j hj => by
      rw [Nat.zero_add, blk_cell hg, Array.getElem?_eq_getElem (by omega)]
      rfl
    have hcl : cap = cur.toList.length := by have := Array.length_toList (xs := cur); omega
    have hmx : cap ≤ 9223372036854775807 := hm
    by_cases hroom : l0.length + 1 ≤ cap
    · by_cases hend : i = l0.length
      · subst hend
        refine (Any2.slices_Insert_int_end_room Try.laysNm221 g 0 l0.length cap g2 0 1 cap2 (nums .i64 [x]) w (by omega) hroom hmx rfl (fun j hj => by rw [Nat.zero_add]; have := hsome (l0.length + j) (by omega); rwa [Nat.zero_add] at this) (fun j _ => hfz _) hvs (nums_one _)).mono ?_
        rintro e w' ⟨rfl, rfl⟩
        obtain ⟨cur', hg', hs', ht'⟩ := setCells_row (nums .i64 [x]) (0 + l0.length) w cur hg (by simp [nums]; omega)
        refine ⟨_, rfl, ins_end (n := l0.length) hb hg' (by simp) hroom hmx (hs'.trans hsz) ?_ (.inl (.inl (hP0 g rfl))), below_setCells hB hb _ _, kept_setCells (Kept.refl w _) (.inl (.inl (hP0 g rfl))) _ _⟩
        rw [ht', Nat.zero_add, htk, List.take_append_of_le_length (by simp [nums]), List.take_of_length_le (by simp [nums])]
        simp [nums]
      · refine (Any2.slices_Insert_int_shift Try.laysNm221 g 0 l0.length cap i g2 0 1 cap2 (nums .i64 l0) (nums .i64 [x]) w (by omega) (by omega) hroom hmx hne hlen rfl hcs (fun j hj => hsome j (by omega)) (fun j _ => hfz _) hvs (nums_one _) (nums_one _)
          3 3 cur2.size cur.size (by simp [World.shape?, hg2]) (by simp [World.shape?, hg]) (by omega) (blk_frozen hg2 _) (blk_frozen hg2 _)).mono ?_
        rintro e w' ⟨rfl, rfl⟩
        obtain ⟨cur1, hg1, hs1, ht1⟩ := setCells_row ((nums .i64 l0).drop i) (0 + (i + 1)) w.drew cur hg (by rw [List.length_drop, hlen]; omega)
        obtain ⟨cur', hg', hs', ht'⟩ := setCells_row (nums .i64 [x]) (0 + i) _ cur1 hg1 (by simp [nums]; omega)
        refine ⟨_, rfl, ins_end (n := l0.length) hb hg' (by simp; omega) hroom hmx (hs'.trans (hs1.trans hsz)) ?_ (.inl (.inl (hP0 g rfl))), below_setCells (below_setCells (below_drew hB) hb _ _) hb _ _, kept_setCells (kept_setCells (Kept.refl w _).drew (.inl (.inl (hP0 g rfl))) _ _) (.inl (.inl (hP0 g rfl))) _ _⟩
        rw [Nat.zero_add] at ht1 ht'
        rw [ins_cells (.int .i64 x) hlen hi htk (hcl ▸ hroom) ht1 ht']
        exact nums_ins l0 x i
    · by_cases hend : i = l0.length
      · subst hend
        refine (Any2.slices_Insert_int_end_grow Try.laysNm221 (some ⟨g, 0, none⟩) l0.length cap g2 0 1 cap2 (nums .i64 l0) (nums .i64 [x]) w (by omega) hle (by omega) (by omega) hlen rfl (fun e => by cases e) (fun a ha j v hj => by cases ha; rw [add_plain]; have := hcs j v hj; rwa [Nat.zero_add] at this) hvs (nums_one _)).mono ?_
        rintro e w' ⟨rfl, rfl⟩
        have G1 := grownCap_ge w (l0.length + 1) cap 3
        have G2 := grownCap_le_maxLen w (l0.length + 1) cap 3 (by unfold maxLen; omega)
        refine ⟨_, rfl, ins_end (n := l0.length) hBw (heap_alloc_new w.drew _) (by simp) G1 G2 ?_ ?_ (.inr (Nat.le_refl _)), below_alloc_drew hB hBw _, (Kept.refl w _).drew.alloc _⟩
        · exact (new_row _ (l0.length + 1) _ (by rw [List.length_append, hlen]; rfl) G1).1
        · refine ((new_row _ (l0.length + 1) _ (by rw [List.length_append, hlen]; rfl) G1).2).trans ?_
          simp [nums]
      · refine (Any2.slices_Insert_int_grow Try.laysNm221 g 0 l0.length cap i g2 0 1 cap2 (nums .i64 l0) (nums .i64 [x]) w (by omega) (by omega) hle (by omega) (by omega) hlen rfl hcs hvs (nums_one _) (nums_one _)).mono ?_
        rintro e w' ⟨rfl, rfl⟩
        have G1 := grownCap_ge w (l0.length + 1) cap 3
        have G2 := grownCap_le_maxLen w (l0.length + 1) cap 3 (by unfold maxLen; omega)
        have gr := grow_row (nums .i64 l0) i l0.length _ hlen hi G1
        obtain ⟨cur', hg', hs', ht'⟩ := ins_grow (n := l0.length) (cs := nums .i64 l0) (vs := nums .i64 [x]) (x := .int .i64 x) rfl rfl rfl gr.1 G1 hlen hi gr.2
        refine ⟨_, rfl, ins_end (n := l0.length) hBw hg' (by simp; omega) G1 G2 hs' (ht'.trans (nums_ins l0 x i)) (.inr (Nat.le_refl _)), ?_, ?_⟩
        · exact below_setCells (below_drew (below_setCells (below_drew (hB.alloc hBw _)) hBw _ _)) hBw _ _
        · exact kept_setCells (kept_setCells ((Kept.refl w _).alloc _).drew (.inr (Nat.le_refl _)) _ _).drew (.inr (Nat.le_refl _)) _ _

end Go.Proofs.Ytlbjefoipljkgaa.Fn
