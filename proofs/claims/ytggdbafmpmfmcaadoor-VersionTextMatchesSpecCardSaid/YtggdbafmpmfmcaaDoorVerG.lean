/- version.Parse answers as plain words say (printed by wip/tools/verg.py; own work). Condition: what the library's variables hold. -/
import Derived.Test.YtggdbafmpmfmcaaDoorFn0
import Derived.Test.YtggdbafmpmfmcaaDoorFs0
import Derived.Test.YtggdbafmpmfmcaaDoorVerE
import Derived.Test.YtggdbafmpmfmcaaDoorTight
import Derived.WalkKit
import Derived.Lib.Hide
import Derived.RegionTactic
import Derived.BigRegion
import Derived.ChangeAlike
set_option linter.unusedVariables false
set_option linter.unusedSimpArgs false
namespace Go.Proofs.YtggdbafmpmfmcaaDoor.Fn
open Go Go.RowKit Go.Proofs.YtggdbafmpmfmcaaDoorW.PrintWords Go.Proofs.YtggdbafmpmfmcaaDoorW.PrintLast Go.Proofs.YtggdbafmpmfmcaaDoorW.PrintMore
attribute [local go_sem high] eqA27
set_option maxHeartbeats 8000000 in
set_option maxRecDepth 100000 in
theorem parse_not3 (s : ByteArray) (w : World) (HL : LibOk w) (h : s.size ≤ 80) (h3 : (partsB (coreB s)).length ≠ 3) :
    Calls Tryd.prog 20 #[.string s] w fun e w' => ∃ v3_ : Value, e = .returned (.tuple #[.agg #[.int .i64 0, .int .i64 0, .int .i64 0, v3_], .agg #[.int .i64 1, .int .i64 (-1)]]) ∧ Kd.R Kd.string 9 w' w.heap.size (fun _ => True) v3_ [] ∧ Below w.heap.size w w' := by
  have hu24 := Tryd.underlying24
  have hu27 := Tryd.underlying27
  obtain ⟨⟨m, hm⟩, _⟩ := HL
  have HM := Aside0.mk hm
  have hle := cut_le s
  have c1 := fun W hm => cut_calls s (by omega) W m hm
  have c2 := fun W hm g hg => split_calls (coreB s) (by omega) W m hm g hg
  have C1 := Aside0.mk c1
  have C2 := Aside0.mk c2
  clear c1 c2 hle hm
  have hne : (((partsB (coreB s)).length : Int) != 3) = true := bne_iff_ne.2 (by omega)
  have heq : (((partsB (coreB s)).length : Int) == 3) = false := beq_eq_false_iff_ne.2 (by omega)
  clear h3
  go_enter Tryd.func20, Tryd.ntmps20
  go_wp2_with (first | (go_at_call 36; refine (C1.out _ (by exact pw_cell_below (by repeat (first | exact Below.refl _ _ | apply below_alloc | apply pw_below_drewN)) HM.out)).mono ?_; rintro e w' ⟨rfl, ⟨n, rfl⟩⟩) | (go_at_call 37; refine (C2.out _ (by exact pw_cell_below (by repeat (first | exact Below.refl _ _ | apply below_alloc | apply pw_below_drewN)) HM.out) (w.heap.size + 3) (by simp)).mono ?_; rintro e w3 ⟨rfl, hw3⟩; have S := Aside0.mk (show PS w w3 w.heap.size (partsB (coreB s)) from by rw [hw3]; exact PS.start _ _ _); have Z := Aside0.mk (show w3.heap.size = w.heap.size + 4 from by rw [hw3]; simp); clear hw3; refine Hid.out ?_))
  have d0 := blk_c (v := .int .i64 0) S.out.b0 0 rfl
  have e0 := blk_frozen S.out.b0 0
  have d1 := blk_c (v := .int .i64 0) S.out.b0 1 rfl
  have e1 := blk_frozen S.out.b0 1
  have d2 := blk_c (v := .int .i64 0) S.out.b0 2 rfl
  have e2 := blk_frozen S.out.b0 2
  have d3 := blk_c (v := .slice none 0 0) S.out.b0 3 rfl
  have e3 := blk_frozen S.out.b0 3
  have d4 := blk_c (v := .int .i64 0) S.out.b1 0 rfl
  have e4 := blk_frozen S.out.b1 0
  have d5 := blk_c (v := .int .i64 0) S.out.b1 1 rfl
  have e5 := blk_frozen S.out.b1 1
  have h20 : w3.cell? ⟨w.heap.size + 1 + 1, 0, none⟩ = some (.int .i64 1) := blk_c S.out.b2 0 rfl
  have h21 : w3.cell? ⟨w.heap.size + 1 + 1, 1, none⟩ = some (.int .i64 (-1)) := blk_c S.out.b2 1 rfl
  refine Lib.hid ?_
  go_wp2
  go_region
  go_wp2
  obtain ⟨e0, e1, eb⟩ := badEnd S.out.bel S.out.le S.out.b0 S.out.b1 0 0 0 (.slice none 0 0) 1 (-1)
  refine bodyPost_ret (results_cc rfl _ _ w.heap.size (w.heap.size + 1) 24 27 #[.int .i64 0, .int .i64 0, .int .i64 0, .slice none 0 0] #[.int .i64 1, .int .i64 (-1)] (0, 0) (0, 0) _ _ rfl (blk_drew e0) hu24 rfl (by kernel_rfl) rfl (blk_drew e1) hu27 rfl (by kernel_rfl)) rfl ?_
  exact ⟨_, rfl, Kd.R_nil _ _ _ _ _, below_drew eb⟩
theorem ip0 (a b c : Addr) (w : World) : (Instr.index 59 (.agg #[.pointer (some a), .pointer (some b), .pointer (some c)]) (.int .i64 0)).run Tryd.prog w = .ok (.pointer (some a)) w := by kernel_rfl
theorem ip1 (a b c : Addr) (w : World) : (Instr.index 59 (.agg #[.pointer (some a), .pointer (some b), .pointer (some c)]) (.int .i64 1)).run Tryd.prog w = .ok (.pointer (some b)) w := by kernel_rfl
theorem ip2 (a b c : Addr) (w : World) : (Instr.index 59 (.agg #[.pointer (some a), .pointer (some b), .pointer (some c)]) (.int .i64 2)).run Tryd.prog w = .ok (.pointer (some c)) w := by kernel_rfl
theorem num_at (s : ByteArray) (n : Int) (b : Bool) (h : numOf s = (n, b)) (w : World) : Calls Tryd.prog 38 #[.string s] w fun e w' => e = .returned (.tuple #[.int .i64 n, .bool b]) ∧ Below w.heap.size w w' := by
  have := number_calls s w
  rw [h] at this
  exact this
theorem C_nil (w : World) : Kd.C Kd.string w none ([] : List ByteArray).length [] := ⟨rfl, by simp, fun h => absurd h (by simp)⟩
theorem C_row {w : World} {g : Nat} {P : List ByteArray} (h : w.heap[g]? = some (strO P)) (hl : P.length ≤ 9223372036854775807) : Kd.C Kd.string w (some ⟨g, 0, none⟩) P.length P :=
  ⟨rfl, hl, fun _ => ⟨⟨g, 0, none⟩, rfl, fun j p hj => ⟨[.string p], rfl, rfl, fun i u hu => by
    have hi : i = 0 := by
      have := (List.getElem?_eq_some_iff.1 hu).1
      simp at this
      exact this
    subst hi
    have e : u = .string p := by simpa using hu.symm
    subst e
    rw [show (⟨g, 0, none⟩ : Addr).add (j * Kd.string.sz + 0) = ⟨g, j, none⟩ from by
      unfold Addr.add
      by_cases hj0 : j = 0
      · subst hj0; rfl
      · rw [if_neg (by show ¬ j * 1 + 0 = 0; omega)]; show (⟨g, 0 + (j * 1 + 0), none⟩ : Addr) = _; simp]
    exact (blk_cell h j).trans (by simp [hj])⟩⟩⟩
theorem R_row {w : World} {g b : Nat} {P : List ByteArray} (h : w.heap[g]? = some (strO P)) (hl : P.length ≤ 9223372036854775807) (hb : b ≤ g) : Kd.R Kd.string 9 w b (fun k => k = g) (.slice (some ⟨g, 0, none⟩) P.length P.length) P :=
  Kd.R_of_own (enc := Value.string) ⟨by simp [encs], .inr ⟨g, P.length, _, rfl, hb, h, Nat.le_refl _, hl, by simp, by simp only [encs, Nat.mul_one]; rw [List.take_of_length_le (by simp)]⟩⟩ (fun k hk => by simpa [Value.ownBlock] using hk.symm)
theorem ids_le (s : ByteArray) : (partsB s).length ≤ s.size + 1 := by
  have hl := Lib.splitB_all (⟨#[46]⟩ : ByteArray) (by decide) 0 _ s rfl
  have := Lib.countB_le (⟨#[46]⟩ : ByteArray) (by decide) s.size s (Nat.le_refl _)
  rw [show (partsB s).length = Lib.countB s ⟨#[46]⟩ + 1 from hl]
  omega
set_option maxHeartbeats 8000000 in
set_option maxRecDepth 100000 in
theorem parse_bad0 (s : ByteArray) (w : World) (HL : LibOk w) (h : s.size ≤ 80) (p q r : ByteArray) (hP : partsB (coreB s) = [p, q, r]) (n0 : Int) (h0 : numOf p = (n0, false)) :
    Calls Tryd.prog 20 #[.string s] w fun e w' => ∃ v3_ : Value, e = .returned (.tuple #[.agg #[.int .i64 0, .int .i64 0, .int .i64 0, v3_], .agg #[.int .i64 1, .int .i64 (-1)]]) ∧ Kd.R Kd.string 9 w' w.heap.size (fun _ => True) v3_ [] ∧ Below w.heap.size w w' := by
  have hu24 := Tryd.underlying24
  have hu27 := Tryd.underlying27
  have N0 := Aside0.mk (num_at p n0 false h0)
  clear h0
  obtain ⟨⟨m, hm⟩, _⟩ := HL
  have HM := Aside0.mk hm
  have hle := cut_le s
  have c1 := fun W hm => cut_calls s (by omega) W m hm
  have c2 := fun W hm g hg => split_calls (coreB s) (by omega) W m hm g hg
  rw [hP] at c2
  have C1 := Aside0.mk c1
  have C2 := Aside0.mk c2
  clear c1 c2 hle hm
  have i0 := fun (a b c : Addr) (w : World) => ip0 a b c w
  have i1 := fun (a b c : Addr) (w : World) => ip1 a b c w
  have i2 := fun (a b c : Addr) (w : World) => ip2 a b c w
  go_enter Tryd.func20, Tryd.ntmps20
  go_wp2_with (first | (go_at_call 36; refine (C1.out _ (by exact pw_cell_below (by repeat (first | exact Below.refl _ _ | apply below_alloc | apply pw_below_drewN)) HM.out)).mono ?_; rintro e w' ⟨rfl, ⟨n, rfl⟩⟩) | (go_at_call 37; refine (C2.out _ (by exact pw_cell_below (by repeat (first | exact Below.refl _ _ | apply below_alloc | apply pw_below_drewN)) HM.out) (w.heap.size + 3) (by simp)).mono ?_; rintro e w3 ⟨rfl, hw3⟩; have S := Aside0.mk (show PS w w3 w.heap.size [p, q, r] from by rw [hw3]; exact PS.start _ _ _); have Z := Aside0.mk (show w3.heap.size = w.heap.size + 4 from by rw [hw3]; simp); clear hw3; refine Hid.out ?_))
  have x0 : ∀ o, (w3.alloc o).cell? ⟨w.heap.size + 3, 0, none⟩ = some (.string p) := fun o => pw_cell_below (below_alloc (Below.refl _ _) o) (S.out.str 0 p rfl)
  refine Lib.hid ?_
  go_wp2
  refine wp_loop_rounds 4 ?_
  rw [rounds_succ]
  go_wp2_with (go_at_call 38; refine (N0.out _).mono ?_; rintro e w4 ⟨rfl, hb⟩; refine Hid.out ?_)
  have S4 := Aside0.mk ((S.out.below (below_alloc (Below.refl _ _) (verO 0 0 0 (.slice none 0 0)))).below hb)
  have V4 := Aside0.mk (blk_below (blk_new w3 (verO 0 0 0 (.slice none 0 0))) hb)
  clear hb x0
  have d0 := blk_c (v := .int .i64 0) S4.out.b0 0 rfl
  have e0 := blk_frozen S4.out.b0 0
  have d1 := blk_c (v := .int .i64 0) S4.out.b0 1 rfl
  have e1 := blk_frozen S4.out.b0 1
  have d2 := blk_c (v := .int .i64 0) S4.out.b0 2 rfl
  have e2 := blk_frozen S4.out.b0 2
  have d3 := blk_c (v := .slice none 0 0) S4.out.b0 3 rfl
  have e3 := blk_frozen S4.out.b0 3
  have d4 := blk_c (v := .int .i64 0) S4.out.b1 0 rfl
  have e4 := blk_frozen S4.out.b1 0
  have d5 := blk_c (v := .int .i64 0) S4.out.b1 1 rfl
  have e5 := blk_frozen S4.out.b1 1
  have h20 : w4.cell? ⟨w.heap.size + 1 + 1, 0, none⟩ = some (.int .i64 1) := blk_c S4.out.b2 0 rfl
  have h21 : w4.cell? ⟨w.heap.size + 1 + 1, 1, none⟩ = some (.int .i64 (-1)) := blk_c S4.out.b2 1 rfl
  refine Lib.hid ?_
  go_wp2
  go_region
  go_wp2
  obtain ⟨e0, e1, eb⟩ := badEnd S4.out.bel S4.out.le S4.out.b0 S4.out.b1 0 0 0 (.slice none 0 0) 1 (-1)
  refine bodyPost_ret (results_cc rfl _ _ w.heap.size (w.heap.size + 1) 24 27 #[.int .i64 0, .int .i64 0, .int .i64 0, .slice none 0 0] #[.int .i64 1, .int .i64 (-1)] (0, 0) (0, 0) _ _ rfl (blk_drew e0) hu24 rfl (by kernel_rfl) rfl (blk_drew e1) hu27 rfl (by kernel_rfl)) rfl ?_
  exact ⟨_, rfl, Kd.R_nil _ _ _ _ _, below_drew eb⟩
set_option maxHeartbeats 8000000 in
set_option maxRecDepth 100000 in
theorem parse_bad1 (s : ByteArray) (w : World) (HL : LibOk w) (h : s.size ≤ 80) (p q r : ByteArray) (hP : partsB (coreB s) = [p, q, r]) (n0 n1 : Int) (h0 : numOf p = (n0, true)) (h1 : numOf q = (n1, false)) :
    Calls Tryd.prog 20 #[.string s] w fun e w' => ∃ v3_ : Value, e = .returned (.tuple #[.agg #[.int .i64 0, .int .i64 0, .int .i64 0, v3_], .agg #[.int .i64 1, .int .i64 (-1)]]) ∧ Kd.R Kd.string 9 w' w.heap.size (fun _ => True) v3_ [] ∧ Below w.heap.size w w' := by
  have hu24 := Tryd.underlying24
  have hu27 := Tryd.underlying27
  have N0 := Aside0.mk (num_at p n0 true h0)
  have N1 := Aside0.mk (num_at q n1 false h1)
  clear h0 h1
  obtain ⟨⟨m, hm⟩, _⟩ := HL
  have HM := Aside0.mk hm
  have hle := cut_le s
  have c1 := fun W hm => cut_calls s (by omega) W m hm
  have c2 := fun W hm g hg => split_calls (coreB s) (by omega) W m hm g hg
  rw [hP] at c2
  have C1 := Aside0.mk c1
  have C2 := Aside0.mk c2
  clear c1 c2 hle hm
  have i0 := fun (a b c : Addr) (w : World) => ip0 a b c w
  have i1 := fun (a b c : Addr) (w : World) => ip1 a b c w
  have i2 := fun (a b c : Addr) (w : World) => ip2 a b c w
  go_enter Tryd.func20, Tryd.ntmps20
  go_wp2_with (first | (go_at_call 36; refine (C1.out _ (by exact pw_cell_below (by repeat (first | exact Below.refl _ _ | apply below_alloc | apply pw_below_drewN)) HM.out)).mono ?_; rintro e w' ⟨rfl, ⟨n, rfl⟩⟩) | (go_at_call 37; refine (C2.out _ (by exact pw_cell_below (by repeat (first | exact Below.refl _ _ | apply below_alloc | apply pw_below_drewN)) HM.out) (w.heap.size + 3) (by simp)).mono ?_; rintro e w3 ⟨rfl, hw3⟩; have S := Aside0.mk (show PS w w3 w.heap.size [p, q, r] from by rw [hw3]; exact PS.start _ _ _); have Z := Aside0.mk (show w3.heap.size = w.heap.size + 4 from by rw [hw3]; simp); clear hw3; refine Hid.out ?_))
  have x0 : ∀ o, (w3.alloc o).cell? ⟨w.heap.size + 3, 0, none⟩ = some (.string p) := fun o => pw_cell_below (below_alloc (Below.refl _ _) o) (S.out.str 0 p rfl)
  refine Lib.hid ?_
  go_wp2
  refine wp_loop_rounds 4 ?_
  rw [rounds_succ]
  go_wp2_with (go_at_call 38; refine (N0.out _).mono ?_; rintro e w4 ⟨rfl, hb⟩; refine Hid.out ?_)
  have S4 := Aside0.mk ((S.out.below (below_alloc (Below.refl _ _) (verO 0 0 0 (.slice none 0 0)))).below hb)
  have V4 := Aside0.mk (blk_below (blk_new w3 (verO 0 0 0 (.slice none 0 0))) hb)
  clear hb x0
  have c0 := blk_c (v := .int .i64 0) V4.out 0 rfl
  have f0 := blk_frozen V4.out 0
  have x1 : ∀ v, (w4.setCell ⟨w3.heap.size, 0, none⟩ v).cell? ⟨w.heap.size + 3, 1, none⟩ = some (.string q) := fun v => (S4.out.set (gv := w3.heap.size) (j := 0) (by have := Z.out; omega) v).str 1 q rfl
  refine Lib.hid ?_
  go_wp2
  rw [rounds_succ]
  go_wp2_with (go_at_call 38; refine (N1.out _).mono ?_; rintro e w5 ⟨rfl, hb⟩; refine Hid.out ?_)
  have S5 := Aside0.mk ((S4.out.set (gv := w3.heap.size) (j := 0) (by have := Z.out; omega) (.int .i64 n0)).below hb)
  have V5 := Aside0.mk (blk_below (blk_put (cs' := #[.int .i64 n0, .int .i64 0, .int .i64 0, .slice none 0 0]) V4.out 0 (.int .i64 n0) rfl) hb)
  clear hb x1 c0 f0
  have d0 := blk_c (v := .int .i64 0) S5.out.b0 0 rfl
  have e0 := blk_frozen S5.out.b0 0
  have d1 := blk_c (v := .int .i64 0) S5.out.b0 1 rfl
  have e1 := blk_frozen S5.out.b0 1
  have d2 := blk_c (v := .int .i64 0) S5.out.b0 2 rfl
  have e2 := blk_frozen S5.out.b0 2
  have d3 := blk_c (v := .slice none 0 0) S5.out.b0 3 rfl
  have e3 := blk_frozen S5.out.b0 3
  have d4 := blk_c (v := .int .i64 0) S5.out.b1 0 rfl
  have e4 := blk_frozen S5.out.b1 0
  have d5 := blk_c (v := .int .i64 0) S5.out.b1 1 rfl
  have e5 := blk_frozen S5.out.b1 1
  have h20 : w5.cell? ⟨w.heap.size + 1 + 1, 0, none⟩ = some (.int .i64 1) := blk_c S5.out.b2 0 rfl
  have h21 : w5.cell? ⟨w.heap.size + 1 + 1, 1, none⟩ = some (.int .i64 (-1)) := blk_c S5.out.b2 1 rfl
  refine Lib.hid ?_
  go_wp2
  go_region
  go_wp2
  obtain ⟨e0, e1, eb⟩ := badEnd S5.out.bel S5.out.le S5.out.b0 S5.out.b1 0 0 0 (.slice none 0 0) 1 (-1)
  refine bodyPost_ret (results_cc rfl _ _ w.heap.size (w.heap.size + 1) 24 27 #[.int .i64 0, .int .i64 0, .int .i64 0, .slice none 0 0] #[.int .i64 1, .int .i64 (-1)] (0, 0) (0, 0) _ _ rfl (blk_drew e0) hu24 rfl (by kernel_rfl) rfl (blk_drew e1) hu27 rfl (by kernel_rfl)) rfl ?_
  exact ⟨_, rfl, Kd.R_nil _ _ _ _ _, below_drew eb⟩
set_option maxHeartbeats 8000000 in
set_option maxRecDepth 100000 in
theorem parse_bad2 (s : ByteArray) (w : World) (HL : LibOk w) (h : s.size ≤ 80) (p q r : ByteArray) (hP : partsB (coreB s) = [p, q, r]) (n0 n1 n2 : Int) (h0 : numOf p = (n0, true)) (h1 : numOf q = (n1, true)) (h2 : numOf r = (n2, false)) :
    Calls Tryd.prog 20 #[.string s] w fun e w' => ∃ v3_ : Value, e = .returned (.tuple #[.agg #[.int .i64 0, .int .i64 0, .int .i64 0, v3_], .agg #[.int .i64 1, .int .i64 (-1)]]) ∧ Kd.R Kd.string 9 w' w.heap.size (fun _ => True) v3_ [] ∧ Below w.heap.size w w' := by
  have hu24 := Tryd.underlying24
  have hu27 := Tryd.underlying27
  have N0 := Aside0.mk (num_at p n0 true h0)
  have N1 := Aside0.mk (num_at q n1 true h1)
  have N2 := Aside0.mk (num_at r n2 false h2)
  clear h0 h1 h2
  obtain ⟨⟨m, hm⟩, _⟩ := HL
  have HM := Aside0.mk hm
  have hle := cut_le s
  have c1 := fun W hm => cut_calls s (by omega) W m hm
  have c2 := fun W hm g hg => split_calls (coreB s) (by omega) W m hm g hg
  rw [hP] at c2
  have C1 := Aside0.mk c1
  have C2 := Aside0.mk c2
  clear c1 c2 hle hm
  have i0 := fun (a b c : Addr) (w : World) => ip0 a b c w
  have i1 := fun (a b c : Addr) (w : World) => ip1 a b c w
  have i2 := fun (a b c : Addr) (w : World) => ip2 a b c w
  go_enter Tryd.func20, Tryd.ntmps20
  go_wp2_with (first | (go_at_call 36; refine (C1.out _ (by exact pw_cell_below (by repeat (first | exact Below.refl _ _ | apply below_alloc | apply pw_below_drewN)) HM.out)).mono ?_; rintro e w' ⟨rfl, ⟨n, rfl⟩⟩) | (go_at_call 37; refine (C2.out _ (by exact pw_cell_below (by repeat (first | exact Below.refl _ _ | apply below_alloc | apply pw_below_drewN)) HM.out) (w.heap.size + 3) (by simp)).mono ?_; rintro e w3 ⟨rfl, hw3⟩; have S := Aside0.mk (show PS w w3 w.heap.size [p, q, r] from by rw [hw3]; exact PS.start _ _ _); have Z := Aside0.mk (show w3.heap.size = w.heap.size + 4 from by rw [hw3]; simp); clear hw3; refine Hid.out ?_))
  have x0 : ∀ o, (w3.alloc o).cell? ⟨w.heap.size + 3, 0, none⟩ = some (.string p) := fun o => pw_cell_below (below_alloc (Below.refl _ _) o) (S.out.str 0 p rfl)
  refine Lib.hid ?_
  go_wp2
  refine wp_loop_rounds 4 ?_
  rw [rounds_succ]
  go_wp2_with (go_at_call 38; refine (N0.out _).mono ?_; rintro e w4 ⟨rfl, hb⟩; refine Hid.out ?_)
  have S4 := Aside0.mk ((S.out.below (below_alloc (Below.refl _ _) (verO 0 0 0 (.slice none 0 0)))).below hb)
  have V4 := Aside0.mk (blk_below (blk_new w3 (verO 0 0 0 (.slice none 0 0))) hb)
  clear hb x0
  have c0 := blk_c (v := .int .i64 0) V4.out 0 rfl
  have f0 := blk_frozen V4.out 0
  have x1 : ∀ v, (w4.setCell ⟨w3.heap.size, 0, none⟩ v).cell? ⟨w.heap.size + 3, 1, none⟩ = some (.string q) := fun v => (S4.out.set (gv := w3.heap.size) (j := 0) (by have := Z.out; omega) v).str 1 q rfl
  refine Lib.hid ?_
  go_wp2
  rw [rounds_succ]
  go_wp2_with (go_at_call 38; refine (N1.out _).mono ?_; rintro e w5 ⟨rfl, hb⟩; refine Hid.out ?_)
  have S5 := Aside0.mk ((S4.out.set (gv := w3.heap.size) (j := 0) (by have := Z.out; omega) (.int .i64 n0)).below hb)
  have V5 := Aside0.mk (blk_below (blk_put (cs' := #[.int .i64 n0, .int .i64 0, .int .i64 0, .slice none 0 0]) V4.out 0 (.int .i64 n0) rfl) hb)
  clear hb x1 c0 f0
  have c0 := blk_c (v := .int .i64 0) V5.out 1 rfl
  have f0 := blk_frozen V5.out 1
  have x1 : ∀ v, (w5.setCell ⟨w3.heap.size, 1, none⟩ v).cell? ⟨w.heap.size + 3, 2, none⟩ = some (.string r) := fun v => (S5.out.set (gv := w3.heap.size) (j := 1) (by have := Z.out; omega) v).str 2 r rfl
  refine Lib.hid ?_
  go_wp2
  rw [rounds_succ]
  go_wp2_with (go_at_call 38; refine (N2.out _).mono ?_; rintro e w6 ⟨rfl, hb⟩; refine Hid.out ?_)
  have S6 := Aside0.mk ((S5.out.set (gv := w3.heap.size) (j := 1) (by have := Z.out; omega) (.int .i64 n1)).below hb)
  have V6 := Aside0.mk (blk_below (blk_put (cs' := #[.int .i64 n0, .int .i64 n1, .int .i64 0, .slice none 0 0]) V5.out 1 (.int .i64 n1) rfl) hb)
  clear hb x1 c0 f0
  have d0 := blk_c (v := .int .i64 0) S6.out.b0 0 rfl
  have e0 := blk_frozen S6.out.b0 0
  have d1 := blk_c (v := .int .i64 0) S6.out.b0 1 rfl
  have e1 := blk_frozen S6.out.b0 1
  have d2 := blk_c (v := .int .i64 0) S6.out.b0 2 rfl
  have e2 := blk_frozen S6.out.b0 2
  have d3 := blk_c (v := .slice none 0 0) S6.out.b0 3 rfl
  have e3 := blk_frozen S6.out.b0 3
  have d4 := blk_c (v := .int .i64 0) S6.out.b1 0 rfl
  have e4 := blk_frozen S6.out.b1 0
  have d5 := blk_c (v := .int .i64 0) S6.out.b1 1 rfl
  have e5 := blk_frozen S6.out.b1 1
  have h20 : w6.cell? ⟨w.heap.size + 1 + 1, 0, none⟩ = some (.int .i64 1) := blk_c S6.out.b2 0 rfl
  have h21 : w6.cell? ⟨w.heap.size + 1 + 1, 1, none⟩ = some (.int .i64 (-1)) := blk_c S6.out.b2 1 rfl
  refine Lib.hid ?_
  go_wp2
  go_region
  go_wp2
  obtain ⟨e0, e1, eb⟩ := badEnd S6.out.bel S6.out.le S6.out.b0 S6.out.b1 0 0 0 (.slice none 0 0) 1 (-1)
  refine bodyPost_ret (results_cc rfl _ _ w.heap.size (w.heap.size + 1) 24 27 #[.int .i64 0, .int .i64 0, .int .i64 0, .slice none 0 0] #[.int .i64 1, .int .i64 (-1)] (0, 0) (0, 0) _ _ rfl (blk_drew e0) hu24 rfl (by kernel_rfl) rfl (blk_drew e1) hu27 rfl (by kernel_rfl)) rfl ?_
  exact ⟨_, rfl, Kd.R_nil _ _ _ _ _, below_drew eb⟩
set_option maxHeartbeats 8000000 in
set_option maxRecDepth 100000 in
theorem parse_plain_bad (s : ByteArray) (w : World) (HL : LibOk w) (h : s.size ≤ 80) (p q r : ByteArray) (hP : partsB (coreB s) = [p, q, r]) (n0 n1 n2 : Int) (h0 : numOf p = (n0, true)) (h1 : numOf q = (n1, true)) (h2 : numOf r = (n2, true)) (hH : hasB s = false) (x1 x2 : Int) (hF : verFault n0 n1 n2 [] = (x1, x2)) (hx : ¬ (x1 = 0 ∧ x2 = 0)) :
    Calls Tryd.prog 20 #[.string s] w fun e w' => ∃ v3_ : Value, e = .returned (.tuple #[.agg #[.int .i64 0, .int .i64 0, .int .i64 0, v3_], .agg #[.int .i64 1, .int .i64 (-1)]]) ∧ Kd.R Kd.string 9 w' w.heap.size (fun _ => True) v3_ [] ∧ Below w.heap.size w w' := by
  have hu24 := Tryd.underlying24
  have hu27 := Tryd.underlying27
  have hxb : (!(x1 == 0) || (!(x2 == 0))) = true := by
    rw [Bool.or_eq_true, Bool.not_eq_true', Bool.not_eq_true', beq_eq_false_iff_ne, beq_eq_false_iff_ne]
    omega
  clear hx
  have N0 := Aside0.mk (num_at p n0 true h0)
  have N1 := Aside0.mk (num_at q n1 true h1)
  have N2 := Aside0.mk (num_at r n2 true h2)
  clear h0 h1 h2
  have F := Aside0.mk hF
  clear hF
  obtain ⟨⟨m, hm⟩, _⟩ := HL
  have HM := Aside0.mk hm
  have hle := cut_le s
  have c1 := fun W hm => cut_calls s (by omega) W m hm
  have c2 := fun W hm g hg => split_calls (coreB s) (by omega) W m hm g hg
  rw [hP] at c2
  have C1 := Aside0.mk c1
  have C2 := Aside0.mk c2
  clear c1 c2 hle hm
  have i0 := fun (a b c : Addr) (w : World) => ip0 a b c w
  have i1 := fun (a b c : Addr) (w : World) => ip1 a b c w
  have i2 := fun (a b c : Addr) (w : World) => ip2 a b c w
  go_enter Tryd.func20, Tryd.ntmps20
  go_wp2_with (first | (go_at_call 36; refine (C1.out _ (by exact pw_cell_below (by repeat (first | exact Below.refl _ _ | apply below_alloc | apply pw_below_drewN)) HM.out)).mono ?_; rintro e w' ⟨rfl, ⟨n, rfl⟩⟩) | (go_at_call 37; refine (C2.out _ (by exact pw_cell_below (by repeat (first | exact Below.refl _ _ | apply below_alloc | apply pw_below_drewN)) HM.out) (w.heap.size + 3) (by simp)).mono ?_; rintro e w3 ⟨rfl, hw3⟩; have S := Aside0.mk (show PS w w3 w.heap.size [p, q, r] from by rw [hw3]; exact PS.start _ _ _); have Z := Aside0.mk (show w3.heap.size = w.heap.size + 4 from by rw [hw3]; simp); clear hw3; refine Hid.out ?_))
  have x0 : ∀ o, (w3.alloc o).cell? ⟨w.heap.size + 3, 0, none⟩ = some (.string p) := fun o => pw_cell_below (below_alloc (Below.refl _ _) o) (S.out.str 0 p rfl)
  refine Lib.hid ?_
  go_wp2
  refine wp_loop_rounds 4 ?_
  rw [rounds_succ]
  go_wp2_with (go_at_call 38; refine (N0.out _).mono ?_; rintro e w4 ⟨rfl, hb⟩; refine Hid.out ?_)
  have S4 := Aside0.mk ((S.out.below (below_alloc (Below.refl _ _) (verO 0 0 0 (.slice none 0 0)))).below hb)
  have V4 := Aside0.mk (blk_below (blk_new w3 (verO 0 0 0 (.slice none 0 0))) hb)
  clear hb x0
  have c0 := blk_c (v := .int .i64 0) V4.out 0 rfl
  have f0 := blk_frozen V4.out 0
  have x1 : ∀ v, (w4.setCell ⟨w3.heap.size, 0, none⟩ v).cell? ⟨w.heap.size + 3, 1, none⟩ = some (.string q) := fun v => (S4.out.set (gv := w3.heap.size) (j := 0) (by have := Z.out; omega) v).str 1 q rfl
  refine Lib.hid ?_
  go_wp2
  rw [rounds_succ]
  go_wp2_with (go_at_call 38; refine (N1.out _).mono ?_; rintro e w5 ⟨rfl, hb⟩; refine Hid.out ?_)
  have S5 := Aside0.mk ((S4.out.set (gv := w3.heap.size) (j := 0) (by have := Z.out; omega) (.int .i64 n0)).below hb)
  have V5 := Aside0.mk (blk_below (blk_put (cs' := #[.int .i64 n0, .int .i64 0, .int .i64 0, .slice none 0 0]) V4.out 0 (.int .i64 n0) rfl) hb)
  clear hb x1 c0 f0
  have c0 := blk_c (v := .int .i64 0) V5.out 1 rfl
  have f0 := blk_frozen V5.out 1
  have x1 : ∀ v, (w5.setCell ⟨w3.heap.size, 1, none⟩ v).cell? ⟨w.heap.size + 3, 2, none⟩ = some (.string r) := fun v => (S5.out.set (gv := w3.heap.size) (j := 1) (by have := Z.out; omega) v).str 2 r rfl
  refine Lib.hid ?_
  go_wp2
  rw [rounds_succ]
  go_wp2_with (go_at_call 38; refine (N2.out _).mono ?_; rintro e w6 ⟨rfl, hb⟩; refine Hid.out ?_)
  have S6 := Aside0.mk ((S5.out.set (gv := w3.heap.size) (j := 1) (by have := Z.out; omega) (.int .i64 n1)).below hb)
  have V6 := Aside0.mk (blk_below (blk_put (cs' := #[.int .i64 n0, .int .i64 n1, .int .i64 0, .slice none 0 0]) V5.out 1 (.int .i64 n1) rfl) hb)
  clear hb x1 c0 f0
  have c0 := blk_c (v := .int .i64 0) V6.out 2 rfl
  have f0 := blk_frozen V6.out 2
  obtain ⟨w7, hw7⟩ : ∃ W, W = w6.setCell ⟨w3.heap.size, 2, none⟩ (.int .i64 n2) := ⟨_, rfl⟩
  have S7 := Aside0.mk (show PS w w7 w.heap.size [p, q, r] from by rw [hw7]; exact (S6.out.set (gv := w3.heap.size) (j := 2) (by have := Z.out; omega) (.int .i64 n2)))
  have V7 := Aside0.mk (show w7.heap[w3.heap.size]? = some (verO n0 n1 n2 (.slice none 0 0)) from by rw [hw7]; exact blk_put V6.out 2 (.int .i64 n2) rfl)
  have Q7 := Aside0.mk hw7
  have y0 : (w6.setCell ⟨w3.heap.size, 2, none⟩ (.int .i64 n2)).cell? ⟨w3.heap.size, 0, none⟩ = some (.int .i64 n0) := by rw [← Q7.out]; exact blk_c V7.out 0 rfl
  have y1 : (w6.setCell ⟨w3.heap.size, 2, none⟩ (.int .i64 n2)).cell? ⟨w3.heap.size, 1, none⟩ = some (.int .i64 n1) := by rw [← Q7.out]; exact blk_c V7.out 1 rfl
  have y2 : (w6.setCell ⟨w3.heap.size, 2, none⟩ (.int .i64 n2)).cell? ⟨w3.heap.size, 2, none⟩ = some (.int .i64 n2) := by rw [← Q7.out]; exact blk_c V7.out 2 rfl
  have y3 : (w6.setCell ⟨w3.heap.size, 2, none⟩ (.int .i64 n2)).cell? ⟨w3.heap.size, 3, none⟩ = some (.slice none 0 0) := by rw [← Q7.out]; exact blk_c V7.out 3 rfl
  clear hw7
  refine Lib.hid ?_
  go_wp2
  rw [rounds_succ]
  go_wp2_with (go_at_call 11; refine (validate_calls n0 n1 n2 none 0 [] _ (C_nil _) (Nat.le_refl _) x1 x2 F.out).mono ?_; rintro e w8 ⟨rfl, hb⟩; refine Hid.out ?_)
  rw [← Q7.out] at hb
  have S8 := Aside0.mk (S7.out.below hb)
  have V8 := Aside0.mk (blk_below V7.out hb)
  clear hb y0 y1 y2 y3 c0 f0
  have d0 := blk_c (v := .int .i64 0) S8.out.b0 0 rfl
  have e0 := blk_frozen S8.out.b0 0
  have d1 := blk_c (v := .int .i64 0) S8.out.b0 1 rfl
  have e1 := blk_frozen S8.out.b0 1
  have d2 := blk_c (v := .int .i64 0) S8.out.b0 2 rfl
  have e2 := blk_frozen S8.out.b0 2
  have d3 := blk_c (v := .slice none 0 0) S8.out.b0 3 rfl
  have e3 := blk_frozen S8.out.b0 3
  have d4 := blk_c (v := .int .i64 0) S8.out.b1 0 rfl
  have e4 := blk_frozen S8.out.b1 0
  have d5 := blk_c (v := .int .i64 0) S8.out.b1 1 rfl
  have e5 := blk_frozen S8.out.b1 1
  have h20 : w8.cell? ⟨w.heap.size + 1 + 1, 0, none⟩ = some (.int .i64 1) := blk_c S8.out.b2 0 rfl
  have h21 : w8.cell? ⟨w.heap.size + 1 + 1, 1, none⟩ = some (.int .i64 (-1)) := blk_c S8.out.b2 1 rfl
  refine Lib.hid ?_
  go_wp2
  go_region
  go_wp2
  obtain ⟨e0, e1, eb⟩ := badEnd S8.out.bel S8.out.le S8.out.b0 S8.out.b1 0 0 0 (.slice none 0 0) 1 (-1)
  refine bodyPost_ret (results_cc rfl _ _ w.heap.size (w.heap.size + 1) 24 27 #[.int .i64 0, .int .i64 0, .int .i64 0, .slice none 0 0] #[.int .i64 1, .int .i64 (-1)] (0, 0) (0, 0) _ _ rfl (blk_drew e0) hu24 rfl (by kernel_rfl) rfl (blk_drew e1) hu27 rfl (by kernel_rfl)) rfl ?_
  exact ⟨_, rfl, Kd.R_nil _ _ _ _ _, below_drew eb⟩
set_option maxHeartbeats 8000000 in
set_option maxRecDepth 100000 in
theorem parse_plain_ok (s : ByteArray) (w : World) (HL : LibOk w) (h : s.size ≤ 80) (p q r : ByteArray) (hP : partsB (coreB s) = [p, q, r]) (n0 n1 n2 : Int) (h0 : numOf p = (n0, true)) (h1 : numOf q = (n1, true)) (h2 : numOf r = (n2, true)) (hH : hasB s = false) (hF : verFault n0 n1 n2 [] = (0, 0)) :
    Calls Tryd.prog 20 #[.string s] w fun e w' => ∃ v3_ : Value, e = .returned (.tuple #[.agg #[.int .i64 n0, .int .i64 n1, .int .i64 n2, v3_], .agg #[.int .i64 0, .int .i64 0]]) ∧ Kd.R Kd.string 9 w' w.heap.size (fun _ => True) v3_ [] ∧ Below w.heap.size w w' := by
  have hu24 := Tryd.underlying24
  have hu27 := Tryd.underlying27
  have N0 := Aside0.mk (num_at p n0 true h0)
  have N1 := Aside0.mk (num_at q n1 true h1)
  have N2 := Aside0.mk (num_at r n2 true h2)
  clear h0 h1 h2
  have F := Aside0.mk hF
  clear hF
  obtain ⟨⟨m, hm⟩, _⟩ := HL
  have HM := Aside0.mk hm
  have hle := cut_le s
  have c1 := fun W hm => cut_calls s (by omega) W m hm
  have c2 := fun W hm g hg => split_calls (coreB s) (by omega) W m hm g hg
  rw [hP] at c2
  have C1 := Aside0.mk c1
  have C2 := Aside0.mk c2
  clear c1 c2 hle hm
  have i0 := fun (a b c : Addr) (w : World) => ip0 a b c w
  have i1 := fun (a b c : Addr) (w : World) => ip1 a b c w
  have i2 := fun (a b c : Addr) (w : World) => ip2 a b c w
  go_enter Tryd.func20, Tryd.ntmps20
  go_wp2_with (first | (go_at_call 36; refine (C1.out _ (by exact pw_cell_below (by repeat (first | exact Below.refl _ _ | apply below_alloc | apply pw_below_drewN)) HM.out)).mono ?_; rintro e w' ⟨rfl, ⟨n, rfl⟩⟩) | (go_at_call 37; refine (C2.out _ (by exact pw_cell_below (by repeat (first | exact Below.refl _ _ | apply below_alloc | apply pw_below_drewN)) HM.out) (w.heap.size + 3) (by simp)).mono ?_; rintro e w3 ⟨rfl, hw3⟩; have S := Aside0.mk (show PS w w3 w.heap.size [p, q, r] from by rw [hw3]; exact PS.start _ _ _); have Z := Aside0.mk (show w3.heap.size = w.heap.size + 4 from by rw [hw3]; simp); clear hw3; refine Hid.out ?_))
  have x0 : ∀ o, (w3.alloc o).cell? ⟨w.heap.size + 3, 0, none⟩ = some (.string p) := fun o => pw_cell_below (below_alloc (Below.refl _ _) o) (S.out.str 0 p rfl)
  refine Lib.hid ?_
  go_wp2
  refine wp_loop_rounds 4 ?_
  rw [rounds_succ]
  go_wp2_with (go_at_call 38; refine (N0.out _).mono ?_; rintro e w4 ⟨rfl, hb⟩; refine Hid.out ?_)
  have S4 := Aside0.mk ((S.out.below (below_alloc (Below.refl _ _) (verO 0 0 0 (.slice none 0 0)))).below hb)
  have V4 := Aside0.mk (blk_below (blk_new w3 (verO 0 0 0 (.slice none 0 0))) hb)
  clear hb x0
  have c0 := blk_c (v := .int .i64 0) V4.out 0 rfl
  have f0 := blk_frozen V4.out 0
  have x1 : ∀ v, (w4.setCell ⟨w3.heap.size, 0, none⟩ v).cell? ⟨w.heap.size + 3, 1, none⟩ = some (.string q) := fun v => (S4.out.set (gv := w3.heap.size) (j := 0) (by have := Z.out; omega) v).str 1 q rfl
  refine Lib.hid ?_
  go_wp2
  rw [rounds_succ]
  go_wp2_with (go_at_call 38; refine (N1.out _).mono ?_; rintro e w5 ⟨rfl, hb⟩; refine Hid.out ?_)
  have S5 := Aside0.mk ((S4.out.set (gv := w3.heap.size) (j := 0) (by have := Z.out; omega) (.int .i64 n0)).below hb)
  have V5 := Aside0.mk (blk_below (blk_put (cs' := #[.int .i64 n0, .int .i64 0, .int .i64 0, .slice none 0 0]) V4.out 0 (.int .i64 n0) rfl) hb)
  clear hb x1 c0 f0
  have c0 := blk_c (v := .int .i64 0) V5.out 1 rfl
  have f0 := blk_frozen V5.out 1
  have x1 : ∀ v, (w5.setCell ⟨w3.heap.size, 1, none⟩ v).cell? ⟨w.heap.size + 3, 2, none⟩ = some (.string r) := fun v => (S5.out.set (gv := w3.heap.size) (j := 1) (by have := Z.out; omega) v).str 2 r rfl
  refine Lib.hid ?_
  go_wp2
  rw [rounds_succ]
  go_wp2_with (go_at_call 38; refine (N2.out _).mono ?_; rintro e w6 ⟨rfl, hb⟩; refine Hid.out ?_)
  have S6 := Aside0.mk ((S5.out.set (gv := w3.heap.size) (j := 1) (by have := Z.out; omega) (.int .i64 n1)).below hb)
  have V6 := Aside0.mk (blk_below (blk_put (cs' := #[.int .i64 n0, .int .i64 n1, .int .i64 0, .slice none 0 0]) V5.out 1 (.int .i64 n1) rfl) hb)
  clear hb x1 c0 f0
  have c0 := blk_c (v := .int .i64 0) V6.out 2 rfl
  have f0 := blk_frozen V6.out 2
  obtain ⟨w7, hw7⟩ : ∃ W, W = w6.setCell ⟨w3.heap.size, 2, none⟩ (.int .i64 n2) := ⟨_, rfl⟩
  have S7 := Aside0.mk (show PS w w7 w.heap.size [p, q, r] from by rw [hw7]; exact (S6.out.set (gv := w3.heap.size) (j := 2) (by have := Z.out; omega) (.int .i64 n2)))
  have V7 := Aside0.mk (show w7.heap[w3.heap.size]? = some (verO n0 n1 n2 (.slice none 0 0)) from by rw [hw7]; exact blk_put V6.out 2 (.int .i64 n2) rfl)
  have Q7 := Aside0.mk hw7
  have y0 : (w6.setCell ⟨w3.heap.size, 2, none⟩ (.int .i64 n2)).cell? ⟨w3.heap.size, 0, none⟩ = some (.int .i64 n0) := by rw [← Q7.out]; exact blk_c V7.out 0 rfl
  have y1 : (w6.setCell ⟨w3.heap.size, 2, none⟩ (.int .i64 n2)).cell? ⟨w3.heap.size, 1, none⟩ = some (.int .i64 n1) := by rw [← Q7.out]; exact blk_c V7.out 1 rfl
  have y2 : (w6.setCell ⟨w3.heap.size, 2, none⟩ (.int .i64 n2)).cell? ⟨w3.heap.size, 2, none⟩ = some (.int .i64 n2) := by rw [← Q7.out]; exact blk_c V7.out 2 rfl
  have y3 : (w6.setCell ⟨w3.heap.size, 2, none⟩ (.int .i64 n2)).cell? ⟨w3.heap.size, 3, none⟩ = some (.slice none 0 0) := by rw [← Q7.out]; exact blk_c V7.out 3 rfl
  clear hw7
  refine Lib.hid ?_
  go_wp2
  rw [rounds_succ]
  go_wp2_with (go_at_call 11; refine (validate_calls n0 n1 n2 none 0 [] _ (C_nil _) (Nat.le_refl _) 0 0 F.out).mono ?_; rintro e w8 ⟨rfl, hb⟩; refine Hid.out ?_)
  rw [← Q7.out] at hb
  have S8 := Aside0.mk (S7.out.below hb)
  have V8 := Aside0.mk (blk_below V7.out hb)
  clear hb y0 y1 y2 y3 c0 f0
  have z0 := blk_c (v := .int .i64 n0) V8.out 0 rfl
  have z1 := blk_c (v := .int .i64 n1) V8.out 1 rfl
  have z2 := blk_c (v := .int .i64 n2) V8.out 2 rfl
  have z3 := blk_c (v := .slice none 0 0) V8.out 3 rfl
  have d0 := blk_c (v := .int .i64 0) S8.out.b0 0 rfl
  have e0 := blk_frozen S8.out.b0 0
  have d1 := blk_c (v := .int .i64 0) S8.out.b0 1 rfl
  have e1 := blk_frozen S8.out.b0 1
  have d2 := blk_c (v := .int .i64 0) S8.out.b0 2 rfl
  have e2 := blk_frozen S8.out.b0 2
  have d3 := blk_c (v := .slice none 0 0) S8.out.b0 3 rfl
  have e3 := blk_frozen S8.out.b0 3
  have d4 := blk_c (v := .int .i64 0) S8.out.b1 0 rfl
  have e4 := blk_frozen S8.out.b1 0
  have d5 := blk_c (v := .int .i64 0) S8.out.b1 1 rfl
  have e5 := blk_frozen S8.out.b1 1
  refine Lib.hid ?_
  go_wp2
  obtain ⟨e0, e1, eb⟩ := badEnd S8.out.bel S8.out.le S8.out.b0 S8.out.b1 n0 n1 n2 (.slice none 0 0) 0 0
  refine bodyPost_ret (results_cc rfl _ _ w.heap.size (w.heap.size + 1) 24 27 #[.int .i64 n0, .int .i64 n1, .int .i64 n2, .slice none 0 0] #[.int .i64 0, .int .i64 0] (0, 0) (0, 0) _ _ rfl (e0) hu24 rfl (by kernel_rfl) rfl (e1) hu27 rfl (by kernel_rfl)) rfl ?_
  exact ⟨_, rfl, Kd.R_nil _ _ _ _ _, eb⟩
set_option maxHeartbeats 8000000 in
set_option maxRecDepth 100000 in
theorem parse_found_bad (s : ByteArray) (w : World) (HL : LibOk w) (h : s.size ≤ 80) (p q r : ByteArray) (hP : partsB (coreB s) = [p, q, r]) (n0 n1 n2 : Int) (h0 : numOf p = (n0, true)) (h1 : numOf q = (n1, true)) (h2 : numOf r = (n2, true)) (hH : hasB s = true) (x1 x2 : Int) (hF : verFault n0 n1 n2 (partsB (tailB s)) = (x1, x2)) (hx : ¬ (x1 = 0 ∧ x2 = 0)) :
    Calls Tryd.prog 20 #[.string s] w fun e w' => ∃ v3_ : Value, e = .returned (.tuple #[.agg #[.int .i64 0, .int .i64 0, .int .i64 0, v3_], .agg #[.int .i64 1, .int .i64 (-1)]]) ∧ Kd.R Kd.string 9 w' w.heap.size (fun _ => True) v3_ [] ∧ Below w.heap.size w w' := by
  have hu24 := Tryd.underlying24
  have hu27 := Tryd.underlying27
  have hxb : (!(x1 == 0) || (!(x2 == 0))) = true := by
    rw [Bool.or_eq_true, Bool.not_eq_true', Bool.not_eq_true', beq_eq_false_iff_ne, beq_eq_false_iff_ne]
    omega
  clear hx
  have N0 := Aside0.mk (num_at p n0 true h0)
  have N1 := Aside0.mk (num_at q n1 true h1)
  have N2 := Aside0.mk (num_at r n2 true h2)
  clear h0 h1 h2
  have F := Aside0.mk hF
  clear hF
  obtain ⟨⟨m, hm⟩, _⟩ := HL
  have HM := Aside0.mk hm
  have hle := cut_le s
  have c1 := fun W hm => cut_calls s (by omega) W m hm
  have c2 := fun W hm g hg => split_calls (coreB s) (by omega) W m hm g hg
  rw [hP] at c2
  have C1 := Aside0.mk c1
  have C2 := Aside0.mk c2
  have c3 := fun W hm g hg => split_calls (tailB s) (by omega) W m hm g hg
  have L := Aside0.mk (show (partsB (tailB s)).length ≤ 9223372036854775807 from by have := ids_le (tailB s); omega)
  clear c1 c2 hle hm
  have C3_ := Aside0.mk c3
  clear c3
  have i0 := fun (a b c : Addr) (w : World) => ip0 a b c w
  have i1 := fun (a b c : Addr) (w : World) => ip1 a b c w
  have i2 := fun (a b c : Addr) (w : World) => ip2 a b c w
  go_enter Tryd.func20, Tryd.ntmps20
  go_wp2_with (first | (go_at_call 36; refine (C1.out _ (by exact pw_cell_below (by repeat (first | exact Below.refl _ _ | apply below_alloc | apply pw_below_drewN)) HM.out)).mono ?_; rintro e w' ⟨rfl, ⟨n, rfl⟩⟩) | (go_at_call 37; refine (C2.out _ (by exact pw_cell_below (by repeat (first | exact Below.refl _ _ | apply below_alloc | apply pw_below_drewN)) HM.out) (w.heap.size + 3) (by simp)).mono ?_; rintro e w3 ⟨rfl, hw3⟩; have S := Aside0.mk (show PS w w3 w.heap.size [p, q, r] from by rw [hw3]; exact PS.start _ _ _); have Z := Aside0.mk (show w3.heap.size = w.heap.size + 4 from by rw [hw3]; simp); clear hw3; refine Hid.out ?_))
  have x0 : ∀ o, (w3.alloc o).cell? ⟨w.heap.size + 3, 0, none⟩ = some (.string p) := fun o => pw_cell_below (below_alloc (Below.refl _ _) o) (S.out.str 0 p rfl)
  refine Lib.hid ?_
  go_wp2
  refine wp_loop_rounds 4 ?_
  rw [rounds_succ]
  go_wp2_with (go_at_call 38; refine (N0.out _).mono ?_; rintro e w4 ⟨rfl, hb⟩; refine Hid.out ?_)
  have S4 := Aside0.mk ((S.out.below (below_alloc (Below.refl _ _) (verO 0 0 0 (.slice none 0 0)))).below hb)
  have V4 := Aside0.mk (blk_below (blk_new w3 (verO 0 0 0 (.slice none 0 0))) hb)
  clear hb x0
  have c0 := blk_c (v := .int .i64 0) V4.out 0 rfl
  have f0 := blk_frozen V4.out 0
  have x1 : ∀ v, (w4.setCell ⟨w3.heap.size, 0, none⟩ v).cell? ⟨w.heap.size + 3, 1, none⟩ = some (.string q) := fun v => (S4.out.set (gv := w3.heap.size) (j := 0) (by have := Z.out; omega) v).str 1 q rfl
  refine Lib.hid ?_
  go_wp2
  rw [rounds_succ]
  go_wp2_with (go_at_call 38; refine (N1.out _).mono ?_; rintro e w5 ⟨rfl, hb⟩; refine Hid.out ?_)
  have S5 := Aside0.mk ((S4.out.set (gv := w3.heap.size) (j := 0) (by have := Z.out; omega) (.int .i64 n0)).below hb)
  have V5 := Aside0.mk (blk_below (blk_put (cs' := #[.int .i64 n0, .int .i64 0, .int .i64 0, .slice none 0 0]) V4.out 0 (.int .i64 n0) rfl) hb)
  clear hb x1 c0 f0
  have c0 := blk_c (v := .int .i64 0) V5.out 1 rfl
  have f0 := blk_frozen V5.out 1
  have x1 : ∀ v, (w5.setCell ⟨w3.heap.size, 1, none⟩ v).cell? ⟨w.heap.size + 3, 2, none⟩ = some (.string r) := fun v => (S5.out.set (gv := w3.heap.size) (j := 1) (by have := Z.out; omega) v).str 2 r rfl
  refine Lib.hid ?_
  go_wp2
  rw [rounds_succ]
  go_wp2_with (go_at_call 38; refine (N2.out _).mono ?_; rintro e w6 ⟨rfl, hb⟩; refine Hid.out ?_)
  have S6 := Aside0.mk ((S5.out.set (gv := w3.heap.size) (j := 1) (by have := Z.out; omega) (.int .i64 n1)).below hb)
  have V6 := Aside0.mk (blk_below (blk_put (cs' := #[.int .i64 n0, .int .i64 n1, .int .i64 0, .slice none 0 0]) V5.out 1 (.int .i64 n1) rfl) hb)
  clear hb x1 c0 f0
  have c3 := C3_.out
  have c0 := blk_c (v := .int .i64 0) V6.out 2 rfl
  have f0 := blk_frozen V6.out 2
  obtain ⟨w7, hw7⟩ : ∃ W, W = w6.setCell ⟨w3.heap.size, 2, none⟩ (.int .i64 n2) := ⟨_, rfl⟩
  have S7 := Aside0.mk (show PS w w7 w.heap.size [p, q, r] from by rw [hw7]; exact (S6.out.set (gv := w3.heap.size) (j := 2) (by have := Z.out; omega) (.int .i64 n2)))
  have V7 := Aside0.mk (show w7.heap[w3.heap.size]? = some (verO n0 n1 n2 (.slice none 0 0)) from by rw [hw7]; exact blk_put V6.out 2 (.int .i64 n2) rfl)
  have Q7 := Aside0.mk hw7
  have Z7 := Aside0.mk (show w3.heap.size < w7.heap.size from blk_lt V7.out)
  have C3 := Aside0.mk (c3 w7 (by exact pw_cell_below S7.out.bel HM.out) w7.heap.size rfl)
  rw [hw7] at C3
  clear hw7
  refine Lib.hid ?_
  go_wp2
  rw [rounds_succ]
  go_wp2_with (go_at_call 37; refine C3.out.mono ?_; rw [← Q7.out]; rintro e w8 ⟨rfl, hw8⟩; have S8 := Aside0.mk (show PS w w8 w.heap.size [p, q, r] from by rw [hw8]; exact S7.out.below (below_alloc (Below.refl _ _) _)); have V8 := Aside0.mk (show w8.heap[w3.heap.size]? = some (verO n0 n1 n2 (.slice none 0 0)) from by rw [hw8]; exact blk_alloc V7.out _); have T8 := Aside0.mk (show w8.heap[w7.heap.size]? = some (strO (partsB (tailB s))) from by rw [hw8]; exact blk_new _ _); clear hw8; refine Hid.out ?_)
  clear c0 f0
  have c0 := blk_c (v := .int .i64 n0) V8.out 0 rfl
  have c1 := blk_c (v := .int .i64 n1) V8.out 1 rfl
  have c2 := blk_c (v := .int .i64 n2) V8.out 2 rfl
  have c3 := blk_c (v := .slice none 0 0) V8.out 3 rfl
  have f3 := blk_frozen V8.out 3
  obtain ⟨w9, hw9⟩ : ∃ W, W = w8.setCell ⟨w3.heap.size, 3, none⟩ (.slice (some ⟨w7.heap.size, 0, none⟩) (partsB (tailB s)).length (partsB (tailB s)).length) := ⟨_, rfl⟩
  have S9 := Aside0.mk (show PS w w9 w.heap.size [p, q, r] from by rw [hw9]; exact S8.out.set (by have := Z.out; omega) _)
  have V9 := Aside0.mk (show w9.heap[w3.heap.size]? = some (verO n0 n1 n2 (.slice (some ⟨w7.heap.size, 0, none⟩) (partsB (tailB s)).length (partsB (tailB s)).length)) from by rw [hw9]; exact blk_put V8.out 3 _ rfl)
  have T9 := Aside0.mk (show w9.heap[w7.heap.size]? = some (strO (partsB (tailB s))) from by rw [hw9]; exact blk_far T8.out (by have := Z7.out; show w7.heap.size ≠ w3.heap.size; omega) _)
  have Q9 := Aside0.mk hw9
  have y0 : (w8.setCell ⟨w3.heap.size, 3, none⟩ (.slice (some ⟨w7.heap.size, 0, none⟩) (partsB (tailB s)).length (partsB (tailB s)).length)).cell? ⟨w3.heap.size, 0, none⟩ = some (.int .i64 n0) := by rw [← Q9.out]; exact blk_c V9.out 0 rfl
  have y1 : (w8.setCell ⟨w3.heap.size, 3, none⟩ (.slice (some ⟨w7.heap.size, 0, none⟩) (partsB (tailB s)).length (partsB (tailB s)).length)).cell? ⟨w3.heap.size, 1, none⟩ = some (.int .i64 n1) := by rw [← Q9.out]; exact blk_c V9.out 1 rfl
  have y2 : (w8.setCell ⟨w3.heap.size, 3, none⟩ (.slice (some ⟨w7.heap.size, 0, none⟩) (partsB (tailB s)).length (partsB (tailB s)).length)).cell? ⟨w3.heap.size, 2, none⟩ = some (.int .i64 n2) := by rw [← Q9.out]; exact blk_c V9.out 2 rfl
  have y3 : (w8.setCell ⟨w3.heap.size, 3, none⟩ (.slice (some ⟨w7.heap.size, 0, none⟩) (partsB (tailB s)).length (partsB (tailB s)).length)).cell? ⟨w3.heap.size, 3, none⟩ = some (.slice (some ⟨w7.heap.size, 0, none⟩) (partsB (tailB s)).length (partsB (tailB s)).length) := by rw [← Q9.out]; exact blk_c V9.out 3 rfl
  clear hw9
  refine Lib.hid ?_
  go_wp2_with (go_at_call 11; refine (validate_calls n0 n1 n2 (some ⟨w7.heap.size, 0, none⟩) (partsB (tailB s)).length (partsB (tailB s)) _ (by rw [← Q9.out]; exact C_row T9.out L.out) (Nat.le_refl _) x1 x2 F.out).mono ?_; rintro e w10 ⟨rfl, hb⟩; refine Hid.out ?_)
  rw [← Q9.out] at hb
  have S10 := Aside0.mk (S9.out.below hb)
  have V10 := Aside0.mk (blk_below V9.out hb)
  have T10 := Aside0.mk (blk_below T9.out hb)
  clear hb y0 y1 y2 y3 c0 c1 c2 c3 f3
  have d0 := blk_c (v := .int .i64 0) S10.out.b0 0 rfl
  have e0 := blk_frozen S10.out.b0 0
  have d1 := blk_c (v := .int .i64 0) S10.out.b0 1 rfl
  have e1 := blk_frozen S10.out.b0 1
  have d2 := blk_c (v := .int .i64 0) S10.out.b0 2 rfl
  have e2 := blk_frozen S10.out.b0 2
  have d3 := blk_c (v := .slice none 0 0) S10.out.b0 3 rfl
  have e3 := blk_frozen S10.out.b0 3
  have d4 := blk_c (v := .int .i64 0) S10.out.b1 0 rfl
  have e4 := blk_frozen S10.out.b1 0
  have d5 := blk_c (v := .int .i64 0) S10.out.b1 1 rfl
  have e5 := blk_frozen S10.out.b1 1
  have h20 : w10.cell? ⟨w.heap.size + 1 + 1, 0, none⟩ = some (.int .i64 1) := blk_c S10.out.b2 0 rfl
  have h21 : w10.cell? ⟨w.heap.size + 1 + 1, 1, none⟩ = some (.int .i64 (-1)) := blk_c S10.out.b2 1 rfl
  refine Lib.hid ?_
  go_wp2
  go_region
  go_wp2
  obtain ⟨e0, e1, eb⟩ := badEnd S10.out.bel S10.out.le S10.out.b0 S10.out.b1 0 0 0 (.slice none 0 0) 1 (-1)
  refine bodyPost_ret (results_cc rfl _ _ w.heap.size (w.heap.size + 1) 24 27 #[.int .i64 0, .int .i64 0, .int .i64 0, .slice none 0 0] #[.int .i64 1, .int .i64 (-1)] (0, 0) (0, 0) _ _ rfl (blk_drew e0) hu24 rfl (by kernel_rfl) rfl (blk_drew e1) hu27 rfl (by kernel_rfl)) rfl ?_
  exact ⟨_, rfl, Kd.R_nil _ _ _ _ _, below_drew eb⟩
set_option maxHeartbeats 8000000 in
set_option maxRecDepth 100000 in
theorem parse_found_ok (s : ByteArray) (w : World) (HL : LibOk w) (h : s.size ≤ 80) (p q r : ByteArray) (hP : partsB (coreB s) = [p, q, r]) (n0 n1 n2 : Int) (h0 : numOf p = (n0, true)) (h1 : numOf q = (n1, true)) (h2 : numOf r = (n2, true)) (hH : hasB s = true) (hF : verFault n0 n1 n2 (partsB (tailB s)) = (0, 0)) :
    Calls Tryd.prog 20 #[.string s] w fun e w' => ∃ v3_ : Value, e = .returned (.tuple #[.agg #[.int .i64 n0, .int .i64 n1, .int .i64 n2, v3_], .agg #[.int .i64 0, .int .i64 0]]) ∧ Kd.R Kd.string 9 w' w.heap.size (fun _ => True) v3_ (partsB (tailB s)) ∧ Below w.heap.size w w' := by
  have hu24 := Tryd.underlying24
  have hu27 := Tryd.underlying27
  have N0 := Aside0.mk (num_at p n0 true h0)
  have N1 := Aside0.mk (num_at q n1 true h1)
  have N2 := Aside0.mk (num_at r n2 true h2)
  clear h0 h1 h2
  have F := Aside0.mk hF
  clear hF
  obtain ⟨⟨m, hm⟩, _⟩ := HL
  have HM := Aside0.mk hm
  have hle := cut_le s
  have c1 := fun W hm => cut_calls s (by omega) W m hm
  have c2 := fun W hm g hg => split_calls (coreB s) (by omega) W m hm g hg
  rw [hP] at c2
  have C1 := Aside0.mk c1
  have C2 := Aside0.mk c2
  have c3 := fun W hm g hg => split_calls (tailB s) (by omega) W m hm g hg
  have L := Aside0.mk (show (partsB (tailB s)).length ≤ 9223372036854775807 from by have := ids_le (tailB s); omega)
  clear c1 c2 hle hm
  have C3_ := Aside0.mk c3
  clear c3
  have i0 := fun (a b c : Addr) (w : World) => ip0 a b c w
  have i1 := fun (a b c : Addr) (w : World) => ip1 a b c w
  have i2 := fun (a b c : Addr) (w : World) => ip2 a b c w
  go_enter Tryd.func20, Tryd.ntmps20
  go_wp2_with (first | (go_at_call 36; refine (C1.out _ (by exact pw_cell_below (by repeat (first | exact Below.refl _ _ | apply below_alloc | apply pw_below_drewN)) HM.out)).mono ?_; rintro e w' ⟨rfl, ⟨n, rfl⟩⟩) | (go_at_call 37; refine (C2.out _ (by exact pw_cell_below (by repeat (first | exact Below.refl _ _ | apply below_alloc | apply pw_below_drewN)) HM.out) (w.heap.size + 3) (by simp)).mono ?_; rintro e w3 ⟨rfl, hw3⟩; have S := Aside0.mk (show PS w w3 w.heap.size [p, q, r] from by rw [hw3]; exact PS.start _ _ _); have Z := Aside0.mk (show w3.heap.size = w.heap.size + 4 from by rw [hw3]; simp); clear hw3; refine Hid.out ?_))
  have x0 : ∀ o, (w3.alloc o).cell? ⟨w.heap.size + 3, 0, none⟩ = some (.string p) := fun o => pw_cell_below (below_alloc (Below.refl _ _) o) (S.out.str 0 p rfl)
  refine Lib.hid ?_
  go_wp2
  refine wp_loop_rounds 4 ?_
  rw [rounds_succ]
  go_wp2_with (go_at_call 38; refine (N0.out _).mono ?_; rintro e w4 ⟨rfl, hb⟩; refine Hid.out ?_)
  have S4 := Aside0.mk ((S.out.below (below_alloc (Below.refl _ _) (verO 0 0 0 (.slice none 0 0)))).below hb)
  have V4 := Aside0.mk (blk_below (blk_new w3 (verO 0 0 0 (.slice none 0 0))) hb)
  clear hb x0
  have c0 := blk_c (v := .int .i64 0) V4.out 0 rfl
  have f0 := blk_frozen V4.out 0
  have x1 : ∀ v, (w4.setCell ⟨w3.heap.size, 0, none⟩ v).cell? ⟨w.heap.size + 3, 1, none⟩ = some (.string q) := fun v => (S4.out.set (gv := w3.heap.size) (j := 0) (by have := Z.out; omega) v).str 1 q rfl
  refine Lib.hid ?_
  go_wp2
  rw [rounds_succ]
  go_wp2_with (go_at_call 38; refine (N1.out _).mono ?_; rintro e w5 ⟨rfl, hb⟩; refine Hid.out ?_)
  have S5 := Aside0.mk ((S4.out.set (gv := w3.heap.size) (j := 0) (by have := Z.out; omega) (.int .i64 n0)).below hb)
  have V5 := Aside0.mk (blk_below (blk_put (cs' := #[.int .i64 n0, .int .i64 0, .int .i64 0, .slice none 0 0]) V4.out 0 (.int .i64 n0) rfl) hb)
  clear hb x1 c0 f0
  have c0 := blk_c (v := .int .i64 0) V5.out 1 rfl
  have f0 := blk_frozen V5.out 1
  have x1 : ∀ v, (w5.setCell ⟨w3.heap.size, 1, none⟩ v).cell? ⟨w.heap.size + 3, 2, none⟩ = some (.string r) := fun v => (S5.out.set (gv := w3.heap.size) (j := 1) (by have := Z.out; omega) v).str 2 r rfl
  refine Lib.hid ?_
  go_wp2
  rw [rounds_succ]
  go_wp2_with (go_at_call 38; refine (N2.out _).mono ?_; rintro e w6 ⟨rfl, hb⟩; refine Hid.out ?_)
  have S6 := Aside0.mk ((S5.out.set (gv := w3.heap.size) (j := 1) (by have := Z.out; omega) (.int .i64 n1)).below hb)
  have V6 := Aside0.mk (blk_below (blk_put (cs' := #[.int .i64 n0, .int .i64 n1, .int .i64 0, .slice none 0 0]) V5.out 1 (.int .i64 n1) rfl) hb)
  clear hb x1 c0 f0
  have c3 := C3_.out
  have c0 := blk_c (v := .int .i64 0) V6.out 2 rfl
  have f0 := blk_frozen V6.out 2
  obtain ⟨w7, hw7⟩ : ∃ W, W = w6.setCell ⟨w3.heap.size, 2, none⟩ (.int .i64 n2) := ⟨_, rfl⟩
  have S7 := Aside0.mk (show PS w w7 w.heap.size [p, q, r] from by rw [hw7]; exact (S6.out.set (gv := w3.heap.size) (j := 2) (by have := Z.out; omega) (.int .i64 n2)))
  have V7 := Aside0.mk (show w7.heap[w3.heap.size]? = some (verO n0 n1 n2 (.slice none 0 0)) from by rw [hw7]; exact blk_put V6.out 2 (.int .i64 n2) rfl)
  have Q7 := Aside0.mk hw7
  have Z7 := Aside0.mk (show w3.heap.size < w7.heap.size from blk_lt V7.out)
  have C3 := Aside0.mk (c3 w7 (by exact pw_cell_below S7.out.bel HM.out) w7.heap.size rfl)
  rw [hw7] at C3
  clear hw7
  refine Lib.hid ?_
  go_wp2
  rw [rounds_succ]
  go_wp2_with (go_at_call 37; refine C3.out.mono ?_; rw [← Q7.out]; rintro e w8 ⟨rfl, hw8⟩; have S8 := Aside0.mk (show PS w w8 w.heap.size [p, q, r] from by rw [hw8]; exact S7.out.below (below_alloc (Below.refl _ _) _)); have V8 := Aside0.mk (show w8.heap[w3.heap.size]? = some (verO n0 n1 n2 (.slice none 0 0)) from by rw [hw8]; exact blk_alloc V7.out _); have T8 := Aside0.mk (show w8.heap[w7.heap.size]? = some (strO (partsB (tailB s))) from by rw [hw8]; exact blk_new _ _); clear hw8; refine Hid.out ?_)
  clear c0 f0
  have c0 := blk_c (v := .int .i64 n0) V8.out 0 rfl
  have c1 := blk_c (v := .int .i64 n1) V8.out 1 rfl
  have c2 := blk_c (v := .int .i64 n2) V8.out 2 rfl
  have c3 := blk_c (v := .slice none 0 0) V8.out 3 rfl
  have f3 := blk_frozen V8.out 3
  obtain ⟨w9, hw9⟩ : ∃ W, W = w8.setCell ⟨w3.heap.size, 3, none⟩ (.slice (some ⟨w7.heap.size, 0, none⟩) (partsB (tailB s)).length (partsB (tailB s)).length) := ⟨_, rfl⟩
  have S9 := Aside0.mk (show PS w w9 w.heap.size [p, q, r] from by rw [hw9]; exact S8.out.set (by have := Z.out; omega) _)
  have V9 := Aside0.mk (show w9.heap[w3.heap.size]? = some (verO n0 n1 n2 (.slice (some ⟨w7.heap.size, 0, none⟩) (partsB (tailB s)).length (partsB (tailB s)).length)) from by rw [hw9]; exact blk_put V8.out 3 _ rfl)
  have T9 := Aside0.mk (show w9.heap[w7.heap.size]? = some (strO (partsB (tailB s))) from by rw [hw9]; exact blk_far T8.out (by have := Z7.out; show w7.heap.size ≠ w3.heap.size; omega) _)
  have Q9 := Aside0.mk hw9
  have y0 : (w8.setCell ⟨w3.heap.size, 3, none⟩ (.slice (some ⟨w7.heap.size, 0, none⟩) (partsB (tailB s)).length (partsB (tailB s)).length)).cell? ⟨w3.heap.size, 0, none⟩ = some (.int .i64 n0) := by rw [← Q9.out]; exact blk_c V9.out 0 rfl
  have y1 : (w8.setCell ⟨w3.heap.size, 3, none⟩ (.slice (some ⟨w7.heap.size, 0, none⟩) (partsB (tailB s)).length (partsB (tailB s)).length)).cell? ⟨w3.heap.size, 1, none⟩ = some (.int .i64 n1) := by rw [← Q9.out]; exact blk_c V9.out 1 rfl
  have y2 : (w8.setCell ⟨w3.heap.size, 3, none⟩ (.slice (some ⟨w7.heap.size, 0, none⟩) (partsB (tailB s)).length (partsB (tailB s)).length)).cell? ⟨w3.heap.size, 2, none⟩ = some (.int .i64 n2) := by rw [← Q9.out]; exact blk_c V9.out 2 rfl
  have y3 : (w8.setCell ⟨w3.heap.size, 3, none⟩ (.slice (some ⟨w7.heap.size, 0, none⟩) (partsB (tailB s)).length (partsB (tailB s)).length)).cell? ⟨w3.heap.size, 3, none⟩ = some (.slice (some ⟨w7.heap.size, 0, none⟩) (partsB (tailB s)).length (partsB (tailB s)).length) := by rw [← Q9.out]; exact blk_c V9.out 3 rfl
  clear hw9
  refine Lib.hid ?_
  go_wp2_with (go_at_call 11; refine (validate_calls n0 n1 n2 (some ⟨w7.heap.size, 0, none⟩) (partsB (tailB s)).length (partsB (tailB s)) _ (by rw [← Q9.out]; exact C_row T9.out L.out) (Nat.le_refl _) 0 0 F.out).mono ?_; rintro e w10 ⟨rfl, hb⟩; refine Hid.out ?_)
  rw [← Q9.out] at hb
  have S10 := Aside0.mk (S9.out.below hb)
  have V10 := Aside0.mk (blk_below V9.out hb)
  have T10 := Aside0.mk (blk_below T9.out hb)
  clear hb y0 y1 y2 y3 c0 c1 c2 c3 f3
  have z0 := blk_c (v := .int .i64 n0) V10.out 0 rfl
  have z1 := blk_c (v := .int .i64 n1) V10.out 1 rfl
  have z2 := blk_c (v := .int .i64 n2) V10.out 2 rfl
  have z3 := blk_c (v := .slice (some ⟨w7.heap.size, 0, none⟩) (partsB (tailB s)).length (partsB (tailB s)).length) V10.out 3 rfl
  have d0 := blk_c (v := .int .i64 0) S10.out.b0 0 rfl
  have e0 := blk_frozen S10.out.b0 0
  have d1 := blk_c (v := .int .i64 0) S10.out.b0 1 rfl
  have e1 := blk_frozen S10.out.b0 1
  have d2 := blk_c (v := .int .i64 0) S10.out.b0 2 rfl
  have e2 := blk_frozen S10.out.b0 2
  have d3 := blk_c (v := .slice none 0 0) S10.out.b0 3 rfl
  have e3 := blk_frozen S10.out.b0 3
  have d4 := blk_c (v := .int .i64 0) S10.out.b1 0 rfl
  have e4 := blk_frozen S10.out.b1 0
  have d5 := blk_c (v := .int .i64 0) S10.out.b1 1 rfl
  have e5 := blk_frozen S10.out.b1 1
  refine Lib.hid ?_
  go_wp2
  have nf0 : ∀ j : Nat, ∀ k, k = w7.heap.size → k ≠ (⟨w.heap.size, j, none⟩ : Addr).block := fun j k hk => by have := Z7.out; have := Z.out; show k ≠ w.heap.size; omega
  have nf1 : ∀ j : Nat, ∀ k, k = w7.heap.size → k ≠ (⟨w.heap.size + 1, j, none⟩ : Addr).block := fun j k hk => by have := Z7.out; have := Z.out; show k ≠ w.heap.size + 1; omega
  obtain ⟨e0, e1, eb⟩ := badEnd S10.out.bel S10.out.le S10.out.b0 S10.out.b1 n0 n1 n2 (.slice (some ⟨w7.heap.size, 0, none⟩) (partsB (tailB s)).length (partsB (tailB s)).length) 0 0
  refine bodyPost_ret (results_cc rfl _ _ w.heap.size (w.heap.size + 1) 24 27 #[.int .i64 n0, .int .i64 n1, .int .i64 n2, .slice (some ⟨w7.heap.size, 0, none⟩) (partsB (tailB s)).length (partsB (tailB s)).length] #[.int .i64 0, .int .i64 0] (0, 0) (0, 0) _ _ rfl (e0) hu24 rfl (by kernel_rfl) rfl (e1) hu27 rfl (by kernel_rfl)) rfl ?_
  exact ⟨_, rfl, Kd.R_mono (Kd.R_far (Kd.R_far (Kd.R_far (Kd.R_far (Kd.R_far (Kd.R_far (R_row T10.out L.out (by have := Z7.out; have := Z.out; omega)) (nf0 0) _) (nf0 1) _) (nf0 2) _) (nf0 3) _) (nf1 0) _) (nf1 1) _) (fun _ _ => trivial), eb⟩
end Go.Proofs.YtggdbafmpmfmcaaDoor.Fn
