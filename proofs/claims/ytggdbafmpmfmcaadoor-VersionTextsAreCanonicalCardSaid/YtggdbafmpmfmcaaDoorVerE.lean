/- version.Number and version.Parse answer as plain words say (own work). Condition: what the library's variables hold. -/
import Derived.Test.YtggdbafmpmfmcaaDoorFn0
import Derived.Test.YtggdbafmpmfmcaaDoorFs0
import Derived.Test.YtggdbafmpmfmcaaDoorVerD
import Derived.Test.YtggdbafmpmfmcaaDoorVerI
import Derived.Test.YtggdbafmpmfmcaaDoorVerA
import Derived.Test.YtggdbafmpmfmcaaDoorTight
import Derived.WalkKit
import Derived.Lib.Hide
import Derived.RegionTactic
import Derived.ChangeAlike
set_option linter.unusedVariables false
set_option linter.unusedSimpArgs false
namespace Go.Proofs.YtggdbafmpmfmcaaDoor.Fn
open Go Go.RowKit Go.Proofs.YtggdbafmpmfmcaaDoorW.PrintWords Go.Proofs.YtggdbafmpmfmcaaDoorW.PrintLast Go.Proofs.YtggdbafmpmfmcaaDoorW.PrintMore
def natL (l : List UInt8) : Nat := l.foldl (fun n c => n * 10 + (c.toNat - 48)) 0
def numOf (s : ByteArray) : Int × Bool :=
  if numL s.data.toList = true ∧ canL s.data.toList = true ∧ s.size ≤ 10 then ((natL s.data.toList : Int), decide ((natL s.data.toList : Int) ≤ 1000000000)) else (0, false)
theorem decFrom_all : ∀ (l : List UInt8) (acc : Nat), l.all dgB = true → Lib.decFrom acc l = some (l.foldl (fun n c => n * 10 + (c.toNat - 48)) acc)
  | [], _, _ => rfl
  | c :: l, acc, h => by
    rw [List.all_cons, Bool.and_eq_true] at h
    have hd : Lib.digitVal c = some (c.toNat - 48) := by
      unfold Lib.digitVal
      have := h.1
      unfold dgB at this
      rw [Bool.and_eq_true, decide_eq_true_eq, decide_eq_true_eq] at this
      rw [if_pos this]
    unfold Lib.decFrom
    rw [hd]
    exact decFrom_all l _ h.2
theorem atoi_num (l : List UInt8) (h : numL l = true) : Lib.atoi l = some (natL l : Int) := by
  unfold numL at h
  rw [Bool.and_eq_true] at h
  obtain ⟨h0, h1⟩ := h
  cases l with
  | nil => cases h0
  | cons c l =>
    have hd := decFrom_all (c :: l) 0 h1
    rw [List.all_cons, Bool.and_eq_true] at h1
    have hc := h1.1
    unfold dgB at hc
    rw [Bool.and_eq_true, decide_eq_true_eq, decide_eq_true_eq] at hc
    have n45 : (c == 45) = false := by
      rw [beq_eq_false_iff_ne]
      intro e
      subst e
      exact absurd hc.1 (by decide)
    have n43 : (c == 43) = false := by
      rw [beq_eq_false_iff_ne]
      intro e
      subst e
      exact absurd hc.1 (by decide)
    unfold Lib.atoi
    simp only [n45, n43, Bool.false_eq_true, if_false]
    unfold Lib.decNat
    rw [if_neg (by simp), hd]
    rfl
theorem isDigits_calls (s : ByteArray) (w : World) : Calls Tryd.prog 42 #[.string s] w fun e w' => e = .returned (.bool (numL s.data.toList)) ∧ Below w.heap.size w w' := version_isDigits.calls s _ w (pIsDigits s)
theorem isCanonical_calls (s : ByteArray) (h : s.data.toList ≠ []) (w : World) : Calls Tryd.prog 43 #[.string s] w fun e w' => e = .returned (.bool (canL s.data.toList)) ∧ Drawn0 w w' := version_isCanonical.calls s _ w (pIsCanonical s h)
set_option maxHeartbeats 1000000 in
theorem number_calls (s : ByteArray) (w : World) :
    Calls Tryd.prog 38 #[.string s] w fun e w' => e = .returned (.tuple #[.int .i64 (numOf s).1, .bool (numOf s).2]) ∧ Below w.heap.size w w' := by
  cases hn : numL s.data.toList with
  | false =>
    have e : numOf s = (0, false) := by unfold numOf; rw [if_neg (by rw [hn]; simp)]
    rw [e]
    have I := Aside0.mk hn
    clear hn e
    go_enter Tryd.func38, Tryd.ntmps38
    go_wp2_with (go_at_call 42; refine (isDigits_calls s _).mono ?_; rw [I.out]; rintro e w' ⟨rfl, hb⟩)
    go_ret2
    exact ⟨rfl, hb⟩
  | true =>
    have hne : s.data.toList ≠ [] := fun e => by rw [e] at hn; cases hn
    have K := Aside0.mk hne
    clear hne
    cases hc : canL s.data.toList with
    | false =>
      have e : numOf s = (0, false) := by unfold numOf; rw [if_neg (by rw [hc]; simp)]
      rw [e]
      have I := Aside0.mk hn
      have J := Aside0.mk hc
      clear hn e hc
      go_enter Tryd.func38, Tryd.ntmps38
      go_wp2_with (first | (go_at_call 42; refine (isDigits_calls s _).mono ?_; rw [I.out]; rintro e w' ⟨rfl, hb⟩) | (go_at_call 43; refine (isCanonical_calls s K.out _).mono ?_; rw [J.out]; rintro e w' ⟨rfl, ⟨nd, rfl⟩⟩))
      go_ret2
      exact ⟨rfl, pw_below_drewN hb _⟩
    | true =>
      by_cases h10 : s.size ≤ 10
      · have e : numOf s = ((natL s.data.toList : Int), decide ((natL s.data.toList : Int) ≤ 1000000000)) := by unfold numOf; rw [if_pos ⟨hn, hc, h10⟩]
        rw [e]
        have I := Aside0.mk hn
        have J := Aside0.mk hc
        have A := Aside0.mk (fun w => Tryd.strconv_Atoi s _ (by omega) (atoi_num _ hn) w)
        clear hn e hc
        generalize natL s.data.toList = n at A ⊢
        go_enter Tryd.func38, Tryd.ntmps38
        go_wp2_with (first | (go_at_call 42; refine (isDigits_calls s _).mono ?_; rw [I.out]; rintro e w' ⟨rfl, hb⟩) | (go_at_call 43; refine (isCanonical_calls s K.out _).mono ?_; rw [J.out]; rintro e w' ⟨rfl, ⟨nd, rfl⟩⟩) | (go_at_call 54; refine (A.out _).mono ?_; rintro e w2 ⟨rfl, ⟨t, rfl⟩⟩))
        go_ret2
        exact ⟨rfl, bytes_below (pw_below_drewN hb _) (pw_below_drewN hb _).size _ _⟩
      · have e : numOf s = (0, false) := by unfold numOf; rw [if_neg (fun h => h10 h.2.2)]
        rw [e]
        have I := Aside0.mk hn
        have J := Aside0.mk hc
        clear hn e hc
        go_enter Tryd.func38, Tryd.ntmps38
        go_wp2_with (first | (go_at_call 42; refine (isDigits_calls s _).mono ?_; rw [I.out]; rintro e w' ⟨rfl, hb⟩) | (go_at_call 43; refine (isCanonical_calls s K.out _).mono ?_; rw [J.out]; rintro e w' ⟨rfl, ⟨nd, rfl⟩⟩))
        go_ret2
        exact ⟨rfl, pw_below_drewN hb _⟩
def dotS : ByteArray := ⟨#[46]⟩
def partsB (s : ByteArray) : List ByteArray := Lib.splitB ⟨#[46]⟩ 0 (Lib.countB s ⟨#[46]⟩) s
def coreB (s : ByteArray) : ByteArray := ⟨(Lib.cut s.data.toList [45]).1.toArray⟩
def tailB (s : ByteArray) : ByteArray := ⟨(Lib.cut s.data.toList [45]).2.1.toArray⟩
def hasB (s : ByteArray) : Bool := (Lib.cut s.data.toList [45]).2.2
def badV : Int × Int × Int × List ByteArray × Int × Int := (0, 0, 0, [], 1, -1)
def parse3 (p q r : ByteArray) (ids : List ByteArray) : Int × Int × Int × List ByteArray × Int × Int :=
  if (numOf p).2 = true ∧ (numOf q).2 = true ∧ (numOf r).2 = true then
    (if verFault (numOf p).1 (numOf q).1 (numOf r).1 ids = (0, 0) then ((numOf p).1, (numOf q).1, (numOf r).1, ids, 0, 0) else badV)
  else badV
def verParse (s : ByteArray) : Int × Int × Int × List ByteArray × Int × Int :=
  if 80 < s.size then (0, 0, 0, [], 2, -1) else
  match partsB (coreB s) with
  | [p, q, r] => parse3 p q r (if hasB s = true then partsB (tailB s) else [])
  | _ => badV
theorem cut_len (l sep : List UInt8) : (Lib.cut l sep).1.length ≤ l.length ∧ (Lib.cut l sep).2.1.length ≤ l.length := by
  unfold Lib.cut
  split
  · simp only [List.length_take, List.length_drop]
    omega
  · simp
theorem cut_le (s : ByteArray) : (coreB s).size ≤ s.size ∧ (tailB s).size ≤ s.size := by
  have h0 := chars_len s
  have h1 := chars_len (coreB s)
  have h2 := chars_len (tailB s)
  have e1 : (coreB s).data.toList = (Lib.cut s.data.toList [45]).1 := by simp [coreB]
  have e2 : (tailB s).data.toList = (Lib.cut s.data.toList [45]).2.1 := by simp [tailB]
  rw [e1] at h1
  rw [e2] at h2
  have := cut_len s.data.toList [45]
  omega
theorem cut_calls (s : ByteArray) (hs : s.size < 4294967281) (w : World) (m : Int) (hm : w.cell? ⟨0, 0, none⟩ = some (.int .i64 m)) :
    Calls Tryd.prog 36 #[.string s, .string ⟨#[45]⟩] w fun e w' => e = .returned (.tuple #[.string (coreB s), .string (tailB s), .bool (hasB s)]) ∧ ∃ n, w' = w.drewN n := Tryd.strings_Cut s ⟨#[45]⟩ m w hs hm
theorem split_calls (s : ByteArray) (hs : s.size < 4294967281) (w : World) (m : Int) (hm : w.cell? ⟨0, 0, none⟩ = some (.int .i64 m)) (g : Nat) (hg : w.heap.size = g) :
    Calls Tryd.prog 37 #[.string s, .string ⟨#[46]⟩] w fun e w' => e = .returned (.slice (some ⟨g, 0, none⟩) (partsB s).length (partsB s).length) ∧ w' = w.alloc (.cells ((partsB s).map Value.string).toArray 9) := by
  subst hg
  have h := Tryd.strings_Split s ⟨#[46]⟩ m w hs hm (by decide)
  have hl := Lib.splitB_all (⟨#[46]⟩ : ByteArray) (by decide) 0 _ s rfl
  rw [show (partsB s).length = Lib.countB s ⟨#[46]⟩ + 1 from hl]
  exact h
set_option maxHeartbeats 4000000 in
set_option maxRecDepth 100000 in
theorem parse_long (s : ByteArray) (w : World) (h : 80 < s.size) :
    Calls Tryd.prog 20 #[.string s] w fun e w' => ∃ v3_ : Value, e = .returned (.tuple #[.agg #[.int .i64 0, .int .i64 0, .int .i64 0, v3_], .agg #[.int .i64 2, .int .i64 (-1)]]) ∧ Kd.R Kd.string 9 w' w.heap.size (fun _ => True) v3_ [] ∧ Below w.heap.size w w' := by
  have hu24 := Tryd.underlying24
  have hu27 := Tryd.underlying27
  go_enter Tryd.func20, Tryd.ntmps20
  go_wp2
  refine bodyPost_ret (results_cc rfl _ _ w.heap.size (w.heap.size + 1) 24 27 #[.int .i64 0, .int .i64 0, .int .i64 0, .slice none 0 0] #[.int .i64 2, .int .i64 (-1)] (0, 0) (0, 0) _ _ rfl (blk_alloc (blk_new _ _) _) hu24 rfl (by kernel_rfl) rfl (new2 _ _ _) hu27 rfl (by kernel_rfl)) rfl ?_
  exact ⟨_, rfl, Kd.R_nil _ _ _ _ _, below_alloc (below_alloc (Below.refl _ _) _) _⟩
abbrev verO (x y z : Int) (v : Value) : Obj := .cells #[.int .i64 x, .int .i64 y, .int .i64 z, v] 24
abbrev fltO (x y : Int) : Obj := .cells #[.int .i64 x, .int .i64 y] 27
abbrev strO (P : List ByteArray) : Obj := .cells (P.map Value.string).toArray 9
theorem badEnd {w wr : World} {g : Nat} {v0 v1 v2 v3 f0 f1 : Value} (bel : Below w.heap.size w wr) (hg : w.heap.size ≤ g) (b0 : wr.heap[g]? = some (.cells #[v0, v1, v2, v3] 24 (0, 0))) (b1 : wr.heap[g + 1]? = some (.cells #[f0, f1] 27 (0, 0))) (a b c : Int) (v : Value) (e f : Int) :
    ((((((wr.setCell ⟨g, 0, none⟩ (.int .i64 a)).setCell ⟨g, 1, none⟩ (.int .i64 b)).setCell ⟨g, 2, none⟩ (.int .i64 c)).setCell ⟨g, 3, none⟩ v).setCell ⟨g + 1, 0, none⟩ (.int .i64 e)).setCell ⟨g + 1, 1, none⟩ (.int .i64 f)).heap[g]? = some (verO a b c v) ∧
    ((((((wr.setCell ⟨g, 0, none⟩ (.int .i64 a)).setCell ⟨g, 1, none⟩ (.int .i64 b)).setCell ⟨g, 2, none⟩ (.int .i64 c)).setCell ⟨g, 3, none⟩ v).setCell ⟨g + 1, 0, none⟩ (.int .i64 e)).setCell ⟨g + 1, 1, none⟩ (.int .i64 f)).heap[g + 1]? = some (fltO e f) ∧
    Below w.heap.size w ((((((wr.setCell ⟨g, 0, none⟩ (.int .i64 a)).setCell ⟨g, 1, none⟩ (.int .i64 b)).setCell ⟨g, 2, none⟩ (.int .i64 c)).setCell ⟨g, 3, none⟩ v).setCell ⟨g + 1, 0, none⟩ (.int .i64 e)).setCell ⟨g + 1, 1, none⟩ (.int .i64 f)) := by
  have n1 : ∀ j, g ≠ (⟨g + 1, j, none⟩ : Addr).block := fun j => by show g ≠ g + 1; omega
  have n2 : ∀ j, g + 1 ≠ (⟨g, j, none⟩ : Addr).block := fun j => by show g + 1 ≠ g; omega
  refine ⟨blk_far (blk_far (blk_put4 b0) (n1 0) _) (n1 1) _, blk_put2 (blk_far (blk_far (blk_far (blk_far b1 (n2 0) _) (n2 1) _) (n2 2) _) (n2 3) _), ?_⟩
  exact below_set (below_set (below_set (below_set (below_set (below_set bel hg) hg) hg) hg) (by omega)) (by omega)
/-- What a walk of Parse knows behind its cut and its first split. -/
structure PS (w wr : World) (g : Nat) (P : List ByteArray) : Prop where
  bel : Below w.heap.size w wr
  le : w.heap.size ≤ g
  b0 : wr.heap[g]? = some (verO 0 0 0 (.slice none 0 0))
  b1 : wr.heap[g + 1]? = some (fltO 0 0)
  b2 : wr.heap[g + 2]? = some (fltO 1 (-1))
  b3 : wr.heap[g + 3]? = some (strO P)
theorem PS.start (w : World) (n : Nat) (P : List ByteArray) : PS w ((((((w.alloc (verO 0 0 0 (.slice none 0 0))).alloc (fltO 0 0)).alloc (fltO 1 (-1))).drewN n)).alloc (strO P)) w.heap.size P := by
  have e1 : (w.alloc (verO 0 0 0 (.slice none 0 0))).heap.size = w.heap.size + 1 := by simp
  have e2 : ((w.alloc (verO 0 0 0 (.slice none 0 0))).alloc (fltO 0 0)).heap.size = w.heap.size + 2 := by simp
  have e3 : ((((w.alloc (verO 0 0 0 (.slice none 0 0))).alloc (fltO 0 0)).alloc (fltO 1 (-1))).drewN n).heap.size = w.heap.size + 3 := by
    show (((w.alloc (verO 0 0 0 (.slice none 0 0))).alloc (fltO 0 0)).alloc (fltO 1 (-1))).heap.size = _
    simp
  have h0 := blk_new w (verO 0 0 0 (.slice none 0 0))
  have h1 := blk_new (w.alloc (verO 0 0 0 (.slice none 0 0))) (fltO 0 0)
  have h2 := blk_new ((w.alloc (verO 0 0 0 (.slice none 0 0))).alloc (fltO 0 0)) (fltO 1 (-1))
  have h3 := blk_new ((((w.alloc (verO 0 0 0 (.slice none 0 0))).alloc (fltO 0 0)).alloc (fltO 1 (-1))).drewN n) (strO P)
  rw [e1] at h1
  rw [e2] at h2
  rw [e3] at h3
  exact ⟨by repeat (first | exact Below.refl _ _ | apply below_alloc | apply pw_below_drewN), Nat.le_refl _, blk_alloc (blk_drewN (blk_alloc (blk_alloc h0 _) _) n) _, blk_alloc (blk_drewN (blk_alloc h1 _) n) _, blk_alloc (blk_drewN h2 n) _, h3⟩
theorem PS.below {w wr wr' : World} {g : Nat} {P : List ByteArray} (h : PS w wr g P) (hb : Below wr.heap.size wr wr') : PS w wr' g P :=
  ⟨h.bel.trans (hb.mono h.bel.size), h.le, blk_below h.b0 hb, blk_below h.b1 hb, blk_below h.b2 hb, blk_below h.b3 hb⟩
theorem PS.set {w wr : World} {g gv j : Nat} {P : List ByteArray} (h : PS w wr g P) (hv : g + 4 ≤ gv) (u : Value) : PS w (wr.setCell ⟨gv, j, none⟩ u) g P := by
  have n : ∀ i, i < 4 → g + i ≠ (⟨gv, j, none⟩ : Addr).block := fun i hi => by show g + i ≠ gv; omega
  exact ⟨below_set h.bel (by have := h.le; omega), h.le, blk_far h.b0 (n 0 (by omega)) _, blk_far h.b1 (n 1 (by omega)) _, blk_far h.b2 (n 2 (by omega)) _, (Below.heap_setCell _ _ _ _ (n 3 (by omega))).trans h.b3⟩
theorem PS.drew {w wr : World} {g : Nat} {P : List ByteArray} (h : PS w wr g P) : PS w wr.drew g P := ⟨below_drew h.bel, h.le, h.b0, h.b1, h.b2, h.b3⟩
theorem PS.str {w wr : World} {g : Nat} {P : List ByteArray} (h : PS w wr g P) (i : Nat) (s : ByteArray) (e : P[i]? = some s) : wr.cell? ⟨g + 3, i, none⟩ = some (.string s) :=
  (blk_cell h.b3 i).trans (by simp [e])
end Go.Proofs.YtggdbafmpmfmcaaDoor.Fn
