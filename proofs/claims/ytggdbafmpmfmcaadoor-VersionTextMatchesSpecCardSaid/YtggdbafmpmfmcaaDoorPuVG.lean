/- Plain lemmas: the reference's text of a version and its reading of a text. No condition but what each states. -/
import Derived.Test.YtggdbafmpmfmcaaDoorFf10
import Derived.Test.YtggdbafmpmfmcaaDoorFf19
import Derived.Test.YtggdbafmpmfmcaaDoorFf21
import Derived.Test.YtggdbafmpmfmcaaDoorFf35
import Derived.Test.YtggdbafmpmfmcaaDoorFf39
import Derived.Test.YtggdbafmpmfmcaaDoorFf40
import Derived.Test.YtggdbafmpmfmcaaDoorFn0
import Derived.Test.YtggdbafmpmfmcaaDoorPuVE
set_option linter.unusedVariables false
set_option linter.unusedSimpArgs false
namespace Go.Proofs.YtggdbafmpmfmcaaDoor.Pure
open Go Go.RowKit Go.Proofs.YtggdbafmpmfmcaaDoor.Fn Go.Proofs.YtggdbafmpmfmcaaDoorW.PrintWords Go.Proofs.YtggdbafmpmfmcaaDoorW.PrintLast Go.Proofs.YtggdbafmpmfmcaaDoorW.PrintMore
/-! the text -/
theorem rtext_loop (a b c : Int) (p : List ByteArray) (h4 : p.length ≤ 4) (ip : ∀ s ∈ p, identB s = true) : ∀ (d i : Nat) (x : ByteArray), 1 ≤ i → i + d = p.length → x.size ≤ 100 + 9 * i →
    ∃ y : ByteArray, Ev (fun k => changeforgeref5_VersionText.l0 k x i a b c p) y ∧ y.data.toList = x.data.toList ++ tailJ 46 (chs (p.drop i)) := by
  intro d
  induction d with
  | zero =>
    intro i x _ hi _
    refine ⟨x, Ev.step (f := fun _ => some x) (fun k => by simp only [changeforgeref5_VersionText.l0]; rw [if_neg (by omega)]) (Ev.now _), ?_⟩
    rw [List.drop_of_length_le (by omega)]
    simp [chs, tailJ]
  | succ d ih =>
    intro i x h1 hi hx
    have hid := ident_facts (ip _ (List.getElem_mem (show i < p.length from by omega)))
    have e46 : (⟨#[46]⟩ : ByteArray).size = 1 := rfl
    obtain ⟨y, hy, ey⟩ := ih (i + 1) ((x ++ (⟨#[46]⟩ : ByteArray)) ++ p[i]) (by omega) (by omega) (by simp only [app_size]; omega)
    refine ⟨y, Ev.step (f := fun k => changeforgeref5_VersionText.l0 k ((x ++ (⟨#[46]⟩ : ByteArray)) ++ p[i]) ((i + 1 : Nat) : Int) a b c p) (fun k => by
      simp only [changeforgeref5_VersionText.l0]
      rw [if_pos (by omega), if_neg (by omega), if_pos (by omega), if_pos (by omega), rdOf_get _ _ _ (by omega), if_pos (by simp only [app_size]; omega), wrS (by omega) (by omega)]
      rfl) hy, ?_⟩
    rw [ey, List.drop_eq_getElem_cons (by omega : i < p.length)]
    simp only [chs, List.map_cons, tailJ, app_list, List.append_assoc, List.cons_append, List.nil_append]
theorem rText {a b c : Int} {p : List ByteArray} (h : okV a b c p) : Ev (fun k => changeforgeref5_VersionText.f k a b c p) (textB a b c p) := by
  have h1 := dec_size (n := a.toNat) (by have := h.1.2; omega)
  have h2 := dec_size (n := b.toNat) (by have := h.2.1.2; omega)
  have h3 := dec_size (n := c.toNat) (by have := h.2.2.1.2; omega)
  have h4 := h.2.2.2.1
  have e46 : (⟨#[46]⟩ : ByteArray).size = 1 := rfl
  have e45 : (⟨#[45]⟩ : ByteArray).size = 1 := rfl
  have hc := core_size h.1.2 h.2.1.2 h.2.2.1.2
  refine Ev.congr (f := fun k => changeforgeref5_VersionText.l0 k (coreT a b c) 0 a b c p) (fun k => by
    unfold changeforgeref5_VersionText.f changeforgeref5_Digits.f
    rw [if_pos (show 0 ≤ a ∧ a ≤ 9223372036854775807 from ⟨h.1.1, by have := h.1.2; omega⟩), if_pos (show 0 ≤ b ∧ b ≤ 9223372036854775807 from ⟨h.2.1.1, by have := h.2.1.2; omega⟩), if_pos (show 0 ≤ c ∧ c ≤ 9223372036854775807 from ⟨h.2.2.1.1, by have := h.2.2.1.2; omega⟩)]
    simp only [Option.bind_some]
    rw [if_pos (by omega), if_pos (by rw [app_size]; omega), if_pos (by rw [app_size, app_size]; omega), if_pos (by rw [app_size, app_size, app_size]; omega)]
    rfl) ?_
  unfold textB
  by_cases hp : p.length = 0
  · rw [if_pos hp]
    exact Ev.step (f := fun _ => some (coreT a b c)) (fun k => by simp only [changeforgeref5_VersionText.l0]; rw [if_neg (by omega)]) (Ev.now _)
  · rw [if_neg hp]
    have hid := ident_facts (h.2.2.2.2 _ (List.getElem_mem (show 0 < p.length from by omega)))
    obtain ⟨y, hy, ey⟩ := rtext_loop a b c p h4 h.2.2.2.2 (p.length - 1) 1 ((coreT a b c ++ (⟨#[45]⟩ : ByteArray)) ++ p[0]) (by omega) (by omega) (by simp only [app_size]; omega)
    have e : y = coreT a b c ++ ((⟨#[45]⟩ : ByteArray) ++ ⟨(joinL [46] (chs p)).toArray⟩) := by
      refine chars_inj ?_
      rw [ey]
      have hd : p = p[0] :: p.drop 1 := by
        have := List.drop_eq_getElem_cons (show 0 < p.length from by omega)
        rw [List.drop_zero] at this
        exact this
      have hj : joinL [46] (chs p) = p[0].data.toList ++ tailJ 46 (chs (p.drop 1)) := by
        have := congrArg (fun q => joinL [46] (chs q)) hd
        refine this.trans ?_
        exact joinL_cons 46 _ _
      simp only [app_list]
      show _ = _ ++ (_ ++ joinL [46] (chs p))
      rw [hj]
      simp only [List.append_assoc]
    rw [← e]
    exact Ev.step (f := fun k => changeforgeref5_VersionText.l0 k ((coreT a b c ++ (⟨#[45]⟩ : ByteArray)) ++ p[0]) ((1 : Nat) : Int) a b c p) (fun k => by
      simp only [changeforgeref5_VersionText.l0]
      rw [if_pos (by omega), if_pos trivial, if_pos (by omega), if_pos (by omega)]
      have hr := rdOf_get ByteArray.empty p 0 (by omega)
      rw [show ((0 : Nat) : Int) = 0 from rfl] at hr
      rw [hr, if_pos (by simp only [app_size]; omega), wrS (by omega) (by omega)]
      rfl) hy
/-! numbers -/
def refNum (s : ByteArray) : Int := if numL s.data.toList = true ∧ canL s.data.toList = true ∧ s.size ≤ 19 ∧ natL s.data.toList ≤ 1000000000 then (natL s.data.toList : Int) else -1
theorem fold_ge (l : List UInt8) (acc : Nat) : acc ≤ l.foldl (fun n c => n * 10 + (c.toNat - 48)) acc := by
  rw [fold_acc]
  have : acc * 1 ≤ acc * 10 ^ l.length := Nat.mul_le_mul_left _ (Nat.one_le_pow _ _ (by decide))
  omega
theorem number_loop (s : ByteArray) (hz : s.size ≤ 80) (hd : s.data.toList.all dgB = true) : ∀ (d i acc : Nat), i + d = s.size → acc ≤ 1000000000 →
    Ev (fun k => changeforgeref5_NumberOf.l0 k s 1000000000 (acc : Int) i) (if (s.data.toList.drop i).foldl (fun n c => n * 10 + (c.toNat - 48)) acc ≤ 1000000000 then (((s.data.toList.drop i).foldl (fun n c => n * 10 + (c.toNat - 48)) acc : Nat) : Int) else -1) := by
  intro d
  induction d with
  | zero =>
    intro i acc hi hac
    refine Ev.step (f := fun _ => some (acc : Int)) (fun k => by simp only [changeforgeref5_NumberOf.l0]; rw [if_neg (by omega)]) ?_
    rw [List.drop_of_length_le (by rw [chars_len]; omega), List.foldl_nil, if_pos hac]
    exact Ev.now _
  | succ d ih =>
    intro i acc hi hac
    have hl : i < s.data.toList.length := by rw [chars_len]; omega
    have hb := bt_eq s i hl
    have hdg := (dgB_iff _).1 (List.all_eq_true.1 hd _ (List.getElem_mem hl))
    rw [List.drop_eq_getElem_cons hl, List.foldl_cons]
    generalize hx : s.data.toList[i].toNat = x at *
    have hw : wrap64 (Int.tdiv (wrap64 (1000000000 - (((x : Int) - 48) % 256))) 10) = (1000000000 - ((x : Int) - 48)) / 10 := by
      rw [show ((x : Int) - 48) % 256 = (x : Int) - 48 from by omega, w64 (n := 1000000000 - ((x : Int) - 48)) (by omega) (by omega), Int.tdiv_eq_ediv_of_nonneg (by omega), w64 (by omega) (by omega)]
    by_cases hg : acc * 10 + (x - 48) ≤ 1000000000
    · refine Ev.step (f := fun k => changeforgeref5_NumberOf.l0 k s 1000000000 ((acc * 10 + (x - 48) : Nat) : Int) ((i + 1 : Nat) : Int)) (fun k => by
        simp only [changeforgeref5_NumberOf.l0]
        rw [if_pos (by omega), if_pos (by omega), hb, hw, if_neg (by omega), wrS (by omega) (by omega), w64 (n := 10 * (acc : Int)) (by omega) (by omega), w64 (by omega) (by omega)]
        congr 1
        omega) ?_
      exact ih (i + 1) _ (by omega) hg
    · have hge := fold_ge (s.data.toList.drop (i + 1)) (acc * 10 + (x - 48))
      rw [if_neg (by omega)]
      exact Ev.step (f := fun _ => some (-1)) (fun k => by
        simp only [changeforgeref5_NumberOf.l0]
        rw [if_pos (by omega), if_pos (by omega), hb, hw, if_pos (by omega)]) (Ev.now _)
theorem rNumberOf (s : ByteArray) (hz : s.size ≤ 80) : Ev (fun k => changeforgeref5_NumberOf.f k s 1000000000) (refNum s) := by
  have hlen := chars_len s
  have jt : Ev (fun k => changeforgeref5_NumberOf.j0 k s 1000000000 true) (-1) := Ev.step (f := fun _ => some (-1)) (fun k => by simp only [changeforgeref5_NumberOf.j0]; rfl) (Ev.now _)
  unfold changeforgeref5_NumberOf.f refNum
  refine ev_bind (rNumeric s (by omega)) ?_
  cases hn : numL s.data.toList with
  | false =>
    simp only [Bool.false_eq_true, if_false, false_and]
    exact jt
  | true =>
    have hd := (numL_iff.1 hn).2
    simp only [if_true, true_and]
    have loop := number_loop s hz hd s.size 0 0 (by omega) (by decide)
    rw [List.drop_zero] at loop
    change Ev _ (if natL s.data.toList ≤ 1000000000 then ((natL s.data.toList : Nat) : Int) else -1) at loop
    have jf : Ev (fun k => changeforgeref5_NumberOf.j0 k s 1000000000 false) (if natL s.data.toList ≤ 1000000000 then ((natL s.data.toList : Nat) : Int) else -1) := Ev.step (fun k => by simp only [changeforgeref5_NumberOf.j0]; rw [if_neg (by decide)]; rfl) loop
    by_cases h19 : s.size ≤ 19
    · simp only [if_neg (show ¬ (s.size : Int) > 19 from by omega)]
      obtain ⟨x, l, hs⟩ : ∃ x l, s.data.toList = x :: l := by
        cases hs : s.data.toList with
        | nil => exact absurd hs (numL_iff.1 hn).1
        | cons x l => exact ⟨x, l, rfl⟩
      have hb : bt s 0 = (x.toNat : Int) := by
        have := bt_eq s 0 (by rw [hs]; simp)
        refine this.trans ?_
        simp only [hs, List.getElem_cons_zero]
      have hbe : (bt s 0 == 48) = (x == 48) := by
        rw [hb]
        by_cases hx : x = 48
        · subst hx; rfl
        · have : x.toNat ≠ 48 := fun hn => hx (UInt8.toNat_inj.1 hn)
          rw [beq_eq_false_iff_ne.2 hx, beq_eq_false_iff_ne]
          omega
      by_cases h1 : (s.size : Int) > 1
      · simp only [if_pos h1, if_pos (show 0 < (s.size : Int) from by omega), hbe]
        have hl1 : l ≠ [] := fun e => by rw [hs, e] at hlen; simp at hlen; omega
        have e1 : ((x :: l) == [(48 : UInt8)]) = false := by rw [beq_eq_false_iff_ne]; intro e; exact hl1 (List.cons.inj e).2
        by_cases hx : x = 48
        · have hcan : canL s.data.toList = false := by
            unfold canL
            rw [hs, e1, Bool.false_or, List.head?_cons, hx]
            rfl
          rw [hcan, hx]
          simp only [Bool.false_eq_true, false_and, if_false]
          exact jt
        · have hcan : canL s.data.toList = true := by
            unfold canL
            rw [hs, e1, Bool.false_or, List.head?_cons, bne_iff_ne]
            exact fun e => hx (Option.some.inj e)
          rw [hcan, beq_eq_false_iff_ne.2 hx]
          simp only [true_and, h19]
          exact jf
      · simp only [if_neg h1]
        have hl1 : l = [] := by
          cases l with
          | nil => rfl
          | cons y m => rw [hs] at hlen; simp at hlen; omega
        have hcan : canL s.data.toList = true := by
          unfold canL
          rw [hs, hl1]
          by_cases hx : x = 48
          · subst hx; rfl
          · simp [hx]
        rw [hcan]
        simp only [true_and, h19]
        exact jf
    · simp only [if_pos (show (s.size : Int) > 19 from by omega), h19, false_and, and_false, if_false]
      exact jt
theorem refNum_dec {a : Int} (h0 : 0 ≤ a) (h1 : a ≤ 1000000000) : refNum (decS a.toNat) = a := by
  have hs := dec_size (n := a.toNat) (by omega)
  unfold refNum
  rw [dec_list, (dec_facts _).2.2.1, if_pos ⟨dec_num _, dec_can _, by omega, by omega⟩]
  omega
theorem refNum_inv {s : ByteArray} (h : 0 ≤ refNum s) : s = decS (refNum s).toNat := by
  unfold refNum at h ⊢
  split at h
  · rename_i hc
    rw [if_pos hc]
    refine chars_inj ?_
    rw [dec_list, Int.toNat_natCast, dec_natL hc.1 hc.2.1]
  · omega
abbrev ba (l : List UInt8) : ByteArray := ⟨l.toArray⟩
theorem ba_list (l : List UInt8) : (ba l).data.toList = l := rfl
theorem ba_self {s : ByteArray} {l : List UInt8} (h : s.data.toList = l) : s = ba l := chars_inj h
theorem ba_size (l : List UInt8) : (ba l).size = l.length := join_size l
theorem uniqP (P : UInt8 → Prop) : ∀ (x y A B : List UInt8), (∀ u ∈ x, ¬ P u) → (∀ u ∈ y, ¬ P u) → (A = [] ∨ ∃ u C, A = u :: C ∧ P u) → (B = [] ∨ ∃ u C, B = u :: C ∧ P u) → x ++ A = y ++ B → x = y ∧ A = B
  | [], [], A, B, _, _, _, _, h => ⟨rfl, h⟩
  | [], b :: y, A, B, _, hy, hA, _, h => by
    rcases hA with rfl | ⟨u, C, rfl, hu⟩
    · cases h
    · rw [List.nil_append, List.cons_append, List.cons.injEq] at h
      exact absurd (h.1 ▸ hu) (hy b (List.mem_cons_self ..))
  | a :: x, [], A, B, hx, _, _, hB, h => by
    rcases hB with rfl | ⟨u, C, rfl, hu⟩
    · cases h
    · rw [List.nil_append, List.cons_append, List.cons.injEq] at h
      exact absurd (h.1 ▸ hu) (hx a (List.mem_cons_self ..))
  | a :: x, b :: y, A, B, hx, hy, hA, hB, h => by
    rw [List.cons_append, List.cons_append, List.cons.injEq] at h
    obtain ⟨e1, e2⟩ := uniqP P x y A B (fun u m => hx u (List.mem_cons_of_mem _ m)) (fun u m => hy u (List.mem_cons_of_mem _ m)) hA hB h.2
    exact ⟨by rw [h.1, e1], e2⟩
theorem spanP (P : UInt8 → Prop) [DecidablePred P] : ∀ l : List UInt8, ∃ x A, l = x ++ A ∧ (∀ u ∈ x, ¬ P u) ∧ (A = [] ∨ ∃ u C, A = u :: C ∧ P u)
  | [] => ⟨[], [], rfl, fun u h => (by cases h), Or.inl rfl⟩
  | a :: l => by
    by_cases h : P a
    · exact ⟨[], a :: l, rfl, fun u h => (by cases h), Or.inr ⟨a, l, rfl, h⟩⟩
    · obtain ⟨x, A, e, hx, hA⟩ := spanP P l
      refine ⟨a :: x, A, by rw [e]; rfl, fun u m => ?_, hA⟩
      rcases List.mem_cons.1 m with m | m
      · exact m ▸ h
      · exact hx u m
theorem until_ev (c1 c2 : UInt8) (x A : List UInt8) (hx : ∀ u ∈ x, ¬ (u = c1 ∨ u = c2)) (hA : A = [] ∨ ∃ u C, A = u :: C ∧ (u = c1 ∨ u = c2)) (hs : (x ++ A).length ≤ 100) :
    Ev (fun k => changeforgeref5_until.f k (ba (x ++ A)) (c1.toNat : Int) (c2.toNat : Int)) (ba x, ba A) := by
  have hz := ba_size (x ++ A)
  have hlen : (x ++ A).length = x.length + A.length := List.length_append
  have e1 : (ba (x ++ A)).extract 0 x.length = ba x := chars_inj (by rw [Lib.extract_from_zero, ba_list, ba_list, List.take_left])
  have e2 : (ba (x ++ A)).extract x.length (ba (x ++ A)).size = ba A := chars_inj (by rw [Lib.extract_to_end, ba_list, ba_list, List.drop_left])
  have loop : ∀ (d i : Nat), i + d = x.length → Ev (fun k => changeforgeref5_until.l0 k (ba (x ++ A)) (c1.toNat : Int) (c2.toNat : Int) i) (ba x, ba A) := by
    intro d
    induction d with
    | zero =>
      intro i hi
      obtain rfl : i = x.length := by omega
      refine Ev.step (f := fun _ => some (ba x, ba A)) (fun k => ?_) (Ev.now _)
      simp only [changeforgeref5_until.l0]
      rcases hA with rfl | ⟨u, C, rfl, hu⟩
      · rw [if_neg (by rw [hz]; simp), if_pos (by omega), if_pos (by rw [hz]; simp), Int.toNat_natCast, e1, e2]
      · have hl : x.length < (ba (x ++ u :: C)).data.toList.length := by rw [ba_list]; simp
        have hb := bt_eq (ba (x ++ u :: C)) x.length hl
        have hu' : (ba (x ++ u :: C)).data.toList[x.length] = u := by
          simp only [ba_list, List.getElem_append_right (Nat.le_refl _), Nat.sub_self, List.getElem_cons_zero]
        rw [hu'] at hb
        rw [chars_len] at hl
        rw [if_pos (by omega), if_pos (by omega), hb]
        rcases hu with rfl | rfl
        · rw [if_pos rfl, if_pos (by omega), Int.toNat_natCast, e1, e2]
        · split
          · rw [if_pos (by omega), Int.toNat_natCast, e1, e2]
          · rw [if_pos rfl, if_pos (by omega), Int.toNat_natCast, e1, e2]
    | succ d ih =>
      intro i hi
      have hl : i < (ba (x ++ A)).data.toList.length := by rw [ba_list]; omega
      have hb := bt_eq (ba (x ++ A)) i hl
      have hu' : (ba (x ++ A)).data.toList[i] = x[i]'(by omega) := by
        simp only [ba_list]
        exact List.getElem_append_left (by omega)
      rw [hu'] at hb
      have hn := hx (x[i]'(by omega)) (List.getElem_mem _)
      rw [chars_len] at hl
      refine Ev.step (fun k => ?_) (ih (i + 1) (by omega))
      simp only [changeforgeref5_until.l0]
      rw [if_pos (by omega), if_pos (by omega), hb, if_neg (fun e => hn (Or.inl (UInt8.toNat_inj.1 (by omega)))), if_neg (fun e => hn (Or.inr (UInt8.toNat_inj.1 (by omega)))), wrS (by omega) (by omega)]
      rfl
  exact loop x.length 0 (by omega)
def fin (a b c : Int) (p : List ByteArray) : Int × Int × Int × List ByteArray × Bool := if (verFault a b c p).1 = 0 then (a, b, c, p, true) else (0, 0, 0, [], false)
theorem ids_loop (a b c : Int) : ∀ (xs : List (List UInt8)) (acc : List ByteArray) (R : List UInt8), (∀ x ∈ xs, (46 : UInt8) ∉ x) → R.length ≤ 90 → acc.length + xs.length ≤ 200 → (xs = [] ∧ R = [] ∨ ∃ e x r, xs = x :: r ∧ R = e :: (x ++ tailJ 46 r)) →
    Ev (fun k => changeforgeref5_VersionOf.l0 k (ba R) a b c acc) (fin a b c (acc ++ xs.map ba)) := by
  intro xs
  induction xs with
  | nil =>
    intro acc R _ _ _ h
    obtain rfl : R = [] := by
      rcases h with ⟨_, e⟩ | ⟨_, _, _, e, _⟩
      · exact e
      · cases e
    rw [List.map_nil, List.append_nil]
    refine Ev.step (f := fun k => (changeforgeref5_VersionFault.f k a b c acc).bind fun bt117 => (if bt117.1 = 0 then (some (a, b, c, acc, true)) else (some (0, 0, 0, [], false)))) (fun k => by
      simp only [changeforgeref5_VersionOf.l0]
      rw [if_pos (by rw [chars_eq])]) ?_
    refine ev_bind (rFault a b c acc) ?_
    unfold fin
    split
    · exact Ev.now _
    · exact Ev.now _
  | cons x r ih =>
    intro acc R hx hR hacc h
    obtain ⟨e, rfl⟩ : ∃ e, R = e :: (x ++ tailJ 46 r) := by
      rcases h with ⟨e, _⟩ | ⟨e, x', r', e1, e2⟩
      · cases e
      · cases e1
        exact ⟨e, e2⟩
    have hl : (x ++ tailJ 46 r).length ≤ 89 := by simp only [List.length_cons] at hR; omega
    have hz := ba_size (e :: (x ++ tailJ 46 r))
    have he : (ba (e :: (x ++ tailJ 46 r))).extract 1 (ba (e :: (x ++ tailJ 46 r))).size = ba (x ++ tailJ 46 r) := chars_inj (by rw [Lib.extract_to_end, ba_list, ba_list]; rfl)
    refine Ev.step (f := fun k => (changeforgeref5_until.f k (ba (x ++ tailJ 46 r)) 46 46).bind fun bt112 => changeforgeref5_VersionOf.l0 k bt112.2 a b c (acc ++ [bt112.1])) (fun k => by
      simp only [changeforgeref5_VersionOf.l0]
      simp only [List.length_cons] at hacc
      rw [if_neg (by rw [chars_eq, ba_list]; simp), if_pos (by rw [hz]; simp only [List.length_cons]; omega), he]
      simp only [if_pos (show acc.length < 8796093022208 from by omega)]) ?_
    refine ev_bind (until_ev 46 46 x (tailJ 46 r) (fun u m hu => hx x (List.mem_cons_self ..) (by rcases hu with e | e <;> exact e ▸ m)) ?_ (by omega)) ?_
    · cases r with
      | nil => exact Or.inl rfl
      | cons y r => exact Or.inr ⟨46, y ++ tailJ 46 r, rfl, Or.inl rfl⟩
    · have := ih (acc ++ [ba x]) (tailJ 46 r) (fun y m => hx y (List.mem_cons_of_mem _ m)) (by simp only [List.length_append] at hl; omega) (by simp only [List.length_append, List.length_cons, List.length_nil] at hacc ⊢; omega) (by
        cases r with
        | nil => exact Or.inl ⟨rfl, rfl⟩
        | cons y r => exact Or.inr ⟨46, y, r, rfl, rfl⟩)
      rw [List.append_assoc] at this
      exact this
def isText (l : List UInt8) : Prop := ∃ a b c p, okV a b c p ∧ l = textL a b c p
theorem text_form (a b c : Int) (p : List ByteArray) : textL a b c p = Lib.decDigits a.toNat ++ 46 :: (Lib.decDigits b.toNat ++ 46 :: (Lib.decDigits c.toNat ++ (if p.length = 0 then [] else 45 :: joinL [46] (chs p)))) := by
  unfold textL coreL
  rw [joinL_cons]
  simp only [tailJ, List.append_assoc, List.append_nil, List.cons_append, List.nil_append]
theorem dec_not46 (n : Nat) : ∀ u ∈ Lib.decDigits n, ¬ (u = 46 ∨ u = 46) := fun u m h => by
  rcases h with rfl | rfl <;> exact dig_free (dec_facts n).1 46 (by decide) m
theorem dec_notboth (n : Nat) : ∀ u ∈ Lib.decDigits n, ¬ (u = 45 ∨ u = 46) := fun u m h => by
  rcases h with rfl | rfl
  · exact dig_free (dec_facts n).1 45 (by decide) m
  · exact dig_free (dec_facts n).1 46 (by decide) m
theorem fin_good {n1 n2 n3 : Int} {ids : List ByteArray} {u1 u2 u3 T l : List UInt8} (h1 : n1 = refNum (ba u1)) (h2 : n2 = refNum (ba u2)) (h3 : n3 = refNum (ba u3)) (hT : T = (if ids.length = 0 then [] else 45 :: joinL [46] (chs ids))) (hl : l = u1 ++ 46 :: (u2 ++ 46 :: (u3 ++ T)))
    (hno : ∀ a b c p, okV a b c p → l = textL a b c p → u1 = Lib.decDigits a.toNat ∧ u2 = Lib.decDigits b.toNat ∧ u3 = Lib.decDigits c.toNat ∧ ids = p) :
    (∃ a b c p, fin n1 n2 n3 ids = (a, b, c, p, true) ∧ okV a b c p ∧ l = textL a b c p) ∨ (fin n1 n2 n3 ids = (0, 0, 0, [], false) ∧ ¬ isText l) := by
  unfold fin
  by_cases hf : (verFault n1 n2 n3 ids).1 = 0
  · rw [if_pos hf]
    have ho := ok_of hf
    refine Or.inl ⟨n1, n2, n3, ids, rfl, ho, ?_⟩
    have g1 := refNum_inv (s := ba u1) (by rw [← h1]; exact ho.1.1)
    have g2 := refNum_inv (s := ba u2) (by rw [← h2]; exact ho.2.1.1)
    have g3 := refNum_inv (s := ba u3) (by rw [← h3]; exact ho.2.2.1.1)
    rw [← h1] at g1
    rw [← h2] at g2
    rw [← h3] at g3
    have k1 : u1 = Lib.decDigits n1.toNat := congrArg (·.data.toList) g1
    have k2 : u2 = Lib.decDigits n2.toNat := congrArg (·.data.toList) g2
    have k3 : u3 = Lib.decDigits n3.toNat := congrArg (·.data.toList) g3
    rw [text_form, hl, hT, k1, k2, k3]
  · rw [if_neg hf]
    refine Or.inr ⟨rfl, ?_⟩
    rintro ⟨a, b, c, p, ho, ht⟩
    obtain ⟨k1, k2, k3, k4⟩ := hno a b c p ho ht
    refine hf ?_
    have r1 : n1 = a := by rw [h1, k1]; exact refNum_dec ho.1.1 ho.1.2
    have r2 : n2 = b := by rw [h2, k2]; exact refNum_dec ho.2.1.1 ho.2.1.2
    have r3 : n3 = c := by rw [h3, k3]; exact refNum_dec ho.2.2.1.1 ho.2.2.1.2
    rw [r1, r2, r3, k4, of_ok ho]
theorem rVersionOf (s : ByteArray) (hz : s.size ≤ 80) :
    ∃ r, Ev (fun k => changeforgeref5_VersionOf.f k s) r ∧ ((∃ a b c p, r = (a, b, c, p, true) ∧ okV a b c p ∧ s.data.toList = textL a b c p) ∨ (r = (0, 0, 0, [], false) ∧ ¬ isText s.data.toList)) := by
  obtain ⟨l, rfl⟩ : ∃ l, s = ba l := ⟨_, ba_self rfl⟩
  rw [ba_size] at hz
  simp only [ba_list]
  have head : ∀ {d : Nat} {T : List UInt8}, (Lib.decDigits d ++ 46 :: T = [] ++ ([] : List UInt8) → False) := fun h => by simp at h
  obtain ⟨u1, A1, rfl, hu1, hA1⟩ := spanP (fun u : UInt8 => u = 46 ∨ u = 46) l
  have v1 := until_ev 46 46 u1 A1 hu1 hA1 (by omega)
  change Ev (fun k => changeforgeref5_until.f k (ba (u1 ++ A1)) 46 46) (ba u1, ba A1) at v1
  -- what a text would be
  have no1 : ∀ a b c p, u1 ++ A1 = textL a b c p → u1 = Lib.decDigits a.toNat ∧ A1 = 46 :: (Lib.decDigits b.toNat ++ 46 :: (Lib.decDigits c.toNat ++ (if p.length = 0 then [] else 45 :: joinL [46] (chs p)))) := fun a b c p h => by
    rw [text_form] at h
    exact uniqP (fun u : UInt8 => u = 46 ∨ u = 46) _ _ _ _ hu1 (dec_not46 _) hA1 (Or.inr ⟨46, _, rfl, Or.inl rfl⟩) h
  rcases hA1 with rfl | ⟨d1, m1, rfl, hd1⟩
  · refine ⟨(0, 0, 0, [], false), ?_, Or.inr ⟨rfl, ?_⟩⟩
    · unfold changeforgeref5_VersionOf.f
      refine ev_bind v1 ?_
      simp only [if_pos (show (ba []).toList = [] from by rw [chars_eq])]
      exact Ev.now _
    · rintro ⟨a, b, c, p, ho, ht⟩
      cases (no1 a b c p ht).2
  obtain rfl : d1 = 46 := by rcases hd1 with e | e <;> exact e
  have x1 : (ba (46 :: m1)).extract 1 (ba (46 :: m1)).size = ba m1 := chars_inj (by rw [Lib.extract_to_end, ba_list, ba_list]; rfl)
  have z1 := ba_size (46 :: m1)
  have n1 : ¬ (ba (46 :: m1)).toList = [] := by rw [chars_eq, ba_list]; simp
  simp only [List.length_append, List.length_cons] at hz z1
  obtain ⟨u2, A2, rfl, hu2, hA2⟩ := spanP (fun u : UInt8 => u = 46 ∨ u = 46) m1
  simp only [List.length_append] at hz z1
  have v2 := until_ev 46 46 u2 A2 hu2 hA2 (by simp only [List.length_append]; omega)
  change Ev (fun k => changeforgeref5_until.f k (ba (u2 ++ A2)) 46 46) (ba u2, ba A2) at v2
  have no2 : ∀ a b c p, u1 ++ 46 :: (u2 ++ A2) = textL a b c p → u1 = Lib.decDigits a.toNat ∧ u2 = Lib.decDigits b.toNat ∧ A2 = 46 :: (Lib.decDigits c.toNat ++ (if p.length = 0 then [] else 45 :: joinL [46] (chs p))) := fun a b c p h => by
    obtain ⟨e1, e2⟩ := no1 a b c p h
    exact ⟨e1, uniqP (fun u : UInt8 => u = 46 ∨ u = 46) _ _ _ _ hu2 (dec_not46 _) hA2 (Or.inr ⟨46, _, rfl, Or.inl rfl⟩) (List.cons.inj e2).2⟩
  rcases hA2 with rfl | ⟨d2, m2, rfl, hd2⟩
  · refine ⟨(0, 0, 0, [], false), ?_, Or.inr ⟨rfl, ?_⟩⟩
    · unfold changeforgeref5_VersionOf.f
      refine ev_bind v1 ?_
      simp only [if_neg n1, x1, if_pos (show 1 ≤ ((ba (46 :: (u2 ++ []))).size : Int) from by rw [ba_size]; simp only [List.length_cons]; omega)]
      refine ev_bind v2 ?_
      simp only [if_pos (show (ba []).toList = [] from by rw [chars_eq])]
      exact Ev.now _
    · rintro ⟨a, b, c, p, ho, ht⟩
      cases (no2 a b c p ht).2.2
  obtain rfl : d2 = 46 := by rcases hd2 with e | e <;> exact e
  have x2 : (ba (46 :: m2)).extract 1 (ba (46 :: m2)).size = ba m2 := chars_inj (by rw [Lib.extract_to_end, ba_list, ba_list]; rfl)
  have n2 : ¬ (ba (46 :: m2)).toList = [] := by rw [chars_eq, ba_list]; simp
  simp only [List.length_cons] at hz z1
  obtain ⟨u3, A3, rfl, hu3, hA3⟩ := spanP (fun u : UInt8 => u = 45 ∨ u = 46) m2
  simp only [List.length_append] at hz z1
  have v3 := until_ev 45 46 u3 A3 hu3 hA3 (by simp only [List.length_append]; omega)
  change Ev (fun k => changeforgeref5_until.f k (ba (u3 ++ A3)) 45 46) (ba u3, ba A3) at v3
  have no3 : ∀ a b c p, u1 ++ 46 :: (u2 ++ 46 :: (u3 ++ A3)) = textL a b c p → u1 = Lib.decDigits a.toNat ∧ u2 = Lib.decDigits b.toNat ∧ u3 = Lib.decDigits c.toNat ∧ A3 = (if p.length = 0 then [] else 45 :: joinL [46] (chs p)) := fun a b c p h => by
    obtain ⟨e1, e2, e3⟩ := no2 a b c p h
    obtain ⟨e4, e5⟩ := uniqP (fun u : UInt8 => u = 45 ∨ u = 46) _ _ _ _ hu3 (dec_notboth _) hA3 (by
      split
      · exact Or.inl rfl
      · exact Or.inr ⟨45, _, rfl, Or.inl rfl⟩) (List.cons.inj e3).2
    exact ⟨e1, e2, e4, e5⟩
  have walk : ∀ {r}, Ev (fun k => if (ba A3).toList = [] then changeforgeref5_VersionOf.j0 k (ba A3) false (refNum (ba u1)) (refNum (ba u2)) (refNum (ba u3)) else (if 0 < ((ba A3).size : Int) then changeforgeref5_VersionOf.j0 k (ba A3) ((bt (ba A3) 0) == 46) (refNum (ba u1)) (refNum (ba u2)) (refNum (ba u3)) else none)) r → Ev (fun k => changeforgeref5_VersionOf.f k (ba (u1 ++ 46 :: (u2 ++ 46 :: (u3 ++ A3))))) r := fun h => by
    unfold changeforgeref5_VersionOf.f
    refine ev_bind v1 ?_
    simp only [if_neg n1, x1, if_pos (show 1 ≤ ((ba (46 :: (u2 ++ 46 :: (u3 ++ A3)))).size : Int) from by rw [ba_size]; simp only [List.length_cons]; omega)]
    refine ev_bind v2 ?_
    simp only [if_neg n2, x2, if_pos (show 1 ≤ ((ba (46 :: (u3 ++ A3))).size : Int) from by rw [ba_size]; simp only [List.length_cons]; omega)]
    refine ev_bind v3 ?_
    refine ev_bind (rNumberOf (ba u1) (by rw [ba_size]; omega)) ?_
    refine ev_bind (rNumberOf (ba u2) (by rw [ba_size]; omega)) ?_
    refine ev_bind (rNumberOf (ba u3) (by rw [ba_size]; omega)) ?_
    exact h
  rcases hA3 with rfl | ⟨d3, m3, rfl, hd3⟩
  · refine ⟨fin (refNum (ba u1)) (refNum (ba u2)) (refNum (ba u3)) [], walk ?_, ?_⟩
    · simp only [if_pos (show (ba []).toList = [] from by rw [chars_eq])]
      refine Ev.step (fun k => by simp only [changeforgeref5_VersionOf.j0]; rw [if_neg (by decide)]) ?_
      exact ids_loop _ _ _ [] [] [] (fun x h => by cases h) (by decide) (by decide) (Or.inl ⟨rfl, rfl⟩)
    · refine fin_good rfl rfl rfl (by simp) rfl fun a b c p ho ht => ?_
      obtain ⟨e1, e2, e3, e4⟩ := no3 a b c p ht
      refine ⟨e1, e2, e3, ?_⟩
      split at e4
      · rename_i hp
        exact (List.eq_nil_of_length_eq_zero hp).symm
      · cases e4
  · have hne : ¬ (ba (d3 :: m3)).toList = [] := by rw [chars_eq, ba_list]; simp
    have hb : bt (ba (d3 :: m3)) 0 = (d3.toNat : Int) := by
      refine (bt_eq (ba (d3 :: m3)) 0 (by rw [ba_list]; simp)).trans ?_
      simp only [ba_list, List.getElem_cons_zero]
    have hp0 : 0 < ((ba (d3 :: m3)).size : Int) := by rw [ba_size]; simp
    by_cases h46 : d3 = 46
    · subst h46
      refine ⟨(0, 0, 0, [], false), walk ?_, Or.inr ⟨rfl, ?_⟩⟩
      · simp only [if_neg hne, if_pos hp0, hb, show (((46 : UInt8).toNat : Int) == 46) = true from rfl]
        exact Ev.step (f := fun _ => some _) (fun k => by simp only [changeforgeref5_VersionOf.j0]; rfl) (Ev.now _)
      · rintro ⟨a, b, c, p, ho, ht⟩
        have e4 := (no3 a b c p ht).2.2.2
        split at e4
        · cases e4
        · exact absurd (List.cons.inj e4).1 (by decide)
    · obtain rfl : d3 = 45 := by
        rcases hd3 with e | e
        · exact e
        · exact absurd e h46
      obtain ⟨q1, q2, q3⟩ := parts_facts (ba m3)
      rw [ba_list] at q2
      have q4 : ((partsB (ba m3)).map (·.data.toList)).map ba = partsB (ba m3) := by
        rw [List.map_map]
        exact List.map_id'' (fun s => rfl) _
      have q5 : 45 :: m3 = 45 :: joinL [46] ((partsB (ba m3)).map (·.data.toList)) := by rw [q2]
      have q6 : (partsB (ba m3)).length ≠ 0 := fun e => q1 (by rw [List.eq_nil_of_length_eq_zero e]; rfl)
      have q7 : (partsB (ba m3)).length ≤ 100 := by
        have := Lib.splitB_length_le ⟨#[46]⟩ 0 (Lib.countB (ba m3) ⟨#[46]⟩) (ba m3)
        have hc : Lib.countB (ba m3) ⟨#[46]⟩ ≤ m3.length := by
          show Lib.count m3 [46] ≤ _
          rw [Lib.count_one]
          exact List.count_le_length
        simp only [List.length_cons] at hz
        unfold partsB
        omega
      refine ⟨fin (refNum (ba u1)) (refNum (ba u2)) (refNum (ba u3)) (partsB (ba m3)), walk ?_, ?_⟩
      · simp only [if_neg hne, if_pos hp0, hb, show (((45 : UInt8).toNat : Int) == 46) = false from rfl]
        refine Ev.step (fun k => by simp only [changeforgeref5_VersionOf.j0]; rw [if_neg (by decide)]) ?_
        obtain ⟨x, r, hxr⟩ : ∃ x r, (partsB (ba m3)).map (·.data.toList) = x :: r := by
          cases hq : (partsB (ba m3)).map (·.data.toList) with
          | nil => exact absurd hq q1
          | cons x r => exact ⟨x, r, rfl⟩
        have L := ids_loop (refNum (ba u1)) (refNum (ba u2)) (refNum (ba u3)) ((partsB (ba m3)).map (·.data.toList)) [] (45 :: m3) q3 (by simp only [List.length_cons] at hz ⊢; omega) (by simp only [List.length_map, List.length_nil]; omega) (Or.inr ⟨45, x, r, hxr, by rw [← q2, hxr, joinL_cons]⟩)
        rw [q4, List.nil_append] at L
        exact L
      · refine fin_good rfl rfl rfl (by rw [if_neg q6]; exact q5) rfl fun a b c p ho ht => ?_
        obtain ⟨e1, e2, e3, e4⟩ := no3 a b c p ht
        refine ⟨e1, e2, e3, ?_⟩
        split at e4
        · cases e4
        · rename_i hp
          exact parts_uniq (fun e => hp (by rw [e]; rfl)) (fun y my => ident_free (ho.2.2.2.2 y my)) (List.cons.inj e4).2
end Go.Proofs.YtggdbafmpmfmcaaDoor.Pure
