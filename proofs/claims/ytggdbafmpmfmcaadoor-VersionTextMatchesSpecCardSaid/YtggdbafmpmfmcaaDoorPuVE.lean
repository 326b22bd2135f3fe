/- Plain lemmas on texts: decimal digits, splitting and joining at a byte, cutting at a byte. No condition but what each states. -/
import Derived.Test.YtggdbafmpmfmcaaDoorFf11
import Derived.Test.YtggdbafmpmfmcaaDoorFf18
import Derived.Test.YtggdbafmpmfmcaaDoorFf34
import Derived.Test.YtggdbafmpmfmcaaDoorFn0
import Derived.Test.YtggdbafmpmfmcaaDoorFs0
import Derived.Test.YtggdbafmpmfmcaaDoorPuVN
import Derived.Lib.SplitLaws
import Derived.Lib.IndexBytes
set_option linter.unusedVariables false
set_option linter.unusedSimpArgs false
namespace Go.Proofs.YtggdbafmpmfmcaaDoor.Pure
open Go Go.RowKit Go.Proofs.YtggdbafmpmfmcaaDoor.Fn Go.Proofs.YtggdbafmpmfmcaaDoorW.PrintWords Go.Proofs.YtggdbafmpmfmcaaDoorW.PrintLast Go.Proofs.YtggdbafmpmfmcaaDoorW.PrintMore
/-! digits -/
theorem dg_nat {d : Nat} (h : d < 10) : (UInt8.ofNat (48 + d)).toNat = 48 + d := by
  rw [UInt8.toNat_ofNat']
  omega
theorem natL_snoc (m : List UInt8) (c : UInt8) : natL (m ++ [c]) = natL m * 10 + (c.toNat - 48) := by
  unfold natL
  rw [List.foldl_append]
  rfl
theorem dec_facts : ∀ (n : Nat), (Lib.decDigits n).all dgB = true ∧ Lib.decDigits n ≠ [] ∧ natL (Lib.decDigits n) = n ∧ (1 ≤ n → (Lib.decDigits n).head? ≠ some 48) := by
  intro n
  induction n using Nat.strongRecOn with
  | _ n ih =>
    by_cases h : n < 10
    · have ht := dg_nat h
      rw [Lib.decDigits, dif_pos h]
      refine ⟨?_, by simp, ?_, fun h1 => ?_⟩
      · rw [List.all_cons, List.all_nil, Bool.and_true, dgB_iff]
        omega
      · unfold natL
        simp only [List.foldl_cons, List.foldl_nil, ht]
        omega
      · rw [List.head?_cons]
        intro e
        have := congrArg UInt8.toNat (Option.some.inj e)
        rw [ht] at this
        have e48 : (48 : UInt8).toNat = 48 := rfl
        omega
    · obtain ⟨i1, i2, i3, i4⟩ := ih (n / 10) (by omega)
      have ht := dg_nat (d := n % 10) (by omega)
      rw [Lib.decDigits, dif_neg h]
      refine ⟨?_, by simp, ?_, fun _ => ?_⟩
      · rw [List.all_append, i1, List.all_cons, List.all_nil, Bool.true_and, Bool.and_true, dgB_iff]
        omega
      · rw [natL_snoc, i3, ht]
        omega
      · have := i4 (by omega)
        rw [List.head?_append]
        cases hh : (Lib.decDigits (n / 10)) with
        | nil => exact absurd hh i2
        | cons x m => rw [hh] at this; simpa using this
theorem dec_num (n : Nat) : numL (Lib.decDigits n) = true := numL_iff.2 ⟨(dec_facts n).2.1, (dec_facts n).1⟩
theorem dec_can (n : Nat) : canL (Lib.decDigits n) = true := by
  unfold canL
  by_cases h : 1 ≤ n
  · rw [bne_iff_ne.2 ((dec_facts n).2.2.2 h), Bool.or_true]
  · obtain rfl : n = 0 := by omega
    rw [Lib.decDigits, dif_pos (by decide)]
    rfl
theorem natL_inj {a b : List UInt8} (na : numL a = true) (ca : canL a = true) (nb : numL b = true) (cb : canL b = true) (h : natL a = natL b) : a = b := by
  have e := num_cmp na ca nb cb
  rw [h, icmp_self] at e
  by_cases hl : a.length = b.length
  · rw [hl, icmp_self, if_neg (by simp)] at e
    exact (bcmp_tot.eq a b).1 e
  · have hne := icmp_ne (a := (a.length : Int)) (b := (b.length : Int)) (by omega)
    rw [if_pos hne] at e
    exact absurd e hne
theorem dec_natL {l : List UInt8} (hn : numL l = true) (hc : canL l = true) : Lib.decDigits (natL l) = l :=
  natL_inj (dec_num _) (dec_can _) hn hc (dec_facts _).2.2.1
theorem dec_len {n : Nat} (h : n ≤ 1000000000) : (Lib.decDigits n).length ≤ 10 := by
  refine Decidable.byContradiction fun hg => ?_
  have h1 := can_ge (dec_num n) (dec_can n) (by omega)
  rw [(dec_facts n).2.2.1] at h1
  have h2 : 10 ^ 10 ≤ 10 ^ ((Lib.decDigits n).length - 1) := Nat.pow_le_pow_right (by decide) (by omega)
  omega
/-! at one byte -/
theorem sep_uniq (c : UInt8) : ∀ (x y A B : List UInt8), c ∉ x → c ∉ y → (A = [] ∨ A.head? = some c) → (B = [] ∨ B.head? = some c) → x ++ A = y ++ B → x = y ∧ A = B
  | [], [], A, B, _, _, _, _, h => ⟨rfl, h⟩
  | [], b :: y, A, B, _, hy, hA, _, h => by
    rcases hA with rfl | hA
    · cases h
    · rw [List.nil_append] at h
      rw [h, List.cons_append, List.head?_cons] at hA
      exact absurd (Option.some.inj hA ▸ List.mem_cons_self ..) hy
  | a :: x, [], A, B, hx, _, _, hB, h => by
    rcases hB with rfl | hB
    · cases h
    · rw [List.nil_append] at h
      rw [← h, List.cons_append, List.head?_cons] at hB
      exact absurd (Option.some.inj hB ▸ List.mem_cons_self ..) hx
  | a :: x, b :: y, A, B, hx, hy, hA, hB, h => by
    rw [List.cons_append, List.cons_append, List.cons.injEq] at h
    obtain ⟨e1, e2⟩ := sep_uniq c x y A B (fun m => hx (List.mem_cons_of_mem _ m)) (fun m => hy (List.mem_cons_of_mem _ m)) hA hB h.2
    exact ⟨by rw [h.1, e1], e2⟩
def tailJ (c : UInt8) : List (List UInt8) → List UInt8
  | [] => []
  | x :: r => c :: x ++ tailJ c r
theorem tailJ_head (c : UInt8) (r : List (List UInt8)) : tailJ c r = [] ∨ (tailJ c r).head? = some c := by
  cases r with
  | nil => exact Or.inl rfl
  | cons x r => exact Or.inr rfl
theorem joinL_cons (c : UInt8) : ∀ (x : List UInt8) (r : List (List UInt8)), joinL [c] (x :: r) = x ++ tailJ c r
  | x, [] => by simp [joinL, Lib.join, tailJ, List.intercalate]
  | x, y :: r => by
    have ih := joinL_cons c y r
    unfold joinL Lib.join at ih ⊢
    rw [show [c].intercalate (x :: y :: r) = x ++ ([c] ++ [c].intercalate (y :: r)) from by simp [List.intercalate], ih]
    rfl
theorem join_uniq (c : UInt8) : ∀ (xs ys : List (List UInt8)), (∀ x ∈ xs, c ∉ x) → (∀ y ∈ ys, c ∉ y) → tailJ c xs = tailJ c ys → xs = ys
  | [], [], _, _, _ => rfl
  | [], y :: r, _, _, h => by cases h
  | x :: r, [], _, _, h => by cases h
  | x :: r, y :: s, hx, hy, h => by
    simp only [tailJ, List.cons_append, List.cons.injEq, true_and] at h
    obtain ⟨e1, e2⟩ := sep_uniq c x y (tailJ c r) (tailJ c s) (hx x (List.mem_cons_self ..)) (hy y (List.mem_cons_self ..)) (tailJ_head c r) (tailJ_head c s) h
    rw [e1, join_uniq c r s (fun z m => hx z (List.mem_cons_of_mem _ m)) (fun z m => hy z (List.mem_cons_of_mem _ m)) e2]
theorem joinL_tail {c : UInt8} {xs : List (List UInt8)} (h : xs ≠ []) : tailJ c xs = c :: joinL [c] xs := by
  cases xs with
  | nil => exact absurd rfl h
  | cons x r => rw [joinL_cons]; rfl
theorem joinL_uniq {c : UInt8} {xs ys : List (List UInt8)} (hx : xs ≠ []) (hy : ys ≠ []) (fx : ∀ x ∈ xs, c ∉ x) (fy : ∀ y ∈ ys, c ∉ y) (h : joinL [c] xs = joinL [c] ys) : xs = ys :=
  join_uniq c xs ys fx fy (by rw [joinL_tail hx, joinL_tail hy, h])
theorem at_hit {l : List UInt8} {c : UInt8} {i : Nat} (h : Lib.index l [c] = i) : l = l.take i ++ c :: l.drop (i + 1) ∧ c ∉ l.take i := by
  rw [Lib.index_one] at h
  obtain ⟨h1, h2⟩ := Lib.indexByte_some h
  have hi : i < l.length := by
    refine Decidable.byContradiction fun hn => ?_
    rw [List.getElem?_eq_none (by omega)] at h1
    cases h1
  have hc : l[i] = c := by rw [List.getElem?_eq_getElem hi] at h1; exact Option.some.inj h1
  refine ⟨?_, fun m => ?_⟩
  · rw [← hc, ← List.drop_eq_getElem_cons hi, List.take_append_drop]
  · obtain ⟨k, hk, e⟩ := List.mem_iff_getElem.1 m
    have hk' : k < i := by rw [List.length_take] at hk; omega
    refine h2 k hk' ?_
    rw [List.getElem_take] at e
    rw [List.getElem?_eq_getElem (by omega), e]
theorem at_miss {l : List UInt8} {c : UInt8} (h : Lib.index l [c] = -1) : c ∉ l := by
  rw [Lib.index_one] at h
  intro m
  obtain ⟨k, hk, e⟩ := List.mem_iff_getElem.1 m
  refine Lib.indexByte_none h k ?_
  rw [List.getElem?_eq_getElem hk, e]
theorem at_cases (l : List UInt8) (c : UInt8) : Lib.index l [c] = -1 ∨ ∃ i : Nat, Lib.index l [c] = i := by
  have := Lib.index_ge l [c]
  by_cases h : Lib.index l [c] = -1
  · exact Or.inl h
  · exact Or.inr ⟨(Lib.index l [c]).toNat, by omega⟩
theorem split_ne (c : UInt8) : ∀ (k : Nat) (s : List UInt8), Lib.splitK [c] 0 k s ≠ []
  | 0, s => by simp [Lib.splitK]
  | k + 1, s => by
    unfold Lib.splitK
    split <;> simp
theorem split_join (c : UInt8) : ∀ (k : Nat) (s : List UInt8), tailJ c (Lib.splitK [c] 0 k s) = c :: s
  | 0, s => by simp [Lib.splitK, tailJ]
  | k + 1, s => by
    unfold Lib.splitK
    rcases at_cases s c with h | ⟨i, h⟩
    · rw [if_pos (by rw [h]; rfl)]
      simp [tailJ]
    · rw [if_neg (by rw [h, beq_iff_eq]; omega), h, Int.toNat_natCast, Nat.add_zero, List.length_singleton]
      simp only [tailJ]
      rw [split_join c k, List.cons_append, ← (at_hit h).1]
theorem split_free (c : UInt8) : ∀ (k : Nat) (s : List UInt8), s.count c ≤ k → ∀ x ∈ Lib.splitK [c] 0 k s, c ∉ x
  | 0, s, h, x, hx => by
    simp only [Lib.splitK, List.mem_singleton] at hx
    rw [hx]
    exact List.count_eq_zero.1 (by omega)
  | k + 1, s, h, x, hx => by
    unfold Lib.splitK at hx
    rcases at_cases s c with e | ⟨i, e⟩
    · rw [if_pos (by rw [e]; rfl), List.mem_singleton] at hx
      rw [hx]
      exact at_miss e
    · rw [if_neg (by rw [e, beq_iff_eq]; omega), e, Int.toNat_natCast, Nat.add_zero, List.length_singleton] at hx
      have hh := at_hit e
      rcases List.mem_cons.1 hx with hx | hx
      · rw [hx]
        exact hh.2
      · refine split_free c k _ ?_ x hx
        have hc := congrArg (List.count c) hh.1
        rw [List.count_append, List.count_cons_self] at hc
        omega
theorem parts_facts (s : ByteArray) : (partsB s).map (·.data.toList) ≠ [] ∧ joinL [46] ((partsB s).map (·.data.toList)) = s.data.toList ∧ ∀ x ∈ (partsB s).map (·.data.toList), (46 : UInt8) ∉ x := by
  have e : (partsB s).map (·.data.toList) = Lib.splitK [46] 0 (s.data.toList.count 46) s.data.toList := by
    unfold partsB
    rw [Lib.splitB_data]
    show Lib.splitK [46] 0 (Lib.count s.data.toList [46]) s.data.toList = _
    rw [Lib.count_one]
  rw [e]
  refine ⟨split_ne _ _ _, ?_, split_free _ _ _ (Nat.le_refl _)⟩
  have h := split_join 46 (s.data.toList.count 46) s.data.toList
  rw [joinL_tail (split_ne _ _ _)] at h
  exact (List.cons.inj h).2
theorem cut_facts (s : ByteArray) : (hasB s = true ∧ s.data.toList = (coreB s).data.toList ++ 45 :: (tailB s).data.toList ∧ (45 : UInt8) ∉ (coreB s).data.toList) ∨ (hasB s = false ∧ s.data.toList = (coreB s).data.toList ∧ (45 : UInt8) ∉ (coreB s).data.toList) := by
  unfold hasB coreB tailB Lib.cut
  rcases at_cases s.data.toList 45 with h | ⟨i, h⟩
  · rw [if_neg (by rw [h]; decide)]
    exact Or.inr ⟨rfl, rfl, at_miss h⟩
  · rw [if_pos (by rw [h]; omega), h, Int.toNat_natCast, List.length_singleton]
    exact Or.inl ⟨rfl, (at_hit h).1, (at_hit h).2⟩
theorem parts_uniq {s : ByteArray} {ys : List ByteArray} (hy : ys ≠ []) (fy : ∀ y ∈ ys, (46 : UInt8) ∉ y.data.toList) (h : s.data.toList = joinL [46] (ys.map (·.data.toList))) : partsB s = ys := by
  obtain ⟨h1, h2, h3⟩ := parts_facts s
  have := joinL_uniq h1 (by simpa using hy) h3 (by
    intro y my
    obtain ⟨z, mz, rfl⟩ := List.mem_map.1 my
    exact fy z mz) (h2.trans h)
  exact (List.map_inj_right (fun a b e => chars_inj e)).1 this
def chs (p : List ByteArray) : List (List UInt8) := p.map (·.data.toList)
def coreL (a b c : Int) : List UInt8 := joinL [46] [Lib.decDigits a.toNat, Lib.decDigits b.toNat, Lib.decDigits c.toNat]
def textL (a b c : Int) (p : List ByteArray) : List UInt8 := coreL a b c ++ (if p.length = 0 then [] else 45 :: joinL [46] (chs p))
def coreT (a b c : Int) : ByteArray := (((decS a.toNat ++ (⟨#[46]⟩ : ByteArray)) ++ decS b.toNat) ++ (⟨#[46]⟩ : ByteArray)) ++ decS c.toNat
def textB (a b c : Int) (p : List ByteArray) : ByteArray := if p.length = 0 then coreT a b c else coreT a b c ++ ((⟨#[45]⟩ : ByteArray) ++ ⟨(joinL [46] (chs p)).toArray⟩)
theorem app_list (x y : ByteArray) : (x ++ y).data.toList = x.data.toList ++ y.data.toList := by
  rw [ByteArray.data_append, Array.toList_append]
theorem app_size (x y : ByteArray) : (x ++ y).size = x.size + y.size := by
  have := congrArg List.length (app_list x y)
  rw [List.length_append, chars_len, chars_len, chars_len] at this
  exact this
theorem dec_list (n : Nat) : (decS n).data.toList = Lib.decDigits n := rfl
theorem dec_size {n : Nat} (h : n ≤ 1000000000) : (decS n).size ≤ 10 := by
  rw [← chars_len, dec_list]
  exact dec_len h
theorem core_list (a b c : Int) : (coreT a b c).data.toList = coreL a b c := by
  unfold coreT coreL
  rw [joinL_cons]
  simp only [app_list, dec_list, tailJ, List.append_assoc, List.append_nil, List.cons_append, List.nil_append]
theorem textB_list (a b c : Int) (p : List ByteArray) : (textB a b c p).data.toList = textL a b c p := by
  unfold textB textL
  split
  · rw [core_list, List.append_nil]
  · rw [app_list, app_list, core_list]
    rfl
theorem tail_len : ∀ (p : List ByteArray), (∀ s ∈ p, identB s = true) → (tailJ 46 (chs p)).length ≤ 9 * p.length
  | [], _ => by simp [chs, tailJ]
  | s :: p, h => by
    have ih := tail_len p fun t m => h t (List.mem_cons_of_mem _ m)
    have hs := ident_facts (h s (List.mem_cons_self ..))
    have := chars_len s
    unfold chs at ih ⊢
    simp only [List.map_cons, tailJ, List.length_append, List.length_cons]
    omega
theorem join_len (p : List ByteArray) (h : ∀ s ∈ p, identB s = true) : (joinL [46] (chs p)).length ≤ 9 * p.length := by
  cases p with
  | nil => simp [chs, joinL, Lib.join]
  | cons s p =>
    have := tail_len (s :: p) h
    rw [joinL_tail (by simp [chs])] at this
    simp only [List.length_cons] at this ⊢
    omega
theorem core_size {a b c : Int} (ha : a ≤ 1000000000) (hb : b ≤ 1000000000) (hc : c ≤ 1000000000) : (coreT a b c).size ≤ 32 := by
  have h1 := dec_size (n := a.toNat) (by omega)
  have h2 := dec_size (n := b.toNat) (by omega)
  have h3 := dec_size (n := c.toNat) (by omega)
  unfold coreT
  simp only [app_size]
  have e : (⟨#[46]⟩ : ByteArray).size = 1 := rfl
  omega
theorem join_size (l : List UInt8) : (⟨l.toArray⟩ : ByteArray).size = l.length := by
  rw [← chars_len]
theorem text_size {a b c : Int} {p : List ByteArray} (h : okV a b c p) : (textB a b c p).size ≤ 80 := by
  have h1 := core_size h.1.2 h.2.1.2 h.2.2.1.2
  have h2 := join_len p h.2.2.2.2
  have h4 := h.2.2.2.1
  unfold textB
  split
  · omega
  · rw [app_size, app_size, join_size (joinL [46] (chs p))]
    have e : (⟨#[45]⟩ : ByteArray).size = 1 := rfl
    omega
theorem pText {a b c : Int} {p : List ByteArray} (h : okV a b c p) : version_text.f a b c p = some (textB a b c p) := by
  have h1 := dec_size (n := a.toNat) (by have := h.1.2; omega)
  have h2 := dec_size (n := b.toNat) (by have := h.2.1.2; omega)
  have h3 := dec_size (n := c.toNat) (by have := h.2.2.1.2; omega)
  have hj := join_len p h.2.2.2.2
  have h4 := h.2.2.2.1
  have e : (⟨#[46]⟩ : ByteArray).size = 1 := rfl
  have e' : (⟨#[45]⟩ : ByteArray).size = 1 := rfl
  unfold version_text.f strconv_Itoa.f
  rw [if_pos (show 0 ≤ a ∧ a ≤ 9223372036854775807 from ⟨h.1.1, by have := h.1.2; omega⟩), if_pos (show 0 ≤ b ∧ b ≤ 9223372036854775807 from ⟨h.2.1.1, by have := h.2.1.2; omega⟩), if_pos (show 0 ≤ c ∧ c ≤ 9223372036854775807 from ⟨h.2.2.1.1, by have := h.2.2.1.2; omega⟩)]
  simp only [Option.bind_some]
  rw [if_pos (by omega), if_pos (by rw [app_size]; omega), if_pos (by rw [app_size, app_size]; omega), if_pos (by rw [app_size, app_size, app_size]; omega)]
  unfold textB
  by_cases hp : p.length = 0
  · rw [if_neg (by omega), if_pos hp]
    rfl
  · rw [if_pos (by omega), if_neg hp]
    unfold strings_Join.f
    rw [if_pos ⟨by omega, by
      show (joinL [46] (chs p)).length ≤ _
      omega⟩]
    simp only [Option.bind_some]
    rw [if_pos (by
      show 1 + (⟨(joinL [46] (chs p)).toArray⟩ : ByteArray).size ≤ _
      rw [join_size (joinL [46] (chs p))]
      omega), if_pos (by
      show _ + ((⟨#[45]⟩ : ByteArray) ++ ⟨(joinL [46] (chs p)).toArray⟩).size ≤ _
      simp only [app_size]
      rw [join_size (joinL [46] (chs p))]
      omega)]
    rfl
theorem pFormat_ok {a b c : Int} {p : List ByteArray} (h : okV a b c p) : version_Format.f a b c p = some (textB a b c p, 0, 0) := by
  simp only [version_Format.f, version_Validate.f, of_ok h, Option.bind_some]
  rw [if_neg (by decide), pText h]
  rfl
theorem pFormat_bad {a b c : Int} {p : List ByteArray} (h : (verFault a b c p).1 ≠ 0) : version_Format.f a b c p = some (⟨#[]⟩, verFault a b c p) := by
  simp only [version_Format.f, version_Validate.f, Option.bind_some]
  rw [if_pos (by simp [h])]
/-! Parse -/
theorem num_ok {a : Int} (h0 : 0 ≤ a) (h1 : a ≤ 1000000000) : numOf (decS a.toNat) = (a, true) := by
  have hs := dec_size (n := a.toNat) (by omega)
  unfold numOf
  rw [dec_list, if_pos ⟨dec_num _, dec_can _, hs⟩, (dec_facts _).2.2.1, show ((a.toNat : Nat) : Int) = a from by omega, decide_eq_true h1]
theorem num_inv {s : ByteArray} (h : (numOf s).2 = true) : s = decS (numOf s).1.toNat ∧ 0 ≤ (numOf s).1 ∧ (numOf s).1 ≤ 1000000000 := by
  unfold numOf at h ⊢
  split at h
  · rename_i hc
    rw [if_pos hc]
    refine ⟨chars_inj ?_, by simp, by simpa using h⟩
    rw [dec_list, Int.toNat_natCast, dec_natL hc.1 hc.2.1]
  · cases h
theorem dig_free {l : List UInt8} (h : l.all dgB = true) (c : UInt8) (hc : dgB c = false) : c ∉ l := fun m => by
  have := List.all_eq_true.1 h c m
  rw [hc] at this
  cases this
theorem core_free (a b c : Int) : (45 : UInt8) ∉ coreL a b c := by
  unfold coreL
  rw [joinL_cons]
  have h : ∀ n : Nat, (45 : UInt8) ∉ Lib.decDigits n := fun n => dig_free (dec_facts n).1 45 (by decide)
  simp only [tailJ, List.append_nil, List.mem_append, List.mem_cons, List.cons_append]
  intro m
  rcases m with m | m
  · exact h _ m
  · rcases m with m | m
    · exact absurd m (by decide)
    · rcases m with m | m
      · exact h _ m
      · rcases m with m | m
        · exact absurd m (by decide)
        · exact h _ m
theorem ident_free {s : ByteArray} (h : identB s = true) : (46 : UInt8) ∉ s.data.toList := fun m => by
  unfold identB identL at h
  simp only [Bool.and_eq_true] at h
  have := List.all_eq_true.1 h.1.2 46 m
  exact absurd this (by decide)
theorem verParse_ok {a b c : Int} {p : List ByteArray} {s : ByteArray} (h : okV a b c p) (hs : s.data.toList = textL a b c p) : verParse s = (a, b, c, p, 0, 0) := by
  obtain rfl : s = textB a b c p := chars_inj (hs.trans (textB_list a b c p).symm)
  have hz := text_size h
  have hcut : coreB (textB a b c p) = coreT a b c ∧ (if hasB (textB a b c p) = true then partsB (tailB (textB a b c p)) else []) = p := by
    rcases cut_facts (textB a b c p) with ⟨k1, k2, k3⟩ | ⟨k1, k2, k3⟩
    · rw [hs] at k2
      unfold textL at k2
      by_cases hp : p.length = 0
      · exfalso
        rw [if_pos hp, List.append_nil] at k2
        refine core_free a b c ?_
        rw [k2]
        simp
      · rw [if_neg hp] at k2
        obtain ⟨e1, e2⟩ := sep_uniq 45 _ _ _ _ (core_free a b c) k3 (Or.inr rfl) (Or.inr rfl) k2
        refine ⟨chars_inj (by rw [core_list]; exact e1.symm), ?_⟩
        rw [if_pos k1]
        exact parts_uniq (by intro e; rw [e] at hp; exact hp rfl) (fun y my => ident_free (h.2.2.2.2 y my)) (List.cons.inj e2).2.symm
    · rw [hs] at k2
      unfold textL at k2
      by_cases hp : p.length = 0
      · rw [if_pos hp, List.append_nil] at k2
        refine ⟨chars_inj (by rw [core_list]; exact k2.symm), ?_⟩
        rw [if_neg (by rw [k1]; decide)]
        exact (List.eq_nil_of_length_eq_zero hp).symm
      · exfalso
        rw [if_neg hp] at k2
        refine k3 ?_
        rw [← k2]
        simp
  have hparts : partsB (coreT a b c) = [decS a.toNat, decS b.toNat, decS c.toNat] := by
    refine parts_uniq (by simp) (fun y my => ?_) (core_list a b c)
    have hf : ∀ n : Nat, (46 : UInt8) ∉ (decS n).data.toList := fun n => dig_free (dec_facts n).1 46 (by decide)
    simp only [List.mem_cons, List.not_mem_nil, or_false] at my
    rcases my with rfl | rfl | rfl <;> exact hf _
  unfold verParse
  rw [if_neg (by omega), hcut.1, hparts]
  simp only [hcut.2]
  unfold parse3
  rw [num_ok h.1.1 h.1.2, num_ok h.2.1.1 h.2.1.2, num_ok h.2.2.1.1 h.2.2.1.2]
  simp only [and_self, if_true, of_ok h]
theorem verParse_inv (s : ByteArray) : (∃ a b c p, verParse s = (a, b, c, p, 0, 0) ∧ okV a b c p ∧ s.data.toList = textL a b c p) ∨ verParse s = (if 80 < s.size then (0, 0, 0, [], 2, -1) else badV) := by
  unfold verParse
  by_cases hz : 80 < s.size
  · rw [if_pos hz, if_pos hz]
    exact Or.inr rfl
  · rw [if_neg hz, if_neg hz]
    obtain ⟨f1, f2, f3⟩ := parts_facts (coreB s)
    split
    · rename_i x y z hxyz
      unfold parse3
      by_cases hn : (numOf x).2 = true ∧ (numOf y).2 = true ∧ (numOf z).2 = true
      · rw [if_pos hn]
        by_cases hv : verFault (numOf x).1 (numOf y).1 (numOf z).1 (if hasB s = true then partsB (tailB s) else []) = (0, 0)
        · rw [if_pos hv]
          refine Or.inl ⟨_, _, _, _, rfl, ok_of (by rw [hv]), ?_⟩
          have hx := num_inv hn.1
          have hy := num_inv hn.2.1
          have hw := num_inv hn.2.2
          have hc : coreL (numOf x).1 (numOf y).1 (numOf z).1 = (coreB s).data.toList := by
            rw [← f2, hxyz]
            unfold coreL
            show joinL [46] [_, _, _] = joinL [46] [_, _, _]
            rw [← dec_list, ← dec_list, ← dec_list, ← hx.1, ← hy.1, ← hw.1]
          unfold textL
          rw [hc]
          rcases cut_facts s with ⟨k1, k2, k3⟩ | ⟨k1, k2, k3⟩
          · obtain ⟨g1, g2, g3⟩ := parts_facts (tailB s)
            rw [if_pos k1, if_neg (fun e => g1 (by rw [List.eq_nil_of_length_eq_zero e]; rfl))]
            unfold chs
            rw [g2]
            exact k2
          · simp only [k1, Bool.false_eq_true, if_false, List.length_nil, if_true, List.append_nil]
            exact k2
        · rw [if_neg hv]
          exact Or.inr rfl
      · rw [if_neg hn]
        exact Or.inr rfl
    · exact Or.inr rfl
end Go.Proofs.YtggdbafmpmfmcaaDoor.Pure
