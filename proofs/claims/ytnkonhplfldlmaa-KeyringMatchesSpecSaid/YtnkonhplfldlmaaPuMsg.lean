/- Plain lemmas: lists of digests and their messages, equality of lists. No condition but what each states. -/
import Derived.Test.YtnkonhplfldlmaaFf31
import Derived.Test.YtnkonhplfldlmaaFn0
import Derived.Test.YtnkonhplfldlmaaFs0
import Derived.Test.YtnkonhplfldlmaaPuBase
import Derived.Lib.Bytes
set_option linter.unusedVariables false
namespace Go.Proofs.Ytnkonhplfldlmaa.Pure
open Go.RowKit Go.Proofs.Ytnkonhplfldlmaa.Fn Go.Proofs.YtnkonhplfldlmaaW.PrintWords Go.Proofs.YtnkonhplfldlmaaW.PrintLast Go.Proofs.YtnkonhplfldlmaaW.PrintMore

/-- The first number that is no digest. -/
def digFault : Int → List Int → Int × Int
  | _, [] => (0, 0)
  | i, x :: xs => if isDig x = true then digFault (i + 1) xs else (3, i)
def allDig (l : List Int) : Prop := ∀ x ∈ l, isDig x = true
theorem digFault_ok : ∀ (l : List Int) (i : Int), allDig l → digFault i l = (0, 0)
  | [], _, _ => rfl
  | x :: xs, i, h => by
    unfold digFault
    rw [if_pos (h x List.mem_cons_self)]
    exact digFault_ok xs _ (fun y hy => h y (List.mem_cons_of_mem _ hy))
theorem digFault_zero : ∀ (l : List Int) (i : Int), (digFault i l).1 = 0 → allDig l
  | [], _, _ => fun x hx => by simp at hx
  | x :: xs, i, h => by
    unfold digFault at h
    by_cases hx : isDig x = true
    · rw [if_pos hx] at h
      intro y hy
      rcases List.mem_cons.1 hy with rfl | hy
      · exact hx
      · exact digFault_zero xs _ h y hy
    · rw [if_neg hx] at h
      exact absurd h (by simp)
theorem digFault_cases (l : List Int) (i : Int) : digFault i l = (0, 0) ∨ (digFault i l).1 = 3 := by
  induction l generalizing i with
  | nil => exact .inl rfl
  | cons x xs ih =>
    unfold digFault
    split
    · exact ih _
    · exact .inr rfl
theorem digFault_shift : ∀ (l : List Int) (i j : Int), (digFault i l).1 = 3 → digFault j l = (3, (digFault i l).2 - i + j)
  | [], i, j, h => by simp [digFault] at h
  | x :: xs, i, j, h => by
    unfold digFault at h ⊢
    split
    · rename_i hx
      rw [if_pos hx] at h
      rw [digFault_shift xs (i + 1) (j + 1) h]
      congr 1
      omega
    · congr 1
      omega
def byte8 (n : Int) : List Int := [n / 72057594037927936 % 256, n / 281474976710656 % 256, n / 1099511627776 % 256, n / 4294967296 % 256, n / 16777216 % 256, n / 65536 % 256, n / 256 % 256, n % 256]
def msg (l : List Int) : List Int := l.flatMap byte8
def msgFault (l : List Int) : Int × Int := if (l.length : Int) ≤ 64 then digFault 0 l else (2, -1)
def msgRes (l : List Int) : List Int × Int × Int := if (msgFault l).1 = 0 then (msg l, 0, 0) else ([], (msgFault l).1, (msgFault l).2)
theorem byte8_length (n : Int) : (byte8 n).length = 8 := rfl
theorem byte8_byte (n : Int) : isByte (byte8 n) := by
  intro x hx
  simp only [byte8, List.mem_cons, List.not_mem_nil, or_false] at hx
  omega
theorem msg_byte (l : List Int) : isByte (msg l) := by
  intro x hx
  obtain ⟨n, _, hx⟩ := List.mem_flatMap.1 hx
  exact byte8_byte n x hx
theorem msg_length (l : List Int) : (msg l).length = 8 * l.length := by
  induction l with
  | nil => rfl
  | cons x xs ih =>
    show (byte8 x ++ msg xs).length = _
    rw [List.length_append, ih, byte8_length, List.length_cons]
    omega
theorem byte8_inj {a b : Int} (ha : isDig a = true) (hb : isDig b = true) (h : byte8 a = byte8 b) : a = b := by
  rw [isDig_iff] at ha hb
  simp only [byte8, List.cons.injEq, and_true] at h
  omega
theorem msg_inj : ∀ {a b : List Int}, allDig a → allDig b → msg a = msg b → a = b
  | [], [], _, _, _ => rfl
  | [], y :: ys, _, _, h => by
    have := congrArg List.length h
    rw [msg_length, msg_length] at this
    simp at this
  | x :: xs, [], _, _, h => by
    have := congrArg List.length h
    rw [msg_length, msg_length] at this
    simp at this
  | x :: xs, y :: ys, ha, hb, h => by
    have h' : byte8 x ++ msg xs = byte8 y ++ msg ys := h
    obtain ⟨h1, h2⟩ := List.append_inj h' (by rw [byte8_length, byte8_length])
    rw [byte8_inj (ha x List.mem_cons_self) (hb y List.mem_cons_self) h1, msg_inj (fun z hz => ha z (List.mem_cons_of_mem _ hz)) (fun z hz => hb z (List.mem_cons_of_mem _ hz)) h2]
theorem str_inj {a b : List Int} (ha : isByte a) (hb : isByte b) : ((strOfNums a).toList == (strOfNums b).toList) = decide (a = b) := by
  rw [Bool.eq_iff_iff, beq_iff_eq, decide_eq_true_eq]
  constructor
  · intro h
    rw [Lib.strOfNums_toList, Lib.strOfNums_toList] at h
    have e : ∀ l : List Int, isByte l → (Lib.bytesOf l).map (fun c => (c.toNat : Int)) = l := by
      intro l hl
      unfold Lib.bytesOf
      rw [List.map_map]
      conv => rhs; rw [← List.map_id l]
      refine List.map_congr_left fun x hx => ?_
      have := hl x hx
      simp only [Function.comp, id]
      have hu : (UInt8.ofNat x.toNat).toNat = x.toNat := by
        rw [UInt8.toNat_ofNat']
        omega
      rw [hu]
      omega
    rw [← e a ha, ← e b hb, h]
  · rintro rfl
    rfl
theorem rInts_loop (a b : List Int) (hl : a.length = b.length) (hm : a.length ≤ 9223372036854775807) : ∀ (d i : Nat), i + d = a.length → Ev (fun k => changeforgeref5_Ints.l0 k a b i) (decide (a.drop i = b.drop i)) := by
  intro d
  induction d with
  | zero =>
    intro i hi
    refine Ev.step (f := fun _ => some true) (fun k => by simp only [changeforgeref5_Ints.l0]; rw [if_neg (by omega)]) ?_
    rw [List.drop_of_length_le (by omega), List.drop_of_length_le (by omega)]
    exact Ev.now _
  | succ d ih =>
    intro i hi
    have h1 : i < a.length := by omega
    have h2 : i < b.length := by omega
    rw [drop_cons h1, drop_cons h2]
    by_cases e : a[i] = b[i]
    · refine Ev.step (f := fun k => changeforgeref5_Ints.l0 k a b ((i + 1 : Nat) : Int)) (fun k => by simp only [changeforgeref5_Ints.l0]; rw [if_pos (by omega), if_pos (by omega), if_pos (by omega), rd_get a i h1, rd_get b i h2, if_pos e, w64 (by omega) (by omega)]; rfl) ?_
      have e2 : (a[i] :: a.drop (i + 1) = b[i] :: b.drop (i + 1)) ↔ (a.drop (i + 1) = b.drop (i + 1)) := by rw [e, List.cons.injEq]; exact ⟨fun h => h.2, fun h => ⟨rfl, h⟩⟩
      rw [decide_eq_decide.2 e2]
      exact ih (i + 1) (by omega)
    · refine Ev.step (f := fun _ => some false) (fun k => by simp only [changeforgeref5_Ints.l0]; rw [if_pos (by omega), if_pos (by omega), if_pos (by omega), rd_get a i h1, rd_get b i h2, if_neg e]) ?_
      simp only [List.cons.injEq, e, false_and, decide_false]
      exact Ev.now _
theorem rInts_ev (a b : List Int) (hm : a.length ≤ 9223372036854775807) : Ev (fun k => changeforgeref5_Ints.f k a b) (decide (a = b)) := by
  unfold changeforgeref5_Ints.f
  by_cases h : a.length = b.length
  · refine ev_if_pos (by omega) ?_
    exact rInts_loop a b h hm a.length 0 (by omega)
  · refine ev_if_neg (by omega) ?_
    rw [decide_eq_false (fun e => h (by rw [e]))]
    exact Ev.now _

/-! the program's messages -/
theorem shr56 (x : Int) : shr .i64 x 56 = x / 72057594037927936 := rfl
theorem shr48 (x : Int) : shr .i64 x 48 = x / 281474976710656 := rfl
theorem shr40 (x : Int) : shr .i64 x 40 = x / 1099511627776 := rfl
theorem shr32 (x : Int) : shr .i64 x 32 = x / 4294967296 := rfl
theorem shr24 (x : Int) : shr .i64 x 24 = x / 16777216 := rfl
theorem shr16 (x : Int) : shr .i64 x 16 = x / 65536 := rfl
theorem shr8 (x : Int) : shr .i64 x 8 = x / 256 := rfl
theorem shr0 (x : Int) : shr .i64 x 0 = x := by
  show x / 1 = x
  omega
theorem w_8 : wrap64 (56 - 8) = 48 ∧ wrap64 (48 - 8) = 40 ∧ wrap64 (40 - 8) = 32 ∧ wrap64 (32 - 8) = 24 ∧ wrap64 (24 - 8) = 16 ∧ wrap64 (16 - 8) = 8 ∧ wrap64 (8 - 8) = 0 ∧ wrap64 (0 - 8) = -8 := by unfold wrap64; decide
theorem pMsg_inner (x : Int) (acc l : List Int) (n i : Int) (hacc : acc.length ≤ 1000) {r : List Int × Int × Int} (h : Ev (fun k => signing_Message.l0 k (acc ++ byte8 x) l n (wrap64 (i + 1))) r) : Ev (fun k => signing_Message.l1 k acc x 56 l n i) r := by
  obtain ⟨w1, w2, w3, w4, w5, w6, w7, w8⟩ := w_8
  refine Ev.step (fun k => by simp only [signing_Message.l1]; rw [if_pos (by decide), if_pos (by decide), if_pos (by omega), w1, shr56]) ?_
  refine Ev.step (fun k => by simp only [signing_Message.l1]; rw [if_pos (by decide), if_pos (by decide), if_pos (by simp only [List.length_append, List.length_singleton]; omega), w2, shr48]) ?_
  refine Ev.step (fun k => by simp only [signing_Message.l1]; rw [if_pos (by decide), if_pos (by decide), if_pos (by simp only [List.length_append, List.length_singleton]; omega), w3, shr40]) ?_
  refine Ev.step (fun k => by simp only [signing_Message.l1]; rw [if_pos (by decide), if_pos (by decide), if_pos (by simp only [List.length_append, List.length_singleton]; omega), w4, shr32]) ?_
  refine Ev.step (fun k => by simp only [signing_Message.l1]; rw [if_pos (by decide), if_pos (by decide), if_pos (by simp only [List.length_append, List.length_singleton]; omega), w5, shr24]) ?_
  refine Ev.step (fun k => by simp only [signing_Message.l1]; rw [if_pos (by decide), if_pos (by decide), if_pos (by simp only [List.length_append, List.length_singleton]; omega), w6, shr16]) ?_
  refine Ev.step (fun k => by simp only [signing_Message.l1]; rw [if_pos (by decide), if_pos (by decide), if_pos (by simp only [List.length_append, List.length_singleton]; omega), w7, shr8]) ?_
  refine Ev.step (fun k => by simp only [signing_Message.l1]; rw [if_pos (by decide), if_pos (by decide), if_pos (by simp only [List.length_append, List.length_singleton]; omega), w8, shr0]) ?_
  refine Ev.step (fun k => by simp only [signing_Message.l1]; rw [if_neg (by decide)]) ?_
  simp only [List.append_assoc, List.cons_append, List.nil_append]
  exact h
theorem pMsg_loop (l : List Int) (hl : l.length ≤ 64) : ∀ (d i : Nat) (acc : List Int), i + d = l.length → acc.length = 8 * i →
    Ev (fun k => signing_Message.l0 k acc l (l.length : Int) i) (if (digFault i (l.drop i)).1 = 0 then (acc ++ msg (l.drop i), 0, 0) else ([], (digFault i (l.drop i)).1, (digFault i (l.drop i)).2)) := by
  intro d
  induction d with
  | zero =>
    intro i acc hi ha
    refine Ev.step (f := fun _ => some (acc, 0, 0)) (fun k => by simp only [signing_Message.l0]; rw [if_neg (by omega)]) ?_
    rw [List.drop_of_length_le (by omega)]
    simp only [digFault, msg, List.flatMap_nil, List.append_nil, if_true]
    exact Ev.now _
  | succ d ih =>
    intro i acc hi ha
    have h1 : i < l.length := by omega
    rw [drop_cons h1]
    by_cases hd : isDig l[i] = true
    · refine Ev.step (fun k => by simp only [signing_Message.l0]; rw [if_pos (by omega), if_pos (by omega), if_pos (by omega), rd_get l i h1, sIsDig, Option.bind_some, if_pos hd]) ?_
      refine pMsg_inner _ _ _ _ _ (by omega) ?_
      rw [w64 (by omega) (by omega)]
      have := ih (i + 1) (acc ++ byte8 l[i]) (by omega) (by rw [List.length_append, ha, byte8_length]; omega)
      simp only [digFault, if_pos hd]
      rw [List.append_assoc] at this
      exact this
    · refine Ev.step (f := fun _ => some ([], 3, (i : Int))) (fun k => by simp only [signing_Message.l0]; rw [if_pos (by omega), if_pos (by omega), if_pos (by omega), rd_get l i h1, sIsDig, Option.bind_some, if_neg hd]) ?_
      simp only [digFault, if_neg hd]
      exact Ev.now _
theorem pMsg_ev (l : List Int) : Ev (fun k => signing_Message.f k l) (msgRes l) := by
  unfold signing_Message.f msgRes msgFault
  by_cases h : (l.length : Int) ≤ 64
  · refine ev_if_neg (by omega) ?_
    simp only [if_pos h]
    have := pMsg_loop l (by omega) l.length 0 [] (by omega) rfl
    simpa using this
  · refine ev_if_pos (by omega) ?_
    simp only [if_neg h]
    exact Ev.now _

/-! the reference's messages -/
def low8 (n : Int) : List Int := [n % 256, n / 256 % 256, n / 65536 % 256, n / 16777216 % 256, n / 4294967296 % 256, n / 1099511627776 % 256, n / 281474976710656 % 256, n / 72057594037927936 % 256]
theorem msgFault_ok {l : List Int} (h : (msgFault l).1 = 0) : (l.length : Int) ≤ 64 ∧ allDig l ∧ msgFault l = (0, 0) := by
  unfold msgFault at *
  by_cases hl : (l.length : Int) ≤ 64
  · rw [if_pos hl] at *
    exact ⟨hl, digFault_zero l 0 h, digFault_ok l 0 (digFault_zero l 0 h)⟩
  · rw [if_neg hl] at h
    exact absurd h (by decide)
theorem signFault_ok {a : Int} {l : List Int} (h : (signFault a l).1 = 0) : isKey a = true ∧ (l.length : Int) ≤ 4096 ∧ signFault a l = (0, 0) := by
  unfold signFault at *
  by_cases h1 : isKey a = true
  · by_cases h2 : (l.length : Int) ≤ 4096
    · simp [h1, h2]
    · simp [h1, h2] at h
  · simp [h1] at h
end Go.Proofs.Ytnkonhplfldlmaa.Pure
