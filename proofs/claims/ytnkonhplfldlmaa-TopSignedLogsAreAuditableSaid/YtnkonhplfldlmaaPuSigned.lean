/- Plain lemmas, put together for one law out of the texts PuBase, PuMsg, PuKeys, PuThr, PuLog, PuRead, PuBits, PuCons, PuExt, PuStack, PuProofs, PuLaws, PuKernA (wip/tools/onepure.py). No condition but what each states. -/
import Derived.Test.YtnkonhplfldlmaaFf21
import Derived.Test.YtnkonhplfldlmaaFf26
import Derived.Test.YtnkonhplfldlmaaFf27
import Derived.Test.YtnkonhplfldlmaaFf28
import Derived.Test.YtnkonhplfldlmaaFf29
import Derived.Test.YtnkonhplfldlmaaFf31
import Derived.Test.YtnkonhplfldlmaaFf32
import Derived.Test.YtnkonhplfldlmaaFf33
import Derived.Test.YtnkonhplfldlmaaFf34
import Derived.Test.YtnkonhplfldlmaaFf35
import Derived.Test.YtnkonhplfldlmaaFf36
import Derived.Test.YtnkonhplfldlmaaFf37
import Derived.Test.YtnkonhplfldlmaaFf47
import Derived.Test.YtnkonhplfldlmaaFf48
import Derived.Test.YtnkonhplfldlmaaFf49
import Derived.Test.YtnkonhplfldlmaaFf51
import Derived.Test.YtnkonhplfldlmaaFf53
import Derived.Test.YtnkonhplfldlmaaFf54
import Derived.Test.YtnkonhplfldlmaaFf55
import Derived.Test.YtnkonhplfldlmaaFf56
import Derived.Test.YtnkonhplfldlmaaFf57
import Derived.Test.YtnkonhplfldlmaaFf58
import Derived.Test.YtnkonhplfldlmaaFf59
import Derived.Test.YtnkonhplfldlmaaFf61
import Derived.Test.YtnkonhplfldlmaaFf65
import Derived.Test.YtnkonhplfldlmaaFf68
import Derived.Test.YtnkonhplfldlmaaFf82
import Derived.Test.YtnkonhplfldlmaaFn0
import Derived.Test.YtnkonhplfldlmaaFs0
import Derived.Lib.Bytes
set_option linter.unusedVariables false
namespace Go.Proofs.Ytnkonhplfldlmaa.Pure
open Go Go.RowKit Go.Proofs.Ytnkonhplfldlmaa.Fn Go.Proofs.YtnkonhplfldlmaaW.PrintWords Go.Proofs.YtnkonhplfldlmaaW.PrintLast Go.Proofs.YtnkonhplfldlmaaW.PrintMore
def isKey (k : Int) : Bool := decide (1 ≤ k ∧ k ≤ 1000000000)
def isDig (d : Int) : Bool := decide (0 ≤ d ∧ d < 2305843009213693951)

theorem w64 {n : Int} (h0 : -9223372036854775808 ≤ n) (h1 : n ≤ 9223372036854775807) : wrap64 n = n := by unfold wrap64; omega
theorem rd_get (xs : List Int) (i : Nat) (h : i < xs.length) : rd xs (i : Int) = xs[i] := by
  unfold rd
  rw [List.getD_eq_getElem?_getD, Int.toNat_natCast, List.getElem?_eq_getElem h]
  rfl
theorem ev_now {α : Type} {g : Nat → Option α} {r : α} (h : ∀ k, g k = some r) : Ev g r := ⟨0, fun k _ => h k⟩
theorem ev_bind {α β : Type} {g : Nat → Option α} {f : Nat → α → Option β} {a : α} {r : β} (h : Ev g a) (k : Ev (fun n => f n a) r) : Ev (fun n => (g n).bind (f n)) r := Ev.bind h k
theorem ev_if_pos {α : Type} {c : Prop} [Decidable c] {g f : Nat → Option α} {r : α} (hc : c) (h : Ev g r) : Ev (fun k => if c then g k else f k) r := by
  simp only [if_pos hc]
  exact h
theorem ev_if_neg {α : Type} {c : Prop} [Decidable c] {g f : Nat → Option α} {r : α} (hc : ¬ c) (h : Ev f r) : Ev (fun k => if c then g k else f k) r := by
  simp only [if_neg hc]
  exact h
theorem ev_total {α : Type} {g : Nat → Option α} {r : α} (h : Ev g r) : ∃ k, g k = some r := h.rounds

theorem in_eq (a b c : Int) : changeforgeref5_in.f a b c = some (decide (b ≤ a ∧ a ≤ c)) := by
  unfold changeforgeref5_in.f
  by_cases h : a ≥ b
  · rw [if_pos h]
    congr 1
    rw [decide_eq_decide]
    omega
  · rw [if_neg h]
    congr 1
    symm
    rw [decide_eq_false_iff_not]
    omega
theorem rIsKey (a : Int) : changeforgeref5_IsKey.f a = some (isKey a) := by
  unfold changeforgeref5_IsKey.f
  rw [in_eq]
  rfl
theorem rIsDig (a : Int) : changeforgeref5_IsDigest.f a = some (isDig a) := by
  unfold changeforgeref5_IsDigest.f
  rw [in_eq]
  simp only [Option.bind_some, Option.some.injEq]
  unfold isDig
  rw [decide_eq_decide]
  omega
theorem sIsKey (a : Int) : signing_IsKey.f a = some (isKey a) := by
  unfold signing_IsKey.f
  by_cases h : a ≥ 1
  · rw [if_pos h]
    congr 1
    unfold isKey
    rw [decide_eq_decide]
    omega
  · rw [if_neg h]
    congr 1
    symm
    unfold isKey
    rw [decide_eq_false_iff_not]
    omega
theorem sIsDig (a : Int) : signing_IsDigest.f a = some (isDig a) := by
  unfold signing_IsDigest.f
  by_cases h : a ≥ 0
  · rw [if_pos h]
    congr 1
    unfold isDig
    rw [decide_eq_decide]
    omega
  · rw [if_neg h]
    congr 1
    symm
    unfold isDig
    rw [decide_eq_false_iff_not]
    omega
theorem isKey_iff (k : Int) : isKey k = true ↔ 1 ≤ k ∧ k ≤ 1000000000 := by unfold isKey; rw [decide_eq_true_eq]
theorem isDig_iff (k : Int) : isDig k = true ↔ 0 ≤ k ∧ k < 2305843009213693951 := by unfold isDig; rw [decide_eq_true_eq]
def isByte (l : List Int) : Prop := ∀ x ∈ l, 0 ≤ x ∧ x ≤ 255
def digFrom (h : Int) (l : List Int) : Int := l.foldl (fun h b => (h * 257 + b + 1) % 2305843009213693951) h
def dig (l : List Int) : Int := digFrom 1 l
def pairD (a b : Int) : Int := (a * 1000003 + b * 31 + 7) % 2305843009213693951
def sgn (key : Int) (data : List Int) : Int := pairD key (dig data)
theorem pairD_lt (a b : Int) : 0 ≤ pairD a b ∧ pairD a b < 2305843009213693951 := by unfold pairD; omega
theorem digFrom_lt (l : List Int) : ∀ h, 0 ≤ h → h < 2305843009213693951 → 0 ≤ digFrom h l ∧ digFrom h l < 2305843009213693951 := by
  induction l with
  | nil => intro h h0 h1; exact ⟨h0, h1⟩
  | cons b l ih =>
    intro h h0 h1
    exact ih _ (Int.emod_nonneg _ (by omega)) (Int.emod_lt_of_pos _ (by omega))
theorem dig_lt (l : List Int) : 0 ≤ dig l ∧ dig l < 2305843009213693951 := digFrom_lt l 1 (by omega) (by omega)
theorem sgn_lt (k : Int) (l : List Int) : 0 ≤ sgn k l ∧ sgn k l < 2305843009213693951 := pairD_lt _ _
theorem isDig_sgn (k : Int) (l : List Int) : isDig (sgn k l) = true := (isDig_iff _).2 (sgn_lt k l)
theorem isDig_pairD (a b : Int) : isDig (pairD a b) = true := (isDig_iff _).2 (pairD_lt a b)
theorem isDig_dig (l : List Int) : isDig (dig l) = true := (isDig_iff _).2 (dig_lt l)
theorem key_isDig {k : Int} (h : isKey k = true) : 0 ≤ k ∧ k < 2305843009213693951 := by rw [isKey_iff] at h; omega

theorem drop_cons {l : List Int} {i : Nat} (h : i < l.length) : l.drop i = l[i] :: l.drop (i + 1) := List.drop_eq_getElem_cons h
theorem mul_eq (a b : Int) (h0 : 0 ≤ a) (h1 : a < 2305843009213693951) (h2 : 0 ≤ b) (h3 : b ≤ 1000003) (h4 : 0 ≤ a * b) (h5 : a * b < 2305850000000000000000000) : digest_mul.f a b = some (a * b % 2305843009213693951) := digest_mul_f_eq a b h0 h1 h2 h3 h4 h5
theorem pDigest_loop (l : List Int) (hb : isByte l) (hl : l.length ≤ 140737488351232) : ∀ (d i : Nat) (h : Int), i + d = l.length → 0 ≤ h → h < 2305843009213693951 →
    Ev (fun k => digest_Of.l0 k h l (l.length : Int) i) (digFrom h (l.drop i), 0, 0) := by
  intro d
  induction d with
  | zero =>
    intro i h hi h0 h1
    refine Ev.step (f := fun _ => some (wrap64 h, 0, 0)) (fun k => by simp only [digest_Of.l0]; rw [if_neg (by omega)]) ?_
    rw [List.drop_of_length_le (by omega), w64 (by omega) (by omega)]
    exact Ev.now _
  | succ d ih =>
    intro i h hi h0 h1
    have hlt : i < l.length := by omega
    refine Ev.step (fun k => by simp only [digest_Of.l0]; rw [if_pos (by omega), if_pos (by omega), if_pos (by omega), mul_eq h 257 h0 h1 (by omega) (by omega) (by omega) (by omega), Option.bind_some]) ?_
    have hbt := hb l[i] (List.getElem_mem hlt)
    have e0 : rd l (i : Int) = l[i] := rd_get l i hlt
    have e1 : wrap64 ((i : Int) + 1) = ((i + 1 : Nat) : Int) := by rw [w64 (by omega) (by omega)]; omega
    have e2 : IntKind.u64.wrap (rd l (i : Int)) = l[i] := by rw [e0, m61_wrap]; omega
    have e3 : IntKind.u64.wrap (h * 257 % 2305843009213693951 + l[i]) = h * 257 % 2305843009213693951 + l[i] := by rw [m61_wrap]; omega
    have e4 : IntKind.u64.wrap (h * 257 % 2305843009213693951 + l[i] + 1) = h * 257 % 2305843009213693951 + l[i] + 1 := by rw [m61_wrap]; omega
    have e5 : Int.tmod (h * 257 % 2305843009213693951 + l[i] + 1) 2305843009213693951 = (h * 257 + l[i] + 1) % 2305843009213693951 := by rw [Int.tmod_eq_emod_of_nonneg (by omega)]; omega
    simp only [e2, e3, e4, e5, e1]
    rw [drop_cons hlt]
    exact ih (i + 1) _ (by omega) (by omega) (by omega)
theorem pDigest_long (l : List Int) (k : Nat) (h : ¬ (l.length : Int) ≤ 4096) : digest_Of.f k l = some (0, 2, 0) := by unfold digest_Of.f; rw [if_pos (by omega)]
theorem pDigest_ev (l : List Int) (hb : isByte l) (h : (l.length : Int) ≤ 4096) : Ev (fun k => digest_Of.f k l) (dig l, 0, 0) := by
  unfold digest_Of.f
  refine ev_if_neg (by omega) ?_
  exact pDigest_loop l hb (by omega) l.length 0 1 (by omega) (by omega) (by omega)
theorem pPair_eq (a b : Int) (ha : isDig a = true) (hb : isDig b = true) : digest_Pair.f a b = some (pairD a b, 0, 0) := by
  rw [isDig_iff] at ha hb
  unfold digest_Pair.f
  rw [if_pos ha, if_pos hb]
  rfl
/-- The fault of a signature: what the program and the reference say. -/
def signFault (key : Int) (l : List Int) : Int × Int := if isKey key = true then (if (l.length : Int) ≤ 4096 then (0, 0) else (2, 0)) else (3, -1)
theorem sign_key (a : Int) (l : List Int) (ha : ¬ isKey a = true) (k : Nat) : signing_Sign.f k a l = some (0, 3, -1) := by
  unfold signing_Sign.f
  rw [sIsKey, Option.bind_some, if_neg ha]
theorem sign_long (a : Int) (l : List Int) (ha : isKey a = true) (h : ¬ (l.length : Int) ≤ 4096) (k : Nat) : signing_Sign.f k a l = some (0, 2, 0) := by
  unfold signing_Sign.f
  rw [sIsKey, Option.bind_some, if_pos ha, pDigest_long l k h]
  rfl
theorem sign_ok (a : Int) (l : List Int) (ha : isKey a = true) (hb : isByte l) (h : (l.length : Int) ≤ 4096) : Ev (fun k => signing_Sign.f k a l) (sgn a l, 0, 0) := by
  unfold signing_Sign.f
  simp only [sIsKey, Option.bind_some, if_pos ha]
  refine ev_bind (pDigest_ev l hb h) ?_
  refine ev_if_neg (by simp) (ev_now fun k => ?_)
  rw [pPair_eq a _ ((isDig_iff a).2 (key_isDig ha)) (isDig_dig l)]
  rfl
/-- The signature of data: the program's. -/
def signRes (a : Int) (l : List Int) : Int × Int × Int := if (signFault a l).1 = 0 then (sgn a l, 0, 0) else (0, (signFault a l).1, (signFault a l).2)
theorem sign_ev (a : Int) (l : List Int) (hb : isByte l) : Ev (fun k => signing_Sign.f k a l) (signRes a l) := by
  unfold signRes signFault
  by_cases h : isKey a = true
  · by_cases h2 : (l.length : Int) ≤ 4096
    · simp only [if_pos h, if_pos h2, if_true]
      exact sign_ok a l h hb h2
    · simp only [if_pos h, if_neg h2]
      exact ev_now (sign_long a l h h2)
  · simp only [if_neg h]
    exact ev_now (sign_key a l h)
/-- The check of a signature: the program's. -/
def verifyRes (a : Int) (l : List Int) (s : Int) : Bool × Int × Int := if (signFault a l).1 = 0 then (if isDig s = true then (sgn a l == s, 0, 0) else (false, 3, -2)) else (false, (signFault a l).1, (signFault a l).2)
theorem verify_ev (a : Int) (l : List Int) (s : Int) (hb : isByte l) : Ev (fun k => signing_Verify.f k a l s) (verifyRes a l s) := by
  unfold signing_Verify.f
  refine ev_bind (sign_ev a l hb) ?_
  unfold signRes verifyRes signFault
  by_cases h : isKey a = true
  · by_cases h2 : (l.length : Int) ≤ 4096
    · simp only [if_pos h, if_pos h2, if_true]
      refine ev_if_neg (by simp) (ev_now fun k => ?_)
      rw [sIsDig, Option.bind_some]
      split <;> rfl
    · simp only [if_pos h, if_neg h2]
      exact ev_now fun k => rfl
  · simp only [if_neg h]
    exact ev_now fun k => rfl
/-- The first number that is no digest. -/
def digFault : Int → List Int → Int × Int
  | _, [] => (0, 0)
  | i, x :: xs => if isDig x = true then digFault (i + 1) xs else (3, i)
def allDig (l : List Int) : Prop := ∀ x ∈ l, isDig x = true
theorem digFault_ok : ∀ (l : List Int) (i : Int), allDig l → digFault i l = (0, 0)
  | [], _, _ => rfl
  | x :: xs, i, h => by
    unfold digFault
    rw [if_pos (h x List.mem_cons_self)]
    exact digFault_ok xs _ (fun y hy => h y (List.mem_cons_of_mem _ hy))
theorem digFault_zero : ∀ (l : List Int) (i : Int), (digFault i l).1 = 0 → allDig l
  | [], _, _ => fun x hx => by simp at hx
  | x :: xs, i, h => by
    unfold digFault at h
    by_cases hx : isDig x = true
    · rw [if_pos hx] at h
      intro y hy
      rcases List.mem_cons.1 hy with rfl | hy
      · exact hx
      · exact digFault_zero xs _ h y hy
    · rw [if_neg hx] at h
      exact absurd h (by simp)
def byte8 (n : Int) : List Int := [n / 72057594037927936 % 256, n / 281474976710656 % 256, n / 1099511627776 % 256, n / 4294967296 % 256, n / 16777216 % 256, n / 65536 % 256, n / 256 % 256, n % 256]
def msg (l : List Int) : List Int := l.flatMap byte8
def msgFault (l : List Int) : Int × Int := if (l.length : Int) ≤ 64 then digFault 0 l else (2, -1)
def msgRes (l : List Int) : List Int × Int × Int := if (msgFault l).1 = 0 then (msg l, 0, 0) else ([], (msgFault l).1, (msgFault l).2)
theorem byte8_length (n : Int) : (byte8 n).length = 8 := rfl
theorem byte8_byte (n : Int) : isByte (byte8 n) := by
  intro x hx
  simp only [byte8, List.mem_cons, List.not_mem_nil, or_false] at hx
  omega
theorem msg_byte (l : List Int) : isByte (msg l) := by
  intro x hx
  obtain ⟨n, _, hx⟩ := List.mem_flatMap.1 hx
  exact byte8_byte n x hx
theorem msg_length (l : List Int) : (msg l).length = 8 * l.length := by
  induction l with
  | nil => rfl
  | cons x xs ih =>
    show (byte8 x ++ msg xs).length = _
    rw [List.length_append, ih, byte8_length, List.length_cons]
    omega
theorem rInts_loop (a b : List Int) (hl : a.length = b.length) (hm : a.length ≤ 9223372036854775807) : ∀ (d i : Nat), i + d = a.length → Ev (fun k => changeforgeref5_Ints.l0 k a b i) (decide (a.drop i = b.drop i)) := by
  intro d
  induction d with
  | zero =>
    intro i hi
    refine Ev.step (f := fun _ => some true) (fun k => by simp only [changeforgeref5_Ints.l0]; rw [if_neg (by omega)]) ?_
    rw [List.drop_of_length_le (by omega), List.drop_of_length_le (by omega)]
    exact Ev.now _
  | succ d ih =>
    intro i hi
    have h1 : i < a.length := by omega
    have h2 : i < b.length := by omega
    rw [drop_cons h1, drop_cons h2]
    by_cases e : a[i] = b[i]
    · refine Ev.step (f := fun k => changeforgeref5_Ints.l0 k a b ((i + 1 : Nat) : Int)) (fun k => by simp only [changeforgeref5_Ints.l0]; rw [if_pos (by omega), if_pos (by omega), if_pos (by omega), rd_get a i h1, rd_get b i h2, if_pos e, w64 (by omega) (by omega)]; rfl) ?_
      have e2 : (a[i] :: a.drop (i + 1) = b[i] :: b.drop (i + 1)) ↔ (a.drop (i + 1) = b.drop (i + 1)) := by rw [e, List.cons.injEq]; exact ⟨fun h => h.2, fun h => ⟨rfl, h⟩⟩
      rw [decide_eq_decide.2 e2]
      exact ih (i + 1) (by omega)
    · refine Ev.step (f := fun _ => some false) (fun k => by simp only [changeforgeref5_Ints.l0]; rw [if_pos (by omega), if_pos (by omega), if_pos (by omega), rd_get a i h1, rd_get b i h2, if_neg e]) ?_
      simp only [List.cons.injEq, e, false_and, decide_false]
      exact Ev.now _
theorem rInts_ev (a b : List Int) (hm : a.length ≤ 9223372036854775807) : Ev (fun k => changeforgeref5_Ints.f k a b) (decide (a = b)) := by
  unfold changeforgeref5_Ints.f
  by_cases h : a.length = b.length
  · refine ev_if_pos (by omega) ?_
    exact rInts_loop a b h hm a.length 0 (by omega)
  · refine ev_if_neg (by omega) ?_
    rw [decide_eq_false (fun e => h (by rw [e]))]
    exact Ev.now _

theorem shr56 (x : Int) : shr .i64 x 56 = x / 72057594037927936 := rfl
theorem shr48 (x : Int) : shr .i64 x 48 = x / 281474976710656 := rfl
theorem shr40 (x : Int) : shr .i64 x 40 = x / 1099511627776 := rfl
theorem shr32 (x : Int) : shr .i64 x 32 = x / 4294967296 := rfl
theorem shr24 (x : Int) : shr .i64 x 24 = x / 16777216 := rfl
theorem shr16 (x : Int) : shr .i64 x 16 = x / 65536 := rfl
theorem shr8 (x : Int) : shr .i64 x 8 = x / 256 := rfl
theorem shr0 (x : Int) : shr .i64 x 0 = x := by
  show x / 1 = x
  omega
theorem w_8 : wrap64 (56 - 8) = 48 ∧ wrap64 (48 - 8) = 40 ∧ wrap64 (40 - 8) = 32 ∧ wrap64 (32 - 8) = 24 ∧ wrap64 (24 - 8) = 16 ∧ wrap64 (16 - 8) = 8 ∧ wrap64 (8 - 8) = 0 ∧ wrap64 (0 - 8) = -8 := by unfold wrap64; decide
theorem pMsg_inner (x : Int) (acc l : List Int) (n i : Int) (hacc : acc.length ≤ 1000) {r : List Int × Int × Int} (h : Ev (fun k => signing_Message.l0 k (acc ++ byte8 x) l n (wrap64 (i + 1))) r) : Ev (fun k => signing_Message.l1 k acc x 56 l n i) r := by
  obtain ⟨w1, w2, w3, w4, w5, w6, w7, w8⟩ := w_8
  refine Ev.step (fun k => by simp only [signing_Message.l1]; rw [if_pos (by decide), if_pos (by decide), if_pos (by omega), w1, shr56]) ?_
  refine Ev.step (fun k => by simp only [signing_Message.l1]; rw [if_pos (by decide), if_pos (by decide), if_pos (by simp only [List.length_append, List.length_singleton]; omega), w2, shr48]) ?_
  refine Ev.step (fun k => by simp only [signing_Message.l1]; rw [if_pos (by decide), if_pos (by decide), if_pos (by simp only [List.length_append, List.length_singleton]; omega), w3, shr40]) ?_
  refine Ev.step (fun k => by simp only [signing_Message.l1]; rw [if_pos (by decide), if_pos (by decide), if_pos (by simp only [List.length_append, List.length_singleton]; omega), w4, shr32]) ?_
  refine Ev.step (fun k => by simp only [signing_Message.l1]; rw [if_pos (by decide), if_pos (by decide), if_pos (by simp only [List.length_append, List.length_singleton]; omega), w5, shr24]) ?_
  refine Ev.step (fun k => by simp only [signing_Message.l1]; rw [if_pos (by decide), if_pos (by decide), if_pos (by simp only [List.length_append, List.length_singleton]; omega), w6, shr16]) ?_
  refine Ev.step (fun k => by simp only [signing_Message.l1]; rw [if_pos (by decide), if_pos (by decide), if_pos (by simp only [List.length_append, List.length_singleton]; omega), w7, shr8]) ?_
  refine Ev.step (fun k => by simp only [signing_Message.l1]; rw [if_pos (by decide), if_pos (by decide), if_pos (by simp only [List.length_append, List.length_singleton]; omega), w8, shr0]) ?_
  refine Ev.step (fun k => by simp only [signing_Message.l1]; rw [if_neg (by decide)]) ?_
  simp only [List.append_assoc, List.cons_append, List.nil_append]
  exact h
theorem pMsg_loop (l : List Int) (hl : l.length ≤ 64) : ∀ (d i : Nat) (acc : List Int), i + d = l.length → acc.length = 8 * i →
    Ev (fun k => signing_Message.l0 k acc l (l.length : Int) i) (if (digFault i (l.drop i)).1 = 0 then (acc ++ msg (l.drop i), 0, 0) else ([], (digFault i (l.drop i)).1, (digFault i (l.drop i)).2)) := by
  intro d
  induction d with
  | zero =>
    intro i acc hi ha
    refine Ev.step (f := fun _ => some (acc, 0, 0)) (fun k => by simp only [signing_Message.l0]; rw [if_neg (by omega)]) ?_
    rw [List.drop_of_length_le (by omega)]
    simp only [digFault, msg, List.flatMap_nil, List.append_nil, if_true]
    exact Ev.now _
  | succ d ih =>
    intro i acc hi ha
    have h1 : i < l.length := by omega
    rw [drop_cons h1]
    by_cases hd : isDig l[i] = true
    · refine Ev.step (fun k => by simp only [signing_Message.l0]; rw [if_pos (by omega), if_pos (by omega), if_pos (by omega), rd_get l i h1, sIsDig, Option.bind_some, if_pos hd]) ?_
      refine pMsg_inner _ _ _ _ _ (by omega) ?_
      rw [w64 (by omega) (by omega)]
      have := ih (i + 1) (acc ++ byte8 l[i]) (by omega) (by rw [List.length_append, ha, byte8_length]; omega)
      simp only [digFault, if_pos hd]
      rw [List.append_assoc] at this
      exact this
    · refine Ev.step (f := fun _ => some ([], 3, (i : Int))) (fun k => by simp only [signing_Message.l0]; rw [if_pos (by omega), if_pos (by omega), if_pos (by omega), rd_get l i h1, sIsDig, Option.bind_some, if_neg hd]) ?_
      simp only [digFault, if_neg hd]
      exact Ev.now _
theorem pMsg_ev (l : List Int) : Ev (fun k => signing_Message.f k l) (msgRes l) := by
  unfold signing_Message.f msgRes msgFault
  by_cases h : (l.length : Int) ≤ 64
  · refine ev_if_neg (by omega) ?_
    simp only [if_pos h]
    have := pMsg_loop l (by omega) l.length 0 [] (by omega) rfl
    simpa using this
  · refine ev_if_pos (by omega) ?_
    simp only [if_neg h]
    exact Ev.now _

theorem msgFault_ok {l : List Int} (h : (msgFault l).1 = 0) : (l.length : Int) ≤ 64 ∧ allDig l ∧ msgFault l = (0, 0) := by
  unfold msgFault at *
  by_cases hl : (l.length : Int) ≤ 64
  · rw [if_pos hl] at *
    exact ⟨hl, digFault_zero l 0 h, digFault_ok l 0 (digFault_zero l 0 h)⟩
  · rw [if_neg hl] at h
    exact absurd h (by decide)
def rises (l : List Int) : Prop := l.Pairwise (· < ·)
theorem rises_get {l : List Int} (h : rises l) {i j : Nat} (hi : i < l.length) (hj : j < l.length) (hij : i < j) : l[i] < l[j] := List.pairwise_iff_getElem.1 h i j hi hj hij
theorem rises_of {l : List Int} (h : ∀ j (hj : j + 1 < l.length), l[j] < l[j + 1]) : rises l := by
  refine List.pairwise_iff_getElem.2 fun i j hi hj hij => ?_
  obtain ⟨d, rfl⟩ : ∃ d, j = i + 1 + d := ⟨j - i - 1, by omega⟩
  induction d with
  | zero => exact h i (by omega)
  | succ d ih =>
    have h1 := ih (by omega) (by omega)
    have h2 := h (i + 1 + d) (by omega)
    exact Int.lt_trans h1 h2

/-- From place i on, d elements: the first that is no key, or not greater than the one ahead of it. -/
def kfAt (l : List Int) : Nat → Nat → Int × Int
  | 0, _ => (0, 0)
  | d + 1, i => if isKey (rd l i) = true then (if 0 < i ∧ rd l i ≤ rd l ((i - 1 : Nat) : Int) then (5, (i : Int)) else kfAt l d (i + 1)) else (3, (i : Int))
def keysFault (l : List Int) : Int × Int := if (l.length : Int) ≤ 12 then kfAt l l.length 0 else (2, -1)
theorem kfAt_zero (l : List Int) : ∀ d i, (kfAt l d i).1 = 0 → kfAt l d i = (0, 0)
  | 0, _, _ => rfl
  | d + 1, i, h => by
    unfold kfAt at h ⊢
    split
    · rename_i h1
      rw [if_pos h1] at h
      split
      · rename_i h2
        rw [if_pos h2] at h
        exact absurd h (by simp)
      · rename_i h2
        rw [if_neg h2] at h
        exact kfAt_zero l d (i + 1) h
    · rename_i h1
      rw [if_neg h1] at h
      exact absurd h (by simp)
theorem kfAt_ok (l : List Int) : ∀ d i, (kfAt l d i).1 = 0 → i + d = l.length → ∀ j, i ≤ j → j < l.length → isKey (rd l j) = true ∧ (0 < j → rd l ((j - 1 : Nat) : Int) < rd l j)
  | 0, i, _, hd, j, h1, h2 => by omega
  | d + 1, i, h, hd, j, h1, h2 => by
    unfold kfAt at h
    by_cases hk : isKey (rd l i) = true
    · rw [if_pos hk] at h
      by_cases hle : 0 < i ∧ rd l i ≤ rd l ((i - 1 : Nat) : Int)
      · rw [if_pos hle] at h
        exact absurd h (by simp)
      · rw [if_neg hle] at h
        by_cases hj : j = i
        · subst hj
          exact ⟨hk, fun h0 => by omega⟩
        · exact kfAt_ok l d (i + 1) h (by omega) j (by omega) h2
    · rw [if_neg hk] at h
      exact absurd h (by simp)
theorem keysFault_ok {l : List Int} (h : (keysFault l).1 = 0) : keysFault l = (0, 0) ∧ (l.length : Int) ≤ 12 ∧ (∀ x ∈ l, isKey x = true) ∧ rises l := by
  unfold keysFault at *
  by_cases hl : (l.length : Int) ≤ 12
  · rw [if_pos hl] at *
    have hk := kfAt_ok l l.length 0 h (by omega)
    refine ⟨kfAt_zero l _ _ h, hl, fun x hx => ?_, rises_of fun j hj => ?_⟩
    · obtain ⟨j, hj, rfl⟩ := List.mem_iff_getElem.1 hx
      have := (hk j (by omega) hj).1
      rwa [rd_get l j hj] at this
    · have := (hk (j + 1) (by omega) hj).2 (by omega)
      rw [show j + 1 - 1 = j by omega, rd_get l j (by omega)] at this
      have e : rd l ((j + 1 : Nat) : Int) = l[j + 1] := rd_get l (j + 1) hj
      rwa [e] at this
  · rw [if_neg hl] at h
    exact absurd h (by decide)
theorem pred_w {i : Nat} (h : 0 < i) (h1 : i ≤ 1000) : wrap64 ((i : Int) - 1) = ((i - 1 : Nat) : Int) := by rw [w64 (by omega) (by omega)]; omega
theorem succ_w {i : Nat} (h1 : i ≤ 140737488351232) : wrap64 ((i : Int) + 1) = ((i + 1 : Nat) : Int) := by rw [w64 (by omega) (by omega)]; omega
theorem pKeys_loop (l : List Int) (hl : l.length ≤ 12) : ∀ (d i : Nat), i + d = l.length → Ev (fun k => threshold_keysFault.l0 k l l (l.length : Int) i) (kfAt l d i) := by
  intro d
  induction d with
  | zero =>
    intro i hi
    exact Ev.step (f := fun _ => some (0, 0)) (fun k => by simp only [threshold_keysFault.l0]; rw [if_neg (by omega)]) (Ev.now _)
  | succ d ih =>
    intro i hi
    refine Ev.step (fun k => by simp only [threshold_keysFault.l0]; rw [if_pos (by omega), if_pos (by omega), if_pos (by omega), sIsKey, Option.bind_some]) ?_
    unfold kfAt
    by_cases hk : isKey (rd l i) = true
    · rw [if_pos hk]
      refine ev_if_pos hk ?_
      by_cases h0 : 0 < i
      · refine ev_if_pos (by omega) ?_
        simp only [pred_w h0 (by omega)]
        refine ev_if_pos (by omega) (ev_if_pos (by omega) ?_)
        by_cases hle : rd l i ≤ rd l ((i - 1 : Nat) : Int)
        · rw [if_pos ⟨h0, hle⟩]
          exact ev_if_pos hle (ev_now fun k => rfl)
        · rw [if_neg (fun h => hle h.2)]
          refine ev_if_neg hle ?_
          rw [succ_w (by omega)]
          exact ih (i + 1) (by omega)
      · rw [if_neg (fun h => h0 h.1)]
        refine ev_if_neg (by omega) ?_
        rw [succ_w (by omega)]
        exact ih (i + 1) (by omega)
    · rw [if_neg hk]
      exact ev_if_neg hk (ev_now fun k => rfl)
theorem pKeys_ev (l : List Int) : Ev (fun k => threshold_keysFault.f k l) (keysFault l) := by
  unfold threshold_keysFault.f keysFault
  by_cases h : (l.length : Int) ≤ 12
  · refine ev_if_neg (by omega) ?_
    rw [if_pos h]
    exact pKeys_loop l (by omega) l.length 0 (by omega)
  · refine ev_if_pos (by omega) ?_
    rw [if_neg h]
    exact ev_now fun k => rfl
theorem bad_iff (x : Int × Int) : ((!(x.1 == 0) || (!(x.2 == 0))) = true) ↔ x ≠ (0, 0) := by
  obtain ⟨a, b⟩ := x
  by_cases h1 : a = 0 <;> by_cases h2 : b = 0 <;> simp [h1, h2]
def lb (l : List Int) (x : Int) : Nat := (l.takeWhile (fun y => decide (y < x))).length
theorem lb_unique : ∀ (l : List Int) (x : Int) (p : Nat) (hp : p ≤ l.length), (∀ j (hj : j < p), l[j] < x) → (∀ (h : p < l.length), ¬ l[p] < x) → p = lb l x
  | [], x, p, hp, h1, h2 => by
    have : p = 0 := by simpa using hp
    subst this
    rfl
  | y :: ys, x, 0, hp, h1, h2 => by
    have := h2 (by simp)
    unfold lb
    rw [List.takeWhile_cons, if_neg (by simpa using this)]
    rfl
  | y :: ys, x, p + 1, hp, h1, h2 => by
    have hy : y < x := h1 0 (by omega)
    have ih := lb_unique ys x p (by simpa using hp) (fun j hj => by have := h1 (j + 1) (by omega); simpa using this) (fun h => by have := h2 (by simpa using h); simpa using this)
    unfold lb at *
    rw [List.takeWhile_cons, if_pos (by simpa using hy), List.length_cons, ← ih]
theorem mem_lb {l : List Int} (hs : rises l) (x : Int) : x ∈ l ↔ ∃ h : lb l x < l.length, l[lb l x] = x := by
  constructor
  · intro hx
    obtain ⟨j, hj, rfl⟩ := List.mem_iff_getElem.1 hx
    have e : j = lb l l[j] := lb_unique l l[j] j (by omega) (fun i hi => rises_get hs (by omega) hj hi) (fun h => by omega)
    refine ⟨by rw [← e]; exact hj, ?_⟩
    simp only [← e]
  · rintro ⟨h, e⟩
    rw [← e]
    exact List.getElem_mem h
theorem less_eq (a b : Int) : cmp_Less_int.f a b = some (decide (a < b)) := by
  unfold cmp_Less_int.f cmp_isNaN_int.f
  simp
theorem search_loop (l : List Int) (x : Int) (hs : rises l) (hl : l.length ≤ 1000) : ∀ (d lo hi : Nat), hi - lo ≤ d → lo ≤ hi → hi ≤ l.length → (∀ j (hj : j < l.length), j < lo → l[j] < x) → (∀ j (hj : j < l.length), hi ≤ j → ¬ l[j] < x) →
    Ev (fun k => slices_BinarySearch_int_int.l0 k l x (l.length : Int) lo hi) ((lb l x : Int), decide (x ∈ l)) := by
  intro d
  induction d with
  | zero =>
    intro lo hi hd h1 h2 hlo hhi
    have hh : lo = hi := by omega
    subst hh
    have e : lo = lb l x := lb_unique l x lo h2 (fun j hj => hlo j (by omega) hj) (fun h => hhi lo h (Nat.le_refl _))
    refine Ev.step (fun k => by simp only [slices_BinarySearch_int_int.l0]; rw [if_neg (by omega)]) ?_
    by_cases hlt : lo < l.length
    · refine ev_if_pos (by omega) (ev_if_pos (by omega) (ev_if_pos (by omega) ?_))
      rw [rd_get l lo hlt]
      by_cases hx : l[lo] = x
      · refine ev_if_pos hx (ev_now fun k => ?_)
        have hm : x ∈ l := by rw [← hx]; exact List.getElem_mem hlt
        rw [decide_eq_true hm, ← e]
      · refine ev_if_neg hx (ev_now fun k => ?_)
        have hm : ¬ x ∈ l := by
          rw [mem_lb hs x]
          rintro ⟨h, he⟩
          simp only [← e] at he
          exact hx he
        simp only [slices_isNaN_int.f, bne_self_eq_false, Option.bind_some, Bool.false_eq_true, if_false]
        rw [decide_eq_false hm, ← e]
    · refine ev_if_neg (by omega) (ev_now fun k => ?_)
      have hm : ¬ x ∈ l := by
        rw [mem_lb hs x]
        rintro ⟨h, he⟩
        omega
      rw [decide_eq_false hm, ← e]
  | succ d ih =>
    intro lo hi hd h1 h2 hlo hhi
    by_cases hh : lo = hi
    · exact ih lo hi (by omega) h1 h2 hlo hhi
    · have hm : wrap64 ((IntKind.u64.wrap (wrap64 ((lo : Int) + (hi : Int)))) / 2) = (((lo + hi) / 2 : Nat) : Int) := by
        rw [w64 (n := (lo : Int) + (hi : Int)) (by omega) (by omega), m61_wrap, w64 (by omega) (by omega)]
        omega
      refine Ev.step (fun k => by simp only [slices_BinarySearch_int_int.l0]; rw [if_pos (by omega), hm, if_pos (by omega), if_pos (by omega), less_eq, Option.bind_some]) ?_
      have hmlt : (lo + hi) / 2 < l.length := by omega
      have e0 : rd l (((lo + hi) / 2 : Nat) : Int) = l[(lo + hi) / 2] := rd_get l _ hmlt
      rw [e0]
      by_cases hx : l[(lo + hi) / 2] < x
      · refine ev_if_pos (decide_eq_true hx) ?_
        rw [succ_w (by omega)]
        refine ih ((lo + hi) / 2 + 1) hi (by omega) (by omega) h2 (fun j hj hlt => ?_) hhi
        by_cases hj2 : j = (lo + hi) / 2
        · subst hj2
          exact hx
        · exact Int.lt_trans (rises_get hs hj hmlt (by omega)) hx
      · refine ev_if_neg (by rw [decide_eq_true_eq]; exact hx) ?_
        refine ih lo ((lo + hi) / 2) (by omega) (by omega) (by omega) hlo (fun j hj hlt => ?_)
        by_cases hj2 : j = (lo + hi) / 2
        · subst hj2
          exact hx
        · have := rises_get hs hmlt hj (by omega)
          omega
theorem search_ev (l : List Int) (x : Int) (hs : rises l) (hl : l.length ≤ 1000) : Ev (fun k => slices_BinarySearch_int_int.f k l x) ((lb l x : Int), decide (x ∈ l)) := by
  unfold slices_BinarySearch_int_int.f
  exact search_loop l x hs hl l.length 0 l.length (by omega) (by omega) (by omega) (fun j hj h => by omega) (fun j hj h => by omega)
abbrev Sg := S54
theorem rdS_get (l : List Sg) (i : Nat) (h : i < l.length) : rd_T54 l (i : Int) = l[i] := by
  unfold rd_T54
  rw [List.getD_eq_getElem?_getD, Int.toNat_natCast, List.getElem?_eq_getElem h]
  rfl
/-- From place i on, d signatures: the first that is malformed; n: how many keys there are. -/
def sfAt (n : Int) (l : List Sg) : Nat → Nat → Int × Int
  | 0, _ => (0, 0)
  | d + 1, i => if isKey (rd_T54 l i).f0 = true ∧ isDig (rd_T54 l i).f1 = true then sfAt n l d (i + 1) else (3, n + i)
def signersFault (keys data : List Int) (sigs : List Sg) : Int × Int :=
  if (keysFault keys).1 = 0 then (if (data.length : Int) ≤ 4096 then (if (sigs.length : Int) ≤ 24 then sfAt keys.length sigs sigs.length 0 else (2, -3)) else (2, -2)) else keysFault keys
def isSig (data : List Int) (k : Int) (s : Sg) : Bool := decide (s.f0 = k ∧ s.f1 = sgn k data)
def hasSig (data : List Int) (sigs : List Sg) (k : Int) : Bool := sigs.any (isSig data k)
def signers (keys data : List Int) (sigs : List Sg) : List Int := keys.filter (hasSig data sigs)
def signersRes (keys data : List Int) (sigs : List Sg) : List Int × Int × Int := if (signersFault keys data sigs).1 = 0 then (signers keys data sigs, 0, 0) else ([], (signersFault keys data sigs).1, (signersFault keys data sigs).2)
theorem rdB_get (l : List Bool) (i : Nat) (h : i < l.length) : rdOf false l (i : Int) = l[i] := by
  unfold rdOf
  rw [List.getD_eq_getElem?_getD, Int.toNat_natCast, List.getElem?_eq_getElem h]
  rfl
theorem pick_loop (keys : List Int) (p : Int → Bool) (hl : keys.length ≤ 12) : ∀ (d i : Nat) (acc : List Int), i + d = keys.length → acc.length ≤ i →
    Ev (fun k => threshold_Signers.l1 k (keys.map p) acc keys (keys.length : Int) i) (acc ++ (keys.drop i).filter p, 0, 0) := by
  intro d
  induction d with
  | zero =>
    intro i acc hi ha
    rw [List.drop_of_length_le (by omega)]
    simp only [List.filter_nil, List.append_nil]
    exact Ev.step (f := fun _ => some (acc, 0, 0)) (fun k => by simp only [threshold_Signers.l1]; rw [if_neg (by omega)]) (Ev.now _)
  | succ d ih =>
    intro i acc hi ha
    have hil : i < keys.length := by omega
    have e0 : rdOf false (keys.map p) (i : Int) = p keys[i] := by
      rw [rdB_get _ i (by rw [List.length_map]; exact hil), List.getElem_map]
    refine Ev.step (fun k => by simp only [threshold_Signers.l1]; rw [if_pos (by omega), if_pos (by omega), if_pos (by omega), if_pos (by rw [List.length_map]; omega), e0, rd_get keys i hil, succ_w (by omega)]) ?_
    rw [drop_cons hil, List.filter_cons]
    by_cases hp : p keys[i] = true
    · rw [if_pos hp]
      refine ev_if_pos hp (ev_if_pos (by omega) ?_)
      have := ih (i + 1) (acc ++ [keys[i]]) (by omega) (by rw [List.length_append, List.length_singleton]; omega)
      rw [List.append_assoc] at this
      exact this
    · rw [if_neg hp]
      exact ev_if_neg hp (ih (i + 1) acc (by omega) (by omega))
theorem take_any {l : List Sg} {p : Sg → Bool} {i : Nat} (h : i < l.length) : (l.take (i + 1)).any p = ((l.take i).any p || p l[i]) := by
  rw [List.take_succ_eq_append_getElem h, List.any_append, List.any_cons, List.any_nil, Bool.or_false]
theorem lb_of_mem {l : List Int} (hs : rises l) {x : Int} (hx : x ∈ l) : ∃ h : lb l x < l.length, l[lb l x] = x := (mem_lb hs x).1 hx
theorem mark_eq (keys : List Int) (hs : rises keys) (p q : Int → Bool) (x : Int) (hx : x ∈ keys) (b : Bool) (h1 : ∀ k ∈ keys, k ≠ x → q k = p k) (h2 : q x = b) : (keys.map p).set (lb keys x) b = keys.map q := by
  obtain ⟨hl, he⟩ := lb_of_mem hs hx
  refine List.ext_getElem (by simp) fun j hj1 hj2 => ?_
  rw [List.length_map] at hj2
  rw [List.getElem_set, List.getElem_map]
  by_cases e : lb keys x = j
  · rw [if_pos e]
    subst e
    rw [List.getElem_map, he, h2]
  · rw [if_neg e, List.getElem_map, h1 _ (List.getElem_mem hj2)]
    intro e2
    rcases Nat.lt_or_ge (lb keys x) j with h | h
    · have := rises_get hs hl hj2 h
      omega
    · have := rises_get hs hj2 hl (by omega)
      omega
theorem pSigners_loop (keys data : List Int) (sigs : List Sg) (hk : ∀ x ∈ keys, isKey x = true) (hs : rises keys) (hkl : keys.length ≤ 12) (hd : isByte data) (hdl : data.length ≤ 4096) (hsl : sigs.length ≤ 24) : ∀ (d i : Nat), i + d = sigs.length →
    Ev (fun k => threshold_Signers.l0 k keys data (keys.map (hasSig data (sigs.take i))) sigs (sigs.length : Int) i) (if (sfAt keys.length sigs d i).1 = 0 then (signers keys data sigs, 0, 0) else ([], (sfAt keys.length sigs d i).1, (sfAt keys.length sigs d i).2)) := by
  intro d
  induction d with
  | zero =>
    intro i hi
    refine Ev.step (fun k => by simp only [threshold_Signers.l0]; rw [if_neg (by omega)]) ?_
    rw [List.take_of_length_le (by omega)]
    simp only [sfAt, if_true]
    have := pick_loop keys (hasSig data sigs) hkl keys.length 0 [] (by omega) (by simp)
    simpa [signers] using this
  | succ d ih =>
    intro i hi
    have hil : i < sigs.length := by omega
    refine Ev.step (fun k => by simp only [threshold_Signers.l0]; rw [if_pos (by omega), if_pos (by omega), if_pos (by omega), sIsKey, sIsDig, Option.bind_some, Option.bind_some]) ?_
    unfold sfAt
    rw [rdS_get sigs i hil]
    have bad : ∀ a b : Int, Ev (fun k => threshold_Signers.j1 k keys data (keys.map (hasSig data (sigs.take i))) i sigs (sigs.length : Int) i true a b) (([], 3, (keys.length : Int) + i) : List Int × Int × Int) := fun a b => by
      refine Ev.step (fun k => by simp only [threshold_Signers.j1]; rw [if_pos (by trivial), w64 (by omega) (by omega)]) (Ev.now _)
    by_cases h1 : isKey sigs[i].f0 = true
    · refine ev_if_pos h1 ?_
      by_cases h2 : isDig sigs[i].f1 = true
      · have hc : isKey sigs[i].f0 = true ∧ isDig sigs[i].f1 = true := ⟨h1, h2⟩
        simp only [if_pos hc]
        rw [h2]
        refine Ev.step (fun k => by simp only [threshold_Signers.j1]; rw [if_neg (by decide)]) ?_
        refine ev_bind (search_ev keys sigs[i].f0 hs (by omega)) ?_
        have si : wrap64 ((i : Int) + 1) = ((i + 1 : Nat) : Int) := succ_w (by omega)
        by_cases hm : sigs[i].f0 ∈ keys
        · rw [decide_eq_true hm]
          obtain ⟨hl, he⟩ := lb_of_mem hs hm
          refine ev_if_pos (by trivial) ?_
          refine ev_bind (verify_ev sigs[i].f0 data sigs[i].f1 hd) ?_
          refine ev_if_pos (by omega) (ev_if_pos (by rw [List.length_map]; omega) ?_)
          have e0 : rdOf false (keys.map (hasSig data (sigs.take i))) (lb keys sigs[i].f0 : Int) = hasSig data (sigs.take i) sigs[i].f0 := by
            rw [rdB_get _ _ (by rw [List.length_map]; exact hl), List.getElem_map, he]
          have ev : verifyRes sigs[i].f0 data sigs[i].f1 = (sgn sigs[i].f0 data == sigs[i].f1, 0, 0) := by
            have es : (signFault sigs[i].f0 data).1 = 0 := by
              unfold signFault
              rw [if_pos h1, if_pos (by omega)]
            unfold verifyRes
            rw [if_pos es, if_pos h2]
          rw [e0, ev, Int.toNat_natCast, si]
          have other : ∀ k ∈ keys, k ≠ sigs[i].f0 → hasSig data (sigs.take (i + 1)) k = hasSig data (sigs.take i) k := fun k _ hne => by
            unfold hasSig
            rw [take_any hil]
            have : isSig data k sigs[i] = false := by
              unfold isSig
              rw [decide_eq_false_iff_not]
              rintro ⟨h, _⟩
              exact hne h.symm
            rw [this, Bool.or_false]
          have this' : hasSig data (sigs.take (i + 1)) sigs[i].f0 = (hasSig data (sigs.take i) sigs[i].f0 || (sgn sigs[i].f0 data == sigs[i].f1)) := by
            unfold hasSig
            rw [take_any hil]
            congr 1
            unfold isSig
            rw [Bool.eq_iff_iff, decide_eq_true_eq, beq_iff_eq]
            exact ⟨fun h => h.2.symm, fun h => ⟨rfl, h.symm⟩⟩
          by_cases hp : hasSig data (sigs.take i) sigs[i].f0 = true
          · refine ev_if_pos hp ?_
            rw [mark_eq keys hs _ (hasSig data (sigs.take (i + 1))) _ hm true other (by rw [this', hp]; rfl)]
            exact ih (i + 1) (by omega)
          · refine ev_if_neg hp ?_
            rw [mark_eq keys hs _ (hasSig data (sigs.take (i + 1))) _ hm _ other (by rw [this']; simp only [Bool.not_eq_true] at hp; rw [hp, Bool.false_or])]
            exact ih (i + 1) (by omega)
        · rw [decide_eq_false hm]
          refine ev_if_neg (by simp) ?_
          have e : keys.map (hasSig data (sigs.take i)) = keys.map (hasSig data (sigs.take (i + 1))) := by
            refine List.map_congr_left fun k hkm => ?_
            unfold hasSig
            rw [take_any hil]
            have : isSig data k sigs[i] = false := by
              unfold isSig
              rw [decide_eq_false_iff_not]
              rintro ⟨h, _⟩
              exact hm (by rw [h]; exact hkm)
            rw [this, Bool.or_false]
          rw [si, e]
          exact ih (i + 1) (by omega)
      · have hc : ¬ (isKey sigs[i].f0 = true ∧ isDig sigs[i].f1 = true) := fun h => h2 h.2
        simp only [if_neg hc]
        have h2f : isDig sigs[i].f1 = false := by simpa using h2
        rw [h2f]
        exact bad _ _
    · have hc : ¬ (isKey sigs[i].f0 = true ∧ isDig sigs[i].f1 = true) := fun h => h1 h.1
      simp only [if_neg hc]
      exact ev_if_neg h1 (bad _ _)
theorem pSigners_ev (keys data : List Int) (sigs : List Sg) (hd : isByte data) : Ev (fun k => threshold_Signers.f k keys data sigs) (signersRes keys data sigs) := by
  unfold threshold_Signers.f signersRes signersFault
  refine ev_bind (pKeys_ev keys) ?_
  by_cases h : (keysFault keys).1 = 0
  · obtain ⟨e, hl, hk, hs⟩ := keysFault_ok h
    simp only [if_pos h]
    refine ev_if_neg (fun hb => (bad_iff _).1 hb e) ?_
    by_cases h2 : (data.length : Int) ≤ 4096
    · simp only [if_pos h2]
      refine ev_if_neg (by omega) ?_
      by_cases h3 : (sigs.length : Int) ≤ 24
      · simp only [if_pos h3]
        refine ev_if_neg (by omega) (ev_if_pos (by omega) (ev_if_pos (by omega) ?_))
        have := pSigners_loop keys data sigs hk hs (by omega) hd (by omega) (by omega) sigs.length 0 (by omega)
        have e1 : keys.map (hasSig data (sigs.take 0)) = List.replicate keys.length false := by
          rw [List.eq_replicate_iff]
          refine ⟨by simp, fun b hb => ?_⟩
          obtain ⟨k, _, rfl⟩ := List.mem_map.1 hb
          rfl
        rw [e1] at this
        exact this
      · simp only [if_neg h3]
        exact ev_if_pos (by omega) (Ev.now _)
    · simp only [if_neg h2]
      exact ev_if_pos (by omega) (Ev.now _)
  · simp only [if_neg h]
    exact ev_if_pos ((bad_iff _).2 fun e => h (by rw [e])) (Ev.now _)
/-- The largest power of two below n. -/
def sp (n : Nat) : Nat := 2 ^ Nat.log2 (n - 1)
theorem sp_all : ((List.range 65).all fun n => decide (n < 2) || (decide (translog_split.f (n : Int) = some (sp n : Int)) && decide (n ≤ 2 * sp n))) = true := by decide +kernel
theorem sp_pos (n : Nat) : 1 ≤ sp n := Nat.one_le_two_pow
theorem sp_lt {n : Nat} (h : 2 ≤ n) : sp n < n := by
  have := Nat.log2_self_le (n := n - 1) (by omega)
  unfold sp
  omega
theorem sp_two {n : Nat} (h : 2 ≤ n) (h2 : n ≤ 64) : n ≤ 2 * sp n := by
  have := (List.all_eq_true.mp sp_all) n (List.mem_range.mpr (by omega))
  simp only [Bool.or_eq_true, Bool.and_eq_true, decide_eq_true_eq] at this
  omega
theorem sp_split {n : Nat} (h : 2 ≤ n) (h2 : n ≤ 64) : translog_split.f (n : Int) = some (sp n : Int) := by
  have := (List.all_eq_true.mp sp_all) n (List.mem_range.mpr (by omega))
  simp only [Bool.or_eq_true, Bool.and_eq_true, decide_eq_true_eq] at this
  rcases this with h' | h'
  · omega
  · exact h'.1
def root (l : List Int) : Int :=
  if h : l.length < 2 then rd l 0 else pairD (root (l.take (sp l.length))) (root (l.drop (sp l.length)))
termination_by l.length
decreasing_by
  · rw [List.length_take]
    have := sp_lt (n := l.length) (by omega)
    omega
  · rw [List.length_drop]
    have := sp_pos l.length
    omega
theorem root_small {l : List Int} (h : l.length < 2) : root l = rd l 0 := by rw [root, dif_pos h]
theorem root_big {l : List Int} (h : 2 ≤ l.length) : root l = pairD (root (l.take (sp l.length))) (root (l.drop (sp l.length))) := by rw [root, dif_neg (by omega)]
theorem take_dig {l : List Int} (h : allDig l) (n : Nat) : allDig (l.take n) := fun x hx => h x (List.mem_of_mem_take hx)
theorem drop_dig {l : List Int} (h : allDig l) (n : Nat) : allDig (l.drop n) := fun x hx => h x (List.mem_of_mem_drop hx)
theorem root_dig {l : List Int} (h : allDig l) : isDig (root l) = true := by
  by_cases h2 : l.length < 2
  · rw [root_small h2]
    match l, h2 with
    | [], _ => decide
    | [x], _ => exact h x (List.mem_singleton.mpr rfl)
  · rw [root_big (by omega)]
    exact isDig_pairD _ _
theorem pPair {a b : Int} (ha : isDig a = true) (hb : isDig b = true) : translog_pair.f a b = some (pairD a b) := by
  unfold translog_pair.f
  rw [pPair_eq a b ha hb]
  rfl
theorem pRoot_ev : ∀ (n : Nat) (l : List Int), l.length = n → n ≤ 64 → allDig l → Ev (fun k => translog_root.f k l) (root l) := by
  intro n
  induction n using Nat.strongRecOn with
  | _ n ih =>
    intro l hl hn hd
    by_cases h0 : n = 0
    · refine Ev.step (f := fun _ => some 0) (fun k => by simp only [translog_root.f]; rw [if_pos (by omega)]) ?_
      have : l = [] := List.length_eq_zero_iff.mp (by omega)
      subst this
      rw [root_small (by simp)]
      exact Ev.now _
    by_cases h1 : n = 1
    · refine Ev.step (f := fun _ => some (rd l 0)) (fun k => by simp only [translog_root.f]; rw [if_neg (by omega), if_pos (by omega), if_pos (by omega)]) ?_
      rw [root_small (by omega)]
      exact Ev.now _
    have hs := sp_split (n := n) (by omega) hn
    have hlt := sp_lt (n := n) (by omega)
    have hp := sp_pos n
    rw [root_big (by omega), hl]
    refine Ev.step (f := fun k => (translog_root.f k (l.take (sp n))).bind fun a => (translog_root.f k (l.drop (sp n))).bind fun b => (translog_pair.f a b).bind fun c => some c) (fun k => ?_) ?_
    · simp only [translog_root.f]
      rw [if_neg (by omega), if_neg (by omega), hl, hs]
      simp only [Option.bind_some]
      rw [if_pos (by omega), if_pos (by omega)]
      simp only [if_pos (show (0 : Int) ≤ (sp n : Int) by omega), if_pos (show (sp n : Int) ≤ (n : Int) by omega), Int.toNat_natCast]
    · refine ev_bind (ih (sp n) hlt (l.take (sp n)) (by rw [List.length_take]; omega) (by omega) (take_dig hd _)) ?_
      refine ev_bind (ih (n - sp n) (by omega) (l.drop (sp n)) (by rw [List.length_drop]; omega) (by omega) (drop_dig hd _)) ?_
      refine ev_now fun k => ?_
      rw [pPair (root_dig (take_dig hd _)) (root_dig (drop_dig hd _))]
      rfl
def prv (l : List Int) (i : Nat) : List Int :=
  if h : l.length < 2 then [] else if i < sp l.length then prv (l.take (sp l.length)) i ++ [root (l.drop (sp l.length))] else prv (l.drop (sp l.length)) (i - sp l.length) ++ [root (l.take (sp l.length))]
termination_by l.length
decreasing_by
  · rw [List.length_take]
    have := sp_lt (n := l.length) (by omega)
    omega
  · rw [List.length_drop]
    have := sp_pos l.length
    omega
theorem prv_small {l : List Int} (h : l.length < 2) (i : Nat) : prv l i = [] := by rw [prv, dif_pos h]
theorem prv_left {l : List Int} (h : 2 ≤ l.length) {i : Nat} (hi : i < sp l.length) : prv l i = prv (l.take (sp l.length)) i ++ [root (l.drop (sp l.length))] := by rw [prv, dif_neg (by omega), if_pos hi]
theorem prv_right {l : List Int} (h : 2 ≤ l.length) {i : Nat} (hi : ¬ i < sp l.length) : prv l i = prv (l.drop (sp l.length)) (i - sp l.length) ++ [root (l.take (sp l.length))] := by rw [prv, dif_neg (by omega), if_neg hi]
theorem prv_facts : ∀ (n : Nat) (l : List Int) (i : Nat), l.length = n → allDig l → (prv l i).length ≤ n ∧ allDig (prv l i) := by
  intro n
  induction n using Nat.strongRecOn with
  | _ n ih =>
    intro l i hl hd
    by_cases h2 : n < 2
    · rw [prv_small (by omega)]
      exact ⟨Nat.zero_le _, fun x hx => by simp at hx⟩
    have hlt := sp_lt (n := n) (by omega)
    have hp := sp_pos n
    by_cases hi : i < sp n
    · rw [prv_left (by omega) (by rw [hl]; exact hi), hl]
      obtain ⟨h3, h4⟩ := ih (sp n) hlt (l.take (sp n)) i (by rw [List.length_take]; omega) (take_dig hd _)
      refine ⟨by rw [List.length_append, List.length_singleton]; omega, fun x hx => ?_⟩
      rcases List.mem_append.mp hx with h5 | h5
      · exact h4 x h5
      · rw [List.mem_singleton.mp h5]
        exact root_dig (drop_dig hd _)
    · rw [prv_right (by omega) (by rw [hl]; exact hi), hl]
      obtain ⟨h3, h4⟩ := ih (n - sp n) (by omega) (l.drop (sp n)) (i - sp n) (by rw [List.length_drop]; omega) (drop_dig hd _)
      refine ⟨by rw [List.length_append, List.length_singleton]; omega, fun x hx => ?_⟩
      rcases List.mem_append.mp hx with h5 | h5
      · exact h4 x h5
      · rw [List.mem_singleton.mp h5]
        exact root_dig (take_dig hd _)
theorem pProve_ev : ∀ (n : Nat) (l : List Int) (i : Nat), l.length = n → n ≤ 64 → i < n → allDig l → Ev (fun k => translog_prove.f k l (i : Int)) (prv l i) := by
  intro n
  induction n using Nat.strongRecOn with
  | _ n ih =>
    intro l i hl hn hin hd
    by_cases h1 : n = 1
    · refine Ev.step (f := fun _ => some []) (fun k => by simp only [translog_prove.f]; rw [if_pos (by omega)]) ?_
      rw [prv_small (by omega)]
      exact Ev.now _
    have hs := sp_split (n := n) (by omega) hn
    have hlt := sp_lt (n := n) (by omega)
    have hp := sp_pos n
    by_cases hi : i < sp n
    · rw [prv_left (by omega) (by rw [hl]; exact hi), hl]
      refine Ev.step (f := fun k => (translog_prove.f k (l.take (sp n)) i).bind fun a => (translog_root.f k (l.drop (sp n))).bind fun b => if a.length < 17592186044416 then some (a ++ [b]) else none) (fun k => ?_) ?_
      · simp only [translog_prove.f]
        rw [if_neg (by omega), hl, hs]
        simp only [Option.bind_some]
        rw [if_pos (by omega), if_pos (by omega), if_pos (by omega)]
        simp only [Int.toNat_natCast]
      · refine ev_bind (ih (sp n) hlt (l.take (sp n)) i (by rw [List.length_take]; omega) (by omega) hi (take_dig hd _)) ?_
        refine ev_bind (pRoot_ev (n - sp n) (l.drop (sp n)) (by rw [List.length_drop]; omega) (by omega) (drop_dig hd _)) ?_
        have := (prv_facts (sp n) (l.take (sp n)) i (by rw [List.length_take]; omega) (take_dig hd _)).1
        exact ev_if_pos (by omega) (Ev.now _)
    · rw [prv_right (by omega) (by rw [hl]; exact hi), hl]
      refine Ev.step (f := fun k => (translog_prove.f k (l.drop (sp n)) ((i - sp n : Nat) : Int)).bind fun a => (translog_root.f k (l.take (sp n))).bind fun b => if a.length < 17592186044416 then some (a ++ [b]) else none) (fun k => ?_) ?_
      · simp only [translog_prove.f]
        rw [if_neg (by omega), hl, hs]
        simp only [Option.bind_some]
        rw [if_neg (by omega), if_pos (by omega), if_pos (by omega), w64 (by omega) (by omega), show (i : Int) - (sp n : Int) = ((i - sp n : Nat) : Int) from by omega]
        simp only [Int.toNat_natCast]
      · refine ev_bind (ih (n - sp n) (by omega) (l.drop (sp n)) (i - sp n) (by rw [List.length_drop]; omega) (by omega) (by omega) (drop_dig hd _)) ?_
        refine ev_bind (pRoot_ev (sp n) (l.take (sp n)) (by rw [List.length_take]; omega) (by omega) (take_dig hd _)) ?_
        have := (prv_facts (n - sp n) (l.drop (sp n)) (i - sp n) (by rw [List.length_drop]; omega) (drop_dig hd _)).1
        exact ev_if_pos (by omega) (Ev.now _)
def nxt (s : List Int) (ok : Bool) : Int × List Int × Bool := match s with
  | [] => (0, [], false)
  | x :: l => (x, l, ok)
theorem pNext (s : List Int) (ok : Bool) : translog_reader_next.f s ok = some (nxt s ok) := by cases s <;> rfl
theorem nxt_dig {s : List Int} (h : allDig s) (ok : Bool) : isDig (nxt s ok).1 = true ∧ allDig (nxt s ok).2.1 := by
  cases s with
  | nil => exact ⟨show isDig 0 = true by decide, h⟩
  | cons x l => exact ⟨h x (List.mem_cons_self ..), fun y hy => h y (List.mem_cons_of_mem _ hy)⟩
/-- One step of an inclusion proof upwards; d: the proof's root stands on the left. -/
def stp (st : Int × List Int × Bool) (d : Bool) : Int × List Int × Bool :=
  (if d then pairD (nxt st.2.1 st.2.2).1 st.1 else pairD st.1 (nxt st.2.1 st.2.2).1, (nxt st.2.1 st.2.2).2.1, (nxt st.2.1 st.2.2).2.2)
def dirs : Nat → Nat → Nat → List Bool
  | 0, _, _ => []
  | f + 1, n, i => if n < 2 then [] else if i < sp n then dirs f (sp n) i ++ [false] else dirs f (n - sp n) (i - sp n) ++ [true]
theorem fold_dig : ∀ (ds : List Bool) (v : Int) (s : List Int) (ok : Bool), isDig v = true → allDig s → isDig (ds.foldl stp (v, s, ok)).1 = true ∧ allDig (ds.foldl stp (v, s, ok)).2.1
  | [], v, s, ok, hv, hs => ⟨hv, hs⟩
  | d :: ds, v, s, ok, hv, hs => by
    refine fold_dig ds _ _ _ ?_ (nxt_dig hs ok).2
    show isDig (if d then _ else _) = true
    cases d
    · exact isDig_pairD _ _
    · exact isDig_pairD _ _
theorem inc_ev (leaf : Int) (s : List Int) (ok : Bool) (hv : isDig leaf = true) (hs : allDig s) : ∀ (n i f : Nat), i < n → n ≤ 64 → n ≤ f → Ev (fun k => translog_reader_include.f k s ok (n : Int) (i : Int) leaf) ((dirs f n i).foldl stp (leaf, s, ok)) := by
  intro n
  induction n using Nat.strongRecOn with
  | _ n ih =>
    intro i f hin hn hf
    obtain ⟨f, rfl⟩ : ∃ g, f = g + 1 := ⟨f - 1, by omega⟩
    by_cases h1 : n = 1
    · refine Ev.step (f := fun _ => some (leaf, s, ok)) (fun k => by simp only [translog_reader_include.f]; rw [if_pos (by omega)]) ?_
      simp only [dirs]
      rw [if_pos (by omega)]
      exact Ev.now _
    have hsp := sp_split (n := n) (by omega) hn
    have hlt := sp_lt (n := n) (by omega)
    have hp := sp_pos n
    simp only [dirs]
    rw [if_neg (by omega)]
    by_cases hi : i < sp n
    · rw [if_pos hi, List.foldl_append]
      refine Ev.step (f := fun k => (translog_reader_include.f k s ok (sp n : Int) (i : Int) leaf).bind fun a => (translog_reader_next.f a.2.1 a.2.2).bind fun b => (translog_pair.f a.1 b.1).bind fun c => some (c, b.2.1, b.2.2)) (fun k => ?_) ?_
      · simp only [translog_reader_include.f]
        rw [if_neg (by omega), hsp]
        simp only [Option.bind_some]
        rw [if_pos (by omega)]
      · refine ev_bind (ih (sp n) hlt i f hi (by omega) (by omega)) ?_
        obtain ⟨h3, h4⟩ := fold_dig (dirs f (sp n) i) leaf s ok hv hs
        refine ev_now fun k => ?_
        rw [pNext, Option.bind_some, pPair h3 (nxt_dig h4 _).1]
        rfl
    · rw [if_neg hi, List.foldl_append]
      refine Ev.step (f := fun k => (translog_reader_include.f k s ok ((n - sp n : Nat) : Int) ((i - sp n : Nat) : Int) leaf).bind fun a => (translog_reader_next.f a.2.1 a.2.2).bind fun b => (translog_pair.f b.1 a.1).bind fun c => some (c, b.2.1, b.2.2)) (fun k => ?_) ?_
      · simp only [translog_reader_include.f]
        rw [if_neg (by omega), hsp]
        simp only [Option.bind_some]
        rw [if_neg (by omega), w64 (by omega) (by omega), w64 (by omega) (by omega), show (i : Int) - (sp n : Int) = ((i - sp n : Nat) : Int) from by omega, show (n : Int) - (sp n : Int) = ((n - sp n : Nat) : Int) from by omega]
      · refine ev_bind (ih (n - sp n) (by omega) (i - sp n) f (by omega) (by omega) (by omega)) ?_
        obtain ⟨h3, h4⟩ := fold_dig (dirs f (n - sp n) (i - sp n)) leaf s ok hv hs
        refine ev_now fun k => ?_
        rw [pNext, Option.bind_some, pPair (nxt_dig h4 _).1 h3]
        rfl
theorem pDone (s : List Int) (ok : Bool) : translog_reader_done.f s ok = some (ok && s.isEmpty, s, ok) := by
  unfold translog_reader_done.f
  cases ok
  · rfl
  · cases s with
    | nil => rfl
    | cons x l =>
      have : (((x :: l).length : Int) == 0) = false := by rw [beq_eq_false_iff_ne]; simp only [List.length_cons]; omega
      rw [if_pos rfl, this]
      rfl
/-- What an inclusion proof says. -/
def incl : List Bool → Int → Int → List Int → Bool
  | [], root, r, [] => r == root
  | [], _, _, _ :: _ => false
  | _ :: _, _, _, [] => false
  | d :: ds, root, r, x :: p => incl ds root (if d then pairD x r else pairD r x) p
theorem fold_false : ∀ (ds : List Bool) (v : Int) (s : List Int), (ds.foldl stp (v, s, false)).2.2 = false
  | [], v, s => rfl
  | d :: ds, v, s => by
    have : stp (v, s, false) d = ((stp (v, s, false) d).1, (stp (v, s, false) d).2.1, false) := by
      unfold stp
      cases s <;> rfl
    rw [List.foldl_cons, this]
    exact fold_false ds _ _
theorem incl_eq (root : Int) : ∀ (ds : List Bool) (r : Int) (s : List Int), incl ds root r s = ((ds.foldl stp (r, s, true)).2.2 && (ds.foldl stp (r, s, true)).2.1.isEmpty && ((ds.foldl stp (r, s, true)).1 == root))
  | [], r, [] => by simp [incl]
  | [], r, x :: l => by simp [incl]
  | d :: ds, r, [] => by
    rw [List.foldl_cons, show stp (r, [], true) d = ((stp (r, [], true) d).1, [], false) from rfl, fold_false]
    rfl
  | d :: ds, r, x :: l => by
    rw [List.foldl_cons, show stp (r, x :: l, true) d = (if d then pairD x r else pairD r x, l, true) from rfl]
    exact incl_eq root ds _ l
def rng (a b c d : Bool) : Int × Int := if a then (if b then (if c then (if d then (0, 0) else (3, 3)) else (3, 2)) else (3, 1)) else (3, 0)
theorem rng_ne : ∀ a b c d : Bool, (a && b && c) = false → ¬ (rng a b c d).1 = 0 := by decide
theorem ranges_ev (a b c d : Bool) : Ev (fun k => translog_ranges.f k [a, b, c, d]) (rng a b c d) := by
  refine Ev.of (k := 6) (translog_ranges.mono _) ?_
  revert a b c d
  decide +kernel
def pfFault (p : List Int) : Int × Int := if (p.length : Int) ≤ 64 then digFault 4 p else (2, -1)
theorem pPf_loop (l : List Int) (hl : l.length ≤ 64) : ∀ (d i : Nat), i + d = l.length → Ev (fun k => translog_proofFault.l0 k 4 l (l.length : Int) i) (digFault (4 + i) (l.drop i)) := by
  intro d
  induction d with
  | zero =>
    intro i hi
    refine Ev.step (f := fun _ => some (0, 0)) (fun k => by simp only [translog_proofFault.l0]; rw [if_neg (by omega)]) ?_
    rw [List.drop_of_length_le (by omega)]
    exact Ev.now _
  | succ d ih =>
    intro i hi
    have h1 : i < l.length := by omega
    rw [drop_cons h1]
    by_cases hd : isDig l[i] = true
    · refine Ev.step (fun k => by simp only [translog_proofFault.l0]; rw [if_pos (by omega), if_pos (by omega), if_pos (by omega), rd_get l i h1, sIsDig, Option.bind_some, if_pos hd, w64 (by omega) (by omega)]) ?_
      simp only [digFault, if_pos hd]
      have := ih (i + 1) (by omega)
      rw [show (4 : Int) + ((i + 1 : Nat) : Int) = 4 + (i : Int) + 1 from by omega] at this
      exact this
    · refine Ev.step (f := fun _ => some (3, 4 + (i : Int))) (fun k => by simp only [translog_proofFault.l0]; rw [if_pos (by omega), if_pos (by omega), if_pos (by omega), rd_get l i h1, sIsDig, Option.bind_some, if_neg hd, w64 (by omega) (by omega)]) ?_
      simp only [digFault, if_neg hd]
      exact Ev.now _
theorem pPf_ev (l : List Int) : Ev (fun k => translog_proofFault.f k l 4) (pfFault l) := by
  unfold translog_proofFault.f pfFault
  by_cases h : (l.length : Int) ≤ 64
  · refine ev_if_neg (by omega) ?_
    rw [if_pos h]
    exact pPf_loop l (by omega) l.length 0 (by omega)
  · refine ev_if_pos (by omega) ?_
    rw [if_neg h]
    exact Ev.now _
/-- The first fault of four conditions and a proof. -/
def bad (a b c d : Bool) (p : List Int) : Int × Int := if a then (if b then (if c then (if d then pfFault p else (3, 3)) else (3, 2)) else (3, 1)) else (3, 0)
theorem pfFault_ok {p : List Int} (h : (pfFault p).1 = 0) : p.length ≤ 64 ∧ allDig p ∧ pfFault p = (0, 0) := by
  unfold pfFault at *
  by_cases hl : (p.length : Int) ≤ 64
  · rw [if_pos hl] at h ⊢
    exact ⟨by omega, digFault_zero p 4 h, digFault_ok p 4 (digFault_zero p 4 h)⟩
  · rw [if_neg hl] at h
    exact absurd h (by decide)
theorem pfFault_of {p : List Int} (h : p.length ≤ 64) (hd : allDig p) : pfFault p = (0, 0) := by
  unfold pfFault
  rw [if_pos (by omega)]
  exact digFault_ok p 4 hd
theorem ne_zero {x : Int × Int} (h : ¬ x.1 = 0) : (!(x.1 == 0) || (!(x.2 == 0))) = true := by simp [h]
theorem eq_zero' {x : Int × Int} (h : x = (0, 0)) : ¬ (!(x.1 == 0) || (!(x.2 == 0))) = true := by rw [h]; decide
theorem bad_ok {a b c d : Bool} {p : List Int} (h : (bad a b c d p).1 = 0) : a = true ∧ b = true ∧ c = true ∧ d = true ∧ p.length ≤ 64 ∧ allDig p ∧ bad a b c d p = (0, 0) := by
  unfold bad at h ⊢
  cases a
  · exact absurd h (by simp)
  cases b
  · exact absurd h (by simp)
  cases c
  · exact absurd h (by simp)
  cases d
  · exact absurd h (by simp)
  have h' : (pfFault p).1 = 0 := h
  obtain ⟨h1, h2, h3⟩ := pfFault_ok h'
  exact ⟨rfl, rfl, rfl, rfl, h1, h2, h3⟩
/-- The check of an inclusion proof. -/
def verFault (root n i leaf : Int) (p : List Int) : Int × Int := bad (isDig root) (decide (1 ≤ n ∧ n ≤ 64)) (decide (0 ≤ i ∧ i < n)) (isDig leaf) p
def verOk (root n i leaf : Int) (p : List Int) : Bool := decide ((verFault root n i leaf p).1 = 0) && incl (dirs 64 n.toNat i.toNat) root leaf p
theorem pVerify_ev (root n i leaf : Int) (p : List Int) : Ev (fun k => translog_Verify.f k root n i leaf p) (verOk root n i leaf p, (verFault root n i leaf p).1, (verFault root n i leaf p).2) := by
  unfold translog_Verify.f
  simp only [sIsDig, Option.bind_some]
  by_cases hw : (verFault root n i leaf p).1 = 0
  · obtain ⟨h1, h2, h3, h4, h5, h6, h7⟩ := bad_ok hw
    rw [decide_eq_true_eq] at h2 h3
    have h8 : verFault root n i leaf p = (0, 0) := h7
    refine ev_if_pos (by omega) (ev_if_pos (by omega) ?_)
    refine ev_bind (ranges_ev _ _ _ _) ?_
    rw [h1, h4, decide_eq_true (show n ≤ 64 by omega), decide_eq_true (show i < n by omega)]
    refine ev_if_neg (by decide) ?_
    refine ev_bind (pPf_ev p) ?_
    rw [pfFault_of h5 h6]
    refine ev_if_neg (by decide) ?_
    obtain ⟨n', rfl⟩ := Int.eq_ofNat_of_zero_le (show 0 ≤ n by omega)
    obtain ⟨i', rfl⟩ := Int.eq_ofNat_of_zero_le (show 0 ≤ i by omega)
    refine ev_bind (inc_ev leaf p true h4 h6 n' i' 64 (by omega) (by omega) (by omega)) ?_
    simp only [pDone, Option.bind_some]
    unfold verOk
    rw [h8, incl_eq]
    simp only [Int.toNat_natCast, decide_true, Bool.true_and]
    by_cases hc : (((dirs 64 n' i').foldl stp (leaf, p, true)).2.2 && ((dirs 64 n' i').foldl stp (leaf, p, true)).2.1.isEmpty) = true
    · refine ev_if_pos hc ?_
      rw [hc, Bool.true_and]
      exact Ev.now _
    · refine ev_if_neg hc ?_
      rw [Bool.not_eq_true] at hc
      rw [hc, Bool.false_and]
      exact Ev.now _
  · have hv : verOk root n i leaf p = false := by
      unfold verOk
      rw [decide_eq_false hw]
      rfl
    rw [hv]
    have key : ∀ (a b c d : Bool) (g : Nat → Option (Bool × Int × Int)), verFault root n i leaf p = rng a b c d → ¬ (rng a b c d).1 = 0 → Ev (fun k => (translog_ranges.f k [a, b, c, d]).bind fun bt => if (!(bt.1 == 0) || (!(bt.2 == 0))) = true then some (false, bt.1, bt.2) else g k) (false, (verFault root n i leaf p).1, (verFault root n i leaf p).2) := by
      intro a b c d g e1 e2
      refine ev_bind (ranges_ev a b c d) ?_
      refine ev_if_pos (ne_zero e2) ?_
      rw [e1]
      exact Ev.now _
    by_cases hn : n ≥ 1
    · refine ev_if_pos hn ?_
      by_cases hi : i ≥ 0
      · refine ev_if_pos hi ?_
        by_cases hr : (rng (isDig root) (decide (n ≤ 64)) (decide (i < n)) (isDig leaf)).1 = 0
        · have e : verFault root n i leaf p = pfFault p := by
            unfold verFault bad
            rw [show decide (1 ≤ n ∧ n ≤ 64) = decide (n ≤ 64) from by rw [decide_eq_decide]; omega, show decide (0 ≤ i ∧ i < n) = decide (i < n) from by rw [decide_eq_decide]; omega]
            revert hr
            unfold rng
            cases isDig root <;> cases decide (n ≤ 64) <;> cases decide (i < n) <;> cases isDig leaf <;> intro hr <;> first | exact absurd hr (by decide) | rfl
          have e2 : rng (isDig root) (decide (n ≤ 64)) (decide (i < n)) (isDig leaf) = (0, 0) := by
            revert hr
            unfold rng
            cases isDig root <;> cases decide (n ≤ 64) <;> cases decide (i < n) <;> cases isDig leaf <;> intro hr <;> first | exact absurd hr (by decide) | rfl
          refine ev_bind (ranges_ev _ _ _ _) ?_
          refine ev_if_neg (eq_zero' e2) ?_
          refine ev_bind (pPf_ev p) ?_
          rw [e] at hw ⊢
          refine ev_if_pos (ne_zero hw) ?_
          exact Ev.now _
        · have e : verFault root n i leaf p = rng (isDig root) (decide (n ≤ 64)) (decide (i < n)) (isDig leaf) := by
            unfold verFault bad
            rw [show decide (1 ≤ n ∧ n ≤ 64) = decide (n ≤ 64) from by rw [decide_eq_decide]; omega, show decide (0 ≤ i ∧ i < n) = decide (i < n) from by rw [decide_eq_decide]; omega]
            revert hr
            unfold rng
            cases isDig root <;> cases decide (n ≤ 64) <;> cases decide (i < n) <;> cases isDig leaf <;> intro hr <;> first | exact absurd rfl hr | rfl
          exact key _ _ _ _ _ e hr
      · refine ev_if_neg hi ?_
        refine key (isDig root) (decide (n ≤ 64)) false (isDig leaf) _ ?_ ?_
        · unfold verFault bad rng
          rw [show decide (1 ≤ n ∧ n ≤ 64) = decide (n ≤ 64) from by rw [decide_eq_decide]; omega, show decide (0 ≤ i ∧ i < n) = false from by rw [decide_eq_false_iff_not]; omega]
          cases isDig root <;> cases decide (n ≤ 64) <;> rfl
        · exact rng_ne _ _ _ _ (by simp)
    · refine ev_if_neg hn ?_
      have e0 : decide (1 ≤ n ∧ n ≤ 64) = false := by rw [decide_eq_false_iff_not]; omega
      by_cases hi : i ≥ 0
      · refine ev_if_pos hi ?_
        refine key (isDig root) false (decide (i < n)) (isDig leaf) _ ?_ ?_
        · unfold verFault bad rng
          rw [e0]
          cases isDig root <;> rfl
        · exact rng_ne _ _ _ _ (by simp)
      · refine ev_if_neg hi ?_
        refine key (isDig root) false false (isDig leaf) _ ?_ ?_
        · unfold verFault bad rng
          rw [e0]
          cases isDig root <;> rfl
        · exact rng_ne _ _ _ _ (by simp)
def cdirs : Nat → Nat → Nat → List Bool
  | 0, _, _ => []
  | f + 1, m, n => if m = n then [] else if m ≤ sp n then cdirs f m (sp n) ++ [false] else cdirs f (m - sp n) (n - sp n) ++ [true]
def cst (st : Int × Int × List Int × Bool) (d : Bool) : Int × Int × List Int × Bool :=
  (if d then pairD (nxt st.2.2.1 st.2.2.2).1 st.1 else st.1, if d then pairD (nxt st.2.2.1 st.2.2.2).1 st.2.1 else pairD st.2.1 (nxt st.2.2.1 st.2.2.2).1, (nxt st.2.2.1 st.2.2.2).2.1, (nxt st.2.2.1 st.2.2.2).2.2)
def seed (w : Bool) (old : Int) (s : List Int) (ok : Bool) : Int × Int × List Int × Bool :=
  if w then (old, old, s, ok) else ((nxt s ok).1, (nxt s ok).1, (nxt s ok).2.1, (nxt s ok).2.2)
def cinv (st : Int × Int × List Int × Bool) : Prop := isDig st.1 = true ∧ isDig st.2.1 = true ∧ allDig st.2.2.1
theorem seed_inv (w : Bool) {old : Int} {s : List Int} (ok : Bool) (h : isDig old = true) (hs : allDig s) : cinv (seed w old s ok) := by
  unfold seed
  cases w
  · exact ⟨(nxt_dig hs ok).1, (nxt_dig hs ok).1, (nxt_dig hs ok).2⟩
  · exact ⟨h, h, hs⟩
theorem cst_inv {st : Int × Int × List Int × Bool} (h : cinv st) (d : Bool) : cinv (cst st d) := by
  obtain ⟨h1, h2, h3⟩ := h
  cases d
  · exact ⟨h1, isDig_pairD _ _, (nxt_dig h3 _).2⟩
  · exact ⟨isDig_pairD _ _, isDig_pairD _ _, (nxt_dig h3 _).2⟩
theorem cfold_inv : ∀ (ds : List Bool) {st : Int × Int × List Int × Bool}, cinv st → cinv (ds.foldl cst st)
  | [], st, h => h
  | d :: ds, st, h => cfold_inv ds (cst_inv h d)
theorem roots_ev (old : Int) (s : List Int) (ok : Bool) (hv : isDig old = true) (hs : allDig s) : ∀ (n m f : Nat) (w : Bool), 1 ≤ m → m ≤ n → n ≤ 64 → n ≤ f →
    Ev (fun k => translog_reader_roots.f k s ok (m : Int) (n : Int) w old) ((cdirs f m n).foldl cst (seed (w && !(cdirs f m n).any id) old s ok)) := by
  intro n
  induction n using Nat.strongRecOn with
  | _ n ih =>
    intro m f w hm hmn hn hf
    obtain ⟨f, rfl⟩ : ∃ g, f = g + 1 := ⟨f - 1, by omega⟩
    by_cases h1 : m = n
    · subst h1
      simp only [cdirs, if_true, List.any_nil, Bool.not_false, Bool.and_true, List.foldl_nil]
      refine Ev.step (f := fun k => translog_reader_roots.j0 k (m : Int) (m : Int) w old w s ok) (fun k => by simp only [translog_reader_roots.f]; rw [if_pos trivial]) ?_
      cases w
      · refine Ev.step (f := fun _ => some (seed false old s ok)) (fun k => by simp only [translog_reader_roots.j0]; rw [if_neg (by decide), if_pos trivial, pNext]; rfl) ?_
        exact Ev.now _
      · refine Ev.step (f := fun _ => some (seed true old s ok)) (fun k => by simp only [translog_reader_roots.j0]; rw [if_pos trivial]; rfl) ?_
        exact Ev.now _
    have hsp := sp_split (n := n) (by omega) hn
    have hlt := sp_lt (n := n) (by omega)
    have hp := sp_pos n
    simp only [cdirs]
    rw [if_neg h1]
    refine Ev.step (f := fun k => translog_reader_roots.j0 k (m : Int) (n : Int) w old false s ok) (fun k => by simp only [translog_reader_roots.f]; rw [if_neg (by omega)]) ?_
    by_cases hi : m ≤ sp n
    · rw [if_pos hi, List.foldl_append, List.any_append]
      refine Ev.step (f := fun k => (translog_reader_roots.f k s ok (m : Int) (sp n : Int) w old).bind fun a => (translog_reader_next.f a.2.2.1 a.2.2.2).bind fun b => (translog_pair.f a.2.1 b.1).bind fun c => some (a.1, c, b.2.1, b.2.2)) (fun k => ?_) ?_
      · simp only [translog_reader_roots.j0]
        rw [if_neg (by decide), if_neg (by omega), hsp]
        simp only [Option.bind_some]
        rw [if_pos (by omega)]
      · refine ev_bind (ih (sp n) hlt m f w hm hi (by omega) (by omega)) ?_
        simp only [List.any_cons, List.any_nil, id, Bool.or_false]
        obtain ⟨h3, h4, h5⟩ := cfold_inv (cdirs f m (sp n)) (seed_inv (w && !(cdirs f m (sp n)).any id) ok hv hs)
        refine ev_now fun k => ?_
        rw [pNext, Option.bind_some, pPair h4 (nxt_dig h5 _).1]
        rfl
    · rw [if_neg hi, List.foldl_append, List.any_append]
      refine Ev.step (f := fun k => (translog_reader_roots.f k s ok ((m - sp n : Nat) : Int) ((n - sp n : Nat) : Int) false old).bind fun a => (translog_reader_next.f a.2.2.1 a.2.2.2).bind fun b => (translog_pair.f b.1 a.1).bind fun c => (translog_pair.f b.1 a.2.1).bind fun e => some (c, e, b.2.1, b.2.2)) (fun k => ?_) ?_
      · simp only [translog_reader_roots.j0]
        rw [if_neg (by decide), if_neg (by omega), hsp]
        simp only [Option.bind_some]
        rw [if_neg (by omega), w64 (by omega) (by omega), w64 (by omega) (by omega), show (m : Int) - (sp n : Int) = ((m - sp n : Nat) : Int) from by omega, show (n : Int) - (sp n : Int) = ((n - sp n : Nat) : Int) from by omega]
      · refine ev_bind (ih (n - sp n) (by omega) (m - sp n) f false (by omega) (by omega) (by omega) (by omega)) ?_
        have e1 : (w && !((cdirs f (m - sp n) (n - sp n)).any id || [true].any id)) = false := by simp
        rw [e1, Bool.false_and]
        obtain ⟨h3, h4, h5⟩ := cfold_inv (cdirs f (m - sp n) (n - sp n)) (seed_inv false ok hv hs)
        refine ev_now fun k => ?_
        rw [pNext, Option.bind_some, pPair (nxt_dig h5 _).1 h3, Option.bind_some, pPair (nxt_dig h5 _).1 h4]
        rfl
/-- What a consistency proof says. -/
def cext (old new : Int) : List Bool → Int → Int → List Int → Bool
  | [], x, y, [] => x == old && y == new
  | [], _, _, _ :: _ => false
  | _ :: _, _, _, [] => false
  | d :: ds, x, y, z :: p => cext old new ds (if d then pairD z x else x) (if d then pairD z y else pairD y z) p
theorem cfold_false : ∀ (ds : List Bool) (x y : Int) (s : List Int), (ds.foldl cst (x, y, s, false)).2.2.2 = false
  | [], x, y, s => rfl
  | d :: ds, x, y, s => by
    have : cst (x, y, s, false) d = ((cst (x, y, s, false) d).1, (cst (x, y, s, false) d).2.1, (cst (x, y, s, false) d).2.2.1, false) := by
      unfold cst
      cases s <;> rfl
    rw [List.foldl_cons, this]
    exact cfold_false ds _ _ _
theorem cext_eq (old new : Int) : ∀ (ds : List Bool) (x y : Int) (s : List Int), cext old new ds x y s = ((ds.foldl cst (x, y, s, true)).2.2.2 && (ds.foldl cst (x, y, s, true)).2.2.1.isEmpty && ((ds.foldl cst (x, y, s, true)).1 == old && (ds.foldl cst (x, y, s, true)).2.1 == new))
  | [], x, y, [] => by simp [cext]
  | [], x, y, z :: l => by simp [cext]
  | d :: ds, x, y, [] => by
    rw [List.foldl_cons, show cst (x, y, [], true) d = ((cst (x, y, [], true) d).1, (cst (x, y, [], true) d).2.1, [], false) from rfl, cfold_false]
    rfl
  | d :: ds, x, y, z :: l => by
    rw [List.foldl_cons, show cst (x, y, z :: l, true) d = (if d then pairD z x else x, if d then pairD z y else pairD y z, l, true) from rfl]
    exact cext_eq old new ds _ _ l
def consOf (old new : Int) (m n : Nat) (p : List Int) : Bool :=
  if (cdirs 64 m n).any id then (match p with | [] => false | z :: p => cext old new (cdirs 64 m n) z z p) else cext old new (cdirs 64 m n) old old p
theorem consOf_eq (old new : Int) (m n : Nat) (p : List Int) : consOf old new m n p = ((((cdirs 64 m n).foldl cst (seed (true && !(cdirs 64 m n).any id) old p true)).2.2.2 && ((cdirs 64 m n).foldl cst (seed (true && !(cdirs 64 m n).any id) old p true)).2.2.1.isEmpty) && (((cdirs 64 m n).foldl cst (seed (true && !(cdirs 64 m n).any id) old p true)).1 == old && ((cdirs 64 m n).foldl cst (seed (true && !(cdirs 64 m n).any id) old p true)).2.1 == new)) := by
  unfold consOf
  by_cases h : (cdirs 64 m n).any id = true
  · rw [if_pos h, h]
    cases p with
    | nil =>
      rw [show seed (true && !true) old [] true = ((0 : Int), (0 : Int), [], false) from rfl, cfold_false]
      rfl
    | cons z p => exact cext_eq old new _ z z p
  · rw [if_neg h]
    rw [Bool.not_eq_true] at h
    rw [h]
    exact cext_eq old new _ old old p
def conFault (old m new n : Int) (p : List Int) : Int × Int := bad (isDig old) (decide (1 ≤ m ∧ m ≤ n)) (isDig new) (decide (1 ≤ n ∧ n ≤ 64)) p
def conOk (old m new n : Int) (p : List Int) : Bool := decide ((conFault old m new n p).1 = 0) && consOf old new m.toNat n.toNat p
theorem pCons_ev (old m new n : Int) (p : List Int) : Ev (fun k => translog_VerifyConsistency.f k old m new n p) (conOk old m new n p, (conFault old m new n p).1, (conFault old m new n p).2) := by
  unfold translog_VerifyConsistency.f
  simp only [sIsDig, Option.bind_some]
  by_cases hw : (conFault old m new n p).1 = 0
  · obtain ⟨h1, h2, h3, h4, h5, h6, h7⟩ := bad_ok hw
    rw [decide_eq_true_eq] at h2 h4
    have h8 : conFault old m new n p = (0, 0) := h7
    refine ev_if_pos (by omega) (ev_if_pos (by omega) ?_)
    refine ev_bind (ranges_ev _ _ _ _) ?_
    rw [h1, h3, decide_eq_true (show m ≤ n by omega), decide_eq_true (show n ≤ 64 by omega)]
    refine ev_if_neg (by decide) ?_
    refine ev_bind (pPf_ev p) ?_
    rw [pfFault_of h5 h6]
    refine ev_if_neg (by decide) ?_
    obtain ⟨n', rfl⟩ := Int.eq_ofNat_of_zero_le (show 0 ≤ n by omega)
    obtain ⟨m', rfl⟩ := Int.eq_ofNat_of_zero_le (show 0 ≤ m by omega)
    refine ev_bind (roots_ev old p true h1 h6 n' m' 64 true (by omega) (by omega) (by omega) (by omega)) ?_
    simp only [pDone, Option.bind_some]
    unfold conOk
    rw [h8, consOf_eq]
    simp only [Int.toNat_natCast, decide_true, Bool.true_and]
    generalize (cdirs 64 m' n').foldl cst (seed (!(cdirs 64 m' n').any id) old p true) = st
    by_cases hc : (st.2.2.2 && st.2.2.1.isEmpty) = true
    · refine ev_if_pos hc ?_
      rw [hc, Bool.true_and]
      by_cases hx : st.1 = old
      · refine ev_if_pos hx ?_
        rw [hx, beq_self_eq_true, Bool.true_and]
        exact Ev.now _
      · refine ev_if_neg hx ?_
        rw [beq_eq_false_iff_ne.mpr hx, Bool.false_and]
        exact Ev.now _
    · refine ev_if_neg hc ?_
      rw [Bool.not_eq_true] at hc
      rw [hc, Bool.false_and]
      exact Ev.now _
  · have hv : conOk old m new n p = false := by
      unfold conOk
      rw [decide_eq_false hw]
      rfl
    rw [hv]
    have key : ∀ (a b c d : Bool) (g : Nat → Option (Bool × Int × Int)), conFault old m new n p = rng a b c d → ¬ (rng a b c d).1 = 0 → Ev (fun k => (translog_ranges.f k [a, b, c, d]).bind fun bt => if (!(bt.1 == 0) || (!(bt.2 == 0))) = true then some (false, bt.1, bt.2) else g k) (false, (conFault old m new n p).1, (conFault old m new n p).2) := by
      intro a b c d g e1 e2
      refine ev_bind (ranges_ev a b c d) ?_
      refine ev_if_pos (ne_zero e2) ?_
      rw [e1]
      exact Ev.now _
    by_cases hm : m ≥ 1
    · refine ev_if_pos hm ?_
      have e0 : decide (1 ≤ m ∧ m ≤ n) = decide (m ≤ n) := by rw [decide_eq_decide]; omega
      by_cases hn : n ≥ 1
      · refine ev_if_pos hn ?_
        have e1 : decide (1 ≤ n ∧ n ≤ 64) = decide (n ≤ 64) := by rw [decide_eq_decide]; omega
        by_cases hr : (rng (isDig old) (decide (m ≤ n)) (isDig new) (decide (n ≤ 64))).1 = 0
        · have e : conFault old m new n p = pfFault p := by
            unfold conFault bad
            rw [e0, e1]
            revert hr
            unfold rng
            cases isDig old <;> cases decide (m ≤ n) <;> cases isDig new <;> cases decide (n ≤ 64) <;> intro hr <;> first | exact absurd hr (by decide) | rfl
          have e2 : rng (isDig old) (decide (m ≤ n)) (isDig new) (decide (n ≤ 64)) = (0, 0) := by
            revert hr
            unfold rng
            cases isDig old <;> cases decide (m ≤ n) <;> cases isDig new <;> cases decide (n ≤ 64) <;> intro hr <;> first | exact absurd hr (by decide) | rfl
          refine ev_bind (ranges_ev _ _ _ _) ?_
          refine ev_if_neg (eq_zero' e2) ?_
          refine ev_bind (pPf_ev p) ?_
          rw [e] at hw ⊢
          refine ev_if_pos (ne_zero hw) ?_
          exact Ev.now _
        · have e : conFault old m new n p = rng (isDig old) (decide (m ≤ n)) (isDig new) (decide (n ≤ 64)) := by
            unfold conFault bad
            rw [e0, e1]
            revert hr
            unfold rng
            cases isDig old <;> cases decide (m ≤ n) <;> cases isDig new <;> cases decide (n ≤ 64) <;> intro hr <;> first | exact absurd rfl hr | rfl
          exact key _ _ _ _ _ e hr
      · refine ev_if_neg hn ?_
        refine key (isDig old) (decide (m ≤ n)) (isDig new) false _ ?_ ?_
        · unfold conFault bad rng
          rw [e0, show decide (1 ≤ n ∧ n ≤ 64) = false from by rw [decide_eq_false_iff_not]; omega]
          rfl
        · have : decide (m ≤ n) = false := by rw [decide_eq_false_iff_not]; omega
          rw [this]
          exact rng_ne _ _ _ _ (by simp)
    · refine ev_if_neg hm ?_
      have e0 : decide (1 ≤ m ∧ m ≤ n) = false := by rw [decide_eq_false_iff_not]; omega
      by_cases hn : n ≥ 1
      · refine ev_if_pos hn ?_
        refine key (isDig old) false (isDig new) (decide (n ≤ 64)) _ ?_ ?_
        · unfold conFault bad rng
          rw [e0]
          cases isDig old <;> rfl
        · exact rng_ne _ _ _ _ (by simp)
      · refine ev_if_neg hn ?_
        refine key (isDig old) false (isDig new) false _ ?_ ?_
        · unfold conFault bad rng
          rw [e0]
          cases isDig old <;> rfl
        · exact rng_ne _ _ _ _ (by simp)
theorem sp_pow (j t : Nat) (h1 : 1 ≤ t) (h2 : t ≤ 2 ^ j) : sp (2 ^ j + t) = 2 ^ j := by
  have hp : 1 ≤ 2 ^ j := Nat.one_le_two_pow
  unfold sp
  rw [(Nat.log2_eq_iff (by omega)).mpr (⟨by omega, by rw [Nat.pow_succ]; omega⟩ : 2 ^ j ≤ 2 ^ j + t - 1 ∧ 2 ^ j + t - 1 < 2 ^ (j + 1))]
theorem root_join {a b : List Int} {j : Nat} (ha : a.length = 2 ^ j) (h1 : 1 ≤ b.length) (h2 : b.length ≤ 2 ^ j) : root (a ++ b) = pairD (root a) (root b) := by
  have hp : 1 ≤ 2 ^ j := Nat.one_le_two_pow
  have e : sp (a ++ b).length = a.length := by rw [List.length_append, ha, sp_pow j b.length h1 h2]
  rw [root_big (by rw [List.length_append]; omega), e, List.take_left, List.drop_left]
def subp (l : List Int) (m : Nat) (w : Bool) : List Int :=
  if h : l.length < 2 ∨ m = l.length then (if w then [] else [root l]) else if m ≤ sp l.length then subp (l.take (sp l.length)) m w ++ [root (l.drop (sp l.length))] else subp (l.drop (sp l.length)) (m - sp l.length) false ++ [root (l.take (sp l.length))]
termination_by l.length
decreasing_by
  · rw [List.length_take]
    have := sp_lt (n := l.length) (by omega)
    omega
  · rw [List.length_drop]
    have := sp_pos l.length
    omega
theorem subp_end {l : List Int} {m : Nat} (h : m = l.length) (w : Bool) : subp l m w = if w then [] else [root l] := by rw [subp, dif_pos (Or.inr h)]
theorem subp_left {l : List Int} {m : Nat} (h1 : 1 ≤ m) (h : m < l.length) (w : Bool) (hi : m ≤ sp l.length) : subp l m w = subp (l.take (sp l.length)) m w ++ [root (l.drop (sp l.length))] := by rw [subp, dif_neg (by omega), if_pos hi]
theorem subp_right {l : List Int} {m : Nat} (h1 : 1 ≤ m) (h : m < l.length) (w : Bool) (hi : ¬ m ≤ sp l.length) : subp l m w = subp (l.drop (sp l.length)) (m - sp l.length) false ++ [root (l.take (sp l.length))] := by rw [subp, dif_neg (by omega), if_neg hi]
theorem subp_facts : ∀ (n : Nat) (l : List Int) (m : Nat) (w : Bool), l.length = n → 1 ≤ m → m ≤ n → allDig l → (subp l m w).length ≤ n ∧ allDig (subp l m w) := by
  intro n
  induction n using Nat.strongRecOn with
  | _ n ih =>
    intro l m w hl hm hmn hd
    by_cases h2 : m = n
    · rw [subp_end (by omega)]
      cases w
      · refine ⟨by simp; omega, fun x hx => ?_⟩
        simp only [Bool.false_eq_true, if_false, List.mem_singleton] at hx
        rw [hx]
        exact root_dig hd
      · exact ⟨Nat.zero_le _, fun x hx => by simp at hx⟩
    have hlt := sp_lt (n := n) (by omega)
    have hp := sp_pos n
    by_cases hi : m ≤ sp n
    · rw [subp_left hm (by omega) w (by rw [hl]; exact hi), hl]
      obtain ⟨h3, h4⟩ := ih (sp n) hlt (l.take (sp n)) m w (by rw [List.length_take]; omega) hm hi (take_dig hd _)
      refine ⟨by rw [List.length_append, List.length_singleton]; omega, fun x hx => ?_⟩
      rcases List.mem_append.mp hx with h5 | h5
      · exact h4 x h5
      · rw [List.mem_singleton.mp h5]
        exact root_dig (drop_dig hd _)
    · rw [subp_right hm (by omega) w (by rw [hl]; exact hi), hl]
      obtain ⟨h3, h4⟩ := ih (n - sp n) (by omega) (l.drop (sp n)) (m - sp n) false (by rw [List.length_drop]; omega) (by omega) (by omega) (drop_dig hd _)
      refine ⟨by rw [List.length_append, List.length_singleton]; omega, fun x hx => ?_⟩
      rcases List.mem_append.mp hx with h5 | h5
      · exact h4 x h5
      · rw [List.mem_singleton.mp h5]
        exact root_dig (take_dig hd _)
theorem pSub_ev : ∀ (n : Nat) (l : List Int) (m : Nat) (w : Bool), l.length = n → n ≤ 64 → 1 ≤ m → m ≤ n → allDig l → Ev (fun k => translog_subproof.f k l (m : Int) w) (subp l m w) := by
  intro n
  induction n using Nat.strongRecOn with
  | _ n ih =>
    intro l m w hl hn hm hmn hd
    by_cases h1 : m = n
    · rw [subp_end (by omega)]
      refine Ev.step (f := fun k => translog_subproof.j0 k l (m : Int) w (l.length : Int) w) (fun k => by simp only [translog_subproof.f]; rw [if_pos (by omega)]) ?_
      cases w
      · refine Ev.step (fun k => by simp only [translog_subproof.j0]; rw [if_neg (by decide), if_pos (by omega)]) ?_
        exact ev_bind (pRoot_ev n l hl hn hd) (Ev.now _)
      · refine Ev.step (f := fun _ => some []) (fun k => by simp only [translog_subproof.j0]; rw [if_pos trivial]) ?_
        exact Ev.now _
    have hsp := sp_split (n := n) (by omega) hn
    have hlt := sp_lt (n := n) (by omega)
    have hp := sp_pos n
    refine Ev.step (f := fun k => translog_subproof.j0 k l (m : Int) w (l.length : Int) false) (fun k => by simp only [translog_subproof.f]; rw [if_neg (by omega)]) ?_
    by_cases hi : m ≤ sp n
    · rw [subp_left hm (by omega) w (by rw [hl]; exact hi), hl]
      refine Ev.step (f := fun k => (translog_subproof.f k (l.take (sp n)) (m : Int) w).bind fun a => (translog_root.f k (l.drop (sp n))).bind fun b => if a.length < 17592186044416 then some (a ++ [b]) else none) (fun k => ?_) ?_
      · simp only [translog_subproof.j0]
        rw [if_neg (by decide), if_neg (by omega), hsp]
        simp only [Option.bind_some]
        rw [if_pos (by omega), if_pos (by omega), if_pos (by omega)]
        simp only [Int.toNat_natCast]
      · refine ev_bind (ih (sp n) hlt (l.take (sp n)) m w (by rw [List.length_take]; omega) (by omega) hm hi (take_dig hd _)) ?_
        refine ev_bind (pRoot_ev (n - sp n) (l.drop (sp n)) (by rw [List.length_drop]; omega) (by omega) (drop_dig hd _)) ?_
        have := (subp_facts (sp n) (l.take (sp n)) m w (by rw [List.length_take]; omega) hm hi (take_dig hd _)).1
        exact ev_if_pos (by omega) (Ev.now _)
    · rw [subp_right hm (by omega) w (by rw [hl]; exact hi), hl]
      refine Ev.step (f := fun k => (translog_subproof.f k (l.drop (sp n)) ((m - sp n : Nat) : Int) false).bind fun a => (translog_root.f k (l.take (sp n))).bind fun b => if a.length < 17592186044416 then some (a ++ [b]) else none) (fun k => ?_) ?_
      · simp only [translog_subproof.j0]
        rw [if_neg (by decide), if_neg (by omega), hsp]
        simp only [Option.bind_some]
        rw [if_neg (by omega), if_pos (by omega), if_pos (by omega), w64 (by omega) (by omega), show (m : Int) - (sp n : Int) = ((m - sp n : Nat) : Int) from by omega]
        simp only [Int.toNat_natCast]
      · refine ev_bind (ih (n - sp n) (by omega) (l.drop (sp n)) (m - sp n) false (by rw [List.length_drop]; omega) (by omega) (by omega) (by omega) (drop_dig hd _)) ?_
        refine ev_bind (pRoot_ev (sp n) (l.take (sp n)) (by rw [List.length_take]; omega) (by omega) (take_dig hd _)) ?_
        have := (subp_facts (n - sp n) (l.drop (sp n)) (m - sp n) false (by rw [List.length_drop]; omega) (by omega) (by omega) (drop_dig hd _)).1
        exact ev_if_pos (by omega) (Ev.now _)
theorem rLeaves_loop (l : List Int) (hl : l.length ≤ 64) : ∀ (d i : Nat), i + d = l.length → Ev (fun k => changeforgeref5_LeavesFault.l0 k l i) (digFault i (l.drop i)) := by
  intro d
  induction d with
  | zero =>
    intro i hi
    refine Ev.step (f := fun _ => some (0, 0)) (fun k => by simp only [changeforgeref5_LeavesFault.l0]; rw [if_neg (by omega)]) ?_
    rw [List.drop_of_length_le (by omega)]
    exact Ev.now _
  | succ d ih =>
    intro i hi
    have h1 : i < l.length := by omega
    rw [drop_cons h1]
    by_cases hd : isDig l[i] = true
    · refine Ev.step (fun k => by simp only [changeforgeref5_LeavesFault.l0]; rw [if_pos (by omega), if_pos (by omega), rd_get l i h1, rIsDig, Option.bind_some, if_pos hd, w64 (by omega) (by omega)]) ?_
      simp only [digFault, if_pos hd]
      exact ih (i + 1) (by omega)
    · refine Ev.step (f := fun _ => some (3, (i : Int))) (fun k => by simp only [changeforgeref5_LeavesFault.l0]; rw [if_pos (by omega), if_pos (by omega), rd_get l i h1, rIsDig, Option.bind_some, if_neg hd]; rfl) ?_
      simp only [digFault, if_neg hd]
      exact Ev.now _
theorem rLeaves_ev (l : List Int) : Ev (fun k => changeforgeref5_LeavesFault.f k l) (msgFault l) := by
  unfold changeforgeref5_LeavesFault.f msgFault
  by_cases h : (l.length : Int) ≤ 64
  · refine ev_if_neg (by omega) ?_
    simp only [if_pos h]
    exact rLeaves_loop l (by omega) l.length 0 (by omega)
  · refine ev_if_pos (by omega) ?_
    simp only [if_neg h]
    exact ev_now fun k => rfl
theorem pLeaves_loop (l : List Int) (hl : l.length ≤ 64) : ∀ (d i : Nat), i + d = l.length → Ev (fun k => translog_fault.l0 k l (l.length : Int) i) (digFault i (l.drop i)) := by
  intro d
  induction d with
  | zero =>
    intro i hi
    refine Ev.step (f := fun _ => some (0, 0)) (fun k => by simp only [translog_fault.l0]; rw [if_neg (by omega)]) ?_
    rw [List.drop_of_length_le (by omega)]
    exact Ev.now _
  | succ d ih =>
    intro i hi
    have h1 : i < l.length := by omega
    rw [drop_cons h1]
    by_cases hd : isDig l[i] = true
    · refine Ev.step (fun k => by simp only [translog_fault.l0]; rw [if_pos (by omega), if_pos (by omega), if_pos (by omega), rd_get l i h1, sIsDig, Option.bind_some, if_pos hd, w64 (by omega) (by omega)]) ?_
      simp only [digFault, if_pos hd]
      exact ih (i + 1) (by omega)
    · refine Ev.step (f := fun _ => some (3, (i : Int))) (fun k => by simp only [translog_fault.l0]; rw [if_pos (by omega), if_pos (by omega), if_pos (by omega), rd_get l i h1, sIsDig, Option.bind_some, if_neg hd]) ?_
      simp only [digFault, if_neg hd]
      exact Ev.now _
theorem pLeaves_ev (l : List Int) : Ev (fun k => translog_fault.f k l) (msgFault l) := by
  unfold translog_fault.f msgFault
  by_cases h : (l.length : Int) ≤ 64
  · refine ev_if_neg (by omega) ?_
    simp only [if_pos h]
    exact pLeaves_loop l (by omega) l.length 0 (by omega)
  · refine ev_if_pos (by omega) ?_
    simp only [if_neg h]
    exact Ev.now _
theorem pRootX_ev (l : List Int) : Ev (fun k => translog_Root.f k l) (if (msgFault l).1 = 0 then root l else 0, (msgFault l).1, (msgFault l).2) := by
  unfold translog_Root.f
  refine ev_bind (pLeaves_ev l) ?_
  by_cases h : (msgFault l).1 = 0
  · obtain ⟨h1, h2, h3⟩ := msgFault_ok h
    refine ev_if_neg (eq_zero' h3) ?_
    rw [h3]
    exact ev_bind (pRoot_ev l.length l rfl (by omega) h2) (Ev.now _)
  · refine ev_if_pos (ne_zero h) ?_
    rw [if_neg h]
    exact Ev.now _
def proveFault (l : List Int) (i : Int) : Int × Int := if (msgFault l).1 = 0 then (if 0 ≤ i ∧ i < l.length then (0, 0) else (3, -1)) else msgFault l
theorem pProveX_ev (l : List Int) (i : Int) : Ev (fun k => translog_Prove.f k l i) (if (proveFault l i).1 = 0 then prv l i.toNat else [], (proveFault l i).1, (proveFault l i).2) := by
  unfold translog_Prove.f
  refine ev_bind (pLeaves_ev l) ?_
  unfold proveFault
  by_cases h : (msgFault l).1 = 0
  · obtain ⟨h1, h2, h3⟩ := msgFault_ok h
    refine ev_if_neg (eq_zero' h3) ?_
    rw [if_pos h]
    by_cases hi : 0 ≤ i ∧ i < l.length
    · rw [if_pos hi]
      refine ev_if_neg (by omega) (ev_if_neg (by omega) ?_)
      obtain ⟨i', rfl⟩ := Int.eq_ofNat_of_zero_le hi.1
      exact ev_bind (pProve_ev l.length l i' rfl (by omega) (by omega) h2) (Ev.now _)
    · rw [if_neg hi]
      by_cases h0 : i < 0
      · exact ev_if_pos h0 (Ev.now _)
      · exact ev_if_neg h0 (ev_if_pos (by omega) (Ev.now _))
  · refine ev_if_pos (ne_zero h) ?_
    rw [if_neg h, if_neg h]
    exact Ev.now _
def contFault (l : List Int) (m : Int) : Int × Int := if (msgFault l).1 = 0 then (if 1 ≤ m ∧ m ≤ l.length then (0, 0) else (3, -1)) else msgFault l
theorem pContX_ev (l : List Int) (m : Int) : Ev (fun k => translog_ProveConsistency.f k l m) (if (contFault l m).1 = 0 then subp l m.toNat true else [], (contFault l m).1, (contFault l m).2) := by
  unfold translog_ProveConsistency.f
  refine ev_bind (pLeaves_ev l) ?_
  unfold contFault
  by_cases h : (msgFault l).1 = 0
  · obtain ⟨h1, h2, h3⟩ := msgFault_ok h
    refine ev_if_neg (eq_zero' h3) ?_
    rw [if_pos h]
    by_cases hi : 1 ≤ m ∧ m ≤ l.length
    · rw [if_pos hi]
      refine ev_if_neg (by omega) (ev_if_neg (by omega) ?_)
      obtain ⟨m', rfl⟩ := Int.eq_ofNat_of_zero_le (show 0 ≤ m by omega)
      exact ev_bind (pSub_ev l.length l m' true rfl (by omega) (by omega) (by omega) h2) (Ev.now _)
    · rw [if_neg hi]
      by_cases h0 : m < 1
      · exact ev_if_pos h0 (Ev.now _)
      · exact ev_if_neg h0 (ev_if_pos (by omega) (Ev.now _))
  · refine ev_if_pos (ne_zero h) ?_
    rw [if_neg h, if_neg h]
    exact Ev.now _
theorem rd_take {l : List Int} {k i : Nat} (h : i < k) : rd (l.take k) (i : Int) = rd l (i : Int) := by
  unfold rd
  rw [List.getD_eq_getElem?_getD, List.getD_eq_getElem?_getD, Int.toNat_natCast, List.getElem?_take_of_lt h]
theorem rd_drop {l : List Int} {k i : Nat} (h : k ≤ i) : rd (l.drop k) ((i - k : Nat) : Int) = rd l (i : Int) := by
  unfold rd
  rw [List.getD_eq_getElem?_getD, List.getD_eq_getElem?_getD, Int.toNat_natCast, Int.toNat_natCast, List.getElem?_drop]
  congr 2
  omega
theorem prv_fold : ∀ (f : Nat) (l : List Int) (i : Nat) (t : List Int), l.length ≤ f → i < l.length → (dirs f l.length i).foldl stp (rd l (i : Int), prv l i ++ t, true) = (root l, t, true) := by
  intro f
  induction f with
  | zero => intro l i t hl hi; omega
  | succ f ih =>
    intro l i t hl hi
    by_cases h2 : l.length < 2
    · rw [prv_small h2, root_small h2]
      simp only [dirs, if_pos h2, List.foldl_nil, List.nil_append]
      rw [show i = 0 from by omega]
      rfl
    have hlt := sp_lt (n := l.length) (by omega)
    have hp := sp_pos l.length
    have e1 : (l.take (sp l.length)).length = sp l.length := by rw [List.length_take]; omega
    have e2 : (l.drop (sp l.length)).length = l.length - sp l.length := by rw [List.length_drop]
    simp only [dirs, if_neg h2]
    rw [root_big (l := l) (by omega)]
    by_cases hc : i < sp l.length
    · have := ih (l.take (sp l.length)) i ([root (l.drop (sp l.length))] ++ t) (by omega) (by omega)
      rw [e1, rd_take hc] at this
      rw [prv_left (by omega) hc, if_pos hc, List.foldl_append, List.append_assoc, this]
      rfl
    · have := ih (l.drop (sp l.length)) (i - sp l.length) ([root (l.take (sp l.length))] ++ t) (by omega) (by omega)
      rw [e2, rd_drop (by omega)] at this
      rw [prv_right (by omega) hc, if_neg hc, List.foldl_append, List.append_assoc, this]
      rfl
theorem prv_incl {l : List Int} {i : Nat} (hl : l.length ≤ 64) (hi : i < l.length) : incl (dirs 64 l.length i) (root l) (rd l (i : Int)) (prv l i) = true := by
  have := prv_fold 64 l i [] hl hi
  rw [List.append_nil] at this
  rw [incl_eq, this]
  simp
theorem root_take {l : List Int} {m : Nat} (hl : l.length ≤ 64) (h1 : sp l.length < m) (h2 : m ≤ l.length) (h3 : 2 ≤ l.length) :
    pairD (root (l.take (sp l.length))) (root ((l.drop (sp l.length)).take (m - sp l.length))) = root (l.take m) := by
  have h4 := sp_two h3 hl
  have e : l.take m = l.take (sp l.length) ++ (l.drop (sp l.length)).take (m - sp l.length) := by
    rw [← List.take_add]
    congr 1
    omega
  rw [e]
  symm
  refine root_join (j := Nat.log2 (l.length - 1)) ?_ ?_ ?_
  · rw [List.length_take]
    show min (sp l.length) _ = sp l.length
    omega
  · rw [List.length_take, List.length_drop]
    omega
  · rw [List.length_take, List.length_drop]
    show _ ≤ sp l.length
    omega
theorem subp_fold : ∀ (f : Nat) (l : List Int) (m : Nat) (w : Bool) (old : Int) (t : List Int), l.length ≤ f → l.length ≤ 64 → 1 ≤ m → m ≤ l.length → (w = true → old = root (l.take m)) →
    (cdirs f m l.length).foldl cst (seed (w && !(cdirs f m l.length).any id) old (subp l m w ++ t) true) = (root (l.take m), root l, t, true) := by
  intro f
  induction f with
  | zero => intro l m w old t hl _ hm hml; omega
  | succ f ih =>
    intro l m w old t hl hl2 hm hml hw
    by_cases h1 : m = l.length
    · rw [subp_end h1, h1, List.take_of_length_le (Nat.le_refl _)]
      simp only [cdirs, if_true, List.any_nil, Bool.not_false, Bool.and_true, List.foldl_nil]
      cases w
      · rfl
      · have := hw rfl
        rw [h1, List.take_of_length_le (Nat.le_refl _)] at this
        rw [this]
        rfl
    have hlt := sp_lt (n := l.length) (by omega)
    have hp := sp_pos l.length
    have e1 : (l.take (sp l.length)).length = sp l.length := by rw [List.length_take]; omega
    have e2 : (l.drop (sp l.length)).length = l.length - sp l.length := by rw [List.length_drop]
    simp only [cdirs, if_neg h1]
    rw [root_big (l := l) (by omega)]
    by_cases hc : m ≤ sp l.length
    · have e3 : (l.take (sp l.length)).take m = l.take m := by rw [List.take_take]; congr 1; omega
      have := ih (l.take (sp l.length)) m w old ([root (l.drop (sp l.length))] ++ t) (by omega) (by omega) hm (by omega) (by rw [e3]; exact hw)
      rw [e1, e3] at this
      rw [subp_left hm (by omega) w hc, if_pos hc, List.foldl_append, List.append_assoc, List.any_append]
      simp only [List.any_cons, List.any_nil, id, Bool.or_false]
      rw [this]
      rfl
    · have := ih (l.drop (sp l.length)) (m - sp l.length) false old ([root (l.take (sp l.length))] ++ t) (by omega) (by omega) (by omega) (by omega) (fun h => by cases h)
      rw [e2, Bool.false_and] at this
      have e4 : (w && !((cdirs f (m - sp l.length) (l.length - sp l.length)).any id || [true].any id)) = false := by simp
      rw [subp_right hm (by omega) w hc, if_neg hc, List.foldl_append, List.append_assoc, List.any_append, e4, this, ← root_take hl2 (by omega) hml (by omega)]
      rfl
theorem subp_cons {l : List Int} {m : Nat} (hl : l.length ≤ 64) (hm : 1 ≤ m) (hml : m ≤ l.length) : consOf (root (l.take m)) (root l) m l.length (subp l m true) = true := by
  have := subp_fold 64 l m true (root (l.take m)) [] hl hl hm hml (fun _ => rfl)
  rw [List.append_nil] at this
  rw [consOf_eq, this]
  simp
theorem kNe_zero {x : Int × Int} (h : ¬ x.1 = 0) : (!(x.1 == 0) || (!(x.2 == 0))) = true := by simp [h]
theorem kEq_zero {x : Int × Int} (h : x = (0, 0)) : ¬ (!(x.1 == 0) || (!(x.2 == 0))) = true := by rw [h]; decide
theorem kLeaves_loop (l : List Int) (hl : l.length ≤ 64) : ∀ (d i : Nat), i + d = l.length → Ev (fun k => translog_fault.l0 k l (l.length : Int) i) (digFault i (l.drop i)) := by
  intro d
  induction d with
  | zero =>
    intro i hi
    refine Ev.step (f := fun _ => some (0, 0)) (fun k => by simp only [translog_fault.l0]; rw [if_neg (by omega)]) ?_
    rw [List.drop_of_length_le (by omega)]
    exact Ev.now _
  | succ d ih =>
    intro i hi
    have h1 : i < l.length := by omega
    rw [drop_cons h1]
    by_cases hd : isDig l[i] = true
    · refine Ev.step (fun k => by simp only [translog_fault.l0]; rw [if_pos (by omega), if_pos (by omega), if_pos (by omega), rd_get l i h1, sIsDig, Option.bind_some, if_pos hd, w64 (by omega) (by omega)]) ?_
      simp only [digFault, if_pos hd]
      exact ih (i + 1) (by omega)
    · refine Ev.step (f := fun _ => some (3, (i : Int))) (fun k => by simp only [translog_fault.l0]; rw [if_pos (by omega), if_pos (by omega), if_pos (by omega), rd_get l i h1, sIsDig, Option.bind_some, if_neg hd]) ?_
      simp only [digFault, if_neg hd]
      exact Ev.now _
theorem kLeaves_ev (l : List Int) : Ev (fun k => translog_fault.f k l) (msgFault l) := by
  unfold translog_fault.f msgFault
  by_cases h : (l.length : Int) ≤ 64
  · refine ev_if_neg (by omega) ?_
    simp only [if_pos h]
    exact kLeaves_loop l (by omega) l.length 0 (by omega)
  · refine ev_if_pos (by omega) ?_
    simp only [if_neg h]
    exact Ev.now _
theorem kRootX_ev (l : List Int) : Ev (fun k => translog_Root.f k l) (if (msgFault l).1 = 0 then root l else 0, (msgFault l).1, (msgFault l).2) := by
  unfold translog_Root.f
  refine ev_bind (kLeaves_ev l) ?_
  by_cases h : (msgFault l).1 = 0
  · obtain ⟨h1, h2, h3⟩ := msgFault_ok h
    refine ev_if_neg (kEq_zero h3) ?_
    rw [h3]
    exact ev_bind (pRoot_ev l.length l rfl (by omega) h2) (Ev.now _)
  · refine ev_if_pos (kNe_zero h) ?_
    rw [if_neg h]
    exact Ev.now _
theorem ex_keys2 : keyring_Keys.f [⟨1, 5, 3, 1⟩] 3 1 = some ([5], 0, 0) := by rfl
theorem kern_ev : Ev (fun k => changeforgetop_kernSigns.f k) true := by
  unfold changeforgetop_kernSigns.f
  have e1 : signRes 1 [] = (1000041, 0, 0) := by decide
  have e3 : msgRes [258] = ([0, 0, 0, 0, 0, 0, 1, 2], 0, 0) := by decide
  have e4 : msgFault [1, 2] = (0, 0) := by decide
  have e5 : root [1, 2] = 1000072 := by
    rw [root_big (by decide), root_small (by decide), root_small (by decide)]
    decide
  have e6 : signersRes [1] [] [(⟨1, 1000041⟩ : Sg)] = ([1], 0, 0) := by decide
  have hb : isByte [] := fun x hx => by simp at hx
  refine ev_bind (sign_ev 1 [] hb) (ev_bind (pMsg_ev [258]) (ev_bind (kRootX_ev [1, 2]) ?_))
  simp only [ex_keys2, Option.bind_some]
  refine ev_bind (pSigners_ev [1] [] [(⟨1, 1000041⟩ : Sg)] hb) ?_
  rw [e1, e3, e4, e5, e6]
  simp only [if_true, List.length_cons, List.length_nil]
  refine ev_if_pos (by decide) (ev_bind (rInts_ev [5] [5] (by decide)) (ev_if_pos (by decide) (ev_bind (rInts_ev [1] [1] (by decide)) ?_)))
  exact ev_now fun k => rfl
end Go.Proofs.Ytnkonhplfldlmaa.Pure
