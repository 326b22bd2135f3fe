/- Plain lemmas: small functions of the program and the reference (ranges, keys, digests, faults), over numbers. No condition but what each states. -/
import Derived.Test.YtnkonhplfldlmaaFf27
import Derived.Test.YtnkonhplfldlmaaFf32
import Derived.Test.YtnkonhplfldlmaaFf47
import Derived.Test.YtnkonhplfldlmaaFf48
import Derived.Test.YtnkonhplfldlmaaFf65
import Derived.Test.YtnkonhplfldlmaaFf82
import Derived.Test.YtnkonhplfldlmaaFn0
import Derived.Test.YtnkonhplfldlmaaFs0
set_option linter.unusedVariables false
namespace Go.Proofs.Ytnkonhplfldlmaa.Pure
open Go.RowKit Go.Proofs.Ytnkonhplfldlmaa.Fn Go.Proofs.YtnkonhplfldlmaaW.PrintWords Go.Proofs.YtnkonhplfldlmaaW.PrintLast Go.Proofs.YtnkonhplfldlmaaW.PrintMore

abbrev M61 : Int := 2305843009213693951
def isKey (k : Int) : Bool := decide (1 ≤ k ∧ k ≤ 1000000000)
def isDig (d : Int) : Bool := decide (0 ≤ d ∧ d < 2305843009213693951)

theorem w64 {n : Int} (h0 : -9223372036854775808 ≤ n) (h1 : n ≤ 9223372036854775807) : wrap64 n = n := by unfold wrap64; omega
theorem rd_get (xs : List Int) (i : Nat) (h : i < xs.length) : rd xs (i : Int) = xs[i] := by
  unfold rd
  rw [List.getD_eq_getElem?_getD, Int.toNat_natCast, List.getElem?_eq_getElem h]
  rfl
theorem ev_eq {α : Type} {g f : Nat → Option α} {r : α} (h : Ev g r) (e : ∀ k, f k = g k) : Ev f r := Ev.congr e h
theorem ev_now {α : Type} {g : Nat → Option α} {r : α} (h : ∀ k, g k = some r) : Ev g r := ⟨0, fun k _ => h k⟩
theorem ev_from {α : Type} {g : Nat → Option α} {r : α} (K : Nat) (h : ∀ k, K < k → g k = some r) : Ev g r := ⟨K + 1, fun k hk => h k (by omega)⟩
theorem ev_bind {α β : Type} {g : Nat → Option α} {f : Nat → α → Option β} {a : α} {r : β} (h : Ev g a) (k : Ev (fun n => f n a) r) : Ev (fun n => (g n).bind (f n)) r := Ev.bind h k
theorem ev_if_pos {α : Type} {c : Prop} [Decidable c] {g f : Nat → Option α} {r : α} (hc : c) (h : Ev g r) : Ev (fun k => if c then g k else f k) r := by
  simp only [if_pos hc]
  exact h
theorem ev_if_neg {α : Type} {c : Prop} [Decidable c] {g f : Nat → Option α} {r : α} (hc : ¬ c) (h : Ev f r) : Ev (fun k => if c then g k else f k) r := by
  simp only [if_neg hc]
  exact h
theorem ev_total {α : Type} {g : Nat → Option α} {r : α} (h : Ev g r) : ∃ k, g k = some r := h.rounds

theorem in_eq (a b c : Int) : changeforgeref5_in.f a b c = some (decide (b ≤ a ∧ a ≤ c)) := by
  unfold changeforgeref5_in.f
  by_cases h : a ≥ b
  · rw [if_pos h]
    congr 1
    rw [decide_eq_decide]
    omega
  · rw [if_neg h]
    congr 1
    symm
    rw [decide_eq_false_iff_not]
    omega
theorem fault_eq (a b : Int) : changeforgeref5_fault.f a b = some (a, b) := rfl
theorem rIsKey (a : Int) : changeforgeref5_IsKey.f a = some (isKey a) := by
  unfold changeforgeref5_IsKey.f
  rw [in_eq]
  rfl
theorem rIsDig (a : Int) : changeforgeref5_IsDigest.f a = some (isDig a) := by
  unfold changeforgeref5_IsDigest.f
  rw [in_eq]
  simp only [Option.bind_some, Option.some.injEq]
  unfold isDig
  rw [decide_eq_decide]
  omega
theorem sIsKey (a : Int) : signing_IsKey.f a = some (isKey a) := by
  unfold signing_IsKey.f
  by_cases h : a ≥ 1
  · rw [if_pos h]
    congr 1
    unfold isKey
    rw [decide_eq_decide]
    omega
  · rw [if_neg h]
    congr 1
    symm
    unfold isKey
    rw [decide_eq_false_iff_not]
    omega
theorem sIsDig (a : Int) : signing_IsDigest.f a = some (isDig a) := by
  unfold signing_IsDigest.f
  by_cases h : a ≥ 0
  · rw [if_pos h]
    congr 1
    unfold isDig
    rw [decide_eq_decide]
    omega
  · rw [if_neg h]
    congr 1
    symm
    unfold isDig
    rw [decide_eq_false_iff_not]
    omega
theorem isKey_iff (k : Int) : isKey k = true ↔ 1 ≤ k ∧ k ≤ 1000000000 := by unfold isKey; rw [decide_eq_true_eq]
theorem isDig_iff (k : Int) : isDig k = true ↔ 0 ≤ k ∧ k < 2305843009213693951 := by unfold isDig; rw [decide_eq_true_eq]
theorem isKey_false (k : Int) : isKey k = false ↔ ¬ (1 ≤ k ∧ k ≤ 1000000000) := by unfold isKey; rw [decide_eq_false_iff_not]
theorem isDig_false (k : Int) : isDig k = false ↔ ¬ (0 ≤ k ∧ k < 2305843009213693951) := by unfold isDig; rw [decide_eq_false_iff_not]

/-! digests -/
def isByte (l : List Int) : Prop := ∀ x ∈ l, 0 ≤ x ∧ x ≤ 255
def digFrom (h : Int) (l : List Int) : Int := l.foldl (fun h b => (h * 257 + b + 1) % 2305843009213693951) h
def dig (l : List Int) : Int := digFrom 1 l
def pairD (a b : Int) : Int := (a * 1000003 + b * 31 + 7) % 2305843009213693951
def sgn (key : Int) (data : List Int) : Int := pairD key (dig data)
theorem bytes_of_wf {l : List Int} (h : ∀ x ∈ l, (Lit.int .u8 x).wf = true) : isByte l := by
  intro x hx
  have := h x hx
  simp only [Lit.wf, Bool.and_eq_true, decide_eq_true_eq] at this
  have e0 : IntKind.u8.min = 0 := rfl
  have e1 : IntKind.u8.max = 255 := rfl
  omega
theorem pairD_lt (a b : Int) : 0 ≤ pairD a b ∧ pairD a b < 2305843009213693951 := by unfold pairD; omega
theorem digFrom_lt (l : List Int) : ∀ h, 0 ≤ h → h < 2305843009213693951 → 0 ≤ digFrom h l ∧ digFrom h l < 2305843009213693951 := by
  induction l with
  | nil => intro h h0 h1; exact ⟨h0, h1⟩
  | cons b l ih =>
    intro h h0 h1
    exact ih _ (Int.emod_nonneg _ (by omega)) (Int.emod_lt_of_pos _ (by omega))
theorem dig_lt (l : List Int) : 0 ≤ dig l ∧ dig l < 2305843009213693951 := digFrom_lt l 1 (by omega) (by omega)
theorem sgn_lt (k : Int) (l : List Int) : 0 ≤ sgn k l ∧ sgn k l < 2305843009213693951 := pairD_lt _ _
theorem isDig_sgn (k : Int) (l : List Int) : isDig (sgn k l) = true := (isDig_iff _).2 (sgn_lt k l)
theorem isDig_pairD (a b : Int) : isDig (pairD a b) = true := (isDig_iff _).2 (pairD_lt a b)
theorem isDig_dig (l : List Int) : isDig (dig l) = true := (isDig_iff _).2 (dig_lt l)
theorem key_isDig {k : Int} (h : isKey k = true) : 0 ≤ k ∧ k < 2305843009213693951 := by rw [isKey_iff] at h; omega

theorem mod_eq_small (p s z : Int) (hp : 0 ≤ p) (hp1 : p < 2305843009213693951) (hs : 0 ≤ s) (hs1 : s < 2305843009213693951) (h : (p + z) % 2305843009213693951 = (s + z) % 2305843009213693951) : p = s := by omega
theorem key_mul (a : Int) (h : 1 ≤ a ∧ a ≤ 1000000000) : 0 ≤ a * 1000003 ∧ a * 1000003 < 2305843009213693951 := by omega
/-- A key determines the signature of data, and is determined by it. -/
theorem sgn_inj {a b : Int} (ha : isKey a = true) (hb : isKey b = true) (d : List Int) (h : sgn a d = sgn b d) : a = b := by
  rw [isKey_iff] at ha hb
  unfold sgn pairD at h
  rw [Int.add_assoc, Int.add_assoc] at h
  have h1 := key_mul a ha
  have h2 := key_mul b hb
  exact Int.eq_of_mul_eq_mul_right (by decide) (mod_eq_small _ _ _ h1.1 h1.2 h2.1 h2.2 h)

theorem times_mod (a c : Int) : ∃ r, (a + a) % 2305843009213693951 * c = (a * c + a * c) - 2305843009213693951 * r := by
  refine ⟨(a + a) / 2305843009213693951 * c, ?_⟩
  have h : (a + a) % 2305843009213693951 = (a + a) - 2305843009213693951 * ((a + a) / 2305843009213693951) := by omega
  rw [h, Int.sub_mul, Int.add_mul, Int.mul_assoc]
theorem drop_cons {l : List Int} {i : Nat} (h : i < l.length) : l.drop i = l[i] :: l.drop (i + 1) := List.drop_eq_getElem_cons h
/-! the program's digests -/
theorem mul_eq (a b : Int) (h0 : 0 ≤ a) (h1 : a < 2305843009213693951) (h2 : 0 ≤ b) (h3 : b ≤ 1000003) (h4 : 0 ≤ a * b) (h5 : a * b < 2305850000000000000000000) : digest_mul.f a b = some (a * b % 2305843009213693951) := digest_mul_f_eq a b h0 h1 h2 h3 h4 h5
theorem pDigest_loop (l : List Int) (hb : isByte l) (hl : l.length ≤ 140737488351232) : ∀ (d i : Nat) (h : Int), i + d = l.length → 0 ≤ h → h < 2305843009213693951 →
    Ev (fun k => digest_Of.l0 k h l (l.length : Int) i) (digFrom h (l.drop i), 0, 0) := by
  intro d
  induction d with
  | zero =>
    intro i h hi h0 h1
    refine Ev.step (f := fun _ => some (wrap64 h, 0, 0)) (fun k => by simp only [digest_Of.l0]; rw [if_neg (by omega)]) ?_
    rw [List.drop_of_length_le (by omega), w64 (by omega) (by omega)]
    exact Ev.now _
  | succ d ih =>
    intro i h hi h0 h1
    have hlt : i < l.length := by omega
    refine Ev.step (fun k => by simp only [digest_Of.l0]; rw [if_pos (by omega), if_pos (by omega), if_pos (by omega), mul_eq h 257 h0 h1 (by omega) (by omega) (by omega) (by omega), Option.bind_some]) ?_
    have hbt := hb l[i] (List.getElem_mem hlt)
    have e0 : rd l (i : Int) = l[i] := rd_get l i hlt
    have e1 : wrap64 ((i : Int) + 1) = ((i + 1 : Nat) : Int) := by rw [w64 (by omega) (by omega)]; omega
    have e2 : IntKind.u64.wrap (rd l (i : Int)) = l[i] := by rw [e0, m61_wrap]; omega
    have e3 : IntKind.u64.wrap (h * 257 % 2305843009213693951 + l[i]) = h * 257 % 2305843009213693951 + l[i] := by rw [m61_wrap]; omega
    have e4 : IntKind.u64.wrap (h * 257 % 2305843009213693951 + l[i] + 1) = h * 257 % 2305843009213693951 + l[i] + 1 := by rw [m61_wrap]; omega
    have e5 : Int.tmod (h * 257 % 2305843009213693951 + l[i] + 1) 2305843009213693951 = (h * 257 + l[i] + 1) % 2305843009213693951 := by rw [Int.tmod_eq_emod_of_nonneg (by omega)]; omega
    simp only [e2, e3, e4, e5, e1]
    rw [drop_cons hlt]
    exact ih (i + 1) _ (by omega) (by omega) (by omega)
theorem pDigest_long (l : List Int) (k : Nat) (h : ¬ (l.length : Int) ≤ 4096) : digest_Of.f k l = some (0, 2, 0) := by unfold digest_Of.f; rw [if_pos (by omega)]
theorem pDigest_ev (l : List Int) (hb : isByte l) (h : (l.length : Int) ≤ 4096) : Ev (fun k => digest_Of.f k l) (dig l, 0, 0) := by
  unfold digest_Of.f
  refine ev_if_neg (by omega) ?_
  exact pDigest_loop l hb (by omega) l.length 0 1 (by omega) (by omega) (by omega)
theorem pPair_eq (a b : Int) (ha : isDig a = true) (hb : isDig b = true) : digest_Pair.f a b = some (pairD a b, 0, 0) := by
  rw [isDig_iff] at ha hb
  unfold digest_Pair.f
  rw [if_pos ha, if_pos hb]
  rfl
/-- The fault of a signature: what the program and the reference say. -/
def signFault (key : Int) (l : List Int) : Int × Int := if isKey key = true then (if (l.length : Int) ≤ 4096 then (0, 0) else (2, 0)) else (3, -1)
theorem sign_key (a : Int) (l : List Int) (ha : ¬ isKey a = true) (k : Nat) : signing_Sign.f k a l = some (0, 3, -1) := by
  unfold signing_Sign.f
  rw [sIsKey, Option.bind_some, if_neg ha]
theorem sign_long (a : Int) (l : List Int) (ha : isKey a = true) (h : ¬ (l.length : Int) ≤ 4096) (k : Nat) : signing_Sign.f k a l = some (0, 2, 0) := by
  unfold signing_Sign.f
  rw [sIsKey, Option.bind_some, if_pos ha, pDigest_long l k h]
  rfl
theorem sign_ok (a : Int) (l : List Int) (ha : isKey a = true) (hb : isByte l) (h : (l.length : Int) ≤ 4096) : Ev (fun k => signing_Sign.f k a l) (sgn a l, 0, 0) := by
  unfold signing_Sign.f
  simp only [sIsKey, Option.bind_some, if_pos ha]
  refine ev_bind (pDigest_ev l hb h) ?_
  refine ev_if_neg (by simp) (ev_now fun k => ?_)
  rw [pPair_eq a _ ((isDig_iff a).2 (key_isDig ha)) (isDig_dig l)]
  rfl
/-- The signature of data: the program's. -/
def signRes (a : Int) (l : List Int) : Int × Int × Int := if (signFault a l).1 = 0 then (sgn a l, 0, 0) else (0, (signFault a l).1, (signFault a l).2)
theorem sign_ev (a : Int) (l : List Int) (hb : isByte l) : Ev (fun k => signing_Sign.f k a l) (signRes a l) := by
  unfold signRes signFault
  by_cases h : isKey a = true
  · by_cases h2 : (l.length : Int) ≤ 4096
    · simp only [if_pos h, if_pos h2, if_true]
      exact sign_ok a l h hb h2
    · simp only [if_pos h, if_neg h2]
      exact ev_now (sign_long a l h h2)
  · simp only [if_neg h]
    exact ev_now (sign_key a l h)
/-- The check of a signature: the program's. -/
def verifyRes (a : Int) (l : List Int) (s : Int) : Bool × Int × Int := if (signFault a l).1 = 0 then (if isDig s = true then (sgn a l == s, 0, 0) else (false, 3, -2)) else (false, (signFault a l).1, (signFault a l).2)
theorem verify_ev (a : Int) (l : List Int) (s : Int) (hb : isByte l) : Ev (fun k => signing_Verify.f k a l s) (verifyRes a l s) := by
  unfold signing_Verify.f
  refine ev_bind (sign_ev a l hb) ?_
  unfold signRes verifyRes signFault
  by_cases h : isKey a = true
  · by_cases h2 : (l.length : Int) ≤ 4096
    · simp only [if_pos h, if_pos h2, if_true]
      refine ev_if_neg (by simp) (ev_now fun k => ?_)
      rw [sIsDig, Option.bind_some]
      split <;> rfl
    · simp only [if_pos h, if_neg h2]
      exact ev_now fun k => rfl
  · simp only [if_neg h]
    exact ev_now fun k => rfl
end Go.Proofs.Ytnkonhplfldlmaa.Pure
