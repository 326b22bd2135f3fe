/- Plain lemmas on the order of versions: it is total. No condition but what each states. -/
import Derived.Test.YtggdbafmpmfmcaaDoorVer
import Derived.Test.YtggdbafmpmfmcaaDoorVerF
set_option linter.unusedVariables false
namespace Go.Proofs.YtggdbafmpmfmcaaDoor.Pure
open Go Go.RowKit Go.Proofs.YtggdbafmpmfmcaaDoor.Fn Go.Proofs.YtggdbafmpmfmcaaDoorW.PrintWords Go.Proofs.YtggdbafmpmfmcaaDoorW.PrintLast Go.Proofs.YtggdbafmpmfmcaaDoorW.PrintMore
/-- A comparison that is total: -1, 0 or 1; 0 at equal ones alone. -/
structure Tot {α : Type} (c : α → α → Int) : Prop where
  rng : ∀ a b, c a b = -1 ∨ c a b = 0 ∨ c a b = 1
  anti : ∀ a b, c b a = - c a b
  eq : ∀ a b, c a b = 0 ↔ a = b
  tr : ∀ a b d, c a b = -1 → c b d = -1 → c a d = -1
theorem Tot.self {α : Type} {c : α → α → Int} (h : Tot c) (a : α) : c a a = 0 := (h.eq a a).2 rfl
theorem Tot.le {α : Type} {c : α → α → Int} (h : Tot c) {a b d : α} (h1 : c a b ≤ 0) (h2 : c b d ≤ 0) : c a d ≤ 0 := by
  rcases h.rng a b with e | e | e
  · rcases h.rng b d with f | f | f
    · rw [h.tr a b d e f]; decide
    · rw [← (h.eq b d).1 f, e]; decide
    · omega
  · rw [(h.eq a b).1 e]; exact h2
  · omega
theorem Tot.lt_le {α : Type} {c : α → α → Int} (h : Tot c) {a b d : α} (h1 : c a b = -1) (h2 : c b d ≤ 0) : c a d = -1 := by
  rcases h.rng b d with f | f | f
  · exact h.tr a b d h1 f
  · rw [← (h.eq b d).1 f]; exact h1
  · omega
theorem icmp_tot : Tot icmp := by
  refine ⟨fun a b => ?_, fun a b => ?_, fun a b => ?_, fun a b d => ?_⟩
  · unfold icmp
    split
    · exact Or.inl rfl
    · split
      · exact Or.inr (Or.inr rfl)
      · exact Or.inr (Or.inl rfl)
  · unfold icmp
    by_cases h : a < b
    · rw [if_pos h, if_neg (by omega), if_pos h]; rfl
    · rw [if_neg h]
      by_cases h2 : a > b
      · rw [if_pos h2, if_pos h2, if_neg h]
      · rw [if_neg h2, if_neg h2, if_neg h]; rfl
  · unfold icmp
    by_cases h : a < b
    · rw [if_pos h]
      exact ⟨fun e => (by cases e), fun e => (by omega)⟩
    · rw [if_neg h]
      by_cases h2 : a > b
      · rw [if_pos h2]
        exact ⟨fun e => (by cases e), fun e => (by omega)⟩
      · rw [if_neg h2]
        exact ⟨fun _ => (by omega), fun _ => rfl⟩
  · unfold icmp
    intro h1 h2
    have a1 : a < b := by
      refine Decidable.byContradiction fun hn => ?_
      rw [if_neg hn] at h1
      split at h1 <;> cases h1
    have a2 : b < d := by
      refine Decidable.byContradiction fun hn => ?_
      rw [if_neg hn] at h2
      split at h2 <;> cases h2
    rw [if_pos (by omega)]
theorem icmp_lt {a b : Int} : icmp a b = -1 ↔ a < b := by
  unfold icmp
  constructor
  · intro h
    refine Decidable.byContradiction fun hn => ?_
    rw [if_neg hn] at h
    split at h <;> cases h
  · intro h
    rw [if_pos h]
theorem less_trans : ∀ a b d : List UInt8, Op.bytesLess a b = true → Op.bytesLess b d = true → Op.bytesLess a d = true
  | a, [], d, h, _ => by cases a <;> simp [Op.bytesLess] at h
  | a, y :: b, [], _, h => by simp [Op.bytesLess] at h
  | [], y :: b, z :: d, _, _ => rfl
  | x :: a, y :: b, z :: d, h1, h2 => by
    unfold Op.bytesLess at h1 h2 ⊢
    simp only [Bool.or_eq_true, Bool.and_eq_true, decide_eq_true_eq, beq_iff_eq] at h1 h2 ⊢
    rcases h1 with h1 | ⟨h1, h1'⟩
    · rcases h2 with h2 | ⟨h2, _⟩
      · exact Or.inl (UInt8.lt_trans h1 h2)
      · exact Or.inl (h2 ▸ h1)
    · rcases h2 with h2 | ⟨h2, h2'⟩
      · exact Or.inl (h1 ▸ h2)
      · exact Or.inr ⟨h1.trans h2, less_trans a b d h1' h2'⟩
theorem less_asymm (a b : List UInt8) (h : Op.bytesLess a b = true) : Op.bytesLess b a = false := by
  cases h2 : Op.bytesLess b a with
  | false => rfl
  | true =>
    have := less_trans a b a h h2
    rw [less_irrefl] at this
    cases this
theorem bcmp_lt {a b : List UInt8} : bcmp a b = -1 ↔ Op.bytesLess a b = true := by
  unfold bcmp
  constructor
  · intro h
    refine Decidable.byContradiction fun hn => ?_
    rw [if_neg hn] at h
    split at h <;> cases h
  · intro h
    rw [if_pos h]
theorem bcmp_tot : Tot bcmp := by
  refine ⟨fun a b => ?_, fun a b => ?_, fun a b => ?_, fun a b d h1 h2 => ?_⟩
  · unfold bcmp
    split
    · exact Or.inl rfl
    · split
      · exact Or.inr (Or.inr rfl)
      · exact Or.inr (Or.inl rfl)
  · unfold bcmp
    by_cases h : Op.bytesLess a b = true
    · rw [if_pos h, if_neg (by rw [less_asymm a b h]; decide), if_pos h]; rfl
    · rw [if_neg h]
      by_cases h2 : Op.bytesLess b a = true
      · rw [if_pos h2, if_pos h2, if_neg h]
      · rw [if_neg h2, if_neg h2, if_neg h]; rfl
  · unfold bcmp
    by_cases h : Op.bytesLess a b = true
    · rw [if_pos h]
      refine ⟨fun e => (by cases e), fun e => ?_⟩
      rw [e, less_irrefl] at h
      cases h
    · rw [if_neg h]
      by_cases h2 : Op.bytesLess b a = true
      · rw [if_pos h2]
        refine ⟨fun e => (by cases e), fun e => ?_⟩
        rw [e, less_irrefl] at h2
        cases h2
      · rw [if_neg h2]
        refine ⟨fun _ => ?_, fun _ => rfl⟩
        refine Decidable.byContradiction fun hne => h2 (less_tri a b (by simpa using h) hne)
  · rw [bcmp_lt] at h1 h2 ⊢
    exact less_trans a b d h1 h2
/-- One comparison, and where it tells nothing another one. -/
def lex2 {α : Type} (c1 c2 : α → α → Int) (a b : α) : Int := if c1 a b ≠ 0 then c1 a b else c2 a b
theorem lex_tot {α β : Type} (f : α → β) {c1 : β → β → Int} {c2 : α → α → Int} (h1 : Tot c1) (r2 : ∀ a b, c2 a b = -1 ∨ c2 a b = 0 ∨ c2 a b = 1) (a2 : ∀ a b, f a = f b → c2 b a = - c2 a b) (e2 : ∀ a b, f a = f b → (c2 a b = 0 ↔ a = b)) (t2 : ∀ a b d, f a = f b → f b = f d → c2 a b = -1 → c2 b d = -1 → c2 a d = -1) :
    Tot (lex2 (fun a b => c1 (f a) (f b)) c2) := by
  refine ⟨fun a b => ?_, fun a b => ?_, fun a b => ?_, fun a b d => ?_⟩
  · simp only [lex2]
    split
    · exact h1.rng _ _
    · exact r2 a b
  · simp only [lex2]
    have := h1.anti (f a) (f b)
    by_cases h : c1 (f a) (f b) = 0
    · rw [if_neg (by omega), if_neg (by omega)]
      exact a2 a b ((h1.eq _ _).1 h)
    · rw [if_pos (by omega), if_pos h]
      exact this
  · simp only [lex2]
    by_cases h : c1 (f a) (f b) = 0
    · rw [if_neg (by omega)]
      exact e2 a b ((h1.eq _ _).1 h)
    · rw [if_pos h]
      exact ⟨fun e => absurd e h, fun e => absurd ((h1.eq _ _).2 (by rw [e])) h⟩
  · simp only [lex2]
    intro x y
    by_cases h : c1 (f a) (f b) = 0
    · rw [if_neg (by omega)] at x
      have ef := (h1.eq _ _).1 h
      by_cases g : c1 (f b) (f d) = 0
      · rw [if_neg (by omega)] at y
        have eg := (h1.eq _ _).1 g
        rw [if_neg (by rw [ef, eg, h1.self]; decide)]
        exact t2 a b d ef eg x y
      · rw [if_pos g] at y
        rw [ef, if_pos g]
        exact y
    · rw [if_pos h] at x
      by_cases g : c1 (f b) (f d) = 0
      · have eg := (h1.eq _ _).1 g
        rw [← eg, if_pos h]
        exact x
      · rw [if_pos g] at y
        have := h1.tr _ _ _ x y
        rw [if_pos (by rw [this]; decide)]
        exact this
/-- Numeric identifiers come first. -/
def cls (l : List UInt8) : Int := if numL l = true then 0 else 1
def inner (a b : List UInt8) : Int := if numL a = true then lex2 (fun a b : List UInt8 => icmp a.length b.length) bcmp a b else bcmp a b
theorem len_tot : Tot (lex2 (fun a b : List UInt8 => icmp a.length b.length) bcmp) :=
  lex_tot (fun l : List UInt8 => (l.length : Int)) icmp_tot bcmp_tot.rng (fun a b _ => bcmp_tot.anti a b) (fun a b _ => bcmp_tot.eq a b) (fun a b d _ _ => bcmp_tot.tr a b d)
theorem idCmp_eq (a b : List UInt8) : idCmp a b = lex2 (fun a b => icmp (cls a) (cls b)) inner a b := by
  unfold idCmp
  simp only [lex2, inner, cls]
  cases ha : numL a <;> cases hb : numL b <;> rfl
theorem cls_eq {a b : List UInt8} (h : cls a = cls b) : numL a = numL b := by
  unfold cls at h
  cases ha : numL a <;> cases hb : numL b <;> rw [ha, hb] at h <;> first | rfl | exact absurd h (by decide)
theorem id_tot : Tot idCmp := by
  have e : idCmp = lex2 (fun a b => icmp (cls a) (cls b)) inner := by
    funext a b
    exact idCmp_eq a b
  rw [e]
  refine lex_tot cls icmp_tot (fun a b => ?_) (fun a b h => ?_) (fun a b h => ?_) (fun a b d h g => ?_)
  · unfold inner
    split
    · exact len_tot.rng a b
    · exact bcmp_tot.rng a b
  · unfold inner
    rw [cls_eq h]
    split
    · exact len_tot.anti a b
    · exact bcmp_tot.anti a b
  · unfold inner
    split
    · exact len_tot.eq a b
    · exact bcmp_tot.eq a b
  · unfold inner
    rw [cls_eq h, cls_eq g]
    split
    · exact len_tot.tr a b d
    · exact bcmp_tot.tr a b d
theorem pre_rng : ∀ p q, preCmp p q = -1 ∨ preCmp p q = 0 ∨ preCmp p q = 1
  | [], [] => Or.inr (Or.inl rfl)
  | [], _ :: _ => Or.inl rfl
  | _ :: _, [] => Or.inr (Or.inr rfl)
  | a :: p, b :: q => by
    unfold preCmp
    split
    · exact id_tot.rng _ _
    · exact pre_rng p q
theorem pre_anti : ∀ p q, preCmp q p = - preCmp p q
  | [], [] => rfl
  | [], _ :: _ => rfl
  | _ :: _, [] => rfl
  | a :: p, b :: q => by
    unfold preCmp
    have := id_tot.anti a.data.toList b.data.toList
    by_cases h : idCmp a.data.toList b.data.toList = 0
    · rw [if_neg (by omega), if_neg (by omega)]
      exact pre_anti p q
    · rw [if_pos (by omega), if_pos h]
      exact this
theorem pre_eq : ∀ p q, preCmp p q = 0 ↔ p = q
  | [], [] => ⟨fun _ => rfl, fun _ => rfl⟩
  | [], _ :: _ => ⟨fun h => (by cases h), fun h => (by cases h)⟩
  | _ :: _, [] => ⟨fun h => (by cases h), fun h => (by cases h)⟩
  | a :: p, b :: q => by
    unfold preCmp
    by_cases h : idCmp a.data.toList b.data.toList = 0
    · rw [if_neg (by omega), pre_eq p q]
      have := chars_inj ((id_tot.eq _ _).1 h)
      rw [this]
      simp
    · rw [if_pos h]
      refine ⟨fun e => absurd e h, fun e => ?_⟩
      injection e with e1 e2
      rw [e1] at h
      exact absurd (id_tot.self _) h
theorem pre_tr : ∀ p q r, preCmp p q = -1 → preCmp q r = -1 → preCmp p r = -1
  | p, [], r, h, g => by cases p <;> simp [preCmp] at h
  | p, b :: q, [], h, g => by simp [preCmp] at g
  | [], b :: q, d :: r, h, g => rfl
  | a :: p, b :: q, d :: r, h, g => by
    unfold preCmp at h g ⊢
    by_cases x : idCmp a.data.toList b.data.toList = 0
    · rw [if_neg (by omega)] at h
      have ex := (id_tot.eq _ _).1 x
      rw [ex]
      by_cases y : idCmp b.data.toList d.data.toList = 0
      · rw [if_neg (by omega)] at g ⊢
        exact pre_tr p q r h g
      · rw [if_pos y] at g ⊢
        exact g
    · rw [if_pos x] at h
      by_cases y : idCmp b.data.toList d.data.toList = 0
      · have ey := (id_tot.eq _ _).1 y
        rw [← ey, if_pos x]
        exact h
      · rw [if_pos y] at g
        have := id_tot.tr _ _ _ h g
        rw [if_pos (by rw [this]; decide)]
        exact this
theorem pre_tot : Tot preCmp := ⟨pre_rng, pre_anti, pre_eq, pre_tr⟩
/-- Identifiers, where none is greatest. -/
def relCmp (p q : List ByteArray) : Int := if p.length = 0 ∧ q.length = 0 then 0 else if p.length = 0 then 1 else if q.length = 0 then -1 else preCmp p q
def hasP (p : List ByteArray) : Int := if p.length = 0 then 1 else 0
theorem relCmp_eq (p q : List ByteArray) : relCmp p q = lex2 (fun a b => icmp (hasP a) (hasP b)) preCmp p q := by
  unfold relCmp lex2 hasP
  cases p <;> cases q <;> simp [icmp, preCmp]
theorem rel_tot : Tot relCmp := by
  have e : relCmp = lex2 (fun a b => icmp (hasP a) (hasP b)) preCmp := by
    funext a b
    exact relCmp_eq a b
  rw [e]
  exact lex_tot hasP icmp_tot pre_tot.rng (fun a b _ => pre_tot.anti a b) (fun a b _ => pre_tot.eq a b) (fun a b d _ _ => pre_tot.tr a b d)
abbrev Vn := Int × Int × Int × List ByteArray
def vc (x y : Vn) : Int := verCmp x.1 x.2.1 x.2.2.1 x.2.2.2 y.1 y.2.1 y.2.2.1 y.2.2.2
def prod2 {α β : Type} (c1 : α → α → Int) (c2 : β → β → Int) (a b : α × β) : Int := if c1 a.1 b.1 ≠ 0 then c1 a.1 b.1 else c2 a.2 b.2
theorem prod_tot {α β : Type} {c1 : α → α → Int} {c2 : β → β → Int} (h1 : Tot c1) (h2 : Tot c2) : Tot (prod2 c1 c2) := by
  have e : prod2 c1 c2 = lex2 (fun a b : α × β => c1 a.1 b.1) (fun a b => c2 a.2 b.2) := rfl
  rw [e]
  exact lex_tot (fun a : α × β => a.1) h1 (fun a b => h2.rng _ _) (fun a b _ => h2.anti _ _) (fun a b h => by rw [h2.eq]; exact ⟨fun g => Prod.ext h g, fun g => by rw [g]⟩) (fun a b d _ _ => h2.tr _ _ _)
theorem vc_eq (x y : Vn) : vc x y = prod2 icmp (prod2 icmp (prod2 icmp relCmp)) x y := by
  unfold vc verCmp prod2
  have h : ∀ a b : Int, icmp a b ≠ 0 ↔ a ≠ b := fun a b => by rw [ne_eq, icmp_tot.eq]
  simp only [h]
  rfl
theorem vc_tot : Tot vc := by
  have e : vc = prod2 icmp (prod2 icmp (prod2 icmp relCmp)) := by
    funext a b
    exact vc_eq a b
  rw [e]
  exact prod_tot icmp_tot (prod_tot icmp_tot (prod_tot icmp_tot rel_tot))
end Go.Proofs.YtggdbafmpmfmcaaDoor.Pure
