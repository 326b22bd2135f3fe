/- Plain lemmas on signed pushes: certificates, nonces, used nonces, the check of a certificate. No condition but what each states. -/
import Derived.Test.YtlbjefoipljkgaaFf13
import Derived.Test.YtlbjefoipljkgaaFf14
import Derived.Test.YtlbjefoipljkgaaFf15
import Derived.Test.YtlbjefoipljkgaaFf16
import Derived.Test.YtlbjefoipljkgaaFf17
import Derived.Test.YtlbjefoipljkgaaFf18
import Derived.Test.YtlbjefoipljkgaaFf19
import Derived.Test.YtlbjefoipljkgaaFf20
import Derived.Test.YtlbjefoipljkgaaFf22
import Derived.Test.YtlbjefoipljkgaaFf25
import Derived.Test.YtlbjefoipljkgaaFf27
import Derived.Test.YtlbjefoipljkgaaFf36
import Derived.Test.YtlbjefoipljkgaaFf38
import Derived.Test.YtlbjefoipljkgaaFf41
import Derived.Test.YtlbjefoipljkgaaFf9
import Derived.Test.YtlbjefoipljkgaaFn0
import Derived.Test.YtlbjefoipljkgaaFs0
import Derived.Test.YtlbjefoipljkgaaPuSigns
import Derived.Test.YtlbjefoipljkgaaPuKeys
import Derived.Test.YtlbjefoipljkgaaConvs
set_option linter.unusedVariables false
namespace Go.Proofs.Ytlbjefoipljkgaa.Pure
open Go.RowKit Go.Proofs.Ytlbjefoipljkgaa.Fn Go.Proofs.YtlbjefoipljkgaaW.PrintWords Go.Proofs.YtlbjefoipljkgaaW.PrintLast Go.Proofs.YtlbjefoipljkgaaW.PrintMore
theorem ev_val {α : Type} {g : Nat → Option α} {r r' : α} (h : Ev g r) (e : r = r') : Ev g r' := e ▸ h
def isTm (t : Int) : Bool := decide (0 ≤ t ∧ t ≤ 100000)
theorem isTm_iff (t : Int) : isTm t = true ↔ 0 ≤ t ∧ t ≤ 100000 := by unfold isTm; rw [decide_eq_true_eq]
theorem pIsTm (t : Int) : pushcert_isTime.f t = some (isTm t) := by
  unfold pushcert_isTime.f
  by_cases h : t ≥ 0
  · rw [if_pos h]
    congr 1
    unfold isTm
    rw [decide_eq_decide]
    omega
  · rw [if_neg h]
    congr 1
    symm
    unfold isTm
    rw [decide_eq_false_iff_not]
    omega
theorem rIsTm (t : Int) : changeforgeref5_in.f t 0 100000 = some (isTm t) := in_eq t 0 100000
theorem lIn (a b c : Int) : changeforgelaw5_in.f a b c = some (decide (b ≤ a ∧ a ≤ c)) := by
  unfold changeforgelaw5_in.f
  by_cases h : a ≥ b
  · rw [if_pos h]
    congr 1
    rw [decide_eq_decide]
    omega
  · rw [if_neg h]
    congr 1
    symm
    rw [decide_eq_false_iff_not]
    omega
theorem lFault (a b : Int) : changeforgelaw5_fault.f a b = some (a, b) := rfl
def certOk (n t k o e : Int) : Bool := isDig n && (isTm t && (isKey k && (isDig o && isDig e)))
def refBad (r : ByteArray) : Prop := r.toList = [] ∨ 60 < r.size
instance (r : ByteArray) : Decidable (refBad r) := by unfold refBad; infer_instance
def certFault (n t k : Int) (r : ByteArray) (o e : Int) : Int × Int := if certOk n t k o e = true then (if refBad r then (12, 0) else (0, 0)) else (3, 0)
theorem pVal_j (b : Bool) (n t key : Int) (r : ByteArray) (o e s : Int) : Ev (fun k => pushcert_Validate.j0 k b n t key r o e s) (if b = true then (3, 0) else if refBad r then (12, 0) else (0, 0)) := by
  by_cases hb : b = true
  · rw [if_pos hb]
    exact Ev.step (f := fun _ => some (3, 0)) (fun k => by simp only [pushcert_Validate.j0]; rw [if_pos hb]) (Ev.now _)
  · rw [if_neg hb]
    by_cases h1 : r.toList = []
    · rw [if_pos (show refBad r from Or.inl h1)]
      exact Ev.step (f := fun _ => some (12, 0)) (fun k => by simp only [pushcert_Validate.j0]; rw [if_neg hb, if_pos h1]) (Ev.now _)
    · by_cases h2 : 60 < r.size
      · rw [if_pos (show refBad r from Or.inr h2)]
        exact Ev.step (f := fun _ => some (12, 0)) (fun k => by simp only [pushcert_Validate.j0]; rw [if_neg hb, if_neg h1, if_pos (by omega)]) (Ev.now _)
      · rw [if_neg (show ¬ refBad r from fun h => h.elim h1 h2)]
        exact Ev.step (f := fun _ => some (0, 0)) (fun k => by simp only [pushcert_Validate.j0]; rw [if_neg hb, if_neg h1, if_neg (by omega)]) (Ev.now _)
theorem rCert_j (b : Bool) (n t key : Int) (r : ByteArray) (o e s : Int) : Ev (fun k => changeforgeref5_CertFault.j0 k b n t key r o e s) (if b = true then (3, 0) else if refBad r then (12, 0) else (0, 0)) := by
  by_cases hb : b = true
  · rw [if_pos hb]
    exact Ev.step (f := fun _ => some (3, 0)) (fun k => by simp only [changeforgeref5_CertFault.j0]; rw [if_pos hb]; rfl) (Ev.now _)
  · rw [if_neg hb]
    by_cases h1 : r.toList = []
    · rw [if_pos (show refBad r from Or.inl h1)]
      exact Ev.step (f := fun _ => some (12, 0)) (fun k => by simp only [changeforgeref5_CertFault.j0]; rw [if_neg hb, if_pos h1]; rfl) (Ev.now _)
    · by_cases h2 : 60 < r.size
      · rw [if_pos (show refBad r from Or.inr h2)]
        exact Ev.step (f := fun _ => some (12, 0)) (fun k => by simp only [changeforgeref5_CertFault.j0]; rw [if_neg hb, if_neg h1, if_pos (by omega)]; rfl) (Ev.now _)
      · rw [if_neg (show ¬ refBad r from fun h => h.elim h1 h2)]
        exact Ev.step (f := fun _ => some (0, 0)) (fun k => by simp only [changeforgeref5_CertFault.j0]; rw [if_neg hb, if_neg h1, if_neg (by omega)]) (Ev.now _)
theorem pVal_ev (n t key : Int) (r : ByteArray) (o e s : Int) : Ev (fun k => pushcert_Validate.f k n t key r o e s) (certFault n t key r o e) := by
  unfold pushcert_Validate.f
  simp only [sIsDig, sIsKey, pIsTm, Option.bind_some]
  have J := fun b => pVal_j b n t key r o e s
  unfold certFault certOk
  cases isDig n
  · exact ev_if_neg (by decide) (ev_val (J true) (by simp))
  cases isTm t
  · exact ev_if_pos rfl (ev_if_neg (by decide) (ev_val (J true) (by simp)))
  cases isKey key
  · exact ev_if_pos rfl (ev_if_pos rfl (ev_if_neg (by decide) (ev_val (J true) (by simp))))
  cases isDig o
  · exact ev_if_pos rfl (ev_if_pos rfl (ev_if_pos rfl (ev_if_neg (by decide) (ev_val (J true) (by simp)))))
  cases isDig e
  · exact ev_if_pos rfl (ev_if_pos rfl (ev_if_pos rfl (ev_if_pos rfl (ev_val (J true) (by simp)))))
  · exact ev_if_pos rfl (ev_if_pos rfl (ev_if_pos rfl (ev_if_pos rfl (ev_val (J false) (by simp)))))
theorem rCert_ev (n t key : Int) (r : ByteArray) (o e s : Int) : Ev (fun k => changeforgeref5_CertFault.f k n t key r o e s) (certFault n t key r o e) := by
  unfold changeforgeref5_CertFault.f
  simp only [rIsDig, rIsKey, rIsTm, Option.bind_some]
  have J := fun b => rCert_j b n t key r o e s
  unfold certFault certOk
  cases isDig n
  · exact ev_if_neg (by decide) (ev_val (J true) (by simp))
  cases isTm t
  · exact ev_if_pos rfl (ev_if_neg (by decide) (ev_val (J true) (by simp)))
  cases isKey key
  · exact ev_if_pos rfl (ev_if_pos rfl (ev_if_neg (by decide) (ev_val (J true) (by simp))))
  cases isDig o
  · exact ev_if_pos rfl (ev_if_pos rfl (ev_if_pos rfl (ev_if_neg (by decide) (ev_val (J true) (by simp)))))
  cases isDig e
  · exact ev_if_pos rfl (ev_if_pos rfl (ev_if_pos rfl (ev_if_pos rfl (ev_val (J true) (by simp)))))
  · exact ev_if_pos rfl (ev_if_pos rfl (ev_if_pos rfl (ev_if_pos rfl (ev_val (J false) (by simp)))))
theorem certOk_iff (n t k o e : Int) : certOk n t k o e = true ↔ isDig n = true ∧ isTm t = true ∧ isKey k = true ∧ isDig o = true ∧ isDig e = true := by
  unfold certOk
  simp only [Bool.and_eq_true]
theorem certFault_ok {n t k : Int} {r : ByteArray} {o e : Int} (h : (certFault n t k r o e).1 = 0) : certFault n t k r o e = (0, 0) ∧ certOk n t k o e = true ∧ r.size ≤ 60 ∧ ¬ refBad r := by
  unfold certFault at *
  by_cases h1 : certOk n t k o e = true
  · rw [if_pos h1] at *
    by_cases h2 : refBad r
    · rw [if_pos h2] at h
      exact absurd h (by decide)
    · rw [if_neg h2]
      exact ⟨rfl, h1, by unfold refBad at h2; omega, h2⟩
  · rw [if_neg h1] at h
    exact absurd h (by decide)
theorem certFault_of {n t k : Int} {r : ByteArray} {o e : Int} (h1 : certOk n t k o e = true) (h2 : ¬ refBad r) : certFault n t k r o e = (0, 0) := by
  unfold certFault
  rw [if_pos h1, if_neg h2]
theorem tm_dig {t : Int} (h : isTm t = true) : isDig t = true := by
  rw [isTm_iff] at h
  rw [isDig_iff]
  omega
theorem key_dig {t : Int} (h : isKey t = true) : isDig t = true := by
  have := key_isDig h
  rw [isDig_iff]
  exact this
theorem cert_dig {n t k o e : Int} (h : certOk n t k o e = true) : allDig [n, t, k, o, e] := by
  rw [certOk_iff] at h
  obtain ⟨h1, h2, h3, h4, h5⟩ := h
  intro x hx
  simp only [List.mem_cons, List.not_mem_nil, or_false] at hx
  rcases hx with rfl | rfl | rfl | rfl | rfl
  · exact h1
  · exact tm_dig h2
  · exact key_dig h3
  · exact h4
  · exact h5
theorem cert_msg {n t k o e : Int} (h : certOk n t k o e = true) : msgFault [n, t, k, o, e] = (0, 0) := by
  unfold msgFault
  rw [if_pos (by simp)]
  exact digFault_ok _ _ (cert_dig h)
theorem bytesOf_byte (r : ByteArray) : isByte (bytesOf r) := by
  intro x hx
  unfold bytesOf at hx
  obtain ⟨b, _, rfl⟩ := List.mem_map.1 hx
  have := b.toNat_lt
  omega
def payl (n t k : Int) (r : ByteArray) (o e : Int) : List Int := msg [n, t, k, o, e] ++ bytesOf r
theorem payl_len (n t k : Int) (r : ByteArray) (o e : Int) : (payl n t k r o e).length = 40 + r.size := by
  unfold payl
  rw [List.length_append, msg_length, bytesOf_length]
  rfl
theorem payl_byte (n t k : Int) (r : ByteArray) (o e : Int) : isByte (payl n t k r o e) := by
  intro x hx
  rcases List.mem_append.1 hx with h | h
  · exact msg_byte _ x h
  · exact bytesOf_byte _ x h
theorem pPay_ev {n t key : Int} {r : ByteArray} {o e : Int} (s : Int) (h : certOk n t key o e = true) (hr : r.size ≤ 60) : Ev (fun k => pushcert_payload.f k n t key r o e s) (payl n t key r o e) := by
  unfold pushcert_payload.f
  refine ev_bind (pMsg_ev _) ?_
  unfold msgRes
  rw [cert_msg h, if_pos rfl]
  refine ev_if_pos ?_ (Ev.now _)
  rw [msg_length]
  simp only [List.length_cons, List.length_nil]
  omega
def certSig (n t k : Int) (r : ByteArray) (o e : Int) : Int := sgn k (payl n t k r o e)
theorem signRes_ok {k : Int} {l : List Int} (hk : isKey k = true) (hl : (l.length : Int) ≤ 4096) : signRes k l = (sgn k l, 0, 0) := by
  unfold signRes signFault
  rw [if_pos hk, if_pos hl, if_pos rfl]
theorem msgRes_one {t : Int} (h : isTm t = true) : msgRes [t] = (msg [t], 0, 0) := by
  unfold msgRes msgFault
  rw [if_pos (show (([t] : List Int).length : Int) ≤ 64 from by simp), digFault_ok _ _ (by intro x hx; rw [List.mem_singleton] at hx; rw [hx]; exact tm_dig h), if_pos rfl]
theorem msg_one_len (t : Int) : ((msg [t]).length : Int) ≤ 4096 := by
  rw [msg_length]
  simp
def nonceRes (s t : Int) : Int × Int × Int := if isKey s = true then (if isTm t = true then (sgn s (msg [t]), 0, 0) else (0, 3, 0)) else (0, 3, -1)
theorem pNonce_ev (s t : Int) : Ev (fun k => pushcert_Nonce.f k s t) (nonceRes s t) := by
  unfold pushcert_Nonce.f nonceRes
  simp only [sIsKey, pIsTm, Option.bind_some]
  by_cases hs : isKey s = true
  · rw [if_pos hs]
    refine ev_if_pos hs ?_
    by_cases ht : isTm t = true
    · rw [if_pos ht]
      refine ev_if_pos ht (ev_bind (pMsg_ev _) ?_)
      rw [msgRes_one ht]
      refine ev_bind (sign_ev s _ (msg_byte _)) ?_
      rw [signRes_ok hs (msg_one_len t)]
      exact Ev.now _
    · rw [if_neg ht]
      exact ev_if_neg ht (Ev.now _)
  · rw [if_neg hs]
    exact ev_if_neg hs (Ev.now _)
theorem rNonce_ev {s t : Int} (hs : isKey s = true) (ht : isTm t = true) : Ev (fun k => changeforgeref5_Nonce.f k s t) (sgn s (msg [t])) := by
  unfold changeforgeref5_Nonce.f
  have h := msgRes_one ht
  have hf : (msgFault [t]).1 = 0 := by
    unfold msgRes at h
    by_cases g : (msgFault [t]).1 = 0
    · exact g
    · rw [if_neg g] at h
      exact absurd (congrArg (fun x => x.2.1) h) g
  exact ev_bind (rMsg_ev _ hf) (ev_bind (rSign_ev s _ hs (msg_byte _) (by have := msg_one_len t; omega)) (Ev.now _))
theorem rCertSig_ev {n t key : Int} {r : ByteArray} {o e : Int} (s : Int) (h : certOk n t key o e = true) (hr : r.size ≤ 60) : Ev (fun k => changeforgeref5_CertSignature.f k n t key r o e s) (certSig n t key r o e) := by
  unfold changeforgeref5_CertSignature.f
  refine ev_bind (rMsg_ev _ (by rw [cert_msg h])) ?_
  rw [show strBytes.f r = some (bytesOf r) from if_pos (by omega)]
  simp only [Option.bind_some]
  refine ev_if_pos ?_ ?_
  · rw [msg_length, bytesOf_length]
    simp only [List.length_cons, List.length_nil]
    omega
  · exact ev_bind (rSign_ev key _ ((certOk_iff _ _ _ _ _).1 h).2.2.1 (payl_byte n t key r o e) (by have := payl_len n t key r o e; unfold payl at this; omega)) (Ev.now _)
def certRes (n t k : Int) (r : ByteArray) (o e : Int) : Int × Int × Int × ByteArray × Int × Int × Int × Int × Int :=
  if (certFault n t k r o e).1 = 0 then (n, t, k, r, o, e, certSig n t k r o e, 0, 0) else (0, 0, 0, ⟨#[]⟩, 0, 0, 0, (certFault n t k r o e).1, (certFault n t k r o e).2)
theorem badc_iff (x : Int × Int) : ((!(x.1 == 0) || (!(x.2 == 0))) = true) ↔ x ≠ (0, 0) := by
  obtain ⟨a, b⟩ := x
  simp only [Bool.or_eq_true, Bool.not_eq_true', beq_eq_false_iff_ne, ne_eq, Prod.mk.injEq]
  by_cases h1 : a = 0 <;> by_cases h2 : b = 0 <;> simp [h1, h2]
theorem certFault_bad {n t k : Int} {r : ByteArray} {o e : Int} (h : ¬ (certFault n t k r o e).1 = 0) : certFault n t k r o e ≠ (0, 0) := fun e => h (by rw [e])
theorem pCertify_ev (n t key : Int) (r : ByteArray) (o e s : Int) : Ev (fun k => pushcert_Certify.f k n t key r o e s) (certRes n t key r o e) := by
  unfold pushcert_Certify.f certRes
  refine ev_bind (pVal_ev n t key r o e s) ?_
  by_cases h : (certFault n t key r o e).1 = 0
  · obtain ⟨h1, h2, h3, _⟩ := certFault_ok h
    rw [if_pos h, h1]
    refine ev_if_neg (by decide) (ev_bind (pPay_ev s h2 h3) (ev_bind (sign_ev key _ (payl_byte n t key r o e)) ?_))
    rw [signRes_ok ((certOk_iff _ _ _ _ _).1 h2).2.2.1 (by have := payl_len n t key r o e; omega)]
    exact Ev.now _
  · rw [if_neg h]
    exact ev_if_pos ((badc_iff _).2 (certFault_bad h)) (Ev.now _)

/-! ### used nonces -/
def uBad (l : List Int) (i : Nat) : Prop := isDig (rd l i) = false ∨ (0 < i ∧ rd l i ≤ rd l ((i - 1 : Nat) : Int))
instance (l : List Int) (i : Nat) : Decidable (uBad l i) := by unfold uBad; infer_instance
def uAt (l : List Int) : Nat → Nat → Int × Int
  | 0, _ => (0, 0)
  | d + 1, i => if uBad l i then (5, -3) else uAt l d (i + 1)
def usedFault (l : List Int) : Int × Int := if l.length ≤ 40 then uAt l l.length 0 else (2, -3)
theorem uAt_cases (l : List Int) : ∀ d i, uAt l d i = (0, 0) ∨ uAt l d i = (5, -3) := by
  intro d
  induction d with
  | zero => intro i; exact Or.inl rfl
  | succ d ih =>
    intro i
    unfold uAt
    split
    · exact Or.inr rfl
    · exact ih _
theorem uAt_ok (l : List Int) : ∀ d i, uAt l d i = (0, 0) → ∀ j, i ≤ j → j < i + d → ¬ uBad l j := by
  intro d
  induction d with
  | zero => intro i _ j h1 h2; omega
  | succ d ih =>
    intro i h j h1 h2
    unfold uAt at h
    by_cases hb : uBad l i
    · rw [if_pos hb] at h
      exact absurd h (by decide)
    · rw [if_neg hb] at h
      by_cases hj : j = i
      · rw [hj]
        exact hb
      · exact ih (i + 1) h j (by omega) (by omega)
theorem uAt_of (l : List Int) : ∀ d i, (∀ j, i ≤ j → j < i + d → ¬ uBad l j) → uAt l d i = (0, 0) := by
  intro d
  induction d with
  | zero => intro i _; rfl
  | succ d ih =>
    intro i h
    unfold uAt
    rw [if_neg (h i (Nat.le_refl _) (by omega))]
    exact ih (i + 1) (fun j h1 h2 => h j (by omega) (by omega))
theorem used_ok {l : List Int} (h : (usedFault l).1 = 0) : usedFault l = (0, 0) ∧ l.length ≤ 40 ∧ rises l ∧ ∀ x ∈ l, isDig x = true := by
  unfold usedFault at *
  by_cases hl : l.length ≤ 40
  · rw [if_pos hl] at *
    have h0 : uAt l l.length 0 = (0, 0) := by
      rcases uAt_cases l l.length 0 with h1 | h1
      · exact h1
      · rw [h1] at h
        exact absurd h (by decide)
    have hok := uAt_ok l _ _ h0
    refine ⟨h0, hl, rises_of fun j hj => ?_, fun x hx => ?_⟩
    · have := hok (j + 1) (Nat.zero_le _) (by omega)
      unfold uBad at this
      rw [rd_get l (j + 1) hj, show ((j + 1 - 1 : Nat) : Int) = ((j : Nat) : Int) from by simp, rd_get l j (by omega)] at this
      have h2 : ¬ (l[j + 1] ≤ l[j]) := fun h => this (Or.inr ⟨by omega, h⟩)
      omega
    · obtain ⟨i, hi, rfl⟩ := List.getElem_of_mem hx
      have := hok i (Nat.zero_le _) (by omega)
      unfold uBad at this
      rw [rd_get l i hi] at this
      cases hd : isDig l[i]
      · exact absurd (Or.inl hd) this
      · rfl
  · rw [if_neg hl] at h
    exact absurd h (by decide)
theorem used_of {l : List Int} (hl : l.length ≤ 40) (hr : rises l) (hd : ∀ x ∈ l, isDig x = true) : usedFault l = (0, 0) := by
  unfold usedFault
  rw [if_pos hl]
  refine uAt_of l _ _ fun j _ hj => ?_
  have hjl : j < l.length := by omega
  unfold uBad
  rw [rd_get l j hjl, hd _ (List.getElem_mem hjl)]
  rintro (h | ⟨h0, h⟩)
  · exact absurd h (by decide)
  · rw [rd_get l (j - 1) (by omega)] at h
    have := rises_get hr (i := j - 1) (j := j) (by omega) hjl (by omega)
    omega
theorem used_cases (l : List Int) : usedFault l = (0, 0) ∨ (usedFault l).1 ≠ 0 := by
  unfold usedFault
  by_cases hl : l.length ≤ 40
  · rw [if_pos hl]
    rcases uAt_cases l l.length 0 with h | h
    · exact Or.inl h
    · rw [h]
      exact Or.inr (by decide)
  · rw [if_neg hl]
    exact Or.inr (by decide)
theorem pUsed_loop (l : List Int) (hl : l.length ≤ 40) : ∀ (d i : Nat), i + d = l.length → Ev (fun k => pushcert_usedFault.l0 k l l (l.length : Int) i) (uAt l d i) := by
  intro d
  induction d with
  | zero =>
    intro i hi
    exact Ev.step (f := fun _ => some (0, 0)) (fun k => by simp only [pushcert_usedFault.l0]; rw [if_neg (by omega)]) (Ev.now _)
  | succ d ih =>
    intro i hi
    have hil : i < l.length := by omega
    refine Ev.step (fun k => by simp only [pushcert_usedFault.l0]; rw [if_pos (by omega), if_pos (by omega), if_pos (by omega), sIsDig, Option.bind_some, succ_w (i := i) (by omega)]) ?_
    unfold uAt
    cases hd : isDig (rd l i)
    · rw [if_pos (show uBad l i from Or.inl hd)]
      exact ev_if_neg (by decide) (Ev.now _)
    · refine ev_if_pos rfl ?_
      by_cases h0 : 0 < i
      · refine ev_if_pos (by omega) ?_
        rw [pred_w h0 (by omega)]
        refine ev_if_pos (by omega) (ev_if_pos (by omega) ?_)
        by_cases hle : rd l i ≤ rd l ((i - 1 : Nat) : Int)
        · rw [if_pos (show uBad l i from Or.inr ⟨h0, hle⟩)]
          exact ev_if_pos hle (Ev.now _)
        · rw [if_neg (show ¬ uBad l i from fun h => h.elim (fun e => by rw [hd] at e; exact absurd e (by decide)) (fun e => hle e.2))]
          exact ev_if_neg hle (ih (i + 1) (by omega))
      · rw [if_neg (show ¬ uBad l i from fun h => h.elim (fun e => by rw [hd] at e; exact absurd e (by decide)) (fun e => h0 e.1))]
        exact ev_if_neg (by omega) (ih (i + 1) (by omega))
theorem pUsed_ev (l : List Int) : Ev (fun k => pushcert_usedFault.f k l) (usedFault l) := by
  unfold pushcert_usedFault.f usedFault
  by_cases h : l.length ≤ 40
  · rw [if_pos h]
    exact ev_if_neg (by omega) (pUsed_loop l h l.length 0 (by omega))
  · rw [if_neg h]
    exact ev_if_pos (by omega) (Ev.now _)

/-! ### the check -/
def ins (l : List Int) (x : Int) : List Int := l.take (lb l x) ++ [x] ++ l.drop (lb l x)
theorem ins_len (l : List Int) (x : Int) : (ins l x).length = l.length + 1 := by
  unfold ins
  have := (lb_spec l x).1
  simp only [List.length_append, List.length_take, List.length_singleton, List.length_drop]
  omega
theorem mem_ins (l : List Int) (x y : Int) : y ∈ ins l x ↔ y = x ∨ y ∈ l := by
  unfold ins
  have h : y ∈ l ↔ y ∈ l.take (lb l x) ∨ y ∈ l.drop (lb l x) := by rw [← List.mem_append, List.take_append_drop]
  simp only [List.mem_append, List.mem_singleton, h]
  constructor
  · rintro ((h | h) | h)
    · exact Or.inr (Or.inl h)
    · exact Or.inl h
    · exact Or.inr (Or.inr h)
  · rintro (h | h | h)
    · exact Or.inl (Or.inr h)
    · exact Or.inl (Or.inl h)
    · exact Or.inr h
theorem rises_ins {l : List Int} (hr : rises l) {x : Int} (hx : x ∉ l) : rises (ins l x) := by
  obtain ⟨hle, h1, h2⟩ := lb_spec l x
  unfold ins rises
  rw [List.append_assoc, List.pairwise_append]
  refine ⟨hr.sublist (List.take_sublist _ _), ?_, fun a ha b hb => ?_⟩
  · rw [List.singleton_append, List.pairwise_cons]
    refine ⟨fun b hb => ?_, hr.sublist (List.drop_sublist _ _)⟩
    obtain ⟨j, hj, rfl⟩ := List.getElem_of_mem hb
    rw [List.length_drop] at hj
    rw [List.getElem_drop]
    have h3 := h2 (by omega)
    have h4 : l[lb l x] ≠ x := fun e => hx (e ▸ List.getElem_mem _)
    rcases Nat.eq_zero_or_pos j with rfl | hj0
    · simp only [Nat.add_zero]
      omega
    · have := rises_get hr (i := lb l x) (j := lb l x + j) (by omega) (by omega) (by omega)
      omega
  · obtain ⟨i, hi, rfl⟩ := List.getElem_of_mem ha
    rw [List.length_take] at hi
    rw [List.getElem_take]
    have h3 := h1 i (by omega) (by omega)
    rw [List.singleton_append] at hb
    rcases List.mem_cons.1 hb with rfl | hb
    · exact h3
    · obtain ⟨j, hj, rfl⟩ := List.getElem_of_mem hb
      rw [List.length_drop] at hj
      rw [List.getElem_drop]
      exact rises_get hr (by omega) (by omega) (by omega)
def stale (now win t : Int) : Bool := decide (t > now ∨ t < now - win)
def chk (s n t k : Int) (r : ByteArray) (o e sg : Int) (l : List Int) (st : Bool) : Int × Int :=
  if st = true then (16, 0) else if n = sgn s (msg [t]) then (if sg = certSig n t k r o e then (if n ∈ l then (7, 0) else if l.length = 40 then (14, 0) else (0, 0)) else (18, 2)) else (18, 1)
def pushFault (s now win : Int) (l : List Int) (n t k : Int) (r : ByteArray) (o e sg : Int) : Int × Int :=
  if (certFault n t k r o e).1 = 0 then (if isDig sg = true then (if isKey s = true then (if isTm now = true ∧ isTm win = true then (if (usedFault l).1 = 0 then chk s n t k r o e sg l (stale now win t) else usedFault l) else (3, -2)) else (3, -1)) else (3, 1)) else certFault n t k r o e
def checkRes (s now win : Int) (l : List Int) (n t k : Int) (r : ByteArray) (o e sg : Int) : List Int × Int × Int :=
  if (pushFault s now win l n t k r o e sg).1 = 0 then (ins l n, 0, 0) else ([], (pushFault s now win l n t k r o e sg).1, (pushFault s now win l n t k r o e sg).2)
theorem win_w {now win : Int} (h1 : isTm now = true) (h2 : isTm win = true) : wrap64 (now - win) = now - win := by
  rw [isTm_iff] at h1 h2
  exact w64 (by omega) (by omega)
theorem verify_ok {k : Int} {l : List Int} {sg : Int} (hk : isKey k = true) (hl : (l.length : Int) ≤ 4096) (hs : isDig sg = true) : (verifyRes k l sg).1 = decide (sg = sgn k l) := by
  unfold verifyRes signFault
  simp only [hk, hl, hs, if_true]
  rw [Bool.eq_iff_iff, beq_iff_eq, decide_eq_true_eq]
  exact eq_comm
theorem pCheck_j {s : Int} {l : List Int} {n t k : Int} {r : ByteArray} {o e : Int} (sg : Int) (st : Bool) (hl : l.length ≤ 40) (hr : rises l) :
    Ev (fun q => pushcert_Check.j0 q l (sgn s (msg [t])) (decide (sg = certSig n t k r o e)) (lb l n : Int) (decide (n ∈ l)) st n t k r o e sg) (if (chk s n t k r o e sg l st).1 = 0 then (ins l n, 0, 0) else ([], (chk s n t k r o e sg l st).1, (chk s n t k r o e sg l st).2)) := by
  unfold chk
  by_cases h0 : st = true
  · rw [if_pos h0, if_neg (by decide)]
    exact Ev.step (f := fun _ => some ([], 16, 0)) (fun q => by simp only [pushcert_Check.j0]; rw [if_pos h0]) (Ev.now _)
  · rw [if_neg h0]
    by_cases h1 : n = sgn s (msg [t])
    · rw [if_pos h1]
      by_cases h2 : sg = certSig n t k r o e
      · rw [if_pos h2]
        by_cases h3 : n ∈ l
        · rw [if_pos h3, if_neg (by decide)]
          exact Ev.step (f := fun _ => some ([], 7, 0)) (fun q => by simp only [pushcert_Check.j0]; rw [if_neg h0, if_pos h1, if_pos (decide_eq_true h2), if_pos (decide_eq_true h3)]) (Ev.now _)
        · rw [if_neg h3]
          by_cases h4 : l.length = 40
          · rw [if_pos h4, if_neg (by decide)]
            exact Ev.step (f := fun _ => some ([], 14, 0)) (fun q => by simp only [pushcert_Check.j0]; rw [if_neg h0, if_pos h1, if_pos (decide_eq_true h2), if_neg (by rw [decide_eq_true_eq]; exact h3), if_pos (by omega)]) (Ev.now _)
          · rw [if_neg h4, if_pos rfl]
            have hb := (lb_spec l n).1
            refine Ev.step (f := fun _ => some (ins l n, 0, 0)) (fun q => ?_) (Ev.now _)
            simp only [pushcert_Check.j0]
            rw [if_neg h0, if_pos h1, if_pos (decide_eq_true h2), if_neg (by rw [decide_eq_true_eq]; exact h3), if_neg (by omega)]
            unfold slices_Clone_int_int.f
            rw [if_pos (by omega)]
            simp only [Option.bind_some]
            unfold slices_Insert_int_int.f
            rw [if_pos ⟨by omega, by omega, rfl, by omega⟩]
            simp only [Option.bind_some, Int.toNat_natCast]
            rfl
      · rw [if_neg h2, if_neg (by decide)]
        exact Ev.step (f := fun _ => some ([], 18, 2)) (fun q => by simp only [pushcert_Check.j0]; rw [if_neg h0, if_pos h1, if_neg (by rw [decide_eq_true_eq]; exact h2)]) (Ev.now _)
    · rw [if_neg h1, if_neg (by decide)]
      exact Ev.step (f := fun _ => some ([], 18, 1)) (fun q => by simp only [pushcert_Check.j0]; rw [if_neg h0, if_neg h1]) (Ev.now _)
theorem pCheck_ev (s now win : Int) (l : List Int) (n t k : Int) (r : ByteArray) (o e sg : Int) : Ev (fun q => pushcert_Check.f q s now win l n t k r o e sg) (checkRes s now win l n t k r o e sg) := by
  unfold pushcert_Check.f checkRes pushFault
  refine ev_bind (pVal_ev n t k r o e sg) ?_
  by_cases h : (certFault n t k r o e).1 = 0
  · obtain ⟨h1, h2, h3, _⟩ := certFault_ok h
    rw [if_pos h, h1]
    refine ev_if_neg (by decide) ?_
    simp only [sIsDig, sIsKey, pIsTm, Option.bind_some]
    by_cases hg : isDig sg = true
    · rw [if_pos hg]
      refine ev_if_pos hg ?_
      by_cases hs : isKey s = true
      · rw [if_pos hs]
        refine ev_if_pos hs ?_
        by_cases ht : isTm now = true
        · refine ev_if_pos ht ?_
          by_cases hw : isTm win = true
          · rw [if_pos (show isTm now = true ∧ isTm win = true from ⟨ht, hw⟩)]
            refine ev_if_pos hw (ev_bind (pUsed_ev l) ?_)
            by_cases hu : (usedFault l).1 = 0
            · obtain ⟨u1, u2, u3, _⟩ := used_ok hu
              obtain ⟨c1, c2, c3, c4, c5⟩ := (certOk_iff _ _ _ _ _).1 h2
              rw [if_pos hu, u1]
              refine ev_if_neg (by decide) (ev_bind (pNonce_ev s t) (ev_bind (pPay_ev sg h2 h3) (ev_bind (verify_ev k _ sg (payl_byte n t k r o e)) (ev_bind (search_ev l n u3 (by omega)) ?_))))
              have hv := verify_ok (l := payl n t k r o e) c3 (by have := payl_len n t k r o e; omega) hg
              have hn : (nonceRes s t).1 = sgn s (msg [t]) := by unfold nonceRes; rw [if_pos hs, if_pos c2]
              simp only [hv, hn, win_w ht hw]
              have J := fun st => pCheck_j (s := s) (l := l) (n := n) (t := t) (k := k) (r := r) (o := o) (e := e) sg st u2 u3
              unfold stale
              by_cases h5 : t > now
              · rw [show decide (t > now ∨ t < now - win) = true from decide_eq_true (Or.inl h5)]
                exact ev_if_pos h5 (J true)
              · have e5 : decide (t > now ∨ t < now - win) = decide (t < now - win) := by
                  rw [decide_eq_decide]
                  exact ⟨fun h => h.resolve_left h5, Or.inr⟩
                rw [e5]
                exact ev_if_neg h5 (J _)
            · rw [if_neg hu, if_neg hu]
              exact ev_if_pos ((badc_iff _).2 (fun e => hu (by rw [e]))) (Ev.now _)
          · rw [if_neg (show ¬ (isTm now = true ∧ isTm win = true) from fun h => hw h.2), if_neg (by decide)]
            exact ev_if_neg hw (Ev.now _)
        · rw [if_neg (show ¬ (isTm now = true ∧ isTm win = true) from fun h => ht h.1), if_neg (by decide)]
          exact ev_if_neg ht (Ev.now _)
      · rw [if_neg hs, if_neg (by decide)]
        exact ev_if_neg hs (Ev.now _)
    · rw [if_neg hg, if_neg (by decide)]
      exact ev_if_neg hg (Ev.now _)
  · rw [if_neg h, if_neg h]
    exact ev_if_pos ((badc_iff _).2 (certFault_bad h)) (Ev.now _)
/-! ### the reference's check -/
theorem rPush_j3 {s : Int} {l : List Int} {n t k : Int} {r : ByteArray} {o e : Int} (sg : Int) (st : Bool) (hl : l.length ≤ 40) (hs : isKey s = true) (hc : certOk n t k o e = true) (hz : r.size ≤ 60) :
    Ev (fun q => changeforgeref5_PushFault.j3 q s l st n t k r o e sg) (chk s n t k r o e sg l st) := by
  obtain ⟨c1, c2, c3, c4, c5⟩ := (certOk_iff _ _ _ _ _).1 hc
  unfold chk
  by_cases h0 : st = true
  · rw [if_pos h0]
    exact Ev.step (f := fun _ => some (16, 0)) (fun q => by simp only [changeforgeref5_PushFault.j3]; rw [if_pos h0]; rfl) (Ev.now _)
  · rw [if_neg h0]
    refine Ev.step (fun q => by simp only [changeforgeref5_PushFault.j3]; rw [if_neg h0]) ?_
    refine ev_bind (rNonce_ev hs c2) ?_
    by_cases h1 : n = sgn s (msg [t])
    · rw [if_pos h1]
      refine ev_if_pos h1 (ev_bind (rCertSig_ev sg hc hz) ?_)
      by_cases h2 : sg = certSig n t k r o e
      · rw [if_pos h2]
        refine ev_if_pos h2 (ev_bind (rHas_ev l n (by omega)) ?_)
        by_cases h3 : n ∈ l
        · rw [if_pos h3]
          exact ev_if_pos (decide_eq_true h3) (ev_now fun q => rfl)
        · rw [if_neg h3]
          refine ev_if_neg (by rw [decide_eq_true_eq]; exact h3) ?_
          by_cases h4 : l.length = 40
          · rw [if_pos h4]
            exact ev_if_pos (by omega) (ev_now fun q => rfl)
          · rw [if_neg h4]
            exact ev_if_neg (by omega) (Ev.now _)
      · rw [if_neg h2]
        exact ev_if_neg h2 (ev_now fun q => rfl)
    · rw [if_neg h1]
      exact ev_if_neg h1 (ev_now fun q => rfl)
theorem rPush_loop (s now win : Int) (l : List Int) (n t k : Int) (r : ByteArray) (o e sg : Int) (hl : l.length ≤ 40) {rest : Int × Int}
    (hrest : Ev (fun q => if t > now then changeforgeref5_PushFault.j3 q s l true n t k r o e sg else changeforgeref5_PushFault.j3 q s l (decide (t < wrap64 (now - win))) n t k r o e sg) rest) :
    ∀ (d i : Nat), i + d = l.length → Ev (fun q => changeforgeref5_PushFault.l0 q s now win l i n t k r o e sg) (if (uAt l d i).1 = 0 then rest else uAt l d i) := by
  intro d
  induction d with
  | zero =>
    intro i hi
    refine Ev.step (fun q => by simp only [changeforgeref5_PushFault.l0]; rw [if_neg (by omega)]) ?_
    exact hrest
  | succ d ih =>
    intro i hi
    have hil : i < l.length := by omega
    refine Ev.step (fun q => by simp only [changeforgeref5_PushFault.l0]; rw [if_pos (by omega), if_pos (by omega), rIsDig, Option.bind_some]) ?_
    have jt : Ev (fun q => changeforgeref5_PushFault.j2 q s now win l i true n t k r o e sg) (5, -3) := Ev.step (f := fun _ => some (5, -3)) (fun q => by simp only [changeforgeref5_PushFault.j2]; rw [if_pos trivial]; rfl) (Ev.now _)
    have jf : Ev (fun q => changeforgeref5_PushFault.j2 q s now win l i false n t k r o e sg) (if (uAt l d (i + 1)).1 = 0 then rest else uAt l d (i + 1)) :=
      Ev.step (fun q => by simp only [changeforgeref5_PushFault.j2]; rw [if_neg (by decide), succ_w (i := i) (by omega)]) (ih (i + 1) (by omega))
    unfold uAt
    cases hd : isDig (rd l i)
    · rw [if_pos (show uBad l i from Or.inl hd)]
      exact ev_if_neg (by decide) (ev_val jt (by simp))
    · refine ev_if_pos rfl ?_
      by_cases h0 : 0 < i
      · refine ev_if_pos (by omega) ?_
        rw [pred_w h0 (by omega)]
        refine ev_if_pos (by omega) (ev_if_pos (by omega) ?_)
        by_cases hle : rd l i ≤ rd l ((i - 1 : Nat) : Int)
        · rw [if_pos (show uBad l i from Or.inr ⟨h0, hle⟩), decide_eq_true hle]
          exact ev_val jt (by simp)
        · rw [if_neg (show ¬ uBad l i from fun h => h.elim (fun e => by rw [hd] at e; exact absurd e (by decide)) (fun e => hle e.2)), decide_eq_false hle]
          exact jf
      · rw [if_neg (show ¬ uBad l i from fun h => h.elim (fun e => by rw [hd] at e; exact absurd e (by decide)) (fun e => h0 e.1))]
        exact ev_if_neg (by omega) jf
theorem rPush_ev (s now win : Int) (l : List Int) (n t k : Int) (r : ByteArray) (o e sg : Int) : Ev (fun q => changeforgeref5_PushFault.f q s now win l n t k r o e sg) (pushFault s now win l n t k r o e sg) := by
  unfold changeforgeref5_PushFault.f pushFault
  refine ev_bind (rCert_ev n t k r o e sg) ?_
  by_cases h : (certFault n t k r o e).1 = 0
  · obtain ⟨h1, h2, h3, _⟩ := certFault_ok h
    rw [if_pos h]
    refine ev_if_pos h ?_
    simp only [rIsDig, rIsKey, rIsTm, fault_eq, Option.bind_some]
    by_cases hg : isDig sg = true
    · rw [if_pos hg]
      refine ev_if_pos hg ?_
      by_cases hs : isKey s = true
      · rw [if_pos hs]
        refine ev_if_pos hs ?_
        have jt : Ev (fun q => changeforgeref5_PushFault.j0 q s now win l true n t k r o e sg) (3, -2) := Ev.step (f := fun _ => some (3, -2)) (fun q => by simp only [changeforgeref5_PushFault.j0]; rw [if_pos trivial]; rfl) (Ev.now _)
        by_cases ht : isTm now = true
        · refine ev_if_pos ht ?_
          by_cases hw : isTm win = true
          · rw [if_pos (show isTm now = true ∧ isTm win = true from ⟨ht, hw⟩), hw]
            by_cases hl : l.length ≤ 40
            · refine Ev.step (fun q => by simp only [changeforgeref5_PushFault.j0]; rw [if_neg (by decide), if_neg (by omega)]) ?_
              have hrest : Ev (fun q => if t > now then changeforgeref5_PushFault.j3 q s l true n t k r o e sg else changeforgeref5_PushFault.j3 q s l (decide (t < wrap64 (now - win))) n t k r o e sg) (chk s n t k r o e sg l (stale now win t)) := by
                have J := fun st => rPush_j3 (s := s) (l := l) (n := n) (t := t) (k := k) (r := r) (o := o) (e := e) sg st hl hs h2 h3
                rw [win_w ht hw]
                unfold stale
                by_cases h5 : t > now
                · rw [show decide (t > now ∨ t < now - win) = true from decide_eq_true (Or.inl h5)]
                  exact ev_if_pos h5 (J true)
                · have e5 : decide (t > now ∨ t < now - win) = decide (t < now - win) := by
                    rw [decide_eq_decide]
                    exact ⟨fun h => h.resolve_left h5, Or.inr⟩
                  rw [e5]
                  exact ev_if_neg h5 (J _)
              have L := rPush_loop s now win l n t k r o e sg hl hrest l.length 0 (by omega)
              unfold usedFault
              rw [if_pos hl]
              exact L
            · unfold usedFault
              rw [if_neg hl, if_neg (by decide)]
              exact Ev.step (f := fun _ => some (2, -3)) (fun q => by simp only [changeforgeref5_PushFault.j0]; rw [if_neg (by decide), if_pos (by omega)]; rfl) (Ev.now _)
          · rw [if_neg (show ¬ (isTm now = true ∧ isTm win = true) from fun h => hw h.2), Bool.not_eq_true _ |>.mp hw]
            exact jt
        · rw [if_neg (show ¬ (isTm now = true ∧ isTm win = true) from fun h => ht h.1)]
          exact ev_if_neg ht jt
      · rw [if_neg hs]
        exact ev_if_neg hs (Ev.now _)
    · rw [if_neg hg]
      exact ev_if_neg hg (Ev.now _)
  · rw [if_neg h]
    exact ev_if_neg h (Ev.now _)
theorem rIns_loop (l : List Int) (x : Int) (hl : l.length ≤ 1000) : ∀ (d i : Nat), i + d = l.length → i ≤ lb l x → Ev (fun k => changeforgeref5_Inserted.l0 k l x (l.take i) i) (ins l x) := by
  obtain ⟨hle, h1, h2⟩ := lb_spec l x
  have fin : ∀ i, i = lb l x → ∀ k : Nat, (if (l.take i).length < 17592186044416 then ((some (l.take i ++ [x] : List Int)).bind fun y106 => (if 0 ≤ ((l.take i).length : Int) then (if ((l.take i).length : Int) ≤ (l.length : Int) then (if y106.length + (l.drop (((l.take i).length : Int) : Int).toNat).length < 17592186044416 then (some (y106 ++ (l.drop (((l.take i).length : Int) : Int).toNat))) else (none)) else (none)) else (none))) else (none)) = some (ins l x) := by
    intro i hi k
    have hlen : (l.take i).length = i := by rw [List.length_take]; omega
    rw [hlen, if_pos (by omega)]
    simp only [Option.bind_some, Int.toNat_natCast]
    rw [if_pos (by omega), if_pos (by omega), if_pos (by simp only [List.length_append, List.length_singleton, List.length_drop, hlen]; omega), hi]
    rfl
  intro d
  induction d with
  | zero =>
    intro i hi hb
    exact Ev.step (f := fun _ => some (ins l x)) (fun k => by simp only [changeforgeref5_Inserted.l0]; rw [if_neg (by omega)]; exact fin i (by omega) k) (Ev.now _)
  | succ d ih =>
    intro i hi hb
    have hil : i < l.length := by omega
    have hlen : (l.take i).length = i := by rw [List.length_take]; omega
    by_cases hx : l[i] < x
    · have hlt : i < lb l x := by
        rcases Nat.lt_or_ge i (lb l x) with h | h
        · exact h
        · have hi2 : i = lb l x := by omega
          subst hi2
          exact absurd hx (h2 hil)
      refine Ev.step (fun k => by simp only [changeforgeref5_Inserted.l0]; rw [if_pos (by omega), if_pos (by omega), rd_get l i hil, if_pos hx, if_pos (by omega), succ_w (i := i) (by omega)]) ?_
      have := ih (i + 1) (by omega) (by omega)
      rw [List.take_succ_eq_append_getElem hil] at this
      exact this
    · have hi2 : i = lb l x := by
        rcases Nat.lt_or_ge i (lb l x) with h | h
        · exact absurd (h1 i hil h) hx
        · omega
      exact Ev.step (f := fun _ => some (ins l x)) (fun k => by simp only [changeforgeref5_Inserted.l0]; rw [if_pos (by omega), if_pos (by omega), rd_get l i hil, if_neg hx]; exact fin i hi2 k) (Ev.now _)
theorem rIns_ev (l : List Int) (x : Int) (hl : l.length ≤ 1000) : Ev (fun k => changeforgeref5_Inserted.f k l x) (ins l x) := by
  unfold changeforgeref5_Inserted.f
  exact rIns_loop l x hl l.length 0 (by omega) (Nat.zero_le _)
/-- What is known where the check answers no fault. -/
theorem push_ok {s now win : Int} {l : List Int} {n t k : Int} {r : ByteArray} {o e sg : Int} (h : (pushFault s now win l n t k r o e sg).1 = 0) :
    pushFault s now win l n t k r o e sg = (0, 0) ∧ (certFault n t k r o e).1 = 0 ∧ isDig sg = true ∧ isKey s = true ∧ isTm now = true ∧ isTm win = true ∧ (usedFault l).1 = 0 ∧ stale now win t = false ∧ n = sgn s (msg [t]) ∧ sg = certSig n t k r o e ∧ n ∉ l ∧ l.length < 40 := by
  unfold pushFault at *
  by_cases h1 : (certFault n t k r o e).1 = 0
  · rw [if_pos h1] at *
    by_cases h2 : isDig sg = true
    · rw [if_pos h2] at *
      by_cases h3 : isKey s = true
      · rw [if_pos h3] at *
        by_cases h4 : isTm now = true ∧ isTm win = true
        · rw [if_pos h4] at *
          by_cases h5 : (usedFault l).1 = 0
          · rw [if_pos h5] at *
            unfold chk at *
            by_cases h6 : stale now win t = true
            · rw [if_pos h6] at h
              exact absurd h (by decide)
            · rw [if_neg h6] at *
              by_cases h7 : n = sgn s (msg [t])
              · rw [if_pos h7] at *
                by_cases h8 : sg = certSig n t k r o e
                · rw [if_pos h8] at *
                  by_cases h9 : n ∈ l
                  · rw [if_pos h9] at h
                    exact absurd h (by decide)
                  · rw [if_neg h9] at *
                    by_cases h10 : l.length = 40
                    · rw [if_pos h10] at h
                      exact absurd h (by decide)
                    · rw [if_neg h10]
                      exact ⟨rfl, h1, h2, h3, h4.1, h4.2, h5, Bool.eq_false_iff.2 h6, h7, h8, h9, by have := (used_ok h5).2.1; omega⟩
                · rw [if_neg h8] at h
                  exact absurd h (by decide)
              · rw [if_neg h7] at h
                exact absurd h (by decide)
          · rw [if_neg h5] at h
            exact absurd h h5
        · rw [if_neg h4] at h
          exact absurd h (by decide)
      · rw [if_neg h3] at h
        exact absurd h (by decide)
    · rw [if_neg h2] at h
      exact absurd h (by decide)
  · rw [if_neg h1] at h
    exact absurd h h1
theorem push_of {s now win : Int} {l : List Int} {n t k : Int} {r : ByteArray} {o e sg : Int} (h1 : (certFault n t k r o e).1 = 0) (h2 : isDig sg = true) (h3 : isKey s = true) (h4 : isTm now = true) (h5 : isTm win = true) (h6 : (usedFault l).1 = 0) :
    pushFault s now win l n t k r o e sg = chk s n t k r o e sg l (stale now win t) := by
  unfold pushFault
  rw [if_pos h1, if_pos h2, if_pos h3, if_pos ⟨h4, h5⟩, if_pos h6]
theorem isDig_certSig (n t k : Int) (r : ByteArray) (o e : Int) : isDig (certSig n t k r o e) = true := isDig_sgn _ _
abbrev mn : ByteArray := ⟨#[109, 97, 105, 110]⟩
theorem nonce_ev (s t : Int) : Ev (fun k => changeforgelaw5_nonce.f k s t) (if (nonceRes s t).2.1 = 0 then (nonceRes s t).1 else -1) := by
  unfold changeforgelaw5_nonce.f
  refine ev_bind (pNonce_ev s t) ?_
  by_cases h : (nonceRes s t).2.1 = 0
  · exact ev_val (ev_if_pos h (Ev.now _)) (if_pos h).symm
  · exact ev_val (ev_if_neg h (Ev.now _)) (if_neg h).symm
abbrev n0 : Int := sgn 9 (msg [100])
abbrev s0 : Int := certSig n0 100 5 mn 1 2
theorem pushes_ev : Ev (fun k => changeforgelaw5_pushes.f k) true := by
  have e0 : (if (nonceRes 9 100).2.1 = 0 then (nonceRes 9 100).1 else -1) = n0 := by decide +kernel
  have hn := ev_val (nonce_ev 9 100) e0
  have hc : Ev (fun k => changeforgelaw5_cert.f k) (n0, 100, 5, mn, 1, 2, 0) := by
    unfold changeforgelaw5_cert.f
    exact ev_bind hn (Ev.now _)
  have e1 : certRes n0 100 5 mn 1 2 = (n0, 100, 5, mn, 1, 2, s0, 0, 0) := by
    unfold certRes
    rw [if_pos (by decide +kernel)]
  have e2 : checkRes 9 105 10 [] n0 100 5 mn 1 2 s0 = ([n0], 0, 0) := by decide +kernel
  have e3 : checkRes 9 105 10 [n0] n0 100 5 mn 1 2 s0 = ([], 7, 0) := by decide +kernel
  have e4 : checkRes 9 111 10 [] n0 100 5 mn 1 2 s0 = ([], 16, 0) := by decide +kernel
  have e5 : certFault 0 0 0 ⟨#[]⟩ 0 0 = (3, 0) := by decide +kernel
  have e6 : n0 ≥ 0 := by decide +kernel
  unfold changeforgelaw5_pushes.f
  refine ev_bind hc (ev_bind (ev_val (pCertify_ev n0 100 5 mn 1 2 0) e1) ?_)
  refine ev_bind (ev_val (pCheck_ev 9 105 10 [] n0 100 5 mn 1 2 s0) e2) ?_
  refine ev_bind (ev_val (pCheck_ev 9 105 10 [n0] n0 100 5 mn 1 2 s0) e3) ?_
  refine ev_bind (ev_val (pCheck_ev 9 111 10 [] n0 100 5 mn 1 2 s0) e4) ?_
  refine ev_bind signs_ev (ev_if_pos rfl (ev_bind hn (ev_if_pos e6 (ev_if_pos rfl (ev_if_pos rfl (ev_if_pos (by simp) ?_))))))
  simp only [lFault, Option.bind_some]
  refine ev_if_pos (by decide) (ev_if_pos (by decide) ?_)
  refine ev_bind (ev_val (pVal_ev 0 0 0 ⟨#[]⟩ 0 0 0) e5) (ev_now fun k => by decide)
end Go.Proofs.Ytlbjefoipljkgaa.Pure
