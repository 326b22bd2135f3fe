/- strings.ContainsFunc at 'no digit', strconv.Itoa, strconv.Atoi at digits, strings.Join, Cut and Split answer as plain words say (own work, over the library's contracts as laid). Conditions: each theorem's own. -/
import Derived.Test.YtggdbafmpmfmcaaDoorVer
import Derived.Test.YtggdbafmpmfmcaaDoorLib0
import Derived.Test.YtggdbafmpmfmcaaDoorShelf
import Derived.WalkKit
import Derived.Lib.OthersKept
import Derived.Lib.AppendIntMem
set_option linter.unusedVariables false
set_option linter.unusedSimpArgs false
namespace Go.Proofs.YtggdbafmpmfmcaaDoor.Fn
open Go Go.RowKit Go.Proofs.YtggdbafmpmfmcaaDoorW.PrintWords Go.Proofs.YtggdbafmpmfmcaaDoorW.PrintLast Go.Proofs.YtggdbafmpmfmcaaDoorW.PrintMore
def ndR (x : Nat) : Bool := !(decide (48 ≤ x) && decide (x ≤ 57))
set_option maxHeartbeats 400000 in
theorem nd_calls (x : Nat) (w : World) (hx : x ≤ 1114111) :
    Calls Tryd.prog 56 #[.int .i32 x] w fun e w' => e = .returned (.bool (ndR x)) ∧ Below w.heap.size w w' := by
  by_cases h : (x : Int) < 48
  · have e : ndR x = true := by unfold ndR; rw [decide_eq_false (by omega)]; rfl
    rw [e]
    clear e
    have hd : decide ((x : Int) < 48) = true := decide_eq_true h
    clear h
    go_enter Tryd.func56, Tryd.ntmps56
    go_wp2
    go_ret
    exact ⟨rfl, Below.refl _ _⟩
  · have e : ndR x = decide ((x : Int) > 57) := by
      unfold ndR
      rw [decide_eq_true (by omega : 48 ≤ x), Bool.true_and, ← decide_not, decide_eq_decide]
      omega
    rw [e]
    clear e
    have hd : decide ((x : Int) < 48) = false := decide_eq_false h
    clear h
    go_enter Tryd.func56, Tryd.ntmps56
    go_wp2
    go_ret
    exact ⟨rfl, Below.refl _ _⟩
theorem nd_from (s : ByteArray) : ∀ (f pos : Nat), s.size ≤ pos + f → (0 ≤ Lib.idxFuncFrom ndR true s f pos ↔ (s.data.toList.drop pos).all dgB = false)
  | 0, pos, h => by
    rw [List.drop_of_length_le (by rw [chars_len]; omega)]
    simp [Lib.idxFuncFrom]
  | f + 1, pos, h => by
    unfold Lib.idxFuncFrom
    by_cases hp : pos < s.size
    · rw [if_pos hp]
      have hl : pos < s.data.toList.length := by rw [chars_len]; exact hp
      rw [List.drop_eq_getElem_cons hl]
      have hg : s.data.toList[pos] = s[pos]'hp := rfl
      by_cases hd : dgB (s[pos]'hp) = true
      · have ha : (s[pos]'hp).toNat < 128 := by
          unfold dgB at hd
          simp only [Bool.and_eq_true, decide_eq_true_eq] at hd
          omega
        rw [decode_ascii s pos hp ha]
        have e : ndR (s[pos]'hp).toNat = false := by
          unfold dgB at hd
          unfold ndR
          rw [hd]
          rfl
        simp only [e, Bool.false_eq_true, if_false]
        rw [nd_from s f (pos + 1) (by omega), List.all_cons, hg, hd, Bool.true_and]
      · rw [Bool.not_eq_true] at hd
        rw [List.all_cons, hg, hd, Bool.false_and]
        have e : ndR (Utf8.decode s pos).1 = true := by
          by_cases ha : (s[pos]'hp).toNat < 128
          · rw [decode_ascii s pos hp ha]
            unfold dgB at hd
            unfold ndR
            rw [hd]
            rfl
          · have := decode_high s pos hp (by omega)
            unfold ndR
            rw [decide_eq_false (by omega : ¬ (Utf8.decode s pos).1 ≤ 57), Bool.and_false]
            rfl
        rw [if_pos e]
        simp
    · rw [if_neg hp, List.drop_of_length_le (by rw [chars_len]; omega)]
      simp
theorem contains_calls (s : ByteArray) (w : World) :
    Calls Tryd.prog 55 #[.string s, .func (.func 56) #[] #[]] w fun e w' => e = .returned (.bool (!s.data.toList.all dgB)) ∧ Below w.heap.size w w' := by
  have h := Tryd.strings_ContainsFunc_grows 56 #[] (fun args w => enters_of Tryd.func56 (by kernel_rfl) rfl args w) ndR s w (fun W x hx hb => nd_calls x W hx)
  have e : decide (0 ≤ Lib.idxFunc ndR true s) = !s.data.toList.all dgB := by
    have := nd_from s s.size 0 (by omega)
    rw [List.drop_zero] at this
    cases ha : s.data.toList.all dgB
    · exact decide_eq_true (this.2 ha)
    · refine decide_eq_false (fun hn => ?_)
      rw [this.1 hn] at ha
      cases ha
  rw [e] at h
  exact h
def decS (n : Nat) : ByteArray := ⟨(Lib.decDigits n).toArray⟩
theorem itoa_calls (a0 : Int) (h0 : 0 ≤ a0) (h1 : a0 ≤ 9223372036854775807) (w : World) (HL : LibOk w) :
    Calls Tryd.prog 50 #[.int .i64 a0] w fun e w' => e = .returned (.string (decS a0.toNat)) ∧ Below w.heap.size w w' := by
  have h := Tryd.strconv_Itoa a0 (by omega) h1 w HL.2
  have e : Lib.itoa a0 = Lib.decDigits a0.toNat := by unfold Lib.itoa; rw [if_neg (by omega)]
  rw [e] at h
  exact h.mono fun e w' ⟨he, k, os, hw⟩ => ⟨he, hw ▸ Lib.below_grow _ w (Nat.le_refl _) k os⟩
def joinL (sep : List UInt8) (xs : List (List UInt8)) : List UInt8 := Lib.join xs sep
theorem C_str {w : World} {A : Option Addr} {n : Nat} {xs : List ByteArray} (h : Kd.C Kd.string w A n xs) (hn : 0 < n) :
    ∃ b o, A = some ⟨b, o, none⟩ ∧ b < w.heap.size ∧ ∀ (j : Nat) x, xs[j]? = some x → w.cell? ⟨b, o + j, none⟩ = some (.string x) := by
  obtain ⟨hl, _, h⟩ := h
  obtain ⟨⟨b, o, s⟩, rfl, hc⟩ := h hn
  have hg : ∀ (j : Nat) x, xs[j]? = some x → w.cell? ((⟨b, o, s⟩ : Addr).add j) = some (.string x) := fun j x hj => by
    obtain ⟨c, hcl, hr, hcell⟩ := hc j x hj
    have e : c = [.string x] := hr
    subst e
    simpa [show Kd.string.sz = 1 from rfl] using hcell 0 (.string x) rfl
  have h0 := hg 0 xs[0] (List.getElem?_eq_getElem (by omega))
  have hs : s = none := by
    cases s with
    | none => rfl
    | some q =>
      simp only [Addr.add, if_true, World.cell?] at h0
      split at h0 <;> simp at h0
  subst hs
  refine ⟨b, o, rfl, ?_, fun j x hj => ?_⟩
  · refine Decidable.byContradiction fun hlt => ?_
    simp [Addr.add, World.cell?, Array.getElem?_eq_none (Nat.le_of_not_lt hlt)] at h0
  · have := hg j x hj
    unfold Addr.add at this
    split at this
    · rename_i hj0
      subst hj0
      exact this
    · exact this
theorem join_calls (A0 : Option Addr) (c0 : Nat) (l0 : List ByteArray) (a1 : ByteArray) (w : World) (hr0 : Kd.C Kd.string w A0 l0.length l0) (hc0 : l0.length ≤ c0) (hl : l0.length ≤ 1000000) (hj : (joinL a1.data.toList (l0.map (·.data.toList))).length ≤ 140737488355328) :
    Calls Tryd.prog 51 #[.slice A0 l0.length c0, .string a1] w fun e w' => e = .returned (.string ⟨(joinL a1.data.toList (l0.map (·.data.toList))).toArray⟩) ∧ Below w.heap.size w w' := by
  cases l0 with
  | nil => exact (Tryd.strings_Join_none A0 c0 a1 w).mono fun e w' ⟨he, hw⟩ => ⟨he, hw ▸ Below.refl _ _⟩
  | cons x l =>
    obtain ⟨b, o, rfl, hb, hc⟩ := C_str hr0 (by simp)
    exact Tryd.strings_Join b o c0 (x :: l) a1 w hc hb (by omega) hc0 hj
end Go.Proofs.YtggdbafmpmfmcaaDoor.Fn
