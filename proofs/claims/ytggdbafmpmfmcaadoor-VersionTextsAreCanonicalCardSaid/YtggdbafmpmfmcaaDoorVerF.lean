/- cmp.Compare of strings, and the reference's decimal digits, as plain words say (own work). Conditions: each theorem's own. -/
import Derived.Test.YtggdbafmpmfmcaaDoorVerA
import Derived.Test.YtggdbafmpmfmcaaDoorTight
import Derived.WalkKit
import Derived.Laws.Cover1
import Derived.Deep.QuietTactic
import Derived.BigQuiet
import Derived.IntWalk
set_option linter.unusedVariables false
set_option linter.unusedSimpArgs false
namespace Go.Proofs.YtggdbafmpmfmcaaDoor.Fn
open Go Go.RowKit Go.Proofs.YtggdbafmpmfmcaaDoorW.PrintWords Go.Proofs.YtggdbafmpmfmcaaDoorW.PrintLast Go.Proofs.YtggdbafmpmfmcaaDoorW.PrintMore
theorem less_irrefl : ∀ a : List UInt8, Op.bytesLess a a = false
  | [] => rfl
  | x :: a => by
    unfold Op.bytesLess
    rw [less_irrefl a, Bool.and_false, Bool.or_false]
    simp
theorem less_tri : ∀ a b : List UInt8, Op.bytesLess a b = false → a ≠ b → Op.bytesLess b a = true
  | [], [], _, h => absurd rfl h
  | [], _ :: _, h, _ => by simp [Op.bytesLess] at h
  | _ :: _, [], _, _ => rfl
  | x :: a, y :: b, h, hne => by
    unfold Op.bytesLess at h ⊢
    simp only [Bool.or_eq_false_iff, Bool.and_eq_false_iff, decide_eq_false_iff_not, Bool.or_eq_true, Bool.and_eq_true, decide_eq_true_eq, beq_iff_eq, beq_eq_false_iff_ne] at h ⊢
    by_cases hxy : x = y
    · subst hxy
      right
      exact ⟨rfl, less_tri a b (h.2.resolve_left (fun hn => hn rfl)) (fun e => hne (by rw [e]))⟩
    · left
      rcases UInt8.lt_or_lt_of_ne hxy with h1 | h1
      · exact absurd h1 h.1
      · exact h1
set_option maxHeartbeats 400000 in
theorem cmpStr_calls (a b : ByteArray) (w : World) : Calls Tryd.prog 58 #[.string a, .string b] w fun e w' => e = .returned (.int .i64 (bcmp a.data.toList b.data.toList)) ∧ Drawn0 w w' := by
  have hn : ∀ (s : ByteArray) (W : World), Calls Tryd.prog 70 #[.string s] W fun e w' => e = .returned (.bool false) ∧ W = w' := by
    intro s W
    go_enter Tryd.func70, Tryd.ntmps70
    go_wp2
    go_ret
    exact ⟨by simp, rfl⟩
  rw [← chars_eq, ← chars_eq]
  unfold bcmp
  by_cases h : Op.bytesLess a.toList b.toList = true
  · rw [if_pos h]
    go_enter Tryd.func58, Tryd.ntmps58
    go_wp2_with (go_at_call 70; refine (hn _ _).mono ?_; rintro e w' ⟨rfl, rfl⟩)
    go_ret
    exact ⟨rfl, Drawn0.refl _⟩
  · rw [if_neg h]
    rw [Bool.not_eq_true] at h
    by_cases he : a.toList = b.toList
    · have h2 : Op.bytesLess b.toList a.toList = false := by rw [he]; exact less_irrefl _
      rw [if_neg (by rw [h2]; decide)]
      have hb : (a.toList == b.toList) = true := beq_iff_eq.2 he
      clear he h2
      go_enter Tryd.func58, Tryd.ntmps58
      go_wp2_with (go_at_call 70; refine (hn _ _).mono ?_; rintro e w' ⟨rfl, rfl⟩)
      go_ret
      exact ⟨rfl, Drawn0.refl _⟩
    · have h2 := less_tri _ _ h he
      rw [if_pos h2]
      have hb : (a.toList == b.toList) = false := beq_eq_false_iff_ne.2 he
      clear he h2
      go_enter Tryd.func58, Tryd.ntmps58
      go_wp2_with (go_at_call 70; refine (hn _ _).mono ?_; rintro e w' ⟨rfl, rfl⟩)
      go_ret
      exact ⟨rfl, Drawn0.refl _⟩
abbrev digS : ByteArray := ⟨#[48, 49, 50, 51, 52, 53, 54, 55, 56, 57]⟩
theorem dig_piece : ∀ i : Nat, i < 10 → (digS.extract i (i + 1)).data.toList = [UInt8.ofNat (48 + i)] := by decide +kernel
theorem decS_one (i : Nat) (h : i < 10) : digS.extract i (i + 1) = decS i := chars_inj (by rw [dig_piece i h]; unfold decS; rw [Lib.decDigits_one h])
theorem decS_more (u : Nat) (h : ¬ u < 10) : decS (u / 10) ++ digS.extract (u % 10) (u % 10 + 1) = decS u := chars_inj (by
  have e : (decS u).data.toList = Lib.decDigits (u / 10) ++ [UInt8.ofNat (48 + u % 10)] := by
    unfold decS
    rw [Lib.decDigits, dif_neg h]
  rw [e, ← dig_piece (u % 10) (by omega)]
  simp [decS])
theorem decS_size : ∀ (d u : Nat), u < 10 ^ d → (decS u).size ≤ d + 1
  | 0, u, h => by
    have : u = 0 := by simpa using h
    subst this
    decide +kernel
  | d + 1, u, h => by
    by_cases hu : u < 10
    · unfold decS
      rw [Lib.decDigits_one hu]
      show 1 ≤ _
      omega
    · have := decS_size d (u / 10) (by rw [Nat.pow_succ] at h; omega)
      have e : (decS u).size = (decS (u / 10)).size + 1 := by
        unfold decS
        rw [Lib.decDigits, dif_neg hu]
        show (_ : List UInt8).toArray.size = (_ : List UInt8).toArray.size + 1
        simp
      omega
theorem dig_slice (w : World) : ∀ i : Nat, i < 10 → (Instr.slice 9 (.string ⟨#[48, 49, 50, 51, 52, 53, 54, 55, 56, 57]⟩) (some (.int .i64 (i : Int))) (some (.int .i64 ((i : Int) + 1))) none).run Tryd.prog w = .ok (.string (digS.extract i (i + 1))) w
  | 0, _ => by kernel_rfl
  | 1, _ => by kernel_rfl
  | 2, _ => by kernel_rfl
  | 3, _ => by kernel_rfl
  | 4, _ => by kernel_rfl
  | 5, _ => by kernel_rfl
  | 6, _ => by kernel_rfl
  | 7, _ => by kernel_rfl
  | 8, _ => by kernel_rfl
  | 9, _ => by kernel_rfl
  | n + 10, h => absurd h (by omega)
theorem dig_at (n : Int) (h0 : 0 ≤ n) (h1 : n < 10) (w : World) : (Instr.slice 9 (.string ⟨#[48, 49, 50, 51, 52, 53, 54, 55, 56, 57]⟩) (some (.int .i64 n)) (some (.int .i64 (n + 1))) none).run Tryd.prog w = .ok (.string (digS.extract n.toNat (n.toNat + 1))) w := by
  have := dig_slice w n.toNat (by omega)
  rw [Int.toNat_of_nonneg h0] at this
  exact this
set_option maxHeartbeats 1000000 in
theorem digits_one (n : Int) (w : World) (h0 : 0 ≤ n) (hu : n < 10) :
    Calls Tryd.prog 35 #[.int .i64 n] w fun e w' => e = .returned (.string (decS n.toNat)) ∧ ∃ m, w' = w.drewN m := by
  have e := decS_one n.toNat (by omega)
  have hs := dig_at n h0 hu
  rw [e] at hs
  clear e
  generalize decS n.toNat = r at hs ⊢
  go_enter Tryd.func35, Tryd.ntmps35
  go_wp2_with fail
  go_ret
  exact ⟨rfl, 0, rfl⟩
set_option maxHeartbeats 1000000 in
theorem digits_nat (d : Nat) : ∀ (n : Int) (w : World), 0 ≤ n → n.toNat < 10 ^ d → n ≤ 9223372036854775807 → d ≤ 20 →
    Calls Tryd.prog 35 #[.int .i64 n] w fun e w' => e = .returned (.string (decS n.toNat)) ∧ ∃ m, w' = w.drewN m := by
  induction d with
  | zero =>
    intro n w h0 h _ _
    exact digits_one n w h0 (by have : n.toNat = 0 := by simpa using h
                                omega)
  | succ d ih =>
    intro n w h0 h hm hd
    by_cases hu : n < 10
    · exact digits_one n w h0 hu
    · have e := decS_more n.toNat (by omega)
      have hq : n.toNat / 10 = (n / 10).toNat := by omega
      have hr : n.toNat % 10 = (n % 10).toNat := by omega
      have hs := decS_size d (n / 10).toNat (by rw [Nat.pow_succ] at h; omega)
      have c := fun w => ih (n / 10) w (by omega) (by rw [Nat.pow_succ] at h; omega) (by omega) (by omega)
      have hd := dig_at (n % 10) (by omega) (by omega)
      rw [hq, hr] at e
      have E := Aside0.mk e
      have C := Aside0.mk c
      have hc : (decS (n / 10).toNat).size ≤ 100 := by omega
      have hy : (digS.extract (n % 10).toNat ((n % 10).toNat + 1)).size ≤ 1 := by
        rw [← chars_len, dig_piece _ (by omega)]
        simp
      clear e h ih hs c hq hr
      generalize decS (n / 10).toNat = p at C hc E
      generalize digS.extract (n % 10).toNat ((n % 10).toNat + 1) = y at hd hy E
      generalize decS n.toNat = r at E ⊢
      have e1 : IntKind.i64.wrap (n / 10) = n / 10 := IntWalk.i64_in _ (by omega)
      have e2 : IntKind.i64.wrap (n % 10) = n % 10 := IntWalk.i64_in _ (by omega)
      have e3 : IntKind.i64.wrap (n % 10 + 1) = n % 10 + 1 := IntWalk.i64_in _ (by omega)
      go_enter Tryd.func35, Tryd.ntmps35
      go_wp2_with fail
      go_quiet ((go_at_call 35; exact Calls.quiet_of (C.out _)))
      go_wp2
      go_ret
      exact ⟨by first | rfl | rw [← E.out]; rfl, _, rfl⟩
end Go.Proofs.YtggdbafmpmfmcaaDoor.Fn
