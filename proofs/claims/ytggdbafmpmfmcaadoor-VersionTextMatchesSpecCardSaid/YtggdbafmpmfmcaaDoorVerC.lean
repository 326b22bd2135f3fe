/- slices.CompareFunc at version.identifiers compares lists of identifiers as the plain words say (own work). No condition. -/
import Derived.Test.YtggdbafmpmfmcaaDoorVerI
import Derived.Test.YtggdbafmpmfmcaaDoorVerA
import Derived.Test.YtggdbafmpmfmcaaDoorTight
import Derived.WalkKit
import Derived.Deep.LoopGhost
set_option linter.unusedVariables false
set_option linter.unusedSimpArgs false
namespace Go.Proofs.YtggdbafmpmfmcaaDoor.Fn
open Go Go.RowKit Go.Proofs.YtggdbafmpmfmcaaDoorW.PrintWords Go.Proofs.YtggdbafmpmfmcaaDoorW.PrintLast Go.Proofs.YtggdbafmpmfmcaaDoorW.PrintMore
theorem preCmp_drop (l m : List ByteArray) (k : Nat) (h0 : k < l.length) (h1 : k < m.length) :
    preCmp (l.drop k) (m.drop k) = if idCmp l[k].data.toList m[k].data.toList ≠ 0 then idCmp l[k].data.toList m[k].data.toList else preCmp (l.drop (k + 1)) (m.drop (k + 1)) := by
  rw [List.drop_eq_getElem_cons h0, List.drop_eq_getElem_cons h1]
  rfl
theorem preCmp_nil (m : List ByteArray) : preCmp [] m = if m.length = 0 then 0 else -1 := by cases m <;> rfl
theorem preCmp_over (l m : List ByteArray) (k : Nat) (h0 : k < l.length) (h1 : m.length ≤ k) : preCmp (l.drop k) (m.drop k) = 1 := by
  rw [List.drop_eq_getElem_cons h0, List.drop_of_length_le h1]
  rfl
theorem ids_calls (a b : ByteArray) (w : World) : Calls Tryd.prog 47 #[.string a, .string b] w fun e w' => e = .returned (.int .i64 (idCmp a.data.toList b.data.toList)) ∧ Below w.heap.size w w' := by
  obtain ⟨k, h⟩ := (pIdentifiers a b).rounds
  exact version_identifiers.calls k a b _ w h
set_option maxHeartbeats 4000000 in
set_option maxRecDepth 100000 in
theorem compareFunc_calls (A0 : Option Addr) (c0 : Nat) (l0 : List ByteArray) (A1 : Option Addr) (c1 : Nat) (l1 : List ByteArray) (w : World) (hr0 : Kd.C Kd.string w A0 l0.length l0) (hc0 : l0.length ≤ c0) (hr1 : Kd.C Kd.string w A1 l1.length l1) (hc1 : l1.length ≤ c1) :
    Calls Tryd.prog 46 #[.slice A0 l0.length c0, .slice A1 l1.length c1, .func (.func 47) #[] #[]] w fun e w' => e = .returned (.int .i64 (preCmp l0 l1)) ∧ Below w.heap.size w w' := by
  have hu := Tryd.underlying22
  have hm0 : l0.length ≤ 9223372036854775807 := hr0.2.1
  have hm1 : l1.length ≤ 9223372036854775807 := hr1.2.1
  obtain ⟨n0, hn0⟩ : ∃ n, n = l0.length := ⟨_, rfl⟩
  obtain ⟨n1, hn1⟩ : ∃ n, n = l1.length := ⟨_, rfl⟩
  have N0 := Aside0.mk hn0
  have N1 := Aside0.mk hn1
  have C0 := Aside0.mk hr0
  have C1 := Aside0.mk hr1
  rw [← hn0] at hm0 hc0 ⊢
  rw [← hn1] at hm1 hc1 ⊢
  clear hr0 hr1 hn0 hn1
  rcases Nat.eq_zero_or_pos n0 with hz | hp
  · have hl : l0 = [] := List.length_eq_zero_iff.1 (by have := N0.out; omega)
    have R : Aside0 (preCmp l0 l1 = if n1 = 0 then 0 else -1) := ⟨by rw [hl, preCmp_nil, N1.out]⟩
    subst hz
    clear hl hc0 hm0
    by_cases h1 : n1 = 0
    · rw [R.out, if_pos h1]
      subst h1
      go_enter Tryd.func46, Tryd.ntmps46
      go_wp2
      refine wp_loop_rounds 1 ?_
      rw [rounds_succ]
      go_wp2
      go_ret
      exact ⟨rfl, Below.refl _ _⟩
    · rw [R.out, if_neg h1]
      have hp1 : 0 < n1 := by omega
      clear h1
      go_enter Tryd.func46, Tryd.ntmps46
      go_wp2
      refine wp_loop_rounds 1 ?_
      rw [rounds_succ]
      go_wp2
      go_ret
      exact ⟨rfl, Below.refl _ _⟩
  · obtain ⟨b0, o0, rfl, hb0, hx0⟩ := C_str C0.out (by have := N0.out; omega)
    have X0 := Aside0.mk hx0
    clear hx0
    rcases Nat.eq_zero_or_pos n1 with hz | hp1
    · have R : Aside0 (preCmp l0 l1 = 1) := ⟨by have := preCmp_over l0 l1 0 (by have := N0.out; omega) (by have := N1.out; omega); simpa using this⟩
      rw [R.out]
      have hl : 0 < l0.length := by have := N0.out; omega
      have hx : w.cell? ⟨b0, o0, none⟩ = some (.string l0[0]) := by simpa using X0.out 0 _ (List.getElem?_eq_getElem hl)
      generalize l0[0] = x at hx
      clear hl
      subst hz
      have hd : decide ((0 : Int) < n0) = true := decide_eq_true (by omega)
      go_enter Tryd.func46, Tryd.ntmps46
      go_wp2
      refine wp_loop_rounds 1 ?_
      rw [rounds_succ]
      go_wp2
      go_ret
      exact ⟨rfl, Below.refl _ _⟩
    · obtain ⟨b1, o1, rfl, hb1, hx1⟩ := C_str C1.out (by have := N1.out; omega)
      have X1 := Aside0.mk hx1
      clear hx1
      go_enter Tryd.func46, Tryd.ntmps46
      go_wp2
      go_loopw [13] (fun i wr => ∃ k : Nat, k ≤ n0 ∧ k ≤ n1 ∧ i = .int .i64 k ∧ Below w.heap.size w wr ∧ preCmp l0 l1 = preCmp (l0.drop k) (l1.drop k)) (fun i _ => n0 - (intOf i).toNat)
      case atStart => exact ⟨0, Nat.zero_le _, Nat.zero_le _, rfl, Below.refl _ _, by simp⟩
      case round =>
        obtain ⟨k, hk0, hk1, rfl, hbw, hrel⟩ := hrel
        have W := Aside0.mk hbw
        have R := Aside0.mk hrel
        clear hrel hbw
        by_cases hlt : k < n0
        · have hl0 : k < l0.length := by have := N0.out; omega
          have hx := (W.out.cell (p := ⟨b0, o0 + k, none⟩) hb0).trans (X0.out k _ (List.getElem?_eq_getElem hl0))
          by_cases hlt1 : k < n1
          · have hl1 : k < l1.length := by have := N1.out; omega
            have hy := (W.out.cell (p := ⟨b1, o1 + k, none⟩) hb1).trans (X1.out k _ (List.getElem?_eq_getElem hl1))
            have P := Aside0.mk (preCmp_drop l0 l1 k hl0 hl1)
            generalize l0[k] = x at hx P
            generalize l1[k] = y at hy P
            by_cases hi : idCmp x.data.toList y.data.toList = 0
            · have E := Aside0.mk (show preCmp l0 l1 = preCmp (l0.drop (k + 1)) (l1.drop (k + 1)) from by rw [R.out, P.out, if_neg (by rw [hi]; decide)])
              have I := Aside0.mk hi
              clear hi
              go_wp2_with (go_at_call 47; refine (ids_calls x y _).mono ?_; rw [I.out]; rintro e w' ⟨rfl, hb⟩)
              go_roundw
              case rel => exact ⟨k + 1, by omega, by omega, by go_num, W.out.trans (hb.mono W.out.size), E.out⟩
              case measure => simp [intOf]; omega
            · have E := Aside0.mk (show preCmp l0 l1 = idCmp x.data.toList y.data.toList from by rw [R.out, P.out, if_pos hi])
              generalize hz : idCmp x.data.toList y.data.toList = z at E hi
              have I := Aside0.mk hz
              clear hz
              have hz1 : (z == 0) = false := beq_eq_false_iff_ne.2 hi
              have hz2 : (z != 0) = true := bne_iff_ne.2 hi
              clear hi
              go_wp2_with (go_at_call 47; refine (ids_calls x y _).mono ?_; rw [I.out]; rintro e w' ⟨rfl, hb⟩)
              go_ret
              exact ⟨by first | (rw [E.out]; done) | (rw [E.out]; rfl), W.out.trans (hb.mono W.out.size)⟩
          · have E := Aside0.mk (show preCmp l0 l1 = 1 from by rw [R.out]; exact preCmp_over l0 l1 k hl0 (by have := N1.out; omega))
            generalize l0[k] = x at hx
            go_wp2
            go_ret
            exact ⟨by first | (rw [E.out]; done) | (rw [E.out]; rfl), W.out⟩
        · have hk : k = n0 := by omega
          have E := Aside0.mk (show preCmp l0 l1 = if n1 = k then 0 else -1 from by
            rw [R.out, List.drop_of_length_le (by have := N0.out; omega), preCmp_nil, List.length_drop]
            have := N1.out
            by_cases h : n1 = k
            · rw [if_pos h, if_pos (by omega)]
            · rw [if_neg h, if_neg (by omega)])
          by_cases h : n1 = k
          · rw [if_pos h] at E
            go_wp2
            go_ret
            exact ⟨by first | (rw [E.out]; done) | (rw [E.out]; rfl), W.out⟩
          · rw [if_neg h] at E
            have hlt2 : n0 < n1 := by omega
            clear h
            go_wp2
            go_ret
            exact ⟨by first | (rw [E.out]; done) | (rw [E.out]; rfl), W.out⟩
end Go.Proofs.YtggdbafmpmfmcaaDoor.Fn
