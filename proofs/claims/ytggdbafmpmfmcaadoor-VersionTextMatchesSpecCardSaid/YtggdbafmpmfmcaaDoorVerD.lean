/- version.Validate answers as the plain words say (own work). No condition. -/
import Derived.Test.YtggdbafmpmfmcaaDoorVerI
import Derived.Test.YtggdbafmpmfmcaaDoorVerA
import Derived.Test.YtggdbafmpmfmcaaDoorVerB
import Derived.Test.YtggdbafmpmfmcaaDoorTight
import Derived.WalkKit
import Derived.Deep.LoopGhost
import Derived.Lib.Hide
set_option linter.unusedVariables false
set_option linter.unusedSimpArgs false
namespace Go.Proofs.YtggdbafmpmfmcaaDoor.Fn
open Go Go.RowKit Go.Proofs.YtggdbafmpmfmcaaDoorW.PrintWords Go.Proofs.YtggdbafmpmfmcaaDoorW.PrintLast Go.Proofs.YtggdbafmpmfmcaaDoorW.PrintMore
theorem ident_calls (a : ByteArray) (w : World) : Calls Tryd.prog 29 #[.string a] w fun e w' => e = .returned (.bool (identB a)) ∧ Below w.heap.size w w' := by
  obtain ⟨k, h⟩ := (pIdent a).rounds
  exact version_isIdentifier.calls k a _ w h
theorem badAt_drop (l : List ByteArray) (k : Nat) (h : k < l.length) : badAt (l.drop k) k = if identB l[k] = true then badAt (l.drop (k + 1)) (k + 1) else (5, (k : Int)) := by
  rw [List.drop_eq_getElem_cons h]
  rfl
section
variable (a b c : Int)
theorem ix0 (w : World) : (Instr.index 50 (.agg #[.int .i64 a, .int .i64 b, .int .i64 c]) (.int .i64 0)).run Tryd.prog w = .ok (.int .i64 a) w := by kernel_rfl
theorem ix1 (w : World) : (Instr.index 50 (.agg #[.int .i64 a, .int .i64 b, .int .i64 c]) (.int .i64 1)).run Tryd.prog w = .ok (.int .i64 b) w := by kernel_rfl
theorem ix2 (w : World) : (Instr.index 50 (.agg #[.int .i64 a, .int .i64 b, .int .i64 c]) (.int .i64 2)).run Tryd.prog w = .ok (.int .i64 c) w := by kernel_rfl
end
theorem blk_put2 {w : World} {g : Nat} {t : TypeId} {v0 v1 u0 u1 : Value} (h : w.heap[g]? = some (.cells #[v0, v1] t (0, 0))) :
    ((w.setCell ⟨g, 0, none⟩ u0).setCell ⟨g, 1, none⟩ u1).heap[g]? = some (.cells #[u0, u1] t (0, 0)) := blk_put (cs := #[u0, v1]) (blk_put h 0 u0 rfl) 1 u1 rfl
theorem new2 (w : World) (o1 o2 : Obj) : ((w.alloc o1).alloc o2).heap[w.heap.size + 1]? = some o2 := by
  rw [show w.heap.size + 1 = (w.alloc o1).heap.size from by simp]
  exact blk_new _ _
set_option maxHeartbeats 4000000 in
set_option maxRecDepth 100000 in
theorem validate_calls (a b c : Int) (A0 : Option Addr) (c0 : Nat) (l : List ByteArray) (w : World) (hr0 : Kd.C Kd.string w A0 l.length l) (hc0 : l.length ≤ c0) (r1 r2 : Int) (h : verFault a b c l = (r1, r2)) :
    Calls Tryd.prog 11 #[.agg #[.int .i64 a, .int .i64 b, .int .i64 c, .slice A0 l.length c0]] w fun e w' => e = .returned (.agg #[.int .i64 r1, .int .i64 r2]) ∧ Below w.heap.size w w' := by
  have hu24 := Tryd.underlying24
  have hu27 := Tryd.underlying27
  have hm0 : l.length ≤ 9223372036854775807 := hr0.2.1
  have hi0 := ix0 a b c
  have hi1 := ix1 a b c
  have hi2 := ix2 a b c
  obtain ⟨n, hn⟩ : ∃ n, n = l.length := ⟨_, rfl⟩
  have N := Aside0.mk hn
  have C := Aside0.mk hr0
  have F := Aside0.mk h
  rw [← hn] at hm0 hc0 ⊢
  clear hr0 hn h
  by_cases ha : 0 ≤ a ∧ a ≤ 1000000000
  · obtain ⟨ha0, ha1⟩ := ha
    by_cases hb : 0 ≤ b ∧ b ≤ 1000000000
    · obtain ⟨hb0, hb1⟩ := hb
      by_cases hcc : 0 ≤ c ∧ c ≤ 1000000000
      · obtain ⟨hcc0, hcc1⟩ := hcc
        by_cases h4 : 4 < n
        · have e : (2, -1) = (r1, r2) := by
            have := F.out
            unfold verFault at this
            rw [if_neg (by omega), if_neg (by omega), if_neg (by omega), if_pos (by have := N.out; omega)] at this
            exact this
          injection e with e1 e2
          subst e1 e2
          clear F C
          go_enter Tryd.func11, Tryd.ntmps11
          go_wp2
          refine wp_loop_rounds 4 ?_
          rw [rounds_succ]
          go_wp2
          rw [rounds_succ]
          go_wp2
          rw [rounds_succ]
          go_wp2
          rw [rounds_succ]
          go_wp2
          refine bodyPost_ret (results_cell_row rfl _ _ (w.heap.size + 1) 27 #[.int .i64 2, .int .i64 (-1)] (0, 0) _ rfl (new2 _ _ _) hu27 rfl (by kernel_rfl)) rfl ?_
          exact ⟨rfl, below_alloc (below_alloc (Below.refl _ _) _) _⟩
        · have e : badAt l 0 = (r1, r2) := by
            have := F.out
            unfold verFault at this
            rw [if_neg (by omega), if_neg (by omega), if_neg (by omega), if_neg (by have := N.out; omega)] at this
            exact this
          have B := Aside0.mk e
          clear F e
          rcases Nat.eq_zero_or_pos n with hz | hp
          · have hl : l = [] := List.length_eq_zero_iff.1 (by have := N.out; omega)
            have e : (0, 0) = (r1, r2) := by
              have := B.out
              rw [hl] at this
              exact this
            injection e with e1 e2
            subst e1 e2 hz
            clear hl B C
            go_enter Tryd.func11, Tryd.ntmps11
            go_wp2
            refine wp_loop_rounds 4 ?_
            rw [rounds_succ]
            go_wp2
            rw [rounds_succ]
            go_wp2
            rw [rounds_succ]
            go_wp2
            rw [rounds_succ]
            go_wp2
            refine wp_loop_rounds 1 ?_
            rw [rounds_succ]
            go_wp2
            refine bodyPost_ret (results_cell_row rfl _ _ (w.heap.size + 1) 27 #[.int .i64 0, .int .i64 0] (0, 0) _ rfl (new2 _ _ _) hu27 rfl (by kernel_rfl)) rfl ?_
            exact ⟨rfl, below_alloc (below_alloc (Below.refl _ _) _) _⟩
          · obtain ⟨b0, o0, rfl, hb0', hx0⟩ := C_str C.out (by have := N.out; omega)
            have X0 := Aside0.mk hx0
            clear hx0
            go_enter Tryd.func11, Tryd.ntmps11
            go_wp2
            refine wp_loop_rounds 4 ?_
            rw [rounds_succ]
            go_wp2
            rw [rounds_succ]
            go_wp2
            rw [rounds_succ]
            go_wp2
            rw [rounds_succ]
            go_wp2
            clear hi0 hi1 hi2
            go_loopw [35] (fun i wr => ∃ k : Nat, k ≤ n ∧ i = .int .i64 k ∧ Below w.heap.size w wr ∧ wr.heap[w.heap.size + 1]? = some (.cells #[.int .i64 0, .int .i64 0] 27 (0, 0)) ∧ badAt l 0 = badAt (l.drop k) k) (fun i _ => n - (intOf i).toNat)
            case atStart => exact ⟨0, Nat.zero_le _, rfl, below_alloc (below_alloc (Below.refl _ _) _) _, new2 _ _ _, by simp⟩
            case round =>
              obtain ⟨k, hk0, rfl, hbw, hres, hrel⟩ := hrel
              have W := Aside0.mk hbw
              have R := Aside0.mk hrel
              have H := Aside0.mk hres
              clear hrel hbw hres
              by_cases hlt : k < n
              · have hl0 : k < l.length := by have := N.out; omega
                have hx := (W.out.cell (p := ⟨b0, o0 + k, none⟩) hb0').trans (X0.out k _ (List.getElem?_eq_getElem hl0))
                have P := Aside0.mk (badAt_drop l k hl0)
                generalize l[k] = x at hx P
                cases hi : identB x with
                | true =>
                  have E := Aside0.mk (show badAt l 0 = badAt (l.drop (k + 1)) (k + 1) from by rw [R.out, P.out, if_pos hi])
                  have I := Aside0.mk hi
                  clear hi
                  go_wp2_with (go_at_call 29; refine (ident_calls x _).mono ?_; rw [I.out]; rintro e w' ⟨rfl, hb⟩)
                  go_roundw
                  case rel => exact ⟨k + 1, by omega, by go_num, W.out.trans (hb.mono W.out.size), blk_below H.out hb, E.out⟩
                  case measure => simp [intOf]; omega
                | false =>
                  have E := Aside0.mk (show (5, (k : Int)) = (r1, r2) from by rw [← B.out, R.out, P.out, if_neg (by rw [hi]; decide)])
                  have I := Aside0.mk hi
                  clear hi
                  obtain ⟨e1, e2⟩ := Prod.mk.inj E.out
                  subst e1 e2
                  go_wp2_with (first | (go_at_call 29; refine (ident_calls x _).mono ?_; rw [I.out]; rintro e w' ⟨rfl, hb⟩; refine Hid.out ?_))
                  have H2 := Aside0.mk (blk_below H.out hb)
                  have W2 := Aside0.mk (W.out.trans (hb.mono W.out.size))
                  clear hb
                  have hd0 := blk_c (v := .int .i64 0) H2.out 0 rfl
                  have hd1 := blk_c (v := .int .i64 0) H2.out 1 rfl
                  have hg0 := blk_frozen H2.out 0
                  have hg1 := blk_frozen H2.out 1
                  refine Lib.hid ?_
                  go_wp2
                  refine bodyPost_ret (results_cell_row rfl _ _ (w.heap.size + 1) 27 #[.int .i64 5, .int .i64 k] (0, 0) _ rfl (blk_put2 H2.out) hu27 rfl (by kernel_rfl)) rfl ?_
                  exact ⟨rfl, below_set (below_set W2.out (by omega)) (by omega)⟩
              · have hk : k = n := by omega
                have E := Aside0.mk (show (0, 0) = (r1, r2) from by
                  rw [← B.out, R.out, List.drop_of_length_le (by have := N.out; omega)]
                  rfl)
                obtain ⟨e1, e2⟩ := Prod.mk.inj E.out
                subst e1 e2
                have hd0 := blk_c (v := .int .i64 0) H.out 0 rfl
                have hd1 := blk_c (v := .int .i64 0) H.out 1 rfl
                have hg0 := blk_frozen H.out 0
                have hg1 := blk_frozen H.out 1
                go_wp2
                refine bodyPost_ret (results_cell_row rfl _ _ (w.heap.size + 1) 27 #[.int .i64 0, .int .i64 0] (0, 0) _ rfl (blk_put2 H.out) hu27 rfl (by kernel_rfl)) rfl ?_
                exact ⟨rfl, below_set (below_set W.out (by omega)) (by omega)⟩
      · have e : (3, 2) = (r1, r2) := by
          have := F.out
          unfold verFault at this
          rw [if_neg (by omega), if_neg (by omega), if_pos hcc] at this
          exact this
        injection e with e1 e2
        subst e1 e2
        clear F C
        rcases (by omega : c < 0 ∨ 1000000000 < c) with hx | hx
        all_goals
          clear hcc
          go_enter Tryd.func11, Tryd.ntmps11
          go_wp2
          refine wp_loop_rounds 3 ?_
          rw [rounds_succ]
          go_wp2
          rw [rounds_succ]
          go_wp2
          rw [rounds_succ]
          go_wp2
          refine bodyPost_ret (results_cell_row rfl _ _ (w.heap.size + 1) 27 #[.int .i64 3, .int .i64 2] (0, 0) _ rfl (new2 _ _ _) hu27 rfl (by kernel_rfl)) rfl ?_
          exact ⟨rfl, below_alloc (below_alloc (Below.refl _ _) _) _⟩
    · have e : (3, 1) = (r1, r2) := by
        have := F.out
        unfold verFault at this
        rw [if_neg (by omega), if_pos hb] at this
        exact this
      injection e with e1 e2
      subst e1 e2
      clear F C
      rcases (by omega : b < 0 ∨ 1000000000 < b) with hx | hx
      all_goals
        clear hb
        go_enter Tryd.func11, Tryd.ntmps11
        go_wp2
        refine wp_loop_rounds 2 ?_
        rw [rounds_succ]
        go_wp2
        rw [rounds_succ]
        go_wp2
        refine bodyPost_ret (results_cell_row rfl _ _ (w.heap.size + 1) 27 #[.int .i64 3, .int .i64 1] (0, 0) _ rfl (new2 _ _ _) hu27 rfl (by kernel_rfl)) rfl ?_
        exact ⟨rfl, below_alloc (below_alloc (Below.refl _ _) _) _⟩
  · have e : (3, 0) = (r1, r2) := by
      have := F.out
      unfold verFault at this
      rw [if_pos ha] at this
      exact this
    injection e with e1 e2
    subst e1 e2
    clear F C
    rcases (by omega : a < 0 ∨ 1000000000 < a) with hx | hx
    all_goals
      clear ha
      go_enter Tryd.func11, Tryd.ntmps11
      go_wp2
      refine wp_loop_rounds 1 ?_
      rw [rounds_succ]
      go_wp2
      refine bodyPost_ret (results_cell_row rfl _ _ (w.heap.size + 1) 27 #[.int .i64 3, .int .i64 0] (0, 0) _ rfl (new2 _ _ _) hu27 rfl (by kernel_rfl)) rfl ?_
      exact ⟨rfl, below_alloc (below_alloc (Below.refl _ _) _) _⟩
end Go.Proofs.YtggdbafmpmfmcaaDoor.Fn
