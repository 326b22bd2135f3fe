/- Short words for what a printed walk says again and again: a fact carried over plain steps of the world; small goals closed in one way. No condition but what each states (own work). -/
import Derived.Test.YtggdbafmpmfmcaaDoorWA
import Derived.IntWalk
set_option linter.unusedVariables false
namespace Go.Proofs.YtggdbafmpmfmcaaDoorW.PrintWords
open Go.RowKit Go.Proofs.YtggdbafmpmfmcaaDoorW.PrintLast Go.Proofs.YtggdbafmpmfmcaaDoorW.PrintMore
/-- w' is w with blocks and draws more. -/
class Pl (w' : World) (w : outParam World) : Prop where
  bel : Below w.heap.size w w'
instance (priority := low) pl0 (w : World) : Pl w w := ⟨Below.refl _ _⟩
instance pl1 (w' w : World) (o : Obj) [h : Pl w' w] : Pl (w'.alloc o) w := ⟨below_alloc h.bel o⟩
instance pl2 (w' w : World) (n : Nat) [h : Pl w' w] : Pl (w'.drewN n) w := ⟨pw_below_drewN h.bel n⟩
instance pl3 (w' w : World) [h : Pl w' w] : Pl w'.drew w := ⟨below_drew h.bel⟩
theorem blk_mv {w' w : World} {g : Nat} {o : Obj} [h : Pl w' w] (x : w.heap[g]? = some o) : w'.heap[g]? = some o := (h.bel.block g (blk_lt x)).trans x
theorem Kd.R_mv {α : Type} {d : Kd α} {e : Nat} {w' w : World} {base : Nat} {ok : Nat → Prop} {v : Value} {xs : List α} [h : Pl w' w] (x : d.R e w base ok v xs) : d.R e w' base ok v xs := Kd.R_below x h.bel
theorem Kd.C_mv {α : Type} {d : Kd α} {w' w : World} {A : Option Addr} {n : Nat} {xs : List α} [h : Pl w' w] (x : d.C w A n xs) : d.C w' A n xs := Kd.C_below x h.bel
theorem Kd.C_lenm {α : Type} {d : Kd α} {w : World} {A : Option Addr} {n m : Nat} {xs : List α} (x : d.C w A n xs) (e : n = m) : d.C w A m xs := e ▸ x
theorem blk_c {w : World} {g : Nat} {t : TypeId} {cs : Array Value} {v : Value} (h : w.heap[g]? = some (.cells cs t (0, 0))) (i : Nat) (e : cs[i]? = some v) : w.cell? ⟨g, i, none⟩ = some v := (blk_cell h i).trans e
theorem bsz_ (a : Array UInt8) : (ByteArray.mk a).size = a.size := rfl
theorem sa_ {α : Type} {l : List α} {i : Nat} {a : α} : l.toArray.setIfInBounds i a = (l.set i a).toArray := List.setIfInBounds_toArray l i a
theorem sb_ {α : Type} {x a : α} {l : List α} : (x :: l).set 0 a = a :: l := List.set_cons_zero
theorem sc_ {α : Type} {x a : α} {l : List α} {n : Nat} : (x :: l).set (n + 1) a = x :: l.set n a := List.set_cons_succ
section
variable {P : Program} {md : Region.Mode} {ops : Array Oper} {Q : Exit → Act → World → Prop} {S : World → Prop} {ds : List Nat} {T : Bool × List (List Nat × List Nat)} {oi : Oper} {fuel : Nat} {l : Array Bool} {a : Act} {w : World}
theorem pu_ {v : Value} (i : Nat) (n : Tmp) (l' : Array Bool) (hi : ops[i]? = some oi) (hN : oi.dst = some n) (hT : rtab md ops = T) (hy : ∀ w', (execOp a.eval oi).run P w' = .ok (.value v) w') {a' : Act} (ha : a.put (some n) v = a')
    (h : wpAnyLast P md ops Q S ds fuel l' a' w) (hc : anyT T l.toList l'.toList i = true := by kernel_rfl) (hQ : ∀ c a w, Q (.panic c) (a.put oi.dst v) w → Q (.panic c) a w := by exact fun _ _ _ h => h) (hw : Region.wanted oi (yielded ops a.tmps) = true := by rfl) :
    wpAnyLast P md ops Q S ds (fuel + 1) l a w := pure_ (i := i) (N := some n) l' hi hN (any_of hT hc) hQ (Or.inl ⟨hw, hy⟩) ha h
theorem pun_ (i : Nat) (n : Tmp) (l' : Array Bool) (hi : ops[i]? = some oi) (hN : oi.dst = some n) (hT : rtab md ops = T) {a' : Act} (ha : a.put (some n) undef = a')
    (h : wpAnyLast P md ops Q S ds fuel l' a' w) (hc : anyT T l.toList l'.toList i = true := by kernel_rfl) (hQ : ∀ c a w, Q (.panic c) (a.put oi.dst undef) w → Q (.panic c) a w := by exact fun _ _ _ h => h) (hw : Region.wanted oi (yielded ops a.tmps) = false := by rfl) :
    wpAnyLast P md ops Q S ds (fuel + 1) l a w := pure_ (i := i) (N := some n) (v := undef) l' hi hN (any_of hT hc) hQ (Or.inr ⟨hw, rfl⟩) ha h
theorem tk_ {B : List Nat} {v : Value} (i : Nat) (n : Tmp) (l' : Array Bool) (hi : ops[i]? = some oi) (hN : oi.dst = some n) (hT : rtab md ops = T) (hB : waitsOk T.2 B = true) (hy : ∀ w', S w' → (execOp a.eval oi).run P w' = .ok (.value v) w') (hS : S w) {a' : Act} (ha : a.put (some n) v = a')
    (h : wpAnyLast P md ops Q S ds fuel l' a' w) (hc : takeW T B ds l.toList l'.toList i = true := by kernel_rfl) (hQ : ∀ c a w, Q (.panic c) (a.put oi.dst v) w → Q (.panic c) a w := by exact fun _ _ _ h => h) (hw : Region.wanted oi (yielded ops a.tmps) = true := by rfl) :
    wpAnyLast P md ops Q S ds (fuel + 1) l a w := take_ (i := i) (N := some n) l' hi hN (take_ofW hT hB hc) hQ (Or.inl ⟨hw, hy⟩) hS ha h
end
/-- The first n binary digits of m. -/
def bl_ (n m : Nat) : Array Bool := ((List.range n).map m.testBit).toArray
theorem bel_ {p : Prop} (h : p := by repeat (first | (with_reducible first | exact HB.out | apply below_alloc | apply pw_below_drewN | apply below_drew1 | refine below_set ?_ (Aside0.out (by assumption))) | exact HB.out)) : p := h
theorem bs_ {p : Prop} (h : p := by rw [hg]; exact (below_size bel_)) : p := h
theorem ln_ {p : Prop} (h : p := by (try simp only [List.map_toArray, List.map_cons, List.map_nil]); first | done | rfl | (simp only [List.length_drop, List.length_take]; rfl)) : p := h
theorem fr_ {p : Prop} (h : p := by first | rfl | (simp; done) | (simp only [IntWalk.i64_left]; done) | (simp [*]; done)) : p := h
theorem as_ {p : Prop} (h : p := by first | (with_reducible assumption) | assumption) : p := h
theorem om_ {p : Prop} (h : p := by first | omega | exact Nat.le_refl _) : p := h
end Go.Proofs.YtggdbafmpmfmcaaDoorW.PrintWords
