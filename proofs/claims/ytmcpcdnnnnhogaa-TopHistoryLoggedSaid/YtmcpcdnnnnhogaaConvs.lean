/- '[]byte(s)' of a string that is no constant, as one step of a walk: a row that is only read, holding the string's bytes. Condition: the string is shorter than the model's bound (own work). -/
import Derived.Lib.ConvBytes
import Derived.Test.YtmcpcdnnnnhogaaWA
set_option linter.unusedVariables false
namespace Go.Proofs.Ytmcpcdnnnnhogaa.Fn
open Go.RowKit Go.Proofs.YtmcpcdnnnnhogaaW.PrintWords Go.Proofs.YtmcpcdnnnnhogaaW.PrintLast Go.Proofs.YtmcpcdnnnnhogaaW.PrintMore
def strBytes.f (s : ByteArray) : Option (List Int) := if s.size ≤ 140737488351232 then some (bytesOf s) else none
theorem conv_V (w : World) (e : TypeId) (s : ByteArray) (hs : s.size ≤ 9223372036854775807) :
    Kd.V (Kd.int .u8) e (Lib.bytesWorld w e s) w.heap.size (fun k_ => w.heap.size ≤ k_) (.slice (some ⟨w.heap.size, 0, none⟩) s.size (grownCap w s.size 0 e)) (bytesOf s) := by
  refine ⟨some ⟨w.heap.size, 0, none⟩, _, by rw [bytesOf_length], by rw [bytesOf_length]; exact grownCap_ge _ _ _ _, fun W' hW => ?_⟩
  have hh := hW w.heap.size (Nat.le_refl _) (by rw [Lib.bytesWorld_size]; omega)
  obtain ⟨h1, h2, h3⟩ := bytes_reads w e s hs
  rw [bytesOf_length]
  refine Kd.C_of_reads (enc := Value.int .u8) (d := (0 : Int)) ⟨h1, h2, fun hn => ?_⟩
  obtain ⟨ad, he, hc⟩ := h3 hn
  injection he with he
  subst he
  refine ⟨_, rfl, fun j hj => ?_⟩
  have := hc j hj
  rw [← this, add_plain]
  exact World.cell?_of_block hh
section
variable {P : Program} {ops : Array Oper} {Q : Exit → Act → World → Prop}
theorem conv_ {oi : Oper} {N : Option Tmp} {a : Act} {w : World} {K : Act → World → Prop} {s : ByteArray} {src dst e : TypeId} {x : Operand} {u : TypeDesc} {r : List Int}
    (hw : Region.wanted oi (yielded ops a.tmps) = true) (hN : oi.dst = N) (hop : oi.op = .convert src dst x) (hx : a.eval x = .string s) (hs : P.underlying src = some u) (hd : P.underlying dst = some (.slice e)) (he : P.underlying e = some (.int .u8))
    (h : strBytes.f s = some r) (hk : ∀ w1 v, Kd.V (Kd.int .u8) e w1 w.heap.size (fun k_ => w.heap.size ≤ k_) v r → Below w.heap.size w w1 → K (a.put N v) w1) :
    if Region.wanted oi (yielded ops a.tmps) = true then Oper.wp P oi a w K Q else K (a.put N undef) w := by
  unfold strBytes.f at h
  split at h
  case isFalse => exact absurd h (by simp)
  rename_i hz
  injection h with h
  subst h
  refine value_ (w1 := Lib.bytesWorld w e s) hw hN ?_ (hk _ _ (conv_V w e s (by omega)) (bytes_below (Below.refl _ _) (Nat.le_refl _) e s))
  unfold execOp
  simp [hop, hx, Lib.run_convert_string_bytes w src dst e s hs hd he, Result.andThen]
theorem gate_conv {rest : List Oper} {o : Oper} {a : Act} {W : World} {src dst : TypeId} {x : Operand} (_ho : o.op = .convert src dst x) (h : wpList P ops Q (o :: rest) a W) : wpList P ops Q (o :: rest) a W := h
theorem convL_ {rest : List Oper} {oi : Oper} {a : Act} {w : World} {s : ByteArray} {src dst e : TypeId} {x : Operand} {u : TypeDesc} {r : List Int}
    (hg : oi.guard = none) (hop : oi.op = .convert src dst x) (hx : a.eval x = .string s) (hs : P.underlying src = some u) (hd : P.underlying dst = some (.slice e)) (he : P.underlying e = some (.int .u8))
    (h : strBytes.f s = some r) (hk : ∀ w1 v, Kd.V (Kd.int .u8) e w1 w.heap.size (fun k_ => w.heap.size ≤ k_) v r → Below w.heap.size w w1 → wpList P ops Q rest (a.put oi.dst v) w1) : wpList P ops Q (oi :: rest) a w := by
  unfold strBytes.f at h
  split at h
  case isFalse => exact absurd h (by simp)
  rename_i hz
  injection h with h
  subst h
  refine Kd.event_run (w1 := Lib.bytesWorld w e s) hg ?_ (hk _ _ (conv_V w e s (by omega)) (bytes_below (Below.refl _ _) (Nat.le_refl _) e s))
  unfold execOp
  simp [hop, hx, Lib.run_convert_string_bytes w src dst e s hs hd he, Result.andThen]
end
end Go.Proofs.Ytmcpcdnnnnhogaa.Fn
