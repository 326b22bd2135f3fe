/- A map that the call has made, keyed by whole numbers, whose elements are pointers to blocks of the call's own: it reads as 'which block stands at which key' (-1: none). No condition but what each states (own work). -/
import Derived.Maps.RangeWalk
import Derived.Maps.OwnSet
namespace Go.Proofs.Ytnkonhplfldlmaa.PtrMap
open Go Go.Maps
def code (c : Option Nat) : Int := match c with
  | none => -1
  | some g => g
theorem code_inj {c d : Option Nat} (h : code c = code d) : c = d := by
  cases c <;> cases d <;> simp only [code] at h <;> first | rfl | omega | (rw [Int.ofNat.inj h])
def ptr (c : Option Nat) : Value := .pointer (c.map fun g => ⟨g, 0, none⟩)
/-- How a pointer element reads: its block's number. -/
def pe (v : Value) : Option (DataW Unit × List MemPlace) :=
  match v with
  | .pointer none => some (.lit (.int .i64 (-1)), [])
  | .pointer (some ⟨g, 0, none⟩) => some (.lit (.int .i64 g), [])
  | _ => none
theorem pe_ptr (c : Option Nat) : pe (ptr c) = some (.lit (.int .i64 (code c)), []) := by cases c <;> rfl
theorem pe_inv {v : Value} {y : DataW Unit × List MemPlace} (h : pe v = some y) : ∃ c, v = ptr c ∧ y = (.lit (.int .i64 (code c)), []) := by
  unfold pe at h
  split at h
  · cases h
    exact ⟨none, rfl, rfl⟩
  · cases h
    exact ⟨some _, rfl, rfl⟩
  · cases h
/-- 'm[k]' at the operation. -/
theorem wpList_lookup_ptr {P : Program} (w : World) {ops : Array Oper} {rest : List Oper} {o : Oper} {a : Act} {Q : Exit → Act → World → Prop}
    (hg : o.guard = none) (m x : Operand) (t : TypeId) (hop : o.op = Op.lookup t m x false)
    (k e : TypeId) (K : Keyed P k) (ht : P.underlying t = some (.map k e)) (hz : (zeroValue e).run P w = .ok (.pointer none) w) (b n : Nat) (D : DataW Unit)
    (hm : a.eval m = .map (some b)) (hown : w.ownsMap P k pe b n D) (key : Value) (kl : Lit) (hx : a.eval x = key) (hkey : keyOf P k key = some kl)
    (hK : ∀ c : Option Nat, D.atKey kl (.lit (.int .i64 (-1))) = .lit (.int .i64 (code c)) → wpList P ops Q rest (a.put o.dst (ptr c)) w) :
    wpList P ops Q (o :: rest) a w := by
  refine wpList_plain hg fun K' hK' => ?_
  obtain ⟨v, ps, hrun, hv⟩ := hown.lookup K ht hz (zd := .lit (.int .i64 (-1))) (zp := []) rfl hkey
  obtain ⟨c, rfl, hc⟩ := pe_inv hv
  simp only [Prod.mk.injEq] at hc
  unfold Oper.wp
  simp [execOp, hop, hm, hx, hrun, Result.andThen]
  exact hK' _ _ (hK c hc.1)
/-- 'for k, v := range m': the step. -/
theorem wpList_next_ptr {P : Program} (w : World) {ops : Array Oper} {rest : List Oper} {o : Oper} {a : Act} {Q : Exit → Act → World → Prop}
    (hg : o.guard = none) (it : Operand) (hop : o.op = Op.next it false) (k : TypeId) (qk : IntKind) (K : Keyed P k) (hk : P.underlying k = some (.int qk))
    (b r n : Nat) (D : DataW Unit) (left : Lit → Bool) (cnt : Nat) (hit : a.eval it = .pointer (some ⟨r, 0, none⟩)) (h : w.ranges P k pe b r n D left cnt)
    (hDone : cnt = 0 → (∀ kl, left kl = false) → wpList P ops Q rest (a.put o.dst (.tuple #[.bool false])) w)
    (hMore : ∀ (x : Int) (c : Option Nat) (w' : World) (cnt' : Nat), (Lit.int qk x).wf = true → left (.int qk x) = true → (∀ zd, D.atKey (.int qk x) zd = .lit (.int .i64 (code c))) → w'.ranges P k pe b r n D (fun z => left z && !z.sameKey (.int qk x)) cnt' → cnt' < cnt →
      w.grownBy w' (some r) → w'.heap.size = w.heap.size → (Instr.entry (.pointer (some ⟨r, 0, none⟩))).run P w' = .ok (.tuple #[.int qk x, ptr c]) w' → wpList P ops Q rest (a.put o.dst (.tuple #[.bool true, .int qk x, ptr c])) w') :
    wpList P ops Q (o :: rest) a w :=
  wpList_next_ranges w hg it hop k K pe (Value.int qk) ptr (fun key kl hkey => by obtain ⟨x, rfl, _⟩ := Maps.keyOf_int_inv hk hkey; exact ⟨x, rfl⟩) (fun v y hv => by obtain ⟨c, rfl, _⟩ := pe_inv hv; exact ⟨c, rfl⟩)
    b r n D left cnt hit h hDone (fun x c kl y w' cnt' hkey hlk hv hat hrg hlt hgr hsz hen => by
      obtain ⟨x', ex, rfl, hwx⟩ := Maps.keyOf_int_inv hk hkey
      cases ex
      rw [pe_ptr] at hv
      cases hv
      exact hMore x c w' cnt' hwx hlk hat hrg hlt hgr hsz hen)
end Go.Proofs.Ytnkonhplfldlmaa.PtrMap
