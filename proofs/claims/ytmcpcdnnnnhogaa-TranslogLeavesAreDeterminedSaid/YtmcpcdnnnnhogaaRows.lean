/-
  No cell of these rows narrows 'for every input' (looked for: loops, veiled, ifaces, maps, wideKeys, modest, calm, conditions, laid).
  DERIVED. THE GIVEN ROWS OF THIS SEAT. 7 by the template 'for every input the law returns true; each argument reads behind the call as it read before'; 0 by the template 'total and deterministic' (their statements: YtmcpcdnnnnhogaaTotals.lean).
  GIVEN WITH THE SEED: the statements are not yours to turn. If you find one false, say at which input.
  Laid BY PROGRAM, IN A SANDBOX (cutbox-rows.mjs): the forced cells as the released guide's own fill.sh prints them over the translation 23dc5c2b0c5aa552… (all of the seat's roots in one cut). By AI agents, Wed Nov 11 2026. No macro, syntax, notation, axiom, sorry.
-/
import Derived.Test.YtmcpcdnnnnhogaaChecked
import GoSem.Claim
import GoSem.ClaimJoined
import GoSem.ClaimMapViews
import Derived.JoinedTies
import Derived.KernelRfl
namespace Go.Proofs.Ytmcpcdnnnnhogaa
/- THE CELL 'sum', in the pinned program and in every row, IS THE sha256 OF THE DUMP (.gsa) THAT YtmcpcdnnnnhogaaProg.lean LOADS. Nothing in Lean hashes anything: it is a label: what it is worth is what the hold of that sum in a sandbox is worth. -/
noncomputable def Try.pinned : Pinned := { name := "ytmcpcdnnnnhogaa", sum := "23dc5c2b0c5aa55225e2811a9bd7db46e835952700c4dafdaeba1da1c0cad6c4", checked := Try.checked }
namespace Rows
def none {H : Type} : Left H := { results := [], args := [] }

/-- 'changeforgelaw5.TranslogMatchesSpec': WHATEVER THE INPUT: true; the input reads as it did. -/
def translogMatchesSpecSpec : ChangeSpec := { name := "translogMatchesSpec", fn := fun _ => fun
  | [d1, d2, d3] => { results := [.lit (.bool true)], args := [d1, d2, d3] }
  | _ => none }
def translogMatchesSpecRow : OpenClaim := { program := "ytmcpcdnnnnhogaa", sum := "23dc5c2b0c5aa55225e2811a9bd7db46e835952700c4dafdaeba1da1c0cad6c4", func := "changeforge/changeforgelaw5.TranslogMatchesSpec", spec := "translogMatchesSpec", recurses := true, named := ["math/bits.divideError", "math/bits.overflowError"], apart := false }
def TranslogMatchesSpecSaid : Prop := translogMatchesSpecRow.holds Try.pinned (OpenSpec.ofChange translogMatchesSpecSpec)

/-- ITS FALSE NEIGHBOUR: 'it returns false'. Refute it at one input. -/
def translogMatchesSpecWrong : ChangeSpec := { name := "translogMatchesSpec", fn := fun _ => fun
  | [d1, d2, d3] => { results := [.lit (.bool false)], args := [d1, d2, d3] }
  | _ => none }
def TranslogMatchesSpecWrongFalsely : Prop := translogMatchesSpecRow.holds Try.pinned (OpenSpec.ofChange translogMatchesSpecWrong)

/-- 'changeforgelaw5.TranslogVerifyMatchesSpec': WHATEVER THE INPUT: true; the input reads as it did. -/
def translogVerifyMatchesSpecSpec : ChangeSpec := { name := "translogVerifyMatchesSpec", fn := fun _ => fun
  | [d1, d2, d3, d4, d5] => { results := [.lit (.bool true)], args := [d1, d2, d3, d4, d5] }
  | _ => none }
def translogVerifyMatchesSpecRow : OpenClaim := { program := "ytmcpcdnnnnhogaa", sum := "23dc5c2b0c5aa55225e2811a9bd7db46e835952700c4dafdaeba1da1c0cad6c4", func := "changeforge/changeforgelaw5.TranslogVerifyMatchesSpec", spec := "translogVerifyMatchesSpec", recurses := true, named := ["math/bits.divideError", "math/bits.overflowError"], apart := false }
def TranslogVerifyMatchesSpecSaid : Prop := translogVerifyMatchesSpecRow.holds Try.pinned (OpenSpec.ofChange translogVerifyMatchesSpecSpec)

/-- ITS FALSE NEIGHBOUR: 'it returns false'. Refute it at one input. -/
def translogVerifyMatchesSpecWrong : ChangeSpec := { name := "translogVerifyMatchesSpec", fn := fun _ => fun
  | [d1, d2, d3, d4, d5] => { results := [.lit (.bool false)], args := [d1, d2, d3, d4, d5] }
  | _ => none }
def TranslogVerifyMatchesSpecWrongFalsely : Prop := translogVerifyMatchesSpecRow.holds Try.pinned (OpenSpec.ofChange translogVerifyMatchesSpecWrong)

/-- 'changeforgelaw5.TranslogVerifyConsistencyMatchesSpec': WHATEVER THE INPUT: true; the input reads as it did. -/
def translogVerifyConsistencyMatchesSpecSpec : ChangeSpec := { name := "translogVerifyConsistencyMatchesSpec", fn := fun _ => fun
  | [d1, d2, d3, d4, d5] => { results := [.lit (.bool true)], args := [d1, d2, d3, d4, d5] }
  | _ => none }
def translogVerifyConsistencyMatchesSpecRow : OpenClaim := { program := "ytmcpcdnnnnhogaa", sum := "23dc5c2b0c5aa55225e2811a9bd7db46e835952700c4dafdaeba1da1c0cad6c4", func := "changeforge/changeforgelaw5.TranslogVerifyConsistencyMatchesSpec", spec := "translogVerifyConsistencyMatchesSpec", recurses := true, named := ["math/bits.divideError", "math/bits.overflowError"], apart := false }
def TranslogVerifyConsistencyMatchesSpecSaid : Prop := translogVerifyConsistencyMatchesSpecRow.holds Try.pinned (OpenSpec.ofChange translogVerifyConsistencyMatchesSpecSpec)

/-- ITS FALSE NEIGHBOUR: 'it returns false'. Refute it at one input. -/
def translogVerifyConsistencyMatchesSpecWrong : ChangeSpec := { name := "translogVerifyConsistencyMatchesSpec", fn := fun _ => fun
  | [d1, d2, d3, d4, d5] => { results := [.lit (.bool false)], args := [d1, d2, d3, d4, d5] }
  | _ => none }
def TranslogVerifyConsistencyMatchesSpecWrongFalsely : Prop := translogVerifyConsistencyMatchesSpecRow.holds Try.pinned (OpenSpec.ofChange translogVerifyConsistencyMatchesSpecWrong)

/-- 'changeforgelaw5.TranslogProofsVerify': WHATEVER THE INPUT: true; the input reads as it did. -/
def translogProofsVerifySpec : ChangeSpec := { name := "translogProofsVerify", fn := fun _ => fun
  | [d1, d2] => { results := [.lit (.bool true)], args := [d1, d2] }
  | _ => none }
def translogProofsVerifyRow : OpenClaim := { program := "ytmcpcdnnnnhogaa", sum := "23dc5c2b0c5aa55225e2811a9bd7db46e835952700c4dafdaeba1da1c0cad6c4", func := "changeforge/changeforgelaw5.TranslogProofsVerify", spec := "translogProofsVerify", recurses := true, named := ["math/bits.divideError", "math/bits.overflowError"], apart := false }
def TranslogProofsVerifySaid : Prop := translogProofsVerifyRow.holds Try.pinned (OpenSpec.ofChange translogProofsVerifySpec)

/-- ITS FALSE NEIGHBOUR: 'it returns false'. Refute it at one input. -/
def translogProofsVerifyWrong : ChangeSpec := { name := "translogProofsVerify", fn := fun _ => fun
  | [d1, d2] => { results := [.lit (.bool false)], args := [d1, d2] }
  | _ => none }
def TranslogProofsVerifyWrongFalsely : Prop := translogProofsVerifyRow.holds Try.pinned (OpenSpec.ofChange translogProofsVerifyWrong)

/-- 'changeforgelaw5.TranslogExtensionsVerify': WHATEVER THE INPUT: true; the input reads as it did. -/
def translogExtensionsVerifySpec : ChangeSpec := { name := "translogExtensionsVerify", fn := fun _ => fun
  | [d1, d2] => { results := [.lit (.bool true)], args := [d1, d2] }
  | _ => none }
def translogExtensionsVerifyRow : OpenClaim := { program := "ytmcpcdnnnnhogaa", sum := "23dc5c2b0c5aa55225e2811a9bd7db46e835952700c4dafdaeba1da1c0cad6c4", func := "changeforge/changeforgelaw5.TranslogExtensionsVerify", spec := "translogExtensionsVerify", recurses := true, named := ["math/bits.divideError", "math/bits.overflowError"], apart := false }
def TranslogExtensionsVerifySaid : Prop := translogExtensionsVerifyRow.holds Try.pinned (OpenSpec.ofChange translogExtensionsVerifySpec)

/-- ITS FALSE NEIGHBOUR: 'it returns false'. Refute it at one input. -/
def translogExtensionsVerifyWrong : ChangeSpec := { name := "translogExtensionsVerify", fn := fun _ => fun
  | [d1, d2] => { results := [.lit (.bool false)], args := [d1, d2] }
  | _ => none }
def TranslogExtensionsVerifyWrongFalsely : Prop := translogExtensionsVerifyRow.holds Try.pinned (OpenSpec.ofChange translogExtensionsVerifyWrong)

/-- 'changeforgelaw5.TranslogLeavesAreDetermined': WHATEVER THE INPUT: true; the input reads as it did. -/
def translogLeavesAreDeterminedSpec : ChangeSpec := { name := "translogLeavesAreDetermined", fn := fun _ => fun
  | [d1, d2, d3, d4, d5, d6] => { results := [.lit (.bool true)], args := [d1, d2, d3, d4, d5, d6] }
  | _ => none }
def translogLeavesAreDeterminedRow : OpenClaim := { program := "ytmcpcdnnnnhogaa", sum := "23dc5c2b0c5aa55225e2811a9bd7db46e835952700c4dafdaeba1da1c0cad6c4", func := "changeforge/changeforgelaw5.TranslogLeavesAreDetermined", spec := "translogLeavesAreDetermined", recurses := true, named := ["math/bits.divideError", "math/bits.overflowError"], apart := false }
def TranslogLeavesAreDeterminedSaid : Prop := translogLeavesAreDeterminedRow.holds Try.pinned (OpenSpec.ofChange translogLeavesAreDeterminedSpec)

/-- ITS FALSE NEIGHBOUR: 'it returns false'. Refute it at one input. -/
def translogLeavesAreDeterminedWrong : ChangeSpec := { name := "translogLeavesAreDetermined", fn := fun _ => fun
  | [d1, d2, d3, d4, d5, d6] => { results := [.lit (.bool false)], args := [d1, d2, d3, d4, d5, d6] }
  | _ => none }
def TranslogLeavesAreDeterminedWrongFalsely : Prop := translogLeavesAreDeterminedRow.holds Try.pinned (OpenSpec.ofChange translogLeavesAreDeterminedWrong)

/-- 'changeforgetop.TopHistoryLogged': WHATEVER THE INPUT: true; the input reads as it did. -/
def topHistoryLoggedSpec : ChangeSpec := { name := "topHistoryLogged", fn := fun _ => fun
  | [d1, d2] => { results := [.lit (.bool true)], args := [d1, d2] }
  | _ => none }
def topHistoryLoggedRow : OpenClaim := { program := "ytmcpcdnnnnhogaa", sum := "23dc5c2b0c5aa55225e2811a9bd7db46e835952700c4dafdaeba1da1c0cad6c4", func := "changeforge/changeforgetop.TopHistoryLogged", spec := "topHistoryLogged", recurses := true, named := ["math/bits.divideError", "math/bits.overflowError"], apart := false }
def TopHistoryLoggedSaid : Prop := topHistoryLoggedRow.holds Try.pinned (OpenSpec.ofChange topHistoryLoggedSpec)

/-- ITS FALSE NEIGHBOUR: 'it returns false'. Refute it at one input. -/
def topHistoryLoggedWrong : ChangeSpec := { name := "topHistoryLogged", fn := fun _ => fun
  | [d1, d2] => { results := [.lit (.bool false)], args := [d1, d2] }
  | _ => none }
def TopHistoryLoggedWrongFalsely : Prop := topHistoryLoggedRow.holds Try.pinned (OpenSpec.ofChange topHistoryLoggedWrong)

/- THE SECOND FORM. 'bulk': how many values and letters a reading holds, each counted each time it is reached (what is shared counts as often as it is met; a slice's spare places count too). A statement '..UptoSaid' is the law's where the arguments, and the package variables that the reading takes, are together of bulk at most 1048576: NARROWER than '..Said'. Prove '..Said' where nothing that the law and all that it calls make is longer than what came in: it says more and counts as full. Else prove '..UptoSaid'. A law counts once. -/
mutual
def uptoBulk {H : Type} : DataW H → Nat
  | .lit (.string bytes) => bytes.length + 1
  | .lit _ => 1
  | .nil => 1
  | .ptr d => uptoBulk d + 1
  | .slice elems spare => uptoBulkAll elems + uptoBulkAll spare + 1
  | .agg parts => uptoBulkAll parts + 1
  | .iface _ d => uptoBulk d + 1
  | .map entries => uptoBulkEntries entries + 1
  | .held _ => 1
def uptoBulkAll {H : Type} : List (DataW H) → Nat
  | [] => 0
  | d :: r => uptoBulk d + uptoBulkAll r
def uptoBulkEntries {H : Type} : List (Lit × DataW H) → Nat
  | [] => 0
  | x :: r => uptoBulkEntry x + uptoBulkEntries r
def uptoBulkEntry {H : Type} : Lit × DataW H → Nat
  | (.string bytes, d) => bytes.length + uptoBulk d + 1
  | (_, d) => uptoBulk d + 1
 end
def uptoSmall : (H : Type) → List (DataW H) → Bool := fun _ ds => decide (uptoBulkAll ds ≤ 1048576)
def OpenSpec.upto (s : _root_.Go.ChangeSpec) : _root_.Go.OpenSpec := { _root_.Go.OpenSpec.ofChange s with cond := some uptoSmall }

/-- 'changeforgelaw5.TranslogMatchesSpec', WHERE WHAT IT READS IS OF BULK AT MOST 1048576: true; the input reads as it did. -/
def translogMatchesSpecUptoRow : OpenClaim := { program := "ytmcpcdnnnnhogaa", sum := "23dc5c2b0c5aa55225e2811a9bd7db46e835952700c4dafdaeba1da1c0cad6c4", func := "changeforge/changeforgelaw5.TranslogMatchesSpec", spec := "translogMatchesSpec", recurses := true, named := ["math/bits.divideError", "math/bits.overflowError"], apart := false, narrowed := true }
def TranslogMatchesSpecUptoSaid : Prop := translogMatchesSpecUptoRow.holds Try.pinned (OpenSpec.upto translogMatchesSpecSpec)

/-- 'changeforgelaw5.TranslogVerifyMatchesSpec', WHERE WHAT IT READS IS OF BULK AT MOST 1048576: true; the input reads as it did. -/
def translogVerifyMatchesSpecUptoRow : OpenClaim := { program := "ytmcpcdnnnnhogaa", sum := "23dc5c2b0c5aa55225e2811a9bd7db46e835952700c4dafdaeba1da1c0cad6c4", func := "changeforge/changeforgelaw5.TranslogVerifyMatchesSpec", spec := "translogVerifyMatchesSpec", recurses := true, named := ["math/bits.divideError", "math/bits.overflowError"], apart := false, narrowed := true }
def TranslogVerifyMatchesSpecUptoSaid : Prop := translogVerifyMatchesSpecUptoRow.holds Try.pinned (OpenSpec.upto translogVerifyMatchesSpecSpec)

/-- 'changeforgelaw5.TranslogVerifyConsistencyMatchesSpec', WHERE WHAT IT READS IS OF BULK AT MOST 1048576: true; the input reads as it did. -/
def translogVerifyConsistencyMatchesSpecUptoRow : OpenClaim := { program := "ytmcpcdnnnnhogaa", sum := "23dc5c2b0c5aa55225e2811a9bd7db46e835952700c4dafdaeba1da1c0cad6c4", func := "changeforge/changeforgelaw5.TranslogVerifyConsistencyMatchesSpec", spec := "translogVerifyConsistencyMatchesSpec", recurses := true, named := ["math/bits.divideError", "math/bits.overflowError"], apart := false, narrowed := true }
def TranslogVerifyConsistencyMatchesSpecUptoSaid : Prop := translogVerifyConsistencyMatchesSpecUptoRow.holds Try.pinned (OpenSpec.upto translogVerifyConsistencyMatchesSpecSpec)

/-- 'changeforgelaw5.TranslogProofsVerify', WHERE WHAT IT READS IS OF BULK AT MOST 1048576: true; the input reads as it did. -/
def translogProofsVerifyUptoRow : OpenClaim := { program := "ytmcpcdnnnnhogaa", sum := "23dc5c2b0c5aa55225e2811a9bd7db46e835952700c4dafdaeba1da1c0cad6c4", func := "changeforge/changeforgelaw5.TranslogProofsVerify", spec := "translogProofsVerify", recurses := true, named := ["math/bits.divideError", "math/bits.overflowError"], apart := false, narrowed := true }
def TranslogProofsVerifyUptoSaid : Prop := translogProofsVerifyUptoRow.holds Try.pinned (OpenSpec.upto translogProofsVerifySpec)

/-- 'changeforgelaw5.TranslogExtensionsVerify', WHERE WHAT IT READS IS OF BULK AT MOST 1048576: true; the input reads as it did. -/
def translogExtensionsVerifyUptoRow : OpenClaim := { program := "ytmcpcdnnnnhogaa", sum := "23dc5c2b0c5aa55225e2811a9bd7db46e835952700c4dafdaeba1da1c0cad6c4", func := "changeforge/changeforgelaw5.TranslogExtensionsVerify", spec := "translogExtensionsVerify", recurses := true, named := ["math/bits.divideError", "math/bits.overflowError"], apart := false, narrowed := true }
def TranslogExtensionsVerifyUptoSaid : Prop := translogExtensionsVerifyUptoRow.holds Try.pinned (OpenSpec.upto translogExtensionsVerifySpec)

/-- 'changeforgelaw5.TranslogLeavesAreDetermined', WHERE WHAT IT READS IS OF BULK AT MOST 1048576: true; the input reads as it did. -/
def translogLeavesAreDeterminedUptoRow : OpenClaim := { program := "ytmcpcdnnnnhogaa", sum := "23dc5c2b0c5aa55225e2811a9bd7db46e835952700c4dafdaeba1da1c0cad6c4", func := "changeforge/changeforgelaw5.TranslogLeavesAreDetermined", spec := "translogLeavesAreDetermined", recurses := true, named := ["math/bits.divideError", "math/bits.overflowError"], apart := false, narrowed := true }
def TranslogLeavesAreDeterminedUptoSaid : Prop := translogLeavesAreDeterminedUptoRow.holds Try.pinned (OpenSpec.upto translogLeavesAreDeterminedSpec)

/-- 'changeforgetop.TopHistoryLogged', WHERE WHAT IT READS IS OF BULK AT MOST 1048576: true; the input reads as it did. -/
def topHistoryLoggedUptoRow : OpenClaim := { program := "ytmcpcdnnnnhogaa", sum := "23dc5c2b0c5aa55225e2811a9bd7db46e835952700c4dafdaeba1da1c0cad6c4", func := "changeforge/changeforgetop.TopHistoryLogged", spec := "topHistoryLogged", recurses := true, named := ["math/bits.divideError", "math/bits.overflowError"], apart := false, narrowed := true }
def TopHistoryLoggedUptoSaid : Prop := topHistoryLoggedUptoRow.holds Try.pinned (OpenSpec.upto topHistoryLoggedSpec)

end Rows
end Go.Proofs.Ytmcpcdnnnnhogaa
