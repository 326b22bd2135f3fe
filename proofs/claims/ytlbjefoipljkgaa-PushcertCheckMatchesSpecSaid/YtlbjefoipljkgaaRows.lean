/-
  No cell of these rows narrows 'for every input' (looked for: loops, veiled, ifaces, maps, wideKeys, modest, calm, conditions, laid).
  DERIVED. THE GIVEN ROWS OF THIS SEAT. 6 by the template 'for every input the law returns true; each argument reads behind the call as it read before'; 0 by the template 'total and deterministic' (their statements: YtlbjefoipljkgaaTotals.lean).
  GIVEN WITH THE SEED: the statements are not yours to turn. If you find one false, say at which input.
  Laid BY PROGRAM, IN A SANDBOX (cutbox-rows.mjs): the forced cells as the released guide's own fill.sh prints them over the translation 2ddd3614bd3a3e79… (all of the seat's roots in one cut). By AI agents, Wed Nov 11 2026. No macro, syntax, notation, axiom, sorry.
-/
import Derived.Test.YtlbjefoipljkgaaChecked
import GoSem.Claim
import GoSem.ClaimJoined
import GoSem.ClaimMapViews
import Derived.JoinedTies
import Derived.KernelRfl
namespace Go.Proofs.Ytlbjefoipljkgaa
/- THE CELL 'sum', in the pinned program and in every row, IS THE sha256 OF THE DUMP (.gsa) THAT YtlbjefoipljkgaaProg.lean LOADS. Nothing in Lean hashes anything: it is a label: what it is worth is what the hold of that sum in a sandbox is worth. -/
noncomputable def Try.pinned : Pinned := { name := "ytlbjefoipljkgaa", sum := "2ddd3614bd3a3e79ec74e505b2217f66860fca818902fff980f38874261284ab", checked := Try.checked }
namespace Rows
def none {H : Type} : Left H := { results := [], args := [] }

/-- 'changeforgelaw5.PushcertMatchesSpec': WHATEVER THE INPUT: true; the input reads as it did. -/
def pushcertMatchesSpecSpec : ChangeSpec := { name := "pushcertMatchesSpec", fn := fun _ => fun
  | [d1, d2, d3] => { results := [.lit (.bool true)], args := [d1, d2, d3] }
  | _ => none }
def pushcertMatchesSpecRow : OpenClaim := { program := "ytlbjefoipljkgaa", sum := "2ddd3614bd3a3e79ec74e505b2217f66860fca818902fff980f38874261284ab", func := "changeforge/changeforgelaw5.PushcertMatchesSpec", spec := "pushcertMatchesSpec", inPlace := ["slices.overlaps[int]"], named := ["math/bits.divideError", "math/bits.overflowError"], apart := false }
def PushcertMatchesSpecSaid : Prop := pushcertMatchesSpecRow.holds Try.pinned (OpenSpec.ofChange pushcertMatchesSpecSpec)

/-- ITS FALSE NEIGHBOUR: 'it returns false'. Refute it at one input. -/
def pushcertMatchesSpecWrong : ChangeSpec := { name := "pushcertMatchesSpec", fn := fun _ => fun
  | [d1, d2, d3] => { results := [.lit (.bool false)], args := [d1, d2, d3] }
  | _ => none }
def PushcertMatchesSpecWrongFalsely : Prop := pushcertMatchesSpecRow.holds Try.pinned (OpenSpec.ofChange pushcertMatchesSpecWrong)

/-- 'changeforgelaw5.PushcertCheckMatchesSpec': WHATEVER THE INPUT: true; the input reads as it did. -/
def pushcertCheckMatchesSpecSpec : ChangeSpec := { name := "pushcertCheckMatchesSpec", fn := fun _ => fun
  | [d1, d2, d3, d4, d5] => { results := [.lit (.bool true)], args := [d1, d2, d3, d4, d5] }
  | _ => none }
def pushcertCheckMatchesSpecRow : OpenClaim := { program := "ytlbjefoipljkgaa", sum := "2ddd3614bd3a3e79ec74e505b2217f66860fca818902fff980f38874261284ab", func := "changeforge/changeforgelaw5.PushcertCheckMatchesSpec", spec := "pushcertCheckMatchesSpec", inPlace := ["slices.overlaps[int]"], named := ["math/bits.divideError", "math/bits.overflowError"], apart := false }
def PushcertCheckMatchesSpecSaid : Prop := pushcertCheckMatchesSpecRow.holds Try.pinned (OpenSpec.ofChange pushcertCheckMatchesSpecSpec)

/-- ITS FALSE NEIGHBOUR: 'it returns false'. Refute it at one input. -/
def pushcertCheckMatchesSpecWrong : ChangeSpec := { name := "pushcertCheckMatchesSpec", fn := fun _ => fun
  | [d1, d2, d3, d4, d5] => { results := [.lit (.bool false)], args := [d1, d2, d3, d4, d5] }
  | _ => none }
def PushcertCheckMatchesSpecWrongFalsely : Prop := pushcertCheckMatchesSpecRow.holds Try.pinned (OpenSpec.ofChange pushcertCheckMatchesSpecWrong)

/-- 'changeforgelaw5.PushcertCertifiedIsAccepted': WHATEVER THE INPUT: true; the input reads as it did. -/
def pushcertCertifiedIsAcceptedSpec : ChangeSpec := { name := "pushcertCertifiedIsAccepted", fn := fun _ => fun
  | [d1, d2, d3, d4] => { results := [.lit (.bool true)], args := [d1, d2, d3, d4] }
  | _ => none }
def pushcertCertifiedIsAcceptedRow : OpenClaim := { program := "ytlbjefoipljkgaa", sum := "2ddd3614bd3a3e79ec74e505b2217f66860fca818902fff980f38874261284ab", func := "changeforge/changeforgelaw5.PushcertCertifiedIsAccepted", spec := "pushcertCertifiedIsAccepted", inPlace := ["slices.overlaps[int]"], named := ["math/bits.divideError", "math/bits.overflowError"], apart := false }
def PushcertCertifiedIsAcceptedSaid : Prop := pushcertCertifiedIsAcceptedRow.holds Try.pinned (OpenSpec.ofChange pushcertCertifiedIsAcceptedSpec)

/-- ITS FALSE NEIGHBOUR: 'it returns false'. Refute it at one input. -/
def pushcertCertifiedIsAcceptedWrong : ChangeSpec := { name := "pushcertCertifiedIsAccepted", fn := fun _ => fun
  | [d1, d2, d3, d4] => { results := [.lit (.bool false)], args := [d1, d2, d3, d4] }
  | _ => none }
def PushcertCertifiedIsAcceptedWrongFalsely : Prop := pushcertCertifiedIsAcceptedRow.holds Try.pinned (OpenSpec.ofChange pushcertCertifiedIsAcceptedWrong)

/-- 'changeforgelaw5.PushcertReplayIsRefused': WHATEVER THE INPUT: true; the input reads as it did. -/
def pushcertReplayIsRefusedSpec : ChangeSpec := { name := "pushcertReplayIsRefused", fn := fun _ => fun
  | [d1, d2, d3, d4, d5, d6] => { results := [.lit (.bool true)], args := [d1, d2, d3, d4, d5, d6] }
  | _ => none }
def pushcertReplayIsRefusedRow : OpenClaim := { program := "ytlbjefoipljkgaa", sum := "2ddd3614bd3a3e79ec74e505b2217f66860fca818902fff980f38874261284ab", func := "changeforge/changeforgelaw5.PushcertReplayIsRefused", spec := "pushcertReplayIsRefused", inPlace := ["slices.overlaps[int]"], named := ["math/bits.divideError", "math/bits.overflowError"], apart := false }
def PushcertReplayIsRefusedSaid : Prop := pushcertReplayIsRefusedRow.holds Try.pinned (OpenSpec.ofChange pushcertReplayIsRefusedSpec)

/-- ITS FALSE NEIGHBOUR: 'it returns false'. Refute it at one input. -/
def pushcertReplayIsRefusedWrong : ChangeSpec := { name := "pushcertReplayIsRefused", fn := fun _ => fun
  | [d1, d2, d3, d4, d5, d6] => { results := [.lit (.bool false)], args := [d1, d2, d3, d4, d5, d6] }
  | _ => none }
def PushcertReplayIsRefusedWrongFalsely : Prop := pushcertReplayIsRefusedRow.holds Try.pinned (OpenSpec.ofChange pushcertReplayIsRefusedWrong)

/-- 'changeforgelaw5.PushcertTimesAreSigned': WHATEVER THE INPUT: true; the input reads as it did. -/
def pushcertTimesAreSignedSpec : ChangeSpec := { name := "pushcertTimesAreSigned", fn := fun _ => fun
  | [d1, d2] => { results := [.lit (.bool true)], args := [d1, d2] }
  | _ => none }
def pushcertTimesAreSignedRow : OpenClaim := { program := "ytlbjefoipljkgaa", sum := "2ddd3614bd3a3e79ec74e505b2217f66860fca818902fff980f38874261284ab", func := "changeforge/changeforgelaw5.PushcertTimesAreSigned", spec := "pushcertTimesAreSigned", inPlace := ["slices.overlaps[int]"], named := ["math/bits.divideError", "math/bits.overflowError"], apart := false }
def PushcertTimesAreSignedSaid : Prop := pushcertTimesAreSignedRow.holds Try.pinned (OpenSpec.ofChange pushcertTimesAreSignedSpec)

/-- ITS FALSE NEIGHBOUR: 'it returns false'. Refute it at one input. -/
def pushcertTimesAreSignedWrong : ChangeSpec := { name := "pushcertTimesAreSigned", fn := fun _ => fun
  | [d1, d2] => { results := [.lit (.bool false)], args := [d1, d2] }
  | _ => none }
def PushcertTimesAreSignedWrongFalsely : Prop := pushcertTimesAreSignedRow.holds Try.pinned (OpenSpec.ofChange pushcertTimesAreSignedWrong)

/-- 'changeforgelaw5.PushcertWindowsAreMonotone': WHATEVER THE INPUT: true; the input reads as it did. -/
def pushcertWindowsAreMonotoneSpec : ChangeSpec := { name := "pushcertWindowsAreMonotone", fn := fun _ => fun
  | [d1, d2, d3, d4, d5, d6] => { results := [.lit (.bool true)], args := [d1, d2, d3, d4, d5, d6] }
  | _ => none }
def pushcertWindowsAreMonotoneRow : OpenClaim := { program := "ytlbjefoipljkgaa", sum := "2ddd3614bd3a3e79ec74e505b2217f66860fca818902fff980f38874261284ab", func := "changeforge/changeforgelaw5.PushcertWindowsAreMonotone", spec := "pushcertWindowsAreMonotone", inPlace := ["slices.overlaps[int]"], named := ["math/bits.divideError", "math/bits.overflowError"], apart := false }
def PushcertWindowsAreMonotoneSaid : Prop := pushcertWindowsAreMonotoneRow.holds Try.pinned (OpenSpec.ofChange pushcertWindowsAreMonotoneSpec)

/-- ITS FALSE NEIGHBOUR: 'it returns false'. Refute it at one input. -/
def pushcertWindowsAreMonotoneWrong : ChangeSpec := { name := "pushcertWindowsAreMonotone", fn := fun _ => fun
  | [d1, d2, d3, d4, d5, d6] => { results := [.lit (.bool false)], args := [d1, d2, d3, d4, d5, d6] }
  | _ => none }
def PushcertWindowsAreMonotoneWrongFalsely : Prop := pushcertWindowsAreMonotoneRow.holds Try.pinned (OpenSpec.ofChange pushcertWindowsAreMonotoneWrong)

/- THE SECOND FORM. 'bulk': how many values and letters a reading holds, each counted each time it is reached (what is shared counts as often as it is met; a slice's spare places count too). A statement '..UptoSaid' is the law's where the arguments, and the package variables that the reading takes, are together of bulk at most 1048576: NARROWER than '..Said'. Prove '..Said' where nothing that the law and all that it calls make is longer than what came in: it says more and counts as full. Else prove '..UptoSaid'. A law counts once. -/
mutual
def uptoBulk {H : Type} : DataW H → Nat
  | .lit (.string bytes) => bytes.length + 1
  | .lit _ => 1
  | .nil => 1
  | .ptr d => uptoBulk d + 1
  | .slice elems spare => uptoBulkAll elems + uptoBulkAll spare + 1
  | .agg parts => uptoBulkAll parts + 1
  | .iface _ d => uptoBulk d + 1
  | .map entries => uptoBulkEntries entries + 1
  | .held _ => 1
def uptoBulkAll {H : Type} : List (DataW H) → Nat
  | [] => 0
  | d :: r => uptoBulk d + uptoBulkAll r
def uptoBulkEntries {H : Type} : List (Lit × DataW H) → Nat
  | [] => 0
  | x :: r => uptoBulkEntry x + uptoBulkEntries r
def uptoBulkEntry {H : Type} : Lit × DataW H → Nat
  | (.string bytes, d) => bytes.length + uptoBulk d + 1
  | (_, d) => uptoBulk d + 1
 end
def uptoSmall : (H : Type) → List (DataW H) → Bool := fun _ ds => decide (uptoBulkAll ds ≤ 1048576)
def OpenSpec.upto (s : _root_.Go.ChangeSpec) : _root_.Go.OpenSpec := { _root_.Go.OpenSpec.ofChange s with cond := some uptoSmall }

/-- 'changeforgelaw5.PushcertMatchesSpec', WHERE WHAT IT READS IS OF BULK AT MOST 1048576: true; the input reads as it did. -/
def pushcertMatchesSpecUptoRow : OpenClaim := { program := "ytlbjefoipljkgaa", sum := "2ddd3614bd3a3e79ec74e505b2217f66860fca818902fff980f38874261284ab", func := "changeforge/changeforgelaw5.PushcertMatchesSpec", spec := "pushcertMatchesSpec", inPlace := ["slices.overlaps[int]"], named := ["math/bits.divideError", "math/bits.overflowError"], apart := false, narrowed := true }
def PushcertMatchesSpecUptoSaid : Prop := pushcertMatchesSpecUptoRow.holds Try.pinned (OpenSpec.upto pushcertMatchesSpecSpec)

/-- 'changeforgelaw5.PushcertCheckMatchesSpec', WHERE WHAT IT READS IS OF BULK AT MOST 1048576: true; the input reads as it did. -/
def pushcertCheckMatchesSpecUptoRow : OpenClaim := { program := "ytlbjefoipljkgaa", sum := "2ddd3614bd3a3e79ec74e505b2217f66860fca818902fff980f38874261284ab", func := "changeforge/changeforgelaw5.PushcertCheckMatchesSpec", spec := "pushcertCheckMatchesSpec", inPlace := ["slices.overlaps[int]"], named := ["math/bits.divideError", "math/bits.overflowError"], apart := false, narrowed := true }
def PushcertCheckMatchesSpecUptoSaid : Prop := pushcertCheckMatchesSpecUptoRow.holds Try.pinned (OpenSpec.upto pushcertCheckMatchesSpecSpec)

/-- 'changeforgelaw5.PushcertCertifiedIsAccepted', WHERE WHAT IT READS IS OF BULK AT MOST 1048576: true; the input reads as it did. -/
def pushcertCertifiedIsAcceptedUptoRow : OpenClaim := { program := "ytlbjefoipljkgaa", sum := "2ddd3614bd3a3e79ec74e505b2217f66860fca818902fff980f38874261284ab", func := "changeforge/changeforgelaw5.PushcertCertifiedIsAccepted", spec := "pushcertCertifiedIsAccepted", inPlace := ["slices.overlaps[int]"], named := ["math/bits.divideError", "math/bits.overflowError"], apart := false, narrowed := true }
def PushcertCertifiedIsAcceptedUptoSaid : Prop := pushcertCertifiedIsAcceptedUptoRow.holds Try.pinned (OpenSpec.upto pushcertCertifiedIsAcceptedSpec)

/-- 'changeforgelaw5.PushcertReplayIsRefused', WHERE WHAT IT READS IS OF BULK AT MOST 1048576: true; the input reads as it did. -/
def pushcertReplayIsRefusedUptoRow : OpenClaim := { program := "ytlbjefoipljkgaa", sum := "2ddd3614bd3a3e79ec74e505b2217f66860fca818902fff980f38874261284ab", func := "changeforge/changeforgelaw5.PushcertReplayIsRefused", spec := "pushcertReplayIsRefused", inPlace := ["slices.overlaps[int]"], named := ["math/bits.divideError", "math/bits.overflowError"], apart := false, narrowed := true }
def PushcertReplayIsRefusedUptoSaid : Prop := pushcertReplayIsRefusedUptoRow.holds Try.pinned (OpenSpec.upto pushcertReplayIsRefusedSpec)

/-- 'changeforgelaw5.PushcertTimesAreSigned', WHERE WHAT IT READS IS OF BULK AT MOST 1048576: true; the input reads as it did. -/
def pushcertTimesAreSignedUptoRow : OpenClaim := { program := "ytlbjefoipljkgaa", sum := "2ddd3614bd3a3e79ec74e505b2217f66860fca818902fff980f38874261284ab", func := "changeforge/changeforgelaw5.PushcertTimesAreSigned", spec := "pushcertTimesAreSigned", inPlace := ["slices.overlaps[int]"], named := ["math/bits.divideError", "math/bits.overflowError"], apart := false, narrowed := true }
def PushcertTimesAreSignedUptoSaid : Prop := pushcertTimesAreSignedUptoRow.holds Try.pinned (OpenSpec.upto pushcertTimesAreSignedSpec)

/-- 'changeforgelaw5.PushcertWindowsAreMonotone', WHERE WHAT IT READS IS OF BULK AT MOST 1048576: true; the input reads as it did. -/
def pushcertWindowsAreMonotoneUptoRow : OpenClaim := { program := "ytlbjefoipljkgaa", sum := "2ddd3614bd3a3e79ec74e505b2217f66860fca818902fff980f38874261284ab", func := "changeforge/changeforgelaw5.PushcertWindowsAreMonotone", spec := "pushcertWindowsAreMonotone", inPlace := ["slices.overlaps[int]"], named := ["math/bits.divideError", "math/bits.overflowError"], apart := false, narrowed := true }
def PushcertWindowsAreMonotoneUptoSaid : Prop := pushcertWindowsAreMonotoneUptoRow.holds Try.pinned (OpenSpec.upto pushcertWindowsAreMonotoneSpec)

end Rows
end Go.Proofs.Ytlbjefoipljkgaa
