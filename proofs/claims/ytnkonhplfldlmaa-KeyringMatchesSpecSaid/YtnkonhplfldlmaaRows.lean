/-
  No cell of these rows narrows 'for every input' (looked for: loops, veiled, ifaces, maps, wideKeys, modest, calm, conditions, laid).
  DERIVED. THE GIVEN ROWS OF THIS SEAT. 8 by the template 'for every input the law returns true; each argument reads behind the call as it read before'; 0 by the template 'total and deterministic' (their statements: YtnkonhplfldlmaaTotals.lean).
  GIVEN WITH THE SEED: the statements are not yours to turn. If you find one false, say at which input.
  Laid BY PROGRAM, IN A SANDBOX (cutbox-rows.mjs): the forced cells as the released guide's own fill.sh prints them over the translation bf0dc2507833d73f… (all of the seat's roots in one cut). By AI agents, Wed Nov 11 2026. No macro, syntax, notation, axiom, sorry.
-/
import Derived.Test.YtnkonhplfldlmaaChecked
import GoSem.Claim
import GoSem.ClaimJoined
import GoSem.ClaimMapViews
import Derived.JoinedTies
import Derived.KernelRfl
namespace Go.Proofs.Ytnkonhplfldlmaa
/- THE CELL 'sum', in the pinned program and in every row, IS THE sha256 OF THE DUMP (.gsa) THAT YtnkonhplfldlmaaProg.lean LOADS. Nothing in Lean hashes anything: it is a label: what it is worth is what the hold of that sum in a sandbox is worth. -/
noncomputable def Try.pinned : Pinned := { name := "ytnkonhplfldlmaa", sum := "bf0dc2507833d73f5e95fa4e459545092875d5caaa2a1b8377d71ca2ec5ffffc", checked := Try.checked }
namespace Rows
def none {H : Type} : Left H := { results := [], args := [] }

/-- 'changeforgelaw5.KeyringMatchesSpec': WHATEVER THE INPUT: true; the input reads as it did. -/
def keyringMatchesSpecSpec : ChangeSpec := { name := "keyringMatchesSpec", fn := fun _ => fun
  | [d1, d2, d3, d4] => { results := [.lit (.bool true)], args := [d1, d2, d3, d4] }
  | _ => none }
def keyringMatchesSpecRow : OpenClaim := { program := "ytnkonhplfldlmaa", sum := "bf0dc2507833d73f5e95fa4e459545092875d5caaa2a1b8377d71ca2ec5ffffc", func := "changeforge/changeforgelaw5.KeyringMatchesSpec", spec := "keyringMatchesSpec", unfollowed := true, recurses := true, apart := false }
def KeyringMatchesSpecSaid : Prop := keyringMatchesSpecRow.holds Try.pinned (OpenSpec.ofChange keyringMatchesSpecSpec)

/-- ITS FALSE NEIGHBOUR: 'it returns false'. Refute it at one input. -/
def keyringMatchesSpecWrong : ChangeSpec := { name := "keyringMatchesSpec", fn := fun _ => fun
  | [d1, d2, d3, d4] => { results := [.lit (.bool false)], args := [d1, d2, d3, d4] }
  | _ => none }
def KeyringMatchesSpecWrongFalsely : Prop := keyringMatchesSpecRow.holds Try.pinned (OpenSpec.ofChange keyringMatchesSpecWrong)

/-- 'changeforgelaw5.KeyringRevocationIsPermanent': WHATEVER THE INPUT: true; the input reads as it did. -/
def keyringRevocationIsPermanentSpec : ChangeSpec := { name := "keyringRevocationIsPermanent", fn := fun _ => fun
  | [d1, d2, d3, d4] => { results := [.lit (.bool true)], args := [d1, d2, d3, d4] }
  | _ => none }
def keyringRevocationIsPermanentRow : OpenClaim := { program := "ytnkonhplfldlmaa", sum := "bf0dc2507833d73f5e95fa4e459545092875d5caaa2a1b8377d71ca2ec5ffffc", func := "changeforge/changeforgelaw5.KeyringRevocationIsPermanent", spec := "keyringRevocationIsPermanent", unfollowed := true, recurses := true, apart := false }
def KeyringRevocationIsPermanentSaid : Prop := keyringRevocationIsPermanentRow.holds Try.pinned (OpenSpec.ofChange keyringRevocationIsPermanentSpec)

/-- ITS FALSE NEIGHBOUR: 'it returns false'. Refute it at one input. -/
def keyringRevocationIsPermanentWrong : ChangeSpec := { name := "keyringRevocationIsPermanent", fn := fun _ => fun
  | [d1, d2, d3, d4] => { results := [.lit (.bool false)], args := [d1, d2, d3, d4] }
  | _ => none }
def KeyringRevocationIsPermanentWrongFalsely : Prop := keyringRevocationIsPermanentRow.holds Try.pinned (OpenSpec.ofChange keyringRevocationIsPermanentWrong)

/-- 'changeforgelaw5.KeyringHistoryIsStable': WHATEVER THE INPUT: true; the input reads as it did. -/
def keyringHistoryIsStableSpec : ChangeSpec := { name := "keyringHistoryIsStable", fn := fun _ => fun
  | [d1, d2, d3, d4] => { results := [.lit (.bool true)], args := [d1, d2, d3, d4] }
  | _ => none }
def keyringHistoryIsStableRow : OpenClaim := { program := "ytnkonhplfldlmaa", sum := "bf0dc2507833d73f5e95fa4e459545092875d5caaa2a1b8377d71ca2ec5ffffc", func := "changeforge/changeforgelaw5.KeyringHistoryIsStable", spec := "keyringHistoryIsStable", unfollowed := true, recurses := true, apart := false }
def KeyringHistoryIsStableSaid : Prop := keyringHistoryIsStableRow.holds Try.pinned (OpenSpec.ofChange keyringHistoryIsStableSpec)

/-- ITS FALSE NEIGHBOUR: 'it returns false'. Refute it at one input. -/
def keyringHistoryIsStableWrong : ChangeSpec := { name := "keyringHistoryIsStable", fn := fun _ => fun
  | [d1, d2, d3, d4] => { results := [.lit (.bool false)], args := [d1, d2, d3, d4] }
  | _ => none }
def KeyringHistoryIsStableWrongFalsely : Prop := keyringHistoryIsStableRow.holds Try.pinned (OpenSpec.ofChange keyringHistoryIsStableWrong)

/-- 'changeforgelaw5.KeyringValidityIsAnInterval': WHATEVER THE INPUT: true; the input reads as it did. -/
def keyringValidityIsAnIntervalSpec : ChangeSpec := { name := "keyringValidityIsAnInterval", fn := fun _ => fun
  | [d1, d2, d3, d4, d5] => { results := [.lit (.bool true)], args := [d1, d2, d3, d4, d5] }
  | _ => none }
def keyringValidityIsAnIntervalRow : OpenClaim := { program := "ytnkonhplfldlmaa", sum := "bf0dc2507833d73f5e95fa4e459545092875d5caaa2a1b8377d71ca2ec5ffffc", func := "changeforge/changeforgelaw5.KeyringValidityIsAnInterval", spec := "keyringValidityIsAnInterval", unfollowed := true, recurses := true, apart := false }
def KeyringValidityIsAnIntervalSaid : Prop := keyringValidityIsAnIntervalRow.holds Try.pinned (OpenSpec.ofChange keyringValidityIsAnIntervalSpec)

/-- ITS FALSE NEIGHBOUR: 'it returns false'. Refute it at one input. -/
def keyringValidityIsAnIntervalWrong : ChangeSpec := { name := "keyringValidityIsAnInterval", fn := fun _ => fun
  | [d1, d2, d3, d4, d5] => { results := [.lit (.bool false)], args := [d1, d2, d3, d4, d5] }
  | _ => none }
def KeyringValidityIsAnIntervalWrongFalsely : Prop := keyringValidityIsAnIntervalRow.holds Try.pinned (OpenSpec.ofChange keyringValidityIsAnIntervalWrong)

/-- 'changeforgelaw5.KeyringKeysAreOwned': WHATEVER THE INPUT: true; the input reads as it did. -/
def keyringKeysAreOwnedSpec : ChangeSpec := { name := "keyringKeysAreOwned", fn := fun _ => fun
  | [d1, d2, d3, d4] => { results := [.lit (.bool true)], args := [d1, d2, d3, d4] }
  | _ => none }
def keyringKeysAreOwnedRow : OpenClaim := { program := "ytnkonhplfldlmaa", sum := "bf0dc2507833d73f5e95fa4e459545092875d5caaa2a1b8377d71ca2ec5ffffc", func := "changeforge/changeforgelaw5.KeyringKeysAreOwned", spec := "keyringKeysAreOwned", unfollowed := true, recurses := true, apart := false }
def KeyringKeysAreOwnedSaid : Prop := keyringKeysAreOwnedRow.holds Try.pinned (OpenSpec.ofChange keyringKeysAreOwnedSpec)

/-- ITS FALSE NEIGHBOUR: 'it returns false'. Refute it at one input. -/
def keyringKeysAreOwnedWrong : ChangeSpec := { name := "keyringKeysAreOwned", fn := fun _ => fun
  | [d1, d2, d3, d4] => { results := [.lit (.bool false)], args := [d1, d2, d3, d4] }
  | _ => none }
def KeyringKeysAreOwnedWrongFalsely : Prop := keyringKeysAreOwnedRow.holds Try.pinned (OpenSpec.ofChange keyringKeysAreOwnedWrong)

/-- 'changeforgelaw5.KeyringBeginningsAreValid': WHATEVER THE INPUT: true; the input reads as it did. -/
def keyringBeginningsAreValidSpec : ChangeSpec := { name := "keyringBeginningsAreValid", fn := fun _ => fun
  | [d1, d2] => { results := [.lit (.bool true)], args := [d1, d2] }
  | _ => none }
def keyringBeginningsAreValidRow : OpenClaim := { program := "ytnkonhplfldlmaa", sum := "bf0dc2507833d73f5e95fa4e459545092875d5caaa2a1b8377d71ca2ec5ffffc", func := "changeforge/changeforgelaw5.KeyringBeginningsAreValid", spec := "keyringBeginningsAreValid", unfollowed := true, recurses := true, apart := false }
def KeyringBeginningsAreValidSaid : Prop := keyringBeginningsAreValidRow.holds Try.pinned (OpenSpec.ofChange keyringBeginningsAreValidSpec)

/-- ITS FALSE NEIGHBOUR: 'it returns false'. Refute it at one input. -/
def keyringBeginningsAreValidWrong : ChangeSpec := { name := "keyringBeginningsAreValid", fn := fun _ => fun
  | [d1, d2] => { results := [.lit (.bool false)], args := [d1, d2] }
  | _ => none }
def KeyringBeginningsAreValidWrongFalsely : Prop := keyringBeginningsAreValidRow.holds Try.pinned (OpenSpec.ofChange keyringBeginningsAreValidWrong)

/-- 'changeforgetop.TopRevokedKeysDoNotCount': WHATEVER THE INPUT: true; the input reads as it did. -/
def topRevokedKeysDoNotCountSpec : ChangeSpec := { name := "topRevokedKeysDoNotCount", fn := fun _ => fun
  | [d1, d2, d3, d4] => { results := [.lit (.bool true)], args := [d1, d2, d3, d4] }
  | _ => none }
def topRevokedKeysDoNotCountRow : OpenClaim := { program := "ytnkonhplfldlmaa", sum := "bf0dc2507833d73f5e95fa4e459545092875d5caaa2a1b8377d71ca2ec5ffffc", func := "changeforge/changeforgetop.TopRevokedKeysDoNotCount", spec := "topRevokedKeysDoNotCount", unfollowed := true, recurses := true, named := ["math/bits.divideError", "math/bits.overflowError"], apart := false }
def TopRevokedKeysDoNotCountSaid : Prop := topRevokedKeysDoNotCountRow.holds Try.pinned (OpenSpec.ofChange topRevokedKeysDoNotCountSpec)

/-- ITS FALSE NEIGHBOUR: 'it returns false'. Refute it at one input. -/
def topRevokedKeysDoNotCountWrong : ChangeSpec := { name := "topRevokedKeysDoNotCount", fn := fun _ => fun
  | [d1, d2, d3, d4] => { results := [.lit (.bool false)], args := [d1, d2, d3, d4] }
  | _ => none }
def TopRevokedKeysDoNotCountWrongFalsely : Prop := topRevokedKeysDoNotCountRow.holds Try.pinned (OpenSpec.ofChange topRevokedKeysDoNotCountWrong)

/-- 'changeforgetop.TopSignedLogsAreAuditable': WHATEVER THE INPUT: true; the input reads as it did. -/
def topSignedLogsAreAuditableSpec : ChangeSpec := { name := "topSignedLogsAreAuditable", fn := fun _ => fun
  | [d1, d2, d3, d4] => { results := [.lit (.bool true)], args := [d1, d2, d3, d4] }
  | _ => none }
def topSignedLogsAreAuditableRow : OpenClaim := { program := "ytnkonhplfldlmaa", sum := "bf0dc2507833d73f5e95fa4e459545092875d5caaa2a1b8377d71ca2ec5ffffc", func := "changeforge/changeforgetop.TopSignedLogsAreAuditable", spec := "topSignedLogsAreAuditable", unfollowed := true, recurses := true, named := ["math/bits.divideError", "math/bits.overflowError"], apart := false }
def TopSignedLogsAreAuditableSaid : Prop := topSignedLogsAreAuditableRow.holds Try.pinned (OpenSpec.ofChange topSignedLogsAreAuditableSpec)

/-- ITS FALSE NEIGHBOUR: 'it returns false'. Refute it at one input. -/
def topSignedLogsAreAuditableWrong : ChangeSpec := { name := "topSignedLogsAreAuditable", fn := fun _ => fun
  | [d1, d2, d3, d4] => { results := [.lit (.bool false)], args := [d1, d2, d3, d4] }
  | _ => none }
def TopSignedLogsAreAuditableWrongFalsely : Prop := topSignedLogsAreAuditableRow.holds Try.pinned (OpenSpec.ofChange topSignedLogsAreAuditableWrong)

/- THE SECOND FORM. 'bulk': how many values and letters a reading holds, each counted each time it is reached (what is shared counts as often as it is met; a slice's spare places count too). A statement '..UptoSaid' is the law's where the arguments, and the package variables that the reading takes, are together of bulk at most 1048576: NARROWER than '..Said'. Prove '..Said' where nothing that the law and all that it calls make is longer than what came in: it says more and counts as full. Else prove '..UptoSaid'. A law counts once. -/
mutual
def uptoBulk {H : Type} : DataW H → Nat
  | .lit (.string bytes) => bytes.length + 1
  | .lit _ => 1
  | .nil => 1
  | .ptr d => uptoBulk d + 1
  | .slice elems spare => uptoBulkAll elems + uptoBulkAll spare + 1
  | .agg parts => uptoBulkAll parts + 1
  | .iface _ d => uptoBulk d + 1
  | .map entries => uptoBulkEntries entries + 1
  | .held _ => 1
def uptoBulkAll {H : Type} : List (DataW H) → Nat
  | [] => 0
  | d :: r => uptoBulk d + uptoBulkAll r
def uptoBulkEntries {H : Type} : List (Lit × DataW H) → Nat
  | [] => 0
  | x :: r => uptoBulkEntry x + uptoBulkEntries r
def uptoBulkEntry {H : Type} : Lit × DataW H → Nat
  | (.string bytes, d) => bytes.length + uptoBulk d + 1
  | (_, d) => uptoBulk d + 1
 end
def uptoSmall : (H : Type) → List (DataW H) → Bool := fun _ ds => decide (uptoBulkAll ds ≤ 1048576)
def OpenSpec.upto (s : _root_.Go.ChangeSpec) : _root_.Go.OpenSpec := { _root_.Go.OpenSpec.ofChange s with cond := some uptoSmall }

/-- 'changeforgelaw5.KeyringMatchesSpec', WHERE WHAT IT READS IS OF BULK AT MOST 1048576: true; the input reads as it did. -/
def keyringMatchesSpecUptoRow : OpenClaim := { program := "ytnkonhplfldlmaa", sum := "bf0dc2507833d73f5e95fa4e459545092875d5caaa2a1b8377d71ca2ec5ffffc", func := "changeforge/changeforgelaw5.KeyringMatchesSpec", spec := "keyringMatchesSpec", unfollowed := true, recurses := true, apart := false, narrowed := true }
def KeyringMatchesSpecUptoSaid : Prop := keyringMatchesSpecUptoRow.holds Try.pinned (OpenSpec.upto keyringMatchesSpecSpec)

/-- 'changeforgelaw5.KeyringRevocationIsPermanent', WHERE WHAT IT READS IS OF BULK AT MOST 1048576: true; the input reads as it did. -/
def keyringRevocationIsPermanentUptoRow : OpenClaim := { program := "ytnkonhplfldlmaa", sum := "bf0dc2507833d73f5e95fa4e459545092875d5caaa2a1b8377d71ca2ec5ffffc", func := "changeforge/changeforgelaw5.KeyringRevocationIsPermanent", spec := "keyringRevocationIsPermanent", unfollowed := true, recurses := true, apart := false, narrowed := true }
def KeyringRevocationIsPermanentUptoSaid : Prop := keyringRevocationIsPermanentUptoRow.holds Try.pinned (OpenSpec.upto keyringRevocationIsPermanentSpec)

/-- 'changeforgelaw5.KeyringHistoryIsStable', WHERE WHAT IT READS IS OF BULK AT MOST 1048576: true; the input reads as it did. -/
def keyringHistoryIsStableUptoRow : OpenClaim := { program := "ytnkonhplfldlmaa", sum := "bf0dc2507833d73f5e95fa4e459545092875d5caaa2a1b8377d71ca2ec5ffffc", func := "changeforge/changeforgelaw5.KeyringHistoryIsStable", spec := "keyringHistoryIsStable", unfollowed := true, recurses := true, apart := false, narrowed := true }
def KeyringHistoryIsStableUptoSaid : Prop := keyringHistoryIsStableUptoRow.holds Try.pinned (OpenSpec.upto keyringHistoryIsStableSpec)

/-- 'changeforgelaw5.KeyringValidityIsAnInterval', WHERE WHAT IT READS IS OF BULK AT MOST 1048576: true; the input reads as it did. -/
def keyringValidityIsAnIntervalUptoRow : OpenClaim := { program := "ytnkonhplfldlmaa", sum := "bf0dc2507833d73f5e95fa4e459545092875d5caaa2a1b8377d71ca2ec5ffffc", func := "changeforge/changeforgelaw5.KeyringValidityIsAnInterval", spec := "keyringValidityIsAnInterval", unfollowed := true, recurses := true, apart := false, narrowed := true }
def KeyringValidityIsAnIntervalUptoSaid : Prop := keyringValidityIsAnIntervalUptoRow.holds Try.pinned (OpenSpec.upto keyringValidityIsAnIntervalSpec)

/-- 'changeforgelaw5.KeyringKeysAreOwned', WHERE WHAT IT READS IS OF BULK AT MOST 1048576: true; the input reads as it did. -/
def keyringKeysAreOwnedUptoRow : OpenClaim := { program := "ytnkonhplfldlmaa", sum := "bf0dc2507833d73f5e95fa4e459545092875d5caaa2a1b8377d71ca2ec5ffffc", func := "changeforge/changeforgelaw5.KeyringKeysAreOwned", spec := "keyringKeysAreOwned", unfollowed := true, recurses := true, apart := false, narrowed := true }
def KeyringKeysAreOwnedUptoSaid : Prop := keyringKeysAreOwnedUptoRow.holds Try.pinned (OpenSpec.upto keyringKeysAreOwnedSpec)

/-- 'changeforgelaw5.KeyringBeginningsAreValid', WHERE WHAT IT READS IS OF BULK AT MOST 1048576: true; the input reads as it did. -/
def keyringBeginningsAreValidUptoRow : OpenClaim := { program := "ytnkonhplfldlmaa", sum := "bf0dc2507833d73f5e95fa4e459545092875d5caaa2a1b8377d71ca2ec5ffffc", func := "changeforge/changeforgelaw5.KeyringBeginningsAreValid", spec := "keyringBeginningsAreValid", unfollowed := true, recurses := true, apart := false, narrowed := true }
def KeyringBeginningsAreValidUptoSaid : Prop := keyringBeginningsAreValidUptoRow.holds Try.pinned (OpenSpec.upto keyringBeginningsAreValidSpec)

/-- 'changeforgetop.TopRevokedKeysDoNotCount', WHERE WHAT IT READS IS OF BULK AT MOST 1048576: true; the input reads as it did. -/
def topRevokedKeysDoNotCountUptoRow : OpenClaim := { program := "ytnkonhplfldlmaa", sum := "bf0dc2507833d73f5e95fa4e459545092875d5caaa2a1b8377d71ca2ec5ffffc", func := "changeforge/changeforgetop.TopRevokedKeysDoNotCount", spec := "topRevokedKeysDoNotCount", unfollowed := true, recurses := true, named := ["math/bits.divideError", "math/bits.overflowError"], apart := false, narrowed := true }
def TopRevokedKeysDoNotCountUptoSaid : Prop := topRevokedKeysDoNotCountUptoRow.holds Try.pinned (OpenSpec.upto topRevokedKeysDoNotCountSpec)

/-- 'changeforgetop.TopSignedLogsAreAuditable', WHERE WHAT IT READS IS OF BULK AT MOST 1048576: true; the input reads as it did. -/
def topSignedLogsAreAuditableUptoRow : OpenClaim := { program := "ytnkonhplfldlmaa", sum := "bf0dc2507833d73f5e95fa4e459545092875d5caaa2a1b8377d71ca2ec5ffffc", func := "changeforge/changeforgetop.TopSignedLogsAreAuditable", spec := "topSignedLogsAreAuditable", unfollowed := true, recurses := true, named := ["math/bits.divideError", "math/bits.overflowError"], apart := false, narrowed := true }
def TopSignedLogsAreAuditableUptoSaid : Prop := topSignedLogsAreAuditableUptoRow.holds Try.pinned (OpenSpec.upto topSignedLogsAreAuditableSpec)

end Rows
end Go.Proofs.Ytnkonhplfldlmaa
