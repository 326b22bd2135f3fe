/-
  No cell of these rows narrows 'for every input' (looked for: loops, veiled, ifaces, maps, wideKeys, modest, calm, conditions, laid).
  DERIVED. THE GIVEN ROWS OF THIS SEAT. 5 by the template 'for every input the law returns true; each argument reads behind the call as it read before'; 0 by the template 'total and deterministic' (their statements: YtdelkdlegokbjaaTotals.lean).
  GIVEN WITH THE SEED: the statements are not yours to turn. If you find one false, say at which input.
  Laid BY PROGRAM, IN A SANDBOX (cutbox-rows.mjs): the forced cells as the released guide's own fill.sh prints them over the translation 44c0ac330da22033… (all of the seat's roots in one cut). By AI agents, Wed Nov 11 2026. No macro, syntax, notation, axiom, sorry.
-/
import Derived.Test.YtdelkdlegokbjaaChecked
import GoSem.Claim
import GoSem.ClaimJoined
import GoSem.ClaimMapViews
import Derived.JoinedTies
import Derived.KernelRfl
namespace Go.Proofs.Ytdelkdlegokbjaa
/- THE CELL 'sum', in the pinned program and in every row, IS THE sha256 OF THE DUMP (.gsa) THAT YtdelkdlegokbjaaProg.lean LOADS. Nothing in Lean hashes anything: it is a label: what it is worth is what the hold of that sum in a sandbox is worth. -/
noncomputable def Try.pinned : Pinned := { name := "ytdelkdlegokbjaa", sum := "44c0ac330da2203387c3be6244b40a428a14d597478fd09151bddb0999e55e3a", checked := Try.checked }
namespace Rows
def none {H : Type} : Left H := { results := [], args := [] }

/-- 'changeforgelaw5.RolesMatchSpec': WHATEVER THE INPUT: true; the input reads as it did. -/
def rolesMatchSpecSpec : ChangeSpec := { name := "rolesMatchSpec", fn := fun _ => fun
  | [d1, d2, d3, d4] => { results := [.lit (.bool true)], args := [d1, d2, d3, d4] }
  | _ => none }
def rolesMatchSpecRow : OpenClaim := { program := "ytdelkdlegokbjaa", sum := "44c0ac330da2203387c3be6244b40a428a14d597478fd09151bddb0999e55e3a", func := "changeforge/changeforgelaw5.RolesMatchSpec", spec := "rolesMatchSpec", unfollowed := true, recurses := true, named := ["math/bits.divideError", "math/bits.overflowError"], apart := false }
def RolesMatchSpecSaid : Prop := rolesMatchSpecRow.holds Try.pinned (OpenSpec.ofChange rolesMatchSpecSpec)

/-- ITS FALSE NEIGHBOUR: 'it returns false'. Refute it at one input. -/
def rolesMatchSpecWrong : ChangeSpec := { name := "rolesMatchSpec", fn := fun _ => fun
  | [d1, d2, d3, d4] => { results := [.lit (.bool false)], args := [d1, d2, d3, d4] }
  | _ => none }
def RolesMatchSpecWrongFalsely : Prop := rolesMatchSpecRow.holds Try.pinned (OpenSpec.ofChange rolesMatchSpecWrong)

/-- 'changeforgelaw5.RolesChainsAreNested': WHATEVER THE INPUT: true; the input reads as it did. -/
def rolesChainsAreNestedSpec : ChangeSpec := { name := "rolesChainsAreNested", fn := fun _ => fun
  | [d1, d2] => { results := [.lit (.bool true)], args := [d1, d2] }
  | _ => none }
def rolesChainsAreNestedRow : OpenClaim := { program := "ytdelkdlegokbjaa", sum := "44c0ac330da2203387c3be6244b40a428a14d597478fd09151bddb0999e55e3a", func := "changeforge/changeforgelaw5.RolesChainsAreNested", spec := "rolesChainsAreNested", unfollowed := true, recurses := true, named := ["math/bits.divideError", "math/bits.overflowError"], apart := false }
def RolesChainsAreNestedSaid : Prop := rolesChainsAreNestedRow.holds Try.pinned (OpenSpec.ofChange rolesChainsAreNestedSpec)

/-- ITS FALSE NEIGHBOUR: 'it returns false'. Refute it at one input. -/
def rolesChainsAreNestedWrong : ChangeSpec := { name := "rolesChainsAreNested", fn := fun _ => fun
  | [d1, d2] => { results := [.lit (.bool false)], args := [d1, d2] }
  | _ => none }
def RolesChainsAreNestedWrongFalsely : Prop := rolesChainsAreNestedRow.holds Try.pinned (OpenSpec.ofChange rolesChainsAreNestedWrong)

/-- 'changeforgelaw5.RolesDelegationIsFollowed': WHATEVER THE INPUT: true; the input reads as it did. -/
def rolesDelegationIsFollowedSpec : ChangeSpec := { name := "rolesDelegationIsFollowed", fn := fun _ => fun
  | [d1, d2] => { results := [.lit (.bool true)], args := [d1, d2] }
  | _ => none }
def rolesDelegationIsFollowedRow : OpenClaim := { program := "ytdelkdlegokbjaa", sum := "44c0ac330da2203387c3be6244b40a428a14d597478fd09151bddb0999e55e3a", func := "changeforge/changeforgelaw5.RolesDelegationIsFollowed", spec := "rolesDelegationIsFollowed", unfollowed := true, recurses := true, named := ["math/bits.divideError", "math/bits.overflowError"], apart := false }
def RolesDelegationIsFollowedSaid : Prop := rolesDelegationIsFollowedRow.holds Try.pinned (OpenSpec.ofChange rolesDelegationIsFollowedSpec)

/-- ITS FALSE NEIGHBOUR: 'it returns false'. Refute it at one input. -/
def rolesDelegationIsFollowedWrong : ChangeSpec := { name := "rolesDelegationIsFollowed", fn := fun _ => fun
  | [d1, d2] => { results := [.lit (.bool false)], args := [d1, d2] }
  | _ => none }
def RolesDelegationIsFollowedWrongFalsely : Prop := rolesDelegationIsFollowedRow.holds Try.pinned (OpenSpec.ofChange rolesDelegationIsFollowedWrong)

/-- 'changeforgelaw5.RolesAddingARole': WHATEVER THE INPUT: true; the input reads as it did. -/
def rolesAddingARoleSpec : ChangeSpec := { name := "rolesAddingARole", fn := fun _ => fun
  | [d1, d2, d3] => { results := [.lit (.bool true)], args := [d1, d2, d3] }
  | _ => none }
def rolesAddingARoleRow : OpenClaim := { program := "ytdelkdlegokbjaa", sum := "44c0ac330da2203387c3be6244b40a428a14d597478fd09151bddb0999e55e3a", func := "changeforge/changeforgelaw5.RolesAddingARole", spec := "rolesAddingARole", unfollowed := true, recurses := true, named := ["math/bits.divideError", "math/bits.overflowError"], apart := false }
def RolesAddingARoleSaid : Prop := rolesAddingARoleRow.holds Try.pinned (OpenSpec.ofChange rolesAddingARoleSpec)

/-- ITS FALSE NEIGHBOUR: 'it returns false'. Refute it at one input. -/
def rolesAddingARoleWrong : ChangeSpec := { name := "rolesAddingARole", fn := fun _ => fun
  | [d1, d2, d3] => { results := [.lit (.bool false)], args := [d1, d2, d3] }
  | _ => none }
def RolesAddingARoleWrongFalsely : Prop := rolesAddingARoleRow.holds Try.pinned (OpenSpec.ofChange rolesAddingARoleWrong)

/-- 'changeforgelaw5.RolesNeedTheirKeys': WHATEVER THE INPUT: true; the input reads as it did. -/
def rolesNeedTheirKeysSpec : ChangeSpec := { name := "rolesNeedTheirKeys", fn := fun _ => fun
  | [d1, d2, d3, d4] => { results := [.lit (.bool true)], args := [d1, d2, d3, d4] }
  | _ => none }
def rolesNeedTheirKeysRow : OpenClaim := { program := "ytdelkdlegokbjaa", sum := "44c0ac330da2203387c3be6244b40a428a14d597478fd09151bddb0999e55e3a", func := "changeforge/changeforgelaw5.RolesNeedTheirKeys", spec := "rolesNeedTheirKeys", unfollowed := true, recurses := true, named := ["math/bits.divideError", "math/bits.overflowError"], apart := false }
def RolesNeedTheirKeysSaid : Prop := rolesNeedTheirKeysRow.holds Try.pinned (OpenSpec.ofChange rolesNeedTheirKeysSpec)

/-- ITS FALSE NEIGHBOUR: 'it returns false'. Refute it at one input. -/
def rolesNeedTheirKeysWrong : ChangeSpec := { name := "rolesNeedTheirKeys", fn := fun _ => fun
  | [d1, d2, d3, d4] => { results := [.lit (.bool false)], args := [d1, d2, d3, d4] }
  | _ => none }
def RolesNeedTheirKeysWrongFalsely : Prop := rolesNeedTheirKeysRow.holds Try.pinned (OpenSpec.ofChange rolesNeedTheirKeysWrong)

/- THE SECOND FORM. 'bulk': how many values and letters a reading holds, each counted each time it is reached (what is shared counts as often as it is met; a slice's spare places count too). A statement '..UptoSaid' is the law's where the arguments, and the package variables that the reading takes, are together of bulk at most 1048576: NARROWER than '..Said'. Prove '..Said' where nothing that the law and all that it calls make is longer than what came in: it says more and counts as full. Else prove '..UptoSaid'. A law counts once. -/
mutual
def uptoBulk {H : Type} : DataW H → Nat
  | .lit (.string bytes) => bytes.length + 1
  | .lit _ => 1
  | .nil => 1
  | .ptr d => uptoBulk d + 1
  | .slice elems spare => uptoBulkAll elems + uptoBulkAll spare + 1
  | .agg parts => uptoBulkAll parts + 1
  | .iface _ d => uptoBulk d + 1
  | .map entries => uptoBulkEntries entries + 1
  | .held _ => 1
def uptoBulkAll {H : Type} : List (DataW H) → Nat
  | [] => 0
  | d :: r => uptoBulk d + uptoBulkAll r
def uptoBulkEntries {H : Type} : List (Lit × DataW H) → Nat
  | [] => 0
  | x :: r => uptoBulkEntry x + uptoBulkEntries r
def uptoBulkEntry {H : Type} : Lit × DataW H → Nat
  | (.string bytes, d) => bytes.length + uptoBulk d + 1
  | (_, d) => uptoBulk d + 1
 end
def uptoSmall : (H : Type) → List (DataW H) → Bool := fun _ ds => decide (uptoBulkAll ds ≤ 1048576)
def OpenSpec.upto (s : _root_.Go.ChangeSpec) : _root_.Go.OpenSpec := { _root_.Go.OpenSpec.ofChange s with cond := some uptoSmall }

/-- 'changeforgelaw5.RolesMatchSpec', WHERE WHAT IT READS IS OF BULK AT MOST 1048576: true; the input reads as it did. -/
def rolesMatchSpecUptoRow : OpenClaim := { program := "ytdelkdlegokbjaa", sum := "44c0ac330da2203387c3be6244b40a428a14d597478fd09151bddb0999e55e3a", func := "changeforge/changeforgelaw5.RolesMatchSpec", spec := "rolesMatchSpec", unfollowed := true, recurses := true, named := ["math/bits.divideError", "math/bits.overflowError"], apart := false, narrowed := true }
def RolesMatchSpecUptoSaid : Prop := rolesMatchSpecUptoRow.holds Try.pinned (OpenSpec.upto rolesMatchSpecSpec)

/-- 'changeforgelaw5.RolesChainsAreNested', WHERE WHAT IT READS IS OF BULK AT MOST 1048576: true; the input reads as it did. -/
def rolesChainsAreNestedUptoRow : OpenClaim := { program := "ytdelkdlegokbjaa", sum := "44c0ac330da2203387c3be6244b40a428a14d597478fd09151bddb0999e55e3a", func := "changeforge/changeforgelaw5.RolesChainsAreNested", spec := "rolesChainsAreNested", unfollowed := true, recurses := true, named := ["math/bits.divideError", "math/bits.overflowError"], apart := false, narrowed := true }
def RolesChainsAreNestedUptoSaid : Prop := rolesChainsAreNestedUptoRow.holds Try.pinned (OpenSpec.upto rolesChainsAreNestedSpec)

/-- 'changeforgelaw5.RolesDelegationIsFollowed', WHERE WHAT IT READS IS OF BULK AT MOST 1048576: true; the input reads as it did. -/
def rolesDelegationIsFollowedUptoRow : OpenClaim := { program := "ytdelkdlegokbjaa", sum := "44c0ac330da2203387c3be6244b40a428a14d597478fd09151bddb0999e55e3a", func := "changeforge/changeforgelaw5.RolesDelegationIsFollowed", spec := "rolesDelegationIsFollowed", unfollowed := true, recurses := true, named := ["math/bits.divideError", "math/bits.overflowError"], apart := false, narrowed := true }
def RolesDelegationIsFollowedUptoSaid : Prop := rolesDelegationIsFollowedUptoRow.holds Try.pinned (OpenSpec.upto rolesDelegationIsFollowedSpec)

/-- 'changeforgelaw5.RolesAddingARole', WHERE WHAT IT READS IS OF BULK AT MOST 1048576: true; the input reads as it did. -/
def rolesAddingARoleUptoRow : OpenClaim := { program := "ytdelkdlegokbjaa", sum := "44c0ac330da2203387c3be6244b40a428a14d597478fd09151bddb0999e55e3a", func := "changeforge/changeforgelaw5.RolesAddingARole", spec := "rolesAddingARole", unfollowed := true, recurses := true, named := ["math/bits.divideError", "math/bits.overflowError"], apart := false, narrowed := true }
def RolesAddingARoleUptoSaid : Prop := rolesAddingARoleUptoRow.holds Try.pinned (OpenSpec.upto rolesAddingARoleSpec)

/-- 'changeforgelaw5.RolesNeedTheirKeys', WHERE WHAT IT READS IS OF BULK AT MOST 1048576: true; the input reads as it did. -/
def rolesNeedTheirKeysUptoRow : OpenClaim := { program := "ytdelkdlegokbjaa", sum := "44c0ac330da2203387c3be6244b40a428a14d597478fd09151bddb0999e55e3a", func := "changeforge/changeforgelaw5.RolesNeedTheirKeys", spec := "rolesNeedTheirKeys", unfollowed := true, recurses := true, named := ["math/bits.divideError", "math/bits.overflowError"], apart := false, narrowed := true }
def RolesNeedTheirKeysUptoSaid : Prop := rolesNeedTheirKeysUptoRow.holds Try.pinned (OpenSpec.upto rolesNeedTheirKeysSpec)

end Rows
end Go.Proofs.Ytdelkdlegokbjaa
