/- Plain lemmas: what Valid, Owner and Keys answer. No condition but what each states. -/
import Derived.Test.YtnkonhplfldlmaaFf13
import Derived.Test.YtnkonhplfldlmaaFf17
import Derived.Test.YtnkonhplfldlmaaFf20
import Derived.Test.YtnkonhplfldlmaaFf21
import Derived.Test.YtnkonhplfldlmaaFn0
import Derived.Test.YtnkonhplfldlmaaFo0
import Derived.Test.YtnkonhplfldlmaaPuRingU
import Derived.Test.YtnkonhplfldlmaaPuMsg
set_option linter.unusedVariables false
namespace Go.Proofs.Ytnkonhplfldlmaa.Pure
open Go Go.RowKit Go.Proofs.Ytnkonhplfldlmaa.Fn Go.Proofs.YtnkonhplfldlmaaW.PrintWords Go.Proofs.YtnkonhplfldlmaaW.PrintLast Go.Proofs.YtnkonhplfldlmaaW.PrintMore
theorem pValid {l : List Ke} (h : ∀ x ∈ l, wf45 x) (a b : Int) : keyring_Valid.f l a b = some (validF l a b) := by
  unfold keyring_Valid.f
  rw [if_pos (kw_of h)]
theorem pOwner {l : List Ke} (h : ∀ x ∈ l, wf45 x) (a : Int) : keyring_Owner.f l a = some (ownerF l a) := by
  unfold keyring_Owner.f
  rw [if_pos (kw_of h)]
theorem pKeys {l : List Ke} (h : ∀ x ∈ l, wf45 x) (a b : Int) : keyring_Keys.f l a b = some (keysF l a b) := by
  unfold keyring_Keys.f
  rw [if_pos (kw_of h)]
theorem pValidate {l : List Ke} (h : ∀ x ∈ l, wf45 x) : keyring_Validate.f l = some (ringFault l) := by
  unfold keyring_Validate.f
  rw [if_pos (kw_of h)]
theorem validF_ok {l : List Ke} {a b : Int} (h : (validF l a b).2.1 = 0) : (ringFault l).1 = 0 ∧ (1 ≤ a ∧ a ≤ 1000000000) ∧ (0 ≤ b ∧ b ≤ 100000) ∧ validF l a b = (keyValid l a b, 0, 0) := by
  unfold validF at h ⊢
  split at h
  · rename_i hc
    exact absurd h hc
  split at h
  · exact absurd h (by decide)
  rename_i h1 h2
  rw [if_neg h1, if_neg h2]
  exact ⟨Decidable.not_not.1 h1, (Decidable.not_not.1 h2).1, (Decidable.not_not.1 h2).2, rfl⟩
theorem validF_bad {l : List Ke} {a b : Int} (h : (validF l a b).2.1 ≠ 0) : (validF l a b).1 = false := by
  unfold validF at h ⊢
  split
  · rfl
  rename_i h1
  rw [if_neg h1] at h
  split
  · rfl
  rename_i h2
  rw [if_neg h2] at h
  exact absurd rfl h
theorem validF_of {l : List Ke} {a b : Int} (h : (ringFault l).1 = 0) (ha : 1 ≤ a ∧ a ≤ 1000000000) (hb : 0 ≤ b ∧ b ≤ 100000) : validF l a b = (keyValid l a b, 0, 0) := by
  unfold validF
  rw [if_neg (not_not_intro h), if_neg (not_not_intro ⟨ha, hb⟩)]
theorem ownerF_of {l : List Ke} {a : Int} (h : (ringFault l).1 = 0) (ha : 1 ≤ a ∧ a ≤ 1000000000) : ownerF l a = if kt l a 1 < 0 then (0, 6, 0) else (ow l a, 0, 0) := by
  unfold ownerF
  rw [if_neg (not_not_intro h), if_neg (not_not_intro ha)]
theorem keysF_ok {l : List Ke} {a b : Int} (h : (keysF l a b).2.1 = 0) : (ringFault l).1 = 0 ∧ (0 ≤ a ∧ a ≤ 7) ∧ (0 ≤ b ∧ b ≤ 100000) ∧ keysF l a b = (userKeys l a b, 0, 0) := by
  unfold keysF at h ⊢
  split at h
  · rename_i hc
    exact absurd h hc
  split at h
  · exact absurd h (by decide)
  rename_i h1 h2
  rw [if_neg h1, if_neg h2]
  exact ⟨Decidable.not_not.1 h1, (Decidable.not_not.1 h2).1, (Decidable.not_not.1 h2).2, rfl⟩
theorem keysF_bad {l : List Ke} {a b : Int} (h : (keysF l a b).2.1 ≠ 0) : (keysF l a b).1 = [] := by
  unfold keysF at h ⊢
  split
  · rfl
  rename_i h1
  rw [if_neg h1] at h
  split
  · rfl
  rename_i h2
  rw [if_neg h2] at h
  exact absurd rfl h
end Go.Proofs.Ytnkonhplfldlmaa.Pure
