/- A function of the program as a plain Lean function, and the proof that the call comes to just what it says (written by wip/tools/xprint.py for this claim). Condition: the plain function has an answer. -/
import Derived.Test.YtggdbafmpmfmcaaDoorFn0
import Derived.Test.YtggdbafmpmfmcaaDoorOpens
namespace Go.Proofs.YtggdbafmpmfmcaaDoor.Fn
open Go.RowKit Go.Proofs.YtggdbafmpmfmcaaDoor.Opens Go.Proofs.YtggdbafmpmfmcaaDoorW.PrintWords Go.Proofs.YtggdbafmpmfmcaaDoorW.PrintLast
set_option linter.unusedVariables false
def wf24 (x : S24) : Prop := (Lit.int .i64 x.f0).wf = true ∧ (Lit.int .i64 x.f1).wf = true ∧ (Lit.int .i64 x.f2).wf = true ∧ (x.f3.length * 16 ≤ 140737488351232 ∧ ∀ x_ ∈ x.f3, x_.size ≤ 140737488351232)
theorem opens_k24 {H : Type} {enc : TypeId × Value → H} : Opens enc Tryd.prog 24 k24 wf24 := opens_struct Tryd.underlying24 (by kernel_rfl) (opensF_cons rfl (by kernel_rfl) (opens_int Tryd.underlying3) (opensF_cons rfl (by kernel_rfl) (opens_int Tryd.underlying3) (opensF_cons rfl (by kernel_rfl) (opens_int Tryd.underlying3) (opensF_one rfl (by kernel_rfl) (opens_slice Tryd.underlying22 (by kernel_rfl) (by kernel_rfl) (opens_string Tryd.underlying9)))))) (fun x : S24 => (x.f0, x.f1, x.f2, x.f3)) (fun p => ⟨p.1, p.2.1, p.2.2.1, p.2.2.2⟩) (fun _ => rfl)
end Go.Proofs.YtggdbafmpmfmcaaDoor.Fn
