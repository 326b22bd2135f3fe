/- What a world holds of two variables of the library: a number, and the table of the powers of ten; kept by whatever is made later. No condition but what each states (own work). -/
import Derived.Test.YtggdbafmpmfmcaaDoorWA
import Derived.Test.YtggdbafmpmfmcaaDoorProg
import Derived.Lib.ItoaNum
import Derived.Lib.LaidTab
set_option linter.unusedVariables false
namespace Go.Proofs.YtggdbafmpmfmcaaDoor.Fn
open Go Go.RowKit Go.Proofs.YtggdbafmpmfmcaaDoorW.PrintWords
def LibOk (w : World) : Prop := (∃ m, w.cell? ⟨0, 0, none⟩ = some (.int .i64 m)) ∧ Lib.TabIs Tryd.prog w "internal/strconv.uint64pow10" .u64 Lib.pow10Tab
theorem pow_named : Tryd.prog.globalNamed "internal/strconv.uint64pow10" = some 3 := by kernel_rfl
theorem LibOk.mv {w w' : World} (h : LibOk w) (hb : Below w.heap.size w w') : LibOk w' := by
  obtain ⟨⟨m, hm⟩, ht⟩ := h
  have hlt : ∀ {g : Nat} {v : Value}, w.cell? ⟨g, 0, none⟩ = some v → g < w.heap.size := fun {g v} e => by
    refine Decidable.byContradiction fun hn => ?_
    simp [World.cell?, Array.getElem?_eq_none (Nat.le_of_not_lt hn)] at e
  refine ⟨⟨m, (hb.cell (p := ⟨_, 0, none⟩) (hlt hm)).trans hm⟩, ?_⟩
  have hc := ht.cell pow_named 0 (by decide)
  have hg := hlt hc
  unfold Lib.TabIs World.var? at ht ⊢
  rw [pow_named] at ht ⊢
  simp only [Option.bind_some] at ht ⊢
  rw [hb.block _ hg]
  exact ht
theorem lo_ {w w' : World} (HL : Aside0 (LibOk w)) (h : Below w.heap.size w w' := by repeat (first | (with_reducible first | exact HB.out | apply below_alloc | apply pw_below_drewN | apply below_drew1 | refine below_set ?_ (Aside0.out (by assumption))) | exact HB.out)) : Aside0 (LibOk w') := ⟨HL.out.mv h⟩
end Go.Proofs.YtggdbafmpmfmcaaDoor.Fn
