/- The statement VersionOrderIsTotalSaid: for every input the law changeforge/changeforgelaw5.VersionOrderIsTotal returns true, and each argument reads afterwards as it read before. Conditions: none beyond the given row's own. -/
import Derived.Test.YtggdbafmpmfmcaaDoorRows
import Derived.Test.YtggdbafmpmfmcaaDoorFo0
import Derived.Test.YtggdbafmpmfmcaaDoorFf6
import Derived.Test.YtggdbafmpmfmcaaDoorPureVersionOrderIsTotal
import Derived.Test.YtggdbafmpmfmcaaDoorCard
import Derived.Test.YtggdbafmpmfmcaaDoorCards
import Derived.Test.YtggdbafmpmfmcaaDoorTie
import Derived.WalkKit
import Derived.ProofKit
import Derived.OpenShut
import Derived.ShutString
import Derived.ChangeOld
import Derived.Below
import Derived.SizedLaws
namespace Go.Proofs.YtggdbafmpmfmcaaDoor.versionOrderIsTotal
open Go.ChangeShapes Go.WideShapes Go.ChangeAt Go.RowKit Go.Proofs.YtggdbafmpmfmcaaDoor.Fn Go.Proofs.YtggdbafmpmfmcaaDoor.Opens Go.Proofs.YtggdbafmpmfmcaaDoorW.PrintWords
open Go.ChangeMaps (open_string shut_string)
set_option linter.unusedVariables false
theorem own : ownKnob Tryd.prog.godebug = none := by kernel_rfl
theorem laidOut : laidOutB Tryd.prog = true := by kernel_rfl
set_option maxRecDepth 100000 in
theorem lifted (os : Os) (started : os.Started) (H : Type) (enc : TypeId × Value → H) :
    ReturnsInHanded {} Tryd.checked os 6 .any (fun w args => (Rows.versionOrderIsTotalSpec.pre enc Tryd.prog Tryd.f6 Rows.versionOrderIsTotalRow.domain false w args ∧ laidMetH Tryd.prog Rows.versionOrderIsTotalRow.laid w) ∧ sizedMet enc Tryd.prog Tryd.f6 (OpenSpec.ofChange Rows.versionOrderIsTotalSpec) false w args) (Rows.versionOrderIsTotalSpec.post enc Tryd.prog Tryd.f6 false true false false) := by
  refine returnsInHanded_of_change_both (C := Tryd.checked) (X := fun w _ => laidMetH Tryd.prog Rows.versionOrderIsTotalRow.laid w) (fun _ _ _ hh h => h.of_heap hh) own started (by kernel_rfl) Tryd.func6
    (ChangeSpec.witness_shaped (enc := enc) (C := Tryd.checked) (os := os) (X := fun w _ => laidMetH Tryd.prog Rows.versionOrderIsTotalRow.laid w) false (World.laidAll Tryd.prog os Rows.versionOrderIsTotalRow.laid) #[.agg #[.int .i64 0, .int .i64 0, .int .i64 0, .slice none 0 0], .agg #[.int .i64 0, .int .i64 0, .int .i64 0, .slice none 0 0], .agg #[.int .i64 0, .int .i64 0, .int .i64 0, .slice none 0 0]] 8 (World.laidAll_os _ _ _)
      (World.shaped_of_ZipB (by kernel_rfl) (by kernel_rfl)) (by kernel_rfl) (by kernel_rfl) (by kernel_rfl) (by rw [MakeChecks.laidMetH_plain _ _ _ (by kernel_rfl)]; exact laidMet_laidAll _ (by kernel_rfl) (by kernel_rfl))) ?_
  intro W base args ds gs before hval0 hW hcnd hsz0 hL0 hsh0
  have HL : Aside0 (LibOk W) := ⟨libOk_of (MakeChecks.laidMetH_plain _ _ _ (by kernel_rfl)) hL0 hsh0 (.tail _ (.tail _ (.head _)))⟩
  have hsz : (DataW.weightsEach Tryd.prog (Tryd.f6.params.toList ++ Rows.versionOrderIsTotalSpec.plain.varTypes Tryd.prog) (ds ++ gs)).all (· ≤ reachBytes) = true := hsz0
  have hval : ∀ (j : Nat) t v, Tryd.f6.params[j]? = some t → args[j]? = some v → Value.okWide Tryd.prog W .any base t v := hval0
  have hW' := hW
  obtain ⟨p, q, hA0, hV, rfl, hfz, hnd⟩ := hW
  have hA : DataW.TrodAll enc Tryd.prog W 0 (fun _ => true) true Tryd.f6.params.toList args.toList ds p := hA0
  rw [Tryd.params6] at hA hval hsz
  obtain ⟨v0, vs0, d0, ds0, p0, q0, hargs, rfl, rfl, h0, r0⟩ := trodAll_cons hA
  obtain ⟨v1, vs1, d1, ds1, p1, q1, rfl, rfl, rfl, h1, r1⟩ := trodAll_cons r0
  obtain ⟨v2, vs2, d2, ds2, p2, q2, rfl, rfl, rfl, h2, r2⟩ := trodAll_cons r1
  obtain ⟨rfl, rfl, rfl⟩ := trodAll_nil r2
  obtain rfl : args = #[v0, v1, v2] := by cases args; simp_all
  obtain ⟨rfl, rfl⟩ := trodVars_none hV
  obtain ⟨cs0, rfl, hcs0⟩ := okWide_struct Tryd.underlying24 (hval 0 24 v0 rfl rfl)
  have k0 := h0
  have lt0 : ∀ x ∈ p0, x.block < W.heap.size := by obtain ⟨m, hm⟩ := k0; exact DataW.trod_lt m _ _ _ hm
  obtain ⟨x0, hx0, wx0⟩ := opens_arg opens_k24 hsz (j := 0) (t := 24) rfl rfl h0
  obtain ⟨A0_3, c0_3, e0, hc0_3, hr0_3⟩ := k24_open hx0
  obtain rfl : cs0 = #[.int .i64 x0.f0, .int .i64 x0.f1, .int .i64 x0.f2, .slice A0_3 x0.f3.length c0_3] := by cases cs0; simpa [Value.cells] using e0
  obtain ⟨cs1, rfl, hcs1⟩ := okWide_struct Tryd.underlying24 (hval 1 24 v1 rfl rfl)
  have k1 := h1
  have lt1 : ∀ x ∈ p1, x.block < W.heap.size := by obtain ⟨m, hm⟩ := k1; exact DataW.trod_lt m _ _ _ hm
  obtain ⟨x1, hx1, wx1⟩ := opens_arg opens_k24 hsz (j := 1) (t := 24) rfl rfl h1
  obtain ⟨A1_3, c1_3, e1, hc1_3, hr1_3⟩ := k24_open hx1
  obtain rfl : cs1 = #[.int .i64 x1.f0, .int .i64 x1.f1, .int .i64 x1.f2, .slice A1_3 x1.f3.length c1_3] := by cases cs1; simpa [Value.cells] using e1
  obtain ⟨cs2, rfl, hcs2⟩ := okWide_struct Tryd.underlying24 (hval 2 24 v2 rfl rfl)
  have k2 := h2
  have lt2 : ∀ x ∈ p2, x.block < W.heap.size := by obtain ⟨m, hm⟩ := k2; exact DataW.trod_lt m _ _ _ hm
  obtain ⟨x2, hx2, wx2⟩ := opens_arg opens_k24 hsz (j := 2) (t := 24) rfl rfl h2
  obtain ⟨A2_3, c2_3, e2, hc2_3, hr2_3⟩ := k24_open hx2
  obtain rfl : cs2 = #[.int .i64 x2.f0, .int .i64 x2.f1, .int .i64 x2.f2, .slice A2_3 x2.f3.length c2_3] := by cases cs2; simpa [Value.cells] using e2
  obtain ⟨k, h⟩ := Pure.VersionOrderIsTotal x0 x1 x2 wx0 wx1 wx2
  refine (changeforgelaw5_VersionOrderIsTotal.calls k x0.f0 x0.f1 x0.f2 _ _ x0.f3 x1.f0 x1.f1 x1.f2 _ _ x1.f3 x2.f0 x2.f1 x2.f2 _ _ x2.f3 true W hr0_3 hc0_3 hr1_3 hc1_3 hr2_3 hc2_3 h HL).mono ?_
  rintro e W' ⟨rfl, hd⟩
  have bel : Below W.heap.size W W' := hd
  exact ⟨_, rfl, _, _, _, [], _, [], hW', trodAll_mk1 (shut_bool Tryd.underlying4 _), (trodAll_cons_mk (Below.trod laidOut (by kernel_rfl) (of_decide_eq_true (by kernel_rfl)) k0 bel lt0) (trodAll_cons_mk (Below.trod laidOut (by kernel_rfl) (of_decide_eq_true (by kernel_rfl)) k1 bel lt1) (trodAll_cons_mk (Below.trod laidOut (by kernel_rfl) (of_decide_eq_true (by kernel_rfl)) k2 bel lt2) trodAll_mk0))), rfl, bel.frame _, fun h => by cases h⟩
theorem over : Rows.versionOrderIsTotalRow.holds Tryd.pinned (OpenSpec.ofChange Rows.versionOrderIsTotalSpec) :=
  OpenClaim.holds_of_wide 6 Tryd.f6 rfl rfl rfl rfl rfl rfl rfl ⟨rfl, rfl, rfl, rfl, rfl⟩ rfl rfl rfl rfl rfl (by kernel_rfl) Tryd.func6 (by kernel_rfl)
    (of_decide_eq_true (by kernel_rfl)) (by unfold Func.isWrapper; first | (rw [if_pos (by decide +kernel)]; kernel_rfl) | (rw [if_neg (by decide +kernel)]; exact ⟨rfl, rfl⟩))
    (fun os started H enc _ => lifted os started H enc)
theorem proved : Rows.VersionOrderIsTotalSaid := over
theorem card_holds : Rows.VersionOrderIsTotalCardSaid :=
  Claim7.holds_tied_plain_at .later [] [.data, .data, .data, .data, .sentinel, .sentinel, .pinned] true (true, "81114967c5288af5a0d98aae6f68b026b049902b9b93ba86b217ed2c4ac6ff27") true over (fun _ h => by cases h) (by kernel_rfl) (fun _ h => by cases h) versionOrderIsTotal_row_tie rfl ⟨rfl, rfl⟩ (by kernel_rfl) rfl
    (fun f fn hf hfn => by
      obtain rfl : f = 6 := Option.some.inj ((show Tryd.prog.funcNamed "changeforge/changeforgelaw5.VersionOrderIsTotal" = some 6 by kernel_rfl).symm.trans hf) |>.symm
      obtain rfl : fn = Tryd.f6 := (Option.some.inj (Tryd.func6.symm.trans hfn)).symm
      exact ⟨by kernel_rfl, fun j t ht => by
        rw [Tryd.params6] at ht
        have hm : t ∈ [24, 24, 24] := by simpa using Array.mem_of_getElem? ht
        have hall : ([24, 24, 24].all fun u => !Tryd.prog.wantsStandIn u) = true := by kernel_rfl
        exact (show Tryd.prog.wantsStandIn t = false by simpa using List.all_eq_true.1 hall t hm)⟩)
    (by kernel_rfl)
#print axioms card_holds
end Go.Proofs.YtggdbafmpmfmcaaDoor.versionOrderIsTotal
namespace Go.Proofs.YtggdbafmpmfmcaaDoor
/-- The row, under a short name, for the claim. -/
theorem versionOrderIsTotal_holds : Rows.VersionOrderIsTotalCardSaid := versionOrderIsTotal.card_holds
end Go.Proofs.YtggdbafmpmfmcaaDoor
