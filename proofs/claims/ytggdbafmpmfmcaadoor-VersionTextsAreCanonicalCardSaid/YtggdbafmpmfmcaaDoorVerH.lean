/- version.Parse: all ways together (own work). Condition: what the library's variables hold. -/
import Derived.Test.YtggdbafmpmfmcaaDoorVerG
set_option linter.unusedVariables false
namespace Go.Proofs.YtggdbafmpmfmcaaDoor.Fn
open Go Go.RowKit Go.Proofs.YtggdbafmpmfmcaaDoorW.PrintWords Go.Proofs.YtggdbafmpmfmcaaDoorW.PrintLast Go.Proofs.YtggdbafmpmfmcaaDoorW.PrintMore
abbrev Post (w : World) (r1 r2 r3 : Int) (r4 : List ByteArray) (r5 r6 : Int) (e : Ending) (w' : World) : Prop := ∃ v3_ : Value, e = .returned (.tuple #[.agg #[.int .i64 r1, .int .i64 r2, .int .i64 r3, v3_], .agg #[.int .i64 r5, .int .i64 r6]]) ∧ Kd.R Kd.string 9 w' w.heap.size (fun _ => True) v3_ r4 ∧ Below w.heap.size w w'
theorem parse_three (s : ByteArray) (w : World) (HL : LibOk w) (h : s.size ≤ 80) (p q r : ByteArray) (hP : partsB (coreB s) = [p, q, r]) (r1 r2 r3 : Int) (r4 : List ByteArray) (r5 r6 : Int) (hr : parse3 p q r (if hasB s = true then partsB (tailB s) else []) = (r1, r2, r3, r4, r5, r6)) :
    Calls Tryd.prog 20 #[.string s] w (Post w r1 r2 r3 r4 r5 r6) := by
  obtain ⟨n0, b0, e0⟩ : ∃ n b, numOf p = (n, b) := ⟨_, _, rfl⟩
  obtain ⟨n1, b1, e1⟩ : ∃ n b, numOf q = (n, b) := ⟨_, _, rfl⟩
  obtain ⟨n2, b2, e2⟩ : ∃ n b, numOf r = (n, b) := ⟨_, _, rfl⟩
  unfold parse3 at hr
  rw [e0, e1, e2] at hr
  simp only at hr
  have bad : (0, 0, 0, [], 1, -1) = (r1, r2, r3, r4, r5, r6) → (Calls Tryd.prog 20 #[.string s] w (Post w 0 0 0 [] 1 (-1))) → Calls Tryd.prog 20 #[.string s] w (Post w r1 r2 r3 r4 r5 r6) := fun e c => by
    simp only [Prod.mk.injEq] at e
    obtain ⟨rfl, rfl, rfl, rfl, rfl, rfl⟩ := e
    exact c
  cases b0 with
  | false => exact bad (by simpa [badV] using hr) (parse_bad0 s w HL h p q r hP n0 e0)
  | true =>
    cases b1 with
    | false => exact bad (by simpa [badV] using hr) (parse_bad1 s w HL h p q r hP n0 n1 e0 e1)
    | true =>
      cases b2 with
      | false => exact bad (by simpa [badV] using hr) (parse_bad2 s w HL h p q r hP n0 n1 n2 e0 e1 e2)
      | true =>
        rw [if_pos ⟨rfl, rfl, rfl⟩] at hr
        cases hH : hasB s with
        | false =>
          rw [hH, if_neg (show ¬ false = true by decide)] at hr
          obtain ⟨x1, x2, hF⟩ : ∃ x1 x2, verFault n0 n1 n2 [] = (x1, x2) := ⟨_, _, rfl⟩
          rw [hF] at hr
          by_cases hx : x1 = 0 ∧ x2 = 0
          · obtain ⟨rfl, rfl⟩ := hx
            rw [if_pos rfl] at hr
            simp only [Prod.mk.injEq] at hr
            obtain ⟨rfl, rfl, rfl, rfl, rfl, rfl⟩ := hr
            exact parse_plain_ok s w HL h p q r hP n0 n1 n2 e0 e1 e2 hH hF
          · rw [if_neg (fun e => hx (by simpa using e))] at hr
            exact bad hr (parse_plain_bad s w HL h p q r hP n0 n1 n2 e0 e1 e2 hH x1 x2 hF hx)
        | true =>
          rw [hH, if_pos (show true = true from rfl)] at hr
          obtain ⟨x1, x2, hF⟩ : ∃ x1 x2, verFault n0 n1 n2 (partsB (tailB s)) = (x1, x2) := ⟨_, _, rfl⟩
          rw [hF] at hr
          by_cases hx : x1 = 0 ∧ x2 = 0
          · obtain ⟨rfl, rfl⟩ := hx
            rw [if_pos rfl] at hr
            simp only [Prod.mk.injEq] at hr
            obtain ⟨rfl, rfl, rfl, rfl, rfl, rfl⟩ := hr
            exact parse_found_ok s w HL h p q r hP n0 n1 n2 e0 e1 e2 hH hF
          · rw [if_neg (fun e => hx (by simpa using e))] at hr
            exact bad hr (parse_found_bad s w HL h p q r hP n0 n1 n2 e0 e1 e2 hH x1 x2 hF hx)
theorem parse_calls (s : ByteArray) (w : World) (HL : LibOk w) (r1 r2 r3 : Int) (r4 : List ByteArray) (r5 r6 : Int) (hr : verParse s = (r1, r2, r3, r4, r5, r6)) :
    Calls Tryd.prog 20 #[.string s] w (Post w r1 r2 r3 r4 r5 r6) := by
  unfold verParse at hr
  by_cases h : 80 < s.size
  · rw [if_pos h] at hr
    simp only [Prod.mk.injEq] at hr
    obtain ⟨rfl, rfl, rfl, rfl, rfl, rfl⟩ := hr
    exact parse_long s w h
  · rw [if_neg h] at hr
    split at hr
    · rename_i p q r hP
      exact parse_three s w HL (by omega) p q r hP r1 r2 r3 r4 r5 r6 hr
    · rename_i hn
      unfold badV at hr
      simp only [Prod.mk.injEq] at hr
      obtain ⟨rfl, rfl, rfl, rfl, rfl, rfl⟩ := hr
      refine parse_not3 s w HL (by omega) (fun hl => ?_)
      match hP : partsB (coreB s), hl with
      | [p, q, r], _ => exact hn p q r hP
end Go.Proofs.YtggdbafmpmfmcaaDoor.Fn
