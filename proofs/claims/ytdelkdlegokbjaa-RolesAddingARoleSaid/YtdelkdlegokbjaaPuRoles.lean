/- Plain lemmas on delegation trees: the validity of roles, chains of roles. -/
import Derived.Test.YtdelkdlegokbjaaFf10
import Derived.Test.YtdelkdlegokbjaaFf11
import Derived.Test.YtdelkdlegokbjaaFf12
import Derived.Test.YtdelkdlegokbjaaFf13
import Derived.Test.YtdelkdlegokbjaaFf14
import Derived.Test.YtdelkdlegokbjaaFf15
import Derived.Test.YtdelkdlegokbjaaFf9
import Derived.Test.YtdelkdlegokbjaaFn0
import Derived.Test.YtdelkdlegokbjaaFs0
import Derived.Test.YtdelkdlegokbjaaPuThr
set_option linter.unusedVariables false
namespace Go.Proofs.Ytdelkdlegokbjaa.Pure
open Go.RowKit Go.Proofs.Ytdelkdlegokbjaa.Fn Go.Proofs.YtdelkdlegokbjaaW.PrintWords Go.Proofs.YtdelkdlegokbjaaW.PrintLast Go.Proofs.YtdelkdlegokbjaaW.PrintMore

abbrev Rl := S40
abbrev rl (l : List Rl) (i : Int) : Rl := rd_T40 l i
theorem ev_val {α : Type} {g : Nat → Option α} {r r' : α} (h : Ev g r) (e : r = r') : Ev g r' := e ▸ h
def starts (s p : ByteArray) : Bool := if p.size ≤ s.size then (s.extract 0 p.size).toList == p.toList else false
theorem rStarts (s p : ByteArray) : changeforgeref5_Starts.f s p = some (starts s p) := by
  unfold changeforgeref5_Starts.f starts
  by_cases h : p.size ≤ s.size
  · rw [if_pos (by omega), if_pos (by omega), if_pos (by omega), if_pos h]
    rfl
  · rw [if_neg (by omega), if_neg h]
theorem pStarts (s p : ByteArray) : strings_HasPrefix.f s p = some (starts s p) := by
  unfold strings_HasPrefix.f stringslite_HasPrefix.f starts
  by_cases h : p.size ≤ s.size
  · rw [if_pos (by omega), if_pos (by omega), if_pos (by omega), if_pos h]
    rfl
  · rw [if_neg (by omega), if_neg h]
    rfl
def pBad (l : List Rl) (i : Nat) : Prop := (i = 0 ∧ ¬ (rl l i).f0 = -1) ∨ (0 < i ∧ ¬ (0 ≤ (rl l i).f0 ∧ (rl l i).f0 < i))
def nBad (l : List Rl) (i : Nat) : Prop := (i = 0 ∧ ¬ (rl l i).f1.toList = []) ∨ 60 < (rl l i).f1.size ∨ (0 < i ∧ starts (rl l i).f1 (rl l (rl l i).f0).f1 = false)
instance (l : List Rl) (i : Nat) : Decidable (pBad l i) := by unfold pBad; infer_instance
instance (l : List Rl) (i : Nat) : Decidable (nBad l i) := by unfold nBad; infer_instance
def roleRes (l : List Rl) (i : Nat) (rest : Int × Int) : Int × Int :=
  if pBad l i then (3, i) else if nBad l i then (12, i) else if (thrFault (rl l i).f2 (rl l i).f3).1 = 0 then rest else ((thrFault (rl l i).f2 (rl l i).f3).1, i)
def rfAt (l : List Rl) : Nat → Nat → Int × Int
  | 0, _ => (0, 0)
  | d + 1, i => roleRes l i (rfAt l d (i + 1))
def rolesFault (l : List Rl) : Int × Int := if 1 ≤ l.length ∧ l.length ≤ 12 then rfAt l l.length 0 else (9, -1)
def thrRes (l : List Rl) (i : Nat) (rest : Int × Int) : Int × Int := if (thrFault (rl l i).f2 (rl l i).f3).1 = 0 then rest else ((thrFault (rl l i).f2 (rl l i).f3).1, i)

section prog
variable (l : List Rl) (i : Nat) (rest : Int × Int) (hl : l.length ≤ 12) (hi : i < l.length)
theorem pV3 (hr : Ev (fun k => roles_Validate.l0 k l l (l.length : Int) ((i + 1 : Nat) : Int)) rest) (b : Bool) (hl : l.length ≤ 12) (hi : i < l.length) :
    Ev (fun k => roles_Validate.j3 k l l (l.length : Int) i b i (rl l i).f0 (rl l i).f1 (rl l i).f2 (rl l i).f3) (if b = true then (12, (i : Int)) else thrRes l i rest) := by
  by_cases hb : b = true
  · rw [if_pos hb]
    exact Ev.step (f := fun _ => some (12, (i : Int))) (fun k => by simp only [roles_Validate.j3]; rw [if_pos hb]; rfl) (Ev.now _)
  · rw [if_neg hb]
    refine Ev.step (fun k => by simp only [roles_Validate.j3]; rw [if_neg hb]) ?_
    refine ev_bind (pThr_ev _ _) ?_
    unfold thrRes
    by_cases ht : (thrFault (rl l i).f2 (rl l i).f3).1 = 0
    · rw [if_pos ht]
      refine ev_if_neg (by rw [(thrFault_ok ht).1]; decide) ?_
      rw [succ_w (by omega)]
      exact hr
    · rw [if_neg ht]
      exact ev_if_pos ((bad_iff _).2 (fun e => ht (by rw [e]))) (ev_now fun k => rfl)
theorem pV2 (hr : Ev (fun k => roles_Validate.l0 k l l (l.length : Int) ((i + 1 : Nat) : Int)) rest) (b : Bool) (hl : l.length ≤ 12) (hi : i < l.length) (hp : ¬ b = true → ¬ pBad l i) :
    Ev (fun k => roles_Validate.j2 k l l (l.length : Int) i b i (rl l i).f0 (rl l i).f1 (rl l i).f2 (rl l i).f3) (if b = true then (3, (i : Int)) else if nBad l i then (12, (i : Int)) else thrRes l i rest) := by
  by_cases hb : b = true
  · rw [if_pos hb]
    exact Ev.step (f := fun _ => some (3, (i : Int))) (fun k => by simp only [roles_Validate.j2]; rw [if_pos hb]; rfl) (Ev.now _)
  · rw [if_neg hb]
    refine Ev.step (fun k => by simp only [roles_Validate.j2]; rw [if_neg hb]) ?_
    have J := fun b => pV3 l i rest hr b hl hi
    have hp := hp hb
    have hs : ¬ 60 < (rl l i).f1.size → (¬ (i : Int) = 0 ∨ (rl l i).f1.toList = []) → Ev (fun k => if (i : Int) > 0 then (if 0 ≤ (rl l i).f0 then (if (rl l i).f0 < (l.length : Int) then ((strings_HasPrefix.f (rl l i).f1 (rl l (rl l i).f0).f1).bind fun t => roles_Validate.j3 k l l (l.length : Int) i (!t) i (rl l i).f0 (rl l i).f1 (rl l i).f2 (rl l i).f3) else none) else none) else (roles_Validate.j3 k l l (l.length : Int) i false i (rl l i).f0 (rl l i).f1 (rl l i).f2 (rl l i).f3)) (if nBad l i then (12, (i : Int)) else thrRes l i rest) := by
      intro h60 h0
      by_cases h : 0 < i
      · have hq : 0 ≤ (rl l i).f0 ∧ (rl l i).f0 < i := by
          unfold pBad at hp
          by_cases hq : 0 ≤ (rl l i).f0 ∧ (rl l i).f0 < i
          · exact hq
          · exact absurd (Or.inr ⟨h, hq⟩) hp
        refine ev_if_pos (by omega) (ev_if_pos hq.1 (ev_if_pos (by omega) ?_))
        rw [pStarts]
        refine ev_val (J (!starts (rl l i).f1 (rl l (rl l i).f0).f1)) ?_
        by_cases hst : starts (rl l i).f1 (rl l (rl l i).f0).f1 = true
        · rw [hst, if_neg (by decide), if_neg]
          unfold nBad
          rw [hst]
          simp only [Bool.true_eq_false, and_false, or_false]
          omega
        · rw [Bool.not_eq_true] at hst
          rw [hst, if_pos (show (!false) = true from rfl), if_pos (show nBad l i from Or.inr (Or.inr ⟨h, hst⟩))]
      · refine ev_if_neg (by omega) (ev_val (J false) ?_)
        rw [if_neg (by decide), if_neg]
        unfold nBad
        rcases h0 with h0 | h0
        · omega
        · rw [h0]
          simp only [not_true_eq_false, and_false, false_or]
          omega
    by_cases h0 : (i : Int) = 0
    · refine ev_if_pos h0 ?_
      by_cases he : (rl l i).f1.toList = []
      · refine ev_if_pos he ?_
        by_cases h60 : 60 < (rl l i).f1.size
        · refine ev_if_pos (by omega) (ev_val (J true) ?_)
          rw [if_pos rfl, if_pos (show nBad l i from Or.inr (Or.inl h60))]
        · exact ev_if_neg (by omega) (hs h60 (Or.inr he))
      · refine ev_if_neg he (ev_val (J true) ?_)
        rw [if_pos rfl, if_pos (show nBad l i from Or.inl ⟨by omega, he⟩)]
    · refine ev_if_neg h0 ?_
      by_cases h60 : 60 < (rl l i).f1.size
      · refine ev_if_pos (by omega) (ev_val (J true) ?_)
        rw [if_pos rfl, if_pos (show nBad l i from Or.inr (Or.inl h60))]
      · exact ev_if_neg (by omega) (hs h60 (Or.inl h0))
end prog
theorem roleRes_pos {l : List Rl} {i : Nat} {rest : Int × Int} (b : Bool) (hb : b = true ↔ pBad l i) : (if b = true then (3, (i : Int)) else if nBad l i then (12, (i : Int)) else thrRes l i rest) = roleRes l i rest := by
  unfold roleRes thrRes
  by_cases h : pBad l i
  · rw [if_pos h, if_pos (hb.2 h)]
  · rw [if_neg h, if_neg (fun e => h (hb.1 e))]
theorem pRoles_loop (l : List Rl) (hl : l.length ≤ 12) : ∀ (d i : Nat), i + d = l.length → Ev (fun k => roles_Validate.l0 k l l (l.length : Int) i) (rfAt l d i) := by
  intro d
  induction d with
  | zero =>
    intro i hi
    exact Ev.step (f := fun _ => some (0, 0)) (fun k => by simp only [roles_Validate.l0]; rw [if_neg (by omega)]) (Ev.now _)
  | succ d ih =>
    intro i hi
    have hil : i < l.length := by omega
    refine Ev.step (fun k => by simp only [roles_Validate.l0]; rw [if_pos (by omega), if_pos (by omega), if_pos (by omega)]) ?_
    have J := fun b hp => pV2 l i _ (ih (i + 1) (by omega)) b hl hil hp
    have fin : ∀ b : Bool, (b = true ↔ pBad l i) → Ev (fun k => roles_Validate.j2 k l l (l.length : Int) i b i (rl l i).f0 (rl l i).f1 (rl l i).f2 (rl l i).f3) (rfAt l (d + 1) i) := fun b hb => ev_val (J b (fun h e => h (hb.2 e))) (roleRes_pos b hb)
    by_cases h0 : (i : Int) = 0
    · refine ev_if_pos h0 ?_
      by_cases hf : (rl l i).f0 = -1
      · refine ev_if_pos hf (ev_if_neg (by omega) (fin false ?_))
        refine ⟨fun h => Bool.noConfusion h, fun h => ?_⟩
        rcases h with h | h
        · exact absurd hf h.2
        · omega
      · refine ev_if_neg hf (fin true ?_)
        exact ⟨fun _ => Or.inl ⟨by omega, hf⟩, fun _ => rfl⟩
    · refine ev_if_neg h0 (ev_if_pos (by omega) ?_)
      by_cases hn : (rl l i).f0 < 0
      · exact ev_if_pos hn (fin true ⟨fun _ => Or.inr ⟨by omega, by omega⟩, fun _ => rfl⟩)
      · refine ev_if_neg hn (fin _ ?_)
        unfold pBad
        rw [decide_eq_true_eq]
        change (rl l i).f0 ≥ (i : Int) ↔ _
        omega
theorem pRoles_ev (l : List Rl) : Ev (fun k => roles_Validate.f k l) (rolesFault l) := by
  unfold roles_Validate.f rolesFault
  by_cases h0 : l.length = 0
  · rw [if_neg (by omega)]
    exact ev_if_pos (by omega) (Ev.step (f := fun _ => some (9, -1)) (fun k => by simp only [roles_Validate.j0]; rw [if_pos trivial]) (Ev.now _))
  · refine ev_if_neg (by omega) ?_
    by_cases h : l.length ≤ 12
    · rw [if_pos (by omega)]
      refine Ev.step (fun k => by simp only [roles_Validate.j0]; rw [if_neg (by rw [decide_eq_true_eq]; omega)]) ?_
      exact pRoles_loop l h l.length 0 (by omega)
    · rw [if_neg (by omega)]
      exact Ev.step (f := fun _ => some (9, -1)) (fun k => by simp only [roles_Validate.j0]; rw [if_pos (by rw [decide_eq_true_eq]; omega)]) (Ev.now _)
section ref
variable (l : List Rl) (i : Nat) (rest : Int × Int) (hl : l.length ≤ 12) (hi : i < l.length)
theorem rV3 (hr : Ev (fun k => changeforgeref5_RolesFault.l0 k l ((i + 1 : Nat) : Int)) rest) (b : Bool) (hl : l.length ≤ 12) (hi : i < l.length) :
    Ev (fun k => changeforgeref5_RolesFault.j2 k l i b (rl l i).f0 (rl l i).f1 (rl l i).f2 (rl l i).f3) (if b = true then (12, (i : Int)) else thrRes l i rest) := by
  by_cases hb : b = true
  · rw [if_pos hb]
    exact Ev.step (f := fun _ => some (12, (i : Int))) (fun k => by simp only [changeforgeref5_RolesFault.j2]; rw [if_pos hb]; rfl) (Ev.now _)
  · rw [if_neg hb]
    refine Ev.step (fun k => by simp only [changeforgeref5_RolesFault.j2]; rw [if_neg hb]) ?_
    refine ev_bind (rThr_ev _ _) ?_
    unfold thrRes
    by_cases ht : (thrFault (rl l i).f2 (rl l i).f3).1 = 0
    · rw [if_pos ht]
      refine ev_if_pos ht ?_
      rw [succ_w (by omega)]
      exact hr
    · rw [if_neg ht]
      exact ev_if_neg ht (ev_now fun k => rfl)
theorem rV2 (hr : Ev (fun k => changeforgeref5_RolesFault.l0 k l ((i + 1 : Nat) : Int)) rest) (b : Bool) (hl : l.length ≤ 12) (hi : i < l.length) (hp : ¬ b = true → ¬ pBad l i) :
    Ev (fun k => changeforgeref5_RolesFault.j1 k l i b (rl l i).f0 (rl l i).f1 (rl l i).f2 (rl l i).f3) (if b = true then (3, (i : Int)) else if nBad l i then (12, (i : Int)) else thrRes l i rest) := by
  by_cases hb : b = true
  · rw [if_pos hb]
    exact Ev.step (f := fun _ => some (3, (i : Int))) (fun k => by simp only [changeforgeref5_RolesFault.j1]; rw [if_pos hb]; rfl) (Ev.now _)
  · rw [if_neg hb]
    refine Ev.step (fun k => by simp only [changeforgeref5_RolesFault.j1]; rw [if_neg hb]) ?_
    have J := fun b => rV3 l i rest hr b hl hi
    have hp := hp hb
    have hs : ¬ 60 < (rl l i).f1.size → (¬ (i : Int) = 0 ∨ (rl l i).f1.toList = []) → Ev (fun k => if (i : Int) > 0 then (if 0 ≤ (rl l i).f0 then (if (rl l i).f0 < (l.length : Int) then ((changeforgeref5_Starts.f (rl l i).f1 (rl l (rl l i).f0).f1).bind fun t => changeforgeref5_RolesFault.j2 k l i (!t) (rl l i).f0 (rl l i).f1 (rl l i).f2 (rl l i).f3) else none) else none) else (changeforgeref5_RolesFault.j2 k l i false (rl l i).f0 (rl l i).f1 (rl l i).f2 (rl l i).f3)) (if nBad l i then (12, (i : Int)) else thrRes l i rest) := by
      intro h60 h0
      by_cases h : 0 < i
      · have hq : 0 ≤ (rl l i).f0 ∧ (rl l i).f0 < i := by
          unfold pBad at hp
          by_cases hq : 0 ≤ (rl l i).f0 ∧ (rl l i).f0 < i
          · exact hq
          · exact absurd (Or.inr ⟨h, hq⟩) hp
        refine ev_if_pos (by omega) (ev_if_pos hq.1 (ev_if_pos (by omega) ?_))
        rw [rStarts]
        refine ev_val (J (!starts (rl l i).f1 (rl l (rl l i).f0).f1)) ?_
        by_cases hst : starts (rl l i).f1 (rl l (rl l i).f0).f1 = true
        · rw [hst, if_neg (by decide), if_neg]
          unfold nBad
          rw [hst]
          simp only [Bool.true_eq_false, and_false, or_false]
          omega
        · rw [Bool.not_eq_true] at hst
          rw [hst, if_pos (show (!false) = true from rfl), if_pos (show nBad l i from Or.inr (Or.inr ⟨h, hst⟩))]
      · refine ev_if_neg (by omega) (ev_val (J false) ?_)
        rw [if_neg (by decide), if_neg]
        unfold nBad
        rcases h0 with h0 | h0
        · omega
        · rw [h0]
          simp only [not_true_eq_false, and_false, false_or]
          omega
    by_cases h0 : (i : Int) = 0
    · refine ev_if_pos h0 ?_
      by_cases he : (rl l i).f1.toList = []
      · refine ev_if_pos he ?_
        by_cases h60 : 60 < (rl l i).f1.size
        · refine ev_if_pos (by omega) (ev_val (J true) ?_)
          rw [if_pos rfl, if_pos (show nBad l i from Or.inr (Or.inl h60))]
        · exact ev_if_neg (by omega) (hs h60 (Or.inr he))
      · refine ev_if_neg he (ev_val (J true) ?_)
        rw [if_pos rfl, if_pos (show nBad l i from Or.inl ⟨by omega, he⟩)]
    · refine ev_if_neg h0 ?_
      by_cases h60 : 60 < (rl l i).f1.size
      · refine ev_if_pos (by omega) (ev_val (J true) ?_)
        rw [if_pos rfl, if_pos (show nBad l i from Or.inr (Or.inl h60))]
      · exact ev_if_neg (by omega) (hs h60 (Or.inl h0))
end ref
theorem rRoles_loop (l : List Rl) (hl : l.length ≤ 12) : ∀ (d i : Nat), i + d = l.length → Ev (fun k => changeforgeref5_RolesFault.l0 k l i) (rfAt l d i) := by
  intro d
  induction d with
  | zero =>
    intro i hi
    exact Ev.step (f := fun _ => some (0, 0)) (fun k => by simp only [changeforgeref5_RolesFault.l0]; rw [if_neg (by omega)]) (Ev.now _)
  | succ d ih =>
    intro i hi
    have hil : i < l.length := by omega
    refine Ev.step (fun k => by simp only [changeforgeref5_RolesFault.l0]; rw [if_pos (by omega), if_pos (by omega)]) ?_
    have J := fun b hp => rV2 l i _ (ih (i + 1) (by omega)) b hl hil hp
    have fin : ∀ b : Bool, (b = true ↔ pBad l i) → Ev (fun k => changeforgeref5_RolesFault.j1 k l i b (rl l i).f0 (rl l i).f1 (rl l i).f2 (rl l i).f3) (rfAt l (d + 1) i) := fun b hb => ev_val (J b (fun h e => h (hb.2 e))) (roleRes_pos b hb)
    by_cases h0 : (i : Int) = 0
    · refine ev_if_pos h0 ?_
      by_cases hf : (rl l i).f0 = -1
      · refine ev_if_pos hf (ev_if_neg (by omega) (fin false ?_))
        refine ⟨fun h => Bool.noConfusion h, fun h => ?_⟩
        rcases h with h | h
        · exact absurd hf h.2
        · omega
      · refine ev_if_neg hf (fin true ?_)
        exact ⟨fun _ => Or.inl ⟨by omega, hf⟩, fun _ => rfl⟩
    · refine ev_if_neg h0 (ev_if_pos (by omega) ?_)
      rw [in_eq, w64 (n := (i : Int) - 1) (by omega) (by omega)]
      refine fin _ ?_
      unfold pBad
      rw [Bool.not_eq_true', decide_eq_false_iff_not]
      change ¬ (0 ≤ (rl l i).f0 ∧ (rl l i).f0 ≤ (i : Int) - 1) ↔ _
      omega
theorem rRoles_ev (l : List Rl) (hm : l.length ≤ 9000000000000000000) : Ev (fun k => changeforgeref5_RolesFault.f k l) (rolesFault l) := by
  unfold changeforgeref5_RolesFault.f rolesFault
  rw [in_eq]
  by_cases h : 1 ≤ l.length ∧ l.length ≤ 12
  · rw [if_pos h]
    refine ev_if_pos (by rw [decide_eq_true_eq]; omega) ?_
    exact rRoles_loop l h.2 l.length 0 (by omega)
  · rw [if_neg h]
    exact ev_if_neg (by rw [decide_eq_true_eq]; omega) (ev_now fun k => rfl)
/-! ### chains -/
def pathFault (l : List Rl) (path : ByteArray) : Int × Int := if (rolesFault l).1 = 0 then (if path.toList = [] ∨ 60 < path.size then (12, -2) else (0, 0)) else rolesFault l
def chainAt (l : List Rl) (path : ByteArray) : Nat → Nat → Nat → List Nat
  | 0, _, _ => []
  | d + 1, k, cur => if (rl l k).f0 = cur ∧ starts path (rl l k).f1 = true then k :: chainAt l path d (k + 1) k else chainAt l path d (k + 1) cur
def ints (l : List Nat) : List Int := l.map (fun n : Nat => (n : Int))
def chain (l : List Rl) (path : ByteArray) : List Nat := 0 :: chainAt l path (l.length - 1) 1 0
theorem chainAt_length (l : List Rl) (path : ByteArray) : ∀ d k cur, (chainAt l path d k cur).length ≤ d := by
  intro d
  induction d with
  | zero => intro k cur; exact Nat.le_refl _
  | succ d ih =>
    intro k cur
    unfold chainAt
    split
    · rw [List.length_cons]
      have := ih (k + 1) k
      omega
    · have := ih (k + 1) cur
      omega
theorem rChain (l : List Rl) (path : ByteArray) (hl : l.length ≤ 12) : ∀ (d j i : Nat), j + d = l.length → Ev (fun k => changeforgeref5_RoleChain.l0 k l path i j) (ints (i :: chainAt l path d j i)) := by
  intro d
  induction d with
  | zero =>
    intro j i hj
    exact Ev.step (f := fun _ => some [(i : Int)]) (fun k => by simp only [changeforgeref5_RoleChain.l0]; rw [if_neg (by omega)]) (Ev.now _)
  | succ d ih =>
    intro j i hj
    refine Ev.step (fun k => by simp only [changeforgeref5_RoleChain.l0]; rw [if_pos (by omega), if_pos (by omega), rStarts, Option.bind_some, succ_w (i := j) (by omega)]) ?_
    unfold chainAt
    by_cases h0 : (rl l j).f0 = i
    · refine ev_if_pos h0 ?_
      by_cases hs : starts path (rl l j).f1 = true
      · rw [if_pos ⟨h0, hs⟩]
        refine ev_if_pos hs ?_
        simp only [Option.bind_some]
        have e : Ev (fun k => changeforgeref5_RoleChain.f k l path j) (ints (j :: chainAt l path d (j + 1) j)) := by
          refine Ev.step (fun k => by simp only [changeforgeref5_RoleChain.f]; rw [succ_w (i := j) (by omega)]) ?_
          exact ih (j + 1) j (by omega)
        refine ev_bind e (ev_if_pos ?_ (ev_now fun k => rfl))
        have := chainAt_length l path d (j + 1) j
        simp only [ints, List.map_cons, List.length_cons, List.length_map, List.length_nil]
        omega
      · rw [if_neg (fun h => hs h.2)]
        exact ev_if_neg hs (ih (j + 1) i (by omega))
    · rw [if_neg (fun h => h0 h.1)]
      exact ev_if_neg h0 (ih (j + 1) i (by omega))
theorem rChain_ev (l : List Rl) (path : ByteArray) (hl : l.length ≤ 12) (h0 : 0 < l.length) : Ev (fun k => changeforgeref5_RoleChain.f k l path 0) (ints (chain l path)) := by
  refine Ev.step (fun k => by simp only [changeforgeref5_RoleChain.f]; rw [show wrap64 ((0 : Int) + 1) = ((1 : Nat) : Int) from by rw [w64 (by omega) (by omega)]; rfl]) ?_
  exact rChain l path hl (l.length - 1) 1 0 (by omega)
theorem pChain_loop (l : List Rl) (path : ByteArray) (hl : l.length ≤ 12) : ∀ (d j : Nat) (acc : List Int) (cur : Nat), j + d = l.length → acc.length ≤ j → (∃ pre, acc = pre ++ [(cur : Int)]) →
    Ev (fun k => roles_Chain.l0 k l path acc j) (acc ++ ints (chainAt l path d j cur), 0, 0) := by
  intro d
  induction d with
  | zero =>
    intro j acc cur hj ha hp
    rw [show chainAt l path 0 j cur = [] from rfl, show ints [] = [] from rfl, List.append_nil]
    exact Ev.step (f := fun _ => some (acc, 0, 0)) (fun k => by simp only [roles_Chain.l0]; rw [if_neg (by omega)]) (Ev.now _)
  | succ d ih =>
    intro j acc cur hj ha hp
    obtain ⟨pre, hpre⟩ := hp
    have hlen : acc.length = pre.length + 1 := by rw [hpre, List.length_append, List.length_singleton]
    have hw : wrap64 ((acc.length : Int) - 1) = ((pre.length : Nat) : Int) := by rw [w64 (by omega) (by omega)]; omega
    have hlast : rd acc ((pre.length : Nat) : Int) = cur := by
      rw [rd_get acc pre.length (by omega)]
      simp only [hpre]
      rw [List.getElem_append_right (by omega)]
      simp
    refine Ev.step (fun k => by simp only [roles_Chain.l0]; rw [if_pos (by omega), if_pos (by omega), hw, if_pos (by omega), if_pos (by omega), hlast, pStarts, Option.bind_some, succ_w (i := j) (by omega)]) ?_
    unfold chainAt
    by_cases h0 : (rl l j).f0 = cur
    · refine ev_if_pos h0 ?_
      by_cases hs : starts path (rl l j).f1 = true
      · rw [if_pos ⟨h0, hs⟩]
        refine ev_if_pos hs (ev_if_pos (by omega) ?_)
        have := ih (j + 1) (acc ++ [(j : Int)]) j (by omega) (by rw [List.length_append, List.length_singleton]; omega) ⟨acc, rfl⟩
        rw [List.append_assoc] at this
        exact this
      · rw [if_neg (fun h => hs h.2)]
        exact ev_if_neg hs (ih (j + 1) acc cur (by omega) (by omega) ⟨pre, hpre⟩)
    · rw [if_neg (fun h => h0 h.1)]
      exact ev_if_neg h0 (ih (j + 1) acc cur (by omega) (by omega) ⟨pre, hpre⟩)
theorem rfAt_zero (l : List Rl) : ∀ d i, (rfAt l d i).1 = 0 → rfAt l d i = (0, 0) := by
  intro d
  induction d with
  | zero => intro i _; rfl
  | succ d ih =>
    intro i h
    unfold rfAt roleRes at h ⊢
    by_cases h1 : pBad l i
    · rw [if_pos h1] at h
      exact absurd h (by simp)
    · rw [if_neg h1] at h ⊢
      by_cases h2 : nBad l i
      · rw [if_pos h2] at h
        exact absurd h (by simp)
      · rw [if_neg h2] at h ⊢
        by_cases h3 : (thrFault (rl l i).f2 (rl l i).f3).1 = 0
        · rw [if_pos h3] at h ⊢
          exact ih _ h
        · rw [if_neg h3] at h
          exact absurd h h3
theorem rfAt_ok (l : List Rl) : ∀ d i, (rfAt l d i).1 = 0 → ∀ j, i ≤ j → j < i + d → ¬ pBad l j ∧ ¬ nBad l j ∧ (thrFault (rl l j).f2 (rl l j).f3).1 = 0 := by
  intro d
  induction d with
  | zero => intro i _ j h1 h2; omega
  | succ d ih =>
    intro i h j h1 h2
    unfold rfAt roleRes at h
    by_cases g1 : pBad l i
    · rw [if_pos g1] at h
      exact absurd h (by simp)
    · rw [if_neg g1] at h
      by_cases g2 : nBad l i
      · rw [if_pos g2] at h
        exact absurd h (by simp)
      · rw [if_neg g2] at h
        by_cases g3 : (thrFault (rl l i).f2 (rl l i).f3).1 = 0
        · rw [if_pos g3] at h
          by_cases hj : j = i
          · rw [hj]
            exact ⟨g1, g2, g3⟩
          · exact ih (i + 1) h j (by omega) (by omega)
        · rw [if_neg g3] at h
          exact absurd h g3
theorem rfAt_of (l : List Rl) : ∀ d i, (∀ j, i ≤ j → j < i + d → ¬ pBad l j ∧ ¬ nBad l j ∧ (thrFault (rl l j).f2 (rl l j).f3).1 = 0) → rfAt l d i = (0, 0) := by
  intro d
  induction d with
  | zero => intro i _; rfl
  | succ d ih =>
    intro i h
    obtain ⟨g1, g2, g3⟩ := h i (by omega) (by omega)
    unfold rfAt roleRes
    rw [if_neg g1, if_neg g2, if_pos g3]
    exact ih (i + 1) (fun j h1 h2 => h j (by omega) (by omega))
theorem rolesFault_ok {l : List Rl} (h : (rolesFault l).1 = 0) : rolesFault l = (0, 0) ∧ 1 ≤ l.length ∧ l.length ≤ 12 ∧ ∀ j, j < l.length → ¬ pBad l j ∧ ¬ nBad l j ∧ (thrFault (rl l j).f2 (rl l j).f3).1 = 0 := by
  unfold rolesFault at h ⊢
  by_cases hl : 1 ≤ l.length ∧ l.length ≤ 12
  · rw [if_pos hl] at h ⊢
    exact ⟨rfAt_zero l _ _ h, hl.1, hl.2, fun j hj => rfAt_ok l _ _ h j (Nat.zero_le _) (by omega)⟩
  · rw [if_neg hl] at h
    exact absurd h (by decide)
theorem rolesFault_of {l : List Rl} (h1 : 1 ≤ l.length) (h2 : l.length ≤ 12) (h : ∀ j, j < l.length → ¬ pBad l j ∧ ¬ nBad l j ∧ (thrFault (rl l j).f2 (rl l j).f3).1 = 0) : rolesFault l = (0, 0) := by
  unfold rolesFault
  rw [if_pos ⟨h1, h2⟩]
  exact rfAt_of l _ _ (fun j _ hj => h j (by omega))
theorem rPath_ev (l : List Rl) (path : ByteArray) (hm : l.length ≤ 9000000000000000000) : Ev (fun k => changeforgeref5_PathFault.f k l path) (pathFault l path) := by
  unfold changeforgeref5_PathFault.f pathFault
  refine ev_bind (rRoles_ev l hm) ?_
  by_cases h : (rolesFault l).1 = 0
  · rw [if_pos h]
    refine ev_if_pos h ?_
    have e := (rolesFault_ok h).1
    by_cases he : path.toList = []
    · rw [if_pos (Or.inl he)]
      exact ev_if_pos he (Ev.step (f := fun _ => some (12, -2)) (fun k => by simp only [changeforgeref5_PathFault.j0]; rw [if_pos trivial]; rfl) (Ev.now _))
    · refine ev_if_neg he ?_
      by_cases hs : 60 < path.size
      · rw [if_pos (Or.inr hs)]
        exact Ev.step (f := fun _ => some (12, -2)) (fun k => by simp only [changeforgeref5_PathFault.j0]; rw [if_pos (by rw [decide_eq_true_eq]; omega)]; rfl) (Ev.now _)
      · rw [if_neg (fun h => h.elim he hs)]
        refine Ev.step (f := fun _ => some (0, 0)) (fun k => by simp only [changeforgeref5_PathFault.j0]; rw [if_neg (by rw [decide_eq_true_eq]; omega), e]) (Ev.now _)
  · rw [if_neg h]
    exact ev_if_neg h (Ev.step (f := fun _ => some (rolesFault l)) (fun k => by simp only [changeforgeref5_PathFault.j0]; rw [if_neg (by decide)]) (Ev.now _))
def chainRes (l : List Rl) (path : ByteArray) : List Int × Int × Int := if (pathFault l path).1 = 0 then (ints (chain l path), 0, 0) else ([], (pathFault l path).1, (pathFault l path).2)
theorem pathFault_ok {l : List Rl} {path : ByteArray} (h : (pathFault l path).1 = 0) : pathFault l path = (0, 0) ∧ (rolesFault l).1 = 0 ∧ ¬ path.toList = [] ∧ path.size ≤ 60 := by
  unfold pathFault at h ⊢
  by_cases g : (rolesFault l).1 = 0
  · rw [if_pos g] at h ⊢
    by_cases g2 : path.toList = [] ∨ 60 < path.size
    · rw [if_pos g2] at h
      exact absurd h (by decide)
    · rw [if_neg g2]
      exact ⟨rfl, g, fun e => g2 (Or.inl e), by omega⟩
  · rw [if_neg g] at h
    exact absurd h g
theorem pChain_ev (l : List Rl) (path : ByteArray) : Ev (fun k => roles_Chain.f k l path) (chainRes l path) := by
  unfold roles_Chain.f chainRes
  refine ev_bind (pRoles_ev l) ?_
  by_cases h : (rolesFault l).1 = 0
  · obtain ⟨e, h1, h2, _⟩ := rolesFault_ok h
    refine ev_if_neg (by rw [e]; exact Bool.false_ne_true) ?_
    by_cases he : path.toList = []
    · have hp : pathFault l path = (12, -2) := by unfold pathFault; rw [if_pos h, if_pos (Or.inl he)]
      rw [hp, if_neg (by decide)]
      exact ev_if_pos he (Ev.step (f := fun _ => some ([], 12, -2)) (fun k => by simp only [roles_Chain.j0]; rw [if_pos trivial]) (Ev.now _))
    · refine ev_if_neg he ?_
      by_cases hs : 60 < path.size
      · have hp : pathFault l path = (12, -2) := by unfold pathFault; rw [if_pos h, if_pos (Or.inr hs)]
        rw [hp, if_neg (by decide)]
        exact Ev.step (f := fun _ => some ([], 12, -2)) (fun k => by simp only [roles_Chain.j0]; rw [if_pos (by rw [decide_eq_true_eq]; omega)]) (Ev.now _)
      · have hp : pathFault l path = (0, 0) := by unfold pathFault; rw [if_pos h, if_neg (fun h => h.elim he hs)]
        rw [hp, if_pos rfl]
        refine Ev.step (fun k => by simp only [roles_Chain.j0]; rw [if_neg (by rw [decide_eq_true_eq]; omega)]) ?_
        exact pChain_loop l path h2 (l.length - 1) 1 [0] 0 (by omega) (by simp) ⟨[], rfl⟩
  · have hp : pathFault l path = rolesFault l := by unfold pathFault; rw [if_neg h]
    rw [hp, if_neg h]
    exact ev_if_pos ((bad_iff _).2 (fun e => h (by rw [e]))) (Ev.now _)
/-- The chain's last role. -/
def lastAt (l : List Rl) (path : ByteArray) : Nat := (chain l path).getLast (by unfold chain; exact List.cons_ne_nil _ _)
theorem chain_last (l : List Rl) (path : ByteArray) : rd (ints (chain l path)) (((ints (chain l path)).length : Int) - 1) = lastAt l path := by
  have hn : chain l path ≠ [] := by unfold chain; exact List.cons_ne_nil _ _
  have hp : 0 < (chain l path).length := List.length_pos_iff.2 hn
  have e : (((ints (chain l path)).length : Int) - 1) = (((chain l path).length - 1 : Nat) : Int) := by unfold ints; rw [List.length_map]; omega
  rw [e, rd_get _ _ (by unfold ints; rw [List.length_map]; omega)]
  unfold ints lastAt
  rw [List.getElem_map, List.getLast_eq_getElem]
theorem chain_lt (l : List Rl) (path : ByteArray) : ∀ d k cur, ∀ x ∈ chainAt l path d k cur, k ≤ x ∧ x < k + d := by
  intro d
  induction d with
  | zero => intro k cur x hx; exact absurd hx List.not_mem_nil
  | succ d ih =>
    intro k cur x hx
    unfold chainAt at hx
    split at hx
    · rcases List.mem_cons.1 hx with rfl | hx
      · omega
      · have := ih _ _ x hx
        omega
    · have := ih _ _ x hx
      omega
theorem mem_chain {l : List Rl} {path : ByteArray} (h0 : 0 < l.length) {x : Nat} (hx : x ∈ chain l path) : x < l.length := by
  unfold chain at hx
  rcases List.mem_cons.1 hx with rfl | hx
  · exact h0
  · have := chain_lt l path _ _ _ x hx
    omega
theorem lastAt_lt {l : List Rl} {path : ByteArray} (h0 : 0 < l.length) : lastAt l path < l.length := mem_chain h0 (List.getLast_mem _)
theorem chain_length (l : List Rl) (path : ByteArray) (h0 : 0 < l.length) : (chain l path).length ≤ l.length := by
  unfold chain
  rw [List.length_cons]
  have := chainAt_length l path (l.length - 1) 1 0
  omega
def ofRes (l : List Rl) (path : ByteArray) : Int × Int × Int := if (pathFault l path).1 = 0 then ((lastAt l path : Int), 0, 0) else (0, (pathFault l path).1, (pathFault l path).2)
theorem pOf_ev (l : List Rl) (path : ByteArray) : Ev (fun k => roles_Of.f k l path) (ofRes l path) := by
  unfold roles_Of.f ofRes
  refine ev_bind (pChain_ev l path) ?_
  unfold chainRes
  by_cases h : (pathFault l path).1 = 0
  · obtain ⟨e, hr, _, _⟩ := pathFault_ok h
    obtain ⟨_, h1, h2, _⟩ := rolesFault_ok hr
    have hc := chain_length l path (by omega)
    have hp : 0 < (chain l path).length := by unfold chain; rw [List.length_cons]; omega
    have hil : (ints (chain l path)).length = (chain l path).length := by unfold ints; rw [List.length_map]
    rw [if_pos h, if_pos h]
    refine ev_if_neg (by exact Bool.false_ne_true) ?_
    dsimp only
    rw [w64 (n := ((ints (chain l path)).length : Int) - 1) (by omega) (by omega), chain_last]
    exact ev_if_pos (by omega) (ev_if_pos (by omega) (Ev.now _))
  · rw [if_neg h, if_neg h]
    exact ev_if_pos ((bad_iff (pathFault l path)).2 (fun e => h (by rw [e]))) (Ev.now _)
def authRes (l : List Rl) (path : ByteArray) (data : List Int) (sigs : List Sg) : Bool × Int × Int :=
  if (pathFault l path).1 = 0 then acceptRes (rl l (lastAt l path)).f2 (rl l (lastAt l path)).f3 data sigs else (false, (pathFault l path).1, (pathFault l path).2)
theorem pAuth_ev (l : List Rl) (path : ByteArray) (data : List Int) (sigs : List Sg) (hd : isByte data) : Ev (fun k => roles_Authorized.f k l path data sigs) (authRes l path data sigs) := by
  unfold roles_Authorized.f authRes
  refine ev_bind (pOf_ev l path) ?_
  unfold ofRes
  by_cases h : (pathFault l path).1 = 0
  · obtain ⟨e, hr, _, _⟩ := pathFault_ok h
    obtain ⟨_, h1, h2, _⟩ := rolesFault_ok hr
    have hlt := lastAt_lt (l := l) (path := path) (by omega)
    rw [if_pos h, if_pos h]
    refine ev_if_neg (by exact Bool.false_ne_true) (ev_if_pos (by omega) (ev_if_pos (by omega) ?_))
    exact ev_bind (pAccept_ev _ _ _ _ hd) (Ev.now _)
  · rw [if_neg h, if_neg h]
    exact ev_if_pos ((bad_iff (pathFault l path)).2 (fun e => h (by rw [e]))) (Ev.now _)
theorem lIn (a b c : Int) : changeforgelaw5_in.f a b c = some (decide (b ≤ a ∧ a ≤ c)) := by
  unfold changeforgelaw5_in.f
  by_cases h : a ≥ b
  · rw [if_pos h]
    congr 1
    rw [decide_eq_decide]
    omega
  · rw [if_neg h]
    congr 1
    symm
    rw [decide_eq_false_iff_not]
    omega
theorem last_or (cur : Nat) (c : List Nat) : (cur :: c).getLast (List.cons_ne_nil _ _) = cur ∨ (cur :: c).getLast (List.cons_ne_nil _ _) ∈ c := by
  cases c with
  | nil => exact Or.inl rfl
  | cons x c =>
    refine Or.inr ?_
    rw [List.getLast_cons (List.cons_ne_nil _ _)]
    exact List.getLast_mem _
theorem last_free (l : List Rl) (path : ByteArray) : ∀ d k cur, cur < k → ∀ j, k ≤ j → j < k + d → (cur :: chainAt l path d k cur).getLast (List.cons_ne_nil _ _) < j →
    ¬ ((rl l j).f0 = ((cur :: chainAt l path d k cur).getLast (List.cons_ne_nil _ _) : Int) ∧ starts path (rl l j).f1 = true) := by
  intro d
  induction d with
  | zero => intro k cur _ j h1 h2; omega
  | succ d ih =>
    intro k cur hc j h1 h2 h3
    by_cases hm : (rl l k).f0 = cur ∧ starts path (rl l k).f1 = true
    · have e : chainAt l path (d + 1) k cur = k :: chainAt l path d (k + 1) k := by rw [chainAt, if_pos hm]
      simp only [e] at h3 ⊢
      rw [List.getLast_cons (List.cons_ne_nil _ _)] at h3 ⊢
      have hge : k ≤ (k :: chainAt l path d (k + 1) k).getLast (List.cons_ne_nil _ _) := by
        rcases last_or k (chainAt l path d (k + 1) k) with h | h
        · omega
        · have := chain_lt l path _ _ _ _ h
          omega
      exact ih (k + 1) k (by omega) j (by omega) (by omega) h3
    · have e : chainAt l path (d + 1) k cur = chainAt l path d (k + 1) cur := by rw [chainAt, if_neg hm]
      simp only [e] at h3 ⊢
      by_cases hj : j = k
      · subst hj
        rcases last_or cur (chainAt l path d (j + 1) cur) with h | h
        · rw [h]
          exact hm
        · have := chain_lt l path _ _ _ _ h
          omega
      · exact ih (k + 1) cur (by omega) j (by omega) (by omega) h3
theorem chain_free {l : List Rl} {path : ByteArray} {j : Nat} (h1 : lastAt l path < j) (h2 : j < l.length) : ¬ ((rl l j).f0 = (lastAt l path : Int) ∧ starts path (rl l j).f1 = true) :=
  last_free l path (l.length - 1) 1 0 (by omega) j (by omega) (by omega) h1
theorem chain_step (l : List Rl) (path : ByteArray) : ∀ d k cur, cur < k → ∀ i (h : i + 1 < (cur :: chainAt l path d k cur).length),
    (cur :: chainAt l path d k cur)[i] < (cur :: chainAt l path d k cur)[i + 1] ∧ (rl l ((cur :: chainAt l path d k cur)[i + 1] : Nat)).f0 = ((cur :: chainAt l path d k cur)[i] : Nat) ∧ starts path (rl l ((cur :: chainAt l path d k cur)[i + 1] : Nat)).f1 = true := by
  intro d
  induction d with
  | zero => intro k cur _ i h; simp [chainAt] at h
  | succ d ih =>
    intro k cur hc i h
    by_cases hm : (rl l k).f0 = cur ∧ starts path (rl l k).f1 = true
    · have e : chainAt l path (d + 1) k cur = k :: chainAt l path d (k + 1) k := by rw [chainAt, if_pos hm]
      simp only [e] at h ⊢
      cases i with
      | zero => exact ⟨hc, hm.1, hm.2⟩
      | succ i => exact ih (k + 1) k (by omega) i (by simpa using h)
    · have e : chainAt l path (d + 1) k cur = chainAt l path d (k + 1) cur := by rw [chainAt, if_neg hm]
      simp only [e] at h ⊢
      exact ih (k + 1) cur (by omega) i h
theorem starts_nil (s p : ByteArray) (h : p.toList = []) : starts s p = true := by
  rw [ByteArray.toList_eq] at h
  have hd : p.data = #[] := Array.toList_eq_nil_iff.1 h
  have hs : p.size = 0 := by show p.data.size = 0; rw [hd]; rfl
  unfold starts
  rw [hs, if_pos (Nat.zero_le _), ByteArray.toList_eq, ByteArray.toList_eq, hd]
  simp
end Go.Proofs.Ytdelkdlegokbjaa.Pure
