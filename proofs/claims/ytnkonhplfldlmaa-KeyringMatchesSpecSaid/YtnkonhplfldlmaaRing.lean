/- Keyrings: what the events say, by scanning them (plain), and when a map of the call's own holds just that (own work). No condition but what each states. -/
import Derived.Test.YtnkonhplfldlmaaFs0
import Derived.Test.YtnkonhplfldlmaaPtrMap
import Derived.Test.YtnkonhplfldlmaaClos
import Derived.Maps.OwnOps
namespace Go.Proofs.Ytnkonhplfldlmaa.Fn
open Go Go.Maps Go.RowKit Go.Proofs.YtnkonhplfldlmaaW.PrintWords Go.Proofs.YtnkonhplfldlmaaW.PrintLast Go.Proofs.YtnkonhplfldlmaaW.PrintMore Go.Proofs.Ytnkonhplfldlmaa.PtrMap
set_option linter.unusedVariables false
/-- The time of the first event of one kind for a key, or -1. -/
def kt : List S45 → Int → Int → Int
  | [], _, _ => -1
  | e :: r, key, kind => if e.f0 = kind ∧ e.f1 = key then e.f3 else kt r key kind
/-- The user of a key, or -1. -/
def ow : List S45 → Int → Int
  | [], _ => -1
  | e :: r, key => if e.f0 = 1 ∧ e.f1 = key then e.f2 else ow r key
/-- The fault of event e behind the events p. -/
def ef (p : List S45) (e : S45) : Int :=
  if ¬ (e.f0 = 1 ∨ e.f0 = 2) then 4
  else if ¬ (1 ≤ e.f1 ∧ e.f1 ≤ 1000000000) ∨ ¬ (0 ≤ e.f2 ∧ e.f2 ≤ 7) ∨ ¬ (0 ≤ e.f3 ∧ e.f3 ≤ 100000) then 3
  else if e.f0 = 2 ∧ e.f2 ≠ 0 ∨ 0 < p.length ∧ e.f3 < (rd_T45 p ((p.length : Int) - 1)).f3 then 5
  else if e.f0 = 1 ∧ 0 ≤ kt p e.f1 1 then 7
  else if e.f0 = 2 ∧ kt p e.f1 1 < 0 then 6
  else if e.f0 = 2 ∧ 0 ≤ kt p e.f1 2 then 11
  else 0
/-- The first fault of the events r behind the events p. -/
def rf : List S45 → List S45 → Int × Int
  | _, [] => (0, 0)
  | p, e :: r => if ef p e = 0 then rf (p ++ [e]) r else (ef p e, (p.length : Int))
def ringFault (l : List S45) : Int × Int := if (l.length : Int) > 40 then (2, -1) else rf [] l
def keyValid (l : List S45) (key time : Int) : Bool := decide (kt l key 1 ≥ 0 ∧ kt l key 1 ≤ time ∧ (kt l key 2 < 0 ∨ time < kt l key 2))
def ins (x : Int) : List Int → List Int
  | [] => [x]
  | y :: r => if x ≤ y then x :: y :: r else y :: ins x r
def isort : List Int → List Int
  | [] => []
  | x :: r => ins x (isort r)
def userKeys (l : List S45) (user time : Int) : List Int :=
  isort ((l.filter fun e => decide (e.f0 = 1 ∧ e.f2 = user) && keyValid l e.f1 time).map S45.f1)
/-- Every event's key is a number of the machine. -/
def keysWf (l : List S45) : Bool := l.all fun e => decide (-9223372036854775808 ≤ e.f1 ∧ e.f1 ≤ 9223372036854775807)
theorem kt_app {p : List S45} {x k : Int} (q : List S45) (h : 0 ≤ kt p x k) : kt (p ++ q) x k = kt p x k := by
  induction p with
  | nil => exact absurd h (by simp [kt])
  | cons e r ih =>
    simp only [List.cons_append, kt] at h ⊢
    split
    · rfl
    · rename_i hn
      rw [if_neg hn] at h
      exact ih h
theorem ow_app {p : List S45} {x : Int} (q : List S45) (h : 0 ≤ kt p x 1) : ow (p ++ q) x = ow p x := by
  induction p with
  | nil => exact absurd h (by simp [kt])
  | cons e r ih =>
    simp only [List.cons_append, kt, ow] at h ⊢
    split
    · rfl
    · rename_i hn
      rw [if_neg hn] at h
      exact ih h
/-- The events' times are no negative numbers. -/
def Tm (p : List S45) : Prop := ∀ e ∈ p, 0 ≤ e.f3
theorem kt_no {p : List S45} (hT : Tm p) {x k : Int} (h : kt p x k < 0) : kt p x k = -1 ∧ ∀ e ∈ p, ¬ (e.f0 = k ∧ e.f1 = x) := by
  induction p with
  | nil => exact ⟨rfl, fun _ h => by cases h⟩
  | cons e r ih =>
    simp only [kt] at h ⊢
    split
    · rename_i hc
      rw [if_pos hc] at h
      have := hT e (List.mem_cons_self ..)
      omega
    · rename_i hc
      rw [if_neg hc] at h
      obtain ⟨h1, h2⟩ := ih (fun e he => hT e (List.mem_cons_of_mem _ he)) h
      refine ⟨h1, fun e' he' => ?_⟩
      rcases List.mem_cons.1 he' with rfl | he'
      · exact hc
      · exact h2 e' he'
theorem kt_none {p : List S45} {x k : Int} (h : ∀ e ∈ p, ¬ (e.f0 = k ∧ e.f1 = x)) : kt p x k = -1 := by
  induction p with
  | nil => rfl
  | cons e r ih =>
    simp only [kt]
    rw [if_neg (h e (List.mem_cons_self ..))]
    exact ih fun e he => h e (List.mem_cons_of_mem _ he)
theorem ow_none {p : List S45} {x : Int} (h : ∀ e ∈ p, ¬ (e.f0 = 1 ∧ e.f1 = x)) : ow p x = -1 := by
  induction p with
  | nil => rfl
  | cons e r ih =>
    simp only [ow]
    rw [if_neg (h e (List.mem_cons_self ..))]
    exact ih fun e he => h e (List.mem_cons_of_mem _ he)
theorem kt_snoc_none {p : List S45} {x k : Int} (e : S45) (h : ∀ e ∈ p, ¬ (e.f0 = k ∧ e.f1 = x)) : kt (p ++ [e]) x k = if e.f0 = k ∧ e.f1 = x then e.f3 else -1 := by
  induction p with
  | nil => rfl
  | cons c r ih =>
    simp only [List.cons_append, kt]
    rw [if_neg (h c (List.mem_cons_self ..))]
    exact ih fun e he => h e (List.mem_cons_of_mem _ he)
theorem ow_snoc_none {p : List S45} {x : Int} (e : S45) (h : ∀ e ∈ p, ¬ (e.f0 = 1 ∧ e.f1 = x)) : ow (p ++ [e]) x = if e.f0 = 1 ∧ e.f1 = x then e.f2 else -1 := by
  induction p with
  | nil => rfl
  | cons c r ih =>
    simp only [List.cons_append, ow]
    rw [if_neg (h c (List.mem_cons_self ..))]
    exact ih fun e he => h e (List.mem_cons_of_mem _ he)
theorem kt_snoc {p : List S45} (hT : Tm p) (e : S45) (x k : Int) : kt (p ++ [e]) x k = if 0 ≤ kt p x k then kt p x k else if e.f0 = k ∧ e.f1 = x then e.f3 else -1 := by
  by_cases h : 0 ≤ kt p x k
  · rw [if_pos h, kt_app _ h]
  · rw [if_neg h, kt_snoc_none e (kt_no hT (by omega)).2]

/-- BLOCK b OF W IS A MAP THAT LEADS, FROM EACH KEY THAT THE EVENTS p ADDED, TO A STATE THAT SAYS WHAT p SAYS OF IT; F: the state's block. -/
structure RM (w0 W : World) (b n : Nat) (p : List S45) (F : Int → Option Nat) : Prop where
  ge : w0.heap.size ≤ b
  tm : Tm p
  map : ∃ D : DataW Unit, W.ownsMap Try.prog 3 pe b n D ∧ (∀ x, D.atKey (.int .i64 x) (.lit (.int .i64 (-1))) = .lit (.int .i64 (code (F x)))) ∧ (∀ x, Maps.has D (.int .i64 x) = (F x).isSome)
  no : ∀ x, F x = none → ∀ e ∈ p, e.f1 ≠ x
  at_ : ∀ x g, F x = some g → 0 ≤ kt p x 1 ∧ IsS71 w0 W g (ow p x) (kt p x 1) (kt p x 2)
  inj : ∀ x y g, F x = some g → F y = some g → x = y
theorem RM.lt {w0 W b n p F} (h : RM w0 W b n p F) : b < W.heap.size := by
  obtain ⟨D, hD, _⟩ := h.map
  exact hD.lt
theorem RM.ltF {w0 W b n p F} (h : RM w0 W b n p F) {x : Int} {g : Nat} (hx : F x = some g) : g < W.heap.size := (h.at_ x g hx).2.lt
theorem RM.ne {w0 W b n p F} (h : RM w0 W b n p F) {x : Int} {g : Nat} (hx : F x = some g) : b ≠ g := by
  obtain ⟨D, ⟨es, clock, hb, _⟩, _⟩ := h.map
  have h2 := (h.at_ x g hx).2.1
  rintro rfl
  rw [hb] at h2
  cases h2
/-- It stays what it is while other blocks are written and new ones are made. -/
theorem RM.grown {w0 W W1 : World} {b n p F} {row : Option Nat} (h : RM w0 W b n p F) (hg : W.grownBy W1 row) (hb : some b ≠ row) (hF : ∀ x g, F x = some g → some g ≠ row) : RM w0 W1 b n p F := by
  obtain ⟨D, hD, h1, h2⟩ := h.map
  exact ⟨h.ge, h.tm, ⟨D, hD.kept hg hb, h1, h2⟩, h.no, fun x g hx => ⟨(h.at_ x g hx).1, (h.at_ x g hx).2.grown hg (hF x g hx)⟩, h.inj⟩
theorem RM.below {w0 W W1 : World} {b n p F} (h : RM w0 W b n p F) (hw : Below W.heap.size W W1) : RM w0 W1 b n p F :=
  h.grown (grown_of_below hw none) (by simp) (by simp)
theorem RM.made (w0 W : World) (hB : Below w0.heap.size w0 W) : RM w0 (W.alloc (.map #[] 0)) W.heap.size 0 [] (fun _ => none) :=
  RM.mk hB.size (fun _ h => by cases h) ⟨.map [], World.ownsMap_made _ _ _ _, fun x => rfl, fun x => rfl⟩ (fun x _ e he => by cases he) (fun x g h => by cases h) (fun x y g h _ => by cases h)
def updF (F : Int → Option Nat) (x : Int) (g : Nat) : Int → Option Nat := fun y => if y = x then some g else F y
/-- A key added. -/
theorem RM.put {w0 W W1 : World} {b n m p F} (h : RM w0 W b n p F) {e : S45} {g : Nat} (he : e.f0 = 1) (ht : 0 ≤ e.f3) (hF : F e.f1 = none) (hs : IsS71 w0 W g e.f2 e.f3 (-1)) (hnew : ∀ x, F x ≠ some g)
    (hwf : (Lit.int .i64 e.f1).wf = true) (hgr : W.grownBy W1 (some b)) (hown : ∀ D : DataW Unit, W.ownsMap Try.prog 3 pe b n D → W1.ownsMap Try.prog 3 pe b m (D.put (.int .i64 e.f1) (.lit (.int .i64 g)))) : RM w0 W1 b m (p ++ [e]) (updF F e.f1 g) := by
  have hbg : b ≠ g := by
    obtain ⟨D, ⟨es, clock, hb, _⟩, _⟩ := h.map
    have h2 := hs.1
    rintro rfl
    rw [hb] at h2
    cases h2
  have hno := h.no _ hF
  have hT : Tm (p ++ [e]) := fun c hc => by
    rcases List.mem_append.1 hc with hc | hc
    · exact h.tm c hc
    · rw [List.mem_singleton.1 hc]
      exact ht
  obtain ⟨D, hD, h1, h2⟩ := h.map
  have hIs : Maps.IsMap D := by
    obtain ⟨es, c, _, _, _, hd⟩ := hD
    exact ⟨_, hd⟩
  have hkl : WideAt.IsKeyLit (.int .i64 e.f1) := by
    simp [WideAt.IsKeyLit]
  refine ⟨h.ge, hT, ⟨_, hown D hD, fun x => ?_, fun x => ?_⟩, fun x hx c hc => ?_, fun x g' hx => ?_, fun x y g' hx hy => ?_⟩
  · unfold updF
    by_cases hxe : x = e.f1
    · subst hxe
      rw [if_pos rfl, Maps.atKey_put_same hIs hkl]
      rfl
    · rw [if_neg hxe, Maps.atKey_put_other (fun hc => hxe (by injection hc))]
      exact h1 x
  · unfold updF
    by_cases hxe : x = e.f1
    · subst hxe
      rw [if_pos rfl, Maps.has_put_same hIs hkl]
      rfl
    · rw [if_neg hxe, Maps.has_put_other (fun hc => hxe (by injection hc))]
      exact h2 x
  · unfold updF at hx
    by_cases hxe : x = e.f1
    · rw [if_pos hxe] at hx
      cases hx
    · rw [if_neg hxe] at hx
      rcases List.mem_append.1 hc with hc | hc
      · exact h.no x hx c hc
      · rw [List.mem_singleton.1 hc]
        exact fun hh => hxe hh.symm
  · unfold updF at hx
    by_cases hxe : x = e.f1
    · rw [if_pos hxe] at hx
      injection hx with hx
      subst hx hxe
      rw [kt_snoc_none e (fun c hc hh => hno c hc hh.2), kt_snoc_none e (fun c hc hh => hno c hc hh.2), ow_snoc_none e (fun c hc hh => hno c hc hh.2), if_pos ⟨he, rfl⟩, if_pos ⟨he, rfl⟩, if_neg (by omega)]
      exact ⟨ht, hs.grown hgr (fun hc => hbg (by injection hc with hc; exact hc.symm))⟩
    · rw [if_neg hxe] at hx
      obtain ⟨k1, k2⟩ := h.at_ x g' hx
      rw [kt_app _ k1, ow_app _ k1, kt_snoc h.tm]
      refine ⟨k1, ?_⟩
      have k3 := k2.grown hgr (fun hc => h.ne hx (by injection hc with hc; exact hc.symm))
      by_cases hk : 0 ≤ kt p x 2
      · rw [if_pos hk]
        exact k3
      · rw [if_neg hk, if_neg (by omega), ← (kt_no (x := x) (k := 2) h.tm (by omega)).1]
        exact k3
  · unfold updF at hx hy
    split at hx <;> split at hy
    · omega
    · injection hx with hx
      exact absurd (hx ▸ hy) (hnew y)
    · injection hy with hy
      exact absurd (hy ▸ hx) (hnew x)
    · exact h.inj x y g' hx hy
/-- A key revoked. -/
theorem RM.revoke {w0 W : World} {b n p F} (h : RM w0 W b n p F) {e : S45} {g : Nat} (he : e.f0 = 2) (ht : 0 ≤ e.f3) (hF : F e.f1 = some g) (hr : kt p e.f1 2 < 0) :
    RM w0 (W.setCell ⟨g, 2, none⟩ (.int .i64 e.f3)) b n (p ++ [e]) F := by
  have hT : Tm (p ++ [e]) := fun c hc => by
    rcases List.mem_append.1 hc with hc | hc
    · exact h.tm c hc
    · rw [List.mem_singleton.1 hc]
      exact ht
  have hgr : W.grownBy (W.setCell ⟨g, 2, none⟩ (.int .i64 e.f3)) (some g) := ⟨rfl, rfl, rfl, by simp [World.setCell], fun k hk hne => Below.heap_setCell W ⟨g, 2, none⟩ _ k (fun hc => hne (by rw [hc]))⟩
  obtain ⟨D, hD, h1, h2⟩ := h.map
  refine ⟨h.ge, hT, ⟨D, hD.kept hgr (fun hc => h.ne hF (by injection hc)), h1, h2⟩, fun x hx c hc => ?_, fun x g' hx => ?_, h.inj⟩
  · rcases List.mem_append.1 hc with hc | hc
    · exact h.no x hx c hc
    · rw [List.mem_singleton.1 hc]
      rintro rfl
      rw [hF] at hx
      cases hx
  · obtain ⟨k1, k2⟩ := h.at_ x g' hx
    rw [kt_app _ k1, ow_app _ k1, kt_snoc h.tm]
    refine ⟨k1, ?_⟩
    by_cases hxe : x = e.f1
    · subst hxe
      rw [hF] at hx
      injection hx with hx
      subst hx
      rw [if_neg (by omega), if_pos ⟨he, rfl⟩]
      exact k2.set_2 _
    · have hne : g' ≠ g := fun hc => hxe (h.inj x e.f1 g (hc ▸ hx) hF)
      have k3 := k2.far (p := ⟨g, 2, none⟩) hne (.int .i64 e.f3)
      by_cases hk : 0 ≤ kt p x 2
      · rw [if_pos hk]
        exact k3
      · rw [if_neg hk, if_neg (by omega), ← (kt_no (x := x) (k := 2) h.tm (by omega)).1]
        exact k3
theorem int3 : Keyed Try.prog 3 := int_keyed Try.underlying3
/-- 'keys[x]', no state there. -/
theorem wp_look_none {ops : Array Oper} {rest : List Oper} {o : Oper} {a : Act} {Q : Exit → Act → World → Prop} {w0 w : World} {b n : Nat} {p : List S45} {F : Int → Option Nat} (N : Option Tmp) (hd : o.dst = N)
    (hg : o.guard = none) (m x : Operand) (hop : o.op = Op.lookup 66 m x false) (h : RM w0 w b n p F) (hm : a.eval m = .map (some b)) (key : Int) (hx : a.eval x = .int .i64 key) (hwf : (Lit.int .i64 key).wf = true) (hF : F key = none)
    (hK : wpList Try.prog ops Q rest (a.put N (.pointer none)) w) : wpList Try.prog ops Q (o :: rest) a w := by
  subst hd
  obtain ⟨D, hD, h1, h2⟩ := h.map
  refine wpList_lookup_ptr w hg m x 66 hop 3 69 int3 Try.underlying66 (by kernel_rfl) b n D hm hD _ _ hx (keyOf_int_mk Try.underlying3 hwf) ?_
  intro c hc
  rw [h1 key, hF] at hc
  have : c = none := code_inj (by injection hc with hc; injection hc with _ hc; exact hc.symm)
  subst this
  exact hK
/-- 'keys[x]', the state at block g. -/
theorem wp_look_some {ops : Array Oper} {rest : List Oper} {o : Oper} {a : Act} {Q : Exit → Act → World → Prop} {w0 w : World} {b n : Nat} {p : List S45} {F : Int → Option Nat} (N : Option Tmp) (hd : o.dst = N)
    (hg : o.guard = none) (m x : Operand) (hop : o.op = Op.lookup 66 m x false) (h : RM w0 w b n p F) (hm : a.eval m = .map (some b)) (key : Int) (hx : a.eval x = .int .i64 key) (hwf : (Lit.int .i64 key).wf = true) {g : Nat} (hF : F key = some g)
    (hK : wpList Try.prog ops Q rest (a.put N (.pointer (some ⟨g, 0, none⟩))) w) : wpList Try.prog ops Q (o :: rest) a w := by
  subst hd
  obtain ⟨D, hD, h1, h2⟩ := h.map
  refine wpList_lookup_ptr w hg m x 66 hop 3 69 int3 Try.underlying66 (by kernel_rfl) b n D hm hD _ _ hx (keyOf_int_mk Try.underlying3 hwf) ?_
  intro c hc
  rw [h1 key, hF] at hc
  have : c = some g := code_inj (by injection hc with hc; injection hc with _ hc; exact hc.symm)
  subst this
  exact hK
/-- 'keys[e.Key] = &state{..}'. -/
theorem wp_put {ops : Array Oper} {rest : List Oper} {o : Oper} {a : Act} {Q : Exit → Act → World → Prop} {w0 w : World} {b n : Nat} {p : List S45} {F : Int → Option Nat}
    (hd : o.dst = none) (hg : o.guard = none) (m x v : Operand) (hop : o.op = Op.mapUpdate 66 m x v) (h : RM w0 w b n p F) (hn : n < 1000) (hm : a.eval m = .map (some b)) (e : S45) (hx : a.eval x = .int .i64 e.f1) (g : Nat) (hv : a.eval v = .pointer (some ⟨g, 0, none⟩))
    (he : e.f0 = 1) (ht : 0 ≤ e.f3) (hF : F e.f1 = none) (hs : IsS71 w0 w g e.f2 e.f3 (-1)) (hnew : ∀ x, F x ≠ some g) (hwf : (Lit.int .i64 e.f1).wf = true)
    (hK : ∀ w', RM w0 w' b (n + 1) (p ++ [e]) (updF F e.f1 g) → w.grownBy w' (some b) → wpList Try.prog ops Q rest (a.put none undef) w') : wpList Try.prog ops Q (o :: rest) a w := by
  refine wpList_plain hg fun K' hK' => ?_
  obtain ⟨D, hD, h1, h2⟩ := h.map
  obtain ⟨w', hrun, r1, r2⟩ := hD.update int3 Try.underlying66 (by unfold maxLen; omega) (keyOf_int_mk Try.underlying3 hwf) (pe_ptr (some g))
  have hR : RM w0 w' b (n + 1) (p ++ [e]) (updF F e.f1 g) := by
    refine h.put he ht hF hs hnew hwf r2 fun D' hD' => ?_
    obtain ⟨es, c, hb, _, _, rfl⟩ := hD
    obtain ⟨es', c', hb', _, _, rfl⟩ := hD'
    rw [hb] at hb'
    injection hb' with hb'
    injection hb' with e1 e2
    subst e1
    exact r1
  unfold Oper.wp
  simp only [ptr, Option.map_some] at hrun
  simp [execOp, hop, hm, hx, hv, hrun, Result.andThen]
  exact hK' _ _ (hd ▸ hK w' hR r2)
end Go.Proofs.Ytnkonhplfldlmaa.Fn
