/- Plain words on versions: digits, identifiers, faults, the order; strings as lists of bytes. No condition but what each states (own work). -/
import Derived.Test.YtggdbafmpmfmcaaDoorWA
set_option linter.unusedVariables false
namespace Go.Proofs.YtggdbafmpmfmcaaDoor.Fn
open Go Go.RowKit Go.Proofs.YtggdbafmpmfmcaaDoorW.PrintWords Go.Proofs.YtggdbafmpmfmcaaDoorW.PrintLast Go.Proofs.YtggdbafmpmfmcaaDoorW.PrintMore
theorem chars_loop (s : ByteArray) : ∀ (d i : Nat) (r : List UInt8), s.size - i = d → ByteArray.toList.loop s i r = r.reverse ++ s.data.toList.drop i := by
  intro d
  induction d with
  | zero =>
    intro i r h
    rw [ByteArray.toList.loop, if_neg (by omega), List.drop_of_length_le (by simp; show s.size ≤ i; omega), List.append_nil]
  | succ d ih =>
    intro i r h
    have hi : i < s.data.toList.length := by simp; show i < s.size; omega
    rw [ByteArray.toList.loop, if_pos (by omega), ih (i + 1) _ (by omega), List.reverse_cons, List.append_assoc]
    congr 1
    rw [List.drop_eq_getElem_cons hi]
    simp only [List.singleton_append, List.cons.injEq, and_true]
    show s.data[i]! = _
    rw [getElem!_pos s.data i (by simpa using hi)]
    simp
theorem chars_eq (s : ByteArray) : s.toList = s.data.toList := by
  unfold ByteArray.toList
  rw [chars_loop s s.size 0 [] (by omega)]
  simp
theorem chars_len (s : ByteArray) : s.data.toList.length = s.size := by simp
theorem chars_inj {a b : ByteArray} (h : a.data.toList = b.data.toList) : a = b := by
  cases a with | mk x => cases b with | mk y => exact congrArg ByteArray.mk (Array.toList_inj.1 h)
theorem bt_eq (s : ByteArray) (i : Nat) (h : i < s.data.toList.length) : bt s i = (s.data.toList[i].toNat : Int) := by
  unfold bt
  have h2 : i < s.size := by simpa using h
  rw [dif_pos (by simpa using h2)]
  simp
  rfl
def dgB (c : UInt8) : Bool := decide (48 ≤ c.toNat) && decide (c.toNat ≤ 57)
def numL (l : List UInt8) : Bool := !l.isEmpty && l.all dgB
def idcB (c : UInt8) : Bool := dgB c || (decide (97 ≤ c.toNat) && decide (c.toNat ≤ 122)) || (decide (65 ≤ c.toNat) && decide (c.toNat ≤ 90)) || decide (c.toNat = 45)
def canL (l : List UInt8) : Bool := l == [48] || l.head? != some 48
def identL (l : List UInt8) : Bool := decide (1 ≤ l.length) && decide (l.length ≤ 8) && l.all idcB && (!numL l || canL l)
def identB (s : ByteArray) : Bool := identL s.data.toList
def badAt : List ByteArray → Nat → Int × Int
  | [], _ => (0, 0)
  | s :: l, i => if identB s = true then badAt l (i + 1) else (5, (i : Int))
def verFault (a b c : Int) (p : List ByteArray) : Int × Int :=
  if ¬ (0 ≤ a ∧ a ≤ 1000000000) then (3, 0) else if ¬ (0 ≤ b ∧ b ≤ 1000000000) then (3, 1) else if ¬ (0 ≤ c ∧ c ≤ 1000000000) then (3, 2) else if 4 < p.length then (2, -1) else badAt p 0
def icmp (a b : Int) : Int := if a < b then -1 else if a > b then 1 else 0
def bcmp (a b : List UInt8) : Int := if Op.bytesLess a b = true then -1 else if Op.bytesLess b a = true then 1 else 0
def idCmp (a b : List UInt8) : Int :=
  if numL a = true ∧ numL b = true then (if icmp a.length b.length ≠ 0 then icmp a.length b.length else bcmp a b) else if numL a = true then -1 else if numL b = true then 1 else bcmp a b
def preCmp : List ByteArray → List ByteArray → Int
  | [], [] => 0
  | [], _ :: _ => -1
  | _ :: _, [] => 1
  | a :: l, b :: m => if idCmp a.data.toList b.data.toList ≠ 0 then idCmp a.data.toList b.data.toList else preCmp l m
def verCmp (a1 a2 a3 : Int) (p : List ByteArray) (b1 b2 b3 : Int) (q : List ByteArray) : Int :=
  if a1 ≠ b1 then icmp a1 b1 else if a2 ≠ b2 then icmp a2 b2 else if a3 ≠ b3 then icmp a3 b3 else
  if p.length = 0 ∧ q.length = 0 then 0 else if p.length = 0 then 1 else if q.length = 0 then -1 else preCmp p q
def valL (l : List UInt8) : Int := l.foldl (fun n c => 10 * n + ((c.toNat : Int) - 48)) 0
def numberOf (s : ByteArray) : Int × Bool :=
  if numL s.data.toList = true ∧ canL s.data.toList = true ∧ s.size ≤ 10 then (valL s.data.toList, decide (valL s.data.toList ≤ 1000000000)) else (0, false)
end Go.Proofs.YtggdbafmpmfmcaaDoor.Fn
