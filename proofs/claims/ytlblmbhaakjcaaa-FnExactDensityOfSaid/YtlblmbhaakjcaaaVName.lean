/- Names: what the program's and the reference's IsName compute. -/
import Derived.Test.YtlblmbhaakjcaaaVCom
set_option linter.all false
namespace Go.Proofs.Ytlblmbhaakjcaaa
open Go.RowKit Go.V
set_option maxRecDepth 100000
def isLet (c : Int) : Bool := (decide (97 ≤ c) && decide (c ≤ 122)) || (decide (65 ≤ c) && decide (c ≤ 90))
def isDig (c : Int) : Bool := decide (48 ≤ c) && decide (c ≤ 57)
/-- May a byte stand at a place of a name? -/
def chOK (i : Nat) (c : Int) : Bool := isLet c || (decide (i ≠ 0) && (isDig c || decide (c = 95)))
def chAt (s : ByteArray) (i : Nat) : Int := match s[i]? with
  | some c => (c.toNat : Int)
  | none => 0
def isNameB (s : ByteArray) : Bool := (decide (1 ≤ s.size) && decide (s.size ≤ 12)) && (List.range s.size).all (fun i => chOK i (chAt s i))
theorem name_no {s : ByteArray} {i : Nat} (hi : i < s.size) (h : chOK i (chAt s i) = false) : isNameB s = false := by
  unfold isNameB
  have : (List.range s.size).all (fun i => chOK i (chAt s i)) = false := by
    rw [List.all_eq_false]
    exact ⟨i, by simpa using hi, by simp [h]⟩
  rw [this, Bool.and_false]
theorem all_next {f : Nat → Bool} {i : Nat} (h : (List.range i).all f = true) (hi : f i = true) : (List.range (i + 1)).all f = true := by
  rw [List.range_succ, List.all_append, h]; simp [hi]
theorem byte_at {s : ByteArray} {i : Nat} (hi : i < s.size) : s[i]? = some s[i] := by
  simp [hi]
theorem chAt_some {s : ByteArray} {i : Nat} {c : UInt8} (h : s[i]? = some c) : chAt s i = (c.toNat : Int) := by unfold chAt; rw [h]
theorem chOK_let {i : Nat} {c : Int} (h : isLet c = true) : chOK i c = true := by unfold chOK; rw [h]; rfl
end Go.Proofs.Ytlblmbhaakjcaaa
