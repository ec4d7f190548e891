/- Laws that the proof stands on. -/
import Derived.Test.YtlmkgjigldmbaaaDoorZVBldW
import Derived.Test.YtlmkgjigldmbaaaDoorZg15
import Derived.Test.YtlmkgjigldmbaaaDoorZVTab
set_option linter.all false
namespace Go.Proofs.YtlmkgjigldmbaaaDoor
open Go.RowKit Go.V
attribute [local go_sem] List.getElem?_cons_succ List.getElem?_cons_zero List.set_cons_succ List.set_cons_zero List.map_cons List.map_nil List.length_cons List.length_nil List.all_cons List.all_nil List.drop_succ_cons List.drop_zero List.take_succ_cons List.take_zero List.flatMap_cons List.flatMap_nil List.cons_append List.nil_append List.append_nil List.headD_cons Value.oneCell' Bool.and_true Bool.true_and Bool.or_false Bool.false_or Bool.and_self Bool.not_true Bool.not_false and_true true_and beq_self_eq_true Bool.false_eq_true if_true if_false Nat.zero_add Nat.reduceAdd Nat.reduceMul Nat.reduceLeDiff Nat.le_refl Option.isSome_some Option.isSome_none not_true_eq_false not_false_eq_true ne_eq reduceCtorEq List.reverse_nil bne_self_eq_false Nat.reduceEqDiff List.isPrefixOf Bool.not_eq_true Bool.and_false Bool.false_and Bool.true_or Bool.or_true decide_true decide_false Nat.reduceBEq Nat.reduceBNe List.replicate_succ List.replicate_zero exists_eq_left' exists_eq_left Option.some.injEq or_false or_true true_or false_or Option.map_some Option.map_none mB Nat.reduceMod Nat.reduceDiv
set_option maxRecDepth 100000
def cSp : ByteArray := ⟨⟨[32]⟩⟩
def cNl : ByteArray := ⟨⟨[10]⟩⟩
def lineB (ws : List ByteArray) : ByteArray := joinB ws cSp ++ cNl
theorem ba_ext {a b : ByteArray} (h : a.data.toList = b.data.toList) : a = b := by apply ByteArray.ext; apply Array.ext'; exact h
theorem lineB_data (w : ByteArray) (ws : List ByteArray) : (lineB (w :: ws)).data.toList = w.data.toList ++ (ws.map fun x => (32 : UInt8) :: x.data.toList).flatten ++ [10] := by unfold lineB joinB cSp cNl; rw [List.map_cons, Lib.join_cons]; unfold Lib.joinTail; simp [List.map_map, Function.comp_def]
theorem sum_le {ws : List ByteArray} {n : Nat} (h : ∀ x, x ∈ ws → x.size ≤ n) : (ws.map fun x => x.size + 1).sum ≤ (n + 1) * ws.length := by
  induction ws with
  | nil => simp
  | cons x ws ih => have h1 := h x (by simp); have h2 := ih (fun y hy => h y (by simp [hy])); simp only [List.map_cons, List.sum_cons, List.length_cons]; rw [Nat.mul_add, Nat.mul_one]; omega
theorem lineB_size (w : ByteArray) (ws : List ByteArray) : (lineB (w :: ws)).size = w.size + (ws.map fun x => x.size + 1).sum + 1 := by have h : (lineB (w :: ws)).size = (lineB (w :: ws)).data.toList.length := (by rw [Array.length_toList]; rfl); have hw : w.data.toList.length = w.size := (by rw [Array.length_toList]; rfl); rw [h, lineB_data, List.length_append, List.length_append, hw, List.length_flatten, List.map_map]; have e : (List.length ∘ fun x : ByteArray => (32 : UInt8) :: x.data.toList) = fun x => x.size + 1 := (by funext x; show ((32 : UInt8) :: x.data.toList).length = _; rw [List.length_cons, Array.length_toList]; rfl); rw [e]; rfl
theorem lineB_le {w : ByteArray} {ws : List ByteArray} {n : Nat} (h0 : w.size ≤ n) (h : ∀ x, x ∈ ws → x.size ≤ n) : (lineB (w :: ws)).size ≤ (n + 1) * (ws.length + 1) := by rw [lineB_size]; have := sum_le h; rw [Nat.mul_add, Nat.mul_one]; omega
theorem add_step (a b : ByteArray) {n m : Nat} (ha : a.size ≤ n) (hb : b.size ≤ m) (h : n + m ≤ 1000000000) : ∃ c, a ++ b = c ∧ c.size ≤ n + m ∧ (a.size + b.size ≤ maxLen) = True := by
  refine ⟨a ++ b, rfl, ?_, eq_true ?_⟩
  · have : (a ++ b).size = a.size + b.size := (by simp); omega
  · unfold maxLen; omega
theorem add_lit (a : ByteArray) (l : List UInt8) {n m : Nat} (ha : a.size ≤ n) (hb : l.length ≤ m) (h : n + m ≤ 1000000000) : ∃ c, a ++ ⟨⟨l⟩⟩ = c ∧ c.size ≤ n + m ∧ (a.size + (Array.mk l).size ≤ maxLen) = True :=
  add_step a ⟨⟨l⟩⟩ ha hb h
end Go.Proofs.YtlmkgjigldmbaaaDoor
