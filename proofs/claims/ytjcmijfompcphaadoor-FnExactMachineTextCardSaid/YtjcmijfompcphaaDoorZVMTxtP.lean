/- Laws that the proof stands on. -/
import Derived.Test.YtjcmijfompcphaaDoorZVLine
import Derived.Test.YtjcmijfompcphaaDoorZg15
set_option linter.all false
namespace Go.Proofs.YtjcmijfompcphaaDoor
open Go.RowKit Go.V
set_option maxRecDepth 100000
def wMachine : ByteArray := ⟨⟨[109, 97, 99, 104, 105, 110, 101]⟩⟩
def wMove : ByteArray := ⟨⟨[109, 111, 118, 101]⟩⟩
def wEast : ByteArray := ⟨⟨[101, 97, 115, 116]⟩⟩
def wWest : ByteArray := ⟨⟨[119, 101, 115, 116]⟩⟩
def dirW (d : Int) : ByteArray := if d = 1 then wEast else wWest
def headM (m : Machine) : ByteArray := lineB [wMachine, decS m.States, decS m.Symbols]
def rowM (v : Move) : ByteArray := lineB [wMove, decS v.State, decS v.Read, decS v.Write, dirW v.Dir, decS v.Next]
def textM (m : Machine) : Nat → ByteArray
  | 0 => headM m
  | i + 1 => textM m i ++ rowM (m.Moves.getD i ⟨0, 0, 0, 0, 0⟩)
def machT (m : Machine) : ByteArray := if okMach m then textM m m.Moves.length else ⟨⟨[]⟩⟩
theorem dirW_size (d : Int) : (dirW d).size ≤ 4 := by unfold dirW; split <;> decide
theorem headM_eq (a b : ByteArray) : ((((⟨⟨[109, 97, 99, 104, 105, 110, 101, 32]⟩⟩ ++ a) ++ ⟨⟨[32]⟩⟩) ++ b) ++ ⟨⟨[10]⟩⟩ : ByteArray) = lineB [wMachine, a, b] := by apply ba_ext; rw [lineB_data]; simp [wMachine]
theorem rowM_eq (a b c d e : ByteArray) : (((((((((((⟨⟨[109, 111, 118, 101, 32]⟩⟩ ++ a) ++ ⟨⟨[32]⟩⟩) ++ b) ++ ⟨⟨[32]⟩⟩) ++ c) ++ ⟨⟨[32]⟩⟩) ++ d) ++ ⟨⟨[32]⟩⟩) ++ e) ++ ⟨⟨[10]⟩⟩ : ByteArray)) = lineB [wMove, a, b, c, d, e] := by apply ba_ext; rw [lineB_data]; simp [wMove]
theorem lineM_size {a b : ByteArray} (ha : a.size ≤ 20) (hb : b.size ≤ 20) : (lineB [wMachine, a, b]).size ≤ 63 := by refine lineB_le (n := 20) (by decide) (fun x hx => ?_); simp only [List.mem_cons, List.not_mem_nil, or_false] at hx; rcases hx with rfl | rfl <;> assumption
theorem lineV_size {a b c d e : ByteArray} (ha : a.size ≤ 20) (hb : b.size ≤ 20) (hc : c.size ≤ 20) (hd : d.size ≤ 20) (he : e.size ≤ 20) : (lineB [wMove, a, b, c, d, e]).size ≤ 126 := by refine lineB_le (n := 20) (by decide) (fun x hx => ?_); simp only [List.mem_cons, List.not_mem_nil, or_false] at hx; rcases hx with rfl | rfl | rfl | rfl | rfl <;> assumption
theorem decS_sm {n : Int} (h : -1000000 ≤ n ∧ n ≤ 1000000) : (decS n).size ≤ 20 := decS_size n (by unfold InK; omega)
theorem ok_small {m : Machine} (h : okMach m = true) : (1 ≤ m.States ∧ m.States ≤ 5) ∧ (1 ≤ m.Symbols ∧ m.Symbols ≤ 4) ∧ m.Moves.length ≤ 20 ∧ ∀ v, v ∈ m.Moves → mvOk m v = true := by unfold okMach at h; simp only [Bool.and_eq_true, decide_eq_true_eq, List.all_eq_true] at h; exact ⟨inR_iff.1 h.1, inR_iff.1 h.2.1, h.2.2.1, h.2.2.2.1⟩
theorem headM_size {m : Machine} (h : okMach m = true) : (headM m).size ≤ 63 := by obtain ⟨h1, h2, _⟩ := ok_small h; exact lineM_size (decS_sm (by omega)) (decS_sm (by omega))
theorem rowM_size {m : Machine} (h : okMach m = true) {v : Move} (hv : mvOk m v = true) : (rowM v).size ≤ 126 := by obtain ⟨h1, h2, _⟩ := ok_small h; obtain ⟨k1, k2, k3, k4, _⟩ := mv_parts hv; exact lineV_size (decS_sm (by omega)) (decS_sm (by omega)) (decS_sm (by omega)) (Nat.le_trans (dirW_size _) (by omega)) (decS_sm (by omega))
theorem textM_size {m : Machine} (h : okMach m = true) : ∀ i, i ≤ m.Moves.length → (textM m i).size ≤ 63 + 126 * i
  | 0, _ => headM_size h
  | i + 1, hi => by have h1 := textM_size h i (by omega); obtain ⟨_, _, _, hv⟩ := ok_small h; have h2 := rowM_size h (hv (m.Moves.getD i ⟨0, 0, 0, 0, 0⟩) (by rw [List.getD_eq_getElem?_getD, List.getElem?_eq_getElem (by omega)]; exact List.getElem_mem _)); show (textM m i ++ rowM (m.Moves.getD i ⟨0, 0, 0, 0, 0⟩)).size ≤ _; have e : (textM m i ++ rowM (m.Moves.getD i ⟨0, 0, 0, 0, 0⟩)).size = (textM m i).size + (rowM (m.Moves.getD i ⟨0, 0, 0, 0, 0⟩)).size := (by simp); omega
theorem textM_pos (m : Machine) : ∀ i, 0 < (textM m i).size
  | 0 => by show 0 < (headM m).size; unfold headM; rw [lineB_size]; omega
  | i + 1 => by have h1 := textM_pos m i; show 0 < (textM m i ++ rowM (m.Moves.getD i ⟨0, 0, 0, 0, 0⟩)).size; have e : (textM m i ++ rowM (m.Moves.getD i ⟨0, 0, 0, 0, 0⟩)).size = (textM m i).size + (rowM (m.Moves.getD i ⟨0, 0, 0, 0, 0⟩)).size := (by simp); omega
end Go.Proofs.YtjcmijfompcphaaDoor
