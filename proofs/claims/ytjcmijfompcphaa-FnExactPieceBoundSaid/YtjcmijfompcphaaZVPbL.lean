/- Laws that the proof stands on. -/
import Derived.Test.YtjcmijfompcphaaZVB
import Derived.Test.YtjcmijfompcphaaZVPbP
import Derived.Test.YtjcmijfompcphaaZg5
import Derived.Shelf.SlicesG.CompactI
import Derived.Shelf.SortG.Plain
import Derived.Shelf.SortG.SortNone
set_option linter.all false
namespace Go.Proofs.Ytjcmijfompcphaa
open Go.V Go.RowKit
set_option maxRecDepth 100000
theorem rows_I {I : Nat → Prop} {w : World} : ∀ (xs : List Int) {rw : List Value} {F : List Nat}, Go.V.Rows I w 1 (xs.map rI) rw F → rw = xs.map (Value.int .i64) ∧ F = []
  | [], rw, F, h => by simpa [Go.V.Rows] using h
  | x :: xs, rw, F, h => by simp only [List.map_cons, Go.V.Rows, rI, Cells, T] at h; obtain ⟨us, rw', F1, F2, rfl, rfl, _, ⟨u, us', A, B, rfl, rfl, _, ⟨rfl, rfl⟩, rfl, rfl⟩, hr⟩ := h; obtain ⟨rfl, rfl⟩ := rows_I xs hr; exact ⟨rfl, rfl⟩
theorem i_rows (I : Nat → Prop) (w : World) : ∀ (xs : List Int), Go.V.Rows I w 1 (xs.map rI) (xs.map (Value.int .i64)) []
  | [] => by simp [Go.V.Rows]
  | x :: xs => by simp only [List.map_cons, Go.V.Rows]; exact ⟨[.int .i64 x], xs.map (Value.int .i64), [], [], rfl, rfl, rfl, by simp only [rI, Cells, T]; exact ⟨.int .i64 x, [], [], [], rfl, rfl, rfl, ⟨rfl, rfl⟩, rfl, rfl⟩, i_rows I w xs⟩
theorem put_heap {w : World} {b o : Nat} {d : Array Int} {cells : Array Value} {e : TypeId} {n : Nat} (os : Array Obj) (hh : w.heap[b]? = some (.cells cells e (0, 0))) :
    (Go.Sort.grow (Go.Sort.putRow (Value.int .i64) (Go.Sort.ahead w n) b o d) os).heap[b]? = some (.cells (Go.Sort.putCells (Value.int .i64) o d cells) e (0, 0)) ∧ (∀ j, j < w.heap.size → j ≠ b → (Go.Sort.grow (Go.Sort.putRow (Value.int .i64) (Go.Sort.ahead w n) b o d) os).heap[j]? = w.heap[j]?) ∧ w.heap.size ≤ (Go.Sort.grow (Go.Sort.putRow (Value.int .i64) (Go.Sort.ahead w n) b o d) os).heap.size := by
  have hb : b < w.heap.size := (Array.getElem?_eq_some_iff.1 hh).1; unfold Go.Sort.putRow Go.Sort.mapBlock Go.Sort.grow Go.Sort.ahead; refine ⟨?_, fun j hj hne => ?_, by simp⟩
  · simp only; rw [Array.getElem?_append_left (by simpa using hb), Array.getElem?_modify, if_pos rfl, hh]; rfl
  · simp only; rw [Array.getElem?_append_left (by simpa using hj), Array.getElem?_modify, if_neg (fun e => hne e.symm)]
theorem put_cell {w : World} {b o : Nat} {ys : List Int} {cells : Array Value} {e : TypeId} {c : Nat} (hh : w.heap[b]? = some (.cells (Go.Sort.putCells (Value.int .i64) o ys.toArray cells) e (0, 0))) (hc : o + c * 1 ≤ cells.size) (hy : ys.length ≤ c) (t : Nat) (v : Value) (hv : (ys.map (Value.int .i64))[t]? = some v) : w.cell? ⟨b, o + t, none⟩ = some v := by have hlt : t < ys.length := (by have := (List.getElem?_eq_some_iff.1 hv).1; simpa using this); have hin : o + t < cells.size := (by omega); unfold World.cell?; simp only [hh]; unfold Go.Sort.putCells; rw [List.getElem?_map, List.getElem?_eq_getElem hlt] at hv; simp only [Option.map_some, Option.some.injEq] at hv; subst hv; simp [hin, hlt]
theorem holds_I {w : World} {b o : Nat} {xs : List Int} {cells : Array Value} {e : TypeId} (hh : w.heap[b]? = some (.cells cells e (0, 0))) (hr : w.rangeAt b o (xs.map (Value.int .i64))) : Go.Sort.Holds (Value.int .i64) w b o xs.toArray := by
  intro j hj; have hj' : j < xs.length := by simpa using hj
  refine ⟨?_, ?_⟩
  · have := hr j (.int .i64 xs[j]) (by rw [List.getElem?_map, List.getElem?_eq_getElem hj']; rfl); rw [this, getElem!_pos xs.toArray j hj]; simp
  · unfold World.frozen?; rw [hh]; simp
theorem v_SortI (xs : List Int) (hl : xs.length ≤ 1048576) : ContractL Try.prog NoG 21 0 [.undef] (.sl true 1 (xs.map rI)) (.tup []) (.sl true 1 ((xs.mergeSort fun x y => decide (x ≤ y)).map rI)) := by
  refine ⟨fun us W => by kernel_rfl, fun w I us u X hG hI hu0 hV hT hnd hX => ?_⟩; have hus : us = [u] := by simp only [List.set_cons_zero, Vals, T] at hV; obtain ⟨u1, us', F1, F2, rfl, hF, _, rfl, _⟩ := hV; simp only [List.getElem?_cons_zero, Option.some.injEq] at hu0; rw [hu0]
  subst hus; simp only [T, List.length_map] at hT; obtain ⟨a, c, rfl, hlc, hcm, hT⟩ := hT; have hml : (xs.mergeSort fun x y => decide (x ≤ y)).length = xs.length := List.length_mergeSort xs; rcases hT with ⟨hf, _⟩ | ⟨_, ⟨rfl, rfl, rfl⟩ | ⟨b, o, cells, e, rw', F', rfl, hh, hcs, hr, rfl, hR⟩⟩
  · cases hf
  · have hx0 : xs = [] := List.length_eq_zero_iff.1 (by omega); subst hx0; refine (AnyG.slices_Sort_int_none Try.laysSortI none 0 w).mono ?_; rintro e w' ⟨rfl, rfl⟩; refine ⟨.tuple #[], [], [], I, rfl, ⟨rfl, rfl, rfl, Nat.le_refl _, fun _ _ => rfl⟩, by simp [T, Vals], ?_, by simp, (by simp), fun _ h => h, fun b hb' => ⟨.inl hb', hI b hb'⟩⟩; simp only [T, List.length_map, hml, List.length_nil]; exact ⟨none, 0, rfl, Nat.le_refl _, by unfold maxLen; omega, .inr ⟨trivial, .inl ⟨rfl, rfl, trivial⟩⟩⟩
  · obtain ⟨rfl, rfl⟩ := rows_I xs hR; have hbs : b < w.heap.size := (Array.getElem?_eq_some_iff.1 hh).1; refine (AnyG.slices_Sort_int Try.laysSortI b o c xs w (holds_I hh hr) hbs (by omega)).mono ?_; rintro e' w' ⟨rfl, n, os, rfl⟩; obtain ⟨g1, g2, g3⟩ := put_heap (o := o) (d := (xs.mergeSort fun x y => decide (x ≤ y)).toArray) (n := n) os hh; refine ⟨.tuple #[], [], [b], I, rfl, ⟨rfl, rfl, rfl, g3, fun j hj => g2 j (Nat.lt_of_not_le (fun hle => hj (.inl hle))) (fun e => hj (.inr (by simp [e])))⟩, by simp [T, Vals], ?_, by simp, fun x hx => ?_, fun _ h => h, fun b' hb' => ⟨.inl hb', Nat.lt_of_lt_of_le (hI b' hb') g3⟩⟩
    · simp only [T, List.length_map, hml]; exact ⟨some ⟨b, o, none⟩, c, rfl, hlc, hcm, .inr ⟨trivial, .inr ⟨b, o, _, e, _, [], rfl, g1, by simpa [Go.Sort.putCells] using hcs, fun t v hv => put_cell g1 hcs (by rw [hml]; exact hlc) t v hv, rfl, i_rows I _ _⟩⟩⟩
    · simp only [List.nil_append, List.mem_singleton] at hx; subst hx; exact ⟨.inr (by simp), Nat.lt_of_lt_of_le hbs g3, (hX x (by simp)).2⟩
theorem v_CompactI (xs : List Int) (hl : xs.length ≤ 1048576) : ContractL Try.prog NoG 22 0 [.undef] (.sl true 1 (xs.map rI)) (.sl false 1 ((Lib.compact xs).map rI)) .undef := by
  refine ⟨fun us W => by kernel_rfl, fun w I us u X hG hI hu0 hV hT hnd hX => ?_⟩; have hus : us = [u] := by simp only [List.set_cons_zero, Vals, T] at hV; obtain ⟨u1, us', F1, F2, rfl, hF, _, rfl, _⟩ := hV; simp only [List.getElem?_cons_zero, Option.some.injEq] at hu0; rw [hu0]
  subst hus; simp only [T, List.length_map] at hT; obtain ⟨a, c, rfl, hlc, hcm, hT⟩ := hT; have hml : (Lib.compact xs).length ≤ xs.length := by unfold Lib.compact Lib.compactUpTo; rw [List.length_map]; exact Nat.le_trans (List.length_filter_le _ _) (by simp)
  rcases hT with ⟨hf, _⟩ | ⟨_, ⟨rfl, rfl, rfl⟩ | ⟨b, o, cells, e, rw', F', rfl, hh, hcs, hr, rfl, hR⟩⟩
  · cases hf
  · have hx0 : xs = [] := List.length_eq_zero_iff.1 (by omega); subst hx0; refine (AnyG.slices_Compact_int_empty Try.laysCompactI none 0 w).mono ?_; rintro e w' ⟨rfl, rfl⟩; refine ⟨_, [], [], I, rfl, ⟨rfl, rfl, rfl, Nat.le_refl _, fun _ _ => rfl⟩, ?_, by simp [T], by simp, (by simp), fun _ h => h, fun b hb' => ⟨.inl hb', hI b hb'⟩⟩; simp only [T, List.length_map]; exact ⟨none, 0, rfl, Nat.le_refl _, by unfold maxLen; omega, .inl ⟨trivial, trivial, .inl rfl⟩⟩
  · obtain ⟨rfl, rfl⟩ := rows_I xs hR; have hbs : b < w.heap.size := (Array.getElem?_eq_some_iff.1 hh).1; refine (AnyG.slices_Compact_int Try.laysCompactI b o c xs w (holds_I hh hr) (by omega) hlc).mono ?_; rintro e' w' ⟨rfl, n, rfl⟩; obtain ⟨g1, g2, g3⟩ := put_heap (o := o) (d := (Lib.compact xs ++ List.replicate (xs.length - (Lib.compact xs).length) 0).toArray) (n := n) #[] hh; rw [Go.Sort.grow_empty] at g1 g2 g3; refine ⟨_, [], [], fun x => I x ∨ x = b, rfl, ⟨rfl, rfl, rfl, g3, fun j hj => g2 j (Nat.lt_of_not_le (fun hle => hj (.inl hle))) (fun e => hj (.inr (by simp [e])))⟩, ?_, by simp [T], by simp, (by simp), fun _ h => .inl h, fun b' hb' => ?_⟩
    · simp only [T, List.length_map]; refine ⟨some ⟨b, o, none⟩, c, rfl, by omega, hcm, .inl ⟨trivial, trivial, .inr ⟨b, o, (Lib.compact xs).map (Value.int .i64), rfl, .inr rfl, fun t v hv => put_cell g1 hcs (by simp; omega) t v ?_, i_rows _ _ _⟩⟩⟩; rw [List.map_append, List.getElem?_append_left (List.getElem?_eq_some_iff.1 hv).1]; exact hv
    · rcases hb' with hb' | rfl
      · exact ⟨.inl hb', Nat.lt_of_lt_of_le (hI b' hb') g3⟩
      · exact ⟨.inr (.inr (by simp)), Nat.lt_of_lt_of_le hbs g3⟩
end Go.Proofs.Ytjcmijfompcphaa
