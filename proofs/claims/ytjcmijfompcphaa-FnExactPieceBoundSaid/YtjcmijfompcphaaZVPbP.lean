/- Laws that the proof stands on. -/
import Derived.Lib.SlicesCompact
set_option linter.all false
namespace Go.Proofs.Ytjcmijfompcphaa
open Go.Lib
def insU (n : Int) : List Int → List Int
  | [] => [n]
  | x :: xs => if x < n then x :: insU n xs else if x = n then x :: xs else n :: x :: xs
def colU (xs : List Int) : List Int := xs.foldl (fun l n => insU n l) []
def doneU (n : Int) (l : List Int) : Bool := l.any (fun x => decide (n ≤ x))
def putU (n : Int) (l : List Int) : List Int := if doneU n l then insU n l else l
theorem doneU_app (n : Int) (l : List Int) (x : Int) : doneU n (l ++ [x]) = (doneU n l || decide (n ≤ x)) := by simp [doneU]
theorem insU_done {n : Int} (r : List Int) : ∀ {l : List Int}, doneU n l = true → insU n (l ++ r) = insU n l ++ r
  | [], h => by simp [doneU] at h
  | x :: xs, h => by
    unfold doneU at h; rw [List.any_cons, Bool.or_eq_true, decide_eq_true_eq] at h; rw [List.cons_append, insU, insU]; by_cases h1 : x < n
    · rw [if_pos h1, if_pos h1, insU_done r (l := xs) (h.resolve_left (by omega))]; rfl
    · rw [if_neg h1, if_neg h1]; by_cases h2 : x = n
      · rw [if_pos h2, if_pos h2]; rfl
      · rw [if_neg h2, if_neg h2]; rfl
theorem insU_miss {n : Int} (r : List Int) : ∀ {l : List Int}, doneU n l = false → insU n (l ++ r) = l ++ insU n r
  | [], _ => rfl
  | x :: xs, h => by unfold doneU at h; rw [List.any_cons, Bool.or_eq_false_iff, decide_eq_false_iff_not] at h; rw [List.cons_append, insU, if_pos (by omega), insU_miss r h.2]; rfl
theorem putU_done {n x : Int} {l : List Int} (h : doneU n l = true) : putU n (l ++ [x]) = putU n l ++ [x] := by unfold putU; rw [doneU_app, h, Bool.true_or, if_pos rfl, if_pos rfl, insU_done _ h]
theorem putU_lt {n x : Int} {l : List Int} (h : doneU n l = false) (hx : x < n) : putU n (l ++ [x]) = putU n l ++ [x] := by unfold putU; rw [doneU_app, h, Bool.false_or, decide_eq_false (by omega)]; rfl
theorem putU_eq {n x : Int} {l : List Int} (h : doneU n l = false) (hx : x = n) : putU n (l ++ [x]) = putU n l ++ [x] := by unfold putU; rw [doneU_app, h, Bool.false_or, decide_eq_true (by omega), if_pos rfl, insU_miss _ h, insU, if_neg (by omega), if_pos hx]; rfl
theorem putU_gt {n x : Int} {l : List Int} (h : doneU n l = false) (hx : n < x) : putU n (l ++ [x]) = putU n l ++ [n] ++ [x] := by unfold putU; rw [doneU_app, h, Bool.false_or, decide_eq_true (by omega), if_pos rfl, insU_miss _ h, insU, if_neg (by omega), if_neg (by omega)]; simp
theorem putU_end {n : Int} {l : List Int} (h : doneU n l = false) : putU n l ++ [n] = insU n l := by have := insU_miss [] h; rw [List.append_nil] at this; rw [this]; unfold putU; rw [h]; rfl
theorem putU_all {n : Int} {l : List Int} (h : doneU n l = true) : putU n l = insU n l := by unfold putU; rw [h]; rfl
theorem putU_len (n : Int) (l : List Int) : (insU n l).length ≤ l.length + 1 := by
  induction l with
  | nil => simp [insU]
  | cons x xs ih => rw [insU]; (repeat' split) <;> simp only [List.length_cons] <;> omega
theorem insU_mem {n y : Int} : ∀ {l : List Int}, y ∈ insU n l ↔ y = n ∨ y ∈ l
  | [] => by simp [insU]
  | x :: xs => by
    rw [insU]; split
    · rw [List.mem_cons, insU_mem, List.mem_cons]; constructor
      · rintro (h | h | h)
        · exact .inr (.inl h)
        · exact .inl h
        · exact .inr (.inr h)
      · rintro (h | h | h)
        · exact .inr (.inl h)
        · exact .inl h
        · exact .inr (.inr h)
    · split
      · next h => rw [List.mem_cons]; constructor
                  · intro h'; exact .inr h'
                  · rintro (h' | h')
                    · exact .inl (by omega)
                    · exact h'
      · rw [List.mem_cons, List.mem_cons]
theorem insU_up {n : Int} : ∀ {l : List Int}, l.Pairwise (· < ·) → (insU n l).Pairwise (· < ·)
  | [], _ => by simp [insU]
  | x :: xs, h => by
    obtain ⟨h1, h2⟩ := List.pairwise_cons.1 h; rw [insU]; split
    · next hx =>
      refine List.pairwise_cons.2 ⟨fun y hy => ?_, insU_up h2⟩; rcases insU_mem.1 hy with rfl | hy
      · exact hx
      · exact h1 y hy
    · split
      · exact h
      · next h3 h4 =>
        refine List.pairwise_cons.2 ⟨fun y hy => ?_, h⟩; rcases List.mem_cons.1 hy with rfl | hy
        · omega
        · have := h1 y hy; omega
theorem colU_ok : ∀ (xs l : List Int), l.Pairwise (· < ·) → (xs.foldl (fun l n => insU n l) l).Pairwise (· < ·) ∧ ∀ y, y ∈ xs.foldl (fun l n => insU n l) l ↔ y ∈ xs ∨ y ∈ l
  | [], l, h => ⟨h, fun y => by simp⟩
  | x :: xs, l, h => by
    obtain ⟨h1, h2⟩ := colU_ok xs (insU x l) (insU_up h); refine ⟨h1, fun y => ?_⟩; rw [List.foldl_cons, h2 y, insU_mem, List.mem_cons]; constructor
    · rintro (h | h | h)
      · exact .inl (.inr h)
      · exact .inl (.inl h)
      · exact .inr h
    · rintro ((h | h) | h)
      · exact .inr (.inl h)
      · exact .inl h
      · exact .inr (.inr h)
theorem colU_next (xs : List Int) (n : Int) : colU (xs ++ [n]) = insU n (colU xs) := by simp [colU]
theorem colU_len (xs : List Int) : (colU xs).length ≤ xs.length := by
  have : ∀ (xs l : List Int), (xs.foldl (fun l n => insU n l) l).length ≤ l.length + xs.length := by
    intro xs; induction xs with
    | nil => intro l; simp
    | cons x xs ih => intro l; have h1 := ih (insU x l); have h2 := putU_len x l; simp only [List.foldl_cons, List.length_cons]; omega
  simpa [colU] using this xs []
theorem compUp (d : Array Int) (hs : ∀ i j, i < j → j < d.size → d[i]! ≤ d[j]!) : ∀ m, m ≤ d.size → (compactUpTo d m).Pairwise (· < ·) ∧ (∀ y, y ∈ compactUpTo d m → ∃ j, j < m ∧ y = d[j]!) ∧ ∀ j, j < m → d[j]! ∈ compactUpTo d m
  | 0, _ => ⟨by simp [compactUpTo], fun y hy => by simp [compactUpTo] at hy, fun j hj => absurd hj (by omega)⟩
  | m + 1, hm => by
    obtain ⟨h1, h2, h3⟩ := compUp d hs m (by omega); rw [compactUpTo_succ]; cases hk : keeps d m with
    | true =>
      rw [if_pos rfl]; refine ⟨List.pairwise_append.2 ⟨h1, by simp, fun y hy z hz => ?_⟩, fun y hy => ?_, fun j hj => ?_⟩
      · rw [List.mem_singleton] at hz; subst hz; obtain ⟨j, hj, rfl⟩ := h2 y hy; have h4 := hs j m hj (by omega); have h5 : d[m]! ≠ d[m - 1]! := by intro e; rw [keeps_neg (by omega) e] at hk; cases hk
        by_cases hjm : j = m - 1
        · rw [hjm] at h4 ⊢; omega
        · have h6 := hs j (m - 1) (by omega) (by omega); have h7 := hs (m - 1) m (by omega) (by omega); omega
      · rcases List.mem_append.1 hy with hy | hy
        · obtain ⟨j, hj, e⟩ := h2 y hy; exact ⟨j, by omega, e⟩
        · exact ⟨m, by omega, List.mem_singleton.1 hy⟩
      · by_cases hjm : j = m
        · rw [hjm]; simp
        · exact List.mem_append_left _ (h3 j (by omega))
    | false =>
      rw [if_neg (by simp), List.append_nil]; refine ⟨h1, fun y hy => ?_, fun j hj => ?_⟩
      · obtain ⟨j, hj, e⟩ := h2 y hy; exact ⟨j, by omega, e⟩
      · by_cases hjm : j = m
        · have h0 : 0 < m := by
            rcases Nat.eq_zero_or_pos m with h0 | h0
            · rw [h0, keeps_lt_one d 0 (by omega)] at hk; cases hk
            · exact h0
          have e : d[m]! = d[m - 1]! := by
            by_cases e : d[m]! = d[m - 1]!
            · exact e
            · rw [keeps_pos e] at hk; cases hk
          rw [hjm, e]; exact h3 (m - 1) (by omega)
        · exact h3 j (by omega)
theorem nodup_up {l : List Int} (h : l.Pairwise (· < ·)) : l.Nodup := h.imp (fun h => by omega)
theorem comp_len (xs : List Int) : (compact (xs.mergeSort fun x y => decide (x ≤ y))).length = (colU xs).length := by
  have hp := List.mergeSort_perm xs (fun x y => decide (x ≤ y)); have hso : (xs.mergeSort fun x y => decide (x ≤ y)).Pairwise (fun a b => decide (a ≤ b) = true) := List.pairwise_mergeSort (fun a b c h1 h2 => by simp at *; omega) (fun a b => by simp; omega) xs; generalize (xs.mergeSort fun x y => decide (x ≤ y)) = ys at *; have hs : ∀ i j, i < j → j < ys.toArray.size → ys.toArray[i]! ≤ ys.toArray[j]! := fun i j hij hj => by have hj' : j < ys.length := (by simpa using hj); have := List.pairwise_iff_getElem.1 hso i j (by omega) hj' hij; rw [decide_eq_true_eq] at this; rw [getElem!_pos ys.toArray i (by simp; omega), getElem!_pos ys.toArray j hj]; simpa using this
  obtain ⟨h1, h2, h3⟩ := compUp ys.toArray hs ys.length (by simp); obtain ⟨k1, k2⟩ := colU_ok xs [] List.Pairwise.nil; refine ((List.perm_ext_iff_of_nodup (nodup_up h1) (nodup_up k1)).2 (fun y => ?_)).length_eq; rw [k2 y]; constructor
  · intro hy; obtain ⟨j, hj, rfl⟩ := h2 y hy; refine .inl (hp.mem_iff.1 ?_); rw [getElem!_pos ys.toArray j (by simpa using hj)]; simp
  · rintro (hy | hy)
    · obtain ⟨j, hj, e⟩ := List.mem_iff_getElem.1 (hp.mem_iff.2 hy); have := h3 j hj; rw [getElem!_pos ys.toArray j (by simpa using hj)] at this; simpa [e] using this
    · cases hy
end Go.Proofs.Ytjcmijfompcphaa
