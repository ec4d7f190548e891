/- Laws that the proof stands on. -/
import Derived.Test.YtgnlikamelfmjaaZg11
set_option linter.all false
namespace Go.Proofs.Ytgnlikamelfmjaa
open Go.RowKit Go.V
def pl0 : Placed := ⟨⟨0, 0⟩, 0⟩
def dirO (j : Nat) : Nat := if j = 0 then 1 else 0
def nbr (ps : List Placed) (i d : Nat) : Int := idxA ps (stepP (ps.getD i pl0).At d)
def nbC (ps : List Placed) (i d : Nat) : List (Nat × Nat × Nat) := if 0 ≤ nbr ps i d then [(i, (nbr ps i d).toNat, d)] else []
def nbR (ps : List Placed) (i : Nat) : Nat → List (Nat × Nat × Nat)
  | 0 => []
  | j + 1 => nbR ps i j ++ nbC ps i (dirO j)
def nbI (ps : List Placed) : Nat → List (Nat × Nat × Nat)
  | 0 => []
  | i + 1 => nbI ps i ++ nbR ps i 2
def nbD (x : Nat × Nat × Nat) : List D := [.agg [.v (.int .i64 (x.1 : Int)), .v (.int .i64 (x.2.1 : Int))], .v (.int .i64 (x.2.2 : Int))]
def nbV (x : Nat × Nat × Nat) : List Value := [.agg #[.int .i64 (x.1 : Int), .int .i64 (x.2.1 : Int)], .int .i64 (x.2.2 : Int)]
theorem dirO_lt (j : Nat) : dirO j < 4 := by unfold dirO; split <;> omega
theorem nbI_pre (ps : List Placed) {m : Nat} : ∀ {n : Nat}, m ≤ n → ∃ t, nbI ps n = nbI ps m ++ t
  | 0, h => ⟨[], by rw [show m = 0 by omega]; simp⟩
  | n + 1, h => by
    by_cases hm : m = n + 1
    · exact ⟨[], by rw [hm]; simp⟩
    · obtain ⟨t, ht⟩ := nbI_pre ps (m := m) (n := n) (by omega); exact ⟨t ++ nbR ps n 2, by rw [nbI, ht, List.append_assoc]⟩
theorem nb_pre (ps : List Placed) {m n j : Nat} (hm : m < n) (hj : j < 2) : ∃ t, nbI ps n = nbI ps m ++ nbR ps m j ++ nbC ps m (dirO j) ++ t := by
  obtain ⟨t, ht⟩ := nbI_pre ps (m := m + 1) (n := n) hm; have h2 : nbI ps (m + 1) = nbI ps m ++ nbR ps m 2 := rfl; rw [h2] at ht; match j, hj with
  | 0, _ => exact ⟨nbC ps m (dirO 1) ++ t, by rw [ht]; simp [nbR, List.append_assoc]⟩
  | 1, _ => exact ⟨t, by rw [ht]; simp [nbR, List.append_assoc]⟩
theorem nb_hit (ps : List Placed) {m n j : Nat} (hm : m < n) (hj : j < 2) (h : 0 ≤ nbr ps m (dirO j)) :
    (nbI ps n)[(nbI ps m).length + (nbR ps m j).length]? = some (m, (nbr ps m (dirO j)).toNat, dirO j) := by
  obtain ⟨t, ht⟩ := nb_pre ps hm hj; rw [ht, List.append_assoc, ← List.length_append, List.getElem?_append_right (Nat.le_refl _), Nat.sub_self]; unfold nbC; rw [if_pos h]; rfl
theorem nbR_hit (ps : List Placed) {m j : Nat} (h : 0 ≤ nbr ps m (dirO j)) : (nbR ps m (j + 1)).length = (nbR ps m j).length + 1 := by rw [nbR, List.length_append]; unfold nbC; rw [if_pos h]; rfl
theorem nbR_miss (ps : List Placed) {m j : Nat} (h : ¬ 0 ≤ nbr ps m (dirO j)) : (nbR ps m (j + 1)).length = (nbR ps m j).length := by rw [nbR, List.length_append]; unfold nbC; rw [if_neg h]; rfl
theorem nbI_next (ps : List Placed) (m : Nat) : (nbI ps (m + 1)).length = (nbI ps m).length + (nbR ps m 2).length := by rw [nbI, List.length_append]
theorem idxA_lt (ps : List Placed) (p : Point) : idxA ps p < ps.length := by
  unfold idxA; split
  · next h =>
    unfold atP at h; cases hb : ps[bsA ps p]? with
    | none => rw [hb] at h; simp at h
    | some x => have := (List.getElem?_eq_some_iff.1 hb).1; omega
  · omega
theorem nbC_in {ps : List Placed} {i d : Nat} (hi : i < ps.length) {x : Nat × Nat × Nat} (h : x ∈ nbC ps i d) : x.1 = i ∧ x.2.1 < ps.length ∧ x.2.2 = d := by
  unfold nbC at h; split at h
  · rw [List.mem_singleton] at h; subst h; have := idxA_lt ps (stepP (ps.getD i pl0).At d); refine ⟨rfl, ?_, rfl⟩; show (nbr ps i d).toNat < ps.length; unfold nbr at *; omega
  · cases h
theorem nbR_in {ps : List Placed} {i : Nat} (hi : i < ps.length) {x : Nat × Nat × Nat} : ∀ {j : Nat}, x ∈ nbR ps i j → x.1 = i ∧ x.2.1 < ps.length ∧ x.2.2 < 4
  | 0, h => by cases h
  | j + 1, h => by
    rw [nbR, List.mem_append] at h; rcases h with h | h
    · exact nbR_in hi h
    · obtain ⟨h1, h2, h3⟩ := nbC_in hi h; exact ⟨h1, h2, by rw [h3]; exact dirO_lt j⟩
theorem nbI_in {ps : List Placed} {x : Nat × Nat × Nat} : ∀ {n : Nat}, n ≤ ps.length → x ∈ nbI ps n → x.1 < ps.length ∧ x.2.1 < ps.length ∧ x.2.2 < 4
  | 0, _, h => by cases h
  | n + 1, hn, h => by
    rw [nbI, List.mem_append] at h; rcases h with h | h
    · exact nbI_in (by omega) h
    · obtain ⟨h1, h2, h3⟩ := nbR_in (show n < ps.length by omega) h; exact ⟨by omega, h2, h3⟩
theorem nbR_le (ps : List Placed) (i : Nat) : ∀ j, (nbR ps i j).length ≤ j
  | 0 => Nat.le_refl _
  | j + 1 => by have := nbR_le ps i j; rw [nbR, List.length_append]; unfold nbC; split <;> simp <;> omega
theorem nbI_le (ps : List Placed) : ∀ n, (nbI ps n).length ≤ 2 * n
  | 0 => Nat.le_refl _
  | n + 1 => by have := nbI_le ps n; have := nbR_le ps n 2; rw [nbI_next]; omega
end Go.Proofs.Ytgnlikamelfmjaa
