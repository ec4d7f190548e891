/- Laws that the proof stands on. -/
import Derived.Test.YtjalagigmelcaaaZg18
set_option linter.all false
namespace Go.Proofs.Ytjalagigmelcaaa
open Go.RowKit Go.V
set_option maxRecDepth 100000
theorem form_pts {ps : List Placed} (h : okForm ps = true) : ∀ x, x ∈ ps → ptOK x.At = true ∧ inR 0 159 x.Tile = true := by
  unfold okForm at h; rw [Bool.and_eq_true] at h; intro x hx; obtain ⟨i, hi, rfl⟩ := List.getElem_of_mem hx; have := List.all_eq_true.1 h.2 i (List.mem_range.2 hi); cases i with
  | zero => rw [okP_zero hi] at this; simpa using this
  | succ i => rw [okP_succ hi] at this; simp only [Bool.and_eq_true] at this; exact ⟨this.1, this.2.1⟩
theorem form_of {ps : List Placed} (hs : strictP ps) (hp : ∀ x, x ∈ ps → ptOK x.At = true ∧ inR 0 159 x.Tile = true) (hl : ps.length ≤ 500) : okForm ps = true := by
  rw [okForm_yes, decide_eq_true hl]; rw [List.all_eq_true]; intro i hi; have hi := List.mem_range.1 hi; cases i with
  | zero => rw [okP_zero hi, (hp _ (List.getElem_mem hi)).1, (hp _ (List.getElem_mem hi)).2]; rfl
  | succ i => rw [okP_succ hi, (hp _ (List.getElem_mem hi)).1, (hp _ (List.getElem_mem hi)).2]; have := strict_at hs (i := i) (j := i + 1) (by omega) hi; rw [this]; rfl
theorem join_all {a b : Assembly} (ha : okForm a.Tiles = true) (hb : okForm b.Tiles = true) (h0 : joinC a b = 0) : okForm (joinA a b).Tiles = true ∧ (∀ t, t ∈ (joinA a b).Tiles ↔ t ∈ a.Tiles ∨ t ∈ b.Tiles) ∧ ¬ badJ a.Tiles b.Tiles ∧ strictP (joinA a b).Tiles := by
  obtain ⟨sa, la, pa⟩ := form_strict ha; obtain ⟨sb, lb, pb⟩ := form_strict hb; have e1 : joinA a b = joinK (mrgJ a.Tiles b.Tiles) := (by unfold joinA; rw [ha, hb]; rfl); have e2 : joinC a b = joinE (mrgJ a.Tiles b.Tiles) := (by unfold joinC; rw [ha, hb]; rfl); have hn : ¬ badJ a.Tiles b.Tiles := fun hbad => by rw [e2, mrgJ_none _ _ sa sb hbad] at h0; exact absurd h0 (by decide)
  obtain ⟨m, hm, hs, hmem⟩ := mrgJ_some _ _ sa sb hn; rw [hm] at e1 e2; have hl : ¬ 500 < m.length := fun hl => by rw [e2] at h0; have : joinE (some m) = 4 := if_pos hl; rw [this] at h0; exact absurd h0 (by decide)
  have e3 : joinA a b = ⟨m⟩ := (by rw [e1]; exact if_neg hl); rw [e3]; refine ⟨form_of hs (fun x hx => ?_) (by simp only; omega), hmem, hn, hs⟩; rcases (hmem x).1 hx with h | h
  · exact form_pts ha x h
  · exact form_pts hb x h
theorem bad_swap {us vs : List Placed} (h : badJ us vs) : badJ vs us := by obtain ⟨x, y, hx, hy, e, ht⟩ := h; exact ⟨y, x, hy, hx, e.symm, fun h => ht h.symm⟩
theorem join_swap {a b : Assembly} (ha : okForm a.Tiles = true) (hb : okForm b.Tiles = true) (h0 : joinC a b = 0) : joinA b a = joinA a b ∧ joinC b a = 0 := by obtain ⟨sa, la, pa⟩ := form_strict ha; obtain ⟨sb, lb, pb⟩ := form_strict hb; obtain ⟨hf, hmem, hn, hst⟩ := join_all ha hb h0; obtain ⟨m, hm, hs, hmm⟩ := mrgJ_some _ _ sb sa (fun h => hn (bad_swap h)); have e1 : joinA b a = joinK (mrgJ b.Tiles a.Tiles) := (by unfold joinA; rw [ha, hb]; rfl); have e2 : joinC b a = joinE (mrgJ b.Tiles a.Tiles) := (by unfold joinC; rw [ha, hb]; rfl); have hm2 : m = (joinA a b).Tiles := strict_uniq hs hst (fun z => by rw [hmm, hmem]; exact Or.comm); have hl : ¬ 500 < m.length := (by have := (form_strict hf).2.1; rw [hm2]; omega); rw [e1, e2, hm]; exact ⟨by rw [show joinK (some m) = ⟨m⟩ from if_neg hl, hm2], if_neg hl⟩
theorem dif_clash {a b : Assembly} (ha : okForm a.Tiles = true) (hb : okForm b.Tiles = true) (h : badJ a.Tiles b.Tiles) : ∃ t, difA a.Tiles b.Tiles = some t ∧ 0 ≤ tileA a.Tiles t.At ∧ 0 ≤ tileA b.Tiles t.At ∧ tileA a.Tiles t.At ≠ tileA b.Tiles t.At := by
  obtain ⟨sa, la, pa⟩ := form_strict ha; obtain ⟨sb, lb, pb⟩ := form_strict hb; obtain ⟨x, y, hx, hy, e, ht⟩ := h; have hb1 := (atP_yes sb hy).2; rw [← e] at hb1; cases hd : difA a.Tiles b.Tiles with
  | none => unfold difA at hd; rw [List.find?_eq_none] at hd; have := hd x hx; rw [hb1, decide_eq_true (pb y hy).1, decide_eq_false (fun h => ht h.symm)] at this; exact absurd rfl this
  | some t => refine ⟨t, rfl, ?_⟩; unfold difA at hd; have h1 := List.find?_some hd; have h2 := List.mem_of_find?_eq_some hd; simp only [Bool.and_eq_true, decide_eq_true_eq, Bool.not_eq_true', decide_eq_false_iff_not] at h1; have h3 := (atP_yes sa h2).2; rw [h3]; exact ⟨(pa t h2).1, h1.1, fun h => h1.2 h.symm⟩
theorem dif_one {a b : Assembly} (hb : okForm b.Tiles = true) (h : ¬ badJ a.Tiles b.Tiles) : difA a.Tiles b.Tiles = none := by
  obtain ⟨sb, lb, pb⟩ := form_strict hb; refine dif_none fun i hi => ?_; cases h1 : decide (0 ≤ tileA b.Tiles a.Tiles[i].At) with
  | false => rfl
  | true =>
    have h1 := of_decide_eq_true h1; by_cases hy : ∃ y, y ∈ b.Tiles ∧ y.At = a.Tiles[i].At
    · obtain ⟨y, hy, e⟩ := hy; have h2 := (atP_yes sb hy).2; rw [e] at h2; rw [h2]; by_cases ht : y.Tile = a.Tiles[i].Tile
      · rw [decide_eq_true ht]; rfl
      · exact absurd ⟨_, y, List.getElem_mem hi, hy, e.symm, fun h => ht h.symm⟩ h
    · have := (atP_no (ps := b.Tiles) (p := a.Tiles[i].At) (fun x h1 h2 => hy ⟨x, h1, h2⟩)).2; rw [this] at h1; exact absurd h1 (by decide)
theorem join_clash {a b : Assembly} (h : joinC a b = 7) : okForm a.Tiles = true ∧ okForm b.Tiles = true ∧ badJ a.Tiles b.Tiles := by
  unfold joinC at h; split at h
  · rename_i hab; rw [Bool.and_eq_true] at hab; obtain ⟨sa, _, _⟩ := form_strict hab.1; obtain ⟨sb, _, _⟩ := form_strict hab.2; refine ⟨hab.1, hab.2, ?_⟩; by_cases hbad : badJ a.Tiles b.Tiles
    · exact hbad
    · obtain ⟨m, hm, _⟩ := mrgJ_some _ _ sa sb hbad; rw [hm] at h; unfold joinE at h; simp only at h; split at h <;> exact absurd h (by decide)
  · exact absurd h (by decide)
theorem joinC_ok {a b : Assembly} (h : joinC a b = 0) : okForm a.Tiles = true ∧ okForm b.Tiles = true := by
  unfold joinC at h; split at h
  · rename_i hab; rw [Bool.and_eq_true] at hab; exact hab
  · exact absurd h (by decide)
end Go.Proofs.Ytjalagigmelcaaa
