/- Laws that the proof stands on. -/
import Derived.Test.YtoiaenkipdneeaaZg15
import Derived.Test.YtoiaenkipdneeaaZg10
set_option linter.all false
namespace Go.Proofs.Ytoiaenkipdneeaa
open Go.RowKit Go.V
set_option maxRecDepth 100000
def movS (f : List Int → List Int) (a : TileSet) : TileSet := ⟨a.Glues, a.Tiles.map fun t => ⟨t.Name, f t.Sides⟩⟩
structure movOk (f : List Int → List Int) : Prop where
  len : ∀ s, s.length = 4 → (f s).length = 4
  mem : ∀ s, s.length = 4 → ∀ x, x ∈ f s → x ∈ s
theorem four {s : List Int} (h : s.length = 4) : ∃ a b c d, s = [a, b, c, d] := by
  match s, h with
  | [a, b, c, d], _ => exact ⟨a, b, c, d, rfl⟩
theorem mov_ok {f : List Int → List Int} (hf : movOk f) {a : TileSet} (h : okSet a = true) : okSet (movS f a) = true := by
  have h0 := h; unfold okSet at h ⊢; simp only [Bool.and_eq_true, decide_eq_true_eq, List.all_eq_true, List.mem_range] at h ⊢; have hlen : (movS f a).Tiles.length = a.Tiles.length := List.length_map ..; refine ⟨h.1, by rw [hlen]; exact h.2.1, h.2.2.1, fun i hi => ?_⟩; rw [hlen] at hi; have h4 := okSet_sides4 h0 hi; have h1 := h.2.2.2 i hi; rw [okT_at hi] at h1; rw [okT_at (by rw [hlen]; exact hi)]; have e : (movS f a).Tiles[i]'(by rw [hlen]; exact hi) = ⟨a.Tiles[i].Name, f a.Tiles[i].Sides⟩ := (by simp [movS]); rw [e]; simp only [Bool.and_eq_true, Bool.not_eq_true', decide_eq_true_eq] at h1 ⊢; refine ⟨h1.1, hf.len _ h4, ?_, ?_⟩
  · have := h1.2.2.1; rw [List.any_eq_false] at this ⊢; intro x hx; unfold movS at hx; simp only at hx; rw [← List.map_take] at hx; obtain ⟨y, hy, rfl⟩ := List.mem_map.1 hx; exact this y hy
  · have := h1.2.2.2; rw [List.all_eq_true] at this ⊢; exact fun x hx => this x (hf.mem _ h4 x hx)
theorem mov_side {f : List Int → List Int} {a : TileSet} {t d : Nat} (ht : t < a.Tiles.length) : sideN (movS f a) t d = (f a.Tiles[t].Sides).getD d 0 := by have hlen : (movS f a).Tiles.length = a.Tiles.length := List.length_map ..; unfold sideN; rw [List.getD_eq_getElem?_getD (l := (movS f a).Tiles), List.getElem?_eq_getElem (by rw [hlen]; exact ht)]; have e : (movS f a).Tiles[t]'(by rw [hlen]; exact ht) = ⟨a.Tiles[t].Name, f a.Tiles[t].Sides⟩ := (by simp [movS]); simp only [Option.getD_some]; rw [e]
theorem side_of {a : TileSet} {t d : Nat} (ht : t < a.Tiles.length) : sideN a t d = a.Tiles[t].Sides.getD d 0 := by unfold sideN; rw [List.getD_eq_getElem?_getD (l := a.Tiles), List.getElem?_eq_getElem ht]; rfl
theorem mov_bond {f : List Int → List Int} {a : TileSet} (h : okSet a = true) {i j d e : Nat} (hi : i < a.Tiles.length) (hj : j < a.Tiles.length) (h1 : ∀ s : List Int, s.length = 4 → (f s).getD e 0 = s.getD d 0) (h2 : ∀ s : List Int, s.length = 4 → (f s).getD ((e + 2) % 4) 0 = s.getD ((d + 2) % 4) 0) : bondN (movS f a) i e j = bondN a i d j := by unfold bondN; rw [mov_side hi, mov_side hj, side_of hi, side_of hj, h1 _ (okSet_sides4 h hi), h2 _ (okSet_sides4 h hj)]; rfl
theorem bond_sym {a : TileSet} {i j d : Nat} (hd : d < 4) : bondN a j ((d + 2) % 4) i = bondN a i d j := by
  have e : ((d + 2) % 4 + 2) % 4 = d := (by omega); unfold bondN; rw [e]; by_cases h : sideN a i d = sideN a j ((d + 2) % 4)
  · rw [if_pos h, if_pos h.symm, h]
  · rw [if_neg h, if_neg (fun h2 => h h2.symm)]
theorem mov_mov {f g : List Int → List Int} {a : TileSet} (h : okSet a = true) (hfg : ∀ s, s.length = 4 → g (f s) = s) : movS g (movS f a) = a := by
  unfold movS; simp only [List.map_map]; have : a.Tiles.map ((fun t : Tile => (⟨t.Name, g t.Sides⟩ : Tile)) ∘ fun t : Tile => ⟨t.Name, f t.Sides⟩) = a.Tiles := by
    have h3 : ∀ t, t ∈ a.Tiles → ((fun t : Tile => (⟨t.Name, g t.Sides⟩ : Tile)) ∘ fun t : Tile => ⟨t.Name, f t.Sides⟩) t = t := fun t ht => by obtain ⟨i, hi, rfl⟩ := List.getElem_of_mem ht; show (⟨_, g (f _)⟩ : Tile) = _; rw [hfg _ (okSet_sides4 h hi)]
    rw [List.map_congr_left h3, List.map_id'']; exact fun _ => rfl
  rw [this]
theorem mir_mov : movOk mirL := ⟨fun _ _ => rfl, fun s h x hx => by
  obtain ⟨a, b, c, d, rfl⟩ := four h; simp [mirL] at hx ⊢; rcases hx with h | h | h | h <;> simp [h]⟩
theorem tur_mov : movOk turnedL := ⟨fun _ _ => rfl, fun s h x hx => by
  obtain ⟨a, b, c, d, rfl⟩ := four h; simp [turnedL] at hx ⊢; rcases hx with h | h | h | h <;> simp [h]⟩
theorem rot4 {q : Nat} (hq : q < 4) (a b c d : Int) : rotP q [a, b, c, d] 4 = if q = 0 then [a, b, c, d] else if q = 1 then [d, a, b, c] else if q = 2 then [c, d, a, b] else [b, c, d, a] := by have : q = 0 ∨ q = 1 ∨ q = 2 ∨ q = 3 := (by omega); rcases this with rfl | rfl | rfl | rfl <;> rfl
theorem rot_mov {q : Nat} (hq : q < 4) : movOk (fun s => rotP q s 4) := ⟨fun s h => by rw [rotP_len, h], fun s h x hx => by
  obtain ⟨a, b, c, d, rfl⟩ := four h; simp only [rot4 hq] at hx; have : q = 0 ∨ q = 1 ∨ q = 2 ∨ q = 3 := (by omega); rcases this with rfl | rfl | rfl | rfl <;> simp at hx ⊢ <;> rcases hx with h | h | h | h <;> simp [h]⟩
theorem rot_back {q : Nat} (hq : q < 4) (s : List Int) (h : s.length = 4) : rotP ((4 - q) % 4) (rotP q s 4) 4 = s := by obtain ⟨a, b, c, d, rfl⟩ := four h; have : q = 0 ∨ q = 1 ∨ q = 2 ∨ q = 3 := (by omega); rcases this with rfl | rfl | rfl | rfl <;> rfl
theorem rot_at {q d : Nat} (hq : q < 4) (hd : d < 4) (s : List Int) (h : s.length = 4) : (rotP q s 4).getD ((d + q) % 4) 0 = s.getD d 0 := by obtain ⟨a, b, c, e, rfl⟩ := four h; have hq4 : q = 0 ∨ q = 1 ∨ q = 2 ∨ q = 3 := (by omega); have hd4 : d = 0 ∨ d = 1 ∨ d = 2 ∨ d = 3 := (by omega); rcases hq4 with rfl | rfl | rfl | rfl <;> rcases hd4 with rfl | rfl | rfl | rfl <;> rfl
theorem rot_bond {a : TileSet} (h : okSet a = true) {q i j d : Nat} (hq : q < 4) (hd : d < 4) (hi : i < a.Tiles.length) (hj : j < a.Tiles.length) : bondN (movS (fun s => rotP q s 4) a) i ((d + q) % 4) j = bondN a i d j := by refine mov_bond h hi hj (fun s hs => rot_at hq hd s hs) (fun s hs => ?_); have := rot_at hq (d := (d + 2) % 4) (by omega) s hs; rw [← this]; show (rotP q s 4).getD _ 0 = _; congr 1; omega
def mirD (d : Nat) : Nat := [0, 3, 2, 1].getD d 0
def turD (d : Nat) : Nat := [1, 0, 3, 2].getD d 0
theorem mir_bond {a : TileSet} (h : okSet a = true) {i j d : Nat} (hd : d < 4) (hi : i < a.Tiles.length) (hj : j < a.Tiles.length) : bondN (movS mirL a) i (mirD d) j = bondN a i d j := by have : d = 0 ∨ d = 1 ∨ d = 2 ∨ d = 3 := (by omega); refine mov_bond h hi hj (fun s hs => ?_) (fun s hs => ?_) <;> obtain ⟨x, y, z, u, rfl⟩ := four hs <;> rcases this with rfl | rfl | rfl | rfl <;> rfl
theorem tur_bond {a : TileSet} (h : okSet a = true) {i j d : Nat} (hd : d < 4) (hi : i < a.Tiles.length) (hj : j < a.Tiles.length) : bondN (movS turnedL a) i (turD d) j = bondN a i d j := by have : d = 0 ∨ d = 1 ∨ d = 2 ∨ d = 3 := (by omega); refine mov_bond h hi hj (fun s hs => ?_) (fun s hs => ?_) <;> obtain ⟨x, y, z, u, rfl⟩ := four hs <;> rcases this with rfl | rfl | rfl | rfl <;> rfl
theorem mir_mir (s : List Int) (h : s.length = 4) : mirL (mirL s) = s := by obtain ⟨a, b, c, d, rfl⟩ := four h; rfl
theorem mirror_is {a : TileSet} (h : okSet a = true) : MirrorSetR a = movS mirL a := by unfold MirrorSetR; rw [h]; rfl
theorem transp_is {a : TileSet} (h : okSet a = true) : TransposeSetR a = movS turnedL a := by unfold TransposeSetR; rw [h]; rfl
theorem rotate_is {a : TileSet} (h : okSet a = true) {q : Nat} (hq : q < 4) : RotateSetR a (q : Int) = movS (fun s => rotP q s 4) a ∧ RotateSetC a (q : Int) = 0 := by have h3 : inR 0 3 (q : Int) = true := inR_iff.2 (by omega); unfold RotateSetR RotateSetC; rw [h, h3]; exact ⟨rfl, rfl⟩
theorem mov_B {f : List Int → List Int} (hf : movOk f) {a : TileSet} (h : okSet a = true) (hB : setB a) : setB (movS f a) := by
  refine ⟨hB.g, by show (a.Tiles.map _).length ≤ _; rw [List.length_map]; exact hB.t, hB.gn, fun x hx => ?_, fun x hx => ?_⟩
  · obtain ⟨y, hy, rfl⟩ := List.mem_map.1 hx; exact hB.tn y hy
  · obtain ⟨y, hy, rfl⟩ := List.mem_map.1 hx; obtain ⟨i, hi, rfl⟩ := List.getElem_of_mem hy; show (f a.Tiles[i].Sides).length ≤ _; rw [hf.len _ (okSet_sides4 h hi)]; omega
theorem mov_okd {f : List Int → List Int} (hf : movOk f) {a : TileSet} (h : okSet a = true) (ha : TileSet.td.ok a) : TileSet.td.ok (movS f a) := by rw [TileSet.td_ok] at ha ⊢; refine ⟨ha.1, fun x hx => ?_⟩; obtain ⟨y, hy, rfl⟩ := List.mem_map.1 hx; have h1 := ha.2 y hy; obtain ⟨i, hi, rfl⟩ := List.getElem_of_mem hy; rw [Tile.td_ok] at h1 ⊢; exact ⟨h1.1, fun z hz => h1.2 z (hf.mem _ (okSet_sides4 h hi) z hz)⟩
theorem mov_cnt {f : List Int → List Int} (hf : movOk f) {a : TileSet} (h : okSet a = true) : TileSet.cnt (movS f a) = TileSet.cnt a := by have e1 : TileSet.cnt (movS f a) = cntL Glue.cnt a.Glues + cntL Tile.cnt (a.Tiles.map fun t => ⟨t.Name, f t.Sides⟩) := rfl; have e2 : TileSet.cnt a = cntL Glue.cnt a.Glues + cntL Tile.cnt a.Tiles := rfl; rw [e1, e2]; congr 1; unfold cntL; rw [List.length_map, List.map_map]; congr 2; refine List.map_congr_left (fun t ht => ?_); obtain ⟨i, hi, rfl⟩ := List.getElem_of_mem ht; show a.Tiles[i].Name.size + (f a.Tiles[i].Sides).length = a.Tiles[i].Name.size + a.Tiles[i].Sides.length; rw [hf.len _ (okSet_sides4 h hi), okSet_sides4 h hi]
end Go.Proofs.Ytoiaenkipdneeaa
