/- Laws that the proof stands on. -/
import Derived.Test.YtbflchedmfeghaaDoorZg20
import Derived.Test.YtbflchedmfeghaaDoorZg14
set_option linter.all false
namespace Go.Proofs.YtbflchedmfeghaaDoor
open Go.RowKit Go.V
set_option maxRecDepth 100000
def smG (G : List Glue) : Prop := ∀ g, g ∈ G → g.Name.size ≤ 1000 ∧ 0 ≤ g.Strength ∧ g.Strength ≤ 1000
def smT (T : List Tile) : Prop := ∀ t, t ∈ T → t.Name.size ≤ 1000 ∧ t.Sides.length ≤ 4 ∧ ∀ y, y ∈ t.Sides → 0 ≤ y ∧ y ≤ 1000000
def smP (P : List Placed) : Prop := ∀ p, p ∈ P → (-1000000 ≤ p.At.X ∧ p.At.X ≤ 1000000) ∧ (-1000000 ≤ p.At.Y ∧ p.At.Y ≤ 1000000) ∧ -1000000 ≤ p.Tile ∧ p.Tile ≤ 1000000
structure smS (s : System) : Prop where
  g : smG s.Set.Glues
  t : smT s.Set.Tiles
  p : smP s.Seed.Tiles
  gl : s.Set.Glues.length ≤ 10000
  tl : s.Set.Tiles.length ≤ 10000
  pl : s.Seed.Tiles.length ≤ 10000
  tm : 0 ≤ s.Temperature ∧ s.Temperature ≤ 1000
theorem smG_nil : smG [] := fun _ h => by cases h
theorem smT_nil : smT [] := fun _ h => by cases h
theorem smP_nil : smP [] := fun _ h => by cases h
theorem smG_app {A B : List Glue} (h : smG A) (h2 : smG B) : smG (A ++ B) := fun g hg => by
  rcases List.mem_append.1 hg with hg | hg
  · exact h g hg
  · exact h2 g hg
theorem smT_app {A B : List Tile} (h : smT A) (h2 : smT B) : smT (A ++ B) := fun g hg => by
  rcases List.mem_append.1 hg with hg | hg
  · exact h g hg
  · exact h2 g hg
theorem smG_one {n : ByteArray} {k : Int} (h : n.size ≤ 1000) (h1 : 0 ≤ k) (h2 : k ≤ 1000) : smG [⟨n, k⟩] := fun g hg => by rw [List.mem_singleton] at hg; rw [hg]; exact ⟨h, h1, h2⟩
theorem smG_rng {f : Nat → ByteArray} {k : Nat → Int} {i : Nat} (h : ∀ j, j < i → (f j).size ≤ 1000) (hk : ∀ j, 0 ≤ k j ∧ k j ≤ 1000) : smG ((List.range i).map (fun j => ⟨f j, k j⟩)) := fun g hg => by obtain ⟨j, hj, rfl⟩ := List.mem_map.1 hg; exact ⟨h j (by simpa using hj), hk j⟩
theorem smT_one {n : ByteArray} {s : List Int} (h : n.size ≤ 1000) (h1 : s.length ≤ 4) (h2 : ∀ y, y ∈ s → 0 ≤ y ∧ y ≤ 1000000) : smT [⟨n, s⟩] := fun g hg => by rw [List.mem_singleton] at hg; rw [hg]; exact ⟨h, h1, h2⟩
theorem smT_rng {f : Nat → ByteArray} {s : Nat → List Int} {i : Nat} (h : ∀ j, j < i → (f j).size ≤ 1000) (hs : ∀ j, (s j).length ≤ 4 ∧ ∀ y, y ∈ s j → 0 ≤ y ∧ y ≤ 1000000) : smT ((List.range i).map (fun j => ⟨f j, s j⟩)) := fun g hg => by obtain ⟨j, hj, rfl⟩ := List.mem_map.1 hg; exact ⟨h j (by simpa using hj), hs j⟩
theorem sm4 {G : List Glue} (h : G.length ≤ 10000) (a b c d : ByteArray) : [sideN G a, sideN G b, sideN G c, sideN G d].length ≤ 4 ∧ ∀ y, y ∈ [sideN G a, sideN G b, sideN G c, sideN G d] → 0 ≤ y ∧ y ≤ 1000000 := by refine ⟨by simp, fun y hy => ?_⟩; have h1 := sideN_in G a; have h2 := sideN_in G b; have h3 := sideN_in G c; have h4 := sideN_in G d; simp only [List.mem_cons, List.not_mem_nil, or_false] at hy; rcases hy with rfl | rfl | rfl | rfl <;> omega
theorem nm1_size {p : List UInt8} {n : Nat} (hp : p.length ≤ 100) (hn : n ≤ 1000000) : (nm1 p n).size ≤ 1000 := by have := dec_len n (by omega); have h2 := nm_sz1 (p := p) (n := n) (t := []); rw [h2]; simp only [List.length_nil]; omega
theorem lit_size {l : List UInt8} (h : l.length ≤ 1000) : (⟨⟨l⟩⟩ : ByteArray).size ≤ 1000 := h
theorem smP_rowP {x : Int} {row : List Int} (hx : -100 ≤ x ∧ x ≤ 100) (hr : row.length ≤ 1000) (h : ∀ y, y ∈ row → -1000000 ≤ y ∧ y ≤ 1000000) : smP (rowP x row) := fun p hp => by unfold rowP at hp; obtain ⟨i, hi, rfl⟩ := List.mem_mapIdx.1 hp; exact ⟨⟨by show -1000000 ≤ x + (i : Int); omega, by show x + (i : Int) ≤ 1000000; omega⟩, ⟨by show (-1000000 : Int) ≤ 0; omega, by show (0 : Int) ≤ 1000000; omega⟩, h _ (List.getElem_mem hi)⟩
theorem cnS_bd {α : Type} {f : α → Nat} {K : Nat} : ∀ xs : List α, (∀ x, x ∈ xs → f x ≤ K) → cnS f xs ≤ K * xs.length
  | [], _ => by simp [cnS]
  | x :: xs, h => by have h1 := cnS_bd xs (fun y hy => h y (List.mem_cons_of_mem _ hy)); have h2 := h x (by simp); simp only [cnS, List.map_cons, List.sum_cons, List.length_cons, Nat.mul_add, Nat.mul_one] at *; omega
theorem inK_sm {x : Int} (h : -1000000 ≤ x ∧ x ≤ 1000000) : InK .i64 x := by unfold InK; omega
theorem smS_ok {s : System} (h : smS s) : System.td.ok s := by
  rw [System.td_ok, TileSet.td_ok, Assembly.td_ok]; refine ⟨⟨fun g hg => ?_, fun t ht => ?_⟩, fun p hp => ?_, inK_sm (by have := h.tm; omega)⟩
  · have := h.g g hg; rw [Glue.td_ok]; exact ⟨Nat.le_trans this.1 (by unfold maxLen; omega), inK_sm (by omega)⟩
  · have := h.t t ht; rw [Tile.td_ok]; exact ⟨Nat.le_trans this.1 (by unfold maxLen; omega), fun y hy => inK_sm (by have := this.2.2 y hy; omega)⟩
  · have := h.p p hp; rw [Placed.td_ok, Point.td_ok]; exact ⟨⟨inK_sm this.1, inK_sm this.2.1⟩, inK_sm this.2.2⟩
theorem smS_cn {s : System} (h : smS s) : s.cnT ≤ 1000000000000 := by
  have e : System.cnT s = cnS Glue.cnE s.Set.Glues + cnS Tile.cnE s.Set.Tiles + cnS Placed.cnE s.Seed.Tiles := rfl; have h1 := cnS_bd (f := Glue.cnE) (K := 2) s.Set.Glues (fun _ _ => Nat.le_refl 2); have h2 := cnS_bd (f := Tile.cnE) (K := 5) s.Set.Tiles (fun t ht => by
    have e : Tile.cnE t = 1 + cnS (fun _ => 1) t.Sides := rfl; have := cnS_len (K := 1) (f := fun _ : Int => 1) (fun _ => Nat.le_refl 1) t.Sides; have := (h.t t ht).2.1; omega)
  have h3 := cnS_bd (f := Placed.cnE) (K := 3) s.Seed.Tiles (fun _ _ => Nat.le_refl 3); have := h.gl; have := h.tl; have := h.pl; rw [e]; omega
def sys0 : System := ⟨⟨[], []⟩, ⟨[]⟩, 0⟩
theorem sys0_sm : smS sys0 := ⟨smG_nil, smT_nil, smP_nil, by simp [sys0], by simp [sys0], by simp [sys0], by simp [sys0]⟩
def gC0 : ByteArray := ⟨⟨[99, 48]⟩⟩
def gC1 : ByteArray := ⟨⟨[99, 49]⟩⟩
def adV (i : Nat) : List Glue := (List.range i).map (fun j => ⟨nm1 [118] j, 1⟩)
def adG (b : Nat) : List Glue := adV b ++ [⟨gC0, 1⟩] ++ [⟨gC1, 1⟩]
def adTile (G : List Glue) (b d c : Nat) : Tile := ⟨nm [([100], d), ([99], c)] [], [sideN G (nm1 [118] ((d + c) % b)), sideN G (nm1 [99] c), sideN G (nm1 [118] d), sideN G (nm1 [99] ((d + c) / b))]⟩
def adT (G : List Glue) (b i : Nat) : List Tile := (List.range i).flatMap (fun d => [adTile G b d 0, adTile G b d 1])
/-! The digits. -/
end Go.Proofs.YtbflchedmfeghaaDoor
