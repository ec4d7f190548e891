/- Laws that the proof stands on. -/
import Derived.Test.YtbflchedmfeghaaDoorZg20
import Derived.Test.YtbflchedmfeghaaDoorZg14
set_option linter.all false
namespace Go.Proofs.YtbflchedmfeghaaDoor
open Go.RowKit Go.V
set_option maxRecDepth 100000
def smG (G : List Glue) : Prop := ∀ g, g ∈ G → g.Name.size ≤ 1000 ∧ 0 ≤ g.Strength ∧ g.Strength ≤ 1000
def smT (T : List Tile) : Prop := ∀ t, t ∈ T → t.Name.size ≤ 1000 ∧ t.Sides.length ≤ 4 ∧ ∀ y, y ∈ t.Sides → 0 ≤ y ∧ y ≤ 1000000
def smP (P : List Placed) : Prop := ∀ p, p ∈ P → (-1000000 ≤ p.At.X ∧ p.At.X ≤ 1000000) ∧ (-1000000 ≤ p.At.Y ∧ p.At.Y ≤ 1000000) ∧ -1000000 ≤ p.Tile ∧ p.Tile ≤ 1000000
structure smS (s : System) : Prop where
  g : smG s.Set.Glues
  t : smT s.Set.Tiles
  p : smP s.Seed.Tiles
  gl : s.Set.Glues.length ≤ 10000
  tl : s.Set.Tiles.length ≤ 10000
  pl : s.Seed.Tiles.length ≤ 10000
  tm : 0 ≤ s.Temperature ∧ s.Temperature ≤ 1000
theorem smG_nil : smG [] := fun _ h => by cases h
theorem smT_nil : smT [] := fun _ h => by cases h
theorem smP_nil : smP [] := fun _ h => by cases h
theorem smG_app {A B : List Glue} (h : smG A) (h2 : smG B) : smG (A ++ B) := fun g hg => by
  rcases List.mem_append.1 hg with hg | hg
  · exact h g hg
  · exact h2 g hg
theorem smT_app {A B : List Tile} (h : smT A) (h2 : smT B) : smT (A ++ B) := fun g hg => by
  rcases List.mem_append.1 hg with hg | hg
  · exact h g hg
  · exact h2 g hg
theorem smG_one {n : ByteArray} {k : Int} (h : n.size ≤ 1000) (h1 : 0 ≤ k) (h2 : k ≤ 1000) : smG [⟨n, k⟩] := fun g hg => by rw [List.mem_singleton] at hg; rw [hg]; exact ⟨h, h1, h2⟩
theorem smG_rng {f : Nat → ByteArray} {k : Nat → Int} {i : Nat} (h : ∀ j, j < i → (f j).size ≤ 1000) (hk : ∀ j, 0 ≤ k j ∧ k j ≤ 1000) : smG ((List.range i).map (fun j => ⟨f j, k j⟩)) := fun g hg => by obtain ⟨j, hj, rfl⟩ := List.mem_map.1 hg; exact ⟨h j (by simpa using hj), hk j⟩
theorem smT_one {n : ByteArray} {s : List Int} (h : n.size ≤ 1000) (h1 : s.length ≤ 4) (h2 : ∀ y, y ∈ s → 0 ≤ y ∧ y ≤ 1000000) : smT [⟨n, s⟩] := fun g hg => by rw [List.mem_singleton] at hg; rw [hg]; exact ⟨h, h1, h2⟩
theorem smT_rng {f : Nat → ByteArray} {s : Nat → List Int} {i : Nat} (h : ∀ j, j < i → (f j).size ≤ 1000) (hs : ∀ j, (s j).length ≤ 4 ∧ ∀ y, y ∈ s j → 0 ≤ y ∧ y ≤ 1000000) : smT ((List.range i).map (fun j => ⟨f j, s j⟩)) := fun g hg => by obtain ⟨j, hj, rfl⟩ := List.mem_map.1 hg; exact ⟨h j (by simpa using hj), hs j⟩
theorem sm4 {G : List Glue} (h : G.length ≤ 10000) (a b c d : ByteArray) : [sideN G a, sideN G b, sideN G c, sideN G d].length ≤ 4 ∧ ∀ y, y ∈ [sideN G a, sideN G b, sideN G c, sideN G d] → 0 ≤ y ∧ y ≤ 1000000 := by refine ⟨by simp, fun y hy => ?_⟩; have h1 := sideN_in G a; have h2 := sideN_in G b; have h3 := sideN_in G c; have h4 := sideN_in G d; simp only [List.mem_cons, List.not_mem_nil, or_false] at hy; rcases hy with rfl | rfl | rfl | rfl <;> omega
theorem nm1_size {p : List UInt8} {n : Nat} (hp : p.length ≤ 100) (hn : n ≤ 1000000) : (nm1 p n).size ≤ 1000 := by have := dec_len n (by omega); have h2 := nm_sz1 (p := p) (n := n) (t := []); rw [h2]; simp only [List.length_nil]; omega
theorem lit_size {l : List UInt8} (h : l.length ≤ 1000) : (⟨⟨l⟩⟩ : ByteArray).size ≤ 1000 := h
theorem smP_rowP {x : Int} {row : List Int} (hx : -100 ≤ x ∧ x ≤ 100) (hr : row.length ≤ 1000) (h : ∀ y, y ∈ row → -1000000 ≤ y ∧ y ≤ 1000000) : smP (rowP x row) := fun p hp => by unfold rowP at hp; obtain ⟨i, hi, rfl⟩ := List.mem_mapIdx.1 hp; exact ⟨⟨by show -1000000 ≤ x + (i : Int); omega, by show x + (i : Int) ≤ 1000000; omega⟩, ⟨by show (-1000000 : Int) ≤ 0; omega, by show (0 : Int) ≤ 1000000; omega⟩, h _ (List.getElem_mem hi)⟩
theorem cnS_bd {α : Type} {f : α → Nat} {K : Nat} : ∀ xs : List α, (∀ x, x ∈ xs → f x ≤ K) → cnS f xs ≤ K * xs.length
  | [], _ => by simp [cnS]
  | x :: xs, h => by have h1 := cnS_bd xs (fun y hy => h y (List.mem_cons_of_mem _ hy)); have h2 := h x (by simp); simp only [cnS, List.map_cons, List.sum_cons, List.length_cons, Nat.mul_add, Nat.mul_one] at *; omega
theorem inK_sm {x : Int} (h : -1000000 ≤ x ∧ x ≤ 1000000) : InK .i64 x := by unfold InK; omega
theorem smS_ok {s : System} (h : smS s) : System.td.ok s := by
  rw [System.td_ok, TileSet.td_ok, Assembly.td_ok]; refine ⟨⟨fun g hg => ?_, fun t ht => ?_⟩, fun p hp => ?_, inK_sm (by have := h.tm; omega)⟩
  · have := h.g g hg; rw [Glue.td_ok]; exact ⟨Nat.le_trans this.1 (by unfold maxLen; omega), inK_sm (by omega)⟩
  · have := h.t t ht; rw [Tile.td_ok]; exact ⟨Nat.le_trans this.1 (by unfold maxLen; omega), fun y hy => inK_sm (by have := this.2.2 y hy; omega)⟩
  · have := h.p p hp; rw [Placed.td_ok, Point.td_ok]; exact ⟨⟨inK_sm this.1, inK_sm this.2.1⟩, inK_sm this.2.2⟩
theorem smS_cn {s : System} (h : smS s) : s.cnT ≤ 1000000000000 := by
  have e : System.cnT s = cnS Glue.cnE s.Set.Glues + cnS Tile.cnE s.Set.Tiles + cnS Placed.cnE s.Seed.Tiles := rfl; have h1 := cnS_bd (f := Glue.cnE) (K := 2) s.Set.Glues (fun _ _ => Nat.le_refl 2); have h2 := cnS_bd (f := Tile.cnE) (K := 5) s.Set.Tiles (fun t ht => by
    have e : Tile.cnE t = 1 + cnS (fun _ => 1) t.Sides := rfl; have := cnS_len (K := 1) (f := fun _ : Int => 1) (fun _ => Nat.le_refl 1) t.Sides; have := (h.t t ht).2.1; omega)
  have h3 := cnS_bd (f := Placed.cnE) (K := 3) s.Seed.Tiles (fun _ _ => Nat.le_refl 3); have := h.gl; have := h.tl; have := h.pl; rw [e]; omega
def sys0 : System := ⟨⟨[], []⟩, ⟨[]⟩, 0⟩
theorem sys0_sm : smS sys0 := ⟨smG_nil, smT_nil, smP_nil, by simp [sys0], by simp [sys0], by simp [sys0], by simp [sys0]⟩
def gC0 : ByteArray := ⟨⟨[99, 48]⟩⟩
def gC1 : ByteArray := ⟨⟨[99, 49]⟩⟩
theorem gC0_nm : gC0 = nm1 [99] 0 := by
  show (⟨⟨[99, 48]⟩⟩ : ByteArray) = ⟨⟨[99] ++ Lib.decDigits 0 ++ []⟩⟩
  rw [Lib.decDigits, dif_pos (by decide)]; rfl
theorem gC1_nm : gC1 = nm1 [99] 1 := by
  show (⟨⟨[99, 49]⟩⟩ : ByteArray) = ⟨⟨[99] ++ Lib.decDigits 1 ++ []⟩⟩
  rw [Lib.decDigits, dif_pos (by decide)]; rfl
def adV (i : Nat) : List Glue := (List.range i).map (fun j => ⟨nm1 [118] j, 1⟩)
def adG (b : Nat) : List Glue := adV b ++ [⟨gC0, 1⟩] ++ [⟨gC1, 1⟩]
def adTile (G : List Glue) (b d c : Nat) : Tile := ⟨nm [([100], d), ([99], c)] [], [sideN G (nm1 [118] ((d + c) % b)), sideN G (nm1 [99] c), sideN G (nm1 [118] d), sideN G (nm1 [99] ((d + c) / b))]⟩
def adT (G : List Glue) (b i : Nat) : List Tile := (List.range i).flatMap (fun d => [adTile G b d 0, adTile G b d 1])
def adTc (G : List Glue) (b i c : Nat) : List Tile := adT G b i ++ (List.range c).map (adTile G b i)
theorem adV_next (i : Nat) : adV (i + 1) = adV i ++ [⟨nm1 [118] i, 1⟩] := by unfold adV; rw [List.range_succ, List.map_append]; rfl
theorem adT_next (G : List Glue) (b i : Nat) : adTc G b i 2 = adT G b (i + 1) := by unfold adTc adT; rw [show List.range (i + 1) = List.range i ++ [i] from List.range_succ, List.flatMap_append]; rfl
theorem adTc_zero (G : List Glue) (b i : Nat) : adTc G b i 0 = adT G b i := by unfold adTc; rw [List.range_zero, List.map_nil, List.append_nil]
theorem adTc_next (G : List Glue) (b i c : Nat) : adTc G b i (c + 1) = adTc G b i c ++ [adTile G b i c] := by unfold adTc; rw [List.range_succ, List.map_append, List.append_assoc]; rfl
theorem adV_len (i : Nat) : (adV i).length = i := by simp [adV]
theorem adG_len (b : Nat) : (adG b).length = b + 2 := by simp [adG, adV_len]
theorem adT_len (G : List Glue) (b : Nat) : ∀ i, (adT G b i).length = 2 * i
  | 0 => rfl
  | i + 1 => by rw [← adT_next]; unfold adTc; rw [List.length_append, adT_len G b i]; simp; omega
theorem adTc_len (G : List Glue) (b i c : Nat) : (adTc G b i c).length = 2 * i + c := by unfold adTc; rw [List.length_append, adT_len]; simp
theorem adV_fresh (i : Nat) {n : ByteArray} (h : ∀ j, j < i → nm1 [118] j ≠ n) : fresh (adV i) n := by have := fresh_rng (G := []) (f := fun j => nm1 [118] j) (k := fun _ => 1) (i := i) (fresh_nil n) h; simpa [adV] using this
theorem adG_fresh (b : Nat) {n : ByteArray} (h : ∀ j, nm1 [118] j ≠ n) (h0 : nm1 [99] 0 ≠ n) (h1 : nm1 [99] 1 ≠ n) : fresh (adG b) n :=
  fresh_push (fresh_push (adV_fresh b fun j _ => h j) (by rw [gC0_nm]; exact h0)) (by rw [gC1_nm]; exact h1)
theorem adV_v (i : Nat) : fresh (adV i) (nm1 [118] i) := adV_fresh i fun j hj => nm_ne (by rfl) (by rfl) (by simp; omega)
theorem adV_c0 (i : Nat) : fresh (adV i) gC0 := adV_fresh i fun j hj => by rw [gC0_nm]; exact nm_ne (by rfl) (by rfl) (by simp)
theorem adV_c1 (i : Nat) : fresh (adV i ++ [⟨gC0, 1⟩]) gC1 := fresh_push (adV_fresh i fun j hj => by rw [gC1_nm]; exact nm_ne (by rfl) (by rfl) (by simp)) (by rw [gC0_nm, gC1_nm]; exact nm_ne (by rfl) (by rfl) (by simp))
theorem adV_ok (i : Nat) : okM (adV i) := by have := okM_rng (G := []) (f := fun j => nm1 [118] j) (k := fun _ => 1) okM_nil (fun j => fresh_nil _) (fun i j hj => nm_ne (by rfl) (by rfl) (by simp; omega)) (fun j => nm_ne (b := []) (u := [45]) (by rfl) (by rfl) (by simp)) (fun j => nm_ne (b := []) (u := []) (by rfl) (by rfl) (by simp)) i; simpa [adV] using this
theorem gC0_dash : gC0 ≠ dash := by decide
theorem gC1_dash : gC1 ≠ dash := by decide
theorem adG_ok (b : Nat) : okM (adG b) := okM_push (okM_push (adV_ok b) (adV_c0 b) gC0_dash (by decide)) (adV_c1 b) gC1_dash (by decide)
theorem adT_mem {G : List Glue} {b i : Nat} {t : Tile} (h : t ∈ adT G b i) : ∃ d c, d < i ∧ c < 2 ∧ t = adTile G b d c := by
  unfold adT at h; obtain ⟨d, hd, ht⟩ := List.mem_flatMap.1 h; simp only [List.mem_cons, List.not_mem_nil, or_false] at ht; rcases ht with rfl | rfl
  · exact ⟨d, 0, by simpa using hd, by omega, rfl⟩
  · exact ⟨d, 1, by simpa using hd, by omega, rfl⟩
theorem adTc_mem {G : List Glue} {b i c : Nat} {t : Tile} (h : t ∈ adTc G b i c) : ∃ d e, (d < i ∨ (d = i ∧ e < c)) ∧ t = adTile G b d e := by
  unfold adTc at h; rcases List.mem_append.1 h with h | h
  · obtain ⟨d, e, hd, _, rfl⟩ := adT_mem h; exact ⟨d, e, .inl hd, rfl⟩
  · obtain ⟨e, he, rfl⟩ := List.mem_map.1 h; exact ⟨i, e, .inr ⟨rfl, by simpa using he⟩, rfl⟩
theorem adTc_fresh (G : List Glue) (b i c : Nat) : freshT (adTc G b i c) (nm [([100], i), ([99], c)] []) := fun t ht => by obtain ⟨d, e, h, rfl⟩ := adTc_mem ht; exact nm_ne (a := [([100], d), ([99], e)]) (b := [([100], i), ([99], c)]) (t := []) (u := []) (by rfl) (by rfl) (by simp; omega)
theorem adT_fresh {G : List Glue} {b i : Nat} {n : ByteArray} (h : ∀ d c, nm [([100], d), ([99], c)] [] ≠ n) : freshT (adT G b i) n := fun t ht => by obtain ⟨d, e, _, _, rfl⟩ := adT_mem ht; exact h d e
/-! The digits. -/
def digR (b : Nat) (k n : Nat) : List Nat := (List.range k).map fun j => n / b ^ (k - 1 - j) % b
theorem digR_len (b k n : Nat) : (digR b k n).length = k := by simp [digR]
end Go.Proofs.YtbflchedmfeghaaDoor
