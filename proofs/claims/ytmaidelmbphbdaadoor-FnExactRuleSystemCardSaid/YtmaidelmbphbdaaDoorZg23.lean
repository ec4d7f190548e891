/- Laws that the proof stands on. -/
import Derived.Test.YtmaidelmbphbdaaDoorZg11
import Derived.Test.YtmaidelmbphbdaaDoorZg22
import Derived.Test.YtmaidelmbphbdaaDoorZg21
import Derived.Test.YtmaidelmbphbdaaDoorZVTab
import Derived.Test.YtmaidelmbphbdaaDoorZg16
set_option linter.all false
namespace Go.Proofs.YtmaidelmbphbdaaDoor
open Go.RowKit Go.V
set_option maxRecDepth 100000
theorem Glue.mkE_ok (x : Glue) (k : Int) (h0 : 0 ≤ k) (hk : k + (Glue.cnE x : Nat) ≤ 4611686018427387904) : Glue.td.ok (Glue.mkE x k) := by have hc : Glue.cnE x = 1 + 1 := rfl; rw [Glue.td_ok]; exact ⟨(markT_size _), (show InK .i64 ((k + 1)) from ⟨by omega, by omega⟩)⟩
theorem Tile.mkE_ok (x : Tile) (k : Int) (h0 : 0 ≤ k) (hk : k + (Tile.cnE x : Nat) ≤ 4611686018427387904) : Tile.td.ok (Tile.mkE x k) := by have hc : Tile.cnE x = 1 + cnS (fun _ => 1) x.Sides := rfl; rw [Tile.td_ok]; exact ⟨(markT_size _), (mkL_ok (ok := (TD.int .i64).ok) mkI_ok _ (k + 1) (by omega) (by omega))⟩
theorem TileSet.mkE_ok (x : TileSet) (k : Int) (h0 : 0 ≤ k) (hk : k + (TileSet.cnE x : Nat) ≤ 4611686018427387904) : TileSet.td.ok (TileSet.mkE x k) := by have hc : TileSet.cnE x = cnS Glue.cnE x.Glues + cnS Tile.cnE x.Tiles := rfl; rw [TileSet.td_ok]; exact ⟨(mkL_ok (ok := Glue.td.ok) Glue.mkE_ok _ k (by omega) (by omega)), (mkL_ok (ok := Tile.td.ok) Tile.mkE_ok _ (k + (cnS Glue.cnE x.Glues : Nat)) (by omega) (by omega))⟩
theorem TileSet.mkT_ok (x : TileSet) (hx : TileSet.td.ok x) (k : Int) (h0 : 0 ≤ k) (hk : k + (TileSet.cnT x : Nat) ≤ 4611686018427387904) : TileSet.td.ok (TileSet.mkT x k) := by have hc : TileSet.cnT x = cnS Glue.cnE x.Glues + cnS Tile.cnE x.Tiles := rfl; rw [TileSet.td_ok] at hx; rw [TileSet.td_ok]; exact ⟨(mkL_ok (ok := Glue.td.ok) Glue.mkE_ok _ k (by omega) (by omega)), (mkL_ok (ok := Tile.td.ok) Tile.mkE_ok _ (k + (cnS Glue.cnE x.Glues : Nat)) (by omega) (by omega))⟩
theorem System.mkE_ok (x : System) (k : Int) (h0 : 0 ≤ k) (hk : k + (System.cnE x : Nat) ≤ 4611686018427387904) : System.td.ok (System.mkE x k) := by have hc : System.cnE x = cnS Glue.cnE x.Set.Glues + cnS Tile.cnE x.Set.Tiles + cnS Placed.cnE x.Seed.Tiles + 1 := rfl; rw [System.td_ok]; exact ⟨(by rw [TileSet.td_ok]; exact ⟨(mkL_ok (ok := Glue.td.ok) Glue.mkE_ok _ k (by omega) (by omega)), (mkL_ok (ok := Tile.td.ok) Tile.mkE_ok _ (k + (cnS Glue.cnE x.Set.Glues : Nat)) (by omega) (by omega))⟩), (by rw [Assembly.td_ok]; exact (mkL_ok (ok := Placed.td.ok) Placed.mkE_ok _ ((k + (cnS Glue.cnE x.Set.Glues : Nat)) + (cnS Tile.cnE x.Set.Tiles : Nat)) (by omega) (by omega))), (show InK .i64 ((((k + (cnS Glue.cnE x.Set.Glues : Nat)) + (cnS Tile.cnE x.Set.Tiles : Nat)) + (cnS Placed.cnE x.Seed.Tiles : Nat))) from ⟨by omega, by omega⟩)⟩
theorem v_eqSystem (q : System) (hk : System.td.ok q) : Contract Tryd.prog TabG 10 [.agg (System.td.d false q), .agg (System.td.d false q)] (.v (.bool true)) := by refine contract_plain (fun us W => by kernel_rfl) fun w I us hI hV => ?_; obtain ⟨u0, us, rfl, hT0, hV⟩ := vals_one hV; obtain ⟨u1, us, rfl, hT1, hV⟩ := vals_one hV; obtain rfl := vals_none hV; obtain ⟨cs, rfl, hr⟩ := TD.agg_dn System.td hk hI rfl hT0; obtain ⟨ds, rfl, hs⟩ := TD.agg_dn System.td hk hI rfl hT1; obtain ⟨v0, v1, v2, rfl, z0, z1, z2, z3⟩ := System.cells hr; obtain ⟨x0, x1, x2, rfl, y0, y1, y2, y3⟩ := System.cells hs; exact eqSystem_any v0 v1 v2 x0 x1 x2 q w w.heap.size (Nat.le_refl _) z0 z1 z2 y0 y1 y2
theorem System.mkT_ok (x : System) (hx : System.td.ok x) (k : Int) (h0 : 0 ≤ k) (hk : k + (System.cnT x : Nat) ≤ 4611686018427387904) : System.td.ok (System.mkT x k) := by have hc : System.cnT x = cnS Glue.cnE x.Set.Glues + cnS Tile.cnE x.Set.Tiles + cnS Placed.cnE x.Seed.Tiles := rfl; have hs : TileSet.cnT x.Set = cnS Glue.cnE x.Set.Glues + cnS Tile.cnE x.Set.Tiles := rfl; rw [System.td_ok] at hx; rw [System.td_ok]; exact ⟨(by have h_ := hx.1; rw [TileSet.td_ok] at h_; rw [TileSet.td_ok]; exact ⟨(mkL_ok (ok := Glue.td.ok) Glue.mkE_ok _ k (by omega) (by omega)), (mkL_ok (ok := Tile.td.ok) Tile.mkE_ok _ (k + (cnS Glue.cnE x.Set.Glues : Nat)) (by omega) (by omega))⟩), (by have h_ := hx.2.1; rw [Assembly.td_ok] at h_; rw [Assembly.td_ok]; exact (mkL_ok (ok := Placed.td.ok) Placed.mkE_ok _ (k + (TileSet.cnT x.Set : Nat)) (by omega) (by omega))), hx.2.2⟩
theorem v_markSystem (q : System) (hk : System.td.ok q) (k : Int) (h0 : 0 ≤ k) (h1 : k + (System.cnT q : Nat) ≤ 4611686018427387904) : ContractL Tryd.prog TabG 11 0 [.undef, .v (.int .i64 k)] (.agg (System.td.d true q)) (.v (.int .i64 (k + (System.cnT q : Nat)))) (.agg (System.td.d false (System.mkT q k))) := by refine mark_agg System.td (fun us W => by kernel_rfl) hk fun w cs X ho hn hX => ?_; have hr := Ty.own_lt _ ho; obtain ⟨v0, v1, v2, rfl, z0, z1, z2, z3⟩ := System.cells hr; exact markSystem_any v0 v1 v2 q k X w ho hn hX h0 h1
theorem v_heldSystem (q : System) (hk : System.td.ok q) (k : Int) (h0 : 0 ≤ k) (h1 : k + (System.cnT q : Nat) ≤ 4611686018427387904) : Contract Tryd.prog TabG 12 [.agg (System.td.d false (System.mkT q k)), .v (.int .i64 k)] (.v (.int .i64 (k + (System.cnT q : Nat)))) := by refine contract_plain (fun us W => by kernel_rfl) fun w I us hI hV => ?_; obtain ⟨u0, us, rfl, hT0, hV⟩ := vals_one hV; obtain ⟨u1, us, rfl, hT1, hV⟩ := vals_one hV; obtain rfl := vals_none hV; obtain rfl := T_v hT1; obtain ⟨cs, rfl, hr⟩ := TD.agg_dn System.td (System.mkT_ok q hk k h0 h1) hI rfl hT0; have hr0 := hr; obtain ⟨v0, v1, v2, rfl, z0, z1, z2, z3⟩ := System.cells hr; exact heldSystem_any v0 v1 v2 q k w w.heap.size (Nat.le_refl _) hr0 h0 h1
def smG (G : List Glue) : Prop := ∀ g, g ∈ G → g.Name.size ≤ 1000 ∧ 0 ≤ g.Strength ∧ g.Strength ≤ 1000
def smT (T : List Tile) : Prop := ∀ t, t ∈ T → t.Name.size ≤ 1000 ∧ t.Sides.length ≤ 4 ∧ ∀ y, y ∈ t.Sides → 0 ≤ y ∧ y ≤ 1000000
def smP (P : List Placed) : Prop := ∀ p, p ∈ P → (-1000000 ≤ p.At.X ∧ p.At.X ≤ 1000000) ∧ (-1000000 ≤ p.At.Y ∧ p.At.Y ≤ 1000000) ∧ -1000000 ≤ p.Tile ∧ p.Tile ≤ 1000000
structure smS (s : System) : Prop where
  g : smG s.Set.Glues
  t : smT s.Set.Tiles
  p : smP s.Seed.Tiles
  gl : s.Set.Glues.length ≤ 10000
  tl : s.Set.Tiles.length ≤ 10000
  pl : s.Seed.Tiles.length ≤ 10000
  tm : 0 ≤ s.Temperature ∧ s.Temperature ≤ 1000
theorem smG_nil : smG [] := fun _ h => by cases h
theorem smT_nil : smT [] := fun _ h => by cases h
theorem smP_nil : smP [] := fun _ h => by cases h
theorem smG_app {A B : List Glue} (h : smG A) (h2 : smG B) : smG (A ++ B) := fun g hg => by
  rcases List.mem_append.1 hg with hg | hg
  · exact h g hg
  · exact h2 g hg
theorem smT_app {A B : List Tile} (h : smT A) (h2 : smT B) : smT (A ++ B) := fun g hg => by
  rcases List.mem_append.1 hg with hg | hg
  · exact h g hg
  · exact h2 g hg
theorem smG_one {n : ByteArray} {k : Int} (h : n.size ≤ 1000) (h1 : 0 ≤ k) (h2 : k ≤ 1000) : smG [⟨n, k⟩] := fun g hg => by rw [List.mem_singleton] at hg; rw [hg]; exact ⟨h, h1, h2⟩
theorem smG_rng {f : Nat → ByteArray} {k : Nat → Int} {i : Nat} (h : ∀ j, j < i → (f j).size ≤ 1000) (hk : ∀ j, 0 ≤ k j ∧ k j ≤ 1000) : smG ((List.range i).map (fun j => ⟨f j, k j⟩)) := fun g hg => by obtain ⟨j, hj, rfl⟩ := List.mem_map.1 hg; exact ⟨h j (by simpa using hj), hk j⟩
theorem smT_one {n : ByteArray} {s : List Int} (h : n.size ≤ 1000) (h1 : s.length ≤ 4) (h2 : ∀ y, y ∈ s → 0 ≤ y ∧ y ≤ 1000000) : smT [⟨n, s⟩] := fun g hg => by rw [List.mem_singleton] at hg; rw [hg]; exact ⟨h, h1, h2⟩
theorem smT_rng {f : Nat → ByteArray} {s : Nat → List Int} {i : Nat} (h : ∀ j, j < i → (f j).size ≤ 1000) (hs : ∀ j, (s j).length ≤ 4 ∧ ∀ y, y ∈ s j → 0 ≤ y ∧ y ≤ 1000000) : smT ((List.range i).map (fun j => ⟨f j, s j⟩)) := fun g hg => by obtain ⟨j, hj, rfl⟩ := List.mem_map.1 hg; exact ⟨h j (by simpa using hj), hs j⟩
theorem sm4 {G : List Glue} (h : G.length ≤ 10000) (a b c d : ByteArray) : [sideN G a, sideN G b, sideN G c, sideN G d].length ≤ 4 ∧ ∀ y, y ∈ [sideN G a, sideN G b, sideN G c, sideN G d] → 0 ≤ y ∧ y ≤ 1000000 := by refine ⟨by simp, fun y hy => ?_⟩; have h1 := sideN_in G a; have h2 := sideN_in G b; have h3 := sideN_in G c; have h4 := sideN_in G d; simp only [List.mem_cons, List.not_mem_nil, or_false] at hy; rcases hy with rfl | rfl | rfl | rfl <;> omega
theorem nm1_size {p : List UInt8} {n : Nat} (hp : p.length ≤ 100) (hn : n ≤ 1000000) : (nm1 p n).size ≤ 1000 := by have := dec_len n (by omega); have h2 := nm_sz1 (p := p) (n := n) (t := []); rw [h2]; simp only [List.length_nil]; omega
theorem lit_size {l : List UInt8} (h : l.length ≤ 1000) : (⟨⟨l⟩⟩ : ByteArray).size ≤ 1000 := h
theorem smP_rowP {x : Int} {row : List Int} (hx : -100 ≤ x ∧ x ≤ 100) (hr : row.length ≤ 1000) (h : ∀ y, y ∈ row → -1000000 ≤ y ∧ y ≤ 1000000) : smP (rowP x row) := fun p hp => by unfold rowP at hp; obtain ⟨i, hi, rfl⟩ := List.mem_mapIdx.1 hp; exact ⟨⟨by show -1000000 ≤ x + (i : Int); omega, by show x + (i : Int) ≤ 1000000; omega⟩, ⟨by show (-1000000 : Int) ≤ 0; omega, by show (0 : Int) ≤ 1000000; omega⟩, h _ (List.getElem_mem hi)⟩
theorem cnS_bd {α : Type} {f : α → Nat} {K : Nat} : ∀ xs : List α, (∀ x, x ∈ xs → f x ≤ K) → cnS f xs ≤ K * xs.length
  | [], _ => by simp [cnS]
  | x :: xs, h => by have h1 := cnS_bd xs (fun y hy => h y (List.mem_cons_of_mem _ hy)); have h2 := h x (by simp); simp only [cnS, List.map_cons, List.sum_cons, List.length_cons, Nat.mul_add, Nat.mul_one] at *; omega
theorem inK_sm {x : Int} (h : -1000000 ≤ x ∧ x ≤ 1000000) : InK .i64 x := by unfold InK; omega
theorem smS_ok {s : System} (h : smS s) : System.td.ok s := by
  rw [System.td_ok, TileSet.td_ok, Assembly.td_ok]; refine ⟨⟨fun g hg => ?_, fun t ht => ?_⟩, fun p hp => ?_, inK_sm (by have := h.tm; omega)⟩
  · have := h.g g hg; rw [Glue.td_ok]; exact ⟨Nat.le_trans this.1 (by unfold maxLen; omega), inK_sm (by omega)⟩
  · have := h.t t ht; rw [Tile.td_ok]; exact ⟨Nat.le_trans this.1 (by unfold maxLen; omega), fun y hy => inK_sm (by have := this.2.2 y hy; omega)⟩
  · have := h.p p hp; rw [Placed.td_ok, Point.td_ok]; exact ⟨⟨inK_sm this.1, inK_sm this.2.1⟩, inK_sm this.2.2⟩
theorem smS_cn {s : System} (h : smS s) : s.cnT ≤ 1000000000000 := by
  have e : System.cnT s = cnS Glue.cnE s.Set.Glues + cnS Tile.cnE s.Set.Tiles + cnS Placed.cnE s.Seed.Tiles := rfl; have h1 := cnS_bd (f := Glue.cnE) (K := 2) s.Set.Glues (fun _ _ => Nat.le_refl 2); have h2 := cnS_bd (f := Tile.cnE) (K := 5) s.Set.Tiles (fun t ht => by
    have e : Tile.cnE t = 1 + cnS (fun _ => 1) t.Sides := rfl; have := cnS_len (K := 1) (f := fun _ : Int => 1) (fun _ => Nat.le_refl 1) t.Sides; have := (h.t t ht).2.1; omega)
  have h3 := cnS_bd (f := Placed.cnE) (K := 3) s.Seed.Tiles (fun _ _ => Nat.le_refl 3); have := h.gl; have := h.tl; have := h.pl; rw [e]; omega
def sys0 : System := ⟨⟨[], []⟩, ⟨[]⟩, 0⟩
theorem sys0_sm : smS sys0 := ⟨smG_nil, smT_nil, smP_nil, by simp [sys0], by simp [sys0], by simp [sys0], by simp [sys0]⟩
end Go.Proofs.YtmaidelmbphbdaaDoor
