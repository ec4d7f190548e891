/- Laws that the proof stands on. -/
import Derived.Test.YtoiaenkipdneeaaZVB
import Derived.Test.YtoiaenkipdneeaaZg11
import Derived.Test.YtoiaenkipdneeaaZg8
import Derived.Test.YtoiaenkipdneeaaZg10
import Derived.Test.YtoiaenkipdneeaaZg12
set_option linter.all false
namespace Go.Proofs.Ytoiaenkipdneeaa
open Go.RowKit Go.V
set_option maxRecDepth 100000
theorem mkL_ok {α : Type} {ok : α → Prop} {mk : α → Int → α} {cn : α → Nat} (h : ∀ (x : α) (k : Int), 0 ≤ k → k + (cn x : Nat) ≤ 4611686018427387904 → ok (mk x k)) : ∀ (xs : List α) (k : Int), 0 ≤ k → k + (cnS cn xs : Nat) ≤ 4611686018427387904 → ∀ y, y ∈ mkL mk cn xs k → ok y
  | [], k, _, _, y, hy => by simp [mkL] at hy
  | x :: xs, k, h0, hk, y, hy => by
    have e : cnS cn (x :: xs) = cn x + cnS cn xs := (by unfold cnS; rw [List.map_cons, List.sum_cons]); unfold mkL at hy; rcases List.mem_cons.1 hy with rfl | hy
    · exact h x k h0 (by omega)
    · exact mkL_ok h xs _ (by omega) (by omega) y hy
theorem mkI_ok (x : Int) (k : Int) (h0 : 0 ≤ k) (hk : k + (1 : Nat) ≤ 4611686018427387904) : (TD.int .i64).ok k := show InK .i64 _ from ⟨by omega, by omega⟩
theorem Glue.mkE_ok (x : Glue) (k : Int) (h0 : 0 ≤ k) (hk : k + (Glue.cnE x : Nat) ≤ 4611686018427387904) : Glue.td.ok (Glue.mkE x k) := by have hc : Glue.cnE x = 1 + 1 := rfl; rw [Glue.td_ok]; exact ⟨(markT_size _), (show InK .i64 ((k + 1)) from ⟨by omega, by omega⟩)⟩
theorem Tile.mkE_ok (x : Tile) (k : Int) (h0 : 0 ≤ k) (hk : k + (Tile.cnE x : Nat) ≤ 4611686018427387904) : Tile.td.ok (Tile.mkE x k) := by have hc : Tile.cnE x = 1 + cnS (fun _ => 1) x.Sides := rfl; rw [Tile.td_ok]; exact ⟨(markT_size _), (mkL_ok (ok := (TD.int .i64).ok) mkI_ok _ (k + 1) (by omega) (by omega))⟩
theorem TileSet.mkE_ok (x : TileSet) (k : Int) (h0 : 0 ≤ k) (hk : k + (TileSet.cnE x : Nat) ≤ 4611686018427387904) : TileSet.td.ok (TileSet.mkE x k) := by have hc : TileSet.cnE x = cnS Glue.cnE x.Glues + cnS Tile.cnE x.Tiles := rfl; rw [TileSet.td_ok]; exact ⟨(mkL_ok (ok := Glue.td.ok) Glue.mkE_ok _ k (by omega) (by omega)), (mkL_ok (ok := Tile.td.ok) Tile.mkE_ok _ (k + (cnS Glue.cnE x.Glues : Nat)) (by omega) (by omega))⟩
theorem v_szTileSet (q : TileSet) (hk : TileSet.td.ok q) (l : Int) (h0 : 0 ≤ l) (h1 : l ≤ 1048576) : Contract Try.prog NoG 17 [.agg (TileSet.td.d false q), .v (.int .i64 l)] (.v (.int .i64 (szR l (TileSet.cnt q)))) := by refine contract_plain (fun us W => by kernel_rfl) fun w I us hI hV => ?_; obtain ⟨u0, us, rfl, hT0, hV⟩ := vals_one hV; obtain ⟨u1, us, rfl, hT1, hV⟩ := vals_one hV; obtain rfl := vals_none hV; obtain rfl := T_v hT1; obtain ⟨cs, rfl, hr⟩ := TD.agg_dn TileSet.td hk hI rfl hT0; obtain ⟨v0, v1, rfl, z0, z1⟩ := TileSet.cells hr; exact szTileSet_any v0 v1 q l h0 h1 w w.heap.size (Nat.le_refl _) z0 z1
theorem v_eqTileSet (q : TileSet) (hk : TileSet.td.ok q) : Contract Try.prog NoG 20 [.agg (TileSet.td.d false q), .agg (TileSet.td.d false q)] (.v (.bool true)) := by refine contract_plain (fun us W => by kernel_rfl) fun w I us hI hV => ?_; obtain ⟨u0, us, rfl, hT0, hV⟩ := vals_one hV; obtain ⟨u1, us, rfl, hT1, hV⟩ := vals_one hV; obtain rfl := vals_none hV; obtain ⟨cs, rfl, hr⟩ := TD.agg_dn TileSet.td hk hI rfl hT0; obtain ⟨ds, rfl, hs⟩ := TD.agg_dn TileSet.td hk hI rfl hT1; obtain ⟨v0, v1, rfl, z0, z1⟩ := TileSet.cells hr; obtain ⟨x0, x1, rfl, y0, y1⟩ := TileSet.cells hs; exact eqTileSet_any v0 v1 x0 x1 q w w.heap.size (Nat.le_refl _) z0 z1 y0 y1
theorem TileSet.mkT_ok (x : TileSet) (hx : TileSet.td.ok x) (k : Int) (h0 : 0 ≤ k) (hk : k + (TileSet.cnT x : Nat) ≤ 4611686018427387904) : TileSet.td.ok (TileSet.mkT x k) := by have hc : TileSet.cnT x = cnS Glue.cnE x.Glues + cnS Tile.cnE x.Tiles := rfl; rw [TileSet.td_ok] at hx; rw [TileSet.td_ok]; exact ⟨(mkL_ok (ok := Glue.td.ok) Glue.mkE_ok _ k (by omega) (by omega)), (mkL_ok (ok := Tile.td.ok) Tile.mkE_ok _ (k + (cnS Glue.cnE x.Glues : Nat)) (by omega) (by omega))⟩
theorem v_markTileSet (q : TileSet) (hk : TileSet.td.ok q) (k : Int) (h0 : 0 ≤ k) (h1 : k + (TileSet.cnT q : Nat) ≤ 4611686018427387904) : ContractL Try.prog NoG 21 0 [.undef, .v (.int .i64 k)] (.agg (TileSet.td.d true q)) (.v (.int .i64 (k + (TileSet.cnT q : Nat)))) (.agg (TileSet.td.d false (TileSet.mkT q k))) := by refine mark_agg TileSet.td (fun us W => by kernel_rfl) hk fun w cs X ho hn hX => ?_; have hr := Ty.own_lt _ ho; obtain ⟨v0, v1, rfl, z0, z1⟩ := TileSet.cells hr; exact markTileSet_any v0 v1 q k X w ho hn hX h0 h1
theorem v_heldTileSet (q : TileSet) (hk : TileSet.td.ok q) (k : Int) (h0 : 0 ≤ k) (h1 : k + (TileSet.cnT q : Nat) ≤ 4611686018427387904) : Contract Try.prog NoG 22 [.agg (TileSet.td.d false (TileSet.mkT q k)), .v (.int .i64 k)] (.v (.int .i64 (k + (TileSet.cnT q : Nat)))) := by refine contract_plain (fun us W => by kernel_rfl) fun w I us hI hV => ?_; obtain ⟨u0, us, rfl, hT0, hV⟩ := vals_one hV; obtain ⟨u1, us, rfl, hT1, hV⟩ := vals_one hV; obtain rfl := vals_none hV; obtain rfl := T_v hT1; obtain ⟨cs, rfl, hr⟩ := TD.agg_dn TileSet.td (TileSet.mkT_ok q hk k h0 h1) hI rfl hT0; have hr0 := hr; obtain ⟨v0, v1, rfl, z0, z1⟩ := TileSet.cells hr; exact heldTileSet_any v0 v1 q k w w.heap.size (Nat.le_refl _) hr0 h0 h1
end Go.Proofs.Ytoiaenkipdneeaa
