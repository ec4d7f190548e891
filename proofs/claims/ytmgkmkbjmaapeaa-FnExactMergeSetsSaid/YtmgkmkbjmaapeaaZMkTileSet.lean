/- Made by gmark.py: marks. -/
import Derived.Test.YtmgkmkbjmaapeaaZMark
import Derived.Test.YtmgkmkbjmaapeaaZMkBase
import Derived.Test.YtmgkmkbjmaapeaaZTyTileSet
import Derived.Test.YtmgkmkbjmaapeaaZMkGlue
import Derived.Test.YtmgkmkbjmaapeaaZMkTile
set_option linter.all false
namespace Go.Proofs.Ytmgkmkbjmaapeaa
open Go.RowKit Go.ChangeShapes Go.WideShapes Go.ChangeAt
def TileSet.cnE (x : TileSet) : Nat := cnS Glue.cnE x.Glues + cnS Tile.cnE x.Tiles
def TileSet.mkE (x : TileSet) (k : Int) : TileSet := ⟨mkL Glue.mkE Glue.cnE x.Glues k, mkL Tile.mkE Tile.cnE x.Tiles (k + (cnS Glue.cnE x.Glues : Nat))⟩
def TileSet.cnT (x : TileSet) : Nat := cnS Glue.cnE x.Glues + cnS Tile.cnE x.Tiles
def TileSet.mkT (x : TileSet) (k : Int) : TileSet := ⟨mkL Glue.mkE Glue.cnE x.Glues k, mkL Tile.mkE Tile.cnE x.Tiles (k + (cnS Glue.cnE x.Glues : Nat))⟩
theorem TileSet.cnE_le (x : TileSet) : TileSet.cnE x ≤ 4 * (1 + TileSet.cnt x) := by
  have h0 := cnS_cntL (g := Glue.cnt) (K := 2) Glue.cnE_le x.Glues
  have h1 := cnS_cntL (g := Tile.cnt) (K := 2) Tile.cnE_le x.Tiles
  have : TileSet.cnt x = cntL Glue.cnt x.Glues + cntL Tile.cnt x.Tiles := rfl
  have : TileSet.cnE x = cnS Glue.cnE x.Glues + cnS Tile.cnE x.Tiles := rfl
  omega
theorem TileSet.cnT_le (x : TileSet) : TileSet.cnT x ≤ 4 * TileSet.cnt x := by
  have h0 := cnS_cntL (g := Glue.cnt) (K := 2) Glue.cnE_le x.Glues
  have h1 := cnS_cntL (g := Tile.cnt) (K := 2) Tile.cnE_le x.Tiles
  have : TileSet.cnt x = cntL Glue.cnt x.Glues + cntL Tile.cnt x.Tiles := rfl
  have : TileSet.cnT x = cnS Glue.cnE x.Glues + cnS Tile.cnE x.Tiles := rfl
  omega
theorem TileSet.own_cells {w : World} {cs : List Value} {x : TileSet} {F : List Nat} (h : TileSet.ty.own w cs x F) : ∃ v0 v1 : Value, ∃ F0 F1 : List Nat, cs = [v0, v1] ∧ F = (F0 ++ F1) ∧ (Ty.slice 80 Glue.ty).own w [v0] x.Glues F0 ∧ (Ty.slice 60 Tile.ty).own w [v1] x.Tiles F1 := by
  obtain ⟨_, _, _, _, rfl, rfl, h_0, h_1⟩ := h
  obtain ⟨h_0_v, h_0_e⟩ := Ty.slice_one (Ty.own_lt _ h_0)
  subst h_0_e
  obtain ⟨h_1_v, h_1_e⟩ := Ty.slice_one (Ty.own_lt _ h_1)
  subst h_1_e
  exact ⟨h_0_v, h_1_v, _, _, rfl, rfl, h_0, h_1⟩
theorem TileSet.own_make {w : World} {v0 v1 : Value} {F0 F1 : List Nat} {x : TileSet} (h0 : (Ty.slice 80 Glue.ty).own w [v0] x.Glues F0) (h1 : (Ty.slice 60 Tile.ty).own w [v1] x.Tiles F1) : TileSet.ty.own w [v0, v1] x (F0 ++ F1) :=
  ⟨_, _, _, _, rfl, rfl, h0, h1⟩
set_option maxRecDepth 10000 in
set_option maxHeartbeats 1000000 in
theorem markTileSet_any (v0 v1 : Value) (x : TileSet) (k : Int) (F : List Nat) (w : World) (h : TileSet.ty.own w [v0, v1] x F) (hn : F.Nodup) (hF : ∀ b, b ∈ F → b < w.heap.size) (h0 : 0 ≤ k) (hk : k + (TileSet.cnT x : Nat) ≤ 4611686018427387904) :
    Calls Try.prog 24 #[.agg #[v0, v1], .int .i64 k] w fun e w' => e = .returned (.int .i64 (k + (TileSet.cnT x : Nat))) ∧ TileSet.ty.own w' [v0, v1] (TileSet.mkT x k) F ∧ Chg F w w' := by
  obtain ⟨u0, u1, F0, F1, hcs, hFe, o0, o1⟩ := TileSet.own_cells h
  rw [hFe] at hn hF ⊢
  clear h hFe
  simp only [List.cons.injEq, and_true, true_and] at hcs
  obtain ⟨rfl, rfl⟩ := hcs
  obtain ⟨a0, c0_, hv0, _, _⟩ := Ty.form (Ty.own_lt _ o0)
  subst hv0
  obtain ⟨a1, c1_, hv1, _, _⟩ := Ty.form (Ty.own_lt _ o1)
  subst hv1
  have hnd := hn
  try simp only [List.nil_append, List.append_nil, List.nodup_append, List.mem_append] at hnd
  have hsb : ∀ b, b ∈ (F0 ++ F1) → b < w.heap.size := hF
  try simp only [List.nil_append, List.append_nil, List.mem_append] at hsb
  have hcn : TileSet.cnT x = cnS Glue.cnE x.Glues + cnS Tile.cnE x.Tiles := rfl
  have HND := Lib.hid hnd
  have HSB := Lib.hid hsb
  clear hnd hsb hn hF
  go_enter Try.func24, Try.ntmps24
  go_upto_region 1 with fail
  refine plainbase ?_
  intro w1 hW
  have hz : Below w.heap.size w w1 := by rw [hW]; go_grown
  have HB := Lib.hid (at_of hW (push1_0 _ _))
  have o0_ := (Chg.of_below (F := []) hz).own o0 (by simp) (fun b hb => HSB.out b (by simp_all))
  clear o0
  have o0 := o0_
  clear o0_
  have o1_ := (Chg.of_below (F := []) hz).own o1 (by simp) (fun b hb => HSB.out b (by simp_all))
  clear o1
  have o1 := o1_
  clear o1_
  have KC : Chg (F0 ++ F1) w w1 := Chg.of_below hz
  have hbw : w.heap.size < w1.heap.size := blk_lt HB.out
  clear hW hz
  have c := cel2 HB.out
  go_wp2_with fail
  have hnd := HND.out
  have hsb := HSB.out
  refine (markGlueS_any (.slice a0 x.Glues.length c0_) x.Glues k (F0) w1 o0 (by simp_all [List.nodup_append]) (fun b hb => Nat.lt_of_lt_of_le (HSB.out b (by simp_all)) KC.size) (by omega) (by omega)).mono ?_
  rintro e w2 ⟨rfl, oo, hCG⟩
  have HB2 := Lib.hid ((hCG.keep _ hbw (fun hb => absurd (HSB.out _ (by simp_all)) (Nat.lt_irrefl _))).trans HB.out)
  have o1_ := hCG.own o1 (fun b hb hb2 => by (try simp only [List.nil_append, List.append_nil, List.mem_append] at hb2); grind) (fun b hb => Nat.lt_of_lt_of_le (HSB.out b (by simp_all)) KC.size)
  have KC2 := KC.trans (hCG.mono (fun b hb => by simp_all))
  have hbw2 := Nat.lt_of_lt_of_le hbw hCG.size
  clear hnd hsb c HB hCG KC hbw o0 o1
  have o1 := o1_
  clear o1_
  have KC := KC2
  have HB := HB2
  have hbw := hbw2
  clear KC2 HB2 hbw2
  have o0 := oo
  clear oo
  have c := cel2 HB.out
  go_wp2_with fail
  have hnd := HND.out
  have hsb := HSB.out
  refine (markTileS_any (.slice a1 x.Tiles.length c1_) x.Tiles (k + (cnS Glue.cnE x.Glues : Nat)) (F1) w2 o1 (by simp_all [List.nodup_append]) (fun b hb => Nat.lt_of_lt_of_le (HSB.out b (by simp_all)) KC.size) (by omega) (by omega)).mono ?_
  rintro e w3 ⟨rfl, oo, hCG⟩
  have HB2 := Lib.hid ((hCG.keep _ hbw (fun hb => absurd (HSB.out _ (by simp_all)) (Nat.lt_irrefl _))).trans HB.out)
  have o0_ := hCG.own o0 (fun b hb hb2 => by (try simp only [List.nil_append, List.append_nil, List.mem_append] at hb2); grind) (fun b hb => Nat.lt_of_lt_of_le (HSB.out b (by simp_all)) KC.size)
  have KC2 := KC.trans (hCG.mono (fun b hb => by simp_all))
  have hbw2 := Nat.lt_of_lt_of_le hbw hCG.size
  clear hnd hsb c HB hCG KC hbw o0 o1
  have o0 := o0_
  clear o0_
  have KC := KC2
  have HB := HB2
  have hbw := hbw2
  clear KC2 HB2 hbw2
  have o1 := oo
  clear oo
  go_wp2_with fail
  go_ret
  exact ⟨by rw [hcn]; first | rfl | (simp only [Int.natCast_add, Int.add_assoc]; done) | (simp only [Int.natCast_add, Int.add_assoc]; rfl), TileSet.own_make (x := TileSet.mkT x k) o0 o1, KC⟩
set_option maxRecDepth 10000 in
set_option maxHeartbeats 1000000 in
theorem heldTileSet_any (v0 v1 : Value) (x : TileSet) (k : Int) (w : World) (B : Nat) (hB : B ≤ w.heap.size) (h : TileSet.ty.rep w B [v0, v1] (TileSet.mkT x k)) (h0 : 0 ≤ k) (hk : k + (TileSet.cnT x : Nat) ≤ 4611686018427387904) :
    Calls Try.prog 25 #[.agg #[v0, v1], .int .i64 k] w fun e w' => e = .returned (.int .i64 (k + (TileSet.cnT x : Nat))) ∧ Below w.heap.size w w' := by
  have hh := TileSet.parts (x := TileSet.mkT x k) h
  obtain ⟨r0, r1⟩ := hh
  obtain ⟨a0, c0_, hv0, _, _⟩ := Ty.form r0
  rw [show (TileSet.mkT x k).Glues.length = x.Glues.length from mkL_len _ _ _ _] at hv0
  subst hv0
  have R0 := Lib.hid r0
  obtain ⟨a1, c1_, hv1, _, _⟩ := Ty.form r1
  rw [show (TileSet.mkT x k).Tiles.length = x.Tiles.length from mkL_len _ _ _ _] at hv1
  subst hv1
  have R1 := Lib.hid r1
  have hcn : TileSet.cnT x = cnS Glue.cnE x.Glues + cnS Tile.cnE x.Tiles := rfl
  clear h r0 r1
  go_enter Try.func25, Try.ntmps25
  go_upto_region 1 with fail
  refine rebase ?_
  intro W1 hW _
  have hz : Below w.heap.size w W1 := by rw [hW]; go_grown
  have hb0 := at_of hW (push1_0 _ _)
  have c0 := box2 hb0
  have f0 := boxf hb0
  have B0 := Lib.hid hb0
  clear hb0
  have HW := Lib.hid hW
  clear hW
  have hs0 := fun z : Ext W1 => heldGlueS_any (.slice a0 x.Glues.length c0_) x.Glues k (W1.to z) B (Nat.le_trans hB (ext_end z hz).size) (Ty.rep_below _ R0.out ((ext_end z hz).mono hB)) (by omega) (by omega)
  have HS0 := Lib.hid hs0
  clear hs0
  have hs1 := fun z : Ext W1 => heldTileS_any (.slice a1 x.Tiles.length c1_) x.Tiles (k + (cnS Glue.cnE x.Glues : Nat)) (W1.to z) B (Nat.le_trans hB (ext_end z hz).size) (Ty.rep_below _ R1.out ((ext_end z hz).mono hB)) (by omega) (by omega)
  have HS1 := Lib.hid hs1
  clear hs1
  go_wp2_with fail
  refine call_ext (HS0.out _) ?_
  intro y0
  go_wp2_with fail
  refine call_ext (HS1.out _) ?_
  intro y1
  go_wp2_with fail
  go_ret
  exact ⟨by rw [hcn]; first | rfl | (simp only [Int.natCast_add, Int.add_assoc]; done) | (simp only [Int.natCast_add, Int.add_assoc]; rfl), ext_end _ hz⟩
end Go.Proofs.Ytmgkmkbjmaapeaa
