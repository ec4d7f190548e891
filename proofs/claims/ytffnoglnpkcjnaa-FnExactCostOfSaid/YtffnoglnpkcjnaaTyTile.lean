/- Made by tygen.py: the type Tile. -/
import Derived.Test.YtffnoglnpkcjnaaRows
import Derived.Test.YtffnoglnpkcjnaaLib
import Derived.Test.YtffnoglnpkcjnaaTyBase
set_option linter.unusedSimpArgs false
set_option linter.unusedVariables false
set_option linter.all false
namespace Go.Proofs.Ytffnoglnpkcjnaa
open Go.RowKit Go.ChangeShapes Go.WideShapes Go.ChangeAt
structure Tile where
  Name : ByteArray
  Sides : List Int
  deriving DecidableEq
def Tile.ty : Ty Tile := Ty.via (Ty.prod Ty.str (Ty.slice 2 (Ty.int .i64))) (fun x => (x.Name, x.Sides))
def Tile.cnt (x : Tile) : Nat := x.Name.size + x.Sides.length
theorem Tile.cells {w : World} {B : Nat} {cs : List Value} {x : Tile} (h : Tile.ty.rep w B cs x) : ∃ v0 : Value, cs = [.string x.Name, v0] ∧ x.Name.size ≤ maxLen ∧ (Ty.slice 2 (Ty.int .i64)).rep w B [v0] x.Sides := by
  obtain ⟨_, _, rfl, h0, h1⟩ := h
  obtain ⟨rfl, i0⟩ := h0
  obtain ⟨u1, rfl⟩ := Ty.slice_one h1
  exact ⟨_, rfl, i0, h1⟩
theorem Tile.parts {w : World} {B : Nat} {v0 : Value} {x : Tile} (h : Tile.ty.rep w B [.string x.Name, v0] x) : x.Name.size ≤ maxLen ∧ (Ty.slice 2 (Ty.int .i64)).rep w B [v0] x.Sides := by
  obtain ⟨e0, hh, r0, r1⟩ := Tile.cells h
  simp only [List.cons.injEq, and_true, true_and] at hh
  subst hh
  exact ⟨r0, r1⟩
theorem Tile.rep_mk {w : World} {B : Nat} {v0 : Value} {x : Tile} (h0 : x.Name.size ≤ maxLen) (h1 : (Ty.slice 2 (Ty.int .i64)).rep w B [v0] x.Sides) : Tile.ty.rep w B [.string x.Name, v0] x :=
  ⟨_, _, rfl, ⟨rfl, h0⟩, h1⟩
set_option maxRecDepth 100000 in
theorem Tile.reads : Reads Try.prog 146 Tile.ty :=
  reads_via (t := (Ty.prod Ty.str (Ty.slice 2 (Ty.int .i64)))) (fun x : Tile => (x.Name, x.Sides)) (fun y => ⟨y.1, y.2⟩) (fun _ => rfl) (reads_struct Try.underlying146 (by kernel_rfl) (fld_cons rfl (reads_str Try.underlying9 (by kernel_rfl)) (fld_one rfl (reads_slice Try.underlying29 (by kernel_rfl) (by decide) (reads_int Try.underlying2 (by kernel_rfl))))))
theorem Tile.own_mk {w : World} {m0 m1 : Nat} {v0 : Value} {q : Tile} (p0 : q.Name.size ≤ maxLen) (h0 : Own (Ty.slice 2 (Ty.int .i64)) w m0 m1 [v0] q.Sides) (l0 : m0 ≤ m1) : Own Tile.ty w m0 m1 [.string q.Name, v0] q :=
  (Own.pair (Own.str p0 w m0 m0) h0 (by omega) (by omega))
theorem info_Tile : (Try.prog.info? 149).map (fun i => (i.zero, i.size, i.bytes)) = some (some (.agg #[.string ByteArray.empty, .slice none 0 0]), 2, 40) := by kernel_rfl
set_option maxRecDepth 10000 in
set_option maxHeartbeats 1000000 in
theorem eqTile_any (v0 u0 : Value) (x : Tile) (w : World) (B : Nat) (hB : B ≤ w.heap.size) (h0 : (Ty.slice 2 (Ty.int .i64)).rep w B [v0] x.Sides) (k0 : (Ty.slice 2 (Ty.int .i64)).rep w B [u0] x.Sides) :
    Calls Try.prog 109 #[.agg #[.string x.Name, v0], .agg #[.string x.Name, u0]] w fun e w' => e = .returned (.bool true) ∧ Below w.heap.size w w' := by
  go_enter Try.func109, Try.ntmps109
  go_upto_region 1 with fail
  refine rebase ?_
  intro W1 hW _
  have hz : Below w.heap.size w W1 := by rw [hW]; go_grown
  have hb0 := at_of hW (push2_0 _ _ _)
  have c0 := box2 hb0
  have f0 := boxf hb0
  have B0 := Lib.hid hb0
  clear hb0
  have hb1 := at_of hW (push2_1 _ _ _)
  have c1 := box2 hb1
  have f1 := boxf hb1
  have B1 := Lib.hid hb1
  clear hb1
  have HW := Lib.hid hW
  clear hW
  have hs0 := fun z : Ext W1 => eqInt64S_any v0 u0 x.Sides (W1.to z) B (Nat.le_trans hB (ext_end z hz).size) (Ty.rep_below _ h0 ((ext_end z hz).mono hB)) (Ty.rep_below _ k0 ((ext_end z hz).mono hB))
  have HS0 := Lib.hid hs0
  clear hs0
  go_wp2_with fail
  first
    | (refine call_ext (HS0.out _) ?_; intro y)
    | (refine wp_region_ext (by kernel_rfl) (by kernel_rfl) ?_; repeat (go_big_quiet_step ((go_at_call 19; exact ext_call (HS0.out _)))); refine wpQuiet_nil ?_; rintro _ ⟨y, rfl⟩)
  go_wp2_with fail
  go_ret
  exact ⟨rfl, ext_end _ hz⟩
set_option maxRecDepth 10000 in
set_option maxHeartbeats 1000000 in
theorem eqTileS_any (v1 v2 : Value) (xs : List Tile) (w : World) (B : Nat) (hB : B ≤ w.heap.size) (h1 : (Ty.slice 149 Tile.ty).rep w B [v1] xs) (h2 : (Ty.slice 149 Tile.ty).rep w B [v2] xs) :
    Calls Try.prog 61 #[v1, v2] w fun e w' => e = .returned (.bool true) ∧ Below w.heap.size w w' := by
  obtain ⟨a1, c1, rfl, _, hm1⟩ := Ty.form h1
  obtain ⟨a2, c2, rfl, _, hm2⟩ := Ty.form h2
  have hn : xs.length ≤ 9223372036854775807 := by unfold maxLen at hm1; omega
  clear hm1 hm2
  refine rebaseC ?_
  intro x
  go_enter Try.func61, Try.ntmps61
  go_wp2
  go_loopw [5] (fun i wr => ∃ k : Nat, k ≤ xs.length ∧ i = .int .i64 k ∧ ∃ z : Ext w, wr = w.to z) (fun i _ => xs.length - (intOf i).toNat)
  case atStart => exact ⟨0, Nat.zero_le _, rfl, x, rfl⟩
  case round =>
    obtain ⟨k, hk, rfl, z, rfl⟩ := hrel
    by_cases hlt : k < xs.length
    · obtain ⟨b1, o1, cs1, rfl, hb1, g1, e1⟩ := Ty.elem h1 hB k hlt
      obtain ⟨p1_0, rfl, _, r1_1⟩ := Tile.cells e1
      have d1_0 : ∀ z : Ext w, (w.to z).cell? ⟨b1, o1 + k * 2, none⟩ = some (.string xs[k].Name) := g1 0 _ rfl
      have d1_1 : ∀ z : Ext w, (w.to z).cell? ⟨b1, o1 + k * 2 + 1, none⟩ = some (p1_0) := g1 1 _ rfl
      clear g1
      obtain ⟨b2, o2, cs2, rfl, hb2, g2, e2⟩ := Ty.elem h2 hB k hlt
      obtain ⟨p2_0, rfl, _, r2_1⟩ := Tile.cells e2
      have d2_0 : ∀ z : Ext w, (w.to z).cell? ⟨b2, o2 + k * 2, none⟩ = some (.string xs[k].Name) := g2 0 _ rfl
      have d2_1 : ∀ z : Ext w, (w.to z).cell? ⟨b2, o2 + k * 2 + 1, none⟩ = some (p2_0) := g2 1 _ rfl
      clear g2
      have hs := fun z : Ext w => eqTile_any p1_0 p2_0 xs[k] (w.to z) B (Nat.le_trans hB z.below.size) (Ty.rep_to _ hB r1_1 z) (Ty.rep_to _ hB r2_1 z)
      have HS := Lib.hid hs
      clear hs
      go_wp2_with fail
      refine wp_region_ext (by kernel_rfl) (by kernel_rfl) ?_
      repeat (go_big_quiet_step ((go_at_call 109; exact ext_call (HS.out _))))
      refine wpQuiet_nil ?_
      rintro _ ⟨y, rfl⟩
      go_wp2_with fail
      go_roundw
      case rel => exact ⟨k + 1, by omega, by go_num, y, rfl⟩
      case measure => simp [intOf]; omega
    · go_wp2_with fail
      go_ret
      exact ⟨rfl, z.below⟩
set_option maxRecDepth 10000 in
set_option maxHeartbeats 1000000 in
theorem szTile_any (v0 : Value) (q : Tile) (l : Int) (hl0 : 0 ≤ l) (hl1 : l ≤ 1048576) (w : World) (B : Nat) (hB : B ≤ w.heap.size) (h0 : (Ty.slice 2 (Ty.int .i64)).rep w B [v0] q.Sides) (s0 : q.Name.size ≤ maxLen) :
    Calls Try.prog 98 #[.agg #[.string q.Name, v0], .int .i64 l] w fun e w' => e = .returned (.int .i64 (szR l (Tile.cnt q))) ∧ Below w.heap.size w w' := by
  have s0_ : q.Name.size ≤ 9223372036854775807 := by unfold maxLen at s0; omega
  by_cases g0 : ((q.Name.size : Nat) : Int) ≤ l
  · by_cases g1 : ((q.Sides.length : Nat) : Int) ≤ l - (q.Name.size : Nat)
    · go_enter Try.func98, Try.ntmps98
      go_upto_region 1 with fail
      refine rebase ?_
      intro W1 hW _
      have hz : Below w.heap.size w W1 := by rw [hW]; go_grown
      have hb0 := at_of hW (push1_0 _ _)
      have c0 := box2 hb0
      have f0 := boxf hb0
      have B0 := Lib.hid hb0
      clear hb0
      have HW := Lib.hid hW
      clear hW
      have hs1 := fun z : Ext W1 => szInt64S_any v0 q.Sides (l - (q.Name.size : Nat)) (by omega) (by omega) (W1.to z) B (Nat.le_trans hB (ext_end z hz).size) (Ty.rep_below _ h0 ((ext_end z hz).mono hB))
      simp only [szR_ok g1] at hs1
      have HS1 := Lib.hid hs1
      clear hs1
      go_wp2_with fail
      refine call_ext (HS1.out _) ?_
      intro y
      go_wp2_with fail
      go_ret
      exact ⟨by rw [szR_ok (by unfold Tile.cnt; omega)]; unfold Tile.cnt; go_num, ext_end _ hz⟩
    · go_enter Try.func98, Try.ntmps98
      go_upto_region 1 with fail
      refine rebase ?_
      intro W1 hW _
      have hz : Below w.heap.size w W1 := by rw [hW]; go_grown
      have hb0 := at_of hW (push1_0 _ _)
      have c0 := box2 hb0
      have f0 := boxf hb0
      have B0 := Lib.hid hb0
      clear hb0
      have HW := Lib.hid hW
      clear hW
      have hs1 := fun z : Ext W1 => szInt64S_any v0 q.Sides (l - (q.Name.size : Nat)) (by omega) (by omega) (W1.to z) B (Nat.le_trans hB (ext_end z hz).size) (Ty.rep_below _ h0 ((ext_end z hz).mono hB))
      simp only [szR_no g1] at hs1
      have HS1 := Lib.hid hs1
      clear hs1
      go_wp2_with fail
      refine call_ext (HS1.out _) ?_
      intro y
      go_wp2_with fail
      go_ret
      exact ⟨by rw [szR_no (by unfold Tile.cnt; omega)]; rfl, ext_end _ hz⟩
  · go_enter Try.func98, Try.ntmps98
    go_upto_region 1 with fail
    refine rebase ?_
    intro W1 hW _
    have hz : Below w.heap.size w W1 := by rw [hW]; go_grown
    have hb0 := at_of hW (push1_0 _ _)
    have c0 := box2 hb0
    have f0 := boxf hb0
    have B0 := Lib.hid hb0
    clear hb0
    have HW := Lib.hid hW
    clear hW
    go_wp2_with fail
    go_ret
    exact ⟨by rw [szR_no (by unfold Tile.cnt; omega)]; rfl, ext_end _ hz⟩
set_option maxRecDepth 10000 in
set_option maxHeartbeats 1000000 in
theorem szTileS_any (v : Value) (xs : List Tile) (l : Int) (hl0 : 0 ≤ l) (hl1 : l ≤ 1048576) (w : World) (B : Nat) (hB : B ≤ w.heap.size) (h : (Ty.slice 149 Tile.ty).rep w B [v] xs) :
    Calls Try.prog 47 #[v, .int .i64 l] w fun e w' => e = .returned (.int .i64 (szR l (cntL Tile.cnt xs))) ∧ Below w.heap.size w w' := by
  obtain ⟨a, c, rfl, hc, hm⟩ := Ty.form h
  have hn : xs.length ≤ 9223372036854775807 := by unfold maxLen at hm; omega
  clear hm
  by_cases g : (xs.length : Int) ≤ l
  · refine rebaseC ?_
    intro x
    go_enter Try.func47, Try.ntmps47
    go_wp2
    go_loopw [1, 5] (fun q i wr => ∃ k : Nat, k ≤ xs.length ∧ i = .int .i64 k ∧ ((xs.length + sumT Tile.cnt xs k : Nat) : Int) ≤ l ∧ q = .int .i64 (l - (xs.length + sumT Tile.cnt xs k : Nat)) ∧ ∃ z : Ext w, wr = w.to z) (fun _ i _ => xs.length - (intOf i).toNat)
    case atStart => exact ⟨0, Nat.zero_le _, rfl, by rw [sumT_zero]; exact g, by rw [sumT_zero]; rfl, x, rfl⟩
    case round =>
      obtain ⟨k, hk, rfl, hs, rfl, z, rfl⟩ := hrel
      generalize hq : xs.length + sumT Tile.cnt xs k = q at hs ⊢
      have HQ := Lib.hid hq
      clear hq
      by_cases hlt : k < xs.length
      · obtain ⟨b, o, cs, rfl, hb, gg, ee⟩ := Ty.elem h hB k hlt
        obtain ⟨p0, rfl, s0, r1⟩ := Tile.cells ee
        have d0 : ∀ z : Ext w, (w.to z).cell? ⟨b, o + k * 2, none⟩ = some (.string xs[k].Name) := gg 0 _ rfl
        have d1 : ∀ z : Ext w, (w.to z).cell? ⟨b, o + k * 2 + 1, none⟩ = some (p0) := gg 1 _ rfl
        clear gg
        have hs1 := fun z : Ext w => szTile_any p0 xs[k] (l - q) (by omega) (by omega) (w.to z) B (Nat.le_trans hB z.below.size) (Ty.rep_to _ hB r1 z) s0
        have hsum := sumT_succ Tile.cnt xs k hlt
        have hsle := sumT_le Tile.cnt xs (k + 1)
        have HSU := Lib.hid hsum
        have HSL := Lib.hid hsle
        clear hsum hsle
        by_cases gk : ((Tile.cnt xs[k] : Nat) : Int) ≤ l - q
        · simp only [szR_ok gk] at hs1
          have HS1 := Lib.hid hs1
          clear hs1
          go_wp2_with (go_at_call 98; refine call_ext (HS1.out _) ?_; intro y)
          go_roundw
          case rel =>
            have h1 := HSU.out
            have h2 := HQ.out
            exact ⟨k + 1, by omega, by go_num, by rw [h1]; omega, by rw [h1]; go_num, y, rfl⟩
          case measure => simp [intOf]; omega
        · simp only [szR_no gk] at hs1
          have HS1 := Lib.hid hs1
          clear hs1
          go_wp2_with (go_at_call 98; refine call_ext (HS1.out _) ?_; intro y)
          go_ret
          have h1 := HSU.out
          have h2 := HQ.out
          have h3 := HSL.out
          exact ⟨by rw [szR_no (by unfold cntL; omega)]; rfl, y.below⟩
      · obtain rfl : k = xs.length := by omega
        go_wp2_with fail
        go_ret
        have h2 := HQ.out
        have h3 := sumT_all Tile.cnt xs
        exact ⟨by rw [szR_ok (by unfold cntL; omega), show cntL Tile.cnt xs = q by unfold cntL; omega]; rfl, z.below⟩
  · rw [szR_no (by have := cntL_len Tile.cnt xs; omega)]
    go_enter Try.func47, Try.ntmps47
    go_wp2
    go_ret
    exact ⟨rfl, by go_grown⟩
set_option maxRecDepth 10000 in
set_option maxHeartbeats 1000000 in
theorem toTile_any (v0 : Value) (q : Tile) (w : World) (B : Nat) (hB : B ≤ w.heap.size) (h0 : (Ty.slice 2 (Ty.int .i64)).rep w B [v0] q.Sides) (p0 : q.Name.size ≤ maxLen) (hn : Tile.cnt q ≤ 1048576) :
    Calls Try.prog 102 #[.agg #[.string q.Name, v0]] w fun e w' => (∃ u0 : Value, e = .returned (.agg #[.string q.Name, u0]) ∧ Own Tile.ty w' w.heap.size w'.heap.size [.string q.Name, u0] q) ∧ Below w.heap.size w w' := by
  have hn' := hn
  unfold Tile.cnt at hn'
  obtain ⟨a0, z0, rfl, _, _⟩ := Ty.form h0
  have H0 := Lib.hid h0
  clear h0
  have P0 := Lib.hid p0
  clear p0
  clear hn
  go_enter Try.func102, Try.ntmps102
  go_wp2_with fail
  refine callbase ?_
  intro W0 hW
  have hz : Below w.heap.size w W0 := by rw [hW]; go_grown
  have hs : w.heap.size + 3 = W0.heap.size := by rw [hW]; simp only [World.size_alloc]
  have hb0 := at_of hW (push3_0 _ _ _ _)
  have hb1 := at_of hW (push3_1 _ _ _ _)
  have hb2 := at_of hW (push3_2 _ _ _ _)
  have HS := Lib.hid hs
  clear hs hW
  refine (toInt64S_any _ q.Sides W0 B (Nat.le_trans hB hz.size) (Ty.rep_below _ H0.out (hz.mono hB)) (by omega)).mono ?_
  rintro e w0 ⟨⟨u0, rfl, OO⟩, hb⟩
  have hlt : w.heap.size + 3 ≤ W0.heap.size := by have := HS.out; omega
  have hle := hb.size
  have hb0 := blk_on hb hb0
  have hb1 := blk_on hb hb1
  have hb2 := blk_on hb hb2
  have hz := hz.trans (hb.mono hz.size)
  obtain ⟨ua0, uc0, rfl⟩ := Own.form OO
  have O0 := OO
  clear OO
  have c0 := cel2 hb0
  have f0 := celf hb0
  have HB0 := Lib.hid hb0
  clear hb0
  have c1 := cel2 hb1
  have f1 := celf hb1
  have HB1 := Lib.hid hb1
  clear hb1
  have c2 := cel2 hb2
  have f2 := celf hb2
  have HB2 := Lib.hid hb2
  clear hb2
  have HZ := Lib.hid hz
  have HLT := Lib.hid hlt
  clear hz hb hlt
  have HO0 := Lib.hid O0
  clear O0
  go_wp2_with fail
  refine bodyPost_ret (results_cell_row rfl _ _ (w.heap.size + 1) 149 _ _ _ rfl (blk_set (blk_set (blk_far (HB1.out) _ (by simp <;> omega)) _) _) Try.underlying149 rfl (by kernel_rfl)) rfl ?_
  have hlt := HLT.out
  refine ⟨⟨_, rfl, ?_⟩, (((HZ.out.setCell (by simp <;> omega) _).setCell (by simp <;> omega) _).setCell (by simp <;> omega) _)⟩
  refine Own.mono (lo := W0.heap.size) (hi := w0.heap.size) ?_ (by have := HS.out; omega) (by simp only [World.size_setCell]; exact Nat.le_refl _)
  exact Tile.own_mk P0.out (Own.mono (lo := W0.heap.size) (hi' := w0.heap.size) (Own.set (Own.set (Own.set (HO0.out) (by omega) _) (by omega) _) (by omega) _) (Nat.le_refl _) (by omega)) (by omega)
set_option maxRecDepth 10000 in
set_option maxHeartbeats 1000000 in
theorem toTileS_any (v : Value) (xs : List Tile) (w : World) (B : Nat) (hB : B ≤ w.heap.size) (h : (Ty.slice 149 Tile.ty).rep w B [v] xs) (hn : cntL Tile.cnt xs ≤ 1048576) :
    Calls Try.prog 54 #[v] w fun e w' => (∃ v', e = .returned v' ∧ Own (Ty.slice 149 Tile.ty) w' w.heap.size w'.heap.size [v'] xs) ∧ Below w.heap.size w w' := by
  obtain ⟨a, c, rfl, hc, hm⟩ := Ty.form h
  have hcn := cntL_len Tile.cnt xs
  have hn1 : xs.length ≤ 1048576 := by omega
  clear hcn
  have HN := Lib.hid hn
  clear hn
  have hmk := fun W => run_make_n Try.underlying35 info_Tile xs.length (by omega) (by omega) W
  go_enter Try.func54, Try.ntmps54
  go_wp2_with fail
  go_loopw [4] (fun i wr => ∃ k : Nat, k ≤ xs.length ∧ i = .int .i64 k ∧ Below w.heap.size w wr ∧ w.heap.size < wr.heap.size ∧ ∃ raw left, left.length + raw.length = xs.length * 2 ∧ wr.heap[w.heap.size]? = some (.cells (raw ++ left).toArray 149 (0, 0)) ∧ OwnRows Tile.ty wr (w.heap.size + 1) wr.heap.size raw (xs.take k)) (fun i _ => xs.length - (intOf i).toNat)
  case atStart =>
    refine ⟨0, Nat.zero_le _, rfl, (Below.refl _ _).alloc (Nat.le_refl _) _, by simp, [], (madeCells (Value.cells (.agg #[.string ByteArray.empty, .slice none 0 0])) (xs.length * 2)).toList, by rw [made_len]; simp, made_start (.agg #[.string ByteArray.empty, .slice none 0 0]) (xs.length * 2) 149 w, ?_⟩
    rw [List.take_zero]
    exact OwnRows.nil _ _ _ _
  case round =>
    obtain ⟨k, hk, rfl, hbl, hgs, raw, left, hleft, hg, hro⟩ := hrel
    have hrl := hro.len
    rw [List.length_take, Nat.min_eq_left hk] at hrl
    simp only [show Tile.ty.size = 2 from rfl] at hrl
    by_cases hlt : k < xs.length
    · obtain ⟨b, o, cs, rfl, hb, gg, ee⟩ := Ty.elem h hB k hlt
      obtain ⟨p0, rfl, r0, r1⟩ := Tile.cells ee
      have d0 : wr.cell? ⟨b, o + k * 2, none⟩ = some (.string xs[k].Name) := gg 0 _ rfl ⟨wr, hbl⟩
      have d1 : wr.cell? ⟨b, o + k * 2 + 1, none⟩ = some (p0) := gg 1 _ rfl ⟨wr, hbl⟩
      clear gg
      have R0 := Lib.hid r0
      clear r0
      have R1 := Lib.hid r1
      clear r1
      have hck := cntL_mem Tile.cnt xs k hlt
      have hcn := HN.out
      have hck1 : Tile.cnt xs[k] ≤ 1048576 := by omega
      clear hck hcn
      have HG := Lib.hid hg
      have HRO := Lib.hid hro
      have HB := Lib.hid hbl
      have HL := Lib.hid hleft
      have HRL := Lib.hid hrl
      clear hg hro hbl hleft hrl
      go_wp2_with fail
      refine (toTile_any _ xs[k] wr B (Nat.le_trans hB HB.out.size) (Ty.rep_below _ R1.out (HB.out.mono hB)) R0.out hck1).mono ?_
      rintro e w1 ⟨⟨u0, rfl, OO⟩, hb1⟩
      have hg1 := blk_on hb1 HG.out
      have hro1 : OwnRows Tile.ty w1 (w.heap.size + 1) wr.heap.size raw (xs.take k) := HRO.out.keep (fun b _ h2 => hb1.block b h2)
      have hz1 : Below w.heap.size w w1 := HB.out.trans (hb1.mono HB.out.size)
      have hs1 := hb1.size
      have hll : 2 ≤ left.length := by have := HL.out; have := HRL.out; omega
      have hone := OO.one
      have HONE := Lib.hid hone
      have HG1 := Lib.hid hg1
      have HRO1 := Lib.hid hro1
      have HZ1 := Lib.hid hz1
      have HOO := Lib.hid OO
      clear hone hg1 hro1 hz1 OO hb1 HG HRO HB
      go_wp2_with (refine wpList_fill rfl 149 _ _ rfl w.heap.size raw left [.string xs[k].Name, u0] 149 HG1.out (k * 2) rfl HRL.out.symm rfl (by kernel_rfl) hll HONE.out ?_)
      intro w2 hg2 hgr hs2
      have HG2 := Lib.hid hg2
      have hz2 : Below w.heap.size w w2 := grownBy_below HZ1.out hgr HZ1.out.size (Nat.le_refl _)
      have hro2 : OwnRows Tile.ty w2 (w.heap.size + 1) wr.heap.size raw (xs.take k) := HRO1.out.keep (fun b h1 h2 => hgr.block b (by omega) (fun e => by injection e; omega))
      have hoo2 := HOO.out.grown hgr (by omega) (Nat.le_refl _)
      have HZ2 := Lib.hid hz2
      have HRO2 := Lib.hid hro2
      have HOO2 := Lib.hid hoo2
      have hse := Nat.le_of_eq hs2
      have HS2 := Lib.hid hs2
      clear hg2 hgr hz2 hro2 hoo2 hs2
      go_wp2_with fail
      go_roundw
      case rel =>
        have hl := HL.out
        have hrl := HRL.out
        have hs2 := HS2.out
        refine ⟨k + 1, by omega, by go_num, HZ2.out, by omega, raw ++ [.string xs[k].Name, u0], left.drop 2, by simp only [List.length_drop, List.length_append, List.length_cons, List.length_nil]; omega, by simpa using HG2.out, ?_⟩
        rw [take_succ' xs k hlt, hs2]
        exact OwnRows.snoc (m := wr.heap.size) HRO2.out HOO2.out (by omega) hs1
      case measure => simp [intOf]; omega
    · obtain rfl : k = xs.length := by omega
      have HG := Lib.hid hg
      have HRO := Lib.hid hro
      have HB := Lib.hid hbl
      clear hg hro hbl hleft hrl
      go_wp2_with fail
      go_ret
      have hro := HRO.out
      rw [List.take_length] at hro
      exact ⟨⟨_, rfl, own_filled HG.out hro (Nat.le_refl _) (by unfold maxLen; omega) hgs⟩, HB.out⟩

end Go.Proofs.Ytffnoglnpkcjnaa
