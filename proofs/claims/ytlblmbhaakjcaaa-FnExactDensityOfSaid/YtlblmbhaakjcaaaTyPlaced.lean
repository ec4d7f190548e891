/- Made by tygen.py: the type Placed. -/
import Derived.Test.YtlblmbhaakjcaaaRows
import Derived.Test.YtlblmbhaakjcaaaLib
import Derived.Test.YtlblmbhaakjcaaaTyBase
import Derived.Test.YtlblmbhaakjcaaaTyPoint
set_option linter.unusedSimpArgs false
set_option linter.unusedVariables false
set_option linter.all false
namespace Go.Proofs.Ytlblmbhaakjcaaa
open Go.RowKit Go.ChangeShapes Go.WideShapes Go.ChangeAt
structure Placed where
  At : Point
  Tile : Int
  deriving DecidableEq
def Placed.ty : Ty Placed := Ty.via (Ty.prod Point.ty (Ty.int .i64)) (fun x => (x.At, x.Tile))
theorem Placed.cells {w : World} {B : Nat} {cs : List Value} {x : Placed} (h : Placed.ty.rep w B cs x) : cs = [.int .i64 x.At.X, .int .i64 x.At.Y, .int .i64 x.Tile] ∧ InK .i64 x.At.X ∧ InK .i64 x.At.Y ∧ InK .i64 x.Tile := by
  obtain ⟨_, _, rfl, h0, h1⟩ := h
  obtain ⟨rfl, i0_0, i0_1⟩ := Point.cells h0
  obtain ⟨rfl, i1⟩ := h1
  exact ⟨rfl, i0_0, i0_1, i1⟩
theorem Placed.parts {w : World} {B : Nat} {x : Placed} (h : Placed.ty.rep w B [.int .i64 x.At.X, .int .i64 x.At.Y, .int .i64 x.Tile] x) : InK .i64 x.At.X ∧ InK .i64 x.At.Y ∧ InK .i64 x.Tile := by
  obtain ⟨hh, r0, r1, r2⟩ := Placed.cells h
  exact ⟨r0, r1, r2⟩
theorem Placed.rep_mk {w : World} {B : Nat} {x : Placed} (h0 : InK .i64 x.At.X) (h1 : InK .i64 x.At.Y) (h2 : InK .i64 x.Tile) : Placed.ty.rep w B [.int .i64 x.At.X, .int .i64 x.At.Y, .int .i64 x.Tile] x :=
  ⟨_, _, rfl, Point.rep_mk h0 h1, ⟨rfl, h2⟩⟩
set_option maxRecDepth 100000 in
theorem Placed.reads : Reads Try.prog 81 Placed.ty :=
  reads_via (t := (Ty.prod Point.ty (Ty.int .i64))) (fun x : Placed => (x.At, x.Tile)) (fun y => ⟨y.1, y.2⟩) (fun _ => rfl) (reads_struct Try.underlying81 (by kernel_rfl) (fld_cons rfl (Point.reads) (fld_one rfl (reads_int Try.underlying2 (by kernel_rfl)))))
theorem Placed.own_mk {w : World} {m0 : Nat} {q : Placed} (p0 : InK .i64 q.At.X) (p1 : InK .i64 q.At.Y) (p2 : InK .i64 q.Tile) : Own Placed.ty w m0 m0 [.int .i64 q.At.X, .int .i64 q.At.Y, .int .i64 q.Tile] q :=
  (Own.pair (Point.own_mk (m0 := m0) p0 p1) (Own.int p2 w m0 m0) (by omega) (by omega))
theorem info_Placed : (Try.prog.info? 67).map (fun i => (i.zero, i.size, i.bytes)) = some (some (.agg #[.int .i64 0, .int .i64 0, .int .i64 0]), 3, 24) := by kernel_rfl
set_option maxRecDepth 10000 in
set_option maxHeartbeats 1000000 in
theorem eqPlaced_any (x : Placed) (w : World) :
    Calls Try.prog 48 #[.agg #[.int .i64 x.At.X, .int .i64 x.At.Y, .int .i64 x.Tile], .agg #[.int .i64 x.At.X, .int .i64 x.At.Y, .int .i64 x.Tile]] w fun e w' => e = .returned (.bool true) ∧ Below w.heap.size w w' := by
  go_enter Try.func48, Try.ntmps48
  go_upto_region 1 with fail
  refine rebase ?_
  intro W1 hW _
  have hz : Below w.heap.size w W1 := by rw [hW]; go_grown
  have hb0 := at_of hW (push2_0 _ _ _)
  have c0 := box3 hb0
  have f0 := boxf hb0
  have B0 := Lib.hid hb0
  clear hb0
  have hb1 := at_of hW (push2_1 _ _ _)
  have c1 := box3 hb1
  have f1 := boxf hb1
  have B1 := Lib.hid hb1
  clear hb1
  have HW := Lib.hid hW
  clear hW
  have hs0 := fun z : Ext W1 => eqPoint_any x.At (W1.to z)
  have HS0 := Lib.hid hs0
  clear hs0
  go_wp2_with fail
  first
    | (refine call_ext (HS0.out _) ?_; intro y)
    | (refine wp_region_ext (by kernel_rfl) (by kernel_rfl) ?_; repeat (go_big_quiet_step ((go_at_call 59; exact ext_call (HS0.out _)))); refine wpQuiet_nil ?_; rintro _ ⟨y, rfl⟩)
  go_wp2_with fail
  go_ret
  exact ⟨rfl, ext_end _ hz⟩
set_option maxRecDepth 10000 in
set_option maxHeartbeats 1000000 in
theorem eqPlacedS_any (v1 v2 : Value) (xs : List Placed) (w : World) (B : Nat) (hB : B ≤ w.heap.size) (h1 : (Ty.slice 67 Placed.ty).rep w B [v1] xs) (h2 : (Ty.slice 67 Placed.ty).rep w B [v2] xs) :
    Calls Try.prog 24 #[v1, v2] w fun e w' => e = .returned (.bool true) ∧ Below w.heap.size w w' := by
  obtain ⟨a1, c1, rfl, _, hm1⟩ := Ty.form h1
  obtain ⟨a2, c2, rfl, _, hm2⟩ := Ty.form h2
  have hn : xs.length ≤ 9223372036854775807 := by unfold maxLen at hm1; omega
  clear hm1 hm2
  refine rebaseC ?_
  intro x
  go_enter Try.func24, Try.ntmps24
  go_wp2
  go_loopw [5] (fun i wr => ∃ k : Nat, k ≤ xs.length ∧ i = .int .i64 k ∧ ∃ z : Ext w, wr = w.to z) (fun i _ => xs.length - (intOf i).toNat)
  case atStart => exact ⟨0, Nat.zero_le _, rfl, x, rfl⟩
  case round =>
    obtain ⟨k, hk, rfl, z, rfl⟩ := hrel
    by_cases hlt : k < xs.length
    · obtain ⟨b1, o1, cs1, rfl, hb1, g1, e1⟩ := Ty.elem h1 hB k hlt
      obtain ⟨rfl, _, _, _⟩ := Placed.cells e1
      have d1_0 : ∀ z : Ext w, (w.to z).cell? ⟨b1, o1 + k * 3, none⟩ = some (.int .i64 xs[k].At.X) := g1 0 _ rfl
      have d1_1 : ∀ z : Ext w, (w.to z).cell? ⟨b1, o1 + k * 3 + 1, none⟩ = some (.int .i64 xs[k].At.Y) := g1 1 _ rfl
      have d1_2 : ∀ z : Ext w, (w.to z).cell? ⟨b1, o1 + k * 3 + 2, none⟩ = some (.int .i64 xs[k].Tile) := g1 2 _ rfl
      clear g1
      obtain ⟨b2, o2, cs2, rfl, hb2, g2, e2⟩ := Ty.elem h2 hB k hlt
      obtain ⟨rfl, _, _, _⟩ := Placed.cells e2
      have d2_0 : ∀ z : Ext w, (w.to z).cell? ⟨b2, o2 + k * 3, none⟩ = some (.int .i64 xs[k].At.X) := g2 0 _ rfl
      have d2_1 : ∀ z : Ext w, (w.to z).cell? ⟨b2, o2 + k * 3 + 1, none⟩ = some (.int .i64 xs[k].At.Y) := g2 1 _ rfl
      have d2_2 : ∀ z : Ext w, (w.to z).cell? ⟨b2, o2 + k * 3 + 2, none⟩ = some (.int .i64 xs[k].Tile) := g2 2 _ rfl
      clear g2
      have hs := fun z : Ext w => eqPlaced_any xs[k] (w.to z)
      have HS := Lib.hid hs
      clear hs
      go_wp2_with fail
      refine wp_region_ext (by kernel_rfl) (by kernel_rfl) ?_
      repeat (go_big_quiet_step ((go_at_call 48; exact ext_call (HS.out _))))
      refine wpQuiet_nil ?_
      rintro _ ⟨y, rfl⟩
      go_wp2_with fail
      go_roundw
      case rel => exact ⟨k + 1, by omega, by go_num, y, rfl⟩
      case measure => simp [intOf]; omega
    · go_wp2_with fail
      go_ret
      exact ⟨rfl, z.below⟩
set_option maxRecDepth 10000 in
set_option maxHeartbeats 1000000 in
theorem szPlacedS_any (v : Value) (xs : List Placed) (l : Int) (hl0 : 0 ≤ l) (hl1 : l ≤ 1048576) (w : World) (B : Nat) (hB : B ≤ w.heap.size) (h : (Ty.slice 67 Placed.ty).rep w B [v] xs) :
    Calls Try.prog 16 #[v, .int .i64 l] w fun e w' => e = .returned (.int .i64 (szR l (xs.length))) ∧ Below w.heap.size w w' := by
  have _ := hB
  obtain ⟨a, c, rfl, hc, hm⟩ := Ty.form h
  have hn : xs.length ≤ 9223372036854775807 := by unfold maxLen at hm; omega
  clear hm
  by_cases g : (xs.length : Int) ≤ l
  · rw [szR_ok g]
    go_enter Try.func16, Try.ntmps16
    go_wp2
    go_ret
    exact ⟨rfl, by go_grown⟩
  · rw [szR_no g]
    go_enter Try.func16, Try.ntmps16
    go_wp2
    go_ret
    exact ⟨rfl, by go_grown⟩
set_option maxRecDepth 10000 in
set_option maxHeartbeats 1000000 in
theorem toPlaced_any (q : Placed) (w : World) :
    Calls Try.prog 40 #[.agg #[.int .i64 q.At.X, .int .i64 q.At.Y, .int .i64 q.Tile]] w fun e w' => e = .returned (.agg #[.int .i64 q.At.X, .int .i64 q.At.Y, .int .i64 q.Tile]) ∧ Below w.heap.size w w' := by
  go_enter Try.func40, Try.ntmps40
  go_wp2
  go_returns
  exact ⟨rfl, by go_grown⟩
set_option maxRecDepth 10000 in
set_option maxHeartbeats 1000000 in
theorem toPlacedS_any (v : Value) (xs : List Placed) (w : World) (B : Nat) (hB : B ≤ w.heap.size) (h : (Ty.slice 67 Placed.ty).rep w B [v] xs) (hn : xs.length ≤ 1048576) :
    Calls Try.prog 20 #[v] w fun e w' => (∃ v', e = .returned v' ∧ Own (Ty.slice 67 Placed.ty) w' w.heap.size w'.heap.size [v'] xs) ∧ Below w.heap.size w w' := by
  obtain ⟨a, c, rfl, hc, hm⟩ := Ty.form h
  have hn1 := hn
  have hmk := fun W => run_make_n Try.underlying30 info_Placed xs.length (by omega) (by omega) W
  go_enter Try.func20, Try.ntmps20
  go_wp2_with fail
  go_loopw [4] (fun i wr => ∃ k : Nat, k ≤ xs.length ∧ i = .int .i64 k ∧ Below w.heap.size w wr ∧ w.heap.size < wr.heap.size ∧ ∃ raw left, left.length + raw.length = xs.length * 3 ∧ wr.heap[w.heap.size]? = some (.cells (raw ++ left).toArray 67 (0, 0)) ∧ OwnRows Placed.ty wr (w.heap.size + 1) wr.heap.size raw (xs.take k)) (fun i _ => xs.length - (intOf i).toNat)
  case atStart =>
    refine ⟨0, Nat.zero_le _, rfl, (Below.refl _ _).alloc (Nat.le_refl _) _, by simp, [], (madeCells (Value.cells (.agg #[.int .i64 0, .int .i64 0, .int .i64 0])) (xs.length * 3)).toList, by rw [made_len]; simp, made_start (.agg #[.int .i64 0, .int .i64 0, .int .i64 0]) (xs.length * 3) 67 w, ?_⟩
    rw [List.take_zero]
    exact OwnRows.nil _ _ _ _
  case round =>
    obtain ⟨k, hk, rfl, hbl, hgs, raw, left, hleft, hg, hro⟩ := hrel
    have hrl := hro.len
    rw [List.length_take, Nat.min_eq_left hk] at hrl
    simp only [show Placed.ty.size = 3 from rfl] at hrl
    by_cases hlt : k < xs.length
    · obtain ⟨b, o, cs, rfl, hb, gg, ee⟩ := Ty.elem h hB k hlt
      obtain ⟨rfl, r0, r1, r2⟩ := Placed.cells ee
      have d0 : wr.cell? ⟨b, o + k * 3, none⟩ = some (.int .i64 xs[k].At.X) := gg 0 _ rfl ⟨wr, hbl⟩
      have d1 : wr.cell? ⟨b, o + k * 3 + 1, none⟩ = some (.int .i64 xs[k].At.Y) := gg 1 _ rfl ⟨wr, hbl⟩
      have d2 : wr.cell? ⟨b, o + k * 3 + 2, none⟩ = some (.int .i64 xs[k].Tile) := gg 2 _ rfl ⟨wr, hbl⟩
      clear gg
      have R0 := Lib.hid r0
      clear r0
      have R1 := Lib.hid r1
      clear r1
      have R2 := Lib.hid r2
      clear r2
      have HG := Lib.hid hg
      have HRO := Lib.hid hro
      have HB := Lib.hid hbl
      have HL := Lib.hid hleft
      have HRL := Lib.hid hrl
      clear hg hro hbl hleft hrl
      go_wp2_with fail
      refine (toPlaced_any xs[k] _).mono ?_
      rintro e w1 ⟨rfl, hb1⟩
      have OO : Own Placed.ty w1 wr.heap.size w1.heap.size [.int .i64 xs[k].At.X, .int .i64 xs[k].At.Y, .int .i64 xs[k].Tile] xs[k] := Own.mono (lo := wr.heap.size) (hi := wr.heap.size) (Placed.own_mk R0.out R1.out R2.out) (Nat.le_refl _) hb1.size
      have hg1 := blk_on hb1 HG.out
      have hro1 : OwnRows Placed.ty w1 (w.heap.size + 1) wr.heap.size raw (xs.take k) := HRO.out.keep (fun b _ h2 => hb1.block b h2)
      have hz1 : Below w.heap.size w w1 := HB.out.trans (hb1.mono HB.out.size)
      have hs1 := hb1.size
      have hll : 3 ≤ left.length := by have := HL.out; have := HRL.out; omega
      have hone := OO.one
      have HONE := Lib.hid hone
      have HG1 := Lib.hid hg1
      have HRO1 := Lib.hid hro1
      have HZ1 := Lib.hid hz1
      have HOO := Lib.hid OO
      clear hone hg1 hro1 hz1 OO hb1 HG HRO HB
      go_wp2_with (refine wpList_fill rfl 67 _ _ rfl w.heap.size raw left [.int .i64 xs[k].At.X, .int .i64 xs[k].At.Y, .int .i64 xs[k].Tile] 67 HG1.out (k * 3) rfl HRL.out.symm rfl (by kernel_rfl) hll HONE.out ?_)
      intro w2 hg2 hgr hs2
      have HG2 := Lib.hid hg2
      have hz2 : Below w.heap.size w w2 := grownBy_below HZ1.out hgr HZ1.out.size (Nat.le_refl _)
      have hro2 : OwnRows Placed.ty w2 (w.heap.size + 1) wr.heap.size raw (xs.take k) := HRO1.out.keep (fun b h1 h2 => hgr.block b (by omega) (fun e => by injection e; omega))
      have hoo2 := HOO.out.grown hgr (by omega) (Nat.le_refl _)
      have HZ2 := Lib.hid hz2
      have HRO2 := Lib.hid hro2
      have HOO2 := Lib.hid hoo2
      have hse := Nat.le_of_eq hs2
      have HS2 := Lib.hid hs2
      clear hg2 hgr hz2 hro2 hoo2 hs2
      go_wp2_with fail
      go_roundw
      case rel =>
        have hl := HL.out
        have hrl := HRL.out
        have hs2 := HS2.out
        refine ⟨k + 1, by omega, by go_num, HZ2.out, by omega, raw ++ [.int .i64 xs[k].At.X, .int .i64 xs[k].At.Y, .int .i64 xs[k].Tile], left.drop 3, by simp only [List.length_drop, List.length_append, List.length_cons, List.length_nil]; omega, by simpa using HG2.out, ?_⟩
        rw [take_succ' xs k hlt, hs2]
        exact OwnRows.snoc (m := wr.heap.size) HRO2.out HOO2.out (by omega) hs1
      case measure => simp [intOf]; omega
    · obtain rfl : k = xs.length := by omega
      have HG := Lib.hid hg
      have HRO := Lib.hid hro
      have HB := Lib.hid hbl
      clear hg hro hbl hleft hrl
      go_wp2_with fail
      go_ret
      have hro := HRO.out
      rw [List.take_length] at hro
      exact ⟨⟨_, rfl, own_filled HG.out hro (Nat.le_refl _) (by unfold maxLen; omega) hgs⟩, HB.out⟩

end Go.Proofs.Ytlblmbhaakjcaaa
