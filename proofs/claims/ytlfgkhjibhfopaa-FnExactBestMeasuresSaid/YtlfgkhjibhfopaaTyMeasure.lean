/- Made by tygen.py: the type Measure. -/
import Derived.Test.YtlfgkhjibhfopaaRows
import Derived.Test.YtlfgkhjibhfopaaLib
import Derived.Test.YtlfgkhjibhfopaaTyBase
set_option linter.unusedSimpArgs false
set_option linter.unusedVariables false
set_option linter.all false
namespace Go.Proofs.Ytlfgkhjibhfopaa
open Go.RowKit Go.ChangeShapes Go.WideShapes Go.ChangeAt
structure Measure where
  Tiles : Int
  Kinds : Int
  Glues : Int
  Area : Int
  Strength : Int
  Misfits : Int
  Slack : Int
  deriving DecidableEq
def Measure.ty : Ty Measure := Ty.via (Ty.prod (Ty.int .i64) (Ty.prod (Ty.int .i64) (Ty.prod (Ty.int .i64) (Ty.prod (Ty.int .i64) (Ty.prod (Ty.int .i64) (Ty.prod (Ty.int .i64) (Ty.int .i64))))))) (fun x => (x.Tiles, x.Kinds, x.Glues, x.Area, x.Strength, x.Misfits, x.Slack))
theorem Measure.cells {w : World} {B : Nat} {cs : List Value} {x : Measure} (h : Measure.ty.rep w B cs x) : cs = [.int .i64 x.Tiles, .int .i64 x.Kinds, .int .i64 x.Glues, .int .i64 x.Area, .int .i64 x.Strength, .int .i64 x.Misfits, .int .i64 x.Slack] ∧ InK .i64 x.Tiles ∧ InK .i64 x.Kinds ∧ InK .i64 x.Glues ∧ InK .i64 x.Area ∧ InK .i64 x.Strength ∧ InK .i64 x.Misfits ∧ InK .i64 x.Slack := by
  obtain ⟨_, _, rfl, h0, _, _, rfl, h1, _, _, rfl, h2, _, _, rfl, h3, _, _, rfl, h4, _, _, rfl, h5, h6⟩ := h
  obtain ⟨rfl, i0⟩ := h0
  obtain ⟨rfl, i1⟩ := h1
  obtain ⟨rfl, i2⟩ := h2
  obtain ⟨rfl, i3⟩ := h3
  obtain ⟨rfl, i4⟩ := h4
  obtain ⟨rfl, i5⟩ := h5
  obtain ⟨rfl, i6⟩ := h6
  exact ⟨rfl, i0, i1, i2, i3, i4, i5, i6⟩
theorem Measure.parts {w : World} {B : Nat} {x : Measure} (h : Measure.ty.rep w B [.int .i64 x.Tiles, .int .i64 x.Kinds, .int .i64 x.Glues, .int .i64 x.Area, .int .i64 x.Strength, .int .i64 x.Misfits, .int .i64 x.Slack] x) : InK .i64 x.Tiles ∧ InK .i64 x.Kinds ∧ InK .i64 x.Glues ∧ InK .i64 x.Area ∧ InK .i64 x.Strength ∧ InK .i64 x.Misfits ∧ InK .i64 x.Slack := by
  obtain ⟨hh, r0, r1, r2, r3, r4, r5, r6⟩ := Measure.cells h
  exact ⟨r0, r1, r2, r3, r4, r5, r6⟩
theorem Measure.rep_mk {w : World} {B : Nat} {x : Measure} (h0 : InK .i64 x.Tiles) (h1 : InK .i64 x.Kinds) (h2 : InK .i64 x.Glues) (h3 : InK .i64 x.Area) (h4 : InK .i64 x.Strength) (h5 : InK .i64 x.Misfits) (h6 : InK .i64 x.Slack) : Measure.ty.rep w B [.int .i64 x.Tiles, .int .i64 x.Kinds, .int .i64 x.Glues, .int .i64 x.Area, .int .i64 x.Strength, .int .i64 x.Misfits, .int .i64 x.Slack] x :=
  ⟨_, _, rfl, ⟨rfl, h0⟩, _, _, rfl, ⟨rfl, h1⟩, _, _, rfl, ⟨rfl, h2⟩, _, _, rfl, ⟨rfl, h3⟩, _, _, rfl, ⟨rfl, h4⟩, _, _, rfl, ⟨rfl, h5⟩, ⟨rfl, h6⟩⟩
set_option maxRecDepth 100000 in
theorem Measure.reads : Reads Try.prog 23 Measure.ty :=
  reads_via (t := (Ty.prod (Ty.int .i64) (Ty.prod (Ty.int .i64) (Ty.prod (Ty.int .i64) (Ty.prod (Ty.int .i64) (Ty.prod (Ty.int .i64) (Ty.prod (Ty.int .i64) (Ty.int .i64)))))))) (fun x : Measure => (x.Tiles, x.Kinds, x.Glues, x.Area, x.Strength, x.Misfits, x.Slack)) (fun y => ⟨y.1, y.2.1, y.2.2.1, y.2.2.2.1, y.2.2.2.2.1, y.2.2.2.2.2.1, y.2.2.2.2.2.2⟩) (fun _ => rfl) (reads_struct Try.underlying23 (by kernel_rfl) (fld_cons rfl (reads_int Try.underlying2 (by kernel_rfl)) (fld_cons rfl (reads_int Try.underlying2 (by kernel_rfl)) (fld_cons rfl (reads_int Try.underlying2 (by kernel_rfl)) (fld_cons rfl (reads_int Try.underlying2 (by kernel_rfl)) (fld_cons rfl (reads_int Try.underlying2 (by kernel_rfl)) (fld_cons rfl (reads_int Try.underlying2 (by kernel_rfl)) (fld_one rfl (reads_int Try.underlying2 (by kernel_rfl))))))))))
theorem Measure.own_mk {w : World} {m0 : Nat} {q : Measure} (p0 : InK .i64 q.Tiles) (p1 : InK .i64 q.Kinds) (p2 : InK .i64 q.Glues) (p3 : InK .i64 q.Area) (p4 : InK .i64 q.Strength) (p5 : InK .i64 q.Misfits) (p6 : InK .i64 q.Slack) : Own Measure.ty w m0 m0 [.int .i64 q.Tiles, .int .i64 q.Kinds, .int .i64 q.Glues, .int .i64 q.Area, .int .i64 q.Strength, .int .i64 q.Misfits, .int .i64 q.Slack] q :=
  (Own.pair (Own.int p0 w m0 m0) (Own.pair (Own.int p1 w m0 m0) (Own.pair (Own.int p2 w m0 m0) (Own.pair (Own.int p3 w m0 m0) (Own.pair (Own.int p4 w m0 m0) (Own.pair (Own.int p5 w m0 m0) (Own.int p6 w m0 m0) (by omega) (by omega)) (by omega) (by omega)) (by omega) (by omega)) (by omega) (by omega)) (by omega) (by omega)) (by omega) (by omega))
theorem info_Measure : (Try.prog.info? 25).map (fun i => (i.zero, i.size, i.bytes)) = some (some (.agg #[.int .i64 0, .int .i64 0, .int .i64 0, .int .i64 0, .int .i64 0, .int .i64 0, .int .i64 0]), 7, 56) := by kernel_rfl
set_option maxRecDepth 10000 in
set_option maxHeartbeats 1000000 in
theorem eqMeasure_any (x : Measure) (w : World) :
    Calls Try.prog 99 #[.agg #[.int .i64 x.Tiles, .int .i64 x.Kinds, .int .i64 x.Glues, .int .i64 x.Area, .int .i64 x.Strength, .int .i64 x.Misfits, .int .i64 x.Slack], .agg #[.int .i64 x.Tiles, .int .i64 x.Kinds, .int .i64 x.Glues, .int .i64 x.Area, .int .i64 x.Strength, .int .i64 x.Misfits, .int .i64 x.Slack]] w fun e w' => e = .returned (.bool true) ∧ Below w.heap.size w w' := by
  go_enter Try.func99, Try.ntmps99
  go_upto_region 1 with fail
  refine rebase ?_
  intro W1 hW _
  have hz : Below w.heap.size w W1 := by rw [hW]; go_grown
  have hb0 := at_of hW (push2_0 _ _ _)
  have c0 := box7 hb0
  have f0 := boxf hb0
  have B0 := Lib.hid hb0
  clear hb0
  have hb1 := at_of hW (push2_1 _ _ _)
  have c1 := box7 hb1
  have f1 := boxf hb1
  have B1 := Lib.hid hb1
  clear hb1
  have HW := Lib.hid hW
  clear hW
  go_wp2_with fail
  go_ret
  exact ⟨rfl, ext_end _ hz⟩
set_option maxRecDepth 10000 in
set_option maxHeartbeats 1000000 in
theorem eqMeasureS_any (v1 v2 : Value) (xs : List Measure) (w : World) (B : Nat) (hB : B ≤ w.heap.size) (h1 : (Ty.slice 25 Measure.ty).rep w B [v1] xs) (h2 : (Ty.slice 25 Measure.ty).rep w B [v2] xs) :
    Calls Try.prog 58 #[v1, v2] w fun e w' => e = .returned (.bool true) ∧ Below w.heap.size w w' := by
  obtain ⟨a1, c1, rfl, _, hm1⟩ := Ty.form h1
  obtain ⟨a2, c2, rfl, _, hm2⟩ := Ty.form h2
  have hn : xs.length ≤ 9223372036854775807 := by unfold maxLen at hm1; omega
  clear hm1 hm2
  refine rebaseC ?_
  intro x
  go_enter Try.func58, Try.ntmps58
  go_wp2
  go_loopw [5] (fun i wr => ∃ k : Nat, k ≤ xs.length ∧ i = .int .i64 k ∧ ∃ z : Ext w, wr = w.to z) (fun i _ => xs.length - (intOf i).toNat)
  case atStart => exact ⟨0, Nat.zero_le _, rfl, x, rfl⟩
  case round =>
    obtain ⟨k, hk, rfl, z, rfl⟩ := hrel
    by_cases hlt : k < xs.length
    · obtain ⟨b1, o1, cs1, rfl, hb1, g1, e1⟩ := Ty.elem h1 hB k hlt
      obtain ⟨rfl, _, _, _, _, _, _, _⟩ := Measure.cells e1
      have d1_0 : ∀ z : Ext w, (w.to z).cell? ⟨b1, o1 + k * 7, none⟩ = some (.int .i64 xs[k].Tiles) := g1 0 _ rfl
      have d1_1 : ∀ z : Ext w, (w.to z).cell? ⟨b1, o1 + k * 7 + 1, none⟩ = some (.int .i64 xs[k].Kinds) := g1 1 _ rfl
      have d1_2 : ∀ z : Ext w, (w.to z).cell? ⟨b1, o1 + k * 7 + 2, none⟩ = some (.int .i64 xs[k].Glues) := g1 2 _ rfl
      have d1_3 : ∀ z : Ext w, (w.to z).cell? ⟨b1, o1 + k * 7 + 3, none⟩ = some (.int .i64 xs[k].Area) := g1 3 _ rfl
      have d1_4 : ∀ z : Ext w, (w.to z).cell? ⟨b1, o1 + k * 7 + 4, none⟩ = some (.int .i64 xs[k].Strength) := g1 4 _ rfl
      have d1_5 : ∀ z : Ext w, (w.to z).cell? ⟨b1, o1 + k * 7 + 5, none⟩ = some (.int .i64 xs[k].Misfits) := g1 5 _ rfl
      have d1_6 : ∀ z : Ext w, (w.to z).cell? ⟨b1, o1 + k * 7 + 6, none⟩ = some (.int .i64 xs[k].Slack) := g1 6 _ rfl
      clear g1
      obtain ⟨b2, o2, cs2, rfl, hb2, g2, e2⟩ := Ty.elem h2 hB k hlt
      obtain ⟨rfl, _, _, _, _, _, _, _⟩ := Measure.cells e2
      have d2_0 : ∀ z : Ext w, (w.to z).cell? ⟨b2, o2 + k * 7, none⟩ = some (.int .i64 xs[k].Tiles) := g2 0 _ rfl
      have d2_1 : ∀ z : Ext w, (w.to z).cell? ⟨b2, o2 + k * 7 + 1, none⟩ = some (.int .i64 xs[k].Kinds) := g2 1 _ rfl
      have d2_2 : ∀ z : Ext w, (w.to z).cell? ⟨b2, o2 + k * 7 + 2, none⟩ = some (.int .i64 xs[k].Glues) := g2 2 _ rfl
      have d2_3 : ∀ z : Ext w, (w.to z).cell? ⟨b2, o2 + k * 7 + 3, none⟩ = some (.int .i64 xs[k].Area) := g2 3 _ rfl
      have d2_4 : ∀ z : Ext w, (w.to z).cell? ⟨b2, o2 + k * 7 + 4, none⟩ = some (.int .i64 xs[k].Strength) := g2 4 _ rfl
      have d2_5 : ∀ z : Ext w, (w.to z).cell? ⟨b2, o2 + k * 7 + 5, none⟩ = some (.int .i64 xs[k].Misfits) := g2 5 _ rfl
      have d2_6 : ∀ z : Ext w, (w.to z).cell? ⟨b2, o2 + k * 7 + 6, none⟩ = some (.int .i64 xs[k].Slack) := g2 6 _ rfl
      clear g2
      have hs := fun z : Ext w => eqMeasure_any xs[k] (w.to z)
      have HS := Lib.hid hs
      clear hs
      go_wp2_with fail
      refine wp_region_ext (by kernel_rfl) (by kernel_rfl) ?_
      repeat (go_big_quiet_step ((go_at_call 99; exact ext_call (HS.out _))))
      refine wpQuiet_nil ?_
      rintro _ ⟨y, rfl⟩
      go_wp2_with fail
      go_roundw
      case rel => exact ⟨k + 1, by omega, by go_num, y, rfl⟩
      case measure => simp [intOf]; omega
    · go_wp2_with fail
      go_ret
      exact ⟨rfl, z.below⟩
set_option maxRecDepth 10000 in
set_option maxHeartbeats 1000000 in
theorem szMeasureS_any (v : Value) (xs : List Measure) (l : Int) (hl0 : 0 ≤ l) (hl1 : l ≤ 1048576) (w : World) (B : Nat) (hB : B ≤ w.heap.size) (h : (Ty.slice 25 Measure.ty).rep w B [v] xs) :
    Calls Try.prog 55 #[v, .int .i64 l] w fun e w' => e = .returned (.int .i64 (szR l (xs.length))) ∧ Below w.heap.size w w' := by
  have _ := hB
  obtain ⟨a, c, rfl, hc, hm⟩ := Ty.form h
  have hn : xs.length ≤ 9223372036854775807 := by unfold maxLen at hm; omega
  clear hm
  by_cases g : (xs.length : Int) ≤ l
  · rw [szR_ok g]
    go_enter Try.func55, Try.ntmps55
    go_wp2
    go_ret
    exact ⟨rfl, by go_grown⟩
  · rw [szR_no g]
    go_enter Try.func55, Try.ntmps55
    go_wp2
    go_ret
    exact ⟨rfl, by go_grown⟩
set_option maxRecDepth 10000 in
set_option maxHeartbeats 1000000 in
theorem toMeasure_any (q : Measure) (w : World) :
    Calls Try.prog 16 #[.agg #[.int .i64 q.Tiles, .int .i64 q.Kinds, .int .i64 q.Glues, .int .i64 q.Area, .int .i64 q.Strength, .int .i64 q.Misfits, .int .i64 q.Slack]] w fun e w' => e = .returned (.agg #[.int .i64 q.Tiles, .int .i64 q.Kinds, .int .i64 q.Glues, .int .i64 q.Area, .int .i64 q.Strength, .int .i64 q.Misfits, .int .i64 q.Slack]) ∧ Below w.heap.size w w' := by
  go_enter Try.func16, Try.ntmps16
  go_wp2
  go_returns
  exact ⟨rfl, by go_grown⟩
set_option maxRecDepth 10000 in
set_option maxHeartbeats 1000000 in
theorem toMeasureS_any (v : Value) (xs : List Measure) (w : World) (B : Nat) (hB : B ≤ w.heap.size) (h : (Ty.slice 25 Measure.ty).rep w B [v] xs) (hn : xs.length ≤ 1048576) :
    Calls Try.prog 56 #[v] w fun e w' => (∃ v', e = .returned v' ∧ Own (Ty.slice 25 Measure.ty) w' w.heap.size w'.heap.size [v'] xs) ∧ Below w.heap.size w w' := by
  obtain ⟨a, c, rfl, hc, hm⟩ := Ty.form h
  have hn1 := hn
  have hmk := fun W => run_make_n Try.underlying51 info_Measure xs.length (by omega) (by omega) W
  go_enter Try.func56, Try.ntmps56
  go_wp2_with fail
  go_loopw [4] (fun i wr => ∃ k : Nat, k ≤ xs.length ∧ i = .int .i64 k ∧ Below w.heap.size w wr ∧ w.heap.size < wr.heap.size ∧ ∃ raw left, left.length + raw.length = xs.length * 7 ∧ wr.heap[w.heap.size]? = some (.cells (raw ++ left).toArray 25 (0, 0)) ∧ OwnRows Measure.ty wr (w.heap.size + 1) wr.heap.size raw (xs.take k)) (fun i _ => xs.length - (intOf i).toNat)
  case atStart =>
    refine ⟨0, Nat.zero_le _, rfl, (Below.refl _ _).alloc (Nat.le_refl _) _, by simp, [], (madeCells (Value.cells (.agg #[.int .i64 0, .int .i64 0, .int .i64 0, .int .i64 0, .int .i64 0, .int .i64 0, .int .i64 0])) (xs.length * 7)).toList, by rw [made_len]; simp, made_start (.agg #[.int .i64 0, .int .i64 0, .int .i64 0, .int .i64 0, .int .i64 0, .int .i64 0, .int .i64 0]) (xs.length * 7) 25 w, ?_⟩
    rw [List.take_zero]
    exact OwnRows.nil _ _ _ _
  case round =>
    obtain ⟨k, hk, rfl, hbl, hgs, raw, left, hleft, hg, hro⟩ := hrel
    have hrl := hro.len
    rw [List.length_take, Nat.min_eq_left hk] at hrl
    simp only [show Measure.ty.size = 7 from rfl] at hrl
    by_cases hlt : k < xs.length
    · obtain ⟨b, o, cs, rfl, hb, gg, ee⟩ := Ty.elem h hB k hlt
      obtain ⟨rfl, r0, r1, r2, r3, r4, r5, r6⟩ := Measure.cells ee
      have d0 : wr.cell? ⟨b, o + k * 7, none⟩ = some (.int .i64 xs[k].Tiles) := gg 0 _ rfl ⟨wr, hbl⟩
      have d1 : wr.cell? ⟨b, o + k * 7 + 1, none⟩ = some (.int .i64 xs[k].Kinds) := gg 1 _ rfl ⟨wr, hbl⟩
      have d2 : wr.cell? ⟨b, o + k * 7 + 2, none⟩ = some (.int .i64 xs[k].Glues) := gg 2 _ rfl ⟨wr, hbl⟩
      have d3 : wr.cell? ⟨b, o + k * 7 + 3, none⟩ = some (.int .i64 xs[k].Area) := gg 3 _ rfl ⟨wr, hbl⟩
      have d4 : wr.cell? ⟨b, o + k * 7 + 4, none⟩ = some (.int .i64 xs[k].Strength) := gg 4 _ rfl ⟨wr, hbl⟩
      have d5 : wr.cell? ⟨b, o + k * 7 + 5, none⟩ = some (.int .i64 xs[k].Misfits) := gg 5 _ rfl ⟨wr, hbl⟩
      have d6 : wr.cell? ⟨b, o + k * 7 + 6, none⟩ = some (.int .i64 xs[k].Slack) := gg 6 _ rfl ⟨wr, hbl⟩
      clear gg
      have R0 := Lib.hid r0
      clear r0
      have R1 := Lib.hid r1
      clear r1
      have R2 := Lib.hid r2
      clear r2
      have R3 := Lib.hid r3
      clear r3
      have R4 := Lib.hid r4
      clear r4
      have R5 := Lib.hid r5
      clear r5
      have R6 := Lib.hid r6
      clear r6
      have HG := Lib.hid hg
      have HRO := Lib.hid hro
      have HB := Lib.hid hbl
      have HL := Lib.hid hleft
      have HRL := Lib.hid hrl
      clear hg hro hbl hleft hrl
      go_wp2_with fail
      refine (toMeasure_any xs[k] _).mono ?_
      rintro e w1 ⟨rfl, hb1⟩
      have OO : Own Measure.ty w1 wr.heap.size w1.heap.size [.int .i64 xs[k].Tiles, .int .i64 xs[k].Kinds, .int .i64 xs[k].Glues, .int .i64 xs[k].Area, .int .i64 xs[k].Strength, .int .i64 xs[k].Misfits, .int .i64 xs[k].Slack] xs[k] := Own.mono (lo := wr.heap.size) (hi := wr.heap.size) (Measure.own_mk R0.out R1.out R2.out R3.out R4.out R5.out R6.out) (Nat.le_refl _) hb1.size
      have hg1 := blk_on hb1 HG.out
      have hro1 : OwnRows Measure.ty w1 (w.heap.size + 1) wr.heap.size raw (xs.take k) := HRO.out.keep (fun b _ h2 => hb1.block b h2)
      have hz1 : Below w.heap.size w w1 := HB.out.trans (hb1.mono HB.out.size)
      have hs1 := hb1.size
      have hll : 7 ≤ left.length := by have := HL.out; have := HRL.out; omega
      have hone := OO.one
      have HONE := Lib.hid hone
      have HG1 := Lib.hid hg1
      have HRO1 := Lib.hid hro1
      have HZ1 := Lib.hid hz1
      have HOO := Lib.hid OO
      clear hone hg1 hro1 hz1 OO hb1 HG HRO HB
      go_wp2_with (refine wpList_fill rfl 25 _ _ rfl w.heap.size raw left [.int .i64 xs[k].Tiles, .int .i64 xs[k].Kinds, .int .i64 xs[k].Glues, .int .i64 xs[k].Area, .int .i64 xs[k].Strength, .int .i64 xs[k].Misfits, .int .i64 xs[k].Slack] 25 HG1.out (k * 7) rfl HRL.out.symm rfl (by kernel_rfl) hll HONE.out ?_)
      intro w2 hg2 hgr hs2
      have HG2 := Lib.hid hg2
      have hz2 : Below w.heap.size w w2 := grownBy_below HZ1.out hgr HZ1.out.size (Nat.le_refl _)
      have hro2 : OwnRows Measure.ty w2 (w.heap.size + 1) wr.heap.size raw (xs.take k) := HRO1.out.keep (fun b h1 h2 => hgr.block b (by omega) (fun e => by injection e; omega))
      have hoo2 := HOO.out.grown hgr (by omega) (Nat.le_refl _)
      have HZ2 := Lib.hid hz2
      have HRO2 := Lib.hid hro2
      have HOO2 := Lib.hid hoo2
      have hse := Nat.le_of_eq hs2
      have HS2 := Lib.hid hs2
      clear hg2 hgr hz2 hro2 hoo2 hs2
      go_wp2_with fail
      go_roundw
      case rel =>
        have hl := HL.out
        have hrl := HRL.out
        have hs2 := HS2.out
        refine ⟨k + 1, by omega, by go_num, HZ2.out, by omega, raw ++ [.int .i64 xs[k].Tiles, .int .i64 xs[k].Kinds, .int .i64 xs[k].Glues, .int .i64 xs[k].Area, .int .i64 xs[k].Strength, .int .i64 xs[k].Misfits, .int .i64 xs[k].Slack], left.drop 7, by simp only [List.length_drop, List.length_append, List.length_cons, List.length_nil]; omega, by simpa using HG2.out, ?_⟩
        rw [take_succ' xs k hlt, hs2]
        exact OwnRows.snoc (m := wr.heap.size) HRO2.out HOO2.out (by omega) hs1
      case measure => simp [intOf]; omega
    · obtain rfl : k = xs.length := by omega
      have HG := Lib.hid hg
      have HRO := Lib.hid hro
      have HB := Lib.hid hbl
      clear hg hro hbl hleft hrl
      go_wp2_with fail
      go_ret
      have hro := HRO.out
      rw [List.take_length] at hro
      exact ⟨⟨_, rfl, own_filled HG.out hro (Nat.le_refl _) (by unfold maxLen; omega) hgs⟩, HB.out⟩

end Go.Proofs.Ytlfgkhjibhfopaa
