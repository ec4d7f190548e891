/- Laws that the proof stands on. -/
import Derived.Test.YtkaehgnnhookpaaRows
import Derived.Test.YtkaehgnnhookpaaZLib
import Derived.Test.YtkaehgnnhookpaaZTyBase
import Derived.Test.YtkaehgnnhookpaaZMark
set_option linter.all false
namespace Go.Proofs.Ytkaehgnnhookpaa
open Go.RowKit Go.ChangeShapes Go.WideShapes Go.ChangeAt
structure Glue where
  Name : ByteArray
  Strength : Int
  deriving DecidableEq
def Glue.ty : Ty Glue := Ty.via (Ty.prod Ty.str (Ty.int .i64)) (fun x => (x.Name, x.Strength))
def Glue.cnt (x : Glue) : Nat := x.Name.size
theorem Glue.cells {w : World} {B : Nat} {cs : List Value} {x : Glue} (h : Glue.ty.rep w B cs x) : cs = [.string x.Name, .int .i64 x.Strength] ∧ x.Name.size ≤ maxLen ∧ InK .i64 x.Strength := by obtain ⟨_, _, rfl, h0, h1⟩ := h; obtain ⟨rfl, i0⟩ := h0; obtain ⟨rfl, i1⟩ := h1; exact ⟨rfl, i0, i1⟩
theorem Glue.parts {w : World} {B : Nat} {x : Glue} (h : Glue.ty.rep w B [.string x.Name, .int .i64 x.Strength] x) : x.Name.size ≤ maxLen ∧ InK .i64 x.Strength := by obtain ⟨hh, r0, r1⟩ := Glue.cells h; exact ⟨r0, r1⟩
theorem Glue.rep_mk {w : World} {B : Nat} {x : Glue} (h0 : x.Name.size ≤ maxLen) (h1 : InK .i64 x.Strength) : Glue.ty.rep w B [.string x.Name, .int .i64 x.Strength] x :=
  ⟨_, _, rfl, ⟨rfl, h0⟩, ⟨rfl, h1⟩⟩
set_option maxRecDepth 100000 in
theorem Glue.reads : Reads Try.prog 111 Glue.ty :=
  reads_via (t := (Ty.prod Ty.str (Ty.int .i64))) (fun x : Glue => (x.Name, x.Strength)) (fun y => ⟨y.1, y.2⟩) (fun _ => rfl) (reads_struct Try.underlying111 (by kernel_rfl) (fld_cons rfl (reads_str Try.underlying9 (by kernel_rfl)) (fld_one rfl (reads_int Try.underlying2 (by kernel_rfl)))))
set_option maxRecDepth 10000 in
set_option maxHeartbeats 1000000 in
theorem eqGlue_any (x : Glue) (w : World) :
    Calls Try.prog 65 #[.agg #[.string x.Name, .int .i64 x.Strength], .agg #[.string x.Name, .int .i64 x.Strength]] w fun e w' => e = .returned (.bool true) ∧ Below w.heap.size w w' := by
  go_enter Try.func65, Try.ntmps65
  go_upto_region 1 with fail
  refine rebase ?_; intro W1 hW _; have hz : Below w.heap.size w W1 := by rw [hW]; go_grown
  have hb0 := at_of hW (push2_0 _ _ _); have c0 := box2 hb0; have f0 := boxf hb0; have B0 := Lib.hid hb0; clear hb0; have hb1 := at_of hW (push2_1 _ _ _); have c1 := box2 hb1; have f1 := boxf hb1; have B1 := Lib.hid hb1; clear hb1; have HW := Lib.hid hW; clear hW; go_wp2_with fail; go_ret; exact ⟨rfl, ext_end _ hz⟩
set_option maxRecDepth 10000 in
set_option maxHeartbeats 1000000 in
theorem eqGlueS_any (v1 v2 : Value) (xs : List Glue) (w : World) (B : Nat) (hB : B ≤ w.heap.size) (h1 : (Ty.slice 93 Glue.ty).rep w B [v1] xs) (h2 : (Ty.slice 93 Glue.ty).rep w B [v2] xs) :
    Calls Try.prog 56 #[v1, v2] w fun e w' => e = .returned (.bool true) ∧ Below w.heap.size w w' := by
  obtain ⟨a1, c1, rfl, _, hm1⟩ := Ty.form h1; obtain ⟨a2, c2, rfl, _, hm2⟩ := Ty.form h2; have hn : xs.length ≤ 9223372036854775807 := (by unfold maxLen at hm1; omega); clear hm1 hm2; refine rebaseC ?_; intro x; go_enter Try.func56, Try.ntmps56; go_wp2
  go_loopw [5] (fun i wr => ∃ k : Nat, k ≤ xs.length ∧ i = .int .i64 k ∧ ∃ z : Ext w, wr = w.to z) (fun i _ => xs.length - (intOf i).toNat)
  case atStart => exact ⟨0, Nat.zero_le _, rfl, x, rfl⟩
  case round =>
    obtain ⟨k, hk, rfl, z, rfl⟩ := hrel; by_cases hlt : k < xs.length
    · obtain ⟨b1, o1, cs1, rfl, hb1, g1, e1⟩ := Ty.elem h1 hB k hlt; obtain ⟨rfl, _, _⟩ := Glue.cells e1; have d1_0 : ∀ z : Ext w, (w.to z).cell? ⟨b1, o1 + k * 2, none⟩ = some (.string xs[k].Name) := g1 0 _ rfl; have d1_1 : ∀ z : Ext w, (w.to z).cell? ⟨b1, o1 + k * 2 + 1, none⟩ = some (.int .i64 xs[k].Strength) := g1 1 _ rfl; clear g1; obtain ⟨b2, o2, cs2, rfl, hb2, g2, e2⟩ := Ty.elem h2 hB k hlt; obtain ⟨rfl, _, _⟩ := Glue.cells e2; have d2_0 : ∀ z : Ext w, (w.to z).cell? ⟨b2, o2 + k * 2, none⟩ = some (.string xs[k].Name) := g2 0 _ rfl; have d2_1 : ∀ z : Ext w, (w.to z).cell? ⟨b2, o2 + k * 2 + 1, none⟩ = some (.int .i64 xs[k].Strength) := g2 1 _ rfl; clear g2; have hs := fun z : Ext w => eqGlue_any xs[k] (w.to z); have HS := Lib.hid hs; clear hs; go_wp2_with fail; refine wp_region_ext (by kernel_rfl) (by kernel_rfl) ?_
      repeat (go_big_quiet_step ((go_at_call 65; exact ext_call (HS.out _))))
      refine wpQuiet_nil ?_; rintro _ ⟨y, rfl⟩; go_wp2_with fail
      go_roundw
      case rel => exact ⟨k + 1, by omega, by go_num, y, rfl⟩
      case measure => simp [intOf]; omega
    · go_wp2_with fail
      go_ret; exact ⟨rfl, z.below⟩
set_option maxRecDepth 10000 in
set_option maxHeartbeats 1000000 in
theorem szGlue_any (q : Glue) (l : Int) (hl0 : 0 ≤ l) (hl1 : l ≤ 1048576) (w : World) (s0 : q.Name.size ≤ maxLen) :
    Calls Try.prog 60 #[.agg #[.string q.Name, .int .i64 q.Strength], .int .i64 l] w fun e w' => e = .returned (.int .i64 (szR l (Glue.cnt q))) ∧ Below w.heap.size w w' := by
  have s0_ : q.Name.size ≤ 9223372036854775807 := (by unfold maxLen at s0; omega); by_cases g0 : ((q.Name.size : Nat) : Int) ≤ l
  · go_enter Try.func60, Try.ntmps60
    go_upto_region 1 with fail
    refine rebase ?_; intro W1 hW _; have hz : Below w.heap.size w W1 := by rw [hW]; go_grown
    have hb0 := at_of hW (push1_0 _ _); have c0 := box2 hb0; have f0 := boxf hb0; have B0 := Lib.hid hb0; clear hb0; have HW := Lib.hid hW; clear hW; go_wp2_with fail; go_ret; exact ⟨by rw [szR_ok (by unfold Glue.cnt; omega)]; unfold Glue.cnt; go_num, ext_end _ hz⟩
  · go_enter Try.func60, Try.ntmps60
    go_upto_region 1 with fail
    refine rebase ?_; intro W1 hW _; have hz : Below w.heap.size w W1 := by rw [hW]; go_grown
    have hb0 := at_of hW (push1_0 _ _); have c0 := box2 hb0; have f0 := boxf hb0; have B0 := Lib.hid hb0; clear hb0; have HW := Lib.hid hW; clear hW; go_wp2_with fail; go_ret; exact ⟨by rw [szR_no (by unfold Glue.cnt; omega)]; rfl, ext_end _ hz⟩
set_option maxRecDepth 10000 in
set_option maxHeartbeats 1000000 in
theorem szGlueS_any (v : Value) (xs : List Glue) (l : Int) (hl0 : 0 ≤ l) (hl1 : l ≤ 1048576) (w : World) (B : Nat) (hB : B ≤ w.heap.size) (h : (Ty.slice 93 Glue.ty).rep w B [v] xs) :
    Calls Try.prog 47 #[v, .int .i64 l] w fun e w' => e = .returned (.int .i64 (szR l (cntL Glue.cnt xs))) ∧ Below w.heap.size w w' := by
  obtain ⟨a, c, rfl, hc, hm⟩ := Ty.form h; have hn : xs.length ≤ 9223372036854775807 := (by unfold maxLen at hm; omega); clear hm; by_cases g : (xs.length : Int) ≤ l
  · refine rebaseC ?_; intro x; go_enter Try.func47, Try.ntmps47; go_wp2
    go_loopw [1, 5] (fun q i wr => ∃ k : Nat, k ≤ xs.length ∧ i = .int .i64 k ∧ ((xs.length + sumT Glue.cnt xs k : Nat) : Int) ≤ l ∧ q = .int .i64 (l - (xs.length + sumT Glue.cnt xs k : Nat)) ∧ ∃ z : Ext w, wr = w.to z) (fun _ i _ => xs.length - (intOf i).toNat)
    case atStart => exact ⟨0, Nat.zero_le _, rfl, by rw [sumT_zero]; exact g, by rw [sumT_zero]; rfl, x, rfl⟩
    case round =>
      obtain ⟨k, hk, rfl, hs, rfl, z, rfl⟩ := hrel; generalize hq : xs.length + sumT Glue.cnt xs k = q at hs ⊢; have HQ := Lib.hid hq; clear hq; by_cases hlt : k < xs.length
      · obtain ⟨b, o, cs, rfl, hb, gg, ee⟩ := Ty.elem h hB k hlt; obtain ⟨rfl, s0, _⟩ := Glue.cells ee; have d0 : ∀ z : Ext w, (w.to z).cell? ⟨b, o + k * 2, none⟩ = some (.string xs[k].Name) := gg 0 _ rfl; have d1 : ∀ z : Ext w, (w.to z).cell? ⟨b, o + k * 2 + 1, none⟩ = some (.int .i64 xs[k].Strength) := gg 1 _ rfl; clear gg; have hs1 := fun z : Ext w => szGlue_any xs[k] (l - q) (by omega) (by omega) (w.to z) s0; have hsum := sumT_succ Glue.cnt xs k hlt; have hsle := sumT_le Glue.cnt xs (k + 1); have HSU := Lib.hid hsum; have HSL := Lib.hid hsle; clear hsum hsle; by_cases gk : ((Glue.cnt xs[k] : Nat) : Int) ≤ l - q
        · simp only [szR_ok gk] at hs1; have HS1 := Lib.hid hs1; clear hs1; go_wp2_with (go_at_call 60; refine call_ext (HS1.out _) ?_; intro y)
          go_roundw
          case rel => have h1 := HSU.out; have h2 := HQ.out; exact ⟨k + 1, by omega, by go_num, by rw [h1]; omega, by rw [h1]; go_num, y, rfl⟩
          case measure => simp [intOf]; omega
        · simp only [szR_no gk] at hs1; have HS1 := Lib.hid hs1; clear hs1; go_wp2_with (go_at_call 60; refine call_ext (HS1.out _) ?_; intro y)
          go_ret; have h1 := HSU.out; have h2 := HQ.out; have h3 := HSL.out; exact ⟨by rw [szR_no (by unfold cntL; omega)]; rfl, y.below⟩
      · obtain rfl : k = xs.length := (by omega); go_wp2_with fail; go_ret; have h2 := HQ.out; have h3 := sumT_all Glue.cnt xs; exact ⟨by rw [szR_ok (by unfold cntL; omega), show cntL Glue.cnt xs = q by unfold cntL; omega]; rfl, z.below⟩
  · rw [szR_no (by have := cntL_len Glue.cnt xs; omega)]; go_enter Try.func47, Try.ntmps47; go_wp2; go_ret; exact ⟨rfl, by go_grown⟩
structure Tile where
  Name : ByteArray
  Sides : List Int
  deriving DecidableEq
def Tile.ty : Ty Tile := Ty.via (Ty.prod Ty.str (Ty.slice 2 (Ty.int .i64))) (fun x => (x.Name, x.Sides))
def Tile.cnt (x : Tile) : Nat := x.Name.size + x.Sides.length
theorem Tile.cells {w : World} {B : Nat} {cs : List Value} {x : Tile} (h : Tile.ty.rep w B cs x) : ∃ v0 : Value, cs = [.string x.Name, v0] ∧ x.Name.size ≤ maxLen ∧ (Ty.slice 2 (Ty.int .i64)).rep w B [v0] x.Sides := by obtain ⟨_, _, rfl, h0, h1⟩ := h; obtain ⟨rfl, i0⟩ := h0; obtain ⟨u1, rfl⟩ := Ty.slice_one h1; exact ⟨_, rfl, i0, h1⟩
theorem Tile.parts {w : World} {B : Nat} {v0 : Value} {x : Tile} (h : Tile.ty.rep w B [.string x.Name, v0] x) : x.Name.size ≤ maxLen ∧ (Ty.slice 2 (Ty.int .i64)).rep w B [v0] x.Sides := by obtain ⟨e0, hh, r0, r1⟩ := Tile.cells h; simp only [List.cons.injEq, and_true, true_and] at hh; subst hh; exact ⟨r0, r1⟩
theorem Tile.rep_mk {w : World} {B : Nat} {v0 : Value} {x : Tile} (h0 : x.Name.size ≤ maxLen) (h1 : (Ty.slice 2 (Ty.int .i64)).rep w B [v0] x.Sides) : Tile.ty.rep w B [.string x.Name, v0] x :=
  ⟨_, _, rfl, ⟨rfl, h0⟩, h1⟩
set_option maxRecDepth 100000 in
theorem Tile.reads : Reads Try.prog 113 Tile.ty :=
  reads_via (t := (Ty.prod Ty.str (Ty.slice 2 (Ty.int .i64)))) (fun x : Tile => (x.Name, x.Sides)) (fun y => ⟨y.1, y.2⟩) (fun _ => rfl) (reads_struct Try.underlying113 (by kernel_rfl) (fld_cons rfl (reads_str Try.underlying9 (by kernel_rfl)) (fld_one rfl (reads_slice Try.underlying32 (by kernel_rfl) (by decide) (reads_int Try.underlying2 (by kernel_rfl))))))
set_option maxRecDepth 10000 in
set_option maxHeartbeats 1000000 in
theorem eqTile_any (v0 u0 : Value) (x : Tile) (w : World) (B : Nat) (hB : B ≤ w.heap.size) (h0 : (Ty.slice 2 (Ty.int .i64)).rep w B [v0] x.Sides) (k0 : (Ty.slice 2 (Ty.int .i64)).rep w B [u0] x.Sides) :
    Calls Try.prog 66 #[.agg #[.string x.Name, v0], .agg #[.string x.Name, u0]] w fun e w' => e = .returned (.bool true) ∧ Below w.heap.size w w' := by
  go_enter Try.func66, Try.ntmps66
  go_upto_region 1 with fail
  refine rebase ?_; intro W1 hW _; have hz : Below w.heap.size w W1 := by rw [hW]; go_grown
  have hb0 := at_of hW (push2_0 _ _ _); have c0 := box2 hb0; have f0 := boxf hb0; have B0 := Lib.hid hb0; clear hb0; have hb1 := at_of hW (push2_1 _ _ _); have c1 := box2 hb1; have f1 := boxf hb1; have B1 := Lib.hid hb1; clear hb1; have HW := Lib.hid hW; clear hW; have hs0 := fun z : Ext W1 => eqInt64S_any v0 u0 x.Sides (W1.to z) B (Nat.le_trans hB (ext_end z hz).size) (Ty.rep_below _ h0 ((ext_end z hz).mono hB)) (Ty.rep_below _ k0 ((ext_end z hz).mono hB)); have HS0 := Lib.hid hs0; clear hs0; go_wp2_with fail
  first
    | (refine call_ext (HS0.out _) ?_; intro y)
    | (refine wp_region_ext (by kernel_rfl) (by kernel_rfl) ?_; repeat (go_big_quiet_step ((go_at_call 45; exact ext_call (HS0.out _)))); refine wpQuiet_nil ?_; rintro _ ⟨y, rfl⟩)
  go_wp2_with fail
  go_ret; exact ⟨rfl, ext_end _ hz⟩
set_option maxRecDepth 10000 in
set_option maxHeartbeats 1000000 in
theorem eqTileS_any (v1 v2 : Value) (xs : List Tile) (w : World) (B : Nat) (hB : B ≤ w.heap.size) (h1 : (Ty.slice 95 Tile.ty).rep w B [v1] xs) (h2 : (Ty.slice 95 Tile.ty).rep w B [v2] xs) :
    Calls Try.prog 57 #[v1, v2] w fun e w' => e = .returned (.bool true) ∧ Below w.heap.size w w' := by
  obtain ⟨a1, c1, rfl, _, hm1⟩ := Ty.form h1; obtain ⟨a2, c2, rfl, _, hm2⟩ := Ty.form h2; have hn : xs.length ≤ 9223372036854775807 := (by unfold maxLen at hm1; omega); clear hm1 hm2; refine rebaseC ?_; intro x; go_enter Try.func57, Try.ntmps57; go_wp2
  go_loopw [5] (fun i wr => ∃ k : Nat, k ≤ xs.length ∧ i = .int .i64 k ∧ ∃ z : Ext w, wr = w.to z) (fun i _ => xs.length - (intOf i).toNat)
  case atStart => exact ⟨0, Nat.zero_le _, rfl, x, rfl⟩
  case round =>
    obtain ⟨k, hk, rfl, z, rfl⟩ := hrel; by_cases hlt : k < xs.length
    · obtain ⟨b1, o1, cs1, rfl, hb1, g1, e1⟩ := Ty.elem h1 hB k hlt; obtain ⟨p1_0, rfl, _, r1_1⟩ := Tile.cells e1; have d1_0 : ∀ z : Ext w, (w.to z).cell? ⟨b1, o1 + k * 2, none⟩ = some (.string xs[k].Name) := g1 0 _ rfl; have d1_1 : ∀ z : Ext w, (w.to z).cell? ⟨b1, o1 + k * 2 + 1, none⟩ = some (p1_0) := g1 1 _ rfl; clear g1; obtain ⟨b2, o2, cs2, rfl, hb2, g2, e2⟩ := Ty.elem h2 hB k hlt; obtain ⟨p2_0, rfl, _, r2_1⟩ := Tile.cells e2; have d2_0 : ∀ z : Ext w, (w.to z).cell? ⟨b2, o2 + k * 2, none⟩ = some (.string xs[k].Name) := g2 0 _ rfl; have d2_1 : ∀ z : Ext w, (w.to z).cell? ⟨b2, o2 + k * 2 + 1, none⟩ = some (p2_0) := g2 1 _ rfl; clear g2; have hs := fun z : Ext w => eqTile_any p1_0 p2_0 xs[k] (w.to z) B (Nat.le_trans hB z.below.size) (Ty.rep_to _ hB r1_1 z) (Ty.rep_to _ hB r2_1 z); have HS := Lib.hid hs; clear hs; go_wp2_with fail; refine wp_region_ext (by kernel_rfl) (by kernel_rfl) ?_
      repeat (go_big_quiet_step ((go_at_call 66; exact ext_call (HS.out _))))
      refine wpQuiet_nil ?_; rintro _ ⟨y, rfl⟩; go_wp2_with fail
      go_roundw
      case rel => exact ⟨k + 1, by omega, by go_num, y, rfl⟩
      case measure => simp [intOf]; omega
    · go_wp2_with fail
      go_ret; exact ⟨rfl, z.below⟩
set_option maxRecDepth 10000 in
set_option maxHeartbeats 1000000 in
theorem szTile_any (v0 : Value) (q : Tile) (l : Int) (hl0 : 0 ≤ l) (hl1 : l ≤ 1048576) (w : World) (B : Nat) (hB : B ≤ w.heap.size) (h0 : (Ty.slice 2 (Ty.int .i64)).rep w B [v0] q.Sides) (s0 : q.Name.size ≤ maxLen) :
    Calls Try.prog 61 #[.agg #[.string q.Name, v0], .int .i64 l] w fun e w' => e = .returned (.int .i64 (szR l (Tile.cnt q))) ∧ Below w.heap.size w w' := by
  have s0_ : q.Name.size ≤ 9223372036854775807 := (by unfold maxLen at s0; omega); by_cases g0 : ((q.Name.size : Nat) : Int) ≤ l
  · by_cases g1 : ((q.Sides.length : Nat) : Int) ≤ l - (q.Name.size : Nat)
    · go_enter Try.func61, Try.ntmps61
      go_upto_region 1 with fail
      refine rebase ?_; intro W1 hW _; have hz : Below w.heap.size w W1 := by rw [hW]; go_grown
      have hb0 := at_of hW (push1_0 _ _); have c0 := box2 hb0; have f0 := boxf hb0; have B0 := Lib.hid hb0; clear hb0; have HW := Lib.hid hW; clear hW; have hs1 := fun z : Ext W1 => szInt64S_any v0 q.Sides (l - (q.Name.size : Nat)) (by omega) (by omega) (W1.to z) B (Nat.le_trans hB (ext_end z hz).size) (Ty.rep_below _ h0 ((ext_end z hz).mono hB)); simp only [szR_ok g1] at hs1; have HS1 := Lib.hid hs1; clear hs1; go_wp2_with fail; refine call_ext (HS1.out _) ?_; intro y; go_wp2_with fail; go_ret; exact ⟨by rw [szR_ok (by unfold Tile.cnt; omega)]; unfold Tile.cnt; go_num, ext_end _ hz⟩
    · go_enter Try.func61, Try.ntmps61
      go_upto_region 1 with fail
      refine rebase ?_; intro W1 hW _; have hz : Below w.heap.size w W1 := by rw [hW]; go_grown
      have hb0 := at_of hW (push1_0 _ _); have c0 := box2 hb0; have f0 := boxf hb0; have B0 := Lib.hid hb0; clear hb0; have HW := Lib.hid hW; clear hW; have hs1 := fun z : Ext W1 => szInt64S_any v0 q.Sides (l - (q.Name.size : Nat)) (by omega) (by omega) (W1.to z) B (Nat.le_trans hB (ext_end z hz).size) (Ty.rep_below _ h0 ((ext_end z hz).mono hB)); simp only [szR_no g1] at hs1; have HS1 := Lib.hid hs1; clear hs1; go_wp2_with fail; refine call_ext (HS1.out _) ?_; intro y; go_wp2_with fail; go_ret; exact ⟨by rw [szR_no (by unfold Tile.cnt; omega)]; rfl, ext_end _ hz⟩
  · go_enter Try.func61, Try.ntmps61
    go_upto_region 1 with fail
    refine rebase ?_; intro W1 hW _; have hz : Below w.heap.size w W1 := by rw [hW]; go_grown
    have hb0 := at_of hW (push1_0 _ _); have c0 := box2 hb0; have f0 := boxf hb0; have B0 := Lib.hid hb0; clear hb0; have HW := Lib.hid hW; clear hW; go_wp2_with fail; go_ret; exact ⟨by rw [szR_no (by unfold Tile.cnt; omega)]; rfl, ext_end _ hz⟩
set_option maxRecDepth 10000 in
set_option maxHeartbeats 1000000 in
theorem szTileS_any (v : Value) (xs : List Tile) (l : Int) (hl0 : 0 ≤ l) (hl1 : l ≤ 1048576) (w : World) (B : Nat) (hB : B ≤ w.heap.size) (h : (Ty.slice 95 Tile.ty).rep w B [v] xs) :
    Calls Try.prog 48 #[v, .int .i64 l] w fun e w' => e = .returned (.int .i64 (szR l (cntL Tile.cnt xs))) ∧ Below w.heap.size w w' := by
  obtain ⟨a, c, rfl, hc, hm⟩ := Ty.form h; have hn : xs.length ≤ 9223372036854775807 := (by unfold maxLen at hm; omega); clear hm; by_cases g : (xs.length : Int) ≤ l
  · refine rebaseC ?_; intro x; go_enter Try.func48, Try.ntmps48; go_wp2
    go_loopw [1, 5] (fun q i wr => ∃ k : Nat, k ≤ xs.length ∧ i = .int .i64 k ∧ ((xs.length + sumT Tile.cnt xs k : Nat) : Int) ≤ l ∧ q = .int .i64 (l - (xs.length + sumT Tile.cnt xs k : Nat)) ∧ ∃ z : Ext w, wr = w.to z) (fun _ i _ => xs.length - (intOf i).toNat)
    case atStart => exact ⟨0, Nat.zero_le _, rfl, by rw [sumT_zero]; exact g, by rw [sumT_zero]; rfl, x, rfl⟩
    case round =>
      obtain ⟨k, hk, rfl, hs, rfl, z, rfl⟩ := hrel; generalize hq : xs.length + sumT Tile.cnt xs k = q at hs ⊢; have HQ := Lib.hid hq; clear hq; by_cases hlt : k < xs.length
      · obtain ⟨b, o, cs, rfl, hb, gg, ee⟩ := Ty.elem h hB k hlt; obtain ⟨p0, rfl, s0, r1⟩ := Tile.cells ee; have d0 : ∀ z : Ext w, (w.to z).cell? ⟨b, o + k * 2, none⟩ = some (.string xs[k].Name) := gg 0 _ rfl; have d1 : ∀ z : Ext w, (w.to z).cell? ⟨b, o + k * 2 + 1, none⟩ = some (p0) := gg 1 _ rfl; clear gg; have hs1 := fun z : Ext w => szTile_any p0 xs[k] (l - q) (by omega) (by omega) (w.to z) B (Nat.le_trans hB z.below.size) (Ty.rep_to _ hB r1 z) s0; have hsum := sumT_succ Tile.cnt xs k hlt; have hsle := sumT_le Tile.cnt xs (k + 1); have HSU := Lib.hid hsum; have HSL := Lib.hid hsle; clear hsum hsle; by_cases gk : ((Tile.cnt xs[k] : Nat) : Int) ≤ l - q
        · simp only [szR_ok gk] at hs1; have HS1 := Lib.hid hs1; clear hs1; go_wp2_with (go_at_call 61; refine call_ext (HS1.out _) ?_; intro y)
          go_roundw
          case rel => have h1 := HSU.out; have h2 := HQ.out; exact ⟨k + 1, by omega, by go_num, by rw [h1]; omega, by rw [h1]; go_num, y, rfl⟩
          case measure => simp [intOf]; omega
        · simp only [szR_no gk] at hs1; have HS1 := Lib.hid hs1; clear hs1; go_wp2_with (go_at_call 61; refine call_ext (HS1.out _) ?_; intro y)
          go_ret; have h1 := HSU.out; have h2 := HQ.out; have h3 := HSL.out; exact ⟨by rw [szR_no (by unfold cntL; omega)]; rfl, y.below⟩
      · obtain rfl : k = xs.length := (by omega); go_wp2_with fail; go_ret; have h2 := HQ.out; have h3 := sumT_all Tile.cnt xs; exact ⟨by rw [szR_ok (by unfold cntL; omega), show cntL Tile.cnt xs = q by unfold cntL; omega]; rfl, z.below⟩
  · rw [szR_no (by have := cntL_len Tile.cnt xs; omega)]; go_enter Try.func48, Try.ntmps48; go_wp2; go_ret; exact ⟨rfl, by go_grown⟩
structure TileSet where
  Glues : List Glue
  Tiles : List Tile
  deriving DecidableEq
def TileSet.ty : Ty TileSet := Ty.via (Ty.prod (Ty.slice 93 Glue.ty) (Ty.slice 95 Tile.ty)) (fun x => (x.Glues, x.Tiles))
def TileSet.cnt (x : TileSet) : Nat := cntL Glue.cnt x.Glues + cntL Tile.cnt x.Tiles
theorem TileSet.cells {w : World} {B : Nat} {cs : List Value} {x : TileSet} (h : TileSet.ty.rep w B cs x) : ∃ v0 v1 : Value, cs = [v0, v1] ∧ (Ty.slice 93 Glue.ty).rep w B [v0] x.Glues ∧ (Ty.slice 95 Tile.ty).rep w B [v1] x.Tiles := by obtain ⟨_, _, rfl, h0, h1⟩ := h; obtain ⟨u0, rfl⟩ := Ty.slice_one h0; obtain ⟨u1, rfl⟩ := Ty.slice_one h1; exact ⟨_, _, rfl, h0, h1⟩
theorem TileSet.parts {w : World} {B : Nat} {v0 v1 : Value} {x : TileSet} (h : TileSet.ty.rep w B [v0, v1] x) : (Ty.slice 93 Glue.ty).rep w B [v0] x.Glues ∧ (Ty.slice 95 Tile.ty).rep w B [v1] x.Tiles := by obtain ⟨e0, e1, hh, r0, r1⟩ := TileSet.cells h; simp only [List.cons.injEq, and_true, true_and] at hh; obtain ⟨rfl, rfl⟩ := hh; exact ⟨r0, r1⟩
theorem TileSet.rep_mk {w : World} {B : Nat} {v0 v1 : Value} {x : TileSet} (h0 : (Ty.slice 93 Glue.ty).rep w B [v0] x.Glues) (h1 : (Ty.slice 95 Tile.ty).rep w B [v1] x.Tiles) : TileSet.ty.rep w B [v0, v1] x :=
  ⟨_, _, rfl, h0, h1⟩
set_option maxRecDepth 100000 in
theorem TileSet.reads : Reads Try.prog 25 TileSet.ty :=
  reads_via (t := (Ty.prod (Ty.slice 93 Glue.ty) (Ty.slice 95 Tile.ty))) (fun x : TileSet => (x.Glues, x.Tiles)) (fun y => ⟨y.1, y.2⟩) (fun _ => rfl) (reads_struct Try.underlying25 (by kernel_rfl) (fld_cons rfl (reads_slice Try.underlying22 (by kernel_rfl) (by decide) (Glue.reads)) (fld_one rfl (reads_slice Try.underlying23 (by kernel_rfl) (by decide) (Tile.reads)))))
set_option maxRecDepth 10000 in
set_option maxHeartbeats 1000000 in
theorem eqTileSet_any (v0 v1 u0 u1 : Value) (x : TileSet) (w : World) (B : Nat) (hB : B ≤ w.heap.size) (h0 : (Ty.slice 93 Glue.ty).rep w B [v0] x.Glues) (h1 : (Ty.slice 95 Tile.ty).rep w B [v1] x.Tiles) (k0 : (Ty.slice 93 Glue.ty).rep w B [u0] x.Glues) (k1 : (Ty.slice 95 Tile.ty).rep w B [u1] x.Tiles) :
    Calls Try.prog 42 #[.agg #[v0, v1], .agg #[u0, u1]] w fun e w' => e = .returned (.bool true) ∧ Below w.heap.size w w' := by
  go_enter Try.func42, Try.ntmps42
  go_upto_region 1 with fail
  refine rebase ?_; intro W1 hW _; have hz : Below w.heap.size w W1 := by rw [hW]; go_grown
  have hb0 := at_of hW (push2_0 _ _ _); have c0 := box2 hb0; have f0 := boxf hb0; have B0 := Lib.hid hb0; clear hb0; have hb1 := at_of hW (push2_1 _ _ _); have c1 := box2 hb1; have f1 := boxf hb1; have B1 := Lib.hid hb1; clear hb1; have HW := Lib.hid hW; clear hW; have hs0 := fun z : Ext W1 => eqGlueS_any v0 u0 x.Glues (W1.to z) B (Nat.le_trans hB (ext_end z hz).size) (Ty.rep_below _ h0 ((ext_end z hz).mono hB)) (Ty.rep_below _ k0 ((ext_end z hz).mono hB)); have HS0 := Lib.hid hs0; clear hs0; have hs1 := fun z : Ext W1 => eqTileS_any v1 u1 x.Tiles (W1.to z) B (Nat.le_trans hB (ext_end z hz).size) (Ty.rep_below _ h1 ((ext_end z hz).mono hB)) (Ty.rep_below _ k1 ((ext_end z hz).mono hB)); have HS1 := Lib.hid hs1; clear hs1; go_wp2_with fail
  first
    | (refine call_ext (HS0.out _) ?_; intro y)
    | (refine wp_region_ext (by kernel_rfl) (by kernel_rfl) ?_; repeat (go_big_quiet_step ((go_at_call 56; exact ext_call (HS0.out _)))); refine wpQuiet_nil ?_; rintro _ ⟨y, rfl⟩)
  go_wp2_with fail
  first
    | (refine call_ext (HS1.out _) ?_; intro y)
    | (refine wp_region_ext (by kernel_rfl) (by kernel_rfl) ?_; repeat (go_big_quiet_step ((go_at_call 57; exact ext_call (HS1.out _)))); refine wpQuiet_nil ?_; rintro _ ⟨y, rfl⟩)
  go_wp2_with fail
  go_ret; exact ⟨rfl, ext_end _ hz⟩
set_option maxRecDepth 10000 in
set_option maxHeartbeats 1000000 in
theorem szTileSet_any (v0 v1 : Value) (q : TileSet) (l : Int) (hl0 : 0 ≤ l) (hl1 : l ≤ 1048576) (w : World) (B : Nat) (hB : B ≤ w.heap.size) (h0 : (Ty.slice 93 Glue.ty).rep w B [v0] q.Glues) (h1 : (Ty.slice 95 Tile.ty).rep w B [v1] q.Tiles) :
    Calls Try.prog 24 #[.agg #[v0, v1], .int .i64 l] w fun e w' => e = .returned (.int .i64 (szR l (TileSet.cnt q))) ∧ Below w.heap.size w w' := by
  by_cases g0 : ((cntL Glue.cnt q.Glues : Nat) : Int) ≤ l
  · by_cases g1 : ((cntL Tile.cnt q.Tiles : Nat) : Int) ≤ l - (cntL Glue.cnt q.Glues : Nat)
    · go_enter Try.func24, Try.ntmps24
      go_upto_region 1 with fail
      refine rebase ?_; intro W1 hW _; have hz : Below w.heap.size w W1 := by rw [hW]; go_grown
      have hb0 := at_of hW (push1_0 _ _); have c0 := box2 hb0; have f0 := boxf hb0; have B0 := Lib.hid hb0; clear hb0; have HW := Lib.hid hW; clear hW; have hs0 := fun z : Ext W1 => szGlueS_any v0 q.Glues (l) (by omega) (by omega) (W1.to z) B (Nat.le_trans hB (ext_end z hz).size) (Ty.rep_below _ h0 ((ext_end z hz).mono hB)); simp only [szR_ok g0] at hs0; have HS0 := Lib.hid hs0; clear hs0; have hs1 := fun z : Ext W1 => szTileS_any v1 q.Tiles (l - (cntL Glue.cnt q.Glues : Nat)) (by omega) (by omega) (W1.to z) B (Nat.le_trans hB (ext_end z hz).size) (Ty.rep_below _ h1 ((ext_end z hz).mono hB)); simp only [szR_ok g1] at hs1; have HS1 := Lib.hid hs1; clear hs1; go_wp2_with fail; refine call_ext (HS0.out _) ?_; intro y; go_wp2_with fail; refine call_ext (HS1.out _) ?_; intro y; go_wp2_with fail; go_ret; exact ⟨by rw [szR_ok (by unfold TileSet.cnt; omega)]; unfold TileSet.cnt; go_num, ext_end _ hz⟩
    · go_enter Try.func24, Try.ntmps24
      go_upto_region 1 with fail
      refine rebase ?_; intro W1 hW _; have hz : Below w.heap.size w W1 := by rw [hW]; go_grown
      have hb0 := at_of hW (push1_0 _ _); have c0 := box2 hb0; have f0 := boxf hb0; have B0 := Lib.hid hb0; clear hb0; have HW := Lib.hid hW; clear hW; have hs0 := fun z : Ext W1 => szGlueS_any v0 q.Glues (l) (by omega) (by omega) (W1.to z) B (Nat.le_trans hB (ext_end z hz).size) (Ty.rep_below _ h0 ((ext_end z hz).mono hB)); simp only [szR_ok g0] at hs0; have HS0 := Lib.hid hs0; clear hs0; have hs1 := fun z : Ext W1 => szTileS_any v1 q.Tiles (l - (cntL Glue.cnt q.Glues : Nat)) (by omega) (by omega) (W1.to z) B (Nat.le_trans hB (ext_end z hz).size) (Ty.rep_below _ h1 ((ext_end z hz).mono hB)); simp only [szR_no g1] at hs1; have HS1 := Lib.hid hs1; clear hs1; go_wp2_with fail; refine call_ext (HS0.out _) ?_; intro y; go_wp2_with fail; refine call_ext (HS1.out _) ?_; intro y; go_wp2_with fail; go_ret; exact ⟨by rw [szR_no (by unfold TileSet.cnt; omega)]; rfl, ext_end _ hz⟩
  · go_enter Try.func24, Try.ntmps24
    go_upto_region 1 with fail
    refine rebase ?_; intro W1 hW _; have hz : Below w.heap.size w W1 := by rw [hW]; go_grown
    have hb0 := at_of hW (push1_0 _ _); have c0 := box2 hb0; have f0 := boxf hb0; have B0 := Lib.hid hb0; clear hb0; have HW := Lib.hid hW; clear hW; have hs0 := fun z : Ext W1 => szGlueS_any v0 q.Glues (l) (by omega) (by omega) (W1.to z) B (Nat.le_trans hB (ext_end z hz).size) (Ty.rep_below _ h0 ((ext_end z hz).mono hB)); simp only [szR_no g0] at hs0; have HS0 := Lib.hid hs0; clear hs0; go_wp2_with fail; refine call_ext (HS0.out _) ?_; intro y; go_wp2_with fail; go_ret; exact ⟨by rw [szR_no (by unfold TileSet.cnt; omega)]; rfl, ext_end _ hz⟩
structure Point where
  X : Int
  Y : Int
  deriving DecidableEq
def Point.ty : Ty Point := Ty.via (Ty.prod (Ty.int .i64) (Ty.int .i64)) (fun x => (x.X, x.Y))
theorem Point.cells {w : World} {B : Nat} {cs : List Value} {x : Point} (h : Point.ty.rep w B cs x) : cs = [.int .i64 x.X, .int .i64 x.Y] ∧ InK .i64 x.X ∧ InK .i64 x.Y := by obtain ⟨_, _, rfl, h0, h1⟩ := h; obtain ⟨rfl, i0⟩ := h0; obtain ⟨rfl, i1⟩ := h1; exact ⟨rfl, i0, i1⟩
theorem Point.parts {w : World} {B : Nat} {x : Point} (h : Point.ty.rep w B [.int .i64 x.X, .int .i64 x.Y] x) : InK .i64 x.X ∧ InK .i64 x.Y := by obtain ⟨hh, r0, r1⟩ := Point.cells h; exact ⟨r0, r1⟩
theorem Point.rep_mk {w : World} {B : Nat} {x : Point} (h0 : InK .i64 x.X) (h1 : InK .i64 x.Y) : Point.ty.rep w B [.int .i64 x.X, .int .i64 x.Y] x :=
  ⟨_, _, rfl, ⟨rfl, h0⟩, ⟨rfl, h1⟩⟩
set_option maxRecDepth 100000 in
theorem Point.reads : Reads Try.prog 99 Point.ty :=
  reads_via (t := (Ty.prod (Ty.int .i64) (Ty.int .i64))) (fun x : Point => (x.X, x.Y)) (fun y => ⟨y.1, y.2⟩) (fun _ => rfl) (reads_struct Try.underlying99 (by kernel_rfl) (fld_cons rfl (reads_int Try.underlying2 (by kernel_rfl)) (fld_one rfl (reads_int Try.underlying2 (by kernel_rfl)))))
set_option maxRecDepth 10000 in
set_option maxHeartbeats 1000000 in
theorem eqPoint_any (x : Point) (w : World) :
    Calls Try.prog 67 #[.agg #[.int .i64 x.X, .int .i64 x.Y], .agg #[.int .i64 x.X, .int .i64 x.Y]] w fun e w' => e = .returned (.bool true) ∧ Below w.heap.size w w' := by
  go_enter Try.func67, Try.ntmps67
  go_upto_region 1 with fail
  refine rebase ?_; intro W1 hW _; have hz : Below w.heap.size w W1 := by rw [hW]; go_grown
  have hb0 := at_of hW (push2_0 _ _ _); have c0 := box2 hb0; have f0 := boxf hb0; have B0 := Lib.hid hb0; clear hb0; have hb1 := at_of hW (push2_1 _ _ _); have c1 := box2 hb1; have f1 := boxf hb1; have B1 := Lib.hid hb1; clear hb1; have HW := Lib.hid hW; clear hW; go_wp2_with fail; go_ret; exact ⟨rfl, ext_end _ hz⟩
structure Placed where
  At : Point
  Tile : Int
  deriving DecidableEq
def Placed.ty : Ty Placed := Ty.via (Ty.prod Point.ty (Ty.int .i64)) (fun x => (x.At, x.Tile))
theorem Placed.cells {w : World} {B : Nat} {cs : List Value} {x : Placed} (h : Placed.ty.rep w B cs x) : cs = [.int .i64 x.At.X, .int .i64 x.At.Y, .int .i64 x.Tile] ∧ InK .i64 x.At.X ∧ InK .i64 x.At.Y ∧ InK .i64 x.Tile := by obtain ⟨_, _, rfl, h0, h1⟩ := h; obtain ⟨rfl, i0_0, i0_1⟩ := Point.cells h0; obtain ⟨rfl, i1⟩ := h1; exact ⟨rfl, i0_0, i0_1, i1⟩
theorem Placed.parts {w : World} {B : Nat} {x : Placed} (h : Placed.ty.rep w B [.int .i64 x.At.X, .int .i64 x.At.Y, .int .i64 x.Tile] x) : InK .i64 x.At.X ∧ InK .i64 x.At.Y ∧ InK .i64 x.Tile := by obtain ⟨hh, r0, r1, r2⟩ := Placed.cells h; exact ⟨r0, r1, r2⟩
theorem Placed.rep_mk {w : World} {B : Nat} {x : Placed} (h0 : InK .i64 x.At.X) (h1 : InK .i64 x.At.Y) (h2 : InK .i64 x.Tile) : Placed.ty.rep w B [.int .i64 x.At.X, .int .i64 x.At.Y, .int .i64 x.Tile] x :=
  ⟨_, _, rfl, Point.rep_mk h0 h1, ⟨rfl, h2⟩⟩
set_option maxRecDepth 100000 in
theorem Placed.reads : Reads Try.prog 101 Placed.ty :=
  reads_via (t := (Ty.prod Point.ty (Ty.int .i64))) (fun x : Placed => (x.At, x.Tile)) (fun y => ⟨y.1, y.2⟩) (fun _ => rfl) (reads_struct Try.underlying101 (by kernel_rfl) (fld_cons rfl (Point.reads) (fld_one rfl (reads_int Try.underlying2 (by kernel_rfl)))))
set_option maxRecDepth 10000 in
set_option maxHeartbeats 1000000 in
theorem eqPlaced_any (x : Placed) (w : World) :
    Calls Try.prog 58 #[.agg #[.int .i64 x.At.X, .int .i64 x.At.Y, .int .i64 x.Tile], .agg #[.int .i64 x.At.X, .int .i64 x.At.Y, .int .i64 x.Tile]] w fun e w' => e = .returned (.bool true) ∧ Below w.heap.size w w' := by
  go_enter Try.func58, Try.ntmps58
  go_upto_region 1 with fail
  refine rebase ?_; intro W1 hW _; have hz : Below w.heap.size w W1 := by rw [hW]; go_grown
  have hb0 := at_of hW (push2_0 _ _ _); have c0 := box3 hb0; have f0 := boxf hb0; have B0 := Lib.hid hb0; clear hb0; have hb1 := at_of hW (push2_1 _ _ _); have c1 := box3 hb1; have f1 := boxf hb1; have B1 := Lib.hid hb1; clear hb1; have HW := Lib.hid hW; clear hW; have hs0 := fun z : Ext W1 => eqPoint_any x.At (W1.to z); have HS0 := Lib.hid hs0; clear hs0; go_wp2_with fail
  first
    | (refine call_ext (HS0.out _) ?_; intro y)
    | (refine wp_region_ext (by kernel_rfl) (by kernel_rfl) ?_; repeat (go_big_quiet_step ((go_at_call 67; exact ext_call (HS0.out _)))); refine wpQuiet_nil ?_; rintro _ ⟨y, rfl⟩)
  go_wp2_with fail
  go_ret; exact ⟨rfl, ext_end _ hz⟩
set_option maxRecDepth 10000 in
set_option maxHeartbeats 1000000 in
theorem eqPlacedS_any (v1 v2 : Value) (xs : List Placed) (w : World) (B : Nat) (hB : B ≤ w.heap.size) (h1 : (Ty.slice 77 Placed.ty).rep w B [v1] xs) (h2 : (Ty.slice 77 Placed.ty).rep w B [v2] xs) :
    Calls Try.prog 43 #[v1, v2] w fun e w' => e = .returned (.bool true) ∧ Below w.heap.size w w' := by
  obtain ⟨a1, c1, rfl, _, hm1⟩ := Ty.form h1; obtain ⟨a2, c2, rfl, _, hm2⟩ := Ty.form h2; have hn : xs.length ≤ 9223372036854775807 := (by unfold maxLen at hm1; omega); clear hm1 hm2; refine rebaseC ?_; intro x; go_enter Try.func43, Try.ntmps43; go_wp2
  go_loopw [5] (fun i wr => ∃ k : Nat, k ≤ xs.length ∧ i = .int .i64 k ∧ ∃ z : Ext w, wr = w.to z) (fun i _ => xs.length - (intOf i).toNat)
  case atStart => exact ⟨0, Nat.zero_le _, rfl, x, rfl⟩
  case round =>
    obtain ⟨k, hk, rfl, z, rfl⟩ := hrel; by_cases hlt : k < xs.length
    · obtain ⟨b1, o1, cs1, rfl, hb1, g1, e1⟩ := Ty.elem h1 hB k hlt; obtain ⟨rfl, _, _, _⟩ := Placed.cells e1; have d1_0 : ∀ z : Ext w, (w.to z).cell? ⟨b1, o1 + k * 3, none⟩ = some (.int .i64 xs[k].At.X) := g1 0 _ rfl; have d1_1 : ∀ z : Ext w, (w.to z).cell? ⟨b1, o1 + k * 3 + 1, none⟩ = some (.int .i64 xs[k].At.Y) := g1 1 _ rfl; have d1_2 : ∀ z : Ext w, (w.to z).cell? ⟨b1, o1 + k * 3 + 2, none⟩ = some (.int .i64 xs[k].Tile) := g1 2 _ rfl; clear g1; obtain ⟨b2, o2, cs2, rfl, hb2, g2, e2⟩ := Ty.elem h2 hB k hlt; obtain ⟨rfl, _, _, _⟩ := Placed.cells e2; have d2_0 : ∀ z : Ext w, (w.to z).cell? ⟨b2, o2 + k * 3, none⟩ = some (.int .i64 xs[k].At.X) := g2 0 _ rfl; have d2_1 : ∀ z : Ext w, (w.to z).cell? ⟨b2, o2 + k * 3 + 1, none⟩ = some (.int .i64 xs[k].At.Y) := g2 1 _ rfl; have d2_2 : ∀ z : Ext w, (w.to z).cell? ⟨b2, o2 + k * 3 + 2, none⟩ = some (.int .i64 xs[k].Tile) := g2 2 _ rfl; clear g2; have hs := fun z : Ext w => eqPlaced_any xs[k] (w.to z); have HS := Lib.hid hs; clear hs; go_wp2_with fail; refine wp_region_ext (by kernel_rfl) (by kernel_rfl) ?_
      repeat (go_big_quiet_step ((go_at_call 58; exact ext_call (HS.out _))))
      refine wpQuiet_nil ?_; rintro _ ⟨y, rfl⟩; go_wp2_with fail
      go_roundw
      case rel => exact ⟨k + 1, by omega, by go_num, y, rfl⟩
      case measure => simp [intOf]; omega
    · go_wp2_with fail
      go_ret; exact ⟨rfl, z.below⟩
set_option maxRecDepth 10000 in
set_option maxHeartbeats 1000000 in
theorem szPlacedS_any (v : Value) (xs : List Placed) (l : Int) (hl0 : 0 ≤ l) (hl1 : l ≤ 1048576) (w : World) (B : Nat) (hB : B ≤ w.heap.size) (h : (Ty.slice 77 Placed.ty).rep w B [v] xs) :
    Calls Try.prog 25 #[v, .int .i64 l] w fun e w' => e = .returned (.int .i64 (szR l (xs.length))) ∧ Below w.heap.size w w' := by
  have _ := hB; obtain ⟨a, c, rfl, hc, hm⟩ := Ty.form h; have hn : xs.length ≤ 9223372036854775807 := (by unfold maxLen at hm; omega); clear hm; by_cases g : (xs.length : Int) ≤ l
  · rw [szR_ok g]; go_enter Try.func25, Try.ntmps25; go_wp2; go_ret; exact ⟨rfl, by go_grown⟩
  · rw [szR_no g]; go_enter Try.func25, Try.ntmps25; go_wp2; go_ret; exact ⟨rfl, by go_grown⟩
structure Assembly where
  Tiles : List Placed
  deriving DecidableEq
def Assembly.ty : Ty Assembly := Ty.via ((Ty.slice 77 Placed.ty)) (fun x => x.Tiles)
def Assembly.cnt (x : Assembly) : Nat := x.Tiles.length
theorem Assembly.cells {w : World} {B : Nat} {cs : List Value} {x : Assembly} (h : Assembly.ty.rep w B cs x) : ∃ v0 : Value, cs = [v0] ∧ (Ty.slice 77 Placed.ty).rep w B [v0] x.Tiles := by have h0 : (Ty.slice 77 Placed.ty).rep w B cs x.Tiles := h; obtain ⟨u0, rfl⟩ := Ty.slice_one h0; exact ⟨_, rfl, h0⟩
theorem Assembly.parts {w : World} {B : Nat} {v0 : Value} {x : Assembly} (h : Assembly.ty.rep w B [v0] x) : (Ty.slice 77 Placed.ty).rep w B [v0] x.Tiles := by obtain ⟨e0, hh, r0⟩ := Assembly.cells h; simp only [List.cons.injEq, and_true, true_and] at hh; subst hh; exact r0
theorem Assembly.rep_mk {w : World} {B : Nat} {v0 : Value} {x : Assembly} (h0 : (Ty.slice 77 Placed.ty).rep w B [v0] x.Tiles) : Assembly.ty.rep w B [v0] x :=
  h0
set_option maxRecDepth 100000 in
theorem Assembly.reads : Reads Try.prog 28 Assembly.ty :=
  reads_via (t := ((Ty.slice 77 Placed.ty))) (fun x : Assembly => x.Tiles) (fun y => ⟨y⟩) (fun _ => rfl) (reads_struct Try.underlying28 (by kernel_rfl) (fld_one rfl (reads_slice Try.underlying26 (by kernel_rfl) (by decide) (Placed.reads))))
set_option maxRecDepth 10000 in
set_option maxHeartbeats 1000000 in
theorem eqAssembly_any (v0 u0 : Value) (x : Assembly) (w : World) (B : Nat) (hB : B ≤ w.heap.size) (h0 : (Ty.slice 77 Placed.ty).rep w B [v0] x.Tiles) (k0 : (Ty.slice 77 Placed.ty).rep w B [u0] x.Tiles) :
    Calls Try.prog 22 #[.agg #[v0], .agg #[u0]] w fun e w' => e = .returned (.bool true) ∧ Below w.heap.size w w' := by
  go_enter Try.func22, Try.ntmps22
  go_upto_region 1 with fail
  refine rebase ?_; intro W1 hW _; have hz : Below w.heap.size w W1 := by rw [hW]; go_grown
  have hb0 := at_of hW (push2_0 _ _ _); have c0 := box1 hb0; have f0 := boxf hb0; have B0 := Lib.hid hb0; clear hb0; have hb1 := at_of hW (push2_1 _ _ _); have c1 := box1 hb1; have f1 := boxf hb1; have B1 := Lib.hid hb1; clear hb1; have HW := Lib.hid hW; clear hW; have hs0 := fun z : Ext W1 => eqPlacedS_any v0 u0 x.Tiles (W1.to z) B (Nat.le_trans hB (ext_end z hz).size) (Ty.rep_below _ h0 ((ext_end z hz).mono hB)) (Ty.rep_below _ k0 ((ext_end z hz).mono hB)); have HS0 := Lib.hid hs0; clear hs0; go_wp2_with fail
  first
    | (refine call_ext (HS0.out _) ?_; intro y)
    | (refine wp_region_ext (by kernel_rfl) (by kernel_rfl) ?_; repeat (go_big_quiet_step ((go_at_call 43; exact ext_call (HS0.out _)))); refine wpQuiet_nil ?_; rintro _ ⟨y, rfl⟩)
  go_wp2_with fail
  go_ret; exact ⟨rfl, ext_end _ hz⟩
set_option maxRecDepth 10000 in
set_option maxHeartbeats 1000000 in
theorem szAssembly_any (v0 : Value) (q : Assembly) (l : Int) (hl0 : 0 ≤ l) (hl1 : l ≤ 1048576) (w : World) (B : Nat) (hB : B ≤ w.heap.size) (h0 : (Ty.slice 77 Placed.ty).rep w B [v0] q.Tiles) :
    Calls Try.prog 10 #[.agg #[v0], .int .i64 l] w fun e w' => e = .returned (.int .i64 (szR l (Assembly.cnt q))) ∧ Below w.heap.size w w' := by
  by_cases g0 : ((q.Tiles.length : Nat) : Int) ≤ l
  · go_enter Try.func10, Try.ntmps10
    go_upto_region 1 with fail
    refine rebase ?_; intro W1 hW _; have hz : Below w.heap.size w W1 := by rw [hW]; go_grown
    have hb0 := at_of hW (push1_0 _ _); have c0 := box1 hb0; have f0 := boxf hb0; have B0 := Lib.hid hb0; clear hb0; have HW := Lib.hid hW; clear hW; have hs0 := fun z : Ext W1 => szPlacedS_any v0 q.Tiles (l) (by omega) (by omega) (W1.to z) B (Nat.le_trans hB (ext_end z hz).size) (Ty.rep_below _ h0 ((ext_end z hz).mono hB)); simp only [szR_ok g0] at hs0; have HS0 := Lib.hid hs0; clear hs0; go_wp2_with fail; refine call_ext (HS0.out _) ?_; intro y; go_wp2_with fail; go_ret; exact ⟨by rw [szR_ok (by unfold Assembly.cnt; omega)]; unfold Assembly.cnt; go_num, ext_end _ hz⟩
  · go_enter Try.func10, Try.ntmps10
    go_upto_region 1 with fail
    refine rebase ?_; intro W1 hW _; have hz : Below w.heap.size w W1 := by rw [hW]; go_grown
    have hb0 := at_of hW (push1_0 _ _); have c0 := box1 hb0; have f0 := boxf hb0; have B0 := Lib.hid hb0; clear hb0; have HW := Lib.hid hW; clear hW; have hs0 := fun z : Ext W1 => szPlacedS_any v0 q.Tiles (l) (by omega) (by omega) (W1.to z) B (Nat.le_trans hB (ext_end z hz).size) (Ty.rep_below _ h0 ((ext_end z hz).mono hB)); simp only [szR_no g0] at hs0; have HS0 := Lib.hid hs0; clear hs0; go_wp2_with fail; refine call_ext (HS0.out _) ?_; intro y; go_wp2_with fail; go_ret; exact ⟨by rw [szR_no (by unfold Assembly.cnt; omega)]; rfl, ext_end _ hz⟩
structure System where
  Set : TileSet
  Seed : Assembly
  Temperature : Int
  deriving DecidableEq
def System.ty : Ty System := Ty.via (Ty.prod TileSet.ty (Ty.prod Assembly.ty (Ty.int .i64))) (fun x => (x.Set, x.Seed, x.Temperature))
def System.cnt (x : System) : Nat := TileSet.cnt x.Set + Assembly.cnt x.Seed
theorem System.cells {w : World} {B : Nat} {cs : List Value} {x : System} (h : System.ty.rep w B cs x) : ∃ v0 v1 v2 : Value, cs = [v0, v1, v2, .int .i64 x.Temperature] ∧ (Ty.slice 93 Glue.ty).rep w B [v0] x.Set.Glues ∧ (Ty.slice 95 Tile.ty).rep w B [v1] x.Set.Tiles ∧ (Ty.slice 77 Placed.ty).rep w B [v2] x.Seed.Tiles ∧ InK .i64 x.Temperature := by obtain ⟨_, _, rfl, h0, _, _, rfl, h1, h2⟩ := h; obtain ⟨u0_0, u0_1, rfl, i0_0, i0_1⟩ := TileSet.cells h0; obtain ⟨u1_0, rfl, i1_0⟩ := Assembly.cells h1; obtain ⟨rfl, i2⟩ := h2; exact ⟨_, _, _, rfl, i0_0, i0_1, i1_0, i2⟩
theorem System.parts {w : World} {B : Nat} {v0 v1 v2 : Value} {x : System} (h : System.ty.rep w B [v0, v1, v2, .int .i64 x.Temperature] x) : (Ty.slice 93 Glue.ty).rep w B [v0] x.Set.Glues ∧ (Ty.slice 95 Tile.ty).rep w B [v1] x.Set.Tiles ∧ (Ty.slice 77 Placed.ty).rep w B [v2] x.Seed.Tiles ∧ InK .i64 x.Temperature := by obtain ⟨e0, e1, e2, hh, r0, r1, r2, r3⟩ := System.cells h; simp only [List.cons.injEq, and_true, true_and] at hh; obtain ⟨rfl, rfl, rfl⟩ := hh; exact ⟨r0, r1, r2, r3⟩
theorem System.rep_mk {w : World} {B : Nat} {v0 v1 v2 : Value} {x : System} (h0 : (Ty.slice 93 Glue.ty).rep w B [v0] x.Set.Glues) (h1 : (Ty.slice 95 Tile.ty).rep w B [v1] x.Set.Tiles) (h2 : (Ty.slice 77 Placed.ty).rep w B [v2] x.Seed.Tiles) (h3 : InK .i64 x.Temperature) : System.ty.rep w B [v0, v1, v2, .int .i64 x.Temperature] x :=
  ⟨_, _, rfl, TileSet.rep_mk h0 h1, _, _, rfl, Assembly.rep_mk h2, ⟨rfl, h3⟩⟩
set_option maxRecDepth 100000 in
theorem System.reads : Reads Try.prog 30 System.ty :=
  reads_via (t := (Ty.prod TileSet.ty (Ty.prod Assembly.ty (Ty.int .i64)))) (fun x : System => (x.Set, x.Seed, x.Temperature)) (fun y => ⟨y.1, y.2.1, y.2.2⟩) (fun _ => rfl) (reads_struct Try.underlying30 (by kernel_rfl) (fld_cons rfl (TileSet.reads) (fld_cons rfl (Assembly.reads) (fld_one rfl (reads_int Try.underlying2 (by kernel_rfl))))))
set_option maxRecDepth 10000 in
set_option maxHeartbeats 1000000 in
theorem eqSystem_any (v0 v1 v2 u0 u1 u2 : Value) (x : System) (w : World) (B : Nat) (hB : B ≤ w.heap.size) (h0 : (Ty.slice 93 Glue.ty).rep w B [v0] x.Set.Glues) (h1 : (Ty.slice 95 Tile.ty).rep w B [v1] x.Set.Tiles) (h2 : (Ty.slice 77 Placed.ty).rep w B [v2] x.Seed.Tiles) (k0 : (Ty.slice 93 Glue.ty).rep w B [u0] x.Set.Glues) (k1 : (Ty.slice 95 Tile.ty).rep w B [u1] x.Set.Tiles) (k2 : (Ty.slice 77 Placed.ty).rep w B [u2] x.Seed.Tiles) :
    Calls Try.prog 21 #[.agg #[v0, v1, v2, .int .i64 x.Temperature], .agg #[u0, u1, u2, .int .i64 x.Temperature]] w fun e w' => e = .returned (.bool true) ∧ Below w.heap.size w w' := by
  go_enter Try.func21, Try.ntmps21
  go_upto_region 1 with fail
  refine rebase ?_; intro W1 hW _; have hz : Below w.heap.size w W1 := by rw [hW]; go_grown
  have hb0 := at_of hW (push2_0 _ _ _); have c0 := box4 hb0; have f0 := boxf hb0; have B0 := Lib.hid hb0; clear hb0; have hb1 := at_of hW (push2_1 _ _ _); have c1 := box4 hb1; have f1 := boxf hb1; have B1 := Lib.hid hb1; clear hb1; have HW := Lib.hid hW; clear hW; have hs0 := fun z : Ext W1 => eqTileSet_any v0 v1 u0 u1 x.Set (W1.to z) B (Nat.le_trans hB (ext_end z hz).size) (Ty.rep_below _ h0 ((ext_end z hz).mono hB)) (Ty.rep_below _ h1 ((ext_end z hz).mono hB)) (Ty.rep_below _ k0 ((ext_end z hz).mono hB)) (Ty.rep_below _ k1 ((ext_end z hz).mono hB)); have HS0 := Lib.hid hs0; clear hs0; have hs1 := fun z : Ext W1 => eqAssembly_any v2 u2 x.Seed (W1.to z) B (Nat.le_trans hB (ext_end z hz).size) (Ty.rep_below _ h2 ((ext_end z hz).mono hB)) (Ty.rep_below _ k2 ((ext_end z hz).mono hB)); have HS1 := Lib.hid hs1; clear hs1; go_wp2_with fail
  first
    | (refine call_ext (HS0.out _) ?_; intro y)
    | (refine wp_region_ext (by kernel_rfl) (by kernel_rfl) ?_; repeat (go_big_quiet_step ((go_at_call 42; exact ext_call (HS0.out _)))); refine wpQuiet_nil ?_; rintro _ ⟨y, rfl⟩)
  go_wp2_with fail
  first
    | (refine call_ext (HS1.out _) ?_; intro y)
    | (refine wp_region_ext (by kernel_rfl) (by kernel_rfl) ?_; repeat (go_big_quiet_step ((go_at_call 22; exact ext_call (HS1.out _)))); refine wpQuiet_nil ?_; rintro _ ⟨y, rfl⟩)
  go_wp2_with fail
  go_ret; exact ⟨rfl, ext_end _ hz⟩
set_option maxRecDepth 10000 in
set_option maxHeartbeats 1000000 in
theorem szSystem_any (v0 v1 v2 : Value) (q : System) (l : Int) (hl0 : 0 ≤ l) (hl1 : l ≤ 1048576) (w : World) (B : Nat) (hB : B ≤ w.heap.size) (h0 : (Ty.slice 93 Glue.ty).rep w B [v0] q.Set.Glues) (h1 : (Ty.slice 95 Tile.ty).rep w B [v1] q.Set.Tiles) (h2 : (Ty.slice 77 Placed.ty).rep w B [v2] q.Seed.Tiles) :
    Calls Try.prog 9 #[.agg #[v0, v1, v2, .int .i64 q.Temperature], .int .i64 l] w fun e w' => e = .returned (.int .i64 (szR l (System.cnt q))) ∧ Below w.heap.size w w' := by
  by_cases g0 : ((TileSet.cnt q.Set : Nat) : Int) ≤ l
  · by_cases g1 : ((Assembly.cnt q.Seed : Nat) : Int) ≤ l - (TileSet.cnt q.Set : Nat)
    · go_enter Try.func9, Try.ntmps9
      go_upto_region 1 with fail
      refine rebase ?_; intro W1 hW _; have hz : Below w.heap.size w W1 := by rw [hW]; go_grown
      have hb0 := at_of hW (push1_0 _ _); have c0 := box4 hb0; have f0 := boxf hb0; have B0 := Lib.hid hb0; clear hb0; have HW := Lib.hid hW; clear hW; have hs0 := fun z : Ext W1 => szTileSet_any v0 v1 q.Set (l) (by omega) (by omega) (W1.to z) B (Nat.le_trans hB (ext_end z hz).size) (Ty.rep_below _ h0 ((ext_end z hz).mono hB)) (Ty.rep_below _ h1 ((ext_end z hz).mono hB)); simp only [szR_ok g0] at hs0; have HS0 := Lib.hid hs0; clear hs0; have hs1 := fun z : Ext W1 => szAssembly_any v2 q.Seed (l - (TileSet.cnt q.Set : Nat)) (by omega) (by omega) (W1.to z) B (Nat.le_trans hB (ext_end z hz).size) (Ty.rep_below _ h2 ((ext_end z hz).mono hB)); simp only [szR_ok g1] at hs1; have HS1 := Lib.hid hs1; clear hs1; go_wp2_with fail; refine call_ext (HS0.out _) ?_; intro y; go_wp2_with fail; refine call_ext (HS1.out _) ?_; intro y; go_wp2_with fail; go_ret; exact ⟨by rw [szR_ok (by unfold System.cnt; omega)]; unfold System.cnt; go_num, ext_end _ hz⟩
    · go_enter Try.func9, Try.ntmps9
      go_upto_region 1 with fail
      refine rebase ?_; intro W1 hW _; have hz : Below w.heap.size w W1 := by rw [hW]; go_grown
      have hb0 := at_of hW (push1_0 _ _); have c0 := box4 hb0; have f0 := boxf hb0; have B0 := Lib.hid hb0; clear hb0; have HW := Lib.hid hW; clear hW; have hs0 := fun z : Ext W1 => szTileSet_any v0 v1 q.Set (l) (by omega) (by omega) (W1.to z) B (Nat.le_trans hB (ext_end z hz).size) (Ty.rep_below _ h0 ((ext_end z hz).mono hB)) (Ty.rep_below _ h1 ((ext_end z hz).mono hB)); simp only [szR_ok g0] at hs0; have HS0 := Lib.hid hs0; clear hs0; have hs1 := fun z : Ext W1 => szAssembly_any v2 q.Seed (l - (TileSet.cnt q.Set : Nat)) (by omega) (by omega) (W1.to z) B (Nat.le_trans hB (ext_end z hz).size) (Ty.rep_below _ h2 ((ext_end z hz).mono hB)); simp only [szR_no g1] at hs1; have HS1 := Lib.hid hs1; clear hs1; go_wp2_with fail; refine call_ext (HS0.out _) ?_; intro y; go_wp2_with fail; refine call_ext (HS1.out _) ?_; intro y; go_wp2_with fail; go_ret; exact ⟨by rw [szR_no (by unfold System.cnt; omega)]; rfl, ext_end _ hz⟩
  · go_enter Try.func9, Try.ntmps9
    go_upto_region 1 with fail
    refine rebase ?_; intro W1 hW _; have hz : Below w.heap.size w W1 := by rw [hW]; go_grown
    have hb0 := at_of hW (push1_0 _ _); have c0 := box4 hb0; have f0 := boxf hb0; have B0 := Lib.hid hb0; clear hb0; have HW := Lib.hid hW; clear hW; have hs0 := fun z : Ext W1 => szTileSet_any v0 v1 q.Set (l) (by omega) (by omega) (W1.to z) B (Nat.le_trans hB (ext_end z hz).size) (Ty.rep_below _ h0 ((ext_end z hz).mono hB)) (Ty.rep_below _ h1 ((ext_end z hz).mono hB)); simp only [szR_no g0] at hs0; have HS0 := Lib.hid hs0; clear hs0; go_wp2_with fail; refine call_ext (HS0.out _) ?_; intro y; go_wp2_with fail; go_ret; exact ⟨by rw [szR_no (by unfold System.cnt; omega)]; rfl, ext_end _ hz⟩
structure Option where
  At : Point
  Tile : Int
  deriving DecidableEq
def Option.ty : Ty Option := Ty.via (Ty.prod Point.ty (Ty.int .i64)) (fun x => (x.At, x.Tile))
theorem Option.cells {w : World} {B : Nat} {cs : List Value} {x : Option} (h : Option.ty.rep w B cs x) : cs = [.int .i64 x.At.X, .int .i64 x.At.Y, .int .i64 x.Tile] ∧ InK .i64 x.At.X ∧ InK .i64 x.At.Y ∧ InK .i64 x.Tile := by obtain ⟨_, _, rfl, h0, h1⟩ := h; obtain ⟨rfl, i0_0, i0_1⟩ := Point.cells h0; obtain ⟨rfl, i1⟩ := h1; exact ⟨rfl, i0_0, i0_1, i1⟩
theorem Option.parts {w : World} {B : Nat} {x : Option} (h : Option.ty.rep w B [.int .i64 x.At.X, .int .i64 x.At.Y, .int .i64 x.Tile] x) : InK .i64 x.At.X ∧ InK .i64 x.At.Y ∧ InK .i64 x.Tile := by obtain ⟨hh, r0, r1, r2⟩ := Option.cells h; exact ⟨r0, r1, r2⟩
theorem Option.rep_mk {w : World} {B : Nat} {x : Option} (h0 : InK .i64 x.At.X) (h1 : InK .i64 x.At.Y) (h2 : InK .i64 x.Tile) : Option.ty.rep w B [.int .i64 x.At.X, .int .i64 x.At.Y, .int .i64 x.Tile] x :=
  ⟨_, _, rfl, Point.rep_mk h0 h1, ⟨rfl, h2⟩⟩
set_option maxRecDepth 100000 in
theorem Option.reads : Reads Try.prog 103 Option.ty :=
  reads_via (t := (Ty.prod Point.ty (Ty.int .i64))) (fun x : Option => (x.At, x.Tile)) (fun y => ⟨y.1, y.2⟩) (fun _ => rfl) (reads_struct Try.underlying103 (by kernel_rfl) (fld_cons rfl (Point.reads) (fld_one rfl (reads_int Try.underlying2 (by kernel_rfl)))))
set_option maxRecDepth 10000 in
set_option maxHeartbeats 1000000 in
theorem eqOption_any (x : Option) (w : World) :
    Calls Try.prog 59 #[.agg #[.int .i64 x.At.X, .int .i64 x.At.Y, .int .i64 x.Tile], .agg #[.int .i64 x.At.X, .int .i64 x.At.Y, .int .i64 x.Tile]] w fun e w' => e = .returned (.bool true) ∧ Below w.heap.size w w' := by
  go_enter Try.func59, Try.ntmps59
  go_upto_region 1 with fail
  refine rebase ?_; intro W1 hW _; have hz : Below w.heap.size w W1 := by rw [hW]; go_grown
  have hb0 := at_of hW (push2_0 _ _ _); have c0 := box3 hb0; have f0 := boxf hb0; have B0 := Lib.hid hb0; clear hb0; have hb1 := at_of hW (push2_1 _ _ _); have c1 := box3 hb1; have f1 := boxf hb1; have B1 := Lib.hid hb1; clear hb1; have HW := Lib.hid hW; clear hW; have hs0 := fun z : Ext W1 => eqPoint_any x.At (W1.to z); have HS0 := Lib.hid hs0; clear hs0; go_wp2_with fail
  first
    | (refine call_ext (HS0.out _) ?_; intro y)
    | (refine wp_region_ext (by kernel_rfl) (by kernel_rfl) ?_; repeat (go_big_quiet_step ((go_at_call 67; exact ext_call (HS0.out _)))); refine wpQuiet_nil ?_; rintro _ ⟨y, rfl⟩)
  go_wp2_with fail
  go_ret; exact ⟨rfl, ext_end _ hz⟩
set_option maxRecDepth 10000 in
set_option maxHeartbeats 1000000 in
theorem eqOptionS_any (v1 v2 : Value) (xs : List Option) (w : World) (B : Nat) (hB : B ≤ w.heap.size) (h1 : (Ty.slice 87 Option.ty).rep w B [v1] xs) (h2 : (Ty.slice 87 Option.ty).rep w B [v2] xs) :
    Calls Try.prog 44 #[v1, v2] w fun e w' => e = .returned (.bool true) ∧ Below w.heap.size w w' := by
  obtain ⟨a1, c1, rfl, _, hm1⟩ := Ty.form h1; obtain ⟨a2, c2, rfl, _, hm2⟩ := Ty.form h2; have hn : xs.length ≤ 9223372036854775807 := (by unfold maxLen at hm1; omega); clear hm1 hm2; refine rebaseC ?_; intro x; go_enter Try.func44, Try.ntmps44; go_wp2
  go_loopw [5] (fun i wr => ∃ k : Nat, k ≤ xs.length ∧ i = .int .i64 k ∧ ∃ z : Ext w, wr = w.to z) (fun i _ => xs.length - (intOf i).toNat)
  case atStart => exact ⟨0, Nat.zero_le _, rfl, x, rfl⟩
  case round =>
    obtain ⟨k, hk, rfl, z, rfl⟩ := hrel; by_cases hlt : k < xs.length
    · obtain ⟨b1, o1, cs1, rfl, hb1, g1, e1⟩ := Ty.elem h1 hB k hlt; obtain ⟨rfl, _, _, _⟩ := Option.cells e1; have d1_0 : ∀ z : Ext w, (w.to z).cell? ⟨b1, o1 + k * 3, none⟩ = some (.int .i64 xs[k].At.X) := g1 0 _ rfl; have d1_1 : ∀ z : Ext w, (w.to z).cell? ⟨b1, o1 + k * 3 + 1, none⟩ = some (.int .i64 xs[k].At.Y) := g1 1 _ rfl; have d1_2 : ∀ z : Ext w, (w.to z).cell? ⟨b1, o1 + k * 3 + 2, none⟩ = some (.int .i64 xs[k].Tile) := g1 2 _ rfl; clear g1; obtain ⟨b2, o2, cs2, rfl, hb2, g2, e2⟩ := Ty.elem h2 hB k hlt; obtain ⟨rfl, _, _, _⟩ := Option.cells e2; have d2_0 : ∀ z : Ext w, (w.to z).cell? ⟨b2, o2 + k * 3, none⟩ = some (.int .i64 xs[k].At.X) := g2 0 _ rfl; have d2_1 : ∀ z : Ext w, (w.to z).cell? ⟨b2, o2 + k * 3 + 1, none⟩ = some (.int .i64 xs[k].At.Y) := g2 1 _ rfl; have d2_2 : ∀ z : Ext w, (w.to z).cell? ⟨b2, o2 + k * 3 + 2, none⟩ = some (.int .i64 xs[k].Tile) := g2 2 _ rfl; clear g2; have hs := fun z : Ext w => eqOption_any xs[k] (w.to z); have HS := Lib.hid hs; clear hs; go_wp2_with fail; refine wp_region_ext (by kernel_rfl) (by kernel_rfl) ?_
      repeat (go_big_quiet_step ((go_at_call 59; exact ext_call (HS.out _))))
      refine wpQuiet_nil ?_; rintro _ ⟨y, rfl⟩; go_wp2_with fail
      go_roundw
      case rel => exact ⟨k + 1, by omega, by go_num, y, rfl⟩
      case measure => simp [intOf]; omega
    · go_wp2_with fail
      go_ret; exact ⟨rfl, z.below⟩
set_option maxRecDepth 10000 in
set_option maxHeartbeats 1000000 in
theorem szOptionS_any (v : Value) (xs : List Option) (l : Int) (hl0 : 0 ≤ l) (hl1 : l ≤ 1048576) (w : World) (B : Nat) (hB : B ≤ w.heap.size) (h : (Ty.slice 87 Option.ty).rep w B [v] xs) :
    Calls Try.prog 26 #[v, .int .i64 l] w fun e w' => e = .returned (.int .i64 (szR l (xs.length))) ∧ Below w.heap.size w w' := by
  have _ := hB; obtain ⟨a, c, rfl, hc, hm⟩ := Ty.form h; have hn : xs.length ≤ 9223372036854775807 := (by unfold maxLen at hm; omega); clear hm; by_cases g : (xs.length : Int) ≤ l
  · rw [szR_ok g]; go_enter Try.func26, Try.ntmps26; go_wp2; go_ret; exact ⟨rfl, by go_grown⟩
  · rw [szR_no g]; go_enter Try.func26, Try.ntmps26; go_wp2; go_ret; exact ⟨rfl, by go_grown⟩
structure Proof where
  Kind : Int
  Sequence : List Option
  Other : List Option
  Part : List Int
  Flows : List (List Int)
  deriving DecidableEq
def Proof.ty : Ty Proof := Ty.via (Ty.prod (Ty.int .i64) (Ty.prod (Ty.slice 87 Option.ty) (Ty.prod (Ty.slice 87 Option.ty) (Ty.prod (Ty.slice 2 (Ty.int .i64)) (Ty.slice 32 (Ty.slice 2 (Ty.int .i64))))))) (fun x => (x.Kind, x.Sequence, x.Other, x.Part, x.Flows))
def Proof.cnt (x : Proof) : Nat := x.Sequence.length + x.Other.length + x.Part.length + cntL (fun x : List Int => x.length) x.Flows
theorem Proof.cells {w : World} {B : Nat} {cs : List Value} {x : Proof} (h : Proof.ty.rep w B cs x) : ∃ v0 v1 v2 v3 : Value, cs = [.int .i64 x.Kind, v0, v1, v2, v3] ∧ InK .i64 x.Kind ∧ (Ty.slice 87 Option.ty).rep w B [v0] x.Sequence ∧ (Ty.slice 87 Option.ty).rep w B [v1] x.Other ∧ (Ty.slice 2 (Ty.int .i64)).rep w B [v2] x.Part ∧ (Ty.slice 32 (Ty.slice 2 (Ty.int .i64))).rep w B [v3] x.Flows := by obtain ⟨_, _, rfl, h0, _, _, rfl, h1, _, _, rfl, h2, _, _, rfl, h3, h4⟩ := h; obtain ⟨rfl, i0⟩ := h0; obtain ⟨u1, rfl⟩ := Ty.slice_one h1; obtain ⟨u2, rfl⟩ := Ty.slice_one h2; obtain ⟨u3, rfl⟩ := Ty.slice_one h3; obtain ⟨u4, rfl⟩ := Ty.slice_one h4; exact ⟨_, _, _, _, rfl, i0, h1, h2, h3, h4⟩
theorem Proof.parts {w : World} {B : Nat} {v0 v1 v2 v3 : Value} {x : Proof} (h : Proof.ty.rep w B [.int .i64 x.Kind, v0, v1, v2, v3] x) : InK .i64 x.Kind ∧ (Ty.slice 87 Option.ty).rep w B [v0] x.Sequence ∧ (Ty.slice 87 Option.ty).rep w B [v1] x.Other ∧ (Ty.slice 2 (Ty.int .i64)).rep w B [v2] x.Part ∧ (Ty.slice 32 (Ty.slice 2 (Ty.int .i64))).rep w B [v3] x.Flows := by obtain ⟨e0, e1, e2, e3, hh, r0, r1, r2, r3, r4⟩ := Proof.cells h; simp only [List.cons.injEq, and_true, true_and] at hh; obtain ⟨rfl, rfl, rfl, rfl⟩ := hh; exact ⟨r0, r1, r2, r3, r4⟩
theorem Proof.rep_mk {w : World} {B : Nat} {v0 v1 v2 v3 : Value} {x : Proof} (h0 : InK .i64 x.Kind) (h1 : (Ty.slice 87 Option.ty).rep w B [v0] x.Sequence) (h2 : (Ty.slice 87 Option.ty).rep w B [v1] x.Other) (h3 : (Ty.slice 2 (Ty.int .i64)).rep w B [v2] x.Part) (h4 : (Ty.slice 32 (Ty.slice 2 (Ty.int .i64))).rep w B [v3] x.Flows) : Proof.ty.rep w B [.int .i64 x.Kind, v0, v1, v2, v3] x :=
  ⟨_, _, rfl, ⟨rfl, h0⟩, _, _, rfl, h1, _, _, rfl, h2, _, _, rfl, h3, h4⟩
set_option maxRecDepth 100000 in
theorem Proof.reads : Reads Try.prog 35 Proof.ty :=
  reads_via (t := (Ty.prod (Ty.int .i64) (Ty.prod (Ty.slice 87 Option.ty) (Ty.prod (Ty.slice 87 Option.ty) (Ty.prod (Ty.slice 2 (Ty.int .i64)) (Ty.slice 32 (Ty.slice 2 (Ty.int .i64)))))))) (fun x : Proof => (x.Kind, x.Sequence, x.Other, x.Part, x.Flows)) (fun y => ⟨y.1, y.2.1, y.2.2.1, y.2.2.2.1, y.2.2.2.2⟩) (fun _ => rfl) (reads_struct Try.underlying35 (by kernel_rfl) (fld_cons rfl (reads_int Try.underlying2 (by kernel_rfl)) (fld_cons rfl (reads_slice Try.underlying31 (by kernel_rfl) (by decide) (Option.reads)) (fld_cons rfl (reads_slice Try.underlying31 (by kernel_rfl) (by decide) (Option.reads)) (fld_cons rfl (reads_slice Try.underlying32 (by kernel_rfl) (by decide) (reads_int Try.underlying2 (by kernel_rfl))) (fld_one rfl (reads_slice Try.underlying33 (by kernel_rfl) (by decide) (reads_slice Try.underlying32 (by kernel_rfl) (by decide) (reads_int Try.underlying2 (by kernel_rfl))))))))))
set_option maxRecDepth 10000 in
set_option maxHeartbeats 1000000 in
theorem eqProof_any (v0 v1 v2 v3 u0 u1 u2 u3 : Value) (x : Proof) (w : World) (B : Nat) (hB : B ≤ w.heap.size) (h0 : (Ty.slice 87 Option.ty).rep w B [v0] x.Sequence) (h1 : (Ty.slice 87 Option.ty).rep w B [v1] x.Other) (h2 : (Ty.slice 2 (Ty.int .i64)).rep w B [v2] x.Part) (h3 : (Ty.slice 32 (Ty.slice 2 (Ty.int .i64))).rep w B [v3] x.Flows) (k0 : (Ty.slice 87 Option.ty).rep w B [u0] x.Sequence) (k1 : (Ty.slice 87 Option.ty).rep w B [u1] x.Other) (k2 : (Ty.slice 2 (Ty.int .i64)).rep w B [u2] x.Part) (k3 : (Ty.slice 32 (Ty.slice 2 (Ty.int .i64))).rep w B [u3] x.Flows) :
    Calls Try.prog 23 #[.agg #[.int .i64 x.Kind, v0, v1, v2, v3], .agg #[.int .i64 x.Kind, u0, u1, u2, u3]] w fun e w' => e = .returned (.bool true) ∧ Below w.heap.size w w' := by
  go_enter Try.func23, Try.ntmps23
  go_upto_region 1 with fail
  refine rebase ?_; intro W1 hW _; have hz : Below w.heap.size w W1 := by rw [hW]; go_grown
  have hb0 := at_of hW (push2_0 _ _ _); have c0 := box5 hb0; have f0 := boxf hb0; have B0 := Lib.hid hb0; clear hb0; have hb1 := at_of hW (push2_1 _ _ _); have c1 := box5 hb1; have f1 := boxf hb1; have B1 := Lib.hid hb1; clear hb1; have HW := Lib.hid hW; clear hW; have hs0 := fun z : Ext W1 => eqOptionS_any v0 u0 x.Sequence (W1.to z) B (Nat.le_trans hB (ext_end z hz).size) (Ty.rep_below _ h0 ((ext_end z hz).mono hB)) (Ty.rep_below _ k0 ((ext_end z hz).mono hB)); have HS0 := Lib.hid hs0; clear hs0; have hs1 := fun z : Ext W1 => eqOptionS_any v1 u1 x.Other (W1.to z) B (Nat.le_trans hB (ext_end z hz).size) (Ty.rep_below _ h1 ((ext_end z hz).mono hB)) (Ty.rep_below _ k1 ((ext_end z hz).mono hB)); have HS1 := Lib.hid hs1; clear hs1; have hs2 := fun z : Ext W1 => eqInt64S_any v2 u2 x.Part (W1.to z) B (Nat.le_trans hB (ext_end z hz).size) (Ty.rep_below _ h2 ((ext_end z hz).mono hB)) (Ty.rep_below _ k2 ((ext_end z hz).mono hB)); have HS2 := Lib.hid hs2; clear hs2; have hs3 := fun z : Ext W1 => eqInt64SS_any v3 u3 x.Flows (W1.to z) B (Nat.le_trans hB (ext_end z hz).size) (Ty.rep_below _ h3 ((ext_end z hz).mono hB)) (Ty.rep_below _ k3 ((ext_end z hz).mono hB)); have HS3 := Lib.hid hs3; clear hs3; go_wp2_with fail
  first
    | (refine call_ext (HS0.out _) ?_; intro y)
    | (refine wp_region_ext (by kernel_rfl) (by kernel_rfl) ?_; repeat (go_big_quiet_step ((go_at_call 44; exact ext_call (HS0.out _)))); refine wpQuiet_nil ?_; rintro _ ⟨y, rfl⟩)
  go_wp2_with fail
  first
    | (refine call_ext (HS1.out _) ?_; intro y)
    | (refine wp_region_ext (by kernel_rfl) (by kernel_rfl) ?_; repeat (go_big_quiet_step ((go_at_call 44; exact ext_call (HS1.out _)))); refine wpQuiet_nil ?_; rintro _ ⟨y, rfl⟩)
  go_wp2_with fail
  first
    | (refine call_ext (HS2.out _) ?_; intro y)
    | (refine wp_region_ext (by kernel_rfl) (by kernel_rfl) ?_; repeat (go_big_quiet_step ((go_at_call 45; exact ext_call (HS2.out _)))); refine wpQuiet_nil ?_; rintro _ ⟨y, rfl⟩)
  go_wp2_with fail
  first
    | (refine call_ext (HS3.out _) ?_; intro y)
    | (refine wp_region_ext (by kernel_rfl) (by kernel_rfl) ?_; repeat (go_big_quiet_step ((go_at_call 46; exact ext_call (HS3.out _)))); refine wpQuiet_nil ?_; rintro _ ⟨y, rfl⟩)
  go_wp2_with fail
  go_ret; exact ⟨rfl, ext_end _ hz⟩
set_option maxRecDepth 10000 in
set_option maxHeartbeats 1000000 in
theorem szProof_any (v0 v1 v2 v3 : Value) (q : Proof) (l : Int) (hl0 : 0 ≤ l) (hl1 : l ≤ 1048576) (w : World) (B : Nat) (hB : B ≤ w.heap.size) (h0 : (Ty.slice 87 Option.ty).rep w B [v0] q.Sequence) (h1 : (Ty.slice 87 Option.ty).rep w B [v1] q.Other) (h2 : (Ty.slice 2 (Ty.int .i64)).rep w B [v2] q.Part) (h3 : (Ty.slice 32 (Ty.slice 2 (Ty.int .i64))).rep w B [v3] q.Flows) :
    Calls Try.prog 11 #[.agg #[.int .i64 q.Kind, v0, v1, v2, v3], .int .i64 l] w fun e w' => e = .returned (.int .i64 (szR l (Proof.cnt q))) ∧ Below w.heap.size w w' := by
  by_cases g0 : ((q.Sequence.length : Nat) : Int) ≤ l
  · by_cases g1 : ((q.Other.length : Nat) : Int) ≤ l - (q.Sequence.length : Nat)
    · by_cases g2 : ((q.Part.length : Nat) : Int) ≤ l - (q.Sequence.length : Nat) - (q.Other.length : Nat)
      · by_cases g3 : ((cntL (fun x : List Int => x.length) q.Flows : Nat) : Int) ≤ l - (q.Sequence.length : Nat) - (q.Other.length : Nat) - (q.Part.length : Nat)
        · go_enter Try.func11, Try.ntmps11
          go_upto_region 1 with fail
          refine rebase ?_; intro W1 hW _; have hz : Below w.heap.size w W1 := by rw [hW]; go_grown
          have hb0 := at_of hW (push1_0 _ _); have c0 := box5 hb0; have f0 := boxf hb0; have B0 := Lib.hid hb0; clear hb0; have HW := Lib.hid hW; clear hW; have hs0 := fun z : Ext W1 => szOptionS_any v0 q.Sequence (l) (by omega) (by omega) (W1.to z) B (Nat.le_trans hB (ext_end z hz).size) (Ty.rep_below _ h0 ((ext_end z hz).mono hB)); simp only [szR_ok g0] at hs0; have HS0 := Lib.hid hs0; clear hs0; have hs1 := fun z : Ext W1 => szOptionS_any v1 q.Other (l - (q.Sequence.length : Nat)) (by omega) (by omega) (W1.to z) B (Nat.le_trans hB (ext_end z hz).size) (Ty.rep_below _ h1 ((ext_end z hz).mono hB)); simp only [szR_ok g1] at hs1; have HS1 := Lib.hid hs1; clear hs1; have hs2 := fun z : Ext W1 => szInt64S_any v2 q.Part (l - (q.Sequence.length : Nat) - (q.Other.length : Nat)) (by omega) (by omega) (W1.to z) B (Nat.le_trans hB (ext_end z hz).size) (Ty.rep_below _ h2 ((ext_end z hz).mono hB)); simp only [szR_ok g2] at hs2; have HS2 := Lib.hid hs2; clear hs2; have hs3 := fun z : Ext W1 => szInt64SS_any v3 q.Flows (l - (q.Sequence.length : Nat) - (q.Other.length : Nat) - (q.Part.length : Nat)) (by omega) (by omega) (W1.to z) B (Nat.le_trans hB (ext_end z hz).size) (Ty.rep_below _ h3 ((ext_end z hz).mono hB)); simp only [szR_ok g3] at hs3; have HS3 := Lib.hid hs3; clear hs3; go_wp2_with fail; refine call_ext (HS0.out _) ?_; intro y; go_wp2_with fail; refine call_ext (HS1.out _) ?_; intro y; go_wp2_with fail; refine call_ext (HS2.out _) ?_; intro y; go_wp2_with fail; refine call_ext (HS3.out _) ?_; intro y; go_wp2_with fail; go_ret; exact ⟨by rw [szR_ok (by unfold Proof.cnt; omega)]; unfold Proof.cnt; go_num, ext_end _ hz⟩
        · go_enter Try.func11, Try.ntmps11
          go_upto_region 1 with fail
          refine rebase ?_; intro W1 hW _; have hz : Below w.heap.size w W1 := by rw [hW]; go_grown
          have hb0 := at_of hW (push1_0 _ _); have c0 := box5 hb0; have f0 := boxf hb0; have B0 := Lib.hid hb0; clear hb0; have HW := Lib.hid hW; clear hW; have hs0 := fun z : Ext W1 => szOptionS_any v0 q.Sequence (l) (by omega) (by omega) (W1.to z) B (Nat.le_trans hB (ext_end z hz).size) (Ty.rep_below _ h0 ((ext_end z hz).mono hB)); simp only [szR_ok g0] at hs0; have HS0 := Lib.hid hs0; clear hs0; have hs1 := fun z : Ext W1 => szOptionS_any v1 q.Other (l - (q.Sequence.length : Nat)) (by omega) (by omega) (W1.to z) B (Nat.le_trans hB (ext_end z hz).size) (Ty.rep_below _ h1 ((ext_end z hz).mono hB)); simp only [szR_ok g1] at hs1; have HS1 := Lib.hid hs1; clear hs1; have hs2 := fun z : Ext W1 => szInt64S_any v2 q.Part (l - (q.Sequence.length : Nat) - (q.Other.length : Nat)) (by omega) (by omega) (W1.to z) B (Nat.le_trans hB (ext_end z hz).size) (Ty.rep_below _ h2 ((ext_end z hz).mono hB)); simp only [szR_ok g2] at hs2; have HS2 := Lib.hid hs2; clear hs2; have hs3 := fun z : Ext W1 => szInt64SS_any v3 q.Flows (l - (q.Sequence.length : Nat) - (q.Other.length : Nat) - (q.Part.length : Nat)) (by omega) (by omega) (W1.to z) B (Nat.le_trans hB (ext_end z hz).size) (Ty.rep_below _ h3 ((ext_end z hz).mono hB)); simp only [szR_no g3] at hs3; have HS3 := Lib.hid hs3; clear hs3; go_wp2_with fail; refine call_ext (HS0.out _) ?_; intro y; go_wp2_with fail; refine call_ext (HS1.out _) ?_; intro y; go_wp2_with fail; refine call_ext (HS2.out _) ?_; intro y; go_wp2_with fail; refine call_ext (HS3.out _) ?_; intro y; go_wp2_with fail; go_ret; exact ⟨by rw [szR_no (by unfold Proof.cnt; omega)]; rfl, ext_end _ hz⟩
      · go_enter Try.func11, Try.ntmps11
        go_upto_region 1 with fail
        refine rebase ?_; intro W1 hW _; have hz : Below w.heap.size w W1 := by rw [hW]; go_grown
        have hb0 := at_of hW (push1_0 _ _); have c0 := box5 hb0; have f0 := boxf hb0; have B0 := Lib.hid hb0; clear hb0; have HW := Lib.hid hW; clear hW; have hs0 := fun z : Ext W1 => szOptionS_any v0 q.Sequence (l) (by omega) (by omega) (W1.to z) B (Nat.le_trans hB (ext_end z hz).size) (Ty.rep_below _ h0 ((ext_end z hz).mono hB)); simp only [szR_ok g0] at hs0; have HS0 := Lib.hid hs0; clear hs0; have hs1 := fun z : Ext W1 => szOptionS_any v1 q.Other (l - (q.Sequence.length : Nat)) (by omega) (by omega) (W1.to z) B (Nat.le_trans hB (ext_end z hz).size) (Ty.rep_below _ h1 ((ext_end z hz).mono hB)); simp only [szR_ok g1] at hs1; have HS1 := Lib.hid hs1; clear hs1; have hs2 := fun z : Ext W1 => szInt64S_any v2 q.Part (l - (q.Sequence.length : Nat) - (q.Other.length : Nat)) (by omega) (by omega) (W1.to z) B (Nat.le_trans hB (ext_end z hz).size) (Ty.rep_below _ h2 ((ext_end z hz).mono hB)); simp only [szR_no g2] at hs2; have HS2 := Lib.hid hs2; clear hs2; go_wp2_with fail; refine call_ext (HS0.out _) ?_; intro y; go_wp2_with fail; refine call_ext (HS1.out _) ?_; intro y; go_wp2_with fail; refine call_ext (HS2.out _) ?_; intro y; go_wp2_with fail; go_ret; exact ⟨by rw [szR_no (by unfold Proof.cnt; omega)]; rfl, ext_end _ hz⟩
    · go_enter Try.func11, Try.ntmps11
      go_upto_region 1 with fail
      refine rebase ?_; intro W1 hW _; have hz : Below w.heap.size w W1 := by rw [hW]; go_grown
      have hb0 := at_of hW (push1_0 _ _); have c0 := box5 hb0; have f0 := boxf hb0; have B0 := Lib.hid hb0; clear hb0; have HW := Lib.hid hW; clear hW; have hs0 := fun z : Ext W1 => szOptionS_any v0 q.Sequence (l) (by omega) (by omega) (W1.to z) B (Nat.le_trans hB (ext_end z hz).size) (Ty.rep_below _ h0 ((ext_end z hz).mono hB)); simp only [szR_ok g0] at hs0; have HS0 := Lib.hid hs0; clear hs0; have hs1 := fun z : Ext W1 => szOptionS_any v1 q.Other (l - (q.Sequence.length : Nat)) (by omega) (by omega) (W1.to z) B (Nat.le_trans hB (ext_end z hz).size) (Ty.rep_below _ h1 ((ext_end z hz).mono hB)); simp only [szR_no g1] at hs1; have HS1 := Lib.hid hs1; clear hs1; go_wp2_with fail; refine call_ext (HS0.out _) ?_; intro y; go_wp2_with fail; refine call_ext (HS1.out _) ?_; intro y; go_wp2_with fail; go_ret; exact ⟨by rw [szR_no (by unfold Proof.cnt; omega)]; rfl, ext_end _ hz⟩
  · go_enter Try.func11, Try.ntmps11
    go_upto_region 1 with fail
    refine rebase ?_; intro W1 hW _; have hz : Below w.heap.size w W1 := by rw [hW]; go_grown
    have hb0 := at_of hW (push1_0 _ _); have c0 := box5 hb0; have f0 := boxf hb0; have B0 := Lib.hid hb0; clear hb0; have HW := Lib.hid hW; clear hW; have hs0 := fun z : Ext W1 => szOptionS_any v0 q.Sequence (l) (by omega) (by omega) (W1.to z) B (Nat.le_trans hB (ext_end z hz).size) (Ty.rep_below _ h0 ((ext_end z hz).mono hB)); simp only [szR_no g0] at hs0; have HS0 := Lib.hid hs0; clear hs0; go_wp2_with fail; refine call_ext (HS0.out _) ?_; intro y; go_wp2_with fail; go_ret; exact ⟨by rw [szR_no (by unfold Proof.cnt; omega)]; rfl, ext_end _ hz⟩
structure Entry where
  Name : ByteArray
  System : System
  End : Assembly
  Proof : Proof
  deriving DecidableEq
def Entry.ty : Ty Entry := Ty.via (Ty.prod Ty.str (Ty.prod System.ty (Ty.prod Assembly.ty Proof.ty))) (fun x => (x.Name, x.System, x.End, x.Proof))
def Entry.cnt (x : Entry) : Nat := x.Name.size + System.cnt x.System + Assembly.cnt x.End + Proof.cnt x.Proof
theorem Entry.cells {w : World} {B : Nat} {cs : List Value} {x : Entry} (h : Entry.ty.rep w B cs x) : ∃ v0 v1 v2 v3 v4 v5 v6 v7 : Value, cs = [.string x.Name, v0, v1, v2, .int .i64 x.System.Temperature, v3, .int .i64 x.Proof.Kind, v4, v5, v6, v7] ∧ x.Name.size ≤ maxLen ∧ (Ty.slice 93 Glue.ty).rep w B [v0] x.System.Set.Glues ∧ (Ty.slice 95 Tile.ty).rep w B [v1] x.System.Set.Tiles ∧ (Ty.slice 77 Placed.ty).rep w B [v2] x.System.Seed.Tiles ∧ InK .i64 x.System.Temperature ∧ (Ty.slice 77 Placed.ty).rep w B [v3] x.End.Tiles ∧ InK .i64 x.Proof.Kind ∧ (Ty.slice 87 Option.ty).rep w B [v4] x.Proof.Sequence ∧ (Ty.slice 87 Option.ty).rep w B [v5] x.Proof.Other ∧ (Ty.slice 2 (Ty.int .i64)).rep w B [v6] x.Proof.Part ∧ (Ty.slice 32 (Ty.slice 2 (Ty.int .i64))).rep w B [v7] x.Proof.Flows := by obtain ⟨_, _, rfl, h0, _, _, rfl, h1, _, _, rfl, h2, h3⟩ := h; obtain ⟨rfl, i0⟩ := h0; obtain ⟨u1_0, u1_1, u1_2, rfl, i1_0, i1_1, i1_2, i1_3⟩ := System.cells h1; obtain ⟨u2_0, rfl, i2_0⟩ := Assembly.cells h2; obtain ⟨u3_1, u3_2, u3_3, u3_4, rfl, i3_0, i3_1, i3_2, i3_3, i3_4⟩ := Proof.cells h3; exact ⟨_, _, _, _, _, _, _, _, rfl, i0, i1_0, i1_1, i1_2, i1_3, i2_0, i3_0, i3_1, i3_2, i3_3, i3_4⟩
theorem Entry.parts {w : World} {B : Nat} {v0 v1 v2 v3 v4 v5 v6 v7 : Value} {x : Entry} (h : Entry.ty.rep w B [.string x.Name, v0, v1, v2, .int .i64 x.System.Temperature, v3, .int .i64 x.Proof.Kind, v4, v5, v6, v7] x) : x.Name.size ≤ maxLen ∧ (Ty.slice 93 Glue.ty).rep w B [v0] x.System.Set.Glues ∧ (Ty.slice 95 Tile.ty).rep w B [v1] x.System.Set.Tiles ∧ (Ty.slice 77 Placed.ty).rep w B [v2] x.System.Seed.Tiles ∧ InK .i64 x.System.Temperature ∧ (Ty.slice 77 Placed.ty).rep w B [v3] x.End.Tiles ∧ InK .i64 x.Proof.Kind ∧ (Ty.slice 87 Option.ty).rep w B [v4] x.Proof.Sequence ∧ (Ty.slice 87 Option.ty).rep w B [v5] x.Proof.Other ∧ (Ty.slice 2 (Ty.int .i64)).rep w B [v6] x.Proof.Part ∧ (Ty.slice 32 (Ty.slice 2 (Ty.int .i64))).rep w B [v7] x.Proof.Flows := by obtain ⟨e0, e1, e2, e3, e4, e5, e6, e7, hh, r0, r1, r2, r3, r4, r5, r6, r7, r8, r9, r10⟩ := Entry.cells h; simp only [List.cons.injEq, and_true, true_and] at hh; obtain ⟨rfl, rfl, rfl, rfl, rfl, rfl, rfl, rfl⟩ := hh; exact ⟨r0, r1, r2, r3, r4, r5, r6, r7, r8, r9, r10⟩
theorem Entry.rep_mk {w : World} {B : Nat} {v0 v1 v2 v3 v4 v5 v6 v7 : Value} {x : Entry} (h0 : x.Name.size ≤ maxLen) (h1 : (Ty.slice 93 Glue.ty).rep w B [v0] x.System.Set.Glues) (h2 : (Ty.slice 95 Tile.ty).rep w B [v1] x.System.Set.Tiles) (h3 : (Ty.slice 77 Placed.ty).rep w B [v2] x.System.Seed.Tiles) (h4 : InK .i64 x.System.Temperature) (h5 : (Ty.slice 77 Placed.ty).rep w B [v3] x.End.Tiles) (h6 : InK .i64 x.Proof.Kind) (h7 : (Ty.slice 87 Option.ty).rep w B [v4] x.Proof.Sequence) (h8 : (Ty.slice 87 Option.ty).rep w B [v5] x.Proof.Other) (h9 : (Ty.slice 2 (Ty.int .i64)).rep w B [v6] x.Proof.Part) (h10 : (Ty.slice 32 (Ty.slice 2 (Ty.int .i64))).rep w B [v7] x.Proof.Flows) : Entry.ty.rep w B [.string x.Name, v0, v1, v2, .int .i64 x.System.Temperature, v3, .int .i64 x.Proof.Kind, v4, v5, v6, v7] x :=
  ⟨_, _, rfl, ⟨rfl, h0⟩, _, _, rfl, System.rep_mk h1 h2 h3 h4, _, _, rfl, Assembly.rep_mk h5, Proof.rep_mk h6 h7 h8 h9 h10⟩
set_option maxRecDepth 100000 in
theorem Entry.reads : Reads Try.prog 37 Entry.ty :=
  reads_via (t := (Ty.prod Ty.str (Ty.prod System.ty (Ty.prod Assembly.ty Proof.ty)))) (fun x : Entry => (x.Name, x.System, x.End, x.Proof)) (fun y => ⟨y.1, y.2.1, y.2.2.1, y.2.2.2⟩) (fun _ => rfl) (reads_struct Try.underlying37 (by kernel_rfl) (fld_cons rfl (reads_str Try.underlying9 (by kernel_rfl)) (fld_cons rfl (System.reads) (fld_cons rfl (Assembly.reads) (fld_one rfl (Proof.reads))))))
set_option maxRecDepth 10000 in
set_option maxHeartbeats 1000000 in
theorem eqEntry_any (v0 v1 v2 v3 v4 v5 v6 v7 u0 u1 u2 u3 u4 u5 u6 u7 : Value) (x : Entry) (w : World) (B : Nat) (hB : B ≤ w.heap.size) (h0 : (Ty.slice 93 Glue.ty).rep w B [v0] x.System.Set.Glues) (h1 : (Ty.slice 95 Tile.ty).rep w B [v1] x.System.Set.Tiles) (h2 : (Ty.slice 77 Placed.ty).rep w B [v2] x.System.Seed.Tiles) (h3 : (Ty.slice 77 Placed.ty).rep w B [v3] x.End.Tiles) (h4 : (Ty.slice 87 Option.ty).rep w B [v4] x.Proof.Sequence) (h5 : (Ty.slice 87 Option.ty).rep w B [v5] x.Proof.Other) (h6 : (Ty.slice 2 (Ty.int .i64)).rep w B [v6] x.Proof.Part) (h7 : (Ty.slice 32 (Ty.slice 2 (Ty.int .i64))).rep w B [v7] x.Proof.Flows) (k0 : (Ty.slice 93 Glue.ty).rep w B [u0] x.System.Set.Glues) (k1 : (Ty.slice 95 Tile.ty).rep w B [u1] x.System.Set.Tiles) (k2 : (Ty.slice 77 Placed.ty).rep w B [u2] x.System.Seed.Tiles) (k3 : (Ty.slice 77 Placed.ty).rep w B [u3] x.End.Tiles) (k4 : (Ty.slice 87 Option.ty).rep w B [u4] x.Proof.Sequence) (k5 : (Ty.slice 87 Option.ty).rep w B [u5] x.Proof.Other) (k6 : (Ty.slice 2 (Ty.int .i64)).rep w B [u6] x.Proof.Part) (k7 : (Ty.slice 32 (Ty.slice 2 (Ty.int .i64))).rep w B [u7] x.Proof.Flows) :
    Calls Try.prog 8 #[.agg #[.string x.Name, v0, v1, v2, .int .i64 x.System.Temperature, v3, .int .i64 x.Proof.Kind, v4, v5, v6, v7], .agg #[.string x.Name, u0, u1, u2, .int .i64 x.System.Temperature, u3, .int .i64 x.Proof.Kind, u4, u5, u6, u7]] w fun e w' => e = .returned (.bool true) ∧ Below w.heap.size w w' := by
  go_enter Try.func8, Try.ntmps8
  go_upto_region 1 with fail
  refine rebase ?_; intro W1 hW _; have hz : Below w.heap.size w W1 := by rw [hW]; go_grown
  have hb0 := at_of hW (push2_0 _ _ _); have c0 := box11 hb0; have f0 := boxf hb0; have B0 := Lib.hid hb0; clear hb0; have hb1 := at_of hW (push2_1 _ _ _); have c1 := box11 hb1; have f1 := boxf hb1; have B1 := Lib.hid hb1; clear hb1; have HW := Lib.hid hW; clear hW; have hs0 := fun z : Ext W1 => eqSystem_any v0 v1 v2 u0 u1 u2 x.System (W1.to z) B (Nat.le_trans hB (ext_end z hz).size) (Ty.rep_below _ h0 ((ext_end z hz).mono hB)) (Ty.rep_below _ h1 ((ext_end z hz).mono hB)) (Ty.rep_below _ h2 ((ext_end z hz).mono hB)) (Ty.rep_below _ k0 ((ext_end z hz).mono hB)) (Ty.rep_below _ k1 ((ext_end z hz).mono hB)) (Ty.rep_below _ k2 ((ext_end z hz).mono hB)); have HS0 := Lib.hid hs0; clear hs0; have hs1 := fun z : Ext W1 => eqAssembly_any v3 u3 x.End (W1.to z) B (Nat.le_trans hB (ext_end z hz).size) (Ty.rep_below _ h3 ((ext_end z hz).mono hB)) (Ty.rep_below _ k3 ((ext_end z hz).mono hB)); have HS1 := Lib.hid hs1; clear hs1; have hs2 := fun z : Ext W1 => eqProof_any v4 v5 v6 v7 u4 u5 u6 u7 x.Proof (W1.to z) B (Nat.le_trans hB (ext_end z hz).size) (Ty.rep_below _ h4 ((ext_end z hz).mono hB)) (Ty.rep_below _ h5 ((ext_end z hz).mono hB)) (Ty.rep_below _ h6 ((ext_end z hz).mono hB)) (Ty.rep_below _ h7 ((ext_end z hz).mono hB)) (Ty.rep_below _ k4 ((ext_end z hz).mono hB)) (Ty.rep_below _ k5 ((ext_end z hz).mono hB)) (Ty.rep_below _ k6 ((ext_end z hz).mono hB)) (Ty.rep_below _ k7 ((ext_end z hz).mono hB)); have HS2 := Lib.hid hs2; clear hs2; go_wp2_with fail
  first
    | (refine call_ext (HS0.out _) ?_; intro y)
    | (refine wp_region_ext (by kernel_rfl) (by kernel_rfl) ?_; repeat (go_big_quiet_step ((go_at_call 21; exact ext_call (HS0.out _)))); refine wpQuiet_nil ?_; rintro _ ⟨y, rfl⟩)
  go_wp2_with fail
  first
    | (refine call_ext (HS1.out _) ?_; intro y)
    | (refine wp_region_ext (by kernel_rfl) (by kernel_rfl) ?_; repeat (go_big_quiet_step ((go_at_call 22; exact ext_call (HS1.out _)))); refine wpQuiet_nil ?_; rintro _ ⟨y, rfl⟩)
  go_wp2_with fail
  first
    | (refine call_ext (HS2.out _) ?_; intro y)
    | (refine wp_region_ext (by kernel_rfl) (by kernel_rfl) ?_; repeat (go_big_quiet_step ((go_at_call 23; exact ext_call (HS2.out _)))); refine wpQuiet_nil ?_; rintro _ ⟨y, rfl⟩)
  go_wp2_with fail
  go_ret; exact ⟨rfl, ext_end _ hz⟩
set_option maxRecDepth 10000 in
set_option maxHeartbeats 1000000 in
theorem szEntry_any (v0 v1 v2 v3 v4 v5 v6 v7 : Value) (q : Entry) (l : Int) (hl0 : 0 ≤ l) (hl1 : l ≤ 1048576) (w : World) (B : Nat) (hB : B ≤ w.heap.size) (h0 : (Ty.slice 93 Glue.ty).rep w B [v0] q.System.Set.Glues) (h1 : (Ty.slice 95 Tile.ty).rep w B [v1] q.System.Set.Tiles) (h2 : (Ty.slice 77 Placed.ty).rep w B [v2] q.System.Seed.Tiles) (h3 : (Ty.slice 77 Placed.ty).rep w B [v3] q.End.Tiles) (h4 : (Ty.slice 87 Option.ty).rep w B [v4] q.Proof.Sequence) (h5 : (Ty.slice 87 Option.ty).rep w B [v5] q.Proof.Other) (h6 : (Ty.slice 2 (Ty.int .i64)).rep w B [v6] q.Proof.Part) (h7 : (Ty.slice 32 (Ty.slice 2 (Ty.int .i64))).rep w B [v7] q.Proof.Flows) (s0 : q.Name.size ≤ maxLen) :
    Calls Try.prog 4 #[.agg #[.string q.Name, v0, v1, v2, .int .i64 q.System.Temperature, v3, .int .i64 q.Proof.Kind, v4, v5, v6, v7], .int .i64 l] w fun e w' => e = .returned (.int .i64 (szR l (Entry.cnt q))) ∧ Below w.heap.size w w' := by
  have s0_ : q.Name.size ≤ 9223372036854775807 := (by unfold maxLen at s0; omega); by_cases g0 : ((q.Name.size : Nat) : Int) ≤ l
  · by_cases g1 : ((System.cnt q.System : Nat) : Int) ≤ l - (q.Name.size : Nat)
    · by_cases g2 : ((Assembly.cnt q.End : Nat) : Int) ≤ l - (q.Name.size : Nat) - (System.cnt q.System : Nat)
      · by_cases g3 : ((Proof.cnt q.Proof : Nat) : Int) ≤ l - (q.Name.size : Nat) - (System.cnt q.System : Nat) - (Assembly.cnt q.End : Nat)
        · go_enter Try.func4, Try.ntmps4
          go_upto_region 1 with fail
          refine rebase ?_; intro W1 hW _; have hz : Below w.heap.size w W1 := by rw [hW]; go_grown
          have hb0 := at_of hW (push1_0 _ _); have c0 := box11 hb0; have f0 := boxf hb0; have B0 := Lib.hid hb0; clear hb0; have HW := Lib.hid hW; clear hW; have hs1 := fun z : Ext W1 => szSystem_any v0 v1 v2 q.System (l - (q.Name.size : Nat)) (by omega) (by omega) (W1.to z) B (Nat.le_trans hB (ext_end z hz).size) (Ty.rep_below _ h0 ((ext_end z hz).mono hB)) (Ty.rep_below _ h1 ((ext_end z hz).mono hB)) (Ty.rep_below _ h2 ((ext_end z hz).mono hB)); simp only [szR_ok g1] at hs1; have HS1 := Lib.hid hs1; clear hs1; have hs2 := fun z : Ext W1 => szAssembly_any v3 q.End (l - (q.Name.size : Nat) - (System.cnt q.System : Nat)) (by omega) (by omega) (W1.to z) B (Nat.le_trans hB (ext_end z hz).size) (Ty.rep_below _ h3 ((ext_end z hz).mono hB)); simp only [szR_ok g2] at hs2; have HS2 := Lib.hid hs2; clear hs2; have hs3 := fun z : Ext W1 => szProof_any v4 v5 v6 v7 q.Proof (l - (q.Name.size : Nat) - (System.cnt q.System : Nat) - (Assembly.cnt q.End : Nat)) (by omega) (by omega) (W1.to z) B (Nat.le_trans hB (ext_end z hz).size) (Ty.rep_below _ h4 ((ext_end z hz).mono hB)) (Ty.rep_below _ h5 ((ext_end z hz).mono hB)) (Ty.rep_below _ h6 ((ext_end z hz).mono hB)) (Ty.rep_below _ h7 ((ext_end z hz).mono hB)); simp only [szR_ok g3] at hs3; have HS3 := Lib.hid hs3; clear hs3; go_wp2_with fail; refine call_ext (HS1.out _) ?_; intro y; go_wp2_with fail; refine call_ext (HS2.out _) ?_; intro y; go_wp2_with fail; refine call_ext (HS3.out _) ?_; intro y; go_wp2_with fail; go_ret; exact ⟨by rw [szR_ok (by unfold Entry.cnt; omega)]; unfold Entry.cnt; go_num, ext_end _ hz⟩
        · go_enter Try.func4, Try.ntmps4
          go_upto_region 1 with fail
          refine rebase ?_; intro W1 hW _; have hz : Below w.heap.size w W1 := by rw [hW]; go_grown
          have hb0 := at_of hW (push1_0 _ _); have c0 := box11 hb0; have f0 := boxf hb0; have B0 := Lib.hid hb0; clear hb0; have HW := Lib.hid hW; clear hW; have hs1 := fun z : Ext W1 => szSystem_any v0 v1 v2 q.System (l - (q.Name.size : Nat)) (by omega) (by omega) (W1.to z) B (Nat.le_trans hB (ext_end z hz).size) (Ty.rep_below _ h0 ((ext_end z hz).mono hB)) (Ty.rep_below _ h1 ((ext_end z hz).mono hB)) (Ty.rep_below _ h2 ((ext_end z hz).mono hB)); simp only [szR_ok g1] at hs1; have HS1 := Lib.hid hs1; clear hs1; have hs2 := fun z : Ext W1 => szAssembly_any v3 q.End (l - (q.Name.size : Nat) - (System.cnt q.System : Nat)) (by omega) (by omega) (W1.to z) B (Nat.le_trans hB (ext_end z hz).size) (Ty.rep_below _ h3 ((ext_end z hz).mono hB)); simp only [szR_ok g2] at hs2; have HS2 := Lib.hid hs2; clear hs2; have hs3 := fun z : Ext W1 => szProof_any v4 v5 v6 v7 q.Proof (l - (q.Name.size : Nat) - (System.cnt q.System : Nat) - (Assembly.cnt q.End : Nat)) (by omega) (by omega) (W1.to z) B (Nat.le_trans hB (ext_end z hz).size) (Ty.rep_below _ h4 ((ext_end z hz).mono hB)) (Ty.rep_below _ h5 ((ext_end z hz).mono hB)) (Ty.rep_below _ h6 ((ext_end z hz).mono hB)) (Ty.rep_below _ h7 ((ext_end z hz).mono hB)); simp only [szR_no g3] at hs3; have HS3 := Lib.hid hs3; clear hs3; go_wp2_with fail; refine call_ext (HS1.out _) ?_; intro y; go_wp2_with fail; refine call_ext (HS2.out _) ?_; intro y; go_wp2_with fail; refine call_ext (HS3.out _) ?_; intro y; go_wp2_with fail; go_ret; exact ⟨by rw [szR_no (by unfold Entry.cnt; omega)]; rfl, ext_end _ hz⟩
      · go_enter Try.func4, Try.ntmps4
        go_upto_region 1 with fail
        refine rebase ?_; intro W1 hW _; have hz : Below w.heap.size w W1 := by rw [hW]; go_grown
        have hb0 := at_of hW (push1_0 _ _); have c0 := box11 hb0; have f0 := boxf hb0; have B0 := Lib.hid hb0; clear hb0; have HW := Lib.hid hW; clear hW; have hs1 := fun z : Ext W1 => szSystem_any v0 v1 v2 q.System (l - (q.Name.size : Nat)) (by omega) (by omega) (W1.to z) B (Nat.le_trans hB (ext_end z hz).size) (Ty.rep_below _ h0 ((ext_end z hz).mono hB)) (Ty.rep_below _ h1 ((ext_end z hz).mono hB)) (Ty.rep_below _ h2 ((ext_end z hz).mono hB)); simp only [szR_ok g1] at hs1; have HS1 := Lib.hid hs1; clear hs1; have hs2 := fun z : Ext W1 => szAssembly_any v3 q.End (l - (q.Name.size : Nat) - (System.cnt q.System : Nat)) (by omega) (by omega) (W1.to z) B (Nat.le_trans hB (ext_end z hz).size) (Ty.rep_below _ h3 ((ext_end z hz).mono hB)); simp only [szR_no g2] at hs2; have HS2 := Lib.hid hs2; clear hs2; go_wp2_with fail; refine call_ext (HS1.out _) ?_; intro y; go_wp2_with fail; refine call_ext (HS2.out _) ?_; intro y; go_wp2_with fail; go_ret; exact ⟨by rw [szR_no (by unfold Entry.cnt; omega)]; rfl, ext_end _ hz⟩
    · go_enter Try.func4, Try.ntmps4
      go_upto_region 1 with fail
      refine rebase ?_; intro W1 hW _; have hz : Below w.heap.size w W1 := by rw [hW]; go_grown
      have hb0 := at_of hW (push1_0 _ _); have c0 := box11 hb0; have f0 := boxf hb0; have B0 := Lib.hid hb0; clear hb0; have HW := Lib.hid hW; clear hW; have hs1 := fun z : Ext W1 => szSystem_any v0 v1 v2 q.System (l - (q.Name.size : Nat)) (by omega) (by omega) (W1.to z) B (Nat.le_trans hB (ext_end z hz).size) (Ty.rep_below _ h0 ((ext_end z hz).mono hB)) (Ty.rep_below _ h1 ((ext_end z hz).mono hB)) (Ty.rep_below _ h2 ((ext_end z hz).mono hB)); simp only [szR_no g1] at hs1; have HS1 := Lib.hid hs1; clear hs1; go_wp2_with fail; refine call_ext (HS1.out _) ?_; intro y; go_wp2_with fail; go_ret; exact ⟨by rw [szR_no (by unfold Entry.cnt; omega)]; rfl, ext_end _ hz⟩
  · go_enter Try.func4, Try.ntmps4
    go_upto_region 1 with fail
    refine rebase ?_; intro W1 hW _; have hz : Below w.heap.size w W1 := by rw [hW]; go_grown
    have hb0 := at_of hW (push1_0 _ _); have c0 := box11 hb0; have f0 := boxf hb0; have B0 := Lib.hid hb0; clear hb0; have HW := Lib.hid hW; clear hW; go_wp2_with fail; go_ret; exact ⟨by rw [szR_no (by unfold Entry.cnt; omega)]; rfl, ext_end _ hz⟩
end Go.Proofs.Ytkaehgnnhookpaa
