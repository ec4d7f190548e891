/- Made by tygen.py: the type Log. -/
import Derived.Test.YtbnjjcnbjkibgaaRows
import Derived.Test.YtbnjjcnbjkibgaaLib
import Derived.Test.YtbnjjcnbjkibgaaTyBase
set_option linter.unusedSimpArgs false
set_option linter.unusedVariables false
set_option linter.all false
namespace Go.Proofs.Ytbnjjcnbjkibgaa
open Go.RowKit Go.ChangeShapes Go.WideShapes Go.ChangeAt
structure Log where
  Safe : List Int
  Loose : List Int
  deriving DecidableEq
def Log.ty : Ty Log := Ty.via (Ty.prod (Ty.slice 5 (Ty.int .u8)) (Ty.slice 5 (Ty.int .u8))) (fun x => (x.Safe, x.Loose))
def Log.cnt (x : Log) : Nat := x.Safe.length + x.Loose.length
theorem Log.cells {w : World} {B : Nat} {cs : List Value} {x : Log} (h : Log.ty.rep w B cs x) : ∃ v0 v1 : Value, cs = [v0, v1] ∧ (Ty.slice 5 (Ty.int .u8)).rep w B [v0] x.Safe ∧ (Ty.slice 5 (Ty.int .u8)).rep w B [v1] x.Loose := by
  obtain ⟨_, _, rfl, h0, h1⟩ := h
  obtain ⟨u0, rfl⟩ := Ty.slice_one h0
  obtain ⟨u1, rfl⟩ := Ty.slice_one h1
  exact ⟨_, _, rfl, h0, h1⟩
theorem Log.parts {w : World} {B : Nat} {v0 v1 : Value} {x : Log} (h : Log.ty.rep w B [v0, v1] x) : (Ty.slice 5 (Ty.int .u8)).rep w B [v0] x.Safe ∧ (Ty.slice 5 (Ty.int .u8)).rep w B [v1] x.Loose := by
  obtain ⟨e0, e1, hh, r0, r1⟩ := Log.cells h
  simp only [List.cons.injEq, and_true, true_and] at hh
  obtain ⟨rfl, rfl⟩ := hh
  exact ⟨r0, r1⟩
theorem Log.rep_mk {w : World} {B : Nat} {v0 v1 : Value} {x : Log} (h0 : (Ty.slice 5 (Ty.int .u8)).rep w B [v0] x.Safe) (h1 : (Ty.slice 5 (Ty.int .u8)).rep w B [v1] x.Loose) : Log.ty.rep w B [v0, v1] x :=
  ⟨_, _, rfl, h0, h1⟩
set_option maxRecDepth 100000 in
theorem Log.reads : Reads Try.prog 205 Log.ty :=
  reads_via (t := (Ty.prod (Ty.slice 5 (Ty.int .u8)) (Ty.slice 5 (Ty.int .u8)))) (fun x : Log => (x.Safe, x.Loose)) (fun y => ⟨y.1, y.2⟩) (fun _ => rfl) (reads_struct Try.underlying205 (by kernel_rfl) (fld_cons rfl (reads_slice Try.underlying148 (by kernel_rfl) (by decide) (reads_int Try.underlying5 (by kernel_rfl))) (fld_one rfl (reads_slice Try.underlying148 (by kernel_rfl) (by decide) (reads_int Try.underlying5 (by kernel_rfl))))))
theorem Log.own_mk {w : World} {m0 m1 m2 : Nat} {v0 v1 : Value} {q : Log} (h0 : Own (Ty.slice 5 (Ty.int .u8)) w m0 m1 [v0] q.Safe) (h1 : Own (Ty.slice 5 (Ty.int .u8)) w m1 m2 [v1] q.Loose) (l0 : m0 ≤ m1) (l1 : m1 ≤ m2) : Own Log.ty w m0 m2 [v0, v1] q :=
  (Own.pair h0 h1 (by omega) (by omega))
theorem info_Log : (Try.prog.info? 150).map (fun i => (i.zero, i.size, i.bytes)) = some (some (.agg #[.slice none 0 0, .slice none 0 0]), 2, 48) := by kernel_rfl
set_option maxRecDepth 10000 in
set_option maxHeartbeats 1000000 in
theorem eqLog_any (v0 v1 u0 u1 : Value) (x : Log) (w : World) (B : Nat) (hB : B ≤ w.heap.size) (h0 : (Ty.slice 5 (Ty.int .u8)).rep w B [v0] x.Safe) (h1 : (Ty.slice 5 (Ty.int .u8)).rep w B [v1] x.Loose) (k0 : (Ty.slice 5 (Ty.int .u8)).rep w B [u0] x.Safe) (k1 : (Ty.slice 5 (Ty.int .u8)).rep w B [u1] x.Loose) :
    Calls Try.prog 147 #[.agg #[v0, v1], .agg #[u0, u1]] w fun e w' => e = .returned (.bool true) ∧ Below w.heap.size w w' := by
  go_enter Try.func147, Try.ntmps147
  go_upto_region 1 with fail
  refine rebase ?_
  intro W1 hW _
  have hz : Below w.heap.size w W1 := by rw [hW]; go_grown
  have hb0 := at_of hW (push2_0 _ _ _)
  have c0 := box2 hb0
  have f0 := boxf hb0
  have B0 := Lib.hid hb0
  clear hb0
  have hb1 := at_of hW (push2_1 _ _ _)
  have c1 := box2 hb1
  have f1 := boxf hb1
  have B1 := Lib.hid hb1
  clear hb1
  have HW := Lib.hid hW
  clear hW
  have hs0 := fun z : Ext W1 => eqByteS_any v0 u0 x.Safe (W1.to z) B (Nat.le_trans hB (ext_end z hz).size) (Ty.rep_below _ h0 ((ext_end z hz).mono hB)) (Ty.rep_below _ k0 ((ext_end z hz).mono hB))
  have HS0 := Lib.hid hs0
  clear hs0
  have hs1 := fun z : Ext W1 => eqByteS_any v1 u1 x.Loose (W1.to z) B (Nat.le_trans hB (ext_end z hz).size) (Ty.rep_below _ h1 ((ext_end z hz).mono hB)) (Ty.rep_below _ k1 ((ext_end z hz).mono hB))
  have HS1 := Lib.hid hs1
  clear hs1
  go_wp2_with fail
  first
    | (refine call_ext (HS0.out _) ?_; intro y)
    | (refine wp_region_ext (by kernel_rfl) (by kernel_rfl) ?_; repeat (go_big_quiet_step ((go_at_call 190; exact ext_call (HS0.out _)))); refine wpQuiet_nil ?_; rintro _ ⟨y, rfl⟩)
  go_wp2_with fail
  first
    | (refine call_ext (HS1.out _) ?_; intro y)
    | (refine wp_region_ext (by kernel_rfl) (by kernel_rfl) ?_; repeat (go_big_quiet_step ((go_at_call 190; exact ext_call (HS1.out _)))); refine wpQuiet_nil ?_; rintro _ ⟨y, rfl⟩)
  go_wp2_with fail
  go_ret
  exact ⟨rfl, ext_end _ hz⟩
set_option maxRecDepth 10000 in
set_option maxHeartbeats 1000000 in
theorem eqLogS_any (v1 v2 : Value) (xs : List Log) (w : World) (B : Nat) (hB : B ≤ w.heap.size) (h1 : (Ty.slice 150 Log.ty).rep w B [v1] xs) (h2 : (Ty.slice 150 Log.ty).rep w B [v2] xs) :
    Calls Try.prog 91 #[v1, v2] w fun e w' => e = .returned (.bool true) ∧ Below w.heap.size w w' := by
  obtain ⟨a1, c1, rfl, _, hm1⟩ := Ty.form h1
  obtain ⟨a2, c2, rfl, _, hm2⟩ := Ty.form h2
  have hn : xs.length ≤ 9223372036854775807 := by unfold maxLen at hm1; omega
  clear hm1 hm2
  refine rebaseC ?_
  intro x
  go_enter Try.func91, Try.ntmps91
  go_wp2
  go_loopw [5] (fun i wr => ∃ k : Nat, k ≤ xs.length ∧ i = .int .i64 k ∧ ∃ z : Ext w, wr = w.to z) (fun i _ => xs.length - (intOf i).toNat)
  case atStart => exact ⟨0, Nat.zero_le _, rfl, x, rfl⟩
  case round =>
    obtain ⟨k, hk, rfl, z, rfl⟩ := hrel
    by_cases hlt : k < xs.length
    · obtain ⟨b1, o1, cs1, rfl, hb1, g1, e1⟩ := Ty.elem h1 hB k hlt
      obtain ⟨p1_0, p1_1, rfl, r1_0, r1_1⟩ := Log.cells e1
      have d1_0 : ∀ z : Ext w, (w.to z).cell? ⟨b1, o1 + k * 2, none⟩ = some (p1_0) := g1 0 _ rfl
      have d1_1 : ∀ z : Ext w, (w.to z).cell? ⟨b1, o1 + k * 2 + 1, none⟩ = some (p1_1) := g1 1 _ rfl
      clear g1
      obtain ⟨b2, o2, cs2, rfl, hb2, g2, e2⟩ := Ty.elem h2 hB k hlt
      obtain ⟨p2_0, p2_1, rfl, r2_0, r2_1⟩ := Log.cells e2
      have d2_0 : ∀ z : Ext w, (w.to z).cell? ⟨b2, o2 + k * 2, none⟩ = some (p2_0) := g2 0 _ rfl
      have d2_1 : ∀ z : Ext w, (w.to z).cell? ⟨b2, o2 + k * 2 + 1, none⟩ = some (p2_1) := g2 1 _ rfl
      clear g2
      have hs := fun z : Ext w => eqLog_any p1_0 p1_1 p2_0 p2_1 xs[k] (w.to z) B (Nat.le_trans hB z.below.size) (Ty.rep_to _ hB r1_0 z) (Ty.rep_to _ hB r1_1 z) (Ty.rep_to _ hB r2_0 z) (Ty.rep_to _ hB r2_1 z)
      have HS := Lib.hid hs
      clear hs
      go_wp2_with fail
      refine wp_region_ext (by kernel_rfl) (by kernel_rfl) ?_
      repeat (go_big_quiet_step ((go_at_call 147; exact ext_call (HS.out _))))
      refine wpQuiet_nil ?_
      rintro _ ⟨y, rfl⟩
      go_wp2_with fail
      go_roundw
      case rel => exact ⟨k + 1, by omega, by go_num, y, rfl⟩
      case measure => simp [intOf]; omega
    · go_wp2_with fail
      go_ret
      exact ⟨rfl, z.below⟩
set_option maxRecDepth 10000 in
set_option maxHeartbeats 1000000 in
theorem szLog_any (v0 v1 : Value) (q : Log) (l : Int) (hl0 : 0 ≤ l) (hl1 : l ≤ 1048576) (w : World) (B : Nat) (hB : B ≤ w.heap.size) (h0 : (Ty.slice 5 (Ty.int .u8)).rep w B [v0] q.Safe) (h1 : (Ty.slice 5 (Ty.int .u8)).rep w B [v1] q.Loose) :
    Calls Try.prog 142 #[.agg #[v0, v1], .int .i64 l] w fun e w' => e = .returned (.int .i64 (szR l (Log.cnt q))) ∧ Below w.heap.size w w' := by
  by_cases g0 : ((q.Safe.length : Nat) : Int) ≤ l
  · by_cases g1 : ((q.Loose.length : Nat) : Int) ≤ l - (q.Safe.length : Nat)
    · go_enter Try.func142, Try.ntmps142
      go_upto_region 1 with fail
      refine rebase ?_
      intro W1 hW _
      have hz : Below w.heap.size w W1 := by rw [hW]; go_grown
      have hb0 := at_of hW (push1_0 _ _)
      have c0 := box2 hb0
      have f0 := boxf hb0
      have B0 := Lib.hid hb0
      clear hb0
      have HW := Lib.hid hW
      clear hW
      have hs0 := fun z : Ext W1 => szByteS_any v0 q.Safe (l) (by omega) (by omega) (W1.to z) B (Nat.le_trans hB (ext_end z hz).size) (Ty.rep_below _ h0 ((ext_end z hz).mono hB))
      simp only [szR_ok g0] at hs0
      have HS0 := Lib.hid hs0
      clear hs0
      have hs1 := fun z : Ext W1 => szByteS_any v1 q.Loose (l - (q.Safe.length : Nat)) (by omega) (by omega) (W1.to z) B (Nat.le_trans hB (ext_end z hz).size) (Ty.rep_below _ h1 ((ext_end z hz).mono hB))
      simp only [szR_ok g1] at hs1
      have HS1 := Lib.hid hs1
      clear hs1
      go_wp2_with fail
      refine call_ext (HS0.out _) ?_
      intro y
      go_wp2_with fail
      refine call_ext (HS1.out _) ?_
      intro y
      go_wp2_with fail
      go_ret
      exact ⟨by rw [szR_ok (by unfold Log.cnt; omega)]; unfold Log.cnt; go_num, ext_end _ hz⟩
    · go_enter Try.func142, Try.ntmps142
      go_upto_region 1 with fail
      refine rebase ?_
      intro W1 hW _
      have hz : Below w.heap.size w W1 := by rw [hW]; go_grown
      have hb0 := at_of hW (push1_0 _ _)
      have c0 := box2 hb0
      have f0 := boxf hb0
      have B0 := Lib.hid hb0
      clear hb0
      have HW := Lib.hid hW
      clear hW
      have hs0 := fun z : Ext W1 => szByteS_any v0 q.Safe (l) (by omega) (by omega) (W1.to z) B (Nat.le_trans hB (ext_end z hz).size) (Ty.rep_below _ h0 ((ext_end z hz).mono hB))
      simp only [szR_ok g0] at hs0
      have HS0 := Lib.hid hs0
      clear hs0
      have hs1 := fun z : Ext W1 => szByteS_any v1 q.Loose (l - (q.Safe.length : Nat)) (by omega) (by omega) (W1.to z) B (Nat.le_trans hB (ext_end z hz).size) (Ty.rep_below _ h1 ((ext_end z hz).mono hB))
      simp only [szR_no g1] at hs1
      have HS1 := Lib.hid hs1
      clear hs1
      go_wp2_with fail
      refine call_ext (HS0.out _) ?_
      intro y
      go_wp2_with fail
      refine call_ext (HS1.out _) ?_
      intro y
      go_wp2_with fail
      go_ret
      exact ⟨by rw [szR_no (by unfold Log.cnt; omega)]; rfl, ext_end _ hz⟩
  · go_enter Try.func142, Try.ntmps142
    go_upto_region 1 with fail
    refine rebase ?_
    intro W1 hW _
    have hz : Below w.heap.size w W1 := by rw [hW]; go_grown
    have hb0 := at_of hW (push1_0 _ _)
    have c0 := box2 hb0
    have f0 := boxf hb0
    have B0 := Lib.hid hb0
    clear hb0
    have HW := Lib.hid hW
    clear hW
    have hs0 := fun z : Ext W1 => szByteS_any v0 q.Safe (l) (by omega) (by omega) (W1.to z) B (Nat.le_trans hB (ext_end z hz).size) (Ty.rep_below _ h0 ((ext_end z hz).mono hB))
    simp only [szR_no g0] at hs0
    have HS0 := Lib.hid hs0
    clear hs0
    go_wp2_with fail
    refine call_ext (HS0.out _) ?_
    intro y
    go_wp2_with fail
    go_ret
    exact ⟨by rw [szR_no (by unfold Log.cnt; omega)]; rfl, ext_end _ hz⟩
set_option maxRecDepth 10000 in
set_option maxHeartbeats 1000000 in
theorem szLogS_any (v : Value) (xs : List Log) (l : Int) (hl0 : 0 ≤ l) (hl1 : l ≤ 1048576) (w : World) (B : Nat) (hB : B ≤ w.heap.size) (h : (Ty.slice 150 Log.ty).rep w B [v] xs) :
    Calls Try.prog 82 #[v, .int .i64 l] w fun e w' => e = .returned (.int .i64 (szR l (cntL Log.cnt xs))) ∧ Below w.heap.size w w' := by
  obtain ⟨a, c, rfl, hc, hm⟩ := Ty.form h
  have hn : xs.length ≤ 9223372036854775807 := by unfold maxLen at hm; omega
  clear hm
  by_cases g : (xs.length : Int) ≤ l
  · refine rebaseC ?_
    intro x
    go_enter Try.func82, Try.ntmps82
    go_wp2
    go_loopw [1, 5] (fun q i wr => ∃ k : Nat, k ≤ xs.length ∧ i = .int .i64 k ∧ ((xs.length + sumT Log.cnt xs k : Nat) : Int) ≤ l ∧ q = .int .i64 (l - (xs.length + sumT Log.cnt xs k : Nat)) ∧ ∃ z : Ext w, wr = w.to z) (fun _ i _ => xs.length - (intOf i).toNat)
    case atStart => exact ⟨0, Nat.zero_le _, rfl, by rw [sumT_zero]; exact g, by rw [sumT_zero]; rfl, x, rfl⟩
    case round =>
      obtain ⟨k, hk, rfl, hs, rfl, z, rfl⟩ := hrel
      generalize hq : xs.length + sumT Log.cnt xs k = q at hs ⊢
      have HQ := Lib.hid hq
      clear hq
      by_cases hlt : k < xs.length
      · obtain ⟨b, o, cs, rfl, hb, gg, ee⟩ := Ty.elem h hB k hlt
        obtain ⟨p0, p1, rfl, r0, r1⟩ := Log.cells ee
        have d0 : ∀ z : Ext w, (w.to z).cell? ⟨b, o + k * 2, none⟩ = some (p0) := gg 0 _ rfl
        have d1 : ∀ z : Ext w, (w.to z).cell? ⟨b, o + k * 2 + 1, none⟩ = some (p1) := gg 1 _ rfl
        clear gg
        have hs1 := fun z : Ext w => szLog_any p0 p1 xs[k] (l - q) (by omega) (by omega) (w.to z) B (Nat.le_trans hB z.below.size) (Ty.rep_to _ hB r0 z) (Ty.rep_to _ hB r1 z)
        have hsum := sumT_succ Log.cnt xs k hlt
        have hsle := sumT_le Log.cnt xs (k + 1)
        have HSU := Lib.hid hsum
        have HSL := Lib.hid hsle
        clear hsum hsle
        by_cases gk : ((Log.cnt xs[k] : Nat) : Int) ≤ l - q
        · simp only [szR_ok gk] at hs1
          have HS1 := Lib.hid hs1
          clear hs1
          go_wp2_with (go_at_call 142; refine call_ext (HS1.out _) ?_; intro y)
          go_roundw
          case rel =>
            have h1 := HSU.out
            have h2 := HQ.out
            exact ⟨k + 1, by omega, by go_num, by rw [h1]; omega, by rw [h1]; go_num, y, rfl⟩
          case measure => simp [intOf]; omega
        · simp only [szR_no gk] at hs1
          have HS1 := Lib.hid hs1
          clear hs1
          go_wp2_with (go_at_call 142; refine call_ext (HS1.out _) ?_; intro y)
          go_ret
          have h1 := HSU.out
          have h2 := HQ.out
          have h3 := HSL.out
          exact ⟨by rw [szR_no (by unfold cntL; omega)]; rfl, y.below⟩
      · obtain rfl : k = xs.length := by omega
        go_wp2_with fail
        go_ret
        have h2 := HQ.out
        have h3 := sumT_all Log.cnt xs
        exact ⟨by rw [szR_ok (by unfold cntL; omega), show cntL Log.cnt xs = q by unfold cntL; omega]; rfl, z.below⟩
  · rw [szR_no (by have := cntL_len Log.cnt xs; omega)]
    go_enter Try.func82, Try.ntmps82
    go_wp2
    go_ret
    exact ⟨rfl, by go_grown⟩
set_option maxRecDepth 10000 in
set_option maxHeartbeats 1000000 in
theorem toLog_any (v0 v1 : Value) (q : Log) (w : World) (B : Nat) (hB : B ≤ w.heap.size) (h0 : (Ty.slice 5 (Ty.int .u8)).rep w B [v0] q.Safe) (h1 : (Ty.slice 5 (Ty.int .u8)).rep w B [v1] q.Loose) (hn : Log.cnt q ≤ 1048576) :
    Calls Try.prog 143 #[.agg #[v0, v1]] w fun e w' => (∃ u0 u1 : Value, e = .returned (.agg #[u0, u1]) ∧ Own Log.ty w' w.heap.size w'.heap.size [u0, u1] q) ∧ Below w.heap.size w w' := by
  have hn' := hn
  unfold Log.cnt at hn'
  obtain ⟨a0, z0, rfl, _, _⟩ := Ty.form h0
  have H0 := Lib.hid h0
  clear h0
  obtain ⟨a1, z1, rfl, _, _⟩ := Ty.form h1
  have H1 := Lib.hid h1
  clear h1
  clear hn
  go_enter Try.func143, Try.ntmps143
  go_wp2_with fail
  refine callbase ?_
  intro W0 hW
  have hz : Below w.heap.size w W0 := by rw [hW]; go_grown
  have hs : w.heap.size + 3 = W0.heap.size := by rw [hW]; simp only [World.size_alloc]
  have hb0 := at_of hW (push3_0 _ _ _ _)
  have hb1 := at_of hW (push3_1 _ _ _ _)
  have hb2 := at_of hW (push3_2 _ _ _ _)
  have HS := Lib.hid hs
  clear hs hW
  refine (toByteS_any _ q.Safe W0 B (Nat.le_trans hB hz.size) (Ty.rep_below _ H0.out (hz.mono hB)) (by omega)).mono ?_
  rintro e w0 ⟨⟨u0, rfl, OO⟩, hb⟩
  have hlt : w.heap.size + 3 ≤ W0.heap.size := by have := HS.out; omega
  have hle := hb.size
  have hb0 := blk_on hb hb0
  have hb1 := blk_on hb hb1
  have hb2 := blk_on hb hb2
  have hz := hz.trans (hb.mono hz.size)
  obtain ⟨ua0, uc0, rfl⟩ := Own.form OO
  have O0 := OO
  clear OO
  have c0 := cel2 hb0
  have f0 := celf hb0
  have HB0 := Lib.hid hb0
  clear hb0
  have c1 := cel2 hb1
  have f1 := celf hb1
  have HB1 := Lib.hid hb1
  clear hb1
  have c2 := cel2 hb2
  have f2 := celf hb2
  have HB2 := Lib.hid hb2
  clear hb2
  have HZ := Lib.hid hz
  have HLT := Lib.hid hlt
  clear hz hb hlt
  have HO0 := Lib.hid O0
  clear O0
  go_wp2_with fail
  refine callbase ?_
  intro W1 hW
  clear c0 c1 c2 f0 f1 f2
  have hz : Below w.heap.size w W1 := by rw [hW]; exact (HZ.out.setCell (by simp <;> omega) _)
  have hs : w0.heap.size = W1.heap.size := by rw [hW]; simp [World.setCell]
  have hb0 := at_of hW (blk_far (HB0.out) _ (by simp <;> omega))
  have hb1 := at_of hW (blk_far (HB1.out) _ (by simp <;> omega))
  have hb2 := at_of hW (blk_set (HB2.out) _)
  have hlt := HLT.out
  have hsl1 := Nat.le_of_eq hs
  have HS := Lib.hid hs
  have O0 := Own.at hW (Own.set (HO0.out) (by omega) _)
  clear hs hW HB0 HB1 HB2 HZ
  clear HO0
  refine (toByteS_any _ q.Loose W1 B (Nat.le_trans hB hz.size) (Ty.rep_below _ H1.out (hz.mono hB)) (by omega)).mono ?_
  rintro e w1 ⟨⟨u1, rfl, OO⟩, hb⟩
  have hlt : w.heap.size + 3 ≤ W1.heap.size := by have := HS.out; omega
  have hle := hb.size
  have hb0 := blk_on hb hb0
  have hb1 := blk_on hb hb1
  have hb2 := blk_on hb hb2
  have O0 := Own.below O0 hb (by omega)
  have hz := hz.trans (hb.mono hz.size)
  obtain ⟨ua1, uc1, rfl⟩ := Own.form OO
  have O1 := OO
  clear OO
  have c0 := cel2 hb0
  have f0 := celf hb0
  have HB0 := Lib.hid hb0
  clear hb0
  have c1 := cel2 hb1
  have f1 := celf hb1
  have HB1 := Lib.hid hb1
  clear hb1
  have c2 := cel2 hb2
  have f2 := celf hb2
  have HB2 := Lib.hid hb2
  clear hb2
  have HZ := Lib.hid hz
  have HLT := Lib.hid hlt
  clear hz hb hlt
  have HO0 := Lib.hid O0
  clear O0
  have HO1 := Lib.hid O1
  clear O1
  go_wp2_with fail
  refine bodyPost_ret (results_cell_row rfl _ _ (w.heap.size + 1) 150 _ _ _ rfl (blk_set (blk_set (blk_far (HB1.out) _ (by simp <;> omega)) _) _) Try.underlying150 rfl (by kernel_rfl)) rfl ?_
  have hlt := HLT.out
  refine ⟨⟨_, _, rfl, ?_⟩, (((HZ.out.setCell (by simp <;> omega) _).setCell (by simp <;> omega) _).setCell (by simp <;> omega) _)⟩
  refine Own.mono (lo := W0.heap.size) (hi := w1.heap.size) ?_ (by have := HS.out; omega) (by simp only [World.size_setCell]; exact Nat.le_refl _)
  exact Log.own_mk (Own.mono (lo := W0.heap.size) (hi' := W1.heap.size) (Own.set (Own.set (Own.set (HO0.out) (by omega) _) (by omega) _) (by omega) _) (Nat.le_refl _) (by omega)) (Own.mono (lo := W1.heap.size) (hi' := w1.heap.size) (Own.set (Own.set (Own.set (HO1.out) (by omega) _) (by omega) _) (by omega) _) (Nat.le_refl _) (by omega)) (by omega) (by omega)
set_option maxRecDepth 10000 in
set_option maxHeartbeats 1000000 in
theorem toLogS_any (v : Value) (xs : List Log) (w : World) (B : Nat) (hB : B ≤ w.heap.size) (h : (Ty.slice 150 Log.ty).rep w B [v] xs) (hn : cntL Log.cnt xs ≤ 1048576) :
    Calls Try.prog 87 #[v] w fun e w' => (∃ v', e = .returned v' ∧ Own (Ty.slice 150 Log.ty) w' w.heap.size w'.heap.size [v'] xs) ∧ Below w.heap.size w w' := by
  obtain ⟨a, c, rfl, hc, hm⟩ := Ty.form h
  have hcn := cntL_len Log.cnt xs
  have hn1 : xs.length ≤ 1048576 := by omega
  clear hcn
  have HN := Lib.hid hn
  clear hn
  have hmk := fun W => run_make_n Try.underlying34 info_Log xs.length (by omega) (by omega) W
  go_enter Try.func87, Try.ntmps87
  go_wp2_with fail
  go_loopw [4] (fun i wr => ∃ k : Nat, k ≤ xs.length ∧ i = .int .i64 k ∧ Below w.heap.size w wr ∧ w.heap.size < wr.heap.size ∧ ∃ raw left, left.length + raw.length = xs.length * 2 ∧ wr.heap[w.heap.size]? = some (.cells (raw ++ left).toArray 150 (0, 0)) ∧ OwnRows Log.ty wr (w.heap.size + 1) wr.heap.size raw (xs.take k)) (fun i _ => xs.length - (intOf i).toNat)
  case atStart =>
    refine ⟨0, Nat.zero_le _, rfl, (Below.refl _ _).alloc (Nat.le_refl _) _, by simp, [], (madeCells (Value.cells (.agg #[.slice none 0 0, .slice none 0 0])) (xs.length * 2)).toList, by rw [made_len]; simp, made_start (.agg #[.slice none 0 0, .slice none 0 0]) (xs.length * 2) 150 w, ?_⟩
    rw [List.take_zero]
    exact OwnRows.nil _ _ _ _
  case round =>
    obtain ⟨k, hk, rfl, hbl, hgs, raw, left, hleft, hg, hro⟩ := hrel
    have hrl := hro.len
    rw [List.length_take, Nat.min_eq_left hk] at hrl
    simp only [show Log.ty.size = 2 from rfl] at hrl
    by_cases hlt : k < xs.length
    · obtain ⟨b, o, cs, rfl, hb, gg, ee⟩ := Ty.elem h hB k hlt
      obtain ⟨p0, p1, rfl, r0, r1⟩ := Log.cells ee
      have d0 : wr.cell? ⟨b, o + k * 2, none⟩ = some (p0) := gg 0 _ rfl ⟨wr, hbl⟩
      have d1 : wr.cell? ⟨b, o + k * 2 + 1, none⟩ = some (p1) := gg 1 _ rfl ⟨wr, hbl⟩
      clear gg
      have R0 := Lib.hid r0
      clear r0
      have R1 := Lib.hid r1
      clear r1
      have hck := cntL_mem Log.cnt xs k hlt
      have hcn := HN.out
      have hck1 : Log.cnt xs[k] ≤ 1048576 := by omega
      clear hck hcn
      have HG := Lib.hid hg
      have HRO := Lib.hid hro
      have HB := Lib.hid hbl
      have HL := Lib.hid hleft
      have HRL := Lib.hid hrl
      clear hg hro hbl hleft hrl
      go_wp2_with fail
      refine (toLog_any _ _ xs[k] wr B (Nat.le_trans hB HB.out.size) (Ty.rep_below _ R0.out (HB.out.mono hB)) (Ty.rep_below _ R1.out (HB.out.mono hB)) hck1).mono ?_
      rintro e w1 ⟨⟨u0, u1, rfl, OO⟩, hb1⟩
      have hg1 := blk_on hb1 HG.out
      have hro1 : OwnRows Log.ty w1 (w.heap.size + 1) wr.heap.size raw (xs.take k) := HRO.out.keep (fun b _ h2 => hb1.block b h2)
      have hz1 : Below w.heap.size w w1 := HB.out.trans (hb1.mono HB.out.size)
      have hs1 := hb1.size
      have hll : 2 ≤ left.length := by have := HL.out; have := HRL.out; omega
      have hone := OO.one
      have HONE := Lib.hid hone
      have HG1 := Lib.hid hg1
      have HRO1 := Lib.hid hro1
      have HZ1 := Lib.hid hz1
      have HOO := Lib.hid OO
      clear hone hg1 hro1 hz1 OO hb1 HG HRO HB
      go_wp2_with (refine wpList_fill rfl 150 _ _ rfl w.heap.size raw left [u0, u1] 150 HG1.out (k * 2) rfl HRL.out.symm rfl (by kernel_rfl) hll HONE.out ?_)
      intro w2 hg2 hgr hs2
      have HG2 := Lib.hid hg2
      have hz2 : Below w.heap.size w w2 := grownBy_below HZ1.out hgr HZ1.out.size (Nat.le_refl _)
      have hro2 : OwnRows Log.ty w2 (w.heap.size + 1) wr.heap.size raw (xs.take k) := HRO1.out.keep (fun b h1 h2 => hgr.block b (by omega) (fun e => by injection e; omega))
      have hoo2 := HOO.out.grown hgr (by omega) (Nat.le_refl _)
      have HZ2 := Lib.hid hz2
      have HRO2 := Lib.hid hro2
      have HOO2 := Lib.hid hoo2
      have hse := Nat.le_of_eq hs2
      have HS2 := Lib.hid hs2
      clear hg2 hgr hz2 hro2 hoo2 hs2
      go_wp2_with fail
      go_roundw
      case rel =>
        have hl := HL.out
        have hrl := HRL.out
        have hs2 := HS2.out
        refine ⟨k + 1, by omega, by go_num, HZ2.out, by omega, raw ++ [u0, u1], left.drop 2, by simp only [List.length_drop, List.length_append, List.length_cons, List.length_nil]; omega, by simpa using HG2.out, ?_⟩
        rw [take_succ' xs k hlt, hs2]
        exact OwnRows.snoc (m := wr.heap.size) HRO2.out HOO2.out (by omega) hs1
      case measure => simp [intOf]; omega
    · obtain rfl : k = xs.length := by omega
      have HG := Lib.hid hg
      have HRO := Lib.hid hro
      have HB := Lib.hid hbl
      clear hg hro hbl hleft hrl
      go_wp2_with fail
      go_ret
      have hro := HRO.out
      rw [List.take_length] at hro
      exact ⟨⟨_, rfl, own_filled HG.out hro (Nat.le_refl _) (by unfold maxLen; omega) hgs⟩, HB.out⟩

end Go.Proofs.Ytbnjjcnbjkibgaa
