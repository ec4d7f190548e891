/- Made by tygen.py: slices of plain values. -/
import Derived.Test.YtlblmbhaakjcaaaRows
import Derived.Test.YtlblmbhaakjcaaaLib
set_option linter.unusedSimpArgs false
set_option linter.unusedVariables false
set_option linter.all false
namespace Go.Proofs.Ytlblmbhaakjcaaa
open Go.RowKit Go.ChangeShapes Go.WideShapes Go.ChangeAt
theorem info_i64 : (Try.prog.info? 2).map (fun i => (i.zero, i.size, i.bytes)) = some (some (.int .i64 0), 1, 8) := by kernel_rfl
set_option maxRecDepth 10000 in
set_option maxHeartbeats 1000000 in
theorem eqInt64S_any (v1 v2 : Value) (xs : List Int) (w : World) (B : Nat) (hB : B ≤ w.heap.size) (h1 : (Ty.slice 2 (Ty.int .i64)).rep w B [v1] xs) (h2 : (Ty.slice 2 (Ty.int .i64)).rep w B [v2] xs) :
    Calls Try.prog 31 #[v1, v2] w fun e w' => e = .returned (.bool true) ∧ Below w.heap.size w w' := by
  obtain ⟨a1, c1, rfl, _, hm1⟩ := Ty.form h1
  obtain ⟨a2, c2, rfl, _, hm2⟩ := Ty.form h2
  have hn : xs.length ≤ 9223372036854775807 := by unfold maxLen at hm1; omega
  clear hm1 hm2
  refine rebaseC ?_
  intro x
  go_enter Try.func31, Try.ntmps31
  go_wp2
  go_loopw [5] (fun i wr => ∃ k : Nat, k ≤ xs.length ∧ i = .int .i64 k ∧ ∃ z : Ext w, wr = w.to z) (fun i _ => xs.length - (intOf i).toNat)
  case atStart => exact ⟨0, Nat.zero_le _, rfl, x, rfl⟩
  case round =>
    obtain ⟨k, hk, rfl, z, rfl⟩ := hrel
    by_cases hlt : k < xs.length
    · obtain ⟨b1, o1, rfl, hb1, g1, _⟩ := Ty.elemInt h1 k hlt
      obtain ⟨b2, o2, rfl, hb2, g2, _⟩ := Ty.elemInt h2 k hlt
      have d1 : ∀ z : Ext w, (w.to z).cell? ⟨b1, o1 + k, none⟩ = some _ := fun z => (to_cell z (by omega)).trans g1
      have d2 : ∀ z : Ext w, (w.to z).cell? ⟨b2, o2 + k, none⟩ = some _ := fun z => (to_cell z (by omega)).trans g2
      clear g1 g2
      go_wp2_with fail
      refine wp_region_ext (by kernel_rfl) (by kernel_rfl) ?_
      repeat (go_big_quiet_step ((fail)))
      refine wpQuiet_nil ?_
      rintro _ ⟨y, rfl⟩
      go_wp2_with fail
      go_roundw
      case rel => exact ⟨k + 1, by omega, by go_num, y, rfl⟩
      case measure => simp [intOf]; omega
    · go_wp2_with fail
      go_ret
      exact ⟨rfl, z.below⟩
set_option maxRecDepth 10000 in
set_option maxHeartbeats 1000000 in
theorem szInt64S_any (v : Value) (xs : List Int) (l : Int) (hl0 : 0 ≤ l) (hl1 : l ≤ 1048576) (w : World) (B : Nat) (hB : B ≤ w.heap.size) (h : (Ty.slice 2 (Ty.int .i64)).rep w B [v] xs) :
    Calls Try.prog 25 #[v, .int .i64 l] w fun e w' => e = .returned (.int .i64 (szR l (xs.length))) ∧ Below w.heap.size w w' := by
  have _ := hB
  obtain ⟨a, c, rfl, hc, hm⟩ := Ty.form h
  have hn : xs.length ≤ 9223372036854775807 := by unfold maxLen at hm; omega
  clear hm
  by_cases g : (xs.length : Int) ≤ l
  · rw [szR_ok g]
    go_enter Try.func25, Try.ntmps25
    go_wp2
    go_ret
    exact ⟨rfl, by go_grown⟩
  · rw [szR_no g]
    go_enter Try.func25, Try.ntmps25
    go_wp2
    go_ret
    exact ⟨rfl, by go_grown⟩
set_option maxRecDepth 10000 in
set_option maxHeartbeats 1000000 in
theorem toInt64S_any (v : Value) (xs : List Int) (w : World) (B : Nat) (hB : B ≤ w.heap.size) (h : (Ty.slice 2 (Ty.int .i64)).rep w B [v] xs) (hn : xs.length ≤ 1048576) :
    Calls Try.prog 28 #[v] w fun e w' => (∃ v', e = .returned v' ∧ Own (Ty.slice 2 (Ty.int .i64)) w' w.heap.size w'.heap.size [v'] xs) ∧ Below w.heap.size w w' := by
  obtain ⟨a, c, rfl, hc, hm⟩ := Ty.form h
  have hmk := fun W => run_make_n Try.underlying37 info_i64 xs.length (by omega) (by omega) W
  rw [Nat.mul_one] at hmk
  go_enter Try.func28, Try.ntmps28
  go_wp2
  go_loopw [4] (fun i wr => ∃ k : Nat, k ≤ xs.length ∧ i = .int .i64 k ∧ Below w.heap.size w wr ∧ ∃ left, left.length + k = xs.length ∧ wr.heap[w.heap.size]? = some (.cells ((xs.take k).map (Value.int .i64) ++ left).toArray 2 (0, 0))) (fun i _ => xs.length - (intOf i).toNat)
  case atStart =>
    refine ⟨0, Nat.zero_le _, rfl, (Below.refl _ _).alloc (Nat.le_refl _) _, (madeCells (Value.cells (.int .i64 0)) xs.length).toList, by rw [made_len]; omega, ?_⟩
    have hg0 := made_start (.int .i64 0) xs.length 2 w
    rw [List.take_zero]
    exact hg0
  case round =>
    obtain ⟨k, hk, rfl, hbl, left, hleft, hg⟩ := hrel
    have hkl : k = ((xs.take k).map (Value.int .i64)).length := by simp; omega
    by_cases hlt : k < xs.length
    · obtain ⟨b, o, rfl, hbB, hcell, _⟩ := Ty.elemInt h k hlt
      have h2 := below_cell hbl (by omega) hcell
      obtain ⟨u, h3⟩ := fill_cell hg k hkl (by omega)
      have h4 := fill_froz hg k
      have h5 := fill_set hg k hkl (by omega) (Value.int .i64 xs[k])
      have H5 := Lib.hid h5
      have HL := Lib.hid hleft
      have HB := Lib.hid hbl
      clear hcell hg h5 hleft hbl hkl
      go_wp2
      go_roundw
      case rel =>
        have hleft := HL.out
        exact ⟨k + 1, by omega, by go_num, HB.out.setCell (Nat.le_refl _) _, left.tail, by rw [List.length_tail]; omega, by rw [H5.out, map_take_succ]⟩
      case measure => simp [intOf]; omega
    · obtain rfl : k = xs.length := by omega
      clear hkl
      have HG := Lib.hid hg
      have HB := Lib.hid hbl
      clear hg hbl
      go_wp2
      go_ret
      have hg := HG.out
      rw [List.take_length] at hg
      exact ⟨⟨_, rfl, own_filled hg (Ty.own_ints (Ty.all_int h)) (Nat.le_refl _) (by unfold maxLen; omega) (blk_lt hg)⟩, HB.out⟩

end Go.Proofs.Ytlblmbhaakjcaaa
