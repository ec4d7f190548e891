/- Made by slgen.py: instances of package slices. -/
import Derived.Test.YtlfgkhjibhfopaaRows
import Derived.Test.YtlfgkhjibhfopaaLib
import Derived.Test.YtlfgkhjibhfopaaTyPiece
set_option linter.unusedSimpArgs false
set_option linter.unusedVariables false
namespace Go.Proofs.Ytlfgkhjibhfopaa
open Go.RowKit Go.ChangeShapes Go.WideShapes Go.ChangeAt
theorem eql_Piece (x y : Piece) (W : World) : (binOp .eql 128 (.agg #[.int .i64 x.Color, .int .i64 x.North, .int .i64 x.East, .int .i64 x.South, .int .i64 x.West]) (.agg #[.int .i64 y.Color, .int .i64 y.North, .int .i64 y.East, .int .i64 y.South, .int .i64 y.West])).run Try.prog W = .ok (.bool (decide (x = y))) W := by
  obtain ⟨aColor, aNorth, aEast, aSouth, aWest⟩ := x
  obtain ⟨bColor, bNorth, bEast, bSouth, bWest⟩ := y
  by_cases h0 : aColor = bColor
  · subst h0
    by_cases h1 : aNorth = bNorth
    · subst h1
      by_cases h2 : aEast = bEast
      · subst h2
        by_cases h3 : aSouth = bSouth
        · subst h3
          by_cases h4 : aWest = bWest
          · subst h4
            simp [go_sem]
          · simp [go_sem, h4]
        · simp [go_sem, h3]
      · simp [go_sem, h2]
    · simp [go_sem, h1]
  · simp [go_sem, h0]
theorem neq_Piece (x y : Piece) (W : World) : (binOp .neq 128 (.agg #[.int .i64 x.Color, .int .i64 x.North, .int .i64 x.East, .int .i64 x.South, .int .i64 x.West]) (.agg #[.int .i64 y.Color, .int .i64 y.North, .int .i64 y.East, .int .i64 y.South, .int .i64 y.West])).run Try.prog W = .ok (.bool (!decide (x = y))) W := by
  obtain ⟨aColor, aNorth, aEast, aSouth, aWest⟩ := x
  obtain ⟨bColor, bNorth, bEast, bSouth, bWest⟩ := y
  by_cases h0 : aColor = bColor
  · subst h0
    by_cases h1 : aNorth = bNorth
    · subst h1
      by_cases h2 : aEast = bEast
      · subst h2
        by_cases h3 : aSouth = bSouth
        · subst h3
          by_cases h4 : aWest = bWest
          · subst h4
            simp [go_sem]
          · simp [go_sem, h4]
        · simp [go_sem, h3]
      · simp [go_sem, h2]
    · simp [go_sem, h1]
  · simp [go_sem, h0]
set_option maxRecDepth 10000 in
set_option maxHeartbeats 1000000 in
theorem Equal_Piece (v1 v2 : Value) (xs ys : List Piece) (w : World) (B : Nat) (hB : B ≤ w.heap.size) (h1 : (Ty.slice 128 Piece.ty).rep w B [v1] xs) (h2 : (Ty.slice 128 Piece.ty).rep w B [v2] ys) :
    Calls Try.prog 97 #[v1, v2] w fun e w' => e = .returned (.bool (decide (xs = ys))) ∧ Below w.heap.size w w' := by
  rw [← allP_eq]
  obtain ⟨a1, c1, rfl, _, hm1⟩ := Ty.form h1
  obtain ⟨a2, c2, rfl, _, hm2⟩ := Ty.form h2
  have hn1 : xs.length ≤ 9223372036854775807 := by unfold maxLen at hm1; omega
  have hn2 : ys.length ≤ 9223372036854775807 := by unfold maxLen at hm2; omega
  clear hm1 hm2
  refine rebaseC ?_
  intro x
  by_cases hl : xs.length = ys.length
  · have HLL := Lib.hid hl
    have hle1 := Nat.le_of_eq hl
    have hle2 := Nat.le_of_eq hl.symm
    have hlq : (((xs.length : Nat) : Int) != ((ys.length : Nat) : Int)) = false := by simp [hl]
    clear hl
    go_enter Try.func97, Try.ntmps97
    go_wp2
    go_loopw [13] (fun i wr => ∃ k : Nat, k ≤ xs.length ∧ i = .int .i64 k ∧ (∀ j (hj : j < k) (g1 : j < xs.length) (g2 : j < ys.length), xs[j] = ys[j]) ∧ ∃ z : Ext w, wr = w.to z) (fun i _ => xs.length - (intOf i).toNat)
    case atStart => exact ⟨0, Nat.zero_le _, rfl, fun j hj => absurd hj (by omega), x, rfl⟩
    case round =>
      obtain ⟨k, hk, rfl, hno, z, rfl⟩ := hrel
      have HN := Lib.hid hno
      clear hno
      by_cases hlt : k < xs.length
      · have hlt2 : k < ys.length := by omega
        obtain ⟨h1_b, h1_o, h1_cs, rfl, h1_hb, h1_gg, h1_ee⟩ := Ty.elem h1 hB k hlt
        obtain ⟨rfl, h1_r0, h1_r1, h1_r2, h1_r3, h1_r4⟩ := Piece.cells h1_ee
        have h1_d0 : ∀ z : Ext w, (w.to z).cell? ⟨h1_b, h1_o + k * 5, none⟩ = some (.int .i64 xs[k].Color) := h1_gg 0 _ rfl
        have h1_d1 : ∀ z : Ext w, (w.to z).cell? ⟨h1_b, h1_o + k * 5 + 1, none⟩ = some (.int .i64 xs[k].North) := h1_gg 1 _ rfl
        have h1_d2 : ∀ z : Ext w, (w.to z).cell? ⟨h1_b, h1_o + k * 5 + 2, none⟩ = some (.int .i64 xs[k].East) := h1_gg 2 _ rfl
        have h1_d3 : ∀ z : Ext w, (w.to z).cell? ⟨h1_b, h1_o + k * 5 + 3, none⟩ = some (.int .i64 xs[k].South) := h1_gg 3 _ rfl
        have h1_d4 : ∀ z : Ext w, (w.to z).cell? ⟨h1_b, h1_o + k * 5 + 4, none⟩ = some (.int .i64 xs[k].West) := h1_gg 4 _ rfl
        clear h1_gg
        obtain ⟨h2_b, h2_o, h2_cs, rfl, h2_hb, h2_gg, h2_ee⟩ := Ty.elem h2 hB k hlt2
        obtain ⟨rfl, h2_r0, h2_r1, h2_r2, h2_r3, h2_r4⟩ := Piece.cells h2_ee
        have h2_d0 : ∀ z : Ext w, (w.to z).cell? ⟨h2_b, h2_o + k * 5, none⟩ = some (.int .i64 ys[k].Color) := h2_gg 0 _ rfl
        have h2_d1 : ∀ z : Ext w, (w.to z).cell? ⟨h2_b, h2_o + k * 5 + 1, none⟩ = some (.int .i64 ys[k].North) := h2_gg 1 _ rfl
        have h2_d2 : ∀ z : Ext w, (w.to z).cell? ⟨h2_b, h2_o + k * 5 + 2, none⟩ = some (.int .i64 ys[k].East) := h2_gg 2 _ rfl
        have h2_d3 : ∀ z : Ext w, (w.to z).cell? ⟨h2_b, h2_o + k * 5 + 3, none⟩ = some (.int .i64 ys[k].South) := h2_gg 3 _ rfl
        have h2_d4 : ∀ z : Ext w, (w.to z).cell? ⟨h2_b, h2_o + k * 5 + 4, none⟩ = some (.int .i64 ys[k].West) := h2_gg 4 _ rfl
        clear h2_gg
        have heq := fun W => neq_Piece xs[k] ys[k] W
        by_cases hp : xs[k] = ys[k]
        · rw [decide_eq_true hp] at heq
          simp only [Bool.not_true] at heq
          have HP := Lib.hid hp
          clear hp
          go_wp2_with fail
          refine wp_region_ext (by kernel_rfl) (by kernel_rfl) ?_
          repeat (go_big_quiet_step ((fail)))
          refine wpQuiet_nil ?_
          rintro _ ⟨y, rfl⟩
          go_wp2_with fail
          go_roundw
          case rel => exact ⟨k + 1, by omega, by go_num, fun j hj g1 g2 => by rcases Nat.lt_succ_iff_lt_or_eq.1 hj with h1 | rfl; exact HN.out j h1 _ _; exact HP.out, y, rfl⟩
          case measure => simp [intOf]; omega
        · rw [decide_eq_false hp] at heq
          simp only [Bool.not_false] at heq
          have HP := Lib.hid hp
          clear hp
          go_wp2_with fail
          refine wp_region_ext (by kernel_rfl) (by kernel_rfl) ?_
          repeat (go_big_quiet_step ((fail)))
          refine wpQuiet_nil ?_
          rintro _ ⟨y, rfl⟩
          go_wp2_with fail
          go_ret
          exact ⟨by rw [allP_no (fun (x y : Piece) => decide (x = y)) xs ys k hlt hlt2 (by simp [HP.out])]; rfl, y.below⟩
      · obtain rfl : k = xs.length := by omega
        go_wp2_with fail
        go_ret
        exact ⟨by rw [allP_yes (fun (x y : Piece) => decide (x = y)) xs ys HLL.out (fun j g1 g2 => by simp only [decide_eq_true_eq]; exact HN.out j g1 g1 g2)]; rfl, z.below⟩
  · have hlq : (((xs.length : Nat) : Int) != ((ys.length : Nat) : Int)) = true := by simp; omega
    have HLL := Lib.hid hl
    clear hl
    go_enter Try.func97, Try.ntmps97
    go_wp2
    go_ret
    exact ⟨by rw [allP_len (fun (x y : Piece) => decide (x = y)) xs ys HLL.out]; rfl, x.below⟩

end Go.Proofs.Ytlfgkhjibhfopaa
