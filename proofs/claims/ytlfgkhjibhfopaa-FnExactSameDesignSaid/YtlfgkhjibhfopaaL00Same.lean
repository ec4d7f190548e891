/- The reference's equality of two slices of int64. -/
import Derived.Test.YtlfgkhjibhfopaaTyBase
set_option linter.unusedSimpArgs false
set_option linter.unusedVariables false
namespace Go.Proofs.Ytlfgkhjibhfopaa
open Go.RowKit Go.ChangeShapes Go.WideShapes Go.ChangeAt
set_option maxRecDepth 10000 in
set_option maxHeartbeats 1000000 in
theorem l00Same_any (v1 v2 : Value) (xs ys : List Int) (w : World) (B : Nat) (hB : B ≤ w.heap.size) (h1 : (Ty.slice 2 (Ty.int .i64)).rep w B [v1] xs) (h2 : (Ty.slice 2 (Ty.int .i64)).rep w B [v2] ys) :
    Calls Try.prog 115 #[v1, v2] w fun e w' => e = .returned (.bool (decide (xs = ys))) ∧ Below w.heap.size w w' := by
  rw [← allP_eq]
  obtain ⟨a1, c1, rfl, _, hm1⟩ := Ty.form h1
  obtain ⟨a2, c2, rfl, _, hm2⟩ := Ty.form h2
  have hn1 : xs.length ≤ 9223372036854775807 := by unfold maxLen at hm1; omega
  have hn2 : ys.length ≤ 9223372036854775807 := by unfold maxLen at hm2; omega
  clear hm1 hm2
  refine rebaseC ?_
  intro x
  by_cases hl : xs.length = ys.length
  · have HLL := Lib.hid hl
    have hle1 := Nat.le_of_eq hl
    have hle2 := Nat.le_of_eq hl.symm
    have hlq : (((xs.length : Nat) : Int) != ((ys.length : Nat) : Int)) = false := by simp [hl]
    clear hl
    go_enter Try.func115, Try.ntmps115
    go_wp2
    go_loopw [5] (fun i wr => ∃ k : Nat, k ≤ xs.length ∧ i = .int .i64 k ∧ (∀ j (hj : j < k) (g1 : j < xs.length) (g2 : j < ys.length), xs[j] = ys[j]) ∧ ∃ z : Ext w, wr = w.to z) (fun i _ => xs.length - (intOf i).toNat)
    case atStart => exact ⟨0, Nat.zero_le _, rfl, fun j hj => absurd hj (by omega), x, rfl⟩
    case round =>
      obtain ⟨k, hk, rfl, hno, z, rfl⟩ := hrel
      have HN := Lib.hid hno
      clear hno
      by_cases hlt : k < xs.length
      · have hlt2 : k < ys.length := by omega
        obtain ⟨h1_b, h1_o, rfl, h1_hb, h1_g, h1_i⟩ := Ty.elemInt h1 k hlt
        have h1_d0 : ∀ z : Ext w, (w.to z).cell? ⟨h1_b, h1_o + k, none⟩ = some _ := fun z => (to_cell z (by omega)).trans h1_g
        clear h1_g
        obtain ⟨h2_b, h2_o, rfl, h2_hb, h2_g, h2_i⟩ := Ty.elemInt h2 k hlt2
        have h2_d0 : ∀ z : Ext w, (w.to z).cell? ⟨h2_b, h2_o + k, none⟩ = some _ := fun z => (to_cell z (by omega)).trans h2_g
        clear h2_g
        by_cases hp : xs[k] = ys[k]
        · have hq : (xs[k] != ys[k]) = false := by simp [hp]
          have HP := Lib.hid hp
          clear hp
          go_wp2_with fail
          refine wp_region_ext (by kernel_rfl) (by kernel_rfl) ?_
          repeat (go_big_quiet_step ((fail)))
          refine wpQuiet_nil ?_
          rintro _ ⟨y, rfl⟩
          go_wp2_with fail
          go_roundw
          case rel => exact ⟨k + 1, by omega, by go_num, fun j hj g1 g2 => by rcases Nat.lt_succ_iff_lt_or_eq.1 hj with h1 | rfl; exact HN.out j h1 _ _; exact HP.out, y, rfl⟩
          case measure => simp [intOf]; omega
        · have hq : (xs[k] != ys[k]) = true := by simp [hp]
          have HP := Lib.hid hp
          clear hp
          go_wp2_with fail
          refine wp_region_ext (by kernel_rfl) (by kernel_rfl) ?_
          repeat (go_big_quiet_step ((fail)))
          refine wpQuiet_nil ?_
          rintro _ ⟨y, rfl⟩
          go_wp2_with fail
          go_ret
          exact ⟨by rw [allP_no (fun (x y : Int) => decide (x = y)) xs ys k hlt hlt2 (by simp [HP.out])]; rfl, y.below⟩
      · obtain rfl : k = xs.length := by omega
        go_wp2_with fail
        go_ret
        exact ⟨by rw [allP_yes (fun (x y : Int) => decide (x = y)) xs ys HLL.out (fun j g1 g2 => by simp only [decide_eq_true_eq]; exact HN.out j g1 g1 g2)]; rfl, z.below⟩
  · have hlq : (((xs.length : Nat) : Int) != ((ys.length : Nat) : Int)) = true := by simp; omega
    have HLL := Lib.hid hl
    clear hl
    go_enter Try.func115, Try.ntmps115
    go_wp2
    go_ret
    exact ⟨by rw [allP_len (fun (x y : Int) => decide (x = y)) xs ys HLL.out]; rfl, x.below⟩
end Go.Proofs.Ytlfgkhjibhfopaa
