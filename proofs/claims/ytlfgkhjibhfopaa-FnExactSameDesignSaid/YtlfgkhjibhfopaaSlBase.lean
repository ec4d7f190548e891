/- Made by slgen.py: instances of package slices. -/
import Derived.Test.YtlfgkhjibhfopaaRows
import Derived.Test.YtlfgkhjibhfopaaLib
import Derived.Test.YtlfgkhjibhfopaaTyBase
set_option linter.unusedSimpArgs false
set_option linter.unusedVariables false
namespace Go.Proofs.Ytlfgkhjibhfopaa
open Go.RowKit Go.ChangeShapes Go.WideShapes Go.ChangeAt
set_option maxRecDepth 10000 in
set_option maxHeartbeats 1000000 in
theorem IndexFunc_Int64 (v : Value) (xs : List Int) (f : Int → Bool) (K : Nat) (cap : Array Value) (w : World) (B : Nat) (hB : B ≤ w.heap.size) (h : (Ty.slice 2 (Ty.int .i64)).rep w B [v] xs)
    (hK : ∀ args W, (callFunc K args).run Try.prog W = .ok (.enter K args) W) (hf : ∀ k (hk : k < xs.length) (z : Ext w), Calls Try.prog K (#[.int .i64 xs[k]] ++ cap) (w.to z) fun e w' => e = .returned (.bool (f xs[k])) ∧ Below (w.to z).heap.size (w.to z) w') :
    Calls Try.prog 123 #[v, .func (.func K) #[] cap] w fun e w' => e = .returned (.int .i64 (idxP f xs)) ∧ Below w.heap.size w w' := by
  obtain ⟨a, c, rfl, _, hm⟩ := Ty.form h
  have hn : xs.length ≤ 9223372036854775807 := by unfold maxLen at hm; omega
  clear hm
  have HF := Lib.hid hf
  clear hf
  refine rebaseC ?_
  intro x
  go_enter Try.func123, Try.ntmps123
  go_wp2
  go_loopw [8] (fun i wr => ∃ k : Nat, k ≤ xs.length ∧ i = .int .i64 k ∧ (∀ j (hj : j < k) (hj' : j < xs.length), f xs[j] = false) ∧ ∃ z : Ext w, wr = w.to z) (fun i _ => xs.length - (intOf i).toNat)
  case atStart => exact ⟨0, Nat.zero_le _, rfl, fun j hj => absurd hj (by omega), x, rfl⟩
  case round =>
    obtain ⟨k, hk, rfl, hno, z, rfl⟩ := hrel
    have HN := Lib.hid hno
    clear hno
    by_cases hlt : k < xs.length
    · obtain ⟨h_b, h_o, rfl, h_hb, h_g, h_i⟩ := Ty.elemInt h k hlt
      have h_d0 : ∀ z : Ext w, (w.to z).cell? ⟨h_b, h_o + k, none⟩ = some _ := fun z => (to_cell z (by omega)).trans h_g
      clear h_g
      have hs := fun z : Ext w => HF.out k hlt   z
      cases hp : f xs[k] with
      | true =>
        rw [hp] at hs
        have HS := Lib.hid hs
        have HP := Lib.hid hp
        clear hs hp
        go_wp2_with fail
        refine call_ext (HS.out _) ?_
        intro y
        go_wp2_with fail
        go_ret
        exact ⟨by rw [idxP_at f xs k hlt (fun j hj => HN.out j hj _) HP.out]; rfl, y.below⟩
      | false =>
        rw [hp] at hs
        have HS := Lib.hid hs
        have HP := Lib.hid hp
        clear hs hp
        go_wp2_with fail
        refine call_ext (HS.out _) ?_
        intro y
        go_wp2_with fail
        go_roundw
        case rel => exact ⟨k + 1, by omega, by go_num, fun j hj hj' => by rcases Nat.lt_succ_iff_lt_or_eq.1 hj with h1 | rfl; exact HN.out j h1 _; exact HP.out, y, rfl⟩
        case measure => simp [intOf]; omega
    · obtain rfl : k = xs.length := by omega
      go_wp2_with fail
      go_ret
      exact ⟨by rw [idxP_none f xs (fun j hj => HN.out j hj _)]; rfl, z.below⟩
set_option maxRecDepth 10000 in
set_option maxHeartbeats 1000000 in
theorem ContainsFunc_Int64 (v : Value) (xs : List Int) (f : Int → Bool) (K : Nat) (cap : Array Value) (w : World) (B : Nat) (hB : B ≤ w.heap.size) (h : (Ty.slice 2 (Ty.int .i64)).rep w B [v] xs)
    (hK : ∀ args W, (callFunc K args).run Try.prog W = .ok (.enter K args) W) (hf : ∀ k (hk : k < xs.length) (z : Ext w), Calls Try.prog K (#[.int .i64 xs[k]] ++ cap) (w.to z) fun e w' => e = .returned (.bool (f xs[k])) ∧ Below (w.to z).heap.size (w.to z) w') :
    Calls Try.prog 120 #[v, .func (.func K) #[] cap] w fun e w' => e = .returned (.bool (xs.any f)) ∧ Below w.heap.size w w' := by
  have hs := IndexFunc_Int64 v xs f K cap w B hB h hK hf
  have HS := Lib.hid hs
  clear hs hf
  have ha := idxP_any f xs
  have HA := Lib.hid ha
  clear ha
  go_enter Try.func120, Try.ntmps120
  go_wp2_with fail
  refine (HS.out).mono ?_
  rintro e w1 ⟨rfl, hb⟩
  generalize idxP f xs = r at *
  by_cases g : 0 ≤ r
  · go_wp2_with fail
    go_ret
    exact ⟨by rw [← HA.out]; simp [g], hb⟩
  · go_wp2_with fail
    go_ret
    exact ⟨by rw [← HA.out]; simp [g], hb⟩
set_option maxRecDepth 10000 in
set_option maxHeartbeats 1000000 in
theorem Equal_Int64 (v1 v2 : Value) (xs ys : List Int) (w : World) (B : Nat) (hB : B ≤ w.heap.size) (h1 : (Ty.slice 2 (Ty.int .i64)).rep w B [v1] xs) (h2 : (Ty.slice 2 (Ty.int .i64)).rep w B [v2] ys) :
    Calls Try.prog 96 #[v1, v2] w fun e w' => e = .returned (.bool (decide (xs = ys))) ∧ Below w.heap.size w w' := by
  rw [← allP_eq]
  obtain ⟨a1, c1, rfl, _, hm1⟩ := Ty.form h1
  obtain ⟨a2, c2, rfl, _, hm2⟩ := Ty.form h2
  have hn1 : xs.length ≤ 9223372036854775807 := by unfold maxLen at hm1; omega
  have hn2 : ys.length ≤ 9223372036854775807 := by unfold maxLen at hm2; omega
  clear hm1 hm2
  refine rebaseC ?_
  intro x
  by_cases hl : xs.length = ys.length
  · have HLL := Lib.hid hl
    have hle1 := Nat.le_of_eq hl
    have hle2 := Nat.le_of_eq hl.symm
    have hlq : (((xs.length : Nat) : Int) != ((ys.length : Nat) : Int)) = false := by simp [hl]
    clear hl
    go_enter Try.func96, Try.ntmps96
    go_wp2
    go_loopw [13] (fun i wr => ∃ k : Nat, k ≤ xs.length ∧ i = .int .i64 k ∧ (∀ j (hj : j < k) (g1 : j < xs.length) (g2 : j < ys.length), xs[j] = ys[j]) ∧ ∃ z : Ext w, wr = w.to z) (fun i _ => xs.length - (intOf i).toNat)
    case atStart => exact ⟨0, Nat.zero_le _, rfl, fun j hj => absurd hj (by omega), x, rfl⟩
    case round =>
      obtain ⟨k, hk, rfl, hno, z, rfl⟩ := hrel
      have HN := Lib.hid hno
      clear hno
      by_cases hlt : k < xs.length
      · have hlt2 : k < ys.length := by omega
        obtain ⟨h1_b, h1_o, rfl, h1_hb, h1_g, h1_i⟩ := Ty.elemInt h1 k hlt
        have h1_d0 : ∀ z : Ext w, (w.to z).cell? ⟨h1_b, h1_o + k, none⟩ = some _ := fun z => (to_cell z (by omega)).trans h1_g
        clear h1_g
        obtain ⟨h2_b, h2_o, rfl, h2_hb, h2_g, h2_i⟩ := Ty.elemInt h2 k hlt2
        have h2_d0 : ∀ z : Ext w, (w.to z).cell? ⟨h2_b, h2_o + k, none⟩ = some _ := fun z => (to_cell z (by omega)).trans h2_g
        clear h2_g
        by_cases hp : xs[k] = ys[k]
        · have hq : (xs[k] != ys[k]) = false := by simp [hp]
          have HP := Lib.hid hp
          clear hp
          go_wp2_with fail
          refine wp_region_ext (by kernel_rfl) (by kernel_rfl) ?_
          repeat (go_big_quiet_step ((fail)))
          refine wpQuiet_nil ?_
          rintro _ ⟨y, rfl⟩
          go_wp2_with fail
          go_roundw
          case rel => exact ⟨k + 1, by omega, by go_num, fun j hj g1 g2 => by rcases Nat.lt_succ_iff_lt_or_eq.1 hj with h1 | rfl; exact HN.out j h1 _ _; exact HP.out, y, rfl⟩
          case measure => simp [intOf]; omega
        · have hq : (xs[k] != ys[k]) = true := by simp [hp]
          have HP := Lib.hid hp
          clear hp
          go_wp2_with fail
          refine wp_region_ext (by kernel_rfl) (by kernel_rfl) ?_
          repeat (go_big_quiet_step ((fail)))
          refine wpQuiet_nil ?_
          rintro _ ⟨y, rfl⟩
          go_wp2_with fail
          go_ret
          exact ⟨by rw [allP_no (fun (x y : Int) => decide (x = y)) xs ys k hlt hlt2 (by simp [HP.out])]; rfl, y.below⟩
      · obtain rfl : k = xs.length := by omega
        go_wp2_with fail
        go_ret
        exact ⟨by rw [allP_yes (fun (x y : Int) => decide (x = y)) xs ys HLL.out (fun j g1 g2 => by simp only [decide_eq_true_eq]; exact HN.out j g1 g1 g2)]; rfl, z.below⟩
  · have hlq : (((xs.length : Nat) : Int) != ((ys.length : Nat) : Int)) = true := by simp; omega
    have HLL := Lib.hid hl
    clear hl
    go_enter Try.func96, Try.ntmps96
    go_wp2
    go_ret
    exact ⟨by rw [allP_len (fun (x y : Int) => decide (x = y)) xs ys HLL.out]; rfl, x.below⟩

end Go.Proofs.Ytlfgkhjibhfopaa
