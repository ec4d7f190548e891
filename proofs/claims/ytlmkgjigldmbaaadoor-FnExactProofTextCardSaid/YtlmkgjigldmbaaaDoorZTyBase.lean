/- Laws that the proof stands on. -/
import Derived.Test.YtlmkgjigldmbaaaDoorRows
import Derived.Test.YtlmkgjigldmbaaaDoorZLib
set_option linter.all false
namespace Go.Proofs.YtlmkgjigldmbaaaDoor
open Go.RowKit Go.ChangeShapes Go.WideShapes Go.ChangeAt
set_option maxRecDepth 10000 in
set_option maxHeartbeats 1000000 in
theorem eqInt64S_any (v1 v2 : Value) (xs : List Int) (w : World) (B : Nat) (hB : B ≤ w.heap.size) (h1 : (Ty.slice 2 (Ty.int .i64)).rep w B [v1] xs) (h2 : (Ty.slice 2 (Ty.int .i64)).rep w B [v2] xs) :
    Calls Tryd.prog 32 #[v1, v2] w fun e w' => e = .returned (.bool true) ∧ Below w.heap.size w w' := by
  obtain ⟨a1, c1, rfl, _, hm1⟩ := Ty.form h1; obtain ⟨a2, c2, rfl, _, hm2⟩ := Ty.form h2; have hn : xs.length ≤ 9223372036854775807 := (by unfold maxLen at hm1; omega); clear hm1 hm2; refine rebaseC ?_; intro x; go_enter Tryd.func32, Tryd.ntmps32; go_wp2
  go_loopw [5] (fun i wr => ∃ k : Nat, k ≤ xs.length ∧ i = .int .i64 k ∧ ∃ z : Ext w, wr = w.to z) (fun i _ => xs.length - (intOf i).toNat)
  case atStart => exact ⟨0, Nat.zero_le _, rfl, x, rfl⟩
  case round =>
    obtain ⟨k, hk, rfl, z, rfl⟩ := hrel; by_cases hlt : k < xs.length
    · obtain ⟨b1, o1, rfl, hb1, g1, _⟩ := Ty.elemInt h1 k hlt; obtain ⟨b2, o2, rfl, hb2, g2, _⟩ := Ty.elemInt h2 k hlt; have d1 : ∀ z : Ext w, (w.to z).cell? ⟨b1, o1 + k, none⟩ = some _ := fun z => (to_cell z (by omega)).trans g1; have d2 : ∀ z : Ext w, (w.to z).cell? ⟨b2, o2 + k, none⟩ = some _ := fun z => (to_cell z (by omega)).trans g2; clear g1 g2; go_wp2_with fail; refine wp_region_ext (by kernel_rfl) (by kernel_rfl) ?_
      repeat (go_big_quiet_step ((fail)))
      refine wpQuiet_nil ?_; rintro _ ⟨y, rfl⟩; go_wp2_with fail
      go_roundw
      case rel => exact ⟨k + 1, by omega, by go_num, y, rfl⟩
      case measure => simp [intOf]; omega
    · go_wp2_with fail
      go_ret; exact ⟨rfl, z.below⟩
set_option maxRecDepth 10000 in
set_option maxHeartbeats 1000000 in
theorem szInt64S_any (v : Value) (xs : List Int) (l : Int) (hl0 : 0 ≤ l) (hl1 : l ≤ 1048576) (w : World) (B : Nat) (hB : B ≤ w.heap.size) (h : (Ty.slice 2 (Ty.int .i64)).rep w B [v] xs) :
    Calls Tryd.prog 19 #[v, .int .i64 l] w fun e w' => e = .returned (.int .i64 (szR l (xs.length))) ∧ Below w.heap.size w w' := by
  have _ := hB; obtain ⟨a, c, rfl, hc, hm⟩ := Ty.form h; have hn : xs.length ≤ 9223372036854775807 := (by unfold maxLen at hm; omega); clear hm; by_cases g : (xs.length : Int) ≤ l
  · rw [szR_ok g]; go_enter Tryd.func19, Tryd.ntmps19; go_wp2; go_ret; exact ⟨rfl, by go_grown⟩
  · rw [szR_no g]; go_enter Tryd.func19, Tryd.ntmps19; go_wp2; go_ret; exact ⟨rfl, by go_grown⟩
set_option maxRecDepth 10000 in
set_option maxHeartbeats 1000000 in
theorem eqInt64SS_any (v1 v2 : Value) (xs : List (List Int)) (w : World) (B : Nat) (hB : B ≤ w.heap.size) (h1 : (Ty.slice 23 (Ty.slice 2 (Ty.int .i64))).rep w B [v1] xs) (h2 : (Ty.slice 23 (Ty.slice 2 (Ty.int .i64))).rep w B [v2] xs) :
    Calls Tryd.prog 33 #[v1, v2] w fun e w' => e = .returned (.bool true) ∧ Below w.heap.size w w' := by
  obtain ⟨a1, c1, rfl, _, hm1⟩ := Ty.form h1; obtain ⟨a2, c2, rfl, _, hm2⟩ := Ty.form h2; have hn : xs.length ≤ 9223372036854775807 := (by unfold maxLen at hm1; omega); clear hm1 hm2; refine rebaseC ?_; intro x; go_enter Tryd.func33, Tryd.ntmps33; go_wp2
  go_loopw [5] (fun i wr => ∃ k : Nat, k ≤ xs.length ∧ i = .int .i64 k ∧ ∃ z : Ext w, wr = w.to z) (fun i _ => xs.length - (intOf i).toNat)
  case atStart => exact ⟨0, Nat.zero_le _, rfl, x, rfl⟩
  case round =>
    obtain ⟨k, hk, rfl, z, rfl⟩ := hrel; by_cases hlt : k < xs.length
    · obtain ⟨b1, o1, u1, rfl, hb1, d1, r1⟩ := Ty.elem1 h1 rfl hB k hlt; obtain ⟨b2, o2, u2, rfl, hb2, d2, r2⟩ := Ty.elem1 h2 rfl hB k hlt; have hs := fun z : Ext w => eqInt64S_any u1 u2 xs[k] (w.to z) B (Nat.le_trans hB z.below.size) (Ty.rep_to _ hB r1 z) (Ty.rep_to _ hB r2 z); have HS := Lib.hid hs; clear hs; go_wp2_with fail; refine wp_region_ext (by kernel_rfl) (by kernel_rfl) ?_
      repeat (go_big_quiet_step ((go_at_call 32; exact ext_call (HS.out _))))
      refine wpQuiet_nil ?_; rintro _ ⟨y, rfl⟩; go_wp2_with fail
      go_roundw
      case rel => exact ⟨k + 1, by omega, by go_num, y, rfl⟩
      case measure => simp [intOf]; omega
    · go_wp2_with fail
      go_ret; exact ⟨rfl, z.below⟩
set_option maxRecDepth 10000 in
set_option maxHeartbeats 1000000 in
theorem szInt64SS_any (v : Value) (xs : List (List Int)) (l : Int) (hl0 : 0 ≤ l) (hl1 : l ≤ 1048576) (w : World) (B : Nat) (hB : B ≤ w.heap.size) (h : (Ty.slice 23 (Ty.slice 2 (Ty.int .i64))).rep w B [v] xs) :
    Calls Tryd.prog 20 #[v, .int .i64 l] w fun e w' => e = .returned (.int .i64 (szR l (cntL (fun x : List Int => x.length) xs))) ∧ Below w.heap.size w w' := by
  obtain ⟨a, c, rfl, hc, hm⟩ := Ty.form h; have hn : xs.length ≤ 9223372036854775807 := (by unfold maxLen at hm; omega); clear hm; by_cases g : (xs.length : Int) ≤ l
  · refine rebaseC ?_; intro x; go_enter Tryd.func20, Tryd.ntmps20; go_wp2
    go_loopw [1, 5] (fun q i wr => ∃ k : Nat, k ≤ xs.length ∧ i = .int .i64 k ∧ ((xs.length + sumT (fun x : List Int => x.length) xs k : Nat) : Int) ≤ l ∧ q = .int .i64 (l - (xs.length + sumT (fun x : List Int => x.length) xs k : Nat)) ∧ ∃ z : Ext w, wr = w.to z) (fun _ i _ => xs.length - (intOf i).toNat)
    case atStart => exact ⟨0, Nat.zero_le _, rfl, by rw [sumT_zero]; exact g, by rw [sumT_zero]; rfl, x, rfl⟩
    case round =>
      obtain ⟨k, hk, rfl, hs, rfl, z, rfl⟩ := hrel; generalize hq : xs.length + sumT (fun x : List Int => x.length) xs k = q at hs ⊢; have HQ := Lib.hid hq; clear hq; by_cases hlt : k < xs.length
      · obtain ⟨b, o, u, rfl, hb, d1, r1⟩ := Ty.elem1 h rfl hB k hlt; have hs1 := fun z : Ext w => szInt64S_any u xs[k] (l - q) (by omega) (by omega) (w.to z) B (Nat.le_trans hB z.below.size) (Ty.rep_to _ hB r1 z); have hsum := sumT_succ (fun x : List Int => x.length) xs k hlt; have hsle := sumT_le (fun x : List Int => x.length) xs (k + 1); have HSU := Lib.hid hsum; have HSL := Lib.hid hsle; clear hsum hsle; by_cases gk : ((xs[k].length : Nat) : Int) ≤ l - q
        · simp only [szR_ok gk] at hs1; have HS1 := Lib.hid hs1; clear hs1; go_wp2_with (go_at_call 19; refine call_ext (HS1.out _) ?_; intro y)
          go_roundw
          case rel => have h1 := HSU.out; have h2 := HQ.out; exact ⟨k + 1, by omega, by go_num, by rw [h1]; omega, by rw [h1]; go_num, y, rfl⟩
          case measure => simp [intOf]; omega
        · simp only [szR_no gk] at hs1; have HS1 := Lib.hid hs1; clear hs1; go_wp2_with (go_at_call 19; refine call_ext (HS1.out _) ?_; intro y)
          go_ret; have h1 := HSU.out; have h2 := HQ.out; have h3 := HSL.out; exact ⟨by rw [szR_no (by unfold cntL; omega)]; rfl, y.below⟩
      · obtain rfl : k = xs.length := (by omega); go_wp2_with fail; go_ret; have h2 := HQ.out; have h3 := sumT_all (fun x : List Int => x.length) xs; exact ⟨by rw [szR_ok (by unfold cntL; omega), show cntL (fun x : List Int => x.length) xs = q by unfold cntL; omega]; rfl, z.below⟩
  · rw [szR_no (by have := cntL_len (fun x : List Int => x.length) xs; omega)]; go_enter Tryd.func20, Tryd.ntmps20; go_wp2; go_ret; exact ⟨rfl, by go_grown⟩
end Go.Proofs.YtlmkgjigldmbaaaDoor
