/- Laws that the proof stands on. -/
import Derived.Test.YtlmkgjigldmbaaaDoorRows
import Derived.Test.YtlmkgjigldmbaaaDoorZLib
set_option linter.all false
namespace Go.Proofs.YtlmkgjigldmbaaaDoor
open Go.RowKit Go.ChangeShapes Go.WideShapes Go.ChangeAt
set_option maxRecDepth 10000 in
set_option maxHeartbeats 1000000 in
theorem eqInt64S_any (v1 v2 : Value) (xs : List Int) (w : World) (B : Nat) (hB : B ≤ w.heap.size) (h1 : (Ty.slice 2 (Ty.int .i64)).rep w B [v1] xs) (h2 : (Ty.slice 2 (Ty.int .i64)).rep w B [v2] xs) :
    Calls Tryd.prog 32 #[v1, v2] w fun e w' => e = .returned (.bool true) ∧ Below w.heap.size w w' := by
  obtain ⟨a1, c1, rfl, _, hm1⟩ := Ty.form h1; obtain ⟨a2, c2, rfl, _, hm2⟩ := Ty.form h2; have hn : xs.length ≤ 9223372036854775807 := (by unfold maxLen at hm1; omega); clear hm1 hm2; refine rebaseC ?_; intro x; go_enter Tryd.func32, Tryd.ntmps32; go_wp2
  go_loopw [5] (fun i wr => ∃ k : Nat, k ≤ xs.length ∧ i = .int .i64 k ∧ ∃ z : Ext w, wr = w.to z) (fun i _ => xs.length - (intOf i).toNat)
  case atStart => exact ⟨0, Nat.zero_le _, rfl, x, rfl⟩
  case round =>
    obtain ⟨k, hk, rfl, z, rfl⟩ := hrel; by_cases hlt : k < xs.length
    · obtain ⟨b1, o1, rfl, hb1, g1, _⟩ := Ty.elemInt h1 k hlt; obtain ⟨b2, o2, rfl, hb2, g2, _⟩ := Ty.elemInt h2 k hlt; have d1 : ∀ z : Ext w, (w.to z).cell? ⟨b1, o1 + k, none⟩ = some _ := fun z => (to_cell z (by omega)).trans g1; have d2 : ∀ z : Ext w, (w.to z).cell? ⟨b2, o2 + k, none⟩ = some _ := fun z => (to_cell z (by omega)).trans g2; clear g1 g2; go_wp2_with fail; refine wp_region_ext (by kernel_rfl) (by kernel_rfl) ?_
      repeat (go_big_quiet_step ((fail)))
      refine wpQuiet_nil ?_; rintro _ ⟨y, rfl⟩; go_wp2_with fail
      go_roundw
      case rel => exact ⟨k + 1, by omega, by go_num, y, rfl⟩
      case measure => simp [intOf]; omega
    · go_wp2_with fail
      go_ret; exact ⟨rfl, z.below⟩
set_option maxRecDepth 10000 in
set_option maxHeartbeats 1000000 in
theorem szInt64S_any (v : Value) (xs : List Int) (l : Int) (hl0 : 0 ≤ l) (hl1 : l ≤ 1048576) (w : World) (B : Nat) (hB : B ≤ w.heap.size) (h : (Ty.slice 2 (Ty.int .i64)).rep w B [v] xs) :
    Calls Tryd.prog 19 #[v, .int .i64 l] w fun e w' => e = .returned (.int .i64 (szR l (xs.length))) ∧ Below w.heap.size w w' := by
  have _ := hB; obtain ⟨a, c, rfl, hc, hm⟩ := Ty.form h; have hn : xs.length ≤ 9223372036854775807 := (by unfold maxLen at hm; omega); clear hm; by_cases g : (xs.length : Int) ≤ l
  · rw [szR_ok g]; go_enter Tryd.func19, Tryd.ntmps19; go_wp2; go_ret; exact ⟨rfl, by go_grown⟩
  · rw [szR_no g]; go_enter Tryd.func19, Tryd.ntmps19; go_wp2; go_ret; exact ⟨rfl, by go_grown⟩
end Go.Proofs.YtlmkgjigldmbaaaDoor
