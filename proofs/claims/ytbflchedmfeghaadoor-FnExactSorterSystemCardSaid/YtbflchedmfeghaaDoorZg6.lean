/- Laws that the proof stands on. -/
import Derived.Test.YtbflchedmfeghaaDoorRows
import Derived.Test.YtbflchedmfeghaaDoorZLib
import Derived.Test.YtbflchedmfeghaaDoorZMark
set_option linter.all false
namespace Go.Proofs.YtbflchedmfeghaaDoor
open Go.RowKit Go.ChangeShapes Go.WideShapes Go.ChangeAt
set_option maxRecDepth 10000 in
set_option maxHeartbeats 1000000 in
theorem eqInt64S_any (v1 v2 : Value) (xs : List Int) (w : World) (B : Nat) (hB : B ≤ w.heap.size) (h1 : (Ty.slice 2 (Ty.int .i64)).rep w B [v1] xs) (h2 : (Ty.slice 2 (Ty.int .i64)).rep w B [v2] xs) :
    Calls Tryd.prog 16 #[v1, v2] w fun e w' => e = .returned (.bool true) ∧ Below w.heap.size w w' := by
  obtain ⟨a1, c1, rfl, _, hm1⟩ := Ty.form h1; obtain ⟨a2, c2, rfl, _, hm2⟩ := Ty.form h2; have hn : xs.length ≤ 9223372036854775807 := (by unfold maxLen at hm1; omega); clear hm1 hm2; refine rebaseC ?_; intro x; go_enter Tryd.func16, Tryd.ntmps16; go_wp2
  go_loopw [5] (fun i wr => ∃ k : Nat, k ≤ xs.length ∧ i = .int .i64 k ∧ ∃ z : Ext w, wr = w.to z) (fun i _ => xs.length - (intOf i).toNat)
  case atStart => exact ⟨0, Nat.zero_le _, rfl, x, rfl⟩
  case round =>
    obtain ⟨k, hk, rfl, z, rfl⟩ := hrel; by_cases hlt : k < xs.length
    · obtain ⟨b1, o1, rfl, hb1, g1, _⟩ := Ty.elemInt h1 k hlt; obtain ⟨b2, o2, rfl, hb2, g2, _⟩ := Ty.elemInt h2 k hlt; have d1 : ∀ z : Ext w, (w.to z).cell? ⟨b1, o1 + k, none⟩ = some _ := fun z => (to_cell z (by omega)).trans g1; have d2 : ∀ z : Ext w, (w.to z).cell? ⟨b2, o2 + k, none⟩ = some _ := fun z => (to_cell z (by omega)).trans g2; clear g1 g2; go_wp2_with fail; refine wp_region_ext (by kernel_rfl) (by kernel_rfl) ?_
      repeat (go_big_quiet_step ((fail)))
      refine wpQuiet_nil ?_; rintro _ ⟨y, rfl⟩; go_wp2_with fail
      go_roundw
      case rel => exact ⟨k + 1, by omega, by go_num, y, rfl⟩
      case measure => simp [intOf]; omega
    · go_wp2_with fail
      go_ret; exact ⟨rfl, z.below⟩
theorem markInt64S_any (v : Value) (xs : List Int) (k : Int) (F : List Nat) (w : World) (h : (Ty.slice 2 (Ty.int .i64)).own w [v] xs F) (hn : F.Nodup) (hF : ∀ b, b ∈ F → b < w.heap.size) (h0 : 0 ≤ k) (hk : k + (cnS (fun _ => 1) xs : Nat) ≤ 4611686018427387904) :
    Calls Tryd.prog 17 #[v, .int .i64 k] w fun e w' => e = .returned (.int .i64 (k + (cnS (fun _ => 1) xs : Nat))) ∧ (Ty.slice 2 (Ty.int .i64)).own w' [v] (mkL (fun _ n => n) (fun _ => 1) xs k) F ∧ Chg F w w' := by
  obtain ⟨a, c, rfl, _, hm⟩ := Ty.form (Ty.own_lt _ h); have hlen : xs.length ≤ 9223372036854775807 := (by unfold maxLen at hm; omega); clear hm; have HO := Lib.hid h; have HN := Lib.hid hn; have HF := Lib.hid hF; clear h hn hF; go_enter Tryd.func17, Tryd.ntmps17; go_wp2
  go_loopw [1, 5] (fun n i wr => ∃ j : Nat, j ≤ xs.length ∧ i = .int .i64 j ∧ n = .int .i64 (k + (sumT (fun _ => 1) xs j : Nat)) ∧ (Ty.slice 2 (Ty.int .i64)).own wr [.slice a xs.length c] (mkAt (fun _ n => n) (fun _ => 1) xs k j) F ∧ Chg F w wr) (fun _ i _ => xs.length - (intOf i).toNat)
  case atStart => exact ⟨0, Nat.zero_le _, rfl, by simp [sumT_zero], by rw [mkAt_zero]; exact HO.out, Chg.refl _ _⟩
  case round =>
    obtain ⟨j, hj, rfl, rfl, ho, hc⟩ := hrel; by_cases hlt : j < xs.length
    · obtain ⟨g, o, cs, Fk, arr0, rfl, -, hg, hgk, hnk, hsub, hx, hH, hput⟩ := own_elem ho HN.out j (by rw [mkAt_len]; exact hlt); rw [mkAt_get _ _ _ _ _ hlt] at hx; have hb1 := sumT_cn_lt (fun _ => 1) xs j hlt; have hb2 := sumT_succ (fun _ => 1) xs j hlt; have hFw : ∀ b, b ∈ F → b < wr.heap.size := fun b hb => Nat.lt_of_lt_of_le (HF.out b hb) hc.size; have HFW := Lib.hid hFw; have HC := Lib.hid hc; clear ho hFw hc; obtain ⟨rfl, _, rfl⟩ := hx; have c0 : wr.cell? ⟨g, o + j, none⟩ = some (.int .i64 xs[j]) := (by have := hH.cell (j := 0) rfl; simpa [Ty.int] using this); have f0 := hH.froz; have h2 := hH.set 0 (show 0 < 1 by omega) (.int .i64 (k + (sumT (fun _ => 1) xs j : Nat))); have h3 := hput _ _ _ h2 ⟨rfl, ⟨by omega, by omega⟩, rfl⟩ (fun b _ hb _ => Below.heap_setCell _ _ _ _ hb); rw [← mkAt_succ (fun _ n => n) (fun _ => 1) xs k j hlt] at h3; have h4 := HC.out.set hg (o + j * 1 + 0) (.int .i64 (k + (sumT (fun _ => 1) xs j : Nat))); simp only [Ty.int, Nat.mul_one, Nat.add_zero] at h3 h4; have H3 := Lib.hid h3; have H4 := Lib.hid h4; clear h2 h3 h4 hput hH; go_wp2_with fail
      go_roundw
      case rel => refine ⟨j + 1, by omega, by go_num, by rw [hb2]; simp only [Int.natCast_add, Int.natCast_one, Int.add_assoc], H3.out, H4.out⟩
      case measure => simp [intOf]; omega
    · obtain rfl : j = xs.length := (by omega); have HC := Lib.hid hc; have HW := Lib.hid ho; clear hc ho; go_wp2_with fail; go_ret; refine ⟨by rw [sumT_cnS]; rfl, ?_, HC.out⟩; have := HW.out; rw [mkAt_all] at this; exact this
set_option maxRecDepth 10000 in
set_option maxHeartbeats 1000000 in
theorem heldInt64S_any (v : Value) (xs : List Int) (k : Int) (w : World) (B : Nat) (hB : B ≤ w.heap.size) (h : (Ty.slice 2 (Ty.int .i64)).rep w B [v] (mkL (fun _ n => n) (fun _ => 1) xs k)) (h0 : 0 ≤ k) (hk : k + (cnS (fun _ => 1) xs : Nat) ≤ 4611686018427387904) :
    Calls Tryd.prog 75 #[v, .int .i64 k] w fun e w' => e = .returned (.int .i64 (k + (cnS (fun _ => 1) xs : Nat))) ∧ Below w.heap.size w w' := by
  obtain ⟨a, c, hv, _, hm⟩ := Ty.form h; rw [mkL_len] at hv; subst hv; have hlen : xs.length ≤ 9223372036854775807 := (by have := Ty.form h; obtain ⟨_, _, _, hh1, hh2⟩ := this; rw [mkL_len] at hh1; unfold maxLen at hh2; omega); clear hm; have HR := Lib.hid h; clear h; refine rebaseC ?_; intro x; go_enter Tryd.func75, Tryd.ntmps75; go_wp2
  go_loopw [1, 5] (fun n i wr => ∃ j : Nat, j ≤ xs.length ∧ i = .int .i64 j ∧ n = .int .i64 (k + (sumT (fun _ => 1) xs j : Nat)) ∧ ∃ z : Ext w, wr = w.to z) (fun _ i _ => xs.length - (intOf i).toNat)
  case atStart => exact ⟨0, Nat.zero_le _, rfl, by simp [sumT_zero], x, rfl⟩
  case round =>
    obtain ⟨j, hj, rfl, rfl, z, rfl⟩ := hrel; by_cases hlt : j < xs.length
    · have hb1 := sumT_cn_lt (fun _ => 1) xs j hlt; have hb2 := sumT_succ (fun _ => 1) xs j hlt; have HB2 := Lib.hid hb2; clear hb2; obtain ⟨b, o, rfl, hb, hg, _⟩ := Ty.elemInt HR.out j (by rw [mkL_len]; exact hlt); rw [mkL_get _ _ _ _ _ hlt] at hg; have d0 : ∀ z : Ext w, (w.to z).cell? ⟨b, o + j, none⟩ = some (.int .i64 (k + (sumT (fun _ => 1) xs j : Nat))) := fun z => (to_cell z (by omega)).trans hg; clear hg; go_wp2_with fail
      go_roundw
      case rel => have hb2 := HB2.out; refine ⟨j + 1, by omega, by go_num, by rw [hb2]; simp only [Int.natCast_add, Int.natCast_one, Int.add_assoc], z, rfl⟩
      case measure => simp [intOf]; omega
    · obtain rfl : j = xs.length := (by omega); go_wp2_with fail; go_ret; exact ⟨by rw [sumT_cnS]; rfl, z.below⟩
end Go.Proofs.YtbflchedmfeghaaDoor
