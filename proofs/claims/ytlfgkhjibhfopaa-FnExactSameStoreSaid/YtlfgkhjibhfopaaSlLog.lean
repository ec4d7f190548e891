/- Made by slgen.py: instances of package slices. -/
import Derived.Test.YtlfgkhjibhfopaaRows
import Derived.Test.YtlfgkhjibhfopaaLib
import Derived.Test.YtlfgkhjibhfopaaTyLog
set_option linter.unusedSimpArgs false
set_option linter.unusedVariables false
namespace Go.Proofs.Ytlfgkhjibhfopaa
open Go.RowKit Go.ChangeShapes Go.WideShapes Go.ChangeAt
set_option maxRecDepth 10000 in
set_option maxHeartbeats 1000000 in
theorem IndexFunc_Log (v : Value) (xs : List Log) (f : Log → Bool) (K : Nat) (cap : Array Value) (w : World) (B : Nat) (hB : B ≤ w.heap.size) (h : (Ty.slice 113 Log.ty).rep w B [v] xs)
    (hK : ∀ args W, (callFunc K args).run Try.prog W = .ok (.enter K args) W) (hf : ∀ k (hk : k < xs.length) (p0 p1 : Value) (_ : (Ty.slice 5 (Ty.int .u8)).rep w B [p0] xs[k].Safe) (_ : (Ty.slice 5 (Ty.int .u8)).rep w B [p1] xs[k].Loose) (z : Ext w), Calls Try.prog K (#[.agg #[p0, p1]] ++ cap) (w.to z) fun e w' => e = .returned (.bool (f xs[k])) ∧ Below (w.to z).heap.size (w.to z) w') :
    Calls Try.prog 112 #[v, .func (.func K) #[] cap] w fun e w' => e = .returned (.int .i64 (idxP f xs)) ∧ Below w.heap.size w w' := by
  obtain ⟨a, c, rfl, _, hm⟩ := Ty.form h
  have hn : xs.length ≤ 9223372036854775807 := by unfold maxLen at hm; omega
  clear hm
  have HF := Lib.hid hf
  clear hf
  refine rebaseC ?_
  intro x
  go_enter Try.func112, Try.ntmps112
  go_wp2
  go_loopw [8] (fun i wr => ∃ k : Nat, k ≤ xs.length ∧ i = .int .i64 k ∧ (∀ j (hj : j < k) (hj' : j < xs.length), f xs[j] = false) ∧ ∃ z : Ext w, wr = w.to z) (fun i _ => xs.length - (intOf i).toNat)
  case atStart => exact ⟨0, Nat.zero_le _, rfl, fun j hj => absurd hj (by omega), x, rfl⟩
  case round =>
    obtain ⟨k, hk, rfl, hno, z, rfl⟩ := hrel
    have HN := Lib.hid hno
    clear hno
    by_cases hlt : k < xs.length
    · obtain ⟨h_b, h_o, h_cs, rfl, h_hb, h_gg, h_ee⟩ := Ty.elem h hB k hlt
      obtain ⟨h_p0, h_p1, rfl, h_r0, h_r1⟩ := Log.cells h_ee
      have h_d0 : ∀ z : Ext w, (w.to z).cell? ⟨h_b, h_o + k * 2, none⟩ = some (h_p0) := h_gg 0 _ rfl
      have h_d1 : ∀ z : Ext w, (w.to z).cell? ⟨h_b, h_o + k * 2 + 1, none⟩ = some (h_p1) := h_gg 1 _ rfl
      clear h_gg
      have hs := fun z : Ext w => HF.out k hlt h_p0 h_p1 h_r0 h_r1 z
      cases hp : f xs[k] with
      | true =>
        rw [hp] at hs
        have HS := Lib.hid hs
        have HP := Lib.hid hp
        clear hs hp
        go_wp2_with fail
        refine call_ext (HS.out _) ?_
        intro y
        go_wp2_with fail
        go_ret
        exact ⟨by rw [idxP_at f xs k hlt (fun j hj => HN.out j hj _) HP.out]; rfl, y.below⟩
      | false =>
        rw [hp] at hs
        have HS := Lib.hid hs
        have HP := Lib.hid hp
        clear hs hp
        go_wp2_with fail
        refine call_ext (HS.out _) ?_
        intro y
        go_wp2_with fail
        go_roundw
        case rel => exact ⟨k + 1, by omega, by go_num, fun j hj hj' => by rcases Nat.lt_succ_iff_lt_or_eq.1 hj with h1 | rfl; exact HN.out j h1 _; exact HP.out, y, rfl⟩
        case measure => simp [intOf]; omega
    · obtain rfl : k = xs.length := by omega
      go_wp2_with fail
      go_ret
      exact ⟨by rw [idxP_none f xs (fun j hj => HN.out j hj _)]; rfl, z.below⟩
set_option maxRecDepth 10000 in
set_option maxHeartbeats 1000000 in
theorem ContainsFunc_Log (v : Value) (xs : List Log) (f : Log → Bool) (K : Nat) (cap : Array Value) (w : World) (B : Nat) (hB : B ≤ w.heap.size) (h : (Ty.slice 113 Log.ty).rep w B [v] xs)
    (hK : ∀ args W, (callFunc K args).run Try.prog W = .ok (.enter K args) W) (hf : ∀ k (hk : k < xs.length) (p0 p1 : Value) (_ : (Ty.slice 5 (Ty.int .u8)).rep w B [p0] xs[k].Safe) (_ : (Ty.slice 5 (Ty.int .u8)).rep w B [p1] xs[k].Loose) (z : Ext w), Calls Try.prog K (#[.agg #[p0, p1]] ++ cap) (w.to z) fun e w' => e = .returned (.bool (f xs[k])) ∧ Below (w.to z).heap.size (w.to z) w') :
    Calls Try.prog 84 #[v, .func (.func K) #[] cap] w fun e w' => e = .returned (.bool (xs.any f)) ∧ Below w.heap.size w w' := by
  have hs := IndexFunc_Log v xs f K cap w B hB h hK hf
  have HS := Lib.hid hs
  clear hs hf
  have ha := idxP_any f xs
  have HA := Lib.hid ha
  clear ha
  go_enter Try.func84, Try.ntmps84
  go_wp2_with fail
  refine (HS.out).mono ?_
  rintro e w1 ⟨rfl, hb⟩
  generalize idxP f xs = r at *
  by_cases g : 0 ≤ r
  · go_wp2_with fail
    go_ret
    exact ⟨by rw [← HA.out]; simp [g], hb⟩
  · go_wp2_with fail
    go_ret
    exact ⟨by rw [← HA.out]; simp [g], hb⟩
set_option maxRecDepth 10000 in
set_option maxHeartbeats 1000000 in
theorem EqualFunc_Log (v1 v2 : Value) (xs ys : List Log) (f : Log → Log → Bool) (K : Nat) (cap : Array Value) (w : World) (B : Nat) (hB : B ≤ w.heap.size) (h1 : (Ty.slice 113 Log.ty).rep w B [v1] xs) (h2 : (Ty.slice 113 Log.ty).rep w B [v2] ys)
    (hK : ∀ args W, (callFunc K args).run Try.prog W = .ok (.enter K args) W) (hf : ∀ k (hk : k < xs.length) (hk2 : k < ys.length) (p0 p1 q0 q1 : Value) (_ : (Ty.slice 5 (Ty.int .u8)).rep w B [p0] xs[k].Safe) (_ : (Ty.slice 5 (Ty.int .u8)).rep w B [p1] xs[k].Loose) (_ : (Ty.slice 5 (Ty.int .u8)).rep w B [q0] ys[k].Safe) (_ : (Ty.slice 5 (Ty.int .u8)).rep w B [q1] ys[k].Loose) (z : World), Below w.heap.size w z → Calls Try.prog K (#[.agg #[p0, p1], .agg #[q0, q1]] ++ cap) z fun e w' => e = .returned (.bool (f xs[k] ys[k])) ∧ Below z.heap.size z w') :
    Calls Try.prog 86 #[v1, v2, .func (.func K) #[] cap] w fun e w' => e = .returned (.bool (allP f xs ys)) ∧ Below w.heap.size w w' := by
  obtain ⟨a1, c1, rfl, _, hm1⟩ := Ty.form h1
  obtain ⟨a2, c2, rfl, _, hm2⟩ := Ty.form h2
  have hn1 : xs.length ≤ 9223372036854775807 := by unfold maxLen at hm1; omega
  have hn2 : ys.length ≤ 9223372036854775807 := by unfold maxLen at hm2; omega
  clear hm1 hm2
  have HF := Lib.hid hf
  clear hf
  refine rebaseC ?_
  intro x
  by_cases hl : xs.length = ys.length
  · have HLL := Lib.hid hl
    have hle1 := Nat.le_of_eq hl
    have hle2 := Nat.le_of_eq hl.symm
    have hlq : (((xs.length : Nat) : Int) != ((ys.length : Nat) : Int)) = false := by simp [hl]
    clear hl
    go_enter Try.func86, Try.ntmps86
    go_wp2
    go_loopw [17] (fun i wr => ∃ k : Nat, k ≤ xs.length ∧ i = .int .i64 k ∧ (∀ j (hj : j < k) (g1 : j < xs.length) (g2 : j < ys.length), f xs[j] ys[j] = true) ∧ ∃ z : Ext w, wr = w.to z) (fun i _ => xs.length - (intOf i).toNat)
    case atStart => exact ⟨0, Nat.zero_le _, rfl, fun j hj => absurd hj (by omega), x, rfl⟩
    case round =>
      obtain ⟨k, hk, rfl, hno, z, rfl⟩ := hrel
      have HN := Lib.hid hno
      clear hno
      by_cases hlt : k < xs.length
      · have hlt2 : k < ys.length := by omega
        obtain ⟨h1_b, h1_o, h1_cs, rfl, h1_hb, h1_gg, h1_ee⟩ := Ty.elem h1 hB k hlt
        obtain ⟨h1_p0, h1_p1, rfl, h1_r0, h1_r1⟩ := Log.cells h1_ee
        have h1_d0 : ∀ z : Ext w, (w.to z).cell? ⟨h1_b, h1_o + k * 2, none⟩ = some (h1_p0) := h1_gg 0 _ rfl
        have h1_d1 : ∀ z : Ext w, (w.to z).cell? ⟨h1_b, h1_o + k * 2 + 1, none⟩ = some (h1_p1) := h1_gg 1 _ rfl
        clear h1_gg
        obtain ⟨h1_r0_a, h1_r0_c, rfl, _, _⟩ := Ty.form h1_r0
        obtain ⟨h1_r1_a, h1_r1_c, rfl, _, _⟩ := Ty.form h1_r1
        obtain ⟨h2_b, h2_o, h2_cs, rfl, h2_hb, h2_gg, h2_ee⟩ := Ty.elem h2 hB k hlt2
        obtain ⟨h2_p0, h2_p1, rfl, h2_r0, h2_r1⟩ := Log.cells h2_ee
        have h2_d0 : ∀ z : Ext w, (w.to z).cell? ⟨h2_b, h2_o + k * 2, none⟩ = some (h2_p0) := h2_gg 0 _ rfl
        have h2_d1 : ∀ z : Ext w, (w.to z).cell? ⟨h2_b, h2_o + k * 2 + 1, none⟩ = some (h2_p1) := h2_gg 1 _ rfl
        clear h2_gg
        obtain ⟨h2_r0_a, h2_r0_c, rfl, _, _⟩ := Ty.form h2_r0
        obtain ⟨h2_r1_a, h2_r1_c, rfl, _, _⟩ := Ty.form h2_r1
        have h2_e0 := fun o : Obj => (((Below.refl (w.to z).heap.size (w.to z)).alloc (Nat.le_refl _) o).cell (p := ⟨h2_b, h2_o + k * 2, none⟩) (Nat.lt_of_lt_of_le (show h2_b < w.heap.size by omega) (to_size z))).trans (h2_d0 z)
        have h2_e1 := fun o : Obj => (((Below.refl (w.to z).heap.size (w.to z)).alloc (Nat.le_refl _) o).cell (p := ⟨h2_b, h2_o + k * 2 + 1, none⟩) (Nat.lt_of_lt_of_le (show h2_b < w.heap.size by omega) (to_size z))).trans (h2_d1 z)
        cases hp : f xs[k] ys[k] with
        | true =>
          have HP := Lib.hid hp
          have hs := HF.out k hlt hlt2 _ _ _ _ h1_r0 h1_r1 h2_r0 h2_r1
          rw [hp] at hs
          have HS := Lib.hid hs
          clear hs hp
          go_upto_region 7 with fail
          refine plainbase ?_
          intro W2 hW
          have hbW : Below w.heap.size w W2 := by rw [hW]; exact (z.below.alloc (to_size z) _).alloc (by simp only [World.size_alloc]; have := to_size z; omega) _
          have c8 := cel2 (at_of hW (push2_0 _ _ _))
          have c9 := cel2 (at_of hW (push2_1 _ _ _))
          clear hW
          go_wp2_with fail
          refine (HS.out W2 hbW).mono ?_
          rintro e w3 ⟨rfl, hb3⟩
          have hb4 := hbW.trans (hb3.mono hbW.size)
          clear hb3
          go_wp2_with fail
          go_roundw
          case rel => exact ⟨k + 1, by omega, by go_num, fun j hj g1 g2 => by rcases Nat.lt_succ_iff_lt_or_eq.1 hj with h1 | rfl; exact HN.out j h1 _ _; exact HP.out, ⟨w3, hb4⟩, rfl⟩
          case measure => simp [intOf]; omega
        | false =>
          have HP := Lib.hid hp
          have hs := HF.out k hlt hlt2 _ _ _ _ h1_r0 h1_r1 h2_r0 h2_r1
          rw [hp] at hs
          have HS := Lib.hid hs
          clear hs hp
          go_upto_region 7 with fail
          refine plainbase ?_
          intro W2 hW
          have hbW : Below w.heap.size w W2 := by rw [hW]; exact (z.below.alloc (to_size z) _).alloc (by simp only [World.size_alloc]; have := to_size z; omega) _
          have c8 := cel2 (at_of hW (push2_0 _ _ _))
          have c9 := cel2 (at_of hW (push2_1 _ _ _))
          clear hW
          go_wp2_with fail
          refine (HS.out W2 hbW).mono ?_
          rintro e w3 ⟨rfl, hb3⟩
          have hb4 := hbW.trans (hb3.mono hbW.size)
          clear hb3
          go_wp2_with fail
          go_ret
          exact ⟨by rw [allP_no f xs ys k hlt hlt2 HP.out]; rfl, hb4⟩
      · obtain rfl : k = xs.length := by omega
        go_wp2_with fail
        go_ret
        exact ⟨by rw [allP_yes f xs ys HLL.out (fun j g1 g2 => HN.out j g1 g1 g2)]; rfl, z.below⟩
  · have hlq : (((xs.length : Nat) : Int) != ((ys.length : Nat) : Int)) = true := by simp; omega
    have HLL := Lib.hid hl
    clear hl
    go_enter Try.func86, Try.ntmps86
    go_wp2
    go_ret
    exact ⟨by rw [allP_len f xs ys HLL.out]; rfl, x.below⟩

end Go.Proofs.Ytlfgkhjibhfopaa
