/- ChecksumOf: the program's and the reference's. -/
import Derived.Test.YtlfgkhjibhfopaaTyBase
set_option linter.unusedVariables false
namespace Go.Proofs.Ytlfgkhjibhfopaa
open Go.RowKit Go.ChangeShapes Go.WideShapes Go.ChangeAt
def ckStep (p : Int × Int) (c : Int) : Int × Int := ((p.1 + c) % 65521, (p.2 + (p.1 + c) % 65521) % 65521)
def ckS (xs : List Int) (k : Nat) : Int × Int := (xs.take k).foldl ckStep (1, 0)
def checksum (xs : List Int) : Int := (xs.foldl ckStep (1, 0)).2 * 65536 + (xs.foldl ckStep (1, 0)).1
theorem ckS_succ (xs : List Int) (k : Nat) (h : k < xs.length) : ckS xs (k + 1) = ckStep (ckS xs k) xs[k] := by
  unfold ckS
  rw [take_succ' xs k h, List.foldl_append]
  rfl
theorem ckS_all (xs : List Int) : ckS xs xs.length = xs.foldl ckStep (1, 0) := by unfold ckS; rw [List.take_length]
theorem ck_bd : ∀ (xs : List Int) (p : Int × Int), (0 ≤ p.1 ∧ p.1 ≤ 65520 ∧ 0 ≤ p.2 ∧ p.2 ≤ 65520) → 0 ≤ (xs.foldl ckStep p).1 ∧ (xs.foldl ckStep p).1 ≤ 65520 ∧ 0 ≤ (xs.foldl ckStep p).2 ∧ (xs.foldl ckStep p).2 ≤ 65520
  | [], _, h => h
  | x :: xs, p, _ => ck_bd xs (ckStep p x) (by unfold ckStep; simp only; omega)
theorem ckS_bd (xs : List Int) (k : Nat) (lo hi : Int) (h : ckS xs k = (lo, hi)) : 0 ≤ lo ∧ lo ≤ 65520 ∧ 0 ≤ hi ∧ hi ≤ 65520 := by
  have := ck_bd (xs.take k) (1, 0) (by simp)
  unfold ckS at h
  rw [h] at this
  exact this

set_option maxRecDepth 10000 in
set_option maxHeartbeats 1000000 in
theorem l36Sum_any (q_v : Value) (q : List Int) (w : World) (B : Nat) (hB : B ≤ w.heap.size) (h : (Ty.slice 5 (Ty.int .u8)).rep w B [q_v] q) (hn : q.length ≤ 1048576) :
    Calls Try.prog 64 #[q_v] w fun e w' => e = .returned (.int .i64 (checksum q)) ∧ Below w.heap.size w w' := by
  obtain ⟨a, c, rfl, hc, hm⟩ := Ty.form h
  go_enter Try.func64, Try.ntmps64
  go_wp2
  go_loopw [3, 4, 5] (fun l g i wr => ∃ k : Nat, ∃ lo hi : Int, k ≤ q.length ∧ i = .int .i64 k ∧ l = .int .i64 lo ∧ g = .int .i64 hi ∧ ckS q k = (lo, hi) ∧ wr = w) (fun _ _ i _ => q.length - (intOf i).toNat)
  case atStart => exact ⟨0, 1, 0, Nat.zero_le _, rfl, rfl, rfl, rfl, rfl⟩
  case round =>
    obtain ⟨k, lo, hi, hk, rfl, rfl, rfl, hs, rfl⟩ := hrel
    obtain ⟨b1, b2, b3, b4⟩ := ckS_bd q k lo hi hs
    have HS := Lib.hid hs
    clear hs
    by_cases hlt : k < q.length
    · obtain ⟨b, o, rfl, hb, g1, hin⟩ := Ty.elemInt h k hlt
      obtain ⟨hi1, hi2⟩ := hin
      have hsu := ckS_succ q k hlt
      rw [HS.out] at hsu
      generalize q[k] = x at *
      have HSU := Lib.hid hsu
      clear hsu
      go_wp2
      go_roundw
      case rel => exact ⟨k + 1, _, _, by omega, by go_num, rfl, rfl, HSU.out, by first | rfl | trivial⟩
      case measure => simp [intOf]; omega
    · obtain rfl : k = q.length := by omega
      go_wp2
      go_ret
      refine ⟨?_, Below.refl _ _⟩
      have e : checksum q = hi * 65536 + lo := by
        have := HS.out
        unfold checksum
        rw [← ckS_all, this]
      rw [e]
      rfl
set_option maxRecDepth 10000 in
set_option maxHeartbeats 1000000 in
theorem ChecksumOf_impl (q_v : Value) (q : List Int) (w : World) (B : Nat) (hB : B ≤ w.heap.size) (h : (Ty.slice 5 (Ty.int .u8)).rep w B [q_v] q) (hn : q.length ≤ 1048576) :
    Calls Try.prog 20 #[q_v] w fun e w' => e = .returned (.int .i64 (checksum q)) ∧ Below w.heap.size w w' := by
  obtain ⟨a, c, rfl, hc, hm⟩ := Ty.form h
  go_enter Try.func20, Try.ntmps20
  go_wp2
  go_loopw [3, 4, 9] (fun l g i wr => ∃ k : Nat, ∃ lo hi : Int, k ≤ q.length ∧ i = .int .i64 k ∧ l = .int .i64 lo ∧ g = .int .i64 hi ∧ ckS q k = (lo, hi) ∧ wr = w) (fun _ _ i _ => q.length - (intOf i).toNat)
  case atStart => exact ⟨0, 1, 0, Nat.zero_le _, rfl, rfl, rfl, rfl, rfl⟩
  case round =>
    obtain ⟨k, lo, hi, hk, rfl, rfl, rfl, hs, rfl⟩ := hrel
    obtain ⟨b1, b2, b3, b4⟩ := ckS_bd q k lo hi hs
    have HS := Lib.hid hs
    clear hs
    by_cases hlt : k < q.length
    · obtain ⟨b, o, rfl, hb, g1, hin⟩ := Ty.elemInt h k hlt
      obtain ⟨hi1, hi2⟩ := hin
      have hsu := ckS_succ q k hlt
      rw [HS.out] at hsu
      generalize q[k] = x at *
      have HSU := Lib.hid hsu
      clear hsu
      go_wp2
      go_roundw
      case rel => exact ⟨k + 1, _, _, by omega, by go_num, rfl, rfl, HSU.out, by first | rfl | trivial⟩
      case measure => simp [intOf]; omega
    · obtain rfl : k = q.length := by omega
      go_wp2
      go_ret
      refine ⟨?_, Below.refl _ _⟩
      have e : checksum q = hi * 65536 + lo := by
        have := HS.out
        unfold checksum
        rw [← ckS_all, this]
      rw [e]
      rfl
theorem ChecksumOf_spec (q_v : Value) (q : List Int) (w : World) (B : Nat) (hB : B ≤ w.heap.size) (h : (Ty.slice 5 (Ty.int .u8)).rep w B [q_v] q) (hn : q.length ≤ 1048576) :
    Calls Try.prog 18 #[q_v] w fun e w' => e = .returned (.int .i64 (checksum q)) ∧ Below w.heap.size w w' := by
  obtain ⟨a, c, rfl, hc, hm⟩ := Ty.form h
  go_enter Try.func18, Try.ntmps18
  go_wp2_with fail
  refine (l36Sum_any _ q _ B hB h hn).mono ?_
  rintro e w1 ⟨rfl, hb⟩
  go_wp2_with fail
  go_ret
  exact ⟨rfl, hb⟩
end Go.Proofs.Ytlfgkhjibhfopaa
