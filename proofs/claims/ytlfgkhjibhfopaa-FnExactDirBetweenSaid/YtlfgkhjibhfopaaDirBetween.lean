/- DirBetween: the program's and the reference's. -/
import Derived.Test.YtlfgkhjibhfopaaStep
namespace Go.Proofs.Ytlfgkhjibhfopaa
open Go.RowKit Go.ChangeShapes Go.WideShapes Go.ChangeAt
/-- What DirBetween gives. -/
def dirTo (p q : Point) : Int × Int :=
  if p.ok = true ∧ q.ok = true then
    (if p.next 0 = q then (0, 0) else if p.next 1 = q then (1, 0) else if p.next 2 = q then (2, 0) else if p.next 3 = q then (3, 0) else (0, 3))
  else (0, 2)
theorem dirTo_bad {p q : Point} (h : ¬ (p.ok = true ∧ q.ok = true)) : dirTo p q = (0, 2) := by simp only [dirTo, if_neg h]
theorem dirTo_at {p q : Point} {k : Nat} (hp : p.ok = true) (hq : q.ok = true) (hk : k < 4) (hn : ∀ j, j < k → p.next j ≠ q) (h : p.next k = q) : dirTo p q = ((k : Int), 0) := by
  have e : k = 0 ∨ k = 1 ∨ k = 2 ∨ k = 3 := by omega
  rcases e with rfl | rfl | rfl | rfl
  · simp [dirTo, hp, hq, h]
  · simp [dirTo, hp, hq, h, hn 0]
  · simp [dirTo, hp, hq, h, hn 0, hn 1]
  · simp [dirTo, hp, hq, h, hn 0, hn 1, hn 2]
theorem dirTo_none {p q : Point} (hp : p.ok = true) (hq : q.ok = true) (hn : ∀ j, j < 4 → p.next j ≠ q) : dirTo p q = (0, 3) := by
  simp [dirTo, hp, hq, hn 0, hn 1, hn 2, hn 3]

set_option linter.unusedSimpArgs false in
set_option maxRecDepth 10000 in
set_option maxHeartbeats 1000000 in
theorem DirBetween_impl (p q : Point) (w : World) :
    Calls Try.prog 24 #[p.val, q.val] w fun e w' => e = .returned (.tuple #[.int .i64 (dirTo p q).1, .int .i64 (dirTo p q).2]) ∧ Below w.heap.size w w' := by
  by_cases h1 : p.ok = true
  · by_cases h2 : q.ok = true
    · have hs : ∀ (n : Nat), n < 4 → ∀ W, Calls Try.prog 68 #[p.val, .int .i64 n] W fun e w' => e = .returned (p.next n).val ∧ Below W.heap.size W w' := fun n hn W => step_any p n hn W h1
      have HS := Lib.hid hs
      clear hs
      go_enter Try.func24, Try.ntmps24
      go_upto_region 1 with fail
      refine rebase ?_
      intro W1 hW x
      have hz : Below w.heap.size w W1 := by rw [hW]; go_grown
      have hb0 := at_of hW (push2_0 _ _ _)
      have c0 := box2 hb0
      have f0 := boxf hb0
      have B0 := Lib.hid hb0
      clear hb0
      have hb1 := at_of hW (push2_1 _ _ _)
      have c1 := box2 hb1
      have f1 := boxf hb1
      have B1 := Lib.hid hb1
      clear hb1
      have HW := Lib.hid hW
      clear hW
      go_wp2_with (go_at_call 67; refine call_ext (ValidPoint_any _ _) ?_; intro y)
      go_loopw [15] (fun i wr => ∃ k : Nat, k ≤ 4 ∧ i = .int .i64 k ∧ (∀ j, j < k → p.next j ≠ q) ∧ ∃ z : Ext W1, wr = W1.to z) (fun i _ => 4 - (intOf i).toNat)
      case atStart => exact ⟨0, by omega, rfl, by intro j hj; omega, y, rfl⟩
      case round =>
        obtain ⟨k, hk, rfl, hn, z, rfl⟩ := hrel
        have HN := Lib.hid hn
        clear hn
        by_cases hlt : k < 4
        · have heq := fun W => eql_Point (p.next k) q W
          by_cases he : p.next k = q
          · go_wp2_with fail
            refine wp_region_ext (by kernel_rfl) (by kernel_rfl) ?_
            repeat (go_big_quiet_step ((go_at_call 68; exact ext_call (HS.out k hlt _))))
            refine wpQuiet_nil ?_
            rintro _ ⟨y, rfl⟩
            go_wp2
            go_ret2
            exact ⟨by rw [dirTo_at h1 h2 hlt HN.out he]; rfl, ext_end _ hz⟩
          · go_wp2_with fail
            refine wp_region_ext (by kernel_rfl) (by kernel_rfl) ?_
            repeat (go_big_quiet_step ((go_at_call 68; exact ext_call (HS.out k hlt _))))
            refine wpQuiet_nil ?_
            rintro _ ⟨y, rfl⟩
            go_wp2
            go_roundw
            case rel => exact ⟨k + 1, by omega, by go_num, fun j hj => by rcases Nat.lt_succ_iff_lt_or_eq.1 hj with h | rfl; exact HN.out j h; exact he, y, rfl⟩
            case measure => simp [intOf]; omega
        · obtain rfl : k = 4 := by omega
          go_wp2
          go_ret2
          exact ⟨by rw [dirTo_none h1 h2 HN.out]; rfl, ext_end _ hz⟩
    · go_enter Try.func24, Try.ntmps24
      go_upto_region 1 with fail
      refine rebase ?_
      intro W1 hW x
      have hz : Below w.heap.size w W1 := by rw [hW]; go_grown
      have hb0 := at_of hW (push2_0 _ _ _)
      have c0 := box2 hb0
      have f0 := boxf hb0
      have B0 := Lib.hid hb0
      clear hb0
      have hb1 := at_of hW (push2_1 _ _ _)
      have c1 := box2 hb1
      have f1 := boxf hb1
      have B1 := Lib.hid hb1
      clear hb1
      have HW := Lib.hid hW
      clear hW
      go_wp2_with (go_at_call 67; refine call_ext (ValidPoint_any _ _) ?_; intro y)
      go_ret2
      exact ⟨by rw [dirTo_bad (by simp [h1, h2])]; rfl, ext_end _ hz⟩
  · go_enter Try.func24, Try.ntmps24
    go_upto_region 1 with fail
    refine rebase ?_
    intro W1 hW x
    have hz : Below w.heap.size w W1 := by rw [hW]; go_grown
    have hb0 := at_of hW (push2_0 _ _ _)
    have c0 := box2 hb0
    have f0 := boxf hb0
    have B0 := Lib.hid hb0
    clear hb0
    have hb1 := at_of hW (push2_1 _ _ _)
    have c1 := box2 hb1
    have f1 := boxf hb1
    have B1 := Lib.hid hb1
    clear hb1
    have HW := Lib.hid hW
    clear hW
    go_wp2_with (go_at_call 67; refine call_ext (ValidPoint_any _ _) ?_; intro y)
    go_ret2
    exact ⟨by rw [dirTo_bad (by simp [h1])]; rfl, ext_end _ hz⟩
set_option linter.unusedSimpArgs false in
set_option maxRecDepth 10000 in
set_option maxHeartbeats 1000000 in
theorem DirBetween_spec (p q : Point) (w : World) :
    Calls Try.prog 22 #[p.val, q.val] w fun e w' => e = .returned (.tuple #[.int .i64 (dirTo p q).1, .int .i64 (dirTo p q).2]) ∧ Below w.heap.size w w' := by
  by_cases h1 : p.ok = true
  · by_cases h2 : q.ok = true
    · have hs : ∀ (n : Nat), n < 4 → ∀ W, Calls Try.prog 66 #[p.val, .int .i64 n] W fun e w' => e = .returned (p.next n).val ∧ Below W.heap.size W w' := fun n hn W => l01Step_any p n hn W h1
      have HS := Lib.hid hs
      clear hs
      go_enter Try.func22, Try.ntmps22
      go_upto_region 1 with fail
      refine rebase ?_
      intro W1 hW x
      have hz : Below w.heap.size w W1 := by rw [hW]; go_grown
      have hb0 := at_of hW (push2_0 _ _ _)
      have c0 := box2 hb0
      have f0 := boxf hb0
      have B0 := Lib.hid hb0
      clear hb0
      have hb1 := at_of hW (push2_1 _ _ _)
      have c1 := box2 hb1
      have f1 := boxf hb1
      have B1 := Lib.hid hb1
      clear hb1
      have HW := Lib.hid hW
      clear hW
      go_wp2_with (go_at_call 65; refine call_ext (l01Point_any _ _) ?_; intro y)
      go_loopw [6] (fun i wr => ∃ k : Nat, k ≤ 4 ∧ i = .int .i64 k ∧ (∀ j, j < k → p.next j ≠ q) ∧ ∃ z : Ext W1, wr = W1.to z) (fun i _ => 4 - (intOf i).toNat)
      case atStart => exact ⟨0, by omega, rfl, by intro j hj; omega, y, rfl⟩
      case round =>
        obtain ⟨k, hk, rfl, hn, z, rfl⟩ := hrel
        have HN := Lib.hid hn
        clear hn
        by_cases hlt : k < 4
        · have heq := fun W => eql_Point (p.next k) q W
          by_cases he : p.next k = q
          · go_wp2_with fail
            refine wp_region_ext (by kernel_rfl) (by kernel_rfl) ?_
            repeat (go_big_quiet_step ((go_at_call 66; exact ext_call (HS.out k hlt _))))
            refine wpQuiet_nil ?_
            rintro _ ⟨y, rfl⟩
            go_wp2
            go_ret2
            exact ⟨by rw [dirTo_at h1 h2 hlt HN.out he]; rfl, ext_end _ hz⟩
          · go_wp2_with fail
            refine wp_region_ext (by kernel_rfl) (by kernel_rfl) ?_
            repeat (go_big_quiet_step ((go_at_call 66; exact ext_call (HS.out k hlt _))))
            refine wpQuiet_nil ?_
            rintro _ ⟨y, rfl⟩
            go_wp2
            go_roundw
            case rel => exact ⟨k + 1, by omega, by go_num, fun j hj => by rcases Nat.lt_succ_iff_lt_or_eq.1 hj with h | rfl; exact HN.out j h; exact he, y, rfl⟩
            case measure => simp [intOf]; omega
        · obtain rfl : k = 4 := by omega
          go_wp2
          go_ret2
          exact ⟨by rw [dirTo_none h1 h2 HN.out]; rfl, ext_end _ hz⟩
    · go_enter Try.func22, Try.ntmps22
      go_upto_region 1 with fail
      refine rebase ?_
      intro W1 hW x
      have hz : Below w.heap.size w W1 := by rw [hW]; go_grown
      have hb0 := at_of hW (push2_0 _ _ _)
      have c0 := box2 hb0
      have f0 := boxf hb0
      have B0 := Lib.hid hb0
      clear hb0
      have hb1 := at_of hW (push2_1 _ _ _)
      have c1 := box2 hb1
      have f1 := boxf hb1
      have B1 := Lib.hid hb1
      clear hb1
      have HW := Lib.hid hW
      clear hW
      go_wp2_with (go_at_call 65; refine call_ext (l01Point_any _ _) ?_; intro y)
      go_ret2
      exact ⟨by rw [dirTo_bad (by simp [h1, h2])]; rfl, ext_end _ hz⟩
  · go_enter Try.func22, Try.ntmps22
    go_upto_region 1 with fail
    refine rebase ?_
    intro W1 hW x
    have hz : Below w.heap.size w W1 := by rw [hW]; go_grown
    have hb0 := at_of hW (push2_0 _ _ _)
    have c0 := box2 hb0
    have f0 := boxf hb0
    have B0 := Lib.hid hb0
    clear hb0
    have hb1 := at_of hW (push2_1 _ _ _)
    have c1 := box2 hb1
    have f1 := boxf hb1
    have B1 := Lib.hid hb1
    clear hb1
    have HW := Lib.hid hW
    clear hW
    go_wp2_with (go_at_call 65; refine call_ext (l01Point_any _ _) ?_; intro y)
    go_ret2
    exact ⟨by rw [dirTo_bad (by simp [h1])]; rfl, ext_end _ hz⟩
end Go.Proofs.Ytlfgkhjibhfopaa
