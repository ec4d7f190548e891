/- SameStore: the program's and the reference's. -/
import Derived.Test.YtlfgkhjibhfopaaBytes
import Derived.Test.YtlfgkhjibhfopaaFStore
set_option linter.unusedSimpArgs false
set_option linter.unusedVariables false
namespace Go.Proofs.Ytlfgkhjibhfopaa
open Go.RowKit Go.ChangeShapes Go.WideShapes Go.ChangeAt
def sameLog (x y : Log) : Bool := decide (x.Safe = y.Safe) && decide (x.Loose = y.Loose)
def sameStore (q r : Store) : Bool := decide (q.Active = r.Active) && allP sameLog q.Slots r.Slots
set_option maxRecDepth 10000 in
set_option maxHeartbeats 1000000 in
theorem sameLog_any (p0 p1 q0 q1 : Value) (x y : Log) (w : World) (B : Nat) (hB : B ≤ w.heap.size) (h0 : (Ty.slice 5 (Ty.int .u8)).rep w B [p0] x.Safe) (h1 : (Ty.slice 5 (Ty.int .u8)).rep w B [p1] x.Loose)
    (g0 : (Ty.slice 5 (Ty.int .u8)).rep w B [q0] y.Safe) (g1 : (Ty.slice 5 (Ty.int .u8)).rep w B [q1] y.Loose) :
    Calls Try.prog 87 #[.agg #[p0, p1], .agg #[q0, q1]] w fun e w' => e = .returned (.bool (sameLog x y)) ∧ Below w.heap.size w w' := by
  have key : ∀ b1 b2 : Bool, decide (x.Safe = y.Safe) = b1 → decide (x.Loose = y.Loose) = b2 → Calls Try.prog 87 #[.agg #[p0, p1], .agg #[q0, q1]] w fun e w' => e = .returned (.bool (b1 && b2)) ∧ Below w.heap.size w w' := by
    intro b1 b2 e1 e2
    obtain ⟨a0, c0, rfl, _, _⟩ := Ty.form h0
    obtain ⟨a1, c1, rfl, _, _⟩ := Ty.form h1
    obtain ⟨a2, c2, rfl, _, _⟩ := Ty.form g0
    obtain ⟨a3, c3, rfl, _, _⟩ := Ty.form g1
    have H0 := Lib.hid h0
    have H1 := Lib.hid h1
    have G0 := Lib.hid g0
    have G1 := Lib.hid g1
    clear h0 h1 g0 g1
    cases b1 <;> cases b2
    all_goals
      go_enter Try.func87, Try.ntmps87
      go_upto_region 1 with fail
      refine rebase ?_
      intro W1 hW _
      have hz : Below w.heap.size w W1 := by rw [hW]; go_grown
      have hb0 := at_of hW (push2_0 _ _ _)
      have c0 := box2 hb0
      have f0 := boxf hb0
      have B0 := Lib.hid hb0
      clear hb0
      have hb1 := at_of hW (push2_1 _ _ _)
      have c1 := box2 hb1
      have f1 := boxf hb1
      have B1 := Lib.hid hb1
      clear hb1
      have HW := Lib.hid hW
      clear hW
      have hs := fun z : Ext W1 => bytesEqual_any _ _ x.Safe y.Safe (W1.to z) B (Nat.le_trans hB (ext_end z hz).size) (Ty.rep_below _ H0.out ((ext_end z hz).mono hB)) (Ty.rep_below _ G0.out ((ext_end z hz).mono hB))
      have ht := fun z : Ext W1 => bytesEqual_any _ _ x.Loose y.Loose (W1.to z) B (Nat.le_trans hB (ext_end z hz).size) (Ty.rep_below _ H1.out ((ext_end z hz).mono hB)) (Ty.rep_below _ G1.out ((ext_end z hz).mono hB))
      rw [e1] at hs
      rw [e2] at ht
      have HS := Lib.hid hs
      have HT := Lib.hid ht
      clear hs ht
      go_wp2_with (first | (with_reducible refine call_ext (HS.out _) ?_; intro y) | (with_reducible refine call_ext (HT.out _) ?_; intro y2))
      go_ret
      exact ⟨by simp, ext_end _ hz⟩
  exact key _ _ rfl rfl
set_option maxRecDepth 10000 in
set_option maxHeartbeats 1000000 in
theorem SameStore_impl (q_v0 : Value) (q : Store) (r_v0 : Value) (r : Store) (w : World) (B : Nat) (hB : B ≤ w.heap.size) (h : (Ty.slice 113 Log.ty).rep w B [q_v0] q.Slots) (hi : InK .i64 q.Active) (hn : q.cnt ≤ 1048576)
    (h2 : (Ty.slice 113 Log.ty).rep w B [r_v0] r.Slots) (hi2 : InK .i64 r.Active) (hn2 : r.cnt ≤ 1048576) :
    Calls Try.prog 42 #[.agg #[q_v0, .int .i64 q.Active], .agg #[r_v0, .int .i64 r.Active]] w fun e w' => e = .returned (.bool (sameStore q r)) ∧ Below w.heap.size w w' := by
  have key : ∀ b1 b2 : Bool, decide (q.Active = r.Active) = b1 → allP sameLog q.Slots r.Slots = b2 → Calls Try.prog 42 #[.agg #[q_v0, .int .i64 q.Active], .agg #[r_v0, .int .i64 r.Active]] w fun e w' => e = .returned (.bool (b1 && b2)) ∧ Below w.heap.size w w' := by
    intro b1 b2 e1 e2
    obtain ⟨a, c, rfl, hc, hm⟩ := Ty.form h
    obtain ⟨a2, c2, rfl, hc2, hm2⟩ := Ty.form h2
    have ee : (q.Active == r.Active) = b1 := by rw [← e1]; by_cases g : q.Active = r.Active <;> simp [g]
    have HH := Lib.hid h
    have HG := Lib.hid h2
    clear h h2 e1
    cases b1 <;> cases b2
    all_goals
      go_enter Try.func42, Try.ntmps42
      go_upto_region 1 with fail
      refine rebase ?_
      intro W1 hW _
      have hz : Below w.heap.size w W1 := by rw [hW]; go_grown
      have hb0 := at_of hW (push2_0 _ _ _)
      have c0 := box2 hb0
      have f0 := boxf hb0
      have B0 := Lib.hid hb0
      clear hb0
      have hb1 := at_of hW (push2_1 _ _ _)
      have c1 := box2 hb1
      have f1 := boxf hb1
      have B1 := Lib.hid hb1
      clear hb1
      have HW := Lib.hid hW
      clear hW
      have hs := fun z : Ext W1 => EqualFunc_Log _ _ q.Slots r.Slots sameLog 87 #[] (W1.to z) B (Nat.le_trans hB (ext_end z hz).size) (Ty.rep_below _ HH.out ((ext_end z hz).mono hB)) (Ty.rep_below _ HG.out ((ext_end z hz).mono hB)) (fun _ _ => by kernel_rfl)
        (fun k hk hk2 v0 v1 u0 u1 r0 r1 s0 s1 z2 hz2 => sameLog_any v0 v1 u0 u1 q.Slots[k] r.Slots[k] z2 B (Nat.le_trans (Nat.le_trans hB (ext_end z hz).size) hz2.size) (Ty.rep_below _ r0 (hz2.mono (Nat.le_trans hB (ext_end z hz).size))) (Ty.rep_below _ r1 (hz2.mono (Nat.le_trans hB (ext_end z hz).size))) (Ty.rep_below _ s0 (hz2.mono (Nat.le_trans hB (ext_end z hz).size))) (Ty.rep_below _ s1 (hz2.mono (Nat.le_trans hB (ext_end z hz).size))))
      rw [e2] at hs
      have HS := Lib.hid hs
      clear hs
      go_wp2_with (refine call_ext (HS.out _) ?_; intro y)
      go_ret
      exact ⟨by simp, ext_end _ hz⟩
  exact key _ _ rfl rfl
set_option maxRecDepth 10000 in
set_option maxHeartbeats 1000000 in
theorem SameStore_spec (q_v0 : Value) (q : Store) (r_v0 : Value) (r : Store) (w : World) (B : Nat) (hB : B ≤ w.heap.size) (h : (Ty.slice 113 Log.ty).rep w B [q_v0] q.Slots) (hi : InK .i64 q.Active) (hn : q.cnt ≤ 1048576)
    (h2 : (Ty.slice 113 Log.ty).rep w B [r_v0] r.Slots) (hi2 : InK .i64 r.Active) (hn2 : r.cnt ≤ 1048576) :
    Calls Try.prog 41 #[.agg #[q_v0, .int .i64 q.Active], .agg #[r_v0, .int .i64 r.Active]] w fun e w' => e = .returned (.bool (sameStore q r)) ∧ Below w.heap.size w w' := by
  obtain ⟨a, c, rfl, hc, hm⟩ := Ty.form h
  obtain ⟨a2, c2, rfl, hc2, hm2⟩ := Ty.form h2
  clear hi hi2
  have hq1 : q.Slots.length ≤ 9223372036854775807 := by unfold maxLen at hm; omega
  have hq2 : r.Slots.length ≤ 9223372036854775807 := by unfold maxLen at hm2; omega
  clear hm hm2
  by_cases e1 : q.Active = r.Active
  · have ee : (q.Active != r.Active) = false := by simp [e1]
    have E1 := Lib.hid e1
    clear e1
    by_cases e2 : q.Slots.length = r.Slots.length
    · have ee2 : (((q.Slots.length : Nat) : Int) != ((r.Slots.length : Nat) : Int)) = false := by simp; omega
      have el1 := Nat.le_of_eq e2
      have el2 := Nat.le_of_eq e2.symm
      have E2 := Lib.hid e2
      clear e2
      go_enter Try.func41, Try.ntmps41
      go_upto_region 1 with fail
      refine rebase ?_
      intro W1 hW _
      have hz : Below w.heap.size w W1 := by rw [hW]; go_grown
      have hb0 := at_of hW (push2_0 _ _ _)
      have c0 := box2 hb0
      have f0 := boxf hb0
      have B0 := Lib.hid hb0
      clear hb0
      have hb1 := at_of hW (push2_1 _ _ _)
      have c1 := box2 hb1
      have f1 := boxf hb1
      have B1 := Lib.hid hb1
      clear hb1
      have HW := Lib.hid hW
      clear hW
      go_wp2_with fail
      go_loopw [5] (fun i wr => ∃ k : Nat, k ≤ q.Slots.length ∧ i = .int .i64 k ∧ (∀ j (hj : j < k) (g1 : j < q.Slots.length) (g2 : j < r.Slots.length), sameLog q.Slots[j] r.Slots[j] = true) ∧ ∃ z : Ext W1, wr = W1.to z) (fun i _ => q.Slots.length - (intOf i).toNat)
      case atStart => exact ⟨0, Nat.zero_le _, rfl, fun j hj => absurd hj (by omega), _, rfl⟩
      case round =>
        obtain ⟨k, hk, rfl, hno, z, rfl⟩ := hrel
        have HN := Lib.hid hno
        clear hno
        have hBW : B ≤ W1.heap.size := Nat.le_trans hB hz.size
        have h' := Ty.rep_below _ h (hz.mono hB)
        have h2' := Ty.rep_below _ h2 (hz.mono hB)
        by_cases hlt : k < q.Slots.length
        · obtain ⟨bb, o, cs, rfl, hbb, gg, ee1⟩ := Ty.elem h' hBW k hlt
          obtain ⟨p0, p1, rfl, r0, r1⟩ := Log.cells ee1
          obtain ⟨bb2, o2, cs2, rfl, hbb2, gg2, ee3⟩ := Ty.elem h2' hBW k (by omega)
          obtain ⟨q0, q1, rfl, s0, s1⟩ := Log.cells ee3
          have d0 : ∀ z : Ext W1, (W1.to z).cell? ⟨bb, o + k * 2, none⟩ = some _ := gg 0 _ rfl
          have d1 : ∀ z : Ext W1, (W1.to z).cell? ⟨bb, o + k * 2 + 1, none⟩ = some _ := gg 1 _ rfl
          have d2 : ∀ z : Ext W1, (W1.to z).cell? ⟨bb2, o2 + k * 2, none⟩ = some _ := gg2 0 _ rfl
          have d3 : ∀ z : Ext W1, (W1.to z).cell? ⟨bb2, o2 + k * 2 + 1, none⟩ = some _ := gg2 1 _ rfl
          clear gg gg2 h h2 h' h2'
          have v0 := fun z : Ext W1 => conv_bytes (P := Try.prog) (e := 5) (t := 28) (dst := 9) (by kernel_rfl) (by kernel_rfl) (by kernel_rfl) (Ty.rep_to _ hBW r0 z)
          have v1 := fun z : Ext W1 => conv_bytes (P := Try.prog) (e := 5) (t := 28) (dst := 9) (by kernel_rfl) (by kernel_rfl) (by kernel_rfl) (Ty.rep_to _ hBW r1 z)
          have v2 := fun z : Ext W1 => conv_bytes (P := Try.prog) (e := 5) (t := 28) (dst := 9) (by kernel_rfl) (by kernel_rfl) (by kernel_rfl) (Ty.rep_to _ hBW s0 z)
          have v3 := fun z : Ext W1 => conv_bytes (P := Try.prog) (e := 5) (t := 28) (dst := 9) (by kernel_rfl) (by kernel_rfl) (by kernel_rfl) (Ty.rep_to _ hBW s1 z)
          have hkl : k < r.Slots.length := by omega
          have q1 := strOfNums_eq r0 s0
          have q2 := strOfNums_eq r1 s1
          clear r0 r1 s0 s1 ee1 ee3
          by_cases g1 : q.Slots[k].Safe = r.Slots[k].Safe
          · rw [decide_eq_true g1] at q1
            have G1 := Lib.hid g1
            by_cases g2 : q.Slots[k].Loose = r.Slots[k].Loose
            · rw [decide_eq_true g2] at q2
              have G2 := Lib.hid g2
              clear g1 g2
              go_wp2_with fail
              refine wp_region_ext (by kernel_rfl) (by kernel_rfl) ?_
              repeat (go_big_quiet_step ((fail)))
              refine wpQuiet_nil ?_
              rintro _ ⟨y, rfl⟩
              go_wp2_with fail
              go_roundw
              case rel => exact ⟨k + 1, by omega, by go_num, fun j hj g1 g2 => by rcases Nat.lt_succ_iff_lt_or_eq.1 hj with h1 | rfl; exact HN.out j h1 _ _; simp [sameLog, G1.out, G2.out], y, rfl⟩
              case measure => simp [intOf]; omega
            · rw [decide_eq_false g2] at q2
              have G2 := Lib.hid g2
              clear g1 g2
              go_wp2_with fail
              refine wp_region_ext (by kernel_rfl) (by kernel_rfl) ?_
              repeat (go_big_quiet_step ((fail)))
              refine wpQuiet_nil ?_
              rintro _ ⟨y, rfl⟩
              go_wp2_with fail
              go_ret
              exact ⟨by rw [sameStore, allP_no sameLog _ _ k hlt hkl (by simp [sameLog, G2.out])]; simp, ext_end _ hz⟩
          · rw [decide_eq_false g1] at q1
            have G1 := Lib.hid g1
            clear g1
            go_wp2_with fail
            refine wp_region_ext (by kernel_rfl) (by kernel_rfl) ?_
            repeat (go_big_quiet_step ((fail)))
            refine wpQuiet_nil ?_
            rintro _ ⟨y, rfl⟩
            go_wp2_with fail
            go_ret
            exact ⟨by rw [sameStore, allP_no sameLog _ _ k hlt hkl (by simp [sameLog, G1.out])]; simp, ext_end _ hz⟩
        · obtain rfl : k = q.Slots.length := by omega
          clear h h2 h' h2'
          go_wp2_with fail
          go_ret
          exact ⟨by rw [sameStore, allP_yes sameLog _ _ E2.out (fun j g1 g2 => HN.out j g1 g1 g2)]; simp [E1.out], ext_end _ hz⟩
    · have ee2 : (((q.Slots.length : Nat) : Int) != ((r.Slots.length : Nat) : Int)) = true := by simp; omega
      have E2 := Lib.hid e2
      clear e2 h h2
      go_enter Try.func41, Try.ntmps41
      go_upto_region 1 with fail
      refine rebase ?_
      intro W1 hW _
      have hz : Below w.heap.size w W1 := by rw [hW]; go_grown
      have hb0 := at_of hW (push2_0 _ _ _)
      have c0 := box2 hb0
      have f0 := boxf hb0
      have B0 := Lib.hid hb0
      clear hb0
      have hb1 := at_of hW (push2_1 _ _ _)
      have c1 := box2 hb1
      have f1 := boxf hb1
      have B1 := Lib.hid hb1
      clear hb1
      have HW := Lib.hid hW
      clear hW
      go_wp2_with fail
      go_ret
      exact ⟨by rw [sameStore, allP_len sameLog _ _ E2.out]; simp, ext_end _ hz⟩
  · have ee : (q.Active != r.Active) = true := by simp [e1]
    have E1 := Lib.hid e1
    clear e1 h h2
    go_enter Try.func41, Try.ntmps41
    go_upto_region 1 with fail
    refine rebase ?_
    intro W1 hW _
    have hz : Below w.heap.size w W1 := by rw [hW]; go_grown
    have hb0 := at_of hW (push2_0 _ _ _)
    have c0 := box2 hb0
    have f0 := boxf hb0
    have B0 := Lib.hid hb0
    clear hb0
    have hb1 := at_of hW (push2_1 _ _ _)
    have c1 := box2 hb1
    have f1 := boxf hb1
    have B1 := Lib.hid hb1
    clear hb1
    have HW := Lib.hid hW
    clear hW
    go_wp2_with fail
    go_ret
    exact ⟨by simp [sameStore, E1.out], ext_end _ hz⟩
end Go.Proofs.Ytlfgkhjibhfopaa
