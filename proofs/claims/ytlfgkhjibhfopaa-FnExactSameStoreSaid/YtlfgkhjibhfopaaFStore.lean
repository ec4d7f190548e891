/- ValidStore and SameStore: the program's and the reference's. -/
import Derived.Test.YtlfgkhjibhfopaaBasic
import Derived.Test.YtlfgkhjibhfopaaTyStore
import Derived.Test.YtlfgkhjibhfopaaSlLog
set_option linter.unusedSimpArgs false
set_option linter.unusedVariables false
namespace Go.Proofs.Ytlfgkhjibhfopaa
open Go.RowKit Go.ChangeShapes Go.WideShapes Go.ChangeAt
def bigLog (l : Log) : Bool := decide (100000 < l.Safe.length + l.Loose.length)
def validStore (q : Store) : Bool := decide (q.Slots.length = 2) && (inR q.Active 0 1 && !(q.Slots.any bigLog))
theorem store_len (q : Store) (k : Nat) (hk : k < q.Slots.length) (hn : q.cnt ≤ 1048576) : q.Slots[k].Safe.length ≤ 1048576 ∧ q.Slots[k].Loose.length ≤ 1048576 := by
  have := cntL_mem Log.cnt q.Slots k hk
  have h2 : Log.cnt q.Slots[k] = q.Slots[k].Safe.length + q.Slots[k].Loose.length := rfl
  unfold Store.cnt at hn
  omega

set_option maxRecDepth 10000 in
set_option maxHeartbeats 1000000 in
theorem bigLog_any (v0 v1 : Value) (l : Log) (w : World) (B : Nat) (hB : B ≤ w.heap.size) (h0 : (Ty.slice 5 (Ty.int .u8)).rep w B [v0] l.Safe) (h1 : (Ty.slice 5 (Ty.int .u8)).rep w B [v1] l.Loose) (hs : l.Safe.length ≤ 1048576) (hl : l.Loose.length ≤ 1048576) :
    Calls Try.prog 85 #[.agg #[v0, v1]] w fun e w' => e = .returned (.bool (bigLog l)) ∧ Below w.heap.size w w' := by
  obtain ⟨a0, c0, rfl, _, _⟩ := Ty.form h0
  obtain ⟨a1, c1, rfl, _, _⟩ := Ty.form h1
  go_enter Try.func85, Try.ntmps85
  go_wp2
  go_ret
  exact ⟨by simp [bigLog]; omega, by go_grown⟩
set_option maxRecDepth 10000 in
set_option maxHeartbeats 1000000 in
theorem ValidStore_impl (q_v0 : Value) (q : Store) (w : World) (B : Nat) (hB : B ≤ w.heap.size) (h : (Ty.slice 113 Log.ty).rep w B [q_v0] q.Slots) (_ : InK .i64 q.Active) (hn : q.cnt ≤ 1048576) :
    Calls Try.prog 40 #[.agg #[q_v0, .int .i64 q.Active]] w fun e w' => e = .returned (.bool (validStore q)) ∧ Below w.heap.size w w' := by
  have key : ∀ b1 b2 b3 : Bool, decide (q.Slots.length = 2) = b1 → inR q.Active 0 1 = b2 → q.Slots.any bigLog = b3 → Calls Try.prog 40 #[.agg #[q_v0, .int .i64 q.Active]] w fun e w' => e = .returned (.bool (b1 && (b2 && !b3))) ∧ Below w.heap.size w w' := by
    intro b1 b2 b3 e1 e2 e3
    obtain ⟨a, c, rfl, hc, hm⟩ := Ty.form h
    have ee : (((q.Slots.length : Nat) : Int) == 2) = b1 := by rw [← e1]; by_cases g : q.Slots.length = 2 <;> simp [g]; omega
    have HH := Lib.hid h
    clear h e1
    cases b1 <;> cases b2 <;> cases b3
    all_goals
      go_enter Try.func40, Try.ntmps40
      go_upto_region 1 with fail
      refine rebase ?_
      intro W1 hW _
      have hz : Below w.heap.size w W1 := by rw [hW]; go_grown
      have hb0 := at_of hW (push1_0 _ _)
      have c0 := box2 hb0
      have f0 := boxf hb0
      have B0 := Lib.hid hb0
      clear hb0
      have HW := Lib.hid hW
      clear hW
      have hw := fun z : Ext W1 => within_any q.Active 0 1 (W1.to z)
      rw [e2] at hw
      have hs := fun z : Ext W1 => ContainsFunc_Log _ q.Slots bigLog 85 #[] (W1.to z) B (Nat.le_trans hB (ext_end z hz).size) (Ty.rep_below _ HH.out ((ext_end z hz).mono hB)) (fun _ _ => by kernel_rfl) (fun k hk v0 v1 r0 r1 z2 => bigLog_any v0 v1 q.Slots[k] _ B (Nat.le_trans (Nat.le_trans hB (ext_end z hz).size) z2.below.size) (Ty.rep_to _ (Nat.le_trans hB (ext_end z hz).size) r0 z2) (Ty.rep_to _ (Nat.le_trans hB (ext_end z hz).size) r1 z2) (store_len q k hk hn).1 (store_len q k hk hn).2)
      rw [e3] at hs
      have HW := Lib.hid hw
      have HS := Lib.hid hs
      clear hw hs
      go_wp2_with (first | (go_at_call 83; refine call_ext (HW.out _) ?_; intro y) | (go_at_call 84; refine call_ext (HS.out _) ?_; intro y))
      go_ret
      exact ⟨by simp, ext_end _ hz⟩
  exact key _ _ _ rfl rfl rfl
set_option maxRecDepth 10000 in
set_option maxHeartbeats 1000000 in
theorem l36Ok_any (b : Nat) (q_v0 : Value) (q : Store) (w : World) (B : Nat) (hB : B ≤ w.heap.size) (hb : w.heap[b]? = some (.cells #[q_v0, .int .i64 q.Active] 46 (0, 0))) (h : (Ty.slice 113 Log.ty).rep w B [q_v0] q.Slots) (_ : InK .i64 q.Active) (hn : q.cnt ≤ 1048576) :
    Calls Try.prog 81 #[.pointer (some ⟨b, 0, none⟩)] w fun e w' => e = .returned (.bool (validStore q)) ∧ Below w.heap.size w w' := by
  obtain ⟨a, c, rfl, hc, hm⟩ := Ty.form h
  have c0 := box2 hb
  clear hb
  refine rebaseC ?_
  intro x
  have hw := fun z : Ext w => l00In_any q.Active 0 1 (w.to z)
  by_cases e1 : q.Slots.length = 2
  · have ee : (((q.Slots.length : Nat) : Int) != 2) = false := by simp; omega
    have el1 := Nat.le_of_eq e1
    have el2 := Nat.le_of_eq e1.symm
    have E1 := Lib.hid e1
    clear e1
    cases e2 : inR q.Active 0 1 with
    | true =>
      rw [e2] at hw
      have HW := Lib.hid hw
      have E2 := Lib.hid e2
      clear hw e2
      go_enter Try.func81, Try.ntmps81
      go_wp2_with (go_at_call 102; refine call_ext (HW.out _) ?_; intro y)
      go_loopw [3] (fun i wr => ∃ k : Nat, k ≤ 2 ∧ i = .int .i64 k ∧ (∀ j (hj : j < k) (hj' : j < q.Slots.length), bigLog q.Slots[j] = false) ∧ ∃ z : Ext w, wr = w.to z) (fun i _ => 2 - (intOf i).toNat)
      case atStart => exact ⟨0, Nat.zero_le _, rfl, fun j hj => absurd hj (by omega), y, rfl⟩
      case round =>
        obtain ⟨k, hk, rfl, hno, z, rfl⟩ := hrel
        have HN := Lib.hid hno
        clear hno
        by_cases hlt : k < 2
        · obtain ⟨bb, o, cs, rfl, hbb, gg, ee1⟩ := Ty.elem h hB k (by omega)
          obtain ⟨p0, p1, rfl, r0, r1⟩ := Log.cells ee1
          obtain ⟨l1, l2⟩ := store_len q k (by omega) hn
          obtain ⟨a0, m0, rfl, _, _⟩ := Ty.form r0
          obtain ⟨a1, m1, rfl, _, _⟩ := Ty.form r1
          have d0 : ∀ z : Ext w, (w.to z).cell? ⟨bb, o + k * 2, none⟩ = some _ := gg 0 _ rfl
          have d1 : ∀ z : Ext w, (w.to z).cell? ⟨bb, o + k * 2 + 1, none⟩ = some _ := gg 1 _ rfl
          clear gg
          have hkl : k < q.Slots.length := by omega
          by_cases hbig : 100000 < q.Slots[k].Safe.length + q.Slots[k].Loose.length
          · go_wp2_with fail
            refine wp_region_ext (by kernel_rfl) (by kernel_rfl) ?_
            repeat (go_big_quiet_step ((fail)))
            refine wpQuiet_nil ?_
            rintro _ ⟨y, rfl⟩
            go_wp2_with fail
            go_ret
            refine ⟨?_, y.below⟩
            have : q.Slots.any bigLog = true := List.any_eq_true.2 ⟨q.Slots[k], List.getElem_mem _, by simp [bigLog, hbig]⟩
            simp [validStore, this]
          · go_wp2_with fail
            refine wp_region_ext (by kernel_rfl) (by kernel_rfl) ?_
            repeat (go_big_quiet_step ((fail)))
            refine wpQuiet_nil ?_
            rintro _ ⟨y, rfl⟩
            go_wp2_with fail
            go_roundw
            case rel => exact ⟨k + 1, by omega, by go_num, fun j hj hj' => by rcases Nat.lt_succ_iff_lt_or_eq.1 hj with h1 | rfl; exact HN.out j h1 _; simp [bigLog, hbig], y, rfl⟩
            case measure => simp [intOf]; omega
        · obtain rfl : k = 2 := by omega
          go_wp2_with fail
          go_ret
          refine ⟨?_, z.below⟩
          have : q.Slots.any bigLog = false := by
            rw [List.any_eq_false]
            intro l hl
            obtain ⟨j, hj, rfl⟩ := List.getElem_of_mem hl
            simp [HN.out j (by omega) hj]
          simp [validStore, this, E1.out, E2.out]
    | false =>
      rw [e2] at hw
      have HW := Lib.hid hw
      have E2 := Lib.hid e2
      clear hw e2
      go_enter Try.func81, Try.ntmps81
      go_wp2_with (go_at_call 102; refine call_ext (HW.out _) ?_; intro y)
      go_ret
      exact ⟨by simp [validStore, E2.out], y.below⟩
  · have ee : (((q.Slots.length : Nat) : Int) != 2) = true := by simp; omega
    have E1 := Lib.hid e1
    clear e1 hw
    go_enter Try.func81, Try.ntmps81
    go_wp2_with fail
    go_ret
    exact ⟨by simp [validStore, E1.out], x.below⟩
set_option maxRecDepth 10000 in
set_option maxHeartbeats 1000000 in
theorem ValidStore_spec (q_v0 : Value) (q : Store) (w : World) (B : Nat) (hB : B ≤ w.heap.size) (h : (Ty.slice 113 Log.ty).rep w B [q_v0] q.Slots) (hi : InK .i64 q.Active) (hn : q.cnt ≤ 1048576) :
    Calls Try.prog 38 #[.agg #[q_v0, .int .i64 q.Active]] w fun e w' => e = .returned (.bool (validStore q)) ∧ Below w.heap.size w w' := by
  go_enter Try.func38, Try.ntmps38
  go_upto_region 1 with fail
  refine rebase ?_
  intro W1 hW _
  have hz : Below w.heap.size w W1 := by rw [hW]; go_grown
  have hb0 := at_of hW (push1_0 _ _)
  have c0 := box2 hb0
  have f0 := boxf hb0
  have B0 := Lib.hid hb0
  clear hb0
  have HW := Lib.hid hW
  clear hW
  have HH := Lib.hid h
  have HI := Lib.hid hi
  clear h hi
  go_wp2_with (go_at_call 81; refine call_ext (l36Ok_any _ q_v0 q _ B (Nat.le_trans hB (ext_end _ hz).size) (box_at B0.out _) (Ty.rep_below _ HH.out ((ext_end _ hz).mono hB)) HI.out hn) ?_; intro y)
  go_ret
  exact ⟨rfl, ext_end _ hz⟩
end Go.Proofs.Ytlfgkhjibhfopaa
