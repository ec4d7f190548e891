/- SameDesign: the program's and the reference's. -/
import Derived.Test.YtlfgkhjibhfopaaL00Same
import Derived.Test.YtlfgkhjibhfopaaSlBase
import Derived.Test.YtlfgkhjibhfopaaSlPiece
import Derived.Test.YtlfgkhjibhfopaaTyDesign
set_option linter.unusedSimpArgs false
set_option linter.unusedVariables false
namespace Go.Proofs.Ytlfgkhjibhfopaa
open Go.RowKit Go.ChangeShapes Go.WideShapes Go.ChangeAt
def sameDesign (x y : Design) : Bool := decide (x.Bottom = y.Bottom) && (decide (x.Left = y.Left) && decide (x.Pieces = y.Pieces))
set_option maxRecDepth 10000 in
set_option maxHeartbeats 2000000 in
theorem SameDesign_impl (v0 v1 v2 : Value) (q : Design) (u0 u1 u2 : Value) (r : Design) (w : World) (B : Nat) (hB : B ≤ w.heap.size)
    (h0 : (Ty.slice 2 (Ty.int .i64)).rep w B [v0] q.Bottom) (h1 : (Ty.slice 2 (Ty.int .i64)).rep w B [v1] q.Left) (h2 : (Ty.slice 128 Piece.ty).rep w B [v2] q.Pieces) (hn : q.cnt ≤ 1048576)
    (g0 : (Ty.slice 2 (Ty.int .i64)).rep w B [u0] r.Bottom) (g1 : (Ty.slice 2 (Ty.int .i64)).rep w B [u1] r.Left) (g2 : (Ty.slice 128 Piece.ty).rep w B [u2] r.Pieces) (hn2 : r.cnt ≤ 1048576) :
    Calls Try.prog 53 #[.agg #[v0, v1, v2], .agg #[u0, u1, u2]] w fun e w' => e = .returned (.bool (sameDesign q r)) ∧ Below w.heap.size w w' := by
  have key : ∀ b1 b2 b3 : Bool, decide (q.Bottom = r.Bottom) = b1 → decide (q.Left = r.Left) = b2 → decide (q.Pieces = r.Pieces) = b3 → Calls Try.prog 53 #[.agg #[v0, v1, v2], .agg #[u0, u1, u2]] w fun e w' => e = .returned (.bool (b1 && (b2 && b3))) ∧ Below w.heap.size w w' := by
    intro b1 b2 b3 e1 e2 e3
    obtain ⟨a0, c0, rfl, _, _⟩ := Ty.form h0
    obtain ⟨a1, c1, rfl, _, _⟩ := Ty.form h1
    obtain ⟨a2, c2, rfl, _, _⟩ := Ty.form h2
    obtain ⟨a3, c3, rfl, _, _⟩ := Ty.form g0
    obtain ⟨a4, c4, rfl, _, _⟩ := Ty.form g1
    obtain ⟨a5, c5, rfl, _, _⟩ := Ty.form g2
    have H0 := Lib.hid h0
    have H1 := Lib.hid h1
    have H2 := Lib.hid h2
    have G0 := Lib.hid g0
    have G1 := Lib.hid g1
    have G2 := Lib.hid g2
    clear h0 h1 h2 g0 g1 g2
    cases b1 <;> cases b2 <;> cases b3
    all_goals
      go_enter Try.func53, Try.ntmps53
      go_upto_region 1 with fail
      refine rebase ?_
      intro W1 hW _
      have hz : Below w.heap.size w W1 := by rw [hW]; go_grown
      have hb0 := at_of hW (push2_0 _ _ _)
      have c0 := box3 hb0
      have f0 := boxf hb0
      have B0 := Lib.hid hb0
      clear hb0
      have hb1 := at_of hW (push2_1 _ _ _)
      have c1 := box3 hb1
      have f1 := boxf hb1
      have B1 := Lib.hid hb1
      clear hb1
      have HW := Lib.hid hW
      clear hW
      have hBW := fun z : Ext W1 => Nat.le_trans hB (ext_end z hz).size
      have hs := fun z : Ext W1 => Equal_Int64 _ _ q.Bottom r.Bottom (W1.to z) B (hBW z) (Ty.rep_below _ H0.out ((ext_end z hz).mono hB)) (Ty.rep_below _ G0.out ((ext_end z hz).mono hB))
      have ht := fun z : Ext W1 => Equal_Int64 _ _ q.Left r.Left (W1.to z) B (hBW z) (Ty.rep_below _ H1.out ((ext_end z hz).mono hB)) (Ty.rep_below _ G1.out ((ext_end z hz).mono hB))
      have hu := fun z : Ext W1 => Equal_Piece _ _ q.Pieces r.Pieces (W1.to z) B (hBW z) (Ty.rep_below _ H2.out ((ext_end z hz).mono hB)) (Ty.rep_below _ G2.out ((ext_end z hz).mono hB))
      rw [e1] at hs
      rw [e2] at ht
      rw [e3] at hu
      have HS := Lib.hid hs
      have HT := Lib.hid ht
      have HU := Lib.hid hu
      clear hs ht hu hBW
      go_wp2_with (first | (with_reducible refine call_ext (HS.out _) ?_; intro y) | (with_reducible refine call_ext (HT.out _) ?_; intro y2) | (with_reducible refine call_ext (HU.out _) ?_; intro y3))
      go_ret
      exact ⟨by simp, ext_end _ hz⟩
  exact key _ _ _ rfl rfl rfl
set_option maxRecDepth 10000 in
set_option maxHeartbeats 2000000 in
theorem l33Same_any (b b2 : Nat) (v0 v1 v2 : Value) (q : Design) (u0 u1 u2 : Value) (r : Design) (w : World) (B : Nat) (hB : B ≤ w.heap.size) (hb : w.heap[b]? = some (.cells #[v0, v1, v2] 81 (0, 0))) (hb2 : w.heap[b2]? = some (.cells #[u0, u1, u2] 81 (0, 0)))
    (h0 : (Ty.slice 2 (Ty.int .i64)).rep w B [v0] q.Bottom) (h1 : (Ty.slice 2 (Ty.int .i64)).rep w B [v1] q.Left) (h2 : (Ty.slice 128 Piece.ty).rep w B [v2] q.Pieces)
    (g0 : (Ty.slice 2 (Ty.int .i64)).rep w B [u0] r.Bottom) (g1 : (Ty.slice 2 (Ty.int .i64)).rep w B [u1] r.Left) (g2 : (Ty.slice 128 Piece.ty).rep w B [u2] r.Pieces) :
    Calls Try.prog 94 #[.pointer (some ⟨b, 0, none⟩), .pointer (some ⟨b2, 0, none⟩)] w fun e w' => e = .returned (.bool (sameDesign q r)) ∧ Below w.heap.size w w' := by
  obtain ⟨a0, c0, rfl, _, _⟩ := Ty.form h0
  obtain ⟨a1, c1, rfl, _, _⟩ := Ty.form h1
  obtain ⟨a2, c2, rfl, _, hm2⟩ := Ty.form h2
  obtain ⟨a3, c3, rfl, _, _⟩ := Ty.form g0
  obtain ⟨a4, c4, rfl, _, _⟩ := Ty.form g1
  obtain ⟨a5, c5, rfl, _, hm5⟩ := Ty.form g2
  have hn1 : q.Pieces.length ≤ 9223372036854775807 := by unfold maxLen at hm2; omega
  have hn2 : r.Pieces.length ≤ 9223372036854775807 := by unfold maxLen at hm5; omega
  clear hm2 hm5
  have k1 := box3 hb
  have k2 := box3 hb2
  clear hb hb2
  refine rebaseC ?_
  intro x
  have hs := fun z : Ext w => l00Same_any _ _ q.Bottom r.Bottom (w.to z) B (Nat.le_trans hB (to_size z)) (Ty.rep_to _ hB h0 z) (Ty.rep_to _ hB g0 z)
  have ht := fun z : Ext w => l00Same_any _ _ q.Left r.Left (w.to z) B (Nat.le_trans hB (to_size z)) (Ty.rep_to _ hB h1 z) (Ty.rep_to _ hB g1 z)
  have H2 := Lib.hid h2
  have G2 := Lib.hid g2
  clear h0 h1 g0 g1 h2 g2
  by_cases e1 : q.Bottom = r.Bottom
  · rw [decide_eq_true e1] at hs
    have E1 := Lib.hid e1
    have HS := Lib.hid hs
    clear e1 hs
    by_cases e2 : q.Left = r.Left
    · rw [decide_eq_true e2] at ht
      have E2 := Lib.hid e2
      have HT := Lib.hid ht
      clear e2 ht
      by_cases e3 : q.Pieces.length = r.Pieces.length
      · have ee : (((q.Pieces.length : Nat) : Int) != ((r.Pieces.length : Nat) : Int)) = false := by simp; omega
        have el1 := Nat.le_of_eq e3
        have el2 := Nat.le_of_eq e3.symm
        have E3 := Lib.hid e3
        clear e3
        go_enter Try.func94, Try.ntmps94
        go_wp2_with fail
        refine wp_region_ext (by kernel_rfl) (by kernel_rfl) ?_
        repeat (go_big_quiet_step ((go_at_call 115; first | (with_reducible exact ext_call (HS.out _)) | (with_reducible exact ext_call (HT.out _)))))
        refine wpQuiet_nil ?_
        rintro _ ⟨y, rfl⟩
        go_wp2_with fail
        go_loopw [5] (fun i wr => ∃ k : Nat, k ≤ q.Pieces.length ∧ i = .int .i64 k ∧ (∀ j (hj : j < k) (g1 : j < q.Pieces.length) (g2 : j < r.Pieces.length), q.Pieces[j] = r.Pieces[j]) ∧ ∃ z : Ext w, wr = w.to z) (fun i _ => q.Pieces.length - (intOf i).toNat)
        case atStart => exact ⟨0, Nat.zero_le _, rfl, fun j hj => absurd hj (by omega), y, rfl⟩
        case round =>
          obtain ⟨k, hk, rfl, hno, z, rfl⟩ := hrel
          have HN := Lib.hid hno
          clear hno
          by_cases hlt : k < q.Pieces.length
          · have hlt2 : k < r.Pieces.length := by omega
            obtain ⟨h1_b, h1_o, h1_cs, rfl, h1_hb, h1_gg, h1_ee⟩ := Ty.elem H2.out hB k hlt
            obtain ⟨rfl, h1_r0, h1_r1, h1_r2, h1_r3, h1_r4⟩ := Piece.cells h1_ee
            have h1_d0 : ∀ z : Ext w, (w.to z).cell? ⟨h1_b, h1_o + k * 5, none⟩ = some _ := h1_gg 0 _ rfl
            have h1_d1 : ∀ z : Ext w, (w.to z).cell? ⟨h1_b, h1_o + k * 5 + 1, none⟩ = some _ := h1_gg 1 _ rfl
            have h1_d2 : ∀ z : Ext w, (w.to z).cell? ⟨h1_b, h1_o + k * 5 + 2, none⟩ = some _ := h1_gg 2 _ rfl
            have h1_d3 : ∀ z : Ext w, (w.to z).cell? ⟨h1_b, h1_o + k * 5 + 3, none⟩ = some _ := h1_gg 3 _ rfl
            have h1_d4 : ∀ z : Ext w, (w.to z).cell? ⟨h1_b, h1_o + k * 5 + 4, none⟩ = some _ := h1_gg 4 _ rfl
            clear h1_gg
            obtain ⟨h2_b, h2_o, h2_cs, rfl, h2_hb, h2_gg, h2_ee⟩ := Ty.elem G2.out hB k hlt2
            obtain ⟨rfl, h2_r0, h2_r1, h2_r2, h2_r3, h2_r4⟩ := Piece.cells h2_ee
            have h2_d0 : ∀ z : Ext w, (w.to z).cell? ⟨h2_b, h2_o + k * 5, none⟩ = some _ := h2_gg 0 _ rfl
            have h2_d1 : ∀ z : Ext w, (w.to z).cell? ⟨h2_b, h2_o + k * 5 + 1, none⟩ = some _ := h2_gg 1 _ rfl
            have h2_d2 : ∀ z : Ext w, (w.to z).cell? ⟨h2_b, h2_o + k * 5 + 2, none⟩ = some _ := h2_gg 2 _ rfl
            have h2_d3 : ∀ z : Ext w, (w.to z).cell? ⟨h2_b, h2_o + k * 5 + 3, none⟩ = some _ := h2_gg 3 _ rfl
            have h2_d4 : ∀ z : Ext w, (w.to z).cell? ⟨h2_b, h2_o + k * 5 + 4, none⟩ = some _ := h2_gg 4 _ rfl
            clear h2_gg
            have heq := fun W => neq_Piece q.Pieces[k] r.Pieces[k] W
            by_cases hp : q.Pieces[k] = r.Pieces[k]
            · rw [decide_eq_true hp] at heq
              simp only [Bool.not_true] at heq
              have HP := Lib.hid hp
              clear hp
              go_wp2_with fail
              refine wp_region_ext (by kernel_rfl) (by kernel_rfl) ?_
              repeat (go_big_quiet_step ((fail)))
              refine wpQuiet_nil ?_
              rintro _ ⟨y, rfl⟩
              go_wp2_with fail
              go_roundw
              case rel => exact ⟨k + 1, by omega, by go_num, fun j hj g1 g2 => by rcases Nat.lt_succ_iff_lt_or_eq.1 hj with h1 | rfl; exact HN.out j h1 _ _; exact HP.out, y, rfl⟩
              case measure => simp [intOf]; omega
            · rw [decide_eq_false hp] at heq
              simp only [Bool.not_false] at heq
              have HP := Lib.hid hp
              clear hp
              go_wp2_with fail
              refine wp_region_ext (by kernel_rfl) (by kernel_rfl) ?_
              repeat (go_big_quiet_step ((fail)))
              refine wpQuiet_nil ?_
              rintro _ ⟨y, rfl⟩
              go_wp2_with fail
              go_ret
              exact ⟨by unfold sameDesign; rw [← allP_eq, ← allP_eq, ← allP_eq, allP_no (fun (x y : Piece) => decide (x = y)) _ _ k hlt hlt2 (by simp [HP.out])]; simp, y.below⟩
          · obtain rfl : k = q.Pieces.length := by omega
            go_wp2_with fail
            go_ret
            refine ⟨?_, z.below⟩
            have : q.Pieces = r.Pieces := List.ext_getElem E3.out (fun j g1 g2 => HN.out j g1 g1 g2)
            simp [sameDesign, E1.out, E2.out, this]
      · have ee : (((q.Pieces.length : Nat) : Int) != ((r.Pieces.length : Nat) : Int)) = true := by simp; omega
        have E3 := Lib.hid e3
        clear e3
        go_enter Try.func94, Try.ntmps94
        go_wp2_with fail
        refine wp_region_ext (by kernel_rfl) (by kernel_rfl) ?_
        repeat (go_big_quiet_step ((go_at_call 115; first | (with_reducible exact ext_call (HS.out _)) | (with_reducible exact ext_call (HT.out _)))))
        refine wpQuiet_nil ?_
        rintro _ ⟨y, rfl⟩
        go_wp2_with fail
        go_ret
        refine ⟨?_, y.below⟩
        have : q.Pieces ≠ r.Pieces := fun h => E3.out (by rw [h])
        simp [sameDesign, this]
    · rw [decide_eq_false e2] at ht
      have E2 := Lib.hid e2
      have HT := Lib.hid ht
      clear e2 ht
      go_enter Try.func94, Try.ntmps94
      go_wp2_with fail
      refine wp_region_ext (by kernel_rfl) (by kernel_rfl) ?_
      repeat (go_big_quiet_step ((go_at_call 115; first | (with_reducible exact ext_call (HS.out _)) | (with_reducible exact ext_call (HT.out _)))))
      refine wpQuiet_nil ?_
      rintro _ ⟨y, rfl⟩
      go_wp2_with fail
      go_ret
      exact ⟨by simp [sameDesign, E2.out], y.below⟩
  · rw [decide_eq_false e1] at hs
    have E1 := Lib.hid e1
    have HS := Lib.hid hs
    clear e1 hs
    go_enter Try.func94, Try.ntmps94
    go_wp2_with fail
    refine wp_region_ext (by kernel_rfl) (by kernel_rfl) ?_
    repeat (go_big_quiet_step ((go_at_call 115; first | (with_reducible exact ext_call (HS.out _)))))
    refine wpQuiet_nil ?_
    rintro _ ⟨y, rfl⟩
    go_wp2_with fail
    go_ret
    exact ⟨by simp [sameDesign, E1.out], y.below⟩
set_option maxRecDepth 10000 in
set_option maxHeartbeats 1000000 in
theorem SameDesign_spec (v0 v1 v2 : Value) (q : Design) (u0 u1 u2 : Value) (r : Design) (w : World) (B : Nat) (hB : B ≤ w.heap.size)
    (h0 : (Ty.slice 2 (Ty.int .i64)).rep w B [v0] q.Bottom) (h1 : (Ty.slice 2 (Ty.int .i64)).rep w B [v1] q.Left) (h2 : (Ty.slice 128 Piece.ty).rep w B [v2] q.Pieces) (hn : q.cnt ≤ 1048576)
    (g0 : (Ty.slice 2 (Ty.int .i64)).rep w B [u0] r.Bottom) (g1 : (Ty.slice 2 (Ty.int .i64)).rep w B [u1] r.Left) (g2 : (Ty.slice 128 Piece.ty).rep w B [u2] r.Pieces) (hn2 : r.cnt ≤ 1048576) :
    Calls Try.prog 51 #[.agg #[v0, v1, v2], .agg #[u0, u1, u2]] w fun e w' => e = .returned (.bool (sameDesign q r)) ∧ Below w.heap.size w w' := by
  have H0 := Lib.hid h0
  have H1 := Lib.hid h1
  have H2 := Lib.hid h2
  have G0 := Lib.hid g0
  have G1 := Lib.hid g1
  have G2 := Lib.hid g2
  clear h0 h1 h2 g0 g1 g2
  go_enter Try.func51, Try.ntmps51
  go_upto_region 1 with fail
  refine rebase ?_
  intro W1 hW _
  have hz : Below w.heap.size w W1 := by rw [hW]; go_grown
  have hb0 := at_of hW (push2_0 _ _ _)
  have c0 := box3 hb0
  have f0 := boxf hb0
  have B0 := Lib.hid hb0
  clear hb0
  have hb1 := at_of hW (push2_1 _ _ _)
  have c1 := box3 hb1
  have f1 := boxf hb1
  have B1 := Lib.hid hb1
  clear hb1
  have HW := Lib.hid hW
  clear hW
  go_wp2_with (go_at_call 94; refine call_ext (l33Same_any _ _ _ _ _ q _ _ _ r _ B (Nat.le_trans hB (ext_end _ hz).size) (box_at B0.out _) (box_at B1.out _) (Ty.rep_below _ H0.out ((ext_end _ hz).mono hB)) (Ty.rep_below _ H1.out ((ext_end _ hz).mono hB)) (Ty.rep_below _ H2.out ((ext_end _ hz).mono hB)) (Ty.rep_below _ G0.out ((ext_end _ hz).mono hB)) (Ty.rep_below _ G1.out ((ext_end _ hz).mono hB)) (Ty.rep_below _ G2.out ((ext_end _ hz).mono hB))) ?_; intro y)
  go_ret
  exact ⟨rfl, ext_end _ hz⟩
end Go.Proofs.Ytlfgkhjibhfopaa
