/- Made by gmark.py: marks. -/
import Derived.Test.YtlfgkhjibhfopaaMark
import Derived.Test.YtlfgkhjibhfopaaMkBase
import Derived.Test.YtlfgkhjibhfopaaTyPattern
set_option linter.unusedSimpArgs false
set_option linter.unusedVariables false
set_option linter.all false
namespace Go.Proofs.Ytlfgkhjibhfopaa
open Go.RowKit Go.ChangeShapes Go.WideShapes Go.ChangeAt
def Pattern.cnE (x : Pattern) : Nat := 1 + 1 + cnS (fun _ => 1) x.Cells
def Pattern.mkE (x : Pattern) (k : Int) : Pattern := ⟨k, (k + 1), mkL (fun _ n => n) (fun _ => 1) x.Cells ((k + 1) + 1)⟩
def Pattern.cnT (x : Pattern) : Nat := cnS (fun _ => 1) x.Cells
def Pattern.mkT (x : Pattern) (k : Int) : Pattern := ⟨x.Width, x.Height, mkL (fun _ n => n) (fun _ => 1) x.Cells k⟩
theorem Pattern.cnE_le (x : Pattern) : Pattern.cnE x ≤ 3 * (1 + Pattern.cnt x) := by
  have h0 := cnS_len (K := 1) (fun _ => Nat.le_refl 1) x.Cells
  have : Pattern.cnt x = x.Cells.length := rfl
  have : Pattern.cnE x = 1 + 1 + cnS (fun _ => 1) x.Cells := rfl
  omega
theorem Pattern.cnT_le (x : Pattern) : Pattern.cnT x ≤ 3 * Pattern.cnt x := by
  have h0 := cnS_len (K := 1) (fun _ => Nat.le_refl 1) x.Cells
  have : Pattern.cnt x = x.Cells.length := rfl
  have : Pattern.cnT x = cnS (fun _ => 1) x.Cells := rfl
  omega
theorem Pattern.own_cells {w : World} {cs : List Value} {x : Pattern} {F : List Nat} (h : Pattern.ty.own w cs x F) : ∃ v0 : Value, ∃ F0 : List Nat, cs = [.int .i64 x.Width, .int .i64 x.Height, v0] ∧ F = (([] : List Nat) ++ (([] : List Nat) ++ F0)) ∧ InK .i64 x.Width ∧ InK .i64 x.Height ∧ (Ty.slice 2 (Ty.int .i64)).own w [v0] x.Cells F0 := by
  obtain ⟨_, _, _, _, rfl, rfl, h_0, _, _, _, _, rfl, rfl, h_1, h_2⟩ := h
  obtain ⟨rfl, h_0_i, rfl⟩ := h_0
  obtain ⟨rfl, h_1_i, rfl⟩ := h_1
  obtain ⟨h_2_v, h_2_e⟩ := Ty.slice_one (Ty.own_lt _ h_2)
  subst h_2_e
  exact ⟨h_2_v, _, rfl, rfl, h_0_i, h_1_i, h_2⟩
theorem Pattern.own_make {w : World} {v0 : Value} {F0 : List Nat} {x : Pattern} (h0 : InK .i64 x.Width) (h1 : InK .i64 x.Height) (h2 : (Ty.slice 2 (Ty.int .i64)).own w [v0] x.Cells F0) : Pattern.ty.own w [.int .i64 x.Width, .int .i64 x.Height, v0] x (([] : List Nat) ++ (([] : List Nat) ++ F0)) :=
  ⟨_, _, _, _, rfl, rfl, ⟨rfl, h0, rfl⟩, ⟨_, _, _, _, rfl, rfl, ⟨rfl, h1, rfl⟩, h2⟩⟩
set_option maxRecDepth 10000 in
set_option maxHeartbeats 1000000 in
theorem markPattern_any (v0 : Value) (x : Pattern) (k : Int) (F : List Nat) (w : World) (h : Pattern.ty.own w [.int .i64 x.Width, .int .i64 x.Height, v0] x F) (hn : F.Nodup) (hF : ∀ b, b ∈ F → b < w.heap.size) (h0 : 0 ≤ k) (hk : k + (Pattern.cnT x : Nat) ≤ 4611686018427387904) :
    Calls Try.prog 48 #[.agg #[.int .i64 x.Width, .int .i64 x.Height, v0], .int .i64 k] w fun e w' => e = .returned (.int .i64 (k + (Pattern.cnT x : Nat))) ∧ Pattern.ty.own w' [.int .i64 x.Width, .int .i64 x.Height, v0] (Pattern.mkT x k) F ∧ Chg F w w' := by
  obtain ⟨u0, F0, hcs, hFe, q0, q1, o0⟩ := Pattern.own_cells h
  rw [hFe] at hn hF ⊢
  clear h hFe
  simp only [List.cons.injEq, and_true, true_and] at hcs
  subst hcs
  obtain ⟨a0, c0_, hv0, _, _⟩ := Ty.form (Ty.own_lt _ o0)
  subst hv0
  have hnd := hn
  try simp only [List.nil_append, List.append_nil, List.nodup_append, List.mem_append] at hnd
  have hsb : ∀ b, b ∈ (([] : List Nat) ++ (([] : List Nat) ++ F0)) → b < w.heap.size := hF
  try simp only [List.nil_append, List.append_nil, List.mem_append] at hsb
  have hcn : Pattern.cnT x = cnS (fun _ => 1) x.Cells := rfl
  have HND := Lib.hid hnd
  have HSB := Lib.hid hsb
  clear hnd hsb hn hF
  go_enter Try.func48, Try.ntmps48
  go_upto_region 1 with fail
  refine plainbase ?_
  intro w1 hW
  have hz : Below w.heap.size w w1 := by rw [hW]; go_grown
  have HB := Lib.hid (at_of hW (push1_0 _ _))
  have o0_ := (Chg.of_below (F := []) hz).own o0 (by simp) (fun b hb => HSB.out b (by simp_all))
  clear o0
  have o0 := o0_
  clear o0_
  have KC : Chg (([] : List Nat) ++ (([] : List Nat) ++ F0)) w w1 := Chg.of_below hz
  have hbw : w.heap.size < w1.heap.size := blk_lt HB.out
  clear hW hz
  have c := cel3 HB.out
  go_wp2_with fail
  have hnd := HND.out
  have hsb := HSB.out
  refine (markInt64S_any (.slice a0 x.Cells.length c0_) x.Cells k (F0) w1 o0 (by simp_all [List.nodup_append]) (fun b hb => Nat.lt_of_lt_of_le (HSB.out b (by simp_all)) KC.size) (by omega) (by omega)).mono ?_
  rintro e w2 ⟨rfl, oo, hCG⟩
  have HB2 := Lib.hid ((hCG.keep _ hbw (fun hb => absurd (HSB.out _ (by simp_all)) (Nat.lt_irrefl _))).trans HB.out)
  have KC2 := KC.trans (hCG.mono (fun b hb => by simp_all))
  have hbw2 := Nat.lt_of_lt_of_le hbw hCG.size
  clear hnd hsb c HB hCG KC hbw o0
  have KC := KC2
  have HB := HB2
  have hbw := hbw2
  clear KC2 HB2 hbw2
  have o0 := oo
  clear oo
  go_wp2_with fail
  go_ret
  exact ⟨by rw [hcn]; first | rfl | (simp only [Int.natCast_add, Int.add_assoc]; done) | (simp only [Int.natCast_add, Int.add_assoc]; rfl), Pattern.own_make (x := Pattern.mkT x k) q0 q1 o0, KC⟩
set_option maxRecDepth 10000 in
set_option maxHeartbeats 1000000 in
theorem heldPattern_any (v0 : Value) (x : Pattern) (k : Int) (w : World) (B : Nat) (hB : B ≤ w.heap.size) (h : Pattern.ty.rep w B [.int .i64 x.Width, .int .i64 x.Height, v0] (Pattern.mkT x k)) (h0 : 0 ≤ k) (hk : k + (Pattern.cnT x : Nat) ≤ 4611686018427387904) :
    Calls Try.prog 49 #[.agg #[.int .i64 x.Width, .int .i64 x.Height, v0], .int .i64 k] w fun e w' => e = .returned (.int .i64 (k + (Pattern.cnT x : Nat))) ∧ Below w.heap.size w w' := by
  have hh := Pattern.parts (x := Pattern.mkT x k) h
  obtain ⟨q0, q1, r0⟩ := hh
  obtain ⟨a0, c0_, hv0, _, _⟩ := Ty.form r0
  rw [show (Pattern.mkT x k).Cells.length = x.Cells.length from mkL_len _ _ _ _] at hv0
  subst hv0
  have R0 := Lib.hid r0
  have hcn : Pattern.cnT x = cnS (fun _ => 1) x.Cells := rfl
  clear h r0
  go_enter Try.func49, Try.ntmps49
  go_upto_region 1 with fail
  refine rebase ?_
  intro W1 hW _
  have hz : Below w.heap.size w W1 := by rw [hW]; go_grown
  have hb0 := at_of hW (push1_0 _ _)
  have c0 := box3 hb0
  have f0 := boxf hb0
  have B0 := Lib.hid hb0
  clear hb0
  have HW := Lib.hid hW
  clear hW
  have hs0 := fun z : Ext W1 => heldInt64S_any (.slice a0 x.Cells.length c0_) x.Cells k (W1.to z) B (Nat.le_trans hB (ext_end z hz).size) (Ty.rep_below _ R0.out ((ext_end z hz).mono hB)) (by omega) (by omega)
  have HS0 := Lib.hid hs0
  clear hs0
  go_wp2_with fail
  refine call_ext (HS0.out _) ?_
  intro y0
  go_wp2_with fail
  go_ret
  exact ⟨by rw [hcn]; first | rfl | (simp only [Int.natCast_add, Int.add_assoc]; done) | (simp only [Int.natCast_add, Int.add_assoc]; rfl), ext_end _ hz⟩

end Go.Proofs.Ytlfgkhjibhfopaa
