/- Made by gmark.py: marks. -/
import Derived.Test.YtbnjjcnbjkibgaaMark
import Derived.Test.YtbnjjcnbjkibgaaMkBase
import Derived.Test.YtbnjjcnbjkibgaaTyStore
import Derived.Test.YtbnjjcnbjkibgaaMkLog
set_option linter.unusedSimpArgs false
set_option linter.unusedVariables false
set_option linter.all false
namespace Go.Proofs.Ytbnjjcnbjkibgaa
open Go.RowKit Go.ChangeShapes Go.WideShapes Go.ChangeAt
def Store.cnE (x : Store) : Nat := cnS Log.cnE x.Slots + 1
def Store.mkE (x : Store) (k : Int) : Store := ⟨mkL Log.mkE Log.cnE x.Slots k, (k + (cnS Log.cnE x.Slots : Nat))⟩
def Store.cnT (x : Store) : Nat := cnS Log.cnE x.Slots
def Store.mkT (x : Store) (k : Int) : Store := ⟨mkL Log.mkE Log.cnE x.Slots k, x.Active⟩
theorem Store.cnE_le (x : Store) : Store.cnE x ≤ 3 * (1 + Store.cnt x) := by
  have h0 := cnS_cntL (g := Log.cnt) (K := 2) Log.cnE_le x.Slots
  have : Store.cnt x = cntL Log.cnt x.Slots := rfl
  have : Store.cnE x = cnS Log.cnE x.Slots + 1 := rfl
  omega
theorem Store.cnT_le (x : Store) : Store.cnT x ≤ 3 * Store.cnt x := by
  have h0 := cnS_cntL (g := Log.cnt) (K := 2) Log.cnE_le x.Slots
  have : Store.cnt x = cntL Log.cnt x.Slots := rfl
  have : Store.cnT x = cnS Log.cnE x.Slots := rfl
  omega
theorem Store.own_cells {w : World} {cs : List Value} {x : Store} {F : List Nat} (h : Store.ty.own w cs x F) : ∃ v0 : Value, ∃ F0 : List Nat, cs = [v0, .int .i64 x.Active] ∧ F = (F0 ++ ([] : List Nat)) ∧ (Ty.slice 150 Log.ty).own w [v0] x.Slots F0 ∧ InK .i64 x.Active := by
  obtain ⟨_, _, _, _, rfl, rfl, h_0, h_1⟩ := h
  obtain ⟨h_0_v, h_0_e⟩ := Ty.slice_one (Ty.own_lt _ h_0)
  subst h_0_e
  obtain ⟨rfl, h_1_i, rfl⟩ := h_1
  exact ⟨h_0_v, _, rfl, rfl, h_0, h_1_i⟩
theorem Store.own_make {w : World} {v0 : Value} {F0 : List Nat} {x : Store} (h0 : (Ty.slice 150 Log.ty).own w [v0] x.Slots F0) (h1 : InK .i64 x.Active) : Store.ty.own w [v0, .int .i64 x.Active] x (F0 ++ ([] : List Nat)) :=
  ⟨_, _, _, _, rfl, rfl, h0, ⟨rfl, h1, rfl⟩⟩
set_option maxRecDepth 10000 in
set_option maxHeartbeats 1000000 in
theorem markStore_any (v0 : Value) (x : Store) (k : Int) (F : List Nat) (w : World) (h : Store.ty.own w [v0, .int .i64 x.Active] x F) (hn : F.Nodup) (hF : ∀ b, b ∈ F → b < w.heap.size) (h0 : 0 ≤ k) (hk : k + (Store.cnT x : Nat) ≤ 4611686018427387904) :
    Calls Try.prog 24 #[.agg #[v0, .int .i64 x.Active], .int .i64 k] w fun e w' => e = .returned (.int .i64 (k + (Store.cnT x : Nat))) ∧ Store.ty.own w' [v0, .int .i64 x.Active] (Store.mkT x k) F ∧ Chg F w w' := by
  obtain ⟨u0, F0, hcs, hFe, o0, q1⟩ := Store.own_cells h
  rw [hFe] at hn hF ⊢
  clear h hFe
  simp only [List.cons.injEq, and_true, true_and] at hcs
  subst hcs
  obtain ⟨a0, c0_, hv0, _, _⟩ := Ty.form (Ty.own_lt _ o0)
  subst hv0
  have hnd := hn
  try simp only [List.nil_append, List.append_nil, List.nodup_append, List.mem_append] at hnd
  have hsb : ∀ b, b ∈ (F0 ++ ([] : List Nat)) → b < w.heap.size := hF
  try simp only [List.nil_append, List.append_nil, List.mem_append] at hsb
  have hcn : Store.cnT x = cnS Log.cnE x.Slots := rfl
  have HND := Lib.hid hnd
  have HSB := Lib.hid hsb
  clear hnd hsb hn hF
  go_enter Try.func24, Try.ntmps24
  go_upto_region 1 with fail
  refine plainbase ?_
  intro w1 hW
  have hz : Below w.heap.size w w1 := by rw [hW]; go_grown
  have HB := Lib.hid (at_of hW (push1_0 _ _))
  have o0_ := (Chg.of_below (F := []) hz).own o0 (by simp) (fun b hb => HSB.out b (by simp_all))
  clear o0
  have o0 := o0_
  clear o0_
  have KC : Chg (F0 ++ ([] : List Nat)) w w1 := Chg.of_below hz
  have hbw : w.heap.size < w1.heap.size := blk_lt HB.out
  clear hW hz
  have c := cel2 HB.out
  go_wp2_with fail
  have hnd := HND.out
  have hsb := HSB.out
  refine (markLogS_any (.slice a0 x.Slots.length c0_) x.Slots k (F0) w1 o0 (by simp_all [List.nodup_append]) (fun b hb => Nat.lt_of_lt_of_le (HSB.out b (by simp_all)) KC.size) (by omega) (by omega)).mono ?_
  rintro e w2 ⟨rfl, oo, hCG⟩
  have HB2 := Lib.hid ((hCG.keep _ hbw (fun hb => absurd (HSB.out _ (by simp_all)) (Nat.lt_irrefl _))).trans HB.out)
  have KC2 := KC.trans (hCG.mono (fun b hb => by simp_all))
  have hbw2 := Nat.lt_of_lt_of_le hbw hCG.size
  clear hnd hsb c HB hCG KC hbw o0
  have KC := KC2
  have HB := HB2
  have hbw := hbw2
  clear KC2 HB2 hbw2
  have o0 := oo
  clear oo
  go_wp2_with fail
  go_ret
  exact ⟨by rw [hcn]; first | rfl | (simp only [Int.natCast_add, Int.add_assoc]; done) | (simp only [Int.natCast_add, Int.add_assoc]; rfl), Store.own_make (x := Store.mkT x k) o0 q1, KC⟩
set_option maxRecDepth 10000 in
set_option maxHeartbeats 1000000 in
theorem heldStore_any (v0 : Value) (x : Store) (k : Int) (w : World) (B : Nat) (hB : B ≤ w.heap.size) (h : Store.ty.rep w B [v0, .int .i64 x.Active] (Store.mkT x k)) (h0 : 0 ≤ k) (hk : k + (Store.cnT x : Nat) ≤ 4611686018427387904) :
    Calls Try.prog 25 #[.agg #[v0, .int .i64 x.Active], .int .i64 k] w fun e w' => e = .returned (.int .i64 (k + (Store.cnT x : Nat))) ∧ Below w.heap.size w w' := by
  have hh := Store.parts (x := Store.mkT x k) h
  obtain ⟨r0, q1⟩ := hh
  obtain ⟨a0, c0_, hv0, _, _⟩ := Ty.form r0
  rw [show (Store.mkT x k).Slots.length = x.Slots.length from mkL_len _ _ _ _] at hv0
  subst hv0
  have R0 := Lib.hid r0
  have hcn : Store.cnT x = cnS Log.cnE x.Slots := rfl
  clear h r0
  go_enter Try.func25, Try.ntmps25
  go_upto_region 1 with fail
  refine rebase ?_
  intro W1 hW _
  have hz : Below w.heap.size w W1 := by rw [hW]; go_grown
  have hb0 := at_of hW (push1_0 _ _)
  have c0 := box2 hb0
  have f0 := boxf hb0
  have B0 := Lib.hid hb0
  clear hb0
  have HW := Lib.hid hW
  clear hW
  have hs0 := fun z : Ext W1 => heldLogS_any (.slice a0 x.Slots.length c0_) x.Slots k (W1.to z) B (Nat.le_trans hB (ext_end z hz).size) (Ty.rep_below _ R0.out ((ext_end z hz).mono hB)) (by omega) (by omega)
  have HS0 := Lib.hid hs0
  clear hs0
  go_wp2_with fail
  refine call_ext (HS0.out _) ?_
  intro y0
  go_wp2_with fail
  go_ret
  exact ⟨by rw [hcn]; first | rfl | (simp only [Int.natCast_add, Int.add_assoc]; done) | (simp only [Int.natCast_add, Int.add_assoc]; rfl), ext_end _ hz⟩

end Go.Proofs.Ytbnjjcnbjkibgaa
