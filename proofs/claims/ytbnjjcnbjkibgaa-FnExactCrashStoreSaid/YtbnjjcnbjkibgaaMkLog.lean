/- Made by gmark.py: marks. -/
import Derived.Test.YtbnjjcnbjkibgaaMark
import Derived.Test.YtbnjjcnbjkibgaaMkBase
import Derived.Test.YtbnjjcnbjkibgaaTyLog
set_option linter.unusedSimpArgs false
set_option linter.unusedVariables false
set_option linter.all false
namespace Go.Proofs.Ytbnjjcnbjkibgaa
open Go.RowKit Go.ChangeShapes Go.WideShapes Go.ChangeAt
def Log.cnE (x : Log) : Nat := cnS (fun _ => 1) x.Safe + cnS (fun _ => 1) x.Loose
def Log.mkE (x : Log) (k : Int) : Log := ⟨mkL (fun _ n => n % 256) (fun _ => 1) x.Safe k, mkL (fun _ n => n % 256) (fun _ => 1) x.Loose (k + (cnS (fun _ => 1) x.Safe : Nat))⟩
def Log.cnT (x : Log) : Nat := cnS (fun _ => 1) x.Safe + cnS (fun _ => 1) x.Loose
def Log.mkT (x : Log) (k : Int) : Log := ⟨mkL (fun _ n => n % 256) (fun _ => 1) x.Safe k, mkL (fun _ n => n % 256) (fun _ => 1) x.Loose (k + (cnS (fun _ => 1) x.Safe : Nat))⟩
theorem Log.cnE_le (x : Log) : Log.cnE x ≤ 2 * (1 + Log.cnt x) := by
  have h0 := cnS_len (K := 1) (fun _ => Nat.le_refl 1) x.Safe
  have h1 := cnS_len (K := 1) (fun _ => Nat.le_refl 1) x.Loose
  have : Log.cnt x = x.Safe.length + x.Loose.length := rfl
  have : Log.cnE x = cnS (fun _ => 1) x.Safe + cnS (fun _ => 1) x.Loose := rfl
  omega
theorem Log.cnT_le (x : Log) : Log.cnT x ≤ 2 * Log.cnt x := by
  have h0 := cnS_len (K := 1) (fun _ => Nat.le_refl 1) x.Safe
  have h1 := cnS_len (K := 1) (fun _ => Nat.le_refl 1) x.Loose
  have : Log.cnt x = x.Safe.length + x.Loose.length := rfl
  have : Log.cnT x = cnS (fun _ => 1) x.Safe + cnS (fun _ => 1) x.Loose := rfl
  omega
theorem Log.own_cells {w : World} {cs : List Value} {x : Log} {F : List Nat} (h : Log.ty.own w cs x F) : ∃ v0 v1 : Value, ∃ F0 F1 : List Nat, cs = [v0, v1] ∧ F = (F0 ++ F1) ∧ (Ty.slice 5 (Ty.int .u8)).own w [v0] x.Safe F0 ∧ (Ty.slice 5 (Ty.int .u8)).own w [v1] x.Loose F1 := by
  obtain ⟨_, _, _, _, rfl, rfl, h_0, h_1⟩ := h
  obtain ⟨h_0_v, h_0_e⟩ := Ty.slice_one (Ty.own_lt _ h_0)
  subst h_0_e
  obtain ⟨h_1_v, h_1_e⟩ := Ty.slice_one (Ty.own_lt _ h_1)
  subst h_1_e
  exact ⟨h_0_v, h_1_v, _, _, rfl, rfl, h_0, h_1⟩
theorem Log.own_make {w : World} {v0 v1 : Value} {F0 F1 : List Nat} {x : Log} (h0 : (Ty.slice 5 (Ty.int .u8)).own w [v0] x.Safe F0) (h1 : (Ty.slice 5 (Ty.int .u8)).own w [v1] x.Loose F1) : Log.ty.own w [v0, v1] x (F0 ++ F1) :=
  ⟨_, _, _, _, rfl, rfl, h0, h1⟩
set_option maxRecDepth 10000 in
set_option maxHeartbeats 1000000 in
theorem markLogS_any (v : Value) (xs : List Log) (k : Int) (F : List Nat) (w : World) (h : (Ty.slice 150 Log.ty).own w [v] xs F) (hn : F.Nodup) (hF : ∀ b, b ∈ F → b < w.heap.size) (h0 : 0 ≤ k) (hk : k + (cnS Log.cnE xs : Nat) ≤ 4611686018427387904) :
    Calls Try.prog 92 #[v, .int .i64 k] w fun e w' => e = .returned (.int .i64 (k + (cnS Log.cnE xs : Nat))) ∧ (Ty.slice 150 Log.ty).own w' [v] (mkL Log.mkE Log.cnE xs k) F ∧ Chg F w w' := by
  obtain ⟨a, c, rfl, _, hm⟩ := Ty.form (Ty.own_lt _ h)
  have hlen : xs.length ≤ 9223372036854775807 := by unfold maxLen at hm; omega
  clear hm
  have HO := Lib.hid h
  have HN := Lib.hid hn
  have HF := Lib.hid hF
  clear h hn hF
  go_enter Try.func92, Try.ntmps92
  go_wp2
  go_loopw [1, 5] (fun n i wr => ∃ j : Nat, j ≤ xs.length ∧ i = .int .i64 j ∧ n = .int .i64 (k + (sumT Log.cnE xs j : Nat)) ∧ (Ty.slice 150 Log.ty).own wr [.slice a xs.length c] (mkAt Log.mkE Log.cnE xs k j) F ∧ Chg F w wr) (fun _ i _ => xs.length - (intOf i).toNat)
  case atStart => exact ⟨0, Nat.zero_le _, rfl, by simp [sumT_zero], by rw [mkAt_zero]; exact HO.out, Chg.refl _ _⟩
  case round =>
    obtain ⟨j, hj, rfl, rfl, ho, hc⟩ := hrel
    by_cases hlt : j < xs.length
    · obtain ⟨g, o, cs, Fk, arr0, rfl, -, hg, hgk, hnk, hsub, hx, hH, hput⟩ := own_elem ho HN.out j (by rw [mkAt_len]; exact hlt)
      rw [mkAt_get _ _ _ _ _ hlt] at hx
      have hb1 := sumT_cn_lt Log.cnE xs j hlt
      have hb2 := sumT_succ Log.cnE xs j hlt
      have hFw : ∀ b, b ∈ F → b < wr.heap.size := fun b hb => Nat.lt_of_lt_of_le (HF.out b hb) hc.size
      have HFW := Lib.hid hFw
      have HC := Lib.hid hc
      clear ho hFw hc
      obtain ⟨p0, p1, G0, G1, rfl, hFe, o0, o1⟩ := Log.own_cells hx
      rw [hFe] at hgk hnk hsub hput
      clear hFe hx
      have hcn : Log.cnE xs[j] = cnS (fun _ => 1) xs[j].Safe + cnS (fun _ => 1) xs[j].Loose := rfl
      have hnd := hnk
      try simp only [List.nil_append, List.append_nil, List.nodup_append, List.mem_append] at hnd
      have hgm := hgk
      try simp only [List.nil_append, List.append_nil, List.mem_append, not_or] at hgm
      have hsb := hsub
      try simp only [List.nil_append, List.append_nil, List.mem_append] at hsb
      have KC : Chg (g :: (G0 ++ G1)) wr wr := Chg.refl _ _
      have hsz : Log.ty.size = 2 := rfl
      rw [hsz] at hH hput
      have c0 : wr.cell? ⟨g, o + j * 2, none⟩ = some (p0) := by have := hH.cell (j := 0) rfl; simpa using this
      go_wp2_with fail
      refine (markByteS_any p0 xs[j].Safe (k + (sumT Log.cnE xs j : Nat)) G0 wr o0 (by simp_all) (fun b hb => Nat.lt_of_lt_of_le (HFW.out b (hsub b (by simp_all))) KC.size) (by omega) (by omega)).mono ?_
      rintro e W1' ⟨rfl, oo, hCG⟩
      have hH3 := hH.keep (hCG.keep g (Nat.lt_of_lt_of_le (HFW.out g hg) KC.size) (by simp_all))
      have o1_ := hCG.own o1 (fun b hb hb2 => by have := hnd; grind) (fun b hb => Nat.lt_of_lt_of_le (HFW.out b (hsub b (by simp_all))) KC.size)
      have KC2 := KC.trans (hCG.mono (fun b hb => by simp_all))
      clear c0 hH hCG KC o0 o1
      have hH := hH3
      have KC := KC2
      clear hH3 KC2
      have o1 := o1_
      clear o1_
      have o0 := oo
      clear oo
      have c1 : W1'.cell? ⟨g, o + j * 2 + 1, none⟩ = some (p1) := by have := hH.cell (j := 1) rfl; simpa using this
      go_wp2_with fail
      refine (markByteS_any p1 xs[j].Loose ((k + (sumT Log.cnE xs j : Nat)) + (cnS (fun _ => 1) xs[j].Safe : Nat)) G1 W1' o1 (by simp_all) (fun b hb => Nat.lt_of_lt_of_le (HFW.out b (hsub b (by simp_all))) KC.size) (by omega) (by omega)).mono ?_
      rintro e W2' ⟨rfl, oo, hCG⟩
      have hH3 := hH.keep (hCG.keep g (Nat.lt_of_lt_of_le (HFW.out g hg) KC.size) (by simp_all))
      have o0_ := hCG.own o0 (fun b hb hb2 => by have := hnd; grind) (fun b hb => Nat.lt_of_lt_of_le (HFW.out b (hsub b (by simp_all))) KC.size)
      have KC2 := KC.trans (hCG.mono (fun b hb => by simp_all))
      clear c1 hH hCG KC o0 o1
      have hH := hH3
      have KC := KC2
      clear hH3 KC2
      have o0 := o0_
      clear o0_
      have o1 := oo
      clear oo
      have h3 := hput _ _ _ hH (Log.own_make (x := Log.mkE xs[j] (k + (sumT Log.cnE xs j : Nat))) o0 o1) (fun b hb h1 h2 => KC.keep b (HFW.out b hb) (by simp only [List.mem_cons, not_or]; exact ⟨h1, h2⟩))
      rw [← mkAt_succ Log.mkE Log.cnE xs k j hlt] at h3
      have h4 := HC.out.trans (KC.mono (fun b hb => by rcases List.mem_cons.1 hb with rfl | hb; exact hg; exact hsub b hb))
      have H3 := Lib.hid h3
      have H4 := Lib.hid h4
      clear h3 h4 hput hH KC o0 o1
      go_wp2_with fail
      go_roundw
      case rel =>
        refine ⟨j + 1, by omega, by go_num, by rw [hb2]; rw [hcn]; simp only [Int.natCast_add, Int.natCast_one, Int.add_assoc], H3.out, H4.out⟩
      case measure => simp [intOf]; omega
    · obtain rfl : j = xs.length := by omega
      have HC := Lib.hid hc
      have HW := Lib.hid ho
      clear hc ho
      go_wp2_with fail
      go_ret
      refine ⟨by rw [sumT_cnS]; rfl, ?_, HC.out⟩
      have := HW.out
      rw [mkAt_all] at this
      exact this
set_option maxRecDepth 10000 in
set_option maxHeartbeats 1000000 in
theorem heldLogS_any (v : Value) (xs : List Log) (k : Int) (w : World) (B : Nat) (hB : B ≤ w.heap.size) (h : (Ty.slice 150 Log.ty).rep w B [v] (mkL Log.mkE Log.cnE xs k)) (h0 : 0 ≤ k) (hk : k + (cnS Log.cnE xs : Nat) ≤ 4611686018427387904) :
    Calls Try.prog 93 #[v, .int .i64 k] w fun e w' => e = .returned (.int .i64 (k + (cnS Log.cnE xs : Nat))) ∧ Below w.heap.size w w' := by
  obtain ⟨a, c, hv, _, hm⟩ := Ty.form h
  rw [mkL_len] at hv
  subst hv
  have hlen : xs.length ≤ 9223372036854775807 := by have := Ty.form h; obtain ⟨_, _, _, hh1, hh2⟩ := this; rw [mkL_len] at hh1; unfold maxLen at hh2; omega
  clear hm
  have HR := Lib.hid h
  clear h
  refine rebaseC ?_
  intro x
  go_enter Try.func93, Try.ntmps93
  go_wp2
  go_loopw [1, 5] (fun n i wr => ∃ j : Nat, j ≤ xs.length ∧ i = .int .i64 j ∧ n = .int .i64 (k + (sumT Log.cnE xs j : Nat)) ∧ ∃ z : Ext w, wr = w.to z) (fun _ i _ => xs.length - (intOf i).toNat)
  case atStart => exact ⟨0, Nat.zero_le _, rfl, by simp [sumT_zero], x, rfl⟩
  case round =>
    obtain ⟨j, hj, rfl, rfl, z, rfl⟩ := hrel
    by_cases hlt : j < xs.length
    · have hb1 := sumT_cn_lt Log.cnE xs j hlt
      have hb2 := sumT_succ Log.cnE xs j hlt
      have HB2 := Lib.hid hb2
      clear hb2
      obtain ⟨b, o, cs, rfl, hb, gg, ee⟩ := Ty.elem HR.out hB j (by rw [mkL_len]; exact hlt)
      rw [mkL_get _ _ _ _ _ hlt] at ee
      obtain ⟨p0, p1, rfl, r0, r1⟩ := Log.cells ee
      have d0 : ∀ z : Ext w, (w.to z).cell? ⟨b, o + j * 2, none⟩ = some (p0) := gg 0 _ rfl
      have d1 : ∀ z : Ext w, (w.to z).cell? ⟨b, o + j * 2 + 1, none⟩ = some (p1) := gg 1 _ rfl
      clear gg ee
      have hcn : Log.cnE xs[j] = cnS (fun _ => 1) xs[j].Safe + cnS (fun _ => 1) xs[j].Loose := rfl
      have hs0 := fun z : Ext w => heldByteS_any p0 xs[j].Safe (k + (sumT Log.cnE xs j : Nat)) (w.to z) B (Nat.le_trans hB (to_size z)) (Ty.rep_to _ hB r0 z) (by omega) (by omega)
      have HS0 := Lib.hid hs0
      clear hs0
      have hs1 := fun z : Ext w => heldByteS_any p1 xs[j].Loose ((k + (sumT Log.cnE xs j : Nat)) + (cnS (fun _ => 1) xs[j].Safe : Nat)) (w.to z) B (Nat.le_trans hB (to_size z)) (Ty.rep_to _ hB r1 z) (by omega) (by omega)
      have HS1 := Lib.hid hs1
      clear hs1
      go_wp2_with fail
      refine call_ext (HS0.out _) ?_
      intro y0
      go_wp2_with fail
      refine call_ext (HS1.out _) ?_
      intro y1
      go_wp2_with fail
      go_roundw
      case rel =>
        have hb2 := HB2.out
        refine ⟨j + 1, by omega, by go_num, by rw [hb2]; rw [hcn]; simp only [Int.natCast_add, Int.natCast_one, Int.add_assoc], y1, rfl⟩
      case measure => simp [intOf]; omega
    · obtain rfl : j = xs.length := by omega
      go_wp2_with fail
      go_ret
      exact ⟨by rw [sumT_cnS]; rfl, z.below⟩

end Go.Proofs.Ytbnjjcnbjkibgaa
