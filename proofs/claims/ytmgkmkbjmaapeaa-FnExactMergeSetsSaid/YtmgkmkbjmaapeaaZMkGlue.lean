/- Made by gmark.py: marks. -/
import Derived.Test.YtmgkmkbjmaapeaaZMark
import Derived.Test.YtmgkmkbjmaapeaaZMkBase
import Derived.Test.YtmgkmkbjmaapeaaZTyGlue
import Derived.Test.YtmgkmkbjmaapeaaZMkText
set_option linter.all false
namespace Go.Proofs.Ytmgkmkbjmaapeaa
open Go.RowKit Go.ChangeShapes Go.WideShapes Go.ChangeAt
def Glue.cnE (x : Glue) : Nat := 1 + 1
def Glue.mkE (x : Glue) (k : Int) : Glue := ⟨(markT k), (k + 1)⟩
def Glue.cnT (x : Glue) : Nat := 0
def Glue.mkT (x : Glue) (k : Int) : Glue := ⟨x.Name, x.Strength⟩
theorem Glue.cnE_le (x : Glue) : Glue.cnE x ≤ 2 * (1 + Glue.cnt x) := by
  have : Glue.cnt x = x.Name.size := rfl
  have : Glue.cnE x = 1 + 1 := rfl
  omega
theorem Glue.own_cells {w : World} {cs : List Value} {x : Glue} {F : List Nat} (h : Glue.ty.own w cs x F) : cs = [.string x.Name, .int .i64 x.Strength] ∧ F = (([] : List Nat) ++ ([] : List Nat)) ∧ x.Name.size ≤ maxLen ∧ InK .i64 x.Strength := by
  obtain ⟨_, _, _, _, rfl, rfl, h_0, h_1⟩ := h
  obtain ⟨rfl, h_0_i, rfl⟩ := h_0
  obtain ⟨rfl, h_1_i, rfl⟩ := h_1
  exact ⟨rfl, rfl, h_0_i, h_1_i⟩
theorem Glue.own_make {w : World} {x : Glue} (h0 : x.Name.size ≤ maxLen) (h1 : InK .i64 x.Strength) : Glue.ty.own w [.string x.Name, .int .i64 x.Strength] x (([] : List Nat) ++ ([] : List Nat)) :=
  ⟨_, _, _, _, rfl, rfl, ⟨rfl, h0, rfl⟩, ⟨rfl, h1, rfl⟩⟩
set_option maxRecDepth 10000 in
set_option maxHeartbeats 1000000 in
theorem markGlueS_any (v : Value) (xs : List Glue) (k : Int) (F : List Nat) (w : World) (h : (Ty.slice 80 Glue.ty).own w [v] xs F) (hn : F.Nodup) (hF : ∀ b, b ∈ F → b < w.heap.size) (h0 : 0 ≤ k) (hk : k + (cnS Glue.cnE xs : Nat) ≤ 4611686018427387904) :
    Calls Try.prog 57 #[v, .int .i64 k] w fun e w' => e = .returned (.int .i64 (k + (cnS Glue.cnE xs : Nat))) ∧ (Ty.slice 80 Glue.ty).own w' [v] (mkL Glue.mkE Glue.cnE xs k) F ∧ Chg F w w' := by
  obtain ⟨a, c, rfl, _, hm⟩ := Ty.form (Ty.own_lt _ h)
  have hlen : xs.length ≤ 9223372036854775807 := by unfold maxLen at hm; omega
  clear hm
  have HO := Lib.hid h
  have HN := Lib.hid hn
  have HF := Lib.hid hF
  clear h hn hF
  go_enter Try.func57, Try.ntmps57
  go_wp2
  go_loopw [1, 5] (fun n i wr => ∃ j : Nat, j ≤ xs.length ∧ i = .int .i64 j ∧ n = .int .i64 (k + (sumT Glue.cnE xs j : Nat)) ∧ (Ty.slice 80 Glue.ty).own wr [.slice a xs.length c] (mkAt Glue.mkE Glue.cnE xs k j) F ∧ Chg F w wr) (fun _ i _ => xs.length - (intOf i).toNat)
  case atStart => exact ⟨0, Nat.zero_le _, rfl, by simp [sumT_zero], by rw [mkAt_zero]; exact HO.out, Chg.refl _ _⟩
  case round =>
    obtain ⟨j, hj, rfl, rfl, ho, hc⟩ := hrel
    by_cases hlt : j < xs.length
    · obtain ⟨g, o, cs, Fk, arr0, rfl, -, hg, hgk, hnk, hsub, hx, hH, hput⟩ := own_elem ho HN.out j (by rw [mkAt_len]; exact hlt)
      rw [mkAt_get _ _ _ _ _ hlt] at hx
      have hb1 := sumT_cn_lt Glue.cnE xs j hlt
      have hb2 := sumT_succ Glue.cnE xs j hlt
      have hFw : ∀ b, b ∈ F → b < wr.heap.size := fun b hb => Nat.lt_of_lt_of_le (HF.out b hb) hc.size
      have HFW := Lib.hid hFw
      have HC := Lib.hid hc
      clear ho hFw hc
      obtain ⟨rfl, hFe, _, _⟩ := Glue.own_cells hx
      rw [hFe] at hgk hnk hsub hput
      clear hFe hx
      have hcn : Glue.cnE xs[j] = 1 + 1 := rfl
      have KC : Chg (g :: (([] : List Nat) ++ ([] : List Nat))) wr wr := Chg.refl _ _
      have hsz : Glue.ty.size = 2 := rfl
      rw [hsz] at hH hput
      have c0 : wr.cell? ⟨g, o + j * 2, none⟩ = some (.string xs[j].Name) := by have := hH.cell (j := 0) rfl; simpa using this
      go_wp2_with fail
      refine (markText_any (k + (sumT Glue.cnE xs j : Nat)) wr (by omega)).mono ?_
      rintro e W1t ⟨rfl, hBt⟩
      have hCG : Chg [] wr W1t := Chg.of_below hBt
      have hH3 := hH.keep (hCG.keep g (Nat.lt_of_lt_of_le (HFW.out g hg) KC.size) (by simp))
      have KC2 := KC.trans (hCG.mono (fun b hb => by cases hb))
      clear c0 hH hCG KC hBt
      have hH := hH3
      have KC := KC2
      clear hH3 KC2
      have c0 : W1t.cell? ⟨g, o + j * 2, none⟩ = some (.string xs[j].Name) := by have := hH.cell (j := 0) rfl; simpa using this
      have f0 := hH.froz
      go_upto_region 6 with fail
      refine plainbase ?_
      intro W1 hW
      have hH2 := hH.set 0 (by omega) (.string (markT (k + (sumT Glue.cnE xs j : Nat))))
      have hH3 : HoleAt W1 g 80 arr0 (o + j * 2) 2 [.string (markT (k + (sumT Glue.cnE xs j : Nat))), .int .i64 xs[j].Strength] := by rw [hW]; simpa using hH2
      have hCG : Chg [g] W1t W1 := by rw [hW]; exact (Chg.refl [g] _).set (by simp) _ _
      have KC2 := KC.trans (hCG.mono (fun b hb => by simp_all))
      clear c0 f0 hH hH2 hCG KC hW
      have hH := hH3
      have KC := KC2
      clear hH3 KC2
      have c1 : W1.cell? ⟨g, o + j * 2 + 1, none⟩ = some (.int .i64 xs[j].Strength) := by have := hH.cell (j := 1) rfl; simpa using this
      have f1 := hH.froz
      go_upto_region 3 with fail
      refine plainbase ?_
      intro W2 hW
      have hH2 := hH.set 1 (by omega) (.int .i64 ((k + (sumT Glue.cnE xs j : Nat)) + 1))
      have hH3 : HoleAt W2 g 80 arr0 (o + j * 2) 2 [.string (markT (k + (sumT Glue.cnE xs j : Nat))), .int .i64 ((k + (sumT Glue.cnE xs j : Nat)) + 1)] := by rw [hW]; simpa using hH2
      have hCG : Chg [g] W1 W2 := by rw [hW]; exact (Chg.refl [g] _).set (by simp) _ _
      have KC2 := KC.trans (hCG.mono (fun b hb => by simp_all))
      clear c1 f1 hH hH2 hCG KC hW
      have hH := hH3
      have KC := KC2
      clear hH3 KC2
      have h3 := hput _ _ _ hH (Glue.own_make (x := Glue.mkE xs[j] (k + (sumT Glue.cnE xs j : Nat))) (markT_size _) (show InK .i64 ((k + (sumT Glue.cnE xs j : Nat)) + 1) from ⟨by omega, by omega⟩)) (fun b hb h1 h2 => KC.keep b (HFW.out b hb) (by simp only [List.mem_cons, not_or]; exact ⟨h1, h2⟩))
      rw [← mkAt_succ Glue.mkE Glue.cnE xs k j hlt] at h3
      have h4 := HC.out.trans (KC.mono (fun b hb => by rcases List.mem_cons.1 hb with rfl | hb; exact hg; exact hsub b hb))
      have H3 := Lib.hid h3
      have H4 := Lib.hid h4
      clear h3 h4 hput hH KC
      go_wp2_with fail
      go_roundw
      case rel =>
        refine ⟨j + 1, by omega, by go_num, by rw [hb2]; rw [hcn]; simp only [Int.natCast_add, Int.natCast_one, Int.add_assoc], H3.out, H4.out⟩
      case measure => simp [intOf]; omega
    · obtain rfl : j = xs.length := by omega
      have HC := Lib.hid hc
      have HW := Lib.hid ho
      clear hc ho
      go_wp2_with fail
      go_ret
      refine ⟨by rw [sumT_cnS]; rfl, ?_, HC.out⟩
      have := HW.out
      rw [mkAt_all] at this
      exact this
set_option maxRecDepth 10000 in
set_option maxHeartbeats 1000000 in
theorem heldGlueS_any (v : Value) (xs : List Glue) (k : Int) (w : World) (B : Nat) (hB : B ≤ w.heap.size) (h : (Ty.slice 80 Glue.ty).rep w B [v] (mkL Glue.mkE Glue.cnE xs k)) (h0 : 0 ≤ k) (hk : k + (cnS Glue.cnE xs : Nat) ≤ 4611686018427387904) :
    Calls Try.prog 59 #[v, .int .i64 k] w fun e w' => e = .returned (.int .i64 (k + (cnS Glue.cnE xs : Nat))) ∧ Below w.heap.size w w' := by
  obtain ⟨a, c, hv, _, hm⟩ := Ty.form h
  rw [mkL_len] at hv
  subst hv
  have hlen : xs.length ≤ 9223372036854775807 := by have := Ty.form h; obtain ⟨_, _, _, hh1, hh2⟩ := this; rw [mkL_len] at hh1; unfold maxLen at hh2; omega
  clear hm
  have HR := Lib.hid h
  clear h
  refine rebaseC ?_
  intro x
  go_enter Try.func59, Try.ntmps59
  go_wp2
  go_loopw [1, 5] (fun n i wr => ∃ j : Nat, j ≤ xs.length ∧ i = .int .i64 j ∧ n = .int .i64 (k + (sumT Glue.cnE xs j : Nat)) ∧ ∃ z : Ext w, wr = w.to z) (fun _ i _ => xs.length - (intOf i).toNat)
  case atStart => exact ⟨0, Nat.zero_le _, rfl, by simp [sumT_zero], x, rfl⟩
  case round =>
    obtain ⟨j, hj, rfl, rfl, z, rfl⟩ := hrel
    by_cases hlt : j < xs.length
    · have hb1 := sumT_cn_lt Glue.cnE xs j hlt
      have hb2 := sumT_succ Glue.cnE xs j hlt
      have HB2 := Lib.hid hb2
      clear hb2
      obtain ⟨b, o, cs, rfl, hb, gg, ee⟩ := Ty.elem HR.out hB j (by rw [mkL_len]; exact hlt)
      rw [mkL_get _ _ _ _ _ hlt] at ee
      obtain ⟨rfl, r0, r1⟩ := Glue.cells ee
      have d0 : ∀ z : Ext w, (w.to z).cell? ⟨b, o + j * 2, none⟩ = some (.string (markT (k + (sumT Glue.cnE xs j : Nat)))) := gg 0 _ rfl
      have d1 : ∀ z : Ext w, (w.to z).cell? ⟨b, o + j * 2 + 1, none⟩ = some (.int .i64 ((k + (sumT Glue.cnE xs j : Nat)) + 1)) := gg 1 _ rfl
      clear gg ee
      have hcn : Glue.cnE xs[j] = 1 + 1 := rfl
      have hm0 := fun z : Ext w => markText_any (k + (sumT Glue.cnE xs j : Nat)) (w.to z) (by omega)
      have HM0 := Lib.hid hm0
      clear hm0
      go_wp2_with fail
      refine wp_region_ext (by kernel_rfl) (by kernel_rfl) ?_
      repeat (go_big_quiet_step ((go_at_call 96; exact ext_call (HM0.out _))))
      refine wpQuiet_nil ?_
      rintro _ ⟨y, rfl⟩
      have s0 := y
      clear s0
      go_wp2_with fail
      go_roundw
      case rel =>
        have hb2 := HB2.out
        refine ⟨j + 1, by omega, by go_num, by rw [hb2]; rw [hcn]; simp only [Int.natCast_add, Int.natCast_one, Int.add_assoc], y, rfl⟩
      case measure => simp [intOf]; omega
    · obtain rfl : j = xs.length := by omega
      go_wp2_with fail
      go_ret
      exact ⟨by rw [sumT_cnS]; rfl, z.below⟩
end Go.Proofs.Ytmgkmkbjmaapeaa
