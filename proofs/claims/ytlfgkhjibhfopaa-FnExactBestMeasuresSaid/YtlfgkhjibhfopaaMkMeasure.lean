/- Made by gmark.py: marks. -/
import Derived.Test.YtlfgkhjibhfopaaMark
import Derived.Test.YtlfgkhjibhfopaaMkBase
import Derived.Test.YtlfgkhjibhfopaaTyMeasure
set_option linter.unusedSimpArgs false
set_option linter.unusedVariables false
set_option linter.all false
namespace Go.Proofs.Ytlfgkhjibhfopaa
open Go.RowKit Go.ChangeShapes Go.WideShapes Go.ChangeAt
def Measure.cnE (x : Measure) : Nat := 1 + 1 + 1 + 1 + 1 + 1 + 1
def Measure.mkE (x : Measure) (k : Int) : Measure := ⟨k, (k + 1), ((k + 1) + 1), (((k + 1) + 1) + 1), ((((k + 1) + 1) + 1) + 1), (((((k + 1) + 1) + 1) + 1) + 1), ((((((k + 1) + 1) + 1) + 1) + 1) + 1)⟩
def Measure.cnT (x : Measure) : Nat := 0
def Measure.mkT (x : Measure) (k : Int) : Measure := ⟨x.Tiles, x.Kinds, x.Glues, x.Area, x.Strength, x.Misfits, x.Slack⟩
theorem Measure.cnE_le (x : Measure) : Measure.cnE x ≤ 7 := Nat.le_refl _
theorem Measure.own_cells {w : World} {cs : List Value} {x : Measure} {F : List Nat} (h : Measure.ty.own w cs x F) : cs = [.int .i64 x.Tiles, .int .i64 x.Kinds, .int .i64 x.Glues, .int .i64 x.Area, .int .i64 x.Strength, .int .i64 x.Misfits, .int .i64 x.Slack] ∧ F = (([] : List Nat) ++ (([] : List Nat) ++ (([] : List Nat) ++ (([] : List Nat) ++ (([] : List Nat) ++ (([] : List Nat) ++ ([] : List Nat))))))) ∧ InK .i64 x.Tiles ∧ InK .i64 x.Kinds ∧ InK .i64 x.Glues ∧ InK .i64 x.Area ∧ InK .i64 x.Strength ∧ InK .i64 x.Misfits ∧ InK .i64 x.Slack := by
  obtain ⟨_, _, _, _, rfl, rfl, h_0, _, _, _, _, rfl, rfl, h_1, _, _, _, _, rfl, rfl, h_2, _, _, _, _, rfl, rfl, h_3, _, _, _, _, rfl, rfl, h_4, _, _, _, _, rfl, rfl, h_5, h_6⟩ := h
  obtain ⟨rfl, h_0_i, rfl⟩ := h_0
  obtain ⟨rfl, h_1_i, rfl⟩ := h_1
  obtain ⟨rfl, h_2_i, rfl⟩ := h_2
  obtain ⟨rfl, h_3_i, rfl⟩ := h_3
  obtain ⟨rfl, h_4_i, rfl⟩ := h_4
  obtain ⟨rfl, h_5_i, rfl⟩ := h_5
  obtain ⟨rfl, h_6_i, rfl⟩ := h_6
  exact ⟨rfl, rfl, h_0_i, h_1_i, h_2_i, h_3_i, h_4_i, h_5_i, h_6_i⟩
theorem Measure.own_make {w : World} {x : Measure} (h0 : InK .i64 x.Tiles) (h1 : InK .i64 x.Kinds) (h2 : InK .i64 x.Glues) (h3 : InK .i64 x.Area) (h4 : InK .i64 x.Strength) (h5 : InK .i64 x.Misfits) (h6 : InK .i64 x.Slack) : Measure.ty.own w [.int .i64 x.Tiles, .int .i64 x.Kinds, .int .i64 x.Glues, .int .i64 x.Area, .int .i64 x.Strength, .int .i64 x.Misfits, .int .i64 x.Slack] x (([] : List Nat) ++ (([] : List Nat) ++ (([] : List Nat) ++ (([] : List Nat) ++ (([] : List Nat) ++ (([] : List Nat) ++ ([] : List Nat))))))) :=
  ⟨_, _, _, _, rfl, rfl, ⟨rfl, h0, rfl⟩, ⟨_, _, _, _, rfl, rfl, ⟨rfl, h1, rfl⟩, ⟨_, _, _, _, rfl, rfl, ⟨rfl, h2, rfl⟩, ⟨_, _, _, _, rfl, rfl, ⟨rfl, h3, rfl⟩, ⟨_, _, _, _, rfl, rfl, ⟨rfl, h4, rfl⟩, ⟨_, _, _, _, rfl, rfl, ⟨rfl, h5, rfl⟩, ⟨rfl, h6, rfl⟩⟩⟩⟩⟩⟩⟩
set_option maxRecDepth 10000 in
set_option maxHeartbeats 1000000 in
theorem markMeasureS_any (v : Value) (xs : List Measure) (k : Int) (F : List Nat) (w : World) (h : (Ty.slice 25 Measure.ty).own w [v] xs F) (hn : F.Nodup) (hF : ∀ b, b ∈ F → b < w.heap.size) (h0 : 0 ≤ k) (hk : k + (cnS Measure.cnE xs : Nat) ≤ 4611686018427387904) :
    Calls Try.prog 59 #[v, .int .i64 k] w fun e w' => e = .returned (.int .i64 (k + (cnS Measure.cnE xs : Nat))) ∧ (Ty.slice 25 Measure.ty).own w' [v] (mkL Measure.mkE Measure.cnE xs k) F ∧ Chg F w w' := by
  obtain ⟨a, c, rfl, _, hm⟩ := Ty.form (Ty.own_lt _ h)
  have hlen : xs.length ≤ 9223372036854775807 := by unfold maxLen at hm; omega
  clear hm
  have HO := Lib.hid h
  have HN := Lib.hid hn
  have HF := Lib.hid hF
  clear h hn hF
  go_enter Try.func59, Try.ntmps59
  go_wp2
  go_loopw [1, 5] (fun n i wr => ∃ j : Nat, j ≤ xs.length ∧ i = .int .i64 j ∧ n = .int .i64 (k + (sumT Measure.cnE xs j : Nat)) ∧ (Ty.slice 25 Measure.ty).own wr [.slice a xs.length c] (mkAt Measure.mkE Measure.cnE xs k j) F ∧ Chg F w wr) (fun _ i _ => xs.length - (intOf i).toNat)
  case atStart => exact ⟨0, Nat.zero_le _, rfl, by simp [sumT_zero], by rw [mkAt_zero]; exact HO.out, Chg.refl _ _⟩
  case round =>
    obtain ⟨j, hj, rfl, rfl, ho, hc⟩ := hrel
    by_cases hlt : j < xs.length
    · obtain ⟨g, o, cs, Fk, arr0, rfl, -, hg, hgk, hnk, hsub, hx, hH, hput⟩ := own_elem ho HN.out j (by rw [mkAt_len]; exact hlt)
      rw [mkAt_get _ _ _ _ _ hlt] at hx
      have hb1 := sumT_cn_lt Measure.cnE xs j hlt
      have hb2 := sumT_succ Measure.cnE xs j hlt
      have hFw : ∀ b, b ∈ F → b < wr.heap.size := fun b hb => Nat.lt_of_lt_of_le (HF.out b hb) hc.size
      have HFW := Lib.hid hFw
      have HC := Lib.hid hc
      clear ho hFw hc
      obtain ⟨rfl, hFe, _, _, _, _, _, _, _⟩ := Measure.own_cells hx
      rw [hFe] at hgk hnk hsub hput
      clear hFe hx
      have hcn : Measure.cnE xs[j] = 1 + 1 + 1 + 1 + 1 + 1 + 1 := rfl
      have KC : Chg (g :: (([] : List Nat) ++ (([] : List Nat) ++ (([] : List Nat) ++ (([] : List Nat) ++ (([] : List Nat) ++ (([] : List Nat) ++ ([] : List Nat)))))))) wr wr := Chg.refl _ _
      have hsz : Measure.ty.size = 7 := rfl
      rw [hsz] at hH hput
      have c0 : wr.cell? ⟨g, o + j * 7, none⟩ = some (.int .i64 xs[j].Tiles) := by have := hH.cell (j := 0) rfl; simpa using this
      have f0 := hH.froz
      go_upto_region 6 with fail
      refine plainbase ?_
      intro W1 hW
      have hH2 := hH.set 0 (by omega) (.int .i64 (k + (sumT Measure.cnE xs j : Nat)))
      have hH3 : HoleAt W1 g 25 arr0 (o + j * 7) 7 [.int .i64 (k + (sumT Measure.cnE xs j : Nat)), .int .i64 xs[j].Kinds, .int .i64 xs[j].Glues, .int .i64 xs[j].Area, .int .i64 xs[j].Strength, .int .i64 xs[j].Misfits, .int .i64 xs[j].Slack] := by rw [hW]; simpa using hH2
      have hCG : Chg [g] wr W1 := by rw [hW]; exact (Chg.refl [g] _).set (by simp) _ _
      have KC2 := KC.trans (hCG.mono (fun b hb => by simp_all))
      clear c0 f0 hH hH2 hCG KC hW
      have hH := hH3
      have KC := KC2
      clear hH3 KC2
      have c1 : W1.cell? ⟨g, o + j * 7 + 1, none⟩ = some (.int .i64 xs[j].Kinds) := by have := hH.cell (j := 1) rfl; simpa using this
      have f1 := hH.froz
      go_upto_region 8 with fail
      refine plainbase ?_
      intro W2 hW
      have hH2 := hH.set 1 (by omega) (.int .i64 ((k + (sumT Measure.cnE xs j : Nat)) + 1))
      have hH3 : HoleAt W2 g 25 arr0 (o + j * 7) 7 [.int .i64 (k + (sumT Measure.cnE xs j : Nat)), .int .i64 ((k + (sumT Measure.cnE xs j : Nat)) + 1), .int .i64 xs[j].Glues, .int .i64 xs[j].Area, .int .i64 xs[j].Strength, .int .i64 xs[j].Misfits, .int .i64 xs[j].Slack] := by rw [hW]; simpa using hH2
      have hCG : Chg [g] W1 W2 := by rw [hW]; exact (Chg.refl [g] _).set (by simp) _ _
      have KC2 := KC.trans (hCG.mono (fun b hb => by simp_all))
      clear c1 f1 hH hH2 hCG KC hW
      have hH := hH3
      have KC := KC2
      clear hH3 KC2
      have c2 : W2.cell? ⟨g, o + j * 7 + 2, none⟩ = some (.int .i64 xs[j].Glues) := by have := hH.cell (j := 2) rfl; simpa using this
      have f2 := hH.froz
      go_upto_region 10 with fail
      refine plainbase ?_
      intro W3 hW
      have hH2 := hH.set 2 (by omega) (.int .i64 (((k + (sumT Measure.cnE xs j : Nat)) + 1) + 1))
      have hH3 : HoleAt W3 g 25 arr0 (o + j * 7) 7 [.int .i64 (k + (sumT Measure.cnE xs j : Nat)), .int .i64 ((k + (sumT Measure.cnE xs j : Nat)) + 1), .int .i64 (((k + (sumT Measure.cnE xs j : Nat)) + 1) + 1), .int .i64 xs[j].Area, .int .i64 xs[j].Strength, .int .i64 xs[j].Misfits, .int .i64 xs[j].Slack] := by rw [hW]; simpa using hH2
      have hCG : Chg [g] W2 W3 := by rw [hW]; exact (Chg.refl [g] _).set (by simp) _ _
      have KC2 := KC.trans (hCG.mono (fun b hb => by simp_all))
      clear c2 f2 hH hH2 hCG KC hW
      have hH := hH3
      have KC := KC2
      clear hH3 KC2
      have c3 : W3.cell? ⟨g, o + j * 7 + 3, none⟩ = some (.int .i64 xs[j].Area) := by have := hH.cell (j := 3) rfl; simpa using this
      have f3 := hH.froz
      go_upto_region 12 with fail
      refine plainbase ?_
      intro W4 hW
      have hH2 := hH.set 3 (by omega) (.int .i64 ((((k + (sumT Measure.cnE xs j : Nat)) + 1) + 1) + 1))
      have hH3 : HoleAt W4 g 25 arr0 (o + j * 7) 7 [.int .i64 (k + (sumT Measure.cnE xs j : Nat)), .int .i64 ((k + (sumT Measure.cnE xs j : Nat)) + 1), .int .i64 (((k + (sumT Measure.cnE xs j : Nat)) + 1) + 1), .int .i64 ((((k + (sumT Measure.cnE xs j : Nat)) + 1) + 1) + 1), .int .i64 xs[j].Strength, .int .i64 xs[j].Misfits, .int .i64 xs[j].Slack] := by rw [hW]; simpa using hH2
      have hCG : Chg [g] W3 W4 := by rw [hW]; exact (Chg.refl [g] _).set (by simp) _ _
      have KC2 := KC.trans (hCG.mono (fun b hb => by simp_all))
      clear c3 f3 hH hH2 hCG KC hW
      have hH := hH3
      have KC := KC2
      clear hH3 KC2
      have c4 : W4.cell? ⟨g, o + j * 7 + 4, none⟩ = some (.int .i64 xs[j].Strength) := by have := hH.cell (j := 4) rfl; simpa using this
      have f4 := hH.froz
      go_upto_region 14 with fail
      refine plainbase ?_
      intro W5 hW
      have hH2 := hH.set 4 (by omega) (.int .i64 (((((k + (sumT Measure.cnE xs j : Nat)) + 1) + 1) + 1) + 1))
      have hH3 : HoleAt W5 g 25 arr0 (o + j * 7) 7 [.int .i64 (k + (sumT Measure.cnE xs j : Nat)), .int .i64 ((k + (sumT Measure.cnE xs j : Nat)) + 1), .int .i64 (((k + (sumT Measure.cnE xs j : Nat)) + 1) + 1), .int .i64 ((((k + (sumT Measure.cnE xs j : Nat)) + 1) + 1) + 1), .int .i64 (((((k + (sumT Measure.cnE xs j : Nat)) + 1) + 1) + 1) + 1), .int .i64 xs[j].Misfits, .int .i64 xs[j].Slack] := by rw [hW]; simpa using hH2
      have hCG : Chg [g] W4 W5 := by rw [hW]; exact (Chg.refl [g] _).set (by simp) _ _
      have KC2 := KC.trans (hCG.mono (fun b hb => by simp_all))
      clear c4 f4 hH hH2 hCG KC hW
      have hH := hH3
      have KC := KC2
      clear hH3 KC2
      have c5 : W5.cell? ⟨g, o + j * 7 + 5, none⟩ = some (.int .i64 xs[j].Misfits) := by have := hH.cell (j := 5) rfl; simpa using this
      have f5 := hH.froz
      go_upto_region 16 with fail
      refine plainbase ?_
      intro W6 hW
      have hH2 := hH.set 5 (by omega) (.int .i64 ((((((k + (sumT Measure.cnE xs j : Nat)) + 1) + 1) + 1) + 1) + 1))
      have hH3 : HoleAt W6 g 25 arr0 (o + j * 7) 7 [.int .i64 (k + (sumT Measure.cnE xs j : Nat)), .int .i64 ((k + (sumT Measure.cnE xs j : Nat)) + 1), .int .i64 (((k + (sumT Measure.cnE xs j : Nat)) + 1) + 1), .int .i64 ((((k + (sumT Measure.cnE xs j : Nat)) + 1) + 1) + 1), .int .i64 (((((k + (sumT Measure.cnE xs j : Nat)) + 1) + 1) + 1) + 1), .int .i64 ((((((k + (sumT Measure.cnE xs j : Nat)) + 1) + 1) + 1) + 1) + 1), .int .i64 xs[j].Slack] := by rw [hW]; simpa using hH2
      have hCG : Chg [g] W5 W6 := by rw [hW]; exact (Chg.refl [g] _).set (by simp) _ _
      have KC2 := KC.trans (hCG.mono (fun b hb => by simp_all))
      clear c5 f5 hH hH2 hCG KC hW
      have hH := hH3
      have KC := KC2
      clear hH3 KC2
      have c6 : W6.cell? ⟨g, o + j * 7 + 6, none⟩ = some (.int .i64 xs[j].Slack) := by have := hH.cell (j := 6) rfl; simpa using this
      have f6 := hH.froz
      go_upto_region 3 with fail
      refine plainbase ?_
      intro W7 hW
      have hH2 := hH.set 6 (by omega) (.int .i64 (((((((k + (sumT Measure.cnE xs j : Nat)) + 1) + 1) + 1) + 1) + 1) + 1))
      have hH3 : HoleAt W7 g 25 arr0 (o + j * 7) 7 [.int .i64 (k + (sumT Measure.cnE xs j : Nat)), .int .i64 ((k + (sumT Measure.cnE xs j : Nat)) + 1), .int .i64 (((k + (sumT Measure.cnE xs j : Nat)) + 1) + 1), .int .i64 ((((k + (sumT Measure.cnE xs j : Nat)) + 1) + 1) + 1), .int .i64 (((((k + (sumT Measure.cnE xs j : Nat)) + 1) + 1) + 1) + 1), .int .i64 ((((((k + (sumT Measure.cnE xs j : Nat)) + 1) + 1) + 1) + 1) + 1), .int .i64 (((((((k + (sumT Measure.cnE xs j : Nat)) + 1) + 1) + 1) + 1) + 1) + 1)] := by rw [hW]; simpa using hH2
      have hCG : Chg [g] W6 W7 := by rw [hW]; exact (Chg.refl [g] _).set (by simp) _ _
      have KC2 := KC.trans (hCG.mono (fun b hb => by simp_all))
      clear c6 f6 hH hH2 hCG KC hW
      have hH := hH3
      have KC := KC2
      clear hH3 KC2
      have h3 := hput _ _ _ hH (Measure.own_make (x := Measure.mkE xs[j] (k + (sumT Measure.cnE xs j : Nat))) (show InK .i64 (k + (sumT Measure.cnE xs j : Nat)) from ⟨by omega, by omega⟩) (show InK .i64 ((k + (sumT Measure.cnE xs j : Nat)) + 1) from ⟨by omega, by omega⟩) (show InK .i64 (((k + (sumT Measure.cnE xs j : Nat)) + 1) + 1) from ⟨by omega, by omega⟩) (show InK .i64 ((((k + (sumT Measure.cnE xs j : Nat)) + 1) + 1) + 1) from ⟨by omega, by omega⟩) (show InK .i64 (((((k + (sumT Measure.cnE xs j : Nat)) + 1) + 1) + 1) + 1) from ⟨by omega, by omega⟩) (show InK .i64 ((((((k + (sumT Measure.cnE xs j : Nat)) + 1) + 1) + 1) + 1) + 1) from ⟨by omega, by omega⟩) (show InK .i64 (((((((k + (sumT Measure.cnE xs j : Nat)) + 1) + 1) + 1) + 1) + 1) + 1) from ⟨by omega, by omega⟩)) (fun b hb h1 h2 => KC.keep b (HFW.out b hb) (by simp only [List.mem_cons, not_or]; exact ⟨h1, h2⟩))
      rw [← mkAt_succ Measure.mkE Measure.cnE xs k j hlt] at h3
      have h4 := HC.out.trans (KC.mono (fun b hb => by rcases List.mem_cons.1 hb with rfl | hb; exact hg; exact hsub b hb))
      have H3 := Lib.hid h3
      have H4 := Lib.hid h4
      clear h3 h4 hput hH KC
      go_wp2_with fail
      go_roundw
      case rel =>
        refine ⟨j + 1, by omega, by go_num, by rw [hb2]; rw [hcn]; simp only [Int.natCast_add, Int.natCast_one, Int.add_assoc], H3.out, H4.out⟩
      case measure => simp [intOf]; omega
    · obtain rfl : j = xs.length := by omega
      have HC := Lib.hid hc
      have HW := Lib.hid ho
      clear hc ho
      go_wp2_with fail
      go_ret
      refine ⟨by rw [sumT_cnS]; rfl, ?_, HC.out⟩
      have := HW.out
      rw [mkAt_all] at this
      exact this

end Go.Proofs.Ytlfgkhjibhfopaa
