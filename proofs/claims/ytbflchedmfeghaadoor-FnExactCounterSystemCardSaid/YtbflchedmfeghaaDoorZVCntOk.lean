/- Laws that the proof stands on. -/
import Derived.Test.YtbflchedmfeghaaDoorZg22
set_option linter.all false
namespace Go.Proofs.YtbflchedmfeghaaDoor
open Go.RowKit Go.V
set_option maxRecDepth 100000
theorem nm2_size {p q : List UInt8} {a b : Nat} (hp : p.length ≤ 100) (hq : q.length ≤ 100) (ha : a ≤ 1000000) (hb : b ≤ 1000000) : (nm [(p, a), (q, b)] []).size ≤ 1000 := by have h1 := dec_len a (by omega); have h2 := dec_len b (by omega); have e : (nm [(p, a), (q, b)] []).size = (nmL [(p, a), (q, b)] []).length := rfl; rw [e]; simp only [nmL, List.length_append, List.length_nil]; omega
theorem adV_sm {b : Nat} (hb : b ≤ 1000) : smG (adV b) := smG_rng (f := fun j => nm1 [118] j) (k := fun _ => 1) (fun j hj => nm1_size (by simp) (by omega)) (fun _ => by decide)
theorem adG_sm {b : Nat} (hb : b ≤ 1000) : smG (adG b) := smG_app (smG_app (adV_sm hb) (smG_one (lit_size (by simp)) (by decide) (by decide))) (smG_one (lit_size (by simp)) (by decide) (by decide))
theorem adT_sm {G : List Glue} {b i : Nat} (hG : G.length ≤ 10000) (hi : i ≤ 1000) : smT (adT G b i) := fun t ht => by obtain ⟨d, c, hd, hc, rfl⟩ := adT_mem ht; exact ⟨nm2_size (by simp) (by simp) (by omega) (by omega), sm4 hG _ _ _ _⟩
theorem sdG_sm {G : List Glue} (h : smG G) {n : Nat} (hn : n ≤ 1000) : smG (sdG G n) := smG_app h (smG_rng (f := fun j => nm1 [115] j) (k := fun _ => 2) (fun j hj => nm1_size (by simp) (by omega)) (fun _ => by decide))
theorem sm22 {G : List Glue} (h : G.length ≤ 10000) (a b : ByteArray) : [sideN G a, sideN G b, 0, 0].length ≤ 4 ∧ ∀ y, y ∈ [sideN G a, sideN G b, 0, 0] → 0 ≤ y ∧ y ≤ 1000000 := by refine ⟨by simp, fun y hy => ?_⟩; have h1 := sideN_in G a; have h2 := sideN_in G b; simp only [List.mem_cons, List.not_mem_nil, or_false] at hy; rcases hy with rfl | rfl | rfl | rfl <;> omega
theorem sm14 {G : List Glue} (h : G.length ≤ 10000) (a b : ByteArray) : [sideN G a, 0, 0, sideN G b].length ≤ 4 ∧ ∀ y, y ∈ [sideN G a, 0, 0, sideN G b] → 0 ≤ y ∧ y ≤ 1000000 := by refine ⟨by simp, fun y hy => ?_⟩; have h1 := sideN_in G a; have h2 := sideN_in G b; simp only [List.mem_cons, List.not_mem_nil, or_false] at hy; rcases hy with rfl | rfl | rfl | rfl <;> omega
theorem sm124 {G : List Glue} (h : G.length ≤ 10000) (a b c : ByteArray) : [sideN G a, sideN G b, 0, sideN G c].length ≤ 4 ∧ ∀ y, y ∈ [sideN G a, sideN G b, 0, sideN G c] → 0 ≤ y ∧ y ≤ 1000000 := by refine ⟨by simp, fun y hy => ?_⟩; have h1 := sideN_in G a; have h2 := sideN_in G b; have h3 := sideN_in G c; simp only [List.mem_cons, List.not_mem_nil, or_false] at hy; rcases hy with rfl | rfl | rfl | rfl <;> omega
theorem sm134 {G : List Glue} (h : G.length ≤ 10000) (a b c : ByteArray) : [sideN G a, 0, sideN G b, sideN G c].length ≤ 4 ∧ ∀ y, y ∈ [sideN G a, 0, sideN G b, sideN G c] → 0 ≤ y ∧ y ≤ 1000000 := by refine ⟨by simp, fun y hy => ?_⟩; have h1 := sideN_in G a; have h2 := sideN_in G b; have h3 := sideN_in G c; simp only [List.mem_cons, List.not_mem_nil, or_false] at hy; rcases hy with rfl | rfl | rfl | rfl <;> omega
theorem sdT1_sm {G : List Glue} {T : List Tile} (hG : G.length ≤ 10000) (h : smT T) (l r : ByteArray) {ds : List Nat} (hd : ds.length ≤ 1000) : smT (sdT1 G T l r ds) :=
  smT_app (smT_app (smT_app h (smT_one (lit_size (by simp)) (sm22 hG _ _).1 (sm22 hG _ _).2))
    (smT_rng (f := fun k => nm1 pStart k) (s := fun k => [sideN G (nm1 [118] (ds.getD k 0)), sideN G (nm1 [115] (k + 1)), 0, sideN G (nm1 [115] k)]) (fun j hj => nm1_size (by simp [pStart]) (by omega)) (fun j => sm124 hG _ _ _)))
    (smT_one (lit_size (by simp)) (sm14 hG _ _).1 (sm14 hG _ _).2)
theorem sdT1_len {G : List Glue} {T : List Tile} {l r : ByteArray} {ds : List Nat} : (sdT1 G T l r ds).length = T.length + 1 + ds.length + 1 := by unfold sdT1; rw [List.length_append, sdT_len]; rfl
theorem sdR_sm {t i : Nat} (ht : t ≤ 10000) (hi : i ≤ 1000) : smP (rowP (-1) (sdR t i)) := smP_rowP (by omega) (by rw [sdR_len]; omega) (fun y hy => by
  unfold sdR at hy; obtain ⟨k, hk, rfl⟩ := List.mem_map.1 hy; have := List.mem_range.1 hk; omega)
theorem sd_sm {G : List Glue} {T : List Tile} (hg : smG G) (hG : G.length ≤ 5000) (h : smT T) (hT : T.length ≤ 5000) (l r : ByteArray) {ds : List Nat} (hd : ds.length ≤ 900) {n k : Nat} (hn : n ≤ 1000) (hk : k ≤ 1000) : smS ⟨⟨sdG G n, sdT1 (sdG G n) T l r ds⟩, ⟨rowP (-1) (sdR T.length k)⟩, 2⟩ := by
  have hl : (sdG G n).length ≤ 10000 := (by rw [sdG_len]; omega); refine ⟨sdG_sm hg hn, sdT1_sm hl h l r (by omega), sdR_sm (by omega) hk, hl, ?_, ?_, by simp⟩
  · show (sdT1 (sdG G n) T l r ds).length ≤ 10000; rw [sdT1_len]; omega
  · show (rowP (-1) (sdR T.length k)).length ≤ 10000; rw [rowP_len, sdR_len]; omega
theorem cnG_sm {b m : Nat} (hb : b ≤ 6) (hm : m ≤ 60) : smG (cnG b m) := smG_app (adG_sm (by omega)) (smG_rng (f := fun j => nm1 [114] j) (k := fun _ => 2) (fun j hj => nm1_size (by simp) (by omega)) (fun _ => by decide))
theorem cnT_sm {b m i : Nat} (hb : b ≤ 6) (hm : m ≤ 60) (hi : i ≤ 60) : smT (cnT b m i) :=
  smT_app (adT_sm (by rw [adG_len]; omega) (by omega)) (smT_rng (f := fun k => nm1 pRow k) (s := fun k => [sideN (cnG b m) (nm1 [114] (k + 1)), 0, sideN (cnG b m) (nm1 [114] k), sideN (cnG b m) gC1]) (fun j hj => nm1_size (by simp [pRow]) (by omega)) (fun j => sm134 (by rw [cnG_len]; omega) _ _ _))
theorem cntSys_sm {b k s m : Nat} (hb : b ≤ 6) (hk : k ≤ 8) (hm : m ≤ 60) : smS (cntSys b k s m) := by unfold cntSys; exact sd_sm (cnG_sm hb hm) (by rw [cnG_len]; omega) (cnT_sm hb hm hm) (by rw [cnT_len]; omega) _ _ (by rw [digR_len]; omega) (by omega) (by omega)
theorem CounterR_sm (b k s m : Int) : smS (CounterR b k s m) := by
  unfold CounterR; split
  · next h =>
    split
    · exact sys0_sm
    · unfold okCnt at h; simp only [inR, Bool.and_eq_true, decide_eq_true_eq] at h; exact cntSys_sm (by omega) (by omega) (by omega)
  · exact sys0_sm
theorem CounterR_ok (b : Int) (_ : InK .i64 b) (k : Int) (_ : InK .i64 k) (s : Int) (_ : InK .i64 s) (m : Int) (_ : InK .i64 m) : System.td.ok (CounterR b k s m) := smS_ok (CounterR_sm b k s m)
theorem CounterR_cn (b k s m : Int) : (CounterR b k s m).cnT ≤ 1000000000000 := smS_cn (CounterR_sm b k s m)
end Go.Proofs.YtbflchedmfeghaaDoor
