/- Laws that the proof stands on. -/
import Derived.Test.YtbflchedmfeghaaDoorZg22
set_option linter.all false
namespace Go.Proofs.YtbflchedmfeghaaDoor
open Go.RowKit Go.V
set_option maxRecDepth 100000
theorem nm2_size {p q : List UInt8} {a b : Nat} (hp : p.length ≤ 100) (hq : q.length ≤ 100) (ha : a ≤ 1000000) (hb : b ≤ 1000000) : (nm [(p, a), (q, b)] []).size ≤ 1000 := by have h1 := dec_len a (by omega); have h2 := dec_len b (by omega); have e : (nm [(p, a), (q, b)] []).size = (nmL [(p, a), (q, b)] []).length := rfl; rw [e]; simp only [nmL, List.length_append, List.length_nil]; omega
theorem adV_sm {b : Nat} (hb : b ≤ 1000) : smG (adV b) := smG_rng (f := fun j => nm1 [118] j) (k := fun _ => 1) (fun j hj => nm1_size (by simp) (by omega)) (fun _ => by decide)
theorem adG_sm {b : Nat} (hb : b ≤ 1000) : smG (adG b) := smG_app (smG_app (adV_sm hb) (smG_one (lit_size (by simp)) (by decide) (by decide))) (smG_one (lit_size (by simp)) (by decide) (by decide))
theorem adT_sm {G : List Glue} {b i : Nat} (hG : G.length ≤ 10000) (hi : i ≤ 1000) : smT (adT G b i) := fun t ht => by obtain ⟨d, c, hd, hc, rfl⟩ := adT_mem ht; exact ⟨nm2_size (by simp) (by simp) (by omega) (by omega), sm4 hG _ _ _ _⟩
theorem sdG_sm {G : List Glue} (h : smG G) {n : Nat} (hn : n ≤ 1000) : smG (sdG G n) := smG_app h (smG_rng (f := fun j => nm1 [115] j) (k := fun _ => 2) (fun j hj => nm1_size (by simp) (by omega)) (fun _ => by decide))
theorem sm22 {G : List Glue} (h : G.length ≤ 10000) (a b : ByteArray) : [sideN G a, sideN G b, 0, 0].length ≤ 4 ∧ ∀ y, y ∈ [sideN G a, sideN G b, 0, 0] → 0 ≤ y ∧ y ≤ 1000000 := by refine ⟨by simp, fun y hy => ?_⟩; have h1 := sideN_in G a; have h2 := sideN_in G b; simp only [List.mem_cons, List.not_mem_nil, or_false] at hy; rcases hy with rfl | rfl | rfl | rfl <;> omega
theorem sm14 {G : List Glue} (h : G.length ≤ 10000) (a b : ByteArray) : [sideN G a, 0, 0, sideN G b].length ≤ 4 ∧ ∀ y, y ∈ [sideN G a, 0, 0, sideN G b] → 0 ≤ y ∧ y ≤ 1000000 := by refine ⟨by simp, fun y hy => ?_⟩; have h1 := sideN_in G a; have h2 := sideN_in G b; simp only [List.mem_cons, List.not_mem_nil, or_false] at hy; rcases hy with rfl | rfl | rfl | rfl <;> omega
theorem sm124 {G : List Glue} (h : G.length ≤ 10000) (a b c : ByteArray) : [sideN G a, sideN G b, 0, sideN G c].length ≤ 4 ∧ ∀ y, y ∈ [sideN G a, sideN G b, 0, sideN G c] → 0 ≤ y ∧ y ≤ 1000000 := by refine ⟨by simp, fun y hy => ?_⟩; have h1 := sideN_in G a; have h2 := sideN_in G b; have h3 := sideN_in G c; simp only [List.mem_cons, List.not_mem_nil, or_false] at hy; rcases hy with rfl | rfl | rfl | rfl <;> omega
theorem sm134 {G : List Glue} (h : G.length ≤ 10000) (a b c : ByteArray) : [sideN G a, 0, sideN G b, sideN G c].length ≤ 4 ∧ ∀ y, y ∈ [sideN G a, 0, sideN G b, sideN G c] → 0 ≤ y ∧ y ≤ 1000000 := by refine ⟨by simp, fun y hy => ?_⟩; have h1 := sideN_in G a; have h2 := sideN_in G b; have h3 := sideN_in G c; simp only [List.mem_cons, List.not_mem_nil, or_false] at hy; rcases hy with rfl | rfl | rfl | rfl <;> omega
theorem sm123 {G : List Glue} (h : G.length ≤ 10000) (a b c : ByteArray) : [sideN G a, sideN G b, sideN G c, 0].length ≤ 4 ∧ ∀ y, y ∈ [sideN G a, sideN G b, sideN G c, 0] → 0 ≤ y ∧ y ≤ 1000000 := by refine ⟨by simp, fun y hy => ?_⟩; have h1 := sideN_in G a; have h2 := sideN_in G b; have h3 := sideN_in G c; simp only [List.mem_cons, List.not_mem_nil, or_false] at hy; rcases hy with rfl | rfl | rfl | rfl <;> omega
theorem sdT1_sm {G : List Glue} {T : List Tile} (hG : G.length ≤ 10000) (h : smT T) (l r : ByteArray) {ds : List Nat} (hd : ds.length ≤ 1000) : smT (sdT1 G T l r ds) :=
  smT_app (smT_app (smT_app h (smT_one (lit_size (by simp)) (sm22 hG _ _).1 (sm22 hG _ _).2))
    (smT_rng (f := fun k => nm1 pStart k) (s := fun k => [sideN G (nm1 [118] (ds.getD k 0)), sideN G (nm1 [115] (k + 1)), 0, sideN G (nm1 [115] k)]) (fun j hj => nm1_size (by simp [pStart]) (by omega)) (fun j => sm124 hG _ _ _)))
    (smT_one (lit_size (by simp)) (sm14 hG _ _).1 (sm14 hG _ _).2)
theorem sdT1_len {G : List Glue} {T : List Tile} {l r : ByteArray} {ds : List Nat} : (sdT1 G T l r ds).length = T.length + 1 + ds.length + 1 := by unfold sdT1; rw [List.length_append, sdT_len]; rfl
theorem sdR_sm {t i : Nat} (ht : t ≤ 10000) (hi : i ≤ 1000) : smP (rowP (-1) (sdR t i)) := smP_rowP (by omega) (by rw [sdR_len]; omega) (fun y hy => by
  unfold sdR at hy; obtain ⟨k, hk, rfl⟩ := List.mem_map.1 hy; have := List.mem_range.1 hk; omega)
theorem sd_sm {G : List Glue} {T : List Tile} (hg : smG G) (hG : G.length ≤ 5000) (h : smT T) (hT : T.length ≤ 5000) (l r : ByteArray) {ds : List Nat} (hd : ds.length ≤ 900) {n k : Nat} (hn : n ≤ 1000) (hk : k ≤ 1000) : smS ⟨⟨sdG G n, sdT1 (sdG G n) T l r ds⟩, ⟨rowP (-1) (sdR T.length k)⟩, 2⟩ := by
  have hl : (sdG G n).length ≤ 10000 := (by rw [sdG_len]; omega); refine ⟨sdG_sm hg hn, sdT1_sm hl h l r (by omega), sdR_sm (by omega) hk, hl, ?_, ?_, by simp⟩
  · show (sdT1 (sdG G n) T l r ds).length ≤ 10000; rw [sdT1_len]; omega
  · show (rowP (-1) (sdR T.length k)).length ≤ 10000; rw [rowP_len, sdR_len]; omega
def zUp : ByteArray := ⟨⟨[117, 112]⟩⟩
def zTurn : ByteArray := ⟨⟨[116, 117, 114, 110]⟩⟩
def zGo : ByteArray := ⟨⟨[103, 111]⟩⟩
def zEdge : ByteArray := ⟨⟨[101, 100, 103, 101]⟩⟩
def zNext : ByteArray := ⟨⟨[110, 101, 120, 116]⟩⟩
def zStay : ByteArray := ⟨⟨[115, 116, 97, 121]⟩⟩
def zTurned : ByteArray := ⟨⟨[116, 117, 114, 110, 101, 100]⟩⟩
def pCopy : List UInt8 := [99, 111, 112, 121]
def zEnd : ByteArray := ⟨⟨[101, 110, 100]⟩⟩
def zAdd : ByteArray := ⟨⟨[97, 100, 100]⟩⟩
def zG1 (b : Nat) : List Glue := adG b ++ [⟨zUp, 1⟩]
def zG2 (b : Nat) : List Glue := zG1 b ++ [⟨zTurn, 2⟩]
def zG3 (b : Nat) : List Glue := zG2 b ++ [⟨zGo, 1⟩]
def zG4 (b : Nat) : List Glue := zG3 b ++ [⟨zEdge, 1⟩]
def zG (b : Nat) : List Glue := zG4 b ++ [⟨zNext, 2⟩]
theorem zG1_len (b : Nat) : (zG1 b).length = b + 3 := by simp [zG1, adG_len]
theorem zG2_len (b : Nat) : (zG2 b).length = b + 4 := by simp [zG2, zG1_len]
theorem zG3_len (b : Nat) : (zG3 b).length = b + 5 := by simp [zG3, zG2_len]
theorem zG4_len (b : Nat) : (zG4 b).length = b + 6 := by simp [zG4, zG3_len]
theorem zG_len (b : Nat) : (zG b).length = b + 7 := by simp [zG, zG4_len]
theorem lit_ne {l : List UInt8} {p : List UInt8} {j : Nat} (hl : okW l = true) (hp : okW p = true) : nm1 p j ≠ (⟨⟨l⟩⟩ : ByteArray) :=
  nm_ne (a := [(p, j)]) (t := []) (b := []) (u := l) (by unfold okNm; rw [hp]; rfl) hl (by simp)
theorem adG_lit (b : Nat) {l : List UInt8} (hl : okW l = true) : fresh (adG b) ⟨⟨l⟩⟩ := adG_fresh b (fun j => lit_ne hl (by rfl)) (lit_ne hl (by rfl)) (lit_ne hl (by rfl))
theorem zG0_up (b : Nat) : fresh (adG b) zUp := adG_lit b (by rfl)
theorem zG1_turn (b : Nat) : fresh (zG1 b) zTurn := fresh_push (adG_lit b (by rfl)) (by decide)
theorem zG2_go (b : Nat) : fresh (zG2 b) zGo := fresh_push (fresh_push (adG_lit b (by rfl)) (by decide)) (by decide)
theorem zG3_edge (b : Nat) : fresh (zG3 b) zEdge := fresh_push (fresh_push (fresh_push (adG_lit b (by rfl)) (by decide)) (by decide)) (by decide)
theorem zG4_next (b : Nat) : fresh (zG4 b) zNext := fresh_push (fresh_push (fresh_push (fresh_push (adG_lit b (by rfl)) (by decide)) (by decide)) (by decide)) (by decide)
theorem zG_ok (b : Nat) : okM (zG b) :=
  okM_push (okM_push (okM_push (okM_push (okM_push (adG_ok b) (zG0_up b) (by decide) (by decide)) (zG1_turn b) (by decide) (by decide)) (zG2_go b) (by decide) (by decide)) (zG3_edge b) (by decide) (by decide)) (zG4_next b) (by decide) (by decide)
theorem zG_s (b k : Nat) : fresh (zG b) (nm1 [115] k) :=
  fresh_push (fresh_push (fresh_push (fresh_push (fresh_push (adG_s b k) (lit_ne (by rfl) (by rfl)).symm) (lit_ne (by rfl) (by rfl)).symm) (lit_ne (by rfl) (by rfl)).symm) (lit_ne (by rfl) (by rfl)).symm) (lit_ne (by rfl) (by rfl)).symm
def zT1 (b : Nat) : List Tile := adT (adG b) b b ++ [⟨zStay, [sideN (zG b) zTurn, sideN (zG b) gC0, sideN (zG b) zUp, 0]⟩]
def zT2 (b : Nat) : List Tile := zT1 b ++ [⟨zTurned, [sideN (zG b) zUp, sideN (zG b) zGo, sideN (zG b) zTurn, 0]⟩]
def zK (b d : Nat) : Tile := ⟨nm1 pCopy d, [sideN (zG b) (nm1 [118] d), sideN (zG b) zGo, sideN (zG b) (nm1 [118] d), sideN (zG b) zGo]⟩
def zTi (b i : Nat) : List Tile := zT2 b ++ (List.range i).map (zK b)
def zT3 (b : Nat) : List Tile := zTi b b ++ [⟨zEnd, [sideN (zG b) zNext, 0, sideN (zG b) zEdge, sideN (zG b) zGo]⟩]
def zT (b : Nat) : List Tile := zT3 b ++ [⟨zAdd, [sideN (zG b) zEdge, 0, sideN (zG b) zNext, sideN (zG b) gC1]⟩]
theorem zT1_len (b : Nat) : (zT1 b).length = 2 * b + 1 := by simp [zT1, adT_len]
theorem zT2_len (b : Nat) : (zT2 b).length = 2 * b + 2 := by simp [zT2, zT1_len]
theorem zTi_len (b i : Nat) : (zTi b i).length = 2 * b + 2 + i := by simp [zTi, zT2_len]
theorem zT3_len (b : Nat) : (zT3 b).length = 3 * b + 3 := by simp [zT3, zTi_len]; omega
theorem zT_len (b : Nat) : (zT b).length = 3 * b + 4 := by simp [zT, zT3_len]
theorem zTi_next (b i : Nat) : zTi b (i + 1) = zTi b i ++ [zK b i] := by unfold zTi; rw [List.range_succ, List.map_append, List.append_assoc]; rfl
theorem adT_lit {G : List Glue} {b i : Nat} {l : List UInt8} (hl : okW l = true) : freshT (adT G b i) ⟨⟨l⟩⟩ :=
  adT_fresh (fun d c => nm_ne (b := []) (u := l) (by rfl) hl (by simp))
theorem zT0_stay (b : Nat) : freshT (adT (adG b) b b) zStay := adT_lit (by rfl)
theorem zT1_turned (b : Nat) : freshT (zT1 b) zTurned := freshT_push (adT_lit (by rfl)) (by decide)
theorem zTi_fresh {b i : Nat} {n : ByteArray} (h : freshT (adT (adG b) b b) n) (h1 : zStay ≠ n) (h2 : zTurned ≠ n) (h3 : ∀ k, k < i → nm1 pCopy k ≠ n) : freshT (zTi b i) n :=
  freshT_rng (f := fun k => nm1 pCopy k) (s := fun d => [sideN (zG b) (nm1 [118] d), sideN (zG b) zGo, sideN (zG b) (nm1 [118] d), sideN (zG b) zGo]) (freshT_push (freshT_push h h1) h2) h3
theorem zTi_copy (b i : Nat) : freshT (zTi b i) (nm1 pCopy i) :=
  zTi_fresh (adT_fresh fun d c => nm_ne (by rfl) (by rfl) (by simp [pCopy])) (lit_ne (by rfl) (by rfl)).symm (lit_ne (by rfl) (by rfl)).symm (fun k hk => nm_ne (by rfl) (by rfl) (by simp; omega))
theorem zTi_end (b i : Nat) : freshT (zTi b i) zEnd := zTi_fresh (adT_lit (by rfl)) (by decide) (by decide) (fun k _ => lit_ne (by rfl) (by rfl))
theorem zT3_add (b : Nat) : freshT (zT3 b) zAdd := freshT_push (zTi_fresh (adT_lit (by rfl)) (by decide) (by decide) (fun k _ => lit_ne (by rfl) (by rfl))) (by decide)
theorem zT_fresh {b : Nat} {n : ByteArray} (h : freshT (zTi b b) n) (h1 : zEnd ≠ n) (h2 : zAdd ≠ n) : freshT (zT b) n := freshT_push (freshT_push h h1) h2
theorem zT_s (b : Nat) : freshS (zT b) :=
  ⟨zT_fresh (zTi_fresh (adT_lit (l := [108, 101, 102, 116]) (by rfl)) (by decide) (by decide) (fun k _ => lit_ne (l := [108, 101, 102, 116]) (by rfl) (by rfl))) (by decide) (by decide),
   zT_fresh (zTi_fresh (adT_lit (l := [114, 105, 103, 104, 116]) (by rfl)) (by decide) (by decide) (fun k _ => lit_ne (l := [114, 105, 103, 104, 116]) (by rfl) (by rfl))) (by decide) (by decide),
   fun j => zT_fresh (zTi_fresh (adT_fresh fun d c => nm_ne (by rfl) (by rfl) (by simp [pStart])) (lit_ne (by rfl) (by rfl)).symm (lit_ne (by rfl) (by rfl)).symm (fun k _ => nm_ne (by rfl) (by rfl) (by simp [pStart, pCopy]))) (lit_ne (by rfl) (by rfl)).symm (lit_ne (by rfl) (by rfl)).symm⟩
theorem zG_sm {b : Nat} (hb : b ≤ 6) : smG (zG b) :=
  smG_app (smG_app (smG_app (smG_app (smG_app (adG_sm (by omega)) (smG_one (lit_size (by simp)) (by decide) (by decide))) (smG_one (lit_size (by simp)) (by decide) (by decide))) (smG_one (lit_size (by simp)) (by decide) (by decide))) (smG_one (lit_size (by simp)) (by decide) (by decide))) (smG_one (lit_size (by simp)) (by decide) (by decide))
theorem zT_sm {b : Nat} (hb : b ≤ 6) : smT (zT b) := by
  have hG : (zG b).length ≤ 10000 := (by rw [zG_len]; omega); exact smT_app (smT_app (smT_app (smT_app (smT_app (adT_sm (by rw [adG_len]; omega) (by omega)) (smT_one (lit_size (by simp)) (sm123 hG _ _ _).1 (sm123 hG _ _ _).2)) (smT_one (lit_size (by simp)) (sm123 hG _ _ _).1 (sm123 hG _ _ _).2))
    (smT_rng (f := fun k => nm1 pCopy k) (s := fun d => [sideN (zG b) (nm1 [118] d), sideN (zG b) zGo, sideN (zG b) (nm1 [118] d), sideN (zG b) zGo]) (fun j hj => nm1_size (by simp [pCopy]) (by omega)) (fun j => sm4 hG _ _ _ _)))
    (smT_one (lit_size (by simp)) (sm134 hG _ _ _).1 (sm134 hG _ _ _).2)) (smT_one (lit_size (by simp)) (sm134 hG _ _ _).1 (sm134 hG _ _ _).2)
def zigSys (b k s : Nat) : System := ⟨⟨sdG (zG b) (k + 1), sdT1 (sdG (zG b) (k + 1)) (zT b) zUp zNext (digR b k s)⟩, ⟨rowP (-1) (sdR (zT b).length (k + 2))⟩, 2⟩
def zSt (b k s : Int) : Int := ((b.toNat ^ k.toNat : Nat) : Int) - s
def zFull (b k s : Int) : Bool := decide (30 < zSt b k s) || decide (500 < 2 * zSt b k s * (k + 2))
def ZigR (b k s : Int) : System := if okCnt b k s then (if zFull b k s then sys0 else zigSys b.toNat k.toNat s.toNat) else sys0
def ZigC (b k s : Int) : Int := if okCnt b k s then (if zFull b k s then 4 else 0) else 2
theorem zigSys_sm {b k s : Nat} (hb : b ≤ 6) (hk : k ≤ 8) : smS (zigSys b k s) := by unfold zigSys; exact sd_sm (zG_sm hb) (by rw [zG_len]; omega) (zT_sm hb) (by rw [zT_len]; omega) _ _ (by rw [digR_len]; omega) (by omega) (by omega)
theorem ZigR_sm (b k s : Int) : smS (ZigR b k s) := by
  unfold ZigR; split
  · next h =>
    split
    · exact sys0_sm
    · unfold okCnt at h; simp only [inR, Bool.and_eq_true, decide_eq_true_eq] at h; exact zigSys_sm (by omega) (by omega)
  · exact sys0_sm
theorem ZigR_ok (b : Int) (_ : InK .i64 b) (k : Int) (_ : InK .i64 k) (s : Int) (_ : InK .i64 s) : System.td.ok (ZigR b k s) := smS_ok (ZigR_sm b k s)
theorem ZigR_cn (b k s : Int) : (ZigR b k s).cnT ≤ 1000000000000 := smS_cn (ZigR_sm b k s)
end Go.Proofs.YtbflchedmfeghaaDoor
