/- Laws that the proof stands on. -/
import Derived.Test.YtbflchedmfeghaaDoorZg22
import Derived.Test.YtbflchedmfeghaaDoorZg21
set_option linter.all false
namespace Go.Proofs.YtbflchedmfeghaaDoor
open Go.RowKit Go.V
set_option maxRecDepth 100000
theorem nm2_size {p q : List UInt8} {a b : Nat} (hp : p.length ≤ 100) (hq : q.length ≤ 100) (ha : a ≤ 1000000) (hb : b ≤ 1000000) : (nm [(p, a), (q, b)] []).size ≤ 1000 := by have h1 := dec_len a (by omega); have h2 := dec_len b (by omega); have e : (nm [(p, a), (q, b)] []).size = (nmL [(p, a), (q, b)] []).length := rfl; rw [e]; simp only [nmL, List.length_append, List.length_nil]; omega
theorem sdG_sm {G : List Glue} (h : smG G) {n : Nat} (hn : n ≤ 1000) : smG (sdG G n) := smG_app h (smG_rng (f := fun j => nm1 [115] j) (k := fun _ => 2) (fun j hj => nm1_size (by simp) (by omega)) (fun _ => by decide))
theorem sm22 {G : List Glue} (h : G.length ≤ 10000) (a b : ByteArray) : [sideN G a, sideN G b, 0, 0].length ≤ 4 ∧ ∀ y, y ∈ [sideN G a, sideN G b, 0, 0] → 0 ≤ y ∧ y ≤ 1000000 := by refine ⟨by simp, fun y hy => ?_⟩; have h1 := sideN_in G a; have h2 := sideN_in G b; simp only [List.mem_cons, List.not_mem_nil, or_false] at hy; rcases hy with rfl | rfl | rfl | rfl <;> omega
theorem sm14 {G : List Glue} (h : G.length ≤ 10000) (a b : ByteArray) : [sideN G a, 0, 0, sideN G b].length ≤ 4 ∧ ∀ y, y ∈ [sideN G a, 0, 0, sideN G b] → 0 ≤ y ∧ y ≤ 1000000 := by refine ⟨by simp, fun y hy => ?_⟩; have h1 := sideN_in G a; have h2 := sideN_in G b; simp only [List.mem_cons, List.not_mem_nil, or_false] at hy; rcases hy with rfl | rfl | rfl | rfl <;> omega
theorem sm124 {G : List Glue} (h : G.length ≤ 10000) (a b c : ByteArray) : [sideN G a, sideN G b, 0, sideN G c].length ≤ 4 ∧ ∀ y, y ∈ [sideN G a, sideN G b, 0, sideN G c] → 0 ≤ y ∧ y ≤ 1000000 := by refine ⟨by simp, fun y hy => ?_⟩; have h1 := sideN_in G a; have h2 := sideN_in G b; have h3 := sideN_in G c; simp only [List.mem_cons, List.not_mem_nil, or_false] at hy; rcases hy with rfl | rfl | rfl | rfl <;> omega
theorem sdT1_sm {G : List Glue} {T : List Tile} (hG : G.length ≤ 10000) (h : smT T) (l r : ByteArray) {ds : List Nat} (hd : ds.length ≤ 1000) : smT (sdT1 G T l r ds) :=
  smT_app (smT_app (smT_app h (smT_one (lit_size (by simp)) (sm22 hG _ _).1 (sm22 hG _ _).2))
    (smT_rng (f := fun k => nm1 pStart k) (s := fun k => [sideN G (nm1 [118] (ds.getD k 0)), sideN G (nm1 [115] (k + 1)), 0, sideN G (nm1 [115] k)]) (fun j hj => nm1_size (by simp [pStart]) (by omega)) (fun j => sm124 hG _ _ _)))
    (smT_one (lit_size (by simp)) (sm14 hG _ _).1 (sm14 hG _ _).2)
theorem sdT1_len {G : List Glue} {T : List Tile} {l r : ByteArray} {ds : List Nat} : (sdT1 G T l r ds).length = T.length + 1 + ds.length + 1 := by unfold sdT1; rw [List.length_append, sdT_len]; rfl
theorem sdR_sm {t i : Nat} (ht : t ≤ 10000) (hi : i ≤ 1000) : smP (rowP (-1) (sdR t i)) := smP_rowP (by omega) (by rw [sdR_len]; omega) (fun y hy => by
  unfold sdR at hy; obtain ⟨k, hk, rfl⟩ := List.mem_map.1 hy; have := List.mem_range.1 hk; omega)
theorem sd_sm {G : List Glue} {T : List Tile} (hg : smG G) (hG : G.length ≤ 5000) (h : smT T) (hT : T.length ≤ 5000) (l r : ByteArray) {ds : List Nat} (hd : ds.length ≤ 900) {n k : Nat} (hn : n ≤ 1000) (hk : k ≤ 1000) : smS ⟨⟨sdG G n, sdT1 (sdG G n) T l r ds⟩, ⟨rowP (-1) (sdR T.length k)⟩, 2⟩ := by
  have hl : (sdG G n).length ≤ 10000 := (by rw [sdG_len]; omega); refine ⟨sdG_sm hg hn, sdT1_sm hl h l r (by omega), sdR_sm (by omega) hk, hl, ?_, ?_, by simp⟩
  · show (sdT1 (sdG G n) T l r ds).length ≤ 10000; rw [sdT1_len]; omega
  · show (rowP (-1) (sdR T.length k)).length ≤ 10000; rw [rowP_len, sdR_len]; omega
def gVX : ByteArray := ⟨⟨[118, 120]⟩⟩
def gCX : ByteArray := ⟨⟨[99, 120]⟩⟩
def gSide : ByteArray := ⟨⟨[115, 105, 100, 101]⟩⟩
def nHole : ByteArray := ⟨⟨[104, 111, 108, 101]⟩⟩
def pMax : List UInt8 := [109, 97, 120]
def pTake : List UInt8 := [116, 97, 107, 101]
def pGive : List UInt8 := [103, 105, 118, 101]
def soN (G : List Glue) (p : List UInt8) (k : Int) (i : Nat) : List Glue := G ++ (List.range i).map (fun j => ⟨nm1 p j, k⟩)
theorem soN_zero (G : List Glue) (p : List UInt8) (k : Int) : soN G p k 0 = G := List.append_nil _
theorem soN_next (G : List Glue) (p : List UInt8) (k : Int) (i : Nat) : soN G p k (i + 1) = soN G p k i ++ [⟨nm1 p i, k⟩] := by unfold soN; rw [List.range_succ, List.map_append, List.append_assoc]; rfl
theorem soN_len (G : List Glue) (p : List UInt8) (k : Int) (i : Nat) : (soN G p k i).length = G.length + i := by simp [soN]
theorem soN_fresh {G : List Glue} {n : ByteArray} (h : fresh G n) (p : List UInt8) (k : Int) (i : Nat) (ha : ∀ j, j < i → nm1 p j ≠ n) : fresh (soN G p k i) n := fresh_rng (f := fun j => nm1 p j) (k := fun _ => k) h ha
theorem soN_self {G : List Glue} {p : List UInt8} (h : ∀ i, fresh G (nm1 p i)) (hp : okW p = true) (k : Int) (i : Nat) : fresh (soN G p k i) (nm1 p i) :=
  soN_fresh (h i) p k i fun j hj => nm_ne (a := [(p, j)]) (b := [(p, i)]) (t := []) (u := []) (by simp [okNm, hp]; rfl) (by simp [okNm, hp]; rfl) (by simp; omega)
theorem soN_ok {G : List Glue} {p : List UInt8} (hm : okM G) (h : ∀ i, fresh G (nm1 p i)) (hp : okW p = true) (k : Int) (i : Nat) : okM (soN G p k i) :=
  okM_rng (f := fun j => nm1 p j) (k := fun _ => k) hm h (fun i j hj => nm_ne (a := [(p, i)]) (b := [(p, j)]) (t := []) (u := []) (by simp [okNm, hp]; rfl) (by simp [okNm, hp]; rfl) (by simp; omega)) (fun j => nm_ne (a := [(p, j)]) (t := []) (b := []) (u := [45]) (by simp [okNm, hp]; rfl) (by rfl) (by simp)) (fun j => nm_ne (a := [(p, j)]) (t := []) (b := []) (u := []) (by simp [okNm, hp]; rfl) (by rfl) (by simp)) i
theorem soN_sm {G : List Glue} (h : smG G) {p : List UInt8} (hp : p.length ≤ 100) {k : Int} (hk : 0 ≤ k ∧ k ≤ 1000) {i : Nat} (hi : i ≤ 1000) : smG (soN G p k i) := smG_app h (smG_rng (f := fun j => nm1 p j) (k := fun _ => k) (fun j hj => nm1_size hp (by omega)) (fun _ => hk))
def soA (b : Nat) : List Glue := soN [] [118] 1 b ++ [⟨gVX, 1⟩]
def soC (b i : Nat) : List Glue := soN (soA b) [99] 1 i
def soD (b : Nat) : List Glue := soC b b ++ [⟨gCX, 1⟩] ++ [⟨gSide, 1⟩]
def soM (b i : Nat) : List Glue := soN (soD b) pMax 1 i
def soG (b i : Nat) : List Glue := soN (soM b b) [114] 2 i
theorem soA_len (b : Nat) : (soA b).length = b + 1 := by simp [soA, soN_len]
theorem soC_len (b i : Nat) : (soC b i).length = b + 1 + i := by simp [soC, soN_len, soA_len]
theorem soD_len (b : Nat) : (soD b).length = b + b + 3 := by simp [soD, soC_len]; omega
theorem soM_len (b i : Nat) : (soM b i).length = b + b + 3 + i := by simp [soM, soN_len, soD_len]
theorem soG_len (b i : Nat) : (soG b i).length = b + b + b + 3 + i := by simp [soG, soN_len, soM_len]; omega
theorem pW {p q : List UInt8} {i j : Nat} (hp : okW p = true) (hq : okW q = true) (h : p ≠ q) : nm1 p i ≠ nm1 q j := nm_ne (a := [(p, i)]) (b := [(q, j)]) (t := []) (u := []) (by simp [okNm, hp]; rfl) (by simp [okNm, hq]; rfl) (by simp [h])
theorem pL {p u : List UInt8} {j : Nat} (hp : okW p = true) (hu : okW u = true) : nm1 p j ≠ ⟨⟨u⟩⟩ := nm_ne (a := [(p, j)]) (b := []) (t := []) (u := u) (by simp [okNm, hp]; rfl) (by simpa [okNm] using hu) (by simp)
theorem pLl {p u : List UInt8} {j : Nat} (hp : okW p = true) (hu : okW u = true) : (⟨⟨u⟩⟩ : ByteArray) ≠ nm1 p j := fun e => pL hp hu e.symm
theorem soA_nm (b : Nat) {q : List UInt8} (hq : okW q = true) (h : [118] ≠ q) (i : Nat) : fresh (soA b) (nm1 q i) := fresh_push (soN_fresh (fresh_nil _) _ _ _ fun j _ => pW (by rfl) hq h) (pLl hq (by rfl))
theorem soA_lit (b : Nat) {u : List UInt8} (hu : okW u = true) (h : [118, 120] ≠ u) : fresh (soA b) ⟨⟨u⟩⟩ := fresh_push (soN_fresh (fresh_nil _) _ _ _ fun j _ => pL (by rfl) hu) (fun e => h (by simpa [gVX] using e))
theorem soV_vx (b : Nat) : fresh (soN [] [118] 1 b) gVX := soN_fresh (fresh_nil _) _ _ _ fun j _ => pL (by rfl) (by rfl)
theorem soC_nm (b i : Nat) {q : List UInt8} (hq : okW q = true) (h : [118] ≠ q) (h2 : [99] ≠ q) (j : Nat) : fresh (soC b i) (nm1 q j) := soN_fresh (soA_nm b hq h j) _ _ _ fun k _ => pW (by rfl) hq h2
theorem soC_lit (b i : Nat) {u : List UInt8} (hu : okW u = true) (h : [118, 120] ≠ u) : fresh (soC b i) ⟨⟨u⟩⟩ := soN_fresh (soA_lit b hu h) _ _ _ fun k _ => pL (by rfl) hu
theorem soD_nm (b : Nat) {q : List UInt8} (hq : okW q = true) (h : [118] ≠ q) (h2 : [99] ≠ q) (j : Nat) : fresh (soD b) (nm1 q j) := fresh_push (fresh_push (soC_nm b b hq h h2 j) (pLl hq (by rfl))) (pLl hq (by rfl))
theorem soM_nm (b i : Nat) {q : List UInt8} (hq : okW q = true) (h : [118] ≠ q) (h2 : [99] ≠ q) (h3 : pMax ≠ q) (j : Nat) : fresh (soM b i) (nm1 q j) := soN_fresh (soD_nm b hq h h2 j) _ _ _ fun k _ => pW (by rfl) hq h3
theorem soG_s (b i j : Nat) : fresh (soG b i) (nm1 [115] j) := soN_fresh (soM_nm b b (by rfl) (by decide) (by decide) (by decide) j) _ _ _ fun k _ => pW (by rfl) (by rfl) (by decide)
theorem soG_r (b i : Nat) : fresh (soG b i) (nm1 [114] i) := soN_self (fun j => soM_nm b b (by rfl) (by decide) (by decide) (by decide) j) (by rfl) _ _
theorem soA_ok (b : Nat) : okM (soA b) := okM_push (soN_ok okM_nil (fun i => fresh_nil _) (by rfl) _ _) (soV_vx b) (by decide) (by decide)
theorem soC_ok (b i : Nat) : okM (soC b i) := soN_ok (soA_ok b) (fun j => soA_nm b (by rfl) (by decide) j) (by rfl) _ _
theorem soC_cx (b : Nat) : fresh (soC b b) gCX := soC_lit b b (by rfl) (by decide)
theorem soC_side (b : Nat) : fresh (soC b b ++ [⟨gCX, 1⟩]) gSide := fresh_push (soC_lit b b (by rfl) (by decide)) (by decide)
theorem soD_ok (b : Nat) : okM (soD b) := okM_push (okM_push (soC_ok b b) (soC_cx b) (by decide) (by decide)) (soC_side b) (by decide) (by decide)
theorem soM_ok (b i : Nat) : okM (soM b i) := soN_ok (soD_ok b) (fun j => soD_nm b (by rfl) (by decide) (by decide) j) (by rfl) _ _
theorem soG_ok (b i : Nat) : okM (soG b i) := soN_ok (soM_ok b b) (fun j => soM_nm b b (by rfl) (by decide) (by decide) (by decide) j) (by rfl) _ _
/-! The tiles. -/
def soHole (H : List Glue) : Tile := ⟨nHole, [sideN H gVX, sideN H gCX, sideN H gVX, sideN H gCX]⟩
def soTake (H : List Glue) (v : Nat) : Tile := ⟨nm1 pTake v, [sideN H gVX, sideN H (nm1 [99] v), sideN H (nm1 [118] v), sideN H gCX]⟩
def soKt (H : List Glue) (v w : Nat) : Tile := ⟨nm [([107], v), ([95], w)] [], [sideN H (nm1 [118] (min v w)), sideN H (nm1 [99] (max v w)), sideN H (nm1 [118] w), sideN H (nm1 [99] v)]⟩
def soGive (H : List Glue) (v : Nat) : Tile := ⟨nm1 pGive v, [sideN H gSide, sideN H (nm1 pMax v), sideN H gSide, sideN H (nm1 [99] v)]⟩
def soRow (H : List Glue) (k : Nat) : Tile := ⟨nm1 pRow k, [sideN H (nm1 [114] (k + 1)), sideN H gCX, sideN H (nm1 [114] k), 0]⟩
def soX (T : List Tile) (f : Nat → Tile) (i : Nat) : List Tile := T ++ (List.range i).map f
theorem soX_zero (T : List Tile) (f : Nat → Tile) : soX T f 0 = T := List.append_nil _
theorem soX_next (T : List Tile) (f : Nat → Tile) (i : Nat) : soX T f (i + 1) = soX T f i ++ [f i] := by unfold soX; rw [List.range_succ, List.map_append, List.append_assoc]; rfl
theorem soX_len (T : List Tile) (f : Nat → Tile) (i : Nat) : (soX T f i).length = T.length + i := by simp [soX]
def soT1 (H : List Glue) (i : Nat) : List Tile := soX [soHole H] (soTake H) i
def soT2 (H : List Glue) (b i : Nat) : List Tile := soT1 H b ++ (List.range i).flatMap (fun v => (List.range b).map (soKt H v))
def soT3 (H : List Glue) (b i : Nat) : List Tile := soX (soT2 H b b) (soGive H) i
def soT4 (H : List Glue) (b i : Nat) : List Tile := soX (soT3 H b b) (soRow H) i
theorem soT2_zero (H : List Glue) (b : Nat) : soT2 H b 0 = soT1 H b := List.append_nil _
theorem soT2_next (H : List Glue) (b i : Nat) : soX (soT2 H b i) (soKt H i) b = soT2 H b (i + 1) := by unfold soX soT2; rw [List.range_succ, List.flatMap_append, List.append_assoc]; simp
theorem soT1_len (H : List Glue) (i : Nat) : (soT1 H i).length = 1 + i := by simp [soT1, soX_len]
theorem soT2_len (H : List Glue) (b : Nat) : ∀ i, (soT2 H b i).length = 1 + b + b * i
  | 0 => by rw [soT2_zero, soT1_len]; omega
  | i + 1 => by rw [← soT2_next, soX_len, soT2_len H b i, Nat.mul_add]; omega
theorem soT3_len (H : List Glue) (b i : Nat) : (soT3 H b i).length = 1 + b + b * b + i := by simp [soT3, soX_len, soT2_len]
theorem soT4_len (H : List Glue) (b i : Nat) : (soT4 H b i).length = 1 + b + b * b + b + i := by simp [soT4, soX_len, soT3_len]
theorem soX_fresh {T : List Tile} {n : ByteArray} (h : freshT T n) {f : Nat → Tile} {i : Nat} (ha : ∀ j, j < i → (f j).Name ≠ n) : freshT (soX T f i) n := fun t ht => by
  rcases List.mem_append.1 ht with ht | ht
  · exact h t ht
  · obtain ⟨k, hk, rfl⟩ := List.mem_map.1 ht; exact ha k (List.mem_range.1 hk)
theorem soH_fresh (H : List Glue) {n : ByteArray} (h : nHole ≠ n) : freshT [soHole H] n := fun t ht => by rw [List.mem_singleton] at ht; rw [ht]; exact h
theorem soT1_fresh {H : List Glue} {n : ByteArray} {i : Nat} (h0 : nHole ≠ n) (h1 : ∀ j, j < i → nm1 pTake j ≠ n) : freshT (soT1 H i) n := soX_fresh (soH_fresh H h0) h1
theorem soT2_fresh {H : List Glue} {b i : Nat} {n : ByteArray} (h0 : nHole ≠ n) (h1 : ∀ j, nm1 pTake j ≠ n) (h2 : ∀ v w, v < i → nm [([107], v), ([95], w)] [] ≠ n) : freshT (soT2 H b i) n := fun t ht => by
  rcases List.mem_append.1 ht with ht | ht
  · exact soT1_fresh h0 (fun j _ => h1 j) t ht
  · obtain ⟨v, hv, ht⟩ := List.mem_flatMap.1 ht; obtain ⟨w, hw, rfl⟩ := List.mem_map.1 ht; exact h2 v w (List.mem_range.1 hv)
theorem soT3_fresh {H : List Glue} {b i : Nat} {n : ByteArray} (h0 : nHole ≠ n) (h1 : ∀ j, nm1 pTake j ≠ n) (h2 : ∀ v w, nm [([107], v), ([95], w)] [] ≠ n) (h3 : ∀ j, j < i → nm1 pGive j ≠ n) : freshT (soT3 H b i) n := soX_fresh (soT2_fresh h0 h1 (fun v w _ => h2 v w)) h3
theorem soT4_fresh {H : List Glue} {b i : Nat} {n : ByteArray} (h0 : nHole ≠ n) (h1 : ∀ j, nm1 pTake j ≠ n) (h2 : ∀ v w, nm [([107], v), ([95], w)] [] ≠ n) (h3 : ∀ j, nm1 pGive j ≠ n) (h4 : ∀ j, j < i → nm1 pRow j ≠ n) : freshT (soT4 H b i) n := soX_fresh (soT3_fresh h0 h1 h2 (fun j _ => h3 j)) h4
theorem k2 {v w : Nat} {q : List UInt8} {j : Nat} (hq : okW q = true) : nm [([107], v), ([95], w)] [] ≠ nm1 q j := nm_ne (a := [([107], v), ([95], w)]) (b := [(q, j)]) (t := []) (u := []) (by rfl) (by simp [okNm, hq]; rfl) (by simp)
theorem k2l {v w : Nat} {u : List UInt8} (hu : okW u = true) : nm [([107], v), ([95], w)] [] ≠ ⟨⟨u⟩⟩ := nm_ne (a := [([107], v), ([95], w)]) (b := []) (t := []) (u := u) (by rfl) (by simpa [okNm] using hu) (by simp)
theorem k2k {v w x y : Nat} (h : ¬ (v = x ∧ w = y)) : nm [([107], v), ([95], w)] [] ≠ nm [([107], x), ([95], y)] [] := nm_ne (a := [([107], v), ([95], w)]) (b := [([107], x), ([95], y)]) (t := []) (u := []) (by rfl) (by rfl) (by simp; omega)
theorem frTake (H : List Glue) (i : Nat) : freshT (soT1 H i) (nm1 pTake i) := soT1_fresh (pLl (by rfl) (by rfl)) fun j hj => nm_ne (by rfl) (by rfl) (by simp; omega)
theorem frK (H : List Glue) (b i c : Nat) : freshT (soX (soT2 H b i) (soKt H i) c) (nm [([107], i), ([95], c)] []) := soX_fresh (soT2_fresh (fun e => k2l (by rfl) e.symm) (fun j e => k2 (by rfl) e.symm) (fun v w hv => k2k (by omega))) fun j hj => k2k (by omega)
theorem frGive (H : List Glue) (b i : Nat) : freshT (soT3 H b i) (nm1 pGive i) := soT3_fresh (pLl (by rfl) (by rfl)) (fun j => pW (by rfl) (by rfl) (by decide)) (fun v w => k2 (by rfl)) fun j hj => nm_ne (by rfl) (by rfl) (by simp; omega)
theorem frRow (H : List Glue) (b i : Nat) : freshT (soT4 H b i) (nm1 pRow i) := soT4_fresh (pLl (by rfl) (by rfl)) (fun j => pW (by rfl) (by rfl) (by decide)) (fun v w => k2 (by rfl)) (fun j => pW (by rfl) (by rfl) (by decide)) fun j hj => nm_ne (by rfl) (by rfl) (by simp; omega)
theorem frS (H : List Glue) (b i : Nat) : freshS (soT4 H b i) :=
  ⟨soT4_fresh (by decide) (fun j => pL (by rfl) (by rfl)) (fun v w => k2l (by rfl)) (fun j => pL (by rfl) (by rfl)) (fun j _ => pL (by rfl) (by rfl)),
   soT4_fresh (by decide) (fun j => pL (by rfl) (by rfl)) (fun v w => k2l (by rfl)) (fun j => pL (by rfl) (by rfl)) (fun j _ => pL (by rfl) (by rfl)),
   fun k => soT4_fresh (pLl (by rfl) (by rfl)) (fun j => pW (by rfl) (by rfl) (by decide)) (fun v w => k2 (by rfl)) (fun j => pW (by rfl) (by rfl) (by decide)) (fun j _ => pW (by rfl) (by rfl) (by decide))⟩
/-! The system. -/
def sorSys (b : Nat) (ds : List Nat) : System := ⟨⟨sdG (soG b ds.length) (ds.length + 1), sdT1 (sdG (soG b ds.length) (ds.length + 1)) (soT4 (soG b ds.length) b ds.length) nR0 gSide ds⟩, ⟨rowP (-1) (sdR (soT4 (soG b ds.length) b ds.length).length (ds.length + 2))⟩, 2⟩
def okSort (b : Int) (xs : List Int) : Bool := inR 1 6 b && inR 1 12 (xs.length : Int) && xs.all (inR 0 (b - 1))
def SorterR (b : Int) (xs : List Int) : System := if okSort b xs then sorSys b.toNat (xs.map Int.toNat) else sys0
def SorterC (b : Int) (xs : List Int) : Int := if okSort b xs then 0 else 2
theorem sort_nat {b : Int} {xs : List Int} (h : okSort b xs = true) : ∃ (n : Nat) (ds : List Nat), b = (n : Int) ∧ xs = ds.map (fun x : Nat => (x : Int)) ∧ xs.map Int.toNat = ds ∧ (1 ≤ n ∧ n ≤ 6) ∧ (1 ≤ ds.length ∧ ds.length ≤ 12) ∧ ∀ x, x ∈ ds → x ≤ 5 := by
  unfold okSort at h; rw [Bool.and_eq_true, Bool.and_eq_true, List.all_eq_true] at h; obtain ⟨⟨h1, h2⟩, h3⟩ := h; have h1 := inR_iff.1 h1; have h2 := inR_iff.1 h2; refine ⟨b.toNat, xs.map Int.toNat, by omega, ?_, rfl, by omega, by rw [List.length_map]; omega, fun x hx => ?_⟩
  · rw [List.map_map]
    conv => lhs; rw [← List.map_id xs]
    refine List.map_congr_left fun x hx => ?_; have := inR_iff.1 (h3 x hx); show x = ((x.toNat : Nat) : Int)
    omega
  · obtain ⟨y, hy, rfl⟩ := List.mem_map.1 hx; have := inR_iff.1 (h3 y hy); omega
theorem soA_sm {b : Nat} (hb : b ≤ 1000) : smG (soA b) := smG_app (soN_sm (fun g hg => by cases hg) (by simp) (by decide) hb) (smG_one (lit_size (by simp)) (by decide) (by decide))
theorem soG_sm {b i : Nat} (hb : b ≤ 1000) (hi : i ≤ 1000) : smG (soG b i) :=
  soN_sm (soN_sm (smG_app (smG_app (soN_sm (soA_sm hb) (by simp) (by decide) hb) (smG_one (lit_size (by simp)) (by decide) (by decide))) (smG_one (lit_size (by simp)) (by decide) (by decide))) (by decide) (by decide) hb) (by simp) (by decide) hi
theorem soT4_sm {H : List Glue} (hH : H.length ≤ 10000) {b i : Nat} (hb : b ≤ 1000) (hi : i ≤ 1000) : smT (soT4 H b i) := by
  have one : ∀ (p : List UInt8) (j : Nat) (a b c d : ByteArray), p.length ≤ 100 → j ≤ 1000000 → (nm1 p j).size ≤ 1000 ∧ _ := fun p j a b c d hp hj => And.intro (nm1_size hp hj) (sm4 hH a b c d); intro t ht; rcases List.mem_append.1 ht with ht | ht
  · rcases List.mem_append.1 ht with ht | ht
    · rcases List.mem_append.1 ht with ht | ht
      · rcases List.mem_append.1 ht with ht | ht
        · rw [List.mem_singleton] at ht; rw [ht]; exact ⟨lit_size (by simp), sm4 hH _ _ _ _⟩
        · obtain ⟨k, hk, rfl⟩ := List.mem_map.1 ht; have := List.mem_range.1 hk; exact one _ _ _ _ _ _ (by decide) (by omega)
      · obtain ⟨v, hv, ht⟩ := List.mem_flatMap.1 ht; obtain ⟨w, hw, rfl⟩ := List.mem_map.1 ht; have := List.mem_range.1 hv; have := List.mem_range.1 hw; exact ⟨nm2_size (by simp) (by simp) (by omega) (by omega), sm4 hH _ _ _ _⟩
    · obtain ⟨k, hk, rfl⟩ := List.mem_map.1 ht; have := List.mem_range.1 hk; exact one _ _ _ _ _ _ (by decide) (by omega)
  · obtain ⟨k, hk, rfl⟩ := List.mem_map.1 ht; have := List.mem_range.1 hk; refine ⟨nm1_size (by decide) (by omega), by simp [soRow], fun y hy => ?_⟩; have h1 := sideN_in H (nm1 [114] (k + 1)); have h2 := sideN_in H gCX; have h3 := sideN_in H (nm1 [114] k); simp only [soRow, List.mem_cons, List.not_mem_nil, or_false] at hy; rcases hy with rfl | rfl | rfl | rfl <;> omega
theorem sorSys_sm {b : Nat} {ds : List Nat} (hb : b ≤ 6) (hd : ds.length ≤ 12) : smS (sorSys b ds) := by unfold sorSys; have hbb : b * b ≤ 36 := Nat.mul_le_mul hb hb; exact sd_sm (soG_sm (by omega) (by omega)) (by rw [soG_len]; omega) (soT4_sm (by rw [soG_len]; omega) (by omega) (by omega)) (by rw [soT4_len]; omega) _ _ (by omega) (by omega) (by omega)
theorem SorterR_sm (b : Int) (xs : List Int) : smS (SorterR b xs) := by
  unfold SorterR; cases h : okSort b xs with
  | false => exact sys0_sm
  | true => obtain ⟨n, ds, rfl, _, e, h1, h2, h3⟩ := sort_nat h; rw [e, Int.toNat_natCast]; simp only [if_true]; exact sorSys_sm h1.2 h2.2
end Go.Proofs.YtbflchedmfeghaaDoor
