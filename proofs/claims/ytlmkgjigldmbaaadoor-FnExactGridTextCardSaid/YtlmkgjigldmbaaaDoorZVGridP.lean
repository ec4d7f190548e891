/- Laws that the proof stands on. -/
import Derived.Test.YtlmkgjigldmbaaaDoorZVLine
import Derived.Test.YtlmkgjigldmbaaaDoorZg12
import Derived.Test.YtlmkgjigldmbaaaDoorZg15
set_option linter.all false
namespace Go.Proofs.YtlmkgjigldmbaaaDoor
open Go.RowKit Go.V
set_option maxRecDepth 100000
theorem ba_size2 (a b : ByteArray) : (a ++ b).size = a.size + b.size := by simp
theorem ba_assoc2 (a b c : ByteArray) : a ++ b ++ c = a ++ (b ++ c) := by apply ba_ext; simp
theorem bytesI_app (a b : ByteArray) : bytesI (a ++ b) = bytesI a ++ bytesI b := by unfold bytesI; rw [← List.map_append]; simp
theorem bytesI_len (a : ByteArray) : (bytesI a).length = a.size := by unfold bytesI; rw [List.length_map, Array.length_toList]; rfl
theorem strI_bytes (a : ByteArray) : strI (bytesI a) = a := by
  unfold strI bytesI; apply ba_ext; rw [List.map_map]; simp only [Function.comp_def, Int.toNat_natCast]; have h : ∀ l : List UInt8, l.map (fun x => UInt8.ofNat x.toNat) = l := fun l => by
    induction l with
    | nil => rfl
    | cons x l ih => rw [List.map_cons, ih, UInt8.ofNat_toNat]
  rw [h]
def wordG (ps : List Placed) (x y : Int) : ByteArray := if 0 ≤ tileA ps ⟨x, y⟩ then decS (tileA ps ⟨x, y⟩) else ⟨⟨[46]⟩⟩
def rowG (ps : List Placed) (lx y : Int) (i : Nat) : List ByteArray := (List.range i).map fun k => wordG ps (lx + (k : Nat)) y
theorem rowG_next (ps : List Placed) (lx y : Int) (i : Nat) : rowG ps lx y (i + 1) = rowG ps lx y i ++ [wordG ps (lx + (i : Nat)) y] := by unfold rowG; rw [List.range_succ, List.map_append]; rfl
theorem rowG_len (ps : List Placed) (lx y : Int) (i : Nat) : (rowG ps lx y i).length = i := by unfold rowG; rw [List.length_map, List.length_range]
def gridG (ps : List Placed) (lx hy : Int) (n : Nat) : Nat → ByteArray
  | 0 => ⟨⟨[]⟩⟩
  | j + 1 => gridG ps lx hy n j ++ lineB (rowG ps lx (hy - (j : Nat)) n)
theorem tileG_in {ps : List Placed} (p : Point) (h : ∀ q, q ∈ ps → InK .i64 q.Tile) : InK .i64 (tileA ps p) := by
  unfold tileA; split
  · split
    · rename_i x hx; exact h x (List.mem_of_getElem? hx)
    · exact ⟨by omega, by omega⟩
  · exact ⟨by omega, by omega⟩
theorem wordG_size {ps : List Placed} (h : ∀ q, q ∈ ps → InK .i64 q.Tile) (x y : Int) : (wordG ps x y).size ≤ 20 := by
  unfold wordG; split
  · exact decS_size _ (tileG_in _ h)
  · show 1 ≤ 20; omega
theorem rowG_mem {ps : List Placed} (h : ∀ q, q ∈ ps → InK .i64 q.Tile) {lx y : Int} {i : Nat} {w : ByteArray} (hw : w ∈ rowG ps lx y i) : w.size ≤ 20 := by obtain ⟨k, _, rfl⟩ := List.mem_map.1 hw; exact wordG_size h _ _
theorem lineR_size {ps : List Placed} (h : ∀ q, q ∈ ps → InK .i64 q.Tile) (lx y : Int) {n : Nat} (hn : n ≤ 121) : (lineB (rowG ps lx y n)).size ≤ 2563 := by
  have hl := rowG_len ps lx y n; have hm : ∀ w, w ∈ rowG ps lx y n → w.size ≤ 20 := fun w hw => rowG_mem h hw; generalize rowG ps lx y n = r at *; cases r with
  | nil => decide
  | cons w ws => have hq := lineB_le (w := w) (ws := ws) (n := 20) (hm w (by simp)) (fun x hx => hm x (by simp [hx])); rw [List.length_cons] at hl; have : (20 + 1) * (ws.length + 1) ≤ 2563 := (by omega); omega
theorem gridG_size {ps : List Placed} (h : ∀ q, q ∈ ps → InK .i64 q.Tile) (lx hy : Int) {n : Nat} (hn : n ≤ 121) : ∀ j, (gridG ps lx hy n j).size ≤ 2563 * j
  | 0 => Nat.le_refl _
  | j + 1 => by have h1 := gridG_size h lx hy hn j; have h2 := lineR_size h lx (hy - (j : Nat)) hn; show (gridG ps lx hy n j ++ lineB (rowG ps lx (hy - (j : Nat)) n)).size ≤ _; rw [ba_size2]; omega
theorem lineG_pos (ws : List ByteArray) : 0 < (lineB ws).size := by have : (lineB ws).size = (joinB ws cSp).size + 1 := (by unfold lineB cNl; rw [ba_size2]; rfl); omega
theorem gridG_pos (ps : List Placed) (lx hy : Int) (n : Nat) {j : Nat} (hj : 0 < j) : 0 < (gridG ps lx hy n j).size := by
  cases j with
  | zero => omega
  | succ j => show 0 < (gridG ps lx hy n j ++ lineB (rowG ps lx (hy - (j : Nat)) n)).size; have := lineG_pos (rowG ps lx (hy - (j : Nat)) n); rw [ba_size2]; omega
theorem joinT_snoc (s : List UInt8) (y : List UInt8) : ∀ xs : List (List UInt8), Lib.joinTail s (xs ++ [y]) = Lib.joinTail s xs ++ (s ++ y) := by intro xs; unfold Lib.joinTail; simp
theorem joinB_one (w : ByteArray) : joinB [w] cSp = w := by apply ba_ext; unfold joinB; rw [List.map_cons, Lib.join_cons]; simp [Lib.joinTail]
theorem joinB_snoc {ws : List ByteArray} (h : 0 < ws.length) (w : ByteArray) : joinB (ws ++ [w]) cSp = (joinB ws cSp ++ ⟨⟨[32]⟩⟩) ++ w := by
  cases ws with
  | nil => cases h
  | cons v ws => apply ba_ext; unfold joinB cSp; rw [List.cons_append, List.map_cons, List.map_cons, Lib.join_cons, Lib.join_cons, List.map_append, List.map_cons, List.map_nil, joinT_snoc]; simp
def wdG (ps : List Placed) : Nat := ((hiP (ptsOf ps)).X - (loP (ptsOf ps)).X + 1).toNat
def htG (ps : List Placed) : Nat := ((hiP (ptsOf ps)).Y - (loP (ptsOf ps)).Y + 1).toNat
def gridT (ps : List Placed) : ByteArray := gridG ps (loP (ptsOf ps)).X (hiP (ptsOf ps)).Y (wdG ps) (htG ps)
def gridR (a : TileSet) (b : Assembly) : ByteArray := if okSet a && okAsm a b && decide (b.Tiles.length ≠ 0) then gridT b.Tiles else ⟨⟨[]⟩⟩
structure GSm (ps : List Placed) (lx hx ly hy : Int) (w h : Nat) : Prop where
  lo : loP (ptsOf ps) = ⟨lx, ly⟩
  hi : hiP (ptsOf ps) = ⟨hx, hy⟩
  ew : (w : Int) = hx - lx + 1
  eh : (h : Int) = hy - ly + 1
  w0 : 0 < w ∧ w ≤ 121
  h0 : 0 < h ∧ h ≤ 121
  x : -60 ≤ lx ∧ lx ≤ 60
  y : -60 ≤ ly ∧ ly ≤ 60
  e : gridT ps = gridG ps lx hy w h
theorem gsm {ps : List Placed} (h : okForm ps = true) (h0 : 0 < ps.length) : ∃ lx hx ly hy w h, GSm ps lx hx ly hy w h := by
  have h0' : 0 < (ptsOf ps).length := (by rw [pts_len]; exact h0); have a := area_facts (form_pts h) h0'; have b := form_pts h; refine ⟨(loP (ptsOf ps)).X, (hiP (ptsOf ps)).X, (loP (ptsOf ps)).Y, (hiP (ptsOf ps)).Y, wdG ps, htG ps, rfl, rfl, ?_, ?_, ?_, ?_, ?_, ?_, rfl⟩
  · unfold wdG; omega
  · unfold htG; omega
  · unfold wdG; omega
  · unfold htG; omega
  all_goals
    generalize ptsOf ps = q at *; cases q with
    | nil => simp at h0'
    | cons p q => have hp := b p (by simp); have a1 := mnF_in (f := (·.X)) (p :: q) p.X hp.1 (fun r hr => (b r hr).1); have a2 := mnF_in (f := (·.Y)) (p :: q) p.Y hp.2 (fun r hr => (b r hr).2); simp only [loP]; omega
end Go.Proofs.YtlmkgjigldmbaaaDoor
