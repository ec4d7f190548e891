/- Laws that the proof stands on. -/
import Derived.Test.YtlmkgjigldmbaaaDoorZg16
import Derived.Test.YtlmkgjigldmbaaaDoorZg12
import Derived.Test.YtlmkgjigldmbaaaDoorZg11
set_option linter.all false
namespace Go.Proofs.YtlmkgjigldmbaaaDoor
open Go.RowKit Go.V
set_option maxRecDepth 100000
def cE : ByteArray := ⟨⟨[]⟩⟩
def catL {α : Type} (f : α → ByteArray) (l : List α) : ByteArray := l.foldl (fun a x => a ++ f x) cE
theorem cE_app (a : ByteArray) : cE ++ a = a := by apply ba_ext; simp [cE]
theorem app_cE (a : ByteArray) : a ++ cE = a := by apply ba_ext; simp [cE]
theorem ba_assoc (a b c : ByteArray) : a ++ b ++ c = a ++ (b ++ c) := by apply ba_ext; simp
theorem ba_size (a b : ByteArray) : (a ++ b).size = a.size + b.size := by simp
theorem catL_snoc {α : Type} (f : α → ByteArray) (l : List α) (x : α) : catL f (l ++ [x]) = catL f l ++ f x := by simp [catL]
theorem catL_take {α : Type} (f : α → ByteArray) {l : List α} {i : Nat} {x : α} (hx : l[i]? = some x) : catL f (l.take (i + 1)) = catL f (l.take i) ++ f x := by rw [List.take_add_one, hx]; exact catL_snoc f _ x
theorem foldB_size {α : Type} (f : α → ByteArray) : ∀ (l : List α) (a : ByteArray), (l.foldl (fun a x => a ++ f x) a).size = a.size + (l.map fun x => (f x).size).sum
  | [], a => by simp
  | x :: l, a => by rw [List.foldl_cons, foldB_size f l (a ++ f x), ba_size, List.map_cons, List.sum_cons]; omega
theorem catL_size {α : Type} (f : α → ByteArray) (l : List α) : (catL f l).size = (l.map fun x => (f x).size).sum := by have := foldB_size f l cE; have h0 : cE.size = 0 := rfl; unfold catL; omega
theorem sumB_take {α : Type} (f : α → Nat) (l : List α) (i : Nat) : ((l.take i).map f).sum ≤ (l.map f).sum := by have h : (l.map f).sum = ((l.take i).map f).sum + ((l.drop i).map f).sum := (by rw [← List.sum_append, ← List.map_append, List.take_append_drop]); omega
def wProof : ByteArray := ⟨⟨[112, 114, 111, 111, 102]⟩⟩
def wPut : ByteArray := ⟨⟨[112, 117, 116]⟩⟩
def wOther : ByteArray := ⟨⟨[111, 116, 104, 101, 114]⟩⟩
def wPart : ByteArray := ⟨⟨[112, 97, 114, 116]⟩⟩
def wFlow : ByteArray := ⟨⟨[102, 108, 111, 119]⟩⟩
def numW (w : ByteArray) (xs : List Int) : ByteArray := lineB (w :: xs.map decS)
def optW (w : ByteArray) (o : Option) : ByteArray := numW w [o.At.X, o.At.Y, o.Tile]
def nameP (k : Int) : ByteArray := if k = 1 then ⟨⟨[103, 114, 111, 119, 110]⟩⟩ else if k = 2 then ⟨⟨[116, 101, 114, 109, 105, 110, 97, 108]⟩⟩ else if k = 3 then ⟨⟨[117, 110, 105, 113, 117, 101]⟩⟩ else if k = 4 then ⟨⟨[99, 111, 110, 102, 108, 105, 99, 116]⟩⟩ else if k = 5 then ⟨⟨[115, 116, 97, 98, 108, 101]⟩⟩ else if k = 6 then ⟨⟨[108, 111, 111, 115, 101]⟩⟩ else cE
theorem nameP_size (k : Int) : (nameP k).size ≤ 8 := by unfold nameP; repeat' split <;> first | decide | skip
theorem nameP_none {k : Int} (h : inR 1 6 k = false) : nameP k = cE := by
  have h' : ¬ (1 ≤ k ∧ k ≤ 6) := fun e => by rw [inR_iff.2 e] at h; cases h
  unfold nameP; rw [if_neg (by omega), if_neg (by omega), if_neg (by omega), if_neg (by omega), if_neg (by omega), if_neg (by omega)]
theorem nameP_some {k : Int} (h : inR 1 6 k = true) : decide (nameP k = cE) = false := by have h' := inR_iff.1 h; have hk : k = 1 ∨ k = 2 ∨ k = 3 ∨ k = 4 ∨ k = 5 ∨ k = 6 := (by omega); rcases hk with rfl | rfl | rfl | rfl | rfl | rfl <;> decide
def pT0 (p : Proof) : ByteArray := lineB [wProof, nameP p.Kind]
def pT1 (p : Proof) : ByteArray := pT0 p ++ catL (optW wPut) p.Sequence
def pT2 (p : Proof) : ByteArray := pT1 p ++ catL (optW wOther) p.Other
def pT3 (p : Proof) : ByteArray := if p.Part.length = 0 then pT2 p else pT2 p ++ numW wPart p.Part
def proofT (p : Proof) : ByteArray := if inR 1 6 p.Kind then pT3 p ++ catL (numW wFlow) p.Flows else cE
def okI (xs : List Int) : Prop := ∀ x, x ∈ xs → InK .i64 x
theorem numW_size {w : ByteArray} (hw : w.size ≤ 5) {xs : List Int} (h : okI xs) : (numW w xs).size ≤ 21 * (xs.length + 1) := by
  have := lineB_le (w := w) (ws := xs.map decS) (n := 20) (by omega) (fun x hx => by
    obtain ⟨y, hy, rfl⟩ := List.mem_map.1 hx; exact decS_size y (h y hy))
  rw [List.length_map] at this; exact this
theorem optW_size {w : ByteArray} (hw : w.size ≤ 5) {o : Option} (h : Option.td.ok o) : (optW w o).size ≤ 84 := by
  rw [Option.td_ok, Point.td_ok] at h; refine numW_size hw (xs := [o.At.X, o.At.Y, o.Tile]) (fun x hx => ?_); simp only [List.mem_cons, List.not_mem_nil, or_false] at hx; rcases hx with rfl | rfl | rfl
  · exact h.1.1
  · exact h.1.2
  · exact h.2
theorem sumK_le {α : Type} {f : α → Nat} {K : Nat} : ∀ {l : List α}, (∀ x, x ∈ l → f x ≤ K) → (l.map f).sum ≤ K * l.length
  | [], _ => by simp
  | x :: l, h => by have h1 := h x (by simp); have h2 := sumK_le (l := l) (fun y hy => h y (by simp [hy])); simp only [List.map_cons, List.sum_cons, List.length_cons, Nat.mul_add, Nat.mul_one]; omega
theorem optL_size {w : ByteArray} (hw : w.size ≤ 5) {os : List Option} (h : ∀ o, o ∈ os → Option.td.ok o) (i : Nat) : (catL (optW w) (os.take i)).size ≤ 84 * os.length := by rw [catL_size]; have h1 := sumB_take (fun o => (optW w o).size) os i; have h2 := sumK_le (f := fun o => (optW w o).size) (K := 84) (l := os) (fun o ho => optW_size hw (h o ho)); omega
theorem flowL_size {fs : List (List Int)} (h : ∀ y, y ∈ fs → okI y) (i : Nat) : (catL (numW wFlow) (fs.take i)).size ≤ 21 * (fs.map fun x => x.length + 1).sum := by
  rw [catL_size]; have h1 := sumB_take (fun o => (numW wFlow o).size) fs i; have h2 : (fs.map fun o => (numW wFlow o).size).sum ≤ 21 * (fs.map fun x => x.length + 1).sum := by
    clear h1; induction fs with
    | nil => simp
    | cons x fs ih => have h3 := numW_size (w := wFlow) (by decide) (h x (by simp)); have h4 := ih (fun y hy => h y (by simp [hy])); simp only [List.map_cons, List.sum_cons, Nat.mul_add]; omega
  omega
theorem pT0_size (p : Proof) : (pT0 p).size ≤ 18 := lineB_le (n := 8) (by decide) (fun x hx => by
  rw [List.mem_singleton] at hx; rw [hx]; exact nameP_size _)
end Go.Proofs.YtlmkgjigldmbaaaDoor
