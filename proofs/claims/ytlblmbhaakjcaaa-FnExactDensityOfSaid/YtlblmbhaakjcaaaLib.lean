import Derived.WalkKit
import Derived.ProofKit
import Derived.WalkSpells
import Derived.WalkLawsBesides
import Derived.Handy
import Derived.Lib.Hide
import Derived.Deep.QuietTactic
import Derived.BigQuiet
import Derived.Deep.OwnRows
import Derived.Deep.Slices
import Derived.Deep.DeepCutAuto
import Derived.Deep.LoopGhost
import Derived.Deep.DeepFit
import Derived.Laws.ResultCell
import Derived.Deep.MidRow
import Derived.Deep.RegionHeld3
set_option linter.all false
namespace Go.Proofs.Ytlblmbhaakjcaaa
open Go.RowKit Go.ChangeShapes Go.WideShapes Go.Deep

/-- The numbers of a kind. -/
def InK : IntKind → Int → Prop
  | .i64, n => -9223372036854775808 ≤ n ∧ n ≤ 9223372036854775807
  | .u8, n => 0 ≤ n ∧ n ≤ 255
  | .i32, n => -2147483648 ≤ n ∧ n ≤ 2147483647
  | .u64, n => 0 ≤ n ∧ n ≤ 18446744073709551615
  | .u32, n => 0 ≤ n ∧ n ≤ 4294967295
  | .u16, n => 0 ≤ n ∧ n ≤ 65535
  | .i16, n => -32768 ≤ n ∧ n ≤ 32767
  | .i8, n => -128 ≤ n ∧ n ≤ 127

theorem InK.of_wf {k : IntKind} {n : Int} (h : (Lit.int k n).wf = true) : InK k n := by
  cases k <;> simp [Lit.wf, IntKind.min, IntKind.max, IntKind.signed, IntKind.bits] at h <;> (unfold InK; omega)

/-! ### Rows: the cells of a list of elements, one behind the other -/
def RowsR {α : Type} (R : List Value → α → Prop) : List Value → List α → Prop
  | raw, [] => raw = []
  | raw, x :: xs => ∃ cs raw', raw = cs ++ raw' ∧ R cs x ∧ RowsR R raw' xs

def RowsO {α : Type} (R : List Value → α → List Nat → Prop) : List Value → List α → List Nat → Prop
  | raw, [], F => raw = [] ∧ F = []
  | raw, x :: xs, F => ∃ cs raw' F1 F2, raw = cs ++ raw' ∧ F = F1 ++ F2 ∧ R cs x F1 ∧ RowsO R raw' xs F2

theorem RowsR.mono {α : Type} {R R' : List Value → α → Prop} (h : ∀ cs x, R cs x → R' cs x) : ∀ {raw : List Value} {xs : List α}, RowsR R raw xs → RowsR R' raw xs
  | _, [], hr => hr
  | _, _ :: _, ⟨cs, raw', e, hx, hr⟩ => ⟨cs, raw', e, h _ _ hx, RowsR.mono h hr⟩

theorem RowsR.snoc {α : Type} {R : List Value → α → Prop} {cs : List Value} {x : α} (hx : R cs x) : ∀ {raw : List Value} {xs : List α}, RowsR R raw xs → RowsR R (raw ++ cs) (xs ++ [x])
  | raw, [], hr => by
    have e : raw = [] := hr
    subst e
    exact ⟨cs, [], by simp, hx, rfl⟩
  | _, _ :: _, ⟨c1, raw', e, h1, hr⟩ => ⟨c1, raw' ++ cs, by rw [e, List.append_assoc], h1, RowsR.snoc hx hr⟩

theorem RowsR.len {α : Type} {R : List Value → α → Prop} {size : Nat} (h : ∀ cs x, R cs x → cs.length = size) : ∀ {raw : List Value} {xs : List α}, RowsR R raw xs → raw.length = xs.length * size
  | raw, [], hr => by
    have e : raw = [] := hr
    simp [e]
  | _, x :: xs, ⟨cs, raw', e, hx, hr⟩ => by
    rw [e, List.length_append, h _ _ hx, RowsR.len h hr, List.length_cons, Nat.add_mul, Nat.one_mul, Nat.add_comm]

/-- The cells of element k. -/
theorem RowsR.get {α : Type} {R : List Value → α → Prop} {size : Nat} (h : ∀ cs x, R cs x → cs.length = size) : ∀ {raw : List Value} {xs : List α}, RowsR R raw xs → ∀ k (hk : k < xs.length),
    ∃ cs, R cs xs[k] ∧ ∀ j u, cs[j]? = some u → raw[k * size + j]? = some u
  | _, [], _, k, hk => absurd hk (by simp)
  | _, x :: xs, ⟨cs, raw', e, hx, hr⟩, 0, _ => by
    refine ⟨cs, hx, fun j u hu => ?_⟩
    rw [e, Nat.zero_mul, Nat.zero_add, List.getElem?_append_left (List.getElem?_eq_some_iff.1 hu).1]
    exact hu
  | _, x :: xs, ⟨cs, raw', e, hx, hr⟩, k + 1, hk => by
    obtain ⟨c, hc, hj⟩ := RowsR.get h hr k (by simpa using hk)
    refine ⟨c, by simpa using hc, fun j u hu => ?_⟩
    have hl := h _ _ hx
    rw [e, List.getElem?_append_right (by rw [hl, Nat.add_mul]; omega), hl, Nat.add_mul, Nat.one_mul]
    rw [show k * size + size + j - size = k * size + j by omega]
    exact hj j u hu

theorem RowsO.toR {α : Type} {R : List Value → α → List Nat → Prop} {R' : List Value → α → Prop} {P : Nat → Prop} (h : ∀ cs x F, R cs x F → (∀ b, b ∈ F → P b) → R' cs x) :
    ∀ {raw : List Value} {xs : List α} {F : List Nat}, RowsO R raw xs F → (∀ b, b ∈ F → P b) → RowsR R' raw xs
  | _, [], _, ⟨hr, _⟩, _ => hr
  | _, _ :: _, _, ⟨cs, raw', F1, F2, e, eF, hx, hr⟩, hP =>
    ⟨cs, raw', e, h _ _ _ hx (fun b hb => hP b (by rw [eF]; exact List.mem_append_left _ hb)), RowsO.toR h hr (fun b hb => hP b (by rw [eF]; exact List.mem_append_right _ hb))⟩

theorem RowsO.mono {α : Type} {R R' : List Value → α → List Nat → Prop} {P : Nat → Prop} (h : ∀ cs x F, R cs x F → (∀ b, b ∈ F → P b) → R' cs x F) :
    ∀ {raw : List Value} {xs : List α} {F : List Nat}, RowsO R raw xs F → (∀ b, b ∈ F → P b) → RowsO R' raw xs F
  | _, [], _, hr, _ => hr
  | _, _ :: _, _, ⟨cs, raw', F1, F2, e, eF, hx, hr⟩, hP =>
    ⟨cs, raw', F1, F2, e, eF, h _ _ _ hx (fun b hb => hP b (by rw [eF]; exact List.mem_append_left _ hb)), RowsO.mono h hr (fun b hb => hP b (by rw [eF]; exact List.mem_append_right _ hb))⟩

theorem RowsO.snoc {α : Type} {R : List Value → α → List Nat → Prop} {cs : List Value} {x : α} {G : List Nat} (hx : R cs x G) :
    ∀ {raw : List Value} {xs : List α} {F : List Nat}, RowsO R raw xs F → RowsO R (raw ++ cs) (xs ++ [x]) (F ++ G)
  | raw, [], F, ⟨hr, hF⟩ => by
    subst hr; subst hF
    exact ⟨cs, [], G, [], by simp, by simp, hx, rfl, rfl⟩
  | _, _ :: _, _, ⟨c1, raw', F1, F2, e, eF, h1, hr⟩ => ⟨c1, raw' ++ cs, F1, F2 ++ G, by rw [e, List.append_assoc], by rw [eF, List.append_assoc], h1, RowsO.snoc hx hr⟩

theorem RowsO.len {α : Type} {R : List Value → α → List Nat → Prop} {size : Nat} (h : ∀ cs x F, R cs x F → cs.length = size) {raw : List Value} {xs : List α} {F : List Nat} (hr : RowsO R raw xs F) : raw.length = xs.length * size :=
  RowsR.len (R := fun cs x => ∃ F, R cs x F) (fun cs x ⟨F, hF⟩ => h cs x F hF) (RowsO.toR (P := fun _ => True) (fun _ _ F hF _ => ⟨F, hF⟩) hr (fun _ _ => trivial))

/-! ### Types of data, how they lie in memory -/
structure Ty (α : Type) where
  size : Nat
  rep : World → Nat → List Value → α → Prop
  own : World → List Value → α → List Nat → Prop
  rep_len : ∀ {w B cs x}, rep w B cs x → cs.length = size
  own_len : ∀ {w cs x F}, own w cs x F → cs.length = size
  rep_keep : ∀ {w w' B cs x}, (∀ b, b < B → w'.heap[b]? = w.heap[b]?) → rep w B cs x → rep w' B cs x
  rep_mono : ∀ {w B B' cs x}, B ≤ B' → rep w B cs x → rep w B' cs x
  own_keep : ∀ {w w' cs x F}, (∀ b, b ∈ F → w'.heap[b]? = w.heap[b]?) → own w cs x F → own w' cs x F
  own_rep : ∀ {w cs x F B}, own w cs x F → (∀ b, b ∈ F → b < B) → rep w B cs x
  rep_one : ∀ {w B cs x}, rep w B cs x → ∀ u, u ∈ cs → u.oneCell' = true

namespace Ty
variable {α β : Type}

theorem own_lt (t : Ty α) {w : World} {cs : List Value} {x : α} {F : List Nat} (h : t.own w cs x F) : t.rep w (F.foldr (fun b m => max (b + 1) m) 0) cs x :=
  t.own_rep h (fun b hb => by
    induction F with
    | nil => cases hb
    | cons c F ih =>
      simp only [List.foldr_cons]
      have key : ∀ (F : List Nat) (b : Nat), b ∈ F → b < F.foldr (fun b m => max (b + 1) m) 0 := by
        intro F
        induction F with
        | nil => intro b hb; cases hb
        | cons c F ih => intro b hb; simp only [List.foldr_cons]; rcases List.mem_cons.1 hb with rfl | hb; omega; have := ih b hb; omega
      have := key (c :: F) b hb
      simpa using this)

theorem own_one (t : Ty α) {w : World} {cs : List Value} {x : α} {F : List Nat} (h : t.own w cs x F) : ∀ u, u ∈ cs → u.oneCell' = true := t.rep_one (t.own_lt h)

/-- A whole number of a kind. -/
def int (k : IntKind) : Ty Int where
  size := 1
  rep := fun _ _ cs x => cs = [.int k x] ∧ InK k x
  own := fun _ cs x F => cs = [.int k x] ∧ InK k x ∧ F = []
  rep_len := fun h => by rw [h.1]; rfl
  own_len := fun h => by rw [h.1]; rfl
  rep_keep := fun _ h => h
  rep_mono := fun _ h => h
  own_keep := fun _ h => h
  own_rep := fun h _ => ⟨h.1, h.2.1⟩
  rep_one := fun h u hu => by rw [h.1] at hu; simp at hu; subst hu; rfl

def bool : Ty Bool where
  size := 1
  rep := fun _ _ cs x => cs = [.bool x]
  own := fun _ cs x F => cs = [.bool x] ∧ F = []
  rep_len := fun h => by rw [h]; rfl
  own_len := fun h => by rw [h.1]; rfl
  rep_keep := fun _ h => h
  rep_mono := fun _ h => h
  own_keep := fun _ h => h
  own_rep := fun h _ => h.1
  rep_one := fun h u hu => by rw [h] at hu; simp at hu; subst hu; rfl

def str : Ty ByteArray where
  size := 1
  rep := fun _ _ cs x => cs = [.string x] ∧ x.size ≤ maxLen
  own := fun _ cs x F => cs = [.string x] ∧ x.size ≤ maxLen ∧ F = []
  rep_len := fun h => by rw [h.1]; rfl
  own_len := fun h => by rw [h.1]; rfl
  rep_keep := fun _ h => h
  rep_mono := fun _ h => h
  own_keep := fun _ h => h
  own_rep := fun h _ => ⟨h.1, h.2.1⟩
  rep_one := fun h u hu => by rw [h.1] at hu; simp at hu; subst hu; rfl

/-- Nothing. -/
def unit : Ty Unit where
  size := 0
  rep := fun _ _ cs _ => cs = []
  own := fun _ cs _ F => cs = [] ∧ F = []
  rep_len := fun h => by rw [h]; rfl
  own_len := fun h => by rw [h.1]; rfl
  rep_keep := fun _ h => h
  rep_mono := fun _ h => h
  own_keep := fun _ h => h
  own_rep := fun h _ => h.1
  rep_one := fun h u hu => by rw [h] at hu; cases hu

/-- One behind the other. -/
def prod (t : Ty α) (s : Ty β) : Ty (α × β) where
  size := t.size + s.size
  rep := fun w B cs x => ∃ c1 c2, cs = c1 ++ c2 ∧ t.rep w B c1 x.1 ∧ s.rep w B c2 x.2
  own := fun w cs x F => ∃ c1 c2 F1 F2, cs = c1 ++ c2 ∧ F = F1 ++ F2 ∧ t.own w c1 x.1 F1 ∧ s.own w c2 x.2 F2
  rep_len := fun ⟨_, _, e, h1, h2⟩ => by rw [e, List.length_append, t.rep_len h1, s.rep_len h2]
  own_len := fun ⟨_, _, _, _, e, _, h1, h2⟩ => by rw [e, List.length_append, t.own_len h1, s.own_len h2]
  rep_keep := fun hk ⟨c1, c2, e, h1, h2⟩ => ⟨c1, c2, e, t.rep_keep hk h1, s.rep_keep hk h2⟩
  rep_mono := fun hB ⟨c1, c2, e, h1, h2⟩ => ⟨c1, c2, e, t.rep_mono hB h1, s.rep_mono hB h2⟩
  own_keep := fun hk ⟨c1, c2, F1, F2, e, eF, h1, h2⟩ => ⟨c1, c2, F1, F2, e, eF, t.own_keep (fun b hb => hk b (by rw [eF]; exact List.mem_append_left _ hb)) h1, s.own_keep (fun b hb => hk b (by rw [eF]; exact List.mem_append_right _ hb)) h2⟩
  own_rep := fun ⟨c1, c2, F1, F2, e, eF, h1, h2⟩ hB => ⟨c1, c2, e, t.own_rep h1 (fun b hb => hB b (by rw [eF]; exact List.mem_append_left _ hb)), s.own_rep h2 (fun b hb => hB b (by rw [eF]; exact List.mem_append_right _ hb))⟩
  rep_one := fun ⟨_, _, e, h1, h2⟩ u hu => by
    rw [e] at hu
    rcases List.mem_append.1 hu with h | h
    · exact t.rep_one h1 u h
    · exact s.rep_one h2 u h

/-- The same cells, read as a structure. -/
def via (t : Ty β) (f : α → β) : Ty α where
  size := t.size
  rep := fun w B cs x => t.rep w B cs (f x)
  own := fun w cs x F => t.own w cs (f x) F
  rep_len := t.rep_len
  own_len := t.own_len
  rep_keep := t.rep_keep
  rep_mono := t.rep_mono
  own_keep := t.own_keep
  own_rep := t.own_rep
  rep_one := t.rep_one

/-- A slice; e: the number of its elements' type. -/
def slice (e : TypeId) (t : Ty α) : Ty (List α) where
  size := 1
  rep := fun w B cs xs => ∃ a c, cs = [.slice a xs.length c] ∧ xs.length ≤ c ∧ c ≤ maxLen ∧
    (0 < xs.length → ∃ b o raw, a = some ⟨b, o, none⟩ ∧ b < B ∧ (∀ j u, raw[j]? = some u → w.cell? ⟨b, o + j, none⟩ = some u) ∧ RowsR (t.rep w B) raw xs)
  own := fun w cs xs F => ∃ a c, cs = [.slice a xs.length c] ∧ xs.length ≤ c ∧ c ≤ maxLen ∧
    ((xs = [] ∧ F = []) ∨ ∃ b o cells ew raw F', a = some ⟨b, o, none⟩ ∧ w.heap[b]? = some (.cells cells ew (0, 0)) ∧ (∀ j u, raw[j]? = some u → cells[o + j]? = some u) ∧ RowsO (t.own w) raw xs F' ∧ F = b :: F')
  rep_len := fun ⟨_, _, e, _⟩ => by rw [e]; rfl
  own_len := fun ⟨_, _, e, _⟩ => by rw [e]; rfl
  rep_keep := fun hk ⟨a, c, e, h1, h2, h3⟩ => ⟨a, c, e, h1, h2, fun hp => by
    obtain ⟨b, o, raw, ha, hb, hc, hr⟩ := h3 hp
    exact ⟨b, o, raw, ha, hb, fun j u hu => (World.cell?_of_block (a := ⟨b, o + j, none⟩) (hk b hb)).trans (hc j u hu), hr.mono (fun _ _ => t.rep_keep hk)⟩⟩
  rep_mono := fun hB ⟨a, c, e, h1, h2, h3⟩ => ⟨a, c, e, h1, h2, fun hp => by
    obtain ⟨b, o, raw, ha, hb, hc, hr⟩ := h3 hp
    exact ⟨b, o, raw, ha, by omega, hc, hr.mono (fun _ _ => t.rep_mono hB)⟩⟩
  own_keep := fun hk ⟨a, c, e, h1, h2, h3⟩ => ⟨a, c, e, h1, h2, by
    rcases h3 with h | ⟨b, o, cells, ew, raw, F', ha, hh, hc, hr, hF⟩
    · exact .inl h
    · exact .inr ⟨b, o, cells, ew, raw, F', ha, (hk b (by rw [hF]; simp)).trans hh, hc, hr.mono (P := fun b => b ∈ F') (fun _ _ _ hx hP => t.own_keep (fun b hb => hk b (by rw [hF]; exact List.mem_cons_of_mem _ (hP b hb))) hx) (fun _ h => h), hF⟩⟩
  own_rep := fun ⟨a, c, e, h1, h2, h3⟩ hB => ⟨a, c, e, h1, h2, fun hp => by
    rcases h3 with ⟨rfl, _⟩ | ⟨b, o, cells, ew, raw, F', ha, hh, hc, hr, hF⟩
    · simp at hp
    · refine ⟨b, o, raw, ha, hB b (by rw [hF]; simp), fun j u hu => ?_, hr.toR (P := fun b => b ∈ F') (fun _ _ _ hx hP => t.own_rep hx (fun b hb => hB b (by rw [hF]; exact List.mem_cons_of_mem _ (hP b hb)))) (fun _ h => h)⟩
      rw [cell_of_row _ b (o + j) cells _ (0, 0) hh]
      exact hc j u hu⟩
  rep_one := fun ⟨_, _, e, _⟩ u hu => by rw [e] at hu; simp at hu; subst hu; rfl

theorem rep_below (t : Ty α) {w w' : World} {B : Nat} {cs : List Value} {x : α} (h : t.rep w B cs x) (hb : Below B w w') : t.rep w' B cs x := t.rep_keep (w := w) hb.block h

/-- A slice's element, in the walk. -/
theorem at_ {e : TypeId} {t : Ty α} {w : World} {B : Nat} {v : Value} {xs : List α} (h : (slice e t).rep w B [v] xs) :
    ∃ a c, v = .slice a xs.length c ∧ xs.length ≤ c ∧ c ≤ maxLen ∧ ∀ k (hk : k < xs.length), ∃ b o cs, a = some ⟨b, o, none⟩ ∧ b < B ∧ (∀ j u, cs[j]? = some u → w.cell? ⟨b, o + k * t.size + j, none⟩ = some u) ∧ t.rep w B cs xs[k] := by
  obtain ⟨a, c, hv, h1, h2, h3⟩ := h
  refine ⟨a, c, by simpa using hv, h1, h2, fun k hk => ?_⟩
  obtain ⟨b, o, raw, ha, hb, hc, hr⟩ := h3 (by omega)
  obtain ⟨cs, hx, hj⟩ := hr.get (fun _ _ => t.rep_len) k hk
  exact ⟨b, o, cs, ha, hb, fun j u hu => by rw [Nat.add_assoc]; exact hc _ u (hj j u hu), hx⟩

end Ty

/-! ### What came in, read -/
def Reads (P : Program) (T : TypeId) {α : Type} (t : Ty α) : Prop :=
  P.cellsOf T = t.size ∧ ∀ {H : Type} {enc : TypeId × Value → H} {W : World} {base : Nat} {sp : Nat → Bool} {hd : Bool} {fuel : Nat} {cs : List Value} {y : DataW H × List MemPlace},
    DataW.trod enc P W base sp hd fuel T cs = some y → ∃ x, t.rep W W.heap.size cs x

section
variable {P : Program} {T : TypeId} {α β : Type}

theorem reads_int {k : IntKind} (ht : P.underlying T = some (.int k)) (hc : P.cellsOf T = 1) : Reads P T (Ty.int k) :=
  ⟨hc, fun h => by
    obtain ⟨n, e, _, hw⟩ := DataW.trod_int ht h
    exact ⟨n, e, InK.of_wf hw⟩⟩

theorem reads_bool (ht : P.underlying T = some .bool) (hc : P.cellsOf T = 1) : Reads P T Ty.bool :=
  ⟨hc, fun h => by
    obtain ⟨n, e, _⟩ := DataW.trod_bool ht h
    exact ⟨n, e⟩⟩

theorem reads_str (ht : P.underlying T = some .string) (hc : P.cellsOf T = 1) : Reads P T Ty.str :=
  ⟨hc, fun h => by
    obtain ⟨n, e, _, hs⟩ := DataW.trod_string ht h
    exact ⟨n, e, hs⟩⟩

theorem reads_slice {e e' : TypeId} {t : Ty α} (ht : P.underlying T = some (.slice e)) (hc : P.cellsOf T = 1) (hs : 0 < t.size) (hr : Reads P e t) : Reads P T (Ty.slice e' t) :=
  ⟨hc, fun {H enc W base sp hd fuel cs y} h => by
    rcases open_slice ht h with ⟨rfl, _⟩ | ⟨a, len, cap, m, n, D, Pl, rfl, _, hl, hm, hmm, _, hi⟩
    · exact ⟨[], none, 0, rfl, Nat.le_refl _, Nat.zero_le _, fun h => absurd h (by simp)⟩
    · have hlm : len ≤ m := by rw [hmm]; split <;> omega
      have hcell : ∀ i, i < len → ∃ cs x, t.rep W W.heap.size cs x ∧ ∀ j u, cs[j]? = some u → W.cell? ((a.add (i * t.size)).add j) = some u := by
        intro i hil
        obtain ⟨cs', h1, h2⟩ := hi i (by omega)
        obtain ⟨x, hx⟩ := hr.2 h2
        obtain ⟨_, hcl, hat⟩ := World.cells?_some h1
        rw [hr.1] at h1 hcl hat
        refine ⟨cs', x, hx, fun j u hu => ?_⟩
        have hj := (List.getElem?_eq_some_iff.1 hu).1
        rw [hat j (by omega)]
        exact hu
      by_cases h0 : len = 0
      · subst h0
        exact ⟨[], some a, cap, rfl, Nat.zero_le _, hm, fun h => absurd h (by simp)⟩
      · obtain ⟨cs0, x0, hx0, hc0⟩ := hcell 0 (by omega)
        have hl0 := t.rep_len hx0
        have hfirst := hc0 0 (cs0[0]'(by omega)) (List.getElem?_eq_getElem (by omega))
        have hz : (a.add (0 * t.size)).add 0 = a := by simp [Addr.add]
        rw [hz] at hfirst
        obtain ⟨b, o, spot⟩ := a
        have hspot : spot = none := World.cell?_spot hfirst
        subst hspot
        have hb : b < W.heap.size := World.block_lt_of_cell? W ⟨b, o, none⟩ hfirst
        have key : ∀ q, q ≤ len → ∃ raw xs, xs.length = q ∧ RowsR (t.rep W W.heap.size) raw xs ∧ ∀ j u, raw[j]? = some u → W.cell? ⟨b, o + j, none⟩ = some u := by
          intro q
          induction q with
          | zero => intro _; exact ⟨[], [], rfl, rfl, fun j u hu => by simp at hu⟩
          | succ q ih =>
            intro hq
            obtain ⟨raw, xs, hxl, hrr, hrc⟩ := ih (by omega)
            obtain ⟨cs', x, hx, hcx⟩ := hcell q (by omega)
            refine ⟨raw ++ cs', xs ++ [x], by simp [hxl], hrr.snoc hx, fun j u hu => ?_⟩
            have hlen : raw.length = q * t.size := by rw [hrr.len (fun _ _ => t.rep_len), hxl]
            by_cases hj : j < raw.length
            · rw [List.getElem?_append_left hj] at hu
              exact hrc j u hu
            · rw [List.getElem?_append_right (by omega)] at hu
              have := hcx _ u hu
              rw [Addr.add_lit, Addr.add_lit] at this
              rw [← this]
              congr 2
              omega
        obtain ⟨raw, xs, hxl, hrr, hrc⟩ := key len (Nat.le_refl _)
        exact ⟨xs, some ⟨b, o, none⟩, cap, by rw [hxl], by omega, hm, fun _ => ⟨b, o, raw, rfl, hb, hrc, hrr⟩⟩⟩

/-- The fields from one offset on. -/
def FldOK (P : Program) (fs : List Field) (off : Nat) {β : Type} (t : Ty β) : Prop :=
  ∀ {H : Type} {enc : TypeId × Value → H} {W : World} {base : Nat} {sp : Nat → Bool} {hd : Bool} {n : Nat} {cs : List Value} {ys : List (DataW H × List MemPlace)},
    (∀ (i : Nat) (f : Field), fs[i]? = some f → DataW.trod enc P W base sp hd n f.type ((cs.drop f.offset).take (P.cellsOf f.type)) = ys[i]?) → ys.length = fs.length → cs.length = off + t.size →
      ∃ x, t.rep W W.heap.size (cs.drop off) x

theorem fld_one {f : Field} {off : Nat} {t : Ty α} (ho : f.offset = off) (h : Reads P f.type t) : FldOK P [f] off t := by
  intro H enc W base sp hd n cs ys hf hl hc
  have h0 := hf 0 f rfl
  have hy : ys[0]? = some (ys[0]'(by rw [hl]; simp)) := List.getElem?_eq_getElem _
  rw [hy] at h0
  obtain ⟨x, hx⟩ := h.2 h0
  rw [ho, h.1, List.take_of_length_le (by rw [List.length_drop]; omega)] at hx
  exact ⟨x, hx⟩

theorem fld_cons {f : Field} {fs : List Field} {off : Nat} {t : Ty α} {s : Ty β} (ho : f.offset = off) (h : Reads P f.type t) (hs : FldOK P fs (off + t.size) s) : FldOK P (f :: fs) off (Ty.prod t s) := by
  intro H enc W base sp hd n cs ys hf hl hc
  have h0 := hf 0 f rfl
  have hy : ys[0]? = some (ys[0]'(by rw [hl]; simp)) := List.getElem?_eq_getElem _
  rw [hy] at h0
  obtain ⟨x, hx⟩ := h.2 h0
  have hc' : cs.length = off + t.size + s.size := by rw [hc, Nat.add_assoc]; rfl
  obtain ⟨y, hy'⟩ := hs (enc := enc) (W := W) (base := base) (sp := sp) (hd := hd) (n := n) (cs := cs) (ys := ys.tail)
    (fun i g hg => by rw [hf (i + 1) g (by simpa using hg)]; simp) (by simp [hl]) hc'
  rw [ho, h.1] at hx
  refine ⟨(x, y), (cs.drop off).take t.size, cs.drop (off + t.size), ?_, hx, hy'⟩
  rw [← List.drop_drop, List.take_append_drop]

theorem reads_struct {fs : Array Field} {t : Ty α} (ht : P.underlying T = some (.struct fs)) (hc : P.cellsOf T = t.size) (h : FldOK P fs.toList 0 t) : Reads P T t :=
  ⟨hc, fun {H enc W base sp hd fuel cs y} h' => by
    obtain ⟨xs, n, _, _, hl, hxl, hf⟩ := DataW.trod_struct ht h'
    obtain ⟨x, hx⟩ := h (enc := enc) (W := W) (base := base) (sp := sp) (hd := hd) (n := n) (cs := cs) (ys := xs) (fun i f hif => hf i f (by simpa using hif)) (by simpa using hxl) (by rw [hl, hc]; omega)
    exact ⟨x, by simpa using hx⟩⟩

theorem reads_via {t : Ty β} (f : α → β) (g : β → α) (hfg : ∀ x, f (g x) = x) (h : Reads P T t) : Reads P T (Ty.via t f) :=
  ⟨h.1, fun h' => by
    obtain ⟨x, hx⟩ := h.2 h'
    exact ⟨g x, by show t.rep _ _ _ (f (g x)); rw [hfg]; exact hx⟩⟩
end

/-! ### A world and all that may come of it by new memory alone -/
def Ext (W : World) : Type := { w' : World // Below W.heap.size W w' }
end Go.Proofs.Ytlblmbhaakjcaaa
namespace Go
def World.to (W : World) (x : Proofs.Ytlblmbhaakjcaaa.Ext W) : World := x.val
end Go
namespace Go.Proofs.Ytlblmbhaakjcaaa
open Go.RowKit Go.ChangeShapes Go.WideShapes Go.Deep
section
variable {W : World} {P : Program}
theorem Ext.below (x : Ext W) : Below W.heap.size W (W.to x) := x.property
def Ext.self (W : World) : Ext W := ⟨W, Below.refl _ _⟩
def Ext.drew (x : Ext W) : Ext W := ⟨(W.to x).drew, x.below.drew⟩
instance : Nonempty (Ext W) := ⟨Ext.self W⟩
theorem to_drew (x : Ext W) : (W.to x).drew = W.to x.drew := rfl
theorem to_drew' (x : Ext W) : { W.to x with drawn := (W.to x).drawn + 1 } = W.to x.drew := rfl
theorem rebase {Q : World → Prop} {e : World} (h : ∀ W : World, W = e → ∀ x : Ext W, Q (W.to x)) : Q e := h e rfl (Ext.self e)
theorem ext_of {x : Ext W} {w' : World} (h : Below (W.to x).heap.size (W.to x) w') : ∃ y : Ext W, w' = W.to y := ⟨⟨w', x.below.trans (h.mono x.below.size)⟩, rfl⟩
theorem ext_of' {x : Ext W} {w' : World} (h : Below W.heap.size (W.to x) w') : ∃ y : Ext W, w' = W.to y := ⟨⟨w', x.below.trans h⟩, rfl⟩
theorem to_cell (x : Ext W) {b o : Nat} (h : b < W.heap.size) : (W.to x).cell? ⟨b, o, none⟩ = W.cell? ⟨b, o, none⟩ := x.below.cell (p := ⟨b, o, none⟩) h
theorem to_frozen (x : Ext W) {b o : Nat} (h : b < W.heap.size) : (W.to x).frozen? ⟨b, o, none⟩ = W.frozen? ⟨b, o, none⟩ := x.below.frozen (p := ⟨b, o, none⟩) h
theorem to_size (x : Ext W) : W.heap.size ≤ (W.to x).heap.size := x.below.size
theorem ext_call {f : FuncId} {args : Array Value} {x : Ext W} {v : Value} (h : Calls P f args (W.to x) fun e w' => e = .returned v ∧ Below (W.to x).heap.size (W.to x) w') :
    Calls P f args (W.to x) fun e w' => e = .returned v ∧ ∃ y : Ext W, w' = W.to y := h.mono fun _ _ ⟨he, hb⟩ => ⟨he, ext_of hb⟩
theorem wp_region_ext {id : Nat} {Q : Exit → Act → World → Prop} {a : Act} {x : Ext W} {l : List Oper} (hm : P.follows .mixedOrders = true) (hB : Region.lexB .any l.toArray = true)
    (h : wpQuiet P l.toArray (fun w' => ∃ y : Ext W, w' = W.to y) (fun a' => ∀ w', (∃ y : Ext W, w' = W.to y) → Q .normal a' w') l a) : (Code.region id l.toArray true).wp P Q a (W.to x) :=
  wp_region_quiet (C := fun w' => ∃ y : Ext W, w' = W.to y) hm hB ⟨x.drew, rfl⟩ (by simpa using h)
end
attribute [go_sem] to_drew

/-- a struct argument -/
theorem agg_of {P : Program} {W : World} {r : Reach} {b0 : Nat} {t : TypeId} {fs : Array Field} {v : Value} (hs : P.underlying t = some (.struct fs)) (hv : Value.okWide P W r b0 t v) : ∃ cs, v = .agg cs := by
  obtain ⟨cs, e, _⟩ := okWide_struct hs hv
  exact ⟨cs, e⟩

theorem heap_push (w : World) (o : Obj) (k : Nat) : (w.alloc o).heap[k]? = if k = w.heap.size then some o else w.heap[k]? := by
  show (w.heap.push o)[k]? = _
  rw [Array.getElem?_push]

theorem box_cell {W : World} {b : Nat} {t : TypeId} {cs : Array Value} {f : Nat × Nat} (h : W.heap[b]? = some (.cells cs t f)) (x : Ext W) (j : Nat) : (W.to x).cell? ⟨b, j, none⟩ = cs[j]? := by
  rw [to_cell x (Array.getElem?_eq_some_iff.1 h).1, cell_of_row W b _ _ _ _ h]

theorem box1 {W : World} {b : Nat} {t : TypeId} {v0 : Value} (h : W.heap[b]? = some (.cells #[v0] t (0, 0))) :
    ∀ x : Ext W, (W.to x).cell? ⟨b, 0, none⟩ = some v0 := fun x => box_cell h x 0
theorem box2 {W : World} {b : Nat} {t : TypeId} {v0 v1 : Value} (h : W.heap[b]? = some (.cells #[v0, v1] t (0, 0))) :
    ∀ x : Ext W, (W.to x).cell? ⟨b, 0, none⟩ = some v0 ∧ (W.to x).cell? ⟨b, 1, none⟩ = some v1 := fun x => ⟨box_cell h x 0, box_cell h x 1⟩
theorem box3 {W : World} {b : Nat} {t : TypeId} {v0 v1 v2 : Value} (h : W.heap[b]? = some (.cells #[v0, v1, v2] t (0, 0))) :
    ∀ x : Ext W, (W.to x).cell? ⟨b, 0, none⟩ = some v0 ∧ (W.to x).cell? ⟨b, 1, none⟩ = some v1 ∧ (W.to x).cell? ⟨b, 2, none⟩ = some v2 := fun x => ⟨box_cell h x 0, box_cell h x 1, box_cell h x 2⟩
theorem box4 {W : World} {b : Nat} {t : TypeId} {v0 v1 v2 v3 : Value} (h : W.heap[b]? = some (.cells #[v0, v1, v2, v3] t (0, 0))) :
    ∀ x : Ext W, (W.to x).cell? ⟨b, 0, none⟩ = some v0 ∧ (W.to x).cell? ⟨b, 1, none⟩ = some v1 ∧ (W.to x).cell? ⟨b, 2, none⟩ = some v2 ∧ (W.to x).cell? ⟨b, 3, none⟩ = some v3 := fun x => ⟨box_cell h x 0, box_cell h x 1, box_cell h x 2, box_cell h x 3⟩
theorem box5 {W : World} {b : Nat} {t : TypeId} {v0 v1 v2 v3 v4 : Value} (h : W.heap[b]? = some (.cells #[v0, v1, v2, v3, v4] t (0, 0))) :
    ∀ x : Ext W, (W.to x).cell? ⟨b, 0, none⟩ = some v0 ∧ (W.to x).cell? ⟨b, 1, none⟩ = some v1 ∧ (W.to x).cell? ⟨b, 2, none⟩ = some v2 ∧ (W.to x).cell? ⟨b, 3, none⟩ = some v3 ∧ (W.to x).cell? ⟨b, 4, none⟩ = some v4 := fun x => ⟨box_cell h x 0, box_cell h x 1, box_cell h x 2, box_cell h x 3, box_cell h x 4⟩
theorem box6 {W : World} {b : Nat} {t : TypeId} {v0 v1 v2 v3 v4 v5 : Value} (h : W.heap[b]? = some (.cells #[v0, v1, v2, v3, v4, v5] t (0, 0))) :
    ∀ x : Ext W, (W.to x).cell? ⟨b, 0, none⟩ = some v0 ∧ (W.to x).cell? ⟨b, 1, none⟩ = some v1 ∧ (W.to x).cell? ⟨b, 2, none⟩ = some v2 ∧ (W.to x).cell? ⟨b, 3, none⟩ = some v3 ∧ (W.to x).cell? ⟨b, 4, none⟩ = some v4 ∧ (W.to x).cell? ⟨b, 5, none⟩ = some v5 := fun x => ⟨box_cell h x 0, box_cell h x 1, box_cell h x 2, box_cell h x 3, box_cell h x 4, box_cell h x 5⟩
theorem box7 {W : World} {b : Nat} {t : TypeId} {v0 v1 v2 v3 v4 v5 v6 : Value} (h : W.heap[b]? = some (.cells #[v0, v1, v2, v3, v4, v5, v6] t (0, 0))) :
    ∀ x : Ext W, (W.to x).cell? ⟨b, 0, none⟩ = some v0 ∧ (W.to x).cell? ⟨b, 1, none⟩ = some v1 ∧ (W.to x).cell? ⟨b, 2, none⟩ = some v2 ∧ (W.to x).cell? ⟨b, 3, none⟩ = some v3 ∧ (W.to x).cell? ⟨b, 4, none⟩ = some v4 ∧ (W.to x).cell? ⟨b, 5, none⟩ = some v5 ∧ (W.to x).cell? ⟨b, 6, none⟩ = some v6 := fun x => ⟨box_cell h x 0, box_cell h x 1, box_cell h x 2, box_cell h x 3, box_cell h x 4, box_cell h x 5, box_cell h x 6⟩
theorem box8 {W : World} {b : Nat} {t : TypeId} {v0 v1 v2 v3 v4 v5 v6 v7 : Value} (h : W.heap[b]? = some (.cells #[v0, v1, v2, v3, v4, v5, v6, v7] t (0, 0))) :
    ∀ x : Ext W, (W.to x).cell? ⟨b, 0, none⟩ = some v0 ∧ (W.to x).cell? ⟨b, 1, none⟩ = some v1 ∧ (W.to x).cell? ⟨b, 2, none⟩ = some v2 ∧ (W.to x).cell? ⟨b, 3, none⟩ = some v3 ∧ (W.to x).cell? ⟨b, 4, none⟩ = some v4 ∧ (W.to x).cell? ⟨b, 5, none⟩ = some v5 ∧ (W.to x).cell? ⟨b, 6, none⟩ = some v6 ∧ (W.to x).cell? ⟨b, 7, none⟩ = some v7 := fun x => ⟨box_cell h x 0, box_cell h x 1, box_cell h x 2, box_cell h x 3, box_cell h x 4, box_cell h x 5, box_cell h x 6, box_cell h x 7⟩
theorem box9 {W : World} {b : Nat} {t : TypeId} {v0 v1 v2 v3 v4 v5 v6 v7 v8 : Value} (h : W.heap[b]? = some (.cells #[v0, v1, v2, v3, v4, v5, v6, v7, v8] t (0, 0))) :
    ∀ x : Ext W, (W.to x).cell? ⟨b, 0, none⟩ = some v0 ∧ (W.to x).cell? ⟨b, 1, none⟩ = some v1 ∧ (W.to x).cell? ⟨b, 2, none⟩ = some v2 ∧ (W.to x).cell? ⟨b, 3, none⟩ = some v3 ∧ (W.to x).cell? ⟨b, 4, none⟩ = some v4 ∧ (W.to x).cell? ⟨b, 5, none⟩ = some v5 ∧ (W.to x).cell? ⟨b, 6, none⟩ = some v6 ∧ (W.to x).cell? ⟨b, 7, none⟩ = some v7 ∧ (W.to x).cell? ⟨b, 8, none⟩ = some v8 := fun x => ⟨box_cell h x 0, box_cell h x 1, box_cell h x 2, box_cell h x 3, box_cell h x 4, box_cell h x 5, box_cell h x 6, box_cell h x 7, box_cell h x 8⟩
theorem box10 {W : World} {b : Nat} {t : TypeId} {v0 v1 v2 v3 v4 v5 v6 v7 v8 v9 : Value} (h : W.heap[b]? = some (.cells #[v0, v1, v2, v3, v4, v5, v6, v7, v8, v9] t (0, 0))) :
    ∀ x : Ext W, (W.to x).cell? ⟨b, 0, none⟩ = some v0 ∧ (W.to x).cell? ⟨b, 1, none⟩ = some v1 ∧ (W.to x).cell? ⟨b, 2, none⟩ = some v2 ∧ (W.to x).cell? ⟨b, 3, none⟩ = some v3 ∧ (W.to x).cell? ⟨b, 4, none⟩ = some v4 ∧ (W.to x).cell? ⟨b, 5, none⟩ = some v5 ∧ (W.to x).cell? ⟨b, 6, none⟩ = some v6 ∧ (W.to x).cell? ⟨b, 7, none⟩ = some v7 ∧ (W.to x).cell? ⟨b, 8, none⟩ = some v8 ∧ (W.to x).cell? ⟨b, 9, none⟩ = some v9 := fun x => ⟨box_cell h x 0, box_cell h x 1, box_cell h x 2, box_cell h x 3, box_cell h x 4, box_cell h x 5, box_cell h x 6, box_cell h x 7, box_cell h x 8, box_cell h x 9⟩
theorem box11 {W : World} {b : Nat} {t : TypeId} {v0 v1 v2 v3 v4 v5 v6 v7 v8 v9 v10 : Value} (h : W.heap[b]? = some (.cells #[v0, v1, v2, v3, v4, v5, v6, v7, v8, v9, v10] t (0, 0))) :
    ∀ x : Ext W, (W.to x).cell? ⟨b, 0, none⟩ = some v0 ∧ (W.to x).cell? ⟨b, 1, none⟩ = some v1 ∧ (W.to x).cell? ⟨b, 2, none⟩ = some v2 ∧ (W.to x).cell? ⟨b, 3, none⟩ = some v3 ∧ (W.to x).cell? ⟨b, 4, none⟩ = some v4 ∧ (W.to x).cell? ⟨b, 5, none⟩ = some v5 ∧ (W.to x).cell? ⟨b, 6, none⟩ = some v6 ∧ (W.to x).cell? ⟨b, 7, none⟩ = some v7 ∧ (W.to x).cell? ⟨b, 8, none⟩ = some v8 ∧ (W.to x).cell? ⟨b, 9, none⟩ = some v9 ∧ (W.to x).cell? ⟨b, 10, none⟩ = some v10 := fun x => ⟨box_cell h x 0, box_cell h x 1, box_cell h x 2, box_cell h x 3, box_cell h x 4, box_cell h x 5, box_cell h x 6, box_cell h x 7, box_cell h x 8, box_cell h x 9, box_cell h x 10⟩
theorem box12 {W : World} {b : Nat} {t : TypeId} {v0 v1 v2 v3 v4 v5 v6 v7 v8 v9 v10 v11 : Value} (h : W.heap[b]? = some (.cells #[v0, v1, v2, v3, v4, v5, v6, v7, v8, v9, v10, v11] t (0, 0))) :
    ∀ x : Ext W, (W.to x).cell? ⟨b, 0, none⟩ = some v0 ∧ (W.to x).cell? ⟨b, 1, none⟩ = some v1 ∧ (W.to x).cell? ⟨b, 2, none⟩ = some v2 ∧ (W.to x).cell? ⟨b, 3, none⟩ = some v3 ∧ (W.to x).cell? ⟨b, 4, none⟩ = some v4 ∧ (W.to x).cell? ⟨b, 5, none⟩ = some v5 ∧ (W.to x).cell? ⟨b, 6, none⟩ = some v6 ∧ (W.to x).cell? ⟨b, 7, none⟩ = some v7 ∧ (W.to x).cell? ⟨b, 8, none⟩ = some v8 ∧ (W.to x).cell? ⟨b, 9, none⟩ = some v9 ∧ (W.to x).cell? ⟨b, 10, none⟩ = some v10 ∧ (W.to x).cell? ⟨b, 11, none⟩ = some v11 := fun x => ⟨box_cell h x 0, box_cell h x 1, box_cell h x 2, box_cell h x 3, box_cell h x 4, box_cell h x 5, box_cell h x 6, box_cell h x 7, box_cell h x 8, box_cell h x 9, box_cell h x 10, box_cell h x 11⟩
theorem box13 {W : World} {b : Nat} {t : TypeId} {v0 v1 v2 v3 v4 v5 v6 v7 v8 v9 v10 v11 v12 : Value} (h : W.heap[b]? = some (.cells #[v0, v1, v2, v3, v4, v5, v6, v7, v8, v9, v10, v11, v12] t (0, 0))) :
    ∀ x : Ext W, (W.to x).cell? ⟨b, 0, none⟩ = some v0 ∧ (W.to x).cell? ⟨b, 1, none⟩ = some v1 ∧ (W.to x).cell? ⟨b, 2, none⟩ = some v2 ∧ (W.to x).cell? ⟨b, 3, none⟩ = some v3 ∧ (W.to x).cell? ⟨b, 4, none⟩ = some v4 ∧ (W.to x).cell? ⟨b, 5, none⟩ = some v5 ∧ (W.to x).cell? ⟨b, 6, none⟩ = some v6 ∧ (W.to x).cell? ⟨b, 7, none⟩ = some v7 ∧ (W.to x).cell? ⟨b, 8, none⟩ = some v8 ∧ (W.to x).cell? ⟨b, 9, none⟩ = some v9 ∧ (W.to x).cell? ⟨b, 10, none⟩ = some v10 ∧ (W.to x).cell? ⟨b, 11, none⟩ = some v11 ∧ (W.to x).cell? ⟨b, 12, none⟩ = some v12 := fun x => ⟨box_cell h x 0, box_cell h x 1, box_cell h x 2, box_cell h x 3, box_cell h x 4, box_cell h x 5, box_cell h x 6, box_cell h x 7, box_cell h x 8, box_cell h x 9, box_cell h x 10, box_cell h x 11, box_cell h x 12⟩
theorem box14 {W : World} {b : Nat} {t : TypeId} {v0 v1 v2 v3 v4 v5 v6 v7 v8 v9 v10 v11 v12 v13 : Value} (h : W.heap[b]? = some (.cells #[v0, v1, v2, v3, v4, v5, v6, v7, v8, v9, v10, v11, v12, v13] t (0, 0))) :
    ∀ x : Ext W, (W.to x).cell? ⟨b, 0, none⟩ = some v0 ∧ (W.to x).cell? ⟨b, 1, none⟩ = some v1 ∧ (W.to x).cell? ⟨b, 2, none⟩ = some v2 ∧ (W.to x).cell? ⟨b, 3, none⟩ = some v3 ∧ (W.to x).cell? ⟨b, 4, none⟩ = some v4 ∧ (W.to x).cell? ⟨b, 5, none⟩ = some v5 ∧ (W.to x).cell? ⟨b, 6, none⟩ = some v6 ∧ (W.to x).cell? ⟨b, 7, none⟩ = some v7 ∧ (W.to x).cell? ⟨b, 8, none⟩ = some v8 ∧ (W.to x).cell? ⟨b, 9, none⟩ = some v9 ∧ (W.to x).cell? ⟨b, 10, none⟩ = some v10 ∧ (W.to x).cell? ⟨b, 11, none⟩ = some v11 ∧ (W.to x).cell? ⟨b, 12, none⟩ = some v12 ∧ (W.to x).cell? ⟨b, 13, none⟩ = some v13 := fun x => ⟨box_cell h x 0, box_cell h x 1, box_cell h x 2, box_cell h x 3, box_cell h x 4, box_cell h x 5, box_cell h x 6, box_cell h x 7, box_cell h x 8, box_cell h x 9, box_cell h x 10, box_cell h x 11, box_cell h x 12, box_cell h x 13⟩

theorem push1_0 (w : World) (o0 : Obj) : (w.alloc o0).heap[w.heap.size]? = some o0 := by
  rw [heap_push, if_pos rfl]
theorem push2_0 (w : World) (o0 o1 : Obj) : ((w.alloc o0).alloc o1).heap[w.heap.size]? = some o0 := by
  rw [heap_push, if_neg (by simp only [World.size_alloc]; omega), heap_push, if_pos rfl]
theorem push2_1 (w : World) (o0 o1 : Obj) : ((w.alloc o0).alloc o1).heap[w.heap.size + 1]? = some o1 := by
  rw [heap_push, if_pos (by simp)]
theorem push3_0 (w : World) (o0 o1 o2 : Obj) : (((w.alloc o0).alloc o1).alloc o2).heap[w.heap.size]? = some o0 := by
  rw [heap_push, if_neg (by simp only [World.size_alloc]; omega), heap_push, if_neg (by simp only [World.size_alloc]; omega), heap_push, if_pos rfl]
theorem push3_1 (w : World) (o0 o1 o2 : Obj) : (((w.alloc o0).alloc o1).alloc o2).heap[w.heap.size + 1]? = some o1 := by
  rw [heap_push, if_neg (by simp only [World.size_alloc]; omega), heap_push, if_pos (by simp)]
theorem push3_2 (w : World) (o0 o1 o2 : Obj) : (((w.alloc o0).alloc o1).alloc o2).heap[w.heap.size + 2]? = some o2 := by
  rw [heap_push, if_pos (by simp)]
theorem push4_0 (w : World) (o0 o1 o2 o3 : Obj) : ((((w.alloc o0).alloc o1).alloc o2).alloc o3).heap[w.heap.size]? = some o0 := by
  rw [heap_push, if_neg (by simp only [World.size_alloc]; omega), heap_push, if_neg (by simp only [World.size_alloc]; omega), heap_push, if_neg (by simp only [World.size_alloc]; omega), heap_push, if_pos rfl]
theorem push4_1 (w : World) (o0 o1 o2 o3 : Obj) : ((((w.alloc o0).alloc o1).alloc o2).alloc o3).heap[w.heap.size + 1]? = some o1 := by
  rw [heap_push, if_neg (by simp only [World.size_alloc]; omega), heap_push, if_neg (by simp only [World.size_alloc]; omega), heap_push, if_pos (by simp)]
theorem push4_2 (w : World) (o0 o1 o2 o3 : Obj) : ((((w.alloc o0).alloc o1).alloc o2).alloc o3).heap[w.heap.size + 2]? = some o2 := by
  rw [heap_push, if_neg (by simp only [World.size_alloc]; omega), heap_push, if_pos (by simp)]
theorem push4_3 (w : World) (o0 o1 o2 o3 : Obj) : ((((w.alloc o0).alloc o1).alloc o2).alloc o3).heap[w.heap.size + 3]? = some o3 := by
  rw [heap_push, if_pos (by simp)]
theorem push5_0 (w : World) (o0 o1 o2 o3 o4 : Obj) : (((((w.alloc o0).alloc o1).alloc o2).alloc o3).alloc o4).heap[w.heap.size]? = some o0 := by
  rw [heap_push, if_neg (by simp only [World.size_alloc]; omega), heap_push, if_neg (by simp only [World.size_alloc]; omega), heap_push, if_neg (by simp only [World.size_alloc]; omega), heap_push, if_neg (by simp only [World.size_alloc]; omega), heap_push, if_pos rfl]
theorem push5_1 (w : World) (o0 o1 o2 o3 o4 : Obj) : (((((w.alloc o0).alloc o1).alloc o2).alloc o3).alloc o4).heap[w.heap.size + 1]? = some o1 := by
  rw [heap_push, if_neg (by simp only [World.size_alloc]; omega), heap_push, if_neg (by simp only [World.size_alloc]; omega), heap_push, if_neg (by simp only [World.size_alloc]; omega), heap_push, if_pos (by simp)]
theorem push5_2 (w : World) (o0 o1 o2 o3 o4 : Obj) : (((((w.alloc o0).alloc o1).alloc o2).alloc o3).alloc o4).heap[w.heap.size + 2]? = some o2 := by
  rw [heap_push, if_neg (by simp only [World.size_alloc]; omega), heap_push, if_neg (by simp only [World.size_alloc]; omega), heap_push, if_pos (by simp)]
theorem push5_3 (w : World) (o0 o1 o2 o3 o4 : Obj) : (((((w.alloc o0).alloc o1).alloc o2).alloc o3).alloc o4).heap[w.heap.size + 3]? = some o3 := by
  rw [heap_push, if_neg (by simp only [World.size_alloc]; omega), heap_push, if_pos (by simp)]
theorem push5_4 (w : World) (o0 o1 o2 o3 o4 : Obj) : (((((w.alloc o0).alloc o1).alloc o2).alloc o3).alloc o4).heap[w.heap.size + 4]? = some o4 := by
  rw [heap_push, if_pos (by simp)]

theorem call_ext {W : World} {P : Program} {f : FuncId} {args : Array Value} {x : Ext W} {v : Value} {R : Ending → World → Prop} (h : Calls P f args (W.to x) fun e w' => e = .returned v ∧ Below (W.to x).heap.size (W.to x) w')
    (hr : ∀ y : Ext W, R (.returned v) (W.to y)) : Calls P f args (W.to x) R := h.mono fun _ _ ⟨he, hb⟩ => by
  obtain ⟨y, rfl⟩ := ext_of hb
  subst he
  exact hr y
theorem ext_end {W w : World} (x : Ext W) (h : Below w.heap.size w W) : Below w.heap.size w (W.to x) := h.trans (x.below.mono h.size)

/-! ### A box that is written, a struct that is handed back -/
theorem blk_set {w : World} {b i : Nat} {t : TypeId} {cs : Array Value} {f : Nat × Nat} (h : w.heap[b]? = some (.cells cs t f)) (u : Value) : (w.setCell ⟨b, i, none⟩ u).heap[b]? = some (.cells (cs.setIfInBounds i u) t f) := by
  simp [World.setCell, Array.getElem?_modify, h]
theorem blk_far {w : World} {b : Nat} {p : Addr} {o : Obj} (h : w.heap[b]? = some o) (u : Value) (hp : b ≠ p.block) : (w.setCell p u).heap[b]? = some o := (Below.heap_setCell w p u b hp).trans h
theorem blk_below {B b : Nat} {w w' : World} {o : Obj} (hb : Below B w w') (h : w.heap[b]? = some o) (hB : b < B) : w'.heap[b]? = some o := (hb.block b hB).trans h
theorem res_cell_tmp {P : Program} {fn : Func} {p u : Tmp} {ty : TypeId} (h : fn.results = #[.cell p ty, .tmp u]) (tmps : Array Value) (w : World) (g : Nat) (hp : tmps.getD p undef = .pointer (some ⟨g, 0, none⟩)) (t : TypeId) (cs : Array Value) (fr : Nat × Nat) (d : TypeDesc) (hg : w.heap[g]? = some (.cells cs t fr))
    (hu : P.underlying ty = some d) (hd : (match d with | .struct _ | .array _ _ => true | _ => false) = true) (hi : (P.info? ty).map (·.size) = some cs.size) :
    (results fn tmps).run P w = .ok (.tuple #[.agg cs, tmps.getD u undef]) w := by
  rw [results_cell_tmp h, hp]
  simp [asAddr, run_loadVar_row w g t ty cs fr d hg hu hd hi, Result.andThen]

theorem bcell {W w1 : World} (hb : Below W.heap.size W w1) : (∀ b o, b < W.heap.size → w1.cell? ⟨b, o, none⟩ = W.cell? ⟨b, o, none⟩) ∧ (∀ b o, b < W.heap.size → w1.frozen? ⟨b, o, none⟩ = W.frozen? ⟨b, o, none⟩) :=
  ⟨fun b o h => hb.cell (p := ⟨b, o, none⟩) h, fun b o h => hb.frozen (p := ⟨b, o, none⟩) h⟩

theorem at_of {W e : World} {b : Nat} {o : Obj} (hW : W = e) (h : e.heap[b]? = some o) : W.heap[b]? = some o := hW ▸ h
theorem box_at {W : World} {b : Nat} {o : Obj} (h : W.heap[b]? = some o) (x : Ext W) : (W.to x).heap[b]? = some o := (x.below.block b (Array.getElem?_eq_some_iff.1 h).1).trans h
theorem boxf {W : World} {b : Nat} {t : TypeId} {cs : Array Value} (h : W.heap[b]? = some (.cells cs t (0, 0))) : ∀ (x : Ext W) (j : Nat), (W.to x).frozen? ⟨b, j, none⟩ = false := fun x j => by
  simp [World.frozen?, box_at h x]

theorem blk_lt {w : World} {b : Nat} {o : Obj} (h : w.heap[b]? = some o) : b < w.heap.size := (Array.getElem?_eq_some_iff.1 h).1
theorem blk_on {W W2 : World} {b : Nat} {o : Obj} (hb : Below W.heap.size W W2) (h : W.heap[b]? = some o) : W2.heap[b]? = some o := blk_below hb h (blk_lt h)

/-! ### Slices that are read, in every world that comes of one -/
theorem rebaseC {P : Program} {f : FuncId} {args : Array Value} {w : World} {R : Ending → World → Prop} (h : ∀ x : Ext w, Calls P f args (w.to x) R) : Calls P f args w R := h (Ext.self w)
namespace Ty
variable {α : Type}
theorem rep_to (t : Ty α) {W : World} {B : Nat} {cs : List Value} {x : α} (hB : B ≤ W.heap.size) (h : t.rep W B cs x) (z : Ext W) : t.rep (W.to z) B cs x := t.rep_keep (fun b hb => z.below.block b (by omega)) h
theorem form {e : TypeId} {t : Ty α} {w : World} {B : Nat} {v : Value} {xs : List α} (h : (slice e t).rep w B [v] xs) : ∃ a c, v = .slice a xs.length c ∧ xs.length ≤ c ∧ c ≤ maxLen := by
  obtain ⟨a, c, hv, h1, h2, _⟩ := h
  exact ⟨a, c, by simpa using hv, h1, h2⟩
/-- Element k, in every world that comes of W. -/
theorem elem {e : TypeId} {t : Ty α} {W : World} {B : Nat} {a : Option Addr} {n c : Nat} {xs : List α} (h : (slice e t).rep W B [.slice a n c] xs) (hB : B ≤ W.heap.size) (k : Nat) (hk : k < xs.length) :
    ∃ b o cs, a = some ⟨b, o, none⟩ ∧ b < B ∧ (∀ j u, cs[j]? = some u → ∀ z : Ext W, (W.to z).cell? ⟨b, o + k * t.size + j, none⟩ = some u) ∧ t.rep W B cs xs[k] := by
  obtain ⟨a', c', hv, _, _, hat⟩ := at_ h
  obtain ⟨b, o, cs, ha, hb, hc, hr⟩ := hat k hk
  injection hv with h1
  exact ⟨b, o, cs, h1.trans ha, hb, fun j u hu z => (to_cell z (by omega)).trans (hc j u hu), hr⟩
/-- Element k of a slice of one-cell elements. -/
theorem elem1 {e : TypeId} {t : Ty α} {W : World} {B : Nat} {a : Option Addr} {n c : Nat} {xs : List α} (h : (slice e t).rep W B [.slice a n c] xs) (hs : t.size = 1) (hB : B ≤ W.heap.size) (k : Nat) (hk : k < xs.length) :
    ∃ b o u, a = some ⟨b, o, none⟩ ∧ b < B ∧ (∀ z : Ext W, (W.to z).cell? ⟨b, o + k, none⟩ = some u) ∧ t.rep W B [u] xs[k] := by
  obtain ⟨b, o, cs, ha, hb, hc, hr⟩ := elem h hB k hk
  have hl := t.rep_len hr
  rw [hs] at hl
  match cs, hl with
  | [u], _ => exact ⟨b, o, u, ha, hb, fun z => by have := hc 0 u rfl z; rw [hs] at this; simpa using this, hr⟩
theorem len_eq {e : TypeId} {t : Ty α} {w : World} {B : Nat} {a : Option Addr} {n c : Nat} {xs : List α} (h : (slice e t).rep w B [.slice a n c] xs) : n = xs.length := by
  obtain ⟨a', c', hv, _⟩ := h
  simp at hv
  exact hv.2.1
end Ty

/-! ### What lies in blocks of one's own, from lo on and below hi -/
def Own {α : Type} (t : Ty α) (w : World) (lo hi : Nat) (cs : List Value) (x : α) : Prop := ∃ F, t.own w cs x F ∧ F.Nodup ∧ ∀ b, b ∈ F → lo ≤ b ∧ b < hi
def OwnRows {α : Type} (t : Ty α) (w : World) (lo hi : Nat) (raw : List Value) (xs : List α) : Prop := ∃ F, RowsO (t.own w) raw xs F ∧ F.Nodup ∧ ∀ b, b ∈ F → lo ≤ b ∧ b < hi
theorem nodup_app {F G : List Nat} {m : Nat} (h1 : F.Nodup) (h2 : G.Nodup) (a : ∀ b, b ∈ F → b < m) (c : ∀ b, b ∈ G → m ≤ b) : (F ++ G).Nodup := by
  rw [List.nodup_append]
  exact ⟨h1, h2, fun x hx y hy e => by have := a x hx; have := c y hy; omega⟩
theorem mem_app {F G : List Nat} {lo m hi : Nat} (hlm : lo ≤ m) (hmh : m ≤ hi) (a : ∀ b, b ∈ F → lo ≤ b ∧ b < m) (c : ∀ b, b ∈ G → m ≤ b ∧ b < hi) : ∀ b, b ∈ F ++ G → lo ≤ b ∧ b < hi := by
  intro b hb
  rcases List.mem_append.1 hb with h | h
  · have := a b h; omega
  · have := c b h; omega
section
variable {α β : Type} {t : Ty α} {s : Ty β} {w w' : World} {lo hi m : Nat} {cs : List Value} {x : α}
theorem Own.keep (h : Own t w lo hi cs x) (hk : ∀ b, lo ≤ b → b < hi → w'.heap[b]? = w.heap[b]?) : Own t w' lo hi cs x := by
  obtain ⟨F, ho, hn, hF⟩ := h
  exact ⟨F, t.own_keep (fun b hb => hk b (hF b hb).1 (hF b hb).2) ho, hn, hF⟩
theorem Own.below {B : Nat} (h : Own t w lo hi cs x) (hb : Below B w w') (hB : hi ≤ B) : Own t w' lo hi cs x := h.keep fun b _ hl => hb.block b (by omega)
theorem Own.set {g : Nat} {i : Nat} (h : Own t w lo hi cs x) (hg : g < lo ∨ hi ≤ g) (v : Value) : Own t (w.setCell ⟨g, i, none⟩ v) lo hi cs x := h.keep fun b h1 h2 => Below.heap_setCell w _ _ b (by show b ≠ g; omega)
theorem Own.grown {g : Nat} (h : Own t w lo hi cs x) (hw : w.grownBy w' (some g)) (hg : g < lo ∨ hi ≤ g) (hs : hi ≤ w.heap.size) : Own t w' lo hi cs x := h.keep fun b h1 h2 => hw.block b (by omega) (fun e => by injection e; omega)
theorem Own.mono {lo' hi' : Nat} (h : Own t w lo hi cs x) (h1 : lo' ≤ lo) (h2 : hi ≤ hi') : Own t w lo' hi' cs x := by
  obtain ⟨F, ho, hn, hF⟩ := h
  exact ⟨F, ho, hn, fun b hb => by have := hF b hb; omega⟩
theorem Own.rep {B : Nat} (h : Own t w lo hi cs x) (hB : hi ≤ B) : t.rep w B cs x := by
  obtain ⟨F, ho, _, hF⟩ := h
  exact t.own_rep ho (fun b hb => by have := hF b hb; omega)
theorem Own.pair {c1 c2 : List Value} {y : β} (h1 : Own t w lo m c1 x) (h2 : Own s w m hi c2 y) (hl : lo ≤ m) (hh : m ≤ hi) : Own (Ty.prod t s) w lo hi (c1 ++ c2) (x, y) := by
  obtain ⟨F, ho, hn, hF⟩ := h1
  obtain ⟨G, go, gn, gG⟩ := h2
  exact ⟨F ++ G, ⟨c1, c2, F, G, rfl, rfl, ho, go⟩, nodup_app hn gn (fun b hb => (hF b hb).2) (fun b hb => (gG b hb).1), mem_app hl hh hF gG⟩
theorem Own.int {k : IntKind} {n : Int} (h : InK k n) (w : World) (lo hi : Nat) : Own (Ty.int k) w lo hi [.int k n] n := ⟨[], ⟨rfl, h, rfl⟩, by simp, by simp⟩
theorem Own.bool (b : Bool) (w : World) (lo hi : Nat) : Own Ty.bool w lo hi [.bool b] b := ⟨[], ⟨rfl, rfl⟩, by simp, by simp⟩
theorem Own.str {b : ByteArray} (h : b.size ≤ maxLen) (w : World) (lo hi : Nat) : Own Ty.str w lo hi [.string b] b := ⟨[], ⟨rfl, h, rfl⟩, by simp, by simp⟩
theorem Own.via {f : α → β} {y : α} (h : Own s w lo hi cs (f y)) : Own (Ty.via s f) w lo hi cs y := h
theorem OwnRows.nil (t : Ty α) (w : World) (lo hi : Nat) : OwnRows t w lo hi [] [] := ⟨[], ⟨rfl, rfl⟩, by simp, by simp⟩
theorem OwnRows.snoc {raw : List Value} {xs : List α} (h : OwnRows t w lo m raw xs) (h1 : Own t w m hi cs x) (hl : lo ≤ m) (hh : m ≤ hi) : OwnRows t w lo hi (raw ++ cs) (xs ++ [x]) := by
  obtain ⟨F, ho, hn, hF⟩ := h
  obtain ⟨G, go, gn, gG⟩ := h1
  exact ⟨F ++ G, RowsO.snoc go ho, nodup_app hn gn (fun b hb => (hF b hb).2) (fun b hb => (gG b hb).1), mem_app hl hh hF gG⟩
theorem OwnRows.keep {raw : List Value} {xs : List α} (h : OwnRows t w lo hi raw xs) (hk : ∀ b, lo ≤ b → b < hi → w'.heap[b]? = w.heap[b]?) : OwnRows t w' lo hi raw xs := by
  obtain ⟨F, ho, hn, hF⟩ := h
  exact ⟨F, RowsO.mono (P := fun b => lo ≤ b ∧ b < hi) (fun _ _ _ hx hP => t.own_keep (fun b hb => hk b (hP b hb).1 (hP b hb).2) hx) ho hF, hn, hF⟩
theorem OwnRows.mono {raw : List Value} {xs : List α} {lo' hi' : Nat} (h : OwnRows t w lo hi raw xs) (h1 : lo' ≤ lo) (h2 : hi ≤ hi') : OwnRows t w lo' hi' raw xs := by
  obtain ⟨F, ho, hn, hF⟩ := h
  exact ⟨F, ho, hn, fun b hb => by have := hF b hb; omega⟩
theorem OwnRows.len {raw : List Value} {xs : List α} (h : OwnRows t w lo hi raw xs) : raw.length = xs.length * t.size := by
  obtain ⟨F, ho, _, _⟩ := h
  exact ho.len (fun _ _ _ => t.own_len)
theorem Own.one (h : Own t w lo hi cs x) : ∀ u, u ∈ cs → u.oneCell' = true := by
  obtain ⟨F, ho, _, _⟩ := h
  exact t.own_one ho
theorem Own.len (h : Own t w lo hi cs x) : cs.length = t.size := by
  obtain ⟨F, ho, _, _⟩ := h
  exact t.own_len ho
end
/-! ### A row that is filled from its head -/
theorem set_mid (raw : List Value) (r v : Value) (rest : List Value) : ((raw ++ r :: rest).toArray).setIfInBounds raw.length v = (raw ++ v :: rest).toArray := by
  simp
theorem setCells_fill {e : TypeId} {f : Nat × Nat} {g : Nat} : ∀ (cs raw rest : List Value) (w : World), w.heap[g]? = some (.cells (raw ++ rest).toArray e f) → cs.length ≤ rest.length →
    (w.setCells g raw.length cs).heap[g]? = some (.cells ((raw ++ cs) ++ rest.drop cs.length).toArray e f)
  | [], raw, rest, w, h, _ => by simpa [World.setCells] using h
  | v :: cs, raw, [], w, h, hl => by simp at hl
  | v :: cs, raw, r :: rest, w, h, hl => by
    have h1 := blk_set (i := raw.length) h v
    rw [set_mid] at h1
    have h2 : (w.setCell ⟨g, raw.length, none⟩ v).heap[g]? = some (.cells ((raw ++ [v]) ++ rest).toArray e f) := by simpa using h1
    have := setCells_fill cs (raw ++ [v]) rest _ h2 (by simpa using hl)
    simp only [List.length_append, List.length_cons, List.length_nil, Nat.zero_add] at this
    rw [World.setCells, this]
    simp
theorem setCells_grown (g : Nat) : ∀ (cs : List Value) (o : Nat) (w : World), w.grownBy (w.setCells g o cs) (some g)
  | [], _, w => ⟨rfl, rfl, rfl, Nat.le_refl _, fun _ _ _ => rfl⟩
  | v :: cs, o, w => by
    have h := setCells_grown g cs (o + 1) (w.setCell ⟨g, o, none⟩ v)
    rw [World.setCells]
    exact ⟨h.os, h.tape, h.output, by simpa [World.setCell] using h.size, fun k hk hne => (h.block k (by simpa [World.setCell] using hk) hne).trans (Below.heap_setCell w _ _ _ (fun e => hne (by rw [e])))⟩
theorem setCells_size (g : Nat) : ∀ (cs : List Value) (o : Nat) (w : World), (w.setCells g o cs).heap.size = w.heap.size
  | [], _, _ => rfl
  | v :: cs, o, w => by rw [World.setCells, setCells_size g cs]; simp [World.setCell]

section
variable {P : Program} {ops : Array Oper} {rest : List Oper} {op : Oper} {a : Act} {w : World} {Q : Exit → Act → World → Prop}
/-- A struct is stored at the end of what is filled. -/
theorem wpList_fill (hgd : op.guard = none) (ty : TypeId) (x y : Operand) (ho : op.op = .store ty x y) (g : Nat) (raw left cs : List Value) (e : TypeId)
    (hg : w.heap[g]? = some (.cells (raw ++ left).toArray e (0, 0))) (o : Nat) (hx : a.eval x = .pointer (some ⟨g, o, none⟩)) (hl : o = raw.length) (hy : a.eval y = .agg cs.toArray)
    (hi : (P.info? ty).map (·.size) = some cs.length) (hc : cs.length ≤ left.length) (h1 : ∀ u, u ∈ cs → u.oneCell' = true)
    (h : ∀ w', w'.heap[g]? = some (.cells ((raw ++ cs) ++ left.drop cs.length).toArray e (0, 0)) → w.grownBy w' (some g) → w'.heap.size = w.heap.size → wpList P ops Q rest (a.put op.dst undef) w') : wpList P ops Q (op :: rest) a w := by
  subst hl
  refine wpList_store_mid hgd ty x y ho g raw.length cs.toArray hx hy (fun j hj => ?_) (by simpa using hi) (all_oneCell_toArray h1) ?_
  · have hj' : j < cs.length := by simpa using hj
    refine ⟨?_, ?_⟩
    · rw [cell_of_row w g _ _ _ _ hg]
      simp
      omega
    · simp [World.frozen?, hg]
  · exact h _ (setCells_fill cs raw left w hg hc) (setCells_grown g cs _ w) (setCells_size g cs _ w)
end
theorem take_succ' {α : Type} (xs : List α) (k : Nat) (h : k < xs.length) : xs.take (k + 1) = xs.take k ++ [xs[k]] := by
  rw [List.take_succ_eq_append_getElem h]
theorem madeCells_eq (z : Array Value) (n : Nat) : madeCells z n = ([] ++ (madeCells z n).toList).toArray := by simp
theorem grownBy_below {B : Nat} {w0 w w' : World} {g : Nat} (h : Below B w0 w) (hg : w.grownBy w' (some g)) (hB : B ≤ w.heap.size) (hl : B ≤ g) : Below B w0 w' := h.grown hg hB (fun k hk => by injection hk with hk; omega)
theorem own_grown {α : Type} {t : Ty α} {w w' : World} {cs : List Value} {x : α} {F : List Nat} {g : Nat} (h : t.own w cs x F) (hg : w.grownBy w' (some g)) (hF : ∀ b, b ∈ F → b < w.heap.size ∧ b ≠ g) : t.own w' cs x F :=
  t.own_keep (fun b hb => hg.block b (hF b hb).1 (fun e => (hF b hb).2 (by injection e))) h
theorem rows_keep {α : Type} {t : Ty α} {w w' : World} {raw : List Value} {xs : List α} {F : List Nat} (h : RowsO (t.own w) raw xs F) (hF : ∀ b, b ∈ F → w'.heap[b]? = w.heap[b]?) : RowsO (t.own w') raw xs F :=
  RowsO.mono (P := fun b => w'.heap[b]? = w.heap[b]?) (fun _ _ _ hx hP => t.own_keep hP hx) h hF
/-- A filled row is a slice of one's own. -/
theorem own_filled {α : Type} {t : Ty α} {w : World} {g hi : Nat} {e : TypeId} {raw left : List Value} {xs : List α} {c : Nat} (hg : w.heap[g]? = some (.cells (raw ++ left).toArray e (0, 0))) (hr : OwnRows t w (g + 1) hi raw xs)
    (hc : xs.length ≤ c) (hm : c ≤ maxLen) (hh : g < hi) : Own (Ty.slice e t) w g hi [.slice (some ⟨g, 0, none⟩) xs.length c] xs := by
  obtain ⟨F, ho, hn, hF⟩ := hr
  refine ⟨g :: F, ⟨some ⟨g, 0, none⟩, c, rfl, hc, hm, .inr ⟨g, 0, (raw ++ left).toArray, e, raw, F, rfl, hg, fun j u hu => ?_, ho, rfl⟩⟩, ?_, fun b hb => ?_⟩
  · have hj := (List.getElem?_eq_some_iff.1 hu).1
    simp only [Nat.zero_add, List.getElem?_toArray]
    rw [List.getElem?_append_left hj]
    exact hu
  · rw [List.nodup_cons]
    exact ⟨fun hb => by have := hF g hb; omega, hn⟩
  · rcases List.mem_cons.1 hb with rfl | hb
    · omega
    · have := hF b hb; omega

theorem run_make_rowN {P : Program} (t e : TypeId) (i : TypeInfo) (z : Value) (ht : P.underlying t = some (.slice e)) (hi : P.info? e = some i) (hz : i.zero = some z)
    (kl kc : IntKind) (n c : Nat) (hnc : n ≤ c) (hbytes : i.bytes * c ≤ 281474976710656) (h63 : c ≤ 9223372036854775807) (w : World) :
    (Instr.makeSlice t (.int kl (n : Int)) (.int kc (c : Int))).run P w = .ok (.slice (some ⟨w.heap.size, 0, none⟩) n c) (w.alloc (.cells (madeCells z.cells (c * i.size)) e)) := by
  have hb : (i.bytes : Int) * (c : Int) ≤ 281474976710656 := by
    have h : ((i.bytes * c : Nat) : Int) ≤ 281474976710656 := by omega
    rwa [Int.natCast_mul] at h
  have hr := run_make (P := P) w t e i z ht hi hz kl kc n c (by omega) (by omega) hb (by omega)
  simp only [Int.toNat_natCast] at hr
  exact hr
/-- make, as the walk meets it: the row's type in one closed fact. -/
theorem run_make_n {P : Program} {t e : TypeId} {z : Value} {size bytes : Nat} (ht : P.underlying t = some (.slice e)) (hi : (P.info? e).map (fun i => (i.zero, i.size, i.bytes)) = some (some z, size, bytes))
    (n : Nat) (hbytes : bytes * n ≤ 281474976710656) (h63 : n ≤ 9223372036854775807) (w : World) :
    (Instr.makeSlice t (.int .i64 (n : Int)) (.int .i64 (n : Int))).run P w = .ok (.slice (some ⟨w.heap.size, 0, none⟩) n n) (w.alloc (.cells (madeCells z.cells (n * size)) e)) := by
  obtain ⟨i, h1, h2, rfl, rfl⟩ := info_parts hi
  exact run_make_rowN t e i z ht h1 h2 .i64 .i64 n n (Nat.le_refl _) hbytes h63 w
theorem fill_cell {w : World} {g : Nat} {raw left : List Value} {e : TypeId} {f : Nat × Nat} (h : w.heap[g]? = some (.cells (raw ++ left).toArray e f)) (k : Nat) (hk : k = raw.length) (hl : 0 < left.length) : ∃ u, w.cell? ⟨g, k, none⟩ = some u := by
  subst hk
  rw [cell_of_row w _ _ _ _ _ h]
  match left, hl with
  | u :: left, _ => exact ⟨u, by simp⟩
theorem fill_set {w : World} {g : Nat} {raw left : List Value} {e : TypeId} {f : Nat × Nat} (h : w.heap[g]? = some (.cells (raw ++ left).toArray e f)) (k : Nat) (hk : k = raw.length) (hl : 0 < left.length) (v : Value) :
    (w.setCell ⟨g, k, none⟩ v).heap[g]? = some (.cells ((raw ++ [v]) ++ left.tail).toArray e f) := by
  subst hk
  match left, hl with
  | u :: left, _ =>
    have h1 := blk_set (i := raw.length) h v
    rw [set_mid] at h1
    simpa using h1
theorem fill_froz {w : World} {g : Nat} {cs : Array Value} {e : TypeId} (h : w.heap[g]? = some (.cells cs e (0, 0))) (k : Nat) : w.frozen? ⟨g, k, none⟩ = false := by simp [World.frozen?, h]
theorem below_cell {B : Nat} {w wr : World} {b o : Nat} {u : Value} (hb : Below B w wr) (hB : b < B) (h : w.cell? ⟨b, o, none⟩ = some u) : wr.cell? ⟨b, o, none⟩ = some u := (hb.cell (p := ⟨b, o, none⟩) hB).trans h
namespace Ty
theorem elemInt {e : TypeId} {kd : IntKind} {w : World} {B : Nat} {a : Option Addr} {n c : Nat} {xs : List Int} (h : (slice e (int kd)).rep w B [.slice a n c] xs) (k : Nat) (hk : k < xs.length) :
    ∃ b o, a = some ⟨b, o, none⟩ ∧ b < B ∧ w.cell? ⟨b, o + k, none⟩ = some (.int kd xs[k]) ∧ InK kd xs[k] := by
  obtain ⟨a', c', hv, _, _, hat⟩ := at_ h
  obtain ⟨b, o, cs, ha, hb, hc, hr, hi⟩ := hat k hk
  injection hv with h1
  subst hr
  exact ⟨b, o, h1.trans ha, hb, by simpa [int] using hc 0 _ rfl, hi⟩
theorem elemBool {e : TypeId} {w : World} {B : Nat} {a : Option Addr} {n c : Nat} {xs : List Bool} (h : (slice e bool).rep w B [.slice a n c] xs) (k : Nat) (hk : k < xs.length) :
    ∃ b o, a = some ⟨b, o, none⟩ ∧ b < B ∧ w.cell? ⟨b, o + k, none⟩ = some (.bool xs[k]) := by
  obtain ⟨a', c', hv, _, _, hat⟩ := at_ h
  obtain ⟨b, o, cs, ha, hb, hc, hr⟩ := hat k hk
  injection hv with h1
  have hr' : cs = [.bool xs[k]] := hr
  subst hr'
  exact ⟨b, o, h1.trans ha, hb, by simpa [bool] using hc 0 _ rfl⟩
theorem elemStr {e : TypeId} {w : World} {B : Nat} {a : Option Addr} {n c : Nat} {xs : List ByteArray} (h : (slice e str).rep w B [.slice a n c] xs) (k : Nat) (hk : k < xs.length) :
    ∃ b o, a = some ⟨b, o, none⟩ ∧ b < B ∧ w.cell? ⟨b, o + k, none⟩ = some (.string xs[k]) ∧ xs[k].size ≤ maxLen := by
  obtain ⟨a', c', hv, _, _, hat⟩ := at_ h
  obtain ⟨b, o, cs, ha, hb, hc, hr, hi⟩ := hat k hk
  injection hv with h1
  subst hr
  exact ⟨b, o, h1.trans ha, hb, by simpa [str] using hc 0 _ rfl, hi⟩
/-- The numbers of a filled row, as rows of their own. -/
theorem rows_int {kd : IntKind} {w : World} : ∀ (xs : List Int), (∀ k (h : k < xs.length), InK kd xs[k]) → RowsO ((int kd).own w) (xs.map (Value.int kd)) xs []
  | [], _ => ⟨rfl, rfl⟩
  | x :: xs, h => ⟨[.int kd x], xs.map (Value.int kd), [], [], rfl, rfl, ⟨rfl, h 0 (by simp), rfl⟩, rows_int xs (fun k hk => by have := h (k + 1) (by simpa using hk); rwa [List.getElem_cons_succ] at this)⟩
theorem rows_bool {w : World} : ∀ (xs : List Bool), RowsO (bool.own w) (xs.map Value.bool) xs []
  | [] => ⟨rfl, rfl⟩
  | x :: xs => ⟨[.bool x], xs.map Value.bool, [], [], rfl, rfl, ⟨rfl, rfl⟩, rows_bool xs⟩
theorem rows_str {w : World} : ∀ (xs : List ByteArray), (∀ k (h : k < xs.length), xs[k].size ≤ maxLen) → RowsO (str.own w) (xs.map Value.string) xs []
  | [], _ => ⟨rfl, rfl⟩
  | x :: xs, h => ⟨[.string x], xs.map Value.string, [], [], rfl, rfl, ⟨rfl, h 0 (by simp), rfl⟩, rows_str xs (fun k hk => by have := h (k + 1) (by simpa using hk); rwa [List.getElem_cons_succ] at this)⟩
theorem own_ints {kd : IntKind} {w : World} {lo hi : Nat} {xs : List Int} (h : ∀ k (h : k < xs.length), InK kd xs[k]) : OwnRows (int kd) w lo hi (xs.map (Value.int kd)) xs := ⟨[], rows_int xs h, by simp, by simp⟩
theorem own_bools {w : World} {lo hi : Nat} {xs : List Bool} : OwnRows bool w lo hi (xs.map Value.bool) xs := ⟨[], rows_bool xs, by simp, by simp⟩
theorem own_strs {w : World} {lo hi : Nat} {xs : List ByteArray} (h : ∀ k (h : k < xs.length), xs[k].size ≤ maxLen) : OwnRows str w lo hi (xs.map Value.string) xs := ⟨[], rows_str xs h, by simp, by simp⟩
theorem all_int {e : TypeId} {kd : IntKind} {w : World} {B : Nat} {v : Value} {xs : List Int} (h : (slice e (int kd)).rep w B [v] xs) : ∀ k (hk : k < xs.length), InK kd xs[k] := by
  obtain ⟨a, c, rfl, _⟩ := form h
  intro k hk
  obtain ⟨_, _, _, _, _, hi⟩ := elemInt h k hk
  exact hi
theorem all_str {e : TypeId} {w : World} {B : Nat} {v : Value} {xs : List ByteArray} (h : (slice e str).rep w B [v] xs) : ∀ k (hk : k < xs.length), xs[k].size ≤ maxLen := by
  obtain ⟨a, c, rfl, _⟩ := form h
  intro k hk
  obtain ⟨_, _, _, _, _, hi⟩ := elemStr h k hk
  exact hi
end Ty
theorem map_take_succ {α : Type} (f : α → Value) (xs : List α) (k : Nat) (h : k < xs.length) : (xs.take k).map f ++ [f xs[k]] = (xs.take (k + 1)).map f := by
  rw [take_succ' xs k h, List.map_append]; rfl
theorem made_start (z : Value) (n : Nat) (e : TypeId) (w : World) : (w.alloc (.cells (madeCells z.cells n) e)).heap[w.heap.size]? = some (.cells (([] : List Value) ++ (madeCells z.cells n).toList).toArray e (0, 0)) := by
  rw [push1_0]; simp
theorem made_len (z : Array Value) (n : Nat) : (madeCells z n).toList.length = n := by simp [size_madeCells]

theorem Ty.slice_one {α : Type} {e : TypeId} {t : Ty α} {w : World} {B : Nat} {cs : List Value} {xs : List α} (h : (Ty.slice e t).rep w B cs xs) : ∃ v, cs = [v] := by
  obtain ⟨a, c, hv, _⟩ := h
  exact ⟨_, hv⟩
/-- How many things sz counts in a list. -/
def cntL {α : Type} (f : α → Nat) (xs : List α) : Nat := xs.length + (xs.map f).sum
theorem cntL_len {α : Type} (f : α → Nat) (xs : List α) : xs.length ≤ cntL f xs := by unfold cntL; omega
theorem sum_mem {α : Type} (f : α → Nat) : ∀ (xs : List α) (k : Nat) (h : k < xs.length), f xs[k] ≤ (xs.map f).sum
  | x :: xs, 0, _ => by simp
  | x :: xs, k + 1, h => by
    have := sum_mem f xs k (by simpa using h)
    simp only [List.getElem_cons_succ, List.map_cons, List.sum_cons]
    omega
theorem cntL_mem {α : Type} (f : α → Nat) (xs : List α) (k : Nat) (h : k < xs.length) : f xs[k] ≤ cntL f xs := by have := sum_mem f xs k h; unfold cntL; omega
def szR (l : Int) (c : Nat) : Int := if (c : Int) ≤ l then l - c else -1

theorem szR_ok {l : Int} {c : Nat} (h : (c : Int) ≤ l) : szR l c = l - c := if_pos h
theorem szR_no {l : Int} {c : Nat} (h : ¬ (c : Int) ≤ l) : szR l c = -1 := if_neg h
/-- The sum over the first k. -/
def sumT {α : Type} (f : α → Nat) (xs : List α) (k : Nat) : Nat := ((xs.take k).map f).sum
theorem sumT_zero {α : Type} (f : α → Nat) (xs : List α) : sumT f xs 0 = 0 := by simp [sumT]
theorem sumT_succ {α : Type} (f : α → Nat) (xs : List α) (k : Nat) (h : k < xs.length) : sumT f xs (k + 1) = sumT f xs k + f xs[k] := by
  unfold sumT
  rw [take_succ' xs k h, List.map_append, List.sum_append]
  simp
theorem sumT_le {α : Type} (f : α → Nat) (xs : List α) (k : Nat) : sumT f xs k ≤ (xs.map f).sum := by
  unfold sumT
  conv => rhs; rw [← List.take_append_drop k xs]
  rw [List.map_append, List.sum_append]
  omega
theorem sumT_all {α : Type} (f : α → Nat) (xs : List α) : sumT f xs xs.length = (xs.map f).sum := by unfold sumT; rw [List.take_length]

theorem plainbase {Q : World → Prop} {e : World} (h : ∀ W : World, W = e → Q W) : Q e := h e rfl
theorem cel1 {W : World} {b : Nat} {t : TypeId} {f : Nat × Nat} {v0 : Value} (h : W.heap[b]? = some (.cells #[v0] t f)) : W.cell? ⟨b, 0, none⟩ = some v0 := cell_of_row W b 0 _ _ _ h
theorem cel2 {W : World} {b : Nat} {t : TypeId} {f : Nat × Nat} {v0 v1 : Value} (h : W.heap[b]? = some (.cells #[v0, v1] t f)) : W.cell? ⟨b, 0, none⟩ = some v0 ∧ W.cell? ⟨b, 1, none⟩ = some v1 := ⟨cell_of_row W b 0 _ _ _ h, cell_of_row W b 1 _ _ _ h⟩
theorem cel3 {W : World} {b : Nat} {t : TypeId} {f : Nat × Nat} {v0 v1 v2 : Value} (h : W.heap[b]? = some (.cells #[v0, v1, v2] t f)) : W.cell? ⟨b, 0, none⟩ = some v0 ∧ W.cell? ⟨b, 1, none⟩ = some v1 ∧ W.cell? ⟨b, 2, none⟩ = some v2 := ⟨cell_of_row W b 0 _ _ _ h, cell_of_row W b 1 _ _ _ h, cell_of_row W b 2 _ _ _ h⟩
theorem cel4 {W : World} {b : Nat} {t : TypeId} {f : Nat × Nat} {v0 v1 v2 v3 : Value} (h : W.heap[b]? = some (.cells #[v0, v1, v2, v3] t f)) : W.cell? ⟨b, 0, none⟩ = some v0 ∧ W.cell? ⟨b, 1, none⟩ = some v1 ∧ W.cell? ⟨b, 2, none⟩ = some v2 ∧ W.cell? ⟨b, 3, none⟩ = some v3 := ⟨cell_of_row W b 0 _ _ _ h, cell_of_row W b 1 _ _ _ h, cell_of_row W b 2 _ _ _ h, cell_of_row W b 3 _ _ _ h⟩
theorem cel5 {W : World} {b : Nat} {t : TypeId} {f : Nat × Nat} {v0 v1 v2 v3 v4 : Value} (h : W.heap[b]? = some (.cells #[v0, v1, v2, v3, v4] t f)) : W.cell? ⟨b, 0, none⟩ = some v0 ∧ W.cell? ⟨b, 1, none⟩ = some v1 ∧ W.cell? ⟨b, 2, none⟩ = some v2 ∧ W.cell? ⟨b, 3, none⟩ = some v3 ∧ W.cell? ⟨b, 4, none⟩ = some v4 := ⟨cell_of_row W b 0 _ _ _ h, cell_of_row W b 1 _ _ _ h, cell_of_row W b 2 _ _ _ h, cell_of_row W b 3 _ _ _ h, cell_of_row W b 4 _ _ _ h⟩
theorem cel6 {W : World} {b : Nat} {t : TypeId} {f : Nat × Nat} {v0 v1 v2 v3 v4 v5 : Value} (h : W.heap[b]? = some (.cells #[v0, v1, v2, v3, v4, v5] t f)) : W.cell? ⟨b, 0, none⟩ = some v0 ∧ W.cell? ⟨b, 1, none⟩ = some v1 ∧ W.cell? ⟨b, 2, none⟩ = some v2 ∧ W.cell? ⟨b, 3, none⟩ = some v3 ∧ W.cell? ⟨b, 4, none⟩ = some v4 ∧ W.cell? ⟨b, 5, none⟩ = some v5 := ⟨cell_of_row W b 0 _ _ _ h, cell_of_row W b 1 _ _ _ h, cell_of_row W b 2 _ _ _ h, cell_of_row W b 3 _ _ _ h, cell_of_row W b 4 _ _ _ h, cell_of_row W b 5 _ _ _ h⟩
theorem cel7 {W : World} {b : Nat} {t : TypeId} {f : Nat × Nat} {v0 v1 v2 v3 v4 v5 v6 : Value} (h : W.heap[b]? = some (.cells #[v0, v1, v2, v3, v4, v5, v6] t f)) : W.cell? ⟨b, 0, none⟩ = some v0 ∧ W.cell? ⟨b, 1, none⟩ = some v1 ∧ W.cell? ⟨b, 2, none⟩ = some v2 ∧ W.cell? ⟨b, 3, none⟩ = some v3 ∧ W.cell? ⟨b, 4, none⟩ = some v4 ∧ W.cell? ⟨b, 5, none⟩ = some v5 ∧ W.cell? ⟨b, 6, none⟩ = some v6 := ⟨cell_of_row W b 0 _ _ _ h, cell_of_row W b 1 _ _ _ h, cell_of_row W b 2 _ _ _ h, cell_of_row W b 3 _ _ _ h, cell_of_row W b 4 _ _ _ h, cell_of_row W b 5 _ _ _ h, cell_of_row W b 6 _ _ _ h⟩
theorem cel8 {W : World} {b : Nat} {t : TypeId} {f : Nat × Nat} {v0 v1 v2 v3 v4 v5 v6 v7 : Value} (h : W.heap[b]? = some (.cells #[v0, v1, v2, v3, v4, v5, v6, v7] t f)) : W.cell? ⟨b, 0, none⟩ = some v0 ∧ W.cell? ⟨b, 1, none⟩ = some v1 ∧ W.cell? ⟨b, 2, none⟩ = some v2 ∧ W.cell? ⟨b, 3, none⟩ = some v3 ∧ W.cell? ⟨b, 4, none⟩ = some v4 ∧ W.cell? ⟨b, 5, none⟩ = some v5 ∧ W.cell? ⟨b, 6, none⟩ = some v6 ∧ W.cell? ⟨b, 7, none⟩ = some v7 := ⟨cell_of_row W b 0 _ _ _ h, cell_of_row W b 1 _ _ _ h, cell_of_row W b 2 _ _ _ h, cell_of_row W b 3 _ _ _ h, cell_of_row W b 4 _ _ _ h, cell_of_row W b 5 _ _ _ h, cell_of_row W b 6 _ _ _ h, cell_of_row W b 7 _ _ _ h⟩
theorem cel9 {W : World} {b : Nat} {t : TypeId} {f : Nat × Nat} {v0 v1 v2 v3 v4 v5 v6 v7 v8 : Value} (h : W.heap[b]? = some (.cells #[v0, v1, v2, v3, v4, v5, v6, v7, v8] t f)) : W.cell? ⟨b, 0, none⟩ = some v0 ∧ W.cell? ⟨b, 1, none⟩ = some v1 ∧ W.cell? ⟨b, 2, none⟩ = some v2 ∧ W.cell? ⟨b, 3, none⟩ = some v3 ∧ W.cell? ⟨b, 4, none⟩ = some v4 ∧ W.cell? ⟨b, 5, none⟩ = some v5 ∧ W.cell? ⟨b, 6, none⟩ = some v6 ∧ W.cell? ⟨b, 7, none⟩ = some v7 ∧ W.cell? ⟨b, 8, none⟩ = some v8 := ⟨cell_of_row W b 0 _ _ _ h, cell_of_row W b 1 _ _ _ h, cell_of_row W b 2 _ _ _ h, cell_of_row W b 3 _ _ _ h, cell_of_row W b 4 _ _ _ h, cell_of_row W b 5 _ _ _ h, cell_of_row W b 6 _ _ _ h, cell_of_row W b 7 _ _ _ h, cell_of_row W b 8 _ _ _ h⟩
theorem cel10 {W : World} {b : Nat} {t : TypeId} {f : Nat × Nat} {v0 v1 v2 v3 v4 v5 v6 v7 v8 v9 : Value} (h : W.heap[b]? = some (.cells #[v0, v1, v2, v3, v4, v5, v6, v7, v8, v9] t f)) : W.cell? ⟨b, 0, none⟩ = some v0 ∧ W.cell? ⟨b, 1, none⟩ = some v1 ∧ W.cell? ⟨b, 2, none⟩ = some v2 ∧ W.cell? ⟨b, 3, none⟩ = some v3 ∧ W.cell? ⟨b, 4, none⟩ = some v4 ∧ W.cell? ⟨b, 5, none⟩ = some v5 ∧ W.cell? ⟨b, 6, none⟩ = some v6 ∧ W.cell? ⟨b, 7, none⟩ = some v7 ∧ W.cell? ⟨b, 8, none⟩ = some v8 ∧ W.cell? ⟨b, 9, none⟩ = some v9 := ⟨cell_of_row W b 0 _ _ _ h, cell_of_row W b 1 _ _ _ h, cell_of_row W b 2 _ _ _ h, cell_of_row W b 3 _ _ _ h, cell_of_row W b 4 _ _ _ h, cell_of_row W b 5 _ _ _ h, cell_of_row W b 6 _ _ _ h, cell_of_row W b 7 _ _ _ h, cell_of_row W b 8 _ _ _ h, cell_of_row W b 9 _ _ _ h⟩
theorem cel11 {W : World} {b : Nat} {t : TypeId} {f : Nat × Nat} {v0 v1 v2 v3 v4 v5 v6 v7 v8 v9 v10 : Value} (h : W.heap[b]? = some (.cells #[v0, v1, v2, v3, v4, v5, v6, v7, v8, v9, v10] t f)) : W.cell? ⟨b, 0, none⟩ = some v0 ∧ W.cell? ⟨b, 1, none⟩ = some v1 ∧ W.cell? ⟨b, 2, none⟩ = some v2 ∧ W.cell? ⟨b, 3, none⟩ = some v3 ∧ W.cell? ⟨b, 4, none⟩ = some v4 ∧ W.cell? ⟨b, 5, none⟩ = some v5 ∧ W.cell? ⟨b, 6, none⟩ = some v6 ∧ W.cell? ⟨b, 7, none⟩ = some v7 ∧ W.cell? ⟨b, 8, none⟩ = some v8 ∧ W.cell? ⟨b, 9, none⟩ = some v9 ∧ W.cell? ⟨b, 10, none⟩ = some v10 := ⟨cell_of_row W b 0 _ _ _ h, cell_of_row W b 1 _ _ _ h, cell_of_row W b 2 _ _ _ h, cell_of_row W b 3 _ _ _ h, cell_of_row W b 4 _ _ _ h, cell_of_row W b 5 _ _ _ h, cell_of_row W b 6 _ _ _ h, cell_of_row W b 7 _ _ _ h, cell_of_row W b 8 _ _ _ h, cell_of_row W b 9 _ _ _ h, cell_of_row W b 10 _ _ _ h⟩
theorem cel12 {W : World} {b : Nat} {t : TypeId} {f : Nat × Nat} {v0 v1 v2 v3 v4 v5 v6 v7 v8 v9 v10 v11 : Value} (h : W.heap[b]? = some (.cells #[v0, v1, v2, v3, v4, v5, v6, v7, v8, v9, v10, v11] t f)) : W.cell? ⟨b, 0, none⟩ = some v0 ∧ W.cell? ⟨b, 1, none⟩ = some v1 ∧ W.cell? ⟨b, 2, none⟩ = some v2 ∧ W.cell? ⟨b, 3, none⟩ = some v3 ∧ W.cell? ⟨b, 4, none⟩ = some v4 ∧ W.cell? ⟨b, 5, none⟩ = some v5 ∧ W.cell? ⟨b, 6, none⟩ = some v6 ∧ W.cell? ⟨b, 7, none⟩ = some v7 ∧ W.cell? ⟨b, 8, none⟩ = some v8 ∧ W.cell? ⟨b, 9, none⟩ = some v9 ∧ W.cell? ⟨b, 10, none⟩ = some v10 ∧ W.cell? ⟨b, 11, none⟩ = some v11 := ⟨cell_of_row W b 0 _ _ _ h, cell_of_row W b 1 _ _ _ h, cell_of_row W b 2 _ _ _ h, cell_of_row W b 3 _ _ _ h, cell_of_row W b 4 _ _ _ h, cell_of_row W b 5 _ _ _ h, cell_of_row W b 6 _ _ _ h, cell_of_row W b 7 _ _ _ h, cell_of_row W b 8 _ _ _ h, cell_of_row W b 9 _ _ _ h, cell_of_row W b 10 _ _ _ h, cell_of_row W b 11 _ _ _ h⟩
theorem cel13 {W : World} {b : Nat} {t : TypeId} {f : Nat × Nat} {v0 v1 v2 v3 v4 v5 v6 v7 v8 v9 v10 v11 v12 : Value} (h : W.heap[b]? = some (.cells #[v0, v1, v2, v3, v4, v5, v6, v7, v8, v9, v10, v11, v12] t f)) : W.cell? ⟨b, 0, none⟩ = some v0 ∧ W.cell? ⟨b, 1, none⟩ = some v1 ∧ W.cell? ⟨b, 2, none⟩ = some v2 ∧ W.cell? ⟨b, 3, none⟩ = some v3 ∧ W.cell? ⟨b, 4, none⟩ = some v4 ∧ W.cell? ⟨b, 5, none⟩ = some v5 ∧ W.cell? ⟨b, 6, none⟩ = some v6 ∧ W.cell? ⟨b, 7, none⟩ = some v7 ∧ W.cell? ⟨b, 8, none⟩ = some v8 ∧ W.cell? ⟨b, 9, none⟩ = some v9 ∧ W.cell? ⟨b, 10, none⟩ = some v10 ∧ W.cell? ⟨b, 11, none⟩ = some v11 ∧ W.cell? ⟨b, 12, none⟩ = some v12 := ⟨cell_of_row W b 0 _ _ _ h, cell_of_row W b 1 _ _ _ h, cell_of_row W b 2 _ _ _ h, cell_of_row W b 3 _ _ _ h, cell_of_row W b 4 _ _ _ h, cell_of_row W b 5 _ _ _ h, cell_of_row W b 6 _ _ _ h, cell_of_row W b 7 _ _ _ h, cell_of_row W b 8 _ _ _ h, cell_of_row W b 9 _ _ _ h, cell_of_row W b 10 _ _ _ h, cell_of_row W b 11 _ _ _ h, cell_of_row W b 12 _ _ _ h⟩
theorem cel14 {W : World} {b : Nat} {t : TypeId} {f : Nat × Nat} {v0 v1 v2 v3 v4 v5 v6 v7 v8 v9 v10 v11 v12 v13 : Value} (h : W.heap[b]? = some (.cells #[v0, v1, v2, v3, v4, v5, v6, v7, v8, v9, v10, v11, v12, v13] t f)) : W.cell? ⟨b, 0, none⟩ = some v0 ∧ W.cell? ⟨b, 1, none⟩ = some v1 ∧ W.cell? ⟨b, 2, none⟩ = some v2 ∧ W.cell? ⟨b, 3, none⟩ = some v3 ∧ W.cell? ⟨b, 4, none⟩ = some v4 ∧ W.cell? ⟨b, 5, none⟩ = some v5 ∧ W.cell? ⟨b, 6, none⟩ = some v6 ∧ W.cell? ⟨b, 7, none⟩ = some v7 ∧ W.cell? ⟨b, 8, none⟩ = some v8 ∧ W.cell? ⟨b, 9, none⟩ = some v9 ∧ W.cell? ⟨b, 10, none⟩ = some v10 ∧ W.cell? ⟨b, 11, none⟩ = some v11 ∧ W.cell? ⟨b, 12, none⟩ = some v12 ∧ W.cell? ⟨b, 13, none⟩ = some v13 := ⟨cell_of_row W b 0 _ _ _ h, cell_of_row W b 1 _ _ _ h, cell_of_row W b 2 _ _ _ h, cell_of_row W b 3 _ _ _ h, cell_of_row W b 4 _ _ _ h, cell_of_row W b 5 _ _ _ h, cell_of_row W b 6 _ _ _ h, cell_of_row W b 7 _ _ _ h, cell_of_row W b 8 _ _ _ h, cell_of_row W b 9 _ _ _ h, cell_of_row W b 10 _ _ _ h, cell_of_row W b 11 _ _ _ h, cell_of_row W b 12 _ _ _ h, cell_of_row W b 13 _ _ _ h⟩
theorem celf {W : World} {b : Nat} {t : TypeId} {cs : Array Value} (h : W.heap[b]? = some (.cells cs t (0, 0))) : ∀ j : Nat, W.frozen? ⟨b, j, none⟩ = false := fun j => by simp [World.frozen?, h]
theorem blk_set' {w W : World} {b i : Nat} {t : TypeId} {cs : Array Value} {f : Nat × Nat} {u : Value} (hW : W = w.setCell ⟨b, i, none⟩ u) (h : w.heap[b]? = some (.cells cs t f)) : W.heap[b]? = some (.cells (cs.setIfInBounds i u) t f) := hW ▸ blk_set h u
theorem blk_far' {w W : World} {b c i : Nat} {o : Obj} {u : Value} (hW : W = w.setCell ⟨c, i, none⟩ u) (h : w.heap[b]? = some o) (hp : b ≠ c) : W.heap[b]? = some o := hW ▸ blk_far h u hp
theorem Own.set' {α : Type} {t : Ty α} {w W : World} {lo hi g i : Nat} {cs : List Value} {x : α} {v : Value} (hW : W = w.setCell ⟨g, i, none⟩ v) (h : Own t w lo hi cs x) (hg : g < lo ∨ hi ≤ g) : Own t W lo hi cs x := hW ▸ h.set hg v

theorem callbase {P : Program} {f : FuncId} {args : Array Value} {e : World} {R : Ending → World → Prop} (h : ∀ W : World, W = e → Calls P f args W R) : Calls P f args e R := h e rfl
theorem Own.at {α : Type} {t : Ty α} {W e : World} {lo hi : Nat} {cs : List Value} {x : α} (hW : W = e) (h : Own t e lo hi cs x) : Own t W lo hi cs x := hW ▸ h
theorem Own.form {α : Type} {t : Ty α} {e : TypeId} {w : World} {lo hi : Nat} {v : Value} {xs : List α} (h : Own (Ty.slice e t) w lo hi [v] xs) : ∃ a c, v = .slice a xs.length c := by
  obtain ⟨a, c, e, _⟩ := Ty.form (h.rep (Nat.le_refl _))
  exact ⟨a, c, e⟩

theorem bel1 {W : World} {b : Nat} {t : TypeId} {f : Nat × Nat} {v0 : Value} (h : W.heap[b]? = some (.cells #[v0] t f)) : ∀ w' : World, Below W.heap.size W w' → w'.cell? ⟨b, 0, none⟩ = some v0 := fun _ hb => cel1 (blk_on hb h)
theorem bel2 {W : World} {b : Nat} {t : TypeId} {f : Nat × Nat} {v0 v1 : Value} (h : W.heap[b]? = some (.cells #[v0, v1] t f)) : ∀ w' : World, Below W.heap.size W w' → w'.cell? ⟨b, 0, none⟩ = some v0 ∧ w'.cell? ⟨b, 1, none⟩ = some v1 := fun _ hb => cel2 (blk_on hb h)
theorem bel3 {W : World} {b : Nat} {t : TypeId} {f : Nat × Nat} {v0 v1 v2 : Value} (h : W.heap[b]? = some (.cells #[v0, v1, v2] t f)) : ∀ w' : World, Below W.heap.size W w' → w'.cell? ⟨b, 0, none⟩ = some v0 ∧ w'.cell? ⟨b, 1, none⟩ = some v1 ∧ w'.cell? ⟨b, 2, none⟩ = some v2 := fun _ hb => cel3 (blk_on hb h)
theorem bel4 {W : World} {b : Nat} {t : TypeId} {f : Nat × Nat} {v0 v1 v2 v3 : Value} (h : W.heap[b]? = some (.cells #[v0, v1, v2, v3] t f)) : ∀ w' : World, Below W.heap.size W w' → w'.cell? ⟨b, 0, none⟩ = some v0 ∧ w'.cell? ⟨b, 1, none⟩ = some v1 ∧ w'.cell? ⟨b, 2, none⟩ = some v2 ∧ w'.cell? ⟨b, 3, none⟩ = some v3 := fun _ hb => cel4 (blk_on hb h)
theorem bel5 {W : World} {b : Nat} {t : TypeId} {f : Nat × Nat} {v0 v1 v2 v3 v4 : Value} (h : W.heap[b]? = some (.cells #[v0, v1, v2, v3, v4] t f)) : ∀ w' : World, Below W.heap.size W w' → w'.cell? ⟨b, 0, none⟩ = some v0 ∧ w'.cell? ⟨b, 1, none⟩ = some v1 ∧ w'.cell? ⟨b, 2, none⟩ = some v2 ∧ w'.cell? ⟨b, 3, none⟩ = some v3 ∧ w'.cell? ⟨b, 4, none⟩ = some v4 := fun _ hb => cel5 (blk_on hb h)
theorem bel6 {W : World} {b : Nat} {t : TypeId} {f : Nat × Nat} {v0 v1 v2 v3 v4 v5 : Value} (h : W.heap[b]? = some (.cells #[v0, v1, v2, v3, v4, v5] t f)) : ∀ w' : World, Below W.heap.size W w' → w'.cell? ⟨b, 0, none⟩ = some v0 ∧ w'.cell? ⟨b, 1, none⟩ = some v1 ∧ w'.cell? ⟨b, 2, none⟩ = some v2 ∧ w'.cell? ⟨b, 3, none⟩ = some v3 ∧ w'.cell? ⟨b, 4, none⟩ = some v4 ∧ w'.cell? ⟨b, 5, none⟩ = some v5 := fun _ hb => cel6 (blk_on hb h)
theorem bel7 {W : World} {b : Nat} {t : TypeId} {f : Nat × Nat} {v0 v1 v2 v3 v4 v5 v6 : Value} (h : W.heap[b]? = some (.cells #[v0, v1, v2, v3, v4, v5, v6] t f)) : ∀ w' : World, Below W.heap.size W w' → w'.cell? ⟨b, 0, none⟩ = some v0 ∧ w'.cell? ⟨b, 1, none⟩ = some v1 ∧ w'.cell? ⟨b, 2, none⟩ = some v2 ∧ w'.cell? ⟨b, 3, none⟩ = some v3 ∧ w'.cell? ⟨b, 4, none⟩ = some v4 ∧ w'.cell? ⟨b, 5, none⟩ = some v5 ∧ w'.cell? ⟨b, 6, none⟩ = some v6 := fun _ hb => cel7 (blk_on hb h)
theorem bel8 {W : World} {b : Nat} {t : TypeId} {f : Nat × Nat} {v0 v1 v2 v3 v4 v5 v6 v7 : Value} (h : W.heap[b]? = some (.cells #[v0, v1, v2, v3, v4, v5, v6, v7] t f)) : ∀ w' : World, Below W.heap.size W w' → w'.cell? ⟨b, 0, none⟩ = some v0 ∧ w'.cell? ⟨b, 1, none⟩ = some v1 ∧ w'.cell? ⟨b, 2, none⟩ = some v2 ∧ w'.cell? ⟨b, 3, none⟩ = some v3 ∧ w'.cell? ⟨b, 4, none⟩ = some v4 ∧ w'.cell? ⟨b, 5, none⟩ = some v5 ∧ w'.cell? ⟨b, 6, none⟩ = some v6 ∧ w'.cell? ⟨b, 7, none⟩ = some v7 := fun _ hb => cel8 (blk_on hb h)
theorem bel9 {W : World} {b : Nat} {t : TypeId} {f : Nat × Nat} {v0 v1 v2 v3 v4 v5 v6 v7 v8 : Value} (h : W.heap[b]? = some (.cells #[v0, v1, v2, v3, v4, v5, v6, v7, v8] t f)) : ∀ w' : World, Below W.heap.size W w' → w'.cell? ⟨b, 0, none⟩ = some v0 ∧ w'.cell? ⟨b, 1, none⟩ = some v1 ∧ w'.cell? ⟨b, 2, none⟩ = some v2 ∧ w'.cell? ⟨b, 3, none⟩ = some v3 ∧ w'.cell? ⟨b, 4, none⟩ = some v4 ∧ w'.cell? ⟨b, 5, none⟩ = some v5 ∧ w'.cell? ⟨b, 6, none⟩ = some v6 ∧ w'.cell? ⟨b, 7, none⟩ = some v7 ∧ w'.cell? ⟨b, 8, none⟩ = some v8 := fun _ hb => cel9 (blk_on hb h)
theorem bel10 {W : World} {b : Nat} {t : TypeId} {f : Nat × Nat} {v0 v1 v2 v3 v4 v5 v6 v7 v8 v9 : Value} (h : W.heap[b]? = some (.cells #[v0, v1, v2, v3, v4, v5, v6, v7, v8, v9] t f)) : ∀ w' : World, Below W.heap.size W w' → w'.cell? ⟨b, 0, none⟩ = some v0 ∧ w'.cell? ⟨b, 1, none⟩ = some v1 ∧ w'.cell? ⟨b, 2, none⟩ = some v2 ∧ w'.cell? ⟨b, 3, none⟩ = some v3 ∧ w'.cell? ⟨b, 4, none⟩ = some v4 ∧ w'.cell? ⟨b, 5, none⟩ = some v5 ∧ w'.cell? ⟨b, 6, none⟩ = some v6 ∧ w'.cell? ⟨b, 7, none⟩ = some v7 ∧ w'.cell? ⟨b, 8, none⟩ = some v8 ∧ w'.cell? ⟨b, 9, none⟩ = some v9 := fun _ hb => cel10 (blk_on hb h)
theorem bel11 {W : World} {b : Nat} {t : TypeId} {f : Nat × Nat} {v0 v1 v2 v3 v4 v5 v6 v7 v8 v9 v10 : Value} (h : W.heap[b]? = some (.cells #[v0, v1, v2, v3, v4, v5, v6, v7, v8, v9, v10] t f)) : ∀ w' : World, Below W.heap.size W w' → w'.cell? ⟨b, 0, none⟩ = some v0 ∧ w'.cell? ⟨b, 1, none⟩ = some v1 ∧ w'.cell? ⟨b, 2, none⟩ = some v2 ∧ w'.cell? ⟨b, 3, none⟩ = some v3 ∧ w'.cell? ⟨b, 4, none⟩ = some v4 ∧ w'.cell? ⟨b, 5, none⟩ = some v5 ∧ w'.cell? ⟨b, 6, none⟩ = some v6 ∧ w'.cell? ⟨b, 7, none⟩ = some v7 ∧ w'.cell? ⟨b, 8, none⟩ = some v8 ∧ w'.cell? ⟨b, 9, none⟩ = some v9 ∧ w'.cell? ⟨b, 10, none⟩ = some v10 := fun _ hb => cel11 (blk_on hb h)
theorem bel12 {W : World} {b : Nat} {t : TypeId} {f : Nat × Nat} {v0 v1 v2 v3 v4 v5 v6 v7 v8 v9 v10 v11 : Value} (h : W.heap[b]? = some (.cells #[v0, v1, v2, v3, v4, v5, v6, v7, v8, v9, v10, v11] t f)) : ∀ w' : World, Below W.heap.size W w' → w'.cell? ⟨b, 0, none⟩ = some v0 ∧ w'.cell? ⟨b, 1, none⟩ = some v1 ∧ w'.cell? ⟨b, 2, none⟩ = some v2 ∧ w'.cell? ⟨b, 3, none⟩ = some v3 ∧ w'.cell? ⟨b, 4, none⟩ = some v4 ∧ w'.cell? ⟨b, 5, none⟩ = some v5 ∧ w'.cell? ⟨b, 6, none⟩ = some v6 ∧ w'.cell? ⟨b, 7, none⟩ = some v7 ∧ w'.cell? ⟨b, 8, none⟩ = some v8 ∧ w'.cell? ⟨b, 9, none⟩ = some v9 ∧ w'.cell? ⟨b, 10, none⟩ = some v10 ∧ w'.cell? ⟨b, 11, none⟩ = some v11 := fun _ hb => cel12 (blk_on hb h)
theorem bel13 {W : World} {b : Nat} {t : TypeId} {f : Nat × Nat} {v0 v1 v2 v3 v4 v5 v6 v7 v8 v9 v10 v11 v12 : Value} (h : W.heap[b]? = some (.cells #[v0, v1, v2, v3, v4, v5, v6, v7, v8, v9, v10, v11, v12] t f)) : ∀ w' : World, Below W.heap.size W w' → w'.cell? ⟨b, 0, none⟩ = some v0 ∧ w'.cell? ⟨b, 1, none⟩ = some v1 ∧ w'.cell? ⟨b, 2, none⟩ = some v2 ∧ w'.cell? ⟨b, 3, none⟩ = some v3 ∧ w'.cell? ⟨b, 4, none⟩ = some v4 ∧ w'.cell? ⟨b, 5, none⟩ = some v5 ∧ w'.cell? ⟨b, 6, none⟩ = some v6 ∧ w'.cell? ⟨b, 7, none⟩ = some v7 ∧ w'.cell? ⟨b, 8, none⟩ = some v8 ∧ w'.cell? ⟨b, 9, none⟩ = some v9 ∧ w'.cell? ⟨b, 10, none⟩ = some v10 ∧ w'.cell? ⟨b, 11, none⟩ = some v11 ∧ w'.cell? ⟨b, 12, none⟩ = some v12 := fun _ hb => cel13 (blk_on hb h)
theorem bel14 {W : World} {b : Nat} {t : TypeId} {f : Nat × Nat} {v0 v1 v2 v3 v4 v5 v6 v7 v8 v9 v10 v11 v12 v13 : Value} (h : W.heap[b]? = some (.cells #[v0, v1, v2, v3, v4, v5, v6, v7, v8, v9, v10, v11, v12, v13] t f)) : ∀ w' : World, Below W.heap.size W w' → w'.cell? ⟨b, 0, none⟩ = some v0 ∧ w'.cell? ⟨b, 1, none⟩ = some v1 ∧ w'.cell? ⟨b, 2, none⟩ = some v2 ∧ w'.cell? ⟨b, 3, none⟩ = some v3 ∧ w'.cell? ⟨b, 4, none⟩ = some v4 ∧ w'.cell? ⟨b, 5, none⟩ = some v5 ∧ w'.cell? ⟨b, 6, none⟩ = some v6 ∧ w'.cell? ⟨b, 7, none⟩ = some v7 ∧ w'.cell? ⟨b, 8, none⟩ = some v8 ∧ w'.cell? ⟨b, 9, none⟩ = some v9 ∧ w'.cell? ⟨b, 10, none⟩ = some v10 ∧ w'.cell? ⟨b, 11, none⟩ = some v11 ∧ w'.cell? ⟨b, 12, none⟩ = some v12 ∧ w'.cell? ⟨b, 13, none⟩ = some v13 := fun _ hb => cel14 (blk_on hb h)

theorem ext_lift {W W2 : World} (hb : Below W.heap.size W W2) (y : Ext W2) : ∃ z : Ext W, W2.to y = W.to z := ⟨⟨W2.to y, hb.trans (y.below.mono hb.size)⟩, rfl⟩
/-! ### The first of a list that a test says yes to -/
def idxP {α : Type} (p : α → Bool) : List α → Int
  | [] => -1
  | x :: xs => if p x then 0 else (if idxP p xs < 0 then -1 else idxP p xs + 1)
theorem idxP_ge {α : Type} (p : α → Bool) : ∀ xs : List α, -1 ≤ idxP p xs
  | [] => by simp [idxP]
  | x :: xs => by
    have := idxP_ge p xs
    unfold idxP
    split
    · omega
    · split <;> omega
theorem idxP_at {α : Type} (p : α → Bool) : ∀ (xs : List α) (k : Nat) (hk : k < xs.length), (∀ j (hj : j < k), p (xs[j]'(by omega)) = false) → p xs[k] = true → idxP p xs = k
  | x :: xs, 0, _, _, h => by
    have h' : p x = true := h
    simp [idxP, h']
  | x :: xs, k + 1, hk, hn, h => by
    have h0 : p x = false := hn 0 (by omega)
    have ih := idxP_at p xs k (by simpa using hk) (fun j hj => by have := hn (j + 1) (by omega); simpa using this) (by simpa using h)
    simp only [idxP, h0, ih]
    rw [if_neg (by simp), if_neg (by omega)]
    omega
theorem idxP_none {α : Type} (p : α → Bool) : ∀ (xs : List α), (∀ j (hj : j < xs.length), p xs[j] = false) → idxP p xs = -1
  | [], _ => rfl
  | x :: xs, hn => by
    have h0 : p x = false := hn 0 (by simp)
    have ih := idxP_none p xs (fun j hj => by have := hn (j + 1) (by simpa using hj); simpa using this)
    simp [idxP, h0, ih]
theorem idxP_any {α : Type} (p : α → Bool) : ∀ (xs : List α), decide (0 ≤ idxP p xs) = xs.any p
  | [] => by simp [idxP]
  | x :: xs => by
    have ih := idxP_any p xs
    unfold idxP
    by_cases h : p x = true
    · simp [h]
    · have h' : p x = false := by simpa using h
      rw [List.any_cons, h', ← ih, if_neg (by simp)]
      by_cases g : idxP p xs < 0
      · rw [if_pos g]
        have : ¬ 0 ≤ idxP p xs := by omega
        simp [this]
      · rw [if_neg g]
        have h1 : 0 ≤ idxP p xs := by omega
        have h2 : 0 ≤ idxP p xs + 1 := by omega
        simp [h1, h2]
/-- Two lists, pair by pair. -/
def allP {α β : Type} (r : α → β → Bool) : List α → List β → Bool
  | [], [] => true
  | x :: xs, y :: ys => r x y && allP r xs ys
  | _, _ => false
theorem allP_len {α β : Type} (r : α → β → Bool) : ∀ (xs : List α) (ys : List β), xs.length ≠ ys.length → allP r xs ys = false
  | [], [], h => absurd rfl h
  | [], _ :: _, _ => rfl
  | _ :: _, [], _ => rfl
  | x :: xs, y :: ys, h => by rw [allP, allP_len r xs ys (by simpa using h), Bool.and_false]
theorem allP_no {α β : Type} (r : α → β → Bool) : ∀ (xs : List α) (ys : List β) (k : Nat) (h1 : k < xs.length) (h2 : k < ys.length), r xs[k] ys[k] = false → allP r xs ys = false
  | x :: xs, y :: ys, 0, _, _, h => by
    have h' : r x y = false := h
    rw [allP, h', Bool.false_and]
  | x :: xs, y :: ys, k + 1, h1, h2, h => by rw [allP, allP_no r xs ys k (by simpa using h1) (by simpa using h2) (by simpa using h), Bool.and_false]
theorem allP_yes {α β : Type} (r : α → β → Bool) : ∀ (xs : List α) (ys : List β), xs.length = ys.length → (∀ k (h1 : k < xs.length) (h2 : k < ys.length), r xs[k] ys[k] = true) → allP r xs ys = true
  | [], [], _, _ => rfl
  | [], _ :: _, h, _ => by simp at h
  | _ :: _, [], h, _ => by simp at h
  | x :: xs, y :: ys, h, hk => by
    have h0 : r x y = true := hk 0 (by simp) (by simp)
    rw [allP, h0, allP_yes r xs ys (by simpa using h) (fun k h1 h2 => by have := hk (k + 1) (by simpa using h1) (by simpa using h2); simpa using this), Bool.true_and]
theorem allP_eq {α : Type} [DecidableEq α] : ∀ (xs ys : List α), allP (fun x y => decide (x = y)) xs ys = decide (xs = ys)
  | [], [] => by simp [allP]
  | [], _ :: _ => by simp [allP]
  | _ :: _, [] => by simp [allP]
  | x :: xs, y :: ys => by
    rw [allP, allP_eq xs ys]
    by_cases h1 : x = y <;> by_cases h2 : xs = ys <;> simp [h1, h2]

end Go.Proofs.Ytlblmbhaakjcaaa
