/- Laws that the proof stands on. -/
import Derived.Test.YtgnlikamelfmjaaZg10
set_option linter.all false
namespace Go.Proofs.Ytgnlikamelfmjaa
open Go.RowKit Go.V
set_option maxRecDepth 100000
theorem less_irr (a : Point) : lessP a a = false := by simp [lessP]
theorem less_tr {a b c : Point} (h1 : lessP a b = true) (h2 : lessP b c = true) : lessP a c = true := by simp only [lessP, Bool.or_eq_true, Bool.and_eq_true, decide_eq_true_eq] at *; omega
theorem less_eq {a b : Point} (h1 : lessP a b = false) (h2 : lessP b a = false) : a = b := by obtain ⟨ax, ay⟩ := a; obtain ⟨bx, bY⟩ := b; simp only [lessP, Bool.or_eq_false_iff, Bool.and_eq_false_iff, decide_eq_false_iff_not, Point.mk.injEq] at *; omega
theorem bsF_find {f : Nat → Bool} : ∀ n i j, j - i ≤ n → i ≤ j → (∀ k, k < i → f k = true) → (∀ k l, k < l → l < j → f l = true → f k = true) → (∀ k, k < bsF f n i j → f k = true) ∧ (∀ k, bsF f n i j ≤ k → k < j → f k = false)
  | 0, i, j, h, hij, hlo, _ => ⟨hlo, fun k h1 h2 => absurd h2 (by simp only [bsF] at h1; omega)⟩
  | n + 1, i, j, h, hij, hlo, hm => by
    by_cases hlt : i < j
    · have hm2 : (i + j) / 2 < j := (by omega); have hm1 : i ≤ (i + j) / 2 := (by omega); cases hf : f ((i + j) / 2) with
      | true =>
        have e : bsF f (n + 1) i j = bsF f n ((i + j) / 2 + 1) j := (by simp only [bsF, if_pos hlt, hf, if_true]); rw [e]; refine bsF_find n _ _ (by omega) (by omega) (fun k hk => ?_) hm; by_cases hk2 : k = (i + j) / 2
        · rw [hk2]; exact hf
        · exact hm k _ (by omega) hm2 hf
      | false =>
        have e : bsF f (n + 1) i j = bsF f n i ((i + j) / 2) := (by simp only [bsF, if_pos hlt, hf]; rfl); rw [e]; obtain ⟨h1, h2⟩ := bsF_find (f := f) n i ((i + j) / 2) (by omega) hm1 hlo (fun k l hk hl => hm k l hk (by omega)); refine ⟨h1, fun k hk hkj => ?_⟩; by_cases hk2 : k < (i + j) / 2
        · exact h2 k hk hk2
        · cases hfk : f k with
          | false => rfl
          | true =>
            by_cases hk3 : k = (i + j) / 2
            · rw [hk3, hf] at hfk; cases hfk
            · have := hm ((i + j) / 2) k (by omega) hkj hfk; rw [hf] at this; cases this
    · rw [bsF_end hlt]; exact ⟨hlo, fun k h1 h2 => absurd h2 (by omega)⟩
def strictP (ps : List Placed) : Prop := ps.Pairwise fun x y => lessP x.At y.At = true
theorem strict_at {ps : List Placed} (h : strictP ps) {i j : Nat} (hij : i < j) (hj : j < ps.length) : lessP (ps[i]'(by omega)).At ps[j].At = true :=
  List.pairwise_iff_getElem.1 h i j (by omega) hj hij
theorem bsA_find {ps : List Placed} (h : strictP ps) {i : Nat} (hi : i < ps.length) : bsA ps ps[i].At = i := by
  have hl : (ps.map (·.At)).length = ps.length := List.length_map ..; have key := bsF_find (f := lessAt (ps.map (·.At)) ps[i].At) ps.length 0 ps.length (by omega) (Nat.zero_le _) (fun k hk => absurd hk (by omega)) (fun k l hkl hl2 hf => by
    rw [lessAt_pl hl2] at hf; rw [lessAt_pl (by omega)]; exact less_tr (strict_at h hkl hl2) hf)
  have e : bsA ps ps[i].At = bsF (lessAt (ps.map (·.At)) ps[i].At) ps.length 0 ps.length := (by unfold bsA bsP; rw [hl]); rw [← e] at key; obtain ⟨k1, k2⟩ := key; have h1 : ¬ i < bsA ps ps[i].At := fun hlt => by have := k1 i hlt; rw [lessAt_pl hi, less_irr] at this; cases this
  have h2 : ¬ bsA ps ps[i].At < i := fun hlt => by have := k2 _ (Nat.le_refl _) (by omega); rw [lessAt_pl (by omega)] at this; have h3 := strict_at h hlt hi; rw [h3] at this; cases this
  omega
theorem atP_yes {ps : List Placed} (h : strictP ps) {x : Placed} (hx : x ∈ ps) : atP ps x.At = true ∧ tileA ps x.At = x.Tile := by obtain ⟨i, hi, rfl⟩ := List.getElem_of_mem hx; have e := bsA_find h hi; have h1 : atP ps ps[i].At = true := (by unfold atP; rw [e, List.getElem?_eq_getElem hi]; simp); refine ⟨h1, ?_⟩; unfold tileA; rw [h1, if_pos rfl, e, List.getElem?_eq_getElem hi]
theorem atP_no {ps : List Placed} {p : Point} (h : ∀ x, x ∈ ps → x.At ≠ p) : atP ps p = false ∧ tileA ps p = -1 := by
  have h1 : atP ps p = false := by
    cases ha : atP ps p with
    | false => rfl
    | true => obtain ⟨hb, e⟩ := atP_lt ha; exact absurd e (h _ (List.getElem_mem hb))
  refine ⟨h1, ?_⟩; unfold tileA; rw [h1]; rfl
/-! joined: the program's way -/
/-! the reference's way -/
def strictQ (xs : List Point) : Prop := xs.Pairwise fun p q => lessP p q = true
theorem strictQ_nodup {xs : List Point} (h : strictQ xs) : xs.Nodup := h.imp (fun h e => by rw [e, less_irr] at h; cases h)
def plc (xs : List Point) : List Placed := xs.map fun p => ⟨p, 0⟩
theorem strict_plc {xs : List Point} (h : strictQ xs) : strictP (plc xs) := by unfold strictP plc; rw [List.pairwise_map]; exact h
theorem shape_strict {xs : List Point} (h : okShape xs = true) : strictQ xs ∧ 1 ≤ xs.length ∧ xs.length ≤ 500 := by
  unfold okShape at h; rw [Bool.and_eq_true] at h; have hl : 1 ≤ xs.length ∧ xs.length ≤ 500 := by have := h.1; simp only [inR, Bool.and_eq_true, decide_eq_true_eq] at this; omega
  have h1 : ∀ i (hi : i + 1 < xs.length), lessP xs[i] xs[i + 1] = true := fun i hi => by have := List.all_eq_true.1 h.2 (i + 1) (List.mem_range.2 hi); simp only [shapeAt, List.getElem?_eq_getElem hi, List.getElem?_eq_getElem (show i < xs.length by omega), Bool.and_eq_true] at this; exact this.2
  have h2 : ∀ d i (hi : i + d + 1 < xs.length), lessP xs[i] xs[i + d + 1] = true := fun d => by
    induction d with
    | zero => intro i hi; exact h1 i hi
    | succ d ih => intro i hi; exact less_tr (ih i (by omega)) (h1 (i + d + 1) (by omega))
  refine ⟨List.pairwise_iff_getElem.2 fun i j hi hj hij => ?_, hl⟩; have := h2 (j - i - 1) i (by omega); have e : i + (j - i - 1) + 1 = j := by omega
  simpa only [e] using this
def ptsG (xs : List Point) (p : List Nat) : List Point := p.map fun j => xs.getD j ⟨0, 0⟩
theorem ptsG_at {xs : List Point} {p : List Nat} {k j : Nat} (hk : p[k]? = some j) (hj : j < xs.length) : (ptsG xs p)[k]? = some xs[j] := by unfold ptsG; rw [List.getElem?_map, hk, Option.map_some, List.getD_eq_getElem?_getD, List.getElem?_eq_getElem hj]; rfl
def atQ (xs : List Point) (q : Point) : Option Nat := xs.findIdx? (fun p => decide (p = q))
theorem atQ_some {xs : List Point} {q : Point} {j : Nat} (h : atQ xs q = some j) : ∃ hj : j < xs.length, xs[j] = q := by obtain ⟨hj, h1, _⟩ := List.findIdx?_eq_some_iff_getElem.1 h; exact ⟨hj, of_decide_eq_true h1⟩
theorem atQ_none {xs : List Point} {q : Point} (h : atQ xs q = none) : q ∉ xs := fun hq => by have := List.findIdx?_eq_none_iff.1 h q hq; simp at this
theorem atQ_at {xs : List Point} (h : xs.Nodup) {j : Nat} (hj : j < xs.length) : atQ xs xs[j] = some j := by
  cases hq : atQ xs xs[j] with
  | none => exact absurd (List.getElem_mem hj) (atQ_none hq)
  | some k =>
    obtain ⟨hk, e⟩ := atQ_some hq; have hkj : k = j := by
      rcases Nat.lt_trichotomy k j with h1 | h1 | h1
      · exact absurd e (List.pairwise_iff_getElem.1 h k j hk hj h1)
      · exact h1
      · exact absurd e.symm (List.pairwise_iff_getElem.1 h j k hj hk h1)
    rw [hkj]
theorem idx_atQ {xs : List Point} (h : strictQ xs) (q : Point) : idxA (plc xs) q = match atQ xs q with | some j => (j : Int) | none => -1 := by
  have hs := strict_plc h; cases hq : atQ xs q with
  | none =>
    have h1 := (atP_no (ps := plc xs) (p := q) (fun x hx e => by
      obtain ⟨p, hp, rfl⟩ := List.mem_map.1 hx; exact atQ_none hq (e ▸ hp))).1
    unfold idxA; rw [h1]; rfl
  | some j => obtain ⟨hj, rfl⟩ := atQ_some hq; have hj' : j < (plc xs).length := (by unfold plc; rw [List.length_map]; exact hj); have e : (plc xs)[j].At = xs[j] := (by simp only [plc, List.getElem_map]); have h1 := (atP_yes hs (List.getElem_mem hj')).1; have h2 := bsA_find hs hj'; rw [e] at h1 h2; unfold idxA; rw [h1, h2]; rfl
def cnt0 (nm : List Int) : Nat := (nm.filter (fun x => decide (x = 0))).length
theorem cnt0_le (nm : List Int) : cnt0 nm ≤ nm.length := List.length_filter_le _ _
theorem cnt0_set {nm : List Int} {g : Int} (hg : g ≠ 0) : ∀ {j : Nat}, nm[j]? = some 0 → cnt0 (nm.set j g) + 1 = cnt0 nm := by
  induction nm with
  | nil => intro j h; simp at h
  | cons x nm ih =>
    intro j h; cases j with
    | zero => simp only [List.getElem?_cons_zero, Option.some.injEq] at h; subst h; simp [cnt0, hg]
    | succ j =>
      rw [List.getElem?_cons_succ] at h; have := ih h; unfold cnt0 at *; rw [List.set_cons_succ]; by_cases hx : x = 0
      · simp only [hx, decide_true, List.filter_cons_of_pos, List.length_cons]; omega
      · rw [List.filter_cons_of_neg (by simpa using hx), List.filter_cons_of_neg (by simpa using hx)]; exact this
def stepG (xs : List Point) (g : Int) (z : List Int × List Nat) (k d : Nat) : List Int × List Nat :=
  match z.2[k]? with
  | some i => match xs[i]? with
    | some p => match atQ xs (stepP p d) with
      | some j => if z.1[j]? = some 0 then (z.1.set j g, z.2 ++ [j]) else z
      | none => z
    | none => z
  | none => z
def dirsG (xs : List Point) (g : Int) (k : Nat) (z : List Int × List Nat) : Nat → List Int × List Nat
  | 0 => z
  | d + 1 => stepG xs g (dirsG xs g k z d) k d
def walkG (xs : List Point) (g : Int) : Nat → Nat → List Int × List Nat → List Int × List Nat
  | 0, _, z => z
  | f + 1, k, z => if k < z.2.length then walkG xs g f (k + 1) (dirsG xs g k z 4) else z
def outG (xs : List Point) : Nat → List Int × List (List Nat)
  | 0 => (List.replicate xs.length 0, [])
  | i + 1 => if (outG xs i).1[i]? = some 0 then
      ((walkG xs (((outG xs i).2.length : Int) + 1) xs.length 0 ((outG xs i).1.set i (((outG xs i).2.length : Int) + 1), [i])).1, (outG xs i).2 ++ [(walkG xs (((outG xs i).2.length : Int) + 1) xs.length 0 ((outG xs i).1.set i (((outG xs i).2.length : Int) + 1), [i])).2])
    else outG xs i
structure okG (xs : List Point) (G c : Nat) (z : List Int × List Nat) : Prop where
  len : z.1.length = xs.length
  lt : ∀ j, j ∈ z.2 → j < xs.length
  nm : ∀ x, x ∈ z.1 → 0 ≤ x ∧ x ≤ (G : Int)
  sum : z.2.length + cnt0 z.1 = c
theorem stepG_ok {xs : List Point} {G c : Nat} (hG : 1 ≤ G) {z : List Int × List Nat} (h : okG xs G c z) (k d : Nat) : okG xs G c (stepG xs (G : Int) z k d) ∧ (∀ (i : Nat) (x : Int), z.1[i]? = some x → x ≠ 0 → (stepG xs (G : Int) z k d).1[i]? = some x) ∧ z.2 <+: (stepG xs (G : Int) z k d).2 := by
  unfold stepG; split
  · split
    · split
      · split
        · rename_i j hj h0; obtain ⟨hj, _⟩ := atQ_some hj; have hc := cnt0_set (g := (G : Int)) (by omega) h0; have hs := h.sum; refine ⟨⟨by rw [List.length_set]; exact h.len, fun y hy => ?_, fun x hx => ?_, ?_⟩, fun i x hi hx => ?_, List.prefix_append _ _⟩
          · rcases List.mem_append.1 hy with hy | hy
            · exact h.lt y hy
            · rw [List.mem_singleton.1 hy]; exact hj
          · rcases List.mem_or_eq_of_mem_set hx with hx | rfl
            · exact h.nm x hx
            · omega
          · show (z.2 ++ [j]).length + cnt0 (z.1.set j (G : Int)) = c; rw [List.length_append]; simp only [List.length_cons, List.length_nil]; omega
          · show (z.1.set j (G : Int))[i]? = some x; by_cases hij : j = i
            · subst hij; rw [h0] at hi; cases hi; exact absurd rfl hx
            · rw [List.getElem?_set_ne hij]; exact hi
        · exact ⟨h, fun _ _ h _ => h, List.prefix_refl _⟩
      · exact ⟨h, fun _ _ h _ => h, List.prefix_refl _⟩
    · exact ⟨h, fun _ _ h _ => h, List.prefix_refl _⟩
  · exact ⟨h, fun _ _ h _ => h, List.prefix_refl _⟩
theorem dirsG_ok {xs : List Point} {G c : Nat} (hG : 1 ≤ G) {z : List Int × List Nat} (h : okG xs G c z) (k : Nat) : ∀ d, okG xs G c (dirsG xs (G : Int) k z d) ∧ (∀ (i : Nat) (x : Int), z.1[i]? = some x → x ≠ 0 → (dirsG xs (G : Int) k z d).1[i]? = some x) ∧ z.2 <+: (dirsG xs (G : Int) k z d).2
  | 0 => ⟨h, fun _ _ h _ => h, List.prefix_refl _⟩
  | d + 1 => by obtain ⟨h1, h2, h3⟩ := dirsG_ok hG h k d; obtain ⟨h4, h5, h6⟩ := stepG_ok hG h1 k d; exact ⟨h4, fun i x hi hx => h5 i x (h2 i x hi hx) hx, h3.trans h6⟩
theorem walkG_ok {xs : List Point} {G c : Nat} (hG : 1 ≤ G) : ∀ (f k : Nat) {z : List Int × List Nat}, okG xs G c z → okG xs G c (walkG xs (G : Int) f k z) ∧ (∀ (i : Nat) (x : Int), z.1[i]? = some x → x ≠ 0 → (walkG xs (G : Int) f k z).1[i]? = some x)
  | 0, _, z, h => ⟨h, fun _ _ h _ => h⟩
  | f + 1, k, z, h => by
    unfold walkG; split
    · obtain ⟨h1, h2, _⟩ := dirsG_ok hG h k 4; obtain ⟨h3, h4⟩ := walkG_ok hG f (k + 1) h1; exact ⟨h3, fun i x hi hx => h4 i x (h2 i x hi hx) hx⟩
    · exact ⟨h, fun _ _ h _ => h⟩
theorem walkG_end {xs : List Point} {g : Int} {f k : Nat} {z : List Int × List Nat} (h : ¬ k < z.2.length) : walkG xs g f k z = z := by
  cases f with
  | zero => rfl
  | succ f => unfold walkG; rw [if_neg h]
structure okO (xs : List Point) (i : Nat) (z : List Int × List (List Nat)) : Prop where
  len : z.1.length = xs.length
  nm : ∀ x, x ∈ z.1 → 0 ≤ x ∧ x ≤ (z.2.length : Int)
  all : ∀ j, j < i → ∀ x, z.1[j]? = some x → x ≠ 0
  lt : ∀ p, p ∈ z.2 → ∀ j, j ∈ p → j < xs.length
  few : z.2.length ≤ i
  part : ∀ p, p ∈ z.2 → p.length ≤ xs.length
theorem startG {xs : List Point} {i : Nat} {z : List Int × List (List Nat)} (h : okO xs i z) (hi : i < xs.length) (h0 : z.1[i]? = some 0) : okG xs (z.2.length + 1) (cnt0 z.1) (z.1.set i (((z.2.length + 1 : Nat) : Int)), [i]) := by
  have hc := cnt0_set (g := ((z.2.length + 1 : Nat) : Int)) (by omega) h0; refine ⟨by rw [List.length_set]; exact h.len, fun j hj => by rw [List.mem_singleton.1 hj]; exact hi, fun x hx => ?_, ?_⟩
  · rcases List.mem_or_eq_of_mem_set hx with hx | rfl
    · have := h.nm x hx; omega
    · omega
  · show 1 + cnt0 (z.1.set i _) = _; omega
theorem outG_ok {xs : List Point} : ∀ i, i ≤ xs.length → okO xs i (outG xs i)
  | 0, _ => ⟨by simp [outG], fun x hx => by
      have := List.eq_of_mem_replicate hx; subst this; exact ⟨Int.le_refl _, Int.le_refl _⟩, fun j hj => absurd hj (by omega), fun p hp => by simp [outG] at hp, by simp [outG], fun p hp => by simp [outG] at hp⟩
  | i + 1, hi => by
    have ih : okO xs i (outG xs i) := outG_ok i (by omega); have hlt : i < (outG xs i).1.length := (by rw [ih.len]; omega); unfold outG; split
    · rename_i h0; have hs := startG ih (by omega) h0; have e : (((outG xs i).2.length + 1 : Nat) : Int) = ((outG xs i).2.length : Int) + 1 := by omega
      obtain ⟨h1, h2⟩ := walkG_ok (G := (outG xs i).2.length + 1) (c := cnt0 (outG xs i).1) (by omega) xs.length 0 hs; rw [e] at h1 h2; generalize walkG xs (((outG xs i).2.length : Int) + 1) xs.length 0 ((outG xs i).1.set i (((outG xs i).2.length : Int) + 1), [i]) = y at *; refine ⟨h1.len, fun x hx => ?_, fun j hj x hx => ?_, fun p hp => ?_, ?_, fun p hp => ?_⟩
      · have := h1.nm x hx; simp only [List.length_append, List.length_cons, List.length_nil]; omega
      · have hjl : j < (outG xs i).1.length := (by omega); by_cases hji : j = i
        · subst hji; have := h2 j (((outG xs j).2.length : Int) + 1) (by simp [hjl]) (by omega); rw [this] at hx; cases hx; omega
        · have hx0 : (outG xs i).1[j]? = some (outG xs i).1[j] := List.getElem?_eq_getElem hjl; have hne := ih.all j (by omega) _ hx0; have := h2 j (outG xs i).1[j] (by rw [List.getElem?_set_ne (fun e => hji e.symm)]; exact hx0) hne; rw [this] at hx; cases hx; exact hne
      · rcases List.mem_append.1 hp with hp | hp
        · exact ih.lt p hp
        · rw [List.mem_singleton.1 hp]; exact h1.lt
      · have := ih.few; simp only [List.length_append, List.length_cons, List.length_nil]; omega
      · rcases List.mem_append.1 hp with hp | hp
        · exact ih.part p hp
        · rw [List.mem_singleton.1 hp]; have := h1.sum; have := cnt0_le (outG xs i).1; have := ih.len; omega
    · rename_i h0; refine ⟨ih.len, ih.nm, fun j hj x hx => ?_, ih.lt, by have := ih.few; omega, ih.part⟩; by_cases hji : j = i
      · subst hji; exact fun e => h0 (by rw [hx, e])
      · exact ih.all j (by omega) x hx
/-! the program's table of points that are left -/
def keyP (p : Point) : Value := .agg #[.int .i64 p.X, .int .i64 p.Y]
def entsP (xs : List Point) : List (Value × Value) := xs.map fun p => (keyP p, Value.bool true)
theorem keqP (a b : Point) : keq (keyP a) (keyP b) = decide (b = a) := by obtain ⟨ax, ay⟩ := a; obtain ⟨bx, bY⟩ := b; rw [Bool.eq_iff_iff, decide_eq_true_eq]; show ((ax == bx) && ((ay == bY) && true)) = true ↔ _; simp only [Bool.and_true, Bool.and_eq_true, beq_iff_eq, Point.mk.injEq]; constructor <;> rintro ⟨rfl, rfl⟩ <;> exact ⟨rfl, rfl⟩
theorem mget_P (q : Point) : ∀ xs : List Point, mget (entsP xs) (keyP q) = if q ∈ xs then some (.bool true) else none
  | [] => by simp [mget, entsP]
  | p :: xs => by
    have ih := mget_P q xs; unfold mget entsP at *; simp only [List.map_cons, List.find?_cons, keqP]; by_cases h : p = q
    · subst h; simp
    · rw [decide_eq_false h]; simp only; rw [ih]; have : q ∈ p :: xs ↔ q ∈ xs := by simp [Ne.symm h]
      simp only [this]
theorem find_P (q : Point) (xs : List Point) : (entsP xs).findIdx? (fun x => keq (keyP q) x.1) = xs.findIdx? (fun p => decide (p = q)) := by unfold entsP; rw [List.findIdx?_map]; congr 1; funext p; exact keqP q p
theorem mset_P {xs : List Point} {q : Point} (h : q ∉ xs) : mset (entsP xs) (keyP q) (.bool true) = entsP (xs ++ [q]) := by
  unfold mset; rw [find_P]; have : xs.findIdx? (fun p => decide (p = q)) = none := by rw [List.findIdx?_eq_none_iff]; intro p hp; rw [decide_eq_false_iff_not]; exact fun e => h (e ▸ hp)
  rw [this]; simp [entsP]
theorem erase_map {α β : Type} (f : α → β) : ∀ (xs : List α) (i : Nat), (xs.map f).eraseIdx i = (xs.eraseIdx i).map f
  | [], _ => rfl
  | _ :: _, 0 => rfl
  | x :: xs, i + 1 => by simp only [List.map_cons, List.eraseIdx_cons_succ, erase_map f xs i]
theorem mdel_P {xs : List Point} {q : Point} (hn : xs.Nodup) : ∃ ys, mdel (entsP xs) (keyP q) = entsP ys ∧ ys.Nodup ∧ ∀ p, p ∈ ys ↔ p ∈ xs ∧ p ≠ q := by
  unfold mdel; rw [find_P]; cases hi : xs.findIdx? (fun p => decide (p = q)) with
  | none => refine ⟨xs, rfl, hn, fun p => ⟨fun hp => ⟨hp, fun e => ?_⟩, fun hp => hp.1⟩⟩; have := List.findIdx?_eq_none_iff.1 hi p hp; simp [e] at this
  | some i =>
    obtain ⟨hil, he, _⟩ := List.findIdx?_eq_some_iff_getElem.1 hi; have he := of_decide_eq_true he; refine ⟨xs.eraseIdx i, by unfold entsP; exact (erase_map _ xs i).symm ▸ rfl, hn.sublist (List.eraseIdx_sublist ..), fun p => ?_⟩; rw [List.mem_eraseIdx_iff_getElem]; constructor
    · rintro ⟨j, hj, hne, rfl⟩; refine ⟨List.getElem_mem hj, fun e => hne ?_⟩; have h1 := atQ_at hn hj; have h2 := atQ_at hn hil; rw [e, ← he] at h1; rw [h2] at h1; exact (Option.some.inj h1).symm
    · rintro ⟨hp, hne⟩; obtain ⟨j, hj, rfl⟩ := List.getElem_of_mem hp; exact ⟨j, hj, fun e => hne (by subst e; exact he), rfl⟩
end Go.Proofs.Ytgnlikamelfmjaa
