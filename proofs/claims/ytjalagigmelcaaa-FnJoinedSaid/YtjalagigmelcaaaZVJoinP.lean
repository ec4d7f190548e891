/- Laws that the proof stands on. -/
import Derived.Test.YtjalagigmelcaaaZg15
set_option linter.all false
namespace Go.Proofs.Ytjalagigmelcaaa
open Go.RowKit Go.V
set_option maxRecDepth 100000
theorem less_irr (a : Point) : lessP a a = false := by simp [lessP]
theorem less_tr {a b c : Point} (h1 : lessP a b = true) (h2 : lessP b c = true) : lessP a c = true := by simp only [lessP, Bool.or_eq_true, Bool.and_eq_true, decide_eq_true_eq] at *; omega
theorem less_as {a b : Point} (h : lessP a b = true) : lessP b a = false := by
  cases h2 : lessP b a with
  | false => rfl
  | true => have := less_tr h h2; rw [less_irr] at this; cases this
theorem less_eq {a b : Point} (h1 : lessP a b = false) (h2 : lessP b a = false) : a = b := by obtain ⟨ax, ay⟩ := a; obtain ⟨bx, bY⟩ := b; simp only [lessP, Bool.or_eq_false_iff, Bool.and_eq_false_iff, decide_eq_false_iff_not, Point.mk.injEq] at *; omega
theorem bsF_find {f : Nat → Bool} : ∀ n i j, j - i ≤ n → i ≤ j → (∀ k, k < i → f k = true) → (∀ k l, k < l → l < j → f l = true → f k = true) → (∀ k, k < bsF f n i j → f k = true) ∧ (∀ k, bsF f n i j ≤ k → k < j → f k = false)
  | 0, i, j, h, hij, hlo, _ => ⟨hlo, fun k h1 h2 => absurd h2 (by simp only [bsF] at h1; omega)⟩
  | n + 1, i, j, h, hij, hlo, hm => by
    by_cases hlt : i < j
    · have hm2 : (i + j) / 2 < j := (by omega); have hm1 : i ≤ (i + j) / 2 := (by omega); cases hf : f ((i + j) / 2) with
      | true =>
        have e : bsF f (n + 1) i j = bsF f n ((i + j) / 2 + 1) j := (by simp only [bsF, if_pos hlt, hf, if_true]); rw [e]; refine bsF_find n _ _ (by omega) (by omega) (fun k hk => ?_) hm; by_cases hk2 : k = (i + j) / 2
        · rw [hk2]; exact hf
        · exact hm k _ (by omega) hm2 hf
      | false =>
        have e : bsF f (n + 1) i j = bsF f n i ((i + j) / 2) := (by simp only [bsF, if_pos hlt, hf]; rfl); rw [e]; obtain ⟨h1, h2⟩ := bsF_find (f := f) n i ((i + j) / 2) (by omega) hm1 hlo (fun k l hk hl => hm k l hk (by omega)); refine ⟨h1, fun k hk hkj => ?_⟩; by_cases hk2 : k < (i + j) / 2
        · exact h2 k hk hk2
        · cases hfk : f k with
          | false => rfl
          | true =>
            by_cases hk3 : k = (i + j) / 2
            · rw [hk3, hf] at hfk; cases hfk
            · have := hm ((i + j) / 2) k (by omega) hkj hfk; rw [hf] at this; cases this
    · rw [bsF_end hlt]; exact ⟨hlo, fun k h1 h2 => absurd h2 (by omega)⟩
def strictP (ps : List Placed) : Prop := ps.Pairwise fun x y => lessP x.At y.At = true
theorem strict_at {ps : List Placed} (h : strictP ps) {i j : Nat} (hij : i < j) (hj : j < ps.length) : lessP (ps[i]'(by omega)).At ps[j].At = true :=
  List.pairwise_iff_getElem.1 h i j (by omega) hj hij
theorem bsA_find {ps : List Placed} (h : strictP ps) {i : Nat} (hi : i < ps.length) : bsA ps ps[i].At = i := by
  have hl : (ps.map (·.At)).length = ps.length := List.length_map ..; have key := bsF_find (f := lessAt (ps.map (·.At)) ps[i].At) ps.length 0 ps.length (by omega) (Nat.zero_le _) (fun k hk => absurd hk (by omega)) (fun k l hkl hl2 hf => by
    rw [lessAt_pl hl2] at hf; rw [lessAt_pl (by omega)]; exact less_tr (strict_at h hkl hl2) hf)
  have e : bsA ps ps[i].At = bsF (lessAt (ps.map (·.At)) ps[i].At) ps.length 0 ps.length := (by unfold bsA bsP; rw [hl]); rw [← e] at key; obtain ⟨k1, k2⟩ := key; have h1 : ¬ i < bsA ps ps[i].At := fun hlt => by have := k1 i hlt; rw [lessAt_pl hi, less_irr] at this; cases this
  have h2 : ¬ bsA ps ps[i].At < i := fun hlt => by have := k2 _ (Nat.le_refl _) (by omega); rw [lessAt_pl (by omega)] at this; have h3 := strict_at h hlt hi; rw [h3] at this; cases this
  omega
theorem atP_yes {ps : List Placed} (h : strictP ps) {x : Placed} (hx : x ∈ ps) : atP ps x.At = true ∧ tileA ps x.At = x.Tile := by obtain ⟨i, hi, rfl⟩ := List.getElem_of_mem hx; have e := bsA_find h hi; have h1 : atP ps ps[i].At = true := (by unfold atP; rw [e, List.getElem?_eq_getElem hi]; simp); refine ⟨h1, ?_⟩; unfold tileA; rw [h1, if_pos rfl, e, List.getElem?_eq_getElem hi]
theorem atP_no {ps : List Placed} {p : Point} (h : ∀ x, x ∈ ps → x.At ≠ p) : atP ps p = false ∧ tileA ps p = -1 := by
  have h1 : atP ps p = false := by
    cases ha : atP ps p with
    | false => rfl
    | true => obtain ⟨hb, e⟩ := atP_lt ha; exact absurd e (h _ (List.getElem_mem hb))
  refine ⟨h1, ?_⟩; unfold tileA; rw [h1]; rfl
/-! joined: the program's way -/
def clashJ (us : List Placed) (t : Placed) : Bool := decide (0 ≤ tileA us t.At) && !decide (tileA us t.At = t.Tile)
def newJ (us vs : List Placed) : List Placed := vs.filter fun t => decide (tileA us t.At < 0)
def insP (x : Placed) : List Placed → List Placed
  | [] => [x]
  | y :: ys => if lessP y.At x.At then y :: insP x ys else x :: y :: ys
def sortJ (xs : List Placed) : List Placed := xs.foldr insP []
theorem insP_perm (x : Placed) : ∀ ys, (insP x ys).Perm (x :: ys)
  | [] => List.Perm.refl _
  | y :: ys => by
    unfold insP; split
    · exact ((insP_perm x ys).cons y).trans (List.Perm.swap x y ys)
    · exact List.Perm.refl _
theorem sortJ_perm : ∀ xs, (sortJ xs).Perm xs
  | [] => List.Perm.refl _
  | x :: xs => (insP_perm x (sortJ xs)).trans ((sortJ_perm xs).cons x)
theorem insP_strict {x : Placed} : ∀ {ys : List Placed}, strictP ys → (∀ y, y ∈ ys → y.At ≠ x.At) → strictP (insP x ys)
  | [], _, _ => List.pairwise_singleton ..
  | y :: ys, h, hn => by
    have h' := List.pairwise_cons.1 h; unfold insP; split
    · rename_i hyx; refine List.pairwise_cons.2 ⟨fun z hz => ?_, insP_strict h'.2 (fun z hz => hn z (by simp [hz]))⟩; rcases List.mem_cons.1 ((insP_perm x ys).mem_iff.1 hz) with rfl | hz
      · exact hyx
      · exact h'.1 z hz
    · rename_i hyx; have hxy : lessP x.At y.At = true := by
        cases hc : lessP x.At y.At with
        | true => rfl
        | false => exact absurd (less_eq hc (by simpa using hyx)).symm (hn y (by simp))
      refine List.pairwise_cons.2 ⟨fun z hz => ?_, h⟩; rcases List.mem_cons.1 hz with rfl | hz
      · exact hxy
      · exact less_tr hxy (h'.1 z hz)
theorem sortJ_strict : ∀ {xs : List Placed}, xs.Pairwise (fun x y => x.At ≠ y.At) → strictP (sortJ xs)
  | [], _ => List.Pairwise.nil
  | x :: xs, h => by have h' := List.pairwise_cons.1 h; exact insP_strict (sortJ_strict h'.2) (fun y hy => fun e => h'.1 y ((sortJ_perm xs).mem_iff.1 hy) e.symm)
theorem strict_uniq : ∀ {xs ys : List Placed}, strictP xs → strictP ys → (∀ x, x ∈ xs ↔ x ∈ ys) → xs = ys
  | [], [], _, _, _ => rfl
  | [], y :: ys, _, _, h => absurd ((h y).2 (by simp)) (by simp)
  | x :: xs, [], _, _, h => absurd ((h x).1 (by simp)) (by simp)
  | x :: xs, y :: ys, hx, hy, h => by
    have hx' := List.pairwise_cons.1 hx; have hy' := List.pairwise_cons.1 hy; have e : x = y := by
      rcases List.mem_cons.1 ((h x).1 (by simp)) with e | h1
      · exact e
      · rcases List.mem_cons.1 ((h y).2 (by simp)) with e | h2
        · exact e.symm
        · have a := hy'.1 x h1; have b := hx'.1 y h2; rw [less_as a] at b; cases b
    subst e; congr 1; refine strict_uniq hx'.2 hy'.2 (fun z => ⟨fun hz => ?_, fun hz => ?_⟩)
    · rcases List.mem_cons.1 ((h z).1 (by simp [hz])) with e | h1
      · have := hx'.1 z hz; rw [e, less_irr] at this; cases this
      · exact h1
    · rcases List.mem_cons.1 ((h z).2 (by simp [hz])) with e | h1
      · have := hy'.1 z hz; rw [e, less_irr] at this; cases this
      · exact h1
/-! the reference's way -/
def mrgJ : List Placed → List Placed → Option (List Placed)
  | [], vs => some vs
  | us, [] => some us
  | x :: us, y :: vs => if lessP x.At y.At then (mrgJ us (y :: vs)).map (x :: ·) else if lessP y.At x.At then (mrgJ (x :: us) vs).map (y :: ·) else if x.Tile = y.Tile then (mrgJ us vs).map (x :: ·) else none
termination_by us vs => us.length + vs.length
def badJ (us vs : List Placed) : Prop := ∃ x, ∃ y, x ∈ us ∧ y ∈ vs ∧ x.At = y.At ∧ x.Tile ≠ y.Tile
theorem mrgJ_some : ∀ (us vs : List Placed), strictP us → strictP vs → ¬ badJ us vs → ∃ m, mrgJ us vs = some m ∧ strictP m ∧ (∀ z, z ∈ m ↔ z ∈ us ∨ z ∈ vs)
  | [], vs, _, hb, _ => ⟨vs, by unfold mrgJ; rfl, hb, fun z => by simp⟩
  | x :: us, [], ha, _, _ => ⟨x :: us, by unfold mrgJ; rfl, ha, fun z => by simp⟩
  | x :: us, y :: vs, ha, hb, hn => by
    have ha' := List.pairwise_cons.1 ha; have hb' := List.pairwise_cons.1 hb; unfold mrgJ; cases h1 : lessP x.At y.At with
    | true =>
      obtain ⟨m, e, hs, hm⟩ := mrgJ_some us (y :: vs) ha'.2 hb (fun ⟨u, v, hu, hv, h⟩ => hn ⟨u, v, by simp [hu], hv, h⟩); refine ⟨x :: m, by rw [e]; rfl, List.pairwise_cons.2 ⟨fun z hz => ?_, hs⟩, fun z => by simp [hm]; constructor <;> intro h <;> simp_all [or_assoc]⟩; rcases (hm z).1 hz with hz | hz
      · exact ha'.1 z hz
      · rcases List.mem_cons.1 hz with rfl | hz
        · exact h1
        · exact less_tr h1 (hb'.1 z hz)
    | false =>
      cases h2 : lessP y.At x.At with
      | true =>
        obtain ⟨m, e, hs, hm⟩ := mrgJ_some (x :: us) vs ha hb'.2 (fun ⟨u, v, hu, hv, h⟩ => hn ⟨u, v, hu, by simp [hv], h⟩); refine ⟨y :: m, by rw [e]; rfl, List.pairwise_cons.2 ⟨fun z hz => ?_, hs⟩, fun z => ?_⟩
        · rcases (hm z).1 hz with hz | hz
          · rcases List.mem_cons.1 hz with rfl | hz
            · exact h2
            · exact less_tr h2 (ha'.1 z hz)
          · exact hb'.1 z hz
        · rw [List.mem_cons, hm z, List.mem_cons (a := z) (b := y)]; constructor
          · rintro (h | h | h)
            · exact .inr (.inl h)
            · exact .inl h
            · exact .inr (.inr h)
          · rintro (h | h | h)
            · exact .inr (.inl h)
            · exact .inl h
            · exact .inr (.inr h)
      | false =>
        have eq := less_eq h1 h2; have ht : x.Tile = y.Tile := by
          by_cases h : x.Tile = y.Tile
          · exact h
          · exact absurd ⟨x, y, by simp, by simp, eq, h⟩ hn
        have hxy : x = y := (by obtain ⟨a, b⟩ := x; obtain ⟨c, d⟩ := y; simp only at eq ht; rw [eq, ht]); subst hxy; obtain ⟨m, e, hs, hm⟩ := mrgJ_some us vs ha'.2 hb'.2 (fun ⟨u, v, hu, hv, h⟩ => hn ⟨u, v, by simp [hu], by simp [hv], h⟩); refine ⟨x :: m, by rw [e]; simp, List.pairwise_cons.2 ⟨fun z hz => ?_, hs⟩, fun z => ?_⟩
        · rcases (hm z).1 hz with hz | hz
          · exact ha'.1 z hz
          · exact hb'.1 z hz
        · rw [List.mem_cons, hm z, List.mem_cons, List.mem_cons]; constructor
          · rintro (h | h | h)
            · exact .inl (.inl h)
            · exact .inl (.inr h)
            · exact .inr (.inr h)
          · rintro ((h | h) | (h | h))
            · exact .inl h
            · exact .inr (.inl h)
            · exact .inl h
            · exact .inr (.inr h)
termination_by us vs => us.length + vs.length
theorem mrgJ_none : ∀ (us vs : List Placed), strictP us → strictP vs → badJ us vs → mrgJ us vs = none
  | [], vs, _, _, ⟨_, _, h, _⟩ => by cases h
  | x :: us, [], _, _, ⟨_, _, _, h, _⟩ => by cases h
  | x :: us, y :: vs, ha, hb, ⟨u, v, hu, hv, he, ht⟩ => by
    have ha' := List.pairwise_cons.1 ha; have hb' := List.pairwise_cons.1 hb; unfold mrgJ; cases h1 : lessP x.At y.At with
    | true =>
      have : u ≠ x := by
        rintro rfl; rcases List.mem_cons.1 hv with rfl | hv
        · rw [he, less_irr] at h1; cases h1
        · have := less_tr h1 (hb'.1 v hv); rw [he, less_irr] at this; cases this
      rw [mrgJ_none us (y :: vs) ha'.2 hb ⟨u, v, (List.mem_cons.1 hu).resolve_left this, hv, he, ht⟩]; rfl
    | false =>
      cases h2 : lessP y.At x.At with
      | true =>
        have : v ≠ y := by
          rintro rfl; rcases List.mem_cons.1 hu with rfl | hu
          · rw [he, less_irr] at h2; cases h2
          · have := less_tr h2 (ha'.1 u hu); rw [he, less_irr] at this; cases this
        rw [mrgJ_none (x :: us) vs ha hb'.2 ⟨u, v, hu, (List.mem_cons.1 hv).resolve_left this, he, ht⟩]; rfl
      | false =>
        have eq := less_eq h1 h2; by_cases h : x.Tile = y.Tile
        · have hu2 : u ≠ x := by
            rintro rfl; rcases List.mem_cons.1 hv with rfl | hv
            · exact ht h
            · have := hb'.1 v hv; rw [← eq, he, less_irr] at this; cases this
          have hv2 : v ≠ y := (by rintro rfl; have hu3 := (List.mem_cons.1 hu).resolve_left hu2; have := ha'.1 u hu3; rw [eq, he, less_irr] at this; cases this); simp only [Bool.false_eq_true, if_false, if_pos h]; rw [mrgJ_none us vs ha'.2 hb'.2 ⟨u, v, (List.mem_cons.1 hu).resolve_left hu2, (List.mem_cons.1 hv).resolve_left hv2, he, ht⟩]; rfl
        · simp only [Bool.false_eq_true, if_false, if_neg h]
termination_by us vs => us.length + vs.length
theorem clash_bad {us vs : List Placed} (ha : strictP us) (hp : ∀ x, x ∈ us → 0 ≤ x.Tile) : vs.any (clashJ us) = true ↔ badJ us vs := by
  rw [List.any_eq_true]; constructor
  · rintro ⟨y, hy, hc⟩; simp only [clashJ, Bool.and_eq_true, decide_eq_true_eq, Bool.not_eq_true', decide_eq_false_iff_not] at hc; by_cases hx : ∃ x, x ∈ us ∧ x.At = y.At
    · obtain ⟨x, hx, e⟩ := hx; have := (atP_yes ha hx).2; rw [e] at this; exact ⟨x, y, hx, hy, e, by rw [← this]; exact hc.2⟩
    · have := (atP_no (ps := us) (p := y.At) (fun x h1 h2 => hx ⟨x, h1, h2⟩)).2; omega
  · rintro ⟨x, y, hx, hy, e, ht⟩; refine ⟨y, hy, ?_⟩; have h1 := (atP_yes ha hx).2; have h2 := hp x hx; rw [e] at h1; simp only [clashJ, Bool.and_eq_true, decide_eq_true_eq, Bool.not_eq_true', decide_eq_false_iff_not]; rw [h1]; exact ⟨h2, ht⟩
theorem join_same {us vs : List Placed} (ha : strictP us) (hb : strictP vs) (hp : ∀ x, x ∈ us → 0 ≤ x.Tile) : mrgJ us vs = if vs.any (clashJ us) then none else some (sortJ (us ++ newJ us vs)) := by
  by_cases hc : vs.any (clashJ us) = true
  · rw [if_pos hc, mrgJ_none us vs ha hb ((clash_bad ha hp).1 hc)]
  · have hn : ¬ badJ us vs := fun h => hc ((clash_bad ha hp).2 h); obtain ⟨m, e, hs, hm⟩ := mrgJ_some us vs ha hb hn; rw [if_neg hc, e]; congr 1; have hdis : (us ++ newJ us vs).Pairwise (fun x y => x.At ≠ y.At) := by
      refine List.pairwise_append.2 ⟨ha.imp (fun h e => by rw [e, less_irr] at h; cases h), ?_, fun x hx y hy => ?_⟩
      · exact List.Pairwise.sublist List.filter_sublist (hb.imp (fun h e => by rw [e, less_irr] at h; cases h))
      · intro e; have h1 := (atP_yes ha hx).2; have h2 := hp x hx; have h3 := (List.mem_filter.1 hy).2; rw [← e, h1] at h3; simp only [decide_eq_true_eq] at h3; omega
    refine strict_uniq hs (sortJ_strict hdis) (fun z => ?_); rw [hm z, (sortJ_perm _).mem_iff, List.mem_append]; constructor
    · rintro (h | h)
      · exact .inl h
      · by_cases hx : ∃ x, x ∈ us ∧ x.At = z.At
        · obtain ⟨x, hx, e⟩ := hx; have ht : x.Tile = z.Tile := by
            by_cases ht : x.Tile = z.Tile
            · exact ht
            · exact absurd ⟨x, z, hx, h, e, ht⟩ hn
          have : x = z := (by obtain ⟨a, b⟩ := x; obtain ⟨c, d⟩ := z; simp only at e ht; rw [e, ht]); exact .inl (this ▸ hx)
        · refine .inr (List.mem_filter.2 ⟨h, ?_⟩); rw [(atP_no (ps := us) (p := z.At) (fun x h1 h2 => hx ⟨x, h1, h2⟩)).2]; rfl
    · rintro (h | h)
      · exact .inl h
      · exact .inr (List.mem_filter.1 h).1
theorem mrg_l (x : Placed) (us : List Placed) : mrgJ (x :: us) [] = some (x :: us) := by unfold mrgJ; rfl
theorem mrg_r (vs : List Placed) : mrgJ [] vs = some vs := by unfold mrgJ; rfl
def restJ (us vs : List Placed) (o : List Placed) (i k : Nat) : Option (List Placed) := (mrgJ (us.drop i) (vs.drop k)).map (o ++ ·)
theorem rest_l {us vs o : List Placed} {i k : Nat} (hi : i < us.length) (h : k = vs.length ∨ ∃ hk : k < vs.length, lessP us[i].At vs[k].At = true) (hk0 : k ≤ vs.length) : restJ us vs o i k = restJ us vs (o ++ [us[i]]) (i + 1) k := by
  unfold restJ; rw [List.drop_eq_getElem_cons hi]; rcases h with rfl | ⟨hk, hl⟩
  · rw [List.drop_length, mrg_l]; have : mrgJ (us.drop (i + 1)) [] = some (us.drop (i + 1)) := by cases us.drop (i + 1) with
      | nil => exact mrg_r []
      | cons x l => exact mrg_l x l
    rw [this]; simp
  · rw [List.drop_eq_getElem_cons hk]; rw [mrgJ, hl]; simp [Option.map_map, Function.comp_def]
theorem rest_r {us vs o : List Placed} {i k : Nat} (hk : k < vs.length) (h : i = us.length ∨ ∃ hi : i < us.length, lessP us[i].At vs[k].At = false ∧ lessP vs[k].At us[i].At = true) : restJ us vs o i k = restJ us vs (o ++ [vs[k]]) i (k + 1) := by
  unfold restJ; rw [List.drop_eq_getElem_cons hk]; rcases h with rfl | ⟨hi, h1, h2⟩
  · rw [List.drop_length, mrg_r, mrg_r]; simp
  · rw [List.drop_eq_getElem_cons hi]; rw [mrgJ, h1, h2]; simp [Option.map_map, Function.comp_def]
theorem rest_b {us vs o : List Placed} {i k : Nat} (hi : i < us.length) (hk : k < vs.length) (h1 : lessP us[i].At vs[k].At = false) (h2 : lessP vs[k].At us[i].At = false) : restJ us vs o i k = if us[i].Tile = vs[k].Tile then restJ us vs (o ++ [us[i]]) (i + 1) (k + 1) else none := by
  unfold restJ; rw [List.drop_eq_getElem_cons hi, List.drop_eq_getElem_cons hk]; rw [mrgJ, h1, h2]; by_cases h : us[i].Tile = vs[k].Tile
  · simp [h, Option.map_map, Function.comp_def]
  · simp [h]
theorem rest_e {us vs o : List Placed} : restJ us vs o us.length vs.length = some o := by unfold restJ; rw [List.drop_length, List.drop_length, mrg_r]; simp
end Go.Proofs.Ytjalagigmelcaaa
