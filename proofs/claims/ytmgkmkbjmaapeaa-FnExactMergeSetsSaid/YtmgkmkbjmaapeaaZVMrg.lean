/- MergeSets: which numbers the glues get (plain). -/
import Derived.Test.YtmgkmkbjmaapeaaZVSetR
set_option linter.all false
namespace Go.Proofs.Ytmgkmkbjmaapeaa
open Go.RowKit Go.V
theorem vIdx_nil {α : Type} (p : α → Bool) : vIdx p [] = -1 := rfl
theorem vIdx_cons {α : Type} (p : α → Bool) (x : α) (xs : List α) : vIdx p (x :: xs) = if p x then 0 else (if vIdx p xs < 0 then -1 else vIdx p xs + 1) := by
  unfold vIdx
  rw [List.findIdx?_cons]
  cases p x with
  | true => rfl
  | false =>
    cases xs.findIdx? p with
    | none => rfl
    | some k =>
      simp only [Option.map_some, Bool.false_eq_true, if_false]
      rw [if_neg (by omega)]
      omega
theorem vIdx_ge {α : Type} (p : α → Bool) : ∀ xs : List α, -1 ≤ vIdx p xs
  | [] => by rw [vIdx_nil]; omega
  | x :: xs => by
    have := vIdx_ge p xs
    rw [vIdx_cons]
    split
    · omega
    · split <;> omega
theorem vIdx_lt {α : Type} (p : α → Bool) : ∀ xs : List α, vIdx p xs < xs.length
  | [] => by rw [vIdx_nil]; simp
  | x :: xs => by
    have := vIdx_lt p xs
    rw [vIdx_cons, List.length_cons]
    split
    · omega
    · split <;> omega
theorem vIdx_app_hit {α : Type} (p : α → Bool) (ys : List α) : ∀ xs : List α, 0 ≤ vIdx p xs → vIdx p (xs ++ ys) = vIdx p xs
  | [], h => by rw [vIdx_nil] at h; omega
  | x :: xs, h => by
    rw [List.cons_append, vIdx_cons, vIdx_cons]
    rw [vIdx_cons] at h
    split
    · rfl
    · rename_i hx
      rw [if_neg hx] at h
      have h1 : 0 ≤ vIdx p xs := by
        by_cases h2 : vIdx p xs < 0
        · rw [if_pos h2] at h; omega
        · omega
      rw [vIdx_app_hit p ys xs h1]
theorem vIdx_app_miss {α : Type} (p : α → Bool) (y : α) (ys : List α) (hy : p y = true) : ∀ xs : List α, vIdx p xs < 0 → vIdx p (xs ++ y :: ys) = (xs.length : Int)
  | [], _ => by rw [List.nil_append, vIdx_cons, if_pos hy]; rfl
  | x :: xs, h => by
    rw [vIdx_cons] at h
    have hx : ¬ p x = true := fun e => by rw [if_pos e] at h; omega
    rw [if_neg hx] at h
    have h1 : vIdx p xs < 0 := by
      by_cases h2 : vIdx p xs < 0
      · exact h2
      · rw [if_neg h2] at h; omega
    have ih := vIdx_app_miss p y ys hy xs h1
    rw [List.cons_append, vIdx_cons, if_neg hx, ih, if_neg (by omega), List.length_cons]
    omega
theorem vIdx_neg {α : Type} (p : α → Bool) : ∀ xs : List α, (∀ x, x ∈ xs → p x = false) → vIdx p xs < 0
  | [], _ => by rw [vIdx_nil]; omega
  | x :: xs, h => by
    have h1 := vIdx_neg p xs (fun y hy => h y (by simp [hy]))
    rw [vIdx_cons, h x (by simp), if_pos h1]
    simp
def newG (a : TileSet) (bg : List Glue) : List Glue := bg.filter fun g => decide (gIdx a.Glues g.Name < 0)
def outG (a b : TileSet) : List Glue := a.Glues ++ newG a b.Glues
theorem newG_app (a : TileSet) (xs ys : List Glue) : newG a (xs ++ ys) = newG a xs ++ newG a ys := List.filter_append ..
theorem outG_old {a b : TileSet} {n : ByteArray} (h : 0 ≤ gIdx a.Glues n) : gIdx (outG a b) n = gIdx a.Glues n := vIdx_app_hit _ _ _ h
theorem outG_new {a b : TileSet} (hb : okSet b = true) {j : Nat} (hj : j < b.Glues.length) (h : gIdx a.Glues b.Glues[j].Name < 0) : gIdx (outG a b) b.Glues[j].Name = (a.Glues.length + (newG a (b.Glues.take j)).length : Nat) := by
  have e : newG a b.Glues = newG a (b.Glues.take j) ++ b.Glues[j] :: newG a (b.Glues.drop (j + 1)) := by
    have : b.Glues = b.Glues.take j ++ b.Glues[j] :: b.Glues.drop (j + 1) := by rw [← List.drop_eq_getElem_cons hj, List.take_append_drop]
    have e2 := congrArg (newG a) this
    rw [newG_app] at e2
    rw [e2]
    congr 1
    show List.filter _ (_ :: _) = _
    rw [List.filter_cons_of_pos (by simpa using h)]
    rfl
  have hn := okSet_gname hb hj
  unfold outG
  rw [e, ← List.append_assoc]
  have h1 : vIdx (fun g : Glue => decide (g.Name = b.Glues[j].Name)) (a.Glues ++ newG a (b.Glues.take j)) < 0 := by
    refine vIdx_neg _ _ (fun x hx => ?_)
    rcases List.mem_append.1 hx with hx | hx
    · by_cases hp : decide (x.Name = b.Glues[j].Name) = true
      · exfalso
        have h3 := vIdx_any (fun g : Glue => decide (g.Name = b.Glues[j].Name)) a.Glues
        have h4 : a.Glues.any (fun g : Glue => decide (g.Name = b.Glues[j].Name)) = true := by
          rw [List.any_eq_true]; exact ⟨x, hx, hp⟩
        rw [h4, decide_eq_true_eq] at h3
        have h5 : vIdx (fun g : Glue => decide (g.Name = b.Glues[j].Name)) a.Glues < 0 := h
        omega
      · simpa using hp
    · have hx' : x ∈ b.Glues.take j := (List.mem_filter.1 hx).1
      rw [List.any_eq_false] at hn
      have := hn x hx'
      simpa using this
  have h2 := vIdx_app_miss (fun g : Glue => decide (g.Name = b.Glues[j].Name)) b.Glues[j] (newG a (b.Glues.drop (j + 1))) (by simp) _ h1
  unfold gIdx
  rw [h2, List.length_append]
def mgN (gs bg : List Glue) (g : Int) : Int := if 0 < g then gIdx gs (bg.getD (g - 1).toNat ⟨⟨#[]⟩, 0⟩).Name + 1 else 0
def mgS (gs bg : List Glue) (s : List Int) : List Int := s.map (mgN gs bg)
def mgP (gs bg : List Glue) (s : List Int) (k : Nat) : List Int := (s.take k).map (mgN gs bg) ++ List.replicate (s.length - k) 0
theorem mgP_zero (gs bg : List Glue) (s : List Int) : mgP gs bg s 0 = List.replicate s.length 0 := by simp [mgP]
theorem mgP_end (gs bg : List Glue) (s : List Int) : mgP gs bg s s.length = mgS gs bg s := by simp [mgP, mgS]
theorem mgP_len (gs bg : List Glue) {s : List Int} {k : Nat} (h : k ≤ s.length) : (mgP gs bg s k).length = s.length := by
  simp only [mgP, List.length_append, List.length_map, List.length_take, List.length_replicate]; omega
theorem mgP_set (gs bg : List Glue) {s : List Int} {k : Nat} (h : k < s.length) : (mgP gs bg s k).set k (mgN gs bg s[k]) = mgP gs bg s (k + 1) := by
  have hl : ((s.take k).map (mgN gs bg)).length = k := by rw [List.length_map, List.length_take]; omega
  have e : s.length - k = (s.length - (k + 1)) + 1 := by omega
  unfold mgP
  rw [List.set_append_right _ _ (by omega), hl, Nat.sub_self, e, List.replicate_succ, List.set_cons_zero, List.take_succ_eq_append_getElem h, List.map_append, List.append_assoc]
  rfl
theorem mgP_skip (gs bg : List Glue) {s : List Int} {k : Nat} (h : k < s.length) (h0 : ¬ 0 < s[k]) : mgP gs bg s k = mgP gs bg s (k + 1) := by
  have e : s.length - k = (s.length - (k + 1)) + 1 := by omega
  have hn : mgN gs bg s[k] = 0 := by unfold mgN; rw [if_neg h0]
  unfold mgP
  rw [e, List.replicate_succ, List.take_succ_eq_append_getElem h, List.map_append, List.append_assoc]
  show _ = _ ++ ([mgN gs bg s[k]] ++ _)
  rw [hn]
  rfl
def nowL (a b : TileSet) (i : Nat) : List Int := 0 :: (b.Glues.take i).map fun g => gIdx (outG a b) g.Name + 1
theorem nowL_len (a b : TileSet) {i : Nat} (h : i ≤ b.Glues.length) : (nowL a b i).length = i + 1 := by
  simp only [nowL, List.length_cons, List.length_map, List.length_take]; omega
theorem nowL_next (a b : TileSet) {i : Nat} (h : i < b.Glues.length) : nowL a b i ++ [gIdx (outG a b) b.Glues[i].Name + 1] = nowL a b (i + 1) := by
  unfold nowL
  rw [List.take_succ_eq_append_getElem h, List.map_append]
  rfl
theorem nowL_at (a b : TileSet) {g : Int} (h0 : 0 ≤ g) (h1 : g ≤ b.Glues.length) : (nowL a b b.Glues.length)[g.toNat]? = some (mgN (outG a b) b.Glues g) := by
  obtain ⟨n, rfl⟩ : ∃ n : Nat, g = (n : Int) := ⟨g.toNat, by omega⟩
  unfold nowL mgN
  rw [List.take_length, Int.toNat_natCast]
  cases n with
  | zero => rfl
  | succ n =>
    have hn : n < b.Glues.length := by omega
    rw [List.getElem?_cons_succ, List.getElem?_map, List.getElem?_eq_getElem hn, if_pos (by omega)]
    have : ((n + 1 : Nat) : Int) - 1 = (n : Int) := by omega
    rw [this, Int.toNat_natCast, List.getD_eq_getElem?_getD, List.getElem?_eq_getElem hn]
    rfl
def mrgT (a b : TileSet) (t : Tile) : Tile := ⟨t.Name, mgS (outG a b) b.Glues t.Sides⟩
def newT (a b : TileSet) (ts : List Tile) : List Tile := (ts.filter fun t => decide (tIdx a.Tiles t.Name < 0)).map (mrgT a b)
def outS (a b : TileSet) : TileSet := ⟨outG a b, a.Tiles ++ newT a b b.Tiles⟩
def clG (a : TileSet) (g : Glue) : Bool := decide (0 ≤ gIdx a.Glues g.Name) && !decide ((a.Glues.getD (gIdx a.Glues g.Name).toNat ⟨⟨#[]⟩, 0⟩).Strength = g.Strength)
def clT (a b : TileSet) (t : Tile) : Bool := decide (0 ≤ tIdx a.Tiles t.Name) && !decide ((a.Tiles.getD (tIdx a.Tiles t.Name).toNat ⟨⟨#[]⟩, []⟩).Sides = (mrgT a b t).Sides)
def clash (a b : TileSet) : Bool := b.Glues.any (clG a) || b.Tiles.any (clT a b)
def MergeSetsR (a b : TileSet) : TileSet := if okSet a && okSet b then (if clash a b then ⟨[], []⟩ else if okSet (outS a b) then outS a b else ⟨[], []⟩) else ⟨[], []⟩
def MergeSetsC (a b : TileSet) : Int := if okSet a && okSet b then (if clash a b then 7 else if okSet (outS a b) then 0 else 4) else 1
theorem newT_app (a b : TileSet) (xs ys : List Tile) : newT a b (xs ++ ys) = newT a b xs ++ newT a b ys := by unfold newT; rw [List.filter_append, List.map_append]
theorem newG_next {a : TileSet} {xs : List Glue} {i : Nat} (h : i < xs.length) : newG a (xs.take (i + 1)) = if gIdx a.Glues xs[i].Name < 0 then newG a (xs.take i) ++ [xs[i]] else newG a (xs.take i) := by
  rw [List.take_succ_eq_append_getElem h, newG_app]
  unfold newG
  split
  · rename_i h1; rw [List.filter_cons_of_pos (by simpa using h1)]; rfl
  · rename_i h1; rw [List.filter_cons_of_neg (by simpa using h1)]; simp
theorem newT_next {a b : TileSet} {xs : List Tile} {i : Nat} (h : i < xs.length) : newT a b (xs.take (i + 1)) = if tIdx a.Tiles xs[i].Name < 0 then newT a b (xs.take i) ++ [mrgT a b xs[i]] else newT a b (xs.take i) := by
  rw [List.take_succ_eq_append_getElem h, newT_app]
  unfold newT
  split
  · rename_i h1; rw [List.filter_cons_of_pos (by simpa using h1)]; rfl
  · rename_i h1; rw [List.filter_cons_of_neg (by simpa using h1)]; simp
theorem newG_len (a : TileSet) (xs : List Glue) : (newG a xs).length ≤ xs.length := List.length_filter_le ..
theorem newT_len (a b : TileSet) (xs : List Tile) : (newT a b xs).length ≤ xs.length := by unfold newT; rw [List.length_map]; exact List.length_filter_le ..
theorem mgS_len (gs bg : List Glue) (s : List Int) : (mgS gs bg s).length = s.length := List.length_map ..
theorem outS_B {a b : TileSet} (ha : setB a) (hb : setB b) (h1 : okSet a = true) (h2 : okSet b = true) : setB (outS a b) := by
  have l1 := okSet_len h1
  have l2 := okSet_len h2
  have l3 := newG_len a b.Glues
  have l4 := newT_len a b b.Tiles
  refine ⟨?_, ?_, fun x hx => ?_, fun x hx => ?_, fun x hx => ?_⟩
  · show (a.Glues ++ newG a b.Glues).length ≤ _
    rw [List.length_append]; omega
  · show (a.Tiles ++ newT a b b.Tiles).length ≤ _
    rw [List.length_append]; omega
  · rcases List.mem_append.1 hx with hx | hx
    · exact ha.gn x hx
    · exact hb.gn x (List.mem_filter.1 hx).1
  · rcases List.mem_append.1 hx with hx | hx
    · exact ha.tn x hx
    · obtain ⟨y, hy, rfl⟩ := List.mem_map.1 hx
      exact hb.tn y (List.mem_filter.1 hy).1
  · rcases List.mem_append.1 hx with hx | hx
    · exact ha.ts x hx
    · obtain ⟨y, hy, rfl⟩ := List.mem_map.1 hx
      have := hb.ts y (List.mem_filter.1 hy).1
      show (mgS _ _ y.Sides).length ≤ _
      rw [mgS_len]; exact this
theorem mgN_ok {gs bg : List Glue} (hl : gs.length ≤ 1048576) (g : Int) : InK .i64 (mgN gs bg g) := by
  unfold mgN
  split
  · have h1 := vIdx_ge (fun x : Glue => decide (x.Name = (bg.getD (g - 1).toNat ⟨⟨#[]⟩, 0⟩).Name)) gs
    have h2 := vIdx_lt (fun x : Glue => decide (x.Name = (bg.getD (g - 1).toNat ⟨⟨#[]⟩, 0⟩).Name)) gs
    show InK .i64 (vIdx (fun x : Glue => decide (x.Name = (bg.getD (g - 1).toNat ⟨⟨#[]⟩, 0⟩).Name)) gs + 1)
    refine ⟨?_, ?_⟩
    · show (-9223372036854775808 : Int) ≤ _
      omega
    · show _ ≤ (9223372036854775807 : Int)
      omega
  · exact ⟨by decide, by decide⟩
theorem MergeSetsR_ok (a : TileSet) (ha : TileSet.td.ok a) (hna : TileSet.cnt a ≤ 1048576) (b : TileSet) (hb : TileSet.td.ok b) (hnb : TileSet.cnt b ≤ 1048576) : TileSet.td.ok (MergeSetsR a b) := by
  unfold MergeSetsR
  split
  · split
    · exact set0_ok
    · split
      · rename_i h _ _
        have h1 : okSet a = true ∧ okSet b = true := by simpa using h
        have hB := outS_B (setB_of hna) (setB_of hnb) h1.1 h1.2
        rw [TileSet.td_ok] at ha hb ⊢
        refine ⟨fun x hx => ?_, fun x hx => ?_⟩
        · rcases List.mem_append.1 hx with hx | hx
          · exact ha.1 x hx
          · exact hb.1 x (List.mem_filter.1 hx).1
        · rcases List.mem_append.1 hx with hx | hx
          · exact ha.2 x hx
          · obtain ⟨y, hy, rfl⟩ := List.mem_map.1 hx
            have hy2 := hb.2 y (List.mem_filter.1 hy).1
            rw [Tile.td_ok] at hy2 ⊢
            refine ⟨hy2.1, fun z hz => ?_⟩
            obtain ⟨u, _, rfl⟩ := List.mem_map.1 hz
            exact mgN_ok hB.g u
      · exact set0_ok
  · exact set0_ok
theorem cntL_app {α : Type} (c : α → Nat) (xs ys : List α) : cntL c (xs ++ ys) = cntL c xs + cntL c ys := by
  simp only [cntL, List.length_append, List.map_append, List.sum_append]; omega
theorem cntL_filter {α : Type} (c : α → Nat) (p : α → Bool) : ∀ xs : List α, cntL c (xs.filter p) ≤ cntL c xs
  | [] => by simp [cntL]
  | x :: xs => by
    have ih := cntL_filter c p xs
    have e : cntL c (x :: xs) = cntL c xs + (c x + 1) := by simp only [cntL, List.length_cons, List.map_cons, List.sum_cons]; omega
    rw [e]
    by_cases h : p x = true
    · rw [List.filter_cons_of_pos h]
      have e2 : cntL c (x :: xs.filter p) = cntL c (xs.filter p) + (c x + 1) := by simp only [cntL, List.length_cons, List.map_cons, List.sum_cons]; omega
      omega
    · rw [List.filter_cons_of_neg h]; omega
theorem MergeSetsR_cn (a : TileSet) (hna : TileSet.cnt a ≤ 1048576) (b : TileSet) (hnb : TileSet.cnt b ≤ 1048576) : (MergeSetsR a b).cnT ≤ 1000000000000 := by
  refine setR_cn ?_
  unfold MergeSetsR
  split
  · split
    · decide
    · split
      · have h1 : TileSet.cnt a = cntL Glue.cnt a.Glues + cntL Tile.cnt a.Tiles := rfl
        have h2 : TileSet.cnt b = cntL Glue.cnt b.Glues + cntL Tile.cnt b.Tiles := rfl
        have h3 : TileSet.cnt (outS a b) = cntL Glue.cnt (a.Glues ++ newG a b.Glues) + cntL Tile.cnt (a.Tiles ++ newT a b b.Tiles) := rfl
        have h4 := cntL_filter Glue.cnt (fun g => decide (gIdx a.Glues g.Name < 0)) b.Glues
        have h5 := cntL_filter Tile.cnt (fun t => decide (tIdx a.Tiles t.Name < 0)) b.Tiles
        have h6 := cntL_map_le (c := Tile.cnt) (f := mrgT a b) (xs := b.Tiles.filter (fun t => decide (tIdx a.Tiles t.Name < 0))) (fun x _ => by
          have e1 : Tile.cnt (mrgT a b x) = x.Name.size + (mgS (outG a b) b.Glues x.Sides).length := rfl
          have e2 : Tile.cnt x = x.Name.size + x.Sides.length := rfl
          rw [mgS_len] at e1
          omega)
        rw [cntL_app, cntL_app] at h3
        have h7 : cntL Glue.cnt (newG a b.Glues) ≤ cntL Glue.cnt b.Glues := h4
        have h8 : cntL Tile.cnt (newT a b b.Tiles) ≤ 5 * cntL Tile.cnt (b.Tiles.filter (fun t => decide (tIdx a.Tiles t.Name < 0))) := h6
        omega
      · decide
  · decide
end Go.Proofs.Ytmgkmkbjmaapeaa
