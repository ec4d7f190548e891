/- Laws that the proof stands on. -/
import Derived.Test.YtoiaenkipdneeaaZg8
import Derived.Test.YtoiaenkipdneeaaZg9
import Derived.Test.YtoiaenkipdneeaaProg
set_option linter.all false
namespace Go.Proofs.Ytoiaenkipdneeaa
open Go.RowKit Go.V
attribute [local go_sem] List.getElem?_cons_succ List.getElem?_cons_zero List.set_cons_succ List.set_cons_zero List.map_cons List.map_nil List.length_cons List.length_nil List.all_cons List.all_nil List.drop_succ_cons List.drop_zero List.take_succ_cons List.take_zero List.flatMap_cons List.flatMap_nil List.cons_append List.nil_append List.append_nil List.headD_cons Value.oneCell' Bool.and_true Bool.true_and Bool.or_false Bool.false_or Bool.and_self Bool.not_true Bool.not_false and_true true_and beq_self_eq_true Bool.false_eq_true if_true if_false Nat.zero_add Nat.reduceAdd Nat.reduceMul Nat.reduceLeDiff Nat.le_refl Option.isSome_some Option.isSome_none not_true_eq_false not_false_eq_true ne_eq reduceCtorEq List.reverse_nil bne_self_eq_false Nat.reduceEqDiff List.isPrefixOf Bool.not_eq_true Bool.and_false Bool.false_and Bool.true_or Bool.or_true decide_true decide_false Nat.reduceBEq Nat.reduceBNe List.replicate_succ List.replicate_zero exists_eq_left' exists_eq_left Option.some.injEq or_false or_true true_or false_or Option.map_some Option.map_none mB Nat.reduceMod Nat.reduceDiv
set_option maxRecDepth 100000
structure setB (a : TileSet) : Prop where
  g : a.Glues.length ≤ 1048576
  t : a.Tiles.length ≤ 1048576
  gn : ∀ x, x ∈ a.Glues → x.Name.size ≤ 1048576
  tn : ∀ x, x ∈ a.Tiles → x.Name.size ≤ 1048576
  ts : ∀ x, x ∈ a.Tiles → x.Sides.length ≤ 1048576
theorem setB_of {a : TileSet} (h : TileSet.cnt a ≤ 1048576) : setB a := by
  have h1 := cntL_len Glue.cnt a.Glues; have h2 := cntL_len Tile.cnt a.Tiles; have h3 : TileSet.cnt a = cntL Glue.cnt a.Glues + cntL Tile.cnt a.Tiles := rfl; refine ⟨by omega, by omega, fun x hx => ?_, fun x hx => ?_, fun x hx => ?_⟩
  all_goals obtain ⟨k, hk, rfl⟩ := List.getElem_of_mem hx
  · have := cntL_mem Glue.cnt a.Glues k hk; have h4 : Glue.cnt a.Glues[k] = a.Glues[k].Name.size := rfl; omega
  · have := cntL_mem Tile.cnt a.Tiles k hk; have h4 : Tile.cnt a.Tiles[k] = a.Tiles[k].Name.size + a.Tiles[k].Sides.length := rfl; omega
  · have := cntL_mem Tile.cnt a.Tiles k hk; have h4 : Tile.cnt a.Tiles[k] = a.Tiles[k].Name.size + a.Tiles[k].Sides.length := rfl; omega
def gIdx (gs : List Glue) (n : ByteArray) : Int := vIdx (fun g : Glue => decide (g.Name = n)) gs
def tIdx (ts : List Tile) (n : ByteArray) : Int := vIdx (fun t : Tile => decide (t.Name = n)) ts
def okG (gs : List Glue) (i : Nat) : Bool := match gs[i]? with
  | some g => isNameB g.Name && (inR 1 4 g.Strength && !(gs.take i).any (fun x => decide (x.Name = g.Name)))
  | none => true
def okT (n : Nat) (ts : List Tile) (i : Nat) : Bool := match ts[i]? with
  | some t => isNameB t.Name && (decide (t.Sides.length = 4) && (!(ts.take i).any (fun x => decide (x.Name = t.Name)) && t.Sides.all (inR 0 n)))
  | none => true
def okSet (a : TileSet) : Bool := decide (a.Glues.length ≤ 200) && (inR 1 160 a.Tiles.length && ((List.range a.Glues.length).all (okG a.Glues) && (List.range a.Tiles.length).all (okT a.Glues.length a.Tiles)))
theorem okSet_g {a : TileSet} {i : Nat} (hi : i < a.Glues.length) (h : okG a.Glues i = false) : okSet a = false := by have : (List.range a.Glues.length).all (okG a.Glues) = false := (by rw [List.all_eq_false]; exact ⟨i, by simpa using hi, by simp [h]⟩); simp [okSet, this]
theorem okSet_t {a : TileSet} {i : Nat} (hi : i < a.Tiles.length) (h : okT a.Glues.length a.Tiles i = false) : okSet a = false := by have : (List.range a.Tiles.length).all (okT a.Glues.length a.Tiles) = false := (by rw [List.all_eq_false]; exact ⟨i, by simpa using hi, by simp [h]⟩); simp [okSet, this]
theorem vIdx_self {α : Type} (f : α → ByteArray) (xs : List α) (i : Nat) (hi : i < xs.length) : decide (vIdx (fun x => decide (f x = f xs[i])) xs = (i : Int)) = !(xs.take i).any (fun x => decide (f x = f xs[i])) := by
  by_cases h : (xs.take i).any (fun x => decide (f x = f xs[i])) = true
  · rw [h]; rw [List.any_eq_true] at h; obtain ⟨x, hx, hp⟩ := h; obtain ⟨j, hj, rfl⟩ := List.getElem_of_mem hx; simp only [List.length_take] at hj; rw [List.getElem_take] at hp; have hne : vIdx (fun x => decide (f x = f xs[i])) xs ≠ (i : Int) := by
      intro e; unfold vIdx at e; cases hf : xs.findIdx? (fun x => decide (f x = f xs[i])) with
      | none => rw [hf] at e; simp at e
      | some k =>
        rw [hf] at e; have e : (k : Int) = (i : Int) := e; have hk : k = i := by omega
        subst hk; rw [List.findIdx?_eq_some_iff_getElem] at hf; have := hf.2.2 j (by omega); simp only [decide_eq_true_eq] at this hp; exact this hp
    simp [hne]
  · have h' : (xs.take i).any (fun x => decide (f x = f xs[i])) = false := (by simpa using h); rw [h']; rw [List.any_eq_false] at h'; have := vIdx_hit (fun x => decide (f x = f xs[i])) xs i hi (fun j hj hlt => by
      have := h' xs[j] (by
        rw [List.mem_take_iff_getElem]; exact ⟨j, by omega, rfl⟩)
      simpa using this) (by simp)
    rw [this]; simp
theorem okG_at {gs : List Glue} {i : Nat} (hi : i < gs.length) : okG gs i = (isNameB gs[i].Name && (inR 1 4 gs[i].Strength && !(gs.take i).any (fun x => decide (x.Name = gs[i].Name)))) := by unfold okG; rw [List.getElem?_eq_getElem hi]
theorem okT_at {n : Nat} {ts : List Tile} {i : Nat} (hi : i < ts.length) : okT n ts i = (isNameB ts[i].Name && (decide (ts[i].Sides.length = 4) && (!(ts.take i).any (fun x => decide (x.Name = ts[i].Name)) && ts[i].Sides.all (inR 0 n)))) := by unfold okT; rw [List.getElem?_eq_getElem hi]
/-! names in maps -/
theorem getD_some {s : List Int} {k : Nat} (h : k < s.length) : s[k]? = some (s.getD k 0) := by rw [List.getD_eq_getElem?_getD, List.getElem?_eq_getElem h]; rfl
theorem okSet_sides4 {a : TileSet} (h : okSet a = true) {i : Nat} (hi : i < a.Tiles.length) : a.Tiles[i].Sides.length = 4 := by unfold okSet at h; simp only [Bool.and_eq_true] at h; have := h.2.2.2; rw [List.all_eq_true] at this; have := this i (by simpa using hi); rw [okT_at hi] at this; simp only [Bool.and_eq_true, decide_eq_true_eq] at this; exact this.2.1
theorem okSet_side {b : TileSet} (h : okSet b = true) {i : Nat} (hi : i < b.Tiles.length) : ∀ x, x ∈ b.Tiles[i].Sides → 0 ≤ x ∧ x ≤ b.Glues.length := by unfold okSet at h; simp only [Bool.and_eq_true] at h; have := h.2.2.2; rw [List.all_eq_true] at this; have := this i (by simpa using hi); rw [okT_at hi] at this; simp only [Bool.and_eq_true] at this; have := this.2.2.2; rw [List.all_eq_true] at this; exact fun x hx => inR_iff.1 (this x hx)
theorem okSet_len {a : TileSet} (h : okSet a = true) : a.Glues.length ≤ 200 ∧ 1 ≤ a.Tiles.length ∧ a.Tiles.length ≤ 160 := by unfold okSet at h; simp only [Bool.and_eq_true, decide_eq_true_eq, inR_iff] at h; exact ⟨h.1, by omega, by omega⟩
def entsN {α : Type} (f : α → ByteArray) (xs : List α) : List (Value × Value) := xs.map fun x => (Value.string (f x), Value.bool true)
theorem keq_str {a b : ByteArray} : keq (.string a) (.string b) = decide (b = a) := by rw [Bool.eq_iff_iff, decide_eq_true_eq]; show (a == b) = true ↔ b = a; rw [MapKept.bytes_beq]; exact eq_comm
theorem mget_N {α : Type} (f : α → ByteArray) (n : ByteArray) : ∀ xs : List α, mget (entsN f xs) (.string n) = if xs.any (fun x => decide (f x = n)) then some (.bool true) else none
  | [] => rfl
  | x :: xs => by
    have ih := mget_N f n xs; unfold mget entsN at *; simp only [List.map_cons, List.find?_cons, keq_str, List.any_cons]; by_cases h : f x = n
    · simp [h]
    · simp only [h, decide_false, Bool.false_or]; exact ih
theorem mset_N {α : Type} (f : α → ByteArray) (xs : List α) (y : α) (h : xs.any (fun x => decide (f x = f y)) = false) : mset (entsN f xs) (.string (f y)) (.bool true) = entsN f (xs ++ [y]) := by
  unfold mset; have : (entsN f xs).findIdx? (fun x => keq (.string (f y)) x.1) = none := by rw [List.findIdx?_eq_none_iff]; intro x hx; unfold entsN at hx; obtain ⟨z, hz, rfl⟩ := List.mem_map.1 hx; rw [List.any_eq_false] at h; have := h z hz; simp only [keq_str]; simpa using this
  rw [this]; simp [entsN]
theorem take_next {α : Type} {xs : List α} {i : Nat} (hi : i < xs.length) : xs.take i ++ [xs[i]] = xs.take (i + 1) := (List.take_succ_eq_append_getElem hi).symm
def code_spec_l02Glue : VCode := (.seq (.ops [
  ⟨(some 4), none, (.asg (.const (.int .i64 0)))⟩]) (.seq (.seq (.ops [
  ⟨(some 5), none, (.asg (.const (.int .i64 0)))⟩]) (.block 0 (.loop (mB 27 134217692) (.seq (.seq (.ops [
  ⟨(some 6), none, (.mv (.tmp 5))⟩,
  ⟨(some 7), none, (.mv (.tmp 0))⟩,
  ⟨(some 8), none, (.nilc (.tmp 7))⟩,
  ⟨(some 9), none, (.fa 0 (.tmp 8))⟩,
  ⟨(some 10), none, (.load 1 false (.tmp 9))⟩,
  ⟨(some 11), none, (.len (.tmp 10))⟩,
  ⟨(some 12), none, (.bin .lss (.tmp 6) (.tmp 11))⟩]) (.cond (.tmp 12) .skip (.exit 0))) (.seq (.block 1 (.seq (.ops [
  ⟨(some 15), none, (.mv (.tmp 0))⟩,
  ⟨(some 16), none, (.nilc (.tmp 15))⟩,
  ⟨(some 17), none, (.fa 0 (.tmp 16))⟩,
  ⟨(some 18), none, (.load 1 false (.tmp 17))⟩,
  ⟨(some 19), none, (.mv (.tmp 5))⟩,
  ⟨(some 20), none, (.ia 2 (.tmp 18) (.tmp 19))⟩,
  ⟨(some 21), none, (.fa 0 (.tmp 20))⟩,
  ⟨(some 22), none, (.load 1 false (.tmp 21))⟩,
  ⟨(some 23), none, (.mv (.tmp 1))⟩,
  ⟨(some 24), none, (.bin .eql (.tmp 22) (.tmp 23))⟩]) (.cond (.tmp 24) (.seq (.ops [
  ⟨(some 25), none, (.mv (.tmp 5))⟩,
  ⟨(some 26), none, (.bin .add (.tmp 25) (.const (.int .i64 1)))⟩,
  ⟨(some 4), none, (.asg (.tmp 26))⟩]) .ret) .skip))) (.ops [
  ⟨(some 13), none, (.mv (.tmp 5))⟩,
  ⟨(some 14), none, (.bin .add (.tmp 13) (.const (.int .i64 1)))⟩,
  ⟨(some 5), none, (.asg (.tmp 14))⟩])))))) (.seq (.ops [
  ⟨(some 4), none, (.asg (.const (.int .i64 0)))⟩]) .ret)))
theorem law_spec_l02Glue {a0 a1 d : D} (h : code_spec_l02Glue.wp (CT Try.prog NoG) (endQ [(.t 4)] d) [a0, a1, .undef, .undef, .undef, .undef, .undef, .undef, .undef, .undef, .undef, .undef, .undef, .undef, .undef, .undef, .undef, .undef, .undef, .undef, .undef, .undef, .undef, .undef, .undef, .undef, .undef]) : Contract Try.prog NoG 78 [a0, a1] d :=
  contract_of (pt := 0) noG Try.func78 (fun us W => by kernel_rfl) (c := Try.f78.body.getD .skip) (ms := [(mB 27 134217692)]) (ms' := []) (by kernel_rfl) (by kernel_rfl) (by kernel_rfl) h
def code_spec_l02Tile : VCode := (.seq (.ops [
  ⟨(some 4), none, (.asg (.const (.int .i64 0)))⟩]) (.seq (.seq (.ops [
  ⟨(some 5), none, (.asg (.const (.int .i64 0)))⟩]) (.block 0 (.loop (mB 26 67108828) (.seq (.seq (.ops [
  ⟨(some 6), none, (.mv (.tmp 5))⟩,
  ⟨(some 7), none, (.mv (.tmp 0))⟩,
  ⟨(some 8), none, (.nilc (.tmp 7))⟩,
  ⟨(some 9), none, (.fa 1 (.tmp 8))⟩,
  ⟨(some 10), none, (.load 1 false (.tmp 9))⟩,
  ⟨(some 11), none, (.len (.tmp 10))⟩,
  ⟨(some 12), none, (.bin .lss (.tmp 6) (.tmp 11))⟩]) (.cond (.tmp 12) .skip (.exit 0))) (.seq (.block 1 (.seq (.ops [
  ⟨(some 15), none, (.mv (.tmp 0))⟩,
  ⟨(some 16), none, (.nilc (.tmp 15))⟩,
  ⟨(some 17), none, (.fa 1 (.tmp 16))⟩,
  ⟨(some 18), none, (.load 1 false (.tmp 17))⟩,
  ⟨(some 19), none, (.mv (.tmp 5))⟩,
  ⟨(some 20), none, (.ia 2 (.tmp 18) (.tmp 19))⟩,
  ⟨(some 21), none, (.fa 0 (.tmp 20))⟩,
  ⟨(some 22), none, (.load 1 false (.tmp 21))⟩,
  ⟨(some 23), none, (.mv (.tmp 1))⟩,
  ⟨(some 24), none, (.bin .eql (.tmp 22) (.tmp 23))⟩]) (.cond (.tmp 24) (.seq (.ops [
  ⟨(some 25), none, (.mv (.tmp 5))⟩,
  ⟨(some 4), none, (.asg (.tmp 25))⟩]) .ret) .skip))) (.ops [
  ⟨(some 13), none, (.mv (.tmp 5))⟩,
  ⟨(some 14), none, (.bin .add (.tmp 13) (.const (.int .i64 1)))⟩,
  ⟨(some 5), none, (.asg (.tmp 14))⟩])))))) (.seq (.ops [
  ⟨(some 4), none, (.asg (.const (.int .i64 (-1))))⟩]) .ret)))
theorem law_spec_l02Tile {a0 a1 d : D} (h : code_spec_l02Tile.wp (CT Try.prog NoG) (endQ [(.t 4)] d) [a0, a1, .undef, .undef, .undef, .undef, .undef, .undef, .undef, .undef, .undef, .undef, .undef, .undef, .undef, .undef, .undef, .undef, .undef, .undef, .undef, .undef, .undef, .undef, .undef, .undef]) : Contract Try.prog NoG 79 [a0, a1] d :=
  contract_of (pt := 0) noG Try.func79 (fun us W => by kernel_rfl) (c := Try.f79.body.getD .skip) (ms := [(mB 26 67108828)]) (ms' := []) (by kernel_rfl) (by kernel_rfl) (by kernel_rfl) h
theorem v_l02Glue (a : TileSet) (n : ByteArray) (hg : a.Glues.length ≤ 1048576) : Contract Try.prog NoG 78 [.iptr (TileSet.td.d false a) 0, .v (.string n)] (.v (.int .i64 (gIdx a.Glues n + 1))) := by
  rw [TileSet.td_d]; refine law_spec_l02Glue ?_; unfold code_spec_l02Glue; simp -implicitDefEqProofs (disch := omega) only [go_sem, ↓reduceIte]; refine loop_st (fun i : Nat => [.iptr [.sl false 2 (a.Glues.map (Glue.td.d false)), .sl false 2 (a.Tiles.map (Tile.td.d false))] 0, .v (.string n), .undef, .undef, .undef, .v (.int .i64 i), .undef, .undef, .undef, .undef, .undef, .undef, .undef, .undef, .undef, .undef, .undef, .undef, .undef, .undef, .undef, .undef, .undef, .undef, .undef, .undef, .undef]) (fun i => i ≤ a.Glues.length ∧ ∀ j (hj : j < a.Glues.length), j < i → decide (a.Glues[j].Name = n) = false) (fun i => a.Glues.length - i) 0 (nleA) ⟨Nat.zero_le _, fun _ _ h => absurd h (Nat.not_lt_zero _)⟩ ?_; rintro i ⟨hi, ha⟩; simp -implicitDefEqProofs (disch := omega) only [go_sem, ↓reduceIte , List.length_map, Int.toNat_natCast, Int.ofNat_lt, Int.natCast_nonneg, List.getElem?_map, Option.map_some]; refine cond_split ?_ ?_ <;> intro hlt
  · have hlt : i < a.Glues.length := (by simpa using hlt); have e1 := List.getElem?_eq_getElem hlt; simp -implicitDefEqProofs (disch := omega) only [go_sem, ↓reduceIte , List.length_map, Int.toNat_natCast, Int.ofNat_lt, Int.natCast_nonneg, List.getElem?_map, Option.map_some, hlt, e1, Glue.td_d]; refine cond_split ?_ ?_ <;> intro hc
    · have hv : gIdx a.Glues n = (i : Int) := vIdx_hit _ a.Glues i hlt (fun j hj h => ha j hj h) hc; simp -implicitDefEqProofs (disch := omega) only [go_sem, ↓reduceIte , wrN]; rw [hv]; simp
    · simp -implicitDefEqProofs (disch := omega) only [go_sem, ↓reduceIte , wrN]; refine ⟨i + 1, by omega, ⟨hlt, fun j hj h => ?_⟩, nleA⟩; by_cases hji : j = i
      · subst hji; exact hc
      · exact ha j hj (by omega)
  · have hge : i = a.Glues.length := by have : ¬ i < a.Glues.length := by simpa using hlt
                                        omega
    subst hge; have hv : gIdx a.Glues n = -1 := vIdx_miss _ a.Glues (fun j hj => ha j hj hj); simp -implicitDefEqProofs (disch := omega) only [go_sem, ↓reduceIte]; rw [hv]; rfl
theorem v_l02Tile (a : TileSet) (n : ByteArray) (hg : a.Tiles.length ≤ 1048576) : Contract Try.prog NoG 79 [.iptr (TileSet.td.d false a) 0, .v (.string n)] (.v (.int .i64 (tIdx a.Tiles n))) := by
  rw [TileSet.td_d]; refine law_spec_l02Tile ?_; unfold code_spec_l02Tile; simp -implicitDefEqProofs (disch := omega) only [go_sem, ↓reduceIte]; refine loop_st (fun i : Nat => [.iptr [.sl false 2 (a.Glues.map (Glue.td.d false)), .sl false 2 (a.Tiles.map (Tile.td.d false))] 0, .v (.string n), .undef, .undef, .undef, .v (.int .i64 i), .undef, .undef, .undef, .undef, .undef, .undef, .undef, .undef, .undef, .undef, .undef, .undef, .undef, .undef, .undef, .undef, .undef, .undef, .undef, .undef]) (fun i => i ≤ a.Tiles.length ∧ ∀ j (hj : j < a.Tiles.length), j < i → decide (a.Tiles[j].Name = n) = false) (fun i => a.Tiles.length - i) 0 (nleA) ⟨Nat.zero_le _, fun _ _ h => absurd h (Nat.not_lt_zero _)⟩ ?_; rintro i ⟨hi, ha⟩; simp -implicitDefEqProofs (disch := omega) only [go_sem, ↓reduceIte , List.length_map, Int.toNat_natCast, Int.ofNat_lt, Int.natCast_nonneg, List.getElem?_map, Option.map_some]; refine cond_split ?_ ?_ <;> intro hlt
  · have hlt : i < a.Tiles.length := (by simpa using hlt); have e1 := List.getElem?_eq_getElem hlt; simp -implicitDefEqProofs (disch := omega) only [go_sem, ↓reduceIte , List.length_map, Int.toNat_natCast, Int.ofNat_lt, Int.natCast_nonneg, List.getElem?_map, Option.map_some, hlt, e1, Tile.td_d]; refine cond_split ?_ ?_ <;> intro hc
    · have hv : tIdx a.Tiles n = (i : Int) := vIdx_hit _ a.Tiles i hlt (fun j hj h => ha j hj h) hc; simp -implicitDefEqProofs (disch := omega) only [go_sem, ↓reduceIte , wrN]; rw [hv]
    · simp -implicitDefEqProofs (disch := omega) only [go_sem, ↓reduceIte , wrN]; refine ⟨i + 1, by omega, ⟨hlt, fun j hj h => ?_⟩, nleA⟩; by_cases hji : j = i
      · subst hji; exact hc
      · exact ha j hj (by omega)
  · have hge : i = a.Tiles.length := by have : ¬ i < a.Tiles.length := by simpa using hlt
                                        omega
    subst hge; have hv : tIdx a.Tiles n = -1 := vIdx_miss _ a.Tiles (fun j hj => ha j hj hj); simp -implicitDefEqProofs (disch := omega) only [go_sem, ↓reduceIte]; rw [hv]
def code_spec_l02Ok : VCode := (.seq (.ops [
  ⟨(some 2), none, (.asg (.const (.bool false)))⟩]) (.seq (.seq (.ops [
  ⟨(some 8), none, (.mv (.tmp 0))⟩,
  ⟨(some 9), none, (.nilc (.tmp 8))⟩,
  ⟨(some 10), none, (.fa 0 (.tmp 9))⟩,
  ⟨(some 11), none, (.load 1 false (.tmp 10))⟩,
  ⟨(some 12), none, (.len (.tmp 11))⟩,
  ⟨(some 13), none, (.bin .gtr (.tmp 12) (.const (.int .i64 200)))⟩,
  ⟨(some 14), none, (.mv (.tmp 13))⟩,
  ⟨(some 15), (some (14, false)), (.mv (.tmp 0))⟩,
  ⟨(some 16), (some (14, false)), (.nilc (.tmp 15))⟩,
  ⟨(some 17), (some (14, false)), (.fa 1 (.tmp 16))⟩,
  ⟨(some 18), (some (14, false)), (.load 1 false (.tmp 17))⟩,
  ⟨(some 19), (some (14, false)), (.len (.tmp 18))⟩,
  ⟨(some 20), (some (14, false)), (.bin .lss (.tmp 19) (.const (.int .i64 1)))⟩,
  ⟨(some 21), none, (.pick (.tmp 14) (.const (.bool true)) (.tmp 20))⟩,
  ⟨(some 22), none, (.mv (.tmp 21))⟩,
  ⟨(some 23), (some (22, false)), (.mv (.tmp 0))⟩,
  ⟨(some 24), (some (22, false)), (.nilc (.tmp 23))⟩,
  ⟨(some 25), (some (22, false)), (.fa 1 (.tmp 24))⟩,
  ⟨(some 26), (some (22, false)), (.load 1 false (.tmp 25))⟩,
  ⟨(some 27), (some (22, false)), (.len (.tmp 26))⟩,
  ⟨(some 28), (some (22, false)), (.bin .gtr (.tmp 27) (.const (.int .i64 160)))⟩,
  ⟨(some 29), none, (.pick (.tmp 22) (.const (.bool true)) (.tmp 28))⟩]) (.cond (.tmp 29) (.seq (.ops [
  ⟨(some 2), none, (.asg (.const (.bool false)))⟩]) .ret) .skip)) (.seq (.seq (.ops [
  ⟨(some 3), none, (.asg (.const (.int .i64 0)))⟩]) (.block 0 (.loop (mB 115 41538374868278621028243970633760758) (.seq (.seq (.ops [
  ⟨(some 30), none, (.mv (.tmp 3))⟩,
  ⟨(some 31), none, (.mv (.tmp 0))⟩,
  ⟨(some 32), none, (.nilc (.tmp 31))⟩,
  ⟨(some 33), none, (.fa 0 (.tmp 32))⟩,
  ⟨(some 34), none, (.load 1 false (.tmp 33))⟩,
  ⟨(some 35), none, (.len (.tmp 34))⟩,
  ⟨(some 36), none, (.bin .lss (.tmp 30) (.tmp 35))⟩]) (.cond (.tmp 36) .skip (.exit 0))) (.seq (.block 1 (.seq (.ops [
  ⟨(some 39), none, (.mv (.tmp 0))⟩,
  ⟨(some 40), none, (.nilc (.tmp 39))⟩,
  ⟨(some 41), none, (.fa 0 (.tmp 40))⟩,
  ⟨(some 42), none, (.load 1 false (.tmp 41))⟩,
  ⟨(some 43), none, (.mv (.tmp 3))⟩,
  ⟨(some 44), none, (.ia 2 (.tmp 42) (.tmp 43))⟩,
  ⟨(some 45), none, (.load 2 true (.tmp 44))⟩,
  ⟨(some 4), none, (.alloc [(.string ⟨⟨[]⟩⟩), (.int .i64 0)])⟩,
  ⟨none, none, (.store 2 (.tmp 4) (.tmp 45))⟩]) (.seq (.ops [
  ⟨(some 46), none, (.fa 0 (.tmp 4))⟩,
  ⟨(some 47), none, (.load 1 false (.tmp 46))⟩,
  ⟨(some 48), none, (.callX 77 [(.tmp 47)])⟩,
  ⟨(some 49), none, (.un .not (.tmp 48))⟩,
  ⟨(some 50), none, (.mv (.tmp 49))⟩,
  ⟨(some 51), (some (50, false)), (.fa 1 (.tmp 4))⟩,
  ⟨(some 52), (some (50, false)), (.load 1 false (.tmp 51))⟩,
  ⟨(some 53), (some (50, false)), (.callX 35 [(.tmp 52), (.const (.int .i64 1)), (.const (.int .i64 4))])⟩,
  ⟨(some 54), (some (50, false)), (.un .not (.tmp 53))⟩,
  ⟨(some 55), none, (.pick (.tmp 50) (.const (.bool true)) (.tmp 54))⟩,
  ⟨(some 56), none, (.mv (.tmp 55))⟩,
  ⟨(some 57), (some (56, false)), (.mv (.tmp 0))⟩,
  ⟨(some 58), (some (56, false)), (.fa 0 (.tmp 4))⟩,
  ⟨(some 59), (some (56, false)), (.load 1 false (.tmp 58))⟩,
  ⟨(some 60), (some (56, false)), (.callX 78 [(.tmp 57), (.tmp 59)])⟩,
  ⟨(some 61), (some (56, false)), (.mv (.tmp 3))⟩,
  ⟨(some 62), (some (56, false)), (.bin .add (.tmp 61) (.const (.int .i64 1)))⟩,
  ⟨(some 63), (some (56, false)), (.bin .neq (.tmp 60) (.tmp 62))⟩,
  ⟨(some 64), none, (.pick (.tmp 56) (.const (.bool true)) (.tmp 63))⟩]) (.cond (.tmp 64) (.seq (.ops [
  ⟨(some 2), none, (.asg (.const (.bool false)))⟩]) .ret) .skip)))) (.ops [
  ⟨(some 37), none, (.mv (.tmp 3))⟩,
  ⟨(some 38), none, (.bin .add (.tmp 37) (.const (.int .i64 1)))⟩,
  ⟨(some 3), none, (.asg (.tmp 38))⟩])))))) (.seq (.seq (.ops [
  ⟨(some 5), none, (.asg (.const (.int .i64 0)))⟩]) (.block 2 (.loop (mB 115 41538374868278621028243970633760734) (.seq (.seq (.ops [
  ⟨(some 65), none, (.mv (.tmp 5))⟩,
  ⟨(some 66), none, (.mv (.tmp 0))⟩,
  ⟨(some 67), none, (.nilc (.tmp 66))⟩,
  ⟨(some 68), none, (.fa 1 (.tmp 67))⟩,
  ⟨(some 69), none, (.load 1 false (.tmp 68))⟩,
  ⟨(some 70), none, (.len (.tmp 69))⟩,
  ⟨(some 71), none, (.bin .lss (.tmp 65) (.tmp 70))⟩]) (.cond (.tmp 71) .skip (.exit 2))) (.seq (.block 3 (.seq (.ops [
  ⟨(some 74), none, (.mv (.tmp 0))⟩,
  ⟨(some 75), none, (.nilc (.tmp 74))⟩,
  ⟨(some 76), none, (.fa 1 (.tmp 75))⟩,
  ⟨(some 77), none, (.load 1 false (.tmp 76))⟩,
  ⟨(some 78), none, (.mv (.tmp 5))⟩,
  ⟨(some 79), none, (.ia 2 (.tmp 77) (.tmp 78))⟩,
  ⟨(some 80), none, (.load 2 true (.tmp 79))⟩,
  ⟨(some 6), none, (.alloc [(.string ⟨⟨[]⟩⟩), (.slice none 0 0)])⟩,
  ⟨none, none, (.store 2 (.tmp 6) (.tmp 80))⟩]) (.seq (.seq (.ops [
  ⟨(some 81), none, (.fa 0 (.tmp 6))⟩,
  ⟨(some 82), none, (.load 1 false (.tmp 81))⟩,
  ⟨(some 83), none, (.callX 77 [(.tmp 82)])⟩,
  ⟨(some 84), none, (.un .not (.tmp 83))⟩,
  ⟨(some 85), none, (.mv (.tmp 84))⟩,
  ⟨(some 86), (some (85, false)), (.fa 1 (.tmp 6))⟩,
  ⟨(some 87), (some (85, false)), (.load 1 false (.tmp 86))⟩,
  ⟨(some 88), (some (85, false)), (.len (.tmp 87))⟩,
  ⟨(some 89), (some (85, false)), (.bin .neq (.tmp 88) (.const (.int .i64 4)))⟩,
  ⟨(some 90), none, (.pick (.tmp 85) (.const (.bool true)) (.tmp 89))⟩,
  ⟨(some 91), none, (.mv (.tmp 90))⟩,
  ⟨(some 92), (some (91, false)), (.mv (.tmp 0))⟩,
  ⟨(some 93), (some (91, false)), (.fa 0 (.tmp 6))⟩,
  ⟨(some 94), (some (91, false)), (.load 1 false (.tmp 93))⟩,
  ⟨(some 95), (some (91, false)), (.callX 79 [(.tmp 92), (.tmp 94)])⟩,
  ⟨(some 96), (some (91, false)), (.mv (.tmp 5))⟩,
  ⟨(some 97), (some (91, false)), (.bin .neq (.tmp 95) (.tmp 96))⟩,
  ⟨(some 98), none, (.pick (.tmp 91) (.const (.bool true)) (.tmp 97))⟩]) (.cond (.tmp 98) (.seq (.ops [
  ⟨(some 2), none, (.asg (.const (.bool false)))⟩]) .ret) .skip)) (.seq (.ops [
  ⟨(some 7), none, (.asg (.const (.int .i64 0)))⟩]) (.block 4 (.loop (mB 115 41538374868278621028243970633760542) (.seq (.seq (.ops [
  ⟨(some 99), none, (.mv (.tmp 7))⟩,
  ⟨(some 100), none, (.bin .lss (.tmp 99) (.const (.int .i64 4)))⟩]) (.cond (.tmp 100) .skip (.exit 4))) (.seq (.block 5 (.seq (.draw (mB 113 10374452512267829421849019032797184) [] [⟨0, (mB 113 10374452512267829421849019032797184), [], ⟨(some 103), none, (.fa 1 (.tmp 6))⟩⟩, ⟨1, (mB 113 10364311307466003586637045407154176), [], ⟨(some 104), none, (.load 1 false (.tmp 103))⟩⟩, ⟨2, (mB 113 10374452512267829421849019032797184), [], ⟨(some 105), none, (.mv (.tmp 7))⟩⟩, ⟨3, (mB 113 10303464078655048575365203653296128), [], ⟨(some 106), none, (.ia 1 (.tmp 104) (.tmp 105))⟩⟩, ⟨4, (mB 113 10222334440240441893669414648152064), [], ⟨(some 107), none, (.load 1 false (.tmp 106))⟩⟩, ⟨5, (mB 113 10374452512267829421849019032797184), [], ⟨(some 108), none, (.mv (.tmp 0))⟩⟩, ⟨6, (mB 113 10049933958609402695065863012220928), [], ⟨(some 109), none, (.nilc (.tmp 108))⟩⟩, ⟨7, (mB 113 9400896851292549241499550971068416), [], ⟨(some 110), none, (.fa 0 (.tmp 109))⟩⟩, ⟨8, (mB 113 8102822636658842334366926888763392), [], ⟨(some 111), none, (.load 1 false (.tmp 110))⟩⟩, ⟨9, (mB 113 5506674207391428520101678724153344), [], ⟨(some 112), none, (.len (.tmp 111))⟩⟩] [⟨(some 113), none, (.callX 35 [(.tmp 107), (.const (.int .i64 0)), (.tmp 112)])⟩, ⟨(some 114), none, (.un .not (.tmp 113))⟩]) (.cond (.tmp 114) (.seq (.ops [
  ⟨(some 2), none, (.asg (.const (.bool false)))⟩]) .ret) .skip))) (.ops [
  ⟨(some 101), none, (.mv (.tmp 7))⟩,
  ⟨(some 102), none, (.bin .add (.tmp 101) (.const (.int .i64 1)))⟩,
  ⟨(some 7), none, (.asg (.tmp 102))⟩]))))))))) (.ops [
  ⟨(some 72), none, (.mv (.tmp 5))⟩,
  ⟨(some 73), none, (.bin .add (.tmp 72) (.const (.int .i64 1)))⟩,
  ⟨(some 5), none, (.asg (.tmp 73))⟩])))))) (.seq (.ops [
  ⟨(some 2), none, (.asg (.const (.bool true)))⟩]) .ret)))))
theorem law_spec_l02Ok {a0 d : D} (h : code_spec_l02Ok.wp (CT Try.prog NoG) (endQ [(.t 2)] d) [a0, .undef, .undef, .undef, .undef, .undef, .undef, .undef, .undef, .undef, .undef, .undef, .undef, .undef, .undef, .undef, .undef, .undef, .undef, .undef, .undef, .undef, .undef, .undef, .undef, .undef, .undef, .undef, .undef, .undef, .undef, .undef, .undef, .undef, .undef, .undef, .undef, .undef, .undef, .undef, .undef, .undef, .undef, .undef, .undef, .undef, .undef, .undef, .undef, .undef, .undef, .undef, .undef, .undef, .undef, .undef, .undef, .undef, .undef, .undef, .undef, .undef, .undef, .undef, .undef, .undef, .undef, .undef, .undef, .undef, .undef, .undef, .undef, .undef, .undef, .undef, .undef, .undef, .undef, .undef, .undef, .undef, .undef, .undef, .undef, .undef, .undef, .undef, .undef, .undef, .undef, .undef, .undef, .undef, .undef, .undef, .undef, .undef, .undef, .undef, .undef, .undef, .undef, .undef, .undef, .undef, .undef, .undef, .undef, .undef, .undef, .undef, .undef, .undef, .undef]) : Contract Try.prog NoG 34 [a0] d :=
  contract_of (pt := 0) noG Try.func34 (fun us W => by kernel_rfl) (c := Try.f34.body.getD .skip) (ms := [(mB 115 41538374868278621028243970633760758), (mB 115 41538374868278621028243970633760734), (mB 115 41538374868278621028243970633760542)]) (ms' := []) (by kernel_rfl) (by kernel_rfl) (by kernel_rfl) h
set_option maxHeartbeats 4000000 in
theorem v_l02Ok (a : TileSet) (ha : setB a) : Contract Try.prog NoG 34 [.iptr (TileSet.td.d false a) 0] (.v (.bool (okSet a))) := by
  have hag := ha.g; have hat := ha.t; rw [TileSet.td_d]; refine law_spec_l02Ok ?_; unfold code_spec_l02Ok; by_cases hg : a.Glues.length ≤ 200
  · have f1 : decide ((200 : Int) < (a.Glues.length : Int)) = false := decide_eq_false (by omega); by_cases ht : 1 ≤ a.Tiles.length
    · have f2 : decide ((a.Tiles.length : Int) < 1) = false := decide_eq_false (by omega); by_cases ht2 : a.Tiles.length ≤ 160
      · have f3 : decide ((160 : Int) < (a.Tiles.length : Int)) = false := decide_eq_false (by omega); simp -implicitDefEqProofs (disch := omega) only [go_sem, ↓reduceIte , List.length_map, f1, f2, f3]; refine loop_st (fun i : Nat => [.iptr [.sl false 2 (a.Glues.map (Glue.td.d false)), .sl false 2 (a.Tiles.map (Tile.td.d false))] 0, .undef, .undef, .v (.int .i64 i), .undef, .undef, .undef, .undef, .undef, .undef, .undef, .undef, .undef, .undef, .undef, .undef, .undef, .undef, .undef, .undef, .undef, .undef, .undef, .undef, .undef, .undef, .undef, .undef, .undef, .undef, .undef, .undef, .undef, .undef, .undef, .undef, .undef, .undef, .undef, .undef, .undef, .undef, .undef, .undef, .undef, .undef, .undef, .undef, .undef, .undef, .undef, .undef, .undef, .undef, .undef, .undef, .undef, .undef, .undef, .undef, .undef, .undef, .undef, .undef, .undef, .undef, .undef, .undef, .undef, .undef, .undef, .undef, .undef, .undef, .undef, .undef, .undef, .undef, .undef, .undef, .undef, .undef, .undef, .undef, .undef, .undef, .undef, .undef, .undef, .undef, .undef, .undef, .undef, .undef, .undef, .undef, .undef, .undef, .undef, .undef, .undef, .undef, .undef, .undef, .undef, .undef, .undef, .undef, .undef, .undef, .undef, .undef, .undef, .undef, .undef]) (fun i => i ≤ a.Glues.length ∧ (List.range i).all (okG a.Glues) = true) (fun i => a.Glues.length - i) 0 (nleA) ⟨Nat.zero_le _, rfl⟩ ?_; rintro i ⟨hi, hall⟩; simp -implicitDefEqProofs (disch := omega) only [go_sem, ↓reduceIte , List.length_map, Int.toNat_natCast, Int.ofNat_lt, Int.natCast_nonneg, List.getElem?_map, Option.map_some]; refine cond_split ?_ ?_ <;> intro hlt
        · have hlt : i < a.Glues.length := (by simpa using hlt); have e1 := List.getElem?_eq_getElem hlt; have hok := okG_at hlt; simp -implicitDefEqProofs (disch := omega) only [go_sem, ↓reduceIte , List.length_map, Int.toNat_natCast, Int.ofNat_lt, Int.natCast_nonneg, List.getElem?_map, Option.map_some, hlt, e1, Glue.td_d]; refine call_B (vIsName_spec _ (ha.gn _ (List.getElem_mem hlt))) (by simp -implicitDefEqProofs (disch := omega) only [go_sem, ↓reduceIte, deep, TD.rows, immLL_rI, immLL_rB8, immLL_rS, immLL_rBo, immLL_rII, immLL_rIIt]; exact rfl) ?_; simp -implicitDefEqProofs (disch := omega) only [go_sem, ↓reduceIte]; refine guard_split ?_ ?_ <;> intro h1
          · simp -implicitDefEqProofs (disch := omega) only [go_sem, ↓reduceIte , h1]; simp only [Bool.not_eq_true'] at h1; rw [okSet_g hlt (by rw [hok, h1]; rfl)]
          · simp only [Bool.not_eq_false'] at h1; simp -implicitDefEqProofs (disch := omega) only [go_sem, ↓reduceIte , h1]; refine call_B (v_l00In _ _ _) (by simp -implicitDefEqProofs (disch := omega) only [go_sem, ↓reduceIte, deep, TD.rows, immLL_rI, immLL_rB8, immLL_rS, immLL_rBo, immLL_rII, immLL_rIIt]; exact rfl) ?_; simp -implicitDefEqProofs (disch := omega) only [go_sem, ↓reduceIte]; refine guard_split ?_ ?_ <;> intro h2
            · simp -implicitDefEqProofs (disch := omega) only [go_sem, ↓reduceIte , h2]; simp only [Bool.not_eq_true'] at h2; rw [okSet_g hlt (by rw [hok, h1, h2]; rfl)]
            · simp only [Bool.not_eq_false'] at h2; simp -implicitDefEqProofs (disch := omega) only [go_sem, ↓reduceIte , h2]; refine call_B (v_l02Glue a a.Glues[i].Name hag) (by simp -implicitDefEqProofs (disch := omega) only [go_sem, ↓reduceIte, deep, TD.rows, immLL_rI, immLL_rB8, immLL_rS, immLL_rBo, immLL_rII, immLL_rIIt, wrN]; exact rfl) ?_; simp -implicitDefEqProofs (disch := omega) only [go_sem, ↓reduceIte , wrN]; have hself : (!decide (gIdx a.Glues a.Glues[i].Name + 1 = ((i + 1 : Nat) : Int))) = (a.Glues.take i).any (fun x => decide (x.Name = a.Glues[i].Name)) := by have h3 : decide (gIdx a.Glues a.Glues[i].Name + 1 = ((i + 1 : Nat) : Int)) = decide (gIdx a.Glues a.Glues[i].Name = (i : Int)) := (by rw [decide_eq_decide]; omega); have h4 : decide (gIdx a.Glues a.Glues[i].Name = (i : Int)) = !(a.Glues.take i).any (fun x => decide (x.Name = a.Glues[i].Name)) := vIdx_self (fun g : Glue => g.Name) a.Glues i hlt; rw [h3, h4, Bool.not_not]
              rw [hself]; refine cond_split ?_ ?_ <;> intro h3
              · simp -implicitDefEqProofs (disch := omega) only [go_sem, ↓reduceIte]; rw [okSet_g hlt (by rw [hok, h1, h2, h3]; rfl)]
              · simp -implicitDefEqProofs (disch := omega) only [go_sem, ↓reduceIte , wrN]; exact ⟨i + 1, by omega, ⟨hlt, all_next hall (by rw [hok, h1, h2, h3]; rfl)⟩, nleA⟩
        · have hge : i = a.Glues.length := by have : ¬ i < a.Glues.length := by simpa using hlt
                                              omega
          subst hge; simp -implicitDefEqProofs (disch := omega) only [go_sem, ↓reduceIte]; refine loop_st (fun i : Nat => [.iptr [.sl false 2 (a.Glues.map (Glue.td.d false)), .sl false 2 (a.Tiles.map (Tile.td.d false))] 0, .undef, .undef, .undef, .undef, .v (.int .i64 i), .undef, .undef, .undef, .undef, .undef, .undef, .undef, .undef, .undef, .undef, .undef, .undef, .undef, .undef, .undef, .undef, .undef, .undef, .undef, .undef, .undef, .undef, .undef, .undef, .undef, .undef, .undef, .undef, .undef, .undef, .undef, .undef, .undef, .undef, .undef, .undef, .undef, .undef, .undef, .undef, .undef, .undef, .undef, .undef, .undef, .undef, .undef, .undef, .undef, .undef, .undef, .undef, .undef, .undef, .undef, .undef, .undef, .undef, .undef, .undef, .undef, .undef, .undef, .undef, .undef, .undef, .undef, .undef, .undef, .undef, .undef, .undef, .undef, .undef, .undef, .undef, .undef, .undef, .undef, .undef, .undef, .undef, .undef, .undef, .undef, .undef, .undef, .undef, .undef, .undef, .undef, .undef, .undef, .undef, .undef, .undef, .undef, .undef, .undef, .undef, .undef, .undef, .undef, .undef, .undef, .undef, .undef, .undef, .undef]) (fun i => i ≤ a.Tiles.length ∧ (List.range i).all (okT a.Glues.length a.Tiles) = true) (fun i => a.Tiles.length - i) 0 (nleA) ⟨Nat.zero_le _, rfl⟩ ?_; rintro i ⟨hi, hallT⟩; simp -implicitDefEqProofs (disch := omega) only [go_sem, ↓reduceIte , List.length_map, Int.toNat_natCast, Int.ofNat_lt, Int.natCast_nonneg, List.getElem?_map, Option.map_some]; refine cond_split ?_ ?_ <;> intro hlt
          · have hlt : i < a.Tiles.length := (by simpa using hlt); have e1 := List.getElem?_eq_getElem hlt; have hok : okT a.Glues.length a.Tiles i = _ := okT_at hlt; have hsl := ha.ts _ (List.getElem_mem hlt); simp -implicitDefEqProofs (disch := omega) only [go_sem, ↓reduceIte , List.length_map, Int.toNat_natCast, Int.ofNat_lt, Int.natCast_nonneg, List.getElem?_map, Option.map_some, hlt, e1, Tile.td_d]; refine call_B (vIsName_spec _ (ha.tn _ (List.getElem_mem hlt))) (by simp -implicitDefEqProofs (disch := omega) only [go_sem, ↓reduceIte, deep, TD.rows, immLL_rI, immLL_rB8, immLL_rS, immLL_rBo, immLL_rII, immLL_rIIt]; exact rfl) ?_; simp -implicitDefEqProofs (disch := omega) only [go_sem, ↓reduceIte]; refine guard_split ?_ ?_ <;> intro h1
            · simp -implicitDefEqProofs (disch := omega) only [go_sem, ↓reduceIte , h1]; simp only [Bool.not_eq_true'] at h1; rw [okSet_t hlt (by rw [hok, h1]; rfl)]
            · simp only [Bool.not_eq_false'] at h1; simp -implicitDefEqProofs (disch := omega) only [go_sem, ↓reduceIte , h1, List.length_map]; have h4e : decide ((a.Tiles[i].Sides.length : Int) = 4) = decide (a.Tiles[i].Sides.length = 4) := by rw [decide_eq_decide]; omega
              refine guard_split ?_ ?_ <;> intro h2
              · simp -implicitDefEqProofs (disch := omega) only [go_sem, ↓reduceIte , h2]; simp only [Bool.not_eq_true', h4e] at h2; rw [okSet_t hlt (by rw [hok, h1, h2]; rfl)]
              · have h2' := h2; simp only [Bool.not_eq_false', h4e] at h2'; simp -implicitDefEqProofs (disch := omega) only [go_sem, ↓reduceIte , h2]; refine call_B (v_l02Tile a a.Tiles[i].Name hat) (by simp -implicitDefEqProofs (disch := omega) only [go_sem, ↓reduceIte, deep, TD.rows, immLL_rI, immLL_rB8, immLL_rS, immLL_rBo, immLL_rII, immLL_rIIt]; exact rfl) ?_; simp -implicitDefEqProofs (disch := omega) only [go_sem, ↓reduceIte]; have h4 : decide (tIdx a.Tiles a.Tiles[i].Name = (i : Int)) = !(a.Tiles.take i).any (fun x => decide (x.Name = a.Tiles[i].Name)) := vIdx_self (fun g : Tile => g.Name) a.Tiles i hlt; rw [h4, Bool.not_not]; refine cond_split ?_ ?_ <;> intro h3
                · simp -implicitDefEqProofs (disch := omega) only [go_sem, ↓reduceIte]; rw [okSet_t hlt (by rw [hok, h1, h2', h3]; rfl)]
                · have h44 : a.Tiles[i].Sides.length = 4 := (by simpa using h2'); simp -implicitDefEqProofs (disch := omega) only [go_sem, ↓reduceIte]; refine loop_st (fun k : Nat => [.iptr [.sl false 2 (a.Glues.map (Glue.td.d false)), .sl false 2 (a.Tiles.map (Tile.td.d false))] 0, .undef, .undef, .undef, .undef, .v (.int .i64 i), .box none [.v (.string a.Tiles[i].Name), .sl false 1 (a.Tiles[i].Sides.map rI)], .v (.int .i64 k), .undef, .undef, .undef, .undef, .undef, .undef, .undef, .undef, .undef, .undef, .undef, .undef, .undef, .undef, .undef, .undef, .undef, .undef, .undef, .undef, .undef, .undef, .undef, .undef, .undef, .undef, .undef, .undef, .undef, .undef, .undef, .undef, .undef, .undef, .undef, .undef, .undef, .undef, .undef, .undef, .undef, .undef, .undef, .undef, .undef, .undef, .undef, .undef, .undef, .undef, .undef, .undef, .undef, .undef, .undef, .undef, .undef, .undef, .undef, .undef, .undef, .undef, .undef, .undef, .undef, .undef, .undef, .undef, .undef, .undef, .undef, .undef, .undef, .undef, .undef, .undef, .undef, .undef, .undef, .undef, .undef, .undef, .undef, .undef, .undef, .undef, .undef, .undef, .undef, .undef, .undef, .undef, .undef, .undef, .undef, .undef, .undef, .undef, .undef, .undef, .undef, .undef, .undef, .undef, .undef, .undef, .undef]) (fun k => k ≤ 4 ∧ (a.Tiles[i].Sides.take k).all (inR 0 a.Glues.length) = true) (fun k => 4 - k) 0 (nleA) ⟨Nat.zero_le _, rfl⟩ ?_; rintro k ⟨hk, hkall⟩; simp -implicitDefEqProofs (disch := omega) only [go_sem, ↓reduceIte , List.length_map, Int.toNat_natCast, Int.ofNat_lt, Int.natCast_nonneg, List.getElem?_map, Option.map_some]; refine cond_split ?_ ?_ <;> intro hlk
                  · have hlk : k < 4 := (by have := of_decide_eq_true hlk; omega); have hlk' : k < a.Tiles[i].Sides.length := (by omega); have e2 := List.getElem?_eq_getElem hlk'; simp -implicitDefEqProofs (disch := omega) only [go_sem, ↓reduceIte , List.length_map, Int.toNat_natCast, Int.ofNat_lt, Int.natCast_nonneg, List.getElem?_map, Option.map_some, hlk', e2]; refine call_B (v_l00In _ _ _) (by simp -implicitDefEqProofs (disch := omega) only [go_sem, ↓reduceIte, deep, TD.rows, immLL_rI, immLL_rB8, immLL_rS, immLL_rBo, immLL_rII, immLL_rIIt]; exact rfl) ?_; simp -implicitDefEqProofs (disch := omega) only [go_sem, ↓reduceIte]; refine cond_split ?_ ?_ <;> intro h5
                    · simp -implicitDefEqProofs (disch := omega) only [go_sem, ↓reduceIte]; simp only [Bool.not_eq_true'] at h5; have : a.Tiles[i].Sides.all (inR 0 a.Glues.length) = false := by rw [List.all_eq_false]; exact ⟨_, List.getElem_mem hlk', by simp [h5]⟩
                      rw [okSet_t hlt (by rw [hok, h1, h2', h3, this]; rfl)]
                    · simp only [Bool.not_eq_false'] at h5; simp -implicitDefEqProofs (disch := omega) only [go_sem, ↓reduceIte , wrN]; refine ⟨k + 1, by omega, ⟨hlk, ?_⟩, nleA⟩; rw [List.take_succ_eq_append_getElem hlk', List.all_append, hkall]; simp [h5]
                  · have hk4 : k = 4 := (by have := of_decide_eq_false hlk; omega); subst hk4; simp -implicitDefEqProofs (disch := omega) only [go_sem, ↓reduceIte , wrN]; rw [List.take_of_length_le (by omega)] at hkall; exact ⟨i + 1, by omega, ⟨hlt, all_next hallT (by rw [hok, h1, h2', h3, hkall]; rfl)⟩, nleA⟩
          · have hge : i = a.Tiles.length := by have : ¬ i < a.Tiles.length := by simpa using hlt
                                                omega
            subst hge; simp -implicitDefEqProofs (disch := omega) only [go_sem, ↓reduceIte]; have hr : inR 1 160 a.Tiles.length = true := inR_iff.2 ⟨by omega, by omega⟩; unfold okSet; rw [hall, hallT, hr, decide_eq_true hg]; rfl
      · have f3 : decide ((160 : Int) < (a.Tiles.length : Int)) = true := decide_eq_true (by omega); have hr : inR 1 160 a.Tiles.length = false := (by unfold inR; rw [decide_eq_false (p := (a.Tiles.length : Int) ≤ 160) (by omega), Bool.and_false]); simp -implicitDefEqProofs (disch := omega) only [go_sem, ↓reduceIte , List.length_map, f1, f2, f3]; unfold okSet; rw [hr, Bool.false_and, Bool.and_false]
    · have f2 : decide ((a.Tiles.length : Int) < 1) = true := decide_eq_true (by omega); have hr : inR 1 160 a.Tiles.length = false := (by unfold inR; rw [decide_eq_false (p := (1 : Int) ≤ (a.Tiles.length : Int)) (by omega), Bool.false_and]); simp -implicitDefEqProofs (disch := omega) only [go_sem, ↓reduceIte , List.length_map, f1, f2]; unfold okSet; rw [hr, Bool.false_and, Bool.and_false]
  · have f1 : decide ((200 : Int) < (a.Glues.length : Int)) = true := decide_eq_true (by omega); simp -implicitDefEqProofs (disch := omega) only [go_sem, ↓reduceIte , List.length_map, f1]; unfold okSet; rw [decide_eq_false hg, Bool.false_and]
def code_impl_ValidSet : VCode := (.seq (.ops [
  ⟨(some 1), none, (.box (.tmp 0))⟩,
  ⟨(some 2), none, (.asg (.const (.bool false)))⟩]) (.seq (.seq (.ops [
  ⟨(some 9), none, (.fa 0 (.tmp 1))⟩,
  ⟨(some 10), none, (.load 1 false (.tmp 9))⟩,
  ⟨(some 11), none, (.len (.tmp 10))⟩,
  ⟨(some 12), none, (.bin .gtr (.tmp 11) (.const (.int .i64 200)))⟩,
  ⟨(some 13), none, (.mv (.tmp 12))⟩,
  ⟨(some 14), (some (13, false)), (.fa 1 (.tmp 1))⟩,
  ⟨(some 15), (some (13, false)), (.load 1 false (.tmp 14))⟩,
  ⟨(some 16), (some (13, false)), (.len (.tmp 15))⟩,
  ⟨(some 17), (some (13, false)), (.callX 32 [(.tmp 16), (.const (.int .i64 1)), (.const (.int .i64 160))])⟩,
  ⟨(some 18), (some (13, false)), (.un .not (.tmp 17))⟩,
  ⟨(some 19), none, (.pick (.tmp 13) (.const (.bool true)) (.tmp 18))⟩]) (.cond (.tmp 19) (.seq (.ops [
  ⟨(some 2), none, (.asg (.const (.bool false)))⟩]) .ret) .skip)) (.seq (.ops [
  ⟨(some 20), none, (.mkm .str)⟩,
  ⟨(some 3), none, (.asg (.tmp 20))⟩]) (.seq (.seq (.ops [
  ⟨(some 21), none, (.fa 0 (.tmp 1))⟩,
  ⟨(some 22), none, (.load 1 false (.tmp 21))⟩,
  ⟨(some 23), none, (.len (.tmp 22))⟩,
  ⟨(some 24), none, (.mv (.const (.int .i64 0)))⟩]) (.block 0 (.loop (mB 80 1208925819614629142200309) (.seq (.ops [
  ⟨(some 25), none, (.bin .lss (.tmp 24) (.tmp 23))⟩]) (.seq (.cond (.tmp 25) .skip (.exit 0)) (.seq (.block 1 (.seq (.ops [
  ⟨(some 26), none, (.ia 2 (.tmp 22) (.tmp 24))⟩,
  ⟨(some 27), none, (.load 2 true (.tmp 26))⟩,
  ⟨(some 5), none, (.alloc [(.string ⟨⟨[]⟩⟩), (.int .i64 0)])⟩,
  ⟨none, none, (.store 2 (.tmp 5) (.tmp 27))⟩]) (.seq (.seq (.ops [
  ⟨(some 28), none, (.fa 0 (.tmp 5))⟩,
  ⟨(some 29), none, (.load 1 false (.tmp 28))⟩,
  ⟨(some 30), none, (.callX 72 [(.tmp 29)])⟩,
  ⟨(some 31), none, (.un .not (.tmp 30))⟩,
  ⟨(some 32), none, (.mv (.tmp 31))⟩,
  ⟨(some 33), (some (32, false)), (.mv (.tmp 3))⟩,
  ⟨(some 34), (some (32, false)), (.fa 0 (.tmp 5))⟩,
  ⟨(some 35), (some (32, false)), (.load 1 false (.tmp 34))⟩,
  ⟨(some 36), (some (32, false)), (.mlk .str (.bool false) false (.tmp 33) (.tmp 35))⟩,
  ⟨(some 37), none, (.pick (.tmp 32) (.const (.bool true)) (.tmp 36))⟩,
  ⟨(some 38), none, (.mv (.tmp 37))⟩,
  ⟨(some 39), (some (38, false)), (.fa 1 (.tmp 5))⟩,
  ⟨(some 40), (some (38, false)), (.load 1 false (.tmp 39))⟩,
  ⟨(some 41), (some (38, false)), (.callX 32 [(.tmp 40), (.const (.int .i64 1)), (.const (.int .i64 4))])⟩,
  ⟨(some 42), (some (38, false)), (.un .not (.tmp 41))⟩,
  ⟨(some 43), none, (.pick (.tmp 38) (.const (.bool true)) (.tmp 42))⟩]) (.cond (.tmp 43) (.seq (.ops [
  ⟨(some 2), none, (.asg (.const (.bool false)))⟩]) .ret) .skip)) (.ops [
  ⟨(some 44), none, (.mv (.tmp 3))⟩,
  ⟨(some 45), none, (.fa 0 (.tmp 5))⟩,
  ⟨(some 46), none, (.load 1 false (.tmp 45))⟩,
  ⟨none, none, (.mupd .str (.tmp 44) (.tmp 46) (.const (.bool true)))⟩])))) (.ops [
  ⟨(some 47), none, (.bin .add (.tmp 24) (.const (.int .i64 1)))⟩,
  ⟨(some 24), none, (.mv (.tmp 47))⟩]))))))) (.seq (.ops [
  ⟨(some 48), none, (.mkm .str)⟩,
  ⟨(some 6), none, (.asg (.tmp 48))⟩]) (.seq (.seq (.ops [
  ⟨(some 49), none, (.fa 1 (.tmp 1))⟩,
  ⟨(some 50), none, (.load 1 false (.tmp 49))⟩,
  ⟨(some 51), none, (.len (.tmp 50))⟩,
  ⟨(some 52), none, (.mv (.const (.int .i64 0)))⟩]) (.block 2 (.loop (mB 80 1208925810888904896675773) (.seq (.ops [
  ⟨(some 53), none, (.bin .lss (.tmp 52) (.tmp 51))⟩]) (.seq (.cond (.tmp 53) .skip (.exit 2)) (.seq (.block 3 (.seq (.ops [
  ⟨(some 54), none, (.ia 2 (.tmp 50) (.tmp 52))⟩,
  ⟨(some 55), none, (.load 2 true (.tmp 54))⟩,
  ⟨(some 8), none, (.alloc [(.string ⟨⟨[]⟩⟩), (.slice none 0 0)])⟩,
  ⟨none, none, (.store 2 (.tmp 8) (.tmp 55))⟩]) (.seq (.seq (.ops [
  ⟨(some 56), none, (.fa 0 (.tmp 8))⟩,
  ⟨(some 57), none, (.load 1 false (.tmp 56))⟩,
  ⟨(some 58), none, (.callX 72 [(.tmp 57)])⟩,
  ⟨(some 59), none, (.un .not (.tmp 58))⟩,
  ⟨(some 60), none, (.mv (.tmp 59))⟩,
  ⟨(some 61), (some (60, false)), (.mv (.tmp 6))⟩,
  ⟨(some 62), (some (60, false)), (.fa 0 (.tmp 8))⟩,
  ⟨(some 63), (some (60, false)), (.load 1 false (.tmp 62))⟩,
  ⟨(some 64), (some (60, false)), (.mlk .str (.bool false) false (.tmp 61) (.tmp 63))⟩,
  ⟨(some 65), none, (.pick (.tmp 60) (.const (.bool true)) (.tmp 64))⟩,
  ⟨(some 66), none, (.mv (.tmp 65))⟩,
  ⟨(some 67), (some (66, false)), (.fa 1 (.tmp 8))⟩,
  ⟨(some 68), (some (66, false)), (.load 1 false (.tmp 67))⟩,
  ⟨(some 69), (some (66, false)), (.len (.tmp 68))⟩,
  ⟨(some 70), (some (66, false)), (.bin .neq (.tmp 69) (.const (.int .i64 4)))⟩,
  ⟨(some 71), none, (.pick (.tmp 66) (.const (.bool true)) (.tmp 70))⟩]) (.cond (.tmp 71) (.seq (.ops [
  ⟨(some 2), none, (.asg (.const (.bool false)))⟩]) .ret) .skip)) (.seq (.ops [
  ⟨(some 72), none, (.mv (.tmp 6))⟩,
  ⟨(some 73), none, (.fa 0 (.tmp 8))⟩,
  ⟨(some 74), none, (.load 1 false (.tmp 73))⟩,
  ⟨none, none, (.mupd .str (.tmp 72) (.tmp 74) (.const (.bool true)))⟩]) (.seq (.ops [
  ⟨(some 75), none, (.fa 1 (.tmp 8))⟩,
  ⟨(some 76), none, (.load 1 false (.tmp 75))⟩,
  ⟨(some 77), none, (.mkf 74 [] [(.tmp 1)])⟩,
  ⟨(some 78), none, (.callX 73 [(.tmp 76), (.tmp 77)])⟩]) (.cond (.tmp 78) (.seq (.ops [
  ⟨(some 2), none, (.asg (.const (.bool false)))⟩]) .ret) .skip)))))) (.ops [
  ⟨(some 79), none, (.bin .add (.tmp 52) (.const (.int .i64 1)))⟩,
  ⟨(some 52), none, (.mv (.tmp 79))⟩]))))))) (.seq (.ops [
  ⟨(some 2), none, (.asg (.const (.bool true)))⟩]) .ret)))))))
theorem law_impl_ValidSet {a0 d : D} (h : code_impl_ValidSet.wp (CT Try.prog NoG) (endQ [(.t 2)] d) [a0, .undef, .undef, .undef, .undef, .undef, .undef, .undef, .undef, .undef, .undef, .undef, .undef, .undef, .undef, .undef, .undef, .undef, .undef, .undef, .undef, .undef, .undef, .undef, .undef, .undef, .undef, .undef, .undef, .undef, .undef, .undef, .undef, .undef, .undef, .undef, .undef, .undef, .undef, .undef, .undef, .undef, .undef, .undef, .undef, .undef, .undef, .undef, .undef, .undef, .undef, .undef, .undef, .undef, .undef, .undef, .undef, .undef, .undef, .undef, .undef, .undef, .undef, .undef, .undef, .undef, .undef, .undef, .undef, .undef, .undef, .undef, .undef, .undef, .undef, .undef, .undef, .undef, .undef, .undef]) : Contract Try.prog NoG 31 [a0] d :=
  contract_of (pt := 0) noG Try.func31 (fun us W => by kernel_rfl) (c := Try.f31.body.getD .skip) (ms := [(mB 80 1208925819614629142200309), (mB 80 1208925810888904896675773)]) (ms' := []) (by kernel_rfl) (by kernel_rfl) (by kernel_rfl) h
def code_impl_ValidSet_1 : VCode := (.seq (.ops [
  ⟨(some 3), none, (.asg (.const (.bool false)))⟩]) (.seq (.ops [
  ⟨(some 4), none, (.mv (.tmp 0))⟩,
  ⟨(some 5), none, (.fa 0 (.tmp 1))⟩,
  ⟨(some 6), none, (.load 1 false (.tmp 5))⟩,
  ⟨(some 7), none, (.len (.tmp 6))⟩,
  ⟨(some 8), none, (.callX 32 [(.tmp 4), (.const (.int .i64 0)), (.tmp 7)])⟩,
  ⟨(some 9), none, (.un .not (.tmp 8))⟩,
  ⟨(some 3), none, (.asg (.tmp 9))⟩]) .ret))
theorem law_impl_ValidSet_1 {a0 a1 d : D} (h : code_impl_ValidSet_1.wp (CT Try.prog NoG) (endQ [(.t 3)] d) [a0, a1, .undef, .undef, .undef, .undef, .undef, .undef, .undef, .undef]) : Contract Try.prog NoG 74 [a0, a1] d :=
  contract_of (pt := 0) noG Try.func74 (fun us W => by kernel_rfl) (c := Try.f74.body.getD .skip) (ms := []) (ms' := []) (by kernel_rfl) (by kernel_rfl) (by kernel_rfl) h
theorem v_ValidSet1 (n : Int) (l : Nat) (gs ts : List (List D)) (hl : gs.length = l) : Contract Try.prog NoG 74 [.v (.int .i64 n), .iptr [.sl false 2 gs, .sl false 2 ts] 0] (.v (.bool (!inR 0 l n))) := by refine law_impl_ValidSet_1 ?_; unfold code_impl_ValidSet_1; simp -implicitDefEqProofs (disch := omega) only [go_sem, ↓reduceIte , hl]; refine call_B (v_within _ _ _) (by simp -implicitDefEqProofs (disch := omega) only [go_sem, ↓reduceIte, deep, TD.rows, immLL_rI, immLL_rB8, immLL_rS, immLL_rBo, immLL_rII, immLL_rIIt]; exact rfl) ?_; simp -implicitDefEqProofs (disch := omega) only [go_sem, ↓reduceIte]
set_option maxHeartbeats 4000000 in
theorem v_ValidSet (a : TileSet) (ha : setB a) : Contract Try.prog NoG 31 [.agg (TileSet.td.d false a)] (.v (.bool (okSet a))) := by
  have hag := ha.g; have hat := ha.t; rw [TileSet.td_d]; refine law_impl_ValidSet ?_; unfold code_impl_ValidSet; by_cases hg : a.Glues.length ≤ 200
  · have f1 : decide ((200 : Int) < (a.Glues.length : Int)) = false := decide_eq_false (by omega); simp -implicitDefEqProofs (disch := omega) only [go_sem, ↓reduceIte , List.length_map, f1]; refine call_B (v_within _ _ _) (by simp -implicitDefEqProofs (disch := omega) only [go_sem, ↓reduceIte, deep, TD.rows, immLL_rI, immLL_rB8, immLL_rS, immLL_rBo, immLL_rII, immLL_rIIt]; exact rfl) ?_; simp -implicitDefEqProofs (disch := omega) only [go_sem, ↓reduceIte]; refine cond_split ?_ ?_ <;> intro hr
    · simp -implicitDefEqProofs (disch := omega) only [go_sem, ↓reduceIte]; simp only [Bool.not_eq_true'] at hr; unfold okSet; rw [hr, Bool.false_and, Bool.and_false]
    · simp only [Bool.not_eq_false'] at hr; simp -implicitDefEqProofs (disch := omega) only [go_sem, ↓reduceIte , List.length_map]; refine loop_st (fun i : Nat => [.undef, .box none [.sl false 2 (a.Glues.map (Glue.td.d false)), .sl false 2 (a.Tiles.map (Tile.td.d false))], .undef, .mp .str (entsN (fun g : Glue => g.Name) (a.Glues.take i)), .undef, .undef, .undef, .undef, .undef, .undef, .undef, .undef, .undef, .undef, .undef, .undef, .undef, .undef, .undef, .undef, .undef, .ptr 1 [] 0 0, .sl false 2 (a.Glues.map (Glue.td.d false)), .v (.int .i64 a.Glues.length), .v (.int .i64 i), .undef, .undef, .undef, .undef, .undef, .undef, .undef, .undef, .undef, .undef, .undef, .undef, .undef, .undef, .undef, .undef, .undef, .undef, .undef, .undef, .undef, .undef, .undef, .undef, .undef, .undef, .undef, .undef, .undef, .undef, .undef, .undef, .undef, .undef, .undef, .undef, .undef, .undef, .undef, .undef, .undef, .undef, .undef, .undef, .undef, .undef, .undef, .undef, .undef, .undef, .undef, .undef, .undef, .undef, .undef]) (fun i => i ≤ a.Glues.length ∧ (List.range i).all (okG a.Glues) = true) (fun i => a.Glues.length - i) 0 (nleA) ⟨Nat.zero_le _, rfl⟩ ?_; rintro i ⟨hi, hall⟩; simp -implicitDefEqProofs (disch := omega) only [go_sem, ↓reduceIte , List.length_map, Int.toNat_natCast, Int.ofNat_lt, Int.natCast_nonneg, List.getElem?_map, Option.map_some]; refine cond_split ?_ ?_ <;> intro hlt
      · have hlt : i < a.Glues.length := (by simpa using hlt); have e1 := List.getElem?_eq_getElem hlt; have hok := okG_at hlt; have hget := mget_N (fun g : Glue => g.Name) a.Glues[i].Name (a.Glues.take i); simp -implicitDefEqProofs (disch := omega) only [go_sem, ↓reduceIte , List.length_map, Int.toNat_natCast, Int.ofNat_lt, Int.natCast_nonneg, List.getElem?_map, Option.map_some, hlt, e1, Glue.td_d]; refine call_B (vIsName_impl _ (ha.gn _ (List.getElem_mem hlt))) (by simp -implicitDefEqProofs (disch := omega) only [go_sem, ↓reduceIte, deep, TD.rows, immLL_rI, immLL_rB8, immLL_rS, immLL_rBo, immLL_rII, immLL_rIIt]; exact rfl) ?_; simp -implicitDefEqProofs (disch := omega) only [go_sem, ↓reduceIte]; refine guard_split ?_ ?_ <;> intro h1
        · simp -implicitDefEqProofs (disch := omega) only [go_sem, ↓reduceIte , h1]; simp only [Bool.not_eq_true'] at h1; rw [okSet_g hlt (by rw [hok, h1]; rfl)]
        · simp only [Bool.not_eq_false'] at h1; by_cases h3 : (a.Glues.take i).any (fun x => decide (x.Name = a.Glues[i].Name)) = true
          · rw [if_pos h3] at hget; simp -implicitDefEqProofs (disch := omega) only [go_sem, ↓reduceIte , h1, hget]; rw [okSet_g hlt (by rw [hok, h1, h3]; simp)]
          · rw [if_neg h3] at hget; have h3 : (a.Glues.take i).any (fun x => decide (x.Name = a.Glues[i].Name)) = false := by simpa using h3
            have hset := mset_N (fun g : Glue => g.Name) (a.Glues.take i) a.Glues[i] h3; rw [take_next hlt] at hset; simp -implicitDefEqProofs (disch := omega) only [go_sem, ↓reduceIte , h1, hget]; refine call_B (v_within _ _ _) (by simp -implicitDefEqProofs (disch := omega) only [go_sem, ↓reduceIte, deep, TD.rows, immLL_rI, immLL_rB8, immLL_rS, immLL_rBo, immLL_rII, immLL_rIIt]; exact rfl) ?_; simp -implicitDefEqProofs (disch := omega) only [go_sem, ↓reduceIte]; refine cond_split ?_ ?_ <;> intro h2
            · simp -implicitDefEqProofs (disch := omega) only [go_sem, ↓reduceIte]; simp only [Bool.not_eq_true'] at h2; rw [okSet_g hlt (by rw [hok, h1, h2]; rfl)]
            · simp only [Bool.not_eq_false'] at h2; simp -implicitDefEqProofs (disch := omega) only [go_sem, ↓reduceIte , wrN, hset]; exact ⟨i + 1, by omega, ⟨hlt, all_next hall (by rw [hok, h1, h2, h3]; rfl)⟩, nleA⟩
      · have hge : i = a.Glues.length := by have : ¬ i < a.Glues.length := by simpa using hlt
                                            omega
        subst hge; simp -implicitDefEqProofs (disch := omega) only [go_sem, ↓reduceIte , List.length_map]; refine loop_st (fun i : Nat => [.undef, .box none [.sl false 2 (a.Glues.map (Glue.td.d false)), .sl false 2 (a.Tiles.map (Tile.td.d false))], .undef, .undef, .undef, .undef, .mp .str (entsN (fun g : Tile => g.Name) (a.Tiles.take i)), .undef, .undef, .undef, .undef, .undef, .undef, .undef, .undef, .undef, .undef, .undef, .undef, .undef, .undef, .undef, .undef, .undef, .undef, .undef, .undef, .undef, .undef, .undef, .undef, .undef, .undef, .undef, .undef, .undef, .undef, .undef, .undef, .undef, .undef, .undef, .undef, .undef, .undef, .undef, .undef, .undef, .undef, .ptr 1 [] 0 1, .sl false 2 (a.Tiles.map (Tile.td.d false)), .v (.int .i64 a.Tiles.length), .v (.int .i64 i), .undef, .undef, .undef, .undef, .undef, .undef, .undef, .undef, .undef, .undef, .undef, .undef, .undef, .undef, .undef, .undef, .undef, .undef, .undef, .undef, .undef, .undef, .undef, .undef, .undef, .undef, .undef]) (fun i => i ≤ a.Tiles.length ∧ (List.range i).all (okT a.Glues.length a.Tiles) = true) (fun i => a.Tiles.length - i) 0 (nleA) ⟨Nat.zero_le _, rfl⟩ ?_; rintro i ⟨hi, hallT⟩; simp -implicitDefEqProofs (disch := omega) only [go_sem, ↓reduceIte , List.length_map, Int.toNat_natCast, Int.ofNat_lt, Int.natCast_nonneg, List.getElem?_map, Option.map_some]; refine cond_split ?_ ?_ <;> intro hlt
        · have hlt : i < a.Tiles.length := (by simpa using hlt); have e1 := List.getElem?_eq_getElem hlt; have hok : okT a.Glues.length a.Tiles i = _ := okT_at hlt; have hsl := ha.ts _ (List.getElem_mem hlt); have hget := mget_N (fun g : Tile => g.Name) a.Tiles[i].Name (a.Tiles.take i); simp -implicitDefEqProofs (disch := omega) only [go_sem, ↓reduceIte , List.length_map, Int.toNat_natCast, Int.ofNat_lt, Int.natCast_nonneg, List.getElem?_map, Option.map_some, hlt, e1, Tile.td_d]; refine call_B (vIsName_impl _ (ha.tn _ (List.getElem_mem hlt))) (by simp -implicitDefEqProofs (disch := omega) only [go_sem, ↓reduceIte, deep, TD.rows, immLL_rI, immLL_rB8, immLL_rS, immLL_rBo, immLL_rII, immLL_rIIt]; exact rfl) ?_; simp -implicitDefEqProofs (disch := omega) only [go_sem, ↓reduceIte]; refine guard_split ?_ ?_ <;> intro h1
          · simp -implicitDefEqProofs (disch := omega) only [go_sem, ↓reduceIte , h1]; simp only [Bool.not_eq_true'] at h1; rw [okSet_t hlt (by rw [hok, h1]; rfl)]
          · simp only [Bool.not_eq_false'] at h1; by_cases h3 : (a.Tiles.take i).any (fun x => decide (x.Name = a.Tiles[i].Name)) = true
            · rw [if_pos h3] at hget; simp -implicitDefEqProofs (disch := omega) only [go_sem, ↓reduceIte , h1, hget]; rw [okSet_t hlt (by rw [hok, h1, h3]; simp)]
            · rw [if_neg h3] at hget; have h3 : (a.Tiles.take i).any (fun x => decide (x.Name = a.Tiles[i].Name)) = false := by simpa using h3
              have hset := mset_N (fun g : Tile => g.Name) (a.Tiles.take i) a.Tiles[i] h3; rw [take_next hlt] at hset; simp -implicitDefEqProofs (disch := omega) only [go_sem, ↓reduceIte , h1, hget, List.length_map]; have h4e : decide ((a.Tiles[i].Sides.length : Int) = 4) = decide (a.Tiles[i].Sides.length = 4) := (by rw [decide_eq_decide]; omega); rw [h4e]; refine cond_split ?_ ?_ <;> intro h2
              · simp -implicitDefEqProofs (disch := omega) only [go_sem, ↓reduceIte]; simp only [Bool.not_eq_true'] at h2; rw [okSet_t hlt (by rw [hok, h1, h2]; rfl)]
              · simp only [Bool.not_eq_false'] at h2; simp -implicitDefEqProofs (disch := omega) only [go_sem, ↓reduceIte , hset]; refine call_B (v_ContainsFunc_Int64 _ [.iptr [.sl false 2 (a.Glues.map (Glue.td.d false)), .sl false 2 (a.Tiles.map (Tile.td.d false))] 0] ⟨rfl, fun _ => rfl, fun _ => rfl, fun _ => rfl⟩ a.Tiles[i].Sides (fun n => !inR 0 a.Glues.length n) (fun x _ => v_ValidSet1 x a.Glues.length _ _ (by rw [List.length_map])) (by omega)) (by simp -implicitDefEqProofs (disch := omega) only [go_sem, ↓reduceIte, deep, TD.rows, immLL_rI, immLL_rB8, immLL_rS, immLL_rBo, immLL_rII, immLL_rIIt]; exact rfl) ?_; simp -implicitDefEqProofs (disch := omega) only [go_sem, ↓reduceIte]; have hall4 : a.Tiles[i].Sides.all (inR 0 a.Glues.length) = !(a.Tiles[i].Sides.any fun n => !inR 0 a.Glues.length n) := List.all_eq_not_any_not; refine cond_split ?_ ?_ <;> intro h5
                · simp -implicitDefEqProofs (disch := omega) only [go_sem, ↓reduceIte]; rw [okSet_t hlt (by rw [hok, h1, h2, h3, hall4, h5]; rfl)]
                · simp -implicitDefEqProofs (disch := omega) only [go_sem, ↓reduceIte , wrN]; exact ⟨i + 1, by omega, ⟨hlt, all_next hallT (by rw [hok, h1, h2, h3, hall4, h5]; rfl)⟩, nleA⟩
        · have hge : i = a.Tiles.length := by have : ¬ i < a.Tiles.length := by simpa using hlt
                                              omega
          subst hge; simp -implicitDefEqProofs (disch := omega) only [go_sem, ↓reduceIte]; unfold okSet; rw [hall, hallT, hr, decide_eq_true hg]; rfl
  · have f1 : decide ((200 : Int) < (a.Glues.length : Int)) = true := decide_eq_true (by omega); simp -implicitDefEqProofs (disch := omega) only [go_sem, ↓reduceIte , List.length_map, f1]; unfold okSet; rw [decide_eq_false hg, Bool.false_and]
def code_slices_Clone_impl_Glue_impl_Glue : VCode := (.seq (.ops [
  ⟨(some 2), none, (.asg (.const (.slice none 0 0)))⟩]) (.seq (.seq (.ops [
  ⟨(some 3), none, (.mv (.tmp 0))⟩,
  ⟨(some 4), none, (.isnil false (.tmp 3))⟩]) (.cond (.tmp 4) (.seq (.ops [
  ⟨(some 2), none, (.asg (.const (.slice none 0 0)))⟩]) .ret) .skip)) (.seq (.ops [
  ⟨(some 5), none, (.bsl 2 [])⟩,
  ⟨(some 6), none, (.mv (.tmp 0))⟩,
  ⟨(some 7), none, (.app 2 24 (.tmp 5) (.tmp 6))⟩,
  ⟨(some 2), none, (.asg (.tmp 7))⟩]) .ret)))
theorem law_slices_Clone_impl_Glue_impl_Glue {a0 d : D} (h : code_slices_Clone_impl_Glue_impl_Glue.wp (CT Try.prog NoG) (endQ [(.t 2)] d) [a0, .undef, .undef, .undef, .undef, .undef, .undef, .undef]) : Contract Try.prog NoG 75 [a0] d :=
  contract_of (pt := 0) noG Try.func75 (fun us W => by kernel_rfl) (c := Try.f75.body.getD .skip) (ms := []) (ms' := []) (by kernel_rfl) (by kernel_rfl) (by kernel_rfl) h
theorem v_Clone_Glue (xs : List Glue) (hn : xs.length ≤ 1048576) : Contract Try.prog NoG 75 [.sl false 2 (xs.map (Glue.td.d false))] (.sl true 2 (xs.map (Glue.td.d true))) := by
  refine law_slices_Clone_impl_Glue_impl_Glue ?_; unfold code_slices_Clone_impl_Glue_impl_Glue; simp -implicitDefEqProofs (disch := omega) only [go_sem, ↓reduceIte]; refine isnil_intro (fun b hb => ?_); simp -implicitDefEqProofs (disch := omega) only [go_sem, ↓reduceIte]; refine cond_split ?_ ?_ <;> intro h
  · simp -implicitDefEqProofs (disch := omega) only [go_sem, ↓reduceIte]; exact hb (by rw [h]; rfl)
  · simp -implicitDefEqProofs (disch := omega) only [go_sem, ↓reduceIte , List.length_map]
    first | omega | exact ⟨by omega, rfl⟩
def mixR {α : Type} (f g : α → List D) (xs : List α) (i : Nat) : List (List D) := (xs.take i).map f ++ (xs.drop i).map g
theorem mixR_zero {α : Type} (f g : α → List D) (xs : List α) : mixR f g xs 0 = xs.map g := by simp [mixR]
theorem mixR_end {α : Type} (f g : α → List D) (xs : List α) : mixR f g xs xs.length = xs.map f := by simp [mixR]
theorem mixR_len {α : Type} (f g : α → List D) (xs : List α) (i : Nat) : (mixR f g xs i).length = xs.length := by simp only [mixR, List.length_append, List.length_map, List.length_take, List.length_drop]; omega
theorem mixR_at {α : Type} (f g : α → List D) {xs : List α} {i : Nat} (h : i < xs.length) : (mixR f g xs i)[i]? = some (g xs[i]) := by have hl : ((xs.take i).map f).length = i := (by rw [List.length_map, List.length_take]; omega); unfold mixR; rw [List.getElem?_append_right (by omega), hl, Nat.sub_self, List.getElem?_map, List.getElem?_drop, Nat.add_zero, List.getElem?_eq_getElem h]; rfl
theorem mixR_set {α : Type} (f g : α → List D) {xs : List α} {i : Nat} (h : i < xs.length) : (mixR f g xs i).set i (f xs[i]) = mixR f g xs (i + 1) := by have hl : ((xs.take i).map f).length = i := (by rw [List.length_map, List.length_take]; omega); unfold mixR; rw [List.set_append_right _ _ (by omega), hl, Nat.sub_self, List.drop_eq_getElem_cons h, List.map_cons, List.set_cons_zero, List.take_succ_eq_append_getElem h, List.map_append, List.append_assoc]; rfl
theorem mixR_same {α : Type} (f g : α → List D) {xs : List α} {i : Nat} (h : i < xs.length) : (mixR f g xs i).set i (g xs[i]) = mixR f g xs i := by
  apply List.ext_getElem?; intro j; rw [List.getElem?_set]; split
  · rename_i e; subst e; rw [mixR_at f g h, if_pos (by rw [mixR_len]; exact h)]
  · rfl
theorem set_at {rows : List (List D)} {i : Nat} {r : List D} (h : i < rows.length) : (rows.set i r)[i]? = some r := by simp [h]
def code_impl_TileSet_clone : VCode := (.seq (.ops [
  ⟨(some 1), none, (.box (.tmp 0))⟩,
  ⟨(some 2), none, (.alloc [(.slice none 0 0), (.slice none 0 0)])⟩]) (.seq (.ops [
  ⟨(some 6), none, (.fa 0 (.tmp 1))⟩,
  ⟨(some 7), none, (.load 1 false (.tmp 6))⟩,
  ⟨(some 8), none, (.callX 75 [(.tmp 7)])⟩,
  ⟨(some 9), none, (.build [(.slice none 0 0), (.slice none 0 0)] [(0, 1, (.tmp 8))])⟩,
  ⟨(some 3), none, (.alloc [(.slice none 0 0), (.slice none 0 0)])⟩,
  ⟨none, none, (.store 2 (.tmp 3) (.tmp 9))⟩]) (.seq (.seq (.ops [
  ⟨(some 10), none, (.fa 1 (.tmp 1))⟩,
  ⟨(some 11), none, (.load 1 false (.tmp 10))⟩,
  ⟨(some 12), none, (.len (.tmp 11))⟩,
  ⟨(some 13), none, (.mv (.const (.int .i64 0)))⟩]) (.block 0 (.loop (mB 30 1073726449) (.seq (.ops [
  ⟨(some 14), none, (.bin .lss (.tmp 13) (.tmp 12))⟩]) (.seq (.cond (.tmp 14) .skip (.exit 0)) (.seq (.block 1 (.seq (.ops [
  ⟨(some 15), none, (.ia 2 (.tmp 11) (.tmp 13))⟩,
  ⟨(some 16), none, (.load 2 true (.tmp 15))⟩,
  ⟨(some 5), none, (.alloc [(.string ⟨⟨[]⟩⟩), (.slice none 0 0)])⟩,
  ⟨none, none, (.store 2 (.tmp 5) (.tmp 16))⟩]) (.draw (mB 26 66977792) (mB 25 26214400) [⟨0, (mB 26 66977792), [], ⟨(some 17), none, (.fa 1 (.tmp 3))⟩⟩, ⟨1, (mB 26 66846720), [], ⟨(some 18), none, (.load 1 false (.tmp 17))⟩⟩, ⟨2, (mB 26 66977792), [], ⟨(some 19), none, (.fa 0 (.tmp 5))⟩⟩, ⟨3, (mB 26 66453504), [], ⟨(some 20), none, (.load 1 false (.tmp 19))⟩⟩, ⟨4, (mB 26 66977792), [], ⟨(some 21), none, (.fa 1 (.tmp 5))⟩⟩, ⟨5, (mB 26 64880640), [], ⟨(some 22), none, (.load 1 false (.tmp 21))⟩⟩, ⟨6, (mB 26 60686336), [], ⟨(some 23), none, (.call 76 [(.tmp 22)])⟩⟩, ⟨7, (mB 26 50724864), (mB 24 9437184), ⟨(some 24), none, (.build [(.string ⟨⟨[]⟩⟩), (.slice none 0 0)] [(0, 1, (.tmp 20)), (1, 1, (.tmp 23))])⟩⟩, ⟨8, (mB 26 43384832), (mB 25 16777216), ⟨(some 25), none, (.bslN 2 [(.tmp 24)])⟩⟩] [⟨(some 26), none, (.app 2 40 (.tmp 18) (.tmp 25))⟩, ⟨(some 27), none, (.fa 1 (.tmp 3))⟩, ⟨none, none, (.store 1 (.tmp 27) (.tmp 26))⟩]))) (.ops [
  ⟨(some 28), none, (.bin .add (.tmp 13) (.const (.int .i64 1)))⟩,
  ⟨(some 13), none, (.mv (.tmp 28))⟩]))))))) (.seq (.ops [
  ⟨(some 29), none, (.load 2 true (.tmp 3))⟩,
  ⟨none, none, (.store 2 (.tmp 2) (.tmp 29))⟩]) .ret))))
theorem law_impl_TileSet_clone {a0 d : D} (h : code_impl_TileSet_clone.wp (CT Try.prog NoG) (endQ [(.c 2 2 true)] d) [a0, .undef, .undef, .undef, .undef, .undef, .undef, .undef, .undef, .undef, .undef, .undef, .undef, .undef, .undef, .undef, .undef, .undef, .undef, .undef, .undef, .undef, .undef, .undef, .undef, .undef, .undef, .undef, .undef, .undef]) : Contract Try.prog NoG 33 [a0] d :=
  contract_of (pt := 0) noG Try.func33 (fun us W => by kernel_rfl) (c := Try.f33.body.getD .skip) (ms := [(mB 30 1073726449)]) (ms' := []) (by kernel_rfl) (by kernel_rfl) (by kernel_rfl) h
set_option maxHeartbeats 4000000 in
theorem v_clone (a : TileSet) (ha : setB a) : Contract Try.prog NoG 33 [.agg (TileSet.td.d false a)] (.agg (TileSet.td.d true a)) := by
  have hag := ha.g; have hat := ha.t; rw [TileSet.td_d, TileSet.td_d]; refine law_impl_TileSet_clone ?_; unfold code_impl_TileSet_clone; simp -implicitDefEqProofs (disch := omega) only [go_sem, ↓reduceIte]; refine call_B (v_Clone_Glue a.Glues hag) (by simp -implicitDefEqProofs (disch := omega) only [go_sem, ↓reduceIte, deep, TD.rows, immLL_rI, immLL_rB8, immLL_rS, immLL_rBo, immLL_rII, immLL_rIIt, List.length_map]; exact rfl) ?_; simp -implicitDefEqProofs (disch := omega) only [go_sem, ↓reduceIte , List.length_map]; refine loop_st (fun i : Nat => [.undef, .box none [.sl false 2 (a.Glues.map (Glue.td.d false)), .sl false 2 (a.Tiles.map (Tile.td.d false))], .box none [.nils, .nils], .box none [.sl true 2 (a.Glues.map (Glue.td.d true)), .sl true 2 ((a.Tiles.take i).map (Tile.td.d true))], .undef, .undef, .undef, .undef, .undef, .undef, .ptr 1 [] 0 1, .sl false 2 (a.Tiles.map (Tile.td.d false)), .v (.int .i64 a.Tiles.length), .v (.int .i64 i), .undef, .undef, .undef, .undef, .undef, .undef, .undef, .undef, .undef, .undef, .undef, .undef, .undef, .undef, .undef, .undef]) (fun i => i ≤ a.Tiles.length) (fun i => a.Tiles.length - i) 0 (nleA) (Nat.zero_le _) ?_; intro i hi; simp -implicitDefEqProofs (disch := omega) only [go_sem, ↓reduceIte , List.length_map, Int.toNat_natCast, Int.ofNat_lt, Int.natCast_nonneg, List.getElem?_map, Option.map_some]; refine cond_split ?_ ?_ <;> intro hlt
  · have hlt : i < a.Tiles.length := (by simpa using hlt); have e1 := List.getElem?_eq_getElem hlt; have hsl := ha.ts _ (List.getElem_mem hlt); simp -implicitDefEqProofs (disch := omega) only [go_sem, ↓reduceIte , List.length_map, Int.toNat_natCast, Int.ofNat_lt, Int.natCast_nonneg, List.getElem?_map, Option.map_some, hlt, e1, Tile.td_d]; refine call_NB (v_Clone_Int64 a.Tiles[i].Sides hsl) (by simp -implicitDefEqProofs (disch := omega) only [go_sem, ↓reduceIte, deep, TD.rows, immLL_rI, immLL_rB8, immLL_rS, immLL_rBo, immLL_rII, immLL_rIIt, List.length_map, List.length_take, wrN]; exact rfl) ?_; simp -implicitDefEqProofs (disch := omega) only [go_sem, ↓reduceIte , List.length_map, List.length_take, wrN]; refine ⟨by omega, i + 1, by omega, hlt, ?_⟩; rw [← take_next hlt, List.map_append]
    (try simp -implicitDefEqProofs only [nleL_cc, nleL_nn, nle_self, nle_boxs, nle_aggs, nle_nils, and_self, and_true, true_and]) <;> repeat' (first | exact nle_of_eq rfl | exact nle_nil | apply And.intro | apply nle_sl | apply nleLL_cons | apply nleL_cons | exact nleL_nil | exact nleLL_nil | apply nle_box | apply nle_agg)
  · have hge : i = a.Tiles.length := by have : ¬ i < a.Tiles.length := by simpa using hlt
                                        omega
    subst hge; simp -implicitDefEqProofs (disch := omega) only [go_sem, ↓reduceIte , List.take_length]
def code_spec_l02Own : VCode := (.seq (.ops [
  ⟨(some 2), none, (.alloc [(.slice none 0 0), (.slice none 0 0)])⟩]) (.seq (.ops [
  ⟨(some 5), none, (.bsl 2 [])⟩,
  ⟨(some 6), none, (.mv (.tmp 0))⟩,
  ⟨(some 7), none, (.nilc (.tmp 6))⟩,
  ⟨(some 8), none, (.fa 0 (.tmp 7))⟩,
  ⟨(some 9), none, (.load 1 false (.tmp 8))⟩,
  ⟨(some 10), none, (.app 2 24 (.tmp 5) (.tmp 9))⟩,
  ⟨(some 11), none, (.build [(.slice none 0 0), (.slice none 0 0)] [(0, 1, (.tmp 10))])⟩,
  ⟨(some 3), none, (.alloc [(.slice none 0 0), (.slice none 0 0)])⟩,
  ⟨none, none, (.store 2 (.tmp 3) (.tmp 11))⟩]) (.seq (.seq (.ops [
  ⟨(some 4), none, (.asg (.const (.int .i64 0)))⟩]) (.block 0 (.loop (mB 45 35184372088802) (.seq (.seq (.ops [
  ⟨(some 12), none, (.mv (.tmp 4))⟩,
  ⟨(some 13), none, (.mv (.tmp 0))⟩,
  ⟨(some 14), none, (.nilc (.tmp 13))⟩,
  ⟨(some 15), none, (.fa 1 (.tmp 14))⟩,
  ⟨(some 16), none, (.load 1 false (.tmp 15))⟩,
  ⟨(some 17), none, (.len (.tmp 16))⟩,
  ⟨(some 18), none, (.bin .lss (.tmp 12) (.tmp 17))⟩]) (.cond (.tmp 18) .skip (.exit 0))) (.seq (.block 1 (.draw (mB 42 4398044413952) (mB 41 1650341183488) [⟨0, (mB 42 4398044413952), [], ⟨(some 21), none, (.fa 1 (.tmp 3))⟩⟩, ⟨1, (mB 42 4398042316800), [], ⟨(some 22), none, (.load 1 false (.tmp 21))⟩⟩, ⟨2, (mB 42 4398044413952), [], ⟨(some 23), none, (.mv (.tmp 0))⟩⟩, ⟨3, (mB 42 4398036025344), [], ⟨(some 24), none, (.nilc (.tmp 23))⟩⟩, ⟨4, (mB 42 4398019248128), [], ⟨(some 25), none, (.fa 1 (.tmp 24))⟩⟩, ⟨5, (mB 42 4397985693696), [], ⟨(some 26), none, (.load 1 false (.tmp 25))⟩⟩, ⟨6, (mB 42 4398044413952), [], ⟨(some 27), none, (.mv (.tmp 4))⟩⟩, ⟨7, (mB 42 4397784367104), [], ⟨(some 28), none, (.ia 2 (.tmp 26) (.tmp 27))⟩⟩, ⟨8, (mB 42 4397515931648), [], ⟨(some 29), none, (.fa 0 (.tmp 28))⟩⟩, ⟨9, (mB 42 4396979060736), [], ⟨(some 30), none, (.load 1 false (.tmp 29))⟩⟩, ⟨10, (mB 42 4398044413952), [], ⟨(some 31), none, (.mv (.tmp 0))⟩⟩, ⟨11, (mB 42 4395896930304), [], ⟨(some 32), none, (.nilc (.tmp 31))⟩⟩, ⟨12, (mB 42 4391601963008), [], ⟨(some 33), none, (.fa 1 (.tmp 32))⟩⟩, ⟨13, (mB 42 4383012028416), [], ⟨(some 34), none, (.load 1 false (.tmp 33))⟩⟩, ⟨14, (mB 42 4398044413952), [], ⟨(some 35), none, (.mv (.tmp 4))⟩⟩, ⟨15, (mB 42 4331472420864), [], ⟨(some 36), none, (.ia 2 (.tmp 34) (.tmp 35))⟩⟩, ⟨16, (mB 42 4262752944128), [], ⟨(some 37), none, (.fa 1 (.tmp 36))⟩⟩, ⟨17, (mB 42 4125313990656), [], ⟨(some 38), none, (.load 1 false (.tmp 37))⟩⟩, ⟨18, (mB 42 3850436083712), [], ⟨(some 39), none, (.call 58 [(.tmp 38)])⟩⟩, ⟨19, (mB 42 3298541174784), (mB 40 550829555712), ⟨(some 40), none, (.build [(.string ⟨⟨[]⟩⟩), (.slice none 0 0)] [(0, 1, (.tmp 30)), (1, 1, (.tmp 39))])⟩⟩, ⟨20, (mB 42 2749859102720), (mB 41 1099511627776), ⟨(some 41), none, (.bslN 2 [(.tmp 40)])⟩⟩] [⟨(some 42), none, (.app 2 40 (.tmp 22) (.tmp 41))⟩, ⟨(some 43), none, (.fa 1 (.tmp 3))⟩, ⟨none, none, (.store 1 (.tmp 43) (.tmp 42))⟩])) (.ops [
  ⟨(some 19), none, (.mv (.tmp 4))⟩,
  ⟨(some 20), none, (.bin .add (.tmp 19) (.const (.int .i64 1)))⟩,
  ⟨(some 4), none, (.asg (.tmp 20))⟩])))))) (.seq (.ops [
  ⟨(some 44), none, (.load 2 true (.tmp 3))⟩,
  ⟨none, none, (.store 2 (.tmp 2) (.tmp 44))⟩]) .ret))))
theorem law_spec_l02Own {a0 d : D} (h : code_spec_l02Own.wp (CT Try.prog NoG) (endQ [(.c 2 2 true)] d) [a0, .undef, .undef, .undef, .undef, .undef, .undef, .undef, .undef, .undef, .undef, .undef, .undef, .undef, .undef, .undef, .undef, .undef, .undef, .undef, .undef, .undef, .undef, .undef, .undef, .undef, .undef, .undef, .undef, .undef, .undef, .undef, .undef, .undef, .undef, .undef, .undef, .undef, .undef, .undef, .undef, .undef, .undef, .undef, .undef]) : Contract Try.prog NoG 36 [a0] d :=
  contract_of (pt := 0) noG Try.func36 (fun us W => by kernel_rfl) (c := Try.f36.body.getD .skip) (ms := [(mB 45 35184372088802)]) (ms' := []) (by kernel_rfl) (by kernel_rfl) (by kernel_rfl) h
set_option maxHeartbeats 4000000 in
theorem v_l02Own (a : TileSet) (ha : setB a) : Contract Try.prog NoG 36 [.iptr (TileSet.td.d false a) 0] (.agg (TileSet.td.d true a)) := by
  have hag := ha.g; have hat := ha.t; rw [TileSet.td_d, TileSet.td_d]; refine law_spec_l02Own ?_; unfold code_spec_l02Own; simp -implicitDefEqProofs (disch := omega) only [go_sem, ↓reduceIte , List.length_map]; refine ⟨by omega, ?_⟩; refine loop_st (fun i : Nat => [.iptr [.sl false 2 (a.Glues.map (Glue.td.d false)), .sl false 2 (a.Tiles.map (Tile.td.d false))] 0, .undef, .box none [.nils, .nils], .box none [.sl true 2 (a.Glues.map (Glue.td.d true)), .sl true 2 ((a.Tiles.take i).map (Tile.td.d true))], .v (.int .i64 i), .undef, .undef, .undef, .undef, .undef, .undef, .undef, .undef, .undef, .undef, .undef, .undef, .undef, .undef, .undef, .undef, .undef, .undef, .undef, .undef, .undef, .undef, .undef, .undef, .undef, .undef, .undef, .undef, .undef, .undef, .undef, .undef, .undef, .undef, .undef, .undef, .undef, .undef, .undef, .undef]) (fun i => i ≤ a.Tiles.length) (fun i => a.Tiles.length - i) 0 (nleA) (Nat.zero_le _) ?_; intro i hi; simp -implicitDefEqProofs (disch := omega) only [go_sem, ↓reduceIte , List.length_map, Int.toNat_natCast, Int.ofNat_lt, Int.natCast_nonneg, List.getElem?_map, Option.map_some]; refine cond_split ?_ ?_ <;> intro hlt
  · have hlt : i < a.Tiles.length := (by simpa using hlt); have e1 := List.getElem?_eq_getElem hlt; have hsl := ha.ts _ (List.getElem_mem hlt); simp -implicitDefEqProofs (disch := omega) only [go_sem, ↓reduceIte , List.length_map, Int.toNat_natCast, Int.ofNat_lt, Int.natCast_nonneg, List.getElem?_map, Option.map_some, hlt, e1, Tile.td_d]; refine call_NB (v_l00Own a.Tiles[i].Sides hsl) (by simp -implicitDefEqProofs (disch := omega) only [go_sem, ↓reduceIte, deep, TD.rows, immLL_rI, immLL_rB8, immLL_rS, immLL_rBo, immLL_rII, immLL_rIIt, List.length_map, List.length_take, wrN]; exact rfl) ?_; simp -implicitDefEqProofs (disch := omega) only [go_sem, ↓reduceIte , List.length_map, List.length_take, wrN]; refine ⟨by omega, i + 1, by omega, hlt, ?_⟩; rw [← take_next hlt, List.map_append]
    (try simp -implicitDefEqProofs only [nleL_cc, nleL_nn, nle_self, nle_boxs, nle_aggs, nle_nils, and_self, and_true, true_and]) <;> repeat' (first | exact nle_of_eq rfl | exact nle_nil | apply And.intro | apply nle_sl | apply nleLL_cons | apply nleL_cons | exact nleL_nil | exact nleLL_nil | apply nle_box | apply nle_agg)
  · have hge : i = a.Tiles.length := by have : ¬ i < a.Tiles.length := by simpa using hlt
                                        omega
    subst hge; simp -implicitDefEqProofs (disch := omega) only [go_sem, ↓reduceIte , List.take_length]
def gStr (a : TileSet) (g : Int) : Int := if 0 < g then (a.Glues.getD (g - 1).toNat ⟨⟨#[]⟩, 0⟩).Strength else 0
def sideN (a : TileSet) (t d : Nat) : Int := (a.Tiles.getD t ⟨⟨#[]⟩, []⟩).Sides.getD d 0
def bondN (a : TileSet) (t d k : Nat) : Int := if sideN a t d = sideN a k ((d + 2) % 4) then gStr a (sideN a t d) else 0
theorem side_at {a : TileSet} (h : okSet a = true) {t d : Nat} (ht : t < a.Tiles.length) (hd : d < 4) : a.Tiles[t].Sides[d]? = some (sideN a t d) := by have h4 := okSet_sides4 h ht; unfold sideN; rw [List.getD_eq_getElem?_getD (l := a.Tiles), List.getElem?_eq_getElem ht]; show a.Tiles[t].Sides[d]? = some (a.Tiles[t].Sides.getD d 0); exact getD_some (by omega)
theorem side_in {a : TileSet} (h : okSet a = true) {t d : Nat} (ht : t < a.Tiles.length) (hd : d < 4) : 0 ≤ sideN a t d ∧ sideN a t d ≤ a.Glues.length :=
  okSet_side h ht _ (List.mem_of_getElem? (side_at h ht hd))
theorem dirs {d : Nat} (h : d < 4) : IntKind.i64.wrap ((d : Int) + 2) = ((d + 2 : Nat) : Int) ∧ ((d + 2 : Nat) : Int).tmod 4 = (((d + 2) % 4 : Nat) : Int) := ⟨by rw [wrI (by omega) (by omega)]; rfl, rfl⟩
def code_impl_opposite : VCode := (.seq (.ops [
  ⟨(some 2), none, (.asg (.const (.int .i64 0)))⟩]) (.seq (.ops [
  ⟨(some 3), none, (.mv (.tmp 0))⟩,
  ⟨(some 4), none, (.bin .add (.tmp 3) (.const (.int .i64 2)))⟩,
  ⟨(some 5), none, (.bin .rem (.tmp 4) (.const (.int .i64 4)))⟩,
  ⟨(some 2), none, (.asg (.tmp 5))⟩]) .ret))
theorem law_impl_opposite {a0 d : D} (h : code_impl_opposite.wp (CT Try.prog NoG) (endQ [(.t 2)] d) [a0, .undef, .undef, .undef, .undef, .undef]) : Contract Try.prog NoG 45 [a0] d :=
  contract_of (pt := 0) noG Try.func45 (fun us W => by kernel_rfl) (c := Try.f45.body.getD .skip) (ms := []) (ms' := []) (by kernel_rfl) (by kernel_rfl) (by kernel_rfl) h
theorem v_opposite (d : Nat) (hd : d < 4) : Contract Try.prog NoG 45 [.v (.int .i64 (d : Int))] (.v (.int .i64 (((d + 2) % 4 : Nat) : Int))) := by refine law_impl_opposite ?_; unfold code_impl_opposite; obtain ⟨h1, h2⟩ := dirs hd; simp -implicitDefEqProofs (disch := omega) only [go_sem, ↓reduceIte , h1, h2, Int.reduceEq]
def code_spec_l01Dir : VCode := (.seq (.ops [
  ⟨(some 2), none, (.asg (.const (.bool false)))⟩]) (.seq (.ops [
  ⟨(some 3), none, (.mv (.tmp 0))⟩,
  ⟨(some 4), none, (.callX 35 [(.tmp 3), (.const (.int .i64 0)), (.const (.int .i64 3))])⟩,
  ⟨(some 2), none, (.asg (.tmp 4))⟩]) .ret))
theorem law_spec_l01Dir {a0 d : D} (h : code_spec_l01Dir.wp (CT Try.prog NoG) (endQ [(.t 2)] d) [a0, .undef, .undef, .undef, .undef]) : Contract Try.prog NoG 40 [a0] d :=
  contract_of (pt := 0) noG Try.func40 (fun us W => by kernel_rfl) (c := Try.f40.body.getD .skip) (ms := []) (ms' := []) (by kernel_rfl) (by kernel_rfl) (by kernel_rfl) h
def code_spec_Opposite : VCode := (.seq (.ops [
  ⟨(some 2), none, (.asg (.const (.int .i64 0)))⟩]) (.seq (.seq (.ops [
  ⟨(some 3), none, (.mv (.tmp 0))⟩,
  ⟨(some 4), none, (.callX 40 [(.tmp 3)])⟩,
  ⟨(some 5), none, (.un .not (.tmp 4))⟩]) (.cond (.tmp 5) (.seq (.ops [
  ⟨(some 2), none, (.asg (.const (.int .i64 (-1))))⟩]) .ret) .skip)) (.seq (.ops [
  ⟨(some 6), none, (.mv (.tmp 0))⟩,
  ⟨(some 7), none, (.bin .add (.tmp 6) (.const (.int .i64 2)))⟩,
  ⟨(some 8), none, (.bin .rem (.tmp 7) (.const (.int .i64 4)))⟩,
  ⟨(some 2), none, (.asg (.tmp 8))⟩]) .ret)))
theorem law_spec_Opposite {a0 d : D} (h : code_spec_Opposite.wp (CT Try.prog NoG) (endQ [(.t 2)] d) [a0, .undef, .undef, .undef, .undef, .undef, .undef, .undef, .undef]) : Contract Try.prog NoG 80 [a0] d :=
  contract_of (pt := 0) noG Try.func80 (fun us W => by kernel_rfl) (c := Try.f80.body.getD .skip) (ms := []) (ms' := []) (by kernel_rfl) (by kernel_rfl) (by kernel_rfl) h
theorem v_l01Dir (n : Int) : Contract Try.prog NoG 40 [.v (.int .i64 n)] (.v (.bool (inR 0 3 n))) := by refine law_spec_l01Dir ?_; unfold code_spec_l01Dir; simp -implicitDefEqProofs (disch := omega) only [go_sem, ↓reduceIte]; refine call_B (v_l00In n 0 3) (by simp -implicitDefEqProofs (disch := omega) only [go_sem, ↓reduceIte, deep, TD.rows, immLL_rI, immLL_rB8, immLL_rS, immLL_rBo, immLL_rII, immLL_rIIt]; exact rfl) ?_; simp -implicitDefEqProofs (disch := omega) only [go_sem, ↓reduceIte]
theorem v_Opposite (d : Nat) (hd : d < 4) : Contract Try.prog NoG 80 [.v (.int .i64 (d : Int))] (.v (.int .i64 (((d + 2) % 4 : Nat) : Int))) := by refine law_spec_Opposite ?_; unfold code_spec_Opposite; obtain ⟨h1, h2⟩ := dirs hd; have h3 : inR 0 3 (d : Int) = true := inR_iff.2 (by omega); simp -implicitDefEqProofs (disch := omega) only [go_sem, ↓reduceIte]; refine call_B (v_l01Dir (d : Int)) (by simp -implicitDefEqProofs (disch := omega) only [go_sem, ↓reduceIte, deep, TD.rows, immLL_rI, immLL_rB8, immLL_rS, immLL_rBo, immLL_rII, immLL_rIIt, h3, h1, h2, Int.reduceEq]; exact rfl) ?_; simp -implicitDefEqProofs (disch := omega) only [go_sem, ↓reduceIte , h3, h1, h2, Int.reduceEq]
def code_impl_TileSet_strength : VCode := (.seq (.ops [
  ⟨(some 3), none, (.box (.tmp 0))⟩,
  ⟨(some 6), none, (.asg (.const (.int .i64 0)))⟩]) (.seq (.seq (.ops [
  ⟨(some 8), none, (.fa 1 (.tmp 3))⟩,
  ⟨(some 9), none, (.load 1 false (.tmp 8))⟩,
  ⟨(some 10), none, (.mv (.tmp 1))⟩,
  ⟨(some 11), none, (.ia 2 (.tmp 9) (.tmp 10))⟩,
  ⟨(some 12), none, (.fa 1 (.tmp 11))⟩,
  ⟨(some 13), none, (.load 1 false (.tmp 12))⟩,
  ⟨(some 14), none, (.mv (.tmp 2))⟩,
  ⟨(some 15), none, (.ia 1 (.tmp 13) (.tmp 14))⟩,
  ⟨(some 16), none, (.load 1 false (.tmp 15))⟩,
  ⟨(some 7), none, (.asg (.tmp 16))⟩]) (.seq (.ops [
  ⟨(some 17), none, (.mv (.tmp 7))⟩,
  ⟨(some 18), none, (.bin .gtr (.tmp 17) (.const (.int .i64 0)))⟩]) (.cond (.tmp 18) (.seq (.ops [
  ⟨(some 19), none, (.fa 0 (.tmp 3))⟩,
  ⟨(some 20), none, (.load 1 false (.tmp 19))⟩,
  ⟨(some 21), none, (.mv (.tmp 7))⟩,
  ⟨(some 22), none, (.bin .sub (.tmp 21) (.const (.int .i64 1)))⟩,
  ⟨(some 23), none, (.ia 2 (.tmp 20) (.tmp 22))⟩,
  ⟨(some 24), none, (.fa 1 (.tmp 23))⟩,
  ⟨(some 25), none, (.load 1 false (.tmp 24))⟩,
  ⟨(some 6), none, (.asg (.tmp 25))⟩]) .ret) .skip))) (.seq (.ops [
  ⟨(some 6), none, (.asg (.const (.int .i64 0)))⟩]) .ret)))
theorem law_impl_TileSet_strength {a0 a1 a2 d : D} (h : code_impl_TileSet_strength.wp (CT Try.prog NoG) (endQ [(.t 6)] d) [a0, a1, a2, .undef, .undef, .undef, .undef, .undef, .undef, .undef, .undef, .undef, .undef, .undef, .undef, .undef, .undef, .undef, .undef, .undef, .undef, .undef, .undef, .undef, .undef, .undef]) : Contract Try.prog NoG 83 [a0, a1, a2] d :=
  contract_of (pt := 0) noG Try.func83 (fun us W => by kernel_rfl) (c := Try.f83.body.getD .skip) (ms := []) (ms' := []) (by kernel_rfl) (by kernel_rfl) (by kernel_rfl) h
theorem v_strength (a : TileSet) (h : okSet a = true) (t d : Nat) (ht : t < a.Tiles.length) (hd : d < 4) : Contract Try.prog NoG 83 [.agg (TileSet.td.d false a), .v (.int .i64 (t : Int)), .v (.int .i64 (d : Int))] (.v (.int .i64 (gStr a (sideN a t d)))) := by
  rw [TileSet.td_d]; refine law_impl_TileSet_strength ?_; unfold code_impl_TileSet_strength; have e1 := List.getElem?_eq_getElem ht; have h4 := okSet_sides4 h ht; have e2 := side_at h ht hd; have hs := side_in h ht hd; have hg := okSet_len h; have hd' : d < a.Tiles[t].Sides.length := by omega
  simp -implicitDefEqProofs (disch := omega) only [go_sem, ↓reduceIte , List.length_map, Int.toNat_natCast, Int.ofNat_lt, Int.natCast_nonneg, List.getElem?_map, Option.map_some, ht, e1, Tile.td_d, hd', e2]; refine cond_split ?_ ?_ <;> intro h0
  · have h0 : 0 < sideN a t d := (by simpa using h0); obtain ⟨n, hn⟩ : ∃ n : Nat, sideN a t d - 1 = (n : Int) := ⟨(sideN a t d - 1).toNat, by omega⟩
    have hnl : n < a.Glues.length := (by omega); have e3 := List.getElem?_eq_getElem hnl; have hw : IntKind.i64.wrap (sideN a t d - 1) = (n : Int) := (by rw [wrI (by omega) (by omega)]; exact hn); have hv : gStr a (sideN a t d) = a.Glues[n].Strength := (by unfold gStr; rw [if_pos h0, hn, Int.toNat_natCast, List.getD_eq_getElem?_getD, e3]; rfl); simp -implicitDefEqProofs (disch := omega) only [go_sem, ↓reduceIte , List.length_map, Int.toNat_natCast, Int.ofNat_lt, Int.natCast_nonneg, List.getElem?_map, Option.map_some, hw, hnl, e3, Glue.td_d, hv]
  · have h0 : ¬ 0 < sideN a t d := (by simpa using h0); have hv : gStr a (sideN a t d) = 0 := (by unfold gStr; rw [if_neg h0]); simp -implicitDefEqProofs (disch := omega) only [go_sem, ↓reduceIte , hv]
def code_spec_l02Strength : VCode := (.seq (.ops [
  ⟨(some 4), none, (.asg (.const (.int .i64 0)))⟩]) (.seq (.seq (.ops [
  ⟨(some 5), none, (.mv (.tmp 1))⟩,
  ⟨(some 6), none, (.bin .eql (.tmp 5) (.const (.int .i64 0)))⟩]) (.cond (.tmp 6) (.seq (.ops [
  ⟨(some 4), none, (.asg (.const (.int .i64 0)))⟩]) .ret) .skip)) (.seq (.ops [
  ⟨(some 7), none, (.mv (.tmp 0))⟩,
  ⟨(some 8), none, (.nilc (.tmp 7))⟩,
  ⟨(some 9), none, (.fa 0 (.tmp 8))⟩,
  ⟨(some 10), none, (.load 1 false (.tmp 9))⟩,
  ⟨(some 11), none, (.mv (.tmp 1))⟩,
  ⟨(some 12), none, (.bin .sub (.tmp 11) (.const (.int .i64 1)))⟩,
  ⟨(some 13), none, (.ia 2 (.tmp 10) (.tmp 12))⟩,
  ⟨(some 14), none, (.fa 1 (.tmp 13))⟩,
  ⟨(some 15), none, (.load 1 false (.tmp 14))⟩,
  ⟨(some 4), none, (.asg (.tmp 15))⟩]) .ret)))
theorem law_spec_l02Strength {a0 a1 d : D} (h : code_spec_l02Strength.wp (CT Try.prog NoG) (endQ [(.t 4)] d) [a0, a1, .undef, .undef, .undef, .undef, .undef, .undef, .undef, .undef, .undef, .undef, .undef, .undef, .undef, .undef]) : Contract Try.prog NoG 81 [a0, a1] d :=
  contract_of (pt := 0) noG Try.func81 (fun us W => by kernel_rfl) (c := Try.f81.body.getD .skip) (ms := []) (ms' := []) (by kernel_rfl) (by kernel_rfl) (by kernel_rfl) h
theorem v_l02Strength (a : TileSet) (h : okSet a = true) (g : Int) (h0 : 0 ≤ g) (h1 : g ≤ a.Glues.length) : Contract Try.prog NoG 81 [.iptr (TileSet.td.d false a) 0, .v (.int .i64 g)] (.v (.int .i64 (gStr a g))) := by
  rw [TileSet.td_d]; refine law_spec_l02Strength ?_; unfold code_spec_l02Strength; have hg := okSet_len h; simp -implicitDefEqProofs (disch := omega) only [go_sem, ↓reduceIte]; refine cond_split ?_ ?_ <;> intro hz
  · have hz : g = 0 := (by simpa using hz); have hv : gStr a g = 0 := (by unfold gStr; rw [if_neg (by omega)]); simp -implicitDefEqProofs (disch := omega) only [go_sem, ↓reduceIte , hv]
  · have hz : ¬ g = 0 := (by simpa using hz); obtain ⟨n, hn⟩ : ∃ n : Nat, g - 1 = (n : Int) := ⟨(g - 1).toNat, by omega⟩
    have hnl : n < a.Glues.length := (by omega); have e3 := List.getElem?_eq_getElem hnl; have hw : IntKind.i64.wrap (g - 1) = (n : Int) := (by rw [wrI (by omega) (by omega)]; exact hn); have hv : gStr a g = a.Glues[n].Strength := (by unfold gStr; rw [if_pos (by omega), hn, Int.toNat_natCast, List.getD_eq_getElem?_getD, e3]; rfl); simp -implicitDefEqProofs (disch := omega) only [go_sem, ↓reduceIte , List.length_map, Int.toNat_natCast, Int.ofNat_lt, Int.natCast_nonneg, List.getElem?_map, Option.map_some, hw, hnl, e3, Glue.td_d, hv]
def code_impl_TileSet_bond : VCode := (.seq (.ops [
  ⟨(some 4), none, (.box (.tmp 0))⟩,
  ⟨(some 8), none, (.asg (.const (.int .i64 0)))⟩]) (.seq (.seq (.draw (mB 28 268434944) [] [⟨0, (mB 28 268434944), [], ⟨(some 9), none, (.fa 1 (.tmp 4))⟩⟩, ⟨1, (mB 28 268434432), [], ⟨(some 10), none, (.load 1 false (.tmp 9))⟩⟩, ⟨2, (mB 28 268434944), [], ⟨(some 11), none, (.mv (.tmp 1))⟩⟩, ⟨3, (mB 28 268431360), [], ⟨(some 12), none, (.ia 2 (.tmp 10) (.tmp 11))⟩⟩, ⟨4, (mB 28 268427264), [], ⟨(some 13), none, (.fa 1 (.tmp 12))⟩⟩, ⟨5, (mB 28 268419072), [], ⟨(some 14), none, (.load 1 false (.tmp 13))⟩⟩, ⟨6, (mB 28 268434944), [], ⟨(some 15), none, (.mv (.tmp 2))⟩⟩, ⟨7, (mB 28 268369920), [], ⟨(some 16), none, (.ia 1 (.tmp 14) (.tmp 15))⟩⟩, ⟨8, (mB 28 268304384), [], ⟨(some 17), none, (.load 1 false (.tmp 16))⟩⟩, ⟨9, (mB 28 268434944), [], ⟨(some 18), none, (.fa 1 (.tmp 4))⟩⟩, ⟨10, (mB 28 268172800), [], ⟨(some 19), none, (.load 1 false (.tmp 18))⟩⟩, ⟨11, (mB 28 268434944), [], ⟨(some 20), none, (.mv (.tmp 3))⟩⟩, ⟨12, (mB 28 266599936), [], ⟨(some 21), none, (.ia 2 (.tmp 19) (.tmp 20))⟩⟩, ⟨13, (mB 28 264502784), [], ⟨(some 22), none, (.fa 1 (.tmp 21))⟩⟩, ⟨14, (mB 28 260308480), [], ⟨(some 23), none, (.load 1 false (.tmp 22))⟩⟩, ⟨15, (mB 28 268434944), [], ⟨(some 24), none, (.mv (.tmp 2))⟩⟩, ⟨16, (mB 28 251657728), [], ⟨(some 25), none, (.call 45 [(.tmp 24)])⟩⟩, ⟨17, (mB 28 201588224), [], ⟨(some 26), none, (.ia 1 (.tmp 23) (.tmp 25))⟩⟩, ⟨18, (mB 28 134479360), [], ⟨(some 27), none, (.load 1 false (.tmp 26))⟩⟩] [⟨(some 28), none, (.bin .eql (.tmp 17) (.tmp 27))⟩]) (.cond (.tmp 28) (.seq (.ops [
  ⟨(some 29), none, (.load 2 true (.tmp 4))⟩,
  ⟨(some 30), none, (.mv (.tmp 1))⟩,
  ⟨(some 31), none, (.mv (.tmp 2))⟩,
  ⟨(some 32), none, (.callX 83 [(.tmp 29), (.tmp 30), (.tmp 31)])⟩,
  ⟨(some 8), none, (.asg (.tmp 32))⟩]) .ret) .skip)) (.seq (.ops [
  ⟨(some 8), none, (.asg (.const (.int .i64 0)))⟩]) .ret)))
theorem law_impl_TileSet_bond {a0 a1 a2 a3 d : D} (h : code_impl_TileSet_bond.wp (CT Try.prog NoG) (endQ [(.t 8)] d) [a0, a1, a2, a3, .undef, .undef, .undef, .undef, .undef, .undef, .undef, .undef, .undef, .undef, .undef, .undef, .undef, .undef, .undef, .undef, .undef, .undef, .undef, .undef, .undef, .undef, .undef, .undef, .undef, .undef, .undef, .undef, .undef]) : Contract Try.prog NoG 44 [a0, a1, a2, a3] d :=
  contract_of (pt := 0) noG Try.func44 (fun us W => by kernel_rfl) (c := Try.f44.body.getD .skip) (ms := []) (ms' := []) (by kernel_rfl) (by kernel_rfl) (by kernel_rfl) h
set_option maxHeartbeats 1000000 in
theorem v_bond (a : TileSet) (h : okSet a = true) (t d k : Nat) (ht : t < a.Tiles.length) (hd : d < 4) (hk : k < a.Tiles.length) : Contract Try.prog NoG 44 [.agg (TileSet.td.d false a), .v (.int .i64 (t : Int)), .v (.int .i64 (d : Int)), .v (.int .i64 (k : Int))] (.v (.int .i64 (bondN a t d k))) := by
  rw [TileSet.td_d]; refine law_impl_TileSet_bond ?_; unfold code_impl_TileSet_bond; have e1 := List.getElem?_eq_getElem ht; have e2 := List.getElem?_eq_getElem hk; have h4 := okSet_sides4 h ht; have k4 := okSet_sides4 h hk; have hm : (d + 2) % 4 < 4 := Nat.mod_lt _ (by omega); have e3 := side_at h ht hd; have e4 := side_at h hk hm; have hd' : d < a.Tiles[t].Sides.length := by omega
  have hm' : (d + 2) % 4 < a.Tiles[k].Sides.length := (by omega); simp -implicitDefEqProofs (disch := omega) only [go_sem, ↓reduceIte , List.length_map, Int.toNat_natCast, Int.ofNat_lt, Int.natCast_nonneg, List.getElem?_map, Option.map_some, ht, e1, Tile.td_d, hd', e3, hk, e2]; refine call_NB (v_opposite d hd) (by simp -implicitDefEqProofs (disch := omega) only [go_sem, ↓reduceIte, deep, TD.rows, immLL_rI, immLL_rB8, immLL_rS, immLL_rBo, immLL_rII, immLL_rIIt, List.length_map, Int.toNat_natCast, Int.ofNat_lt, Int.natCast_nonneg, List.getElem?_map, Option.map_some, hm', e4]; exact rfl) ?_; simp -implicitDefEqProofs (disch := omega) only [go_sem, ↓reduceIte , List.length_map, Int.toNat_natCast, Int.ofNat_lt, Int.natCast_nonneg, List.getElem?_map, Option.map_some, hm', e4]; cases hb : decide (sideN a t d = sideN a k ((d + 2) % 4)) with
  | false => have hv : bondN a t d k = 0 := (by unfold bondN; rw [if_neg (of_decide_eq_false hb)]); simp -implicitDefEqProofs (disch := omega) only [go_sem, ↓reduceIte , hv]
  | true => have hv : bondN a t d k = gStr a (sideN a t d) := (by unfold bondN; rw [if_pos (of_decide_eq_true hb)]); simp -implicitDefEqProofs (disch := omega) only [go_sem, ↓reduceIte]; refine call_B (v_strength a h t d ht hd) (by simp -implicitDefEqProofs (disch := omega) only [go_sem, ↓reduceIte, deep, TD.rows, immLL_rI, immLL_rB8, immLL_rS, immLL_rBo, immLL_rII, immLL_rIIt, hv]; exact rfl) ?_; simp -implicitDefEqProofs (disch := omega) only [go_sem, ↓reduceIte , hv]
def code_spec_l02Bond : VCode := (.seq (.ops [
  ⟨(some 8), none, (.asg (.const (.int .i64 0)))⟩]) (.seq (.ops [
  ⟨(some 10), none, (.mv (.tmp 0))⟩,
  ⟨(some 11), none, (.nilc (.tmp 10))⟩,
  ⟨(some 12), none, (.fa 1 (.tmp 11))⟩,
  ⟨(some 13), none, (.load 1 false (.tmp 12))⟩,
  ⟨(some 14), none, (.mv (.tmp 1))⟩,
  ⟨(some 15), none, (.ia 2 (.tmp 13) (.tmp 14))⟩,
  ⟨(some 16), none, (.fa 1 (.tmp 15))⟩,
  ⟨(some 17), none, (.load 1 false (.tmp 16))⟩,
  ⟨(some 18), none, (.mv (.tmp 2))⟩,
  ⟨(some 19), none, (.ia 1 (.tmp 17) (.tmp 18))⟩,
  ⟨(some 20), none, (.load 1 false (.tmp 19))⟩,
  ⟨(some 9), none, (.asg (.tmp 20))⟩]) (.seq (.seq (.draw (mB 34 17177772032) [] [⟨0, (mB 34 17177772032), [], ⟨(some 21), none, (.mv (.tmp 9))⟩⟩, ⟨1, (mB 34 17177772032), [], ⟨(some 22), none, (.mv (.tmp 0))⟩⟩, ⟨2, (mB 34 17173577728), [], ⟨(some 23), none, (.nilc (.tmp 22))⟩⟩, ⟨3, (mB 34 17165189120), [], ⟨(some 24), none, (.fa 1 (.tmp 23))⟩⟩, ⟨4, (mB 34 17148411904), [], ⟨(some 25), none, (.load 1 false (.tmp 24))⟩⟩, ⟨5, (mB 34 17177772032), [], ⟨(some 26), none, (.mv (.tmp 3))⟩⟩, ⟨6, (mB 34 17047748608), [], ⟨(some 27), none, (.ia 2 (.tmp 25) (.tmp 26))⟩⟩, ⟨7, (mB 34 16913530880), [], ⟨(some 28), none, (.fa 1 (.tmp 27))⟩⟩, ⟨8, (mB 34 16645095424), [], ⟨(some 29), none, (.load 1 false (.tmp 28))⟩⟩, ⟨9, (mB 34 17177772032), [], ⟨(some 30), none, (.mv (.tmp 2))⟩⟩, ⟨10, (mB 34 16104030208), [], ⟨(some 31), none, (.call 80 [(.tmp 30)])⟩⟩, ⟨11, (mB 34 12886999040), [], ⟨(some 32), none, (.ia 1 (.tmp 29) (.tmp 31))⟩⟩, ⟨12, (mB 34 8592031744), [], ⟨(some 33), none, (.load 1 false (.tmp 32))⟩⟩] [⟨(some 34), none, (.bin .neq (.tmp 21) (.tmp 33))⟩]) (.cond (.tmp 34) (.seq (.ops [
  ⟨(some 8), none, (.asg (.const (.int .i64 0)))⟩]) .ret) .skip)) (.seq (.ops [
  ⟨(some 35), none, (.mv (.tmp 0))⟩,
  ⟨(some 36), none, (.mv (.tmp 9))⟩,
  ⟨(some 37), none, (.callX 81 [(.tmp 35), (.tmp 36)])⟩,
  ⟨(some 8), none, (.asg (.tmp 37))⟩]) .ret))))
theorem law_spec_l02Bond {a0 a1 a2 a3 d : D} (h : code_spec_l02Bond.wp (CT Try.prog NoG) (endQ [(.t 8)] d) [a0, a1, a2, a3, .undef, .undef, .undef, .undef, .undef, .undef, .undef, .undef, .undef, .undef, .undef, .undef, .undef, .undef, .undef, .undef, .undef, .undef, .undef, .undef, .undef, .undef, .undef, .undef, .undef, .undef, .undef, .undef, .undef, .undef, .undef, .undef, .undef, .undef]) : Contract Try.prog NoG 41 [a0, a1, a2, a3] d :=
  contract_of (pt := 0) noG Try.func41 (fun us W => by kernel_rfl) (c := Try.f41.body.getD .skip) (ms := []) (ms' := []) (by kernel_rfl) (by kernel_rfl) (by kernel_rfl) h
set_option maxHeartbeats 1000000 in
theorem v_l02Bond (a : TileSet) (h : okSet a = true) (t d k : Nat) (ht : t < a.Tiles.length) (hd : d < 4) (hk : k < a.Tiles.length) : Contract Try.prog NoG 41 [.iptr (TileSet.td.d false a) 0, .v (.int .i64 (t : Int)), .v (.int .i64 (d : Int)), .v (.int .i64 (k : Int))] (.v (.int .i64 (bondN a t d k))) := by
  rw [TileSet.td_d]; refine law_spec_l02Bond ?_; unfold code_spec_l02Bond; have e1 := List.getElem?_eq_getElem ht; have e2 := List.getElem?_eq_getElem hk; have h4 := okSet_sides4 h ht; have k4 := okSet_sides4 h hk; have hm : (d + 2) % 4 < 4 := Nat.mod_lt _ (by omega); have e3 := side_at h ht hd; have e4 := side_at h hk hm; have hi := side_in h ht hd; have hd' : d < a.Tiles[t].Sides.length := by omega
  have hm' : (d + 2) % 4 < a.Tiles[k].Sides.length := (by omega); simp -implicitDefEqProofs (disch := omega) only [go_sem, ↓reduceIte , List.length_map, Int.toNat_natCast, Int.ofNat_lt, Int.natCast_nonneg, List.getElem?_map, Option.map_some, ht, e1, Tile.td_d, hd', e3, hk, e2]; refine call_NB (v_Opposite d hd) (by simp -implicitDefEqProofs (disch := omega) only [go_sem, ↓reduceIte, deep, TD.rows, immLL_rI, immLL_rB8, immLL_rS, immLL_rBo, immLL_rII, immLL_rIIt, List.length_map, Int.toNat_natCast, Int.ofNat_lt, Int.natCast_nonneg, List.getElem?_map, Option.map_some, hm', e4]; exact rfl) ?_; simp -implicitDefEqProofs (disch := omega) only [go_sem, ↓reduceIte , List.length_map, Int.toNat_natCast, Int.ofNat_lt, Int.natCast_nonneg, List.getElem?_map, Option.map_some, hm', e4]; cases hb : decide (sideN a t d = sideN a k ((d + 2) % 4)) with
  | false => have hv : bondN a t d k = 0 := (by unfold bondN; rw [if_neg (of_decide_eq_false hb)]); simp -implicitDefEqProofs (disch := omega) only [go_sem, ↓reduceIte , hv]
  | true => have hv : bondN a t d k = gStr a (sideN a t d) := (by unfold bondN; rw [if_pos (of_decide_eq_true hb)]); simp -implicitDefEqProofs (disch := omega) only [go_sem, ↓reduceIte]; refine call_B (v_l02Strength a h (sideN a t d) hi.1 hi.2) (by simp -implicitDefEqProofs (disch := omega) only [go_sem, ↓reduceIte, deep, TD.rows, immLL_rI, immLL_rB8, immLL_rS, immLL_rBo, immLL_rII, immLL_rIIt, hv]; exact rfl) ?_; simp -implicitDefEqProofs (disch := omega) only [go_sem, ↓reduceIte , hv]
def code_impl_TileSet_isTile : VCode := (.seq (.ops [
  ⟨(some 2), none, (.box (.tmp 0))⟩,
  ⟨(some 4), none, (.asg (.const (.bool false)))⟩]) (.seq (.ops [
  ⟨(some 5), none, (.mv (.tmp 1))⟩,
  ⟨(some 6), none, (.fa 1 (.tmp 2))⟩,
  ⟨(some 7), none, (.load 1 false (.tmp 6))⟩,
  ⟨(some 8), none, (.len (.tmp 7))⟩,
  ⟨(some 9), none, (.callX 82 [(.tmp 5), (.tmp 8)])⟩,
  ⟨(some 4), none, (.asg (.tmp 9))⟩]) .ret))
theorem law_impl_TileSet_isTile {a0 a1 d : D} (h : code_impl_TileSet_isTile.wp (CT Try.prog NoG) (endQ [(.t 4)] d) [a0, a1, .undef, .undef, .undef, .undef, .undef, .undef, .undef, .undef]) : Contract Try.prog NoG 42 [a0, a1] d :=
  contract_of (pt := 0) noG Try.func42 (fun us W => by kernel_rfl) (c := Try.f42.body.getD .skip) (ms := []) (ms' := []) (by kernel_rfl) (by kernel_rfl) (by kernel_rfl) h
def code_impl_isDir : VCode := (.seq (.ops [
  ⟨(some 2), none, (.asg (.const (.bool false)))⟩]) (.seq (.ops [
  ⟨(some 3), none, (.mv (.tmp 0))⟩,
  ⟨(some 4), none, (.callX 32 [(.tmp 3), (.const (.int .i64 0)), (.const (.int .i64 3))])⟩,
  ⟨(some 2), none, (.asg (.tmp 4))⟩]) .ret))
theorem law_impl_isDir {a0 d : D} (h : code_impl_isDir.wp (CT Try.prog NoG) (endQ [(.t 2)] d) [a0, .undef, .undef, .undef, .undef]) : Contract Try.prog NoG 43 [a0] d :=
  contract_of (pt := 0) noG Try.func43 (fun us W => by kernel_rfl) (c := Try.f43.body.getD .skip) (ms := []) (ms' := []) (by kernel_rfl) (by kernel_rfl) (by kernel_rfl) h
def code_impl_BondOf : VCode := (.seq (.ops [
  ⟨(some 4), none, (.box (.tmp 0))⟩,
  ⟨(some 8), none, (.asg (.const (.int .i64 0)))⟩,
  ⟨(some 9), none, (.asg (.const (.int .i64 0)))⟩]) (.seq (.block 0 (.seq (.ops [
  ⟨(some 11), none, (.load 2 true (.tmp 4))⟩,
  ⟨(some 12), none, (.callX 31 [(.tmp 11)])⟩,
  ⟨(some 13), none, (.un .not (.tmp 12))⟩,
  ⟨(some 10), none, (.asg (.tmp 13))⟩]) (.cond (.tmp 10) (.seq (.ops [
  ⟨(some 8), none, (.asg (.const (.int .i64 0)))⟩,
  ⟨(some 9), none, (.asg (.const (.int .i64 1)))⟩]) .ret) (.seq (.ops [
  ⟨(some 15), none, (.load 2 true (.tmp 4))⟩,
  ⟨(some 16), none, (.mv (.tmp 1))⟩,
  ⟨(some 17), none, (.callX 42 [(.tmp 15), (.tmp 16)])⟩,
  ⟨(some 18), none, (.un .not (.tmp 17))⟩,
  ⟨(some 19), none, (.mv (.tmp 18))⟩,
  ⟨(some 20), (some (19, false)), (.load 2 true (.tmp 4))⟩,
  ⟨(some 21), (some (19, false)), (.mv (.tmp 3))⟩,
  ⟨(some 22), (some (19, false)), (.callX 42 [(.tmp 20), (.tmp 21)])⟩,
  ⟨(some 23), (some (19, false)), (.un .not (.tmp 22))⟩,
  ⟨(some 24), none, (.pick (.tmp 19) (.const (.bool true)) (.tmp 23))⟩,
  ⟨(some 25), none, (.mv (.tmp 24))⟩,
  ⟨(some 26), (some (25, false)), (.mv (.tmp 2))⟩,
  ⟨(some 27), (some (25, false)), (.callX 43 [(.tmp 26)])⟩,
  ⟨(some 28), (some (25, false)), (.un .not (.tmp 27))⟩,
  ⟨(some 29), none, (.pick (.tmp 25) (.const (.bool true)) (.tmp 28))⟩,
  ⟨(some 14), none, (.asg (.tmp 29))⟩]) (.cond (.tmp 14) (.seq (.ops [
  ⟨(some 8), none, (.asg (.const (.int .i64 0)))⟩,
  ⟨(some 9), none, (.asg (.const (.int .i64 2)))⟩]) .ret) .skip))))) (.seq (.ops [
  ⟨(some 30), none, (.load 2 true (.tmp 4))⟩,
  ⟨(some 31), none, (.mv (.tmp 1))⟩,
  ⟨(some 32), none, (.mv (.tmp 2))⟩,
  ⟨(some 33), none, (.mv (.tmp 3))⟩,
  ⟨(some 34), none, (.callX 44 [(.tmp 30), (.tmp 31), (.tmp 32), (.tmp 33)])⟩,
  ⟨(some 8), none, (.asg (.tmp 34))⟩,
  ⟨(some 9), none, (.asg (.const (.int .i64 0)))⟩]) .ret)))
theorem law_impl_BondOf {a0 a1 a2 a3 d : D} (h : code_impl_BondOf.wp (CT Try.prog NoG) (endQ [(.t 8), (.t 9)] d) [a0, a1, a2, a3, .undef, .undef, .undef, .undef, .undef, .undef, .undef, .undef, .undef, .undef, .undef, .undef, .undef, .undef, .undef, .undef, .undef, .undef, .undef, .undef, .undef, .undef, .undef, .undef, .undef, .undef, .undef, .undef, .undef, .undef, .undef]) : Contract Try.prog NoG 15 [a0, a1, a2, a3] d :=
  contract_of (pt := 0) noG Try.func15 (fun us W => by kernel_rfl) (c := Try.f15.body.getD .skip) (ms := []) (ms' := []) (by kernel_rfl) (by kernel_rfl) (by kernel_rfl) h
theorem v_isTileB (a : TileSet) (i : Int) (hn : a.Tiles.length ≤ 1048576) : Contract Try.prog NoG 42 [.agg (TileSet.td.d false a), .v (.int .i64 i)] (.v (.bool (inR 0 ((a.Tiles.length : Int) - 1) i))) := by rw [TileSet.td_d]; refine law_impl_TileSet_isTile ?_; unfold code_impl_TileSet_isTile; simp -implicitDefEqProofs (disch := omega) only [go_sem, ↓reduceIte , List.length_map]; refine call_B (v_isIndex i a.Tiles.length (by omega) (by omega)) (by simp -implicitDefEqProofs (disch := omega) only [go_sem, ↓reduceIte, deep, TD.rows, immLL_rI, immLL_rB8, immLL_rS, immLL_rBo, immLL_rII, immLL_rIIt]; exact rfl) ?_; simp -implicitDefEqProofs (disch := omega) only [go_sem, ↓reduceIte]
theorem v_isDirB (n : Int) : Contract Try.prog NoG 43 [.v (.int .i64 n)] (.v (.bool (inR 0 3 n))) := by refine law_impl_isDir ?_; unfold code_impl_isDir; simp -implicitDefEqProofs (disch := omega) only [go_sem, ↓reduceIte]; refine call_B (v_within _ _ _) (by simp -implicitDefEqProofs (disch := omega) only [go_sem, ↓reduceIte, deep, TD.rows, immLL_rI, immLL_rB8, immLL_rS, immLL_rBo, immLL_rII, immLL_rIIt]; exact rfl) ?_; simp -implicitDefEqProofs (disch := omega) only [go_sem, ↓reduceIte]
set_option maxHeartbeats 1000000 in
theorem v_BondOf_impl (a : TileSet) (hB : setB a) (h : okSet a = true) (t d k : Nat) (ht : t < a.Tiles.length) (hd : d < 4) (hk : k < a.Tiles.length) : Contract Try.prog NoG 15 [.agg (TileSet.td.d false a), .v (.int .i64 (t : Int)), .v (.int .i64 (d : Int)), .v (.int .i64 (k : Int))] (.tup [.v (.int .i64 (bondN a t d k)), .v (.int .i64 0)]) := by have hat := hB.t; have h1 : inR 0 ((a.Tiles.length : Int) - 1) (t : Int) = true := inR_iff.2 (by omega); have h2 : inR 0 ((a.Tiles.length : Int) - 1) (k : Int) = true := inR_iff.2 (by omega); have h3 : inR 0 3 (d : Int) = true := inR_iff.2 (by omega); rw [TileSet.td_d]; refine law_impl_BondOf ?_; unfold code_impl_BondOf; simp -implicitDefEqProofs (disch := omega) only [go_sem, ↓reduceIte]; refine call_B (v_ValidSet a hB) (by simp -implicitDefEqProofs (disch := omega) only [go_sem, ↓reduceIte, deep, TD.rows, immLL_rI, immLL_rB8, immLL_rS, immLL_rBo, immLL_rII, immLL_rIIt, h]; exact rfl) ?_; simp -implicitDefEqProofs (disch := omega) only [go_sem, ↓reduceIte , h]; refine call_B (v_isTileB a (t : Int) hat) (by simp -implicitDefEqProofs (disch := omega) only [go_sem, ↓reduceIte, deep, TD.rows, immLL_rI, immLL_rB8, immLL_rS, immLL_rBo, immLL_rII, immLL_rIIt, h1]; exact rfl) ?_; simp -implicitDefEqProofs (disch := omega) only [go_sem, ↓reduceIte , h1]; refine call_B (v_isTileB a (k : Int) hat) (by simp -implicitDefEqProofs (disch := omega) only [go_sem, ↓reduceIte, deep, TD.rows, immLL_rI, immLL_rB8, immLL_rS, immLL_rBo, immLL_rII, immLL_rIIt, h2]; exact rfl) ?_; simp -implicitDefEqProofs (disch := omega) only [go_sem, ↓reduceIte , h2]; refine call_B (v_isDirB (d : Int)) (by simp -implicitDefEqProofs (disch := omega) only [go_sem, ↓reduceIte, deep, TD.rows, immLL_rI, immLL_rB8, immLL_rS, immLL_rBo, immLL_rII, immLL_rIIt, h3]; exact rfl) ?_; simp -implicitDefEqProofs (disch := omega) only [go_sem, ↓reduceIte , h3]; refine call_B (v_bond a h t d k ht hd hk) (by simp -implicitDefEqProofs (disch := omega) only [go_sem, ↓reduceIte, deep, TD.rows, immLL_rI, immLL_rB8, immLL_rS, immLL_rBo, immLL_rII, immLL_rIIt]; exact rfl) ?_; simp -implicitDefEqProofs (disch := omega) only [go_sem, ↓reduceIte]
def code_spec_l02Index : VCode := (.seq (.ops [
  ⟨(some 4), none, (.asg (.const (.bool false)))⟩]) (.seq (.ops [
  ⟨(some 5), none, (.mv (.tmp 1))⟩,
  ⟨(some 6), none, (.mv (.tmp 0))⟩,
  ⟨(some 7), none, (.nilc (.tmp 6))⟩,
  ⟨(some 8), none, (.fa 1 (.tmp 7))⟩,
  ⟨(some 9), none, (.load 1 false (.tmp 8))⟩,
  ⟨(some 10), none, (.len (.tmp 9))⟩,
  ⟨(some 11), none, (.bin .sub (.tmp 10) (.const (.int .i64 1)))⟩,
  ⟨(some 12), none, (.callX 35 [(.tmp 5), (.const (.int .i64 0)), (.tmp 11)])⟩,
  ⟨(some 4), none, (.asg (.tmp 12))⟩]) .ret))
theorem law_spec_l02Index {a0 a1 d : D} (h : code_spec_l02Index.wp (CT Try.prog NoG) (endQ [(.t 4)] d) [a0, a1, .undef, .undef, .undef, .undef, .undef, .undef, .undef, .undef, .undef, .undef, .undef]) : Contract Try.prog NoG 39 [a0, a1] d :=
  contract_of (pt := 0) noG Try.func39 (fun us W => by kernel_rfl) (c := Try.f39.body.getD .skip) (ms := []) (ms' := []) (by kernel_rfl) (by kernel_rfl) (by kernel_rfl) h
def code_spec_BondOf : VCode := (.seq (.ops [
  ⟨(some 4), none, (.box (.tmp 0))⟩,
  ⟨(some 8), none, (.asg (.const (.int .i64 0)))⟩,
  ⟨(some 9), none, (.asg (.const (.int .i64 0)))⟩]) (.seq (.seq (.ops [
  ⟨(some 10), none, (.callX 34 [(.tmp 4)])⟩,
  ⟨(some 11), none, (.un .not (.tmp 10))⟩]) (.cond (.tmp 11) (.seq (.ops [
  ⟨(some 8), none, (.asg (.const (.int .i64 0)))⟩,
  ⟨(some 9), none, (.asg (.const (.int .i64 1)))⟩]) .ret) .skip)) (.seq (.seq (.ops [
  ⟨(some 12), none, (.mv (.tmp 1))⟩,
  ⟨(some 13), none, (.callX 39 [(.tmp 4), (.tmp 12)])⟩,
  ⟨(some 14), none, (.un .not (.tmp 13))⟩,
  ⟨(some 15), none, (.mv (.tmp 14))⟩,
  ⟨(some 16), (some (15, false)), (.mv (.tmp 2))⟩,
  ⟨(some 17), (some (15, false)), (.callX 40 [(.tmp 16)])⟩,
  ⟨(some 18), (some (15, false)), (.un .not (.tmp 17))⟩,
  ⟨(some 19), none, (.pick (.tmp 15) (.const (.bool true)) (.tmp 18))⟩,
  ⟨(some 20), none, (.mv (.tmp 19))⟩,
  ⟨(some 21), (some (20, false)), (.mv (.tmp 3))⟩,
  ⟨(some 22), (some (20, false)), (.callX 39 [(.tmp 4), (.tmp 21)])⟩,
  ⟨(some 23), (some (20, false)), (.un .not (.tmp 22))⟩,
  ⟨(some 24), none, (.pick (.tmp 20) (.const (.bool true)) (.tmp 23))⟩]) (.cond (.tmp 24) (.seq (.ops [
  ⟨(some 8), none, (.asg (.const (.int .i64 0)))⟩,
  ⟨(some 9), none, (.asg (.const (.int .i64 2)))⟩]) .ret) .skip)) (.seq (.ops [
  ⟨(some 25), none, (.mv (.tmp 1))⟩,
  ⟨(some 26), none, (.mv (.tmp 2))⟩,
  ⟨(some 27), none, (.mv (.tmp 3))⟩,
  ⟨(some 28), none, (.callX 41 [(.tmp 4), (.tmp 25), (.tmp 26), (.tmp 27)])⟩,
  ⟨(some 8), none, (.asg (.tmp 28))⟩,
  ⟨(some 9), none, (.asg (.const (.int .i64 0)))⟩]) .ret))))
theorem law_spec_BondOf {a0 a1 a2 a3 d : D} (h : code_spec_BondOf.wp (CT Try.prog NoG) (endQ [(.t 8), (.t 9)] d) [a0, a1, a2, a3, .undef, .undef, .undef, .undef, .undef, .undef, .undef, .undef, .undef, .undef, .undef, .undef, .undef, .undef, .undef, .undef, .undef, .undef, .undef, .undef, .undef, .undef, .undef, .undef, .undef]) : Contract Try.prog NoG 14 [a0, a1, a2, a3] d :=
  contract_of (pt := 0) noG Try.func14 (fun us W => by kernel_rfl) (c := Try.f14.body.getD .skip) (ms := []) (ms' := []) (by kernel_rfl) (by kernel_rfl) (by kernel_rfl) h
theorem v_l02IndexB (a : TileSet) (i : Int) (hn : a.Tiles.length ≤ 1048576) : Contract Try.prog NoG 39 [.iptr (TileSet.td.d false a) 0, .v (.int .i64 i)] (.v (.bool (inR 0 ((a.Tiles.length : Int) - 1) i))) := by rw [TileSet.td_d]; refine law_spec_l02Index ?_; unfold code_spec_l02Index; have hw : IntKind.i64.wrap ((a.Tiles.length : Int) - 1) = (a.Tiles.length : Int) - 1 := wrI (by omega) (by omega); simp -implicitDefEqProofs (disch := omega) only [go_sem, ↓reduceIte , List.length_map, hw]; refine call_B (v_l00In _ _ _) (by simp -implicitDefEqProofs (disch := omega) only [go_sem, ↓reduceIte, deep, TD.rows, immLL_rI, immLL_rB8, immLL_rS, immLL_rBo, immLL_rII, immLL_rIIt]; exact rfl) ?_; simp -implicitDefEqProofs (disch := omega) only [go_sem, ↓reduceIte]
set_option maxHeartbeats 1000000 in
theorem v_BondOf_spec (a : TileSet) (hB : setB a) (h : okSet a = true) (t d k : Nat) (ht : t < a.Tiles.length) (hd : d < 4) (hk : k < a.Tiles.length) : Contract Try.prog NoG 14 [.agg (TileSet.td.d false a), .v (.int .i64 (t : Int)), .v (.int .i64 (d : Int)), .v (.int .i64 (k : Int))] (.tup [.v (.int .i64 (bondN a t d k)), .v (.int .i64 0)]) := by have hat := hB.t; have h1 : inR 0 ((a.Tiles.length : Int) - 1) (t : Int) = true := inR_iff.2 (by omega); have h2 : inR 0 ((a.Tiles.length : Int) - 1) (k : Int) = true := inR_iff.2 (by omega); have h3 : inR 0 3 (d : Int) = true := inR_iff.2 (by omega); rw [TileSet.td_d]; refine law_spec_BondOf ?_; unfold code_spec_BondOf; simp -implicitDefEqProofs (disch := omega) only [go_sem, ↓reduceIte]; refine call_B (v_l02Ok a hB) (by simp -implicitDefEqProofs (disch := omega) only [go_sem, ↓reduceIte, deep, TD.rows, immLL_rI, immLL_rB8, immLL_rS, immLL_rBo, immLL_rII, immLL_rIIt, h]; exact rfl) ?_; simp -implicitDefEqProofs (disch := omega) only [go_sem, ↓reduceIte , h]; refine call_B (v_l02IndexB a (t : Int) hat) (by simp -implicitDefEqProofs (disch := omega) only [go_sem, ↓reduceIte, deep, TD.rows, immLL_rI, immLL_rB8, immLL_rS, immLL_rBo, immLL_rII, immLL_rIIt, h1]; exact rfl) ?_; simp -implicitDefEqProofs (disch := omega) only [go_sem, ↓reduceIte , h1]; refine call_B (v_l01Dir (d : Int)) (by simp -implicitDefEqProofs (disch := omega) only [go_sem, ↓reduceIte, deep, TD.rows, immLL_rI, immLL_rB8, immLL_rS, immLL_rBo, immLL_rII, immLL_rIIt, h3]; exact rfl) ?_; simp -implicitDefEqProofs (disch := omega) only [go_sem, ↓reduceIte , h3]; refine call_B (v_l02IndexB a (k : Int) hat) (by simp -implicitDefEqProofs (disch := omega) only [go_sem, ↓reduceIte, deep, TD.rows, immLL_rI, immLL_rB8, immLL_rS, immLL_rBo, immLL_rII, immLL_rIIt, h2]; exact rfl) ?_; simp -implicitDefEqProofs (disch := omega) only [go_sem, ↓reduceIte , h2]; refine call_B (v_l02Bond a h t d k ht hd hk) (by simp -implicitDefEqProofs (disch := omega) only [go_sem, ↓reduceIte, deep, TD.rows, immLL_rI, immLL_rB8, immLL_rS, immLL_rBo, immLL_rII, immLL_rIIt]; exact rfl) ?_; simp -implicitDefEqProofs (disch := omega) only [go_sem, ↓reduceIte]
def nG (k : Nat) : ByteArray := ⟨⟨[103]⟩⟩ ++ decS (k : Int)
def nT (k : Nat) : ByteArray := ⟨⟨[116]⟩⟩ ++ decS (k : Int)
def drG : Nat → Src → Src × List Glue
  | 0, s => (s, [])
  | k + 1, s => (pickN (drG k s).1 2, (drG k s).2 ++ [⟨nG k, 1 + pickV (drG k s).1 2⟩])
def drS1 (g : Int) (p : Src × List Int) : Src × List Int := if pickV p.1 3 = 0 then (pickN p.1 3, p.2 ++ [0]) else (pickN (pickN p.1 3) g, p.2 ++ [1 + pickV (pickN p.1 3) g])
def drS (g : Int) : Nat → Src → Src × List Int
  | 0, s => (s, [])
  | k + 1, s => drS1 g (drS g k s)
def drT (g : Int) : Nat → Src → Src × List Tile
  | 0, s => (s, [])
  | k + 1, s => ((drS g 4 (drT g k s).1).1, (drT g k s).2 ++ [⟨nT k, (drS g 4 (drT g k s).1).2⟩])
theorem drG_B : ∀ (k m : Nat) (s : Src), SrcB (m + 2 * k) s → SrcB m (drG k s).1
  | 0, m, s, h => h.mono (by omega)
  | k + 1, m, s, h => SrcB.pick (drG_B k (m + 2) s (h.mono (by omega))) 2
theorem drG_len : ∀ (k : Nat) (s : Src), (drG k s).2.length = k
  | 0, _ => rfl
  | k + 1, s => by simp [drG, drG_len k s]
theorem drS_B (g : Int) : ∀ (k m : Nat) (s : Src), SrcB (m + 4 * k) s → SrcB m (drS g k s).1
  | 0, m, s, h => h.mono (by omega)
  | k + 1, m, s, h => by
    have h1 := drS_B g k (m + 4) s (h.mono (by omega)); have h2 : SrcB (m + 2) (pickN (drS g k s).1 3) := SrcB.pick h1 3; show SrcB m (drS1 g (drS g k s)).1; unfold drS1; split
    · exact h2.mono (by omega)
    · exact SrcB.pick h2 g
theorem drS_len (g : Int) : ∀ (k : Nat) (s : Src), (drS g k s).2.length = k
  | 0, _ => rfl
  | k + 1, s => by have := drS_len g k s; show (drS1 g (drS g k s)).2.length = _; unfold drS1; split <;> simp [this]
theorem drT_B (g : Int) : ∀ (k m : Nat) (s : Src), SrcB (m + 16 * k) s → SrcB m (drT g k s).1
  | 0, m, s, h => h.mono (by omega)
  | k + 1, m, s, h => drS_B g 4 m _ ((drT_B g k (m + 16) s (h.mono (by omega))).mono (by omega))
theorem drT_len (g : Int) : ∀ (k : Nat) (s : Src), (drT g k s).2.length = k
  | 0, _ => rfl
  | k + 1, s => by simp [drT, drT_len g k s]
theorem nG_size (k : Nat) (hk : k ≤ 1048576) : (nG k).size ≤ 21 := by have h1 : (nG k).size = (⟨⟨[103]⟩⟩ : ByteArray).size + (decS (k : Int)).size := ByteArray.size_append; have h2 := decS_size (k : Int) ⟨by show (-9223372036854775808 : Int) ≤ _; omega, by show _ ≤ (9223372036854775807 : Int); omega⟩; have h3 : (⟨⟨[103]⟩⟩ : ByteArray).size = 1 := rfl; omega
theorem nT_size (k : Nat) (hk : k ≤ 1048576) : (nT k).size ≤ 21 := by have h1 : (nT k).size = (⟨⟨[116]⟩⟩ : ByteArray).size + (decS (k : Int)).size := ByteArray.size_append; have h2 := decS_size (k : Int) ⟨by show (-9223372036854775808 : Int) ≤ _; omega, by show _ ≤ (9223372036854775807 : Int); omega⟩; have h3 : (⟨⟨[116]⟩⟩ : ByteArray).size = 1 := rfl; omega
theorem inI {x : Int} (h : -1000000000 ≤ x ∧ x ≤ 1000000000) : InK .i64 x := ⟨by show (-9223372036854775808 : Int) ≤ _; omega, by show _ ≤ (9223372036854775807 : Int); omega⟩
/-! what is drawn is in order, and small -/
def glB (g : Glue) : Prop := g.Name.size ≤ 100 ∧ InK .i64 g.Strength
def tlB (t : Tile) : Prop := t.Name.size ≤ 100 ∧ t.Sides.length ≤ 4 ∧ ∀ x, x ∈ t.Sides → InK .i64 x
theorem drG_in : ∀ (k : Nat) (s : Src), k ≤ 1048576 → SrcB (2 * k) s → ∀ g, g ∈ (drG k s).2 → glB g
  | 0, _, _, _, g, hg => by cases hg
  | k + 1, s, hk, h, g, hg => by
    rcases List.mem_append.1 hg with hg | hg
    · exact drG_in k s (by omega) (h.mono (by omega)) g hg
    · obtain rfl : g = _ := (by simpa using hg); have h1 : SrcB 2 (drG k s).1 := drG_B k 2 s (h.mono (by omega)); have := pickV_in (k := 0) h1 (n := 2) (by omega); exact ⟨Nat.le_trans (nG_size k (by omega)) (by omega), inI (x := 1 + pickV (drG k s).1 2) (by omega)⟩
theorem drS_in {g : Int} (h1 : 1 ≤ g) (h2 : g ≤ 1048576) : ∀ (k : Nat) (s : Src), SrcB (4 * k) s → ∀ x, x ∈ (drS g k s).2 → InK .i64 x
  | 0, _, _, x, hx => by cases hx
  | k + 1, s, h, x, hx => by
    have ih := drS_in h1 h2 k s (h.mono (by omega)) x; have hb : SrcB (2 + 2) (drS g k s).1 := drS_B g k 4 s (h.mono (by omega)); have hb2 : SrcB 2 (pickN (drS g k s).1 3) := SrcB.pick hb 3; have hp := pickV_in (k := 0) hb2 (n := g) h1
    replace hx : x ∈ (drS1 g (drS g k s)).2 := hx
    unfold drS1 at hx; split at hx
    · rcases List.mem_append.1 hx with hx | hx
      · exact ih hx
      · obtain rfl : x = 0 := (by simpa using hx); exact ⟨by decide, by decide⟩
    · rcases List.mem_append.1 hx with hx | hx
      · exact ih hx
      · obtain rfl : x = _ := (by simpa using hx); exact ⟨by show (-9223372036854775808 : Int) ≤ _; omega, by show _ ≤ (9223372036854775807 : Int); omega⟩
theorem drT_in {g : Int} (h1 : 1 ≤ g) (h2 : g ≤ 1048576) : ∀ (k : Nat) (s : Src), k ≤ 1048576 → SrcB (16 * k) s → ∀ t, t ∈ (drT g k s).2 → tlB t
  | 0, _, _, _, t, ht => by cases ht
  | k + 1, s, hk, h, t, ht => by
    rcases List.mem_append.1 ht with ht | ht
    · exact drT_in h1 h2 k s (by omega) (h.mono (by omega)) t ht
    · obtain rfl : t = _ := (by simpa using ht); have hb : SrcB 16 (drT g k s).1 := drT_B g k 16 s (h.mono (by omega)); exact ⟨Nat.le_trans (nT_size k (by omega)) (by omega), by show (drS g 4 _).2.length ≤ 4; rw [drS_len]; omega, drS_in h1 h2 4 _ hb⟩
theorem rows_snocG (xs : List Glue) (x : Glue) : (xs ++ [x]).map (Glue.td.d true) = xs.map (Glue.td.d true) ++ [[.v (.string x.Name), .v (.int .i64 x.Strength)]] := by rw [List.map_append]; rfl
theorem rows_snocT (xs : List Tile) (x : Tile) : (xs ++ [x]).map (Tile.td.d true) = xs.map (Tile.td.d true) ++ [[.v (.string x.Name), .sl true 1 (x.Sides.map rI)]] := by rw [List.map_append]; rfl
theorem rows_snocI (xs : List Int) (x : Int) : (xs ++ [x]).map rI = xs.map rI ++ [[.v (.int .i64 x)]] := by rw [List.map_append]; rfl
def drN (s : Src) : Nat := (1 + pickV s 5).toNat
def drA1 (s : Src) (t : Nat) : Src := (drT (drN s : Int) t (drG (drN s) (pickN s 5)).1).1
def drA (s : Src) (t : Nat) : TileSet := ⟨(drG (drN s) (pickN s 5)).2, (drT (drN s : Int) t (drG (drN s) (pickN s 5)).1).2⟩
theorem drN_in {k : Nat} {s : Src} (h : SrcB (k + 2) s) : 1 + pickV s 5 = (drN s : Int) ∧ 1 ≤ drN s ∧ drN s ≤ 5 := by have := pickV_in h (n := 5) (by omega); unfold drN; omega
def code_spec_l02Draw : VCode := (.seq (.ops [
  ⟨(some 4), none, (.alloc [(.slice none 0 0), (.slice none 0 0)])⟩]) (.seq (.ops [
  ⟨(some 11), none, (.build [(.slice none 0 0), (.slice none 0 0)] [])⟩,
  ⟨(some 5), none, (.alloc [(.slice none 0 0), (.slice none 0 0)])⟩,
  ⟨none, none, (.store 2 (.tmp 5) (.tmp 11))⟩]) (.seq (.ops [
  ⟨(some 12), none, (.mv (.tmp 0))⟩,
  ⟨(some 13), none, (.callX 30 [(.tmp 12), (.const (.int .i64 5))])⟩,
  ⟨(some 14), none, (.bin .add (.const (.int .i64 1)) (.tmp 13))⟩,
  ⟨(some 6), none, (.asg (.tmp 14))⟩]) (.seq (.seq (.ops [
  ⟨(some 7), none, (.asg (.const (.int .i64 0)))⟩]) (.block 0 (.loop (mB 68 295147905179352825612) (.seq (.seq (.ops [
  ⟨(some 15), none, (.mv (.tmp 7))⟩,
  ⟨(some 16), none, (.mv (.tmp 6))⟩,
  ⟨(some 17), none, (.bin .lss (.tmp 15) (.tmp 16))⟩]) (.cond (.tmp 17) .skip (.exit 0))) (.seq (.block 1 (.drawT (.h 0 ⟨(some 20), none, (.fa 0 (.tmp 5))⟩ (.h 2 ⟨(some 22), none, (.mv (.tmp 7))⟩ (.h 5 ⟨(some 25), none, (.mv (.tmp 0))⟩ (.br 1 ⟨(some 21), none, (.load 1 false (.tmp 20))⟩ (.br 3 ⟨(some 23), none, (.callX 70 [(.tmp 22)])⟩ (.h 4 ⟨(some 24), none, (.bin .add (.const (.string ⟨⟨[103]⟩⟩)) (.tmp 23))⟩ (.br 6 ⟨(some 26), none, (.callX 30 [(.tmp 25), (.const (.int .i64 2))])⟩ (.h 7 ⟨(some 27), none, (.bin .add (.const (.int .i64 1)) (.tmp 26))⟩ (.br 8 ⟨(some 28), none, (.build [(.string ⟨⟨[]⟩⟩), (.int .i64 0)] [(0, 1, (.tmp 24)), (1, 1, (.tmp 27))])⟩ (.br 9 ⟨(some 29), none, (.bsl 2 [(.tmp 28)])⟩ .done .nil) .nil)) .nil)) .nil) (.br 3 ⟨(some 23), none, (.callX 70 [(.tmp 22)])⟩ (.h 4 ⟨(some 24), none, (.bin .add (.const (.string ⟨⟨[103]⟩⟩)) (.tmp 23))⟩ (.br 1 ⟨(some 21), none, (.load 1 false (.tmp 20))⟩ (.br 6 ⟨(some 26), none, (.callX 30 [(.tmp 25), (.const (.int .i64 2))])⟩ (.h 7 ⟨(some 27), none, (.bin .add (.const (.int .i64 1)) (.tmp 26))⟩ (.br 8 ⟨(some 28), none, (.build [(.string ⟨⟨[]⟩⟩), (.int .i64 0)] [(0, 1, (.tmp 24)), (1, 1, (.tmp 27))])⟩ (.br 9 ⟨(some 29), none, (.bsl 2 [(.tmp 28)])⟩ .done .nil) .nil)) .nil) (.br 6 ⟨(some 26), none, (.callX 30 [(.tmp 25), (.const (.int .i64 2))])⟩ (.h 7 ⟨(some 27), none, (.bin .add (.const (.int .i64 1)) (.tmp 26))⟩ (.br 1 ⟨(some 21), none, (.load 1 false (.tmp 20))⟩ (.br 8 ⟨(some 28), none, (.build [(.string ⟨⟨[]⟩⟩), (.int .i64 0)] [(0, 1, (.tmp 24)), (1, 1, (.tmp 27))])⟩ (.br 9 ⟨(some 29), none, (.bsl 2 [(.tmp 28)])⟩ .done .nil) .nil) (.br 8 ⟨(some 28), none, (.build [(.string ⟨⟨[]⟩⟩), (.int .i64 0)] [(0, 1, (.tmp 24)), (1, 1, (.tmp 27))])⟩ (.br 1 ⟨(some 21), none, (.load 1 false (.tmp 20))⟩ (.br 9 ⟨(some 29), none, (.bsl 2 [(.tmp 28)])⟩ .done .nil) (.br 9 ⟨(some 29), none, (.bsl 2 [(.tmp 28)])⟩ (.br 1 ⟨(some 21), none, (.load 1 false (.tmp 20))⟩ .done .nil) .nil)) .nil))) .nil))) .nil))))) [⟨(some 30), none, (.app 2 24 (.tmp 21) (.tmp 29))⟩, ⟨(some 31), none, (.fa 0 (.tmp 5))⟩, ⟨none, none, (.store 1 (.tmp 31) (.tmp 30))⟩])) (.ops [
  ⟨(some 18), none, (.mv (.tmp 7))⟩,
  ⟨(some 19), none, (.bin .add (.tmp 18) (.const (.int .i64 1)))⟩,
  ⟨(some 7), none, (.asg (.tmp 19))⟩])))))) (.seq (.seq (.ops [
  ⟨(some 8), none, (.asg (.const (.int .i64 0)))⟩]) (.block 2 (.loop (mB 68 295147905179352825484) (.seq (.seq (.ops [
  ⟨(some 32), none, (.mv (.tmp 8))⟩,
  ⟨(some 33), none, (.mv (.tmp 1))⟩,
  ⟨(some 34), none, (.bin .lss (.tmp 32) (.tmp 33))⟩]) (.cond (.tmp 34) .skip (.exit 2))) (.seq (.block 3 (.seq (.ops [
  ⟨(some 37), none, (.mv (.tmp 8))⟩,
  ⟨(some 38), none, (.callX 70 [(.tmp 37)])⟩,
  ⟨(some 39), none, (.bin .add (.const (.string ⟨⟨[116]⟩⟩)) (.tmp 38))⟩,
  ⟨(some 40), none, (.build [(.string ⟨⟨[]⟩⟩), (.slice none 0 0)] [(0, 1, (.tmp 39))])⟩,
  ⟨(some 9), none, (.alloc [(.string ⟨⟨[]⟩⟩), (.slice none 0 0)])⟩,
  ⟨none, none, (.store 2 (.tmp 9) (.tmp 40))⟩]) (.seq (.seq (.ops [
  ⟨(some 10), none, (.asg (.const (.int .i64 0)))⟩]) (.block 4 (.loop (mB 68 295147905179352823948) (.seq (.seq (.ops [
  ⟨(some 41), none, (.mv (.tmp 10))⟩,
  ⟨(some 42), none, (.bin .lss (.tmp 41) (.const (.int .i64 4)))⟩]) (.cond (.tmp 42) .skip (.exit 4))) (.seq (.block 5 (.seq (.ops [
  ⟨(some 45), none, (.mv (.tmp 0))⟩,
  ⟨(some 46), none, (.callX 57 [(.tmp 45), (.const (.int .i64 3))])⟩]) (.cond (.tmp 46) (.ops [
  ⟨(some 47), none, (.fa 1 (.tmp 9))⟩,
  ⟨(some 48), none, (.load 1 false (.tmp 47))⟩,
  ⟨(some 49), none, (.bsl 1 [(.const (.int .i64 0))])⟩,
  ⟨(some 50), none, (.app 1 8 (.tmp 48) (.tmp 49))⟩,
  ⟨(some 51), none, (.fa 1 (.tmp 9))⟩,
  ⟨none, none, (.store 1 (.tmp 51) (.tmp 50))⟩]) (.drawT (.h 0 ⟨(some 52), none, (.fa 1 (.tmp 9))⟩ (.h 2 ⟨(some 54), none, (.mv (.tmp 0))⟩ (.h 3 ⟨(some 55), none, (.mv (.tmp 6))⟩ (.br 1 ⟨(some 53), none, (.load 1 false (.tmp 52))⟩ (.br 4 ⟨(some 56), none, (.callX 30 [(.tmp 54), (.tmp 55)])⟩ (.h 5 ⟨(some 57), none, (.bin .add (.const (.int .i64 1)) (.tmp 56))⟩ (.br 6 ⟨(some 58), none, (.bsl 1 [(.tmp 57)])⟩ .done .nil)) .nil) (.br 4 ⟨(some 56), none, (.callX 30 [(.tmp 54), (.tmp 55)])⟩ (.h 5 ⟨(some 57), none, (.bin .add (.const (.int .i64 1)) (.tmp 56))⟩ (.br 1 ⟨(some 53), none, (.load 1 false (.tmp 52))⟩ (.br 6 ⟨(some 58), none, (.bsl 1 [(.tmp 57)])⟩ .done .nil) (.br 6 ⟨(some 58), none, (.bsl 1 [(.tmp 57)])⟩ (.br 1 ⟨(some 53), none, (.load 1 false (.tmp 52))⟩ .done .nil) .nil))) .nil))))) [⟨(some 59), none, (.app 1 8 (.tmp 53) (.tmp 58))⟩, ⟨(some 60), none, (.fa 1 (.tmp 9))⟩, ⟨none, none, (.store 1 (.tmp 60) (.tmp 59))⟩])))) (.ops [
  ⟨(some 43), none, (.mv (.tmp 10))⟩,
  ⟨(some 44), none, (.bin .add (.tmp 43) (.const (.int .i64 1)))⟩,
  ⟨(some 10), none, (.asg (.tmp 44))⟩])))))) (.ops [
  ⟨(some 61), none, (.fa 1 (.tmp 5))⟩,
  ⟨(some 62), none, (.load 1 false (.tmp 61))⟩,
  ⟨(some 63), none, (.load 2 true (.tmp 9))⟩,
  ⟨(some 64), none, (.bsl 2 [(.tmp 63)])⟩,
  ⟨(some 65), none, (.app 2 40 (.tmp 62) (.tmp 64))⟩,
  ⟨(some 66), none, (.fa 1 (.tmp 5))⟩,
  ⟨none, none, (.store 1 (.tmp 66) (.tmp 65))⟩])))) (.ops [
  ⟨(some 35), none, (.mv (.tmp 8))⟩,
  ⟨(some 36), none, (.bin .add (.tmp 35) (.const (.int .i64 1)))⟩,
  ⟨(some 8), none, (.asg (.tmp 36))⟩])))))) (.seq (.ops [
  ⟨(some 67), none, (.load 2 true (.tmp 5))⟩,
  ⟨none, none, (.store 2 (.tmp 4) (.tmp 67))⟩]) .ret))))))
theorem law_spec_l02Draw {a0 a1 d : D} {cells cells' : List D} (h : ∀ b, code_spec_l02Draw.wp (CT Try.prog NoG) (endX [(.c 4 2 true)] d 0 b cells') [.box (some b) cells, a1, .undef, .undef, .undef, .undef, .undef, .undef, .undef, .undef, .undef, .undef, .undef, .undef, .undef, .undef, .undef, .undef, .undef, .undef, .undef, .undef, .undef, .undef, .undef, .undef, .undef, .undef, .undef, .undef, .undef, .undef, .undef, .undef, .undef, .undef, .undef, .undef, .undef, .undef, .undef, .undef, .undef, .undef, .undef, .undef, .undef, .undef, .undef, .undef, .undef, .undef, .undef, .undef, .undef, .undef, .undef, .undef, .undef, .undef, .undef, .undef, .undef, .undef, .undef, .undef, .undef, .undef]) : ContractX Try.prog NoG 29 0 [a0, a1] cells d cells' :=
  contract_ofX (pt := 12884914176) noG Try.func29 (fun us W => by kernel_rfl) (c := Try.f29.body.getD .skip) (ms := [(mB 68 295147905179352825612), (mB 68 295147905179352825484), (mB 68 295147905179352823948)]) (ms' := []) (by kernel_rfl) (by kernel_rfl) (by kernel_rfl) (by simp) h
set_option maxHeartbeats 400000 in
theorem v_l02Draw (s : Src) (t : Nat) (ht : t ≤ 1000) (hs : SrcB (16 * t + 14) s) : ContractX Try.prog NoG 29 0 [.undef, .v (.int .i64 (t : Nat))] s.d (.agg (TileSet.td.d true (drA s t))) (drA1 s t).d := by
  rw [TileSet.td_d]; refine law_spec_l02Draw ?_; intro b; unfold code_spec_l02Draw drA drA1; obtain ⟨hn, hn1, hn5⟩ := drN_in (k := 16 * t + 12) hs; have h1 : SrcB (16 * t + 12) (pickN s 5) := SrcB.pick hs 5; generalize drN s = n at *; have hP := v_pick s 5 (hs.mono (by omega)); have hpv : pickV s 5 = (n : Int) - 1 := by omega
  have hw : IntKind.i64.wrap (1 + ((n : Int) - 1)) = (n : Int) := (by rw [wrI (by omega) (by omega)]; omega); rw [hpv] at hP; generalize pickN s 5 = s1 at *; simp only [Src.d]; simp -implicitDefEqProofs (disch := omega) only [go_sem, ↓reduceIte]; refine call_ioA (i := 0) (r := 0) (hP) rfl rfl (by simp -implicitDefEqProofs (disch := omega) only [go_sem, ↓reduceIte, deep, TD.rows, immLL_rI, immLL_rB8, immLL_rS, immLL_rBo, immLL_rII, immLL_rIIt, Src.d, hw]; exact rfl) (by repeat (first | exact leL_nil | refine leL_cons ?_ ?_ | exact le_of_eq rfl | exact le_iptrN (leL_of_eq rfl) | refine le_agg ?_ | exact le_slf rfl (TD.rows ..) | refine le_iptr ?_ | refine le_fn ?_ ?_ | exact le_nilsl_)) (by repeat (first | exact leL_nil | refine leL_cons ?_ ?_ | exact le_of_eq rfl | exact le_iptrN (leL_of_eq rfl) | refine le_agg ?_ | exact le_slf rfl (TD.rows ..) | refine le_iptr ?_ | refine le_fn ?_ ?_ | exact le_nilsl_)) (by first | exact .inr rfl | exact .inl ⟨rfl, rfl⟩ | exact .inl ⟨by simp only [D.noImm, noImmL, go_sem, TD.nims, TD.nim], by simp only [D.noImm, noImmL, go_sem, TD.nims, TD.nim, nim_rI, nim_rB8, nim_rBo, nim_rS]⟩) ?_; simp -implicitDefEqProofs (disch := omega) only [go_sem, ↓reduceIte , Src.d, hw]; refine loop_ov (by simp -implicitDefEqProofs (disch := omega) only [go_sem, ↓reduceIte]; exact rfl) (fun k : Nat => [(7, .v (.int .i64 (k : Nat))), (0, .box b (drG k s1).1.d), (5, .box none [.sl true 2 ((drG k s1).2.map (Glue.td.d true)), .sl true 2 (([] : List Tile).map (Tile.td.d true))])]) (fun _ => by simp only [ovr_nil, ovr_cons, List.set_cons_zero, List.set_cons_succ]; exact rfl) (fun k : Nat => k ≤ n) (fun k : Nat => n - k) (0) (nleA) (Nat.zero_le _) ?_; intro k hk; have hb : SrcB 2 (drG k s1).1 := drG_B k 2 s1 (h1.mono (by omega)); have hp := pickV_in (k := 0) hb (n := 2) (by omega); have hl := drG_len k s1; simp only [Src.d]; simp -implicitDefEqProofs (disch := omega) only [go_sem, ↓reduceIte]; refine cond_split ?_ ?_ <;> intro hlt
  · have hlt : k < n := (by simpa using hlt); have hD := v_Decimal_spec (k : Int) ⟨by show (-9223372036854775808 : Int) ≤ _; omega, by show _ ≤ (9223372036854775807 : Int); omega⟩; have hsz := nG_size k (by omega); have hw1 : IntKind.i64.wrap (1 + pickV (drG k s1).1 2) = 1 + pickV (drG k s1).1 2 := wrI (by omega) (by omega); have hsz2 : (decS (k : Int)).size ≤ 20 := decS_size (k : Int) ⟨by show (-9223372036854775808 : Int) ≤ _; omega, by show _ ≤ (9223372036854775807 : Int); omega⟩; have hPk := v_pick (drG k s1).1 2 hb; simp only [Src.d] at hPk; simp -implicitDefEqProofs (disch := omega) only [go_sem, ↓reduceIte]; have h103 : (⟨[103]⟩ : Array UInt8).size = 1 := rfl; have hle : 1 + (decS (k : Int)).size ≤ maxLen := (by unfold maxLen; omega); apply drawT_at
    case h =>
      intro K hK; simp -implicitDefEqProofs (disch := omega) only [go_sem, ↓reduceIte]
      repeat' (first
        | with_reducible exact hK
        | with_reducible exact hle
        | with_reducible refine And.intro ?_ ?_
        | ((with_reducible refine isCall ?_); refine call_leA (hD) (by simp -implicitDefEqProofs (disch := omega) only [go_sem, ↓reduceIte, deep, TD.rows, immLL_rI, immLL_rB8, immLL_rS, immLL_rBo, immLL_rII, immLL_rIIt, h103]; exact rfl) (by repeat (first | exact leL_nil | refine leL_cons ?_ ?_ | exact le_of_eq rfl | exact le_iptrN (leL_of_eq rfl) | refine le_agg ?_ | exact le_slf rfl (TD.rows ..) | refine le_iptr ?_ | refine le_fn ?_ ?_ | exact le_nilsl_)) (by first | exact .inl rfl | exact .inr rfl | exact .inl (by simp only [D.noImm, noImmL, go_sem, TD.nims, TD.nim, nim_rI, nim_rB8, nim_rBo, nim_rS])) ?_; simp -implicitDefEqProofs (disch := omega) only [go_sem, ↓reduceIte, h103])
        | ((with_reducible refine isCall ?_); refine call_ioA (i := 0) (r := 0) (hPk) rfl rfl (by simp -implicitDefEqProofs (disch := omega) only [go_sem, ↓reduceIte, deep, TD.rows, immLL_rI, immLL_rB8, immLL_rS, immLL_rBo, immLL_rII, immLL_rIIt, hw1, h103]; exact rfl) (by repeat (first | exact leL_nil | refine leL_cons ?_ ?_ | exact le_of_eq rfl | exact le_iptrN (leL_of_eq rfl) | refine le_agg ?_ | exact le_slf rfl (TD.rows ..) | refine le_iptr ?_ | refine le_fn ?_ ?_ | exact le_nilsl_)) (by repeat (first | exact leL_nil | refine leL_cons ?_ ?_ | exact le_of_eq rfl | exact le_iptrN (leL_of_eq rfl) | refine le_agg ?_ | exact le_slf rfl (TD.rows ..) | refine le_iptr ?_ | refine le_fn ?_ ?_ | exact le_nilsl_)) (by first | exact .inr rfl | exact .inl ⟨rfl, rfl⟩ | exact .inl ⟨by simp only [D.noImm, noImmL, go_sem, TD.nims, TD.nim], by simp only [D.noImm, noImmL, go_sem, TD.nims, TD.nim, nim_rI, nim_rB8, nim_rBo, nim_rS]⟩) ?_; simp -implicitDefEqProofs (disch := omega) only [go_sem, ↓reduceIte, hw1, h103]))
    simp -implicitDefEqProofs (disch := omega) only [go_sem, ↓reduceIte , tail_app, List.length_map, wrN]
    repeat (refine And.intro (by omega) ?_)
    refine ⟨k + 1, by omega, hlt, ?_⟩; rw [show drG (k + 1) s1 = (pickN (drG k s1).1 2, (drG k s1).2 ++ [⟨nG k, 1 + pickV (drG k s1).1 2⟩]) from rfl]; simp only; rw [rows_snocG]
    (try simp -implicitDefEqProofs only [nleL_cc, nleL_nn, nle_self, nle_boxs, nle_aggs, nle_nils, and_self, and_true, true_and]) <;> repeat' (first | exact nle_of_eq rfl | exact nle_nil | apply And.intro | apply nle_sl | apply nleLL_cons | apply nleL_cons | exact nleL_nil | exact nleLL_nil | apply nle_box | apply nle_agg)
  obtain rfl : k = n := (by have : ¬ k < n := (by simpa using hlt); omega); have h2 : SrcB (16 * t) (drG k s1).1 := drG_B k (16 * t) s1 (h1.mono (by omega)); generalize drG k s1 = gp at *; obtain ⟨s2, gs⟩ := gp; simp only at hl h2; clear hb hp; simp -implicitDefEqProofs (disch := omega) only [go_sem, ↓reduceIte]; refine loop_ov (by simp -implicitDefEqProofs (disch := omega) only [go_sem, ↓reduceIte]; exact rfl) (fun m : Nat => [(8, .v (.int .i64 (m : Nat))), (0, .box b (drT (k : Int) m s2).1.d), (5, .box none [.sl true 2 (gs.map (Glue.td.d true)), .sl true 2 ((drT (k : Int) m s2).2.map (Tile.td.d true))])]) (fun _ => by simp only [ovr_nil, ovr_cons, List.set_cons_zero, List.set_cons_succ]; exact rfl) (fun m : Nat => m ≤ t) (fun m : Nat => t - m) (0) (nleA) (Nat.zero_le _) ?_; intro m hm; have hb : SrcB 16 (drT (k : Int) m s2).1 ∨ m = t := by
    by_cases hlt : m < t
    · exact .inl (drT_B _ m 16 s2 (h2.mono (by omega)))
    · exact .inr (by omega)
  have hlT := drT_len (k : Int) m s2; simp only [Src.d]; simp -implicitDefEqProofs (disch := omega) only [go_sem, ↓reduceIte]; refine cond_split ?_ ?_ <;> intro hlt
  · have hlt : m < t := (by simpa using hlt); have hb : SrcB 16 (drT (k : Int) m s2).1 := hb.resolve_right (by omega); generalize hT : drT (k : Int) m s2 = tp at *; obtain ⟨s3, ts⟩ := tp; simp only at hb hlT; have hTn : drT (k : Int) (m + 1) s2 = ((drS (k : Int) 4 s3).1, ts ++ [⟨nT m, (drS (k : Int) 4 s3).2⟩]) := (by show ((drS (k : Int) 4 (drT (k : Int) m s2).1).1, (drT (k : Int) m s2).2 ++ [(⟨nT m, (drS (k : Int) 4 (drT (k : Int) m s2).1).2⟩ : Tile)]) = _; rw [hT]); have hD := v_Decimal_spec (m : Int) ⟨by show (-9223372036854775808 : Int) ≤ _; omega, by show _ ≤ (9223372036854775807 : Int); omega⟩; have hsz2 : (decS (m : Int)).size ≤ 20 := decS_size (m : Int) ⟨by show (-9223372036854775808 : Int) ≤ _; omega, by show _ ≤ (9223372036854775807 : Int); omega⟩; have h116 : (⟨[116]⟩ : Array UInt8).size = 1 := rfl; have hle : 1 + (decS (m : Int)).size ≤ maxLen := (by unfold maxLen; omega); simp -implicitDefEqProofs (disch := omega) only [go_sem, ↓reduceIte]; refine call_B (hD) (by simp -implicitDefEqProofs (disch := omega) only [go_sem, ↓reduceIte, deep, TD.rows, immLL_rI, immLL_rB8, immLL_rS, immLL_rBo, immLL_rII, immLL_rIIt, h116]; exact rfl) ?_; simp -implicitDefEqProofs (disch := omega) only [go_sem, ↓reduceIte , h116]; refine ⟨hle, ?_⟩; refine loop_ov (by simp -implicitDefEqProofs (disch := omega) only [go_sem, ↓reduceIte]; exact rfl) (fun d : Nat => [(10, .v (.int .i64 (d : Nat))), (0, .box b (drS (k : Int) d s3).1.d), (9, .box none [.v (.string (nT m)), .sl true 1 ((drS (k : Int) d s3).2.map rI)])]) (fun _ => by simp only [ovr_nil, ovr_cons, List.set_cons_zero, List.set_cons_succ]; exact rfl) (fun d : Nat => d ≤ 4) (fun d : Nat => 4 - d) (0) (nleA) (Nat.zero_le _) ?_; intro d hd; have hdl := drS_len (k : Int) d s3; have hdb : SrcB 4 (drS (k : Int) d s3).1 ∨ d = 4 := by
      by_cases hlt : d < 4
      · exact .inl (drS_B _ d 4 s3 (hb.mono (by omega)))
      · exact .inr (by omega)
    simp only [Src.d]; simp -implicitDefEqProofs (disch := omega) only [go_sem, ↓reduceIte]; refine cond_split ?_ ?_ <;> intro hlt4
    · have hlt4 : d < 4 := (by have := of_decide_eq_true hlt4; omega); have hdb : SrcB (2 + 2) (drS (k : Int) d s3).1 := hdb.resolve_right (by omega); have hd1 : drS (k : Int) (d + 1) s3 = drS1 (k : Int) (drS (k : Int) d s3) := rfl; generalize drS (k : Int) d s3 = dp at *; obtain ⟨s4, sd⟩ := dp; simp only at hdb hdl; unfold drS1 at hd1; simp only at hd1; simp -implicitDefEqProofs (disch := omega) only [go_sem, ↓reduceIte]; cases ho : oneV s4 3 with
      | true =>
        have ho' : pickV s4 3 = 0 := of_decide_eq_true ho; rw [if_pos ho'] at hd1; refine call_ioA (i := 0) (r := 0) (v_one s4 3 (hdb.mono (by omega))) rfl rfl (by simp -implicitDefEqProofs (disch := omega) only [go_sem, ↓reduceIte, deep, TD.rows, immLL_rI, immLL_rB8, immLL_rS, immLL_rBo, immLL_rII, immLL_rIIt, Src.d, ho, List.length_map, wrN]; exact rfl) (by repeat (first | exact leL_nil | refine leL_cons ?_ ?_ | exact le_of_eq rfl | exact le_iptrN (leL_of_eq rfl) | refine le_agg ?_ | exact le_slf rfl (TD.rows ..) | refine le_iptr ?_ | refine le_fn ?_ ?_ | exact le_nilsl_)) (by repeat (first | exact leL_nil | refine leL_cons ?_ ?_ | exact le_of_eq rfl | exact le_iptrN (leL_of_eq rfl) | refine le_agg ?_ | exact le_slf rfl (TD.rows ..) | refine le_iptr ?_ | refine le_fn ?_ ?_ | exact le_nilsl_)) (by first | exact .inr rfl | exact .inl ⟨rfl, rfl⟩ | exact .inl ⟨by simp only [D.noImm, noImmL, go_sem, TD.nims, TD.nim], by simp only [D.noImm, noImmL, go_sem, TD.nims, TD.nim, nim_rI, nim_rB8, nim_rBo, nim_rS]⟩) ?_; simp -implicitDefEqProofs (disch := omega) only [go_sem, ↓reduceIte , Src.d, ho, List.length_map, wrN]
        repeat (refine And.intro (by omega) ?_)
        refine ⟨d + 1, by omega, hlt4, ?_⟩; rw [hd1]; simp only; rw [rows_snocI]
        (try simp -implicitDefEqProofs only [nleL_cc, nleL_nn, nle_self, nle_boxs, nle_aggs, nle_nils, and_self, and_true, true_and]) <;> repeat' (first | exact nle_of_eq rfl | exact nle_nil | apply And.intro | apply nle_sl | apply nleLL_cons | apply nleL_cons | exact nleL_nil | exact nleLL_nil | apply nle_box | apply nle_agg)
      | false =>
        have ho' : ¬ pickV s4 3 = 0 := of_decide_eq_false ho; rw [if_neg ho'] at hd1; have hb5 : SrcB 2 (pickN s4 3) := SrcB.pick hdb 3; have hPk := v_pick (pickN s4 3) (k : Int) hb5; have hpi := pickV_in (k := 0) hb5 (n := (k : Int)) (by omega); have hw1 : IntKind.i64.wrap (1 + pickV (pickN s4 3) (k : Int)) = 1 + pickV (pickN s4 3) (k : Int) := wrI (by omega) (by omega); simp only [Src.d] at hPk; refine call_ioA (i := 0) (r := 0) (v_one s4 3 (hdb.mono (by omega))) rfl rfl (by simp -implicitDefEqProofs (disch := omega) only [go_sem, ↓reduceIte, deep, TD.rows, immLL_rI, immLL_rB8, immLL_rS, immLL_rBo, immLL_rII, immLL_rIIt, Src.d, ho]; exact rfl) (by repeat (first | exact leL_nil | refine leL_cons ?_ ?_ | exact le_of_eq rfl | exact le_iptrN (leL_of_eq rfl) | refine le_agg ?_ | exact le_slf rfl (TD.rows ..) | refine le_iptr ?_ | refine le_fn ?_ ?_ | exact le_nilsl_)) (by repeat (first | exact leL_nil | refine leL_cons ?_ ?_ | exact le_of_eq rfl | exact le_iptrN (leL_of_eq rfl) | refine le_agg ?_ | exact le_slf rfl (TD.rows ..) | refine le_iptr ?_ | refine le_fn ?_ ?_ | exact le_nilsl_)) (by first | exact .inr rfl | exact .inl ⟨rfl, rfl⟩ | exact .inl ⟨by simp only [D.noImm, noImmL, go_sem, TD.nims, TD.nim], by simp only [D.noImm, noImmL, go_sem, TD.nims, TD.nim, nim_rI, nim_rB8, nim_rBo, nim_rS]⟩) ?_; simp -implicitDefEqProofs (disch := omega) only [go_sem, ↓reduceIte , Src.d, ho]; apply drawT_at
        case h =>
          intro K hK; simp -implicitDefEqProofs (disch := omega) only [go_sem, ↓reduceIte]
          repeat' (first
            | with_reducible exact hK
            | with_reducible refine And.intro ?_ ?_
            | ((with_reducible refine isCall ?_); refine call_ioA (i := 0) (r := 0) (hPk) rfl rfl (by simp -implicitDefEqProofs (disch := omega) only [go_sem, ↓reduceIte, deep, TD.rows, immLL_rI, immLL_rB8, immLL_rS, immLL_rBo, immLL_rII, immLL_rIIt, hw1]; exact rfl) (by repeat (first | exact leL_nil | refine leL_cons ?_ ?_ | exact le_of_eq rfl | exact le_iptrN (leL_of_eq rfl) | refine le_agg ?_ | exact le_slf rfl (TD.rows ..) | refine le_iptr ?_ | refine le_fn ?_ ?_ | exact le_nilsl_)) (by repeat (first | exact leL_nil | refine leL_cons ?_ ?_ | exact le_of_eq rfl | exact le_iptrN (leL_of_eq rfl) | refine le_agg ?_ | exact le_slf rfl (TD.rows ..) | refine le_iptr ?_ | refine le_fn ?_ ?_ | exact le_nilsl_)) (by first | exact .inr rfl | exact .inl ⟨rfl, rfl⟩ | exact .inl ⟨by simp only [D.noImm, noImmL, go_sem, TD.nims, TD.nim], by simp only [D.noImm, noImmL, go_sem, TD.nims, TD.nim, nim_rI, nim_rB8, nim_rBo, nim_rS]⟩) ?_; simp -implicitDefEqProofs (disch := omega) only [go_sem, ↓reduceIte, hw1]))
        simp -implicitDefEqProofs (disch := omega) only [go_sem, ↓reduceIte , tail_app, List.length_map, wrN]
        repeat (refine And.intro (by omega) ?_)
        refine ⟨d + 1, by omega, hlt4, ?_⟩; rw [hd1]; simp only; rw [rows_snocI]
        (try simp -implicitDefEqProofs only [nleL_cc, nleL_nn, nle_self, nle_boxs, nle_aggs, nle_nils, and_self, and_true, true_and]) <;> repeat' (first | exact nle_of_eq rfl | exact nle_nil | apply And.intro | apply nle_sl | apply nleLL_cons | apply nleL_cons | exact nleL_nil | exact nleLL_nil | apply nle_box | apply nle_agg)
    obtain rfl : d = 4 := by have := of_decide_eq_false hlt4
                             omega
    simp -implicitDefEqProofs (disch := omega) only [go_sem, ↓reduceIte , List.length_map, wrN]
    repeat (refine And.intro (by omega) ?_)
    refine ⟨m + 1, by omega, hlt, ?_⟩; rw [hTn]; simp only; rw [rows_snocT]
    (try simp -implicitDefEqProofs only [nleL_cc, nleL_nn, nle_self, nle_boxs, nle_aggs, nle_nils, and_self, and_true, true_and]) <;> repeat' (first | exact nle_of_eq rfl | exact nle_nil | apply And.intro | apply nle_sl | apply nleLL_cons | apply nleL_cons | exact nleL_nil | exact nleLL_nil | apply nle_box | apply nle_agg)
  · obtain rfl : m = t := (by have : ¬ m < t := (by simpa using hlt); omega); simp -implicitDefEqProofs (disch := omega) only [go_sem, ↓reduceIte]
structure goodA (a : TileSet) : Prop where
  g : ∀ x, x ∈ a.Glues → glB x
  t : ∀ x, x ∈ a.Tiles → tlB x
  gl : a.Glues.length ≤ 300
  tl : a.Tiles.length ≤ 300
theorem drA_good {s : Src} {t : Nat} (ht : t ≤ 200) (h : SrcB (16 * t + 14) s) : goodA (drA s t) := by
  obtain ⟨hn, hn1, hn5⟩ := drN_in (k := 16 * t + 12) h; have h1 : SrcB (16 * t + 12) (pickN s 5) := SrcB.pick h 5; have h2 : SrcB (16 * t) (drG (drN s) (pickN s 5)).1 := drG_B _ _ _ (h1.mono (by omega)); refine ⟨drG_in _ _ (by omega) (h1.mono (by omega)), drT_in (by omega) (by omega) _ _ (by omega) h2, ?_, ?_⟩
  · show (drG _ _).2.length ≤ _; rw [drG_len]; omega
  · show (drT _ _ _).2.length ≤ _; rw [drT_len]; omega
theorem good_ok {a : TileSet} (h : goodA a) : TileSet.td.ok a := by
  rw [TileSet.td_ok]; refine ⟨fun x hx => ?_, fun x hx => ?_⟩
  · have := h.g x hx; rw [Glue.td_ok]; exact ⟨by have := this.1; unfold maxLen; omega, this.2⟩
  · have := h.t x hx; rw [Tile.td_ok]; exact ⟨by have := this.1; unfold maxLen; omega, this.2.2⟩
theorem cntL_bd {α : Type} {c : α → Nat} {B : Nat} : ∀ {xs : List α}, (∀ x, x ∈ xs → c x ≤ B) → cntL c xs ≤ xs.length * (B + 1)
  | [], _ => by simp [cntL]
  | x :: xs, h => by have ih := cntL_bd (xs := xs) (fun y hy => h y (by simp [hy])); have e : cntL c (x :: xs) = cntL c xs + (c x + 1) := (by simp only [cntL, List.length_cons, List.map_cons, List.sum_cons]; omega); have := h x (by simp); rw [e, List.length_cons, Nat.succ_mul]; omega
theorem good_cnt {a : TileSet} (h : goodA a) : TileSet.cnt a ≤ 1048576 := by
  have h3 : TileSet.cnt a = cntL Glue.cnt a.Glues + cntL Tile.cnt a.Tiles := rfl; have h1 := cntL_bd (c := Glue.cnt) (B := 100) (xs := a.Glues) (fun x hx => (h.g x hx).1); have h2 := cntL_bd (c := Tile.cnt) (B := 104) (xs := a.Tiles) (fun x hx => by
    have := h.t x hx; have e : Tile.cnt x = x.Name.size + x.Sides.length := rfl; have := this.1; have := (h.t x hx).2.1; omega)
  have h4 := h.gl; have h5 := h.tl; have h6 : a.Glues.length * (100 + 1) ≤ 300 * (100 + 1) := Nat.mul_le_mul_right _ h4; have h7 : a.Tiles.length * (104 + 1) ≤ 300 * (104 + 1) := Nat.mul_le_mul_right _ h5; omega
def bG (k : Nat) : List UInt8 := [103, UInt8.ofNat (48 + k)]
def bT (k : Nat) : List UInt8 := [116, UInt8.ofNat (48 + k)]
theorem dec_small {k : Nat} (hk : k < 10) : itoaS (k : Int) = [UInt8.ofNat (48 + k)] := by unfold itoaS Lib.itoa; rw [if_neg (by omega), Int.toNat_natCast, Lib.decDigits, dif_pos hk]
theorem nG_eq {k : Nat} (hk : k < 10) : nG k = ⟨(bG k).toArray⟩ := by unfold nG decS bG; rw [dec_small hk]; apply ByteArray.ext; simp
theorem nT_eq {k : Nat} (hk : k < 10) : nT k = ⟨(bT k).toArray⟩ := by unfold nT decS bT; rw [dec_small hk]; apply ByteArray.ext; simp
theorem bG_ok : ∀ k : Fin 10, isNameB ⟨(bG k).toArray⟩ = true := by decide
theorem bT_ok : ∀ k : Fin 10, isNameB ⟨(bT k).toArray⟩ = true := by decide
theorem bG_ne : ∀ j k : Fin 10, j ≠ k → bG j ≠ bG k := by decide
theorem bT_ne : ∀ j k : Fin 10, j ≠ k → bT j ≠ bT k := by decide
theorem nG_ne {j k : Nat} (hj : j < 10) (hk : k < 10) (h : j ≠ k) : nG j ≠ nG k := by
  rw [nG_eq hj, nG_eq hk]; intro e; have e2 : (bG j).toArray = (bG k).toArray := congrArg ByteArray.data e; have e3 : bG j = bG k := by simpa using e2
  exact bG_ne ⟨j, hj⟩ ⟨k, hk⟩ (fun e => h (congrArg Fin.val e)) e3
theorem nT_ne {j k : Nat} (hj : j < 10) (hk : k < 10) (h : j ≠ k) : nT j ≠ nT k := by
  rw [nT_eq hj, nT_eq hk]; intro e; have e2 : (bT j).toArray = (bT k).toArray := congrArg ByteArray.data e; have e3 : bT j = bT k := by simpa using e2
  exact bT_ne ⟨j, hj⟩ ⟨k, hk⟩ (fun e => h (congrArg Fin.val e)) e3
theorem drG_at : ∀ (k : Nat) (s : Src) (i : Nat), i < k → (drG k s).2[i]? = some ⟨nG i, 1 + pickV (drG i s).1 2⟩
  | 0, _, _, h => by omega
  | k + 1, s, i, h => by
    show ((drG k s).2 ++ [_])[i]? = _; by_cases hi : i < k
    · rw [List.getElem?_append_left (by rw [drG_len]; exact hi)]; exact drG_at k s i hi
    · obtain rfl : i = k := (by omega); rw [List.getElem?_append_right (by rw [drG_len]; omega), drG_len, Nat.sub_self]; rfl
theorem drT_at (g : Int) : ∀ (k : Nat) (s : Src) (i : Nat), i < k → (drT g k s).2[i]? = some ⟨nT i, (drS g 4 (drT g i s).1).2⟩
  | 0, _, _, h => by omega
  | k + 1, s, i, h => by
    show ((drT g k s).2 ++ [_])[i]? = _; by_cases hi : i < k
    · rw [List.getElem?_append_left (by rw [drT_len]; exact hi)]; exact drT_at g k s i hi
    · obtain rfl : i = k := (by omega); rw [List.getElem?_append_right (by rw [drT_len]; omega), drT_len, Nat.sub_self]; rfl
theorem drS_rng {g : Int} (h1 : 1 ≤ g) : ∀ (k : Nat) (s : Src), SrcB (4 * k) s → ∀ x, x ∈ (drS g k s).2 → 0 ≤ x ∧ x ≤ g
  | 0, _, _, x, hx => by cases hx
  | k + 1, s, h, x, hx => by
    have ih := drS_rng h1 k s (h.mono (by omega)) x; have hb : SrcB (2 + 2) (drS g k s).1 := drS_B g k 4 s (h.mono (by omega)); have hb2 : SrcB 2 (pickN (drS g k s).1 3) := SrcB.pick hb 3; have hp := pickV_in (k := 0) hb2 (n := g) h1
    replace hx : x ∈ (drS1 g (drS g k s)).2 := hx
    unfold drS1 at hx; split at hx
    · rcases List.mem_append.1 hx with hx | hx
      · exact ih hx
      · obtain rfl : x = 0 := (by simpa using hx); omega
    · rcases List.mem_append.1 hx with hx | hx
      · exact ih hx
      · obtain rfl : x = _ := (by simpa using hx); omega
theorem drA_valid {s : Src} {t : Nat} (ht : 1 ≤ t) (ht6 : t ≤ 6) (h : SrcB (16 * t + 14) s) : okSet (drA s t) = true := by
  obtain ⟨hn, hn1, hn5⟩ := drN_in (k := 16 * t + 12) h; have h1 : SrcB (16 * t + 12) (pickN s 5) := SrcB.pick h 5; unfold drA; generalize drN s = n at *; have h2 : SrcB (16 * t) (drG n (pickN s 5)).1 := drG_B _ _ _ (h1.mono (by omega)); generalize hs1 : pickN s 5 = s1 at *; generalize hs2 : (drG n s1).1 = s2 at *; have hgl := drG_len n s1; have htl := drT_len (n : Int) t s2; unfold okSet; simp only [Bool.and_eq_true, decide_eq_true_eq, inR_iff, List.all_eq_true, List.mem_range]; refine ⟨by omega, by omega, fun i hi => ?_, fun i hi => ?_⟩
  · have hi' : i < n := (by omega); have e := drG_at n s1 i hi'; have hb : SrcB 2 (drG i s1).1 := drG_B _ _ _ (h1.mono (by omega)); have hp := pickV_in (k := 0) hb (n := 2) (by omega); unfold okG; rw [e]; simp only [Bool.and_eq_true, Bool.not_eq_true', inR_iff]; refine ⟨by rw [nG_eq (by omega)]; exact bG_ok ⟨i, by omega⟩, by omega, ?_⟩; rw [List.any_eq_false]; intro x hx; obtain ⟨j, hj, rfl⟩ := List.mem_take_iff_getElem.1 hx; have ej := drG_at n s1 j (by omega); rw [List.getElem?_eq_getElem (by omega)] at ej; rw [Option.some.inj ej]; have := nG_ne (j := j) (k := i) (by omega) (by omega) (by omega); simpa using this
  · have hi' : i < t := (by omega); have e := drT_at (n : Int) t s2 i hi'; have hb : SrcB 16 (drT (n : Int) i s2).1 := drT_B _ _ _ _ (h2.mono (by omega)); unfold okT; rw [e]; simp only [Bool.and_eq_true, Bool.not_eq_true', decide_eq_true_eq]; refine ⟨by rw [nT_eq (by omega)]; exact bT_ok ⟨i, by omega⟩, drS_len _ _ _, ?_, ?_⟩
    · rw [List.any_eq_false]; intro x hx; obtain ⟨j, hj, rfl⟩ := List.mem_take_iff_getElem.1 hx; have ej := drT_at (n : Int) t s2 j (by omega); rw [List.getElem?_eq_getElem (by omega)] at ej; rw [Option.some.inj ej]; have := nT_ne (j := j) (k := i) (by omega) (by omega) (by omega); simpa using this
    · rw [List.all_eq_true]; intro x hx; rw [hgl]; exact inR_iff.2 (drS_rng (by omega) 4 _ (hb.mono (by omega)) x hx)
def code_spec_LawSet : VCode := (.seq (.ops [
  ⟨(some 2), none, (.alloc [(.slice none 0 0), (.slice none 0 0)])⟩]) (.seq (.ops [
  ⟨(some 4), none, (.mv (.tmp 0))⟩,
  ⟨(some 5), none, (.callX 28 [(.tmp 4)])⟩,
  ⟨(some 3), none, (.asg (.tmp 5))⟩]) (.seq (.ops [
  ⟨(some 6), none, (.mv (.tmp 3))⟩,
  ⟨(some 7), none, (.mv (.tmp 3))⟩,
  ⟨(some 8), none, (.callX 30 [(.tmp 7), (.const (.int .i64 6))])⟩,
  ⟨(some 9), none, (.bin .add (.const (.int .i64 1)) (.tmp 8))⟩,
  ⟨(some 10), none, (.callX 29 [(.tmp 6), (.tmp 9)])⟩,
  ⟨none, none, (.store 2 (.tmp 2) (.tmp 10))⟩]) .ret)))
theorem law_spec_LawSet {a0 d : D} (h : code_spec_LawSet.wp (CT Try.prog NoG) (endQ [(.c 2 2 true)] d) [a0, .undef, .undef, .undef, .undef, .undef, .undef, .undef, .undef, .undef, .undef]) : Contract Try.prog NoG 7 [a0] d :=
  contract_of (pt := 0) noG Try.func7 (fun us W => by kernel_rfl) (c := Try.f7.body.getD .skip) (ms := []) (ms' := []) (by kernel_rfl) (by kernel_rfl) (by kernel_rfl) h
def code_spec_LawPick : VCode := (.seq (.ops [
  ⟨(some 4), none, (.asg (.const (.int .i64 0)))⟩]) (.seq (.ops [
  ⟨(some 5), none, (.mv (.tmp 0))⟩,
  ⟨(some 6), none, (.callX 28 [(.tmp 5)])⟩,
  ⟨(some 7), none, (.mv (.tmp 1))⟩,
  ⟨(some 8), none, (.callX 30 [(.tmp 6), (.tmp 7)])⟩,
  ⟨(some 4), none, (.asg (.tmp 8))⟩]) .ret))
theorem law_spec_LawPick {a0 a1 d : D} (h : code_spec_LawPick.wp (CT Try.prog NoG) (endQ [(.t 4)] d) [a0, a1, .undef, .undef, .undef, .undef, .undef, .undef, .undef]) : Contract Try.prog NoG 8 [a0, a1] d :=
  contract_of (pt := 0) noG Try.func8 (fun us W => by kernel_rfl) (c := Try.f8.body.getD .skip) (ms := []) (ms' := []) (by kernel_rfl) (by kernel_rfl) (by kernel_rfl) h
set_option maxHeartbeats 1000000 in
theorem v_LawSet (code : List Int) (hc : ∀ x, x ∈ code → 0 ≤ x ∧ x ≤ 255) (hl : code.length ≤ 4096) : ∃ a, goodA a ∧ okSet a = true ∧ Contract Try.prog NoG 7 [.sl false 1 (code.map rB8)] (.agg (TileSet.td.d true a)) := by
  have hs : SrcB (10000 + 2) ⟨code, 0, 0⟩ := ⟨hc, by show code.length ≤ _; omega, by show 0 + _ ≤ _; omega⟩
  have hF := v_l00From code; generalize (⟨code, 0, 0⟩ : Src) = s at *; have hs1 : SrcB 10000 (pickN s 6) := SrcB.pick hs 6; have hp6 := pickV_in (k := 10000) hs (n := 6) (by omega); obtain ⟨t, ht⟩ : ∃ t : Nat, 1 + pickV s 6 = (t : Int) := ⟨(1 + pickV s 6).toNat, by omega⟩
  have hP6 := v_pick s 6 (hs.mono (by omega)); have hpv : pickV s 6 = (t : Int) - 1 := (by omega); rw [hpv] at hP6 hp6; have hw : IntKind.i64.wrap (1 + ((t : Int) - 1)) = (t : Int) := (by rw [wrI (by omega) (by omega)]; omega); generalize pickN s 6 = s1 at *; have hD := v_l02Draw s1 t (by omega) (hs1.mono (by omega)); refine ⟨drA s1 t, drA_good (by omega) (hs1.mono (by omega)), drA_valid (by omega) (by omega) (hs1.mono (by omega)), ?_⟩; simp only [Src.d, TileSet.td_d] at hD hF hP6; rw [TileSet.td_d]; refine law_spec_LawSet ?_; unfold code_spec_LawSet; simp -implicitDefEqProofs (disch := omega) only [go_sem, ↓reduceIte]; refine call_B (hF) (by simp -implicitDefEqProofs (disch := omega) only [go_sem, ↓reduceIte, deep, TD.rows, immLL_rI, immLL_rB8, immLL_rS, immLL_rBo, immLL_rII, immLL_rIIt]; exact rfl) ?_; simp -implicitDefEqProofs (disch := omega) only [go_sem, ↓reduceIte]; refine call_ioA (i := 0) (r := 5) (hP6) rfl rfl (by simp -implicitDefEqProofs (disch := omega) only [go_sem, ↓reduceIte, deep, TD.rows, immLL_rI, immLL_rB8, immLL_rS, immLL_rBo, immLL_rII, immLL_rIIt, hw]; exact rfl) (by repeat (first | exact leL_nil | refine leL_cons ?_ ?_ | exact le_of_eq rfl | exact le_iptrN (leL_of_eq rfl) | refine le_agg ?_ | exact le_slf rfl (TD.rows ..) | refine le_iptr ?_ | refine le_fn ?_ ?_ | exact le_nilsl_)) (by repeat (first | exact leL_nil | refine leL_cons ?_ ?_ | exact le_of_eq rfl | exact le_iptrN (leL_of_eq rfl) | refine le_agg ?_ | exact le_slf rfl (TD.rows ..) | refine le_iptr ?_ | refine le_fn ?_ ?_ | exact le_nilsl_)) (by first | exact .inr rfl | exact .inl ⟨rfl, rfl⟩ | exact .inl ⟨by simp only [D.noImm, noImmL, go_sem, TD.nims, TD.nim], by simp only [D.noImm, noImmL, go_sem, TD.nims, TD.nim, nim_rI, nim_rB8, nim_rBo, nim_rS]⟩) ?_; simp -implicitDefEqProofs (disch := omega) only [go_sem, ↓reduceIte , hw]; refine call_ioA (i := 0) (r := 5) (hD) rfl rfl (by simp -implicitDefEqProofs (disch := omega) only [go_sem, ↓reduceIte, deep, TD.rows, immLL_rI, immLL_rB8, immLL_rS, immLL_rBo, immLL_rII, immLL_rIIt]; exact rfl) (by repeat (first | exact leL_nil | refine leL_cons ?_ ?_ | exact le_of_eq rfl | exact le_iptrN (leL_of_eq rfl) | refine le_agg ?_ | exact le_slf rfl (TD.rows ..) | refine le_iptr ?_ | refine le_fn ?_ ?_ | exact le_nilsl_)) (by repeat (first | exact leL_nil | refine leL_cons ?_ ?_ | exact le_of_eq rfl | exact le_iptrN (leL_of_eq rfl) | refine le_agg ?_ | exact le_slf rfl (TD.rows ..) | refine le_iptr ?_ | refine le_fn ?_ ?_ | exact le_nilsl_)) (by first | exact .inr rfl | exact .inl ⟨rfl, rfl⟩ | exact .inl ⟨by simp only [D.noImm, noImmL, go_sem, TD.nims, TD.nim], by simp only [D.noImm, noImmL, go_sem, TD.nims, TD.nim, nim_rI, nim_rB8, nim_rBo, nim_rS]⟩) ?_; simp -implicitDefEqProofs (disch := omega) only [go_sem, ↓reduceIte]
theorem v_LawPick (code : List Int) (hc : ∀ x, x ∈ code → 0 ≤ x ∧ x ≤ 255) (hl : code.length ≤ 4096) : ∃ q : Nat, q < 4 ∧ Contract Try.prog NoG 8 [.sl false 1 (code.map rB8), .v (.int .i64 4)] (.v (.int .i64 (q : Int))) := by
  have hs : SrcB (10000 + 2) ⟨code, 0, 0⟩ := ⟨hc, by show code.length ≤ _; omega, by show 0 + _ ≤ _; omega⟩
  have hF := v_l00From code; generalize (⟨code, 0, 0⟩ : Src) = s at *; have hp := pickV_in (k := 10000) hs (n := 4) (by omega); obtain ⟨q, hq⟩ : ∃ q : Nat, pickV s 4 = (q : Int) := ⟨(pickV s 4).toNat, by omega⟩
  have hP := v_pick s 4 (hs.mono (by omega)); rw [hq] at hP; simp only [Src.d] at hF hP; refine ⟨q, by omega, ?_⟩; refine law_spec_LawPick ?_; unfold code_spec_LawPick; simp -implicitDefEqProofs (disch := omega) only [go_sem, ↓reduceIte]; refine call_B (hF) (by simp -implicitDefEqProofs (disch := omega) only [go_sem, ↓reduceIte, deep, TD.rows, immLL_rI, immLL_rB8, immLL_rS, immLL_rBo, immLL_rII, immLL_rIIt]; exact rfl) ?_; simp -implicitDefEqProofs (disch := omega) only [go_sem, ↓reduceIte]; refine call_ioA (i := 0) (r := 6) (hP) rfl rfl (by simp -implicitDefEqProofs (disch := omega) only [go_sem, ↓reduceIte, deep, TD.rows, immLL_rI, immLL_rB8, immLL_rS, immLL_rBo, immLL_rII, immLL_rIIt]; exact rfl) (by repeat (first | exact leL_nil | refine leL_cons ?_ ?_ | exact le_of_eq rfl | exact le_iptrN (leL_of_eq rfl) | refine le_agg ?_ | exact le_slf rfl (TD.rows ..) | refine le_iptr ?_ | refine le_fn ?_ ?_ | exact le_nilsl_)) (by repeat (first | exact leL_nil | refine leL_cons ?_ ?_ | exact le_of_eq rfl | exact le_iptrN (leL_of_eq rfl) | refine le_agg ?_ | exact le_slf rfl (TD.rows ..) | refine le_iptr ?_ | refine le_fn ?_ ?_ | exact le_nilsl_)) (by first | exact .inr rfl | exact .inl ⟨rfl, rfl⟩ | exact .inl ⟨by simp only [D.noImm, noImmL, go_sem, TD.nims, TD.nim], by simp only [D.noImm, noImmL, go_sem, TD.nims, TD.nim, nim_rI, nim_rB8, nim_rBo, nim_rS]⟩) ?_; simp -implicitDefEqProofs (disch := omega) only [go_sem, ↓reduceIte]
theorem tile_dec (a b : Tile) : (decide (a.Name = b.Name) && decide (a.Sides = b.Sides)) = decide (a = b) := by obtain ⟨a0, a1⟩ := a; obtain ⟨b0, b1⟩ := b; rw [Bool.eq_iff_iff]; simp
theorem set_dec (a b : TileSet) : (decide (a.Glues = b.Glues) && decide (a.Tiles = b.Tiles)) = decide (a = b) := by obtain ⟨a0, a1⟩ := a; obtain ⟨b0, b1⟩ := b; rw [Bool.eq_iff_iff]; simp
def setLen (a : TileSet) : Prop := a.Glues.length ≤ 1048576 ∧ a.Tiles.length ≤ 1048576 ∧ ∀ t, t ∈ a.Tiles → t.Sides.length ≤ 1048576
def code_spec_l00Same : VCode := (.seq (.ops [
  ⟨(some 4), none, (.asg (.const (.bool false)))⟩]) (.seq (.seq (.ops [
  ⟨(some 6), none, (.mv (.tmp 0))⟩,
  ⟨(some 7), none, (.len (.tmp 6))⟩,
  ⟨(some 8), none, (.mv (.tmp 1))⟩,
  ⟨(some 9), none, (.len (.tmp 8))⟩,
  ⟨(some 10), none, (.bin .neq (.tmp 7) (.tmp 9))⟩]) (.cond (.tmp 10) (.seq (.ops [
  ⟨(some 4), none, (.asg (.const (.bool false)))⟩]) .ret) .skip)) (.seq (.seq (.ops [
  ⟨(some 5), none, (.asg (.const (.int .i64 0)))⟩]) (.block 0 (.loop (mB 26 67108828) (.seq (.seq (.ops [
  ⟨(some 11), none, (.mv (.tmp 5))⟩,
  ⟨(some 12), none, (.mv (.tmp 0))⟩,
  ⟨(some 13), none, (.len (.tmp 12))⟩,
  ⟨(some 14), none, (.bin .lss (.tmp 11) (.tmp 13))⟩]) (.cond (.tmp 14) .skip (.exit 0))) (.seq (.block 1 (.seq (.draw (mB 25 33423360) [] [⟨0, (mB 25 33423360), [], ⟨(some 17), none, (.mv (.tmp 0))⟩⟩, ⟨1, (mB 25 33423360), [], ⟨(some 18), none, (.mv (.tmp 5))⟩⟩, ⟨2, (mB 25 33030144), [], ⟨(some 19), none, (.ia 1 (.tmp 17) (.tmp 18))⟩⟩, ⟨3, (mB 25 32505856), [], ⟨(some 20), none, (.load 1 false (.tmp 19))⟩⟩, ⟨4, (mB 25 33423360), [], ⟨(some 21), none, (.mv (.tmp 1))⟩⟩, ⟨5, (mB 25 33423360), [], ⟨(some 22), none, (.mv (.tmp 5))⟩⟩, ⟨6, (mB 25 27131904), [], ⟨(some 23), none, (.ia 1 (.tmp 21) (.tmp 22))⟩⟩, ⟨7, (mB 25 18743296), [], ⟨(some 24), none, (.load 1 false (.tmp 23))⟩⟩] [⟨(some 25), none, (.bin .neq (.tmp 20) (.tmp 24))⟩]) (.cond (.tmp 25) (.seq (.ops [
  ⟨(some 4), none, (.asg (.const (.bool false)))⟩]) .ret) .skip))) (.ops [
  ⟨(some 15), none, (.mv (.tmp 5))⟩,
  ⟨(some 16), none, (.bin .add (.tmp 15) (.const (.int .i64 1)))⟩,
  ⟨(some 5), none, (.asg (.tmp 16))⟩])))))) (.seq (.ops [
  ⟨(some 4), none, (.asg (.const (.bool true)))⟩]) .ret))))
theorem law_spec_l00Same {a0 a1 d : D} (h : code_spec_l00Same.wp (CT Try.prog NoG) (endQ [(.t 4)] d) [a0, a1, .undef, .undef, .undef, .undef, .undef, .undef, .undef, .undef, .undef, .undef, .undef, .undef, .undef, .undef, .undef, .undef, .undef, .undef, .undef, .undef, .undef, .undef, .undef, .undef]) : Contract Try.prog NoG 67 [a0, a1] d :=
  contract_of (pt := 0) noG Try.func67 (fun us W => by kernel_rfl) (c := Try.f67.body.getD .skip) (ms := [(mB 26 67108828)]) (ms' := []) (by kernel_rfl) (by kernel_rfl) (by kernel_rfl) h
theorem v_l00Same (xs ys : List Int) (hl : xs.length ≤ 1048576) : Contract Try.prog NoG 67 [.sl false 1 (xs.map rI), .sl false 1 (ys.map rI)] (.v (.bool (decide (xs = ys)))) := by
  refine law_spec_l00Same ?_; unfold code_spec_l00Same; simp -implicitDefEqProofs (disch := omega) only [go_sem, ↓reduceIte , List.length_map]; refine cond_split ?_ ?_ <;> intro h
  · simp -implicitDefEqProofs (disch := omega) only [go_sem, ↓reduceIte]; have : xs ≠ ys := fun e => by subst e; simp at h
    simp [this]
  · have hl : xs.length = ys.length := (by simp at h; omega); simp -implicitDefEqProofs (disch := omega) only [go_sem, ↓reduceIte]; refine loop_st (fun i : Nat => [.sl false 1 (xs.map rI), .sl false 1 (ys.map rI), .undef, .undef, .undef, .v (.int .i64 i), .undef, .undef, .undef, .undef, .undef, .undef, .undef, .undef, .undef, .undef, .undef, .undef, .undef, .undef, .undef, .undef, .undef, .undef, .undef, .undef]) (fun i => i ≤ xs.length ∧ xs.take i = ys.take i) (fun i => xs.length - i) 0 (nleA) ⟨Nat.zero_le _, rfl⟩ ?_; rintro i ⟨hi, ht⟩; simp -implicitDefEqProofs (disch := omega) only [go_sem, ↓reduceIte , List.length_map, Int.toNat_natCast, Int.ofNat_lt, Int.natCast_nonneg, List.getElem?_map, Option.map_some]; refine cond_split ?_ ?_ <;> intro hlt
    · have h1 : i < xs.length := (by simpa using hlt); have h2 : i < ys.length := (by omega); have e1 := List.getElem?_eq_getElem h1; have e2 := List.getElem?_eq_getElem h2; simp -implicitDefEqProofs (disch := omega) only [go_sem, ↓reduceIte , List.length_map, Int.toNat_natCast, Int.ofNat_lt, Int.natCast_nonneg, List.getElem?_map, Option.map_some, h1, h2, e1, e2]; refine cond_split ?_ ?_ <;> intro hc
      · simp -implicitDefEqProofs (disch := omega) only [go_sem, ↓reduceIte]; have hne : xs[i] ≠ ys[i] := by simpa using hc
        have : xs ≠ ys := fun e => hne (by subst e; rfl); simp [this]
      · simp -implicitDefEqProofs (disch := omega) only [go_sem, ↓reduceIte , wrN]; have heq : xs[i] = ys[i] := by simpa using hc
        refine ⟨i + 1, by omega, ⟨h1, ?_⟩, nleA⟩; rw [List.take_succ_eq_append_getElem h1, List.take_succ_eq_append_getElem h2, ht, heq]
    · have hge : ¬ i < xs.length := (by simpa using hlt); simp -implicitDefEqProofs (disch := omega) only [go_sem, ↓reduceIte]; have : xs = ys := (by rw [List.take_of_length_le (by omega), List.take_of_length_le (by omega)] at ht; exact ht); simp [this]
def code_spec_l02Same : VCode := (.seq (.ops [
  ⟨(some 4), none, (.asg (.const (.bool false)))⟩]) (.seq (.seq (.draw (mB 29 536870784) [] [⟨0, (mB 29 536870784), [], ⟨(some 7), none, (.mv (.tmp 0))⟩⟩, ⟨1, (mB 29 536870656), [], ⟨(some 8), none, (.nilc (.tmp 7))⟩⟩, ⟨2, (mB 29 536870400), [], ⟨(some 9), none, (.fa 0 (.tmp 8))⟩⟩, ⟨3, (mB 29 536869888), [], ⟨(some 10), none, (.load 1 false (.tmp 9))⟩⟩, ⟨4, (mB 29 536868864), [], ⟨(some 11), none, (.len (.tmp 10))⟩⟩, ⟨5, (mB 29 536870784), [], ⟨(some 12), none, (.mv (.tmp 1))⟩⟩, ⟨6, (mB 29 536866688), [], ⟨(some 13), none, (.nilc (.tmp 12))⟩⟩, ⟨7, (mB 29 536858496), [], ⟨(some 14), none, (.fa 0 (.tmp 13))⟩⟩, ⟨8, (mB 29 536842112), [], ⟨(some 15), none, (.load 1 false (.tmp 14))⟩⟩, ⟨9, (mB 29 536809344), [], ⟨(some 16), none, (.len (.tmp 15))⟩⟩, ⟨10, (mB 29 536739840), [], ⟨(some 17), none, (.bin .neq (.tmp 11) (.tmp 16))⟩⟩, ⟨11, (mB 29 536608768), [], ⟨(some 18), none, (.mv (.tmp 17))⟩⟩, ⟨12, (mB 29 536346624), [], ⟨(some 19), (some (18, false)), (.mv (.tmp 0))⟩⟩, ⟨13, (mB 29 535822336), [], ⟨(some 20), (some (18, false)), (.nilc (.tmp 19))⟩⟩, ⟨14, (mB 29 534773760), [], ⟨(some 21), (some (18, false)), (.fa 1 (.tmp 20))⟩⟩, ⟨15, (mB 29 532676608), [], ⟨(some 22), (some (18, false)), (.load 1 false (.tmp 21))⟩⟩, ⟨16, (mB 29 528482304), [], ⟨(some 23), (some (18, false)), (.len (.tmp 22))⟩⟩, ⟨17, (mB 29 536346624), [], ⟨(some 24), (some (18, false)), (.mv (.tmp 1))⟩⟩, ⟨18, (mB 29 519569408), [], ⟨(some 25), (some (18, false)), (.nilc (.tmp 24))⟩⟩, ⟨19, (mB 29 486014976), [], ⟨(some 26), (some (18, false)), (.fa 1 (.tmp 25))⟩⟩, ⟨20, (mB 29 418906112), [], ⟨(some 27), (some (18, false)), (.load 1 false (.tmp 26))⟩⟩, ⟨21, (mB 29 284688384), [], ⟨(some 28), (some (18, false)), (.len (.tmp 27))⟩⟩] [⟨(some 29), (some (18, false)), (.bin .neq (.tmp 23) (.tmp 28))⟩, ⟨(some 30), none, (.pick (.tmp 18) (.const (.bool true)) (.tmp 29))⟩]) (.cond (.tmp 30) (.seq (.ops [
  ⟨(some 4), none, (.asg (.const (.bool false)))⟩]) .ret) .skip)) (.seq (.seq (.ops [
  ⟨(some 5), none, (.asg (.const (.int .i64 0)))⟩]) (.block 0 (.loop (mB 101 2535301200456458802993406410716) (.seq (.seq (.ops [
  ⟨(some 31), none, (.mv (.tmp 5))⟩,
  ⟨(some 32), none, (.mv (.tmp 0))⟩,
  ⟨(some 33), none, (.nilc (.tmp 32))⟩,
  ⟨(some 34), none, (.fa 0 (.tmp 33))⟩,
  ⟨(some 35), none, (.load 1 false (.tmp 34))⟩,
  ⟨(some 36), none, (.len (.tmp 35))⟩,
  ⟨(some 37), none, (.bin .lss (.tmp 31) (.tmp 36))⟩]) (.cond (.tmp 37) .skip (.exit 0))) (.seq (.block 1 (.seq (.draw (mB 54 18013298997854208) [] [⟨0, (mB 54 18013298997854208), [], ⟨(some 40), none, (.mv (.tmp 0))⟩⟩, ⟨1, (mB 54 18012199486226432), [], ⟨(some 41), none, (.nilc (.tmp 40))⟩⟩, ⟨2, (mB 54 18010000462970880), [], ⟨(some 42), none, (.fa 0 (.tmp 41))⟩⟩, ⟨3, (mB 54 18005602416459776), [], ⟨(some 43), none, (.load 1 false (.tmp 42))⟩⟩, ⟨4, (mB 54 18013298997854208), [], ⟨(some 44), none, (.mv (.tmp 5))⟩⟩, ⟨5, (mB 54 17979214137393152), [], ⟨(some 45), none, (.ia 2 (.tmp 43) (.tmp 44))⟩⟩, ⟨6, (mB 54 17944029765304320), [], ⟨(some 46), none, (.load 2 true (.tmp 45))⟩⟩, ⟨7, (mB 54 18013298997854208), [], ⟨(some 47), none, (.mv (.tmp 1))⟩⟩, ⟨8, (mB 54 17872561509498880), [], ⟨(some 48), none, (.nilc (.tmp 47))⟩⟩, ⟨9, (mB 54 17591086532788224), [], ⟨(some 49), none, (.fa 0 (.tmp 48))⟩⟩, ⟨10, (mB 54 17028136579366912), [], ⟨(some 50), none, (.load 1 false (.tmp 49))⟩⟩, ⟨11, (mB 54 18013298997854208), [], ⟨(some 51), none, (.mv (.tmp 5))⟩⟩, ⟨12, (mB 54 13650436858839040), [], ⟨(some 52), none, (.ia 2 (.tmp 50) (.tmp 51))⟩⟩, ⟨13, (mB 54 9146837231468544), [], ⟨(some 53), none, (.load 2 true (.tmp 52))⟩⟩] [⟨(some 54), none, (.eqs true [2, 1] (.tmp 46) (.tmp 53))⟩]) (.cond (.tmp 54) (.seq (.ops [
  ⟨(some 4), none, (.asg (.const (.bool false)))⟩]) .ret) .skip))) (.ops [
  ⟨(some 38), none, (.mv (.tmp 5))⟩,
  ⟨(some 39), none, (.bin .add (.tmp 38) (.const (.int .i64 1)))⟩,
  ⟨(some 5), none, (.asg (.tmp 39))⟩])))))) (.seq (.seq (.ops [
  ⟨(some 6), none, (.asg (.const (.int .i64 0)))⟩]) (.block 2 (.loop (mB 101 2535301200456458802993406410684) (.seq (.seq (.ops [
  ⟨(some 55), none, (.mv (.tmp 6))⟩,
  ⟨(some 56), none, (.mv (.tmp 0))⟩,
  ⟨(some 57), none, (.nilc (.tmp 56))⟩,
  ⟨(some 58), none, (.fa 1 (.tmp 57))⟩,
  ⟨(some 59), none, (.load 1 false (.tmp 58))⟩,
  ⟨(some 60), none, (.len (.tmp 59))⟩,
  ⟨(some 61), none, (.bin .lss (.tmp 55) (.tmp 60))⟩]) (.cond (.tmp 61) .skip (.exit 2))) (.seq (.block 3 (.seq (.draw (mB 98 316912650038610606300466249728) [] [⟨0, (mB 98 316912650038610606300466249728), [], ⟨(some 64), none, (.mv (.tmp 0))⟩⟩, ⟨1, (mB 98 316912650020163862226756698112), [], ⟨(some 65), none, (.nilc (.tmp 64))⟩⟩, ⟨2, (mB 98 316912649983270374079337594880), [], ⟨(some 66), none, (.fa 1 (.tmp 65))⟩⟩, ⟨3, (mB 98 316912649909483397784499388416), [], ⟨(some 67), none, (.load 1 false (.tmp 66))⟩⟩, ⟨4, (mB 98 316912650038610606300466249728), [], ⟨(some 68), none, (.mv (.tmp 6))⟩⟩, ⟨5, (mB 98 316912649466761540015470149632), [], ⟨(some 69), none, (.ia 2 (.tmp 67) (.tmp 68))⟩⟩, ⟨6, (mB 98 316912648876465729656764497920), [], ⟨(some 70), none, (.fa 0 (.tmp 69))⟩⟩, ⟨7, (mB 98 316912647695874108939353194496), [], ⟨(some 71), none, (.load 1 false (.tmp 70))⟩⟩, ⟨8, (mB 98 316912650038610606300466249728), [], ⟨(some 72), none, (.mv (.tmp 1))⟩⟩, ⟨9, (mB 98 316912645316244123430821036032), [], ⟨(some 73), none, (.nilc (.tmp 72))⟩⟩, ⟨10, (mB 98 316912635871511157691530608640), [], ⟨(some 74), none, (.fa 1 (.tmp 73))⟩⟩, ⟨11, (mB 98 316912616982045226212949753856), [], ⟨(some 75), none, (.load 1 false (.tmp 74))⟩⟩, ⟨12, (mB 98 316912650038610606300466249728), [], ⟨(some 76), none, (.mv (.tmp 6))⟩⟩, ⟨13, (mB 98 316912503645249637341464625152), [], ⟨(some 77), none, (.ia 2 (.tmp 75) (.tmp 76))⟩⟩, ⟨14, (mB 98 316912352529522185512817786880), [], ⟨(some 78), none, (.fa 0 (.tmp 77))⟩⟩, ⟨15, (mB 98 316912050298067281855524110336), [], ⟨(some 79), none, (.load 1 false (.tmp 78))⟩⟩, ⟨16, (mB 98 316911441131237735745001095168), [], ⟨(some 80), none, (.bin .neq (.tmp 71) (.tmp 79))⟩⟩, ⟨17, (mB 98 316910232205418121115826388992), [], ⟨(some 81), none, (.mv (.tmp 80))⟩⟩, ⟨18, (mB 98 316907814353778891857476976640), [], ⟨(some 82), (some (81, false)), (.mv (.tmp 0))⟩⟩, ⟨19, (mB 98 316902978650500433340778151936), [], ⟨(some 83), (some (81, false)), (.nilc (.tmp 82))⟩⟩, ⟨20, (mB 98 316893307243943516307380502528), [], ⟨(some 84), (some (81, false)), (.fa 1 (.tmp 83))⟩⟩, ⟨21, (mB 98 316873964430829682240585203712), [], ⟨(some 85), (some (81, false)), (.load 1 false (.tmp 84))⟩⟩, ⟨22, (mB 98 316907814353778891857476976640), [], ⟨(some 86), (some (81, false)), (.mv (.tmp 6))⟩⟩, ⟨23, (mB 98 316757907552146677839813410816), [], ⟨(some 87), (some (81, false)), (.ia 2 (.tmp 85) (.tmp 86))⟩⟩, ⟨24, (mB 98 316603165047236005305451020288), [], ⟨(some 88), (some (81, false)), (.fa 1 (.tmp 87))⟩⟩, ⟨25, (mB 98 316293680037414660236726239232), [], ⟨(some 89), (some (81, false)), (.load 1 false (.tmp 88))⟩⟩, ⟨26, (mB 98 316907814353778891857476976640), [], ⟨(some 90), (some (81, false)), (.mv (.tmp 1))⟩⟩, ⟨27, (mB 98 315669874314493511582577852416), [], ⟨(some 91), (some (81, false)), (.nilc (.tmp 90))⟩⟩, ⟨28, (mB 98 313193994235922751032779603968), [], ⟨(some 92), (some (81, false)), (.fa 1 (.tmp 91))⟩⟩, ⟨29, (mB 98 308242234078781229933183107072), [], ⟨(some 93), (some (81, false)), (.load 1 false (.tmp 92))⟩⟩, ⟨30, (mB 98 316907814353778891857476976640), [], ⟨(some 94), (some (81, false)), (.mv (.tmp 6))⟩⟩, ⟨31, (mB 98 278531673135932103335604125696), [], ⟨(some 95), (some (81, false)), (.ia 2 (.tmp 93) (.tmp 94))⟩⟩, ⟨32, (mB 98 238917591878799934538832150528), [], ⟨(some 96), (some (81, false)), (.fa 1 (.tmp 95))⟩⟩, ⟨33, (mB 98 159689429364535596945288200192), [], ⟨(some 97), (some (81, false)), (.load 1 false (.tmp 96))⟩⟩] [⟨(some 98), (some (81, false)), (.callX 67 [(.tmp 89), (.tmp 97)])⟩, ⟨(some 99), (some (81, false)), (.un .not (.tmp 98))⟩, ⟨(some 100), none, (.pick (.tmp 81) (.const (.bool true)) (.tmp 99))⟩]) (.cond (.tmp 100) (.seq (.ops [
  ⟨(some 4), none, (.asg (.const (.bool false)))⟩]) .ret) .skip))) (.ops [
  ⟨(some 62), none, (.mv (.tmp 6))⟩,
  ⟨(some 63), none, (.bin .add (.tmp 62) (.const (.int .i64 1)))⟩,
  ⟨(some 6), none, (.asg (.tmp 63))⟩])))))) (.seq (.ops [
  ⟨(some 4), none, (.asg (.const (.bool true)))⟩]) .ret)))))
theorem law_spec_l02Same {a0 a1 d : D} (h : code_spec_l02Same.wp (CT Try.prog NoG) (endQ [(.t 4)] d) [a0, a1, .undef, .undef, .undef, .undef, .undef, .undef, .undef, .undef, .undef, .undef, .undef, .undef, .undef, .undef, .undef, .undef, .undef, .undef, .undef, .undef, .undef, .undef, .undef, .undef, .undef, .undef, .undef, .undef, .undef, .undef, .undef, .undef, .undef, .undef, .undef, .undef, .undef, .undef, .undef, .undef, .undef, .undef, .undef, .undef, .undef, .undef, .undef, .undef, .undef, .undef, .undef, .undef, .undef, .undef, .undef, .undef, .undef, .undef, .undef, .undef, .undef, .undef, .undef, .undef, .undef, .undef, .undef, .undef, .undef, .undef, .undef, .undef, .undef, .undef, .undef, .undef, .undef, .undef, .undef, .undef, .undef, .undef, .undef, .undef, .undef, .undef, .undef, .undef, .undef, .undef, .undef, .undef, .undef, .undef, .undef, .undef, .undef, .undef, .undef]) : Contract Try.prog NoG 37 [a0, a1] d :=
  contract_of (pt := 0) noG Try.func37 (fun us W => by kernel_rfl) (c := Try.f37.body.getD .skip) (ms := [(mB 101 2535301200456458802993406410716), (mB 101 2535301200456458802993406410684)]) (ms' := []) (by kernel_rfl) (by kernel_rfl) (by kernel_rfl) h
set_option maxHeartbeats 2000000 in
theorem v_l02Same (a b : TileSet) (ha : setLen a) : Contract Try.prog NoG 37 [.iptr [.sl false 2 (a.Glues.map (Glue.td.d false)), .sl false 2 (a.Tiles.map (Tile.td.d false))] 0, .iptr [.sl false 2 (b.Glues.map (Glue.td.d false)), .sl false 2 (b.Tiles.map (Tile.td.d false))] 0] (.v (.bool (decide (a = b)))) := by
  rw [← set_dec]; have hg := ha.1; have ht := ha.2.1; refine law_spec_l02Same ?_; unfold code_spec_l02Same; simp -implicitDefEqProofs (disch := omega) only [go_sem, ↓reduceIte , List.length_map]
  (first | refine gd_split ?_ ?_ | refine guard_split ?_ ?_) <;> intro h1
  · simp -implicitDefEqProofs (disch := omega) only [go_sem, ↓reduceIte , h1]; have : a.Glues ≠ b.Glues := fun e => by simp [e] at h1
    simp [this]
  · have hl1 : a.Glues.length = b.Glues.length := (by simp at h1; omega); simp -implicitDefEqProofs (disch := omega) only [go_sem, ↓reduceIte , h1, List.length_map]; refine cond_split ?_ ?_ <;> intro h2
    · simp -implicitDefEqProofs (disch := omega) only [go_sem, ↓reduceIte , h2]; have : a.Tiles ≠ b.Tiles := fun e => by simp [e] at h2
      simp [this]
    · have hl2 : a.Tiles.length = b.Tiles.length := (by simp at h2; omega); simp -implicitDefEqProofs (disch := omega) only [go_sem, ↓reduceIte , h2]; refine loop_st (fun i : Nat => [.iptr [.sl false 2 (a.Glues.map (Glue.td.d false)), .sl false 2 (a.Tiles.map (Tile.td.d false))] 0, .iptr [.sl false 2 (b.Glues.map (Glue.td.d false)), .sl false 2 (b.Tiles.map (Tile.td.d false))] 0, .undef, .undef, .undef, .v (.int .i64 i), .undef, .undef, .undef, .undef, .undef, .undef, .undef, .undef, .undef, .undef, .undef, .undef, .undef, .undef, .undef, .undef, .undef, .undef, .undef, .undef, .undef, .undef, .undef, .undef, .undef, .undef, .undef, .undef, .undef, .undef, .undef, .undef, .undef, .undef, .undef, .undef, .undef, .undef, .undef, .undef, .undef, .undef, .undef, .undef, .undef, .undef, .undef, .undef, .undef, .undef, .undef, .undef, .undef, .undef, .undef, .undef, .undef, .undef, .undef, .undef, .undef, .undef, .undef, .undef, .undef, .undef, .undef, .undef, .undef, .undef, .undef, .undef, .undef, .undef, .undef, .undef, .undef, .undef, .undef, .undef, .undef, .undef, .undef, .undef, .undef, .undef, .undef, .undef, .undef, .undef, .undef, .undef, .undef, .undef, .undef]) (fun i => i ≤ a.Glues.length ∧ a.Glues.take i = b.Glues.take i) (fun i => a.Glues.length - i) 0 (nleA) ⟨Nat.zero_le _, rfl⟩ ?_; rintro i ⟨hi, ht1⟩; simp -implicitDefEqProofs (disch := omega) only [go_sem, ↓reduceIte , List.length_map, Int.toNat_natCast, Int.ofNat_lt, Int.natCast_nonneg, List.getElem?_map, Option.map_some]; refine cond_split ?_ ?_ <;> intro hlt
      · have h3 : i < a.Glues.length := (by simpa using hlt); have h4 : i < b.Glues.length := (by omega); have e1 := List.getElem?_eq_getElem h3; have e2 := List.getElem?_eq_getElem h4; simp -implicitDefEqProofs (disch := omega) only [go_sem, ↓reduceIte , List.length_map, Int.toNat_natCast, Int.ofNat_lt, Int.natCast_nonneg, List.getElem?_map, Option.map_some, h3, h4, e1, e2, Glue.td_d, Glue.eq_dec]; refine cond_split ?_ ?_ <;> intro hc
        · simp -implicitDefEqProofs (disch := omega) only [go_sem, ↓reduceIte]; have hne : a.Glues[i] ≠ b.Glues[i] := by simpa using hc
          have : a.Glues ≠ b.Glues := fun e => hne (by simp [e]); simp [this]
        · simp -implicitDefEqProofs (disch := omega) only [go_sem, ↓reduceIte , wrN]; have heq : a.Glues[i] = b.Glues[i] := by simpa using hc
          refine ⟨i + 1, by omega, ⟨h3, ?_⟩, nleA⟩; rw [List.take_succ_eq_append_getElem h3, List.take_succ_eq_append_getElem h4, ht1, heq]
      · have hge : ¬ i < a.Glues.length := (by simpa using hlt); have heg : a.Glues = b.Glues := (by rw [List.take_of_length_le (by omega), List.take_of_length_le (by omega)] at ht1; exact ht1); simp -implicitDefEqProofs (disch := omega) only [go_sem, ↓reduceIte]; refine loop_st (fun i : Nat => [.iptr [.sl false 2 (a.Glues.map (Glue.td.d false)), .sl false 2 (a.Tiles.map (Tile.td.d false))] 0, .iptr [.sl false 2 (b.Glues.map (Glue.td.d false)), .sl false 2 (b.Tiles.map (Tile.td.d false))] 0, .undef, .undef, .undef, .undef, .v (.int .i64 i), .undef, .undef, .undef, .undef, .undef, .undef, .undef, .undef, .undef, .undef, .undef, .undef, .undef, .undef, .undef, .undef, .undef, .undef, .undef, .undef, .undef, .undef, .undef, .undef, .undef, .undef, .undef, .undef, .undef, .undef, .undef, .undef, .undef, .undef, .undef, .undef, .undef, .undef, .undef, .undef, .undef, .undef, .undef, .undef, .undef, .undef, .undef, .undef, .undef, .undef, .undef, .undef, .undef, .undef, .undef, .undef, .undef, .undef, .undef, .undef, .undef, .undef, .undef, .undef, .undef, .undef, .undef, .undef, .undef, .undef, .undef, .undef, .undef, .undef, .undef, .undef, .undef, .undef, .undef, .undef, .undef, .undef, .undef, .undef, .undef, .undef, .undef, .undef, .undef, .undef, .undef, .undef, .undef, .undef]) (fun i => i ≤ a.Tiles.length ∧ a.Tiles.take i = b.Tiles.take i) (fun i => a.Tiles.length - i) 0 (nleA) ⟨Nat.zero_le _, rfl⟩ ?_; rintro k ⟨hk, ht2⟩; simp -implicitDefEqProofs (disch := omega) only [go_sem, ↓reduceIte , List.length_map, Int.toNat_natCast, Int.ofNat_lt, Int.natCast_nonneg, List.getElem?_map, Option.map_some]; refine cond_split ?_ ?_ <;> intro hlt2
        · have h5 : k < a.Tiles.length := (by simpa using hlt2); have h6 : k < b.Tiles.length := (by omega); have e3 := List.getElem?_eq_getElem h5; have e4 := List.getElem?_eq_getElem h6; simp -implicitDefEqProofs (disch := omega) only [go_sem, ↓reduceIte , List.length_map, Int.toNat_natCast, Int.ofNat_lt, Int.natCast_nonneg, List.getElem?_map, Option.map_some, h5, h6, e3, e4, Tile.td_d]
          (first | refine gd_split ?_ ?_ | refine guard_split ?_ ?_) <;> intro hc
          · simp -implicitDefEqProofs (disch := omega) only [go_sem, ↓reduceIte , hc]; have hne : a.Tiles[k] ≠ b.Tiles[k] := fun e => by simp [e] at hc
            have : a.Tiles ≠ b.Tiles := fun e => hne (by simp [e]); simp [this]
          · have hn1 : a.Tiles[k].Name = b.Tiles[k].Name := (by simpa using hc); simp -implicitDefEqProofs (disch := omega) only [go_sem, ↓reduceIte , List.length_map, Int.toNat_natCast, Int.ofNat_lt, Int.natCast_nonneg, List.getElem?_map, Option.map_some, hc, h5, h6, e3, e4, Tile.td_d]; refine call_B (v_l00Same _ _ (ha.2.2 _ (List.getElem_mem h5))) (by simp -implicitDefEqProofs (disch := omega) only [go_sem, ↓reduceIte, deep, TD.rows, immLL_rI, immLL_rB8, immLL_rS, immLL_rBo, immLL_rII, immLL_rIIt, hc]; exact rfl) ?_; simp -implicitDefEqProofs (disch := omega) only [go_sem, ↓reduceIte , hc]; refine cond_split ?_ ?_ <;> intro hd
            · simp -implicitDefEqProofs (disch := omega) only [go_sem, ↓reduceIte]; have hne : a.Tiles[k] ≠ b.Tiles[k] := fun e => by simp [e] at hd
              have : a.Tiles ≠ b.Tiles := fun e => hne (by simp [e]); simp [this]
            · simp -implicitDefEqProofs (disch := omega) only [go_sem, ↓reduceIte , wrN]; have hn2 : a.Tiles[k].Sides = b.Tiles[k].Sides := by simpa using hd
              have heq : a.Tiles[k] = b.Tiles[k] := (by have := tile_dec a.Tiles[k] b.Tiles[k]; rw [hn1, hn2] at this; simpa using this.symm); refine ⟨k + 1, by omega, ⟨h5, ?_⟩, nleA⟩; rw [List.take_succ_eq_append_getElem h5, List.take_succ_eq_append_getElem h6, ht2, heq]
        · have hge2 : ¬ k < a.Tiles.length := (by simpa using hlt2); simp -implicitDefEqProofs (disch := omega) only [go_sem, ↓reduceIte]; have het : a.Tiles = b.Tiles := (by rw [List.take_of_length_le (by omega), List.take_of_length_le (by omega)] at ht2; exact ht2); simp [heg, het]
end Go.Proofs.Ytoiaenkipdneeaa
