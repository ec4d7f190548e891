/- Laws that the proof stands on. -/
import Derived.Test.YtffnoglnpkcjnaaZg7
import Derived.Test.YtffnoglnpkcjnaaZg10
import Derived.Test.YtffnoglnpkcjnaaProg
import Derived.Test.YtffnoglnpkcjnaaZg9
import Derived.Test.YtffnoglnpkcjnaaZVB
import Derived.Test.YtffnoglnpkcjnaaZg8
set_option linter.all false
namespace Go.Proofs.Ytffnoglnpkcjnaa
open Go.RowKit Go.V
attribute [local go_sem] List.getElem?_cons_succ List.getElem?_cons_zero List.set_cons_succ List.set_cons_zero List.map_cons List.map_nil List.length_cons List.length_nil List.all_cons List.all_nil List.drop_succ_cons List.drop_zero List.take_succ_cons List.take_zero List.flatMap_cons List.flatMap_nil List.cons_append List.nil_append List.append_nil List.headD_cons Value.oneCell' Bool.and_true Bool.true_and Bool.or_false Bool.false_or Bool.and_self Bool.not_true Bool.not_false and_true true_and beq_self_eq_true Bool.false_eq_true if_true if_false Nat.zero_add Nat.reduceAdd Nat.reduceMul Nat.reduceLeDiff Nat.le_refl Option.isSome_some Option.isSome_none not_true_eq_false not_false_eq_true ne_eq reduceCtorEq List.reverse_nil bne_self_eq_false Nat.reduceEqDiff List.isPrefixOf Bool.not_eq_true Bool.and_false Bool.false_and Bool.true_or Bool.or_true decide_true decide_false Nat.reduceBEq Nat.reduceBNe List.replicate_succ List.replicate_zero exists_eq_left' exists_eq_left Option.some.injEq or_false or_true true_or false_or Option.map_some Option.map_none mB Nat.reduceMod Nat.reduceDiv
set_option maxRecDepth 100000
structure setB (a : TileSet) : Prop where
  g : a.Glues.length ≤ 1048576
  t : a.Tiles.length ≤ 1048576
  gn : ∀ x, x ∈ a.Glues → x.Name.size ≤ 1048576
  tn : ∀ x, x ∈ a.Tiles → x.Name.size ≤ 1048576
  ts : ∀ x, x ∈ a.Tiles → x.Sides.length ≤ 1048576
theorem setB_of {a : TileSet} (h : TileSet.cnt a ≤ 1048576) : setB a := by
  have h1 := cntL_len Glue.cnt a.Glues; have h2 := cntL_len Tile.cnt a.Tiles; have h3 : TileSet.cnt a = cntL Glue.cnt a.Glues + cntL Tile.cnt a.Tiles := rfl; refine ⟨by omega, by omega, fun x hx => ?_, fun x hx => ?_, fun x hx => ?_⟩
  all_goals obtain ⟨k, hk, rfl⟩ := List.getElem_of_mem hx
  · have := cntL_mem Glue.cnt a.Glues k hk; have h4 : Glue.cnt a.Glues[k] = a.Glues[k].Name.size := rfl; omega
  · have := cntL_mem Tile.cnt a.Tiles k hk; have h4 : Tile.cnt a.Tiles[k] = a.Tiles[k].Name.size + a.Tiles[k].Sides.length := rfl; omega
  · have := cntL_mem Tile.cnt a.Tiles k hk; have h4 : Tile.cnt a.Tiles[k] = a.Tiles[k].Name.size + a.Tiles[k].Sides.length := rfl; omega
def gIdx (gs : List Glue) (n : ByteArray) : Int := vIdx (fun g : Glue => decide (g.Name = n)) gs
def tIdx (ts : List Tile) (n : ByteArray) : Int := vIdx (fun t : Tile => decide (t.Name = n)) ts
def okG (gs : List Glue) (i : Nat) : Bool := match gs[i]? with
  | some g => isNameB g.Name && (inR 1 4 g.Strength && !(gs.take i).any (fun x => decide (x.Name = g.Name)))
  | none => true
def okT (n : Nat) (ts : List Tile) (i : Nat) : Bool := match ts[i]? with
  | some t => isNameB t.Name && (decide (t.Sides.length = 4) && (!(ts.take i).any (fun x => decide (x.Name = t.Name)) && t.Sides.all (inR 0 n)))
  | none => true
def okSet (a : TileSet) : Bool := decide (a.Glues.length ≤ 200) && (inR 1 160 a.Tiles.length && ((List.range a.Glues.length).all (okG a.Glues) && (List.range a.Tiles.length).all (okT a.Glues.length a.Tiles)))
theorem okSet_g {a : TileSet} {i : Nat} (hi : i < a.Glues.length) (h : okG a.Glues i = false) : okSet a = false := by have : (List.range a.Glues.length).all (okG a.Glues) = false := (by rw [List.all_eq_false]; exact ⟨i, by simpa using hi, by simp [h]⟩); simp [okSet, this]
theorem okSet_t {a : TileSet} {i : Nat} (hi : i < a.Tiles.length) (h : okT a.Glues.length a.Tiles i = false) : okSet a = false := by have : (List.range a.Tiles.length).all (okT a.Glues.length a.Tiles) = false := (by rw [List.all_eq_false]; exact ⟨i, by simpa using hi, by simp [h]⟩); simp [okSet, this]
theorem vIdx_self {α : Type} (f : α → ByteArray) (xs : List α) (i : Nat) (hi : i < xs.length) : decide (vIdx (fun x => decide (f x = f xs[i])) xs = (i : Int)) = !(xs.take i).any (fun x => decide (f x = f xs[i])) := by
  by_cases h : (xs.take i).any (fun x => decide (f x = f xs[i])) = true
  · rw [h]; rw [List.any_eq_true] at h; obtain ⟨x, hx, hp⟩ := h; obtain ⟨j, hj, rfl⟩ := List.getElem_of_mem hx; simp only [List.length_take] at hj; rw [List.getElem_take] at hp; have hne : vIdx (fun x => decide (f x = f xs[i])) xs ≠ (i : Int) := by
      intro e; unfold vIdx at e; cases hf : xs.findIdx? (fun x => decide (f x = f xs[i])) with
      | none => rw [hf] at e; simp at e
      | some k =>
        rw [hf] at e; have e : (k : Int) = (i : Int) := e; have hk : k = i := by omega
        subst hk; rw [List.findIdx?_eq_some_iff_getElem] at hf; have := hf.2.2 j (by omega); simp only [decide_eq_true_eq] at this hp; exact this hp
    simp [hne]
  · have h' : (xs.take i).any (fun x => decide (f x = f xs[i])) = false := (by simpa using h); rw [h']; rw [List.any_eq_false] at h'; have := vIdx_hit (fun x => decide (f x = f xs[i])) xs i hi (fun j hj hlt => by
      have := h' xs[j] (by
        rw [List.mem_take_iff_getElem]; exact ⟨j, by omega, rfl⟩)
      simpa using this) (by simp)
    rw [this]; simp
theorem okG_at {gs : List Glue} {i : Nat} (hi : i < gs.length) : okG gs i = (isNameB gs[i].Name && (inR 1 4 gs[i].Strength && !(gs.take i).any (fun x => decide (x.Name = gs[i].Name)))) := by unfold okG; rw [List.getElem?_eq_getElem hi]
theorem okT_at {n : Nat} {ts : List Tile} {i : Nat} (hi : i < ts.length) : okT n ts i = (isNameB ts[i].Name && (decide (ts[i].Sides.length = 4) && (!(ts.take i).any (fun x => decide (x.Name = ts[i].Name)) && ts[i].Sides.all (inR 0 n)))) := by unfold okT; rw [List.getElem?_eq_getElem hi]
/-! names in maps -/
theorem getD_some {s : List Int} {k : Nat} (h : k < s.length) : s[k]? = some (s.getD k 0) := by rw [List.getD_eq_getElem?_getD, List.getElem?_eq_getElem h]; rfl
theorem okSet_len {a : TileSet} (h : okSet a = true) : a.Glues.length ≤ 200 ∧ 1 ≤ a.Tiles.length ∧ a.Tiles.length ≤ 160 := by unfold okSet at h; simp only [Bool.and_eq_true, decide_eq_true_eq, inR_iff] at h; exact ⟨h.1, by omega, by omega⟩
def entsN {α : Type} (f : α → ByteArray) (xs : List α) : List (Value × Value) := xs.map fun x => (Value.string (f x), Value.bool true)
theorem keq_str {a b : ByteArray} : keq (.string a) (.string b) = decide (b = a) := by rw [Bool.eq_iff_iff, decide_eq_true_eq]; show (a == b) = true ↔ b = a; rw [MapKept.bytes_beq]; exact eq_comm
theorem mget_N {α : Type} (f : α → ByteArray) (n : ByteArray) : ∀ xs : List α, mget (entsN f xs) (.string n) = if xs.any (fun x => decide (f x = n)) then some (.bool true) else none
  | [] => rfl
  | x :: xs => by
    have ih := mget_N f n xs; unfold mget entsN at *; simp only [List.map_cons, List.find?_cons, keq_str, List.any_cons]; by_cases h : f x = n
    · simp [h]
    · simp only [h, decide_false, Bool.false_or]; exact ih
theorem mset_N {α : Type} (f : α → ByteArray) (xs : List α) (y : α) (h : xs.any (fun x => decide (f x = f y)) = false) : mset (entsN f xs) (.string (f y)) (.bool true) = entsN f (xs ++ [y]) := by
  unfold mset; have : (entsN f xs).findIdx? (fun x => keq (.string (f y)) x.1) = none := by rw [List.findIdx?_eq_none_iff]; intro x hx; unfold entsN at hx; obtain ⟨z, hz, rfl⟩ := List.mem_map.1 hx; rw [List.any_eq_false] at h; have := h z hz; simp only [keq_str]; simpa using this
  rw [this]; simp [entsN]
theorem take_next {α : Type} {xs : List α} {i : Nat} (hi : i < xs.length) : xs.take i ++ [xs[i]] = xs.take (i + 1) := (List.take_succ_eq_append_getElem hi).symm
def code_spec_l02Glue : VCode := (.seq (.ops [
  ⟨(some 4), none, (.asg (.const (.int .i64 0)))⟩]) (.seq (.seq (.ops [
  ⟨(some 5), none, (.asg (.const (.int .i64 0)))⟩]) (.block 0 (.loop (mB 27 134217692) (.seq (.seq (.ops [
  ⟨(some 6), none, (.mv (.tmp 5))⟩,
  ⟨(some 7), none, (.mv (.tmp 0))⟩,
  ⟨(some 8), none, (.nilc (.tmp 7))⟩,
  ⟨(some 9), none, (.fa 0 (.tmp 8))⟩,
  ⟨(some 10), none, (.load 1 false (.tmp 9))⟩,
  ⟨(some 11), none, (.len (.tmp 10))⟩,
  ⟨(some 12), none, (.bin .lss (.tmp 6) (.tmp 11))⟩]) (.cond (.tmp 12) .skip (.exit 0))) (.seq (.block 1 (.seq (.ops [
  ⟨(some 15), none, (.mv (.tmp 0))⟩,
  ⟨(some 16), none, (.nilc (.tmp 15))⟩,
  ⟨(some 17), none, (.fa 0 (.tmp 16))⟩,
  ⟨(some 18), none, (.load 1 false (.tmp 17))⟩,
  ⟨(some 19), none, (.mv (.tmp 5))⟩,
  ⟨(some 20), none, (.ia 2 (.tmp 18) (.tmp 19))⟩,
  ⟨(some 21), none, (.fa 0 (.tmp 20))⟩,
  ⟨(some 22), none, (.load 1 false (.tmp 21))⟩,
  ⟨(some 23), none, (.mv (.tmp 1))⟩,
  ⟨(some 24), none, (.bin .eql (.tmp 22) (.tmp 23))⟩]) (.cond (.tmp 24) (.seq (.ops [
  ⟨(some 25), none, (.mv (.tmp 5))⟩,
  ⟨(some 26), none, (.bin .add (.tmp 25) (.const (.int .i64 1)))⟩,
  ⟨(some 4), none, (.asg (.tmp 26))⟩]) .ret) .skip))) (.ops [
  ⟨(some 13), none, (.mv (.tmp 5))⟩,
  ⟨(some 14), none, (.bin .add (.tmp 13) (.const (.int .i64 1)))⟩,
  ⟨(some 5), none, (.asg (.tmp 14))⟩])))))) (.seq (.ops [
  ⟨(some 4), none, (.asg (.const (.int .i64 0)))⟩]) .ret)))
theorem law_spec_l02Glue {a0 a1 d : D} (h : code_spec_l02Glue.wp (CT Try.prog NoG) (endQ [(.t 4)] d) [a0, a1, .undef, .undef, .undef, .undef, .undef, .undef, .undef, .undef, .undef, .undef, .undef, .undef, .undef, .undef, .undef, .undef, .undef, .undef, .undef, .undef, .undef, .undef, .undef, .undef, .undef]) : Contract Try.prog NoG 139 [a0, a1] d :=
  contract_of noG Try.func139 (fun us W => by kernel_rfl) (c := Try.f139.body.getD .skip) (ms := [(mB 27 134217692)]) (ms' := []) (by kernel_rfl) (by kernel_rfl) (by kernel_rfl) h
def code_spec_l02Tile : VCode := (.seq (.ops [
  ⟨(some 4), none, (.asg (.const (.int .i64 0)))⟩]) (.seq (.seq (.ops [
  ⟨(some 5), none, (.asg (.const (.int .i64 0)))⟩]) (.block 0 (.loop (mB 26 67108828) (.seq (.seq (.ops [
  ⟨(some 6), none, (.mv (.tmp 5))⟩,
  ⟨(some 7), none, (.mv (.tmp 0))⟩,
  ⟨(some 8), none, (.nilc (.tmp 7))⟩,
  ⟨(some 9), none, (.fa 1 (.tmp 8))⟩,
  ⟨(some 10), none, (.load 1 false (.tmp 9))⟩,
  ⟨(some 11), none, (.len (.tmp 10))⟩,
  ⟨(some 12), none, (.bin .lss (.tmp 6) (.tmp 11))⟩]) (.cond (.tmp 12) .skip (.exit 0))) (.seq (.block 1 (.seq (.ops [
  ⟨(some 15), none, (.mv (.tmp 0))⟩,
  ⟨(some 16), none, (.nilc (.tmp 15))⟩,
  ⟨(some 17), none, (.fa 1 (.tmp 16))⟩,
  ⟨(some 18), none, (.load 1 false (.tmp 17))⟩,
  ⟨(some 19), none, (.mv (.tmp 5))⟩,
  ⟨(some 20), none, (.ia 2 (.tmp 18) (.tmp 19))⟩,
  ⟨(some 21), none, (.fa 0 (.tmp 20))⟩,
  ⟨(some 22), none, (.load 1 false (.tmp 21))⟩,
  ⟨(some 23), none, (.mv (.tmp 1))⟩,
  ⟨(some 24), none, (.bin .eql (.tmp 22) (.tmp 23))⟩]) (.cond (.tmp 24) (.seq (.ops [
  ⟨(some 25), none, (.mv (.tmp 5))⟩,
  ⟨(some 4), none, (.asg (.tmp 25))⟩]) .ret) .skip))) (.ops [
  ⟨(some 13), none, (.mv (.tmp 5))⟩,
  ⟨(some 14), none, (.bin .add (.tmp 13) (.const (.int .i64 1)))⟩,
  ⟨(some 5), none, (.asg (.tmp 14))⟩])))))) (.seq (.ops [
  ⟨(some 4), none, (.asg (.const (.int .i64 (-1))))⟩]) .ret)))
theorem law_spec_l02Tile {a0 a1 d : D} (h : code_spec_l02Tile.wp (CT Try.prog NoG) (endQ [(.t 4)] d) [a0, a1, .undef, .undef, .undef, .undef, .undef, .undef, .undef, .undef, .undef, .undef, .undef, .undef, .undef, .undef, .undef, .undef, .undef, .undef, .undef, .undef, .undef, .undef, .undef, .undef]) : Contract Try.prog NoG 140 [a0, a1] d :=
  contract_of noG Try.func140 (fun us W => by kernel_rfl) (c := Try.f140.body.getD .skip) (ms := [(mB 26 67108828)]) (ms' := []) (by kernel_rfl) (by kernel_rfl) (by kernel_rfl) h
theorem v_l02Glue (a : TileSet) (n : ByteArray) (hg : a.Glues.length ≤ 1048576) : Contract Try.prog NoG 139 [.iptr (TileSet.td.d false a) 0, .v (.string n)] (.v (.int .i64 (gIdx a.Glues n + 1))) := by
  rw [TileSet.td_d]; refine law_spec_l02Glue ?_; unfold code_spec_l02Glue; simp -implicitDefEqProofs (disch := omega) only [go_sem, ↓reduceIte]; refine loop_st (fun i : Nat => [.iptr [.sl false 2 (a.Glues.map (Glue.td.d false)), .sl false 2 (a.Tiles.map (Tile.td.d false))] 0, .v (.string n), .undef, .undef, .undef, .v (.int .i64 i), .undef, .undef, .undef, .undef, .undef, .undef, .undef, .undef, .undef, .undef, .undef, .undef, .undef, .undef, .undef, .undef, .undef, .undef, .undef, .undef, .undef]) (fun i => i ≤ a.Glues.length ∧ ∀ j (hj : j < a.Glues.length), j < i → decide (a.Glues[j].Name = n) = false) (fun i => a.Glues.length - i) 0 (by (try simp -implicitDefEqProofs only [nleL_cc, nleL_nn, nle_self, nle_boxs, nle_aggs, nle_nils, and_self, and_true, true_and]) <;> repeat' (first | exact nle_of_eq rfl | exact nle_nil | apply And.intro | apply nle_sl | apply nleLL_cons | apply nleL_cons | exact nleL_nil | exact nleLL_nil | apply nle_box | apply nle_agg)) ⟨Nat.zero_le _, fun _ _ h => absurd h (Nat.not_lt_zero _)⟩ ?_; rintro i ⟨hi, ha⟩; simp -implicitDefEqProofs (disch := omega) only [go_sem, ↓reduceIte , List.length_map, Int.toNat_natCast, Int.ofNat_lt, Int.natCast_nonneg, List.getElem?_map, Option.map_some]; refine cond_split ?_ ?_ <;> intro hlt
  · have hlt : i < a.Glues.length := (by simpa using hlt); have e1 := List.getElem?_eq_getElem hlt; simp -implicitDefEqProofs (disch := omega) only [go_sem, ↓reduceIte , List.length_map, Int.toNat_natCast, Int.ofNat_lt, Int.natCast_nonneg, List.getElem?_map, Option.map_some, hlt, e1, Glue.td_d]; refine cond_split ?_ ?_ <;> intro hc
    · have hv : gIdx a.Glues n = (i : Int) := vIdx_hit _ a.Glues i hlt (fun j hj h => ha j hj h) hc; simp -implicitDefEqProofs (disch := omega) only [go_sem, ↓reduceIte , wrN]; rw [hv]; simp
    · simp -implicitDefEqProofs (disch := omega) only [go_sem, ↓reduceIte , wrN]; refine ⟨i + 1, by omega, ⟨hlt, fun j hj h => ?_⟩, by (try simp -implicitDefEqProofs only [nleL_cc, nleL_nn, nle_self, nle_boxs, nle_aggs, nle_nils, and_self, and_true, true_and]) <;> repeat' (first | exact nle_of_eq rfl | exact nle_nil | apply And.intro | apply nle_sl | apply nleLL_cons | apply nleL_cons | exact nleL_nil | exact nleLL_nil | apply nle_box | apply nle_agg)⟩; by_cases hji : j = i
      · subst hji; exact hc
      · exact ha j hj (by omega)
  · have hge : i = a.Glues.length := by have : ¬ i < a.Glues.length := by simpa using hlt
                                        omega
    subst hge; have hv : gIdx a.Glues n = -1 := vIdx_miss _ a.Glues (fun j hj => ha j hj hj); simp -implicitDefEqProofs (disch := omega) only [go_sem, ↓reduceIte]; rw [hv]; rfl
theorem v_l02Tile (a : TileSet) (n : ByteArray) (hg : a.Tiles.length ≤ 1048576) : Contract Try.prog NoG 140 [.iptr (TileSet.td.d false a) 0, .v (.string n)] (.v (.int .i64 (tIdx a.Tiles n))) := by
  rw [TileSet.td_d]; refine law_spec_l02Tile ?_; unfold code_spec_l02Tile; simp -implicitDefEqProofs (disch := omega) only [go_sem, ↓reduceIte]; refine loop_st (fun i : Nat => [.iptr [.sl false 2 (a.Glues.map (Glue.td.d false)), .sl false 2 (a.Tiles.map (Tile.td.d false))] 0, .v (.string n), .undef, .undef, .undef, .v (.int .i64 i), .undef, .undef, .undef, .undef, .undef, .undef, .undef, .undef, .undef, .undef, .undef, .undef, .undef, .undef, .undef, .undef, .undef, .undef, .undef, .undef]) (fun i => i ≤ a.Tiles.length ∧ ∀ j (hj : j < a.Tiles.length), j < i → decide (a.Tiles[j].Name = n) = false) (fun i => a.Tiles.length - i) 0 (by (try simp -implicitDefEqProofs only [nleL_cc, nleL_nn, nle_self, nle_boxs, nle_aggs, nle_nils, and_self, and_true, true_and]) <;> repeat' (first | exact nle_of_eq rfl | exact nle_nil | apply And.intro | apply nle_sl | apply nleLL_cons | apply nleL_cons | exact nleL_nil | exact nleLL_nil | apply nle_box | apply nle_agg)) ⟨Nat.zero_le _, fun _ _ h => absurd h (Nat.not_lt_zero _)⟩ ?_; rintro i ⟨hi, ha⟩; simp -implicitDefEqProofs (disch := omega) only [go_sem, ↓reduceIte , List.length_map, Int.toNat_natCast, Int.ofNat_lt, Int.natCast_nonneg, List.getElem?_map, Option.map_some]; refine cond_split ?_ ?_ <;> intro hlt
  · have hlt : i < a.Tiles.length := (by simpa using hlt); have e1 := List.getElem?_eq_getElem hlt; simp -implicitDefEqProofs (disch := omega) only [go_sem, ↓reduceIte , List.length_map, Int.toNat_natCast, Int.ofNat_lt, Int.natCast_nonneg, List.getElem?_map, Option.map_some, hlt, e1, Tile.td_d]; refine cond_split ?_ ?_ <;> intro hc
    · have hv : tIdx a.Tiles n = (i : Int) := vIdx_hit _ a.Tiles i hlt (fun j hj h => ha j hj h) hc; simp -implicitDefEqProofs (disch := omega) only [go_sem, ↓reduceIte , wrN]; rw [hv]
    · simp -implicitDefEqProofs (disch := omega) only [go_sem, ↓reduceIte , wrN]; refine ⟨i + 1, by omega, ⟨hlt, fun j hj h => ?_⟩, by (try simp -implicitDefEqProofs only [nleL_cc, nleL_nn, nle_self, nle_boxs, nle_aggs, nle_nils, and_self, and_true, true_and]) <;> repeat' (first | exact nle_of_eq rfl | exact nle_nil | apply And.intro | apply nle_sl | apply nleLL_cons | apply nleL_cons | exact nleL_nil | exact nleLL_nil | apply nle_box | apply nle_agg)⟩; by_cases hji : j = i
      · subst hji; exact hc
      · exact ha j hj (by omega)
  · have hge : i = a.Tiles.length := by have : ¬ i < a.Tiles.length := by simpa using hlt
                                        omega
    subst hge; have hv : tIdx a.Tiles n = -1 := vIdx_miss _ a.Tiles (fun j hj => ha j hj hj); simp -implicitDefEqProofs (disch := omega) only [go_sem, ↓reduceIte]; rw [hv]
def code_spec_l02Ok : VCode := (.seq (.ops [
  ⟨(some 2), none, (.asg (.const (.bool false)))⟩]) (.seq (.seq (.ops [
  ⟨(some 8), none, (.mv (.tmp 0))⟩,
  ⟨(some 9), none, (.nilc (.tmp 8))⟩,
  ⟨(some 10), none, (.fa 0 (.tmp 9))⟩,
  ⟨(some 11), none, (.load 1 false (.tmp 10))⟩,
  ⟨(some 12), none, (.len (.tmp 11))⟩,
  ⟨(some 13), none, (.bin .gtr (.tmp 12) (.const (.int .i64 200)))⟩,
  ⟨(some 14), none, (.mv (.tmp 13))⟩,
  ⟨(some 15), (some (14, false)), (.mv (.tmp 0))⟩,
  ⟨(some 16), (some (14, false)), (.nilc (.tmp 15))⟩,
  ⟨(some 17), (some (14, false)), (.fa 1 (.tmp 16))⟩,
  ⟨(some 18), (some (14, false)), (.load 1 false (.tmp 17))⟩,
  ⟨(some 19), (some (14, false)), (.len (.tmp 18))⟩,
  ⟨(some 20), (some (14, false)), (.bin .lss (.tmp 19) (.const (.int .i64 1)))⟩,
  ⟨(some 21), none, (.pick (.tmp 14) (.const (.bool true)) (.tmp 20))⟩,
  ⟨(some 22), none, (.mv (.tmp 21))⟩,
  ⟨(some 23), (some (22, false)), (.mv (.tmp 0))⟩,
  ⟨(some 24), (some (22, false)), (.nilc (.tmp 23))⟩,
  ⟨(some 25), (some (22, false)), (.fa 1 (.tmp 24))⟩,
  ⟨(some 26), (some (22, false)), (.load 1 false (.tmp 25))⟩,
  ⟨(some 27), (some (22, false)), (.len (.tmp 26))⟩,
  ⟨(some 28), (some (22, false)), (.bin .gtr (.tmp 27) (.const (.int .i64 160)))⟩,
  ⟨(some 29), none, (.pick (.tmp 22) (.const (.bool true)) (.tmp 28))⟩]) (.cond (.tmp 29) (.seq (.ops [
  ⟨(some 2), none, (.asg (.const (.bool false)))⟩]) .ret) .skip)) (.seq (.seq (.ops [
  ⟨(some 3), none, (.asg (.const (.int .i64 0)))⟩]) (.block 0 (.loop (mB 115 41538374868278621028243970633760758) (.seq (.seq (.ops [
  ⟨(some 30), none, (.mv (.tmp 3))⟩,
  ⟨(some 31), none, (.mv (.tmp 0))⟩,
  ⟨(some 32), none, (.nilc (.tmp 31))⟩,
  ⟨(some 33), none, (.fa 0 (.tmp 32))⟩,
  ⟨(some 34), none, (.load 1 false (.tmp 33))⟩,
  ⟨(some 35), none, (.len (.tmp 34))⟩,
  ⟨(some 36), none, (.bin .lss (.tmp 30) (.tmp 35))⟩]) (.cond (.tmp 36) .skip (.exit 0))) (.seq (.block 1 (.seq (.ops [
  ⟨(some 39), none, (.mv (.tmp 0))⟩,
  ⟨(some 40), none, (.nilc (.tmp 39))⟩,
  ⟨(some 41), none, (.fa 0 (.tmp 40))⟩,
  ⟨(some 42), none, (.load 1 false (.tmp 41))⟩,
  ⟨(some 43), none, (.mv (.tmp 3))⟩,
  ⟨(some 44), none, (.ia 2 (.tmp 42) (.tmp 43))⟩,
  ⟨(some 45), none, (.load 2 true (.tmp 44))⟩,
  ⟨(some 4), none, (.alloc [(.string ⟨⟨[]⟩⟩), (.int .i64 0)])⟩,
  ⟨none, none, (.store 2 (.tmp 4) (.tmp 45))⟩]) (.seq (.ops [
  ⟨(some 46), none, (.fa 0 (.tmp 4))⟩,
  ⟨(some 47), none, (.load 1 false (.tmp 46))⟩,
  ⟨(some 48), none, (.callX 138 [(.tmp 47)])⟩,
  ⟨(some 49), none, (.un .not (.tmp 48))⟩,
  ⟨(some 50), none, (.mv (.tmp 49))⟩,
  ⟨(some 51), (some (50, false)), (.fa 1 (.tmp 4))⟩,
  ⟨(some 52), (some (50, false)), (.load 1 false (.tmp 51))⟩,
  ⟨(some 53), (some (50, false)), (.callX 50 [(.tmp 52), (.const (.int .i64 1)), (.const (.int .i64 4))])⟩,
  ⟨(some 54), (some (50, false)), (.un .not (.tmp 53))⟩,
  ⟨(some 55), none, (.pick (.tmp 50) (.const (.bool true)) (.tmp 54))⟩,
  ⟨(some 56), none, (.mv (.tmp 55))⟩,
  ⟨(some 57), (some (56, false)), (.mv (.tmp 0))⟩,
  ⟨(some 58), (some (56, false)), (.fa 0 (.tmp 4))⟩,
  ⟨(some 59), (some (56, false)), (.load 1 false (.tmp 58))⟩,
  ⟨(some 60), (some (56, false)), (.callX 139 [(.tmp 57), (.tmp 59)])⟩,
  ⟨(some 61), (some (56, false)), (.mv (.tmp 3))⟩,
  ⟨(some 62), (some (56, false)), (.bin .add (.tmp 61) (.const (.int .i64 1)))⟩,
  ⟨(some 63), (some (56, false)), (.bin .neq (.tmp 60) (.tmp 62))⟩,
  ⟨(some 64), none, (.pick (.tmp 56) (.const (.bool true)) (.tmp 63))⟩]) (.cond (.tmp 64) (.seq (.ops [
  ⟨(some 2), none, (.asg (.const (.bool false)))⟩]) .ret) .skip)))) (.ops [
  ⟨(some 37), none, (.mv (.tmp 3))⟩,
  ⟨(some 38), none, (.bin .add (.tmp 37) (.const (.int .i64 1)))⟩,
  ⟨(some 3), none, (.asg (.tmp 38))⟩])))))) (.seq (.seq (.ops [
  ⟨(some 5), none, (.asg (.const (.int .i64 0)))⟩]) (.block 2 (.loop (mB 115 41538374868278621028243970633760734) (.seq (.seq (.ops [
  ⟨(some 65), none, (.mv (.tmp 5))⟩,
  ⟨(some 66), none, (.mv (.tmp 0))⟩,
  ⟨(some 67), none, (.nilc (.tmp 66))⟩,
  ⟨(some 68), none, (.fa 1 (.tmp 67))⟩,
  ⟨(some 69), none, (.load 1 false (.tmp 68))⟩,
  ⟨(some 70), none, (.len (.tmp 69))⟩,
  ⟨(some 71), none, (.bin .lss (.tmp 65) (.tmp 70))⟩]) (.cond (.tmp 71) .skip (.exit 2))) (.seq (.block 3 (.seq (.ops [
  ⟨(some 74), none, (.mv (.tmp 0))⟩,
  ⟨(some 75), none, (.nilc (.tmp 74))⟩,
  ⟨(some 76), none, (.fa 1 (.tmp 75))⟩,
  ⟨(some 77), none, (.load 1 false (.tmp 76))⟩,
  ⟨(some 78), none, (.mv (.tmp 5))⟩,
  ⟨(some 79), none, (.ia 2 (.tmp 77) (.tmp 78))⟩,
  ⟨(some 80), none, (.load 2 true (.tmp 79))⟩,
  ⟨(some 6), none, (.alloc [(.string ⟨⟨[]⟩⟩), (.slice none 0 0)])⟩,
  ⟨none, none, (.store 2 (.tmp 6) (.tmp 80))⟩]) (.seq (.seq (.ops [
  ⟨(some 81), none, (.fa 0 (.tmp 6))⟩,
  ⟨(some 82), none, (.load 1 false (.tmp 81))⟩,
  ⟨(some 83), none, (.callX 138 [(.tmp 82)])⟩,
  ⟨(some 84), none, (.un .not (.tmp 83))⟩,
  ⟨(some 85), none, (.mv (.tmp 84))⟩,
  ⟨(some 86), (some (85, false)), (.fa 1 (.tmp 6))⟩,
  ⟨(some 87), (some (85, false)), (.load 1 false (.tmp 86))⟩,
  ⟨(some 88), (some (85, false)), (.len (.tmp 87))⟩,
  ⟨(some 89), (some (85, false)), (.bin .neq (.tmp 88) (.const (.int .i64 4)))⟩,
  ⟨(some 90), none, (.pick (.tmp 85) (.const (.bool true)) (.tmp 89))⟩,
  ⟨(some 91), none, (.mv (.tmp 90))⟩,
  ⟨(some 92), (some (91, false)), (.mv (.tmp 0))⟩,
  ⟨(some 93), (some (91, false)), (.fa 0 (.tmp 6))⟩,
  ⟨(some 94), (some (91, false)), (.load 1 false (.tmp 93))⟩,
  ⟨(some 95), (some (91, false)), (.callX 140 [(.tmp 92), (.tmp 94)])⟩,
  ⟨(some 96), (some (91, false)), (.mv (.tmp 5))⟩,
  ⟨(some 97), (some (91, false)), (.bin .neq (.tmp 95) (.tmp 96))⟩,
  ⟨(some 98), none, (.pick (.tmp 91) (.const (.bool true)) (.tmp 97))⟩]) (.cond (.tmp 98) (.seq (.ops [
  ⟨(some 2), none, (.asg (.const (.bool false)))⟩]) .ret) .skip)) (.seq (.ops [
  ⟨(some 7), none, (.asg (.const (.int .i64 0)))⟩]) (.block 4 (.loop (mB 115 41538374868278621028243970633760542) (.seq (.seq (.ops [
  ⟨(some 99), none, (.mv (.tmp 7))⟩,
  ⟨(some 100), none, (.bin .lss (.tmp 99) (.const (.int .i64 4)))⟩]) (.cond (.tmp 100) .skip (.exit 4))) (.seq (.block 5 (.seq (.draw (mB 113 10374452512267829421849019032797184) [] [⟨0, (mB 113 10374452512267829421849019032797184), [], ⟨(some 103), none, (.fa 1 (.tmp 6))⟩⟩, ⟨1, (mB 113 10364311307466003586637045407154176), [], ⟨(some 104), none, (.load 1 false (.tmp 103))⟩⟩, ⟨2, (mB 113 10374452512267829421849019032797184), [], ⟨(some 105), none, (.mv (.tmp 7))⟩⟩, ⟨3, (mB 113 10303464078655048575365203653296128), [], ⟨(some 106), none, (.ia 1 (.tmp 104) (.tmp 105))⟩⟩, ⟨4, (mB 113 10222334440240441893669414648152064), [], ⟨(some 107), none, (.load 1 false (.tmp 106))⟩⟩, ⟨5, (mB 113 10374452512267829421849019032797184), [], ⟨(some 108), none, (.mv (.tmp 0))⟩⟩, ⟨6, (mB 113 10049933958609402695065863012220928), [], ⟨(some 109), none, (.nilc (.tmp 108))⟩⟩, ⟨7, (mB 113 9400896851292549241499550971068416), [], ⟨(some 110), none, (.fa 0 (.tmp 109))⟩⟩, ⟨8, (mB 113 8102822636658842334366926888763392), [], ⟨(some 111), none, (.load 1 false (.tmp 110))⟩⟩, ⟨9, (mB 113 5506674207391428520101678724153344), [], ⟨(some 112), none, (.len (.tmp 111))⟩⟩] [⟨(some 113), none, (.callX 50 [(.tmp 107), (.const (.int .i64 0)), (.tmp 112)])⟩, ⟨(some 114), none, (.un .not (.tmp 113))⟩]) (.cond (.tmp 114) (.seq (.ops [
  ⟨(some 2), none, (.asg (.const (.bool false)))⟩]) .ret) .skip))) (.ops [
  ⟨(some 101), none, (.mv (.tmp 7))⟩,
  ⟨(some 102), none, (.bin .add (.tmp 101) (.const (.int .i64 1)))⟩,
  ⟨(some 7), none, (.asg (.tmp 102))⟩]))))))))) (.ops [
  ⟨(some 72), none, (.mv (.tmp 5))⟩,
  ⟨(some 73), none, (.bin .add (.tmp 72) (.const (.int .i64 1)))⟩,
  ⟨(some 5), none, (.asg (.tmp 73))⟩])))))) (.seq (.ops [
  ⟨(some 2), none, (.asg (.const (.bool true)))⟩]) .ret)))))
theorem law_spec_l02Ok {a0 d : D} (h : code_spec_l02Ok.wp (CT Try.prog NoG) (endQ [(.t 2)] d) [a0, .undef, .undef, .undef, .undef, .undef, .undef, .undef, .undef, .undef, .undef, .undef, .undef, .undef, .undef, .undef, .undef, .undef, .undef, .undef, .undef, .undef, .undef, .undef, .undef, .undef, .undef, .undef, .undef, .undef, .undef, .undef, .undef, .undef, .undef, .undef, .undef, .undef, .undef, .undef, .undef, .undef, .undef, .undef, .undef, .undef, .undef, .undef, .undef, .undef, .undef, .undef, .undef, .undef, .undef, .undef, .undef, .undef, .undef, .undef, .undef, .undef, .undef, .undef, .undef, .undef, .undef, .undef, .undef, .undef, .undef, .undef, .undef, .undef, .undef, .undef, .undef, .undef, .undef, .undef, .undef, .undef, .undef, .undef, .undef, .undef, .undef, .undef, .undef, .undef, .undef, .undef, .undef, .undef, .undef, .undef, .undef, .undef, .undef, .undef, .undef, .undef, .undef, .undef, .undef, .undef, .undef, .undef, .undef, .undef, .undef, .undef, .undef, .undef, .undef]) : Contract Try.prog NoG 99 [a0] d :=
  contract_of noG Try.func99 (fun us W => by kernel_rfl) (c := Try.f99.body.getD .skip) (ms := [(mB 115 41538374868278621028243970633760758), (mB 115 41538374868278621028243970633760734), (mB 115 41538374868278621028243970633760542)]) (ms' := []) (by kernel_rfl) (by kernel_rfl) (by kernel_rfl) h
set_option maxHeartbeats 4000000 in
theorem v_l02Ok (a : TileSet) (ha : setB a) : Contract Try.prog NoG 99 [.iptr (TileSet.td.d false a) 0] (.v (.bool (okSet a))) := by
  have hag := ha.g; have hat := ha.t; rw [TileSet.td_d]; refine law_spec_l02Ok ?_; unfold code_spec_l02Ok; by_cases hg : a.Glues.length ≤ 200
  · have f1 : decide ((200 : Int) < (a.Glues.length : Int)) = false := decide_eq_false (by omega); by_cases ht : 1 ≤ a.Tiles.length
    · have f2 : decide ((a.Tiles.length : Int) < 1) = false := decide_eq_false (by omega); by_cases ht2 : a.Tiles.length ≤ 160
      · have f3 : decide ((160 : Int) < (a.Tiles.length : Int)) = false := decide_eq_false (by omega); simp -implicitDefEqProofs (disch := omega) only [go_sem, ↓reduceIte , List.length_map, f1, f2, f3]; refine loop_st (fun i : Nat => [.iptr [.sl false 2 (a.Glues.map (Glue.td.d false)), .sl false 2 (a.Tiles.map (Tile.td.d false))] 0, .undef, .undef, .v (.int .i64 i), .undef, .undef, .undef, .undef, .undef, .undef, .undef, .undef, .undef, .undef, .undef, .undef, .undef, .undef, .undef, .undef, .undef, .undef, .undef, .undef, .undef, .undef, .undef, .undef, .undef, .undef, .undef, .undef, .undef, .undef, .undef, .undef, .undef, .undef, .undef, .undef, .undef, .undef, .undef, .undef, .undef, .undef, .undef, .undef, .undef, .undef, .undef, .undef, .undef, .undef, .undef, .undef, .undef, .undef, .undef, .undef, .undef, .undef, .undef, .undef, .undef, .undef, .undef, .undef, .undef, .undef, .undef, .undef, .undef, .undef, .undef, .undef, .undef, .undef, .undef, .undef, .undef, .undef, .undef, .undef, .undef, .undef, .undef, .undef, .undef, .undef, .undef, .undef, .undef, .undef, .undef, .undef, .undef, .undef, .undef, .undef, .undef, .undef, .undef, .undef, .undef, .undef, .undef, .undef, .undef, .undef, .undef, .undef, .undef, .undef, .undef]) (fun i => i ≤ a.Glues.length ∧ (List.range i).all (okG a.Glues) = true) (fun i => a.Glues.length - i) 0 (by (try simp -implicitDefEqProofs only [nleL_cc, nleL_nn, nle_self, nle_boxs, nle_aggs, nle_nils, and_self, and_true, true_and]) <;> repeat' (first | exact nle_of_eq rfl | exact nle_nil | apply And.intro | apply nle_sl | apply nleLL_cons | apply nleL_cons | exact nleL_nil | exact nleLL_nil | apply nle_box | apply nle_agg)) ⟨Nat.zero_le _, rfl⟩ ?_; rintro i ⟨hi, hall⟩; simp -implicitDefEqProofs (disch := omega) only [go_sem, ↓reduceIte , List.length_map, Int.toNat_natCast, Int.ofNat_lt, Int.natCast_nonneg, List.getElem?_map, Option.map_some]; refine cond_split ?_ ?_ <;> intro hlt
        · have hlt : i < a.Glues.length := (by simpa using hlt); have e1 := List.getElem?_eq_getElem hlt; have hok := okG_at hlt; simp -implicitDefEqProofs (disch := omega) only [go_sem, ↓reduceIte , List.length_map, Int.toNat_natCast, Int.ofNat_lt, Int.natCast_nonneg, List.getElem?_map, Option.map_some, hlt, e1, Glue.td_d]; refine call_leA (vIsName_spec _ (ha.gn _ (List.getElem_mem hlt))) (by simp -implicitDefEqProofs (disch := omega) only [go_sem, ↓reduceIte, deep, TD.rows, immLL_rI, immLL_rB8, immLL_rS, immLL_rBo, immLL_rII]; exact rfl) (by repeat (first | exact leL_nil | refine leL_cons ?_ ?_ | exact le_of_eq rfl | exact le_iptrN (leL_of_eq rfl) | refine le_agg ?_ | exact le_slf rfl (TD.rows ..) | refine le_iptr ?_ | refine le_fn ?_ ?_)) (by first | exact .inl rfl | exact .inr rfl | exact .inl (by simp only [D.noImm, noImmL, go_sem, TD.nims, TD.nim, nim_rI, nim_rB8, nim_rBo, nim_rS])) ?_; simp -implicitDefEqProofs (disch := omega) only [go_sem, ↓reduceIte]; refine guard_split ?_ ?_ <;> intro h1
          · simp -implicitDefEqProofs (disch := omega) only [go_sem, ↓reduceIte , h1]; simp only [Bool.not_eq_true'] at h1; rw [okSet_g hlt (by rw [hok, h1]; rfl)]
          · simp only [Bool.not_eq_false'] at h1; simp -implicitDefEqProofs (disch := omega) only [go_sem, ↓reduceIte , h1]; refine call_leA (v_l00In _ _ _) (by simp -implicitDefEqProofs (disch := omega) only [go_sem, ↓reduceIte, deep, TD.rows, immLL_rI, immLL_rB8, immLL_rS, immLL_rBo, immLL_rII]; exact rfl) (by repeat (first | exact leL_nil | refine leL_cons ?_ ?_ | exact le_of_eq rfl | exact le_iptrN (leL_of_eq rfl) | refine le_agg ?_ | exact le_slf rfl (TD.rows ..) | refine le_iptr ?_ | refine le_fn ?_ ?_)) (by first | exact .inl rfl | exact .inr rfl | exact .inl (by simp only [D.noImm, noImmL, go_sem, TD.nims, TD.nim, nim_rI, nim_rB8, nim_rBo, nim_rS])) ?_; simp -implicitDefEqProofs (disch := omega) only [go_sem, ↓reduceIte]; refine guard_split ?_ ?_ <;> intro h2
            · simp -implicitDefEqProofs (disch := omega) only [go_sem, ↓reduceIte , h2]; simp only [Bool.not_eq_true'] at h2; rw [okSet_g hlt (by rw [hok, h1, h2]; rfl)]
            · simp only [Bool.not_eq_false'] at h2; simp -implicitDefEqProofs (disch := omega) only [go_sem, ↓reduceIte , h2]; refine call_leA (v_l02Glue a a.Glues[i].Name hag) (by simp -implicitDefEqProofs (disch := omega) only [go_sem, ↓reduceIte, deep, TD.rows, immLL_rI, immLL_rB8, immLL_rS, immLL_rBo, immLL_rII, wrN]; exact rfl) (by repeat (first | exact leL_nil | refine leL_cons ?_ ?_ | exact le_of_eq rfl | exact le_iptrN (leL_of_eq rfl) | refine le_agg ?_ | exact le_slf rfl (TD.rows ..) | refine le_iptr ?_ | refine le_fn ?_ ?_)) (by first | exact .inl rfl | exact .inr rfl | exact .inl (by simp only [D.noImm, noImmL, go_sem, TD.nims, TD.nim, nim_rI, nim_rB8, nim_rBo, nim_rS])) ?_; simp -implicitDefEqProofs (disch := omega) only [go_sem, ↓reduceIte , wrN]; have hself : (!decide (gIdx a.Glues a.Glues[i].Name + 1 = ((i + 1 : Nat) : Int))) = (a.Glues.take i).any (fun x => decide (x.Name = a.Glues[i].Name)) := by have h3 : decide (gIdx a.Glues a.Glues[i].Name + 1 = ((i + 1 : Nat) : Int)) = decide (gIdx a.Glues a.Glues[i].Name = (i : Int)) := (by rw [decide_eq_decide]; omega); have h4 : decide (gIdx a.Glues a.Glues[i].Name = (i : Int)) = !(a.Glues.take i).any (fun x => decide (x.Name = a.Glues[i].Name)) := vIdx_self (fun g : Glue => g.Name) a.Glues i hlt; rw [h3, h4, Bool.not_not]
              rw [hself]; refine cond_split ?_ ?_ <;> intro h3
              · simp -implicitDefEqProofs (disch := omega) only [go_sem, ↓reduceIte]; rw [okSet_g hlt (by rw [hok, h1, h2, h3]; rfl)]
              · simp -implicitDefEqProofs (disch := omega) only [go_sem, ↓reduceIte , wrN]; exact ⟨i + 1, by omega, ⟨hlt, all_next hall (by rw [hok, h1, h2, h3]; rfl)⟩, by (try simp -implicitDefEqProofs only [nleL_cc, nleL_nn, nle_self, nle_boxs, nle_aggs, nle_nils, and_self, and_true, true_and]) <;> repeat' (first | exact nle_of_eq rfl | exact nle_nil | apply And.intro | apply nle_sl | apply nleLL_cons | apply nleL_cons | exact nleL_nil | exact nleLL_nil | apply nle_box | apply nle_agg)⟩
        · have hge : i = a.Glues.length := by have : ¬ i < a.Glues.length := by simpa using hlt
                                              omega
          subst hge; simp -implicitDefEqProofs (disch := omega) only [go_sem, ↓reduceIte]; refine loop_st (fun i : Nat => [.iptr [.sl false 2 (a.Glues.map (Glue.td.d false)), .sl false 2 (a.Tiles.map (Tile.td.d false))] 0, .undef, .undef, .undef, .undef, .v (.int .i64 i), .undef, .undef, .undef, .undef, .undef, .undef, .undef, .undef, .undef, .undef, .undef, .undef, .undef, .undef, .undef, .undef, .undef, .undef, .undef, .undef, .undef, .undef, .undef, .undef, .undef, .undef, .undef, .undef, .undef, .undef, .undef, .undef, .undef, .undef, .undef, .undef, .undef, .undef, .undef, .undef, .undef, .undef, .undef, .undef, .undef, .undef, .undef, .undef, .undef, .undef, .undef, .undef, .undef, .undef, .undef, .undef, .undef, .undef, .undef, .undef, .undef, .undef, .undef, .undef, .undef, .undef, .undef, .undef, .undef, .undef, .undef, .undef, .undef, .undef, .undef, .undef, .undef, .undef, .undef, .undef, .undef, .undef, .undef, .undef, .undef, .undef, .undef, .undef, .undef, .undef, .undef, .undef, .undef, .undef, .undef, .undef, .undef, .undef, .undef, .undef, .undef, .undef, .undef, .undef, .undef, .undef, .undef, .undef, .undef]) (fun i => i ≤ a.Tiles.length ∧ (List.range i).all (okT a.Glues.length a.Tiles) = true) (fun i => a.Tiles.length - i) 0 (by (try simp -implicitDefEqProofs only [nleL_cc, nleL_nn, nle_self, nle_boxs, nle_aggs, nle_nils, and_self, and_true, true_and]) <;> repeat' (first | exact nle_of_eq rfl | exact nle_nil | apply And.intro | apply nle_sl | apply nleLL_cons | apply nleL_cons | exact nleL_nil | exact nleLL_nil | apply nle_box | apply nle_agg)) ⟨Nat.zero_le _, rfl⟩ ?_; rintro i ⟨hi, hallT⟩; simp -implicitDefEqProofs (disch := omega) only [go_sem, ↓reduceIte , List.length_map, Int.toNat_natCast, Int.ofNat_lt, Int.natCast_nonneg, List.getElem?_map, Option.map_some]; refine cond_split ?_ ?_ <;> intro hlt
          · have hlt : i < a.Tiles.length := (by simpa using hlt); have e1 := List.getElem?_eq_getElem hlt; have hok : okT a.Glues.length a.Tiles i = _ := okT_at hlt; have hsl := ha.ts _ (List.getElem_mem hlt); simp -implicitDefEqProofs (disch := omega) only [go_sem, ↓reduceIte , List.length_map, Int.toNat_natCast, Int.ofNat_lt, Int.natCast_nonneg, List.getElem?_map, Option.map_some, hlt, e1, Tile.td_d]; refine call_leA (vIsName_spec _ (ha.tn _ (List.getElem_mem hlt))) (by simp -implicitDefEqProofs (disch := omega) only [go_sem, ↓reduceIte, deep, TD.rows, immLL_rI, immLL_rB8, immLL_rS, immLL_rBo, immLL_rII]; exact rfl) (by repeat (first | exact leL_nil | refine leL_cons ?_ ?_ | exact le_of_eq rfl | exact le_iptrN (leL_of_eq rfl) | refine le_agg ?_ | exact le_slf rfl (TD.rows ..) | refine le_iptr ?_ | refine le_fn ?_ ?_)) (by first | exact .inl rfl | exact .inr rfl | exact .inl (by simp only [D.noImm, noImmL, go_sem, TD.nims, TD.nim, nim_rI, nim_rB8, nim_rBo, nim_rS])) ?_; simp -implicitDefEqProofs (disch := omega) only [go_sem, ↓reduceIte]; refine guard_split ?_ ?_ <;> intro h1
            · simp -implicitDefEqProofs (disch := omega) only [go_sem, ↓reduceIte , h1]; simp only [Bool.not_eq_true'] at h1; rw [okSet_t hlt (by rw [hok, h1]; rfl)]
            · simp only [Bool.not_eq_false'] at h1; simp -implicitDefEqProofs (disch := omega) only [go_sem, ↓reduceIte , h1, List.length_map]; have h4e : decide ((a.Tiles[i].Sides.length : Int) = 4) = decide (a.Tiles[i].Sides.length = 4) := by rw [decide_eq_decide]; omega
              refine guard_split ?_ ?_ <;> intro h2
              · simp -implicitDefEqProofs (disch := omega) only [go_sem, ↓reduceIte , h2]; simp only [Bool.not_eq_true', h4e] at h2; rw [okSet_t hlt (by rw [hok, h1, h2]; rfl)]
              · have h2' := h2; simp only [Bool.not_eq_false', h4e] at h2'; simp -implicitDefEqProofs (disch := omega) only [go_sem, ↓reduceIte , h2]; refine call_leA (v_l02Tile a a.Tiles[i].Name hat) (by simp -implicitDefEqProofs (disch := omega) only [go_sem, ↓reduceIte, deep, TD.rows, immLL_rI, immLL_rB8, immLL_rS, immLL_rBo, immLL_rII]; exact rfl) (by repeat (first | exact leL_nil | refine leL_cons ?_ ?_ | exact le_of_eq rfl | exact le_iptrN (leL_of_eq rfl) | refine le_agg ?_ | exact le_slf rfl (TD.rows ..) | refine le_iptr ?_ | refine le_fn ?_ ?_)) (by first | exact .inl rfl | exact .inr rfl | exact .inl (by simp only [D.noImm, noImmL, go_sem, TD.nims, TD.nim, nim_rI, nim_rB8, nim_rBo, nim_rS])) ?_; simp -implicitDefEqProofs (disch := omega) only [go_sem, ↓reduceIte]; have h4 : decide (tIdx a.Tiles a.Tiles[i].Name = (i : Int)) = !(a.Tiles.take i).any (fun x => decide (x.Name = a.Tiles[i].Name)) := vIdx_self (fun g : Tile => g.Name) a.Tiles i hlt; rw [h4, Bool.not_not]; refine cond_split ?_ ?_ <;> intro h3
                · simp -implicitDefEqProofs (disch := omega) only [go_sem, ↓reduceIte]; rw [okSet_t hlt (by rw [hok, h1, h2', h3]; rfl)]
                · have h44 : a.Tiles[i].Sides.length = 4 := (by simpa using h2'); simp -implicitDefEqProofs (disch := omega) only [go_sem, ↓reduceIte]; refine loop_st (fun k : Nat => [.iptr [.sl false 2 (a.Glues.map (Glue.td.d false)), .sl false 2 (a.Tiles.map (Tile.td.d false))] 0, .undef, .undef, .undef, .undef, .v (.int .i64 i), .box none [.v (.string a.Tiles[i].Name), .sl false 1 (a.Tiles[i].Sides.map rI)], .v (.int .i64 k), .undef, .undef, .undef, .undef, .undef, .undef, .undef, .undef, .undef, .undef, .undef, .undef, .undef, .undef, .undef, .undef, .undef, .undef, .undef, .undef, .undef, .undef, .undef, .undef, .undef, .undef, .undef, .undef, .undef, .undef, .undef, .undef, .undef, .undef, .undef, .undef, .undef, .undef, .undef, .undef, .undef, .undef, .undef, .undef, .undef, .undef, .undef, .undef, .undef, .undef, .undef, .undef, .undef, .undef, .undef, .undef, .undef, .undef, .undef, .undef, .undef, .undef, .undef, .undef, .undef, .undef, .undef, .undef, .undef, .undef, .undef, .undef, .undef, .undef, .undef, .undef, .undef, .undef, .undef, .undef, .undef, .undef, .undef, .undef, .undef, .undef, .undef, .undef, .undef, .undef, .undef, .undef, .undef, .undef, .undef, .undef, .undef, .undef, .undef, .undef, .undef, .undef, .undef, .undef, .undef, .undef, .undef]) (fun k => k ≤ 4 ∧ (a.Tiles[i].Sides.take k).all (inR 0 a.Glues.length) = true) (fun k => 4 - k) 0 (by (try simp -implicitDefEqProofs only [nleL_cc, nleL_nn, nle_self, nle_boxs, nle_aggs, nle_nils, and_self, and_true, true_and]) <;> repeat' (first | exact nle_of_eq rfl | exact nle_nil | apply And.intro | apply nle_sl | apply nleLL_cons | apply nleL_cons | exact nleL_nil | exact nleLL_nil | apply nle_box | apply nle_agg)) ⟨Nat.zero_le _, rfl⟩ ?_; rintro k ⟨hk, hkall⟩; simp -implicitDefEqProofs (disch := omega) only [go_sem, ↓reduceIte , List.length_map, Int.toNat_natCast, Int.ofNat_lt, Int.natCast_nonneg, List.getElem?_map, Option.map_some]; refine cond_split ?_ ?_ <;> intro hlk
                  · have hlk : k < 4 := (by have := of_decide_eq_true hlk; omega); have hlk' : k < a.Tiles[i].Sides.length := (by omega); have e2 := List.getElem?_eq_getElem hlk'; simp -implicitDefEqProofs (disch := omega) only [go_sem, ↓reduceIte , List.length_map, Int.toNat_natCast, Int.ofNat_lt, Int.natCast_nonneg, List.getElem?_map, Option.map_some, hlk', e2]; refine call_leA (v_l00In _ _ _) (by simp -implicitDefEqProofs (disch := omega) only [go_sem, ↓reduceIte, deep, TD.rows, immLL_rI, immLL_rB8, immLL_rS, immLL_rBo, immLL_rII]; exact rfl) (by repeat (first | exact leL_nil | refine leL_cons ?_ ?_ | exact le_of_eq rfl | exact le_iptrN (leL_of_eq rfl) | refine le_agg ?_ | exact le_slf rfl (TD.rows ..) | refine le_iptr ?_ | refine le_fn ?_ ?_)) (by first | exact .inl rfl | exact .inr rfl | exact .inl (by simp only [D.noImm, noImmL, go_sem, TD.nims, TD.nim, nim_rI, nim_rB8, nim_rBo, nim_rS])) ?_; simp -implicitDefEqProofs (disch := omega) only [go_sem, ↓reduceIte]; refine cond_split ?_ ?_ <;> intro h5
                    · simp -implicitDefEqProofs (disch := omega) only [go_sem, ↓reduceIte]; simp only [Bool.not_eq_true'] at h5; have : a.Tiles[i].Sides.all (inR 0 a.Glues.length) = false := by rw [List.all_eq_false]; exact ⟨_, List.getElem_mem hlk', by simp [h5]⟩
                      rw [okSet_t hlt (by rw [hok, h1, h2', h3, this]; rfl)]
                    · simp only [Bool.not_eq_false'] at h5; simp -implicitDefEqProofs (disch := omega) only [go_sem, ↓reduceIte , wrN]; refine ⟨k + 1, by omega, ⟨hlk, ?_⟩, by (try simp -implicitDefEqProofs only [nleL_cc, nleL_nn, nle_self, nle_boxs, nle_aggs, nle_nils, and_self, and_true, true_and]) <;> repeat' (first | exact nle_of_eq rfl | exact nle_nil | apply And.intro | apply nle_sl | apply nleLL_cons | apply nleL_cons | exact nleL_nil | exact nleLL_nil | apply nle_box | apply nle_agg)⟩; rw [List.take_succ_eq_append_getElem hlk', List.all_append, hkall]; simp [h5]
                  · have hk4 : k = 4 := (by have := of_decide_eq_false hlk; omega); subst hk4; simp -implicitDefEqProofs (disch := omega) only [go_sem, ↓reduceIte , wrN]; rw [List.take_of_length_le (by omega)] at hkall; exact ⟨i + 1, by omega, ⟨hlt, all_next hallT (by rw [hok, h1, h2', h3, hkall]; rfl)⟩, by (try simp -implicitDefEqProofs only [nleL_cc, nleL_nn, nle_self, nle_boxs, nle_aggs, nle_nils, and_self, and_true, true_and]) <;> repeat' (first | exact nle_of_eq rfl | exact nle_nil | apply And.intro | apply nle_sl | apply nleLL_cons | apply nleL_cons | exact nleL_nil | exact nleLL_nil | apply nle_box | apply nle_agg)⟩
          · have hge : i = a.Tiles.length := by have : ¬ i < a.Tiles.length := by simpa using hlt
                                                omega
            subst hge; simp -implicitDefEqProofs (disch := omega) only [go_sem, ↓reduceIte]; have hr : inR 1 160 a.Tiles.length = true := inR_iff.2 ⟨by omega, by omega⟩; unfold okSet; rw [hall, hallT, hr, decide_eq_true hg]; rfl
      · have f3 : decide ((160 : Int) < (a.Tiles.length : Int)) = true := decide_eq_true (by omega); have hr : inR 1 160 a.Tiles.length = false := (by unfold inR; rw [decide_eq_false (p := (a.Tiles.length : Int) ≤ 160) (by omega), Bool.and_false]); simp -implicitDefEqProofs (disch := omega) only [go_sem, ↓reduceIte , List.length_map, f1, f2, f3]; unfold okSet; rw [hr, Bool.false_and, Bool.and_false]
    · have f2 : decide ((a.Tiles.length : Int) < 1) = true := decide_eq_true (by omega); have hr : inR 1 160 a.Tiles.length = false := (by unfold inR; rw [decide_eq_false (p := (1 : Int) ≤ (a.Tiles.length : Int)) (by omega), Bool.false_and]); simp -implicitDefEqProofs (disch := omega) only [go_sem, ↓reduceIte , List.length_map, f1, f2]; unfold okSet; rw [hr, Bool.false_and, Bool.and_false]
  · have f1 : decide ((200 : Int) < (a.Glues.length : Int)) = true := decide_eq_true (by omega); simp -implicitDefEqProofs (disch := omega) only [go_sem, ↓reduceIte , List.length_map, f1]; unfold okSet; rw [decide_eq_false hg, Bool.false_and]
def code_impl_ValidSet : VCode := (.seq (.ops [
  ⟨(some 1), none, (.box (.tmp 0))⟩,
  ⟨(some 2), none, (.asg (.const (.bool false)))⟩]) (.seq (.seq (.ops [
  ⟨(some 9), none, (.fa 0 (.tmp 1))⟩,
  ⟨(some 10), none, (.load 1 false (.tmp 9))⟩,
  ⟨(some 11), none, (.len (.tmp 10))⟩,
  ⟨(some 12), none, (.bin .gtr (.tmp 11) (.const (.int .i64 200)))⟩,
  ⟨(some 13), none, (.mv (.tmp 12))⟩,
  ⟨(some 14), (some (13, false)), (.fa 1 (.tmp 1))⟩,
  ⟨(some 15), (some (13, false)), (.load 1 false (.tmp 14))⟩,
  ⟨(some 16), (some (13, false)), (.len (.tmp 15))⟩,
  ⟨(some 17), (some (13, false)), (.callX 58 [(.tmp 16), (.const (.int .i64 1)), (.const (.int .i64 160))])⟩,
  ⟨(some 18), (some (13, false)), (.un .not (.tmp 17))⟩,
  ⟨(some 19), none, (.pick (.tmp 13) (.const (.bool true)) (.tmp 18))⟩]) (.cond (.tmp 19) (.seq (.ops [
  ⟨(some 2), none, (.asg (.const (.bool false)))⟩]) .ret) .skip)) (.seq (.ops [
  ⟨(some 20), none, (.mkm .str)⟩,
  ⟨(some 3), none, (.asg (.tmp 20))⟩]) (.seq (.seq (.ops [
  ⟨(some 21), none, (.fa 0 (.tmp 1))⟩,
  ⟨(some 22), none, (.load 1 false (.tmp 21))⟩,
  ⟨(some 23), none, (.len (.tmp 22))⟩,
  ⟨(some 24), none, (.mv (.const (.int .i64 0)))⟩]) (.block 0 (.loop (mB 80 1208925819614629142200309) (.seq (.ops [
  ⟨(some 25), none, (.bin .lss (.tmp 24) (.tmp 23))⟩]) (.seq (.cond (.tmp 25) .skip (.exit 0)) (.seq (.block 1 (.seq (.ops [
  ⟨(some 26), none, (.ia 2 (.tmp 22) (.tmp 24))⟩,
  ⟨(some 27), none, (.load 2 true (.tmp 26))⟩,
  ⟨(some 5), none, (.alloc [(.string ⟨⟨[]⟩⟩), (.int .i64 0)])⟩,
  ⟨none, none, (.store 2 (.tmp 5) (.tmp 27))⟩]) (.seq (.seq (.ops [
  ⟨(some 28), none, (.fa 0 (.tmp 5))⟩,
  ⟨(some 29), none, (.load 1 false (.tmp 28))⟩,
  ⟨(some 30), none, (.callX 141 [(.tmp 29)])⟩,
  ⟨(some 31), none, (.un .not (.tmp 30))⟩,
  ⟨(some 32), none, (.mv (.tmp 31))⟩,
  ⟨(some 33), (some (32, false)), (.mv (.tmp 3))⟩,
  ⟨(some 34), (some (32, false)), (.fa 0 (.tmp 5))⟩,
  ⟨(some 35), (some (32, false)), (.load 1 false (.tmp 34))⟩,
  ⟨(some 36), (some (32, false)), (.mlk .str (.bool false) false (.tmp 33) (.tmp 35))⟩,
  ⟨(some 37), none, (.pick (.tmp 32) (.const (.bool true)) (.tmp 36))⟩,
  ⟨(some 38), none, (.mv (.tmp 37))⟩,
  ⟨(some 39), (some (38, false)), (.fa 1 (.tmp 5))⟩,
  ⟨(some 40), (some (38, false)), (.load 1 false (.tmp 39))⟩,
  ⟨(some 41), (some (38, false)), (.callX 58 [(.tmp 40), (.const (.int .i64 1)), (.const (.int .i64 4))])⟩,
  ⟨(some 42), (some (38, false)), (.un .not (.tmp 41))⟩,
  ⟨(some 43), none, (.pick (.tmp 38) (.const (.bool true)) (.tmp 42))⟩]) (.cond (.tmp 43) (.seq (.ops [
  ⟨(some 2), none, (.asg (.const (.bool false)))⟩]) .ret) .skip)) (.ops [
  ⟨(some 44), none, (.mv (.tmp 3))⟩,
  ⟨(some 45), none, (.fa 0 (.tmp 5))⟩,
  ⟨(some 46), none, (.load 1 false (.tmp 45))⟩,
  ⟨none, none, (.mupd .str (.tmp 44) (.tmp 46) (.const (.bool true)))⟩])))) (.ops [
  ⟨(some 47), none, (.bin .add (.tmp 24) (.const (.int .i64 1)))⟩,
  ⟨(some 24), none, (.mv (.tmp 47))⟩]))))))) (.seq (.ops [
  ⟨(some 48), none, (.mkm .str)⟩,
  ⟨(some 6), none, (.asg (.tmp 48))⟩]) (.seq (.seq (.ops [
  ⟨(some 49), none, (.fa 1 (.tmp 1))⟩,
  ⟨(some 50), none, (.load 1 false (.tmp 49))⟩,
  ⟨(some 51), none, (.len (.tmp 50))⟩,
  ⟨(some 52), none, (.mv (.const (.int .i64 0)))⟩]) (.block 2 (.loop (mB 80 1208925810888904896675773) (.seq (.ops [
  ⟨(some 53), none, (.bin .lss (.tmp 52) (.tmp 51))⟩]) (.seq (.cond (.tmp 53) .skip (.exit 2)) (.seq (.block 3 (.seq (.ops [
  ⟨(some 54), none, (.ia 2 (.tmp 50) (.tmp 52))⟩,
  ⟨(some 55), none, (.load 2 true (.tmp 54))⟩,
  ⟨(some 8), none, (.alloc [(.string ⟨⟨[]⟩⟩), (.slice none 0 0)])⟩,
  ⟨none, none, (.store 2 (.tmp 8) (.tmp 55))⟩]) (.seq (.seq (.ops [
  ⟨(some 56), none, (.fa 0 (.tmp 8))⟩,
  ⟨(some 57), none, (.load 1 false (.tmp 56))⟩,
  ⟨(some 58), none, (.callX 141 [(.tmp 57)])⟩,
  ⟨(some 59), none, (.un .not (.tmp 58))⟩,
  ⟨(some 60), none, (.mv (.tmp 59))⟩,
  ⟨(some 61), (some (60, false)), (.mv (.tmp 6))⟩,
  ⟨(some 62), (some (60, false)), (.fa 0 (.tmp 8))⟩,
  ⟨(some 63), (some (60, false)), (.load 1 false (.tmp 62))⟩,
  ⟨(some 64), (some (60, false)), (.mlk .str (.bool false) false (.tmp 61) (.tmp 63))⟩,
  ⟨(some 65), none, (.pick (.tmp 60) (.const (.bool true)) (.tmp 64))⟩,
  ⟨(some 66), none, (.mv (.tmp 65))⟩,
  ⟨(some 67), (some (66, false)), (.fa 1 (.tmp 8))⟩,
  ⟨(some 68), (some (66, false)), (.load 1 false (.tmp 67))⟩,
  ⟨(some 69), (some (66, false)), (.len (.tmp 68))⟩,
  ⟨(some 70), (some (66, false)), (.bin .neq (.tmp 69) (.const (.int .i64 4)))⟩,
  ⟨(some 71), none, (.pick (.tmp 66) (.const (.bool true)) (.tmp 70))⟩]) (.cond (.tmp 71) (.seq (.ops [
  ⟨(some 2), none, (.asg (.const (.bool false)))⟩]) .ret) .skip)) (.seq (.ops [
  ⟨(some 72), none, (.mv (.tmp 6))⟩,
  ⟨(some 73), none, (.fa 0 (.tmp 8))⟩,
  ⟨(some 74), none, (.load 1 false (.tmp 73))⟩,
  ⟨none, none, (.mupd .str (.tmp 72) (.tmp 74) (.const (.bool true)))⟩]) (.seq (.ops [
  ⟨(some 75), none, (.fa 1 (.tmp 8))⟩,
  ⟨(some 76), none, (.load 1 false (.tmp 75))⟩,
  ⟨(some 77), none, (.mkf 142 [] [(.tmp 1)])⟩,
  ⟨(some 78), none, (.callX 106 [(.tmp 76), (.tmp 77)])⟩]) (.cond (.tmp 78) (.seq (.ops [
  ⟨(some 2), none, (.asg (.const (.bool false)))⟩]) .ret) .skip)))))) (.ops [
  ⟨(some 79), none, (.bin .add (.tmp 52) (.const (.int .i64 1)))⟩,
  ⟨(some 52), none, (.mv (.tmp 79))⟩]))))))) (.seq (.ops [
  ⟨(some 2), none, (.asg (.const (.bool true)))⟩]) .ret)))))))
theorem law_impl_ValidSet {a0 d : D} (h : code_impl_ValidSet.wp (CT Try.prog NoG) (endQ [(.t 2)] d) [a0, .undef, .undef, .undef, .undef, .undef, .undef, .undef, .undef, .undef, .undef, .undef, .undef, .undef, .undef, .undef, .undef, .undef, .undef, .undef, .undef, .undef, .undef, .undef, .undef, .undef, .undef, .undef, .undef, .undef, .undef, .undef, .undef, .undef, .undef, .undef, .undef, .undef, .undef, .undef, .undef, .undef, .undef, .undef, .undef, .undef, .undef, .undef, .undef, .undef, .undef, .undef, .undef, .undef, .undef, .undef, .undef, .undef, .undef, .undef, .undef, .undef, .undef, .undef, .undef, .undef, .undef, .undef, .undef, .undef, .undef, .undef, .undef, .undef, .undef, .undef, .undef, .undef, .undef, .undef]) : Contract Try.prog NoG 104 [a0] d :=
  contract_of noG Try.func104 (fun us W => by kernel_rfl) (c := Try.f104.body.getD .skip) (ms := [(mB 80 1208925819614629142200309), (mB 80 1208925810888904896675773)]) (ms' := []) (by kernel_rfl) (by kernel_rfl) (by kernel_rfl) h
def code_impl_ValidSet_1 : VCode := (.seq (.ops [
  ⟨(some 3), none, (.asg (.const (.bool false)))⟩]) (.seq (.ops [
  ⟨(some 4), none, (.mv (.tmp 0))⟩,
  ⟨(some 5), none, (.fa 0 (.tmp 1))⟩,
  ⟨(some 6), none, (.load 1 false (.tmp 5))⟩,
  ⟨(some 7), none, (.len (.tmp 6))⟩,
  ⟨(some 8), none, (.callX 58 [(.tmp 4), (.const (.int .i64 0)), (.tmp 7)])⟩,
  ⟨(some 9), none, (.un .not (.tmp 8))⟩,
  ⟨(some 3), none, (.asg (.tmp 9))⟩]) .ret))
theorem law_impl_ValidSet_1 {a0 a1 d : D} (h : code_impl_ValidSet_1.wp (CT Try.prog NoG) (endQ [(.t 3)] d) [a0, a1, .undef, .undef, .undef, .undef, .undef, .undef, .undef, .undef]) : Contract Try.prog NoG 142 [a0, a1] d :=
  contract_of noG Try.func142 (fun us W => by kernel_rfl) (c := Try.f142.body.getD .skip) (ms := []) (ms' := []) (by kernel_rfl) (by kernel_rfl) (by kernel_rfl) h
theorem v_ValidSet1 (n : Int) (l : Nat) (gs ts : List (List D)) (hl : gs.length = l) : Contract Try.prog NoG 142 [.v (.int .i64 n), .iptr [.sl false 2 gs, .sl false 2 ts] 0] (.v (.bool (!inR 0 l n))) := by refine law_impl_ValidSet_1 ?_; unfold code_impl_ValidSet_1; simp -implicitDefEqProofs (disch := omega) only [go_sem, ↓reduceIte , hl]; refine call_leA (v_within _ _ _) (by simp -implicitDefEqProofs (disch := omega) only [go_sem, ↓reduceIte, deep, TD.rows, immLL_rI, immLL_rB8, immLL_rS, immLL_rBo, immLL_rII]; exact rfl) (by repeat (first | exact leL_nil | refine leL_cons ?_ ?_ | exact le_of_eq rfl | exact le_iptrN (leL_of_eq rfl) | refine le_agg ?_ | exact le_slf rfl (TD.rows ..) | refine le_iptr ?_ | refine le_fn ?_ ?_)) (by first | exact .inl rfl | exact .inr rfl | exact .inl (by simp only [D.noImm, noImmL, go_sem, TD.nims, TD.nim, nim_rI, nim_rB8, nim_rBo, nim_rS])) ?_; simp -implicitDefEqProofs (disch := omega) only [go_sem, ↓reduceIte]
set_option maxHeartbeats 4000000 in
theorem v_ValidSet (a : TileSet) (ha : setB a) : Contract Try.prog NoG 104 [.agg (TileSet.td.d false a)] (.v (.bool (okSet a))) := by
  have hag := ha.g; have hat := ha.t; rw [TileSet.td_d]; refine law_impl_ValidSet ?_; unfold code_impl_ValidSet; by_cases hg : a.Glues.length ≤ 200
  · have f1 : decide ((200 : Int) < (a.Glues.length : Int)) = false := decide_eq_false (by omega); simp -implicitDefEqProofs (disch := omega) only [go_sem, ↓reduceIte , List.length_map, f1]; refine call_leA (v_within _ _ _) (by simp -implicitDefEqProofs (disch := omega) only [go_sem, ↓reduceIte, deep, TD.rows, immLL_rI, immLL_rB8, immLL_rS, immLL_rBo, immLL_rII]; exact rfl) (by repeat (first | exact leL_nil | refine leL_cons ?_ ?_ | exact le_of_eq rfl | exact le_iptrN (leL_of_eq rfl) | refine le_agg ?_ | exact le_slf rfl (TD.rows ..) | refine le_iptr ?_ | refine le_fn ?_ ?_)) (by first | exact .inl rfl | exact .inr rfl | exact .inl (by simp only [D.noImm, noImmL, go_sem, TD.nims, TD.nim, nim_rI, nim_rB8, nim_rBo, nim_rS])) ?_; simp -implicitDefEqProofs (disch := omega) only [go_sem, ↓reduceIte]; refine cond_split ?_ ?_ <;> intro hr
    · simp -implicitDefEqProofs (disch := omega) only [go_sem, ↓reduceIte]; simp only [Bool.not_eq_true'] at hr; unfold okSet; rw [hr, Bool.false_and, Bool.and_false]
    · simp only [Bool.not_eq_false'] at hr; simp -implicitDefEqProofs (disch := omega) only [go_sem, ↓reduceIte , List.length_map]; refine loop_st (fun i : Nat => [.undef, .box none [.sl false 2 (a.Glues.map (Glue.td.d false)), .sl false 2 (a.Tiles.map (Tile.td.d false))], .undef, .mp .str (entsN (fun g : Glue => g.Name) (a.Glues.take i)), .undef, .undef, .undef, .undef, .undef, .undef, .undef, .undef, .undef, .undef, .undef, .undef, .undef, .undef, .undef, .undef, .undef, .ptr 1 [] 0 0, .sl false 2 (a.Glues.map (Glue.td.d false)), .v (.int .i64 a.Glues.length), .v (.int .i64 i), .undef, .undef, .undef, .undef, .undef, .undef, .undef, .undef, .undef, .undef, .undef, .undef, .undef, .undef, .undef, .undef, .undef, .undef, .undef, .undef, .undef, .undef, .undef, .undef, .undef, .undef, .undef, .undef, .undef, .undef, .undef, .undef, .undef, .undef, .undef, .undef, .undef, .undef, .undef, .undef, .undef, .undef, .undef, .undef, .undef, .undef, .undef, .undef, .undef, .undef, .undef, .undef, .undef, .undef, .undef]) (fun i => i ≤ a.Glues.length ∧ (List.range i).all (okG a.Glues) = true) (fun i => a.Glues.length - i) 0 (by (try simp -implicitDefEqProofs only [nleL_cc, nleL_nn, nle_self, nle_boxs, nle_aggs, nle_nils, and_self, and_true, true_and]) <;> repeat' (first | exact nle_of_eq rfl | exact nle_nil | apply And.intro | apply nle_sl | apply nleLL_cons | apply nleL_cons | exact nleL_nil | exact nleLL_nil | apply nle_box | apply nle_agg)) ⟨Nat.zero_le _, rfl⟩ ?_; rintro i ⟨hi, hall⟩; simp -implicitDefEqProofs (disch := omega) only [go_sem, ↓reduceIte , List.length_map, Int.toNat_natCast, Int.ofNat_lt, Int.natCast_nonneg, List.getElem?_map, Option.map_some]; refine cond_split ?_ ?_ <;> intro hlt
      · have hlt : i < a.Glues.length := (by simpa using hlt); have e1 := List.getElem?_eq_getElem hlt; have hok := okG_at hlt; have hget := mget_N (fun g : Glue => g.Name) a.Glues[i].Name (a.Glues.take i); simp -implicitDefEqProofs (disch := omega) only [go_sem, ↓reduceIte , List.length_map, Int.toNat_natCast, Int.ofNat_lt, Int.natCast_nonneg, List.getElem?_map, Option.map_some, hlt, e1, Glue.td_d]; refine call_leA (vIsName_impl _ (ha.gn _ (List.getElem_mem hlt))) (by simp -implicitDefEqProofs (disch := omega) only [go_sem, ↓reduceIte, deep, TD.rows, immLL_rI, immLL_rB8, immLL_rS, immLL_rBo, immLL_rII]; exact rfl) (by repeat (first | exact leL_nil | refine leL_cons ?_ ?_ | exact le_of_eq rfl | exact le_iptrN (leL_of_eq rfl) | refine le_agg ?_ | exact le_slf rfl (TD.rows ..) | refine le_iptr ?_ | refine le_fn ?_ ?_)) (by first | exact .inl rfl | exact .inr rfl | exact .inl (by simp only [D.noImm, noImmL, go_sem, TD.nims, TD.nim, nim_rI, nim_rB8, nim_rBo, nim_rS])) ?_; simp -implicitDefEqProofs (disch := omega) only [go_sem, ↓reduceIte]; refine guard_split ?_ ?_ <;> intro h1
        · simp -implicitDefEqProofs (disch := omega) only [go_sem, ↓reduceIte , h1]; simp only [Bool.not_eq_true'] at h1; rw [okSet_g hlt (by rw [hok, h1]; rfl)]
        · simp only [Bool.not_eq_false'] at h1; by_cases h3 : (a.Glues.take i).any (fun x => decide (x.Name = a.Glues[i].Name)) = true
          · rw [if_pos h3] at hget; simp -implicitDefEqProofs (disch := omega) only [go_sem, ↓reduceIte , h1, hget]; rw [okSet_g hlt (by rw [hok, h1, h3]; simp)]
          · rw [if_neg h3] at hget; have h3 : (a.Glues.take i).any (fun x => decide (x.Name = a.Glues[i].Name)) = false := by simpa using h3
            have hset := mset_N (fun g : Glue => g.Name) (a.Glues.take i) a.Glues[i] h3; rw [take_next hlt] at hset; simp -implicitDefEqProofs (disch := omega) only [go_sem, ↓reduceIte , h1, hget]; refine call_leA (v_within _ _ _) (by simp -implicitDefEqProofs (disch := omega) only [go_sem, ↓reduceIte, deep, TD.rows, immLL_rI, immLL_rB8, immLL_rS, immLL_rBo, immLL_rII]; exact rfl) (by repeat (first | exact leL_nil | refine leL_cons ?_ ?_ | exact le_of_eq rfl | exact le_iptrN (leL_of_eq rfl) | refine le_agg ?_ | exact le_slf rfl (TD.rows ..) | refine le_iptr ?_ | refine le_fn ?_ ?_)) (by first | exact .inl rfl | exact .inr rfl | exact .inl (by simp only [D.noImm, noImmL, go_sem, TD.nims, TD.nim, nim_rI, nim_rB8, nim_rBo, nim_rS])) ?_; simp -implicitDefEqProofs (disch := omega) only [go_sem, ↓reduceIte]; refine cond_split ?_ ?_ <;> intro h2
            · simp -implicitDefEqProofs (disch := omega) only [go_sem, ↓reduceIte]; simp only [Bool.not_eq_true'] at h2; rw [okSet_g hlt (by rw [hok, h1, h2]; rfl)]
            · simp only [Bool.not_eq_false'] at h2; simp -implicitDefEqProofs (disch := omega) only [go_sem, ↓reduceIte , wrN, hset]; exact ⟨i + 1, by omega, ⟨hlt, all_next hall (by rw [hok, h1, h2, h3]; rfl)⟩, by (try simp -implicitDefEqProofs only [nleL_cc, nleL_nn, nle_self, nle_boxs, nle_aggs, nle_nils, and_self, and_true, true_and]) <;> repeat' (first | exact nle_of_eq rfl | exact nle_nil | apply And.intro | apply nle_sl | apply nleLL_cons | apply nleL_cons | exact nleL_nil | exact nleLL_nil | apply nle_box | apply nle_agg)⟩
      · have hge : i = a.Glues.length := by have : ¬ i < a.Glues.length := by simpa using hlt
                                            omega
        subst hge; simp -implicitDefEqProofs (disch := omega) only [go_sem, ↓reduceIte , List.length_map]; refine loop_st (fun i : Nat => [.undef, .box none [.sl false 2 (a.Glues.map (Glue.td.d false)), .sl false 2 (a.Tiles.map (Tile.td.d false))], .undef, .undef, .undef, .undef, .mp .str (entsN (fun g : Tile => g.Name) (a.Tiles.take i)), .undef, .undef, .undef, .undef, .undef, .undef, .undef, .undef, .undef, .undef, .undef, .undef, .undef, .undef, .undef, .undef, .undef, .undef, .undef, .undef, .undef, .undef, .undef, .undef, .undef, .undef, .undef, .undef, .undef, .undef, .undef, .undef, .undef, .undef, .undef, .undef, .undef, .undef, .undef, .undef, .undef, .undef, .ptr 1 [] 0 1, .sl false 2 (a.Tiles.map (Tile.td.d false)), .v (.int .i64 a.Tiles.length), .v (.int .i64 i), .undef, .undef, .undef, .undef, .undef, .undef, .undef, .undef, .undef, .undef, .undef, .undef, .undef, .undef, .undef, .undef, .undef, .undef, .undef, .undef, .undef, .undef, .undef, .undef, .undef, .undef, .undef]) (fun i => i ≤ a.Tiles.length ∧ (List.range i).all (okT a.Glues.length a.Tiles) = true) (fun i => a.Tiles.length - i) 0 (by (try simp -implicitDefEqProofs only [nleL_cc, nleL_nn, nle_self, nle_boxs, nle_aggs, nle_nils, and_self, and_true, true_and]) <;> repeat' (first | exact nle_of_eq rfl | exact nle_nil | apply And.intro | apply nle_sl | apply nleLL_cons | apply nleL_cons | exact nleL_nil | exact nleLL_nil | apply nle_box | apply nle_agg)) ⟨Nat.zero_le _, rfl⟩ ?_; rintro i ⟨hi, hallT⟩; simp -implicitDefEqProofs (disch := omega) only [go_sem, ↓reduceIte , List.length_map, Int.toNat_natCast, Int.ofNat_lt, Int.natCast_nonneg, List.getElem?_map, Option.map_some]; refine cond_split ?_ ?_ <;> intro hlt
        · have hlt : i < a.Tiles.length := (by simpa using hlt); have e1 := List.getElem?_eq_getElem hlt; have hok : okT a.Glues.length a.Tiles i = _ := okT_at hlt; have hsl := ha.ts _ (List.getElem_mem hlt); have hget := mget_N (fun g : Tile => g.Name) a.Tiles[i].Name (a.Tiles.take i); simp -implicitDefEqProofs (disch := omega) only [go_sem, ↓reduceIte , List.length_map, Int.toNat_natCast, Int.ofNat_lt, Int.natCast_nonneg, List.getElem?_map, Option.map_some, hlt, e1, Tile.td_d]; refine call_leA (vIsName_impl _ (ha.tn _ (List.getElem_mem hlt))) (by simp -implicitDefEqProofs (disch := omega) only [go_sem, ↓reduceIte, deep, TD.rows, immLL_rI, immLL_rB8, immLL_rS, immLL_rBo, immLL_rII]; exact rfl) (by repeat (first | exact leL_nil | refine leL_cons ?_ ?_ | exact le_of_eq rfl | exact le_iptrN (leL_of_eq rfl) | refine le_agg ?_ | exact le_slf rfl (TD.rows ..) | refine le_iptr ?_ | refine le_fn ?_ ?_)) (by first | exact .inl rfl | exact .inr rfl | exact .inl (by simp only [D.noImm, noImmL, go_sem, TD.nims, TD.nim, nim_rI, nim_rB8, nim_rBo, nim_rS])) ?_; simp -implicitDefEqProofs (disch := omega) only [go_sem, ↓reduceIte]; refine guard_split ?_ ?_ <;> intro h1
          · simp -implicitDefEqProofs (disch := omega) only [go_sem, ↓reduceIte , h1]; simp only [Bool.not_eq_true'] at h1; rw [okSet_t hlt (by rw [hok, h1]; rfl)]
          · simp only [Bool.not_eq_false'] at h1; by_cases h3 : (a.Tiles.take i).any (fun x => decide (x.Name = a.Tiles[i].Name)) = true
            · rw [if_pos h3] at hget; simp -implicitDefEqProofs (disch := omega) only [go_sem, ↓reduceIte , h1, hget]; rw [okSet_t hlt (by rw [hok, h1, h3]; simp)]
            · rw [if_neg h3] at hget; have h3 : (a.Tiles.take i).any (fun x => decide (x.Name = a.Tiles[i].Name)) = false := by simpa using h3
              have hset := mset_N (fun g : Tile => g.Name) (a.Tiles.take i) a.Tiles[i] h3; rw [take_next hlt] at hset; simp -implicitDefEqProofs (disch := omega) only [go_sem, ↓reduceIte , h1, hget, List.length_map]; have h4e : decide ((a.Tiles[i].Sides.length : Int) = 4) = decide (a.Tiles[i].Sides.length = 4) := (by rw [decide_eq_decide]; omega); rw [h4e]; refine cond_split ?_ ?_ <;> intro h2
              · simp -implicitDefEqProofs (disch := omega) only [go_sem, ↓reduceIte]; simp only [Bool.not_eq_true'] at h2; rw [okSet_t hlt (by rw [hok, h1, h2]; rfl)]
              · simp only [Bool.not_eq_false'] at h2; simp -implicitDefEqProofs (disch := omega) only [go_sem, ↓reduceIte , hset]; refine call_leA (v_ContainsFunc_Int64 _ [.iptr [.sl false 2 (a.Glues.map (Glue.td.d false)), .sl false 2 (a.Tiles.map (Tile.td.d false))] 0] ⟨rfl, fun _ => rfl, fun _ => rfl, fun _ => rfl⟩ a.Tiles[i].Sides (fun n => !inR 0 a.Glues.length n) (fun x _ => v_ValidSet1 x a.Glues.length _ _ (by rw [List.length_map])) (by omega)) (by simp -implicitDefEqProofs (disch := omega) only [go_sem, ↓reduceIte, deep, TD.rows, immLL_rI, immLL_rB8, immLL_rS, immLL_rBo, immLL_rII]; exact rfl) (by repeat (first | exact leL_nil | refine leL_cons ?_ ?_ | exact le_of_eq rfl | exact le_iptrN (leL_of_eq rfl) | refine le_agg ?_ | exact le_slf rfl (TD.rows ..) | refine le_iptr ?_ | refine le_fn ?_ ?_)) (by first | exact .inl rfl | exact .inr rfl | exact .inl (by simp only [D.noImm, noImmL, go_sem, TD.nims, TD.nim, nim_rI, nim_rB8, nim_rBo, nim_rS])) ?_; simp -implicitDefEqProofs (disch := omega) only [go_sem, ↓reduceIte]; have hall4 : a.Tiles[i].Sides.all (inR 0 a.Glues.length) = !(a.Tiles[i].Sides.any fun n => !inR 0 a.Glues.length n) := List.all_eq_not_any_not; refine cond_split ?_ ?_ <;> intro h5
                · simp -implicitDefEqProofs (disch := omega) only [go_sem, ↓reduceIte]; rw [okSet_t hlt (by rw [hok, h1, h2, h3, hall4, h5]; rfl)]
                · simp -implicitDefEqProofs (disch := omega) only [go_sem, ↓reduceIte , wrN]; exact ⟨i + 1, by omega, ⟨hlt, all_next hallT (by rw [hok, h1, h2, h3, hall4, h5]; rfl)⟩, by (try simp -implicitDefEqProofs only [nleL_cc, nleL_nn, nle_self, nle_boxs, nle_aggs, nle_nils, and_self, and_true, true_and]) <;> repeat' (first | exact nle_of_eq rfl | exact nle_nil | apply And.intro | apply nle_sl | apply nleLL_cons | apply nleL_cons | exact nleL_nil | exact nleLL_nil | apply nle_box | apply nle_agg)⟩
        · have hge : i = a.Tiles.length := by have : ¬ i < a.Tiles.length := by simpa using hlt
                                              omega
          subst hge; simp -implicitDefEqProofs (disch := omega) only [go_sem, ↓reduceIte]; unfold okSet; rw [hall, hallT, hr, decide_eq_true hg]; rfl
  · have f1 : decide ((200 : Int) < (a.Glues.length : Int)) = true := decide_eq_true (by omega); simp -implicitDefEqProofs (disch := omega) only [go_sem, ↓reduceIte , List.length_map, f1]; unfold okSet; rw [decide_eq_false hg, Bool.false_and]
theorem lkF_tup {t : Nat} {cs : List D} : lkF t (some (.tup cs)) = if ownyL cs = true then .undef else .tup cs := rfl
def cmpI (a b : Int) : Int := if a < b then -1 else if b < a then 1 else 0
def cmpP (a b : Point) : Int := if cmpI a.Y b.Y = 0 then cmpI a.X b.X else cmpI a.Y b.Y
def lessP (a b : Point) : Bool := decide (a.Y < b.Y) || (decide (a.Y = b.Y) && decide (a.X < b.X))
theorem cmpP_lt (a b : Point) : decide (cmpP a b < 0) = lessP a b := by rw [Bool.eq_iff_iff]; simp only [cmpP, cmpI, lessP, Bool.or_eq_true, Bool.and_eq_true, decide_eq_true_eq]; by_cases h1 : a.Y < b.Y <;> by_cases h2 : b.Y < a.Y <;> by_cases h3 : a.X < b.X <;> by_cases h4 : b.X < a.X <;> simp [h1, h2, h3, h4] <;> omega
def code_cmp_isNaN_int64 : VCode := (.seq (.ops [
  ⟨(some 2), none, (.asg (.const (.bool false)))⟩]) (.seq (.ops [
  ⟨(some 3), none, (.mv (.tmp 0))⟩,
  ⟨(some 4), none, (.mv (.tmp 0))⟩,
  ⟨(some 5), none, (.bin .neq (.tmp 3) (.tmp 4))⟩,
  ⟨(some 2), none, (.asg (.tmp 5))⟩]) .ret))
theorem law_cmp_isNaN_int64 {a0 d : D} (h : code_cmp_isNaN_int64.wp (CT Try.prog NoG) (endQ [(.t 2)] d) [a0, .undef, .undef, .undef, .undef, .undef]) : Contract Try.prog NoG 171 [a0] d :=
  contract_of noG Try.func171 (fun us W => by kernel_rfl) (c := Try.f171.body.getD .skip) (ms := []) (ms' := []) (by kernel_rfl) (by kernel_rfl) (by kernel_rfl) h
theorem v_isNaN (a : Int) : Contract Try.prog NoG 171 [.v (.int .i64 a)] (.v (.bool false)) := by refine law_cmp_isNaN_int64 ?_; unfold code_cmp_isNaN_int64; simp -implicitDefEqProofs (disch := omega) only [go_sem, ↓reduceIte]
def code_cmp_Compare_int64 : VCode := (.seq (.ops [
  ⟨(some 4), none, (.asg (.const (.int .i64 0)))⟩]) (.seq (.ops [
  ⟨(some 7), none, (.mv (.tmp 0))⟩,
  ⟨(some 8), none, (.callX 171 [(.tmp 7)])⟩,
  ⟨(some 5), none, (.asg (.tmp 8))⟩]) (.seq (.ops [
  ⟨(some 9), none, (.mv (.tmp 1))⟩,
  ⟨(some 10), none, (.callX 171 [(.tmp 9)])⟩,
  ⟨(some 6), none, (.asg (.tmp 10))⟩]) (.seq (.seq (.ops [
  ⟨(some 11), none, (.mv (.tmp 5))⟩]) (.cond (.tmp 11) (.seq (.seq (.ops [
  ⟨(some 12), none, (.mv (.tmp 6))⟩]) (.cond (.tmp 12) (.seq (.ops [
  ⟨(some 4), none, (.asg (.const (.int .i64 0)))⟩]) .ret) .skip)) (.seq (.ops [
  ⟨(some 4), none, (.asg (.const (.int .i64 (-1))))⟩]) .ret)) .skip)) (.seq (.seq (.ops [
  ⟨(some 13), none, (.mv (.tmp 6))⟩]) (.cond (.tmp 13) (.seq (.ops [
  ⟨(some 4), none, (.asg (.const (.int .i64 1)))⟩]) .ret) .skip)) (.seq (.seq (.ops [
  ⟨(some 14), none, (.mv (.tmp 0))⟩,
  ⟨(some 15), none, (.mv (.tmp 1))⟩,
  ⟨(some 16), none, (.bin .lss (.tmp 14) (.tmp 15))⟩]) (.cond (.tmp 16) (.seq (.ops [
  ⟨(some 4), none, (.asg (.const (.int .i64 (-1))))⟩]) .ret) .skip)) (.seq (.seq (.ops [
  ⟨(some 17), none, (.mv (.tmp 0))⟩,
  ⟨(some 18), none, (.mv (.tmp 1))⟩,
  ⟨(some 19), none, (.bin .gtr (.tmp 17) (.tmp 18))⟩]) (.cond (.tmp 19) (.seq (.ops [
  ⟨(some 4), none, (.asg (.const (.int .i64 1)))⟩]) .ret) .skip)) (.seq (.ops [
  ⟨(some 4), none, (.asg (.const (.int .i64 0)))⟩]) .ret))))))))
theorem law_cmp_Compare_int64 {a0 a1 d : D} (h : code_cmp_Compare_int64.wp (CT Try.prog NoG) (endQ [(.t 4)] d) [a0, a1, .undef, .undef, .undef, .undef, .undef, .undef, .undef, .undef, .undef, .undef, .undef, .undef, .undef, .undef, .undef, .undef, .undef, .undef]) : Contract Try.prog NoG 164 [a0, a1] d :=
  contract_of noG Try.func164 (fun us W => by kernel_rfl) (c := Try.f164.body.getD .skip) (ms := []) (ms' := []) (by kernel_rfl) (by kernel_rfl) (by kernel_rfl) h
theorem v_Compare (a b : Int) : Contract Try.prog NoG 164 [.v (.int .i64 a), .v (.int .i64 b)] (.v (.int .i64 (cmpI a b))) := by
  refine law_cmp_Compare_int64 ?_; unfold code_cmp_Compare_int64 cmpI; simp -implicitDefEqProofs (disch := omega) only [go_sem, ↓reduceIte]; refine call_leA (v_isNaN a) (by simp -implicitDefEqProofs (disch := omega) only [go_sem, ↓reduceIte, deep, TD.rows, immLL_rI, immLL_rB8, immLL_rS, immLL_rBo, immLL_rII]; exact rfl) (by repeat (first | exact leL_nil | refine leL_cons ?_ ?_ | exact le_of_eq rfl | exact le_iptrN (leL_of_eq rfl) | refine le_agg ?_ | exact le_slf rfl (TD.rows ..) | refine le_iptr ?_ | refine le_fn ?_ ?_)) (by first | exact .inl rfl | exact .inr rfl | exact .inl (by simp only [D.noImm, noImmL, go_sem, TD.nims, TD.nim, nim_rI, nim_rB8, nim_rBo, nim_rS])) ?_; simp -implicitDefEqProofs (disch := omega) only [go_sem, ↓reduceIte]; refine call_leA (v_isNaN b) (by simp -implicitDefEqProofs (disch := omega) only [go_sem, ↓reduceIte, deep, TD.rows, immLL_rI, immLL_rB8, immLL_rS, immLL_rBo, immLL_rII]; exact rfl) (by repeat (first | exact leL_nil | refine leL_cons ?_ ?_ | exact le_of_eq rfl | exact le_iptrN (leL_of_eq rfl) | refine le_agg ?_ | exact le_slf rfl (TD.rows ..) | refine le_iptr ?_ | refine le_fn ?_ ?_)) (by first | exact .inl rfl | exact .inr rfl | exact .inl (by simp only [D.noImm, noImmL, go_sem, TD.nims, TD.nim, nim_rI, nim_rB8, nim_rBo, nim_rS])) ?_; simp -implicitDefEqProofs (disch := omega) only [go_sem, ↓reduceIte]; refine cond_split ?_ ?_ <;> intro h
  · have := of_decide_eq_true h; simp -implicitDefEqProofs (disch := omega) only [go_sem, ↓reduceIte]; simp [this]
  · have h1 := of_decide_eq_false h; simp -implicitDefEqProofs (disch := omega) only [go_sem, ↓reduceIte]; refine cond_split ?_ ?_ <;> intro h
    · have := of_decide_eq_true h; simp -implicitDefEqProofs (disch := omega) only [go_sem, ↓reduceIte]; simp [h1, this]
    · have := of_decide_eq_false h; simp -implicitDefEqProofs (disch := omega) only [go_sem, ↓reduceIte]; simp [h1, this]
def code_cmp_Or_int : VCode := (.seq (.ops [
  ⟨(some 2), none, (.asg (.const (.int .i64 0)))⟩]) (.seq (.ops [
  ⟨(some 3), none, (.asg (.const (.int .i64 0)))⟩]) (.seq (.seq (.ops [
  ⟨(some 6), none, (.mv (.tmp 0))⟩,
  ⟨(some 7), none, (.len (.tmp 6))⟩,
  ⟨(some 8), none, (.mv (.const (.int .i64 0)))⟩]) (.block 0 (.loop (mB 18 261687) (.seq (.ops [
  ⟨(some 9), none, (.bin .lss (.tmp 8) (.tmp 7))⟩]) (.seq (.cond (.tmp 9) .skip (.exit 0)) (.seq (.block 1 (.seq (.ops [
  ⟨(some 10), none, (.ia 1 (.tmp 6) (.tmp 8))⟩,
  ⟨(some 11), none, (.load 1 false (.tmp 10))⟩,
  ⟨(some 5), none, (.asg (.tmp 11))⟩]) (.seq (.ops [
  ⟨(some 12), none, (.mv (.tmp 5))⟩,
  ⟨(some 13), none, (.mv (.tmp 3))⟩,
  ⟨(some 14), none, (.bin .neq (.tmp 12) (.tmp 13))⟩]) (.cond (.tmp 14) (.seq (.ops [
  ⟨(some 15), none, (.mv (.tmp 5))⟩,
  ⟨(some 2), none, (.asg (.tmp 15))⟩]) .ret) .skip)))) (.ops [
  ⟨(some 16), none, (.bin .add (.tmp 8) (.const (.int .i64 1)))⟩,
  ⟨(some 8), none, (.mv (.tmp 16))⟩]))))))) (.seq (.ops [
  ⟨(some 17), none, (.mv (.tmp 3))⟩,
  ⟨(some 2), none, (.asg (.tmp 17))⟩]) .ret))))
theorem law_cmp_Or_int {a0 d : D} (h : code_cmp_Or_int.wp (CT Try.prog NoG) (endQ [(.t 2)] d) [a0, .undef, .undef, .undef, .undef, .undef, .undef, .undef, .undef, .undef, .undef, .undef, .undef, .undef, .undef, .undef, .undef, .undef]) : Contract Try.prog NoG 163 [a0] d :=
  contract_of noG Try.func163 (fun us W => by kernel_rfl) (c := Try.f163.body.getD .skip) (ms := [(mB 18 261687)]) (ms' := []) (by kernel_rfl) (by kernel_rfl) (by kernel_rfl) h
theorem v_Or2 (a b : Int) : Contract Try.prog NoG 163 [.sl false 1 [[.v (.int .i64 a)], [.v (.int .i64 b)]]] (.v (.int .i64 (if a = 0 then b else a))) := by
  refine law_cmp_Or_int ?_; unfold code_cmp_Or_int; simp -implicitDefEqProofs (disch := omega) only [go_sem, ↓reduceIte]; refine loop_st (fun i : Nat => [.undef, .undef, .undef, .v (.int .i64 0), .undef, .undef, .sl false 1 [[.v (.int .i64 a)], [.v (.int .i64 b)]], .v (.int .i64 2), .v (.int .i64 i), .undef, .undef, .undef, .undef, .undef, .undef, .undef, .undef, .undef]) (fun i => i = 0 ∨ (i = 1 ∧ a = 0) ∨ (i = 2 ∧ a = 0 ∧ b = 0)) (fun i => 2 - i) 0 (by (try simp -implicitDefEqProofs only [nleL_cc, nleL_nn, nle_self, nle_boxs, nle_aggs, nle_nils, and_self, and_true, true_and]) <;> repeat' (first | exact nle_of_eq rfl | exact nle_nil | apply And.intro | apply nle_sl | apply nleLL_cons | apply nleL_cons | exact nleL_nil | exact nleLL_nil | apply nle_box | apply nle_agg)) (.inl rfl) ?_; rintro i (rfl | ⟨rfl, h0⟩ | ⟨rfl, h0, h1⟩)
  · simp -implicitDefEqProofs (disch := omega) only [go_sem, ↓reduceIte , Int.natCast_zero, Int.natCast_one, Int.cast_ofNat_Int, Int.ofNat_le, Int.toNat_zero, Nat.sub_zero, Int.le_refl, Int.reduceLT, Int.reduceLE, Int.reduceEq, Int.reduceAdd, Int.reduceSub, Int.reduceMul, Int.reduceToNat, Int.reduceNeg]; refine cond_split ?_ ?_ <;> intro h
    · simp -implicitDefEqProofs (disch := omega) only [go_sem, ↓reduceIte]; simp at h; simp [h]
    · simp -implicitDefEqProofs (disch := omega) only [go_sem, ↓reduceIte , Int.natCast_zero, Int.natCast_one, Int.cast_ofNat_Int, Int.ofNat_le, Int.toNat_zero, Nat.sub_zero, Int.le_refl, Int.reduceLT, Int.reduceLE, Int.reduceEq, Int.reduceAdd, Int.reduceSub, Int.reduceMul, Int.reduceToNat, Int.reduceNeg, IntWalk.i64_in]; simp at h; exact ⟨1, by omega, .inr (.inl ⟨rfl, h⟩), by (try simp -implicitDefEqProofs only [nleL_cc, nleL_nn, nle_self, nle_boxs, nle_aggs, nle_nils, and_self, and_true, true_and]) <;> repeat' (first | exact nle_of_eq rfl | exact nle_nil | apply And.intro | apply nle_sl | apply nleLL_cons | apply nleL_cons | exact nleL_nil | exact nleLL_nil | apply nle_box | apply nle_agg)⟩
  · simp -implicitDefEqProofs (disch := omega) only [go_sem, ↓reduceIte , Int.natCast_zero, Int.natCast_one, Int.cast_ofNat_Int, Int.ofNat_le, Int.toNat_zero, Nat.sub_zero, Int.le_refl, Int.reduceLT, Int.reduceLE, Int.reduceEq, Int.reduceAdd, Int.reduceSub, Int.reduceMul, Int.reduceToNat, Int.reduceNeg]; refine cond_split ?_ ?_ <;> intro h
    · simp -implicitDefEqProofs (disch := omega) only [go_sem, ↓reduceIte]; simp [h0]
    · simp -implicitDefEqProofs (disch := omega) only [go_sem, ↓reduceIte , Int.natCast_zero, Int.natCast_one, Int.cast_ofNat_Int, Int.ofNat_le, Int.toNat_zero, Nat.sub_zero, Int.le_refl, Int.reduceLT, Int.reduceLE, Int.reduceEq, Int.reduceAdd, Int.reduceSub, Int.reduceMul, Int.reduceToNat, Int.reduceNeg]; simp at h; exact ⟨2, by omega, .inr (.inr ⟨rfl, h0, h⟩), by (try simp -implicitDefEqProofs only [nleL_cc, nleL_nn, nle_self, nle_boxs, nle_aggs, nle_nils, and_self, and_true, true_and]) <;> repeat' (first | exact nle_of_eq rfl | exact nle_nil | apply And.intro | apply nle_sl | apply nleLL_cons | apply nleL_cons | exact nleL_nil | exact nleLL_nil | apply nle_box | apply nle_agg)⟩
  · simp -implicitDefEqProofs (disch := omega) only [go_sem, ↓reduceIte , Int.natCast_zero, Int.natCast_one, Int.cast_ofNat_Int, Int.ofNat_le, Int.toNat_zero, Nat.sub_zero, Int.le_refl, Int.reduceLT, Int.reduceLE, Int.reduceEq, Int.reduceAdd, Int.reduceSub, Int.reduceMul, Int.reduceToNat, Int.reduceNeg]; simp [h0, h1]
def code_impl_comparePoints : VCode := (.seq (.ops [
  ⟨(some 2), none, (.box (.tmp 0))⟩,
  ⟨(some 3), none, (.box (.tmp 1))⟩,
  ⟨(some 4), none, (.asg (.const (.int .i64 0)))⟩]) (.seq (.draw (mB 14 16352) [] [⟨0, (mB 14 16352), [], ⟨(some 5), none, (.fa 1 (.tmp 2))⟩⟩, ⟨1, (mB 14 16320), [], ⟨(some 6), none, (.load 1 false (.tmp 5))⟩⟩, ⟨2, (mB 14 16352), [], ⟨(some 7), none, (.fa 1 (.tmp 3))⟩⟩, ⟨3, (mB 14 16224), [], ⟨(some 8), none, (.load 1 false (.tmp 7))⟩⟩, ⟨4, (mB 14 15872), [], ⟨(some 9), none, (.call 164 [(.tmp 6), (.tmp 8)])⟩⟩, ⟨5, (mB 14 16352), [], ⟨(some 10), none, (.fa 0 (.tmp 2))⟩⟩, ⟨6, (mB 14 15328), [], ⟨(some 11), none, (.load 1 false (.tmp 10))⟩⟩, ⟨7, (mB 14 16352), [], ⟨(some 12), none, (.fa 0 (.tmp 3))⟩⟩, ⟨8, (mB 14 12256), [], ⟨(some 13), none, (.load 1 false (.tmp 12))⟩⟩] [⟨(some 14), none, (.callX 164 [(.tmp 11), (.tmp 13)])⟩, ⟨(some 15), none, (.bsl 1 [(.tmp 9), (.tmp 14)])⟩, ⟨(some 16), none, (.callX 163 [(.tmp 15)])⟩, ⟨(some 4), none, (.asg (.tmp 16))⟩]) .ret))
theorem law_impl_comparePoints {a0 a1 d : D} (h : code_impl_comparePoints.wp (CT Try.prog NoG) (endQ [(.t 4)] d) [a0, a1, .undef, .undef, .undef, .undef, .undef, .undef, .undef, .undef, .undef, .undef, .undef, .undef, .undef, .undef, .undef]) : Contract Try.prog NoG 145 [a0, a1] d :=
  contract_of noG Try.func145 (fun us W => by kernel_rfl) (c := Try.f145.body.getD .skip) (ms := []) (ms' := []) (by kernel_rfl) (by kernel_rfl) (by kernel_rfl) h
theorem v_comparePoints (a b : Point) : Contract Try.prog NoG 145 [.agg (Point.td.d false a), .agg (Point.td.d false b)] (.v (.int .i64 (cmpP a b))) := by rw [Point.td_d, Point.td_d]; refine law_impl_comparePoints ?_; unfold code_impl_comparePoints cmpP; simp -implicitDefEqProofs (disch := omega) only [go_sem, ↓reduceIte]; refine call_leNA (v_Compare a.Y b.Y) (by simp -implicitDefEqProofs (disch := omega) only [go_sem, ↓reduceIte, deep, TD.rows, immLL_rI, immLL_rB8, immLL_rS, immLL_rBo, immLL_rII]; exact rfl) (by repeat (first | exact leL_nil | refine leL_cons ?_ ?_ | exact le_of_eq rfl | exact le_iptrN (leL_of_eq rfl) | refine le_agg ?_ | exact le_slf rfl (TD.rows ..) | refine le_iptr ?_ | refine le_fn ?_ ?_)) (by first | exact .inl rfl | exact .inr rfl | exact .inl (by simp only [D.noImm, noImmL, go_sem, TD.nims, TD.nim, nim_rI, nim_rB8, nim_rBo, nim_rS])) ?_; simp -implicitDefEqProofs (disch := omega) only [go_sem, ↓reduceIte]; refine call_leA (v_Compare a.X b.X) (by simp -implicitDefEqProofs (disch := omega) only [go_sem, ↓reduceIte, deep, TD.rows, immLL_rI, immLL_rB8, immLL_rS, immLL_rBo, immLL_rII]; exact rfl) (by repeat (first | exact leL_nil | refine leL_cons ?_ ?_ | exact le_of_eq rfl | exact le_iptrN (leL_of_eq rfl) | refine le_agg ?_ | exact le_slf rfl (TD.rows ..) | refine le_iptr ?_ | refine le_fn ?_ ?_)) (by first | exact .inl rfl | exact .inr rfl | exact .inl (by simp only [D.noImm, noImmL, go_sem, TD.nims, TD.nim, nim_rI, nim_rB8, nim_rBo, nim_rS])) ?_; simp -implicitDefEqProofs (disch := omega) only [go_sem, ↓reduceIte]; refine call_le (v_Or2 (cmpI a.Y b.Y) (cmpI a.X b.X)) (by repeat (first | exact leL_nil | refine leL_cons ?_ ?_ | exact le_of_eq rfl | exact le_iptrN (leL_of_eq rfl) | refine le_agg ?_ | exact le_slf rfl (TD.rows ..) | refine le_iptr ?_ | refine le_fn ?_ ?_)) (.inl rfl) ?_; simp -implicitDefEqProofs (disch := omega) only [go_sem, ↓reduceIte]
def code_impl_LessPoint : VCode := (.seq (.ops [
  ⟨(some 2), none, (.box (.tmp 0))⟩,
  ⟨(some 3), none, (.box (.tmp 1))⟩,
  ⟨(some 4), none, (.asg (.const (.bool false)))⟩]) (.seq (.ops [
  ⟨(some 5), none, (.load 2 true (.tmp 2))⟩,
  ⟨(some 6), none, (.load 2 true (.tmp 3))⟩,
  ⟨(some 7), none, (.callX 145 [(.tmp 5), (.tmp 6)])⟩,
  ⟨(some 8), none, (.bin .lss (.tmp 7) (.const (.int .i64 0)))⟩,
  ⟨(some 4), none, (.asg (.tmp 8))⟩]) .ret))
theorem law_impl_LessPoint {a0 a1 d : D} (h : code_impl_LessPoint.wp (CT Try.prog NoG) (endQ [(.t 4)] d) [a0, a1, .undef, .undef, .undef, .undef, .undef, .undef, .undef]) : Contract Try.prog NoG 113 [a0, a1] d :=
  contract_of noG Try.func113 (fun us W => by kernel_rfl) (c := Try.f113.body.getD .skip) (ms := []) (ms' := []) (by kernel_rfl) (by kernel_rfl) (by kernel_rfl) h
theorem v_LessPoint (a b : Point) : Contract Try.prog NoG 113 [.agg (Point.td.d false a), .agg (Point.td.d false b)] (.v (.bool (lessP a b))) := by rw [Point.td_d, Point.td_d]; refine law_impl_LessPoint ?_; unfold code_impl_LessPoint; simp -implicitDefEqProofs (disch := omega) only [go_sem, ↓reduceIte]; refine call_leA (v_comparePoints a b) (by simp -implicitDefEqProofs (disch := omega) only [go_sem, ↓reduceIte, deep, TD.rows, immLL_rI, immLL_rB8, immLL_rS, immLL_rBo, immLL_rII]; exact rfl) (by repeat (first | exact leL_nil | refine leL_cons ?_ ?_ | exact le_of_eq rfl | exact le_iptrN (leL_of_eq rfl) | refine le_agg ?_ | exact le_slf rfl (TD.rows ..) | refine le_iptr ?_ | refine le_fn ?_ ?_)) (by first | exact .inl rfl | exact .inr rfl | exact .inl (by simp only [D.noImm, noImmL, go_sem, TD.nims, TD.nim, nim_rI, nim_rB8, nim_rBo, nim_rS])) ?_; simp -implicitDefEqProofs (disch := omega) only [go_sem, ↓reduceIte]; rw [cmpP_lt]
def code_spec_LessPoint : VCode := (.seq (.ops [
  ⟨(some 2), none, (.box (.tmp 0))⟩,
  ⟨(some 3), none, (.box (.tmp 1))⟩,
  ⟨(some 4), none, (.asg (.const (.bool false)))⟩]) (.seq (.ops [
  ⟨(some 5), none, (.fa 1 (.tmp 2))⟩,
  ⟨(some 6), none, (.load 1 false (.tmp 5))⟩,
  ⟨(some 7), none, (.fa 1 (.tmp 3))⟩,
  ⟨(some 8), none, (.load 1 false (.tmp 7))⟩,
  ⟨(some 9), none, (.bin .lss (.tmp 6) (.tmp 8))⟩,
  ⟨(some 10), none, (.mv (.tmp 9))⟩,
  ⟨(some 11), (some (10, false)), (.fa 1 (.tmp 2))⟩,
  ⟨(some 12), (some (10, false)), (.load 1 false (.tmp 11))⟩,
  ⟨(some 13), (some (10, false)), (.fa 1 (.tmp 3))⟩,
  ⟨(some 14), (some (10, false)), (.load 1 false (.tmp 13))⟩,
  ⟨(some 15), (some (10, false)), (.bin .eql (.tmp 12) (.tmp 14))⟩,
  ⟨(some 16), (some (10, false)), (.mv (.tmp 15))⟩,
  ⟨(some 17), (some (16, true)), (.fa 0 (.tmp 2))⟩,
  ⟨(some 18), (some (16, true)), (.load 1 false (.tmp 17))⟩,
  ⟨(some 19), (some (16, true)), (.fa 0 (.tmp 3))⟩,
  ⟨(some 20), (some (16, true)), (.load 1 false (.tmp 19))⟩,
  ⟨(some 21), (some (16, true)), (.bin .lss (.tmp 18) (.tmp 20))⟩,
  ⟨(some 22), (some (10, false)), (.pick (.tmp 16) (.tmp 21) (.const (.bool false)))⟩,
  ⟨(some 23), none, (.pick (.tmp 10) (.const (.bool true)) (.tmp 22))⟩,
  ⟨(some 4), none, (.asg (.tmp 23))⟩]) .ret))
theorem law_spec_LessPoint {a0 a1 d : D} (h : code_spec_LessPoint.wp (CT Try.prog NoG) (endQ [(.t 4)] d) [a0, a1, .undef, .undef, .undef, .undef, .undef, .undef, .undef, .undef, .undef, .undef, .undef, .undef, .undef, .undef, .undef, .undef, .undef, .undef, .undef, .undef, .undef, .undef]) : Contract Try.prog NoG 111 [a0, a1] d :=
  contract_of noG Try.func111 (fun us W => by kernel_rfl) (c := Try.f111.body.getD .skip) (ms := []) (ms' := []) (by kernel_rfl) (by kernel_rfl) (by kernel_rfl) h
theorem v_LessPoint_spec (a b : Point) : Contract Try.prog NoG 111 [.agg (Point.td.d false a), .agg (Point.td.d false b)] (.v (.bool (lessP a b))) := by
  rw [Point.td_d, Point.td_d]; refine law_spec_LessPoint ?_; unfold code_spec_LessPoint lessP; simp -implicitDefEqProofs (disch := omega) only [go_sem, ↓reduceIte]
  repeat' (first | (refine guard_split ?_ ?_ <;> intro h <;> try (simp -implicitDefEqProofs (disch := omega) only [go_sem, ↓reduceIte, h])) | (refine gd_split ?_ ?_ <;> intro h <;> try (simp -implicitDefEqProofs (disch := omega) only [go_sem, ↓reduceIte, h])) | (refine cond_split ?_ ?_ <;> intro h <;> try (simp -implicitDefEqProofs (disch := omega) only [go_sem, ↓reduceIte, h])))
  all_goals simp_all
theorem asm_len {b : Assembly} (h : Assembly.cnt b ≤ 1048576) : b.Tiles.length ≤ 1048576 := h
def ptOK (p : Point) : Bool := inR (-60) 60 p.X && inR (-60) 60 p.Y
def code_impl_ValidPoint : VCode := (.seq (.ops [
  ⟨(some 1), none, (.box (.tmp 0))⟩,
  ⟨(some 2), none, (.asg (.const (.bool false)))⟩]) (.seq (.ops [
  ⟨(some 3), none, (.fa 0 (.tmp 1))⟩,
  ⟨(some 4), none, (.load 1 false (.tmp 3))⟩,
  ⟨(some 5), none, (.callX 58 [(.tmp 4), (.const (.int .i64 (-60))), (.const (.int .i64 60))])⟩,
  ⟨(some 6), none, (.mv (.tmp 5))⟩,
  ⟨(some 7), (some (6, true)), (.fa 1 (.tmp 1))⟩,
  ⟨(some 8), (some (6, true)), (.load 1 false (.tmp 7))⟩,
  ⟨(some 9), (some (6, true)), (.callX 58 [(.tmp 8), (.const (.int .i64 (-60))), (.const (.int .i64 60))])⟩,
  ⟨(some 10), none, (.pick (.tmp 6) (.tmp 9) (.const (.bool false)))⟩,
  ⟨(some 2), none, (.asg (.tmp 10))⟩]) .ret))
theorem law_impl_ValidPoint {a0 d : D} (h : code_impl_ValidPoint.wp (CT Try.prog NoG) (endQ [(.t 2)] d) [a0, .undef, .undef, .undef, .undef, .undef, .undef, .undef, .undef, .undef, .undef]) : Contract Try.prog NoG 71 [a0] d :=
  contract_of noG Try.func71 (fun us W => by kernel_rfl) (c := Try.f71.body.getD .skip) (ms := []) (ms' := []) (by kernel_rfl) (by kernel_rfl) (by kernel_rfl) h
theorem v_ValidPoint (p : Point) : Contract Try.prog NoG 71 [.agg (Point.td.d false p)] (.v (.bool (ptOK p))) := by
  rw [Point.td_d]; refine law_impl_ValidPoint ?_; unfold code_impl_ValidPoint ptOK; simp -implicitDefEqProofs (disch := omega) only [go_sem, ↓reduceIte]; refine call_leA (v_within _ _ _) (by simp -implicitDefEqProofs (disch := omega) only [go_sem, ↓reduceIte, deep, TD.rows, immLL_rI, immLL_rB8, immLL_rS, immLL_rBo, immLL_rII]; exact rfl) (by repeat (first | exact leL_nil | refine leL_cons ?_ ?_ | exact le_of_eq rfl | exact le_iptrN (leL_of_eq rfl) | refine le_agg ?_ | exact le_slf rfl (TD.rows ..) | refine le_iptr ?_ | refine le_fn ?_ ?_)) (by first | exact .inl rfl | exact .inr rfl | exact .inl (by simp only [D.noImm, noImmL, go_sem, TD.nims, TD.nim, nim_rI, nim_rB8, nim_rBo, nim_rS])) ?_; simp -implicitDefEqProofs (disch := omega) only [go_sem, ↓reduceIte]; refine guard_split ?_ ?_ <;> intro h
  · simp -implicitDefEqProofs (disch := omega) only [go_sem, ↓reduceIte , h]; refine call_leA (v_within _ _ _) (by simp -implicitDefEqProofs (disch := omega) only [go_sem, ↓reduceIte, deep, TD.rows, immLL_rI, immLL_rB8, immLL_rS, immLL_rBo, immLL_rII, h]; exact rfl) (by repeat (first | exact leL_nil | refine leL_cons ?_ ?_ | exact le_of_eq rfl | exact le_iptrN (leL_of_eq rfl) | refine le_agg ?_ | exact le_slf rfl (TD.rows ..) | refine le_iptr ?_ | refine le_fn ?_ ?_)) (by first | exact .inl rfl | exact .inr rfl | exact .inl (by simp only [D.noImm, noImmL, go_sem, TD.nims, TD.nim, nim_rI, nim_rB8, nim_rBo, nim_rS])) ?_; simp -implicitDefEqProofs (disch := omega) only [go_sem, ↓reduceIte , h]
  · simp -implicitDefEqProofs (disch := omega) only [go_sem, ↓reduceIte , h]
def code_spec_l01Point : VCode := (.seq (.ops [
  ⟨(some 1), none, (.box (.tmp 0))⟩,
  ⟨(some 2), none, (.asg (.const (.bool false)))⟩]) (.seq (.ops [
  ⟨(some 3), none, (.fa 0 (.tmp 1))⟩,
  ⟨(some 4), none, (.load 1 false (.tmp 3))⟩,
  ⟨(some 5), none, (.callX 50 [(.tmp 4), (.const (.int .i64 (-60))), (.const (.int .i64 60))])⟩,
  ⟨(some 6), none, (.mv (.tmp 5))⟩,
  ⟨(some 7), (some (6, true)), (.fa 1 (.tmp 1))⟩,
  ⟨(some 8), (some (6, true)), (.load 1 false (.tmp 7))⟩,
  ⟨(some 9), (some (6, true)), (.callX 50 [(.tmp 8), (.const (.int .i64 (-60))), (.const (.int .i64 60))])⟩,
  ⟨(some 10), none, (.pick (.tmp 6) (.tmp 9) (.const (.bool false)))⟩,
  ⟨(some 2), none, (.asg (.tmp 10))⟩]) .ret))
theorem law_spec_l01Point {a0 d : D} (h : code_spec_l01Point.wp (CT Try.prog NoG) (endQ [(.t 2)] d) [a0, .undef, .undef, .undef, .undef, .undef, .undef, .undef, .undef, .undef, .undef]) : Contract Try.prog NoG 68 [a0] d :=
  contract_of noG Try.func68 (fun us W => by kernel_rfl) (c := Try.f68.body.getD .skip) (ms := []) (ms' := []) (by kernel_rfl) (by kernel_rfl) (by kernel_rfl) h
theorem v_l01Point (p : Point) : Contract Try.prog NoG 68 [.agg (Point.td.d false p)] (.v (.bool (ptOK p))) := by
  rw [Point.td_d]; refine law_spec_l01Point ?_; unfold code_spec_l01Point ptOK; simp -implicitDefEqProofs (disch := omega) only [go_sem, ↓reduceIte]; refine call_leA (v_l00In _ _ _) (by simp -implicitDefEqProofs (disch := omega) only [go_sem, ↓reduceIte, deep, TD.rows, immLL_rI, immLL_rB8, immLL_rS, immLL_rBo, immLL_rII]; exact rfl) (by repeat (first | exact leL_nil | refine leL_cons ?_ ?_ | exact le_of_eq rfl | exact le_iptrN (leL_of_eq rfl) | refine le_agg ?_ | exact le_slf rfl (TD.rows ..) | refine le_iptr ?_ | refine le_fn ?_ ?_)) (by first | exact .inl rfl | exact .inr rfl | exact .inl (by simp only [D.noImm, noImmL, go_sem, TD.nims, TD.nim, nim_rI, nim_rB8, nim_rBo, nim_rS])) ?_; simp -implicitDefEqProofs (disch := omega) only [go_sem, ↓reduceIte]; refine guard_split ?_ ?_ <;> intro h
  · simp -implicitDefEqProofs (disch := omega) only [go_sem, ↓reduceIte , h]; refine call_leA (v_l00In _ _ _) (by simp -implicitDefEqProofs (disch := omega) only [go_sem, ↓reduceIte, deep, TD.rows, immLL_rI, immLL_rB8, immLL_rS, immLL_rBo, immLL_rII, h]; exact rfl) (by repeat (first | exact leL_nil | refine leL_cons ?_ ?_ | exact le_of_eq rfl | exact le_iptrN (leL_of_eq rfl) | refine le_agg ?_ | exact le_slf rfl (TD.rows ..) | refine le_iptr ?_ | refine le_fn ?_ ?_)) (by first | exact .inl rfl | exact .inr rfl | exact .inl (by simp only [D.noImm, noImmL, go_sem, TD.nims, TD.nim, nim_rI, nim_rB8, nim_rBo, nim_rS])) ?_; simp -implicitDefEqProofs (disch := omega) only [go_sem, ↓reduceIte , h]
  · simp -implicitDefEqProofs (disch := omega) only [go_sem, ↓reduceIte , h]
def code_impl_isIndex : VCode := (.seq (.ops [
  ⟨(some 4), none, (.asg (.const (.bool false)))⟩]) (.seq (.ops [
  ⟨(some 5), none, (.mv (.tmp 0))⟩,
  ⟨(some 6), none, (.mv (.tmp 1))⟩,
  ⟨(some 7), none, (.bin .sub (.tmp 6) (.const (.int .i64 1)))⟩,
  ⟨(some 8), none, (.callX 58 [(.tmp 5), (.const (.int .i64 0)), (.tmp 7)])⟩,
  ⟨(some 4), none, (.asg (.tmp 8))⟩]) .ret))
theorem law_impl_isIndex {a0 a1 d : D} (h : code_impl_isIndex.wp (CT Try.prog NoG) (endQ [(.t 4)] d) [a0, a1, .undef, .undef, .undef, .undef, .undef, .undef, .undef]) : Contract Try.prog NoG 118 [a0, a1] d :=
  contract_of noG Try.func118 (fun us W => by kernel_rfl) (c := Try.f118.body.getD .skip) (ms := []) (ms' := []) (by kernel_rfl) (by kernel_rfl) (by kernel_rfl) h
theorem v_isIndex (i n : Int) (h1 : 0 ≤ n) (h2 : n ≤ 1099511627776) : Contract Try.prog NoG 118 [.v (.int .i64 i), .v (.int .i64 n)] (.v (.bool (inR 0 (n - 1) i))) := by refine law_impl_isIndex ?_; unfold code_impl_isIndex; have hw : IntKind.i64.wrap (n - 1) = n - 1 := wrI (by omega) (by omega); simp -implicitDefEqProofs (disch := omega) only [go_sem, ↓reduceIte , hw]; refine call_leA (v_within _ _ _) (by simp -implicitDefEqProofs (disch := omega) only [go_sem, ↓reduceIte, deep, TD.rows, immLL_rI, immLL_rB8, immLL_rS, immLL_rBo, immLL_rII]; exact rfl) (by repeat (first | exact leL_nil | refine leL_cons ?_ ?_ | exact le_of_eq rfl | exact le_iptrN (leL_of_eq rfl) | refine le_agg ?_ | exact le_slf rfl (TD.rows ..) | refine le_iptr ?_ | refine le_fn ?_ ?_)) (by first | exact .inl rfl | exact .inr rfl | exact .inl (by simp only [D.noImm, noImmL, go_sem, TD.nims, TD.nim, nim_rI, nim_rB8, nim_rBo, nim_rS])) ?_; simp -implicitDefEqProofs (disch := omega) only [go_sem, ↓reduceIte]
def okP (ps : List Placed) (i : Nat) : Bool := match ps[i]? with
  | some x => ptOK x.At && (inR 0 159 x.Tile && (decide (i = 0) || match ps[i - 1]? with
    | some y => lessP y.At x.At
    | none => false))
  | none => false
def okForm (ps : List Placed) : Bool := decide (ps.length ≤ 500) && (List.range ps.length).all (okP ps)
theorem okP_zero {ps : List Placed} (h : 0 < ps.length) : okP ps 0 = (ptOK ps[0].At && inR 0 159 ps[0].Tile) := by unfold okP; rw [List.getElem?_eq_getElem h]; simp
theorem okP_succ {ps : List Placed} {i : Nat} (h : i + 1 < ps.length) : okP ps (i + 1) = (ptOK ps[i + 1].At && (inR 0 159 ps[i + 1].Tile && lessP ps[i].At ps[i + 1].At)) := by unfold okP; rw [List.getElem?_eq_getElem h]; simp only [Nat.add_sub_cancel]; rw [List.getElem?_eq_getElem (by omega)]; simp
theorem okForm_no {ps : List Placed} {i : Nat} (hi : i < ps.length) (h : okP ps i = false) : okForm ps = false := by
  unfold okForm; have : (List.range ps.length).all (okP ps) = false := by rw [List.all_eq_false]; exact ⟨i, by simpa using hi, by simp [h]⟩
  rw [this, Bool.and_false]
theorem okForm_yes {ps : List Placed} (h : (List.range ps.length).all (okP ps) = true) : okForm ps = decide (ps.length ≤ 500) := by unfold okForm; rw [h, Bool.and_true]
def code_impl_hasForm : VCode := (.seq (.ops [
  ⟨(some 1), none, (.box (.tmp 0))⟩,
  ⟨(some 2), none, (.asg (.const (.bool false)))⟩]) (.seq (.seq (.ops [
  ⟨(some 5), none, (.fa 0 (.tmp 1))⟩,
  ⟨(some 6), none, (.load 1 false (.tmp 5))⟩,
  ⟨(some 7), none, (.len (.tmp 6))⟩,
  ⟨(some 8), none, (.mv (.const (.int .i64 0)))⟩]) (.block 0 (.loop (mB 45 35184372088349) (.seq (.ops [
  ⟨(some 9), none, (.bin .lss (.tmp 8) (.tmp 7))⟩]) (.seq (.cond (.tmp 9) .skip (.exit 0)) (.seq (.block 1 (.seq (.ops [
  ⟨(some 10), none, (.mv (.tmp 8))⟩,
  ⟨(some 11), none, (.ia 3 (.tmp 6) (.tmp 8))⟩,
  ⟨(some 12), none, (.load 3 true (.tmp 11))⟩,
  ⟨(some 4), none, (.alloc [(.int .i64 0), (.int .i64 0), (.int .i64 0)])⟩,
  ⟨(some 3), none, (.asg (.tmp 10))⟩,
  ⟨none, none, (.store 3 (.tmp 4) (.tmp 12))⟩]) (.seq (.draw (mB 36 68719468544) [] [⟨0, (mB 36 68719468544), [], ⟨(some 13), none, (.fa 0 (.tmp 4))⟩⟩, ⟨1, (mB 36 68719460352), [], ⟨(some 14), none, (.load 2 true (.tmp 13))⟩⟩, ⟨2, (mB 36 68719443968), [], ⟨(some 15), none, (.call 71 [(.tmp 14)])⟩⟩, ⟨3, (mB 36 68719411200), [], ⟨(some 16), none, (.un .not (.tmp 15))⟩⟩, ⟨4, (mB 36 68719345664), [], ⟨(some 17), none, (.mv (.tmp 16))⟩⟩, ⟨5, (mB 36 68719214592), [], ⟨(some 18), (some (17, false)), (.fa 2 (.tmp 4))⟩⟩, ⟨6, (mB 36 68718952448), [], ⟨(some 19), (some (17, false)), (.load 1 false (.tmp 18))⟩⟩, ⟨7, (mB 36 68718428160), [], ⟨(some 20), (some (17, false)), (.call 118 [(.tmp 19), (.const (.int .i64 160))])⟩⟩, ⟨8, (mB 36 68717379584), [], ⟨(some 21), (some (17, false)), (.un .not (.tmp 20))⟩⟩, ⟨9, (mB 36 68715282432), [], ⟨(some 22), none, (.pick (.tmp 17) (.const (.bool true)) (.tmp 21))⟩⟩, ⟨10, (mB 36 68711088128), [], ⟨(some 23), none, (.mv (.tmp 22))⟩⟩, ⟨11, (mB 36 68702699520), [], ⟨(some 24), (some (23, false)), (.mv (.tmp 3))⟩⟩, ⟨12, (mB 36 68685922304), [], ⟨(some 25), (some (23, false)), (.bin .gtr (.tmp 24) (.const (.int .i64 0)))⟩⟩, ⟨13, (mB 36 68652367872), [], ⟨(some 26), (some (23, false)), (.mv (.tmp 25))⟩⟩, ⟨14, (mB 36 68585259008), [], ⟨(some 27), (some (26, true)), (.fa 0 (.tmp 1))⟩⟩, ⟨15, (mB 36 68451041280), [], ⟨(some 28), (some (26, true)), (.load 1 false (.tmp 27))⟩⟩, ⟨16, (mB 36 68585259008), [], ⟨(some 29), (some (26, true)), (.mv (.tmp 3))⟩⟩, ⟨17, (mB 36 68048388096), [], ⟨(some 30), (some (26, true)), (.bin .sub (.tmp 29) (.const (.int .i64 1)))⟩⟩, ⟨18, (mB 36 66571993088), [], ⟨(some 31), (some (26, true)), (.ia 3 (.tmp 28) (.tmp 30))⟩⟩, ⟨19, (mB 36 64424509440), [], ⟨(some 32), (some (26, true)), (.fa 0 (.tmp 31))⟩⟩, ⟨20, (mB 36 60129542144), [], ⟨(some 33), (some (26, true)), (.load 2 true (.tmp 32))⟩⟩, ⟨21, (mB 36 68585259008), [], ⟨(some 34), (some (26, true)), (.fa 0 (.tmp 4))⟩⟩, ⟨22, (mB 36 51405389824), [], ⟨(some 35), (some (26, true)), (.load 2 true (.tmp 34))⟩⟩] [⟨(some 36), (some (26, true)), (.callX 113 [(.tmp 33), (.tmp 35)])⟩, ⟨(some 37), (some (26, true)), (.un .not (.tmp 36))⟩, ⟨(some 38), (some (23, false)), (.pick (.tmp 26) (.tmp 37) (.const (.bool false)))⟩, ⟨(some 39), none, (.pick (.tmp 23) (.const (.bool true)) (.tmp 38))⟩]) (.cond (.tmp 39) (.seq (.ops [
  ⟨(some 2), none, (.asg (.const (.bool false)))⟩]) .ret) .skip)))) (.ops [
  ⟨(some 40), none, (.bin .add (.tmp 8) (.const (.int .i64 1)))⟩,
  ⟨(some 8), none, (.mv (.tmp 40))⟩]))))))) (.seq (.ops [
  ⟨(some 41), none, (.fa 0 (.tmp 1))⟩,
  ⟨(some 42), none, (.load 1 false (.tmp 41))⟩,
  ⟨(some 43), none, (.len (.tmp 42))⟩,
  ⟨(some 44), none, (.bin .leq (.tmp 43) (.const (.int .i64 500)))⟩,
  ⟨(some 2), none, (.asg (.tmp 44))⟩]) .ret)))
theorem law_impl_hasForm {a0 d : D} (h : code_impl_hasForm.wp (CT Try.prog NoG) (endQ [(.t 2)] d) [a0, .undef, .undef, .undef, .undef, .undef, .undef, .undef, .undef, .undef, .undef, .undef, .undef, .undef, .undef, .undef, .undef, .undef, .undef, .undef, .undef, .undef, .undef, .undef, .undef, .undef, .undef, .undef, .undef, .undef, .undef, .undef, .undef, .undef, .undef, .undef, .undef, .undef, .undef, .undef, .undef, .undef, .undef, .undef, .undef]) : Contract Try.prog NoG 80 [a0] d :=
  contract_of noG Try.func80 (fun us W => by kernel_rfl) (c := Try.f80.body.getD .skip) (ms := [(mB 45 35184372088349)]) (ms' := []) (by kernel_rfl) (by kernel_rfl) (by kernel_rfl) h
set_option maxHeartbeats 2000000 in
theorem v_hasForm (b : Assembly) (hn : b.Tiles.length ≤ 1048576) : Contract Try.prog NoG 80 [.agg (Assembly.td.d false b)] (.v (.bool (okForm b.Tiles))) := by
  rw [Assembly.td_d]; refine law_impl_hasForm ?_; unfold code_impl_hasForm; simp -implicitDefEqProofs (disch := omega) only [go_sem, ↓reduceIte , List.length_map]; refine loop_ov (by simp -implicitDefEqProofs (disch := omega) only [go_sem, ↓reduceIte]; exact rfl) (fun i : Nat => [(8, .v (.int .i64 (i : Nat)))]) (fun _ => by simp only [ovr_nil, ovr_cons, List.set_cons_zero, List.set_cons_succ]; exact rfl) (fun i : Nat => i ≤ b.Tiles.length ∧ (List.range i).all (okP b.Tiles) = true) (fun i : Nat => b.Tiles.length - i) (0) (by (try simp -implicitDefEqProofs only [nleL_cc, nleL_nn, nle_self, nle_boxs, nle_aggs, nle_nils, and_self, and_true, true_and]) <;> repeat' (first | exact nle_of_eq rfl | exact nle_nil | apply And.intro | apply nle_sl | apply nleLL_cons | apply nleL_cons | exact nleL_nil | exact nleLL_nil | apply nle_box | apply nle_agg)) (?_) ?_
  · exact ⟨Nat.zero_le _, rfl⟩
  rintro i ⟨hi, hal⟩; simp -implicitDefEqProofs (disch := omega) only [go_sem, ↓reduceIte , List.length_map, Int.toNat_natCast, Int.ofNat_lt, Int.natCast_nonneg, List.getElem?_map, Option.map_some]; refine cond_split ?_ ?_ <;> intro hlt
  · have hlt : i < b.Tiles.length := (by simpa using hlt); have e1 := List.getElem?_eq_getElem hlt; have key : ∀ v, okP b.Tiles i = v → (v = false → okForm b.Tiles = false) ∧ (v = true → (List.range (i + 1)).all (okP b.Tiles) = true) := fun v hv => ⟨fun h => okForm_no hlt (hv.trans h), fun h => all_next hal (hv.trans h)⟩
    simp -implicitDefEqProofs (disch := omega) only [go_sem, ↓reduceIte , List.length_map, Int.toNat_natCast, Int.ofNat_lt, Int.natCast_nonneg, List.getElem?_map, Option.map_some, hlt, e1, Placed.td_d]; cases c1 : ptOK b.Tiles[i].At with
    | false => have hno : okForm b.Tiles = false := (key _ rfl).1 (by unfold okP; rw [e1]; simp only [c1, Bool.false_and]); refine call_leNA (v_ValidPoint b.Tiles[i].At) (by simp -implicitDefEqProofs (disch := omega) only [go_sem, ↓reduceIte, deep, TD.rows, immLL_rI, immLL_rB8, immLL_rS, immLL_rBo, immLL_rII, c1, hno]; exact rfl) (by repeat (first | exact leL_nil | refine leL_cons ?_ ?_ | exact le_of_eq rfl | exact le_iptrN (leL_of_eq rfl) | refine le_agg ?_ | exact le_slf rfl (TD.rows ..) | refine le_iptr ?_ | refine le_fn ?_ ?_)) (by first | exact .inl rfl | exact .inr rfl | exact .inl (by simp only [D.noImm, noImmL, go_sem, TD.nims, TD.nim, nim_rI, nim_rB8, nim_rBo, nim_rS])) ?_; simp -implicitDefEqProofs (disch := omega) only [go_sem, ↓reduceIte , c1, hno]
    | true =>
    cases c2 : inR 0 159 b.Tiles[i].Tile with
    | false => have hno : okForm b.Tiles = false := (key _ rfl).1 (by unfold okP; rw [e1]; simp only [c2, Bool.false_and, Bool.and_false]); refine call_leNA (v_ValidPoint b.Tiles[i].At) (by simp -implicitDefEqProofs (disch := omega) only [go_sem, ↓reduceIte, deep, TD.rows, immLL_rI, immLL_rB8, immLL_rS, immLL_rBo, immLL_rII, c1]; exact rfl) (by repeat (first | exact leL_nil | refine leL_cons ?_ ?_ | exact le_of_eq rfl | exact le_iptrN (leL_of_eq rfl) | refine le_agg ?_ | exact le_slf rfl (TD.rows ..) | refine le_iptr ?_ | refine le_fn ?_ ?_)) (by first | exact .inl rfl | exact .inr rfl | exact .inl (by simp only [D.noImm, noImmL, go_sem, TD.nims, TD.nim, nim_rI, nim_rB8, nim_rBo, nim_rS])) ?_; simp -implicitDefEqProofs (disch := omega) only [go_sem, ↓reduceIte , c1]; refine call_leNA (v_isIndex b.Tiles[i].Tile 160 (by decide) (by decide)) (by simp -implicitDefEqProofs (disch := omega) only [go_sem, ↓reduceIte, deep, TD.rows, immLL_rI, immLL_rB8, immLL_rS, immLL_rBo, immLL_rII, Int.reduceSub, c2, hno]; exact rfl) (by repeat (first | exact leL_nil | refine leL_cons ?_ ?_ | exact le_of_eq rfl | exact le_iptrN (leL_of_eq rfl) | refine le_agg ?_ | exact le_slf rfl (TD.rows ..) | refine le_iptr ?_ | refine le_fn ?_ ?_)) (by first | exact .inl rfl | exact .inr rfl | exact .inl (by simp only [D.noImm, noImmL, go_sem, TD.nims, TD.nim, nim_rI, nim_rB8, nim_rBo, nim_rS])) ?_; simp -implicitDefEqProofs (disch := omega) only [go_sem, ↓reduceIte , Int.reduceSub, c2, hno]
    | true =>
    cases i with
    | zero => have hok := (key _ (okP_zero hlt)).2 (by rw [c1, c2]; rfl); refine call_leNA (v_ValidPoint b.Tiles[0].At) (by simp -implicitDefEqProofs (disch := omega) only [go_sem, ↓reduceIte, deep, TD.rows, immLL_rI, immLL_rB8, immLL_rS, immLL_rBo, immLL_rII, c1]; exact rfl) (by repeat (first | exact leL_nil | refine leL_cons ?_ ?_ | exact le_of_eq rfl | exact le_iptrN (leL_of_eq rfl) | refine le_agg ?_ | exact le_slf rfl (TD.rows ..) | refine le_iptr ?_ | refine le_fn ?_ ?_)) (by first | exact .inl rfl | exact .inr rfl | exact .inl (by simp only [D.noImm, noImmL, go_sem, TD.nims, TD.nim, nim_rI, nim_rB8, nim_rBo, nim_rS])) ?_; simp -implicitDefEqProofs (disch := omega) only [go_sem, ↓reduceIte , c1]; refine call_leNA (v_isIndex b.Tiles[0].Tile 160 (by decide) (by decide)) (by simp -implicitDefEqProofs (disch := omega) only [go_sem, ↓reduceIte, deep, TD.rows, immLL_rI, immLL_rB8, immLL_rS, immLL_rBo, immLL_rII, Int.reduceSub, c2, Int.natCast_zero, Int.natCast_one, Int.cast_ofNat_Int, Int.ofNat_le, Int.toNat_zero, Nat.sub_zero, Int.le_refl, Int.reduceLT, Int.reduceLE, Int.reduceEq, Int.reduceAdd, Int.reduceSub, Int.reduceMul, Int.reduceToNat, Int.reduceNeg, Int.lt_irrefl]; exact rfl) (by repeat (first | exact leL_nil | refine leL_cons ?_ ?_ | exact le_of_eq rfl | exact le_iptrN (leL_of_eq rfl) | refine le_agg ?_ | exact le_slf rfl (TD.rows ..) | refine le_iptr ?_ | refine le_fn ?_ ?_)) (by first | exact .inl rfl | exact .inr rfl | exact .inl (by simp only [D.noImm, noImmL, go_sem, TD.nims, TD.nim, nim_rI, nim_rB8, nim_rBo, nim_rS])) ?_; simp -implicitDefEqProofs (disch := omega) only [go_sem, ↓reduceIte , Int.reduceSub, c2, Int.natCast_zero, Int.natCast_one, Int.cast_ofNat_Int, Int.ofNat_le, Int.toNat_zero, Nat.sub_zero, Int.le_refl, Int.reduceLT, Int.reduceLE, Int.reduceEq, Int.reduceAdd, Int.reduceSub, Int.reduceMul, Int.reduceToNat, Int.reduceNeg, Int.lt_irrefl]; exact ⟨1, by omega, ⟨by omega, hok⟩, by (try simp -implicitDefEqProofs only [nleL_cc, nleL_nn, nle_self, nle_boxs, nle_aggs, nle_nils, and_self, and_true, true_and]) <;> repeat' (first | exact nle_of_eq rfl | exact nle_nil | apply And.intro | apply nle_sl | apply nleLL_cons | apply nleL_cons | exact nleL_nil | exact nleLL_nil | apply nle_box | apply nle_agg)⟩
    | succ k =>
      have hk : k < b.Tiles.length := (by omega); have e2 := List.getElem?_eq_getElem hk; have w1 : IntKind.i64.wrap (((k + 1 : Nat) : Int) - 1) = (k : Int) := (by rw [wrI (by omega) (by omega)]; omega); have d1 : decide ((0 : Int) < ((k + 1 : Nat) : Int)) = true := (by rw [decide_eq_true_eq]; omega); cases c3 : lessP b.Tiles[k].At b.Tiles[k + 1].At with
      | false => have hno := (key _ (okP_succ hlt)).1 (by rw [c1, c2, c3]; rfl); refine call_leNA (v_ValidPoint b.Tiles[k + 1].At) (by simp -implicitDefEqProofs (disch := omega) only [go_sem, ↓reduceIte, deep, TD.rows, immLL_rI, immLL_rB8, immLL_rS, immLL_rBo, immLL_rII, c1]; exact rfl) (by repeat (first | exact leL_nil | refine leL_cons ?_ ?_ | exact le_of_eq rfl | exact le_iptrN (leL_of_eq rfl) | refine le_agg ?_ | exact le_slf rfl (TD.rows ..) | refine le_iptr ?_ | refine le_fn ?_ ?_)) (by first | exact .inl rfl | exact .inr rfl | exact .inl (by simp only [D.noImm, noImmL, go_sem, TD.nims, TD.nim, nim_rI, nim_rB8, nim_rBo, nim_rS])) ?_; simp -implicitDefEqProofs (disch := omega) only [go_sem, ↓reduceIte , c1]; refine call_leNA (v_isIndex b.Tiles[k + 1].Tile 160 (by decide) (by decide)) (by simp -implicitDefEqProofs (disch := omega) only [go_sem, ↓reduceIte, deep, TD.rows, immLL_rI, immLL_rB8, immLL_rS, immLL_rBo, immLL_rII, Int.reduceSub, c2, d1, w1, hk, e2, List.length_map, Int.toNat_natCast, Int.ofNat_lt, Int.natCast_nonneg, List.getElem?_map, Option.map_some, Placed.td_d]; exact rfl) (by repeat (first | exact leL_nil | refine leL_cons ?_ ?_ | exact le_of_eq rfl | exact le_iptrN (leL_of_eq rfl) | refine le_agg ?_ | exact le_slf rfl (TD.rows ..) | refine le_iptr ?_ | refine le_fn ?_ ?_)) (by first | exact .inl rfl | exact .inr rfl | exact .inl (by simp only [D.noImm, noImmL, go_sem, TD.nims, TD.nim, nim_rI, nim_rB8, nim_rBo, nim_rS])) ?_; simp -implicitDefEqProofs (disch := omega) only [go_sem, ↓reduceIte , Int.reduceSub, c2, d1, w1, hk, e2, List.length_map, Int.toNat_natCast, Int.ofNat_lt, Int.natCast_nonneg, List.getElem?_map, Option.map_some, Placed.td_d]; refine call_leA (v_LessPoint b.Tiles[k].At b.Tiles[k + 1].At) (by simp -implicitDefEqProofs (disch := omega) only [go_sem, ↓reduceIte, deep, TD.rows, immLL_rI, immLL_rB8, immLL_rS, immLL_rBo, immLL_rII, c3, hno]; exact rfl) (by repeat (first | exact leL_nil | refine leL_cons ?_ ?_ | exact le_of_eq rfl | exact le_iptrN (leL_of_eq rfl) | refine le_agg ?_ | exact le_slf rfl (TD.rows ..) | refine le_iptr ?_ | refine le_fn ?_ ?_)) (by first | exact .inl rfl | exact .inr rfl | exact .inl (by simp only [D.noImm, noImmL, go_sem, TD.nims, TD.nim, nim_rI, nim_rB8, nim_rBo, nim_rS])) ?_; simp -implicitDefEqProofs (disch := omega) only [go_sem, ↓reduceIte , c3, hno]
      | true => have hok := (key _ (okP_succ hlt)).2 (by rw [c1, c2, c3]; rfl); refine call_leNA (v_ValidPoint b.Tiles[k + 1].At) (by simp -implicitDefEqProofs (disch := omega) only [go_sem, ↓reduceIte, deep, TD.rows, immLL_rI, immLL_rB8, immLL_rS, immLL_rBo, immLL_rII, c1]; exact rfl) (by repeat (first | exact leL_nil | refine leL_cons ?_ ?_ | exact le_of_eq rfl | exact le_iptrN (leL_of_eq rfl) | refine le_agg ?_ | exact le_slf rfl (TD.rows ..) | refine le_iptr ?_ | refine le_fn ?_ ?_)) (by first | exact .inl rfl | exact .inr rfl | exact .inl (by simp only [D.noImm, noImmL, go_sem, TD.nims, TD.nim, nim_rI, nim_rB8, nim_rBo, nim_rS])) ?_; simp -implicitDefEqProofs (disch := omega) only [go_sem, ↓reduceIte , c1]; refine call_leNA (v_isIndex b.Tiles[k + 1].Tile 160 (by decide) (by decide)) (by simp -implicitDefEqProofs (disch := omega) only [go_sem, ↓reduceIte, deep, TD.rows, immLL_rI, immLL_rB8, immLL_rS, immLL_rBo, immLL_rII, Int.reduceSub, c2, d1, w1, hk, e2, List.length_map, Int.toNat_natCast, Int.ofNat_lt, Int.natCast_nonneg, List.getElem?_map, Option.map_some, Placed.td_d]; exact rfl) (by repeat (first | exact leL_nil | refine leL_cons ?_ ?_ | exact le_of_eq rfl | exact le_iptrN (leL_of_eq rfl) | refine le_agg ?_ | exact le_slf rfl (TD.rows ..) | refine le_iptr ?_ | refine le_fn ?_ ?_)) (by first | exact .inl rfl | exact .inr rfl | exact .inl (by simp only [D.noImm, noImmL, go_sem, TD.nims, TD.nim, nim_rI, nim_rB8, nim_rBo, nim_rS])) ?_; simp -implicitDefEqProofs (disch := omega) only [go_sem, ↓reduceIte , Int.reduceSub, c2, d1, w1, hk, e2, List.length_map, Int.toNat_natCast, Int.ofNat_lt, Int.natCast_nonneg, List.getElem?_map, Option.map_some, Placed.td_d]; refine call_leA (v_LessPoint b.Tiles[k].At b.Tiles[k + 1].At) (by simp -implicitDefEqProofs (disch := omega) only [go_sem, ↓reduceIte, deep, TD.rows, immLL_rI, immLL_rB8, immLL_rS, immLL_rBo, immLL_rII, c3, wrN]; exact rfl) (by repeat (first | exact leL_nil | refine leL_cons ?_ ?_ | exact le_of_eq rfl | exact le_iptrN (leL_of_eq rfl) | refine le_agg ?_ | exact le_slf rfl (TD.rows ..) | refine le_iptr ?_ | refine le_fn ?_ ?_)) (by first | exact .inl rfl | exact .inr rfl | exact .inl (by simp only [D.noImm, noImmL, go_sem, TD.nims, TD.nim, nim_rI, nim_rB8, nim_rBo, nim_rS])) ?_; simp -implicitDefEqProofs (disch := omega) only [go_sem, ↓reduceIte , c3, wrN]; exact ⟨k + 1 + 1, by omega, ⟨by omega, hok⟩, by (try simp -implicitDefEqProofs only [nleL_cc, nleL_nn, nle_self, nle_boxs, nle_aggs, nle_nils, and_self, and_true, true_and]) <;> repeat' (first | exact nle_of_eq rfl | exact nle_nil | apply And.intro | apply nle_sl | apply nleLL_cons | apply nleL_cons | exact nleL_nil | exact nleLL_nil | apply nle_box | apply nle_agg)⟩
  · obtain rfl : i = b.Tiles.length := (by have : ¬ i < b.Tiles.length := (by simpa using hlt); omega); simp -implicitDefEqProofs (disch := omega) only [go_sem, ↓reduceIte , List.length_map, okForm_yes hal]; exact congrArg Value.bool (by rw [decide_eq_decide]; omega)
def code_spec_l03Form : VCode := (.seq (.ops [
  ⟨(some 2), none, (.asg (.const (.bool false)))⟩]) (.seq (.seq (.ops [
  ⟨(some 5), none, (.mv (.tmp 0))⟩,
  ⟨(some 6), none, (.nilc (.tmp 5))⟩,
  ⟨(some 7), none, (.fa 0 (.tmp 6))⟩,
  ⟨(some 8), none, (.load 1 false (.tmp 7))⟩,
  ⟨(some 9), none, (.len (.tmp 8))⟩,
  ⟨(some 10), none, (.bin .gtr (.tmp 9) (.const (.int .i64 500)))⟩]) (.cond (.tmp 10) (.seq (.ops [
  ⟨(some 2), none, (.asg (.const (.bool false)))⟩]) .ret) .skip)) (.seq (.seq (.ops [
  ⟨(some 3), none, (.asg (.const (.int .i64 0)))⟩]) (.block 0 (.loop (mB 56 72057594037927926) (.seq (.seq (.ops [
  ⟨(some 11), none, (.mv (.tmp 3))⟩,
  ⟨(some 12), none, (.mv (.tmp 0))⟩,
  ⟨(some 13), none, (.nilc (.tmp 12))⟩,
  ⟨(some 14), none, (.fa 0 (.tmp 13))⟩,
  ⟨(some 15), none, (.load 1 false (.tmp 14))⟩,
  ⟨(some 16), none, (.len (.tmp 15))⟩,
  ⟨(some 17), none, (.bin .lss (.tmp 11) (.tmp 16))⟩]) (.cond (.tmp 17) .skip (.exit 0))) (.seq (.block 1 (.seq (.ops [
  ⟨(some 20), none, (.mv (.tmp 0))⟩,
  ⟨(some 21), none, (.nilc (.tmp 20))⟩,
  ⟨(some 22), none, (.fa 0 (.tmp 21))⟩,
  ⟨(some 23), none, (.load 1 false (.tmp 22))⟩,
  ⟨(some 24), none, (.mv (.tmp 3))⟩,
  ⟨(some 25), none, (.ia 3 (.tmp 23) (.tmp 24))⟩,
  ⟨(some 26), none, (.load 3 true (.tmp 25))⟩,
  ⟨(some 4), none, (.alloc [(.int .i64 0), (.int .i64 0), (.int .i64 0)])⟩,
  ⟨none, none, (.store 3 (.tmp 4) (.tmp 26))⟩]) (.seq (.draw (mB 52 4503599493152768) [] [⟨0, (mB 52 4503599493152768), [], ⟨(some 27), none, (.fa 0 (.tmp 4))⟩⟩, ⟨1, (mB 52 4503599358935040), [], ⟨(some 28), none, (.load 2 true (.tmp 27))⟩⟩, ⟨2, (mB 52 4503599090499584), [], ⟨(some 29), none, (.call 68 [(.tmp 28)])⟩⟩, ⟨3, (mB 52 4503598553628672), [], ⟨(some 30), none, (.un .not (.tmp 29))⟩⟩, ⟨4, (mB 52 4503597479886848), [], ⟨(some 31), none, (.mv (.tmp 30))⟩⟩, ⟨5, (mB 52 4503595332403200), [], ⟨(some 32), (some (31, false)), (.fa 2 (.tmp 4))⟩⟩, ⟨6, (mB 52 4503591037435904), [], ⟨(some 33), (some (31, false)), (.load 1 false (.tmp 32))⟩⟩, ⟨7, (mB 52 4503582447501312), [], ⟨(some 34), (some (31, false)), (.call 50 [(.tmp 33), (.const (.int .i64 0)), (.const (.int .i64 159))])⟩⟩, ⟨8, (mB 52 4503565267632128), [], ⟨(some 35), (some (31, false)), (.un .not (.tmp 34))⟩⟩, ⟨9, (mB 52 4503530907893760), [], ⟨(some 36), none, (.pick (.tmp 31) (.const (.bool true)) (.tmp 35))⟩⟩, ⟨10, (mB 52 4503462188417024), [], ⟨(some 37), none, (.mv (.tmp 36))⟩⟩, ⟨11, (mB 52 4503324749463552), [], ⟨(some 38), (some (37, false)), (.mv (.tmp 3))⟩⟩, ⟨12, (mB 52 4503049871556608), [], ⟨(some 39), (some (37, false)), (.bin .gtr (.tmp 38) (.const (.int .i64 0)))⟩⟩, ⟨13, (mB 52 4502500115742720), [], ⟨(some 40), (some (37, false)), (.mv (.tmp 39))⟩⟩, ⟨14, (mB 52 4501400604114944), [], ⟨(some 41), (some (40, true)), (.mv (.tmp 0))⟩⟩, ⟨15, (mB 52 4499201580859392), [], ⟨(some 42), (some (40, true)), (.nilc (.tmp 41))⟩⟩, ⟨16, (mB 52 4494803534348288), [], ⟨(some 43), (some (40, true)), (.fa 0 (.tmp 42))⟩⟩, ⟨17, (mB 52 4486007441326080), [], ⟨(some 44), (some (40, true)), (.load 1 false (.tmp 43))⟩⟩, ⟨18, (mB 52 4501400604114944), [], ⟨(some 45), (some (40, true)), (.mv (.tmp 3))⟩⟩, ⟨19, (mB 52 4466216232026112), [], ⟨(some 46), (some (40, true)), (.bin .sub (.tmp 45) (.const (.int .i64 1)))⟩⟩, ⟨20, (mB 52 4362862139015168), [], ⟨(some 47), (some (40, true)), (.ia 3 (.tmp 44) (.tmp 46))⟩⟩, ⟨21, (mB 52 4222124650659840), [], ⟨(some 48), (some (40, true)), (.fa 0 (.tmp 47))⟩⟩, ⟨22, (mB 52 3940649673949184), [], ⟨(some 49), (some (40, true)), (.load 2 true (.tmp 48))⟩⟩, ⟨23, (mB 52 4501400604114944), [], ⟨(some 50), (some (40, true)), (.fa 0 (.tmp 4))⟩⟩, ⟨24, (mB 52 3375500697272320), [], ⟨(some 51), (some (40, true)), (.load 2 true (.tmp 50))⟩⟩] [⟨(some 52), (some (40, true)), (.callX 111 [(.tmp 49), (.tmp 51)])⟩, ⟨(some 53), (some (40, true)), (.un .not (.tmp 52))⟩, ⟨(some 54), (some (37, false)), (.pick (.tmp 40) (.tmp 53) (.const (.bool false)))⟩, ⟨(some 55), none, (.pick (.tmp 37) (.const (.bool true)) (.tmp 54))⟩]) (.cond (.tmp 55) (.seq (.ops [
  ⟨(some 2), none, (.asg (.const (.bool false)))⟩]) .ret) .skip)))) (.ops [
  ⟨(some 18), none, (.mv (.tmp 3))⟩,
  ⟨(some 19), none, (.bin .add (.tmp 18) (.const (.int .i64 1)))⟩,
  ⟨(some 3), none, (.asg (.tmp 19))⟩])))))) (.seq (.ops [
  ⟨(some 2), none, (.asg (.const (.bool true)))⟩]) .ret))))
theorem law_spec_l03Form {a0 d : D} (h : code_spec_l03Form.wp (CT Try.prog NoG) (endQ [(.t 2)] d) [a0, .undef, .undef, .undef, .undef, .undef, .undef, .undef, .undef, .undef, .undef, .undef, .undef, .undef, .undef, .undef, .undef, .undef, .undef, .undef, .undef, .undef, .undef, .undef, .undef, .undef, .undef, .undef, .undef, .undef, .undef, .undef, .undef, .undef, .undef, .undef, .undef, .undef, .undef, .undef, .undef, .undef, .undef, .undef, .undef, .undef, .undef, .undef, .undef, .undef, .undef, .undef, .undef, .undef, .undef, .undef]) : Contract Try.prog NoG 78 [a0] d :=
  contract_of noG Try.func78 (fun us W => by kernel_rfl) (c := Try.f78.body.getD .skip) (ms := [(mB 56 72057594037927926)]) (ms' := []) (by kernel_rfl) (by kernel_rfl) (by kernel_rfl) h
set_option maxHeartbeats 2000000 in
theorem v_l03Form (b : Assembly) (hn : b.Tiles.length ≤ 1048576) : Contract Try.prog NoG 78 [.iptr (Assembly.td.d false b) 0] (.v (.bool (okForm b.Tiles))) := by
  rw [Assembly.td_d]; refine law_spec_l03Form ?_; unfold code_spec_l03Form; by_cases h5 : b.Tiles.length ≤ 500
  · have d5 : decide ((500 : Int) < (b.Tiles.length : Int)) = false := (by rw [decide_eq_false_iff_not]; omega); simp -implicitDefEqProofs (disch := omega) only [go_sem, ↓reduceIte , List.length_map, d5]; refine loop_ov (by simp -implicitDefEqProofs (disch := omega) only [go_sem, ↓reduceIte]; exact rfl) (fun i : Nat => [(3, .v (.int .i64 (i : Nat)))]) (fun _ => by simp only [ovr_nil, ovr_cons, List.set_cons_zero, List.set_cons_succ]; exact rfl) (fun i : Nat => i ≤ b.Tiles.length ∧ (List.range i).all (okP b.Tiles) = true) (fun i : Nat => b.Tiles.length - i) (0) (by (try simp -implicitDefEqProofs only [nleL_cc, nleL_nn, nle_self, nle_boxs, nle_aggs, nle_nils, and_self, and_true, true_and]) <;> repeat' (first | exact nle_of_eq rfl | exact nle_nil | apply And.intro | apply nle_sl | apply nleLL_cons | apply nleL_cons | exact nleL_nil | exact nleLL_nil | apply nle_box | apply nle_agg)) (?_) ?_
    · exact ⟨Nat.zero_le _, rfl⟩
    rintro i ⟨hi, hal⟩; simp -implicitDefEqProofs (disch := omega) only [go_sem, ↓reduceIte , List.length_map, Int.toNat_natCast, Int.ofNat_lt, Int.natCast_nonneg, List.getElem?_map, Option.map_some]; refine cond_split ?_ ?_ <;> intro hlt
    · have hlt : i < b.Tiles.length := (by simpa using hlt); have e1 := List.getElem?_eq_getElem hlt; have key : ∀ v, okP b.Tiles i = v → (v = false → okForm b.Tiles = false) ∧ (v = true → (List.range (i + 1)).all (okP b.Tiles) = true) := fun v hv => ⟨fun h => okForm_no hlt (hv.trans h), fun h => all_next hal (hv.trans h)⟩
      simp -implicitDefEqProofs (disch := omega) only [go_sem, ↓reduceIte , List.length_map, Int.toNat_natCast, Int.ofNat_lt, Int.natCast_nonneg, List.getElem?_map, Option.map_some, hlt, e1, Placed.td_d]; cases c1 : ptOK b.Tiles[i].At with
      | false => have hno : okForm b.Tiles = false := (key _ rfl).1 (by unfold okP; rw [e1]; simp only [c1, Bool.false_and]); refine call_leNA (v_l01Point b.Tiles[i].At) (by simp -implicitDefEqProofs (disch := omega) only [go_sem, ↓reduceIte, deep, TD.rows, immLL_rI, immLL_rB8, immLL_rS, immLL_rBo, immLL_rII, c1, hno]; exact rfl) (by repeat (first | exact leL_nil | refine leL_cons ?_ ?_ | exact le_of_eq rfl | exact le_iptrN (leL_of_eq rfl) | refine le_agg ?_ | exact le_slf rfl (TD.rows ..) | refine le_iptr ?_ | refine le_fn ?_ ?_)) (by first | exact .inl rfl | exact .inr rfl | exact .inl (by simp only [D.noImm, noImmL, go_sem, TD.nims, TD.nim, nim_rI, nim_rB8, nim_rBo, nim_rS])) ?_; simp -implicitDefEqProofs (disch := omega) only [go_sem, ↓reduceIte , c1, hno]
      | true =>
      cases c2 : inR 0 159 b.Tiles[i].Tile with
      | false => have hno : okForm b.Tiles = false := (key _ rfl).1 (by unfold okP; rw [e1]; simp only [c2, Bool.false_and, Bool.and_false]); refine call_leNA (v_l01Point b.Tiles[i].At) (by simp -implicitDefEqProofs (disch := omega) only [go_sem, ↓reduceIte, deep, TD.rows, immLL_rI, immLL_rB8, immLL_rS, immLL_rBo, immLL_rII, c1]; exact rfl) (by repeat (first | exact leL_nil | refine leL_cons ?_ ?_ | exact le_of_eq rfl | exact le_iptrN (leL_of_eq rfl) | refine le_agg ?_ | exact le_slf rfl (TD.rows ..) | refine le_iptr ?_ | refine le_fn ?_ ?_)) (by first | exact .inl rfl | exact .inr rfl | exact .inl (by simp only [D.noImm, noImmL, go_sem, TD.nims, TD.nim, nim_rI, nim_rB8, nim_rBo, nim_rS])) ?_; simp -implicitDefEqProofs (disch := omega) only [go_sem, ↓reduceIte , c1]; refine call_leNA (v_l00In b.Tiles[i].Tile 0 159) (by simp -implicitDefEqProofs (disch := omega) only [go_sem, ↓reduceIte, deep, TD.rows, immLL_rI, immLL_rB8, immLL_rS, immLL_rBo, immLL_rII, c2, hno]; exact rfl) (by repeat (first | exact leL_nil | refine leL_cons ?_ ?_ | exact le_of_eq rfl | exact le_iptrN (leL_of_eq rfl) | refine le_agg ?_ | exact le_slf rfl (TD.rows ..) | refine le_iptr ?_ | refine le_fn ?_ ?_)) (by first | exact .inl rfl | exact .inr rfl | exact .inl (by simp only [D.noImm, noImmL, go_sem, TD.nims, TD.nim, nim_rI, nim_rB8, nim_rBo, nim_rS])) ?_; simp -implicitDefEqProofs (disch := omega) only [go_sem, ↓reduceIte , c2, hno]
      | true =>
      cases i with
      | zero => have hok := (key _ (okP_zero hlt)).2 (by rw [c1, c2]; rfl); refine call_leNA (v_l01Point b.Tiles[0].At) (by simp -implicitDefEqProofs (disch := omega) only [go_sem, ↓reduceIte, deep, TD.rows, immLL_rI, immLL_rB8, immLL_rS, immLL_rBo, immLL_rII, c1]; exact rfl) (by repeat (first | exact leL_nil | refine leL_cons ?_ ?_ | exact le_of_eq rfl | exact le_iptrN (leL_of_eq rfl) | refine le_agg ?_ | exact le_slf rfl (TD.rows ..) | refine le_iptr ?_ | refine le_fn ?_ ?_)) (by first | exact .inl rfl | exact .inr rfl | exact .inl (by simp only [D.noImm, noImmL, go_sem, TD.nims, TD.nim, nim_rI, nim_rB8, nim_rBo, nim_rS])) ?_; simp -implicitDefEqProofs (disch := omega) only [go_sem, ↓reduceIte , c1]; refine call_leNA (v_l00In b.Tiles[0].Tile 0 159) (by simp -implicitDefEqProofs (disch := omega) only [go_sem, ↓reduceIte, deep, TD.rows, immLL_rI, immLL_rB8, immLL_rS, immLL_rBo, immLL_rII, c2, Int.natCast_zero, Int.natCast_one, Int.cast_ofNat_Int, Int.ofNat_le, Int.toNat_zero, Nat.sub_zero, Int.le_refl, Int.reduceLT, Int.reduceLE, Int.reduceEq, Int.reduceAdd, Int.reduceSub, Int.reduceMul, Int.reduceToNat, Int.reduceNeg, Int.lt_irrefl]; exact rfl) (by repeat (first | exact leL_nil | refine leL_cons ?_ ?_ | exact le_of_eq rfl | exact le_iptrN (leL_of_eq rfl) | refine le_agg ?_ | exact le_slf rfl (TD.rows ..) | refine le_iptr ?_ | refine le_fn ?_ ?_)) (by first | exact .inl rfl | exact .inr rfl | exact .inl (by simp only [D.noImm, noImmL, go_sem, TD.nims, TD.nim, nim_rI, nim_rB8, nim_rBo, nim_rS])) ?_; simp -implicitDefEqProofs (disch := omega) only [go_sem, ↓reduceIte , c2, Int.natCast_zero, Int.natCast_one, Int.cast_ofNat_Int, Int.ofNat_le, Int.toNat_zero, Nat.sub_zero, Int.le_refl, Int.reduceLT, Int.reduceLE, Int.reduceEq, Int.reduceAdd, Int.reduceSub, Int.reduceMul, Int.reduceToNat, Int.reduceNeg, Int.lt_irrefl]; exact ⟨1, by omega, ⟨by omega, hok⟩, by (try simp -implicitDefEqProofs only [nleL_cc, nleL_nn, nle_self, nle_boxs, nle_aggs, nle_nils, and_self, and_true, true_and]) <;> repeat' (first | exact nle_of_eq rfl | exact nle_nil | apply And.intro | apply nle_sl | apply nleLL_cons | apply nleL_cons | exact nleL_nil | exact nleLL_nil | apply nle_box | apply nle_agg)⟩
      | succ k =>
        have hk : k < b.Tiles.length := (by omega); have e2 := List.getElem?_eq_getElem hk; have w1 : IntKind.i64.wrap (((k + 1 : Nat) : Int) - 1) = (k : Int) := (by rw [wrI (by omega) (by omega)]; omega); have d1 : decide ((0 : Int) < ((k + 1 : Nat) : Int)) = true := (by rw [decide_eq_true_eq]; omega); cases c3 : lessP b.Tiles[k].At b.Tiles[k + 1].At with
        | false => have hno := (key _ (okP_succ hlt)).1 (by rw [c1, c2, c3]; rfl); refine call_leNA (v_l01Point b.Tiles[k + 1].At) (by simp -implicitDefEqProofs (disch := omega) only [go_sem, ↓reduceIte, deep, TD.rows, immLL_rI, immLL_rB8, immLL_rS, immLL_rBo, immLL_rII, c1]; exact rfl) (by repeat (first | exact leL_nil | refine leL_cons ?_ ?_ | exact le_of_eq rfl | exact le_iptrN (leL_of_eq rfl) | refine le_agg ?_ | exact le_slf rfl (TD.rows ..) | refine le_iptr ?_ | refine le_fn ?_ ?_)) (by first | exact .inl rfl | exact .inr rfl | exact .inl (by simp only [D.noImm, noImmL, go_sem, TD.nims, TD.nim, nim_rI, nim_rB8, nim_rBo, nim_rS])) ?_; simp -implicitDefEqProofs (disch := omega) only [go_sem, ↓reduceIte , c1]; refine call_leNA (v_l00In b.Tiles[k + 1].Tile 0 159) (by simp -implicitDefEqProofs (disch := omega) only [go_sem, ↓reduceIte, deep, TD.rows, immLL_rI, immLL_rB8, immLL_rS, immLL_rBo, immLL_rII, c2, d1, w1, hk, e2, List.length_map, Int.toNat_natCast, Int.ofNat_lt, Int.natCast_nonneg, List.getElem?_map, Option.map_some, Placed.td_d]; exact rfl) (by repeat (first | exact leL_nil | refine leL_cons ?_ ?_ | exact le_of_eq rfl | exact le_iptrN (leL_of_eq rfl) | refine le_agg ?_ | exact le_slf rfl (TD.rows ..) | refine le_iptr ?_ | refine le_fn ?_ ?_)) (by first | exact .inl rfl | exact .inr rfl | exact .inl (by simp only [D.noImm, noImmL, go_sem, TD.nims, TD.nim, nim_rI, nim_rB8, nim_rBo, nim_rS])) ?_; simp -implicitDefEqProofs (disch := omega) only [go_sem, ↓reduceIte , c2, d1, w1, hk, e2, List.length_map, Int.toNat_natCast, Int.ofNat_lt, Int.natCast_nonneg, List.getElem?_map, Option.map_some, Placed.td_d]; refine call_leA (v_LessPoint_spec b.Tiles[k].At b.Tiles[k + 1].At) (by simp -implicitDefEqProofs (disch := omega) only [go_sem, ↓reduceIte, deep, TD.rows, immLL_rI, immLL_rB8, immLL_rS, immLL_rBo, immLL_rII, c3, hno]; exact rfl) (by repeat (first | exact leL_nil | refine leL_cons ?_ ?_ | exact le_of_eq rfl | exact le_iptrN (leL_of_eq rfl) | refine le_agg ?_ | exact le_slf rfl (TD.rows ..) | refine le_iptr ?_ | refine le_fn ?_ ?_)) (by first | exact .inl rfl | exact .inr rfl | exact .inl (by simp only [D.noImm, noImmL, go_sem, TD.nims, TD.nim, nim_rI, nim_rB8, nim_rBo, nim_rS])) ?_; simp -implicitDefEqProofs (disch := omega) only [go_sem, ↓reduceIte , c3, hno]
        | true => have hok := (key _ (okP_succ hlt)).2 (by rw [c1, c2, c3]; rfl); refine call_leNA (v_l01Point b.Tiles[k + 1].At) (by simp -implicitDefEqProofs (disch := omega) only [go_sem, ↓reduceIte, deep, TD.rows, immLL_rI, immLL_rB8, immLL_rS, immLL_rBo, immLL_rII, c1]; exact rfl) (by repeat (first | exact leL_nil | refine leL_cons ?_ ?_ | exact le_of_eq rfl | exact le_iptrN (leL_of_eq rfl) | refine le_agg ?_ | exact le_slf rfl (TD.rows ..) | refine le_iptr ?_ | refine le_fn ?_ ?_)) (by first | exact .inl rfl | exact .inr rfl | exact .inl (by simp only [D.noImm, noImmL, go_sem, TD.nims, TD.nim, nim_rI, nim_rB8, nim_rBo, nim_rS])) ?_; simp -implicitDefEqProofs (disch := omega) only [go_sem, ↓reduceIte , c1]; refine call_leNA (v_l00In b.Tiles[k + 1].Tile 0 159) (by simp -implicitDefEqProofs (disch := omega) only [go_sem, ↓reduceIte, deep, TD.rows, immLL_rI, immLL_rB8, immLL_rS, immLL_rBo, immLL_rII, c2, d1, w1, hk, e2, List.length_map, Int.toNat_natCast, Int.ofNat_lt, Int.natCast_nonneg, List.getElem?_map, Option.map_some, Placed.td_d]; exact rfl) (by repeat (first | exact leL_nil | refine leL_cons ?_ ?_ | exact le_of_eq rfl | exact le_iptrN (leL_of_eq rfl) | refine le_agg ?_ | exact le_slf rfl (TD.rows ..) | refine le_iptr ?_ | refine le_fn ?_ ?_)) (by first | exact .inl rfl | exact .inr rfl | exact .inl (by simp only [D.noImm, noImmL, go_sem, TD.nims, TD.nim, nim_rI, nim_rB8, nim_rBo, nim_rS])) ?_; simp -implicitDefEqProofs (disch := omega) only [go_sem, ↓reduceIte , c2, d1, w1, hk, e2, List.length_map, Int.toNat_natCast, Int.ofNat_lt, Int.natCast_nonneg, List.getElem?_map, Option.map_some, Placed.td_d]; refine call_leA (v_LessPoint_spec b.Tiles[k].At b.Tiles[k + 1].At) (by simp -implicitDefEqProofs (disch := omega) only [go_sem, ↓reduceIte, deep, TD.rows, immLL_rI, immLL_rB8, immLL_rS, immLL_rBo, immLL_rII, c3, wrN]; exact rfl) (by repeat (first | exact leL_nil | refine leL_cons ?_ ?_ | exact le_of_eq rfl | exact le_iptrN (leL_of_eq rfl) | refine le_agg ?_ | exact le_slf rfl (TD.rows ..) | refine le_iptr ?_ | refine le_fn ?_ ?_)) (by first | exact .inl rfl | exact .inr rfl | exact .inl (by simp only [D.noImm, noImmL, go_sem, TD.nims, TD.nim, nim_rI, nim_rB8, nim_rBo, nim_rS])) ?_; simp -implicitDefEqProofs (disch := omega) only [go_sem, ↓reduceIte , c3, wrN]; exact ⟨k + 1 + 1, by omega, ⟨by omega, hok⟩, by (try simp -implicitDefEqProofs only [nleL_cc, nleL_nn, nle_self, nle_boxs, nle_aggs, nle_nils, and_self, and_true, true_and]) <;> repeat' (first | exact nle_of_eq rfl | exact nle_nil | apply And.intro | apply nle_sl | apply nleLL_cons | apply nleL_cons | exact nleL_nil | exact nleLL_nil | apply nle_box | apply nle_agg)⟩
    · obtain rfl : i = b.Tiles.length := (by have : ¬ i < b.Tiles.length := (by simpa using hlt); omega); have d6 : decide (b.Tiles.length ≤ 500) = true := decide_eq_true h5; simp -implicitDefEqProofs (disch := omega) only [go_sem, ↓reduceIte , okForm_yes hal, d6]
  · have d5 : decide ((500 : Int) < (b.Tiles.length : Int)) = true := (by rw [decide_eq_true_eq]; omega); have hno : okForm b.Tiles = false := (by unfold okForm; rw [decide_eq_false h5]; rfl); simp -implicitDefEqProofs (disch := omega) only [go_sem, ↓reduceIte , List.length_map, d5, hno]
def code_slices_IndexFunc_impl_Placed_impl_Placed : VCode := (.seq (.ops [
  ⟨(some 4), none, (.asg (.const (.int .i64 0)))⟩]) (.seq (.seq (.ops [
  ⟨(some 6), none, (.mv (.tmp 0))⟩,
  ⟨(some 7), none, (.len (.tmp 6))⟩,
  ⟨(some 8), none, (.mv (.const (.int .i64 0)))⟩]) (.block 0 (.loop (mB 19 523900) (.seq (.ops [
  ⟨(some 9), none, (.bin .lss (.tmp 8) (.tmp 7))⟩]) (.seq (.cond (.tmp 9) .skip (.exit 0)) (.seq (.block 1 (.seq (.ops [
  ⟨(some 10), none, (.mv (.tmp 8))⟩,
  ⟨(some 5), none, (.asg (.tmp 10))⟩]) (.seq (.ops [
  ⟨(some 11), none, (.mv (.tmp 1))⟩,
  ⟨(some 12), none, (.mv (.tmp 0))⟩,
  ⟨(some 13), none, (.mv (.tmp 5))⟩,
  ⟨(some 14), none, (.ia 3 (.tmp 12) (.tmp 13))⟩,
  ⟨(some 15), none, (.load 3 true (.tmp 14))⟩,
  ⟨(some 16), none, (.callvX (.tmp 11) [(.tmp 15)])⟩]) (.cond (.tmp 16) (.seq (.ops [
  ⟨(some 17), none, (.mv (.tmp 5))⟩,
  ⟨(some 4), none, (.asg (.tmp 17))⟩]) .ret) .skip)))) (.ops [
  ⟨(some 18), none, (.bin .add (.tmp 8) (.const (.int .i64 1)))⟩,
  ⟨(some 8), none, (.mv (.tmp 18))⟩]))))))) (.seq (.ops [
  ⟨(some 4), none, (.asg (.const (.int .i64 (-1))))⟩]) .ret)))
theorem law_slices_IndexFunc_impl_Placed_impl_Placed {a0 a1 d : D} (h : code_slices_IndexFunc_impl_Placed_impl_Placed.wp (CT Try.prog NoG) (endQ [(.t 4)] d) [a0, a1, .undef, .undef, .undef, .undef, .undef, .undef, .undef, .undef, .undef, .undef, .undef, .undef, .undef, .undef, .undef, .undef, .undef]) : Contract Try.prog NoG 136 [a0, a1] d :=
  contract_of noG Try.func136 (fun us W => by kernel_rfl) (c := Try.f136.body.getD .skip) (ms := [(mB 19 523900)]) (ms' := []) (by kernel_rfl) (by kernel_rfl) (by kernel_rfl) h
theorem v_IndexFunc_Placed (f : FuncId) (caps : List D) (hd : CapsOK caps) (xs : List Placed) (p : Placed → Bool) (hc : ∀ x, x ∈ xs → Contract Try.prog NoG f (.agg (Placed.td.d false x) :: caps) (.v (.bool (p x)))) (hn : xs.length ≤ 1099511627776) :
    Contract Try.prog NoG 136 [.sl false 3 (xs.map (Placed.td.d false)), .fn f [] caps] (.v (.int .i64 (vIdx p xs))) := by
  refine law_slices_IndexFunc_impl_Placed_impl_Placed ?_; unfold code_slices_IndexFunc_impl_Placed_impl_Placed; simp -implicitDefEqProofs (disch := omega) only [go_sem, ↓reduceIte , hd.owny, hd.pr]; refine loop_st (fun i : Nat => [.sl false 3 (xs.map (Placed.td.d false)), .fn f [] caps, .undef, .undef, .undef, .undef, .undef, .v (.int .i64 (xs.map (Placed.td.d false)).length), .v (.int .i64 i), .undef, .undef, .undef, .undef, .undef, .undef, .undef, .undef, .undef, .undef]) (fun i => i ≤ xs.length ∧ ∀ j (hj : j < xs.length), j < i → p xs[j] = false) (fun i => xs.length - i) 0 ?_ ⟨Nat.zero_le _, fun j _ h => absurd h (Nat.not_lt_zero _)⟩ ?_
  · simp -implicitDefEqProofs (disch := omega) only [go_sem, ↓reduceIte , hd.owny, hd.pr]
    (try simp -implicitDefEqProofs only [nleL_cc, nleL_nn, nle_self, nle_boxs, nle_aggs, nle_nils, and_self, and_true, true_and]) <;> repeat' (first | exact nle_of_eq rfl | exact nle_nil | apply And.intro | apply nle_sl | apply nleLL_cons | apply nleL_cons | exact nleL_nil | exact nleLL_nil | apply nle_box | apply nle_agg)
  rintro i ⟨hi, ha⟩; simp -implicitDefEqProofs (disch := omega) only [go_sem, ↓reduceIte , List.length_map, Int.toNat_natCast, Int.ofNat_lt, Int.natCast_nonneg, List.getElem?_map, Option.map_some, hd.owny, hd.pr]; refine cond_split ?_ ?_ <;> intro hlt
  · have hlt : i < xs.length := (by simpa using hlt); have hx := List.getElem?_eq_getElem hlt; simp -implicitDefEqProofs (disch := omega) only [go_sem, ↓reduceIte , List.length_map, Int.toNat_natCast, Int.ofNat_lt, Int.natCast_nonneg, List.getElem?_map, Option.map_some, hlt, hx, Placed.td_d, hd.owny, hd.pr]; have hcx := hc _ (List.getElem_mem hlt); rw [Placed.td_d] at hcx; refine callv_le (f := f) (first := []) (caps := caps) ?_ hcx ?_ (.inl rfl) ?_
    · simp -implicitDefEqProofs (disch := omega) only [go_sem, ↓reduceIte , hd.owny]
    · refine leL_of_eq ?_; simp only [List.nil_append, List.cons_append, List.map_cons, List.map_nil, hd.d8, List.map_append]; simp only [deep, raw, List.getElem?_cons_succ, List.getElem?_cons_zero, List.map_cons, List.map_nil, TD.rows, immLL_rI, immLL_rB8, immLL_rS, immLL_rBo]
    simp -implicitDefEqProofs (disch := omega) only [go_sem, ↓reduceIte , hd.owny, hd.pr]; refine cond_split ?_ ?_ <;> intro hp
    · simp -implicitDefEqProofs (disch := omega) only [go_sem, ↓reduceIte , hd.owny, hd.pr]; rw [vIdx_hit p xs i hlt ha hp]
    · simp -implicitDefEqProofs (disch := omega) only [go_sem, ↓reduceIte , wrN, hd.owny, hd.pr]; refine ⟨i + 1, by omega, ⟨hlt, fun j hj h => ?_⟩, by (try simp -implicitDefEqProofs only [nleL_cc, nleL_nn, nle_self, nle_boxs, nle_aggs, nle_nils, and_self, and_true, true_and]) <;> repeat' (first | exact nle_of_eq rfl | exact nle_nil | apply And.intro | apply nle_sl | apply nleLL_cons | apply nleL_cons | exact nleL_nil | exact nleLL_nil | apply nle_box | apply nle_agg)⟩; rcases Nat.lt_or_ge j i with h' | h'
      · exact ha j hj h'
      · have : j = i := (by omega); subst this; exact hp
  · have hlt : ¬ i < xs.length := (by simpa using hlt); simp -implicitDefEqProofs (disch := omega) only [go_sem, ↓reduceIte]; rw [vIdx_miss p xs (fun j hj => ha j hj (by omega))]
def code_slices_ContainsFunc_impl_Placed_impl_Placed : VCode := (.seq (.ops [
  ⟨(some 4), none, (.asg (.const (.bool false)))⟩]) (.seq (.ops [
  ⟨(some 5), none, (.mv (.tmp 0))⟩,
  ⟨(some 6), none, (.mv (.tmp 1))⟩,
  ⟨(some 7), none, (.callX 136 [(.tmp 5), (.tmp 6)])⟩,
  ⟨(some 8), none, (.bin .geq (.tmp 7) (.const (.int .i64 0)))⟩,
  ⟨(some 4), none, (.asg (.tmp 8))⟩]) .ret))
theorem law_slices_ContainsFunc_impl_Placed_impl_Placed {a0 a1 d : D} (h : code_slices_ContainsFunc_impl_Placed_impl_Placed.wp (CT Try.prog NoG) (endQ [(.t 4)] d) [a0, a1, .undef, .undef, .undef, .undef, .undef, .undef, .undef]) : Contract Try.prog NoG 95 [a0, a1] d :=
  contract_of noG Try.func95 (fun us W => by kernel_rfl) (c := Try.f95.body.getD .skip) (ms := []) (ms' := []) (by kernel_rfl) (by kernel_rfl) (by kernel_rfl) h
theorem v_ContainsFunc_Placed (f : FuncId) (caps : List D) (hd : CapsOK caps) (xs : List Placed) (p : Placed → Bool) (hc : ∀ x, x ∈ xs → Contract Try.prog NoG f (.agg (Placed.td.d false x) :: caps) (.v (.bool (p x)))) (hn : xs.length ≤ 1099511627776) :
    Contract Try.prog NoG 95 [.sl false 3 (xs.map (Placed.td.d false)), .fn f [] caps] (.v (.bool (xs.any p))) := by
  refine law_slices_ContainsFunc_impl_Placed_impl_Placed ?_; unfold code_slices_ContainsFunc_impl_Placed_impl_Placed; simp -implicitDefEqProofs (disch := omega) only [go_sem, ↓reduceIte , hd.owny, hd.pr]; refine call_le (v_IndexFunc_Placed f caps hd xs p hc hn) ?_ (.inl rfl) ?_
  · refine leL_of_eq ?_; simp only [List.map_cons, List.map_nil, deep, raw, List.getElem?_cons_succ, List.getElem?_cons_zero, TD.rows, immLL_rI, immLL_rB8, immLL_rS, immLL_rBo, hd.owny, hd.pr, hd.d7]
    try rfl
  simp -implicitDefEqProofs (disch := omega) only [go_sem, ↓reduceIte]; exact congrArg Value.bool (vIdx_any p xs)
def code_impl_TileSet_isTile : VCode := (.seq (.ops [
  ⟨(some 2), none, (.box (.tmp 0))⟩,
  ⟨(some 4), none, (.asg (.const (.bool false)))⟩]) (.seq (.ops [
  ⟨(some 5), none, (.mv (.tmp 1))⟩,
  ⟨(some 6), none, (.fa 1 (.tmp 2))⟩,
  ⟨(some 7), none, (.load 1 false (.tmp 6))⟩,
  ⟨(some 8), none, (.len (.tmp 7))⟩,
  ⟨(some 9), none, (.callX 118 [(.tmp 5), (.tmp 8)])⟩,
  ⟨(some 4), none, (.asg (.tmp 9))⟩]) .ret))
theorem law_impl_TileSet_isTile {a0 a1 d : D} (h : code_impl_TileSet_isTile.wp (CT Try.prog NoG) (endQ [(.t 4)] d) [a0, a1, .undef, .undef, .undef, .undef, .undef, .undef, .undef, .undef]) : Contract Try.prog NoG 72 [a0, a1] d :=
  contract_of noG Try.func72 (fun us W => by kernel_rfl) (c := Try.f72.body.getD .skip) (ms := []) (ms' := []) (by kernel_rfl) (by kernel_rfl) (by kernel_rfl) h
theorem v_isTile (a : TileSet) (i : Int) (hn : a.Tiles.length ≤ 1048576) : Contract Try.prog NoG 72 [.agg (TileSet.td.d false a), .v (.int .i64 i)] (.v (.bool (inR 0 ((a.Tiles.length : Int) - 1) i))) := by rw [TileSet.td_d]; refine law_impl_TileSet_isTile ?_; unfold code_impl_TileSet_isTile; simp -implicitDefEqProofs (disch := omega) only [go_sem, ↓reduceIte , List.length_map]; refine call_leA (v_isIndex i a.Tiles.length (by omega) (by omega)) (by simp -implicitDefEqProofs (disch := omega) only [go_sem, ↓reduceIte, deep, TD.rows, immLL_rI, immLL_rB8, immLL_rS, immLL_rBo, immLL_rII]; exact rfl) (by repeat (first | exact leL_nil | refine leL_cons ?_ ?_ | exact le_of_eq rfl | exact le_iptrN (leL_of_eq rfl) | refine le_agg ?_ | exact le_slf rfl (TD.rows ..) | refine le_iptr ?_ | refine le_fn ?_ ?_)) (by first | exact .inl rfl | exact .inr rfl | exact .inl (by simp only [D.noImm, noImmL, go_sem, TD.nims, TD.nim, nim_rI, nim_rB8, nim_rBo, nim_rS])) ?_; simp -implicitDefEqProofs (disch := omega) only [go_sem, ↓reduceIte]
def code_spec_l02Index : VCode := (.seq (.ops [
  ⟨(some 4), none, (.asg (.const (.bool false)))⟩]) (.seq (.ops [
  ⟨(some 5), none, (.mv (.tmp 1))⟩,
  ⟨(some 6), none, (.mv (.tmp 0))⟩,
  ⟨(some 7), none, (.nilc (.tmp 6))⟩,
  ⟨(some 8), none, (.fa 1 (.tmp 7))⟩,
  ⟨(some 9), none, (.load 1 false (.tmp 8))⟩,
  ⟨(some 10), none, (.len (.tmp 9))⟩,
  ⟨(some 11), none, (.bin .sub (.tmp 10) (.const (.int .i64 1)))⟩,
  ⟨(some 12), none, (.callX 50 [(.tmp 5), (.const (.int .i64 0)), (.tmp 11)])⟩,
  ⟨(some 4), none, (.asg (.tmp 12))⟩]) .ret))
theorem law_spec_l02Index {a0 a1 d : D} (h : code_spec_l02Index.wp (CT Try.prog NoG) (endQ [(.t 4)] d) [a0, a1, .undef, .undef, .undef, .undef, .undef, .undef, .undef, .undef, .undef, .undef, .undef]) : Contract Try.prog NoG 69 [a0, a1] d :=
  contract_of noG Try.func69 (fun us W => by kernel_rfl) (c := Try.f69.body.getD .skip) (ms := []) (ms' := []) (by kernel_rfl) (by kernel_rfl) (by kernel_rfl) h
theorem v_l02Index (a : TileSet) (i : Int) (hn : a.Tiles.length ≤ 1048576) : Contract Try.prog NoG 69 [.iptr (TileSet.td.d false a) 0, .v (.int .i64 i)] (.v (.bool (inR 0 ((a.Tiles.length : Int) - 1) i))) := by rw [TileSet.td_d]; refine law_spec_l02Index ?_; unfold code_spec_l02Index; have hw : IntKind.i64.wrap ((a.Tiles.length : Int) - 1) = (a.Tiles.length : Int) - 1 := wrI (by omega) (by omega); simp -implicitDefEqProofs (disch := omega) only [go_sem, ↓reduceIte , List.length_map, hw]; refine call_leA (v_l00In _ _ _) (by simp -implicitDefEqProofs (disch := omega) only [go_sem, ↓reduceIte, deep, TD.rows, immLL_rI, immLL_rB8, immLL_rS, immLL_rBo, immLL_rII]; exact rfl) (by repeat (first | exact leL_nil | refine leL_cons ?_ ?_ | exact le_of_eq rfl | exact le_iptrN (leL_of_eq rfl) | refine le_agg ?_ | exact le_slf rfl (TD.rows ..) | refine le_iptr ?_ | refine le_fn ?_ ?_)) (by first | exact .inl rfl | exact .inr rfl | exact .inl (by simp only [D.noImm, noImmL, go_sem, TD.nims, TD.nim, nim_rI, nim_rB8, nim_rBo, nim_rS])) ?_; simp -implicitDefEqProofs (disch := omega) only [go_sem, ↓reduceIte]
def okAsm (a : TileSet) (b : Assembly) : Bool := okForm b.Tiles && b.Tiles.all (fun t => inR 0 ((a.Tiles.length : Int) - 1) t.Tile)
def code_spec_l03Ok : VCode := (.seq (.ops [
  ⟨(some 4), none, (.asg (.const (.bool false)))⟩]) (.seq (.seq (.ops [
  ⟨(some 6), none, (.mv (.tmp 1))⟩,
  ⟨(some 7), none, (.callX 78 [(.tmp 6)])⟩,
  ⟨(some 8), none, (.un .not (.tmp 7))⟩]) (.cond (.tmp 8) (.seq (.ops [
  ⟨(some 4), none, (.asg (.const (.bool false)))⟩]) .ret) .skip)) (.seq (.seq (.ops [
  ⟨(some 5), none, (.asg (.const (.int .i64 0)))⟩]) (.block 0 (.loop (mB 29 536870876) (.seq (.seq (.ops [
  ⟨(some 9), none, (.mv (.tmp 5))⟩,
  ⟨(some 10), none, (.mv (.tmp 1))⟩,
  ⟨(some 11), none, (.nilc (.tmp 10))⟩,
  ⟨(some 12), none, (.fa 0 (.tmp 11))⟩,
  ⟨(some 13), none, (.load 1 false (.tmp 12))⟩,
  ⟨(some 14), none, (.len (.tmp 13))⟩,
  ⟨(some 15), none, (.bin .lss (.tmp 9) (.tmp 14))⟩]) (.cond (.tmp 15) .skip (.exit 0))) (.seq (.block 1 (.seq (.ops [
  ⟨(some 18), none, (.mv (.tmp 0))⟩,
  ⟨(some 19), none, (.mv (.tmp 1))⟩,
  ⟨(some 20), none, (.nilc (.tmp 19))⟩,
  ⟨(some 21), none, (.fa 0 (.tmp 20))⟩,
  ⟨(some 22), none, (.load 1 false (.tmp 21))⟩,
  ⟨(some 23), none, (.mv (.tmp 5))⟩,
  ⟨(some 24), none, (.ia 3 (.tmp 22) (.tmp 23))⟩,
  ⟨(some 25), none, (.fa 2 (.tmp 24))⟩,
  ⟨(some 26), none, (.load 1 false (.tmp 25))⟩,
  ⟨(some 27), none, (.callX 69 [(.tmp 18), (.tmp 26)])⟩,
  ⟨(some 28), none, (.un .not (.tmp 27))⟩]) (.cond (.tmp 28) (.seq (.ops [
  ⟨(some 4), none, (.asg (.const (.bool false)))⟩]) .ret) .skip))) (.ops [
  ⟨(some 16), none, (.mv (.tmp 5))⟩,
  ⟨(some 17), none, (.bin .add (.tmp 16) (.const (.int .i64 1)))⟩,
  ⟨(some 5), none, (.asg (.tmp 17))⟩])))))) (.seq (.ops [
  ⟨(some 4), none, (.asg (.const (.bool true)))⟩]) .ret))))
theorem law_spec_l03Ok {a0 a1 d : D} (h : code_spec_l03Ok.wp (CT Try.prog NoG) (endQ [(.t 4)] d) [a0, a1, .undef, .undef, .undef, .undef, .undef, .undef, .undef, .undef, .undef, .undef, .undef, .undef, .undef, .undef, .undef, .undef, .undef, .undef, .undef, .undef, .undef, .undef, .undef, .undef, .undef, .undef, .undef]) : Contract Try.prog NoG 100 [a0, a1] d :=
  contract_of noG Try.func100 (fun us W => by kernel_rfl) (c := Try.f100.body.getD .skip) (ms := [(mB 29 536870876)]) (ms' := []) (by kernel_rfl) (by kernel_rfl) (by kernel_rfl) h
set_option maxHeartbeats 2000000 in
theorem v_l03Ok (a : TileSet) (b : Assembly) (ha : a.Tiles.length ≤ 1048576) (hn : b.Tiles.length ≤ 1048576) : Contract Try.prog NoG 100 [.iptr (TileSet.td.d false a) 0, .iptr (Assembly.td.d false b) 0] (.v (.bool (okAsm a b))) := by
  rw [TileSet.td_d, Assembly.td_d]; refine law_spec_l03Ok ?_; unfold code_spec_l03Ok; simp -implicitDefEqProofs (disch := omega) only [go_sem, ↓reduceIte]; cases h1 : okForm b.Tiles with
  | false => refine call_leA (v_l03Form b hn) (by simp -implicitDefEqProofs (disch := omega) only [go_sem, ↓reduceIte, deep, TD.rows, immLL_rI, immLL_rB8, immLL_rS, immLL_rBo, immLL_rII, h1, okAsm]; exact rfl) (by repeat (first | exact leL_nil | refine leL_cons ?_ ?_ | exact le_of_eq rfl | exact le_iptrN (leL_of_eq rfl) | refine le_agg ?_ | exact le_slf rfl (TD.rows ..) | refine le_iptr ?_ | refine le_fn ?_ ?_)) (by first | exact .inl rfl | exact .inr rfl | exact .inl (by simp only [D.noImm, noImmL, go_sem, TD.nims, TD.nim, nim_rI, nim_rB8, nim_rBo, nim_rS])) ?_; simp -implicitDefEqProofs (disch := omega) only [go_sem, ↓reduceIte , h1, okAsm]
  | true =>
  refine call_leA (v_l03Form b hn) (by simp -implicitDefEqProofs (disch := omega) only [go_sem, ↓reduceIte, deep, TD.rows, immLL_rI, immLL_rB8, immLL_rS, immLL_rBo, immLL_rII, h1]; exact rfl) (by repeat (first | exact leL_nil | refine leL_cons ?_ ?_ | exact le_of_eq rfl | exact le_iptrN (leL_of_eq rfl) | refine le_agg ?_ | exact le_slf rfl (TD.rows ..) | refine le_iptr ?_ | refine le_fn ?_ ?_)) (by first | exact .inl rfl | exact .inr rfl | exact .inl (by simp only [D.noImm, noImmL, go_sem, TD.nims, TD.nim, nim_rI, nim_rB8, nim_rBo, nim_rS])) ?_; simp -implicitDefEqProofs (disch := omega) only [go_sem, ↓reduceIte , h1]; refine loop_ov (by simp -implicitDefEqProofs (disch := omega) only [go_sem, ↓reduceIte]; exact rfl) (fun i : Nat => [(5, .v (.int .i64 (i : Nat)))]) (fun _ => by simp only [ovr_nil, ovr_cons, List.set_cons_zero, List.set_cons_succ]; exact rfl) (fun i : Nat => i ≤ b.Tiles.length ∧ (b.Tiles.take i).all (fun t => inR 0 ((a.Tiles.length : Int) - 1) t.Tile) = true) (fun i : Nat => b.Tiles.length - i) (0) (by (try simp -implicitDefEqProofs only [nleL_cc, nleL_nn, nle_self, nle_boxs, nle_aggs, nle_nils, and_self, and_true, true_and]) <;> repeat' (first | exact nle_of_eq rfl | exact nle_nil | apply And.intro | apply nle_sl | apply nleLL_cons | apply nleL_cons | exact nleL_nil | exact nleLL_nil | apply nle_box | apply nle_agg)) (?_) ?_
  · exact ⟨Nat.zero_le _, rfl⟩
  rintro i ⟨hi, hal⟩; simp -implicitDefEqProofs (disch := omega) only [go_sem, ↓reduceIte , List.length_map, Int.toNat_natCast, Int.ofNat_lt, Int.natCast_nonneg, List.getElem?_map, Option.map_some]; refine cond_split ?_ ?_ <;> intro hlt
  · have hlt : i < b.Tiles.length := (by simpa using hlt); have e1 := List.getElem?_eq_getElem hlt; simp -implicitDefEqProofs (disch := omega) only [go_sem, ↓reduceIte , List.length_map, Int.toNat_natCast, Int.ofNat_lt, Int.natCast_nonneg, List.getElem?_map, Option.map_some, hlt, e1, Placed.td_d]; cases c1 : inR 0 ((a.Tiles.length : Int) - 1) b.Tiles[i].Tile with
    | false => have hno : b.Tiles.all (fun t => inR 0 ((a.Tiles.length : Int) - 1) t.Tile) = false := (by rw [List.all_eq_false]; exact ⟨_, List.getElem_mem hlt, by simp [c1]⟩); refine call_leA (v_l02Index a b.Tiles[i].Tile ha) (by simp -implicitDefEqProofs (disch := omega) only [go_sem, ↓reduceIte, deep, TD.rows, immLL_rI, immLL_rB8, immLL_rS, immLL_rBo, immLL_rII, c1, okAsm, hno]; exact rfl) (by repeat (first | exact leL_nil | refine leL_cons ?_ ?_ | exact le_of_eq rfl | exact le_iptrN (leL_of_eq rfl) | refine le_agg ?_ | exact le_slf rfl (TD.rows ..) | refine le_iptr ?_ | refine le_fn ?_ ?_)) (by first | exact .inl rfl | exact .inr rfl | exact .inl (by simp only [D.noImm, noImmL, go_sem, TD.nims, TD.nim, nim_rI, nim_rB8, nim_rBo, nim_rS])) ?_; simp -implicitDefEqProofs (disch := omega) only [go_sem, ↓reduceIte , c1, okAsm, hno]
    | true => refine call_leA (v_l02Index a b.Tiles[i].Tile ha) (by simp -implicitDefEqProofs (disch := omega) only [go_sem, ↓reduceIte, deep, TD.rows, immLL_rI, immLL_rB8, immLL_rS, immLL_rBo, immLL_rII, c1, wrN]; exact rfl) (by repeat (first | exact leL_nil | refine leL_cons ?_ ?_ | exact le_of_eq rfl | exact le_iptrN (leL_of_eq rfl) | refine le_agg ?_ | exact le_slf rfl (TD.rows ..) | refine le_iptr ?_ | refine le_fn ?_ ?_)) (by first | exact .inl rfl | exact .inr rfl | exact .inl (by simp only [D.noImm, noImmL, go_sem, TD.nims, TD.nim, nim_rI, nim_rB8, nim_rBo, nim_rS])) ?_; simp -implicitDefEqProofs (disch := omega) only [go_sem, ↓reduceIte , c1, wrN]; refine ⟨i + 1, by omega, ⟨hlt, ?_⟩, by (try simp -implicitDefEqProofs only [nleL_cc, nleL_nn, nle_self, nle_boxs, nle_aggs, nle_nils, and_self, and_true, true_and]) <;> repeat' (first | exact nle_of_eq rfl | exact nle_nil | apply And.intro | apply nle_sl | apply nleLL_cons | apply nleL_cons | exact nleL_nil | exact nleLL_nil | apply nle_box | apply nle_agg)⟩; rw [List.take_succ_eq_append_getElem hlt, List.all_append, hal]; simp [c1]
  · obtain rfl : i = b.Tiles.length := (by have : ¬ i < b.Tiles.length := (by simpa using hlt); omega); rw [List.take_length] at hal; simp -implicitDefEqProofs (disch := omega) only [go_sem, ↓reduceIte , okAsm, h1, hal]
def code_spec_l06Asked : VCode := (.seq (.ops [
  ⟨(some 4), none, (.asg (.const (.int .i64 0)))⟩]) (.seq (.seq (.ops [
  ⟨(some 5), none, (.mv (.tmp 0))⟩,
  ⟨(some 6), none, (.callX 99 [(.tmp 5)])⟩,
  ⟨(some 7), none, (.un .not (.tmp 6))⟩,
  ⟨(some 8), none, (.mv (.tmp 7))⟩,
  ⟨(some 9), (some (8, false)), (.mv (.tmp 0))⟩,
  ⟨(some 10), (some (8, false)), (.mv (.tmp 1))⟩,
  ⟨(some 11), (some (8, false)), (.callX 100 [(.tmp 9), (.tmp 10)])⟩,
  ⟨(some 12), (some (8, false)), (.un .not (.tmp 11))⟩,
  ⟨(some 13), none, (.pick (.tmp 8) (.const (.bool true)) (.tmp 12))⟩]) (.cond (.tmp 13) (.seq (.ops [
  ⟨(some 4), none, (.asg (.const (.int .i64 1)))⟩]) .ret) .skip)) (.seq (.ops [
  ⟨(some 4), none, (.asg (.const (.int .i64 0)))⟩]) .ret)))
theorem law_spec_l06Asked {a0 a1 d : D} (h : code_spec_l06Asked.wp (CT Try.prog NoG) (endQ [(.t 4)] d) [a0, a1, .undef, .undef, .undef, .undef, .undef, .undef, .undef, .undef, .undef, .undef, .undef, .undef]) : Contract Try.prog NoG 49 [a0, a1] d :=
  contract_of noG Try.func49 (fun us W => by kernel_rfl) (c := Try.f49.body.getD .skip) (ms := []) (ms' := []) (by kernel_rfl) (by kernel_rfl) (by kernel_rfl) h
set_option maxHeartbeats 2000000 in
theorem v_l06Asked (a : TileSet) (b : Assembly) (ha : setB a) (hn : b.Tiles.length ≤ 1048576) : Contract Try.prog NoG 49 [.iptr (TileSet.td.d false a) 0, .iptr (Assembly.td.d false b) 0] (.v (.int .i64 (if okSet a && okAsm a b then 0 else 1))) := by
  have hat := ha.t; rw [TileSet.td_d, Assembly.td_d]; refine law_spec_l06Asked ?_; unfold code_spec_l06Asked; simp -implicitDefEqProofs (disch := omega) only [go_sem, ↓reduceIte]; cases h1 : okSet a with
  | false => refine call_leA (v_l02Ok a ha) (by simp -implicitDefEqProofs (disch := omega) only [go_sem, ↓reduceIte, deep, TD.rows, immLL_rI, immLL_rB8, immLL_rS, immLL_rBo, immLL_rII, h1]; exact rfl) (by repeat (first | exact leL_nil | refine leL_cons ?_ ?_ | exact le_of_eq rfl | exact le_iptrN (leL_of_eq rfl) | refine le_agg ?_ | exact le_slf rfl (TD.rows ..) | refine le_iptr ?_ | refine le_fn ?_ ?_)) (by first | exact .inl rfl | exact .inr rfl | exact .inl (by simp only [D.noImm, noImmL, go_sem, TD.nims, TD.nim, nim_rI, nim_rB8, nim_rBo, nim_rS])) ?_; simp -implicitDefEqProofs (disch := omega) only [go_sem, ↓reduceIte , h1]
  | true =>
  cases h2 : okAsm a b with
  | false => refine call_leA (v_l02Ok a ha) (by simp -implicitDefEqProofs (disch := omega) only [go_sem, ↓reduceIte, deep, TD.rows, immLL_rI, immLL_rB8, immLL_rS, immLL_rBo, immLL_rII, h1]; exact rfl) (by repeat (first | exact leL_nil | refine leL_cons ?_ ?_ | exact le_of_eq rfl | exact le_iptrN (leL_of_eq rfl) | refine le_agg ?_ | exact le_slf rfl (TD.rows ..) | refine le_iptr ?_ | refine le_fn ?_ ?_)) (by first | exact .inl rfl | exact .inr rfl | exact .inl (by simp only [D.noImm, noImmL, go_sem, TD.nims, TD.nim, nim_rI, nim_rB8, nim_rBo, nim_rS])) ?_; simp -implicitDefEqProofs (disch := omega) only [go_sem, ↓reduceIte , h1]; refine call_leA (v_l03Ok a b hat hn) (by simp -implicitDefEqProofs (disch := omega) only [go_sem, ↓reduceIte, deep, TD.rows, immLL_rI, immLL_rB8, immLL_rS, immLL_rBo, immLL_rII, h2]; exact rfl) (by repeat (first | exact leL_nil | refine leL_cons ?_ ?_ | exact le_of_eq rfl | exact le_iptrN (leL_of_eq rfl) | refine le_agg ?_ | exact le_slf rfl (TD.rows ..) | refine le_iptr ?_ | refine le_fn ?_ ?_)) (by first | exact .inl rfl | exact .inr rfl | exact .inl (by simp only [D.noImm, noImmL, go_sem, TD.nims, TD.nim, nim_rI, nim_rB8, nim_rBo, nim_rS])) ?_; simp -implicitDefEqProofs (disch := omega) only [go_sem, ↓reduceIte , h2]
  | true => refine call_leA (v_l02Ok a ha) (by simp -implicitDefEqProofs (disch := omega) only [go_sem, ↓reduceIte, deep, TD.rows, immLL_rI, immLL_rB8, immLL_rS, immLL_rBo, immLL_rII, h1]; exact rfl) (by repeat (first | exact leL_nil | refine leL_cons ?_ ?_ | exact le_of_eq rfl | exact le_iptrN (leL_of_eq rfl) | refine le_agg ?_ | exact le_slf rfl (TD.rows ..) | refine le_iptr ?_ | refine le_fn ?_ ?_)) (by first | exact .inl rfl | exact .inr rfl | exact .inl (by simp only [D.noImm, noImmL, go_sem, TD.nims, TD.nim, nim_rI, nim_rB8, nim_rBo, nim_rS])) ?_; simp -implicitDefEqProofs (disch := omega) only [go_sem, ↓reduceIte , h1]; refine call_leA (v_l03Ok a b hat hn) (by simp -implicitDefEqProofs (disch := omega) only [go_sem, ↓reduceIte, deep, TD.rows, immLL_rI, immLL_rB8, immLL_rS, immLL_rBo, immLL_rII, h2]; exact rfl) (by repeat (first | exact leL_nil | refine leL_cons ?_ ?_ | exact le_of_eq rfl | exact le_iptrN (leL_of_eq rfl) | refine le_agg ?_ | exact le_slf rfl (TD.rows ..) | refine le_iptr ?_ | refine le_fn ?_ ?_)) (by first | exact .inl rfl | exact .inr rfl | exact .inl (by simp only [D.noImm, noImmL, go_sem, TD.nims, TD.nim, nim_rI, nim_rB8, nim_rBo, nim_rS])) ?_; simp -implicitDefEqProofs (disch := omega) only [go_sem, ↓reduceIte , h2]
def code_impl_ValidAssembly_1 : VCode := (.seq (.ops [
  ⟨(some 2), none, (.box (.tmp 0))⟩,
  ⟨(some 3), none, (.asg (.const (.bool false)))⟩]) (.seq (.ops [
  ⟨(some 4), none, (.load 2 true (.tmp 1))⟩,
  ⟨(some 5), none, (.fa 2 (.tmp 2))⟩,
  ⟨(some 6), none, (.load 1 false (.tmp 5))⟩,
  ⟨(some 7), none, (.callX 72 [(.tmp 4), (.tmp 6)])⟩,
  ⟨(some 8), none, (.un .not (.tmp 7))⟩,
  ⟨(some 3), none, (.asg (.tmp 8))⟩]) .ret))
theorem law_impl_ValidAssembly_1 {a0 a1 d : D} (h : code_impl_ValidAssembly_1.wp (CT Try.prog NoG) (endQ [(.t 3)] d) [a0, a1, .undef, .undef, .undef, .undef, .undef, .undef, .undef]) : Contract Try.prog NoG 105 [a0, a1] d :=
  contract_of noG Try.func105 (fun us W => by kernel_rfl) (c := Try.f105.body.getD .skip) (ms := []) (ms' := []) (by kernel_rfl) (by kernel_rfl) (by kernel_rfl) h
def code_impl_ValidAssembly : VCode := (.seq (.ops [
  ⟨(some 2), none, (.box (.tmp 0))⟩,
  ⟨(some 3), none, (.box (.tmp 1))⟩,
  ⟨(some 4), none, (.asg (.const (.bool false)))⟩]) (.seq (.ops [
  ⟨(some 5), none, (.load 2 true (.tmp 2))⟩,
  ⟨(some 6), none, (.callX 104 [(.tmp 5)])⟩,
  ⟨(some 7), none, (.mv (.tmp 6))⟩,
  ⟨(some 8), (some (7, true)), (.load 1 true (.tmp 3))⟩,
  ⟨(some 9), (some (7, true)), (.callX 80 [(.tmp 8)])⟩,
  ⟨(some 10), none, (.pick (.tmp 7) (.tmp 9) (.const (.bool false)))⟩,
  ⟨(some 11), none, (.mv (.tmp 10))⟩,
  ⟨(some 12), (some (11, true)), (.fa 0 (.tmp 3))⟩,
  ⟨(some 13), (some (11, true)), (.load 1 false (.tmp 12))⟩,
  ⟨(some 14), (some (11, true)), (.mkf 105 [] [(.tmp 2)])⟩,
  ⟨(some 15), (some (11, true)), (.callX 95 [(.tmp 13), (.tmp 14)])⟩,
  ⟨(some 16), (some (11, true)), (.un .not (.tmp 15))⟩,
  ⟨(some 17), none, (.pick (.tmp 11) (.tmp 16) (.const (.bool false)))⟩,
  ⟨(some 4), none, (.asg (.tmp 17))⟩]) .ret))
theorem law_impl_ValidAssembly {a0 a1 d : D} (h : code_impl_ValidAssembly.wp (CT Try.prog NoG) (endQ [(.t 4)] d) [a0, a1, .undef, .undef, .undef, .undef, .undef, .undef, .undef, .undef, .undef, .undef, .undef, .undef, .undef, .undef, .undef, .undef]) : Contract Try.prog NoG 56 [a0, a1] d :=
  contract_of noG Try.func56 (fun us W => by kernel_rfl) (c := Try.f56.body.getD .skip) (ms := []) (ms' := []) (by kernel_rfl) (by kernel_rfl) (by kernel_rfl) h
theorem v_ValidAssembly1 (a : TileSet) (t : Placed) (ha : a.Tiles.length ≤ 1048576) : Contract Try.prog NoG 105 [.agg (Placed.td.d false t), .iptr (TileSet.td.d false a) 0] (.v (.bool (!inR 0 ((a.Tiles.length : Int) - 1) t.Tile))) := by rw [Placed.td_d, TileSet.td_d]; refine law_impl_ValidAssembly_1 ?_; unfold code_impl_ValidAssembly_1; simp -implicitDefEqProofs (disch := omega) only [go_sem, ↓reduceIte]; refine call_leA (v_isTile a t.Tile ha) (by simp -implicitDefEqProofs (disch := omega) only [go_sem, ↓reduceIte, deep, TD.rows, immLL_rI, immLL_rB8, immLL_rS, immLL_rBo, immLL_rII]; exact rfl) (by repeat (first | exact leL_nil | refine leL_cons ?_ ?_ | exact le_of_eq rfl | exact le_iptrN (leL_of_eq rfl) | refine le_agg ?_ | exact le_slf rfl (TD.rows ..) | refine le_iptr ?_ | refine le_fn ?_ ?_)) (by first | exact .inl rfl | exact .inr rfl | exact .inl (by simp only [D.noImm, noImmL, go_sem, TD.nims, TD.nim, nim_rI, nim_rB8, nim_rBo, nim_rS])) ?_; simp -implicitDefEqProofs (disch := omega) only [go_sem, ↓reduceIte]
theorem any_not {α : Type} (p : α → Bool) (xs : List α) : xs.any (fun x => !p x) = !xs.all p := by
  induction xs with
  | nil => rfl
  | cons x xs ih => simp only [List.any_cons, List.all_cons, ih, Bool.not_and]
set_option maxHeartbeats 2000000 in
theorem v_ValidAssembly (a : TileSet) (b : Assembly) (ha : setB a) (hn : b.Tiles.length ≤ 1048576) : Contract Try.prog NoG 56 [.agg (TileSet.td.d false a), .agg (Assembly.td.d false b)] (.v (.bool (okSet a && okAsm a b))) := by
  have hat := ha.t; rw [TileSet.td_d, Assembly.td_d]; refine law_impl_ValidAssembly ?_; unfold code_impl_ValidAssembly; simp -implicitDefEqProofs (disch := omega) only [go_sem, ↓reduceIte]; cases h1 : okSet a with
  | false => refine call_leA (v_ValidSet a ha) (by simp -implicitDefEqProofs (disch := omega) only [go_sem, ↓reduceIte, deep, TD.rows, immLL_rI, immLL_rB8, immLL_rS, immLL_rBo, immLL_rII, h1]; exact rfl) (by repeat (first | exact leL_nil | refine leL_cons ?_ ?_ | exact le_of_eq rfl | exact le_iptrN (leL_of_eq rfl) | refine le_agg ?_ | exact le_slf rfl (TD.rows ..) | refine le_iptr ?_ | refine le_fn ?_ ?_)) (by first | exact .inl rfl | exact .inr rfl | exact .inl (by simp only [D.noImm, noImmL, go_sem, TD.nims, TD.nim, nim_rI, nim_rB8, nim_rBo, nim_rS])) ?_; simp -implicitDefEqProofs (disch := omega) only [go_sem, ↓reduceIte , h1]
  | true =>
  cases h2 : okForm b.Tiles with
  | false => refine call_leA (v_ValidSet a ha) (by simp -implicitDefEqProofs (disch := omega) only [go_sem, ↓reduceIte, deep, TD.rows, immLL_rI, immLL_rB8, immLL_rS, immLL_rBo, immLL_rII, h1]; exact rfl) (by repeat (first | exact leL_nil | refine leL_cons ?_ ?_ | exact le_of_eq rfl | exact le_iptrN (leL_of_eq rfl) | refine le_agg ?_ | exact le_slf rfl (TD.rows ..) | refine le_iptr ?_ | refine le_fn ?_ ?_)) (by first | exact .inl rfl | exact .inr rfl | exact .inl (by simp only [D.noImm, noImmL, go_sem, TD.nims, TD.nim, nim_rI, nim_rB8, nim_rBo, nim_rS])) ?_; simp -implicitDefEqProofs (disch := omega) only [go_sem, ↓reduceIte , h1]; refine call_leA (v_hasForm b hn) (by simp -implicitDefEqProofs (disch := omega) only [go_sem, ↓reduceIte, deep, TD.rows, immLL_rI, immLL_rB8, immLL_rS, immLL_rBo, immLL_rII, h2, okAsm]; exact rfl) (by repeat (first | exact leL_nil | refine leL_cons ?_ ?_ | exact le_of_eq rfl | exact le_iptrN (leL_of_eq rfl) | refine le_agg ?_ | exact le_slf rfl (TD.rows ..) | refine le_iptr ?_ | refine le_fn ?_ ?_)) (by first | exact .inl rfl | exact .inr rfl | exact .inl (by simp only [D.noImm, noImmL, go_sem, TD.nims, TD.nim, nim_rI, nim_rB8, nim_rBo, nim_rS])) ?_; simp -implicitDefEqProofs (disch := omega) only [go_sem, ↓reduceIte , h2, okAsm]
  | true => refine call_leA (v_ValidSet a ha) (by simp -implicitDefEqProofs (disch := omega) only [go_sem, ↓reduceIte, deep, TD.rows, immLL_rI, immLL_rB8, immLL_rS, immLL_rBo, immLL_rII, h1]; exact rfl) (by repeat (first | exact leL_nil | refine leL_cons ?_ ?_ | exact le_of_eq rfl | exact le_iptrN (leL_of_eq rfl) | refine le_agg ?_ | exact le_slf rfl (TD.rows ..) | refine le_iptr ?_ | refine le_fn ?_ ?_)) (by first | exact .inl rfl | exact .inr rfl | exact .inl (by simp only [D.noImm, noImmL, go_sem, TD.nims, TD.nim, nim_rI, nim_rB8, nim_rBo, nim_rS])) ?_; simp -implicitDefEqProofs (disch := omega) only [go_sem, ↓reduceIte , h1]; refine call_leA (v_hasForm b hn) (by simp -implicitDefEqProofs (disch := omega) only [go_sem, ↓reduceIte, deep, TD.rows, immLL_rI, immLL_rB8, immLL_rS, immLL_rBo, immLL_rII, h2]; exact rfl) (by repeat (first | exact leL_nil | refine leL_cons ?_ ?_ | exact le_of_eq rfl | exact le_iptrN (leL_of_eq rfl) | refine le_agg ?_ | exact le_slf rfl (TD.rows ..) | refine le_iptr ?_ | refine le_fn ?_ ?_)) (by first | exact .inl rfl | exact .inr rfl | exact .inl (by simp only [D.noImm, noImmL, go_sem, TD.nims, TD.nim, nim_rI, nim_rB8, nim_rBo, nim_rS])) ?_; simp -implicitDefEqProofs (disch := omega) only [go_sem, ↓reduceIte , h2]; refine call_leA (v_ContainsFunc_Placed _ [.iptr (TileSet.td.d false a) 0] ⟨rfl, fun _ => rfl, fun _ => rfl, fun _ => rfl⟩ b.Tiles (fun t => !inR 0 ((a.Tiles.length : Int) - 1) t.Tile) (fun x _ => v_ValidAssembly1 a x hat) (by omega)) (by simp -implicitDefEqProofs (disch := omega) only [go_sem, ↓reduceIte, deep, TD.rows, immLL_rI, immLL_rB8, immLL_rS, immLL_rBo, immLL_rII, any_not, Bool.not_not, okAsm, h2]; exact rfl) (by repeat (first | exact leL_nil | refine leL_cons ?_ ?_ | exact le_of_eq rfl | exact le_iptrN (leL_of_eq rfl) | refine le_agg ?_ | exact le_slf rfl (TD.rows ..) | refine le_iptr ?_ | refine le_fn ?_ ?_)) (by first | exact .inl rfl | exact .inr rfl | exact .inl (by simp only [D.noImm, noImmL, go_sem, TD.nims, TD.nim, nim_rI, nim_rB8, nim_rBo, nim_rS])) ?_; simp -implicitDefEqProofs (disch := omega) only [go_sem, ↓reduceIte , any_not, Bool.not_not, okAsm, h2]
def fracN (a b : Nat) : Frac := ⟨((a / Nat.gcd a b : Nat) : Int), ((b / Nat.gcd a b : Nat) : Int)⟩
theorem frac_facts {a b : Nat} (ha : a ≤ 1000000000) (h0 : 0 < b) (hb : b ≤ 1000000000) : 0 < Nat.gcd a b ∧ Nat.gcd a b ≤ 1000000000 ∧ a / Nat.gcd a b ≤ 1000000000 ∧ 0 < b / Nat.gcd a b ∧ b / Nat.gcd a b ≤ 1000000000 ∧ Nat.gcd (a / Nat.gcd a b) (b / Nat.gcd a b) = 1 := by have hg : 0 < Nat.gcd a b := Nat.gcd_pos_of_pos_right _ h0; have hle : Nat.gcd a b ≤ b := Nat.le_of_dvd h0 (Nat.gcd_dvd_right a b); exact ⟨hg, by omega, Nat.le_trans (Nat.div_le_self _ _) ha, Nat.div_pos hle hg, Nat.le_trans (Nat.div_le_self _ _) hb, Nat.gcd_div_gcd_div_gcd_of_pos_right h0⟩
theorem wrQ {n : Nat} (h : n ≤ 1000000000) : IntKind.i64.wrap (n : Int) = (n : Int) := wrI (by omega) (by omega)
theorem inQ {n : Nat} (h : n ≤ 1000000000) : inR (-1000000000) 1000000000 (n : Int) = true := inR_iff.2 (by omega)
theorem ltQ {n : Nat} (h : n ≤ 1000000000) : decide ((1000000000 : Int) < (n : Int)) = false := by rw [decide_eq_false_iff_not]; omega
theorem inKQ {n : Nat} (h : n ≤ 1000000000) : InK .i64 (n : Int) := ⟨by show (-9223372036854775808 : Int) ≤ _; omega, by show _ ≤ (9223372036854775807 : Int); omega⟩
theorem fracN_ok {a b : Nat} (ha : a ≤ 1000000000) (hb : b ≤ 1000000000) : Frac.td.ok (fracN a b) := by rw [Frac.td_ok]; exact ⟨inKQ (Nat.le_trans (Nat.div_le_self _ _) ha), inKQ (Nat.le_trans (Nat.div_le_self _ _) hb)⟩
theorem gcd_next {a b : Nat} : Nat.gcd b (a % b) = Nat.gcd a b := by rw [Nat.gcd_comm a b, Nat.gcd_rec b a, Nat.gcd_comm]
set_option maxHeartbeats 1000000 in
theorem gcd_any (a b : Nat) (ha : a ≤ 1000000000) (hb : b ≤ 1000000000) (w : World) : Calls Try.prog 156 #[.int .i64 (a : Int), .int .i64 (b : Int)] w fun e w' => e = .returned (.int .i64 ((Nat.gcd a b : Nat) : Int)) ∧ Below w.heap.size w w' := by
  go_enter Try.func156, Try.ntmps156; go_wp2
  go_loopw [0, 1] (fun x y wr => ∃ m n : Nat, m ≤ 1000000000 ∧ n ≤ 1000000000 ∧ x = .int .i64 (m : Int) ∧ y = .int .i64 (n : Int) ∧ Nat.gcd m n = Nat.gcd a b ∧ Below w.heap.size w wr) (fun _ y _ => (intOf y).toNat)
  case atStart => exact ⟨a, b, ha, hb, rfl, rfl, rfl, Below.refl _ _⟩
  case round =>
    obtain ⟨m, n, hm, hn, rfl, rfl, hg, hbl⟩ := hrel; have HG := Lib.hid hg; clear hg; have hw : IntKind.i64.wrap (0 - (m : Int)) = 0 - (m : Int) := IntWalk.i64_in _ (by omega); by_cases h0 : n = 0
    · subst h0; go_wp2; go_ret; exact ⟨by rw [← HG.out, Nat.gcd_zero_right]; rfl, hbl⟩
    · have hz : (n : Int) ≠ 0 := (by omega); go_wp2
      go_region
      go_wp2; have hlt : m % n < n := Nat.mod_lt _ (by omega)
      go_roundw
      case rel => exact ⟨n, m % n, hn, by omega, rfl, rfl, by rw [gcd_next]; exact HG.out, hbl.drew⟩
      case measure => simp [intOf]; omega
theorem v_gcd (a b : Nat) (ha : a ≤ 1000000000) (hb : b ≤ 1000000000) : Contract Try.prog NoG 156 [.v (.int .i64 (a : Int)), .v (.int .i64 (b : Int))] (.v (.int .i64 ((Nat.gcd a b : Nat) : Int))) := by refine ⟨fun us W => by kernel_rfl, fun w I us _ hI hV => ?_⟩; obtain ⟨u0, us0, F0, G0, rfl, _, t0, hV⟩ := vals_split hV; obtain ⟨u1, us1, F1, G1, rfl, _, t1, hV⟩ := vals_split hV; simp only [Vals] at hV; obtain ⟨rfl, _⟩ := hV; simp only [T] at t0 t1; obtain ⟨rfl, _⟩ := t0; obtain ⟨rfl, _⟩ := t1; refine (gcd_any a b ha hb w).mono ?_; rintro e w' ⟨rfl, hb'⟩; exact ⟨_, [], I, rfl, hb', by simp [T], List.nodup_nil, (fun _ h => by cases h), (fun _ h => h), (fun b h => ⟨.inl h, Nat.lt_of_lt_of_le (hI b h) hb'.size⟩)⟩
def code_spec_l01Gcd : VCode := (.seq (.ops [
  ⟨(some 4), none, (.asg (.const (.int .i64 0)))⟩]) (.seq (.block 0 (.loop (mB 14 16380) (.seq (.seq (.ops [
  ⟨(some 6), none, (.mv (.tmp 1))⟩,
  ⟨(some 7), none, (.bin .gtr (.tmp 6) (.const (.int .i64 0)))⟩]) (.cond (.tmp 7) .skip (.exit 0))) (.block 1 (.seq (.ops [
  ⟨(some 8), none, (.mv (.tmp 0))⟩,
  ⟨(some 9), none, (.mv (.tmp 1))⟩,
  ⟨(some 10), none, (.bin .rem (.tmp 8) (.tmp 9))⟩,
  ⟨(some 5), none, (.asg (.tmp 10))⟩]) (.seq (.ops [
  ⟨(some 11), none, (.mv (.tmp 1))⟩,
  ⟨(some 0), none, (.asg (.tmp 11))⟩]) (.ops [
  ⟨(some 12), none, (.mv (.tmp 5))⟩,
  ⟨(some 1), none, (.asg (.tmp 12))⟩]))))))) (.seq (.ops [
  ⟨(some 13), none, (.mv (.tmp 0))⟩,
  ⟨(some 4), none, (.asg (.tmp 13))⟩]) .ret)))
theorem law_spec_l01Gcd {a0 a1 d : D} (h : code_spec_l01Gcd.wp (CT Try.prog NoG) (endQ [(.t 4)] d) [a0, a1, .undef, .undef, .undef, .undef, .undef, .undef, .undef, .undef, .undef, .undef, .undef, .undef]) : Contract Try.prog NoG 127 [a0, a1] d :=
  contract_of noG Try.func127 (fun us W => by kernel_rfl) (c := Try.f127.body.getD .skip) (ms := [(mB 14 16380)]) (ms' := []) (by kernel_rfl) (by kernel_rfl) (by kernel_rfl) h
theorem v_l01Gcd (a b : Nat) (ha : a ≤ 1000000000) (hb : b ≤ 1000000000) : Contract Try.prog NoG 127 [.v (.int .i64 (a : Int)), .v (.int .i64 (b : Int))] (.v (.int .i64 ((Nat.gcd a b : Nat) : Int))) := by
  refine law_spec_l01Gcd ?_; unfold code_spec_l01Gcd; simp -implicitDefEqProofs (disch := omega) only [go_sem, ↓reduceIte]; refine loop_ov (by simp -implicitDefEqProofs (disch := omega) only [go_sem, ↓reduceIte]; exact rfl) (fun z : Nat × Nat => [(0, .v (.int .i64 (z.1 : Int))), (1, .v (.int .i64 (z.2 : Int)))]) (fun _ => by simp only [ovr_nil, ovr_cons, List.set_cons_zero, List.set_cons_succ]; exact rfl) (fun z : Nat × Nat => z.1 ≤ 1000000000 ∧ z.2 ≤ 1000000000 ∧ Nat.gcd z.1 z.2 = Nat.gcd a b) (fun z : Nat × Nat => z.2) ((a, b)) (by (try simp -implicitDefEqProofs only [nleL_cc, nleL_nn, nle_self, nle_boxs, nle_aggs, nle_nils, and_self, and_true, true_and]) <;> repeat' (first | exact nle_of_eq rfl | exact nle_nil | apply And.intro | apply nle_sl | apply nleLL_cons | apply nleL_cons | exact nleL_nil | exact nleLL_nil | apply nle_box | apply nle_agg)) (?_) ?_
  · exact ⟨ha, hb, rfl⟩
  rintro ⟨x, y⟩ ⟨h1, h2, h3⟩; simp only at h1 h2 h3; by_cases hy : y = 0
  · subst hy; rw [Nat.gcd_zero_right] at h3; simp -implicitDefEqProofs (disch := omega) only [go_sem, ↓reduceIte , Int.natCast_zero, Int.natCast_one, Int.cast_ofNat_Int, Int.ofNat_le, Int.toNat_zero, Nat.sub_zero, Int.le_refl, Int.reduceLT, Int.reduceLE, Int.reduceEq, Int.reduceAdd, Int.reduceSub, Int.reduceMul, Int.reduceToNat, Int.reduceNeg, Int.lt_irrefl, decide_false, h3]
  · have d0 : decide ((0 : Int) < (y : Int)) = true := (by rw [decide_eq_true_eq]; omega); have hz : ¬ (y : Int) = 0 := (by omega); have hm : ((x : Int)).tmod (y : Int) = ((x % y : Nat) : Int) := rfl; have hlt : x % y < y := Nat.mod_lt _ (by omega); simp -implicitDefEqProofs (disch := omega) only [go_sem, ↓reduceIte , d0, hz, hm]; exact ⟨(y, x % y), hlt, ⟨h2, by simp only; omega, by simp only; rw [gcd_next]; exact h3⟩, by (try simp -implicitDefEqProofs only [nleL_cc, nleL_nn, nle_self, nle_boxs, nle_aggs, nle_nils, and_self, and_true, true_and]) <;> repeat' (first | exact nle_of_eq rfl | exact nle_nil | apply And.intro | apply nle_sl | apply nleLL_cons | apply nleL_cons | exact nleL_nil | exact nleLL_nil | apply nle_box | apply nle_agg)⟩
def code_spec_l01Abs : VCode := (.seq (.ops [
  ⟨(some 2), none, (.asg (.const (.int .i64 0)))⟩]) (.seq (.seq (.ops [
  ⟨(some 3), none, (.mv (.tmp 0))⟩,
  ⟨(some 4), none, (.bin .lss (.tmp 3) (.const (.int .i64 0)))⟩]) (.cond (.tmp 4) (.seq (.ops [
  ⟨(some 5), none, (.mv (.tmp 0))⟩,
  ⟨(some 6), none, (.un .neg (.tmp 5))⟩,
  ⟨(some 2), none, (.asg (.tmp 6))⟩]) .ret) .skip)) (.seq (.ops [
  ⟨(some 7), none, (.mv (.tmp 0))⟩,
  ⟨(some 2), none, (.asg (.tmp 7))⟩]) .ret)))
theorem law_spec_l01Abs {a0 d : D} (h : code_spec_l01Abs.wp (CT Try.prog NoG) (endQ [(.t 2)] d) [a0, .undef, .undef, .undef, .undef, .undef, .undef, .undef]) : Contract Try.prog NoG 128 [a0] d :=
  contract_of noG Try.func128 (fun us W => by kernel_rfl) (c := Try.f128.body.getD .skip) (ms := []) (ms' := []) (by kernel_rfl) (by kernel_rfl) (by kernel_rfl) h
def code_spec_l01Frac : VCode := (.seq (.ops [
  ⟨(some 1), none, (.box (.tmp 0))⟩,
  ⟨(some 2), none, (.asg (.const (.bool false)))⟩]) (.seq (.draw (mB 17 131064) [] [⟨0, (mB 17 131064), [], ⟨(some 3), none, (.fa 0 (.tmp 1))⟩⟩, ⟨1, (mB 17 131056), [], ⟨(some 4), none, (.load 1 false (.tmp 3))⟩⟩, ⟨2, (mB 17 131040), [], ⟨(some 5), none, (.call 50 [(.tmp 4), (.const (.int .i64 (-1000000000))), (.const (.int .i64 1000000000))])⟩⟩, ⟨3, (mB 17 131008), [], ⟨(some 6), none, (.mv (.tmp 5))⟩⟩, ⟨4, (mB 17 130944), [], ⟨(some 7), (some (6, true)), (.fa 1 (.tmp 1))⟩⟩, ⟨5, (mB 17 130816), [], ⟨(some 8), (some (6, true)), (.load 1 false (.tmp 7))⟩⟩, ⟨6, (mB 17 130560), [], ⟨(some 9), (some (6, true)), (.call 50 [(.tmp 8), (.const (.int .i64 1)), (.const (.int .i64 1000000000))])⟩⟩, ⟨7, (mB 17 130048), [], ⟨(some 10), none, (.pick (.tmp 6) (.tmp 9) (.const (.bool false)))⟩⟩, ⟨8, (mB 17 129024), [], ⟨(some 11), none, (.mv (.tmp 10))⟩⟩, ⟨9, (mB 17 126976), [], ⟨(some 12), (some (11, true)), (.fa 0 (.tmp 1))⟩⟩, ⟨10, (mB 17 122880), [], ⟨(some 13), (some (11, true)), (.load 1 false (.tmp 12))⟩⟩, ⟨11, (mB 17 114688), [], ⟨(some 14), (some (11, true)), (.call 128 [(.tmp 13)])⟩⟩, ⟨12, (mB 17 126976), [], ⟨(some 15), (some (11, true)), (.fa 1 (.tmp 1))⟩⟩, ⟨13, (mB 17 94208), [], ⟨(some 16), (some (11, true)), (.load 1 false (.tmp 15))⟩⟩] [⟨(some 17), (some (11, true)), (.callX 127 [(.tmp 14), (.tmp 16)])⟩, ⟨(some 18), (some (11, true)), (.bin .eql (.tmp 17) (.const (.int .i64 1)))⟩, ⟨(some 19), none, (.pick (.tmp 11) (.tmp 18) (.const (.bool false)))⟩, ⟨(some 2), none, (.asg (.tmp 19))⟩]) .ret))
theorem law_spec_l01Frac {a0 d : D} (h : code_spec_l01Frac.wp (CT Try.prog NoG) (endQ [(.t 2)] d) [a0, .undef, .undef, .undef, .undef, .undef, .undef, .undef, .undef, .undef, .undef, .undef, .undef, .undef, .undef, .undef, .undef, .undef, .undef, .undef]) : Contract Try.prog NoG 129 [a0] d :=
  contract_of noG Try.func129 (fun us W => by kernel_rfl) (c := Try.f129.body.getD .skip) (ms := []) (ms' := []) (by kernel_rfl) (by kernel_rfl) (by kernel_rfl) h
def code_spec_l01Make : VCode := (.seq (.ops [
  ⟨(some 4), none, (.alloc [(.int .i64 0), (.int .i64 0)])⟩,
  ⟨(some 5), none, (.asg (.const (.int .i64 0)))⟩]) (.seq (.seq (.ops [
  ⟨(some 8), none, (.mv (.tmp 1))⟩,
  ⟨(some 9), none, (.bin .lss (.tmp 8) (.const (.int .i64 0)))⟩]) (.cond (.tmp 9) (.seq (.ops [
  ⟨(some 10), none, (.mv (.tmp 0))⟩,
  ⟨(some 11), none, (.un .neg (.tmp 10))⟩,
  ⟨(some 0), none, (.asg (.tmp 11))⟩]) (.ops [
  ⟨(some 12), none, (.mv (.tmp 1))⟩,
  ⟨(some 13), none, (.un .neg (.tmp 12))⟩,
  ⟨(some 1), none, (.asg (.tmp 13))⟩])) .skip)) (.seq (.ops [
  ⟨(some 14), none, (.mv (.tmp 0))⟩,
  ⟨(some 15), none, (.callX 128 [(.tmp 14)])⟩,
  ⟨(some 16), none, (.mv (.tmp 1))⟩,
  ⟨(some 17), none, (.callX 127 [(.tmp 15), (.tmp 16)])⟩,
  ⟨(some 6), none, (.asg (.tmp 17))⟩]) (.seq (.draw (mB 25 33292416) (mB 24 9437184) [⟨0, (mB 25 33292416), [], ⟨(some 18), none, (.mv (.tmp 0))⟩⟩, ⟨1, (mB 25 33292416), [], ⟨(some 19), none, (.mv (.tmp 6))⟩⟩, ⟨2, (mB 25 32505984), [], ⟨(some 20), none, (.bin .quo (.tmp 18) (.tmp 19))⟩⟩, ⟨3, (mB 25 33292416), [], ⟨(some 21), none, (.mv (.tmp 1))⟩⟩, ⟨4, (mB 25 33292416), [], ⟨(some 22), none, (.mv (.tmp 6))⟩⟩, ⟨5, (mB 25 27000960), [], ⟨(some 23), none, (.bin .quo (.tmp 21) (.tmp 22))⟩⟩, ⟨6, (mB 25 16777344), (mB 24 9437184), ⟨(some 24), none, (.build [(.int .i64 0), (.int .i64 0)] [(0, 1, (.tmp 20)), (1, 1, (.tmp 23))])⟩⟩, ⟨7, (mB 25 33292416), [], ⟨(some 7), none, (.alloc [(.int .i64 0), (.int .i64 0)])⟩⟩] [⟨none, none, (.store 2 (.tmp 7) (.tmp 24))⟩]) (.seq (.seq (.ops [
  ⟨(some 25), none, (.load 2 true (.tmp 7))⟩,
  ⟨(some 26), none, (.callX 129 [(.tmp 25)])⟩,
  ⟨(some 27), none, (.un .not (.tmp 26))⟩]) (.cond (.tmp 27) (.seq (.ops [
  ⟨(some 28), none, (.build [(.int .i64 0), (.int .i64 0)] [])⟩,
  ⟨none, none, (.store 2 (.tmp 4) (.tmp 28))⟩,
  ⟨(some 5), none, (.asg (.const (.int .i64 4)))⟩]) .ret) .skip)) (.seq (.ops [
  ⟨(some 29), none, (.load 2 true (.tmp 7))⟩,
  ⟨none, none, (.store 2 (.tmp 4) (.tmp 29))⟩,
  ⟨(some 5), none, (.asg (.const (.int .i64 0)))⟩]) .ret))))))
theorem law_spec_l01Make {a0 a1 d : D} (h : code_spec_l01Make.wp (CT Try.prog NoG) (endQ [(.c 4 2 true), (.t 5)] d) [a0, a1, .undef, .undef, .undef, .undef, .undef, .undef, .undef, .undef, .undef, .undef, .undef, .undef, .undef, .undef, .undef, .undef, .undef, .undef, .undef, .undef, .undef, .undef, .undef, .undef, .undef, .undef, .undef, .undef]) : Contract Try.prog NoG 85 [a0, a1] d :=
  contract_of noG Try.func85 (fun us W => by kernel_rfl) (c := Try.f85.body.getD .skip) (ms := []) (ms' := []) (by kernel_rfl) (by kernel_rfl) (by kernel_rfl) h
theorem v_l01Abs (a : Nat) : Contract Try.prog NoG 128 [.v (.int .i64 (a : Int))] (.v (.int .i64 (a : Int))) := by
  refine law_spec_l01Abs ?_; unfold code_spec_l01Abs; have d0 : decide ((a : Int) < 0) = false := by rw [decide_eq_false_iff_not]; omega
  simp -implicitDefEqProofs (disch := omega) only [go_sem, ↓reduceIte , d0]
theorem v_l01Frac (a b : Nat) (ha : a ≤ 1000000000) (h0 : 0 < b) (hb : b ≤ 1000000000) (hg : Nat.gcd a b = 1) : Contract Try.prog NoG 129 [.agg [.v (.int .i64 (a : Int)), .v (.int .i64 (b : Int))]] (.v (.bool true)) := by refine law_spec_l01Frac ?_; unfold code_spec_l01Frac; have h1 : inR (-1000000000) 1000000000 (a : Int) = true := inR_iff.2 (by omega); have h2 : inR 1 1000000000 (b : Int) = true := inR_iff.2 (by omega); simp -implicitDefEqProofs (disch := omega) only [go_sem, ↓reduceIte]; refine call_leNA (v_l00In (a : Int) (-1000000000) 1000000000) (by simp -implicitDefEqProofs (disch := omega) only [go_sem, ↓reduceIte, deep, TD.rows, immLL_rI, immLL_rB8, immLL_rS, immLL_rBo, immLL_rII, h1]; exact rfl) (by repeat (first | exact leL_nil | refine leL_cons ?_ ?_ | exact le_of_eq rfl | exact le_iptrN (leL_of_eq rfl) | refine le_agg ?_ | exact le_slf rfl (TD.rows ..) | refine le_iptr ?_ | refine le_fn ?_ ?_)) (by first | exact .inl rfl | exact .inr rfl | exact .inl (by simp only [D.noImm, noImmL, go_sem, TD.nims, TD.nim, nim_rI, nim_rB8, nim_rBo, nim_rS])) ?_; simp -implicitDefEqProofs (disch := omega) only [go_sem, ↓reduceIte , h1]; refine call_leNA (v_l00In (b : Int) 1 1000000000) (by simp -implicitDefEqProofs (disch := omega) only [go_sem, ↓reduceIte, deep, TD.rows, immLL_rI, immLL_rB8, immLL_rS, immLL_rBo, immLL_rII, h2]; exact rfl) (by repeat (first | exact leL_nil | refine leL_cons ?_ ?_ | exact le_of_eq rfl | exact le_iptrN (leL_of_eq rfl) | refine le_agg ?_ | exact le_slf rfl (TD.rows ..) | refine le_iptr ?_ | refine le_fn ?_ ?_)) (by first | exact .inl rfl | exact .inr rfl | exact .inl (by simp only [D.noImm, noImmL, go_sem, TD.nims, TD.nim, nim_rI, nim_rB8, nim_rBo, nim_rS])) ?_; simp -implicitDefEqProofs (disch := omega) only [go_sem, ↓reduceIte , h2]; refine call_leNA (v_l01Abs a) (by simp -implicitDefEqProofs (disch := omega) only [go_sem, ↓reduceIte, deep, TD.rows, immLL_rI, immLL_rB8, immLL_rS, immLL_rBo, immLL_rII]; exact rfl) (by repeat (first | exact leL_nil | refine leL_cons ?_ ?_ | exact le_of_eq rfl | exact le_iptrN (leL_of_eq rfl) | refine le_agg ?_ | exact le_slf rfl (TD.rows ..) | refine le_iptr ?_ | refine le_fn ?_ ?_)) (by first | exact .inl rfl | exact .inr rfl | exact .inl (by simp only [D.noImm, noImmL, go_sem, TD.nims, TD.nim, nim_rI, nim_rB8, nim_rBo, nim_rS])) ?_; simp -implicitDefEqProofs (disch := omega) only [go_sem, ↓reduceIte]; refine call_leA (v_l01Gcd a b ha hb) (by simp -implicitDefEqProofs (disch := omega) only [go_sem, ↓reduceIte, deep, TD.rows, immLL_rI, immLL_rB8, immLL_rS, immLL_rBo, immLL_rII, hg, Int.natCast_zero, Int.natCast_one, Int.cast_ofNat_Int, Int.ofNat_le, Int.toNat_zero, Nat.sub_zero, Int.le_refl, Int.reduceLT, Int.reduceLE, Int.reduceEq, Int.reduceAdd, Int.reduceSub, Int.reduceMul, Int.reduceToNat, Int.reduceNeg, decide_true]; exact rfl) (by repeat (first | exact leL_nil | refine leL_cons ?_ ?_ | exact le_of_eq rfl | exact le_iptrN (leL_of_eq rfl) | refine le_agg ?_ | exact le_slf rfl (TD.rows ..) | refine le_iptr ?_ | refine le_fn ?_ ?_)) (by first | exact .inl rfl | exact .inr rfl | exact .inl (by simp only [D.noImm, noImmL, go_sem, TD.nims, TD.nim, nim_rI, nim_rB8, nim_rBo, nim_rS])) ?_; simp -implicitDefEqProofs (disch := omega) only [go_sem, ↓reduceIte , hg, Int.natCast_zero, Int.natCast_one, Int.cast_ofNat_Int, Int.ofNat_le, Int.toNat_zero, Nat.sub_zero, Int.le_refl, Int.reduceLT, Int.reduceLE, Int.reduceEq, Int.reduceAdd, Int.reduceSub, Int.reduceMul, Int.reduceToNat, Int.reduceNeg, decide_true]
theorem v_l01Make (a b : Nat) (ha : a ≤ 1000000000) (h0 : 0 < b) (hb : b ≤ 1000000000) : Contract Try.prog NoG 85 [.v (.int .i64 (a : Int)), .v (.int .i64 (b : Int))] (.tup [.agg (Frac.td.d true (fracN a b)), .v (.int .i64 0)]) := by obtain ⟨g0, g1, q1, q2, q3, q4⟩ := frac_facts ha h0 hb; rw [Frac.td_d]; refine law_spec_l01Make ?_; unfold code_spec_l01Make fracN; have d0 : decide ((b : Int) < 0) = false := (by rw [decide_eq_false_iff_not]; omega); have hz : ¬ ((Nat.gcd a b : Nat) : Int) = 0 := (by omega); have t1 : ((a : Int)).tdiv ((Nat.gcd a b : Nat) : Int) = ((a / Nat.gcd a b : Nat) : Int) := rfl; have t2 : ((b : Int)).tdiv ((Nat.gcd a b : Nat) : Int) = ((b / Nat.gcd a b : Nat) : Int) := rfl; have w1 := wrQ q1; have w2 := wrQ q3; simp -implicitDefEqProofs (disch := omega) only [go_sem, ↓reduceIte , d0]; refine call_leA (v_l01Abs a) (by simp -implicitDefEqProofs (disch := omega) only [go_sem, ↓reduceIte, deep, TD.rows, immLL_rI, immLL_rB8, immLL_rS, immLL_rBo, immLL_rII]; exact rfl) (by repeat (first | exact leL_nil | refine leL_cons ?_ ?_ | exact le_of_eq rfl | exact le_iptrN (leL_of_eq rfl) | refine le_agg ?_ | exact le_slf rfl (TD.rows ..) | refine le_iptr ?_ | refine le_fn ?_ ?_)) (by first | exact .inl rfl | exact .inr rfl | exact .inl (by simp only [D.noImm, noImmL, go_sem, TD.nims, TD.nim, nim_rI, nim_rB8, nim_rBo, nim_rS])) ?_; simp -implicitDefEqProofs (disch := omega) only [go_sem, ↓reduceIte]; refine call_leA (v_l01Gcd a b ha hb) (by simp -implicitDefEqProofs (disch := omega) only [go_sem, ↓reduceIte, deep, TD.rows, immLL_rI, immLL_rB8, immLL_rS, immLL_rBo, immLL_rII, hz, t1, t2, w1, w2]; exact rfl) (by repeat (first | exact leL_nil | refine leL_cons ?_ ?_ | exact le_of_eq rfl | exact le_iptrN (leL_of_eq rfl) | refine le_agg ?_ | exact le_slf rfl (TD.rows ..) | refine le_iptr ?_ | refine le_fn ?_ ?_)) (by first | exact .inl rfl | exact .inr rfl | exact .inl (by simp only [D.noImm, noImmL, go_sem, TD.nims, TD.nim, nim_rI, nim_rB8, nim_rBo, nim_rS])) ?_; simp -implicitDefEqProofs (disch := omega) only [go_sem, ↓reduceIte , hz, t1, t2, w1, w2]; refine call_leA (v_l01Frac (a / Nat.gcd a b) (b / Nat.gcd a b) q1 q2 q3 q4) (by simp -implicitDefEqProofs (disch := omega) only [go_sem, ↓reduceIte, deep, TD.rows, immLL_rI, immLL_rB8, immLL_rS, immLL_rBo, immLL_rII]; exact rfl) (by repeat (first | exact leL_nil | refine leL_cons ?_ ?_ | exact le_of_eq rfl | exact le_iptrN (leL_of_eq rfl) | refine le_agg ?_ | exact le_slf rfl (TD.rows ..) | refine le_iptr ?_ | refine le_fn ?_ ?_)) (by first | exact .inl rfl | exact .inr rfl | exact .inl (by simp only [D.noImm, noImmL, go_sem, TD.nims, TD.nim, nim_rI, nim_rB8, nim_rBo, nim_rS])) ?_; simp -implicitDefEqProofs (disch := omega) only [go_sem, ↓reduceIte]
def code_impl_reduced : VCode := (.seq (.ops [
  ⟨(some 4), none, (.alloc [(.int .i64 0), (.int .i64 0)])⟩,
  ⟨(some 5), none, (.asg (.const (.int .i64 0)))⟩]) (.seq (.ops [
  ⟨(some 8), none, (.mv (.tmp 0))⟩,
  ⟨(some 9), none, (.mv (.tmp 1))⟩,
  ⟨(some 10), none, (.callX 156 [(.tmp 8), (.tmp 9)])⟩,
  ⟨(some 6), none, (.asg (.tmp 10))⟩]) (.seq (.seq (.ops [
  ⟨(some 11), none, (.mv (.tmp 1))⟩,
  ⟨(some 12), none, (.bin .lss (.tmp 11) (.const (.int .i64 0)))⟩]) (.cond (.tmp 12) (.ops [
  ⟨(some 13), none, (.mv (.tmp 6))⟩,
  ⟨(some 14), none, (.un .neg (.tmp 13))⟩,
  ⟨(some 6), none, (.asg (.tmp 14))⟩]) .skip)) (.seq (.draw (mB 22 4161664) (mB 21 1179648) [⟨0, (mB 22 4161664), [], ⟨(some 15), none, (.mv (.tmp 0))⟩⟩, ⟨1, (mB 22 4161664), [], ⟨(some 16), none, (.mv (.tmp 6))⟩⟩, ⟨2, (mB 22 4063360), [], ⟨(some 17), none, (.bin .quo (.tmp 15) (.tmp 16))⟩⟩, ⟨3, (mB 22 4161664), [], ⟨(some 18), none, (.mv (.tmp 1))⟩⟩, ⟨4, (mB 22 4161664), [], ⟨(some 19), none, (.mv (.tmp 6))⟩⟩, ⟨5, (mB 22 3375232), [], ⟨(some 20), none, (.bin .quo (.tmp 18) (.tmp 19))⟩⟩, ⟨6, (mB 22 2097280), (mB 21 1179648), ⟨(some 21), none, (.build [(.int .i64 0), (.int .i64 0)] [(0, 1, (.tmp 17)), (1, 1, (.tmp 20))])⟩⟩, ⟨7, (mB 22 4161664), [], ⟨(some 7), none, (.alloc [(.int .i64 0), (.int .i64 0)])⟩⟩] [⟨none, none, (.store 2 (.tmp 7) (.tmp 21))⟩]) (.seq (.seq (.ops [
  ⟨(some 22), none, (.fa 0 (.tmp 7))⟩,
  ⟨(some 23), none, (.load 1 false (.tmp 22))⟩,
  ⟨(some 24), none, (.callX 58 [(.tmp 23), (.const (.int .i64 (-1000000000))), (.const (.int .i64 1000000000))])⟩,
  ⟨(some 25), none, (.un .not (.tmp 24))⟩,
  ⟨(some 26), none, (.mv (.tmp 25))⟩,
  ⟨(some 27), (some (26, false)), (.fa 1 (.tmp 7))⟩,
  ⟨(some 28), (some (26, false)), (.load 1 false (.tmp 27))⟩,
  ⟨(some 29), (some (26, false)), (.bin .gtr (.tmp 28) (.const (.int .i64 1000000000)))⟩,
  ⟨(some 30), none, (.pick (.tmp 26) (.const (.bool true)) (.tmp 29))⟩]) (.cond (.tmp 30) (.seq (.ops [
  ⟨(some 31), none, (.build [(.int .i64 0), (.int .i64 0)] [])⟩,
  ⟨none, none, (.store 2 (.tmp 4) (.tmp 31))⟩,
  ⟨(some 5), none, (.asg (.const (.int .i64 4)))⟩]) .ret) .skip)) (.seq (.ops [
  ⟨(some 32), none, (.load 2 true (.tmp 7))⟩,
  ⟨none, none, (.store 2 (.tmp 4) (.tmp 32))⟩,
  ⟨(some 5), none, (.asg (.const (.int .i64 0)))⟩]) .ret))))))
theorem law_impl_reduced {a0 a1 d : D} (h : code_impl_reduced.wp (CT Try.prog NoG) (endQ [(.c 4 2 true), (.t 5)] d) [a0, a1, .undef, .undef, .undef, .undef, .undef, .undef, .undef, .undef, .undef, .undef, .undef, .undef, .undef, .undef, .undef, .undef, .undef, .undef, .undef, .undef, .undef, .undef, .undef, .undef, .undef, .undef, .undef, .undef, .undef, .undef, .undef]) : Contract Try.prog NoG 130 [a0, a1] d :=
  contract_of noG Try.func130 (fun us W => by kernel_rfl) (c := Try.f130.body.getD .skip) (ms := []) (ms' := []) (by kernel_rfl) (by kernel_rfl) (by kernel_rfl) h
def code_impl_MakeFrac : VCode := (.seq (.ops [
  ⟨(some 4), none, (.alloc [(.int .i64 0), (.int .i64 0)])⟩,
  ⟨(some 5), none, (.asg (.const (.int .i64 0)))⟩]) (.seq (.seq (.ops [
  ⟨(some 6), none, (.mv (.tmp 0))⟩,
  ⟨(some 7), none, (.callX 58 [(.tmp 6), (.const (.int .i64 (-1000000000))), (.const (.int .i64 1000000000))])⟩,
  ⟨(some 8), none, (.un .not (.tmp 7))⟩,
  ⟨(some 9), none, (.mv (.tmp 8))⟩,
  ⟨(some 10), (some (9, false)), (.mv (.tmp 1))⟩,
  ⟨(some 11), (some (9, false)), (.callX 58 [(.tmp 10), (.const (.int .i64 (-1000000000))), (.const (.int .i64 1000000000))])⟩,
  ⟨(some 12), (some (9, false)), (.un .not (.tmp 11))⟩,
  ⟨(some 13), none, (.pick (.tmp 9) (.const (.bool true)) (.tmp 12))⟩,
  ⟨(some 14), none, (.mv (.tmp 13))⟩,
  ⟨(some 15), (some (14, false)), (.mv (.tmp 1))⟩,
  ⟨(some 16), (some (14, false)), (.bin .eql (.tmp 15) (.const (.int .i64 0)))⟩,
  ⟨(some 17), none, (.pick (.tmp 14) (.const (.bool true)) (.tmp 16))⟩]) (.cond (.tmp 17) (.seq (.ops [
  ⟨(some 18), none, (.build [(.int .i64 0), (.int .i64 0)] [])⟩,
  ⟨none, none, (.store 2 (.tmp 4) (.tmp 18))⟩,
  ⟨(some 5), none, (.asg (.const (.int .i64 2)))⟩]) .ret) .skip)) (.seq (.ops [
  ⟨(some 19), none, (.mv (.tmp 0))⟩,
  ⟨(some 20), none, (.mv (.tmp 1))⟩,
  ⟨(some 21), none, (.callX 130 [(.tmp 19), (.tmp 20)])⟩,
  ⟨(some 22), none, (.ext (.tmp 21) 0)⟩,
  ⟨(some 23), none, (.ext (.tmp 21) 1)⟩,
  ⟨none, none, (.store 2 (.tmp 4) (.tmp 22))⟩,
  ⟨(some 5), none, (.asg (.tmp 23))⟩]) .ret)))
theorem law_impl_MakeFrac {a0 a1 d : D} (h : code_impl_MakeFrac.wp (CT Try.prog NoG) (endQ [(.c 4 2 true), (.t 5)] d) [a0, a1, .undef, .undef, .undef, .undef, .undef, .undef, .undef, .undef, .undef, .undef, .undef, .undef, .undef, .undef, .undef, .undef, .undef, .undef, .undef, .undef, .undef, .undef]) : Contract Try.prog NoG 88 [a0, a1] d :=
  contract_of noG Try.func88 (fun us W => by kernel_rfl) (c := Try.f88.body.getD .skip) (ms := []) (ms' := []) (by kernel_rfl) (by kernel_rfl) (by kernel_rfl) h
theorem v_reduced (a b : Nat) (ha : a ≤ 1000000000) (h0 : 0 < b) (hb : b ≤ 1000000000) : Contract Try.prog NoG 130 [.v (.int .i64 (a : Int)), .v (.int .i64 (b : Int))] (.tup [.agg (Frac.td.d true (fracN a b)), .v (.int .i64 0)]) := by obtain ⟨g0, g1, q1, q2, q3, q4⟩ := frac_facts ha h0 hb; rw [Frac.td_d]; refine law_impl_reduced ?_; unfold code_impl_reduced fracN; have d0 : decide ((b : Int) < 0) = false := (by rw [decide_eq_false_iff_not]; omega); have hz : ¬ ((Nat.gcd a b : Nat) : Int) = 0 := (by omega); have t1 : ((a : Int)).tdiv ((Nat.gcd a b : Nat) : Int) = ((a / Nat.gcd a b : Nat) : Int) := rfl; have t2 : ((b : Int)).tdiv ((Nat.gcd a b : Nat) : Int) = ((b / Nat.gcd a b : Nat) : Int) := rfl; have w1 := wrQ q1; have w2 := wrQ q3; have h1 := inQ q1; have d1 := ltQ q3; simp -implicitDefEqProofs (disch := omega) only [go_sem, ↓reduceIte]; refine call_leA (v_gcd a b ha hb) (by simp -implicitDefEqProofs (disch := omega) only [go_sem, ↓reduceIte, deep, TD.rows, immLL_rI, immLL_rB8, immLL_rS, immLL_rBo, immLL_rII, d0, hz, t1, t2, w1, w2]; exact rfl) (by repeat (first | exact leL_nil | refine leL_cons ?_ ?_ | exact le_of_eq rfl | exact le_iptrN (leL_of_eq rfl) | refine le_agg ?_ | exact le_slf rfl (TD.rows ..) | refine le_iptr ?_ | refine le_fn ?_ ?_)) (by first | exact .inl rfl | exact .inr rfl | exact .inl (by simp only [D.noImm, noImmL, go_sem, TD.nims, TD.nim, nim_rI, nim_rB8, nim_rBo, nim_rS])) ?_; simp -implicitDefEqProofs (disch := omega) only [go_sem, ↓reduceIte , d0, hz, t1, t2, w1, w2]; refine call_leA (v_within ((a / Nat.gcd a b : Nat) : Int) (-1000000000) 1000000000) (by simp -implicitDefEqProofs (disch := omega) only [go_sem, ↓reduceIte, deep, TD.rows, immLL_rI, immLL_rB8, immLL_rS, immLL_rBo, immLL_rII, h1, d1]; exact rfl) (by repeat (first | exact leL_nil | refine leL_cons ?_ ?_ | exact le_of_eq rfl | exact le_iptrN (leL_of_eq rfl) | refine le_agg ?_ | exact le_slf rfl (TD.rows ..) | refine le_iptr ?_ | refine le_fn ?_ ?_)) (by first | exact .inl rfl | exact .inr rfl | exact .inl (by simp only [D.noImm, noImmL, go_sem, TD.nims, TD.nim, nim_rI, nim_rB8, nim_rBo, nim_rS])) ?_; simp -implicitDefEqProofs (disch := omega) only [go_sem, ↓reduceIte , h1, d1]
theorem v_MakeFrac (a b : Nat) (ha : a ≤ 1000000000) (h0 : 0 < b) (hb : b ≤ 1000000000) : Contract Try.prog NoG 88 [.v (.int .i64 (a : Int)), .v (.int .i64 (b : Int))] (.tup [.agg (Frac.td.d true (fracN a b)), .v (.int .i64 0)]) := by
  rw [Frac.td_d]; refine law_impl_MakeFrac ?_; unfold code_impl_MakeFrac; have h1 : inR (-1000000000) 1000000000 (a : Int) = true := inR_iff.2 (by omega); have h2 : inR (-1000000000) 1000000000 (b : Int) = true := inR_iff.2 (by omega); have d0 : decide ((b : Int) = 0) = false := by rw [decide_eq_false_iff_not]; omega
  simp -implicitDefEqProofs (disch := omega) only [go_sem, ↓reduceIte]; refine call_leA (v_within (a : Int) (-1000000000) 1000000000) (by simp -implicitDefEqProofs (disch := omega) only [go_sem, ↓reduceIte, deep, TD.rows, immLL_rI, immLL_rB8, immLL_rS, immLL_rBo, immLL_rII, h1]; exact rfl) (by repeat (first | exact leL_nil | refine leL_cons ?_ ?_ | exact le_of_eq rfl | exact le_iptrN (leL_of_eq rfl) | refine le_agg ?_ | exact le_slf rfl (TD.rows ..) | refine le_iptr ?_ | refine le_fn ?_ ?_)) (by first | exact .inl rfl | exact .inr rfl | exact .inl (by simp only [D.noImm, noImmL, go_sem, TD.nims, TD.nim, nim_rI, nim_rB8, nim_rBo, nim_rS])) ?_; simp -implicitDefEqProofs (disch := omega) only [go_sem, ↓reduceIte , h1]; refine call_leA (v_within (b : Int) (-1000000000) 1000000000) (by simp -implicitDefEqProofs (disch := omega) only [go_sem, ↓reduceIte, deep, TD.rows, immLL_rI, immLL_rB8, immLL_rS, immLL_rBo, immLL_rII, h2, d0]; exact rfl) (by repeat (first | exact leL_nil | refine leL_cons ?_ ?_ | exact le_of_eq rfl | exact le_iptrN (leL_of_eq rfl) | refine le_agg ?_ | exact le_slf rfl (TD.rows ..) | refine le_iptr ?_ | refine le_fn ?_ ?_)) (by first | exact .inl rfl | exact .inr rfl | exact .inl (by simp only [D.noImm, noImmL, go_sem, TD.nims, TD.nim, nim_rI, nim_rB8, nim_rBo, nim_rS])) ?_; simp -implicitDefEqProofs (disch := omega) only [go_sem, ↓reduceIte , h2, d0]; refine call_leA (v_reduced a b ha h0 hb) (by simp -implicitDefEqProofs (disch := omega) only [go_sem, ↓reduceIte, deep, TD.rows, immLL_rI, immLL_rB8, immLL_rS, immLL_rBo, immLL_rII, Frac.td_d]; exact rfl) (by repeat (first | exact leL_nil | refine leL_cons ?_ ?_ | exact le_of_eq rfl | exact le_iptrN (leL_of_eq rfl) | refine le_agg ?_ | exact le_slf rfl (TD.rows ..) | refine le_iptr ?_ | refine le_fn ?_ ?_)) (by first | exact .inl rfl | exact .inr rfl | exact .inl (by simp only [D.noImm, noImmL, go_sem, TD.nims, TD.nim, nim_rI, nim_rB8, nim_rBo, nim_rS])) ?_; simp -implicitDefEqProofs (disch := omega) only [go_sem, ↓reduceIte , Frac.td_d]
def bumpT (L : List Int) (t : Placed) : List Int := L.set t.Tile.toNat (L.getD t.Tile.toNat 0 + 1)
def cntsT (n : Nat) (ps : List Placed) : List Int := ps.foldl bumpT (List.replicate n 0)
theorem cntsT_next (n : Nat) {ps : List Placed} {i : Nat} (h : i < ps.length) : cntsT n (ps.take (i + 1)) = bumpT (cntsT n (ps.take i)) ps[i] := by unfold cntsT; rw [List.take_succ_eq_append_getElem h, List.foldl_append]; rfl
theorem cnts_fold : ∀ (ps : List Placed) (L : List Int) (k : Nat), (∀ x, x ∈ L → 0 ≤ x ∧ x ≤ k) → (ps.foldl bumpT L).length = L.length ∧ ∀ x, x ∈ ps.foldl bumpT L → 0 ≤ x ∧ x ≤ ((k + ps.length : Nat) : Int)
  | [], L, k, h => ⟨rfl, fun x hx => by have := h x hx; simpa using this⟩
  | t :: ps, L, k, h => by
    obtain ⟨h1, h2⟩ := cnts_fold ps (bumpT L t) (k + 1) (fun x hx => by
      unfold bumpT at hx; rcases List.mem_or_eq_of_mem_set hx with hx | rfl
      · have := h x hx; omega
      · rw [List.getD_eq_getElem?_getD]; cases hs : L[t.Tile.toNat]? with
        | none => simp only [Option.getD_none]; omega
        | some v => have := h v (List.mem_of_getElem? hs); simp only [Option.getD_some]; omega)
    refine ⟨by rw [List.foldl_cons, h1]; unfold bumpT; rw [List.length_set], fun x hx => ?_⟩; have := h2 x hx; rw [List.length_cons]; omega
theorem cntsT_len (n : Nat) (ps : List Placed) : (cntsT n ps).length = n := by have := (cnts_fold ps (List.replicate n 0) 0 (fun x hx => by rw [List.eq_of_mem_replicate hx]; omega)).1; rwa [List.length_replicate] at this
theorem cntsT_in (n : Nat) (ps : List Placed) : ∀ x, x ∈ cntsT n ps → 0 ≤ x ∧ x ≤ (ps.length : Int) := by have := (cnts_fold ps (List.replicate n 0) 0 (fun x hx => by rw [List.eq_of_mem_replicate hx]; omega)).2; intro x hx; have := this x hx; omega
theorem asm_tile {a : TileSet} {b : Assembly} (h : okAsm a b = true) {i : Nat} (hi : i < b.Tiles.length) : ∃ n : Nat, b.Tiles[i].Tile = (n : Int) ∧ n < a.Tiles.length := by unfold okAsm at h; simp only [Bool.and_eq_true] at h; have := h.2; rw [List.all_eq_true] at this; have := inR_iff.1 (this _ (List.getElem_mem hi)); exact ⟨b.Tiles[i].Tile.toNat, by omega, by omega⟩
theorem asm_len500 {a : TileSet} {b : Assembly} (h : okAsm a b = true) : b.Tiles.length ≤ 500 := by unfold okAsm okForm at h; simp only [Bool.and_eq_true, decide_eq_true_eq] at h; exact h.1.1
def code_impl_CountTiles : VCode := (.seq (.ops [
  ⟨(some 2), none, (.box (.tmp 0))⟩,
  ⟨(some 3), none, (.box (.tmp 1))⟩,
  ⟨(some 4), none, (.asg (.const (.slice none 0 0)))⟩,
  ⟨(some 5), none, (.asg (.const (.int .i64 0)))⟩]) (.seq (.seq (.ops [
  ⟨(some 9), none, (.load 2 true (.tmp 2))⟩,
  ⟨(some 10), none, (.load 1 true (.tmp 3))⟩,
  ⟨(some 11), none, (.callX 56 [(.tmp 9), (.tmp 10)])⟩,
  ⟨(some 12), none, (.un .not (.tmp 11))⟩]) (.cond (.tmp 12) (.seq (.ops [
  ⟨(some 4), none, (.asg (.const (.slice none 0 0)))⟩,
  ⟨(some 5), none, (.asg (.const (.int .i64 1)))⟩]) .ret) .skip)) (.seq (.ops [
  ⟨(some 13), none, (.fa 1 (.tmp 2))⟩,
  ⟨(some 14), none, (.load 1 false (.tmp 13))⟩,
  ⟨(some 15), none, (.len (.tmp 14))⟩,
  ⟨(some 16), none, (.mks 1 8 [(.int .i64 0)] (.tmp 15) (.tmp 15))⟩,
  ⟨(some 6), none, (.asg (.tmp 16))⟩]) (.seq (.seq (.ops [
  ⟨(some 17), none, (.fa 0 (.tmp 3))⟩,
  ⟨(some 18), none, (.load 1 false (.tmp 17))⟩,
  ⟨(some 19), none, (.len (.tmp 18))⟩,
  ⟨(some 20), none, (.mv (.const (.int .i64 0)))⟩]) (.block 0 (.loop (mB 33 8587902903) (.seq (.ops [
  ⟨(some 21), none, (.bin .lss (.tmp 20) (.tmp 19))⟩]) (.seq (.cond (.tmp 21) .skip (.exit 0)) (.seq (.block 1 (.seq (.ops [
  ⟨(some 22), none, (.ia 3 (.tmp 18) (.tmp 20))⟩,
  ⟨(some 23), none, (.load 3 true (.tmp 22))⟩,
  ⟨(some 8), none, (.alloc [(.int .i64 0), (.int .i64 0), (.int .i64 0)])⟩,
  ⟨none, none, (.store 3 (.tmp 8) (.tmp 23))⟩]) (.ops [
  ⟨(some 24), none, (.mv (.tmp 6))⟩,
  ⟨(some 25), none, (.fa 2 (.tmp 8))⟩,
  ⟨(some 26), none, (.load 1 false (.tmp 25))⟩,
  ⟨(some 27), none, (.ia 1 (.tmp 24) (.tmp 26))⟩,
  ⟨(some 28), none, (.load 1 false (.tmp 27))⟩,
  ⟨(some 29), none, (.bin .add (.tmp 28) (.const (.int .i64 1)))⟩,
  ⟨(some 30), none, (.ia 1 (.tmp 24) (.tmp 26))⟩,
  ⟨none, none, (.store 1 (.tmp 30) (.tmp 29))⟩]))) (.ops [
  ⟨(some 31), none, (.bin .add (.tmp 20) (.const (.int .i64 1)))⟩,
  ⟨(some 20), none, (.mv (.tmp 31))⟩]))))))) (.seq (.ops [
  ⟨(some 32), none, (.mv (.tmp 6))⟩,
  ⟨(some 4), none, (.asg (.tmp 32))⟩,
  ⟨(some 5), none, (.asg (.const (.int .i64 0)))⟩]) .ret)))))
theorem law_impl_CountTiles {a0 a1 d : D} (h : code_impl_CountTiles.wp (CT Try.prog NoG) (endQ [(.t 4), (.t 5)] d) [a0, a1, .undef, .undef, .undef, .undef, .undef, .undef, .undef, .undef, .undef, .undef, .undef, .undef, .undef, .undef, .undef, .undef, .undef, .undef, .undef, .undef, .undef, .undef, .undef, .undef, .undef, .undef, .undef, .undef, .undef, .undef, .undef]) : Contract Try.prog NoG 87 [a0, a1] d :=
  contract_of noG Try.func87 (fun us W => by kernel_rfl) (c := Try.f87.body.getD .skip) (ms := [(mB 33 8587902903)]) (ms' := []) (by kernel_rfl) (by kernel_rfl) (by kernel_rfl) h
set_option maxHeartbeats 1000000 in
theorem v_CountTiles (a : TileSet) (b : Assembly) (ha : setB a) (hn : b.Tiles.length ≤ 1048576) (h1 : okSet a = true) (h2 : okAsm a b = true) : Contract Try.prog NoG 87 [.agg (TileSet.td.d false a), .agg (Assembly.td.d false b)] (.tup [.sl true 1 ((cntsT a.Tiles.length b.Tiles).map rI), .v (.int .i64 0)]) := by
  rw [TileSet.td_d, Assembly.td_d]; refine law_impl_CountTiles ?_; unfold code_impl_CountTiles; have hl := asm_len500 h2; have hg := okSet_len h1; have h12 : (okSet a && okAsm a b) = true := by rw [h1, h2]; rfl
  simp -implicitDefEqProofs (disch := omega) only [go_sem, ↓reduceIte]; refine call_leA (v_ValidAssembly a b ha hn) (by simp -implicitDefEqProofs (disch := omega) only [go_sem, ↓reduceIte, deep, TD.rows, immLL_rI, immLL_rB8, immLL_rS, immLL_rBo, immLL_rII, h12, List.length_map, Int.toNat_natCast]; exact rfl) (by repeat (first | exact leL_nil | refine leL_cons ?_ ?_ | exact le_of_eq rfl | exact le_iptrN (leL_of_eq rfl) | refine le_agg ?_ | exact le_slf rfl (TD.rows ..) | refine le_iptr ?_ | refine le_fn ?_ ?_)) (by first | exact .inl rfl | exact .inr rfl | exact .inl (by simp only [D.noImm, noImmL, go_sem, TD.nims, TD.nim, nim_rI, nim_rB8, nim_rBo, nim_rS])) ?_; simp -implicitDefEqProofs (disch := omega) only [go_sem, ↓reduceIte , h12, List.length_map, Int.toNat_natCast]
  repeat (refine And.intro (by omega) ?_)
  refine loop_ov (by simp -implicitDefEqProofs (disch := omega) only [go_sem, ↓reduceIte]; exact rfl) (fun i : Nat => [(20, .v (.int .i64 (i : Nat))), (6, .sl true 1 ((cntsT a.Tiles.length (b.Tiles.take i)).map rI))]) (fun _ => by simp only [ovr_nil, ovr_cons, List.set_cons_zero, List.set_cons_succ]; exact rfl) (fun i : Nat => i ≤ b.Tiles.length) (fun i : Nat => b.Tiles.length - i) (0) (by rw [show cntsT a.Tiles.length (b.Tiles.take 0) = List.replicate a.Tiles.length 0 from rfl, List.map_replicate]; (try simp -implicitDefEqProofs only [nleL_cc, nleL_nn, nle_self, nle_boxs, nle_aggs, nle_nils, and_self, and_true, true_and]) <;> repeat' (first | exact nle_of_eq rfl | exact nle_nil | apply And.intro | apply nle_sl | apply nleLL_cons | apply nleL_cons | exact nleL_nil | exact nleLL_nil | apply nle_box | apply nle_agg)) (Nat.zero_le _) ?_; intro i hi; simp -implicitDefEqProofs (disch := omega) only [go_sem, ↓reduceIte , List.length_map, Int.toNat_natCast, Int.ofNat_lt, Int.natCast_nonneg, List.getElem?_map, Option.map_some]; refine cond_split ?_ ?_ <;> intro hlt
  · have hlt : i < b.Tiles.length := (by simpa using hlt); have e1 := List.getElem?_eq_getElem hlt; obtain ⟨n, hn', hnl⟩ := asm_tile h2 hlt; have hcl := cntsT_len a.Tiles.length (b.Tiles.take i); have e2 := getD_some (s := cntsT a.Tiles.length (b.Tiles.take i)) (k := n) (by rw [hcl]; exact hnl); have hci := cntsT_in a.Tiles.length (b.Tiles.take i) _ (List.mem_of_getElem? e2); rw [List.length_take] at hci; have hw : IntKind.i64.wrap ((cntsT a.Tiles.length (b.Tiles.take i)).getD n 0 + 1) = (cntsT a.Tiles.length (b.Tiles.take i)).getD n 0 + 1 := wrI (by omega) (by omega); have hnx := cntsT_next a.Tiles.length hlt; unfold bumpT at hnx; rw [hn', Int.toNat_natCast] at hnx; have hset : ((cntsT a.Tiles.length (b.Tiles.take i)).map rI).set n [.v (.int .i64 ((cntsT a.Tiles.length (b.Tiles.take i)).getD n 0 + 1))] = (cntsT a.Tiles.length (b.Tiles.take (i + 1))).map rI := (by rw [hnx, List.map_set]); simp -implicitDefEqProofs (disch := omega) only [go_sem, ↓reduceIte , List.length_map, Int.toNat_natCast, Int.ofNat_lt, Int.natCast_nonneg, List.getElem?_map, Option.map_some, hlt, e1, Placed.td_d, hn', hcl, hnl, e2, hw, hset, wrN]; exact ⟨i + 1, by omega, hlt, by (try simp -implicitDefEqProofs only [nleL_cc, nleL_nn, nle_self, nle_boxs, nle_aggs, nle_nils, and_self, and_true, true_and]) <;> repeat' (first | exact nle_of_eq rfl | exact nle_nil | apply And.intro | apply nle_sl | apply nleLL_cons | apply nleL_cons | exact nleL_nil | exact nleLL_nil | apply nle_box | apply nle_agg)⟩
  · obtain rfl : i = b.Tiles.length := (by have : ¬ i < b.Tiles.length := (by simpa using hlt); omega); simp -implicitDefEqProofs (disch := omega) only [go_sem, ↓reduceIte , List.take_length]
def code_spec_l34Counts : VCode := (.seq (.ops [
  ⟨(some 4), none, (.asg (.const (.slice none 0 0)))⟩]) (.seq (.ops [
  ⟨(some 7), none, (.mv (.tmp 0))⟩,
  ⟨(some 8), none, (.nilc (.tmp 7))⟩,
  ⟨(some 9), none, (.fa 1 (.tmp 8))⟩,
  ⟨(some 10), none, (.load 1 false (.tmp 9))⟩,
  ⟨(some 11), none, (.len (.tmp 10))⟩,
  ⟨(some 12), none, (.mks 1 8 [(.int .i64 0)] (.tmp 11) (.tmp 11))⟩,
  ⟨(some 5), none, (.asg (.tmp 12))⟩]) (.seq (.seq (.ops [
  ⟨(some 6), none, (.asg (.const (.int .i64 0)))⟩]) (.block 0 (.loop (mB 36 68719472541) (.seq (.seq (.ops [
  ⟨(some 13), none, (.mv (.tmp 6))⟩,
  ⟨(some 14), none, (.mv (.tmp 1))⟩,
  ⟨(some 15), none, (.nilc (.tmp 14))⟩,
  ⟨(some 16), none, (.fa 0 (.tmp 15))⟩,
  ⟨(some 17), none, (.load 1 false (.tmp 16))⟩,
  ⟨(some 18), none, (.len (.tmp 17))⟩,
  ⟨(some 19), none, (.bin .lss (.tmp 13) (.tmp 18))⟩]) (.cond (.tmp 19) .skip (.exit 0))) (.seq (.block 1 (.ops [
  ⟨(some 22), none, (.mv (.tmp 5))⟩,
  ⟨(some 23), none, (.mv (.tmp 1))⟩,
  ⟨(some 24), none, (.nilc (.tmp 23))⟩,
  ⟨(some 25), none, (.fa 0 (.tmp 24))⟩,
  ⟨(some 26), none, (.load 1 false (.tmp 25))⟩,
  ⟨(some 27), none, (.mv (.tmp 6))⟩,
  ⟨(some 28), none, (.ia 3 (.tmp 26) (.tmp 27))⟩,
  ⟨(some 29), none, (.fa 2 (.tmp 28))⟩,
  ⟨(some 30), none, (.load 1 false (.tmp 29))⟩,
  ⟨(some 31), none, (.ia 1 (.tmp 22) (.tmp 30))⟩,
  ⟨(some 32), none, (.load 1 false (.tmp 31))⟩,
  ⟨(some 33), none, (.bin .add (.tmp 32) (.const (.int .i64 1)))⟩,
  ⟨(some 34), none, (.ia 1 (.tmp 22) (.tmp 30))⟩,
  ⟨none, none, (.store 1 (.tmp 34) (.tmp 33))⟩])) (.ops [
  ⟨(some 20), none, (.mv (.tmp 6))⟩,
  ⟨(some 21), none, (.bin .add (.tmp 20) (.const (.int .i64 1)))⟩,
  ⟨(some 6), none, (.asg (.tmp 21))⟩])))))) (.seq (.ops [
  ⟨(some 35), none, (.mv (.tmp 5))⟩,
  ⟨(some 4), none, (.asg (.tmp 35))⟩]) .ret))))
theorem law_spec_l34Counts {a0 a1 d : D} (h : code_spec_l34Counts.wp (CT Try.prog NoG) (endQ [(.t 4)] d) [a0, a1, .undef, .undef, .undef, .undef, .undef, .undef, .undef, .undef, .undef, .undef, .undef, .undef, .undef, .undef, .undef, .undef, .undef, .undef, .undef, .undef, .undef, .undef, .undef, .undef, .undef, .undef, .undef, .undef, .undef, .undef, .undef, .undef, .undef, .undef]) : Contract Try.prog NoG 84 [a0, a1] d :=
  contract_of noG Try.func84 (fun us W => by kernel_rfl) (c := Try.f84.body.getD .skip) (ms := [(mB 36 68719472541)]) (ms' := []) (by kernel_rfl) (by kernel_rfl) (by kernel_rfl) h
set_option maxHeartbeats 1000000 in
theorem v_l34Counts (a : TileSet) (b : Assembly) (h1 : okSet a = true) (h2 : okAsm a b = true) : Contract Try.prog NoG 84 [.iptr (TileSet.td.d false a) 0, .iptr (Assembly.td.d false b) 0] (.sl true 1 ((cntsT a.Tiles.length b.Tiles).map rI)) := by
  rw [TileSet.td_d, Assembly.td_d]; refine law_spec_l34Counts ?_; unfold code_spec_l34Counts; have hl := asm_len500 h2; have hg := okSet_len h1; simp -implicitDefEqProofs (disch := omega) only [go_sem, ↓reduceIte , List.length_map, Int.toNat_natCast]
  repeat (refine And.intro (by omega) ?_)
  refine loop_ov (by simp -implicitDefEqProofs (disch := omega) only [go_sem, ↓reduceIte]; exact rfl) (fun i : Nat => [(6, .v (.int .i64 (i : Nat))), (5, .sl true 1 ((cntsT a.Tiles.length (b.Tiles.take i)).map rI))]) (fun _ => by simp only [ovr_nil, ovr_cons, List.set_cons_zero, List.set_cons_succ]; exact rfl) (fun i : Nat => i ≤ b.Tiles.length) (fun i : Nat => b.Tiles.length - i) (0) (by rw [show cntsT a.Tiles.length (b.Tiles.take 0) = List.replicate a.Tiles.length 0 from rfl, List.map_replicate]; (try simp -implicitDefEqProofs only [nleL_cc, nleL_nn, nle_self, nle_boxs, nle_aggs, nle_nils, and_self, and_true, true_and]) <;> repeat' (first | exact nle_of_eq rfl | exact nle_nil | apply And.intro | apply nle_sl | apply nleLL_cons | apply nleL_cons | exact nleL_nil | exact nleLL_nil | apply nle_box | apply nle_agg)) (Nat.zero_le _) ?_; intro i hi; simp -implicitDefEqProofs (disch := omega) only [go_sem, ↓reduceIte , List.length_map, Int.toNat_natCast, Int.ofNat_lt, Int.natCast_nonneg, List.getElem?_map, Option.map_some]; refine cond_split ?_ ?_ <;> intro hlt
  · have hlt : i < b.Tiles.length := (by simpa using hlt); have e1 := List.getElem?_eq_getElem hlt; obtain ⟨n, hn', hnl⟩ := asm_tile h2 hlt; have hcl := cntsT_len a.Tiles.length (b.Tiles.take i); have e2 := getD_some (s := cntsT a.Tiles.length (b.Tiles.take i)) (k := n) (by rw [hcl]; exact hnl); have hci := cntsT_in a.Tiles.length (b.Tiles.take i) _ (List.mem_of_getElem? e2); rw [List.length_take] at hci; have hw : IntKind.i64.wrap ((cntsT a.Tiles.length (b.Tiles.take i)).getD n 0 + 1) = (cntsT a.Tiles.length (b.Tiles.take i)).getD n 0 + 1 := wrI (by omega) (by omega); have hnx := cntsT_next a.Tiles.length hlt; unfold bumpT at hnx; rw [hn', Int.toNat_natCast] at hnx; have hset : ((cntsT a.Tiles.length (b.Tiles.take i)).map rI).set n [.v (.int .i64 ((cntsT a.Tiles.length (b.Tiles.take i)).getD n 0 + 1))] = (cntsT a.Tiles.length (b.Tiles.take (i + 1))).map rI := (by rw [hnx, List.map_set]); simp -implicitDefEqProofs (disch := omega) only [go_sem, ↓reduceIte , List.length_map, Int.toNat_natCast, Int.ofNat_lt, Int.natCast_nonneg, List.getElem?_map, Option.map_some, hlt, e1, Placed.td_d, hn', hcl, hnl, e2, hw, hset, wrN]; exact ⟨i + 1, by omega, hlt, by (try simp -implicitDefEqProofs only [nleL_cc, nleL_nn, nle_self, nle_boxs, nle_aggs, nle_nils, and_self, and_true, true_and]) <;> repeat' (first | exact nle_of_eq rfl | exact nle_nil | apply And.intro | apply nle_sl | apply nleLL_cons | apply nleL_cons | exact nleL_nil | exact nleLL_nil | apply nle_box | apply nle_agg)⟩
  · obtain rfl : i = b.Tiles.length := (by have : ¬ i < b.Tiles.length := (by simpa using hlt); omega); simp -implicitDefEqProofs (disch := omega) only [go_sem, ↓reduceIte , List.take_length]
def code_impl_tiledCode : VCode := (.seq (.ops [
  ⟨(some 2), none, (.box (.tmp 0))⟩,
  ⟨(some 3), none, (.box (.tmp 1))⟩,
  ⟨(some 4), none, (.asg (.const (.int .i64 0)))⟩]) (.seq (.block 0 (.seq (.ops [
  ⟨(some 6), none, (.load 2 true (.tmp 2))⟩,
  ⟨(some 7), none, (.load 1 true (.tmp 3))⟩,
  ⟨(some 8), none, (.callX 56 [(.tmp 6), (.tmp 7)])⟩,
  ⟨(some 9), none, (.un .not (.tmp 8))⟩,
  ⟨(some 5), none, (.asg (.tmp 9))⟩]) (.cond (.tmp 5) (.seq (.ops [
  ⟨(some 4), none, (.asg (.const (.int .i64 1)))⟩]) .ret) (.seq (.ops [
  ⟨(some 11), none, (.fa 0 (.tmp 3))⟩,
  ⟨(some 12), none, (.load 1 false (.tmp 11))⟩,
  ⟨(some 13), none, (.len (.tmp 12))⟩,
  ⟨(some 14), none, (.bin .eql (.tmp 13) (.const (.int .i64 0)))⟩,
  ⟨(some 10), none, (.asg (.tmp 14))⟩]) (.cond (.tmp 10) (.seq (.ops [
  ⟨(some 4), none, (.asg (.const (.int .i64 3)))⟩]) .ret) .skip))))) (.seq (.ops [
  ⟨(some 4), none, (.asg (.const (.int .i64 0)))⟩]) .ret)))
theorem law_impl_tiledCode {a0 a1 d : D} (h : code_impl_tiledCode.wp (CT Try.prog NoG) (endQ [(.t 4)] d) [a0, a1, .undef, .undef, .undef, .undef, .undef, .undef, .undef, .undef, .undef, .undef, .undef, .undef, .undef]) : Contract Try.prog NoG 86 [a0, a1] d :=
  contract_of noG Try.func86 (fun us W => by kernel_rfl) (c := Try.f86.body.getD .skip) (ms := []) (ms' := []) (by kernel_rfl) (by kernel_rfl) (by kernel_rfl) h
theorem v_tiledCode (a : TileSet) (b : Assembly) (ha : setB a) (hn : b.Tiles.length ≤ 1048576) : Contract Try.prog NoG 86 [.agg (TileSet.td.d false a), .agg (Assembly.td.d false b)] (.v (.int .i64 (if okSet a && okAsm a b then (if b.Tiles.length = 0 then 3 else 0) else 1))) := by
  rw [TileSet.td_d, Assembly.td_d]; refine law_impl_tiledCode ?_; unfold code_impl_tiledCode; simp -implicitDefEqProofs (disch := omega) only [go_sem, ↓reduceIte]; cases h1 : okSet a && okAsm a b with
  | false => refine call_leA (v_ValidAssembly a b ha hn) (by simp -implicitDefEqProofs (disch := omega) only [go_sem, ↓reduceIte, deep, TD.rows, immLL_rI, immLL_rB8, immLL_rS, immLL_rBo, immLL_rII, h1]; exact rfl) (by repeat (first | exact leL_nil | refine leL_cons ?_ ?_ | exact le_of_eq rfl | exact le_iptrN (leL_of_eq rfl) | refine le_agg ?_ | exact le_slf rfl (TD.rows ..) | refine le_iptr ?_ | refine le_fn ?_ ?_)) (by first | exact .inl rfl | exact .inr rfl | exact .inl (by simp only [D.noImm, noImmL, go_sem, TD.nims, TD.nim, nim_rI, nim_rB8, nim_rBo, nim_rS])) ?_; simp -implicitDefEqProofs (disch := omega) only [go_sem, ↓reduceIte , h1]
  | true =>
  by_cases h0 : b.Tiles.length = 0
  · have d0 : decide ((b.Tiles.length : Int) = 0) = true := (by rw [decide_eq_true_eq]; omega); rw [if_pos h0]; refine call_leA (v_ValidAssembly a b ha hn) (by simp -implicitDefEqProofs (disch := omega) only [go_sem, ↓reduceIte, deep, TD.rows, immLL_rI, immLL_rB8, immLL_rS, immLL_rBo, immLL_rII, h1, List.length_map, d0]; exact rfl) (by repeat (first | exact leL_nil | refine leL_cons ?_ ?_ | exact le_of_eq rfl | exact le_iptrN (leL_of_eq rfl) | refine le_agg ?_ | exact le_slf rfl (TD.rows ..) | refine le_iptr ?_ | refine le_fn ?_ ?_)) (by first | exact .inl rfl | exact .inr rfl | exact .inl (by simp only [D.noImm, noImmL, go_sem, TD.nims, TD.nim, nim_rI, nim_rB8, nim_rBo, nim_rS])) ?_; simp -implicitDefEqProofs (disch := omega) only [go_sem, ↓reduceIte , h1, List.length_map, d0]
  · have d0 : decide ((b.Tiles.length : Int) = 0) = false := (by rw [decide_eq_false_iff_not]; omega); rw [if_neg h0]; refine call_leA (v_ValidAssembly a b ha hn) (by simp -implicitDefEqProofs (disch := omega) only [go_sem, ↓reduceIte, deep, TD.rows, immLL_rI, immLL_rB8, immLL_rS, immLL_rBo, immLL_rII, h1, List.length_map, d0]; exact rfl) (by repeat (first | exact leL_nil | refine leL_cons ?_ ?_ | exact le_of_eq rfl | exact le_iptrN (leL_of_eq rfl) | refine le_agg ?_ | exact le_slf rfl (TD.rows ..) | refine le_iptr ?_ | refine le_fn ?_ ?_)) (by first | exact .inl rfl | exact .inr rfl | exact .inl (by simp only [D.noImm, noImmL, go_sem, TD.nims, TD.nim, nim_rI, nim_rB8, nim_rBo, nim_rS])) ?_; simp -implicitDefEqProofs (disch := omega) only [go_sem, ↓reduceIte , h1, List.length_map, d0]
def shF (n : Nat) (x : Int) : Frac := fracN x.toNat n
def TileSharesR (a : TileSet) (b : Assembly) : List Frac := if okSet a && okAsm a b then (if b.Tiles.length = 0 then [] else (cntsT a.Tiles.length b.Tiles).map (shF b.Tiles.length)) else []
def TileSharesC (a : TileSet) (b : Assembly) : Int := if okSet a && okAsm a b then (if b.Tiles.length = 0 then 3 else 0) else 1
theorem TileSharesR_ok (a : TileSet) (_ : TileSet.td.ok a) (_ : TileSet.cnt a ≤ 1048576) (b : Assembly) (_ : Assembly.td.ok b) (hn : Assembly.cnt b ≤ 1048576) : ∀ x, x ∈ TileSharesR a b → Frac.td.ok x := by
  intro x hx; have hn := asm_len hn; unfold TileSharesR at hx; split at hx
  · split at hx
    · cases hx
    · obtain ⟨y, hy, rfl⟩ := List.mem_map.1 hx; have := cntsT_in _ _ y hy; exact fracN_ok (by omega) (by omega)
  · cases hx
theorem TileSharesR_cn (a : TileSet) (hn : TileSet.cnt a ≤ 1048576) (b : Assembly) : cnS Frac.cnE (TileSharesR a b) ≤ 1000000000000 := by
  have h1 := cnS_len Frac.cnE_le (TileSharesR a b); have h2 : (TileSharesR a b).length ≤ 1048576 := by
    unfold TileSharesR; split
    · split
      · simp
      · rw [List.length_map, cntsT_len]; exact (setB_of hn).t
    · simp
  omega
theorem sh_next (n : Nat) {L : List Int} {i : Nat} (h : i < L.length) : ((L.take i).map (shF n)).map (Frac.td.d true) ++ [Frac.td.d true (shF n L[i])] = ((L.take (i + 1)).map (shF n)).map (Frac.td.d true) := by rw [List.take_succ_eq_append_getElem h, List.map_append, List.map_append]; rfl
def code_spec_TileShares : VCode := (.seq (.ops [
  ⟨(some 2), none, (.box (.tmp 0))⟩,
  ⟨(some 3), none, (.box (.tmp 1))⟩,
  ⟨(some 4), none, (.asg (.const (.slice none 0 0)))⟩,
  ⟨(some 5), none, (.asg (.const (.int .i64 0)))⟩]) (.seq (.seq (.ops [
  ⟨(some 12), none, (.callX 49 [(.tmp 2), (.tmp 3)])⟩,
  ⟨(some 6), none, (.asg (.tmp 12))⟩]) (.seq (.ops [
  ⟨(some 13), none, (.mv (.tmp 6))⟩,
  ⟨(some 14), none, (.bin .neq (.tmp 13) (.const (.int .i64 0)))⟩]) (.cond (.tmp 14) (.seq (.ops [
  ⟨(some 15), none, (.bsl 2 [])⟩,
  ⟨(some 16), none, (.mv (.tmp 6))⟩,
  ⟨(some 4), none, (.asg (.tmp 15))⟩,
  ⟨(some 5), none, (.asg (.tmp 16))⟩]) .ret) .skip))) (.seq (.seq (.ops [
  ⟨(some 17), none, (.fa 0 (.tmp 3))⟩,
  ⟨(some 18), none, (.load 1 false (.tmp 17))⟩,
  ⟨(some 19), none, (.len (.tmp 18))⟩,
  ⟨(some 20), none, (.bin .eql (.tmp 19) (.const (.int .i64 0)))⟩]) (.cond (.tmp 20) (.seq (.ops [
  ⟨(some 21), none, (.bsl 2 [])⟩,
  ⟨(some 4), none, (.asg (.tmp 21))⟩,
  ⟨(some 5), none, (.asg (.const (.int .i64 3)))⟩]) .ret) .skip)) (.seq (.ops [
  ⟨(some 22), none, (.callX 84 [(.tmp 2), (.tmp 3)])⟩,
  ⟨(some 7), none, (.asg (.tmp 22))⟩]) (.seq (.ops [
  ⟨(some 23), none, (.bsl 2 [])⟩,
  ⟨(some 8), none, (.asg (.tmp 23))⟩]) (.seq (.seq (.ops [
  ⟨(some 9), none, (.asg (.const (.int .i64 0)))⟩]) (.block 0 (.loop (mB 46 41781429271667) (.seq (.seq (.ops [
  ⟨(some 24), none, (.mv (.tmp 9))⟩,
  ⟨(some 25), none, (.mv (.tmp 7))⟩,
  ⟨(some 26), none, (.len (.tmp 25))⟩,
  ⟨(some 27), none, (.bin .lss (.tmp 24) (.tmp 26))⟩]) (.cond (.tmp 27) .skip (.exit 0))) (.seq (.block 1 (.seq (.drawB [] [(10, 2)] (mB 41 2197949514752) (mB 40 549755813888) [⟨0, (mB 41 2197949514752), [], ⟨(some 31), none, (.mv (.tmp 7))⟩⟩, ⟨1, (mB 41 2197949514752), [], ⟨(some 32), none, (.mv (.tmp 9))⟩⟩, ⟨2, (mB 41 2191507063808), [], ⟨(some 33), none, (.ia 1 (.tmp 31) (.tmp 32))⟩⟩, ⟨3, (mB 41 2182917129216), [], ⟨(some 34), none, (.load 1 false (.tmp 33))⟩⟩, ⟨4, (mB 41 2197949514752), [], ⟨(some 35), none, (.fa 0 (.tmp 3))⟩⟩, ⟨5, (mB 41 2163589776384), [], ⟨(some 36), none, (.load 1 false (.tmp 35))⟩⟩, ⟨6, (mB 41 2094870299648), [], ⟨(some 37), none, (.len (.tmp 36))⟩⟩, ⟨7, (mB 41 1925219091456), [], ⟨(some 38), none, (.call 85 [(.tmp 34), (.tmp 37)])⟩⟩, ⟨8, (mB 41 1650341184512), [], ⟨(some 30), none, (.mv (.tmp 38))⟩⟩, ⟨9, (mB 41 1649267442688), [], ⟨(some 39), none, (.extN (.tmp 30) 0)⟩⟩, ⟨10, (mB 41 1649267442688), [], ⟨(some 40), none, (.extN (.tmp 30) 1)⟩⟩, ⟨11, (mB 41 2197949514752), [], ⟨none, none, (.mv (.const (.tuple ⟨[]⟩)))⟩⟩, ⟨12, (mB 41 1099511628800), (mB 40 549755813888), ⟨(some 10), none, (.box (.tmp 39))⟩⟩] [⟨(some 11), none, (.asg (.tmp 40))⟩]) (.ops [
  ⟨(some 41), none, (.mv (.tmp 8))⟩,
  ⟨(some 42), none, (.load 2 true (.tmp 10))⟩,
  ⟨(some 43), none, (.bsl 2 [(.tmp 42)])⟩,
  ⟨(some 44), none, (.app 2 16 (.tmp 41) (.tmp 43))⟩,
  ⟨(some 8), none, (.asg (.tmp 44))⟩]))) (.ops [
  ⟨(some 28), none, (.mv (.tmp 9))⟩,
  ⟨(some 29), none, (.bin .add (.tmp 28) (.const (.int .i64 1)))⟩,
  ⟨(some 9), none, (.asg (.tmp 29))⟩])))))) (.seq (.ops [
  ⟨(some 45), none, (.mv (.tmp 8))⟩,
  ⟨(some 4), none, (.asg (.tmp 45))⟩,
  ⟨(some 5), none, (.asg (.const (.int .i64 0)))⟩]) .ret)))))))
theorem law_spec_TileShares {a0 a1 d : D} (h : code_spec_TileShares.wp (CT Try.prog NoG) (endQ [(.t 4), (.t 5)] d) [a0, a1, .undef, .undef, .undef, .undef, .undef, .undef, .undef, .undef, .undef, .undef, .undef, .undef, .undef, .undef, .undef, .undef, .undef, .undef, .undef, .undef, .undef, .undef, .undef, .undef, .undef, .undef, .undef, .undef, .undef, .undef, .undef, .undef, .undef, .undef, .undef, .undef, .undef, .undef, .undef, .undef, .undef, .undef, .undef, .undef]) : Contract Try.prog NoG 34 [a0, a1] d :=
  contract_of noG Try.func34 (fun us W => by kernel_rfl) (c := Try.f34.body.getD .skip) (ms := [(mB 46 41781429271667)]) (ms' := []) (by kernel_rfl) (by kernel_rfl) (by kernel_rfl) h
def code_impl_TileShares : VCode := (.seq (.ops [
  ⟨(some 2), none, (.box (.tmp 0))⟩,
  ⟨(some 3), none, (.box (.tmp 1))⟩,
  ⟨(some 4), none, (.asg (.const (.slice none 0 0)))⟩,
  ⟨(some 5), none, (.asg (.const (.int .i64 0)))⟩]) (.seq (.seq (.ops [
  ⟨(some 14), none, (.load 2 true (.tmp 2))⟩,
  ⟨(some 15), none, (.load 1 true (.tmp 3))⟩,
  ⟨(some 16), none, (.callX 86 [(.tmp 14), (.tmp 15)])⟩,
  ⟨(some 6), none, (.asg (.tmp 16))⟩]) (.seq (.ops [
  ⟨(some 17), none, (.mv (.tmp 6))⟩,
  ⟨(some 18), none, (.bin .neq (.tmp 17) (.const (.int .i64 0)))⟩]) (.cond (.tmp 18) (.seq (.ops [
  ⟨(some 19), none, (.mv (.tmp 6))⟩,
  ⟨(some 4), none, (.asg (.const (.slice none 0 0)))⟩,
  ⟨(some 5), none, (.asg (.tmp 19))⟩]) .ret) .skip))) (.seq (.ops [
  ⟨(some 21), none, (.load 2 true (.tmp 2))⟩,
  ⟨(some 22), none, (.load 1 true (.tmp 3))⟩,
  ⟨(some 23), none, (.callX 87 [(.tmp 21), (.tmp 22)])⟩,
  ⟨(some 20), none, (.mv (.tmp 23))⟩,
  ⟨(some 24), none, (.ext (.tmp 20) 0)⟩,
  ⟨(some 25), none, (.ext (.tmp 20) 1)⟩,
  ⟨(some 7), none, (.asg (.tmp 24))⟩,
  ⟨(some 8), none, (.asg (.tmp 25))⟩]) (.seq (.ops [
  ⟨(some 9), none, (.asg (.const (.slice none 0 0)))⟩]) (.seq (.seq (.ops [
  ⟨(some 26), none, (.mv (.tmp 7))⟩,
  ⟨(some 27), none, (.len (.tmp 26))⟩,
  ⟨(some 28), none, (.mv (.const (.int .i64 0)))⟩]) (.block 0 (.loop (mB 46 56074590748019) (.seq (.ops [
  ⟨(some 29), none, (.bin .lss (.tmp 28) (.tmp 27))⟩]) (.seq (.cond (.tmp 29) .skip (.exit 0)) (.seq (.block 1 (.seq (.ops [
  ⟨(some 30), none, (.ia 1 (.tmp 26) (.tmp 28))⟩,
  ⟨(some 31), none, (.load 1 false (.tmp 30))⟩,
  ⟨(some 11), none, (.asg (.tmp 31))⟩]) (.seq (.ops [
  ⟨(some 33), none, (.mv (.tmp 11))⟩,
  ⟨(some 34), none, (.fa 0 (.tmp 3))⟩,
  ⟨(some 35), none, (.load 1 false (.tmp 34))⟩,
  ⟨(some 36), none, (.len (.tmp 35))⟩,
  ⟨(some 37), none, (.callX 88 [(.tmp 33), (.tmp 36)])⟩,
  ⟨(some 32), none, (.mv (.tmp 37))⟩,
  ⟨(some 38), none, (.ext (.tmp 32) 0)⟩,
  ⟨(some 39), none, (.ext (.tmp 32) 1)⟩,
  ⟨(some 12), none, (.alloc [(.int .i64 0), (.int .i64 0)])⟩,
  ⟨none, none, (.store 2 (.tmp 12) (.tmp 38))⟩,
  ⟨(some 13), none, (.asg (.tmp 39))⟩]) (.ops [
  ⟨(some 40), none, (.mv (.tmp 9))⟩,
  ⟨(some 41), none, (.load 2 true (.tmp 12))⟩,
  ⟨(some 42), none, (.bsl 2 [(.tmp 41)])⟩,
  ⟨(some 43), none, (.app 2 16 (.tmp 40) (.tmp 42))⟩,
  ⟨(some 9), none, (.asg (.tmp 43))⟩])))) (.ops [
  ⟨(some 44), none, (.bin .add (.tmp 28) (.const (.int .i64 1)))⟩,
  ⟨(some 28), none, (.mv (.tmp 44))⟩]))))))) (.seq (.ops [
  ⟨(some 45), none, (.mv (.tmp 9))⟩,
  ⟨(some 4), none, (.asg (.tmp 45))⟩,
  ⟨(some 5), none, (.asg (.const (.int .i64 0)))⟩]) .ret))))))
theorem law_impl_TileShares {a0 a1 d : D} (h : code_impl_TileShares.wp (CT Try.prog NoG) (endQ [(.t 4), (.t 5)] d) [a0, a1, .undef, .undef, .undef, .undef, .undef, .undef, .undef, .undef, .undef, .undef, .undef, .undef, .undef, .undef, .undef, .undef, .undef, .undef, .undef, .undef, .undef, .undef, .undef, .undef, .undef, .undef, .undef, .undef, .undef, .undef, .undef, .undef, .undef, .undef, .undef, .undef, .undef, .undef, .undef, .undef, .undef, .undef, .undef, .undef]) : Contract Try.prog NoG 35 [a0, a1] d :=
  contract_of noG Try.func35 (fun us W => by kernel_rfl) (c := Try.f35.body.getD .skip) (ms := [(mB 46 56074590748019)]) (ms' := []) (by kernel_rfl) (by kernel_rfl) (by kernel_rfl) h
set_option maxHeartbeats 2000000 in
theorem vTileShares_impl (q_aSet : TileSet) (q_aSet_ok : TileSet.td.ok q_aSet) (q_aSet_n : TileSet.cnt q_aSet ≤ 1048576) (q_aA : Assembly) (q_aA_ok : Assembly.td.ok q_aA) (q_aA_n : Assembly.cnt q_aA ≤ 1048576) : Contract Try.prog NoG 35 [.agg (TileSet.td.d false q_aSet), .agg (Assembly.td.d false q_aA)] (.tup [.sl true 2 ((TileSharesR q_aSet q_aA).map (Frac.td.d true)), .v (.int .i64 (TileSharesC q_aSet q_aA))]) := by
  have ha := setB_of q_aSet_n; have hn := asm_len q_aA_n; rw [TileSet.td_d, Assembly.td_d]; refine law_impl_TileShares ?_; unfold code_impl_TileShares; simp -implicitDefEqProofs (disch := omega) only [go_sem, ↓reduceIte]; cases h1 : okSet q_aSet && okAsm q_aSet q_aA with
  | false => have r1 : TileSharesR q_aSet q_aA = [] := (by unfold TileSharesR; rw [h1]; rfl); have r2 : TileSharesC q_aSet q_aA = 1 := (by unfold TileSharesC; rw [h1]; rfl); refine call_leA (v_tiledCode q_aSet q_aA ha hn) (by simp -implicitDefEqProofs (disch := omega) only [go_sem, ↓reduceIte, deep, TD.rows, immLL_rI, immLL_rB8, immLL_rS, immLL_rBo, immLL_rII, h1, Int.natCast_zero, Int.natCast_one, Int.cast_ofNat_Int, Int.ofNat_le, Int.toNat_zero, Nat.sub_zero, Int.le_refl, Int.reduceLT, Int.reduceLE, Int.reduceEq, Int.reduceAdd, Int.reduceSub, Int.reduceMul, Int.reduceToNat, Int.reduceNeg, decide_false, Bool.not_false, r1, r2]; exact rfl) (by repeat (first | exact leL_nil | refine leL_cons ?_ ?_ | exact le_of_eq rfl | exact le_iptrN (leL_of_eq rfl) | refine le_agg ?_ | exact le_slf rfl (TD.rows ..) | refine le_iptr ?_ | refine le_fn ?_ ?_)) (by first | exact .inl rfl | exact .inr rfl | exact .inl (by simp only [D.noImm, noImmL, go_sem, TD.nims, TD.nim, nim_rI, nim_rB8, nim_rBo, nim_rS])) ?_; simp -implicitDefEqProofs (disch := omega) only [go_sem, ↓reduceIte , h1, Int.natCast_zero, Int.natCast_one, Int.cast_ofNat_Int, Int.ofNat_le, Int.toNat_zero, Nat.sub_zero, Int.le_refl, Int.reduceLT, Int.reduceLE, Int.reduceEq, Int.reduceAdd, Int.reduceSub, Int.reduceMul, Int.reduceToNat, Int.reduceNeg, decide_false, Bool.not_false, r1, r2]
  | true =>
  obtain ⟨h2, h3⟩ : okSet q_aSet = true ∧ okAsm q_aSet q_aA = true := (by simpa using h1); have hl := asm_len500 h3; have hg := okSet_len h2; by_cases h0 : q_aA.Tiles.length = 0
  · have r1 : TileSharesR q_aSet q_aA = [] := (by unfold TileSharesR; rw [if_pos h1, if_pos h0]); have r2 : TileSharesC q_aSet q_aA = 3 := (by unfold TileSharesC; rw [if_pos h1, if_pos h0]); refine call_leA (v_tiledCode q_aSet q_aA ha hn) (by simp -implicitDefEqProofs (disch := omega) only [go_sem, ↓reduceIte, deep, TD.rows, immLL_rI, immLL_rB8, immLL_rS, immLL_rBo, immLL_rII, h1, h0, Int.natCast_zero, Int.natCast_one, Int.cast_ofNat_Int, Int.ofNat_le, Int.toNat_zero, Nat.sub_zero, Int.le_refl, Int.reduceLT, Int.reduceLE, Int.reduceEq, Int.reduceAdd, Int.reduceSub, Int.reduceMul, Int.reduceToNat, Int.reduceNeg, decide_false, Bool.not_false, r1, r2]; exact rfl) (by repeat (first | exact leL_nil | refine leL_cons ?_ ?_ | exact le_of_eq rfl | exact le_iptrN (leL_of_eq rfl) | refine le_agg ?_ | exact le_slf rfl (TD.rows ..) | refine le_iptr ?_ | refine le_fn ?_ ?_)) (by first | exact .inl rfl | exact .inr rfl | exact .inl (by simp only [D.noImm, noImmL, go_sem, TD.nims, TD.nim, nim_rI, nim_rB8, nim_rBo, nim_rS])) ?_; simp -implicitDefEqProofs (disch := omega) only [go_sem, ↓reduceIte , h1, h0, Int.natCast_zero, Int.natCast_one, Int.cast_ofNat_Int, Int.ofNat_le, Int.toNat_zero, Nat.sub_zero, Int.le_refl, Int.reduceLT, Int.reduceLE, Int.reduceEq, Int.reduceAdd, Int.reduceSub, Int.reduceMul, Int.reduceToNat, Int.reduceNeg, decide_false, Bool.not_false, r1, r2]
  · have r1 : TileSharesR q_aSet q_aA = (cntsT q_aSet.Tiles.length q_aA.Tiles).map (shF q_aA.Tiles.length) := (by unfold TileSharesR; rw [if_pos h1, if_neg h0]); have r2 : TileSharesC q_aSet q_aA = 0 := (by unfold TileSharesC; rw [if_pos h1, if_neg h0]); have hcl := cntsT_len q_aSet.Tiles.length q_aA.Tiles; rw [r1, r2]; refine call_leA (v_tiledCode q_aSet q_aA ha hn) (by simp -implicitDefEqProofs (disch := omega) only [go_sem, ↓reduceIte, deep, TD.rows, immLL_rI, immLL_rB8, immLL_rS, immLL_rBo, immLL_rII, h1, h0, decide_true, Bool.not_true]; exact rfl) (by repeat (first | exact leL_nil | refine leL_cons ?_ ?_ | exact le_of_eq rfl | exact le_iptrN (leL_of_eq rfl) | refine le_agg ?_ | exact le_slf rfl (TD.rows ..) | refine le_iptr ?_ | refine le_fn ?_ ?_)) (by first | exact .inl rfl | exact .inr rfl | exact .inl (by simp only [D.noImm, noImmL, go_sem, TD.nims, TD.nim, nim_rI, nim_rB8, nim_rBo, nim_rS])) ?_; simp -implicitDefEqProofs (disch := omega) only [go_sem, ↓reduceIte , h1, h0, decide_true, Bool.not_true]; refine call_leA (v_CountTiles q_aSet q_aA ha hn h2 h3) (by simp -implicitDefEqProofs (disch := omega) only [go_sem, ↓reduceIte, deep, TD.rows, immLL_rI, immLL_rB8, immLL_rS, immLL_rBo, immLL_rII, List.length_map, hcl]; exact rfl) (by repeat (first | exact leL_nil | refine leL_cons ?_ ?_ | exact le_of_eq rfl | exact le_iptrN (leL_of_eq rfl) | refine le_agg ?_ | exact le_slf rfl (TD.rows ..) | refine le_iptr ?_ | refine le_fn ?_ ?_)) (by first | exact .inl rfl | exact .inr rfl | exact .inl (by simp only [D.noImm, noImmL, go_sem, TD.nims, TD.nim, nim_rI, nim_rB8, nim_rBo, nim_rS])) ?_; simp -implicitDefEqProofs (disch := omega) only [go_sem, ↓reduceIte , List.length_map, hcl]; refine loop_ov (by simp -implicitDefEqProofs (disch := omega) only [go_sem, ↓reduceIte]; exact rfl) (fun i : Nat => [(28, .v (.int .i64 (i : Nat))), (9, .sl true 2 ((((cntsT q_aSet.Tiles.length q_aA.Tiles).take i).map (shF q_aA.Tiles.length)).map (Frac.td.d true)))]) (fun _ => by simp only [ovr_nil, ovr_cons, List.set_cons_zero, List.set_cons_succ]; exact rfl) (fun i : Nat => i ≤ q_aSet.Tiles.length) (fun i : Nat => q_aSet.Tiles.length - i) (0) (by (try simp -implicitDefEqProofs only [nleL_cc, nleL_nn, nle_self, nle_boxs, nle_aggs, nle_nils, and_self, and_true, true_and]) <;> repeat' (first | exact nle_of_eq rfl | exact nle_nil | apply And.intro | apply nle_sl | apply nleLL_cons | apply nleL_cons | exact nleL_nil | exact nleLL_nil | apply nle_box | apply nle_agg)) (Nat.zero_le _) ?_; intro i hi; simp -implicitDefEqProofs (disch := omega) only [go_sem, ↓reduceIte , List.length_map, Int.toNat_natCast, Int.ofNat_lt, Int.natCast_nonneg, List.getElem?_map, Option.map_some]; refine cond_split ?_ ?_ <;> intro hlt
    · have hlt : i < q_aSet.Tiles.length := (by simpa using hlt); have hlc : i < (cntsT q_aSet.Tiles.length q_aA.Tiles).length := (by rw [hcl]; exact hlt); have e1 := List.getElem?_eq_getElem hlc; have hci := cntsT_in q_aSet.Tiles.length q_aA.Tiles _ (List.getElem_mem hlc); obtain ⟨m, hm⟩ : ∃ m : Nat, (cntsT q_aSet.Tiles.length q_aA.Tiles)[i] = (m : Int) := ⟨(cntsT q_aSet.Tiles.length q_aA.Tiles)[i].toNat, by omega⟩
      have hnx := sh_next q_aA.Tiles.length hlc; unfold shF at hnx; rw [hm, Int.toNat_natCast] at hnx; rw [Frac.td_d true (fracN m q_aA.Tiles.length)] at hnx; simp -implicitDefEqProofs (disch := omega) only [go_sem, ↓reduceIte , List.length_map, Int.toNat_natCast, Int.ofNat_lt, Int.natCast_nonneg, List.getElem?_map, Option.map_some, hlt, hcl, e1, hm]; refine call_leA (v_MakeFrac m q_aA.Tiles.length (by omega) (by omega) (by omega)) (by simp -implicitDefEqProofs (disch := omega) only [go_sem, ↓reduceIte, deep, TD.rows, immLL_rI, immLL_rB8, immLL_rS, immLL_rBo, immLL_rII, lkF_tup, Frac.td_d, List.length_map, List.length_take, hcl, wrN]; exact rfl) (by repeat (first | exact leL_nil | refine leL_cons ?_ ?_ | exact le_of_eq rfl | exact le_iptrN (leL_of_eq rfl) | refine le_agg ?_ | exact le_slf rfl (TD.rows ..) | refine le_iptr ?_ | refine le_fn ?_ ?_)) (by first | exact .inl rfl | exact .inr rfl | exact .inl (by simp only [D.noImm, noImmL, go_sem, TD.nims, TD.nim, nim_rI, nim_rB8, nim_rBo, nim_rS])) ?_; simp -implicitDefEqProofs (disch := omega) only [go_sem, ↓reduceIte , lkF_tup, Frac.td_d, List.length_map, List.length_take, hcl, wrN]; refine ⟨by omega, i + 1, by omega, hlt, ?_⟩; unfold shF; rw [← hnx]
      (try simp -implicitDefEqProofs only [nleL_cc, nleL_nn, nle_self, nle_boxs, nle_aggs, nle_nils, and_self, and_true, true_and]) <;> repeat' (first | exact nle_of_eq rfl | exact nle_nil | apply And.intro | apply nle_sl | apply nleLL_cons | apply nleL_cons | exact nleL_nil | exact nleLL_nil | apply nle_box | apply nle_agg)
    · obtain rfl : i = q_aSet.Tiles.length := (by have : ¬ i < q_aSet.Tiles.length := (by simpa using hlt); omega); have ht : (cntsT q_aSet.Tiles.length q_aA.Tiles).take q_aSet.Tiles.length = cntsT q_aSet.Tiles.length q_aA.Tiles := List.take_of_length_le (by omega); simp -implicitDefEqProofs (disch := omega) only [go_sem, ↓reduceIte , ht]
set_option maxHeartbeats 2000000 in
theorem vTileShares_spec (q_aSet : TileSet) (q_aSet_ok : TileSet.td.ok q_aSet) (q_aSet_n : TileSet.cnt q_aSet ≤ 1048576) (q_aA : Assembly) (q_aA_ok : Assembly.td.ok q_aA) (q_aA_n : Assembly.cnt q_aA ≤ 1048576) : Contract Try.prog NoG 34 [.agg (TileSet.td.d false q_aSet), .agg (Assembly.td.d false q_aA)] (.tup [.sl true 2 ((TileSharesR q_aSet q_aA).map (Frac.td.d true)), .v (.int .i64 (TileSharesC q_aSet q_aA))]) := by
  have ha := setB_of q_aSet_n; have hn := asm_len q_aA_n; rw [TileSet.td_d, Assembly.td_d]; refine law_spec_TileShares ?_; unfold code_spec_TileShares; simp -implicitDefEqProofs (disch := omega) only [go_sem, ↓reduceIte]; cases h1 : okSet q_aSet && okAsm q_aSet q_aA with
  | false => have r1 : TileSharesR q_aSet q_aA = [] := (by unfold TileSharesR; rw [h1]; rfl); have r2 : TileSharesC q_aSet q_aA = 1 := (by unfold TileSharesC; rw [h1]; rfl); refine call_leA (v_l06Asked q_aSet q_aA ha hn) (by simp -implicitDefEqProofs (disch := omega) only [go_sem, ↓reduceIte, deep, TD.rows, immLL_rI, immLL_rB8, immLL_rS, immLL_rBo, immLL_rII, h1, Int.natCast_zero, Int.natCast_one, Int.cast_ofNat_Int, Int.ofNat_le, Int.toNat_zero, Nat.sub_zero, Int.le_refl, Int.reduceLT, Int.reduceLE, Int.reduceEq, Int.reduceAdd, Int.reduceSub, Int.reduceMul, Int.reduceToNat, Int.reduceNeg, decide_false, Bool.not_false, r1, r2]; exact rfl) (by repeat (first | exact leL_nil | refine leL_cons ?_ ?_ | exact le_of_eq rfl | exact le_iptrN (leL_of_eq rfl) | refine le_agg ?_ | exact le_slf rfl (TD.rows ..) | refine le_iptr ?_ | refine le_fn ?_ ?_)) (by first | exact .inl rfl | exact .inr rfl | exact .inl (by simp only [D.noImm, noImmL, go_sem, TD.nims, TD.nim, nim_rI, nim_rB8, nim_rBo, nim_rS])) ?_; simp -implicitDefEqProofs (disch := omega) only [go_sem, ↓reduceIte , h1, Int.natCast_zero, Int.natCast_one, Int.cast_ofNat_Int, Int.ofNat_le, Int.toNat_zero, Nat.sub_zero, Int.le_refl, Int.reduceLT, Int.reduceLE, Int.reduceEq, Int.reduceAdd, Int.reduceSub, Int.reduceMul, Int.reduceToNat, Int.reduceNeg, decide_false, Bool.not_false, r1, r2]
  | true =>
  obtain ⟨h2, h3⟩ : okSet q_aSet = true ∧ okAsm q_aSet q_aA = true := (by simpa using h1); have hl := asm_len500 h3; have hg := okSet_len h2; by_cases h0 : q_aA.Tiles.length = 0
  · have r1 : TileSharesR q_aSet q_aA = [] := (by unfold TileSharesR; rw [if_pos h1, if_pos h0]); have r2 : TileSharesC q_aSet q_aA = 3 := (by unfold TileSharesC; rw [if_pos h1, if_pos h0]); refine call_leA (v_l06Asked q_aSet q_aA ha hn) (by simp -implicitDefEqProofs (disch := omega) only [go_sem, ↓reduceIte, deep, TD.rows, immLL_rI, immLL_rB8, immLL_rS, immLL_rBo, immLL_rII, h1, h0, Int.natCast_zero, Int.natCast_one, Int.cast_ofNat_Int, Int.ofNat_le, Int.toNat_zero, Nat.sub_zero, Int.le_refl, Int.reduceLT, Int.reduceLE, Int.reduceEq, Int.reduceAdd, Int.reduceSub, Int.reduceMul, Int.reduceToNat, Int.reduceNeg, List.length_map, decide_true, Bool.not_true, r1, r2]; exact rfl) (by repeat (first | exact leL_nil | refine leL_cons ?_ ?_ | exact le_of_eq rfl | exact le_iptrN (leL_of_eq rfl) | refine le_agg ?_ | exact le_slf rfl (TD.rows ..) | refine le_iptr ?_ | refine le_fn ?_ ?_)) (by first | exact .inl rfl | exact .inr rfl | exact .inl (by simp only [D.noImm, noImmL, go_sem, TD.nims, TD.nim, nim_rI, nim_rB8, nim_rBo, nim_rS])) ?_; simp -implicitDefEqProofs (disch := omega) only [go_sem, ↓reduceIte , h1, h0, Int.natCast_zero, Int.natCast_one, Int.cast_ofNat_Int, Int.ofNat_le, Int.toNat_zero, Nat.sub_zero, Int.le_refl, Int.reduceLT, Int.reduceLE, Int.reduceEq, Int.reduceAdd, Int.reduceSub, Int.reduceMul, Int.reduceToNat, Int.reduceNeg, List.length_map, decide_true, Bool.not_true, r1, r2]
  · have r1 : TileSharesR q_aSet q_aA = (cntsT q_aSet.Tiles.length q_aA.Tiles).map (shF q_aA.Tiles.length) := (by unfold TileSharesR; rw [if_pos h1, if_neg h0]); have r2 : TileSharesC q_aSet q_aA = 0 := (by unfold TileSharesC; rw [if_pos h1, if_neg h0]); have hcl := cntsT_len q_aSet.Tiles.length q_aA.Tiles; have d0 : decide ((q_aA.Tiles.length : Int) = 0) = false := (by rw [decide_eq_false_iff_not]; omega); rw [r1, r2]; refine call_leA (v_l06Asked q_aSet q_aA ha hn) (by simp -implicitDefEqProofs (disch := omega) only [go_sem, ↓reduceIte, deep, TD.rows, immLL_rI, immLL_rB8, immLL_rS, immLL_rBo, immLL_rII, h1, Int.natCast_zero, Int.natCast_one, Int.cast_ofNat_Int, Int.ofNat_le, Int.toNat_zero, Nat.sub_zero, Int.le_refl, Int.reduceLT, Int.reduceLE, Int.reduceEq, Int.reduceAdd, Int.reduceSub, Int.reduceMul, Int.reduceToNat, Int.reduceNeg, List.length_map, d0, decide_true, Bool.not_true]; exact rfl) (by repeat (first | exact leL_nil | refine leL_cons ?_ ?_ | exact le_of_eq rfl | exact le_iptrN (leL_of_eq rfl) | refine le_agg ?_ | exact le_slf rfl (TD.rows ..) | refine le_iptr ?_ | refine le_fn ?_ ?_)) (by first | exact .inl rfl | exact .inr rfl | exact .inl (by simp only [D.noImm, noImmL, go_sem, TD.nims, TD.nim, nim_rI, nim_rB8, nim_rBo, nim_rS])) ?_; simp -implicitDefEqProofs (disch := omega) only [go_sem, ↓reduceIte , h1, Int.natCast_zero, Int.natCast_one, Int.cast_ofNat_Int, Int.ofNat_le, Int.toNat_zero, Nat.sub_zero, Int.le_refl, Int.reduceLT, Int.reduceLE, Int.reduceEq, Int.reduceAdd, Int.reduceSub, Int.reduceMul, Int.reduceToNat, Int.reduceNeg, List.length_map, d0, decide_true, Bool.not_true]; refine call_leA (v_l34Counts q_aSet q_aA h2 h3) (by simp -implicitDefEqProofs (disch := omega) only [go_sem, ↓reduceIte, deep, TD.rows, immLL_rI, immLL_rB8, immLL_rS, immLL_rBo, immLL_rII]; exact rfl) (by repeat (first | exact leL_nil | refine leL_cons ?_ ?_ | exact le_of_eq rfl | exact le_iptrN (leL_of_eq rfl) | refine le_agg ?_ | exact le_slf rfl (TD.rows ..) | refine le_iptr ?_ | refine le_fn ?_ ?_)) (by first | exact .inl rfl | exact .inr rfl | exact .inl (by simp only [D.noImm, noImmL, go_sem, TD.nims, TD.nim, nim_rI, nim_rB8, nim_rBo, nim_rS])) ?_; simp -implicitDefEqProofs (disch := omega) only [go_sem, ↓reduceIte]; refine loop_ov (by simp -implicitDefEqProofs (disch := omega) only [go_sem, ↓reduceIte]; exact rfl) (fun i : Nat => [(9, .v (.int .i64 (i : Nat))), (8, .sl true 2 ((((cntsT q_aSet.Tiles.length q_aA.Tiles).take i).map (shF q_aA.Tiles.length)).map (Frac.td.d true)))]) (fun _ => by simp only [ovr_nil, ovr_cons, List.set_cons_zero, List.set_cons_succ]; exact rfl) (fun i : Nat => i ≤ q_aSet.Tiles.length) (fun i : Nat => q_aSet.Tiles.length - i) (0) (by (try simp -implicitDefEqProofs only [nleL_cc, nleL_nn, nle_self, nle_boxs, nle_aggs, nle_nils, and_self, and_true, true_and]) <;> repeat' (first | exact nle_of_eq rfl | exact nle_nil | apply And.intro | apply nle_sl | apply nleLL_cons | apply nleL_cons | exact nleL_nil | exact nleLL_nil | apply nle_box | apply nle_agg)) (Nat.zero_le _) ?_; intro i hi; simp -implicitDefEqProofs (disch := omega) only [go_sem, ↓reduceIte , List.length_map, Int.toNat_natCast, Int.ofNat_lt, Int.natCast_nonneg, List.getElem?_map, Option.map_some, hcl]; refine cond_split ?_ ?_ <;> intro hlt
    · have hlt : i < q_aSet.Tiles.length := (by simpa using hlt); have hlc : i < (cntsT q_aSet.Tiles.length q_aA.Tiles).length := (by rw [hcl]; exact hlt); have e1 := List.getElem?_eq_getElem hlc; have hci := cntsT_in q_aSet.Tiles.length q_aA.Tiles _ (List.getElem_mem hlc); obtain ⟨m, hm⟩ : ∃ m : Nat, (cntsT q_aSet.Tiles.length q_aA.Tiles)[i] = (m : Int) := ⟨(cntsT q_aSet.Tiles.length q_aA.Tiles)[i].toNat, by omega⟩
      have hnx := sh_next q_aA.Tiles.length hlc; unfold shF at hnx; rw [hm, Int.toNat_natCast] at hnx; rw [Frac.td_d true (fracN m q_aA.Tiles.length)] at hnx; simp -implicitDefEqProofs (disch := omega) only [go_sem, ↓reduceIte , List.length_map, Int.toNat_natCast, Int.ofNat_lt, Int.natCast_nonneg, List.getElem?_map, Option.map_some, hlt, hcl, e1, hm]; refine call_leNA (v_l01Make m q_aA.Tiles.length (by omega) (by omega) (by omega)) (by simp -implicitDefEqProofs (disch := omega) only [go_sem, ↓reduceIte, deep, TD.rows, immLL_rI, immLL_rB8, immLL_rS, immLL_rBo, immLL_rII, lkF_tup, Frac.td_d, List.length_map, List.length_take, hcl, wrN]; exact rfl) (by repeat (first | exact leL_nil | refine leL_cons ?_ ?_ | exact le_of_eq rfl | exact le_iptrN (leL_of_eq rfl) | refine le_agg ?_ | exact le_slf rfl (TD.rows ..) | refine le_iptr ?_ | refine le_fn ?_ ?_)) (by first | exact .inl rfl | exact .inr rfl | exact .inl (by simp only [D.noImm, noImmL, go_sem, TD.nims, TD.nim, nim_rI, nim_rB8, nim_rBo, nim_rS])) ?_; simp -implicitDefEqProofs (disch := omega) only [go_sem, ↓reduceIte , lkF_tup, Frac.td_d, List.length_map, List.length_take, hcl, wrN]; refine ⟨by omega, i + 1, by omega, hlt, ?_⟩; unfold shF; rw [← hnx]
      (try simp -implicitDefEqProofs only [nleL_cc, nleL_nn, nle_self, nle_boxs, nle_aggs, nle_nils, and_self, and_true, true_and]) <;> repeat' (first | exact nle_of_eq rfl | exact nle_nil | apply And.intro | apply nle_sl | apply nleLL_cons | apply nleL_cons | exact nleL_nil | exact nleLL_nil | apply nle_box | apply nle_agg)
    · obtain rfl : i = q_aSet.Tiles.length := (by have : ¬ i < q_aSet.Tiles.length := (by simpa using hlt); omega); have ht : (cntsT q_aSet.Tiles.length q_aA.Tiles).take q_aSet.Tiles.length = cntsT q_aSet.Tiles.length q_aA.Tiles := List.take_of_length_le (by omega); simp -implicitDefEqProofs (disch := omega) only [go_sem, ↓reduceIte , ht]
def decAcc : Nat → Nat → ByteArray → ByteArray
  | 0, _, out => out
  | f + 1, n, out => if n = 0 then out else decAcc f (n / 10) (strI [((48 + n % 10 : Nat) : Int)] ++ out)
def markT (k : Int) : ByteArray := if k ≤ 0 then ⟨⟨[109, 48]⟩⟩ else ⟨⟨[109]⟩⟩ ++ decAcc 20 k.toNat ⟨⟨[]⟩⟩
theorem decAcc_zero (f : Nat) (out : ByteArray) : decAcc f 0 out = out := by cases f <;> rfl
theorem strI_size (xs : List Int) : (strI xs).size = xs.length := by unfold strI; simp [ByteArray.size]
theorem decAcc_size : ∀ (f n : Nat) (out : ByteArray), (decAcc f n out).size ≤ f + out.size
  | 0, _, out => by simp [decAcc]
  | f + 1, n, out => by
    unfold decAcc; split
    · omega
    · have := decAcc_size f (n / 10) (strI [((48 + n % 10 : Nat) : Int)] ++ out); rw [ByteArray.size_append, strI_size] at this; simp only [List.length_cons, List.length_nil] at this; omega
theorem markT_size (k : Int) : (markT k).size ≤ maxLen := by
  unfold markT maxLen; split
  · decide
  · rw [ByteArray.size_append]; have := decAcc_size 20 k.toNat ⟨⟨[]⟩⟩
    have h0 : (⟨⟨[]⟩⟩ : ByteArray).size = 0 := rfl; have h1 : (⟨⟨[109]⟩⟩ : ByteArray).size = 1 := rfl; omega
def code_laws_markText : VCode := (.seq (.ops [
  ⟨(some 2), none, (.asg (.const (.string ⟨⟨[]⟩⟩)))⟩]) (.seq (.seq (.ops [
  ⟨(some 4), none, (.mv (.tmp 0))⟩,
  ⟨(some 5), none, (.bin .leq (.tmp 4) (.const (.int .i64 0)))⟩]) (.cond (.tmp 5) (.seq (.ops [
  ⟨(some 2), none, (.asg (.const (.string ⟨⟨[109, 48]⟩⟩)))⟩]) .ret) .skip)) (.seq (.ops [
  ⟨(some 3), none, (.asg (.const (.string ⟨⟨[]⟩⟩)))⟩]) (.seq (.block 0 (.loop (mB 20 1048566) (.seq (.seq (.ops [
  ⟨(some 6), none, (.mv (.tmp 0))⟩,
  ⟨(some 7), none, (.bin .gtr (.tmp 6) (.const (.int .i64 0)))⟩]) (.cond (.tmp 7) .skip (.exit 0))) (.block 1 (.seq (.ops [
  ⟨(some 8), none, (.mv (.tmp 0))⟩,
  ⟨(some 9), none, (.bin .rem (.tmp 8) (.const (.int .i64 10)))⟩,
  ⟨(some 10), none, (.bin .add (.const (.int .i64 48)) (.tmp 9))⟩,
  ⟨(some 11), none, (.conv .u8 (.tmp 10))⟩,
  ⟨(some 12), none, (.bsl 1 [(.tmp 11)])⟩,
  ⟨(some 13), none, (.b2s (.tmp 12))⟩,
  ⟨(some 14), none, (.mv (.tmp 3))⟩,
  ⟨(some 15), none, (.bin .add (.tmp 13) (.tmp 14))⟩,
  ⟨(some 3), none, (.asg (.tmp 15))⟩]) (.ops [
  ⟨(some 16), none, (.mv (.tmp 0))⟩,
  ⟨(some 17), none, (.bin .quo (.tmp 16) (.const (.int .i64 10)))⟩,
  ⟨(some 0), none, (.asg (.tmp 17))⟩])))))) (.seq (.ops [
  ⟨(some 18), none, (.mv (.tmp 3))⟩,
  ⟨(some 19), none, (.bin .add (.const (.string ⟨⟨[109]⟩⟩)) (.tmp 18))⟩,
  ⟨(some 2), none, (.asg (.tmp 19))⟩]) .ret)))))
theorem law_laws_markText {a0 d : D} (h : code_laws_markText.wp (CT Try.prog NoG) (endQ [(.t 2)] d) [a0, .undef, .undef, .undef, .undef, .undef, .undef, .undef, .undef, .undef, .undef, .undef, .undef, .undef, .undef, .undef, .undef, .undef, .undef, .undef]) : Contract Try.prog NoG 131 [a0] d :=
  contract_of noG Try.func131 (fun us W => by kernel_rfl) (c := Try.f131.body.getD .skip) (ms := [(mB 20 1048566)]) (ms' := []) (by kernel_rfl) (by kernel_rfl) (by kernel_rfl) h
theorem v_markText (k : Int) (hk : k ≤ 4611686018427387904) : Contract Try.prog NoG 131 [.v (.int .i64 k)] (.v (.string (markT k))) := by
  refine law_laws_markText ?_; unfold code_laws_markText; simp -implicitDefEqProofs (disch := omega) only [go_sem, ↓reduceIte]; refine cond_split ?_ ?_ <;> intro h
  · have h : k ≤ 0 := of_decide_eq_true h; simp -implicitDefEqProofs (disch := omega) only [go_sem, ↓reduceIte]; unfold markT; rw [if_pos h]
  · have h : ¬ k ≤ 0 := of_decide_eq_false h; obtain ⟨n, rfl⟩ : ∃ n : Nat, k = (n : Int) := ⟨k.toNat, by omega⟩
    have hm : markT (n : Int) = ⟨⟨[109]⟩⟩ ++ decAcc 20 n ⟨⟨[]⟩⟩ := (by unfold markT; rw [if_neg h]; rfl); simp -implicitDefEqProofs (disch := omega) only [go_sem, ↓reduceIte]; refine loop_st (fun z : Nat × ByteArray => [.v (.int .i64 z.1), .undef, .undef, .v (.string z.2), .undef, .undef, .undef, .undef, .undef, .undef, .undef, .undef, .undef, .undef, .undef, .undef, .undef, .undef, .undef, .undef]) (fun z => z.1 ≤ n ∧ ∃ f, z.1 < 10 ^ f ∧ f + z.2.size ≤ 20 ∧ decAcc f z.1 z.2 = decAcc 20 n ⟨⟨[]⟩⟩) (fun z => z.1) (n, ⟨⟨[]⟩⟩) (by (try simp -implicitDefEqProofs only [nleL_cc, nleL_nn, nle_self, nle_boxs, nle_aggs, nle_nils, and_self, and_true, true_and]) <;> repeat' (first | exact nle_of_eq rfl | exact nle_nil | apply And.intro | apply nle_sl | apply nleLL_cons | apply nleL_cons | exact nleL_nil | exact nleLL_nil | apply nle_box | apply nle_agg)) ⟨Nat.le_refl _, 20, by simp only; omega, by simp only; exact Nat.le_refl 20, rfl⟩ ?_; rintro ⟨m, out⟩ ⟨hmn, f, hf, hs, hd⟩; simp only at hmn hf hs hd; simp -implicitDefEqProofs (disch := omega) only [go_sem, ↓reduceIte]; refine cond_split ?_ ?_ <;> intro hp
    · have hp : 0 < m := (by have := of_decide_eq_true hp; omega); cases f with
      | zero => simp at hf; omega
      | succ f =>
        have e1 : ((m : Nat) : Int).tmod 10 = ((m % 10 : Nat) : Int) := rfl; have e2 : IntKind.i64.wrap (48 + ((m % 10 : Nat) : Int)) = ((48 + m % 10 : Nat) : Int) := (by rw [wrI (by omega) (by omega)]; simp); have e3 : IntKind.u8.wrap ((48 + m % 10 : Nat) : Int) = ((48 + m % 10 : Nat) : Int) := IntWalk.u8_in _ (by omega); have e4 : IntKind.i64.wrap (((m : Nat) : Int).tdiv 10) = ((m / 10 : Nat) : Int) := (by rw [show ((m : Nat) : Int).tdiv 10 = ((m / 10 : Nat) : Int) from rfl, wrI (by omega) (by omega)]); simp -implicitDefEqProofs (disch := omega) only [go_sem, ↓reduceIte , e1, e2, e3]; refine And.intro (by omega) ?_; refine ⟨[((48 + m % 10 : Nat) : Int)], rfl, ?_⟩; simp -implicitDefEqProofs (disch := omega) only [go_sem, ↓reduceIte , e4]; refine And.intro (by rw [strI_size]; unfold maxLen; simp only [List.length_cons, List.length_nil]; omega) ?_; refine And.intro (by omega) ?_; refine ⟨(m / 10, strI [((48 + m % 10 : Nat) : Int)] ++ out), by simp only; omega, ⟨by simp only; omega, f, ?_, ?_, ?_⟩, by (try simp -implicitDefEqProofs only [nleL_cc, nleL_nn, nle_self, nle_boxs, nle_aggs, nle_nils, and_self, and_true, true_and]) <;> repeat' (first | exact nle_of_eq rfl | exact nle_nil | apply And.intro | apply nle_sl | apply nleLL_cons | apply nleL_cons | exact nleL_nil | exact nleLL_nil | apply nle_box | apply nle_agg)⟩
        · simp only; rw [Nat.pow_succ] at hf; omega
        · simp only; rw [ByteArray.size_append, strI_size]; simp only [List.length_cons, List.length_nil]; omega
        · rw [← hd]; simp only [decAcc]; rw [if_neg (by omega)]
    · have hp : m = 0 := (by have := of_decide_eq_false hp; omega); subst hp; rw [decAcc_zero] at hd; simp -implicitDefEqProofs (disch := omega) only [go_sem, ↓reduceIte]; refine And.intro (by unfold maxLen; show 1 + out.size ≤ _; omega) ?_; rw [hm, hd]
theorem markText_any (k : Int) (w : World) (hk : k ≤ 4611686018427387904) : Calls Try.prog 131 #[.int .i64 k] w fun e w' => e = .returned (.string (markT k)) ∧ Below w.heap.size w w' := by refine (Contract.at (us := [.int .i64 k]) (v_markText k hk) trivial (Nat.le_refl _) (vals_cons (vals_v _) vals_nil)).mono ?_; rintro e w' ⟨⟨v, I, F, rfl, hT, _, _⟩, hb⟩; simp only [T] at hT; exact ⟨by rw [hT.1], hb⟩
def code_laws_toGlue : VCode := (.seq (.ops [
  ⟨(some 1), none, (.box (.tmp 0))⟩,
  ⟨(some 2), none, (.alloc [(.string ⟨⟨[]⟩⟩), (.int .i64 0)])⟩]) (.seq (.ops [
  ⟨(some 3), none, (.alloc [(.string ⟨⟨[]⟩⟩), (.int .i64 0)])⟩]) (.seq (.ops [
  ⟨(some 4), none, (.fa 0 (.tmp 1))⟩,
  ⟨(some 5), none, (.load 1 false (.tmp 4))⟩,
  ⟨(some 6), none, (.fa 0 (.tmp 3))⟩,
  ⟨none, none, (.store 1 (.tmp 6) (.tmp 5))⟩]) (.seq (.ops [
  ⟨(some 7), none, (.fa 1 (.tmp 1))⟩,
  ⟨(some 8), none, (.load 1 false (.tmp 7))⟩,
  ⟨(some 9), none, (.fa 1 (.tmp 3))⟩,
  ⟨none, none, (.store 1 (.tmp 9) (.tmp 8))⟩]) (.seq (.ops [
  ⟨(some 10), none, (.load 2 true (.tmp 3))⟩,
  ⟨none, none, (.store 2 (.tmp 2) (.tmp 10))⟩]) .ret)))))
theorem law_laws_toGlue {a0 d : D} (h : code_laws_toGlue.wp (CT Try.prog NoG) (endQ [(.c 2 2 true)] d) [a0, .undef, .undef, .undef, .undef, .undef, .undef, .undef, .undef, .undef, .undef]) : Contract Try.prog NoG 101 [a0] d :=
  contract_of noG Try.func101 (fun us W => by kernel_rfl) (c := Try.f101.body.getD .skip) (ms := []) (ms' := []) (by kernel_rfl) (by kernel_rfl) (by kernel_rfl) h
set_option maxHeartbeats 2000000 in
theorem v_toGlue (q : Glue) (hn : Glue.cnt q ≤ 1048576) : Contract Try.prog NoG 101 [.agg (Glue.td.d false q)] (.agg (Glue.td.d true q)) := by rw [Glue.td_d, Glue.td_d]; refine law_laws_toGlue ?_; unfold code_laws_toGlue; have hn0 := hn; unfold Glue.cnt at hn; simp -implicitDefEqProofs (disch := omega) only [go_sem, ↓reduceIte]
def code_laws_toGlueS : VCode := (.seq (.ops [
  ⟨(some 2), none, (.asg (.const (.slice none 0 0)))⟩]) (.seq (.ops [
  ⟨(some 5), none, (.mv (.tmp 0))⟩,
  ⟨(some 6), none, (.len (.tmp 5))⟩,
  ⟨(some 7), none, (.mks 2 24 [(.string ⟨⟨[]⟩⟩), (.int .i64 0)] (.tmp 6) (.tmp 6))⟩,
  ⟨(some 3), none, (.asg (.tmp 7))⟩]) (.seq (.seq (.ops [
  ⟨(some 4), none, (.asg (.const (.int .i64 0)))⟩]) (.block 0 (.loop (mB 23 8388454) (.seq (.seq (.ops [
  ⟨(some 8), none, (.mv (.tmp 4))⟩,
  ⟨(some 9), none, (.mv (.tmp 0))⟩,
  ⟨(some 10), none, (.len (.tmp 9))⟩,
  ⟨(some 11), none, (.bin .lss (.tmp 8) (.tmp 10))⟩]) (.cond (.tmp 11) .skip (.exit 0))) (.seq (.block 1 (.ops [
  ⟨(some 14), none, (.mv (.tmp 3))⟩,
  ⟨(some 15), none, (.mv (.tmp 4))⟩,
  ⟨(some 16), none, (.mv (.tmp 0))⟩,
  ⟨(some 17), none, (.mv (.tmp 4))⟩,
  ⟨(some 18), none, (.ia 2 (.tmp 16) (.tmp 17))⟩,
  ⟨(some 19), none, (.load 2 true (.tmp 18))⟩,
  ⟨(some 20), none, (.callX 101 [(.tmp 19)])⟩,
  ⟨(some 21), none, (.ia 2 (.tmp 14) (.tmp 15))⟩,
  ⟨none, none, (.store 2 (.tmp 21) (.tmp 20))⟩])) (.ops [
  ⟨(some 12), none, (.mv (.tmp 4))⟩,
  ⟨(some 13), none, (.bin .add (.tmp 12) (.const (.int .i64 1)))⟩,
  ⟨(some 4), none, (.asg (.tmp 13))⟩])))))) (.seq (.ops [
  ⟨(some 22), none, (.mv (.tmp 3))⟩,
  ⟨(some 2), none, (.asg (.tmp 22))⟩]) .ret))))
theorem law_laws_toGlueS {a0 d : D} (h : code_laws_toGlueS.wp (CT Try.prog NoG) (endQ [(.t 2)] d) [a0, .undef, .undef, .undef, .undef, .undef, .undef, .undef, .undef, .undef, .undef, .undef, .undef, .undef, .undef, .undef, .undef, .undef, .undef, .undef, .undef, .undef, .undef]) : Contract Try.prog NoG 53 [a0] d :=
  contract_of noG Try.func53 (fun us W => by kernel_rfl) (c := Try.f53.body.getD .skip) (ms := [(mB 23 8388454)]) (ms' := []) (by kernel_rfl) (by kernel_rfl) (by kernel_rfl) h
set_option maxHeartbeats 2000000 in
theorem v_toGlueS (xs : List Glue) (hn : cntL Glue.cnt xs ≤ 1048576) : Contract Try.prog NoG 53 [.sl false 2 (xs.map (Glue.td.d false))] (.sl true 2 (xs.map (Glue.td.d true))) := by
  have hl : xs.length ≤ 1048576 := (by have := cntL_len Glue.cnt xs; omega); refine law_laws_toGlueS ?_; unfold code_laws_toGlueS; simp -implicitDefEqProofs (disch := omega) only [go_sem, ↓reduceIte , List.length_map, Int.toNat_natCast]; refine ⟨by omega, by omega, by omega, ?_⟩; refine loop_st (fun k : Nat => [.sl false 2 (xs.map (Glue.td.d false)), .undef, .undef, .sl true 2 ((xs.take k).map (Glue.td.d true) ++ List.replicate (xs.length - k) [D.v (.string ⟨⟨[]⟩⟩), D.v (.int .i64 0)]), .v (.int .i64 k), .undef, .undef, .undef, .undef, .undef, .undef, .undef, .undef, .undef, .undef, .undef, .undef, .undef, .undef, .undef, .undef, .undef, .undef]) (fun k => k ≤ xs.length) (fun k => xs.length - k) 0 (by (try simp -implicitDefEqProofs only [nleL_cc, nleL_nn, nle_self, nle_boxs, nle_aggs, nle_nils, and_self, and_true, true_and]) <;> repeat' (first | exact nle_of_eq rfl | exact nle_nil | apply And.intro | apply nle_sl | apply nleLL_cons | apply nleL_cons | exact nleL_nil | exact nleLL_nil | apply nle_box | apply nle_agg)) (Nat.zero_le _) ?_; intro k hk; simp -implicitDefEqProofs (disch := omega) only [go_sem, ↓reduceIte , List.length_map, Int.toNat_natCast, Int.ofNat_lt, Int.natCast_nonneg, List.getElem?_map, Option.map_some]; refine cond_split ?_ ?_ <;> intro hlt
  · have hlt : k < xs.length := (by simpa using hlt); have e1 := List.getElem?_eq_getElem hlt; have g1 := fill_len xs (Glue.td.d true) [D.v (.string ⟨⟨[]⟩⟩), D.v (.int .i64 0)] k; have g2 := fill_at xs (Glue.td.d true) [D.v (.string ⟨⟨[]⟩⟩), D.v (.int .i64 0)] k hlt; have g3 := fill_next xs (Glue.td.d true) [D.v (.string ⟨⟨[]⟩⟩), D.v (.int .i64 0)] k hlt; have g4 : k < ((xs.take k).map (Glue.td.d true) ++ List.replicate (xs.length - k) [D.v (.string ⟨⟨[]⟩⟩), D.v (.int .i64 0)]).length := (by rw [g1]; exact hlt); have hm := cntL_mem Glue.cnt xs k hlt; simp -implicitDefEqProofs (disch := omega) only [go_sem, ↓reduceIte , List.length_map, Int.toNat_natCast, Int.ofNat_lt, Int.natCast_nonneg, List.getElem?_map, Option.map_some, hlt, e1, g1, g2, List.set_set, List.getElem?_set_self g4, wrN, Glue.td_d]; refine call_leA (v_toGlue xs[k] (by omega)) (by simp -implicitDefEqProofs (disch := omega) only [go_sem, ↓reduceIte, deep, TD.rows, immLL_rI, immLL_rB8, immLL_rS, immLL_rBo, immLL_rII, List.length_map, Int.toNat_natCast, Int.ofNat_lt, Int.natCast_nonneg, List.getElem?_map, Option.map_some, hlt, e1, g1, g2, List.set_set, List.getElem?_set_self g4, wrN, Glue.td_d]; exact rfl) (by repeat (first | exact leL_nil | refine leL_cons ?_ ?_ | exact le_of_eq rfl | exact le_iptrN (leL_of_eq rfl) | refine le_agg ?_ | exact le_slf rfl (TD.rows ..) | refine le_iptr ?_ | refine le_fn ?_ ?_)) (by first | exact .inl rfl | exact .inr rfl | exact .inl (by simp only [D.noImm, noImmL, go_sem, TD.nims, TD.nim, nim_rI, nim_rB8, nim_rBo, nim_rS])) ?_; simp -implicitDefEqProofs (disch := omega) only [go_sem, ↓reduceIte , List.length_map, Int.toNat_natCast, Int.ofNat_lt, Int.natCast_nonneg, List.getElem?_map, Option.map_some, hlt, e1, g1, g2, List.set_set, List.getElem?_set_self g4, wrN, Glue.td_d]; refine ⟨k + 1, by omega, hlt, ?_⟩; rw [← g3]; rw [Glue.td_d]
    (try simp -implicitDefEqProofs only [nleL_cc, nleL_nn, nle_self, nle_boxs, nle_aggs, nle_nils, and_self, and_true, true_and]) <;> repeat' (first | exact nle_of_eq rfl | exact nle_nil | apply And.intro | apply nle_sl | apply nleLL_cons | apply nleL_cons | exact nleL_nil | exact nleLL_nil | apply nle_box | apply nle_agg)
  · have hge : k = xs.length := (by have : ¬ k < xs.length := (by simpa using hlt); omega); subst hge; simp -implicitDefEqProofs (disch := omega) only [go_sem, ↓reduceIte , fill_end]
def code_laws_toTile : VCode := (.seq (.ops [
  ⟨(some 1), none, (.box (.tmp 0))⟩,
  ⟨(some 2), none, (.alloc [(.string ⟨⟨[]⟩⟩), (.slice none 0 0)])⟩]) (.seq (.ops [
  ⟨(some 3), none, (.alloc [(.string ⟨⟨[]⟩⟩), (.slice none 0 0)])⟩]) (.seq (.ops [
  ⟨(some 4), none, (.fa 0 (.tmp 1))⟩,
  ⟨(some 5), none, (.load 1 false (.tmp 4))⟩,
  ⟨(some 6), none, (.fa 0 (.tmp 3))⟩,
  ⟨none, none, (.store 1 (.tmp 6) (.tmp 5))⟩]) (.seq (.ops [
  ⟨(some 7), none, (.fa 1 (.tmp 1))⟩,
  ⟨(some 8), none, (.load 1 false (.tmp 7))⟩,
  ⟨(some 9), none, (.callX 15 [(.tmp 8)])⟩,
  ⟨(some 10), none, (.fa 1 (.tmp 3))⟩,
  ⟨none, none, (.store 1 (.tmp 10) (.tmp 9))⟩]) (.seq (.ops [
  ⟨(some 11), none, (.load 2 true (.tmp 3))⟩,
  ⟨none, none, (.store 2 (.tmp 2) (.tmp 11))⟩]) .ret)))))
theorem law_laws_toTile {a0 d : D} (h : code_laws_toTile.wp (CT Try.prog NoG) (endQ [(.c 2 2 true)] d) [a0, .undef, .undef, .undef, .undef, .undef, .undef, .undef, .undef, .undef, .undef, .undef]) : Contract Try.prog NoG 102 [a0] d :=
  contract_of noG Try.func102 (fun us W => by kernel_rfl) (c := Try.f102.body.getD .skip) (ms := []) (ms' := []) (by kernel_rfl) (by kernel_rfl) (by kernel_rfl) h
set_option maxHeartbeats 2000000 in
theorem v_toTile (q : Tile) (hn : Tile.cnt q ≤ 1048576) : Contract Try.prog NoG 102 [.agg (Tile.td.d false q)] (.agg (Tile.td.d true q)) := by rw [Tile.td_d, Tile.td_d]; refine law_laws_toTile ?_; unfold code_laws_toTile; have hn0 := hn; unfold Tile.cnt at hn; simp -implicitDefEqProofs (disch := omega) only [go_sem, ↓reduceIte]; refine call_leA (v_toInt64S q.Sides (by omega)) (by simp -implicitDefEqProofs (disch := omega) only [go_sem, ↓reduceIte, deep, TD.rows, immLL_rI, immLL_rB8, immLL_rS, immLL_rBo, immLL_rII]; exact rfl) (by repeat (first | exact leL_nil | refine leL_cons ?_ ?_ | exact le_of_eq rfl | exact le_iptrN (leL_of_eq rfl) | refine le_agg ?_ | exact le_slf rfl (TD.rows ..) | refine le_iptr ?_ | refine le_fn ?_ ?_)) (by first | exact .inl rfl | exact .inr rfl | exact .inl (by simp only [D.noImm, noImmL, go_sem, TD.nims, TD.nim, nim_rI, nim_rB8, nim_rBo, nim_rS])) ?_; simp -implicitDefEqProofs (disch := omega) only [go_sem, ↓reduceIte]
def code_laws_toTileS : VCode := (.seq (.ops [
  ⟨(some 2), none, (.asg (.const (.slice none 0 0)))⟩]) (.seq (.ops [
  ⟨(some 5), none, (.mv (.tmp 0))⟩,
  ⟨(some 6), none, (.len (.tmp 5))⟩,
  ⟨(some 7), none, (.mks 2 40 [(.string ⟨⟨[]⟩⟩), (.slice none 0 0)] (.tmp 6) (.tmp 6))⟩,
  ⟨(some 3), none, (.asg (.tmp 7))⟩]) (.seq (.seq (.ops [
  ⟨(some 4), none, (.asg (.const (.int .i64 0)))⟩]) (.block 0 (.loop (mB 23 8388454) (.seq (.seq (.ops [
  ⟨(some 8), none, (.mv (.tmp 4))⟩,
  ⟨(some 9), none, (.mv (.tmp 0))⟩,
  ⟨(some 10), none, (.len (.tmp 9))⟩,
  ⟨(some 11), none, (.bin .lss (.tmp 8) (.tmp 10))⟩]) (.cond (.tmp 11) .skip (.exit 0))) (.seq (.block 1 (.ops [
  ⟨(some 14), none, (.mv (.tmp 3))⟩,
  ⟨(some 15), none, (.mv (.tmp 4))⟩,
  ⟨(some 16), none, (.mv (.tmp 0))⟩,
  ⟨(some 17), none, (.mv (.tmp 4))⟩,
  ⟨(some 18), none, (.ia 2 (.tmp 16) (.tmp 17))⟩,
  ⟨(some 19), none, (.load 2 true (.tmp 18))⟩,
  ⟨(some 20), none, (.callX 102 [(.tmp 19)])⟩,
  ⟨(some 21), none, (.ia 2 (.tmp 14) (.tmp 15))⟩,
  ⟨none, none, (.store 2 (.tmp 21) (.tmp 20))⟩])) (.ops [
  ⟨(some 12), none, (.mv (.tmp 4))⟩,
  ⟨(some 13), none, (.bin .add (.tmp 12) (.const (.int .i64 1)))⟩,
  ⟨(some 4), none, (.asg (.tmp 13))⟩])))))) (.seq (.ops [
  ⟨(some 22), none, (.mv (.tmp 3))⟩,
  ⟨(some 2), none, (.asg (.tmp 22))⟩]) .ret))))
theorem law_laws_toTileS {a0 d : D} (h : code_laws_toTileS.wp (CT Try.prog NoG) (endQ [(.t 2)] d) [a0, .undef, .undef, .undef, .undef, .undef, .undef, .undef, .undef, .undef, .undef, .undef, .undef, .undef, .undef, .undef, .undef, .undef, .undef, .undef, .undef, .undef, .undef]) : Contract Try.prog NoG 54 [a0] d :=
  contract_of noG Try.func54 (fun us W => by kernel_rfl) (c := Try.f54.body.getD .skip) (ms := [(mB 23 8388454)]) (ms' := []) (by kernel_rfl) (by kernel_rfl) (by kernel_rfl) h
set_option maxHeartbeats 2000000 in
theorem v_toTileS (xs : List Tile) (hn : cntL Tile.cnt xs ≤ 1048576) : Contract Try.prog NoG 54 [.sl false 2 (xs.map (Tile.td.d false))] (.sl true 2 (xs.map (Tile.td.d true))) := by
  have hl : xs.length ≤ 1048576 := (by have := cntL_len Tile.cnt xs; omega); refine law_laws_toTileS ?_; unfold code_laws_toTileS; simp -implicitDefEqProofs (disch := omega) only [go_sem, ↓reduceIte , List.length_map, Int.toNat_natCast]; refine ⟨by omega, by omega, by omega, ?_⟩; refine loop_st (fun k : Nat => [.sl false 2 (xs.map (Tile.td.d false)), .undef, .undef, .sl true 2 ((xs.take k).map (Tile.td.d true) ++ List.replicate (xs.length - k) [D.v (.string ⟨⟨[]⟩⟩), D.nils]), .v (.int .i64 k), .undef, .undef, .undef, .undef, .undef, .undef, .undef, .undef, .undef, .undef, .undef, .undef, .undef, .undef, .undef, .undef, .undef, .undef]) (fun k => k ≤ xs.length) (fun k => xs.length - k) 0 (by (try simp -implicitDefEqProofs only [nleL_cc, nleL_nn, nle_self, nle_boxs, nle_aggs, nle_nils, and_self, and_true, true_and]) <;> repeat' (first | exact nle_of_eq rfl | exact nle_nil | apply And.intro | apply nle_sl | apply nleLL_cons | apply nleL_cons | exact nleL_nil | exact nleLL_nil | apply nle_box | apply nle_agg)) (Nat.zero_le _) ?_; intro k hk; simp -implicitDefEqProofs (disch := omega) only [go_sem, ↓reduceIte , List.length_map, Int.toNat_natCast, Int.ofNat_lt, Int.natCast_nonneg, List.getElem?_map, Option.map_some]; refine cond_split ?_ ?_ <;> intro hlt
  · have hlt : k < xs.length := (by simpa using hlt); have e1 := List.getElem?_eq_getElem hlt; have g1 := fill_len xs (Tile.td.d true) [D.v (.string ⟨⟨[]⟩⟩), D.nils] k; have g2 := fill_at xs (Tile.td.d true) [D.v (.string ⟨⟨[]⟩⟩), D.nils] k hlt; have g3 := fill_next xs (Tile.td.d true) [D.v (.string ⟨⟨[]⟩⟩), D.nils] k hlt; have g4 : k < ((xs.take k).map (Tile.td.d true) ++ List.replicate (xs.length - k) [D.v (.string ⟨⟨[]⟩⟩), D.nils]).length := (by rw [g1]; exact hlt); have hm := cntL_mem Tile.cnt xs k hlt; simp -implicitDefEqProofs (disch := omega) only [go_sem, ↓reduceIte , List.length_map, Int.toNat_natCast, Int.ofNat_lt, Int.natCast_nonneg, List.getElem?_map, Option.map_some, hlt, e1, g1, g2, List.set_set, List.getElem?_set_self g4, wrN, Tile.td_d]; refine call_leA (v_toTile xs[k] (by omega)) (by simp -implicitDefEqProofs (disch := omega) only [go_sem, ↓reduceIte, deep, TD.rows, immLL_rI, immLL_rB8, immLL_rS, immLL_rBo, immLL_rII, List.length_map, Int.toNat_natCast, Int.ofNat_lt, Int.natCast_nonneg, List.getElem?_map, Option.map_some, hlt, e1, g1, g2, List.set_set, List.getElem?_set_self g4, wrN, Tile.td_d]; exact rfl) (by repeat (first | exact leL_nil | refine leL_cons ?_ ?_ | exact le_of_eq rfl | exact le_iptrN (leL_of_eq rfl) | refine le_agg ?_ | exact le_slf rfl (TD.rows ..) | refine le_iptr ?_ | refine le_fn ?_ ?_)) (by first | exact .inl rfl | exact .inr rfl | exact .inl (by simp only [D.noImm, noImmL, go_sem, TD.nims, TD.nim, nim_rI, nim_rB8, nim_rBo, nim_rS])) ?_; simp -implicitDefEqProofs (disch := omega) only [go_sem, ↓reduceIte , List.length_map, Int.toNat_natCast, Int.ofNat_lt, Int.natCast_nonneg, List.getElem?_map, Option.map_some, hlt, e1, g1, g2, List.set_set, List.getElem?_set_self g4, wrN, Tile.td_d]; refine ⟨k + 1, by omega, hlt, ?_⟩; rw [← g3]; rw [Tile.td_d]
    (try simp -implicitDefEqProofs only [nleL_cc, nleL_nn, nle_self, nle_boxs, nle_aggs, nle_nils, and_self, and_true, true_and]) <;> repeat' (first | exact nle_of_eq rfl | exact nle_nil | apply And.intro | apply nle_sl | apply nleLL_cons | apply nleL_cons | exact nleL_nil | exact nleLL_nil | apply nle_box | apply nle_agg)
  · have hge : k = xs.length := (by have : ¬ k < xs.length := (by simpa using hlt); omega); subst hge; simp -implicitDefEqProofs (disch := omega) only [go_sem, ↓reduceIte , fill_end]
def code_laws_toTileSet : VCode := (.seq (.ops [
  ⟨(some 1), none, (.box (.tmp 0))⟩,
  ⟨(some 2), none, (.alloc [(.slice none 0 0), (.slice none 0 0)])⟩]) (.seq (.ops [
  ⟨(some 3), none, (.alloc [(.slice none 0 0), (.slice none 0 0)])⟩]) (.seq (.ops [
  ⟨(some 4), none, (.fa 0 (.tmp 1))⟩,
  ⟨(some 5), none, (.load 1 false (.tmp 4))⟩,
  ⟨(some 6), none, (.callX 53 [(.tmp 5)])⟩,
  ⟨(some 7), none, (.fa 0 (.tmp 3))⟩,
  ⟨none, none, (.store 1 (.tmp 7) (.tmp 6))⟩]) (.seq (.ops [
  ⟨(some 8), none, (.fa 1 (.tmp 1))⟩,
  ⟨(some 9), none, (.load 1 false (.tmp 8))⟩,
  ⟨(some 10), none, (.callX 54 [(.tmp 9)])⟩,
  ⟨(some 11), none, (.fa 1 (.tmp 3))⟩,
  ⟨none, none, (.store 1 (.tmp 11) (.tmp 10))⟩]) (.seq (.ops [
  ⟨(some 12), none, (.load 2 true (.tmp 3))⟩,
  ⟨none, none, (.store 2 (.tmp 2) (.tmp 12))⟩]) .ret)))))
theorem law_laws_toTileSet {a0 d : D} (h : code_laws_toTileSet.wp (CT Try.prog NoG) (endQ [(.c 2 2 true)] d) [a0, .undef, .undef, .undef, .undef, .undef, .undef, .undef, .undef, .undef, .undef, .undef, .undef]) : Contract Try.prog NoG 13 [a0] d :=
  contract_of noG Try.func13 (fun us W => by kernel_rfl) (c := Try.f13.body.getD .skip) (ms := []) (ms' := []) (by kernel_rfl) (by kernel_rfl) (by kernel_rfl) h
set_option maxHeartbeats 2000000 in
theorem v_toTileSet (q : TileSet) (hn : TileSet.cnt q ≤ 1048576) : Contract Try.prog NoG 13 [.agg (TileSet.td.d false q)] (.agg (TileSet.td.d true q)) := by rw [TileSet.td_d, TileSet.td_d]; refine law_laws_toTileSet ?_; unfold code_laws_toTileSet; have hn0 := hn; unfold TileSet.cnt at hn; simp -implicitDefEqProofs (disch := omega) only [go_sem, ↓reduceIte]; refine call_leA (v_toGlueS q.Glues (by omega)) (by simp -implicitDefEqProofs (disch := omega) only [go_sem, ↓reduceIte, deep, TD.rows, immLL_rI, immLL_rB8, immLL_rS, immLL_rBo, immLL_rII]; exact rfl) (by repeat (first | exact leL_nil | refine leL_cons ?_ ?_ | exact le_of_eq rfl | exact le_iptrN (leL_of_eq rfl) | refine le_agg ?_ | exact le_slf rfl (TD.rows ..) | refine le_iptr ?_ | refine le_fn ?_ ?_)) (by first | exact .inl rfl | exact .inr rfl | exact .inl (by simp only [D.noImm, noImmL, go_sem, TD.nims, TD.nim, nim_rI, nim_rB8, nim_rBo, nim_rS])) ?_; simp -implicitDefEqProofs (disch := omega) only [go_sem, ↓reduceIte]; refine call_leA (v_toTileS q.Tiles (by omega)) (by simp -implicitDefEqProofs (disch := omega) only [go_sem, ↓reduceIte, deep, TD.rows, immLL_rI, immLL_rB8, immLL_rS, immLL_rBo, immLL_rII]; exact rfl) (by repeat (first | exact leL_nil | refine leL_cons ?_ ?_ | exact le_of_eq rfl | exact le_iptrN (leL_of_eq rfl) | refine le_agg ?_ | exact le_slf rfl (TD.rows ..) | refine le_iptr ?_ | refine le_fn ?_ ?_)) (by first | exact .inl rfl | exact .inr rfl | exact .inl (by simp only [D.noImm, noImmL, go_sem, TD.nims, TD.nim, nim_rI, nim_rB8, nim_rBo, nim_rS])) ?_; simp -implicitDefEqProofs (disch := omega) only [go_sem, ↓reduceIte]
def code_laws_toPoint : VCode := (.seq (.ops [
  ⟨(some 1), none, (.box (.tmp 0))⟩,
  ⟨(some 2), none, (.alloc [(.int .i64 0), (.int .i64 0)])⟩]) (.seq (.ops [
  ⟨(some 3), none, (.alloc [(.int .i64 0), (.int .i64 0)])⟩]) (.seq (.ops [
  ⟨(some 4), none, (.fa 0 (.tmp 1))⟩,
  ⟨(some 5), none, (.load 1 false (.tmp 4))⟩,
  ⟨(some 6), none, (.fa 0 (.tmp 3))⟩,
  ⟨none, none, (.store 1 (.tmp 6) (.tmp 5))⟩]) (.seq (.ops [
  ⟨(some 7), none, (.fa 1 (.tmp 1))⟩,
  ⟨(some 8), none, (.load 1 false (.tmp 7))⟩,
  ⟨(some 9), none, (.fa 1 (.tmp 3))⟩,
  ⟨none, none, (.store 1 (.tmp 9) (.tmp 8))⟩]) (.seq (.ops [
  ⟨(some 10), none, (.load 2 true (.tmp 3))⟩,
  ⟨none, none, (.store 2 (.tmp 2) (.tmp 10))⟩]) .ret)))))
theorem law_laws_toPoint {a0 d : D} (h : code_laws_toPoint.wp (CT Try.prog NoG) (endQ [(.c 2 2 true)] d) [a0, .undef, .undef, .undef, .undef, .undef, .undef, .undef, .undef, .undef, .undef]) : Contract Try.prog NoG 26 [a0] d :=
  contract_of noG Try.func26 (fun us W => by kernel_rfl) (c := Try.f26.body.getD .skip) (ms := []) (ms' := []) (by kernel_rfl) (by kernel_rfl) (by kernel_rfl) h
set_option maxHeartbeats 2000000 in
theorem v_toPoint (q : Point) : Contract Try.prog NoG 26 [.agg (Point.td.d false q)] (.agg (Point.td.d true q)) := by rw [Point.td_d, Point.td_d]; refine law_laws_toPoint ?_; unfold code_laws_toPoint; simp -implicitDefEqProofs (disch := omega) only [go_sem, ↓reduceIte]
end Go.Proofs.Ytffnoglnpkcjnaa
