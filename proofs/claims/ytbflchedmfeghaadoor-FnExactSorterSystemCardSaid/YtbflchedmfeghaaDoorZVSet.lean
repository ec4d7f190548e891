/- Laws that the proof stands on. -/
import Derived.Test.YtbflchedmfeghaaDoorZg12
import Derived.Test.YtbflchedmfeghaaDoorZg10
import Derived.Test.YtbflchedmfeghaaDoorZg11
import Derived.Test.YtbflchedmfeghaaDoorZVTab
set_option linter.all false
namespace Go.Proofs.YtbflchedmfeghaaDoor
open Go.RowKit Go.V
attribute [local go_sem] List.getElem?_cons_succ List.getElem?_cons_zero List.set_cons_succ List.set_cons_zero List.map_cons List.map_nil List.length_cons List.length_nil List.all_cons List.all_nil List.drop_succ_cons List.drop_zero List.take_succ_cons List.take_zero List.flatMap_cons List.flatMap_nil List.cons_append List.nil_append List.append_nil List.headD_cons Value.oneCell' Bool.and_true Bool.true_and Bool.or_false Bool.false_or Bool.and_self Bool.not_true Bool.not_false and_true true_and beq_self_eq_true Bool.false_eq_true if_true if_false Nat.zero_add Nat.reduceAdd Nat.reduceMul Nat.reduceLeDiff Nat.le_refl Option.isSome_some Option.isSome_none not_true_eq_false not_false_eq_true ne_eq reduceCtorEq List.reverse_nil bne_self_eq_false Nat.reduceEqDiff List.isPrefixOf Bool.not_eq_true Bool.and_false Bool.false_and Bool.true_or Bool.or_true decide_true decide_false Nat.reduceBEq Nat.reduceBNe List.replicate_succ List.replicate_zero exists_eq_left' exists_eq_left Option.some.injEq or_false or_true true_or false_or Option.map_some Option.map_none mB Nat.reduceMod Nat.reduceDiv
set_option maxRecDepth 100000
structure setB (a : TileSet) : Prop where
  g : a.Glues.length ≤ 1048576
  t : a.Tiles.length ≤ 1048576
  gn : ∀ x, x ∈ a.Glues → x.Name.size ≤ 1048576
  tn : ∀ x, x ∈ a.Tiles → x.Name.size ≤ 1048576
  ts : ∀ x, x ∈ a.Tiles → x.Sides.length ≤ 1048576
def gIdx (gs : List Glue) (n : ByteArray) : Int := vIdx (fun g : Glue => decide (g.Name = n)) gs
def tIdx (ts : List Tile) (n : ByteArray) : Int := vIdx (fun t : Tile => decide (t.Name = n)) ts
/-! names in maps -/
theorem getD_some {s : List Int} {k : Nat} (h : k < s.length) : s[k]? = some (s.getD k 0) := by rw [List.getD_eq_getElem?_getD, List.getElem?_eq_getElem h]; rfl
theorem keq_str {a b : ByteArray} : keq (.string a) (.string b) = decide (b = a) := by rw [Bool.eq_iff_iff, decide_eq_true_eq]; show (a == b) = true ↔ b = a; rw [MapKept.bytes_beq]; exact eq_comm
theorem take_next {α : Type} {xs : List α} {i : Nat} (hi : i < xs.length) : xs.take i ++ [xs[i]] = xs.take (i + 1) := (List.take_succ_eq_append_getElem hi).symm
def code_spec_l02Glue : VCode := (.seq (.ops [
  ⟨(some 4), none, (.asg (.const (.int .i64 0)))⟩]) (.seq (.seq (.ops [
  ⟨(some 5), none, (.asg (.const (.int .i64 0)))⟩]) (.block 0 (.loop (mB 27 134217692) (.seq (.seq (.ops [
  ⟨(some 6), none, (.mv (.tmp 5))⟩,
  ⟨(some 7), none, (.mv (.tmp 0))⟩,
  ⟨(some 8), none, (.nilc (.tmp 7))⟩,
  ⟨(some 9), none, (.fa 0 (.tmp 8))⟩,
  ⟨(some 10), none, (.load 1 false (.tmp 9))⟩,
  ⟨(some 11), none, (.len (.tmp 10))⟩,
  ⟨(some 12), none, (.bin .lss (.tmp 6) (.tmp 11))⟩]) (.cond (.tmp 12) .skip (.exit 0))) (.seq (.block 1 (.seq (.ops [
  ⟨(some 15), none, (.mv (.tmp 0))⟩,
  ⟨(some 16), none, (.nilc (.tmp 15))⟩,
  ⟨(some 17), none, (.fa 0 (.tmp 16))⟩,
  ⟨(some 18), none, (.load 1 false (.tmp 17))⟩,
  ⟨(some 19), none, (.mv (.tmp 5))⟩,
  ⟨(some 20), none, (.ia 2 (.tmp 18) (.tmp 19))⟩,
  ⟨(some 21), none, (.fa 0 (.tmp 20))⟩,
  ⟨(some 22), none, (.load 1 false (.tmp 21))⟩,
  ⟨(some 23), none, (.mv (.tmp 1))⟩,
  ⟨(some 24), none, (.bin .eql (.tmp 22) (.tmp 23))⟩]) (.cond (.tmp 24) (.seq (.ops [
  ⟨(some 25), none, (.mv (.tmp 5))⟩,
  ⟨(some 26), none, (.bin .add (.tmp 25) (.const (.int .i64 1)))⟩,
  ⟨(some 4), none, (.asg (.tmp 26))⟩]) .ret) .skip))) (.ops [
  ⟨(some 13), none, (.mv (.tmp 5))⟩,
  ⟨(some 14), none, (.bin .add (.tmp 13) (.const (.int .i64 1)))⟩,
  ⟨(some 5), none, (.asg (.tmp 14))⟩])))))) (.seq (.ops [
  ⟨(some 4), none, (.asg (.const (.int .i64 0)))⟩]) .ret)))
theorem law_spec_l02Glue {a0 a1 d : D} (h : code_spec_l02Glue.wp (CT Tryd.prog TabG) (endQ [(.t 4)] d) [a0, a1, .undef, .undef, .undef, .undef, .undef, .undef, .undef, .undef, .undef, .undef, .undef, .undef, .undef, .undef, .undef, .undef, .undef, .undef, .undef, .undef, .undef, .undef, .undef, .undef, .undef]) : Contract Tryd.prog TabG 51 [a0, a1] d :=
  contract_of (pt := 0) tabG Tryd.func51 (fun us W => by kernel_rfl) (c := Tryd.f51.body.getD .skip) (ms := [(mB 27 134217692)]) (ms' := []) (by kernel_rfl) (by kernel_rfl) (by kernel_rfl) h
def code_spec_l02Tile : VCode := (.seq (.ops [
  ⟨(some 4), none, (.asg (.const (.int .i64 0)))⟩]) (.seq (.seq (.ops [
  ⟨(some 5), none, (.asg (.const (.int .i64 0)))⟩]) (.block 0 (.loop (mB 26 67108828) (.seq (.seq (.ops [
  ⟨(some 6), none, (.mv (.tmp 5))⟩,
  ⟨(some 7), none, (.mv (.tmp 0))⟩,
  ⟨(some 8), none, (.nilc (.tmp 7))⟩,
  ⟨(some 9), none, (.fa 1 (.tmp 8))⟩,
  ⟨(some 10), none, (.load 1 false (.tmp 9))⟩,
  ⟨(some 11), none, (.len (.tmp 10))⟩,
  ⟨(some 12), none, (.bin .lss (.tmp 6) (.tmp 11))⟩]) (.cond (.tmp 12) .skip (.exit 0))) (.seq (.block 1 (.seq (.ops [
  ⟨(some 15), none, (.mv (.tmp 0))⟩,
  ⟨(some 16), none, (.nilc (.tmp 15))⟩,
  ⟨(some 17), none, (.fa 1 (.tmp 16))⟩,
  ⟨(some 18), none, (.load 1 false (.tmp 17))⟩,
  ⟨(some 19), none, (.mv (.tmp 5))⟩,
  ⟨(some 20), none, (.ia 2 (.tmp 18) (.tmp 19))⟩,
  ⟨(some 21), none, (.fa 0 (.tmp 20))⟩,
  ⟨(some 22), none, (.load 1 false (.tmp 21))⟩,
  ⟨(some 23), none, (.mv (.tmp 1))⟩,
  ⟨(some 24), none, (.bin .eql (.tmp 22) (.tmp 23))⟩]) (.cond (.tmp 24) (.seq (.ops [
  ⟨(some 25), none, (.mv (.tmp 5))⟩,
  ⟨(some 4), none, (.asg (.tmp 25))⟩]) .ret) .skip))) (.ops [
  ⟨(some 13), none, (.mv (.tmp 5))⟩,
  ⟨(some 14), none, (.bin .add (.tmp 13) (.const (.int .i64 1)))⟩,
  ⟨(some 5), none, (.asg (.tmp 14))⟩])))))) (.seq (.ops [
  ⟨(some 4), none, (.asg (.const (.int .i64 (-1))))⟩]) .ret)))
theorem law_spec_l02Tile {a0 a1 d : D} (h : code_spec_l02Tile.wp (CT Tryd.prog TabG) (endQ [(.t 4)] d) [a0, a1, .undef, .undef, .undef, .undef, .undef, .undef, .undef, .undef, .undef, .undef, .undef, .undef, .undef, .undef, .undef, .undef, .undef, .undef, .undef, .undef, .undef, .undef, .undef, .undef]) : Contract Tryd.prog TabG 52 [a0, a1] d :=
  contract_of (pt := 0) tabG Tryd.func52 (fun us W => by kernel_rfl) (c := Tryd.f52.body.getD .skip) (ms := [(mB 26 67108828)]) (ms' := []) (by kernel_rfl) (by kernel_rfl) (by kernel_rfl) h
theorem v_l02Glue (a : TileSet) (n : ByteArray) (hg : a.Glues.length ≤ 1048576) : Contract Tryd.prog TabG 51 [.iptr (TileSet.td.d false a) 0, .v (.string n)] (.v (.int .i64 (gIdx a.Glues n + 1))) := by
  rw [TileSet.td_d]; refine law_spec_l02Glue ?_; unfold code_spec_l02Glue; simp -implicitDefEqProofs (disch := omega) only [go_sem, ↓reduceIte]; refine loop_st (fun i : Nat => [.iptr [.sl false 2 (a.Glues.map (Glue.td.d false)), .sl false 2 (a.Tiles.map (Tile.td.d false))] 0, .v (.string n), .undef, .undef, .undef, .v (.int .i64 i), .undef, .undef, .undef, .undef, .undef, .undef, .undef, .undef, .undef, .undef, .undef, .undef, .undef, .undef, .undef, .undef, .undef, .undef, .undef, .undef, .undef]) (fun i => i ≤ a.Glues.length ∧ ∀ j (hj : j < a.Glues.length), j < i → decide (a.Glues[j].Name = n) = false) (fun i => a.Glues.length - i) 0 (nleA) ⟨Nat.zero_le _, fun _ _ h => absurd h (Nat.not_lt_zero _)⟩ ?_; rintro i ⟨hi, ha⟩; simp -implicitDefEqProofs (disch := omega) only [go_sem, ↓reduceIte , List.length_map, Int.toNat_natCast, Int.ofNat_lt, Int.natCast_nonneg, List.getElem?_map, Option.map_some]; refine cond_split ?_ ?_ <;> intro hlt
  · have hlt : i < a.Glues.length := (by simpa using hlt); have e1 := List.getElem?_eq_getElem hlt; simp -implicitDefEqProofs (disch := omega) only [go_sem, ↓reduceIte , List.length_map, Int.toNat_natCast, Int.ofNat_lt, Int.natCast_nonneg, List.getElem?_map, Option.map_some, hlt, e1, Glue.td_d]; refine cond_split ?_ ?_ <;> intro hc
    · have hv : gIdx a.Glues n = (i : Int) := vIdx_hit _ a.Glues i hlt (fun j hj h => ha j hj h) hc; simp -implicitDefEqProofs (disch := omega) only [go_sem, ↓reduceIte , wrN]; rw [hv]; simp
    · simp -implicitDefEqProofs (disch := omega) only [go_sem, ↓reduceIte , wrN]; refine ⟨i + 1, by omega, ⟨hlt, fun j hj h => ?_⟩, nleA⟩; by_cases hji : j = i
      · subst hji; exact hc
      · exact ha j hj (by omega)
  · have hge : i = a.Glues.length := by have : ¬ i < a.Glues.length := by simpa using hlt
                                        omega
    subst hge; have hv : gIdx a.Glues n = -1 := vIdx_miss _ a.Glues (fun j hj => ha j hj hj); simp -implicitDefEqProofs (disch := omega) only [go_sem, ↓reduceIte]; rw [hv]; rfl
theorem v_l02Tile (a : TileSet) (n : ByteArray) (hg : a.Tiles.length ≤ 1048576) : Contract Tryd.prog TabG 52 [.iptr (TileSet.td.d false a) 0, .v (.string n)] (.v (.int .i64 (tIdx a.Tiles n))) := by
  rw [TileSet.td_d]; refine law_spec_l02Tile ?_; unfold code_spec_l02Tile; simp -implicitDefEqProofs (disch := omega) only [go_sem, ↓reduceIte]; refine loop_st (fun i : Nat => [.iptr [.sl false 2 (a.Glues.map (Glue.td.d false)), .sl false 2 (a.Tiles.map (Tile.td.d false))] 0, .v (.string n), .undef, .undef, .undef, .v (.int .i64 i), .undef, .undef, .undef, .undef, .undef, .undef, .undef, .undef, .undef, .undef, .undef, .undef, .undef, .undef, .undef, .undef, .undef, .undef, .undef, .undef]) (fun i => i ≤ a.Tiles.length ∧ ∀ j (hj : j < a.Tiles.length), j < i → decide (a.Tiles[j].Name = n) = false) (fun i => a.Tiles.length - i) 0 (nleA) ⟨Nat.zero_le _, fun _ _ h => absurd h (Nat.not_lt_zero _)⟩ ?_; rintro i ⟨hi, ha⟩; simp -implicitDefEqProofs (disch := omega) only [go_sem, ↓reduceIte , List.length_map, Int.toNat_natCast, Int.ofNat_lt, Int.natCast_nonneg, List.getElem?_map, Option.map_some]; refine cond_split ?_ ?_ <;> intro hlt
  · have hlt : i < a.Tiles.length := (by simpa using hlt); have e1 := List.getElem?_eq_getElem hlt; simp -implicitDefEqProofs (disch := omega) only [go_sem, ↓reduceIte , List.length_map, Int.toNat_natCast, Int.ofNat_lt, Int.natCast_nonneg, List.getElem?_map, Option.map_some, hlt, e1, Tile.td_d]; refine cond_split ?_ ?_ <;> intro hc
    · have hv : tIdx a.Tiles n = (i : Int) := vIdx_hit _ a.Tiles i hlt (fun j hj h => ha j hj h) hc; simp -implicitDefEqProofs (disch := omega) only [go_sem, ↓reduceIte , wrN]; rw [hv]
    · simp -implicitDefEqProofs (disch := omega) only [go_sem, ↓reduceIte , wrN]; refine ⟨i + 1, by omega, ⟨hlt, fun j hj h => ?_⟩, nleA⟩; by_cases hji : j = i
      · subst hji; exact hc
      · exact ha j hj (by omega)
  · have hge : i = a.Tiles.length := by have : ¬ i < a.Tiles.length := by simpa using hlt
                                        omega
    subst hge; have hv : tIdx a.Tiles n = -1 := vIdx_miss _ a.Tiles (fun j hj => ha j hj hj); simp -implicitDefEqProofs (disch := omega) only [go_sem, ↓reduceIte]; rw [hv]
end Go.Proofs.YtbflchedmfeghaaDoor
