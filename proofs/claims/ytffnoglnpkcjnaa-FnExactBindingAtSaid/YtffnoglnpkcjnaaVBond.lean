/- Bonds: their strengths, and how strongly a tile would bind at a point. -/
import Derived.Test.YtffnoglnpkcjnaaVAsm
set_option linter.all false
namespace Go.Proofs.Ytffnoglnpkcjnaa
open Go.RowKit Go.V
attribute [local go_sem] List.getElem?_cons_succ List.getElem?_cons_zero List.set_cons_succ List.set_cons_zero List.map_cons List.map_nil List.length_cons List.length_nil List.all_cons List.all_nil List.drop_succ_cons List.drop_zero List.take_succ_cons List.take_zero List.flatMap_cons List.flatMap_nil List.cons_append List.nil_append List.append_nil List.headD_cons Value.oneCell' Bool.and_true Bool.true_and Bool.or_false Bool.false_or Bool.and_self Bool.not_true Bool.not_false and_true true_and beq_self_eq_true Bool.false_eq_true if_true if_false Nat.zero_add Nat.le_refl Option.isSome_some Option.isSome_none not_true_eq_false not_false_eq_true ne_eq List.reverse_nil bne_self_eq_false List.isPrefixOf Bool.not_eq_true Bool.and_false Bool.false_and Bool.true_or Bool.or_true decide_true decide_false List.replicate_succ List.replicate_zero exists_eq_left' exists_eq_left or_false or_true true_or false_or Option.map_some Option.map_none
set_option maxRecDepth 100000
def gStr (a : TileSet) (g : Int) : Int := if 0 < g then (a.Glues.getD (g - 1).toNat ⟨⟨#[]⟩, 0⟩).Strength else 0
def sideN (a : TileSet) (t d : Nat) : Int := (a.Tiles.getD t ⟨⟨#[]⟩, []⟩).Sides.getD d 0
def bondN (a : TileSet) (t d k : Nat) : Int := if sideN a t d = sideN a k ((d + 2) % 4) then gStr a (sideN a t d) else 0
theorem side_at {a : TileSet} (h : okSet a = true) {t d : Nat} (ht : t < a.Tiles.length) (hd : d < 4) : a.Tiles[t].Sides[d]? = some (sideN a t d) := by
  have h4 := okSet_sides4 h ht
  unfold sideN
  rw [List.getD_eq_getElem?_getD (l := a.Tiles), List.getElem?_eq_getElem ht]
  show a.Tiles[t].Sides[d]? = some (a.Tiles[t].Sides.getD d 0)
  exact getD_some (by omega)
theorem side_in {a : TileSet} (h : okSet a = true) {t d : Nat} (ht : t < a.Tiles.length) (hd : d < 4) : 0 ≤ sideN a t d ∧ sideN a t d ≤ a.Glues.length :=
  okSet_side h ht _ (List.mem_of_getElem? (side_at h ht hd))
theorem gStr_in {a : TileSet} (h : okSet a = true) {g : Int} (h1 : g ≤ a.Glues.length) : 0 ≤ gStr a g ∧ gStr a g ≤ 4 := by
  unfold gStr
  split
  · have hl : (g - 1).toNat < a.Glues.length := by omega
    rw [List.getD_eq_getElem?_getD, List.getElem?_eq_getElem hl]
    have := okSet_str h hl
    simp only [Option.getD_some]
    omega
  · omega
theorem bond_in {a : TileSet} (h : okSet a = true) {t d k : Nat} (ht : t < a.Tiles.length) (hd : d < 4) : 0 ≤ bondN a t d k ∧ bondN a t d k ≤ 4 := by
  unfold bondN
  split
  · exact gStr_in h (side_in h ht hd).2
  · omega
theorem dirs {d : Nat} (h : d < 4) : IntKind.i64.wrap ((d : Int) + 2) = ((d + 2 : Nat) : Int) ∧ ((d + 2 : Nat) : Int).tmod 4 = (((d + 2) % 4 : Nat) : Int) := ⟨by rw [wrI (by omega) (by omega)]; rfl, rfl⟩
theorem okSet_bd {a : TileSet} (h : okSet a = true) : a.Glues.length ≤ 1048576 ∧ a.Tiles.length ≤ 1048576 := by have := okSet_len h; omega
/-- impl.opposite -/
def code_impl_opposite : VCode := (.seq (.ops [
  ⟨(some 2), none, (.asg (.const (.int .i64 0)))⟩]) (.seq (.ops [
  ⟨(some 3), none, (.mv (.tmp 0))⟩,
  ⟨(some 4), none, (.bin .add (.tmp 3) (.const (.int .i64 2)))⟩,
  ⟨(some 5), none, (.bin .rem (.tmp 4) (.const (.int .i64 4)))⟩,
  ⟨(some 2), none, (.asg (.tmp 5))⟩]) .ret))
theorem law_impl_opposite {a0 d : D} (h : code_impl_opposite.wp (CT Try.prog NoG) (endQ [(.t 2)] d) [a0, .undef, .undef, .undef, .undef, .undef]) : Contract Try.prog NoG 150 [a0] d :=
  contract_of noG Try.func150 (fun us W => by kernel_rfl) (c := Try.f150.body.getD .skip) (ms := []) (ms' := []) (by kernel_rfl) (by kernel_rfl) (by kernel_rfl) h
theorem v_opposite (d : Nat) (hd : d < 4) : Contract Try.prog NoG 150 [.v (.int .i64 (d : Int))] (.v (.int .i64 (((d + 2) % 4 : Nat) : Int))) := by
  refine law_impl_opposite ?_
  unfold code_impl_opposite
  obtain ⟨h1, h2⟩ := dirs hd
  simp -implicitDefEqProofs (disch := omega) only [go_sem, ↓reduceIte, Nat.reduceAdd, Nat.reduceMul, Nat.reduceLeDiff, reduceCtorEq, Nat.reduceEqDiff, Nat.reduceBEq, Nat.reduceBNe, Option.some.injEq , h1, h2, Int.reduceEq]
/-- spec.l01Dir -/
def code_spec_l01Dir : VCode := (.seq (.ops [
  ⟨(some 2), none, (.asg (.const (.bool false)))⟩]) (.seq (.ops [
  ⟨(some 3), none, (.mv (.tmp 0))⟩,
  ⟨(some 4), none, (.callX 50 [(.tmp 3), (.const (.int .i64 0)), (.const (.int .i64 3))])⟩,
  ⟨(some 2), none, (.asg (.tmp 4))⟩]) .ret))
theorem law_spec_l01Dir {a0 d : D} (h : code_spec_l01Dir.wp (CT Try.prog NoG) (endQ [(.t 2)] d) [a0, .undef, .undef, .undef, .undef]) : Contract Try.prog NoG 167 [a0] d :=
  contract_of noG Try.func167 (fun us W => by kernel_rfl) (c := Try.f167.body.getD .skip) (ms := []) (ms' := []) (by kernel_rfl) (by kernel_rfl) (by kernel_rfl) h
/-- spec.Opposite -/
def code_spec_Opposite : VCode := (.seq (.ops [
  ⟨(some 2), none, (.asg (.const (.int .i64 0)))⟩]) (.seq (.seq (.ops [
  ⟨(some 3), none, (.mv (.tmp 0))⟩,
  ⟨(some 4), none, (.callX 167 [(.tmp 3)])⟩,
  ⟨(some 5), none, (.un .not (.tmp 4))⟩]) (.cond (.tmp 5) (.seq (.ops [
  ⟨(some 2), none, (.asg (.const (.int .i64 (-1))))⟩]) .ret) .skip)) (.seq (.ops [
  ⟨(some 6), none, (.mv (.tmp 0))⟩,
  ⟨(some 7), none, (.bin .add (.tmp 6) (.const (.int .i64 2)))⟩,
  ⟨(some 8), none, (.bin .rem (.tmp 7) (.const (.int .i64 4)))⟩,
  ⟨(some 2), none, (.asg (.tmp 8))⟩]) .ret)))
theorem law_spec_Opposite {a0 d : D} (h : code_spec_Opposite.wp (CT Try.prog NoG) (endQ [(.t 2)] d) [a0, .undef, .undef, .undef, .undef, .undef, .undef, .undef, .undef]) : Contract Try.prog NoG 147 [a0] d :=
  contract_of noG Try.func147 (fun us W => by kernel_rfl) (c := Try.f147.body.getD .skip) (ms := []) (ms' := []) (by kernel_rfl) (by kernel_rfl) (by kernel_rfl) h
theorem v_l01Dir (n : Int) : Contract Try.prog NoG 167 [.v (.int .i64 n)] (.v (.bool (inR 0 3 n))) := by
  refine law_spec_l01Dir ?_
  unfold code_spec_l01Dir
  simp -implicitDefEqProofs (disch := omega) only [go_sem, ↓reduceIte, Nat.reduceAdd, Nat.reduceMul, Nat.reduceLeDiff, reduceCtorEq, Nat.reduceEqDiff, Nat.reduceBEq, Nat.reduceBNe, Option.some.injEq]
  refine call_leA (v_l00In n 0 3) (by simp -implicitDefEqProofs (disch := omega) only [go_sem, ↓reduceIte, Nat.reduceAdd, Nat.reduceMul, Nat.reduceLeDiff, reduceCtorEq, Nat.reduceEqDiff, Nat.reduceBEq, Nat.reduceBNe, Option.some.injEq, deep, TD.rows, immLL_rI, immLL_rB8, immLL_rS, immLL_rBo, immLL_rII]; exact rfl) (by repeat (first | exact leL_nil | refine leL_cons ?_ ?_ | exact le_of_eq rfl | exact le_slf rfl (by first | rfl | exact TD.rows _ _ _) | refine le_agg ?_ | (refine le_iptrN ?_; simp only [List.drop_succ_cons, List.drop_zero, List.take_succ_cons, List.take_zero, List.take_nil, List.length_cons, List.length_nil, Nat.zero_add, Nat.reduceAdd]) | refine le_iptr ?_ | refine le_fn ?_ ?_)) (by first | exact .inl rfl | exact .inl (by simp only [D.noImm, noImmL, Bool.and_true, Bool.true_and, TD.nims, TD.nim, nim_rI, nim_rB8, nim_rBo, nim_rS])) ?_
  simp -implicitDefEqProofs (disch := omega) only [go_sem, ↓reduceIte, Nat.reduceAdd, Nat.reduceMul, Nat.reduceLeDiff, reduceCtorEq, Nat.reduceEqDiff, Nat.reduceBEq, Nat.reduceBNe, Option.some.injEq]
theorem v_Opposite (d : Nat) (hd : d < 4) : Contract Try.prog NoG 147 [.v (.int .i64 (d : Int))] (.v (.int .i64 (((d + 2) % 4 : Nat) : Int))) := by
  refine law_spec_Opposite ?_
  unfold code_spec_Opposite
  obtain ⟨h1, h2⟩ := dirs hd
  have h3 : inR 0 3 (d : Int) = true := inR_iff.2 (by omega)
  simp -implicitDefEqProofs (disch := omega) only [go_sem, ↓reduceIte, Nat.reduceAdd, Nat.reduceMul, Nat.reduceLeDiff, reduceCtorEq, Nat.reduceEqDiff, Nat.reduceBEq, Nat.reduceBNe, Option.some.injEq]
  refine call_leA (v_l01Dir (d : Int)) (by simp -implicitDefEqProofs (disch := omega) only [go_sem, ↓reduceIte, Nat.reduceAdd, Nat.reduceMul, Nat.reduceLeDiff, reduceCtorEq, Nat.reduceEqDiff, Nat.reduceBEq, Nat.reduceBNe, Option.some.injEq, deep, TD.rows, immLL_rI, immLL_rB8, immLL_rS, immLL_rBo, immLL_rII, h3, h1, h2, Int.reduceEq]; exact rfl) (by repeat (first | exact leL_nil | refine leL_cons ?_ ?_ | exact le_of_eq rfl | exact le_slf rfl (by first | rfl | exact TD.rows _ _ _) | refine le_agg ?_ | (refine le_iptrN ?_; simp only [List.drop_succ_cons, List.drop_zero, List.take_succ_cons, List.take_zero, List.take_nil, List.length_cons, List.length_nil, Nat.zero_add, Nat.reduceAdd]) | refine le_iptr ?_ | refine le_fn ?_ ?_)) (by first | exact .inl rfl | exact .inl (by simp only [D.noImm, noImmL, Bool.and_true, Bool.true_and, TD.nims, TD.nim, nim_rI, nim_rB8, nim_rBo, nim_rS])) ?_
  simp -implicitDefEqProofs (disch := omega) only [go_sem, ↓reduceIte, Nat.reduceAdd, Nat.reduceMul, Nat.reduceLeDiff, reduceCtorEq, Nat.reduceEqDiff, Nat.reduceBEq, Nat.reduceBNe, Option.some.injEq , h3, h1, h2, Int.reduceEq]
/-- (impl.TileSet).strength -/
def code_impl_TileSet_strength : VCode := (.seq (.ops [
  ⟨(some 3), none, (.box (.tmp 0))⟩,
  ⟨(some 6), none, (.asg (.const (.int .i64 0)))⟩]) (.seq (.seq (.ops [
  ⟨(some 8), none, (.fa 1 (.tmp 3))⟩,
  ⟨(some 9), none, (.load 1 false (.tmp 8))⟩,
  ⟨(some 10), none, (.mv (.tmp 1))⟩,
  ⟨(some 11), none, (.ia 2 (.tmp 9) (.tmp 10))⟩,
  ⟨(some 12), none, (.fa 1 (.tmp 11))⟩,
  ⟨(some 13), none, (.load 1 false (.tmp 12))⟩,
  ⟨(some 14), none, (.mv (.tmp 2))⟩,
  ⟨(some 15), none, (.ia 1 (.tmp 13) (.tmp 14))⟩,
  ⟨(some 16), none, (.load 1 false (.tmp 15))⟩,
  ⟨(some 7), none, (.asg (.tmp 16))⟩]) (.seq (.ops [
  ⟨(some 17), none, (.mv (.tmp 7))⟩,
  ⟨(some 18), none, (.bin .gtr (.tmp 17) (.const (.int .i64 0)))⟩]) (.cond (.tmp 18) (.seq (.ops [
  ⟨(some 19), none, (.fa 0 (.tmp 3))⟩,
  ⟨(some 20), none, (.load 1 false (.tmp 19))⟩,
  ⟨(some 21), none, (.mv (.tmp 7))⟩,
  ⟨(some 22), none, (.bin .sub (.tmp 21) (.const (.int .i64 1)))⟩,
  ⟨(some 23), none, (.ia 2 (.tmp 20) (.tmp 22))⟩,
  ⟨(some 24), none, (.fa 1 (.tmp 23))⟩,
  ⟨(some 25), none, (.load 1 false (.tmp 24))⟩,
  ⟨(some 6), none, (.asg (.tmp 25))⟩]) .ret) .skip))) (.seq (.ops [
  ⟨(some 6), none, (.asg (.const (.int .i64 0)))⟩]) .ret)))
theorem law_impl_TileSet_strength {a0 a1 a2 d : D} (h : code_impl_TileSet_strength.wp (CT Try.prog NoG) (endQ [(.t 6)] d) [a0, a1, a2, .undef, .undef, .undef, .undef, .undef, .undef, .undef, .undef, .undef, .undef, .undef, .undef, .undef, .undef, .undef, .undef, .undef, .undef, .undef, .undef, .undef, .undef, .undef]) : Contract Try.prog NoG 151 [a0, a1, a2] d :=
  contract_of noG Try.func151 (fun us W => by kernel_rfl) (c := Try.f151.body.getD .skip) (ms := []) (ms' := []) (by kernel_rfl) (by kernel_rfl) (by kernel_rfl) h
theorem v_strength (a : TileSet) (h : okSet a = true) (t d : Nat) (ht : t < a.Tiles.length) (hd : d < 4) : Contract Try.prog NoG 151 [.agg (TileSet.td.d false a), .v (.int .i64 (t : Int)), .v (.int .i64 (d : Int))] (.v (.int .i64 (gStr a (sideN a t d)))) := by
  rw [TileSet.td_d]
  refine law_impl_TileSet_strength ?_
  unfold code_impl_TileSet_strength
  have e1 := List.getElem?_eq_getElem ht
  have h4 := okSet_sides4 h ht
  have e2 := side_at h ht hd
  have hs := side_in h ht hd
  have hg := okSet_len h
  have hd' : d < a.Tiles[t].Sides.length := by omega
  simp -implicitDefEqProofs (disch := omega) only [go_sem, ↓reduceIte, Nat.reduceAdd, Nat.reduceMul, Nat.reduceLeDiff, reduceCtorEq, Nat.reduceEqDiff, Nat.reduceBEq, Nat.reduceBNe, Option.some.injEq , List.length_map, Int.toNat_natCast, Int.ofNat_lt, Int.natCast_nonneg, List.getElem?_map, Option.map_some, ht, e1, Tile.td_d, hd', e2]
  refine cond_split ?_ ?_ <;> intro h0
  · have h0 : 0 < sideN a t d := by simpa using h0
    obtain ⟨n, hn⟩ : ∃ n : Nat, sideN a t d - 1 = (n : Int) := ⟨(sideN a t d - 1).toNat, by omega⟩
    have hnl : n < a.Glues.length := by omega
    have e3 := List.getElem?_eq_getElem hnl
    have hw : IntKind.i64.wrap (sideN a t d - 1) = (n : Int) := by rw [wrI (by omega) (by omega)]; exact hn
    have hv : gStr a (sideN a t d) = a.Glues[n].Strength := by
      unfold gStr
      rw [if_pos h0, hn, Int.toNat_natCast, List.getD_eq_getElem?_getD, e3]; rfl
    simp -implicitDefEqProofs (disch := omega) only [go_sem, ↓reduceIte, Nat.reduceAdd, Nat.reduceMul, Nat.reduceLeDiff, reduceCtorEq, Nat.reduceEqDiff, Nat.reduceBEq, Nat.reduceBNe, Option.some.injEq , List.length_map, Int.toNat_natCast, Int.ofNat_lt, Int.natCast_nonneg, List.getElem?_map, Option.map_some, hw, hnl, e3, Glue.td_d, hv]
  · have h0 : ¬ 0 < sideN a t d := by simpa using h0
    have hv : gStr a (sideN a t d) = 0 := by unfold gStr; rw [if_neg h0]
    simp -implicitDefEqProofs (disch := omega) only [go_sem, ↓reduceIte, Nat.reduceAdd, Nat.reduceMul, Nat.reduceLeDiff, reduceCtorEq, Nat.reduceEqDiff, Nat.reduceBEq, Nat.reduceBNe, Option.some.injEq , hv]
/-- spec.l02Strength -/
def code_spec_l02Strength : VCode := (.seq (.ops [
  ⟨(some 4), none, (.asg (.const (.int .i64 0)))⟩]) (.seq (.seq (.ops [
  ⟨(some 5), none, (.mv (.tmp 1))⟩,
  ⟨(some 6), none, (.bin .eql (.tmp 5) (.const (.int .i64 0)))⟩]) (.cond (.tmp 6) (.seq (.ops [
  ⟨(some 4), none, (.asg (.const (.int .i64 0)))⟩]) .ret) .skip)) (.seq (.ops [
  ⟨(some 7), none, (.mv (.tmp 0))⟩,
  ⟨(some 8), none, (.nilc (.tmp 7))⟩,
  ⟨(some 9), none, (.fa 0 (.tmp 8))⟩,
  ⟨(some 10), none, (.load 1 false (.tmp 9))⟩,
  ⟨(some 11), none, (.mv (.tmp 1))⟩,
  ⟨(some 12), none, (.bin .sub (.tmp 11) (.const (.int .i64 1)))⟩,
  ⟨(some 13), none, (.ia 2 (.tmp 10) (.tmp 12))⟩,
  ⟨(some 14), none, (.fa 1 (.tmp 13))⟩,
  ⟨(some 15), none, (.load 1 false (.tmp 14))⟩,
  ⟨(some 4), none, (.asg (.tmp 15))⟩]) .ret)))
theorem law_spec_l02Strength {a0 a1 d : D} (h : code_spec_l02Strength.wp (CT Try.prog NoG) (endQ [(.t 4)] d) [a0, a1, .undef, .undef, .undef, .undef, .undef, .undef, .undef, .undef, .undef, .undef, .undef, .undef, .undef, .undef]) : Contract Try.prog NoG 148 [a0, a1] d :=
  contract_of noG Try.func148 (fun us W => by kernel_rfl) (c := Try.f148.body.getD .skip) (ms := []) (ms' := []) (by kernel_rfl) (by kernel_rfl) (by kernel_rfl) h
theorem v_l02Strength (a : TileSet) (h : okSet a = true) (g : Int) (h0 : 0 ≤ g) (h1 : g ≤ a.Glues.length) : Contract Try.prog NoG 148 [.iptr (TileSet.td.d false a) 0, .v (.int .i64 g)] (.v (.int .i64 (gStr a g))) := by
  rw [TileSet.td_d]
  refine law_spec_l02Strength ?_
  unfold code_spec_l02Strength
  have hg := okSet_len h
  simp -implicitDefEqProofs (disch := omega) only [go_sem, ↓reduceIte, Nat.reduceAdd, Nat.reduceMul, Nat.reduceLeDiff, reduceCtorEq, Nat.reduceEqDiff, Nat.reduceBEq, Nat.reduceBNe, Option.some.injEq]
  refine cond_split ?_ ?_ <;> intro hz
  · have hz : g = 0 := by simpa using hz
    have hv : gStr a g = 0 := by unfold gStr; rw [if_neg (by omega)]
    simp -implicitDefEqProofs (disch := omega) only [go_sem, ↓reduceIte, Nat.reduceAdd, Nat.reduceMul, Nat.reduceLeDiff, reduceCtorEq, Nat.reduceEqDiff, Nat.reduceBEq, Nat.reduceBNe, Option.some.injEq , hv]
  · have hz : ¬ g = 0 := by simpa using hz
    obtain ⟨n, hn⟩ : ∃ n : Nat, g - 1 = (n : Int) := ⟨(g - 1).toNat, by omega⟩
    have hnl : n < a.Glues.length := by omega
    have e3 := List.getElem?_eq_getElem hnl
    have hw : IntKind.i64.wrap (g - 1) = (n : Int) := by rw [wrI (by omega) (by omega)]; exact hn
    have hv : gStr a g = a.Glues[n].Strength := by
      unfold gStr
      rw [if_pos (by omega), hn, Int.toNat_natCast, List.getD_eq_getElem?_getD, e3]; rfl
    simp -implicitDefEqProofs (disch := omega) only [go_sem, ↓reduceIte, Nat.reduceAdd, Nat.reduceMul, Nat.reduceLeDiff, reduceCtorEq, Nat.reduceEqDiff, Nat.reduceBEq, Nat.reduceBNe, Option.some.injEq , List.length_map, Int.toNat_natCast, Int.ofNat_lt, Int.natCast_nonneg, List.getElem?_map, Option.map_some, hw, hnl, e3, Glue.td_d, hv]
abbrev mk_impl_TileSet_bond_0 : List Bool := [false, false, false, false, false, false, false, false, false, true, true, true, true, true, true, true, true, true, true, true, true, true, true, true, true, true, true, true]
abbrev mk_impl_TileSet_bond_1 : List Bool := [false, false, false, false, false, false, false, false, false, false, true, true, true, true, true, true, true, true, true, true, true, true, true, true, true, true, true, true]
abbrev mk_impl_TileSet_bond_2 : List Bool := [false, false, false, false, false, false, false, false, false, false, false, false, true, true, true, true, true, true, true, true, true, true, true, true, true, true, true, true]
abbrev mk_impl_TileSet_bond_3 : List Bool := [false, false, false, false, false, false, false, false, false, false, false, false, false, true, true, true, true, true, true, true, true, true, true, true, true, true, true, true]
abbrev mk_impl_TileSet_bond_4 : List Bool := [false, false, false, false, false, false, false, false, false, false, false, false, false, false, true, true, true, true, true, true, true, true, true, true, true, true, true, true]
abbrev mk_impl_TileSet_bond_5 : List Bool := [false, false, false, false, false, false, false, false, false, false, false, false, false, false, false, false, true, true, true, true, true, true, true, true, true, true, true, true]
abbrev mk_impl_TileSet_bond_6 : List Bool := [false, false, false, false, false, false, false, false, false, false, false, false, false, false, false, false, false, true, true, true, true, true, true, true, true, true, true, true]
abbrev mk_impl_TileSet_bond_7 : List Bool := [false, false, false, false, false, false, false, false, false, true, true, true, true, true, true, true, true, true, false, true, true, true, true, true, true, true, true, true]
abbrev mk_impl_TileSet_bond_8 : List Bool := [false, false, false, false, false, false, false, false, false, true, true, true, true, true, true, true, true, true, false, false, false, true, true, true, true, true, true, true]
abbrev mk_impl_TileSet_bond_9 : List Bool := [false, false, false, false, false, false, false, false, false, true, true, true, true, true, true, true, true, true, false, false, false, false, true, true, true, true, true, true]
abbrev mk_impl_TileSet_bond_10 : List Bool := [false, false, false, false, false, false, false, false, false, true, true, true, true, true, true, true, true, true, false, false, false, false, false, true, true, true, true, true]
abbrev mk_impl_TileSet_bond_11 : List Bool := [false, false, false, false, false, false, false, false, false, true, true, true, true, true, true, true, true, true, true, true, true, true, true, true, false, true, true, true]
abbrev mk_impl_TileSet_bond_12 : List Bool := [false, false, false, false, false, false, false, false, false, true, true, true, true, true, true, true, true, true, false, false, false, false, false, false, false, false, true, true]
abbrev mk_impl_TileSet_bond_13 : List Bool := [false, false, false, false, false, false, false, false, false, true, true, true, true, true, true, true, true, true, false, false, false, false, false, false, false, false, false, true]
/-- (impl.TileSet).bond -/
def code_impl_TileSet_bond : VCode := (.seq (.ops [
  ⟨(some 4), none, (.box (.tmp 0))⟩,
  ⟨(some 8), none, (.asg (.const (.int .i64 0)))⟩]) (.seq (.seq (.draw mk_impl_TileSet_bond_0 [] [⟨0, mk_impl_TileSet_bond_0, [], ⟨(some 9), none, (.fa 1 (.tmp 4))⟩⟩, ⟨1, mk_impl_TileSet_bond_1, [], ⟨(some 10), none, (.load 1 false (.tmp 9))⟩⟩, ⟨2, mk_impl_TileSet_bond_0, [], ⟨(some 11), none, (.mv (.tmp 1))⟩⟩, ⟨3, mk_impl_TileSet_bond_2, [], ⟨(some 12), none, (.ia 2 (.tmp 10) (.tmp 11))⟩⟩, ⟨4, mk_impl_TileSet_bond_3, [], ⟨(some 13), none, (.fa 1 (.tmp 12))⟩⟩, ⟨5, mk_impl_TileSet_bond_4, [], ⟨(some 14), none, (.load 1 false (.tmp 13))⟩⟩, ⟨6, mk_impl_TileSet_bond_0, [], ⟨(some 15), none, (.mv (.tmp 2))⟩⟩, ⟨7, mk_impl_TileSet_bond_5, [], ⟨(some 16), none, (.ia 1 (.tmp 14) (.tmp 15))⟩⟩, ⟨8, mk_impl_TileSet_bond_6, [], ⟨(some 17), none, (.load 1 false (.tmp 16))⟩⟩, ⟨9, mk_impl_TileSet_bond_0, [], ⟨(some 18), none, (.fa 1 (.tmp 4))⟩⟩, ⟨10, mk_impl_TileSet_bond_7, [], ⟨(some 19), none, (.load 1 false (.tmp 18))⟩⟩, ⟨11, mk_impl_TileSet_bond_0, [], ⟨(some 20), none, (.mv (.tmp 3))⟩⟩, ⟨12, mk_impl_TileSet_bond_8, [], ⟨(some 21), none, (.ia 2 (.tmp 19) (.tmp 20))⟩⟩, ⟨13, mk_impl_TileSet_bond_9, [], ⟨(some 22), none, (.fa 1 (.tmp 21))⟩⟩, ⟨14, mk_impl_TileSet_bond_10, [], ⟨(some 23), none, (.load 1 false (.tmp 22))⟩⟩, ⟨15, mk_impl_TileSet_bond_0, [], ⟨(some 24), none, (.mv (.tmp 2))⟩⟩, ⟨16, mk_impl_TileSet_bond_11, [], ⟨(some 25), none, (.call 150 [(.tmp 24)])⟩⟩, ⟨17, mk_impl_TileSet_bond_12, [], ⟨(some 26), none, (.ia 1 (.tmp 23) (.tmp 25))⟩⟩, ⟨18, mk_impl_TileSet_bond_13, [], ⟨(some 27), none, (.load 1 false (.tmp 26))⟩⟩] [⟨(some 28), none, (.bin .eql (.tmp 17) (.tmp 27))⟩]) (.cond (.tmp 28) (.seq (.ops [
  ⟨(some 29), none, (.load 2 true (.tmp 4))⟩,
  ⟨(some 30), none, (.mv (.tmp 1))⟩,
  ⟨(some 31), none, (.mv (.tmp 2))⟩,
  ⟨(some 32), none, (.callX 151 [(.tmp 29), (.tmp 30), (.tmp 31)])⟩,
  ⟨(some 8), none, (.asg (.tmp 32))⟩]) .ret) .skip)) (.seq (.ops [
  ⟨(some 8), none, (.asg (.const (.int .i64 0)))⟩]) .ret)))
theorem law_impl_TileSet_bond {a0 a1 a2 a3 d : D} (h : code_impl_TileSet_bond.wp (CT Try.prog NoG) (endQ [(.t 8)] d) [a0, a1, a2, a3, .undef, .undef, .undef, .undef, .undef, .undef, .undef, .undef, .undef, .undef, .undef, .undef, .undef, .undef, .undef, .undef, .undef, .undef, .undef, .undef, .undef, .undef, .undef, .undef, .undef, .undef, .undef, .undef, .undef]) : Contract Try.prog NoG 120 [a0, a1, a2, a3] d :=
  contract_of noG Try.func120 (fun us W => by kernel_rfl) (c := Try.f120.body.getD .skip) (ms := []) (ms' := []) (by kernel_rfl) (by kernel_rfl) (by kernel_rfl) h
set_option maxHeartbeats 1000000 in
theorem v_bond (a : TileSet) (h : okSet a = true) (t d k : Nat) (ht : t < a.Tiles.length) (hd : d < 4) (hk : k < a.Tiles.length) : Contract Try.prog NoG 120 [.agg (TileSet.td.d false a), .v (.int .i64 (t : Int)), .v (.int .i64 (d : Int)), .v (.int .i64 (k : Int))] (.v (.int .i64 (bondN a t d k))) := by
  rw [TileSet.td_d]
  refine law_impl_TileSet_bond ?_
  unfold code_impl_TileSet_bond
  have e1 := List.getElem?_eq_getElem ht
  have e2 := List.getElem?_eq_getElem hk
  have h4 := okSet_sides4 h ht
  have k4 := okSet_sides4 h hk
  have hm : (d + 2) % 4 < 4 := Nat.mod_lt _ (by omega)
  have e3 := side_at h ht hd
  have e4 := side_at h hk hm
  have hd' : d < a.Tiles[t].Sides.length := by omega
  have hm' : (d + 2) % 4 < a.Tiles[k].Sides.length := by omega
  simp -implicitDefEqProofs (disch := omega) only [go_sem, ↓reduceIte, Nat.reduceAdd, Nat.reduceMul, Nat.reduceLeDiff, reduceCtorEq, Nat.reduceEqDiff, Nat.reduceBEq, Nat.reduceBNe, Option.some.injEq , List.length_map, Int.toNat_natCast, Int.ofNat_lt, Int.natCast_nonneg, List.getElem?_map, Option.map_some, ht, e1, Tile.td_d, hd', e3, hk, e2]
  refine call_leNA (v_opposite d hd) (by simp -implicitDefEqProofs (disch := omega) only [go_sem, ↓reduceIte, Nat.reduceAdd, Nat.reduceMul, Nat.reduceLeDiff, reduceCtorEq, Nat.reduceEqDiff, Nat.reduceBEq, Nat.reduceBNe, Option.some.injEq, deep, TD.rows, immLL_rI, immLL_rB8, immLL_rS, immLL_rBo, immLL_rII, List.length_map, Int.toNat_natCast, Int.ofNat_lt, Int.natCast_nonneg, List.getElem?_map, Option.map_some, hm', e4]; exact rfl) (by repeat (first | exact leL_nil | refine leL_cons ?_ ?_ | exact le_of_eq rfl | exact le_slf rfl (by first | rfl | exact TD.rows _ _ _) | refine le_agg ?_ | (refine le_iptrN ?_; simp only [List.drop_succ_cons, List.drop_zero, List.take_succ_cons, List.take_zero, List.take_nil, List.length_cons, List.length_nil, Nat.zero_add, Nat.reduceAdd]) | refine le_iptr ?_ | refine le_fn ?_ ?_)) (by first | exact .inl rfl | exact .inl (by simp only [D.noImm, noImmL, Bool.and_true, Bool.true_and, TD.nims, TD.nim, nim_rI, nim_rB8, nim_rBo, nim_rS])) ?_
  simp -implicitDefEqProofs (disch := omega) only [go_sem, ↓reduceIte, Nat.reduceAdd, Nat.reduceMul, Nat.reduceLeDiff, reduceCtorEq, Nat.reduceEqDiff, Nat.reduceBEq, Nat.reduceBNe, Option.some.injEq , List.length_map, Int.toNat_natCast, Int.ofNat_lt, Int.natCast_nonneg, List.getElem?_map, Option.map_some, hm', e4]
  cases hb : decide (sideN a t d = sideN a k ((d + 2) % 4)) with
  | false =>
    have hv : bondN a t d k = 0 := by unfold bondN; rw [if_neg (of_decide_eq_false hb)]
    simp -implicitDefEqProofs (disch := omega) only [go_sem, ↓reduceIte, Nat.reduceAdd, Nat.reduceMul, Nat.reduceLeDiff, reduceCtorEq, Nat.reduceEqDiff, Nat.reduceBEq, Nat.reduceBNe, Option.some.injEq , hv]
  | true =>
    have hv : bondN a t d k = gStr a (sideN a t d) := by unfold bondN; rw [if_pos (of_decide_eq_true hb)]
    simp -implicitDefEqProofs (disch := omega) only [go_sem, ↓reduceIte, Nat.reduceAdd, Nat.reduceMul, Nat.reduceLeDiff, reduceCtorEq, Nat.reduceEqDiff, Nat.reduceBEq, Nat.reduceBNe, Option.some.injEq]
    refine call_leA (v_strength a h t d ht hd) (by simp -implicitDefEqProofs (disch := omega) only [go_sem, ↓reduceIte, Nat.reduceAdd, Nat.reduceMul, Nat.reduceLeDiff, reduceCtorEq, Nat.reduceEqDiff, Nat.reduceBEq, Nat.reduceBNe, Option.some.injEq, deep, TD.rows, immLL_rI, immLL_rB8, immLL_rS, immLL_rBo, immLL_rII, hv]; exact rfl) (by repeat (first | exact leL_nil | refine leL_cons ?_ ?_ | exact le_of_eq rfl | exact le_slf rfl (by first | rfl | exact TD.rows _ _ _) | refine le_agg ?_ | (refine le_iptrN ?_; simp only [List.drop_succ_cons, List.drop_zero, List.take_succ_cons, List.take_zero, List.take_nil, List.length_cons, List.length_nil, Nat.zero_add, Nat.reduceAdd]) | refine le_iptr ?_ | refine le_fn ?_ ?_)) (by first | exact .inl rfl | exact .inl (by simp only [D.noImm, noImmL, Bool.and_true, Bool.true_and, TD.nims, TD.nim, nim_rI, nim_rB8, nim_rBo, nim_rS])) ?_
    simp -implicitDefEqProofs (disch := omega) only [go_sem, ↓reduceIte, Nat.reduceAdd, Nat.reduceMul, Nat.reduceLeDiff, reduceCtorEq, Nat.reduceEqDiff, Nat.reduceBEq, Nat.reduceBNe, Option.some.injEq , hv]
abbrev mk_spec_l02Bond_0 : List Bool := [false, false, false, false, false, false, false, false, false, false, false, false, false, false, false, false, false, false, false, false, false, true, true, true, true, true, true, true, true, true, true, true, true, true]
abbrev mk_spec_l02Bond_1 : List Bool := [false, false, false, false, false, false, false, false, false, false, false, false, false, false, false, false, false, false, false, false, false, true, false, true, true, true, true, true, true, true, true, true, true, true]
abbrev mk_spec_l02Bond_2 : List Bool := [false, false, false, false, false, false, false, false, false, false, false, false, false, false, false, false, false, false, false, false, false, true, false, false, true, true, true, true, true, true, true, true, true, true]
abbrev mk_spec_l02Bond_3 : List Bool := [false, false, false, false, false, false, false, false, false, false, false, false, false, false, false, false, false, false, false, false, false, true, false, false, false, true, true, true, true, true, true, true, true, true]
abbrev mk_spec_l02Bond_4 : List Bool := [false, false, false, false, false, false, false, false, false, false, false, false, false, false, false, false, false, false, false, false, false, true, false, false, false, false, false, true, true, true, true, true, true, true]
abbrev mk_spec_l02Bond_5 : List Bool := [false, false, false, false, false, false, false, false, false, false, false, false, false, false, false, false, false, false, false, false, false, true, false, false, false, false, false, false, true, true, true, true, true, true]
abbrev mk_spec_l02Bond_6 : List Bool := [false, false, false, false, false, false, false, false, false, false, false, false, false, false, false, false, false, false, false, false, false, true, false, false, false, false, false, false, false, true, true, true, true, true]
abbrev mk_spec_l02Bond_7 : List Bool := [false, false, false, false, false, false, false, false, false, false, false, false, false, false, false, false, false, false, false, false, false, true, true, true, true, true, true, true, true, true, false, true, true, true]
abbrev mk_spec_l02Bond_8 : List Bool := [false, false, false, false, false, false, false, false, false, false, false, false, false, false, false, false, false, false, false, false, false, true, false, false, false, false, false, false, false, false, false, false, true, true]
abbrev mk_spec_l02Bond_9 : List Bool := [false, false, false, false, false, false, false, false, false, false, false, false, false, false, false, false, false, false, false, false, false, true, false, false, false, false, false, false, false, false, false, false, false, true]
/-- spec.l02Bond -/
def code_spec_l02Bond : VCode := (.seq (.ops [
  ⟨(some 8), none, (.asg (.const (.int .i64 0)))⟩]) (.seq (.ops [
  ⟨(some 10), none, (.mv (.tmp 0))⟩,
  ⟨(some 11), none, (.nilc (.tmp 10))⟩,
  ⟨(some 12), none, (.fa 1 (.tmp 11))⟩,
  ⟨(some 13), none, (.load 1 false (.tmp 12))⟩,
  ⟨(some 14), none, (.mv (.tmp 1))⟩,
  ⟨(some 15), none, (.ia 2 (.tmp 13) (.tmp 14))⟩,
  ⟨(some 16), none, (.fa 1 (.tmp 15))⟩,
  ⟨(some 17), none, (.load 1 false (.tmp 16))⟩,
  ⟨(some 18), none, (.mv (.tmp 2))⟩,
  ⟨(some 19), none, (.ia 1 (.tmp 17) (.tmp 18))⟩,
  ⟨(some 20), none, (.load 1 false (.tmp 19))⟩,
  ⟨(some 9), none, (.asg (.tmp 20))⟩]) (.seq (.seq (.draw mk_spec_l02Bond_0 [] [⟨0, mk_spec_l02Bond_0, [], ⟨(some 21), none, (.mv (.tmp 9))⟩⟩, ⟨1, mk_spec_l02Bond_0, [], ⟨(some 22), none, (.mv (.tmp 0))⟩⟩, ⟨2, mk_spec_l02Bond_1, [], ⟨(some 23), none, (.nilc (.tmp 22))⟩⟩, ⟨3, mk_spec_l02Bond_2, [], ⟨(some 24), none, (.fa 1 (.tmp 23))⟩⟩, ⟨4, mk_spec_l02Bond_3, [], ⟨(some 25), none, (.load 1 false (.tmp 24))⟩⟩, ⟨5, mk_spec_l02Bond_0, [], ⟨(some 26), none, (.mv (.tmp 3))⟩⟩, ⟨6, mk_spec_l02Bond_4, [], ⟨(some 27), none, (.ia 2 (.tmp 25) (.tmp 26))⟩⟩, ⟨7, mk_spec_l02Bond_5, [], ⟨(some 28), none, (.fa 1 (.tmp 27))⟩⟩, ⟨8, mk_spec_l02Bond_6, [], ⟨(some 29), none, (.load 1 false (.tmp 28))⟩⟩, ⟨9, mk_spec_l02Bond_0, [], ⟨(some 30), none, (.mv (.tmp 2))⟩⟩, ⟨10, mk_spec_l02Bond_7, [], ⟨(some 31), none, (.call 147 [(.tmp 30)])⟩⟩, ⟨11, mk_spec_l02Bond_8, [], ⟨(some 32), none, (.ia 1 (.tmp 29) (.tmp 31))⟩⟩, ⟨12, mk_spec_l02Bond_9, [], ⟨(some 33), none, (.load 1 false (.tmp 32))⟩⟩] [⟨(some 34), none, (.bin .neq (.tmp 21) (.tmp 33))⟩]) (.cond (.tmp 34) (.seq (.ops [
  ⟨(some 8), none, (.asg (.const (.int .i64 0)))⟩]) .ret) .skip)) (.seq (.ops [
  ⟨(some 35), none, (.mv (.tmp 0))⟩,
  ⟨(some 36), none, (.mv (.tmp 9))⟩,
  ⟨(some 37), none, (.callX 148 [(.tmp 35), (.tmp 36)])⟩,
  ⟨(some 8), none, (.asg (.tmp 37))⟩]) .ret))))
theorem law_spec_l02Bond {a0 a1 a2 a3 d : D} (h : code_spec_l02Bond.wp (CT Try.prog NoG) (endQ [(.t 8)] d) [a0, a1, a2, a3, .undef, .undef, .undef, .undef, .undef, .undef, .undef, .undef, .undef, .undef, .undef, .undef, .undef, .undef, .undef, .undef, .undef, .undef, .undef, .undef, .undef, .undef, .undef, .undef, .undef, .undef, .undef, .undef, .undef, .undef, .undef, .undef, .undef, .undef]) : Contract Try.prog NoG 117 [a0, a1, a2, a3] d :=
  contract_of noG Try.func117 (fun us W => by kernel_rfl) (c := Try.f117.body.getD .skip) (ms := []) (ms' := []) (by kernel_rfl) (by kernel_rfl) (by kernel_rfl) h
set_option maxHeartbeats 1000000 in
theorem v_l02Bond (a : TileSet) (h : okSet a = true) (t d k : Nat) (ht : t < a.Tiles.length) (hd : d < 4) (hk : k < a.Tiles.length) : Contract Try.prog NoG 117 [.iptr (TileSet.td.d false a) 0, .v (.int .i64 (t : Int)), .v (.int .i64 (d : Int)), .v (.int .i64 (k : Int))] (.v (.int .i64 (bondN a t d k))) := by
  rw [TileSet.td_d]
  refine law_spec_l02Bond ?_
  unfold code_spec_l02Bond
  have e1 := List.getElem?_eq_getElem ht
  have e2 := List.getElem?_eq_getElem hk
  have h4 := okSet_sides4 h ht
  have k4 := okSet_sides4 h hk
  have hm : (d + 2) % 4 < 4 := Nat.mod_lt _ (by omega)
  have e3 := side_at h ht hd
  have e4 := side_at h hk hm
  have hi := side_in h ht hd
  have hd' : d < a.Tiles[t].Sides.length := by omega
  have hm' : (d + 2) % 4 < a.Tiles[k].Sides.length := by omega
  simp -implicitDefEqProofs (disch := omega) only [go_sem, ↓reduceIte, Nat.reduceAdd, Nat.reduceMul, Nat.reduceLeDiff, reduceCtorEq, Nat.reduceEqDiff, Nat.reduceBEq, Nat.reduceBNe, Option.some.injEq , List.length_map, Int.toNat_natCast, Int.ofNat_lt, Int.natCast_nonneg, List.getElem?_map, Option.map_some, ht, e1, Tile.td_d, hd', e3, hk, e2]
  refine call_leNA (v_Opposite d hd) (by simp -implicitDefEqProofs (disch := omega) only [go_sem, ↓reduceIte, Nat.reduceAdd, Nat.reduceMul, Nat.reduceLeDiff, reduceCtorEq, Nat.reduceEqDiff, Nat.reduceBEq, Nat.reduceBNe, Option.some.injEq, deep, TD.rows, immLL_rI, immLL_rB8, immLL_rS, immLL_rBo, immLL_rII, List.length_map, Int.toNat_natCast, Int.ofNat_lt, Int.natCast_nonneg, List.getElem?_map, Option.map_some, hm', e4]; exact rfl) (by repeat (first | exact leL_nil | refine leL_cons ?_ ?_ | exact le_of_eq rfl | exact le_slf rfl (by first | rfl | exact TD.rows _ _ _) | refine le_agg ?_ | (refine le_iptrN ?_; simp only [List.drop_succ_cons, List.drop_zero, List.take_succ_cons, List.take_zero, List.take_nil, List.length_cons, List.length_nil, Nat.zero_add, Nat.reduceAdd]) | refine le_iptr ?_ | refine le_fn ?_ ?_)) (by first | exact .inl rfl | exact .inl (by simp only [D.noImm, noImmL, Bool.and_true, Bool.true_and, TD.nims, TD.nim, nim_rI, nim_rB8, nim_rBo, nim_rS])) ?_
  simp -implicitDefEqProofs (disch := omega) only [go_sem, ↓reduceIte, Nat.reduceAdd, Nat.reduceMul, Nat.reduceLeDiff, reduceCtorEq, Nat.reduceEqDiff, Nat.reduceBEq, Nat.reduceBNe, Option.some.injEq , List.length_map, Int.toNat_natCast, Int.ofNat_lt, Int.natCast_nonneg, List.getElem?_map, Option.map_some, hm', e4]
  cases hb : decide (sideN a t d = sideN a k ((d + 2) % 4)) with
  | false =>
    have hv : bondN a t d k = 0 := by unfold bondN; rw [if_neg (of_decide_eq_false hb)]
    simp -implicitDefEqProofs (disch := omega) only [go_sem, ↓reduceIte, Nat.reduceAdd, Nat.reduceMul, Nat.reduceLeDiff, reduceCtorEq, Nat.reduceEqDiff, Nat.reduceBEq, Nat.reduceBNe, Option.some.injEq , hv]
  | true =>
    have hv : bondN a t d k = gStr a (sideN a t d) := by unfold bondN; rw [if_pos (of_decide_eq_true hb)]
    simp -implicitDefEqProofs (disch := omega) only [go_sem, ↓reduceIte, Nat.reduceAdd, Nat.reduceMul, Nat.reduceLeDiff, reduceCtorEq, Nat.reduceEqDiff, Nat.reduceBEq, Nat.reduceBNe, Option.some.injEq]
    refine call_leA (v_l02Strength a h (sideN a t d) hi.1 hi.2) (by simp -implicitDefEqProofs (disch := omega) only [go_sem, ↓reduceIte, Nat.reduceAdd, Nat.reduceMul, Nat.reduceLeDiff, reduceCtorEq, Nat.reduceEqDiff, Nat.reduceBEq, Nat.reduceBNe, Option.some.injEq, deep, TD.rows, immLL_rI, immLL_rB8, immLL_rS, immLL_rBo, immLL_rII, hv]; exact rfl) (by repeat (first | exact leL_nil | refine leL_cons ?_ ?_ | exact le_of_eq rfl | exact le_slf rfl (by first | rfl | exact TD.rows _ _ _) | refine le_agg ?_ | (refine le_iptrN ?_; simp only [List.drop_succ_cons, List.drop_zero, List.take_succ_cons, List.take_zero, List.take_nil, List.length_cons, List.length_nil, Nat.zero_add, Nat.reduceAdd]) | refine le_iptr ?_ | refine le_fn ?_ ?_)) (by first | exact .inl rfl | exact .inl (by simp only [D.noImm, noImmL, Bool.and_true, Bool.true_and, TD.nims, TD.nim, nim_rI, nim_rB8, nim_rBo, nim_rS])) ?_
    simp -implicitDefEqProofs (disch := omega) only [go_sem, ↓reduceIte, Nat.reduceAdd, Nat.reduceMul, Nat.reduceLeDiff, reduceCtorEq, Nat.reduceEqDiff, Nat.reduceBEq, Nat.reduceBNe, Option.some.injEq , hv]
/-- A tile that is found is one of the set's. -/
theorem tileA_in {a : TileSet} {b : Assembly} (h : okAsm a b = true) (p : Point) : tileA b.Tiles p = -1 ∨ ∃ k : Nat, tileA b.Tiles p = (k : Int) ∧ k < a.Tiles.length := by
  unfold tileA
  cases hp : atP b.Tiles p with
  | false => exact .inl rfl
  | true =>
    obtain ⟨hb, _⟩ := atP_lt hp
    rw [List.getElem?_eq_getElem hb]
    unfold okAsm at h
    simp only [Bool.and_eq_true] at h
    have := h.2
    rw [List.all_eq_true] at this
    have := inR_iff.1 (this _ (List.getElem_mem hb))
    exact .inr ⟨b.Tiles[bsA b.Tiles p].Tile.toNat, by simp only [if_true]; omega, by omega⟩
def bindC (a : TileSet) (ps : List Placed) (p : Point) (t d : Nat) : Int := if 0 ≤ tileA ps (stepP p d) then bondN a t d (tileA ps (stepP p d)).toNat else 0
def bindS (a : TileSet) (ps : List Placed) (p : Point) (t : Nat) : Nat → Int
  | 0 => 0
  | d + 1 => bindS a ps p t d + bindC a ps p t d
theorem bindC_in {a : TileSet} (h : okSet a = true) {ps : List Placed} {p : Point} {t d : Nat} (ht : t < a.Tiles.length) (hd : d < 4) : 0 ≤ bindC a ps p t d ∧ bindC a ps p t d ≤ 4 := by
  unfold bindC
  split
  · exact bond_in h ht hd
  · omega
theorem bindS_in {a : TileSet} (h : okSet a = true) {ps : List Placed} {p : Point} {t : Nat} (ht : t < a.Tiles.length) : ∀ d, d ≤ 4 → 0 ≤ bindS a ps p t d ∧ bindS a ps p t d ≤ 4 * d
  | 0, _ => by simp [bindS]
  | d + 1, hd => by
    have h1 := bindS_in h (ps := ps) (p := p) ht d (by omega)
    have h2 := bindC_in h (ps := ps) (p := p) ht (d := d) (by omega)
    simp only [bindS]
    omega
abbrev mk_impl_TileSet_binding_0 : List Bool := [true, true, false, false, false, false, true, true, true, false, true, true, false, true, true, true, true, true, true, true, true, true, true, true, true, true, true, true, true, true, true]
/-- (impl.TileSet).binding -/
def code_impl_TileSet_binding : VCode := (.seq (.ops [
  ⟨(some 4), none, (.box (.tmp 0))⟩,
  ⟨(some 5), none, (.box (.tmp 1))⟩,
  ⟨(some 8), none, (.asg (.const (.int .i64 0)))⟩]) (.seq (.ops [
  ⟨(some 9), none, (.asg (.const (.int .i64 0)))⟩]) (.seq (.seq (.ops [
  ⟨(some 12), none, (.mv (.const (.int .i64 0)))⟩]) (.block 0 (.loop mk_impl_TileSet_binding_0 (.seq (.ops [
  ⟨(some 13), none, (.bin .lss (.tmp 12) (.const (.int .i64 4)))⟩]) (.seq (.cond (.tmp 13) .skip (.exit 0)) (.seq (.block 1 (.seq (.ops [
  ⟨(some 14), none, (.mv (.tmp 12))⟩,
  ⟨(some 10), none, (.asg (.tmp 14))⟩]) (.seq (.ops [
  ⟨(some 15), none, (.mv (.tmp 3))⟩,
  ⟨(some 16), none, (.load 2 true (.tmp 5))⟩,
  ⟨(some 17), none, (.mv (.tmp 10))⟩,
  ⟨(some 18), none, (.callX 119 [(.tmp 16), (.tmp 17)])⟩,
  ⟨(some 19), none, (.callvX (.tmp 15) [(.tmp 18)])⟩,
  ⟨(some 11), none, (.asg (.tmp 19))⟩]) (.seq (.ops [
  ⟨(some 20), none, (.mv (.tmp 11))⟩,
  ⟨(some 21), none, (.bin .geq (.tmp 20) (.const (.int .i64 0)))⟩]) (.cond (.tmp 21) (.ops [
  ⟨(some 22), none, (.mv (.tmp 9))⟩,
  ⟨(some 23), none, (.load 2 true (.tmp 4))⟩,
  ⟨(some 24), none, (.mv (.tmp 2))⟩,
  ⟨(some 25), none, (.mv (.tmp 10))⟩,
  ⟨(some 26), none, (.mv (.tmp 11))⟩,
  ⟨(some 27), none, (.callX 120 [(.tmp 23), (.tmp 24), (.tmp 25), (.tmp 26)])⟩,
  ⟨(some 28), none, (.bin .add (.tmp 22) (.tmp 27))⟩,
  ⟨(some 9), none, (.asg (.tmp 28))⟩]) .skip))))) (.ops [
  ⟨(some 29), none, (.bin .add (.tmp 12) (.const (.int .i64 1)))⟩,
  ⟨(some 12), none, (.mv (.tmp 29))⟩]))))))) (.seq (.ops [
  ⟨(some 30), none, (.mv (.tmp 9))⟩,
  ⟨(some 8), none, (.asg (.tmp 30))⟩]) .ret))))
theorem law_impl_TileSet_binding {a0 a1 a2 a3 d : D} (h : code_impl_TileSet_binding.wp (CT Try.prog NoG) (endQ [(.t 8)] d) [a0, a1, a2, a3, .undef, .undef, .undef, .undef, .undef, .undef, .undef, .undef, .undef, .undef, .undef, .undef, .undef, .undef, .undef, .undef, .undef, .undef, .undef, .undef, .undef, .undef, .undef, .undef, .undef, .undef, .undef]) : Contract Try.prog NoG 73 [a0, a1, a2, a3] d :=
  contract_of noG Try.func73 (fun us W => by kernel_rfl) (c := Try.f73.body.getD .skip) (ms := [mk_impl_TileSet_binding_0]) (ms' := []) (by kernel_rfl) (by kernel_rfl) (by kernel_rfl) h
set_option maxHeartbeats 1000000 in
theorem v_binding (a : TileSet) (b : Assembly) (p : Point) (t : Nat) (h : okSet a = true) (hb : okAsm a b = true) (hn : b.Tiles.length ≤ 1048576) (hp : Point.td.ok p) (ht : t < a.Tiles.length) : Contract Try.prog NoG 73 [.agg (TileSet.td.d false a), .agg (Point.td.d false p), .v (.int .i64 (t : Int)), .fn 74 [.agg (Assembly.td.d false b)] []] (.v (.int .i64 (bindS a b.Tiles p t 4))) := by
  rw [TileSet.td_d, Point.td_d, Assembly.td_d]
  refine law_impl_TileSet_binding ?_
  unfold code_impl_TileSet_binding
  simp -implicitDefEqProofs (disch := omega) only [go_sem, ↓reduceIte, Nat.reduceAdd, Nat.reduceMul, Nat.reduceLeDiff, reduceCtorEq, Nat.reduceEqDiff, Nat.reduceBEq, Nat.reduceBNe, Option.some.injEq]
  refine loop_ov (by simp -implicitDefEqProofs (disch := omega) only [go_sem, ↓reduceIte, Nat.reduceAdd, Nat.reduceMul, Nat.reduceLeDiff, reduceCtorEq, Nat.reduceEqDiff, Nat.reduceBEq, Nat.reduceBNe, Option.some.injEq]; exact rfl) (fun d : Nat => [(12, .v (.int .i64 (d : Nat))), (9, .v (.int .i64 (bindS a b.Tiles p t d)))]) (fun _ => by simp only [ovr_nil, ovr_cons, List.set_cons_zero, List.set_cons_succ]; exact rfl) (fun d : Nat => d ≤ 4) (fun d : Nat => 4 - d) (0) (by (try simp -implicitDefEqProofs only [nleL_cc, nleL_nn, nle_self, nle_boxs, nle_aggs, nle_nils, and_self, and_true, true_and]) <;> repeat' (first | exact nle_of_eq rfl | exact nle_nil | refine And.intro ?_ ?_ | refine nle_box ?_ | refine nle_agg ?_ | refine nle_sl ?_ | exact nleLL_nil | refine nleLL_cons ?_ ?_ | exact nleL_nil | refine nleL_cons ?_ ?_ | exact nle_rfl _)) (Nat.zero_le _) ?_
  intro d hd
  have hS := bindS_in h (ps := b.Tiles) (p := p) ht d hd
  simp -implicitDefEqProofs (disch := omega) only [go_sem, ↓reduceIte, Nat.reduceAdd, Nat.reduceMul, Nat.reduceLeDiff, reduceCtorEq, Nat.reduceEqDiff, Nat.reduceBEq, Nat.reduceBNe, Option.some.injEq]
  refine cond_split ?_ ?_ <;> intro hlt
  · have hlt : d < 4 := by have := of_decide_eq_true hlt; omega
    have hC := bindC_in h (ps := b.Tiles) (p := p) ht hlt
    simp -implicitDefEqProofs (disch := omega) only [go_sem, ↓reduceIte, Nat.reduceAdd, Nat.reduceMul, Nat.reduceLeDiff, reduceCtorEq, Nat.reduceEqDiff, Nat.reduceBEq, Nat.reduceBNe, Option.some.injEq]
    refine call_leA (v_step p d hlt hp) (by simp -implicitDefEqProofs (disch := omega) only [go_sem, ↓reduceIte, Nat.reduceAdd, Nat.reduceMul, Nat.reduceLeDiff, reduceCtorEq, Nat.reduceEqDiff, Nat.reduceBEq, Nat.reduceBNe, Option.some.injEq, deep, TD.rows, immLL_rI, immLL_rB8, immLL_rS, immLL_rBo, immLL_rII]; exact rfl) (by repeat (first | exact leL_nil | refine leL_cons ?_ ?_ | exact le_of_eq rfl | exact le_slf rfl (by first | rfl | exact TD.rows _ _ _) | refine le_agg ?_ | (refine le_iptrN ?_; simp only [List.drop_succ_cons, List.drop_zero, List.take_succ_cons, List.take_zero, List.take_nil, List.length_cons, List.length_nil, Nat.zero_add, Nat.reduceAdd]) | refine le_iptr ?_ | refine le_fn ?_ ?_)) (by first | exact .inl rfl | exact .inl (by simp only [D.noImm, noImmL, Bool.and_true, Bool.true_and, TD.nims, TD.nim, nim_rI, nim_rB8, nim_rBo, nim_rS])) ?_
    simp -implicitDefEqProofs (disch := omega) only [go_sem, ↓reduceIte, Nat.reduceAdd, Nat.reduceMul, Nat.reduceLeDiff, reduceCtorEq, Nat.reduceEqDiff, Nat.reduceBEq, Nat.reduceBNe, Option.some.injEq]
    refine callv_leA (f := 74) (first := [.agg [.sl false 3 (b.Tiles.map (Placed.td.d false))]]) (caps := []) (by simp -implicitDefEqProofs (disch := omega) only [go_sem, ↓reduceIte, Nat.reduceAdd, Nat.reduceMul, Nat.reduceLeDiff, reduceCtorEq, Nat.reduceEqDiff, Nat.reduceBEq, Nat.reduceBNe, Option.some.injEq]) (v_at b (stepP p d) hn) (by simp -implicitDefEqProofs (disch := omega) only [go_sem, ↓reduceIte, Nat.reduceAdd, Nat.reduceMul, Nat.reduceLeDiff, reduceCtorEq, Nat.reduceEqDiff, Nat.reduceBEq, Nat.reduceBNe, Option.some.injEq, deep, TD.rows, immLL_rI, immLL_rB8, immLL_rS, immLL_rBo, immLL_rII]; exact rfl) (by repeat (first | exact leL_nil | refine leL_cons ?_ ?_ | exact le_of_eq rfl | exact le_slf rfl (by first | rfl | exact TD.rows _ _ _) | refine le_agg ?_ | (refine le_iptrN ?_; simp only [List.drop_succ_cons, List.drop_zero, List.take_succ_cons, List.take_zero, List.take_nil, List.length_cons, List.length_nil, Nat.zero_add, Nat.reduceAdd]) | refine le_iptr ?_ | refine le_fn ?_ ?_)) (by first | exact .inl rfl | exact .inl (by simp only [D.noImm, noImmL, Bool.and_true, Bool.true_and, TD.nims, TD.nim, nim_rI, nim_rB8, nim_rBo, nim_rS])) ?_
    simp -implicitDefEqProofs (disch := omega) only [go_sem, ↓reduceIte, Nat.reduceAdd, Nat.reduceMul, Nat.reduceLeDiff, reduceCtorEq, Nat.reduceEqDiff, Nat.reduceBEq, Nat.reduceBNe, Option.some.injEq]
    rcases tileA_in hb (stepP p d) with h1 | ⟨k, h1, hk⟩
    · have hc : bindC a b.Tiles p t d = 0 := by unfold bindC; rw [h1]; rfl
      simp -implicitDefEqProofs (disch := omega) only [go_sem, ↓reduceIte, Nat.reduceAdd, Nat.reduceMul, Nat.reduceLeDiff, reduceCtorEq, Nat.reduceEqDiff, Nat.reduceBEq, Nat.reduceBNe, Option.some.injEq , h1, Int.reduceLE, wrN]
      refine ⟨d + 1, by omega, hlt, ?_⟩
      simp only [bindS, hc, Int.add_zero]
      (try simp -implicitDefEqProofs only [nleL_cc, nleL_nn, nle_self, nle_boxs, nle_aggs, nle_nils, and_self, and_true, true_and]) <;> repeat' (first | exact nle_of_eq rfl | exact nle_nil | refine And.intro ?_ ?_ | refine nle_box ?_ | refine nle_agg ?_ | refine nle_sl ?_ | exact nleLL_nil | refine nleLL_cons ?_ ?_ | exact nleL_nil | refine nleL_cons ?_ ?_ | exact nle_rfl _)
    · have hc : bindC a b.Tiles p t d = bondN a t d k := by unfold bindC; rw [h1, if_pos (by omega), Int.toNat_natCast]
      rw [hc] at hC
      have hw : IntKind.i64.wrap (bindS a b.Tiles p t d + bondN a t d k) = bindS a b.Tiles p t d + bondN a t d k := wrI (by omega) (by omega)
      simp -implicitDefEqProofs (disch := omega) only [go_sem, ↓reduceIte, Nat.reduceAdd, Nat.reduceMul, Nat.reduceLeDiff, reduceCtorEq, Nat.reduceEqDiff, Nat.reduceBEq, Nat.reduceBNe, Option.some.injEq , h1, Int.natCast_nonneg]
      refine call_leA (v_bond a h t d k ht hlt hk) (by simp -implicitDefEqProofs (disch := omega) only [go_sem, ↓reduceIte, Nat.reduceAdd, Nat.reduceMul, Nat.reduceLeDiff, reduceCtorEq, Nat.reduceEqDiff, Nat.reduceBEq, Nat.reduceBNe, Option.some.injEq, deep, TD.rows, immLL_rI, immLL_rB8, immLL_rS, immLL_rBo, immLL_rII, hw, wrN]; exact rfl) (by repeat (first | exact leL_nil | refine leL_cons ?_ ?_ | exact le_of_eq rfl | exact le_slf rfl (by first | rfl | exact TD.rows _ _ _) | refine le_agg ?_ | (refine le_iptrN ?_; simp only [List.drop_succ_cons, List.drop_zero, List.take_succ_cons, List.take_zero, List.take_nil, List.length_cons, List.length_nil, Nat.zero_add, Nat.reduceAdd]) | refine le_iptr ?_ | refine le_fn ?_ ?_)) (by first | exact .inl rfl | exact .inl (by simp only [D.noImm, noImmL, Bool.and_true, Bool.true_and, TD.nims, TD.nim, nim_rI, nim_rB8, nim_rBo, nim_rS])) ?_
      simp -implicitDefEqProofs (disch := omega) only [go_sem, ↓reduceIte, Nat.reduceAdd, Nat.reduceMul, Nat.reduceLeDiff, reduceCtorEq, Nat.reduceEqDiff, Nat.reduceBEq, Nat.reduceBNe, Option.some.injEq , hw, wrN]
      refine ⟨d + 1, by omega, hlt, ?_⟩
      simp only [bindS, hc]
      (try simp -implicitDefEqProofs only [nleL_cc, nleL_nn, nle_self, nle_boxs, nle_aggs, nle_nils, and_self, and_true, true_and]) <;> repeat' (first | exact nle_of_eq rfl | exact nle_nil | refine And.intro ?_ ?_ | refine nle_box ?_ | refine nle_agg ?_ | refine nle_sl ?_ | exact nleLL_nil | refine nleLL_cons ?_ ?_ | exact nleL_nil | refine nleL_cons ?_ ?_ | exact nle_rfl _)
  · obtain rfl : d = 4 := by have := of_decide_eq_false hlt
                             omega
    simp -implicitDefEqProofs (disch := omega) only [go_sem, ↓reduceIte, Nat.reduceAdd, Nat.reduceMul, Nat.reduceLeDiff, reduceCtorEq, Nat.reduceEqDiff, Nat.reduceBEq, Nat.reduceBNe, Option.some.injEq]
/-- spec.l03At -/
def code_spec_l03At : VCode := (.seq (.ops [
  ⟨(some 3), none, (.box (.tmp 1))⟩,
  ⟨(some 4), none, (.asg (.const (.int .i64 0)))⟩]) (.seq (.ops [
  ⟨(some 6), none, (.mv (.tmp 0))⟩,
  ⟨(some 7), none, (.load 2 true (.tmp 3))⟩,
  ⟨(some 8), none, (.callX 144 [(.tmp 6), (.tmp 7)])⟩,
  ⟨(some 5), none, (.asg (.tmp 8))⟩]) (.seq (.seq (.ops [
  ⟨(some 9), none, (.mv (.tmp 5))⟩,
  ⟨(some 10), none, (.bin .lss (.tmp 9) (.const (.int .i64 0)))⟩]) (.cond (.tmp 10) (.seq (.ops [
  ⟨(some 4), none, (.asg (.const (.int .i64 (-1))))⟩]) .ret) .skip)) (.seq (.ops [
  ⟨(some 11), none, (.mv (.tmp 0))⟩,
  ⟨(some 12), none, (.nilc (.tmp 11))⟩,
  ⟨(some 13), none, (.fa 0 (.tmp 12))⟩,
  ⟨(some 14), none, (.load 1 false (.tmp 13))⟩,
  ⟨(some 15), none, (.mv (.tmp 5))⟩,
  ⟨(some 16), none, (.ia 3 (.tmp 14) (.tmp 15))⟩,
  ⟨(some 17), none, (.fa 2 (.tmp 16))⟩,
  ⟨(some 18), none, (.load 1 false (.tmp 17))⟩,
  ⟨(some 4), none, (.asg (.tmp 18))⟩]) .ret))))
theorem law_spec_l03At {a0 a1 d : D} (h : code_spec_l03At.wp (CT Try.prog NoG) (endQ [(.t 4)] d) [a0, a1, .undef, .undef, .undef, .undef, .undef, .undef, .undef, .undef, .undef, .undef, .undef, .undef, .undef, .undef, .undef, .undef, .undef]) : Contract Try.prog NoG 115 [a0, a1] d :=
  contract_of noG Try.func115 (fun us W => by kernel_rfl) (c := Try.f115.body.getD .skip) (ms := []) (ms' := []) (by kernel_rfl) (by kernel_rfl) (by kernel_rfl) h
theorem v_l03At (b : Assembly) (p : Point) (hn : b.Tiles.length ≤ 1048576) : Contract Try.prog NoG 115 [.iptr (Assembly.td.d false b) 0, .agg (Point.td.d false p)] (.v (.int .i64 (tileA b.Tiles p))) := by
  rw [Assembly.td_d, Point.td_d]
  refine law_spec_l03At ?_
  unfold code_spec_l03At
  simp -implicitDefEqProofs (disch := omega) only [go_sem, ↓reduceIte, Nat.reduceAdd, Nat.reduceMul, Nat.reduceLeDiff, reduceCtorEq, Nat.reduceEqDiff, Nat.reduceBEq, Nat.reduceBNe, Option.some.injEq]
  cases h : atP b.Tiles p with
  | false =>
    have hi : idxA b.Tiles p = -1 := by unfold idxA; rw [h]; rfl
    refine call_leA (v_l03Index b p hn) (by simp -implicitDefEqProofs (disch := omega) only [go_sem, ↓reduceIte, Nat.reduceAdd, Nat.reduceMul, Nat.reduceLeDiff, reduceCtorEq, Nat.reduceEqDiff, Nat.reduceBEq, Nat.reduceBNe, Option.some.injEq, deep, TD.rows, immLL_rI, immLL_rB8, immLL_rS, immLL_rBo, immLL_rII, hi, h, tileA, Int.reduceLT]; exact rfl) (by repeat (first | exact leL_nil | refine leL_cons ?_ ?_ | exact le_of_eq rfl | exact le_slf rfl (by first | rfl | exact TD.rows _ _ _) | refine le_agg ?_ | (refine le_iptrN ?_; simp only [List.drop_succ_cons, List.drop_zero, List.take_succ_cons, List.take_zero, List.take_nil, List.length_cons, List.length_nil, Nat.zero_add, Nat.reduceAdd]) | refine le_iptr ?_ | refine le_fn ?_ ?_)) (by first | exact .inl rfl | exact .inl (by simp only [D.noImm, noImmL, Bool.and_true, Bool.true_and, TD.nims, TD.nim, nim_rI, nim_rB8, nim_rBo, nim_rS])) ?_
    simp -implicitDefEqProofs (disch := omega) only [go_sem, ↓reduceIte, Nat.reduceAdd, Nat.reduceMul, Nat.reduceLeDiff, reduceCtorEq, Nat.reduceEqDiff, Nat.reduceBEq, Nat.reduceBNe, Option.some.injEq , hi, h, tileA, Int.reduceLT]
  | true =>
    obtain ⟨hb, _⟩ := atP_lt h
    have e1 := List.getElem?_eq_getElem hb
    have hi : idxA b.Tiles p = (bsA b.Tiles p : Nat) := by unfold idxA; rw [h]; rfl
    have d1 : decide (((bsA b.Tiles p : Nat) : Int) < 0) = false := by rw [decide_eq_false_iff_not]; omega
    refine call_leA (v_l03Index b p hn) (by simp -implicitDefEqProofs (disch := omega) only [go_sem, ↓reduceIte, Nat.reduceAdd, Nat.reduceMul, Nat.reduceLeDiff, reduceCtorEq, Nat.reduceEqDiff, Nat.reduceBEq, Nat.reduceBNe, Option.some.injEq, deep, TD.rows, immLL_rI, immLL_rB8, immLL_rS, immLL_rBo, immLL_rII, hi, h, tileA, d1, List.length_map, Int.toNat_natCast, Int.ofNat_lt, Int.natCast_nonneg, List.getElem?_map, Option.map_some, hb, e1, Placed.td_d]; exact rfl) (by repeat (first | exact leL_nil | refine leL_cons ?_ ?_ | exact le_of_eq rfl | exact le_slf rfl (by first | rfl | exact TD.rows _ _ _) | refine le_agg ?_ | (refine le_iptrN ?_; simp only [List.drop_succ_cons, List.drop_zero, List.take_succ_cons, List.take_zero, List.take_nil, List.length_cons, List.length_nil, Nat.zero_add, Nat.reduceAdd]) | refine le_iptr ?_ | refine le_fn ?_ ?_)) (by first | exact .inl rfl | exact .inl (by simp only [D.noImm, noImmL, Bool.and_true, Bool.true_and, TD.nims, TD.nim, nim_rI, nim_rB8, nim_rBo, nim_rS])) ?_
    simp -implicitDefEqProofs (disch := omega) only [go_sem, ↓reduceIte, Nat.reduceAdd, Nat.reduceMul, Nat.reduceLeDiff, reduceCtorEq, Nat.reduceEqDiff, Nat.reduceBEq, Nat.reduceBNe, Option.some.injEq , hi, h, tileA, d1, List.length_map, Int.toNat_natCast, Int.ofNat_lt, Int.natCast_nonneg, List.getElem?_map, Option.map_some, hb, e1, Placed.td_d]
abbrev mk_spec_l06Binding_0 : List Bool := [false, false, true, false, true, true, false, true, true, false, false, true, true, true, true, true, true, true, true, true, true, true, true, true, true, true, true, true, true, true, true]
/-- spec.l06Binding -/
def code_spec_l06Binding : VCode := (.seq (.ops [
  ⟨(some 6), none, (.box (.tmp 2))⟩,
  ⟨(some 8), none, (.asg (.const (.int .i64 0)))⟩]) (.seq (.ops [
  ⟨(some 9), none, (.asg (.const (.int .i64 0)))⟩]) (.seq (.seq (.ops [
  ⟨(some 10), none, (.asg (.const (.int .i64 0)))⟩]) (.block 0 (.loop mk_spec_l06Binding_0 (.seq (.seq (.ops [
  ⟨(some 12), none, (.mv (.tmp 10))⟩,
  ⟨(some 13), none, (.bin .lss (.tmp 12) (.const (.int .i64 4)))⟩]) (.cond (.tmp 13) .skip (.exit 0))) (.seq (.block 1 (.seq (.ops [
  ⟨(some 16), none, (.mv (.tmp 1))⟩,
  ⟨(some 17), none, (.load 2 true (.tmp 6))⟩,
  ⟨(some 18), none, (.mv (.tmp 10))⟩,
  ⟨(some 19), none, (.callX 116 [(.tmp 17), (.tmp 18)])⟩,
  ⟨(some 20), none, (.callX 115 [(.tmp 16), (.tmp 19)])⟩,
  ⟨(some 11), none, (.asg (.tmp 20))⟩]) (.seq (.ops [
  ⟨(some 21), none, (.mv (.tmp 11))⟩,
  ⟨(some 22), none, (.bin .geq (.tmp 21) (.const (.int .i64 0)))⟩]) (.cond (.tmp 22) (.ops [
  ⟨(some 23), none, (.mv (.tmp 9))⟩,
  ⟨(some 24), none, (.mv (.tmp 0))⟩,
  ⟨(some 25), none, (.mv (.tmp 3))⟩,
  ⟨(some 26), none, (.mv (.tmp 10))⟩,
  ⟨(some 27), none, (.mv (.tmp 11))⟩,
  ⟨(some 28), none, (.callX 117 [(.tmp 24), (.tmp 25), (.tmp 26), (.tmp 27)])⟩,
  ⟨(some 29), none, (.bin .add (.tmp 23) (.tmp 28))⟩,
  ⟨(some 9), none, (.asg (.tmp 29))⟩]) .skip)))) (.ops [
  ⟨(some 14), none, (.mv (.tmp 10))⟩,
  ⟨(some 15), none, (.bin .add (.tmp 14) (.const (.int .i64 1)))⟩,
  ⟨(some 10), none, (.asg (.tmp 15))⟩])))))) (.seq (.ops [
  ⟨(some 30), none, (.mv (.tmp 9))⟩,
  ⟨(some 8), none, (.asg (.tmp 30))⟩]) .ret))))
theorem law_spec_l06Binding {a0 a1 a2 a3 d : D} (h : code_spec_l06Binding.wp (CT Try.prog NoG) (endQ [(.t 8)] d) [a0, a1, a2, a3, .undef, .undef, .undef, .undef, .undef, .undef, .undef, .undef, .undef, .undef, .undef, .undef, .undef, .undef, .undef, .undef, .undef, .undef, .undef, .undef, .undef, .undef, .undef, .undef, .undef, .undef, .undef]) : Contract Try.prog NoG 70 [a0, a1, a2, a3] d :=
  contract_of noG Try.func70 (fun us W => by kernel_rfl) (c := Try.f70.body.getD .skip) (ms := [mk_spec_l06Binding_0]) (ms' := []) (by kernel_rfl) (by kernel_rfl) (by kernel_rfl) h
set_option maxHeartbeats 1000000 in
theorem v_l06Binding (a : TileSet) (b : Assembly) (p : Point) (t : Nat) (h : okSet a = true) (hb : okAsm a b = true) (hn : b.Tiles.length ≤ 1048576) (ht : t < a.Tiles.length) : Contract Try.prog NoG 70 [.iptr (TileSet.td.d false a) 0, .iptr (Assembly.td.d false b) 0, .agg (Point.td.d false p), .v (.int .i64 (t : Int))] (.v (.int .i64 (bindS a b.Tiles p t 4))) := by
  rw [TileSet.td_d, Point.td_d, Assembly.td_d]
  refine law_spec_l06Binding ?_
  unfold code_spec_l06Binding
  simp -implicitDefEqProofs (disch := omega) only [go_sem, ↓reduceIte, Nat.reduceAdd, Nat.reduceMul, Nat.reduceLeDiff, reduceCtorEq, Nat.reduceEqDiff, Nat.reduceBEq, Nat.reduceBNe, Option.some.injEq]
  refine loop_ov (by simp -implicitDefEqProofs (disch := omega) only [go_sem, ↓reduceIte, Nat.reduceAdd, Nat.reduceMul, Nat.reduceLeDiff, reduceCtorEq, Nat.reduceEqDiff, Nat.reduceBEq, Nat.reduceBNe, Option.some.injEq]; exact rfl) (fun d : Nat => [(10, .v (.int .i64 (d : Nat))), (9, .v (.int .i64 (bindS a b.Tiles p t d)))]) (fun _ => by simp only [ovr_nil, ovr_cons, List.set_cons_zero, List.set_cons_succ]; exact rfl) (fun d : Nat => d ≤ 4) (fun d : Nat => 4 - d) (0) (by (try simp -implicitDefEqProofs only [nleL_cc, nleL_nn, nle_self, nle_boxs, nle_aggs, nle_nils, and_self, and_true, true_and]) <;> repeat' (first | exact nle_of_eq rfl | exact nle_nil | refine And.intro ?_ ?_ | refine nle_box ?_ | refine nle_agg ?_ | refine nle_sl ?_ | exact nleLL_nil | refine nleLL_cons ?_ ?_ | exact nleL_nil | refine nleL_cons ?_ ?_ | exact nle_rfl _)) (Nat.zero_le _) ?_
  intro d hd
  have hS := bindS_in h (ps := b.Tiles) (p := p) ht d hd
  simp -implicitDefEqProofs (disch := omega) only [go_sem, ↓reduceIte, Nat.reduceAdd, Nat.reduceMul, Nat.reduceLeDiff, reduceCtorEq, Nat.reduceEqDiff, Nat.reduceBEq, Nat.reduceBNe, Option.some.injEq]
  refine cond_split ?_ ?_ <;> intro hlt
  · have hlt : d < 4 := by have := of_decide_eq_true hlt; omega
    have hC := bindC_in h (ps := b.Tiles) (p := p) ht hlt
    simp -implicitDefEqProofs (disch := omega) only [go_sem, ↓reduceIte, Nat.reduceAdd, Nat.reduceMul, Nat.reduceLeDiff, reduceCtorEq, Nat.reduceEqDiff, Nat.reduceBEq, Nat.reduceBNe, Option.some.injEq]
    refine call_leA (v_l01Step p d hlt) (by simp -implicitDefEqProofs (disch := omega) only [go_sem, ↓reduceIte, Nat.reduceAdd, Nat.reduceMul, Nat.reduceLeDiff, reduceCtorEq, Nat.reduceEqDiff, Nat.reduceBEq, Nat.reduceBNe, Option.some.injEq, deep, TD.rows, immLL_rI, immLL_rB8, immLL_rS, immLL_rBo, immLL_rII]; exact rfl) (by repeat (first | exact leL_nil | refine leL_cons ?_ ?_ | exact le_of_eq rfl | exact le_slf rfl (by first | rfl | exact TD.rows _ _ _) | refine le_agg ?_ | (refine le_iptrN ?_; simp only [List.drop_succ_cons, List.drop_zero, List.take_succ_cons, List.take_zero, List.take_nil, List.length_cons, List.length_nil, Nat.zero_add, Nat.reduceAdd]) | refine le_iptr ?_ | refine le_fn ?_ ?_)) (by first | exact .inl rfl | exact .inl (by simp only [D.noImm, noImmL, Bool.and_true, Bool.true_and, TD.nims, TD.nim, nim_rI, nim_rB8, nim_rBo, nim_rS])) ?_
    simp -implicitDefEqProofs (disch := omega) only [go_sem, ↓reduceIte, Nat.reduceAdd, Nat.reduceMul, Nat.reduceLeDiff, reduceCtorEq, Nat.reduceEqDiff, Nat.reduceBEq, Nat.reduceBNe, Option.some.injEq]
    refine call_leA (v_l03At b (stepP p d) hn) (by simp -implicitDefEqProofs (disch := omega) only [go_sem, ↓reduceIte, Nat.reduceAdd, Nat.reduceMul, Nat.reduceLeDiff, reduceCtorEq, Nat.reduceEqDiff, Nat.reduceBEq, Nat.reduceBNe, Option.some.injEq, deep, TD.rows, immLL_rI, immLL_rB8, immLL_rS, immLL_rBo, immLL_rII]; exact rfl) (by repeat (first | exact leL_nil | refine leL_cons ?_ ?_ | exact le_of_eq rfl | exact le_slf rfl (by first | rfl | exact TD.rows _ _ _) | refine le_agg ?_ | (refine le_iptrN ?_; simp only [List.drop_succ_cons, List.drop_zero, List.take_succ_cons, List.take_zero, List.take_nil, List.length_cons, List.length_nil, Nat.zero_add, Nat.reduceAdd]) | refine le_iptr ?_ | refine le_fn ?_ ?_)) (by first | exact .inl rfl | exact .inl (by simp only [D.noImm, noImmL, Bool.and_true, Bool.true_and, TD.nims, TD.nim, nim_rI, nim_rB8, nim_rBo, nim_rS])) ?_
    simp -implicitDefEqProofs (disch := omega) only [go_sem, ↓reduceIte, Nat.reduceAdd, Nat.reduceMul, Nat.reduceLeDiff, reduceCtorEq, Nat.reduceEqDiff, Nat.reduceBEq, Nat.reduceBNe, Option.some.injEq]
    rcases tileA_in hb (stepP p d) with h1 | ⟨k, h1, hk⟩
    · have hc : bindC a b.Tiles p t d = 0 := by unfold bindC; rw [h1]; rfl
      simp -implicitDefEqProofs (disch := omega) only [go_sem, ↓reduceIte, Nat.reduceAdd, Nat.reduceMul, Nat.reduceLeDiff, reduceCtorEq, Nat.reduceEqDiff, Nat.reduceBEq, Nat.reduceBNe, Option.some.injEq , h1, Int.reduceLE, wrN]
      refine ⟨d + 1, by omega, hlt, ?_⟩
      simp only [bindS, hc, Int.add_zero]
      (try simp -implicitDefEqProofs only [nleL_cc, nleL_nn, nle_self, nle_boxs, nle_aggs, nle_nils, and_self, and_true, true_and]) <;> repeat' (first | exact nle_of_eq rfl | exact nle_nil | refine And.intro ?_ ?_ | refine nle_box ?_ | refine nle_agg ?_ | refine nle_sl ?_ | exact nleLL_nil | refine nleLL_cons ?_ ?_ | exact nleL_nil | refine nleL_cons ?_ ?_ | exact nle_rfl _)
    · have hc : bindC a b.Tiles p t d = bondN a t d k := by unfold bindC; rw [h1, if_pos (by omega), Int.toNat_natCast]
      rw [hc] at hC
      have hw : IntKind.i64.wrap (bindS a b.Tiles p t d + bondN a t d k) = bindS a b.Tiles p t d + bondN a t d k := wrI (by omega) (by omega)
      simp -implicitDefEqProofs (disch := omega) only [go_sem, ↓reduceIte, Nat.reduceAdd, Nat.reduceMul, Nat.reduceLeDiff, reduceCtorEq, Nat.reduceEqDiff, Nat.reduceBEq, Nat.reduceBNe, Option.some.injEq , h1, Int.natCast_nonneg]
      refine call_leA (v_l02Bond a h t d k ht hlt hk) (by simp -implicitDefEqProofs (disch := omega) only [go_sem, ↓reduceIte, Nat.reduceAdd, Nat.reduceMul, Nat.reduceLeDiff, reduceCtorEq, Nat.reduceEqDiff, Nat.reduceBEq, Nat.reduceBNe, Option.some.injEq, deep, TD.rows, immLL_rI, immLL_rB8, immLL_rS, immLL_rBo, immLL_rII, hw, wrN]; exact rfl) (by repeat (first | exact leL_nil | refine leL_cons ?_ ?_ | exact le_of_eq rfl | exact le_slf rfl (by first | rfl | exact TD.rows _ _ _) | refine le_agg ?_ | (refine le_iptrN ?_; simp only [List.drop_succ_cons, List.drop_zero, List.take_succ_cons, List.take_zero, List.take_nil, List.length_cons, List.length_nil, Nat.zero_add, Nat.reduceAdd]) | refine le_iptr ?_ | refine le_fn ?_ ?_)) (by first | exact .inl rfl | exact .inl (by simp only [D.noImm, noImmL, Bool.and_true, Bool.true_and, TD.nims, TD.nim, nim_rI, nim_rB8, nim_rBo, nim_rS])) ?_
      simp -implicitDefEqProofs (disch := omega) only [go_sem, ↓reduceIte, Nat.reduceAdd, Nat.reduceMul, Nat.reduceLeDiff, reduceCtorEq, Nat.reduceEqDiff, Nat.reduceBEq, Nat.reduceBNe, Option.some.injEq , hw, wrN]
      refine ⟨d + 1, by omega, hlt, ?_⟩
      simp only [bindS, hc]
      (try simp -implicitDefEqProofs only [nleL_cc, nleL_nn, nle_self, nle_boxs, nle_aggs, nle_nils, and_self, and_true, true_and]) <;> repeat' (first | exact nle_of_eq rfl | exact nle_nil | refine And.intro ?_ ?_ | refine nle_box ?_ | refine nle_agg ?_ | refine nle_sl ?_ | exact nleLL_nil | refine nleLL_cons ?_ ?_ | exact nleL_nil | refine nleL_cons ?_ ?_ | exact nle_rfl _)
  · obtain rfl : d = 4 := by have := of_decide_eq_false hlt
                             omega
    simp -implicitDefEqProofs (disch := omega) only [go_sem, ↓reduceIte, Nat.reduceAdd, Nat.reduceMul, Nat.reduceLeDiff, reduceCtorEq, Nat.reduceEqDiff, Nat.reduceBEq, Nat.reduceBNe, Option.some.injEq]
end Go.Proofs.Ytffnoglnpkcjnaa
