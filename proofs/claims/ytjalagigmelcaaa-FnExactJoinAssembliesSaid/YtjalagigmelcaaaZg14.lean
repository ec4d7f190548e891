/- Laws that the proof stands on. -/
import Derived.Test.YtjalagigmelcaaaZg13
import Derived.Test.YtjalagigmelcaaaZg12
import Derived.Test.YtjalagigmelcaaaZg11
set_option linter.all false
namespace Go.Proofs.Ytjalagigmelcaaa
open Go.RowKit Go.V
attribute [local go_sem] List.getElem?_cons_succ List.getElem?_cons_zero List.set_cons_succ List.set_cons_zero List.map_cons List.map_nil List.length_cons List.length_nil List.all_cons List.all_nil List.drop_succ_cons List.drop_zero List.take_succ_cons List.take_zero List.flatMap_cons List.flatMap_nil List.cons_append List.nil_append List.append_nil List.headD_cons Value.oneCell' Bool.and_true Bool.true_and Bool.or_false Bool.false_or Bool.and_self Bool.not_true Bool.not_false and_true true_and beq_self_eq_true Bool.false_eq_true if_true if_false Nat.zero_add Nat.reduceAdd Nat.reduceMul Nat.reduceLeDiff Nat.le_refl Option.isSome_some Option.isSome_none not_true_eq_false not_false_eq_true ne_eq reduceCtorEq List.reverse_nil bne_self_eq_false Nat.reduceEqDiff List.isPrefixOf Bool.not_eq_true Bool.and_false Bool.false_and Bool.true_or Bool.or_true decide_true decide_false Nat.reduceBEq Nat.reduceBNe List.replicate_succ List.replicate_zero exists_eq_left' exists_eq_left Option.some.injEq or_false or_true true_or false_or Option.map_some Option.map_none mB Nat.reduceMod Nat.reduceDiv
set_option maxRecDepth 100000
theorem asm_len {b : Assembly} (h : Assembly.cnt b ≤ 1048576) : b.Tiles.length ≤ 1048576 := h
def ptOK (p : Point) : Bool := inR (-60) 60 p.X && inR (-60) 60 p.Y
def code_impl_ValidPoint : VCode := (.seq (.ops [
  ⟨(some 1), none, (.box (.tmp 0))⟩,
  ⟨(some 2), none, (.asg (.const (.bool false)))⟩]) (.seq (.ops [
  ⟨(some 3), none, (.fa 0 (.tmp 1))⟩,
  ⟨(some 4), none, (.load 1 false (.tmp 3))⟩,
  ⟨(some 5), none, (.callX 50 [(.tmp 4), (.const (.int .i64 (-60))), (.const (.int .i64 60))])⟩,
  ⟨(some 6), none, (.mv (.tmp 5))⟩,
  ⟨(some 7), (some (6, true)), (.fa 1 (.tmp 1))⟩,
  ⟨(some 8), (some (6, true)), (.load 1 false (.tmp 7))⟩,
  ⟨(some 9), (some (6, true)), (.callX 50 [(.tmp 8), (.const (.int .i64 (-60))), (.const (.int .i64 60))])⟩,
  ⟨(some 10), none, (.pick (.tmp 6) (.tmp 9) (.const (.bool false)))⟩,
  ⟨(some 2), none, (.asg (.tmp 10))⟩]) .ret))
theorem law_impl_ValidPoint {a0 d : D} (h : code_impl_ValidPoint.wp (CT Try.prog NoG) (endQ [(.t 2)] d) [a0, .undef, .undef, .undef, .undef, .undef, .undef, .undef, .undef, .undef, .undef]) : Contract Try.prog NoG 37 [a0] d :=
  contract_of (pt := 0) noG Try.func37 (fun us W => by kernel_rfl) (c := Try.f37.body.getD .skip) (ms := []) (ms' := []) (by kernel_rfl) (by kernel_rfl) (by kernel_rfl) h
theorem v_ValidPoint (p : Point) : Contract Try.prog NoG 37 [.agg (Point.td.d false p)] (.v (.bool (ptOK p))) := by
  rw [Point.td_d]; refine law_impl_ValidPoint ?_; unfold code_impl_ValidPoint ptOK; simp -implicitDefEqProofs (disch := omega) only [go_sem, ↓reduceIte]; refine call_B (v_within _ _ _) (by simp -implicitDefEqProofs (disch := omega) only [go_sem, ↓reduceIte, deep, TD.rows, immLL_rI, immLL_rB8, immLL_rS, immLL_rBo, immLL_rII, immLL_rIIt]; exact rfl) ?_; simp -implicitDefEqProofs (disch := omega) only [go_sem, ↓reduceIte]; refine guard_split ?_ ?_ <;> intro h
  · simp -implicitDefEqProofs (disch := omega) only [go_sem, ↓reduceIte , h]; refine call_B (v_within _ _ _) (by simp -implicitDefEqProofs (disch := omega) only [go_sem, ↓reduceIte, deep, TD.rows, immLL_rI, immLL_rB8, immLL_rS, immLL_rBo, immLL_rII, immLL_rIIt, h]; exact rfl) ?_; simp -implicitDefEqProofs (disch := omega) only [go_sem, ↓reduceIte , h]
  · simp -implicitDefEqProofs (disch := omega) only [go_sem, ↓reduceIte , h]
def code_spec_l01Point : VCode := (.seq (.ops [
  ⟨(some 1), none, (.box (.tmp 0))⟩,
  ⟨(some 2), none, (.asg (.const (.bool false)))⟩]) (.seq (.ops [
  ⟨(some 3), none, (.fa 0 (.tmp 1))⟩,
  ⟨(some 4), none, (.load 1 false (.tmp 3))⟩,
  ⟨(some 5), none, (.callX 34 [(.tmp 4), (.const (.int .i64 (-60))), (.const (.int .i64 60))])⟩,
  ⟨(some 6), none, (.mv (.tmp 5))⟩,
  ⟨(some 7), (some (6, true)), (.fa 1 (.tmp 1))⟩,
  ⟨(some 8), (some (6, true)), (.load 1 false (.tmp 7))⟩,
  ⟨(some 9), (some (6, true)), (.callX 34 [(.tmp 8), (.const (.int .i64 (-60))), (.const (.int .i64 60))])⟩,
  ⟨(some 10), none, (.pick (.tmp 6) (.tmp 9) (.const (.bool false)))⟩,
  ⟨(some 2), none, (.asg (.tmp 10))⟩]) .ret))
theorem law_spec_l01Point {a0 d : D} (h : code_spec_l01Point.wp (CT Try.prog NoG) (endQ [(.t 2)] d) [a0, .undef, .undef, .undef, .undef, .undef, .undef, .undef, .undef, .undef, .undef]) : Contract Try.prog NoG 33 [a0] d :=
  contract_of (pt := 0) noG Try.func33 (fun us W => by kernel_rfl) (c := Try.f33.body.getD .skip) (ms := []) (ms' := []) (by kernel_rfl) (by kernel_rfl) (by kernel_rfl) h
theorem v_l01Point (p : Point) : Contract Try.prog NoG 33 [.agg (Point.td.d false p)] (.v (.bool (ptOK p))) := by
  rw [Point.td_d]; refine law_spec_l01Point ?_; unfold code_spec_l01Point ptOK; simp -implicitDefEqProofs (disch := omega) only [go_sem, ↓reduceIte]; refine call_B (v_l00In _ _ _) (by simp -implicitDefEqProofs (disch := omega) only [go_sem, ↓reduceIte, deep, TD.rows, immLL_rI, immLL_rB8, immLL_rS, immLL_rBo, immLL_rII, immLL_rIIt]; exact rfl) ?_; simp -implicitDefEqProofs (disch := omega) only [go_sem, ↓reduceIte]; refine guard_split ?_ ?_ <;> intro h
  · simp -implicitDefEqProofs (disch := omega) only [go_sem, ↓reduceIte , h]; refine call_B (v_l00In _ _ _) (by simp -implicitDefEqProofs (disch := omega) only [go_sem, ↓reduceIte, deep, TD.rows, immLL_rI, immLL_rB8, immLL_rS, immLL_rBo, immLL_rII, immLL_rIIt, h]; exact rfl) ?_; simp -implicitDefEqProofs (disch := omega) only [go_sem, ↓reduceIte , h]
  · simp -implicitDefEqProofs (disch := omega) only [go_sem, ↓reduceIte , h]
def okP (ps : List Placed) (i : Nat) : Bool := match ps[i]? with
  | some x => ptOK x.At && (inR 0 159 x.Tile && (decide (i = 0) || match ps[i - 1]? with
    | some y => lessP y.At x.At
    | none => false))
  | none => false
def okForm (ps : List Placed) : Bool := decide (ps.length ≤ 500) && (List.range ps.length).all (okP ps)
theorem okP_zero {ps : List Placed} (h : 0 < ps.length) : okP ps 0 = (ptOK ps[0].At && inR 0 159 ps[0].Tile) := by unfold okP; rw [List.getElem?_eq_getElem h]; simp
theorem okP_succ {ps : List Placed} {i : Nat} (h : i + 1 < ps.length) : okP ps (i + 1) = (ptOK ps[i + 1].At && (inR 0 159 ps[i + 1].Tile && lessP ps[i].At ps[i + 1].At)) := by unfold okP; rw [List.getElem?_eq_getElem h]; simp only [Nat.add_sub_cancel]; rw [List.getElem?_eq_getElem (by omega)]; simp
theorem okForm_no {ps : List Placed} {i : Nat} (hi : i < ps.length) (h : okP ps i = false) : okForm ps = false := by
  unfold okForm; have : (List.range ps.length).all (okP ps) = false := by rw [List.all_eq_false]; exact ⟨i, by simpa using hi, by simp [h]⟩
  rw [this, Bool.and_false]
theorem okForm_yes {ps : List Placed} (h : (List.range ps.length).all (okP ps) = true) : okForm ps = decide (ps.length ≤ 500) := by unfold okForm; rw [h, Bool.and_true]
def code_impl_hasForm : VCode := (.seq (.ops [
  ⟨(some 1), none, (.box (.tmp 0))⟩,
  ⟨(some 2), none, (.asg (.const (.bool false)))⟩]) (.seq (.seq (.ops [
  ⟨(some 5), none, (.fa 0 (.tmp 1))⟩,
  ⟨(some 6), none, (.load 1 false (.tmp 5))⟩,
  ⟨(some 7), none, (.len (.tmp 6))⟩,
  ⟨(some 8), none, (.mv (.const (.int .i64 0)))⟩]) (.block 0 (.loop (mB 45 35184372088349) (.seq (.ops [
  ⟨(some 9), none, (.bin .lss (.tmp 8) (.tmp 7))⟩]) (.seq (.cond (.tmp 9) .skip (.exit 0)) (.seq (.block 1 (.seq (.ops [
  ⟨(some 10), none, (.mv (.tmp 8))⟩,
  ⟨(some 11), none, (.ia 3 (.tmp 6) (.tmp 8))⟩,
  ⟨(some 12), none, (.load 3 true (.tmp 11))⟩,
  ⟨(some 4), none, (.alloc [(.int .i64 0), (.int .i64 0), (.int .i64 0)])⟩,
  ⟨(some 3), none, (.asg (.tmp 10))⟩,
  ⟨none, none, (.store 3 (.tmp 4) (.tmp 12))⟩]) (.seq (.draw (mB 36 68719468544) [] [⟨0, (mB 36 68719468544), [], ⟨(some 13), none, (.fa 0 (.tmp 4))⟩⟩, ⟨1, (mB 36 68719460352), [], ⟨(some 14), none, (.load 2 true (.tmp 13))⟩⟩, ⟨2, (mB 36 68719443968), [], ⟨(some 15), none, (.call 37 [(.tmp 14)])⟩⟩, ⟨3, (mB 36 68719411200), [], ⟨(some 16), none, (.un .not (.tmp 15))⟩⟩, ⟨4, (mB 36 68719345664), [], ⟨(some 17), none, (.mv (.tmp 16))⟩⟩, ⟨5, (mB 36 68719214592), [], ⟨(some 18), (some (17, false)), (.fa 2 (.tmp 4))⟩⟩, ⟨6, (mB 36 68718952448), [], ⟨(some 19), (some (17, false)), (.load 1 false (.tmp 18))⟩⟩, ⟨7, (mB 36 68718428160), [], ⟨(some 20), (some (17, false)), (.call 38 [(.tmp 19), (.const (.int .i64 160))])⟩⟩, ⟨8, (mB 36 68717379584), [], ⟨(some 21), (some (17, false)), (.un .not (.tmp 20))⟩⟩, ⟨9, (mB 36 68715282432), [], ⟨(some 22), none, (.pick (.tmp 17) (.const (.bool true)) (.tmp 21))⟩⟩, ⟨10, (mB 36 68711088128), [], ⟨(some 23), none, (.mv (.tmp 22))⟩⟩, ⟨11, (mB 36 68702699520), [], ⟨(some 24), (some (23, false)), (.mv (.tmp 3))⟩⟩, ⟨12, (mB 36 68685922304), [], ⟨(some 25), (some (23, false)), (.bin .gtr (.tmp 24) (.const (.int .i64 0)))⟩⟩, ⟨13, (mB 36 68652367872), [], ⟨(some 26), (some (23, false)), (.mv (.tmp 25))⟩⟩, ⟨14, (mB 36 68585259008), [], ⟨(some 27), (some (26, true)), (.fa 0 (.tmp 1))⟩⟩, ⟨15, (mB 36 68451041280), [], ⟨(some 28), (some (26, true)), (.load 1 false (.tmp 27))⟩⟩, ⟨16, (mB 36 68585259008), [], ⟨(some 29), (some (26, true)), (.mv (.tmp 3))⟩⟩, ⟨17, (mB 36 68048388096), [], ⟨(some 30), (some (26, true)), (.bin .sub (.tmp 29) (.const (.int .i64 1)))⟩⟩, ⟨18, (mB 36 66571993088), [], ⟨(some 31), (some (26, true)), (.ia 3 (.tmp 28) (.tmp 30))⟩⟩, ⟨19, (mB 36 64424509440), [], ⟨(some 32), (some (26, true)), (.fa 0 (.tmp 31))⟩⟩, ⟨20, (mB 36 60129542144), [], ⟨(some 33), (some (26, true)), (.load 2 true (.tmp 32))⟩⟩, ⟨21, (mB 36 68585259008), [], ⟨(some 34), (some (26, true)), (.fa 0 (.tmp 4))⟩⟩, ⟨22, (mB 36 51405389824), [], ⟨(some 35), (some (26, true)), (.load 2 true (.tmp 34))⟩⟩] [⟨(some 36), (some (26, true)), (.callX 39 [(.tmp 33), (.tmp 35)])⟩, ⟨(some 37), (some (26, true)), (.un .not (.tmp 36))⟩, ⟨(some 38), (some (23, false)), (.pick (.tmp 26) (.tmp 37) (.const (.bool false)))⟩, ⟨(some 39), none, (.pick (.tmp 23) (.const (.bool true)) (.tmp 38))⟩]) (.cond (.tmp 39) (.seq (.ops [
  ⟨(some 2), none, (.asg (.const (.bool false)))⟩]) .ret) .skip)))) (.ops [
  ⟨(some 40), none, (.bin .add (.tmp 8) (.const (.int .i64 1)))⟩,
  ⟨(some 8), none, (.mv (.tmp 40))⟩]))))))) (.seq (.ops [
  ⟨(some 41), none, (.fa 0 (.tmp 1))⟩,
  ⟨(some 42), none, (.load 1 false (.tmp 41))⟩,
  ⟨(some 43), none, (.len (.tmp 42))⟩,
  ⟨(some 44), none, (.bin .leq (.tmp 43) (.const (.int .i64 500)))⟩,
  ⟨(some 2), none, (.asg (.tmp 44))⟩]) .ret)))
theorem law_impl_hasForm {a0 d : D} (h : code_impl_hasForm.wp (CT Try.prog NoG) (endQ [(.t 2)] d) [a0, .undef, .undef, .undef, .undef, .undef, .undef, .undef, .undef, .undef, .undef, .undef, .undef, .undef, .undef, .undef, .undef, .undef, .undef, .undef, .undef, .undef, .undef, .undef, .undef, .undef, .undef, .undef, .undef, .undef, .undef, .undef, .undef, .undef, .undef, .undef, .undef, .undef, .undef, .undef, .undef, .undef, .undef, .undef, .undef]) : Contract Try.prog NoG 22 [a0] d :=
  contract_of (pt := 0) noG Try.func22 (fun us W => by kernel_rfl) (c := Try.f22.body.getD .skip) (ms := [(mB 45 35184372088349)]) (ms' := []) (by kernel_rfl) (by kernel_rfl) (by kernel_rfl) h
set_option maxHeartbeats 2000000 in
theorem v_hasForm (b : Assembly) (hn : b.Tiles.length ≤ 1048576) : Contract Try.prog NoG 22 [.agg (Assembly.td.d false b)] (.v (.bool (okForm b.Tiles))) := by
  rw [Assembly.td_d]; refine law_impl_hasForm ?_; unfold code_impl_hasForm; simp -implicitDefEqProofs (disch := omega) only [go_sem, ↓reduceIte , List.length_map]; refine loop_ov (by simp -implicitDefEqProofs (disch := omega) only [go_sem, ↓reduceIte]; exact rfl) (fun i : Nat => [(8, .v (.int .i64 (i : Nat)))]) (fun _ => by simp only [ovr_nil, ovr_cons, List.set_cons_zero, List.set_cons_succ]; exact rfl) (fun i : Nat => i ≤ b.Tiles.length ∧ (List.range i).all (okP b.Tiles) = true) (fun i : Nat => b.Tiles.length - i) (0) (nleA) (?_) ?_
  · exact ⟨Nat.zero_le _, rfl⟩
  rintro i ⟨hi, hal⟩; simp -implicitDefEqProofs (disch := omega) only [go_sem, ↓reduceIte , List.length_map, Int.toNat_natCast, Int.ofNat_lt, Int.natCast_nonneg, List.getElem?_map, Option.map_some]; refine cond_split ?_ ?_ <;> intro hlt
  · have hlt : i < b.Tiles.length := (by simpa using hlt); have e1 := List.getElem?_eq_getElem hlt; have key : ∀ v, okP b.Tiles i = v → (v = false → okForm b.Tiles = false) ∧ (v = true → (List.range (i + 1)).all (okP b.Tiles) = true) := fun v hv => ⟨fun h => okForm_no hlt (hv.trans h), fun h => all_next hal (hv.trans h)⟩
    simp -implicitDefEqProofs (disch := omega) only [go_sem, ↓reduceIte , List.length_map, Int.toNat_natCast, Int.ofNat_lt, Int.natCast_nonneg, List.getElem?_map, Option.map_some, hlt, e1, Placed.td_d]; cases c1 : ptOK b.Tiles[i].At with
    | false => have hno : okForm b.Tiles = false := (key _ rfl).1 (by unfold okP; rw [e1]; simp only [c1, Bool.false_and]); refine call_NB (v_ValidPoint b.Tiles[i].At) (by simp -implicitDefEqProofs (disch := omega) only [go_sem, ↓reduceIte, deep, TD.rows, immLL_rI, immLL_rB8, immLL_rS, immLL_rBo, immLL_rII, immLL_rIIt, c1, hno]; exact rfl) ?_; simp -implicitDefEqProofs (disch := omega) only [go_sem, ↓reduceIte , c1, hno]
    | true =>
    cases c2 : inR 0 159 b.Tiles[i].Tile with
    | false => have hno : okForm b.Tiles = false := (key _ rfl).1 (by unfold okP; rw [e1]; simp only [c2, Bool.false_and, Bool.and_false]); refine call_NB (v_ValidPoint b.Tiles[i].At) (by simp -implicitDefEqProofs (disch := omega) only [go_sem, ↓reduceIte, deep, TD.rows, immLL_rI, immLL_rB8, immLL_rS, immLL_rBo, immLL_rII, immLL_rIIt, c1]; exact rfl) ?_; simp -implicitDefEqProofs (disch := omega) only [go_sem, ↓reduceIte , c1]; refine call_NB (v_isIndex b.Tiles[i].Tile 160 (by decide) (by decide)) (by simp -implicitDefEqProofs (disch := omega) only [go_sem, ↓reduceIte, deep, TD.rows, immLL_rI, immLL_rB8, immLL_rS, immLL_rBo, immLL_rII, immLL_rIIt, Int.reduceSub, c2, hno]; exact rfl) ?_; simp -implicitDefEqProofs (disch := omega) only [go_sem, ↓reduceIte , Int.reduceSub, c2, hno]
    | true =>
    cases i with
    | zero => have hok := (key _ (okP_zero hlt)).2 (by rw [c1, c2]; rfl); refine call_NB (v_ValidPoint b.Tiles[0].At) (by simp -implicitDefEqProofs (disch := omega) only [go_sem, ↓reduceIte, deep, TD.rows, immLL_rI, immLL_rB8, immLL_rS, immLL_rBo, immLL_rII, immLL_rIIt, c1]; exact rfl) ?_; simp -implicitDefEqProofs (disch := omega) only [go_sem, ↓reduceIte , c1]; refine call_NB (v_isIndex b.Tiles[0].Tile 160 (by decide) (by decide)) (by simp -implicitDefEqProofs (disch := omega) only [go_sem, ↓reduceIte, deep, TD.rows, immLL_rI, immLL_rB8, immLL_rS, immLL_rBo, immLL_rII, immLL_rIIt, Int.reduceSub, c2, Int.natCast_zero, Int.natCast_one, Int.cast_ofNat_Int, Int.ofNat_le, Int.toNat_zero, Nat.sub_zero, Int.le_refl, Int.reduceLT, Int.reduceLE, Int.reduceEq, Int.reduceAdd, Int.reduceSub, Int.reduceMul, Int.reduceToNat, Int.reduceNeg, Int.lt_irrefl]; exact rfl) ?_; simp -implicitDefEqProofs (disch := omega) only [go_sem, ↓reduceIte , Int.reduceSub, c2, Int.natCast_zero, Int.natCast_one, Int.cast_ofNat_Int, Int.ofNat_le, Int.toNat_zero, Nat.sub_zero, Int.le_refl, Int.reduceLT, Int.reduceLE, Int.reduceEq, Int.reduceAdd, Int.reduceSub, Int.reduceMul, Int.reduceToNat, Int.reduceNeg, Int.lt_irrefl]; exact ⟨1, by omega, ⟨by omega, hok⟩, nleA⟩
    | succ k =>
      have hk : k < b.Tiles.length := (by omega); have e2 := List.getElem?_eq_getElem hk; have w1 : IntKind.i64.wrap (((k + 1 : Nat) : Int) - 1) = (k : Int) := (by rw [wrI (by omega) (by omega)]; omega); have d1 : decide ((0 : Int) < ((k + 1 : Nat) : Int)) = true := (by rw [decide_eq_true_eq]; omega); cases c3 : lessP b.Tiles[k].At b.Tiles[k + 1].At with
      | false => have hno := (key _ (okP_succ hlt)).1 (by rw [c1, c2, c3]; rfl); refine call_NB (v_ValidPoint b.Tiles[k + 1].At) (by simp -implicitDefEqProofs (disch := omega) only [go_sem, ↓reduceIte, deep, TD.rows, immLL_rI, immLL_rB8, immLL_rS, immLL_rBo, immLL_rII, immLL_rIIt, c1]; exact rfl) ?_; simp -implicitDefEqProofs (disch := omega) only [go_sem, ↓reduceIte , c1]; refine call_NB (v_isIndex b.Tiles[k + 1].Tile 160 (by decide) (by decide)) (by simp -implicitDefEqProofs (disch := omega) only [go_sem, ↓reduceIte, deep, TD.rows, immLL_rI, immLL_rB8, immLL_rS, immLL_rBo, immLL_rII, immLL_rIIt, Int.reduceSub, c2, d1, w1, hk, e2, List.length_map, Int.toNat_natCast, Int.ofNat_lt, Int.natCast_nonneg, List.getElem?_map, Option.map_some, Placed.td_d]; exact rfl) ?_; simp -implicitDefEqProofs (disch := omega) only [go_sem, ↓reduceIte , Int.reduceSub, c2, d1, w1, hk, e2, List.length_map, Int.toNat_natCast, Int.ofNat_lt, Int.natCast_nonneg, List.getElem?_map, Option.map_some, Placed.td_d]; refine call_B (v_LessPoint b.Tiles[k].At b.Tiles[k + 1].At) (by simp -implicitDefEqProofs (disch := omega) only [go_sem, ↓reduceIte, deep, TD.rows, immLL_rI, immLL_rB8, immLL_rS, immLL_rBo, immLL_rII, immLL_rIIt, c3, hno]; exact rfl) ?_; simp -implicitDefEqProofs (disch := omega) only [go_sem, ↓reduceIte , c3, hno]
      | true => have hok := (key _ (okP_succ hlt)).2 (by rw [c1, c2, c3]; rfl); refine call_NB (v_ValidPoint b.Tiles[k + 1].At) (by simp -implicitDefEqProofs (disch := omega) only [go_sem, ↓reduceIte, deep, TD.rows, immLL_rI, immLL_rB8, immLL_rS, immLL_rBo, immLL_rII, immLL_rIIt, c1]; exact rfl) ?_; simp -implicitDefEqProofs (disch := omega) only [go_sem, ↓reduceIte , c1]; refine call_NB (v_isIndex b.Tiles[k + 1].Tile 160 (by decide) (by decide)) (by simp -implicitDefEqProofs (disch := omega) only [go_sem, ↓reduceIte, deep, TD.rows, immLL_rI, immLL_rB8, immLL_rS, immLL_rBo, immLL_rII, immLL_rIIt, Int.reduceSub, c2, d1, w1, hk, e2, List.length_map, Int.toNat_natCast, Int.ofNat_lt, Int.natCast_nonneg, List.getElem?_map, Option.map_some, Placed.td_d]; exact rfl) ?_; simp -implicitDefEqProofs (disch := omega) only [go_sem, ↓reduceIte , Int.reduceSub, c2, d1, w1, hk, e2, List.length_map, Int.toNat_natCast, Int.ofNat_lt, Int.natCast_nonneg, List.getElem?_map, Option.map_some, Placed.td_d]; refine call_B (v_LessPoint b.Tiles[k].At b.Tiles[k + 1].At) (by simp -implicitDefEqProofs (disch := omega) only [go_sem, ↓reduceIte, deep, TD.rows, immLL_rI, immLL_rB8, immLL_rS, immLL_rBo, immLL_rII, immLL_rIIt, c3, wrN]; exact rfl) ?_; simp -implicitDefEqProofs (disch := omega) only [go_sem, ↓reduceIte , c3, wrN]; exact ⟨k + 1 + 1, by omega, ⟨by omega, hok⟩, nleA⟩
  · obtain rfl : i = b.Tiles.length := (by have : ¬ i < b.Tiles.length := (by simpa using hlt); omega); simp -implicitDefEqProofs (disch := omega) only [go_sem, ↓reduceIte , List.length_map, okForm_yes hal]; exact congrArg Value.bool (by rw [decide_eq_decide]; omega)
def code_spec_l03Form : VCode := (.seq (.ops [
  ⟨(some 2), none, (.asg (.const (.bool false)))⟩]) (.seq (.seq (.ops [
  ⟨(some 5), none, (.mv (.tmp 0))⟩,
  ⟨(some 6), none, (.nilc (.tmp 5))⟩,
  ⟨(some 7), none, (.fa 0 (.tmp 6))⟩,
  ⟨(some 8), none, (.load 1 false (.tmp 7))⟩,
  ⟨(some 9), none, (.len (.tmp 8))⟩,
  ⟨(some 10), none, (.bin .gtr (.tmp 9) (.const (.int .i64 500)))⟩]) (.cond (.tmp 10) (.seq (.ops [
  ⟨(some 2), none, (.asg (.const (.bool false)))⟩]) .ret) .skip)) (.seq (.seq (.ops [
  ⟨(some 3), none, (.asg (.const (.int .i64 0)))⟩]) (.block 0 (.loop (mB 56 72057594037927926) (.seq (.seq (.ops [
  ⟨(some 11), none, (.mv (.tmp 3))⟩,
  ⟨(some 12), none, (.mv (.tmp 0))⟩,
  ⟨(some 13), none, (.nilc (.tmp 12))⟩,
  ⟨(some 14), none, (.fa 0 (.tmp 13))⟩,
  ⟨(some 15), none, (.load 1 false (.tmp 14))⟩,
  ⟨(some 16), none, (.len (.tmp 15))⟩,
  ⟨(some 17), none, (.bin .lss (.tmp 11) (.tmp 16))⟩]) (.cond (.tmp 17) .skip (.exit 0))) (.seq (.block 1 (.seq (.ops [
  ⟨(some 20), none, (.mv (.tmp 0))⟩,
  ⟨(some 21), none, (.nilc (.tmp 20))⟩,
  ⟨(some 22), none, (.fa 0 (.tmp 21))⟩,
  ⟨(some 23), none, (.load 1 false (.tmp 22))⟩,
  ⟨(some 24), none, (.mv (.tmp 3))⟩,
  ⟨(some 25), none, (.ia 3 (.tmp 23) (.tmp 24))⟩,
  ⟨(some 26), none, (.load 3 true (.tmp 25))⟩,
  ⟨(some 4), none, (.alloc [(.int .i64 0), (.int .i64 0), (.int .i64 0)])⟩,
  ⟨none, none, (.store 3 (.tmp 4) (.tmp 26))⟩]) (.seq (.draw (mB 52 4503599493152768) [] [⟨0, (mB 52 4503599493152768), [], ⟨(some 27), none, (.fa 0 (.tmp 4))⟩⟩, ⟨1, (mB 52 4503599358935040), [], ⟨(some 28), none, (.load 2 true (.tmp 27))⟩⟩, ⟨2, (mB 52 4503599090499584), [], ⟨(some 29), none, (.call 33 [(.tmp 28)])⟩⟩, ⟨3, (mB 52 4503598553628672), [], ⟨(some 30), none, (.un .not (.tmp 29))⟩⟩, ⟨4, (mB 52 4503597479886848), [], ⟨(some 31), none, (.mv (.tmp 30))⟩⟩, ⟨5, (mB 52 4503595332403200), [], ⟨(some 32), (some (31, false)), (.fa 2 (.tmp 4))⟩⟩, ⟨6, (mB 52 4503591037435904), [], ⟨(some 33), (some (31, false)), (.load 1 false (.tmp 32))⟩⟩, ⟨7, (mB 52 4503582447501312), [], ⟨(some 34), (some (31, false)), (.call 34 [(.tmp 33), (.const (.int .i64 0)), (.const (.int .i64 159))])⟩⟩, ⟨8, (mB 52 4503565267632128), [], ⟨(some 35), (some (31, false)), (.un .not (.tmp 34))⟩⟩, ⟨9, (mB 52 4503530907893760), [], ⟨(some 36), none, (.pick (.tmp 31) (.const (.bool true)) (.tmp 35))⟩⟩, ⟨10, (mB 52 4503462188417024), [], ⟨(some 37), none, (.mv (.tmp 36))⟩⟩, ⟨11, (mB 52 4503324749463552), [], ⟨(some 38), (some (37, false)), (.mv (.tmp 3))⟩⟩, ⟨12, (mB 52 4503049871556608), [], ⟨(some 39), (some (37, false)), (.bin .gtr (.tmp 38) (.const (.int .i64 0)))⟩⟩, ⟨13, (mB 52 4502500115742720), [], ⟨(some 40), (some (37, false)), (.mv (.tmp 39))⟩⟩, ⟨14, (mB 52 4501400604114944), [], ⟨(some 41), (some (40, true)), (.mv (.tmp 0))⟩⟩, ⟨15, (mB 52 4499201580859392), [], ⟨(some 42), (some (40, true)), (.nilc (.tmp 41))⟩⟩, ⟨16, (mB 52 4494803534348288), [], ⟨(some 43), (some (40, true)), (.fa 0 (.tmp 42))⟩⟩, ⟨17, (mB 52 4486007441326080), [], ⟨(some 44), (some (40, true)), (.load 1 false (.tmp 43))⟩⟩, ⟨18, (mB 52 4501400604114944), [], ⟨(some 45), (some (40, true)), (.mv (.tmp 3))⟩⟩, ⟨19, (mB 52 4466216232026112), [], ⟨(some 46), (some (40, true)), (.bin .sub (.tmp 45) (.const (.int .i64 1)))⟩⟩, ⟨20, (mB 52 4362862139015168), [], ⟨(some 47), (some (40, true)), (.ia 3 (.tmp 44) (.tmp 46))⟩⟩, ⟨21, (mB 52 4222124650659840), [], ⟨(some 48), (some (40, true)), (.fa 0 (.tmp 47))⟩⟩, ⟨22, (mB 52 3940649673949184), [], ⟨(some 49), (some (40, true)), (.load 2 true (.tmp 48))⟩⟩, ⟨23, (mB 52 4501400604114944), [], ⟨(some 50), (some (40, true)), (.fa 0 (.tmp 4))⟩⟩, ⟨24, (mB 52 3375500697272320), [], ⟨(some 51), (some (40, true)), (.load 2 true (.tmp 50))⟩⟩] [⟨(some 52), (some (40, true)), (.callX 35 [(.tmp 49), (.tmp 51)])⟩, ⟨(some 53), (some (40, true)), (.un .not (.tmp 52))⟩, ⟨(some 54), (some (37, false)), (.pick (.tmp 40) (.tmp 53) (.const (.bool false)))⟩, ⟨(some 55), none, (.pick (.tmp 37) (.const (.bool true)) (.tmp 54))⟩]) (.cond (.tmp 55) (.seq (.ops [
  ⟨(some 2), none, (.asg (.const (.bool false)))⟩]) .ret) .skip)))) (.ops [
  ⟨(some 18), none, (.mv (.tmp 3))⟩,
  ⟨(some 19), none, (.bin .add (.tmp 18) (.const (.int .i64 1)))⟩,
  ⟨(some 3), none, (.asg (.tmp 19))⟩])))))) (.seq (.ops [
  ⟨(some 2), none, (.asg (.const (.bool true)))⟩]) .ret))))
theorem law_spec_l03Form {a0 d : D} (h : code_spec_l03Form.wp (CT Try.prog NoG) (endQ [(.t 2)] d) [a0, .undef, .undef, .undef, .undef, .undef, .undef, .undef, .undef, .undef, .undef, .undef, .undef, .undef, .undef, .undef, .undef, .undef, .undef, .undef, .undef, .undef, .undef, .undef, .undef, .undef, .undef, .undef, .undef, .undef, .undef, .undef, .undef, .undef, .undef, .undef, .undef, .undef, .undef, .undef, .undef, .undef, .undef, .undef, .undef, .undef, .undef, .undef, .undef, .undef, .undef, .undef, .undef, .undef, .undef, .undef]) : Contract Try.prog NoG 19 [a0] d :=
  contract_of (pt := 0) noG Try.func19 (fun us W => by kernel_rfl) (c := Try.f19.body.getD .skip) (ms := [(mB 56 72057594037927926)]) (ms' := []) (by kernel_rfl) (by kernel_rfl) (by kernel_rfl) h
set_option maxHeartbeats 2000000 in
theorem v_l03Form (b : Assembly) (hn : b.Tiles.length ≤ 1048576) : Contract Try.prog NoG 19 [.iptr (Assembly.td.d false b) 0] (.v (.bool (okForm b.Tiles))) := by
  rw [Assembly.td_d]; refine law_spec_l03Form ?_; unfold code_spec_l03Form; by_cases h5 : b.Tiles.length ≤ 500
  · have d5 : decide ((500 : Int) < (b.Tiles.length : Int)) = false := (by rw [decide_eq_false_iff_not]; omega); simp -implicitDefEqProofs (disch := omega) only [go_sem, ↓reduceIte , List.length_map, d5]; refine loop_ov (by simp -implicitDefEqProofs (disch := omega) only [go_sem, ↓reduceIte]; exact rfl) (fun i : Nat => [(3, .v (.int .i64 (i : Nat)))]) (fun _ => by simp only [ovr_nil, ovr_cons, List.set_cons_zero, List.set_cons_succ]; exact rfl) (fun i : Nat => i ≤ b.Tiles.length ∧ (List.range i).all (okP b.Tiles) = true) (fun i : Nat => b.Tiles.length - i) (0) (nleA) (?_) ?_
    · exact ⟨Nat.zero_le _, rfl⟩
    rintro i ⟨hi, hal⟩; simp -implicitDefEqProofs (disch := omega) only [go_sem, ↓reduceIte , List.length_map, Int.toNat_natCast, Int.ofNat_lt, Int.natCast_nonneg, List.getElem?_map, Option.map_some]; refine cond_split ?_ ?_ <;> intro hlt
    · have hlt : i < b.Tiles.length := (by simpa using hlt); have e1 := List.getElem?_eq_getElem hlt; have key : ∀ v, okP b.Tiles i = v → (v = false → okForm b.Tiles = false) ∧ (v = true → (List.range (i + 1)).all (okP b.Tiles) = true) := fun v hv => ⟨fun h => okForm_no hlt (hv.trans h), fun h => all_next hal (hv.trans h)⟩
      simp -implicitDefEqProofs (disch := omega) only [go_sem, ↓reduceIte , List.length_map, Int.toNat_natCast, Int.ofNat_lt, Int.natCast_nonneg, List.getElem?_map, Option.map_some, hlt, e1, Placed.td_d]; cases c1 : ptOK b.Tiles[i].At with
      | false => have hno : okForm b.Tiles = false := (key _ rfl).1 (by unfold okP; rw [e1]; simp only [c1, Bool.false_and]); refine call_NB (v_l01Point b.Tiles[i].At) (by simp -implicitDefEqProofs (disch := omega) only [go_sem, ↓reduceIte, deep, TD.rows, immLL_rI, immLL_rB8, immLL_rS, immLL_rBo, immLL_rII, immLL_rIIt, c1, hno]; exact rfl) ?_; simp -implicitDefEqProofs (disch := omega) only [go_sem, ↓reduceIte , c1, hno]
      | true =>
      cases c2 : inR 0 159 b.Tiles[i].Tile with
      | false => have hno : okForm b.Tiles = false := (key _ rfl).1 (by unfold okP; rw [e1]; simp only [c2, Bool.false_and, Bool.and_false]); refine call_NB (v_l01Point b.Tiles[i].At) (by simp -implicitDefEqProofs (disch := omega) only [go_sem, ↓reduceIte, deep, TD.rows, immLL_rI, immLL_rB8, immLL_rS, immLL_rBo, immLL_rII, immLL_rIIt, c1]; exact rfl) ?_; simp -implicitDefEqProofs (disch := omega) only [go_sem, ↓reduceIte , c1]; refine call_NB (v_l00In b.Tiles[i].Tile 0 159) (by simp -implicitDefEqProofs (disch := omega) only [go_sem, ↓reduceIte, deep, TD.rows, immLL_rI, immLL_rB8, immLL_rS, immLL_rBo, immLL_rII, immLL_rIIt, c2, hno]; exact rfl) ?_; simp -implicitDefEqProofs (disch := omega) only [go_sem, ↓reduceIte , c2, hno]
      | true =>
      cases i with
      | zero => have hok := (key _ (okP_zero hlt)).2 (by rw [c1, c2]; rfl); refine call_NB (v_l01Point b.Tiles[0].At) (by simp -implicitDefEqProofs (disch := omega) only [go_sem, ↓reduceIte, deep, TD.rows, immLL_rI, immLL_rB8, immLL_rS, immLL_rBo, immLL_rII, immLL_rIIt, c1]; exact rfl) ?_; simp -implicitDefEqProofs (disch := omega) only [go_sem, ↓reduceIte , c1]; refine call_NB (v_l00In b.Tiles[0].Tile 0 159) (by simp -implicitDefEqProofs (disch := omega) only [go_sem, ↓reduceIte, deep, TD.rows, immLL_rI, immLL_rB8, immLL_rS, immLL_rBo, immLL_rII, immLL_rIIt, c2, Int.natCast_zero, Int.natCast_one, Int.cast_ofNat_Int, Int.ofNat_le, Int.toNat_zero, Nat.sub_zero, Int.le_refl, Int.reduceLT, Int.reduceLE, Int.reduceEq, Int.reduceAdd, Int.reduceSub, Int.reduceMul, Int.reduceToNat, Int.reduceNeg, Int.lt_irrefl]; exact rfl) ?_; simp -implicitDefEqProofs (disch := omega) only [go_sem, ↓reduceIte , c2, Int.natCast_zero, Int.natCast_one, Int.cast_ofNat_Int, Int.ofNat_le, Int.toNat_zero, Nat.sub_zero, Int.le_refl, Int.reduceLT, Int.reduceLE, Int.reduceEq, Int.reduceAdd, Int.reduceSub, Int.reduceMul, Int.reduceToNat, Int.reduceNeg, Int.lt_irrefl]; exact ⟨1, by omega, ⟨by omega, hok⟩, nleA⟩
      | succ k =>
        have hk : k < b.Tiles.length := (by omega); have e2 := List.getElem?_eq_getElem hk; have w1 : IntKind.i64.wrap (((k + 1 : Nat) : Int) - 1) = (k : Int) := (by rw [wrI (by omega) (by omega)]; omega); have d1 : decide ((0 : Int) < ((k + 1 : Nat) : Int)) = true := (by rw [decide_eq_true_eq]; omega); cases c3 : lessP b.Tiles[k].At b.Tiles[k + 1].At with
        | false => have hno := (key _ (okP_succ hlt)).1 (by rw [c1, c2, c3]; rfl); refine call_NB (v_l01Point b.Tiles[k + 1].At) (by simp -implicitDefEqProofs (disch := omega) only [go_sem, ↓reduceIte, deep, TD.rows, immLL_rI, immLL_rB8, immLL_rS, immLL_rBo, immLL_rII, immLL_rIIt, c1]; exact rfl) ?_; simp -implicitDefEqProofs (disch := omega) only [go_sem, ↓reduceIte , c1]; refine call_NB (v_l00In b.Tiles[k + 1].Tile 0 159) (by simp -implicitDefEqProofs (disch := omega) only [go_sem, ↓reduceIte, deep, TD.rows, immLL_rI, immLL_rB8, immLL_rS, immLL_rBo, immLL_rII, immLL_rIIt, c2, d1, w1, hk, e2, List.length_map, Int.toNat_natCast, Int.ofNat_lt, Int.natCast_nonneg, List.getElem?_map, Option.map_some, Placed.td_d]; exact rfl) ?_; simp -implicitDefEqProofs (disch := omega) only [go_sem, ↓reduceIte , c2, d1, w1, hk, e2, List.length_map, Int.toNat_natCast, Int.ofNat_lt, Int.natCast_nonneg, List.getElem?_map, Option.map_some, Placed.td_d]; refine call_B (v_LessPoint_spec b.Tiles[k].At b.Tiles[k + 1].At) (by simp -implicitDefEqProofs (disch := omega) only [go_sem, ↓reduceIte, deep, TD.rows, immLL_rI, immLL_rB8, immLL_rS, immLL_rBo, immLL_rII, immLL_rIIt, c3, hno]; exact rfl) ?_; simp -implicitDefEqProofs (disch := omega) only [go_sem, ↓reduceIte , c3, hno]
        | true => have hok := (key _ (okP_succ hlt)).2 (by rw [c1, c2, c3]; rfl); refine call_NB (v_l01Point b.Tiles[k + 1].At) (by simp -implicitDefEqProofs (disch := omega) only [go_sem, ↓reduceIte, deep, TD.rows, immLL_rI, immLL_rB8, immLL_rS, immLL_rBo, immLL_rII, immLL_rIIt, c1]; exact rfl) ?_; simp -implicitDefEqProofs (disch := omega) only [go_sem, ↓reduceIte , c1]; refine call_NB (v_l00In b.Tiles[k + 1].Tile 0 159) (by simp -implicitDefEqProofs (disch := omega) only [go_sem, ↓reduceIte, deep, TD.rows, immLL_rI, immLL_rB8, immLL_rS, immLL_rBo, immLL_rII, immLL_rIIt, c2, d1, w1, hk, e2, List.length_map, Int.toNat_natCast, Int.ofNat_lt, Int.natCast_nonneg, List.getElem?_map, Option.map_some, Placed.td_d]; exact rfl) ?_; simp -implicitDefEqProofs (disch := omega) only [go_sem, ↓reduceIte , c2, d1, w1, hk, e2, List.length_map, Int.toNat_natCast, Int.ofNat_lt, Int.natCast_nonneg, List.getElem?_map, Option.map_some, Placed.td_d]; refine call_B (v_LessPoint_spec b.Tiles[k].At b.Tiles[k + 1].At) (by simp -implicitDefEqProofs (disch := omega) only [go_sem, ↓reduceIte, deep, TD.rows, immLL_rI, immLL_rB8, immLL_rS, immLL_rBo, immLL_rII, immLL_rIIt, c3, wrN]; exact rfl) ?_; simp -implicitDefEqProofs (disch := omega) only [go_sem, ↓reduceIte , c3, wrN]; exact ⟨k + 1 + 1, by omega, ⟨by omega, hok⟩, nleA⟩
    · obtain rfl : i = b.Tiles.length := (by have : ¬ i < b.Tiles.length := (by simpa using hlt); omega); have d6 : decide (b.Tiles.length ≤ 500) = true := decide_eq_true h5; simp -implicitDefEqProofs (disch := omega) only [go_sem, ↓reduceIte , okForm_yes hal, d6]
  · have d5 : decide ((500 : Int) < (b.Tiles.length : Int)) = true := (by rw [decide_eq_true_eq]; omega); have hno : okForm b.Tiles = false := (by unfold okForm; rw [decide_eq_false h5]; rfl); simp -implicitDefEqProofs (disch := omega) only [go_sem, ↓reduceIte , List.length_map, d5, hno]
def bsA (ps : List Placed) (p : Point) : Nat := bsP (ps.map (·.At)) p
def atP (ps : List Placed) (p : Point) : Bool := match ps[bsA ps p]? with
  | some x => decide (x.At = p)
  | none => false
def tileA (ps : List Placed) (p : Point) : Int := if atP ps p then (match ps[bsA ps p]? with | some x => x.Tile | none => -1) else -1
theorem lessAt_pl {ps : List Placed} {p : Point} {k : Nat} (hk : k < ps.length) : lessAt (ps.map (·.At)) p k = lessP ps[k].At p := by unfold lessAt; rw [List.getElem?_map, List.getElem?_eq_getElem hk]; rfl
def code_impl_comparePlaced : VCode := (.seq (.ops [
  ⟨(some 2), none, (.box (.tmp 0))⟩,
  ⟨(some 3), none, (.box (.tmp 1))⟩,
  ⟨(some 4), none, (.asg (.const (.int .i64 0)))⟩]) (.seq (.ops [
  ⟨(some 5), none, (.fa 0 (.tmp 2))⟩,
  ⟨(some 6), none, (.load 2 true (.tmp 5))⟩,
  ⟨(some 7), none, (.load 2 true (.tmp 3))⟩,
  ⟨(some 8), none, (.callX 51 [(.tmp 6), (.tmp 7)])⟩,
  ⟨(some 4), none, (.asg (.tmp 8))⟩]) .ret))
theorem law_impl_comparePlaced {a0 a1 d : D} (h : code_impl_comparePlaced.wp (CT Try.prog NoG) (endQ [(.t 4)] d) [a0, a1, .undef, .undef, .undef, .undef, .undef, .undef, .undef]) : Contract Try.prog NoG 47 [a0, a1] d :=
  contract_of (pt := 0) noG Try.func47 (fun us W => by kernel_rfl) (c := Try.f47.body.getD .skip) (ms := []) (ms' := []) (by kernel_rfl) (by kernel_rfl) (by kernel_rfl) h
theorem v_comparePlaced (t : Placed) (p : Point) : Contract Try.prog NoG 47 [.agg (Placed.td.d false t), .agg (Point.td.d false p)] (.v (.int .i64 (cmpP t.At p))) := by rw [Placed.td_d, Point.td_d]; refine law_impl_comparePlaced ?_; unfold code_impl_comparePlaced; simp -implicitDefEqProofs (disch := omega) only [go_sem, ↓reduceIte]; refine call_B (v_comparePoints t.At p) (by simp -implicitDefEqProofs (disch := omega) only [go_sem, ↓reduceIte, deep, TD.rows, immLL_rI, immLL_rB8, immLL_rS, immLL_rBo, immLL_rII, immLL_rIIt]; exact rfl) ?_; simp -implicitDefEqProofs (disch := omega) only [go_sem, ↓reduceIte]
def code_slices_BinarySearchFunc_impl_Placed_impl_Placed_impl_Point : VCode := (.seq (.ops [
  ⟨(some 4), none, (.box (.tmp 1))⟩,
  ⟨(some 6), none, (.asg (.const (.int .i64 0)))⟩,
  ⟨(some 7), none, (.asg (.const (.bool false)))⟩]) (.seq (.ops [
  ⟨(some 12), none, (.mv (.tmp 0))⟩,
  ⟨(some 13), none, (.len (.tmp 12))⟩,
  ⟨(some 8), none, (.asg (.tmp 13))⟩]) (.seq (.ops [
  ⟨(some 14), none, (.mv (.tmp 8))⟩,
  ⟨(some 9), none, (.asg (.const (.int .i64 0)))⟩,
  ⟨(some 10), none, (.asg (.tmp 14))⟩]) (.seq (.block 0 (.loop (mB 49 562949953419498) (.seq (.seq (.ops [
  ⟨(some 15), none, (.mv (.tmp 9))⟩,
  ⟨(some 16), none, (.mv (.tmp 10))⟩,
  ⟨(some 17), none, (.bin .lss (.tmp 15) (.tmp 16))⟩]) (.cond (.tmp 17) .skip (.exit 0))) (.block 1 (.seq (.ops [
  ⟨(some 18), none, (.mv (.tmp 9))⟩,
  ⟨(some 19), none, (.mv (.tmp 10))⟩,
  ⟨(some 20), none, (.bin .add (.tmp 18) (.tmp 19))⟩,
  ⟨(some 21), none, (.conv .u64 (.tmp 20))⟩,
  ⟨(some 22), none, (.bin .shr (.tmp 21) (.const (.int .u64 1)))⟩,
  ⟨(some 23), none, (.conv .i64 (.tmp 22))⟩,
  ⟨(some 11), none, (.asg (.tmp 23))⟩]) (.seq (.draw (mB 30 1056964608) [] [⟨0, (mB 30 1056964608), [], ⟨(some 24), none, (.mv (.tmp 2))⟩⟩, ⟨1, (mB 30 1056964608), [], ⟨(some 25), none, (.mv (.tmp 0))⟩⟩, ⟨2, (mB 30 1056964608), [], ⟨(some 26), none, (.mv (.tmp 11))⟩⟩, ⟨3, (mB 30 956301312), [], ⟨(some 27), none, (.ia 3 (.tmp 25) (.tmp 26))⟩⟩, ⟨4, (mB 30 822083584), [], ⟨(some 28), none, (.load 3 true (.tmp 27))⟩⟩, ⟨5, (mB 30 1056964608), [], ⟨(some 29), none, (.load 2 true (.tmp 4))⟩⟩] [⟨(some 30), none, (.callvX (.tmp 24) [(.tmp 28), (.tmp 29)])⟩, ⟨(some 31), none, (.bin .lss (.tmp 30) (.const (.int .i64 0)))⟩]) (.cond (.tmp 31) (.ops [
  ⟨(some 32), none, (.mv (.tmp 11))⟩,
  ⟨(some 33), none, (.bin .add (.tmp 32) (.const (.int .i64 1)))⟩,
  ⟨(some 9), none, (.asg (.tmp 33))⟩]) (.ops [
  ⟨(some 34), none, (.mv (.tmp 11))⟩,
  ⟨(some 10), none, (.asg (.tmp 34))⟩])))))))) (.seq (.draw (mB 49 562915593683008) (mB 36 34359738368) [⟨0, (mB 49 562915593683008), [], ⟨(some 35), none, (.mv (.tmp 9))⟩⟩, ⟨1, (mB 49 562915593683008), [], ⟨(some 36), none, (.mv (.tmp 9))⟩⟩, ⟨2, (mB 49 562915593683008), [], ⟨(some 37), none, (.mv (.tmp 8))⟩⟩, ⟨3, (mB 49 562709435252800), [], ⟨(some 38), none, (.bin .lss (.tmp 36) (.tmp 37))⟩⟩, ⟨4, (mB 49 562434557345856), [], ⟨(some 39), none, (.mv (.tmp 38))⟩⟩, ⟨5, (mB 49 561884801531968), [], ⟨(some 40), (some (39, true)), (.mv (.tmp 2))⟩⟩, ⟨6, (mB 49 561884801531968), [], ⟨(some 41), (some (39, true)), (.mv (.tmp 0))⟩⟩, ⟨7, (mB 49 561884801531968), [], ⟨(some 42), (some (39, true)), (.mv (.tmp 9))⟩⟩, ⟨8, (mB 49 555287731765312), [], ⟨(some 43), (some (39, true)), (.ia 3 (.tmp 41) (.tmp 42))⟩⟩, ⟨9, (mB 49 546491638743104), [], ⟨(some 44), (some (39, true)), (.load 3 true (.tmp 43))⟩⟩, ⟨10, (mB 49 561884801531968), [], ⟨(some 45), (some (39, true)), (.load 2 true (.tmp 4))⟩⟩, ⟨11, (mB 49 492615568982080), [], ⟨(some 46), (some (39, true)), (.callv (.tmp 40) [(.tmp 44), (.tmp 45)])⟩⟩, ⟨12, (mB 49 422246824804416), [], ⟨(some 47), (some (39, true)), (.bin .eql (.tmp 46) (.const (.int .i64 0)))⟩⟩, ⟨13, (mB 49 281509336449088), [], ⟨(some 48), none, (.pick (.tmp 39) (.tmp 47) (.const (.bool false)))⟩⟩, ⟨14, (mB 49 422212465066048), (mB 36 34359738368), ⟨(some 6), none, (.asg (.tmp 35))⟩⟩] [⟨(some 7), none, (.asg (.tmp 48))⟩]) .ret)))))
theorem law_slices_BinarySearchFunc_impl_Placed_impl_Placed_impl_Point {a0 a1 a2 d : D} (h : code_slices_BinarySearchFunc_impl_Placed_impl_Placed_impl_Point.wp (CT Try.prog NoG) (endQ [(.t 6), (.t 7)] d) [a0, a1, a2, .undef, .undef, .undef, .undef, .undef, .undef, .undef, .undef, .undef, .undef, .undef, .undef, .undef, .undef, .undef, .undef, .undef, .undef, .undef, .undef, .undef, .undef, .undef, .undef, .undef, .undef, .undef, .undef, .undef, .undef, .undef, .undef, .undef, .undef, .undef, .undef, .undef, .undef, .undef, .undef, .undef, .undef, .undef, .undef, .undef, .undef]) : Contract Try.prog NoG 46 [a0, a1, a2] d :=
  contract_of (pt := 0) noG Try.func46 (fun us W => by kernel_rfl) (c := Try.f46.body.getD .skip) (ms := [(mB 49 562949953419498)]) (ms' := []) (by kernel_rfl) (by kernel_rfl) (by kernel_rfl) h
set_option maxHeartbeats 2000000 in
theorem v_BinarySearch_Placed (xs : List Placed) (p : Point) (hn : xs.length ≤ 1048576) : Contract Try.prog NoG 46 [.sl false 3 (xs.map (Placed.td.d false)), .agg (Point.td.d false p), .fn 47 [] []] (.tup [.v (.int .i64 (bsA xs p : Nat)), .v (.bool (atP xs p))]) := by
  rw [Point.td_d]; refine law_slices_BinarySearchFunc_impl_Placed_impl_Placed_impl_Point ?_; unfold code_slices_BinarySearchFunc_impl_Placed_impl_Placed_impl_Point; simp -implicitDefEqProofs (disch := omega) only [go_sem, ↓reduceIte , List.length_map]; refine loop_ov (by simp -implicitDefEqProofs (disch := omega) only [go_sem, ↓reduceIte]; exact rfl) (fun z : Nat × Nat => [(9, .v (.int .i64 z.1)), (10, .v (.int .i64 z.2))]) (fun _ => by simp only [ovr_nil, ovr_cons, List.set_cons_zero, List.set_cons_succ]; exact rfl) (fun z : Nat × Nat => z.1 ≤ z.2 ∧ z.2 ≤ xs.length ∧ ∃ n, z.2 - z.1 ≤ n ∧ bsF (lessAt (xs.map (·.At)) p) n z.1 z.2 = bsA xs p) (fun z : Nat × Nat => z.2 - z.1) ((0, xs.length)) (nleA) (?_) ?_
  · exact ⟨Nat.zero_le _, Nat.le_refl _, (xs.map (·.At)).length, by rw [List.length_map]; omega, by unfold bsA bsP; rw [List.length_map]⟩
  rintro ⟨i, j⟩ ⟨h1, h2, n, h3, h4⟩; simp only at h1 h2 h3 h4; simp -implicitDefEqProofs (disch := omega) only [go_sem, ↓reduceIte , List.length_map, Int.toNat_natCast, Int.ofNat_lt, Int.natCast_nonneg, List.getElem?_map, Option.map_some]; refine cond_split ?_ ?_ <;> intro hlt
  · have hlt : i < j := (by simpa using hlt); have hm : (i + j) / 2 < xs.length := (by omega); have e1 := List.getElem?_eq_getElem hm; have hs := shr_half (i := i) (j := j) (by omega) (by omega); have hl := lessAt_pl (p := p) hm; obtain ⟨n, rfl⟩ : ∃ m, n = m + 1 := ⟨n - 1, by omega⟩
    rw [bsF, if_pos hlt] at h4; simp -implicitDefEqProofs (disch := omega) only [go_sem, ↓reduceIte , List.length_map, Int.toNat_natCast, Int.ofNat_lt, Int.natCast_nonneg, List.getElem?_map, Option.map_some, hs, hm, e1, Placed.td_d, Int.reduceLE]; have hcx := v_comparePlaced xs[(i + j) / 2] p; rw [Placed.td_d, Point.td_d] at hcx; refine callv_le (f := 47) (first := []) (caps := []) rfl hcx (leL_of_eq rfl) (.inl rfl) ?_; simp -implicitDefEqProofs (disch := omega) only [go_sem, ↓reduceIte , cmpP_lt]; refine cond_split ?_ ?_ <;> intro hc
    · simp -implicitDefEqProofs (disch := omega) only [go_sem, ↓reduceIte , wrN]; rw [hl, hc, if_pos rfl] at h4; exact ⟨((i + j) / 2 + 1, j), by simp only; omega, ⟨by simp only; omega, h2, n, by simp only; omega, h4⟩, nleA⟩
    · simp -implicitDefEqProofs (disch := omega) only [go_sem, ↓reduceIte]; rw [hl, hc, if_neg (by decide)] at h4; exact ⟨(i, (i + j) / 2), by simp only; omega, ⟨by simp only; omega, by simp only; omega, n, by simp only; omega, h4⟩, nleA⟩
  · have hge : ¬ i < j := (by simpa using hlt); have hb : bsA xs p = i := (by rw [← h4, bsF_end hge]); simp -implicitDefEqProofs (disch := omega) only [go_sem, ↓reduceIte , List.length_map, Int.toNat_natCast, Int.ofNat_lt, Int.natCast_nonneg, List.getElem?_map, Option.map_some]; refine gd_split ?_ ?_ <;> intro hi
    · have hi : i < xs.length := (by simpa using hi); have e1 := List.getElem?_eq_getElem hi; have hh : atP xs p = decide (xs[i].At = p) := (by unfold atP; rw [hb, e1]); simp -implicitDefEqProofs (disch := omega) only [go_sem, ↓reduceIte , List.length_map, Int.toNat_natCast, Int.ofNat_lt, Int.natCast_nonneg, List.getElem?_map, Option.map_some, hi, e1, Placed.td_d]; have hcx := v_comparePlaced xs[i] p; rw [Placed.td_d, Point.td_d] at hcx; refine callv_leN (f := 47) (first := []) (caps := []) rfl hcx (leL_of_eq rfl) (.inl rfl) ?_; simp -implicitDefEqProofs (disch := omega) only [go_sem, ↓reduceIte , cmpP_eq, hi, hb, hh]
    · have hi : ¬ i < xs.length := (by simpa using hi); have hh : atP xs p = false := (by unfold atP; rw [hb, List.getElem?_eq_none (Nat.le_of_not_lt hi)]); simp -implicitDefEqProofs (disch := omega) only [go_sem, ↓reduceIte , hi, hb, hh]
theorem atP_lt {ps : List Placed} {p : Point} (h : atP ps p = true) : ∃ hb : bsA ps p < ps.length, ps[bsA ps p].At = p := by
  unfold atP at h; split at h
  · rename_i x hx; obtain ⟨h1, h2⟩ := List.getElem?_eq_some_iff.1 hx; exact ⟨h1, by rw [h2]; exact of_decide_eq_true h⟩
  · cases h
def code_impl_Assembly_at : VCode := (.seq (.ops [
  ⟨(some 2), none, (.box (.tmp 0))⟩,
  ⟨(some 3), none, (.box (.tmp 1))⟩,
  ⟨(some 4), none, (.asg (.const (.int .i64 0)))⟩]) (.seq (.seq (.ops [
  ⟨(some 8), none, (.fa 0 (.tmp 2))⟩,
  ⟨(some 9), none, (.load 1 false (.tmp 8))⟩,
  ⟨(some 10), none, (.load 2 true (.tmp 3))⟩,
  ⟨(some 11), none, (.callX 46 [(.tmp 9), (.tmp 10), (.func 47)])⟩,
  ⟨(some 7), none, (.mv (.tmp 11))⟩,
  ⟨(some 12), none, (.ext (.tmp 7) 0)⟩,
  ⟨(some 13), none, (.ext (.tmp 7) 1)⟩,
  ⟨(some 5), none, (.asg (.tmp 12))⟩,
  ⟨(some 6), none, (.asg (.tmp 13))⟩]) (.seq (.ops [
  ⟨(some 14), none, (.mv (.tmp 6))⟩]) (.cond (.tmp 14) (.seq (.ops [
  ⟨(some 15), none, (.fa 0 (.tmp 2))⟩,
  ⟨(some 16), none, (.load 1 false (.tmp 15))⟩,
  ⟨(some 17), none, (.mv (.tmp 5))⟩,
  ⟨(some 18), none, (.ia 3 (.tmp 16) (.tmp 17))⟩,
  ⟨(some 19), none, (.fa 2 (.tmp 18))⟩,
  ⟨(some 20), none, (.load 1 false (.tmp 19))⟩,
  ⟨(some 4), none, (.asg (.tmp 20))⟩]) .ret) .skip))) (.seq (.ops [
  ⟨(some 4), none, (.asg (.const (.int .i64 (-1))))⟩]) .ret)))
theorem law_impl_Assembly_at {a0 a1 d : D} (h : code_impl_Assembly_at.wp (CT Try.prog NoG) (endQ [(.t 4)] d) [a0, a1, .undef, .undef, .undef, .undef, .undef, .undef, .undef, .undef, .undef, .undef, .undef, .undef, .undef, .undef, .undef, .undef, .undef, .undef, .undef]) : Contract Try.prog NoG 30 [a0, a1] d :=
  contract_of (pt := 0) noG Try.func30 (fun us W => by kernel_rfl) (c := Try.f30.body.getD .skip) (ms := []) (ms' := []) (by kernel_rfl) (by kernel_rfl) (by kernel_rfl) h
theorem v_at (b : Assembly) (p : Point) (hn : b.Tiles.length ≤ 1048576) : Contract Try.prog NoG 30 [.agg (Assembly.td.d false b), .agg (Point.td.d false p)] (.v (.int .i64 (tileA b.Tiles p))) := by
  rw [Assembly.td_d, Point.td_d]; refine law_impl_Assembly_at ?_; unfold code_impl_Assembly_at
  simp -implicitDefEqProofs (disch := omega) only [go_sem, ↓reduceIte]; cases h : atP b.Tiles p with
  | false => refine call_B (v_BinarySearch_Placed b.Tiles p hn) (by simp -implicitDefEqProofs (disch := omega) only [go_sem, ↓reduceIte, deep, TD.rows, immLL_rI, immLL_rB8, immLL_rS, immLL_rBo, immLL_rII, immLL_rIIt, lkF_tup, h, tileA]; exact rfl) ?_; simp -implicitDefEqProofs (disch := omega) only [go_sem, ↓reduceIte , lkF_tup, h, tileA]
  | true => obtain ⟨hb, _⟩ := atP_lt h; have e1 := List.getElem?_eq_getElem hb; refine call_B (v_BinarySearch_Placed b.Tiles p hn) (by simp -implicitDefEqProofs (disch := omega) only [go_sem, ↓reduceIte, deep, TD.rows, immLL_rI, immLL_rB8, immLL_rS, immLL_rBo, immLL_rII, immLL_rIIt, lkF_tup, h, tileA, List.length_map, Int.toNat_natCast, Int.ofNat_lt, Int.natCast_nonneg, List.getElem?_map, Option.map_some, hb, e1, Placed.td_d]; exact rfl) ?_; simp -implicitDefEqProofs (disch := omega) only [go_sem, ↓reduceIte , lkF_tup, h, tileA, List.length_map, Int.toNat_natCast, Int.ofNat_lt, Int.natCast_nonneg, List.getElem?_map, Option.map_some, hb, e1, Placed.td_d]
def code_laws_toPoint : VCode := (.seq (.ops [
  ⟨(some 1), none, (.box (.tmp 0))⟩,
  ⟨(some 2), none, (.alloc [(.int .i64 0), (.int .i64 0)])⟩]) (.seq (.ops [
  ⟨(some 3), none, (.alloc [(.int .i64 0), (.int .i64 0)])⟩]) (.seq (.ops [
  ⟨(some 4), none, (.fa 0 (.tmp 1))⟩,
  ⟨(some 5), none, (.load 1 false (.tmp 4))⟩,
  ⟨(some 6), none, (.fa 0 (.tmp 3))⟩,
  ⟨none, none, (.store 1 (.tmp 6) (.tmp 5))⟩]) (.seq (.ops [
  ⟨(some 7), none, (.fa 1 (.tmp 1))⟩,
  ⟨(some 8), none, (.load 1 false (.tmp 7))⟩,
  ⟨(some 9), none, (.fa 1 (.tmp 3))⟩,
  ⟨none, none, (.store 1 (.tmp 9) (.tmp 8))⟩]) (.seq (.ops [
  ⟨(some 10), none, (.load 2 true (.tmp 3))⟩,
  ⟨none, none, (.store 2 (.tmp 2) (.tmp 10))⟩]) .ret)))))
theorem law_laws_toPoint {a0 d : D} (h : code_laws_toPoint.wp (CT Try.prog NoG) (endQ [(.c 2 2 true)] d) [a0, .undef, .undef, .undef, .undef, .undef, .undef, .undef, .undef, .undef, .undef]) : Contract Try.prog NoG 49 [a0] d :=
  contract_of (pt := 0) noG Try.func49 (fun us W => by kernel_rfl) (c := Try.f49.body.getD .skip) (ms := []) (ms' := []) (by kernel_rfl) (by kernel_rfl) (by kernel_rfl) h
set_option maxHeartbeats 2000000 in
theorem v_toPoint (q : Point) : Contract Try.prog NoG 49 [.agg (Point.td.d false q)] (.agg (Point.td.d true q)) := by rw [Point.td_d, Point.td_d]; refine law_laws_toPoint ?_; unfold code_laws_toPoint; simp -implicitDefEqProofs (disch := omega) only [go_sem, ↓reduceIte]
def code_laws_toPlaced : VCode := (.seq (.ops [
  ⟨(some 1), none, (.box (.tmp 0))⟩,
  ⟨(some 2), none, (.alloc [(.int .i64 0), (.int .i64 0), (.int .i64 0)])⟩]) (.seq (.ops [
  ⟨(some 3), none, (.alloc [(.int .i64 0), (.int .i64 0), (.int .i64 0)])⟩]) (.seq (.ops [
  ⟨(some 4), none, (.fa 0 (.tmp 1))⟩,
  ⟨(some 5), none, (.load 2 true (.tmp 4))⟩,
  ⟨(some 6), none, (.callX 49 [(.tmp 5)])⟩,
  ⟨(some 7), none, (.fa 0 (.tmp 3))⟩,
  ⟨none, none, (.store 2 (.tmp 7) (.tmp 6))⟩]) (.seq (.ops [
  ⟨(some 8), none, (.fa 2 (.tmp 1))⟩,
  ⟨(some 9), none, (.load 1 false (.tmp 8))⟩,
  ⟨(some 10), none, (.fa 2 (.tmp 3))⟩,
  ⟨none, none, (.store 1 (.tmp 10) (.tmp 9))⟩]) (.seq (.ops [
  ⟨(some 11), none, (.load 3 true (.tmp 3))⟩,
  ⟨none, none, (.store 3 (.tmp 2) (.tmp 11))⟩]) .ret)))))
theorem law_laws_toPlaced {a0 d : D} (h : code_laws_toPlaced.wp (CT Try.prog NoG) (endQ [(.c 2 3 true)] d) [a0, .undef, .undef, .undef, .undef, .undef, .undef, .undef, .undef, .undef, .undef, .undef]) : Contract Try.prog NoG 36 [a0] d :=
  contract_of (pt := 0) noG Try.func36 (fun us W => by kernel_rfl) (c := Try.f36.body.getD .skip) (ms := []) (ms' := []) (by kernel_rfl) (by kernel_rfl) (by kernel_rfl) h
set_option maxHeartbeats 2000000 in
theorem v_toPlaced (q : Placed) : Contract Try.prog NoG 36 [.agg (Placed.td.d false q)] (.agg (Placed.td.d true q)) := by rw [Placed.td_d, Placed.td_d]; refine law_laws_toPlaced ?_; unfold code_laws_toPlaced; simp -implicitDefEqProofs (disch := omega) only [go_sem, ↓reduceIte , Point.td_d]; refine call_B (v_toPoint q.At) (by simp -implicitDefEqProofs (disch := omega) only [go_sem, ↓reduceIte, deep, TD.rows, immLL_rI, immLL_rB8, immLL_rS, immLL_rBo, immLL_rII, immLL_rIIt, Point.td_d]; exact rfl) ?_; simp -implicitDefEqProofs (disch := omega) only [go_sem, ↓reduceIte , Point.td_d]
def code_laws_toPlacedS : VCode := (.seq (.ops [
  ⟨(some 2), none, (.asg (.const (.slice none 0 0)))⟩]) (.seq (.ops [
  ⟨(some 5), none, (.mv (.tmp 0))⟩,
  ⟨(some 6), none, (.len (.tmp 5))⟩,
  ⟨(some 7), none, (.mks 3 24 [(.int .i64 0), (.int .i64 0), (.int .i64 0)] (.tmp 6) (.tmp 6))⟩,
  ⟨(some 3), none, (.asg (.tmp 7))⟩]) (.seq (.seq (.ops [
  ⟨(some 4), none, (.asg (.const (.int .i64 0)))⟩]) (.block 0 (.loop (mB 23 8388454) (.seq (.seq (.ops [
  ⟨(some 8), none, (.mv (.tmp 4))⟩,
  ⟨(some 9), none, (.mv (.tmp 0))⟩,
  ⟨(some 10), none, (.len (.tmp 9))⟩,
  ⟨(some 11), none, (.bin .lss (.tmp 8) (.tmp 10))⟩]) (.cond (.tmp 11) .skip (.exit 0))) (.seq (.block 1 (.ops [
  ⟨(some 14), none, (.mv (.tmp 3))⟩,
  ⟨(some 15), none, (.mv (.tmp 4))⟩,
  ⟨(some 16), none, (.mv (.tmp 0))⟩,
  ⟨(some 17), none, (.mv (.tmp 4))⟩,
  ⟨(some 18), none, (.ia 3 (.tmp 16) (.tmp 17))⟩,
  ⟨(some 19), none, (.load 3 true (.tmp 18))⟩,
  ⟨(some 20), none, (.callX 36 [(.tmp 19)])⟩,
  ⟨(some 21), none, (.ia 3 (.tmp 14) (.tmp 15))⟩,
  ⟨none, none, (.store 3 (.tmp 21) (.tmp 20))⟩])) (.ops [
  ⟨(some 12), none, (.mv (.tmp 4))⟩,
  ⟨(some 13), none, (.bin .add (.tmp 12) (.const (.int .i64 1)))⟩,
  ⟨(some 4), none, (.asg (.tmp 13))⟩])))))) (.seq (.ops [
  ⟨(some 22), none, (.mv (.tmp 3))⟩,
  ⟨(some 2), none, (.asg (.tmp 22))⟩]) .ret))))
theorem law_laws_toPlacedS {a0 d : D} (h : code_laws_toPlacedS.wp (CT Try.prog NoG) (endQ [(.t 2)] d) [a0, .undef, .undef, .undef, .undef, .undef, .undef, .undef, .undef, .undef, .undef, .undef, .undef, .undef, .undef, .undef, .undef, .undef, .undef, .undef, .undef, .undef, .undef]) : Contract Try.prog NoG 21 [a0] d :=
  contract_of (pt := 0) noG Try.func21 (fun us W => by kernel_rfl) (c := Try.f21.body.getD .skip) (ms := [(mB 23 8388454)]) (ms' := []) (by kernel_rfl) (by kernel_rfl) (by kernel_rfl) h
set_option maxHeartbeats 2000000 in
theorem v_toPlacedS (xs : List Placed) (hn : xs.length ≤ 1048576) : Contract Try.prog NoG 21 [.sl false 3 (xs.map (Placed.td.d false))] (.sl true 3 (xs.map (Placed.td.d true))) := by
  have hl : xs.length ≤ 1048576 := (by exact hn); refine law_laws_toPlacedS ?_; unfold code_laws_toPlacedS; simp -implicitDefEqProofs (disch := omega) only [go_sem, ↓reduceIte , List.length_map, Int.toNat_natCast]; refine ⟨by omega, by omega, by omega, ?_⟩; refine loop_st (fun k : Nat => [.sl false 3 (xs.map (Placed.td.d false)), .undef, .undef, .sl true 3 ((xs.take k).map (Placed.td.d true) ++ List.replicate (xs.length - k) [D.v (.int .i64 0), D.v (.int .i64 0), D.v (.int .i64 0)]), .v (.int .i64 k), .undef, .undef, .undef, .undef, .undef, .undef, .undef, .undef, .undef, .undef, .undef, .undef, .undef, .undef, .undef, .undef, .undef, .undef]) (fun k => k ≤ xs.length) (fun k => xs.length - k) 0 (nleA) (Nat.zero_le _) ?_; intro k hk; simp -implicitDefEqProofs (disch := omega) only [go_sem, ↓reduceIte , List.length_map, Int.toNat_natCast, Int.ofNat_lt, Int.natCast_nonneg, List.getElem?_map, Option.map_some]; refine cond_split ?_ ?_ <;> intro hlt
  · have hlt : k < xs.length := (by simpa using hlt); have e1 := List.getElem?_eq_getElem hlt; have g1 := fill_len xs (Placed.td.d true) [D.v (.int .i64 0), D.v (.int .i64 0), D.v (.int .i64 0)] k; have g2 := fill_at xs (Placed.td.d true) [D.v (.int .i64 0), D.v (.int .i64 0), D.v (.int .i64 0)] k hlt; have g3 := fill_next xs (Placed.td.d true) [D.v (.int .i64 0), D.v (.int .i64 0), D.v (.int .i64 0)] k hlt; have g4 : k < ((xs.take k).map (Placed.td.d true) ++ List.replicate (xs.length - k) [D.v (.int .i64 0), D.v (.int .i64 0), D.v (.int .i64 0)]).length := (by rw [g1]; exact hlt); simp -implicitDefEqProofs (disch := omega) only [go_sem, ↓reduceIte , List.length_map, Int.toNat_natCast, Int.ofNat_lt, Int.natCast_nonneg, List.getElem?_map, Option.map_some, hlt, e1, g1, g2, List.set_set, List.getElem?_set_self g4, wrN, Placed.td_d]; refine call_B (v_toPlaced xs[k]) (by simp -implicitDefEqProofs (disch := omega) only [go_sem, ↓reduceIte, deep, TD.rows, immLL_rI, immLL_rB8, immLL_rS, immLL_rBo, immLL_rII, immLL_rIIt, List.length_map, Int.toNat_natCast, Int.ofNat_lt, Int.natCast_nonneg, List.getElem?_map, Option.map_some, hlt, e1, g1, g2, List.set_set, List.getElem?_set_self g4, wrN, Placed.td_d]; exact rfl) ?_; simp -implicitDefEqProofs (disch := omega) only [go_sem, ↓reduceIte , List.length_map, Int.toNat_natCast, Int.ofNat_lt, Int.natCast_nonneg, List.getElem?_map, Option.map_some, hlt, e1, g1, g2, List.set_set, List.getElem?_set_self g4, wrN, Placed.td_d]; refine ⟨k + 1, by omega, hlt, ?_⟩; rw [← g3]; rw [Placed.td_d]
    (try simp -implicitDefEqProofs only [nleL_cc, nleL_nn, nle_self, nle_boxs, nle_aggs, nle_nils, and_self, and_true, true_and]) <;> repeat' (first | exact nle_of_eq rfl | exact nle_nil | apply And.intro | apply nle_sl | apply nleLL_cons | apply nleL_cons | exact nleL_nil | exact nleLL_nil | apply nle_box | apply nle_agg)
  · have hge : k = xs.length := (by have : ¬ k < xs.length := (by simpa using hlt); omega); subst hge; simp -implicitDefEqProofs (disch := omega) only [go_sem, ↓reduceIte , fill_end]
def code_laws_toAssembly : VCode := (.seq (.ops [
  ⟨(some 1), none, (.box (.tmp 0))⟩,
  ⟨(some 2), none, (.alloc [(.slice none 0 0)])⟩]) (.seq (.ops [
  ⟨(some 3), none, (.alloc [(.slice none 0 0)])⟩]) (.seq (.ops [
  ⟨(some 4), none, (.fa 0 (.tmp 1))⟩,
  ⟨(some 5), none, (.load 1 false (.tmp 4))⟩,
  ⟨(some 6), none, (.callX 21 [(.tmp 5)])⟩,
  ⟨(some 7), none, (.fa 0 (.tmp 3))⟩,
  ⟨none, none, (.store 1 (.tmp 7) (.tmp 6))⟩]) (.seq (.ops [
  ⟨(some 8), none, (.load 1 true (.tmp 3))⟩,
  ⟨none, none, (.store 1 (.tmp 2) (.tmp 8))⟩]) .ret))))
theorem law_laws_toAssembly {a0 d : D} (h : code_laws_toAssembly.wp (CT Try.prog NoG) (endQ [(.c 2 1 true)] d) [a0, .undef, .undef, .undef, .undef, .undef, .undef, .undef, .undef]) : Contract Try.prog NoG 7 [a0] d :=
  contract_of (pt := 0) noG Try.func7 (fun us W => by kernel_rfl) (c := Try.f7.body.getD .skip) (ms := []) (ms' := []) (by kernel_rfl) (by kernel_rfl) (by kernel_rfl) h
set_option maxHeartbeats 2000000 in
theorem v_toAssembly (q : Assembly) (hn : Assembly.cnt q ≤ 1048576) : Contract Try.prog NoG 7 [.agg (Assembly.td.d false q)] (.agg (Assembly.td.d true q)) := by rw [Assembly.td_d, Assembly.td_d]; refine law_laws_toAssembly ?_; unfold code_laws_toAssembly; have hn0 := hn; unfold Assembly.cnt at hn; simp -implicitDefEqProofs (disch := omega) only [go_sem, ↓reduceIte]; refine call_B (v_toPlacedS q.Tiles (by omega)) (by simp -implicitDefEqProofs (disch := omega) only [go_sem, ↓reduceIte, deep, TD.rows, immLL_rI, immLL_rB8, immLL_rS, immLL_rBo, immLL_rII, immLL_rIIt]; exact rfl) ?_; simp -implicitDefEqProofs (disch := omega) only [go_sem, ↓reduceIte]
end Go.Proofs.Ytjalagigmelcaaa
