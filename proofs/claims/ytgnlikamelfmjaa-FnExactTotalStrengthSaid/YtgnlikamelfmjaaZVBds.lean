/- Laws that the proof stands on. -/
import Derived.Test.YtgnlikamelfmjaaZVNb
set_option linter.all false
namespace Go.Proofs.Ytgnlikamelfmjaa
open Go.RowKit Go.V
attribute [local go_sem] List.getElem?_cons_succ List.getElem?_cons_zero List.set_cons_succ List.set_cons_zero List.map_cons List.map_nil List.length_cons List.length_nil List.all_cons List.all_nil List.drop_succ_cons List.drop_zero List.take_succ_cons List.take_zero List.flatMap_cons List.flatMap_nil List.cons_append List.nil_append List.append_nil List.headD_cons Value.oneCell' Bool.and_true Bool.true_and Bool.or_false Bool.false_or Bool.and_self Bool.not_true Bool.not_false and_true true_and beq_self_eq_true Bool.false_eq_true if_true if_false Nat.zero_add Nat.reduceAdd Nat.reduceMul Nat.reduceLeDiff Nat.le_refl Option.isSome_some Option.isSome_none not_true_eq_false not_false_eq_true ne_eq reduceCtorEq List.reverse_nil bne_self_eq_false Nat.reduceEqDiff List.isPrefixOf Bool.not_eq_true Bool.and_false Bool.false_and Bool.true_or Bool.or_true decide_true decide_false Nat.reduceBEq Nat.reduceBNe List.replicate_succ List.replicate_zero exists_eq_left' exists_eq_left Option.some.injEq or_false or_true true_or false_or Option.map_some Option.map_none mB Nat.reduceMod Nat.reduceDiv
set_option maxRecDepth 100000
theorem nb_range (xs : List (Nat × Nat × Nat)) : xs.map nbD = (List.range xs.length).map (fun i => nbD (xs.getD i (0, 0, 0))) := by
  refine List.ext_getElem (by simp) (fun i h1 h2 => ?_); have hi : i < xs.length := by simpa using h1
  simp [List.getElem_map, List.getD_eq_getElem?_getD, hi]
def tlA (ps : List Placed) (i : Nat) : Nat := (ps.getD i pl0).Tile.toNat
theorem tl_at {a : TileSet} {b : Assembly} (h : okAsm a b = true) {i : Nat} (hi : i < b.Tiles.length) : ∃ p, b.Tiles[i]? = some ⟨p, (tlA b.Tiles i : Int)⟩ ∧ tlA b.Tiles i < a.Tiles.length := by
  unfold okAsm at h; rw [Bool.and_eq_true, List.all_eq_true] at h; have h1 := inR_iff.1 (h.2 _ (List.getElem_mem hi)); have hg : b.Tiles.getD i pl0 = b.Tiles[i] := by rw [List.getD_eq_getElem?_getD, List.getElem?_eq_getElem hi]; rfl
  have ht : (tlA b.Tiles i : Int) = b.Tiles[i].Tile := (by unfold tlA; rw [hg]; omega); refine ⟨b.Tiles[i].At, ?_, by omega⟩; rw [ht, List.getElem?_eq_getElem hi]
def bdW (a : TileSet) (ps : List Placed) (x : Nat × Nat × Nat) : Int := bondN a (tlA ps x.1) x.2.2 (tlA ps x.2.1)
def bdC (a : TileSet) (ps : List Placed) (x : Nat × Nat × Nat) : List (Nat × Nat × Int) := if 0 < bdW a ps x then [(x.1, x.2.1, bdW a ps x)] else []
def bdR (b : Nat × Nat × Int) : List D := [.v (.int .i64 (b.1 : Int)), .v (.int .i64 (b.2.1 : Int)), .v (.int .i64 b.2.2)]
def bdL (a : TileSet) (ps : List Placed) (xs : List (Nat × Nat × Nat)) : List (Nat × Nat × Int) := xs.flatMap (bdC a ps)
theorem noImmLL_bdR : ∀ bs : List (Nat × Nat × Int), noImmLL (bs.map bdR) = true
  | [] => rfl
  | x :: bs => by simp only [List.map_cons, noImmLL, noImmLL_bdR bs]; rfl
theorem immLL_bdR (bs : List (Nat × Nat × Int)) : immLL (bs.map bdR) = bs.map bdR := immLL_map (fun _ => rfl) bs
attribute [local go_sem] noImmLL_bdR immLL_bdR
def sumB (bs : List (Nat × Nat × Int)) : Int := (bs.map (·.2.2)).sum
theorem bdL_app (a : TileSet) (ps : List Placed) (xs ys : List (Nat × Nat × Nat)) : bdL a ps (xs ++ ys) = bdL a ps xs ++ bdL a ps ys := List.flatMap_append
theorem bdL_one (a : TileSet) (ps : List Placed) (x : Nat × Nat × Nat) : bdL a ps [x] = bdC a ps x := by simp [bdL]
theorem bdL_take {a : TileSet} {ps : List Placed} {xs : List (Nat × Nat × Nat)} {i : Nat} (hi : i < xs.length) : bdL a ps (xs.take (i + 1)) = bdL a ps (xs.take i) ++ bdC a ps (xs.getD i (0, 0, 0)) := by rw [List.take_add_one, List.getElem?_eq_getElem hi, List.getD_eq_getElem?_getD, List.getElem?_eq_getElem hi, bdL_app]; exact congrArg _ (bdL_one a ps _)
theorem bdC_len (a : TileSet) (ps : List Placed) (x : Nat × Nat × Nat) : (bdC a ps x).length ≤ 1 := by unfold bdC; split <;> simp
theorem bdL_len (a : TileSet) (ps : List Placed) : ∀ xs : List (Nat × Nat × Nat), (bdL a ps xs).length ≤ xs.length
  | [] => Nat.le_refl _
  | x :: xs => by have h1 := bdL_len a ps xs; have h2 := bdC_len a ps x; show (bdC a ps x ++ bdL a ps xs).length ≤ _; rw [List.length_append, List.length_cons]; omega
def okB (bs : List (Nat × Nat × Int)) : Prop := ∀ x, x ∈ bs → 0 ≤ x.2.2 ∧ x.2.2 ≤ 4
theorem bdL_ok {a : TileSet} {b : Assembly} (h : okSet a = true) (hb : okAsm a b = true) {xs : List (Nat × Nat × Nat)} (hx : ∀ x, x ∈ xs → x.1 < b.Tiles.length ∧ x.2.1 < b.Tiles.length ∧ x.2.2 < 4) : okB (bdL a b.Tiles xs) := fun y hy => by
  obtain ⟨x, hxs, hy⟩ := List.mem_flatMap.1 hy; unfold bdC at hy; split at hy
  · rw [List.mem_singleton] at hy; subst hy; obtain ⟨h1, h2, h3⟩ := hx x hxs; obtain ⟨_, _, h4⟩ := tl_at hb h1; exact bond_in h h4 h3
  · cases hy
theorem sumB_in : ∀ {bs : List (Nat × Nat × Int)}, okB bs → 0 ≤ sumB bs ∧ sumB bs ≤ 4 * (bs.length : Int)
  | [], _ => by simp [sumB]
  | x :: bs, h => by have h1 := sumB_in (bs := bs) (fun y hy => h y (List.mem_cons_of_mem _ hy)); have h2 := h x (by simp); have e : sumB (x :: bs) = x.2.2 + sumB bs := (by simp [sumB]); rw [e, List.length_cons]; omega
theorem sumB_next {bs : List (Nat × Nat × Int)} {i : Nat} (hi : i < bs.length) : sumB (bs.take (i + 1)) = sumB (bs.take i) + bs[i].2.2 := by rw [List.take_add_one, List.getElem?_eq_getElem hi]; unfold sumB; rw [List.map_append, List.sum_append]; simp
theorem okB_take {bs : List (Nat × Nat × Int)} (h : okB bs) (i : Nat) : okB (bs.take i) := fun x hx => h x (List.mem_of_mem_take hx)
theorem sumB_wr {bs : List (Nat × Nat × Int)} (h : okB bs) (hl : bs.length ≤ 4194304) {i : Nat} (hi : i < bs.length) : IntKind.i64.wrap (sumB (bs.take i) + bs[i].2.2) = sumB (bs.take (i + 1)) := by have h1 := sumB_in (okB_take h (i + 1)); have h2 : (bs.take (i + 1)).length ≤ bs.length := (by rw [List.length_take]; omega); rw [← sumB_next hi]; exact wrI (by omega) (by omega)
def code_impl_strengthOf : VCode := (.seq (.ops [
  ⟨(some 2), none, (.asg (.const (.int .i64 0)))⟩]) (.seq (.ops [
  ⟨(some 3), none, (.asg (.const (.int .i64 0)))⟩]) (.seq (.seq (.ops [
  ⟨(some 6), none, (.mv (.tmp 0))⟩,
  ⟨(some 7), none, (.len (.tmp 6))⟩,
  ⟨(some 8), none, (.mv (.const (.int .i64 0)))⟩]) (.block 0 (.loop (mB 18 261687) (.seq (.ops [
  ⟨(some 9), none, (.bin .lss (.tmp 8) (.tmp 7))⟩]) (.seq (.cond (.tmp 9) .skip (.exit 0)) (.seq (.block 1 (.seq (.ops [
  ⟨(some 10), none, (.ia 3 (.tmp 6) (.tmp 8))⟩,
  ⟨(some 11), none, (.load 3 true (.tmp 10))⟩,
  ⟨(some 5), none, (.alloc [(.int .i64 0), (.int .i64 0), (.int .i64 0)])⟩,
  ⟨none, none, (.store 3 (.tmp 5) (.tmp 11))⟩]) (.ops [
  ⟨(some 12), none, (.mv (.tmp 3))⟩,
  ⟨(some 13), none, (.fa 2 (.tmp 5))⟩,
  ⟨(some 14), none, (.load 1 false (.tmp 13))⟩,
  ⟨(some 15), none, (.bin .add (.tmp 12) (.tmp 14))⟩,
  ⟨(some 3), none, (.asg (.tmp 15))⟩]))) (.ops [
  ⟨(some 16), none, (.bin .add (.tmp 8) (.const (.int .i64 1)))⟩,
  ⟨(some 8), none, (.mv (.tmp 16))⟩]))))))) (.seq (.ops [
  ⟨(some 17), none, (.mv (.tmp 3))⟩,
  ⟨(some 2), none, (.asg (.tmp 17))⟩]) .ret))))
theorem law_impl_strengthOf {a0 d : D} (h : code_impl_strengthOf.wp (CT Try.prog NoG) (endQ [(.t 2)] d) [a0, .undef, .undef, .undef, .undef, .undef, .undef, .undef, .undef, .undef, .undef, .undef, .undef, .undef, .undef, .undef, .undef, .undef]) : Contract Try.prog NoG 45 [a0] d :=
  contract_of (pt := 0) noG Try.func45 (fun us W => by kernel_rfl) (c := Try.f45.body.getD .skip) (ms := [(mB 18 261687)]) (ms' := []) (by kernel_rfl) (by kernel_rfl) (by kernel_rfl) h
theorem v_strengthOf (bs : List (Nat × Nat × Int)) (h : okB bs) (hl : bs.length ≤ 4194304) : Contract Try.prog NoG 45 [.sl false 3 (bs.map bdR)] (.v (.int .i64 (sumB bs))) := by
  refine law_impl_strengthOf ?_; unfold code_impl_strengthOf; simp -implicitDefEqProofs (disch := omega) only [go_sem, ↓reduceIte , List.length_map]; refine loop_ov (by simp -implicitDefEqProofs (disch := omega) only [go_sem, ↓reduceIte]; exact rfl) (fun i : Nat => [(3, .v (.int .i64 (sumB (bs.take i)))), (8, .v (.int .i64 (i : Nat)))]) (fun _ => by simp only [ovr_nil, ovr_cons, List.set_cons_zero, List.set_cons_succ]; exact rfl) (fun i : Nat => i ≤ bs.length) (fun i : Nat => bs.length - i) (0) (by rw [show sumB (bs.take 0) = 0 from rfl]; (try simp -implicitDefEqProofs only [nleL_cc, nleL_nn, nle_self, nle_boxs, nle_aggs, nle_nils, and_self, and_true, true_and]) <;> repeat' (first | exact nle_of_eq rfl | exact nle_nil | apply And.intro | apply nle_sl | apply nleLL_cons | apply nleL_cons | exact nleL_nil | exact nleLL_nil | apply nle_box | apply nle_agg)) (?_) ?_
  · exact Nat.zero_le _
  intro i hi; simp -implicitDefEqProofs (disch := omega) only [go_sem, ↓reduceIte]; refine cond_split ?_ ?_ <;> intro hlt
  · have hlt : i < bs.length := (by simpa using hlt); have e1 := List.getElem?_eq_getElem hlt; have hw := sumB_wr h hl hlt; simp -implicitDefEqProofs (disch := omega) only [go_sem, ↓reduceIte , List.length_map, Int.toNat_natCast, Int.ofNat_lt, Int.natCast_nonneg, List.getElem?_map, Option.map_some, hlt, e1, bdR, hw, wrN]; exact ⟨i + 1, by omega, hlt, nleA⟩
  · obtain rfl : i = bs.length := (by have : ¬ i < bs.length := (by simpa using hlt); omega); simp -implicitDefEqProofs (disch := omega) only [go_sem, ↓reduceIte , List.take_length]
def code_spec_l06Neighbor : VCode := (.seq (.ops [
  ⟨(some 6), none, (.asg (.const (.int .i64 0)))⟩]) (.seq (.ops [
  ⟨(some 7), none, (.mv (.tmp 0))⟩,
  ⟨(some 8), none, (.mv (.tmp 0))⟩,
  ⟨(some 9), none, (.nilc (.tmp 8))⟩,
  ⟨(some 10), none, (.fa 0 (.tmp 9))⟩,
  ⟨(some 11), none, (.load 1 false (.tmp 10))⟩,
  ⟨(some 12), none, (.mv (.tmp 1))⟩,
  ⟨(some 13), none, (.ia 3 (.tmp 11) (.tmp 12))⟩,
  ⟨(some 14), none, (.fa 0 (.tmp 13))⟩,
  ⟨(some 15), none, (.load 2 true (.tmp 14))⟩,
  ⟨(some 16), none, (.mv (.tmp 2))⟩,
  ⟨(some 17), none, (.callX 97 [(.tmp 15), (.tmp 16)])⟩,
  ⟨(some 18), none, (.callX 96 [(.tmp 7), (.tmp 17)])⟩,
  ⟨(some 6), none, (.asg (.tmp 18))⟩]) .ret))
theorem law_spec_l06Neighbor {a0 a1 a2 d : D} (h : code_spec_l06Neighbor.wp (CT Try.prog NoG) (endQ [(.t 6)] d) [a0, a1, a2, .undef, .undef, .undef, .undef, .undef, .undef, .undef, .undef, .undef, .undef, .undef, .undef, .undef, .undef, .undef, .undef]) : Contract Try.prog NoG 73 [a0, a1, a2] d :=
  contract_of (pt := 0) noG Try.func73 (fun us W => by kernel_rfl) (c := Try.f73.body.getD .skip) (ms := []) (ms' := []) (by kernel_rfl) (by kernel_rfl) (by kernel_rfl) h
def code_impl_TileSet_bonds : VCode := (.seq (.ops [
  ⟨(some 2), none, (.box (.tmp 0))⟩,
  ⟨(some 3), none, (.box (.tmp 1))⟩,
  ⟨(some 4), none, (.asg (.const (.slice none 0 0)))⟩]) (.seq (.ops [
  ⟨(some 5), none, (.alloc [(.slice none 0 0)])⟩]) (.seq (.seq (.ops [
  ⟨(some 9), none, (.load 1 true (.tmp 3))⟩,
  ⟨(some 10), none, (.callX 81 [(.tmp 9)])⟩]) (.block 0 (.rangeF (.tmp 10) [11, 12] (mB 41 2199023253952) (.seq (.ops [
  ⟨(some 6), none, (.alloc [(.int .i64 0), (.int .i64 0)])⟩,
  ⟨none, none, (.store 2 (.tmp 6) (.tmp 11))⟩]) (.ops [
  ⟨(some 7), none, (.asg (.tmp 12))⟩])) (.block 1 (.seq (.draw (mB 29 536862720) [] [⟨0, (mB 29 536862720), [], ⟨(some 13), none, (.load 2 true (.tmp 2))⟩⟩, ⟨1, (mB 29 536862720), [], ⟨(some 14), none, (.fa 0 (.tmp 3))⟩⟩, ⟨2, (mB 29 536846336), [], ⟨(some 15), none, (.load 1 false (.tmp 14))⟩⟩, ⟨3, (mB 29 536862720), [], ⟨(some 16), none, (.iaa 2 1 (.tmp 6) (.const (.int .i64 0)))⟩⟩, ⟨4, (mB 29 536797184), [], ⟨(some 17), none, (.load 1 false (.tmp 16))⟩⟩, ⟨5, (mB 29 536616960), [], ⟨(some 18), none, (.ia 3 (.tmp 15) (.tmp 17))⟩⟩, ⟨6, (mB 29 536354816), [], ⟨(some 19), none, (.fa 2 (.tmp 18))⟩⟩, ⟨7, (mB 29 535830528), [], ⟨(some 20), none, (.load 1 false (.tmp 19))⟩⟩, ⟨8, (mB 29 536862720), [], ⟨(some 21), none, (.mv (.tmp 7))⟩⟩, ⟨9, (mB 29 536862720), [], ⟨(some 22), none, (.fa 0 (.tmp 3))⟩⟩, ⟨10, (mB 29 532668416), [], ⟨(some 23), none, (.load 1 false (.tmp 22))⟩⟩, ⟨11, (mB 29 536862720), [], ⟨(some 24), none, (.iaa 2 1 (.tmp 6) (.const (.int .i64 1)))⟩⟩, ⟨12, (mB 29 520085504), [], ⟨(some 25), none, (.load 1 false (.tmp 24))⟩⟩, ⟨13, (mB 29 473948160), [], ⟨(some 26), none, (.ia 3 (.tmp 23) (.tmp 25))⟩⟩, ⟨14, (mB 29 406839296), [], ⟨(some 27), none, (.fa 2 (.tmp 26))⟩⟩, ⟨15, (mB 29 272621568), [], ⟨(some 28), none, (.load 1 false (.tmp 27))⟩⟩] [⟨(some 29), none, (.callX 82 [(.tmp 13), (.tmp 20), (.tmp 21), (.tmp 28)])⟩, ⟨(some 8), none, (.asg (.tmp 29))⟩]) (.seq (.ops [
  ⟨(some 30), none, (.mv (.tmp 8))⟩,
  ⟨(some 31), none, (.bin .gtr (.tmp 30) (.const (.int .i64 0)))⟩]) (.cond (.tmp 31) (.ops [
  ⟨(some 32), none, (.load 1 false (.tmp 5))⟩,
  ⟨(some 33), none, (.iaa 2 1 (.tmp 6) (.const (.int .i64 0)))⟩,
  ⟨(some 34), none, (.load 1 false (.tmp 33))⟩,
  ⟨(some 35), none, (.iaa 2 1 (.tmp 6) (.const (.int .i64 1)))⟩,
  ⟨(some 36), none, (.load 1 false (.tmp 35))⟩,
  ⟨(some 37), none, (.mv (.tmp 8))⟩,
  ⟨(some 38), none, (.build [(.int .i64 0), (.int .i64 0), (.int .i64 0)] [(0, 1, (.tmp 34)), (1, 1, (.tmp 36)), (2, 1, (.tmp 37))])⟩,
  ⟨(some 39), none, (.bsl 3 [(.tmp 38)])⟩,
  ⟨(some 40), none, (.app 3 24 (.tmp 32) (.tmp 39))⟩,
  ⟨none, none, (.store 1 (.tmp 5) (.tmp 40))⟩]) .skip))))))) (.seq (.ops [
  ⟨(some 41), none, (.load 1 false (.tmp 5))⟩,
  ⟨(some 4), none, (.asg (.tmp 41))⟩]) .ret))))
theorem law_impl_TileSet_bonds {a0 a1 d : D} (h : code_impl_TileSet_bonds.wp (CT Try.prog NoG) (endQ [(.t 4)] d) [a0, a1, .undef, .undef, .undef, .undef, .undef, .undef, .undef, .undef, .undef, .undef, .undef, .undef, .undef, .undef, .undef, .undef, .undef, .undef, .undef, .undef, .undef, .undef, .undef, .undef, .undef, .undef, .undef, .undef, .undef, .undef, .undef, .undef, .undef, .undef, .undef, .undef, .undef, .undef, .undef, .undef]) : Contract Try.prog NoG 46 [a0, a1] d :=
  contract_ofR (pt := 0) noG Try.func46 (fun us W => by kernel_rfl) (c := Try.f46.body.getD .skip) (ms := []) (ms' := []) (by kernel_rfl) (by kernel_rfl) (by kernel_rfl) (by kernel_rfl) h
def code_spec_l06Bonds : VCode := (.seq (.ops [
  ⟨(some 4), none, (.asg (.const (.slice none 0 0)))⟩]) (.seq (.ops [
  ⟨(some 10), none, (.bsl 3 [])⟩,
  ⟨(some 5), none, (.asg (.tmp 10))⟩]) (.seq (.seq (.ops [
  ⟨(some 6), none, (.asg (.const (.int .i64 0)))⟩]) (.block 0 (.loop (mB 59 358036170375953308) (.seq (.seq (.ops [
  ⟨(some 11), none, (.mv (.tmp 6))⟩,
  ⟨(some 12), none, (.mv (.tmp 1))⟩,
  ⟨(some 13), none, (.nilc (.tmp 12))⟩,
  ⟨(some 14), none, (.fa 0 (.tmp 13))⟩,
  ⟨(some 15), none, (.load 1 false (.tmp 14))⟩,
  ⟨(some 16), none, (.len (.tmp 15))⟩,
  ⟨(some 17), none, (.bin .lss (.tmp 11) (.tmp 16))⟩]) (.cond (.tmp 17) .skip (.exit 0))) (.seq (.block 1 (.seq (.ops [
  ⟨(some 7), none, (.asg (.const (.int .i64 1)))⟩]) (.block 2 (.loop (mB 59 358036170375953180) (.seq (.seq (.ops [
  ⟨(some 20), none, (.mv (.tmp 7))⟩,
  ⟨(some 21), none, (.bin .geq (.tmp 20) (.const (.int .i64 0)))⟩]) (.cond (.tmp 21) .skip (.exit 2))) (.seq (.block 3 (.seq (.ops [
  ⟨(some 24), none, (.mv (.tmp 1))⟩,
  ⟨(some 25), none, (.mv (.tmp 6))⟩,
  ⟨(some 26), none, (.mv (.tmp 7))⟩,
  ⟨(some 27), none, (.callX 73 [(.tmp 24), (.tmp 25), (.tmp 26)])⟩,
  ⟨(some 8), none, (.asg (.tmp 27))⟩]) (.seq (.seq (.ops [
  ⟨(some 28), none, (.mv (.tmp 8))⟩,
  ⟨(some 29), none, (.bin .lss (.tmp 28) (.const (.int .i64 0)))⟩]) (.cond (.tmp 29) (.exit 3) .skip)) (.seq (.draw (mB 48 281473902968832) [] [⟨0, (mB 48 281473902968832), [], ⟨(some 30), none, (.mv (.tmp 0))⟩⟩, ⟨1, (mB 48 281473902968832), [], ⟨(some 31), none, (.mv (.tmp 1))⟩⟩, ⟨2, (mB 48 281471755485184), [], ⟨(some 32), none, (.nilc (.tmp 31))⟩⟩, ⟨3, (mB 48 281467460517888), [], ⟨(some 33), none, (.fa 0 (.tmp 32))⟩⟩, ⟨4, (mB 48 281458870583296), [], ⟨(some 34), none, (.load 1 false (.tmp 33))⟩⟩, ⟨5, (mB 48 281473902968832), [], ⟨(some 35), none, (.mv (.tmp 6))⟩⟩, ⟨6, (mB 48 281407330975744), [], ⟨(some 36), none, (.ia 3 (.tmp 34) (.tmp 35))⟩⟩, ⟨7, (mB 48 281338611499008), [], ⟨(some 37), none, (.fa 2 (.tmp 36))⟩⟩, ⟨8, (mB 48 281201172545536), [], ⟨(some 38), none, (.load 1 false (.tmp 37))⟩⟩, ⟨9, (mB 48 281473902968832), [], ⟨(some 39), none, (.mv (.tmp 7))⟩⟩, ⟨10, (mB 48 281473902968832), [], ⟨(some 40), none, (.mv (.tmp 1))⟩⟩, ⟨11, (mB 48 280374391341056), [], ⟨(some 41), none, (.nilc (.tmp 40))⟩⟩, ⟨12, (mB 48 278175368085504), [], ⟨(some 42), none, (.fa 0 (.tmp 41))⟩⟩, ⟨13, (mB 48 273777321574400), [], ⟨(some 43), none, (.load 1 false (.tmp 42))⟩⟩, ⟨14, (mB 48 281473902968832), [], ⟨(some 44), none, (.mv (.tmp 8))⟩⟩, ⟨15, (mB 48 247389042507776), [], ⟨(some 45), none, (.ia 3 (.tmp 43) (.tmp 44))⟩⟩, ⟨16, (mB 48 212204670418944), [], ⟨(some 46), none, (.fa 2 (.tmp 45))⟩⟩, ⟨17, (mB 48 141835926241280), [], ⟨(some 47), none, (.load 1 false (.tmp 46))⟩⟩] [⟨(some 48), none, (.callX 74 [(.tmp 30), (.tmp 38), (.tmp 39), (.tmp 47)])⟩, ⟨(some 9), none, (.asg (.tmp 48))⟩]) (.seq (.ops [
  ⟨(some 49), none, (.mv (.tmp 9))⟩,
  ⟨(some 50), none, (.bin .gtr (.tmp 49) (.const (.int .i64 0)))⟩]) (.cond (.tmp 50) (.ops [
  ⟨(some 51), none, (.mv (.tmp 5))⟩,
  ⟨(some 52), none, (.mv (.tmp 6))⟩,
  ⟨(some 53), none, (.mv (.tmp 8))⟩,
  ⟨(some 54), none, (.mv (.tmp 9))⟩,
  ⟨(some 55), none, (.build [(.int .i64 0), (.int .i64 0), (.int .i64 0)] [(0, 1, (.tmp 52)), (1, 1, (.tmp 53)), (2, 1, (.tmp 54))])⟩,
  ⟨(some 56), none, (.bsl 3 [(.tmp 55)])⟩,
  ⟨(some 57), none, (.app 3 24 (.tmp 51) (.tmp 56))⟩,
  ⟨(some 5), none, (.asg (.tmp 57))⟩]) .skip)))))) (.ops [
  ⟨(some 22), none, (.mv (.tmp 7))⟩,
  ⟨(some 23), none, (.bin .sub (.tmp 22) (.const (.int .i64 1)))⟩,
  ⟨(some 7), none, (.asg (.tmp 23))⟩]))))))) (.ops [
  ⟨(some 18), none, (.mv (.tmp 6))⟩,
  ⟨(some 19), none, (.bin .add (.tmp 18) (.const (.int .i64 1)))⟩,
  ⟨(some 6), none, (.asg (.tmp 19))⟩])))))) (.seq (.ops [
  ⟨(some 58), none, (.mv (.tmp 5))⟩,
  ⟨(some 4), none, (.asg (.tmp 58))⟩]) .ret))))
theorem law_spec_l06Bonds {a0 a1 d : D} (h : code_spec_l06Bonds.wp (CT Try.prog NoG) (endQ [(.t 4)] d) [a0, a1, .undef, .undef, .undef, .undef, .undef, .undef, .undef, .undef, .undef, .undef, .undef, .undef, .undef, .undef, .undef, .undef, .undef, .undef, .undef, .undef, .undef, .undef, .undef, .undef, .undef, .undef, .undef, .undef, .undef, .undef, .undef, .undef, .undef, .undef, .undef, .undef, .undef, .undef, .undef, .undef, .undef, .undef, .undef, .undef, .undef, .undef, .undef, .undef, .undef, .undef, .undef, .undef, .undef, .undef, .undef, .undef, .undef]) : Contract Try.prog NoG 40 [a0, a1] d :=
  contract_of (pt := 0) noG Try.func40 (fun us W => by kernel_rfl) (c := Try.f40.body.getD .skip) (ms := [(mB 59 358036170375953308), (mB 59 358036170375953180)]) (ms' := []) (by kernel_rfl) (by kernel_rfl) (by kernel_rfl) h
def code_spec_TotalStrength : VCode := (.seq (.ops [
  ⟨(some 2), none, (.box (.tmp 0))⟩,
  ⟨(some 3), none, (.box (.tmp 1))⟩,
  ⟨(some 4), none, (.asg (.const (.int .i64 0)))⟩,
  ⟨(some 5), none, (.asg (.const (.int .i64 0)))⟩]) (.seq (.ops [
  ⟨(some 10), none, (.callX 39 [(.tmp 2), (.tmp 3)])⟩,
  ⟨(some 6), none, (.asg (.tmp 10))⟩]) (.seq (.seq (.ops [
  ⟨(some 11), none, (.mv (.tmp 6))⟩,
  ⟨(some 12), none, (.bin .neq (.tmp 11) (.const (.int .i64 0)))⟩]) (.cond (.tmp 12) (.seq (.ops [
  ⟨(some 13), none, (.mv (.tmp 6))⟩,
  ⟨(some 4), none, (.asg (.const (.int .i64 0)))⟩,
  ⟨(some 5), none, (.asg (.tmp 13))⟩]) .ret) .skip)) (.seq (.ops [
  ⟨(some 14), none, (.callX 40 [(.tmp 2), (.tmp 3)])⟩,
  ⟨(some 7), none, (.asg (.tmp 14))⟩]) (.seq (.ops [
  ⟨(some 8), none, (.asg (.const (.int .i64 0)))⟩]) (.seq (.seq (.ops [
  ⟨(some 9), none, (.asg (.const (.int .i64 0)))⟩]) (.block 0 (.loop (mB 29 536853619) (.seq (.seq (.ops [
  ⟨(some 15), none, (.mv (.tmp 9))⟩,
  ⟨(some 16), none, (.mv (.tmp 7))⟩,
  ⟨(some 17), none, (.len (.tmp 16))⟩,
  ⟨(some 18), none, (.bin .lss (.tmp 15) (.tmp 17))⟩]) (.cond (.tmp 18) .skip (.exit 0))) (.seq (.block 1 (.ops [
  ⟨(some 21), none, (.mv (.tmp 8))⟩,
  ⟨(some 22), none, (.mv (.tmp 7))⟩,
  ⟨(some 23), none, (.mv (.tmp 9))⟩,
  ⟨(some 24), none, (.ia 3 (.tmp 22) (.tmp 23))⟩,
  ⟨(some 25), none, (.fa 2 (.tmp 24))⟩,
  ⟨(some 26), none, (.load 1 false (.tmp 25))⟩,
  ⟨(some 27), none, (.bin .add (.tmp 21) (.tmp 26))⟩,
  ⟨(some 8), none, (.asg (.tmp 27))⟩])) (.ops [
  ⟨(some 19), none, (.mv (.tmp 9))⟩,
  ⟨(some 20), none, (.bin .add (.tmp 19) (.const (.int .i64 1)))⟩,
  ⟨(some 9), none, (.asg (.tmp 20))⟩])))))) (.seq (.ops [
  ⟨(some 28), none, (.mv (.tmp 8))⟩,
  ⟨(some 4), none, (.asg (.tmp 28))⟩,
  ⟨(some 5), none, (.asg (.const (.int .i64 0)))⟩]) .ret)))))))
theorem law_spec_TotalStrength {a0 a1 d : D} (h : code_spec_TotalStrength.wp (CT Try.prog NoG) (endQ [(.t 4), (.t 5)] d) [a0, a1, .undef, .undef, .undef, .undef, .undef, .undef, .undef, .undef, .undef, .undef, .undef, .undef, .undef, .undef, .undef, .undef, .undef, .undef, .undef, .undef, .undef, .undef, .undef, .undef, .undef, .undef, .undef]) : Contract Try.prog NoG 14 [a0, a1] d :=
  contract_of (pt := 0) noG Try.func14 (fun us W => by kernel_rfl) (c := Try.f14.body.getD .skip) (ms := [(mB 29 536853619)]) (ms' := []) (by kernel_rfl) (by kernel_rfl) (by kernel_rfl) h
def code_impl_TotalStrength : VCode := (.seq (.ops [
  ⟨(some 2), none, (.box (.tmp 0))⟩,
  ⟨(some 3), none, (.box (.tmp 1))⟩,
  ⟨(some 4), none, (.asg (.const (.int .i64 0)))⟩,
  ⟨(some 5), none, (.asg (.const (.int .i64 0)))⟩]) (.seq (.seq (.ops [
  ⟨(some 6), none, (.load 2 true (.tmp 2))⟩,
  ⟨(some 7), none, (.load 1 true (.tmp 3))⟩,
  ⟨(some 8), none, (.callX 44 [(.tmp 6), (.tmp 7)])⟩,
  ⟨(some 9), none, (.un .not (.tmp 8))⟩]) (.cond (.tmp 9) (.seq (.ops [
  ⟨(some 4), none, (.asg (.const (.int .i64 0)))⟩,
  ⟨(some 5), none, (.asg (.const (.int .i64 1)))⟩]) .ret) .skip)) (.seq (.ops [
  ⟨(some 10), none, (.load 2 true (.tmp 2))⟩,
  ⟨(some 11), none, (.load 1 true (.tmp 3))⟩,
  ⟨(some 12), none, (.callX 46 [(.tmp 10), (.tmp 11)])⟩,
  ⟨(some 13), none, (.callX 45 [(.tmp 12)])⟩,
  ⟨(some 4), none, (.asg (.tmp 13))⟩,
  ⟨(some 5), none, (.asg (.const (.int .i64 0)))⟩]) .ret)))
theorem law_impl_TotalStrength {a0 a1 d : D} (h : code_impl_TotalStrength.wp (CT Try.prog NoG) (endQ [(.t 4), (.t 5)] d) [a0, a1, .undef, .undef, .undef, .undef, .undef, .undef, .undef, .undef, .undef, .undef, .undef, .undef]) : Contract Try.prog NoG 17 [a0, a1] d :=
  contract_of (pt := 0) noG Try.func17 (fun us W => by kernel_rfl) (c := Try.f17.body.getD .skip) (ms := []) (ms' := []) (by kernel_rfl) (by kernel_rfl) (by kernel_rfl) h
theorem v_l06Neighbor (b : Assembly) (hn : b.Tiles.length ≤ 1048576) (i d : Nat) (hi : i < b.Tiles.length) (hd : d < 4) : Contract Try.prog NoG 73 [.iptr (Assembly.td.d false b) 0, .v (.int .i64 (i : Int)), .v (.int .i64 (d : Int))] (.v (.int .i64 (nbr b.Tiles i d))) := by have hI := v_l03Index b (stepP (b.Tiles.getD i pl0).At d) hn; have hS := v_l01Step (b.Tiles.getD i pl0).At d hd; have e1 : b.Tiles[i]? = some (b.Tiles.getD i pl0) := (by rw [List.getD_eq_getElem?_getD, List.getElem?_eq_getElem hi]; rfl); unfold nbr; generalize b.Tiles.getD i pl0 = p at *; rw [Assembly.td_d] at *; refine law_spec_l06Neighbor ?_; unfold code_spec_l06Neighbor; simp -implicitDefEqProofs (disch := omega) only [go_sem, ↓reduceIte , List.length_map, Int.toNat_natCast, Int.ofNat_lt, Int.natCast_nonneg, List.getElem?_map, Option.map_some, hi, e1, Placed.td_d]; refine call_B (hS) (by simp -implicitDefEqProofs (disch := omega) only [go_sem, ↓reduceIte, deep, TD.rows, immLL_rI, immLL_rB8, immLL_rS, immLL_rBo, immLL_rII, immLL_rIIt, Point.td_d]; exact rfl) ?_; simp -implicitDefEqProofs (disch := omega) only [go_sem, ↓reduceIte , Point.td_d]; refine call_B (hI) (by simp -implicitDefEqProofs (disch := omega) only [go_sem, ↓reduceIte, deep, TD.rows, immLL_rI, immLL_rB8, immLL_rS, immLL_rBo, immLL_rII, immLL_rIIt, Point.td_d]; exact rfl) ?_; simp -implicitDefEqProofs (disch := omega) only [go_sem, ↓reduceIte , Point.td_d]
set_option maxHeartbeats 2000000 in
theorem v_bonds (a : TileSet) (b : Assembly) (h : okSet a = true) (hb : okAsm a b = true) (hn : b.Tiles.length ≤ 1048576) (hok : ∀ x, x ∈ b.Tiles → Point.td.ok x.At) : Contract Try.prog NoG 46 [.agg (TileSet.td.d false a), .agg (Assembly.td.d false b)] (.sl true 3 ((bdL a b.Tiles (nbI b.Tiles b.Tiles.length)).map bdR)) := by
  have hit := it_nb b hn hok; rw [nb_range] at hit; have hin : ∀ x, x ∈ nbI b.Tiles b.Tiles.length → x.1 < b.Tiles.length ∧ x.2.1 < b.Tiles.length ∧ x.2.2 < 4 := fun x hx => nbI_in (Nat.le_refl _) hx; have hNb := v_neighbors b; have hle := nbI_le b.Tiles b.Tiles.length; generalize hxs : nbI b.Tiles b.Tiles.length = xs at *; rw [Assembly.td_d] at *; have hbo := fun t d k h1 h2 h3 => v_bond a h t d k h1 h2 h3; rw [TileSet.td_d] at *; refine law_impl_TileSet_bonds ?_; unfold code_impl_TileSet_bonds; simp -implicitDefEqProofs (disch := omega) only [go_sem, ↓reduceIte]; refine call_B (hNb) (by simp -implicitDefEqProofs (disch := omega) only [go_sem, ↓reduceIte, deep, TD.rows, immLL_rI, immLL_rB8, immLL_rS, immLL_rBo, immLL_rII, immLL_rIIt]; exact rfl) ?_; simp -implicitDefEqProofs (disch := omega) only [go_sem, ↓reduceIte]; refine range_ov (N := xs.length) (by simp -implicitDefEqProofs (disch := omega) only [go_sem, ↓reduceIte]; exact rfl) (by rfl) (fun i => nbD (xs.getD i (0, 0, 0))) (hit) (fun _ _ => rfl) (by simp -implicitDefEqProofs (disch := omega) only [go_sem, ↓reduceIte]; exact rfl) (fun i => [(5, .box none [.sl true 3 ((bdL a b.Tiles (xs.take i)).map bdR)])]) (fun _ => by simp only [ovr_nil, ovr_cons, List.set_cons_zero, List.set_cons_succ]; exact rfl) (by rw [show bdL a b.Tiles (xs.take 0) = [] from rfl]; (try simp -implicitDefEqProofs only [nleL_cc, nleL_nn, nle_self, nle_boxs, nle_aggs, nle_nils, and_self, and_true, true_and]) <;> repeat' (first | exact nle_of_eq rfl | exact nle_nil | apply And.intro | apply nle_sl | apply nleLL_cons | apply nleL_cons | exact nleL_nil | exact nleLL_nil | apply nle_box | apply nle_agg)) ?_ ?_
  · intro i hi; have hb1 := bdL_len a b.Tiles (xs.take i); rw [List.length_take] at hb1; have hnx := bdL_take (a := a) (ps := b.Tiles) hi; have hmem := hin (xs.getD i (0, 0, 0)) (by rw [List.getD_eq_getElem?_getD, List.getElem?_eq_getElem hi]; exact List.getElem_mem hi); generalize xs.getD i (0, 0, 0) = x at *; obtain ⟨a1, k1, d1⟩ := x; obtain ⟨h1, h2, h3⟩ := hmem; obtain ⟨p1, e1, t1⟩ := tl_at hb h1; obtain ⟨p2, e2, t2⟩ := tl_at hb h2; have hB := hbo (tlA b.Tiles a1) d1 (tlA b.Tiles k1) t1 h3 t2; unfold bdC bdW at hnx; simp only [] at hnx h1 h2 h3; generalize bondN a (tlA b.Tiles a1) d1 (tlA b.Tiles k1) = s at *; generalize tlA b.Tiles a1 = u1 at *; generalize tlA b.Tiles k1 = u2 at *; by_cases hs : 0 < s
    · rw [if_pos hs] at hnx; have hd := decide_eq_true hs; have hR : (bdL a b.Tiles (xs.take (i + 1))).map bdR = (bdL a b.Tiles (xs.take i)).map bdR ++ [bdR (a1, k1, s)] := by rw [hnx, List.map_append]; rfl
      simp -implicitDefEqProofs (disch := omega) only [go_sem, ↓reduceIte , nbD, Int.natCast_zero, Int.natCast_one, Int.cast_ofNat_Int, Int.ofNat_le, Int.toNat_zero, Nat.sub_zero, Int.le_refl, Int.reduceLT, Int.reduceLE, Int.reduceEq, Int.reduceAdd, Int.reduceSub, Int.reduceMul, Int.reduceToNat, Int.reduceNeg, Nat.zero_mul, Nat.one_mul, Nat.zero_le, Nat.le_refl, true_and, List.drop_zero, List.drop_succ_cons, List.take_succ_cons, List.take_zero, cpyL, List.headD, List.length_map, Int.toNat_natCast, Int.ofNat_lt, Int.natCast_nonneg, List.getElem?_map, Option.map_some, h1, e1, h2, e2, Placed.td_d]; refine call_B (hB) (by simp -implicitDefEqProofs (disch := omega) only [go_sem, ↓reduceIte, deep, TD.rows, immLL_rI, immLL_rB8, immLL_rS, immLL_rBo, immLL_rII, immLL_rIIt, hd, Int.natCast_zero, Int.natCast_one, Int.cast_ofNat_Int, Int.ofNat_le, Int.toNat_zero, Nat.sub_zero, Int.le_refl, Int.reduceLT, Int.reduceLE, Int.reduceEq, Int.reduceAdd, Int.reduceSub, Int.reduceMul, Int.reduceToNat, Int.reduceNeg, Nat.zero_mul, Nat.one_mul, Nat.zero_le, Nat.le_refl, true_and, List.drop_zero, List.drop_succ_cons, List.take_succ_cons, List.take_zero, cpyL, List.headD]; exact rfl) ?_; simp -implicitDefEqProofs (disch := omega) only [go_sem, ↓reduceIte , hd, Int.natCast_zero, Int.natCast_one, Int.cast_ofNat_Int, Int.ofNat_le, Int.toNat_zero, Nat.sub_zero, Int.le_refl, Int.reduceLT, Int.reduceLE, Int.reduceEq, Int.reduceAdd, Int.reduceSub, Int.reduceMul, Int.reduceToNat, Int.reduceNeg, Nat.zero_mul, Nat.one_mul, Nat.zero_le, Nat.le_refl, true_and, List.drop_zero, List.drop_succ_cons, List.take_succ_cons, List.take_zero, cpyL, List.headD]; refine ⟨by rw [List.length_map]; omega, _, ?_, rfl⟩; rw [hR]
      (try simp -implicitDefEqProofs only [nleL_cc, nleL_nn, nle_self, nle_boxs, nle_aggs, nle_nils, and_self, and_true, true_and]) <;> repeat' (first | exact nle_of_eq rfl | exact nle_nil | apply And.intro | apply nle_sl | apply nleLL_cons | apply nleL_cons | exact nleL_nil | exact nleLL_nil | apply nle_box | apply nle_agg)
    · rw [if_neg hs, List.append_nil] at hnx; have hd := decide_eq_false hs; simp -implicitDefEqProofs (disch := omega) only [go_sem, ↓reduceIte , nbD, Int.natCast_zero, Int.natCast_one, Int.cast_ofNat_Int, Int.ofNat_le, Int.toNat_zero, Nat.sub_zero, Int.le_refl, Int.reduceLT, Int.reduceLE, Int.reduceEq, Int.reduceAdd, Int.reduceSub, Int.reduceMul, Int.reduceToNat, Int.reduceNeg, Nat.zero_mul, Nat.one_mul, Nat.zero_le, Nat.le_refl, true_and, List.drop_zero, List.drop_succ_cons, List.take_succ_cons, List.take_zero, cpyL, List.headD, List.length_map, Int.toNat_natCast, Int.ofNat_lt, Int.natCast_nonneg, List.getElem?_map, Option.map_some, h1, e1, h2, e2, Placed.td_d]; refine call_B (hB) (by simp -implicitDefEqProofs (disch := omega) only [go_sem, ↓reduceIte, deep, TD.rows, immLL_rI, immLL_rB8, immLL_rS, immLL_rBo, immLL_rII, immLL_rIIt, hd, Int.natCast_zero, Int.natCast_one, Int.cast_ofNat_Int, Int.ofNat_le, Int.toNat_zero, Nat.sub_zero, Int.le_refl, Int.reduceLT, Int.reduceLE, Int.reduceEq, Int.reduceAdd, Int.reduceSub, Int.reduceMul, Int.reduceToNat, Int.reduceNeg, Nat.zero_mul, Nat.one_mul, Nat.zero_le, Nat.le_refl, true_and, List.drop_zero, List.drop_succ_cons, List.take_succ_cons, List.take_zero, cpyL, List.headD]; exact rfl) ?_; simp -implicitDefEqProofs (disch := omega) only [go_sem, ↓reduceIte , hd, Int.natCast_zero, Int.natCast_one, Int.cast_ofNat_Int, Int.ofNat_le, Int.toNat_zero, Nat.sub_zero, Int.le_refl, Int.reduceLT, Int.reduceLE, Int.reduceEq, Int.reduceAdd, Int.reduceSub, Int.reduceMul, Int.reduceToNat, Int.reduceNeg, Nat.zero_mul, Nat.one_mul, Nat.zero_le, Nat.le_refl, true_and, List.drop_zero, List.drop_succ_cons, List.take_succ_cons, List.take_zero, cpyL, List.headD]; refine ⟨_, ?_, rfl⟩; rw [hnx]
      (try simp -implicitDefEqProofs only [nleL_cc, nleL_nn, nle_self, nle_boxs, nle_aggs, nle_nils, and_self, and_true, true_and]) <;> repeat' (first | exact nle_of_eq rfl | exact nle_nil | apply And.intro | apply nle_sl | apply nleLL_cons | apply nleL_cons | exact nleL_nil | exact nleLL_nil | apply nle_box | apply nle_agg)
  · simp -implicitDefEqProofs (disch := omega) only [go_sem, ↓reduceIte , List.take_length]
set_option maxHeartbeats 4000000 in
theorem v_l06Bonds (a : TileSet) (b : Assembly) (h : okSet a = true) (hb : okAsm a b = true) (hn : b.Tiles.length ≤ 1048576) : Contract Try.prog NoG 40 [.iptr (TileSet.td.d false a) 0, .iptr (Assembly.td.d false b) 0] (.sl true 3 ((bdL a b.Tiles (nbI b.Tiles b.Tiles.length)).map bdR)) := by
  have hNb := fun i d hi hd => v_l06Neighbor b hn i d hi hd; have hbo := fun t d k h1 h2 h3 => v_l02Bond a h t d k h1 h2 h3; rw [TileSet.td_d, Assembly.td_d] at *; refine law_spec_l06Bonds ?_; unfold code_spec_l06Bonds; simp -implicitDefEqProofs (disch := omega) only [go_sem, ↓reduceIte]; refine loop_ov (by simp -implicitDefEqProofs (disch := omega) only [go_sem, ↓reduceIte]; exact rfl) (fun i : Nat => [(5, .sl true 3 ((bdL a b.Tiles (nbI b.Tiles i)).map bdR)), (6, .v (.int .i64 (i : Nat)))]) (fun _ => by simp only [ovr_nil, ovr_cons, List.set_cons_zero, List.set_cons_succ]; exact rfl) (fun i : Nat => i ≤ b.Tiles.length) (fun i : Nat => b.Tiles.length - i) (0) (by rw [show bdL a b.Tiles (nbI b.Tiles 0) = [] from rfl]; (try simp -implicitDefEqProofs only [nleL_cc, nleL_nn, nle_self, nle_boxs, nle_aggs, nle_nils, and_self, and_true, true_and]) <;> repeat' (first | exact nle_of_eq rfl | exact nle_nil | apply And.intro | apply nle_sl | apply nleLL_cons | apply nleL_cons | exact nleL_nil | exact nleLL_nil | apply nle_box | apply nle_agg)) (?_) ?_
  · exact Nat.zero_le _
  intro i hi; simp -implicitDefEqProofs (disch := omega) only [go_sem, ↓reduceIte , List.length_map]; refine cond_split ?_ ?_ <;> intro hlt
  · have hlt : i < b.Tiles.length := (by simpa using hlt); simp -implicitDefEqProofs (disch := omega) only [go_sem, ↓reduceIte]; refine loop_ov (by simp -implicitDefEqProofs (disch := omega) only [go_sem, ↓reduceIte]; exact rfl) (fun j : Nat => [(5, .sl true 3 ((bdL a b.Tiles (nbI b.Tiles i ++ nbR b.Tiles i j)).map bdR)), (7, .v (.int .i64 (1 - (j : Int))))]) (fun _ => by simp only [ovr_nil, ovr_cons, List.set_cons_zero, List.set_cons_succ]; exact rfl) (fun j : Nat => j ≤ 2) (fun j : Nat => 2 - j) (0) (by rw [show bdL a b.Tiles (nbI b.Tiles i ++ nbR b.Tiles i 0) = bdL a b.Tiles (nbI b.Tiles i) from by rw [show nbR b.Tiles i 0 = [] from rfl, List.append_nil]]; (try simp -implicitDefEqProofs only [nleL_cc, nleL_nn, nle_self, nle_boxs, nle_aggs, nle_nils, and_self, and_true, true_and]) <;> repeat' (first | exact nle_of_eq rfl | exact nle_nil | apply And.intro | apply nle_sl | apply nleLL_cons | apply nleL_cons | exact nleL_nil | exact nleLL_nil | apply nle_box | apply nle_agg)) (?_) ?_
    · exact Nat.zero_le _
    intro j hj; simp -implicitDefEqProofs (disch := omega) only [go_sem, ↓reduceIte]; refine cond_split ?_ ?_ <;> intro hjt
    · have hj2 : j < 2 := (by have := of_decide_eq_true hjt; omega); have hdj : (1 : Int) - (j : Int) = (dirO j : Int) := by
        match j, hj2 with
        | 0, _ => rfl
        | 1, _ => rfl
      have hdn : IntKind.i64.wrap ((dirO j : Int) - 1) = 1 - ((j + 1 : Nat) : Int) := (by rw [← hdj, wrI (by omega) (by omega)]; omega); have hN := hNb i (dirO j) hlt (dirO_lt j); have hb1 := bdL_len a b.Tiles (nbI b.Tiles i ++ nbR b.Tiles i j); have hb2 := nbI_le b.Tiles i; have hb3 := nbR_le b.Tiles i j; rw [List.length_append] at hb1; have hnxt : nbR b.Tiles i (j + 1) = nbR b.Tiles i j ++ nbC b.Tiles i (dirO j) := rfl; rw [hdj]; by_cases h0 : 0 ≤ nbr b.Tiles i (dirO j)
      · have hd0 : decide (nbr b.Tiles i (dirO j) < 0) = false := (by rw [decide_eq_false_iff_not]; omega); have hk := idxA_lt b.Tiles (stepP (b.Tiles.getD i pl0).At (dirO j)); rw [show idxA b.Tiles (stepP (b.Tiles.getD i pl0).At (dirO j)) = nbr b.Tiles i (dirO j) from rfl] at hk; unfold nbC at hnxt; rw [if_pos h0] at hnxt; obtain ⟨k, hkk⟩ : ∃ k : Nat, nbr b.Tiles i (dirO j) = (k : Int) := ⟨(nbr b.Tiles i (dirO j)).toNat, by omega⟩
        rw [hkk, Int.toNat_natCast] at hnxt; rw [hkk] at hN hd0 hk; have h2 : k < b.Tiles.length := by omega
        obtain ⟨p1, e1, t1⟩ := tl_at hb hlt; obtain ⟨p2, e2, t2⟩ := tl_at hb h2; have hB := hbo (tlA b.Tiles i) (dirO j) (tlA b.Tiles k) t1 (dirO_lt j) t2; have hC : bdC a b.Tiles (i, k, dirO j) = if 0 < bondN a (tlA b.Tiles i) (dirO j) (tlA b.Tiles k) then [(i, k, bondN a (tlA b.Tiles i) (dirO j) (tlA b.Tiles k))] else [] := rfl
        have hR : bdL a b.Tiles (nbI b.Tiles i ++ nbR b.Tiles i (j + 1)) = bdL a b.Tiles (nbI b.Tiles i ++ nbR b.Tiles i j) ++ bdC a b.Tiles (i, k, dirO j) := (by rw [hnxt, ← List.append_assoc, bdL_app, bdL_one]); generalize bondN a (tlA b.Tiles i) (dirO j) (tlA b.Tiles k) = s at *; generalize tlA b.Tiles i = u1 at *; generalize tlA b.Tiles k = u2 at *; generalize hdd : dirO j = d at *; clear hnxt hkk h0 hNb hbo; by_cases hs : 0 < s
        · have hd := decide_eq_true hs; rw [if_pos hs] at hC; simp -implicitDefEqProofs (disch := omega) only [go_sem, ↓reduceIte]; refine call_B (hN) (by simp -implicitDefEqProofs (disch := omega) only [go_sem, ↓reduceIte, deep, TD.rows, immLL_rI, immLL_rB8, immLL_rS, immLL_rBo, immLL_rII, immLL_rIIt, hd0, List.length_map, Int.toNat_natCast, Int.ofNat_lt, Int.natCast_nonneg, List.getElem?_map, Option.map_some, hlt, e1, h2, e2, Placed.td_d]; exact rfl) ?_; simp -implicitDefEqProofs (disch := omega) only [go_sem, ↓reduceIte , hd0, List.length_map, Int.toNat_natCast, Int.ofNat_lt, Int.natCast_nonneg, List.getElem?_map, Option.map_some, hlt, e1, h2, e2, Placed.td_d]; refine call_B (hB) (by simp -implicitDefEqProofs (disch := omega) only [go_sem, ↓reduceIte, deep, TD.rows, immLL_rI, immLL_rB8, immLL_rS, immLL_rBo, immLL_rII, immLL_rIIt, hd, hdn]; exact rfl) ?_; simp -implicitDefEqProofs (disch := omega) only [go_sem, ↓reduceIte , hd, hdn]; refine ⟨by rw [List.length_map]; omega, j + 1, by omega, by omega, ?_⟩; rw [hR, hC, List.map_append]
          (try simp -implicitDefEqProofs only [nleL_cc, nleL_nn, nle_self, nle_boxs, nle_aggs, nle_nils, and_self, and_true, true_and]) <;> repeat' (first | exact nle_of_eq rfl | exact nle_nil | apply And.intro | apply nle_sl | apply nleLL_cons | apply nleL_cons | exact nleL_nil | exact nleLL_nil | apply nle_box | apply nle_agg)
        · have hd := decide_eq_false hs; rw [if_neg hs] at hC; simp -implicitDefEqProofs (disch := omega) only [go_sem, ↓reduceIte]; refine call_B (hN) (by simp -implicitDefEqProofs (disch := omega) only [go_sem, ↓reduceIte, deep, TD.rows, immLL_rI, immLL_rB8, immLL_rS, immLL_rBo, immLL_rII, immLL_rIIt, hd0, List.length_map, Int.toNat_natCast, Int.ofNat_lt, Int.natCast_nonneg, List.getElem?_map, Option.map_some, hlt, e1, h2, e2, Placed.td_d]; exact rfl) ?_; simp -implicitDefEqProofs (disch := omega) only [go_sem, ↓reduceIte , hd0, List.length_map, Int.toNat_natCast, Int.ofNat_lt, Int.natCast_nonneg, List.getElem?_map, Option.map_some, hlt, e1, h2, e2, Placed.td_d]; refine call_B (hB) (by simp -implicitDefEqProofs (disch := omega) only [go_sem, ↓reduceIte, deep, TD.rows, immLL_rI, immLL_rB8, immLL_rS, immLL_rBo, immLL_rII, immLL_rIIt, hd, hdn]; exact rfl) ?_; simp -implicitDefEqProofs (disch := omega) only [go_sem, ↓reduceIte , hd, hdn]; refine ⟨j + 1, by omega, by omega, ?_⟩; rw [hR, hC, List.append_nil]
          (try simp -implicitDefEqProofs only [nleL_cc, nleL_nn, nle_self, nle_boxs, nle_aggs, nle_nils, and_self, and_true, true_and]) <;> repeat' (first | exact nle_of_eq rfl | exact nle_nil | apply And.intro | apply nle_sl | apply nleLL_cons | apply nleL_cons | exact nleL_nil | exact nleLL_nil | apply nle_box | apply nle_agg)
      · have hd0 : decide (nbr b.Tiles i (dirO j) < 0) = true := (by rw [decide_eq_true_eq]; omega); unfold nbC at hnxt; rw [if_neg h0, List.append_nil] at hnxt; generalize hdd : dirO j = d at *; simp -implicitDefEqProofs (disch := omega) only [go_sem, ↓reduceIte]; refine call_B (hN) (by simp -implicitDefEqProofs (disch := omega) only [go_sem, ↓reduceIte, deep, TD.rows, immLL_rI, immLL_rB8, immLL_rS, immLL_rBo, immLL_rII, immLL_rIIt, hd0, hdn]; exact rfl) ?_; simp -implicitDefEqProofs (disch := omega) only [go_sem, ↓reduceIte , hd0, hdn]; refine ⟨j + 1, by omega, by omega, ?_⟩; rw [hnxt]
        (try simp -implicitDefEqProofs only [nleL_cc, nleL_nn, nle_self, nle_boxs, nle_aggs, nle_nils, and_self, and_true, true_and]) <;> repeat' (first | exact nle_of_eq rfl | exact nle_nil | apply And.intro | apply nle_sl | apply nleLL_cons | apply nleL_cons | exact nleL_nil | exact nleLL_nil | apply nle_box | apply nle_agg)
    · obtain rfl : j = 2 := (by have := of_decide_eq_false hjt; omega); simp -implicitDefEqProofs (disch := omega) only [go_sem, ↓reduceIte , wrN]; refine ⟨i + 1, by omega, hlt, ?_⟩; rw [show nbI b.Tiles (i + 1) = nbI b.Tiles i ++ nbR b.Tiles i 2 from rfl]
      (try simp -implicitDefEqProofs only [nleL_cc, nleL_nn, nle_self, nle_boxs, nle_aggs, nle_nils, and_self, and_true, true_and]) <;> repeat' (first | exact nle_of_eq rfl | exact nle_nil | apply And.intro | apply nle_sl | apply nleLL_cons | apply nleL_cons | exact nleL_nil | exact nleLL_nil | apply nle_box | apply nle_agg)
  · obtain rfl : i = b.Tiles.length := (by have : ¬ i < b.Tiles.length := (by simpa using hlt); omega); simp -implicitDefEqProofs (disch := omega) only [go_sem, ↓reduceIte]
def totR (a : TileSet) (b : Assembly) : Int := if okSet a && okAsm a b then sumB (bdL a b.Tiles (nbI b.Tiles b.Tiles.length)) else 0
def totC (a : TileSet) (b : Assembly) : Int := if okSet a && okAsm a b then 0 else 1
theorem asm_pt {a : TileSet} {b : Assembly} (hq : Assembly.td.ok b) : ∀ x, x ∈ b.Tiles → Point.td.ok x.At := fun x hx => by rw [Assembly.td_ok] at hq; have := hq x hx; rw [Placed.td_ok] at this; exact this.1
theorem vTotal_spec (a : TileSet) (b : Assembly) (ha : setB a) (hn : b.Tiles.length ≤ 1048576) : Contract Try.prog NoG 14 [.agg (TileSet.td.d false a), .agg (Assembly.td.d false b)] (.tup [.v (.int .i64 (totR a b)), .v (.int .i64 (totC a b))]) := by
  have hA := v_l06Asked a b ha hn; have hL := fun h hb => v_l06Bonds a b h hb hn; rw [TileSet.td_d, Assembly.td_d] at *; refine law_spec_TotalStrength ?_; unfold code_spec_TotalStrength totR totC; cases h : (okSet a && okAsm a b) with
  | false =>
    rw [h] at hA; simp only [Bool.false_eq_true, if_false] at hA ⊢; simp -implicitDefEqProofs (disch := omega) only [go_sem, ↓reduceIte]; refine call_B (hA) (by simp -implicitDefEqProofs (disch := omega) only [go_sem, ↓reduceIte, deep, TD.rows, immLL_rI, immLL_rB8, immLL_rS, immLL_rBo, immLL_rII, immLL_rIIt, Int.reduceEq, decide_true, decide_false, Bool.not_false]; exact rfl) ?_; simp -implicitDefEqProofs (disch := omega) only [go_sem, ↓reduceIte , Int.reduceEq, decide_true, decide_false, Bool.not_false]
    all_goals first | done | rfl | exact ⟨rfl, rfl⟩ | skip
  | true =>
    rw [h] at hA; simp only [if_true] at hA ⊢; rw [Bool.and_eq_true] at h; have hB := hL h.1 h.2; have hok := bdL_ok h.1 h.2 (xs := nbI b.Tiles b.Tiles.length) (fun x hx => nbI_in (Nat.le_refl _) hx); have hlen : (bdL a b.Tiles (nbI b.Tiles b.Tiles.length)).length ≤ 4194304 := by have h1 := bdL_len a b.Tiles (nbI b.Tiles b.Tiles.length); have h2 := nbI_le b.Tiles b.Tiles.length; omega
    generalize bdL a b.Tiles (nbI b.Tiles b.Tiles.length) = bs at *; simp -implicitDefEqProofs (disch := omega) only [go_sem, ↓reduceIte]; refine call_B (hA) (by simp -implicitDefEqProofs (disch := omega) only [go_sem, ↓reduceIte, deep, TD.rows, immLL_rI, immLL_rB8, immLL_rS, immLL_rBo, immLL_rII, immLL_rIIt, Int.reduceEq, decide_true, decide_false, Bool.not_true]; exact rfl) ?_; simp -implicitDefEqProofs (disch := omega) only [go_sem, ↓reduceIte , Int.reduceEq, decide_true, decide_false, Bool.not_true]; refine call_B (hB) (by simp -implicitDefEqProofs (disch := omega) only [go_sem, ↓reduceIte, deep, TD.rows, immLL_rI, immLL_rB8, immLL_rS, immLL_rBo, immLL_rII, immLL_rIIt, noImmLL_bdR, immLL_bdR]; exact rfl) ?_; simp -implicitDefEqProofs (disch := omega) only [go_sem, ↓reduceIte , noImmLL_bdR, immLL_bdR]; refine loop_ov (by simp -implicitDefEqProofs (disch := omega) only [go_sem, ↓reduceIte]; exact rfl) (fun i : Nat => [(8, .v (.int .i64 (sumB (bs.take i)))), (9, .v (.int .i64 (i : Nat)))]) (fun _ => by simp only [ovr_nil, ovr_cons, List.set_cons_zero, List.set_cons_succ]; exact rfl) (fun i : Nat => i ≤ bs.length) (fun i : Nat => bs.length - i) (0) (by rw [show sumB (bs.take 0) = 0 from rfl]; (try simp -implicitDefEqProofs only [nleL_cc, nleL_nn, nle_self, nle_boxs, nle_aggs, nle_nils, and_self, and_true, true_and]) <;> repeat' (first | exact nle_of_eq rfl | exact nle_nil | apply And.intro | apply nle_sl | apply nleLL_cons | apply nleL_cons | exact nleL_nil | exact nleLL_nil | apply nle_box | apply nle_agg)) (?_) ?_
    · exact Nat.zero_le _
    intro i hi; simp -implicitDefEqProofs (disch := omega) only [go_sem, ↓reduceIte , List.length_map]; refine cond_split ?_ ?_ <;> intro hlt
    · have hlt : i < bs.length := (by simpa using hlt); have e1 := List.getElem?_eq_getElem hlt; have hw := sumB_wr hok hlen hlt; simp -implicitDefEqProofs (disch := omega) only [go_sem, ↓reduceIte , List.length_map, Int.toNat_natCast, Int.ofNat_lt, Int.natCast_nonneg, List.getElem?_map, Option.map_some, hlt, e1, bdR, hw, wrN]; exact ⟨i + 1, by omega, hlt, nleA⟩
    · obtain rfl : i = bs.length := (by have : ¬ i < bs.length := (by simpa using hlt); omega); simp -implicitDefEqProofs (disch := omega) only [go_sem, ↓reduceIte , List.take_length]
theorem vTotal_impl (a : TileSet) (b : Assembly) (ha : setB a) (hn : b.Tiles.length ≤ 1048576) (hq : Assembly.td.ok b) : Contract Try.prog NoG 17 [.agg (TileSet.td.d false a), .agg (Assembly.td.d false b)] (.tup [.v (.int .i64 (totR a b)), .v (.int .i64 (totC a b))]) := by
  have hA := v_ValidAssembly a b ha hn; have hL := fun h hb => v_bonds a b h hb hn (asm_pt (a := a) hq); rw [TileSet.td_d, Assembly.td_d] at *; refine law_impl_TotalStrength ?_; unfold code_impl_TotalStrength totR totC; cases h : (okSet a && okAsm a b) with
  | false =>
    rw [h] at hA; simp only [Bool.false_eq_true, if_false]; simp -implicitDefEqProofs (disch := omega) only [go_sem, ↓reduceIte]; refine call_B (hA) (by simp -implicitDefEqProofs (disch := omega) only [go_sem, ↓reduceIte, deep, TD.rows, immLL_rI, immLL_rB8, immLL_rS, immLL_rBo, immLL_rII, immLL_rIIt]; exact rfl) ?_; simp -implicitDefEqProofs (disch := omega) only [go_sem, ↓reduceIte]
    all_goals first | done | rfl | exact ⟨rfl, rfl⟩ | skip
  | true =>
    rw [h] at hA; simp only [if_true]; rw [Bool.and_eq_true] at h; have hB := hL h.1 h.2; have hok := bdL_ok h.1 h.2 (xs := nbI b.Tiles b.Tiles.length) (fun x hx => nbI_in (Nat.le_refl _) hx); have hlen : (bdL a b.Tiles (nbI b.Tiles b.Tiles.length)).length ≤ 4194304 := by have h1 := bdL_len a b.Tiles (nbI b.Tiles b.Tiles.length); have h2 := nbI_le b.Tiles b.Tiles.length; omega
    generalize bdL a b.Tiles (nbI b.Tiles b.Tiles.length) = bs at *; simp -implicitDefEqProofs (disch := omega) only [go_sem, ↓reduceIte]; refine call_B (hA) (by simp -implicitDefEqProofs (disch := omega) only [go_sem, ↓reduceIte, deep, TD.rows, immLL_rI, immLL_rB8, immLL_rS, immLL_rBo, immLL_rII, immLL_rIIt]; exact rfl) ?_; simp -implicitDefEqProofs (disch := omega) only [go_sem, ↓reduceIte]; refine call_B (hB) (by simp -implicitDefEqProofs (disch := omega) only [go_sem, ↓reduceIte, deep, TD.rows, immLL_rI, immLL_rB8, immLL_rS, immLL_rBo, immLL_rII, immLL_rIIt, noImmLL_bdR, immLL_bdR]; exact rfl) ?_; simp -implicitDefEqProofs (disch := omega) only [go_sem, ↓reduceIte , noImmLL_bdR, immLL_bdR]; refine call_B (v_strengthOf bs hok hlen) (by simp -implicitDefEqProofs (disch := omega) only [go_sem, ↓reduceIte, deep, TD.rows, immLL_rI, immLL_rB8, immLL_rS, immLL_rBo, immLL_rII, immLL_rIIt, immLL_bdR]; exact rfl) ?_; simp -implicitDefEqProofs (disch := omega) only [go_sem, ↓reduceIte , immLL_bdR]
    all_goals first | done | rfl | exact ⟨rfl, rfl⟩ | skip
end Go.Proofs.Ytgnlikamelfmjaa
