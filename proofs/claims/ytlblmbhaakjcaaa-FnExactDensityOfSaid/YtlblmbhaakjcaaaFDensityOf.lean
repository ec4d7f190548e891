/- DensityOf: what the program's and the reference's compute. -/
import Derived.Test.YtlblmbhaakjcaaaVForm
import Derived.Test.YtlblmbhaakjcaaaVFrac
set_option linter.all false
namespace Go.Proofs.Ytlblmbhaakjcaaa
open Go.RowKit Go.V
attribute [local go_sem] List.getElem?_cons_succ List.getElem?_cons_zero List.set_cons_succ List.set_cons_zero List.map_cons List.map_nil List.length_cons List.length_nil List.all_cons List.all_nil List.drop_succ_cons List.drop_zero List.take_succ_cons List.take_zero List.flatMap_cons List.flatMap_nil List.cons_append List.nil_append List.append_nil List.headD_cons Value.oneCell' Bool.and_true Bool.true_and Bool.or_false Bool.false_or Bool.and_self Bool.not_true Bool.not_false and_true true_and beq_self_eq_true Bool.false_eq_true if_true if_false Nat.zero_add Nat.le_refl Option.isSome_some Option.isSome_none not_true_eq_false not_false_eq_true ne_eq List.reverse_nil bne_self_eq_false List.isPrefixOf Bool.not_eq_true Bool.and_false Bool.false_and Bool.true_or Bool.or_true decide_true decide_false List.replicate_succ List.replicate_zero exists_eq_left' exists_eq_left or_false or_true true_or false_or Option.map_some Option.map_none
set_option maxRecDepth 100000
def ptsOf (ps : List Placed) : List Point := ps.map (·.At)
/-- The least and the greatest of the first coordinates. -/
def mnF (f : Point → Int) (x : Int) (ps : List Point) : Int := ps.foldl (fun a p => min a (f p)) x
def mxF (f : Point → Int) (x : Int) (ps : List Point) : Int := ps.foldl (fun a p => max a (f p)) x
theorem mnF_next (f : Point → Int) (x : Int) {ps : List Point} {i : Nat} (h : i < ps.length) : mnF f x (ps.take (i + 1)) = min (mnF f x (ps.take i)) (f ps[i]) := by
  unfold mnF; rw [List.take_succ_eq_append_getElem h, List.foldl_append]; rfl
theorem mxF_next (f : Point → Int) (x : Int) {ps : List Point} {i : Nat} (h : i < ps.length) : mxF f x (ps.take (i + 1)) = max (mxF f x (ps.take i)) (f ps[i]) := by
  unfold mxF; rw [List.take_succ_eq_append_getElem h, List.foldl_append]; rfl
theorem mnE (a b : Int) : (if b < a then b else a) = min a b := by omega
theorem mxE (a b : Int) : (if b > a then b else a) = max a b := by omega
theorem mnF_in {f : Point → Int} : ∀ (ps : List Point) (x : Int), (-60 ≤ x ∧ x ≤ 60) → (∀ p, p ∈ ps → -60 ≤ f p ∧ f p ≤ 60) → -60 ≤ mnF f x ps ∧ mnF f x ps ≤ x
  | [], x, h, _ => ⟨h.1, Int.le_refl _⟩
  | p :: ps, x, h, hp => by
    have h1 := hp p (by simp)
    have := mnF_in ps (min x (f p)) (by omega) (fun q hq => hp q (by simp [hq]))
    show -60 ≤ mnF f (min x (f p)) ps ∧ mnF f (min x (f p)) ps ≤ x
    omega
theorem mxF_in {f : Point → Int} : ∀ (ps : List Point) (x : Int), (-60 ≤ x ∧ x ≤ 60) → (∀ p, p ∈ ps → -60 ≤ f p ∧ f p ≤ 60) → x ≤ mxF f x ps ∧ mxF f x ps ≤ 60
  | [], x, h, _ => ⟨Int.le_refl _, h.2⟩
  | p :: ps, x, h, hp => by
    have h1 := hp p (by simp)
    have := mxF_in ps (max x (f p)) (by omega) (fun q hq => hp q (by simp [hq]))
    show x ≤ mxF f (max x (f p)) ps ∧ mxF f (max x (f p)) ps ≤ 60
    omega
def loP (ps : List Point) : Point := match ps with
  | [] => ⟨0, 0⟩
  | p :: _ => ⟨mnF (·.X) p.X ps, mnF (·.Y) p.Y ps⟩
def hiP (ps : List Point) : Point := match ps with
  | [] => ⟨0, 0⟩
  | p :: _ => ⟨mxF (·.X) p.X ps, mxF (·.Y) p.Y ps⟩
theorem form_pts {ps : List Placed} (h : okForm ps = true) : ∀ p, p ∈ ptsOf ps → (-60 ≤ p.X ∧ p.X ≤ 60) ∧ -60 ≤ p.Y ∧ p.Y ≤ 60 := by
  intro p hp
  obtain ⟨t, ht, rfl⟩ := List.mem_map.1 hp
  obtain ⟨i, hi, rfl⟩ := List.getElem_of_mem ht
  unfold okForm at h
  simp only [Bool.and_eq_true] at h
  have h1 := h.2
  rw [List.all_eq_true] at h1
  have h2 := h1 i (by simpa using hi)
  unfold okP at h2
  rw [List.getElem?_eq_getElem hi] at h2
  simp only [Bool.and_eq_true] at h2
  have h3 := h2.1
  unfold ptOK at h3
  simp only [Bool.and_eq_true, inR_iff] at h3
  exact h3
/-- The area of the box around the points. -/
def areaI (ps : List Point) : Int := ((hiP ps).X - (loP ps).X + 1) * ((hiP ps).Y - (loP ps).Y + 1)
theorem area_facts {ps : List Point} (h : ∀ p, p ∈ ps → (-60 ≤ p.X ∧ p.X ≤ 60) ∧ -60 ≤ p.Y ∧ p.Y ≤ 60) (h0 : 0 < ps.length) : (0 ≤ (hiP ps).X - (loP ps).X ∧ (hiP ps).X - (loP ps).X ≤ 120) ∧ (0 ≤ (hiP ps).Y - (loP ps).Y ∧ (hiP ps).Y - (loP ps).Y ≤ 120) := by
  cases ps with
  | nil => simp at h0
  | cons p ps =>
    have hp := h p (by simp)
    have a1 := mnF_in (f := (·.X)) (p :: ps) p.X hp.1 (fun q hq => (h q hq).1)
    have a2 := mnF_in (f := (·.Y)) (p :: ps) p.Y hp.2 (fun q hq => (h q hq).2)
    have a3 := mxF_in (f := (·.X)) (p :: ps) p.X hp.1 (fun q hq => (h q hq).1)
    have a4 := mxF_in (f := (·.Y)) (p :: ps) p.Y hp.2 (fun q hq => (h q hq).2)
    simp only [hiP, loP]
    omega
theorem area_in {ps : List Point} (h : ∀ p, p ∈ ps → (-60 ≤ p.X ∧ p.X ≤ 60) ∧ -60 ≤ p.Y ∧ p.Y ≤ 60) (h0 : 0 < ps.length) : 0 < areaI ps ∧ areaI ps ≤ 121 * 121 := by
  obtain ⟨h1, h2⟩ := area_facts h h0
  refine ⟨Int.mul_pos (by omega) (by omega), Int.mul_le_mul (by omega) (by omega) (by omega) (by omega)⟩
abbrev mk_impl_Assembly_points_0 : List Bool := [true, false, true, false, true, true, false, false, false, false, true, true, true, false, true, true, false, false, true, true]
/-- (impl.Assembly).points -/
def code_impl_Assembly_points : VCode := (.seq (.ops [
  ⟨(some 1), none, (.box (.tmp 0))⟩,
  ⟨(some 2), none, (.asg (.const (.slice none 0 0)))⟩]) (.seq (.ops [
  ⟨(some 3), none, (.asg (.const (.slice none 0 0)))⟩]) (.seq (.seq (.ops [
  ⟨(some 6), none, (.fa 0 (.tmp 1))⟩,
  ⟨(some 7), none, (.load 1 false (.tmp 6))⟩,
  ⟨(some 8), none, (.len (.tmp 7))⟩,
  ⟨(some 9), none, (.mv (.const (.int .i64 0)))⟩]) (.block 0 (.loop mk_impl_Assembly_points_0 (.seq (.ops [
  ⟨(some 10), none, (.bin .lss (.tmp 9) (.tmp 8))⟩]) (.seq (.cond (.tmp 10) .skip (.exit 0)) (.seq (.block 1 (.seq (.ops [
  ⟨(some 11), none, (.ia 3 (.tmp 7) (.tmp 9))⟩,
  ⟨(some 12), none, (.load 3 true (.tmp 11))⟩,
  ⟨(some 5), none, (.alloc [(.int .i64 0), (.int .i64 0), (.int .i64 0)])⟩,
  ⟨none, none, (.store 3 (.tmp 5) (.tmp 12))⟩]) (.ops [
  ⟨(some 13), none, (.mv (.tmp 3))⟩,
  ⟨(some 14), none, (.fa 0 (.tmp 5))⟩,
  ⟨(some 15), none, (.load 2 true (.tmp 14))⟩,
  ⟨(some 16), none, (.bsl 2 [(.tmp 15)])⟩,
  ⟨(some 17), none, (.app 2 16 (.tmp 13) (.tmp 16))⟩,
  ⟨(some 3), none, (.asg (.tmp 17))⟩]))) (.ops [
  ⟨(some 18), none, (.bin .add (.tmp 9) (.const (.int .i64 1)))⟩,
  ⟨(some 9), none, (.mv (.tmp 18))⟩]))))))) (.seq (.ops [
  ⟨(some 19), none, (.mv (.tmp 3))⟩,
  ⟨(some 2), none, (.asg (.tmp 19))⟩]) .ret))))
theorem law_impl_Assembly_points {a0 d : D} (h : code_impl_Assembly_points.wp (CT Try.prog NoG) (endQ [(.t 2)] d) [a0, .undef, .undef, .undef, .undef, .undef, .undef, .undef, .undef, .undef, .undef, .undef, .undef, .undef, .undef, .undef, .undef, .undef, .undef, .undef]) : Contract Try.prog NoG 47 [a0] d :=
  contract_of noG Try.func47 (fun us W => by kernel_rfl) (c := Try.f47.body.getD .skip) (ms := [mk_impl_Assembly_points_0]) (ms' := []) (by kernel_rfl) (by kernel_rfl) (by kernel_rfl) h
theorem v_points (b : Assembly) (hn : b.Tiles.length ≤ 1048576) : Contract Try.prog NoG 47 [.agg (Assembly.td.d false b)] (.sl true 2 ((ptsOf b.Tiles).map (Point.td.d true))) := by
  rw [Assembly.td_d]
  refine law_impl_Assembly_points ?_
  unfold code_impl_Assembly_points
  simp -implicitDefEqProofs (disch := omega) only [go_sem, ↓reduceIte, Nat.reduceAdd, Nat.reduceMul, Nat.reduceLeDiff, reduceCtorEq, Nat.reduceEqDiff, Nat.reduceBEq, Nat.reduceBNe, Option.some.injEq , List.length_map]
  refine loop_ov (by simp -implicitDefEqProofs (disch := omega) only [go_sem, ↓reduceIte, Nat.reduceAdd, Nat.reduceMul, Nat.reduceLeDiff, reduceCtorEq, Nat.reduceEqDiff, Nat.reduceBEq, Nat.reduceBNe, Option.some.injEq]; exact rfl) (fun i : Nat => [(9, .v (.int .i64 (i : Nat))), (3, .sl true 2 ((ptsOf (b.Tiles.take i)).map (Point.td.d true)))]) (fun _ => by simp only [ovr_nil, ovr_cons, List.set_cons_zero, List.set_cons_succ]; exact rfl) (fun i : Nat => i ≤ b.Tiles.length) (fun i : Nat => b.Tiles.length - i) (0) (by (try simp -implicitDefEqProofs only [nleL_cc, nleL_nn, nle_self, nle_boxs, nle_aggs, nle_nils, and_self, and_true, true_and]) <;> repeat' (first | exact nle_of_eq rfl | exact nle_nil | refine And.intro ?_ ?_ | refine nle_box ?_ | refine nle_agg ?_ | refine nle_sl ?_ | exact nleLL_nil | refine nleLL_cons ?_ ?_ | exact nleL_nil | refine nleL_cons ?_ ?_ | exact nle_rfl _)) (Nat.zero_le _) ?_
  intro i hi
  simp -implicitDefEqProofs (disch := omega) only [go_sem, ↓reduceIte, Nat.reduceAdd, Nat.reduceMul, Nat.reduceLeDiff, reduceCtorEq, Nat.reduceEqDiff, Nat.reduceBEq, Nat.reduceBNe, Option.some.injEq , List.length_map, Int.toNat_natCast, Int.ofNat_lt, Int.natCast_nonneg, List.getElem?_map, Option.map_some]
  refine cond_split ?_ ?_ <;> intro hlt
  · have hlt : i < b.Tiles.length := by simpa using hlt
    have e1 := List.getElem?_eq_getElem hlt
    have hnx : (ptsOf (b.Tiles.take i)).map (Point.td.d true) ++ [[.v (.int .i64 b.Tiles[i].At.X), .v (.int .i64 b.Tiles[i].At.Y)]] = (ptsOf (b.Tiles.take (i + 1))).map (Point.td.d true) := by
      unfold ptsOf
      rw [List.take_succ_eq_append_getElem hlt, List.map_append, List.map_append]; rfl
    have hl : (ptsOf (b.Tiles.take i)).length ≤ 1048576 := by unfold ptsOf; rw [List.length_map, List.length_take]; omega
    simp -implicitDefEqProofs (disch := omega) only [go_sem, ↓reduceIte, Nat.reduceAdd, Nat.reduceMul, Nat.reduceLeDiff, reduceCtorEq, Nat.reduceEqDiff, Nat.reduceBEq, Nat.reduceBNe, Option.some.injEq , List.length_map, Int.toNat_natCast, Int.ofNat_lt, Int.natCast_nonneg, List.getElem?_map, Option.map_some, hlt, e1, Placed.td_d, wrN]
    refine ⟨by omega, i + 1, by omega, hlt, ?_⟩
    rw [← hnx]
    (try simp -implicitDefEqProofs only [nleL_cc, nleL_nn, nle_self, nle_boxs, nle_aggs, nle_nils, and_self, and_true, true_and]) <;> repeat' (first | exact nle_of_eq rfl | exact nle_nil | refine And.intro ?_ ?_ | refine nle_box ?_ | refine nle_agg ?_ | refine nle_sl ?_ | exact nleLL_nil | refine nleLL_cons ?_ ?_ | exact nleL_nil | refine nleL_cons ?_ ?_ | exact nle_rfl _)
  · obtain rfl : i = b.Tiles.length := by
      have : ¬ i < b.Tiles.length := by simpa using hlt
      omega
    simp -implicitDefEqProofs (disch := omega) only [go_sem, ↓reduceIte, Nat.reduceAdd, Nat.reduceMul, Nat.reduceLeDiff, reduceCtorEq, Nat.reduceEqDiff, Nat.reduceBEq, Nat.reduceBNe, Option.some.injEq , List.take_length]
abbrev mk_spec_l03Points_0 : List Bool := [false, true, true, false, false, false, true, true, true, true, true, true, true, true, true, false, true, true, true, true, true, true, true, true, false, false, true]
/-- spec.l03Points -/
def code_spec_l03Points : VCode := (.seq (.ops [
  ⟨(some 2), none, (.asg (.const (.slice none 0 0)))⟩]) (.seq (.ops [
  ⟨(some 5), none, (.bsl 2 [])⟩,
  ⟨(some 3), none, (.asg (.tmp 5))⟩]) (.seq (.seq (.ops [
  ⟨(some 4), none, (.asg (.const (.int .i64 0)))⟩]) (.block 0 (.loop mk_spec_l03Points_0 (.seq (.seq (.ops [
  ⟨(some 6), none, (.mv (.tmp 4))⟩,
  ⟨(some 7), none, (.mv (.tmp 0))⟩,
  ⟨(some 8), none, (.nilc (.tmp 7))⟩,
  ⟨(some 9), none, (.fa 0 (.tmp 8))⟩,
  ⟨(some 10), none, (.load 1 false (.tmp 9))⟩,
  ⟨(some 11), none, (.len (.tmp 10))⟩,
  ⟨(some 12), none, (.bin .lss (.tmp 6) (.tmp 11))⟩]) (.cond (.tmp 12) .skip (.exit 0))) (.seq (.block 1 (.ops [
  ⟨(some 15), none, (.mv (.tmp 3))⟩,
  ⟨(some 16), none, (.mv (.tmp 0))⟩,
  ⟨(some 17), none, (.nilc (.tmp 16))⟩,
  ⟨(some 18), none, (.fa 0 (.tmp 17))⟩,
  ⟨(some 19), none, (.load 1 false (.tmp 18))⟩,
  ⟨(some 20), none, (.mv (.tmp 4))⟩,
  ⟨(some 21), none, (.ia 3 (.tmp 19) (.tmp 20))⟩,
  ⟨(some 22), none, (.fa 0 (.tmp 21))⟩,
  ⟨(some 23), none, (.load 2 true (.tmp 22))⟩,
  ⟨(some 24), none, (.bsl 2 [(.tmp 23)])⟩,
  ⟨(some 25), none, (.app 2 16 (.tmp 15) (.tmp 24))⟩,
  ⟨(some 3), none, (.asg (.tmp 25))⟩])) (.ops [
  ⟨(some 13), none, (.mv (.tmp 4))⟩,
  ⟨(some 14), none, (.bin .add (.tmp 13) (.const (.int .i64 1)))⟩,
  ⟨(some 4), none, (.asg (.tmp 14))⟩])))))) (.seq (.ops [
  ⟨(some 26), none, (.mv (.tmp 3))⟩,
  ⟨(some 2), none, (.asg (.tmp 26))⟩]) .ret))))
theorem law_spec_l03Points {a0 d : D} (h : code_spec_l03Points.wp (CT Try.prog NoG) (endQ [(.t 2)] d) [a0, .undef, .undef, .undef, .undef, .undef, .undef, .undef, .undef, .undef, .undef, .undef, .undef, .undef, .undef, .undef, .undef, .undef, .undef, .undef, .undef, .undef, .undef, .undef, .undef, .undef, .undef]) : Contract Try.prog NoG 39 [a0] d :=
  contract_of noG Try.func39 (fun us W => by kernel_rfl) (c := Try.f39.body.getD .skip) (ms := [mk_spec_l03Points_0]) (ms' := []) (by kernel_rfl) (by kernel_rfl) (by kernel_rfl) h
theorem v_l03Points (b : Assembly) (hn : b.Tiles.length ≤ 1048576) : Contract Try.prog NoG 39 [.iptr (Assembly.td.d false b) 0] (.sl true 2 ((ptsOf b.Tiles).map (Point.td.d true))) := by
  rw [Assembly.td_d]
  refine law_spec_l03Points ?_
  unfold code_spec_l03Points
  simp -implicitDefEqProofs (disch := omega) only [go_sem, ↓reduceIte, Nat.reduceAdd, Nat.reduceMul, Nat.reduceLeDiff, reduceCtorEq, Nat.reduceEqDiff, Nat.reduceBEq, Nat.reduceBNe, Option.some.injEq , List.length_map]
  refine loop_ov (by simp -implicitDefEqProofs (disch := omega) only [go_sem, ↓reduceIte, Nat.reduceAdd, Nat.reduceMul, Nat.reduceLeDiff, reduceCtorEq, Nat.reduceEqDiff, Nat.reduceBEq, Nat.reduceBNe, Option.some.injEq]; exact rfl) (fun i : Nat => [(4, .v (.int .i64 (i : Nat))), (3, .sl true 2 ((ptsOf (b.Tiles.take i)).map (Point.td.d true)))]) (fun _ => by simp only [ovr_nil, ovr_cons, List.set_cons_zero, List.set_cons_succ]; exact rfl) (fun i : Nat => i ≤ b.Tiles.length) (fun i : Nat => b.Tiles.length - i) (0) (by (try simp -implicitDefEqProofs only [nleL_cc, nleL_nn, nle_self, nle_boxs, nle_aggs, nle_nils, and_self, and_true, true_and]) <;> repeat' (first | exact nle_of_eq rfl | exact nle_nil | refine And.intro ?_ ?_ | refine nle_box ?_ | refine nle_agg ?_ | refine nle_sl ?_ | exact nleLL_nil | refine nleLL_cons ?_ ?_ | exact nleL_nil | refine nleL_cons ?_ ?_ | exact nle_rfl _)) (Nat.zero_le _) ?_
  intro i hi
  simp -implicitDefEqProofs (disch := omega) only [go_sem, ↓reduceIte, Nat.reduceAdd, Nat.reduceMul, Nat.reduceLeDiff, reduceCtorEq, Nat.reduceEqDiff, Nat.reduceBEq, Nat.reduceBNe, Option.some.injEq , List.length_map, Int.toNat_natCast, Int.ofNat_lt, Int.natCast_nonneg, List.getElem?_map, Option.map_some]
  refine cond_split ?_ ?_ <;> intro hlt
  · have hlt : i < b.Tiles.length := by simpa using hlt
    have e1 := List.getElem?_eq_getElem hlt
    have hnx : (ptsOf (b.Tiles.take i)).map (Point.td.d true) ++ [[.v (.int .i64 b.Tiles[i].At.X), .v (.int .i64 b.Tiles[i].At.Y)]] = (ptsOf (b.Tiles.take (i + 1))).map (Point.td.d true) := by
      unfold ptsOf
      rw [List.take_succ_eq_append_getElem hlt, List.map_append, List.map_append]; rfl
    have hl : (ptsOf (b.Tiles.take i)).length ≤ 1048576 := by unfold ptsOf; rw [List.length_map, List.length_take]; omega
    simp -implicitDefEqProofs (disch := omega) only [go_sem, ↓reduceIte, Nat.reduceAdd, Nat.reduceMul, Nat.reduceLeDiff, reduceCtorEq, Nat.reduceEqDiff, Nat.reduceBEq, Nat.reduceBNe, Option.some.injEq , List.length_map, Int.toNat_natCast, Int.ofNat_lt, Int.natCast_nonneg, List.getElem?_map, Option.map_some, hlt, e1, Placed.td_d, wrN]
    refine ⟨by omega, i + 1, by omega, hlt, ?_⟩
    rw [← hnx]
    (try simp -implicitDefEqProofs only [nleL_cc, nleL_nn, nle_self, nle_boxs, nle_aggs, nle_nils, and_self, and_true, true_and]) <;> repeat' (first | exact nle_of_eq rfl | exact nle_nil | refine And.intro ?_ ?_ | refine nle_box ?_ | refine nle_agg ?_ | refine nle_sl ?_ | exact nleLL_nil | refine nleLL_cons ?_ ?_ | exact nleL_nil | refine nleL_cons ?_ ?_ | exact nle_rfl _)
  · obtain rfl : i = b.Tiles.length := by
      have : ¬ i < b.Tiles.length := by simpa using hlt
      omega
    simp -implicitDefEqProofs (disch := omega) only [go_sem, ↓reduceIte, Nat.reduceAdd, Nat.reduceMul, Nat.reduceLeDiff, reduceCtorEq, Nat.reduceEqDiff, Nat.reduceBEq, Nat.reduceBNe, Option.some.injEq , List.take_length]
theorem lo_hd {ps : List Point} (h : 0 < ps.length) : loP ps = ⟨mnF (·.X) ps[0].X ps, mnF (·.Y) ps[0].Y ps⟩ := by
  cases ps with
  | nil => simp at h
  | cons p ps => rfl
theorem hi_hd {ps : List Point} (h : 0 < ps.length) : hiP ps = ⟨mxF (·.X) ps[0].X ps, mxF (·.Y) ps[0].Y ps⟩ := by
  cases ps with
  | nil => simp at h
  | cons p ps => rfl
abbrev mk_impl_bounds_0 : List Bool := [false, false, false, false, true, true, false, false, true, true, true, true, true, true]
abbrev mk_impl_bounds_1 : List Bool := [false, false, false, false, true, true, false, false, false, true, true, true, true, true]
abbrev mk_impl_bounds_2 : List Bool := [false, false, false, false, true, true, false, false, false, false, true, true, true, true]
abbrev mk_impl_bounds_3 : List Bool := [false, false, false, false, true, true, false, false, true, true, true, false, true, true]
abbrev mk_impl_bounds_4 : List Bool := [false, false, false, false, true, true, false, false, true, true, true, false, false, true]
abbrev mk_impl_bounds_5 : List Bool := [false, false, false, false, true, false, false, false, false, false, false, true, true, true]
abbrev mk_impl_bounds_6 : List Bool := [true, true, false, false, false, false, true, true, true, true, true, true, true, true, false, false, false, true, true, true, true, true, true, true, true, true, true, true, true, true, true, true, true, true, true, true, true, true, true, true, true, true, true, true, true]
abbrev mk_impl_bounds_7 : List Bool := [false, false, true, false, false, false, false, false, false, false, false, false, false, false, false, false, false, false, false, false, false, false, false, false, false, false, false, false, false, false, false, false, false, false, false, false, false, false, false, false, false, false, false, true, true]
abbrev mk_impl_bounds_8 : List Bool := [false, false, false, false, false, false, false, false, false, false, false, false, false, false, false, false, false, false, false, false, false, false, false, false, false, false, false, false, false, false, false, false, false, false, false, false, false, false, false, false, false, false, false, true]
abbrev mk_impl_bounds_9 : List Bool := [false, false, true, false, false, false, false, false, false, false, false, false, false, false, false, false, false, false, false, false, false, false, false, false, false, false, false, false, false, false, false, false, false, false, false, false, false, false, false, false, false, false, false, false, true]
/-- impl.bounds -/
def code_impl_bounds : VCode := (.seq (.ops [
  ⟨(some 2), none, (.alloc [(.int .i64 0), (.int .i64 0)])⟩,
  ⟨(some 3), none, (.alloc [(.int .i64 0), (.int .i64 0)])⟩]) (.seq (.drawB [] [(4, 2)] mk_impl_bounds_0 [false, false, false, false, false, false, false, false, false, false, true] [⟨0, mk_impl_bounds_0, [], ⟨(some 8), none, (.mv (.tmp 0))⟩⟩, ⟨1, mk_impl_bounds_1, [], ⟨(some 9), none, (.ia 2 (.tmp 8) (.const (.int .i64 0)))⟩⟩, ⟨2, mk_impl_bounds_2, [], ⟨(some 10), none, (.load 2 true (.tmp 9))⟩⟩, ⟨3, mk_impl_bounds_0, [], ⟨(some 11), none, (.mv (.tmp 0))⟩⟩, ⟨4, mk_impl_bounds_3, [], ⟨(some 12), none, (.ia 2 (.tmp 11) (.const (.int .i64 0)))⟩⟩, ⟨5, mk_impl_bounds_4, [], ⟨(some 13), none, (.load 2 true (.tmp 12))⟩⟩, ⟨6, mk_impl_bounds_0, [], ⟨none, none, (.mv (.const (.tuple ⟨[]⟩)))⟩⟩, ⟨7, mk_impl_bounds_0, [], ⟨(some 5), none, (.alloc [(.int .i64 0), (.int .i64 0)])⟩⟩, ⟨8, mk_impl_bounds_5, [false, false, false, false, false, false, false, false, false, false, true], ⟨(some 4), none, (.box (.tmp 10))⟩⟩] [⟨none, none, (.store 2 (.tmp 5) (.tmp 13))⟩]) (.seq (.seq (.ops [
  ⟨(some 14), none, (.mv (.tmp 0))⟩,
  ⟨(some 15), none, (.len (.tmp 14))⟩,
  ⟨(some 16), none, (.mv (.const (.int .i64 0)))⟩]) (.block 0 (.loop mk_impl_bounds_6 (.seq (.ops [
  ⟨(some 17), none, (.bin .lss (.tmp 16) (.tmp 15))⟩]) (.seq (.cond (.tmp 17) .skip (.exit 0)) (.seq (.block 1 (.seq (.ops [
  ⟨(some 18), none, (.ia 2 (.tmp 14) (.tmp 16))⟩,
  ⟨(some 19), none, (.load 2 true (.tmp 18))⟩,
  ⟨(some 7), none, (.alloc [(.int .i64 0), (.int .i64 0)])⟩,
  ⟨none, none, (.store 2 (.tmp 7) (.tmp 19))⟩]) (.seq (.ops [
  ⟨(some 20), none, (.fa 0 (.tmp 4))⟩,
  ⟨(some 21), none, (.load 1 false (.tmp 20))⟩,
  ⟨(some 22), none, (.fa 0 (.tmp 7))⟩,
  ⟨(some 23), none, (.load 1 false (.tmp 22))⟩,
  ⟨(some 24), none, (.mm false [(.tmp 21), (.tmp 23)])⟩,
  ⟨(some 25), none, (.fa 1 (.tmp 4))⟩,
  ⟨(some 26), none, (.load 1 false (.tmp 25))⟩,
  ⟨(some 27), none, (.fa 1 (.tmp 7))⟩,
  ⟨(some 28), none, (.load 1 false (.tmp 27))⟩,
  ⟨(some 29), none, (.mm false [(.tmp 26), (.tmp 28)])⟩,
  ⟨(some 30), none, (.build [(.int .i64 0), (.int .i64 0)] [(0, 1, (.tmp 24)), (1, 1, (.tmp 29))])⟩,
  ⟨none, none, (.store 2 (.tmp 4) (.tmp 30))⟩]) (.ops [
  ⟨(some 31), none, (.fa 0 (.tmp 5))⟩,
  ⟨(some 32), none, (.load 1 false (.tmp 31))⟩,
  ⟨(some 33), none, (.fa 0 (.tmp 7))⟩,
  ⟨(some 34), none, (.load 1 false (.tmp 33))⟩,
  ⟨(some 35), none, (.mm true [(.tmp 32), (.tmp 34)])⟩,
  ⟨(some 36), none, (.fa 1 (.tmp 5))⟩,
  ⟨(some 37), none, (.load 1 false (.tmp 36))⟩,
  ⟨(some 38), none, (.fa 1 (.tmp 7))⟩,
  ⟨(some 39), none, (.load 1 false (.tmp 38))⟩,
  ⟨(some 40), none, (.mm true [(.tmp 37), (.tmp 39)])⟩,
  ⟨(some 41), none, (.build [(.int .i64 0), (.int .i64 0)] [(0, 1, (.tmp 35)), (1, 1, (.tmp 40))])⟩,
  ⟨none, none, (.store 2 (.tmp 5) (.tmp 41))⟩])))) (.ops [
  ⟨(some 42), none, (.bin .add (.tmp 16) (.const (.int .i64 1)))⟩,
  ⟨(some 16), none, (.mv (.tmp 42))⟩]))))))) (.seq (.drawB [(2, 2)] [(2, 2)] mk_impl_bounds_7 mk_impl_bounds_8 [⟨0, mk_impl_bounds_7, [], ⟨(some 43), none, (.load 2 true (.tmp 4))⟩⟩, ⟨1, mk_impl_bounds_7, [], ⟨(some 44), none, (.load 2 true (.tmp 5))⟩⟩, ⟨2, mk_impl_bounds_9, mk_impl_bounds_8, ⟨(some 2), none, (.box (.tmp 43))⟩⟩] [⟨none, none, (.store 2 (.tmp 3) (.tmp 44))⟩]) .ret))))
theorem law_impl_bounds {a0 d : D} (h : code_impl_bounds.wp (CT Try.prog NoG) (endQ [(.c 2 2 true), (.c 3 2 true)] d) [a0, .undef, .undef, .undef, .undef, .undef, .undef, .undef, .undef, .undef, .undef, .undef, .undef, .undef, .undef, .undef, .undef, .undef, .undef, .undef, .undef, .undef, .undef, .undef, .undef, .undef, .undef, .undef, .undef, .undef, .undef, .undef, .undef, .undef, .undef, .undef, .undef, .undef, .undef, .undef, .undef, .undef, .undef, .undef, .undef]) : Contract Try.prog NoG 46 [a0] d :=
  contract_of noG Try.func46 (fun us W => by kernel_rfl) (c := Try.f46.body.getD .skip) (ms := [mk_impl_bounds_6]) (ms' := []) (by kernel_rfl) (by kernel_rfl) (by kernel_rfl) h
set_option maxHeartbeats 2000000 in
theorem v_bounds (ps : List Point) (hn : ps.length ≤ 1048576) (h0 : 0 < ps.length) : Contract Try.prog NoG 46 [.sl false 2 (ps.map (Point.td.d false))] (.tup [.agg (Point.td.d true (loP ps)), .agg (Point.td.d true (hiP ps))]) := by
  rw [Point.td_d, Point.td_d, lo_hd h0, hi_hd h0]
  refine law_impl_bounds ?_
  unfold code_impl_bounds
  have e0 := List.getElem?_eq_getElem h0
  have hp : (0 : Int) < (ps.length : Int) := by omega
  simp -implicitDefEqProofs (disch := omega) only [go_sem, ↓reduceIte, Nat.reduceAdd, Nat.reduceMul, Nat.reduceLeDiff, reduceCtorEq, Nat.reduceEqDiff, Nat.reduceBEq, Nat.reduceBNe, Option.some.injEq , List.length_map, Int.toNat_natCast, Int.ofNat_lt, Int.natCast_nonneg, List.getElem?_map, Option.map_some, Int.natCast_zero, Int.natCast_one, Int.cast_ofNat_Int, Int.ofNat_le, Int.toNat_zero, Nat.sub_zero, Int.le_refl, Int.reduceLT, Int.reduceLE, Int.reduceEq, Int.reduceAdd, Int.reduceSub, Int.reduceMul, Int.reduceToNat, Int.reduceNeg, hp, e0, Point.td_d]
  refine loop_ov (by simp -implicitDefEqProofs (disch := omega) only [go_sem, ↓reduceIte, Nat.reduceAdd, Nat.reduceMul, Nat.reduceLeDiff, reduceCtorEq, Nat.reduceEqDiff, Nat.reduceBEq, Nat.reduceBNe, Option.some.injEq]; exact rfl) (fun i : Nat => [(16, .v (.int .i64 (i : Nat))), (4, .box none [.v (.int .i64 (mnF (·.X) ps[0].X (ps.take i))), .v (.int .i64 (mnF (·.Y) ps[0].Y (ps.take i)))]), (5, .box none [.v (.int .i64 (mxF (·.X) ps[0].X (ps.take i))), .v (.int .i64 (mxF (·.Y) ps[0].Y (ps.take i)))])]) (fun _ => by simp only [ovr_nil, ovr_cons, List.set_cons_zero, List.set_cons_succ]; exact rfl) (fun i : Nat => i ≤ ps.length) (fun i : Nat => ps.length - i) (0) (by (try simp -implicitDefEqProofs only [nleL_cc, nleL_nn, nle_self, nle_boxs, nle_aggs, nle_nils, and_self, and_true, true_and]) <;> repeat' (first | exact nle_of_eq rfl | exact nle_nil | refine And.intro ?_ ?_ | refine nle_box ?_ | refine nle_agg ?_ | refine nle_sl ?_ | exact nleLL_nil | refine nleLL_cons ?_ ?_ | exact nleL_nil | refine nleL_cons ?_ ?_ | exact nle_rfl _)) (Nat.zero_le _) ?_
  intro i hi
  simp -implicitDefEqProofs (disch := omega) only [go_sem, ↓reduceIte, Nat.reduceAdd, Nat.reduceMul, Nat.reduceLeDiff, reduceCtorEq, Nat.reduceEqDiff, Nat.reduceBEq, Nat.reduceBNe, Option.some.injEq , List.length_map, Int.toNat_natCast, Int.ofNat_lt, Int.natCast_nonneg, List.getElem?_map, Option.map_some]
  refine cond_split ?_ ?_ <;> intro hlt
  · have hlt : i < ps.length := by simpa using hlt
    have e1 := List.getElem?_eq_getElem hlt
    have n1 := mnF_next (·.X) ps[0].X hlt
    have n2 := mnF_next (·.Y) ps[0].Y hlt
    have n3 := mxF_next (·.X) ps[0].X hlt
    have n4 := mxF_next (·.Y) ps[0].Y hlt
    simp -implicitDefEqProofs (disch := omega) only [go_sem, ↓reduceIte, Nat.reduceAdd, Nat.reduceMul, Nat.reduceLeDiff, reduceCtorEq, Nat.reduceEqDiff, Nat.reduceBEq, Nat.reduceBNe, Option.some.injEq , List.length_map, Int.toNat_natCast, Int.ofNat_lt, Int.natCast_nonneg, List.getElem?_map, Option.map_some, hlt, e1, Point.td_d, wrN, mnE, mxE]
    refine ⟨i + 1, by omega, hlt, ?_⟩
    rw [n1, n2, n3, n4]
    (try simp -implicitDefEqProofs only [nleL_cc, nleL_nn, nle_self, nle_boxs, nle_aggs, nle_nils, and_self, and_true, true_and]) <;> repeat' (first | exact nle_of_eq rfl | exact nle_nil | refine And.intro ?_ ?_ | refine nle_box ?_ | refine nle_agg ?_ | refine nle_sl ?_ | exact nleLL_nil | refine nleLL_cons ?_ ?_ | exact nleL_nil | refine nleL_cons ?_ ?_ | exact nle_rfl _)
  · obtain rfl : i = ps.length := by
      have : ¬ i < ps.length := by simpa using hlt
      omega
    simp -implicitDefEqProofs (disch := omega) only [go_sem, ↓reduceIte, Nat.reduceAdd, Nat.reduceMul, Nat.reduceLeDiff, reduceCtorEq, Nat.reduceEqDiff, Nat.reduceBEq, Nat.reduceBNe, Option.some.injEq , List.take_length]
abbrev mk_spec_l03Bounds_0 : List Bool := [false, true, false, false, false, false, false, true, true, true, true, true, true, true, true, true, true, true, true, true, true, true, true, true, true, true, true, true, true, true, true, true, true, true, true, true, true, true, true, true, true, true, true, true, true, true, true, true, true, true, true, true, true, true, true]
abbrev mk_spec_l03Bounds_1 : List Bool := [false, false, false, false, false, false, false, false, false, false, false, false, false, false, false, false, false, false, false, true, true, true, true, true, true, true, true, true, true, true, true, true, true, true]
abbrev mk_spec_l03Bounds_2 : List Bool := [false, false, false, false, false, false, false, false, false, false, false, false, false, false, false, false, false, false, false, false, true, true, true, true, true, true, true, true, true, true, true, true, true, true]
abbrev mk_spec_l03Bounds_3 : List Bool := [false, false, false, false, false, false, false, false, false, false, false, false, false, false, false, false, false, false, false, true, true, false, false, true, true, true, true, true, true, true, true, true, true, true]
abbrev mk_spec_l03Bounds_4 : List Bool := [false, false, false, false, false, false, false, false, false, false, false, false, false, false, false, false, false, false, false, true, true, false, false, false, true, true, true, true, true, true, true, true, true, true]
abbrev mk_spec_l03Bounds_5 : List Bool := [false, false, false, false, false, false, false, false, false, false, false, false, false, false, false, false, false, false, false, true, true, false, false, false, false, true, true, true, true, true, true, true, true, true]
abbrev mk_spec_l03Bounds_6 : List Bool := [false, false, false, false, false, false, false, false, false, false, false, false, false, false, false, false, false, false, false, false, false, false, false, false, false, false, true, true, true, true, true, true, true, true]
abbrev mk_spec_l03Bounds_7 : List Bool := [false, false, false, false, false, false, false, false, false, false, false, false, false, false, false, false, false, false, false, true, true, true, true, true, true, true, true, false, true, true, true, true, true, true]
abbrev mk_spec_l03Bounds_8 : List Bool := [false, false, false, false, false, false, false, false, false, false, false, false, false, false, false, false, false, false, false, true, true, true, true, true, true, true, true, true, true, false, false, true, true, true]
abbrev mk_spec_l03Bounds_9 : List Bool := [false, false, false, false, false, false, false, false, false, false, false, false, false, false, false, false, false, false, false, true, true, true, true, true, true, true, true, true, true, false, false, false, true, true]
abbrev mk_spec_l03Bounds_10 : List Bool := [false, false, false, false, false, false, false, false, false, false, false, false, false, false, false, false, false, false, false, true, true, true, true, true, true, true, true, true, true, false, false, false, false, true]
abbrev mk_spec_l03Bounds_11 : List Bool := [false, false, false, false, false, false, false, false, false, false, false, false, false, false, false, false, false, false, false, false, false, false, false, false, false, false, false, false, false, false, false, false, false, false, false, false, true, true, true, true, true, true, true, true, true, true, true, true, true, true, true]
abbrev mk_spec_l03Bounds_12 : List Bool := [false, false, false, false, false, false, false, false, false, false, false, false, false, false, false, false, false, false, false, false, false, false, false, false, false, false, false, false, false, false, false, false, false, false, false, false, false, true, true, true, true, true, true, true, true, true, true, true, true, true, true]
abbrev mk_spec_l03Bounds_13 : List Bool := [false, false, false, false, false, false, false, false, false, false, false, false, false, false, false, false, false, false, false, false, false, false, false, false, false, false, false, false, false, false, false, false, false, false, false, false, true, true, false, false, true, true, true, true, true, true, true, true, true, true, true]
abbrev mk_spec_l03Bounds_14 : List Bool := [false, false, false, false, false, false, false, false, false, false, false, false, false, false, false, false, false, false, false, false, false, false, false, false, false, false, false, false, false, false, false, false, false, false, false, false, true, true, false, false, false, true, true, true, true, true, true, true, true, true, true]
abbrev mk_spec_l03Bounds_15 : List Bool := [false, false, false, false, false, false, false, false, false, false, false, false, false, false, false, false, false, false, false, false, false, false, false, false, false, false, false, false, false, false, false, false, false, false, false, false, true, true, false, false, false, false, true, true, true, true, true, true, true, true, true]
abbrev mk_spec_l03Bounds_16 : List Bool := [false, false, false, false, false, false, false, false, false, false, false, false, false, false, false, false, false, false, false, false, false, false, false, false, false, false, false, false, false, false, false, false, false, false, false, false, false, false, false, false, false, false, false, true, true, true, true, true, true, true, true]
abbrev mk_spec_l03Bounds_17 : List Bool := [false, false, false, false, false, false, false, false, false, false, false, false, false, false, false, false, false, false, false, false, false, false, false, false, false, false, false, false, false, false, false, false, false, false, false, false, true, true, true, true, true, true, true, true, false, true, true, true, true, true, true]
abbrev mk_spec_l03Bounds_18 : List Bool := [false, false, false, false, false, false, false, false, false, false, false, false, false, false, false, false, false, false, false, false, false, false, false, false, false, false, false, false, false, false, false, false, false, false, false, false, true, true, true, true, true, true, true, true, true, true, false, false, true, true, true]
abbrev mk_spec_l03Bounds_19 : List Bool := [false, false, false, false, false, false, false, false, false, false, false, false, false, false, false, false, false, false, false, false, false, false, false, false, false, false, false, false, false, false, false, false, false, false, false, false, true, true, true, true, true, true, true, true, true, true, false, false, false, true, true]
abbrev mk_spec_l03Bounds_20 : List Bool := [false, false, false, false, false, false, false, false, false, false, false, false, false, false, false, false, false, false, false, false, false, false, false, false, false, false, false, false, false, false, false, false, false, false, false, false, true, true, true, true, true, true, true, true, true, true, false, false, false, false, true]
abbrev mk_spec_l03Bounds_21 : List Bool := [false, false, true, false, false, false, false, false, false, false, false, false, false, false, false, false, false, false, false, false, false, false, false, false, false, false, false, false, false, false, false, false, false, false, false, false, false, false, false, false, false, false, false, false, false, false, false, false, false, false, false, false, false, true, true]
abbrev mk_spec_l03Bounds_22 : List Bool := [false, false, false, false, false, false, false, false, false, false, false, false, false, false, false, false, false, false, false, false, false, false, false, false, false, false, false, false, false, false, false, false, false, false, false, false, false, false, false, false, false, false, false, false, false, false, false, false, false, false, false, false, false, true]
abbrev mk_spec_l03Bounds_23 : List Bool := [false, false, true, false, false, false, false, false, false, false, false, false, false, false, false, false, false, false, false, false, false, false, false, false, false, false, false, false, false, false, false, false, false, false, false, false, false, false, false, false, false, false, false, false, false, false, false, false, false, false, false, false, false, false, true]
/-- spec.l03Bounds -/
def code_spec_l03Bounds : VCode := (.seq (.ops [
  ⟨(some 2), none, (.alloc [(.int .i64 0), (.int .i64 0)])⟩,
  ⟨(some 3), none, (.alloc [(.int .i64 0), (.int .i64 0)])⟩]) (.seq (.ops [
  ⟨(some 7), none, (.mv (.tmp 0))⟩,
  ⟨(some 8), none, (.ia 2 (.tmp 7) (.const (.int .i64 0)))⟩,
  ⟨(some 9), none, (.load 2 true (.tmp 8))⟩,
  ⟨(some 4), none, (.alloc [(.int .i64 0), (.int .i64 0)])⟩,
  ⟨none, none, (.store 2 (.tmp 4) (.tmp 9))⟩]) (.seq (.ops [
  ⟨(some 10), none, (.mv (.tmp 0))⟩,
  ⟨(some 11), none, (.ia 2 (.tmp 10) (.const (.int .i64 0)))⟩,
  ⟨(some 12), none, (.load 2 true (.tmp 11))⟩,
  ⟨(some 5), none, (.alloc [(.int .i64 0), (.int .i64 0)])⟩,
  ⟨none, none, (.store 2 (.tmp 5) (.tmp 12))⟩]) (.seq (.seq (.ops [
  ⟨(some 6), none, (.asg (.const (.int .i64 1)))⟩]) (.block 0 (.loop mk_spec_l03Bounds_0 (.seq (.seq (.ops [
  ⟨(some 13), none, (.mv (.tmp 6))⟩,
  ⟨(some 14), none, (.mv (.tmp 0))⟩,
  ⟨(some 15), none, (.len (.tmp 14))⟩,
  ⟨(some 16), none, (.bin .lss (.tmp 13) (.tmp 15))⟩]) (.cond (.tmp 16) .skip (.exit 0))) (.seq (.block 1 (.seq (.draw mk_spec_l03Bounds_1 [] [⟨0, mk_spec_l03Bounds_1, [], ⟨(some 19), none, (.fa 0 (.tmp 4))⟩⟩, ⟨1, mk_spec_l03Bounds_2, [], ⟨(some 20), none, (.load 1 false (.tmp 19))⟩⟩, ⟨2, mk_spec_l03Bounds_1, [], ⟨(some 21), none, (.mv (.tmp 0))⟩⟩, ⟨3, mk_spec_l03Bounds_1, [], ⟨(some 22), none, (.mv (.tmp 6))⟩⟩, ⟨4, mk_spec_l03Bounds_3, [], ⟨(some 23), none, (.ia 2 (.tmp 21) (.tmp 22))⟩⟩, ⟨5, mk_spec_l03Bounds_4, [], ⟨(some 24), none, (.fa 0 (.tmp 23))⟩⟩, ⟨6, mk_spec_l03Bounds_5, [], ⟨(some 25), none, (.load 1 false (.tmp 24))⟩⟩, ⟨7, mk_spec_l03Bounds_6, [], ⟨(some 26), none, (.call 54 [(.tmp 20), (.tmp 25)])⟩⟩, ⟨8, mk_spec_l03Bounds_1, [], ⟨(some 27), none, (.fa 1 (.tmp 4))⟩⟩, ⟨9, mk_spec_l03Bounds_7, [], ⟨(some 28), none, (.load 1 false (.tmp 27))⟩⟩, ⟨10, mk_spec_l03Bounds_1, [], ⟨(some 29), none, (.mv (.tmp 0))⟩⟩, ⟨11, mk_spec_l03Bounds_1, [], ⟨(some 30), none, (.mv (.tmp 6))⟩⟩, ⟨12, mk_spec_l03Bounds_8, [], ⟨(some 31), none, (.ia 2 (.tmp 29) (.tmp 30))⟩⟩, ⟨13, mk_spec_l03Bounds_9, [], ⟨(some 32), none, (.fa 1 (.tmp 31))⟩⟩, ⟨14, mk_spec_l03Bounds_10, [], ⟨(some 33), none, (.load 1 false (.tmp 32))⟩⟩] [⟨(some 34), none, (.callX 54 [(.tmp 28), (.tmp 33)])⟩, ⟨(some 35), none, (.build [(.int .i64 0), (.int .i64 0)] [(0, 1, (.tmp 26)), (1, 1, (.tmp 34))])⟩, ⟨none, none, (.store 2 (.tmp 4) (.tmp 35))⟩]) (.draw mk_spec_l03Bounds_11 [] [⟨0, mk_spec_l03Bounds_11, [], ⟨(some 36), none, (.fa 0 (.tmp 5))⟩⟩, ⟨1, mk_spec_l03Bounds_12, [], ⟨(some 37), none, (.load 1 false (.tmp 36))⟩⟩, ⟨2, mk_spec_l03Bounds_11, [], ⟨(some 38), none, (.mv (.tmp 0))⟩⟩, ⟨3, mk_spec_l03Bounds_11, [], ⟨(some 39), none, (.mv (.tmp 6))⟩⟩, ⟨4, mk_spec_l03Bounds_13, [], ⟨(some 40), none, (.ia 2 (.tmp 38) (.tmp 39))⟩⟩, ⟨5, mk_spec_l03Bounds_14, [], ⟨(some 41), none, (.fa 0 (.tmp 40))⟩⟩, ⟨6, mk_spec_l03Bounds_15, [], ⟨(some 42), none, (.load 1 false (.tmp 41))⟩⟩, ⟨7, mk_spec_l03Bounds_16, [], ⟨(some 43), none, (.call 55 [(.tmp 37), (.tmp 42)])⟩⟩, ⟨8, mk_spec_l03Bounds_11, [], ⟨(some 44), none, (.fa 1 (.tmp 5))⟩⟩, ⟨9, mk_spec_l03Bounds_17, [], ⟨(some 45), none, (.load 1 false (.tmp 44))⟩⟩, ⟨10, mk_spec_l03Bounds_11, [], ⟨(some 46), none, (.mv (.tmp 0))⟩⟩, ⟨11, mk_spec_l03Bounds_11, [], ⟨(some 47), none, (.mv (.tmp 6))⟩⟩, ⟨12, mk_spec_l03Bounds_18, [], ⟨(some 48), none, (.ia 2 (.tmp 46) (.tmp 47))⟩⟩, ⟨13, mk_spec_l03Bounds_19, [], ⟨(some 49), none, (.fa 1 (.tmp 48))⟩⟩, ⟨14, mk_spec_l03Bounds_20, [], ⟨(some 50), none, (.load 1 false (.tmp 49))⟩⟩] [⟨(some 51), none, (.callX 55 [(.tmp 45), (.tmp 50)])⟩, ⟨(some 52), none, (.build [(.int .i64 0), (.int .i64 0)] [(0, 1, (.tmp 43)), (1, 1, (.tmp 51))])⟩, ⟨none, none, (.store 2 (.tmp 5) (.tmp 52))⟩]))) (.ops [
  ⟨(some 17), none, (.mv (.tmp 6))⟩,
  ⟨(some 18), none, (.bin .add (.tmp 17) (.const (.int .i64 1)))⟩,
  ⟨(some 6), none, (.asg (.tmp 18))⟩])))))) (.seq (.drawB [(2, 2)] [(2, 2)] mk_spec_l03Bounds_21 mk_spec_l03Bounds_22 [⟨0, mk_spec_l03Bounds_21, [], ⟨(some 53), none, (.load 2 true (.tmp 4))⟩⟩, ⟨1, mk_spec_l03Bounds_21, [], ⟨(some 54), none, (.load 2 true (.tmp 5))⟩⟩, ⟨2, mk_spec_l03Bounds_23, mk_spec_l03Bounds_22, ⟨(some 2), none, (.box (.tmp 53))⟩⟩] [⟨none, none, (.store 2 (.tmp 3) (.tmp 54))⟩]) .ret)))))
theorem law_spec_l03Bounds {a0 d : D} (h : code_spec_l03Bounds.wp (CT Try.prog NoG) (endQ [(.c 2 2 true), (.c 3 2 true)] d) [a0, .undef, .undef, .undef, .undef, .undef, .undef, .undef, .undef, .undef, .undef, .undef, .undef, .undef, .undef, .undef, .undef, .undef, .undef, .undef, .undef, .undef, .undef, .undef, .undef, .undef, .undef, .undef, .undef, .undef, .undef, .undef, .undef, .undef, .undef, .undef, .undef, .undef, .undef, .undef, .undef, .undef, .undef, .undef, .undef, .undef, .undef, .undef, .undef, .undef, .undef, .undef, .undef, .undef, .undef]) : Contract Try.prog NoG 38 [a0] d :=
  contract_of noG Try.func38 (fun us W => by kernel_rfl) (c := Try.f38.body.getD .skip) (ms := [mk_spec_l03Bounds_0]) (ms' := []) (by kernel_rfl) (by kernel_rfl) (by kernel_rfl) h
set_option maxHeartbeats 2000000 in
theorem v_l03Bounds (ps : List Point) (hn : ps.length ≤ 1048576) (h0 : 0 < ps.length) : Contract Try.prog NoG 38 [.sl false 2 (ps.map (Point.td.d false))] (.tup [.agg (Point.td.d true (loP ps)), .agg (Point.td.d true (hiP ps))]) := by
  rw [Point.td_d, Point.td_d, lo_hd h0, hi_hd h0]
  refine law_spec_l03Bounds ?_
  unfold code_spec_l03Bounds
  have e0 := List.getElem?_eq_getElem h0
  have hp : (0 : Int) < (ps.length : Int) := by omega
  have m1 := mnF_next (·.X) ps[0].X h0
  have m2 := mnF_next (·.Y) ps[0].Y h0
  have m3 := mxF_next (·.X) ps[0].X h0
  have m4 := mxF_next (·.Y) ps[0].Y h0
  simp only [List.take_zero, mnF, mxF, List.foldl_nil, Int.min_self, Int.max_self] at m1 m2 m3 m4
  simp -implicitDefEqProofs (disch := omega) only [go_sem, ↓reduceIte, Nat.reduceAdd, Nat.reduceMul, Nat.reduceLeDiff, reduceCtorEq, Nat.reduceEqDiff, Nat.reduceBEq, Nat.reduceBNe, Option.some.injEq , List.length_map, Int.toNat_natCast, Int.ofNat_lt, Int.natCast_nonneg, List.getElem?_map, Option.map_some, Int.natCast_zero, Int.natCast_one, Int.cast_ofNat_Int, Int.ofNat_le, Int.toNat_zero, Nat.sub_zero, Int.le_refl, Int.reduceLT, Int.reduceLE, Int.reduceEq, Int.reduceAdd, Int.reduceSub, Int.reduceMul, Int.reduceToNat, Int.reduceNeg, hp, e0, Point.td_d]
  refine loop_ov (by simp -implicitDefEqProofs (disch := omega) only [go_sem, ↓reduceIte, Nat.reduceAdd, Nat.reduceMul, Nat.reduceLeDiff, reduceCtorEq, Nat.reduceEqDiff, Nat.reduceBEq, Nat.reduceBNe, Option.some.injEq]; exact rfl) (fun i : Nat => [(4, .box none [.v (.int .i64 (mnF (·.X) ps[0].X (ps.take i))), .v (.int .i64 (mnF (·.Y) ps[0].Y (ps.take i)))]), (5, .box none [.v (.int .i64 (mxF (·.X) ps[0].X (ps.take i))), .v (.int .i64 (mxF (·.Y) ps[0].Y (ps.take i)))]), (6, .v (.int .i64 (i : Nat)))]) (fun _ => by simp only [ovr_nil, ovr_cons, List.set_cons_zero, List.set_cons_succ]; exact rfl) (fun i : Nat => i ≤ ps.length) (fun i : Nat => ps.length - i) (1) (by rw [show mnF (·.X) ps[0].X (ps.take 1) = ps[0].X from m1, show mnF (·.Y) ps[0].Y (ps.take 1) = ps[0].Y from m2, show mxF (·.X) ps[0].X (ps.take 1) = ps[0].X from m3, show mxF (·.Y) ps[0].Y (ps.take 1) = ps[0].Y from m4]; (try simp -implicitDefEqProofs only [nleL_cc, nleL_nn, nle_self, nle_boxs, nle_aggs, nle_nils, and_self, and_true, true_and]) <;> repeat' (first | exact nle_of_eq rfl | exact nle_nil | refine And.intro ?_ ?_ | refine nle_box ?_ | refine nle_agg ?_ | refine nle_sl ?_ | exact nleLL_nil | refine nleLL_cons ?_ ?_ | exact nleL_nil | refine nleL_cons ?_ ?_ | exact nle_rfl _)) (?_) ?_
  · exact h0
  intro i hi
  simp -implicitDefEqProofs (disch := omega) only [go_sem, ↓reduceIte, Nat.reduceAdd, Nat.reduceMul, Nat.reduceLeDiff, reduceCtorEq, Nat.reduceEqDiff, Nat.reduceBEq, Nat.reduceBNe, Option.some.injEq , List.length_map, Int.toNat_natCast, Int.ofNat_lt, Int.natCast_nonneg, List.getElem?_map, Option.map_some]
  refine cond_split ?_ ?_ <;> intro hlt
  · have hlt : i < ps.length := by simpa using hlt
    have e1 := List.getElem?_eq_getElem hlt
    have n1 := mnF_next (·.X) ps[0].X hlt
    have n2 := mnF_next (·.Y) ps[0].Y hlt
    have n3 := mxF_next (·.X) ps[0].X hlt
    have n4 := mxF_next (·.Y) ps[0].Y hlt
    simp -implicitDefEqProofs (disch := omega) only [go_sem, ↓reduceIte, Nat.reduceAdd, Nat.reduceMul, Nat.reduceLeDiff, reduceCtorEq, Nat.reduceEqDiff, Nat.reduceBEq, Nat.reduceBNe, Option.some.injEq , List.length_map, Int.toNat_natCast, Int.ofNat_lt, Int.natCast_nonneg, List.getElem?_map, Option.map_some, hlt, e1, Point.td_d]
    refine call_leNA (v_l00Min (mnF (·.X) ps[0].X (ps.take i)) ps[i].X) (by simp -implicitDefEqProofs (disch := omega) only [go_sem, ↓reduceIte, Nat.reduceAdd, Nat.reduceMul, Nat.reduceLeDiff, reduceCtorEq, Nat.reduceEqDiff, Nat.reduceBEq, Nat.reduceBNe, Option.some.injEq, deep, TD.rows, immLL_rI, immLL_rB8, immLL_rS, immLL_rBo, immLL_rII, List.length_map, Int.toNat_natCast, Int.ofNat_lt, Int.natCast_nonneg, List.getElem?_map, Option.map_some, hlt, e1, Point.td_d]; exact rfl) (by repeat (first | exact leL_nil | refine leL_cons ?_ ?_ | exact le_of_eq rfl | exact le_slf rfl (by first | rfl | exact TD.rows _ _ _) | refine le_agg ?_ | (refine le_iptrN ?_; simp only [List.drop_succ_cons, List.drop_zero, List.take_succ_cons, List.take_zero, List.take_nil, List.length_cons, List.length_nil, Nat.zero_add, Nat.reduceAdd]) | refine le_iptr ?_ | refine le_fn ?_ ?_)) (by first | exact .inl rfl | exact .inl (by simp only [D.noImm, noImmL, Bool.and_true, Bool.true_and, TD.nims, TD.nim, nim_rI, nim_rB8, nim_rBo, nim_rS])) ?_
    simp -implicitDefEqProofs (disch := omega) only [go_sem, ↓reduceIte, Nat.reduceAdd, Nat.reduceMul, Nat.reduceLeDiff, reduceCtorEq, Nat.reduceEqDiff, Nat.reduceBEq, Nat.reduceBNe, Option.some.injEq , List.length_map, Int.toNat_natCast, Int.ofNat_lt, Int.natCast_nonneg, List.getElem?_map, Option.map_some, hlt, e1, Point.td_d]
    refine call_leA (v_l00Min (mnF (·.Y) ps[0].Y (ps.take i)) ps[i].Y) (by simp -implicitDefEqProofs (disch := omega) only [go_sem, ↓reduceIte, Nat.reduceAdd, Nat.reduceMul, Nat.reduceLeDiff, reduceCtorEq, Nat.reduceEqDiff, Nat.reduceBEq, Nat.reduceBNe, Option.some.injEq, deep, TD.rows, immLL_rI, immLL_rB8, immLL_rS, immLL_rBo, immLL_rII, List.length_map, Int.toNat_natCast, Int.ofNat_lt, Int.natCast_nonneg, List.getElem?_map, Option.map_some, hlt, e1, Point.td_d]; exact rfl) (by repeat (first | exact leL_nil | refine leL_cons ?_ ?_ | exact le_of_eq rfl | exact le_slf rfl (by first | rfl | exact TD.rows _ _ _) | refine le_agg ?_ | (refine le_iptrN ?_; simp only [List.drop_succ_cons, List.drop_zero, List.take_succ_cons, List.take_zero, List.take_nil, List.length_cons, List.length_nil, Nat.zero_add, Nat.reduceAdd]) | refine le_iptr ?_ | refine le_fn ?_ ?_)) (by first | exact .inl rfl | exact .inl (by simp only [D.noImm, noImmL, Bool.and_true, Bool.true_and, TD.nims, TD.nim, nim_rI, nim_rB8, nim_rBo, nim_rS])) ?_
    simp -implicitDefEqProofs (disch := omega) only [go_sem, ↓reduceIte, Nat.reduceAdd, Nat.reduceMul, Nat.reduceLeDiff, reduceCtorEq, Nat.reduceEqDiff, Nat.reduceBEq, Nat.reduceBNe, Option.some.injEq , List.length_map, Int.toNat_natCast, Int.ofNat_lt, Int.natCast_nonneg, List.getElem?_map, Option.map_some, hlt, e1, Point.td_d]
    refine call_leNA (v_l00Max (mxF (·.X) ps[0].X (ps.take i)) ps[i].X) (by simp -implicitDefEqProofs (disch := omega) only [go_sem, ↓reduceIte, Nat.reduceAdd, Nat.reduceMul, Nat.reduceLeDiff, reduceCtorEq, Nat.reduceEqDiff, Nat.reduceBEq, Nat.reduceBNe, Option.some.injEq, deep, TD.rows, immLL_rI, immLL_rB8, immLL_rS, immLL_rBo, immLL_rII, List.length_map, Int.toNat_natCast, Int.ofNat_lt, Int.natCast_nonneg, List.getElem?_map, Option.map_some, hlt, e1, Point.td_d]; exact rfl) (by repeat (first | exact leL_nil | refine leL_cons ?_ ?_ | exact le_of_eq rfl | exact le_slf rfl (by first | rfl | exact TD.rows _ _ _) | refine le_agg ?_ | (refine le_iptrN ?_; simp only [List.drop_succ_cons, List.drop_zero, List.take_succ_cons, List.take_zero, List.take_nil, List.length_cons, List.length_nil, Nat.zero_add, Nat.reduceAdd]) | refine le_iptr ?_ | refine le_fn ?_ ?_)) (by first | exact .inl rfl | exact .inl (by simp only [D.noImm, noImmL, Bool.and_true, Bool.true_and, TD.nims, TD.nim, nim_rI, nim_rB8, nim_rBo, nim_rS])) ?_
    simp -implicitDefEqProofs (disch := omega) only [go_sem, ↓reduceIte, Nat.reduceAdd, Nat.reduceMul, Nat.reduceLeDiff, reduceCtorEq, Nat.reduceEqDiff, Nat.reduceBEq, Nat.reduceBNe, Option.some.injEq , List.length_map, Int.toNat_natCast, Int.ofNat_lt, Int.natCast_nonneg, List.getElem?_map, Option.map_some, hlt, e1, Point.td_d]
    refine call_leA (v_l00Max (mxF (·.Y) ps[0].Y (ps.take i)) ps[i].Y) (by simp -implicitDefEqProofs (disch := omega) only [go_sem, ↓reduceIte, Nat.reduceAdd, Nat.reduceMul, Nat.reduceLeDiff, reduceCtorEq, Nat.reduceEqDiff, Nat.reduceBEq, Nat.reduceBNe, Option.some.injEq, deep, TD.rows, immLL_rI, immLL_rB8, immLL_rS, immLL_rBo, immLL_rII, wrN]; exact rfl) (by repeat (first | exact leL_nil | refine leL_cons ?_ ?_ | exact le_of_eq rfl | exact le_slf rfl (by first | rfl | exact TD.rows _ _ _) | refine le_agg ?_ | (refine le_iptrN ?_; simp only [List.drop_succ_cons, List.drop_zero, List.take_succ_cons, List.take_zero, List.take_nil, List.length_cons, List.length_nil, Nat.zero_add, Nat.reduceAdd]) | refine le_iptr ?_ | refine le_fn ?_ ?_)) (by first | exact .inl rfl | exact .inl (by simp only [D.noImm, noImmL, Bool.and_true, Bool.true_and, TD.nims, TD.nim, nim_rI, nim_rB8, nim_rBo, nim_rS])) ?_
    simp -implicitDefEqProofs (disch := omega) only [go_sem, ↓reduceIte, Nat.reduceAdd, Nat.reduceMul, Nat.reduceLeDiff, reduceCtorEq, Nat.reduceEqDiff, Nat.reduceBEq, Nat.reduceBNe, Option.some.injEq , wrN]
    refine ⟨i + 1, by omega, hlt, ?_⟩
    rw [n1, n2, n3, n4]
    (try simp -implicitDefEqProofs only [nleL_cc, nleL_nn, nle_self, nle_boxs, nle_aggs, nle_nils, and_self, and_true, true_and]) <;> repeat' (first | exact nle_of_eq rfl | exact nle_nil | refine And.intro ?_ ?_ | refine nle_box ?_ | refine nle_agg ?_ | refine nle_sl ?_ | exact nleLL_nil | refine nleLL_cons ?_ ?_ | exact nleL_nil | refine nleL_cons ?_ ?_ | exact nle_rfl _)
  · obtain rfl : i = ps.length := by
      have : ¬ i < ps.length := by simpa using hlt
      omega
    simp -implicitDefEqProofs (disch := omega) only [go_sem, ↓reduceIte, Nat.reduceAdd, Nat.reduceMul, Nat.reduceLeDiff, reduceCtorEq, Nat.reduceEqDiff, Nat.reduceBEq, Nat.reduceBNe, Option.some.injEq , List.take_length]
theorem pts_len (ps : List Placed) : (ptsOf ps).length = ps.length := List.length_map ..
/-- impl.area -/
def code_impl_area : VCode := (.seq (.ops [
  ⟨(some 1), none, (.box (.tmp 0))⟩,
  ⟨(some 2), none, (.asg (.const (.int .i64 0)))⟩]) (.seq (.ops [
  ⟨(some 6), none, (.load 1 true (.tmp 1))⟩,
  ⟨(some 7), none, (.callX 47 [(.tmp 6)])⟩,
  ⟨(some 8), none, (.callX 46 [(.tmp 7)])⟩,
  ⟨(some 5), none, (.mv (.tmp 8))⟩,
  ⟨(some 9), none, (.ext (.tmp 5) 0)⟩,
  ⟨(some 10), none, (.ext (.tmp 5) 1)⟩,
  ⟨(some 3), none, (.alloc [(.int .i64 0), (.int .i64 0)])⟩,
  ⟨(some 4), none, (.alloc [(.int .i64 0), (.int .i64 0)])⟩,
  ⟨none, none, (.store 2 (.tmp 3) (.tmp 9))⟩,
  ⟨none, none, (.store 2 (.tmp 4) (.tmp 10))⟩]) (.seq (.ops [
  ⟨(some 11), none, (.fa 0 (.tmp 4))⟩,
  ⟨(some 12), none, (.load 1 false (.tmp 11))⟩,
  ⟨(some 13), none, (.fa 0 (.tmp 3))⟩,
  ⟨(some 14), none, (.load 1 false (.tmp 13))⟩,
  ⟨(some 15), none, (.bin .sub (.tmp 12) (.tmp 14))⟩,
  ⟨(some 16), none, (.bin .add (.tmp 15) (.const (.int .i64 1)))⟩,
  ⟨(some 17), none, (.fa 1 (.tmp 4))⟩,
  ⟨(some 18), none, (.load 1 false (.tmp 17))⟩,
  ⟨(some 19), none, (.fa 1 (.tmp 3))⟩,
  ⟨(some 20), none, (.load 1 false (.tmp 19))⟩,
  ⟨(some 21), none, (.bin .sub (.tmp 18) (.tmp 20))⟩,
  ⟨(some 22), none, (.bin .add (.tmp 21) (.const (.int .i64 1)))⟩,
  ⟨(some 23), none, (.bin .mul (.tmp 16) (.tmp 22))⟩,
  ⟨(some 2), none, (.asg (.tmp 23))⟩]) .ret)))
theorem law_impl_area {a0 d : D} (h : code_impl_area.wp (CT Try.prog NoG) (endQ [(.t 2)] d) [a0, .undef, .undef, .undef, .undef, .undef, .undef, .undef, .undef, .undef, .undef, .undef, .undef, .undef, .undef, .undef, .undef, .undef, .undef, .undef, .undef, .undef, .undef, .undef]) : Contract Try.prog NoG 23 [a0] d :=
  contract_of noG Try.func23 (fun us W => by kernel_rfl) (c := Try.f23.body.getD .skip) (ms := []) (ms' := []) (by kernel_rfl) (by kernel_rfl) (by kernel_rfl) h
/-- spec.l34Area -/
def code_spec_l34Area : VCode := (.seq (.ops [
  ⟨(some 2), none, (.asg (.const (.int .i64 0)))⟩]) (.seq (.seq (.ops [
  ⟨(some 5), none, (.mv (.tmp 0))⟩,
  ⟨(some 6), none, (.nilc (.tmp 5))⟩,
  ⟨(some 7), none, (.fa 0 (.tmp 6))⟩,
  ⟨(some 8), none, (.load 1 false (.tmp 7))⟩,
  ⟨(some 9), none, (.len (.tmp 8))⟩,
  ⟨(some 10), none, (.bin .eql (.tmp 9) (.const (.int .i64 0)))⟩]) (.cond (.tmp 10) (.seq (.ops [
  ⟨(some 2), none, (.asg (.const (.int .i64 0)))⟩]) .ret) .skip)) (.seq (.ops [
  ⟨(some 12), none, (.mv (.tmp 0))⟩,
  ⟨(some 13), none, (.callX 39 [(.tmp 12)])⟩,
  ⟨(some 14), none, (.callX 38 [(.tmp 13)])⟩,
  ⟨(some 11), none, (.mv (.tmp 14))⟩,
  ⟨(some 15), none, (.ext (.tmp 11) 0)⟩,
  ⟨(some 16), none, (.ext (.tmp 11) 1)⟩,
  ⟨(some 3), none, (.alloc [(.int .i64 0), (.int .i64 0)])⟩,
  ⟨(some 4), none, (.alloc [(.int .i64 0), (.int .i64 0)])⟩,
  ⟨none, none, (.store 2 (.tmp 3) (.tmp 15))⟩,
  ⟨none, none, (.store 2 (.tmp 4) (.tmp 16))⟩]) (.seq (.ops [
  ⟨(some 17), none, (.fa 0 (.tmp 4))⟩,
  ⟨(some 18), none, (.load 1 false (.tmp 17))⟩,
  ⟨(some 19), none, (.fa 0 (.tmp 3))⟩,
  ⟨(some 20), none, (.load 1 false (.tmp 19))⟩,
  ⟨(some 21), none, (.bin .sub (.tmp 18) (.tmp 20))⟩,
  ⟨(some 22), none, (.bin .add (.tmp 21) (.const (.int .i64 1)))⟩,
  ⟨(some 23), none, (.fa 1 (.tmp 4))⟩,
  ⟨(some 24), none, (.load 1 false (.tmp 23))⟩,
  ⟨(some 25), none, (.fa 1 (.tmp 3))⟩,
  ⟨(some 26), none, (.load 1 false (.tmp 25))⟩,
  ⟨(some 27), none, (.bin .sub (.tmp 24) (.tmp 26))⟩,
  ⟨(some 28), none, (.bin .add (.tmp 27) (.const (.int .i64 1)))⟩,
  ⟨(some 29), none, (.bin .mul (.tmp 22) (.tmp 28))⟩,
  ⟨(some 2), none, (.asg (.tmp 29))⟩]) .ret))))
theorem law_spec_l34Area {a0 d : D} (h : code_spec_l34Area.wp (CT Try.prog NoG) (endQ [(.t 2)] d) [a0, .undef, .undef, .undef, .undef, .undef, .undef, .undef, .undef, .undef, .undef, .undef, .undef, .undef, .undef, .undef, .undef, .undef, .undef, .undef, .undef, .undef, .undef, .undef, .undef, .undef, .undef, .undef, .undef, .undef]) : Contract Try.prog NoG 19 [a0] d :=
  contract_of noG Try.func19 (fun us W => by kernel_rfl) (c := Try.f19.body.getD .skip) (ms := []) (ms' := []) (by kernel_rfl) (by kernel_rfl) (by kernel_rfl) h
theorem v_area (b : Assembly) (h : okForm b.Tiles = true) (h0 : 0 < b.Tiles.length) (hn : b.Tiles.length ≤ 1048576) : Contract Try.prog NoG 23 [.agg (Assembly.td.d false b)] (.v (.int .i64 (areaI (ptsOf b.Tiles)))) := by
  have hn' : (ptsOf b.Tiles).length ≤ 1048576 := by rw [pts_len]; exact hn
  have h0' : 0 < (ptsOf b.Tiles).length := by rw [pts_len]; exact h0
  obtain ⟨a1, a2⟩ := area_facts (form_pts h) h0'
  have a3 := area_in (form_pts h) (by rw [pts_len]; exact h0)
  rw [Assembly.td_d]
  refine law_impl_area ?_
  unfold code_impl_area
  have w1 : IntKind.i64.wrap ((hiP (ptsOf b.Tiles)).X - (loP (ptsOf b.Tiles)).X) = (hiP (ptsOf b.Tiles)).X - (loP (ptsOf b.Tiles)).X := wrI (by omega) (by omega)
  have w2 : IntKind.i64.wrap ((hiP (ptsOf b.Tiles)).X - (loP (ptsOf b.Tiles)).X + 1) = (hiP (ptsOf b.Tiles)).X - (loP (ptsOf b.Tiles)).X + 1 := wrI (by omega) (by omega)
  have w3 : IntKind.i64.wrap ((hiP (ptsOf b.Tiles)).Y - (loP (ptsOf b.Tiles)).Y) = (hiP (ptsOf b.Tiles)).Y - (loP (ptsOf b.Tiles)).Y := wrI (by omega) (by omega)
  have w4 : IntKind.i64.wrap ((hiP (ptsOf b.Tiles)).Y - (loP (ptsOf b.Tiles)).Y + 1) = (hiP (ptsOf b.Tiles)).Y - (loP (ptsOf b.Tiles)).Y + 1 := wrI (by omega) (by omega)
  have w5 : IntKind.i64.wrap (areaI (ptsOf b.Tiles)) = areaI (ptsOf b.Tiles) := wrI (by omega) (by omega)
  have w6 : ((hiP (ptsOf b.Tiles)).X - (loP (ptsOf b.Tiles)).X + 1) * ((hiP (ptsOf b.Tiles)).Y - (loP (ptsOf b.Tiles)).Y + 1) = areaI (ptsOf b.Tiles) := rfl
  simp -implicitDefEqProofs (disch := omega) only [go_sem, ↓reduceIte, Nat.reduceAdd, Nat.reduceMul, Nat.reduceLeDiff, reduceCtorEq, Nat.reduceEqDiff, Nat.reduceBEq, Nat.reduceBNe, Option.some.injEq]
  refine call_leA (v_points b hn) (by simp -implicitDefEqProofs (disch := omega) only [go_sem, ↓reduceIte, Nat.reduceAdd, Nat.reduceMul, Nat.reduceLeDiff, reduceCtorEq, Nat.reduceEqDiff, Nat.reduceBEq, Nat.reduceBNe, Option.some.injEq, deep, TD.rows, immLL_rI, immLL_rB8, immLL_rS, immLL_rBo, immLL_rII]; exact rfl) (by repeat (first | exact leL_nil | refine leL_cons ?_ ?_ | exact le_of_eq rfl | exact le_slf rfl (by first | rfl | exact TD.rows _ _ _) | refine le_agg ?_ | (refine le_iptrN ?_; simp only [List.drop_succ_cons, List.drop_zero, List.take_succ_cons, List.take_zero, List.take_nil, List.length_cons, List.length_nil, Nat.zero_add, Nat.reduceAdd]) | refine le_iptr ?_ | refine le_fn ?_ ?_)) (by first | exact .inl rfl | exact .inl (by simp only [D.noImm, noImmL, Bool.and_true, Bool.true_and, TD.nims, TD.nim, nim_rI, nim_rB8, nim_rBo, nim_rS])) ?_
  simp -implicitDefEqProofs (disch := omega) only [go_sem, ↓reduceIte, Nat.reduceAdd, Nat.reduceMul, Nat.reduceLeDiff, reduceCtorEq, Nat.reduceEqDiff, Nat.reduceBEq, Nat.reduceBNe, Option.some.injEq]
  refine call_leA (v_bounds (ptsOf b.Tiles) hn' h0') (by simp -implicitDefEqProofs (disch := omega) only [go_sem, ↓reduceIte, Nat.reduceAdd, Nat.reduceMul, Nat.reduceLeDiff, reduceCtorEq, Nat.reduceEqDiff, Nat.reduceBEq, Nat.reduceBNe, Option.some.injEq, deep, TD.rows, immLL_rI, immLL_rB8, immLL_rS, immLL_rBo, immLL_rII, lkF_tup, Point.td_d, w1, w2, w3, w4, w6, w5]; exact rfl) (by repeat (first | exact leL_nil | refine leL_cons ?_ ?_ | exact le_of_eq rfl | exact le_slf rfl (by first | rfl | exact TD.rows _ _ _) | refine le_agg ?_ | (refine le_iptrN ?_; simp only [List.drop_succ_cons, List.drop_zero, List.take_succ_cons, List.take_zero, List.take_nil, List.length_cons, List.length_nil, Nat.zero_add, Nat.reduceAdd]) | refine le_iptr ?_ | refine le_fn ?_ ?_)) (by first | exact .inl rfl | exact .inl (by simp only [D.noImm, noImmL, Bool.and_true, Bool.true_and, TD.nims, TD.nim, nim_rI, nim_rB8, nim_rBo, nim_rS])) ?_
  simp -implicitDefEqProofs (disch := omega) only [go_sem, ↓reduceIte, Nat.reduceAdd, Nat.reduceMul, Nat.reduceLeDiff, reduceCtorEq, Nat.reduceEqDiff, Nat.reduceBEq, Nat.reduceBNe, Option.some.injEq , lkF_tup, Point.td_d, w1, w2, w3, w4, w6, w5]
theorem v_l34Area (b : Assembly) (h : okForm b.Tiles = true) (h0 : 0 < b.Tiles.length) (hn : b.Tiles.length ≤ 1048576) : Contract Try.prog NoG 19 [.iptr (Assembly.td.d false b) 0] (.v (.int .i64 (areaI (ptsOf b.Tiles)))) := by
  have hn' : (ptsOf b.Tiles).length ≤ 1048576 := by rw [pts_len]; exact hn
  have h0' : 0 < (ptsOf b.Tiles).length := by rw [pts_len]; exact h0
  obtain ⟨a1, a2⟩ := area_facts (form_pts h) h0'
  have a3 := area_in (form_pts h) (by rw [pts_len]; exact h0)
  rw [Assembly.td_d]
  refine law_spec_l34Area ?_
  unfold code_spec_l34Area
  have w1 : IntKind.i64.wrap ((hiP (ptsOf b.Tiles)).X - (loP (ptsOf b.Tiles)).X) = (hiP (ptsOf b.Tiles)).X - (loP (ptsOf b.Tiles)).X := wrI (by omega) (by omega)
  have w2 : IntKind.i64.wrap ((hiP (ptsOf b.Tiles)).X - (loP (ptsOf b.Tiles)).X + 1) = (hiP (ptsOf b.Tiles)).X - (loP (ptsOf b.Tiles)).X + 1 := wrI (by omega) (by omega)
  have w3 : IntKind.i64.wrap ((hiP (ptsOf b.Tiles)).Y - (loP (ptsOf b.Tiles)).Y) = (hiP (ptsOf b.Tiles)).Y - (loP (ptsOf b.Tiles)).Y := wrI (by omega) (by omega)
  have w4 : IntKind.i64.wrap ((hiP (ptsOf b.Tiles)).Y - (loP (ptsOf b.Tiles)).Y + 1) = (hiP (ptsOf b.Tiles)).Y - (loP (ptsOf b.Tiles)).Y + 1 := wrI (by omega) (by omega)
  have w5 : IntKind.i64.wrap (areaI (ptsOf b.Tiles)) = areaI (ptsOf b.Tiles) := wrI (by omega) (by omega)
  have w6 : ((hiP (ptsOf b.Tiles)).X - (loP (ptsOf b.Tiles)).X + 1) * ((hiP (ptsOf b.Tiles)).Y - (loP (ptsOf b.Tiles)).Y + 1) = areaI (ptsOf b.Tiles) := rfl
  have d0 : decide ((b.Tiles.length : Int) = 0) = false := by rw [decide_eq_false_iff_not]; omega
  simp -implicitDefEqProofs (disch := omega) only [go_sem, ↓reduceIte, Nat.reduceAdd, Nat.reduceMul, Nat.reduceLeDiff, reduceCtorEq, Nat.reduceEqDiff, Nat.reduceBEq, Nat.reduceBNe, Option.some.injEq , List.length_map, d0]
  refine call_leA (v_l03Points b hn) (by simp -implicitDefEqProofs (disch := omega) only [go_sem, ↓reduceIte, Nat.reduceAdd, Nat.reduceMul, Nat.reduceLeDiff, reduceCtorEq, Nat.reduceEqDiff, Nat.reduceBEq, Nat.reduceBNe, Option.some.injEq, deep, TD.rows, immLL_rI, immLL_rB8, immLL_rS, immLL_rBo, immLL_rII]; exact rfl) (by repeat (first | exact leL_nil | refine leL_cons ?_ ?_ | exact le_of_eq rfl | exact le_slf rfl (by first | rfl | exact TD.rows _ _ _) | refine le_agg ?_ | (refine le_iptrN ?_; simp only [List.drop_succ_cons, List.drop_zero, List.take_succ_cons, List.take_zero, List.take_nil, List.length_cons, List.length_nil, Nat.zero_add, Nat.reduceAdd]) | refine le_iptr ?_ | refine le_fn ?_ ?_)) (by first | exact .inl rfl | exact .inl (by simp only [D.noImm, noImmL, Bool.and_true, Bool.true_and, TD.nims, TD.nim, nim_rI, nim_rB8, nim_rBo, nim_rS])) ?_
  simp -implicitDefEqProofs (disch := omega) only [go_sem, ↓reduceIte, Nat.reduceAdd, Nat.reduceMul, Nat.reduceLeDiff, reduceCtorEq, Nat.reduceEqDiff, Nat.reduceBEq, Nat.reduceBNe, Option.some.injEq]
  refine call_leA (v_l03Bounds (ptsOf b.Tiles) hn' h0') (by simp -implicitDefEqProofs (disch := omega) only [go_sem, ↓reduceIte, Nat.reduceAdd, Nat.reduceMul, Nat.reduceLeDiff, reduceCtorEq, Nat.reduceEqDiff, Nat.reduceBEq, Nat.reduceBNe, Option.some.injEq, deep, TD.rows, immLL_rI, immLL_rB8, immLL_rS, immLL_rBo, immLL_rII, lkF_tup, Point.td_d, w1, w2, w3, w4, w6, w5]; exact rfl) (by repeat (first | exact leL_nil | refine leL_cons ?_ ?_ | exact le_of_eq rfl | exact le_slf rfl (by first | rfl | exact TD.rows _ _ _) | refine le_agg ?_ | (refine le_iptrN ?_; simp only [List.drop_succ_cons, List.drop_zero, List.take_succ_cons, List.take_zero, List.take_nil, List.length_cons, List.length_nil, Nat.zero_add, Nat.reduceAdd]) | refine le_iptr ?_ | refine le_fn ?_ ?_)) (by first | exact .inl rfl | exact .inl (by simp only [D.noImm, noImmL, Bool.and_true, Bool.true_and, TD.nims, TD.nim, nim_rI, nim_rB8, nim_rBo, nim_rS])) ?_
  simp -implicitDefEqProofs (disch := omega) only [go_sem, ↓reduceIte, Nat.reduceAdd, Nat.reduceMul, Nat.reduceLeDiff, reduceCtorEq, Nat.reduceEqDiff, Nat.reduceBEq, Nat.reduceBNe, Option.some.injEq , lkF_tup, Point.td_d, w1, w2, w3, w4, w6, w5]
def DensityOfR (b : Assembly) : Frac := if okForm b.Tiles then (if b.Tiles.length = 0 then ⟨0, 0⟩ else fracN b.Tiles.length (areaI (ptsOf b.Tiles)).toNat) else ⟨0, 0⟩
def DensityOfC (b : Assembly) : Int := if okForm b.Tiles then (if b.Tiles.length = 0 then 3 else 0) else 1
theorem form_len {ps : List Placed} (h : okForm ps = true) : ps.length ≤ 500 := by
  unfold okForm at h
  simp only [Bool.and_eq_true, decide_eq_true_eq] at h
  exact h.1
theorem DensityOfR_ok (b : Assembly) (_ : Assembly.td.ok b) (hn : Assembly.cnt b ≤ 1048576) : Frac.td.ok (DensityOfR b) := by
  unfold DensityOfR
  split
  · rename_i h1
    split
    · exact frac0_ok
    · rename_i h0
      have hl := form_len h1
      have a3 := area_in (form_pts h1) (by rw [pts_len]; omega)
      exact fracN_ok (by omega) (by omega)
  · exact frac0_ok
abbrev mk_spec_DensityOf_0 : List Bool := [false, false, false, false, false, false, false, false, false, false, false, false, true, true, true, true, true, true, true]
abbrev mk_spec_DensityOf_1 : List Bool := [false, false, false, false, false, false, false, false, false, false, false, false, false, true, true, true, true, true, true]
abbrev mk_spec_DensityOf_2 : List Bool := [false, false, false, false, false, false, false, false, false, false, false, false, false, false, true, true, true, true, true]
abbrev mk_spec_DensityOf_3 : List Bool := [false, false, false, false, false, false, false, false, false, false, false, false, false, false, false, false, true, true, true]
abbrev mk_spec_DensityOf_4 : List Bool := [false, false, false, false, false, false, false, false, false, false, false, false, false, false, false, false, false, true, true]
/-- spec.DensityOf -/
def code_spec_DensityOf : VCode := (.seq (.ops [
  ⟨(some 1), none, (.box (.tmp 0))⟩,
  ⟨(some 2), none, (.alloc [(.int .i64 0), (.int .i64 0)])⟩,
  ⟨(some 3), none, (.asg (.const (.int .i64 0)))⟩]) (.seq (.seq (.ops [
  ⟨(some 4), none, (.callX 17 [(.tmp 1)])⟩,
  ⟨(some 5), none, (.un .not (.tmp 4))⟩]) (.cond (.tmp 5) (.seq (.ops [
  ⟨(some 6), none, (.build [(.int .i64 0), (.int .i64 0)] [])⟩,
  ⟨none, none, (.store 2 (.tmp 2) (.tmp 6))⟩,
  ⟨(some 3), none, (.asg (.const (.int .i64 1)))⟩]) .ret) .skip)) (.seq (.seq (.ops [
  ⟨(some 7), none, (.fa 0 (.tmp 1))⟩,
  ⟨(some 8), none, (.load 1 false (.tmp 7))⟩,
  ⟨(some 9), none, (.len (.tmp 8))⟩,
  ⟨(some 10), none, (.bin .eql (.tmp 9) (.const (.int .i64 0)))⟩]) (.cond (.tmp 10) (.seq (.ops [
  ⟨(some 11), none, (.build [(.int .i64 0), (.int .i64 0)] [])⟩,
  ⟨none, none, (.store 2 (.tmp 2) (.tmp 11))⟩,
  ⟨(some 3), none, (.asg (.const (.int .i64 3)))⟩]) .ret) .skip)) (.seq (.draw mk_spec_DensityOf_0 [] [⟨0, mk_spec_DensityOf_0, [], ⟨(some 12), none, (.fa 0 (.tmp 1))⟩⟩, ⟨1, mk_spec_DensityOf_1, [], ⟨(some 13), none, (.load 1 false (.tmp 12))⟩⟩, ⟨2, mk_spec_DensityOf_2, [], ⟨(some 14), none, (.len (.tmp 13))⟩⟩, ⟨3, mk_spec_DensityOf_0, [], ⟨(some 15), none, (.call 19 [(.tmp 1)])⟩⟩, ⟨4, mk_spec_DensityOf_3, [], ⟨(some 16), none, (.call 18 [(.tmp 14), (.tmp 15)])⟩⟩, ⟨5, mk_spec_DensityOf_4, [], ⟨(some 17), none, (.extN (.tmp 16) 0)⟩⟩, ⟨6, mk_spec_DensityOf_4, [], ⟨(some 18), none, (.extN (.tmp 16) 1)⟩⟩] [⟨none, none, (.store 2 (.tmp 2) (.tmp 17))⟩, ⟨(some 3), none, (.asg (.tmp 18))⟩]) .ret))))
theorem law_spec_DensityOf {a0 d : D} (h : code_spec_DensityOf.wp (CT Try.prog NoG) (endQ [(.c 2 2 true), (.t 3)] d) [a0, .undef, .undef, .undef, .undef, .undef, .undef, .undef, .undef, .undef, .undef, .undef, .undef, .undef, .undef, .undef, .undef, .undef, .undef]) : Contract Try.prog NoG 6 [a0] d :=
  contract_of noG Try.func6 (fun us W => by kernel_rfl) (c := Try.f6.body.getD .skip) (ms := []) (ms' := []) (by kernel_rfl) (by kernel_rfl) (by kernel_rfl) h
abbrev mk_impl_DensityOf_0 : List Bool := [false, false, false, false, false, false, false, false, false, false, false, false, false, false, false, true, true, true, true, true, true, true, true]
abbrev mk_impl_DensityOf_1 : List Bool := [false, false, false, false, false, false, false, false, false, false, false, false, false, false, false, false, true, true, true, true, true, true, true]
abbrev mk_impl_DensityOf_2 : List Bool := [false, false, false, false, false, false, false, false, false, false, false, false, false, false, false, false, false, true, true, true, true, true, true]
abbrev mk_impl_DensityOf_3 : List Bool := [false, false, false, false, false, false, false, false, false, false, false, false, false, false, false, true, true, true, false, true, true, true, true]
abbrev mk_impl_DensityOf_4 : List Bool := [false, false, false, false, false, false, false, false, false, false, false, false, false, false, false, false, false, false, false, false, true, true, true]
abbrev mk_impl_DensityOf_5 : List Bool := [false, false, false, false, false, false, false, false, false, false, false, false, false, false, false, false, false, false, false, false, false, true, true]
/-- impl.DensityOf -/
def code_impl_DensityOf : VCode := (.seq (.ops [
  ⟨(some 1), none, (.box (.tmp 0))⟩,
  ⟨(some 2), none, (.alloc [(.int .i64 0), (.int .i64 0)])⟩,
  ⟨(some 3), none, (.asg (.const (.int .i64 0)))⟩]) (.seq (.block 0 (.seq (.ops [
  ⟨(some 5), none, (.load 1 true (.tmp 1))⟩,
  ⟨(some 6), none, (.callX 21 [(.tmp 5)])⟩,
  ⟨(some 7), none, (.un .not (.tmp 6))⟩,
  ⟨(some 4), none, (.asg (.tmp 7))⟩]) (.cond (.tmp 4) (.seq (.ops [
  ⟨(some 8), none, (.build [(.int .i64 0), (.int .i64 0)] [])⟩,
  ⟨none, none, (.store 2 (.tmp 2) (.tmp 8))⟩,
  ⟨(some 3), none, (.asg (.const (.int .i64 1)))⟩]) .ret) (.seq (.ops [
  ⟨(some 10), none, (.fa 0 (.tmp 1))⟩,
  ⟨(some 11), none, (.load 1 false (.tmp 10))⟩,
  ⟨(some 12), none, (.len (.tmp 11))⟩,
  ⟨(some 13), none, (.bin .eql (.tmp 12) (.const (.int .i64 0)))⟩,
  ⟨(some 9), none, (.asg (.tmp 13))⟩]) (.cond (.tmp 9) (.seq (.ops [
  ⟨(some 14), none, (.build [(.int .i64 0), (.int .i64 0)] [])⟩,
  ⟨none, none, (.store 2 (.tmp 2) (.tmp 14))⟩,
  ⟨(some 3), none, (.asg (.const (.int .i64 3)))⟩]) .ret) .skip))))) (.seq (.draw mk_impl_DensityOf_0 [] [⟨0, mk_impl_DensityOf_0, [], ⟨(some 15), none, (.fa 0 (.tmp 1))⟩⟩, ⟨1, mk_impl_DensityOf_1, [], ⟨(some 16), none, (.load 1 false (.tmp 15))⟩⟩, ⟨2, mk_impl_DensityOf_2, [], ⟨(some 17), none, (.len (.tmp 16))⟩⟩, ⟨3, mk_impl_DensityOf_0, [], ⟨(some 18), none, (.load 1 true (.tmp 1))⟩⟩, ⟨4, mk_impl_DensityOf_3, [], ⟨(some 19), none, (.call 23 [(.tmp 18)])⟩⟩, ⟨5, mk_impl_DensityOf_4, [], ⟨(some 20), none, (.call 22 [(.tmp 17), (.tmp 19)])⟩⟩, ⟨6, mk_impl_DensityOf_5, [], ⟨(some 21), none, (.extN (.tmp 20) 0)⟩⟩, ⟨7, mk_impl_DensityOf_5, [], ⟨(some 22), none, (.extN (.tmp 20) 1)⟩⟩] [⟨none, none, (.store 2 (.tmp 2) (.tmp 21))⟩, ⟨(some 3), none, (.asg (.tmp 22))⟩]) .ret)))
theorem law_impl_DensityOf {a0 d : D} (h : code_impl_DensityOf.wp (CT Try.prog NoG) (endQ [(.c 2 2 true), (.t 3)] d) [a0, .undef, .undef, .undef, .undef, .undef, .undef, .undef, .undef, .undef, .undef, .undef, .undef, .undef, .undef, .undef, .undef, .undef, .undef, .undef, .undef, .undef, .undef]) : Contract Try.prog NoG 8 [a0] d :=
  contract_of noG Try.func8 (fun us W => by kernel_rfl) (c := Try.f8.body.getD .skip) (ms := []) (ms' := []) (by kernel_rfl) (by kernel_rfl) (by kernel_rfl) h
theorem vDensityOf_spec (q_aA : Assembly) (q_aA_ok : Assembly.td.ok q_aA) (q_aA_n : Assembly.cnt q_aA ≤ 1048576) : Contract Try.prog NoG 6 [.agg (Assembly.td.d false q_aA)] (.tup [.agg (Frac.td.d true (DensityOfR q_aA)), .v (.int .i64 (DensityOfC q_aA))]) := by
  have hn := asm_len q_aA_n
  rw [Assembly.td_d, Frac.td_d]
  refine law_spec_DensityOf ?_
  unfold code_spec_DensityOf
  simp -implicitDefEqProofs (disch := omega) only [go_sem, ↓reduceIte, Nat.reduceAdd, Nat.reduceMul, Nat.reduceLeDiff, reduceCtorEq, Nat.reduceEqDiff, Nat.reduceBEq, Nat.reduceBNe, Option.some.injEq]
  cases h1 : okForm q_aA.Tiles with
  | false =>
    refine call_leA (v_l03Form q_aA hn) (by simp -implicitDefEqProofs (disch := omega) only [go_sem, ↓reduceIte, Nat.reduceAdd, Nat.reduceMul, Nat.reduceLeDiff, reduceCtorEq, Nat.reduceEqDiff, Nat.reduceBEq, Nat.reduceBNe, Option.some.injEq, deep, TD.rows, immLL_rI, immLL_rB8, immLL_rS, immLL_rBo, immLL_rII, h1, DensityOfR, DensityOfC]; exact rfl) (by repeat (first | exact leL_nil | refine leL_cons ?_ ?_ | exact le_of_eq rfl | exact le_slf rfl (by first | rfl | exact TD.rows _ _ _) | refine le_agg ?_ | (refine le_iptrN ?_; simp only [List.drop_succ_cons, List.drop_zero, List.take_succ_cons, List.take_zero, List.take_nil, List.length_cons, List.length_nil, Nat.zero_add, Nat.reduceAdd]) | refine le_iptr ?_ | refine le_fn ?_ ?_)) (by first | exact .inl rfl | exact .inl (by simp only [D.noImm, noImmL, Bool.and_true, Bool.true_and, TD.nims, TD.nim, nim_rI, nim_rB8, nim_rBo, nim_rS])) ?_
    simp -implicitDefEqProofs (disch := omega) only [go_sem, ↓reduceIte, Nat.reduceAdd, Nat.reduceMul, Nat.reduceLeDiff, reduceCtorEq, Nat.reduceEqDiff, Nat.reduceBEq, Nat.reduceBNe, Option.some.injEq , h1, DensityOfR, DensityOfC]
  | true =>
  have hl := form_len h1
  by_cases h0 : q_aA.Tiles.length = 0
  · have d0 : decide ((q_aA.Tiles.length : Int) = 0) = true := by rw [decide_eq_true_eq]; omega
    have r1 : DensityOfR q_aA = ⟨0, 0⟩ := by unfold DensityOfR; rw [if_pos h1, if_pos h0]
    have r2 : DensityOfC q_aA = 3 := by unfold DensityOfC; rw [if_pos h1, if_pos h0]
    refine call_leA (v_l03Form q_aA hn) (by simp -implicitDefEqProofs (disch := omega) only [go_sem, ↓reduceIte, Nat.reduceAdd, Nat.reduceMul, Nat.reduceLeDiff, reduceCtorEq, Nat.reduceEqDiff, Nat.reduceBEq, Nat.reduceBNe, Option.some.injEq, deep, TD.rows, immLL_rI, immLL_rB8, immLL_rS, immLL_rBo, immLL_rII, h1, List.length_map, d0, r1, r2]; exact rfl) (by repeat (first | exact leL_nil | refine leL_cons ?_ ?_ | exact le_of_eq rfl | exact le_slf rfl (by first | rfl | exact TD.rows _ _ _) | refine le_agg ?_ | (refine le_iptrN ?_; simp only [List.drop_succ_cons, List.drop_zero, List.take_succ_cons, List.take_zero, List.take_nil, List.length_cons, List.length_nil, Nat.zero_add, Nat.reduceAdd]) | refine le_iptr ?_ | refine le_fn ?_ ?_)) (by first | exact .inl rfl | exact .inl (by simp only [D.noImm, noImmL, Bool.and_true, Bool.true_and, TD.nims, TD.nim, nim_rI, nim_rB8, nim_rBo, nim_rS])) ?_
    simp -implicitDefEqProofs (disch := omega) only [go_sem, ↓reduceIte, Nat.reduceAdd, Nat.reduceMul, Nat.reduceLeDiff, reduceCtorEq, Nat.reduceEqDiff, Nat.reduceBEq, Nat.reduceBNe, Option.some.injEq , h1, List.length_map, d0, r1, r2]
  · have d0 : decide ((q_aA.Tiles.length : Int) = 0) = false := by rw [decide_eq_false_iff_not]; omega
    have a3 := area_in (form_pts h1) (by rw [pts_len]; omega)
    obtain ⟨n, hn2⟩ : ∃ n : Nat, areaI (ptsOf q_aA.Tiles) = (n : Int) := ⟨(areaI (ptsOf q_aA.Tiles)).toNat, by omega⟩
    refine call_leA (v_l03Form q_aA hn) (by simp -implicitDefEqProofs (disch := omega) only [go_sem, ↓reduceIte, Nat.reduceAdd, Nat.reduceMul, Nat.reduceLeDiff, reduceCtorEq, Nat.reduceEqDiff, Nat.reduceBEq, Nat.reduceBNe, Option.some.injEq, deep, TD.rows, immLL_rI, immLL_rB8, immLL_rS, immLL_rBo, immLL_rII, h1, List.length_map, d0]; exact rfl) (by repeat (first | exact leL_nil | refine leL_cons ?_ ?_ | exact le_of_eq rfl | exact le_slf rfl (by first | rfl | exact TD.rows _ _ _) | refine le_agg ?_ | (refine le_iptrN ?_; simp only [List.drop_succ_cons, List.drop_zero, List.take_succ_cons, List.take_zero, List.take_nil, List.length_cons, List.length_nil, Nat.zero_add, Nat.reduceAdd]) | refine le_iptr ?_ | refine le_fn ?_ ?_)) (by first | exact .inl rfl | exact .inl (by simp only [D.noImm, noImmL, Bool.and_true, Bool.true_and, TD.nims, TD.nim, nim_rI, nim_rB8, nim_rBo, nim_rS])) ?_
    simp -implicitDefEqProofs (disch := omega) only [go_sem, ↓reduceIte, Nat.reduceAdd, Nat.reduceMul, Nat.reduceLeDiff, reduceCtorEq, Nat.reduceEqDiff, Nat.reduceBEq, Nat.reduceBNe, Option.some.injEq , h1, List.length_map, d0]
    refine call_leNA (v_l34Area q_aA h1 (by omega) hn) (by simp -implicitDefEqProofs (disch := omega) only [go_sem, ↓reduceIte, Nat.reduceAdd, Nat.reduceMul, Nat.reduceLeDiff, reduceCtorEq, Nat.reduceEqDiff, Nat.reduceBEq, Nat.reduceBNe, Option.some.injEq, deep, TD.rows, immLL_rI, immLL_rB8, immLL_rS, immLL_rBo, immLL_rII, hn2]; exact rfl) (by repeat (first | exact leL_nil | refine leL_cons ?_ ?_ | exact le_of_eq rfl | exact le_slf rfl (by first | rfl | exact TD.rows _ _ _) | refine le_agg ?_ | (refine le_iptrN ?_; simp only [List.drop_succ_cons, List.drop_zero, List.take_succ_cons, List.take_zero, List.take_nil, List.length_cons, List.length_nil, Nat.zero_add, Nat.reduceAdd]) | refine le_iptr ?_ | refine le_fn ?_ ?_)) (by first | exact .inl rfl | exact .inl (by simp only [D.noImm, noImmL, Bool.and_true, Bool.true_and, TD.nims, TD.nim, nim_rI, nim_rB8, nim_rBo, nim_rS])) ?_
    simp -implicitDefEqProofs (disch := omega) only [go_sem, ↓reduceIte, Nat.reduceAdd, Nat.reduceMul, Nat.reduceLeDiff, reduceCtorEq, Nat.reduceEqDiff, Nat.reduceBEq, Nat.reduceBNe, Option.some.injEq , hn2]
    refine call_leNA (v_l01Make q_aA.Tiles.length n (by omega) (by omega) (by omega)) (by simp -implicitDefEqProofs (disch := omega) only [go_sem, ↓reduceIte, Nat.reduceAdd, Nat.reduceMul, Nat.reduceLeDiff, reduceCtorEq, Nat.reduceEqDiff, Nat.reduceBEq, Nat.reduceBNe, Option.some.injEq, deep, TD.rows, immLL_rI, immLL_rB8, immLL_rS, immLL_rBo, immLL_rII, Frac.td_d, DensityOfR, DensityOfC, h1, h0, hn2, Int.toNat_natCast]; exact rfl) (by repeat (first | exact leL_nil | refine leL_cons ?_ ?_ | exact le_of_eq rfl | exact le_slf rfl (by first | rfl | exact TD.rows _ _ _) | refine le_agg ?_ | (refine le_iptrN ?_; simp only [List.drop_succ_cons, List.drop_zero, List.take_succ_cons, List.take_zero, List.take_nil, List.length_cons, List.length_nil, Nat.zero_add, Nat.reduceAdd]) | refine le_iptr ?_ | refine le_fn ?_ ?_)) (by first | exact .inl rfl | exact .inl (by simp only [D.noImm, noImmL, Bool.and_true, Bool.true_and, TD.nims, TD.nim, nim_rI, nim_rB8, nim_rBo, nim_rS])) ?_
    simp -implicitDefEqProofs (disch := omega) only [go_sem, ↓reduceIte, Nat.reduceAdd, Nat.reduceMul, Nat.reduceLeDiff, reduceCtorEq, Nat.reduceEqDiff, Nat.reduceBEq, Nat.reduceBNe, Option.some.injEq , Frac.td_d, DensityOfR, DensityOfC, h1, h0, hn2, Int.toNat_natCast]
theorem vDensityOf_impl (q_aA : Assembly) (q_aA_ok : Assembly.td.ok q_aA) (q_aA_n : Assembly.cnt q_aA ≤ 1048576) : Contract Try.prog NoG 8 [.agg (Assembly.td.d false q_aA)] (.tup [.agg (Frac.td.d true (DensityOfR q_aA)), .v (.int .i64 (DensityOfC q_aA))]) := by
  have hn := asm_len q_aA_n
  rw [Assembly.td_d, Frac.td_d]
  refine law_impl_DensityOf ?_
  unfold code_impl_DensityOf
  simp -implicitDefEqProofs (disch := omega) only [go_sem, ↓reduceIte, Nat.reduceAdd, Nat.reduceMul, Nat.reduceLeDiff, reduceCtorEq, Nat.reduceEqDiff, Nat.reduceBEq, Nat.reduceBNe, Option.some.injEq]
  cases h1 : okForm q_aA.Tiles with
  | false =>
    refine call_leA (v_hasForm q_aA hn) (by simp -implicitDefEqProofs (disch := omega) only [go_sem, ↓reduceIte, Nat.reduceAdd, Nat.reduceMul, Nat.reduceLeDiff, reduceCtorEq, Nat.reduceEqDiff, Nat.reduceBEq, Nat.reduceBNe, Option.some.injEq, deep, TD.rows, immLL_rI, immLL_rB8, immLL_rS, immLL_rBo, immLL_rII, h1, DensityOfR, DensityOfC]; exact rfl) (by repeat (first | exact leL_nil | refine leL_cons ?_ ?_ | exact le_of_eq rfl | exact le_slf rfl (by first | rfl | exact TD.rows _ _ _) | refine le_agg ?_ | (refine le_iptrN ?_; simp only [List.drop_succ_cons, List.drop_zero, List.take_succ_cons, List.take_zero, List.take_nil, List.length_cons, List.length_nil, Nat.zero_add, Nat.reduceAdd]) | refine le_iptr ?_ | refine le_fn ?_ ?_)) (by first | exact .inl rfl | exact .inl (by simp only [D.noImm, noImmL, Bool.and_true, Bool.true_and, TD.nims, TD.nim, nim_rI, nim_rB8, nim_rBo, nim_rS])) ?_
    simp -implicitDefEqProofs (disch := omega) only [go_sem, ↓reduceIte, Nat.reduceAdd, Nat.reduceMul, Nat.reduceLeDiff, reduceCtorEq, Nat.reduceEqDiff, Nat.reduceBEq, Nat.reduceBNe, Option.some.injEq , h1, DensityOfR, DensityOfC]
  | true =>
  have hl := form_len h1
  by_cases h0 : q_aA.Tiles.length = 0
  · have d0 : decide ((q_aA.Tiles.length : Int) = 0) = true := by rw [decide_eq_true_eq]; omega
    have r1 : DensityOfR q_aA = ⟨0, 0⟩ := by unfold DensityOfR; rw [if_pos h1, if_pos h0]
    have r2 : DensityOfC q_aA = 3 := by unfold DensityOfC; rw [if_pos h1, if_pos h0]
    refine call_leA (v_hasForm q_aA hn) (by simp -implicitDefEqProofs (disch := omega) only [go_sem, ↓reduceIte, Nat.reduceAdd, Nat.reduceMul, Nat.reduceLeDiff, reduceCtorEq, Nat.reduceEqDiff, Nat.reduceBEq, Nat.reduceBNe, Option.some.injEq, deep, TD.rows, immLL_rI, immLL_rB8, immLL_rS, immLL_rBo, immLL_rII, h1, List.length_map, d0, r1, r2]; exact rfl) (by repeat (first | exact leL_nil | refine leL_cons ?_ ?_ | exact le_of_eq rfl | exact le_slf rfl (by first | rfl | exact TD.rows _ _ _) | refine le_agg ?_ | (refine le_iptrN ?_; simp only [List.drop_succ_cons, List.drop_zero, List.take_succ_cons, List.take_zero, List.take_nil, List.length_cons, List.length_nil, Nat.zero_add, Nat.reduceAdd]) | refine le_iptr ?_ | refine le_fn ?_ ?_)) (by first | exact .inl rfl | exact .inl (by simp only [D.noImm, noImmL, Bool.and_true, Bool.true_and, TD.nims, TD.nim, nim_rI, nim_rB8, nim_rBo, nim_rS])) ?_
    simp -implicitDefEqProofs (disch := omega) only [go_sem, ↓reduceIte, Nat.reduceAdd, Nat.reduceMul, Nat.reduceLeDiff, reduceCtorEq, Nat.reduceEqDiff, Nat.reduceBEq, Nat.reduceBNe, Option.some.injEq , h1, List.length_map, d0, r1, r2]
  · have d0 : decide ((q_aA.Tiles.length : Int) = 0) = false := by rw [decide_eq_false_iff_not]; omega
    have a3 := area_in (form_pts h1) (by rw [pts_len]; omega)
    obtain ⟨n, hn2⟩ : ∃ n : Nat, areaI (ptsOf q_aA.Tiles) = (n : Int) := ⟨(areaI (ptsOf q_aA.Tiles)).toNat, by omega⟩
    refine call_leA (v_hasForm q_aA hn) (by simp -implicitDefEqProofs (disch := omega) only [go_sem, ↓reduceIte, Nat.reduceAdd, Nat.reduceMul, Nat.reduceLeDiff, reduceCtorEq, Nat.reduceEqDiff, Nat.reduceBEq, Nat.reduceBNe, Option.some.injEq, deep, TD.rows, immLL_rI, immLL_rB8, immLL_rS, immLL_rBo, immLL_rII, h1, List.length_map, d0]; exact rfl) (by repeat (first | exact leL_nil | refine leL_cons ?_ ?_ | exact le_of_eq rfl | exact le_slf rfl (by first | rfl | exact TD.rows _ _ _) | refine le_agg ?_ | (refine le_iptrN ?_; simp only [List.drop_succ_cons, List.drop_zero, List.take_succ_cons, List.take_zero, List.take_nil, List.length_cons, List.length_nil, Nat.zero_add, Nat.reduceAdd]) | refine le_iptr ?_ | refine le_fn ?_ ?_)) (by first | exact .inl rfl | exact .inl (by simp only [D.noImm, noImmL, Bool.and_true, Bool.true_and, TD.nims, TD.nim, nim_rI, nim_rB8, nim_rBo, nim_rS])) ?_
    simp -implicitDefEqProofs (disch := omega) only [go_sem, ↓reduceIte, Nat.reduceAdd, Nat.reduceMul, Nat.reduceLeDiff, reduceCtorEq, Nat.reduceEqDiff, Nat.reduceBEq, Nat.reduceBNe, Option.some.injEq , h1, List.length_map, d0]
    refine call_leNA (v_area q_aA h1 (by omega) hn) (by simp -implicitDefEqProofs (disch := omega) only [go_sem, ↓reduceIte, Nat.reduceAdd, Nat.reduceMul, Nat.reduceLeDiff, reduceCtorEq, Nat.reduceEqDiff, Nat.reduceBEq, Nat.reduceBNe, Option.some.injEq, deep, TD.rows, immLL_rI, immLL_rB8, immLL_rS, immLL_rBo, immLL_rII, hn2]; exact rfl) (by repeat (first | exact leL_nil | refine leL_cons ?_ ?_ | exact le_of_eq rfl | exact le_slf rfl (by first | rfl | exact TD.rows _ _ _) | refine le_agg ?_ | (refine le_iptrN ?_; simp only [List.drop_succ_cons, List.drop_zero, List.take_succ_cons, List.take_zero, List.take_nil, List.length_cons, List.length_nil, Nat.zero_add, Nat.reduceAdd]) | refine le_iptr ?_ | refine le_fn ?_ ?_)) (by first | exact .inl rfl | exact .inl (by simp only [D.noImm, noImmL, Bool.and_true, Bool.true_and, TD.nims, TD.nim, nim_rI, nim_rB8, nim_rBo, nim_rS])) ?_
    simp -implicitDefEqProofs (disch := omega) only [go_sem, ↓reduceIte, Nat.reduceAdd, Nat.reduceMul, Nat.reduceLeDiff, reduceCtorEq, Nat.reduceEqDiff, Nat.reduceBEq, Nat.reduceBNe, Option.some.injEq , hn2]
    refine call_leNA (v_MakeFrac q_aA.Tiles.length n (by omega) (by omega) (by omega)) (by simp -implicitDefEqProofs (disch := omega) only [go_sem, ↓reduceIte, Nat.reduceAdd, Nat.reduceMul, Nat.reduceLeDiff, reduceCtorEq, Nat.reduceEqDiff, Nat.reduceBEq, Nat.reduceBNe, Option.some.injEq, deep, TD.rows, immLL_rI, immLL_rB8, immLL_rS, immLL_rBo, immLL_rII, Frac.td_d, DensityOfR, DensityOfC, h1, h0, hn2, Int.toNat_natCast]; exact rfl) (by repeat (first | exact leL_nil | refine leL_cons ?_ ?_ | exact le_of_eq rfl | exact le_slf rfl (by first | rfl | exact TD.rows _ _ _) | refine le_agg ?_ | (refine le_iptrN ?_; simp only [List.drop_succ_cons, List.drop_zero, List.take_succ_cons, List.take_zero, List.take_nil, List.length_cons, List.length_nil, Nat.zero_add, Nat.reduceAdd]) | refine le_iptr ?_ | refine le_fn ?_ ?_)) (by first | exact .inl rfl | exact .inl (by simp only [D.noImm, noImmL, Bool.and_true, Bool.true_and, TD.nims, TD.nim, nim_rI, nim_rB8, nim_rBo, nim_rS])) ?_
    simp -implicitDefEqProofs (disch := omega) only [go_sem, ↓reduceIte, Nat.reduceAdd, Nat.reduceMul, Nat.reduceLeDiff, reduceCtorEq, Nat.reduceEqDiff, Nat.reduceBEq, Nat.reduceBNe, Option.some.injEq , Frac.td_d, DensityOfR, DensityOfC, h1, h0, hn2, Int.toNat_natCast]
end Go.Proofs.Ytlblmbhaakjcaaa
