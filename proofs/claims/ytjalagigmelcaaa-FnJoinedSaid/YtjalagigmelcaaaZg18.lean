/- Laws that the proof stands on. -/
import Derived.Test.YtjalagigmelcaaaZVSortPl
import Derived.Test.YtjalagigmelcaaaZg12
import Derived.Test.YtjalagigmelcaaaZVJoinP
import Derived.Test.YtjalagigmelcaaaZg10
import Derived.Test.YtjalagigmelcaaaZg15
set_option linter.all false
namespace Go.Proofs.Ytjalagigmelcaaa
open Go.RowKit Go.V
attribute [local go_sem] List.getElem?_cons_succ List.getElem?_cons_zero List.set_cons_succ List.set_cons_zero List.map_cons List.map_nil List.length_cons List.length_nil List.all_cons List.all_nil List.drop_succ_cons List.drop_zero List.take_succ_cons List.take_zero List.flatMap_cons List.flatMap_nil List.cons_append List.nil_append List.append_nil List.headD_cons Value.oneCell' Bool.and_true Bool.true_and Bool.or_false Bool.false_or Bool.and_self Bool.not_true Bool.not_false and_true true_and beq_self_eq_true Bool.false_eq_true if_true if_false Nat.zero_add Nat.reduceAdd Nat.reduceMul Nat.reduceLeDiff Nat.le_refl Option.isSome_some Option.isSome_none not_true_eq_false not_false_eq_true ne_eq reduceCtorEq List.reverse_nil bne_self_eq_false Nat.reduceEqDiff List.isPrefixOf Bool.not_eq_true Bool.and_false Bool.false_and Bool.true_or Bool.or_true decide_true decide_false Nat.reduceBEq Nat.reduceBNe List.replicate_succ List.replicate_zero exists_eq_left' exists_eq_left Option.some.injEq or_false or_true true_or false_or Option.map_some Option.map_none mB Nat.reduceMod Nat.reduceDiv
set_option maxRecDepth 100000
def code_impl_assemblyOf : VCode := (.seq (.ops [
  ⟨(some 2), none, (.alloc [(.slice none 0 0)])⟩]) (.seq (.ops [
  ⟨(some 4), none, (.mv (.tmp 0))⟩,
  ⟨(some 5), none, (.callX 40 [(.tmp 4)])⟩,
  ⟨(some 3), none, (.asg (.tmp 5))⟩]) (.seq (.ops [
  ⟨(some 6), none, (.mv (.tmp 3))⟩,
  ⟨(some 7), none, (.callX 52 [(.tmp 6), (.func 53)])⟩]) (.seq (.ops [
  ⟨(some 8), none, (.mv (.tmp 3))⟩,
  ⟨(some 9), none, (.build [(.slice none 0 0)] [(0, 1, (.tmp 8))])⟩,
  ⟨none, none, (.store 1 (.tmp 2) (.tmp 9))⟩]) .ret))))
theorem law_impl_assemblyOf {a0 d : D} (h : code_impl_assemblyOf.wp (CT Try.prog NoG) (endQ [(.c 2 1 true)] d) [a0, .undef, .undef, .undef, .undef, .undef, .undef, .undef, .undef, .undef]) : Contract Try.prog NoG 41 [a0] d :=
  contract_of (pt := 0) noG Try.func41 (fun us W => by kernel_rfl) (c := Try.f41.body.getD .skip) (ms := []) (ms' := []) (by kernel_rfl) (by kernel_rfl) (by kernel_rfl) h
def code_impl_joined : VCode := (.seq (.ops [
  ⟨(some 2), none, (.box (.tmp 0))⟩,
  ⟨(some 3), none, (.box (.tmp 1))⟩,
  ⟨(some 4), none, (.alloc [(.slice none 0 0)])⟩,
  ⟨(some 5), none, (.asg (.const (.bool false)))⟩]) (.seq (.ops [
  ⟨(some 10), none, (.fa 0 (.tmp 2))⟩,
  ⟨(some 11), none, (.load 1 false (.tmp 10))⟩,
  ⟨(some 12), none, (.callX 40 [(.tmp 11)])⟩,
  ⟨(some 6), none, (.asg (.tmp 12))⟩]) (.seq (.seq (.ops [
  ⟨(some 13), none, (.fa 0 (.tmp 3))⟩,
  ⟨(some 14), none, (.load 1 false (.tmp 13))⟩,
  ⟨(some 15), none, (.len (.tmp 14))⟩,
  ⟨(some 16), none, (.mv (.const (.int .i64 0)))⟩]) (.block 0 (.loop (mB 40 1097766667171) (.seq (.ops [
  ⟨(some 17), none, (.bin .lss (.tmp 16) (.tmp 15))⟩]) (.seq (.cond (.tmp 17) .skip (.exit 0)) (.seq (.block 1 (.seq (.ops [
  ⟨(some 18), none, (.ia 3 (.tmp 14) (.tmp 16))⟩,
  ⟨(some 19), none, (.load 3 true (.tmp 18))⟩,
  ⟨(some 8), none, (.alloc [(.int .i64 0), (.int .i64 0), (.int .i64 0)])⟩,
  ⟨none, none, (.store 3 (.tmp 8) (.tmp 19))⟩]) (.seq (.ops [
  ⟨(some 20), none, (.load 1 true (.tmp 2))⟩,
  ⟨(some 21), none, (.fa 0 (.tmp 8))⟩,
  ⟨(some 22), none, (.load 2 true (.tmp 21))⟩,
  ⟨(some 23), none, (.callX 30 [(.tmp 20), (.tmp 22)])⟩,
  ⟨(some 9), none, (.asg (.tmp 23))⟩]) (.block 2 (.seq (.ops [
  ⟨(some 25), none, (.mv (.tmp 9))⟩,
  ⟨(some 26), none, (.bin .lss (.tmp 25) (.const (.int .i64 0)))⟩,
  ⟨(some 24), none, (.asg (.tmp 26))⟩]) (.cond (.tmp 24) (.ops [
  ⟨(some 27), none, (.mv (.tmp 6))⟩,
  ⟨(some 28), none, (.load 3 true (.tmp 8))⟩,
  ⟨(some 29), none, (.bsl 3 [(.tmp 28)])⟩,
  ⟨(some 30), none, (.app 3 24 (.tmp 27) (.tmp 29))⟩,
  ⟨(some 6), none, (.asg (.tmp 30))⟩]) (.seq (.ops [
  ⟨(some 32), none, (.mv (.tmp 9))⟩,
  ⟨(some 33), none, (.fa 2 (.tmp 8))⟩,
  ⟨(some 34), none, (.load 1 false (.tmp 33))⟩,
  ⟨(some 35), none, (.bin .neq (.tmp 32) (.tmp 34))⟩,
  ⟨(some 31), none, (.asg (.tmp 35))⟩]) (.cond (.tmp 31) (.seq (.ops [
  ⟨(some 36), none, (.build [(.slice none 0 0)] [])⟩,
  ⟨none, none, (.store 1 (.tmp 4) (.tmp 36))⟩,
  ⟨(some 5), none, (.asg (.const (.bool false)))⟩]) .ret) .skip)))))))) (.ops [
  ⟨(some 37), none, (.bin .add (.tmp 16) (.const (.int .i64 1)))⟩,
  ⟨(some 16), none, (.mv (.tmp 37))⟩]))))))) (.seq (.ops [
  ⟨(some 38), none, (.mv (.tmp 6))⟩,
  ⟨(some 39), none, (.callX 41 [(.tmp 38)])⟩,
  ⟨none, none, (.store 1 (.tmp 4) (.tmp 39))⟩,
  ⟨(some 5), none, (.asg (.const (.bool true)))⟩]) .ret))))
theorem law_impl_joined {a0 a1 d : D} (h : code_impl_joined.wp (CT Try.prog NoG) (endQ [(.c 4 1 true), (.t 5)] d) [a0, a1, .undef, .undef, .undef, .undef, .undef, .undef, .undef, .undef, .undef, .undef, .undef, .undef, .undef, .undef, .undef, .undef, .undef, .undef, .undef, .undef, .undef, .undef, .undef, .undef, .undef, .undef, .undef, .undef, .undef, .undef, .undef, .undef, .undef, .undef, .undef, .undef, .undef, .undef]) : Contract Try.prog NoG 23 [a0, a1] d :=
  contract_of (pt := 0) noG Try.func23 (fun us W => by kernel_rfl) (c := Try.f23.body.getD .skip) (ms := [(mB 40 1097766667171)]) (ms' := []) (by kernel_rfl) (by kernel_rfl) (by kernel_rfl) h
theorem v_assemblyOf (xs : List Placed) (hl : xs.length ≤ 1048576) (hx : xs.Pairwise (fun x y => x.At ≠ y.At)) : Contract Try.prog NoG 41 [.sl false 3 (xs.map (Placed.td.d false))] (.agg (Assembly.td.d true ⟨sortJ xs⟩)) := by rw [Assembly.td_d]; refine law_impl_assemblyOf ?_; unfold code_impl_assemblyOf; simp -implicitDefEqProofs (disch := omega) only [go_sem, ↓reduceIte]; refine call_B (v_Clone_Placed xs hl) (by simp -implicitDefEqProofs (disch := omega) only [go_sem, ↓reduceIte, deep, TD.rows, immLL_rI, immLL_rB8, immLL_rS, immLL_rBo, immLL_rII, immLL_rIIt]; exact rfl) ?_; simp -implicitDefEqProofs (disch := omega) only [go_sem, ↓reduceIte]; refine call_sortS (r := 3) (v_SortPl xs hl hx) rfl rfl rfl rfl ?_; simp -implicitDefEqProofs (disch := omega) only [go_sem, ↓reduceIte]
def joinR (us vs : List Placed) : Option (List Placed) := if vs.any (clashJ us) then none else some (sortJ (us ++ newJ us vs))
theorem newJ_snoc (us vs : List Placed) (t : Placed) : newJ us (vs ++ [t]) = newJ us vs ++ (if tileA us t.At < 0 then [t] else []) := by unfold newJ; rw [List.filter_append]; congr 1; by_cases h : tileA us t.At < 0 <;> simp [h]
theorem form_strict {ps : List Placed} (h : okForm ps = true) : strictP ps ∧ ps.length ≤ 500 ∧ ∀ x, x ∈ ps → 0 ≤ x.Tile ∧ x.Tile ≤ 159 := by
  unfold okForm at h; rw [Bool.and_eq_true, decide_eq_true_eq] at h; have hk : ∀ i, i < ps.length → okP ps i = true := fun i hi => List.all_eq_true.1 h.2 i (List.mem_range.2 hi); have h1 : ∀ i (hi : i + 1 < ps.length), lessP ps[i].At ps[i + 1].At = true := fun i hi => by have := hk (i + 1) hi; rw [okP_succ hi] at this; simp only [Bool.and_eq_true] at this; exact this.2.2
  have h2 : ∀ d i (hi : i + d + 1 < ps.length), lessP ps[i].At ps[i + d + 1].At = true := fun d => by
    induction d with
    | zero => intro i hi; exact h1 i hi
    | succ d ih => intro i hi; exact less_tr (ih i (by omega)) (h1 (i + d + 1) (by omega))
  refine ⟨List.pairwise_iff_getElem.2 fun i j hi hj hij => ?_, h.1, fun x hx => ?_⟩
  · have := h2 (j - i - 1) i (by omega); have e : i + (j - i - 1) + 1 = j := (by omega); simpa only [e] using this
  · obtain ⟨i, hi, rfl⟩ := List.getElem_of_mem hx; have := hk i hi; cases i with
    | zero => rw [okP_zero hi] at this; simp only [Bool.and_eq_true, inR, decide_eq_true_eq] at this; omega
    | succ i => rw [okP_succ hi] at this; simp only [Bool.and_eq_true, inR, decide_eq_true_eq] at this; omega
theorem join_dis {us vs : List Placed} (ha : strictP us) (hb : strictP vs) (hp : ∀ x, x ∈ us → 0 ≤ x.Tile) : (us ++ newJ us vs).Pairwise (fun x y => x.At ≠ y.At) := by
  refine List.pairwise_append.2 ⟨ha.imp (fun h e => by rw [e, less_irr] at h; cases h), ?_, fun x hx y hy => ?_⟩
  · exact List.Pairwise.sublist List.filter_sublist (hb.imp (fun h e => by rw [e, less_irr] at h; cases h))
  · intro e; have h1 := (atP_yes ha hx).2; have h2 := hp x hx; have h3 := (List.mem_filter.1 hy).2; rw [← e, h1] at h3; simp only [decide_eq_true_eq] at h3; omega
set_option maxHeartbeats 1000000 in
theorem v_joined (a b : Assembly) (ha : okForm a.Tiles = true) (hb : okForm b.Tiles = true) : Contract Try.prog NoG 23 [.agg (Assembly.td.d false a), .agg (Assembly.td.d false b)] (.tup [.agg [.sl true 3 (((joinR a.Tiles b.Tiles).getD []).map (Placed.td.d true))], .v (.bool (joinR a.Tiles b.Tiles).isSome)]) := by
  obtain ⟨sa, la, pa⟩ := form_strict ha; obtain ⟨sb, lb, _⟩ := form_strict hb; have hdis := join_dis sa sb (fun x hx => (pa x hx).1); have hlen : (newJ a.Tiles b.Tiles).length ≤ b.Tiles.length := List.length_filter_le _ _; have hs0 : a.Tiles ++ newJ a.Tiles (List.take 0 b.Tiles) = a.Tiles := List.append_nil _; simp only [Assembly.td_d]; refine law_impl_joined ?_; unfold code_impl_joined; simp -implicitDefEqProofs (disch := omega) only [go_sem, ↓reduceIte]; refine call_B (v_Clone_Placed a.Tiles (by omega)) (by simp -implicitDefEqProofs (disch := omega) only [go_sem, ↓reduceIte, deep, TD.rows, immLL_rI, immLL_rB8, immLL_rS, immLL_rBo, immLL_rII, immLL_rIIt, List.length_map]; exact rfl) ?_; simp -implicitDefEqProofs (disch := omega) only [go_sem, ↓reduceIte , List.length_map]; refine loop_ov (by simp -implicitDefEqProofs (disch := omega) only [go_sem, ↓reduceIte]; exact rfl) (fun i : Nat => [(6, .sl true 3 ((a.Tiles ++ newJ a.Tiles (b.Tiles.take i)).map (Placed.td.d true))), (16, .v (.int .i64 (i : Nat)))]) (fun _ => by simp only [ovr_nil, ovr_cons, List.set_cons_zero, List.set_cons_succ]; exact rfl) (fun i : Nat => i ≤ b.Tiles.length ∧ (b.Tiles.take i).any (clashJ a.Tiles) = false) (fun i : Nat => b.Tiles.length - i) (0) (by rw [hs0]; (try simp -implicitDefEqProofs only [nleL_cc, nleL_nn, nle_self, nle_boxs, nle_aggs, nle_nils, and_self, and_true, true_and]) <;> repeat' (first | exact nle_of_eq rfl | exact nle_nil | apply And.intro | apply nle_sl | apply nleLL_cons | apply nleL_cons | exact nleL_nil | exact nleLL_nil | apply nle_box | apply nle_agg)) (?_) ?_
  · exact ⟨Nat.zero_le _, rfl⟩
  rintro i ⟨hi, hal⟩; have hq : (List.map (Placed.td.d true) (a.Tiles ++ newJ a.Tiles (List.take i b.Tiles))).length ≤ 1000 := by have h3 : (newJ a.Tiles (List.take i b.Tiles)).length ≤ (List.take i b.Tiles).length := List.length_filter_le _ _; rw [List.length_map, List.length_append]; rw [List.length_take] at h3; omega
  simp -implicitDefEqProofs (disch := omega) only [go_sem, ↓reduceIte , List.length_map, Int.toNat_natCast, Int.ofNat_lt, Int.natCast_nonneg, List.getElem?_map, Option.map_some]; refine cond_split ?_ ?_ <;> intro hlt
  · have hlt : i < b.Tiles.length := (by simpa using hlt); have e1 := List.getElem?_eq_getElem hlt; have htk := List.take_succ_eq_append_getElem hlt; simp -implicitDefEqProofs (disch := omega) only [go_sem, ↓reduceIte , List.length_map, Int.toNat_natCast, Int.ofNat_lt, Int.natCast_nonneg, List.getElem?_map, Option.map_some, hlt, e1, Placed.td_d]; have hA := v_at a b.Tiles[i].At (by omega); simp only [Assembly.td_d, Point.td_d] at hA; by_cases h1 : tileA a.Tiles b.Tiles[i].At < 0
    · have d1 := decide_eq_true h1; have hc : clashJ a.Tiles b.Tiles[i] = false := (by unfold clashJ; rw [decide_eq_false (by omega)]; rfl); refine call_B (hA) (by simp -implicitDefEqProofs (disch := omega) only [go_sem, ↓reduceIte, deep, TD.rows, immLL_rI, immLL_rB8, immLL_rS, immLL_rBo, immLL_rII, immLL_rIIt, d1, wrN]; exact rfl) ?_; simp -implicitDefEqProofs (disch := omega) only [go_sem, ↓reduceIte , d1, wrN]; refine ⟨by omega, ?_⟩; refine ⟨i + 1, by omega, ⟨hlt, by rw [htk, List.any_append, hal]; simp [hc]⟩, ?_⟩; simp only [htk, newJ_snoc, if_pos h1, ← List.append_assoc, List.map_append, List.map_cons, List.map_nil, Placed.td_d]
      (try simp -implicitDefEqProofs only [nleL_cc, nleL_nn, nle_self, nle_boxs, nle_aggs, nle_nils, and_self, and_true, true_and]) <;> repeat' (first | exact nle_of_eq rfl | exact nle_nil | apply And.intro | apply nle_sl | apply nleLL_cons | apply nleL_cons | exact nleL_nil | exact nleLL_nil | apply nle_box | apply nle_agg)
    · have d1 := decide_eq_false h1; cases h2 : decide (tileA a.Tiles b.Tiles[i].At = b.Tiles[i].Tile) with
      | true =>
        have hc : clashJ a.Tiles b.Tiles[i] = false := (by unfold clashJ; rw [h2]; simp); refine call_B (hA) (by simp -implicitDefEqProofs (disch := omega) only [go_sem, ↓reduceIte, deep, TD.rows, immLL_rI, immLL_rB8, immLL_rS, immLL_rBo, immLL_rII, immLL_rIIt, d1, h2, wrN]; exact rfl) ?_; simp -implicitDefEqProofs (disch := omega) only [go_sem, ↓reduceIte , d1, h2, wrN]; refine ⟨i + 1, by omega, ⟨hlt, by rw [htk, List.any_append, hal]; simp [hc]⟩, ?_⟩; rw [htk, newJ_snoc, if_neg h1, List.append_nil]
        (try simp -implicitDefEqProofs only [nleL_cc, nleL_nn, nle_self, nle_boxs, nle_aggs, nle_nils, and_self, and_true, true_and]) <;> repeat' (first | exact nle_of_eq rfl | exact nle_nil | apply And.intro | apply nle_sl | apply nleLL_cons | apply nleL_cons | exact nleL_nil | exact nleLL_nil | apply nle_box | apply nle_agg)
      | false => have hc : clashJ a.Tiles b.Tiles[i] = true := (by unfold clashJ; rw [h2, decide_eq_true (by omega)]; rfl); have hj : joinR a.Tiles b.Tiles = none := (by unfold joinR; rw [if_pos (List.any_eq_true.2 ⟨_, List.getElem_mem hlt, hc⟩)]); refine call_B (hA) (by simp -implicitDefEqProofs (disch := omega) only [go_sem, ↓reduceIte, deep, TD.rows, immLL_rI, immLL_rB8, immLL_rS, immLL_rBo, immLL_rII, immLL_rIIt, d1, h2, hj]; exact rfl) ?_; simp -implicitDefEqProofs (disch := omega) only [go_sem, ↓reduceIte , d1, h2, hj]; rfl
  · obtain rfl : i = b.Tiles.length := (by have : ¬ i < b.Tiles.length := (by simpa using hlt); omega); rw [List.take_length] at hal; have hj : joinR a.Tiles b.Tiles = some (sortJ (a.Tiles ++ newJ a.Tiles b.Tiles)) := (by unfold joinR; rw [hal]; rfl); rw [hj]; have hA := v_assemblyOf (a.Tiles ++ newJ a.Tiles b.Tiles) (by rw [List.length_append]; omega) hdis; simp only [Assembly.td_d] at hA; simp -implicitDefEqProofs (disch := omega) only [go_sem, ↓reduceIte , List.take_length]; refine call_B (hA) (by simp -implicitDefEqProofs (disch := omega) only [go_sem, ↓reduceIte, deep, TD.rows, immLL_rI, immLL_rB8, immLL_rS, immLL_rBo, immLL_rII, immLL_rIIt]; exact rfl) ?_; simp -implicitDefEqProofs (disch := omega) only [go_sem, ↓reduceIte]; rfl
def code_spec_l03Join : VCode := (.seq (.ops [
  ⟨(some 4), none, (.alloc [(.slice none 0 0)])⟩,
  ⟨(some 5), none, (.asg (.const (.bool false)))⟩]) (.seq (.ops [
  ⟨(some 9), none, (.build [(.slice none 0 0)] [])⟩,
  ⟨(some 6), none, (.alloc [(.slice none 0 0)])⟩,
  ⟨none, none, (.store 1 (.tmp 6) (.tmp 9))⟩]) (.seq (.ops [
  ⟨(some 7), none, (.asg (.const (.int .i64 0)))⟩]) (.seq (.ops [
  ⟨(some 8), none, (.asg (.const (.int .i64 0)))⟩]) (.seq (.block 0 (.loop (mB 152 5708990770823839524233143877797980545530986028) (.seq (.seq (.ops [
  ⟨(some 10), none, (.mv (.tmp 7))⟩,
  ⟨(some 11), none, (.mv (.tmp 0))⟩,
  ⟨(some 12), none, (.nilc (.tmp 11))⟩,
  ⟨(some 13), none, (.fa 0 (.tmp 12))⟩,
  ⟨(some 14), none, (.load 1 false (.tmp 13))⟩,
  ⟨(some 15), none, (.len (.tmp 14))⟩,
  ⟨(some 16), none, (.bin .lss (.tmp 10) (.tmp 15))⟩,
  ⟨(some 17), none, (.mv (.tmp 16))⟩,
  ⟨(some 18), (some (17, false)), (.mv (.tmp 8))⟩,
  ⟨(some 19), (some (17, false)), (.mv (.tmp 1))⟩,
  ⟨(some 20), (some (17, false)), (.nilc (.tmp 19))⟩,
  ⟨(some 21), (some (17, false)), (.fa 0 (.tmp 20))⟩,
  ⟨(some 22), (some (17, false)), (.load 1 false (.tmp 21))⟩,
  ⟨(some 23), (some (17, false)), (.len (.tmp 22))⟩,
  ⟨(some 24), (some (17, false)), (.bin .lss (.tmp 18) (.tmp 23))⟩,
  ⟨(some 25), none, (.pick (.tmp 17) (.const (.bool true)) (.tmp 24))⟩]) (.cond (.tmp 25) .skip (.exit 0))) (.block 1 (.block 2 (.seq (.draw (mB 93 9903520311977199189979299840) [] [⟨0, (mB 93 9903520311977199189979299840), [], ⟨(some 61), none, (.mv (.tmp 8))⟩⟩, ⟨1, (mB 93 9903520311977199189979299840), [], ⟨(some 62), none, (.mv (.tmp 1))⟩⟩, ⟨2, (mB 93 9903520307365513171551911936), [], ⟨(some 63), none, (.nilc (.tmp 62))⟩⟩, ⟨3, (mB 93 9903520298142141134697136128), [], ⟨(some 64), none, (.fa 0 (.tmp 63))⟩⟩, ⟨4, (mB 93 9903520279695397060987584512), [], ⟨(some 65), none, (.load 1 false (.tmp 64))⟩⟩, ⟨5, (mB 93 9903520242801908913568481280), [], ⟨(some 66), none, (.len (.tmp 65))⟩⟩, ⟨6, (mB 93 9903520166709089609516580864), [], ⟨(some 67), none, (.bin .eql (.tmp 61) (.tmp 66))⟩⟩, ⟨7, (mB 93 9903520019135137019840167936), [], ⟨(some 68), none, (.mv (.tmp 67))⟩⟩, ⟨8, (mB 93 9903519723987231840487342080), [], ⟨(some 69), (some (68, false)), (.mv (.tmp 7))⟩⟩, ⟨9, (mB 93 9903519723987231840487342080), [], ⟨(some 70), (some (68, false)), (.mv (.tmp 0))⟩⟩, ⟨10, (mB 93 9903518543395611123076038656), [], ⟨(some 71), (some (68, false)), (.nilc (.tmp 70))⟩⟩, ⟨11, (mB 93 9903516182212369688253431808), [], ⟨(some 72), (some (68, false)), (.fa 0 (.tmp 71))⟩⟩, ⟨12, (mB 93 9903511459845886818608218112), [], ⟨(some 73), (some (68, false)), (.load 1 false (.tmp 72))⟩⟩, ⟨13, (mB 93 9903502015112921079317790720), [], ⟨(some 74), (some (68, false)), (.len (.tmp 73))⟩⟩, ⟨14, (mB 93 9903482535351179242031284224), [], ⟨(some 75), (some (68, false)), (.bin .lss (.tmp 69) (.tmp 74))⟩⟩, ⟨15, (mB 93 9903444756419316284869574656), [], ⟨(some 76), (some (68, false)), (.mv (.tmp 75))⟩⟩, ⟨16, (mB 93 9903369198555590370546155520), [], ⟨(some 77), (some (76, true)), (.mv (.tmp 0))⟩⟩, ⟨17, (mB 93 9903218082828138541899317248), [], ⟨(some 78), (some (76, true)), (.nilc (.tmp 77))⟩⟩, ⟨18, (mB 93 9902915851373234884605640704), [], ⟨(some 79), (some (76, true)), (.fa 0 (.tmp 78))⟩⟩, ⟨19, (mB 93 9902311388463427570018287616), [], ⟨(some 80), (some (76, true)), (.load 1 false (.tmp 79))⟩⟩, ⟨20, (mB 93 9903369198555590370546155520), [], ⟨(some 81), (some (76, true)), (.mv (.tmp 7))⟩⟩, ⟨21, (mB 93 9898684611004583682494169088), [], ⟨(some 82), (some (76, true)), (.ia 3 (.tmp 80) (.tmp 81))⟩⟩, ⟨22, (mB 93 9893848907726125165795344384), [], ⟨(some 83), (some (76, true)), (.fa 0 (.tmp 82))⟩⟩, ⟨23, (mB 93 9884177501169208132397694976), [], ⟨(some 84), (some (76, true)), (.load 2 true (.tmp 83))⟩⟩, ⟨24, (mB 93 9903369198555590370546155520), [], ⟨(some 85), (some (76, true)), (.mv (.tmp 1))⟩⟩, ⟨25, (mB 93 9864683572327922236955557888), [], ⟨(some 86), (some (76, true)), (.nilc (.tmp 85))⟩⟩, ⟨26, (mB 93 9787312319872585969774362624), [], ⟨(some 87), (some (76, true)), (.fa 0 (.tmp 86))⟩⟩, ⟨27, (mB 93 9632569814961913435411972096), [], ⟨(some 88), (some (76, true)), (.load 1 false (.tmp 87))⟩⟩, ⟨28, (mB 93 9903369198555590370546155520), [], ⟨(some 89), (some (76, true)), (.mv (.tmp 8))⟩⟩, ⟨29, (mB 93 8704114785497878229237628928), [], ⟨(some 90), (some (76, true)), (.ia 3 (.tmp 88) (.tmp 89))⟩⟩, ⟨30, (mB 93 7466174746212497954338504704), [], ⟨(some 91), (some (76, true)), (.fa 0 (.tmp 90))⟩⟩, ⟨31, (mB 93 4990294667641737404540256256), [], ⟨(some 92), (some (76, true)), (.load 2 true (.tmp 91))⟩⟩] [⟨(some 93), (some (76, true)), (.callX 35 [(.tmp 84), (.tmp 92)])⟩, ⟨(some 94), (some (68, false)), (.pick (.tmp 76) (.tmp 93) (.const (.bool false)))⟩, ⟨(some 95), none, (.pick (.tmp 68) (.const (.bool true)) (.tmp 94))⟩, ⟨(some 60), none, (.asg (.tmp 95))⟩]) (.cond (.tmp 60) (.seq (.draw (mB 106 81050410252092417358195461193728) (mB 105 20282409603651670423947251286016) [⟨0, (mB 106 81050410252092417358195461193728), [], ⟨(some 96), none, (.fa 0 (.tmp 6))⟩⟩, ⟨1, (mB 106 80971182089578153020601917243392), [], ⟨(some 97), none, (.load 1 false (.tmp 96))⟩⟩, ⟨2, (mB 106 81050410252092417358195461193728), [], ⟨(some 98), none, (.mv (.tmp 0))⟩⟩, ⟨3, (mB 106 80733497602035360007821285392384), [], ⟨(some 99), none, (.nilc (.tmp 98))⟩⟩, ⟨4, (mB 106 80099672301921245307072933789696), [], ⟨(some 100), none, (.fa 0 (.tmp 99))⟩⟩, ⟨5, (mB 106 78832021701693015905576230584320), [], ⟨(some 101), none, (.load 1 false (.tmp 100))⟩⟩, ⟨6, (mB 106 81050410252092417358195461193728), [], ⟨(some 102), none, (.mv (.tmp 7))⟩⟩, ⟨7, (mB 106 71226118100323639496596011352064), [], ⟨(some 103), none, (.ia 3 (.tmp 101) (.tmp 102))⟩⟩, ⟨8, (mB 106 61084913298497804284622385709056), [], ⟨(some 104), none, (.load 3 true (.tmp 103))⟩⟩, ⟨9, (mB 106 40802503694846133860675134423040), (mB 105 20282409603651670423947251286016), ⟨(some 105), none, (.bslN 3 [(.tmp 104)])⟩⟩] [⟨(some 106), none, (.app 3 24 (.tmp 97) (.tmp 105))⟩, ⟨(some 107), none, (.fa 0 (.tmp 6))⟩, ⟨none, none, (.store 1 (.tmp 107) (.tmp 106))⟩]) (.ops [
  ⟨(some 108), none, (.mv (.tmp 7))⟩,
  ⟨(some 109), none, (.bin .add (.tmp 108) (.const (.int .i64 1)))⟩,
  ⟨(some 7), none, (.asg (.tmp 109))⟩])) (.seq (.draw (mB 135 43556140369731694055898135486018166456320) [] [⟨0, (mB 135 43556140369731694055898135486018166456320), [], ⟨(some 111), none, (.mv (.tmp 7))⟩⟩, ⟨1, (mB 135 43556140369731694055898135486018166456320), [], ⟨(some 112), none, (.mv (.tmp 0))⟩⟩, ⟨2, (mB 135 43556135177434835521070506955521837236224), [], ⟨(some 113), none, (.nilc (.tmp 112))⟩⟩, ⟨3, (mB 135 43556124792841118451415249894529178796032), [], ⟨(some 114), none, (.fa 0 (.tmp 113))⟩⟩, ⟨4, (mB 135 43556104023653684312104735772543861915648), [], ⟨(some 115), none, (.load 1 false (.tmp 114))⟩⟩, ⟨5, (mB 135 43556062485278816033483707528573228154880), [], ⟨(some 116), none, (.len (.tmp 115))⟩⟩, ⟨6, (mB 135 43555976812380650208827836775383796023296), [], ⟨(some 117), none, (.bin .eql (.tmp 111) (.tmp 116))⟩⟩, ⟨7, (mB 135 43555810658881177094343723799501260980224), [], ⟨(some 118), none, (.mv (.tmp 117))⟩⟩, ⟨8, (mB 135 43555478351882230865375497847736190894080), [], ⟨(some 119), (some (118, false)), (.mv (.tmp 1))⟩⟩, ⟨9, (mB 135 43554813737884338407439045944206050721792), [], ⟨(some 120), (some (118, false)), (.nilc (.tmp 119))⟩⟩, ⟨10, (mB 135 43553484509888553491566142137145770377216), [], ⟨(some 121), (some (118, false)), (.fa 0 (.tmp 120))⟩⟩, ⟨11, (mB 135 43550826053896983659820334523025209688064), [], ⟨(some 122), (some (118, false)), (.load 1 false (.tmp 121))⟩⟩, ⟨12, (mB 135 43555478351882230865375497847736190894080), [], ⟨(some 123), (some (118, false)), (.mv (.tmp 8))⟩⟩, ⟨13, (mB 135 43534875317947564669345488838301845553152), [], ⟨(some 124), (some (118, false)), (.ia 3 (.tmp 122) (.tmp 123))⟩⟩, ⟨14, (mB 135 43513607670015006015379027925337360039936), [], ⟨(some 125), (some (118, false)), (.fa 0 (.tmp 124))⟩⟩, ⟨15, (mB 135 43471072374149888707446106099408389013504), [], ⟨(some 126), (some (118, false)), (.load 2 true (.tmp 125))⟩⟩, ⟨16, (mB 135 43555478351882230865375497847736190894080), [], ⟨(some 127), (some (118, false)), (.mv (.tmp 0))⟩⟩, ⟨17, (mB 135 43385337168421761633643810544020306788352), [], ⟨(some 128), (some (118, false)), (.nilc (.tmp 127))⟩⟩, ⟨18, (mB 135 43045054801500823170180435936588538576896), [], ⟨(some 129), (some (118, false)), (.fa 0 (.tmp 128))⟩⟩, ⟨19, (mB 135 42364490067658946243253686721725002153984), [], ⟨(some 130), (some (118, false)), (.load 1 false (.tmp 129))⟩⟩, ⟨20, (mB 135 43555478351882230865375497847736190894080), [], ⟨(some 131), (some (118, false)), (.mv (.tmp 7))⟩⟩, ⟨21, (mB 135 38281101664607684681693191432543783616512), [], ⟨(some 132), (some (118, false)), (.ia 3 (.tmp 130) (.tmp 131))⟩⟩, ⟨22, (mB 135 32836583793872669266279197713635492233216), [], ⟨(some 133), (some (118, false)), (.fa 0 (.tmp 132))⟩⟩, ⟨23, (mB 135 21947548052402638435451210275818909466624), [], ⟨(some 134), (some (118, false)), (.load 2 true (.tmp 133))⟩⟩] [⟨(some 135), (some (118, false)), (.callX 35 [(.tmp 126), (.tmp 134)])⟩, ⟨(some 136), none, (.pick (.tmp 118) (.const (.bool true)) (.tmp 135))⟩, ⟨(some 110), none, (.asg (.tmp 136))⟩]) (.cond (.tmp 110) (.seq (.draw (mB 147 178231737016381464638992498382181826723577856) (mB 146 44601490397061246283071436545296723011960832) [⟨0, (mB 147 178231737016381464638992498382181826723577856), [], ⟨(some 137), none, (.fa 0 (.tmp 6))⟩⟩, ⟨1, (mB 147 178057512444517944145699250583176761399312384), [], ⟨(some 138), none, (.load 1 false (.tmp 137))⟩⟩, ⟨2, (mB 147 178231737016381464638992498382181826723577856), [], ⟨(some 139), none, (.mv (.tmp 1))⟩⟩, ⟨3, (mB 147 177534838728927382665819507186161565426515968), [], ⟨(some 140), none, (.nilc (.tmp 139))⟩⟩, ⟨4, (mB 147 176141042154019218719473524794121042832392192), [], ⟨(some 141), none, (.fa 0 (.tmp 140))⟩⟩, ⟨5, (mB 147 173353449004202890826781560010039997644144640), [], ⟨(some 142), none, (.load 1 false (.tmp 141))⟩⟩, ⟨6, (mB 147 178231737016381464638992498382181826723577856), [], ⟨(some 143), none, (.mv (.tmp 8))⟩⟩, ⟨7, (mB 147 156627890105304923470629771305553726514659328), [], ⟨(some 144), none, (.ia 3 (.tmp 142) (.tmp 143))⟩⟩, ⟨8, (mB 147 134327144906774300329094053032905365008678912), [], ⟨(some 145), none, (.load 3 true (.tmp 144))⟩⟩, ⟨9, (mB 147 89725654509713054046022616487608641996718080), (mB 146 44601490397061246283071436545296723011960832), ⟨(some 146), none, (.bslN 3 [(.tmp 145)])⟩⟩] [⟨(some 147), none, (.app 3 24 (.tmp 138) (.tmp 146))⟩, ⟨(some 148), none, (.fa 0 (.tmp 6))⟩, ⟨none, none, (.store 1 (.tmp 148) (.tmp 147))⟩]) (.ops [
  ⟨(some 149), none, (.mv (.tmp 8))⟩,
  ⟨(some 150), none, (.bin .add (.tmp 149) (.const (.int .i64 1)))⟩,
  ⟨(some 8), none, (.asg (.tmp 150))⟩])) (.seq (.seq (.draw (mB 42 4397979402240) [] [⟨0, (mB 42 4397979402240), [], ⟨(some 26), none, (.mv (.tmp 0))⟩⟩, ⟨1, (mB 42 4397912293376), [], ⟨(some 27), none, (.nilc (.tmp 26))⟩⟩, ⟨2, (mB 42 4397778075648), [], ⟨(some 28), none, (.fa 0 (.tmp 27))⟩⟩, ⟨3, (mB 42 4397509640192), [], ⟨(some 29), none, (.load 1 false (.tmp 28))⟩⟩, ⟨4, (mB 42 4397979402240), [], ⟨(some 30), none, (.mv (.tmp 7))⟩⟩, ⟨5, (mB 42 4395899027456), [], ⟨(some 31), none, (.ia 3 (.tmp 29) (.tmp 30))⟩⟩, ⟨6, (mB 42 4393751543808), [], ⟨(some 32), none, (.fa 2 (.tmp 31))⟩⟩, ⟨7, (mB 42 4389456576512), [], ⟨(some 33), none, (.load 1 false (.tmp 32))⟩⟩, ⟨8, (mB 42 4397979402240), [], ⟨(some 34), none, (.mv (.tmp 1))⟩⟩, ⟨9, (mB 42 4380799533056), [], ⟨(some 35), none, (.nilc (.tmp 34))⟩⟩, ⟨10, (mB 42 4346439794688), [], ⟨(some 36), none, (.fa 0 (.tmp 35))⟩⟩, ⟨11, (mB 42 4277720317952), [], ⟨(some 37), none, (.load 1 false (.tmp 36))⟩⟩, ⟨12, (mB 42 4397979402240), [], ⟨(some 38), none, (.mv (.tmp 8))⟩⟩, ⟨13, (mB 42 3865403457536), [], ⟨(some 39), none, (.ia 3 (.tmp 37) (.tmp 38))⟩⟩, ⟨14, (mB 42 3315647643648), [], ⟨(some 40), none, (.fa 2 (.tmp 39))⟩⟩, ⟨15, (mB 42 2216136015872), [], ⟨(some 41), none, (.load 1 false (.tmp 40))⟩⟩] [⟨(some 42), none, (.bin .neq (.tmp 33) (.tmp 41))⟩]) (.cond (.tmp 42) (.seq (.ops [
  ⟨(some 43), none, (.build [(.slice none 0 0)] [])⟩,
  ⟨none, none, (.store 1 (.tmp 4) (.tmp 43))⟩,
  ⟨(some 5), none, (.asg (.const (.bool false)))⟩]) .ret) .skip)) (.seq (.draw (mB 54 17996806323437568) (mB 53 4503599627370496) [⟨0, (mB 54 17996806323437568), [], ⟨(some 44), none, (.fa 0 (.tmp 6))⟩⟩, ⟨1, (mB 54 17979214137393152), [], ⟨(some 45), none, (.load 1 false (.tmp 44))⟩⟩, ⟨2, (mB 54 17996806323437568), [], ⟨(some 46), none, (.mv (.tmp 0))⟩⟩, ⟨3, (mB 54 17926437579259904), [], ⟨(some 47), none, (.nilc (.tmp 46))⟩⟩, ⟨4, (mB 54 17785700090904576), [], ⟨(some 48), none, (.fa 0 (.tmp 47))⟩⟩, ⟨5, (mB 54 17504225114193920), [], ⟨(some 49), none, (.load 1 false (.tmp 48))⟩⟩, ⟨6, (mB 54 17996806323437568), [], ⟨(some 50), none, (.mv (.tmp 7))⟩⟩, ⟨7, (mB 54 15815375253929984), [], ⟨(some 51), none, (.ia 3 (.tmp 49) (.tmp 50))⟩⟩, ⟨8, (mB 54 13563575440244736), [], ⟨(some 52), none, (.load 3 true (.tmp 51))⟩⟩, ⟨9, (mB 54 9059975812874240), (mB 53 4503599627370496), ⟨(some 53), none, (.bslN 3 [(.tmp 52)])⟩⟩] [⟨(some 54), none, (.app 3 24 (.tmp 45) (.tmp 53))⟩, ⟨(some 55), none, (.fa 0 (.tmp 6))⟩, ⟨none, none, (.store 1 (.tmp 55) (.tmp 54))⟩]) (.seq (.ops [
  ⟨(some 56), none, (.mv (.tmp 7))⟩,
  ⟨(some 57), none, (.bin .add (.tmp 56) (.const (.int .i64 1)))⟩,
  ⟨(some 7), none, (.asg (.tmp 57))⟩]) (.ops [
  ⟨(some 58), none, (.mv (.tmp 8))⟩,
  ⟨(some 59), none, (.bin .add (.tmp 58) (.const (.int .i64 1)))⟩,
  ⟨(some 8), none, (.asg (.tmp 59))⟩]))))))))))))) (.seq (.ops [
  ⟨(some 151), none, (.load 1 true (.tmp 6))⟩,
  ⟨none, none, (.store 1 (.tmp 4) (.tmp 151))⟩,
  ⟨(some 5), none, (.asg (.const (.bool true)))⟩]) .ret))))))
theorem law_spec_l03Join {a0 a1 d : D} (h : code_spec_l03Join.wp (CT Try.prog NoG) (endQ [(.c 4 1 true), (.t 5)] d) [a0, a1, .undef, .undef, .undef, .undef, .undef, .undef, .undef, .undef, .undef, .undef, .undef, .undef, .undef, .undef, .undef, .undef, .undef, .undef, .undef, .undef, .undef, .undef, .undef, .undef, .undef, .undef, .undef, .undef, .undef, .undef, .undef, .undef, .undef, .undef, .undef, .undef, .undef, .undef, .undef, .undef, .undef, .undef, .undef, .undef, .undef, .undef, .undef, .undef, .undef, .undef, .undef, .undef, .undef, .undef, .undef, .undef, .undef, .undef, .undef, .undef, .undef, .undef, .undef, .undef, .undef, .undef, .undef, .undef, .undef, .undef, .undef, .undef, .undef, .undef, .undef, .undef, .undef, .undef, .undef, .undef, .undef, .undef, .undef, .undef, .undef, .undef, .undef, .undef, .undef, .undef, .undef, .undef, .undef, .undef, .undef, .undef, .undef, .undef, .undef, .undef, .undef, .undef, .undef, .undef, .undef, .undef, .undef, .undef, .undef, .undef, .undef, .undef, .undef, .undef, .undef, .undef, .undef, .undef, .undef, .undef, .undef, .undef, .undef, .undef, .undef, .undef, .undef, .undef, .undef, .undef, .undef, .undef, .undef, .undef, .undef, .undef, .undef, .undef, .undef, .undef, .undef, .undef, .undef, .undef, .undef, .undef, .undef, .undef, .undef, .undef]) : Contract Try.prog NoG 20 [a0, a1] d :=
  contract_of (pt := 0) noG Try.func20 (fun us W => by kernel_rfl) (c := Try.f20.body.getD .skip) (ms := [(mB 152 5708990770823839524233143877797980545530986028)]) (ms' := []) (by kernel_rfl) (by kernel_rfl) (by kernel_rfl) h
set_option maxHeartbeats 2000000 in
theorem v_l03Join (a b : Assembly) (ha : a.Tiles.length ≤ 1048576) (hb : b.Tiles.length ≤ 1048576) : Contract Try.prog NoG 20 [.iptr (Assembly.td.d false a) 0, .iptr (Assembly.td.d false b) 0] (.tup [.agg [.sl true 3 (((mrgJ a.Tiles b.Tiles).getD []).map (Placed.td.d true))], .v (.bool (mrgJ a.Tiles b.Tiles).isSome)]) := by
  simp only [Assembly.td_d]; refine law_spec_l03Join ?_; unfold code_spec_l03Join; simp -implicitDefEqProofs (disch := omega) only [go_sem, ↓reduceIte , List.length_map]; refine loop_ov (by simp -implicitDefEqProofs (disch := omega) only [go_sem, ↓reduceIte]; exact rfl) (fun z : Nat × Nat × List Placed => [(6, .box none [.sl true 3 (z.2.2.map (Placed.td.d true))]), (7, .v (.int .i64 (z.1 : Nat))), (8, .v (.int .i64 (z.2.1 : Nat)))]) (fun _ => by simp only [ovr_nil, ovr_cons, List.set_cons_zero, List.set_cons_succ]; exact rfl) (fun z : Nat × Nat × List Placed => z.1 ≤ a.Tiles.length ∧ z.2.1 ≤ b.Tiles.length ∧ z.2.2.length ≤ z.1 + z.2.1 ∧ restJ a.Tiles b.Tiles z.2.2 z.1 z.2.1 = mrgJ a.Tiles b.Tiles) (fun z : Nat × Nat × List Placed => a.Tiles.length - z.1 + (b.Tiles.length - z.2.1)) ((0, 0, [])) (nleA) (?_) ?_
  · refine ⟨Nat.zero_le _, Nat.zero_le _, Nat.zero_le _, ?_⟩; simp only [restJ, List.drop_zero]; cases mrgJ a.Tiles b.Tiles <;> rfl
  rintro ⟨i, k, o⟩ ⟨h1, h2, h3, h4⟩; simp only at h1 h2 h3 h4; have hq : (List.map (Placed.td.d true) o).length ≤ 2097152 := by rw [List.length_map]; omega
  by_cases hi : i < a.Tiles.length
  · have d1 := decide_eq_true hi; have d4 : decide ((i : Int) = (a.Tiles.length : Int)) = false := (by rw [decide_eq_false_iff_not]; omega); have e1 := List.getElem?_eq_getElem hi; by_cases hk : k < b.Tiles.length
    · have d2 := decide_eq_true hk; have d3 : decide ((k : Int) = (b.Tiles.length : Int)) = false := (by rw [decide_eq_false_iff_not]; omega); have e2 := List.getElem?_eq_getElem hk; have hL1 := v_LessPoint_spec a.Tiles[i].At b.Tiles[k].At; have hL2 := v_LessPoint_spec b.Tiles[k].At a.Tiles[i].At; simp only [Point.td_d] at hL1 hL2; simp -implicitDefEqProofs (disch := omega) only [go_sem, ↓reduceIte , List.length_map, Int.toNat_natCast, Int.ofNat_lt, Int.natCast_nonneg, List.getElem?_map, Option.map_some, d1, hi, hk, d3, e1, e2, Placed.td_d]; cases l1 : lessP a.Tiles[i].At b.Tiles[k].At with
      | true =>
        refine call_B (hL1) (by simp -implicitDefEqProofs (disch := omega) only [go_sem, ↓reduceIte, deep, TD.rows, immLL_rI, immLL_rB8, immLL_rS, immLL_rBo, immLL_rII, immLL_rIIt, l1, List.length_map, Int.toNat_natCast, Int.ofNat_lt, Int.natCast_nonneg, List.getElem?_map, Option.map_some, hi, hk, e1, e2, Placed.td_d, wrN]; exact rfl) ?_; simp -implicitDefEqProofs (disch := omega) only [go_sem, ↓reduceIte , l1, List.length_map, Int.toNat_natCast, Int.ofNat_lt, Int.natCast_nonneg, List.getElem?_map, Option.map_some, hi, hk, e1, e2, Placed.td_d, wrN]; refine ⟨by omega, ?_⟩; refine ⟨(i + 1, k, o ++ [a.Tiles[i]]), by simp only; omega, ⟨by simp only; omega, h2, by simp only [List.length_append, List.length_cons, List.length_nil]; omega, ?_⟩, ?_⟩
        · rw [← h4]; exact (rest_l hi (.inr ⟨hk, l1⟩) h2).symm
        · simp only [List.map_append, List.map_cons, List.map_nil, Placed.td_d]
          (try simp -implicitDefEqProofs only [nleL_cc, nleL_nn, nle_self, nle_boxs, nle_aggs, nle_nils, and_self, and_true, true_and]) <;> repeat' (first | exact nle_of_eq rfl | exact nle_nil | apply And.intro | apply nle_sl | apply nleLL_cons | apply nleL_cons | exact nleL_nil | exact nleLL_nil | apply nle_box | apply nle_agg)
      | false =>
        refine call_B (hL1) (by simp -implicitDefEqProofs (disch := omega) only [go_sem, ↓reduceIte, deep, TD.rows, immLL_rI, immLL_rB8, immLL_rS, immLL_rBo, immLL_rII, immLL_rIIt, l1, List.length_map, Int.toNat_natCast, Int.ofNat_lt, Int.natCast_nonneg, List.getElem?_map, Option.map_some, d4, hi, hk, e1, e2, Placed.td_d]; exact rfl) ?_; simp -implicitDefEqProofs (disch := omega) only [go_sem, ↓reduceIte , l1, List.length_map, Int.toNat_natCast, Int.ofNat_lt, Int.natCast_nonneg, List.getElem?_map, Option.map_some, d4, hi, hk, e1, e2, Placed.td_d]; cases l2 : lessP b.Tiles[k].At a.Tiles[i].At with
        | true =>
          refine call_B (hL2) (by simp -implicitDefEqProofs (disch := omega) only [go_sem, ↓reduceIte, deep, TD.rows, immLL_rI, immLL_rB8, immLL_rS, immLL_rBo, immLL_rII, immLL_rIIt, l2, List.length_map, Int.toNat_natCast, Int.ofNat_lt, Int.natCast_nonneg, List.getElem?_map, Option.map_some, hi, hk, e1, e2, Placed.td_d, wrN]; exact rfl) ?_; simp -implicitDefEqProofs (disch := omega) only [go_sem, ↓reduceIte , l2, List.length_map, Int.toNat_natCast, Int.ofNat_lt, Int.natCast_nonneg, List.getElem?_map, Option.map_some, hi, hk, e1, e2, Placed.td_d, wrN]; refine ⟨by omega, ?_⟩; refine ⟨(i, k + 1, o ++ [b.Tiles[k]]), by simp only; omega, ⟨h1, by simp only; omega, by simp only [List.length_append, List.length_cons, List.length_nil]; omega, ?_⟩, ?_⟩
          · rw [← h4]; exact (rest_r hk (.inr ⟨hi, l1, l2⟩)).symm
          · simp only [List.map_append, List.map_cons, List.map_nil, Placed.td_d]
            (try simp -implicitDefEqProofs only [nleL_cc, nleL_nn, nle_self, nle_boxs, nle_aggs, nle_nils, and_self, and_true, true_and]) <;> repeat' (first | exact nle_of_eq rfl | exact nle_nil | apply And.intro | apply nle_sl | apply nleLL_cons | apply nleL_cons | exact nleL_nil | exact nleLL_nil | apply nle_box | apply nle_agg)
        | false =>
          have h5 := rest_b (o := o) hi hk l1 l2; rw [h4] at h5; by_cases ht : a.Tiles[i].Tile = b.Tiles[k].Tile
          · have dt := decide_eq_true ht; refine call_B (hL2) (by simp -implicitDefEqProofs (disch := omega) only [go_sem, ↓reduceIte, deep, TD.rows, immLL_rI, immLL_rB8, immLL_rS, immLL_rBo, immLL_rII, immLL_rIIt, l2, List.length_map, Int.toNat_natCast, Int.ofNat_lt, Int.natCast_nonneg, List.getElem?_map, Option.map_some, hi, hk, e1, e2, Placed.td_d, dt, wrN]; exact rfl) ?_; simp -implicitDefEqProofs (disch := omega) only [go_sem, ↓reduceIte , l2, List.length_map, Int.toNat_natCast, Int.ofNat_lt, Int.natCast_nonneg, List.getElem?_map, Option.map_some, hi, hk, e1, e2, Placed.td_d, dt, wrN]; refine ⟨by omega, ?_⟩; refine ⟨(i + 1, k + 1, o ++ [a.Tiles[i]]), by simp only; omega, ⟨by simp only; omega, by simp only; omega, by simp only [List.length_append, List.length_cons, List.length_nil]; omega, ?_⟩, ?_⟩
            · rw [h5, if_pos ht]
            · simp only [List.map_append, List.map_cons, List.map_nil, Placed.td_d]
              (try simp -implicitDefEqProofs only [nleL_cc, nleL_nn, nle_self, nle_boxs, nle_aggs, nle_nils, and_self, and_true, true_and]) <;> repeat' (first | exact nle_of_eq rfl | exact nle_nil | apply And.intro | apply nle_sl | apply nleLL_cons | apply nleL_cons | exact nleL_nil | exact nleLL_nil | apply nle_box | apply nle_agg)
          · have dt := decide_eq_false ht; rw [if_neg ht] at h5; rw [h5]; refine call_B (hL2) (by simp -implicitDefEqProofs (disch := omega) only [go_sem, ↓reduceIte, deep, TD.rows, immLL_rI, immLL_rB8, immLL_rS, immLL_rBo, immLL_rII, immLL_rIIt, l2, List.length_map, Int.toNat_natCast, Int.ofNat_lt, Int.natCast_nonneg, List.getElem?_map, Option.map_some, hi, hk, e1, e2, Placed.td_d, dt]; exact rfl) ?_; simp -implicitDefEqProofs (disch := omega) only [go_sem, ↓reduceIte , l2, List.length_map, Int.toNat_natCast, Int.ofNat_lt, Int.natCast_nonneg, List.getElem?_map, Option.map_some, hi, hk, e1, e2, Placed.td_d, dt]; rfl
    · obtain rfl : k = b.Tiles.length := (by omega); have d3 : decide ((b.Tiles.length : Int) = (b.Tiles.length : Int)) = true := (by simp); simp -implicitDefEqProofs (disch := omega) only [go_sem, ↓reduceIte , List.length_map, Int.toNat_natCast, Int.ofNat_lt, Int.natCast_nonneg, List.getElem?_map, Option.map_some, d1, hi, e1, Placed.td_d, d3, wrN]; refine ⟨by omega, ?_⟩; refine ⟨(i + 1, b.Tiles.length, o ++ [a.Tiles[i]]), by simp only; omega, ⟨by simp only; omega, h2, by simp only [List.length_append, List.length_cons, List.length_nil]; omega, ?_⟩, ?_⟩
      · rw [← h4]; exact (rest_l hi (.inl rfl) h2).symm
      · simp only [List.map_append, List.map_cons, List.map_nil, Placed.td_d]
        (try simp -implicitDefEqProofs only [nleL_cc, nleL_nn, nle_self, nle_boxs, nle_aggs, nle_nils, and_self, and_true, true_and]) <;> repeat' (first | exact nle_of_eq rfl | exact nle_nil | apply And.intro | apply nle_sl | apply nleLL_cons | apply nleL_cons | exact nleL_nil | exact nleLL_nil | apply nle_box | apply nle_agg)
  · obtain rfl : i = a.Tiles.length := (by omega); have d4 : decide ((a.Tiles.length : Int) = (a.Tiles.length : Int)) = true := (by simp); have d1 : decide (a.Tiles.length < a.Tiles.length) = false := (by simp); by_cases hk : k < b.Tiles.length
    · have d2 := decide_eq_true hk; have d3 : decide ((k : Int) = (b.Tiles.length : Int)) = false := (by rw [decide_eq_false_iff_not]; omega); have e2 := List.getElem?_eq_getElem hk; simp -implicitDefEqProofs (disch := omega) only [go_sem, ↓reduceIte , List.length_map, Int.toNat_natCast, Int.ofNat_lt, Int.natCast_nonneg, List.getElem?_map, Option.map_some, d1, d2, d3, d4, hk, e2, Placed.td_d, wrN]; refine ⟨by omega, ?_⟩; refine ⟨(a.Tiles.length, k + 1, o ++ [b.Tiles[k]]), by simp only; omega, ⟨h1, by simp only; omega, by simp only [List.length_append, List.length_cons, List.length_nil]; omega, ?_⟩, ?_⟩
      · rw [← h4]; exact (rest_r hk (.inl rfl)).symm
      · simp only [List.map_append, List.map_cons, List.map_nil, Placed.td_d]
        (try simp -implicitDefEqProofs only [nleL_cc, nleL_nn, nle_self, nle_boxs, nle_aggs, nle_nils, and_self, and_true, true_and]) <;> repeat' (first | exact nle_of_eq rfl | exact nle_nil | apply And.intro | apply nle_sl | apply nleLL_cons | apply nleL_cons | exact nleL_nil | exact nleLL_nil | apply nle_box | apply nle_agg)
    · obtain rfl : k = b.Tiles.length := (by omega); have d2 : decide (b.Tiles.length < b.Tiles.length) = false := (by simp); rw [rest_e] at h4; rw [← h4]; simp -implicitDefEqProofs (disch := omega) only [go_sem, ↓reduceIte , List.length_map, Int.toNat_natCast, Int.ofNat_lt, Int.natCast_nonneg, List.getElem?_map, Option.map_some, d1, d2]; rfl
def joinK (o : Option (List Placed)) : Assembly := match o with
  | some m => if 500 < m.length then ⟨[]⟩ else ⟨m⟩
  | none => ⟨[]⟩
def joinA (a b : Assembly) : Assembly := if okForm a.Tiles && okForm b.Tiles then joinK (mrgJ a.Tiles b.Tiles) else ⟨[]⟩
def joinE (o : Option (List Placed)) : Int := match o with
  | some m => if 500 < m.length then 4 else 0
  | none => 7
def joinC (a b : Assembly) : Int := if okForm a.Tiles && okForm b.Tiles then joinE (mrgJ a.Tiles b.Tiles) else 1
theorem join_eq {a b : Assembly} (ha : okForm a.Tiles = true) (hb : okForm b.Tiles = true) : joinR a.Tiles b.Tiles = mrgJ a.Tiles b.Tiles := by
  obtain ⟨sa, _, pa⟩ := form_strict ha; obtain ⟨sb, _, _⟩ := form_strict hb; rw [join_same sa sb (fun x hx => (pa x hx).1)]
  all_goals first | rfl | exact ⟨rfl, rfl⟩
def code_spec_JoinAssemblies : VCode := (.seq (.ops [
  ⟨(some 2), none, (.box (.tmp 0))⟩,
  ⟨(some 3), none, (.box (.tmp 1))⟩,
  ⟨(some 4), none, (.alloc [(.slice none 0 0)])⟩,
  ⟨(some 5), none, (.asg (.const (.int .i64 0)))⟩]) (.seq (.seq (.ops [
  ⟨(some 8), none, (.callX 19 [(.tmp 2)])⟩,
  ⟨(some 9), none, (.un .not (.tmp 8))⟩,
  ⟨(some 10), none, (.mv (.tmp 9))⟩,
  ⟨(some 11), (some (10, false)), (.callX 19 [(.tmp 3)])⟩,
  ⟨(some 12), (some (10, false)), (.un .not (.tmp 11))⟩,
  ⟨(some 13), none, (.pick (.tmp 10) (.const (.bool true)) (.tmp 12))⟩]) (.cond (.tmp 13) (.seq (.ops [
  ⟨(some 14), none, (.build [(.slice none 0 0)] [])⟩,
  ⟨none, none, (.store 1 (.tmp 4) (.tmp 14))⟩,
  ⟨(some 5), none, (.asg (.const (.int .i64 1)))⟩]) .ret) .skip)) (.seq (.ops [
  ⟨(some 16), none, (.callX 20 [(.tmp 2), (.tmp 3)])⟩,
  ⟨(some 15), none, (.mv (.tmp 16))⟩,
  ⟨(some 17), none, (.ext (.tmp 15) 0)⟩,
  ⟨(some 18), none, (.ext (.tmp 15) 1)⟩,
  ⟨(some 6), none, (.alloc [(.slice none 0 0)])⟩,
  ⟨none, none, (.store 1 (.tmp 6) (.tmp 17))⟩,
  ⟨(some 7), none, (.asg (.tmp 18))⟩]) (.seq (.seq (.ops [
  ⟨(some 19), none, (.mv (.tmp 7))⟩,
  ⟨(some 20), none, (.un .not (.tmp 19))⟩]) (.cond (.tmp 20) (.seq (.ops [
  ⟨(some 21), none, (.build [(.slice none 0 0)] [])⟩,
  ⟨none, none, (.store 1 (.tmp 4) (.tmp 21))⟩,
  ⟨(some 5), none, (.asg (.const (.int .i64 7)))⟩]) .ret) .skip)) (.seq (.seq (.ops [
  ⟨(some 22), none, (.fa 0 (.tmp 6))⟩,
  ⟨(some 23), none, (.load 1 false (.tmp 22))⟩,
  ⟨(some 24), none, (.len (.tmp 23))⟩,
  ⟨(some 25), none, (.bin .gtr (.tmp 24) (.const (.int .i64 500)))⟩]) (.cond (.tmp 25) (.seq (.ops [
  ⟨(some 26), none, (.build [(.slice none 0 0)] [])⟩,
  ⟨none, none, (.store 1 (.tmp 4) (.tmp 26))⟩,
  ⟨(some 5), none, (.asg (.const (.int .i64 4)))⟩]) .ret) .skip)) (.seq (.ops [
  ⟨(some 27), none, (.load 1 true (.tmp 6))⟩,
  ⟨none, none, (.store 1 (.tmp 4) (.tmp 27))⟩,
  ⟨(some 5), none, (.asg (.const (.int .i64 0)))⟩]) .ret))))))
theorem law_spec_JoinAssemblies {a0 a1 d : D} (h : code_spec_JoinAssemblies.wp (CT Try.prog NoG) (endQ [(.c 4 1 true), (.t 5)] d) [a0, a1, .undef, .undef, .undef, .undef, .undef, .undef, .undef, .undef, .undef, .undef, .undef, .undef, .undef, .undef, .undef, .undef, .undef, .undef, .undef, .undef, .undef, .undef, .undef, .undef, .undef, .undef]) : Contract Try.prog NoG 6 [a0, a1] d :=
  contract_of (pt := 0) noG Try.func6 (fun us W => by kernel_rfl) (c := Try.f6.body.getD .skip) (ms := []) (ms' := []) (by kernel_rfl) (by kernel_rfl) (by kernel_rfl) h
def code_impl_JoinAssemblies : VCode := (.seq (.ops [
  ⟨(some 2), none, (.box (.tmp 0))⟩,
  ⟨(some 3), none, (.box (.tmp 1))⟩,
  ⟨(some 4), none, (.alloc [(.slice none 0 0)])⟩,
  ⟨(some 5), none, (.asg (.const (.int .i64 0)))⟩]) (.seq (.seq (.ops [
  ⟨(some 8), none, (.load 1 true (.tmp 2))⟩,
  ⟨(some 9), none, (.callX 22 [(.tmp 8)])⟩,
  ⟨(some 10), none, (.un .not (.tmp 9))⟩,
  ⟨(some 11), none, (.mv (.tmp 10))⟩,
  ⟨(some 12), (some (11, false)), (.load 1 true (.tmp 3))⟩,
  ⟨(some 13), (some (11, false)), (.callX 22 [(.tmp 12)])⟩,
  ⟨(some 14), (some (11, false)), (.un .not (.tmp 13))⟩,
  ⟨(some 15), none, (.pick (.tmp 11) (.const (.bool true)) (.tmp 14))⟩]) (.cond (.tmp 15) (.seq (.ops [
  ⟨(some 16), none, (.build [(.slice none 0 0)] [])⟩,
  ⟨none, none, (.store 1 (.tmp 4) (.tmp 16))⟩,
  ⟨(some 5), none, (.asg (.const (.int .i64 1)))⟩]) .ret) .skip)) (.seq (.ops [
  ⟨(some 18), none, (.load 1 true (.tmp 2))⟩,
  ⟨(some 19), none, (.load 1 true (.tmp 3))⟩,
  ⟨(some 20), none, (.callX 23 [(.tmp 18), (.tmp 19)])⟩,
  ⟨(some 17), none, (.mv (.tmp 20))⟩,
  ⟨(some 21), none, (.ext (.tmp 17) 0)⟩,
  ⟨(some 22), none, (.ext (.tmp 17) 1)⟩,
  ⟨(some 6), none, (.alloc [(.slice none 0 0)])⟩,
  ⟨none, none, (.store 1 (.tmp 6) (.tmp 21))⟩,
  ⟨(some 7), none, (.asg (.tmp 22))⟩]) (.seq (.block 0 (.seq (.ops [
  ⟨(some 24), none, (.mv (.tmp 7))⟩,
  ⟨(some 25), none, (.un .not (.tmp 24))⟩,
  ⟨(some 23), none, (.asg (.tmp 25))⟩]) (.cond (.tmp 23) (.seq (.ops [
  ⟨(some 26), none, (.build [(.slice none 0 0)] [])⟩,
  ⟨none, none, (.store 1 (.tmp 4) (.tmp 26))⟩,
  ⟨(some 5), none, (.asg (.const (.int .i64 7)))⟩]) .ret) (.seq (.ops [
  ⟨(some 28), none, (.fa 0 (.tmp 6))⟩,
  ⟨(some 29), none, (.load 1 false (.tmp 28))⟩,
  ⟨(some 30), none, (.len (.tmp 29))⟩,
  ⟨(some 31), none, (.bin .gtr (.tmp 30) (.const (.int .i64 500)))⟩,
  ⟨(some 27), none, (.asg (.tmp 31))⟩]) (.cond (.tmp 27) (.seq (.ops [
  ⟨(some 32), none, (.build [(.slice none 0 0)] [])⟩,
  ⟨none, none, (.store 1 (.tmp 4) (.tmp 32))⟩,
  ⟨(some 5), none, (.asg (.const (.int .i64 4)))⟩]) .ret) .skip))))) (.seq (.ops [
  ⟨(some 33), none, (.load 1 true (.tmp 6))⟩,
  ⟨none, none, (.store 1 (.tmp 4) (.tmp 33))⟩,
  ⟨(some 5), none, (.asg (.const (.int .i64 0)))⟩]) .ret)))))
theorem law_impl_JoinAssemblies {a0 a1 d : D} (h : code_impl_JoinAssemblies.wp (CT Try.prog NoG) (endQ [(.c 4 1 true), (.t 5)] d) [a0, a1, .undef, .undef, .undef, .undef, .undef, .undef, .undef, .undef, .undef, .undef, .undef, .undef, .undef, .undef, .undef, .undef, .undef, .undef, .undef, .undef, .undef, .undef, .undef, .undef, .undef, .undef, .undef, .undef, .undef, .undef, .undef, .undef]) : Contract Try.prog NoG 8 [a0, a1] d :=
  contract_of (pt := 0) noG Try.func8 (fun us W => by kernel_rfl) (c := Try.f8.body.getD .skip) (ms := []) (ms' := []) (by kernel_rfl) (by kernel_rfl) (by kernel_rfl) h
set_option maxHeartbeats 1000000 in
theorem vJoinAssemblies_spec (q_aA : Assembly) (q_aA_ok : Assembly.td.ok q_aA) (q_aA_n : Assembly.cnt q_aA ≤ 1048576) (q_aB : Assembly) (q_aB_ok : Assembly.td.ok q_aB) (q_aB_n : Assembly.cnt q_aB ≤ 1048576) : Contract Try.prog NoG 6 [.agg (Assembly.td.d false q_aA), .agg (Assembly.td.d false q_aB)] (.tup [.agg (Assembly.td.d true (joinA q_aA q_aB)), .v (.int .i64 (joinC q_aA q_aB))]) := by
  have la := asm_len q_aA_n; have lb := asm_len q_aB_n; have hA := v_l03Form q_aA la; have hB := v_l03Form q_aB lb; have hJ := v_l03Join q_aA q_aB la lb; simp only [Assembly.td_d] at hA hB ⊢; simp only [Assembly.td_d] at hJ; refine law_spec_JoinAssemblies ?_; unfold code_spec_JoinAssemblies; simp -implicitDefEqProofs (disch := omega) only [go_sem, ↓reduceIte]; cases ha : okForm q_aA.Tiles with
  | false =>
    rw [ha] at hA; have e1 : joinA q_aA q_aB = ⟨[]⟩ := by unfold joinA; rw [ha]; rfl
    have e2 : joinC q_aA q_aB = 1 := (by unfold joinC; rw [ha]; rfl); rw [e1, e2]; refine call_B (hA) (by simp -implicitDefEqProofs (disch := omega) only [go_sem, ↓reduceIte, deep, TD.rows, immLL_rI, immLL_rB8, immLL_rS, immLL_rBo, immLL_rII, immLL_rIIt]; exact rfl) ?_; simp -implicitDefEqProofs (disch := omega) only [go_sem, ↓reduceIte]
    all_goals first | rfl | exact ⟨rfl, rfl⟩
  | true =>
  rw [ha] at hA; cases hb : okForm q_aB.Tiles with
  | false =>
    rw [hb] at hB; have e1 : joinA q_aA q_aB = ⟨[]⟩ := by unfold joinA; rw [ha, hb]; rfl
    have e2 : joinC q_aA q_aB = 1 := (by unfold joinC; rw [ha, hb]; rfl); rw [e1, e2]; refine call_B (hA) (by simp -implicitDefEqProofs (disch := omega) only [go_sem, ↓reduceIte, deep, TD.rows, immLL_rI, immLL_rB8, immLL_rS, immLL_rBo, immLL_rII, immLL_rIIt]; exact rfl) ?_; simp -implicitDefEqProofs (disch := omega) only [go_sem, ↓reduceIte]; refine call_B (hB) (by simp -implicitDefEqProofs (disch := omega) only [go_sem, ↓reduceIte, deep, TD.rows, immLL_rI, immLL_rB8, immLL_rS, immLL_rBo, immLL_rII, immLL_rIIt]; exact rfl) ?_; simp -implicitDefEqProofs (disch := omega) only [go_sem, ↓reduceIte]
    all_goals first | rfl | exact ⟨rfl, rfl⟩
  | true =>
  rw [hb] at hB; have e1 : joinA q_aA q_aB = joinK (mrgJ q_aA.Tiles q_aB.Tiles) := by unfold joinA; rw [ha, hb]; rfl
  have e2 : joinC q_aA q_aB = joinE (mrgJ q_aA.Tiles q_aB.Tiles) := (by unfold joinC; rw [ha, hb]; rfl); rw [e1, e2]; cases hm : mrgJ q_aA.Tiles q_aB.Tiles with
  | none =>
    rw [hm] at hJ; simp only [Option.getD_none, Option.isSome_none, List.map_nil] at hJ; refine call_B (hA) (by simp -implicitDefEqProofs (disch := omega) only [go_sem, ↓reduceIte, deep, TD.rows, immLL_rI, immLL_rB8, immLL_rS, immLL_rBo, immLL_rII, immLL_rIIt]; exact rfl) ?_; simp -implicitDefEqProofs (disch := omega) only [go_sem, ↓reduceIte]; refine call_B (hB) (by simp -implicitDefEqProofs (disch := omega) only [go_sem, ↓reduceIte, deep, TD.rows, immLL_rI, immLL_rB8, immLL_rS, immLL_rBo, immLL_rII, immLL_rIIt]; exact rfl) ?_; simp -implicitDefEqProofs (disch := omega) only [go_sem, ↓reduceIte]; refine call_B (hJ) (by simp -implicitDefEqProofs (disch := omega) only [go_sem, ↓reduceIte, deep, TD.rows, immLL_rI, immLL_rB8, immLL_rS, immLL_rBo, immLL_rII, immLL_rIIt]; exact rfl) ?_; simp -implicitDefEqProofs (disch := omega) only [go_sem, ↓reduceIte]
    all_goals first | rfl | exact ⟨rfl, rfl⟩
  | some m =>
    rw [hm] at hJ; simp only [Option.getD_some, Option.isSome_some] at hJ; by_cases hl : 500 < m.length
    · have d1 : decide ((500 : Int) < (m.length : Int)) = true := (by rw [decide_eq_true_eq]; omega); have e3 : joinK (some m) = ⟨[]⟩ := if_pos hl; have e4 : joinE (some m) = 4 := if_pos hl; rw [e3, e4]; refine call_B (hA) (by simp -implicitDefEqProofs (disch := omega) only [go_sem, ↓reduceIte, deep, TD.rows, immLL_rI, immLL_rB8, immLL_rS, immLL_rBo, immLL_rII, immLL_rIIt]; exact rfl) ?_; simp -implicitDefEqProofs (disch := omega) only [go_sem, ↓reduceIte]; refine call_B (hB) (by simp -implicitDefEqProofs (disch := omega) only [go_sem, ↓reduceIte, deep, TD.rows, immLL_rI, immLL_rB8, immLL_rS, immLL_rBo, immLL_rII, immLL_rIIt]; exact rfl) ?_; simp -implicitDefEqProofs (disch := omega) only [go_sem, ↓reduceIte]; refine call_B (hJ) (by simp -implicitDefEqProofs (disch := omega) only [go_sem, ↓reduceIte, deep, TD.rows, immLL_rI, immLL_rB8, immLL_rS, immLL_rBo, immLL_rII, immLL_rIIt, List.length_map, d1]; exact rfl) ?_; simp -implicitDefEqProofs (disch := omega) only [go_sem, ↓reduceIte , List.length_map, d1]
      all_goals first | rfl | exact ⟨rfl, rfl⟩
    · have d1 : decide ((500 : Int) < (m.length : Int)) = false := (by rw [decide_eq_false_iff_not]; omega); have e3 : joinK (some m) = ⟨m⟩ := if_neg hl; have e4 : joinE (some m) = 0 := if_neg hl; rw [e3, e4]; refine call_B (hA) (by simp -implicitDefEqProofs (disch := omega) only [go_sem, ↓reduceIte, deep, TD.rows, immLL_rI, immLL_rB8, immLL_rS, immLL_rBo, immLL_rII, immLL_rIIt]; exact rfl) ?_; simp -implicitDefEqProofs (disch := omega) only [go_sem, ↓reduceIte]; refine call_B (hB) (by simp -implicitDefEqProofs (disch := omega) only [go_sem, ↓reduceIte, deep, TD.rows, immLL_rI, immLL_rB8, immLL_rS, immLL_rBo, immLL_rII, immLL_rIIt]; exact rfl) ?_; simp -implicitDefEqProofs (disch := omega) only [go_sem, ↓reduceIte]; refine call_B (hJ) (by simp -implicitDefEqProofs (disch := omega) only [go_sem, ↓reduceIte, deep, TD.rows, immLL_rI, immLL_rB8, immLL_rS, immLL_rBo, immLL_rII, immLL_rIIt, List.length_map, d1]; exact rfl) ?_; simp -implicitDefEqProofs (disch := omega) only [go_sem, ↓reduceIte , List.length_map, d1]
set_option maxHeartbeats 1000000 in
theorem vJoinAssemblies_impl (q_aA : Assembly) (q_aA_ok : Assembly.td.ok q_aA) (q_aA_n : Assembly.cnt q_aA ≤ 1048576) (q_aB : Assembly) (q_aB_ok : Assembly.td.ok q_aB) (q_aB_n : Assembly.cnt q_aB ≤ 1048576) : Contract Try.prog NoG 8 [.agg (Assembly.td.d false q_aA), .agg (Assembly.td.d false q_aB)] (.tup [.agg (Assembly.td.d true (joinA q_aA q_aB)), .v (.int .i64 (joinC q_aA q_aB))]) := by
  have la := asm_len q_aA_n; have lb := asm_len q_aB_n; have hA := v_hasForm q_aA la; have hB := v_hasForm q_aB lb; have hJ := v_joined q_aA q_aB; simp only [Assembly.td_d] at hA hB ⊢; simp only [Assembly.td_d] at hJ; refine law_impl_JoinAssemblies ?_; unfold code_impl_JoinAssemblies; simp -implicitDefEqProofs (disch := omega) only [go_sem, ↓reduceIte]; cases ha : okForm q_aA.Tiles with
  | false =>
    rw [ha] at hA; have e1 : joinA q_aA q_aB = ⟨[]⟩ := by unfold joinA; rw [ha]; rfl
    have e2 : joinC q_aA q_aB = 1 := (by unfold joinC; rw [ha]; rfl); rw [e1, e2]; refine call_B (hA) (by simp -implicitDefEqProofs (disch := omega) only [go_sem, ↓reduceIte, deep, TD.rows, immLL_rI, immLL_rB8, immLL_rS, immLL_rBo, immLL_rII, immLL_rIIt]; exact rfl) ?_; simp -implicitDefEqProofs (disch := omega) only [go_sem, ↓reduceIte]
    all_goals first | rfl | exact ⟨rfl, rfl⟩
  | true =>
  rw [ha] at hA; cases hb : okForm q_aB.Tiles with
  | false =>
    rw [hb] at hB; have e1 : joinA q_aA q_aB = ⟨[]⟩ := by unfold joinA; rw [ha, hb]; rfl
    have e2 : joinC q_aA q_aB = 1 := (by unfold joinC; rw [ha, hb]; rfl); rw [e1, e2]; refine call_B (hA) (by simp -implicitDefEqProofs (disch := omega) only [go_sem, ↓reduceIte, deep, TD.rows, immLL_rI, immLL_rB8, immLL_rS, immLL_rBo, immLL_rII, immLL_rIIt]; exact rfl) ?_; simp -implicitDefEqProofs (disch := omega) only [go_sem, ↓reduceIte]; refine call_B (hB) (by simp -implicitDefEqProofs (disch := omega) only [go_sem, ↓reduceIte, deep, TD.rows, immLL_rI, immLL_rB8, immLL_rS, immLL_rBo, immLL_rII, immLL_rIIt]; exact rfl) ?_; simp -implicitDefEqProofs (disch := omega) only [go_sem, ↓reduceIte]
    all_goals first | rfl | exact ⟨rfl, rfl⟩
  | true =>
  rw [hb] at hB
  replace hJ := hJ ha hb
  rw [join_eq ha hb] at hJ; have e1 : joinA q_aA q_aB = joinK (mrgJ q_aA.Tiles q_aB.Tiles) := by unfold joinA; rw [ha, hb]; rfl
  have e2 : joinC q_aA q_aB = joinE (mrgJ q_aA.Tiles q_aB.Tiles) := (by unfold joinC; rw [ha, hb]; rfl); rw [e1, e2]; cases hm : mrgJ q_aA.Tiles q_aB.Tiles with
  | none =>
    rw [hm] at hJ; simp only [Option.getD_none, Option.isSome_none, List.map_nil] at hJ; refine call_B (hA) (by simp -implicitDefEqProofs (disch := omega) only [go_sem, ↓reduceIte, deep, TD.rows, immLL_rI, immLL_rB8, immLL_rS, immLL_rBo, immLL_rII, immLL_rIIt]; exact rfl) ?_; simp -implicitDefEqProofs (disch := omega) only [go_sem, ↓reduceIte]; refine call_B (hB) (by simp -implicitDefEqProofs (disch := omega) only [go_sem, ↓reduceIte, deep, TD.rows, immLL_rI, immLL_rB8, immLL_rS, immLL_rBo, immLL_rII, immLL_rIIt]; exact rfl) ?_; simp -implicitDefEqProofs (disch := omega) only [go_sem, ↓reduceIte]; refine call_B (hJ) (by simp -implicitDefEqProofs (disch := omega) only [go_sem, ↓reduceIte, deep, TD.rows, immLL_rI, immLL_rB8, immLL_rS, immLL_rBo, immLL_rII, immLL_rIIt]; exact rfl) ?_; simp -implicitDefEqProofs (disch := omega) only [go_sem, ↓reduceIte]
    all_goals first | rfl | exact ⟨rfl, rfl⟩
  | some m =>
    rw [hm] at hJ; simp only [Option.getD_some, Option.isSome_some] at hJ; by_cases hl : 500 < m.length
    · have d1 : decide ((500 : Int) < (m.length : Int)) = true := (by rw [decide_eq_true_eq]; omega); have e3 : joinK (some m) = ⟨[]⟩ := if_pos hl; have e4 : joinE (some m) = 4 := if_pos hl; rw [e3, e4]; refine call_B (hA) (by simp -implicitDefEqProofs (disch := omega) only [go_sem, ↓reduceIte, deep, TD.rows, immLL_rI, immLL_rB8, immLL_rS, immLL_rBo, immLL_rII, immLL_rIIt]; exact rfl) ?_; simp -implicitDefEqProofs (disch := omega) only [go_sem, ↓reduceIte]; refine call_B (hB) (by simp -implicitDefEqProofs (disch := omega) only [go_sem, ↓reduceIte, deep, TD.rows, immLL_rI, immLL_rB8, immLL_rS, immLL_rBo, immLL_rII, immLL_rIIt]; exact rfl) ?_; simp -implicitDefEqProofs (disch := omega) only [go_sem, ↓reduceIte]; refine call_B (hJ) (by simp -implicitDefEqProofs (disch := omega) only [go_sem, ↓reduceIte, deep, TD.rows, immLL_rI, immLL_rB8, immLL_rS, immLL_rBo, immLL_rII, immLL_rIIt, List.length_map, d1]; exact rfl) ?_; simp -implicitDefEqProofs (disch := omega) only [go_sem, ↓reduceIte , List.length_map, d1]
      all_goals first | rfl | exact ⟨rfl, rfl⟩
    · have d1 : decide ((500 : Int) < (m.length : Int)) = false := (by rw [decide_eq_false_iff_not]; omega); have e3 : joinK (some m) = ⟨m⟩ := if_neg hl; have e4 : joinE (some m) = 0 := if_neg hl; rw [e3, e4]; refine call_B (hA) (by simp -implicitDefEqProofs (disch := omega) only [go_sem, ↓reduceIte, deep, TD.rows, immLL_rI, immLL_rB8, immLL_rS, immLL_rBo, immLL_rII, immLL_rIIt]; exact rfl) ?_; simp -implicitDefEqProofs (disch := omega) only [go_sem, ↓reduceIte]; refine call_B (hB) (by simp -implicitDefEqProofs (disch := omega) only [go_sem, ↓reduceIte, deep, TD.rows, immLL_rI, immLL_rB8, immLL_rS, immLL_rBo, immLL_rII, immLL_rIIt]; exact rfl) ?_; simp -implicitDefEqProofs (disch := omega) only [go_sem, ↓reduceIte]; refine call_B (hJ) (by simp -implicitDefEqProofs (disch := omega) only [go_sem, ↓reduceIte, deep, TD.rows, immLL_rI, immLL_rB8, immLL_rS, immLL_rBo, immLL_rII, immLL_rIIt, List.length_map, d1]; exact rfl) ?_; simp -implicitDefEqProofs (disch := omega) only [go_sem, ↓reduceIte , List.length_map, d1]
theorem joinA_mem {a b : Assembly} {x : Placed} (h : x ∈ (joinA a b).Tiles) : okForm a.Tiles = true ∧ okForm b.Tiles = true ∧ (x ∈ a.Tiles ∨ x ∈ b.Tiles) ∧ (joinA a b).Tiles.length ≤ 500 := by
  unfold joinA at h ⊢; split at h
  · rename_i hab; rw [Bool.and_eq_true] at hab; rw [if_pos (by rw [Bool.and_eq_true]; exact hab)]; cases hm : mrgJ a.Tiles b.Tiles with
    | none => rw [hm] at h; simp [joinK] at h
    | some m =>
      rw [hm] at h; have hj := join_eq hab.1 hab.2; rw [hm] at hj; unfold joinR at hj; unfold joinK at h ⊢; simp only at h ⊢; split at h
      · simp at h
      · rename_i hl; rw [if_neg hl]; split at hj
        · cases hj
        · have hj := Option.some.inj hj; refine ⟨hab.1, hab.2, ?_, by simp only; omega⟩; simp only at h; rw [← hj, (sortJ_perm _).mem_iff, List.mem_append] at h; rcases h with h | h
          · exact .inl h
          · exact .inr (List.mem_filter.1 h).1
  · simp at h
def difA (us vs : List Placed) : Option Placed := us.find? (fun t => decide (0 ≤ tileA vs t.At) && !decide (tileA vs t.At = t.Tile))
def code_impl_FirstDifference : VCode := (.seq (.ops [
  ⟨(some 2), none, (.box (.tmp 0))⟩,
  ⟨(some 3), none, (.box (.tmp 1))⟩,
  ⟨(some 4), none, (.alloc [(.int .i64 0), (.int .i64 0)])⟩,
  ⟨(some 5), none, (.asg (.const (.int .i64 0)))⟩]) (.seq (.seq (.ops [
  ⟨(some 9), none, (.load 1 true (.tmp 2))⟩,
  ⟨(some 10), none, (.callX 22 [(.tmp 9)])⟩,
  ⟨(some 11), none, (.un .not (.tmp 10))⟩,
  ⟨(some 12), none, (.mv (.tmp 11))⟩,
  ⟨(some 13), (some (12, false)), (.load 1 true (.tmp 3))⟩,
  ⟨(some 14), (some (12, false)), (.callX 22 [(.tmp 13)])⟩,
  ⟨(some 15), (some (12, false)), (.un .not (.tmp 14))⟩,
  ⟨(some 16), none, (.pick (.tmp 12) (.const (.bool true)) (.tmp 15))⟩]) (.cond (.tmp 16) (.seq (.ops [
  ⟨(some 17), none, (.build [(.int .i64 0), (.int .i64 0)] [])⟩,
  ⟨none, none, (.store 2 (.tmp 4) (.tmp 17))⟩,
  ⟨(some 5), none, (.asg (.const (.int .i64 1)))⟩]) .ret) .skip)) (.seq (.seq (.ops [
  ⟨(some 18), none, (.fa 0 (.tmp 2))⟩,
  ⟨(some 19), none, (.load 1 false (.tmp 18))⟩,
  ⟨(some 20), none, (.len (.tmp 19))⟩,
  ⟨(some 21), none, (.mv (.const (.int .i64 0)))⟩]) (.block 0 (.loop (mB 41 2199019323363) (.seq (.ops [
  ⟨(some 22), none, (.bin .lss (.tmp 21) (.tmp 20))⟩]) (.seq (.cond (.tmp 22) .skip (.exit 0)) (.seq (.block 1 (.seq (.ops [
  ⟨(some 23), none, (.ia 3 (.tmp 19) (.tmp 21))⟩,
  ⟨(some 24), none, (.load 3 true (.tmp 23))⟩,
  ⟨(some 7), none, (.alloc [(.int .i64 0), (.int .i64 0), (.int .i64 0)])⟩,
  ⟨none, none, (.store 3 (.tmp 7) (.tmp 24))⟩]) (.seq (.ops [
  ⟨(some 25), none, (.load 1 true (.tmp 3))⟩,
  ⟨(some 26), none, (.fa 0 (.tmp 7))⟩,
  ⟨(some 27), none, (.load 2 true (.tmp 26))⟩,
  ⟨(some 28), none, (.callX 30 [(.tmp 25), (.tmp 27)])⟩,
  ⟨(some 8), none, (.asg (.tmp 28))⟩]) (.seq (.ops [
  ⟨(some 29), none, (.mv (.tmp 8))⟩,
  ⟨(some 30), none, (.bin .geq (.tmp 29) (.const (.int .i64 0)))⟩,
  ⟨(some 31), none, (.mv (.tmp 30))⟩,
  ⟨(some 32), (some (31, true)), (.mv (.tmp 8))⟩,
  ⟨(some 33), (some (31, true)), (.fa 2 (.tmp 7))⟩,
  ⟨(some 34), (some (31, true)), (.load 1 false (.tmp 33))⟩,
  ⟨(some 35), (some (31, true)), (.bin .neq (.tmp 32) (.tmp 34))⟩,
  ⟨(some 36), none, (.pick (.tmp 31) (.tmp 35) (.const (.bool false)))⟩]) (.cond (.tmp 36) (.seq (.ops [
  ⟨(some 37), none, (.fa 0 (.tmp 7))⟩,
  ⟨(some 38), none, (.load 2 true (.tmp 37))⟩,
  ⟨none, none, (.store 2 (.tmp 4) (.tmp 38))⟩,
  ⟨(some 5), none, (.asg (.const (.int .i64 0)))⟩]) .ret) .skip))))) (.ops [
  ⟨(some 39), none, (.bin .add (.tmp 21) (.const (.int .i64 1)))⟩,
  ⟨(some 21), none, (.mv (.tmp 39))⟩]))))))) (.seq (.ops [
  ⟨(some 40), none, (.build [(.int .i64 0), (.int .i64 0)] [])⟩,
  ⟨none, none, (.store 2 (.tmp 4) (.tmp 40))⟩,
  ⟨(some 5), none, (.asg (.const (.int .i64 3)))⟩]) .ret))))
theorem law_impl_FirstDifference {a0 a1 d : D} (h : code_impl_FirstDifference.wp (CT Try.prog NoG) (endQ [(.c 4 2 true), (.t 5)] d) [a0, a1, .undef, .undef, .undef, .undef, .undef, .undef, .undef, .undef, .undef, .undef, .undef, .undef, .undef, .undef, .undef, .undef, .undef, .undef, .undef, .undef, .undef, .undef, .undef, .undef, .undef, .undef, .undef, .undef, .undef, .undef, .undef, .undef, .undef, .undef, .undef, .undef, .undef, .undef, .undef]) : Contract Try.prog NoG 15 [a0, a1] d :=
  contract_of (pt := 0) noG Try.func15 (fun us W => by kernel_rfl) (c := Try.f15.body.getD .skip) (ms := [(mB 41 2199019323363)]) (ms' := []) (by kernel_rfl) (by kernel_rfl) (by kernel_rfl) h
def code_impl_TileAt : VCode := (.seq (.ops [
  ⟨(some 2), none, (.box (.tmp 0))⟩,
  ⟨(some 3), none, (.box (.tmp 1))⟩,
  ⟨(some 4), none, (.asg (.const (.int .i64 0)))⟩,
  ⟨(some 5), none, (.asg (.const (.bool false)))⟩]) (.seq (.seq (.ops [
  ⟨(some 6), none, (.load 1 true (.tmp 2))⟩,
  ⟨(some 7), none, (.callX 22 [(.tmp 6)])⟩,
  ⟨(some 8), none, (.un .not (.tmp 7))⟩,
  ⟨(some 9), none, (.mv (.tmp 8))⟩,
  ⟨(some 10), (some (9, false)), (.load 1 true (.tmp 2))⟩,
  ⟨(some 11), (some (9, false)), (.load 2 true (.tmp 3))⟩,
  ⟨(some 12), (some (9, false)), (.callX 30 [(.tmp 10), (.tmp 11)])⟩,
  ⟨(some 13), (some (9, false)), (.bin .lss (.tmp 12) (.const (.int .i64 0)))⟩,
  ⟨(some 14), none, (.pick (.tmp 9) (.const (.bool true)) (.tmp 13))⟩]) (.cond (.tmp 14) (.seq (.ops [
  ⟨(some 4), none, (.asg (.const (.int .i64 0)))⟩,
  ⟨(some 5), none, (.asg (.const (.bool false)))⟩]) .ret) .skip)) (.seq (.ops [
  ⟨(some 15), none, (.load 1 true (.tmp 2))⟩,
  ⟨(some 16), none, (.load 2 true (.tmp 3))⟩,
  ⟨(some 17), none, (.callX 30 [(.tmp 15), (.tmp 16)])⟩,
  ⟨(some 4), none, (.asg (.tmp 17))⟩,
  ⟨(some 5), none, (.asg (.const (.bool true)))⟩]) .ret)))
theorem law_impl_TileAt {a0 a1 d : D} (h : code_impl_TileAt.wp (CT Try.prog NoG) (endQ [(.t 4), (.t 5)] d) [a0, a1, .undef, .undef, .undef, .undef, .undef, .undef, .undef, .undef, .undef, .undef, .undef, .undef, .undef, .undef, .undef, .undef]) : Contract Try.prog NoG 16 [a0, a1] d :=
  contract_of (pt := 0) noG Try.func16 (fun us W => by kernel_rfl) (c := Try.f16.body.getD .skip) (ms := []) (ms' := []) (by kernel_rfl) (by kernel_rfl) (by kernel_rfl) h
def code_impl_IsWithin_1 : VCode := (.seq (.ops [
  ⟨(some 2), none, (.box (.tmp 0))⟩,
  ⟨(some 3), none, (.asg (.const (.bool false)))⟩]) (.seq (.draw [false, false, false, false, true, true, true, true, true, true] [] [⟨0, [false, false, false, false, true, true, true, true, true, true], [], ⟨(some 4), none, (.load 1 true (.tmp 1))⟩⟩, ⟨1, [false, false, false, false, true, true, true, true, true, true], [], ⟨(some 5), none, (.fa 0 (.tmp 2))⟩⟩, ⟨2, [false, false, false, false, true, false, true, true, true, true], [], ⟨(some 6), none, (.load 2 true (.tmp 5))⟩⟩, ⟨3, [false, false, false, false, false, false, false, true, true, true], [], ⟨(some 7), none, (.call 30 [(.tmp 4), (.tmp 6)])⟩⟩, ⟨4, [false, false, false, false, true, true, true, true, true, true], [], ⟨(some 8), none, (.fa 2 (.tmp 2))⟩⟩, ⟨5, [false, false, false, false, true, true, true, true, false, true], [], ⟨(some 9), none, (.load 1 false (.tmp 8))⟩⟩] [⟨(some 10), none, (.bin .neq (.tmp 7) (.tmp 9))⟩, ⟨(some 3), none, (.asg (.tmp 10))⟩]) .ret))
theorem law_impl_IsWithin_1 {a0 a1 d : D} (h : code_impl_IsWithin_1.wp (CT Try.prog NoG) (endQ [(.t 3)] d) [a0, a1, .undef, .undef, .undef, .undef, .undef, .undef, .undef, .undef, .undef]) : Contract Try.prog NoG 32 [a0, a1] d :=
  contract_of (pt := 0) noG Try.func32 (fun us W => by kernel_rfl) (c := Try.f32.body.getD .skip) (ms := []) (ms' := []) (by kernel_rfl) (by kernel_rfl) (by kernel_rfl) h
def code_impl_IsWithin : VCode := (.seq (.ops [
  ⟨(some 2), none, (.box (.tmp 0))⟩,
  ⟨(some 3), none, (.box (.tmp 1))⟩,
  ⟨(some 4), none, (.asg (.const (.bool false)))⟩]) (.seq (.ops [
  ⟨(some 5), none, (.load 1 true (.tmp 2))⟩,
  ⟨(some 6), none, (.callX 22 [(.tmp 5)])⟩,
  ⟨(some 7), none, (.mv (.tmp 6))⟩,
  ⟨(some 8), (some (7, true)), (.load 1 true (.tmp 3))⟩,
  ⟨(some 9), (some (7, true)), (.callX 22 [(.tmp 8)])⟩,
  ⟨(some 10), none, (.pick (.tmp 7) (.tmp 9) (.const (.bool false)))⟩,
  ⟨(some 11), none, (.mv (.tmp 10))⟩,
  ⟨(some 12), (some (11, true)), (.fa 0 (.tmp 2))⟩,
  ⟨(some 13), (some (11, true)), (.load 1 false (.tmp 12))⟩,
  ⟨(some 14), (some (11, true)), (.mkf 32 [] [(.tmp 3)])⟩,
  ⟨(some 15), (some (11, true)), (.callX 31 [(.tmp 13), (.tmp 14)])⟩,
  ⟨(some 16), (some (11, true)), (.un .not (.tmp 15))⟩,
  ⟨(some 17), none, (.pick (.tmp 11) (.tmp 16) (.const (.bool false)))⟩,
  ⟨(some 4), none, (.asg (.tmp 17))⟩]) .ret))
theorem law_impl_IsWithin {a0 a1 d : D} (h : code_impl_IsWithin.wp (CT Try.prog NoG) (endQ [(.t 4)] d) [a0, a1, .undef, .undef, .undef, .undef, .undef, .undef, .undef, .undef, .undef, .undef, .undef, .undef, .undef, .undef, .undef, .undef]) : Contract Try.prog NoG 17 [a0, a1] d :=
  contract_of (pt := 0) noG Try.func17 (fun us W => by kernel_rfl) (c := Try.f17.body.getD .skip) (ms := []) (ms' := []) (by kernel_rfl) (by kernel_rfl) (by kernel_rfl) h
theorem dif_none {us vs : List Placed} (h : ∀ i (hi : i < us.length), (decide (0 ≤ tileA vs us[i].At) && !decide (tileA vs us[i].At = us[i].Tile)) = false) : difA us vs = none := by unfold difA; rw [List.find?_eq_none]; intro x hx; obtain ⟨i, hi, rfl⟩ := List.getElem_of_mem hx; rw [h i hi]; simp
set_option maxHeartbeats 1000000 in
theorem v_FirstDifference (a b : Assembly) (ha : okForm a.Tiles = true) (hb : okForm b.Tiles = true) : Contract Try.prog NoG 15 [.agg (Assembly.td.d false a), .agg (Assembly.td.d false b)] (.tup [.agg (Point.td.d true (match difA a.Tiles b.Tiles with | some t => t.At | none => ⟨0, 0⟩)), .v (.int .i64 (match difA a.Tiles b.Tiles with | some _ => 0 | none => 3))]) := by
  obtain ⟨sa, la, pa⟩ := form_strict ha; obtain ⟨sb, lb, _⟩ := form_strict hb; have hA := v_hasForm a (by omega); have hB := v_hasForm b (by omega); rw [ha] at hA; rw [hb] at hB; simp only [Assembly.td_d, Point.td_d] at hA hB ⊢; refine law_impl_FirstDifference ?_; unfold code_impl_FirstDifference; simp -implicitDefEqProofs (disch := omega) only [go_sem, ↓reduceIte]; refine call_B (hA) (by simp -implicitDefEqProofs (disch := omega) only [go_sem, ↓reduceIte, deep, TD.rows, immLL_rI, immLL_rB8, immLL_rS, immLL_rBo, immLL_rII, immLL_rIIt]; exact rfl) ?_; simp -implicitDefEqProofs (disch := omega) only [go_sem, ↓reduceIte]; refine call_B (hB) (by simp -implicitDefEqProofs (disch := omega) only [go_sem, ↓reduceIte, deep, TD.rows, immLL_rI, immLL_rB8, immLL_rS, immLL_rBo, immLL_rII, immLL_rIIt, List.length_map]; exact rfl) ?_; simp -implicitDefEqProofs (disch := omega) only [go_sem, ↓reduceIte , List.length_map]; refine loop_ov (by simp -implicitDefEqProofs (disch := omega) only [go_sem, ↓reduceIte]; exact rfl) (fun i : Nat => [(21, .v (.int .i64 (i : Nat)))]) (fun _ => by simp only [ovr_nil, ovr_cons, List.set_cons_zero, List.set_cons_succ]; exact rfl) (fun i : Nat => i ≤ a.Tiles.length ∧ ∀ j (hj : j < a.Tiles.length), j < i → (decide (0 ≤ tileA b.Tiles a.Tiles[j].At) && !decide (tileA b.Tiles a.Tiles[j].At = a.Tiles[j].Tile)) = false) (fun i : Nat => a.Tiles.length - i) (0) (nleA) (?_) ?_
  · exact ⟨Nat.zero_le _, fun j _ h => absurd h (by omega)⟩
  rintro i ⟨hi, hal⟩; simp -implicitDefEqProofs (disch := omega) only [go_sem, ↓reduceIte , List.length_map, Int.toNat_natCast, Int.ofNat_lt, Int.natCast_nonneg, List.getElem?_map, Option.map_some]; refine cond_split ?_ ?_ <;> intro hlt
  · have hlt : i < a.Tiles.length := (by simpa using hlt); have e1 := List.getElem?_eq_getElem hlt; have hT := v_at b a.Tiles[i].At (by omega); simp only [Assembly.td_d, Point.td_d] at hT; have next : (decide (0 ≤ tileA b.Tiles a.Tiles[i].At) && !decide (tileA b.Tiles a.Tiles[i].At = a.Tiles[i].Tile)) = false → ∀ j (hj : j < a.Tiles.length), j < i + 1 → (decide (0 ≤ tileA b.Tiles a.Tiles[j].At) && !decide (tileA b.Tiles a.Tiles[j].At = a.Tiles[j].Tile)) = false := fun h j hj hji => by
      by_cases hji2 : j < i
      · exact hal j hj hji2
      · obtain rfl : j = i := (by omega); exact h
    cases d1 : decide (0 ≤ tileA b.Tiles a.Tiles[i].At) with
    | false => simp -implicitDefEqProofs (disch := omega) only [go_sem, ↓reduceIte , List.length_map, Int.toNat_natCast, Int.ofNat_lt, Int.natCast_nonneg, List.getElem?_map, Option.map_some, hlt, e1, Placed.td_d]; refine call_B (hT) (by simp -implicitDefEqProofs (disch := omega) only [go_sem, ↓reduceIte, deep, TD.rows, immLL_rI, immLL_rB8, immLL_rS, immLL_rBo, immLL_rII, immLL_rIIt, d1, wrN]; exact rfl) ?_; simp -implicitDefEqProofs (disch := omega) only [go_sem, ↓reduceIte , d1, wrN]; exact ⟨i + 1, by omega, ⟨hlt, next (by rw [d1]; rfl)⟩, nleA⟩
    | true =>
      cases d2 : decide (tileA b.Tiles a.Tiles[i].At = a.Tiles[i].Tile) with
      | true => simp -implicitDefEqProofs (disch := omega) only [go_sem, ↓reduceIte , List.length_map, Int.toNat_natCast, Int.ofNat_lt, Int.natCast_nonneg, List.getElem?_map, Option.map_some, hlt, e1, Placed.td_d]; refine call_B (hT) (by simp -implicitDefEqProofs (disch := omega) only [go_sem, ↓reduceIte, deep, TD.rows, immLL_rI, immLL_rB8, immLL_rS, immLL_rBo, immLL_rII, immLL_rIIt, d1, d2, wrN]; exact rfl) ?_; simp -implicitDefEqProofs (disch := omega) only [go_sem, ↓reduceIte , d1, d2, wrN]; exact ⟨i + 1, by omega, ⟨hlt, next (by rw [d1, d2]; rfl)⟩, nleA⟩
      | false =>
        have hd : difA a.Tiles b.Tiles = some a.Tiles[i] := (by unfold difA; rw [List.find?_eq_some_iff_getElem]; refine ⟨by rw [d1, d2]; rfl, i, hlt, rfl, fun j hj => ?_⟩; rw [hal j (by omega) hj]; rfl); rw [hd]; simp -implicitDefEqProofs (disch := omega) only [go_sem, ↓reduceIte , List.length_map, Int.toNat_natCast, Int.ofNat_lt, Int.natCast_nonneg, List.getElem?_map, Option.map_some, hlt, e1, Placed.td_d]; refine call_B (hT) (by simp -implicitDefEqProofs (disch := omega) only [go_sem, ↓reduceIte, deep, TD.rows, immLL_rI, immLL_rB8, immLL_rS, immLL_rBo, immLL_rII, immLL_rIIt, d1, d2]; exact rfl) ?_; simp -implicitDefEqProofs (disch := omega) only [go_sem, ↓reduceIte , d1, d2]
        all_goals first | rfl | exact ⟨rfl, rfl⟩
  · obtain rfl : i = a.Tiles.length := (by have : ¬ i < a.Tiles.length := (by simpa using hlt); omega); rw [dif_none (fun j hj => hal j hj hj)]; simp -implicitDefEqProofs (disch := omega) only [go_sem, ↓reduceIte]
    all_goals first | rfl | exact ⟨rfl, rfl⟩
theorem v_FirstDifference_bad (a b : Assembly) (la : a.Tiles.length ≤ 1048576) (lb : b.Tiles.length ≤ 1048576) (h : (okForm a.Tiles && okForm b.Tiles) = false) : Contract Try.prog NoG 15 [.agg (Assembly.td.d false a), .agg (Assembly.td.d false b)] (.tup [.agg (Point.td.d true ⟨0, 0⟩), .v (.int .i64 1)]) := by
  have hA := v_hasForm a la; have hB := v_hasForm b lb; simp only [Assembly.td_d, Point.td_d] at hA hB ⊢; refine law_impl_FirstDifference ?_; unfold code_impl_FirstDifference; simp -implicitDefEqProofs (disch := omega) only [go_sem, ↓reduceIte]; cases ha : okForm a.Tiles with
  | false =>
    rw [ha] at hA; refine call_B (hA) (by simp -implicitDefEqProofs (disch := omega) only [go_sem, ↓reduceIte, deep, TD.rows, immLL_rI, immLL_rB8, immLL_rS, immLL_rBo, immLL_rII, immLL_rIIt]; exact rfl) ?_; simp -implicitDefEqProofs (disch := omega) only [go_sem, ↓reduceIte]
    all_goals first | rfl | exact ⟨rfl, rfl⟩
  | true =>
    rw [ha] at hA h; have hb : okForm b.Tiles = false := by simpa using h
    rw [hb] at hB; refine call_B (hA) (by simp -implicitDefEqProofs (disch := omega) only [go_sem, ↓reduceIte, deep, TD.rows, immLL_rI, immLL_rB8, immLL_rS, immLL_rBo, immLL_rII, immLL_rIIt]; exact rfl) ?_; simp -implicitDefEqProofs (disch := omega) only [go_sem, ↓reduceIte]; refine call_B (hB) (by simp -implicitDefEqProofs (disch := omega) only [go_sem, ↓reduceIte, deep, TD.rows, immLL_rI, immLL_rB8, immLL_rS, immLL_rBo, immLL_rII, immLL_rIIt]; exact rfl) ?_; simp -implicitDefEqProofs (disch := omega) only [go_sem, ↓reduceIte]
    all_goals first | rfl | exact ⟨rfl, rfl⟩
theorem v_TileAt (a : Assembly) (p : Point) (ha : okForm a.Tiles = true) (hp : 0 ≤ tileA a.Tiles p) : Contract Try.prog NoG 16 [.agg (Assembly.td.d false a), .agg (Point.td.d false p)] (.tup [.v (.int .i64 (tileA a.Tiles p)), .v (.bool true)]) := by obtain ⟨sa, la, pa⟩ := form_strict ha; have hA := v_hasForm a (by omega); have hT := v_at a p (by omega); have d1 : decide (tileA a.Tiles p < 0) = false := (by rw [decide_eq_false_iff_not]; omega); rw [ha] at hA; simp only [Assembly.td_d, Point.td_d] at hA hT ⊢; refine law_impl_TileAt ?_; unfold code_impl_TileAt; simp -implicitDefEqProofs (disch := omega) only [go_sem, ↓reduceIte]; refine call_B (hA) (by simp -implicitDefEqProofs (disch := omega) only [go_sem, ↓reduceIte, deep, TD.rows, immLL_rI, immLL_rB8, immLL_rS, immLL_rBo, immLL_rII, immLL_rIIt]; exact rfl) ?_; simp -implicitDefEqProofs (disch := omega) only [go_sem, ↓reduceIte]; refine call_B (hT) (by simp -implicitDefEqProofs (disch := omega) only [go_sem, ↓reduceIte, deep, TD.rows, immLL_rI, immLL_rB8, immLL_rS, immLL_rBo, immLL_rII, immLL_rIIt, d1]; exact rfl) ?_; simp -implicitDefEqProofs (disch := omega) only [go_sem, ↓reduceIte , d1]; refine call_B (hT) (by simp -implicitDefEqProofs (disch := omega) only [go_sem, ↓reduceIte, deep, TD.rows, immLL_rI, immLL_rB8, immLL_rS, immLL_rBo, immLL_rII, immLL_rIIt]; exact rfl) ?_; simp -implicitDefEqProofs (disch := omega) only [go_sem, ↓reduceIte]
theorem v_IsWithin1 (b : Assembly) (t : Placed) (hn : b.Tiles.length ≤ 1048576) : Contract Try.prog NoG 32 [.agg (Placed.td.d false t), .iptr (Assembly.td.d false b) 0] (.v (.bool (!decide (tileA b.Tiles t.At = t.Tile)))) := by have hT := v_at b t.At hn; simp only [Assembly.td_d, Placed.td_d, Point.td_d] at hT ⊢; refine law_impl_IsWithin_1 ?_; unfold code_impl_IsWithin_1; simp -implicitDefEqProofs (disch := omega) only [go_sem, ↓reduceIte]; refine call_NB (hT) (by simp -implicitDefEqProofs (disch := omega) only [go_sem, ↓reduceIte, deep, TD.rows, immLL_rI, immLL_rB8, immLL_rS, immLL_rBo, immLL_rII, immLL_rIIt]; exact rfl) ?_; simp -implicitDefEqProofs (disch := omega) only [go_sem, ↓reduceIte]
theorem v_IsWithin (a b : Assembly) (ha : okForm a.Tiles = true) (hb : okForm b.Tiles = true) (hin : ∀ t, t ∈ a.Tiles → tileA b.Tiles t.At = t.Tile) : Contract Try.prog NoG 17 [.agg (Assembly.td.d false a), .agg (Assembly.td.d false b)] (.v (.bool true)) := by obtain ⟨sa, la, pa⟩ := form_strict ha; obtain ⟨sb, lb, pb⟩ := form_strict hb; have hA := v_hasForm a (by omega); have hB := v_hasForm b (by omega); rw [ha] at hA; rw [hb] at hB; have hno : a.Tiles.any (fun t => !decide (tileA b.Tiles t.At = t.Tile)) = false := (by rw [List.any_eq_false]; intro t ht; rw [decide_eq_true (hin t ht)]; simp); have h1 := fun (t : Placed) (_ : t ∈ a.Tiles) => v_IsWithin1 b t (by omega); simp only [Assembly.td_d] at hA hB h1 ⊢; refine law_impl_IsWithin ?_; unfold code_impl_IsWithin; simp -implicitDefEqProofs (disch := omega) only [go_sem, ↓reduceIte]; refine call_B (hA) (by simp -implicitDefEqProofs (disch := omega) only [go_sem, ↓reduceIte, deep, TD.rows, immLL_rI, immLL_rB8, immLL_rS, immLL_rBo, immLL_rII, immLL_rIIt]; exact rfl) ?_; simp -implicitDefEqProofs (disch := omega) only [go_sem, ↓reduceIte]; refine call_B (hB) (by simp -implicitDefEqProofs (disch := omega) only [go_sem, ↓reduceIte, deep, TD.rows, immLL_rI, immLL_rB8, immLL_rS, immLL_rBo, immLL_rII, immLL_rIIt]; exact rfl) ?_; simp -implicitDefEqProofs (disch := omega) only [go_sem, ↓reduceIte]; refine call_B (v_ContainsFunc_Placed _ [.iptr [.sl false 3 (b.Tiles.map (Placed.td.d false))] 0] ⟨rfl, fun _ => rfl, fun _ => rfl, fun _ => rfl⟩ a.Tiles (fun t => !decide (tileA b.Tiles t.At = t.Tile)) h1 (by omega)) (by simp -implicitDefEqProofs (disch := omega) only [go_sem, ↓reduceIte, deep, TD.rows, immLL_rI, immLL_rB8, immLL_rS, immLL_rBo, immLL_rII, immLL_rIIt, hno]; exact rfl) ?_; simp -implicitDefEqProofs (disch := omega) only [go_sem, ↓reduceIte , hno]
end Go.Proofs.Ytjalagigmelcaaa
