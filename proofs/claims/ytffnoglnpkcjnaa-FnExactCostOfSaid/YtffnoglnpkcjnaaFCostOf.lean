/- CostOf: what the program's and the reference's compute. -/
import Derived.Test.YtffnoglnpkcjnaaVAsm
import Derived.Test.YtffnoglnpkcjnaaVSlInt64
set_option linter.all false
namespace Go.Proofs.Ytffnoglnpkcjnaa
open Go.RowKit Go.V
attribute [local go_sem] List.getElem?_cons_succ List.getElem?_cons_zero List.set_cons_succ List.set_cons_zero List.map_cons List.map_nil List.length_cons List.length_nil List.all_cons List.all_nil List.drop_succ_cons List.drop_zero List.take_succ_cons List.take_zero List.flatMap_cons List.flatMap_nil List.cons_append List.nil_append List.append_nil List.headD_cons Value.oneCell' Bool.and_true Bool.true_and Bool.or_false Bool.false_or Bool.and_self Bool.not_true Bool.not_false and_true true_and beq_self_eq_true Bool.false_eq_true if_true if_false Nat.zero_add Nat.le_refl Option.isSome_some Option.isSome_none not_true_eq_false not_false_eq_true ne_eq List.reverse_nil bne_self_eq_false List.isPrefixOf Bool.not_eq_true Bool.and_false Bool.false_and Bool.true_or Bool.or_true decide_true decide_false List.replicate_succ List.replicate_zero exists_eq_left' exists_eq_left or_false or_true true_or false_or Option.map_some Option.map_none
set_option maxRecDepth 100000
/-- The sides of the tiles placed, one behind the other. -/
def sidesOf (a : TileSet) (t : Placed) : List Int := (a.Tiles.getD t.Tile.toNat ⟨⟨#[]⟩, []⟩).Sides
def flatS (a : TileSet) (ps : List Placed) : List Int := ps.flatMap (sidesOf a)
def insU (l : List Int) (g : Int) : List Int := if 0 < g then (if g ∈ l then l else l ++ [g]) else l
def usedU (L : List Int) : List Int := L.foldl insU []
def markB (B : List Bool) (g : Int) : List Bool := B.set g.toNat true
def marksB (n : Nat) (L : List Int) : List Bool := L.foldl markB (List.replicate (n + 1) false)
theorem usedU_next (L : List Int) (g : Int) : usedU (L ++ [g]) = insU (usedU L) g := by unfold usedU; rw [List.foldl_append]; rfl
theorem marksB_next (n : Nat) (L : List Int) (g : Int) : marksB n (L ++ [g]) = markB (marksB n L) g := by unfold marksB; rw [List.foldl_append]; rfl
theorem marksB_len (n : Nat) (L : List Int) : (marksB n L).length = n + 1 := by
  unfold marksB
  have : ∀ (L : List Int) (B : List Bool), (L.foldl markB B).length = B.length := by
    intro L
    induction L with
    | nil => intro B; rfl
    | cons g L ih => intro B; rw [List.foldl_cons, ih]; unfold markB; rw [List.length_set]
  rw [this, List.length_replicate]
theorem count_set : ∀ (B : List Bool) (k : Nat), k < B.length → (B.set k true).count true = B.count true + (if B[k]? = some true then 0 else 1)
  | [], k, h => by simp at h
  | b :: B, 0, _ => by cases b <;> simp
  | b :: B, k + 1, h => by
    have ih := count_set B k (by simpa using h)
    simp only [List.set_cons_succ, List.getElem?_cons_succ, List.count_cons, ih]
    omega
theorem tail_set (B : List Bool) (k : Nat) : (B.set (k + 1) true).tail = B.tail.set k true := by cases B <;> simp
theorem tail_get (B : List Bool) (k : Nat) : B.tail[k]? = B[k + 1]? := by cases B <;> simp
theorem tail_set0 (B : List Bool) (v : Bool) : (B.set 0 v).tail = B.tail := by cases B <;> simp
/-- The marks' number, but for the first, and the list of the glues that are used grow alike. -/
theorem used_marks (n : Nat) : ∀ (L : List Int), (∀ g, g ∈ L → 0 ≤ g ∧ g ≤ n) → (marksB n L).tail.count true = (usedU L).length ∧ ∀ k : Nat, (marksB n L)[k + 1]? = some true ↔ ((k : Int) + 1) ∈ usedU L := by
  intro L
  suffices H : ∀ (M : List Int), (∀ g, g ∈ M.reverse → 0 ≤ g ∧ g ≤ n) → (marksB n M.reverse).tail.count true = (usedU M.reverse).length ∧ ∀ k : Nat, (marksB n M.reverse)[k + 1]? = some true ↔ ((k : Int) + 1) ∈ usedU M.reverse by
    have := H L.reverse
    rwa [List.reverse_reverse] at this
  intro M
  induction M with
  | nil =>
    intro _
    have : marksB n ([] : List Int).reverse = List.replicate (n + 1) false := rfl
    rw [this]
    refine ⟨by simp only [usedU, List.reverse_nil, List.foldl_nil, List.tail_replicate, List.length_nil, List.count_replicate]; rfl, fun k => ?_⟩
    simp only [usedU, List.reverse_nil, List.foldl_nil, List.not_mem_nil, iff_false, List.getElem?_replicate]
    split <;> simp
  | cons g M ih =>
    intro hL
    rw [List.reverse_cons] at hL ⊢
    generalize M.reverse = L at ih hL ⊢
    obtain ⟨i1, i2⟩ := ih (fun x hx => hL x (by simp [hx]))
    obtain ⟨g0, g1⟩ := hL g (by simp)
    have hlen := marksB_len n L
    rw [marksB_next, usedU_next]
    unfold markB insU
    by_cases hg : 0 < g
    · obtain ⟨m, rfl⟩ : ∃ m : Nat, g = (m : Int) + 1 := ⟨(g - 1).toNat, by omega⟩
      have ht : ((m : Int) + 1).toNat = m + 1 := by omega
      rw [ht, if_pos hg, tail_set]
      rw [count_set _ _ (by rw [List.length_tail, hlen]; omega), tail_get, i1]
      by_cases hm : ((m : Int) + 1) ∈ usedU L
      · rw [if_pos hm, if_pos ((i2 m).2 hm)]
        refine ⟨rfl, fun k => ?_⟩
        rw [List.getElem?_set]
        split
        · rename_i hk
          obtain rfl : m = k := by omega
          rw [if_pos (by rw [hlen]; omega)]
          exact ⟨fun _ => hm, fun _ => rfl⟩
        · exact i2 k
      · rw [if_neg hm, if_neg (fun h => hm ((i2 m).1 h))]
        refine ⟨by simp, fun k => ?_⟩
        rw [List.getElem?_set]
        split
        · rename_i hk
          obtain rfl : m = k := by omega
          rw [if_pos (by rw [hlen]; omega)]
          simp
        · rename_i hk
          rw [i2 k, List.mem_append]
          constructor
          · exact .inl
          · rintro (h | h)
            · exact h
            · simp only [List.mem_singleton] at h; omega
    · obtain rfl : g = 0 := by omega
      rw [if_neg hg]
      refine ⟨by rw [show (0 : Int).toNat = 0 from rfl, tail_set0]; exact i1, fun k => ?_⟩
      rw [show (0 : Int).toNat = 0 from rfl, List.getElem?_set_ne (by omega)]
      exact i2 k
theorem marks_end (n : Nat) (L : List Int) (h : ∀ g, g ∈ L → 0 ≤ g ∧ g ≤ n) : ((marksB n L).set 0 false).count true = (usedU L).length := by
  have h1 := (used_marks n L h).1
  have hlen := marksB_len n L
  cases hB : marksB n L with
  | nil => rw [hB] at hlen; simp at hlen
  | cons b B =>
    rw [hB] at h1
    simpa using h1
def entsI (l : List Int) : List (Value × Value) := l.map fun g => (Value.int .i64 g, Value.bool true)
theorem keq_int {a b : Int} : keq (.int .i64 a) (.int .i64 b) = decide (a = b) := by
  show (a == b) = _
  rfl
theorem mset_I (l : List Int) (g : Int) : mset (entsI l) (.int .i64 g) (.bool true) = entsI (if g ∈ l then l else l ++ [g]) := by
  unfold mset
  by_cases hg : g ∈ l
  · rw [if_pos hg]
    split
    · rename_i i hi
      obtain ⟨h1, h2, _⟩ := List.findIdx?_eq_some_iff_getElem.1 hi
      apply List.ext_getElem?
      intro j
      rw [List.getElem?_set]
      split
      · rename_i hij
        subst hij
        rw [List.getElem?_eq_getElem h1]
        have hl : i < l.length := by simpa [entsI] using h1
        have hk : (entsI l)[i] = (Value.int .i64 l[i], Value.bool true) := List.getElem_map _
        rw [hk] at h2 ⊢
        rw [keq_int, decide_eq_true_eq] at h2
        rw [h2]
      · rfl
    · rename_i hi
      exfalso
      rw [List.findIdx?_eq_none_iff] at hi
      have := hi (Value.int .i64 g, Value.bool true) (List.mem_map.2 ⟨g, hg, rfl⟩)
      rw [keq_int] at this
      simp at this
  · rw [if_neg hg]
    have : (entsI l).findIdx? (fun x => keq (.int .i64 g) x.1) = none := by
      rw [List.findIdx?_eq_none_iff]
      intro x hx
      obtain ⟨z, hz, rfl⟩ := List.mem_map.1 hx
      rw [keq_int, decide_eq_false_iff_not]
      rintro rfl
      exact hg hz
    rw [this]
    simp [entsI]
theorem sidesOf_at {a : TileSet} {t : Placed} {n : Nat} (h : t.Tile = (n : Int)) (hn : n < a.Tiles.length) : sidesOf a t = a.Tiles[n].Sides := by
  unfold sidesOf
  rw [h, Int.toNat_natCast, List.getD_eq_getElem?_getD, List.getElem?_eq_getElem hn]
  rfl
theorem flatS_next (a : TileSet) {ps : List Placed} {i : Nat} (h : i < ps.length) : flatS a (ps.take (i + 1)) = flatS a (ps.take i) ++ sidesOf a ps[i] := by
  unfold flatS
  rw [List.take_succ_eq_append_getElem h, List.flatMap_append]
  simp
theorem asm_tile {a : TileSet} {b : Assembly} (h : okAsm a b = true) {i : Nat} (hi : i < b.Tiles.length) : ∃ n : Nat, b.Tiles[i].Tile = (n : Int) ∧ n < a.Tiles.length := by
  unfold okAsm at h
  simp only [Bool.and_eq_true] at h
  have := h.2
  rw [List.all_eq_true] at this
  have := inR_iff.1 (this _ (List.getElem_mem hi))
  exact ⟨b.Tiles[i].Tile.toNat, by omega, by omega⟩
theorem asm_len500 {a : TileSet} {b : Assembly} (h : okAsm a b = true) : b.Tiles.length ≤ 500 := by
  unfold okAsm okForm at h
  simp only [Bool.and_eq_true, decide_eq_true_eq] at h
  exact h.1.1
theorem flat_in {a : TileSet} {b : Assembly} (h1 : okSet a = true) (h : okAsm a b = true) : ∀ g, g ∈ flatS a b.Tiles → 0 ≤ g ∧ g ≤ a.Glues.length := by
  intro g hg
  unfold flatS at hg
  obtain ⟨t, ht, hg⟩ := List.mem_flatMap.1 hg
  obtain ⟨i, hi, rfl⟩ := List.getElem_of_mem ht
  obtain ⟨n, h2, h3⟩ := asm_tile h hi
  rw [sidesOf_at h2 h3] at hg
  exact okSet_side h1 h3 g hg
theorem insU_nodup {l : List Int} (h : l.Nodup) (g : Int) : (insU l g).Nodup := by
  unfold insU
  split
  · split
    · exact h
    · rename_i hg
      rw [List.nodup_append]
      exact ⟨h, by simp, fun a ha b hb => by simp only [List.mem_singleton] at hb; rintro rfl; rw [hb] at ha; exact hg ha⟩
  · exact h
theorem used_le (n : Nat) (L : List Int) (h : ∀ g, g ∈ L → 0 ≤ g ∧ g ≤ n) : (usedU L).length ≤ n := by
  have h1 := (used_marks n L h).1
  have h2 := List.count_le_length (a := true) (l := (marksB n L).tail)
  have h3 := marksB_len n L
  rw [List.length_tail] at h2
  omega
abbrev mk_impl_usedGlues_0 : List Bool := [true, true, false, false, true, false, true, true, true, true, false, false, false, false, false, true, true, true, true, true, true, true, true, true, true, true, true, true, true, true, true, true, true, true, true, true, true]
abbrev mk_impl_usedGlues_1 : List Bool := [true, true, false, false, true, false, true, true, true, true, false, false, false, false, false, true, true, true, false, false, true, true, false, false, false, false, false, true, true, true, true, true, true, true, true, true, true]
/-- impl.usedGlues -/
def code_impl_usedGlues : VCode := (.seq (.ops [
  ⟨(some 2), none, (.box (.tmp 0))⟩,
  ⟨(some 3), none, (.box (.tmp 1))⟩,
  ⟨(some 4), none, (.asg (.const (.map none)))⟩]) (.seq (.ops [
  ⟨(some 10), none, (.mkm (.int .i64))⟩,
  ⟨(some 5), none, (.asg (.tmp 10))⟩]) (.seq (.seq (.ops [
  ⟨(some 11), none, (.fa 0 (.tmp 3))⟩,
  ⟨(some 12), none, (.load 1 false (.tmp 11))⟩,
  ⟨(some 13), none, (.len (.tmp 12))⟩,
  ⟨(some 14), none, (.mv (.const (.int .i64 0)))⟩]) (.block 0 (.loop mk_impl_usedGlues_0 (.seq (.ops [
  ⟨(some 15), none, (.bin .lss (.tmp 14) (.tmp 13))⟩]) (.seq (.cond (.tmp 15) .skip (.exit 0)) (.seq (.block 1 (.seq (.ops [
  ⟨(some 16), none, (.ia 3 (.tmp 12) (.tmp 14))⟩,
  ⟨(some 17), none, (.load 3 true (.tmp 16))⟩,
  ⟨(some 7), none, (.alloc [(.int .i64 0), (.int .i64 0), (.int .i64 0)])⟩,
  ⟨none, none, (.store 3 (.tmp 7) (.tmp 17))⟩]) (.seq (.ops [
  ⟨(some 18), none, (.fa 1 (.tmp 2))⟩,
  ⟨(some 19), none, (.load 1 false (.tmp 18))⟩,
  ⟨(some 20), none, (.fa 2 (.tmp 7))⟩,
  ⟨(some 21), none, (.load 1 false (.tmp 20))⟩,
  ⟨(some 22), none, (.ia 2 (.tmp 19) (.tmp 21))⟩,
  ⟨(some 23), none, (.fa 1 (.tmp 22))⟩,
  ⟨(some 24), none, (.load 1 false (.tmp 23))⟩,
  ⟨(some 25), none, (.len (.tmp 24))⟩,
  ⟨(some 26), none, (.mv (.const (.int .i64 0)))⟩]) (.block 2 (.loop mk_impl_usedGlues_1 (.seq (.ops [
  ⟨(some 27), none, (.bin .lss (.tmp 26) (.tmp 25))⟩]) (.seq (.cond (.tmp 27) .skip (.exit 2)) (.seq (.block 3 (.seq (.ops [
  ⟨(some 28), none, (.ia 1 (.tmp 24) (.tmp 26))⟩,
  ⟨(some 29), none, (.load 1 false (.tmp 28))⟩,
  ⟨(some 9), none, (.asg (.tmp 29))⟩]) (.seq (.ops [
  ⟨(some 30), none, (.mv (.tmp 9))⟩,
  ⟨(some 31), none, (.bin .gtr (.tmp 30) (.const (.int .i64 0)))⟩]) (.cond (.tmp 31) (.ops [
  ⟨(some 32), none, (.mv (.tmp 5))⟩,
  ⟨(some 33), none, (.mv (.tmp 9))⟩,
  ⟨none, none, (.mupd (.int .i64) (.tmp 32) (.tmp 33) (.const (.bool true)))⟩]) .skip)))) (.ops [
  ⟨(some 34), none, (.bin .add (.tmp 26) (.const (.int .i64 1)))⟩,
  ⟨(some 26), none, (.mv (.tmp 34))⟩]))))))))) (.ops [
  ⟨(some 35), none, (.bin .add (.tmp 14) (.const (.int .i64 1)))⟩,
  ⟨(some 14), none, (.mv (.tmp 35))⟩]))))))) (.seq (.ops [
  ⟨(some 36), none, (.mv (.tmp 5))⟩,
  ⟨(some 4), none, (.asg (.tmp 36))⟩]) .ret))))
theorem law_impl_usedGlues {a0 a1 d : D} (h : code_impl_usedGlues.wp (CT Try.prog NoG) (endQ [(.t 4)] d) [a0, a1, .undef, .undef, .undef, .undef, .undef, .undef, .undef, .undef, .undef, .undef, .undef, .undef, .undef, .undef, .undef, .undef, .undef, .undef, .undef, .undef, .undef, .undef, .undef, .undef, .undef, .undef, .undef, .undef, .undef, .undef, .undef, .undef, .undef, .undef, .undef]) : Contract Try.prog NoG 59 [a0, a1] d :=
  contract_of noG Try.func59 (fun us W => by kernel_rfl) (c := Try.f59.body.getD .skip) (ms := [mk_impl_usedGlues_0, mk_impl_usedGlues_1]) (ms' := []) (by kernel_rfl) (by kernel_rfl) (by kernel_rfl) h
set_option maxHeartbeats 1000000 in
theorem v_usedGlues (a : TileSet) (b : Assembly) (h1 : okSet a = true) (h2 : okAsm a b = true) : Contract Try.prog NoG 59 [.agg (TileSet.td.d false a), .agg (Assembly.td.d false b)] (.mp (.int .i64) (entsI (usedU (flatS a b.Tiles)))) := by
  rw [TileSet.td_d, Assembly.td_d]
  refine law_impl_usedGlues ?_
  unfold code_impl_usedGlues
  have hl := asm_len500 h2
  simp -implicitDefEqProofs (disch := omega) only [go_sem, ↓reduceIte, Nat.reduceAdd, Nat.reduceMul, Nat.reduceLeDiff, reduceCtorEq, Nat.reduceEqDiff, Nat.reduceBEq, Nat.reduceBNe, Option.some.injEq , List.length_map]
  refine loop_ov (by simp -implicitDefEqProofs (disch := omega) only [go_sem, ↓reduceIte, Nat.reduceAdd, Nat.reduceMul, Nat.reduceLeDiff, reduceCtorEq, Nat.reduceEqDiff, Nat.reduceBEq, Nat.reduceBNe, Option.some.injEq]; exact rfl) (fun i : Nat => [(14, .v (.int .i64 (i : Nat))), (5, .mp (.int .i64) (entsI (usedU (flatS a (b.Tiles.take i)))))]) (fun _ => by simp only [ovr_nil, ovr_cons, List.set_cons_zero, List.set_cons_succ]; exact rfl) (fun i : Nat => i ≤ b.Tiles.length) (fun i : Nat => b.Tiles.length - i) (0) (by (try simp -implicitDefEqProofs only [nleL_cc, nleL_nn, nle_self, nle_boxs, nle_aggs, nle_nils, and_self, and_true, true_and]) <;> repeat' (first | exact nle_of_eq rfl | exact nle_nil | refine And.intro ?_ ?_ | refine nle_box ?_ | refine nle_agg ?_ | refine nle_sl ?_ | exact nleLL_nil | refine nleLL_cons ?_ ?_ | exact nleL_nil | refine nleL_cons ?_ ?_ | exact nle_rfl _)) (Nat.zero_le _) ?_
  intro i hi
  simp -implicitDefEqProofs (disch := omega) only [go_sem, ↓reduceIte, Nat.reduceAdd, Nat.reduceMul, Nat.reduceLeDiff, reduceCtorEq, Nat.reduceEqDiff, Nat.reduceBEq, Nat.reduceBNe, Option.some.injEq , List.length_map, Int.toNat_natCast, Int.ofNat_lt, Int.natCast_nonneg, List.getElem?_map, Option.map_some]
  refine cond_split ?_ ?_ <;> intro hlt
  · have hlt : i < b.Tiles.length := by simpa using hlt
    have e1 := List.getElem?_eq_getElem hlt
    obtain ⟨n, hn, hnl⟩ := asm_tile h2 hlt
    have e2 := List.getElem?_eq_getElem hnl
    have h4 := okSet_sides4 h1 hnl
    have hf := flatS_next a hlt
    rw [sidesOf_at hn hnl] at hf
    simp -implicitDefEqProofs (disch := omega) only [go_sem, ↓reduceIte, Nat.reduceAdd, Nat.reduceMul, Nat.reduceLeDiff, reduceCtorEq, Nat.reduceEqDiff, Nat.reduceBEq, Nat.reduceBNe, Option.some.injEq , List.length_map, Int.toNat_natCast, Int.ofNat_lt, Int.natCast_nonneg, List.getElem?_map, Option.map_some, hlt, e1, Placed.td_d, hn, hnl, e2, Tile.td_d, h4]
    refine loop_ov (by simp -implicitDefEqProofs (disch := omega) only [go_sem, ↓reduceIte, Nat.reduceAdd, Nat.reduceMul, Nat.reduceLeDiff, reduceCtorEq, Nat.reduceEqDiff, Nat.reduceBEq, Nat.reduceBNe, Option.some.injEq]; exact rfl) (fun d : Nat => [(26, .v (.int .i64 (d : Nat))), (5, .mp (.int .i64) (entsI (usedU (flatS a (b.Tiles.take i) ++ a.Tiles[n].Sides.take d))))]) (fun _ => by simp only [ovr_nil, ovr_cons, List.set_cons_zero, List.set_cons_succ]; exact rfl) (fun d : Nat => d ≤ 4) (fun d : Nat => 4 - d) (0) (by rw [List.take_zero, List.append_nil]; (try simp -implicitDefEqProofs only [nleL_cc, nleL_nn, nle_self, nle_boxs, nle_aggs, nle_nils, and_self, and_true, true_and]) <;> repeat' (first | exact nle_of_eq rfl | exact nle_nil | refine And.intro ?_ ?_ | refine nle_box ?_ | refine nle_agg ?_ | refine nle_sl ?_ | exact nleLL_nil | refine nleLL_cons ?_ ?_ | exact nleL_nil | refine nleL_cons ?_ ?_ | exact nle_rfl _)) (Nat.zero_le _) ?_
    intro d hd
    simp -implicitDefEqProofs (disch := omega) only [go_sem, ↓reduceIte, Nat.reduceAdd, Nat.reduceMul, Nat.reduceLeDiff, reduceCtorEq, Nat.reduceEqDiff, Nat.reduceBEq, Nat.reduceBNe, Option.some.injEq , List.length_map, Int.toNat_natCast, Int.ofNat_lt, Int.natCast_nonneg, List.getElem?_map, Option.map_some]
    refine cond_split ?_ ?_ <;> intro hlt2
    · have hlt2 : d < 4 := by have := of_decide_eq_true hlt2; omega
      have hds : d < a.Tiles[n].Sides.length := by omega
      have e3 := List.getElem?_eq_getElem hds
      have hu := usedU_next (flatS a (b.Tiles.take i) ++ a.Tiles[n].Sides.take d) a.Tiles[n].Sides[d]
      rw [List.append_assoc, ← List.take_succ_eq_append_getElem hds] at hu
      simp -implicitDefEqProofs (disch := omega) only [go_sem, ↓reduceIte, Nat.reduceAdd, Nat.reduceMul, Nat.reduceLeDiff, reduceCtorEq, Nat.reduceEqDiff, Nat.reduceBEq, Nat.reduceBNe, Option.some.injEq , List.length_map, Int.toNat_natCast, Int.ofNat_lt, Int.natCast_nonneg, List.getElem?_map, Option.map_some, hds, e3, h4, hlt2]
      refine cond_split ?_ ?_ <;> intro h0
      · have h0 : 0 < a.Tiles[n].Sides[d] := by simpa using h0
        unfold insU at hu
        rw [if_pos h0] at hu
        simp -implicitDefEqProofs (disch := omega) only [go_sem, ↓reduceIte, Nat.reduceAdd, Nat.reduceMul, Nat.reduceLeDiff, reduceCtorEq, Nat.reduceEqDiff, Nat.reduceBEq, Nat.reduceBNe, Option.some.injEq , mset_I, wrN]
        refine ⟨d + 1, by omega, hlt2, ?_⟩
        rw [hu]
        (try simp -implicitDefEqProofs only [nleL_cc, nleL_nn, nle_self, nle_boxs, nle_aggs, nle_nils, and_self, and_true, true_and]) <;> repeat' (first | exact nle_of_eq rfl | exact nle_nil | refine And.intro ?_ ?_ | refine nle_box ?_ | refine nle_agg ?_ | refine nle_sl ?_ | exact nleLL_nil | refine nleLL_cons ?_ ?_ | exact nleL_nil | refine nleL_cons ?_ ?_ | exact nle_rfl _)
      · have h0 : ¬ 0 < a.Tiles[n].Sides[d] := by simpa using h0
        unfold insU at hu
        rw [if_neg h0] at hu
        simp -implicitDefEqProofs (disch := omega) only [go_sem, ↓reduceIte, Nat.reduceAdd, Nat.reduceMul, Nat.reduceLeDiff, reduceCtorEq, Nat.reduceEqDiff, Nat.reduceBEq, Nat.reduceBNe, Option.some.injEq , wrN]
        refine ⟨d + 1, by omega, hlt2, ?_⟩
        rw [hu]
        (try simp -implicitDefEqProofs only [nleL_cc, nleL_nn, nle_self, nle_boxs, nle_aggs, nle_nils, and_self, and_true, true_and]) <;> repeat' (first | exact nle_of_eq rfl | exact nle_nil | refine And.intro ?_ ?_ | refine nle_box ?_ | refine nle_agg ?_ | refine nle_sl ?_ | exact nleLL_nil | refine nleLL_cons ?_ ?_ | exact nleL_nil | refine nleL_cons ?_ ?_ | exact nle_rfl _)
    · obtain rfl : d = 4 := by have := of_decide_eq_false hlt2
                               omega
      have h5 : a.Tiles[n].Sides.take 4 = a.Tiles[n].Sides := List.take_of_length_le (by omega)
      simp -implicitDefEqProofs (disch := omega) only [go_sem, ↓reduceIte, Nat.reduceAdd, Nat.reduceMul, Nat.reduceLeDiff, reduceCtorEq, Nat.reduceEqDiff, Nat.reduceBEq, Nat.reduceBNe, Option.some.injEq , wrN]
      refine ⟨i + 1, by omega, hlt, ?_⟩
      rw [hf, h5]
      (try simp -implicitDefEqProofs only [nleL_cc, nleL_nn, nle_self, nle_boxs, nle_aggs, nle_nils, and_self, and_true, true_and]) <;> repeat' (first | exact nle_of_eq rfl | exact nle_nil | refine And.intro ?_ ?_ | refine nle_box ?_ | refine nle_agg ?_ | refine nle_sl ?_ | exact nleLL_nil | refine nleLL_cons ?_ ?_ | exact nleL_nil | refine nleL_cons ?_ ?_ | exact nle_rfl _)
  · obtain rfl : i = b.Tiles.length := by
      have : ¬ i < b.Tiles.length := by simpa using hlt
      omega
    simp -implicitDefEqProofs (disch := omega) only [go_sem, ↓reduceIte, Nat.reduceAdd, Nat.reduceMul, Nat.reduceLeDiff, reduceCtorEq, Nat.reduceEqDiff, Nat.reduceBEq, Nat.reduceBNe, Option.some.injEq , List.take_length]
abbrev mk_spec_l34Glues_0 : List Bool := [false, false, true, true, true, false, false, true, true, true, true, true, true, true, false, true, true, true, true, true, true, true, true, true, true, true, true, true, true, true, true, true, true, true, true, true, true, true, true, true, true, true, true, true, true, true, true, true, true, true, true]
abbrev mk_spec_l34Glues_1 : List Bool := [false, false, true, true, true, false, false, false, true, true, true, true, true, true, false, true, true, true, true, true, true, true, true, true, true, true, true, true, true, true, true, true, true, true, true, true, true, true, true, true, true, true, true, true, true, true, true, true, true, true, true]
abbrev mk_spec_l34Glues_2 : List Bool := [false, false, false, false, false, false, false, false, false, false, false, false, false, false, false, false, false, false, false, false, false, false, false, false, false, false, false, false, true, true, true, true, true, true, true, true, true, true, true, true, true, true, true, true, true, true, true]
abbrev mk_spec_l34Glues_3 : List Bool := [false, false, false, false, false, false, false, false, false, false, false, false, false, false, false, false, false, false, false, false, false, false, false, false, false, false, false, false, true, false, true, true, true, true, true, true, true, true, true, true, true, true, true, true, true, true, true]
abbrev mk_spec_l34Glues_4 : List Bool := [false, false, false, false, false, false, false, false, false, false, false, false, false, false, false, false, false, false, false, false, false, false, false, false, false, false, false, false, true, false, false, true, true, true, true, true, true, true, true, true, true, true, true, true, true, true, true]
abbrev mk_spec_l34Glues_5 : List Bool := [false, false, false, false, false, false, false, false, false, false, false, false, false, false, false, false, false, false, false, false, false, false, false, false, false, false, false, false, true, false, false, false, true, true, true, true, true, true, true, true, true, true, true, true, true, true, true]
abbrev mk_spec_l34Glues_6 : List Bool := [false, false, false, false, false, false, false, false, false, false, false, false, false, false, false, false, false, false, false, false, false, false, false, false, false, false, false, false, true, true, true, true, true, false, true, true, true, true, true, true, true, true, true, true, true, true, true]
abbrev mk_spec_l34Glues_7 : List Bool := [false, false, false, false, false, false, false, false, false, false, false, false, false, false, false, false, false, false, false, false, false, false, false, false, false, false, false, false, true, true, true, true, true, false, false, true, true, true, true, true, true, true, true, true, true, true, true]
abbrev mk_spec_l34Glues_8 : List Bool := [false, false, false, false, false, false, false, false, false, false, false, false, false, false, false, false, false, false, false, false, false, false, false, false, false, false, false, false, true, true, true, true, true, false, false, false, true, true, true, true, true, true, true, true, true, true, true]
abbrev mk_spec_l34Glues_9 : List Bool := [false, false, false, false, false, false, false, false, false, false, false, false, false, false, false, false, false, false, false, false, false, false, false, false, false, false, false, false, true, true, true, true, true, false, false, false, false, false, true, true, true, true, true, true, true, true, true]
abbrev mk_spec_l34Glues_10 : List Bool := [false, false, false, false, false, false, false, false, false, false, false, false, false, false, false, false, false, false, false, false, false, false, false, false, false, false, false, false, true, true, true, true, true, false, false, false, false, false, false, true, true, true, true, true, true, true, true]
abbrev mk_spec_l34Glues_11 : List Bool := [false, false, false, false, false, false, false, false, false, false, false, false, false, false, false, false, false, false, false, false, false, false, false, false, false, false, false, false, true, true, true, true, true, false, false, false, false, false, false, false, true, true, true, true, true, true, true]
abbrev mk_spec_l34Glues_12 : List Bool := [false, false, false, false, false, false, false, false, false, false, false, false, false, false, false, false, false, false, false, false, false, false, false, false, false, false, false, false, true, false, false, false, false, false, false, false, false, false, false, false, false, true, true, true, true, true, true]
abbrev mk_spec_l34Glues_13 : List Bool := [false, false, false, false, false, false, false, false, false, false, false, false, false, false, false, false, false, false, false, false, false, false, false, false, false, false, false, false, true, false, false, false, false, false, false, false, false, false, false, false, false, false, true, true, true, true, true]
abbrev mk_spec_l34Glues_14 : List Bool := [false, false, false, false, false, false, false, false, false, false, false, false, false, false, false, false, false, false, false, false, false, false, false, false, false, false, false, false, true, false, false, false, false, false, false, false, false, false, false, false, false, false, false, true, true, true, true]
abbrev mk_spec_l34Glues_15 : List Bool := [false, false, false, false, false, false, false, false, false, false, false, false, false, false, false, false, false, false, false, false, false, false, false, false, false, false, false, false, true, false, false, false, false, false, false, false, false, false, false, false, false, false, false, false, false, true, true]
abbrev mk_spec_l34Glues_16 : List Bool := [false, false, false, false, false, false, false, false, false, false, false, false, false, false, false, false, false, false, false, false, false, false, false, false, false, false, false, false, true, false, false, false, false, false, false, false, false, false, false, false, false, false, false, false, false, false, true]
/-- spec.l34Glues -/
def code_spec_l34Glues : VCode := (.seq (.ops [
  ⟨(some 4), none, (.asg (.const (.slice none 0 0)))⟩]) (.seq (.ops [
  ⟨(some 8), none, (.mv (.tmp 0))⟩,
  ⟨(some 9), none, (.nilc (.tmp 8))⟩,
  ⟨(some 10), none, (.fa 0 (.tmp 9))⟩,
  ⟨(some 11), none, (.load 1 false (.tmp 10))⟩,
  ⟨(some 12), none, (.len (.tmp 11))⟩,
  ⟨(some 13), none, (.bin .add (.tmp 12) (.const (.int .i64 1)))⟩,
  ⟨(some 14), none, (.mks 1 1 [(.bool false)] (.tmp 13) (.tmp 13))⟩,
  ⟨(some 5), none, (.asg (.tmp 14))⟩]) (.seq (.seq (.ops [
  ⟨(some 6), none, (.asg (.const (.int .i64 0)))⟩]) (.block 0 (.loop mk_spec_l34Glues_0 (.seq (.seq (.ops [
  ⟨(some 15), none, (.mv (.tmp 6))⟩,
  ⟨(some 16), none, (.mv (.tmp 1))⟩,
  ⟨(some 17), none, (.nilc (.tmp 16))⟩,
  ⟨(some 18), none, (.fa 0 (.tmp 17))⟩,
  ⟨(some 19), none, (.load 1 false (.tmp 18))⟩,
  ⟨(some 20), none, (.len (.tmp 19))⟩,
  ⟨(some 21), none, (.bin .lss (.tmp 15) (.tmp 20))⟩]) (.cond (.tmp 21) .skip (.exit 0))) (.seq (.block 1 (.seq (.ops [
  ⟨(some 7), none, (.asg (.const (.int .i64 0)))⟩]) (.block 2 (.loop mk_spec_l34Glues_1 (.seq (.seq (.ops [
  ⟨(some 24), none, (.mv (.tmp 7))⟩,
  ⟨(some 25), none, (.bin .lss (.tmp 24) (.const (.int .i64 4)))⟩]) (.cond (.tmp 25) .skip (.exit 2))) (.seq (.block 3 (.draw mk_spec_l34Glues_2 [] [⟨0, mk_spec_l34Glues_2, [], ⟨(some 28), none, (.mv (.tmp 5))⟩⟩, ⟨1, mk_spec_l34Glues_2, [], ⟨(some 29), none, (.mv (.tmp 0))⟩⟩, ⟨2, mk_spec_l34Glues_3, [], ⟨(some 30), none, (.nilc (.tmp 29))⟩⟩, ⟨3, mk_spec_l34Glues_4, [], ⟨(some 31), none, (.fa 1 (.tmp 30))⟩⟩, ⟨4, mk_spec_l34Glues_5, [], ⟨(some 32), none, (.load 1 false (.tmp 31))⟩⟩, ⟨5, mk_spec_l34Glues_2, [], ⟨(some 33), none, (.mv (.tmp 1))⟩⟩, ⟨6, mk_spec_l34Glues_6, [], ⟨(some 34), none, (.nilc (.tmp 33))⟩⟩, ⟨7, mk_spec_l34Glues_7, [], ⟨(some 35), none, (.fa 0 (.tmp 34))⟩⟩, ⟨8, mk_spec_l34Glues_8, [], ⟨(some 36), none, (.load 1 false (.tmp 35))⟩⟩, ⟨9, mk_spec_l34Glues_2, [], ⟨(some 37), none, (.mv (.tmp 6))⟩⟩, ⟨10, mk_spec_l34Glues_9, [], ⟨(some 38), none, (.ia 3 (.tmp 36) (.tmp 37))⟩⟩, ⟨11, mk_spec_l34Glues_10, [], ⟨(some 39), none, (.fa 2 (.tmp 38))⟩⟩, ⟨12, mk_spec_l34Glues_11, [], ⟨(some 40), none, (.load 1 false (.tmp 39))⟩⟩, ⟨13, mk_spec_l34Glues_12, [], ⟨(some 41), none, (.ia 2 (.tmp 32) (.tmp 40))⟩⟩, ⟨14, mk_spec_l34Glues_13, [], ⟨(some 42), none, (.fa 1 (.tmp 41))⟩⟩, ⟨15, mk_spec_l34Glues_14, [], ⟨(some 43), none, (.load 1 false (.tmp 42))⟩⟩, ⟨16, mk_spec_l34Glues_2, [], ⟨(some 44), none, (.mv (.tmp 7))⟩⟩, ⟨17, mk_spec_l34Glues_15, [], ⟨(some 45), none, (.ia 1 (.tmp 43) (.tmp 44))⟩⟩, ⟨18, mk_spec_l34Glues_16, [], ⟨(some 46), none, (.load 1 false (.tmp 45))⟩⟩] [⟨(some 47), none, (.ia 1 (.tmp 28) (.tmp 46))⟩, ⟨none, none, (.store 1 (.tmp 47) (.const (.bool true)))⟩])) (.ops [
  ⟨(some 26), none, (.mv (.tmp 7))⟩,
  ⟨(some 27), none, (.bin .add (.tmp 26) (.const (.int .i64 1)))⟩,
  ⟨(some 7), none, (.asg (.tmp 27))⟩]))))))) (.ops [
  ⟨(some 22), none, (.mv (.tmp 6))⟩,
  ⟨(some 23), none, (.bin .add (.tmp 22) (.const (.int .i64 1)))⟩,
  ⟨(some 6), none, (.asg (.tmp 23))⟩])))))) (.seq (.ops [
  ⟨(some 48), none, (.mv (.tmp 5))⟩,
  ⟨(some 49), none, (.ia 1 (.tmp 48) (.const (.int .i64 0)))⟩,
  ⟨none, none, (.store 1 (.tmp 49) (.const (.bool false)))⟩]) (.seq (.ops [
  ⟨(some 50), none, (.mv (.tmp 5))⟩,
  ⟨(some 4), none, (.asg (.tmp 50))⟩]) .ret)))))
theorem law_spec_l34Glues {a0 a1 d : D} (h : code_spec_l34Glues.wp (CT Try.prog NoG) (endQ [(.t 4)] d) [a0, a1, .undef, .undef, .undef, .undef, .undef, .undef, .undef, .undef, .undef, .undef, .undef, .undef, .undef, .undef, .undef, .undef, .undef, .undef, .undef, .undef, .undef, .undef, .undef, .undef, .undef, .undef, .undef, .undef, .undef, .undef, .undef, .undef, .undef, .undef, .undef, .undef, .undef, .undef, .undef, .undef, .undef, .undef, .undef, .undef, .undef, .undef, .undef, .undef, .undef]) : Contract Try.prog NoG 52 [a0, a1] d :=
  contract_of noG Try.func52 (fun us W => by kernel_rfl) (c := Try.f52.body.getD .skip) (ms := [mk_spec_l34Glues_0, mk_spec_l34Glues_1]) (ms' := []) (by kernel_rfl) (by kernel_rfl) (by kernel_rfl) h
set_option maxHeartbeats 1000000 in
theorem v_l34Glues (a : TileSet) (b : Assembly) (h1 : okSet a = true) (h2 : okAsm a b = true) : Contract Try.prog NoG 52 [.iptr (TileSet.td.d false a) 0, .iptr (Assembly.td.d false b) 0] (.sl true 1 (((marksB a.Glues.length (flatS a b.Tiles)).set 0 false).map rBo)) := by
  rw [TileSet.td_d, Assembly.td_d]
  refine law_spec_l34Glues ?_
  unfold code_spec_l34Glues
  have hl := asm_len500 h2
  have hg := okSet_len h1
  have hw : IntKind.i64.wrap ((a.Glues.length : Int) + 1) = ((a.Glues.length + 1 : Nat) : Int) := wrN (by omega)
  simp -implicitDefEqProofs (disch := omega) only [go_sem, ↓reduceIte, Nat.reduceAdd, Nat.reduceMul, Nat.reduceLeDiff, reduceCtorEq, Nat.reduceEqDiff, Nat.reduceBEq, Nat.reduceBNe, Option.some.injEq , List.length_map, hw, Int.toNat_natCast]
  repeat (refine And.intro (by omega) ?_)
  refine loop_ov (by simp -implicitDefEqProofs (disch := omega) only [go_sem, ↓reduceIte, Nat.reduceAdd, Nat.reduceMul, Nat.reduceLeDiff, reduceCtorEq, Nat.reduceEqDiff, Nat.reduceBEq, Nat.reduceBNe, Option.some.injEq]; exact rfl) (fun i : Nat => [(6, .v (.int .i64 (i : Nat))), (5, .sl true 1 ((marksB a.Glues.length (flatS a (b.Tiles.take i))).map rBo))]) (fun _ => by simp only [ovr_nil, ovr_cons, List.set_cons_zero, List.set_cons_succ]; exact rfl) (fun i : Nat => i ≤ b.Tiles.length) (fun i : Nat => b.Tiles.length - i) (0) (by rw [show marksB a.Glues.length (flatS a (b.Tiles.take 0)) = List.replicate (a.Glues.length + 1) false from rfl, List.map_replicate]; (try simp -implicitDefEqProofs only [nleL_cc, nleL_nn, nle_self, nle_boxs, nle_aggs, nle_nils, and_self, and_true, true_and]) <;> repeat' (first | exact nle_of_eq rfl | exact nle_nil | refine And.intro ?_ ?_ | refine nle_box ?_ | refine nle_agg ?_ | refine nle_sl ?_ | exact nleLL_nil | refine nleLL_cons ?_ ?_ | exact nleL_nil | refine nleL_cons ?_ ?_ | exact nle_rfl _)) (Nat.zero_le _) ?_
  intro i hi
  simp -implicitDefEqProofs (disch := omega) only [go_sem, ↓reduceIte, Nat.reduceAdd, Nat.reduceMul, Nat.reduceLeDiff, reduceCtorEq, Nat.reduceEqDiff, Nat.reduceBEq, Nat.reduceBNe, Option.some.injEq , List.length_map, Int.toNat_natCast, Int.ofNat_lt, Int.natCast_nonneg, List.getElem?_map, Option.map_some]
  refine cond_split ?_ ?_ <;> intro hlt
  · have hlt : i < b.Tiles.length := by simpa using hlt
    have e1 := List.getElem?_eq_getElem hlt
    obtain ⟨n, hn, hnl⟩ := asm_tile h2 hlt
    have e2 := List.getElem?_eq_getElem hnl
    have h4 := okSet_sides4 h1 hnl
    have hf := flatS_next a hlt
    rw [sidesOf_at hn hnl] at hf
    simp -implicitDefEqProofs (disch := omega) only [go_sem, ↓reduceIte, Nat.reduceAdd, Nat.reduceMul, Nat.reduceLeDiff, reduceCtorEq, Nat.reduceEqDiff, Nat.reduceBEq, Nat.reduceBNe, Option.some.injEq]
    refine loop_ov (by simp -implicitDefEqProofs (disch := omega) only [go_sem, ↓reduceIte, Nat.reduceAdd, Nat.reduceMul, Nat.reduceLeDiff, reduceCtorEq, Nat.reduceEqDiff, Nat.reduceBEq, Nat.reduceBNe, Option.some.injEq]; exact rfl) (fun d : Nat => [(7, .v (.int .i64 (d : Nat))), (5, .sl true 1 ((marksB a.Glues.length (flatS a (b.Tiles.take i) ++ a.Tiles[n].Sides.take d)).map rBo))]) (fun _ => by simp only [ovr_nil, ovr_cons, List.set_cons_zero, List.set_cons_succ]; exact rfl) (fun d : Nat => d ≤ 4) (fun d : Nat => 4 - d) (0) (by rw [List.take_zero, List.append_nil]; (try simp -implicitDefEqProofs only [nleL_cc, nleL_nn, nle_self, nle_boxs, nle_aggs, nle_nils, and_self, and_true, true_and]) <;> repeat' (first | exact nle_of_eq rfl | exact nle_nil | refine And.intro ?_ ?_ | refine nle_box ?_ | refine nle_agg ?_ | refine nle_sl ?_ | exact nleLL_nil | refine nleLL_cons ?_ ?_ | exact nleL_nil | refine nleL_cons ?_ ?_ | exact nle_rfl _)) (Nat.zero_le _) ?_
    intro d hd
    simp -implicitDefEqProofs (disch := omega) only [go_sem, ↓reduceIte, Nat.reduceAdd, Nat.reduceMul, Nat.reduceLeDiff, reduceCtorEq, Nat.reduceEqDiff, Nat.reduceBEq, Nat.reduceBNe, Option.some.injEq]
    refine cond_split ?_ ?_ <;> intro hlt2
    · have hlt2 : d < 4 := by have := of_decide_eq_true hlt2; omega
      have hds : d < a.Tiles[n].Sides.length := by omega
      have e3 := List.getElem?_eq_getElem hds
      have hsd := okSet_side h1 hnl _ (List.getElem_mem hds)
      have hu := marksB_next a.Glues.length (flatS a (b.Tiles.take i) ++ a.Tiles[n].Sides.take d) a.Tiles[n].Sides[d]
      rw [List.append_assoc, ← List.take_succ_eq_append_getElem hds] at hu
      obtain ⟨m, hm⟩ : ∃ m : Nat, a.Tiles[n].Sides[d] = (m : Int) := ⟨a.Tiles[n].Sides[d].toNat, by omega⟩
      have hml : m < a.Glues.length + 1 := by omega
      have hbl := marksB_len a.Glues.length (flatS a (b.Tiles.take i) ++ a.Tiles[n].Sides.take d)
      have e4 := List.getElem?_eq_getElem (l := marksB a.Glues.length (flatS a (b.Tiles.take i) ++ a.Tiles[n].Sides.take d)) (i := m) (by rw [hbl]; exact hml)
      unfold markB at hu
      rw [hm, Int.toNat_natCast] at hu
      have hset : ((marksB a.Glues.length (flatS a (b.Tiles.take i) ++ a.Tiles[n].Sides.take d)).map rBo).set m [.v (.bool true)] = ((marksB a.Glues.length (flatS a (b.Tiles.take i) ++ a.Tiles[n].Sides.take d)).set m true).map rBo := by rw [List.map_set]
      simp -implicitDefEqProofs (disch := omega) only [go_sem, ↓reduceIte, Nat.reduceAdd, Nat.reduceMul, Nat.reduceLeDiff, reduceCtorEq, Nat.reduceEqDiff, Nat.reduceBEq, Nat.reduceBNe, Option.some.injEq , List.length_map, Int.toNat_natCast, Int.ofNat_lt, Int.natCast_nonneg, List.getElem?_map, Option.map_some, hlt, e1, Placed.td_d, hn, hnl, e2, Tile.td_d, hds, e3, hm, hml, hbl, e4, hset, wrN]
      refine ⟨d + 1, by omega, hlt2, ?_⟩
      rw [hu]
      (try simp -implicitDefEqProofs only [nleL_cc, nleL_nn, nle_self, nle_boxs, nle_aggs, nle_nils, and_self, and_true, true_and]) <;> repeat' (first | exact nle_of_eq rfl | exact nle_nil | refine And.intro ?_ ?_ | refine nle_box ?_ | refine nle_agg ?_ | refine nle_sl ?_ | exact nleLL_nil | refine nleLL_cons ?_ ?_ | exact nleL_nil | refine nleL_cons ?_ ?_ | exact nle_rfl _)
    · obtain rfl : d = 4 := by have := of_decide_eq_false hlt2
                               omega
      have h5 : a.Tiles[n].Sides.take 4 = a.Tiles[n].Sides := List.take_of_length_le (by omega)
      simp -implicitDefEqProofs (disch := omega) only [go_sem, ↓reduceIte, Nat.reduceAdd, Nat.reduceMul, Nat.reduceLeDiff, reduceCtorEq, Nat.reduceEqDiff, Nat.reduceBEq, Nat.reduceBNe, Option.some.injEq , wrN]
      refine ⟨i + 1, by omega, hlt, ?_⟩
      rw [hf, h5]
      (try simp -implicitDefEqProofs only [nleL_cc, nleL_nn, nle_self, nle_boxs, nle_aggs, nle_nils, and_self, and_true, true_and]) <;> repeat' (first | exact nle_of_eq rfl | exact nle_nil | refine And.intro ?_ ?_ | refine nle_box ?_ | refine nle_agg ?_ | refine nle_sl ?_ | exact nleLL_nil | refine nleLL_cons ?_ ?_ | exact nleL_nil | refine nleL_cons ?_ ?_ | exact nle_rfl _)
  · obtain rfl : i = b.Tiles.length := by
      have : ¬ i < b.Tiles.length := by simpa using hlt
      omega
    have hbl := marksB_len a.Glues.length (flatS a b.Tiles)
    have e4 := List.getElem?_eq_getElem (l := marksB a.Glues.length (flatS a b.Tiles)) (i := 0) (by rw [hbl]; omega)
    have hset : ((marksB a.Glues.length (flatS a b.Tiles)).map rBo).set 0 [.v (.bool false)] = ((marksB a.Glues.length (flatS a b.Tiles)).set 0 false).map rBo := by rw [List.map_set]
    have hp : (0 : Int) < ((a.Glues.length + 1 : Nat) : Int) := by omega
    simp -implicitDefEqProofs (disch := omega) only [go_sem, ↓reduceIte, Nat.reduceAdd, Nat.reduceMul, Nat.reduceLeDiff, reduceCtorEq, Nat.reduceEqDiff, Nat.reduceBEq, Nat.reduceBNe, Option.some.injEq , List.take_length, List.length_map, Int.toNat_natCast, Int.ofNat_lt, Int.natCast_nonneg, List.getElem?_map, Option.map_some, Int.natCast_zero, Int.natCast_one, Int.cast_ofNat_Int, Int.ofNat_le, Int.toNat_zero, Nat.sub_zero, Int.le_refl, Int.reduceLT, Int.reduceLE, Int.reduceEq, Int.reduceAdd, Int.reduceSub, Int.reduceMul, Int.reduceToNat, Int.reduceNeg, hbl, hp, e4, hset]
abbrev mk_spec_l34Count_0 : List Bool := [false, true, true, false, false, true, true, true, true, true, true, true, true, true, true, true, true, true]
/-- spec.l34Count -/
def code_spec_l34Count : VCode := (.seq (.ops [
  ⟨(some 2), none, (.asg (.const (.int .i64 0)))⟩]) (.seq (.ops [
  ⟨(some 3), none, (.asg (.const (.int .i64 0)))⟩]) (.seq (.seq (.ops [
  ⟨(some 4), none, (.asg (.const (.int .i64 0)))⟩]) (.block 0 (.loop mk_spec_l34Count_0 (.seq (.seq (.ops [
  ⟨(some 5), none, (.mv (.tmp 4))⟩,
  ⟨(some 6), none, (.mv (.tmp 0))⟩,
  ⟨(some 7), none, (.len (.tmp 6))⟩,
  ⟨(some 8), none, (.bin .lss (.tmp 5) (.tmp 7))⟩]) (.cond (.tmp 8) .skip (.exit 0))) (.seq (.block 1 (.seq (.ops [
  ⟨(some 11), none, (.mv (.tmp 0))⟩,
  ⟨(some 12), none, (.mv (.tmp 4))⟩,
  ⟨(some 13), none, (.ia 1 (.tmp 11) (.tmp 12))⟩,
  ⟨(some 14), none, (.load 1 false (.tmp 13))⟩]) (.cond (.tmp 14) (.ops [
  ⟨(some 15), none, (.mv (.tmp 3))⟩,
  ⟨(some 16), none, (.bin .add (.tmp 15) (.const (.int .i64 1)))⟩,
  ⟨(some 3), none, (.asg (.tmp 16))⟩]) .skip))) (.ops [
  ⟨(some 9), none, (.mv (.tmp 4))⟩,
  ⟨(some 10), none, (.bin .add (.tmp 9) (.const (.int .i64 1)))⟩,
  ⟨(some 4), none, (.asg (.tmp 10))⟩])))))) (.seq (.ops [
  ⟨(some 17), none, (.mv (.tmp 3))⟩,
  ⟨(some 2), none, (.asg (.tmp 17))⟩]) .ret))))
theorem law_spec_l34Count {a0 d : D} (h : code_spec_l34Count.wp (CT Try.prog NoG) (endQ [(.t 2)] d) [a0, .undef, .undef, .undef, .undef, .undef, .undef, .undef, .undef, .undef, .undef, .undef, .undef, .undef, .undef, .undef, .undef, .undef]) : Contract Try.prog NoG 51 [a0] d :=
  contract_of noG Try.func51 (fun us W => by kernel_rfl) (c := Try.f51.body.getD .skip) (ms := [mk_spec_l34Count_0]) (ms' := []) (by kernel_rfl) (by kernel_rfl) (by kernel_rfl) h
theorem v_l34Count (B : List Bool) (hB : B.length ≤ 1048576) : Contract Try.prog NoG 51 [.sl false 1 (B.map rBo)] (.v (.int .i64 (B.count true : Nat))) := by
  refine law_spec_l34Count ?_
  unfold code_spec_l34Count
  simp -implicitDefEqProofs (disch := omega) only [go_sem, ↓reduceIte, Nat.reduceAdd, Nat.reduceMul, Nat.reduceLeDiff, reduceCtorEq, Nat.reduceEqDiff, Nat.reduceBEq, Nat.reduceBNe, Option.some.injEq]
  refine loop_ov (by simp -implicitDefEqProofs (disch := omega) only [go_sem, ↓reduceIte, Nat.reduceAdd, Nat.reduceMul, Nat.reduceLeDiff, reduceCtorEq, Nat.reduceEqDiff, Nat.reduceBEq, Nat.reduceBNe, Option.some.injEq]; exact rfl) (fun i : Nat => [(4, .v (.int .i64 (i : Nat))), (3, .v (.int .i64 (((B.take i).count true : Nat) : Int)))]) (fun _ => by simp only [ovr_nil, ovr_cons, List.set_cons_zero, List.set_cons_succ]; exact rfl) (fun i : Nat => i ≤ B.length) (fun i : Nat => B.length - i) (0) (by (try simp -implicitDefEqProofs only [nleL_cc, nleL_nn, nle_self, nle_boxs, nle_aggs, nle_nils, and_self, and_true, true_and]) <;> repeat' (first | exact nle_of_eq rfl | exact nle_nil | refine And.intro ?_ ?_ | refine nle_box ?_ | refine nle_agg ?_ | refine nle_sl ?_ | exact nleLL_nil | refine nleLL_cons ?_ ?_ | exact nleL_nil | refine nleL_cons ?_ ?_ | exact nle_rfl _)) (Nat.zero_le _) ?_
  intro i hi
  have hc := List.count_le_length (a := true) (l := B.take i)
  rw [List.length_take] at hc
  simp -implicitDefEqProofs (disch := omega) only [go_sem, ↓reduceIte, Nat.reduceAdd, Nat.reduceMul, Nat.reduceLeDiff, reduceCtorEq, Nat.reduceEqDiff, Nat.reduceBEq, Nat.reduceBNe, Option.some.injEq , List.length_map, Int.toNat_natCast, Int.ofNat_lt, Int.natCast_nonneg, List.getElem?_map, Option.map_some]
  refine cond_split ?_ ?_ <;> intro hlt
  · have hlt : i < B.length := by simpa using hlt
    have e1 := List.getElem?_eq_getElem hlt
    have hn : (B.take (i + 1)).count true = (B.take i).count true + (if B[i] = true then 1 else 0) := by
      rw [List.take_succ_eq_append_getElem hlt, List.count_append]
      congr 1
      cases B[i] <;> rfl
    simp -implicitDefEqProofs (disch := omega) only [go_sem, ↓reduceIte, Nat.reduceAdd, Nat.reduceMul, Nat.reduceLeDiff, reduceCtorEq, Nat.reduceEqDiff, Nat.reduceBEq, Nat.reduceBNe, Option.some.injEq , List.length_map, Int.toNat_natCast, Int.ofNat_lt, Int.natCast_nonneg, List.getElem?_map, Option.map_some, hlt, e1]
    cases hb : B[i] with
    | true =>
      rw [hb, if_pos rfl] at hn
      simp -implicitDefEqProofs (disch := omega) only [go_sem, ↓reduceIte, Nat.reduceAdd, Nat.reduceMul, Nat.reduceLeDiff, reduceCtorEq, Nat.reduceEqDiff, Nat.reduceBEq, Nat.reduceBNe, Option.some.injEq , wrN]
      refine ⟨i + 1, by omega, hlt, ?_⟩
      rw [hn]
      (try simp -implicitDefEqProofs only [nleL_cc, nleL_nn, nle_self, nle_boxs, nle_aggs, nle_nils, and_self, and_true, true_and]) <;> repeat' (first | exact nle_of_eq rfl | exact nle_nil | refine And.intro ?_ ?_ | refine nle_box ?_ | refine nle_agg ?_ | refine nle_sl ?_ | exact nleLL_nil | refine nleLL_cons ?_ ?_ | exact nleL_nil | refine nleL_cons ?_ ?_ | exact nle_rfl _)
    | false =>
      rw [hb, if_neg (by decide)] at hn
      simp -implicitDefEqProofs (disch := omega) only [go_sem, ↓reduceIte, Nat.reduceAdd, Nat.reduceMul, Nat.reduceLeDiff, reduceCtorEq, Nat.reduceEqDiff, Nat.reduceBEq, Nat.reduceBNe, Option.some.injEq , wrN]
      refine ⟨i + 1, by omega, hlt, ?_⟩
      rw [hn]
      (try simp -implicitDefEqProofs only [nleL_cc, nleL_nn, nle_self, nle_boxs, nle_aggs, nle_nils, and_self, and_true, true_and]) <;> repeat' (first | exact nle_of_eq rfl | exact nle_nil | refine And.intro ?_ ?_ | refine nle_box ?_ | refine nle_agg ?_ | refine nle_sl ?_ | exact nleLL_nil | refine nleLL_cons ?_ ?_ | exact nleL_nil | refine nleL_cons ?_ ?_ | exact nle_rfl _)
  · obtain rfl : i = B.length := by
      have : ¬ i < B.length := by simpa using hlt
      omega
    simp -implicitDefEqProofs (disch := omega) only [go_sem, ↓reduceIte, Nat.reduceAdd, Nat.reduceMul, Nat.reduceLeDiff, reduceCtorEq, Nat.reduceEqDiff, Nat.reduceBEq, Nat.reduceBNe, Option.some.injEq , List.take_length]
def priceS (prices : List Int) (ps : List Placed) : Int := (ps.map fun t => prices.getD t.Tile.toNat 0).sum
def costFine (a : TileSet) (prices : List Int) (glue : Int) : Bool := decide (prices.length = a.Tiles.length) && (prices.all (inR 0 1000) && inR 0 1000 glue)
def CostOfR (a : TileSet) (b : Assembly) (prices : List Int) (glue : Int) : Int := if okSet a && okAsm a b then (if costFine a prices glue then glue * ((usedU (flatS a b.Tiles)).length : Nat) + priceS prices b.Tiles else 0) else 0
def CostOfC (a : TileSet) (b : Assembly) (prices : List Int) (glue : Int) : Int := if okSet a && okAsm a b then (if costFine a prices glue then 0 else 2) else 1
theorem priceS_next (prices : List Int) {ps : List Placed} {i : Nat} (h : i < ps.length) : priceS prices (ps.take (i + 1)) = priceS prices (ps.take i) + prices.getD ps[i].Tile.toNat 0 := by
  unfold priceS
  rw [List.take_succ_eq_append_getElem h, List.map_append, List.sum_append]
  simp
theorem priceS_in {prices : List Int} (h : prices.all (inR 0 1000) = true) : ∀ ps : List Placed, 0 ≤ priceS prices ps ∧ priceS prices ps ≤ 1000 * (ps.length : Int)
  | [] => by simp [priceS]
  | t :: ps => by
    have ih := priceS_in h ps
    have e : priceS prices (t :: ps) = prices.getD t.Tile.toNat 0 + priceS prices ps := by simp [priceS]
    have : 0 ≤ prices.getD t.Tile.toNat 0 ∧ prices.getD t.Tile.toNat 0 ≤ 1000 := by
      rw [List.getD_eq_getElem?_getD]
      cases hs : prices[t.Tile.toNat]? with
      | none => simp
      | some v =>
        rw [List.all_eq_true] at h
        exact inR_iff.1 (h v (List.mem_of_getElem? hs))
    rw [e, List.length_cons]
    omega
/-- impl.below$1 -/
def code_impl_below_1 : VCode := (.seq (.ops [
  ⟨(some 3), none, (.asg (.const (.bool false)))⟩]) (.seq (.ops [
  ⟨(some 4), none, (.mv (.tmp 0))⟩,
  ⟨(some 5), none, (.load 1 false (.tmp 1))⟩,
  ⟨(some 6), none, (.bin .sub (.tmp 5) (.const (.int .i64 1)))⟩,
  ⟨(some 7), none, (.callX 58 [(.tmp 4), (.const (.int .i64 0)), (.tmp 6)])⟩,
  ⟨(some 8), none, (.un .not (.tmp 7))⟩,
  ⟨(some 3), none, (.asg (.tmp 8))⟩]) .ret))
theorem law_impl_below_1 {a0 a1 d : D} (h : code_impl_below_1.wp (CT Try.prog NoG) (endQ [(.t 3)] d) [a0, a1, .undef, .undef, .undef, .undef, .undef, .undef, .undef]) : Contract Try.prog NoG 107 [a0, a1] d :=
  contract_of noG Try.func107 (fun us W => by kernel_rfl) (c := Try.f107.body.getD .skip) (ms := []) (ms' := []) (by kernel_rfl) (by kernel_rfl) (by kernel_rfl) h
/-- impl.below -/
def code_impl_below : VCode := (.seq (.ops [
  ⟨(some 3), none, (.box (.tmp 1))⟩,
  ⟨(some 4), none, (.asg (.const (.bool false)))⟩]) (.seq (.ops [
  ⟨(some 5), none, (.mv (.tmp 0))⟩,
  ⟨(some 6), none, (.mkf 107 [] [(.tmp 3)])⟩,
  ⟨(some 7), none, (.callX 106 [(.tmp 5), (.tmp 6)])⟩,
  ⟨(some 8), none, (.un .not (.tmp 7))⟩,
  ⟨(some 4), none, (.asg (.tmp 8))⟩]) .ret))
theorem law_impl_below {a0 a1 d : D} (h : code_impl_below.wp (CT Try.prog NoG) (endQ [(.t 4)] d) [a0, a1, .undef, .undef, .undef, .undef, .undef, .undef, .undef]) : Contract Try.prog NoG 57 [a0, a1] d :=
  contract_of noG Try.func57 (fun us W => by kernel_rfl) (c := Try.f57.body.getD .skip) (ms := []) (ms' := []) (by kernel_rfl) (by kernel_rfl) (by kernel_rfl) h
theorem v_below1 (n l : Int) (hl : 0 ≤ l) (hl2 : l ≤ 1099511627776) : Contract Try.prog NoG 107 [.v (.int .i64 n), .iptr [.v (.int .i64 l)] 0] (.v (.bool (!inR 0 (l - 1) n))) := by
  refine law_impl_below_1 ?_
  unfold code_impl_below_1
  have hw : IntKind.i64.wrap (l - 1) = l - 1 := wrI (by omega) (by omega)
  simp -implicitDefEqProofs (disch := omega) only [go_sem, ↓reduceIte, Nat.reduceAdd, Nat.reduceMul, Nat.reduceLeDiff, reduceCtorEq, Nat.reduceEqDiff, Nat.reduceBEq, Nat.reduceBNe, Option.some.injEq , hw]
  refine call_leA (v_within n 0 (l - 1)) (by simp -implicitDefEqProofs (disch := omega) only [go_sem, ↓reduceIte, Nat.reduceAdd, Nat.reduceMul, Nat.reduceLeDiff, reduceCtorEq, Nat.reduceEqDiff, Nat.reduceBEq, Nat.reduceBNe, Option.some.injEq, deep, TD.rows, immLL_rI, immLL_rB8, immLL_rS, immLL_rBo, immLL_rII]; exact rfl) (by repeat (first | exact leL_nil | refine leL_cons ?_ ?_ | exact le_of_eq rfl | exact le_slf rfl (by first | rfl | exact TD.rows _ _ _) | refine le_agg ?_ | (refine le_iptrN ?_; simp only [List.drop_succ_cons, List.drop_zero, List.take_succ_cons, List.take_zero, List.take_nil, List.length_cons, List.length_nil, Nat.zero_add, Nat.reduceAdd]) | refine le_iptr ?_ | refine le_fn ?_ ?_)) (by first | exact .inl rfl | exact .inl (by simp only [D.noImm, noImmL, Bool.and_true, Bool.true_and, TD.nims, TD.nim, nim_rI, nim_rB8, nim_rBo, nim_rS])) ?_
  simp -implicitDefEqProofs (disch := omega) only [go_sem, ↓reduceIte, Nat.reduceAdd, Nat.reduceMul, Nat.reduceLeDiff, reduceCtorEq, Nat.reduceEqDiff, Nat.reduceBEq, Nat.reduceBNe, Option.some.injEq]
theorem v_below (xs : List Int) (l : Int) (hl : 0 ≤ l) (hl2 : l ≤ 1099511627776) (hn : xs.length ≤ 1048576) : Contract Try.prog NoG 57 [.sl false 1 (xs.map rI), .v (.int .i64 l)] (.v (.bool (xs.all (inR 0 (l - 1))))) := by
  refine law_impl_below ?_
  unfold code_impl_below
  simp -implicitDefEqProofs (disch := omega) only [go_sem, ↓reduceIte, Nat.reduceAdd, Nat.reduceMul, Nat.reduceLeDiff, reduceCtorEq, Nat.reduceEqDiff, Nat.reduceBEq, Nat.reduceBNe, Option.some.injEq]
  refine call_leA (v_ContainsFunc_Int64 _ [.iptr [.v (.int .i64 l)] 0] ⟨rfl, fun _ => rfl, fun _ => rfl, fun _ => rfl⟩ xs (fun n => !inR 0 (l - 1) n) (fun x _ => v_below1 x l hl hl2) (by omega)) (by simp -implicitDefEqProofs (disch := omega) only [go_sem, ↓reduceIte, Nat.reduceAdd, Nat.reduceMul, Nat.reduceLeDiff, reduceCtorEq, Nat.reduceEqDiff, Nat.reduceBEq, Nat.reduceBNe, Option.some.injEq, deep, TD.rows, immLL_rI, immLL_rB8, immLL_rS, immLL_rBo, immLL_rII, any_not, Bool.not_not]; exact rfl) (by repeat (first | exact leL_nil | refine leL_cons ?_ ?_ | exact le_of_eq rfl | exact le_slf rfl (by first | rfl | exact TD.rows _ _ _) | refine le_agg ?_ | (refine le_iptrN ?_; simp only [List.drop_succ_cons, List.drop_zero, List.take_succ_cons, List.take_zero, List.take_nil, List.length_cons, List.length_nil, Nat.zero_add, Nat.reduceAdd]) | refine le_iptr ?_ | refine le_fn ?_ ?_)) (by first | exact .inl rfl | exact .inl (by simp only [D.noImm, noImmL, Bool.and_true, Bool.true_and, TD.nims, TD.nim, nim_rI, nim_rB8, nim_rBo, nim_rS])) ?_
  simp -implicitDefEqProofs (disch := omega) only [go_sem, ↓reduceIte, Nat.reduceAdd, Nat.reduceMul, Nat.reduceLeDiff, reduceCtorEq, Nat.reduceEqDiff, Nat.reduceBEq, Nat.reduceBNe, Option.some.injEq , any_not, Bool.not_not]
abbrev mk_impl_CostOf_0 : List Bool := [true, true, false, true, true, false, true, true, true, true, false, true, true, true, true, true, true, true, true, true, true, true, true, true, true, true, true, true, true, true, true, true, true, true, true, true, true, true, true, true, true, false, false, false, false, true, true, true, true, true, true, true, true, true, true, true, true]
/-- impl.CostOf -/
def code_impl_CostOf : VCode := (.seq (.ops [
  ⟨(some 4), none, (.box (.tmp 0))⟩,
  ⟨(some 5), none, (.box (.tmp 1))⟩,
  ⟨(some 8), none, (.asg (.const (.int .i64 0)))⟩,
  ⟨(some 9), none, (.asg (.const (.int .i64 0)))⟩]) (.seq (.block 0 (.seq (.ops [
  ⟨(some 14), none, (.load 2 true (.tmp 4))⟩,
  ⟨(some 15), none, (.load 1 true (.tmp 5))⟩,
  ⟨(some 16), none, (.callX 56 [(.tmp 14), (.tmp 15)])⟩,
  ⟨(some 17), none, (.un .not (.tmp 16))⟩,
  ⟨(some 13), none, (.asg (.tmp 17))⟩]) (.cond (.tmp 13) (.seq (.ops [
  ⟨(some 8), none, (.asg (.const (.int .i64 0)))⟩,
  ⟨(some 9), none, (.asg (.const (.int .i64 1)))⟩]) .ret) (.seq (.ops [
  ⟨(some 19), none, (.mv (.tmp 2))⟩,
  ⟨(some 20), none, (.len (.tmp 19))⟩,
  ⟨(some 21), none, (.fa 1 (.tmp 4))⟩,
  ⟨(some 22), none, (.load 1 false (.tmp 21))⟩,
  ⟨(some 23), none, (.len (.tmp 22))⟩,
  ⟨(some 24), none, (.bin .neq (.tmp 20) (.tmp 23))⟩,
  ⟨(some 25), none, (.mv (.tmp 24))⟩,
  ⟨(some 26), (some (25, false)), (.mv (.tmp 2))⟩,
  ⟨(some 27), (some (25, false)), (.callX 57 [(.tmp 26), (.const (.int .i64 1001))])⟩,
  ⟨(some 28), (some (25, false)), (.un .not (.tmp 27))⟩,
  ⟨(some 29), none, (.pick (.tmp 25) (.const (.bool true)) (.tmp 28))⟩,
  ⟨(some 30), none, (.mv (.tmp 29))⟩,
  ⟨(some 31), (some (30, false)), (.mv (.tmp 3))⟩,
  ⟨(some 32), (some (30, false)), (.callX 58 [(.tmp 31), (.const (.int .i64 0)), (.const (.int .i64 1000))])⟩,
  ⟨(some 33), (some (30, false)), (.un .not (.tmp 32))⟩,
  ⟨(some 34), none, (.pick (.tmp 30) (.const (.bool true)) (.tmp 33))⟩,
  ⟨(some 18), none, (.asg (.tmp 34))⟩]) (.cond (.tmp 18) (.seq (.ops [
  ⟨(some 8), none, (.asg (.const (.int .i64 0)))⟩,
  ⟨(some 9), none, (.asg (.const (.int .i64 2)))⟩]) .ret) .skip))))) (.seq (.ops [
  ⟨(some 35), none, (.mv (.tmp 3))⟩,
  ⟨(some 36), none, (.load 2 true (.tmp 4))⟩,
  ⟨(some 37), none, (.load 1 true (.tmp 5))⟩,
  ⟨(some 38), none, (.callX 59 [(.tmp 36), (.tmp 37)])⟩,
  ⟨(some 39), none, (.mlen (.tmp 38))⟩,
  ⟨(some 40), none, (.bin .mul (.tmp 35) (.tmp 39))⟩,
  ⟨(some 10), none, (.asg (.tmp 40))⟩]) (.seq (.seq (.ops [
  ⟨(some 41), none, (.fa 0 (.tmp 5))⟩,
  ⟨(some 42), none, (.load 1 false (.tmp 41))⟩,
  ⟨(some 43), none, (.len (.tmp 42))⟩,
  ⟨(some 44), none, (.mv (.const (.int .i64 0)))⟩]) (.block 1 (.loop mk_impl_CostOf_0 (.seq (.ops [
  ⟨(some 45), none, (.bin .lss (.tmp 44) (.tmp 43))⟩]) (.seq (.cond (.tmp 45) .skip (.exit 1)) (.seq (.block 2 (.seq (.ops [
  ⟨(some 46), none, (.ia 3 (.tmp 42) (.tmp 44))⟩,
  ⟨(some 47), none, (.load 3 true (.tmp 46))⟩,
  ⟨(some 12), none, (.alloc [(.int .i64 0), (.int .i64 0), (.int .i64 0)])⟩,
  ⟨none, none, (.store 3 (.tmp 12) (.tmp 47))⟩]) (.ops [
  ⟨(some 48), none, (.mv (.tmp 10))⟩,
  ⟨(some 49), none, (.mv (.tmp 2))⟩,
  ⟨(some 50), none, (.fa 2 (.tmp 12))⟩,
  ⟨(some 51), none, (.load 1 false (.tmp 50))⟩,
  ⟨(some 52), none, (.ia 1 (.tmp 49) (.tmp 51))⟩,
  ⟨(some 53), none, (.load 1 false (.tmp 52))⟩,
  ⟨(some 54), none, (.bin .add (.tmp 48) (.tmp 53))⟩,
  ⟨(some 10), none, (.asg (.tmp 54))⟩]))) (.ops [
  ⟨(some 55), none, (.bin .add (.tmp 44) (.const (.int .i64 1)))⟩,
  ⟨(some 44), none, (.mv (.tmp 55))⟩]))))))) (.seq (.ops [
  ⟨(some 56), none, (.mv (.tmp 10))⟩,
  ⟨(some 8), none, (.asg (.tmp 56))⟩,
  ⟨(some 9), none, (.asg (.const (.int .i64 0)))⟩]) .ret)))))
theorem law_impl_CostOf {a0 a1 a2 a3 d : D} (h : code_impl_CostOf.wp (CT Try.prog NoG) (endQ [(.t 8), (.t 9)] d) [a0, a1, a2, a3, .undef, .undef, .undef, .undef, .undef, .undef, .undef, .undef, .undef, .undef, .undef, .undef, .undef, .undef, .undef, .undef, .undef, .undef, .undef, .undef, .undef, .undef, .undef, .undef, .undef, .undef, .undef, .undef, .undef, .undef, .undef, .undef, .undef, .undef, .undef, .undef, .undef, .undef, .undef, .undef, .undef, .undef, .undef, .undef, .undef, .undef, .undef, .undef, .undef, .undef, .undef, .undef, .undef]) : Contract Try.prog NoG 16 [a0, a1, a2, a3] d :=
  contract_of noG Try.func16 (fun us W => by kernel_rfl) (c := Try.f16.body.getD .skip) (ms := [mk_impl_CostOf_0]) (ms' := []) (by kernel_rfl) (by kernel_rfl) (by kernel_rfl) h
abbrev mk_spec_CostOf_0 : List Bool := [true, true, false, false, false, false, true, true, true, true, true, false, false, true, true, true, true, true, true, true, true, true, true, true, true, true, true, true, true, true, true, true, true, true, true, true, true, true, true, true, true, true, true, true, true, true, true, true, true, true, true, true, true, true, true, true, true, true, true, true, true, true, true, true, true, true, true, true]
abbrev mk_spec_CostOf_1 : List Bool := [true, true, false, true, true, false, true, true, true, true, true, true, true, false, false, true, true, true, true, true, true, true, true, true, true, true, true, true, true, true, true, true, true, true, true, true, true, true, true, true, true, true, true, true, true, true, true, true, true, true, true, true, true, true, true, true, true, true, true, true, true, true, true, true, true, true, true, true]
/-- spec.CostOf -/
def code_spec_CostOf : VCode := (.seq (.ops [
  ⟨(some 4), none, (.box (.tmp 0))⟩,
  ⟨(some 5), none, (.box (.tmp 1))⟩,
  ⟨(some 8), none, (.asg (.const (.int .i64 0)))⟩,
  ⟨(some 9), none, (.asg (.const (.int .i64 0)))⟩]) (.seq (.seq (.ops [
  ⟨(some 15), none, (.callX 49 [(.tmp 4), (.tmp 5)])⟩,
  ⟨(some 10), none, (.asg (.tmp 15))⟩]) (.seq (.ops [
  ⟨(some 16), none, (.mv (.tmp 10))⟩,
  ⟨(some 17), none, (.bin .neq (.tmp 16) (.const (.int .i64 0)))⟩]) (.cond (.tmp 17) (.seq (.ops [
  ⟨(some 18), none, (.mv (.tmp 10))⟩,
  ⟨(some 8), none, (.asg (.const (.int .i64 0)))⟩,
  ⟨(some 9), none, (.asg (.tmp 18))⟩]) .ret) .skip))) (.seq (.ops [
  ⟨(some 19), none, (.mv (.tmp 2))⟩,
  ⟨(some 20), none, (.len (.tmp 19))⟩,
  ⟨(some 21), none, (.fa 1 (.tmp 4))⟩,
  ⟨(some 22), none, (.load 1 false (.tmp 21))⟩,
  ⟨(some 23), none, (.len (.tmp 22))⟩,
  ⟨(some 24), none, (.bin .eql (.tmp 20) (.tmp 23))⟩,
  ⟨(some 25), none, (.mv (.tmp 24))⟩,
  ⟨(some 26), (some (25, true)), (.mv (.tmp 3))⟩,
  ⟨(some 27), (some (25, true)), (.callX 50 [(.tmp 26), (.const (.int .i64 0)), (.const (.int .i64 1000))])⟩,
  ⟨(some 28), none, (.pick (.tmp 25) (.tmp 27) (.const (.bool false)))⟩,
  ⟨(some 11), none, (.asg (.tmp 28))⟩]) (.seq (.seq (.ops [
  ⟨(some 12), none, (.asg (.const (.int .i64 0)))⟩]) (.block 0 (.loop mk_spec_CostOf_0 (.seq (.seq (.ops [
  ⟨(some 29), none, (.mv (.tmp 12))⟩,
  ⟨(some 30), none, (.mv (.tmp 2))⟩,
  ⟨(some 31), none, (.len (.tmp 30))⟩,
  ⟨(some 32), none, (.bin .lss (.tmp 29) (.tmp 31))⟩]) (.cond (.tmp 32) .skip (.exit 0))) (.seq (.block 1 (.ops [
  ⟨(some 35), none, (.mv (.tmp 11))⟩,
  ⟨(some 36), none, (.mv (.tmp 35))⟩,
  ⟨(some 37), (some (36, true)), (.mv (.tmp 2))⟩,
  ⟨(some 38), (some (36, true)), (.mv (.tmp 12))⟩,
  ⟨(some 39), (some (36, true)), (.ia 1 (.tmp 37) (.tmp 38))⟩,
  ⟨(some 40), (some (36, true)), (.load 1 false (.tmp 39))⟩,
  ⟨(some 41), (some (36, true)), (.callX 50 [(.tmp 40), (.const (.int .i64 0)), (.const (.int .i64 1000))])⟩,
  ⟨(some 42), none, (.pick (.tmp 36) (.tmp 41) (.const (.bool false)))⟩,
  ⟨(some 11), none, (.asg (.tmp 42))⟩])) (.ops [
  ⟨(some 33), none, (.mv (.tmp 12))⟩,
  ⟨(some 34), none, (.bin .add (.tmp 33) (.const (.int .i64 1)))⟩,
  ⟨(some 12), none, (.asg (.tmp 34))⟩])))))) (.seq (.seq (.ops [
  ⟨(some 43), none, (.mv (.tmp 11))⟩,
  ⟨(some 44), none, (.un .not (.tmp 43))⟩]) (.cond (.tmp 44) (.seq (.ops [
  ⟨(some 8), none, (.asg (.const (.int .i64 0)))⟩,
  ⟨(some 9), none, (.asg (.const (.int .i64 2)))⟩]) .ret) .skip)) (.seq (.ops [
  ⟨(some 45), none, (.mv (.tmp 3))⟩,
  ⟨(some 46), none, (.callX 52 [(.tmp 4), (.tmp 5)])⟩,
  ⟨(some 47), none, (.callX 51 [(.tmp 46)])⟩,
  ⟨(some 48), none, (.bin .mul (.tmp 45) (.tmp 47))⟩,
  ⟨(some 13), none, (.asg (.tmp 48))⟩]) (.seq (.seq (.ops [
  ⟨(some 14), none, (.asg (.const (.int .i64 0)))⟩]) (.block 2 (.loop mk_spec_CostOf_1 (.seq (.seq (.ops [
  ⟨(some 49), none, (.mv (.tmp 14))⟩,
  ⟨(some 50), none, (.fa 0 (.tmp 5))⟩,
  ⟨(some 51), none, (.load 1 false (.tmp 50))⟩,
  ⟨(some 52), none, (.len (.tmp 51))⟩,
  ⟨(some 53), none, (.bin .lss (.tmp 49) (.tmp 52))⟩]) (.cond (.tmp 53) .skip (.exit 2))) (.seq (.block 3 (.ops [
  ⟨(some 56), none, (.mv (.tmp 13))⟩,
  ⟨(some 57), none, (.mv (.tmp 2))⟩,
  ⟨(some 58), none, (.fa 0 (.tmp 5))⟩,
  ⟨(some 59), none, (.load 1 false (.tmp 58))⟩,
  ⟨(some 60), none, (.mv (.tmp 14))⟩,
  ⟨(some 61), none, (.ia 3 (.tmp 59) (.tmp 60))⟩,
  ⟨(some 62), none, (.fa 2 (.tmp 61))⟩,
  ⟨(some 63), none, (.load 1 false (.tmp 62))⟩,
  ⟨(some 64), none, (.ia 1 (.tmp 57) (.tmp 63))⟩,
  ⟨(some 65), none, (.load 1 false (.tmp 64))⟩,
  ⟨(some 66), none, (.bin .add (.tmp 56) (.tmp 65))⟩,
  ⟨(some 13), none, (.asg (.tmp 66))⟩])) (.ops [
  ⟨(some 54), none, (.mv (.tmp 14))⟩,
  ⟨(some 55), none, (.bin .add (.tmp 54) (.const (.int .i64 1)))⟩,
  ⟨(some 14), none, (.asg (.tmp 55))⟩])))))) (.seq (.ops [
  ⟨(some 67), none, (.mv (.tmp 13))⟩,
  ⟨(some 8), none, (.asg (.tmp 67))⟩,
  ⟨(some 9), none, (.asg (.const (.int .i64 0)))⟩]) .ret))))))))
theorem law_spec_CostOf {a0 a1 a2 a3 d : D} (h : code_spec_CostOf.wp (CT Try.prog NoG) (endQ [(.t 8), (.t 9)] d) [a0, a1, a2, a3, .undef, .undef, .undef, .undef, .undef, .undef, .undef, .undef, .undef, .undef, .undef, .undef, .undef, .undef, .undef, .undef, .undef, .undef, .undef, .undef, .undef, .undef, .undef, .undef, .undef, .undef, .undef, .undef, .undef, .undef, .undef, .undef, .undef, .undef, .undef, .undef, .undef, .undef, .undef, .undef, .undef, .undef, .undef, .undef, .undef, .undef, .undef, .undef, .undef, .undef, .undef, .undef, .undef, .undef, .undef, .undef, .undef, .undef, .undef, .undef, .undef, .undef, .undef, .undef]) : Contract Try.prog NoG 12 [a0, a1, a2, a3] d :=
  contract_of noG Try.func12 (fun us W => by kernel_rfl) (c := Try.f12.body.getD .skip) (ms := [mk_spec_CostOf_0, mk_spec_CostOf_1]) (ms' := []) (by kernel_rfl) (by kernel_rfl) (by kernel_rfl) h
set_option maxHeartbeats 2000000 in
theorem vCostOf_impl (q_aSet : TileSet) (q_aSet_ok : TileSet.td.ok q_aSet) (q_aSet_n : TileSet.cnt q_aSet ≤ 1048576) (q_aA : Assembly) (q_aA_ok : Assembly.td.ok q_aA) (q_aA_n : Assembly.cnt q_aA ≤ 1048576) (q_aPrices : List Int) (q_aPrices_ok : ∀ y, y ∈ q_aPrices → InK .i64 y) (q_aPrices_n : q_aPrices.length ≤ 1048576) (q_aGlue : Int) (q_aGlue_ok : InK .i64 q_aGlue) : Contract Try.prog NoG 16 [.agg (TileSet.td.d false q_aSet), .agg (Assembly.td.d false q_aA), .sl false 1 (q_aPrices.map rI), .v (.int .i64 q_aGlue)] (.tup [.v (.int .i64 (CostOfR q_aSet q_aA q_aPrices q_aGlue)), .v (.int .i64 (CostOfC q_aSet q_aA q_aPrices q_aGlue))]) := by
  have ha := setB_of q_aSet_n
  have hat := ha.t
  have hn := asm_len q_aA_n
  rw [TileSet.td_d, Assembly.td_d]
  refine law_impl_CostOf ?_
  unfold code_impl_CostOf
  simp -implicitDefEqProofs (disch := omega) only [go_sem, ↓reduceIte, Nat.reduceAdd, Nat.reduceMul, Nat.reduceLeDiff, reduceCtorEq, Nat.reduceEqDiff, Nat.reduceBEq, Nat.reduceBNe, Option.some.injEq]
  cases h1 : okSet q_aSet && okAsm q_aSet q_aA with
  | false =>
    refine call_leA (v_ValidAssembly q_aSet q_aA ha hn) (by simp -implicitDefEqProofs (disch := omega) only [go_sem, ↓reduceIte, Nat.reduceAdd, Nat.reduceMul, Nat.reduceLeDiff, reduceCtorEq, Nat.reduceEqDiff, Nat.reduceBEq, Nat.reduceBNe, Option.some.injEq, deep, TD.rows, immLL_rI, immLL_rB8, immLL_rS, immLL_rBo, immLL_rII, h1, CostOfR, CostOfC]; exact rfl) (by repeat (first | exact leL_nil | refine leL_cons ?_ ?_ | exact le_of_eq rfl | exact le_slf rfl (by first | rfl | exact TD.rows _ _ _) | refine le_agg ?_ | (refine le_iptrN ?_; simp only [List.drop_succ_cons, List.drop_zero, List.take_succ_cons, List.take_zero, List.take_nil, List.length_cons, List.length_nil, Nat.zero_add, Nat.reduceAdd]) | refine le_iptr ?_ | refine le_fn ?_ ?_)) (by first | exact .inl rfl | exact .inl (by simp only [D.noImm, noImmL, Bool.and_true, Bool.true_and, TD.nims, TD.nim, nim_rI, nim_rB8, nim_rBo, nim_rS])) ?_
    simp -implicitDefEqProofs (disch := omega) only [go_sem, ↓reduceIte, Nat.reduceAdd, Nat.reduceMul, Nat.reduceLeDiff, reduceCtorEq, Nat.reduceEqDiff, Nat.reduceBEq, Nat.reduceBNe, Option.some.injEq , h1, CostOfR, CostOfC]
  | true =>
  obtain ⟨h2, h3⟩ : okSet q_aSet = true ∧ okAsm q_aSet q_aA = true := by simpa using h1
  have hl := asm_len500 h3
  cases h4 : decide (q_aPrices.length = q_aSet.Tiles.length) with
  | false =>
    have d4 : decide ((q_aPrices.length : Int) = (q_aSet.Tiles.length : Int)) = false := by rw [← h4, decide_eq_decide]; omega
    refine call_leA (v_ValidAssembly q_aSet q_aA ha hn) (by simp -implicitDefEqProofs (disch := omega) only [go_sem, ↓reduceIte, Nat.reduceAdd, Nat.reduceMul, Nat.reduceLeDiff, reduceCtorEq, Nat.reduceEqDiff, Nat.reduceBEq, Nat.reduceBNe, Option.some.injEq, deep, TD.rows, immLL_rI, immLL_rB8, immLL_rS, immLL_rBo, immLL_rII, h1, List.length_map, d4, CostOfR, CostOfC, costFine, h4]; exact rfl) (by repeat (first | exact leL_nil | refine leL_cons ?_ ?_ | exact le_of_eq rfl | exact le_slf rfl (by first | rfl | exact TD.rows _ _ _) | refine le_agg ?_ | (refine le_iptrN ?_; simp only [List.drop_succ_cons, List.drop_zero, List.take_succ_cons, List.take_zero, List.take_nil, List.length_cons, List.length_nil, Nat.zero_add, Nat.reduceAdd]) | refine le_iptr ?_ | refine le_fn ?_ ?_)) (by first | exact .inl rfl | exact .inl (by simp only [D.noImm, noImmL, Bool.and_true, Bool.true_and, TD.nims, TD.nim, nim_rI, nim_rB8, nim_rBo, nim_rS])) ?_
    simp -implicitDefEqProofs (disch := omega) only [go_sem, ↓reduceIte, Nat.reduceAdd, Nat.reduceMul, Nat.reduceLeDiff, reduceCtorEq, Nat.reduceEqDiff, Nat.reduceBEq, Nat.reduceBNe, Option.some.injEq , h1, List.length_map, d4, CostOfR, CostOfC, costFine, h4]
  | true =>
  have d4 : decide ((q_aPrices.length : Int) = (q_aSet.Tiles.length : Int)) = true := by rw [← h4, decide_eq_decide]; omega
  have h4' : q_aPrices.length = q_aSet.Tiles.length := of_decide_eq_true h4
  refine call_leA (v_ValidAssembly q_aSet q_aA ha hn) (by simp -implicitDefEqProofs (disch := omega) only [go_sem, ↓reduceIte, Nat.reduceAdd, Nat.reduceMul, Nat.reduceLeDiff, reduceCtorEq, Nat.reduceEqDiff, Nat.reduceBEq, Nat.reduceBNe, Option.some.injEq, deep, TD.rows, immLL_rI, immLL_rB8, immLL_rS, immLL_rBo, immLL_rII, h1, List.length_map, d4]; exact rfl) (by repeat (first | exact leL_nil | refine leL_cons ?_ ?_ | exact le_of_eq rfl | exact le_slf rfl (by first | rfl | exact TD.rows _ _ _) | refine le_agg ?_ | (refine le_iptrN ?_; simp only [List.drop_succ_cons, List.drop_zero, List.take_succ_cons, List.take_zero, List.take_nil, List.length_cons, List.length_nil, Nat.zero_add, Nat.reduceAdd]) | refine le_iptr ?_ | refine le_fn ?_ ?_)) (by first | exact .inl rfl | exact .inl (by simp only [D.noImm, noImmL, Bool.and_true, Bool.true_and, TD.nims, TD.nim, nim_rI, nim_rB8, nim_rBo, nim_rS])) ?_
  simp -implicitDefEqProofs (disch := omega) only [go_sem, ↓reduceIte, Nat.reduceAdd, Nat.reduceMul, Nat.reduceLeDiff, reduceCtorEq, Nat.reduceEqDiff, Nat.reduceBEq, Nat.reduceBNe, Option.some.injEq , h1, List.length_map, d4]
  cases h5 : q_aPrices.all (inR 0 1000) with
  | false =>
    refine call_leA (v_below q_aPrices 1001 (by decide) (by decide) q_aPrices_n) (by simp -implicitDefEqProofs (disch := omega) only [go_sem, ↓reduceIte, Nat.reduceAdd, Nat.reduceMul, Nat.reduceLeDiff, reduceCtorEq, Nat.reduceEqDiff, Nat.reduceBEq, Nat.reduceBNe, Option.some.injEq, deep, TD.rows, immLL_rI, immLL_rB8, immLL_rS, immLL_rBo, immLL_rII, Int.reduceSub, h5, CostOfR, CostOfC, costFine, h4, h1]; exact rfl) (by repeat (first | exact leL_nil | refine leL_cons ?_ ?_ | exact le_of_eq rfl | exact le_slf rfl (by first | rfl | exact TD.rows _ _ _) | refine le_agg ?_ | (refine le_iptrN ?_; simp only [List.drop_succ_cons, List.drop_zero, List.take_succ_cons, List.take_zero, List.take_nil, List.length_cons, List.length_nil, Nat.zero_add, Nat.reduceAdd]) | refine le_iptr ?_ | refine le_fn ?_ ?_)) (by first | exact .inl rfl | exact .inl (by simp only [D.noImm, noImmL, Bool.and_true, Bool.true_and, TD.nims, TD.nim, nim_rI, nim_rB8, nim_rBo, nim_rS])) ?_
    simp -implicitDefEqProofs (disch := omega) only [go_sem, ↓reduceIte, Nat.reduceAdd, Nat.reduceMul, Nat.reduceLeDiff, reduceCtorEq, Nat.reduceEqDiff, Nat.reduceBEq, Nat.reduceBNe, Option.some.injEq , Int.reduceSub, h5, CostOfR, CostOfC, costFine, h4, h1]
  | true =>
  refine call_leA (v_below q_aPrices 1001 (by decide) (by decide) q_aPrices_n) (by simp -implicitDefEqProofs (disch := omega) only [go_sem, ↓reduceIte, Nat.reduceAdd, Nat.reduceMul, Nat.reduceLeDiff, reduceCtorEq, Nat.reduceEqDiff, Nat.reduceBEq, Nat.reduceBNe, Option.some.injEq, deep, TD.rows, immLL_rI, immLL_rB8, immLL_rS, immLL_rBo, immLL_rII, Int.reduceSub, h5]; exact rfl) (by repeat (first | exact leL_nil | refine leL_cons ?_ ?_ | exact le_of_eq rfl | exact le_slf rfl (by first | rfl | exact TD.rows _ _ _) | refine le_agg ?_ | (refine le_iptrN ?_; simp only [List.drop_succ_cons, List.drop_zero, List.take_succ_cons, List.take_zero, List.take_nil, List.length_cons, List.length_nil, Nat.zero_add, Nat.reduceAdd]) | refine le_iptr ?_ | refine le_fn ?_ ?_)) (by first | exact .inl rfl | exact .inl (by simp only [D.noImm, noImmL, Bool.and_true, Bool.true_and, TD.nims, TD.nim, nim_rI, nim_rB8, nim_rBo, nim_rS])) ?_
  simp -implicitDefEqProofs (disch := omega) only [go_sem, ↓reduceIte, Nat.reduceAdd, Nat.reduceMul, Nat.reduceLeDiff, reduceCtorEq, Nat.reduceEqDiff, Nat.reduceBEq, Nat.reduceBNe, Option.some.injEq , Int.reduceSub, h5]
  cases h6 : inR 0 1000 q_aGlue with
  | false =>
    refine call_leA (v_within q_aGlue 0 1000) (by simp -implicitDefEqProofs (disch := omega) only [go_sem, ↓reduceIte, Nat.reduceAdd, Nat.reduceMul, Nat.reduceLeDiff, reduceCtorEq, Nat.reduceEqDiff, Nat.reduceBEq, Nat.reduceBNe, Option.some.injEq, deep, TD.rows, immLL_rI, immLL_rB8, immLL_rS, immLL_rBo, immLL_rII, h6, CostOfR, CostOfC, costFine, h4, h5, h1]; exact rfl) (by repeat (first | exact leL_nil | refine leL_cons ?_ ?_ | exact le_of_eq rfl | exact le_slf rfl (by first | rfl | exact TD.rows _ _ _) | refine le_agg ?_ | (refine le_iptrN ?_; simp only [List.drop_succ_cons, List.drop_zero, List.take_succ_cons, List.take_zero, List.take_nil, List.length_cons, List.length_nil, Nat.zero_add, Nat.reduceAdd]) | refine le_iptr ?_ | refine le_fn ?_ ?_)) (by first | exact .inl rfl | exact .inl (by simp only [D.noImm, noImmL, Bool.and_true, Bool.true_and, TD.nims, TD.nim, nim_rI, nim_rB8, nim_rBo, nim_rS])) ?_
    simp -implicitDefEqProofs (disch := omega) only [go_sem, ↓reduceIte, Nat.reduceAdd, Nat.reduceMul, Nat.reduceLeDiff, reduceCtorEq, Nat.reduceEqDiff, Nat.reduceBEq, Nat.reduceBNe, Option.some.injEq , h6, CostOfR, CostOfC, costFine, h4, h5, h1]
  | true =>
  have hg := inR_iff.1 h6
  have hu := used_le q_aSet.Glues.length _ (flat_in h2 h3)
  have hgl := okSet_len h2
  have hmul : 0 ≤ q_aGlue * ((usedU (flatS q_aSet q_aA.Tiles)).length : Nat) ∧ q_aGlue * ((usedU (flatS q_aSet q_aA.Tiles)).length : Nat) ≤ 1000 * 200 := by
    refine ⟨Int.mul_nonneg hg.1 (by omega), Int.mul_le_mul hg.2 (by omega) (by omega) (by omega)⟩
  have hwm : IntKind.i64.wrap (q_aGlue * ((usedU (flatS q_aSet q_aA.Tiles)).length : Nat)) = q_aGlue * ((usedU (flatS q_aSet q_aA.Tiles)).length : Nat) := wrI (by omega) (by omega)
  have hel : (entsI (usedU (flatS q_aSet q_aA.Tiles))).length = (usedU (flatS q_aSet q_aA.Tiles)).length := List.length_map ..
  refine call_leA (v_within q_aGlue 0 1000) (by simp -implicitDefEqProofs (disch := omega) only [go_sem, ↓reduceIte, Nat.reduceAdd, Nat.reduceMul, Nat.reduceLeDiff, reduceCtorEq, Nat.reduceEqDiff, Nat.reduceBEq, Nat.reduceBNe, Option.some.injEq, deep, TD.rows, immLL_rI, immLL_rB8, immLL_rS, immLL_rBo, immLL_rII, h6]; exact rfl) (by repeat (first | exact leL_nil | refine leL_cons ?_ ?_ | exact le_of_eq rfl | exact le_slf rfl (by first | rfl | exact TD.rows _ _ _) | refine le_agg ?_ | (refine le_iptrN ?_; simp only [List.drop_succ_cons, List.drop_zero, List.take_succ_cons, List.take_zero, List.take_nil, List.length_cons, List.length_nil, Nat.zero_add, Nat.reduceAdd]) | refine le_iptr ?_ | refine le_fn ?_ ?_)) (by first | exact .inl rfl | exact .inl (by simp only [D.noImm, noImmL, Bool.and_true, Bool.true_and, TD.nims, TD.nim, nim_rI, nim_rB8, nim_rBo, nim_rS])) ?_
  simp -implicitDefEqProofs (disch := omega) only [go_sem, ↓reduceIte, Nat.reduceAdd, Nat.reduceMul, Nat.reduceLeDiff, reduceCtorEq, Nat.reduceEqDiff, Nat.reduceBEq, Nat.reduceBNe, Option.some.injEq , h6]
  refine call_leA (v_usedGlues q_aSet q_aA h2 h3) (by simp -implicitDefEqProofs (disch := omega) only [go_sem, ↓reduceIte, Nat.reduceAdd, Nat.reduceMul, Nat.reduceLeDiff, reduceCtorEq, Nat.reduceEqDiff, Nat.reduceBEq, Nat.reduceBNe, Option.some.injEq, deep, TD.rows, immLL_rI, immLL_rB8, immLL_rS, immLL_rBo, immLL_rII, hel, hwm, List.length_map]; exact rfl) (by repeat (first | exact leL_nil | refine leL_cons ?_ ?_ | exact le_of_eq rfl | exact le_slf rfl (by first | rfl | exact TD.rows _ _ _) | refine le_agg ?_ | (refine le_iptrN ?_; simp only [List.drop_succ_cons, List.drop_zero, List.take_succ_cons, List.take_zero, List.take_nil, List.length_cons, List.length_nil, Nat.zero_add, Nat.reduceAdd]) | refine le_iptr ?_ | refine le_fn ?_ ?_)) (by first | exact .inl rfl | exact .inl (by simp only [D.noImm, noImmL, Bool.and_true, Bool.true_and, TD.nims, TD.nim, nim_rI, nim_rB8, nim_rBo, nim_rS])) ?_
  simp -implicitDefEqProofs (disch := omega) only [go_sem, ↓reduceIte, Nat.reduceAdd, Nat.reduceMul, Nat.reduceLeDiff, reduceCtorEq, Nat.reduceEqDiff, Nat.reduceBEq, Nat.reduceBNe, Option.some.injEq , hel, hwm, List.length_map]
  refine loop_ov (by simp -implicitDefEqProofs (disch := omega) only [go_sem, ↓reduceIte, Nat.reduceAdd, Nat.reduceMul, Nat.reduceLeDiff, reduceCtorEq, Nat.reduceEqDiff, Nat.reduceBEq, Nat.reduceBNe, Option.some.injEq]; exact rfl) (fun i : Nat => [(44, .v (.int .i64 (i : Nat))), (10, .v (.int .i64 (q_aGlue * ((usedU (flatS q_aSet q_aA.Tiles)).length : Nat) + priceS q_aPrices (q_aA.Tiles.take i))))]) (fun _ => by simp only [ovr_nil, ovr_cons, List.set_cons_zero, List.set_cons_succ]; exact rfl) (fun i : Nat => i ≤ q_aA.Tiles.length) (fun i : Nat => q_aA.Tiles.length - i) (0) (by rw [show priceS q_aPrices (q_aA.Tiles.take 0) = 0 from rfl, Int.add_zero]; (try simp -implicitDefEqProofs only [nleL_cc, nleL_nn, nle_self, nle_boxs, nle_aggs, nle_nils, and_self, and_true, true_and]) <;> repeat' (first | exact nle_of_eq rfl | exact nle_nil | refine And.intro ?_ ?_ | refine nle_box ?_ | refine nle_agg ?_ | refine nle_sl ?_ | exact nleLL_nil | refine nleLL_cons ?_ ?_ | exact nleL_nil | refine nleL_cons ?_ ?_ | exact nle_rfl _)) (Nat.zero_le _) ?_
  intro i hi
  have hpi := priceS_in h5 (q_aA.Tiles.take i)
  rw [List.length_take] at hpi
  simp -implicitDefEqProofs (disch := omega) only [go_sem, ↓reduceIte, Nat.reduceAdd, Nat.reduceMul, Nat.reduceLeDiff, reduceCtorEq, Nat.reduceEqDiff, Nat.reduceBEq, Nat.reduceBNe, Option.some.injEq , List.length_map, Int.toNat_natCast, Int.ofNat_lt, Int.natCast_nonneg, List.getElem?_map, Option.map_some]
  refine cond_split ?_ ?_ <;> intro hlt
  · have hlt : i < q_aA.Tiles.length := by simpa using hlt
    have e1 := List.getElem?_eq_getElem hlt
    obtain ⟨n, hn', hnl⟩ := asm_tile h3 hlt
    have hpl : n < q_aPrices.length := by omega
    have e2 := getD_some hpl
    have hnx := priceS_next q_aPrices hlt
    have hpn := priceS_in h5 (q_aA.Tiles.take (i + 1))
    rw [List.length_take] at hpn
    rw [hn', Int.toNat_natCast] at hnx
    have hws : IntKind.i64.wrap (q_aGlue * ((usedU (flatS q_aSet q_aA.Tiles)).length : Nat) + priceS q_aPrices (q_aA.Tiles.take i) + q_aPrices.getD n 0) = q_aGlue * ((usedU (flatS q_aSet q_aA.Tiles)).length : Nat) + priceS q_aPrices (q_aA.Tiles.take (i + 1)) := by
      rw [hnx, ← Int.add_assoc]
      exact wrI (by omega) (by omega)
    simp -implicitDefEqProofs (disch := omega) only [go_sem, ↓reduceIte, Nat.reduceAdd, Nat.reduceMul, Nat.reduceLeDiff, reduceCtorEq, Nat.reduceEqDiff, Nat.reduceBEq, Nat.reduceBNe, Option.some.injEq , List.length_map, Int.toNat_natCast, Int.ofNat_lt, Int.natCast_nonneg, List.getElem?_map, Option.map_some, hlt, e1, Placed.td_d, hn', hpl, e2, hws, wrN]
    exact ⟨i + 1, by omega, hlt, by (try simp -implicitDefEqProofs only [nleL_cc, nleL_nn, nle_self, nle_boxs, nle_aggs, nle_nils, and_self, and_true, true_and]) <;> repeat' (first | exact nle_of_eq rfl | exact nle_nil | refine And.intro ?_ ?_ | refine nle_box ?_ | refine nle_agg ?_ | refine nle_sl ?_ | exact nleLL_nil | refine nleLL_cons ?_ ?_ | exact nleL_nil | refine nleL_cons ?_ ?_ | exact nle_rfl _)⟩
  · obtain rfl : i = q_aA.Tiles.length := by
      have : ¬ i < q_aA.Tiles.length := by simpa using hlt
      omega
    simp -implicitDefEqProofs (disch := omega) only [go_sem, ↓reduceIte, Nat.reduceAdd, Nat.reduceMul, Nat.reduceLeDiff, reduceCtorEq, Nat.reduceEqDiff, Nat.reduceBEq, Nat.reduceBNe, Option.some.injEq , List.take_length, CostOfR, CostOfC, costFine, h1, h4, h5, h6]
set_option maxHeartbeats 2000000 in
theorem vCostOf_spec (q_aSet : TileSet) (q_aSet_ok : TileSet.td.ok q_aSet) (q_aSet_n : TileSet.cnt q_aSet ≤ 1048576) (q_aA : Assembly) (q_aA_ok : Assembly.td.ok q_aA) (q_aA_n : Assembly.cnt q_aA ≤ 1048576) (q_aPrices : List Int) (q_aPrices_ok : ∀ y, y ∈ q_aPrices → InK .i64 y) (q_aPrices_n : q_aPrices.length ≤ 1048576) (q_aGlue : Int) (q_aGlue_ok : InK .i64 q_aGlue) : Contract Try.prog NoG 12 [.agg (TileSet.td.d false q_aSet), .agg (Assembly.td.d false q_aA), .sl false 1 (q_aPrices.map rI), .v (.int .i64 q_aGlue)] (.tup [.v (.int .i64 (CostOfR q_aSet q_aA q_aPrices q_aGlue)), .v (.int .i64 (CostOfC q_aSet q_aA q_aPrices q_aGlue))]) := by
  have ha := setB_of q_aSet_n
  have hat := ha.t
  have hn := asm_len q_aA_n
  rw [TileSet.td_d, Assembly.td_d]
  refine law_spec_CostOf ?_
  unfold code_spec_CostOf
  simp -implicitDefEqProofs (disch := omega) only [go_sem, ↓reduceIte, Nat.reduceAdd, Nat.reduceMul, Nat.reduceLeDiff, reduceCtorEq, Nat.reduceEqDiff, Nat.reduceBEq, Nat.reduceBNe, Option.some.injEq]
  cases h1 : okSet q_aSet && okAsm q_aSet q_aA with
  | false =>
    refine call_leA (v_l06Asked q_aSet q_aA ha hn) (by simp -implicitDefEqProofs (disch := omega) only [go_sem, ↓reduceIte, Nat.reduceAdd, Nat.reduceMul, Nat.reduceLeDiff, reduceCtorEq, Nat.reduceEqDiff, Nat.reduceBEq, Nat.reduceBNe, Option.some.injEq, deep, TD.rows, immLL_rI, immLL_rB8, immLL_rS, immLL_rBo, immLL_rII, h1, Int.natCast_zero, Int.natCast_one, Int.cast_ofNat_Int, Int.ofNat_le, Int.toNat_zero, Nat.sub_zero, Int.le_refl, Int.reduceLT, Int.reduceLE, Int.reduceEq, Int.reduceAdd, Int.reduceSub, Int.reduceMul, Int.reduceToNat, Int.reduceNeg, CostOfR, CostOfC]; exact rfl) (by repeat (first | exact leL_nil | refine leL_cons ?_ ?_ | exact le_of_eq rfl | exact le_slf rfl (by first | rfl | exact TD.rows _ _ _) | refine le_agg ?_ | (refine le_iptrN ?_; simp only [List.drop_succ_cons, List.drop_zero, List.take_succ_cons, List.take_zero, List.take_nil, List.length_cons, List.length_nil, Nat.zero_add, Nat.reduceAdd]) | refine le_iptr ?_ | refine le_fn ?_ ?_)) (by first | exact .inl rfl | exact .inl (by simp only [D.noImm, noImmL, Bool.and_true, Bool.true_and, TD.nims, TD.nim, nim_rI, nim_rB8, nim_rBo, nim_rS])) ?_
    simp -implicitDefEqProofs (disch := omega) only [go_sem, ↓reduceIte, Nat.reduceAdd, Nat.reduceMul, Nat.reduceLeDiff, reduceCtorEq, Nat.reduceEqDiff, Nat.reduceBEq, Nat.reduceBNe, Option.some.injEq , h1, Int.natCast_zero, Int.natCast_one, Int.cast_ofNat_Int, Int.ofNat_le, Int.toNat_zero, Nat.sub_zero, Int.le_refl, Int.reduceLT, Int.reduceLE, Int.reduceEq, Int.reduceAdd, Int.reduceSub, Int.reduceMul, Int.reduceToNat, Int.reduceNeg, CostOfR, CostOfC]
  | true =>
  obtain ⟨h2, h3⟩ : okSet q_aSet = true ∧ okAsm q_aSet q_aA = true := by simpa using h1
  have hl := asm_len500 h3
  have d4 : decide ((q_aPrices.length : Int) = (q_aSet.Tiles.length : Int)) = decide (q_aPrices.length = q_aSet.Tiles.length) := by rw [decide_eq_decide]; omega
  cases h4 : decide (q_aPrices.length = q_aSet.Tiles.length) with
  | false =>
    refine call_leA (v_l06Asked q_aSet q_aA ha hn) (by simp -implicitDefEqProofs (disch := omega) only [go_sem, ↓reduceIte, Nat.reduceAdd, Nat.reduceMul, Nat.reduceLeDiff, reduceCtorEq, Nat.reduceEqDiff, Nat.reduceBEq, Nat.reduceBNe, Option.some.injEq, deep, TD.rows, immLL_rI, immLL_rB8, immLL_rS, immLL_rBo, immLL_rII, h1, Int.natCast_zero, Int.natCast_one, Int.cast_ofNat_Int, Int.ofNat_le, Int.toNat_zero, Nat.sub_zero, Int.le_refl, Int.reduceLT, Int.reduceLE, Int.reduceEq, Int.reduceAdd, Int.reduceSub, Int.reduceMul, Int.reduceToNat, Int.reduceNeg, List.length_map, d4, h4]; exact rfl) (by repeat (first | exact leL_nil | refine leL_cons ?_ ?_ | exact le_of_eq rfl | exact le_slf rfl (by first | rfl | exact TD.rows _ _ _) | refine le_agg ?_ | (refine le_iptrN ?_; simp only [List.drop_succ_cons, List.drop_zero, List.take_succ_cons, List.take_zero, List.take_nil, List.length_cons, List.length_nil, Nat.zero_add, Nat.reduceAdd]) | refine le_iptr ?_ | refine le_fn ?_ ?_)) (by first | exact .inl rfl | exact .inl (by simp only [D.noImm, noImmL, Bool.and_true, Bool.true_and, TD.nims, TD.nim, nim_rI, nim_rB8, nim_rBo, nim_rS])) ?_
    simp -implicitDefEqProofs (disch := omega) only [go_sem, ↓reduceIte, Nat.reduceAdd, Nat.reduceMul, Nat.reduceLeDiff, reduceCtorEq, Nat.reduceEqDiff, Nat.reduceBEq, Nat.reduceBNe, Option.some.injEq , h1, Int.natCast_zero, Int.natCast_one, Int.cast_ofNat_Int, Int.ofNat_le, Int.toNat_zero, Nat.sub_zero, Int.le_refl, Int.reduceLT, Int.reduceLE, Int.reduceEq, Int.reduceAdd, Int.reduceSub, Int.reduceMul, Int.reduceToNat, Int.reduceNeg, List.length_map, d4, h4]
    refine loop_ov (by simp -implicitDefEqProofs (disch := omega) only [go_sem, ↓reduceIte, Nat.reduceAdd, Nat.reduceMul, Nat.reduceLeDiff, reduceCtorEq, Nat.reduceEqDiff, Nat.reduceBEq, Nat.reduceBNe, Option.some.injEq]; exact rfl) (fun i : Nat => [(12, .v (.int .i64 (i : Nat))), (11, .v (.bool false))]) (fun _ => by simp only [ovr_nil, ovr_cons, List.set_cons_zero, List.set_cons_succ]; exact rfl) (fun i : Nat => i ≤ q_aPrices.length) (fun i : Nat => q_aPrices.length - i) (0) (by (try simp -implicitDefEqProofs only [nleL_cc, nleL_nn, nle_self, nle_boxs, nle_aggs, nle_nils, and_self, and_true, true_and]) <;> repeat' (first | exact nle_of_eq rfl | exact nle_nil | refine And.intro ?_ ?_ | refine nle_box ?_ | refine nle_agg ?_ | refine nle_sl ?_ | exact nleLL_nil | refine nleLL_cons ?_ ?_ | exact nleL_nil | refine nleL_cons ?_ ?_ | exact nle_rfl _)) (Nat.zero_le _) ?_
    intro i hi
    simp -implicitDefEqProofs (disch := omega) only [go_sem, ↓reduceIte, Nat.reduceAdd, Nat.reduceMul, Nat.reduceLeDiff, reduceCtorEq, Nat.reduceEqDiff, Nat.reduceBEq, Nat.reduceBNe, Option.some.injEq , List.length_map, Int.toNat_natCast, Int.ofNat_lt, Int.natCast_nonneg, List.getElem?_map, Option.map_some]
    refine cond_split ?_ ?_ <;> intro hlt
    · have hlt : i < q_aPrices.length := by simpa using hlt
      simp -implicitDefEqProofs (disch := omega) only [go_sem, ↓reduceIte, Nat.reduceAdd, Nat.reduceMul, Nat.reduceLeDiff, reduceCtorEq, Nat.reduceEqDiff, Nat.reduceBEq, Nat.reduceBNe, Option.some.injEq , wrN]
      exact ⟨i + 1, by omega, hlt, by (try simp -implicitDefEqProofs only [nleL_cc, nleL_nn, nle_self, nle_boxs, nle_aggs, nle_nils, and_self, and_true, true_and]) <;> repeat' (first | exact nle_of_eq rfl | exact nle_nil | refine And.intro ?_ ?_ | refine nle_box ?_ | refine nle_agg ?_ | refine nle_sl ?_ | exact nleLL_nil | refine nleLL_cons ?_ ?_ | exact nleL_nil | refine nleL_cons ?_ ?_ | exact nle_rfl _)⟩
    · obtain rfl : i = q_aPrices.length := by
        have : ¬ i < q_aPrices.length := by simpa using hlt
        omega
      simp -implicitDefEqProofs (disch := omega) only [go_sem, ↓reduceIte, Nat.reduceAdd, Nat.reduceMul, Nat.reduceLeDiff, reduceCtorEq, Nat.reduceEqDiff, Nat.reduceBEq, Nat.reduceBNe, Option.some.injEq , CostOfR, CostOfC, costFine, h1, h4]
  | true =>
  have h4' : q_aPrices.length = q_aSet.Tiles.length := of_decide_eq_true h4
  refine call_leA (v_l06Asked q_aSet q_aA ha hn) (by simp -implicitDefEqProofs (disch := omega) only [go_sem, ↓reduceIte, Nat.reduceAdd, Nat.reduceMul, Nat.reduceLeDiff, reduceCtorEq, Nat.reduceEqDiff, Nat.reduceBEq, Nat.reduceBNe, Option.some.injEq, deep, TD.rows, immLL_rI, immLL_rB8, immLL_rS, immLL_rBo, immLL_rII, h1, Int.natCast_zero, Int.natCast_one, Int.cast_ofNat_Int, Int.ofNat_le, Int.toNat_zero, Nat.sub_zero, Int.le_refl, Int.reduceLT, Int.reduceLE, Int.reduceEq, Int.reduceAdd, Int.reduceSub, Int.reduceMul, Int.reduceToNat, Int.reduceNeg, List.length_map, d4, h4]; exact rfl) (by repeat (first | exact leL_nil | refine leL_cons ?_ ?_ | exact le_of_eq rfl | exact le_slf rfl (by first | rfl | exact TD.rows _ _ _) | refine le_agg ?_ | (refine le_iptrN ?_; simp only [List.drop_succ_cons, List.drop_zero, List.take_succ_cons, List.take_zero, List.take_nil, List.length_cons, List.length_nil, Nat.zero_add, Nat.reduceAdd]) | refine le_iptr ?_ | refine le_fn ?_ ?_)) (by first | exact .inl rfl | exact .inl (by simp only [D.noImm, noImmL, Bool.and_true, Bool.true_and, TD.nims, TD.nim, nim_rI, nim_rB8, nim_rBo, nim_rS])) ?_
  simp -implicitDefEqProofs (disch := omega) only [go_sem, ↓reduceIte, Nat.reduceAdd, Nat.reduceMul, Nat.reduceLeDiff, reduceCtorEq, Nat.reduceEqDiff, Nat.reduceBEq, Nat.reduceBNe, Option.some.injEq , h1, Int.natCast_zero, Int.natCast_one, Int.cast_ofNat_Int, Int.ofNat_le, Int.toNat_zero, Nat.sub_zero, Int.le_refl, Int.reduceLT, Int.reduceLE, Int.reduceEq, Int.reduceAdd, Int.reduceSub, Int.reduceMul, Int.reduceToNat, Int.reduceNeg, List.length_map, d4, h4]
  refine call_leA (v_l00In q_aGlue 0 1000) (by simp -implicitDefEqProofs (disch := omega) only [go_sem, ↓reduceIte, Nat.reduceAdd, Nat.reduceMul, Nat.reduceLeDiff, reduceCtorEq, Nat.reduceEqDiff, Nat.reduceBEq, Nat.reduceBNe, Option.some.injEq, deep, TD.rows, immLL_rI, immLL_rB8, immLL_rS, immLL_rBo, immLL_rII]; exact rfl) (by repeat (first | exact leL_nil | refine leL_cons ?_ ?_ | exact le_of_eq rfl | exact le_slf rfl (by first | rfl | exact TD.rows _ _ _) | refine le_agg ?_ | (refine le_iptrN ?_; simp only [List.drop_succ_cons, List.drop_zero, List.take_succ_cons, List.take_zero, List.take_nil, List.length_cons, List.length_nil, Nat.zero_add, Nat.reduceAdd]) | refine le_iptr ?_ | refine le_fn ?_ ?_)) (by first | exact .inl rfl | exact .inl (by simp only [D.noImm, noImmL, Bool.and_true, Bool.true_and, TD.nims, TD.nim, nim_rI, nim_rB8, nim_rBo, nim_rS])) ?_
  simp -implicitDefEqProofs (disch := omega) only [go_sem, ↓reduceIte, Nat.reduceAdd, Nat.reduceMul, Nat.reduceLeDiff, reduceCtorEq, Nat.reduceEqDiff, Nat.reduceBEq, Nat.reduceBNe, Option.some.injEq]
  refine loop_ov (by simp -implicitDefEqProofs (disch := omega) only [go_sem, ↓reduceIte, Nat.reduceAdd, Nat.reduceMul, Nat.reduceLeDiff, reduceCtorEq, Nat.reduceEqDiff, Nat.reduceBEq, Nat.reduceBNe, Option.some.injEq]; exact rfl) (fun i : Nat => [(12, .v (.int .i64 (i : Nat))), (11, .v (.bool (inR 0 1000 q_aGlue && (q_aPrices.take i).all (inR 0 1000))))]) (fun _ => by simp only [ovr_nil, ovr_cons, List.set_cons_zero, List.set_cons_succ]; exact rfl) (fun i : Nat => i ≤ q_aPrices.length) (fun i : Nat => q_aPrices.length - i) (0) (by rw [List.take_zero, List.all_nil, Bool.and_true]; (try simp -implicitDefEqProofs only [nleL_cc, nleL_nn, nle_self, nle_boxs, nle_aggs, nle_nils, and_self, and_true, true_and]) <;> repeat' (first | exact nle_of_eq rfl | exact nle_nil | refine And.intro ?_ ?_ | refine nle_box ?_ | refine nle_agg ?_ | refine nle_sl ?_ | exact nleLL_nil | refine nleLL_cons ?_ ?_ | exact nleL_nil | refine nleL_cons ?_ ?_ | exact nle_rfl _)) (Nat.zero_le _) ?_
  · intro i hi
    simp -implicitDefEqProofs (disch := omega) only [go_sem, ↓reduceIte, Nat.reduceAdd, Nat.reduceMul, Nat.reduceLeDiff, reduceCtorEq, Nat.reduceEqDiff, Nat.reduceBEq, Nat.reduceBNe, Option.some.injEq , List.length_map, Int.toNat_natCast, Int.ofNat_lt, Int.natCast_nonneg, List.getElem?_map, Option.map_some]
    refine cond_split ?_ ?_ <;> intro hlt
    · have hlt : i < q_aPrices.length := by simpa using hlt
      have e1 := List.getElem?_eq_getElem hlt
      have hnx : (inR 0 1000 q_aGlue && (q_aPrices.take (i + 1)).all (inR 0 1000)) = ((inR 0 1000 q_aGlue && (q_aPrices.take i).all (inR 0 1000)) && inR 0 1000 q_aPrices[i]) := by
        rw [List.take_succ_eq_append_getElem hlt, List.all_append, Bool.and_assoc]
        simp
      cases hc : inR 0 1000 q_aGlue && (q_aPrices.take i).all (inR 0 1000) with
      | false =>
        rw [hc, Bool.false_and] at hnx
        simp -implicitDefEqProofs (disch := omega) only [go_sem, ↓reduceIte, Nat.reduceAdd, Nat.reduceMul, Nat.reduceLeDiff, reduceCtorEq, Nat.reduceEqDiff, Nat.reduceBEq, Nat.reduceBNe, Option.some.injEq , wrN]
        refine ⟨i + 1, by omega, hlt, ?_⟩
        rw [hnx]
        (try simp -implicitDefEqProofs only [nleL_cc, nleL_nn, nle_self, nle_boxs, nle_aggs, nle_nils, and_self, and_true, true_and]) <;> repeat' (first | exact nle_of_eq rfl | exact nle_nil | refine And.intro ?_ ?_ | refine nle_box ?_ | refine nle_agg ?_ | refine nle_sl ?_ | exact nleLL_nil | refine nleLL_cons ?_ ?_ | exact nleL_nil | refine nleL_cons ?_ ?_ | exact nle_rfl _)
      | true =>
        rw [hc, Bool.true_and] at hnx
        simp -implicitDefEqProofs (disch := omega) only [go_sem, ↓reduceIte, Nat.reduceAdd, Nat.reduceMul, Nat.reduceLeDiff, reduceCtorEq, Nat.reduceEqDiff, Nat.reduceBEq, Nat.reduceBNe, Option.some.injEq , List.length_map, Int.toNat_natCast, Int.ofNat_lt, Int.natCast_nonneg, List.getElem?_map, Option.map_some, hlt, e1]
        refine call_leA (v_l00In q_aPrices[i] 0 1000) (by simp -implicitDefEqProofs (disch := omega) only [go_sem, ↓reduceIte, Nat.reduceAdd, Nat.reduceMul, Nat.reduceLeDiff, reduceCtorEq, Nat.reduceEqDiff, Nat.reduceBEq, Nat.reduceBNe, Option.some.injEq, deep, TD.rows, immLL_rI, immLL_rB8, immLL_rS, immLL_rBo, immLL_rII, wrN]; exact rfl) (by repeat (first | exact leL_nil | refine leL_cons ?_ ?_ | exact le_of_eq rfl | exact le_slf rfl (by first | rfl | exact TD.rows _ _ _) | refine le_agg ?_ | (refine le_iptrN ?_; simp only [List.drop_succ_cons, List.drop_zero, List.take_succ_cons, List.take_zero, List.take_nil, List.length_cons, List.length_nil, Nat.zero_add, Nat.reduceAdd]) | refine le_iptr ?_ | refine le_fn ?_ ?_)) (by first | exact .inl rfl | exact .inl (by simp only [D.noImm, noImmL, Bool.and_true, Bool.true_and, TD.nims, TD.nim, nim_rI, nim_rB8, nim_rBo, nim_rS])) ?_
        simp -implicitDefEqProofs (disch := omega) only [go_sem, ↓reduceIte, Nat.reduceAdd, Nat.reduceMul, Nat.reduceLeDiff, reduceCtorEq, Nat.reduceEqDiff, Nat.reduceBEq, Nat.reduceBNe, Option.some.injEq , wrN]
        refine ⟨i + 1, by omega, hlt, ?_⟩
        rw [hnx]
        (try simp -implicitDefEqProofs only [nleL_cc, nleL_nn, nle_self, nle_boxs, nle_aggs, nle_nils, and_self, and_true, true_and]) <;> repeat' (first | exact nle_of_eq rfl | exact nle_nil | refine And.intro ?_ ?_ | refine nle_box ?_ | refine nle_agg ?_ | refine nle_sl ?_ | exact nleLL_nil | refine nleLL_cons ?_ ?_ | exact nleL_nil | refine nleL_cons ?_ ?_ | exact nle_rfl _)
    · obtain rfl : i = q_aPrices.length := by
        have : ¬ i < q_aPrices.length := by simpa using hlt
        omega
      cases h6 : inR 0 1000 q_aGlue with
      | false =>
        simp -implicitDefEqProofs (disch := omega) only [go_sem, ↓reduceIte, Nat.reduceAdd, Nat.reduceMul, Nat.reduceLeDiff, reduceCtorEq, Nat.reduceEqDiff, Nat.reduceBEq, Nat.reduceBNe, Option.some.injEq , CostOfR, CostOfC, costFine, h1, h4, h6]
      | true =>
      cases h5 : q_aPrices.all (inR 0 1000) with
      | false =>
        simp -implicitDefEqProofs (disch := omega) only [go_sem, ↓reduceIte, Nat.reduceAdd, Nat.reduceMul, Nat.reduceLeDiff, reduceCtorEq, Nat.reduceEqDiff, Nat.reduceBEq, Nat.reduceBNe, Option.some.injEq , List.take_length, CostOfR, CostOfC, costFine, h1, h4, h5]
      | true =>
      have hg := inR_iff.1 h6
      have hu := used_le q_aSet.Glues.length _ (flat_in h2 h3)
      have hgl := okSet_len h2
      have hmul : 0 ≤ q_aGlue * ((usedU (flatS q_aSet q_aA.Tiles)).length : Nat) ∧ q_aGlue * ((usedU (flatS q_aSet q_aA.Tiles)).length : Nat) ≤ 1000 * 200 := by
        refine ⟨Int.mul_nonneg hg.1 (by omega), Int.mul_le_mul hg.2 (by omega) (by omega) (by omega)⟩
      have hwm : IntKind.i64.wrap (q_aGlue * ((usedU (flatS q_aSet q_aA.Tiles)).length : Nat)) = q_aGlue * ((usedU (flatS q_aSet q_aA.Tiles)).length : Nat) := wrI (by omega) (by omega)
      have hme := marks_end q_aSet.Glues.length _ (flat_in h2 h3)
      have hml : ((marksB q_aSet.Glues.length (flatS q_aSet q_aA.Tiles)).set 0 false).length ≤ 1048576 := by rw [List.length_set, marksB_len]; omega
      simp -implicitDefEqProofs (disch := omega) only [go_sem, ↓reduceIte, Nat.reduceAdd, Nat.reduceMul, Nat.reduceLeDiff, reduceCtorEq, Nat.reduceEqDiff, Nat.reduceBEq, Nat.reduceBNe, Option.some.injEq , List.take_length, h5]
      refine call_leA (v_l34Glues q_aSet q_aA h2 h3) (by simp -implicitDefEqProofs (disch := omega) only [go_sem, ↓reduceIte, Nat.reduceAdd, Nat.reduceMul, Nat.reduceLeDiff, reduceCtorEq, Nat.reduceEqDiff, Nat.reduceBEq, Nat.reduceBNe, Option.some.injEq, deep, TD.rows, immLL_rI, immLL_rB8, immLL_rS, immLL_rBo, immLL_rII]; exact rfl) (by repeat (first | exact leL_nil | refine leL_cons ?_ ?_ | exact le_of_eq rfl | exact le_slf rfl (by first | rfl | exact TD.rows _ _ _) | refine le_agg ?_ | (refine le_iptrN ?_; simp only [List.drop_succ_cons, List.drop_zero, List.take_succ_cons, List.take_zero, List.take_nil, List.length_cons, List.length_nil, Nat.zero_add, Nat.reduceAdd]) | refine le_iptr ?_ | refine le_fn ?_ ?_)) (by first | exact .inl rfl | exact .inl (by simp only [D.noImm, noImmL, Bool.and_true, Bool.true_and, TD.nims, TD.nim, nim_rI, nim_rB8, nim_rBo, nim_rS])) ?_
      simp -implicitDefEqProofs (disch := omega) only [go_sem, ↓reduceIte, Nat.reduceAdd, Nat.reduceMul, Nat.reduceLeDiff, reduceCtorEq, Nat.reduceEqDiff, Nat.reduceBEq, Nat.reduceBNe, Option.some.injEq]
      refine call_leA (v_l34Count ((marksB q_aSet.Glues.length (flatS q_aSet q_aA.Tiles)).set 0 false) hml) (by simp -implicitDefEqProofs (disch := omega) only [go_sem, ↓reduceIte, Nat.reduceAdd, Nat.reduceMul, Nat.reduceLeDiff, reduceCtorEq, Nat.reduceEqDiff, Nat.reduceBEq, Nat.reduceBNe, Option.some.injEq, deep, TD.rows, immLL_rI, immLL_rB8, immLL_rS, immLL_rBo, immLL_rII, hme, hwm]; exact rfl) (by repeat (first | exact leL_nil | refine leL_cons ?_ ?_ | exact le_of_eq rfl | exact le_slf rfl (by first | rfl | exact TD.rows _ _ _) | refine le_agg ?_ | (refine le_iptrN ?_; simp only [List.drop_succ_cons, List.drop_zero, List.take_succ_cons, List.take_zero, List.take_nil, List.length_cons, List.length_nil, Nat.zero_add, Nat.reduceAdd]) | refine le_iptr ?_ | refine le_fn ?_ ?_)) (by first | exact .inl rfl | exact .inl (by simp only [D.noImm, noImmL, Bool.and_true, Bool.true_and, TD.nims, TD.nim, nim_rI, nim_rB8, nim_rBo, nim_rS])) ?_
      simp -implicitDefEqProofs (disch := omega) only [go_sem, ↓reduceIte, Nat.reduceAdd, Nat.reduceMul, Nat.reduceLeDiff, reduceCtorEq, Nat.reduceEqDiff, Nat.reduceBEq, Nat.reduceBNe, Option.some.injEq , hme, hwm]
      refine loop_ov (by simp -implicitDefEqProofs (disch := omega) only [go_sem, ↓reduceIte, Nat.reduceAdd, Nat.reduceMul, Nat.reduceLeDiff, reduceCtorEq, Nat.reduceEqDiff, Nat.reduceBEq, Nat.reduceBNe, Option.some.injEq]; exact rfl) (fun i : Nat => [(14, .v (.int .i64 (i : Nat))), (13, .v (.int .i64 (q_aGlue * ((usedU (flatS q_aSet q_aA.Tiles)).length : Nat) + priceS q_aPrices (q_aA.Tiles.take i))))]) (fun _ => by simp only [ovr_nil, ovr_cons, List.set_cons_zero, List.set_cons_succ]; exact rfl) (fun i : Nat => i ≤ q_aA.Tiles.length) (fun i : Nat => q_aA.Tiles.length - i) (0) (by rw [show priceS q_aPrices (q_aA.Tiles.take 0) = 0 from rfl, Int.add_zero]; (try simp -implicitDefEqProofs only [nleL_cc, nleL_nn, nle_self, nle_boxs, nle_aggs, nle_nils, and_self, and_true, true_and]) <;> repeat' (first | exact nle_of_eq rfl | exact nle_nil | refine And.intro ?_ ?_ | refine nle_box ?_ | refine nle_agg ?_ | refine nle_sl ?_ | exact nleLL_nil | refine nleLL_cons ?_ ?_ | exact nleL_nil | refine nleL_cons ?_ ?_ | exact nle_rfl _)) (Nat.zero_le _) ?_
      intro i hi
      have hpi := priceS_in h5 (q_aA.Tiles.take i)
      rw [List.length_take] at hpi
      simp -implicitDefEqProofs (disch := omega) only [go_sem, ↓reduceIte, Nat.reduceAdd, Nat.reduceMul, Nat.reduceLeDiff, reduceCtorEq, Nat.reduceEqDiff, Nat.reduceBEq, Nat.reduceBNe, Option.some.injEq , List.length_map, Int.toNat_natCast, Int.ofNat_lt, Int.natCast_nonneg, List.getElem?_map, Option.map_some]
      refine cond_split ?_ ?_ <;> intro hlt
      · have hlt : i < q_aA.Tiles.length := by simpa using hlt
        have e1 := List.getElem?_eq_getElem hlt
        obtain ⟨n, hn', hnl⟩ := asm_tile h3 hlt
        have hpl : n < q_aPrices.length := by omega
        have e2 := getD_some hpl
        have hnx := priceS_next q_aPrices hlt
        have hpn := priceS_in h5 (q_aA.Tiles.take (i + 1))
        rw [List.length_take] at hpn
        rw [hn', Int.toNat_natCast] at hnx
        have hws : IntKind.i64.wrap (q_aGlue * ((usedU (flatS q_aSet q_aA.Tiles)).length : Nat) + priceS q_aPrices (q_aA.Tiles.take i) + q_aPrices.getD n 0) = q_aGlue * ((usedU (flatS q_aSet q_aA.Tiles)).length : Nat) + priceS q_aPrices (q_aA.Tiles.take (i + 1)) := by
          rw [hnx, ← Int.add_assoc]
          exact wrI (by omega) (by omega)
        simp -implicitDefEqProofs (disch := omega) only [go_sem, ↓reduceIte, Nat.reduceAdd, Nat.reduceMul, Nat.reduceLeDiff, reduceCtorEq, Nat.reduceEqDiff, Nat.reduceBEq, Nat.reduceBNe, Option.some.injEq , List.length_map, Int.toNat_natCast, Int.ofNat_lt, Int.natCast_nonneg, List.getElem?_map, Option.map_some, hlt, e1, Placed.td_d, hn', hpl, e2, hws, wrN]
        exact ⟨i + 1, by omega, hlt, by (try simp -implicitDefEqProofs only [nleL_cc, nleL_nn, nle_self, nle_boxs, nle_aggs, nle_nils, and_self, and_true, true_and]) <;> repeat' (first | exact nle_of_eq rfl | exact nle_nil | refine And.intro ?_ ?_ | refine nle_box ?_ | refine nle_agg ?_ | refine nle_sl ?_ | exact nleLL_nil | refine nleLL_cons ?_ ?_ | exact nleL_nil | refine nleL_cons ?_ ?_ | exact nle_rfl _)⟩
      · obtain rfl : i = q_aA.Tiles.length := by
          have : ¬ i < q_aA.Tiles.length := by simpa using hlt
          omega
        simp -implicitDefEqProofs (disch := omega) only [go_sem, ↓reduceIte, Nat.reduceAdd, Nat.reduceMul, Nat.reduceLeDiff, reduceCtorEq, Nat.reduceEqDiff, Nat.reduceBEq, Nat.reduceBNe, Option.some.injEq , List.take_length, CostOfR, CostOfC, costFine, h1, h4, h5, h6]
end Go.Proofs.Ytffnoglnpkcjnaa
