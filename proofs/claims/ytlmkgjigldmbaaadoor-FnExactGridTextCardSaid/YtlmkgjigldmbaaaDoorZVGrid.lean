/- Laws that the proof stands on. -/
import Derived.Test.YtlmkgjigldmbaaaDoorZVGridP
import Derived.Test.YtlmkgjigldmbaaaDoorZg15
import Derived.Test.YtlmkgjigldmbaaaDoorZVTab
set_option linter.all false
namespace Go.Proofs.YtlmkgjigldmbaaaDoor
open Go.RowKit Go.V
attribute [local go_sem] List.getElem?_cons_succ List.getElem?_cons_zero List.set_cons_succ List.set_cons_zero List.map_cons List.map_nil List.length_cons List.length_nil List.all_cons List.all_nil List.drop_succ_cons List.drop_zero List.take_succ_cons List.take_zero List.flatMap_cons List.flatMap_nil List.cons_append List.nil_append List.append_nil List.headD_cons Value.oneCell' Bool.and_true Bool.true_and Bool.or_false Bool.false_or Bool.and_self Bool.not_true Bool.not_false and_true true_and beq_self_eq_true Bool.false_eq_true if_true if_false Nat.zero_add Nat.reduceAdd Nat.reduceMul Nat.reduceLeDiff Nat.le_refl Option.isSome_some Option.isSome_none not_true_eq_false not_false_eq_true ne_eq reduceCtorEq List.reverse_nil bne_self_eq_false Nat.reduceEqDiff List.isPrefixOf Bool.not_eq_true Bool.and_false Bool.false_and Bool.true_or Bool.or_true decide_true decide_false Nat.reduceBEq Nat.reduceBNe List.replicate_succ List.replicate_zero exists_eq_left' exists_eq_left Option.some.injEq or_false or_true true_or false_or Option.map_some Option.map_none mB Nat.reduceMod Nat.reduceDiv
set_option maxRecDepth 100000
section
variable {P : Program} {G : World → (Nat → Prop) → Prop} {s : List D} {K : D → List D → Prop}
theorem call_own1 {f r : Nat} {x : Operand} {d d' res : D} (hC : ContractL P G f 0 [.undef] d res d') (hs : s[r]? = some d) (hx : lk s x = .ref r []) (he : d.exact = true) (hK : K res ((pruneL (notRoot r) s).set r d')) : evalK (CT P G) s (.callX f [x]) K :=
  call_lend (x := x) true hC rfl (by unfold lendP; rw [hs]; exact .inl ⟨.inr hx, he, rfl, rfl⟩) (by simp [D.owny, ownyL]) (by simp [D.prune, deep, leL, D.le, pruneL]) (.inr ⟨rfl, by simp [D.prune, D.noRef, pruneL, noRefL]⟩) hK
end
def code_spec_GridText : VCode := (.seq (.ops [
  ⟨(some 2), none, (.box (.tmp 0))⟩,
  ⟨(some 3), none, (.box (.tmp 1))⟩,
  ⟨(some 4), none, (.asg (.const (.string ⟨⟨[]⟩⟩)))⟩]) (.seq (.seq (.ops [
  ⟨(some 11), none, (.callX 37 [(.tmp 2)])⟩,
  ⟨(some 12), none, (.un .not (.tmp 11))⟩,
  ⟨(some 13), none, (.mv (.tmp 12))⟩,
  ⟨(some 14), (some (13, false)), (.callX 38 [(.tmp 2), (.tmp 3)])⟩,
  ⟨(some 15), (some (13, false)), (.un .not (.tmp 14))⟩,
  ⟨(some 16), none, (.pick (.tmp 13) (.const (.bool true)) (.tmp 15))⟩,
  ⟨(some 17), none, (.mv (.tmp 16))⟩,
  ⟨(some 18), (some (17, false)), (.fa 0 (.tmp 3))⟩,
  ⟨(some 19), (some (17, false)), (.load 1 false (.tmp 18))⟩,
  ⟨(some 20), (some (17, false)), (.len (.tmp 19))⟩,
  ⟨(some 21), (some (17, false)), (.bin .eql (.tmp 20) (.const (.int .i64 0)))⟩,
  ⟨(some 22), none, (.pick (.tmp 17) (.const (.bool true)) (.tmp 21))⟩]) (.cond (.tmp 22) (.seq (.ops [
  ⟨(some 4), none, (.asg (.const (.string ⟨⟨[]⟩⟩)))⟩]) .ret) .skip)) (.seq (.ops [
  ⟨(some 24), none, (.callX 40 [(.tmp 3)])⟩,
  ⟨(some 25), none, (.callX 39 [(.tmp 24)])⟩,
  ⟨(some 23), none, (.mv (.tmp 25))⟩,
  ⟨(some 26), none, (.ext (.tmp 23) 0)⟩,
  ⟨(some 27), none, (.ext (.tmp 23) 1)⟩,
  ⟨(some 5), none, (.alloc [(.int .i64 0), (.int .i64 0)])⟩,
  ⟨(some 6), none, (.alloc [(.int .i64 0), (.int .i64 0)])⟩,
  ⟨none, none, (.store 2 (.tmp 5) (.tmp 26))⟩,
  ⟨none, none, (.store 2 (.tmp 6) (.tmp 27))⟩]) (.seq (.ops [
  ⟨(some 28), none, (.bsl 1 [])⟩,
  ⟨(some 7), none, (.asg (.tmp 28))⟩]) (.seq (.seq (.ops [
  ⟨(some 29), none, (.fa 1 (.tmp 6))⟩,
  ⟨(some 30), none, (.load 1 false (.tmp 29))⟩,
  ⟨(some 8), none, (.asg (.tmp 30))⟩]) (.block 0 (.loop (mB 70 899563063319549967895) (.seq (.seq (.ops [
  ⟨(some 31), none, (.mv (.tmp 8))⟩,
  ⟨(some 32), none, (.fa 1 (.tmp 5))⟩,
  ⟨(some 33), none, (.load 1 false (.tmp 32))⟩,
  ⟨(some 34), none, (.bin .geq (.tmp 31) (.tmp 33))⟩]) (.cond (.tmp 34) .skip (.exit 0))) (.seq (.block 1 (.seq (.seq (.ops [
  ⟨(some 37), none, (.fa 0 (.tmp 5))⟩,
  ⟨(some 38), none, (.load 1 false (.tmp 37))⟩,
  ⟨(some 9), none, (.asg (.tmp 38))⟩]) (.block 2 (.loop (mB 70 899563063319549967383) (.seq (.seq (.ops [
  ⟨(some 39), none, (.mv (.tmp 9))⟩,
  ⟨(some 40), none, (.fa 0 (.tmp 6))⟩,
  ⟨(some 41), none, (.load 1 false (.tmp 40))⟩,
  ⟨(some 42), none, (.bin .leq (.tmp 39) (.tmp 41))⟩]) (.cond (.tmp 42) .skip (.exit 2))) (.seq (.block 3 (.seq (.seq (.ops [
  ⟨(some 45), none, (.mv (.tmp 9))⟩,
  ⟨(some 46), none, (.fa 0 (.tmp 5))⟩,
  ⟨(some 47), none, (.load 1 false (.tmp 46))⟩,
  ⟨(some 48), none, (.bin .gtr (.tmp 45) (.tmp 47))⟩]) (.cond (.tmp 48) (.ops [
  ⟨(some 49), none, (.mv (.tmp 7))⟩,
  ⟨(some 50), none, (.bsl 1 [(.const (.int .u8 32))])⟩,
  ⟨(some 51), none, (.app 1 1 (.tmp 49) (.tmp 50))⟩,
  ⟨(some 7), none, (.asg (.tmp 51))⟩]) .skip)) (.seq (.ops [
  ⟨(some 52), none, (.mv (.tmp 9))⟩,
  ⟨(some 53), none, (.mv (.tmp 8))⟩,
  ⟨(some 54), none, (.build [(.int .i64 0), (.int .i64 0)] [(0, 1, (.tmp 52)), (1, 1, (.tmp 53))])⟩,
  ⟨(some 55), none, (.callX 41 [(.tmp 3), (.tmp 54)])⟩,
  ⟨(some 10), none, (.asg (.tmp 55))⟩]) (.seq (.ops [
  ⟨(some 56), none, (.mv (.tmp 10))⟩,
  ⟨(some 57), none, (.bin .lss (.tmp 56) (.const (.int .i64 0)))⟩]) (.cond (.tmp 57) (.ops [
  ⟨(some 58), none, (.mv (.tmp 7))⟩,
  ⟨(some 59), none, (.bsl 1 [(.const (.int .u8 46))])⟩,
  ⟨(some 60), none, (.app 1 1 (.tmp 58) (.tmp 59))⟩,
  ⟨(some 7), none, (.asg (.tmp 60))⟩]) (.ops [
  ⟨(some 61), none, (.mv (.tmp 7))⟩,
  ⟨(some 62), none, (.mv (.tmp 10))⟩,
  ⟨(some 63), none, (.callX 42 [(.tmp 62)])⟩,
  ⟨(some 64), none, (.appS 1 (.tmp 61) (.tmp 63))⟩,
  ⟨(some 7), none, (.asg (.tmp 64))⟩])))))) (.ops [
  ⟨(some 43), none, (.mv (.tmp 9))⟩,
  ⟨(some 44), none, (.bin .add (.tmp 43) (.const (.int .i64 1)))⟩,
  ⟨(some 9), none, (.asg (.tmp 44))⟩])))))) (.ops [
  ⟨(some 65), none, (.mv (.tmp 7))⟩,
  ⟨(some 66), none, (.bsl 1 [(.const (.int .u8 10))])⟩,
  ⟨(some 67), none, (.app 1 1 (.tmp 65) (.tmp 66))⟩,
  ⟨(some 7), none, (.asg (.tmp 67))⟩]))) (.ops [
  ⟨(some 35), none, (.mv (.tmp 8))⟩,
  ⟨(some 36), none, (.bin .sub (.tmp 35) (.const (.int .i64 1)))⟩,
  ⟨(some 8), none, (.asg (.tmp 36))⟩])))))) (.seq (.ops [
  ⟨(some 68), none, (.mv (.tmp 7))⟩,
  ⟨(some 69), none, (.b2s (.tmp 68))⟩,
  ⟨(some 4), none, (.asg (.tmp 69))⟩]) .ret))))))
theorem law_spec_GridText {a0 a1 d : D} (h : code_spec_GridText.wp (CT Tryd.prog TabG) (endQ [(.t 4)] d) [a0, a1, .undef, .undef, .undef, .undef, .undef, .undef, .undef, .undef, .undef, .undef, .undef, .undef, .undef, .undef, .undef, .undef, .undef, .undef, .undef, .undef, .undef, .undef, .undef, .undef, .undef, .undef, .undef, .undef, .undef, .undef, .undef, .undef, .undef, .undef, .undef, .undef, .undef, .undef, .undef, .undef, .undef, .undef, .undef, .undef, .undef, .undef, .undef, .undef, .undef, .undef, .undef, .undef, .undef, .undef, .undef, .undef, .undef, .undef, .undef, .undef, .undef, .undef, .undef, .undef, .undef, .undef, .undef, .undef]) : Contract Tryd.prog TabG 12 [a0, a1] d :=
  contract_of (pt := 0) tabG Tryd.func12 (fun us W => by kernel_rfl) (c := Tryd.f12.body.getD .skip) (ms := [(mB 70 899563063319549967895), (mB 70 899563063319549967383)]) (ms' := []) (by kernel_rfl) (by kernel_rfl) (by kernel_rfl) h
def code_impl_GridText : VCode := (.seq (.ops [
  ⟨(some 2), none, (.box (.tmp 0))⟩,
  ⟨(some 3), none, (.box (.tmp 1))⟩,
  ⟨(some 4), none, (.asg (.const (.string ⟨⟨[]⟩⟩)))⟩]) (.seq (.seq (.ops [
  ⟨(some 13), none, (.load 2 true (.tmp 2))⟩,
  ⟨(some 14), none, (.load 1 true (.tmp 3))⟩,
  ⟨(some 15), none, (.callX 46 [(.tmp 13), (.tmp 14)])⟩,
  ⟨(some 16), none, (.un .not (.tmp 15))⟩,
  ⟨(some 17), none, (.mv (.tmp 16))⟩,
  ⟨(some 18), (some (17, false)), (.fa 0 (.tmp 3))⟩,
  ⟨(some 19), (some (17, false)), (.load 1 false (.tmp 18))⟩,
  ⟨(some 20), (some (17, false)), (.len (.tmp 19))⟩,
  ⟨(some 21), (some (17, false)), (.bin .eql (.tmp 20) (.const (.int .i64 0)))⟩,
  ⟨(some 22), none, (.pick (.tmp 17) (.const (.bool true)) (.tmp 21))⟩]) (.cond (.tmp 22) (.seq (.ops [
  ⟨(some 4), none, (.asg (.const (.string ⟨⟨[]⟩⟩)))⟩]) .ret) .skip)) (.seq (.ops [
  ⟨(some 24), none, (.load 1 true (.tmp 3))⟩,
  ⟨(some 25), none, (.callX 48 [(.tmp 24)])⟩,
  ⟨(some 26), none, (.callX 47 [(.tmp 25)])⟩,
  ⟨(some 23), none, (.mv (.tmp 26))⟩,
  ⟨(some 27), none, (.ext (.tmp 23) 0)⟩,
  ⟨(some 28), none, (.ext (.tmp 23) 1)⟩,
  ⟨(some 5), none, (.alloc [(.int .i64 0), (.int .i64 0)])⟩,
  ⟨(some 6), none, (.alloc [(.int .i64 0), (.int .i64 0)])⟩,
  ⟨none, none, (.store 2 (.tmp 5) (.tmp 27))⟩,
  ⟨none, none, (.store 2 (.tmp 6) (.tmp 28))⟩]) (.seq (.ops [
  ⟨(some 7), none, (.mkm (.bld 69 5))⟩]) (.seq (.seq (.ops [
  ⟨(some 29), none, (.fa 1 (.tmp 6))⟩,
  ⟨(some 30), none, (.load 1 false (.tmp 29))⟩,
  ⟨(some 8), none, (.asg (.tmp 30))⟩]) (.block 0 (.loop (mB 63 9223372036854775319) (.seq (.seq (.ops [
  ⟨(some 31), none, (.mv (.tmp 8))⟩,
  ⟨(some 32), none, (.fa 1 (.tmp 5))⟩,
  ⟨(some 33), none, (.load 1 false (.tmp 32))⟩,
  ⟨(some 34), none, (.bin .geq (.tmp 31) (.tmp 33))⟩]) (.cond (.tmp 34) .skip (.exit 0))) (.seq (.block 1 (.seq (.ops [
  ⟨(some 9), none, (.asg (.const (.slice none 0 0)))⟩]) (.seq (.seq (.ops [
  ⟨(some 37), none, (.fa 0 (.tmp 5))⟩,
  ⟨(some 38), none, (.load 1 false (.tmp 37))⟩,
  ⟨(some 10), none, (.asg (.tmp 38))⟩]) (.block 2 (.loop (mB 63 8989184856231507991) (.seq (.seq (.ops [
  ⟨(some 39), none, (.mv (.tmp 10))⟩,
  ⟨(some 40), none, (.fa 0 (.tmp 6))⟩,
  ⟨(some 41), none, (.load 1 false (.tmp 40))⟩,
  ⟨(some 42), none, (.bin .leq (.tmp 39) (.tmp 41))⟩]) (.cond (.tmp 42) .skip (.exit 2))) (.seq (.block 3 (.seq (.ops [
  ⟨(some 11), none, (.asg (.const (.string ⟨⟨[46]⟩⟩)))⟩]) (.seq (.seq (.ops [
  ⟨(some 45), none, (.load 1 true (.tmp 3))⟩,
  ⟨(some 46), none, (.mv (.tmp 10))⟩,
  ⟨(some 47), none, (.mv (.tmp 8))⟩,
  ⟨(some 48), none, (.build [(.int .i64 0), (.int .i64 0)] [(0, 1, (.tmp 46)), (1, 1, (.tmp 47))])⟩,
  ⟨(some 49), none, (.callX 49 [(.tmp 45), (.tmp 48)])⟩,
  ⟨(some 12), none, (.asg (.tmp 49))⟩]) (.seq (.ops [
  ⟨(some 50), none, (.mv (.tmp 12))⟩,
  ⟨(some 51), none, (.bin .geq (.tmp 50) (.const (.int .i64 0)))⟩]) (.cond (.tmp 51) (.ops [
  ⟨(some 52), none, (.mv (.tmp 12))⟩,
  ⟨(some 53), none, (.callX 50 [(.tmp 52)])⟩,
  ⟨(some 11), none, (.asg (.tmp 53))⟩]) .skip))) (.ops [
  ⟨(some 54), none, (.mv (.tmp 9))⟩,
  ⟨(some 55), none, (.mv (.tmp 11))⟩,
  ⟨(some 56), none, (.bsl 1 [(.tmp 55)])⟩,
  ⟨(some 57), none, (.app 1 16 (.tmp 54) (.tmp 56))⟩,
  ⟨(some 9), none, (.asg (.tmp 57))⟩])))) (.ops [
  ⟨(some 43), none, (.mv (.tmp 10))⟩,
  ⟨(some 44), none, (.bin .add (.tmp 43) (.const (.int .i64 1)))⟩,
  ⟨(some 10), none, (.asg (.tmp 44))⟩])))))) (.ops [
  ⟨(some 58), none, (.mv (.tmp 9))⟩,
  ⟨(some 59), none, (.callX 51 [(.tmp 58), (.const (.string ⟨⟨[32]⟩⟩))])⟩,
  ⟨(some 60), none, (.bin .add (.tmp 59) (.const (.string ⟨⟨[10]⟩⟩)))⟩,
  ⟨(some 61), none, (.callX 27 [(.tmp 7), (.tmp 60)])⟩])))) (.ops [
  ⟨(some 35), none, (.mv (.tmp 8))⟩,
  ⟨(some 36), none, (.bin .sub (.tmp 35) (.const (.int .i64 1)))⟩,
  ⟨(some 8), none, (.asg (.tmp 36))⟩])))))) (.seq (.ops [
  ⟨(some 62), none, (.callX 30 [(.tmp 7)])⟩,
  ⟨(some 4), none, (.asg (.tmp 62))⟩]) .ret))))))
theorem law_impl_GridText {a0 a1 d : D} (h : code_impl_GridText.wp (CT Tryd.prog TabG) (endQ [(.t 4)] d) [a0, a1, .undef, .undef, .undef, .undef, .undef, .undef, .undef, .undef, .undef, .undef, .undef, .undef, .undef, .undef, .undef, .undef, .undef, .undef, .undef, .undef, .undef, .undef, .undef, .undef, .undef, .undef, .undef, .undef, .undef, .undef, .undef, .undef, .undef, .undef, .undef, .undef, .undef, .undef, .undef, .undef, .undef, .undef, .undef, .undef, .undef, .undef, .undef, .undef, .undef, .undef, .undef, .undef, .undef, .undef, .undef, .undef, .undef, .undef, .undef, .undef, .undef]) : Contract Tryd.prog TabG 15 [a0, a1] d :=
  contract_of (pt := 0) tabG Tryd.func15 (fun us W => by kernel_rfl) (c := Tryd.f15.body.getD .skip) (ms := [(mB 63 9223372036854775319), (mB 63 8989184856231507991)]) (ms' := []) (by kernel_rfl) (by kernel_rfl) (by kernel_rfl) h
theorem asm_form {a : TileSet} {b : Assembly} (h : okAsm a b = true) : okForm b.Tiles = true := by unfold okAsm at h; simp only [Bool.and_eq_true] at h; exact h.1
theorem asm_lenG {b : Assembly} (h : Assembly.cnt b ≤ 1048576) : b.Tiles.length ≤ 1048576 := by have e : Assembly.cnt b = b.Tiles.length := rfl; omega
theorem asm_tile {b : Assembly} (h : Assembly.td.ok b) : ∀ q, q ∈ b.Tiles → InK .i64 q.Tile := fun q hq => by rw [Assembly.td_ok] at h; have := h q hq; rw [Placed.td_ok] at this; exact this.2
theorem rowS_next (ps : List Placed) (lx y : Int) (i : Nat) : (rowG ps lx y (i + 1)).map rS = (rowG ps lx y i).map rS ++ [rS (wordG ps (lx + (i : Nat)) y)] := by rw [rowG_next, List.map_append]; rfl
set_option maxHeartbeats 4000000 in
theorem vGridText_impl (q_aSet : TileSet) (q_aSet_ok : TileSet.td.ok q_aSet) (q_aSet_n : TileSet.cnt q_aSet ≤ 1048576) (q_aA : Assembly) (q_aA_ok : Assembly.td.ok q_aA) (q_aA_n : Assembly.cnt q_aA ≤ 1048576) : Contract Tryd.prog TabG 15 [.agg (TileSet.td.d false q_aSet), .agg (Assembly.td.d false q_aA)] (.v (.string (gridR q_aSet q_aA))) := by
  have ha := setB_of q_aSet_n; have hn := asm_lenG q_aA_n; have hT := asm_tile q_aA_ok; clear q_aSet_ok q_aSet_n q_aA_ok q_aA_n; generalize q_aSet = a at *; generalize q_aA = b at *; have hV := v_ValidAssembly a b ha hn; rw [TileSet.td_d, Assembly.td_d] at *; refine law_impl_GridText ?_; unfold code_impl_GridText; simp -implicitDefEqProofs (disch := omega) only [go_sem, ↓reduceIte]; cases h1 : okSet a && okAsm a b with
  | false =>
    rw [h1] at hV; refine call_B (hV) (by simp -implicitDefEqProofs (disch := omega) only [go_sem, ↓reduceIte, deep, TD.rows, immLL_rI, immLL_rB8, immLL_rS, immLL_rBo, immLL_rII, immLL_rIIt, Bool.not_false, gridR, h1]; exact rfl) ?_; simp -implicitDefEqProofs (disch := omega) only [go_sem, ↓reduceIte , Bool.not_false, gridR, h1]
    all_goals first | done | rfl
  | true =>
    rw [h1] at hV; have hf : okForm b.Tiles = true := asm_form (a := a) (by simp only [Bool.and_eq_true] at h1; exact h1.2); by_cases h0 : b.Tiles.length = 0
    · have d0 : decide ((b.Tiles.length : Int) = 0) = true := (by rw [decide_eq_true_iff]; omega); have hr : gridR a b = ⟨⟨[]⟩⟩ := (by unfold gridR; rw [h1]; simp [h0]); rw [hr]; refine call_B (hV) (by simp -implicitDefEqProofs (disch := omega) only [go_sem, ↓reduceIte, deep, TD.rows, immLL_rI, immLL_rB8, immLL_rS, immLL_rBo, immLL_rII, immLL_rIIt, Bool.not_true, List.length_map, d0]; exact rfl) ?_; simp -implicitDefEqProofs (disch := omega) only [go_sem, ↓reduceIte , Bool.not_true, List.length_map, d0]
      all_goals first | done | rfl
    · have d0 : decide ((b.Tiles.length : Int) = 0) = false := (by rw [decide_eq_false_iff_not]; omega); have hr : gridR a b = gridT b.Tiles := (by unfold gridR; rw [h1]; simp [h0]); rw [hr]; obtain ⟨lx, hx, ly, hy, w, h, g⟩ := gsm hf (by omega); rw [g.e]; have gw := g.ew; have gh := g.eh; have gw0 := g.w0; have gh0 := g.h0; have gx := g.x; have gy := g.y; have hp := v_points b hn; have hb := v_bounds (ptsOf b.Tiles) (by rw [pts_len]; exact hn) (by rw [pts_len]; omega); rw [g.lo, g.hi] at hb; rw [Assembly.td_d] at hp; have hgs := gridG_size hT lx hy gw0.2; refine call_B (hV) (by simp -implicitDefEqProofs (disch := omega) only [go_sem, ↓reduceIte, deep, TD.rows, immLL_rI, immLL_rB8, immLL_rS, immLL_rBo, immLL_rII, immLL_rIIt, Bool.not_true, List.length_map, d0]; exact rfl) ?_; simp -implicitDefEqProofs (disch := omega) only [go_sem, ↓reduceIte , Bool.not_true, List.length_map, d0]; refine call_B (hp) (by simp -implicitDefEqProofs (disch := omega) only [go_sem, ↓reduceIte, deep, TD.rows, immLL_rI, immLL_rB8, immLL_rS, immLL_rBo, immLL_rII, immLL_rIIt]; exact rfl) ?_; simp -implicitDefEqProofs (disch := omega) only [go_sem, ↓reduceIte]; refine call_B (hb) (by simp -implicitDefEqProofs (disch := omega) only [go_sem, ↓reduceIte, deep, TD.rows, immLL_rI, immLL_rB8, immLL_rS, immLL_rBo, immLL_rII, immLL_rIIt, lkF_tup, Point.td_d]; exact rfl) ?_; simp -implicitDefEqProofs (disch := omega) only [go_sem, ↓reduceIte , lkF_tup, Point.td_d]; refine loop_ov (by simp -implicitDefEqProofs (disch := omega) only [go_sem, ↓reduceIte]; exact rfl) (fun j : Nat => [(7, .mp (.bld 69 5) [(.string (gridG b.Tiles lx hy w j), undef)]), (8, .v (.int .i64 (hy - (j : Nat))))]) (fun _ => by simp only [ovr_nil, ovr_cons, List.set_cons_zero, List.set_cons_succ]; exact rfl) (fun j : Nat => j ≤ h) (fun j : Nat => h - j) (0) (by rw [show hy - ((0 : Nat) : Int) = hy from by omega, show gridG b.Tiles lx hy w 0 = ⟨⟨[]⟩⟩ from rfl]; (try simp -implicitDefEqProofs only [nleL_cc, nleL_nn, nle_self, nle_boxs, nle_aggs, nle_nils, and_self, and_true, true_and]) <;> repeat' (first | exact nle_of_eq rfl | exact nle_nil | apply And.intro | apply nle_sl | apply nleLL_cons | apply nleL_cons | exact nleL_nil | exact nleLL_nil | apply nle_box | apply nle_agg)) (?_) ?_
      · exact Nat.zero_le _
      intro j hj; simp -implicitDefEqProofs (disch := omega) only [go_sem, ↓reduceIte]; refine cond_split ?_ ?_ <;> intro hlt
      · have hlt : j < h := (by have := of_decide_eq_true hlt; omega); have hgj := hgs j; simp -implicitDefEqProofs (disch := omega) only [go_sem, ↓reduceIte]; refine loop_ov (by simp -implicitDefEqProofs (disch := omega) only [go_sem, ↓reduceIte]; exact rfl) (fun i : Nat => [(9, .sl true 1 ((rowG b.Tiles lx (hy - (j : Nat)) i).map rS)), (10, .v (.int .i64 (lx + (i : Nat))))]) (fun _ => by simp only [ovr_nil, ovr_cons, List.set_cons_zero, List.set_cons_succ]; exact rfl) (fun i : Nat => i ≤ w) (fun i : Nat => w - i) (0) (by rw [show lx + ((0 : Nat) : Int) = lx from by omega, show rowG b.Tiles lx (hy - (j : Nat)) 0 = [] from rfl]; (try simp -implicitDefEqProofs only [nleL_cc, nleL_nn, nle_self, nle_boxs, nle_aggs, nle_nils, and_self, and_true, true_and]) <;> repeat' (first | exact nle_of_eq rfl | exact nle_nil | apply And.intro | apply nle_sl | apply nleLL_cons | apply nleL_cons | exact nleL_nil | exact nleLL_nil | apply nle_box | apply nle_agg)) (?_) ?_
        · exact Nat.zero_le _
        intro i hi; simp -implicitDefEqProofs (disch := omega) only [go_sem, ↓reduceIte]; refine cond_split ?_ ?_ <;> intro hli
        · have hli : i < w := (by have := of_decide_eq_true hli; omega); have hA := v_at b ⟨lx + (i : Nat), hy - (j : Nat)⟩ hn; rw [Assembly.td_d, Point.td_d] at hA; have hrl := rowG_len b.Tiles lx (hy - (j : Nat)) i; have hw1 : IntKind.i64.wrap (lx + (i : Int) + 1) = lx + ((i + 1 : Nat) : Int) := (by rw [wrI (by omega) (by omega)]; omega); by_cases hk : 0 ≤ tileA b.Tiles ⟨lx + (i : Nat), hy - (j : Nat)⟩
          · have hD := v_Decimal_impl _ (tileG_in ⟨lx + (i : Nat), hy - (j : Nat)⟩ hT); have hwd : wordG b.Tiles (lx + (i : Nat)) (hy - (j : Nat)) = decS (tileA b.Tiles ⟨lx + (i : Nat), hy - (j : Nat)⟩) := if_pos hk; have dk : decide (tileA b.Tiles ⟨lx + (i : Nat), hy - (j : Nat)⟩ ≥ 0) = true := decide_eq_true hk; simp -implicitDefEqProofs (disch := omega) only [go_sem, ↓reduceIte]; refine call_B (hA) (by simp -implicitDefEqProofs (disch := omega) only [go_sem, ↓reduceIte, deep, TD.rows, immLL_rI, immLL_rB8, immLL_rS, immLL_rBo, immLL_rII, immLL_rIIt, dk]; exact rfl) ?_; simp -implicitDefEqProofs (disch := omega) only [go_sem, ↓reduceIte , dk]; refine call_B (hD) (by simp -implicitDefEqProofs (disch := omega) only [go_sem, ↓reduceIte, deep, TD.rows, immLL_rI, immLL_rB8, immLL_rS, immLL_rBo, immLL_rII, immLL_rIIt, List.length_map, hrl, hw1]; exact rfl) ?_; simp -implicitDefEqProofs (disch := omega) only [go_sem, ↓reduceIte , List.length_map, hrl, hw1]; refine ⟨by omega, i + 1, by omega, by omega, ?_⟩; rw [rowS_next, hwd]
            (try simp -implicitDefEqProofs only [nleL_cc, nleL_nn, nle_self, nle_boxs, nle_aggs, nle_nils, and_self, and_true, true_and]) <;> repeat' (first | exact nle_of_eq rfl | exact nle_nil | apply And.intro | apply nle_sl | apply nleLL_cons | apply nleL_cons | exact nleL_nil | exact nleLL_nil | apply nle_box | apply nle_agg)
          · have hwd : wordG b.Tiles (lx + (i : Nat)) (hy - (j : Nat)) = ⟨⟨[46]⟩⟩ := if_neg hk; have dk : decide (tileA b.Tiles ⟨lx + (i : Nat), hy - (j : Nat)⟩ ≥ 0) = false := decide_eq_false hk; simp -implicitDefEqProofs (disch := omega) only [go_sem, ↓reduceIte]; refine call_B (hA) (by simp -implicitDefEqProofs (disch := omega) only [go_sem, ↓reduceIte, deep, TD.rows, immLL_rI, immLL_rB8, immLL_rS, immLL_rBo, immLL_rII, immLL_rIIt, dk, List.length_map, hrl, hw1]; exact rfl) ?_; simp -implicitDefEqProofs (disch := omega) only [go_sem, ↓reduceIte , dk, List.length_map, hrl, hw1]; refine ⟨by omega, i + 1, by omega, by omega, ?_⟩; rw [rowS_next, hwd]
            (try simp -implicitDefEqProofs only [nleL_cc, nleL_nn, nle_self, nle_boxs, nle_aggs, nle_nils, and_self, and_true, true_and]) <;> repeat' (first | exact nle_of_eq rfl | exact nle_nil | apply And.intro | apply nle_sl | apply nleLL_cons | apply nleL_cons | exact nleL_nil | exact nleLL_nil | apply nle_box | apply nle_agg)
        · obtain rfl : i = w := (by have : ¬ (lx + (i : Int) ≤ hx) := (by simpa using hli); omega); have hls := lineR_size hT lx (hy - (j : Nat)) gw0.2; have hjs : (lineB (rowG b.Tiles lx (hy - (j : Nat)) i)).size = (joinB (rowG b.Tiles lx (hy - (j : Nat)) i) cSp).size + 1 := (by unfold lineB cNl; rw [ba_size2]; rfl); have hJ := v_Join (rowG b.Tiles lx (hy - (j : Nat)) i) cSp (by rw [rowG_len]; omega) (by omega); have hW := v_WriteString (gridG b.Tiles lx hy i j) (lineB (rowG b.Tiles lx (hy - (j : Nat)) i)) (by omega); rw [show gridG b.Tiles lx hy i j ++ lineB (rowG b.Tiles lx (hy - (j : Nat)) i) = gridG b.Tiles lx hy i (j + 1) from rfl] at hW; have hz : ((joinB (rowG b.Tiles lx (hy - (j : Nat)) i) cSp).size + (Array.mk [(10 : UInt8)]).size ≤ maxLen) = True := eq_true (by
            have : (Array.mk [(10 : UInt8)]).size = 1 := rfl; unfold maxLen; omega)
          have hln : joinB (rowG b.Tiles lx (hy - (j : Nat)) i) cSp ++ ⟨⟨[10]⟩⟩ = lineB (rowG b.Tiles lx (hy - (j : Nat)) i) := rfl; have hw1 : IntKind.i64.wrap (hy - (j : Int) - 1) = hy - ((j + 1 : Nat) : Int) := (by rw [wrI (by omega) (by omega)]; omega); unfold cSp at hJ hz hln; simp -implicitDefEqProofs (disch := omega) only [go_sem, ↓reduceIte]; refine call_B (hJ) (by simp -implicitDefEqProofs (disch := omega) only [go_sem, ↓reduceIte, deep, TD.rows, immLL_rI, immLL_rB8, immLL_rS, immLL_rBo, immLL_rII, immLL_rIIt, hz, true_and, hln]; exact rfl) ?_; simp -implicitDefEqProofs (disch := omega) only [go_sem, ↓reduceIte , hz, true_and, hln]; refine call_markS (r := 7) hW rfl rfl rfl rfl ?_; simp -implicitDefEqProofs (disch := omega) only [go_sem, ↓reduceIte , hw1]; exact ⟨j + 1, by omega, by omega, nleA⟩
      · obtain rfl : j = h := (by have : ¬ (hy - (j : Int) ≥ ly) := (by simpa using hlt); omega); have hgj := hgs j; have hS := v_BuilderString (gridG b.Tiles lx hy w j) (gridG_pos _ _ _ _ gh0.1) (by omega); simp -implicitDefEqProofs (disch := omega) only [go_sem, ↓reduceIte]; refine call_own1 (r := 7) hS rfl rfl rfl ?_; simp -implicitDefEqProofs (disch := omega) only [go_sem, ↓reduceIte]
theorem rB_app (t b : ByteArray) : (bytesI t).map rowB ++ (bytesI b).map rowB = (bytesI (t ++ b)).map rowB := by rw [bytesI_app, List.map_append]
theorem rB_32 (t : ByteArray) : (bytesI t).map rowB ++ [[.v (.int .u8 32)]] = (bytesI (t ++ ⟨⟨[32]⟩⟩)).map rowB := by rw [bytesI_app, List.map_append]; rfl
theorem rB_46 (t : ByteArray) : (bytesI t).map rowB ++ [[.v (.int .u8 46)]] = (bytesI (t ++ ⟨⟨[46]⟩⟩)).map rowB := by rw [bytesI_app, List.map_append]; rfl
theorem rB_10 (t : ByteArray) : (bytesI t).map rowB ++ [[.v (.int .u8 10)]] = (bytesI (t ++ ⟨⟨[10]⟩⟩)).map rowB := by rw [bytesI_app, List.map_append]; rfl
theorem app_nilB (a : ByteArray) : a ++ ⟨⟨[]⟩⟩ = a := by apply ba_ext; simp
def curG (ps : List Placed) (lx hy : Int) (w j i : Nat) : ByteArray := gridG ps lx hy w j ++ joinB (rowG ps lx (hy - (j : Nat)) i) cSp
theorem curG_zero (ps : List Placed) (lx hy : Int) (w j : Nat) : curG ps lx hy w j 0 = gridG ps lx hy w j := app_nilB _
theorem curG_one (ps : List Placed) (lx hy : Int) (w j : Nat) : curG ps lx hy w j 1 = curG ps lx hy w j 0 ++ wordG ps lx (hy - (j : Nat)) := by rw [curG_zero]; unfold curG; rw [show rowG ps lx (hy - (j : Nat)) 1 = [wordG ps lx (hy - (j : Nat))] from by rw [rowG_next]; simp [rowG], joinB_one]
theorem curG_next (ps : List Placed) (lx hy : Int) (w j : Nat) {i : Nat} (h : 0 < i) : curG ps lx hy w j (i + 1) = (curG ps lx hy w j i ++ ⟨⟨[32]⟩⟩) ++ wordG ps (lx + (i : Nat)) (hy - (j : Nat)) := by unfold curG; rw [rowG_next, joinB_snoc (by rw [rowG_len]; exact h)]; simp only [ba_assoc2]
theorem curG_all (ps : List Placed) (lx hy : Int) (w j : Nat) : curG ps lx hy w j w ++ ⟨⟨[10]⟩⟩ = gridG ps lx hy w (j + 1) := by show (gridG ps lx hy w j ++ joinB (rowG ps lx (hy - (j : Nat)) w) cSp) ++ ⟨⟨[10]⟩⟩ = gridG ps lx hy w j ++ lineB (rowG ps lx (hy - (j : Nat)) w); rw [ba_assoc2]; rfl
theorem curG_size {ps : List Placed} (h : ∀ q, q ∈ ps → InK .i64 q.Tile) (lx hy : Int) {w : Nat} (hw : w ≤ 121) (j : Nat) {i : Nat} (hi : i ≤ w) : (curG ps lx hy w j i).size ≤ 2563 * (j + 1) := by have h1 := gridG_size h lx hy hw j; have h2 := lineR_size h lx (hy - (j : Nat)) (Nat.le_trans hi hw); have h3 : (lineB (rowG ps lx (hy - (j : Nat)) i)).size = (joinB (rowG ps lx (hy - (j : Nat)) i) cSp).size + 1 := (by unfold lineB cNl; rw [ba_size2]; rfl); unfold curG; rw [ba_size2]; omega
set_option maxHeartbeats 4000000 in
theorem vGridText_spec (q_aSet : TileSet) (q_aSet_ok : TileSet.td.ok q_aSet) (q_aSet_n : TileSet.cnt q_aSet ≤ 1048576) (q_aA : Assembly) (q_aA_ok : Assembly.td.ok q_aA) (q_aA_n : Assembly.cnt q_aA ≤ 1048576) : Contract Tryd.prog TabG 12 [.agg (TileSet.td.d false q_aSet), .agg (Assembly.td.d false q_aA)] (.v (.string (gridR q_aSet q_aA))) := by
  have ha := setB_of q_aSet_n; have hn := asm_lenG q_aA_n; have hT := asm_tile q_aA_ok; clear q_aSet_ok q_aSet_n q_aA_ok q_aA_n; generalize q_aSet = a at *; generalize q_aA = b at *; have hat := ha.t; have hV1 := v_l02Ok a ha; have hV2 := v_l03Ok a b hat hn; rw [TileSet.td_d, Assembly.td_d] at *; refine law_spec_GridText ?_; unfold code_spec_GridText; simp -implicitDefEqProofs (disch := omega) only [go_sem, ↓reduceIte]; cases h1 : okSet a with
  | false =>
    rw [h1] at hV1; refine call_B (hV1) (by simp -implicitDefEqProofs (disch := omega) only [go_sem, ↓reduceIte, deep, TD.rows, immLL_rI, immLL_rB8, immLL_rS, immLL_rBo, immLL_rII, immLL_rIIt, Bool.not_false, gridR, h1]; exact rfl) ?_; simp -implicitDefEqProofs (disch := omega) only [go_sem, ↓reduceIte , Bool.not_false, gridR, h1]
    all_goals first | done | rfl
  | true =>
  rw [h1] at hV1; cases h2 : okAsm a b with
  | false =>
    rw [h2] at hV2; refine call_B (hV1) (by simp -implicitDefEqProofs (disch := omega) only [go_sem, ↓reduceIte, deep, TD.rows, immLL_rI, immLL_rB8, immLL_rS, immLL_rBo, immLL_rII, immLL_rIIt, Bool.not_true]; exact rfl) ?_; simp -implicitDefEqProofs (disch := omega) only [go_sem, ↓reduceIte , Bool.not_true]; refine call_B (hV2) (by simp -implicitDefEqProofs (disch := omega) only [go_sem, ↓reduceIte, deep, TD.rows, immLL_rI, immLL_rB8, immLL_rS, immLL_rBo, immLL_rII, immLL_rIIt, Bool.not_false, gridR, h1, h2]; exact rfl) ?_; simp -implicitDefEqProofs (disch := omega) only [go_sem, ↓reduceIte , Bool.not_false, gridR, h1, h2]
    all_goals first | done | rfl
  | true =>
    rw [h2] at hV2; have hf : okForm b.Tiles = true := asm_form h2; by_cases h0 : b.Tiles.length = 0
    · have d0 : decide ((b.Tiles.length : Int) = 0) = true := (by rw [decide_eq_true_iff]; omega); have hr : gridR a b = ⟨⟨[]⟩⟩ := (by unfold gridR; rw [h1, h2]; simp [h0]); rw [hr]; refine call_B (hV1) (by simp -implicitDefEqProofs (disch := omega) only [go_sem, ↓reduceIte, deep, TD.rows, immLL_rI, immLL_rB8, immLL_rS, immLL_rBo, immLL_rII, immLL_rIIt, Bool.not_true]; exact rfl) ?_; simp -implicitDefEqProofs (disch := omega) only [go_sem, ↓reduceIte , Bool.not_true]; refine call_B (hV2) (by simp -implicitDefEqProofs (disch := omega) only [go_sem, ↓reduceIte, deep, TD.rows, immLL_rI, immLL_rB8, immLL_rS, immLL_rBo, immLL_rII, immLL_rIIt, Bool.not_true, List.length_map, d0]; exact rfl) ?_; simp -implicitDefEqProofs (disch := omega) only [go_sem, ↓reduceIte , Bool.not_true, List.length_map, d0]
      all_goals first | done | rfl
    · have d0 : decide ((b.Tiles.length : Int) = 0) = false := (by rw [decide_eq_false_iff_not]; omega); have hr : gridR a b = gridT b.Tiles := (by unfold gridR; rw [h1, h2]; simp [h0]); rw [hr]; obtain ⟨lx, hx, ly, hy, w, h, g⟩ := gsm hf (by omega); rw [g.e]; have gw := g.ew; have gh := g.eh; have gw0 := g.w0; have gh0 := g.h0; have gx := g.x; have gy := g.y; have hp := v_l03Points b hn; have hb := v_l03Bounds (ptsOf b.Tiles) (by rw [pts_len]; exact hn) (by rw [pts_len]; omega); rw [g.lo, g.hi] at hb; rw [Assembly.td_d] at hp; have hgs := gridG_size hT lx hy gw0.2; refine call_B (hV1) (by simp -implicitDefEqProofs (disch := omega) only [go_sem, ↓reduceIte, deep, TD.rows, immLL_rI, immLL_rB8, immLL_rS, immLL_rBo, immLL_rII, immLL_rIIt, Bool.not_true]; exact rfl) ?_; simp -implicitDefEqProofs (disch := omega) only [go_sem, ↓reduceIte , Bool.not_true]; refine call_B (hV2) (by simp -implicitDefEqProofs (disch := omega) only [go_sem, ↓reduceIte, deep, TD.rows, immLL_rI, immLL_rB8, immLL_rS, immLL_rBo, immLL_rII, immLL_rIIt, Bool.not_true, List.length_map, d0]; exact rfl) ?_; simp -implicitDefEqProofs (disch := omega) only [go_sem, ↓reduceIte , Bool.not_true, List.length_map, d0]; refine call_B (hp) (by simp -implicitDefEqProofs (disch := omega) only [go_sem, ↓reduceIte, deep, TD.rows, immLL_rI, immLL_rB8, immLL_rS, immLL_rBo, immLL_rII, immLL_rIIt]; exact rfl) ?_; simp -implicitDefEqProofs (disch := omega) only [go_sem, ↓reduceIte]; refine call_B (hb) (by simp -implicitDefEqProofs (disch := omega) only [go_sem, ↓reduceIte, deep, TD.rows, immLL_rI, immLL_rB8, immLL_rS, immLL_rBo, immLL_rII, immLL_rIIt, lkF_tup, Point.td_d]; exact rfl) ?_; simp -implicitDefEqProofs (disch := omega) only [go_sem, ↓reduceIte , lkF_tup, Point.td_d]; refine loop_ov (by simp -implicitDefEqProofs (disch := omega) only [go_sem, ↓reduceIte]; exact rfl) (fun j : Nat => [(7, .sl true 1 ((bytesI (gridG b.Tiles lx hy w j)).map rowB)), (8, .v (.int .i64 (hy - (j : Nat))))]) (fun _ => by simp only [ovr_nil, ovr_cons, List.set_cons_zero, List.set_cons_succ]; exact rfl) (fun j : Nat => j ≤ h) (fun j : Nat => h - j) (0) (by rw [show hy - ((0 : Nat) : Int) = hy from by omega, show (bytesI (gridG b.Tiles lx hy w 0)).map rowB = [] from rfl]; (try simp -implicitDefEqProofs only [nleL_cc, nleL_nn, nle_self, nle_boxs, nle_aggs, nle_nils, and_self, and_true, true_and]) <;> repeat' (first | exact nle_of_eq rfl | exact nle_nil | apply And.intro | apply nle_sl | apply nleLL_cons | apply nleL_cons | exact nleL_nil | exact nleLL_nil | apply nle_box | apply nle_agg)) (?_) ?_
      · exact Nat.zero_le _
      intro j hj; simp -implicitDefEqProofs (disch := omega) only [go_sem, ↓reduceIte]; refine cond_split ?_ ?_ <;> intro hlt
      · have hlt : j < h := (by have := of_decide_eq_true hlt; omega); simp -implicitDefEqProofs (disch := omega) only [go_sem, ↓reduceIte]; refine loop_ov (by simp -implicitDefEqProofs (disch := omega) only [go_sem, ↓reduceIte]; exact rfl) (fun i : Nat => [(7, .sl true 1 ((bytesI (curG b.Tiles lx hy w j i)).map rowB)), (9, .v (.int .i64 (lx + (i : Nat))))]) (fun _ => by simp only [ovr_nil, ovr_cons, List.set_cons_zero, List.set_cons_succ]; exact rfl) (fun i : Nat => i ≤ w) (fun i : Nat => w - i) (0) (by rw [show lx + ((0 : Nat) : Int) = lx from by omega, curG_zero]; (try simp -implicitDefEqProofs only [nleL_cc, nleL_nn, nle_self, nle_boxs, nle_aggs, nle_nils, and_self, and_true, true_and]) <;> repeat' (first | exact nle_of_eq rfl | exact nle_nil | apply And.intro | apply nle_sl | apply nleLL_cons | apply nleL_cons | exact nleL_nil | exact nleLL_nil | apply nle_box | apply nle_agg)) (?_) ?_
        · exact Nat.zero_le _
        intro i hi; simp -implicitDefEqProofs (disch := omega) only [go_sem, ↓reduceIte]; refine cond_split ?_ ?_ <;> intro hli
        · have hli : i < w := (by have := of_decide_eq_true hli; omega); have hA := v_l03At b ⟨lx + (i : Nat), hy - (j : Nat)⟩ hn; rw [Assembly.td_d, Point.td_d] at hA; have hcs := curG_size hT lx hy gw0.2 j hi; have hws := wordG_size hT (lx + (i : Nat)) (hy - (j : Nat)); have hw1 : IntKind.i64.wrap (lx + (i : Int) + 1) = lx + ((i + 1 : Nat) : Int) := (by rw [wrI (by omega) (by omega)]; omega); by_cases hi0 : i = 0
          · have di : decide (lx + (i : Int) > lx) = false := (by rw [decide_eq_false_iff_not]; omega); have hnx : curG b.Tiles lx hy w j (i + 1) = curG b.Tiles lx hy w j i ++ wordG b.Tiles (lx + (i : Nat)) (hy - (j : Nat)) := (by subst hi0; rw [curG_one, show lx + ((0 : Nat) : Int) = lx from by omega]); by_cases hk : tileA b.Tiles ⟨lx + (i : Nat), hy - (j : Nat)⟩ < 0
            · have hwd : wordG b.Tiles (lx + (i : Nat)) (hy - (j : Nat)) = ⟨⟨[46]⟩⟩ := if_neg (by omega); have dk : decide (tileA b.Tiles ⟨lx + (i : Nat), hy - (j : Nat)⟩ < 0) = true := decide_eq_true hk; simp -implicitDefEqProofs (disch := omega) only [go_sem, ↓reduceIte , di]; refine call_B (hA) (by simp -implicitDefEqProofs (disch := omega) only [go_sem, ↓reduceIte, deep, TD.rows, immLL_rI, immLL_rB8, immLL_rS, immLL_rBo, immLL_rII, immLL_rIIt, dk, List.length_map, bytesI_len, hw1]; exact rfl) ?_; simp -implicitDefEqProofs (disch := omega) only [go_sem, ↓reduceIte , dk, List.length_map, bytesI_len, hw1]; refine ⟨by omega, i + 1, by omega, by omega, ?_⟩; rw [hnx, hwd, rB_46]
              (try simp -implicitDefEqProofs only [nleL_cc, nleL_nn, nle_self, nle_boxs, nle_aggs, nle_nils, and_self, and_true, true_and]) <;> repeat' (first | exact nle_of_eq rfl | exact nle_nil | apply And.intro | apply nle_sl | apply nleLL_cons | apply nleL_cons | exact nleL_nil | exact nleLL_nil | apply nle_box | apply nle_agg)
            · have hD := v_Decimal_spec _ (tileG_in ⟨lx + (i : Nat), hy - (j : Nat)⟩ hT); have hwd : wordG b.Tiles (lx + (i : Nat)) (hy - (j : Nat)) = decS (tileA b.Tiles ⟨lx + (i : Nat), hy - (j : Nat)⟩) := if_pos (by omega); have dk : decide (tileA b.Tiles ⟨lx + (i : Nat), hy - (j : Nat)⟩ < 0) = false := decide_eq_false hk; rw [hwd] at hws; simp -implicitDefEqProofs (disch := omega) only [go_sem, ↓reduceIte , di]; refine call_B (hA) (by simp -implicitDefEqProofs (disch := omega) only [go_sem, ↓reduceIte, deep, TD.rows, immLL_rI, immLL_rB8, immLL_rS, immLL_rBo, immLL_rII, immLL_rIIt, dk]; exact rfl) ?_; simp -implicitDefEqProofs (disch := omega) only [go_sem, ↓reduceIte , dk]; refine call_B (hD) (by simp -implicitDefEqProofs (disch := omega) only [go_sem, ↓reduceIte, deep, TD.rows, immLL_rI, immLL_rB8, immLL_rS, immLL_rBo, immLL_rII, immLL_rIIt, List.length_map, bytesI_len, hw1]; exact rfl) ?_; simp -implicitDefEqProofs (disch := omega) only [go_sem, ↓reduceIte , List.length_map, bytesI_len, hw1]; refine ⟨by omega, i + 1, by omega, by omega, ?_⟩; rw [hnx, hwd, rB_app]
              (try simp -implicitDefEqProofs only [nleL_cc, nleL_nn, nle_self, nle_boxs, nle_aggs, nle_nils, and_self, and_true, true_and]) <;> repeat' (first | exact nle_of_eq rfl | exact nle_nil | apply And.intro | apply nle_sl | apply nleLL_cons | apply nleL_cons | exact nleL_nil | exact nleLL_nil | apply nle_box | apply nle_agg)
          · have di : decide (lx + (i : Int) > lx) = true := (by rw [decide_eq_true_iff]; omega); have hnx := curG_next b.Tiles lx hy w j (i := i) (by omega); have r1 : (Array.mk [(32 : UInt8)]).size = 1 := rfl; have hc1 : (curG b.Tiles lx hy w j i ++ ⟨⟨[32]⟩⟩ : ByteArray).size = (curG b.Tiles lx hy w j i).size + 1 := (by rw [ba_size2]; rfl); by_cases hk : tileA b.Tiles ⟨lx + (i : Nat), hy - (j : Nat)⟩ < 0
            · have hwd : wordG b.Tiles (lx + (i : Nat)) (hy - (j : Nat)) = ⟨⟨[46]⟩⟩ := if_neg (by omega); have dk : decide (tileA b.Tiles ⟨lx + (i : Nat), hy - (j : Nat)⟩ < 0) = true := decide_eq_true hk; simp -implicitDefEqProofs (disch := omega) only [go_sem, ↓reduceIte , di, rB_32, List.length_map, bytesI_len]; refine ⟨by omega, ?_⟩; refine call_B (hA) (by simp -implicitDefEqProofs (disch := omega) only [go_sem, ↓reduceIte, deep, TD.rows, immLL_rI, immLL_rB8, immLL_rS, immLL_rBo, immLL_rII, immLL_rIIt, dk, List.length_map, bytesI_len, hw1]; exact rfl) ?_; simp -implicitDefEqProofs (disch := omega) only [go_sem, ↓reduceIte , dk, List.length_map, bytesI_len, hw1]; refine ⟨by omega, i + 1, by omega, by omega, ?_⟩; rw [hnx, hwd, rB_46]
              (try simp -implicitDefEqProofs only [nleL_cc, nleL_nn, nle_self, nle_boxs, nle_aggs, nle_nils, and_self, and_true, true_and]) <;> repeat' (first | exact nle_of_eq rfl | exact nle_nil | apply And.intro | apply nle_sl | apply nleLL_cons | apply nleL_cons | exact nleL_nil | exact nleLL_nil | apply nle_box | apply nle_agg)
            · have hD := v_Decimal_spec _ (tileG_in ⟨lx + (i : Nat), hy - (j : Nat)⟩ hT); have hwd : wordG b.Tiles (lx + (i : Nat)) (hy - (j : Nat)) = decS (tileA b.Tiles ⟨lx + (i : Nat), hy - (j : Nat)⟩) := if_pos (by omega); have dk : decide (tileA b.Tiles ⟨lx + (i : Nat), hy - (j : Nat)⟩ < 0) = false := decide_eq_false hk; rw [hwd] at hws; simp -implicitDefEqProofs (disch := omega) only [go_sem, ↓reduceIte , di, rB_32, List.length_map, bytesI_len]; refine ⟨by omega, ?_⟩; refine call_B (hA) (by simp -implicitDefEqProofs (disch := omega) only [go_sem, ↓reduceIte, deep, TD.rows, immLL_rI, immLL_rB8, immLL_rS, immLL_rBo, immLL_rII, immLL_rIIt, dk]; exact rfl) ?_; simp -implicitDefEqProofs (disch := omega) only [go_sem, ↓reduceIte , dk]; refine call_B (hD) (by simp -implicitDefEqProofs (disch := omega) only [go_sem, ↓reduceIte, deep, TD.rows, immLL_rI, immLL_rB8, immLL_rS, immLL_rBo, immLL_rII, immLL_rIIt, List.length_map, bytesI_len, hw1]; exact rfl) ?_; simp -implicitDefEqProofs (disch := omega) only [go_sem, ↓reduceIte , List.length_map, bytesI_len, hw1]; refine ⟨by omega, i + 1, by omega, by omega, ?_⟩; rw [hnx, hwd, rB_app]
              (try simp -implicitDefEqProofs only [nleL_cc, nleL_nn, nle_self, nle_boxs, nle_aggs, nle_nils, and_self, and_true, true_and]) <;> repeat' (first | exact nle_of_eq rfl | exact nle_nil | apply And.intro | apply nle_sl | apply nleLL_cons | apply nleL_cons | exact nleL_nil | exact nleLL_nil | apply nle_box | apply nle_agg)
        · obtain rfl : i = w := (by have : ¬ (lx + (i : Int) ≤ hx) := (by simpa using hli); omega); have hcs := curG_size hT lx hy gw0.2 j hi; have hw1 : IntKind.i64.wrap (hy - (j : Int) - 1) = hy - ((j + 1 : Nat) : Int) := (by rw [wrI (by omega) (by omega)]; omega); simp -implicitDefEqProofs (disch := omega) only [go_sem, ↓reduceIte , rB_10, curG_all, List.length_map, bytesI_len, hw1]; exact ⟨by omega, j + 1, by omega, by omega, nleA⟩
      · obtain rfl : j = h := (by have : ¬ (hy - (j : Int) ≥ ly) := (by simpa using hlt); omega); simp -implicitDefEqProofs (disch := omega) only [go_sem, ↓reduceIte]; exact ⟨_, rfl, by rw [strI_bytes]⟩
end Go.Proofs.YtlmkgjigldmbaaaDoor
