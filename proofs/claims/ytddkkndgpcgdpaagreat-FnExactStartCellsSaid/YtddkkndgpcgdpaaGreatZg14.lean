/- Laws that the proof stands on. -/
import Derived.Test.YtddkkndgpcgdpaaGreatZVOwn
import Derived.Test.YtddkkndgpcgdpaaGreatZg10
import Derived.Test.YtddkkndgpcgdpaaGreatZg9
import Derived.Test.YtddkkndgpcgdpaaGreatZg12
import Derived.Test.YtddkkndgpcgdpaaGreatZVB
import Derived.Test.YtddkkndgpcgdpaaGreatProg
import Derived.Test.YtddkkndgpcgdpaaGreatZMkBase
set_option linter.all false
namespace Go.Proofs.YtddkkndgpcgdpaaGreat
open Go.RowKit Go.V
attribute [local go_sem] List.getElem?_cons_succ List.getElem?_cons_zero List.set_cons_succ List.set_cons_zero List.map_cons List.map_nil List.length_cons List.length_nil List.all_cons List.all_nil List.drop_succ_cons List.drop_zero List.take_succ_cons List.take_zero List.flatMap_cons List.flatMap_nil List.cons_append List.nil_append List.append_nil List.headD_cons Value.oneCell' Bool.and_true Bool.true_and Bool.or_false Bool.false_or Bool.and_self Bool.not_true Bool.not_false and_true true_and beq_self_eq_true Bool.false_eq_true if_true if_false Nat.zero_add Nat.reduceAdd Nat.reduceMul Nat.reduceLeDiff Nat.le_refl Option.isSome_some Option.isSome_none not_true_eq_false not_false_eq_true ne_eq reduceCtorEq List.reverse_nil bne_self_eq_false Nat.reduceEqDiff List.isPrefixOf Bool.not_eq_true Bool.and_false Bool.false_and Bool.true_or Bool.or_true decide_true decide_false Nat.reduceBEq Nat.reduceBNe List.replicate_succ List.replicate_zero exists_eq_left' exists_eq_left Option.some.injEq or_false or_true true_or false_or Option.map_some Option.map_none mB Nat.reduceMod Nat.reduceDiv
set_option maxRecDepth 100000
def plT (t : SignalTile) : Tile := ⟨t.Name, t.Sides⟩
def plS (s : SignalSet) : TileSet := ⟨s.Glues, s.Tiles.map plT⟩
def okFire (sd : List Int) (f : Fire) : Bool := inR 0 3 f.From && (inR 0 3 f.To && (!decide (f.From = f.To) && (!decide (sd.getD f.From.toNat 0 = 0) && !decide (sd.getD f.To.toNat 0 = 0))))
def okOn (t : SignalTile) (d : Nat) : Bool := !(t.On.getD d false && decide (t.Sides.getD d 0 = 0))
def on4 (t : SignalTile) : Bool := (List.range 4).all (okOn t)
def okSig (t : SignalTile) : Bool := decide (t.On.length = 4) && (decide (t.Fires.length ≤ 6) && (on4 t && t.Fires.all (okFire t.Sides)))
def okSigSet (s : SignalSet) : Bool := okSet (plS s) && s.Tiles.all okSig
theorem all_not {α : Type} {xs : List α} {p : α → Bool} {j : Nat} (hj : j < xs.length) (h : p xs[j] = false) : xs.all p = false := by rw [List.all_eq_false]; exact ⟨xs[j], List.getElem_mem hj, by simp [h]⟩
theorem pl_cnt {s : SignalSet} (h : SignalSet.cnt s ≤ 1048576) : TileSet.cnt (plS s) ≤ 1048576 := by
  have key : ∀ xs : List SignalTile, cntL Tile.cnt (xs.map plT) ≤ cntL SignalTile.cnt xs := fun xs => by
    induction xs with
    | nil => exact Nat.le_refl _
    | cons x xs ih => have e1 : cntL SignalTile.cnt (x :: xs) = cntL SignalTile.cnt xs + (SignalTile.cnt x + 1) := (by simp only [cntL, List.length_cons, List.map_cons, List.sum_cons]; omega); have e2 : cntL Tile.cnt ((x :: xs).map plT) = cntL Tile.cnt (xs.map plT) + (Tile.cnt (plT x) + 1) := (by simp only [cntL, List.length_cons, List.map_cons, List.sum_cons]; omega); have e3 : Tile.cnt (plT x) = x.Name.size + x.Sides.length := rfl; have e4 : SignalTile.cnt x = x.Name.size + x.Sides.length + x.On.length + x.Fires.length := rfl; omega
  have h1 : SignalSet.cnt s = cntL Glue.cnt s.Glues + cntL SignalTile.cnt s.Tiles := rfl; have h2 : TileSet.cnt (plS s) = cntL Glue.cnt s.Glues + cntL Tile.cnt (s.Tiles.map plT) := rfl; have := key s.Tiles; omega
structure sigB (s : SignalSet) : Prop where
  b : setB (plS s)
  g : s.Glues.length ≤ 1048576
  t : s.Tiles.length ≤ 1048576
  x : ∀ t, t ∈ s.Tiles → t.Sides.length ≤ 1048576 ∧ t.On.length ≤ 1048576 ∧ t.Fires.length ≤ 1048576
theorem sigB_of {s : SignalSet} (h : SignalSet.cnt s ≤ 1048576) : sigB s := by have h1 := cntL_len Glue.cnt s.Glues; have h2 := cntL_len SignalTile.cnt s.Tiles; have h3 : SignalSet.cnt s = cntL Glue.cnt s.Glues + cntL SignalTile.cnt s.Tiles := rfl; refine ⟨setB_of (pl_cnt h), by omega, by omega, fun t ht => ?_⟩; obtain ⟨k, hk, rfl⟩ := List.getElem_of_mem ht; have := cntL_mem SignalTile.cnt s.Tiles k hk; have h4 : SignalTile.cnt s.Tiles[k] = s.Tiles[k].Name.size + s.Tiles[k].Sides.length + s.Tiles[k].On.length + s.Tiles[k].Fires.length := rfl; omega
theorem pl_sides {s : SignalSet} (h : okSet (plS s) = true) {t : SignalTile} (ht : t ∈ s.Tiles) : t.Sides.length = 4 := by obtain ⟨k, hk, rfl⟩ := List.getElem_of_mem ht; unfold okSet at h; simp only [Bool.and_eq_true, List.all_eq_true] at h; have hk' : k < (plS s).Tiles.length := (by simpa [plS] using hk); have := h.2.2.2 k (by simpa using hk'); unfold okT at this; rw [List.getElem?_eq_getElem hk'] at this; simp only [Bool.and_eq_true, decide_eq_true_eq] at this; have h2 := this.2.1; simpa [plS, plT] using h2
theorem pl_next {ts : List SignalTile} {i : Nat} (h : i < ts.length) : ((ts.take i).map plT).map (Tile.td.d true) ++ [[.v (.string ts[i].Name), .sl true 1 (ts[i].Sides.map rI)]] = ((ts.take (i + 1)).map plT).map (Tile.td.d true) := by rw [← take_next h, List.map_append, List.map_append]; rfl
def code_impl_SignalSet_plain : VCode := (.seq (.ops [
  ⟨(some 1), none, (.box (.tmp 0))⟩,
  ⟨(some 2), none, (.alloc [(.slice none 0 0), (.slice none 0 0)])⟩]) (.seq (.ops [
  ⟨(some 6), none, (.fa 0 (.tmp 1))⟩,
  ⟨(some 7), none, (.load 1 false (.tmp 6))⟩,
  ⟨(some 8), none, (.callX 58 [(.tmp 7)])⟩,
  ⟨(some 9), none, (.build [(.slice none 0 0), (.slice none 0 0)] [(0, 1, (.tmp 8))])⟩,
  ⟨(some 3), none, (.alloc [(.slice none 0 0), (.slice none 0 0)])⟩,
  ⟨none, none, (.store 2 (.tmp 3) (.tmp 9))⟩]) (.seq (.seq (.ops [
  ⟨(some 10), none, (.fa 1 (.tmp 1))⟩,
  ⟨(some 11), none, (.load 1 false (.tmp 10))⟩,
  ⟨(some 12), none, (.len (.tmp 11))⟩,
  ⟨(some 13), none, (.mv (.const (.int .i64 0)))⟩]) (.block 0 (.loop (mB 30 1073726449) (.seq (.ops [
  ⟨(some 14), none, (.bin .lss (.tmp 13) (.tmp 12))⟩]) (.seq (.cond (.tmp 14) .skip (.exit 0)) (.seq (.block 1 (.seq (.ops [
  ⟨(some 15), none, (.ia 4 (.tmp 11) (.tmp 13))⟩,
  ⟨(some 16), none, (.load 4 true (.tmp 15))⟩,
  ⟨(some 5), none, (.alloc [(.string ⟨⟨[]⟩⟩), (.slice none 0 0), (.slice none 0 0), (.slice none 0 0)])⟩,
  ⟨none, none, (.store 4 (.tmp 5) (.tmp 16))⟩]) (.draw (mB 26 66977792) (mB 25 26214400) [⟨0, (mB 26 66977792), [], ⟨(some 17), none, (.fa 1 (.tmp 3))⟩⟩, ⟨1, (mB 26 66846720), [], ⟨(some 18), none, (.load 1 false (.tmp 17))⟩⟩, ⟨2, (mB 26 66977792), [], ⟨(some 19), none, (.fa 0 (.tmp 5))⟩⟩, ⟨3, (mB 26 66453504), [], ⟨(some 20), none, (.load 1 false (.tmp 19))⟩⟩, ⟨4, (mB 26 66977792), [], ⟨(some 21), none, (.fa 1 (.tmp 5))⟩⟩, ⟨5, (mB 26 64880640), [], ⟨(some 22), none, (.load 1 false (.tmp 21))⟩⟩, ⟨6, (mB 26 60686336), [], ⟨(some 23), none, (.call 59 [(.tmp 22)])⟩⟩, ⟨7, (mB 26 50724864), (mB 24 9437184), ⟨(some 24), none, (.build [(.string ⟨⟨[]⟩⟩), (.slice none 0 0)] [(0, 1, (.tmp 20)), (1, 1, (.tmp 23))])⟩⟩, ⟨8, (mB 26 43384832), (mB 25 16777216), ⟨(some 25), none, (.bslN 2 [(.tmp 24)])⟩⟩] [⟨(some 26), none, (.app 2 40 (.tmp 18) (.tmp 25))⟩, ⟨(some 27), none, (.fa 1 (.tmp 3))⟩, ⟨none, none, (.store 1 (.tmp 27) (.tmp 26))⟩]))) (.ops [
  ⟨(some 28), none, (.bin .add (.tmp 13) (.const (.int .i64 1)))⟩,
  ⟨(some 13), none, (.mv (.tmp 28))⟩]))))))) (.seq (.ops [
  ⟨(some 29), none, (.load 2 true (.tmp 3))⟩,
  ⟨none, none, (.store 2 (.tmp 2) (.tmp 29))⟩]) .ret))))
theorem law_impl_SignalSet_plain {a0 d : D} (h : code_impl_SignalSet_plain.wp (CT Tryz.prog NoG) (endQ [(.c 2 2 true)] d) [a0, .undef, .undef, .undef, .undef, .undef, .undef, .undef, .undef, .undef, .undef, .undef, .undef, .undef, .undef, .undef, .undef, .undef, .undef, .undef, .undef, .undef, .undef, .undef, .undef, .undef, .undef, .undef, .undef, .undef]) : Contract Tryz.prog NoG 29 [a0] d :=
  contract_of (pt := 0) noG Tryz.func29 (fun us W => by kernel_rfl) (c := Tryz.f29.body.getD .skip) (ms := [(mB 30 1073726449)]) (ms' := []) (by kernel_rfl) (by kernel_rfl) (by kernel_rfl) h
def code_spec_l31Plain : VCode := (.seq (.ops [
  ⟨(some 2), none, (.alloc [(.slice none 0 0), (.slice none 0 0)])⟩]) (.seq (.ops [
  ⟨(some 5), none, (.bsl 2 [])⟩,
  ⟨(some 6), none, (.mv (.tmp 0))⟩,
  ⟨(some 7), none, (.nilc (.tmp 6))⟩,
  ⟨(some 8), none, (.fa 0 (.tmp 7))⟩,
  ⟨(some 9), none, (.load 1 false (.tmp 8))⟩,
  ⟨(some 10), none, (.app 2 24 (.tmp 5) (.tmp 9))⟩,
  ⟨(some 11), none, (.build [(.slice none 0 0), (.slice none 0 0)] [(0, 1, (.tmp 10))])⟩,
  ⟨(some 3), none, (.alloc [(.slice none 0 0), (.slice none 0 0)])⟩,
  ⟨none, none, (.store 2 (.tmp 3) (.tmp 11))⟩]) (.seq (.seq (.ops [
  ⟨(some 4), none, (.asg (.const (.int .i64 0)))⟩]) (.block 0 (.loop (mB 45 35184372088802) (.seq (.seq (.ops [
  ⟨(some 12), none, (.mv (.tmp 4))⟩,
  ⟨(some 13), none, (.mv (.tmp 0))⟩,
  ⟨(some 14), none, (.nilc (.tmp 13))⟩,
  ⟨(some 15), none, (.fa 1 (.tmp 14))⟩,
  ⟨(some 16), none, (.load 1 false (.tmp 15))⟩,
  ⟨(some 17), none, (.len (.tmp 16))⟩,
  ⟨(some 18), none, (.bin .lss (.tmp 12) (.tmp 17))⟩]) (.cond (.tmp 18) .skip (.exit 0))) (.seq (.block 1 (.draw (mB 42 4398044413952) (mB 41 1650341183488) [⟨0, (mB 42 4398044413952), [], ⟨(some 21), none, (.fa 1 (.tmp 3))⟩⟩, ⟨1, (mB 42 4398042316800), [], ⟨(some 22), none, (.load 1 false (.tmp 21))⟩⟩, ⟨2, (mB 42 4398044413952), [], ⟨(some 23), none, (.mv (.tmp 0))⟩⟩, ⟨3, (mB 42 4398036025344), [], ⟨(some 24), none, (.nilc (.tmp 23))⟩⟩, ⟨4, (mB 42 4398019248128), [], ⟨(some 25), none, (.fa 1 (.tmp 24))⟩⟩, ⟨5, (mB 42 4397985693696), [], ⟨(some 26), none, (.load 1 false (.tmp 25))⟩⟩, ⟨6, (mB 42 4398044413952), [], ⟨(some 27), none, (.mv (.tmp 4))⟩⟩, ⟨7, (mB 42 4397784367104), [], ⟨(some 28), none, (.ia 4 (.tmp 26) (.tmp 27))⟩⟩, ⟨8, (mB 42 4397515931648), [], ⟨(some 29), none, (.fa 0 (.tmp 28))⟩⟩, ⟨9, (mB 42 4396979060736), [], ⟨(some 30), none, (.load 1 false (.tmp 29))⟩⟩, ⟨10, (mB 42 4398044413952), [], ⟨(some 31), none, (.mv (.tmp 0))⟩⟩, ⟨11, (mB 42 4395896930304), [], ⟨(some 32), none, (.nilc (.tmp 31))⟩⟩, ⟨12, (mB 42 4391601963008), [], ⟨(some 33), none, (.fa 1 (.tmp 32))⟩⟩, ⟨13, (mB 42 4383012028416), [], ⟨(some 34), none, (.load 1 false (.tmp 33))⟩⟩, ⟨14, (mB 42 4398044413952), [], ⟨(some 35), none, (.mv (.tmp 4))⟩⟩, ⟨15, (mB 42 4331472420864), [], ⟨(some 36), none, (.ia 4 (.tmp 34) (.tmp 35))⟩⟩, ⟨16, (mB 42 4262752944128), [], ⟨(some 37), none, (.fa 1 (.tmp 36))⟩⟩, ⟨17, (mB 42 4125313990656), [], ⟨(some 38), none, (.load 1 false (.tmp 37))⟩⟩, ⟨18, (mB 42 3850436083712), [], ⟨(some 39), none, (.call 42 [(.tmp 38)])⟩⟩, ⟨19, (mB 42 3298541174784), (mB 40 550829555712), ⟨(some 40), none, (.build [(.string ⟨⟨[]⟩⟩), (.slice none 0 0)] [(0, 1, (.tmp 30)), (1, 1, (.tmp 39))])⟩⟩, ⟨20, (mB 42 2749859102720), (mB 41 1099511627776), ⟨(some 41), none, (.bslN 2 [(.tmp 40)])⟩⟩] [⟨(some 42), none, (.app 2 40 (.tmp 22) (.tmp 41))⟩, ⟨(some 43), none, (.fa 1 (.tmp 3))⟩, ⟨none, none, (.store 1 (.tmp 43) (.tmp 42))⟩])) (.ops [
  ⟨(some 19), none, (.mv (.tmp 4))⟩,
  ⟨(some 20), none, (.bin .add (.tmp 19) (.const (.int .i64 1)))⟩,
  ⟨(some 4), none, (.asg (.tmp 20))⟩])))))) (.seq (.ops [
  ⟨(some 44), none, (.load 2 true (.tmp 3))⟩,
  ⟨none, none, (.store 2 (.tmp 2) (.tmp 44))⟩]) .ret))))
theorem law_spec_l31Plain {a0 d : D} (h : code_spec_l31Plain.wp (CT Tryz.prog NoG) (endQ [(.c 2 2 true)] d) [a0, .undef, .undef, .undef, .undef, .undef, .undef, .undef, .undef, .undef, .undef, .undef, .undef, .undef, .undef, .undef, .undef, .undef, .undef, .undef, .undef, .undef, .undef, .undef, .undef, .undef, .undef, .undef, .undef, .undef, .undef, .undef, .undef, .undef, .undef, .undef, .undef, .undef, .undef, .undef, .undef, .undef, .undef, .undef, .undef]) : Contract Tryz.prog NoG 20 [a0] d :=
  contract_of (pt := 0) noG Tryz.func20 (fun us W => by kernel_rfl) (c := Tryz.f20.body.getD .skip) (ms := [(mB 45 35184372088802)]) (ms' := []) (by kernel_rfl) (by kernel_rfl) (by kernel_rfl) h
set_option maxHeartbeats 1000000 in
theorem v_plain (s : SignalSet) (hb : sigB s) : Contract Tryz.prog NoG 29 [.agg (SignalSet.td.d false s)] (.agg (TileSet.td.d true (plS s))) := by
  have hg := hb.g; have ht := hb.t; rw [SignalSet.td_d, TileSet.td_d]; refine law_impl_SignalSet_plain ?_; unfold code_impl_SignalSet_plain; simp -implicitDefEqProofs (disch := omega) only [go_sem, ↓reduceIte]; refine call_B (v_Clone_Glue s.Glues hg) (by simp -implicitDefEqProofs (disch := omega) only [go_sem, ↓reduceIte, deep, TD.rows, immLL_rI, immLL_rB8, immLL_rS, immLL_rBo, immLL_rII, immLL_rIIt]; exact rfl) ?_; simp -implicitDefEqProofs (disch := omega) only [go_sem, ↓reduceIte]; refine loop_ov (by simp -implicitDefEqProofs (disch := omega) only [go_sem, ↓reduceIte]; exact rfl) (fun i : Nat => [(13, .v (.int .i64 (i : Nat))), (3, .box none [.sl true 2 (s.Glues.map (Glue.td.d true)), .sl true 2 (((s.Tiles.take i).map plT).map (Tile.td.d true))])]) (fun _ => by simp only [ovr_nil, ovr_cons, List.set_cons_zero, List.set_cons_succ]; exact rfl) (fun i : Nat => i ≤ s.Tiles.length) (fun i : Nat => s.Tiles.length - i) (0) (nleA) (Nat.zero_le _) ?_; intro i hi; simp -implicitDefEqProofs (disch := omega) only [go_sem, ↓reduceIte , List.length_map, Int.toNat_natCast, Int.ofNat_lt, Int.natCast_nonneg, List.getElem?_map, Option.map_some]; refine cond_split ?_ ?_ <;> intro hlt
  · have hlt : i < s.Tiles.length := (by simpa using hlt); have e1 := List.getElem?_eq_getElem hlt; have hx := hb.x _ (List.getElem_mem hlt); have hs := pl_next hlt; have hk : (s.Tiles.take i).length = i := (by rw [List.length_take]; omega); simp -implicitDefEqProofs (disch := omega) only [go_sem, ↓reduceIte , List.length_map, Int.toNat_natCast, Int.ofNat_lt, Int.natCast_nonneg, List.getElem?_map, Option.map_some, hlt, e1, SignalTile.td_d]; refine call_NB (v_Clone_Int64 s.Tiles[i].Sides hx.1) (by simp -implicitDefEqProofs (disch := omega) only [go_sem, ↓reduceIte, deep, TD.rows, immLL_rI, immLL_rB8, immLL_rS, immLL_rBo, immLL_rII, immLL_rIIt, hs, hk, List.length_map, wrN]; exact rfl) ?_; simp -implicitDefEqProofs (disch := omega) only [go_sem, ↓reduceIte , hs, hk, List.length_map, wrN]
    repeat (refine And.intro (by omega) ?_)
    exact ⟨i + 1, by omega, hlt, nleA⟩
  · obtain rfl : i = s.Tiles.length := (by have : ¬ i < s.Tiles.length := (by simpa using hlt); omega); simp -implicitDefEqProofs (disch := omega) only [go_sem, ↓reduceIte , List.take_length]; exact ⟨rfl, rfl⟩
set_option maxHeartbeats 1000000 in
theorem v_l31Plain (s : SignalSet) (hb : sigB s) : Contract Tryz.prog NoG 20 [.iptr (SignalSet.td.d false s) 0] (.agg (TileSet.td.d true (plS s))) := by
  have hg := hb.g; have ht := hb.t; rw [SignalSet.td_d, TileSet.td_d]; refine law_spec_l31Plain ?_; unfold code_spec_l31Plain; simp -implicitDefEqProofs (disch := omega) only [go_sem, ↓reduceIte]; refine And.intro (by rw [List.length_map]; omega) ?_; refine loop_ov (by simp -implicitDefEqProofs (disch := omega) only [go_sem, ↓reduceIte]; exact rfl) (fun i : Nat => [(4, .v (.int .i64 (i : Nat))), (3, .box none [.sl true 2 (s.Glues.map (Glue.td.d true)), .sl true 2 (((s.Tiles.take i).map plT).map (Tile.td.d true))])]) (fun _ => by simp only [ovr_nil, ovr_cons, List.set_cons_zero, List.set_cons_succ]; exact rfl) (fun i : Nat => i ≤ s.Tiles.length) (fun i : Nat => s.Tiles.length - i) (0) (nleA) (Nat.zero_le _) ?_; intro i hi; simp -implicitDefEqProofs (disch := omega) only [go_sem, ↓reduceIte , List.length_map, Int.toNat_natCast, Int.ofNat_lt, Int.natCast_nonneg, List.getElem?_map, Option.map_some]; refine cond_split ?_ ?_ <;> intro hlt
  · have hlt : i < s.Tiles.length := (by simpa using hlt); have e1 := List.getElem?_eq_getElem hlt; have hx := hb.x _ (List.getElem_mem hlt); have hs := pl_next hlt; have hk : (s.Tiles.take i).length = i := (by rw [List.length_take]; omega); simp -implicitDefEqProofs (disch := omega) only [go_sem, ↓reduceIte , List.length_map, Int.toNat_natCast, Int.ofNat_lt, Int.natCast_nonneg, List.getElem?_map, Option.map_some, hlt, e1, SignalTile.td_d]; refine call_NB (v_l00Own s.Tiles[i].Sides hx.1) (by simp -implicitDefEqProofs (disch := omega) only [go_sem, ↓reduceIte, deep, TD.rows, immLL_rI, immLL_rB8, immLL_rS, immLL_rBo, immLL_rII, immLL_rIIt, hs, hk, List.length_map, wrN]; exact rfl) ?_; simp -implicitDefEqProofs (disch := omega) only [go_sem, ↓reduceIte , hs, hk, List.length_map, wrN]
    repeat (refine And.intro (by omega) ?_)
    exact ⟨i + 1, by omega, hlt, nleA⟩
  · obtain rfl : i = s.Tiles.length := (by have : ¬ i < s.Tiles.length := (by simpa using hlt); omega); simp -implicitDefEqProofs (disch := omega) only [go_sem, ↓reduceIte , List.take_length]; exact ⟨rfl, rfl⟩
theorem range_all_next (p : Nat → Bool) (i : Nat) : (List.range (i + 1)).all p = ((List.range i).all p && p i) := by rw [List.range_succ, List.all_append, List.all_cons, List.all_nil, Bool.and_true]
theorem range_all_not {p : Nat → Bool} {i n : Nat} (hi : i < n) (h : p i = false) : (List.range n).all p = false := by rw [List.all_eq_false]; exact ⟨i, by simpa using hi, by simp [h]⟩
theorem okOn_at {t : SignalTile} {i : Nat} (h1 : i < t.On.length) (h2 : i < t.Sides.length) : okOn t i = !(t.On[i] && decide (t.Sides[i] = 0)) := by unfold okOn; rw [List.getD_eq_getElem?_getD, List.getD_eq_getElem?_getD, List.getElem?_eq_getElem h1, List.getElem?_eq_getElem h2]; rfl
def code_impl_SignalTile_signalsOk_1 : VCode := (.seq (.ops [
  ⟨(some 2), none, (.box (.tmp 0))⟩,
  ⟨(some 3), none, (.asg (.const (.bool false)))⟩]) (.seq (.ops [
  ⟨(some 4), none, (.fa 0 (.tmp 2))⟩,
  ⟨(some 5), none, (.load 1 false (.tmp 4))⟩,
  ⟨(some 6), none, (.callX 88 [(.tmp 5)])⟩,
  ⟨(some 7), none, (.un .not (.tmp 6))⟩,
  ⟨(some 8), none, (.mv (.tmp 7))⟩,
  ⟨(some 9), (some (8, false)), (.fa 1 (.tmp 2))⟩,
  ⟨(some 10), (some (8, false)), (.load 1 false (.tmp 9))⟩,
  ⟨(some 11), (some (8, false)), (.callX 88 [(.tmp 10)])⟩,
  ⟨(some 12), (some (8, false)), (.un .not (.tmp 11))⟩,
  ⟨(some 13), none, (.pick (.tmp 8) (.const (.bool true)) (.tmp 12))⟩,
  ⟨(some 14), none, (.mv (.tmp 13))⟩,
  ⟨(some 15), (some (14, false)), (.fa 0 (.tmp 2))⟩,
  ⟨(some 16), (some (14, false)), (.load 1 false (.tmp 15))⟩,
  ⟨(some 17), (some (14, false)), (.fa 1 (.tmp 2))⟩,
  ⟨(some 18), (some (14, false)), (.load 1 false (.tmp 17))⟩,
  ⟨(some 19), (some (14, false)), (.bin .eql (.tmp 16) (.tmp 18))⟩,
  ⟨(some 20), none, (.pick (.tmp 14) (.const (.bool true)) (.tmp 19))⟩,
  ⟨(some 21), none, (.mv (.tmp 20))⟩,
  ⟨(some 22), (some (21, false)), (.fa 1 (.tmp 1))⟩,
  ⟨(some 23), (some (21, false)), (.load 1 false (.tmp 22))⟩,
  ⟨(some 24), (some (21, false)), (.fa 0 (.tmp 2))⟩,
  ⟨(some 25), (some (21, false)), (.load 1 false (.tmp 24))⟩,
  ⟨(some 26), (some (21, false)), (.ia 1 (.tmp 23) (.tmp 25))⟩,
  ⟨(some 27), (some (21, false)), (.load 1 false (.tmp 26))⟩,
  ⟨(some 28), (some (21, false)), (.bin .eql (.tmp 27) (.const (.int .i64 0)))⟩,
  ⟨(some 29), none, (.pick (.tmp 21) (.const (.bool true)) (.tmp 28))⟩,
  ⟨(some 30), none, (.mv (.tmp 29))⟩,
  ⟨(some 31), (some (30, false)), (.fa 1 (.tmp 1))⟩,
  ⟨(some 32), (some (30, false)), (.load 1 false (.tmp 31))⟩,
  ⟨(some 33), (some (30, false)), (.fa 1 (.tmp 2))⟩,
  ⟨(some 34), (some (30, false)), (.load 1 false (.tmp 33))⟩,
  ⟨(some 35), (some (30, false)), (.ia 1 (.tmp 32) (.tmp 34))⟩,
  ⟨(some 36), (some (30, false)), (.load 1 false (.tmp 35))⟩,
  ⟨(some 37), (some (30, false)), (.bin .eql (.tmp 36) (.const (.int .i64 0)))⟩,
  ⟨(some 38), none, (.pick (.tmp 30) (.const (.bool true)) (.tmp 37))⟩,
  ⟨(some 3), none, (.asg (.tmp 38))⟩]) .ret))
theorem law_impl_SignalTile_signalsOk_1 {a0 a1 d : D} (h : code_impl_SignalTile_signalsOk_1.wp (CT Tryz.prog NoG) (endQ [(.t 3)] d) [a0, a1, .undef, .undef, .undef, .undef, .undef, .undef, .undef, .undef, .undef, .undef, .undef, .undef, .undef, .undef, .undef, .undef, .undef, .undef, .undef, .undef, .undef, .undef, .undef, .undef, .undef, .undef, .undef, .undef, .undef, .undef, .undef, .undef, .undef, .undef, .undef, .undef, .undef]) : Contract Tryz.prog NoG 87 [a0, a1] d :=
  contract_of (pt := 0) noG Tryz.func87 (fun us W => by kernel_rfl) (c := Tryz.f87.body.getD .skip) (ms := []) (ms' := []) (by kernel_rfl) (by kernel_rfl) (by kernel_rfl) h
def code_impl_isDir : VCode := (.seq (.ops [
  ⟨(some 2), none, (.asg (.const (.bool false)))⟩]) (.seq (.ops [
  ⟨(some 3), none, (.mv (.tmp 0))⟩,
  ⟨(some 4), none, (.callX 81 [(.tmp 3), (.const (.int .i64 0)), (.const (.int .i64 3))])⟩,
  ⟨(some 2), none, (.asg (.tmp 4))⟩]) .ret))
theorem law_impl_isDir {a0 d : D} (h : code_impl_isDir.wp (CT Tryz.prog NoG) (endQ [(.t 2)] d) [a0, .undef, .undef, .undef, .undef]) : Contract Tryz.prog NoG 88 [a0] d :=
  contract_of (pt := 0) noG Tryz.func88 (fun us W => by kernel_rfl) (c := Tryz.f88.body.getD .skip) (ms := []) (ms' := []) (by kernel_rfl) (by kernel_rfl) (by kernel_rfl) h
def code_impl_SignalTile_signalsOk : VCode := (.seq (.ops [
  ⟨(some 1), none, (.box (.tmp 0))⟩,
  ⟨(some 2), none, (.asg (.const (.bool false)))⟩]) (.seq (.seq (.ops [
  ⟨(some 5), none, (.fa 2 (.tmp 1))⟩,
  ⟨(some 6), none, (.load 1 false (.tmp 5))⟩,
  ⟨(some 7), none, (.len (.tmp 6))⟩,
  ⟨(some 8), none, (.bin .neq (.tmp 7) (.const (.int .i64 4)))⟩,
  ⟨(some 9), none, (.mv (.tmp 8))⟩,
  ⟨(some 10), (some (9, false)), (.fa 3 (.tmp 1))⟩,
  ⟨(some 11), (some (9, false)), (.load 1 false (.tmp 10))⟩,
  ⟨(some 12), (some (9, false)), (.len (.tmp 11))⟩,
  ⟨(some 13), (some (9, false)), (.bin .gtr (.tmp 12) (.const (.int .i64 6)))⟩,
  ⟨(some 14), none, (.pick (.tmp 9) (.const (.bool true)) (.tmp 13))⟩]) (.cond (.tmp 14) (.seq (.ops [
  ⟨(some 2), none, (.asg (.const (.bool false)))⟩]) .ret) .skip)) (.seq (.seq (.ops [
  ⟨(some 15), none, (.fa 2 (.tmp 1))⟩,
  ⟨(some 16), none, (.load 1 false (.tmp 15))⟩,
  ⟨(some 17), none, (.len (.tmp 16))⟩,
  ⟨(some 18), none, (.mv (.const (.int .i64 0)))⟩]) (.block 0 (.loop (mB 38 274877415421) (.seq (.ops [
  ⟨(some 19), none, (.bin .lss (.tmp 18) (.tmp 17))⟩]) (.seq (.cond (.tmp 19) .skip (.exit 0)) (.seq (.block 1 (.seq (.ops [
  ⟨(some 20), none, (.mv (.tmp 18))⟩,
  ⟨(some 21), none, (.ia 1 (.tmp 16) (.tmp 18))⟩,
  ⟨(some 22), none, (.load 1 false (.tmp 21))⟩,
  ⟨(some 3), none, (.asg (.tmp 20))⟩,
  ⟨(some 4), none, (.asg (.tmp 22))⟩]) (.seq (.ops [
  ⟨(some 23), none, (.mv (.tmp 4))⟩,
  ⟨(some 24), none, (.mv (.tmp 23))⟩,
  ⟨(some 25), (some (24, true)), (.fa 1 (.tmp 1))⟩,
  ⟨(some 26), (some (24, true)), (.load 1 false (.tmp 25))⟩,
  ⟨(some 27), (some (24, true)), (.mv (.tmp 3))⟩,
  ⟨(some 28), (some (24, true)), (.ia 1 (.tmp 26) (.tmp 27))⟩,
  ⟨(some 29), (some (24, true)), (.load 1 false (.tmp 28))⟩,
  ⟨(some 30), (some (24, true)), (.bin .eql (.tmp 29) (.const (.int .i64 0)))⟩,
  ⟨(some 31), none, (.pick (.tmp 24) (.tmp 30) (.const (.bool false)))⟩]) (.cond (.tmp 31) (.seq (.ops [
  ⟨(some 2), none, (.asg (.const (.bool false)))⟩]) .ret) .skip)))) (.ops [
  ⟨(some 32), none, (.bin .add (.tmp 18) (.const (.int .i64 1)))⟩,
  ⟨(some 18), none, (.mv (.tmp 32))⟩]))))))) (.seq (.ops [
  ⟨(some 33), none, (.fa 3 (.tmp 1))⟩,
  ⟨(some 34), none, (.load 1 false (.tmp 33))⟩,
  ⟨(some 35), none, (.mkf 87 [] [(.tmp 1)])⟩,
  ⟨(some 36), none, (.callX 86 [(.tmp 34), (.tmp 35)])⟩,
  ⟨(some 37), none, (.un .not (.tmp 36))⟩,
  ⟨(some 2), none, (.asg (.tmp 37))⟩]) .ret))))
theorem law_impl_SignalTile_signalsOk {a0 d : D} (h : code_impl_SignalTile_signalsOk.wp (CT Tryz.prog NoG) (endQ [(.t 2)] d) [a0, .undef, .undef, .undef, .undef, .undef, .undef, .undef, .undef, .undef, .undef, .undef, .undef, .undef, .undef, .undef, .undef, .undef, .undef, .undef, .undef, .undef, .undef, .undef, .undef, .undef, .undef, .undef, .undef, .undef, .undef, .undef, .undef, .undef, .undef, .undef, .undef, .undef]) : Contract Tryz.prog NoG 53 [a0] d :=
  contract_of (pt := 0) noG Tryz.func53 (fun us W => by kernel_rfl) (c := Tryz.f53.body.getD .skip) (ms := [(mB 38 274877415421)]) (ms' := []) (by kernel_rfl) (by kernel_rfl) (by kernel_rfl) h
def code_impl_ValidSignalSet_1 : VCode := (.seq (.ops [
  ⟨(some 1), none, (.box (.tmp 0))⟩,
  ⟨(some 2), none, (.asg (.const (.bool false)))⟩]) (.seq (.ops [
  ⟨(some 3), none, (.load 4 true (.tmp 1))⟩,
  ⟨(some 4), none, (.callX 53 [(.tmp 3)])⟩,
  ⟨(some 5), none, (.un .not (.tmp 4))⟩,
  ⟨(some 2), none, (.asg (.tmp 5))⟩]) .ret))
theorem law_impl_ValidSignalSet_1 {a0 d : D} (h : code_impl_ValidSignalSet_1.wp (CT Tryz.prog NoG) (endQ [(.t 2)] d) [a0, .undef, .undef, .undef, .undef, .undef]) : Contract Tryz.prog NoG 52 [a0] d :=
  contract_of (pt := 0) noG Tryz.func52 (fun us W => by kernel_rfl) (c := Tryz.f52.body.getD .skip) (ms := []) (ms' := []) (by kernel_rfl) (by kernel_rfl) (by kernel_rfl) h
def code_impl_ValidSignalSet : VCode := (.seq (.ops [
  ⟨(some 1), none, (.box (.tmp 0))⟩,
  ⟨(some 2), none, (.asg (.const (.bool false)))⟩]) (.seq (.ops [
  ⟨(some 3), none, (.load 2 true (.tmp 1))⟩,
  ⟨(some 4), none, (.callX 29 [(.tmp 3)])⟩,
  ⟨(some 5), none, (.callX 50 [(.tmp 4)])⟩,
  ⟨(some 6), none, (.mv (.tmp 5))⟩,
  ⟨(some 7), (some (6, true)), (.fa 1 (.tmp 1))⟩,
  ⟨(some 8), (some (6, true)), (.load 1 false (.tmp 7))⟩,
  ⟨(some 9), (some (6, true)), (.callX 51 [(.tmp 8), (.func 52)])⟩,
  ⟨(some 10), (some (6, true)), (.un .not (.tmp 9))⟩,
  ⟨(some 11), none, (.pick (.tmp 6) (.tmp 10) (.const (.bool false)))⟩,
  ⟨(some 2), none, (.asg (.tmp 11))⟩]) .ret))
theorem law_impl_ValidSignalSet {a0 d : D} (h : code_impl_ValidSignalSet.wp (CT Tryz.prog NoG) (endQ [(.t 2)] d) [a0, .undef, .undef, .undef, .undef, .undef, .undef, .undef, .undef, .undef, .undef, .undef]) : Contract Tryz.prog NoG 27 [a0] d :=
  contract_of (pt := 0) noG Tryz.func27 (fun us W => by kernel_rfl) (c := Tryz.f27.body.getD .skip) (ms := []) (ms' := []) (by kernel_rfl) (by kernel_rfl) (by kernel_rfl) h
theorem v_isDir (n : Int) : Contract Tryz.prog NoG 88 [.v (.int .i64 n)] (.v (.bool (inR 0 3 n))) := by refine law_impl_isDir ?_; unfold code_impl_isDir; simp -implicitDefEqProofs (disch := omega) only [go_sem, ↓reduceIte]; refine call_B (v_within _ _ _) (by simp -implicitDefEqProofs (disch := omega) only [go_sem, ↓reduceIte, deep, TD.rows, immLL_rI, immLL_rB8, immLL_rS, immLL_rBo, immLL_rII, immLL_rIIt]; exact rfl) ?_; simp -implicitDefEqProofs (disch := omega) only [go_sem, ↓reduceIte]
theorem v_fire (t : SignalTile) (f : Fire) (h4 : t.Sides.length = 4) : Contract Tryz.prog NoG 87 [.agg (Fire.td.d false f), .iptr (SignalTile.td.d false t) 0] (.v (.bool (!okFire t.Sides f))) := by
  rw [Fire.td_d, SignalTile.td_d]; refine law_impl_SignalTile_signalsOk_1 ?_; unfold code_impl_SignalTile_signalsOk_1 okFire; simp -implicitDefEqProofs (disch := omega) only [go_sem, ↓reduceIte]; cases h1 : inR 0 3 f.From with
  | false => refine call_B (v_isDir _) (by simp -implicitDefEqProofs (disch := omega) only [go_sem, ↓reduceIte, deep, TD.rows, immLL_rI, immLL_rB8, immLL_rS, immLL_rBo, immLL_rII, immLL_rIIt, h1]; exact rfl) ?_; simp -implicitDefEqProofs (disch := omega) only [go_sem, ↓reduceIte , h1]
  | true =>
  obtain ⟨a1, a2⟩ := inR_iff.1 h1; refine call_B (v_isDir _) (by simp -implicitDefEqProofs (disch := omega) only [go_sem, ↓reduceIte, deep, TD.rows, immLL_rI, immLL_rB8, immLL_rS, immLL_rBo, immLL_rII, immLL_rIIt, h1]; exact rfl) ?_; simp -implicitDefEqProofs (disch := omega) only [go_sem, ↓reduceIte , h1]; cases h2 : inR 0 3 f.To with
  | false => refine call_B (v_isDir _) (by simp -implicitDefEqProofs (disch := omega) only [go_sem, ↓reduceIte, deep, TD.rows, immLL_rI, immLL_rB8, immLL_rS, immLL_rBo, immLL_rII, immLL_rIIt, h2]; exact rfl) ?_; simp -implicitDefEqProofs (disch := omega) only [go_sem, ↓reduceIte , h2]
  | true =>
  obtain ⟨b1, b2⟩ := inR_iff.1 h2; obtain ⟨a, ha⟩ : ∃ a : Nat, f.From = (a : Int) := ⟨f.From.toNat, by omega⟩
  obtain ⟨b, hb⟩ : ∃ b : Nat, f.To = (b : Int) := ⟨f.To.toNat, by omega⟩
  have hla : a < t.Sides.length := (by omega); have hlb : b < t.Sides.length := (by omega); have e1 := List.getElem?_eq_getElem hla; have e2 := List.getElem?_eq_getElem hlb; have g1 : t.Sides.getD f.From.toNat 0 = t.Sides[a] := (by rw [ha, Int.toNat_natCast, List.getD_eq_getElem?_getD, e1]; rfl); have g2 : t.Sides.getD f.To.toNat 0 = t.Sides[b] := (by rw [hb, Int.toNat_natCast, List.getD_eq_getElem?_getD, e2]; rfl); rw [g1, g2, ha, hb]; rw [ha] at h1; rw [hb] at h2; cases h3 : decide ((a : Int) = (b : Int)) with
  | true =>
    refine call_B (v_isDir _) (by simp -implicitDefEqProofs (disch := omega) only [go_sem, ↓reduceIte, deep, TD.rows, immLL_rI, immLL_rB8, immLL_rS, immLL_rBo, immLL_rII, immLL_rIIt, h2, ha, hb, h3]; exact rfl) ?_; simp -implicitDefEqProofs (disch := omega) only [go_sem, ↓reduceIte , h2, ha, hb, h3]
    skip
  | false =>
  cases h5 : decide (t.Sides[a] = 0) with
  | true =>
    refine call_B (v_isDir _) (by simp -implicitDefEqProofs (disch := omega) only [go_sem, ↓reduceIte, deep, TD.rows, immLL_rI, immLL_rB8, immLL_rS, immLL_rBo, immLL_rII, immLL_rIIt, h2, ha, hb, h3, List.length_map, Int.toNat_natCast, Int.ofNat_lt, Int.natCast_nonneg, List.getElem?_map, Option.map_some, hla, e1, rI, h5]; exact rfl) ?_; simp -implicitDefEqProofs (disch := omega) only [go_sem, ↓reduceIte , h2, ha, hb, h3, List.length_map, Int.toNat_natCast, Int.ofNat_lt, Int.natCast_nonneg, List.getElem?_map, Option.map_some, hla, e1, rI, h5]
    skip
  | false =>
  refine call_B (v_isDir _) (by simp -implicitDefEqProofs (disch := omega) only [go_sem, ↓reduceIte, deep, TD.rows, immLL_rI, immLL_rB8, immLL_rS, immLL_rBo, immLL_rII, immLL_rIIt, h2, ha, hb, h3, List.length_map, Int.toNat_natCast, Int.ofNat_lt, Int.natCast_nonneg, List.getElem?_map, Option.map_some, hla, e1, rI, h5, hlb, e2, Bool.not_not]; exact rfl) ?_; simp -implicitDefEqProofs (disch := omega) only [go_sem, ↓reduceIte , h2, ha, hb, h3, List.length_map, Int.toNat_natCast, Int.ofNat_lt, Int.natCast_nonneg, List.getElem?_map, Option.map_some, hla, e1, rI, h5, hlb, e2, Bool.not_not]
theorem v_signalsOk (t : SignalTile) (h4 : t.Sides.length = 4) (hn : t.On.length ≤ 1048576) (hf : t.Fires.length ≤ 1048576) : Contract Tryz.prog NoG 53 [.agg (SignalTile.td.d false t)] (.v (.bool (okSig t))) := by
  rw [SignalTile.td_d]; refine law_impl_SignalTile_signalsOk ?_; unfold code_impl_SignalTile_signalsOk okSig; by_cases c1 : t.On.length = 4
  · have d1 : (!decide ((t.On.length : Int) = 4)) = false := (by simp [c1]); by_cases c2 : t.Fires.length ≤ 6
    · have d2 : decide ((6 : Int) < (t.Fires.length : Int)) = false := (by rw [decide_eq_false_iff_not]; omega); rw [decide_eq_true c1, decide_eq_true c2]; simp -implicitDefEqProofs (disch := omega) only [go_sem, ↓reduceIte , List.length_map, d1, d2]; refine loop_ov (by simp -implicitDefEqProofs (disch := omega) only [go_sem, ↓reduceIte]; exact rfl) (fun i : Nat => [(18, .v (.int .i64 (i : Nat)))]) (fun _ => by simp only [ovr_nil, ovr_cons, List.set_cons_zero, List.set_cons_succ]; exact rfl) (fun i : Nat => i ≤ t.On.length ∧ (List.range i).all (okOn t) = true) (fun i : Nat => t.On.length - i) (0) (nleA) (?_) ?_
      · exact ⟨Nat.zero_le _, rfl⟩
      rintro i ⟨hi, hok⟩; simp -implicitDefEqProofs (disch := omega) only [go_sem, ↓reduceIte , List.length_map, Int.toNat_natCast, Int.ofNat_lt, Int.natCast_nonneg, List.getElem?_map, Option.map_some]; refine cond_split ?_ ?_ <;> intro hlt
      · have hlt : i < t.On.length := (by simpa using hlt); have e1 := List.getElem?_eq_getElem hlt; have hl4 : i < t.Sides.length := (by omega); have e2 := List.getElem?_eq_getElem hl4; have hon := okOn_at hlt hl4; cases ho : t.On[i] with
        | false => have hnx : (List.range (i + 1)).all (okOn t) = true := (by rw [range_all_next, hok, hon, ho]; rfl); simp -implicitDefEqProofs (disch := omega) only [go_sem, ↓reduceIte , List.length_map, Int.toNat_natCast, Int.ofNat_lt, Int.natCast_nonneg, List.getElem?_map, Option.map_some, hlt, e1, rBo, ho, wrN]; exact ⟨i + 1, by omega, ⟨hlt, hnx⟩, nleA⟩
        | true =>
          cases hz : decide (t.Sides[i] = 0) with
          | false => have hnx : (List.range (i + 1)).all (okOn t) = true := (by rw [range_all_next, hok, hon, ho, hz]; rfl); simp -implicitDefEqProofs (disch := omega) only [go_sem, ↓reduceIte , List.length_map, Int.toNat_natCast, Int.ofNat_lt, Int.natCast_nonneg, List.getElem?_map, Option.map_some, hlt, e1, rBo, ho, hl4, e2, rI, hz, wrN]; exact ⟨i + 1, by omega, ⟨hlt, hnx⟩, nleA⟩
          | true =>
            have hno : on4 t = false := range_all_not (by omega : i < 4) (by rw [hon, ho, hz]; rfl); simp -implicitDefEqProofs (disch := omega) only [go_sem, ↓reduceIte , List.length_map, Int.toNat_natCast, Int.ofNat_lt, Int.natCast_nonneg, List.getElem?_map, Option.map_some, hlt, e1, rBo, ho, hl4, e2, rI, hz, hno]
            skip
      · obtain rfl : i = t.On.length := (by have : ¬ i < t.On.length := (by simpa using hlt); omega); rw [c1] at hok; have hok : on4 t = true := hok; simp -implicitDefEqProofs (disch := omega) only [go_sem, ↓reduceIte]; refine call_B (v_ContainsFunc_Fire _ [.iptr (SignalTile.td.d false t) 0] ⟨rfl, fun _ => rfl, fun _ => rfl, fun _ => rfl⟩ t.Fires (fun f => !okFire t.Sides f) (fun x _ => v_fire t x h4) (by omega)) (by simp -implicitDefEqProofs (disch := omega) only [go_sem, ↓reduceIte, deep, TD.rows, immLL_rI, immLL_rB8, immLL_rS, immLL_rBo, immLL_rII, immLL_rIIt, any_not, Bool.not_not, hok]; exact rfl) ?_; simp -implicitDefEqProofs (disch := omega) only [go_sem, ↓reduceIte , any_not, Bool.not_not, hok]
    · have d2 : decide ((6 : Int) < (t.Fires.length : Int)) = true := (by rw [decide_eq_true_eq]; omega); rw [decide_eq_true c1, decide_eq_false c2]; simp -implicitDefEqProofs (disch := omega) only [go_sem, ↓reduceIte , List.length_map, d1, d2]
  · have d1 : (!decide ((t.On.length : Int) = 4)) = true := (by simp; omega); rw [decide_eq_false c1]; simp -implicitDefEqProofs (disch := omega) only [go_sem, ↓reduceIte , List.length_map, d1]
theorem v_ValidSignalSet1 (t : SignalTile) (h4 : t.Sides.length = 4) (hn : t.On.length ≤ 1048576) (hf : t.Fires.length ≤ 1048576) : Contract Tryz.prog NoG 52 [.agg (SignalTile.td.d false t)] (.v (.bool (!okSig t))) := by rw [SignalTile.td_d]; refine law_impl_ValidSignalSet_1 ?_; unfold code_impl_ValidSignalSet_1; simp -implicitDefEqProofs (disch := omega) only [go_sem, ↓reduceIte]; refine call_B (v_signalsOk t h4 hn hf) (by simp -implicitDefEqProofs (disch := omega) only [go_sem, ↓reduceIte, deep, TD.rows, immLL_rI, immLL_rB8, immLL_rS, immLL_rBo, immLL_rII, immLL_rIIt]; exact rfl) ?_; simp -implicitDefEqProofs (disch := omega) only [go_sem, ↓reduceIte]
theorem v_ValidSignalSet (s : SignalSet) (hb : sigB s) : Contract Tryz.prog NoG 27 [.agg (SignalSet.td.d false s)] (.v (.bool (okSigSet s))) := by
  have ht := hb.t; rw [SignalSet.td_d]; refine law_impl_ValidSignalSet ?_; unfold code_impl_ValidSignalSet okSigSet; simp -implicitDefEqProofs (disch := omega) only [go_sem, ↓reduceIte]; cases h1 : okSet (plS s) with
  | false =>
    refine call_B (v_plain s hb) (by simp -implicitDefEqProofs (disch := omega) only [go_sem, ↓reduceIte, deep, TD.rows, immLL_rI, immLL_rB8, immLL_rS, immLL_rBo, immLL_rII, immLL_rIIt]; exact rfl) ?_; simp -implicitDefEqProofs (disch := omega) only [go_sem, ↓reduceIte]; refine call_B (v_ValidSet (plS s) hb.b) (by simp -implicitDefEqProofs (disch := omega) only [go_sem, ↓reduceIte, deep, TD.rows, immLL_rI, immLL_rB8, immLL_rS, immLL_rBo, immLL_rII, immLL_rIIt, h1]; exact rfl) ?_; simp -implicitDefEqProofs (disch := omega) only [go_sem, ↓reduceIte , h1]
    skip
  | true => refine call_B (v_plain s hb) (by simp -implicitDefEqProofs (disch := omega) only [go_sem, ↓reduceIte, deep, TD.rows, immLL_rI, immLL_rB8, immLL_rS, immLL_rBo, immLL_rII, immLL_rIIt]; exact rfl) ?_; simp -implicitDefEqProofs (disch := omega) only [go_sem, ↓reduceIte]; refine call_B (v_ValidSet (plS s) hb.b) (by simp -implicitDefEqProofs (disch := omega) only [go_sem, ↓reduceIte, deep, TD.rows, immLL_rI, immLL_rB8, immLL_rS, immLL_rBo, immLL_rII, immLL_rIIt, h1]; exact rfl) ?_; simp -implicitDefEqProofs (disch := omega) only [go_sem, ↓reduceIte , h1]; refine call_B (v_ContainsFunc_SignalTile _ [] ⟨rfl, fun _ => rfl, fun _ => rfl, fun _ => rfl⟩ s.Tiles (fun t => !okSig t) (fun x hx => v_ValidSignalSet1 x (pl_sides h1 hx) (hb.x x hx).2.1 (hb.x x hx).2.2) (by omega)) (by simp -implicitDefEqProofs (disch := omega) only [go_sem, ↓reduceIte, deep, TD.rows, immLL_rI, immLL_rB8, immLL_rS, immLL_rBo, immLL_rII, immLL_rIIt, any_not, Bool.not_not]; exact rfl) ?_; simp -implicitDefEqProofs (disch := omega) only [go_sem, ↓reduceIte , any_not, Bool.not_not]
def code_spec_l31Set : VCode := (.seq (.ops [
  ⟨(some 2), none, (.asg (.const (.bool false)))⟩]) (.seq (.ops [
  ⟨(some 9), none, (.mv (.tmp 0))⟩,
  ⟨(some 10), none, (.callX 20 [(.tmp 9)])⟩,
  ⟨(some 3), none, (.alloc [(.slice none 0 0), (.slice none 0 0)])⟩,
  ⟨none, none, (.store 2 (.tmp 3) (.tmp 10))⟩]) (.seq (.seq (.ops [
  ⟨(some 11), none, (.callX 43 [(.tmp 3)])⟩,
  ⟨(some 12), none, (.un .not (.tmp 11))⟩]) (.cond (.tmp 12) (.seq (.ops [
  ⟨(some 2), none, (.asg (.const (.bool false)))⟩]) .ret) .skip)) (.seq (.seq (.ops [
  ⟨(some 4), none, (.asg (.const (.int .i64 0)))⟩]) (.block 0 (.loop (mB 118 332306998946228968225951765070086126) (.seq (.seq (.ops [
  ⟨(some 13), none, (.mv (.tmp 4))⟩,
  ⟨(some 14), none, (.mv (.tmp 0))⟩,
  ⟨(some 15), none, (.nilc (.tmp 14))⟩,
  ⟨(some 16), none, (.fa 1 (.tmp 15))⟩,
  ⟨(some 17), none, (.load 1 false (.tmp 16))⟩,
  ⟨(some 18), none, (.len (.tmp 17))⟩,
  ⟨(some 19), none, (.bin .lss (.tmp 13) (.tmp 18))⟩]) (.cond (.tmp 19) .skip (.exit 0))) (.seq (.block 1 (.seq (.ops [
  ⟨(some 22), none, (.mv (.tmp 0))⟩,
  ⟨(some 23), none, (.nilc (.tmp 22))⟩,
  ⟨(some 24), none, (.fa 1 (.tmp 23))⟩,
  ⟨(some 25), none, (.load 1 false (.tmp 24))⟩,
  ⟨(some 26), none, (.mv (.tmp 4))⟩,
  ⟨(some 27), none, (.ia 4 (.tmp 25) (.tmp 26))⟩,
  ⟨(some 5), none, (.asg (.tmp 27))⟩]) (.seq (.seq (.ops [
  ⟨(some 28), none, (.mv (.tmp 5))⟩,
  ⟨(some 29), none, (.nilc (.tmp 28))⟩,
  ⟨(some 30), none, (.fa 2 (.tmp 29))⟩,
  ⟨(some 31), none, (.load 1 false (.tmp 30))⟩,
  ⟨(some 32), none, (.len (.tmp 31))⟩,
  ⟨(some 33), none, (.bin .neq (.tmp 32) (.const (.int .i64 4)))⟩,
  ⟨(some 34), none, (.mv (.tmp 33))⟩,
  ⟨(some 35), (some (34, false)), (.mv (.tmp 5))⟩,
  ⟨(some 36), (some (34, false)), (.nilc (.tmp 35))⟩,
  ⟨(some 37), (some (34, false)), (.fa 3 (.tmp 36))⟩,
  ⟨(some 38), (some (34, false)), (.load 1 false (.tmp 37))⟩,
  ⟨(some 39), (some (34, false)), (.len (.tmp 38))⟩,
  ⟨(some 40), (some (34, false)), (.bin .gtr (.tmp 39) (.const (.int .i64 6)))⟩,
  ⟨(some 41), none, (.pick (.tmp 34) (.const (.bool true)) (.tmp 40))⟩]) (.cond (.tmp 41) (.seq (.ops [
  ⟨(some 2), none, (.asg (.const (.bool false)))⟩]) .ret) .skip)) (.seq (.seq (.ops [
  ⟨(some 6), none, (.asg (.const (.int .i64 0)))⟩]) (.block 2 (.loop (mB 118 332306998946228968225951764872953742) (.seq (.seq (.ops [
  ⟨(some 42), none, (.mv (.tmp 6))⟩,
  ⟨(some 43), none, (.bin .lss (.tmp 42) (.const (.int .i64 4)))⟩]) (.cond (.tmp 43) .skip (.exit 2))) (.seq (.block 3 (.seq (.ops [
  ⟨(some 46), none, (.mv (.tmp 5))⟩,
  ⟨(some 47), none, (.nilc (.tmp 46))⟩,
  ⟨(some 48), none, (.fa 2 (.tmp 47))⟩,
  ⟨(some 49), none, (.load 1 false (.tmp 48))⟩,
  ⟨(some 50), none, (.mv (.tmp 6))⟩,
  ⟨(some 51), none, (.ia 1 (.tmp 49) (.tmp 50))⟩,
  ⟨(some 52), none, (.load 1 false (.tmp 51))⟩,
  ⟨(some 53), none, (.mv (.tmp 52))⟩,
  ⟨(some 54), (some (53, true)), (.mv (.tmp 5))⟩,
  ⟨(some 55), (some (53, true)), (.nilc (.tmp 54))⟩,
  ⟨(some 56), (some (53, true)), (.fa 1 (.tmp 55))⟩,
  ⟨(some 57), (some (53, true)), (.load 1 false (.tmp 56))⟩,
  ⟨(some 58), (some (53, true)), (.mv (.tmp 6))⟩,
  ⟨(some 59), (some (53, true)), (.ia 1 (.tmp 57) (.tmp 58))⟩,
  ⟨(some 60), (some (53, true)), (.load 1 false (.tmp 59))⟩,
  ⟨(some 61), (some (53, true)), (.bin .eql (.tmp 60) (.const (.int .i64 0)))⟩,
  ⟨(some 62), none, (.pick (.tmp 53) (.tmp 61) (.const (.bool false)))⟩]) (.cond (.tmp 62) (.seq (.ops [
  ⟨(some 2), none, (.asg (.const (.bool false)))⟩]) .ret) .skip))) (.ops [
  ⟨(some 44), none, (.mv (.tmp 6))⟩,
  ⟨(some 45), none, (.bin .add (.tmp 44) (.const (.int .i64 1)))⟩,
  ⟨(some 6), none, (.asg (.tmp 45))⟩])))))) (.seq (.ops [
  ⟨(some 7), none, (.asg (.const (.int .i64 0)))⟩]) (.block 4 (.loop (mB 118 332306998946228968225951764872953678) (.seq (.seq (.ops [
  ⟨(some 63), none, (.mv (.tmp 7))⟩,
  ⟨(some 64), none, (.mv (.tmp 5))⟩,
  ⟨(some 65), none, (.nilc (.tmp 64))⟩,
  ⟨(some 66), none, (.fa 3 (.tmp 65))⟩,
  ⟨(some 67), none, (.load 1 false (.tmp 66))⟩,
  ⟨(some 68), none, (.len (.tmp 67))⟩,
  ⟨(some 69), none, (.bin .lss (.tmp 63) (.tmp 68))⟩]) (.cond (.tmp 69) .skip (.exit 4))) (.seq (.block 5 (.seq (.ops [
  ⟨(some 72), none, (.mv (.tmp 5))⟩,
  ⟨(some 73), none, (.nilc (.tmp 72))⟩,
  ⟨(some 74), none, (.fa 3 (.tmp 73))⟩,
  ⟨(some 75), none, (.load 1 false (.tmp 74))⟩,
  ⟨(some 76), none, (.mv (.tmp 7))⟩,
  ⟨(some 77), none, (.ia 2 (.tmp 75) (.tmp 76))⟩,
  ⟨(some 78), none, (.load 2 true (.tmp 77))⟩,
  ⟨(some 8), none, (.alloc [(.int .i64 0), (.int .i64 0)])⟩,
  ⟨none, none, (.store 2 (.tmp 8) (.tmp 78))⟩]) (.seq (.draw (mB 114 20769187433534847604314670729527296) [] [⟨0, (mB 114 20769187433534847604314670729527296), [], ⟨(some 79), none, (.fa 0 (.tmp 8))⟩⟩, ⟨1, (mB 114 20769187432930384694507356142174208), [], ⟨(some 80), none, (.load 1 false (.tmp 79))⟩⟩, ⟨2, (mB 114 20769187431721458874892726967468032), [], ⟨(some 81), none, (.call 44 [(.tmp 80), (.const (.int .i64 0)), (.const (.int .i64 3))])⟩⟩, ⟨3, (mB 114 20769187429303607235663468618055680), [], ⟨(some 82), none, (.un .not (.tmp 81))⟩⟩, ⟨4, (mB 114 20769187424467903957204951919230976), [], ⟨(some 83), none, (.mv (.tmp 82))⟩⟩, ⟨5, (mB 114 20769187414796497400287918521581568), [], ⟨(some 84), (some (83, false)), (.fa 1 (.tmp 8))⟩⟩, ⟨6, (mB 114 20769187395453684286453851726282752), [], ⟨(some 85), (some (83, false)), (.load 1 false (.tmp 84))⟩⟩, ⟨7, (mB 114 20769187356768058058785718135685120), [], ⟨(some 86), (some (83, false)), (.call 44 [(.tmp 85), (.const (.int .i64 0)), (.const (.int .i64 3))])⟩⟩, ⟨8, (mB 114 20769187279396805603449450954489856), [], ⟨(some 87), (some (83, false)), (.un .not (.tmp 86))⟩⟩, ⟨9, (mB 114 20769187124654300692776916592099328), [], ⟨(some 88), none, (.pick (.tmp 83) (.const (.bool true)) (.tmp 87))⟩⟩, ⟨10, (mB 114 20769186815169290871431847867318272), [], ⟨(some 89), none, (.mv (.tmp 88))⟩⟩, ⟨11, (mB 114 20769186196199271228741710417756160), [], ⟨(some 90), (some (89, false)), (.fa 0 (.tmp 8))⟩⟩, ⟨12, (mB 114 20769184958259231943361435518631936), [], ⟨(some 91), (some (89, false)), (.load 1 false (.tmp 90))⟩⟩, ⟨13, (mB 114 20769186196199271228741710417756160), [], ⟨(some 92), (some (89, false)), (.fa 1 (.tmp 8))⟩⟩, ⟨14, (mB 114 20769181244439114087220610821259264), [], ⟨(some 93), (some (89, false)), (.load 1 false (.tmp 92))⟩⟩, ⟨15, (mB 114 20769167627098681948037586930892800), [], ⟨(some 94), (some (89, false)), (.bin .eql (.tmp 91) (.tmp 93))⟩⟩, ⟨16, (mB 114 20769147820058053381953188544905216), [], ⟨(some 95), none, (.pick (.tmp 89) (.const (.bool true)) (.tmp 94))⟩⟩, ⟨17, (mB 114 20769108205976796249784391772930048), [], ⟨(some 96), none, (.mv (.tmp 95))⟩⟩, ⟨18, (mB 114 20769028977814281985446798228979712), [], ⟨(some 97), (some (96, false)), (.mv (.tmp 5))⟩⟩, ⟨19, (mB 114 20768870521489253456771611141079040), [], ⟨(some 98), (some (96, false)), (.nilc (.tmp 97))⟩⟩, ⟨20, (mB 114 20768553608839196399421236965277696), [], ⟨(some 99), (some (96, false)), (.fa 1 (.tmp 98))⟩⟩, ⟨21, (mB 114 20767919783539082284720488613675008), [], ⟨(some 100), (some (96, false)), (.load 1 false (.tmp 99))⟩⟩, ⟨22, (mB 114 20769028977814281985446798228979712), [], ⟨(some 101), (some (96, false)), (.fa 0 (.tmp 8))⟩⟩, ⟨23, (mB 114 20766493676613825526643804822568960), [], ⟨(some 102), (some (96, false)), (.load 1 false (.tmp 101))⟩⟩, ⟨24, (mB 114 20759046229337484678910011691237376), [], ⟨(some 103), (some (96, false)), (.ia 1 (.tmp 100) (.tmp 102))⟩⟩, ⟨25, (mB 114 20748905024535658843698038065594368), [], ⟨(some 104), (some (96, false)), (.load 1 false (.tmp 103))⟩⟩, ⟨26, (mB 114 20728622614932007173274090814308352), [], ⟨(some 105), (some (96, false)), (.bin .eql (.tmp 104) (.const (.int .i64 0)))⟩⟩, ⟨27, (mB 114 20688057795724703832426196311736320), [], ⟨(some 106), none, (.pick (.tmp 96) (.const (.bool true)) (.tmp 105))⟩⟩, ⟨28, (mB 114 20606928157310097150730407306592256), [], ⟨(some 107), none, (.mv (.tmp 106))⟩⟩, ⟨29, (mB 114 20444668880480883787338829296304128), [], ⟨(some 108), (some (107, false)), (.mv (.tmp 5))⟩⟩, ⟨30, (mB 114 20120150326822457060555673275727872), [], ⟨(some 109), (some (107, false)), (.nilc (.tmp 108))⟩⟩, ⟨31, (mB 114 19471113219505603606989361234575360), [], ⟨(some 110), (some (107, false)), (.fa 1 (.tmp 109))⟩⟩, ⟨32, (mB 114 18173039004871896699856737152270336), [], ⟨(some 111), (some (107, false)), (.load 1 false (.tmp 110))⟩⟩, ⟨33, (mB 114 20444668880480883787338829296304128), [], ⟨(some 112), (some (107, false)), (.fa 1 (.tmp 8))⟩⟩, ⟨34, (mB 114 15252372021946056158808332967084032), [], ⟨(some 113), (some (107, false)), (.load 1 false (.tmp 112))⟩⟩] [⟨(some 114), (some (107, false)), (.ia 1 (.tmp 111) (.tmp 113))⟩, ⟨(some 115), (some (107, false)), (.load 1 false (.tmp 114))⟩, ⟨(some 116), (some (107, false)), (.bin .eql (.tmp 115) (.const (.int .i64 0)))⟩, ⟨(some 117), none, (.pick (.tmp 107) (.const (.bool true)) (.tmp 116))⟩]) (.cond (.tmp 117) (.seq (.ops [
  ⟨(some 2), none, (.asg (.const (.bool false)))⟩]) .ret) .skip)))) (.ops [
  ⟨(some 70), none, (.mv (.tmp 7))⟩,
  ⟨(some 71), none, (.bin .add (.tmp 70) (.const (.int .i64 1)))⟩,
  ⟨(some 7), none, (.asg (.tmp 71))⟩])))))))))) (.ops [
  ⟨(some 20), none, (.mv (.tmp 4))⟩,
  ⟨(some 21), none, (.bin .add (.tmp 20) (.const (.int .i64 1)))⟩,
  ⟨(some 4), none, (.asg (.tmp 21))⟩])))))) (.seq (.ops [
  ⟨(some 2), none, (.asg (.const (.bool true)))⟩]) .ret)))))
theorem law_spec_l31Set {a0 d : D} (h : code_spec_l31Set.wp (CT Tryz.prog NoG) (endQ [(.t 2)] d) [a0, .undef, .undef, .undef, .undef, .undef, .undef, .undef, .undef, .undef, .undef, .undef, .undef, .undef, .undef, .undef, .undef, .undef, .undef, .undef, .undef, .undef, .undef, .undef, .undef, .undef, .undef, .undef, .undef, .undef, .undef, .undef, .undef, .undef, .undef, .undef, .undef, .undef, .undef, .undef, .undef, .undef, .undef, .undef, .undef, .undef, .undef, .undef, .undef, .undef, .undef, .undef, .undef, .undef, .undef, .undef, .undef, .undef, .undef, .undef, .undef, .undef, .undef, .undef, .undef, .undef, .undef, .undef, .undef, .undef, .undef, .undef, .undef, .undef, .undef, .undef, .undef, .undef, .undef, .undef, .undef, .undef, .undef, .undef, .undef, .undef, .undef, .undef, .undef, .undef, .undef, .undef, .undef, .undef, .undef, .undef, .undef, .undef, .undef, .undef, .undef, .undef, .undef, .undef, .undef, .undef, .undef, .undef, .undef, .undef, .undef, .undef, .undef, .undef, .undef, .undef, .undef, .undef]) : Contract Tryz.prog NoG 21 [a0] d :=
  contract_of (pt := 0) noG Tryz.func21 (fun us W => by kernel_rfl) (c := Tryz.f21.body.getD .skip) (ms := [(mB 118 332306998946228968225951765070086126), (mB 118 332306998946228968225951764872953742), (mB 118 332306998946228968225951764872953678)]) (ms' := []) (by kernel_rfl) (by kernel_rfl) (by kernel_rfl) h
set_option maxHeartbeats 4000000 in
theorem v_l31Set (s : SignalSet) (hb : sigB s) : Contract Tryz.prog NoG 21 [.iptr (SignalSet.td.d false s) 0] (.v (.bool (okSigSet s))) := by
  have ht := hb.t; rw [SignalSet.td_d]; refine law_spec_l31Set ?_; unfold code_spec_l31Set; simp -implicitDefEqProofs (disch := omega) only [go_sem, ↓reduceIte]; cases h1 : okSet (plS s) with
  | false =>
    refine call_B (v_l31Plain s hb) (by simp -implicitDefEqProofs (disch := omega) only [go_sem, ↓reduceIte, deep, TD.rows, immLL_rI, immLL_rB8, immLL_rS, immLL_rBo, immLL_rII, immLL_rIIt, TileSet.td_d]; exact rfl) ?_; simp -implicitDefEqProofs (disch := omega) only [go_sem, ↓reduceIte , TileSet.td_d]; refine call_B (v_l02Ok (plS s) hb.b) (by simp -implicitDefEqProofs (disch := omega) only [go_sem, ↓reduceIte, deep, TD.rows, immLL_rI, immLL_rB8, immLL_rS, immLL_rBo, immLL_rII, immLL_rIIt, h1, okSigSet]; exact rfl) ?_; simp -implicitDefEqProofs (disch := omega) only [go_sem, ↓reduceIte , h1, okSigSet]
    skip
  | true =>
  refine call_B (v_l31Plain s hb) (by simp -implicitDefEqProofs (disch := omega) only [go_sem, ↓reduceIte, deep, TD.rows, immLL_rI, immLL_rB8, immLL_rS, immLL_rBo, immLL_rII, immLL_rIIt, TileSet.td_d]; exact rfl) ?_; simp -implicitDefEqProofs (disch := omega) only [go_sem, ↓reduceIte , TileSet.td_d]; refine call_B (v_l02Ok (plS s) hb.b) (by simp -implicitDefEqProofs (disch := omega) only [go_sem, ↓reduceIte, deep, TD.rows, immLL_rI, immLL_rB8, immLL_rS, immLL_rBo, immLL_rII, immLL_rIIt, h1]; exact rfl) ?_; simp -implicitDefEqProofs (disch := omega) only [go_sem, ↓reduceIte , h1]; refine loop_ov (by simp -implicitDefEqProofs (disch := omega) only [go_sem, ↓reduceIte]; exact rfl) (fun i : Nat => [(4, .v (.int .i64 (i : Nat)))]) (fun _ => by simp only [ovr_nil, ovr_cons, List.set_cons_zero, List.set_cons_succ]; exact rfl) (fun i : Nat => i ≤ s.Tiles.length ∧ (s.Tiles.take i).all okSig = true) (fun i : Nat => s.Tiles.length - i) (0) (nleA) (?_) ?_
  · exact ⟨Nat.zero_le _, by simp⟩
  rintro i ⟨hi, hok⟩; simp -implicitDefEqProofs (disch := omega) only [go_sem, ↓reduceIte , List.length_map, Int.toNat_natCast, Int.ofNat_lt, Int.natCast_nonneg, List.getElem?_map, Option.map_some]; refine cond_split ?_ ?_ <;> intro hlt
  · have hlt : i < s.Tiles.length := (by simpa using hlt); have e1 := List.getElem?_eq_getElem hlt; have hx := hb.x _ (List.getElem_mem hlt); have h4 := pl_sides h1 (List.getElem_mem hlt); have hall : okSig s.Tiles[i] = false → okSigSet s = false := fun h => by unfold okSigSet; rw [all_not hlt h, Bool.and_false]
    have hnx : okSig s.Tiles[i] = true → (s.Tiles.take (i + 1)).all okSig = true := fun h => by rw [← take_next hlt, List.all_append, hok, List.all_cons, h]; rfl
    generalize s.Tiles[i] = t at e1 hx h4 hall hnx; obtain ⟨_, hx2, hx3⟩ := hx; by_cases c1 : t.On.length = 4
    · have d1 : (!decide ((t.On.length : Int) = 4)) = false := (by simp [c1]); by_cases c2 : t.Fires.length ≤ 6
      · have d2 : decide ((6 : Int) < (t.Fires.length : Int)) = false := (by rw [decide_eq_false_iff_not]; omega); have hsig : okSig t = (on4 t && t.Fires.all (okFire t.Sides)) := (by unfold okSig; rw [decide_eq_true c1, decide_eq_true c2]; rfl); simp -implicitDefEqProofs (disch := omega) only [go_sem, ↓reduceIte , List.length_map, Int.toNat_natCast, Int.ofNat_lt, Int.natCast_nonneg, List.getElem?_map, Option.map_some, hlt, e1, SignalTile.td_d, d1, d2]; refine loop_ov (by simp -implicitDefEqProofs (disch := omega) only [go_sem, ↓reduceIte]; exact rfl) (fun j : Nat => [(6, .v (.int .i64 (j : Nat)))]) (fun _ => by simp only [ovr_nil, ovr_cons, List.set_cons_zero, List.set_cons_succ]; exact rfl) (fun j : Nat => j ≤ 4 ∧ (List.range j).all (okOn t) = true) (fun j : Nat => 4 - j) (0) (nleA) (?_) ?_
        · exact ⟨Nat.zero_le _, rfl⟩
        rintro j ⟨hj, hon⟩; simp -implicitDefEqProofs (disch := omega) only [go_sem, ↓reduceIte , List.length_map, Int.toNat_natCast, Int.ofNat_lt, Int.natCast_nonneg, List.getElem?_map, Option.map_some]; refine cond_split ?_ ?_ <;> intro hl
        · have hl : j < 4 := (by rw [decide_eq_true_eq] at hl; omega); have hlo : j < t.On.length := (by omega); have hls : j < t.Sides.length := (by omega); have e3 := List.getElem?_eq_getElem hlo; have e4 := List.getElem?_eq_getElem hls; have hno := okOn_at hlo hls; cases ho : t.On[j] with
          | false => have hnj : (List.range (j + 1)).all (okOn t) = true := (by rw [range_all_next, hon, hno, ho]; rfl); simp -implicitDefEqProofs (disch := omega) only [go_sem, ↓reduceIte , List.length_map, Int.toNat_natCast, Int.ofNat_lt, Int.natCast_nonneg, List.getElem?_map, Option.map_some, hlo, e3, rBo, ho, wrN]; exact ⟨j + 1, by omega, ⟨hl, hnj⟩, nleA⟩
          | true =>
            cases hz : decide (t.Sides[j] = 0) with
            | false => have hnj : (List.range (j + 1)).all (okOn t) = true := (by rw [range_all_next, hon, hno, ho, hz]; rfl); simp -implicitDefEqProofs (disch := omega) only [go_sem, ↓reduceIte , List.length_map, Int.toNat_natCast, Int.ofNat_lt, Int.natCast_nonneg, List.getElem?_map, Option.map_some, hlo, e3, rBo, ho, hls, e4, rI, hz, wrN]; exact ⟨j + 1, by omega, ⟨hl, hnj⟩, nleA⟩
            | true =>
              have hbad : on4 t = false := range_all_not hl (by rw [hno, ho, hz]; rfl); have hbs := hall (by rw [hsig, hbad]; rfl); simp -implicitDefEqProofs (disch := omega) only [go_sem, ↓reduceIte , List.length_map, Int.toNat_natCast, Int.ofNat_lt, Int.natCast_nonneg, List.getElem?_map, Option.map_some, hlo, e3, rBo, ho, hls, e4, rI, hz, hbs]
              skip
        · have hj4 : j = 4 := (by rw [decide_eq_false_iff_not] at hl; omega); subst hj4; simp -implicitDefEqProofs (disch := omega) only [go_sem, ↓reduceIte]; refine loop_ov (by simp -implicitDefEqProofs (disch := omega) only [go_sem, ↓reduceIte]; exact rfl) (fun k : Nat => [(7, .v (.int .i64 (k : Nat)))]) (fun _ => by simp only [ovr_nil, ovr_cons, List.set_cons_zero, List.set_cons_succ]; exact rfl) (fun k : Nat => k ≤ t.Fires.length ∧ (t.Fires.take k).all (okFire t.Sides) = true) (fun k : Nat => t.Fires.length - k) (0) (nleA) (?_) ?_
          · exact ⟨Nat.zero_le _, by simp⟩
          rintro k ⟨hk, hf⟩; simp -implicitDefEqProofs (disch := omega) only [go_sem, ↓reduceIte , List.length_map, Int.toNat_natCast, Int.ofNat_lt, Int.natCast_nonneg, List.getElem?_map, Option.map_some]; refine cond_split ?_ ?_ <;> intro hl
          · have hl : k < t.Fires.length := (by simpa using hl); have e3 := List.getElem?_eq_getElem hl; have hbf : okFire t.Sides t.Fires[k] = false → okSigSet s = false := fun h => hall (by rw [hsig, all_not hl h, Bool.and_false]); have hnf : okFire t.Sides t.Fires[k] = true → (t.Fires.take (k + 1)).all (okFire t.Sides) = true := fun h => by rw [← take_next hl, List.all_append, hf, List.all_cons, h]; rfl
            generalize t.Fires[k] = f at e3 hbf hnf; unfold okFire at hbf hnf; cases f1 : inR 0 3 f.From with
            | false =>
              have hbs := hbf (by rw [f1]; rfl); simp -implicitDefEqProofs (disch := omega) only [go_sem, ↓reduceIte , List.length_map, Int.toNat_natCast, Int.ofNat_lt, Int.natCast_nonneg, List.getElem?_map, Option.map_some, hl, e3, Fire.td_d]; refine call_NB (v_l00In _ _ _) (by simp -implicitDefEqProofs (disch := omega) only [go_sem, ↓reduceIte, deep, TD.rows, immLL_rI, immLL_rB8, immLL_rS, immLL_rBo, immLL_rII, immLL_rIIt, f1, hbs]; exact rfl) ?_; simp -implicitDefEqProofs (disch := omega) only [go_sem, ↓reduceIte , f1, hbs]
              skip
            | true =>
            obtain ⟨a1, a2⟩ := inR_iff.1 f1; cases f2 : inR 0 3 f.To with
            | false =>
              have hbs := hbf (by rw [f1, f2]; rfl); simp -implicitDefEqProofs (disch := omega) only [go_sem, ↓reduceIte , List.length_map, Int.toNat_natCast, Int.ofNat_lt, Int.natCast_nonneg, List.getElem?_map, Option.map_some, hl, e3, Fire.td_d]; refine call_NB (v_l00In _ _ _) (by simp -implicitDefEqProofs (disch := omega) only [go_sem, ↓reduceIte, deep, TD.rows, immLL_rI, immLL_rB8, immLL_rS, immLL_rBo, immLL_rII, immLL_rIIt, f1]; exact rfl) ?_; simp -implicitDefEqProofs (disch := omega) only [go_sem, ↓reduceIte , f1]; refine call_NB (v_l00In _ _ _) (by simp -implicitDefEqProofs (disch := omega) only [go_sem, ↓reduceIte, deep, TD.rows, immLL_rI, immLL_rB8, immLL_rS, immLL_rBo, immLL_rII, immLL_rIIt, f2, hbs]; exact rfl) ?_; simp -implicitDefEqProofs (disch := omega) only [go_sem, ↓reduceIte , f2, hbs]
              skip
            | true =>
            obtain ⟨b1, b2⟩ := inR_iff.1 f2; obtain ⟨a, ha⟩ : ∃ a : Nat, f.From = (a : Int) := ⟨f.From.toNat, by omega⟩
            obtain ⟨b, hb⟩ : ∃ b : Nat, f.To = (b : Int) := ⟨f.To.toNat, by omega⟩
            have hla : a < t.Sides.length := (by omega); have hlb : b < t.Sides.length := (by omega); have e4 := List.getElem?_eq_getElem hla; have e5 := List.getElem?_eq_getElem hlb; have g1 : t.Sides.getD f.From.toNat 0 = t.Sides[a] := (by rw [ha, Int.toNat_natCast, List.getD_eq_getElem?_getD, e4]; rfl); have g2 : t.Sides.getD f.To.toNat 0 = t.Sides[b] := (by rw [hb, Int.toNat_natCast, List.getD_eq_getElem?_getD, e5]; rfl); rw [g1, g2, ha, hb] at hbf hnf; rw [ha] at f1; rw [hb] at f2; cases f3 : decide ((a : Int) = (b : Int)) with
            | true =>
              have hbs := hbf (by rw [f1, f2, f3]; rfl); simp -implicitDefEqProofs (disch := omega) only [go_sem, ↓reduceIte , List.length_map, Int.toNat_natCast, Int.ofNat_lt, Int.natCast_nonneg, List.getElem?_map, Option.map_some, hl, e3, Fire.td_d, ha, hb]; refine call_NB (v_l00In _ _ _) (by simp -implicitDefEqProofs (disch := omega) only [go_sem, ↓reduceIte, deep, TD.rows, immLL_rI, immLL_rB8, immLL_rS, immLL_rBo, immLL_rII, immLL_rIIt, f1, ha, hb]; exact rfl) ?_; simp -implicitDefEqProofs (disch := omega) only [go_sem, ↓reduceIte , f1, ha, hb]; refine call_NB (v_l00In _ _ _) (by simp -implicitDefEqProofs (disch := omega) only [go_sem, ↓reduceIte, deep, TD.rows, immLL_rI, immLL_rB8, immLL_rS, immLL_rBo, immLL_rII, immLL_rIIt, f2, ha, hb, f3, hbs]; exact rfl) ?_; simp -implicitDefEqProofs (disch := omega) only [go_sem, ↓reduceIte , f2, ha, hb, f3, hbs]
              skip
            | false =>
            cases f4 : decide (t.Sides[a] = 0) with
            | true =>
              have hbs := hbf (by rw [f1, f2, f3, f4]; rfl); simp -implicitDefEqProofs (disch := omega) only [go_sem, ↓reduceIte , List.length_map, Int.toNat_natCast, Int.ofNat_lt, Int.natCast_nonneg, List.getElem?_map, Option.map_some, hl, e3, Fire.td_d, ha, hb]; refine call_NB (v_l00In _ _ _) (by simp -implicitDefEqProofs (disch := omega) only [go_sem, ↓reduceIte, deep, TD.rows, immLL_rI, immLL_rB8, immLL_rS, immLL_rBo, immLL_rII, immLL_rIIt, f1, ha, hb]; exact rfl) ?_; simp -implicitDefEqProofs (disch := omega) only [go_sem, ↓reduceIte , f1, ha, hb]; refine call_NB (v_l00In _ _ _) (by simp -implicitDefEqProofs (disch := omega) only [go_sem, ↓reduceIte, deep, TD.rows, immLL_rI, immLL_rB8, immLL_rS, immLL_rBo, immLL_rII, immLL_rIIt, f2, ha, hb, f3, List.length_map, Int.toNat_natCast, Int.ofNat_lt, Int.natCast_nonneg, List.getElem?_map, Option.map_some, hla, e4, rI, f4, hbs]; exact rfl) ?_; simp -implicitDefEqProofs (disch := omega) only [go_sem, ↓reduceIte , f2, ha, hb, f3, List.length_map, Int.toNat_natCast, Int.ofNat_lt, Int.natCast_nonneg, List.getElem?_map, Option.map_some, hla, e4, rI, f4, hbs]
              skip
            | false =>
            cases f5 : decide (t.Sides[b] = 0) with
            | true =>
              have hbs := hbf (by rw [f1, f2, f3, f4, f5]; rfl); simp -implicitDefEqProofs (disch := omega) only [go_sem, ↓reduceIte , List.length_map, Int.toNat_natCast, Int.ofNat_lt, Int.natCast_nonneg, List.getElem?_map, Option.map_some, hl, e3, Fire.td_d, ha, hb]; refine call_NB (v_l00In _ _ _) (by simp -implicitDefEqProofs (disch := omega) only [go_sem, ↓reduceIte, deep, TD.rows, immLL_rI, immLL_rB8, immLL_rS, immLL_rBo, immLL_rII, immLL_rIIt, f1, ha, hb]; exact rfl) ?_; simp -implicitDefEqProofs (disch := omega) only [go_sem, ↓reduceIte , f1, ha, hb]; refine call_NB (v_l00In _ _ _) (by simp -implicitDefEqProofs (disch := omega) only [go_sem, ↓reduceIte, deep, TD.rows, immLL_rI, immLL_rB8, immLL_rS, immLL_rBo, immLL_rII, immLL_rIIt, f2, ha, hb, f3, List.length_map, Int.toNat_natCast, Int.ofNat_lt, Int.natCast_nonneg, List.getElem?_map, Option.map_some, hla, e4, rI, f4, hlb, e5, f5, hbs]; exact rfl) ?_; simp -implicitDefEqProofs (disch := omega) only [go_sem, ↓reduceIte , f2, ha, hb, f3, List.length_map, Int.toNat_natCast, Int.ofNat_lt, Int.natCast_nonneg, List.getElem?_map, Option.map_some, hla, e4, rI, f4, hlb, e5, f5, hbs]
              skip
            | false => have hnk := hnf (by rw [f1, f2, f3, f4, f5]; rfl); simp -implicitDefEqProofs (disch := omega) only [go_sem, ↓reduceIte , List.length_map, Int.toNat_natCast, Int.ofNat_lt, Int.natCast_nonneg, List.getElem?_map, Option.map_some, hl, e3, Fire.td_d, ha, hb]; refine call_NB (v_l00In _ _ _) (by simp -implicitDefEqProofs (disch := omega) only [go_sem, ↓reduceIte, deep, TD.rows, immLL_rI, immLL_rB8, immLL_rS, immLL_rBo, immLL_rII, immLL_rIIt, f1, ha, hb]; exact rfl) ?_; simp -implicitDefEqProofs (disch := omega) only [go_sem, ↓reduceIte , f1, ha, hb]; refine call_NB (v_l00In _ _ _) (by simp -implicitDefEqProofs (disch := omega) only [go_sem, ↓reduceIte, deep, TD.rows, immLL_rI, immLL_rB8, immLL_rS, immLL_rBo, immLL_rII, immLL_rIIt, f2, ha, hb, f3, List.length_map, Int.toNat_natCast, Int.ofNat_lt, Int.natCast_nonneg, List.getElem?_map, Option.map_some, hla, e4, rI, f4, hlb, e5, f5, wrN]; exact rfl) ?_; simp -implicitDefEqProofs (disch := omega) only [go_sem, ↓reduceIte , f2, ha, hb, f3, List.length_map, Int.toNat_natCast, Int.ofNat_lt, Int.natCast_nonneg, List.getElem?_map, Option.map_some, hla, e4, rI, f4, hlb, e5, f5, wrN]; exact ⟨k + 1, by omega, ⟨hl, hnk⟩, nleA⟩
          · have hke : k = t.Fires.length := (by have : ¬ k < t.Fires.length := (by simpa using hl); omega); subst hke; rw [List.take_length] at hf; have hni := hnx (by rw [hsig, show on4 t = true from hon, hf]; rfl); simp -implicitDefEqProofs (disch := omega) only [go_sem, ↓reduceIte , wrN]; exact ⟨i + 1, by omega, ⟨hlt, hni⟩, nleA⟩
      · have d2 : decide ((6 : Int) < (t.Fires.length : Int)) = true := (by rw [decide_eq_true_eq]; omega); have hbs := hall (by unfold okSig; rw [decide_eq_false c2, Bool.false_and, Bool.and_false]); simp -implicitDefEqProofs (disch := omega) only [go_sem, ↓reduceIte , List.length_map, Int.toNat_natCast, Int.ofNat_lt, Int.natCast_nonneg, List.getElem?_map, Option.map_some, hlt, e1, SignalTile.td_d, d1, d2, hbs]
        skip
    · have d1 : (!decide ((t.On.length : Int) = 4)) = true := (by simp; omega); have hbs := hall (by unfold okSig; rw [decide_eq_false c1, Bool.false_and]); simp -implicitDefEqProofs (disch := omega) only [go_sem, ↓reduceIte , List.length_map, Int.toNat_natCast, Int.ofNat_lt, Int.natCast_nonneg, List.getElem?_map, Option.map_some, hlt, e1, SignalTile.td_d, d1, hbs]
      skip
  · obtain rfl : i = s.Tiles.length := (by have : ¬ i < s.Tiles.length := (by simpa using hlt); omega); rw [List.take_length] at hok; have hyes : okSigSet s = true := (by unfold okSigSet; rw [h1, hok]; rfl); simp -implicitDefEqProofs (disch := omega) only [go_sem, ↓reduceIte , hyes]
    skip
def cellO (s : SignalSet) (p : Placed) : SignalCell := match s.Tiles[p.Tile.toNat]? with
  | some t => ⟨p.At, p.Tile, t.On, List.replicate 4 false, List.replicate t.Fires.length false⟩
  | none => ⟨p.At, p.Tile, [], [], []⟩
def startOK (s : SignalSet) (a : Assembly) : Bool := okSigSet s && okAsm (plS s) a
def StartCellsR (s : SignalSet) (a : Assembly) : List SignalCell := if startOK s a && decide (a.Tiles.length ≤ 80) then a.Tiles.map (cellO s) else []
def StartCellsC (s : SignalSet) (a : Assembly) : Int := if startOK s a then (if a.Tiles.length ≤ 80 then 0 else 4) else 1
theorem cell_eq {s : SignalSet} {p : Placed} {k : Nat} (hk : k < s.Tiles.length) (hp : p.Tile = (k : Int)) : cellO s p = ⟨p.At, p.Tile, s.Tiles[k].On, List.replicate 4 false, List.replicate s.Tiles[k].Fires.length false⟩ := by unfold cellO; rw [hp, Int.toNat_natCast, List.getElem?_eq_getElem hk]
theorem StartCellsR_ok (s : SignalSet) (_ : SignalSet.td.ok s) (_ : SignalSet.cnt s ≤ 1048576) (a : Assembly) (ha : Assembly.td.ok a) (_ : Assembly.cnt a ≤ 1048576) : ∀ y, y ∈ StartCellsR s a → SignalCell.td.ok y := by
  intro y hy; unfold StartCellsR at hy; split at hy
  · obtain ⟨p, hp, rfl⟩ := List.mem_map.1 hy; rw [Assembly.td_ok] at ha; have := ha p hp; rw [Placed.td_ok] at this; rw [SignalCell.td_ok]; unfold cellO; split <;> exact ⟨this.1, this.2, fun _ _ => trivial, fun _ _ => trivial, fun _ _ => trivial⟩
  · cases hy
theorem cnS_mem {α : Type} {f : α → Nat} {K : Nat} : ∀ {xs : List α}, (∀ x, x ∈ xs → f x ≤ K) → cnS f xs ≤ K * xs.length
  | [], _ => by simp [cnS]
  | x :: xs, h => by have h1 := h x (by simp); have h2 := cnS_mem (xs := xs) (fun y hy => h y (by simp [hy])); have h3 : cnS f (x :: xs) = f x + cnS f xs := (by simp [cnS]); rw [List.length_cons, Nat.mul_succ]; omega
theorem StartCellsR_cn (s : SignalSet) (hn : SignalSet.cnt s ≤ 1048576) (a : Assembly) : cnS SignalCell.cnE (StartCellsR s a) ≤ 1000000000000 := by
  have hb := sigB_of hn; have h1 : ∀ y, y ∈ StartCellsR s a → SignalCell.cnE y ≤ 4000000 := by
    intro y hy; unfold StartCellsR at hy; split at hy
    · obtain ⟨p, hp, rfl⟩ := List.mem_map.1 hy; have h2 := SignalCell.cnE_le (cellO s p); have h3 : SignalCell.cnt (cellO s p) = (cellO s p).On.length + (cellO s p).Bound.length + (cellO s p).Fired.length := rfl; unfold cellO at h2 h3 ⊢; split
      · rename_i t ht; have hx := hb.x t (List.mem_of_getElem? ht); simp only [ht] at h2 h3; simp only [List.length_replicate] at h3; have h9 := SignalCell.cnE_le ⟨p.At, p.Tile, t.On, List.replicate 4 false, List.replicate t.Fires.length false⟩; have h8 : SignalCell.cnt ⟨p.At, p.Tile, t.On, List.replicate 4 false, List.replicate t.Fires.length false⟩ = t.On.length + 4 + t.Fires.length := by show t.On.length + (List.replicate 4 false).length + (List.replicate t.Fires.length false).length = _; rw [List.length_replicate, List.length_replicate]
        have h7 : ∀ c : SignalCell, SignalCell.cnE c = 3 + cnS (fun _ => 1) c.On + cnS (fun _ => 1) c.Bound + cnS (fun _ => 1) c.Fired := fun c => by unfold SignalCell.cnE; omega
        have e1 : ∀ bs : List Bool, cnS (fun _ => 1) bs = bs.length := fun bs => by
          induction bs with
          | nil => rfl
          | cons x xs ih => have : cnS (fun _ => 1) (x :: xs) = 1 + cnS (fun _ => 1) xs := (by simp [cnS]); rw [this, ih, List.length_cons]; omega
        rw [h7, e1, e1, e1]; simp only [List.length_replicate]; omega
      · rename_i ht; have : SignalCell.cnE ⟨p.At, p.Tile, [], [], []⟩ = 3 := rfl; omega
    · cases hy
  have h2 := cnS_mem h1; have h3 : (StartCellsR s a).length ≤ 80 := by
    unfold StartCellsR; split
    · rename_i h; simp only [Bool.and_eq_true, decide_eq_true_eq] at h; rw [List.length_map]; exact h.2
    · simp
  have := Nat.mul_le_mul_left 4000000 h3; omega
theorem start_tile {s : SignalSet} {a : Assembly} (h : startOK s a = true) {i : Nat} (hi : i < a.Tiles.length) : ∃ n : Nat, a.Tiles[i].Tile = (n : Int) ∧ n < s.Tiles.length := by
  unfold startOK okAsm at h; simp only [Bool.and_eq_true] at h; have := h.2.2; rw [List.all_eq_true] at this; have := inR_iff.1 (this _ (List.getElem_mem hi)); have hl : (plS s).Tiles.length = s.Tiles.length := by simp [plS]
  rw [hl] at this; exact ⟨a.Tiles[i].Tile.toNat, by omega, by omega⟩
theorem plS_t {s : SignalSet} (hb : sigB s) : (plS s).Tiles.length ≤ 1048576 := by have := hb.t; simpa [plS] using this
def code_impl_SignalSet_newCell : VCode := (.seq (.ops [
  ⟨(some 3), none, (.box (.tmp 0))⟩,
  ⟨(some 4), none, (.box (.tmp 1))⟩,
  ⟨(some 6), none, (.alloc [(.int .i64 0), (.int .i64 0), (.int .i64 0), (.slice none 0 0), (.slice none 0 0), (.slice none 0 0)])⟩]) (.seq (.ops [
  ⟨(some 8), none, (.fa 1 (.tmp 3))⟩,
  ⟨(some 9), none, (.load 1 false (.tmp 8))⟩,
  ⟨(some 10), none, (.mv (.tmp 2))⟩,
  ⟨(some 11), none, (.ia 4 (.tmp 9) (.tmp 10))⟩,
  ⟨(some 12), none, (.load 4 true (.tmp 11))⟩,
  ⟨(some 7), none, (.alloc [(.string ⟨⟨[]⟩⟩), (.slice none 0 0), (.slice none 0 0), (.slice none 0 0)])⟩,
  ⟨none, none, (.store 4 (.tmp 7) (.tmp 12))⟩]) (.seq (.draw (mB 23 8380416) [] [⟨0, (mB 23 8380416), [], ⟨(some 13), none, (.load 2 true (.tmp 4))⟩⟩, ⟨1, (mB 23 8380416), [], ⟨(some 14), none, (.mv (.tmp 2))⟩⟩, ⟨2, (mB 23 8380416), [], ⟨(some 15), none, (.fa 2 (.tmp 7))⟩⟩, ⟨3, (mB 23 8347648), [], ⟨(some 16), none, (.load 1 false (.tmp 15))⟩⟩, ⟨4, (mB 23 8282112), [], ⟨(some 17), none, (.call 60 [(.tmp 16)])⟩⟩, ⟨5, (mB 23 8380416), [], ⟨(some 18), none, (.mks 1 1 [(.bool false)] (.const (.int .i64 4)) (.const (.int .i64 4)))⟩⟩, ⟨6, (mB 23 8380416), [], ⟨(some 19), none, (.fa 3 (.tmp 7))⟩⟩, ⟨7, (mB 23 7856128), [], ⟨(some 20), none, (.load 1 false (.tmp 19))⟩⟩, ⟨8, (mB 23 6807552), [], ⟨(some 21), none, (.len (.tmp 20))⟩⟩, ⟨9, (mB 23 4710400), [], ⟨(some 22), none, (.mks 1 1 [(.bool false)] (.tmp 21) (.tmp 21))⟩⟩] [⟨(some 23), none, (.build [(.int .i64 0), (.int .i64 0), (.int .i64 0), (.slice none 0 0), (.slice none 0 0), (.slice none 0 0)] [(0, 2, (.tmp 13)), (2, 1, (.tmp 14)), (3, 1, (.tmp 17)), (4, 1, (.tmp 18)), (5, 1, (.tmp 22))])⟩, ⟨none, none, (.store 6 (.tmp 6) (.tmp 23))⟩]) .ret)))
theorem law_impl_SignalSet_newCell {a0 a1 a2 d : D} (h : code_impl_SignalSet_newCell.wp (CT Tryz.prog NoG) (endQ [(.c 6 6 true)] d) [a0, a1, a2, .undef, .undef, .undef, .undef, .undef, .undef, .undef, .undef, .undef, .undef, .undef, .undef, .undef, .undef, .undef, .undef, .undef, .undef, .undef, .undef, .undef]) : Contract Tryz.prog NoG 30 [a0, a1, a2] d :=
  contract_of (pt := 0) noG Tryz.func30 (fun us W => by kernel_rfl) (c := Tryz.f30.body.getD .skip) (ms := []) (ms' := []) (by kernel_rfl) (by kernel_rfl) (by kernel_rfl) h
def code_spec_l31New : VCode := (.seq (.ops [
  ⟨(some 4), none, (.box (.tmp 1))⟩,
  ⟨(some 6), none, (.alloc [(.int .i64 0), (.int .i64 0), (.int .i64 0), (.slice none 0 0), (.slice none 0 0), (.slice none 0 0)])⟩]) (.seq (.ops [
  ⟨(some 8), none, (.mv (.tmp 0))⟩,
  ⟨(some 9), none, (.nilc (.tmp 8))⟩,
  ⟨(some 10), none, (.fa 1 (.tmp 9))⟩,
  ⟨(some 11), none, (.load 1 false (.tmp 10))⟩,
  ⟨(some 12), none, (.mv (.tmp 2))⟩,
  ⟨(some 13), none, (.ia 4 (.tmp 11) (.tmp 12))⟩,
  ⟨(some 7), none, (.asg (.tmp 13))⟩]) (.seq (.draw (mB 29 536854528) (mB 21 1114112) [⟨0, (mB 29 536854528), [], ⟨(some 14), none, (.load 2 true (.tmp 4))⟩⟩, ⟨1, (mB 29 536854528), [], ⟨(some 15), none, (.mv (.tmp 2))⟩⟩, ⟨2, (mB 29 536854528), [], ⟨(some 16), none, (.bslN 1 [])⟩⟩, ⟨3, (mB 29 536854528), [], ⟨(some 17), none, (.mv (.tmp 7))⟩⟩, ⟨4, (mB 29 536723456), [], ⟨(some 18), none, (.nilc (.tmp 17))⟩⟩, ⟨5, (mB 29 536461312), [], ⟨(some 19), none, (.fa 2 (.tmp 18))⟩⟩, ⟨6, (mB 29 535937024), [], ⟨(some 20), none, (.load 1 false (.tmp 19))⟩⟩, ⟨7, (mB 29 534822912), (mB 21 1114112), ⟨(some 21), none, (.appN 1 1 (.tmp 16) (.tmp 20))⟩⟩, ⟨8, (mB 29 536854528), [], ⟨(some 22), none, (.mks 1 1 [(.bool false)] (.const (.int .i64 4)) (.const (.int .i64 4)))⟩⟩, ⟨9, (mB 29 536854528), [], ⟨(some 23), none, (.mv (.tmp 7))⟩⟩, ⟨10, (mB 29 528465920), [], ⟨(some 24), none, (.nilc (.tmp 23))⟩⟩, ⟨11, (mB 29 511688704), [], ⟨(some 25), none, (.fa 3 (.tmp 24))⟩⟩, ⟨12, (mB 29 478134272), [], ⟨(some 26), none, (.load 1 false (.tmp 25))⟩⟩, ⟨13, (mB 29 411025408), [], ⟨(some 27), none, (.len (.tmp 26))⟩⟩, ⟨14, (mB 29 276807680), [], ⟨(some 28), none, (.mks 1 1 [(.bool false)] (.tmp 27) (.tmp 27))⟩⟩] [⟨(some 29), none, (.build [(.int .i64 0), (.int .i64 0), (.int .i64 0), (.slice none 0 0), (.slice none 0 0), (.slice none 0 0)] [(0, 2, (.tmp 14)), (2, 1, (.tmp 15)), (3, 1, (.tmp 21)), (4, 1, (.tmp 22)), (5, 1, (.tmp 28))])⟩, ⟨none, none, (.store 6 (.tmp 6) (.tmp 29))⟩]) .ret)))
theorem law_spec_l31New {a0 a1 a2 d : D} (h : code_spec_l31New.wp (CT Tryz.prog NoG) (endQ [(.c 6 6 true)] d) [a0, a1, a2, .undef, .undef, .undef, .undef, .undef, .undef, .undef, .undef, .undef, .undef, .undef, .undef, .undef, .undef, .undef, .undef, .undef, .undef, .undef, .undef, .undef, .undef, .undef, .undef, .undef, .undef, .undef]) : Contract Tryz.prog NoG 23 [a0, a1, a2] d :=
  contract_of (pt := 0) noG Tryz.func23 (fun us W => by kernel_rfl) (c := Tryz.f23.body.getD .skip) (ms := []) (ms' := []) (by kernel_rfl) (by kernel_rfl) (by kernel_rfl) h
set_option maxHeartbeats 1000000 in
theorem v_newCell (s : SignalSet) (hb : sigB s) (p : Placed) (k : Nat) (hk : k < s.Tiles.length) (hp : p.Tile = (k : Int)) : Contract Tryz.prog NoG 30 [.agg (SignalSet.td.d false s), .agg [.v (.int .i64 p.At.X), .v (.int .i64 p.At.Y)], .v (.int .i64 p.Tile)] (.agg (SignalCell.td.d true (cellO s p))) := by
  have hx := hb.x _ (List.getElem_mem hk); have e1 := List.getElem?_eq_getElem hk; rw [SignalSet.td_d, cell_eq hk hp, SignalCell.td_d]; refine law_impl_SignalSet_newCell ?_; unfold code_impl_SignalSet_newCell; simp -implicitDefEqProofs (disch := omega) only [go_sem, ↓reduceIte , hp, List.length_map, Int.toNat_natCast, Int.ofNat_lt, Int.natCast_nonneg, List.getElem?_map, Option.map_some, hk, e1, SignalTile.td_d]; refine call_NB (v_Clone_Bool s.Tiles[k].On hx.2.1) (by simp -implicitDefEqProofs (disch := omega) only [go_sem, ↓reduceIte, deep, TD.rows, immLL_rI, immLL_rB8, immLL_rS, immLL_rBo, immLL_rII, immLL_rIIt, List.length_map, Int.toNat_natCast, Int.ofNat_lt, Int.natCast_nonneg, List.getElem?_map, Option.map_some, List.map_replicate, rBo, Int.toNat_natCast]; exact rfl) ?_; simp -implicitDefEqProofs (disch := omega) only [go_sem, ↓reduceIte , List.length_map, Int.toNat_natCast, Int.ofNat_lt, Int.natCast_nonneg, List.getElem?_map, Option.map_some, List.map_replicate, rBo, Int.toNat_natCast]
  repeat (refine And.intro (by omega) ?_)
  exact rfl
set_option maxHeartbeats 1000000 in
theorem v_l31New (s : SignalSet) (hb : sigB s) (p : Placed) (k : Nat) (hk : k < s.Tiles.length) (hp : p.Tile = (k : Int)) : Contract Tryz.prog NoG 23 [.iptr (SignalSet.td.d false s) 0, .agg [.v (.int .i64 p.At.X), .v (.int .i64 p.At.Y)], .v (.int .i64 p.Tile)] (.agg (SignalCell.td.d true (cellO s p))) := by
  have hx := hb.x _ (List.getElem_mem hk); have e1 := List.getElem?_eq_getElem hk; rw [SignalSet.td_d, cell_eq hk hp, SignalCell.td_d]; refine law_spec_l31New ?_; unfold code_spec_l31New; simp -implicitDefEqProofs (disch := omega) only [go_sem, ↓reduceIte , hp, List.length_map, Int.toNat_natCast, Int.ofNat_lt, Int.natCast_nonneg, List.getElem?_map, Option.map_some, hk, e1, SignalTile.td_d, List.map_replicate, rBo, Int.toNat_natCast]
  repeat (refine And.intro (by omega) ?_)
  first | done | exact rfl | skip
def code_impl_StartCells : VCode := (.seq (.ops [
  ⟨(some 2), none, (.box (.tmp 0))⟩,
  ⟨(some 3), none, (.box (.tmp 1))⟩,
  ⟨(some 4), none, (.asg (.const (.slice none 0 0)))⟩,
  ⟨(some 5), none, (.asg (.const (.int .i64 0)))⟩]) (.seq (.block 0 (.seq (.draw (mB 17 130048) [] [⟨0, (mB 17 130048), [], ⟨(some 10), none, (.load 2 true (.tmp 2))⟩⟩, ⟨1, (mB 17 129024), [], ⟨(some 11), none, (.call 27 [(.tmp 10)])⟩⟩, ⟨2, (mB 17 126976), [], ⟨(some 12), none, (.un .not (.tmp 11))⟩⟩, ⟨3, (mB 17 122880), [], ⟨(some 13), none, (.mv (.tmp 12))⟩⟩, ⟨4, (mB 17 114688), [], ⟨(some 14), (some (13, false)), (.load 2 true (.tmp 2))⟩⟩, ⟨5, (mB 17 98304), [], ⟨(some 15), (some (13, false)), (.call 29 [(.tmp 14)])⟩⟩, ⟨6, (mB 17 114688), [], ⟨(some 16), (some (13, false)), (.load 1 true (.tmp 3))⟩⟩] [⟨(some 17), (some (13, false)), (.callX 28 [(.tmp 15), (.tmp 16)])⟩, ⟨(some 18), (some (13, false)), (.un .not (.tmp 17))⟩, ⟨(some 19), none, (.pick (.tmp 13) (.const (.bool true)) (.tmp 18))⟩, ⟨(some 9), none, (.asg (.tmp 19))⟩]) (.cond (.tmp 9) (.seq (.ops [
  ⟨(some 4), none, (.asg (.const (.slice none 0 0)))⟩,
  ⟨(some 5), none, (.asg (.const (.int .i64 1)))⟩]) .ret) (.seq (.ops [
  ⟨(some 21), none, (.fa 0 (.tmp 3))⟩,
  ⟨(some 22), none, (.load 1 false (.tmp 21))⟩,
  ⟨(some 23), none, (.len (.tmp 22))⟩,
  ⟨(some 24), none, (.bin .gtr (.tmp 23) (.const (.int .i64 80)))⟩,
  ⟨(some 20), none, (.asg (.tmp 24))⟩]) (.cond (.tmp 20) (.seq (.ops [
  ⟨(some 4), none, (.asg (.const (.slice none 0 0)))⟩,
  ⟨(some 5), none, (.asg (.const (.int .i64 4)))⟩]) .ret) .skip))))) (.seq (.ops [
  ⟨(some 6), none, (.asg (.const (.slice none 0 0)))⟩]) (.seq (.seq (.ops [
  ⟨(some 25), none, (.fa 0 (.tmp 3))⟩,
  ⟨(some 26), none, (.load 1 false (.tmp 25))⟩,
  ⟨(some 27), none, (.len (.tmp 26))⟩,
  ⟨(some 28), none, (.mv (.const (.int .i64 0)))⟩]) (.block 1 (.loop (mB 43 6867149389747) (.seq (.ops [
  ⟨(some 29), none, (.bin .lss (.tmp 28) (.tmp 27))⟩]) (.seq (.cond (.tmp 29) .skip (.exit 1)) (.seq (.block 2 (.seq (.ops [
  ⟨(some 30), none, (.ia 3 (.tmp 26) (.tmp 28))⟩,
  ⟨(some 31), none, (.load 3 true (.tmp 30))⟩,
  ⟨(some 8), none, (.alloc [(.int .i64 0), (.int .i64 0), (.int .i64 0)])⟩,
  ⟨none, none, (.store 3 (.tmp 8) (.tmp 31))⟩]) (.ops [
  ⟨(some 32), none, (.mv (.tmp 6))⟩,
  ⟨(some 33), none, (.load 2 true (.tmp 2))⟩,
  ⟨(some 34), none, (.fa 0 (.tmp 8))⟩,
  ⟨(some 35), none, (.load 2 true (.tmp 34))⟩,
  ⟨(some 36), none, (.fa 2 (.tmp 8))⟩,
  ⟨(some 37), none, (.load 1 false (.tmp 36))⟩,
  ⟨(some 38), none, (.callX 30 [(.tmp 33), (.tmp 35), (.tmp 37)])⟩,
  ⟨(some 39), none, (.bsl 6 [(.tmp 38)])⟩,
  ⟨(some 40), none, (.app 6 96 (.tmp 32) (.tmp 39))⟩,
  ⟨(some 6), none, (.asg (.tmp 40))⟩]))) (.ops [
  ⟨(some 41), none, (.bin .add (.tmp 28) (.const (.int .i64 1)))⟩,
  ⟨(some 28), none, (.mv (.tmp 41))⟩]))))))) (.seq (.ops [
  ⟨(some 42), none, (.mv (.tmp 6))⟩,
  ⟨(some 4), none, (.asg (.tmp 42))⟩,
  ⟨(some 5), none, (.asg (.const (.int .i64 0)))⟩]) .ret)))))
theorem law_impl_StartCells {a0 a1 d : D} (h : code_impl_StartCells.wp (CT Tryz.prog NoG) (endQ [(.t 4), (.t 5)] d) [a0, a1, .undef, .undef, .undef, .undef, .undef, .undef, .undef, .undef, .undef, .undef, .undef, .undef, .undef, .undef, .undef, .undef, .undef, .undef, .undef, .undef, .undef, .undef, .undef, .undef, .undef, .undef, .undef, .undef, .undef, .undef, .undef, .undef, .undef, .undef, .undef, .undef, .undef, .undef, .undef, .undef, .undef]) : Contract Tryz.prog NoG 9 [a0, a1] d :=
  contract_of (pt := 0) noG Tryz.func9 (fun us W => by kernel_rfl) (c := Tryz.f9.body.getD .skip) (ms := [(mB 43 6867149389747)]) (ms' := []) (by kernel_rfl) (by kernel_rfl) (by kernel_rfl) h
def code_spec_StartCells : VCode := (.seq (.ops [
  ⟨(some 2), none, (.box (.tmp 0))⟩,
  ⟨(some 3), none, (.box (.tmp 1))⟩,
  ⟨(some 4), none, (.asg (.const (.slice none 0 0)))⟩,
  ⟨(some 5), none, (.asg (.const (.int .i64 0)))⟩]) (.seq (.ops [
  ⟨(some 9), none, (.callX 20 [(.tmp 2)])⟩,
  ⟨(some 6), none, (.alloc [(.slice none 0 0), (.slice none 0 0)])⟩,
  ⟨none, none, (.store 2 (.tmp 6) (.tmp 9))⟩]) (.seq (.seq (.ops [
  ⟨(some 10), none, (.callX 21 [(.tmp 2)])⟩,
  ⟨(some 11), none, (.un .not (.tmp 10))⟩,
  ⟨(some 12), none, (.mv (.tmp 11))⟩,
  ⟨(some 13), (some (12, false)), (.callX 22 [(.tmp 6), (.tmp 3)])⟩,
  ⟨(some 14), (some (12, false)), (.un .not (.tmp 13))⟩,
  ⟨(some 15), none, (.pick (.tmp 12) (.const (.bool true)) (.tmp 14))⟩]) (.cond (.tmp 15) (.seq (.ops [
  ⟨(some 16), none, (.bsl 6 [])⟩,
  ⟨(some 4), none, (.asg (.tmp 16))⟩,
  ⟨(some 5), none, (.asg (.const (.int .i64 1)))⟩]) .ret) .skip)) (.seq (.seq (.ops [
  ⟨(some 17), none, (.fa 0 (.tmp 3))⟩,
  ⟨(some 18), none, (.load 1 false (.tmp 17))⟩,
  ⟨(some 19), none, (.len (.tmp 18))⟩,
  ⟨(some 20), none, (.bin .gtr (.tmp 19) (.const (.int .i64 80)))⟩]) (.cond (.tmp 20) (.seq (.ops [
  ⟨(some 21), none, (.bsl 6 [])⟩,
  ⟨(some 4), none, (.asg (.tmp 21))⟩,
  ⟨(some 5), none, (.asg (.const (.int .i64 4)))⟩]) .ret) .skip)) (.seq (.ops [
  ⟨(some 22), none, (.bsl 6 [])⟩,
  ⟨(some 7), none, (.asg (.tmp 22))⟩]) (.seq (.seq (.ops [
  ⟨(some 8), none, (.asg (.const (.int .i64 0)))⟩]) (.block 0 (.loop (mB 47 79163759263347) (.seq (.seq (.ops [
  ⟨(some 23), none, (.mv (.tmp 8))⟩,
  ⟨(some 24), none, (.fa 0 (.tmp 3))⟩,
  ⟨(some 25), none, (.load 1 false (.tmp 24))⟩,
  ⟨(some 26), none, (.len (.tmp 25))⟩,
  ⟨(some 27), none, (.bin .lss (.tmp 23) (.tmp 26))⟩]) (.cond (.tmp 27) .skip (.exit 0))) (.seq (.block 1 (.draw (mB 45 35183298347008) (mB 44 8796093022208) [⟨0, (mB 45 35183298347008), [], ⟨(some 30), none, (.mv (.tmp 7))⟩⟩, ⟨1, (mB 45 35183298347008), [], ⟨(some 31), none, (.fa 0 (.tmp 3))⟩⟩, ⟨2, (mB 45 35181150863360), [], ⟨(some 32), none, (.load 1 false (.tmp 31))⟩⟩, ⟨3, (mB 45 35183298347008), [], ⟨(some 33), none, (.mv (.tmp 8))⟩⟩, ⟨4, (mB 45 35168265961472), [], ⟨(some 34), none, (.ia 3 (.tmp 32) (.tmp 33))⟩⟩, ⟨5, (mB 45 35151086092288), [], ⟨(some 35), none, (.fa 0 (.tmp 34))⟩⟩, ⟨6, (mB 45 35116726353920), [], ⟨(some 36), none, (.load 2 true (.tmp 35))⟩⟩, ⟨7, (mB 45 35183298347008), [], ⟨(some 37), none, (.fa 0 (.tmp 3))⟩⟩, ⟨8, (mB 45 35045859393536), [], ⟨(some 38), none, (.load 1 false (.tmp 37))⟩⟩, ⟨9, (mB 45 35183298347008), [], ⟨(some 39), none, (.mv (.tmp 8))⟩⟩, ⟨10, (mB 45 34221225672704), [], ⟨(some 40), none, (.ia 3 (.tmp 38) (.tmp 39))⟩⟩, ⟨11, (mB 45 33121714044928), [], ⟨(some 41), none, (.fa 2 (.tmp 40))⟩⟩, ⟨12, (mB 45 30922690789376), [], ⟨(some 42), none, (.load 1 false (.tmp 41))⟩⟩, ⟨13, (mB 45 26389352808448), [], ⟨(some 43), none, (.call 23 [(.tmp 2), (.tmp 36), (.tmp 42)])⟩⟩, ⟨14, (mB 45 17593259786240), (mB 44 8796093022208), ⟨(some 44), none, (.bslN 6 [(.tmp 43)])⟩⟩] [⟨(some 45), none, (.app 6 96 (.tmp 30) (.tmp 44))⟩, ⟨(some 7), none, (.asg (.tmp 45))⟩])) (.ops [
  ⟨(some 28), none, (.mv (.tmp 8))⟩,
  ⟨(some 29), none, (.bin .add (.tmp 28) (.const (.int .i64 1)))⟩,
  ⟨(some 8), none, (.asg (.tmp 29))⟩])))))) (.seq (.ops [
  ⟨(some 46), none, (.mv (.tmp 7))⟩,
  ⟨(some 4), none, (.asg (.tmp 46))⟩,
  ⟨(some 5), none, (.asg (.const (.int .i64 0)))⟩]) .ret)))))))
theorem law_spec_StartCells {a0 a1 d : D} (h : code_spec_StartCells.wp (CT Tryz.prog NoG) (endQ [(.t 4), (.t 5)] d) [a0, a1, .undef, .undef, .undef, .undef, .undef, .undef, .undef, .undef, .undef, .undef, .undef, .undef, .undef, .undef, .undef, .undef, .undef, .undef, .undef, .undef, .undef, .undef, .undef, .undef, .undef, .undef, .undef, .undef, .undef, .undef, .undef, .undef, .undef, .undef, .undef, .undef, .undef, .undef, .undef, .undef, .undef, .undef, .undef, .undef, .undef]) : Contract Tryz.prog NoG 6 [a0, a1] d :=
  contract_of (pt := 0) noG Tryz.func6 (fun us W => by kernel_rfl) (c := Tryz.f6.body.getD .skip) (ms := [(mB 47 79163759263347)]) (ms' := []) (by kernel_rfl) (by kernel_rfl) (by kernel_rfl) h
set_option maxHeartbeats 2000000 in
theorem vStartCells_impl (q_aSet : SignalSet) (q_aSet_ok : SignalSet.td.ok q_aSet) (q_aSet_n : SignalSet.cnt q_aSet ≤ 1048576) (q_aA : Assembly) (q_aA_ok : Assembly.td.ok q_aA) (q_aA_n : Assembly.cnt q_aA ≤ 1048576) : Contract Tryz.prog NoG 9 [.agg (SignalSet.td.d false q_aSet), .agg (Assembly.td.d false q_aA)] (.tup [.sl true 6 ((StartCellsR q_aSet q_aA).map (SignalCell.td.d true)), .v (.int .i64 (StartCellsC q_aSet q_aA))]) := by
  have hb := sigB_of q_aSet_n; have hn : q_aA.Tiles.length ≤ 1048576 := q_aA_n; rw [SignalSet.td_d, Assembly.td_d]; refine law_impl_StartCells ?_; unfold code_impl_StartCells; simp -implicitDefEqProofs (disch := omega) only [go_sem, ↓reduceIte]; cases h1 : okSigSet q_aSet with
  | false => have r1 : StartCellsR q_aSet q_aA = [] := (by unfold StartCellsR startOK; rw [h1]; rfl); have r2 : StartCellsC q_aSet q_aA = 1 := (by unfold StartCellsC startOK; rw [h1]; rfl); rw [r1, r2]; refine call_NB (v_ValidSignalSet q_aSet hb) (by simp -implicitDefEqProofs (disch := omega) only [go_sem, ↓reduceIte, deep, TD.rows, immLL_rI, immLL_rB8, immLL_rS, immLL_rBo, immLL_rII, immLL_rIIt, h1]; exact rfl) ?_; simp -implicitDefEqProofs (disch := omega) only [go_sem, ↓reduceIte , h1]
  | true =>
  have h3 : okSet (plS q_aSet) = true := (by unfold okSigSet at h1; simp only [Bool.and_eq_true] at h1; exact h1.1); cases h2 : okAsm (plS q_aSet) q_aA with
  | false => have r1 : StartCellsR q_aSet q_aA = [] := (by unfold StartCellsR startOK; rw [h1, h2]; rfl); have r2 : StartCellsC q_aSet q_aA = 1 := (by unfold StartCellsC startOK; rw [h1, h2]; rfl); rw [r1, r2]; refine call_NB (v_ValidSignalSet q_aSet hb) (by simp -implicitDefEqProofs (disch := omega) only [go_sem, ↓reduceIte, deep, TD.rows, immLL_rI, immLL_rB8, immLL_rS, immLL_rBo, immLL_rII, immLL_rIIt, h1]; exact rfl) ?_; simp -implicitDefEqProofs (disch := omega) only [go_sem, ↓reduceIte , h1]; refine call_NB (v_plain q_aSet hb) (by simp -implicitDefEqProofs (disch := omega) only [go_sem, ↓reduceIte, deep, TD.rows, immLL_rI, immLL_rB8, immLL_rS, immLL_rBo, immLL_rII, immLL_rIIt, TileSet.td_d]; exact rfl) ?_; simp -implicitDefEqProofs (disch := omega) only [go_sem, ↓reduceIte , TileSet.td_d]; refine call_B (v_ValidAssembly (plS q_aSet) q_aA hb.b hn) (by simp -implicitDefEqProofs (disch := omega) only [go_sem, ↓reduceIte, deep, TD.rows, immLL_rI, immLL_rB8, immLL_rS, immLL_rBo, immLL_rII, immLL_rIIt, h3, h2]; exact rfl) ?_; simp -implicitDefEqProofs (disch := omega) only [go_sem, ↓reduceIte , h3, h2]
  | true =>
    have hok : startOK q_aSet q_aA = true := (by unfold startOK; rw [h1, h2]; rfl); by_cases h80 : q_aA.Tiles.length ≤ 80
    · have r1 : StartCellsR q_aSet q_aA = q_aA.Tiles.map (cellO q_aSet) := (by unfold StartCellsR; rw [hok, decide_eq_true h80]; rfl); have r2 : StartCellsC q_aSet q_aA = 0 := (by unfold StartCellsC; rw [hok, if_pos rfl, if_pos h80]); have d80 : decide ((80 : Int) < (q_aA.Tiles.length : Int)) = false := (by rw [decide_eq_false_iff_not]; omega); rw [r1, r2]; refine call_NB (v_ValidSignalSet q_aSet hb) (by simp -implicitDefEqProofs (disch := omega) only [go_sem, ↓reduceIte, deep, TD.rows, immLL_rI, immLL_rB8, immLL_rS, immLL_rBo, immLL_rII, immLL_rIIt, h1]; exact rfl) ?_; simp -implicitDefEqProofs (disch := omega) only [go_sem, ↓reduceIte , h1]; refine call_NB (v_plain q_aSet hb) (by simp -implicitDefEqProofs (disch := omega) only [go_sem, ↓reduceIte, deep, TD.rows, immLL_rI, immLL_rB8, immLL_rS, immLL_rBo, immLL_rII, immLL_rIIt, TileSet.td_d]; exact rfl) ?_; simp -implicitDefEqProofs (disch := omega) only [go_sem, ↓reduceIte , TileSet.td_d]; refine call_B (v_ValidAssembly (plS q_aSet) q_aA hb.b hn) (by simp -implicitDefEqProofs (disch := omega) only [go_sem, ↓reduceIte, deep, TD.rows, immLL_rI, immLL_rB8, immLL_rS, immLL_rBo, immLL_rII, immLL_rIIt, h3, h2, List.length_map, d80]; exact rfl) ?_; simp -implicitDefEqProofs (disch := omega) only [go_sem, ↓reduceIte , h3, h2, List.length_map, d80]; refine loop_ov (by simp -implicitDefEqProofs (disch := omega) only [go_sem, ↓reduceIte]; exact rfl) (fun i : Nat => [(28, .v (.int .i64 (i : Nat))), (6, .sl true 6 (((q_aA.Tiles.take i).map (cellO q_aSet)).map (SignalCell.td.d true)))]) (fun _ => by simp only [ovr_nil, ovr_cons, List.set_cons_zero, List.set_cons_succ]; exact rfl) (fun i : Nat => i ≤ q_aA.Tiles.length) (fun i : Nat => q_aA.Tiles.length - i) (0) (nleA) (Nat.zero_le _) ?_; intro i hi; simp -implicitDefEqProofs (disch := omega) only [go_sem, ↓reduceIte , List.length_map, Int.toNat_natCast, Int.ofNat_lt, Int.natCast_nonneg, List.getElem?_map, Option.map_some]; refine cond_split ?_ ?_ <;> intro hlt
      · have hlt : i < q_aA.Tiles.length := (by simpa using hlt); have e1 := List.getElem?_eq_getElem hlt; obtain ⟨k, hk, hkl⟩ := start_tile hok hlt; have hs : ((q_aA.Tiles.take i).map (cellO q_aSet)).map (SignalCell.td.d true) ++ [SignalCell.td.d true (cellO q_aSet q_aA.Tiles[i])] = ((q_aA.Tiles.take (i + 1)).map (cellO q_aSet)).map (SignalCell.td.d true) := (by rw [← take_next hlt, List.map_append, List.map_append]; rfl); rw [SignalCell.td_d] at hs; have hl : (q_aA.Tiles.take i).length = i := (by rw [List.length_take]; omega); simp -implicitDefEqProofs (disch := omega) only [go_sem, ↓reduceIte , List.length_map, Int.toNat_natCast, Int.ofNat_lt, Int.natCast_nonneg, List.getElem?_map, Option.map_some, hlt, e1, Placed.td_d]; refine call_B (v_newCell q_aSet hb q_aA.Tiles[i] k hkl hk) (by simp -implicitDefEqProofs (disch := omega) only [go_sem, ↓reduceIte, deep, TD.rows, immLL_rI, immLL_rB8, immLL_rS, immLL_rBo, immLL_rII, immLL_rIIt, SignalCell.td_d, hs, hl, List.length_map, wrN]; exact rfl) ?_; simp -implicitDefEqProofs (disch := omega) only [go_sem, ↓reduceIte , SignalCell.td_d, hs, hl, List.length_map, wrN]
        repeat (refine And.intro (by omega) ?_)
        exact ⟨i + 1, by omega, hlt, nleA⟩
      · obtain rfl : i = q_aA.Tiles.length := (by have : ¬ i < q_aA.Tiles.length := (by simpa using hlt); omega); simp -implicitDefEqProofs (disch := omega) only [go_sem, ↓reduceIte , List.take_length]
    · have r1 : StartCellsR q_aSet q_aA = [] := (by unfold StartCellsR; rw [hok, decide_eq_false h80]; rfl); have r2 : StartCellsC q_aSet q_aA = 4 := (by unfold StartCellsC; rw [hok, if_pos rfl, if_neg h80]); have d80 : decide ((80 : Int) < (q_aA.Tiles.length : Int)) = true := (by rw [decide_eq_true_eq]; omega); rw [r1, r2]; refine call_NB (v_ValidSignalSet q_aSet hb) (by simp -implicitDefEqProofs (disch := omega) only [go_sem, ↓reduceIte, deep, TD.rows, immLL_rI, immLL_rB8, immLL_rS, immLL_rBo, immLL_rII, immLL_rIIt, h1]; exact rfl) ?_; simp -implicitDefEqProofs (disch := omega) only [go_sem, ↓reduceIte , h1]; refine call_NB (v_plain q_aSet hb) (by simp -implicitDefEqProofs (disch := omega) only [go_sem, ↓reduceIte, deep, TD.rows, immLL_rI, immLL_rB8, immLL_rS, immLL_rBo, immLL_rII, immLL_rIIt, TileSet.td_d]; exact rfl) ?_; simp -implicitDefEqProofs (disch := omega) only [go_sem, ↓reduceIte , TileSet.td_d]; refine call_B (v_ValidAssembly (plS q_aSet) q_aA hb.b hn) (by simp -implicitDefEqProofs (disch := omega) only [go_sem, ↓reduceIte, deep, TD.rows, immLL_rI, immLL_rB8, immLL_rS, immLL_rBo, immLL_rII, immLL_rIIt, h3, h2, List.length_map, d80]; exact rfl) ?_; simp -implicitDefEqProofs (disch := omega) only [go_sem, ↓reduceIte , h3, h2, List.length_map, d80]
set_option maxHeartbeats 2000000 in
theorem vStartCells_spec (q_aSet : SignalSet) (q_aSet_ok : SignalSet.td.ok q_aSet) (q_aSet_n : SignalSet.cnt q_aSet ≤ 1048576) (q_aA : Assembly) (q_aA_ok : Assembly.td.ok q_aA) (q_aA_n : Assembly.cnt q_aA ≤ 1048576) : Contract Tryz.prog NoG 6 [.agg (SignalSet.td.d false q_aSet), .agg (Assembly.td.d false q_aA)] (.tup [.sl true 6 ((StartCellsR q_aSet q_aA).map (SignalCell.td.d true)), .v (.int .i64 (StartCellsC q_aSet q_aA))]) := by
  have hb := sigB_of q_aSet_n; have hn : q_aA.Tiles.length ≤ 1048576 := q_aA_n; have hpt := plS_t hb; rw [SignalSet.td_d, Assembly.td_d]; refine law_spec_StartCells ?_; unfold code_spec_StartCells; simp -implicitDefEqProofs (disch := omega) only [go_sem, ↓reduceIte]; refine call_B (v_l31Plain q_aSet hb) (by simp -implicitDefEqProofs (disch := omega) only [go_sem, ↓reduceIte, deep, TD.rows, immLL_rI, immLL_rB8, immLL_rS, immLL_rBo, immLL_rII, immLL_rIIt, TileSet.td_d]; exact rfl) ?_; simp -implicitDefEqProofs (disch := omega) only [go_sem, ↓reduceIte , TileSet.td_d]; cases h1 : okSigSet q_aSet with
  | false => have r1 : StartCellsR q_aSet q_aA = [] := (by unfold StartCellsR startOK; rw [h1]; rfl); have r2 : StartCellsC q_aSet q_aA = 1 := (by unfold StartCellsC startOK; rw [h1]; rfl); rw [r1, r2]; refine call_B (v_l31Set q_aSet hb) (by simp -implicitDefEqProofs (disch := omega) only [go_sem, ↓reduceIte, deep, TD.rows, immLL_rI, immLL_rB8, immLL_rS, immLL_rBo, immLL_rII, immLL_rIIt, h1]; exact rfl) ?_; simp -implicitDefEqProofs (disch := omega) only [go_sem, ↓reduceIte , h1]
  | true =>
  refine call_B (v_l31Set q_aSet hb) (by simp -implicitDefEqProofs (disch := omega) only [go_sem, ↓reduceIte, deep, TD.rows, immLL_rI, immLL_rB8, immLL_rS, immLL_rBo, immLL_rII, immLL_rIIt, h1]; exact rfl) ?_; simp -implicitDefEqProofs (disch := omega) only [go_sem, ↓reduceIte , h1]; cases h2 : okAsm (plS q_aSet) q_aA with
  | false => have r1 : StartCellsR q_aSet q_aA = [] := (by unfold StartCellsR startOK; rw [h1, h2]; rfl); have r2 : StartCellsC q_aSet q_aA = 1 := (by unfold StartCellsC startOK; rw [h1, h2]; rfl); rw [r1, r2]; refine call_B (v_l03Ok (plS q_aSet) q_aA hpt hn) (by simp -implicitDefEqProofs (disch := omega) only [go_sem, ↓reduceIte, deep, TD.rows, immLL_rI, immLL_rB8, immLL_rS, immLL_rBo, immLL_rII, immLL_rIIt, h2]; exact rfl) ?_; simp -implicitDefEqProofs (disch := omega) only [go_sem, ↓reduceIte , h2]
  | true =>
    have hok : startOK q_aSet q_aA = true := (by unfold startOK; rw [h1, h2]; rfl); refine call_B (v_l03Ok (plS q_aSet) q_aA hpt hn) (by simp -implicitDefEqProofs (disch := omega) only [go_sem, ↓reduceIte, deep, TD.rows, immLL_rI, immLL_rB8, immLL_rS, immLL_rBo, immLL_rII, immLL_rIIt, h2, List.length_map]; exact rfl) ?_; simp -implicitDefEqProofs (disch := omega) only [go_sem, ↓reduceIte , h2, List.length_map]; by_cases h80 : q_aA.Tiles.length ≤ 80
    · have r1 : StartCellsR q_aSet q_aA = q_aA.Tiles.map (cellO q_aSet) := (by unfold StartCellsR; rw [hok, decide_eq_true h80]; rfl); have r2 : StartCellsC q_aSet q_aA = 0 := (by unfold StartCellsC; rw [hok, if_pos rfl, if_pos h80]); have d80 : decide ((80 : Int) < (q_aA.Tiles.length : Int)) = false := (by rw [decide_eq_false_iff_not]; omega); rw [r1, r2]; simp -implicitDefEqProofs (disch := omega) only [go_sem, ↓reduceIte , d80]; refine loop_ov (by simp -implicitDefEqProofs (disch := omega) only [go_sem, ↓reduceIte]; exact rfl) (fun i : Nat => [(8, .v (.int .i64 (i : Nat))), (7, .sl true 6 (((q_aA.Tiles.take i).map (cellO q_aSet)).map (SignalCell.td.d true)))]) (fun _ => by simp only [ovr_nil, ovr_cons, List.set_cons_zero, List.set_cons_succ]; exact rfl) (fun i : Nat => i ≤ q_aA.Tiles.length) (fun i : Nat => q_aA.Tiles.length - i) (0) (nleA) (Nat.zero_le _) ?_; intro i hi; simp -implicitDefEqProofs (disch := omega) only [go_sem, ↓reduceIte , List.length_map, Int.toNat_natCast, Int.ofNat_lt, Int.natCast_nonneg, List.getElem?_map, Option.map_some]; refine cond_split ?_ ?_ <;> intro hlt
      · have hlt : i < q_aA.Tiles.length := (by simpa using hlt); have e1 := List.getElem?_eq_getElem hlt; obtain ⟨k, hk, hkl⟩ := start_tile hok hlt; have hs : ((q_aA.Tiles.take i).map (cellO q_aSet)).map (SignalCell.td.d true) ++ [SignalCell.td.d true (cellO q_aSet q_aA.Tiles[i])] = ((q_aA.Tiles.take (i + 1)).map (cellO q_aSet)).map (SignalCell.td.d true) := (by rw [← take_next hlt, List.map_append, List.map_append]; rfl); rw [SignalCell.td_d] at hs; have hl : (q_aA.Tiles.take i).length = i := (by rw [List.length_take]; omega); simp -implicitDefEqProofs (disch := omega) only [go_sem, ↓reduceIte , List.length_map, Int.toNat_natCast, Int.ofNat_lt, Int.natCast_nonneg, List.getElem?_map, Option.map_some, hlt, e1, Placed.td_d]; refine call_NB (v_l31New q_aSet hb q_aA.Tiles[i] k hkl hk) (by simp -implicitDefEqProofs (disch := omega) only [go_sem, ↓reduceIte, deep, TD.rows, immLL_rI, immLL_rB8, immLL_rS, immLL_rBo, immLL_rII, immLL_rIIt, SignalCell.td_d, hs, hl, List.length_map, wrN]; exact rfl) ?_; simp -implicitDefEqProofs (disch := omega) only [go_sem, ↓reduceIte , SignalCell.td_d, hs, hl, List.length_map, wrN]
        repeat (refine And.intro (by omega) ?_)
        exact ⟨i + 1, by omega, hlt, nleA⟩
      · obtain rfl : i = q_aA.Tiles.length := (by have : ¬ i < q_aA.Tiles.length := (by simpa using hlt); omega); simp -implicitDefEqProofs (disch := omega) only [go_sem, ↓reduceIte , List.take_length]
    · have r1 : StartCellsR q_aSet q_aA = [] := (by unfold StartCellsR; rw [hok, decide_eq_false h80]; rfl); have r2 : StartCellsC q_aSet q_aA = 4 := (by unfold StartCellsC; rw [hok, if_pos rfl, if_neg h80]); have d80 : decide ((80 : Int) < (q_aA.Tiles.length : Int)) = true := (by rw [decide_eq_true_eq]; omega); rw [r1, r2]; simp -implicitDefEqProofs (disch := omega) only [go_sem, ↓reduceIte , d80]
def decAcc : Nat → Nat → ByteArray → ByteArray
  | 0, _, out => out
  | f + 1, n, out => if n = 0 then out else decAcc f (n / 10) (strI [((48 + n % 10 : Nat) : Int)] ++ out)
def markT (k : Int) : ByteArray := if k ≤ 0 then ⟨⟨[109, 48]⟩⟩ else ⟨⟨[109]⟩⟩ ++ decAcc 20 k.toNat ⟨⟨[]⟩⟩
theorem decAcc_zero (f : Nat) (out : ByteArray) : decAcc f 0 out = out := by cases f <;> rfl
theorem strI_size (xs : List Int) : (strI xs).size = xs.length := by unfold strI; simp [ByteArray.size]
theorem decAcc_size : ∀ (f n : Nat) (out : ByteArray), (decAcc f n out).size ≤ f + out.size
  | 0, _, out => by simp [decAcc]
  | f + 1, n, out => by
    unfold decAcc; split
    · omega
    · have := decAcc_size f (n / 10) (strI [((48 + n % 10 : Nat) : Int)] ++ out); rw [ByteArray.size_append, strI_size] at this; simp only [List.length_cons, List.length_nil] at this; omega
theorem markT_size (k : Int) : (markT k).size ≤ maxLen := by
  unfold markT maxLen; split
  · decide
  · rw [ByteArray.size_append]; have := decAcc_size 20 k.toNat ⟨⟨[]⟩⟩
    have h0 : (⟨⟨[]⟩⟩ : ByteArray).size = 0 := rfl; have h1 : (⟨⟨[109]⟩⟩ : ByteArray).size = 1 := rfl; omega
def code_laws_markText : VCode := (.seq (.ops [
  ⟨(some 2), none, (.asg (.const (.string ⟨⟨[]⟩⟩)))⟩]) (.seq (.seq (.ops [
  ⟨(some 4), none, (.mv (.tmp 0))⟩,
  ⟨(some 5), none, (.bin .leq (.tmp 4) (.const (.int .i64 0)))⟩]) (.cond (.tmp 5) (.seq (.ops [
  ⟨(some 2), none, (.asg (.const (.string ⟨⟨[109, 48]⟩⟩)))⟩]) .ret) .skip)) (.seq (.ops [
  ⟨(some 3), none, (.asg (.const (.string ⟨⟨[]⟩⟩)))⟩]) (.seq (.block 0 (.loop (mB 20 1048566) (.seq (.seq (.ops [
  ⟨(some 6), none, (.mv (.tmp 0))⟩,
  ⟨(some 7), none, (.bin .gtr (.tmp 6) (.const (.int .i64 0)))⟩]) (.cond (.tmp 7) .skip (.exit 0))) (.block 1 (.seq (.ops [
  ⟨(some 8), none, (.mv (.tmp 0))⟩,
  ⟨(some 9), none, (.bin .rem (.tmp 8) (.const (.int .i64 10)))⟩,
  ⟨(some 10), none, (.bin .add (.const (.int .i64 48)) (.tmp 9))⟩,
  ⟨(some 11), none, (.conv .u8 (.tmp 10))⟩,
  ⟨(some 12), none, (.bsl 1 [(.tmp 11)])⟩,
  ⟨(some 13), none, (.b2s (.tmp 12))⟩,
  ⟨(some 14), none, (.mv (.tmp 3))⟩,
  ⟨(some 15), none, (.bin .add (.tmp 13) (.tmp 14))⟩,
  ⟨(some 3), none, (.asg (.tmp 15))⟩]) (.ops [
  ⟨(some 16), none, (.mv (.tmp 0))⟩,
  ⟨(some 17), none, (.bin .quo (.tmp 16) (.const (.int .i64 10)))⟩,
  ⟨(some 0), none, (.asg (.tmp 17))⟩])))))) (.seq (.ops [
  ⟨(some 18), none, (.mv (.tmp 3))⟩,
  ⟨(some 19), none, (.bin .add (.const (.string ⟨⟨[109]⟩⟩)) (.tmp 18))⟩,
  ⟨(some 2), none, (.asg (.tmp 19))⟩]) .ret)))))
theorem law_laws_markText {a0 d : D} (h : code_laws_markText.wp (CT Tryz.prog NoG) (endQ [(.t 2)] d) [a0, .undef, .undef, .undef, .undef, .undef, .undef, .undef, .undef, .undef, .undef, .undef, .undef, .undef, .undef, .undef, .undef, .undef, .undef, .undef]) : Contract Tryz.prog NoG 66 [a0] d :=
  contract_of (pt := 0) noG Tryz.func66 (fun us W => by kernel_rfl) (c := Tryz.f66.body.getD .skip) (ms := [(mB 20 1048566)]) (ms' := []) (by kernel_rfl) (by kernel_rfl) (by kernel_rfl) h
theorem v_markText (k : Int) (hk : k ≤ 4611686018427387904) : Contract Tryz.prog NoG 66 [.v (.int .i64 k)] (.v (.string (markT k))) := by
  refine law_laws_markText ?_; unfold code_laws_markText; simp -implicitDefEqProofs (disch := omega) only [go_sem, ↓reduceIte]; refine cond_split ?_ ?_ <;> intro h
  · have h : k ≤ 0 := of_decide_eq_true h; simp -implicitDefEqProofs (disch := omega) only [go_sem, ↓reduceIte]; unfold markT; rw [if_pos h]
  · have h : ¬ k ≤ 0 := of_decide_eq_false h; obtain ⟨n, rfl⟩ : ∃ n : Nat, k = (n : Int) := ⟨k.toNat, by omega⟩
    have hm : markT (n : Int) = ⟨⟨[109]⟩⟩ ++ decAcc 20 n ⟨⟨[]⟩⟩ := (by unfold markT; rw [if_neg h]; rfl); simp -implicitDefEqProofs (disch := omega) only [go_sem, ↓reduceIte]; refine loop_st (fun z : Nat × ByteArray => [.v (.int .i64 z.1), .undef, .undef, .v (.string z.2), .undef, .undef, .undef, .undef, .undef, .undef, .undef, .undef, .undef, .undef, .undef, .undef, .undef, .undef, .undef, .undef]) (fun z => z.1 ≤ n ∧ ∃ f, z.1 < 10 ^ f ∧ f + z.2.size ≤ 20 ∧ decAcc f z.1 z.2 = decAcc 20 n ⟨⟨[]⟩⟩) (fun z => z.1) (n, ⟨⟨[]⟩⟩) (nleA) ⟨Nat.le_refl _, 20, by simp only; omega, by simp only; exact Nat.le_refl 20, rfl⟩ ?_; rintro ⟨m, out⟩ ⟨hmn, f, hf, hs, hd⟩; simp only at hmn hf hs hd; simp -implicitDefEqProofs (disch := omega) only [go_sem, ↓reduceIte]; refine cond_split ?_ ?_ <;> intro hp
    · have hp : 0 < m := (by have := of_decide_eq_true hp; omega); cases f with
      | zero => simp at hf; omega
      | succ f =>
        have e1 : ((m : Nat) : Int).tmod 10 = ((m % 10 : Nat) : Int) := rfl; have e2 : IntKind.i64.wrap (48 + ((m % 10 : Nat) : Int)) = ((48 + m % 10 : Nat) : Int) := (by rw [wrI (by omega) (by omega)]; simp); have e3 : IntKind.u8.wrap ((48 + m % 10 : Nat) : Int) = ((48 + m % 10 : Nat) : Int) := IntWalk.u8_in _ (by omega); have e4 : IntKind.i64.wrap (((m : Nat) : Int).tdiv 10) = ((m / 10 : Nat) : Int) := (by rw [show ((m : Nat) : Int).tdiv 10 = ((m / 10 : Nat) : Int) from rfl, wrI (by omega) (by omega)]); simp -implicitDefEqProofs (disch := omega) only [go_sem, ↓reduceIte , e1, e2, e3]; refine And.intro (by omega) ?_; refine ⟨[((48 + m % 10 : Nat) : Int)], rfl, ?_⟩; simp -implicitDefEqProofs (disch := omega) only [go_sem, ↓reduceIte , e4]; refine And.intro (by rw [strI_size]; unfold maxLen; simp only [List.length_cons, List.length_nil]; omega) ?_; refine And.intro (by omega) ?_; refine ⟨(m / 10, strI [((48 + m % 10 : Nat) : Int)] ++ out), by simp only; omega, ⟨by simp only; omega, f, ?_, ?_, ?_⟩, nleA⟩
        · simp only; rw [Nat.pow_succ] at hf; omega
        · simp only; rw [ByteArray.size_append, strI_size]; simp only [List.length_cons, List.length_nil]; omega
        · rw [← hd]; simp only [decAcc]; rw [if_neg (by omega)]
    · have hp : m = 0 := (by have := of_decide_eq_false hp; omega); subst hp; rw [decAcc_zero] at hd; simp -implicitDefEqProofs (disch := omega) only [go_sem, ↓reduceIte]; refine And.intro (by unfold maxLen; show 1 + out.size ≤ _; omega) ?_; rw [hm, hd]
theorem markText_any (k : Int) (w : World) (hk : k ≤ 4611686018427387904) : Calls Tryz.prog 66 #[.int .i64 k] w fun e w' => e = .returned (.string (markT k)) ∧ Below w.heap.size w w' := by refine (Contract.at (us := [.int .i64 k]) (v_markText k hk) gI (Nat.le_refl _) (vals_cons (vals_v _) vals_nil)).mono ?_; rintro e w' ⟨⟨v, I, F, rfl, hT, _, _⟩, hb⟩; simp only [T] at hT; exact ⟨by rw [hT.1], hb⟩
end Go.Proofs.YtddkkndgpcgdpaaGreat
