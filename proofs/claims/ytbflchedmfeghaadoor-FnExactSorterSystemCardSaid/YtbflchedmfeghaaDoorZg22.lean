/- Laws that the proof stands on. -/
import Derived.Test.YtbflchedmfeghaaDoorZg21
import Derived.Test.YtbflchedmfeghaaDoorZVTab
import Derived.Test.YtbflchedmfeghaaDoorZg20
set_option linter.all false
namespace Go.Proofs.YtbflchedmfeghaaDoor
open Go.RowKit Go.V
attribute [local go_sem] List.getElem?_cons_succ List.getElem?_cons_zero List.set_cons_succ List.set_cons_zero List.map_cons List.map_nil List.length_cons List.length_nil List.all_cons List.all_nil List.drop_succ_cons List.drop_zero List.take_succ_cons List.take_zero List.flatMap_cons List.flatMap_nil List.cons_append List.nil_append List.append_nil List.headD_cons Value.oneCell' Bool.and_true Bool.true_and Bool.or_false Bool.false_or Bool.and_self Bool.not_true Bool.not_false and_true true_and beq_self_eq_true Bool.false_eq_true if_true if_false Nat.zero_add Nat.reduceAdd Nat.reduceMul Nat.reduceLeDiff Nat.le_refl Option.isSome_some Option.isSome_none not_true_eq_false not_false_eq_true ne_eq reduceCtorEq List.reverse_nil bne_self_eq_false Nat.reduceEqDiff List.isPrefixOf Bool.not_eq_true Bool.and_false Bool.false_and Bool.true_or Bool.or_true decide_true decide_false Nat.reduceBEq Nat.reduceBNe List.replicate_succ List.replicate_zero exists_eq_left' exists_eq_left Option.some.injEq or_false or_true true_or false_or Option.map_some Option.map_none mB Nat.reduceMod Nat.reduceDiv
set_option maxRecDepth 100000
abbrev bbI (b : Nat) (G : List Glue) (T : List Tile) : D := .box (some b) (mkI G T)
abbrev bbS (b : Nat) (G : List Glue) (T : List Tile) : D := .box (some b) (mkS G T)
def nS0 : ByteArray := ⟨⟨[115, 48]⟩⟩
def nLeft : ByteArray := ⟨⟨[108, 101, 102, 116]⟩⟩
def nRight : ByteArray := ⟨⟨[114, 105, 103, 104, 116]⟩⟩
def pStart : List UInt8 := [115, 116, 97, 114, 116]
def rNt (x : Nat) : List D := [.v (.int .i64 (x : Int))]
def sdG (G : List Glue) (n : Nat) : List Glue := G ++ (List.range n).map (fun k => ⟨nm1 [115] k, 2⟩)
def sdT0 (G : List Glue) (T : List Tile) (l : ByteArray) : List Tile := T ++ [⟨nLeft, [sideN G l, sideN G nS0, 0, 0]⟩]
def sdK (G : List Glue) (ds : List Nat) (k : Nat) : Tile := ⟨nm1 pStart k, [sideN G (nm1 [118] (ds.getD k 0)), sideN G (nm1 [115] (k + 1)), 0, sideN G (nm1 [115] k)]⟩
def sdT (G : List Glue) (T : List Tile) (l : ByteArray) (ds : List Nat) (i : Nat) : List Tile := sdT0 G T l ++ (List.range i).map (sdK G ds)
def sdT1 (G : List Glue) (T : List Tile) (l r : ByteArray) (ds : List Nat) : List Tile := sdT G T l ds ds.length ++ [⟨nRight, [sideN G r, 0, 0, sideN G (nm1 [115] ds.length)]⟩]
def sdR (t i : Nat) : List Int := (List.range i).map fun k => ((t + k : Nat) : Int)
theorem sdR_next (t i : Nat) : sdR t (i + 1) = sdR t i ++ [((t + i : Nat) : Int)] := by unfold sdR; rw [List.range_succ, List.map_append]; rfl
theorem sdR_len (t i : Nat) : (sdR t i).length = i := by simp [sdR]
theorem sdR_row (t i : Nat) : List.map rI (sdR t (i + 1 + 1)) = List.map rI (sdR t (i + 1)) ++ [[.v (.int .i64 ((t + 1 + i : Nat) : Int))]] := by rw [sdR_next, List.map_append, show t + (i + 1) = t + 1 + i by omega]; rfl
theorem sdT_len (G : List Glue) (T : List Tile) (l : ByteArray) (ds : List Nat) (i : Nat) : (sdT G T l ds i).length = T.length + 1 + i := by simp [sdT, sdT0]; omega
theorem sdG_next (G : List Glue) (n : Nat) : sdG G (n + 1) = sdG G n ++ [⟨nm1 [115] n, 2⟩] := by unfold sdG; rw [List.range_succ, List.map_append, List.append_assoc]; rfl
theorem sdG_len (G : List Glue) (n : Nat) : (sdG G n).length = G.length + n := by simp [sdG]
theorem sdT_next (G : List Glue) (T : List Tile) (l : ByteArray) (ds : List Nat) (i : Nat) : sdT G T l ds (i + 1) = sdT G T l ds i ++ [sdK G ds i] := by unfold sdT; rw [List.range_succ, List.map_append, List.append_assoc]; rfl
theorem sdG_fresh {G : List Glue} (h : ∀ k, fresh G (nm1 [115] k)) (n : Nat) : fresh (sdG G n) (nm1 [115] n) :=
  fresh_rng (f := fun k => nm1 [115] k) (k := fun _ => 2) (h n) fun j hj => nm_ne (by rfl) (by rfl) (by simp; omega)
theorem sdG_ok {G : List Glue} (hm : okM G) (h : ∀ k, fresh G (nm1 [115] k)) (n : Nat) : okM (sdG G n) :=
  okM_rng (f := fun k => nm1 [115] k) (k := fun _ => 2) hm h (fun i j hj => nm_ne (by rfl) (by rfl) (by simp; omega)) (fun j => nm_ne (b := []) (u := [45]) (by rfl) (by rfl) (by simp)) (fun j => nm_ne (b := []) (u := []) (by rfl) (by rfl) (by simp)) n
structure freshS (T : List Tile) : Prop where
  l : freshT T nLeft
  r : freshT T nRight
  s : ∀ k, freshT T (nm1 pStart k)
theorem sdT_freshK {G : List Glue} {T : List Tile} {l : ByteArray} {ds : List Nat} (h : freshS T) (i : Nat) : freshT (sdT G T l ds i) (nm1 pStart i) := by
  unfold sdT; intro t ht; rcases List.mem_append.1 ht with ht | ht
  · unfold sdT0 at ht; rcases List.mem_append.1 ht with ht | ht
    · exact h.s i t ht
    · rw [List.mem_singleton.1 ht]; exact nm_ne (a := []) (t := [108, 101, 102, 116]) (b := [(pStart, i)]) (u := []) (by rfl) (by rfl) (by simp)
  · obtain ⟨k, hk, rfl⟩ := List.mem_map.1 ht; have hk := List.mem_range.1 hk; exact nm_ne (a := [(pStart, k)]) (t := []) (b := [(pStart, i)]) (u := []) (by rfl) (by rfl) (by simp; omega)
theorem sdT_freshR {G : List Glue} {T : List Tile} {l : ByteArray} {ds : List Nat} (h : freshS T) (i : Nat) : freshT (sdT G T l ds i) nRight := by
  unfold sdT; intro t ht; rcases List.mem_append.1 ht with ht | ht
  · unfold sdT0 at ht; rcases List.mem_append.1 ht with ht | ht
    · exact h.r t ht
    · rw [List.mem_singleton.1 ht]; exact nm_ne (a := []) (t := [108, 101, 102, 116]) (b := []) (u := [114, 105, 103, 104, 116]) (by rfl) (by rfl) (by simp)
  · obtain ⟨k, hk, rfl⟩ := List.mem_map.1 ht; exact nm_ne (a := [(pStart, k)]) (t := []) (b := []) (u := [114, 105, 103, 104, 116]) (by rfl) (by rfl) (by simp)
def code_spec_l15Maker_seed : VCode := (.seq (.ops [
  ⟨(some 8), none, (.asg (.const (.slice none 0 0)))⟩]) (.seq (.ops [
  ⟨(some 13), none, (.mv (.tmp 1))⟩,
  ⟨(some 14), none, (.len (.tmp 13))⟩,
  ⟨(some 9), none, (.asg (.tmp 14))⟩]) (.seq (.seq (.ops [
  ⟨(some 10), none, (.asg (.const (.int .i64 0)))⟩]) (.block 0 (.loop (mB 64 18446744073709550064) (.seq (.seq (.ops [
  ⟨(some 15), none, (.mv (.tmp 10))⟩,
  ⟨(some 16), none, (.mv (.tmp 9))⟩,
  ⟨(some 17), none, (.bin .leq (.tmp 15) (.tmp 16))⟩]) (.cond (.tmp 17) .skip (.exit 0))) (.seq (.block 1 (.ops [
  ⟨(some 20), none, (.mv (.tmp 0))⟩,
  ⟨(some 21), none, (.mv (.tmp 10))⟩,
  ⟨(some 22), none, (.callX 22 [(.tmp 21)])⟩,
  ⟨(some 23), none, (.bin .add (.const (.string ⟨⟨[115]⟩⟩)) (.tmp 22))⟩,
  ⟨(some 24), none, (.callX 21 [(.tmp 20), (.tmp 23), (.const (.int .i64 2))])⟩])) (.ops [
  ⟨(some 18), none, (.mv (.tmp 10))⟩,
  ⟨(some 19), none, (.bin .add (.tmp 18) (.const (.int .i64 1)))⟩,
  ⟨(some 10), none, (.asg (.tmp 19))⟩])))))) (.seq (.ops [
  ⟨(some 25), none, (.mv (.tmp 0))⟩,
  ⟨(some 26), none, (.mv (.tmp 2))⟩,
  ⟨(some 27), none, (.callX 23 [(.tmp 25), (.const (.string ⟨⟨[108, 101, 102, 116]⟩⟩)), (.tmp 26), (.const (.string ⟨⟨[115, 48]⟩⟩)), (.const (.string ⟨⟨[]⟩⟩)), (.const (.string ⟨⟨[]⟩⟩))])⟩,
  ⟨(some 28), none, (.bsl 1 [(.tmp 27)])⟩,
  ⟨(some 11), none, (.asg (.tmp 28))⟩]) (.seq (.seq (.ops [
  ⟨(some 12), none, (.asg (.const (.int .i64 0)))⟩]) (.block 2 (.loop (mB 64 18419722458497017332) (.seq (.seq (.ops [
  ⟨(some 29), none, (.mv (.tmp 12))⟩,
  ⟨(some 30), none, (.mv (.tmp 9))⟩,
  ⟨(some 31), none, (.bin .lss (.tmp 29) (.tmp 30))⟩]) (.cond (.tmp 31) .skip (.exit 2))) (.seq (.block 3 (.draw (mB 52 4503582447501312) [] [⟨0, (mB 52 4503582447501312), [], ⟨(some 34), none, (.mv (.tmp 11))⟩⟩, ⟨1, (mB 52 4503582447501312), [], ⟨(some 35), none, (.mv (.tmp 0))⟩⟩, ⟨2, (mB 52 4503582447501312), [], ⟨(some 36), none, (.mv (.tmp 12))⟩⟩, ⟨5, (mB 52 4503582447501312), [], ⟨(some 39), none, (.mv (.tmp 1))⟩⟩, ⟨6, (mB 52 4503582447501312), [], ⟨(some 40), none, (.mv (.tmp 12))⟩⟩, ⟨11, (mB 52 4503582447501312), [], ⟨(some 45), none, (.mv (.tmp 12))⟩⟩, ⟨15, (mB 52 4503582447501312), [], ⟨(some 49), none, (.mv (.tmp 12))⟩⟩, ⟨3, (mB 52 3903678595465216), [], ⟨(some 37), none, (.call 22 [(.tmp 36)])⟩⟩, ⟨4, (mB 52 3903541156511744), [], ⟨(some 38), none, (.bin .add (.const (.string ⟨⟨[115, 116, 97, 114, 116]⟩⟩)) (.tmp 37))⟩⟩, ⟨7, (mB 52 3903678595465216), [], ⟨(some 41), none, (.ia 1 (.tmp 39) (.tmp 40))⟩⟩, ⟨8, (mB 52 3901479572209664), [], ⟨(some 42), none, (.load 1 false (.tmp 41))⟩⟩, ⟨9, (mB 52 3896944086745088), [], ⟨(some 43), none, (.call 22 [(.tmp 42)])⟩⟩, ⟨10, (mB 52 3888147993722880), [], ⟨(some 44), none, (.bin .add (.const (.string ⟨⟨[118]⟩⟩)) (.tmp 43))⟩⟩, ⟨12, (mB 52 3903678595465216), [], ⟨(some 46), none, (.bin .add (.tmp 45) (.const (.int .i64 1)))⟩⟩, ⟨13, (mB 52 3817779249545216), [], ⟨(some 47), none, (.call 22 [(.tmp 46)])⟩⟩, ⟨14, (mB 52 3677041761189888), [], ⟨(some 48), none, (.bin .add (.const (.string ⟨⟨[115]⟩⟩)) (.tmp 47))⟩⟩, ⟨16, (mB 52 3677041761189888), [], ⟨(some 50), none, (.call 22 [(.tmp 49)])⟩⟩, ⟨17, (mB 52 2551141854347264), [], ⟨(some 51), none, (.bin .add (.const (.string ⟨⟨[115]⟩⟩)) (.tmp 50))⟩⟩] [⟨(some 52), none, (.callX 23 [(.tmp 35), (.tmp 38), (.tmp 44), (.tmp 48), (.const (.string ⟨⟨[]⟩⟩)), (.tmp 51)])⟩, ⟨(some 53), none, (.bsl 1 [(.tmp 52)])⟩, ⟨(some 54), none, (.app 1 8 (.tmp 34) (.tmp 53))⟩, ⟨(some 11), none, (.asg (.tmp 54))⟩])) (.ops [
  ⟨(some 32), none, (.mv (.tmp 12))⟩,
  ⟨(some 33), none, (.bin .add (.tmp 32) (.const (.int .i64 1)))⟩,
  ⟨(some 12), none, (.asg (.tmp 33))⟩])))))) (.seq (.ops [
  ⟨(some 55), none, (.mv (.tmp 11))⟩,
  ⟨(some 56), none, (.mv (.tmp 0))⟩,
  ⟨(some 57), none, (.mv (.tmp 3))⟩,
  ⟨(some 58), none, (.mv (.tmp 9))⟩,
  ⟨(some 59), none, (.callX 22 [(.tmp 58)])⟩,
  ⟨(some 60), none, (.bin .add (.const (.string ⟨⟨[115]⟩⟩)) (.tmp 59))⟩,
  ⟨(some 61), none, (.callX 23 [(.tmp 56), (.const (.string ⟨⟨[114, 105, 103, 104, 116]⟩⟩)), (.tmp 57), (.const (.string ⟨⟨[]⟩⟩)), (.const (.string ⟨⟨[]⟩⟩)), (.tmp 60)])⟩,
  ⟨(some 62), none, (.bsl 1 [(.tmp 61)])⟩,
  ⟨(some 63), none, (.app 1 8 (.tmp 55) (.tmp 62))⟩,
  ⟨(some 8), none, (.asg (.tmp 63))⟩]) .ret))))))
theorem law_spec_l15Maker_seed {a0 a1 a2 a3 d : D} {cells cells' : List D} (h : ∀ b, code_spec_l15Maker_seed.wp (CT Tryd.prog TabG) (endX [(.t 8)] d 0 b cells') [.box (some b) cells, a1, a2, a3, .undef, .undef, .undef, .undef, .undef, .undef, .undef, .undef, .undef, .undef, .undef, .undef, .undef, .undef, .undef, .undef, .undef, .undef, .undef, .undef, .undef, .undef, .undef, .undef, .undef, .undef, .undef, .undef, .undef, .undef, .undef, .undef, .undef, .undef, .undef, .undef, .undef, .undef, .undef, .undef, .undef, .undef, .undef, .undef, .undef, .undef, .undef, .undef, .undef, .undef, .undef, .undef, .undef, .undef, .undef, .undef, .undef, .undef, .undef, .undef]) : ContractX Tryd.prog TabG 25 0 [a0, a1, a2, a3] cells d cells' :=
  contract_ofX (pt := 2097152) tabG Tryd.func25 (fun us W => by kernel_rfl) (c := Tryd.f25.body.getD .skip) (ms := [(mB 64 18446744073709550064), (mB 64 18419722458497017332)]) (ms' := []) (by kernel_rfl) (by kernel_rfl) (by kernel_rfl) (by simp) h
set_option maxHeartbeats 4000000 in
theorem v_seed_spec (G : List Glue) (T : List Tile) (ds : List Nat) (l r : ByteArray) (hm : okM G) (hG : G.length ≤ 50000) (hT : T.length ≤ 50000) (hd : ds.length ≤ 1000) (hx : ∀ x, x ∈ ds → x ≤ 1000) (hf : ∀ k, fresh G (nm1 [115] k)) (hs : freshS T) :
    ContractX Tryd.prog TabG 25 0 [.undef, .sl false 1 (ds.map rNt), .v (.string l), .v (.string r)] (mkS G T) (.sl true 1 ((sdR T.length (ds.length + 2)).map rI)) (mkS (sdG G (ds.length + 1)) (sdT1 (sdG G (ds.length + 1)) T l r ds)) := by
  refine law_spec_l15Maker_seed ?_; intro bb; unfold code_spec_l15Maker_seed; simp -implicitDefEqProofs (disch := omega) only [go_sem, ↓reduceIte , List.length_map]; refine loop_ov (by simp -implicitDefEqProofs (disch := omega) only [go_sem, ↓reduceIte]; exact rfl) (fun i : Nat => [(0, bbS bb (sdG G i) T), (10, .v (.int .i64 (i : Nat)))]) (fun _ => by simp only [ovr_nil, ovr_cons, List.set_cons_zero, List.set_cons_succ]; exact rfl) (fun i : Nat => i ≤ ds.length + 1) (fun i : Nat => ds.length + 1 - i) (0) (by rw [show sdG G 0 = G from List.append_nil _]; (try simp -implicitDefEqProofs only [nleL_cc, nleL_nn, nle_self, nle_boxs, nle_aggs, nle_nils, and_self, and_true, true_and]) <;> repeat' (first | exact nle_of_eq rfl | exact nle_nil | apply And.intro | apply nle_sl | apply nleLL_cons | apply nleL_cons | exact nleL_nil | exact nleLL_nil | apply nle_box | apply nle_agg)) (?_) ?_
  · exact Nat.zero_le _
  intro i hi; simp -implicitDefEqProofs (disch := omega) only [go_sem, ↓reduceIte]; refine cond_split ?_ ?_ <;> intro hlt
  · have hlt : i ≤ ds.length := (by have := of_decide_eq_true hlt; omega); have hz := szN (k := 1) (n := i) (by omega) (by omega); have hg := v_mglue_spec (sdG G i) T (nm1 [115] i) 2 (by rw [sdG_len]; omega) (sdG_fresh hf i); rw [← sdG_next] at hg; simp -implicitDefEqProofs (disch := omega) only [go_sem, ↓reduceIte]; refine call_B (v_Decimal_spec (i : Int) (small_nat (by omega))) (by simp -implicitDefEqProofs (disch := omega) only [go_sem, ↓reduceIte, deep, TD.rows, immLL_rI, immLL_rB8, immLL_rS, immLL_rBo, immLL_rII, immLL_rIIt, nm_mk, szl', aszl', hz]; exact rfl) ?_; simp -implicitDefEqProofs (disch := omega) only [go_sem, ↓reduceIte , nm_mk, szl', aszl', hz]; refine call_ioA (i := 0) (r := 0) (hg) rfl rfl (by simp -implicitDefEqProofs (disch := omega) only [go_sem, ↓reduceIte, deep, TD.rows, immLL_rI, immLL_rB8, immLL_rS, immLL_rBo, immLL_rII, immLL_rIIt, wrN]; exact rfl) (by repeat (first | exact leL_nil | refine leL_cons ?_ ?_ | exact le_of_eq rfl | exact le_iptrN (leL_of_eq rfl) | refine le_agg ?_ | exact le_slf rfl (TD.rows ..) | refine le_iptr ?_ | refine le_fn ?_ ?_ | exact le_nilsl_)) (by repeat (first | exact leL_nil | refine leL_cons ?_ ?_ | exact le_of_eq rfl | exact le_iptrN (leL_of_eq rfl) | refine le_agg ?_ | exact le_slf rfl (TD.rows ..) | refine le_iptr ?_ | refine le_fn ?_ ?_ | exact le_nilsl_)) (by first | exact .inr rfl | exact .inl ⟨rfl, rfl⟩ | exact .inl ⟨by simp only [D.noImm, noImmL, go_sem, TD.nims, TD.nim, nim_rI, nim_rB8, nim_rBo, nim_rS], by simp only [D.noImm, noImmL, go_sem, TD.nims, TD.nim, nim_rI, nim_rB8, nim_rBo, nim_rS]⟩) ?_; simp -implicitDefEqProofs (disch := omega) only [go_sem, ↓reduceIte , wrN]; exact ⟨i + 1, by omega, by omega, nleA⟩
  obtain rfl : i = ds.length + 1 := by have := of_decide_eq_false hlt
                                       omega
  have hok := sdG_ok hm hf (ds.length + 1); have hGl : (sdG G (ds.length + 1)).length ≤ 100000 := (by rw [sdG_len]; omega); generalize sdG G (ds.length + 1) = H at *; have h0 := v_mtile_spec H T nLeft l nS0 noneS noneS (by omega) hGl hs.l; rw [sideN_empty hok, show T ++ [Tile.mk nLeft [sideN H l, sideN H nS0, 0, 0]] = sdT0 H T l from rfl] at h0; unfold nLeft nS0 noneS at h0; simp -implicitDefEqProofs (disch := omega) only [go_sem, ↓reduceIte]; refine call_ioA (i := 0) (r := 0) (h0) rfl rfl (by simp -implicitDefEqProofs (disch := omega) only [go_sem, ↓reduceIte, deep, TD.rows, immLL_rI, immLL_rB8, immLL_rS, immLL_rBo, immLL_rII, immLL_rIIt]; exact rfl) (by repeat (first | exact leL_nil | refine leL_cons ?_ ?_ | exact le_of_eq rfl | exact le_iptrN (leL_of_eq rfl) | refine le_agg ?_ | exact le_slf rfl (TD.rows ..) | refine le_iptr ?_ | refine le_fn ?_ ?_ | exact le_nilsl_)) (by repeat (first | exact leL_nil | refine leL_cons ?_ ?_ | exact le_of_eq rfl | exact le_iptrN (leL_of_eq rfl) | refine le_agg ?_ | exact le_slf rfl (TD.rows ..) | refine le_iptr ?_ | refine le_fn ?_ ?_ | exact le_nilsl_)) (by first | exact .inr rfl | exact .inl ⟨rfl, rfl⟩ | exact .inl ⟨by simp only [D.noImm, noImmL, go_sem, TD.nims, TD.nim, nim_rI, nim_rB8, nim_rBo, nim_rS], by simp only [D.noImm, noImmL, go_sem, TD.nims, TD.nim, nim_rI, nim_rB8, nim_rBo, nim_rS]⟩) ?_; simp -implicitDefEqProofs (disch := omega) only [go_sem, ↓reduceIte]; refine loop_ov (by simp -implicitDefEqProofs (disch := omega) only [go_sem, ↓reduceIte]; exact rfl) (fun i : Nat => [(0, bbS bb H (sdT H T l ds i)), (11, .sl true 1 ((sdR T.length (i + 1)).map rI)), (12, .v (.int .i64 (i : Nat)))]) (fun _ => by simp only [ovr_nil, ovr_cons, List.set_cons_zero, List.set_cons_succ]; exact rfl) (fun i : Nat => i ≤ ds.length) (fun i : Nat => ds.length - i) (0) (by rw [show sdT H T l ds 0 = sdT0 H T l from List.append_nil _]; (try simp -implicitDefEqProofs only [nleL_cc, nleL_nn, nle_self, nle_boxs, nle_aggs, nle_nils, and_self, and_true, true_and]) <;> repeat' (first | exact nle_of_eq rfl | exact nle_nil | apply And.intro | apply nle_sl | apply nleLL_cons | apply nleL_cons | exact nleL_nil | exact nleLL_nil | apply nle_box | apply nle_agg)) (?_) ?_
  · exact Nat.zero_le _
  intro i hi; simp -implicitDefEqProofs (disch := omega) only [go_sem, ↓reduceIte]; refine cond_split ?_ ?_ <;> intro hlt
  · have hlt : i < ds.length := (by simpa using hlt); have e1 := List.getElem?_eq_getElem hlt; have hx1 := hx _ (List.getElem_mem hlt); have hw : IntKind.i64.wrap ((i : Int) + 1) = ((i + 1 : Nat) : Int) := (by rw [wrI (by omega) (by omega)]; omega); have hz5 := szN (k := 5) (n := i) (by omega) (by omega); have hzv := szN (k := 1) (n := ds[i]) (by omega) (by omega); have hz1 := szN (k := 1) (n := i + 1) (by omega) (by omega); have hz0 := szN (k := 1) (n := i) (by omega) (by omega); have hK : sdK H ds i = ⟨nm1 pStart i, [sideN H (nm1 [118] ds[i]), sideN H (nm1 [115] (i + 1)), 0, sideN H (nm1 [115] i)]⟩ := (by unfold sdK; rw [List.getD_eq_getElem?_getD, e1]; rfl); have ht := v_mtile_spec H (sdT H T l ds i) (nm1 pStart i) (nm1 [118] ds[i]) (nm1 [115] (i + 1)) noneS (nm1 [115] i) (by rw [sdT_len]; omega) hGl (sdT_freshK hs i); rw [sideN_empty hok, ← hK, ← sdT_next, sdT_len] at ht; unfold pStart noneS mkS at ht; have hlen : (List.map rI (sdR T.length (i + 1))).length = i + 1 := (by rw [List.length_map, sdR_len]); simp -implicitDefEqProofs (disch := omega) only [go_sem, ↓reduceIte]; refine call_NB (v_Decimal_spec (i : Int) (small_nat (by omega))) (by simp -implicitDefEqProofs (disch := omega) only [go_sem, ↓reduceIte, deep, TD.rows, immLL_rI, immLL_rB8, immLL_rS, immLL_rBo, immLL_rII, immLL_rIIt, nm_mk, szl', aszl', hz5, List.length_map, Int.toNat_natCast, Int.ofNat_lt, Int.natCast_nonneg, List.getElem?_map, Option.map_some, hlt, e1, rNt]; exact rfl) ?_; simp -implicitDefEqProofs (disch := omega) only [go_sem, ↓reduceIte , nm_mk, szl', aszl', hz5, List.length_map, Int.toNat_natCast, Int.ofNat_lt, Int.natCast_nonneg, List.getElem?_map, Option.map_some, hlt, e1, rNt]; refine call_NB (v_Decimal_spec (ds[i] : Int) (small_nat (by omega))) (by simp -implicitDefEqProofs (disch := omega) only [go_sem, ↓reduceIte, deep, TD.rows, immLL_rI, immLL_rB8, immLL_rS, immLL_rBo, immLL_rII, immLL_rIIt, nm_mk, szl', aszl', hzv, hw]; exact rfl) ?_; simp -implicitDefEqProofs (disch := omega) only [go_sem, ↓reduceIte , nm_mk, szl', aszl', hzv, hw]; refine call_NB (v_Decimal_spec ((i + 1 : Nat) : Int) (small_nat (by omega))) (by simp -implicitDefEqProofs (disch := omega) only [go_sem, ↓reduceIte, deep, TD.rows, immLL_rI, immLL_rB8, immLL_rS, immLL_rBo, immLL_rII, immLL_rIIt, nm_mk, szl', aszl', hz1]; exact rfl) ?_; simp -implicitDefEqProofs (disch := omega) only [go_sem, ↓reduceIte , nm_mk, szl', aszl', hz1]; refine call_NB (v_Decimal_spec (i : Int) (small_nat (by omega))) (by simp -implicitDefEqProofs (disch := omega) only [go_sem, ↓reduceIte, deep, TD.rows, immLL_rI, immLL_rB8, immLL_rS, immLL_rBo, immLL_rII, immLL_rIIt, nm_mk, szl', aszl', hz0]; exact rfl) ?_; simp -implicitDefEqProofs (disch := omega) only [go_sem, ↓reduceIte , nm_mk, szl', aszl', hz0]; refine call_ioA (i := 0) (r := 0) (ht) rfl rfl (by simp -implicitDefEqProofs (disch := omega) only [go_sem, ↓reduceIte, deep, TD.rows, immLL_rI, immLL_rB8, immLL_rS, immLL_rBo, immLL_rII, immLL_rIIt, wrN, hlen]; exact rfl) (by repeat (first | exact leL_nil | refine leL_cons ?_ ?_ | exact le_of_eq rfl | exact le_iptrN (leL_of_eq rfl) | refine le_agg ?_ | exact le_slf rfl (TD.rows ..) | refine le_iptr ?_ | refine le_fn ?_ ?_ | exact le_nilsl_)) (by repeat (first | exact leL_nil | refine leL_cons ?_ ?_ | exact le_of_eq rfl | exact le_iptrN (leL_of_eq rfl) | refine le_agg ?_ | exact le_slf rfl (TD.rows ..) | refine le_iptr ?_ | refine le_fn ?_ ?_ | exact le_nilsl_)) (by first | exact .inr rfl | exact .inl ⟨rfl, rfl⟩ | exact .inl ⟨by simp only [D.noImm, noImmL, go_sem, TD.nims, TD.nim, nim_rI, nim_rB8, nim_rBo, nim_rS], by simp only [D.noImm, noImmL, go_sem, TD.nims, TD.nim, nim_rI, nim_rB8, nim_rBo, nim_rS]⟩) ?_; simp -implicitDefEqProofs (disch := omega) only [go_sem, ↓reduceIte , wrN, hlen]; refine ⟨by omega, i + 1, by omega, hlt, ?_⟩; rw [sdR_row]
    (try simp -implicitDefEqProofs only [nleL_cc, nleL_nn, nle_self, nle_boxs, nle_aggs, nle_nils, and_self, and_true, true_and]) <;> repeat' (first | exact nle_of_eq rfl | exact nle_nil | apply And.intro | apply nle_sl | apply nleLL_cons | apply nleL_cons | exact nleL_nil | exact nleLL_nil | apply nle_box | apply nle_agg)
  · obtain rfl : i = ds.length := (by have : ¬ i < ds.length := (by simpa using hlt); omega); have hz0 := szN (k := 1) (n := ds.length) (by omega) (by omega); have ht := v_mtile_spec H (sdT H T l ds ds.length) nRight r noneS noneS (nm1 [115] ds.length) (by rw [sdT_len]; omega) hGl (sdT_freshR hs _); rw [sideN_empty hok, sdT_len, show sdT H T l ds ds.length ++ [Tile.mk nRight [sideN H r, 0, 0, sideN H (nm1 [115] ds.length)]] = sdT1 H T l r ds from rfl] at ht; unfold nRight noneS mkS at ht; have hlen : (List.map rI (sdR T.length (ds.length + 1))).length = ds.length + 1 := (by rw [List.length_map, sdR_len]); simp -implicitDefEqProofs (disch := omega) only [go_sem, ↓reduceIte]; refine call_B (v_Decimal_spec (ds.length : Int) (small_nat (by omega))) (by simp -implicitDefEqProofs (disch := omega) only [go_sem, ↓reduceIte, deep, TD.rows, immLL_rI, immLL_rB8, immLL_rS, immLL_rBo, immLL_rII, immLL_rIIt, nm_mk, szl', aszl', hz0]; exact rfl) ?_; simp -implicitDefEqProofs (disch := omega) only [go_sem, ↓reduceIte , nm_mk, szl', aszl', hz0]; refine call_ioA (i := 0) (r := 0) (ht) rfl rfl (by simp -implicitDefEqProofs (disch := omega) only [go_sem, ↓reduceIte, deep, TD.rows, immLL_rI, immLL_rB8, immLL_rS, immLL_rBo, immLL_rII, immLL_rIIt, hlen]; exact rfl) (by repeat (first | exact leL_nil | refine leL_cons ?_ ?_ | exact le_of_eq rfl | exact le_iptrN (leL_of_eq rfl) | refine le_agg ?_ | exact le_slf rfl (TD.rows ..) | refine le_iptr ?_ | refine le_fn ?_ ?_ | exact le_nilsl_)) (by repeat (first | exact leL_nil | refine leL_cons ?_ ?_ | exact le_of_eq rfl | exact le_iptrN (leL_of_eq rfl) | refine le_agg ?_ | exact le_slf rfl (TD.rows ..) | refine le_iptr ?_ | refine le_fn ?_ ?_ | exact le_nilsl_)) (by first | exact .inr rfl | exact .inl ⟨rfl, rfl⟩ | exact .inl ⟨by simp only [D.noImm, noImmL, go_sem, TD.nims, TD.nim, nim_rI, nim_rB8, nim_rBo, nim_rS], by simp only [D.noImm, noImmL, go_sem, TD.nims, TD.nim, nim_rI, nim_rB8, nim_rBo, nim_rS]⟩) ?_; simp -implicitDefEqProofs (disch := omega) only [go_sem, ↓reduceIte , hlen]; exact ⟨by omega, (sdR_row T.length ds.length).symm, leL_of_eq rfl⟩
def code_impl_maker_seedRow : VCode := (.seq (.ops [
  ⟨(some 8), none, (.alloc [(.slice none 0 0)])⟩]) (.seq (.ops [
  ⟨(some 18), none, (.mv (.tmp 1))⟩,
  ⟨(some 19), none, (.len (.tmp 18))⟩,
  ⟨(some 9), none, (.asg (.tmp 19))⟩]) (.seq (.seq (.ops [
  ⟨(some 20), none, (.mv (.tmp 9))⟩,
  ⟨(some 21), none, (.bin .add (.tmp 20) (.const (.int .i64 1)))⟩,
  ⟨(some 22), none, (.mv (.const (.int .i64 0)))⟩]) (.block 0 (.loop (mB 87 154742504910672534356098288) (.seq (.ops [
  ⟨(some 23), none, (.bin .lss (.tmp 22) (.tmp 21))⟩]) (.seq (.cond (.tmp 23) .skip (.exit 0)) (.seq (.block 1 (.seq (.ops [
  ⟨(some 24), none, (.mv (.tmp 22))⟩,
  ⟨(some 10), none, (.asg (.tmp 24))⟩]) (.ops [
  ⟨(some 25), none, (.mv (.tmp 0))⟩,
  ⟨(some 26), none, (.mv (.tmp 10))⟩,
  ⟨(some 27), none, (.callX 32 [(.const (.string ⟨⟨[115]⟩⟩)), (.tmp 26)])⟩,
  ⟨(some 28), none, (.callX 31 [(.tmp 25), (.tmp 27), (.const (.int .i64 2))])⟩]))) (.ops [
  ⟨(some 29), none, (.bin .add (.tmp 22) (.const (.int .i64 1)))⟩,
  ⟨(some 22), none, (.mv (.tmp 29))⟩]))))))) (.seq (.ops [
  ⟨(some 30), none, (.mv (.tmp 0))⟩,
  ⟨(some 31), none, (.mv (.tmp 2))⟩,
  ⟨(some 32), none, (.bsl 1 [(.tmp 31), (.const (.string ⟨⟨[115, 48]⟩⟩)), (.const (.string ⟨⟨[45]⟩⟩)), (.const (.string ⟨⟨[45]⟩⟩))])⟩,
  ⟨(some 33), none, (.callX 33 [(.tmp 30), (.const (.string ⟨⟨[108, 101, 102, 116]⟩⟩)), (.tmp 32)])⟩,
  ⟨(some 34), none, (.bsl 1 [(.tmp 33)])⟩,
  ⟨(some 11), none, (.asg (.tmp 34))⟩]) (.seq (.seq (.ops [
  ⟨(some 35), none, (.mv (.tmp 1))⟩,
  ⟨(some 36), none, (.len (.tmp 35))⟩,
  ⟨(some 37), none, (.mv (.const (.int .i64 0)))⟩]) (.block 2 (.loop (mB 87 154742282757101061639501046) (.seq (.ops [
  ⟨(some 38), none, (.bin .lss (.tmp 37) (.tmp 36))⟩]) (.seq (.cond (.tmp 38) .skip (.exit 2)) (.seq (.block 3 (.seq (.ops [
  ⟨(some 39), none, (.mv (.tmp 37))⟩,
  ⟨(some 40), none, (.ia 1 (.tmp 35) (.tmp 37))⟩,
  ⟨(some 41), none, (.load 1 false (.tmp 40))⟩,
  ⟨(some 12), none, (.asg (.tmp 39))⟩,
  ⟨(some 13), none, (.asg (.tmp 41))⟩]) (.seq (.ops [
  ⟨(some 42), none, (.mv (.tmp 12))⟩,
  ⟨(some 14), none, (.asg (.tmp 42))⟩]) (.ops [
  ⟨(some 43), none, (.mv (.tmp 11))⟩,
  ⟨(some 44), none, (.mv (.tmp 0))⟩,
  ⟨(some 45), none, (.mv (.tmp 14))⟩,
  ⟨(some 46), none, (.callX 32 [(.const (.string ⟨⟨[115, 116, 97, 114, 116]⟩⟩)), (.tmp 45)])⟩,
  ⟨(some 47), none, (.mv (.tmp 13))⟩,
  ⟨(some 48), none, (.callX 32 [(.const (.string ⟨⟨[118]⟩⟩)), (.tmp 47)])⟩,
  ⟨(some 49), none, (.mv (.tmp 14))⟩,
  ⟨(some 50), none, (.bin .add (.tmp 49) (.const (.int .i64 1)))⟩,
  ⟨(some 51), none, (.callX 32 [(.const (.string ⟨⟨[115]⟩⟩)), (.tmp 50)])⟩,
  ⟨(some 52), none, (.mv (.tmp 14))⟩,
  ⟨(some 53), none, (.callX 32 [(.const (.string ⟨⟨[115]⟩⟩)), (.tmp 52)])⟩,
  ⟨(some 54), none, (.bsl 1 [(.tmp 48), (.tmp 51), (.const (.string ⟨⟨[45]⟩⟩)), (.tmp 53)])⟩,
  ⟨(some 55), none, (.callX 33 [(.tmp 44), (.tmp 46), (.tmp 54)])⟩,
  ⟨(some 56), none, (.bsl 1 [(.tmp 55)])⟩,
  ⟨(some 57), none, (.app 1 8 (.tmp 43) (.tmp 56))⟩,
  ⟨(some 11), none, (.asg (.tmp 57))⟩])))) (.ops [
  ⟨(some 58), none, (.bin .add (.tmp 37) (.const (.int .i64 1)))⟩,
  ⟨(some 37), none, (.mv (.tmp 58))⟩]))))))) (.seq (.ops [
  ⟨(some 59), none, (.mv (.tmp 11))⟩,
  ⟨(some 60), none, (.mv (.tmp 0))⟩,
  ⟨(some 61), none, (.mv (.tmp 3))⟩,
  ⟨(some 62), none, (.mv (.tmp 9))⟩,
  ⟨(some 63), none, (.callX 32 [(.const (.string ⟨⟨[115]⟩⟩)), (.tmp 62)])⟩,
  ⟨(some 64), none, (.bsl 1 [(.tmp 61), (.const (.string ⟨⟨[45]⟩⟩)), (.const (.string ⟨⟨[45]⟩⟩)), (.tmp 63)])⟩,
  ⟨(some 65), none, (.callX 33 [(.tmp 60), (.const (.string ⟨⟨[114, 105, 103, 104, 116]⟩⟩)), (.tmp 64)])⟩,
  ⟨(some 66), none, (.bsl 1 [(.tmp 65)])⟩,
  ⟨(some 67), none, (.app 1 8 (.tmp 59) (.tmp 66))⟩,
  ⟨(some 11), none, (.asg (.tmp 67))⟩]) (.seq (.ops [
  ⟨(some 15), none, (.alloc [(.slice none 0 0)])⟩]) (.seq (.seq (.ops [
  ⟨(some 68), none, (.mv (.tmp 11))⟩,
  ⟨(some 69), none, (.len (.tmp 68))⟩,
  ⟨(some 70), none, (.mv (.const (.int .i64 0)))⟩]) (.block 4 (.loop (mB 87 154740216721765046687856382) (.seq (.ops [
  ⟨(some 71), none, (.bin .lss (.tmp 70) (.tmp 69))⟩]) (.seq (.cond (.tmp 71) .skip (.exit 4)) (.seq (.block 5 (.seq (.ops [
  ⟨(some 72), none, (.mv (.tmp 70))⟩,
  ⟨(some 73), none, (.ia 1 (.tmp 68) (.tmp 70))⟩,
  ⟨(some 74), none, (.load 1 false (.tmp 73))⟩,
  ⟨(some 16), none, (.asg (.tmp 72))⟩,
  ⟨(some 17), none, (.asg (.tmp 74))⟩]) (.ops [
  ⟨(some 75), none, (.fa 0 (.tmp 15))⟩,
  ⟨(some 76), none, (.load 1 false (.tmp 75))⟩,
  ⟨(some 77), none, (.mv (.tmp 16))⟩,
  ⟨(some 78), none, (.bin .sub (.tmp 77) (.const (.int .i64 1)))⟩,
  ⟨(some 79), none, (.build [(.int .i64 0), (.int .i64 0)] [(0, 1, (.tmp 78)), (1, 1, (.const (.int .i64 0)))])⟩,
  ⟨(some 80), none, (.mv (.tmp 17))⟩,
  ⟨(some 81), none, (.build [(.int .i64 0), (.int .i64 0), (.int .i64 0)] [(0, 2, (.tmp 79)), (2, 1, (.tmp 80))])⟩,
  ⟨(some 82), none, (.bsl 3 [(.tmp 81)])⟩,
  ⟨(some 83), none, (.app 3 24 (.tmp 76) (.tmp 82))⟩,
  ⟨(some 84), none, (.fa 0 (.tmp 15))⟩,
  ⟨none, none, (.store 1 (.tmp 84) (.tmp 83))⟩]))) (.ops [
  ⟨(some 85), none, (.bin .add (.tmp 70) (.const (.int .i64 1)))⟩,
  ⟨(some 70), none, (.mv (.tmp 85))⟩]))))))) (.seq (.ops [
  ⟨(some 86), none, (.load 1 true (.tmp 15))⟩,
  ⟨none, none, (.store 1 (.tmp 8) (.tmp 86))⟩]) .ret)))))))))
theorem law_impl_maker_seedRow {a0 a1 a2 a3 d : D} {cells cells' : List D} (h : ∀ b, code_impl_maker_seedRow.wp (CT Tryd.prog TabG) (endX [(.c 8 1 true)] d 0 b cells') [.box (some b) cells, a1, a2, a3, .undef, .undef, .undef, .undef, .undef, .undef, .undef, .undef, .undef, .undef, .undef, .undef, .undef, .undef, .undef, .undef, .undef, .undef, .undef, .undef, .undef, .undef, .undef, .undef, .undef, .undef, .undef, .undef, .undef, .undef, .undef, .undef, .undef, .undef, .undef, .undef, .undef, .undef, .undef, .undef, .undef, .undef, .undef, .undef, .undef, .undef, .undef, .undef, .undef, .undef, .undef, .undef, .undef, .undef, .undef, .undef, .undef, .undef, .undef, .undef, .undef, .undef, .undef, .undef, .undef, .undef, .undef, .undef, .undef, .undef, .undef, .undef, .undef, .undef, .undef, .undef, .undef, .undef, .undef, .undef, .undef, .undef, .undef]) : ContractX Tryd.prog TabG 35 0 [a0, a1, a2, a3] cells d cells' :=
  contract_ofX (pt := 0) tabG Tryd.func35 (fun us W => by kernel_rfl) (c := Tryd.f35.body.getD .skip) (ms := [(mB 87 154742504910672534356098288), (mB 87 154742282757101061639501046), (mB 87 154740216721765046687856382)]) (ms' := []) (by kernel_rfl) (by kernel_rfl) (by kernel_rfl) (by simp) h
set_option maxHeartbeats 4000000 in
theorem v_seed_impl (G : List Glue) (T : List Tile) (ds : List Nat) (l r : ByteArray) (hm : okM G) (hG : G.length ≤ 50000) (hT : T.length ≤ 50000) (hd : ds.length ≤ 1000) (hx : ∀ x, x ∈ ds → x ≤ 1000) (hf : ∀ k, fresh G (nm1 [115] k)) :
    ContractX Tryd.prog TabG 35 0 [.undef, .sl false 1 (ds.map rNt), .v (.string l), .v (.string r)] (mkI G T) (.agg (Assembly.td.d true ⟨rowP (-1) (sdR T.length (ds.length + 2))⟩)) (mkI (sdG G (ds.length + 1)) (sdT1 (sdG G (ds.length + 1)) T l r ds)) := by
  rw [Assembly.td_d]; refine law_impl_maker_seedRow ?_; intro bb; unfold code_impl_maker_seedRow; simp -implicitDefEqProofs (disch := omega) only [go_sem, ↓reduceIte , List.length_map]; have hw0 : IntKind.i64.wrap ((ds.length : Int) + 1) = ((ds.length + 1 : Nat) : Int) := by rw [wrI (by omega) (by omega)]; omega
  simp -implicitDefEqProofs (disch := omega) only [go_sem, ↓reduceIte , hw0]; refine loop_ov (by simp -implicitDefEqProofs (disch := omega) only [go_sem, ↓reduceIte]; exact rfl) (fun i : Nat => [(0, bbI bb (sdG G i) T), (22, .v (.int .i64 (i : Nat)))]) (fun _ => by simp only [ovr_nil, ovr_cons, List.set_cons_zero, List.set_cons_succ]; exact rfl) (fun i : Nat => i ≤ ds.length + 1) (fun i : Nat => ds.length + 1 - i) (0) (by rw [show sdG G 0 = G from List.append_nil _]; (try simp -implicitDefEqProofs only [nleL_cc, nleL_nn, nle_self, nle_boxs, nle_aggs, nle_nils, and_self, and_true, true_and]) <;> repeat' (first | exact nle_of_eq rfl | exact nle_nil | apply And.intro | apply nle_sl | apply nleLL_cons | apply nleL_cons | exact nleL_nil | exact nleLL_nil | apply nle_box | apply nle_agg)) (?_) ?_
  · exact Nat.zero_le _
  intro i hi; simp -implicitDefEqProofs (disch := omega) only [go_sem, ↓reduceIte]; refine cond_split ?_ ?_ <;> intro hlt
  · have hlt : i < ds.length + 1 := (by have := of_decide_eq_true hlt; omega); have hg := v_mglue_impl (sdG G i) T (nm1 [115] i) 2 (by rw [sdG_len]; omega) (sdG_fresh hf i) (nm_ne (b := []) (u := [45]) (by rfl) (by rfl) (by simp)); rw [← sdG_next] at hg; simp -implicitDefEqProofs (disch := omega) only [go_sem, ↓reduceIte]; refine call_B (v_numbered [115] i (by simp) (by omega)) (by simp -implicitDefEqProofs (disch := omega) only [go_sem, ↓reduceIte, deep, TD.rows, immLL_rI, immLL_rB8, immLL_rS, immLL_rBo, immLL_rII, immLL_rIIt]; exact rfl) ?_; simp -implicitDefEqProofs (disch := omega) only [go_sem, ↓reduceIte]; refine call_ioA (i := 0) (r := 0) (hg) rfl rfl (by simp -implicitDefEqProofs (disch := omega) only [go_sem, ↓reduceIte, deep, TD.rows, immLL_rI, immLL_rB8, immLL_rS, immLL_rBo, immLL_rII, immLL_rIIt, wrN]; exact rfl) (by repeat (first | exact leL_nil | refine leL_cons ?_ ?_ | exact le_of_eq rfl | exact le_iptrN (leL_of_eq rfl) | refine le_agg ?_ | exact le_slf rfl (TD.rows ..) | refine le_iptr ?_ | refine le_fn ?_ ?_ | exact le_nilsl_)) (by repeat (first | exact leL_nil | refine leL_cons ?_ ?_ | exact le_of_eq rfl | exact le_iptrN (leL_of_eq rfl) | refine le_agg ?_ | exact le_slf rfl (TD.rows ..) | refine le_iptr ?_ | refine le_fn ?_ ?_ | exact le_nilsl_)) (by first | exact .inr rfl | exact .inl ⟨rfl, rfl⟩ | exact .inl ⟨by simp only [D.noImm, noImmL, go_sem, TD.nims, TD.nim, nim_rI, nim_rB8, nim_rBo, nim_rS], by simp only [D.noImm, noImmL, go_sem, TD.nims, TD.nim, nim_rI, nim_rB8, nim_rBo, nim_rS]⟩) ?_; simp -implicitDefEqProofs (disch := omega) only [go_sem, ↓reduceIte , wrN]; exact ⟨i + 1, by omega, hlt, nleA⟩
  obtain rfl : i = ds.length + 1 := by have := of_decide_eq_false hlt
                                       omega
  have hok := sdG_ok hm hf (ds.length + 1); have hGl : (sdG G (ds.length + 1)).length ≤ 100000 := (by rw [sdG_len]; omega); generalize sdG G (ds.length + 1) = H at *; have h0 := v_mtile4 H T nLeft l nS0 dash dash hok (by omega) hGl; rw [sideN_dash hok, show T ++ [Tile.mk nLeft [sideN H l, sideN H nS0, 0, 0]] = sdT0 H T l from rfl] at h0; unfold nLeft nS0 dash mkI at h0; simp -implicitDefEqProofs (disch := omega) only [go_sem, ↓reduceIte]; refine call_ioA (i := 0) (r := 0) (h0) rfl rfl (by simp -implicitDefEqProofs (disch := omega) only [go_sem, ↓reduceIte, deep, TD.rows, immLL_rI, immLL_rB8, immLL_rS, immLL_rBo, immLL_rII, immLL_rIIt, List.length_map]; exact rfl) (by repeat (first | exact leL_nil | refine leL_cons ?_ ?_ | exact le_of_eq rfl | exact le_iptrN (leL_of_eq rfl) | refine le_agg ?_ | exact le_slf rfl (TD.rows ..) | refine le_iptr ?_ | refine le_fn ?_ ?_ | exact le_nilsl_)) (by repeat (first | exact leL_nil | refine leL_cons ?_ ?_ | exact le_of_eq rfl | exact le_iptrN (leL_of_eq rfl) | refine le_agg ?_ | exact le_slf rfl (TD.rows ..) | refine le_iptr ?_ | refine le_fn ?_ ?_ | exact le_nilsl_)) (by first | exact .inr rfl | exact .inl ⟨rfl, rfl⟩ | exact .inl ⟨by simp only [D.noImm, noImmL, go_sem, TD.nims, TD.nim, nim_rI, nim_rB8, nim_rBo, nim_rS], by simp only [D.noImm, noImmL, go_sem, TD.nims, TD.nim, nim_rI, nim_rB8, nim_rBo, nim_rS]⟩) ?_; simp -implicitDefEqProofs (disch := omega) only [go_sem, ↓reduceIte , List.length_map]; refine loop_ov (by simp -implicitDefEqProofs (disch := omega) only [go_sem, ↓reduceIte]; exact rfl) (fun i : Nat => [(0, bbI bb H (sdT H T l ds i)), (11, .sl true 1 ((sdR T.length (i + 1)).map rI)), (37, .v (.int .i64 (i : Nat)))]) (fun _ => by simp only [ovr_nil, ovr_cons, List.set_cons_zero, List.set_cons_succ]; exact rfl) (fun i : Nat => i ≤ ds.length) (fun i : Nat => ds.length - i) (0) (by rw [show sdT H T l ds 0 = sdT0 H T l from List.append_nil _]; (try simp -implicitDefEqProofs only [nleL_cc, nleL_nn, nle_self, nle_boxs, nle_aggs, nle_nils, and_self, and_true, true_and]) <;> repeat' (first | exact nle_of_eq rfl | exact nle_nil | apply And.intro | apply nle_sl | apply nleLL_cons | apply nleL_cons | exact nleL_nil | exact nleLL_nil | apply nle_box | apply nle_agg)) (?_) ?_
  · exact Nat.zero_le _
  intro i hi; simp -implicitDefEqProofs (disch := omega) only [go_sem, ↓reduceIte]; refine cond_split ?_ ?_ <;> intro hlt
  · have hlt : i < ds.length := (by simpa using hlt); have e1 := List.getElem?_eq_getElem hlt; have hx1 := hx _ (List.getElem_mem hlt); have hw : IntKind.i64.wrap ((i : Int) + 1) = ((i + 1 : Nat) : Int) := (by rw [wrI (by omega) (by omega)]; omega); have hK : sdK H ds i = ⟨nm1 pStart i, [sideN H (nm1 [118] ds[i]), sideN H (nm1 [115] (i + 1)), 0, sideN H (nm1 [115] i)]⟩ := (by unfold sdK; rw [List.getD_eq_getElem?_getD, e1]; rfl); have ht := v_mtile4 H (sdT H T l ds i) (nm1 pStart i) (nm1 [118] ds[i]) (nm1 [115] (i + 1)) dash (nm1 [115] i) hok (by rw [sdT_len]; omega) hGl; rw [sideN_dash hok, ← hK, ← sdT_next, sdT_len] at ht; unfold pStart dash mkI at ht; have hlen : (List.map rI (sdR T.length (i + 1))).length = i + 1 := (by rw [List.length_map, sdR_len]); simp -implicitDefEqProofs (disch := omega) only [go_sem, ↓reduceIte , List.length_map, Int.toNat_natCast, Int.ofNat_lt, Int.natCast_nonneg, List.getElem?_map, Option.map_some, hlt, e1, rNt]; refine call_B (v_numbered pStart i (by simp [pStart]) (by omega)) (by simp -implicitDefEqProofs (disch := omega) only [go_sem, ↓reduceIte, deep, TD.rows, immLL_rI, immLL_rB8, immLL_rS, immLL_rBo, immLL_rII, immLL_rIIt, List.length_map, Int.toNat_natCast, Int.ofNat_lt, Int.natCast_nonneg, List.getElem?_map, Option.map_some, hlt, e1, rNt]; exact rfl) ?_; simp -implicitDefEqProofs (disch := omega) only [go_sem, ↓reduceIte , List.length_map, Int.toNat_natCast, Int.ofNat_lt, Int.natCast_nonneg, List.getElem?_map, Option.map_some, hlt, e1, rNt]; refine call_B (v_numbered [118] ds[i] (by simp) (by omega)) (by simp -implicitDefEqProofs (disch := omega) only [go_sem, ↓reduceIte, deep, TD.rows, immLL_rI, immLL_rB8, immLL_rS, immLL_rBo, immLL_rII, immLL_rIIt, hw]; exact rfl) ?_; simp -implicitDefEqProofs (disch := omega) only [go_sem, ↓reduceIte , hw]; refine call_B (v_numbered [115] (i + 1) (by simp) (by omega)) (by simp -implicitDefEqProofs (disch := omega) only [go_sem, ↓reduceIte, deep, TD.rows, immLL_rI, immLL_rB8, immLL_rS, immLL_rBo, immLL_rII, immLL_rIIt]; exact rfl) ?_; simp -implicitDefEqProofs (disch := omega) only [go_sem, ↓reduceIte]; refine call_B (v_numbered [115] i (by simp) (by omega)) (by simp -implicitDefEqProofs (disch := omega) only [go_sem, ↓reduceIte, deep, TD.rows, immLL_rI, immLL_rB8, immLL_rS, immLL_rBo, immLL_rII, immLL_rIIt]; exact rfl) ?_; simp -implicitDefEqProofs (disch := omega) only [go_sem, ↓reduceIte]; refine call_ioA (i := 0) (r := 0) (ht) rfl rfl (by simp -implicitDefEqProofs (disch := omega) only [go_sem, ↓reduceIte, deep, TD.rows, immLL_rI, immLL_rB8, immLL_rS, immLL_rBo, immLL_rII, immLL_rIIt, wrN, hlen]; exact rfl) (by repeat (first | exact leL_nil | refine leL_cons ?_ ?_ | exact le_of_eq rfl | exact le_iptrN (leL_of_eq rfl) | refine le_agg ?_ | exact le_slf rfl (TD.rows ..) | refine le_iptr ?_ | refine le_fn ?_ ?_ | exact le_nilsl_)) (by repeat (first | exact leL_nil | refine leL_cons ?_ ?_ | exact le_of_eq rfl | exact le_iptrN (leL_of_eq rfl) | refine le_agg ?_ | exact le_slf rfl (TD.rows ..) | refine le_iptr ?_ | refine le_fn ?_ ?_ | exact le_nilsl_)) (by first | exact .inr rfl | exact .inl ⟨rfl, rfl⟩ | exact .inl ⟨by simp only [D.noImm, noImmL, go_sem, TD.nims, TD.nim, nim_rI, nim_rB8, nim_rBo, nim_rS], by simp only [D.noImm, noImmL, go_sem, TD.nims, TD.nim, nim_rI, nim_rB8, nim_rBo, nim_rS]⟩) ?_; simp -implicitDefEqProofs (disch := omega) only [go_sem, ↓reduceIte , wrN, hlen]; refine ⟨by omega, i + 1, by omega, hlt, ?_⟩; rw [sdR_row]
    (try simp -implicitDefEqProofs only [nleL_cc, nleL_nn, nle_self, nle_boxs, nle_aggs, nle_nils, and_self, and_true, true_and]) <;> repeat' (first | exact nle_of_eq rfl | exact nle_nil | apply And.intro | apply nle_sl | apply nleLL_cons | apply nleL_cons | exact nleL_nil | exact nleLL_nil | apply nle_box | apply nle_agg)
  · obtain rfl : i = ds.length := (by have : ¬ i < ds.length := (by simpa using hlt); omega); have ht := v_mtile4 H (sdT H T l ds ds.length) nRight r dash dash (nm1 [115] ds.length) hok (by rw [sdT_len]; omega) hGl; rw [sideN_dash hok, sdT_len, show sdT H T l ds ds.length ++ [Tile.mk nRight [sideN H r, 0, 0, sideN H (nm1 [115] ds.length)]] = sdT1 H T l r ds from rfl] at ht; unfold nRight dash mkI at ht; have hlen : (List.map rI (sdR T.length (ds.length + 1))).length = ds.length + 1 := (by rw [List.length_map, sdR_len]); have hrow := sdR_row T.length ds.length; have hrl : (sdR T.length (ds.length + 2)).length = ds.length + 2 := sdR_len _ _; simp -implicitDefEqProofs (disch := omega) only [go_sem, ↓reduceIte]; refine call_B (v_numbered [115] ds.length (by simp) (by omega)) (by simp -implicitDefEqProofs (disch := omega) only [go_sem, ↓reduceIte, deep, TD.rows, immLL_rI, immLL_rB8, immLL_rS, immLL_rBo, immLL_rII, immLL_rIIt]; exact rfl) ?_; simp -implicitDefEqProofs (disch := omega) only [go_sem, ↓reduceIte]; refine call_ioA (i := 0) (r := 0) (ht) rfl rfl (by simp -implicitDefEqProofs (disch := omega) only [go_sem, ↓reduceIte, deep, TD.rows, immLL_rI, immLL_rB8, immLL_rS, immLL_rBo, immLL_rII, immLL_rIIt, hlen]; exact rfl) (by repeat (first | exact leL_nil | refine leL_cons ?_ ?_ | exact le_of_eq rfl | exact le_iptrN (leL_of_eq rfl) | refine le_agg ?_ | exact le_slf rfl (TD.rows ..) | refine le_iptr ?_ | refine le_fn ?_ ?_ | exact le_nilsl_)) (by repeat (first | exact leL_nil | refine leL_cons ?_ ?_ | exact le_of_eq rfl | exact le_iptrN (leL_of_eq rfl) | refine le_agg ?_ | exact le_slf rfl (TD.rows ..) | refine le_iptr ?_ | refine le_fn ?_ ?_ | exact le_nilsl_)) (by first | exact .inr rfl | exact .inl ⟨rfl, rfl⟩ | exact .inl ⟨by simp only [D.noImm, noImmL, go_sem, TD.nims, TD.nim, nim_rI, nim_rB8, nim_rBo, nim_rS], by simp only [D.noImm, noImmL, go_sem, TD.nims, TD.nim, nim_rI, nim_rB8, nim_rBo, nim_rS]⟩) ?_; simp -implicitDefEqProofs (disch := omega) only [go_sem, ↓reduceIte , hlen]; refine ⟨by omega, ?_⟩; rw [← hrow]; generalize hrs : sdR T.length (ds.length + 2) = rs at *; simp -implicitDefEqProofs (disch := omega) only [go_sem, ↓reduceIte , List.length_map, hrl]; refine loop_ov (by simp -implicitDefEqProofs (disch := omega) only [go_sem, ↓reduceIte]; exact rfl) (fun i : Nat => [(15, .box none [.sl true 3 ((rowP (-1) (rs.take i)).map (Placed.td.d true))]), (70, .v (.int .i64 (i : Nat)))]) (fun _ => by simp only [ovr_nil, ovr_cons, List.set_cons_zero, List.set_cons_succ]; exact rfl) (fun i : Nat => i ≤ ds.length + 2) (fun i : Nat => ds.length + 2 - i) (0) (nleA) (?_) ?_
    · exact Nat.zero_le _
    intro i hi; have hq : (List.map (Placed.td.d true) (rowP (-1) (rs.take i))).length = i := by rw [List.length_map, rowP_len, List.length_take]; omega
    simp -implicitDefEqProofs (disch := omega) only [go_sem, ↓reduceIte]; refine cond_split ?_ ?_ <;> intro hlt2
    · have hlt2 : i < rs.length := (by have := of_decide_eq_true hlt2; omega); have e1 := List.getElem?_eq_getElem hlt2; have hw : IntKind.i64.wrap ((i : Int) - 1) = -1 + (i : Int) := (by rw [wrI (by omega) (by omega)]; omega); simp -implicitDefEqProofs (disch := omega) only [go_sem, ↓reduceIte , List.length_map, Int.toNat_natCast, Int.ofNat_lt, Int.natCast_nonneg, List.getElem?_map, Option.map_some, hlt2, e1, rI, hw, hq, wrN]; refine ⟨by omega, i + 1, by omega, by omega, ?_⟩; rw [← rowP_next (-1) hlt2, List.map_append, List.map_cons, List.map_nil, Placed.td_d]
      (try simp -implicitDefEqProofs only [nleL_cc, nleL_nn, nle_self, nle_boxs, nle_aggs, nle_nils, and_self, and_true, true_and]) <;> repeat' (first | exact nle_of_eq rfl | exact nle_nil | apply And.intro | apply nle_sl | apply nleLL_cons | apply nleL_cons | exact nleL_nil | exact nleLL_nil | apply nle_box | apply nle_agg)
    · obtain rfl : i = ds.length + 2 := by have := of_decide_eq_false hlt2
                                           omega
      rw [List.take_of_length_le (by omega)]; simp -implicitDefEqProofs (disch := omega) only [go_sem, ↓reduceIte]; exact leL_of_eq rfl
def pRow : List UInt8 := [114, 111, 119]
def cnG (b i : Nat) : List Glue := adG b ++ (List.range i).map (fun k => ⟨nm1 [114] k, 2⟩)
def cnK (H : List Glue) (k : Nat) : Tile := ⟨nm1 pRow k, [sideN H (nm1 [114] (k + 1)), 0, sideN H (nm1 [114] k), sideN H gC1]⟩
def cnT (b m i : Nat) : List Tile := adT (adG b) b b ++ (List.range i).map (cnK (cnG b m))
theorem rNt_map (ds : List Nat) : ds.map rNt = (ds.map (fun x : Nat => (x : Int))).map rI := by rw [List.map_map]; rfl
def nR0 : ByteArray := ⟨⟨[114, 48]⟩⟩
abbrev bxC (G : List Glue) (T : List Tile) : D := .box none (mkS G T)
theorem sys0_d : System.td.d true sys0 = [.sl true 2 [], .sl true 2 [], .sl true 3 [], .v (.int .i64 0)] := rfl
end Go.Proofs.YtbflchedmfeghaaDoor
