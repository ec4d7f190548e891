/- Laws that the proof stands on. -/
import Derived.Test.YtjcgpppmikjbnaaZVB
import Derived.Test.YtjcgpppmikjbnaaZVCom
import Derived.Test.YtjcgpppmikjbnaaProg
set_option linter.all false
namespace Go.Proofs.Ytjcgpppmikjbnaa
open Go.RowKit Go.V
attribute [local go_sem] List.getElem?_cons_succ List.getElem?_cons_zero List.set_cons_succ List.set_cons_zero List.map_cons List.map_nil List.length_cons List.length_nil List.all_cons List.all_nil List.drop_succ_cons List.drop_zero List.take_succ_cons List.take_zero List.flatMap_cons List.flatMap_nil List.cons_append List.nil_append List.append_nil List.headD_cons Value.oneCell' Bool.and_true Bool.true_and Bool.or_false Bool.false_or Bool.and_self Bool.not_true Bool.not_false and_true true_and beq_self_eq_true Bool.false_eq_true if_true if_false Nat.zero_add Nat.reduceAdd Nat.reduceMul Nat.reduceLeDiff Nat.le_refl Option.isSome_some Option.isSome_none not_true_eq_false not_false_eq_true ne_eq reduceCtorEq List.reverse_nil bne_self_eq_false Nat.reduceEqDiff List.isPrefixOf Bool.not_eq_true Bool.and_false Bool.false_and Bool.true_or Bool.or_true decide_true decide_false Nat.reduceBEq Nat.reduceBNe List.replicate_succ List.replicate_zero exists_eq_left' exists_eq_left Option.some.injEq or_false or_true true_or false_or Option.map_some Option.map_none mB Nat.reduceMod Nat.reduceDiv
set_option maxRecDepth 100000
structure Src where
  code : List Int
  pos : Nat
  seed : Int
def Src.d (s : Src) : List D := [.sl false 1 (s.code.map rB8), .v (.int .i64 (s.pos : Nat)), .v (.int .u64 s.seed)]
def srcB (s : Src) : Int := if s.pos < s.code.length then IntKind.i64.wrap (s.code.getD s.pos 0) else 0
def srcSeed (s : Src) : Int := IntKind.u64.wrap (IntKind.u64.wrap (IntKind.u64.wrap (s.seed * 6364136223846793005) + IntKind.u64.wrap (srcB s)) + 1442695040888963407)
def lowB (x : Int) : Int := IntKind.i64.wrap (IntKind.u64.wrap ((BitVec.ofInt IntKind.u64.bits (x.fdiv (2 ^ min (Int.toNat 40) IntKind.u64.bits)) &&& BitVec.ofInt IntKind.u64.bits 255).toNat))
def srcV (s : Src) : Int := if s.pos < s.code.length then srcB s else lowB (srcSeed s)
def srcN (s : Src) : Src := ⟨s.code, s.pos + 1, srcSeed s⟩
structure SrcB (k : Nat) (s : Src) : Prop where
  code : ∀ x, x ∈ s.code → 0 ≤ x ∧ x ≤ 255
  len : s.code.length ≤ 1048576
  pos : s.pos + k ≤ 4611686018427387904
theorem SrcB.mono {k l : Nat} {s : Src} (h : SrcB k s) (hl : l ≤ k) : SrcB l s := ⟨h.code, h.len, by have := h.pos; omega⟩
theorem SrcB.next {k : Nat} {s : Src} (h : SrcB (k + 1) s) : SrcB k (srcN s) := ⟨h.code, h.len, by have := h.pos; simp only [srcN]; omega⟩
theorem srcB_in {k : Nat} {s : Src} (h : SrcB k s) : 0 ≤ srcB s ∧ srcB s ≤ 255 := by
  unfold srcB; split
  · rename_i hl; have := h.code (s.code.getD s.pos 0) (by rw [List.getD_eq_getElem?_getD, List.getElem?_eq_getElem hl]; exact List.getElem_mem hl); rw [wrI (by omega) (by omega)]; exact this
  · omega
theorem lowB_in (x : Int) : 0 ≤ lowB x ∧ lowB x ≤ 255 := by
  unfold lowB; have h1 : (BitVec.ofInt IntKind.u64.bits (x.fdiv (2 ^ min (Int.toNat 40) IntKind.u64.bits)) &&& BitVec.ofInt IntKind.u64.bits 255).toNat ≤ 255 := by rw [BitVec.toNat_and]; exact Nat.and_le_right
  generalize (BitVec.ofInt IntKind.u64.bits (x.fdiv (2 ^ min (Int.toNat 40) IntKind.u64.bits)) &&& BitVec.ofInt IntKind.u64.bits 255).toNat = n at h1; have h2 : IntKind.u64.wrap (n : Int) = (n : Int) := by simp only [IntKind.wrap, IntKind.bits, IntKind.signed]; simp; omega
  rw [h2, wrI (by omega) (by omega)]; omega
theorem srcV_in {k : Nat} {s : Src} (h : SrcB k s) : 0 ≤ srcV s ∧ srcV s ≤ 255 := by
  unfold srcV; split
  · exact srcB_in h
  · exact lowB_in _
def code_spec_l00Src_next : VCode := (.seq (.ops [
  ⟨(some 2), none, (.asg (.const (.int .i64 0)))⟩]) (.seq (.ops [
  ⟨(some 3), none, (.asg (.const (.int .i64 0)))⟩]) (.seq (.seq (.draw (mB 13 8176) [] [⟨0, (mB 13 8176), [], ⟨(some 4), none, (.mv (.tmp 0))⟩⟩, ⟨1, (mB 13 8160), [], ⟨(some 5), none, (.nilc (.tmp 4))⟩⟩, ⟨2, (mB 13 8128), [], ⟨(some 6), none, (.fa 1 (.tmp 5))⟩⟩, ⟨3, (mB 13 8064), [], ⟨(some 7), none, (.load 1 false (.tmp 6))⟩⟩, ⟨4, (mB 13 8176), [], ⟨(some 8), none, (.mv (.tmp 0))⟩⟩, ⟨5, (mB 13 7920), [], ⟨(some 9), none, (.nilc (.tmp 8))⟩⟩, ⟨6, (mB 13 7408), [], ⟨(some 10), none, (.fa 0 (.tmp 9))⟩⟩, ⟨7, (mB 13 6384), [], ⟨(some 11), none, (.load 1 false (.tmp 10))⟩⟩, ⟨8, (mB 13 4336), [], ⟨(some 12), none, (.len (.tmp 11))⟩⟩] [⟨(some 13), none, (.bin .lss (.tmp 7) (.tmp 12))⟩]) (.cond (.tmp 13) (.draw (mB 22 4177920) [] [⟨0, (mB 22 4177920), [], ⟨(some 14), none, (.mv (.tmp 0))⟩⟩, ⟨1, (mB 22 4161536), [], ⟨(some 15), none, (.nilc (.tmp 14))⟩⟩, ⟨2, (mB 22 4128768), [], ⟨(some 16), none, (.fa 0 (.tmp 15))⟩⟩, ⟨3, (mB 22 4063232), [], ⟨(some 17), none, (.load 1 false (.tmp 16))⟩⟩, ⟨4, (mB 22 4177920), [], ⟨(some 18), none, (.mv (.tmp 0))⟩⟩, ⟨5, (mB 22 3915776), [], ⟨(some 19), none, (.nilc (.tmp 18))⟩⟩, ⟨6, (mB 22 3391488), [], ⟨(some 20), none, (.fa 1 (.tmp 19))⟩⟩, ⟨7, (mB 22 2342912), [], ⟨(some 21), none, (.load 1 false (.tmp 20))⟩⟩] [⟨(some 22), none, (.ia 1 (.tmp 17) (.tmp 21))⟩, ⟨(some 23), none, (.load 1 false (.tmp 22))⟩, ⟨(some 24), none, (.conv .i64 (.tmp 23))⟩, ⟨(some 3), none, (.asg (.tmp 24))⟩]) .skip)) (.seq (.ops [
  ⟨(some 25), none, (.mv (.tmp 0))⟩,
  ⟨(some 26), none, (.nilc (.tmp 25))⟩,
  ⟨(some 27), none, (.fa 1 (.tmp 26))⟩,
  ⟨(some 28), none, (.load 1 false (.tmp 27))⟩,
  ⟨(some 29), none, (.bin .add (.tmp 28) (.const (.int .i64 1)))⟩,
  ⟨(some 30), none, (.nilc (.tmp 25))⟩,
  ⟨(some 31), none, (.fa 1 (.tmp 30))⟩,
  ⟨none, none, (.store 1 (.tmp 31) (.tmp 29))⟩]) (.seq (.ops [
  ⟨(some 32), none, (.mv (.tmp 0))⟩,
  ⟨(some 33), none, (.mv (.tmp 0))⟩,
  ⟨(some 34), none, (.nilc (.tmp 33))⟩,
  ⟨(some 35), none, (.fa 2 (.tmp 34))⟩,
  ⟨(some 36), none, (.load 1 false (.tmp 35))⟩,
  ⟨(some 37), none, (.bin .mul (.tmp 36) (.const (.int .u64 6364136223846793005)))⟩,
  ⟨(some 38), none, (.mv (.tmp 3))⟩,
  ⟨(some 39), none, (.conv .u64 (.tmp 38))⟩,
  ⟨(some 40), none, (.bin .add (.tmp 37) (.tmp 39))⟩,
  ⟨(some 41), none, (.bin .add (.tmp 40) (.const (.int .u64 1442695040888963407)))⟩,
  ⟨(some 42), none, (.nilc (.tmp 32))⟩,
  ⟨(some 43), none, (.fa 2 (.tmp 42))⟩,
  ⟨none, none, (.store 1 (.tmp 43) (.tmp 41))⟩]) (.seq (.seq (.draw (mB 53 8989607068696576) [] [⟨0, (mB 53 8989607068696576), [], ⟨(some 44), none, (.mv (.tmp 0))⟩⟩, ⟨1, (mB 53 8972014882652160), [], ⟨(some 45), none, (.nilc (.tmp 44))⟩⟩, ⟨2, (mB 53 8936830510563328), [], ⟨(some 46), none, (.fa 1 (.tmp 45))⟩⟩, ⟨3, (mB 53 8866461766385664), [], ⟨(some 47), none, (.load 1 false (.tmp 46))⟩⟩, ⟨4, (mB 53 8989607068696576), [], ⟨(some 48), none, (.mv (.tmp 0))⟩⟩, ⟨5, (mB 53 8708132091985920), [], ⟨(some 49), none, (.nilc (.tmp 48))⟩⟩, ⟨6, (mB 53 8145182138564608), [], ⟨(some 50), none, (.fa 0 (.tmp 49))⟩⟩, ⟨7, (mB 53 7019282231721984), [], ⟨(some 51), none, (.load 1 false (.tmp 50))⟩⟩, ⟨8, (mB 53 4767482418036736), [], ⟨(some 52), none, (.len (.tmp 51))⟩⟩] [⟨(some 53), none, (.bin .leq (.tmp 47) (.tmp 52))⟩]) (.cond (.tmp 53) (.seq (.ops [
  ⟨(some 54), none, (.mv (.tmp 3))⟩,
  ⟨(some 2), none, (.asg (.tmp 54))⟩]) .ret) .skip)) (.seq (.ops [
  ⟨(some 55), none, (.mv (.tmp 0))⟩,
  ⟨(some 56), none, (.nilc (.tmp 55))⟩,
  ⟨(some 57), none, (.fa 2 (.tmp 56))⟩,
  ⟨(some 58), none, (.load 1 false (.tmp 57))⟩,
  ⟨(some 59), none, (.bin .shr (.tmp 58) (.const (.int .u64 40)))⟩,
  ⟨(some 60), none, (.bin .and (.tmp 59) (.const (.int .u64 255)))⟩,
  ⟨(some 61), none, (.conv .i64 (.tmp 60))⟩,
  ⟨(some 2), none, (.asg (.tmp 61))⟩]) .ret)))))))
theorem law_spec_l00Src_next {a0 d : D} {cells cells' : List D} (h : ∀ b, code_spec_l00Src_next.wp (CT Try.prog NoG) (endX [(.t 2)] d 0 b cells') [.box (some b) cells, .undef, .undef, .undef, .undef, .undef, .undef, .undef, .undef, .undef, .undef, .undef, .undef, .undef, .undef, .undef, .undef, .undef, .undef, .undef, .undef, .undef, .undef, .undef, .undef, .undef, .undef, .undef, .undef, .undef, .undef, .undef, .undef, .undef, .undef, .undef, .undef, .undef, .undef, .undef, .undef, .undef, .undef, .undef, .undef, .undef, .undef, .undef, .undef, .undef, .undef, .undef, .undef, .undef, .undef, .undef, .undef, .undef, .undef, .undef, .undef, .undef]) : ContractX Try.prog NoG 16 0 [a0] cells d cells' :=
  contract_ofX noG Try.func16 (fun us W => by kernel_rfl) (c := Try.f16.body.getD .skip) (ms := []) (ms' := []) (by kernel_rfl) (by kernel_rfl) (by kernel_rfl) (by simp) h
def code_spec_l00From : VCode := (.seq (.ops [
  ⟨(some 2), none, (.asg (.const (.pointer none)))⟩]) (.seq (.ops [
  ⟨(some 3), none, (.mv (.tmp 0))⟩,
  ⟨(some 4), none, (.build [(.slice none 0 0), (.int .i64 0), (.int .u64 0)] [(0, 1, (.tmp 3))])⟩,
  ⟨(some 5), none, (.box (.tmp 4))⟩,
  ⟨(some 2), none, (.asg (.tmp 5))⟩]) .ret))
theorem law_spec_l00From {a0 d : D} (h : code_spec_l00From.wp (CT Try.prog NoG) (endQ [(.t 2)] d) [a0, .undef, .undef, .undef, .undef, .undef]) : Contract Try.prog NoG 9 [a0] d :=
  contract_of noG Try.func9 (fun us W => by kernel_rfl) (c := Try.f9.body.getD .skip) (ms := []) (ms' := []) (by kernel_rfl) (by kernel_rfl) (by kernel_rfl) h
set_option maxHeartbeats 1000000 in
theorem v_next (s : Src) (hs : SrcB 1 s) : ContractX Try.prog NoG 16 0 [.undef] s.d (.v (.int .i64 (srcV s))) (srcN s).d := by
  refine law_spec_l00Src_next ?_; intro b; unfold code_spec_l00Src_next Src.d; have hp := hs.pos; have hl := hs.len; have w1 : IntKind.i64.wrap ((s.pos : Int) + 1) = ((s.pos + 1 : Nat) : Int) := by rw [wrI (by omega) (by omega)]; omega
  by_cases h : s.pos < s.code.length
  · have d1 : decide ((s.pos : Int) < (s.code.length : Int)) = true := (by rw [decide_eq_true_eq]; omega); have d2 : decide (((s.pos + 1 : Nat) : Int) ≤ (s.code.length : Int)) = true := (by rw [decide_eq_true_eq]; omega); have e1 := List.getElem?_eq_getElem h; have hb : srcB s = IntKind.i64.wrap s.code[s.pos] := (by unfold srcB; rw [if_pos h, List.getD_eq_getElem?_getD, e1]; rfl); have hv : srcV s = IntKind.i64.wrap s.code[s.pos] := (by unfold srcV; rw [if_pos h, hb]); have hn : srcN s = ⟨s.code, s.pos + 1, IntKind.u64.wrap (IntKind.u64.wrap (IntKind.u64.wrap (s.seed * 6364136223846793005) + IntKind.u64.wrap (IntKind.i64.wrap s.code[s.pos])) + 1442695040888963407)⟩ := (by unfold srcN srcSeed; rw [hb]); rw [hv, hn]; simp -implicitDefEqProofs (disch := omega) only [go_sem, ↓reduceIte , List.length_map, d1, List.length_map, Int.toNat_natCast, Int.ofNat_lt, Int.natCast_nonneg, List.getElem?_map, Option.map_some, h, e1, w1, d2]
  · have d1 : decide ((s.pos : Int) < (s.code.length : Int)) = false := (by rw [decide_eq_false_iff_not]; omega); have d2 : decide (((s.pos + 1 : Nat) : Int) ≤ (s.code.length : Int)) = false := (by rw [decide_eq_false_iff_not]; omega); have hb : srcB s = 0 := (by unfold srcB; rw [if_neg h]); have hv : srcV s = lowB (srcSeed s) := (by unfold srcV; rw [if_neg h]); have hn : srcN s = ⟨s.code, s.pos + 1, IntKind.u64.wrap (IntKind.u64.wrap (IntKind.u64.wrap (s.seed * 6364136223846793005) + IntKind.u64.wrap 0) + 1442695040888963407)⟩ := (by unfold srcN srcSeed; rw [hb]); have hq : srcSeed s = IntKind.u64.wrap (IntKind.u64.wrap (IntKind.u64.wrap (s.seed * 6364136223846793005) + IntKind.u64.wrap 0) + 1442695040888963407) := (by unfold srcSeed; rw [hb]); rw [hv, hn, hq]; unfold lowB; simp -implicitDefEqProofs (disch := omega) only [go_sem, ↓reduceIte , List.length_map, d1, w1, d2]; omega
theorem v_l00From (code : List Int) : Contract Try.prog NoG 9 [.sl false 1 (code.map rB8)] (.box none (Src.d ⟨code, 0, 0⟩)) := by refine law_spec_l00From ?_; unfold code_spec_l00From Src.d; simp -implicitDefEqProofs (disch := omega) only [go_sem, ↓reduceIte]; rfl
def pickV (s : Src) (n : Int) : Int := if n ≤ 1 then 0 else if 200 < n then (srcV s * 256 + srcV (srcN s)).tmod n else (srcV s).tmod n
def pickN (s : Src) (n : Int) : Src := if n ≤ 1 then s else if 200 < n then srcN (srcN s) else srcN s
theorem SrcB.pick {k : Nat} {s : Src} (h : SrcB (k + 2) s) (n : Int) : SrcB k (pickN s n) := by
  unfold pickN; split
  · exact h.mono (by omega)
  · split
    · exact h.next.next
    · exact h.next.mono (by omega)
theorem pickV_in {k : Nat} {s : Src} (h : SrcB (k + 2) s) {n : Int} (hn : 1 ≤ n) : 0 ≤ pickV s n ∧ pickV s n < n := by
  have h1 := srcV_in h; have h2 := srcV_in h.next; have key : ∀ x : Int, 0 ≤ x → 0 ≤ x.tmod n ∧ x.tmod n < n := fun x hx => by rw [Int.tmod_eq_emod_of_nonneg hx]; exact ⟨Int.emod_nonneg _ (by omega), Int.emod_lt_of_pos _ (by omega)⟩
  unfold pickV; split
  · omega
  · split
    · exact key _ (by omega)
    · exact key _ h1.1
def code_spec_l00Src_pick : VCode := (.seq (.ops [
  ⟨(some 4), none, (.asg (.const (.int .i64 0)))⟩]) (.seq (.seq (.ops [
  ⟨(some 6), none, (.mv (.tmp 1))⟩,
  ⟨(some 7), none, (.bin .leq (.tmp 6) (.const (.int .i64 1)))⟩]) (.cond (.tmp 7) (.seq (.ops [
  ⟨(some 4), none, (.asg (.const (.int .i64 0)))⟩]) .ret) .skip)) (.seq (.ops [
  ⟨(some 8), none, (.mv (.tmp 0))⟩,
  ⟨(some 9), none, (.callX 16 [(.tmp 8)])⟩,
  ⟨(some 5), none, (.asg (.tmp 9))⟩]) (.seq (.seq (.ops [
  ⟨(some 10), none, (.mv (.tmp 1))⟩,
  ⟨(some 11), none, (.bin .gtr (.tmp 10) (.const (.int .i64 200)))⟩]) (.cond (.tmp 11) (.ops [
  ⟨(some 12), none, (.mv (.tmp 5))⟩,
  ⟨(some 13), none, (.bin .mul (.tmp 12) (.const (.int .i64 256)))⟩,
  ⟨(some 14), none, (.mv (.tmp 0))⟩,
  ⟨(some 15), none, (.callX 16 [(.tmp 14)])⟩,
  ⟨(some 16), none, (.bin .add (.tmp 13) (.tmp 15))⟩,
  ⟨(some 5), none, (.asg (.tmp 16))⟩]) .skip)) (.seq (.ops [
  ⟨(some 17), none, (.mv (.tmp 5))⟩,
  ⟨(some 18), none, (.mv (.tmp 1))⟩,
  ⟨(some 19), none, (.bin .rem (.tmp 17) (.tmp 18))⟩,
  ⟨(some 4), none, (.asg (.tmp 19))⟩]) .ret)))))
theorem law_spec_l00Src_pick {a0 a1 d : D} {cells cells' : List D} (h : ∀ b, code_spec_l00Src_pick.wp (CT Try.prog NoG) (endX [(.t 4)] d 0 b cells') [.box (some b) cells, a1, .undef, .undef, .undef, .undef, .undef, .undef, .undef, .undef, .undef, .undef, .undef, .undef, .undef, .undef, .undef, .undef, .undef, .undef]) : ContractX Try.prog NoG 10 0 [a0, a1] cells d cells' :=
  contract_ofX noG Try.func10 (fun us W => by kernel_rfl) (c := Try.f10.body.getD .skip) (ms := []) (ms' := []) (by kernel_rfl) (by kernel_rfl) (by kernel_rfl) (by simp) h
set_option maxHeartbeats 1000000 in
theorem v_pick (s : Src) (n : Int) (hs : SrcB 2 s) : ContractX Try.prog NoG 10 0 [.undef, .v (.int .i64 n)] s.d (.v (.int .i64 (pickV s n))) (pickN s n).d := by
  refine law_spec_l00Src_pick ?_; intro b; unfold code_spec_l00Src_pick; have h1 := srcV_in hs; have h2 := srcV_in hs.next; by_cases hn : n ≤ 1
  · have d1 : decide (n ≤ 1) = true := decide_eq_true hn; have e1 : pickV s n = 0 := (by unfold pickV; rw [if_pos hn]); have e2 : pickN s n = s := (by unfold pickN; rw [if_pos hn]); rw [e1, e2]; unfold Src.d; simp -implicitDefEqProofs (disch := omega) only [go_sem, ↓reduceIte , d1]
  · have d1 : decide (n ≤ 1) = false := decide_eq_false hn; have d0 : n ≠ 0 := (by omega); by_cases h200 : 200 < n
    · have d2 : decide (200 < n) = true := decide_eq_true h200; have e1 : pickV s n = (srcV s * 256 + srcV (srcN s)).tmod n := (by unfold pickV; rw [if_neg hn, if_pos h200]); have e2 : pickN s n = srcN (srcN s) := (by unfold pickN; rw [if_neg hn, if_pos h200]); have w1 : IntKind.i64.wrap (srcV s * 256) = srcV s * 256 := wrI (by omega) (by omega); have w2 : IntKind.i64.wrap (srcV s * 256 + srcV (srcN s)) = srcV s * 256 + srcV (srcN s) := wrI (by omega) (by omega); rw [e1, e2]; simp only [Src.d]; simp -implicitDefEqProofs (disch := omega) only [go_sem, ↓reduceIte , d1]; refine call_ioA (i := 0) (r := 0) (v_next s (hs.mono (by omega))) rfl rfl (by simp -implicitDefEqProofs (disch := omega) only [go_sem, ↓reduceIte, deep, TD.rows, immLL_rI, immLL_rB8, immLL_rS, immLL_rBo, immLL_rII, immLL_rIIt, Src.d, d2, w1]; exact rfl) (by repeat (first | exact leL_nil | refine leL_cons ?_ ?_ | exact le_of_eq rfl | exact le_iptrN (leL_of_eq rfl) | refine le_agg ?_ | exact le_slf rfl (TD.rows ..) | refine le_iptr ?_ | refine le_fn ?_ ?_)) (by repeat (first | exact leL_nil | refine leL_cons ?_ ?_ | exact le_of_eq rfl | exact le_iptrN (leL_of_eq rfl) | refine le_agg ?_ | exact le_slf rfl (TD.rows ..) | refine le_iptr ?_ | refine le_fn ?_ ?_)) (by first | exact .inr rfl | exact .inl ⟨rfl, rfl⟩ | exact .inl ⟨by simp only [D.noImm, noImmL, go_sem, TD.nims, TD.nim], by simp only [D.noImm, noImmL, go_sem, TD.nims, TD.nim, nim_rI, nim_rB8, nim_rBo, nim_rS]⟩) ?_; simp -implicitDefEqProofs (disch := omega) only [go_sem, ↓reduceIte , Src.d, d2, w1]; refine call_ioA (i := 0) (r := 0) (v_next (srcN s) hs.next) rfl rfl (by simp -implicitDefEqProofs (disch := omega) only [go_sem, ↓reduceIte, deep, TD.rows, immLL_rI, immLL_rB8, immLL_rS, immLL_rBo, immLL_rII, immLL_rIIt, Src.d, w2, d0]; exact rfl) (by repeat (first | exact leL_nil | refine leL_cons ?_ ?_ | exact le_of_eq rfl | exact le_iptrN (leL_of_eq rfl) | refine le_agg ?_ | exact le_slf rfl (TD.rows ..) | refine le_iptr ?_ | refine le_fn ?_ ?_)) (by repeat (first | exact leL_nil | refine leL_cons ?_ ?_ | exact le_of_eq rfl | exact le_iptrN (leL_of_eq rfl) | refine le_agg ?_ | exact le_slf rfl (TD.rows ..) | refine le_iptr ?_ | refine le_fn ?_ ?_)) (by first | exact .inr rfl | exact .inl ⟨rfl, rfl⟩ | exact .inl ⟨by simp only [D.noImm, noImmL, go_sem, TD.nims, TD.nim], by simp only [D.noImm, noImmL, go_sem, TD.nims, TD.nim, nim_rI, nim_rB8, nim_rBo, nim_rS]⟩) ?_; simp -implicitDefEqProofs (disch := omega) only [go_sem, ↓reduceIte , Src.d, w2, d0]
    · have d2 : decide (200 < n) = false := decide_eq_false h200; have e1 : pickV s n = (srcV s).tmod n := (by unfold pickV; rw [if_neg hn, if_neg h200]); have e2 : pickN s n = srcN s := (by unfold pickN; rw [if_neg hn, if_neg h200]); rw [e1, e2]; simp only [Src.d]; simp -implicitDefEqProofs (disch := omega) only [go_sem, ↓reduceIte , d1]; refine call_ioA (i := 0) (r := 0) (v_next s (hs.mono (by omega))) rfl rfl (by simp -implicitDefEqProofs (disch := omega) only [go_sem, ↓reduceIte, deep, TD.rows, immLL_rI, immLL_rB8, immLL_rS, immLL_rBo, immLL_rII, immLL_rIIt, Src.d, d2, d0]; exact rfl) (by repeat (first | exact leL_nil | refine leL_cons ?_ ?_ | exact le_of_eq rfl | exact le_iptrN (leL_of_eq rfl) | refine le_agg ?_ | exact le_slf rfl (TD.rows ..) | refine le_iptr ?_ | refine le_fn ?_ ?_)) (by repeat (first | exact leL_nil | refine leL_cons ?_ ?_ | exact le_of_eq rfl | exact le_iptrN (leL_of_eq rfl) | refine le_agg ?_ | exact le_slf rfl (TD.rows ..) | refine le_iptr ?_ | refine le_fn ?_ ?_)) (by first | exact .inr rfl | exact .inl ⟨rfl, rfl⟩ | exact .inl ⟨by simp only [D.noImm, noImmL, go_sem, TD.nims, TD.nim], by simp only [D.noImm, noImmL, go_sem, TD.nims, TD.nim, nim_rI, nim_rB8, nim_rBo, nim_rS]⟩) ?_; simp -implicitDefEqProofs (disch := omega) only [go_sem, ↓reduceIte , Src.d, d2, d0]
def oneV (s : Src) (n : Int) : Bool := decide (pickV s n = 0)
def code_spec_l00Src_one : VCode := (.seq (.ops [
  ⟨(some 4), none, (.asg (.const (.bool false)))⟩]) (.seq (.ops [
  ⟨(some 5), none, (.mv (.tmp 0))⟩,
  ⟨(some 6), none, (.mv (.tmp 1))⟩,
  ⟨(some 7), none, (.callX 10 [(.tmp 5), (.tmp 6)])⟩,
  ⟨(some 8), none, (.bin .eql (.tmp 7) (.const (.int .i64 0)))⟩,
  ⟨(some 4), none, (.asg (.tmp 8))⟩]) .ret))
theorem law_spec_l00Src_one {a0 a1 d : D} {cells cells' : List D} (h : ∀ b, code_spec_l00Src_one.wp (CT Try.prog NoG) (endX [(.t 4)] d 0 b cells') [.box (some b) cells, a1, .undef, .undef, .undef, .undef, .undef, .undef, .undef]) : ContractX Try.prog NoG 12 0 [a0, a1] cells d cells' :=
  contract_ofX noG Try.func12 (fun us W => by kernel_rfl) (c := Try.f12.body.getD .skip) (ms := []) (ms' := []) (by kernel_rfl) (by kernel_rfl) (by kernel_rfl) (by simp) h
theorem v_one (s : Src) (n : Int) (hs : SrcB 2 s) : ContractX Try.prog NoG 12 0 [.undef, .v (.int .i64 n)] s.d (.v (.bool (oneV s n))) (pickN s n).d := by refine law_spec_l00Src_one ?_; intro b; unfold code_spec_l00Src_one oneV; simp only [Src.d]; simp -implicitDefEqProofs (disch := omega) only [go_sem, ↓reduceIte]; refine call_ioA (i := 0) (r := 0) (v_pick s n hs) rfl rfl (by simp -implicitDefEqProofs (disch := omega) only [go_sem, ↓reduceIte, deep, TD.rows, immLL_rI, immLL_rB8, immLL_rS, immLL_rBo, immLL_rII, immLL_rIIt, Src.d]; exact rfl) (by repeat (first | exact leL_nil | refine leL_cons ?_ ?_ | exact le_of_eq rfl | exact le_iptrN (leL_of_eq rfl) | refine le_agg ?_ | exact le_slf rfl (TD.rows ..) | refine le_iptr ?_ | refine le_fn ?_ ?_)) (by repeat (first | exact leL_nil | refine leL_cons ?_ ?_ | exact le_of_eq rfl | exact le_iptrN (leL_of_eq rfl) | refine le_agg ?_ | exact le_slf rfl (TD.rows ..) | refine le_iptr ?_ | refine le_fn ?_ ?_)) (by first | exact .inr rfl | exact .inl ⟨rfl, rfl⟩ | exact .inl ⟨by simp only [D.noImm, noImmL, go_sem, TD.nims, TD.nim], by simp only [D.noImm, noImmL, go_sem, TD.nims, TD.nim, nim_rI, nim_rB8, nim_rBo, nim_rS]⟩) ?_; simp -implicitDefEqProofs (disch := omega) only [go_sem, ↓reduceIte , Src.d]
def code_spec_l00Src_among : VCode := (.seq (.ops [
  ⟨(some 4), none, (.asg (.const (.int .i64 0)))⟩]) (.seq (.ops [
  ⟨(some 5), none, (.mv (.tmp 1))⟩,
  ⟨(some 6), none, (.mv (.tmp 0))⟩,
  ⟨(some 7), none, (.mv (.tmp 1))⟩,
  ⟨(some 8), none, (.len (.tmp 7))⟩,
  ⟨(some 9), none, (.callX 10 [(.tmp 6), (.tmp 8)])⟩,
  ⟨(some 10), none, (.ia 1 (.tmp 5) (.tmp 9))⟩,
  ⟨(some 11), none, (.load 1 false (.tmp 10))⟩,
  ⟨(some 4), none, (.asg (.tmp 11))⟩]) .ret))
theorem law_spec_l00Src_among {a0 a1 d : D} {cells cells' : List D} (h : ∀ b, code_spec_l00Src_among.wp (CT Try.prog NoG) (endX [(.t 4)] d 0 b cells') [.box (some b) cells, a1, .undef, .undef, .undef, .undef, .undef, .undef, .undef, .undef, .undef, .undef]) : ContractX Try.prog NoG 17 0 [a0, a1] cells d cells' :=
  contract_ofX noG Try.func17 (fun us W => by kernel_rfl) (c := Try.f17.body.getD .skip) (ms := []) (ms' := []) (by kernel_rfl) (by kernel_rfl) (by kernel_rfl) (by simp) h
theorem v_among (s : Src) (xs : List Int) (hs : SrcB 2 s) (h0 : 0 < xs.length) (hl : xs.length ≤ 1048576) : ContractX Try.prog NoG 17 0 [.undef, .sl false 1 (xs.map rI)] s.d (.v (.int .i64 (xs.getD (pickV s xs.length).toNat 0))) (pickN s xs.length).d := by
  refine law_spec_l00Src_among ?_; intro b; unfold code_spec_l00Src_among; have hp := pickV_in (k := 0) hs (n := xs.length) (by omega); obtain ⟨k, hk⟩ : ∃ k : Nat, pickV s xs.length = (k : Int) := ⟨(pickV s xs.length).toNat, by omega⟩
  have hlt : k < xs.length := (by omega); have e1 := List.getElem?_eq_getElem hlt; have e2 : xs.getD k 0 = xs[k] := (by rw [List.getD_eq_getElem?_getD, e1]; rfl); rw [hk, Int.toNat_natCast, e2]; simp only [Src.d]; simp -implicitDefEqProofs (disch := omega) only [go_sem, ↓reduceIte , List.length_map]; refine call_ioA (i := 0) (r := 0) (v_pick s xs.length hs) rfl rfl (by simp -implicitDefEqProofs (disch := omega) only [go_sem, ↓reduceIte, deep, TD.rows, immLL_rI, immLL_rB8, immLL_rS, immLL_rBo, immLL_rII, immLL_rIIt, Src.d, hk, List.length_map, Int.toNat_natCast, Int.ofNat_lt, Int.natCast_nonneg, List.getElem?_map, Option.map_some, hlt, e1]; exact rfl) (by repeat (first | exact leL_nil | refine leL_cons ?_ ?_ | exact le_of_eq rfl | exact le_iptrN (leL_of_eq rfl) | refine le_agg ?_ | exact le_slf rfl (TD.rows ..) | refine le_iptr ?_ | refine le_fn ?_ ?_)) (by repeat (first | exact leL_nil | refine leL_cons ?_ ?_ | exact le_of_eq rfl | exact le_iptrN (leL_of_eq rfl) | refine le_agg ?_ | exact le_slf rfl (TD.rows ..) | refine le_iptr ?_ | refine le_fn ?_ ?_)) (by first | exact .inr rfl | exact .inl ⟨rfl, rfl⟩ | exact .inl ⟨by simp only [D.noImm, noImmL, go_sem, TD.nims, TD.nim], by simp only [D.noImm, noImmL, go_sem, TD.nims, TD.nim, nim_rI, nim_rB8, nim_rBo, nim_rS]⟩) ?_; simp -implicitDefEqProofs (disch := omega) only [go_sem, ↓reduceIte , Src.d, hk, List.length_map, Int.toNat_natCast, Int.ofNat_lt, Int.natCast_nonneg, List.getElem?_map, Option.map_some, hlt, e1]
end Go.Proofs.Ytjcgpppmikjbnaa
