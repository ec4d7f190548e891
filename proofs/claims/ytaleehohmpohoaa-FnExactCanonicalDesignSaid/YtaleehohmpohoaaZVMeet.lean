/- Laws that the proof stands on. -/
import Derived.Test.YtaleehohmpohoaaZg14
set_option linter.all false
namespace Go.Proofs.Ytaleehohmpohoaa
open Go.RowKit Go.V
attribute [local go_sem] List.getElem?_cons_succ List.getElem?_cons_zero List.set_cons_succ List.set_cons_zero List.map_cons List.map_nil List.length_cons List.length_nil List.all_cons List.all_nil List.drop_succ_cons List.drop_zero List.take_succ_cons List.take_zero List.flatMap_cons List.flatMap_nil List.cons_append List.nil_append List.append_nil List.headD_cons Value.oneCell' Bool.and_true Bool.true_and Bool.or_false Bool.false_or Bool.and_self Bool.not_true Bool.not_false and_true true_and beq_self_eq_true Bool.false_eq_true if_true if_false Nat.zero_add Nat.reduceAdd Nat.reduceMul Nat.reduceLeDiff Nat.le_refl Option.isSome_some Option.isSome_none not_true_eq_false not_false_eq_true ne_eq reduceCtorEq List.reverse_nil bne_self_eq_false Nat.reduceEqDiff List.isPrefixOf Bool.not_eq_true Bool.and_false Bool.false_and Bool.true_or Bool.or_true decide_true decide_false Nat.reduceBEq Nat.reduceBNe List.replicate_succ List.replicate_zero exists_eq_left' exists_eq_left Option.some.injEq or_false or_true true_or false_or Option.map_some Option.map_none mB Nat.reduceMod Nat.reduceDiv
set_option maxRecDepth 100000
theorem keyG_N:KeyG (fun p:Int×Nat=>p.1) keyN:=⟨fun a b=>by show keq (.int .i64 a.1) (keyN b)=_;rw [keqN]⟩
theorem zip_fst (N:List Int):N.zipIdx.map (fun p:Int×Nat=>p.1)=N:=List.zipIdx_map_fst 0 N
theorem entN_len {N:List Int}(h:N.Nodup):(entN N).length=N.length:=by unfold entN;rw [tbG_nd keyG_N (by rw [zip_fst];exact h)];simp
theorem entN_hit {N:List Int}(h:N.Nodup){k:Int}(hk:k∈N):mget (entN N) (.int .i64 k)=some (.int .i64 (numN N k:Nat)):=by have hlt:=numN_lt hk;have hg:N[numN N k]'hlt=k:=List.getElem_idxOf hlt;have hm:(k,numN N k)∈N.zipIdx:=(by rw [List.mk_mem_zipIdx_iff_getElem?,List.getElem?_eq_getElem hlt,hg]);exact getG_hit (kk:=fun p:Int×Nat=>p.1) (key:=keyN) (val:=valN) keyG_N (xs:=N.zipIdx) (by rw [zip_fst];exact h) (fun b=>keqN k b) hm rfl
theorem entN_miss {N:List Int}(h:N.Nodup){k:Int}(hk:k∉N):mget (entN N) (.int .i64 k)=none :=
  getG_miss (kk:=fun p:Int×Nat=>p.1) (key:=keyN) (val:=valN) keyG_N (xs:=N.zipIdx) (by rw [zip_fst];exact h) (fun b=>keqN k b) (fun x hx e=>hk (by rw [← e,← zip_fst N];exact List.mem_map_of_mem hx))
theorem entN_new (N:List Int)(k:Int):mset (entN N) (.int .i64 k) (.int .i64 (N.length:Nat))=entN (N++[k]):=by unfold entN tbG;rw [List.zipIdx_append,List.foldl_append];simp [keyN,valN]
def code_impl_renumbering_meet:VCode:=(.seq (.ops [
  ⟨(some 4),none,(.asg (.const (.int .i64 0)))⟩]) (.seq (.seq (.ops [
  ⟨(some 8),none,(.mv (.tmp 0))⟩,
  ⟨(some 9),none,(.mv (.tmp 1))⟩,
  ⟨(some 10),none,(.mlk (.int .i64) (.int .i64 0) true (.tmp 8) (.tmp 9))⟩,
  ⟨(some 7),none,(.mv (.tmp 10))⟩,
  ⟨(some 11),none,(.ext (.tmp 7) 0)⟩,
  ⟨(some 12),none,(.ext (.tmp 7) 1)⟩,
  ⟨(some 5),none,(.asg (.tmp 11))⟩,
  ⟨(some 6),none,(.asg (.tmp 12))⟩]) (.seq (.ops [
  ⟨(some 13),none,(.mv (.tmp 6))⟩,
  ⟨(some 14),none,(.un .not (.tmp 13))⟩]) (.cond (.tmp 14) (.ops [
  ⟨(some 15),none,(.mv (.tmp 0))⟩,
  ⟨(some 16),none,(.mv (.tmp 1))⟩,
  ⟨(some 17),none,(.mv (.tmp 0))⟩,
  ⟨(some 18),none,(.mlen (.tmp 17))⟩,
  ⟨none,none,(.mupd (.int .i64) (.tmp 15) (.tmp 16) (.tmp 18))⟩]) .skip))) (.seq (.ops [
  ⟨(some 19),none,(.mv (.tmp 0))⟩,
  ⟨(some 20),none,(.mv (.tmp 1))⟩,
  ⟨(some 21),none,(.mlk (.int .i64) (.int .i64 0) false (.tmp 19) (.tmp 20))⟩,
  ⟨(some 4),none,(.asg (.tmp 21))⟩]) .ret)))
theorem law_impl_renumbering_meet {a1 d d0 d':D}(hx:d'.exact=true)(h:code_impl_renumbering_meet.wp (CT Try.prog NoG) (endS [(.t 4)] d 0 d') [d0,a1,.undef,.undef,.undef,.undef,.undef,.undef,.undef,.undef,.undef,.undef,.undef,.undef,.undef,.undef,.undef,.undef,.undef,.undef,.undef,.undef]):ContractL Try.prog NoG 37 0 [.undef,a1] d0 d d' :=
  contract_ofS (pt:=0) noG Try.func37 (fun us W=>by kernel_rfl) (c:=Try.f37.body.getD .skip) (ms:=[]) (ms':=[]) (by kernel_rfl) (by kernel_rfl) (by kernel_rfl) (by simp) (by kernel_rfl) hx h
theorem v_meet (N:List Int)(k:Int)(h:N.Nodup)(hN:N.length<1000):ContractL Try.prog NoG 37 0 [.undef,.v (.int .i64 k)] (.mp (.int .i64) (entN N)) (.v (.int .i64 (numN (metN N k) k:Nat))) (.mp (.int .i64) (entN (metN N k))):=by
  refine law_impl_renumbering_meet rfl ?_;unfold code_impl_renumbering_meet;have hl:=entN_len h;by_cases hm:k∈N
  · have hg:=entN_hit h hm;rw [metN_self hm];simp -implicitDefEqProofs (disch:=omega) only [go_sem,↓reduceIte ,List.length_map,Int.toNat_natCast,Int.ofNat_lt,Int.natCast_nonneg,List.getElem?_map,Option.map_some,hg,hl,endS_ret,leS_app]
  · have hg:=entN_miss h hm;have hne:=entN_new N k;have hg2:=entN_hit (metN_nd (k:=k) h) (metN_mem N k);rw [metN_new hm] at hg2;rw [metN_new hm];simp -implicitDefEqProofs (disch:=omega) only [go_sem,↓reduceIte ,List.length_map,Int.toNat_natCast,Int.ofNat_lt,Int.natCast_nonneg,List.getElem?_map,Option.map_some,hg,hl,hne,hg2,endS_ret,leS_app]
section
variable {P:Program} {G:World→(Nat→Prop)→Prop} {s:List D} {K:D→List D→Prop}
theorem isCallM {C:CtrT}{s:List D}{f:FuncId}{l:List Operand}{K:D→List D→Prop}(h:evalK C s (.callX f l) K):evalK C s (.callX f l) K:=h
theorem call_meet {f:FuncId}{r:Nat}{x y:Operand}{d d':D}{k:Value}{res:D}(hC:ContractL P G f 0 [.undef,.v k] d res d')(hs:s[r]?=some d)(hx:lk s x=.ref r [])(hy:raw s y=.v k)(he:d.exact=true)(hK:K res ((pruneL (notRoot r) s).set r d')):evalK (CT P G) s (.callX f [x,y]) K :=
  call_lend (x:=x) true hC rfl (by unfold lendP;rw [hs];exact .inl ⟨rfl,.inr hx,he,rfl,rfl⟩) (by simp [hy,D.owny,ownyL]) (by simp [hy,D.prune,deep,leL,D.le,pruneL]) (.inr ⟨rfl,by simp [hy,D.prune,D.noRef,pruneL,noRefL]⟩) hK
theorem call_name {f:FuncId}{r1 r2:Nat}{x y z:Operand}{d1 d1':D}{tag:Option Nat}{cells cells':List D}{k:Value}{res:D}(hC:ContractM P G f 0 2 [.undef,.v k,.undef] [d1,.box none cells] res [d1',.box none cells'])(hne:r1≠r2)(hs1:s[r1]?=some d1)(hx:lk s x=.ref r1 [])(hy:raw s y=.v k)(he:d1.exact=true)(hs2:s[r2]?=some (.box tag cells))(hz:lk s z=.ptr r2 [] 0 0)(hpc:cells.all D.plain=true)
    (hK:K res ((((pruneL (notRoot r2) ((pruneL (notRoot r1) s).set r1 .undef)).set r2 .undef).set r1 d1').set r2 (.box tag cells'))):evalK (CT P G) s (.callX f [x,y,z]) K :=
  call_lend2 (i:=0) (j:=2) (x1:=x) (x2:=z) hC rfl rfl hne hs1 (.inr hx) he hs2 hz hpc (by simp [hy]) (by rfl) hK
end
end Go.Proofs.Ytaleehohmpohoaa
