/- Laws that the proof stands on. -/
import Derived.Test.YtaleehohmpohoaaZg19
set_option linter.all false
namespace Go.Proofs.Ytaleehohmpohoaa
open Go.RowKit Go.V
attribute [local go_sem] xBh xBb xBc xA8 xA6 xBl xBk xBy xBm xC7 xBt xCi xBn xCl xB6 xCg xBi xBp xBw xCn Value.oneCell' xCp xCu xCv xC0 xC1 xBr xB7 and_true true_and beq_self_eq_true xBa if_true if_false xB2 Nat.reduceAdd Nat.reduceMul Nat.reduceLeDiff xBj xB5 xB0 not_true_eq_false not_false_eq_true ne_eq reduceCtorEq xCf bne_self_eq_false Nat.reduceEqDiff List.isPrefixOf xB9 xCm xCq xC5 xCx decide_true decide_false Nat.reduceBEq Nat.reduceBNe xBv xBz exists_eq_left' exists_eq_left xAv or_false or_true true_or false_or xAx xCk mB Nat.reduceMod Nat.reduceDiv
set_option maxRecDepth 100000
theorem yH3:KeyG (fun p:Int×Nat=>p.1) yOn:=⟨fun a b=>by show keq (.int .i64 a.1) (yOn b)=_;rw [yZe]⟩
theorem zip_fst (N:List Int):N.zipIdx.map (fun p:Int×Nat=>p.1)=N:=List.zipIdx_map_fst 0 N
theorem yM6 {N:List Int}(h:N.Nodup):(yIy N).length=N.length:=by unfold yIy;rw [yAh yH3 (by rw [zip_fst];exact h)];simp
theorem yBu {N:List Int}(h:N.Nodup){k:Int}(hk:k∈N):zXx (yIy N) (.int .i64 k)=some (.int .i64 (zE9 N k:Nat)):=by have hlt:=zY9 hk;have hg:N[zE9 N k]'hlt=k:=xFr hlt;have hm:(k,zE9 N k)∈N.zipIdx:=(by rw [List.mk_mem_zipIdx_iff_getElem?,xA1 hlt,hg]);exact zV8 (kk:=fun p:Int×Nat=>p.1) (key:=yOn) (val:=yX9) yH3 (xs:=N.zipIdx) (by rw [zip_fst];exact h) (fun b=>yZe k b) hm rfl
theorem yIx {N:List Int}(h:N.Nodup){k:Int}(hk:k∉N):zXx (yIy N) (.int .i64 k)=none :=
  zTd (kk:=fun p:Int×Nat=>p.1) (key:=yOn) (val:=yX9) yH3 (xs:=N.zipIdx) (by rw [zip_fst];exact h) (fun b=>yZe k b) (fun x hx e=>hk (by rw [← e,← zip_fst N];exact xFi hx))
theorem yM5 (N:List Int)(k:Int):zQ2 (yIy N) (.int .i64 k) (.int .i64 (N.length:Nat))=yIy (N++[k]):=by unfold yIy tbG;rw [List.zipIdx_append,xDx];simp [yOn,yX9]
def code_impl_renumbering_meet:VCode:=(.seq (.ops [
  ⟨some 4,none,.asg (.const (.int .i64 0))⟩]) (.seq (.seq (.ops [
  ⟨some 8,none,.mv (.tmp 0)⟩,
  ⟨some 9,none,.mv (.tmp 1)⟩,
  ⟨some 10,none,.mlk (.int .i64) (.int .i64 0) true (.tmp 8) (.tmp 9)⟩,
  ⟨some 7,none,.mv (.tmp 10)⟩,
  ⟨some 11,none,.ext (.tmp 7) 0⟩,
  ⟨some 12,none,.ext (.tmp 7) 1⟩,
  ⟨some 5,none,.asg (.tmp 11)⟩,
  ⟨some 6,none,.asg (.tmp 12)⟩]) (.seq (.ops [
  ⟨some 13,none,.mv (.tmp 6)⟩,
  ⟨some 14,none,.un .not (.tmp 13)⟩]) (.cond (.tmp 14) (.ops [
  ⟨some 15,none,.mv (.tmp 0)⟩,
  ⟨some 16,none,.mv (.tmp 1)⟩,
  ⟨some 17,none,.mv (.tmp 0)⟩,
  ⟨some 18,none,.mlen (.tmp 17)⟩,
  ⟨none,none,.mupd (.int .i64) (.tmp 15) (.tmp 16) (.tmp 18)⟩]) .skip))) (.seq (.ops [
  ⟨some 19,none,.mv (.tmp 0)⟩,
  ⟨some 20,none,.mv (.tmp 1)⟩,
  ⟨some 21,none,.mlk (.int .i64) (.int .i64 0) false (.tmp 19) (.tmp 20)⟩,
  ⟨some 4,none,.asg (.tmp 21)⟩]) .ret)))
theorem zHl {a1 d d0 d':D}(hx:d'.exact=true)(h:code_impl_renumbering_meet.wp (CT Try.prog NoG) (yZu [(.t 4)] d 0 d') [d0,a1,.undef,.undef,.undef,.undef,.undef,.undef,.undef,.undef,.undef,.undef,.undef,.undef,.undef,.undef,.undef,.undef,.undef,.undef,.undef,.undef]):ContractL Try.prog NoG 37 0 [.undef,a1] d0 d d' :=
  zYc (pt:=0) noG Try.func37 (fun us W=>by kernel_rfl) (c:=Try.f37.body.getD .skip) (ms:=[]) (ms':=[]) (by kernel_rfl) (by kernel_rfl) (by kernel_rfl) qAh (by kernel_rfl) hx h
theorem zFa (N:List Int)(k:Int)(h:N.Nodup)(hN:N.length<1000):ContractL Try.prog NoG 37 0 [.undef,.v (.int .i64 k)] (.mp (.int .i64) (yIy N)) (.v (.int .i64 (zE9 (zA6 N k) k:Nat))) (.mp (.int .i64) (yIy (zA6 N k))):=by
  refine zHl rfl ?_;unfold code_impl_renumbering_meet;have hl:=yM6 h;by_cases hm:k∈N
  · have hg:=yBu h hm;rw [zDo hm];simp -implicitDefEqProofs (disch:=omega) only [go_sem,↓reduceIte ,xAw,xAz,xA7,xA0,xAy,xAx,hg,hl,yBv,yHy]
  · have hg:=yIx h hm;have hne:=yM5 N k;have hg2:=yBu (zD7 (k:=k) h) (zFz N k);rw [zOs hm] at hg2;rw [zOs hm];simp -implicitDefEqProofs (disch:=omega) only [go_sem,↓reduceIte ,xAw,xAz,xA7,xA0,xAy,xAx,hg,hl,hne,hg2,yBv,yHy]
section
variable {P:Program} {G:World→(Nat→Prop)→Prop} {s:List D} {K:D→List D→Prop}
theorem zD8 {C:CtrT}{s:List D}{f:FuncId}{l:List Operand}{K:D→List D→Prop}(h:zAh C s (.callX f l) K):zAh C s (.callX f l) K:=h
theorem zB5 {f:FuncId}{r:Nat}{x y:Operand}{d d':D}{k:Value}{res:D}(hC:ContractL P G f 0 [.undef,.v k] d res d')(hs:s[r]?=some d)(hx:lk s x=.ref r [])(hy:raw s y=.v k)(he:d.exact=true)(hK:K res ((zAc (zAd r) s).set r d')):zAh (CT P G) s (.callX f [x,y]) K :=
  zTn (x:=x) true hC rfl qBr (by simp [hy,D.owny,zDy]) (by simp [hy,D.prune,deep,leL,D.le,zAc]) (.inr ⟨rfl,by simp [hy,D.prune,D.noRef,zAc,zJb]⟩) hK
theorem zD0 {f:FuncId}{r1 r2:Nat}{x y z:Operand}{d1 d1':D}{tag:Option Nat}{cells cells':List D}{k:Value}{res:D}(hC:zG2 P G f 0 2 [.undef,.v k,.undef] [d1,.box none cells] res [d1',.box none cells'])(hne:r1≠r2)(hs1:s[r1]?=some d1)(hx:lk s x=.ref r1 [])(hy:raw s y=.v k)(he:d1.exact=true)(hs2:s[r2]?=some (.box tag cells))(hz:lk s z=.ptr r2 [] 0 0)(hpc:cells.all D.plain=true)
    (hK:K res ((((zAc (zAd r2) ((zAc (zAd r1) s).set r1 .undef)).set r2 .undef).set r1 d1').set r2 (.box tag cells'))):zAh (CT P G) s (.callX f [x,y,z]) K :=
  yEe (i:=0) (j:=2) (x1:=x) (x2:=z) hC rfl rfl hne hs1 (.inr hx) he hs2 hz hpc qA9 (by rfl) hK
end
end Go.Proofs.Ytaleehohmpohoaa
