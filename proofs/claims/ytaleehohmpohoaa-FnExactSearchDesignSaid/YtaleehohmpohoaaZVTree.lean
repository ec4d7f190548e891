/- Laws that the proof stands on. -/
import Derived.Test.YtaleehohmpohoaaZVSeg
set_option linter.all false
namespace Go.V
open Go.RowKit
def rO:Code→Array Oper
  | .region _ ops _=>ops
  | _=>#[]
def rI':Code→Nat
  | .region id _ _=>id
  | _=>0
def mA (k m:Nat):Array Bool:=(mB k m).toArray
section
variable (P:Program) (ops:Array Oper) (M:List Nat) (nh:Nat)
def finB (fuel:Nat)(listed:Array Bool):Bool:=decide (fuel=ops.size-nh)&&listed==headArr ops.size nh&&Region.seqB .any ops (ops.size-nh) nh listed
def GT (fuel:Nat)(listed:Array Bool)(t:VT)(n:Nat):Prop:=0<n∧∀ bud,n≤bud→genTF P ops M nh fuel bud listed=some (t,bud-n)
def GL (f:Nat)(listed:Array Bool)(l:List Nat)(t:VT)(n:Nat):Prop:=∀ bud,n≤bud→genL P (fun i b=>genTF P ops M nh f b (listed.setIfInBounds i true)) ops l bud=some (t,bud-n)
def vo? (i:Nat):Option VO:=match ops[i]? with
  | some o=>cVO P false ops o
  | none=>none
end
section
variable {P:Program} {ops:Array Oper} {M:List Nat} {nh f fuel k m m' i n n':Nat} {t sub rest:VT} {vo:VO} {l:List Nat}
theorem gt_done (h:finB ops nh fuel (mA k m)=true):GT P ops M nh fuel (mA k m) .done 1:=by refine ⟨Nat.one_pos,fun bud hb=>?_⟩;unfold genTF;unfold finB at h;rw [if_neg (by simp;omega),if_pos h]
theorem gt_h (hf:finB ops nh (f+1) (mA k m)=false)(hr:(Region.ready .any ops (mA k m)).find? (fun i=>M.contains i)=some i)(hv:vo? P ops i=some vo)(he:(mA k m).setIfInBounds i true=mA k m')(hs:GT P ops M nh f (mA k m') sub n):GT P ops M nh (f+1) (mA k m) (.h i vo sub) (n+1):=by
  refine ⟨Nat.succ_pos _,fun bud hb=>?_⟩;unfold genTF;have hf':¬ (decide (f+1=ops.size-nh)&&mA k m==headArr ops.size nh&&Region.seqB .any ops (ops.size-nh) nh (mA k m))=true:=by show ¬ finB ops nh (f+1) (mA k m)=true;rw [hf];decide
  rw [if_neg (by simp;omega),if_neg hf'];simp only [hr];unfold vo? at hv;unfold genH;split at hv
  · rename_i o ho;simp only [ho,hv,he,hs.2 (bud-1) (by omega)];congr 2;omega
  · cases hv
theorem gt_l (hf:finB ops nh (f+1) (mA k m)=false)(hr:Region.ready .any ops (mA k m)=l)(hn:l.find? (fun i=>M.contains i)=none)(hb:(l.isEmpty||!l.all (fun i=>decide (i<nh)))=false)(hl:GL P ops M nh f (mA k m) l t n):GT P ops M nh (f+1) (mA k m) t (n+1):=by
  refine ⟨Nat.succ_pos _,fun bud hb'=>?_⟩;unfold genTF;have hf':¬ (decide (f+1=ops.size-nh)&&mA k m==headArr ops.size nh&&Region.seqB .any ops (ops.size-nh) nh (mA k m))=true:=by show ¬ finB ops nh (f+1) (mA k m)=true;rw [hf];decide
  rw [if_neg (by simp;omega),if_neg hf'];simp only [hr,hn,hb,Bool.false_eq_true,if_false];rw [hl (bud-1) (by omega)];congr 2;omega
theorem gl_nil {listed:Array Bool}:GL P ops M nh f listed [] .nil 0:=fun bud _=>rfl
theorem gl_cons (hv:vo? P ops i=some vo)(he:(mA k m).setIfInBounds i true=mA k m')(hs:GT P ops M nh f (mA k m') sub n)(hl:GL P ops M nh f (mA k m) l rest n'):GL P ops M nh f (mA k m) (i::l) (.br i vo sub rest) (n+n'):=by
  intro bud hb;unfold vo? at hv;unfold genL;split at hv
  · rename_i o ho;simp only [ho,hv,he,hs.2 bud (by omega),hl (bud-n) (by omega)];congr 2;omega
  · cases hv
theorem cc_tree {pt:Nat}{c:Code}{ms:List (List Bool)}{tail:List VO}(hc:c=.region (rI' c) (rO c) true)(hb:(pt.testBit (2*rI' c+1)&&pt.testBit (2*rI' c))=true)(hg:(P.follows .mixedOrders&&Region.noSelect (rO c)&&decide (nh≤(rO c).size))=true)(hnh:headLen (rO c) (befs (rO c))=nh)(hM:frees P (rO c) nh=M)
    (hk:Array.replicate (rO c).size false=mA k 0) (ht:GT P (rO c) M nh (rO c).size (mA k 0) t n) (hn:n≤1200) (htl:cVOs P (rO c) ((rO c).toList.drop nh)=some tail):cCode P pt c ms=some (.drawT t tail,ms):=by
  generalize rO c=ops at *;generalize rI' c=id at *;subst hc;rw [Bool.and_eq_true] at hb;simp only [cCode,cDrawX,hb.1,hb.2,if_true,hnh];unfold cDrawFr;rw [if_pos hg,hM,hk];simp only [ht.2 1200 hn,htl]
end
end Go.V
