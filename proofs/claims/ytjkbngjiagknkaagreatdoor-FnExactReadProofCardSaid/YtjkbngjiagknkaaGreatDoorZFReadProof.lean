/- Laws that the proof stands on. -/
import Derived.Test.YtjkbngjiagknkaaGreatDoorZVRpU
import Derived.Test.YtjkbngjiagknkaaGreatDoorZg9
import Derived.Test.YtjkbngjiagknkaaGreatDoorZVTab
set_option linter.all false
namespace Go.Proofs.YtjkbngjiagknkaaGreatDoor
open Go.RowKit Go.V
set_option maxRecDepth 100000
def ReadProofP (b:ByteArray):Proof:=(ReadProofR b).1
def ReadProofL (b:ByteArray):Int:=(ReadProofR b).2.1
def ReadProofC (b:ByteArray):Int:=(ReadProofR b).2.2
theorem vReadProof_spec (q_aText:ByteArray) (q_aText_ok:q_aText.size≤maxLen) (q_aText_n:q_aText.size≤1048576):Contract Tryz.prog TabG 11 [.v (.string q_aText)] (.tup [.agg (Proof.td.d true (ReadProofP q_aText)),.v (.int .i64 (ReadProofL q_aText)),.v (.int .i64 (ReadProofC q_aText))]):=vReadProof_specR q_aText q_aText_n
theorem vReadProof_impl (q_aText:ByteArray) (q_aText_ok:q_aText.size≤maxLen) (q_aText_n:q_aText.size≤1048576):Contract Tryz.prog TabG 12 [.v (.string q_aText)] (.tup [.agg (Proof.td.d true (ReadProofP q_aText)),.v (.int .i64 (ReadProofL q_aText)),.v (.int .i64 (ReadProofC q_aText))]):=vReadProof_implR q_aText q_aText_n
theorem cnS_bdF {α:Type} {f:α→Nat} {K:Nat}:∀ xs:List α,(∀ x,x∈xs→f x≤K)→cnS f xs≤K*xs.length
  | [],_=>by simp [cnS]
  | x::xs,h=>by have h1:=cnS_bdF xs (fun y hy=>h y (List.mem_cons_of_mem _ hy));have h2:=h x (by simp);simp only [cnS,List.map_cons,List.sum_cons,List.length_cons,Nat.mul_add,Nat.mul_one] at *;omega
theorem readProof_B (b:ByteArray):PfB 20000 20001 (ReadProofP b):=by
  have h0:PfB 20000 20001 pf0:=(pf0_B _).mono (by omega);unfold ReadProofP ReadProofR;split
  · exact h0
  · rename_i hb;split
    · exact h0
    · rename_i x hf;split
      · exact h0
      · obtain ⟨k,_⟩:=pfFold_ok (M:=20000) (linesB b) 0 (pf0,0) x (fun l hl=>by have:=linesB_size hl;omega) (pf0_B _) pf0_I (fun h=>absurd rfl h) hf;exact k.mono (by have:=linesB_len b;omega)
theorem smN_K {x:Int} (h:smN x):InK .i64 x:=by unfold smN at h;unfold InK;omega
theorem ReadProofP_ok (b:ByteArray) (_:b.size≤maxLen) (_:b.size≤1048576):Proof.td.ok (ReadProofP b):=by
  have h:=readProof_B b;rw [Proof.td_ok];refine ⟨?_,fun o ho=>?_,fun o ho=>?_,fun x hx=>smN_K (h.pt.2 x hx),fun f hf x hx=>smN_K ((h.fl f hf).2 x hx)⟩
  · have:=h.kd;unfold InK;omega
  · obtain ⟨a,c,d⟩:=h.sq o ho;rw [Option.td_ok,Point.td_ok];exact ⟨⟨smN_K a,smN_K c⟩,smN_K d⟩
  · obtain ⟨a,c,d⟩:=h.ot o ho;rw [Option.td_ok,Point.td_ok];exact ⟨⟨smN_K a,smN_K c⟩,smN_K d⟩
theorem ReadProofP_cn (b:ByteArray):(ReadProofP b).cnT≤1000000000000:=by
  have h:=readProof_B b;generalize ReadProofP b=x at h ⊢;have e:Proof.cnT x=cnS Option.cnE x.Sequence+cnS Option.cnE x.Other+cnS (fun _=>1) x.Part+cnS (cnS (fun _=>1)) x.Flows:=rfl;have h0:=cnS_len (K:=3) Option.cnE_le x.Sequence;have h1:=cnS_len (K:=3) Option.cnE_le x.Other;have h2:=cnS_len (f:=fun _:Int=>1) (K:=1) (fun _=>Nat.le_refl 1) x.Part;have h3:=cnS_bdF (f:=cnS (fun _:Int=>1)) (K:=20000) x.Flows (fun f hf=>by
    have:=cnS_len (f:=fun _:Int=>1) (K:=1) (fun _=>Nat.le_refl 1) f;have:=(h.fl f hf).1;omega)
  have:=h.len;have:=h.pt.1;rw [e];omega
end Go.Proofs.YtjkbngjiagknkaaGreatDoor
