/- Laws that the proof stands on. -/
import Derived.Test.YtjkbngjiagknkaaGreatDoorZVRdX
import Derived.Test.YtjkbngjiagknkaaGreatDoorZg8
import Derived.Test.YtjkbngjiagknkaaGreatDoorZVTab
set_option linter.all false
namespace Go.Proofs.YtjkbngjiagknkaaGreatDoor
open Go.RowKit Go.V
set_option maxRecDepth 100000
def ReadMachineM (b:ByteArray):Machine:=(ReadMachineR b).1
def ReadMachineL (b:ByteArray):Int:=(ReadMachineR b).2.1
def ReadMachineC (b:ByteArray):Int:=(ReadMachineR b).2.2
theorem vReadMachine_spec (q_aText:ByteArray) (q_aText_ok:q_aText.size≤maxLen) (q_aText_n:q_aText.size≤1048576):Contract Tryz.prog TabG 6 [.v (.string q_aText)] (.tup [.agg (Machine.td.d true (ReadMachineM q_aText)),.v (.int .i64 (ReadMachineL q_aText)),.v (.int .i64 (ReadMachineC q_aText))]):=vReadMachine_specR q_aText q_aText_n
theorem vReadMachine_impl (q_aText:ByteArray) (q_aText_ok:q_aText.size≤maxLen) (q_aText_n:q_aText.size≤1048576):Contract Tryz.prog TabG 7 [.v (.string q_aText)] (.tup [.agg (Machine.td.d true (ReadMachineM q_aText)),.v (.int .i64 (ReadMachineL q_aText)),.v (.int .i64 (ReadMachineC q_aText))]):=vReadMachine_implR q_aText q_aText_n
theorem okMach_td {m:Machine} (h:okMach m=true):Machine.td.ok m∧m.Moves.length≤20:=by unfold okMach at h;simp only [Bool.and_eq_true,decide_eq_true_eq,List.all_eq_true] at h;obtain ⟨h1,h2,h3,h4,_⟩:=h;have a1:=inR_iff.1 h1;have a2:=inR_iff.1 h2;refine ⟨?_,h3⟩;rw [Machine.td_ok];refine ⟨by unfold InK;omega,by unfold InK;omega,fun y hy=>?_⟩;have h5:=h4 y hy;unfold mvOk at h5;simp only [Bool.and_eq_true,Bool.or_eq_true,decide_eq_true_eq] at h5;obtain ⟨b1,b2,b3,b4,b5⟩:=h5;have c1:=inR_iff.1 b1;have c2:=inR_iff.1 b2;have c3:=inR_iff.1 b3;have c4:=inR_iff.1 b4;rw [Move.td_ok];unfold InK;omega
theorem readM_cases (b:ByteArray):ReadMachineM b=mc0∨okMach (ReadMachineM b)=true:=by
  unfold ReadMachineM ReadMachineR;split
  · exact .inl rfl
  · split
    · exact .inl rfl
    · split
      · rename_i h;exact .inr h
      · exact .inl rfl
theorem ReadMachineM_ok (b:ByteArray) (_:b.size≤maxLen) (_:b.size≤1048576):Machine.td.ok (ReadMachineM b):=by
  rcases readM_cases b with h | h
  · rw [h,Machine.td_ok];exact ⟨by show InK .i64 0;unfold InK;omega,by show InK .i64 0;unfold InK;omega,fun y hy=>by cases hy⟩
  · exact (okMach_td h).1
theorem ReadMachineM_cn (b:ByteArray):(ReadMachineM b).cnT≤1000000000000:=by
  have e:Machine.cnT (ReadMachineM b)=cnS Move.cnE (ReadMachineM b).Moves:=rfl;have h1:=cnS_len (f:=Move.cnE) (K:=5) Move.cnE_le (ReadMachineM b).Moves;have h2:(ReadMachineM b).Moves.length≤20:=by
    rcases readM_cases b with h | h
    · rw [h];decide
    · exact (okMach_td h).2
  rw [e];omega
end Go.Proofs.YtjkbngjiagknkaaGreatDoor
