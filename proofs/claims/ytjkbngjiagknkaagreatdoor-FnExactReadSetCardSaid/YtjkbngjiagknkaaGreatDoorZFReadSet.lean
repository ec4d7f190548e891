/- Laws that the proof stands on. -/
import Derived.Test.YtjkbngjiagknkaaGreatDoorZVRsT
import Derived.Test.YtjkbngjiagknkaaGreatDoorZg13
import Derived.Test.YtjkbngjiagknkaaGreatDoorZVTab
set_option linter.all false
namespace Go.Proofs.YtjkbngjiagknkaaGreatDoor
open Go.RowKit Go.V
set_option maxRecDepth 100000
def ReadSetS (b:ByteArray):TileSet:=(ReadSetR b).1
def ReadSetL (b:ByteArray):Int:=(ReadSetR b).2.1
def ReadSetC (b:ByteArray):Int:=(ReadSetR b).2.2
theorem vReadSet_spec (q_aText:ByteArray) (q_aText_ok:q_aText.size≤maxLen) (q_aText_n:q_aText.size≤1048576):Contract Tryz.prog TabG 16 [.v (.string q_aText)] (.tup [.agg (TileSet.td.d true (ReadSetS q_aText)),.v (.int .i64 (ReadSetL q_aText)),.v (.int .i64 (ReadSetC q_aText))]):=by have h:=vReadSet_specR q_aText q_aText_n;rw [← readSet_same] at h;exact h
theorem vReadSet_impl (q_aText:ByteArray) (q_aText_ok:q_aText.size≤maxLen) (q_aText_n:q_aText.size≤1048576):Contract Tryz.prog TabG 17 [.v (.string q_aText)] (.tup [.agg (TileSet.td.d true (ReadSetS q_aText)),.v (.int .i64 (ReadSetL q_aText)),.v (.int .i64 (ReadSetC q_aText))]):=vReadSet_implR q_aText q_aText_n
theorem cnS_bdS {α:Type} {f:α→Nat} {K:Nat}:∀ xs:List α,(∀ x,x∈xs→f x≤K)→cnS f xs≤K*xs.length
  | [],_=>by simp [cnS]
  | x::xs,h=>by have h1:=cnS_bdS xs (fun y hy=>h y (List.mem_cons_of_mem _ hy));have h2:=h x (by simp);simp only [cnS,List.map_cons,List.sum_cons,List.length_cons,Nat.mul_add,Nat.mul_one] at *;omega
theorem RsB.mono {M k k':Nat} {s:TileSet} (h:RsB M k s) (hk:k≤k'):RsB M k' s:=⟨by have:=h.len;omega,h.gn,fun t ht=>by
  obtain ⟨a,b,c⟩:=h.tn t ht;exact ⟨a,b,fun x hx=>by have:=c x hx;omega⟩⟩
theorem readSet_B (b:ByteArray):RsB 20000 20001 (ReadSetS b):=by
  have h0:RsB 20000 20001 set0:=(set0_B _).mono (by omega);unfold ReadSetS ReadSetR ReadSetB;split
  · exact h0
  · rename_i hb;split
    · exact h0
    · rename_i x hf;split
      · exact (rsFold_B (M:=20000) (linesB b) 0 set0 x (fun l hl=>by have:=linesB_size hl;omega) (set0_B _) hf).mono (by have:=linesB_len b;omega)
      · exact h0
theorem ReadSetS_ok (b:ByteArray) (_:b.size≤maxLen) (_:b.size≤1048576):TileSet.td.ok (ReadSetS b):=by
  have h:=readSet_B b;rw [TileSet.td_ok];refine ⟨fun g hg=>?_,fun t ht=>?_⟩
  · obtain ⟨a,c,d⟩:=h.gn g hg;rw [Glue.td_ok];exact ⟨Nat.le_trans a (by unfold maxLen;omega),by unfold InK;omega⟩
  · obtain ⟨a,c,d⟩:=h.tn t ht;rw [Tile.td_ok];exact ⟨Nat.le_trans a (by unfold maxLen;omega),fun y hy=>by have:=d y hy;unfold InK;omega⟩
theorem ReadSetS_cn (b:ByteArray):(ReadSetS b).cnT≤1000000000000:=by
  have h:=readSet_B b;generalize ReadSetS b=x at h ⊢;have e:TileSet.cnT x=cnS Glue.cnE x.Glues+cnS Tile.cnE x.Tiles:=rfl;have h1:=cnS_bdS (f:=Glue.cnE) (K:=2) x.Glues (fun _ _=>Nat.le_refl 2);have h2:=cnS_bdS (f:=Tile.cnE) (K:=5) x.Tiles (fun t ht=>by
    have e:Tile.cnE t=1+cnS (fun _=>1) t.Sides:=rfl;have:=cnS_len (K:=1) (f:=fun _:Int=>1) (fun _=>Nat.le_refl 1) t.Sides;have:=(h.tn t ht).2.1;omega)
  have:=h.len;rw [e];omega
end Go.Proofs.YtjkbngjiagknkaaGreatDoor
