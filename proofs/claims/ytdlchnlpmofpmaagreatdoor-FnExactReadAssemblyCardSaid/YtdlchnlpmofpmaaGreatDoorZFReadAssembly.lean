/- Laws that the proof stands on. -/
import Derived.Test.YtdlchnlpmofpmaaGreatDoorZg29
import Derived.Test.YtdlchnlpmofpmaaGreatDoorZg14
import Derived.Test.YtdlchnlpmofpmaaGreatDoorZg18
import Derived.Test.YtdlchnlpmofpmaaGreatDoorZVTab
set_option linter.all false
namespace Go.Proofs.YtdlchnlpmofpmaaGreatDoor
open Go.RowKit Go.V
set_option maxRecDepth 100000
def zAs (s:TileSet)(b:ByteArray):Assembly:=(zAp s b).1
def zJc (s:TileSet)(b:ByteArray):Int:=(zAp s b).2.1
def zJd (s:TileSet)(b:ByteArray):Int:=(zAp s b).2.2
theorem zH2 (q_aSet:TileSet)(q_aSet_ok:TileSet.td.ok q_aSet)(q_aSet_n:TileSet.cnt q_aSet≤1048576)(q_aText:ByteArray)(q_aText_ok:q_aText.size≤maxLen)(q_aText_n:q_aText.size≤1048576):Contract Tryz.prog zAr 5 [.agg (TileSet.td.d false q_aSet),.v (.string q_aText)] (.tup [.agg (Assembly.td.d true (zAs q_aSet q_aText)),.v (.int .i64 (zJc q_aSet q_aText)),.v (.int .i64 (zJd q_aSet q_aText))]):=zG9 q_aSet (yAw q_aSet_n) q_aText q_aText_n
theorem zEq (q_aSet:TileSet)(q_aSet_ok:TileSet.td.ok q_aSet)(q_aSet_n:TileSet.cnt q_aSet≤1048576)(q_aText:ByteArray)(q_aText_ok:q_aText.size≤maxLen)(q_aText_n:q_aText.size≤1048576):Contract Tryz.prog zAr 7 [.agg (TileSet.td.d false q_aSet),.v (.string q_aText)] (.tup [.agg (Assembly.td.d true (zAs q_aSet q_aText)),.v (.int .i64 (zJc q_aSet q_aText)),.v (.int .i64 (zJd q_aSet q_aText))]):=zHa q_aSet (yAw q_aSet_n) q_aText q_aText_n
theorem zRr (s:TileSet)(b:ByteArray):(zAs s b).Tiles.length≤500∧∀ x,x∈(zAs s b).Tiles→Placed.td.ok x:=by
  have h0:asm0.Tiles.length≤500∧∀ x,x∈asm0.Tiles→Placed.td.ok x:=⟨Nat.zero_le _,fun _ h=>by cases h⟩
  unfold zAs zAp;cases hok:zD2 s with
  | false=>exact h0
  | true =>
    rw [if_neg (by decide)];by_cases hb:20000<b.size
    · rw [if_pos hb];exact h0
    · rw [if_neg hb];cases hf:zCj (zZe s.Tiles) (zA5 b) 0 [] with
      | error kc=>obtain ⟨k,c⟩:=kc;exact h0
      | ok xs=>have hB:=zPu _ _ _ _ (yGk _) hf;have hts:=zMk hok;refine ⟨by show (zL8 xs).length≤_;rw [(zD6 xs).length_eq];exact hB.len,fun x hx=>?_⟩;obtain ⟨h1,h2,h3⟩:=hB.pt x ((zD6 xs).mem_iff.1 hx);unfold yBp at h1;rw [Bool.and_eq_true] at h1;have a1:=inR_iff.1 h1.1;have a2:=inR_iff.1 h1.2;rw [Placed.td_ok,Point.td_ok];unfold InK;omega
theorem zLf (s:TileSet)(_:TileSet.td.ok s)(_:TileSet.cnt s≤1048576)(b:ByteArray)(_:b.size≤maxLen)(_:b.size≤1048576):Assembly.td.ok (zAs s b):=by rw [Assembly.td_ok];exact (zRr s b).2
theorem zLg (s:TileSet)(b:ByteArray):(zAs s b).cnT≤1000000000000:=by have e:Assembly.cnT (zAs s b)=cnS Placed.cnE (zAs s b).Tiles:=rfl;have h:=zKc (f:=Placed.cnE) (K:=3) (fun _=>Nat.le_refl 3) (zAs s b).Tiles;have:=(zRr s b).1;rw [e];omega
end Go.Proofs.YtdlchnlpmofpmaaGreatDoor
