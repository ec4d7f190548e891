/- Laws that the proof stands on. -/
import Derived.Test.YtdlchnlpmofpmaaGreatDoorZVB
import Derived.Test.YtdlchnlpmofpmaaGreatDoorZVTab
import Derived.Test.YtdlchnlpmofpmaaGreatDoorZg6
import Derived.Shelf.Strconv.Itoa4
import Derived.Test.YtdlchnlpmofpmaaGreatDoorZg13
import Derived.Test.YtdlchnlpmofpmaaGreatDoorZg12
import Derived.Test.YtdlchnlpmofpmaaGreatDoorProg
set_option linter.all false
namespace Go.Proofs.YtdlchnlpmofpmaaGreatDoor
open Go.RowKit Go.V
set_option maxRecDepth 100000
theorem below_grow (w:World)(k:Nat)(os:Array Obj):Below w.heap.size w (Sort.grow (w.drewN k) os) :=
  ⟨rfl,rfl,rfl,by simp [Sort.grow],fun i hi=>by simp only [Sort.grow,World.heap_drewN];rw [Array.getElem?_append_left hi]⟩
def zFv (n:Int):List UInt8:=Lib.itoa n
theorem zTd (n:Int)(hn:InK .i64 n):Contract Tryz.prog zAr 120 [.v (.int .i64 n),.v (.int .i64 10)] (.v (.string ⟨(zFv n).toArray⟩)):=by
  refine ⟨fun us W=>by kernel_rfl,fun w I us hG hI hV=>?_⟩;obtain ⟨J,hJ,ht,_⟩:=hG;simp only [Vals,T] at hV;obtain ⟨_,_,_,_,rfl,_,⟨rfl,_⟩,_,_,_,_,rfl,_,⟨rfl,_⟩,rfl,_⟩:=hV;have h : -9223372036854775808≤n∧n≤9223372036854775807:=by have:=hn;unfold InK at this;omega
  refine (Any.strconv_FormatInt_10 Tryz.lays173 n (by omega) (by omega) w ht).mono ?_;rintro e w' ⟨rfl,k,os,rfl⟩;refine ⟨_,[],I,rfl,below_grow w k os,by simp only [T];exact ⟨rfl,trivial⟩,List.nodup_nil,(fun b h=>by cases h),fun b h=>h,fun b h=>⟨.inl h,?_⟩⟩;have:=hI b h;simp only [Sort.grow,World.heap_drewN,Array.size_append];omega
theorem yGl {i j:Nat}(hi:i≤1048576)(hj:j≤1048576):IntKind.i64.wrap ((IntKind.i64.wrap ((i:Int)+(j:Int))).tdiv 2)=(((i+j) / 2:Nat):Int):=by
  rw [wrI (a:=(i:Int)+(j:Int)) (by omega) (by omega)];have h2:((i:Int)+(j:Int)).tdiv 2=(((i+j) / 2:Nat):Int):=by rw [Int.tdiv_eq_ediv_of_nonneg (by omega)];omega
  rw [h2];exact wrI (by omega) (by omega)
end Go.Proofs.YtdlchnlpmofpmaaGreatDoor
