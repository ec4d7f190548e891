/- Laws that the proof stands on. -/
import Derived.Test.YtjkbngjiagknkaaGreatDoorZVB
import Derived.Test.YtjkbngjiagknkaaGreatDoorZVTab
import Derived.Test.YtjkbngjiagknkaaGreatDoorZg5
import Derived.Shelf.Strconv.Itoa4
import Derived.Test.YtjkbngjiagknkaaGreatDoorProg
import Derived.Test.YtjkbngjiagknkaaGreatDoorZg11
import Derived.Test.YtjkbngjiagknkaaGreatDoorZg8
import Derived.Test.YtjkbngjiagknkaaGreatDoorZg6
set_option linter.all false
namespace Go.Proofs.YtjkbngjiagknkaaGreatDoor
open Go.RowKit Go.V
set_option maxRecDepth 100000
theorem below_grow (w:World) (k:Nat) (os:Array Obj):Below w.heap.size w (Sort.grow (w.drewN k) os) :=
  ⟨rfl,rfl,rfl,by simp [Sort.grow],fun i hi=>by simp only [Sort.grow,World.heap_drewN];rw [Array.getElem?_append_left hi]⟩
def itoaS (n:Int):List UInt8:=Lib.itoa n
theorem v_FormatInt (n:Int) (hn:InK .i64 n):Contract Tryz.prog TabG 118 [.v (.int .i64 n),.v (.int .i64 10)] (.v (.string ⟨(itoaS n).toArray⟩)):=by
  refine ⟨fun us W=>by kernel_rfl,fun w I us hG hI hV=>?_⟩;obtain ⟨J,hJ,ht,_⟩:=hG;simp only [Vals,T] at hV;obtain ⟨_,_,_,_,rfl,_,⟨rfl,_⟩,_,_,_,_,rfl,_,⟨rfl,_⟩,rfl,_⟩:=hV;have h : -9223372036854775808≤n∧n≤9223372036854775807:=by have:=hn;unfold InK at this;omega
  refine (Any.strconv_FormatInt_10 Tryz.lays173 n (by omega) (by omega) w ht).mono ?_;rintro e w' ⟨rfl,k,os,rfl⟩;refine ⟨_,[],I,rfl,below_grow w k os,by simp only [T];exact ⟨rfl,trivial⟩,List.nodup_nil,(fun b h=>by cases h),fun b h=>h,fun b h=>⟨.inl h,?_⟩⟩;have:=hI b h;simp only [Sort.grow,World.heap_drewN,Array.size_append];omega
theorem mkL_ok {α:Type} {ok:α→Prop} {mk:α→Int→α} {cn:α→Nat} (h:∀ (x:α) (k:Int),0≤k→k+(cn x:Nat)≤4611686018427387904→ok (mk x k)):∀ (xs:List α) (k:Int),0≤k→k+(cnS cn xs:Nat)≤4611686018427387904→∀ y,y∈mkL mk cn xs k→ok y
  | [],k,_,_,y,hy=>by simp [mkL] at hy
  | x::xs,k,h0,hk,y,hy=>by
    have e:cnS cn (x::xs)=cn x+cnS cn xs:=(by unfold cnS;rw [List.map_cons,List.sum_cons]);unfold mkL at hy;rcases List.mem_cons.1 hy with rfl | hy
    · exact h x k h0 (by omega)
    · exact mkL_ok h xs _ (by omega) (by omega) y hy
end Go.Proofs.YtjkbngjiagknkaaGreatDoor
