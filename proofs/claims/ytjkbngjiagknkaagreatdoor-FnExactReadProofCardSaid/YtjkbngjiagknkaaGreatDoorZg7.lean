/- Laws that the proof stands on. -/
import Derived.Test.YtjkbngjiagknkaaGreatDoorRows
import Derived.Test.YtjkbngjiagknkaaGreatDoorZLib
set_option linter.all false
namespace Go.Proofs.YtjkbngjiagknkaaGreatDoor
open Go.RowKit Go.ChangeShapes Go.WideShapes Go.ChangeAt
set_option maxRecDepth 10000 in
set_option maxHeartbeats 1000000 in
theorem eqInt64S_any (v1 v2:Value) (xs:List Int) (w:World) (B:Nat) (hB:B≤w.heap.size) (h1:(Ty.slice 2 (Ty.int .i64)).rep w B [v1] xs) (h2:(Ty.slice 2 (Ty.int .i64)).rep w B [v2] xs) :
    Calls Tryz.prog 36 #[v1,v2] w fun e w'=>e=.returned (.bool true)∧Below w.heap.size w w':=by
  obtain ⟨a1,c1,rfl,_,hm1⟩:=Ty.form h1;obtain ⟨a2,c2,rfl,_,hm2⟩:=Ty.form h2;have hn:xs.length≤9223372036854775807:=(by unfold maxLen at hm1;omega);clear hm1 hm2;refine rebaseC ?_;intro x;go_enter Tryz.func36,Tryz.ntmps36;go_wp2
  go_loopw [5] (fun i wr=>∃ k:Nat,k≤xs.length∧i=.int .i64 k∧∃ z:Ext w,wr=w.to z) (fun i _=>xs.length - (intOf i).toNat)
  case atStart=>exact ⟨0,Nat.zero_le _,rfl,x,rfl⟩
  case round =>
    obtain ⟨k,hk,rfl,z,rfl⟩:=hrel;by_cases hlt:k < xs.length
    · obtain ⟨b1,o1,rfl,hb1,g1,_⟩:=Ty.elemInt h1 k hlt;obtain ⟨b2,o2,rfl,hb2,g2,_⟩:=Ty.elemInt h2 k hlt;have d1:∀ z:Ext w,(w.to z).cell? ⟨b1,o1+k,none⟩=some _:=fun z=>(to_cell z (by omega)).trans g1;have d2:∀ z:Ext w,(w.to z).cell? ⟨b2,o2+k,none⟩=some _:=fun z=>(to_cell z (by omega)).trans g2;clear g1 g2;go_wp2_with fail;refine wp_region_ext (by kernel_rfl) (by kernel_rfl) ?_
      repeat (go_big_quiet_step ((fail)))
      refine wpQuiet_nil ?_;rintro _ ⟨y,rfl⟩;go_wp2_with fail
      go_roundw
      case rel=>exact ⟨k+1,by omega,by go_num,y,rfl⟩
      case measure=>simp [intOf];omega
    · go_wp2_with fail
      go_ret;exact ⟨rfl,z.below⟩
set_option maxRecDepth 10000 in
set_option maxHeartbeats 1000000 in
theorem eqInt64SS_any (v1 v2:Value) (xs:List (List Int)) (w:World) (B:Nat) (hB:B≤w.heap.size) (h1:(Ty.slice 31 (Ty.slice 2 (Ty.int .i64))).rep w B [v1] xs) (h2:(Ty.slice 31 (Ty.slice 2 (Ty.int .i64))).rep w B [v2] xs) :
    Calls Tryz.prog 37 #[v1,v2] w fun e w'=>e=.returned (.bool true)∧Below w.heap.size w w':=by
  obtain ⟨a1,c1,rfl,_,hm1⟩:=Ty.form h1;obtain ⟨a2,c2,rfl,_,hm2⟩:=Ty.form h2;have hn:xs.length≤9223372036854775807:=(by unfold maxLen at hm1;omega);clear hm1 hm2;refine rebaseC ?_;intro x;go_enter Tryz.func37,Tryz.ntmps37;go_wp2
  go_loopw [5] (fun i wr=>∃ k:Nat,k≤xs.length∧i=.int .i64 k∧∃ z:Ext w,wr=w.to z) (fun i _=>xs.length - (intOf i).toNat)
  case atStart=>exact ⟨0,Nat.zero_le _,rfl,x,rfl⟩
  case round =>
    obtain ⟨k,hk,rfl,z,rfl⟩:=hrel;by_cases hlt:k < xs.length
    · obtain ⟨b1,o1,u1,rfl,hb1,d1,r1⟩:=Ty.elem1 h1 rfl hB k hlt;obtain ⟨b2,o2,u2,rfl,hb2,d2,r2⟩:=Ty.elem1 h2 rfl hB k hlt;have hs:=fun z:Ext w=>eqInt64S_any u1 u2 xs[k] (w.to z) B (Nat.le_trans hB z.below.size) (Ty.rep_to _ hB r1 z) (Ty.rep_to _ hB r2 z);have HS:=Lib.hid hs;clear hs;go_wp2_with fail;refine wp_region_ext (by kernel_rfl) (by kernel_rfl) ?_
      repeat (go_big_quiet_step ((go_at_call 36;exact ext_call (HS.out _))))
      refine wpQuiet_nil ?_;rintro _ ⟨y,rfl⟩;go_wp2_with fail
      go_roundw
      case rel=>exact ⟨k+1,by omega,by go_num,y,rfl⟩
      case measure=>simp [intOf];omega
    · go_wp2_with fail
      go_ret;exact ⟨rfl,z.below⟩
structure Point where
  X:Int
  Y:Int
  deriving DecidableEq
def Point.ty:Ty Point:=Ty.via (Ty.prod (Ty.int .i64) (Ty.int .i64)) (fun x=>(x.X,x.Y))
theorem Point.cells {w:World} {B:Nat} {cs:List Value} {x:Point} (h:Point.ty.rep w B cs x):cs=[.int .i64 x.X,.int .i64 x.Y]∧InK .i64 x.X∧InK .i64 x.Y:=by obtain ⟨_,_,rfl,h0,h1⟩:=h;obtain ⟨rfl,i0⟩:=h0;obtain ⟨rfl,i1⟩:=h1;exact ⟨rfl,i0,i1⟩
theorem Point.parts {w:World} {B:Nat} {x:Point} (h:Point.ty.rep w B [.int .i64 x.X,.int .i64 x.Y] x):InK .i64 x.X∧InK .i64 x.Y:=by obtain ⟨hh,r0,r1⟩:=Point.cells h;exact ⟨r0,r1⟩
set_option maxRecDepth 10000 in
set_option maxHeartbeats 1000000 in
theorem eqPoint_any (x:Point) (w:World) :
    Calls Tryz.prog 98 #[.agg #[.int .i64 x.X,.int .i64 x.Y],.agg #[.int .i64 x.X,.int .i64 x.Y]] w fun e w'=>e=.returned (.bool true)∧Below w.heap.size w w':=by
  go_enter Tryz.func98,Tryz.ntmps98
  go_upto_region 1 with fail
  refine rebase ?_;intro W1 hW _;have hz:Below w.heap.size w W1:=by rw [hW];go_grown
  have hb0:=at_of hW (push2_0 _ _ _);have c0:=box2 hb0;have f0:=boxf hb0;have B0:=Lib.hid hb0;clear hb0;have hb1:=at_of hW (push2_1 _ _ _);have c1:=box2 hb1;have f1:=boxf hb1;have B1:=Lib.hid hb1;clear hb1;have HW:=Lib.hid hW;clear hW;go_wp2_with fail;go_ret;exact ⟨rfl,ext_end _ hz⟩
structure Option where
  At:Point
  Tile:Int
  deriving DecidableEq
def Option.ty:Ty Option:=Ty.via (Ty.prod Point.ty (Ty.int .i64)) (fun x=>(x.At,x.Tile))
theorem Option.cells {w:World} {B:Nat} {cs:List Value} {x:Option} (h:Option.ty.rep w B cs x):cs=[.int .i64 x.At.X,.int .i64 x.At.Y,.int .i64 x.Tile]∧InK .i64 x.At.X∧InK .i64 x.At.Y∧InK .i64 x.Tile:=by obtain ⟨_,_,rfl,h0,h1⟩:=h;obtain ⟨rfl,i0_0,i0_1⟩:=Point.cells h0;obtain ⟨rfl,i1⟩:=h1;exact ⟨rfl,i0_0,i0_1,i1⟩
theorem Option.parts {w:World} {B:Nat} {x:Option} (h:Option.ty.rep w B [.int .i64 x.At.X,.int .i64 x.At.Y,.int .i64 x.Tile] x):InK .i64 x.At.X∧InK .i64 x.At.Y∧InK .i64 x.Tile:=by obtain ⟨hh,r0,r1,r2⟩:=Option.cells h;exact ⟨r0,r1,r2⟩
set_option maxRecDepth 10000 in
set_option maxHeartbeats 1000000 in
theorem eqOption_any (x:Option) (w:World) :
    Calls Tryz.prog 71 #[.agg #[.int .i64 x.At.X,.int .i64 x.At.Y,.int .i64 x.Tile],.agg #[.int .i64 x.At.X,.int .i64 x.At.Y,.int .i64 x.Tile]] w fun e w'=>e=.returned (.bool true)∧Below w.heap.size w w':=by
  go_enter Tryz.func71,Tryz.ntmps71
  go_upto_region 1 with fail
  refine rebase ?_;intro W1 hW _;have hz:Below w.heap.size w W1:=by rw [hW];go_grown
  have hb0:=at_of hW (push2_0 _ _ _);have c0:=box3 hb0;have f0:=boxf hb0;have B0:=Lib.hid hb0;clear hb0;have hb1:=at_of hW (push2_1 _ _ _);have c1:=box3 hb1;have f1:=boxf hb1;have B1:=Lib.hid hb1;clear hb1;have HW:=Lib.hid hW;clear hW;have hs0:=fun z:Ext W1=>eqPoint_any x.At (W1.to z);have HS0:=Lib.hid hs0;clear hs0;go_wp2_with fail
  first
    | (refine call_ext (HS0.out _) ?_;intro y)
    | (refine wp_region_ext (by kernel_rfl) (by kernel_rfl) ?_;repeat (go_big_quiet_step ((go_at_call 98;exact ext_call (HS0.out _))));refine wpQuiet_nil ?_;rintro _ ⟨y,rfl⟩)
  go_wp2_with fail
  go_ret;exact ⟨rfl,ext_end _ hz⟩
set_option maxRecDepth 10000 in
set_option maxHeartbeats 1000000 in
theorem eqOptionS_any (v1 v2:Value) (xs:List Option) (w:World) (B:Nat) (hB:B≤w.heap.size) (h1:(Ty.slice 114 Option.ty).rep w B [v1] xs) (h2:(Ty.slice 114 Option.ty).rep w B [v2] xs) :
    Calls Tryz.prog 35 #[v1,v2] w fun e w'=>e=.returned (.bool true)∧Below w.heap.size w w':=by
  obtain ⟨a1,c1,rfl,_,hm1⟩:=Ty.form h1;obtain ⟨a2,c2,rfl,_,hm2⟩:=Ty.form h2;have hn:xs.length≤9223372036854775807:=(by unfold maxLen at hm1;omega);clear hm1 hm2;refine rebaseC ?_;intro x;go_enter Tryz.func35,Tryz.ntmps35;go_wp2
  go_loopw [5] (fun i wr=>∃ k:Nat,k≤xs.length∧i=.int .i64 k∧∃ z:Ext w,wr=w.to z) (fun i _=>xs.length - (intOf i).toNat)
  case atStart=>exact ⟨0,Nat.zero_le _,rfl,x,rfl⟩
  case round =>
    obtain ⟨k,hk,rfl,z,rfl⟩:=hrel;by_cases hlt:k < xs.length
    · obtain ⟨b1,o1,cs1,rfl,hb1,g1,e1⟩:=Ty.elem h1 hB k hlt;obtain ⟨rfl,_,_,_⟩:=Option.cells e1;have d1_0:∀ z:Ext w,(w.to z).cell? ⟨b1,o1+k*3,none⟩=some (.int .i64 xs[k].At.X):=g1 0 _ rfl;have d1_1:∀ z:Ext w,(w.to z).cell? ⟨b1,o1+k*3+1,none⟩=some (.int .i64 xs[k].At.Y):=g1 1 _ rfl;have d1_2:∀ z:Ext w,(w.to z).cell? ⟨b1,o1+k*3+2,none⟩=some (.int .i64 xs[k].Tile):=g1 2 _ rfl;clear g1;obtain ⟨b2,o2,cs2,rfl,hb2,g2,e2⟩:=Ty.elem h2 hB k hlt;obtain ⟨rfl,_,_,_⟩:=Option.cells e2;have d2_0:∀ z:Ext w,(w.to z).cell? ⟨b2,o2+k*3,none⟩=some (.int .i64 xs[k].At.X):=g2 0 _ rfl;have d2_1:∀ z:Ext w,(w.to z).cell? ⟨b2,o2+k*3+1,none⟩=some (.int .i64 xs[k].At.Y):=g2 1 _ rfl;have d2_2:∀ z:Ext w,(w.to z).cell? ⟨b2,o2+k*3+2,none⟩=some (.int .i64 xs[k].Tile):=g2 2 _ rfl;clear g2;have hs:=fun z:Ext w=>eqOption_any xs[k] (w.to z);have HS:=Lib.hid hs;clear hs;go_wp2_with fail;refine wp_region_ext (by kernel_rfl) (by kernel_rfl) ?_
      repeat (go_big_quiet_step ((go_at_call 71;exact ext_call (HS.out _))))
      refine wpQuiet_nil ?_;rintro _ ⟨y,rfl⟩;go_wp2_with fail
      go_roundw
      case rel=>exact ⟨k+1,by omega,by go_num,y,rfl⟩
      case measure=>simp [intOf];omega
    · go_wp2_with fail
      go_ret;exact ⟨rfl,z.below⟩
structure Proof where
  Kind:Int
  Sequence:List Option
  Other:List Option
  Part:List Int
  Flows:List (List Int)
  deriving DecidableEq
def Proof.ty:Ty Proof:=Ty.via (Ty.prod (Ty.int .i64) (Ty.prod (Ty.slice 114 Option.ty) (Ty.prod (Ty.slice 114 Option.ty) (Ty.prod (Ty.slice 2 (Ty.int .i64)) (Ty.slice 31 (Ty.slice 2 (Ty.int .i64))))))) (fun x=>(x.Kind,x.Sequence,x.Other,x.Part,x.Flows))
def Proof.cnt (x:Proof):Nat:=x.Sequence.length+x.Other.length+x.Part.length+cntL (fun x:List Int=>x.length) x.Flows
theorem Proof.cells {w:World} {B:Nat} {cs:List Value} {x:Proof} (h:Proof.ty.rep w B cs x):∃ v0 v1 v2 v3:Value,cs=[.int .i64 x.Kind,v0,v1,v2,v3]∧InK .i64 x.Kind∧(Ty.slice 114 Option.ty).rep w B [v0] x.Sequence∧(Ty.slice 114 Option.ty).rep w B [v1] x.Other∧(Ty.slice 2 (Ty.int .i64)).rep w B [v2] x.Part∧(Ty.slice 31 (Ty.slice 2 (Ty.int .i64))).rep w B [v3] x.Flows:=by obtain ⟨_,_,rfl,h0,_,_,rfl,h1,_,_,rfl,h2,_,_,rfl,h3,h4⟩:=h;obtain ⟨rfl,i0⟩:=h0;obtain ⟨u1,rfl⟩:=Ty.slice_one h1;obtain ⟨u2,rfl⟩:=Ty.slice_one h2;obtain ⟨u3,rfl⟩:=Ty.slice_one h3;obtain ⟨u4,rfl⟩:=Ty.slice_one h4;exact ⟨_,_,_,_,rfl,i0,h1,h2,h3,h4⟩
theorem Proof.parts {w:World} {B:Nat} {v0 v1 v2 v3:Value} {x:Proof} (h:Proof.ty.rep w B [.int .i64 x.Kind,v0,v1,v2,v3] x):InK .i64 x.Kind∧(Ty.slice 114 Option.ty).rep w B [v0] x.Sequence∧(Ty.slice 114 Option.ty).rep w B [v1] x.Other∧(Ty.slice 2 (Ty.int .i64)).rep w B [v2] x.Part∧(Ty.slice 31 (Ty.slice 2 (Ty.int .i64))).rep w B [v3] x.Flows:=by obtain ⟨e0,e1,e2,e3,hh,r0,r1,r2,r3,r4⟩:=Proof.cells h;simp only [List.cons.injEq,and_true,true_and] at hh;obtain ⟨rfl,rfl,rfl,rfl⟩:=hh;exact ⟨r0,r1,r2,r3,r4⟩
set_option maxRecDepth 10000 in
set_option maxHeartbeats 1000000 in
theorem eqProof_any (v0 v1 v2 v3 u0 u1 u2 u3:Value) (x:Proof) (w:World) (B:Nat) (hB:B≤w.heap.size) (h0:(Ty.slice 114 Option.ty).rep w B [v0] x.Sequence) (h1:(Ty.slice 114 Option.ty).rep w B [v1] x.Other) (h2:(Ty.slice 2 (Ty.int .i64)).rep w B [v2] x.Part) (h3:(Ty.slice 31 (Ty.slice 2 (Ty.int .i64))).rep w B [v3] x.Flows) (k0:(Ty.slice 114 Option.ty).rep w B [u0] x.Sequence) (k1:(Ty.slice 114 Option.ty).rep w B [u1] x.Other) (k2:(Ty.slice 2 (Ty.int .i64)).rep w B [u2] x.Part) (k3:(Ty.slice 31 (Ty.slice 2 (Ty.int .i64))).rep w B [u3] x.Flows) :
    Calls Tryz.prog 13 #[.agg #[.int .i64 x.Kind,v0,v1,v2,v3],.agg #[.int .i64 x.Kind,u0,u1,u2,u3]] w fun e w'=>e=.returned (.bool true)∧Below w.heap.size w w':=by
  go_enter Tryz.func13,Tryz.ntmps13
  go_upto_region 1 with fail
  refine rebase ?_;intro W1 hW _;have hz:Below w.heap.size w W1:=by rw [hW];go_grown
  have hb0:=at_of hW (push2_0 _ _ _);have c0:=box5 hb0;have f0:=boxf hb0;have B0:=Lib.hid hb0;clear hb0;have hb1:=at_of hW (push2_1 _ _ _);have c1:=box5 hb1;have f1:=boxf hb1;have B1:=Lib.hid hb1;clear hb1;have HW:=Lib.hid hW;clear hW;have hs0:=fun z:Ext W1=>eqOptionS_any v0 u0 x.Sequence (W1.to z) B (Nat.le_trans hB (ext_end z hz).size) (Ty.rep_below _ h0 ((ext_end z hz).mono hB)) (Ty.rep_below _ k0 ((ext_end z hz).mono hB));have HS0:=Lib.hid hs0;clear hs0;have hs1:=fun z:Ext W1=>eqOptionS_any v1 u1 x.Other (W1.to z) B (Nat.le_trans hB (ext_end z hz).size) (Ty.rep_below _ h1 ((ext_end z hz).mono hB)) (Ty.rep_below _ k1 ((ext_end z hz).mono hB));have HS1:=Lib.hid hs1;clear hs1;have hs2:=fun z:Ext W1=>eqInt64S_any v2 u2 x.Part (W1.to z) B (Nat.le_trans hB (ext_end z hz).size) (Ty.rep_below _ h2 ((ext_end z hz).mono hB)) (Ty.rep_below _ k2 ((ext_end z hz).mono hB));have HS2:=Lib.hid hs2;clear hs2;have hs3:=fun z:Ext W1=>eqInt64SS_any v3 u3 x.Flows (W1.to z) B (Nat.le_trans hB (ext_end z hz).size) (Ty.rep_below _ h3 ((ext_end z hz).mono hB)) (Ty.rep_below _ k3 ((ext_end z hz).mono hB));have HS3:=Lib.hid hs3;clear hs3;go_wp2_with fail
  first
    | (refine call_ext (HS0.out _) ?_;intro y)
    | (refine wp_region_ext (by kernel_rfl) (by kernel_rfl) ?_;repeat (go_big_quiet_step ((go_at_call 35;exact ext_call (HS0.out _))));refine wpQuiet_nil ?_;rintro _ ⟨y,rfl⟩)
  go_wp2_with fail
  first
    | (refine call_ext (HS1.out _) ?_;intro y)
    | (refine wp_region_ext (by kernel_rfl) (by kernel_rfl) ?_;repeat (go_big_quiet_step ((go_at_call 35;exact ext_call (HS1.out _))));refine wpQuiet_nil ?_;rintro _ ⟨y,rfl⟩)
  go_wp2_with fail
  first
    | (refine call_ext (HS2.out _) ?_;intro y)
    | (refine wp_region_ext (by kernel_rfl) (by kernel_rfl) ?_;repeat (go_big_quiet_step ((go_at_call 36;exact ext_call (HS2.out _))));refine wpQuiet_nil ?_;rintro _ ⟨y,rfl⟩)
  go_wp2_with fail
  first
    | (refine call_ext (HS3.out _) ?_;intro y)
    | (refine wp_region_ext (by kernel_rfl) (by kernel_rfl) ?_;repeat (go_big_quiet_step ((go_at_call 37;exact ext_call (HS3.out _))));refine wpQuiet_nil ?_;rintro _ ⟨y,rfl⟩)
  go_wp2_with fail
  go_ret;exact ⟨rfl,ext_end _ hz⟩
end Go.Proofs.YtjkbngjiagknkaaGreatDoor
