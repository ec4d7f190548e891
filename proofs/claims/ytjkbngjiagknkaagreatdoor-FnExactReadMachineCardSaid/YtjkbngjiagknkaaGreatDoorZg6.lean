/- Laws that the proof stands on. -/
import Derived.Test.YtjkbngjiagknkaaGreatDoorRows
import Derived.Test.YtjkbngjiagknkaaGreatDoorZLib
set_option linter.all false
namespace Go.Proofs.YtjkbngjiagknkaaGreatDoor
open Go.RowKit Go.ChangeShapes Go.WideShapes Go.ChangeAt
structure Move where
  State:Int
  Read:Int
  Write:Int
  Dir:Int
  Next:Int
  deriving DecidableEq
def Move.ty:Ty Move:=Ty.via (Ty.prod (Ty.int .i64) (Ty.prod (Ty.int .i64) (Ty.prod (Ty.int .i64) (Ty.prod (Ty.int .i64) (Ty.int .i64))))) (fun x=>(x.State,x.Read,x.Write,x.Dir,x.Next))
theorem Move.cells {w:World} {B:Nat} {cs:List Value} {x:Move} (h:Move.ty.rep w B cs x):cs=[.int .i64 x.State,.int .i64 x.Read,.int .i64 x.Write,.int .i64 x.Dir,.int .i64 x.Next]∧InK .i64 x.State∧InK .i64 x.Read∧InK .i64 x.Write∧InK .i64 x.Dir∧InK .i64 x.Next:=by obtain ⟨_,_,rfl,h0,_,_,rfl,h1,_,_,rfl,h2,_,_,rfl,h3,h4⟩:=h;obtain ⟨rfl,i0⟩:=h0;obtain ⟨rfl,i1⟩:=h1;obtain ⟨rfl,i2⟩:=h2;obtain ⟨rfl,i3⟩:=h3;obtain ⟨rfl,i4⟩:=h4;exact ⟨rfl,i0,i1,i2,i3,i4⟩
theorem Move.parts {w:World} {B:Nat} {x:Move} (h:Move.ty.rep w B [.int .i64 x.State,.int .i64 x.Read,.int .i64 x.Write,.int .i64 x.Dir,.int .i64 x.Next] x):InK .i64 x.State∧InK .i64 x.Read∧InK .i64 x.Write∧InK .i64 x.Dir∧InK .i64 x.Next:=by obtain ⟨hh,r0,r1,r2,r3,r4⟩:=Move.cells h;exact ⟨r0,r1,r2,r3,r4⟩
set_option maxRecDepth 10000 in
set_option maxHeartbeats 1000000 in
theorem eqMove_any (x:Move) (w:World) :
    Calls Tryz.prog 65 #[.agg #[.int .i64 x.State,.int .i64 x.Read,.int .i64 x.Write,.int .i64 x.Dir,.int .i64 x.Next],.agg #[.int .i64 x.State,.int .i64 x.Read,.int .i64 x.Write,.int .i64 x.Dir,.int .i64 x.Next]] w fun e w'=>e=.returned (.bool true)∧Below w.heap.size w w':=by
  go_enter Tryz.func65,Tryz.ntmps65
  go_upto_region 1 with fail
  refine rebase ?_;intro W1 hW _;have hz:Below w.heap.size w W1:=by rw [hW];go_grown
  have hb0:=at_of hW (push2_0 _ _ _);have c0:=box5 hb0;have f0:=boxf hb0;have B0:=Lib.hid hb0;clear hb0;have hb1:=at_of hW (push2_1 _ _ _);have c1:=box5 hb1;have f1:=boxf hb1;have B1:=Lib.hid hb1;clear hb1;have HW:=Lib.hid hW;clear hW;go_wp2_with fail;go_ret;exact ⟨rfl,ext_end _ hz⟩
set_option maxRecDepth 10000 in
set_option maxHeartbeats 1000000 in
theorem eqMoveS_any (v1 v2:Value) (xs:List Move) (w:World) (B:Nat) (hB:B≤w.heap.size) (h1:(Ty.slice 86 Move.ty).rep w B [v1] xs) (h2:(Ty.slice 86 Move.ty).rep w B [v2] xs) :
    Calls Tryz.prog 29 #[v1,v2] w fun e w'=>e=.returned (.bool true)∧Below w.heap.size w w':=by
  obtain ⟨a1,c1,rfl,_,hm1⟩:=Ty.form h1;obtain ⟨a2,c2,rfl,_,hm2⟩:=Ty.form h2;have hn:xs.length≤9223372036854775807:=(by unfold maxLen at hm1;omega);clear hm1 hm2;refine rebaseC ?_;intro x;go_enter Tryz.func29,Tryz.ntmps29;go_wp2
  go_loopw [5] (fun i wr=>∃ k:Nat,k≤xs.length∧i=.int .i64 k∧∃ z:Ext w,wr=w.to z) (fun i _=>xs.length - (intOf i).toNat)
  case atStart=>exact ⟨0,Nat.zero_le _,rfl,x,rfl⟩
  case round =>
    obtain ⟨k,hk,rfl,z,rfl⟩:=hrel;by_cases hlt:k < xs.length
    · obtain ⟨b1,o1,cs1,rfl,hb1,g1,e1⟩:=Ty.elem h1 hB k hlt;obtain ⟨rfl,_,_,_,_,_⟩:=Move.cells e1;have d1_0:∀ z:Ext w,(w.to z).cell? ⟨b1,o1+k*5,none⟩=some (.int .i64 xs[k].State):=g1 0 _ rfl;have d1_1:∀ z:Ext w,(w.to z).cell? ⟨b1,o1+k*5+1,none⟩=some (.int .i64 xs[k].Read):=g1 1 _ rfl;have d1_2:∀ z:Ext w,(w.to z).cell? ⟨b1,o1+k*5+2,none⟩=some (.int .i64 xs[k].Write):=g1 2 _ rfl;have d1_3:∀ z:Ext w,(w.to z).cell? ⟨b1,o1+k*5+3,none⟩=some (.int .i64 xs[k].Dir):=g1 3 _ rfl;have d1_4:∀ z:Ext w,(w.to z).cell? ⟨b1,o1+k*5+4,none⟩=some (.int .i64 xs[k].Next):=g1 4 _ rfl;clear g1;obtain ⟨b2,o2,cs2,rfl,hb2,g2,e2⟩:=Ty.elem h2 hB k hlt;obtain ⟨rfl,_,_,_,_,_⟩:=Move.cells e2;have d2_0:∀ z:Ext w,(w.to z).cell? ⟨b2,o2+k*5,none⟩=some (.int .i64 xs[k].State):=g2 0 _ rfl;have d2_1:∀ z:Ext w,(w.to z).cell? ⟨b2,o2+k*5+1,none⟩=some (.int .i64 xs[k].Read):=g2 1 _ rfl;have d2_2:∀ z:Ext w,(w.to z).cell? ⟨b2,o2+k*5+2,none⟩=some (.int .i64 xs[k].Write):=g2 2 _ rfl;have d2_3:∀ z:Ext w,(w.to z).cell? ⟨b2,o2+k*5+3,none⟩=some (.int .i64 xs[k].Dir):=g2 3 _ rfl;have d2_4:∀ z:Ext w,(w.to z).cell? ⟨b2,o2+k*5+4,none⟩=some (.int .i64 xs[k].Next):=g2 4 _ rfl;clear g2;have hs:=fun z:Ext w=>eqMove_any xs[k] (w.to z);have HS:=Lib.hid hs;clear hs;go_wp2_with fail;refine wp_region_ext (by kernel_rfl) (by kernel_rfl) ?_
      repeat (go_big_quiet_step ((go_at_call 65;exact ext_call (HS.out _))))
      refine wpQuiet_nil ?_;rintro _ ⟨y,rfl⟩;go_wp2_with fail
      go_roundw
      case rel=>exact ⟨k+1,by omega,by go_num,y,rfl⟩
      case measure=>simp [intOf];omega
    · go_wp2_with fail
      go_ret;exact ⟨rfl,z.below⟩
structure Machine where
  States:Int
  Symbols:Int
  Moves:List Move
  deriving DecidableEq
def Machine.ty:Ty Machine:=Ty.via (Ty.prod (Ty.int .i64) (Ty.prod (Ty.int .i64) (Ty.slice 86 Move.ty))) (fun x=>(x.States,x.Symbols,x.Moves))
def Machine.cnt (x:Machine):Nat:=x.Moves.length
theorem Machine.cells {w:World} {B:Nat} {cs:List Value} {x:Machine} (h:Machine.ty.rep w B cs x):∃ v0:Value,cs=[.int .i64 x.States,.int .i64 x.Symbols,v0]∧InK .i64 x.States∧InK .i64 x.Symbols∧(Ty.slice 86 Move.ty).rep w B [v0] x.Moves:=by obtain ⟨_,_,rfl,h0,_,_,rfl,h1,h2⟩:=h;obtain ⟨rfl,i0⟩:=h0;obtain ⟨rfl,i1⟩:=h1;obtain ⟨u2,rfl⟩:=Ty.slice_one h2;exact ⟨_,rfl,i0,i1,h2⟩
theorem Machine.parts {w:World} {B:Nat} {v0:Value} {x:Machine} (h:Machine.ty.rep w B [.int .i64 x.States,.int .i64 x.Symbols,v0] x):InK .i64 x.States∧InK .i64 x.Symbols∧(Ty.slice 86 Move.ty).rep w B [v0] x.Moves:=by obtain ⟨e0,hh,r0,r1,r2⟩:=Machine.cells h;simp only [List.cons.injEq,and_true,true_and] at hh;subst hh;exact ⟨r0,r1,r2⟩
set_option maxRecDepth 10000 in
set_option maxHeartbeats 1000000 in
theorem eqMachine_any (v0 u0:Value) (x:Machine) (w:World) (B:Nat) (hB:B≤w.heap.size) (h0:(Ty.slice 86 Move.ty).rep w B [v0] x.Moves) (k0:(Ty.slice 86 Move.ty).rep w B [u0] x.Moves) :
    Calls Tryz.prog 8 #[.agg #[.int .i64 x.States,.int .i64 x.Symbols,v0],.agg #[.int .i64 x.States,.int .i64 x.Symbols,u0]] w fun e w'=>e=.returned (.bool true)∧Below w.heap.size w w':=by
  go_enter Tryz.func8,Tryz.ntmps8
  go_upto_region 1 with fail
  refine rebase ?_;intro W1 hW _;have hz:Below w.heap.size w W1:=by rw [hW];go_grown
  have hb0:=at_of hW (push2_0 _ _ _);have c0:=box3 hb0;have f0:=boxf hb0;have B0:=Lib.hid hb0;clear hb0;have hb1:=at_of hW (push2_1 _ _ _);have c1:=box3 hb1;have f1:=boxf hb1;have B1:=Lib.hid hb1;clear hb1;have HW:=Lib.hid hW;clear hW;have hs0:=fun z:Ext W1=>eqMoveS_any v0 u0 x.Moves (W1.to z) B (Nat.le_trans hB (ext_end z hz).size) (Ty.rep_below _ h0 ((ext_end z hz).mono hB)) (Ty.rep_below _ k0 ((ext_end z hz).mono hB));have HS0:=Lib.hid hs0;clear hs0;go_wp2_with fail
  first
    | (refine call_ext (HS0.out _) ?_;intro y)
    | (refine wp_region_ext (by kernel_rfl) (by kernel_rfl) ?_;repeat (go_big_quiet_step ((go_at_call 29;exact ext_call (HS0.out _))));refine wpQuiet_nil ?_;rintro _ ⟨y,rfl⟩)
  go_wp2_with fail
  go_ret;exact ⟨rfl,ext_end _ hz⟩
structure Config where
  Tape:List Int
  Head:Int
  State:Int
  deriving DecidableEq
def Config.ty:Ty Config:=Ty.via (Ty.prod (Ty.slice 2 (Ty.int .i64)) (Ty.prod (Ty.int .i64) (Ty.int .i64))) (fun x=>(x.Tape,x.Head,x.State))
def Config.cnt (x:Config):Nat:=x.Tape.length
theorem Config.cells {w:World} {B:Nat} {cs:List Value} {x:Config} (h:Config.ty.rep w B cs x):∃ v0:Value,cs=[v0,.int .i64 x.Head,.int .i64 x.State]∧(Ty.slice 2 (Ty.int .i64)).rep w B [v0] x.Tape∧InK .i64 x.Head∧InK .i64 x.State:=by obtain ⟨_,_,rfl,h0,_,_,rfl,h1,h2⟩:=h;obtain ⟨u0,rfl⟩:=Ty.slice_one h0;obtain ⟨rfl,i1⟩:=h1;obtain ⟨rfl,i2⟩:=h2;exact ⟨_,rfl,h0,i1,i2⟩
theorem Config.parts {w:World} {B:Nat} {v0:Value} {x:Config} (h:Config.ty.rep w B [v0,.int .i64 x.Head,.int .i64 x.State] x):(Ty.slice 2 (Ty.int .i64)).rep w B [v0] x.Tape∧InK .i64 x.Head∧InK .i64 x.State:=by obtain ⟨e0,hh,r0,r1,r2⟩:=Config.cells h;simp only [List.cons.injEq,and_true,true_and] at hh;subst hh;exact ⟨r0,r1,r2⟩
end Go.Proofs.YtjkbngjiagknkaaGreatDoor
