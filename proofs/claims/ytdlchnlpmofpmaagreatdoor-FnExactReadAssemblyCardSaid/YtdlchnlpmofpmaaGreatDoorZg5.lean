/- Laws that the proof stands on. -/
import Derived.Test.YtdlchnlpmofpmaaGreatDoorRows
import Derived.Test.YtdlchnlpmofpmaaGreatDoorZLib
set_option linter.all false
namespace Go.Proofs.YtdlchnlpmofpmaaGreatDoor
open Go.RowKit Go.ChangeShapes Go.WideShapes Go.ChangeAt
set_option maxRecDepth 10000 in
set_option maxHeartbeats 1000000 in
theorem zSl (v1 v2:Value)(xs:List Int)(w:World)(B:Nat)(hB:B≤w.heap.size)(h1:(Ty.slice 2 (Ty.int .i64)).rep w B [v1] xs)(h2:(Ty.slice 2 (Ty.int .i64)).rep w B [v2] xs) :
    Calls Tryz.prog 92 #[v1,v2] w fun e w'=>e=.returned (.bool true)∧Below w.heap.size w w':=by
  obtain ⟨a1,c1,rfl,_,hm1⟩:=Ty.form h1;obtain ⟨a2,c2,rfl,_,hm2⟩:=Ty.form h2;have hn:xs.length≤9223372036854775807:=(by unfold maxLen at hm1;omega);clear hm1 hm2;refine zHe ?_;intro x;go_enter Tryz.func92,Tryz.ntmps92;go_wp2
  go_loopw [5] (fun i wr=>∃ k:Nat,k≤xs.length∧i=.int .i64 k∧∃ z:Ext w,wr=w.to z) (fun i _=>xs.length-(intOf i).toNat)
  case atStart=>exact ⟨0,Nat.zero_le _,rfl,x,rfl⟩
  case round =>
    obtain ⟨k,hk,rfl,z,rfl⟩:=hrel;by_cases hlt:k<xs.length
    · obtain ⟨b1,o1,rfl,hb1,g1,_⟩:=Ty.elemInt h1 k hlt;obtain ⟨b2,o2,rfl,hb2,g2,_⟩:=Ty.elemInt h2 k hlt;have d1:∀ z:Ext w,(w.to z).cell? ⟨b1,o1+k,none⟩=some _:=fun z=>(zPn z (by omega)).trans g1;have d2:∀ z:Ext w,(w.to z).cell? ⟨b2,o2+k,none⟩=some _:=fun z=>(zPn z (by omega)).trans g2;clear g1 g2;go_wp2_with fail;refine zBn (by kernel_rfl) (by kernel_rfl) ?_
      repeat (go_big_quiet_step ((fail)))
      refine wpQuiet_nil ?_;rintro _ ⟨y,rfl⟩;go_wp2_with fail
      go_roundw
      case rel=>exact ⟨k+1,by omega,by go_num,y,rfl⟩
      case measure=>simp [intOf];omega
    · go_wp2_with fail
      go_ret;exact ⟨rfl,z.below⟩
set_option maxRecDepth 10000 in
set_option maxHeartbeats 1000000 in
theorem zKl (v:Value)(xs:List Int)(l:Int)(hl0:0≤l)(hl1:l≤1048576)(w:World)(B:Nat)(hB:B≤w.heap.size)(h:(Ty.slice 2 (Ty.int .i64)).rep w B [v] xs) :
    Calls Tryz.prog 62 #[v,.int .i64 l] w fun e w'=>e=.returned (.int .i64 (szR l (xs.length)))∧Below w.heap.size w w':=by
  have _:=hB;obtain ⟨a,c,rfl,hc,hm⟩:=Ty.form h;have hn:xs.length≤9223372036854775807:=(by unfold maxLen at hm;omega);clear hm;by_cases g:(xs.length:Int)≤l
  · rw [zE2 g];go_enter Tryz.func62,Tryz.ntmps62;go_wp2;go_ret;exact ⟨rfl,by go_grown⟩
  · rw [zDy g];go_enter Tryz.func62,Tryz.ntmps62;go_wp2;go_ret;exact ⟨rfl,by go_grown⟩
structure Glue where
  Name:ByteArray
  Strength:Int
  deriving DecidableEq
def Glue.ty:Ty Glue:=Ty.via (Ty.prod Ty.str (Ty.int .i64)) (fun x=>(x.Name,x.Strength))
def Glue.cnt (x:Glue):Nat:=x.Name.size
theorem Glue.cells {w:World}{B:Nat}{cs:List Value}{x:Glue}(h:Glue.ty.rep w B cs x):cs=[.string x.Name,.int .i64 x.Strength]∧x.Name.size≤maxLen∧InK .i64 x.Strength:=by obtain ⟨_,_,rfl,h0,h1⟩:=h;obtain ⟨rfl,i0⟩:=h0;obtain ⟨rfl,i1⟩:=h1;exact ⟨rfl,i0,i1⟩
theorem Glue.parts {w:World}{B:Nat}{x:Glue}(h:Glue.ty.rep w B [.string x.Name,.int .i64 x.Strength] x):x.Name.size≤maxLen∧InK .i64 x.Strength:=by obtain ⟨hh,r0,r1⟩:=Glue.cells h;exact ⟨r0,r1⟩
theorem Glue.rep_mk {w:World}{B:Nat}{x:Glue}(h0:x.Name.size≤maxLen)(h1:InK .i64 x.Strength):Glue.ty.rep w B [.string x.Name,.int .i64 x.Strength] x :=
  ⟨_,_,rfl,⟨rfl,h0⟩,⟨rfl,h1⟩⟩
set_option maxRecDepth 100000 in
theorem Glue.reads:Reads Tryz.prog 71 Glue.ty :=
  zMc (t:=(Ty.prod Ty.str (Ty.int .i64))) (fun x:Glue=>(x.Name,x.Strength)) (fun y=>⟨y.1,y.2⟩) (fun _=>rfl) (zF7 Tryz.underlying71 (by kernel_rfl) (zP9 rfl (zRp Tryz.underlying9 (by kernel_rfl)) (zUd rfl (zRq Tryz.underlying2 (by kernel_rfl)))))
set_option maxRecDepth 10000 in
set_option maxHeartbeats 1000000 in
theorem zYs (x:Glue)(w:World) :
    Calls Tryz.prog 58 #[.agg #[.string x.Name,.int .i64 x.Strength],.agg #[.string x.Name,.int .i64 x.Strength]] w fun e w'=>e=.returned (.bool true)∧Below w.heap.size w w':=by
  go_enter Tryz.func58,Tryz.ntmps58
  go_upto_region 1 with fail
  refine zEd ?_;intro W1 hW _;have hz:Below w.heap.size w W1:=by rw [hW];go_grown
  have hb0:=zEk hW (zJo _ _ _);have c0:=zS5 hb0;have f0:=zOd hb0;have B0:=Lib.hid hb0;clear hb0;have hb1:=zEk hW (zJn _ _ _);have c1:=zS5 hb1;have f1:=zOd hb1;have B1:=Lib.hid hb1;clear hb1;have HW:=Lib.hid hW;clear hW;go_wp2_with fail;go_ret;exact ⟨rfl,zAt _ hz⟩
set_option maxRecDepth 10000 in
set_option maxHeartbeats 1000000 in
theorem zUi (v1 v2:Value)(xs:List Glue)(w:World)(B:Nat)(hB:B≤w.heap.size)(h1:(Ty.slice 76 Glue.ty).rep w B [v1] xs)(h2:(Ty.slice 76 Glue.ty).rep w B [v2] xs) :
    Calls Tryz.prog 27 #[v1,v2] w fun e w'=>e=.returned (.bool true)∧Below w.heap.size w w':=by
  obtain ⟨a1,c1,rfl,_,hm1⟩:=Ty.form h1;obtain ⟨a2,c2,rfl,_,hm2⟩:=Ty.form h2;have hn:xs.length≤9223372036854775807:=(by unfold maxLen at hm1;omega);clear hm1 hm2;refine zHe ?_;intro x;go_enter Tryz.func27,Tryz.ntmps27;go_wp2
  go_loopw [5] (fun i wr=>∃ k:Nat,k≤xs.length∧i=.int .i64 k∧∃ z:Ext w,wr=w.to z) (fun i _=>xs.length-(intOf i).toNat)
  case atStart=>exact ⟨0,Nat.zero_le _,rfl,x,rfl⟩
  case round =>
    obtain ⟨k,hk,rfl,z,rfl⟩:=hrel;by_cases hlt:k<xs.length
    · obtain ⟨b1,o1,cs1,rfl,hb1,g1,e1⟩:=Ty.elem h1 hB k hlt;obtain ⟨rfl,_,_⟩:=Glue.cells e1;have d1_0:∀ z:Ext w,(w.to z).cell? ⟨b1,o1+k*2,none⟩=some (.string xs[k].Name):=g1 0 _ rfl;have d1_1:∀ z:Ext w,(w.to z).cell? ⟨b1,o1+k*2+1,none⟩=some (.int .i64 xs[k].Strength):=g1 1 _ rfl;clear g1;obtain ⟨b2,o2,cs2,rfl,hb2,g2,e2⟩:=Ty.elem h2 hB k hlt;obtain ⟨rfl,_,_⟩:=Glue.cells e2;have d2_0:∀ z:Ext w,(w.to z).cell? ⟨b2,o2+k*2,none⟩=some (.string xs[k].Name):=g2 0 _ rfl;have d2_1:∀ z:Ext w,(w.to z).cell? ⟨b2,o2+k*2+1,none⟩=some (.int .i64 xs[k].Strength):=g2 1 _ rfl;clear g2;have hs:=fun z:Ext w=>zYs xs[k] (w.to z);have HS:=Lib.hid hs;clear hs;go_wp2_with fail;refine zBn (by kernel_rfl) (by kernel_rfl) ?_
      repeat (go_big_quiet_step ((go_at_call 58;exact zEu (HS.out _))))
      refine wpQuiet_nil ?_;rintro _ ⟨y,rfl⟩;go_wp2_with fail
      go_roundw
      case rel=>exact ⟨k+1,by omega,by go_num,y,rfl⟩
      case measure=>simp [intOf];omega
    · go_wp2_with fail
      go_ret;exact ⟨rfl,z.below⟩
set_option maxRecDepth 10000 in
set_option maxHeartbeats 1000000 in
theorem zW0 (q:Glue)(l:Int)(hl0:0≤l)(hl1:l≤1048576)(w:World)(s0:q.Name.size≤maxLen) :
    Calls Tryz.prog 33 #[.agg #[.string q.Name,.int .i64 q.Strength],.int .i64 l] w fun e w'=>e=.returned (.int .i64 (szR l (Glue.cnt q)))∧Below w.heap.size w w':=by
  have s0_:q.Name.size≤9223372036854775807:=(by unfold maxLen at s0;omega);by_cases g0:((q.Name.size:Nat):Int)≤l
  · go_enter Tryz.func33,Tryz.ntmps33
    go_upto_region 1 with fail
    refine zEd ?_;intro W1 hW _;have hz:Below w.heap.size w W1:=by rw [hW];go_grown
    have hb0:=zEk hW (zEe _ _);have c0:=zS5 hb0;have f0:=zOd hb0;have B0:=Lib.hid hb0;clear hb0;have HW:=Lib.hid hW;clear hW;go_wp2_with fail;go_ret;exact ⟨by rw [zE2 (by unfold Glue.cnt;omega)];unfold Glue.cnt;go_num,zAt _ hz⟩
  · go_enter Tryz.func33,Tryz.ntmps33
    go_upto_region 1 with fail
    refine zEd ?_;intro W1 hW _;have hz:Below w.heap.size w W1:=by rw [hW];go_grown
    have hb0:=zEk hW (zEe _ _);have c0:=zS5 hb0;have f0:=zOd hb0;have B0:=Lib.hid hb0;clear hb0;have HW:=Lib.hid hW;clear hW;go_wp2_with fail;go_ret;exact ⟨by rw [zDy (by unfold Glue.cnt;omega)];rfl,zAt _ hz⟩
set_option maxRecDepth 10000 in
set_option maxHeartbeats 1000000 in
theorem zHb (v:Value) (xs:List Glue) (l:Int) (hl0:0≤l) (hl1:l≤1048576) (w:World) (B:Nat) (hB:B≤w.heap.size) (h:(Ty.slice 76 Glue.ty).rep w B [v] xs) :
    Calls Tryz.prog 13 #[v,.int .i64 l] w fun e w'=>e=.returned (.int .i64 (szR l (zHs Glue.cnt xs)))∧Below w.heap.size w w':=by
  obtain ⟨a,c,rfl,hc,hm⟩:=Ty.form h;have hn:xs.length≤9223372036854775807:=(by unfold maxLen at hm;omega);clear hm;by_cases g:(xs.length:Int)≤l
  · refine zHe ?_;intro x;go_enter Tryz.func13,Tryz.ntmps13;go_wp2
    go_loopw [1,5] (fun q i wr=>∃ k:Nat,k≤xs.length∧i=.int .i64 k∧((xs.length+zC2 Glue.cnt xs k:Nat):Int)≤l∧q=.int .i64 (l-(xs.length+zC2 Glue.cnt xs k:Nat))∧∃ z:Ext w,wr=w.to z) (fun _ i _=>xs.length-(intOf i).toNat)
    case atStart=>exact ⟨0,Nat.zero_le _,rfl,by rw [zC1];exact g,by rw [zC1];rfl,x,rfl⟩
    case round =>
      obtain ⟨k,hk,rfl,hs,rfl,z,rfl⟩:=hrel;generalize hq:xs.length+zC2 Glue.cnt xs k=q at hs ⊢;have HQ:=Lib.hid hq;clear hq;by_cases hlt:k<xs.length
      · obtain ⟨b,o,cs,rfl,hb,gg,ee⟩:=Ty.elem h hB k hlt;obtain ⟨rfl,s0,_⟩:=Glue.cells ee;have d0:∀ z:Ext w,(w.to z).cell? ⟨b,o+k*2,none⟩=some (.string xs[k].Name):=gg 0 _ rfl;have d1:∀ z:Ext w,(w.to z).cell? ⟨b,o+k*2+1,none⟩=some (.int .i64 xs[k].Strength):=gg 1 _ rfl;clear gg;have hs1:=fun z:Ext w=>zW0 xs[k] (l-q) (by omega) (by omega) (w.to z) s0;have hsum:=zDj Glue.cnt xs k hlt;have hsle:=zTe Glue.cnt xs (k+1);have HSU:=Lib.hid hsum;have HSL:=Lib.hid hsle;clear hsum hsle;by_cases gk:((Glue.cnt xs[k]:Nat):Int)≤l-q
        · simp only [zE2 gk] at hs1;have HS1:=Lib.hid hs1;clear hs1;go_wp2_with (go_at_call 33;refine zBx (HS1.out _) ?_;intro y)
          go_roundw
          case rel=>have h1:=HSU.out;have h2:=HQ.out;exact ⟨k+1,by omega,by go_num,by rw [h1];omega,by rw [h1];go_num,y,rfl⟩
          case measure=>simp [intOf];omega
        · simp only [zDy gk] at hs1;have HS1:=Lib.hid hs1;clear hs1;go_wp2_with (go_at_call 33;refine zBx (HS1.out _) ?_;intro y)
          go_ret;have h1:=HSU.out;have h2:=HQ.out;have h3:=HSL.out;exact ⟨by rw [zDy (by unfold zHs;omega)];rfl,y.below⟩
      · obtain rfl:k=xs.length:=(by omega);go_wp2_with fail;go_ret;have h2:=HQ.out;have h3:=zPp Glue.cnt xs;exact ⟨by rw [zE2 (by unfold zHs;omega),show zHs Glue.cnt xs=q by unfold zHs;omega];rfl,z.below⟩
  · rw [zDy (by have:=zGw Glue.cnt xs;omega)];go_enter Tryz.func13,Tryz.ntmps13;go_wp2;go_ret;exact ⟨rfl,by go_grown⟩
structure Tile where
  Name:ByteArray
  Sides:List Int
  deriving DecidableEq
def Tile.ty:Ty Tile:=Ty.via (Ty.prod Ty.str (Ty.slice 2 (Ty.int .i64))) (fun x=>(x.Name,x.Sides))
def Tile.cnt (x:Tile):Nat:=x.Name.size+x.Sides.length
theorem Tile.cells {w:World}{B:Nat}{cs:List Value}{x:Tile}(h:Tile.ty.rep w B cs x):∃ v0:Value,cs=[.string x.Name,v0]∧x.Name.size≤maxLen∧(Ty.slice 2 (Ty.int .i64)).rep w B [v0] x.Sides:=by obtain ⟨_,_,rfl,h0,h1⟩:=h;obtain ⟨rfl,i0⟩:=h0;obtain ⟨u1,rfl⟩:=Ty.slice_one h1;exact ⟨_,rfl,i0,h1⟩
theorem Tile.parts {w:World}{B:Nat}{v0:Value}{x:Tile}(h:Tile.ty.rep w B [.string x.Name,v0] x):x.Name.size≤maxLen∧(Ty.slice 2 (Ty.int .i64)).rep w B [v0] x.Sides:=by obtain ⟨e0,hh,r0,r1⟩:=Tile.cells h;simp only [List.cons.injEq,and_true,true_and] at hh;subst hh;exact ⟨r0,r1⟩
theorem Tile.rep_mk {w:World}{B:Nat}{v0:Value}{x:Tile}(h0:x.Name.size≤maxLen)(h1:(Ty.slice 2 (Ty.int .i64)).rep w B [v0] x.Sides):Tile.ty.rep w B [.string x.Name,v0] x :=
  ⟨_,_,rfl,⟨rfl,h0⟩,h1⟩
set_option maxRecDepth 100000 in
theorem Tile.reads:Reads Tryz.prog 75 Tile.ty :=
  zMc (t:=(Ty.prod Ty.str (Ty.slice 2 (Ty.int .i64)))) (fun x:Tile=>(x.Name,x.Sides)) (fun y=>⟨y.1,y.2⟩) (fun _=>rfl) (zF7 Tryz.underlying75 (by kernel_rfl) (zP9 rfl (zRp Tryz.underlying9 (by kernel_rfl)) (zUd rfl (zHf Tryz.underlying73 (by kernel_rfl) (by decide) (zRq Tryz.underlying2 (by kernel_rfl))))))
set_option maxRecDepth 10000 in
set_option maxHeartbeats 1000000 in
theorem zYr (v0 u0:Value)(x:Tile)(w:World)(B:Nat)(hB:B≤w.heap.size)(h0:(Ty.slice 2 (Ty.int .i64)).rep w B [v0] x.Sides)(k0:(Ty.slice 2 (Ty.int .i64)).rep w B [u0] x.Sides) :
    Calls Tryz.prog 59 #[.agg #[.string x.Name,v0],.agg #[.string x.Name,u0]] w fun e w'=>e=.returned (.bool true)∧Below w.heap.size w w':=by
  go_enter Tryz.func59,Tryz.ntmps59
  go_upto_region 1 with fail
  refine zEd ?_;intro W1 hW _;have hz:Below w.heap.size w W1:=by rw [hW];go_grown
  have hb0:=zEk hW (zJo _ _ _);have c0:=zS5 hb0;have f0:=zOd hb0;have B0:=Lib.hid hb0;clear hb0;have hb1:=zEk hW (zJn _ _ _);have c1:=zS5 hb1;have f1:=zOd hb1;have B1:=Lib.hid hb1;clear hb1;have HW:=Lib.hid hW;clear hW;have hs0:=fun z:Ext W1=>zSl v0 u0 x.Sides (W1.to z) B (Nat.le_trans hB (zAt z hz).size) (Ty.rep_below _ h0 ((zAt z hz).mono hB)) (Ty.rep_below _ k0 ((zAt z hz).mono hB));have HS0:=Lib.hid hs0;clear hs0;go_wp2_with fail
  first
    | (refine zBx (HS0.out _) ?_;intro y)
    | (refine zBn (by kernel_rfl) (by kernel_rfl) ?_;repeat (go_big_quiet_step ((go_at_call 92;exact zEu (HS0.out _))));refine wpQuiet_nil ?_;rintro _ ⟨y,rfl⟩)
  go_wp2_with fail
  go_ret;exact ⟨rfl,zAt _ hz⟩
set_option maxRecDepth 10000 in
set_option maxHeartbeats 1000000 in
theorem zUg (v1 v2:Value)(xs:List Tile)(w:World)(B:Nat)(hB:B≤w.heap.size)(h1:(Ty.slice 80 Tile.ty).rep w B [v1] xs)(h2:(Ty.slice 80 Tile.ty).rep w B [v2] xs) :
    Calls Tryz.prog 28 #[v1,v2] w fun e w'=>e=.returned (.bool true)∧Below w.heap.size w w':=by
  obtain ⟨a1,c1,rfl,_,hm1⟩:=Ty.form h1;obtain ⟨a2,c2,rfl,_,hm2⟩:=Ty.form h2;have hn:xs.length≤9223372036854775807:=(by unfold maxLen at hm1;omega);clear hm1 hm2;refine zHe ?_;intro x;go_enter Tryz.func28,Tryz.ntmps28;go_wp2
  go_loopw [5] (fun i wr=>∃ k:Nat,k≤xs.length∧i=.int .i64 k∧∃ z:Ext w,wr=w.to z) (fun i _=>xs.length-(intOf i).toNat)
  case atStart=>exact ⟨0,Nat.zero_le _,rfl,x,rfl⟩
  case round =>
    obtain ⟨k,hk,rfl,z,rfl⟩:=hrel;by_cases hlt:k<xs.length
    · obtain ⟨b1,o1,cs1,rfl,hb1,g1,e1⟩:=Ty.elem h1 hB k hlt;obtain ⟨p1_0,rfl,_,r1_1⟩:=Tile.cells e1;have d1_0:∀ z:Ext w,(w.to z).cell? ⟨b1,o1+k*2,none⟩=some (.string xs[k].Name):=g1 0 _ rfl;have d1_1:∀ z:Ext w,(w.to z).cell? ⟨b1,o1+k*2+1,none⟩=some (p1_0):=g1 1 _ rfl;clear g1;obtain ⟨b2,o2,cs2,rfl,hb2,g2,e2⟩:=Ty.elem h2 hB k hlt;obtain ⟨p2_0,rfl,_,r2_1⟩:=Tile.cells e2;have d2_0:∀ z:Ext w,(w.to z).cell? ⟨b2,o2+k*2,none⟩=some (.string xs[k].Name):=g2 0 _ rfl;have d2_1:∀ z:Ext w,(w.to z).cell? ⟨b2,o2+k*2+1,none⟩=some (p2_0):=g2 1 _ rfl;clear g2;have hs:=fun z:Ext w=>zYr p1_0 p2_0 xs[k] (w.to z) B (Nat.le_trans hB z.below.size) (Ty.rep_to _ hB r1_1 z) (Ty.rep_to _ hB r2_1 z);have HS:=Lib.hid hs;clear hs;go_wp2_with fail;refine zBn (by kernel_rfl) (by kernel_rfl) ?_
      repeat (go_big_quiet_step ((go_at_call 59;exact zEu (HS.out _))))
      refine wpQuiet_nil ?_;rintro _ ⟨y,rfl⟩;go_wp2_with fail
      go_roundw
      case rel=>exact ⟨k+1,by omega,by go_num,y,rfl⟩
      case measure=>simp [intOf];omega
    · go_wp2_with fail
      go_ret;exact ⟨rfl,z.below⟩
set_option maxRecDepth 10000 in
set_option maxHeartbeats 1000000 in
theorem zWz (v0:Value)(q:Tile)(l:Int)(hl0:0≤l)(hl1:l≤1048576)(w:World)(B:Nat)(hB:B≤w.heap.size)(h0:(Ty.slice 2 (Ty.int .i64)).rep w B [v0] q.Sides)(s0:q.Name.size≤maxLen) :
    Calls Tryz.prog 34 #[.agg #[.string q.Name,v0],.int .i64 l] w fun e w'=>e=.returned (.int .i64 (szR l (Tile.cnt q)))∧Below w.heap.size w w':=by
  have s0_:q.Name.size≤9223372036854775807:=(by unfold maxLen at s0;omega);by_cases g0:((q.Name.size:Nat):Int)≤l
  · by_cases g1:((q.Sides.length:Nat):Int)≤l-(q.Name.size:Nat)
    · go_enter Tryz.func34,Tryz.ntmps34
      go_upto_region 1 with fail
      refine zEd ?_;intro W1 hW _;have hz:Below w.heap.size w W1:=by rw [hW];go_grown
      have hb0:=zEk hW (zEe _ _);have c0:=zS5 hb0;have f0:=zOd hb0;have B0:=Lib.hid hb0;clear hb0;have HW:=Lib.hid hW;clear hW;have hs1:=fun z:Ext W1=>zKl v0 q.Sides (l-(q.Name.size:Nat)) (by omega) (by omega) (W1.to z) B (Nat.le_trans hB (zAt z hz).size) (Ty.rep_below _ h0 ((zAt z hz).mono hB));simp only [zE2 g1] at hs1;have HS1:=Lib.hid hs1;clear hs1;go_wp2_with fail;refine zBx (HS1.out _) ?_;intro y;go_wp2_with fail;go_ret;exact ⟨by rw [zE2 (by unfold Tile.cnt;omega)];unfold Tile.cnt;go_num,zAt _ hz⟩
    · go_enter Tryz.func34,Tryz.ntmps34
      go_upto_region 1 with fail
      refine zEd ?_;intro W1 hW _;have hz:Below w.heap.size w W1:=by rw [hW];go_grown
      have hb0:=zEk hW (zEe _ _);have c0:=zS5 hb0;have f0:=zOd hb0;have B0:=Lib.hid hb0;clear hb0;have HW:=Lib.hid hW;clear hW;have hs1:=fun z:Ext W1=>zKl v0 q.Sides (l-(q.Name.size:Nat)) (by omega) (by omega) (W1.to z) B (Nat.le_trans hB (zAt z hz).size) (Ty.rep_below _ h0 ((zAt z hz).mono hB));simp only [zDy g1] at hs1;have HS1:=Lib.hid hs1;clear hs1;go_wp2_with fail;refine zBx (HS1.out _) ?_;intro y;go_wp2_with fail;go_ret;exact ⟨by rw [zDy (by unfold Tile.cnt;omega)];rfl,zAt _ hz⟩
  · go_enter Tryz.func34,Tryz.ntmps34
    go_upto_region 1 with fail
    refine zEd ?_;intro W1 hW _;have hz:Below w.heap.size w W1:=by rw [hW];go_grown
    have hb0:=zEk hW (zEe _ _);have c0:=zS5 hb0;have f0:=zOd hb0;have B0:=Lib.hid hb0;clear hb0;have HW:=Lib.hid hW;clear hW;go_wp2_with fail;go_ret;exact ⟨by rw [zDy (by unfold Tile.cnt;omega)];rfl,zAt _ hz⟩
set_option maxRecDepth 10000 in
set_option maxHeartbeats 1000000 in
theorem zL6 (v:Value) (xs:List Tile) (l:Int) (hl0:0≤l) (hl1:l≤1048576) (w:World) (B:Nat) (hB:B≤w.heap.size) (h:(Ty.slice 80 Tile.ty).rep w B [v] xs) :
    Calls Tryz.prog 14 #[v,.int .i64 l] w fun e w'=>e=.returned (.int .i64 (szR l (zHs Tile.cnt xs)))∧Below w.heap.size w w':=by
  obtain ⟨a,c,rfl,hc,hm⟩:=Ty.form h;have hn:xs.length≤9223372036854775807:=(by unfold maxLen at hm;omega);clear hm;by_cases g:(xs.length:Int)≤l
  · refine zHe ?_;intro x;go_enter Tryz.func14,Tryz.ntmps14;go_wp2
    go_loopw [1,5] (fun q i wr=>∃ k:Nat,k≤xs.length∧i=.int .i64 k∧((xs.length+zC2 Tile.cnt xs k:Nat):Int)≤l∧q=.int .i64 (l-(xs.length+zC2 Tile.cnt xs k:Nat))∧∃ z:Ext w,wr=w.to z) (fun _ i _=>xs.length-(intOf i).toNat)
    case atStart=>exact ⟨0,Nat.zero_le _,rfl,by rw [zC1];exact g,by rw [zC1];rfl,x,rfl⟩
    case round =>
      obtain ⟨k,hk,rfl,hs,rfl,z,rfl⟩:=hrel;generalize hq:xs.length+zC2 Tile.cnt xs k=q at hs ⊢;have HQ:=Lib.hid hq;clear hq;by_cases hlt:k<xs.length
      · obtain ⟨b,o,cs,rfl,hb,gg,ee⟩:=Ty.elem h hB k hlt;obtain ⟨p0,rfl,s0,r1⟩:=Tile.cells ee;have d0:∀ z:Ext w,(w.to z).cell? ⟨b,o+k*2,none⟩=some (.string xs[k].Name):=gg 0 _ rfl;have d1:∀ z:Ext w,(w.to z).cell? ⟨b,o+k*2+1,none⟩=some (p0):=gg 1 _ rfl;clear gg;have hs1:=fun z:Ext w=>zWz p0 xs[k] (l-q) (by omega) (by omega) (w.to z) B (Nat.le_trans hB z.below.size) (Ty.rep_to _ hB r1 z) s0;have hsum:=zDj Tile.cnt xs k hlt;have hsle:=zTe Tile.cnt xs (k+1);have HSU:=Lib.hid hsum;have HSL:=Lib.hid hsle;clear hsum hsle;by_cases gk:((Tile.cnt xs[k]:Nat):Int)≤l-q
        · simp only [zE2 gk] at hs1;have HS1:=Lib.hid hs1;clear hs1;go_wp2_with (go_at_call 34;refine zBx (HS1.out _) ?_;intro y)
          go_roundw
          case rel=>have h1:=HSU.out;have h2:=HQ.out;exact ⟨k+1,by omega,by go_num,by rw [h1];omega,by rw [h1];go_num,y,rfl⟩
          case measure=>simp [intOf];omega
        · simp only [zDy gk] at hs1;have HS1:=Lib.hid hs1;clear hs1;go_wp2_with (go_at_call 34;refine zBx (HS1.out _) ?_;intro y)
          go_ret;have h1:=HSU.out;have h2:=HQ.out;have h3:=HSL.out;exact ⟨by rw [zDy (by unfold zHs;omega)];rfl,y.below⟩
      · obtain rfl:k=xs.length:=(by omega);go_wp2_with fail;go_ret;have h2:=HQ.out;have h3:=zPp Tile.cnt xs;exact ⟨by rw [zE2 (by unfold zHs;omega),show zHs Tile.cnt xs=q by unfold zHs;omega];rfl,z.below⟩
  · rw [zDy (by have:=zGw Tile.cnt xs;omega)];go_enter Tryz.func14,Tryz.ntmps14;go_wp2;go_ret;exact ⟨rfl,by go_grown⟩
structure TileSet where
  Glues:List Glue
  Tiles:List Tile
  deriving DecidableEq
def TileSet.ty:Ty TileSet:=Ty.via (Ty.prod (Ty.slice 76 Glue.ty) (Ty.slice 80 Tile.ty)) (fun x=>(x.Glues,x.Tiles))
def TileSet.cnt (x:TileSet):Nat:=zHs Glue.cnt x.Glues+zHs Tile.cnt x.Tiles
theorem TileSet.cells {w:World}{B:Nat}{cs:List Value}{x:TileSet}(h:TileSet.ty.rep w B cs x):∃ v0 v1:Value,cs=[v0,v1]∧(Ty.slice 76 Glue.ty).rep w B [v0] x.Glues∧(Ty.slice 80 Tile.ty).rep w B [v1] x.Tiles:=by obtain ⟨_,_,rfl,h0,h1⟩:=h;obtain ⟨u0,rfl⟩:=Ty.slice_one h0;obtain ⟨u1,rfl⟩:=Ty.slice_one h1;exact ⟨_,_,rfl,h0,h1⟩
theorem TileSet.parts {w:World}{B:Nat}{v0 v1:Value}{x:TileSet}(h:TileSet.ty.rep w B [v0,v1] x):(Ty.slice 76 Glue.ty).rep w B [v0] x.Glues∧(Ty.slice 80 Tile.ty).rep w B [v1] x.Tiles:=by obtain ⟨e0,e1,hh,r0,r1⟩:=TileSet.cells h;simp only [List.cons.injEq,and_true,true_and] at hh;obtain ⟨rfl,rfl⟩:=hh;exact ⟨r0,r1⟩
theorem TileSet.rep_mk {w:World}{B:Nat}{v0 v1:Value}{x:TileSet}(h0:(Ty.slice 76 Glue.ty).rep w B [v0] x.Glues)(h1:(Ty.slice 80 Tile.ty).rep w B [v1] x.Tiles):TileSet.ty.rep w B [v0,v1] x :=
  ⟨_,_,rfl,h0,h1⟩
set_option maxRecDepth 100000 in
theorem TileSet.reads:Reads Tryz.prog 25 TileSet.ty :=
  zMc (t:=(Ty.prod (Ty.slice 76 Glue.ty) (Ty.slice 80 Tile.ty))) (fun x:TileSet=>(x.Glues,x.Tiles)) (fun y=>⟨y.1,y.2⟩) (fun _=>rfl) (zF7 Tryz.underlying25 (by kernel_rfl) (zP9 rfl (zHf Tryz.underlying22 (by kernel_rfl) (by decide) (Glue.reads)) (zUd rfl (zHf Tryz.underlying23 (by kernel_rfl) (by decide) (Tile.reads)))))
set_option maxRecDepth 10000 in
set_option maxHeartbeats 1000000 in
theorem zQd (v0 v1 u0 u1:Value)(x:TileSet)(w:World)(B:Nat)(hB:B≤w.heap.size)(h0:(Ty.slice 76 Glue.ty).rep w B [v0] x.Glues)(h1:(Ty.slice 80 Tile.ty).rep w B [v1] x.Tiles)(k0:(Ty.slice 76 Glue.ty).rep w B [u0] x.Glues)(k1:(Ty.slice 80 Tile.ty).rep w B [u1] x.Tiles) :
    Calls Tryz.prog 9 #[.agg #[v0,v1],.agg #[u0,u1]] w fun e w'=>e=.returned (.bool true)∧Below w.heap.size w w':=by
  go_enter Tryz.func9,Tryz.ntmps9
  go_upto_region 1 with fail
  refine zEd ?_;intro W1 hW _;have hz:Below w.heap.size w W1:=by rw [hW];go_grown
  have hb0:=zEk hW (zJo _ _ _);have c0:=zS5 hb0;have f0:=zOd hb0;have B0:=Lib.hid hb0;clear hb0;have hb1:=zEk hW (zJn _ _ _);have c1:=zS5 hb1;have f1:=zOd hb1;have B1:=Lib.hid hb1;clear hb1;have HW:=Lib.hid hW;clear hW;have hs0:=fun z:Ext W1=>zUi v0 u0 x.Glues (W1.to z) B (Nat.le_trans hB (zAt z hz).size) (Ty.rep_below _ h0 ((zAt z hz).mono hB)) (Ty.rep_below _ k0 ((zAt z hz).mono hB));have HS0:=Lib.hid hs0;clear hs0;have hs1:=fun z:Ext W1=>zUg v1 u1 x.Tiles (W1.to z) B (Nat.le_trans hB (zAt z hz).size) (Ty.rep_below _ h1 ((zAt z hz).mono hB)) (Ty.rep_below _ k1 ((zAt z hz).mono hB));have HS1:=Lib.hid hs1;clear hs1;go_wp2_with fail
  first
    | (refine zBx (HS0.out _) ?_;intro y)
    | (refine zBn (by kernel_rfl) (by kernel_rfl) ?_;repeat (go_big_quiet_step ((go_at_call 27;exact zEu (HS0.out _))));refine wpQuiet_nil ?_;rintro _ ⟨y,rfl⟩)
  go_wp2_with fail
  first
    | (refine zBx (HS1.out _) ?_;intro y)
    | (refine zBn (by kernel_rfl) (by kernel_rfl) ?_;repeat (go_big_quiet_step ((go_at_call 28;exact zEu (HS1.out _))));refine wpQuiet_nil ?_;rintro _ ⟨y,rfl⟩)
  go_wp2_with fail
  go_ret;exact ⟨rfl,zAt _ hz⟩
set_option maxRecDepth 10000 in
set_option maxHeartbeats 1000000 in
theorem zPo (v0 v1:Value)(q:TileSet)(l:Int)(hl0:0≤l)(hl1:l≤1048576)(w:World)(B:Nat)(hB:B≤w.heap.size)(h0:(Ty.slice 76 Glue.ty).rep w B [v0] q.Glues)(h1:(Ty.slice 80 Tile.ty).rep w B [v1] q.Tiles) :
    Calls Tryz.prog 4 #[.agg #[v0,v1],.int .i64 l] w fun e w'=>e=.returned (.int .i64 (szR l (TileSet.cnt q)))∧Below w.heap.size w w':=by
  by_cases g0:((zHs Glue.cnt q.Glues:Nat):Int)≤l
  · by_cases g1:((zHs Tile.cnt q.Tiles:Nat):Int)≤l-(zHs Glue.cnt q.Glues:Nat)
    · go_enter Tryz.func4,Tryz.ntmps4
      go_upto_region 1 with fail
      refine zEd ?_;intro W1 hW _;have hz:Below w.heap.size w W1:=by rw [hW];go_grown
      have hb0:=zEk hW (zEe _ _);have c0:=zS5 hb0;have f0:=zOd hb0;have B0:=Lib.hid hb0;clear hb0;have HW:=Lib.hid hW;clear hW;have hs0:=fun z:Ext W1=>zHb v0 q.Glues (l) (by omega) (by omega) (W1.to z) B (Nat.le_trans hB (zAt z hz).size) (Ty.rep_below _ h0 ((zAt z hz).mono hB));simp only [zE2 g0] at hs0;have HS0:=Lib.hid hs0;clear hs0;have hs1:=fun z:Ext W1=>zL6 v1 q.Tiles (l-(zHs Glue.cnt q.Glues:Nat)) (by omega) (by omega) (W1.to z) B (Nat.le_trans hB (zAt z hz).size) (Ty.rep_below _ h1 ((zAt z hz).mono hB));simp only [zE2 g1] at hs1;have HS1:=Lib.hid hs1;clear hs1;go_wp2_with fail;refine zBx (HS0.out _) ?_;intro y;go_wp2_with fail;refine zBx (HS1.out _) ?_;intro y;go_wp2_with fail;go_ret;exact ⟨by rw [zE2 (by unfold TileSet.cnt;omega)];unfold TileSet.cnt;go_num,zAt _ hz⟩
    · go_enter Tryz.func4,Tryz.ntmps4
      go_upto_region 1 with fail
      refine zEd ?_;intro W1 hW _;have hz:Below w.heap.size w W1:=by rw [hW];go_grown
      have hb0:=zEk hW (zEe _ _);have c0:=zS5 hb0;have f0:=zOd hb0;have B0:=Lib.hid hb0;clear hb0;have HW:=Lib.hid hW;clear hW;have hs0:=fun z:Ext W1=>zHb v0 q.Glues (l) (by omega) (by omega) (W1.to z) B (Nat.le_trans hB (zAt z hz).size) (Ty.rep_below _ h0 ((zAt z hz).mono hB));simp only [zE2 g0] at hs0;have HS0:=Lib.hid hs0;clear hs0;have hs1:=fun z:Ext W1=>zL6 v1 q.Tiles (l-(zHs Glue.cnt q.Glues:Nat)) (by omega) (by omega) (W1.to z) B (Nat.le_trans hB (zAt z hz).size) (Ty.rep_below _ h1 ((zAt z hz).mono hB));simp only [zDy g1] at hs1;have HS1:=Lib.hid hs1;clear hs1;go_wp2_with fail;refine zBx (HS0.out _) ?_;intro y;go_wp2_with fail;refine zBx (HS1.out _) ?_;intro y;go_wp2_with fail;go_ret;exact ⟨by rw [zDy (by unfold TileSet.cnt;omega)];rfl,zAt _ hz⟩
  · go_enter Tryz.func4,Tryz.ntmps4
    go_upto_region 1 with fail
    refine zEd ?_;intro W1 hW _;have hz:Below w.heap.size w W1:=by rw [hW];go_grown
    have hb0:=zEk hW (zEe _ _);have c0:=zS5 hb0;have f0:=zOd hb0;have B0:=Lib.hid hb0;clear hb0;have HW:=Lib.hid hW;clear hW;have hs0:=fun z:Ext W1=>zHb v0 q.Glues (l) (by omega) (by omega) (W1.to z) B (Nat.le_trans hB (zAt z hz).size) (Ty.rep_below _ h0 ((zAt z hz).mono hB));simp only [zDy g0] at hs0;have HS0:=Lib.hid hs0;clear hs0;go_wp2_with fail;refine zBx (HS0.out _) ?_;intro y;go_wp2_with fail;go_ret;exact ⟨by rw [zDy (by unfold TileSet.cnt;omega)];rfl,zAt _ hz⟩
structure Point where
  X:Int
  Y:Int
  deriving DecidableEq
def Point.ty:Ty Point:=Ty.via (Ty.prod (Ty.int .i64) (Ty.int .i64)) (fun x=>(x.X,x.Y))
theorem Point.cells {w:World}{B:Nat}{cs:List Value}{x:Point}(h:Point.ty.rep w B cs x):cs=[.int .i64 x.X,.int .i64 x.Y]∧InK .i64 x.X∧InK .i64 x.Y:=by obtain ⟨_,_,rfl,h0,h1⟩:=h;obtain ⟨rfl,i0⟩:=h0;obtain ⟨rfl,i1⟩:=h1;exact ⟨rfl,i0,i1⟩
theorem Point.parts {w:World}{B:Nat}{x:Point}(h:Point.ty.rep w B [.int .i64 x.X,.int .i64 x.Y] x):InK .i64 x.X∧InK .i64 x.Y:=by obtain ⟨hh,r0,r1⟩:=Point.cells h;exact ⟨r0,r1⟩
theorem Point.rep_mk {w:World}{B:Nat}{x:Point}(h0:InK .i64 x.X)(h1:InK .i64 x.Y):Point.ty.rep w B [.int .i64 x.X,.int .i64 x.Y] x :=
  ⟨_,_,rfl,⟨rfl,h0⟩,⟨rfl,h1⟩⟩
set_option maxRecDepth 10000 in
set_option maxHeartbeats 1000000 in
theorem zUh (x:Point)(w:World) :
    Calls Tryz.prog 91 #[.agg #[.int .i64 x.X,.int .i64 x.Y],.agg #[.int .i64 x.X,.int .i64 x.Y]] w fun e w'=>e=.returned (.bool true)∧Below w.heap.size w w':=by
  go_enter Tryz.func91,Tryz.ntmps91
  go_upto_region 1 with fail
  refine zEd ?_;intro W1 hW _;have hz:Below w.heap.size w W1:=by rw [hW];go_grown
  have hb0:=zEk hW (zJo _ _ _);have c0:=zS5 hb0;have f0:=zOd hb0;have B0:=Lib.hid hb0;clear hb0;have hb1:=zEk hW (zJn _ _ _);have c1:=zS5 hb1;have f1:=zOd hb1;have B1:=Lib.hid hb1;clear hb1;have HW:=Lib.hid hW;clear hW;go_wp2_with fail;go_ret;exact ⟨rfl,zAt _ hz⟩
structure Placed where
  At:Point
  Tile:Int
  deriving DecidableEq
def Placed.ty:Ty Placed:=Ty.via (Ty.prod Point.ty (Ty.int .i64)) (fun x=>(x.At,x.Tile))
theorem Placed.cells {w:World}{B:Nat}{cs:List Value}{x:Placed}(h:Placed.ty.rep w B cs x):cs=[.int .i64 x.At.X,.int .i64 x.At.Y,.int .i64 x.Tile]∧InK .i64 x.At.X∧InK .i64 x.At.Y∧InK .i64 x.Tile:=by obtain ⟨_,_,rfl,h0,h1⟩:=h;obtain ⟨rfl,i0_0,i0_1⟩:=Point.cells h0;obtain ⟨rfl,i1⟩:=h1;exact ⟨rfl,i0_0,i0_1,i1⟩
theorem Placed.parts {w:World}{B:Nat}{x:Placed}(h:Placed.ty.rep w B [.int .i64 x.At.X,.int .i64 x.At.Y,.int .i64 x.Tile] x):InK .i64 x.At.X∧InK .i64 x.At.Y∧InK .i64 x.Tile:=by obtain ⟨hh,r0,r1,r2⟩:=Placed.cells h;exact ⟨r0,r1,r2⟩
theorem Placed.rep_mk {w:World}{B:Nat}{x:Placed}(h0:InK .i64 x.At.X)(h1:InK .i64 x.At.Y)(h2:InK .i64 x.Tile):Placed.ty.rep w B [.int .i64 x.At.X,.int .i64 x.At.Y,.int .i64 x.Tile] x :=
  ⟨_,_,rfl,Point.rep_mk h0 h1,⟨rfl,h2⟩⟩
set_option maxRecDepth 10000 in
set_option maxHeartbeats 1000000 in
theorem zSk (x:Placed)(w:World) :
    Calls Tryz.prog 57 #[.agg #[.int .i64 x.At.X,.int .i64 x.At.Y,.int .i64 x.Tile],.agg #[.int .i64 x.At.X,.int .i64 x.At.Y,.int .i64 x.Tile]] w fun e w'=>e=.returned (.bool true)∧Below w.heap.size w w':=by
  go_enter Tryz.func57,Tryz.ntmps57
  go_upto_region 1 with fail
  refine zEd ?_;intro W1 hW _;have hz:Below w.heap.size w W1:=by rw [hW];go_grown
  have hb0:=zEk hW (zJo _ _ _);have c0:=yX1 hb0;have f0:=zOd hb0;have B0:=Lib.hid hb0;clear hb0;have hb1:=zEk hW (zJn _ _ _);have c1:=yX1 hb1;have f1:=zOd hb1;have B1:=Lib.hid hb1;clear hb1;have HW:=Lib.hid hW;clear hW;have hs0:=fun z:Ext W1=>zUh x.At (W1.to z);have HS0:=Lib.hid hs0;clear hs0;go_wp2_with fail
  first
    | (refine zBx (HS0.out _) ?_;intro y)
    | (refine zBn (by kernel_rfl) (by kernel_rfl) ?_;repeat (go_big_quiet_step ((go_at_call 91;exact zEu (HS0.out _))));refine wpQuiet_nil ?_;rintro _ ⟨y,rfl⟩)
  go_wp2_with fail
  go_ret;exact ⟨rfl,zAt _ hz⟩
set_option maxRecDepth 10000 in
set_option maxHeartbeats 1000000 in
theorem zQe (v1 v2:Value)(xs:List Placed)(w:World)(B:Nat)(hB:B≤w.heap.size)(h1:(Ty.slice 98 Placed.ty).rep w B [v1] xs)(h2:(Ty.slice 98 Placed.ty).rep w B [v2] xs) :
    Calls Tryz.prog 26 #[v1,v2] w fun e w'=>e=.returned (.bool true)∧Below w.heap.size w w':=by
  obtain ⟨a1,c1,rfl,_,hm1⟩:=Ty.form h1;obtain ⟨a2,c2,rfl,_,hm2⟩:=Ty.form h2;have hn:xs.length≤9223372036854775807:=(by unfold maxLen at hm1;omega);clear hm1 hm2;refine zHe ?_;intro x;go_enter Tryz.func26,Tryz.ntmps26;go_wp2
  go_loopw [5] (fun i wr=>∃ k:Nat,k≤xs.length∧i=.int .i64 k∧∃ z:Ext w,wr=w.to z) (fun i _=>xs.length-(intOf i).toNat)
  case atStart=>exact ⟨0,Nat.zero_le _,rfl,x,rfl⟩
  case round =>
    obtain ⟨k,hk,rfl,z,rfl⟩:=hrel;by_cases hlt:k<xs.length
    · obtain ⟨b1,o1,cs1,rfl,hb1,g1,e1⟩:=Ty.elem h1 hB k hlt;obtain ⟨rfl,_,_,_⟩:=Placed.cells e1;have d1_0:∀ z:Ext w,(w.to z).cell? ⟨b1,o1+k*3,none⟩=some (.int .i64 xs[k].At.X):=g1 0 _ rfl;have d1_1:∀ z:Ext w,(w.to z).cell? ⟨b1,o1+k*3+1,none⟩=some (.int .i64 xs[k].At.Y):=g1 1 _ rfl;have d1_2:∀ z:Ext w,(w.to z).cell? ⟨b1,o1+k*3+2,none⟩=some (.int .i64 xs[k].Tile):=g1 2 _ rfl;clear g1;obtain ⟨b2,o2,cs2,rfl,hb2,g2,e2⟩:=Ty.elem h2 hB k hlt;obtain ⟨rfl,_,_,_⟩:=Placed.cells e2;have d2_0:∀ z:Ext w,(w.to z).cell? ⟨b2,o2+k*3,none⟩=some (.int .i64 xs[k].At.X):=g2 0 _ rfl;have d2_1:∀ z:Ext w,(w.to z).cell? ⟨b2,o2+k*3+1,none⟩=some (.int .i64 xs[k].At.Y):=g2 1 _ rfl;have d2_2:∀ z:Ext w,(w.to z).cell? ⟨b2,o2+k*3+2,none⟩=some (.int .i64 xs[k].Tile):=g2 2 _ rfl;clear g2;have hs:=fun z:Ext w=>zSk xs[k] (w.to z);have HS:=Lib.hid hs;clear hs;go_wp2_with fail;refine zBn (by kernel_rfl) (by kernel_rfl) ?_
      repeat (go_big_quiet_step ((go_at_call 57;exact zEu (HS.out _))))
      refine wpQuiet_nil ?_;rintro _ ⟨y,rfl⟩;go_wp2_with fail
      go_roundw
      case rel=>exact ⟨k+1,by omega,by go_num,y,rfl⟩
      case measure=>simp [intOf];omega
    · go_wp2_with fail
      go_ret;exact ⟨rfl,z.below⟩
structure Assembly where
  Tiles:List Placed
  deriving DecidableEq
def Assembly.ty:Ty Assembly:=Ty.via ((Ty.slice 98 Placed.ty)) (fun x=>x.Tiles)
def Assembly.cnt (x:Assembly):Nat:=x.Tiles.length
theorem Assembly.cells {w:World}{B:Nat}{cs:List Value}{x:Assembly}(h:Assembly.ty.rep w B cs x):∃ v0:Value,cs=[v0]∧(Ty.slice 98 Placed.ty).rep w B [v0] x.Tiles:=by have h0:(Ty.slice 98 Placed.ty).rep w B cs x.Tiles:=h;obtain ⟨u0,rfl⟩:=Ty.slice_one h0;exact ⟨_,rfl,h0⟩
theorem Assembly.parts {w:World}{B:Nat}{v0:Value}{x:Assembly}(h:Assembly.ty.rep w B [v0] x):(Ty.slice 98 Placed.ty).rep w B [v0] x.Tiles:=by obtain ⟨e0,hh,r0⟩:=Assembly.cells h;simp only [List.cons.injEq,and_true,true_and] at hh;subst hh;exact r0
theorem Assembly.rep_mk {w:World}{B:Nat}{v0:Value}{x:Assembly}(h0:(Ty.slice 98 Placed.ty).rep w B [v0] x.Tiles):Assembly.ty.rep w B [v0] x :=
  h0
set_option maxRecDepth 10000 in
set_option maxHeartbeats 1000000 in
theorem zOb (v0 u0:Value)(x:Assembly)(w:World)(B:Nat)(hB:B≤w.heap.size)(h0:(Ty.slice 98 Placed.ty).rep w B [v0] x.Tiles)(k0:(Ty.slice 98 Placed.ty).rep w B [u0] x.Tiles) :
    Calls Tryz.prog 8 #[.agg #[v0],.agg #[u0]] w fun e w'=>e=.returned (.bool true)∧Below w.heap.size w w':=by
  go_enter Tryz.func8,Tryz.ntmps8
  go_upto_region 1 with fail
  refine zEd ?_;intro W1 hW _;have hz:Below w.heap.size w W1:=by rw [hW];go_grown
  have hb0:=zEk hW (zJo _ _ _);have c0:=yW9 hb0;have f0:=zOd hb0;have B0:=Lib.hid hb0;clear hb0;have hb1:=zEk hW (zJn _ _ _);have c1:=yW9 hb1;have f1:=zOd hb1;have B1:=Lib.hid hb1;clear hb1;have HW:=Lib.hid hW;clear hW;have hs0:=fun z:Ext W1=>zQe v0 u0 x.Tiles (W1.to z) B (Nat.le_trans hB (zAt z hz).size) (Ty.rep_below _ h0 ((zAt z hz).mono hB)) (Ty.rep_below _ k0 ((zAt z hz).mono hB));have HS0:=Lib.hid hs0;clear hs0;go_wp2_with fail
  first
    | (refine zBx (HS0.out _) ?_;intro y)
    | (refine zBn (by kernel_rfl) (by kernel_rfl) ?_;repeat (go_big_quiet_step ((go_at_call 26;exact zEu (HS0.out _))));refine wpQuiet_nil ?_;rintro _ ⟨y,rfl⟩)
  go_wp2_with fail
  go_ret;exact ⟨rfl,zAt _ hz⟩
end Go.Proofs.YtdlchnlpmofpmaaGreatDoor
