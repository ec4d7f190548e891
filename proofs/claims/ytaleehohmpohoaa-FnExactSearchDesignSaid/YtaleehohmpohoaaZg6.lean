/- Laws that the proof stands on. -/
import Derived.Test.YtaleehohmpohoaaRows
import Derived.Test.YtaleehohmpohoaaZLib
set_option linter.all false
namespace Go.Proofs.Ytaleehohmpohoaa
open Go.RowKit Go.ChangeShapes Go.WideShapes Go.ChangeAt
set_option maxRecDepth 10000 in
set_option maxHeartbeats 1000000 in
theorem eqInt64S_any (v1 v2:Value)(xs:List Int)(w:World)(B:Nat)(hB:B≤w.heap.size)(h1:(Ty.slice 2 (Ty.int .i64)).rep w B [v1] xs)(h2:(Ty.slice 2 (Ty.int .i64)).rep w B [v2] xs) :
    Calls Try.prog 38 #[v1,v2] w fun e w'=>e=.returned (.bool true)∧Below w.heap.size w w':=by
  obtain ⟨a1,c1,rfl,_,hm1⟩:=Ty.form h1;obtain ⟨a2,c2,rfl,_,hm2⟩:=Ty.form h2;have hn:xs.length≤9223372036854775807:=(by unfold maxLen at hm1;omega);clear hm1 hm2;refine rebaseC ?_;intro x;go_enter Try.func38,Try.ntmps38;go_wp2
  go_loopw [5] (fun i wr=>∃ k:Nat,k≤xs.length∧i=.int .i64 k∧∃ z:Ext w,wr=w.to z) (fun i _=>xs.length-(intOf i).toNat)
  case atStart=>exact ⟨0,Nat.zero_le _,rfl,x,rfl⟩
  case round =>
    obtain ⟨k,hk,rfl,z,rfl⟩:=hrel;by_cases hlt:k<xs.length
    · obtain ⟨b1,o1,rfl,hb1,g1,_⟩:=Ty.elemInt h1 k hlt;obtain ⟨b2,o2,rfl,hb2,g2,_⟩:=Ty.elemInt h2 k hlt;have d1:∀ z:Ext w,(w.to z).cell? ⟨b1,o1+k,none⟩=some _:=fun z=>(to_cell z (by omega)).trans g1;have d2:∀ z:Ext w,(w.to z).cell? ⟨b2,o2+k,none⟩=some _:=fun z=>(to_cell z (by omega)).trans g2;clear g1 g2;go_wp2_with fail;refine wp_region_ext (by kernel_rfl) (by kernel_rfl) ?_
      repeat (go_big_quiet_step ((fail)))
      refine wpQuiet_nil ?_;rintro _ ⟨y,rfl⟩;go_wp2_with fail
      go_roundw
      case rel=>exact ⟨k+1,by omega,by go_num,y,rfl⟩
      case measure=>simp [intOf];omega
    · go_wp2_with fail
      go_ret;exact ⟨rfl,z.below⟩
set_option maxRecDepth 10000 in
set_option maxHeartbeats 1000000 in
theorem szInt64S_any (v:Value)(xs:List Int)(l:Int)(hl0:0≤l)(hl1:l≤1048576)(w:World)(B:Nat)(hB:B≤w.heap.size)(h:(Ty.slice 2 (Ty.int .i64)).rep w B [v] xs) :
    Calls Try.prog 30 #[v,.int .i64 l] w fun e w'=>e=.returned (.int .i64 (szR l (xs.length)))∧Below w.heap.size w w':=by
  have _:=hB;obtain ⟨a,c,rfl,hc,hm⟩:=Ty.form h;have hn:xs.length≤9223372036854775807:=(by unfold maxLen at hm;omega);clear hm;by_cases g:(xs.length:Int)≤l
  · rw [szR_ok g];go_enter Try.func30,Try.ntmps30;go_wp2;go_ret;exact ⟨rfl,by go_grown⟩
  · rw [szR_no g];go_enter Try.func30,Try.ntmps30;go_wp2;go_ret;exact ⟨rfl,by go_grown⟩
structure Piece where
  Color:Int
  North:Int
  East:Int
  South:Int
  West:Int
  deriving DecidableEq
def Piece.ty:Ty Piece:=Ty.via (Ty.prod (Ty.int .i64) (Ty.prod (Ty.int .i64) (Ty.prod (Ty.int .i64) (Ty.prod (Ty.int .i64) (Ty.int .i64))))) (fun x=>(x.Color,x.North,x.East,x.South,x.West))
theorem Piece.cells {w:World}{B:Nat}{cs:List Value}{x:Piece}(h:Piece.ty.rep w B cs x):cs=[.int .i64 x.Color,.int .i64 x.North,.int .i64 x.East,.int .i64 x.South,.int .i64 x.West]∧InK .i64 x.Color∧InK .i64 x.North∧InK .i64 x.East∧InK .i64 x.South∧InK .i64 x.West:=by obtain ⟨_,_,rfl,h0,_,_,rfl,h1,_,_,rfl,h2,_,_,rfl,h3,h4⟩:=h;obtain ⟨rfl,i0⟩:=h0;obtain ⟨rfl,i1⟩:=h1;obtain ⟨rfl,i2⟩:=h2;obtain ⟨rfl,i3⟩:=h3;obtain ⟨rfl,i4⟩:=h4;exact ⟨rfl,i0,i1,i2,i3,i4⟩
theorem Piece.parts {w:World}{B:Nat}{x:Piece}(h:Piece.ty.rep w B [.int .i64 x.Color,.int .i64 x.North,.int .i64 x.East,.int .i64 x.South,.int .i64 x.West] x):InK .i64 x.Color∧InK .i64 x.North∧InK .i64 x.East∧InK .i64 x.South∧InK .i64 x.West:=by obtain ⟨hh,r0,r1,r2,r3,r4⟩:=Piece.cells h;exact ⟨r0,r1,r2,r3,r4⟩
theorem Piece.rep_mk {w:World}{B:Nat}{x:Piece}(h0:InK .i64 x.Color)(h1:InK .i64 x.North)(h2:InK .i64 x.East)(h3:InK .i64 x.South)(h4:InK .i64 x.West):Piece.ty.rep w B [.int .i64 x.Color,.int .i64 x.North,.int .i64 x.East,.int .i64 x.South,.int .i64 x.West] x :=
  ⟨_,_,rfl,⟨rfl,h0⟩,_,_,rfl,⟨rfl,h1⟩,_,_,rfl,⟨rfl,h2⟩,_,_,rfl,⟨rfl,h3⟩,⟨rfl,h4⟩⟩
set_option maxRecDepth 100000 in
theorem Piece.reads:Reads Try.prog 100 Piece.ty :=
  reads_via (t:=(Ty.prod (Ty.int .i64) (Ty.prod (Ty.int .i64) (Ty.prod (Ty.int .i64) (Ty.prod (Ty.int .i64) (Ty.int .i64)))))) (fun x:Piece=>(x.Color,x.North,x.East,x.South,x.West)) (fun y=>⟨y.1,y.2.1,y.2.2.1,y.2.2.2.1,y.2.2.2.2⟩) (fun _=>rfl) (reads_struct Try.underlying100 (by kernel_rfl) (fld_cons rfl (reads_int Try.underlying2 (by kernel_rfl)) (fld_cons rfl (reads_int Try.underlying2 (by kernel_rfl)) (fld_cons rfl (reads_int Try.underlying2 (by kernel_rfl)) (fld_cons rfl (reads_int Try.underlying2 (by kernel_rfl)) (fld_one rfl (reads_int Try.underlying2 (by kernel_rfl))))))))
set_option maxRecDepth 10000 in
set_option maxHeartbeats 1000000 in
theorem eqPiece_any (x:Piece)(w:World) :
    Calls Try.prog 70 #[.agg #[.int .i64 x.Color,.int .i64 x.North,.int .i64 x.East,.int .i64 x.South,.int .i64 x.West],.agg #[.int .i64 x.Color,.int .i64 x.North,.int .i64 x.East,.int .i64 x.South,.int .i64 x.West]] w fun e w'=>e=.returned (.bool true)∧Below w.heap.size w w':=by
  go_enter Try.func70,Try.ntmps70
  go_upto_region 1 with fail
  refine rebase ?_;intro W1 hW _;have hz:Below w.heap.size w W1:=by rw [hW];go_grown
  have hb0:=at_of hW (push2_0 _ _ _);have c0:=box5 hb0;have f0:=boxf hb0;have B0:=Lib.hid hb0;clear hb0;have hb1:=at_of hW (push2_1 _ _ _);have c1:=box5 hb1;have f1:=boxf hb1;have B1:=Lib.hid hb1;clear hb1;have HW:=Lib.hid hW;clear hW;go_wp2_with fail;go_ret;exact ⟨rfl,ext_end _ hz⟩
set_option maxRecDepth 10000 in
set_option maxHeartbeats 1000000 in
theorem eqPieceS_any (v1 v2:Value)(xs:List Piece)(w:World)(B:Nat)(hB:B≤w.heap.size)(h1:(Ty.slice 63 Piece.ty).rep w B [v1] xs)(h2:(Ty.slice 63 Piece.ty).rep w B [v2] xs) :
    Calls Try.prog 39 #[v1,v2] w fun e w'=>e=.returned (.bool true)∧Below w.heap.size w w':=by
  obtain ⟨a1,c1,rfl,_,hm1⟩:=Ty.form h1;obtain ⟨a2,c2,rfl,_,hm2⟩:=Ty.form h2;have hn:xs.length≤9223372036854775807:=(by unfold maxLen at hm1;omega);clear hm1 hm2;refine rebaseC ?_;intro x;go_enter Try.func39,Try.ntmps39;go_wp2
  go_loopw [5] (fun i wr=>∃ k:Nat,k≤xs.length∧i=.int .i64 k∧∃ z:Ext w,wr=w.to z) (fun i _=>xs.length-(intOf i).toNat)
  case atStart=>exact ⟨0,Nat.zero_le _,rfl,x,rfl⟩
  case round =>
    obtain ⟨k,hk,rfl,z,rfl⟩:=hrel;by_cases hlt:k<xs.length
    · obtain ⟨b1,o1,cs1,rfl,hb1,g1,e1⟩:=Ty.elem h1 hB k hlt;obtain ⟨rfl,_,_,_,_,_⟩:=Piece.cells e1;have d1_0:∀ z:Ext w,(w.to z).cell? ⟨b1,o1+k*5,none⟩=some (.int .i64 xs[k].Color):=g1 0 _ rfl;have d1_1:∀ z:Ext w,(w.to z).cell? ⟨b1,o1+k*5+1,none⟩=some (.int .i64 xs[k].North):=g1 1 _ rfl;have d1_2:∀ z:Ext w,(w.to z).cell? ⟨b1,o1+k*5+2,none⟩=some (.int .i64 xs[k].East):=g1 2 _ rfl;have d1_3:∀ z:Ext w,(w.to z).cell? ⟨b1,o1+k*5+3,none⟩=some (.int .i64 xs[k].South):=g1 3 _ rfl;have d1_4:∀ z:Ext w,(w.to z).cell? ⟨b1,o1+k*5+4,none⟩=some (.int .i64 xs[k].West):=g1 4 _ rfl;clear g1;obtain ⟨b2,o2,cs2,rfl,hb2,g2,e2⟩:=Ty.elem h2 hB k hlt;obtain ⟨rfl,_,_,_,_,_⟩:=Piece.cells e2;have d2_0:∀ z:Ext w,(w.to z).cell? ⟨b2,o2+k*5,none⟩=some (.int .i64 xs[k].Color):=g2 0 _ rfl;have d2_1:∀ z:Ext w,(w.to z).cell? ⟨b2,o2+k*5+1,none⟩=some (.int .i64 xs[k].North):=g2 1 _ rfl;have d2_2:∀ z:Ext w,(w.to z).cell? ⟨b2,o2+k*5+2,none⟩=some (.int .i64 xs[k].East):=g2 2 _ rfl;have d2_3:∀ z:Ext w,(w.to z).cell? ⟨b2,o2+k*5+3,none⟩=some (.int .i64 xs[k].South):=g2 3 _ rfl;have d2_4:∀ z:Ext w,(w.to z).cell? ⟨b2,o2+k*5+4,none⟩=some (.int .i64 xs[k].West):=g2 4 _ rfl;clear g2;have hs:=fun z:Ext w=>eqPiece_any xs[k] (w.to z);have HS:=Lib.hid hs;clear hs;go_wp2_with fail;refine wp_region_ext (by kernel_rfl) (by kernel_rfl) ?_
      repeat (go_big_quiet_step ((go_at_call 70;exact ext_call (HS.out _))))
      refine wpQuiet_nil ?_;rintro _ ⟨y,rfl⟩;go_wp2_with fail
      go_roundw
      case rel=>exact ⟨k+1,by omega,by go_num,y,rfl⟩
      case measure=>simp [intOf];omega
    · go_wp2_with fail
      go_ret;exact ⟨rfl,z.below⟩
structure Design where
  Bottom:List Int
  Left:List Int
  Pieces:List Piece
  deriving DecidableEq
def Design.ty:Ty Design:=Ty.via (Ty.prod (Ty.slice 2 (Ty.int .i64)) (Ty.prod (Ty.slice 2 (Ty.int .i64)) (Ty.slice 63 Piece.ty))) (fun x=>(x.Bottom,x.Left,x.Pieces))
def Design.cnt (x:Design):Nat:=x.Bottom.length+x.Left.length+x.Pieces.length
theorem Design.cells {w:World}{B:Nat}{cs:List Value}{x:Design}(h:Design.ty.rep w B cs x):∃ v0 v1 v2:Value,cs=[v0,v1,v2]∧(Ty.slice 2 (Ty.int .i64)).rep w B [v0] x.Bottom∧(Ty.slice 2 (Ty.int .i64)).rep w B [v1] x.Left∧(Ty.slice 63 Piece.ty).rep w B [v2] x.Pieces:=by obtain ⟨_,_,rfl,h0,_,_,rfl,h1,h2⟩:=h;obtain ⟨u0,rfl⟩:=Ty.slice_one h0;obtain ⟨u1,rfl⟩:=Ty.slice_one h1;obtain ⟨u2,rfl⟩:=Ty.slice_one h2;exact ⟨_,_,_,rfl,h0,h1,h2⟩
theorem Design.parts {w:World}{B:Nat}{v0 v1 v2:Value}{x:Design}(h:Design.ty.rep w B [v0,v1,v2] x):(Ty.slice 2 (Ty.int .i64)).rep w B [v0] x.Bottom∧(Ty.slice 2 (Ty.int .i64)).rep w B [v1] x.Left∧(Ty.slice 63 Piece.ty).rep w B [v2] x.Pieces:=by obtain ⟨e0,e1,e2,hh,r0,r1,r2⟩:=Design.cells h;simp only [List.cons.injEq,and_true,true_and] at hh;obtain ⟨rfl,rfl,rfl⟩:=hh;exact ⟨r0,r1,r2⟩
theorem Design.rep_mk {w:World}{B:Nat}{v0 v1 v2:Value}{x:Design}(h0:(Ty.slice 2 (Ty.int .i64)).rep w B [v0] x.Bottom)(h1:(Ty.slice 2 (Ty.int .i64)).rep w B [v1] x.Left)(h2:(Ty.slice 63 Piece.ty).rep w B [v2] x.Pieces):Design.ty.rep w B [v0,v1,v2] x :=
  ⟨_,_,rfl,h0,_,_,rfl,h1,h2⟩
set_option maxRecDepth 100000 in
theorem Design.reads:Reads Try.prog 25 Design.ty :=
  reads_via (t:=(Ty.prod (Ty.slice 2 (Ty.int .i64)) (Ty.prod (Ty.slice 2 (Ty.int .i64)) (Ty.slice 63 Piece.ty)))) (fun x:Design=>(x.Bottom,x.Left,x.Pieces)) (fun y=>⟨y.1,y.2.1,y.2.2⟩) (fun _=>rfl) (reads_struct Try.underlying25 (by kernel_rfl) (fld_cons rfl (reads_slice Try.underlying22 (by kernel_rfl) (by decide) (reads_int Try.underlying2 (by kernel_rfl))) (fld_cons rfl (reads_slice Try.underlying22 (by kernel_rfl) (by decide) (reads_int Try.underlying2 (by kernel_rfl))) (fld_one rfl (reads_slice Try.underlying23 (by kernel_rfl) (by decide) (Piece.reads))))))
set_option maxRecDepth 10000 in
set_option maxHeartbeats 1000000 in
theorem eqDesign_any (v0 v1 v2 u0 u1 u2:Value)(x:Design)(w:World)(B:Nat)(hB:B≤w.heap.size)(h0:(Ty.slice 2 (Ty.int .i64)).rep w B [v0] x.Bottom)(h1:(Ty.slice 2 (Ty.int .i64)).rep w B [v1] x.Left)(h2:(Ty.slice 63 Piece.ty).rep w B [v2] x.Pieces)(k0:(Ty.slice 2 (Ty.int .i64)).rep w B [u0] x.Bottom)(k1:(Ty.slice 2 (Ty.int .i64)).rep w B [u1] x.Left)(k2:(Ty.slice 63 Piece.ty).rep w B [u2] x.Pieces) :
    Calls Try.prog 11 #[.agg #[v0,v1,v2],.agg #[u0,u1,u2]] w fun e w'=>e=.returned (.bool true)∧Below w.heap.size w w':=by
  go_enter Try.func11,Try.ntmps11
  go_upto_region 1 with fail
  refine rebase ?_;intro W1 hW _;have hz:Below w.heap.size w W1:=by rw [hW];go_grown
  have hb0:=at_of hW (push2_0 _ _ _);have c0:=box3 hb0;have f0:=boxf hb0;have B0:=Lib.hid hb0;clear hb0;have hb1:=at_of hW (push2_1 _ _ _);have c1:=box3 hb1;have f1:=boxf hb1;have B1:=Lib.hid hb1;clear hb1;have HW:=Lib.hid hW;clear hW;have hs0:=fun z:Ext W1=>eqInt64S_any v0 u0 x.Bottom (W1.to z) B (Nat.le_trans hB (ext_end z hz).size) (Ty.rep_below _ h0 ((ext_end z hz).mono hB)) (Ty.rep_below _ k0 ((ext_end z hz).mono hB));have HS0:=Lib.hid hs0;clear hs0;have hs1:=fun z:Ext W1=>eqInt64S_any v1 u1 x.Left (W1.to z) B (Nat.le_trans hB (ext_end z hz).size) (Ty.rep_below _ h1 ((ext_end z hz).mono hB)) (Ty.rep_below _ k1 ((ext_end z hz).mono hB));have HS1:=Lib.hid hs1;clear hs1;have hs2:=fun z:Ext W1=>eqPieceS_any v2 u2 x.Pieces (W1.to z) B (Nat.le_trans hB (ext_end z hz).size) (Ty.rep_below _ h2 ((ext_end z hz).mono hB)) (Ty.rep_below _ k2 ((ext_end z hz).mono hB));have HS2:=Lib.hid hs2;clear hs2;go_wp2_with fail
  first
    | (refine call_ext (HS0.out _) ?_;intro y)
    | (refine wp_region_ext (by kernel_rfl) (by kernel_rfl) ?_;repeat (go_big_quiet_step ((go_at_call 38;exact ext_call (HS0.out _))));refine wpQuiet_nil ?_;rintro _ ⟨y,rfl⟩)
  go_wp2_with fail
  first
    | (refine call_ext (HS1.out _) ?_;intro y)
    | (refine wp_region_ext (by kernel_rfl) (by kernel_rfl) ?_;repeat (go_big_quiet_step ((go_at_call 38;exact ext_call (HS1.out _))));refine wpQuiet_nil ?_;rintro _ ⟨y,rfl⟩)
  go_wp2_with fail
  first
    | (refine call_ext (HS2.out _) ?_;intro y)
    | (refine wp_region_ext (by kernel_rfl) (by kernel_rfl) ?_;repeat (go_big_quiet_step ((go_at_call 39;exact ext_call (HS2.out _))));refine wpQuiet_nil ?_;rintro _ ⟨y,rfl⟩)
  go_wp2_with fail
  go_ret;exact ⟨rfl,ext_end _ hz⟩
structure Pattern where
  Width:Int
  Height:Int
  Cells:List Int
  deriving DecidableEq
def Pattern.ty:Ty Pattern:=Ty.via (Ty.prod (Ty.int .i64) (Ty.prod (Ty.int .i64) (Ty.slice 2 (Ty.int .i64)))) (fun x=>(x.Width,x.Height,x.Cells))
def Pattern.cnt (x:Pattern):Nat:=x.Cells.length
theorem Pattern.cells {w:World}{B:Nat}{cs:List Value}{x:Pattern}(h:Pattern.ty.rep w B cs x):∃ v0:Value,cs=[.int .i64 x.Width,.int .i64 x.Height,v0]∧InK .i64 x.Width∧InK .i64 x.Height∧(Ty.slice 2 (Ty.int .i64)).rep w B [v0] x.Cells:=by obtain ⟨_,_,rfl,h0,_,_,rfl,h1,h2⟩:=h;obtain ⟨rfl,i0⟩:=h0;obtain ⟨rfl,i1⟩:=h1;obtain ⟨u2,rfl⟩:=Ty.slice_one h2;exact ⟨_,rfl,i0,i1,h2⟩
theorem Pattern.parts {w:World}{B:Nat}{v0:Value}{x:Pattern}(h:Pattern.ty.rep w B [.int .i64 x.Width,.int .i64 x.Height,v0] x):InK .i64 x.Width∧InK .i64 x.Height∧(Ty.slice 2 (Ty.int .i64)).rep w B [v0] x.Cells:=by obtain ⟨e0,hh,r0,r1,r2⟩:=Pattern.cells h;simp only [List.cons.injEq,and_true,true_and] at hh;subst hh;exact ⟨r0,r1,r2⟩
theorem Pattern.rep_mk {w:World}{B:Nat}{v0:Value}{x:Pattern}(h0:InK .i64 x.Width)(h1:InK .i64 x.Height)(h2:(Ty.slice 2 (Ty.int .i64)).rep w B [v0] x.Cells):Pattern.ty.rep w B [.int .i64 x.Width,.int .i64 x.Height,v0] x :=
  ⟨_,_,rfl,⟨rfl,h0⟩,_,_,rfl,⟨rfl,h1⟩,h2⟩
set_option maxRecDepth 100000 in
theorem Pattern.reads:Reads Try.prog 37 Pattern.ty :=
  reads_via (t:=(Ty.prod (Ty.int .i64) (Ty.prod (Ty.int .i64) (Ty.slice 2 (Ty.int .i64))))) (fun x:Pattern=>(x.Width,x.Height,x.Cells)) (fun y=>⟨y.1,y.2.1,y.2.2⟩) (fun _=>rfl) (reads_struct Try.underlying37 (by kernel_rfl) (fld_cons rfl (reads_int Try.underlying2 (by kernel_rfl)) (fld_cons rfl (reads_int Try.underlying2 (by kernel_rfl)) (fld_one rfl (reads_slice Try.underlying22 (by kernel_rfl) (by decide) (reads_int Try.underlying2 (by kernel_rfl)))))))
set_option maxRecDepth 10000 in
set_option maxHeartbeats 1000000 in
theorem eqPattern_any (v0 u0:Value)(x:Pattern)(w:World)(B:Nat)(hB:B≤w.heap.size)(h0:(Ty.slice 2 (Ty.int .i64)).rep w B [v0] x.Cells)(k0:(Ty.slice 2 (Ty.int .i64)).rep w B [u0] x.Cells) :
    Calls Try.prog 18 #[.agg #[.int .i64 x.Width,.int .i64 x.Height,v0],.agg #[.int .i64 x.Width,.int .i64 x.Height,u0]] w fun e w'=>e=.returned (.bool true)∧Below w.heap.size w w':=by
  go_enter Try.func18,Try.ntmps18
  go_upto_region 1 with fail
  refine rebase ?_;intro W1 hW _;have hz:Below w.heap.size w W1:=by rw [hW];go_grown
  have hb0:=at_of hW (push2_0 _ _ _);have c0:=box3 hb0;have f0:=boxf hb0;have B0:=Lib.hid hb0;clear hb0;have hb1:=at_of hW (push2_1 _ _ _);have c1:=box3 hb1;have f1:=boxf hb1;have B1:=Lib.hid hb1;clear hb1;have HW:=Lib.hid hW;clear hW;have hs0:=fun z:Ext W1=>eqInt64S_any v0 u0 x.Cells (W1.to z) B (Nat.le_trans hB (ext_end z hz).size) (Ty.rep_below _ h0 ((ext_end z hz).mono hB)) (Ty.rep_below _ k0 ((ext_end z hz).mono hB));have HS0:=Lib.hid hs0;clear hs0;go_wp2_with fail
  first
    | (refine call_ext (HS0.out _) ?_;intro y)
    | (refine wp_region_ext (by kernel_rfl) (by kernel_rfl) ?_;repeat (go_big_quiet_step ((go_at_call 38;exact ext_call (HS0.out _))));refine wpQuiet_nil ?_;rintro _ ⟨y,rfl⟩)
  go_wp2_with fail
  go_ret;exact ⟨rfl,ext_end _ hz⟩
set_option maxRecDepth 10000 in
set_option maxHeartbeats 1000000 in
theorem szPattern_any (v0:Value)(q:Pattern)(l:Int)(hl0:0≤l)(hl1:l≤1048576)(w:World)(B:Nat)(hB:B≤w.heap.size)(h0:(Ty.slice 2 (Ty.int .i64)).rep w B [v0] q.Cells) :
    Calls Try.prog 14 #[.agg #[.int .i64 q.Width,.int .i64 q.Height,v0],.int .i64 l] w fun e w'=>e=.returned (.int .i64 (szR l (Pattern.cnt q)))∧Below w.heap.size w w':=by
  by_cases g0:((q.Cells.length:Nat):Int)≤l
  · go_enter Try.func14,Try.ntmps14
    go_upto_region 1 with fail
    refine rebase ?_;intro W1 hW _;have hz:Below w.heap.size w W1:=by rw [hW];go_grown
    have hb0:=at_of hW (push1_0 _ _);have c0:=box3 hb0;have f0:=boxf hb0;have B0:=Lib.hid hb0;clear hb0;have HW:=Lib.hid hW;clear hW;have hs0:=fun z:Ext W1=>szInt64S_any v0 q.Cells (l) (by omega) (by omega) (W1.to z) B (Nat.le_trans hB (ext_end z hz).size) (Ty.rep_below _ h0 ((ext_end z hz).mono hB));simp only [szR_ok g0] at hs0;have HS0:=Lib.hid hs0;clear hs0;go_wp2_with fail;refine call_ext (HS0.out _) ?_;intro y;go_wp2_with fail;go_ret;exact ⟨by rw [szR_ok (by unfold Pattern.cnt;omega)];unfold Pattern.cnt;go_num,ext_end _ hz⟩
  · go_enter Try.func14,Try.ntmps14
    go_upto_region 1 with fail
    refine rebase ?_;intro W1 hW _;have hz:Below w.heap.size w W1:=by rw [hW];go_grown
    have hb0:=at_of hW (push1_0 _ _);have c0:=box3 hb0;have f0:=boxf hb0;have B0:=Lib.hid hb0;clear hb0;have HW:=Lib.hid hW;clear hW;have hs0:=fun z:Ext W1=>szInt64S_any v0 q.Cells (l) (by omega) (by omega) (W1.to z) B (Nat.le_trans hB (ext_end z hz).size) (Ty.rep_below _ h0 ((ext_end z hz).mono hB));simp only [szR_no g0] at hs0;have HS0:=Lib.hid hs0;clear hs0;go_wp2_with fail;refine call_ext (HS0.out _) ?_;intro y;go_wp2_with fail;go_ret;exact ⟨by rw [szR_no (by unfold Pattern.cnt;omega)];rfl,ext_end _ hz⟩
end Go.Proofs.Ytaleehohmpohoaa
