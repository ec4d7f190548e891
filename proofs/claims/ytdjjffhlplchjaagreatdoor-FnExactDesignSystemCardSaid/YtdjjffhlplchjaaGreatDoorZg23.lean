/- Laws that the proof stands on. -/
import Derived.Test.YtdjjffhlplchjaaGreatDoorZg22
import Derived.Test.YtdjjffhlplchjaaGreatDoorZg18
import Derived.Test.YtdjjffhlplchjaaGreatDoorZVDsnP
set_option linter.all false
namespace Go.Proofs.YtdjjffhlplchjaaGreatDoor
open Go.RowKit Go.V
set_option maxRecDepth 100000
def smG (G : List Glue) : Prop:=∀ g,g ∈ G → g.Name.size ≤ 1000 ∧ 0 ≤ g.Strength ∧ g.Strength ≤ 1000
def smT (T : List Tile) : Prop:=∀ t,t ∈ T → t.Name.size ≤ 1000 ∧ t.Sides.length ≤ 4 ∧ ∀ y,y ∈ t.Sides → 0 ≤ y ∧ y ≤ 1000000
def smP (P : List Placed) : Prop:=∀ p,p ∈ P → (-1000000 ≤ p.At.X ∧ p.At.X ≤ 1000000) ∧ (-1000000 ≤ p.At.Y ∧ p.At.Y ≤ 1000000) ∧ -1000000 ≤ p.Tile ∧ p.Tile ≤ 1000000
structure smS (s : System) : Prop where
  g : smG s.Set.Glues
  t : smT s.Set.Tiles
  p : smP s.Seed.Tiles
  gl : s.Set.Glues.length ≤ 10000
  tl : s.Set.Tiles.length ≤ 10000
  pl : s.Seed.Tiles.length ≤ 10000
  tm : 0 ≤ s.Temperature ∧ s.Temperature ≤ 1000
theorem zX3 : smG []:=fun _ h => by cases h
theorem smT_nil : smT []:=fun _ h => by cases h
theorem smP_nil : smP []:=fun _ h => by cases h
theorem zSa {A B : List Glue} (h : smG A) (h2 : smG B) : smG (A ++ B):=fun g hg => by
  rcases List.mem_append.1 hg with hg | hg
  · exact h g hg
  · exact h2 g hg
theorem zR9 {A B : List Tile} (h : smT A) (h2 : smT B) : smT (A ++ B):=fun g hg => by
  rcases List.mem_append.1 hg with hg | hg
  · exact h g hg
  · exact h2 g hg
theorem smG_one {n : ByteArray} {k : Int} (h : n.size ≤ 1000) (h1 : 0 ≤ k) (h2 : k ≤ 1000) : smG [⟨n,k⟩]:=fun g hg => by rw [List.mem_singleton] at hg;rw [hg];exact ⟨h,h1,h2⟩
theorem zX2 {f : Nat → ByteArray} {k : Nat → Int} {i : Nat} (h : ∀ j,j < i → (f j).size ≤ 1000) (hk : ∀ j,0 ≤ k j ∧ k j ≤ 1000) : smG ((List.range i).map (fun j => ⟨f j,k j⟩)):=fun g hg => by obtain ⟨j,hj,rfl⟩:=List.mem_map.1 hg;exact ⟨h j (by simpa using hj),hk j⟩
theorem smT_one {n : ByteArray} {s : List Int} (h : n.size ≤ 1000) (h1 : s.length ≤ 4) (h2 : ∀ y,y ∈ s → 0 ≤ y ∧ y ≤ 1000000) : smT [⟨n,s⟩]:=fun g hg => by rw [List.mem_singleton] at hg;rw [hg];exact ⟨h,h1,h2⟩
theorem zX1 {f : Nat → ByteArray} {s : Nat → List Int} {i : Nat} (h : ∀ j,j < i → (f j).size ≤ 1000) (hs : ∀ j,(s j).length ≤ 4 ∧ ∀ y,y ∈ s j → 0 ≤ y ∧ y ≤ 1000000) : smT ((List.range i).map (fun j => ⟨f j,s j⟩)):=fun g hg => by obtain ⟨j,hj,rfl⟩:=List.mem_map.1 hg;exact ⟨h j (by simpa using hj),hs j⟩
theorem sm4 {G : List Glue} (h : G.length ≤ 10000) (a b c d : ByteArray) : [zA8 G a,zA8 G b,zA8 G c,zA8 G d].length ≤ 4 ∧ ∀ y,y ∈ [zA8 G a,zA8 G b,zA8 G c,zA8 G d] → 0 ≤ y ∧ y ≤ 1000000:=by refine ⟨by simp,fun y hy => ?_⟩;have h1:=zLc G a;have h2:=zLc G b;have h3:=zLc G c;have h4:=zLc G d;simp only [List.mem_cons,List.not_mem_nil,or_false] at hy;rcases hy with rfl | rfl | rfl | rfl <;> omega
theorem zHb {p : List UInt8} {n : Nat} (hp : p.length ≤ 100) (hn : n ≤ 1000000) : (nm1 p n).size ≤ 1000:=by have:=zMs n (by omega);have h2:=zZn (p:=p) (n:=n) (t:=[]);rw [h2];simp only [List.length_nil];omega
theorem lit_size {l : List UInt8} (h : l.length ≤ 1000) : (⟨⟨l⟩⟩ : ByteArray).size ≤ 1000:=h
theorem smP_rowP {x : Int} {row : List Int} (hx : -100 ≤ x ∧ x ≤ 100) (hr : row.length ≤ 1000) (h : ∀ y,y ∈ row → -1000000 ≤ y ∧ y ≤ 1000000) : smP (rowP x row):=fun p hp => by unfold rowP at hp;obtain ⟨i,hi,rfl⟩:=List.mem_mapIdx.1 hp;exact ⟨⟨by show -1000000 ≤ x + (i : Int);omega,by show x + (i : Int) ≤ 1000000;omega⟩,⟨by show (-1000000 : Int) ≤ 0;omega,by show (0 : Int) ≤ 1000000;omega⟩,h _ (List.getElem_mem hi)⟩
theorem zUx {α : Type} {f : α → Nat} {K : Nat} : ∀ xs : List α,(∀ x,x ∈ xs → f x ≤ K) → cnS f xs ≤ K * xs.length
  | [],_ => by simp [cnS]
  | x :: xs,h => by have h1:=zUx xs (fun y hy => h y (List.mem_cons_of_mem _ hy));have h2:=h x (by simp);simp only [cnS,List.map_cons,List.sum_cons,List.length_cons,Nat.mul_add,Nat.mul_one] at *;omega
theorem zNz {x : Int} (h : -1000000 ≤ x ∧ x ≤ 1000000) : InK .i64 x:=by unfold InK;omega
theorem smS_ok {s : System} (h : smS s) : System.td.ok s:=by
  rw [System.td_ok,TileSet.td_ok,Assembly.td_ok];refine ⟨⟨fun g hg => ?_,fun t ht => ?_⟩,fun p hp => ?_,zNz (by have:=h.tm;omega)⟩
  · have:=h.g g hg;rw [Glue.td_ok];exact ⟨Nat.le_trans this.1 (by unfold maxLen;omega),zNz (by omega)⟩
  · have:=h.t t ht;rw [Tile.td_ok];exact ⟨Nat.le_trans this.1 (by unfold maxLen;omega),fun y hy => zNz (by have:=this.2.2 y hy;omega)⟩
  · have:=h.p p hp;rw [Placed.td_ok,Point.td_ok];exact ⟨⟨zNz this.1,zNz this.2.1⟩,zNz this.2.2⟩
theorem smS_cn {s : System} (h : smS s) : s.cnT ≤ 1000000000000:=by
  have e : System.cnT s = cnS Glue.cnE s.Set.Glues + cnS Tile.cnE s.Set.Tiles + cnS Placed.cnE s.Seed.Tiles:=rfl;have h1:=zUx (f:=Glue.cnE) (K:=2) s.Set.Glues (fun _ _ => Nat.le_refl 2);have h2:=zUx (f:=Tile.cnE) (K:=5) s.Set.Tiles (fun t ht => by
    have e : Tile.cnE t = 1 + cnS (fun _ => 1) t.Sides:=rfl;have:=zDr (K:=1) (f:=fun _ : Int => 1) (fun _ => Nat.le_refl 1) t.Sides;have:=(h.t t ht).2.1;omega)
  have h3:=zUx (f:=Placed.cnE) (K:=3) s.Seed.Tiles (fun _ _ => Nat.le_refl 3);have:=h.gl;have:=h.tl;have:=h.pl;rw [e];omega
def sys0 : System:=⟨⟨[],[]⟩,⟨[]⟩,0⟩
theorem sys0_sm : smS sys0:=⟨zX3,smT_nil,smP_nil,by simp [sys0],by simp [sys0],by simp [sys0],by simp [sys0]⟩
def hasG (G : List Glue) (n : ByteArray) : Bool:=G.any fun g => decide (g.Name = n)
def zCn (G : List Glue) (n : ByteArray) : List Glue:=if hasG G n then G else G ++ [⟨n,1⟩]
theorem zO8 {G : List Glue} {n : ByteArray} (h : hasG G n = false) : fresh G n:=fun g hg e => by unfold hasG at h;rw [List.any_eq_false] at h;exact h g hg (by simp [e])
theorem zT6 {G : List Glue} {n : ByteArray} (h : okM G) (hd : n ≠ zK6) (he : n ≠ zFs) : okM (zCn G n):=by
  unfold zCn;cases hh : hasG G n with
  | true => rw [if_pos rfl];exact h
  | false => rw [if_neg (by decide)];exact zT8 h (zO8 hh) hd he
theorem zQn (G : List Glue) (n : ByteArray) : (zCn G n).length ≤ G.length + 1:=by unfold zCn;split <;> simp
abbrev nN (k : Int) : ByteArray:=nm1 [110] k.toNat
abbrev nE (k : Int) : ByteArray:=nm1 [101] k.toNat
def zQa (G : List Glue) : Prop:=∀ g,g ∈ G → (∃ k,g.Name = nm1 [110] k) ∨ ∃ k,g.Name = nm1 [101] k
theorem zVr : zQa []:=fun _ h => by cases h
theorem zLw {G : List Glue} {n : ByteArray} (h : zQa G) (hn : (∃ k,n = nm1 [110] k) ∨ ∃ k,n = nm1 [101] k) : zQa (zCn G n):=by
  unfold zCn;split
  · exact h
  · intro g hg;rcases List.mem_append.1 hg with hg | hg
    · exact h g hg
    · rw [List.mem_singleton] at hg;subst hg;exact hn
theorem zKh {G : List Glue} {n : ByteArray} (h : zQa G) (h1 : ∀ k,nm1 [110] k ≠ n) (h2 : ∀ k,nm1 [101] k ≠ n) : fresh G n:=fun g hg e => by
  rcases h g hg with ⟨k,hk⟩ | ⟨k,hk⟩
  · exact h1 k (hk ▸ e)
  · exact h2 k (hk ▸ e)
theorem zOw (k : Int) : nN k ≠ zK6:=zCw (b:=[]) (u:=[45]) (by rfl) (by rfl) (by simp)
theorem nN_none (k : Int) : nN k ≠ zFs:=zCw (b:=[]) (u:=[]) (by rfl) (by rfl) (by simp)
theorem zOx (k : Int) : nE k ≠ zK6:=zCw (b:=[]) (u:=[45]) (by rfl) (by rfl) (by simp)
theorem nE_none (k : Int) : nE k ≠ zFs:=zCw (b:=[]) (u:=[]) (by rfl) (by rfl) (by simp)
structure okD (G : List Glue) (m : Nat) : Prop where
  ok : okM G
  s : zQa G
  l : G.length ≤ m
theorem okD_nil : okD [] 0:=⟨okM_nil,zVr,Nat.le_refl 0⟩
theorem zSm {G : List Glue} {m : Nat} (h : okD G m) (k : Int) : okD (zCn G (nN k)) (m + 1):=⟨zT6 h.ok (zOw k) (nN_none k),zLw h.s (.inl ⟨_,rfl⟩),by have:=zQn G (nN k);have:=h.l;omega⟩
theorem zZk {G : List Glue} {m : Nat} (h : okD G m) (k : Int) : okD (zCn G (nE k)) (m + 1):=⟨zT6 h.ok (zOx k) (nE_none k),zLw h.s (.inr ⟨_,rfl⟩),by have:=zQn G (nE k);have:=h.l;omega⟩
def dsP (G : List Glue) (p : Piece) : List Glue:=zCn (zCn (zCn (zCn G (nN p.North)) (nE p.East)) (nN p.South)) (nE p.West)
def dsG1 (d : Design) (i : Nat) : List Glue:=(d.Bottom.take i).foldl (fun G x => zCn G (nN x)) []
def zXi (d : Design) (i : Nat) : List Glue:=(d.Left.take i).foldl (fun G x => zCn G (nE x)) (dsG1 d d.Bottom.length)
def zPr (d : Design) (i : Nat) : List Glue:=(d.Pieces.take i).foldl dsP (zXi d d.Left.length)
def zTe (d : Design) (i : Nat) : List Glue:=zPr d d.Pieces.length ++ (List.range i).map (fun j => ⟨nm1 [117,112] j,2⟩)
def zRa (d : Design) (i : Nat) : List Glue:=zTe d d.Left.length ++ (List.range i).map (fun j => ⟨nm1 [111,110] j,2⟩)
def dsG (d : Design) : List Glue:=zRa d d.Bottom.length
theorem zI4 {d : Design} {i : Nat} (h : i < d.Bottom.length) : dsG1 d (i + 1) = zCn (dsG1 d i) (nN d.Bottom[i]):=by unfold dsG1;rw [List.take_succ_eq_append_getElem h,List.foldl_append];rfl
theorem zI3 {d : Design} {i : Nat} (h : i < d.Left.length) : zXi d (i + 1) = zCn (zXi d i) (nE d.Left[i]):=by unfold zXi;rw [List.take_succ_eq_append_getElem h,List.foldl_append];rfl
theorem zI2 {d : Design} {i : Nat} (h : i < d.Pieces.length) : zPr d (i + 1) = dsP (zPr d i) d.Pieces[i]:=by unfold zPr;rw [List.take_succ_eq_append_getElem h,List.foldl_append];rfl
theorem zRc (d : Design) (i : Nat) : zTe d (i + 1) = zTe d i ++ [⟨nm1 [117,112] i,2⟩]:=zG8 _ _ _
theorem zQ9 (d : Design) (i : Nat) : zRa d (i + 1) = zRa d i ++ [⟨nm1 [111,110] i,2⟩]:=zG8 _ _ _
theorem zRe (d : Design) : zXi d 0 = dsG1 d d.Bottom.length:=rfl
theorem zRd (d : Design) : zPr d 0 = zXi d d.Left.length:=rfl
theorem zRb (d : Design) : zTe d 0 = zPr d d.Pieces.length:=by simp [zTe]
theorem zQ8 (d : Design) : zRa d 0 = zTe d d.Left.length:=by simp [zRa]
theorem okD_mono {G : List Glue} {m m' : Nat} (h : okD G m) (hm : m ≤ m') : okD G m':=⟨h.ok,h.s,Nat.le_trans h.l hm⟩
theorem zMr (d : Design) : ∀ i,i ≤ d.Bottom.length → okD (dsG1 d i) i
  | 0,_ => okD_nil
  | i + 1,h => by rw [zI4 (by omega)];exact zSm (zMr d i (by omega)) _
theorem zMq (d : Design) : ∀ i,i ≤ d.Left.length → okD (zXi d i) (d.Bottom.length + i)
  | 0,_ => zMr d _ (Nat.le_refl _)
  | i + 1,h => by rw [zI3 (by omega)];exact zZk (zMq d i (by omega)) _
theorem okD_P {G : List Glue} {m : Nat} (h : okD G m) (p : Piece) : okD (dsP G p) (m + 4):=zZk (zSm (zZk (zSm h _) _) _) _
theorem zH3 (d : Design) : ∀ i,i ≤ d.Pieces.length → okD (zPr d i) (d.Bottom.length + d.Left.length + 4 * i)
  | 0,_ => zMq d _ (Nat.le_refl _)
  | i + 1,h => by rw [zI2 (by omega)];exact okD_mono (okD_P (zH3 d i (by omega)) _) (by omega)
theorem zJ4 (d : Design) (i : Nat) {n : ByteArray} (h1 : ∀ k,nm1 [110] k ≠ n) (h2 : ∀ k,nm1 [101] k ≠ n) (h3 : ∀ j,j < i → nm1 [117,112] j ≠ n) : fresh (zTe d i) n:=zMm (zKh (zH3 d _ (Nat.le_refl _)).s h1 h2) h3
theorem zN6 (d : Design) (i : Nat) {n : ByteArray} (h1 : ∀ k,nm1 [110] k ≠ n) (h2 : ∀ k,nm1 [101] k ≠ n) (h3 : ∀ j,j < d.Left.length → nm1 [117,112] j ≠ n) (h4 : ∀ j,j < i → nm1 [111,110] j ≠ n) : fresh (zRa d i) n:=zMm (zJ4 d _ h1 h2 h3) h4
theorem dsG4_up (d : Design) (i : Nat) : fresh (zTe d i) (nm1 [117,112] i):=zJ4 d i (fun k => zCw (by rfl) (by rfl) (by simp)) (fun k => zCw (by rfl) (by rfl) (by simp)) (fun j hj => zCw (by rfl) (by rfl) (by simp;omega))
theorem zTd (d : Design) (i : Nat) : fresh (zRa d i) (nm1 [111,110] i):=zN6 d i (fun k => zCw (by rfl) (by rfl) (by simp)) (fun k => zCw (by rfl) (by rfl) (by simp)) (fun j hj => zCw (by rfl) (by rfl) (by simp)) (fun j hj => zCw (by rfl) (by rfl) (by simp;omega))
theorem dsG5_up (d : Design) (i : Nat) : fresh (zRa d i) (nm1 [117,112] d.Left.length):=zN6 d i (fun k => zCw (by rfl) (by rfl) (by simp)) (fun k => zCw (by rfl) (by rfl) (by simp)) (fun j hj => zCw (by rfl) (by rfl) (by simp;omega)) (fun j hj => zCw (by rfl) (by rfl) (by simp))
theorem dsG4_ok (d : Design) (i : Nat) : okM (zTe d i):=zSl (zH3 d _ (Nat.le_refl _)).ok (fun j => zKh (zH3 d _ (Nat.le_refl _)).s (fun k => zCw (by rfl) (by rfl) (by simp)) (fun k => zCw (by rfl) (by rfl) (by simp))) (fun i j hj => zCw (by rfl) (by rfl) (by simp;omega)) (fun j => zCw (b:=[]) (u:=[45]) (by rfl) (by rfl) (by simp)) (fun j => zCw (b:=[]) (u:=[]) (by rfl) (by rfl) (by simp)) i
theorem dsG5_ok (d : Design) (i : Nat) : okM (zRa d i):=zSl (dsG4_ok d _) (fun j => zJ4 d _ (fun k => zCw (by rfl) (by rfl) (by simp)) (fun k => zCw (by rfl) (by rfl) (by simp)) (fun _ _ => zCw (by rfl) (by rfl) (by simp))) (fun i j hj => zCw (by rfl) (by rfl) (by simp;omega)) (fun j => zCw (b:=[]) (u:=[45]) (by rfl) (by rfl) (by simp)) (fun j => zCw (b:=[]) (u:=[]) (by rfl) (by rfl) (by simp)) i
theorem zPg {d : Design} (h : zC7 d = true) {i : Nat} (hi : i ≤ d.Left.length) : (zTe d i).length ≤ 430:=by obtain ⟨⟨_,h1⟩,⟨_,h2⟩,h3,_⟩:=zC2 h;have:=(zH3 d _ (Nat.le_refl _)).l;unfold zTe;rw [List.length_append,List.length_map,List.length_range];omega
theorem zPf {d : Design} (h : zC7 d = true) {i : Nat} (hi : i ≤ d.Bottom.length) : (zRa d i).length ≤ 440:=by have h1:=zPg h (Nat.le_refl _);obtain ⟨⟨_,h2⟩,_⟩:=zC2 h;unfold zRa;rw [List.length_append,List.length_map,List.length_range];omega
/-! Tiles. -/
def dsC (G : List Glue) : List Tile:=[⟨⟨⟨[99,111,114,110,101,114]⟩⟩,[zA8 G ⟨⟨[117,112,48]⟩⟩,zA8 G ⟨⟨[111,110,48]⟩⟩,zA8 G zFs,zA8 G zFs]⟩]
def dsUp (d : Design) (G : List Glue) (j : Nat) : Tile:=⟨nm1 [117,112] j,[zA8 G (nm1 [117,112] (j + 1)),zA8 G (nE (d.Left.getD j 0)),zA8 G (nm1 [117,112] j),zA8 G zFs]⟩
def dsOn (d : Design) (G : List Glue) (j : Nat) : Tile:=⟨nm1 [111,110] j,[zA8 G (nN (d.Bottom.getD j 0)),zA8 G (nm1 [111,110] (j + 1)),zA8 G zFs,zA8 G (nm1 [111,110] j)]⟩
def dsPt (d : Design) (G : List Glue) (j : Nat) : Tile:=match d.Pieces[j]? with
  | some p => ⟨nm [([99],p.Color.toNat),([95],j)] [],[zA8 G (nN p.North),zA8 G (nE p.East),zA8 G (nN p.South),zA8 G (nE p.West)]⟩
  | none => ⟨nm [([99],0),([95],j)] [],[0,0,0,0]⟩
def zRw (d : Design) (G : List Glue) (i : Nat) : List Tile:=dsC G ++ (List.range i).map (dsUp d G)
def zRv (d : Design) (G : List Glue) (i : Nat) : List Tile:=zRw d G d.Left.length ++ (List.range i).map (dsOn d G)
def zQ5 (d : Design) (G : List Glue) (i : Nat) : List Tile:=zRv d G d.Bottom.length ++ (List.range i).map (dsPt d G)
def dsT (d : Design) : List Tile:=zQ5 d (dsG d) d.Pieces.length
theorem dsT1_next (d : Design) (G : List Glue) (i : Nat) : zRw d G (i + 1) = zRw d G i ++ [dsUp d G i]:=zG8 _ _ _
theorem dsT2_next (d : Design) (G : List Glue) (i : Nat) : zRv d G (i + 1) = zRv d G i ++ [dsOn d G i]:=zG8 _ _ _
theorem dsT3_next (d : Design) (G : List Glue) (i : Nat) : zQ5 d G (i + 1) = zQ5 d G i ++ [dsPt d G i]:=zG8 _ _ _
theorem zQ7 (d : Design) (G : List Glue) : zRw d G 0 = dsC G:=by simp [zRw]
theorem zQ6 (d : Design) (G : List Glue) : zRv d G 0 = zRw d G d.Left.length:=by simp [zRv]
theorem zQ4 (d : Design) (G : List Glue) : zQ5 d G 0 = zRv d G d.Bottom.length:=by simp [zQ5]
theorem zPe (d : Design) (G : List Glue) (i : Nat) : (zRw d G i).length = 1 + i:=by simp [zRw,dsC];omega
theorem zPd (d : Design) (G : List Glue) (i : Nat) : (zRv d G i).length = 1 + d.Left.length + i:=by simp [zRv,zPe]
theorem zPc (d : Design) (G : List Glue) (i : Nat) : (zQ5 d G i).length = 1 + d.Left.length + d.Bottom.length + i:=by simp [zQ5,zPd]
theorem zN5 (d : Design) (G : List Glue) (i : Nat) {n : ByteArray} (h1 : nm [] [99,111,114,110,101,114] ≠ n) (h2 : ∀ j,j < i → nm1 [117,112] j ≠ n) : zGb (zRw d G i) n:=zN1 (f:=fun j => nm1 [117,112] j) (s:=fun j => (dsUp d G j).Sides) (zS8 (zN2 n) h1) h2
theorem zN4 (d : Design) (G : List Glue) (i : Nat) {n : ByteArray} (h1 : nm [] [99,111,114,110,101,114] ≠ n) (h2 : ∀ j,nm1 [117,112] j ≠ n) (h3 : ∀ j,j < i → nm1 [111,110] j ≠ n) : zGb (zRv d G i) n:=zN1 (f:=fun j => nm1 [111,110] j) (s:=fun j => (dsOn d G j).Sides) (zN5 d G _ h1 fun j _ => h2 j) h3
theorem dsPt_name (d : Design) (G : List Glue) (j : Nat) : ∃ c,(dsPt d G j).Name = nm [([99],c),([95],j)] []:=by unfold dsPt;split <;> exact ⟨_,rfl⟩
theorem dsT1_up (d : Design) (G : List Glue) (i : Nat) : zGb (zRw d G i) (nm1 [117,112] i):=zN5 d G i (zCw (a:=[]) (b:=[([117,112],i)]) (t:=[99,111,114,110,101,114]) (u:=[]) (by rfl) (by rfl) (by simp)) (fun j hj => zCw (by rfl) (by rfl) (by simp;omega))
theorem dsT2_on (d : Design) (G : List Glue) (i : Nat) : zGb (zRv d G i) (nm1 [111,110] i):=zN4 d G i (zCw (a:=[]) (b:=[([111,110],i)]) (t:=[99,111,114,110,101,114]) (u:=[]) (by rfl) (by rfl) (by simp)) (fun j => zCw (by rfl) (by rfl) (by simp)) (fun j hj => zCw (by rfl) (by rfl) (by simp;omega))
theorem dsT3_pc (d : Design) (G : List Glue) (i c : Nat) : zGb (zQ5 d G i) (nm [([99],c),([95],i)] []):=fun t ht => by
  unfold zQ5 at ht;rcases List.mem_append.1 ht with ht | ht
  · exact zN4 d G _ (n:=nm [([99],c),([95],i)] []) (zCw (a:=[]) (b:=[([99],c),([95],i)]) (t:=[99,111,114,110,101,114]) (u:=[]) (by rfl) (by rfl) (by simp)) (fun j => zCw (a:=[([117,112],j)]) (b:=[([99],c),([95],i)]) (t:=[]) (u:=[]) (by rfl) (by rfl) (by simp)) (fun j hj => zCw (a:=[([111,110],j)]) (b:=[([99],c),([95],i)]) (t:=[]) (u:=[]) (by rfl) (by rfl) (by simp)) t ht
  · obtain ⟨j,hj,rfl⟩:=List.mem_map.1 ht;obtain ⟨c',hc'⟩:=dsPt_name d G j;rw [hc'];have hj : j < i:=(by simpa using hj);exact zCw (a:=[([99],c'),([95],j)]) (b:=[([99],c),([95],i)]) (t:=[]) (u:=[]) (by rfl) (by rfl) (by simp;omega)
end Go.Proofs.YtdjjffhlplchjaaGreatDoor
