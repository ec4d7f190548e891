/- Laws that the proof stands on. -/
import Derived.Test.YtdjjffhlplchjaaGreatDoorZVOnce
set_option linter.all false
namespace Go.Proofs.YtdjjffhlplchjaaGreatDoor
open Go.RowKit Go.V
set_option maxRecDepth 100000
def dsS (d : Design) : System:=⟨⟨dsG d,dsT d⟩,⟨[⟨⟨0,0⟩,0⟩]⟩,2⟩
def dsOk (d : Design) : Bool:=zGf ⟨dsG d,dsT d⟩
def zA3 (d : Design) : System:=if zC7 d && dsOk d then dsS d else sys0
def zEl (d : Design) : Int:=if zC7 d then (if dsOk d then 0 else 4) else 1
theorem zG5 {G : List Glue} {n : ByteArray} (h : smG G) (hn : n.size ≤ 1000) : smG (zCn G n):=by
  unfold zCn;split
  · exact h
  · exact zSa h (smG_one hn (by omega) (by omega))
theorem zSs {k : Int} (h : k ≤ 119) : (nN k).size ≤ 1000:=zHb (by simp) (by omega)
theorem zSt {k : Int} (h : k ≤ 119) : (nE k).size ≤ 1000:=zHb (by simp) (by omega)
theorem zV7 {d : Design} (h : zC7 d = true) {p : Piece} (hp : p ∈ d.Pieces) : (0 ≤ p.Color ∧ p.Color ≤ 5) ∧ (0 ≤ p.North ∧ p.North ≤ 119) ∧ (0 ≤ p.East ∧ p.East ≤ 119) ∧ (0 ≤ p.South ∧ p.South ≤ 119) ∧ (0 ≤ p.West ∧ p.West ≤ 119):=by have:=(zC2 h).2.2.2.1 p hp;unfold zZj at this;simp only [Bool.and_eq_true,inR_iff] at this;exact this
theorem dsG1_sm {d : Design} (h : zC7 d = true) : ∀ i,i ≤ d.Bottom.length → smG (dsG1 d i)
  | 0,_ => zX3
  | i + 1,hi => by have:=(zC2 h).2.2.2.2.2.1 _ (List.getElem_mem (show i < d.Bottom.length by omega));rw [zI4 (by omega)];exact zG5 (dsG1_sm h i (by omega)) (zSs this.2)
theorem dsG2_sm {d : Design} (h : zC7 d = true) : ∀ i,i ≤ d.Left.length → smG (zXi d i)
  | 0,_ => dsG1_sm h _ (Nat.le_refl _)
  | i + 1,hi => by have:=(zC2 h).2.2.2.2.2.2 _ (List.getElem_mem (show i < d.Left.length by omega));rw [zI3 (by omega)];exact zG5 (dsG2_sm h i (by omega)) (zSt this.2)
theorem dsG3_sm {d : Design} (h : zC7 d = true) : ∀ i,i ≤ d.Pieces.length → smG (zPr d i)
  | 0,_ => dsG2_sm h _ (Nat.le_refl _)
  | i + 1,hi => by have:=zV7 h (List.getElem_mem (show i < d.Pieces.length by omega));rw [zI2 (by omega)];exact zG5 (zG5 (zG5 (zG5 (dsG3_sm h i (by omega)) (zSs this.2.1.2)) (zSt this.2.2.1.2)) (zSs this.2.2.2.1.2)) (zSt this.2.2.2.2.2)
theorem dsG_sm {d : Design} (h : zC7 d = true) : smG (dsG d):=by obtain ⟨⟨_,h1⟩,⟨_,h2⟩,_⟩:=zC2 h;exact zSa (zSa (dsG3_sm h _ (Nat.le_refl _)) (zX2 (fun j hj => zHb (by simp) (by omega)) (fun _ => by omega))) (zX2 (fun j hj => zHb (by simp) (by omega)) (fun _ => by omega))
theorem zMp {d : Design} (h : zC7 d = true) : (dsG d).length ≤ 440:=zPf h (Nat.le_refl _)
theorem nm2_size (p q : List UInt8) (a b : Nat) (hp : p.length ≤ 100) (hq : q.length ≤ 100) (ha : a ≤ 1000000) (hb : b ≤ 1000000) : (nm [(p,a),(q,b)] []).size ≤ 1000:=by have h1:=zMs a (by omega);have h2:=zMs b (by omega);have : (nm [(p,a),(q,b)] []).size = (p ++ Lib.decDigits a ++ (q ++ Lib.decDigits b ++ [])).length:=rfl;rw [this];simp only [List.length_append,List.length_nil];omega
theorem dsT_sm {d : Design} (h : zC7 d = true) : smT (dsT d):=by obtain ⟨⟨_,h1⟩,⟨_,h2⟩,h3,_⟩:=zC2 h;have hl : (dsG d).length ≤ 10000:=(by have:=zMp h;omega);have o1:=fun a b c e => sm4 hl a b c e;refine zR9 (zR9 (zR9 (smT_one (lit_size (by decide)) (o1 _ _ _ _).1 (o1 _ _ _ _).2) (zX1 (f:=fun j => nm1 [117,112] j) (s:=fun j => (dsUp d (dsG d) j).Sides) (fun j hj => zHb (by simp) (by omega)) (fun _ => o1 _ _ _ _))) (zX1 (f:=fun j => nm1 [111,110] j) (s:=fun j => (dsOn d (dsG d) j).Sides) (fun j hj => zHb (by simp) (by omega)) (fun _ => o1 _ _ _ _))) ?_;intro t ht;obtain ⟨j,hj,rfl⟩:=List.mem_map.1 ht;have hj : j < d.Pieces.length:=(by simpa using hj);have hp:=zV7 h (List.getElem_mem hj);unfold dsPt;rw [List.getElem?_eq_getElem hj];exact ⟨nm2_size _ _ _ _ (by simp) (by simp) (by omega) (by omega),(o1 _ _ _ _).1,(o1 _ _ _ _).2⟩
theorem dsT_len {d : Design} (h : zC7 d = true) : (dsT d).length ≤ 121:=by obtain ⟨⟨_,h1⟩,⟨_,h2⟩,h3,_⟩:=zC2 h;unfold dsT;rw [zPc];omega
theorem dsS_sm {d : Design} (h : zC7 d = true) : smS (dsS d) :=
  ⟨dsG_sm h,dsT_sm h,smP_rowP (x:=0) (row:=[0]) (by omega) (by simp) (fun y hy => by simp at hy;omega),by have:=zMp h;show (dsG d).length ≤ 10000;omega,by have:=dsT_len h;show (dsT d).length ≤ 10000;omega,by simp [dsS],by simp [dsS]⟩
theorem zUp {d : Design} (h : zC7 d = true) : setB ⟨dsG d,dsT d⟩ :=
  ⟨by have:=zMp h;show (dsG d).length ≤ 1048576;omega,by have:=dsT_len h;show (dsT d).length ≤ 1048576;omega,fun x hx => by have:=(dsG_sm h x hx).1;omega,fun x hx => by have:=(dsT_sm h x hx).1;omega,fun x hx => by have:=(dsT_sm h x hx).2.1;omega⟩
theorem zGd (d : Design) : smS (zA3 d):=by
  unfold zA3;split
  · rename_i e;simp only [Bool.and_eq_true] at e;exact dsS_sm e.1
  · exact sys0_sm
theorem zK9 (d : Design) (_ : Design.td.ok d) (_ : Design.cnt d ≤ 1048576) : System.td.ok (zA3 d):=smS_ok (zGd d)
theorem zLa (d : Design) : (zA3 d).cnT ≤ 1000000000000:=smS_cn (zGd d)
end Go.Proofs.YtdjjffhlplchjaaGreatDoor
