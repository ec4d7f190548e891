/- Laws that the proof stands on. -/
import Derived.Test.YtdjjffhlplchjaaGreatDoorZg14
import Derived.Test.YtdjjffhlplchjaaGreatDoorZg13
set_option linter.all false
namespace Go.Proofs.YtdjjffhlplchjaaGreatDoor
open Go.RowKit Go.V
set_option maxRecDepth 100000
theorem zZm {α : Type} {l : List α} : l.reverse.Nodup ↔ l.Nodup:=by simp only [List.Nodup,List.pairwise_reverse];exact ⟨fun h => h.imp Ne.symm,fun h => h.imp Ne.symm⟩
/-! Tables filled by a list: keys, values. -/
section
variable {α κ : Type} [DecidableEq κ]
structure KeyG (kk : α → κ) (key : α → Value) : Prop where
  eq : ∀ a b,keq (key a) (key b) = decide (kk b = kk a)
def tbG (key val : α → Value) (xs : List α) : List (Value × Value):=xs.foldl (fun e v => zJr e (key v) (val v)) []
def entG (key val : α → Value) (v : α) : Value × Value:=(key v,val v)
theorem tbG_next {key val : α → Value} {xs : List α} {i : Nat} (h : i < xs.length) : zJr (tbG key val (xs.take i)) (key xs[i]) (val xs[i]) = tbG key val (xs.take (i + 1)):=by unfold tbG;rw [List.take_succ_eq_append_getElem h,List.foldl_append];rfl
theorem idxG {kk : α → κ} {key val : α → Value} {q : Value} {c : κ} (hq : ∀ b,keq q (key b) = decide (kk b = c)) (xs : List α) : (xs.map (entG key val)).findIdx? (fun x => keq q x.1) = xs.findIdx? (fun x => decide (kk x = c)):=by rw [List.findIdx?_map];congr 1;funext v;exact hq v
theorem zZv {kk : α → κ} {key val : α → Value} (hK : KeyG kk key) {xs : List α} {v : α} (h : kk v ∉ xs.map kk) : zJr (xs.map (entG key val)) (key v) (val v) = (xs ++ [v]).map (entG key val):=by
  unfold zJr;rw [idxG (hK.eq v)];have : xs.findIdx? (fun x => decide (kk x = kk v)) = none:=by rw [List.findIdx?_eq_none_iff];intro x hx;rw [decide_eq_false_iff_not];exact fun e => h (List.mem_map.2 ⟨x,hx,e⟩)
  rw [this,List.map_append];rfl
theorem zZw {e : List (Value × Value)} {k v : Value} : (zJr e k v).length ≤ e.length + 1:=by unfold zJr;split <;> simp
theorem zZu {kk : α → κ} {key val : α → Value} (hK : KeyG kk key) {xs : List α} {v : α} (h : kk v ∈ xs.map kk) : (zJr (xs.map (entG key val)) (key v) (val v)).length = xs.length:=by
  unfold zJr;rw [idxG (hK.eq v)];cases hi : xs.findIdx? (fun x => decide (kk x = kk v)) with
  | none => obtain ⟨x,hx,hxk⟩:=List.mem_map.1 h;have:=(List.findIdx?_eq_none_iff.1 hi) x hx;rw [decide_eq_true hxk] at this;cases this
  | some i => simp
theorem zQx {key val : α → Value} : ∀ (ys : List α) (e : List (Value × Value)),(ys.foldl (fun e v => zJr e (key v) (val v)) e).length ≤ e.length + ys.length
  | [],e => by simp
  | y :: ys,e => by have h1:=zQx (key:=key) (val:=val) ys (zJr e (key y) (val y));have h2:=zZw (e:=e) (k:=key y) (v:=val y);rw [List.foldl_cons,List.length_cons];omega
theorem zMn {kk : α → κ} {key val : α → Value} (hK : KeyG kk key) : ∀ (ys pre : List α),(pre.map kk).Nodup → (((pre ++ ys).map kk).Nodup → ys.foldl (fun e v => zJr e (key v) (val v)) (pre.map (entG key val)) = (pre ++ ys).map (entG key val)) ∧
    (¬ ((pre ++ ys).map kk).Nodup → (ys.foldl (fun e v => zJr e (key v) (val v)) (pre.map (entG key val))).length < pre.length + ys.length)
  | [],pre,h => by simp [h]
  | y :: ys,pre,h => by
    by_cases hy : kk y ∈ pre.map kk
    · have hno : ¬ ((pre ++ y :: ys).map kk).Nodup:=(by rw [List.map_append,List.map_cons,List.nodup_append];intro ⟨_,_,h3⟩;exact h3 _ hy (kk y) (by simp) rfl);refine ⟨fun hn => absurd hn hno,fun _ => ?_⟩;have h1:=zQx (key:=key) (val:=val) ys (zJr (pre.map (entG key val)) (key y) (val y));rw [zZu hK hy] at h1;rw [List.foldl_cons,List.length_cons];omega
    · have hn' : ((pre ++ [y]).map kk).Nodup:=(by rw [List.map_append,List.nodup_append];refine ⟨h,by simp,fun a ha b hb e => ?_⟩;simp at hb;subst hb;subst e;exact hy ha);obtain ⟨h1,h2⟩:=zMn hK ys (pre ++ [y]) hn';rw [List.append_assoc,List.singleton_append] at h1 h2;rw [List.foldl_cons,zZv hK hy];refine ⟨h1,fun hn => ?_⟩;have:=h2 hn;rw [List.length_append] at this;simp only [List.length_cons,List.length_nil] at this ⊢;omega
theorem tbG_nd {kk : α → κ} {key val : α → Value} (hK : KeyG kk key) {xs : List α} (h : (xs.map kk).Nodup) : tbG key val xs = xs.map (entG key val):=(zMn hK xs [] List.nodup_nil).1 (by simpa using h)
theorem tbG_len {kk : α → κ} {key val : α → Value} (hK : KeyG kk key) (xs : List α) : decide (((tbG key val xs).length : Int) = (xs.length : Int)) = decide ((xs.map kk).Nodup):=by
  by_cases h : (xs.map kk).Nodup
  · rw [tbG_nd hK h,List.length_map,decide_eq_true h,decide_eq_true rfl]
  · have:=(zMn (val:=val) hK xs [] List.nodup_nil).2 (by simpa using h);simp only [List.map_nil,List.length_nil,Nat.zero_add] at this;rw [decide_eq_false h,decide_eq_false_iff_not];unfold tbG;omega
end
/-! Pieces and their inlets. -/
def kkP (p : Piece) : Int × Int:=(p.South,p.West)
def zZj (p : Piece) : Bool:=inR 0 5 p.Color && (inR 0 119 p.North && (inR 0 119 p.East && (inR 0 119 p.South && inR 0 119 p.West)))
def zEv (xs : List Int) : Bool:=inR 1 10 xs.length && xs.all (inR 0 119)
def zC7 (d : Design) : Bool:=zEv d.Bottom && (zEv d.Left && (decide (d.Pieces.length ≤ 100) && (d.Pieces.all zZj && decide ((d.Pieces.map kkP).Nodup))))
def isInl (s w : Int) (p : Piece) : Bool:=decide (p.South = s) && decide (p.West = w)
theorem isInl_iff {s w : Int} {p : Piece} : isInl s w p = true ↔ kkP p = (s,w):=by unfold isInl kkP;rw [Bool.and_eq_true,decide_eq_true_eq,decide_eq_true_eq,Prod.mk.injEq]
def zRu (ps : List Piece) : List (Piece × Nat):=ps.zipIdx.reverse
theorem zLd (ps : List Piece) : (zRu ps).length = ps.length:=by simp [zRu]
theorem revI_get {ps : List Piece} {i : Nat} (h : i < ps.length) : (zRu ps)[i]'(by rw [zLd];exact h) = (ps[ps.length - 1 - i]'(by omega),ps.length - 1 - i):=by unfold zRu;rw [List.getElem_reverse];simp
def keyI (p : Piece × Nat) : Value:=.agg #[.int .i64 p.1.South,.int .i64 p.1.West]
def valI (p : Piece × Nat) : Value:=.int .i64 (p.2 : Nat)
def inlE (xs : List (Piece × Nat)) : List (Value × Value):=tbG keyI valI xs
theorem keqI (s w : Int) (b : Piece × Nat) : keq (.agg #[.int .i64 s,.int .i64 w]) (keyI b) = decide (kkP b.1 = (s,w)):=by
  have : keq (.agg #[.int .i64 s,.int .i64 w]) (keyI b) = isInl s w b.1:=by unfold keyI isInl;simp only [keq,zS1,zWl,Bool.and_true];by_cases h1 : b.1.South = s <;> by_cases h2 : b.1.West = w <;> simp [h1,h2] <;> first | exact fun h => absurd h.symm h1 | exact fun h => absurd h.symm h2
  rw [this,Bool.eq_iff_iff,isInl_iff,decide_eq_true_eq]
theorem keyG_I : KeyG (fun p : Piece × Nat => kkP p.1) keyI:=⟨fun a b => by
  have:=keqI a.1.South a.1.West b;exact this⟩
theorem revI_kk (ps : List Piece) : (zRu ps).map (fun p => kkP p.1) = (ps.map kkP).reverse:=by unfold zRu;rw [List.map_reverse];congr 1;rw [show (fun p : Piece × Nat => kkP p.1) = kkP ∘ Prod.fst from rfl,← List.map_map,List.zipIdx_map_fst]
theorem inl_len (ps : List Piece) : decide (((inlE (zRu ps)).length : Int) = (ps.length : Int)) = decide ((ps.map kkP).Nodup):=by have:=tbG_len (val:=valI) keyG_I (zRu ps);rw [zLd,revI_kk] at this;unfold inlE;rw [this];exact decide_eq_decide.2 zZm
/-! The run: row by row. -/
structure RunS where
  out : List Int
  bel : List Int
  west : Int
theorem zC2 {d : Design} (h : zC7 d = true) : (1 ≤ d.Bottom.length ∧ d.Bottom.length ≤ 10) ∧ (1 ≤ d.Left.length ∧ d.Left.length ≤ 10) ∧ d.Pieces.length ≤ 100 ∧ (∀ p,p ∈ d.Pieces → zZj p = true) ∧ (d.Pieces.map kkP).Nodup ∧ (∀ x,x ∈ d.Bottom → 0 ≤ x ∧ x ≤ 119) ∧ (∀ x,x ∈ d.Left → 0 ≤ x ∧ x ≤ 119):=by unfold zC7 zEv at h;simp only [Bool.and_eq_true,decide_eq_true_eq,List.all_eq_true,inR_iff] at h;obtain ⟨⟨h1,h2⟩,⟨h3,h4⟩,h5,h6,h7⟩:=h;exact ⟨by omega,by omega,h5,h6,h7,h2,h4⟩
end Go.Proofs.YtdjjffhlplchjaaGreatDoor
