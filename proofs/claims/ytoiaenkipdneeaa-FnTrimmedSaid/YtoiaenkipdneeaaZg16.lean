/- Laws that the proof stands on. -/
import Derived.Test.YtoiaenkipdneeaaZg15
import Derived.Test.YtoiaenkipdneeaaZg10
import Derived.Test.YtoiaenkipdneeaaZg14
set_option linter.all false
namespace Go.Proofs.Ytoiaenkipdneeaa
open Go.RowKit Go.V
set_option maxRecDepth 100000
def hasS (ts : List Tile) (s : Int) : Bool:=ts.any (fun t => t.Sides.any (fun x => decide (x = s)))
def trimGi (a : TileSet) (i : Nat) : List Glue:=(List.range i).filterMap (fun (k : Nat) => if hasS a.Tiles ((k : Int) + 1) then a.Glues[k]? else none)
theorem trimGi_next {a : TileSet} {i : Nat} (h : i < a.Glues.length) : trimGi a (i + 1) = trimGi a i ++ (if hasS a.Tiles ((i : Int) + 1) then [a.Glues[i]] else []):=by unfold trimGi;rw [List.range_succ,List.filterMap_append];congr 1;cases hh : hasS a.Tiles ((i : Int) + 1) <;> simp [hh,List.getElem?_eq_getElem h]
theorem trimGi_len (a : TileSet) (i : Nat) : (trimGi a i).length ≤ i:=by unfold trimGi;refine Nat.le_trans (List.length_filterMap_le _ _) ?_;simp
def nowS (a : TileSet) (s : Int) : Int:=if 0 < s ∧ hasS a.Tiles s = true then ((trimGi a s.toNat).length : Int) else 0
def trimSd (a : TileSet) (t : Tile) : List Int:=t.Sides.map (nowS a)
def likeI (ts : List Tile) (sd : List Int) : Int:=vIdx (fun u => decide (u.Sides = sd)) ts
def trimStep (a : TileSet) (p : List Tile × List Int) (t : Tile) : List Tile × List Int :=
  if 0 ≤ likeI p.1 (trimSd a t) then (p.1,p.2 ++ [likeI p.1 (trimSd a t)]) else (p.1 ++ [⟨t.Name,trimSd a t⟩],p.2 ++ [(p.1.length : Int)])
def trimSt (a : TileSet) (i : Nat) : List Tile × List Int:=(a.Tiles.take i).foldl (trimStep a) ([],[])
theorem trimSt_next {a : TileSet} {i : Nat} (h : i < a.Tiles.length) : trimSt a (i + 1) = trimStep a (trimSt a i) a.Tiles[i]:=by unfold trimSt;rw [List.take_succ_eq_append_getElem h,List.foldl_append];rfl
def trimR (a : TileSet) : TileSet:=if okSet a then ⟨trimGi a a.Glues.length,(trimSt a a.Tiles.length).1⟩ else ⟨[],[]⟩
def trimA (a : TileSet) : List Int:=if okSet a then (trimSt a a.Tiles.length).2 else []
def trimC (a : TileSet) : Int:=if okSet a then 0 else 1
def nowT (a : TileSet) (i : Nat) : List Int:=(List.range (a.Glues.length + 1)).map (fun (k : Nat) => if k ≤ i then nowS a (k : Int) else 0)
theorem nowT_len (a : TileSet) (i : Nat) : (nowT a i).length = a.Glues.length + 1:=by simp [nowT]
theorem nowT_get (a : TileSet) (i k : Nat) : (nowT a i)[k]? = if k < a.Glues.length + 1 then some (if k ≤ i then nowS a (k : Int) else 0) else none:=by
  unfold nowT;rw [List.getElem?_map];split
  · rename_i h;rw [List.getElem?_range h];rfl
  · rename_i h;rw [List.getElem?_eq_none (by simp;omega)];rfl
theorem nowS_zero (a : TileSet) : nowS a 0 = 0:=by unfold nowS;rw [if_neg (by omega)]
theorem nowT_zero (a : TileSet) : nowT a 0 = List.replicate (a.Glues.length + 1) 0:=by
  refine List.ext_getElem? (fun k => ?_);rw [nowT_get,List.getElem?_replicate];split
  · by_cases h : k ≤ 0
    · obtain rfl : k = 0:=(by omega);rw [if_pos h];exact congrArg some (nowS_zero a)
    · rw [if_neg h]
  · rfl
theorem nowT_at {a : TileSet} {i k : Nat} (hk : k < a.Glues.length + 1) (hi : k ≤ i) : (nowT a i)[k]? = some (nowS a (k : Int)):=by rw [nowT_get,if_pos hk,if_pos hi]
theorem nowT_set {a : TileSet} {i : Nat} (hi : i < a.Glues.length) : (nowT a i).set (i + 1) (nowS a ((i : Int) + 1)) = nowT a (i + 1):=by
  refine List.ext_getElem? (fun k => ?_);rw [List.getElem?_set,nowT_get,nowT_get,nowT_len];by_cases h : i + 1 = k
  · subst h;rw [if_pos rfl,if_pos (by omega),if_pos (by omega),if_pos (Nat.le_refl _)];rfl
  · rw [if_neg h];split
    · by_cases h3 : k ≤ i
      · rw [if_pos h3,if_pos (by omega)]
      · rw [if_neg h3,if_neg (by omega)]
    · rfl
theorem nowT_skip {a : TileSet} {i : Nat} (hh : hasS a.Tiles ((i : Int) + 1) = false) : nowT a i = nowT a (i + 1):=by
  refine List.ext_getElem? (fun k => ?_);rw [nowT_get,nowT_get];split
  · by_cases h3 : k ≤ i
    · rw [if_pos h3,if_pos (by omega)]
    · rw [if_neg h3];split
      · obtain rfl : k = i + 1:=(by omega);have : nowS a ((i + 1 : Nat) : Int) = 0:=(by unfold nowS;rw [if_neg];rintro ⟨-,h⟩;rw [show ((i + 1 : Nat) : Int) = (i : Int) + 1 by omega,hh] at h;cases h);rw [this]
      · rfl
  · rfl
theorem nowS_hit {a : TileSet} {k : Nat} (hk : k < a.Glues.length) (hh : hasS a.Tiles ((k : Int) + 1) = true) : nowS a ((k : Int) + 1) = (((trimGi a k).length + 1 : Nat) : Int):=by unfold nowS;rw [if_pos ⟨by omega,hh⟩,show ((k : Int) + 1).toNat = k + 1 by omega,trimGi_next hk,hh,if_pos rfl,List.length_append];rfl
theorem trimSd_len (a : TileSet) (t : Tile) : (trimSd a t).length = t.Sides.length:=by simp [trimSd]
theorem likeI_cases (ts : List Tile) (sd : List Int) : (∃ n : Nat,∃ hn : n < ts.length,likeI ts sd = (n : Int) ∧ ts[n].Sides = sd) ∨ (likeI ts sd = -1 ∧ ∀ x,x ∈ ts → x.Sides ≠ sd):=by
  unfold likeI vIdx;split
  · rename_i k hk;obtain ⟨hk1,hk2,_⟩:=List.findIdx?_eq_some_iff_getElem.1 hk;exact .inl ⟨k,hk1,rfl,by simpa using hk2⟩
  · rename_i hn;rw [List.findIdx?_eq_none_iff] at hn;exact .inr ⟨rfl,fun x hx => by simpa using hn x hx⟩
theorem okSet_tname {b : TileSet} (h : okSet b = true) {j : Nat} (hj : j < b.Tiles.length) : (b.Tiles.take j).any (fun x => decide (x.Name = b.Tiles[j].Name)) = false:=by unfold okSet at h;simp only [Bool.and_eq_true] at h;have:=h.2.2.2;rw [List.all_eq_true] at this;have:=this j (by simpa using hj);rw [okT_at hj] at this;simp only [Bool.and_eq_true,Bool.not_eq_true'] at this;exact this.2.2.1
theorem okSet_gn {b : TileSet} (h : okSet b = true) {j : Nat} (hj : j < b.Glues.length) : isNameB b.Glues[j].Name = true:=by unfold okSet at h;simp only [Bool.and_eq_true] at h;have:=h.2.2.1;rw [List.all_eq_true] at this;have:=this j (by simpa using hj);rw [okG_at hj] at this;simp only [Bool.and_eq_true] at this;exact this.1
theorem okSet_tn {b : TileSet} (h : okSet b = true) {j : Nat} (hj : j < b.Tiles.length) : isNameB b.Tiles[j].Name = true:=by unfold okSet at h;simp only [Bool.and_eq_true] at h;have:=h.2.2.2;rw [List.all_eq_true] at this;have:=this j (by simpa using hj);rw [okT_at hj] at this;simp only [Bool.and_eq_true] at this;exact this.1
theorem gname_ne {b : TileSet} (h : okSet b = true) {i j : Nat} (hij : i < j) (hj : j < b.Glues.length) : (b.Glues[i]'(by omega)).Name ≠ b.Glues[j].Name:=by have:=okSet_gname h hj;rw [List.any_eq_false] at this;have:=this (b.Glues[i]'(by omega)) (List.mem_take_iff_getElem.2 ⟨i,by omega,rfl⟩);simpa using this
theorem tname_ne {b : TileSet} (h : okSet b = true) {i j : Nat} (hij : i < j) (hj : j < b.Tiles.length) : (b.Tiles[i]'(by omega)).Name ≠ b.Tiles[j].Name:=by have:=okSet_tname h hj;rw [List.any_eq_false] at this;have:=this (b.Tiles[i]'(by omega)) (List.mem_take_iff_getElem.2 ⟨i,by omega,rfl⟩);simpa using this
theorem gIdx_self {b : TileSet} (h : okSet b = true) {j : Nat} (hj : j < b.Glues.length) : gIdx b.Glues b.Glues[j].Name = (j : Int):=by unfold gIdx;exact vIdx_hit _ _ j hj (fun i hi hlt => by have:=gname_ne h hlt hj;simpa using this) (by simp)
theorem tIdx_self {b : TileSet} (h : okSet b = true) {j : Nat} (hj : j < b.Tiles.length) : tIdx b.Tiles b.Tiles[j].Name = (j : Int):=by unfold tIdx;exact vIdx_hit _ _ j hj (fun i hi hlt => by have:=tname_ne h hlt hj;simpa using this) (by simp)
/-! a set merged with itself -/
theorem newG_self {a : TileSet} (h : okSet a = true) : newG a a.Glues = []:=by unfold newG;rw [List.filter_eq_nil_iff];intro g hg;obtain ⟨j,hj,rfl⟩:=List.getElem_of_mem hg;rw [gIdx_self h hj];simp only [decide_eq_true_eq];omega
theorem outG_self {a : TileSet} (h : okSet a = true) : outG a a = a.Glues:=by unfold outG;rw [newG_self h,List.append_nil]
theorem mgN_self {a : TileSet} (h : okSet a = true) {g : Int} (h0 : 0 ≤ g) (h1 : g ≤ a.Glues.length) : mgN a.Glues a.Glues g = g:=by
  unfold mgN;split
  · rename_i hg;obtain ⟨n,rfl⟩ : ∃ n : Nat,g = (n : Int) + 1:=⟨(g - 1).toNat,by omega⟩
    have hn : n < a.Glues.length:=(by omega);rw [show ((n : Int) + 1 - 1).toNat = n by omega,List.getD_eq_getElem?_getD,List.getElem?_eq_getElem hn];show gIdx a.Glues a.Glues[n].Name + 1 = _;rw [gIdx_self h hn]
  · omega
theorem mrgT_self {a : TileSet} (h : okSet a = true) {j : Nat} (hj : j < a.Tiles.length) : mrgT a a a.Tiles[j] = a.Tiles[j]:=by
  unfold mrgT;have h2 : mgS (outG a a) a.Glues a.Tiles[j].Sides = a.Tiles[j].Sides:=by
    unfold mgS;rw [outG_self h];have h3 : ∀ x,x ∈ a.Tiles[j].Sides → mgN a.Glues a.Glues x = x:=fun x hx => by have:=okSet_side h hj x hx;exact mgN_self h this.1 this.2
    rw [List.map_congr_left h3,List.map_id''];exact fun _ => rfl
  rw [h2]
theorem outS_self {a : TileSet} (h : okSet a = true) : outS a a = a:=by have h1 : newT a a a.Tiles = []:=(by unfold newT;rw [List.map_eq_nil_iff,List.filter_eq_nil_iff];intro t ht;obtain ⟨j,hj,rfl⟩:=List.getElem_of_mem ht;rw [tIdx_self h hj];simp only [decide_eq_true_eq];omega);unfold outS;rw [h1,outG_self h,List.append_nil]
theorem clash_self {a : TileSet} (h : okSet a = true) : clash a a = false:=by have h1 : a.Glues.any (clG a) = false:=(by rw [List.any_eq_false];intro g hg;obtain ⟨j,hj,rfl⟩:=List.getElem_of_mem hg;unfold clG;rw [gIdx_self h hj,Int.toNat_natCast,List.getD_eq_getElem?_getD,List.getElem?_eq_getElem hj];simp);have h2 : a.Tiles.any (clT a a) = false:=(by rw [List.any_eq_false];intro t ht;obtain ⟨j,hj,rfl⟩:=List.getElem_of_mem ht;unfold clT;rw [tIdx_self h hj,mrgT_self h hj,Int.toNat_natCast,List.getD_eq_getElem?_getD,List.getElem?_eq_getElem hj];simp);unfold clash;rw [h1,h2];rfl
theorem merge_self {a : TileSet} (h : okSet a = true) : MergeSetsR a a = a ∧ MergeSetsC a a = 0:=by unfold MergeSetsR MergeSetsC;rw [clash_self h,outS_self h,h];exact ⟨rfl,rfl⟩
/-! glues that are used -/
theorem trimGi_pre (a : TileSet) {i j : Nat} (h : i ≤ j) : ∃ r,trimGi a j = trimGi a i ++ r:=by obtain ⟨d,rfl⟩:=Nat.exists_eq_add_of_le h;unfold trimGi;rw [List.range_add,List.filterMap_append];exact ⟨_,rfl⟩
theorem trimG_at {a : TileSet} {k : Nat} (hk : k < a.Glues.length) (hh : hasS a.Tiles ((k : Int) + 1) = true) : (trimGi a a.Glues.length)[(trimGi a k).length]? = some a.Glues[k]:=by obtain ⟨r,hr⟩:=trimGi_pre a (show k + 1 ≤ a.Glues.length from hk);rw [hr,trimGi_next hk,hh,if_pos rfl,List.append_assoc,List.getElem?_append_right (Nat.le_refl _),Nat.sub_self];rfl
theorem trimG_inv {a : TileSet} : ∀ i,i ≤ a.Glues.length → ∀ m,m < (trimGi a i).length → ∃ k,∃ hk : k < a.Glues.length,k < i ∧ hasS a.Tiles ((k : Int) + 1) = true ∧ (trimGi a k).length = m ∧ (trimGi a i)[m]? = some a.Glues[k]
  | 0,_,m,hm => by simp [trimGi] at hm
  | i + 1,hi,m,hm => by
    have e:=trimGi_next (a:=a) (show i < a.Glues.length by omega);cases hh : hasS a.Tiles ((i : Int) + 1) with
    | false => rw [hh,if_neg (by simp),List.append_nil] at e;rw [e] at hm ⊢;obtain ⟨k,hk,h1,h2,h3,h4⟩:=trimG_inv i (by omega) m hm;exact ⟨k,hk,by omega,h2,h3,h4⟩
    | true =>
      rw [hh,if_pos rfl] at e;rw [e] at hm ⊢;by_cases hlt : m < (trimGi a i).length
      · obtain ⟨k,hk,h1,h2,h3,h4⟩:=trimG_inv i (by omega) m hlt;exact ⟨k,hk,by omega,h2,h3,by rw [List.getElem?_append_left hlt];exact h4⟩
      · simp only [List.length_append,List.length_cons,List.length_nil] at hm;obtain rfl : m = (trimGi a i).length:=by omega
        exact ⟨i,by omega,by omega,hh,rfl,by rw [List.getElem?_append_right (Nat.le_refl _),Nat.sub_self];rfl⟩
theorem trimG_lt {a : TileSet} {k l : Nat} (hk : k < a.Glues.length) (hh : hasS a.Tiles ((k : Int) + 1) = true) (hkl : k < l) : (trimGi a k).length < (trimGi a l).length:=by obtain ⟨r,hr⟩:=trimGi_pre a (show k + 1 ≤ l from hkl);rw [hr,trimGi_next hk,hh,if_pos rfl];simp only [List.length_append,List.length_cons,List.length_nil];omega
theorem trimG_name {a : TileSet} (h : okSet a = true) {k m : Nat} (hk : k < a.Glues.length) (hm : m < (trimGi a a.Glues.length).length) (hlt : m < (trimGi a k).length) : (trimGi a a.Glues.length)[m].Name ≠ a.Glues[k].Name:=by
  obtain ⟨l,hl,h1,h2,h3,h4⟩:=trimG_inv a.Glues.length (Nat.le_refl _) m hm;rw [List.getElem?_eq_getElem hm] at h4;rw [Option.some.inj h4];have : l < k:=by
    by_cases hlk : l < k
    · exact hlk
    · exfalso;obtain ⟨r,hr⟩:=trimGi_pre a (show k ≤ l by omega);have:=congrArg List.length hr;rw [List.length_append] at this;omega
  exact gname_ne h this hk
theorem trimG_idx {a : TileSet} (h : okSet a = true) {k : Nat} (hk : k < a.Glues.length) (hh : hasS a.Tiles ((k : Int) + 1) = true) : gIdx (trimGi a a.Glues.length) a.Glues[k].Name = ((trimGi a k).length : Int):=by have h1:=trimG_at hk hh;obtain ⟨hl,h2⟩:=List.getElem?_eq_some_iff.1 h1;unfold gIdx;exact vIdx_hit _ _ _ hl (fun i hi hlt => by have:=trimG_name h hk hi hlt;simpa using this) (by rw [h2];simp)
def usedS (a : TileSet) (s : Int) : Prop:=s = 0 ∨ ∃ k : Nat,∃ _ : k < a.Glues.length,s = (k : Int) + 1 ∧ hasS a.Tiles ((k : Int) + 1) = true
theorem used_of {a : TileSet} (h : okSet a = true) {j : Nat} (hj : j < a.Tiles.length) {s : Int} (hs : s ∈ a.Tiles[j].Sides) : usedS a s:=by
  have h1:=okSet_side h hj s hs;by_cases h0 : s = 0
  · exact .inl h0
  · refine .inr ⟨(s - 1).toNat,by omega,by omega,?_⟩;rw [show (((s - 1).toNat : Nat) : Int) + 1 = s by omega];unfold hasS;rw [List.any_eq_true];exact ⟨_,List.getElem_mem hj,List.any_eq_true.2 ⟨s,hs,by simp⟩⟩
theorem mgN_now {a : TileSet} (h : okSet a = true) {s : Int} (hs : usedS a s) : mgN (trimGi a a.Glues.length) a.Glues s = nowS a s:=by
  rcases hs with rfl | ⟨k,hk,rfl,hh⟩
  · rw [nowS_zero];unfold mgN;rw [if_neg (by omega)]
  · rw [nowS_hit hk hh];unfold mgN;rw [if_pos (by omega),show ((k : Int) + 1 - 1).toNat = k by omega,List.getD_eq_getElem?_getD,List.getElem?_eq_getElem hk];show gIdx (trimGi a a.Glues.length) a.Glues[k].Name + 1 = _;rw [trimG_idx h hk hh];omega
theorem mgS_trim {a : TileSet} (h : okSet a = true) {j : Nat} (hj : j < a.Tiles.length) : mgS (trimGi a a.Glues.length) a.Glues a.Tiles[j].Sides = trimSd a a.Tiles[j]:=by unfold mgS trimSd;exact List.map_congr_left (fun x hx => mgN_now h (used_of h hj hx))
theorem nowS_inj {a : TileSet} {s u : Int} (hs : usedS a s) (hu : usedS a u) : nowS a s = nowS a u ↔ s = u:=by
  refine ⟨fun e => ?_,fun e => by rw [e]⟩;rcases hs with rfl | ⟨k,hk,rfl,hh⟩ <;> rcases hu with rfl | ⟨l,hl,rfl,hg⟩
  · rfl
  · rw [nowS_zero,nowS_hit hl hg] at e;omega
  · rw [nowS_zero,nowS_hit hk hh] at e;omega
  · rw [nowS_hit hk hh,nowS_hit hl hg] at e;rcases Nat.lt_trichotomy k l with h1 | h1 | h1
    · have:=trimG_lt hk hh h1;omega
    · rw [h1]
    · have:=trimG_lt hl hg h1;omega
theorem nowS_used {a : TileSet} {s : Int} (hs : usedS a s) : 0 ≤ nowS a s ∧ nowS a s ≤ (trimGi a a.Glues.length).length:=by
  rcases hs with rfl | ⟨k,hk,rfl,hh⟩
  · rw [nowS_zero];omega
  · rw [nowS_hit hk hh];have:=trimG_lt hk hh hk;omega
/-! tiles with equal sides -/
structure TrInv (a : TileSet) (i : Nat) (p : List Tile × List Int) : Prop where
  len : p.2.length = i
  at_ : ∀ k,∀ hk : k < a.Tiles.length,k < i → ∃ m : Nat,∃ hm : m < p.1.length,p.2[k]? = some (m : Int) ∧ p.1[m].Sides = trimSd a a.Tiles[k]
  fr : ∀ m,∀ hm : m < p.1.length,∃ k,∃ hk : k < a.Tiles.length,k < i ∧ p.1[m] = ⟨a.Tiles[k].Name,trimSd a a.Tiles[k]⟩
  sd : ∀ x y,∀ hy : y < p.1.length,∀ hx : x < y,(p.1[x]'(by omega)).Sides ≠ p.1[y].Sides
  nm : ∀ x y,∀ hy : y < p.1.length,∀ hx : x < y,(p.1[x]'(by omega)).Name ≠ p.1[y].Name
  le : p.1.length ≤ i
  ne : 0 < i → 0 < p.1.length
theorem tr_inv {a : TileSet} (h : okSet a = true) : ∀ i,i ≤ a.Tiles.length → TrInv a i (trimSt a i)
  | 0,_ => ⟨rfl,fun _ _ hk => absurd hk (by omega),fun m hm => absurd hm (by simp [trimSt]),fun _ y hy => absurd hy (by simp [trimSt]),fun _ y hy => absurd hy (by simp [trimSt]),by simp [trimSt],fun h0 => absurd h0 (by omega)⟩
  | i + 1,hi => by
    have I:=tr_inv h i (by omega);have hlt : i < a.Tiles.length:=(by omega);rw [trimSt_next hlt];generalize trimSt a i = p at I;unfold trimStep;rcases likeI_cases p.1 (trimSd a a.Tiles[i]) with ⟨n,hn,e1,e2⟩ | ⟨e1,e2⟩
    · rw [e1,if_pos (by omega)];refine ⟨by simp only [List.length_append,I.len,List.length_cons,List.length_nil],fun k hk hki => ?_,fun m hm => ?_,I.sd,I.nm,by have:=I.le;show p.1.length ≤ i + 1;omega,fun _ => by show 0 < p.1.length;omega⟩
      · by_cases hk2 : k < i
        · obtain ⟨m,hm,g1,g2⟩:=I.at_ k hk hk2;exact ⟨m,hm,by show (p.2 ++ _)[k]? = _;rw [List.getElem?_append_left (by rw [I.len];exact hk2)];exact g1,g2⟩
        · obtain rfl : k = i:=(by omega);exact ⟨n,hn,by show (p.2 ++ _)[k]? = _;rw [List.getElem?_append_right (by rw [I.len];omega),I.len,Nat.sub_self];rfl,e2⟩
      · obtain ⟨k,hk,g1,g2⟩:=I.fr m hm;exact ⟨k,hk,by omega,g2⟩
    · rw [e1,if_neg (by omega)];have hl : (p.1 ++ [(⟨a.Tiles[i].Name,trimSd a a.Tiles[i]⟩ : Tile)]).length = p.1.length + 1:=by simp
      have old : ∀ m,∀ hm : m < p.1.length,(p.1 ++ [(⟨a.Tiles[i].Name,trimSd a a.Tiles[i]⟩ : Tile)])[m]'(by omega) = p.1[m]:=fun m hm => List.getElem_append_left hm;have new : (p.1 ++ [(⟨a.Tiles[i].Name,trimSd a a.Tiles[i]⟩ : Tile)])[p.1.length]'(by omega) = ⟨a.Tiles[i].Name,trimSd a a.Tiles[i]⟩:=(by rw [List.getElem_append_right (Nat.le_refl _)];simp);refine ⟨by simp only [List.length_append,I.len,List.length_cons,List.length_nil],fun k hk hki => ?_,fun m hm => ?_,fun x y hy hx => ?_,fun x y hy hx => ?_,by have:=I.le;show (p.1 ++ _).length ≤ _;omega,fun _ => by show 0 < (p.1 ++ _).length;omega⟩
      · by_cases hk2 : k < i
        · obtain ⟨m,hm,g1,g2⟩:=I.at_ k hk hk2;refine ⟨m,by show m < (p.1 ++ _).length;omega,by show (p.2 ++ _)[k]? = _;rw [List.getElem?_append_left (by rw [I.len];exact hk2)];exact g1,?_⟩;show ((p.1 ++ [(⟨a.Tiles[i].Name,trimSd a a.Tiles[i]⟩ : Tile)])[m]'_).Sides = _;rw [old m hm];exact g2
        · obtain rfl : k = i:=(by omega);refine ⟨p.1.length,by show p.1.length < (p.1 ++ _).length;omega,by show (p.2 ++ _)[k]? = _;rw [List.getElem?_append_right (by rw [I.len];omega),I.len,Nat.sub_self];rfl,?_⟩;show ((p.1 ++ [(⟨a.Tiles[k].Name,trimSd a a.Tiles[k]⟩ : Tile)])[p.1.length]'_).Sides = _;rw [new]
      · replace hm : m < (p.1 ++ [(⟨a.Tiles[i].Name,trimSd a a.Tiles[i]⟩ : Tile)]).length:=hm
        show ∃ k,∃ hk : k < a.Tiles.length,k < i + 1 ∧ (p.1 ++ [(⟨a.Tiles[i].Name,trimSd a a.Tiles[i]⟩ : Tile)])[m] = _;by_cases hm2 : m < p.1.length
        · obtain ⟨k,hk,g1,g2⟩:=I.fr m hm2;exact ⟨k,hk,by omega,by rw [old m hm2];exact g2⟩
        · obtain rfl : m = p.1.length:=(by omega);exact ⟨i,hlt,by omega,new⟩
      · replace hy : y < (p.1 ++ [(⟨a.Tiles[i].Name,trimSd a a.Tiles[i]⟩ : Tile)]).length:=hy
        show ((p.1 ++ [(⟨a.Tiles[i].Name,trimSd a a.Tiles[i]⟩ : Tile)])[x]'_).Sides ≠ ((p.1 ++ [(⟨a.Tiles[i].Name,trimSd a a.Tiles[i]⟩ : Tile)])[y]'_).Sides;by_cases hy2 : y < p.1.length
        · rw [old x (by omega),old y hy2];exact I.sd x y hy2 hx
        · obtain rfl : y = p.1.length:=(by omega);rw [old x hx,new];exact e2 _ (List.getElem_mem _)
      · replace hy : y < (p.1 ++ [(⟨a.Tiles[i].Name,trimSd a a.Tiles[i]⟩ : Tile)]).length:=hy
        show ((p.1 ++ [(⟨a.Tiles[i].Name,trimSd a a.Tiles[i]⟩ : Tile)])[x]'_).Name ≠ ((p.1 ++ [(⟨a.Tiles[i].Name,trimSd a a.Tiles[i]⟩ : Tile)])[y]'_).Name;by_cases hy2 : y < p.1.length
        · rw [old x (by omega),old y hy2];exact I.nm x y hy2 hx
        · obtain rfl : y = p.1.length:=(by omega);rw [old x hx,new];obtain ⟨k,hk,g1,g2⟩:=I.fr x hx;rw [g2];exact tname_ne h g1 hlt
theorem trimR_of {a : TileSet} (h : okSet a = true) : trimR a = ⟨trimGi a a.Glues.length,(trimSt a a.Tiles.length).1⟩:=by unfold trimR;rw [h];rfl
theorem trimA_of {a : TileSet} (h : okSet a = true) : trimA a = (trimSt a a.Tiles.length).2:=by unfold trimA;rw [h];rfl
theorem trim_ok {a : TileSet} (h : okSet a = true) : okSet (trimR a) = true:=by
  have I:=tr_inv h a.Tiles.length (Nat.le_refl _);have hl:=okSet_len h;rw [trimR_of h];generalize trimSt a a.Tiles.length = p at I;have hg:=trimGi_len a a.Glues.length;have h1:=I.le;have h2:=I.ne (by omega);unfold okSet;simp only [Bool.and_eq_true,decide_eq_true_eq,inR_iff,List.all_eq_true,List.mem_range];refine ⟨by omega,by omega,fun j hj => ?_,fun j hj => ?_⟩
  · rw [okG_at hj];obtain ⟨k,hk,g1,g2,g3,g4⟩:=trimG_inv a.Glues.length (Nat.le_refl _) j hj;rw [List.getElem?_eq_getElem hj] at g4;have g4:=Option.some.inj g4;have hs:=okSet_str h hk;simp only [Bool.and_eq_true,Bool.not_eq_true',inR_iff];refine ⟨by rw [g4];exact okSet_gn h hk,by rw [g4];exact hs,?_⟩;rw [List.any_eq_false];intro x hx;obtain ⟨i,hi,rfl⟩:=List.mem_take_iff_getElem.1 hx;rw [g4];have:=trimG_name h hk (m:=i) (by omega) (by omega);simpa using this
  · rw [okT_at hj];obtain ⟨k,hk,g1,g2⟩:=I.fr j hj;have h4:=okSet_sides4 h hk;simp only [Bool.and_eq_true,Bool.not_eq_true',decide_eq_true_eq];refine ⟨by rw [g2];exact okSet_tn h hk,by rw [g2];show (trimSd a _).length = 4;rw [trimSd_len,h4],?_,?_⟩
    · rw [List.any_eq_false];intro x hx;obtain ⟨i,hi,rfl⟩:=List.mem_take_iff_getElem.1 hx;have:=I.nm i j hj (by omega);simpa using this
    · rw [List.all_eq_true];intro x hx;rw [g2] at hx;obtain ⟨y,hy,rfl⟩:=List.mem_map.1 hx;exact inR_iff.2 (nowS_used (used_of h hk hy))
theorem trim_has {a : TileSet} (h : okSet a = true) {m : Nat} (hm : m < (trimR a).Glues.length) : hasS (trimR a).Tiles ((m : Int) + 1) = true:=by have I:=tr_inv h a.Tiles.length (Nat.le_refl _);rw [trimR_of h] at hm ⊢;obtain ⟨k,hk,g1,g2,g3,g4⟩:=trimG_inv a.Glues.length (Nat.le_refl _) m hm;have g5:=g2;unfold hasS at g5;obtain ⟨t,ht,ht2⟩:=List.any_eq_true.1 g5;obtain ⟨x,hx,hx2⟩:=List.any_eq_true.1 ht2;have hx2:=of_decide_eq_true hx2;subst hx2;obtain ⟨q,hq,rfl⟩:=List.getElem_of_mem ht;obtain ⟨n,hn,_,e2⟩:=I.at_ q hq hq;unfold hasS;rw [List.any_eq_true];refine ⟨_,List.getElem_mem hn,?_⟩;rw [e2,List.any_eq_true];refine ⟨_,List.mem_map.2 ⟨_,hx,rfl⟩,?_⟩;rw [nowS_hit hk g2,decide_eq_true_eq];omega
theorem trim_gi {a : TileSet} (h : okSet a = true) : ∀ i,i ≤ (trimR a).Glues.length → trimGi (trimR a) i = (trimR a).Glues.take i
  | 0,_ => rfl
  | i + 1,hi => by rw [trimGi_next (by omega),trim_has h (by omega),trim_gi h i (by omega),if_pos rfl,List.take_succ_eq_append_getElem (by omega)]
theorem trim_now {a : TileSet} (h : okSet a = true) {s : Int} (h0 : 0 ≤ s) (h1 : s ≤ (trimR a).Glues.length) : nowS (trimR a) s = s:=by
  by_cases hz : s = 0
  · rw [hz,nowS_zero]
  · obtain ⟨k,rfl⟩ : ∃ k : Nat,s = (k : Int) + 1:=⟨(s - 1).toNat,by omega⟩
    have hk : k < (trimR a).Glues.length:=(by omega);rw [nowS_hit hk (trim_has h hk),trim_gi h k (by omega),List.length_take];omega
theorem trim_st {a : TileSet} (h : okSet a = true) : ∀ i,i ≤ (trimR a).Tiles.length → (trimSt (trimR a) i).1 = (trimR a).Tiles.take i
  | 0,_ => rfl
  | i + 1,hi => by
    have I:=tr_inv h a.Tiles.length (Nat.le_refl _);have hlt : i < (trimR a).Tiles.length:=(by omega);have hk:=trim_ok h;have hs : trimSd (trimR a) (trimR a).Tiles[i] = (trimR a).Tiles[i].Sides:=by
      unfold trimSd;have h3 : ∀ x,x ∈ (trimR a).Tiles[i].Sides → nowS (trimR a) x = x:=fun x hx => by have:=okSet_side hk hlt x hx;exact trim_now h this.1 this.2
      rw [List.map_congr_left h3,List.map_id''];exact fun _ => rfl
    have hne : likeI ((trimR a).Tiles.take i) (trimR a).Tiles[i].Sides = -1:=by
      rcases likeI_cases ((trimR a).Tiles.take i) (trimR a).Tiles[i].Sides with ⟨n,hn,e1,e2⟩ | ⟨e1,_⟩
      · exfalso;rw [List.length_take] at hn;rw [List.getElem_take] at e2;have hTl : (trimR a).Tiles = (trimSt a a.Tiles.length).1:=by rw [trimR_of h]
        simp only [hTl] at e2 hn;exact I.sd n i (by rw [← hTl];exact hlt) (by omega) e2
      · exact e1
    rw [trimSt_next hlt];unfold trimStep;rw [trim_st h i (by omega),hs,hne,if_neg (by omega),List.take_succ_eq_append_getElem hlt]
theorem trim_trim {a : TileSet} (h : okSet a = true) : trimR (trimR a) = trimR a:=by rw [trimR_of (trim_ok h),trim_gi h _ (Nat.le_refl _),trim_st h _ (Nat.le_refl _),List.take_length,List.take_length]
/-! bonds -/
theorem trim_due {a : TileSet} (h : okSet a = true) {i : Nat} (hi : i < a.Tiles.length) : ∃ m : Nat,m < (trimR a).Tiles.length ∧ (trimA a)[i]? = some (m : Int) ∧ ∀ d,d < 4 → sideN (trimR a) m d = nowS a (sideN a i d):=by have I:=tr_inv h a.Tiles.length (Nat.le_refl _);rw [trimR_of h,trimA_of h];obtain ⟨m,hm,e1,e2⟩:=I.at_ i hi hi;refine ⟨m,hm,e1,fun d hd => ?_⟩;have h4:=okSet_sides4 h hi;unfold sideN;rw [List.getD_eq_getElem?_getD (l:=(trimSt a a.Tiles.length).1),List.getElem?_eq_getElem hm,List.getD_eq_getElem?_getD (l:=a.Tiles),List.getElem?_eq_getElem hi];show (trimSt a a.Tiles.length).1[m].Sides.getD d 0 = nowS a (a.Tiles[i].Sides.getD d 0);have hd4 : d < a.Tiles[i].Sides.length:=(by omega);rw [e2,trimSd,List.getD_eq_getElem?_getD,List.getElem?_map,List.getD_eq_getElem?_getD,List.getElem?_eq_getElem hd4];rfl
theorem side_used {a : TileSet} (h : okSet a = true) {t d : Nat} (ht : t < a.Tiles.length) (hd : d < 4) : usedS a (sideN a t d) :=
  used_of h ht (List.mem_of_getElem? (side_at h ht hd))
theorem trim_str {a : TileSet} (h : okSet a = true) {s : Int} (hs : usedS a s) : gStr (trimR a) (nowS a s) = gStr a s:=by
  rcases hs with rfl | ⟨k,hk,rfl,hh⟩
  · rw [nowS_zero];rfl
  · rw [nowS_hit hk hh,trimR_of h];unfold gStr;rw [if_pos (by omega),if_pos (by omega),show ((((trimGi a k).length + 1 : Nat) : Int) - 1).toNat = (trimGi a k).length by omega,show ((k : Int) + 1 - 1).toNat = k by omega,List.getD_eq_getElem?_getD,List.getD_eq_getElem?_getD,List.getElem?_eq_getElem hk];show ((trimGi a a.Glues.length)[(trimGi a k).length]?.getD _).Strength = _;rw [trimG_at hk hh]
theorem trim_bond {a : TileSet} (h : okSet a = true) {i j d : Nat} (hi : i < a.Tiles.length) (hj : j < a.Tiles.length) (hd : d < 4) {m n : Nat} (hm : ∀ d,d < 4 → sideN (trimR a) m d = nowS a (sideN a i d)) (hn : ∀ d,d < 4 → sideN (trimR a) n d = nowS a (sideN a j d)) : bondN (trimR a) m d n = bondN a i d j:=by
  have hd2 : (d + 2) % 4 < 4:=Nat.mod_lt _ (by omega);unfold bondN;rw [hm d hd,hn _ hd2,trim_str h (side_used h hi hd)];by_cases e : sideN a i d = sideN a j ((d + 2) % 4)
  · rw [if_pos e,if_pos (by rw [e])]
  · rw [if_neg e,if_neg (fun e2 => e ((nowS_inj (side_used h hi hd) (side_used h hj hd2)).1 e2))]
end Go.Proofs.Ytoiaenkipdneeaa
