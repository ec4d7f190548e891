/- Laws that the proof stands on. -/
import Derived.Test.YtoiaenkipdneeaaZg10
import Derived.Test.YtoiaenkipdneeaaZg13
set_option linter.all false
namespace Go.Proofs.Ytoiaenkipdneeaa
open Go.RowKit Go.V
theorem vIdx_nil {α : Type} (p : α → Bool) : vIdx p [] = -1:=rfl
theorem vIdx_cons {α : Type} (p : α → Bool) (x : α) (xs : List α) : vIdx p (x :: xs) = if p x then 0 else (if vIdx p xs < 0 then -1 else vIdx p xs + 1):=by
  unfold vIdx;rw [List.findIdx?_cons];cases p x with
  | true => rfl
  | false =>
    cases xs.findIdx? p with
    | none => rfl
    | some k => simp only [Option.map_some,Bool.false_eq_true,if_false];rw [if_neg (by omega)];omega
theorem vIdx_ge {α : Type} (p : α → Bool) : ∀ xs : List α,-1 ≤ vIdx p xs
  | [] => by rw [vIdx_nil];omega
  | x :: xs => by
    have:=vIdx_ge p xs;rw [vIdx_cons];split
    · omega
    · split <;> omega
theorem vIdx_lt {α : Type} (p : α → Bool) : ∀ xs : List α,vIdx p xs < xs.length
  | [] => by rw [vIdx_nil];simp
  | x :: xs => by
    have:=vIdx_lt p xs;rw [vIdx_cons,List.length_cons];split
    · omega
    · split <;> omega
theorem vIdx_app_hit {α : Type} (p : α → Bool) (ys : List α) : ∀ xs : List α,0 ≤ vIdx p xs → vIdx p (xs ++ ys) = vIdx p xs
  | [],h => by rw [vIdx_nil] at h;omega
  | x :: xs,h => by
    rw [List.cons_append,vIdx_cons,vIdx_cons];rw [vIdx_cons] at h;split
    · rfl
    · rename_i hx;rw [if_neg hx] at h;have h1 : 0 ≤ vIdx p xs:=by
        by_cases h2 : vIdx p xs < 0
        · rw [if_pos h2] at h;omega
        · omega
      rw [vIdx_app_hit p ys xs h1]
theorem vIdx_app_miss {α : Type} (p : α → Bool) (y : α) (ys : List α) (hy : p y = true) : ∀ xs : List α,vIdx p xs < 0 → vIdx p (xs ++ y :: ys) = (xs.length : Int)
  | [],_ => by rw [List.nil_append,vIdx_cons,if_pos hy];rfl
  | x :: xs,h => by
    rw [vIdx_cons] at h;have hx : ¬ p x = true:=fun e => by rw [if_pos e] at h;omega
    rw [if_neg hx] at h;have h1 : vIdx p xs < 0:=by
      by_cases h2 : vIdx p xs < 0
      · exact h2
      · rw [if_neg h2] at h;omega
    have ih:=vIdx_app_miss p y ys hy xs h1;rw [List.cons_append,vIdx_cons,if_neg hx,ih,if_neg (by omega),List.length_cons];omega
def newG (a : TileSet) (bg : List Glue) : List Glue:=bg.filter fun g => decide (gIdx a.Glues g.Name < 0)
def outG (a b : TileSet) : List Glue:=a.Glues ++ newG a b.Glues
theorem newG_app (a : TileSet) (xs ys : List Glue) : newG a (xs ++ ys) = newG a xs ++ newG a ys:=List.filter_append ..
def mgN (gs bg : List Glue) (g : Int) : Int:=if 0 < g then gIdx gs (bg.getD (g - 1).toNat ⟨⟨#[]⟩,0⟩).Name + 1 else 0
def mgS (gs bg : List Glue) (s : List Int) : List Int:=s.map (mgN gs bg)
def mgP (gs bg : List Glue) (s : List Int) (k : Nat) : List Int:=(s.take k).map (mgN gs bg) ++ List.replicate (s.length - k) 0
theorem mgP_zero (gs bg : List Glue) (s : List Int) : mgP gs bg s 0 = List.replicate s.length 0:=by simp [mgP]
theorem mgP_end (gs bg : List Glue) (s : List Int) : mgP gs bg s s.length = mgS gs bg s:=by simp [mgP,mgS]
theorem mgP_len (gs bg : List Glue) {s : List Int} {k : Nat} (h : k ≤ s.length) : (mgP gs bg s k).length = s.length:=by simp only [mgP,List.length_append,List.length_map,List.length_take,List.length_replicate];omega
theorem mgP_set (gs bg : List Glue) {s : List Int} {k : Nat} (h : k < s.length) : (mgP gs bg s k).set k (mgN gs bg s[k]) = mgP gs bg s (k + 1):=by have hl : ((s.take k).map (mgN gs bg)).length = k:=(by rw [List.length_map,List.length_take];omega);have e : s.length - k = (s.length - (k + 1)) + 1:=(by omega);unfold mgP;rw [List.set_append_right _ _ (by omega),hl,Nat.sub_self,e,List.replicate_succ,List.set_cons_zero,List.take_succ_eq_append_getElem h,List.map_append,List.append_assoc];rfl
theorem mgP_skip (gs bg : List Glue) {s : List Int} {k : Nat} (h : k < s.length) (h0 : ¬ 0 < s[k]) : mgP gs bg s k = mgP gs bg s (k + 1):=by have e : s.length - k = (s.length - (k + 1)) + 1:=(by omega);have hn : mgN gs bg s[k] = 0:=(by unfold mgN;rw [if_neg h0]);unfold mgP;rw [e,List.replicate_succ,List.take_succ_eq_append_getElem h,List.map_append,List.append_assoc];show _ = _ ++ ([mgN gs bg s[k]] ++ _);rw [hn];rfl
def mrgT (a b : TileSet) (t : Tile) : Tile:=⟨t.Name,mgS (outG a b) b.Glues t.Sides⟩
def newT (a b : TileSet) (ts : List Tile) : List Tile:=(ts.filter fun t => decide (tIdx a.Tiles t.Name < 0)).map (mrgT a b)
def outS (a b : TileSet) : TileSet:=⟨outG a b,a.Tiles ++ newT a b b.Tiles⟩
def clG (a : TileSet) (g : Glue) : Bool:=decide (0 ≤ gIdx a.Glues g.Name) && !decide ((a.Glues.getD (gIdx a.Glues g.Name).toNat ⟨⟨#[]⟩,0⟩).Strength = g.Strength)
def clT (a b : TileSet) (t : Tile) : Bool:=decide (0 ≤ tIdx a.Tiles t.Name) && !decide ((a.Tiles.getD (tIdx a.Tiles t.Name).toNat ⟨⟨#[]⟩,[]⟩).Sides = (mrgT a b t).Sides)
def clash (a b : TileSet) : Bool:=b.Glues.any (clG a) || b.Tiles.any (clT a b)
def MergeSetsR (a b : TileSet) : TileSet:=if okSet a && okSet b then (if clash a b then ⟨[],[]⟩ else if okSet (outS a b) then outS a b else ⟨[],[]⟩) else ⟨[],[]⟩
def MergeSetsC (a b : TileSet) : Int:=if okSet a && okSet b then (if clash a b then 7 else if okSet (outS a b) then 0 else 4) else 1
theorem newT_app (a b : TileSet) (xs ys : List Tile) : newT a b (xs ++ ys) = newT a b xs ++ newT a b ys:=by unfold newT;rw [List.filter_append,List.map_append]
theorem newG_next {a : TileSet} {xs : List Glue} {i : Nat} (h : i < xs.length) : newG a (xs.take (i + 1)) = if gIdx a.Glues xs[i].Name < 0 then newG a (xs.take i) ++ [xs[i]] else newG a (xs.take i):=by
  rw [List.take_succ_eq_append_getElem h,newG_app];unfold newG;split
  · rename_i h1;rw [List.filter_cons_of_pos (by simpa using h1)];rfl
  · rename_i h1;rw [List.filter_cons_of_neg (by simpa using h1)];simp
theorem newT_next {a b : TileSet} {xs : List Tile} {i : Nat} (h : i < xs.length) : newT a b (xs.take (i + 1)) = if tIdx a.Tiles xs[i].Name < 0 then newT a b (xs.take i) ++ [mrgT a b xs[i]] else newT a b (xs.take i):=by
  rw [List.take_succ_eq_append_getElem h,newT_app];unfold newT;split
  · rename_i h1;rw [List.filter_cons_of_pos (by simpa using h1)];rfl
  · rename_i h1;rw [List.filter_cons_of_neg (by simpa using h1)];simp
theorem newG_len (a : TileSet) (xs : List Glue) : (newG a xs).length ≤ xs.length:=List.length_filter_le ..
theorem newT_len (a b : TileSet) (xs : List Tile) : (newT a b xs).length ≤ xs.length:=by unfold newT;rw [List.length_map];exact List.length_filter_le ..
theorem mgS_len (gs bg : List Glue) (s : List Int) : (mgS gs bg s).length = s.length:=List.length_map ..
theorem outS_B {a b : TileSet} (ha : setB a) (hb : setB b) (h1 : okSet a = true) (h2 : okSet b = true) : setB (outS a b):=by
  have l1:=okSet_len h1;have l2:=okSet_len h2;have l3:=newG_len a b.Glues;have l4:=newT_len a b b.Tiles;refine ⟨?_,?_,fun x hx => ?_,fun x hx => ?_,fun x hx => ?_⟩
  · show (a.Glues ++ newG a b.Glues).length ≤ _;rw [List.length_append];omega
  · show (a.Tiles ++ newT a b b.Tiles).length ≤ _;rw [List.length_append];omega
  · rcases List.mem_append.1 hx with hx | hx
    · exact ha.gn x hx
    · exact hb.gn x (List.mem_filter.1 hx).1
  · rcases List.mem_append.1 hx with hx | hx
    · exact ha.tn x hx
    · obtain ⟨y,hy,rfl⟩:=List.mem_map.1 hx;exact hb.tn y (List.mem_filter.1 hy).1
  · rcases List.mem_append.1 hx with hx | hx
    · exact ha.ts x hx
    · obtain ⟨y,hy,rfl⟩:=List.mem_map.1 hx;have:=hb.ts y (List.mem_filter.1 hy).1;show (mgS _ _ y.Sides).length ≤ _;rw [mgS_len];exact this
end Go.Proofs.Ytoiaenkipdneeaa
