/- Laws that the proof stands on. -/
import Derived.Test.YtjkbngjiagknkaaGreatDoorZg17
import Derived.Test.YtjkbngjiagknkaaGreatDoorZg15
import Derived.Shelf.Strconv.ParseIntPublic10
import Derived.Test.YtjkbngjiagknkaaGreatDoorZg5
import Derived.WalkKit
import Derived.BigCall
import Derived.BigGuard
import Derived.Test.YtjkbngjiagknkaaGreatDoorZVTab
set_option linter.all false
namespace Go.Proofs.YtjkbngjiagknkaaGreatDoor
open Go.RowKit Go.V
set_option maxRecDepth 100000
theorem len3 {w:List ByteArray} (h:w.length=3):∃ a b c,w=[a,b,c]:=by
  match w,h with
  | [a,b,c],_=>exact ⟨a,b,c,rfl⟩
theorem len6 {w:List ByteArray} (h:w.length=6):∃ a b c d e f,w=[a,b,c,d,e,f]:=by
  match w,h with
  | [a,b,c,d,e,f],_=>exact ⟨a,b,c,d,e,f,rfl⟩
structure Wd (L:List (List D)) (ws:List ByteArray):Prop where
  len:L.length=ws.length
  at':∀ (k:Nat) (h:k < ws.length),L[Int.toNat (k:Int)]?=some [.v (.string ws[k])]
  lt:∀ (k:Nat),k < ws.length→((k:Int) < (L.length:Int))=True
theorem wd_map (ws:List ByteArray):Wd (ws.map rS) ws where
  len:=by simp
  at':=fun k h=>by rw [Int.toNat_natCast,List.getElem?_map,List.getElem?_eq_getElem h];rfl
  lt:=fun k h=>by rw [List.length_map];exact eq_true (by omega)
structure Nd (L:List (List D)) (ns:List Int):Prop where
  len:L.length=ns.length
  at':∀ (k:Nat) (h:k < ns.length),L[Int.toNat (k:Int)]?=some [.v (.int .i64 ns[k])]
  lt:∀ (k:Nat),k < ns.length→((k:Int) < (L.length:Int))=True
  imm:immLL L=L
theorem rdFold_app {α:Type} (st:Nat→α→ByteArray→Except Int α):∀ (l1 l2:List ByteArray) (k:Nat) (a:α),rdFold st (l1++l2) k a=match rdFold st l1 k a with
    | .ok a'=>rdFold st l2 (k+l1.length) a'
    | .error e=>.error e
  | [],l2,k,a=>by simp [rdFold]
  | x::l1,l2,k,a=>by
    simp only [List.cons_append,rdFold];cases h:st k a x with
    | error c=>rfl
    | ok a'=>simp only;rw [rdFold_app st l1 l2 (k+1) a',List.length_cons,show k+1+l1.length=k+(l1.length+1) by omega]
theorem rdFold_ok {α:Type} {st:Nat→α→ByteArray→Except Int α} {ls:List ByteArray} {i:Nat} {a0 a a':α} (h:i < ls.length) (h1:rdFold st (ls.take i) 0 a0=.ok a) (h2:st i a ls[i]=.ok a'):rdFold st (ls.take (i+1)) 0 a0=.ok a':=by rw [List.take_succ,List.getElem?_eq_getElem h,rdFold_app,h1];simp only [Option.toList,rdFold];rw [List.length_take,show 0+min i ls.length=i by omega,h2]
theorem rdFold_err {α:Type} {st:Nat→α→ByteArray→Except Int α} {ls:List ByteArray} {i:Nat} {a0 a:α} {c:Int} (h:i < ls.length) (h1:rdFold st (ls.take i) 0 a0=.ok a) (h2:st i a ls[i]=.error c):rdFold st ls 0 a0=.error (i+1,c):=by have e:ls=ls.take i++(ls[i]::ls.drop (i+1)):=(by rw [List.getElem_cons_drop,List.take_append_drop]);rw [e,rdFold_app,h1];simp only [rdFold];rw [List.length_take,show 0+min i ls.length=i by omega,h2]
def set0:TileSet:=⟨[],[]⟩
def sGlue:ByteArray:=⟨⟨[103,108,117,101]⟩⟩
def sTile:ByteArray:=⟨⟨[116,105,108,101]⟩⟩
def sBar:ByteArray:=⟨⟨[45]⟩⟩
def sideR (bar:Bool) (gs:List Glue) (w:ByteArray):Option Int :=
  if (bar&&decide (w=sBar))=true then some 0
  else if gIdx gs w+1=0∧w≠sBar then none else some (gIdx gs w+1)
def sidesR (bar:Bool) (gs:List Glue):List ByteArray→Option (List Int)
  | []=>some []
  | w :: ws=>match sideR bar gs w with
    | none=>none
    | some g=>match sidesR bar gs ws with
      | none=>none
      | some l=>some (g::l)
def rsGlue (s:TileSet):List ByteArray→Except Int TileSet
  | [_,w1,w2]=>if s.Tiles.length=0 then (match readD w2 with
    | none=>.error 6
    | some n=>.ok ⟨s.Glues++[⟨w1,n⟩],s.Tiles⟩) else .error 6
  | _=>.error 6
def rsTile (bar:Bool) (s:TileSet):List ByteArray→Except Int TileSet
  | [_,w1,a,b,c,d]=>(match sidesR bar s.Glues [a,b,c,d] with
    | none=>.error 3
    | some l=>.ok ⟨s.Glues,s.Tiles++[⟨w1,l⟩]⟩)
  | _=>.error 6
def rsLine (bar:Bool) (s:TileSet) (w:List ByteArray):Except Int TileSet:=match w with
  | []=>.error 6
  | w0::_=>if w0=sGlue then rsGlue s w else if w0=sTile then rsTile bar s w else .error 6
def rsSt (bar:Bool) (_:Nat) (s:TileSet) (l:ByteArray):Except Int TileSet:=rsLine bar s (wordsB l)
def ReadSetB (bar:Bool) (b:ByteArray):TileSet × Int × Int:=if 20000 < b.size then (set0,0,2) else match rdFold (rsSt bar) (linesB b) 0 set0 with
  | .error (k,c)=>(set0,(k:Int),c)
  | .ok s=>if okSet s then (s,0,0) else (set0,0,1)
/-! Both makers read the same, though the reference takes - for a glue's name where it is one. -/
def barred (gs:List Glue):Bool:=gs.any (fun g=>decide (g.Name=sBar))
structure RsRel (s t:TileSet):Prop where
  gl:s.Glues=t.Glues
  tl:s.Tiles.length=t.Tiles.length
  eq:barred s.Glues=false→s=t
theorem barred_idx {gs:List Glue} (h:barred gs=false):gIdx gs sBar = -1:=by
  unfold gIdx vIdx;have:gs.findIdx? (fun g:Glue=>decide (g.Name=sBar))=none:=by rw [List.findIdx?_eq_none_iff];intro x hx;unfold barred at h;rw [List.any_eq_false] at h;simpa using h x hx
  rw [this]
theorem sideR_bar {gs:List Glue} (w:ByteArray) (h:barred gs=false):sideR true gs w=sideR false gs w:=by
  unfold sideR;by_cases hw:w=sBar
  · subst hw;rw [barred_idx h];rfl
  · rw [decide_eq_false hw];rfl
theorem sideR_some {gs:List Glue} (w:ByteArray):(sideR true gs w).isSome=(sideR false gs w).isSome:=by
  unfold sideR;by_cases hw:w=sBar
  · subst hw;simp
  · rw [decide_eq_false hw];rfl
theorem sidesR_bar {gs:List Glue} (ws:List ByteArray) (h:barred gs=false):sidesR true gs ws=sidesR false gs ws:=by
  induction ws with
  | nil=>rfl
  | cons w ws ih=>unfold sidesR;rw [sideR_bar w h,ih]
theorem sidesR_some {gs:List Glue} (ws:List ByteArray):(sidesR true gs ws).isSome=(sidesR false gs ws).isSome:=by
  induction ws with
  | nil=>rfl
  | cons w ws ih =>
    unfold sidesR;have h1:=sideR_some (gs:=gs) w;cases ha:sideR true gs w with
    | none =>
      cases hb:sideR false gs w with
      | none=>rfl
      | some y=>rw [ha,hb] at h1;cases h1
    | some x =>
      cases hb:sideR false gs w with
      | none=>rw [ha,hb] at h1;cases h1
      | some y =>
        simp only;cases hc:sidesR true gs ws with
        | none =>
          cases hd:sidesR false gs ws with
          | none=>rfl
          | some l=>rw [hc,hd] at ih;cases ih
        | some l =>
          cases hd:sidesR false gs ws with
          | none=>rw [hc,hd] at ih;cases ih
          | some l=>rfl
theorem barred_mono {gs:List Glue} (g:Glue) (h:barred (gs++[g])=false):barred gs=false:=by unfold barred at h ⊢;rw [List.any_append,Bool.or_eq_false_iff] at h;exact h.1
theorem rsLine_rel {s t:TileSet} (h:RsRel s t) (w:List ByteArray):(∃ c,rsLine true s w=.error c∧rsLine false t w=.error c)∨(∃ s' t',rsLine true s w=.ok s'∧rsLine false t w=.ok t'∧RsRel s' t'):=by
  unfold rsLine;cases w with
  | nil=>exact .inl ⟨6,rfl,rfl⟩
  | cons w0 ws =>
    simp only;by_cases hg:w0=sGlue
    · rw [if_pos hg,if_pos hg];unfold rsGlue;match ws with
      | [w1,w2] =>
        simp only;rw [h.tl];by_cases ht:t.Tiles.length=0
        · rw [if_pos ht,if_pos ht];cases hr:readD w2 with
          | none=>exact .inl ⟨6,rfl,rfl⟩
          | some n=>refine .inr ⟨_,_,rfl,rfl,⟨by rw [h.gl],h.tl,fun hb=>?_⟩⟩;have:=h.eq (barred_mono _ hb);rw [this]
        · rw [if_neg ht,if_neg ht];exact .inl ⟨6,rfl,rfl⟩
      | []=>exact .inl ⟨6,rfl,rfl⟩
      | [_]=>exact .inl ⟨6,rfl,rfl⟩
      | _::_::_::_=>exact .inl ⟨6,rfl,rfl⟩
    · rw [if_neg hg,if_neg hg];by_cases ht:w0=sTile
      · rw [if_pos ht,if_pos ht];unfold rsTile;match ws with
        | [w1,a,b,c,d] =>
          simp only;have h1:=sidesR_some (gs:=t.Glues) [a,b,c,d];rw [h.gl];cases hc:sidesR true t.Glues [a,b,c,d] <;> cases hd:sidesR false t.Glues [a,b,c,d] <;> rw [hc,hd] at h1 <;> first | (cases h1;done) | skip
          · exact .inl ⟨3,rfl,rfl⟩
          · refine .inr ⟨_,_,rfl,rfl,⟨rfl,by simp [h.tl],fun hb=>?_⟩⟩;have e:=h.eq (by rw [h.gl];exact hb);have e2:=sidesR_bar (gs:=t.Glues) [a,b,c,d] hb;rw [hc,hd] at e2;cases e2;rw [e]
        | []=>exact .inl ⟨6,rfl,rfl⟩
        | [_]=>exact .inl ⟨6,rfl,rfl⟩
        | [_,_]=>exact .inl ⟨6,rfl,rfl⟩
        | [_,_,_]=>exact .inl ⟨6,rfl,rfl⟩
        | [_,_,_,_]=>exact .inl ⟨6,rfl,rfl⟩
        | _::_::_::_::_::_::_=>exact .inl ⟨6,rfl,rfl⟩
      · rw [if_neg ht,if_neg ht];exact .inl ⟨6,rfl,rfl⟩
theorem rsFold_rel (ls:List ByteArray):∀ (i:Nat) (s t:TileSet),RsRel s t→(∃ e,rdFold (rsSt true) ls i s=.error e∧rdFold (rsSt false) ls i t=.error e)∨(∃ s' t',rdFold (rsSt true) ls i s=.ok s'∧rdFold (rsSt false) ls i t=.ok t'∧RsRel s' t'):=by
  induction ls with
  | nil=>intro i s t h;exact .inr ⟨_,_,rfl,rfl,h⟩
  | cons l ls ih =>
    intro i s t h;simp only [rdFold,rsSt];rcases rsLine_rel h (wordsB l) with ⟨c,h1,h2⟩ | ⟨s',t',h1,h2,h3⟩
    · rw [h1,h2];exact .inl ⟨_,rfl,rfl⟩
    · rw [h1,h2];exact ih (i+1) s' t' h3
theorem bar_name:isNameB sBar=false:=by
  have h:∀ c,c=sBar.size→chOK 0 (chAt sBar 0)=false:=fun _ _=>by decide
  exact name_no (i:=0) (by decide) (by decide)
theorem barred_bad {s:TileSet} (h:barred s.Glues=true):okSet s=false:=by unfold barred at h;rw [List.any_eq_true] at h;obtain ⟨g,hg,hn⟩:=h;obtain ⟨i,hi,rfl⟩:=List.getElem_of_mem hg;refine okSet_g hi ?_;rw [okG_at hi,of_decide_eq_true hn,bar_name];rfl
theorem readSet_same (b:ByteArray):ReadSetB true b=ReadSetB false b:=by
  unfold ReadSetB;split
  · rfl
  · rcases rsFold_rel (linesB b) 0 set0 set0 ⟨rfl,rfl,fun _=>rfl⟩ with ⟨e,h1,h2⟩ | ⟨s',t',h1,h2,h3⟩
    · rw [h1,h2]
    · rw [h1,h2];simp only;cases hb:barred s'.Glues with
      | false=>rw [h3.eq hb]
      | true=>rw [barred_bad hb,barred_bad (by rw [← h3.gl];exact hb)];rfl
def ReadSetR (b:ByteArray):TileSet × Int × Int:=ReadSetB true b
/-! Sizes. -/
structure RsB (M k:Nat) (s:TileSet):Prop where
  len:s.Glues.length+s.Tiles.length≤k
  gn:∀ g,g∈s.Glues→g.Name.size≤M ∧ -1000000000≤g.Strength∧g.Strength≤1000000000
  tn:∀ t,t∈s.Tiles→t.Name.size≤M∧t.Sides.length=4∧∀ x,x∈t.Sides→0≤x∧x≤k
theorem set0_B (M:Nat):RsB M 0 set0:=⟨Nat.le_refl _,(fun _ h=>by cases h),(fun _ h=>by cases h)⟩
theorem RsB.setB {M k:Nat} {s:TileSet} (h:RsB M k s) (hM:M≤1048576) (hk:k≤1048576):setB s:=by
  have:=h.len;refine ⟨by omega,by omega,fun x hx=>?_,fun x hx=>?_,fun x hx=>?_⟩
  · have:=(h.gn x hx).1;omega
  · have:=(h.tn x hx).1;omega
  · have:=(h.tn x hx).2.1;omega
theorem snoc_mem {α:Type} {l:List α} {x y:α} (h:x∈l++[y]):x∈l∨x=y:=by simpa using h
theorem gIdx_rng (gs:List Glue) (w:ByteArray):0≤gIdx gs w+1∧gIdx gs w+1≤gs.length:=by have h1:=vIdx_ge (fun x:Glue=>decide (x.Name=w)) gs;have h2:=vIdx_lt (fun x:Glue=>decide (x.Name=w)) gs;unfold gIdx;omega
theorem sideR_rng {bar:Bool} {gs:List Glue} {w:ByteArray} {g:Int} (h:sideR bar gs w=some g):0≤g∧g≤gs.length:=by
  unfold sideR at h;split at h
  · cases h;omega
  · split at h
    · cases h
    · cases h;exact gIdx_rng gs w
theorem sidesR_rng {bar:Bool} {gs:List Glue}:∀ {ws:List ByteArray} {l:List Int},sidesR bar gs ws=some l→l.length=ws.length∧∀ x,x∈l→0≤x∧x≤gs.length
  | [],l,h=>by cases h;exact ⟨rfl,fun _ h=>by cases h⟩
  | w :: ws,l,h=>by
    unfold sidesR at h;cases hr:sideR bar gs w with
    | none=>rw [hr] at h;cases h
    | some g =>
      rw [hr] at h;simp only at h;cases hs:sidesR bar gs ws with
      | none=>rw [hs] at h;cases h
      | some l' =>
        rw [hs] at h;cases h;obtain ⟨h1,h2⟩:=sidesR_rng hs;refine ⟨by simp [h1],fun x hx=>?_⟩;rcases List.mem_cons.1 hx with rfl | hx
        · exact sideR_rng hr
        · exact h2 x hx
theorem rsLine_B {bar:Bool} {M k:Nat} {s s':TileSet} {w:List ByteArray} (h:RsB M k s) (hw:∀ x,x∈w→x.size≤M) (e:rsLine bar s w=.ok s'):RsB M (k+1) s':=by
  have hl:=h.len;have up:∀ t,t∈s.Tiles→t.Name.size≤M∧t.Sides.length=4∧∀ x,x∈t.Sides→0≤x∧x≤((k+1:Nat):Int):=fun t ht=>by obtain ⟨a,b,c⟩:=h.tn t ht;exact ⟨a,b,fun x hx=>by have:=c x hx;omega⟩
  unfold rsLine at e;split at e
  · cases e
  · split at e
    · unfold rsGlue at e;split at e
      · rename_i w1 w2 heq;split at e
        · split at e
          · cases e
          · rename_i n hr;cases e;exact ⟨by simp only [List.length_append,List.length_cons,List.length_nil];omega,fun g hg=>by
              rcases snoc_mem hg with hg | rfl
              · exact h.gn g hg
              · exact ⟨hw _ (by simp_all),(readD_iff.1 hr).1⟩,up⟩
        · cases e
      · cases e
    · split at e
      · unfold rsTile at e;split at e
        · split at e
          · cases e
          · rename_i l hs;cases e;obtain ⟨h1,h2⟩:=sidesR_rng hs;exact ⟨by simp only [List.length_append,List.length_cons,List.length_nil];omega,h.gn,fun t ht=>by
              rcases snoc_mem ht with ht | rfl
              · exact up t ht
              · exact ⟨hw _ (by simp_all),h1,fun x hx=>by have:=h2 x hx;omega⟩⟩
        · cases e
      · cases e
theorem rsFold_B {bar:Bool} {M:Nat} (ls:List ByteArray):∀ (i:Nat) (s s':TileSet),(∀ l,l∈ls→l.size≤M)→RsB M i s→rdFold (rsSt bar) ls i s=.ok s'→RsB M (i+ls.length) s':=by
  induction ls with
  | nil=>intro i s s' _ h e;cases e;exact h
  | cons l ls ih =>
    intro i s s' hs h e;simp only [rdFold,rsSt] at e;cases hr:rsLine bar s (wordsB l) with
    | error c=>rw [hr] at e;cases e
    | ok y=>rw [hr] at e;have k:=rsLine_B h (fun x hx=>by have:=wordsB_size hx;have:=hs l (by simp);omega) hr;have:=ih (i+1) y s' (fun l hl=>hs l (by simp [hl])) k e;rw [List.length_cons,show i+(ls.length+1)=i+1+ls.length by omega];exact this
theorem c_ParseInt (b:ByteArray) (hb:b.size≤1048576) (w:World) (I:Nat→Prop) (hG:GI TabG w I):Calls Tryz.prog 102 #[.string b,.int .i64 10,.int .i64 64] w fun e w'=>Below w.heap.size w w'∧((∃ v,Lib.parseIntB 64 b.data.toList=.ok v∧e=.returned (.tuple #[.int .i64 v,.nilIface]))∨((∀ v,Lib.parseIntB 64 b.data.toList≠.ok v)∧∃ (x:Int) (t:TypeId) (N:Nat),e=.returned (.tuple #[.int .i64 x,.iface t (.pointer (some ⟨N,0,none⟩))]))):=by
  obtain ⟨J,hJ,_,_,⟨⟨s1,s2,hs⟩,⟨r1,r2,hr⟩,_,_,_,_⟩⟩:=hG;have es:gSyn=Tryz.lays174_ren.g 15:=(by kernel_rfl);have er:gRan=Tryz.lays174_ren.g 16:=(by kernel_rfl);rw [es] at hs;rw [er] at hr;rcases h:Lib.parseIntB 64 b.data.toList with v | _ | _
  · refine (Any.strconv_ParseInt_10_at64_ok Tryz.lays174 b (by omega) v h w).mono ?_;rintro e w' ⟨rfl,hw⟩;refine ⟨?_,.inl ⟨v,rfl,rfl⟩⟩;rcases hw with rfl | ⟨t,rfl⟩
    · exact Below.refl _ _
    · exact Lib.bytesWorld_below _ _ _
  · refine (Any.strconv_ParseInt_10_at64_syntax Tryz.lays174 b (by omega) h _ w hs (.inr ⟨_,_,rfl⟩)).mono ?_;rintro e w' ⟨N,rfl,_,_,hB⟩;exact ⟨hB,.inr ⟨(fun v h=>by cases h),_,_,_,rfl⟩⟩
  · refine (Any.strconv_ParseInt_10_at64_range Tryz.lays174 b (by omega) h _ w hr (.inr ⟨_,_,rfl⟩)).mono ?_;rintro e w' ⟨N,rfl,_,_,hB⟩;exact ⟨hB,.inr ⟨(fun v h=>by cases h),_,_,_,rfl⟩⟩
theorem parse_in {b:ByteArray} {v:Int} (h:Lib.parseIntB 64 b.data.toList=.ok v):InK .i64 v:=by have:=Lib.parseIntB_bounds h;unfold InK;simp only [Nat.reduceSub,Nat.reducePow] at this;omega
theorem c_ReadDecimal_err (b:ByteArray) (w:World) (Q:World→Prop)
    (hP:Calls Tryz.prog 102 #[.string b,.int .i64 10,.int .i64 64] w fun e w'=>Q w'∧∃ (x:Int) (t:TypeId) (N:Nat),e=.returned (.tuple #[.int .i64 x,.iface t (.pointer (some ⟨N,0,none⟩))])) :
    Calls Tryz.prog 75 #[.string b] w fun e w'=>e=.returned (.tuple #[.int .i64 0,.bool false])∧Q w':=by
  go_enter Tryz.func75,Tryz.ntmps75;go_wp2_with (go_at_call 102;refine hP.mono ?_;rintro e w2 ⟨hB,x,t,N,rfl⟩)
  go_ret2
  exact ⟨rfl,hB⟩
theorem c_ReadDecimal_a (b:ByteArray) (w:World) (Q:World→Prop) (v:Int)
    (hP:Calls Tryz.prog 102 #[.string b,.int .i64 10,.int .i64 64] w fun e w'=>Q w'∧e=.returned (.tuple #[.int .i64 v,.nilIface]))
    (hW:∀ W,Q W→Calls Tryz.prog 60 #[.int .i64 v,.int .i64 (-1000000000),.int .i64 1000000000] W fun e w'=>Q w'∧e=.returned (.bool false)) :
    Calls Tryz.prog 75 #[.string b] w fun e w'=>e=.returned (.tuple #[.int .i64 0,.bool false])∧Q w':=by
  go_enter Tryz.func75,Tryz.ntmps75;go_wp2_with (first
    | (go_at_call 102;refine hP.mono ?_;rintro e w2 ⟨hB,rfl⟩)
    | (go_at_call 60;refine (hW _ (by assumption)).mono ?_;rintro e w3 ⟨hB3,rfl⟩))
  go_ret2
  exact ⟨rfl,by assumption⟩
theorem c_ReadDecimal_b (b:ByteArray) (w:World) (Q:World→Prop) (v:Int) (d:ByteArray) (hne:¬ d=b)
    (hP:Calls Tryz.prog 102 #[.string b,.int .i64 10,.int .i64 64] w fun e w'=>Q w'∧e=.returned (.tuple #[.int .i64 v,.nilIface]))
    (hW:∀ W,Q W→Calls Tryz.prog 60 #[.int .i64 v,.int .i64 (-1000000000),.int .i64 1000000000] W fun e w'=>Q w'∧e=.returned (.bool true))
    (hD:∀ W,Q W→Calls Tryz.prog 103 #[.int .i64 v] W fun e w'=>Q w'∧e=.returned (.string d)) :
    Calls Tryz.prog 75 #[.string b] w fun e w'=>e=.returned (.tuple #[.int .i64 0,.bool false])∧Q w':=by
  go_enter Tryz.func75,Tryz.ntmps75;go_wp2_with (first
    | (go_at_call 102;refine hP.mono ?_;rintro e w2 ⟨hB,rfl⟩)
    | (go_at_call 60;refine (hW _ (by assumption)).mono ?_;rintro e w3 ⟨hB3,rfl⟩)
    | (go_at_call 103;refine (hD _ (by assumption)).mono ?_;rintro e w4 ⟨hB4,rfl⟩))
  · go_ret2
    exact ⟨rfl,by assumption⟩
  · exfalso;rename_i hq;rw [Bool.not_eq_false',beq_iff_eq,ByteArray.toList_eq,ByteArray.toList_eq] at hq;exact hne (ByteArray.ext (Array.toList_inj.1 hq))
theorem c_ReadDecimal_c (b:ByteArray) (w:World) (Q:World→Prop) (v:Int)
    (hP:Calls Tryz.prog 102 #[.string b,.int .i64 10,.int .i64 64] w fun e w'=>Q w'∧e=.returned (.tuple #[.int .i64 v,.nilIface]))
    (hW:∀ W,Q W→Calls Tryz.prog 60 #[.int .i64 v,.int .i64 (-1000000000),.int .i64 1000000000] W fun e w'=>Q w'∧e=.returned (.bool true))
    (hD:∀ W,Q W→Calls Tryz.prog 103 #[.int .i64 v] W fun e w'=>Q w'∧e=.returned (.string b)) :
    Calls Tryz.prog 75 #[.string b] w fun e w'=>e=.returned (.tuple #[.int .i64 v,.bool true])∧Q w':=by
  go_enter Tryz.func75,Tryz.ntmps75;go_wp2_with (first
    | (go_at_call 102;refine hP.mono ?_;rintro e w2 ⟨hB,rfl⟩)
    | (go_at_call 60;refine (hW _ (by assumption)).mono ?_;rintro e w3 ⟨hB3,rfl⟩)
    | (go_at_call 103;refine (hD _ (by assumption)).mono ?_;rintro e w4 ⟨hB4,rfl⟩))
  go_ret2
  exact ⟨rfl,by assumption⟩
theorem v_ReadDecimal_impl (b:ByteArray) (hb:b.size≤1048576):Contract Tryz.prog TabG 75 [.v (.string b)] (rdR (readD b)):=by
  refine ⟨fun us W=>by kernel_rfl,fun w I us hG hI hV=>?_⟩;simp only [Vals,T] at hV;obtain ⟨_,_,_,_,rfl,_,⟨rfl,_⟩,rfl,_⟩:=hV;have key:Calls Tryz.prog 75 #[.string b] w fun e w'=>e=.returned (.tuple #[.int .i64 ((readD b).getD 0),.bool (readD b).isSome])∧Below w.heap.size w w':=by
    have hP:=c_ParseInt b hb w I hG;have hW:∀ (v:Int) W,Below w.heap.size w W→Calls Tryz.prog 60 #[.int .i64 v,.int .i64 (-1000000000),.int .i64 1000000000] W fun e w'=>Below w.heap.size w w'∧e=.returned (.bool (inR (-1000000000) 1000000000 v)):=fun v W hB=>by refine ((v_within v (-1000000000) 1000000000).2 W I [.int .i64 v,.int .i64 (-1000000000),.int .i64 1000000000] (GI.keep tabG hG fun x hx=>hB.block x (hI x hx)) (fun x hx=>Nat.lt_of_lt_of_le (hI x hx) hB.size) (by simp only [Vals,T];exact ⟨_,_,[],[],rfl,rfl,⟨rfl,rfl⟩,_,_,[],[],rfl,rfl,⟨rfl,rfl⟩,_,_,[],[],rfl,rfl,⟨rfl,rfl⟩,rfl,rfl⟩)).mono ?_;rintro e w' ⟨u,F,I',rfl,hB2,hT,_⟩;simp only [T] at hT;exact ⟨hB.trans (hB2.mono hB.size),by rw [hT.1]⟩
    have hD:∀ (v:Int),InK .i64 v→∀ W,Below w.heap.size w W→Calls Tryz.prog 103 #[.int .i64 v] W fun e w'=>Below w.heap.size w w'∧e=.returned (.string (decS v)):=fun v hv W hB=>by refine ((v_Decimal_impl v hv).2 W I [.int .i64 v] (GI.keep tabG hG fun x hx=>hB.block x (hI x hx)) (fun x hx=>Nat.lt_of_lt_of_le (hI x hx) hB.size) (by simp only [Vals,T];exact ⟨_,_,[],[],rfl,rfl,⟨rfl,rfl⟩,rfl,rfl⟩)).mono ?_;rintro e w' ⟨u,F,I',rfl,hB2,hT,_⟩;simp only [T] at hT;exact ⟨hB.trans (hB2.mono hB.size),by rw [hT.1]⟩
    rcases hp:Lib.parseIntB 64 b.data.toList with v | _ | _
    · have hin:=parse_in hp;have hP':Calls Tryz.prog 102 #[.string b,.int .i64 10,.int .i64 64] w fun e w'=>Below w.heap.size w w'∧e=.returned (.tuple #[.int .i64 v,.nilIface]):=by
        refine hP.mono ?_;rintro e w' ⟨hB,⟨v',h1,h2⟩ | ⟨h1,_⟩⟩
        · rw [hp] at h1;cases h1;exact ⟨hB,h2⟩
        · exact absurd hp (h1 v)
      have hw1:=hW v;have hd1:=hD v hin;cases hi:inR (-1000000000) 1000000000 v with
      | false =>
        rw [hi] at hw1;have hN:readD b=none:=by
          cases h:readD b with
          | none=>rfl
          | some n=>obtain ⟨h1,h2⟩:=readD_iff.1 h;have:=parse_dec h1;rw [h2,hp] at this;cases this;rw [inR_iff.2 h1] at hi;cases hi
        rw [hN];exact c_ReadDecimal_a b w _ v hP' hw1
      | true =>
        rw [hi] at hw1;by_cases hd:decS v=b
        · have hN:readD b=some v:=readD_iff.2 ⟨inR_iff.1 hi,hd⟩;rw [hN];rw [hd] at hd1;exact c_ReadDecimal_c b w _ v hP' hw1 hd1
        · have hN:readD b=none:=by
            cases h:readD b with
            | none=>rfl
            | some n=>obtain ⟨h1,h2⟩:=readD_iff.1 h;have:=parse_dec h1;rw [h2,hp] at this;cases this;exact absurd h2 hd
          rw [hN];exact c_ReadDecimal_b b w _ v _ hd hP' hw1 hd1
    · have hN:readD b=none:=by
        cases h:readD b with
        | none=>rfl
        | some n=>obtain ⟨h1,h2⟩:=readD_iff.1 h;have:=parse_dec h1;rw [h2,hp] at this;cases this
      rw [hN];refine c_ReadDecimal_err b w _ (hP.mono ?_);rintro e w' ⟨hB,⟨v',h1,h2⟩ | ⟨_,h2⟩⟩
      · rw [hp] at h1;cases h1
      · exact ⟨hB,h2⟩
    · have hN:readD b=none:=by
        cases h:readD b with
        | none=>rfl
        | some n=>obtain ⟨h1,h2⟩:=readD_iff.1 h;have:=parse_dec h1;rw [h2,hp] at this;cases this
      rw [hN];refine c_ReadDecimal_err b w _ (hP.mono ?_);rintro e w' ⟨hB,⟨v',h1,h2⟩ | ⟨_,h2⟩⟩
      · rw [hp] at h1;cases h1
      · exact ⟨hB,h2⟩
  refine key.mono ?_;rintro e w' ⟨rfl,hB⟩;refine ⟨_,[],I,rfl,hB,?_,List.nodup_nil,(fun b h=>by cases h),fun b h=>h,fun b h=>⟨.inl h,Nat.lt_of_lt_of_le (hI b h) hB.size⟩⟩;unfold rdR;generalize (readD b).getD 0=x;generalize (readD b).isSome=y;simp only [T,Vals];exact ⟨_,rfl,_,_,[],[],rfl,rfl,⟨rfl,rfl⟩,_,_,[],[],rfl,rfl,⟨rfl,rfl⟩,rfl,rfl⟩
end Go.Proofs.YtjkbngjiagknkaaGreatDoor
