/- Laws that the proof stands on. -/
import Derived.RangeFuncBox
import Derived.RangeFuncLeaves
import Derived.Shelf.Abstract
import Derived.Shelf.RegionOpen
import Derived.WalkKit
import Derived.OwnWalkIn
import Derived.TacticsInMore
import Derived.LoopNIn
import Derived.LoopIn
import Derived.RegionIn
import Derived.Test.YtdlchnlpmofpmaaGreatDoorZg20
import Derived.Test.YtdlchnlpmofpmaaGreatDoorZVTab
set_option linter.all false
namespace Go.Proofs.YtdlchnlpmofpmaaGreatDoor
open Go.V Go.RowKit
set_option maxRecDepth 100000
theorem yK2 (b:ByteArray):Contract Tryz.prog zAr 77 [.v (.string b)] (.fn 98 [] [.box none [.v (.string b)]]):=by
  refine ⟨fun us W=>by kernel_rfl,fun w I us hG hI hV=>?_⟩;simp only [Vals,T] at hV;obtain ⟨_,_,_,_,rfl,_,⟨rfl,_⟩,rfl,_⟩:=hV;have hc:Calls Tryz.prog 77 #[.string b] w fun e w'=>e=.returned (.func (.func 98) #[] #[.pointer (some ⟨w.heap.size,0,none⟩)])∧∃ ty,w'=w.alloc (.cells #[.string b] ty):=by go_enter Tryz.func77,Tryz.ntmps77;go_wp2;go_ret;exact ⟨rfl,_,rfl⟩
  refine hc.mono ?_;rintro e w' ⟨rfl,ty,rfl⟩;have hB:Below w.heap.size w (w.alloc (.cells #[.string b] ty)):=(Below.refl _ w).alloc (Nat.le_refl _) _;refine ⟨_,[w.heap.size],I,rfl,hB,?_,by simp,?_,(fun b hb=>hb),(fun b hb=>?_)⟩
  · simp only [T,Vals,Cells];refine ⟨[],[.pointer (some ⟨w.heap.size,0,none⟩)],[],[w.heap.size],rfl,rfl,⟨rfl,rfl⟩,_,[],[w.heap.size],[],rfl,rfl,⟨w.heap.size,#[.string b],ty,[],rfl,(fun k hk=>by cases hk),World.alloc_heap_new w _,rfl,_,[],[],[],rfl,rfl,rfl,⟨rfl,rfl⟩,rfl,rfl⟩,rfl,rfl⟩
  · intro x hx;rw [List.mem_singleton.1 hx];exact ⟨Nat.le_refl _,by simp,fun h=>absurd (hI _ h) (Nat.lt_irrefl _)⟩
  · exact ⟨.inl hb,by have:=hI b hb;simp;omega⟩
attribute [local go_sem] Oper.semAt_some
theorem zNk (s:ByteArray)(w:World):Calls Tryz.prog 99 #[.string s,.int .u8 10] w fun e w'=>e=.returned (.int .i64 (Lib.indexByte s.data.toList 10))∧w'=w:=by
  go_enter Tryz.func99,Tryz.ntmps99;go_wp2_with (go_at_call 115;refine (Any.stringslite_IndexByte Tryz.lays217 s 10 _).mono ?_;rintro e w' ⟨rfl,rfl⟩)
  go_ret;exact ⟨rfl,rfl⟩
def strSize (w:World)(b:Nat):Nat:=match w.cell? ⟨b,0,none⟩ with
  | some (.string s)=>s.size
  | _=>0
set_option maxHeartbeats 2000000 in
theorem yH8 (b:ByteArray) (hn:b.size≤1048576):yJs Tryz.prog zAr 98 [.box none [.v (.string b)]] ((zG5 b).map fun x=>[.v (.string x)]):=by
  refine ⟨fun us W=>by kernel_rfl,fun w I us X hG hI hV hXn hX=>?_⟩;simp only [Vals] at hV;obtain ⟨u,us',F1,F2,rfl,hF,hT,rfl,hF2⟩:=hV;simp only [T,Cells] at hT;obtain ⟨bb,cs,et,F',rfl,_,hheap,hFF,sv,us2,G1,G2,hcs,hG12,_,⟨rfl,hg1⟩,rfl,hg2⟩:=hT;have hX1:X=[bb]:=by rw [hF,hFF,hG12,hg1,hg2,hF2];rfl
  have hcs2:cs=#[.string b]:=(by rw [← Array.toArray_toList (xs:=cs),hcs]);rw [hcs2] at hheap;refine ⟨fun k=>[.string ((zG5 b).getD k ⟨⟨[]⟩⟩)],fun k x hx=>?_,?_⟩
  · rw [List.getElem?_map] at hx;cases hr:(zG5 b)[k]? with
    | none=>simp [hr] at hx
    | some y=>simp only [hr,_root_.Option.map_some,_root_.Option.some.injEq] at hx;subst hx;simp only [List.getD_eq_getElem?_getD,hr,_root_.Option.getD_some,Vals,T];exact ⟨_,_,[],[],rfl,rfl,⟨rfl,rfl⟩,rfl,rfl⟩
  · rw [List.length_map];intro l J Jx W M0 hW hM0X hM0 hJset hJ hJa hJp hJx hY h0;have hM:M0=[(bb,.cells #[.string b] et (0,0))]:=by
      rw [hX1] at hM0X;match M0,hM0X with
      | [(q,o)],hq=>have hq2:q=bb:=(by simpa using hq);have:=hM0 (q,o) (by simp);rw [hq2,hheap] at this;rw [hq2,_root_.Option.some.inj this]
    rw [hM] at h0;have hkeep0:zZc I w W:=fun x hx=>hW.block x (hI x hx);have hf1:Fence.wide.fn 99:=trivial;refine callsIn_of_wp Tryz.func98 rfl trivial ?_ rfl;simp only [Tryz.ntmps98,List.size_toArray,List.length_cons,List.length_nil,Nat.reduceAdd,Nat.reduceSub,Array.replicate_succ,Array.replicate_zero,List.push_toArray,List.append_toArray,List.nil_append,List.cons_append];have hlen:(zG5 b).length=(lSp b.data.toList 0 0).length:=by unfold zG5;rw [List.length_map]
    have hdz:b.data.toList.drop b.size=[]:=List.drop_of_length_le (by rw [bsz];exact Nat.le_refl _);have hlz:lSp [] b.size b.size=[]:=by simp [lSp]
    gi_wp2
    gi_loopw [] (fun wr=>∃ m p:Nat,m≤(zG5 b).length∧p≤b.size∧(lSp b.data.toList 0 0).drop m=lSp (b.data.toList.drop p) p p∧J m [(bb,.cells #[.string (rsB b p)] et (0,0))] wr∧zZc I w wr) (fun wr=>strSize wr bb)
    case atStart=>exact ⟨0,0,Nat.zero_le _,Nat.zero_le _,rfl,by rw [yV2];exact h0,hkeep0⟩
    case round =>
      obtain ⟨m,p,hm,hp,hd,hJs,hk⟩:=hrel;have hp1:=hJp _ _ _ (bb,.cells #[.string (rsB b p)] et (0,0)) hJs (by simp);have e0:wr.cell? ⟨bb,0,none⟩=some (.string (rsB b p)):=(by unfold World.cell?;simp only [hp1];rfl);have hz:=zLh b p;have hfz:wr.frozen? ⟨bb,0,none⟩=false:=(by unfold World.frozen?;simp only [hp1];rfl);by_cases hlt:p<b.size
      · have hpos:((rsB b p).size:Int)>0:=(by omega);rcases yCj hlt with ⟨k,h1,hkk,h2,h3⟩ | ⟨h1,h2,h3⟩
        · have hge:(Lib.indexByte (rsB b p).data.toList 10≥0):=(by omega);have ha:=yRw hkk;have hb:=yRv hkk;have hC:=zNk (rsB b p);rw [h1] at hC hge;have hks:k+1≤(rsB b p).size:=(by omega);have hS20:(rsB b p).size≤1048576:=(by omega);generalize hS:rsB b p=S at *;have q1:(0:Int)≤(k:Int)+1:=(by omega);have q2:((k:Int)+1)≤(S.size:Int):=(by omega);have q3:(0:Int)≤(S.size:Int):=(by omega);have q4:IntKind.i64.wrap ((k:Int)+1)=(k:Int)+1:=wrI (by omega) (by omega)
          gi_wp2_with (gi_at_call 99;refine (callsIn_wide.2 (hC _)).mono ?_;rintro e w3 ⟨rfl,rfl⟩)
          gi_region_with_o (fail)
          all_goals
            have hN:m<(zG5 b).length:=by
              rw [hlen];rcases Nat.lt_or_ge m (lSp b.data.toList 0 0).length with h | h
              · exact h
              · rw [List.drop_of_length_le h,h3] at hd;cases hd
            have hpc:(zG5 b).getD m ⟨⟨[]⟩⟩=pcB b (p,p+k):=by
              rw [h3] at hd;have e:(lSp b.data.toList 0 0)[m]?=some (p,p+k):=by have:=congrArg (fun l=>l[0]?) hd;simpa using this
              unfold zG5;rw [List.getD_eq_getElem?_getD,List.getElem?_map,e];rfl
            have hd':(lSp b.data.toList 0 0).drop (m+1)=lSp (b.data.toList.drop (p+k+1)) (p+k+1) (p+k+1):=(by rw [← List.drop_drop,hd,h3];rfl);have hb':S.extract (k+1) (b.size-p)=rsB b (p+k+1):=(by rw [← hz];exact hb);have hJ2:=hJset m [] [] bb #[.string S] et (0,0) w3 0 (.string (rsB b (p+k+1))) hJs;have hJ3:=hJ _ _ _ ((w3.setCell ⟨bb,0,none⟩ (.string (rsB b (p+k+1)))).drew) hJ2 ((Below.refl _ _).drew);have hk3:zZc I w ((w3.setCell ⟨bb,0,none⟩ (.string (rsB b (p+k+1)))).drew):=fun x hx=>(RowKit.Below.heap_setCell w3 ⟨bb,0,none⟩ _ x (by
              intro e;exact (hX bb (by rw [hX1];simp)).2 (by rw [← show x=bb from e];exact hx))).trans (hk x hx)
            have hy0:=hY m _ _ hN hJ3;rw [hpc] at hy0;have hsz:strSize w3 bb=b.size-p:=(by unfold strSize;rw [e0];exact hz);rw [hb'];clear hY hpc hd hp1 hJs hJset hC e0 hfz ha hb hb' h3;generalize hW3:(w3.setCell ⟨bb,0,none⟩ (.string (rsB b (p+k+1)))).drew=W4 at *;obtain ⟨fn,tmps,assign,body,hy,hR⟩:=hy0
            gi_wp2
            refine hR.mono ?_;rintro e W3 (⟨rfl,hJ5,hk5⟩ | ⟨rfl,hJx5⟩)
            · gi_wp2
              go_roundw
              case rel=>exact ⟨m+1,p+k+1,hN,hkk,hd',hJ5,fun z hz'=>(hk5 z hz').trans (hk3 z hz')⟩
              case measure=>have q:=hJp _ _ _ (bb,.cells #[.string (rsB b (p+k+1))] et (0,0)) hJ5 (by simp);have q2:strSize W3 bb=b.size-(p+k+1):=(by unfold strSize;unfold World.cell?;simp only [q];exact zLh b (p+k+1));rw [q2,hsz];omega
            · gi_wp2
              refine bodyPost_ret (results_none rfl _ _ _) rfl ?_;exact ⟨⟨_,rfl⟩,.inr hJx5⟩
        · have hneg:¬ (Lib.indexByte (rsB b p).data.toList 10≥0):=(by omega);have hC:=zNk (rsB b p);rw [h1] at hC hneg;have hN:m<(zG5 b).length:=by
            rw [hlen];rcases Nat.lt_or_ge m (lSp b.data.toList 0 0).length with h | h
            · exact h
            · rw [List.drop_of_length_le h,h3] at hd;cases hd
          have hpc:(zG5 b).getD m ⟨⟨[]⟩⟩=rsB b p:=by
            rw [h3] at hd;have e:(lSp b.data.toList 0 0)[m]?=some (p,b.size):=by have:=congrArg (fun l=>l[0]?) hd;simpa using this
            unfold zG5;rw [List.getD_eq_getElem?_getD,List.getElem?_map,e];show pcB b (p,b.size)=rsB b p;unfold pcB rsB;congr 1;simp only;omega
          have hd':(lSp b.data.toList 0 0).drop (m+1)=lSp (b.data.toList.drop b.size) b.size b.size:=(by rw [← List.drop_drop,hd,h3,hdz,hlz];rfl);have hrs:rsB b b.size=⟨#[]⟩:=(by apply ByteArray.ext;apply Array.eq_empty_of_size_eq_zero;have:=zLh b b.size;rw [Nat.sub_self] at this;exact this);have hsz:strSize wr bb=b.size-p:=(by unfold strSize;rw [e0];exact hz);have hJ2:=hJset m [] [] bb #[.string (rsB b p)] et (0,0) wr 0 (.string ⟨#[]⟩) hJs;have hk3:zZc I w (wr.setCell ⟨bb,0,none⟩ (.string ⟨#[]⟩)):=fun x hx=>(RowKit.Below.heap_setCell wr ⟨bb,0,none⟩ _ x (by
            intro e;exact (hX bb (by rw [hX1];simp)).2 (by rw [← show x=bb from e];exact hx))).trans (hk x hx)
          have hy0:=hY m _ _ hN hJ2;rw [hpc] at hy0;generalize hS:rsB b p=S at *;clear hY hpc hd hp1 hJs hJset h3;obtain ⟨fn,tmps,assign,body,hy,hR⟩:=hy0
          gi_wp2_with (gi_at_call 99;refine (callsIn_wide.2 (hC _)).mono ?_;rintro e w3 ⟨rfl,rfl⟩)
          refine hR.mono ?_;rintro e W3 (⟨rfl,hJ5,hk5⟩ | ⟨rfl,hJx5⟩)
          · gi_wp2
            go_roundw
            case rel=>exact ⟨m+1,b.size,hN,Nat.le_refl _,hd',by rw [hrs];exact hJ5,fun z hz'=>(hk5 z hz').trans (hk3 z hz')⟩
            case measure=>have q:=hJp _ _ _ (bb,.cells #[.string ⟨#[]⟩] et (0,0)) hJ5 (by simp);have q2:strSize W3 bb=0:=(by unfold strSize;unfold World.cell?;simp only [q];rfl);rw [q2,hsz];omega
          · gi_wp2
            refine bodyPost_ret (results_none rfl _ _ _) rfl ?_;exact ⟨⟨_,rfl⟩,.inr hJx5⟩
      · have hpe:p=b.size:=(by omega);have hnpos:¬ (((rsB b p).size:Int)>0):=(by omega);have hmN:m=(zG5 b).length:=(by rw [hpe,hdz,hlz,List.drop_eq_nil_iff] at hd;omega);rw [hmN,hlen] at hJs;generalize hS:rsB b p=S at *
        gi_wp2
        go_end0
        exact ⟨⟨_,rfl⟩,.inl ⟨_,hJs⟩⟩
end Go.Proofs.YtdlchnlpmofpmaaGreatDoor
