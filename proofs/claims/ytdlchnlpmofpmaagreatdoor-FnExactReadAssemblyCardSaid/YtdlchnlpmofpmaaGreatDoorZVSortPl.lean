/- Laws that the proof stands on. -/
import Derived.Test.YtdlchnlpmofpmaaGreatDoorZVCmpW
import Derived.Test.YtdlchnlpmofpmaaGreatDoorZg6
import Derived.Test.YtdlchnlpmofpmaaGreatDoorZVSortL
import Derived.Test.YtdlchnlpmofpmaaGreatDoorZg17
import Derived.Test.YtdlchnlpmofpmaaGreatDoorZVTab
set_option linter.all false
namespace Go.Proofs.YtdlchnlpmofpmaaGreatDoor
open Go.RowKit Go.Lib Go.Sort Go.V
set_option maxRecDepth 100000
def zQg (t:Placed):List Value:=[.int .i64 t.At.X,.int .i64 t.At.Y,.int .i64 t.Tile]
theorem yMf (t:Placed)(o:Bool):yQy zQg t=Placed.td.d o t:=by rw [Placed.td_d];rfl
instance:Inhabited Placed:=⟨⟨⟨0,0⟩,0⟩⟩
theorem yOq (W:World)(q:Nat)(os:Array Obj):(grow W os).drewN q=grow (W.drewN q) os:=rfl
set_option maxHeartbeats 1000000 in
theorem zWm (x y:Placed)(W:World):Calls Tryz.prog 55 #[.agg (zQg x).toArray,.agg (zQg y).toArray] W fun e w'=>e=.returned (.int .i64 (yDo x.At y.At))∧∃ q os',w'=grow (W.drewN q) os':=by
  have hcon:=fun W'=>zLx x.At y.At W';generalize yDo x.At y.At=r at hcon ⊢;unfold zQg;go_enter Tryz.func55,Tryz.ntmps55;go_wp2_with (go_at_call 56;refine (hcon _).mono ?_;rintro e w' ⟨rfl,q,os,rfl⟩)
  go_ret;exact ⟨rfl,q,_,by rw [alloc_eq_grow,alloc_eq_grow,grow_grow,yOq,grow_grow]⟩
theorem yRk:SWO (ltOf fun a b:Placed=>yDo a.At b.At) where
  irrefl x:=swo_P.irrefl x.At
  trans x y z:=swo_P.trans x.At y.At z.At
  ntrans x y z:=swo_P.ntrans x.At y.At z.At
theorem zZ8 {xs:List Placed}(hx:xs.Pairwise (fun x y=>x.At≠y.At))(d':Array Placed)(hp:PermIn 0 xs.toArray.size xs.toArray d')(hs:SortedIn (ltOf fun a b:Placed=>yDo a.At b.At) 0 xs.toArray.size d'):d'.toList=zL8 xs:=by
  obtain ⟨hsz,_,hperm⟩:=hp;have e1:d'.extract 0 xs.toArray.size=d':=(by rw [← hsz];exact Array.extract_size);rw [e1,Array.extract_size] at hperm;have hpp:d'.toList.Perm xs:=(by simpa using hperm);have hdis:d'.toList.Pairwise (fun x y=>x.At≠y.At):=hpp.symm.pairwise hx (fun h=>Ne.symm h);refine zHc ?_ (zF3 hx) (fun z=>hpp.mem_iff.trans (zD6 xs).mem_iff.symm);refine List.pairwise_iff_getElem.2 (fun i j hi hj hij=>?_);have hj':j<d'.size:=(by simpa using hj);have h1:=hs i j (Nat.zero_le _) hij (by rw [← hsz];exact hj');unfold ltOf at h1;rw [zQi,getElem!_pos d' j hj',getElem!_pos d' i (by omega)] at h1;have h2:=List.pairwise_iff_getElem.1 hdis i j hi hj hij;simp only [Array.getElem_toList] at h2 ⊢;cases hc:zB6 d'[i].At d'[j].At with
  | true=>rfl
  | false=>exact absurd (zT6 hc h1) h2
theorem yEm (xs:List Placed)(hl:xs.length≤1048576)(hx:xs.Pairwise (fun x y=>x.At≠y.At)):zBj Tryz.prog zAr 54 0 [.undef,.fn 55 [] []] (.sl true 3 (xs.map (Placed.td.d true))) (.tup []) (.sl true 3 ((zL8 xs).map (Placed.td.d true))):=by
  have he:(Placed.td.d true)=yQy zQg:=funext fun t=>(yMf t true).symm;rw [he];have eg:∀ args w,(callFunc 55 args).run Tryz.prog w=.ok (.enter 55 args) w:=enters_of Tryz.func55 (by kernel_rfl) rfl;refine zOc (enc:=zQg) (ltOf fun a b:Placed=>yDo a.At b.At) (fun _=>rfl) (by decide) (fun x v hv=>by simp [zQg] at hv;rcases hv with rfl | rfl | rfl<;>rfl) (enters_of Tryz.func54 (by kernel_rfl) rfl) xs (zL8 xs) (by omega) ?_ ?_ (zZ8 hx) (fun h=>by rw [h];rfl)
  · intro blk off cap w hH hb;exact AnyQ.slices_SortFunc Tryz.laysSortPlaced 3 Tryz.isAgg98 Tryz.sizeOf98 zQg (fun _=>rfl) (fun x v hv=>by simp [zQg] at hv;rcases hv with rfl | rfl | rfl<;>rfl) (fun x y=>yDo x.At y.At) yRk 55 #[] blk off cap xs.toArray w eg (fun _ _ _ _ x y=>zWm x y _) hH hb (by simp;omega)
  · intro _ w;refine (AnyF.slices_SortFunc_none Tryz.laysSortPlaced none 0 (.func (.func 55) #[] #[]) w).mono ?_;rintro e w' ⟨rfl,rfl⟩;exact ⟨rfl,Below.refl _ _⟩
end Go.Proofs.YtdlchnlpmofpmaaGreatDoor
