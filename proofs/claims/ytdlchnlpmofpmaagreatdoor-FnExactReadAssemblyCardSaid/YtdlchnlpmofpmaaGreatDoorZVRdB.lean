/- Laws that the proof stands on. -/
import Derived.BigCall
import Derived.BigGuard
import Derived.Test.YtdlchnlpmofpmaaGreatDoorZVRdA
import Derived.Test.YtdlchnlpmofpmaaGreatDoorZVTab
set_option linter.all false
namespace Go.Proofs.YtdlchnlpmofpmaaGreatDoor
open Go.RowKit Go.V
set_option maxRecDepth 100000
theorem zSw (w:World):Calls Tryz.prog 22 #[.nilIface] w fun e w'=>e=.returned (.tuple #[.int .i64 0,.int .i64 0])∧Below w.heap.size w w':=by
  go_enter Tryz.func22,Tryz.ntmps22;go_wp2_with (go_at_call 46;refine (yU6 _ _).mono ?_;rintro e w2 ⟨rfl,rfl⟩)
  go_ret2
  exact ⟨rfl,(Below.refl _ w).alloc (Nat.le_refl _) _⟩
theorem zSx (w:World)(b:Nat)(n c:Int)(hg:w.cell? ⟨0,0,none⟩=some (.iface 152 (.agg #[.pointer (some ⟨7,59,none⟩)])))(h0:w.cell? ⟨b,0,none⟩=some (.int .i64 n))(h1:w.cell? ⟨b,1,none⟩=some (.int .i64 c)):Calls Tryz.prog 22 #[.iface 91 (.pointer (some ⟨b,0,none⟩))] w fun e w'=>e=.returned (.tuple #[.int .i64 n,.int .i64 c])∧Below w.heap.size w w':=by
  have hb:b<w.heap.size:=by
    rcases Nat.lt_or_ge b w.heap.size with h | h
    · exact h
    · simp [World.cell?,Array.getElem?_eq_none h] at h0
  have hE:0<w.heap.size:=by
    rcases Nat.lt_or_ge 0 w.heap.size with h | h
    · exact h
    · simp [World.cell?,Array.getElem?_eq_none h] at hg
  have key:∀ W1,Below w.heap.size w W1→(∃ ty,W1.heap[w.heap.size]?=some (.cells #[.pointer none] ty (0,0))) →
      Calls Tryz.prog 46 #[.iface 91 (.pointer (some ⟨b,0,none⟩)),.iface 93 (.pointer (some ⟨w.heap.size,0,none⟩))] W1 fun ev w'=>ev=.returned (.bool true)∧Below w.heap.size w w'∧w'.cell? ⟨w.heap.size,0,none⟩=some (.pointer (some ⟨b,0,none⟩)):=by
    rintro W1 hB ⟨ty,hh⟩;have hc:W1.cell? ⟨w.heap.size,0,none⟩=some (.pointer none):=by rw [zA4 hh];rfl
    have hf:W1.frozen? ⟨w.heap.size,0,none⟩=false:=(by unfold World.frozen?;simp only [hh];rfl);have hg1:W1.cell? ⟨0,0,none⟩=some (.iface 152 (.agg #[.pointer (some ⟨7,59,none⟩)])):=(hB.cell (p:=⟨0,0,none⟩) hE).trans hg;refine (yU7 ⟨b,0,none⟩ ⟨w.heap.size,0,none⟩ _ W1 hg1 hc hf).mono ?_;rintro e w' ⟨rfl,rfl⟩;have hsz:w.heap.size<W1.heap.size:=(Array.getElem?_eq_some_iff.1 hh).1;have q1:∀ (W:World) (o:Obj),w.heap.size<W.heap.size→W.heap[w.heap.size]?=some (.cells #[.pointer none] ty (0,0))→w.heap.size<(W.alloc o).heap.size∧(W.alloc o).heap[w.heap.size]?=some (.cells #[.pointer none] ty (0,0)):=fun W o h1 h2=>by refine ⟨by simp;omega,?_⟩;show (W.heap.push o)[w.heap.size]?=_;rw [Array.getElem?_push,if_neg (by omega)];exact h2
    refine ⟨rfl,?_,?_⟩
    · have b1:=hB.alloc hB.size (.cells #[.pointer (some ⟨w.heap.size,0,none⟩)] 93);have b2:=b1.alloc b1.size (.cells #[.pointer (some ⟨7,93,none⟩),.pointer (some ⟨W1.heap.size,0,none⟩),.int .u64 150] 121);have b3:=b2.alloc b2.size (.cells #[.pointer (some ⟨7,93,none⟩),.pointer (some ⟨W1.heap.size,0,none⟩),.int .u64 150] 121);have b4:=b3.alloc b3.size (.cells #[.pointer (some ⟨b,0,none⟩)] 91);exact b4.setCell (p:=⟨w.heap.size,0,none⟩) (Nat.le_refl _) _
    · obtain ⟨s1,t1⟩:=q1 W1 (.cells #[.pointer (some ⟨w.heap.size,0,none⟩)] 93) hsz hh;obtain ⟨s2,t2⟩:=q1 _ (.cells #[.pointer (some ⟨7,93,none⟩),.pointer (some ⟨W1.heap.size,0,none⟩),.int .u64 150] 121) s1 t1;obtain ⟨s3,t3⟩:=q1 _ (.cells #[.pointer (some ⟨7,93,none⟩),.pointer (some ⟨W1.heap.size,0,none⟩),.int .u64 150] 121) s2 t2;obtain ⟨s4,t4⟩:=q1 _ (.cells #[.pointer (some ⟨b,0,none⟩)] 91) s3 t3;have t5:=zDl _ w.heap.size 0 (.pointer (some ⟨b,0,none⟩)) _ _ _ t4;rw [zA4 t5];rfl
  go_enter Tryz.func22,Tryz.ntmps22;go_wp2_with (go_at_call 46;refine (key _ ((Below.refl _ w).alloc (Nat.le_refl _) _) ⟨_,World.alloc_heap_new w _⟩).mono ?_;rintro e w2 ⟨rfl,hB2,hc2⟩;have h20:w2.cell? ⟨b,0,none⟩=some (.int .i64 n):=(hB2.cell (p:=⟨b,0,none⟩) hb).trans h0;have h21:w2.cell? ⟨b,1,none⟩=some (.int .i64 c):=(hB2.cell (p:=⟨b,1,none⟩) hb).trans h1)
  go_region
  all_goals
    go_wp2
    go_ret2
    exact ⟨rfl,hB2.drew⟩
theorem zQz:Contract Tryz.prog zAr 22 [.v .nilIface] (.tup [.v (.int .i64 0),.v (.int .i64 0)]):=by refine ⟨fun us W=>by kernel_rfl,fun w I us hG hI hV=>?_⟩;simp only [Vals,T] at hV;obtain ⟨_,_,_,_,rfl,_,⟨rfl,_⟩,rfl,_⟩:=hV;refine (zSw w).mono ?_;rintro e w' ⟨rfl,hB⟩;refine ⟨_,[],I,rfl,hB,?_,List.nodup_nil,(fun b h=>by cases h),fun b h=>h,fun b h=>⟨.inl h,Nat.lt_of_lt_of_le (hI b h) hB.size⟩⟩;simp only [T,Vals];exact ⟨_,rfl,_,_,[],[],rfl,rfl,⟨rfl,rfl⟩,_,_,[],[],rfl,rfl,⟨rfl,rfl⟩,rfl,rfl⟩
theorem zQ0 (n c:Int):Contract Tryz.prog zAr 22 [.imp (.err 91) [(.int .i64 n,.int .i64 c)]] (.tup [.v (.int .i64 n),.v (.int .i64 c)]):=by
  refine ⟨fun us W=>by kernel_rfl,fun w I us hG hI hV=>?_⟩;simp only [Vals,T,mpB] at hV;obtain ⟨_,_,_,_,rfl,_,⟨_,_,⟨b,et,m',n',rfl,hh,he,_⟩,_⟩,rfl,_⟩:=hV;simp only [List.cons.injEq,Prod.mk.injEq,Value.int.injEq,true_and,and_true] at he;obtain ⟨rfl,rfl⟩:=he;obtain ⟨J,hJ,_,_,hE⟩:=hG;obtain ⟨rt,hrt,hc⟩:=hE.err;have e1:yVn=0:=by kernel_rfl
  have e2 : (Tryz.prog.cutTypes.find? (·.1 == "internal/reflectlite.rtype")).map (·.2) = some 152 := (by kernel_rfl); have e3 : Tryz.prog.globals.size = 7 := (by kernel_rfl); rw [e2] at hrt; cases hrt; rw [e1, e3] at hc; refine (zSx w b n c hc (by rw [zA4 hh]; rfl) (by rw [zA4 hh]; rfl)).mono ?_; rintro e w' ⟨rfl, hB⟩; refine ⟨_, [], I, rfl, hB, ?_, List.nodup_nil, (fun b h => by cases h), fun b h => h, fun b h => ⟨.inl h, Nat.lt_of_lt_of_le (hI b h) hB.size⟩⟩; simp only [T, Vals]; exact ⟨_, rfl, _, _, [], [], rfl, rfl, ⟨rfl, rfl⟩, _, _, [], [], rfl, rfl, ⟨rfl, rfl⟩, rfl, rfl⟩
end Go.Proofs.YtdlchnlpmofpmaaGreatDoor
