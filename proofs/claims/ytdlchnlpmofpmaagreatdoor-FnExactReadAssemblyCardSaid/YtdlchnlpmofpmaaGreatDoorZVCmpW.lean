/- Laws that the proof stands on. -/
import Derived.Test.YtdlchnlpmofpmaaGreatDoorZg13
import Derived.StillTailTactics
import Derived.Lib.Small
import Derived.Lib.Walk
import Derived.Shelf.SlSortCmp.NoneTotal
set_option linter.all false
namespace Go.Proofs.YtdlchnlpmofpmaaGreatDoor
open Go.RowKit Go.Lib Go.Sort
set_option maxRecDepth 100000
theorem yKy (x:Int)(w:World):Calls Tryz.prog 114 #[.int .i64 x] w fun e w'=>e=.returned (.bool false)∧w'=w:=by go_enter Tryz.func114,Tryz.ntmps114;go_wp2;go_ret;exact ⟨by simp,rfl⟩
set_option maxHeartbeats 1000000 in
theorem zZm (x y:Int)(w:World):Calls Tryz.prog 90 #[.int .i64 x,.int .i64 y] w fun e w'=>e=.returned (.int .i64 (yKj x y))∧w'=w:=by
  go_enter Tryz.func90,Tryz.ntmps90;go_wp2_with (go_at_call 114;refine (yKy _ _).mono ?_;rintro e w' ⟨rfl,hw⟩;rw [hw])
  all_goals (go_ret;refine ⟨?_,rfl⟩;unfold yKj;(repeat' split)<;>first | rfl | (exfalso;omega))
set_option maxHeartbeats 1000000 in
theorem yX5 (x y:Int)(b:Nat)(w:World)(h0:w.cell? ⟨b,0,none⟩=some (.int .i64 x))(h1:w.cell? ⟨b,1,none⟩=some (.int .i64 y)):Calls Tryz.prog 89 #[.slice (some ⟨b,0,none⟩) 2 2] w fun e w'=>e=.returned (.int .i64 (if x=0 then y else x))∧w'=w:=by
  by_cases hx:x=0
  · subst hx;rw [if_pos rfl];by_cases hy:y=0
    · subst hy;go_enter Tryz.func89,Tryz.ntmps89;go_wp2;refine wp_loop_rounds 3 ?_;rw [rounds_succ];go_wp2;rw [rounds_succ];go_wp2;rw [rounds_succ];go_wp2;go_ret;exact ⟨rfl,rfl⟩
    · have hy':(y != 0)=true:=(by simp [hy]);go_enter Tryz.func89,Tryz.ntmps89;go_wp2;refine wp_loop_rounds 3 ?_;rw [rounds_succ];go_wp2;rw [rounds_succ];go_wp2;go_ret;exact ⟨rfl,rfl⟩
  · have hx':(x != 0)=true:=(by simp [hx]);rw [if_neg hx];go_enter Tryz.func89,Tryz.ntmps89;go_wp2;refine wp_loop_rounds 3 ?_;rw [rounds_succ];go_wp2;go_ret;exact ⟨rfl,rfl⟩
set_option maxHeartbeats 2000000 in
theorem zLx (a b:Point)(W:World):Calls Tryz.prog 56 #[.agg #[.int .i64 a.X,.int .i64 a.Y],.agg #[.int .i64 b.X,.int .i64 b.Y]] W fun e w'=>e=.returned (.int .i64 (yDo a b))∧∃ q os',w'=grow (W.drewN q) os':=by
  have hc:=zZm;have hor:∀ (b':Nat) (w:World),w.cell? ⟨b',0,none⟩=some (.int .i64 (yKj a.Y b.Y))→w.cell? ⟨b',1,none⟩=some (.int .i64 (yKj a.X b.X))→Calls Tryz.prog 89 #[.slice (some ⟨b',0,none⟩) 2 2] w fun e w'=>e=.returned (.int .i64 (yDo a b))∧w'=w:=fun b' w=>yX5 _ _ b' w;go_enter Tryz.func56,Tryz.ntmps56
  go_upto_region 1 with fail
  refine wp_region_still_tail 10 rfl (by kernel_rfl) ?_;simp only [World.drew_eq,List.take_succ_cons,List.take_zero,List.drop_succ_cons,List.drop_zero];have hg:∃ q os',((W.alloc (Obj.cells #[Value.int IntKind.i64 a.X,Value.int IntKind.i64 a.Y] 83)).alloc (Obj.cells #[Value.int IntKind.i64 b.X,Value.int IntKind.i64 b.Y] 83)).drew=grow (W.drewN q) os':=⟨1,_,by rw [alloc_eq_grow,alloc_eq_grow,grow_grow];rfl⟩
  have h1:=World.cell?_alloc2_first (w:=W) #[Value.int IntKind.i64 a.X,Value.int IntKind.i64 a.Y] 83 (Obj.cells #[Value.int IntKind.i64 b.X,Value.int IntKind.i64 b.Y] 83);have h2:=World.cell?_alloc2_new (w:=W) (Obj.cells #[Value.int IntKind.i64 a.X,Value.int IntKind.i64 a.Y] 83) #[Value.int IntKind.i64 b.X,Value.int IntKind.i64 b.Y] 83;have hs:((W.alloc (Obj.cells #[Value.int IntKind.i64 a.X,Value.int IntKind.i64 a.Y] 83)).alloc (Obj.cells #[Value.int IntKind.i64 b.X,Value.int IntKind.i64 b.Y] 83)).drew.heap.size=W.heap.size+2:=(by simp);generalize hW:((W.alloc (Obj.cells #[Value.int IntKind.i64 a.X,Value.int IntKind.i64 a.Y] 83)).alloc (Obj.cells #[Value.int IntKind.i64 b.X,Value.int IntKind.i64 b.Y] 83)).drew=W2 at *;have a0:W2.cell? ⟨W.heap.size,0,none⟩=some (.int .i64 a.X):=(by rw [← hW];exact h1 0);have a1:W2.cell? ⟨W.heap.size,1,none⟩=some (.int .i64 a.Y):=(by rw [← hW];exact h1 1);have b0:W2.cell? ⟨W.heap.size+1,0,none⟩=some (.int .i64 b.X):=(by rw [← hW];exact h2 0);have b1:W2.cell? ⟨W.heap.size+1,1,none⟩=some (.int .i64 b.Y):=(by rw [← hW];exact h2 1);clear h1 h2 hW
  repeat still_step
  still_call (hc _ _ _)
  repeat still_step
  still_call (hc _ _ _)
  refine wpStill_nil ?_;go_wp2_with (go_at_call 89;refine (hor _ _ (by rw [World.cell?_alloc_at _ _ _ _ hs.symm];rfl) (by rw [World.cell?_alloc_at _ _ _ _ hs.symm];rfl)).mono ?_;rintro e w' ⟨rfl,hw⟩;rw [hw])
  go_ret;obtain ⟨q,os,rfl⟩:=hg;exact ⟨rfl,q,_,by rw [alloc_eq_grow,grow_grow]⟩
theorem swo_P:SWO (ltOf fun a b:Point=>yDo a b) where
  irrefl x:=by unfold ltOf;rw [zQi];simp [zB6]
  trans x y z h1 h2:=by unfold ltOf at *;rw [zQi] at *;simp only [zB6,Bool.or_eq_true,Bool.and_eq_true,decide_eq_true_eq] at *;omega
  ntrans x y z h1 h2:=by unfold ltOf at *;rw [zQi] at *;simp only [zB6,Bool.or_eq_false_iff,Bool.and_eq_false_iff,decide_eq_false_iff_not] at *;omega
end Go.Proofs.YtdlchnlpmofpmaaGreatDoor
