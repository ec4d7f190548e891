/- Laws that the proof stands on. -/
import Derived.BigCall
import Derived.BigGuard
import Derived.Test.YtjkbngjiagknkaaGreatDoorZVRdA
import Derived.Test.YtjkbngjiagknkaaGreatDoorZVTab
import Derived.Test.YtjkbngjiagknkaaGreatDoorZg19
import Derived.Test.YtjkbngjiagknkaaGreatDoorZg22
set_option linter.all false
namespace Go.Proofs.YtjkbngjiagknkaaGreatDoor
open Go.RowKit Go.V
set_option maxRecDepth 100000
theorem c_lineOf_nil (w:World):Calls Tryz.prog 25 #[.nilIface] w fun e w'=>e=.returned (.tuple #[.int .i64 0,.int .i64 0])∧Below w.heap.size w w':=by
  go_enter Tryz.func25,Tryz.ntmps25;go_wp2_with (go_at_call 57;refine (as_nil _ _).mono ?_;rintro e w2 ⟨rfl,rfl⟩)
  go_ret2
  exact ⟨rfl,(Below.refl _ w).alloc (Nat.le_refl _) _⟩
theorem c_lineOf_err (w:World) (b:Nat) (n c:Int) (hg:w.cell? ⟨0,0,none⟩=some (.iface 162 (.agg #[.pointer (some ⟨7,58,none⟩)]))) (h0:w.cell? ⟨b,0,none⟩=some (.int .i64 n)) (h1:w.cell? ⟨b,1,none⟩=some (.int .i64 c)):Calls Tryz.prog 25 #[.iface 89 (.pointer (some ⟨b,0,none⟩))] w fun e w'=>e=.returned (.tuple #[.int .i64 n,.int .i64 c])∧Below w.heap.size w w':=by
  have hb:b < w.heap.size:=by
    rcases Nat.lt_or_ge b w.heap.size with h | h
    · exact h
    · simp [World.cell?,Array.getElem?_eq_none h] at h0
  have hE:0 < w.heap.size:=by
    rcases Nat.lt_or_ge 0 w.heap.size with h | h
    · exact h
    · simp [World.cell?,Array.getElem?_eq_none h] at hg
  have key:∀ W1,Below w.heap.size w W1→(∃ ty,W1.heap[w.heap.size]?=some (.cells #[.pointer none] ty (0,0))) →
      Calls Tryz.prog 57 #[.iface 89 (.pointer (some ⟨b,0,none⟩)),.iface 91 (.pointer (some ⟨w.heap.size,0,none⟩))] W1 fun ev w'=>ev=.returned (.bool true)∧Below w.heap.size w w'∧w'.cell? ⟨w.heap.size,0,none⟩=some (.pointer (some ⟨b,0,none⟩)):=by
    rintro W1 hB ⟨ty,hh⟩;have hc:W1.cell? ⟨w.heap.size,0,none⟩=some (.pointer none):=by rw [cell_row hh];rfl
    have hf:W1.frozen? ⟨w.heap.size,0,none⟩=false:=(by unfold World.frozen?;simp only [hh];rfl);have hg1:W1.cell? ⟨0,0,none⟩=some (.iface 162 (.agg #[.pointer (some ⟨7,58,none⟩)])):=(hB.cell (p:=⟨0,0,none⟩) hE).trans hg;refine (as_hit ⟨b,0,none⟩ ⟨w.heap.size,0,none⟩ _ W1 hg1 hc hf).mono ?_;rintro e w' ⟨rfl,rfl⟩;have hsz:w.heap.size < W1.heap.size:=(Array.getElem?_eq_some_iff.1 hh).1;have q1:∀ (W:World) (o:Obj),w.heap.size < W.heap.size→W.heap[w.heap.size]?=some (.cells #[.pointer none] ty (0,0))→w.heap.size < (W.alloc o).heap.size∧(W.alloc o).heap[w.heap.size]?=some (.cells #[.pointer none] ty (0,0)):=fun W o h1 h2=>by refine ⟨by simp;omega,?_⟩;show (W.heap.push o)[w.heap.size]?=_;rw [Array.getElem?_push,if_neg (by omega)];exact h2
    refine ⟨rfl,?_,?_⟩
    · have b1:=hB.alloc hB.size (.cells #[.pointer (some ⟨w.heap.size,0,none⟩)] 91);have b2:=b1.alloc b1.size (.cells #[.pointer (some ⟨7,91,none⟩),.pointer (some ⟨W1.heap.size,0,none⟩),.int .u64 150] 132);have b3:=b2.alloc b2.size (.cells #[.pointer (some ⟨7,91,none⟩),.pointer (some ⟨W1.heap.size,0,none⟩),.int .u64 150] 132);have b4:=b3.alloc b3.size (.cells #[.pointer (some ⟨b,0,none⟩)] 89);exact b4.setCell (p:=⟨w.heap.size,0,none⟩) (Nat.le_refl _) _
    · obtain ⟨s1,t1⟩:=q1 W1 (.cells #[.pointer (some ⟨w.heap.size,0,none⟩)] 91) hsz hh;obtain ⟨s2,t2⟩:=q1 _ (.cells #[.pointer (some ⟨7,91,none⟩),.pointer (some ⟨W1.heap.size,0,none⟩),.int .u64 150] 132) s1 t1;obtain ⟨s3,t3⟩:=q1 _ (.cells #[.pointer (some ⟨7,91,none⟩),.pointer (some ⟨W1.heap.size,0,none⟩),.int .u64 150] 132) s2 t2;obtain ⟨s4,t4⟩:=q1 _ (.cells #[.pointer (some ⟨b,0,none⟩)] 89) s3 t3;have t5:=setCell_here _ w.heap.size 0 (.pointer (some ⟨b,0,none⟩)) _ _ _ t4;rw [cell_row t5];rfl
  go_enter Tryz.func25,Tryz.ntmps25;go_wp2_with (go_at_call 57;refine (key _ ((Below.refl _ w).alloc (Nat.le_refl _) _) ⟨_,World.alloc_heap_new w _⟩).mono ?_;rintro e w2 ⟨rfl,hB2,hc2⟩;have h20:w2.cell? ⟨b,0,none⟩=some (.int .i64 n):=(hB2.cell (p:=⟨b,0,none⟩) hb).trans h0;have h21:w2.cell? ⟨b,1,none⟩=some (.int .i64 c):=(hB2.cell (p:=⟨b,1,none⟩) hb).trans h1)
  go_region
  all_goals
    go_wp2
    go_ret2
    exact ⟨rfl,hB2.drew⟩
theorem v_lineOf_nil:Contract Tryz.prog TabG 25 [.v .nilIface] (.tup [.v (.int .i64 0),.v (.int .i64 0)]):=by refine ⟨fun us W=>by kernel_rfl,fun w I us hG hI hV=>?_⟩;simp only [Vals,T] at hV;obtain ⟨_,_,_,_,rfl,_,⟨rfl,_⟩,rfl,_⟩:=hV;refine (c_lineOf_nil w).mono ?_;rintro e w' ⟨rfl,hB⟩;refine ⟨_,[],I,rfl,hB,?_,List.nodup_nil,(fun b h=>by cases h),fun b h=>h,fun b h=>⟨.inl h,Nat.lt_of_lt_of_le (hI b h) hB.size⟩⟩;simp only [T,Vals];exact ⟨_,rfl,_,_,[],[],rfl,rfl,⟨rfl,rfl⟩,_,_,[],[],rfl,rfl,⟨rfl,rfl⟩,rfl,rfl⟩
theorem v_lineOf_err (n c:Int):Contract Tryz.prog TabG 25 [.imp (.err 89) [(.int .i64 n,.int .i64 c)]] (.tup [.v (.int .i64 n),.v (.int .i64 c)]):=by
  refine ⟨fun us W=>by kernel_rfl,fun w I us hG hI hV=>?_⟩;simp only [Vals,T,mpB] at hV;obtain ⟨_,_,_,_,rfl,_,⟨_,_,⟨b,et,m',n',rfl,hh,he,_⟩,_⟩,rfl,_⟩:=hV;simp only [List.cons.injEq,Prod.mk.injEq,Value.int.injEq,true_and,and_true] at he;obtain ⟨rfl,rfl⟩:=he;obtain ⟨J,hJ,_,_,hE⟩:=hG;obtain ⟨rt,hrt,hc⟩:=hE.err;have e1:gErr=0:=by kernel_rfl
  have e2 : (Tryz.prog.cutTypes.find? (·.1 == "internal/reflectlite.rtype")).map (·.2) = some 162 := (by kernel_rfl); have e3 : Tryz.prog.globals.size = 7 := (by kernel_rfl); rw [e2] at hrt; cases hrt; rw [e1, e3] at hc; refine (c_lineOf_err w b n c hc (by rw [cell_row hh]; rfl) (by rw [cell_row hh]; rfl)).mono ?_; rintro e w' ⟨rfl, hB⟩; refine ⟨_, [], I, rfl, hB, ?_, List.nodup_nil, (fun b h => by cases h), fun b h => h, fun b h => ⟨.inl h, Nat.lt_of_lt_of_le (hI b h) hB.size⟩⟩; simp only [T, Vals]; exact ⟨_, rfl, _, _, [], [], rfl, rfl, ⟨rfl, rfl⟩, _, _, [], [], rfl, rfl, ⟨rfl, rfl⟩, rfl, rfl⟩
def mrSt (x:Machine × Bool) (l:ByteArray):Int × (Machine × Bool):=match (if x.2 then rmMove x.1 (wordsB l) else rmHead x.1 (wordsB l)) with
  | some m'=>(0,(m',true))
  | none=>(6,x)
theorem mr_law (x:Machine × Bool) (l:ByteArray) (hl:l.size≤1048576) (hm:x.1.Moves.length≤1048577):ContractX Tryz.prog TabG 27 0 [.undef,.v (.string l)] (mrD x.1 x.2) (.v (.int .i64 (mrSt x l).1)) (mrD (mrSt x l).2.1 (mrSt x l).2.2):=by
  obtain ⟨m,g⟩:=x;unfold mrSt;simp only at hm ⊢;cases g with
  | false =>
    simp only [Bool.false_eq_true,if_false];by_cases h3:(wordsB l).length=3
    · obtain ⟨w0,w1,w2,hw⟩:=len3 h3;rw [hw];cases hc:decide (w0=sMachine) with
      | false=>have hN:rmHead m [w0,w1,w2]=none:=(by unfold rmHead;simp only;rw [if_neg (of_decide_eq_false hc)]);rw [hN];exact v_mrl_h1 m l hl w0 w1 w2 hw hc
      | true =>
        have hc':=of_decide_eq_true hc;rcases rd2 w1 w2 with h2 | ⟨a,b,h2⟩
        · have hN:rmHead m [w0,w1,w2]=none:=(by unfold rmHead;simp only [h2];split <;> rfl);rw [hN];exact v_mrl_h2 m l hl w0 w1 w2 hw hc h2
        · have hN:rmHead m [w0,w1,w2]=some { m with States:=a,Symbols:=b }:=(by unfold rmHead;simp only [h2];rw [if_pos hc']);rw [hN];exact v_mrl_h3 m l hl w0 w1 w2 hw hc a b h2
    · rw [rmHead_not h3];exact v_mrl_h0 m l hl h3
  | true =>
    simp only [if_true];by_cases h6:(wordsB l).length=6
    · obtain ⟨w0,w1,w2,w3,w4,w5,hw⟩:=len6 h6;rw [hw];cases hc:decide (w0=sMove) with
      | false=>have hN:rmMove m [w0,w1,w2,w3,w4,w5]=none:=(by unfold rmMove;simp only;rw [if_neg (fun h=>of_decide_eq_false hc h.1)]);rw [hN];exact v_mrl_m1 m l hl w0 w1 w2 w3 w4 w5 hw hc
      | true =>
        have hc':=of_decide_eq_true hc;cases he:decide (w4=sEast) with
        | true =>
          have he':=of_decide_eq_true he;have hs:decide (w4=sWest)=false:=decide_eq_false (fun h=>by rw [he'] at h;exact absurd h (by decide));rcases rd4 w1 w2 w3 w5 with h2 | ⟨a,b,c,d,h2⟩
          · have hN:rmMove m [w0,w1,w2,w3,w4,w5]=none:=(by unfold rmMove;simp only [h2];split <;> rfl);rw [hN];exact v_mrl_east_no m l hl w0 w1 w2 w3 w4 w5 hw hc he hs h2
          · have hN:rmMove m [w0,w1,w2,w3,w4,w5]=some { m with Moves:=m.Moves++[⟨a,b,c,1,d⟩] }:=(by unfold rmMove;simp only [h2];rw [if_pos ⟨hc',.inl he'⟩,if_pos he']);rw [hN];exact v_mrl_east m l hl w0 w1 w2 w3 w4 w5 hw hc he hs a b c d h2 hm
        | false =>
          have he':=of_decide_eq_false he;cases hs:decide (w4=sWest) with
          | true =>
            have hs':=of_decide_eq_true hs;rcases rd4 w1 w2 w3 w5 with h2 | ⟨a,b,c,d,h2⟩
            · have hN:rmMove m [w0,w1,w2,w3,w4,w5]=none:=(by unfold rmMove;simp only [h2];split <;> rfl);rw [hN];exact v_mrl_west_no m l hl w0 w1 w2 w3 w4 w5 hw hc he hs h2
            · have hN:rmMove m [w0,w1,w2,w3,w4,w5]=some { m with Moves:=m.Moves++[⟨a,b,c,3,d⟩] }:=(by unfold rmMove;simp only [h2];rw [if_pos ⟨hc',.inr hs'⟩,if_neg he']);rw [hN];exact v_mrl_west m l hl w0 w1 w2 w3 w4 w5 hw hc he hs a b c d h2 hm
          | false=>have hs':=of_decide_eq_false hs;have hN:rmMove m [w0,w1,w2,w3,w4,w5]=none:=(by unfold rmMove;simp only;rw [if_neg (fun h=>h.2.elim he' hs')]);rw [hN];exact v_mrl_m2 m l hl w0 w1 w2 w3 w4 w5 hw hc he hs
    · rw [rmMove_not h6];exact v_mrl_m0 m l hl h6
def mrdR:Rdr (Machine × Bool) where
  F:=27
  cel:=fun x=>mrD x.1 x.2
  st:=mrSt
  J:=fun i x=>x.1.Moves.length≤i
  pr:=fun q x=>rfl
  ni:=fun x=>by show (true&&(true&&(noImmLL (x.1.Moves.map (Move.td.d true))&&(true&&true))))=true;rw [TD.nims];rfl
  law:=fun i x l hi hJ hl=>mr_law x l hl (by omega)
  next:=fun i x l hJ h0=>by
    obtain ⟨m,g⟩:=x;unfold mrSt at h0 ⊢;simp only at h0 hJ ⊢;have key:∀ m',(if g=true then rmMove m (wordsB l) else rmHead m (wordsB l))=some m'→m'.Moves.length≤i+1:=fun m' h=>by have h2:rmLine (!g) m (wordsB l)=some m':=(by cases g <;> exact h);have:=rmLine_len h2;omega
    cases hr:(if g=true then rmMove m (wordsB l) else rmHead m (wordsB l)) with
    | none=>rw [hr] at h0;cases h0
    | some m'=>exact key m' hr
theorem mr_go (ls:List ByteArray):∀ (i:Nat) (m:Machine) (g:Bool),(g=true↔i≠0)→(match rdFold rmSt ls i m with
    | .ok m'=>(mrdR.go ls i (m,g)).1=none∧(mrdR.go ls i (m,g)).2.1=m'
    | .error (k,c)=>(mrdR.go ls i (m,g)).1=some (k,c)):=by
  induction ls with
  | nil=>intro i m g h;exact ⟨rfl,rfl⟩
  | cons l ls ih =>
    intro i m g h;have hfl:decide (i=0)=!g:=by
      cases g with
      | true=>simp only [Bool.not_true];exact decide_eq_false (h.1 rfl)
      | false=>simp only [Bool.not_false];exact decide_eq_true (Classical.byContradiction fun hn=>by have:=h.2 hn;cases this)
    have e1:rmSt i m l=(match rmLine (!g) m (wordsB l) with | some m'=>.ok m' | none=>.error 6):=(by unfold rmSt;rw [hfl];cases rmLine (!g) m (wordsB l) <;> rfl);have e2:mrSt (m,g) l=(match rmLine (!g) m (wordsB l) with | some m'=>(0,(m',true)) | none=>(6,(m,g))):=by unfold mrSt rmLine;cases g <;> (dsimp only;split <;> (rename_i hq;simp_all))
    have e3:mrdR.go (l::ls) i (m,g)=if (mrSt (m,g) l).1=0 then mrdR.go ls (i+1) (mrSt (m,g) l).2 else (some (i+1,(mrSt (m,g) l).1),(mrSt (m,g) l).2):=rfl
    rw [e3,e2];simp only [rdFold,e1];cases hr:rmLine (!g) m (wordsB l) with
    | none=>rfl
    | some m'=>simp only [if_true];exact ih (i+1) m' true (by simp)
end Go.Proofs.YtjkbngjiagknkaaGreatDoor
