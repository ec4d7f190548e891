/- Laws that the proof stands on. -/
import Derived.RangeFuncBox
import Derived.RangeFuncLeaves
import Derived.Shelf.Abstract
import Derived.WalkKit
import Derived.OwnWalkIn
import Derived.TacticsInMore
import Derived.LoopNIn
import Derived.LoopIn
import Derived.RegionIn
import Derived.Test.YtbflchedmfeghaaDoorZg22
import Derived.Test.YtbflchedmfeghaaDoorZVTab
set_option linter.all false
namespace Go.Proofs.YtbflchedmfeghaaDoor
open Go.V Go.RowKit
set_option maxRecDepth 100000
def dgStep (b : Nat) (s : List Nat × Nat) (j : Nat) : List Nat × Nat := (s.1.set j (s.2 % b), s.2 / b)
def dgF (b k n : Nat) (js : List Nat) : List Nat × Nat := js.foldl (dgStep b) (List.replicate k 0, n)
theorem dgF_snoc (b k n : Nat) (js : List Nat) (j : Nat) : dgF b k n (js ++ [j]) = dgStep b (dgF b k n js) j := by simp [dgF]
theorem dgS_rep (b k n : Nat) : dgS b k n 0 = List.replicate k 0 := by
  refine List.ext_getElem (by simp [dgS]) (fun j h1 h2 => ?_); have hj : j < k := by simpa using h2
  simp [dgS, show ¬ k ≤ j by omega]
theorem dgF_rng (b k n : Nat) : ∀ i, i ≤ k → dgF b k n ((List.range i).map (fun i => k - 1 - i)) = (dgS b k n i, n / b ^ i)
  | 0, _ => by rw [dgS_rep, Nat.pow_zero, Nat.div_one]; rfl
  | i + 1, h => by rw [List.range_succ, List.map_append, List.map_singleton, dgF_snoc, dgF_rng b k n i (by omega), dgS_next (by omega)]; unfold dgStep; rw [Nat.div_div_eq_div_mul, Nat.pow_succ]
theorem dgF_all (b k n : Nat) : (dgF b k n ((List.range k).map (fun i => k - 1 - i))).1 = digR b k n := by rw [dgF_rng b k n k (Nat.le_refl _), dgS_end]
theorem foldl_pres {α β : Type} {f : β → α → β} {p : β → Prop} (h : ∀ s a, p s → p (f s a)) : ∀ (l : List α) (s : β), p s → p (l.foldl f s)
  | [], _, hs => hs
  | a :: l, s, hs => foldl_pres h l _ (h s a hs)
theorem dgF_ok (b k n : Nat) (js : List Nat) : (dgF b k n js).1.length = k ∧ (dgF b k n js).2 ≤ n :=
  foldl_pres (p := fun s : List Nat × Nat => s.1.length = k ∧ s.2 ≤ n) (fun s a hs => ⟨by simp [dgStep, hs.1], Nat.le_trans (Nat.div_le_self _ _) hs.2⟩) js _ ⟨by simp, Nat.le_refl _⟩
def dgV (x : Nat) : Value := .int .i64 (x : Int)
def StD (b1 g k : Nat) (W : World) : Prop := W.cell? ⟨b1, 0, none⟩ = some (.slice (some ⟨g, 0, none⟩) k k) ∧ ∀ j, j < k → ∃ x : Int, W.cell? ⟨g, j, none⟩ = some (.int .i64 x)
theorem StD.below {b1 g k B : Nat} {W W' : World} (h : StD b1 g k W) (hB : Below B W W') (h1 : b1 < B) (h2 : g < B) : StD b1 g k W' :=
  ⟨(hB.cell (p := ⟨b1, 0, none⟩) h1).trans h.1, fun j hj => by obtain ⟨x, hx⟩ := h.2 j hj; exact ⟨x, (hB.cell (p := ⟨g, j, none⟩) h2).trans hx⟩⟩
theorem StD.kept {b1 g k : Nat} {W W' : World} {row : Option Nat} (h : StD b1 g k W) (hg : W.grownBy W' row) (hr : ∀ r, row = some r → ∃ o : Obj, W.heap[r]? = some o ∧ o.isCells = false) : StD b1 g k W' :=
  ⟨cell_kept h.1 hg hr, fun j hj => by obtain ⟨x, hx⟩ := h.2 j hj; exact ⟨x, cell_kept hx hg hr⟩⟩
attribute [local go_sem] Oper.semAt_some
set_option maxHeartbeats 2000000 in
theorem it_dg (k b1 g : Nat) (hk : k ≤ 8) (w : World) (h : StD b1 g k w) (h1 : b1 < w.heap.size) (h2 : g < w.heap.size) :
    SeqStopsK Fence.wide 2 Tryd.prog 70 #[.pointer (some ⟨b1, 0, none⟩)] (fun x : Fin k × Int => #[.int .i64 (x.1.val : Int), .int .i64 x.2]) (fun A B => StD b1 g k A → StD b1 g k B) (fun ys => ys.map (fun x => x.1.val) = (List.range k).map (fun i => k - 1 - i)) (fun _ => True) k w := by
  intro l J Jx W hW hJ hJx hY h0; have hS : StD b1 g k W := h.below hW h1 h2; refine callsIn_of_wp Tryd.func70 rfl trivial ?_ rfl; simp only [Tryd.ntmps70, List.size_toArray, List.length_cons, List.length_nil, Nat.reduceAdd, Nat.reduceSub, Array.replicate_succ, Array.replicate_zero, List.push_toArray, List.append_toArray, List.nil_append, List.cons_append]; have hb1 := hS.1; clear hW
  gi_wp2
  gi_loopw [3] (fun i wr => ∃ m : Nat, m ≤ k ∧ i = .int .i64 ((m : Int) - 1) ∧ StD b1 g k wr ∧ ∃ pre : List (Fin k × Int), pre.map (fun x => x.1.val) = (List.range (k - m)).map (fun i => k - 1 - i) ∧ J pre wr) (fun i _ => (intOf i + 1).toNat)
  case atStart => exact ⟨k, Nat.le_refl _, by simp, hS, [], by rw [Nat.sub_self]; rfl, h0⟩
  case round =>
    obtain ⟨m, hm, rfl, hSt, pre, hp, hJs⟩ := hrel; have hb2 := hSt.1; cases m with
    | zero =>
      gi_wp2
      go_end0
      exact ⟨⟨_, rfl⟩, .inl ⟨pre, by simpa using hp, hJs⟩⟩
    | succ m =>
      obtain ⟨x, hx⟩ := hSt.2 m (by omega); have e1 : (((m + 1 : Nat) : Int) - 1) = (m : Int) := (by omega); rw [e1]; have hlen : pre.length = k - (m + 1) := (by have := congrArg List.length hp; simpa using this); have hy0 := hY pre (⟨m, by omega⟩, x) wr hJs (by omega); simp only [] at hy0; obtain ⟨fn, tmps, assign, body, hy, hR⟩ := hy0; have hml : m < k := hm; clear hY
      gi_wp2
      refine hR.mono ?_; rintro e W3 (⟨rfl, hJ3, hk3⟩ | ⟨rfl, hJx3⟩)
      · gi_wp2
        go_roundw
        case rel => exact ⟨m, by omega, by simp, hk3 hSt, _, by rw [List.map_append, hp, show k - m = k - (m + 1) + 1 by omega, List.range_succ, List.map_append, List.map_singleton, List.map_singleton]; congr 2; show m = _; omega, hJ3⟩
        case measure => simp [intOf]
      · gi_wp2
        refine bodyPost_ret (results_none rfl _ _ _) rfl ?_; exact ⟨⟨_, rfl⟩, .inr ⟨_, trivial, hJx3⟩⟩
theorem bk_dg (a : Option Addr) (n c : Nat) (w : World) : CallsIn Fence.wide 2 Tryd.prog 56 #[.slice a n c] w fun e w' => e = .returned (.func (.func 70) #[] #[.pointer (some ⟨w.heap.size, 0, none⟩)]) ∧ w' = w.alloc (.cells #[.slice a n c] 38) := by
  refine callsIn_of_wp Tryd.func56 rfl trivial ?_ rfl; simp only [Tryd.ntmps56, List.size_toArray, List.length_cons, List.length_nil, Nat.reduceAdd, Nat.reduceSub, Array.replicate_succ, Array.replicate_zero, List.push_toArray, List.append_toArray, List.nil_append, List.cons_append]
  gi_wp2
  go_ret; exact ⟨rfl, rfl⟩
theorem wpListIn_makeK {F : Fence} {n : Nat} {P : Program} (w : World) {ops : Array Oper} {rest : List Oper} {o : Oper} {a : Act} {Q : Exit → Act → World → Prop}
    (hg : o.guard = none) (l c : Operand) (t : TypeId) (hop : o.op = Op.makeSlice t l c) (e : TypeId) (i : TypeInfo) (z : Value) (h1 : P.underlying t = some (.slice e)) (h2 : P.info? e = some i) (h3 : i.zero = some z)
    (kl kc : IntKind) (L C : Int) (hl : a.eval l = .int kl L) (hc : a.eval c = .int kc C) (h0 : 0 ≤ L) (hlc : L ≤ C) (hb : (i.bytes : Int) * C ≤ 281474976710656) (h63 : C ≤ 9223372036854775807)
    (hK : wpListIn F n P ops Q rest (a.put o.dst (.slice (some ⟨w.heap.size, 0, none⟩) L.toNat C.toNat)) (w.alloc (.cells (madeCells z.cells (C.toNat * i.size)) e))) :
    wpListIn F n P ops Q (o :: rest) a w := by
  refine wpListIn_plain hg fun K hK' => ?_; have hrun := run_make (P := P) w t e i z h1 h2 h3 kl kc L C h0 hlc hb h63; unfold Oper.wpIn; refine ⟨?_, ?_⟩
  · simp [Oper.about, hop]
  · rw [Oper.semAt_plain F _ _ (by rw [hop]; intro c hc'; cases hc')]; simp [execOp, hop, hl, hc, hrun, Result.andThen]; exact hK' _ _ hK
theorem dg_info : (Tryd.prog.info? 2).map (fun i => (i.zero, i.size, i.bytes)) = some (some (.int .i64 0), 1, 8) := by kernel_rfl
theorem made_zero (k : Nat) : madeCells (Value.int .i64 0).cells (k * 1) = ((List.replicate k 0).map dgV).toArray := by refine Array.ext (by simp [madeCells]) (fun j h1 h2 => ?_); simp [madeCells, dgV, Value.cells, Nat.mod_one]
def dgI (w : World) (b k n : Nat) (js : List Nat) (W : World) : Prop :=
  Boxed W w.heap.size 2 (dgV b) ∧ Boxed W (w.heap.size + 1) 2 (dgV (dgF b k n js).2) ∧ W.heap[w.heap.size + 2]? = some (.cells ((dgF b k n js).1.map dgV).toArray 2 (0, 0)) ∧
    Boxed W (w.heap.size + 3) 38 (.slice (some ⟨w.heap.size + 2, 0, none⟩) k k) ∧ Boxed W (w.heap.size + 4) 38 (.slice (some ⟨w.heap.size + 2, 0, none⟩) k k) ∧ Below w.heap.size w W
theorem dgI_own (w : World) (b k n B : Nat) (hB : w.heap.size ≤ B) : OwnFrom B (fun (pre : List (Fin k × Int)) W => dgI w b k n (pre.map (fun x => x.1.val)) W) := by intro pre W W' row ⟨h1, h2, h3, h4, h5, h6⟩ hg hr; have hk : ∀ {j : Nat} {cs : Array Value} {t : TypeId}, W.heap[j]? = some (.cells cs t (0, 0)) → W'.heap[j]? = some (.cells cs t (0, 0)) := fun {j cs t} h => (grownBy_keeps_cells hg (fun r e => (hr r e).2) h rfl).trans h; exact ⟨hk h1, hk h2, hk h3, hk h4, hk h5, h6.grown hg h6.size (fun r e => Nat.le_trans hB (hr r e).1)⟩
theorem dgI.std {w : World} {b k n : Nat} {js : List Nat} {W : World} (h : dgI w b k n js W) : StD (w.heap.size + 4) (w.heap.size + 2) k W :=
  ⟨h.2.2.2.2.1.cell, fun j hj => by
    have hl : j < (dgF b k n js).1.length := (by rw [(dgF_ok b k n js).1]; exact hj); refine ⟨((dgF b k n js).1[j] : Nat), ?_⟩; unfold World.cell?; simp only [h.2.2.1]; simp [dgV, List.getElem?_eq_getElem hl]⟩
theorem dgI_step {w : World} {b k n : Nat} {js : List Nat} {j : Nat} {W : World} (h : dgI w b k n js W) (B : Nat) :
    KeepsFrom B W ((W.setCell ⟨w.heap.size + 2, j, none⟩ (dgV ((dgF b k n js).2 % b))).setCell ⟨w.heap.size + 1, 0, none⟩ (dgV ((dgF b k n js).2 / b))).drew ∧ dgI w b k n (js ++ [j]) ((W.setCell ⟨w.heap.size + 2, j, none⟩ (dgV ((dgF b k n js).2 % b))).setCell ⟨w.heap.size + 1, 0, none⟩ (dgV ((dgF b k n js).2 / b))).drew := by
  obtain ⟨h1, h2, h3, h4, h5, h6⟩ := h; have hk := ((KeepsOthers.setCell W ⟨w.heap.size + 2, j, none⟩ (dgV ((dgF b k n js).2 % b))).trans (KeepsOthers.setCell _ ⟨w.heap.size + 1, 0, none⟩ (dgV ((dgF b k n js).2 / b)))).from B; refine ⟨⟨hk.size, hk.same⟩, ?_⟩; have ho : ∀ t, t ≠ w.heap.size + 1 → t ≠ w.heap.size + 2 → ((W.setCell ⟨w.heap.size + 2, j, none⟩ (dgV ((dgF b k n js).2 % b))).setCell ⟨w.heap.size + 1, 0, none⟩ (dgV ((dgF b k n js).2 / b))).drew.heap[t]? = W.heap[t]? := fun t t1 t2 => by show ((W.setCell ⟨w.heap.size + 2, j, none⟩ (dgV ((dgF b k n js).2 % b))).setCell ⟨w.heap.size + 1, 0, none⟩ (dgV ((dgF b k n js).2 / b))).heap[t]? = _; rw [Below.heap_setCell _ _ _ _ t1, Below.heap_setCell _ _ _ _ t2]
  have h2' : Boxed (W.setCell ⟨w.heap.size + 2, j, none⟩ (dgV ((dgF b k n js).2 % b))) (w.heap.size + 1) 2 (dgV (dgF b k n js).2) := (Below.heap_setCell _ _ _ _ (by show _ ≠ w.heap.size + 2; omega)).trans h2; have h2s := h2'.set (dgV ((dgF b k n js).2 / b)); refine ⟨(ho _ (by omega) (by omega)).trans h1, ?_, ?_, (ho _ (by omega) (by omega)).trans h4, (ho _ (by omega) (by omega)).trans h5, ?_⟩
  · rw [dgF_snoc]; exact h2s
  · rw [dgF_snoc]; have e1 : ((W.setCell ⟨w.heap.size + 2, j, none⟩ (dgV ((dgF b k n js).2 % b))).setCell ⟨w.heap.size + 1, 0, none⟩ (dgV ((dgF b k n js).2 / b))).drew.heap[w.heap.size + 2]? = (W.setCell ⟨w.heap.size + 2, j, none⟩ (dgV ((dgF b k n js).2 % b))).heap[w.heap.size + 2]? := Below.heap_setCell _ _ _ _ (by show _ ≠ w.heap.size + 1; omega); rw [e1]; obtain ⟨hlt, hk3⟩ := Array.getElem?_eq_some_iff.1 h3; show (W.heap.modify (w.heap.size + 2) _)[w.heap.size + 2]? = _; rw [Array.getElem?_eq_getElem (by rw [Array.size_modify]; exact hlt), Array.getElem_modify_self, hk3]; simp [dgStep, List.map_set]
  · exact ((h6.setCell (p := ⟨w.heap.size + 2, j, none⟩) (by show _ ≤ w.heap.size + 2; omega) _).setCell (p := ⟨w.heap.size + 1, 0, none⟩) (by show _ ≤ w.heap.size + 1; omega) _).drew
theorem dg_wrap {m b : Nat} (h : m ≤ 1000000000) : Go.RowKit.wrap64 ((m : Int) / (b : Int)) = ((m / b : Nat) : Int) := by have hle := Nat.div_le_self m b; rw [← Int.natCast_ediv]; generalize m / b = q at *; unfold Go.RowKit.wrap64; omega
theorem dg_rows (I : Nat → Prop) (w : World) : ∀ ds : List Nat, Go.V.Rows I w 1 (ds.map rNt) (ds.map dgV) []
  | [] => by simp [Go.V.Rows]
  | x :: xs => by simp only [List.map_cons, Go.V.Rows]; exact ⟨[dgV x], xs.map dgV, [], [], rfl, rfl, rfl, by simp only [rNt, Cells, T]; exact ⟨dgV x, [], [], [], rfl, rfl, rfl, ⟨rfl, rfl⟩, rfl, rfl⟩, dg_rows I w xs⟩
set_option maxHeartbeats 4000000 in
theorem dg_in (b k n : Nat) (h1 : 1 ≤ b) (hb : b ≤ 6) (hk : k ≤ 8) (hn : n ≤ 1000000000) (w : World) : CallsIn Fence.wide 3 Tryd.prog 36 #[.int .i64 (b : Int), .int .i64 (k : Int), .int .i64 (n : Int)] w fun e W' => e = .returned (.slice (some ⟨w.heap.size + 2, 0, none⟩) k k) ∧ Below w.heap.size w W' ∧ W'.heap[w.heap.size + 2]? = some (.cells ((digR b k n).map dgV).toArray 2 (0, 0)) := by
  obtain ⟨i0, hi, hz0, hz1, hz2⟩ := info_parts dg_info; have hf1 : Fence.wide.fn 56 := trivial; have hf2 : Fence.wide.fn 70 := trivial; refine callsIn_of_wp_marks Tryd.func36 rfl trivial ?_ rfl; simp only [Tryd.ntmps36, List.size_toArray, List.length_cons, List.length_nil, Nat.reduceAdd, Nat.reduceSub, Array.replicate_succ, Array.replicate_zero, List.push_toArray, List.append_toArray, List.nil_append, List.cons_append]
  gi_wp2_with (first | (gi_at_make; refine wpListIn_makeK _ rfl _ _ 38 rfl 2 i0 (.int .i64 0) rfl hi hz0 .i64 .i64 (k : Int) (k : Int) rfl rfl (by omega) (Int.le_refl _) (by rw [hz2]; omega) (by omega) ?_; rw [hz1, Int.toNat_natCast, made_zero]) | (gi_at_call 56; refine (bk_dg _ _ _ _).mono ?_; rintro e w' ⟨rfl, rfl⟩))
  have hB0 : Below w.heap.size w (((((w.alloc (.cells #[.int .i64 (b : Int)] 2)).alloc (.cells #[.int .i64 (n : Int)] 2)).alloc (.cells (Array.replicate k (dgV 0)) 2)).alloc (.cells #[.slice (some ⟨w.heap.size + 1 + 1, 0, none⟩) k k] 38)).alloc (.cells #[.slice (some ⟨w.heap.size + 1 + 1, 0, none⟩) k k] 38)) :=
    ((((((Below.refl _ w).alloc (Nat.le_refl _) _).alloc (by simp) _).alloc (by simp; omega) _).alloc (by simp; omega) _).alloc (by simp; omega) _)
  have b0 := ((((Boxed.new w 2 (.int .i64 (b : Int))).alloc (.cells #[.int .i64 (n : Int)] 2)).alloc (.cells (Array.replicate k (dgV 0)) 2)).alloc (.cells #[.slice (some ⟨w.heap.size + 1 + 1, 0, none⟩) k k] 38)).alloc (.cells #[.slice (some ⟨w.heap.size + 1 + 1, 0, none⟩) k k] 38); have b1 := (((Boxed.new (w.alloc (.cells #[.int .i64 (b : Int)] 2)) 2 (.int .i64 (n : Int))).alloc (.cells (Array.replicate k (dgV 0)) 2)).alloc (.cells #[.slice (some ⟨w.heap.size + 1 + 1, 0, none⟩) k k] 38)).alloc (.cells #[.slice (some ⟨w.heap.size + 1 + 1, 0, none⟩) k k] 38); have b2 : (((((w.alloc (.cells #[.int .i64 (b : Int)] 2)).alloc (.cells #[.int .i64 (n : Int)] 2)).alloc (.cells (Array.replicate k (dgV 0)) 2)).alloc (.cells #[.slice (some ⟨w.heap.size + 1 + 1, 0, none⟩) k k] 38)).alloc (.cells #[.slice (some ⟨w.heap.size + 1 + 1, 0, none⟩) k k] 38)).heap[w.heap.size + 2]? = some (.cells (Array.replicate k (dgV 0)) 2 (0, 0)) := (by rw [Below.heap_alloc _ _ _ (by simp), Below.heap_alloc _ _ _ (by simp)]; have := World.alloc_heap_new ((w.alloc (.cells #[.int .i64 (b : Int)] 2)).alloc (.cells #[.int .i64 (n : Int)] 2)) (.cells (Array.replicate k (dgV 0)) 2 (0, 0)); simpa only [World.size_alloc] using this); have b3 := (Boxed.new (((w.alloc (.cells #[.int .i64 (b : Int)] 2)).alloc (.cells #[.int .i64 (n : Int)] 2)).alloc (.cells (Array.replicate k (dgV 0)) 2)) 38 (.slice (some ⟨w.heap.size + 1 + 1, 0, none⟩) k k)).alloc (.cells #[.slice (some ⟨w.heap.size + 1 + 1, 0, none⟩) k k] 38); have b4 := Boxed.new ((((w.alloc (.cells #[.int .i64 (b : Int)] 2)).alloc (.cells #[.int .i64 (n : Int)] 2)).alloc (.cells (Array.replicate k (dgV 0)) 2)).alloc (.cells #[.slice (some ⟨w.heap.size + 1 + 1, 0, none⟩) k k] 38)) 38 (.slice (some ⟨w.heap.size + 1 + 1, 0, none⟩) k k); have hz : ((((w.alloc (.cells #[.int .i64 (b : Int)] 2)).alloc (.cells #[.int .i64 (n : Int)] 2)).alloc (.cells (Array.replicate k (dgV 0)) 2)).alloc (.cells #[.slice (some ⟨w.heap.size + 1 + 1, 0, none⟩) k k] 38)).heap.size = w.heap.size + 4 := (by simp only [World.size_alloc]); have hz5 : (((((w.alloc (.cells #[.int .i64 (b : Int)] 2)).alloc (.cells #[.int .i64 (n : Int)] 2)).alloc (.cells (Array.replicate k (dgV 0)) 2)).alloc (.cells #[.slice (some ⟨w.heap.size + 1 + 1, 0, none⟩) k k] 38)).alloc (.cells #[.slice (some ⟨w.heap.size + 1 + 1, 0, none⟩) k k] 38)).heap.size = w.heap.size + 5 := (by simp only [World.size_alloc]); simp only [World.size_alloc] at b1 b3 b4; generalize (((((w.alloc (.cells #[.int .i64 (b : Int)] 2)).alloc (.cells #[.int .i64 (n : Int)] 2)).alloc (.cells (Array.replicate k (dgV 0)) 2)).alloc (.cells #[.slice (some ⟨w.heap.size + 1 + 1, 0, none⟩) k k] 38)).alloc (.cells #[.slice (some ⟨w.heap.size + 1 + 1, 0, none⟩) k k] 38)) = W0 at *; have hS0 : StD (w.heap.size + 4) (w.heap.size + 2) k W0 := ⟨b4.cell, fun j hj => ⟨0, by
    unfold World.cell?; simp only [b2]; simp [hj, dgV]⟩⟩
  have hI0 : dgI w b k n [] W0 := ⟨b0, b1, by rw [b2]; simp [dgF, dgV], b3, b4, hB0⟩
  refine wpIn_rangeFunc_ownG rfl (by decide) (gf := 70) (lb := #[.pointer (some ⟨w.heap.size + 4, 0, none⟩)]) rfl trivial (enters_of Tryd.func70 (by kernel_rfl) rfl)
    (it_dg k (w.heap.size + 4) (w.heap.size + 2) hk W0 hS0 (by omega) (by omega)) (fun h1 h2 h => h2 (h1 h)) (fun W l o o' hl hh ho _ hst => hst.kept (grownBy_putObj' W l o') (fun r e => by cases e; exact ⟨o, hh, ho⟩)) (Below.refl _ _) (fun _ => rfl)
    (fun pre W => dgI w b k n (pre.map fun x => x.1.val) W) (fun _ _ _ => False) (dgI_own w b k n _ (by omega)) (fun _ _ _ _ _ hs _ _ => hs) hI0
    (fun x => { tmps := #[.int .i64 (b : Int), .int .i64 (k : Int), .int .i64 (n : Int), .pointer (some ⟨w.heap.size, 0, none⟩), undef, .pointer (some ⟨w.heap.size + 1, 0, none⟩), .slice none 0 0, .pointer (some ⟨w.heap.size + 3, 0, none⟩), .int .i64 (x.1.val : Int), .int .i64 (k : Int), .slice (some ⟨w.heap.size + 2, 0, none⟩) k k, .slice (some ⟨w.heap.size + 2, 0, none⟩) k k, .func (.func 70) #[] #[.pointer (some ⟨w.heap.size + 4, 0, none⟩)], .int .i64 (x.1.val : Int), .int .i64 x.2, undef, undef, undef, undef, undef, undef, undef, undef, undef, undef], defers := [] }) ?assign ?body ?done ?stop
  case assign =>
    intro l x W K hK
    gi_wp2
    exact hK
  case body =>
    rintro l pre x W hI1 hlt; obtain ⟨h1, h2, h3, h4, h5, h6⟩ := hI1; have hI1 : dgI w b k n (pre.map fun x => x.1.val) W := ⟨h1, h2, h3, h4, h5, h6⟩
    obtain ⟨hl, hle⟩ := dgF_ok b k n (pre.map fun x => x.1.val); have c0 := h1.cell; have c1 := h2.cell; have f1 := h2.frozen; have c3 := h4.cell; have hxk : x.1.val < k := x.1.isLt; have hcx : ∃ v, W.cell? ⟨w.heap.size + 2, x.1.val, none⟩ = some v := (by unfold World.cell?; simp only [h3]; rw [List.getElem?_toArray, List.getElem?_map, List.getElem?_eq_getElem (by rw [hl]; exact hxk)]; exact ⟨_, rfl⟩); obtain ⟨v0, c2⟩ := hcx; have f2 : W.frozen? ⟨w.heap.size + 2, x.1.val, none⟩ = false := (by unfold World.frozen?; simp only [h3]; simp); simp only [dgV] at c0 c1; have hb0 : ((b : Nat) : Int) ≠ 0 := (by omega); clear hI0 hS0 b0 b1 b2 b3 b4 hB0 hz hz5
    gi_wp2
    gi_region
    all_goals
      gi_wp2
      rw [dg_wrap (by omega)]; have hs := dgI_step (j := x.1.val) hI1 W0.heap.size; unfold dgV at hs; rw [Int.natCast_emod] at hs; refine ⟨hs.1, fun _ => hs.2.std, ?_⟩; have hs2 := hs.2; rw [← List.map_singleton (f := fun x : Fin k × Int => x.1.val), ← List.map_append] at hs2; exact hs2
  case done =>
    rintro D ys W hD hys ⟨h1, h2, h3, h4, h5, h6⟩ hK; have c3 := h4.cell; rw [hys, dgF_all] at h3
    gi_wp2
    refine ⟨by simp, .inl ⟨_, _, rfl, run_takeDeferred hK, ?_⟩⟩; exact ⟨_, results_tmp rfl _ _ _, rfl, h6.trans (belowK_b (w := w) (Nat.le_refl _) W D _ _ (by omega) hK rfl rfl), (World.putObj_heap_other (by omega)).trans h3⟩
  case stop => rintro D c pre W _ _ h _; exact h.elim
theorem v_digitsOf (b k n : Nat) (h1 : 1 ≤ b) (hb : b ≤ 6) (hk : k ≤ 8) (hn : n ≤ 1000000000) : Contract Tryd.prog TabG 36 [.v (.int .i64 (b : Int)), .v (.int .i64 (k : Int)), .v (.int .i64 (n : Int))] (.sl true 1 ((digR b k n).map rNt)) := by
  refine ⟨fun us W => by kernel_rfl, fun w I us hG hI hV => ?_⟩; simp only [Vals, T] at hV; obtain ⟨_, _, _, _, rfl, _, ⟨rfl, _⟩, _, _, _, _, rfl, _, ⟨rfl, _⟩, _, _, _, _, rfl, _, ⟨rfl, _⟩, rfl, _⟩ := hV; refine (callsIn_wide.1 (dg_in b k n h1 hb hk hn w)).mono ?_; rintro e w' ⟨rfl, hB, hh⟩; have hlt : w.heap.size + 2 < w'.heap.size := (Array.getElem?_eq_some_iff.1 hh).1; have hl : (digR b k n).length = k := by simp [digR]
  refine ⟨_, [w.heap.size + 2], I, rfl, hB, ?_, by simp, fun b hb => ?_, fun _ h => h, fun b hb => ⟨.inl hb, Nat.lt_of_lt_of_le (hI b hb) hB.size⟩⟩
  · simp only [T, List.length_map, hl]; refine ⟨_, _, rfl, Nat.le_refl _, by unfold maxLen; omega, .inr ⟨trivial, .inr ⟨_, 0, _, _, (digR b k n).map dgV, [], rfl, hh, by simp [hl], fun j v hj => ?_, rfl, dg_rows I w' _⟩⟩⟩; unfold World.cell?; simp only [hh]; simpa using hj
  · simp only [List.mem_singleton] at hb; subst hb; exact ⟨by omega, hlt, fun h => by have := hI _ h; omega⟩
end Go.Proofs.YtbflchedmfeghaaDoor
