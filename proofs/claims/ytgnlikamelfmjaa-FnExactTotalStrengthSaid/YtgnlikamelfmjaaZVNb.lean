/- Laws that the proof stands on. -/
import Derived.RangeFuncBox
import Derived.RangeFuncLeaves
import Derived.Shelf.Abstract
import Derived.Shelf.RegionOpen
import Derived.WalkKit
import Derived.OwnWalkIn
import Derived.TacticsInMore
import Derived.LoopNIn
import Derived.LoopIn
import Derived.RegionIn
import Derived.Test.YtgnlikamelfmjaaZVNbP
set_option linter.all false
namespace Go.Proofs.Ytgnlikamelfmjaa
open Go.V Go.RowKit
set_option maxRecDepth 100000
theorem v_neighbors (b : Assembly) : Contract Try.prog NoG 81 [.agg (Assembly.td.d false b)] (.fn 112 [] [.iptr (Assembly.td.d false b) 0]) := by
  refine ⟨fun us W => by kernel_rfl, fun w I us hG hI hV => ?_⟩; simp only [Vals] at hV; obtain ⟨u, us', F1, F2, rfl, hF, hT, rfl, _⟩ := hV; have hF' := List.append_eq_nil_iff.1 hF.symm; rw [hF'.1] at hT; rw [Assembly.td_d] at hT; have hT2 := hT; simp only [T, Cells] at hT; obtain ⟨us, rfl, sv, us2, G1, G2, rfl, hG12, _, ⟨a, c, rfl, _⟩, rfl, rfl⟩ := hT; have hc : Calls Try.prog 81 #[.agg #[.slice a (b.Tiles.map (Placed.td.d false)).length c]] w fun e w' => e = .returned (.func (.func 112) #[] #[.pointer (some ⟨w.heap.size, 0, none⟩)]) ∧ ∃ ty, w' = w.alloc (.cells #[.slice a (b.Tiles.map (Placed.td.d false)).length c] ty) := by generalize (b.Tiles.map (Placed.td.d false)).length = len; go_enter Try.func81, Try.ntmps81; go_wp2; go_ret; exact ⟨rfl, _, rfl⟩
  refine hc.mono ?_; rintro e w' ⟨rfl, ty, rfl⟩; have hB : Below w.heap.size w (w.alloc (.cells #[.slice a (b.Tiles.map (Placed.td.d false)).length c] ty)) := (Below.refl _ w).alloc (Nat.le_refl _) _; refine ⟨_, [], fun b => I b ∨ b = w.heap.size, rfl, hB, ?_, List.nodup_nil, (fun _ h => by cases h), (fun b hb => .inl hb), (fun b hb => ?_)⟩
  · rw [Assembly.td_d]; have h2 := T.keep (w' := w.alloc (.cells #[.slice a (b.Tiles.map (Placed.td.d false)).length c] ty)) _ hT2 (fun b hb => hB.block b (by
        rcases hb with hb | hb
        · exact hI b hb
        · cases hb))
    have h3 := T.mono (I' := fun b => I b ∨ b = w.heap.size) (fun b hb => .inl hb) _ h2; simp only [T, Vals, Cells] at h3 ⊢; obtain ⟨us, hus, sv, us2, G1, G2, rfl, hG12, hone, hsl, rfl, hG2⟩ := h3; have hus' : [sv] = [Value.slice a (b.Tiles.map (Placed.td.d false)).length c] := (by have := congrArg (fun v => match v with | Value.agg x => x.toList | _ => []) hus; simpa using this.symm); simp only [List.cons.injEq, and_true] at hus'; subst hus'; refine ⟨[], [.pointer (some ⟨w.heap.size, 0, none⟩)], [], [], rfl, rfl, ⟨rfl, rfl⟩, _, [], [], [], rfl, rfl, ⟨rfl, w.heap.size, 0, [.slice a (b.Tiles.map (Placed.td.d false)).length c], rfl, .inr rfl, ?_, _, [], G1, G2, rfl, hG12, rfl, hsl, rfl, hG2⟩, rfl, rfl⟩; intro j v hj; have hh : (w.alloc (.cells #[.slice a (b.Tiles.map (Placed.td.d false)).length c] ty)).heap[w.heap.size]? = some (.cells #[.slice a (b.Tiles.map (Placed.td.d false)).length c] ty) := World.alloc_heap_new w _; rw [cell_row hh, Nat.zero_add]; simpa using hj
  · rcases hb with hb | rfl
    · exact ⟨.inl hb, by have := hI b hb; simp; omega⟩
    · exact ⟨.inr (Nat.le_refl _), by simp⟩
theorem klt {w W : World} {I : Nat → Prop} (hI : ∀ x, I x → x < w.heap.size) (hk : KeepB I w W) (z : Nat) (hz : I z) : z < W.heap.size := by have h1 := hk z hz; rw [Array.getElem?_eq_getElem (hI z hz)] at h1; exact (Array.getElem?_eq_some_iff.1 h1).1
theorem c_place {b : Assembly} (hn : b.Tiles.length ≤ 1048576) {w : World} {I : Nat → Prop} {a : Option Addr} {c : Nat} (hG : GI NoG w I) (hI : ∀ x, I x → x < w.heap.size) (hT : T I w (.agg (Assembly.td.d false b)) nil (.agg #[.slice a b.Tiles.length c]) []) (p : Point) (W : World) (hk : KeepB I w W) :
    Calls Try.prog 113 #[.agg #[.slice a b.Tiles.length c], .agg #[.int .i64 p.X, .int .i64 p.Y]] W fun e w' => e = .returned (.int .i64 (idxA b.Tiles p)) ∧ Below W.heap.size W w' := by
  refine ((v_placeAt b p hn).2 W I [.agg #[.slice a b.Tiles.length c], .agg #[.int .i64 p.X, .int .i64 p.Y]] (hG.keep noG hk) (klt hI hk) ?_).mono ?_
  · simp only [Vals]; refine ⟨_, _, [], [], rfl, rfl, T.keep _ hT (fun x hx => by rcases hx with hx | hx; exact hk x hx; cases hx), _, _, [], [], rfl, rfl, ?_, rfl, rfl⟩; rw [Point.td_d]; simp only [T, Cells]; exact ⟨_, rfl, _, _, [], [], rfl, rfl, rfl, ⟨rfl, rfl⟩, _, _, [], [], rfl, rfl, rfl, ⟨rfl, rfl⟩, rfl, rfl⟩
  · rintro e w' ⟨v, F, I', rfl, hB, hv, _⟩; simp only [T] at hv; exact ⟨by rw [hv.1], hB⟩
theorem c_step {w : World} {I : Nat → Prop} (hG : GI NoG w I) (hI : ∀ x, I x → x < w.heap.size) (p : Point) (hp : Point.td.ok p) (d : Nat) (hd : d < 4) (W : World) (hk : KeepB I w W) :
    Calls Try.prog 99 #[.agg #[.int .i64 p.X, .int .i64 p.Y], .int .i64 (d : Int)] W fun e w' => e = .returned (.agg #[.int .i64 (stepP p d).X, .int .i64 (stepP p d).Y]) ∧ Below W.heap.size W w' := by
  refine ((v_step p d hd hp).2 W I [.agg #[.int .i64 p.X, .int .i64 p.Y], .int .i64 (d : Int)] (hG.keep noG hk) (klt hI hk) ?_).mono ?_
  · rw [Point.td_d]; simp only [Vals, T, Cells]; exact ⟨_, _, [], [], rfl, rfl, ⟨_, rfl, _, _, [], [], rfl, rfl, rfl, ⟨rfl, rfl⟩, _, _, [], [], rfl, rfl, rfl, ⟨rfl, rfl⟩, rfl, rfl⟩, _, _, [], [], rfl, rfl, ⟨rfl, rfl⟩, rfl, rfl⟩
  · rintro e w' ⟨v, F, I', rfl, hB, hv, _⟩; rw [Point.td_d] at hv; simp only [T, Cells] at hv; obtain ⟨us, rfl, u1, us1, A1, B1, rfl, _, _, ⟨rfl, _⟩, u2, us2, A2, B2, rfl, _, _, ⟨rfl, _⟩, rfl, _⟩ := hv; exact ⟨rfl, hB⟩
attribute [local go_sem] Oper.semAt_some
set_option maxHeartbeats 4000000 in
theorem it_nb (b : Assembly) (hn : b.Tiles.length ≤ 1048576) (hok : ∀ x, x ∈ b.Tiles → Point.td.ok x.At) : IterC Try.prog NoG 112 [.iptr (Assembly.td.d false b) 0] ((nbI b.Tiles b.Tiles.length).map nbD) := by
  refine ⟨fun us W => by kernel_rfl, fun w I us hG hI hV => ?_⟩; rw [Assembly.td_d] at hV; simp only [Vals] at hV; obtain ⟨u, us', F1, F2, rfl, hF, hT, rfl, _⟩ := hV; have hF' := List.append_eq_nil_iff.1 hF.symm; rw [hF'.1] at hT; simp only [T, Cells] at hT; obtain ⟨_, b1, o1, raw1, rfl, hI1, hr1, sv, us2, G1, G2, rfl, hG12, _, ⟨a, c, rfl, hc1, hc2, hsl⟩, rfl, rfl⟩ := hT; have hG1 : G1 = [] := (List.append_eq_nil_iff.1 hG12.symm).1; rw [hG1] at hsl; have hr1' : w.cell? ⟨b1, o1, none⟩ = some (.slice a b.Tiles.length c) := by have := hr1 0 _ rfl; rw [List.length_map] at this; exact this
  have hTA : T I w (.agg (Assembly.td.d false b)) nil (.agg #[.slice a b.Tiles.length c]) [] := (by rw [Assembly.td_d]; simp only [T, Cells]; exact ⟨_, rfl, _, [], [], [], rfl, rfl, rfl, ⟨a, c, by rw [List.length_map], hc1, hc2, hsl⟩, rfl, rfl⟩); have hcell : ∀ k, k < b.Tiles.length → ∃ bb o, a = some ⟨bb, o, none⟩ ∧ I bb ∧ w.cell? ⟨bb, o + k * 3, none⟩ = some (.int .i64 (b.Tiles.getD k pl0).At.X) ∧ w.cell? ⟨bb, o + k * 3 + 1, none⟩ = some (.int .i64 (b.Tiles.getD k pl0).At.Y) ∧ w.cell? ⟨bb, o + k * 3 + 2, none⟩ = some (.int .i64 (b.Tiles.getD k pl0).Tile) := by
    intro k hk; rcases hsl with ⟨_, _, hsl⟩ | ⟨hno, _⟩
    case inr => cases hno
    rcases hsl with hsl | ⟨bb, o, raw, rfl, hIb, hr, hR⟩
    · rw [List.map_eq_nil_iff] at hsl; rw [hsl] at hk; exact absurd hk (by simp)
    · obtain ⟨us, F', hC, _, hul, hat⟩ := Rows.at k hR (row := Placed.td.d false (b.Tiles.getD k pl0)) (by rw [List.getElem?_map, List.getElem?_eq_getElem hk, List.getD_eq_getElem?_getD, List.getElem?_eq_getElem hk]; rfl); rw [Placed.td_d] at hC; simp only [Cells, T] at hC; obtain ⟨u0, r0, A0, B0, rfl, _, _, ⟨rfl, _⟩, u1, r1, A1, B1, rfl, _, _, ⟨rfl, _⟩, u2, r2, A2, B2, rfl, _, _, ⟨rfl, _⟩, rfl, _⟩ := hC; refine ⟨bb, o, rfl, hIb, ?_, ?_, ?_⟩
      · have := hr _ _ (hat 0 _ rfl); simpa using this
      · have := hr _ _ (hat 1 _ rfl); rw [← Nat.add_assoc] at this; exact this
      · have := hr _ _ (hat 2 _ rfl); rw [← Nat.add_assoc] at this; exact this
  refine ⟨fun k => nbV ((nbI b.Tiles b.Tiles.length).getD k (0, 0, 0)), fun k x hx => ?_, ?_⟩
  · rw [List.getElem?_map] at hx; cases hr : (nbI b.Tiles b.Tiles.length)[k]? with
    | none => simp [hr] at hx
    | some y => simp only [hr, Option.map_some, Option.some.injEq] at hx; subst hx; show Vals I w (nbD y) nil (nbV ((nbI b.Tiles b.Tiles.length).getD k (0, 0, 0))) []; rw [List.getD_eq_getElem?_getD, hr]; simp only [Option.getD_some, nbD, nbV, Vals, T, Cells]; exact ⟨_, _, [], [], rfl, rfl, ⟨_, rfl, _, _, [], [], rfl, rfl, rfl, ⟨rfl, rfl⟩, _, _, [], [], rfl, rfl, rfl, ⟨rfl, rfl⟩, rfl, rfl⟩, _, _, [], [], rfl, rfl, ⟨rfl, rfl⟩, rfl, rfl⟩
  · rw [List.length_map]; intro l J Jx W hW hJ hJa hJp hJx hY h0; have hkeep0 : KeepB I w W := fun x hx => hW.block x (hI x hx); have hf1 : Fence.wide.fn 99 := trivial; have hf2 : Fence.wide.fn 113 := trivial; refine callsIn_of_wp Try.func112 rfl trivial ?_ rfl; simp only [Try.ntmps112, List.size_toArray, List.length_cons, List.length_nil, Nat.reduceAdd, Nat.reduceSub, Array.replicate_succ, Array.replicate_zero, List.push_toArray, List.append_toArray, List.nil_append, List.cons_append]; have hb1 : W.cell? ⟨b1, o1, none⟩ = some (.slice a b.Tiles.length c) := (World.cell?_of_block (w := w) (a := ⟨b1, o1, none⟩) (hkeep0 b1 hI1)).trans hr1'; simp only [Nat.add_zero]; clear hr1 hF hF' hG12 hsl hW
    gi_wp2
    gi_loopw [11] (fun i wr => ∃ m : Nat, m ≤ b.Tiles.length ∧ i = .int .i64 (m : Int) ∧ (∃ M, J (nbI b.Tiles m).length M wr) ∧ KeepB I w wr) (fun i _ => b.Tiles.length - (intOf i).toNat)
    case atStart => exact ⟨0, Nat.zero_le _, rfl, ⟨[], h0⟩, hkeep0⟩
    case round =>
      obtain ⟨m, hm, rfl, ⟨M, hJs⟩, hk⟩ := hrel; by_cases hlt : m < b.Tiles.length
      · obtain ⟨bb, o, rfl, hIb, c0, c1, c2⟩ := hcell m hlt; have d0 := (World.cell?_of_block (w := w) (a := ⟨bb, o + m * 3, none⟩) (hk bb hIb)).trans c0; have d1 := (World.cell?_of_block (w := w) (a := ⟨bb, o + m * 3 + 1, none⟩) (hk bb hIb)).trans c1; have d2 := (World.cell?_of_block (w := w) (a := ⟨bb, o + m * 3 + 2, none⟩) (hk bb hIb)).trans c2; have hpok : Point.td.ok (b.Tiles.getD m pl0).At := hok _ (by rw [List.getD_eq_getElem?_getD, List.getElem?_eq_getElem hlt]; exact List.getElem_mem hlt); have hnb : ∀ d, nbr b.Tiles m d = idxA b.Tiles (stepP (b.Tiles.getD m pl0).At d) := fun _ => rfl; generalize b.Tiles.getD m pl0 = pp at d0 d1 d2 hpok hnb; obtain ⟨⟨x, y⟩, t⟩ := pp; clear c0 c1 c2 hcell; have hli : (m : Int) < (b.Tiles.length : Int) := (by omega); obtain ⟨B1, hB1⟩ : ∃ B1, wr.heap.size = B1 := ⟨_, rfl⟩
        gi_wp2
        gi_loopw [18] (fun i w2 => ∃ j : Nat, j ≤ 2 ∧ i = .int .i64 (j : Int) ∧ J ((nbI b.Tiles m).length + (nbR b.Tiles m j).length) ((B1 + 1, .cells #[.int .i64 1, .int .i64 0] 2 (0, 0)) :: (B1, .cells #[.int .i64 x, .int .i64 y, .int .i64 t] 101 (0, 0)) :: M) w2 ∧ KeepB I w w2) (fun i _ => 2 - (intOf i).toNat)
        case atStart => have hbe : Below wr.heap.size wr ((wr.alloc (.cells #[.int .i64 x, .int .i64 y, .int .i64 t] 101)).alloc (.cells #[.int .i64 1, .int .i64 0] 2)) := ((Below.refl _ wr).alloc (Nat.le_refl _) _).alloc (by simp) _; refine ⟨0, by omega, rfl, ?_, fun z hz' => (hbe.block z (klt hI hk z hz')).trans (hk z hz')⟩; have h1 := hJa _ _ _ (.cells #[.int .i64 x, .int .i64 y, .int .i64 t] 101 (0, 0)) hJs; have h2 := hJa _ _ _ (.cells #[.int .i64 1, .int .i64 0] 2 (0, 0)) h1; rw [World.size_alloc, hB1] at h2; exact h2
        case round =>
          obtain ⟨j, hj, rfl, hJ2, hk2⟩ := hrel; have hp1 := hJp _ _ _ (B1 + 1, .cells #[.int .i64 1, .int .i64 0] 2 (0, 0)) hJ2 (by simp); have hp2 := hJp _ _ _ (B1, .cells #[.int .i64 x, .int .i64 y, .int .i64 t] 101 (0, 0)) hJ2 (by simp); have hb1lt : b1 < wr.heap.size := klt hI hk2 b1 hI1; have eb : wr.cell? ⟨b1, o1, none⟩ = some (.slice (some ⟨bb, o, none⟩) b.Tiles.length c) := (World.cell?_of_block (w := w) (a := ⟨b1, o1, none⟩) (hk2 b1 hI1)).trans hr1'; have e1 : wr.cell? ⟨B1, 0, none⟩ = some (.int .i64 x) := (by unfold World.cell?; simp only [hp2]; rfl); have e2 : wr.cell? ⟨B1, 1, none⟩ = some (.int .i64 y) := (by unfold World.cell?; simp only [hp2]; rfl); have e3 : wr.cell? ⟨B1, 2, none⟩ = some (.int .i64 t) := (by unfold World.cell?; simp only [hp2]; rfl); by_cases hj2 : j < 2
          · have e0 : wr.cell? ⟨B1 + 1, j, none⟩ = some (.int .i64 (dirO j : Int)) := by
              unfold World.cell?; simp only [hp1]; match j, hj2 with
              | 0, _ => rfl
              | 1, _ => rfl
            have hji : (j : Int) < 2 := by omega
            gi_wp2
            gi_region_with_o (first
              | (gi_at_call 99; refine (callsIn_wide.2 (c_step hG hI ⟨x, y⟩ hpok (dirO j) (dirO_lt j) _ (by exact hk2))).mono ?_; rintro e w3 ⟨rfl, hB3⟩; have eb3 := (hB3.cell (p := ⟨b1, o1, none⟩) hb1lt).trans eb; have hk3 : KeepB I w w3 := fun z hz' => (hB3.block z (klt hI hk2 z hz')).trans (hk2 z hz'))
              | (gi_at_call 113; refine (callsIn_wide.2 (c_place hn hG hI hTA (stepP ⟨x, y⟩ (dirO j)) _ (by exact hk3))).mono ?_; rintro e w4 ⟨rfl, hB4⟩))
            all_goals
              have hk4 : KeepB I w w4 := fun z hz' => (hB4.block z (klt hI hk3 z hz')).trans (hk3 z hz'); have hJ3 := hJ _ _ _ w3 hJ2 ⟨hB3.os, hB3.tape, hB3.output, hB3.size, hB3.block⟩; have hJ4 := hJ _ _ _ w4 hJ3 ⟨hB4.os, hB4.tape, hB4.output, hB4.size, hB4.block⟩; by_cases h0 : 0 ≤ nbr b.Tiles m (dirO j)
              · have hi := nb_hit b.Tiles hlt hj2 h0; have hy0 := hY _ _ w4 (List.getElem?_eq_some_iff.1 hi).1 hJ4; have hg : (nbI b.Tiles b.Tiles.length).getD ((nbI b.Tiles m).length + (nbR b.Tiles m j).length) (0, 0, 0) = (m, (nbr b.Tiles m (dirO j)).toNat, dirO j) := (by rw [List.getD_eq_getElem?_getD, hi]; rfl); rw [hg] at hy0; simp only [nbV] at hy0; have hnx := nbR_hit b.Tiles h0; rw [Int.toNat_of_nonneg h0, hnb] at hy0; rw [hnb] at h0; clear hY hi hg hnb hB3 hB4 hp1 hp2; generalize idxA b.Tiles (stepP ⟨x, y⟩ (dirO j)) = q at *; obtain ⟨fn, tmps, assign, body, hy, hR⟩ := hy0
                gi_wp2
                refine hR.mono ?_; rintro e W3 (⟨rfl, hJ5, hk5⟩ | ⟨rfl, hJx5⟩)
                · gi_wp2
                  go_roundw
                  case rel => exact ⟨j + 1, by omega, by simp, by rw [hnx, ← Nat.add_assoc]; exact hJ5, fun z hz' => (hk5 z hz').trans (hk4 z hz')⟩
                  case measure => simp [intOf]; omega
                · gi_wp2
                  refine bodyPost_ret (results_none rfl _ _ _) rfl ?_; exact ⟨⟨_, rfl⟩, .inr hJx5⟩
              · have hnx := nbR_miss b.Tiles h0; rw [hnb] at h0; clear hY hnb hB3 hB4 hp1 hp2; generalize idxA b.Tiles (stepP ⟨x, y⟩ (dirO j)) = q at *
                gi_wp2
                refine ⟨fun f h => (by cases h), ?_⟩
                gi_wp2
                go_roundw
                case rel => exact ⟨j + 1, by omega, by simp, by rw [hnx]; exact hJ4, hk4⟩
                case measure => simp [intOf]; omega
          · have hji : ¬ (j : Int) < 2 := (by omega); obtain rfl : j = 2 := (by omega); rw [← nbI_next] at hJ2
            gi_wp2
            exact ⟨⟨m + 1, by omega, by simp, ⟨_, hJ2⟩, hk2⟩, by simp [intOf]; omega⟩
      · have hge : ¬ (m : Int) < (b.Tiles.length : Int) := (by omega); obtain rfl : m = b.Tiles.length := by omega
        gi_wp2
        go_end0
        exact ⟨⟨_, rfl⟩, .inl ⟨M, hJs⟩⟩
end Go.Proofs.Ytgnlikamelfmjaa
