/- Laws that the proof stands on. -/
import Derived.Test.YtlmkgjigldmbaaaDoorZVB
import Derived.Test.YtlmkgjigldmbaaaDoorZVTab
import Derived.Test.YtlmkgjigldmbaaaDoorZg5
import Derived.Shelf.Strconv.Itoa4
import Derived.Test.YtlmkgjigldmbaaaDoorZg13
import Derived.Test.YtlmkgjigldmbaaaDoorZg11
import Derived.Test.YtlmkgjigldmbaaaDoorZTyBase
import Derived.Test.YtlmkgjigldmbaaaDoorZg12
set_option linter.all false
namespace Go.Proofs.YtlmkgjigldmbaaaDoor
open Go.RowKit Go.V
set_option maxRecDepth 100000
theorem below_grow (w : World) (k : Nat) (os : Array Obj) : Below w.heap.size w (Sort.grow (w.drewN k) os) :=
  ⟨rfl, rfl, rfl, by simp [Sort.grow], fun i hi => by simp only [Sort.grow, World.heap_drewN]; rw [Array.getElem?_append_left hi]⟩
def itoaS (n : Int) : List UInt8 := Lib.itoa n
theorem v_FormatInt (n : Int) (hn : InK .i64 n) : Contract Tryd.prog TabG 82 [.v (.int .i64 n), .v (.int .i64 10)] (.v (.string ⟨(itoaS n).toArray⟩)) := by
  refine ⟨fun us W => by kernel_rfl, fun w I us hG hI hV => ?_⟩; obtain ⟨J, hJ, ht, _⟩ := hG; simp only [Vals, T] at hV; obtain ⟨_, _, _, _, rfl, _, ⟨rfl, _⟩, _, _, _, _, rfl, _, ⟨rfl, _⟩, rfl, _⟩ := hV; have h : -9223372036854775808 ≤ n ∧ n ≤ 9223372036854775807 := by have := hn; unfold InK at this; omega
  refine (Any.strconv_FormatInt_10 Tryd.lays173 n (by omega) (by omega) w ht).mono ?_; rintro e w' ⟨rfl, k, os, rfl⟩; refine ⟨_, [], I, rfl, below_grow w k os, by simp only [T]; exact ⟨rfl, trivial⟩, List.nodup_nil, (fun b h => by cases h), fun b h => h, fun b h => ⟨.inl h, ?_⟩⟩; have := hI b h; simp only [Sort.grow, World.heap_drewN, Array.size_append]; omega
theorem v_szProof (q : Proof) (hk : Proof.td.ok q) (l : Int) (h0 : 0 ≤ l) (h1 : l ≤ 1048576) : Contract Tryd.prog TabG 5 [.agg (Proof.td.d false q), .v (.int .i64 l)] (.v (.int .i64 (szR l (Proof.cnt q)))) := by refine contract_plain (fun us W => by kernel_rfl) fun w I us hI hV => ?_; obtain ⟨u0, us, rfl, hT0, hV⟩ := vals_one hV; obtain ⟨u1, us, rfl, hT1, hV⟩ := vals_one hV; obtain rfl := vals_none hV; obtain rfl := T_v hT1; obtain ⟨cs, rfl, hr⟩ := TD.agg_dn Proof.td hk hI rfl hT0; obtain ⟨v0, v1, v2, v3, rfl, z0, z1, z2, z3, z4⟩ := Proof.cells hr; exact szProof_any v0 v1 v2 v3 q l h0 h1 w w.heap.size (Nat.le_refl _) z1 z2 z3 z4
theorem v_eqProof (q : Proof) (hk : Proof.td.ok q) : Contract Tryd.prog TabG 9 [.agg (Proof.td.d false q), .agg (Proof.td.d false q)] (.v (.bool true)) := by refine contract_plain (fun us W => by kernel_rfl) fun w I us hI hV => ?_; obtain ⟨u0, us, rfl, hT0, hV⟩ := vals_one hV; obtain ⟨u1, us, rfl, hT1, hV⟩ := vals_one hV; obtain rfl := vals_none hV; obtain ⟨cs, rfl, hr⟩ := TD.agg_dn Proof.td hk hI rfl hT0; obtain ⟨ds, rfl, hs⟩ := TD.agg_dn Proof.td hk hI rfl hT1; obtain ⟨v0, v1, v2, v3, rfl, z0, z1, z2, z3, z4⟩ := Proof.cells hr; obtain ⟨x0, x1, x2, x3, rfl, y0, y1, y2, y3, y4⟩ := Proof.cells hs; exact eqProof_any v0 v1 v2 v3 x0 x1 x2 x3 q w w.heap.size (Nat.le_refl _) z1 z2 z3 z4 y1 y2 y3 y4
end Go.Proofs.YtlmkgjigldmbaaaDoor
