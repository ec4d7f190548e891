/- Laws that the proof stands on. -/
import Derived.Test.YtjalagigmelcaaaZg12
import Derived.Test.YtjalagigmelcaaaZVB
import Derived.Test.YtjalagigmelcaaaZg10
import Derived.Test.YtjalagigmelcaaaZg5
import Derived.Test.YtjalagigmelcaaaZg11
import Derived.Test.YtjalagigmelcaaaProg
set_option linter.all false
namespace Go.Proofs.Ytjalagigmelcaaa
open Go.RowKit Go.V
set_option maxRecDepth 100000
theorem all_next {f : Nat → Bool} {i : Nat} (h : (List.range i).all f = true) (hi : f i = true) : (List.range (i + 1)).all f = true := by rw [List.range_succ, List.all_append, h]; simp [hi]
theorem mkL_ok {α : Type} {ok : α → Prop} {mk : α → Int → α} {cn : α → Nat} (h : ∀ (x : α) (k : Int), 0 ≤ k → k + (cn x : Nat) ≤ 4611686018427387904 → ok (mk x k)) : ∀ (xs : List α) (k : Int), 0 ≤ k → k + (cnS cn xs : Nat) ≤ 4611686018427387904 → ∀ y, y ∈ mkL mk cn xs k → ok y
  | [], k, _, _, y, hy => by simp [mkL] at hy
  | x :: xs, k, h0, hk, y, hy => by
    have e : cnS cn (x :: xs) = cn x + cnS cn xs := (by unfold cnS; rw [List.map_cons, List.sum_cons]); unfold mkL at hy; rcases List.mem_cons.1 hy with rfl | hy
    · exact h x k h0 (by omega)
    · exact mkL_ok h xs _ (by omega) (by omega) y hy
theorem Point.mkE_ok (x : Point) (k : Int) (h0 : 0 ≤ k) (hk : k + (Point.cnE x : Nat) ≤ 4611686018427387904) : Point.td.ok (Point.mkE x k) := by have hc : Point.cnE x = 1 + 1 := rfl; rw [Point.td_ok]; exact ⟨(show InK .i64 (k) from ⟨by omega, by omega⟩), (show InK .i64 ((k + 1)) from ⟨by omega, by omega⟩)⟩
theorem Placed.mkE_ok (x : Placed) (k : Int) (h0 : 0 ≤ k) (hk : k + (Placed.cnE x : Nat) ≤ 4611686018427387904) : Placed.td.ok (Placed.mkE x k) := by have hc : Placed.cnE x = 1 + 1 + 1 := rfl; rw [Placed.td_ok]; exact ⟨(by rw [Point.td_ok]; exact ⟨(show InK .i64 (k) from ⟨by omega, by omega⟩), (show InK .i64 ((k + 1)) from ⟨by omega, by omega⟩)⟩), (show InK .i64 (((k + 1) + 1)) from ⟨by omega, by omega⟩)⟩
theorem Assembly.mkE_ok (x : Assembly) (k : Int) (h0 : 0 ≤ k) (hk : k + (Assembly.cnE x : Nat) ≤ 4611686018427387904) : Assembly.td.ok (Assembly.mkE x k) := by have hc : Assembly.cnE x = cnS Placed.cnE x.Tiles := rfl; rw [Assembly.td_ok]; exact (mkL_ok (ok := Placed.td.ok) Placed.mkE_ok _ k (by omega) (by omega))
theorem v_szAssembly (q : Assembly) (hk : Assembly.td.ok q) (l : Int) (h0 : 0 ≤ l) (h1 : l ≤ 1048576) : Contract Try.prog NoG 5 [.agg (Assembly.td.d false q), .v (.int .i64 l)] (.v (.int .i64 (szR l (Assembly.cnt q)))) := by refine contract_plain (fun us W => by kernel_rfl) fun w I us hI hV => ?_; obtain ⟨u0, us, rfl, hT0, hV⟩ := vals_one hV; obtain ⟨u1, us, rfl, hT1, hV⟩ := vals_one hV; obtain rfl := vals_none hV; obtain rfl := T_v hT1; obtain ⟨cs, rfl, hr⟩ := TD.agg_dn Assembly.td hk hI rfl hT0; obtain ⟨v0, rfl, z0⟩ := Assembly.cells hr; exact szAssembly_any v0 q l h0 h1 w w.heap.size (Nat.le_refl _) z0
theorem v_eqAssembly (q : Assembly) (hk : Assembly.td.ok q) : Contract Try.prog NoG 9 [.agg (Assembly.td.d false q), .agg (Assembly.td.d false q)] (.v (.bool true)) := by refine contract_plain (fun us W => by kernel_rfl) fun w I us hI hV => ?_; obtain ⟨u0, us, rfl, hT0, hV⟩ := vals_one hV; obtain ⟨u1, us, rfl, hT1, hV⟩ := vals_one hV; obtain rfl := vals_none hV; obtain ⟨cs, rfl, hr⟩ := TD.agg_dn Assembly.td hk hI rfl hT0; obtain ⟨ds, rfl, hs⟩ := TD.agg_dn Assembly.td hk hI rfl hT1; obtain ⟨v0, rfl, z0⟩ := Assembly.cells hr; obtain ⟨x0, rfl, y0⟩ := Assembly.cells hs; exact eqAssembly_any v0 x0 q w w.heap.size (Nat.le_refl _) z0 y0
theorem Assembly.mkT_ok (x : Assembly) (hx : Assembly.td.ok x) (k : Int) (h0 : 0 ≤ k) (hk : k + (Assembly.cnT x : Nat) ≤ 4611686018427387904) : Assembly.td.ok (Assembly.mkT x k) := by have hc : Assembly.cnT x = cnS Placed.cnE x.Tiles := rfl; rw [Assembly.td_ok] at hx; rw [Assembly.td_ok]; exact (mkL_ok (ok := Placed.td.ok) Placed.mkE_ok _ k (by omega) (by omega))
theorem v_markAssembly (q : Assembly) (hk : Assembly.td.ok q) (k : Int) (h0 : 0 ≤ k) (h1 : k + (Assembly.cnT q : Nat) ≤ 4611686018427387904) : ContractL Try.prog NoG 10 0 [.undef, .v (.int .i64 k)] (.agg (Assembly.td.d true q)) (.v (.int .i64 (k + (Assembly.cnT q : Nat)))) (.agg (Assembly.td.d false (Assembly.mkT q k))) := by refine mark_agg Assembly.td (fun us W => by kernel_rfl) hk fun w cs X ho hn hX => ?_; have hr := Ty.own_lt _ ho; obtain ⟨v0, rfl, z0⟩ := Assembly.cells hr; exact markAssembly_any v0 q k X w ho hn hX h0 h1
theorem v_heldAssembly (q : Assembly) (hk : Assembly.td.ok q) (k : Int) (h0 : 0 ≤ k) (h1 : k + (Assembly.cnT q : Nat) ≤ 4611686018427387904) : Contract Try.prog NoG 11 [.agg (Assembly.td.d false (Assembly.mkT q k)), .v (.int .i64 k)] (.v (.int .i64 (k + (Assembly.cnT q : Nat)))) := by refine contract_plain (fun us W => by kernel_rfl) fun w I us hI hV => ?_; obtain ⟨u0, us, rfl, hT0, hV⟩ := vals_one hV; obtain ⟨u1, us, rfl, hT1, hV⟩ := vals_one hV; obtain rfl := vals_none hV; obtain rfl := T_v hT1; obtain ⟨cs, rfl, hr⟩ := TD.agg_dn Assembly.td (Assembly.mkT_ok q hk k h0 h1) hI rfl hT0; have hr0 := hr; obtain ⟨v0, rfl, z0⟩ := Assembly.cells hr; exact heldAssembly_any v0 q k w w.heap.size (Nat.le_refl _) hr0 h0 h1
end Go.Proofs.Ytjalagigmelcaaa
