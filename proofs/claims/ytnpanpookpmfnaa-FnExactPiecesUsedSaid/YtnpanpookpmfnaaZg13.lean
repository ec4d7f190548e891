/- Laws that the proof stands on. -/
import Derived.Test.YtnpanpookpmfnaaZVB
import Derived.Test.YtnpanpookpmfnaaZg12
import Derived.Test.YtnpanpookpmfnaaZg8
import Derived.Test.YtnpanpookpmfnaaZg10
import Derived.Test.YtnpanpookpmfnaaZg9
set_option linter.all false
namespace Go.Proofs.Ytnpanpookpmfnaa
open Go.RowKit Go.V
set_option maxRecDepth 100000
theorem mkL_ok {α : Type} {ok : α → Prop} {mk : α → Int → α} {cn : α → Nat} (h : ∀ (x : α) (k : Int), 0 ≤ k → k + (cn x : Nat) ≤ 4611686018427387904 → ok (mk x k)) : ∀ (xs : List α) (k : Int), 0 ≤ k → k + (cnS cn xs : Nat) ≤ 4611686018427387904 → ∀ y, y ∈ mkL mk cn xs k → ok y
  | [], k, _, _, y, hy => by simp [mkL] at hy
  | x :: xs, k, h0, hk, y, hy => by
    have e : cnS cn (x :: xs) = cn x + cnS cn xs := (by unfold cnS; rw [List.map_cons, List.sum_cons]); unfold mkL at hy; rcases List.mem_cons.1 hy with rfl | hy
    · exact h x k h0 (by omega)
    · exact mkL_ok h xs _ (by omega) (by omega) y hy
theorem mkI_ok (x : Int) (k : Int) (h0 : 0 ≤ k) (hk : k + (1 : Nat) ≤ 4611686018427387904) : (TD.int .i64).ok k := show InK .i64 _ from ⟨by omega, by omega⟩
theorem v_eqInt64S (q : List Int) (hk : ∀ x, x ∈ q → (TD.int .i64).ok x) : Contract Try.prog NoG 12 [(.sl false 1 (q.map (rI))), (.sl false 1 (q.map (rI)))] (.v (.bool true)) := by refine contract_plain (fun us W => by kernel_rfl) fun w I us hI hV => ?_; obtain ⟨u0, us, rfl, hT0, hV⟩ := vals_one hV; obtain ⟨u1, us, rfl, hT1, hV⟩ := vals_one hV; obtain rfl := vals_none hV; have hr := TD.sl_dn (e := 2) (TD.int .i64) hk hI rfl hT0; have hs := TD.sl_dn (e := 2) (TD.int .i64) hk hI rfl hT1; exact eqInt64S_any _ _ q w w.heap.size (Nat.le_refl _) hr hs
theorem v_markInt64S (q : List Int) (hk : ∀ x, x ∈ q → (TD.int .i64).ok x) (k : Int) (h0 : 0 ≤ k) (h1 : k + (cnS (fun _ => 1) q : Nat) ≤ 4611686018427387904) : ContractL Try.prog NoG 15 0 [.undef, .v (.int .i64 k)] (.sl true 1 (q.map (rI))) (.v (.int .i64 (k + (cnS (fun _ => 1) q : Nat)))) (.sl false 1 ((mkL (fun _ n => n) (fun _ => 1) q k).map (rI))) := by exact mark_sl (e := 2) (TD.int .i64) (fun us W => by kernel_rfl) hk fun w u X ho hn hX => markInt64S_any u q k X w ho hn hX h0 h1
theorem v_heldInt64S (q : List Int) (k : Int) (h0 : 0 ≤ k) (h1 : k + (cnS (fun _ => 1) q : Nat) ≤ 4611686018427387904) : Contract Try.prog NoG 16 [(.sl false 1 ((mkL (fun _ n => n) (fun _ => 1) q k).map (rI))), .v (.int .i64 k)] (.v (.int .i64 (k + (cnS (fun _ => 1) q : Nat)))) := by refine contract_plain (fun us W => by kernel_rfl) fun w I us hI hV => ?_; obtain ⟨u0, us, rfl, hT0, hV⟩ := vals_one hV; obtain ⟨u1, us, rfl, hT1, hV⟩ := vals_one hV; obtain rfl := vals_none hV; obtain rfl := T_v hT1; have hr := TD.sl_dn (e := 2) (TD.int .i64) (mkL_ok (ok := (TD.int .i64).ok) mkI_ok q k h0 h1) hI rfl hT0; exact heldInt64S_any _ q k w w.heap.size (Nat.le_refl _) hr h0 h1
theorem v_szDesign (q : Design) (hk : Design.td.ok q) (l : Int) (h0 : 0 ≤ l) (h1 : l ≤ 1048576) : Contract Try.prog NoG 8 [.agg (Design.td.d false q), .v (.int .i64 l)] (.v (.int .i64 (szR l (Design.cnt q)))) := by refine contract_plain (fun us W => by kernel_rfl) fun w I us hI hV => ?_; obtain ⟨u0, us, rfl, hT0, hV⟩ := vals_one hV; obtain ⟨u1, us, rfl, hT1, hV⟩ := vals_one hV; obtain rfl := vals_none hV; obtain rfl := T_v hT1; obtain ⟨cs, rfl, hr⟩ := TD.agg_dn Design.td hk hI rfl hT0; obtain ⟨v0, v1, v2, rfl, z0, z1, z2⟩ := Design.cells hr; exact szDesign_any v0 v1 v2 q l h0 h1 w w.heap.size (Nat.le_refl _) z0 z1 z2
theorem v_eqDesign (q : Design) (hk : Design.td.ok q) : Contract Try.prog NoG 13 [.agg (Design.td.d false q), .agg (Design.td.d false q)] (.v (.bool true)) := by refine contract_plain (fun us W => by kernel_rfl) fun w I us hI hV => ?_; obtain ⟨u0, us, rfl, hT0, hV⟩ := vals_one hV; obtain ⟨u1, us, rfl, hT1, hV⟩ := vals_one hV; obtain rfl := vals_none hV; obtain ⟨cs, rfl, hr⟩ := TD.agg_dn Design.td hk hI rfl hT0; obtain ⟨ds, rfl, hs⟩ := TD.agg_dn Design.td hk hI rfl hT1; obtain ⟨v0, v1, v2, rfl, z0, z1, z2⟩ := Design.cells hr; obtain ⟨x0, x1, x2, rfl, y0, y1, y2⟩ := Design.cells hs; exact eqDesign_any v0 v1 v2 x0 x1 x2 q w w.heap.size (Nat.le_refl _) z0 z1 z2 y0 y1 y2
theorem v_markDesign (q : Design) (hk : Design.td.ok q) (k : Int) (h0 : 0 ≤ k) (h1 : k + (Design.cnT q : Nat) ≤ 4611686018427387904) : ContractL Try.prog NoG 14 0 [.undef, .v (.int .i64 k)] (.agg (Design.td.d true q)) (.v (.int .i64 (k + (Design.cnT q : Nat)))) (.agg (Design.td.d false (Design.mkT q k))) := by refine mark_agg Design.td (fun us W => by kernel_rfl) hk fun w cs X ho hn hX => ?_; have hr := Ty.own_lt _ ho; obtain ⟨v0, v1, v2, rfl, z0, z1, z2⟩ := Design.cells hr; exact markDesign_any v0 v1 v2 q k X w ho hn hX h0 h1
end Go.Proofs.Ytnpanpookpmfnaa
