/- Laws that the proof stands on. -/
import Derived.Test.YtbflchedmfeghaaDoorZg11
import Derived.Test.YtbflchedmfeghaaDoorZVB
import Derived.Test.YtbflchedmfeghaaDoorZg6
import Derived.Test.YtbflchedmfeghaaDoorZVTab
import Derived.Test.YtbflchedmfeghaaDoorZg10
import Derived.Test.YtbflchedmfeghaaDoorZg7
set_option linter.all false
namespace Go.Proofs.YtbflchedmfeghaaDoor
open Go.RowKit Go.V
set_option maxRecDepth 100000
theorem mkL_ok {α : Type} {ok : α → Prop} {mk : α → Int → α} {cn : α → Nat} (h : ∀ (x : α) (k : Int), 0 ≤ k → k + (cn x : Nat) ≤ 4611686018427387904 → ok (mk x k)) : ∀ (xs : List α) (k : Int), 0 ≤ k → k + (cnS cn xs : Nat) ≤ 4611686018427387904 → ∀ y, y ∈ mkL mk cn xs k → ok y
  | [], k, _, _, y, hy => by simp [mkL] at hy
  | x :: xs, k, h0, hk, y, hy => by
    have e : cnS cn (x :: xs) = cn x + cnS cn xs := (by unfold cnS; rw [List.map_cons, List.sum_cons]); unfold mkL at hy; rcases List.mem_cons.1 hy with rfl | hy
    · exact h x k h0 (by omega)
    · exact mkL_ok h xs _ (by omega) (by omega) y hy
theorem mkI_ok (x : Int) (k : Int) (h0 : 0 ≤ k) (hk : k + (1 : Nat) ≤ 4611686018427387904) : (TD.int .i64).ok k := show InK .i64 _ from ⟨by omega, by omega⟩
theorem v_eqInt64S (q : List Int) (hk : ∀ x, x ∈ q → (TD.int .i64).ok x) : Contract Tryd.prog TabG 16 [(.sl false 1 (q.map (rI))), (.sl false 1 (q.map (rI)))] (.v (.bool true)) := by refine contract_plain (fun us W => by kernel_rfl) fun w I us hI hV => ?_; obtain ⟨u0, us, rfl, hT0, hV⟩ := vals_one hV; obtain ⟨u1, us, rfl, hT1, hV⟩ := vals_one hV; obtain rfl := vals_none hV; have hr := TD.sl_dn (e := 2) (TD.int .i64) hk hI rfl hT0; have hs := TD.sl_dn (e := 2) (TD.int .i64) hk hI rfl hT1; exact eqInt64S_any _ _ q w w.heap.size (Nat.le_refl _) hr hs
theorem v_markInt64S (q : List Int) (hk : ∀ x, x ∈ q → (TD.int .i64).ok x) (k : Int) (h0 : 0 ≤ k) (h1 : k + (cnS (fun _ => 1) q : Nat) ≤ 4611686018427387904) : ContractL Tryd.prog TabG 17 0 [.undef, .v (.int .i64 k)] (.sl true 1 (q.map (rI))) (.v (.int .i64 (k + (cnS (fun _ => 1) q : Nat)))) (.sl false 1 ((mkL (fun _ n => n) (fun _ => 1) q k).map (rI))) := by exact mark_sl (e := 2) (TD.int .i64) (fun us W => by kernel_rfl) hk fun w u X ho hn hX => markInt64S_any u q k X w ho hn hX h0 h1
theorem Point.mkE_ok (x : Point) (k : Int) (h0 : 0 ≤ k) (hk : k + (Point.cnE x : Nat) ≤ 4611686018427387904) : Point.td.ok (Point.mkE x k) := by have hc : Point.cnE x = 1 + 1 := rfl; rw [Point.td_ok]; exact ⟨(show InK .i64 (k) from ⟨by omega, by omega⟩), (show InK .i64 ((k + 1)) from ⟨by omega, by omega⟩)⟩
theorem Placed.mkE_ok (x : Placed) (k : Int) (h0 : 0 ≤ k) (hk : k + (Placed.cnE x : Nat) ≤ 4611686018427387904) : Placed.td.ok (Placed.mkE x k) := by have hc : Placed.cnE x = 1 + 1 + 1 := rfl; rw [Placed.td_ok]; exact ⟨(by rw [Point.td_ok]; exact ⟨(show InK .i64 (k) from ⟨by omega, by omega⟩), (show InK .i64 ((k + 1)) from ⟨by omega, by omega⟩)⟩), (show InK .i64 (((k + 1) + 1)) from ⟨by omega, by omega⟩)⟩
theorem Assembly.mkE_ok (x : Assembly) (k : Int) (h0 : 0 ≤ k) (hk : k + (Assembly.cnE x : Nat) ≤ 4611686018427387904) : Assembly.td.ok (Assembly.mkE x k) := by have hc : Assembly.cnE x = cnS Placed.cnE x.Tiles := rfl; rw [Assembly.td_ok]; exact (mkL_ok (ok := Placed.td.ok) Placed.mkE_ok _ k (by omega) (by omega))
theorem Assembly.mkT_ok (x : Assembly) (hx : Assembly.td.ok x) (k : Int) (h0 : 0 ≤ k) (hk : k + (Assembly.cnT x : Nat) ≤ 4611686018427387904) : Assembly.td.ok (Assembly.mkT x k) := by have hc : Assembly.cnT x = cnS Placed.cnE x.Tiles := rfl; rw [Assembly.td_ok] at hx; rw [Assembly.td_ok]; exact (mkL_ok (ok := Placed.td.ok) Placed.mkE_ok _ k (by omega) (by omega))
end Go.Proofs.YtbflchedmfeghaaDoor
