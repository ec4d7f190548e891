/- Laws that the proof stands on. -/
import Derived.Test.YtlmkgjigldmbaaaDoorZLib
set_option linter.all false
namespace Go.Proofs.YtlmkgjigldmbaaaDoor
open Go.RowKit Go.ChangeShapes Go.WideShapes Go.Deep
structure Chg (F : List Nat) (w w' : World) : Prop where
  below : Below 0 w w'
  keep : ∀ b, b < w.heap.size → b ∉ F → w'.heap[b]? = w.heap[b]?
theorem Chg.refl (F : List Nat) (w : World) : Chg F w w := ⟨Below.refl _ _, fun _ _ _ => rfl⟩
theorem Chg.size {F : List Nat} {w w' : World} (h : Chg F w w') : w.heap.size ≤ w'.heap.size := h.below.size
theorem Chg.trans {F : List Nat} {a b c : World} (h : Chg F a b) (k : Chg F b c) : Chg F a c := ⟨h.below.trans k.below, fun x hx hF => (k.keep x (Nat.lt_of_lt_of_le hx h.size) hF).trans (h.keep x hx hF)⟩
theorem Chg.mono {F G : List Nat} {w w' : World} (h : Chg F w w') (hs : ∀ b, b ∈ F → b ∈ G) : Chg G w w' := ⟨h.below, fun b hb hG => h.keep b hb (fun hF => hG (hs b hF))⟩
theorem Chg.set {F : List Nat} {a w : World} (h : Chg F a w) {g : Nat} (hg : g ∈ F) (i : Nat) (v : Value) : Chg F a (w.setCell ⟨g, i, none⟩ v) :=
  h.trans ⟨(Below.refl 0 w).setCell (p := ⟨g, i, none⟩) (Nat.zero_le _) v, fun b _ hF => Below.heap_setCell _ _ _ _ (fun e => hF (by rw [e]; exact hg))⟩
theorem Chg.own {F G : List Nat} {w w' : World} {α : Type} {t : Ty α} {cs : List Value} {x : α} (h : Chg F w w') (ho : t.own w cs x G) (hd : ∀ b, b ∈ G → b ∉ F) (hs : ∀ b, b ∈ G → b < w.heap.size) : t.own w' cs x G :=
  t.own_keep (fun b hb => h.keep b (hs b hb) (hd b hb)) ho
/-! ### A hole in a block: s cells from q on -/
/-! ### An element of a row, taken out and put back -/
theorem RowsO.split {α : Type} {R : List Value → α → List Nat → Prop} {size : Nat} (hsz : ∀ cs x F, R cs x F → cs.length = size) : ∀ {raw : List Value} {xs : List α} {F : List Nat}, RowsO R raw xs F → ∀ k (hk : k < xs.length),
    ∃ A cs C F1 Fk F2, raw = A ++ (cs ++ C) ∧ F = F1 ++ (Fk ++ F2) ∧ R cs xs[k] Fk ∧ A.length = k * size ∧
      ∀ {R' : List Value → α → List Nat → Prop} {cs' : List Value} {x' : α}, (∀ c x G, (∀ b, b ∈ G → b ∈ F1 ∨ b ∈ F2) → R c x G → R' c x G) → R' cs' x' Fk → RowsO R' (A ++ (cs' ++ C)) (xs.set k x') F
  | _, [], _, _, k, hk => absurd hk (by simp)
  | _, x :: xs, _, ⟨cs, raw', F1, F2, e, eF, hx, hr⟩, 0, _ => by refine ⟨[], cs, raw', [], F1, F2, by simpa using e, by simpa using eF, hx, by simp, fun hR hx' => ?_⟩; exact ⟨_, raw', F1, F2, rfl, eF, hx', RowsO.mono (P := fun b => b ∈ F2) (fun c y G hy hG => hR c y G (fun b hb => .inr (hG b hb)) hy) hr (fun _ h => h)⟩
  | _, x :: xs, _, ⟨cs, raw', F1, F2, e, eF, hx, hr⟩, k + 1, hk => by
    obtain ⟨A, c, C, G1, Gk, G2, er, eG, hc, hA, hput⟩ := RowsO.split hsz hr k (by simpa using hk); refine ⟨cs ++ A, c, C, F1 ++ G1, Gk, G2, by rw [e, er, List.append_assoc], by rw [eF, eG, List.append_assoc], by simpa using hc, ?_, fun hR hx' => ?_⟩
    · rw [List.length_append, hA, hsz _ _ _ hx, Nat.add_mul]; omega
    · refine ⟨cs, A ++ (_ ++ C), F1, F2, by rw [List.append_assoc], eF, hR _ _ _ (fun b hb => .inl (List.mem_append_left _ hb)) hx, ?_⟩; exact hput (fun c y G hG => hR c y G (fun b hb => by rcases hG b hb with h | h; exact .inl (List.mem_append_right _ h); exact .inr h)) hx'
/-! ### What a row of marks is -/
/-! ### Marks in data of one's own -/
end Go.Proofs.YtlmkgjigldmbaaaDoor
