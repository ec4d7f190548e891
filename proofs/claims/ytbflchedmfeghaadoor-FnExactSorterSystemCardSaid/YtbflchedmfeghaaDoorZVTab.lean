/- Laws that the proof stands on. -/
import Derived.Test.YtbflchedmfeghaaDoorZVd
import Derived.Test.YtbflchedmfeghaaDoorProg
import Derived.Lib.LaidTab
import Derived.Lib.ItoaNum
import Derived.Stop.LaidErr
set_option linter.all false
namespace Go.Proofs.YtbflchedmfeghaaDoor
open Go.RowKit Go.V
def TabG : World → (Nat → Prop) → Prop := fun w J => Lib.TabIs Tryd.prog w "internal/strconv.uint64pow10" .u64 Lib.pow10Tab ∧ ∀ g, Tryd.prog.globalNamed "internal/strconv.uint64pow10" = some g → J g
theorem tabG : Stab TabG := fun w w' J hk h => by
  refine ⟨?_, h.2⟩; have h1 := h.1; unfold Lib.TabIs World.var? at h1 ⊢; cases hg : Tryd.prog.globalNamed "internal/strconv.uint64pow10" with
  | none => rw [hg] at h1; exact h1
  | some g => rw [hg] at h1; simp only [Option.bind_some] at h1 ⊢; rw [hk g (h.2 g hg)]; exact h1
theorem tab_of_laid {W : World} {rest : List (String × DataW Unit)} (h : laidMet Tryd.prog (("internal/strconv.uint64pow10", Lib.tabData .u64 Lib.pow10Tab) :: rest) W) : GI TabG W (fun b => b < W.heap.size) := by
  have hg : Tryd.prog.globalNamed "internal/strconv.uint64pow10" = some ((Tryd.prog.globalNamed "internal/strconv.uint64pow10").getD 0) := (by kernel_rfl); have ht : Lib.TabIs Tryd.prog W "internal/strconv.uint64pow10" .u64 Lib.pow10Tab :=
    Lib.tabIs_of_head (g := (Tryd.prog.globalNamed "internal/strconv.uint64pow10").getD 0) (t := 115) (e := 108) (n := 20) hg (by kernel_rfl) Tryd.underlying115 Tryd.underlying108 (by kernel_rfl) (by kernel_rfl) h
  refine ⟨fun b => b < W.heap.size, fun _ h => h, ht, fun g hg => ?_⟩; unfold Lib.TabIs World.var? at ht; rw [hg] at ht; simp only [Option.bind_some] at ht; by_cases hlt : g < W.heap.size
  · exact hlt
  · rw [Array.getElem?_eq_none (by omega)] at ht; cases ht
end Go.Proofs.YtbflchedmfeghaaDoor
