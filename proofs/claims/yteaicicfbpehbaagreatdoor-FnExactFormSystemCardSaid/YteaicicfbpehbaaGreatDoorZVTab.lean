/- Laws that the proof stands on. -/
import Derived.Test.YteaicicfbpehbaaGreatDoorZVd
import Derived.Test.YteaicicfbpehbaaGreatDoorProg
import Derived.Lib.LaidTab
import Derived.Lib.ItoaNum
import Derived.Stop.LaidErr
set_option linter.all false
namespace Go.Proofs.YteaicicfbpehbaaGreatDoor
open Go.RowKit Go.V
def zA8 : World → (Nat → Prop) → Prop := fun w J => Lib.TabIs Tryz.prog w "internal/strconv.uint64pow10" .u64 Lib.pow10Tab ∧ ∀ g, Tryz.prog.globalNamed "internal/strconv.uint64pow10" = some g → J g
theorem zDy:yOs zA8:=fun w w' J hk h=>by
  refine ⟨?_, h.2⟩; have h1 := h.1; unfold Lib.TabIs World.var? at h1 ⊢; cases hg : Tryz.prog.globalNamed "internal/strconv.uint64pow10" with
  | none=>rw [hg] at h1;exact h1
  | some g=>rw [hg] at h1;simp only [Option.bind_some] at h1 ⊢;rw [hk g (h.2 g hg)];exact h1
theorem zEw {W : World} {rest : List (String × DataW Unit)} (h : laidMet Tryz.prog (("internal/strconv.uint64pow10", Lib.tabData .u64 Lib.pow10Tab) :: rest) W) : GI zA8 W (fun b => b < W.heap.size) := by
  have hg : Tryz.prog.globalNamed "internal/strconv.uint64pow10" = some ((Tryz.prog.globalNamed "internal/strconv.uint64pow10").getD 0) := (by kernel_rfl); have ht : Lib.TabIs Tryz.prog W "internal/strconv.uint64pow10" .u64 Lib.pow10Tab :=
    Lib.tabIs_of_head (g := (Tryz.prog.globalNamed "internal/strconv.uint64pow10").getD 0) (t := 153) (e := 146) (n := 20) hg (by kernel_rfl) Tryz.underlying153 Tryz.underlying146 (by kernel_rfl) (by kernel_rfl) h
  refine ⟨fun b=>b < W.heap.size,fun _ h=>h,ht,fun g hg=>?_⟩;unfold Lib.TabIs World.var? at ht;rw [hg] at ht;simp only [Option.bind_some] at ht;by_cases hlt:g < W.heap.size
  · exact hlt
  · rw [Array.getElem?_eq_none (by omega)] at ht;cases ht
end Go.Proofs.YteaicicfbpehbaaGreatDoor
