/- Laws that the proof stands on. -/
import Derived.Test.YtdlchnlpmofpmaaGreatDoorZVd
import Derived.Test.YtdlchnlpmofpmaaGreatDoorProg
import Derived.Lib.LaidTab
import Derived.Lib.ItoaNum
import Derived.Stop.LaidErr
set_option linter.all false
namespace Go.Proofs.YtdlchnlpmofpmaaGreatDoor
open Go.RowKit Go.V
noncomputable def yVl : Nat := (Tryz.prog.globalNamed "strconv.ErrSyntax").getD 0
noncomputable def yVm : Nat := (Tryz.prog.globalNamed "strconv.ErrRange").getD 0
noncomputable def yVn : Nat := (Tryz.prog.globalNamed "errors.errorType").getD 0
def yVx:Nat:=59
structure ErrG (w:World) (J:Nat→Prop):Prop where
  syn:∃ te pe,w.cell? ⟨yVl,0,none⟩=some (.iface te pe)
  ran:∃ te pe,w.cell? ⟨yVm,0,none⟩=some (.iface te pe)
  err : ∃ rt, (Tryz.prog.cutTypes.find? (·.1 == "internal/reflectlite.rtype")).map (·.2) = some rt ∧ w.cell? ⟨yVn, 0, none⟩ = some (.iface rt (.agg #[.pointer (some ⟨Tryz.prog.globals.size, yVx, none⟩)]))
  jsyn:J yVl
  jran:J yVm
  jerr:J yVn
def zAr : World → (Nat → Prop) → Prop := fun w J => Lib.TabIs Tryz.prog w "internal/strconv.uint64pow10" .u64 Lib.pow10Tab ∧ (∀ g, Tryz.prog.globalNamed "internal/strconv.uint64pow10" = some g → J g) ∧ ErrG w J
theorem zC6:yQw zAr:=fun w w' J hk h=>by
  refine ⟨?_,h.2.1,?_⟩
  · have h1 := h.1; unfold Lib.TabIs World.var? at h1 ⊢; cases hg : Tryz.prog.globalNamed "internal/strconv.uint64pow10" with
    | none=>rw [hg] at h1;exact h1
    | some g=>rw [hg] at h1;simp only [Option.bind_some] at h1 ⊢;rw [hk g (h.2.1 g hg)];exact h1
  · obtain ⟨⟨a1,a2,ha⟩,⟨b1,b2,hb⟩,⟨rt,c1,hc⟩,j1,j2,j3⟩:=h.2.2;have kc:∀ g,J g→w'.cell? ⟨g,0,none⟩=w.cell? ⟨g,0,none⟩:=fun g hg=>World.cell?_of_block (hk g hg);exact ⟨⟨a1,a2,(kc _ j1).trans ha⟩,⟨b1,b2,(kc _ j2).trans hb⟩,⟨rt,c1,(kc _ j3).trans hc⟩,j1,j2,j3⟩
theorem gof (n:String)(g:Nat)(h:Tryz.prog.globalNamed n=some g){W:World}{cs:Array Value}(hv:W.var? Tryz.prog n=some cs):g<W.heap.size∧∀ k v,cs[k]?=some v→W.cell? ⟨g,k,none⟩=some v:=by
  refine ⟨?_,fun k v hk=>by rw [World.var?_cell h hv k];exact hk⟩;unfold World.var? at hv;rw [h] at hv;simp only [Option.bind_some] at hv;rcases Nat.lt_or_ge g W.heap.size with h' | h'
  · exact h'
  · rw [Array.getElem?_eq_none h'] at hv;cases hv
theorem zRb {W : World} {rest : List (String × DataW Unit)} {tr ts : TypeId} {av sv : Value} {u ty : Nat} (h : laidMet Tryz.prog (("internal/strconv.uint64pow10", Lib.tabData .u64 Lib.pow10Tab) :: rest) W)
    (hR : W.var? Tryz.prog "strconv.ErrRange" = some #[.iface tr av]) (hS : W.var? Tryz.prog "strconv.ErrSyntax" = some #[.iface ts sv])
    (hu : (Tryz.prog.cutTypes.find? (·.1 == "internal/reflectlite.rtype")).map (·.2) = some u) (hE : W.var? Tryz.prog "errors.errorType" = some #[.iface u (.agg #[.pointer (some ⟨Tryz.prog.globals.size, yVx, none⟩)])]) : GI zAr W (fun b => b < W.heap.size) := by
  have hg : Tryz.prog.globalNamed "internal/strconv.uint64pow10" = some ((Tryz.prog.globalNamed "internal/strconv.uint64pow10").getD 0) := (by kernel_rfl); have ht : Lib.TabIs Tryz.prog W "internal/strconv.uint64pow10" .u64 Lib.pow10Tab :=
    Lib.tabIs_of_head (g := (Tryz.prog.globalNamed "internal/strconv.uint64pow10").getD 0) (t := 220) (e := 182) (n := 20) hg (by kernel_rfl) Tryz.underlying220 Tryz.underlying182 (by kernel_rfl) (by kernel_rfl) h
  have gR : Tryz.prog.globalNamed "strconv.ErrRange" = some yVm := (by kernel_rfl); have gS : Tryz.prog.globalNamed "strconv.ErrSyntax" = some yVl := (by kernel_rfl); have gE : Tryz.prog.globalNamed "errors.errorType" = some yVn := (by kernel_rfl); obtain ⟨r1, r2⟩ := gof _ _ gR hR; obtain ⟨s1, s2⟩ := gof _ _ gS hS; obtain ⟨e1, e2⟩ := gof _ _ gE hE; refine ⟨fun b => b < W.heap.size, fun _ h => h, ht, fun g hg => ?_, ⟨⟨_, _, s2 0 _ rfl⟩, ⟨_, _, r2 0 _ rfl⟩, ⟨u, hu, e2 0 _ rfl⟩, s1, r1, e1⟩⟩; unfold Lib.TabIs World.var? at ht; rw [hg] at ht; simp only [Option.bind_some] at ht; by_cases hlt : g < W.heap.size
  · exact hlt
  · rw [Array.getElem?_eq_none (by omega)] at ht;cases ht
end Go.Proofs.YtdlchnlpmofpmaaGreatDoor
