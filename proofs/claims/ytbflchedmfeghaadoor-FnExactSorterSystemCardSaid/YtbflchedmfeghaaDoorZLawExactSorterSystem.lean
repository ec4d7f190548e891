/- For all arguments, the program's SorterSystem and the reference's SorterSystem give the same results: the law returns true, and its arguments read afterwards as before. No conditions. -/
import Derived.Test.YtbflchedmfeghaaDoorZWalkExactSorterSystem
import Derived.Test.YtbflchedmfeghaaDoorCards
import Derived.Test.YtbflchedmfeghaaDoorTie
import Derived.LaidMore
import Derived.OpenShut
import Derived.Stop.Joined
import Derived.SevenTiedAt
set_option linter.all false
namespace Go.Proofs.YtbflchedmfeghaaDoor
open Go.RowKit Go.ChangeShapes Go.WideShapes Go.ChangeAt
open Go.ChangeMaps (open_string)
theorem own_fnExactSorterSystem : ownKnob Tryd.prog.godebug = none := by kernel_rfl
theorem laidOut_fnExactSorterSystem : laidOutB Tryd.prog = true := by kernel_rfl
open Go.V
theorem door_fnExactSorterSystem (os : Os) (args : Array Value) : laidMetH Tryd.prog Rows.fnExactSorterSystemRow.laid ((World.doorLaid Tryd.prog 400 os).forCall (fun _ _ => 0) ⟨#[], args, []⟩).memory :=
  laidMetH_of_parts3 (fuel := 24) (laidMet_of_run' 24 (by kernel_rfl) (by kernel_rfl)) (by kernel_rfl) (by kernel_rfl)
set_option maxRecDepth 100000 in
theorem lifted_fnExactSorterSystem (os : Os) (started : os.Started) (H : Type) (enc : TypeId × Value → H) :
    ReturnsInHanded {} Tryd.checked os 5 .any (fun w args => (Rows.fnExactSorterSystemSpec.pre enc Tryd.prog Tryd.f5 [] false w args ∧ laidMetH Tryd.prog Rows.fnExactSorterSystemRow.laid w) ∧ sizedMet enc Tryd.prog Tryd.f5 (OpenSpec.ofChange Rows.fnExactSorterSystemSpec) false w args) (Rows.fnExactSorterSystemSpec.post enc Tryd.prog Tryd.f5 false true false false) := by
  refine returnsInHanded_of_change_and (C := Tryd.checked) (X := fun w _ => laidMetH Tryd.prog Rows.fnExactSorterSystemRow.laid w) (fun _ _ _ hh h => h.of_heap hh) own_fnExactSorterSystem started (by kernel_rfl) Tryd.func5
    (ChangeSpec.witness_shaped (enc := enc) (C := Tryd.checked) (os := os) (X := fun w _ => laidMetH Tryd.prog Rows.fnExactSorterSystemRow.laid w) false (World.doorLaid Tryd.prog 400 os) #[.int .i64 0, .slice none 0 0] 8 rfl (World.shaped_of_RefB (by kernel_rfl) (by kernel_rfl)) (by kernel_rfl) (by kernel_rfl) (by kernel_rfl) (door_fnExactSorterSystem os _)) ?_
  intro W base args ds gs before hval0 hW _ _ hL _; have hL2 := hL; rw [MakeChecks.laidMetH_plain _ _ _ (by kernel_rfl)] at hL2; have hTab : GI TabG W (fun b => b < W.heap.size) := by first | exact tab_of_laid hL2 | exact tab_of_laid hL2.tail | exact tab_of_laid hL2.tail.tail | exact tab_of_laid hL2.tail.tail.tail | exact tab_of_laid hL2.tail.tail.tail.tail
  clear hL2; have hval : ∀ (j : Nat) t v, Tryd.f5.params[j]? = some t → args[j]? = some v → Value.okWide Tryd.prog W .any base t v := hval0; have hW' := hW; obtain ⟨p, q, hA0, hV, rfl, hfz, hnd⟩ := hW; have hA : DataW.TrodAll enc Tryd.prog W 0 (fun _ => true) true Tryd.f5.params.toList args.toList ds p := hA0; rw [Tryd.params5] at hA hval; obtain ⟨v0, vs0, d0, ds0, p0, q0, hargs, rfl, rfl, h0, r0⟩ := trodAll_cons hA; obtain ⟨v1, vs1, d1, ds1, p1, q1, rfl, rfl, rfl, h1, r1⟩ := trodAll_cons r0; obtain ⟨rfl, rfl, rfl⟩ := trodAll_nil r1; obtain rfl : args = #[v0, v1] := by cases args; simp_all
  obtain ⟨rfl, rfl⟩ := trodVars_none hV; have k0 := h0; have lt0 : ∀ x ∈ p0, x.block < W.heap.size := (by obtain ⟨m, hm⟩ := k0; exact DataW.trod_lt m _ _ _ hm); have k1 := h1; have lt1 : ∀ x ∈ p1, x.block < W.heap.size := (by obtain ⟨m, hm⟩ := k1; exact DataW.trod_lt m _ _ _ hm); obtain ⟨x0, rfl, _, _, w0⟩ := open_int Tryd.underlying2 (hval 0 2 v0 rfl rfl) h0; have hx0 := InK.of_wf w0; obtain ⟨a1, len1, cap1, rfl⟩ := okWide_slice Tryd.underlying38 (hval 1 38 v1 rfl rfl); obtain ⟨x1, hx1⟩ : ∃ x, (Ty.slice 2 (Ty.int .i64)).rep W W.heap.size [.slice a1 len1 cap1] x := (by obtain ⟨m, hm⟩ := h1; exact (reads_slice Tryd.underlying38 (by kernel_rfl) (by decide) (reads_int Tryd.underlying2 (by kernel_rfl))).2 (by simpa [Value.cells] using hm)); clear hA0 hval0; refine (walk_fnExactSorterSystem x0 (.slice a1 len1 cap1) x1 W hTab hx0 hx1).mono fun e W' ⟨he, bel⟩ => ?_; subst he; exact ⟨_, rfl, _, _, _, [], _, [], hW', trodAll_mk1 (shut_bool Tryd.underlying4 _), (trodAll_cons_mk (Below.trod laidOut_fnExactSorterSystem (by kernel_rfl) (of_decide_eq_true (by kernel_rfl)) k0 bel lt0) (trodAll_cons_mk (Below.trod laidOut_fnExactSorterSystem (by kernel_rfl) (of_decide_eq_true (by kernel_rfl)) k1 bel lt1) trodAll_mk0)), rfl, bel.frame _, fun h => by cases h⟩
theorem fnExactSorterSystem_holds : Rows.FnExactSorterSystemSaid :=
  OpenClaim.holds_of_wide 5 Tryd.f5 rfl rfl rfl rfl rfl rfl rfl ⟨rfl, rfl, rfl, rfl, rfl⟩ rfl rfl rfl rfl rfl (by kernel_rfl) Tryd.func5 (by kernel_rfl)
    (of_decide_eq_true (by kernel_rfl)) (by unfold Func.isWrapper; rw [if_neg (of_decide_eq_false (by kernel_rfl))]; exact ⟨rfl, rfl⟩)
    (fun os started H enc _ => lifted_fnExactSorterSystem os started H enc)
theorem fnExactSorterSystem_card : Rows.FnExactSorterSystemCardSaid :=
  Claim7.holds_tied_plain_at .later [] Rows.fnExactSorterSystemCard.laidKinds true Rows.fnExactSorterSystemCard.stood.harness false
    fnExactSorterSystem_holds (fun _ h => by cases h) (by kernel_rfl) (fun _ h => by cases h) fnExactSorterSystem_row_tie rfl ⟨rfl, rfl⟩ (by kernel_rfl) rfl
    (fun f fn hf hfn => by
      obtain rfl : f = 5 := Option.some.inj ((show Tryd.prog.funcNamed Rows.fnExactSorterSystemRow.func = some 5 by kernel_rfl).symm.trans hf) |>.symm; obtain rfl : fn = Tryd.f5 := (Option.some.inj (Tryd.func5.symm.trans hfn)).symm; exact ⟨by kernel_rfl, fun j t ht => by
        rw [Tryd.params5] at ht; have hm := Array.mem_of_getElem? ht; have hall : ((Tryd.f5.params.toList).all fun u => !Tryd.prog.wantsStandIn u) = true := by kernel_rfl
        rw [Tryd.params5] at hall; exact (show Tryd.prog.wantsStandIn t = false by simpa using List.all_eq_true.1 hall t (by simpa using hm))⟩)
    (by kernel_rfl)
end Go.Proofs.YtbflchedmfeghaaDoor
