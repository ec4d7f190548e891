/- For all arguments, the program's ReadSet and the reference's ReadSet give the same results: the law returns true, and its arguments read afterwards as before. No conditions. -/
import Derived.Test.YtjkbngjiagknkaaGreatDoorZWalkExactReadSet
import Derived.Test.YtjkbngjiagknkaaGreatDoorZVTabL
import Derived.Test.YtjkbngjiagknkaaGreatDoorCards
import Derived.Test.YtjkbngjiagknkaaGreatDoorTie
import Derived.LaidMore
import Derived.OpenShut
import Derived.Stop.Joined
import Derived.SevenTiedAt
set_option linter.all false
namespace Go.Proofs.YtjkbngjiagknkaaGreatDoor
open Go.RowKit Go.ChangeShapes Go.WideShapes Go.ChangeAt
open Go.ChangeMaps (open_string)
theorem own_fnExactReadSet : ownKnob Tryz.prog.godebug = none := by kernel_rfl
theorem laidOut_fnExactReadSet : laidOutB Tryz.prog = true := by kernel_rfl
open Go.V
theorem door_fnExactReadSet (os : Os) (args : Array Value) : laidMetH Tryz.prog Rows.fnExactReadSetRow.laid ((World.doorLaid Tryz.prog 400 os).forCall (fun _ _ => 0) ⟨#[], args, []⟩).memory :=
  laidMetH_of_parts3 (fuel := 24) (laidMet_of_run' 24 (by kernel_rfl) (by kernel_rfl)) (by kernel_rfl) (by kernel_rfl)
set_option maxRecDepth 100000 in
theorem lifted_fnExactReadSet (os : Os) (started : os.Started) (H : Type) (enc : TypeId × Value → H) :
    ReturnsInHanded {} Tryz.checked os 5 .any (fun w args => (Rows.fnExactReadSetSpec.pre enc Tryz.prog Tryz.f5 [] false w args ∧ laidMetH Tryz.prog Rows.fnExactReadSetRow.laid w) ∧ sizedMet enc Tryz.prog Tryz.f5 (OpenSpec.ofChange Rows.fnExactReadSetSpec) false w args) (Rows.fnExactReadSetSpec.post enc Tryz.prog Tryz.f5 false true false false) := by
  refine returnsInHanded_of_change_and (C := Tryz.checked) (X := fun w _ => laidMetH Tryz.prog Rows.fnExactReadSetRow.laid w) (fun _ _ _ hh h => h.of_heap hh) own_fnExactReadSet started (by kernel_rfl) Tryz.func5
    (ChangeSpec.witness_shaped (enc := enc) (C := Tryz.checked) (os := os) (X := fun w _ => laidMetH Tryz.prog Rows.fnExactReadSetRow.laid w) false (World.doorLaid Tryz.prog 400 os) #[.string ByteArray.empty] 8 rfl (World.shaped_of_RefB (by kernel_rfl) (by kernel_rfl)) (by kernel_rfl) (by kernel_rfl) (by kernel_rfl) (door_fnExactReadSet os _)) ?_
  intro W base args ds gs before hval0 hW _ _ hL _; have hTab : GI TabG W (fun b => b < W.heap.size) := tab_of_row hL; have hval : ∀ (j : Nat) t v, Tryz.f5.params[j]? = some t → args[j]? = some v → Value.okWide Tryz.prog W .any base t v := hval0; have hW' := hW; obtain ⟨p, q, hA0, hV, rfl, hfz, hnd⟩ := hW; have hA : DataW.TrodAll enc Tryz.prog W 0 (fun _ => true) true Tryz.f5.params.toList args.toList ds p := hA0; rw [Tryz.params5] at hA hval; obtain ⟨v0, vs0, d0, ds0, p0, q0, hargs, rfl, rfl, h0, r0⟩ := trodAll_cons hA; obtain ⟨rfl, rfl, rfl⟩ := trodAll_nil r0; obtain rfl : args = #[v0] := by cases args; simp_all
  obtain ⟨rfl, rfl⟩ := trodVars_none hV; have k0 := h0; have lt0 : ∀ x ∈ p0, x.block < W.heap.size := (by obtain ⟨m, hm⟩ := k0; exact DataW.trod_lt m _ _ _ hm); obtain ⟨x0, rfl, _, _, hx0⟩ := open_string Tryz.underlying9 (hval 0 9 v0 rfl rfl) h0; clear hA0 hval0; refine (walk_fnExactReadSet x0 W hTab hx0).mono fun e W' ⟨he, bel⟩ => ?_; subst he; exact ⟨_, rfl, _, _, _, [], _, [], hW', trodAll_mk1 (shut_bool Tryz.underlying4 _), (trodAll_cons_mk (Below.trod laidOut_fnExactReadSet (by kernel_rfl) (of_decide_eq_true (by kernel_rfl)) k0 bel lt0) trodAll_mk0), rfl, bel.frame _, fun h => by cases h⟩
theorem fnExactReadSet_holds : Rows.FnExactReadSetSaid :=
  OpenClaim.holds_of_wide 5 Tryz.f5 rfl rfl rfl rfl rfl rfl rfl ⟨rfl, rfl, rfl, rfl, rfl⟩ rfl rfl rfl rfl rfl (by kernel_rfl) Tryz.func5 (by kernel_rfl)
    (of_decide_eq_true (by kernel_rfl)) (by unfold Func.isWrapper; rw [if_neg (of_decide_eq_false (by kernel_rfl))]; exact ⟨rfl, rfl⟩)
    (fun os started H enc _ => lifted_fnExactReadSet os started H enc)
theorem fnExactReadSet_card : Rows.FnExactReadSetCardSaid :=
  Claim7.holds_tied_plain_at .later [] Rows.fnExactReadSetCard.laidKinds true Rows.fnExactReadSetCard.stood.harness Rows.fnExactReadSetCard.stood.looks
    fnExactReadSet_holds (fun _ h => by cases h) (by kernel_rfl) (fun _ h => by cases h) fnExactReadSet_row_tie rfl ⟨rfl, rfl⟩ (by kernel_rfl) rfl
    (fun f fn hf hfn => by
      obtain rfl : f = 5 := Option.some.inj ((show Tryz.prog.funcNamed Rows.fnExactReadSetRow.func = some 5 by kernel_rfl).symm.trans hf) |>.symm; obtain rfl : fn = Tryz.f5 := (Option.some.inj (Tryz.func5.symm.trans hfn)).symm; exact ⟨by kernel_rfl, fun j t ht => by
        rw [Tryz.params5] at ht; have hm := Array.mem_of_getElem? ht; have hall : ((Tryz.f5.params.toList).all fun u => !Tryz.prog.wantsStandIn u) = true := by kernel_rfl
        rw [Tryz.params5] at hall; exact (show Tryz.prog.wantsStandIn t = false by simpa using List.all_eq_true.1 hall t (by simpa using hm))⟩)
    (by kernel_rfl)
end Go.Proofs.YtjkbngjiagknkaaGreatDoor
