/- For all arguments, the program's ReadProof and the reference's ReadProof give the same results: the law returns true, and its arguments read afterwards as before. No conditions. -/
import Derived.Test.YtjkbngjiagknkaaGreatDoorZWalkExactReadProof
import Derived.Test.YtjkbngjiagknkaaGreatDoorZVTabL
import Derived.Test.YtjkbngjiagknkaaGreatDoorCards
import Derived.Test.YtjkbngjiagknkaaGreatDoorTie
import Derived.LaidMore
import Derived.OpenShut
import Derived.Stop.Joined
import Derived.SevenTiedAt
set_option linter.all false
namespace Go.Proofs.YtjkbngjiagknkaaGreatDoor
open Go.RowKit Go.ChangeShapes Go.WideShapes Go.ChangeAt
open Go.ChangeMaps (open_string)
theorem own_fnExactReadProof : ownKnob Tryz.prog.godebug = none := by kernel_rfl
theorem laidOut_fnExactReadProof : laidOutB Tryz.prog = true := by kernel_rfl
open Go.V
theorem door_fnExactReadProof (os : Os) (args : Array Value) : laidMetH Tryz.prog Rows.fnExactReadProofRow.laid ((World.doorLaid Tryz.prog 400 os).forCall (fun _ _ => 0) ⟨#[], args, []⟩).memory :=
  laidMetH_of_parts3 (fuel := 24) (laidMet_of_run' 24 (by kernel_rfl) (by kernel_rfl)) (by kernel_rfl) (by kernel_rfl)
set_option maxRecDepth 100000 in
theorem lifted_fnExactReadProof (os : Os) (started : os.Started) (H : Type) (enc : TypeId × Value → H) :
    ReturnsInHanded {} Tryz.checked os 4 .any (fun w args => (Rows.fnExactReadProofSpec.pre enc Tryz.prog Tryz.f4 [] false w args ∧ laidMetH Tryz.prog Rows.fnExactReadProofRow.laid w) ∧ sizedMet enc Tryz.prog Tryz.f4 (OpenSpec.ofChange Rows.fnExactReadProofSpec) false w args) (Rows.fnExactReadProofSpec.post enc Tryz.prog Tryz.f4 false true false false) := by
  refine returnsInHanded_of_change_and (C := Tryz.checked) (X := fun w _ => laidMetH Tryz.prog Rows.fnExactReadProofRow.laid w) (fun _ _ _ hh h => h.of_heap hh) own_fnExactReadProof started (by kernel_rfl) Tryz.func4
    (ChangeSpec.witness_shaped (enc := enc) (C := Tryz.checked) (os := os) (X := fun w _ => laidMetH Tryz.prog Rows.fnExactReadProofRow.laid w) false (World.doorLaid Tryz.prog 400 os) #[.string ByteArray.empty] 8 rfl (World.shaped_of_RefB (by kernel_rfl) (by kernel_rfl)) (by kernel_rfl) (by kernel_rfl) (by kernel_rfl) (door_fnExactReadProof os _)) ?_
  intro W base args ds gs before hval0 hW _ _ hL _; have hTab : GI TabG W (fun b => b < W.heap.size) := tab_of_row hL; have hval : ∀ (j : Nat) t v, Tryz.f4.params[j]? = some t → args[j]? = some v → Value.okWide Tryz.prog W .any base t v := hval0; have hW' := hW; obtain ⟨p, q, hA0, hV, rfl, hfz, hnd⟩ := hW; have hA : DataW.TrodAll enc Tryz.prog W 0 (fun _ => true) true Tryz.f4.params.toList args.toList ds p := hA0; rw [Tryz.params4] at hA hval; obtain ⟨v0, vs0, d0, ds0, p0, q0, hargs, rfl, rfl, h0, r0⟩ := trodAll_cons hA; obtain ⟨rfl, rfl, rfl⟩ := trodAll_nil r0; obtain rfl : args = #[v0] := by cases args; simp_all
  obtain ⟨rfl, rfl⟩ := trodVars_none hV; have k0 := h0; have lt0 : ∀ x ∈ p0, x.block < W.heap.size := (by obtain ⟨m, hm⟩ := k0; exact DataW.trod_lt m _ _ _ hm); obtain ⟨x0, rfl, _, _, hx0⟩ := open_string Tryz.underlying9 (hval 0 9 v0 rfl rfl) h0; clear hA0 hval0; refine (walk_fnExactReadProof x0 W hTab hx0).mono fun e W' ⟨he, bel⟩ => ?_; subst he; exact ⟨_, rfl, _, _, _, [], _, [], hW', trodAll_mk1 (shut_bool Tryz.underlying4 _), (trodAll_cons_mk (Below.trod laidOut_fnExactReadProof (by kernel_rfl) (of_decide_eq_true (by kernel_rfl)) k0 bel lt0) trodAll_mk0), rfl, bel.frame _, fun h => by cases h⟩
theorem fnExactReadProof_holds : Rows.FnExactReadProofSaid :=
  OpenClaim.holds_of_wide 4 Tryz.f4 rfl rfl rfl rfl rfl rfl rfl ⟨rfl, rfl, rfl, rfl, rfl⟩ rfl rfl rfl rfl rfl (by kernel_rfl) Tryz.func4 (by kernel_rfl)
    (of_decide_eq_true (by kernel_rfl)) (by unfold Func.isWrapper; rw [if_neg (of_decide_eq_false (by kernel_rfl))]; exact ⟨rfl, rfl⟩)
    (fun os started H enc _ => lifted_fnExactReadProof os started H enc)
theorem fnExactReadProof_card : Rows.FnExactReadProofCardSaid :=
  Claim7.holds_tied_plain_at .later [] Rows.fnExactReadProofCard.laidKinds true Rows.fnExactReadProofCard.stood.harness Rows.fnExactReadProofCard.stood.looks
    fnExactReadProof_holds (fun _ h => by cases h) (by kernel_rfl) (fun _ h => by cases h) fnExactReadProof_row_tie rfl ⟨rfl, rfl⟩ (by kernel_rfl) rfl
    (fun f fn hf hfn => by
      obtain rfl : f = 4 := Option.some.inj ((show Tryz.prog.funcNamed Rows.fnExactReadProofRow.func = some 4 by kernel_rfl).symm.trans hf) |>.symm; obtain rfl : fn = Tryz.f4 := (Option.some.inj (Tryz.func4.symm.trans hfn)).symm; exact ⟨by kernel_rfl, fun j t ht => by
        rw [Tryz.params4] at ht; have hm := Array.mem_of_getElem? ht; have hall : ((Tryz.f4.params.toList).all fun u => !Tryz.prog.wantsStandIn u) = true := by kernel_rfl
        rw [Tryz.params4] at hall; exact (show Tryz.prog.wantsStandIn t = false by simpa using List.all_eq_true.1 hall t (by simpa using hm))⟩)
    (by kernel_rfl)
end Go.Proofs.YtjkbngjiagknkaaGreatDoor
