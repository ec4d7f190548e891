/- For all arguments, the program's ReadAssembly and the reference's ReadAssembly give the same results: the law returns true, and its arguments read afterwards as before. No conditions. -/
import Derived.Test.YtdlchnlpmofpmaaGreatDoorZWalkExactReadAssembly
import Derived.Test.YtdlchnlpmofpmaaGreatDoorZVTabL
import Derived.Test.YtdlchnlpmofpmaaGreatDoorCards
import Derived.Test.YtdlchnlpmofpmaaGreatDoorTie
import Derived.LaidMore
import Derived.OpenShut
import Derived.Stop.Joined
import Derived.SevenTiedAt
set_option linter.all false
namespace Go.Proofs.YtdlchnlpmofpmaaGreatDoor
open Go.RowKit Go.ChangeShapes Go.WideShapes Go.ChangeAt
open Go.ChangeMaps (open_string)
theorem zFj : ownKnob Tryz.prog.godebug = none := by kernel_rfl
theorem zCn : laidOutB Tryz.prog = true := by kernel_rfl
open Go.V
theorem zE9 (os : Os) (args : Array Value) : laidMetH Tryz.prog Rows.fnExactReadAssemblyRow.laid ((World.doorLaid Tryz.prog 400 os).forCall (fun _ _ => 0) ⟨#[], args, []⟩).memory :=
  laidMetH_of_parts3 (fuel := 24) (laidMet_of_run' 24 (by kernel_rfl) (by kernel_rfl)) (by kernel_rfl) (by kernel_rfl)
set_option maxRecDepth 100000 in
theorem zEm (os : Os) (started : os.Started) (H : Type) (enc : TypeId × Value → H) :
    ReturnsInHanded {} Tryz.checked os 3 .any (fun w args => (Rows.fnExactReadAssemblySpec.pre enc Tryz.prog Tryz.f3 [] false w args ∧ laidMetH Tryz.prog Rows.fnExactReadAssemblyRow.laid w) ∧ sizedMet enc Tryz.prog Tryz.f3 (OpenSpec.ofChange Rows.fnExactReadAssemblySpec) false w args) (Rows.fnExactReadAssemblySpec.post enc Tryz.prog Tryz.f3 false true false false) := by
  refine returnsInHanded_of_change_and (C := Tryz.checked) (X := fun w _ => laidMetH Tryz.prog Rows.fnExactReadAssemblyRow.laid w) (fun _ _ _ hh h => h.of_heap hh) zFj started (by kernel_rfl) Tryz.func3
    (ChangeSpec.witness_shaped (enc := enc) (C := Tryz.checked) (os := os) (X := fun w _ => laidMetH Tryz.prog Rows.fnExactReadAssemblyRow.laid w) false (World.doorLaid Tryz.prog 400 os) #[.agg #[.slice none 0 0, .slice none 0 0], .string ByteArray.empty] 8 rfl (World.shaped_of_RefB (by kernel_rfl) (by kernel_rfl)) (by kernel_rfl) (by kernel_rfl) (by kernel_rfl) (zE9 os _)) ?_
  intro W base args ds gs before hval0 hW _ _ hL _; have hTab : GI zAr W (fun b => b < W.heap.size) := zWy hL; have hval : ∀ (j : Nat) t v, Tryz.f3.params[j]? = some t → args[j]? = some v → Value.okWide Tryz.prog W .any base t v := hval0; have hW' := hW; obtain ⟨p, q, hA0, hV, rfl, hfz, hnd⟩ := hW; have hA : DataW.TrodAll enc Tryz.prog W 0 (fun _ => true) true Tryz.f3.params.toList args.toList ds p := hA0; rw [Tryz.params3] at hA hval; obtain ⟨v0, vs0, d0, ds0, p0, q0, hargs, rfl, rfl, h0, r0⟩ := trodAll_cons hA; obtain ⟨v1, vs1, d1, ds1, p1, q1, rfl, rfl, rfl, h1, r1⟩ := trodAll_cons r0; obtain ⟨rfl, rfl, rfl⟩ := trodAll_nil r1; obtain rfl : args = #[v0, v1] := by cases args; simp_all
  obtain ⟨rfl, rfl⟩ := trodVars_none hV; have k0 := h0; have lt0 : ∀ x ∈ p0, x.block < W.heap.size := (by obtain ⟨m, hm⟩ := k0; exact DataW.trod_lt m _ _ _ hm); have k1 := h1; have lt1 : ∀ x ∈ p1, x.block < W.heap.size := (by obtain ⟨m, hm⟩ := k1; exact DataW.trod_lt m _ _ _ hm); obtain ⟨c0, rfl⟩ := yVb Tryz.underlying25 (hval 0 25 v0 rfl rfl); obtain ⟨x0, hx0⟩ : ∃ x, TileSet.ty.rep W W.heap.size c0.toList x := (by obtain ⟨m, hm⟩ := h0; exact TileSet.reads.2 hm); obtain ⟨l0⟩ := c0; obtain ⟨y0_0, y0_1, rfl, z0_0, z0_1⟩ := TileSet.cells hx0; obtain ⟨x1, rfl, _, _, hx1⟩ := open_string Tryz.underlying9 (hval 1 9 v1 rfl rfl) h1; clear hA0 hval0; refine (zE1 y0_0 y0_1 x0 x1 W hTab z0_0 z0_1 hx1).mono fun e W' ⟨he, bel⟩ => ?_; subst he; exact ⟨_, rfl, _, _, _, [], _, [], hW', trodAll_mk1 (shut_bool Tryz.underlying4 _), (trodAll_cons_mk (Below.trod zCn (by kernel_rfl) (of_decide_eq_true (by kernel_rfl)) k0 bel lt0) (trodAll_cons_mk (Below.trod zCn (by kernel_rfl) (of_decide_eq_true (by kernel_rfl)) k1 bel lt1) trodAll_mk0)), rfl, bel.frame _, fun h => by cases h⟩
theorem zE0 : Rows.FnExactReadAssemblySaid :=
  OpenClaim.holds_of_wide 3 Tryz.f3 rfl rfl rfl rfl rfl rfl rfl ⟨rfl, rfl, rfl, rfl, rfl⟩ rfl rfl rfl rfl rfl (by kernel_rfl) Tryz.func3 (by kernel_rfl)
    (of_decide_eq_true (by kernel_rfl)) (by unfold Func.isWrapper; rw [if_neg (of_decide_eq_false (by kernel_rfl))]; exact ⟨rfl, rfl⟩)
    (fun os started H enc _ => zEm os started H enc)
theorem fnExactReadAssembly_card : Rows.FnExactReadAssemblyCardSaid :=
  Claim7.holds_tied_plain_at .later [] Rows.fnExactReadAssemblyCard.laidKinds true Rows.fnExactReadAssemblyCard.stood.harness Rows.fnExactReadAssemblyCard.stood.looks
    zE0 (fun _ h => by cases h) (by kernel_rfl) (fun _ h => by cases h) fnExactReadAssembly_row_tie rfl ⟨rfl, rfl⟩ (by kernel_rfl) rfl
    (fun f fn hf hfn => by
      obtain rfl : f = 3 := Option.some.inj ((show Tryz.prog.funcNamed Rows.fnExactReadAssemblyRow.func = some 3 by kernel_rfl).symm.trans hf) |>.symm; obtain rfl : fn = Tryz.f3 := (Option.some.inj (Tryz.func3.symm.trans hfn)).symm; exact ⟨by kernel_rfl, fun j t ht => by
        rw [Tryz.params3] at ht; have hm := Array.mem_of_getElem? ht; have hall : ((Tryz.f3.params.toList).all fun u => !Tryz.prog.wantsStandIn u) = true := by kernel_rfl
        rw [Tryz.params3] at hall; exact (show Tryz.prog.wantsStandIn t = false by simpa using List.all_eq_true.1 hall t (by simpa using hm))⟩)
    (by kernel_rfl)
end Go.Proofs.YtdlchnlpmofpmaaGreatDoor
