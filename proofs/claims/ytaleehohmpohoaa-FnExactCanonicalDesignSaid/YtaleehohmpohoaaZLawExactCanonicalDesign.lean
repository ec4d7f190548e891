/- For all arguments, the program's CanonicalDesign and the reference's CanonicalDesign give the same results: the law returns true, and its arguments read afterwards as before. No conditions. -/
import Derived.Test.YtaleehohmpohoaaZWalkExactCanonicalDesign
set_option linter.all false
namespace Go.Proofs.Ytaleehohmpohoaa
open Go.RowKit Go.ChangeShapes Go.WideShapes Go.ChangeAt
open Go.ChangeMaps (open_string)
theorem own_fnExactCanonicalDesign : ownKnob Try.prog.godebug = none := by kernel_rfl
theorem laidOut_fnExactCanonicalDesign : laidOutB Try.prog = true := by kernel_rfl
set_option maxRecDepth 100000 in
theorem lifted_fnExactCanonicalDesign (os : Os) (started : os.Started) (H : Type) (enc : TypeId × Value → H) :
    ReturnsInHanded {} Try.checked os 3 .any (Rows.fnExactCanonicalDesignSpec.pre6 enc Try.prog Try.f3 Rows.fnExactCanonicalDesignRow.domain false) (Rows.fnExactCanonicalDesignSpec.post enc Try.prog Try.f3 false true false false) := by
  refine returnsInHanded_of_change (C := Try.checked) own_fnExactCanonicalDesign started (by kernel_rfl) Try.func3
    (ChangeSpec.witness6 (enc := enc) (C := Try.checked) false ⟨#[], #[.agg #[.slice none 0 0, .slice none 0 0, .slice none 0 0]], []⟩ 8 (by kernel_rfl) (by kernel_rfl) (by kernel_rfl) (by kernel_rfl)) ?_
  intro W base args ds gs before hval0 hW hcnd _; have hval : ∀ (j : Nat) t v, Try.f3.params[j]? = some t → args[j]? = some v → Value.okWide Try.prog W .any base t v := hval0; have hW' := hW; obtain ⟨p, q, hA0, hV, rfl, hfz, hnd⟩ := hW; have hA : DataW.TrodAll enc Try.prog W 0 (fun _ => true) true Try.f3.params.toList args.toList ds p := hA0; rw [Try.params3] at hA hval; obtain ⟨v0, vs0, d0, ds0, p0, q0, hargs, rfl, rfl, h0, r0⟩ := trodAll_cons hA; obtain ⟨rfl, rfl, rfl⟩ := trodAll_nil r0; obtain rfl : args = #[v0] := by cases args; simp_all
  obtain ⟨rfl, rfl⟩ := trodVars_none hV; have k0 := h0; have lt0 : ∀ x ∈ p0, x.block < W.heap.size := (by obtain ⟨m, hm⟩ := k0; exact DataW.trod_lt m _ _ _ hm); obtain ⟨c0, rfl⟩ := agg_of Try.underlying25 (hval 0 25 v0 rfl rfl); obtain ⟨x0, hx0⟩ : ∃ x, Design.ty.rep W W.heap.size c0.toList x := (by obtain ⟨m, hm⟩ := h0; exact Design.reads.2 hm); obtain ⟨l0⟩ := c0; obtain ⟨y0_0, y0_1, y0_2, rfl, z0_0, z0_1, z0_2⟩ := Design.cells hx0; clear hA0 hval0; refine (walk_fnExactCanonicalDesign y0_0 y0_1 y0_2 x0 W z0_0 z0_1 z0_2).mono fun e W' ⟨he, bel⟩ => ?_; subst he; exact ⟨_, rfl, _, _, _, [], _, [], hW', trodAll_mk1 (shut_bool Try.underlying4 _), (trodAll_cons_mk (Below.trod laidOut_fnExactCanonicalDesign (by kernel_rfl) (of_decide_eq_true (by kernel_rfl)) k0 bel lt0) trodAll_mk0), rfl, bel.frame _, fun h => by cases h⟩
theorem fnExactCanonicalDesign_holds : Rows.FnExactCanonicalDesignSaid :=
  OpenClaim.holds_of_wide 3 Try.f3 rfl rfl rfl rfl rfl rfl rfl ⟨rfl, rfl, rfl, rfl, rfl⟩ rfl rfl rfl rfl rfl (by kernel_rfl) Try.func3 (by kernel_rfl)
    (of_decide_eq_true (by kernel_rfl)) (by unfold Func.isWrapper; rw [if_neg (of_decide_eq_false (by kernel_rfl))]; exact ⟨rfl, rfl⟩)
    (fun os started H enc _ => lifted_fnExactCanonicalDesign os started H enc)
end Go.Proofs.Ytaleehohmpohoaa
