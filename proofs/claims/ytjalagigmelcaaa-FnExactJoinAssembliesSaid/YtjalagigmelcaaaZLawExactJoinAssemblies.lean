/- For all arguments, the program's JoinAssemblies and the reference's JoinAssemblies give the same results: the law returns true, and its arguments read afterwards as before. No conditions. -/
import Derived.Test.YtjalagigmelcaaaZWalkExactJoinAssemblies
set_option linter.all false
namespace Go.Proofs.Ytjalagigmelcaaa
open Go.RowKit Go.ChangeShapes Go.WideShapes Go.ChangeAt
open Go.ChangeMaps (open_string)
theorem own_fnExactJoinAssemblies : ownKnob Try.prog.godebug = none := by kernel_rfl
theorem laidOut_fnExactJoinAssemblies : laidOutB Try.prog = true := by kernel_rfl
set_option maxRecDepth 100000 in
theorem lifted_fnExactJoinAssemblies (os : Os) (started : os.Started) (H : Type) (enc : TypeId × Value → H) :
    ReturnsInHanded {} Try.checked os 3 .any (Rows.fnExactJoinAssembliesSpec.pre6 enc Try.prog Try.f3 Rows.fnExactJoinAssembliesRow.domain false) (Rows.fnExactJoinAssembliesSpec.post enc Try.prog Try.f3 false true false false) := by
  refine returnsInHanded_of_change (C := Try.checked) own_fnExactJoinAssemblies started (by kernel_rfl) Try.func3
    (ChangeSpec.witness6 (enc := enc) (C := Try.checked) false ⟨#[], #[.agg #[.slice none 0 0], .agg #[.slice none 0 0]], []⟩ 8 (by kernel_rfl) (by kernel_rfl) (by kernel_rfl) (by kernel_rfl)) ?_
  intro W base args ds gs before hval0 hW hcnd _; have hval : ∀ (j : Nat) t v, Try.f3.params[j]? = some t → args[j]? = some v → Value.okWide Try.prog W .any base t v := hval0; have hW' := hW; obtain ⟨p, q, hA0, hV, rfl, hfz, hnd⟩ := hW; have hA : DataW.TrodAll enc Try.prog W 0 (fun _ => true) true Try.f3.params.toList args.toList ds p := hA0; rw [Try.params3] at hA hval; obtain ⟨v0, vs0, d0, ds0, p0, q0, hargs, rfl, rfl, h0, r0⟩ := trodAll_cons hA; obtain ⟨v1, vs1, d1, ds1, p1, q1, rfl, rfl, rfl, h1, r1⟩ := trodAll_cons r0; obtain ⟨rfl, rfl, rfl⟩ := trodAll_nil r1; obtain rfl : args = #[v0, v1] := by cases args; simp_all
  obtain ⟨rfl, rfl⟩ := trodVars_none hV; have k0 := h0; have lt0 : ∀ x ∈ p0, x.block < W.heap.size := (by obtain ⟨m, hm⟩ := k0; exact DataW.trod_lt m _ _ _ hm); have k1 := h1; have lt1 : ∀ x ∈ p1, x.block < W.heap.size := (by obtain ⟨m, hm⟩ := k1; exact DataW.trod_lt m _ _ _ hm); obtain ⟨c0, rfl⟩ := agg_of Try.underlying24 (hval 0 24 v0 rfl rfl); obtain ⟨x0, hx0⟩ : ∃ x, Assembly.ty.rep W W.heap.size c0.toList x := (by obtain ⟨m, hm⟩ := h0; exact Assembly.reads.2 hm); obtain ⟨l0⟩ := c0; obtain ⟨y0_0, rfl, z0_0⟩ := Assembly.cells hx0; obtain ⟨c1, rfl⟩ := agg_of Try.underlying24 (hval 1 24 v1 rfl rfl); obtain ⟨x1, hx1⟩ : ∃ x, Assembly.ty.rep W W.heap.size c1.toList x := (by obtain ⟨m, hm⟩ := h1; exact Assembly.reads.2 hm); obtain ⟨l1⟩ := c1; obtain ⟨y1_0, rfl, z1_0⟩ := Assembly.cells hx1; clear hA0 hval0; refine (walk_fnExactJoinAssemblies y0_0 x0 y1_0 x1 W z0_0 z1_0).mono fun e W' ⟨he, bel⟩ => ?_; subst he; exact ⟨_, rfl, _, _, _, [], _, [], hW', trodAll_mk1 (shut_bool Try.underlying4 _), (trodAll_cons_mk (Below.trod laidOut_fnExactJoinAssemblies (by kernel_rfl) (of_decide_eq_true (by kernel_rfl)) k0 bel lt0) (trodAll_cons_mk (Below.trod laidOut_fnExactJoinAssemblies (by kernel_rfl) (of_decide_eq_true (by kernel_rfl)) k1 bel lt1) trodAll_mk0)), rfl, bel.frame _, fun h => by cases h⟩
theorem fnExactJoinAssemblies_holds : Rows.FnExactJoinAssembliesSaid :=
  OpenClaim.holds_of_wide 3 Try.f3 rfl rfl rfl rfl rfl rfl rfl ⟨rfl, rfl, rfl, rfl, rfl⟩ rfl rfl rfl rfl rfl (by kernel_rfl) Try.func3 (by kernel_rfl)
    (of_decide_eq_true (by kernel_rfl)) (by unfold Func.isWrapper; rw [if_neg (of_decide_eq_false (by kernel_rfl))]; exact ⟨rfl, rfl⟩)
    (fun os started H enc _ => lifted_fnExactJoinAssemblies os started H enc)
end Go.Proofs.Ytjalagigmelcaaa
