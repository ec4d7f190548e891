/- For all arguments, the program's TotalStrength and the reference's TotalStrength give the same results: the law returns true, and its arguments read afterwards as before. No conditions. -/
import Derived.Test.YtgnlikamelfmjaaZWalkExactTotalStrength
set_option linter.all false
namespace Go.Proofs.Ytgnlikamelfmjaa
open Go.RowKit Go.ChangeShapes Go.WideShapes Go.ChangeAt
open Go.ChangeMaps (open_string)
theorem own_fnExactTotalStrength : ownKnob Try.prog.godebug = none := by kernel_rfl
theorem laidOut_fnExactTotalStrength : laidOutB Try.prog = true := by kernel_rfl
set_option maxRecDepth 100000 in
theorem lifted_fnExactTotalStrength (os : Os) (started : os.Started) (H : Type) (enc : TypeId × Value → H) :
    ReturnsInHanded {} Try.checked os 4 .any (Rows.fnExactTotalStrengthSpec.pre6 enc Try.prog Try.f4 Rows.fnExactTotalStrengthRow.domain false) (Rows.fnExactTotalStrengthSpec.post enc Try.prog Try.f4 false true false false) := by
  refine returnsInHanded_of_change (C := Try.checked) own_fnExactTotalStrength started (by kernel_rfl) Try.func4
    (ChangeSpec.witness6 (enc := enc) (C := Try.checked) false ⟨#[], #[.agg #[.slice none 0 0, .slice none 0 0], .agg #[.slice none 0 0]], []⟩ 8 (by kernel_rfl) (by kernel_rfl) (by kernel_rfl) (by kernel_rfl)) ?_
  intro W base args ds gs before hval0 hW hcnd _; have hval : ∀ (j : Nat) t v, Try.f4.params[j]? = some t → args[j]? = some v → Value.okWide Try.prog W .any base t v := hval0; have hW' := hW; obtain ⟨p, q, hA0, hV, rfl, hfz, hnd⟩ := hW; have hA : DataW.TrodAll enc Try.prog W 0 (fun _ => true) true Try.f4.params.toList args.toList ds p := hA0; rw [Try.params4] at hA hval; obtain ⟨v0, vs0, d0, ds0, p0, q0, hargs, rfl, rfl, h0, r0⟩ := trodAll_cons hA; obtain ⟨v1, vs1, d1, ds1, p1, q1, rfl, rfl, rfl, h1, r1⟩ := trodAll_cons r0; obtain ⟨rfl, rfl, rfl⟩ := trodAll_nil r1; obtain rfl : args = #[v0, v1] := by cases args; simp_all
  obtain ⟨rfl, rfl⟩ := trodVars_none hV; have k0 := h0; have lt0 : ∀ x ∈ p0, x.block < W.heap.size := (by obtain ⟨m, hm⟩ := k0; exact DataW.trod_lt m _ _ _ hm); have k1 := h1; have lt1 : ∀ x ∈ p1, x.block < W.heap.size := (by obtain ⟨m, hm⟩ := k1; exact DataW.trod_lt m _ _ _ hm); obtain ⟨c0, rfl⟩ := agg_of Try.underlying32 (hval 0 32 v0 rfl rfl); obtain ⟨x0, hx0⟩ : ∃ x, TileSet.ty.rep W W.heap.size c0.toList x := (by obtain ⟨m, hm⟩ := h0; exact TileSet.reads.2 hm); obtain ⟨l0⟩ := c0; obtain ⟨y0_0, y0_1, rfl, z0_0, z0_1⟩ := TileSet.cells hx0; obtain ⟨c1, rfl⟩ := agg_of Try.underlying35 (hval 1 35 v1 rfl rfl); obtain ⟨x1, hx1⟩ : ∃ x, Assembly.ty.rep W W.heap.size c1.toList x := (by obtain ⟨m, hm⟩ := h1; exact Assembly.reads.2 hm); obtain ⟨l1⟩ := c1; obtain ⟨y1_0, rfl, z1_0⟩ := Assembly.cells hx1; clear hA0 hval0; refine (walk_fnExactTotalStrength y0_0 y0_1 x0 y1_0 x1 W z0_0 z0_1 z1_0).mono fun e W' ⟨he, bel⟩ => ?_; subst he; exact ⟨_, rfl, _, _, _, [], _, [], hW', trodAll_mk1 (shut_bool Try.underlying4 _), (trodAll_cons_mk (Below.trod laidOut_fnExactTotalStrength (by kernel_rfl) (of_decide_eq_true (by kernel_rfl)) k0 bel lt0) (trodAll_cons_mk (Below.trod laidOut_fnExactTotalStrength (by kernel_rfl) (of_decide_eq_true (by kernel_rfl)) k1 bel lt1) trodAll_mk0)), rfl, bel.frame _, fun h => by cases h⟩
theorem fnExactTotalStrength_holds : Rows.FnExactTotalStrengthSaid :=
  OpenClaim.holds_of_wide 4 Try.f4 rfl rfl rfl rfl rfl rfl rfl ⟨rfl, rfl, rfl, rfl, rfl⟩ rfl rfl rfl rfl rfl (by kernel_rfl) Try.func4 (by kernel_rfl)
    (of_decide_eq_true (by kernel_rfl)) (by unfold Func.isWrapper; rw [if_neg (of_decide_eq_false (by kernel_rfl))]; exact ⟨rfl, rfl⟩)
    (fun os started H enc _ => lifted_fnExactTotalStrength os started H enc)
end Go.Proofs.Ytgnlikamelfmjaa
