/- For all measures a and b, the program's Dominates and the reference's Dominates give the same answer: the law returns true, and its arguments read afterwards as before. No conditions. -/
import Derived.Test.YtlfgkhjibhfopaaMeasure
namespace Go.Proofs.Ytlfgkhjibhfopaa
open Go.RowKit Go.ChangeShapes Go.WideShapes Go.ChangeAt

set_option maxRecDepth 100000 in
set_option maxHeartbeats 1000000 in
theorem walk_fnExactDominates (a b : Measure) (w : World) :
    Calls Try.prog 3 #[a.val, b.val] w fun e w' => e = .returned (.bool true) ∧ Below w.heap.size w w' := by
  go_enter Try.func3, Try.ntmps3
  go_wp2_with fail
  refine rebase ?_
  intro W hW x
  have c0 := box7 (W := W) (b := w.heap.size) (by rw [hW]; exact push2_0 _ _ _)
  have c1 := box7 (W := W) (b := w.heap.size + 1) (by rw [hW]; exact push2_1 _ _ _)
  have hz : Below w.heap.size w W := by rw [hW]; go_grown
  have HW := Lib.hid hW
  clear hW
  refine wp_region_ext (by kernel_rfl) (by kernel_rfl) ?_
  repeat (go_big_quiet_step (first | (go_at_call 16; exact ext_call (toMeasure_any _ _)) | (go_at_call 15; exact ext_call (dominates_spec _ _ _))))
  refine wpQuiet_nil ?_
  rintro _ ⟨x1, rfl⟩
  go_wp2_with fail
  refine wp_region_ext (by kernel_rfl) (by kernel_rfl) ?_
  repeat (go_big_quiet_step (first | (go_at_call 16; exact ext_call (toMeasure_any _ _)) | (go_at_call 17; exact ext_call (dominates_impl _ _ _))))
  refine wpQuiet_nil ?_
  rintro _ ⟨x2, rfl⟩
  go_wp2_with fail
  go_ret
  exact ⟨rfl, hz.trans (x2.below.mono hz.size)⟩

theorem own_fnExactDominates : ownKnob Try.prog.godebug = none := by kernel_rfl
theorem laidOut_fnExactDominates : laidOutB Try.prog = true := by kernel_rfl

set_option maxRecDepth 100000 in
theorem lifted_fnExactDominates (os : Os) (started : os.Started) (H : Type) (enc : TypeId × Value → H) :
    ReturnsInHanded {} Try.checked os 3 .any (Rows.fnExactDominatesSpec.pre6 enc Try.prog Try.f3 Rows.fnExactDominatesRow.domain false) (Rows.fnExactDominatesSpec.post enc Try.prog Try.f3 false true false false) := by
  refine returnsInHanded_of_change (C := Try.checked) own_fnExactDominates started (by kernel_rfl) Try.func3
    (ChangeSpec.witness6 (enc := enc) (C := Try.checked) false ⟨#[], #[(Measure.mk 0 0 0 0 0 0 0).val, (Measure.mk 0 0 0 0 0 0 0).val], []⟩ 8 (by kernel_rfl) (by kernel_rfl) (by kernel_rfl) (by kernel_rfl)) ?_
  intro W base args ds gs before hval0 hW hcnd _
  have hval : ∀ (j : Nat) t v, Try.f3.params[j]? = some t → args[j]? = some v → Value.okWide Try.prog W .any base t v := hval0
  have hW' := hW
  obtain ⟨p, q, hA0, hV, rfl, hfz, hnd⟩ := hW
  have hA : DataW.TrodAll enc Try.prog W 0 (fun _ => true) true Try.f3.params.toList args.toList ds p := hA0
  rw [Try.params3] at hA hval
  obtain ⟨v0, vs0, d0, ds0, p0, q0, hargs, rfl, rfl, h0, r0⟩ := trodAll_cons hA
  obtain ⟨v1, vs1, d1, ds1, p1, q1, rfl, rfl, rfl, h1, r1⟩ := trodAll_cons r0
  obtain ⟨rfl, rfl, rfl⟩ := trodAll_nil r1
  obtain rfl : args = #[v0, v1] := by cases args; simp_all
  obtain ⟨rfl, rfl⟩ := trodVars_none hV
  have k0 := h0
  have lt0 : ∀ x ∈ p0, x.block < W.heap.size := by obtain ⟨m, hm⟩ := k0; exact DataW.trod_lt m _ _ _ hm
  have k1 := h1
  have lt1 : ∀ x ∈ p1, x.block < W.heap.size := by obtain ⟨m, hm⟩ := k1; exact DataW.trod_lt m _ _ _ hm
  obtain ⟨c0, rfl⟩ := agg_of Try.underlying23 (hval 0 23 v0 rfl rfl)
  obtain ⟨x0, hx0⟩ : ∃ x, Measure.ty.rep W W.heap.size c0.toList x := by obtain ⟨m, hm⟩ := h0; exact Measure.reads.2 hm
  obtain ⟨l0⟩ := c0
  obtain ⟨rfl, _⟩ := Measure.cells hx0
  obtain ⟨c1, rfl⟩ := agg_of Try.underlying23 (hval 1 23 v1 rfl rfl)
  obtain ⟨x1, hx1⟩ : ∃ x, Measure.ty.rep W W.heap.size c1.toList x := by obtain ⟨m, hm⟩ := h1; exact Measure.reads.2 hm
  obtain ⟨l1⟩ := c1
  obtain ⟨rfl, _⟩ := Measure.cells hx1
  clear hA0 hval0
  refine (walk_fnExactDominates x0 x1 W).mono fun e W' ⟨he, bel⟩ => ?_
  subst he
  exact ⟨_, rfl, _, _, _, [], _, [], hW', trodAll_mk1 (shut_bool Try.underlying4 _), (trodAll_cons_mk (Below.trod laidOut_fnExactDominates (by kernel_rfl) (of_decide_eq_true (by kernel_rfl)) k0 bel lt0) (trodAll_cons_mk (Below.trod laidOut_fnExactDominates (by kernel_rfl) (of_decide_eq_true (by kernel_rfl)) k1 bel lt1) trodAll_mk0)), rfl, bel.frame _, fun h => by cases h⟩

theorem fnExactDominates_holds : Rows.FnExactDominatesSaid :=
  OpenClaim.holds_of_wide 3 Try.f3 rfl rfl rfl rfl rfl rfl rfl ⟨rfl, rfl, rfl, rfl, rfl⟩ rfl rfl rfl rfl rfl (by kernel_rfl) Try.func3 (by kernel_rfl)
    (of_decide_eq_true (by kernel_rfl)) (by unfold Func.isWrapper; rw [if_neg (of_decide_eq_false (by kernel_rfl))]; exact ⟨rfl, rfl⟩)
    (fun os started H enc _ => lifted_fnExactDominates os started H enc)
end Go.Proofs.Ytlfgkhjibhfopaa
