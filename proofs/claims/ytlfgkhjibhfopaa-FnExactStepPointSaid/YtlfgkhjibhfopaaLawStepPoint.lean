/- For every point and every number, the program's StepPoint and the reference's StepPoint give the same results: the law returns true, and its arguments read afterwards as before. No conditions. -/
import Derived.Test.YtlfgkhjibhfopaaStepPoint
namespace Go.Proofs.Ytlfgkhjibhfopaa
open Go.RowKit Go.ChangeShapes Go.WideShapes Go.ChangeAt

set_option maxRecDepth 10000 in
set_option maxHeartbeats 1000000 in
theorem walk_fnExactStepPoint (p : Point) (d : Int) (w : World) :
    Calls Try.prog 6 #[p.val, .int .i64 d] w fun e w' => e = .returned (.bool true) ∧ Below w.heap.size w w' := by
  go_enter Try.func6, Try.ntmps6
  go_upto_region 1 with fail
  refine rebase ?_
  intro W1 hW x
  have hz : Below w.heap.size w W1 := by rw [hW]; go_grown
  have hb0 := at_of hW (push1_0 _ _)
  have c0 := box2 hb0
  have f0 := boxf hb0
  have B0 := Lib.hid hb0
  clear hb0
  have HW := Lib.hid hW
  clear hW
  go_upto_region 2 with (first | (go_at_call 23; refine call_ext (toPoint_any _ _) ?_; intro y) | (go_at_call 25; refine call_ext (StepPoint_spec _ _ _) ?_; intro y) | (go_at_call 26; refine call_ext (StepPoint_impl _ _ _) ?_; intro y) | (go_at_call 27; refine call_ext (eqPoint_any _ _) ?_; intro y))
  refine rebase ?_
  intro W2 hW x
  have hbW : Below W1.heap.size W1 W2 := by rw [hW]; exact (y.below.alloc (by first | exact to_size y | (simp only [World.size_alloc]; have := to_size y; omega)) _)
  have hz := hz.trans (hbW.mono hz.size)
  have hb0 := blk_on hbW B0.out
  clear c0 f0 B0
  have c0 := box2 hb0
  have f0 := boxf hb0
  have B0 := Lib.hid hb0
  clear hb0
  have hb1 := at_of hW (push1_0 _ _)
  have c1 := box2 hb1
  have f1 := boxf hb1
  have B1 := Lib.hid hb1
  clear hb1
  have HW := Lib.hid hW
  clear hW hbW
  go_upto_region 3 with (first | (go_at_call 23; refine call_ext (toPoint_any _ _) ?_; intro y) | (go_at_call 25; refine call_ext (StepPoint_spec _ _ _) ?_; intro y) | (go_at_call 26; refine call_ext (StepPoint_impl _ _ _) ?_; intro y) | (go_at_call 27; refine call_ext (eqPoint_any _ _) ?_; intro y))
  refine rebase ?_
  intro W3 hW x
  have hbW : Below W2.heap.size W2 W3 := by rw [hW]; exact (y.below.alloc (by first | exact to_size y | (simp only [World.size_alloc]; have := to_size y; omega)) _)
  have hz := hz.trans (hbW.mono hz.size)
  have hb0 := blk_on hbW B0.out
  clear c0 f0 B0
  have c0 := box2 hb0
  have f0 := boxf hb0
  have B0 := Lib.hid hb0
  clear hb0
  have hb1 := blk_on hbW B1.out
  clear c1 f1 B1
  have c1 := box2 hb1
  have f1 := boxf hb1
  have B1 := Lib.hid hb1
  clear hb1
  have hb2 := at_of hW (push1_0 _ _)
  have c2 := box2 hb2
  have f2 := boxf hb2
  have B2 := Lib.hid hb2
  clear hb2
  have HW := Lib.hid hW
  clear hW hbW
  go_wp2_with (first | (go_at_call 23; refine call_ext (toPoint_any _ _) ?_; intro y) | (go_at_call 25; refine call_ext (StepPoint_spec _ _ _) ?_; intro y) | (go_at_call 26; refine call_ext (StepPoint_impl _ _ _) ?_; intro y) | (go_at_call 27; refine call_ext (eqPoint_any _ _) ?_; intro y))
  go_ret
  exact ⟨rfl, ext_end _ hz⟩

theorem own_fnExactStepPoint : ownKnob Try.prog.godebug = none := by kernel_rfl
theorem laidOut_fnExactStepPoint : laidOutB Try.prog = true := by kernel_rfl

set_option maxRecDepth 100000 in
theorem lifted_fnExactStepPoint (os : Os) (started : os.Started) (H : Type) (enc : TypeId × Value → H) :
    ReturnsInHanded {} Try.checked os 6 .any (Rows.fnExactStepPointSpec.pre6 enc Try.prog Try.f6 Rows.fnExactStepPointRow.domain false) (Rows.fnExactStepPointSpec.post enc Try.prog Try.f6 false true false false) := by
  refine returnsInHanded_of_change (C := Try.checked) own_fnExactStepPoint started (by kernel_rfl) Try.func6
    (ChangeSpec.witness6 (enc := enc) (C := Try.checked) false ⟨#[], #[(Point.mk 0 0).val, .int .i64 0], []⟩ 8 (by kernel_rfl) (by kernel_rfl) (by kernel_rfl) (by kernel_rfl)) ?_
  intro W base args ds gs before hval0 hW hcnd _
  have hval : ∀ (j : Nat) t v, Try.f6.params[j]? = some t → args[j]? = some v → Value.okWide Try.prog W .any base t v := hval0
  have hW' := hW
  obtain ⟨p, q, hA0, hV, rfl, hfz, hnd⟩ := hW
  have hA : DataW.TrodAll enc Try.prog W 0 (fun _ => true) true Try.f6.params.toList args.toList ds p := hA0
  rw [Try.params6] at hA hval
  obtain ⟨v0, vs0, d0, ds0, p0, q0, hargs, rfl, rfl, h0, r0⟩ := trodAll_cons hA
  obtain ⟨v1, vs1, d1, ds1, p1, q1, rfl, rfl, rfl, h1, r1⟩ := trodAll_cons r0
  obtain ⟨rfl, rfl, rfl⟩ := trodAll_nil r1
  obtain rfl : args = #[v0, v1] := by cases args; simp_all
  obtain ⟨rfl, rfl⟩ := trodVars_none hV
  have k0 := h0
  have lt0 : ∀ x ∈ p0, x.block < W.heap.size := by obtain ⟨m, hm⟩ := k0; exact DataW.trod_lt m _ _ _ hm
  have k1 := h1
  have lt1 : ∀ x ∈ p1, x.block < W.heap.size := by obtain ⟨m, hm⟩ := k1; exact DataW.trod_lt m _ _ _ hm
  obtain ⟨c0, rfl⟩ := agg_of Try.underlying34 (hval 0 34 v0 rfl rfl)
  obtain ⟨x0, hx0⟩ : ∃ x, Point.ty.rep W W.heap.size c0.toList x := by obtain ⟨m, hm⟩ := h0; exact Point.reads.2 hm
  obtain ⟨l0⟩ := c0
  obtain ⟨rfl, _⟩ := Point.cells hx0
  obtain ⟨x1, rfl, _, _, w1⟩ := open_int Try.underlying2 (hval 1 2 v1 rfl rfl) h1
  have hx1 := InK.of_wf w1
  clear hA0 hval0
  refine (walk_fnExactStepPoint x0 x1 W).mono fun e W' ⟨he, bel⟩ => ?_
  subst he
  exact ⟨_, rfl, _, _, _, [], _, [], hW', trodAll_mk1 (shut_bool Try.underlying4 _), (trodAll_cons_mk (Below.trod laidOut_fnExactStepPoint (by kernel_rfl) (of_decide_eq_true (by kernel_rfl)) k0 bel lt0) (trodAll_cons_mk (Below.trod laidOut_fnExactStepPoint (by kernel_rfl) (of_decide_eq_true (by kernel_rfl)) k1 bel lt1) trodAll_mk0)), rfl, bel.frame _, fun h => by cases h⟩

theorem fnExactStepPoint_holds : Rows.FnExactStepPointSaid :=
  OpenClaim.holds_of_wide 6 Try.f6 rfl rfl rfl rfl rfl rfl rfl ⟨rfl, rfl, rfl, rfl, rfl⟩ rfl rfl rfl rfl rfl (by kernel_rfl) Try.func6 (by kernel_rfl)
    (of_decide_eq_true (by kernel_rfl)) (by unfold Func.isWrapper; rw [if_neg (of_decide_eq_false (by kernel_rfl))]; exact ⟨rfl, rfl⟩)
    (fun os started H enc _ => lifted_fnExactStepPoint os started H enc)
end Go.Proofs.Ytlfgkhjibhfopaa
