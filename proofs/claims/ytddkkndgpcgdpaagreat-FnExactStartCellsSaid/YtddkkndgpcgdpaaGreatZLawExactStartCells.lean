/- For all arguments, the program's StartCells and the reference's StartCells give the same results: the law returns true, and its arguments read afterwards as before. No conditions. -/
import Derived.Test.YtddkkndgpcgdpaaGreatZWalkExactStartCells
set_option linter.all false
namespace Go.Proofs.YtddkkndgpcgdpaaGreat
open Go.RowKit Go.ChangeShapes Go.WideShapes Go.ChangeAt
open Go.ChangeMaps (open_string)
theorem own_fnExactStartCells : ownKnob Tryz.prog.godebug = none := by kernel_rfl
theorem laidOut_fnExactStartCells : laidOutB Tryz.prog = true := by kernel_rfl
set_option maxRecDepth 100000 in
theorem lifted_fnExactStartCells (os : Os) (started : os.Started) (H : Type) (enc : TypeId × Value → H) :
    ReturnsInHanded {} Tryz.checked os 3 .any (Rows.fnExactStartCellsSpec.pre6 enc Tryz.prog Tryz.f3 Rows.fnExactStartCellsRow.domain false) (Rows.fnExactStartCellsSpec.post enc Tryz.prog Tryz.f3 false true false false) := by
  refine returnsInHanded_of_change (C := Tryz.checked) own_fnExactStartCells started (by kernel_rfl) Tryz.func3
    (ChangeSpec.witness6 (enc := enc) (C := Tryz.checked) false ⟨#[], #[.agg #[.slice none 0 0, .slice none 0 0], .agg #[.slice none 0 0]], []⟩ 8 (by kernel_rfl) (by kernel_rfl) (by kernel_rfl) (by kernel_rfl)) ?_
  intro W base args ds gs before hval0 hW hcnd _; have hval : ∀ (j : Nat) t v, Tryz.f3.params[j]? = some t → args[j]? = some v → Value.okWide Tryz.prog W .any base t v := hval0; have hW' := hW; obtain ⟨p, q, hA0, hV, rfl, hfz, hnd⟩ := hW; have hA : DataW.TrodAll enc Tryz.prog W 0 (fun _ => true) true Tryz.f3.params.toList args.toList ds p := hA0; rw [Tryz.params3] at hA hval; obtain ⟨v0, vs0, d0, ds0, p0, q0, hargs, rfl, rfl, h0, r0⟩ := trodAll_cons hA; obtain ⟨v1, vs1, d1, ds1, p1, q1, rfl, rfl, rfl, h1, r1⟩ := trodAll_cons r0; obtain ⟨rfl, rfl, rfl⟩ := trodAll_nil r1; obtain rfl : args = #[v0, v1] := by cases args; simp_all
  obtain ⟨rfl, rfl⟩ := trodVars_none hV; have k0 := h0; have lt0 : ∀ x ∈ p0, x.block < W.heap.size := (by obtain ⟨m, hm⟩ := k0; exact DataW.trod_lt m _ _ _ hm); have k1 := h1; have lt1 : ∀ x ∈ p1, x.block < W.heap.size := (by obtain ⟨m, hm⟩ := k1; exact DataW.trod_lt m _ _ _ hm); obtain ⟨c0, rfl⟩ := agg_of Tryz.underlying25 (hval 0 25 v0 rfl rfl); obtain ⟨x0, hx0⟩ : ∃ x, SignalSet.ty.rep W W.heap.size c0.toList x := (by obtain ⟨m, hm⟩ := h0; exact SignalSet.reads.2 hm); obtain ⟨l0⟩ := c0; obtain ⟨y0_0, y0_1, rfl, z0_0, z0_1⟩ := SignalSet.cells hx0; obtain ⟨c1, rfl⟩ := agg_of Tryz.underlying28 (hval 1 28 v1 rfl rfl); obtain ⟨x1, hx1⟩ : ∃ x, Assembly.ty.rep W W.heap.size c1.toList x := (by obtain ⟨m, hm⟩ := h1; exact Assembly.reads.2 hm); obtain ⟨l1⟩ := c1; obtain ⟨y1_0, rfl, z1_0⟩ := Assembly.cells hx1; clear hA0 hval0; refine (walk_fnExactStartCells y0_0 y0_1 x0 y1_0 x1 W z0_0 z0_1 z1_0).mono fun e W' ⟨he, bel⟩ => ?_; subst he; exact ⟨_, rfl, _, _, _, [], _, [], hW', trodAll_mk1 (shut_bool Tryz.underlying4 _), (trodAll_cons_mk (Below.trod laidOut_fnExactStartCells (by kernel_rfl) (of_decide_eq_true (by kernel_rfl)) k0 bel lt0) (trodAll_cons_mk (Below.trod laidOut_fnExactStartCells (by kernel_rfl) (of_decide_eq_true (by kernel_rfl)) k1 bel lt1) trodAll_mk0)), rfl, bel.frame _, fun h => by cases h⟩
theorem fnExactStartCells_holds : Rows.FnExactStartCellsSaid :=
  OpenClaim.holds_of_wide 3 Tryz.f3 rfl rfl rfl rfl rfl rfl rfl ⟨rfl, rfl, rfl, rfl, rfl⟩ rfl rfl rfl rfl rfl (by kernel_rfl) Tryz.func3 (by kernel_rfl)
    (of_decide_eq_true (by kernel_rfl)) (by unfold Func.isWrapper; rw [if_neg (of_decide_eq_false (by kernel_rfl))]; exact ⟨rfl, rfl⟩)
    (fun os started H enc _ => lifted_fnExactStartCells os started H enc)
end Go.Proofs.YtddkkndgpcgdpaaGreat
