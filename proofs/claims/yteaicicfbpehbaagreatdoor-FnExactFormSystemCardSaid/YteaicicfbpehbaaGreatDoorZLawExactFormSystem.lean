/- For all arguments, the program's FormSystem and the reference's FormSystem give the same results: the law returns true, and its arguments read afterwards as before. No conditions. -/
import Derived.Test.YteaicicfbpehbaaGreatDoorZWalkExactFormSystem
import Derived.Test.YteaicicfbpehbaaGreatDoorCards
import Derived.Test.YteaicicfbpehbaaGreatDoorTie
import Derived.LaidMore
import Derived.OpenShut
import Derived.Stop.Joined
import Derived.SevenTiedAt
set_option linter.all false
namespace Go.Proofs.YteaicicfbpehbaaGreatDoor
open Go.RowKit Go.ChangeShapes Go.WideShapes Go.ChangeAt
open Go.ChangeMaps (open_string)
theorem zG0 : ownKnob Tryz.prog.godebug = none := by kernel_rfl
theorem zDl : laidOutB Tryz.prog = true := by kernel_rfl
open Go.V
theorem zGt (os : Os) (args : Array Value) : laidMetH Tryz.prog Rows.fnExactFormSystemRow.laid ((World.doorLaid Tryz.prog 400 os).forCall (fun _ _ => 0) ⟨#[], args, []⟩).memory :=
  laidMetH_of_parts3 (fuel := 24) (laidMet_of_run' 24 (by kernel_rfl) (by kernel_rfl)) (by kernel_rfl) (by kernel_rfl)
set_option maxRecDepth 100000 in
theorem zFw (os : Os) (started : os.Started) (H : Type) (enc : TypeId × Value → H) :
    ReturnsInHanded {} Tryz.checked os 3 .any (fun w args => (Rows.fnExactFormSystemSpec.pre enc Tryz.prog Tryz.f3 [] false w args ∧ laidMetH Tryz.prog Rows.fnExactFormSystemRow.laid w) ∧ sizedMet enc Tryz.prog Tryz.f3 (OpenSpec.ofChange Rows.fnExactFormSystemSpec) false w args) (Rows.fnExactFormSystemSpec.post enc Tryz.prog Tryz.f3 false true false false) := by
  refine returnsInHanded_of_change_and (C := Tryz.checked) (X := fun w _ => laidMetH Tryz.prog Rows.fnExactFormSystemRow.laid w) (fun _ _ _ hh h => h.of_heap hh) zG0 started (by kernel_rfl) Tryz.func3
    (ChangeSpec.witness_shaped (enc := enc) (C := Tryz.checked) (os := os) (X := fun w _ => laidMetH Tryz.prog Rows.fnExactFormSystemRow.laid w) false (World.doorLaid Tryz.prog 400 os) #[.agg #[.int .i64 0, .slice none 0 0, .slice none 0 0], .slice none 0 0] 8 rfl (World.shaped_of_RefB (by kernel_rfl) (by kernel_rfl)) (by kernel_rfl) (by kernel_rfl) (by kernel_rfl) (zGt os _)) ?_
  intro W base args ds gs before hval0 hW _ _ hL _; have hL2 := hL; rw [MakeChecks.laidMetH_plain _ _ _ (by kernel_rfl)] at hL2; have hTab : GI zA8 W (fun b => b < W.heap.size) := by first | exact zEw hL2 | exact zEw hL2.tail | exact zEw hL2.tail.tail | exact zEw hL2.tail.tail.tail | exact zEw hL2.tail.tail.tail.tail
  clear hL2; have hval : ∀ (j : Nat) t v, Tryz.f3.params[j]? = some t → args[j]? = some v → Value.okWide Tryz.prog W .any base t v := hval0; have hW' := hW; obtain ⟨p, q, hA0, hV, rfl, hfz, hnd⟩ := hW; have hA : DataW.TrodAll enc Tryz.prog W 0 (fun _ => true) true Tryz.f3.params.toList args.toList ds p := hA0; rw [Tryz.params3] at hA hval; obtain ⟨v0, vs0, d0, ds0, p0, q0, hargs, rfl, rfl, h0, r0⟩ := trodAll_cons hA; obtain ⟨v1, vs1, d1, ds1, p1, q1, rfl, rfl, rfl, h1, r1⟩ := trodAll_cons r0; obtain ⟨rfl, rfl, rfl⟩ := trodAll_nil r1; obtain rfl : args = #[v0, v1] := by cases args; simp_all
  obtain ⟨rfl, rfl⟩ := trodVars_none hV; have k0 := h0; have lt0 : ∀ x ∈ p0, x.block < W.heap.size := (by obtain ⟨m, hm⟩ := k0; exact DataW.trod_lt m _ _ _ hm); have k1 := h1; have lt1 : ∀ x ∈ p1, x.block < W.heap.size := (by obtain ⟨m, hm⟩ := k1; exact DataW.trod_lt m _ _ _ hm); obtain ⟨c0, rfl⟩ := yTd Tryz.underlying25 (hval 0 25 v0 rfl rfl); obtain ⟨x0, hx0⟩ : ∃ x, Form.ty.rep W W.heap.size c0.toList x := (by obtain ⟨m, hm⟩ := h0; exact Form.reads.2 hm); obtain ⟨l0⟩ := c0; obtain ⟨y0_0, y0_1, rfl, z0_0, z0_1, z0_2⟩ := Form.cells hx0; obtain ⟨a1, len1, cap1, rfl⟩ := okWide_slice Tryz.underlying26 (hval 1 26 v1 rfl rfl); obtain ⟨x1, hx1⟩ : ∃ x, (Ty.slice 2 (Ty.int .i64)).rep W W.heap.size [.slice a1 len1 cap1] x := (by obtain ⟨m, hm⟩ := h1; exact (zF9 Tryz.underlying26 (by kernel_rfl) (by decide) (zGz Tryz.underlying2 (by kernel_rfl))).2 (by simpa [Value.cells] using hm)); clear hA0 hval0; refine (zGo y0_0 y0_1 x0 (.slice a1 len1 cap1) x1 W hTab z0_1 z0_2 z0_0 hx1).mono fun e W' ⟨he, bel⟩ => ?_; subst he; exact ⟨_, rfl, _, _, _, [], _, [], hW', trodAll_mk1 (shut_bool Tryz.underlying4 _), (trodAll_cons_mk (Below.trod zDl (by kernel_rfl) (of_decide_eq_true (by kernel_rfl)) k0 bel lt0) (trodAll_cons_mk (Below.trod zDl (by kernel_rfl) (of_decide_eq_true (by kernel_rfl)) k1 bel lt1) trodAll_mk0)), rfl, bel.frame _, fun h => by cases h⟩
theorem zGh : Rows.FnExactFormSystemSaid :=
  OpenClaim.holds_of_wide 3 Tryz.f3 rfl rfl rfl rfl rfl rfl rfl ⟨rfl, rfl, rfl, rfl, rfl⟩ rfl rfl rfl rfl rfl (by kernel_rfl) Tryz.func3 (by kernel_rfl)
    (of_decide_eq_true (by kernel_rfl)) (by unfold Func.isWrapper; rw [if_neg (of_decide_eq_false (by kernel_rfl))]; exact ⟨rfl, rfl⟩)
    (fun os started H enc _ => zFw os started H enc)
theorem fnExactFormSystem_card : Rows.FnExactFormSystemCardSaid :=
  Claim7.holds_tied_plain_at .later [] Rows.fnExactFormSystemCard.laidKinds true Rows.fnExactFormSystemCard.stood.harness false
    zGh (fun _ h => by cases h) (by kernel_rfl) (fun _ h => by cases h) fnExactFormSystem_row_tie rfl ⟨rfl, rfl⟩ (by kernel_rfl) rfl
    (fun f fn hf hfn => by
      obtain rfl : f = 3 := Option.some.inj ((show Tryz.prog.funcNamed Rows.fnExactFormSystemRow.func = some 3 by kernel_rfl).symm.trans hf) |>.symm; obtain rfl : fn = Tryz.f3 := (Option.some.inj (Tryz.func3.symm.trans hfn)).symm; exact ⟨by kernel_rfl, fun j t ht => by
        rw [Tryz.params3] at ht; have hm := Array.mem_of_getElem? ht; have hall : ((Tryz.f3.params.toList).all fun u => !Tryz.prog.wantsStandIn u) = true := by kernel_rfl
        rw [Tryz.params3] at hall; exact (show Tryz.prog.wantsStandIn t = false by simpa using List.all_eq_true.1 hall t (by simpa using hm))⟩)
    (by kernel_rfl)
end Go.Proofs.YteaicicfbpehbaaGreatDoor
