/- Laws that the proof stands on. -/
import Derived.Test.YtgnlikamelfmjaaZg11
import Derived.Test.YtgnlikamelfmjaaZg10
import Derived.Test.YtgnlikamelfmjaaZVCmpW
import Derived.Test.YtgnlikamelfmjaaZLaySortPoint
import Derived.Test.YtgnlikamelfmjaaZVSortL
set_option linter.all false
namespace Go.Proofs.Ytgnlikamelfmjaa
open Go.RowKit Go.V
attribute [local go_sem] List.getElem?_cons_succ List.getElem?_cons_zero List.set_cons_succ List.set_cons_zero List.map_cons List.map_nil List.length_cons List.length_nil List.all_cons List.all_nil List.drop_succ_cons List.drop_zero List.take_succ_cons List.take_zero List.flatMap_cons List.flatMap_nil List.cons_append List.nil_append List.append_nil List.headD_cons Value.oneCell' Bool.and_true Bool.true_and Bool.or_false Bool.false_or Bool.and_self Bool.not_true Bool.not_false and_true true_and beq_self_eq_true Bool.false_eq_true if_true if_false Nat.zero_add Nat.reduceAdd Nat.reduceMul Nat.reduceLeDiff Nat.le_refl Option.isSome_some Option.isSome_none not_true_eq_false not_false_eq_true ne_eq reduceCtorEq List.reverse_nil bne_self_eq_false Nat.reduceEqDiff List.isPrefixOf Bool.not_eq_true Bool.and_false Bool.false_and Bool.true_or Bool.or_true decide_true decide_false Nat.reduceBEq Nat.reduceBNe List.replicate_succ List.replicate_zero exists_eq_left' exists_eq_left Option.some.injEq or_false or_true true_or false_or Option.map_some Option.map_none mB Nat.reduceMod Nat.reduceDiv
set_option maxRecDepth 100000
def encPt (p : Point) : List Value := [.int .i64 p.X, .int .i64 p.Y]
theorem rowV_pt (p : Point) (o : Bool) : rowV encPt p = Point.td.d o p := by rw [Point.td_d]; rfl
instance : Inhabited Point := ⟨⟨0, 0⟩⟩
def sortQ (xs : List Point) : List Point := xs.mergeSort fun x y => !(ltOf fun a b : Point => cmpP a b) y x
theorem v_SortPt (xs : List Point) (hl : xs.length ≤ 1048576) : ContractL Try.prog NoG 100 0 [.undef, .fn 98 [] []] (.sl true 2 (xs.map (Point.td.d true))) (.tup []) (.sl true 2 ((sortQ xs).map (Point.td.d true))) := by
  have he : (Point.td.d true) = rowV encPt := funext fun t => (rowV_pt t true).symm; rw [he]; have eg : ∀ args w, (callFunc 98 args).run Try.prog w = .ok (.enter 98 args) w := enters_of Try.func98 (by kernel_rfl) rfl; refine contractL_sort (enc := encPt) (ltOf fun a b : Point => cmpP a b) (fun _ => rfl) (by decide) (fun x v hv => by simp [encPt] at hv; rcases hv with rfl | rfl <;> rfl) (enters_of Try.func100 (by kernel_rfl) rfl) xs (sortQ xs) (by omega) ?_ ?_ ?_ (fun h => by rw [h]; simp [sortQ])
  · intro blk off cap w hH hb; exact AnyQ.slices_SortFunc Try.laysSortPoint 2 Try.isAgg61 Try.sizeOf61 encPt (fun _ => rfl) (fun x v hv => by simp [encPt] at hv; rcases hv with rfl | rfl <;> rfl) (fun x y => cmpP x y) swo_P 98 #[] blk off cap xs.toArray w eg (fun _ _ _ _ x y => w_comparePoints x y _) hH hb (by simp; omega)
  · intro _ w; refine (AnyF.slices_SortFunc_none Try.laysSortPoint none 0 (.func (.func 98) #[] #[]) w).mono ?_; rintro e w' ⟨rfl, rfl⟩; exact ⟨rfl, Below.refl _ _⟩
  · intro d' hp hs; have h := Go.Sort.sorted_unique_holds swo_P (fun x y h1 h2 => less_eq (by unfold ltOf at h1; rwa [cmpP_lt] at h1) (by unfold ltOf at h2; rwa [cmpP_lt] at h2)) xs.toArray d' hp hs; rw [h]; rfl
def rT (xs : List Point) (p : List Nat) : List D := [.sl true 2 ((sortQ (ptsG xs p)).map (Point.td.d true))]
def leftG (xs : List Point) (nm : List Int) (L : List Point) : Prop := L.Nodup ∧ ∀ q, q ∈ L ↔ ∃ j, atQ xs q = some j ∧ nm[j]? = some 0
theorem leftG_del {xs : List Point} (hs : xs.Nodup) {nm : List Int} {L : List Point} (h : leftG xs nm L) {g : Int} (hg : g ≠ 0) {q : Point} {j : Nat} (hq : atQ xs q = some j) : ∃ L', mdel (entsP L) (.agg #[.int .i64 q.X, .int .i64 q.Y]) = entsP L' ∧ leftG xs (nm.set j g) L' := by
  obtain ⟨L', h1, h2, h3⟩ := mdel_P (xs := L) (q := q) h.1; refine ⟨L', h1, h2, fun p => ?_⟩; rw [h3, h.2]; constructor
  · rintro ⟨⟨k, hk, hk0⟩, hne⟩; refine ⟨k, hk, ?_⟩; have hjk : j ≠ k := fun e => by subst e; obtain ⟨hj1, e1⟩ := atQ_some hq; obtain ⟨hj2, e2⟩ := atQ_some hk; exact hne (e2.symm.trans e1)
    rw [List.getElem?_set_ne hjk]; exact hk0
  · rintro ⟨k, hk, hk0⟩; by_cases hjk : j = k
    · subst hjk; have hl : j < nm.length := by
        by_cases hl : j < nm.length
        · exact hl
        · rw [List.getElem?_eq_none (by rw [List.length_set]; omega)] at hk0; cases hk0
      rw [List.getElem?_set_self hl] at hk0; exact absurd (Option.some.inj hk0) hg
    · rw [List.getElem?_set_ne hjk] at hk0; refine ⟨⟨k, hk, hk0⟩, fun e => hjk ?_⟩; rw [e, hq] at hk; exact Option.some.inj hk
theorem get_left {xs : List Point} {nm : List Int} {L : List Point} (h : leftG xs nm L) {q : Point} (hq : ∃ j, atQ xs q = some j ∧ nm[j]? = some 0) : mget (entsP L) (.agg #[.int .i64 q.X, .int .i64 q.Y]) = some (.bool true) := by have := mget_P q L; rw [if_pos ((h.2 q).2 hq)] at this; exact this
theorem get_gone {xs : List Point} {nm : List Int} {L : List Point} (h : leftG xs nm L) {q : Point} (hq : ¬ ∃ j, atQ xs q = some j ∧ nm[j]? = some 0) : mget (entsP L) (.agg #[.int .i64 q.X, .int .i64 q.Y]) = none := by have := mget_P q L; rw [if_neg (fun h1 => hq ((h.2 q).1 h1))] at this; exact this
def code_impl_connected : VCode := (.seq (.ops [
  ⟨(some 2), none, (.asg (.const (.slice none 0 0)))⟩]) (.seq (.ops [
  ⟨(some 13), none, (.mkm (.flat [1, 1]))⟩,
  ⟨(some 3), none, (.asg (.tmp 13))⟩]) (.seq (.seq (.ops [
  ⟨(some 14), none, (.mv (.tmp 0))⟩,
  ⟨(some 15), none, (.len (.tmp 14))⟩,
  ⟨(some 16), none, (.mv (.const (.int .i64 0)))⟩]) (.block 0 (.loop (mB 70 1180591620717411180534) (.seq (.ops [
  ⟨(some 17), none, (.bin .lss (.tmp 16) (.tmp 15))⟩]) (.seq (.cond (.tmp 17) .skip (.exit 0)) (.seq (.block 1 (.seq (.ops [
  ⟨(some 18), none, (.ia 2 (.tmp 14) (.tmp 16))⟩,
  ⟨(some 19), none, (.load 2 true (.tmp 18))⟩,
  ⟨(some 5), none, (.alloc [(.int .i64 0), (.int .i64 0)])⟩,
  ⟨none, none, (.store 2 (.tmp 5) (.tmp 19))⟩]) (.ops [
  ⟨(some 20), none, (.mv (.tmp 3))⟩,
  ⟨(some 21), none, (.load 2 true (.tmp 5))⟩,
  ⟨none, none, (.mupd (.flat [1, 1]) (.tmp 20) (.tmp 21) (.const (.bool true)))⟩]))) (.ops [
  ⟨(some 22), none, (.bin .add (.tmp 16) (.const (.int .i64 1)))⟩,
  ⟨(some 16), none, (.mv (.tmp 22))⟩]))))))) (.seq (.ops [
  ⟨(some 6), none, (.asg (.const (.slice none 0 0)))⟩]) (.seq (.seq (.ops [
  ⟨(some 23), none, (.mv (.tmp 0))⟩,
  ⟨(some 24), none, (.len (.tmp 23))⟩,
  ⟨(some 25), none, (.mv (.const (.int .i64 0)))⟩]) (.block 2 (.loop (mB 70 902016962149543304631) (.seq (.ops [
  ⟨(some 26), none, (.bin .lss (.tmp 25) (.tmp 24))⟩]) (.seq (.cond (.tmp 26) .skip (.exit 2)) (.seq (.block 3 (.seq (.ops [
  ⟨(some 27), none, (.ia 2 (.tmp 23) (.tmp 25))⟩,
  ⟨(some 28), none, (.load 2 true (.tmp 27))⟩,
  ⟨(some 8), none, (.alloc [(.int .i64 0), (.int .i64 0)])⟩,
  ⟨none, none, (.store 2 (.tmp 8) (.tmp 28))⟩]) (.seq (.seq (.ops [
  ⟨(some 29), none, (.mv (.tmp 3))⟩,
  ⟨(some 30), none, (.load 2 true (.tmp 8))⟩,
  ⟨(some 31), none, (.mlk (.flat [1, 1]) (.bool false) false (.tmp 29) (.tmp 30))⟩,
  ⟨(some 32), none, (.un .not (.tmp 31))⟩]) (.cond (.tmp 32) (.exit 3) .skip)) (.seq (.ops [
  ⟨(some 33), none, (.load 2 true (.tmp 8))⟩,
  ⟨(some 34), none, (.bsl 2 [(.tmp 33)])⟩,
  ⟨(some 9), none, (.asg (.tmp 34))⟩]) (.seq (.ops [
  ⟨(some 35), none, (.mv (.tmp 3))⟩,
  ⟨(some 36), none, (.load 2 true (.tmp 8))⟩,
  ⟨none, none, (.mdel (.flat [1, 1]) (.tmp 35) (.tmp 36))⟩]) (.seq (.seq (.ops [
  ⟨(some 10), none, (.asg (.const (.int .i64 0)))⟩]) (.block 4 (.loop (mB 70 902016962149543303607) (.seq (.seq (.ops [
  ⟨(some 37), none, (.mv (.tmp 10))⟩,
  ⟨(some 38), none, (.mv (.tmp 9))⟩,
  ⟨(some 39), none, (.len (.tmp 38))⟩,
  ⟨(some 40), none, (.bin .lss (.tmp 37) (.tmp 39))⟩]) (.cond (.tmp 40) .skip (.exit 4))) (.seq (.block 5 (.seq (.ops [
  ⟨(some 43), none, (.mv (.const (.int .i64 0)))⟩]) (.block 6 (.loop (mB 70 902016953353450281399) (.seq (.ops [
  ⟨(some 44), none, (.bin .lss (.tmp 43) (.const (.int .i64 4)))⟩]) (.seq (.cond (.tmp 44) .skip (.exit 6)) (.seq (.block 7 (.seq (.ops [
  ⟨(some 45), none, (.mv (.tmp 43))⟩,
  ⟨(some 11), none, (.asg (.tmp 45))⟩]) (.seq (.ops [
  ⟨(some 46), none, (.mv (.tmp 9))⟩,
  ⟨(some 47), none, (.mv (.tmp 10))⟩,
  ⟨(some 48), none, (.ia 2 (.tmp 46) (.tmp 47))⟩,
  ⟨(some 49), none, (.load 2 true (.tmp 48))⟩,
  ⟨(some 50), none, (.mv (.tmp 11))⟩,
  ⟨(some 51), none, (.callX 99 [(.tmp 49), (.tmp 50)])⟩,
  ⟨(some 12), none, (.alloc [(.int .i64 0), (.int .i64 0)])⟩,
  ⟨none, none, (.store 2 (.tmp 12) (.tmp 51))⟩]) (.seq (.ops [
  ⟨(some 52), none, (.mv (.tmp 3))⟩,
  ⟨(some 53), none, (.load 2 true (.tmp 12))⟩,
  ⟨(some 54), none, (.mlk (.flat [1, 1]) (.bool false) false (.tmp 52) (.tmp 53))⟩]) (.cond (.tmp 54) (.seq (.ops [
  ⟨(some 55), none, (.mv (.tmp 3))⟩,
  ⟨(some 56), none, (.load 2 true (.tmp 12))⟩,
  ⟨none, none, (.mdel (.flat [1, 1]) (.tmp 55) (.tmp 56))⟩]) (.ops [
  ⟨(some 57), none, (.mv (.tmp 9))⟩,
  ⟨(some 58), none, (.load 2 true (.tmp 12))⟩,
  ⟨(some 59), none, (.bsl 2 [(.tmp 58)])⟩,
  ⟨(some 60), none, (.app 2 16 (.tmp 57) (.tmp 59))⟩,
  ⟨(some 9), none, (.asg (.tmp 60))⟩])) .skip))))) (.ops [
  ⟨(some 61), none, (.bin .add (.tmp 43) (.const (.int .i64 1)))⟩,
  ⟨(some 43), none, (.mv (.tmp 61))⟩])))))))) (.ops [
  ⟨(some 41), none, (.mv (.tmp 10))⟩,
  ⟨(some 42), none, (.bin .add (.tmp 41) (.const (.int .i64 1)))⟩,
  ⟨(some 10), none, (.asg (.tmp 42))⟩])))))) (.seq (.ops [
  ⟨(some 62), none, (.mv (.tmp 9))⟩,
  ⟨(some 63), none, (.callX 100 [(.tmp 62), (.func 98)])⟩]) (.ops [
  ⟨(some 64), none, (.mv (.tmp 6))⟩,
  ⟨(some 65), none, (.mv (.tmp 9))⟩,
  ⟨(some 66), none, (.bsl 1 [(.tmp 65)])⟩,
  ⟨(some 67), none, (.app 1 24 (.tmp 64) (.tmp 66))⟩,
  ⟨(some 6), none, (.asg (.tmp 67))⟩])))))))) (.ops [
  ⟨(some 68), none, (.bin .add (.tmp 25) (.const (.int .i64 1)))⟩,
  ⟨(some 25), none, (.mv (.tmp 68))⟩]))))))) (.seq (.ops [
  ⟨(some 69), none, (.mv (.tmp 6))⟩,
  ⟨(some 2), none, (.asg (.tmp 69))⟩]) .ret))))))
theorem law_impl_connected {a0 d : D} (h : code_impl_connected.wp (CT Try.prog NoG) (endQ [(.t 2)] d) [a0, .undef, .undef, .undef, .undef, .undef, .undef, .undef, .undef, .undef, .undef, .undef, .undef, .undef, .undef, .undef, .undef, .undef, .undef, .undef, .undef, .undef, .undef, .undef, .undef, .undef, .undef, .undef, .undef, .undef, .undef, .undef, .undef, .undef, .undef, .undef, .undef, .undef, .undef, .undef, .undef, .undef, .undef, .undef, .undef, .undef, .undef, .undef, .undef, .undef, .undef, .undef, .undef, .undef, .undef, .undef, .undef, .undef, .undef, .undef, .undef, .undef, .undef, .undef, .undef, .undef, .undef, .undef, .undef, .undef]) : Contract Try.prog NoG 68 [a0] d :=
  contract_of (pt := 0) noG Try.func68 (fun us W => by kernel_rfl) (c := Try.f68.body.getD .skip) (ms := [(mB 70 1180591620717411180534), (mB 70 902016962149543304631), (mB 70 902016962149543303607), (mB 70 902016953353450281399)]) (ms' := []) (by kernel_rfl) (by kernel_rfl) (by kernel_rfl) h
def code_impl_oneGroup : VCode := (.seq (.ops [
  ⟨(some 2), none, (.asg (.const (.bool false)))⟩]) (.seq (.ops [
  ⟨(some 3), none, (.mv (.tmp 0))⟩,
  ⟨(some 4), none, (.callX 68 [(.tmp 3)])⟩,
  ⟨(some 5), none, (.len (.tmp 4))⟩,
  ⟨(some 6), none, (.bin .eql (.tmp 5) (.const (.int .i64 1)))⟩,
  ⟨(some 2), none, (.asg (.tmp 6))⟩]) .ret))
theorem law_impl_oneGroup {a0 d : D} (h : code_impl_oneGroup.wp (CT Try.prog NoG) (endQ [(.t 2)] d) [a0, .undef, .undef, .undef, .undef, .undef, .undef]) : Contract Try.prog NoG 34 [a0] d :=
  contract_of (pt := 0) noG Try.func34 (fun us W => by kernel_rfl) (c := Try.f34.body.getD .skip) (ms := []) (ms' := []) (by kernel_rfl) (by kernel_rfl) (by kernel_rfl) h
def code_impl_IsConnected : VCode := (.seq (.ops [
  ⟨(some 2), none, (.asg (.const (.bool false)))⟩]) (.seq (.ops [
  ⟨(some 3), none, (.mv (.tmp 0))⟩,
  ⟨(some 4), none, (.callX 33 [(.tmp 3)])⟩,
  ⟨(some 5), none, (.mv (.tmp 4))⟩,
  ⟨(some 6), (some (5, true)), (.mv (.tmp 0))⟩,
  ⟨(some 7), (some (5, true)), (.callX 34 [(.tmp 6)])⟩,
  ⟨(some 8), none, (.pick (.tmp 5) (.tmp 7) (.const (.bool false)))⟩,
  ⟨(some 2), none, (.asg (.tmp 8))⟩]) .ret))
theorem law_impl_IsConnected {a0 d : D} (h : code_impl_IsConnected.wp (CT Try.prog NoG) (endQ [(.t 2)] d) [a0, .undef, .undef, .undef, .undef, .undef, .undef, .undef, .undef]) : Contract Try.prog NoG 10 [a0] d :=
  contract_of (pt := 0) noG Try.func10 (fun us W => by kernel_rfl) (c := Try.f10.body.getD .skip) (ms := []) (ms' := []) (by kernel_rfl) (by kernel_rfl) (by kernel_rfl) h
set_option maxHeartbeats 8000000 in
theorem v_connected (xs : List Point) (hst : strictQ xs) (hn : xs.length ≤ 500) (hok0 : ∀ p, p ∈ xs → Point.td.ok p) : Contract Try.prog NoG 68 [.sl false 2 (xs.map (Point.td.d false))] (.sl true 1 ((outG xs xs.length).2.map (rT xs))) := by
  have hs := strictQ_nodup hst; refine law_impl_connected ?_; unfold code_impl_connected; simp -implicitDefEqProofs (disch := omega) only [go_sem, ↓reduceIte , List.length_map]; refine loop_ov (by simp -implicitDefEqProofs (disch := omega) only [go_sem, ↓reduceIte]; exact rfl) (fun i : Nat => [(3, .mp (.flat [1, 1]) (entsP (xs.take i))), (16, .v (.int .i64 (i : Nat)))]) (fun _ => by simp only [ovr_nil, ovr_cons, List.set_cons_zero, List.set_cons_succ]; exact rfl) (fun i : Nat => i ≤ xs.length) (fun i : Nat => xs.length - i) (0) (nleA) (?_) ?_
  · exact Nat.zero_le _
  intro i hi; simp -implicitDefEqProofs (disch := omega) only [go_sem, ↓reduceIte , List.length_map, Int.toNat_natCast, Int.ofNat_lt, Int.natCast_nonneg, List.getElem?_map, Option.map_some]; refine cond_split ?_ ?_ <;> intro hlt
  · have hlt : i < xs.length := (by simpa using hlt); have e1 := List.getElem?_eq_getElem hlt; have hnew : mset (entsP (xs.take i)) (.agg #[.int .i64 xs[i].X, .int .i64 xs[i].Y]) (.bool true) = entsP (xs.take (i + 1)) := by
      have h := mset_P (xs := xs.take i) (q := xs[i]) (fun hm => by
        obtain ⟨j, hj, e⟩ := List.getElem_of_mem hm; have hj2 : j < i := (by rw [List.length_take] at hj; omega); rw [List.getElem_take] at e; exact List.pairwise_iff_getElem.1 hs j i (by omega) hlt hj2 e)
      rw [List.take_succ_eq_append_getElem hlt]; exact h
    simp -implicitDefEqProofs (disch := omega) only [go_sem, ↓reduceIte , List.length_map, Int.toNat_natCast, Int.ofNat_lt, Int.natCast_nonneg, List.getElem?_map, Option.map_some, hlt, e1, Point.td_d, hnew, wrN]; exact ⟨i + 1, by omega, hlt, nleA⟩
  obtain rfl : i = xs.length := (by have : ¬ i < xs.length := (by simpa using hlt); omega); rw [List.take_length]; have hL0 : leftG xs (outG xs 0).1 xs := ⟨hs, fun q => ⟨fun hq => ?_, fun ⟨j, hj, _⟩ => ?_⟩⟩
  rotate_left
  · cases hj : atQ xs q with
    | none => exact absurd hq (atQ_none hj)
    | some j => obtain ⟨hjl, _⟩ := atQ_some hj; exact ⟨j, rfl, by show (List.replicate xs.length (0 : Int))[j]? = some 0; simp [hjl]⟩
  · obtain ⟨hjl, rfl⟩ := atQ_some hj; exact List.getElem_mem hjl
  simp -implicitDefEqProofs (disch := omega) only [go_sem, ↓reduceIte , List.length_map]; refine loop_ov (by simp -implicitDefEqProofs (disch := omega) only [go_sem, ↓reduceIte]; exact rfl) (fun w : Nat × List Point => [(3, .mp (.flat [1, 1]) (entsP w.2)), (6, .sl true 1 ((outG xs w.1).2.map (rT xs))), (25, .v (.int .i64 (w.1 : Nat)))]) (fun _ => by simp only [ovr_nil, ovr_cons, List.set_cons_zero, List.set_cons_succ]; exact rfl) (fun w : Nat × List Point => w.1 ≤ xs.length ∧ leftG xs (outG xs w.1).1 w.2) (fun w : Nat × List Point => xs.length - w.1) ((0, xs)) (nleA) (?_) ?_
  · exact ⟨Nat.zero_le _, hL0⟩
  rintro ⟨i, L⟩ ⟨hi, hL⟩; simp only at hi hL; simp -implicitDefEqProofs (disch := omega) only [go_sem, ↓reduceIte , List.length_map, Int.toNat_natCast, Int.ofNat_lt, Int.natCast_nonneg, List.getElem?_map, Option.map_some]; refine cond_split ?_ ?_ <;> intro hlt
  · have hlt : i < xs.length := (by simpa using hlt); have e1 := List.getElem?_eq_getElem hlt; have hO : okO xs i (outG xs i) := outG_ok (xs := xs) i hi; have hO1 : outG xs (i + 1) = if (outG xs i).1[i]? = some 0 then
        ((walkG xs (((outG xs i).2.length : Int) + 1) xs.length 0 ((outG xs i).1.set i (((outG xs i).2.length : Int) + 1), [i])).1, (outG xs i).2 ++ [(walkG xs (((outG xs i).2.length : Int) + 1) xs.length 0 ((outG xs i).1.set i (((outG xs i).2.length : Int) + 1), [i])).2])
      else outG xs i := rfl
    generalize hz1 : outG xs (i + 1) = z1 at *; generalize hz : outG xs i = z at *; obtain ⟨nm, ps⟩ := z; simp only at hO1 hL; have hlen := hO.len; have hfew := hO.few; simp only at hlen hfew; have hq : (List.map (rT xs) ps).length = ps.length := List.length_map ..; have hat := atQ_at hs hlt; by_cases h0 : nm[i]? = some 0
    · have hget := get_left hL ⟨i, hat, h0⟩; have eG : ((ps.length + 1 : Nat) : Int) = (ps.length : Int) + 1 := (by omega); rw [if_pos h0, ← eG] at hO1; have hst0 := startG hO hlt h0; simp only at hst0; generalize hG : ps.length + 1 = G at *; obtain ⟨L1, hd1, hL1⟩ := leftG_del hs hL (g := (G : Int)) (by omega) hat
      have hcn := cnt0_le nm; have hG1 : 1 ≤ G := (by omega); have hp1 : (ptsG xs [i]).map (Point.td.d true) = [Point.td.d true xs[i]] := (by simp only [ptsG, List.map_cons, List.map_nil, List.getD_eq_getElem?_getD, e1]; rfl); generalize hR : walkG xs (G : Int) xs.length 0 (nm.set i (G : Int), [i]) = R at *; generalize hc : cnt0 nm = c at *; simp -implicitDefEqProofs (disch := omega) only [go_sem, ↓reduceIte , List.length_map, Int.toNat_natCast, Int.ofNat_lt, Int.natCast_nonneg, List.getElem?_map, Option.map_some, hlt, e1, Point.td_d, hget, hd1]; refine loop_ov (by simp -implicitDefEqProofs (disch := omega) only [go_sem, ↓reduceIte]; exact rfl) (fun w : Nat × (List Int × List Nat) × List Point => [(3, .mp (.flat [1, 1]) (entsP w.2.2)), (9, .sl true 2 ((ptsG xs w.2.1.2).map (Point.td.d true))), (10, .v (.int .i64 (w.1 : Nat)))]) (fun _ => by simp only [ovr_nil, ovr_cons, List.set_cons_zero, List.set_cons_succ]; exact rfl) (fun w : Nat × (List Int × List Nat) × List Point => okG xs G c w.2.1 ∧ leftG xs w.2.1.1 w.2.2 ∧ ∃ f, c - w.1 ≤ f ∧ walkG xs (G : Int) f w.1 w.2.1 = R) (fun w : Nat × (List Int × List Nat) × List Point => c - w.1) ((0, (nm.set i (G : Int), [i]), L1)) (by rw [hp1, Point.td_d]; (try simp -implicitDefEqProofs only [nleL_cc, nleL_nn, nle_self, nle_boxs, nle_aggs, nle_nils, and_self, and_true, true_and]) <;> repeat' (first | exact nle_of_eq rfl | exact nle_nil | apply And.intro | apply nle_sl | apply nleLL_cons | apply nleL_cons | exact nleL_nil | exact nleLL_nil | apply nle_box | apply nle_agg)) (?_) ?_
      · exact ⟨hst0, hL1, xs.length, by simp only; omega, hR⟩
      rintro ⟨k, y, L2⟩ ⟨hok, hL2, f, hf, hW⟩; simp only at hok hL2 hf hW; have hsum := hok.sum; have hyl := hok.len; have hpl : (ptsG xs y.2).length = y.2.length := by unfold ptsG; rw [List.length_map]
      simp -implicitDefEqProofs (disch := omega) only [go_sem, ↓reduceIte , List.length_map, hpl]; refine cond_split ?_ ?_ <;> intro hlt2
      · have hlt2 : k < y.2.length := (by simpa using hlt2); simp -implicitDefEqProofs (disch := omega) only [go_sem, ↓reduceIte]; refine loop_ov (by simp -implicitDefEqProofs (disch := omega) only [go_sem, ↓reduceIte]; exact rfl) (fun u : Nat × List Point => [(3, .mp (.flat [1, 1]) (entsP u.2)), (9, .sl true 2 ((ptsG xs (dirsG xs (G : Int) k y u.1).2).map (Point.td.d true))), (43, .v (.int .i64 (u.1 : Nat)))]) (fun _ => by simp only [ovr_nil, ovr_cons, List.set_cons_zero, List.set_cons_succ]; exact rfl) (fun u : Nat × List Point => u.1 ≤ 4 ∧ leftG xs (dirsG xs (G : Int) k y u.1).1 u.2) (fun u : Nat × List Point => 4 - u.1) ((0, L2)) (nleA) (?_) ?_
        · exact ⟨Nat.zero_le _, hL2⟩
        rintro ⟨d, L3⟩ ⟨hd, hL3⟩; simp only at hd hL3; obtain ⟨hk1, hk2, hk3⟩ := dirsG_ok hG1 hok k d; have hD1 : dirsG xs (G : Int) k y (d + 1) = stepG xs (G : Int) (dirsG xs (G : Int) k y d) k d := rfl; have hD4 : d = 4 → dirsG xs (G : Int) k y 4 = dirsG xs (G : Int) k y d := fun h => by rw [h]
        generalize hd1' : dirsG xs (G : Int) k y (d + 1) = v1 at *; generalize hd4 : dirsG xs (G : Int) k y 4 = v4 at *; generalize dirsG xs (G : Int) k y d = v at *; obtain ⟨vn, vp⟩ := v; simp only at hk3 hL3; have hvl := hk1.len; have hvs := hk1.sum; simp only at hvl hvs; have hpl2 : (ptsG xs vp).length = vp.length := by unfold ptsG; rw [List.length_map]
        simp -implicitDefEqProofs (disch := omega) only [go_sem, ↓reduceIte]; refine cond_split ?_ ?_ <;> intro hlt3
        · have hlt3 : d < 4 := (by have := of_decide_eq_true hlt3; omega); have hkv : k < vp.length := Nat.lt_of_lt_of_le hlt2 hk3.length_le; have e2 := List.getElem?_eq_getElem hkv; have hj0 := hk1.lt vp[k] (List.getElem_mem hkv); have e3 := ptsG_at e2 hj0; have hkp : k < (ptsG xs vp).length := (by omega); have hS := v_step xs[vp[k]] d hlt3 (hok0 _ (List.getElem_mem hj0)); simp only [Point.td_d] at hS; have hst1 : v1 = match atQ xs (stepP xs[vp[k]] d) with
              | some j => if vn[j]? = some 0 then (vn.set j (G : Int), vp ++ [j]) else (vn, vp)
              | none => (vn, vp) := by
            rw [hD1]; unfold stepG; simp only [e2, List.getElem?_eq_getElem hj0]; cases atQ xs (stepP xs[vp[k]] d) <;> rfl
          generalize stepP xs[vp[k]] d = q at *; simp -implicitDefEqProofs (disch := omega) only [go_sem, ↓reduceIte , List.length_map, Int.toNat_natCast, Int.ofNat_lt, Int.natCast_nonneg, List.getElem?_map, Option.map_some, hkp, e3, Point.td_d]; by_cases hq0 : ∃ j, atQ xs q = some j ∧ vn[j]? = some 0
          · have hget3 := get_left hL3 hq0; obtain ⟨j, hqj, hv0⟩ := hq0; rw [hqj] at hst1; simp only [if_pos hv0] at hst1; obtain ⟨L4, hd4', hL4⟩ := leftG_del hs hL3 (g := (G : Int)) (by omega) hqj; obtain ⟨hj, hqe⟩ := atQ_some hqj; have hq2 : (List.map (Point.td.d true) (ptsG xs vp)).length ≤ 500 := (by rw [List.length_map]; omega); have hp2 : (ptsG xs (vp ++ [j])).map (Point.td.d true) = (ptsG xs vp).map (Point.td.d true) ++ [Point.td.d true q] := (by simp only [ptsG, List.map_append, List.map_cons, List.map_nil, List.getD_eq_getElem?_getD, List.getElem?_eq_getElem hj, hqe]; rfl); refine call_B (hS) (by simp -implicitDefEqProofs (disch := omega) only [go_sem, ↓reduceIte, deep, TD.rows, immLL_rI, immLL_rB8, immLL_rS, immLL_rBo, immLL_rII, immLL_rIIt, hget3, hd4', Point.td_d, wrN]; exact rfl) ?_; simp -implicitDefEqProofs (disch := omega) only [go_sem, ↓reduceIte , hget3, hd4', Point.td_d, wrN]; refine ⟨by omega, ?_⟩; refine ⟨(d + 1, L4), by simp only; omega, ⟨by simp only; omega, by simp only; rw [hd1', hst1]; exact hL4⟩, ?_⟩; simp only; rw [hd1', hst1]; simp only [hp2, Point.td_d]
            (try simp -implicitDefEqProofs only [nleL_cc, nleL_nn, nle_self, nle_boxs, nle_aggs, nle_nils, and_self, and_true, true_and]) <;> repeat' (first | exact nle_of_eq rfl | exact nle_nil | apply And.intro | apply nle_sl | apply nleLL_cons | apply nleL_cons | exact nleL_nil | exact nleLL_nil | apply nle_box | apply nle_agg)
          · have hget3 := get_gone hL3 hq0; have hv1 : v1 = (vn, vp) := by
              rw [hst1]; cases hqj : atQ xs q with
              | none => rfl
              | some j => have : ¬ vn[j]? = some 0 := fun h => hq0 ⟨j, hqj, h⟩; simp only [if_neg this]
            refine call_B (hS) (by simp -implicitDefEqProofs (disch := omega) only [go_sem, ↓reduceIte, deep, TD.rows, immLL_rI, immLL_rB8, immLL_rS, immLL_rBo, immLL_rII, immLL_rIIt, hget3, Point.td_d, wrN]; exact rfl) ?_; simp -implicitDefEqProofs (disch := omega) only [go_sem, ↓reduceIte , hget3, Point.td_d, wrN]; refine ⟨(d + 1, L3), by simp only; omega, ⟨by simp only; omega, by simp only; rw [hd1', hv1]; exact hL3⟩, ?_⟩; simp only; rw [hd1', hv1]
            (try simp -implicitDefEqProofs only [nleL_cc, nleL_nn, nle_self, nle_boxs, nle_aggs, nle_nils, and_self, and_true, true_and]) <;> repeat' (first | exact nle_of_eq rfl | exact nle_nil | apply And.intro | apply nle_sl | apply nleLL_cons | apply nleL_cons | exact nleL_nil | exact nleLL_nil | apply nle_box | apply nle_agg)
        · have hlt3 : d = 4 := (by have := of_decide_eq_false hlt3; omega); have hv4 := hD4 hlt3; simp -implicitDefEqProofs (disch := omega) only [go_sem, ↓reduceIte , wrN]; have hf1 : ∃ f', f = f' + 1 := ⟨f - 1, by omega⟩
          obtain ⟨f', rfl⟩ := hf1; rw [walkG, if_pos hlt2, hd4, hv4] at hW; exact ⟨(k + 1, (vn, vp), L3), by simp only; omega, ⟨hk1, hL3, f', by simp only; omega, hW⟩, nleA⟩
      · have hlt2 : ¬ k < y.2.length := (by simpa using hlt2); rw [walkG_end hlt2] at hW; simp -implicitDefEqProofs (disch := omega) only [go_sem, ↓reduceIte]; refine call_sortS (r := 9) (v_SortPt (ptsG xs y.2) (by omega)) rfl rfl rfl rfl ?_; simp -implicitDefEqProofs (disch := omega) only [go_sem, ↓reduceIte , wrN, hq, List.length_append, List.length_cons, List.length_nil]; refine ⟨by omega, (i + 1, L2), by simp only; omega, ⟨by simp only; omega, by simp only; rw [hz1, hO1, ← hW]; exact hL2⟩, ?_⟩; simp only; rw [hz1, hO1, ← hW]; simp only [List.map_append, List.map_cons, List.map_nil, rT]
        (try simp -implicitDefEqProofs only [nleL_cc, nleL_nn, nle_self, nle_boxs, nle_aggs, nle_nils, and_self, and_true, true_and]) <;> repeat' (first | exact nle_of_eq rfl | exact nle_nil | apply And.intro | apply nle_sl | apply nleLL_cons | apply nleL_cons | exact nleL_nil | exact nleLL_nil | apply nle_box | apply nle_agg)
    · have hget := get_gone hL (q := xs[i]) (fun ⟨j, hj, hj0⟩ => by
        rw [hat] at hj; cases hj; exact h0 hj0)
      rw [if_neg h0] at hO1; simp -implicitDefEqProofs (disch := omega) only [go_sem, ↓reduceIte , List.length_map, Int.toNat_natCast, Int.ofNat_lt, Int.natCast_nonneg, List.getElem?_map, Option.map_some, hlt, e1, Point.td_d, hget, wrN]; refine ⟨(i + 1, L), by simp only; omega, ⟨by simp only; omega, by simp only; rw [hz1, hO1]; exact hL⟩, ?_⟩; simp only; rw [hz1, hO1]
      (try simp -implicitDefEqProofs only [nleL_cc, nleL_nn, nle_self, nle_boxs, nle_aggs, nle_nils, and_self, and_true, true_and]) <;> repeat' (first | exact nle_of_eq rfl | exact nle_nil | apply And.intro | apply nle_sl | apply nleLL_cons | apply nleL_cons | exact nleL_nil | exact nleLL_nil | apply nle_box | apply nle_agg)
  · obtain rfl : i = xs.length := (by have : ¬ i < xs.length := (by simpa using hlt); omega); simp -implicitDefEqProofs (disch := omega) only [go_sem, ↓reduceIte]
theorem v_IsConnected_impl (xs : List Point) (hn : xs.length ≤ 1048576) (hok0 : ∀ p, p ∈ xs → Point.td.ok p) : Contract Try.prog NoG 10 [.sl false 2 (xs.map (Point.td.d false))] (.v (.bool (okShape xs && decide ((outG xs xs.length).2.length = 1)))) := by
  have hO := v_ValidShape xs hn; refine law_impl_IsConnected ?_; unfold code_impl_IsConnected; simp -implicitDefEqProofs (disch := omega) only [go_sem, ↓reduceIte]; cases h : okShape xs with
  | false => rw [h] at hO; refine call_B (hO) (by simp -implicitDefEqProofs (disch := omega) only [go_sem, ↓reduceIte, deep, TD.rows, immLL_rI, immLL_rB8, immLL_rS, immLL_rBo, immLL_rII, immLL_rIIt]; exact rfl) ?_; simp -implicitDefEqProofs (disch := omega) only [go_sem, ↓reduceIte]
  | true =>
    rw [h] at hO; obtain ⟨hs, _, hl⟩ := shape_strict h; have hP := v_connected xs hs hl hok0; have hlen : (List.map (rT xs) (outG xs xs.length).2).length = (outG xs xs.length).2.length := List.length_map ..; have dd : decide (((outG xs xs.length).2.length : Int) = 1) = decide ((outG xs xs.length).2.length = 1) := by rw [Bool.eq_iff_iff, decide_eq_true_eq, decide_eq_true_eq]; omega
    have hG : Contract Try.prog NoG 34 [.sl false 2 (xs.map (Point.td.d false))] (.v (.bool (decide ((outG xs xs.length).2.length = 1)))) := (by refine law_impl_oneGroup ?_; unfold code_impl_oneGroup; simp -implicitDefEqProofs (disch := omega) only [go_sem, ↓reduceIte]; refine call_B (hP) (by simp -implicitDefEqProofs (disch := omega) only [go_sem, ↓reduceIte, deep, TD.rows, immLL_rI, immLL_rB8, immLL_rS, immLL_rBo, immLL_rII, immLL_rIIt, hlen, dd]; exact rfl) ?_; simp -implicitDefEqProofs (disch := omega) only [go_sem, ↓reduceIte , hlen, dd]); refine call_B (hO) (by simp -implicitDefEqProofs (disch := omega) only [go_sem, ↓reduceIte, deep, TD.rows, immLL_rI, immLL_rB8, immLL_rS, immLL_rBo, immLL_rII, immLL_rIIt]; exact rfl) ?_; simp -implicitDefEqProofs (disch := omega) only [go_sem, ↓reduceIte]; refine call_B (hG) (by simp -implicitDefEqProofs (disch := omega) only [go_sem, ↓reduceIte, deep, TD.rows, immLL_rI, immLL_rB8, immLL_rS, immLL_rBo, immLL_rII, immLL_rIIt]; exact rfl) ?_; simp -implicitDefEqProofs (disch := omega) only [go_sem, ↓reduceIte]
end Go.Proofs.Ytgnlikamelfmjaa
