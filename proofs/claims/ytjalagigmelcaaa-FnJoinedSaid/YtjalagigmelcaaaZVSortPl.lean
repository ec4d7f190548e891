/- Laws that the proof stands on. -/
import Derived.Test.YtjalagigmelcaaaZVCmpW
import Derived.Test.YtjalagigmelcaaaZLaySortPlaced
import Derived.Test.YtjalagigmelcaaaZVSortL
import Derived.Test.YtjalagigmelcaaaZVJoinP
set_option linter.all false
namespace Go.Proofs.Ytjalagigmelcaaa
open Go.RowKit Go.Lib Go.Sort Go.V
set_option maxRecDepth 100000
def encPl (t : Placed) : List Value := [.int .i64 t.At.X, .int .i64 t.At.Y, .int .i64 t.Tile]
theorem rowV_pl (t : Placed) (o : Bool) : rowV encPl t = Placed.td.d o t := by rw [Placed.td_d]; rfl
instance : Inhabited Placed := ⟨⟨⟨0, 0⟩, 0⟩⟩
theorem gd_grow (W : World) (q : Nat) (os : Array Obj) : (grow W os).drewN q = grow (W.drewN q) os := rfl
set_option maxHeartbeats 1000000 in
theorem w_sortLess (x y : Placed) (W : World) : Calls Try.prog 53 #[.agg (encPl x).toArray, .agg (encPl y).toArray] W fun e w' => e = .returned (.int .i64 (cmpP x.At y.At)) ∧ ∃ q os', w' = grow (W.drewN q) os' := by
  have hcon := fun W' => w_comparePoints x.At y.At W'; generalize cmpP x.At y.At = r at hcon ⊢; unfold encPl; go_enter Try.func53, Try.ntmps53; go_wp2_with (go_at_call 51; refine (hcon _).mono ?_; rintro e w' ⟨rfl, q, os, rfl⟩)
  go_ret; exact ⟨rfl, q, _, by rw [alloc_eq_grow, alloc_eq_grow, grow_grow, gd_grow, grow_grow]⟩
theorem swo_Pl : SWO (ltOf fun a b : Placed => cmpP a.At b.At) where
  irrefl x := swo_P.irrefl x.At
  trans x y z := swo_P.trans x.At y.At z.At
  ntrans x y z := swo_P.ntrans x.At y.At z.At
theorem sorted_pl {xs : List Placed} (hx : xs.Pairwise (fun x y => x.At ≠ y.At)) (d' : Array Placed) (hp : PermIn 0 xs.toArray.size xs.toArray d') (hs : SortedIn (ltOf fun a b : Placed => cmpP a.At b.At) 0 xs.toArray.size d') : d'.toList = sortJ xs := by
  obtain ⟨hsz, _, hperm⟩ := hp; have e1 : d'.extract 0 xs.toArray.size = d' := (by rw [← hsz]; exact Array.extract_size); rw [e1, Array.extract_size] at hperm; have hpp : d'.toList.Perm xs := (by simpa using hperm); have hdis : d'.toList.Pairwise (fun x y => x.At ≠ y.At) := hpp.symm.pairwise hx (fun h => Ne.symm h); refine strict_uniq ?_ (sortJ_strict hx) (fun z => hpp.mem_iff.trans (sortJ_perm xs).mem_iff.symm); refine List.pairwise_iff_getElem.2 (fun i j hi hj hij => ?_); have hj' : j < d'.size := (by simpa using hj); have h1 := hs i j (Nat.zero_le _) hij (by rw [← hsz]; exact hj'); unfold ltOf at h1; rw [cmpP_lt, getElem!_pos d' j hj', getElem!_pos d' i (by omega)] at h1; have h2 := List.pairwise_iff_getElem.1 hdis i j hi hj hij; simp only [Array.getElem_toList] at h2 ⊢; cases hc : lessP d'[i].At d'[j].At with
  | true => rfl
  | false => exact absurd (less_eq hc h1) h2
theorem v_SortPl (xs : List Placed) (hl : xs.length ≤ 1048576) (hx : xs.Pairwise (fun x y => x.At ≠ y.At)) : ContractL Try.prog NoG 52 0 [.undef, .fn 53 [] []] (.sl true 3 (xs.map (Placed.td.d true))) (.tup []) (.sl true 3 ((sortJ xs).map (Placed.td.d true))) := by
  have he : (Placed.td.d true) = rowV encPl := funext fun t => (rowV_pl t true).symm; rw [he]; have eg : ∀ args w, (callFunc 53 args).run Try.prog w = .ok (.enter 53 args) w := enters_of Try.func53 (by kernel_rfl) rfl; refine contractL_sort (enc := encPl) (ltOf fun a b : Placed => cmpP a.At b.At) (fun _ => rfl) (by decide) (fun x v hv => by simp [encPl] at hv; rcases hv with rfl | rfl | rfl <;> rfl) (enters_of Try.func52 (by kernel_rfl) rfl) xs (sortJ xs) (by omega) ?_ ?_ (sorted_pl hx) (fun h => by rw [h]; rfl)
  · intro blk off cap w hH hb; exact AnyQ.slices_SortFunc Try.laysSortPlaced 3 Try.isAgg60 Try.sizeOf60 encPl (fun _ => rfl) (fun x v hv => by simp [encPl] at hv; rcases hv with rfl | rfl | rfl <;> rfl) (fun x y => cmpP x.At y.At) swo_Pl 53 #[] blk off cap xs.toArray w eg (fun _ _ _ _ x y => w_sortLess x y _) hH hb (by simp; omega)
  · intro _ w; refine (AnyF.slices_SortFunc_none Try.laysSortPlaced none 0 (.func (.func 53) #[] #[]) w).mono ?_; rintro e w' ⟨rfl, rfl⟩; exact ⟨rfl, Below.refl _ _⟩
end Go.Proofs.Ytjalagigmelcaaa
