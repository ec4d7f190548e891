/- Bytes turned to a text, and bytes.Equal. -/
import Derived.Test.YtlfgkhjibhfopaaRows
import Derived.Test.YtlfgkhjibhfopaaLib
import Derived.Test.YtlfgkhjibhfopaaTyBase
import Derived.MapKept
import Derived.Laws.BytesArg
import Derived.Laws.IdiomStrings
set_option linter.unusedVariables false
set_option linter.unusedSimpArgs false
namespace Go.Proofs.Ytlfgkhjibhfopaa
open Go.RowKit Go.ChangeShapes Go.WideShapes Go.ChangeAt
theorem conv_bytes {P : Program} {e t dst : TypeId} {w : World} {B : Nat} {v : Value} {xs : List Int} (ht : P.underlying t = some (.slice e)) (he : P.underlying e = some (.int .u8)) (hd : P.underlying dst = some .string)
    {e' : TypeId} (h : (Ty.slice e' (Ty.int .u8)).rep w B [v] xs) : (convert t dst v).run P w = .ok (.string (strOfNums xs)) w := by
  obtain ⟨a, c, rfl, _, _⟩ := Ty.form h
  cases xs with
  | nil =>
    cases a with
    | none => exact run_convert_bytes_nil w t e ht he _ _ dst hd
    | some a => exact run_convert_bytes_back w t dst e a c [] ht he hd (fun j hj => absurd hj (by simp))
  | cons x xs =>
    obtain ⟨b, o, rfl, _, _, _⟩ := Ty.elemInt h 0 (by simp)
    refine run_convert_bytes_arg w t e ht he b o _ c (x :: xs) rfl (fun i hi => ?_) dst hd
    obtain ⟨b', o', ee, _, g, _⟩ := Ty.elemInt h i hi
    cases ee
    rw [g, List.getD, List.getElem?_eq_getElem hi]; rfl
theorem u8_inj {a b : Int} (ha : InK .u8 a) (hb : InK .u8 b) (h : UInt8.ofNat a.toNat = UInt8.ofNat b.toNat) : a = b := by
  obtain ⟨a1, a2⟩ := ha
  obtain ⟨b1, b2⟩ := hb
  have h2 := congrArg UInt8.toNat h
  simp only [UInt8.toNat_ofNat'] at h2
  have a3 : a ≤ 255 := a2
  have b3 : b ≤ 255 := b2
  have a4 : 0 ≤ a := a1
  have b4 : 0 ≤ b := b1
  omega
theorem u8s_inj : ∀ {xs ys : List Int}, (∀ k (h : k < xs.length), InK .u8 xs[k]) → (∀ k (h : k < ys.length), InK .u8 ys[k]) → xs.map (fun n => UInt8.ofNat n.toNat) = ys.map (fun n => UInt8.ofNat n.toNat) → xs = ys
  | [], [], _, _, _ => rfl
  | [], _ :: _, _, _, h => by simp at h
  | _ :: _, [], _, _, h => by simp at h
  | x :: xs, y :: ys, h1, h2, h => by
    simp only [List.map_cons, List.cons.injEq] at h
    have e1 : x = y := u8_inj (h1 0 (by simp)) (h2 0 (by simp)) h.1
    rw [e1, u8s_inj (fun k hk => h1 (k + 1) (by simpa using hk)) (fun k hk => h2 (k + 1) (by simpa using hk)) h.2]
theorem bytes_in {e : TypeId} {w : World} {B : Nat} {v : Value} {xs : List Int} (h : (Ty.slice e (Ty.int .u8)).rep w B [v] xs) : ∀ k (hk : k < xs.length), InK .u8 xs[k] := by
  obtain ⟨a, c, rfl, _, _⟩ := Ty.form h
  intro k hk
  obtain ⟨_, _, _, _, _, g⟩ := Ty.elemInt h k hk
  exact g
theorem strOfNums_eq {e : TypeId} {w w2 : World} {B B2 : Nat} {v1 v2 : Value} {xs ys : List Int} (h1 : (Ty.slice e (Ty.int .u8)).rep w B [v1] xs) (h2 : (Ty.slice e (Ty.int .u8)).rep w2 B2 [v2] ys) :
    ((strOfNums xs).toList == (strOfNums ys).toList) = decide (xs = ys) := by
  rw [← beq_toListBytes]
  by_cases g : xs = ys
  · simp only [g, decide_true]; exact (Go.MapKept.bytes_beq _ _).2 rfl
  · have : strOfNums xs ≠ strOfNums ys := fun hh => g (u8s_inj (bytes_in h1) (bytes_in h2) (by rw [← strOfNums_data, ← strOfNums_data, hh]))
    simp only [g, decide_false]
    cases hb : (strOfNums xs == strOfNums ys) with
    | false => rfl
    | true => exact absurd ((Go.MapKept.bytes_beq _ _).1 hb) this
theorem bytesEqual_any (v1 v2 : Value) (xs ys : List Int) (w : World) (B : Nat) (hB : B ≤ w.heap.size) (h1 : (Ty.slice 5 (Ty.int .u8)).rep w B [v1] xs) (h2 : (Ty.slice 5 (Ty.int .u8)).rep w B [v2] ys) :
    Calls Try.prog 113 #[v1, v2] w fun e w' => e = .returned (.bool (decide (xs = ys))) ∧ Below w.heap.size w w' := by
  have k1 := fun t dst ht hd => conv_bytes (P := Try.prog) (e := 5) (t := t) (dst := dst) ht (by kernel_rfl) hd h1
  have c1 := k1 28 9 (by kernel_rfl) (by kernel_rfl)
  have k2 := fun t dst ht hd => conv_bytes (P := Try.prog) (e := 5) (t := t) (dst := dst) ht (by kernel_rfl) hd h2
  have c2 := k2 28 9 (by kernel_rfl) (by kernel_rfl)
  rw [← strOfNums_eq h1 h2]
  clear k1 k2 h1 h2
  go_enter Try.func113, Try.ntmps113
  go_wp2_with fail
  go_ret
  exact ⟨rfl, Below.refl _ _⟩
end Go.Proofs.Ytlfgkhjibhfopaa
