/- Points, directions, and the small functions over them. -/
import Derived.Test.YtlfgkhjibhfopaaRows
import Derived.Test.YtlfgkhjibhfopaaLib
namespace Go.Proofs.Ytlfgkhjibhfopaa
open Go.RowKit Go.ChangeShapes Go.WideShapes Go.ChangeAt

structure Point where
  x : Int
  y : Int
  deriving DecidableEq

abbrev Point.val (p : Point) : Value := .agg #[.int .i64 p.x, .int .i64 p.y]
def Point.ty : Ty Point := Ty.via (Ty.prod (Ty.int .i64) (Ty.int .i64)) (fun p => (p.x, p.y))
theorem Point.cells {w : World} {B : Nat} {cs : List Value} {p : Point} (h : Point.ty.rep w B cs p) : cs = [.int .i64 p.x, .int .i64 p.y] ∧ InK .i64 p.x ∧ InK .i64 p.y := by
  obtain ⟨_, _, rfl, ⟨rfl, i1⟩, ⟨rfl, i2⟩⟩ := h
  exact ⟨rfl, i1, i2⟩
set_option maxRecDepth 100000 in
theorem Point.reads : Reads Try.prog 34 Point.ty :=
  reads_via (t := Ty.prod (Ty.int .i64) (Ty.int .i64)) (fun p : Point => (p.x, p.y)) (fun x => ⟨x.1, x.2⟩) (fun _ => rfl)
    (reads_struct Try.underlying34 (by kernel_rfl) (fld_cons rfl (reads_int Try.underlying2 (by kernel_rfl)) (fld_one rfl (reads_int Try.underlying2 (by kernel_rfl)))))

/-- A number in a range. -/
def inR (n lo hi : Int) : Bool := decide (lo ≤ n) && decide (n ≤ hi)
def Point.ok (p : Point) : Bool := inR p.x (-60) 60 && inR p.y (-60) 60
theorem Point.ok_iff (p : Point) : p.ok = true ↔ (-60 ≤ p.x ∧ p.x ≤ 60) ∧ (-60 ≤ p.y ∧ p.y ≤ 60) := by simp [Point.ok, inR]
def dirOk (d : Int) : Bool := inR d 0 3
/-- The point next to a point. -/
def Point.next (p : Point) (d : Nat) : Point :=
  match d with
  | 0 => ⟨p.x, p.y + 1⟩
  | 1 => ⟨p.x + 1, p.y⟩
  | 2 => ⟨p.x, p.y - 1⟩
  | _ => ⟨p.x - 1, p.y⟩

theorem within_any (n lo hi : Int) (w : World) : Calls Try.prog 83 #[.int .i64 n, .int .i64 lo, .int .i64 hi] w fun e w' => e = .returned (.bool (inR n lo hi)) ∧ Below w.heap.size w w' := by
  go_enter Try.func83, Try.ntmps83
  go_wp2
  all_goals (go_ret; exact ⟨by simp [inR, *]; try omega, by go_grown⟩)
theorem l00In_any (n lo hi : Int) (w : World) : Calls Try.prog 102 #[.int .i64 n, .int .i64 lo, .int .i64 hi] w fun e w' => e = .returned (.bool (inR n lo hi)) ∧ Below w.heap.size w w' := by
  go_enter Try.func102, Try.ntmps102
  go_wp2
  all_goals (go_ret; exact ⟨by simp [inR, *]; try omega, by go_grown⟩)
theorem isDir_any (n : Int) (w : World) : Calls Try.prog 70 #[.int .i64 n] w fun e w' => e = .returned (.bool (dirOk n)) ∧ Below w.heap.size w w' := by
  go_enter Try.func70, Try.ntmps70
  go_wp2_with fail
  refine (within_any _ _ _ _).mono ?_
  rintro e w1 ⟨rfl, hb⟩
  go_wp2_with fail
  go_ret
  exact ⟨rfl, hb⟩
theorem l01Dir_any (n : Int) (w : World) : Calls Try.prog 69 #[.int .i64 n] w fun e w' => e = .returned (.bool (dirOk n)) ∧ Below w.heap.size w w' := by
  go_enter Try.func69, Try.ntmps69
  go_wp2_with fail
  refine (l00In_any _ _ _ _).mono ?_
  rintro e w1 ⟨rfl, hb⟩
  go_wp2_with fail
  go_ret
  exact ⟨rfl, hb⟩
theorem toPoint_any (p : Point) (w : World) : Calls Try.prog 23 #[p.val] w fun e w' => e = .returned p.val ∧ Below w.heap.size w w' := by
  go_enter Try.func23, Try.ntmps23
  go_wp2
  go_returns
  exact ⟨rfl, by go_grown⟩
theorem eqPoint_any (p : Point) (w : World) : Calls Try.prog 27 #[p.val, p.val] w fun e w' => e = .returned (.bool true) ∧ Below w.heap.size w w' := by
  go_enter Try.func27, Try.ntmps27
  go_wp2
  go_ret
  exact ⟨rfl, by go_grown⟩
set_option maxHeartbeats 1000000 in
theorem ValidPoint_any (p : Point) (w : World) : Calls Try.prog 67 #[p.val] w fun e w' => e = .returned (.bool p.ok) ∧ Below w.heap.size w w' := by
  have key : ∀ b1 b2 : Bool, inR p.x (-60) 60 = b1 → inR p.y (-60) 60 = b2 → Calls Try.prog 67 #[p.val] w fun e w' => e = .returned (.bool (b1 && b2)) ∧ Below w.heap.size w w' := by
    intro b1 b2 h1 h2
    cases b1 <;> cases b2
    all_goals
      go_enter Try.func67, Try.ntmps67
      go_upto_region 1 with fail
      refine rebase ?_
      intro W1 hW x
      have hz : Below w.heap.size w W1 := by rw [hW]; go_grown
      have hb0 := at_of hW (push1_0 _ _)
      have c0 := box2 hb0
      have f0 := boxf hb0
      have B0 := Lib.hid hb0
      clear hb0
      have HW := Lib.hid hW
      clear hW
      go_wp2_with (go_at_call 83; refine call_ext (within_any _ _ _ _) ?_; intro y)
      go_ret
      exact ⟨by simp, ext_end _ hz⟩
  have := key _ _ rfl rfl
  exact this
set_option maxHeartbeats 1000000 in
theorem l01Point_any (p : Point) (w : World) : Calls Try.prog 65 #[p.val] w fun e w' => e = .returned (.bool p.ok) ∧ Below w.heap.size w w' := by
  have key : ∀ b1 b2 : Bool, inR p.x (-60) 60 = b1 → inR p.y (-60) 60 = b2 → Calls Try.prog 65 #[p.val] w fun e w' => e = .returned (.bool (b1 && b2)) ∧ Below w.heap.size w w' := by
    intro b1 b2 h1 h2
    cases b1 <;> cases b2
    all_goals
      go_enter Try.func65, Try.ntmps65
      go_upto_region 1 with fail
      refine rebase ?_
      intro W1 hW x
      have hz : Below w.heap.size w W1 := by rw [hW]; go_grown
      have hb0 := at_of hW (push1_0 _ _)
      have c0 := box2 hb0
      have f0 := boxf hb0
      have B0 := Lib.hid hb0
      clear hb0
      have HW := Lib.hid hW
      clear hW
      go_wp2_with (go_at_call 102; refine call_ext (l00In_any _ _ _ _) ?_; intro y)
      go_ret
      exact ⟨by simp, ext_end _ hz⟩
  have := key _ _ rfl rfl
  exact this
set_option maxHeartbeats 1000000 in
theorem plus_any (p q : Point) (w : World) (hx : -1000 ≤ p.x ∧ p.x ≤ 1000) (hy : -1000 ≤ p.y ∧ p.y ≤ 1000) (hx' : -1000 ≤ q.x ∧ q.x ≤ 1000) (hy' : -1000 ≤ q.y ∧ q.y ≤ 1000) :
    Calls Try.prog 103 #[p.val, q.val] w fun e w' => e = .returned (Point.val ⟨p.x + q.x, p.y + q.y⟩) ∧ Below w.heap.size w w' := by
  obtain ⟨px, py⟩ := p
  obtain ⟨qx, qy⟩ := q
  simp only at hx hy hx' hy'
  obtain ⟨hx1, hx2⟩ := hx
  obtain ⟨hy1, hy2⟩ := hy
  obtain ⟨hx3, hx4⟩ := hx'
  obtain ⟨hy3, hy4⟩ := hy'
  go_enter Try.func103, Try.ntmps103
  go_wp2
  go_returns
  exact ⟨rfl, by go_grown⟩
theorem eql_Point (p q : Point) (W : World) : (binOp .eql 37 p.val q.val).run Try.prog W = .ok (.bool (decide (p = q))) W := by
  obtain ⟨a, b⟩ := p
  obtain ⟨c, d⟩ := q
  by_cases h1 : a = c
  · by_cases h2 : b = d
    · subst h1; subst h2; simp [go_sem]
    · simp [go_sem, h1, h2]
  · simp [go_sem, h1]
end Go.Proofs.Ytlfgkhjibhfopaa
