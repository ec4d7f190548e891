/- Laws that the proof stands on. -/
import Derived.Test.YtljebiaihldgeaaRows
import Derived.Test.YtljebiaihldgeaaZLib
import Derived.Test.YtljebiaihldgeaaZg8
import Derived.Test.YtljebiaihldgeaaZMark
set_option linter.all false
namespace Go.Proofs.Ytljebiaihldgeaa
open Go.RowKit Go.ChangeShapes Go.WideShapes Go.ChangeAt
structure Move where
  State : Int
  Read : Int
  Write : Int
  Dir : Int
  Next : Int
  deriving DecidableEq
def Move.ty : Ty Move := Ty.via (Ty.prod (Ty.int .i64) (Ty.prod (Ty.int .i64) (Ty.prod (Ty.int .i64) (Ty.prod (Ty.int .i64) (Ty.int .i64))))) (fun x => (x.State, x.Read, x.Write, x.Dir, x.Next))
theorem Move.cells {w : World} {B : Nat} {cs : List Value} {x : Move} (h : Move.ty.rep w B cs x) : cs = [.int .i64 x.State, .int .i64 x.Read, .int .i64 x.Write, .int .i64 x.Dir, .int .i64 x.Next] ∧ InK .i64 x.State ∧ InK .i64 x.Read ∧ InK .i64 x.Write ∧ InK .i64 x.Dir ∧ InK .i64 x.Next := by obtain ⟨_, _, rfl, h0, _, _, rfl, h1, _, _, rfl, h2, _, _, rfl, h3, h4⟩ := h; obtain ⟨rfl, i0⟩ := h0; obtain ⟨rfl, i1⟩ := h1; obtain ⟨rfl, i2⟩ := h2; obtain ⟨rfl, i3⟩ := h3; obtain ⟨rfl, i4⟩ := h4; exact ⟨rfl, i0, i1, i2, i3, i4⟩
theorem Move.parts {w : World} {B : Nat} {x : Move} (h : Move.ty.rep w B [.int .i64 x.State, .int .i64 x.Read, .int .i64 x.Write, .int .i64 x.Dir, .int .i64 x.Next] x) : InK .i64 x.State ∧ InK .i64 x.Read ∧ InK .i64 x.Write ∧ InK .i64 x.Dir ∧ InK .i64 x.Next := by obtain ⟨hh, r0, r1, r2, r3, r4⟩ := Move.cells h; exact ⟨r0, r1, r2, r3, r4⟩
theorem Move.rep_mk {w : World} {B : Nat} {x : Move} (h0 : InK .i64 x.State) (h1 : InK .i64 x.Read) (h2 : InK .i64 x.Write) (h3 : InK .i64 x.Dir) (h4 : InK .i64 x.Next) : Move.ty.rep w B [.int .i64 x.State, .int .i64 x.Read, .int .i64 x.Write, .int .i64 x.Dir, .int .i64 x.Next] x :=
  ⟨_, _, rfl, ⟨rfl, h0⟩, _, _, rfl, ⟨rfl, h1⟩, _, _, rfl, ⟨rfl, h2⟩, _, _, rfl, ⟨rfl, h3⟩, ⟨rfl, h4⟩⟩
set_option maxRecDepth 100000 in
theorem Move.reads : Reads Try.prog 75 Move.ty :=
  reads_via (t := (Ty.prod (Ty.int .i64) (Ty.prod (Ty.int .i64) (Ty.prod (Ty.int .i64) (Ty.prod (Ty.int .i64) (Ty.int .i64)))))) (fun x : Move => (x.State, x.Read, x.Write, x.Dir, x.Next)) (fun y => ⟨y.1, y.2.1, y.2.2.1, y.2.2.2.1, y.2.2.2.2⟩) (fun _ => rfl) (reads_struct Try.underlying75 (by kernel_rfl) (fld_cons rfl (reads_int Try.underlying2 (by kernel_rfl)) (fld_cons rfl (reads_int Try.underlying2 (by kernel_rfl)) (fld_cons rfl (reads_int Try.underlying2 (by kernel_rfl)) (fld_cons rfl (reads_int Try.underlying2 (by kernel_rfl)) (fld_one rfl (reads_int Try.underlying2 (by kernel_rfl))))))))
set_option maxRecDepth 10000 in
set_option maxHeartbeats 1000000 in
theorem eqMove_any (x : Move) (w : World) :
    Calls Try.prog 53 #[.agg #[.int .i64 x.State, .int .i64 x.Read, .int .i64 x.Write, .int .i64 x.Dir, .int .i64 x.Next], .agg #[.int .i64 x.State, .int .i64 x.Read, .int .i64 x.Write, .int .i64 x.Dir, .int .i64 x.Next]] w fun e w' => e = .returned (.bool true) ∧ Below w.heap.size w w' := by
  go_enter Try.func53, Try.ntmps53
  go_upto_region 1 with fail
  refine rebase ?_; intro W1 hW _; have hz : Below w.heap.size w W1 := by rw [hW]; go_grown
  have hb0 := at_of hW (push2_0 _ _ _); have c0 := box5 hb0; have f0 := boxf hb0; have B0 := Lib.hid hb0; clear hb0; have hb1 := at_of hW (push2_1 _ _ _); have c1 := box5 hb1; have f1 := boxf hb1; have B1 := Lib.hid hb1; clear hb1; have HW := Lib.hid hW; clear hW; go_wp2_with fail; go_ret; exact ⟨rfl, ext_end _ hz⟩
set_option maxRecDepth 10000 in
set_option maxHeartbeats 1000000 in
theorem eqMoveS_any (v1 v2 : Value) (xs : List Move) (w : World) (B : Nat) (hB : B ≤ w.heap.size) (h1 : (Ty.slice 72 Move.ty).rep w B [v1] xs) (h2 : (Ty.slice 72 Move.ty).rep w B [v2] xs) :
    Calls Try.prog 36 #[v1, v2] w fun e w' => e = .returned (.bool true) ∧ Below w.heap.size w w' := by
  obtain ⟨a1, c1, rfl, _, hm1⟩ := Ty.form h1; obtain ⟨a2, c2, rfl, _, hm2⟩ := Ty.form h2; have hn : xs.length ≤ 9223372036854775807 := (by unfold maxLen at hm1; omega); clear hm1 hm2; refine rebaseC ?_; intro x; go_enter Try.func36, Try.ntmps36; go_wp2
  go_loopw [5] (fun i wr => ∃ k : Nat, k ≤ xs.length ∧ i = .int .i64 k ∧ ∃ z : Ext w, wr = w.to z) (fun i _ => xs.length - (intOf i).toNat)
  case atStart => exact ⟨0, Nat.zero_le _, rfl, x, rfl⟩
  case round =>
    obtain ⟨k, hk, rfl, z, rfl⟩ := hrel; by_cases hlt : k < xs.length
    · obtain ⟨b1, o1, cs1, rfl, hb1, g1, e1⟩ := Ty.elem h1 hB k hlt; obtain ⟨rfl, _, _, _, _, _⟩ := Move.cells e1; have d1_0 : ∀ z : Ext w, (w.to z).cell? ⟨b1, o1 + k * 5, none⟩ = some (.int .i64 xs[k].State) := g1 0 _ rfl; have d1_1 : ∀ z : Ext w, (w.to z).cell? ⟨b1, o1 + k * 5 + 1, none⟩ = some (.int .i64 xs[k].Read) := g1 1 _ rfl; have d1_2 : ∀ z : Ext w, (w.to z).cell? ⟨b1, o1 + k * 5 + 2, none⟩ = some (.int .i64 xs[k].Write) := g1 2 _ rfl; have d1_3 : ∀ z : Ext w, (w.to z).cell? ⟨b1, o1 + k * 5 + 3, none⟩ = some (.int .i64 xs[k].Dir) := g1 3 _ rfl; have d1_4 : ∀ z : Ext w, (w.to z).cell? ⟨b1, o1 + k * 5 + 4, none⟩ = some (.int .i64 xs[k].Next) := g1 4 _ rfl; clear g1; obtain ⟨b2, o2, cs2, rfl, hb2, g2, e2⟩ := Ty.elem h2 hB k hlt; obtain ⟨rfl, _, _, _, _, _⟩ := Move.cells e2; have d2_0 : ∀ z : Ext w, (w.to z).cell? ⟨b2, o2 + k * 5, none⟩ = some (.int .i64 xs[k].State) := g2 0 _ rfl; have d2_1 : ∀ z : Ext w, (w.to z).cell? ⟨b2, o2 + k * 5 + 1, none⟩ = some (.int .i64 xs[k].Read) := g2 1 _ rfl; have d2_2 : ∀ z : Ext w, (w.to z).cell? ⟨b2, o2 + k * 5 + 2, none⟩ = some (.int .i64 xs[k].Write) := g2 2 _ rfl; have d2_3 : ∀ z : Ext w, (w.to z).cell? ⟨b2, o2 + k * 5 + 3, none⟩ = some (.int .i64 xs[k].Dir) := g2 3 _ rfl; have d2_4 : ∀ z : Ext w, (w.to z).cell? ⟨b2, o2 + k * 5 + 4, none⟩ = some (.int .i64 xs[k].Next) := g2 4 _ rfl; clear g2; have hs := fun z : Ext w => eqMove_any xs[k] (w.to z); have HS := Lib.hid hs; clear hs; go_wp2_with fail; refine wp_region_ext (by kernel_rfl) (by kernel_rfl) ?_
      repeat (go_big_quiet_step ((go_at_call 53; exact ext_call (HS.out _))))
      refine wpQuiet_nil ?_; rintro _ ⟨y, rfl⟩; go_wp2_with fail
      go_roundw
      case rel => exact ⟨k + 1, by omega, by go_num, y, rfl⟩
      case measure => simp [intOf]; omega
    · go_wp2_with fail
      go_ret; exact ⟨rfl, z.below⟩
set_option maxRecDepth 10000 in
set_option maxHeartbeats 1000000 in
theorem szMoveS_any (v : Value) (xs : List Move) (l : Int) (hl0 : 0 ≤ l) (hl1 : l ≤ 1048576) (w : World) (B : Nat) (hB : B ≤ w.heap.size) (h : (Ty.slice 72 Move.ty).rep w B [v] xs) :
    Calls Try.prog 27 #[v, .int .i64 l] w fun e w' => e = .returned (.int .i64 (szR l (xs.length))) ∧ Below w.heap.size w w' := by
  have _ := hB; obtain ⟨a, c, rfl, hc, hm⟩ := Ty.form h; have hn : xs.length ≤ 9223372036854775807 := (by unfold maxLen at hm; omega); clear hm; by_cases g : (xs.length : Int) ≤ l
  · rw [szR_ok g]; go_enter Try.func27, Try.ntmps27; go_wp2; go_ret; exact ⟨rfl, by go_grown⟩
  · rw [szR_no g]; go_enter Try.func27, Try.ntmps27; go_wp2; go_ret; exact ⟨rfl, by go_grown⟩
structure Machine where
  States : Int
  Symbols : Int
  Moves : List Move
  deriving DecidableEq
def Machine.ty : Ty Machine := Ty.via (Ty.prod (Ty.int .i64) (Ty.prod (Ty.int .i64) (Ty.slice 72 Move.ty))) (fun x => (x.States, x.Symbols, x.Moves))
def Machine.cnt (x : Machine) : Nat := x.Moves.length
theorem Machine.cells {w : World} {B : Nat} {cs : List Value} {x : Machine} (h : Machine.ty.rep w B cs x) : ∃ v0 : Value, cs = [.int .i64 x.States, .int .i64 x.Symbols, v0] ∧ InK .i64 x.States ∧ InK .i64 x.Symbols ∧ (Ty.slice 72 Move.ty).rep w B [v0] x.Moves := by obtain ⟨_, _, rfl, h0, _, _, rfl, h1, h2⟩ := h; obtain ⟨rfl, i0⟩ := h0; obtain ⟨rfl, i1⟩ := h1; obtain ⟨u2, rfl⟩ := Ty.slice_one h2; exact ⟨_, rfl, i0, i1, h2⟩
theorem Machine.parts {w : World} {B : Nat} {v0 : Value} {x : Machine} (h : Machine.ty.rep w B [.int .i64 x.States, .int .i64 x.Symbols, v0] x) : InK .i64 x.States ∧ InK .i64 x.Symbols ∧ (Ty.slice 72 Move.ty).rep w B [v0] x.Moves := by obtain ⟨e0, hh, r0, r1, r2⟩ := Machine.cells h; simp only [List.cons.injEq, and_true, true_and] at hh; subst hh; exact ⟨r0, r1, r2⟩
theorem Machine.rep_mk {w : World} {B : Nat} {v0 : Value} {x : Machine} (h0 : InK .i64 x.States) (h1 : InK .i64 x.Symbols) (h2 : (Ty.slice 72 Move.ty).rep w B [v0] x.Moves) : Machine.ty.rep w B [.int .i64 x.States, .int .i64 x.Symbols, v0] x :=
  ⟨_, _, rfl, ⟨rfl, h0⟩, _, _, rfl, ⟨rfl, h1⟩, h2⟩
set_option maxRecDepth 100000 in
theorem Machine.reads : Reads Try.prog 24 Machine.ty :=
  reads_via (t := (Ty.prod (Ty.int .i64) (Ty.prod (Ty.int .i64) (Ty.slice 72 Move.ty)))) (fun x : Machine => (x.States, x.Symbols, x.Moves)) (fun y => ⟨y.1, y.2.1, y.2.2⟩) (fun _ => rfl) (reads_struct Try.underlying24 (by kernel_rfl) (fld_cons rfl (reads_int Try.underlying2 (by kernel_rfl)) (fld_cons rfl (reads_int Try.underlying2 (by kernel_rfl)) (fld_one rfl (reads_slice Try.underlying22 (by kernel_rfl) (by decide) (Move.reads))))))
set_option maxRecDepth 10000 in
set_option maxHeartbeats 1000000 in
theorem eqMachine_any (v0 u0 : Value) (x : Machine) (w : World) (B : Nat) (hB : B ≤ w.heap.size) (h0 : (Ty.slice 72 Move.ty).rep w B [v0] x.Moves) (k0 : (Ty.slice 72 Move.ty).rep w B [u0] x.Moves) :
    Calls Try.prog 13 #[.agg #[.int .i64 x.States, .int .i64 x.Symbols, v0], .agg #[.int .i64 x.States, .int .i64 x.Symbols, u0]] w fun e w' => e = .returned (.bool true) ∧ Below w.heap.size w w' := by
  go_enter Try.func13, Try.ntmps13
  go_upto_region 1 with fail
  refine rebase ?_; intro W1 hW _; have hz : Below w.heap.size w W1 := by rw [hW]; go_grown
  have hb0 := at_of hW (push2_0 _ _ _); have c0 := box3 hb0; have f0 := boxf hb0; have B0 := Lib.hid hb0; clear hb0; have hb1 := at_of hW (push2_1 _ _ _); have c1 := box3 hb1; have f1 := boxf hb1; have B1 := Lib.hid hb1; clear hb1; have HW := Lib.hid hW; clear hW; have hs0 := fun z : Ext W1 => eqMoveS_any v0 u0 x.Moves (W1.to z) B (Nat.le_trans hB (ext_end z hz).size) (Ty.rep_below _ h0 ((ext_end z hz).mono hB)) (Ty.rep_below _ k0 ((ext_end z hz).mono hB)); have HS0 := Lib.hid hs0; clear hs0; go_wp2_with fail
  first
    | (refine call_ext (HS0.out _) ?_; intro y)
    | (refine wp_region_ext (by kernel_rfl) (by kernel_rfl) ?_; repeat (go_big_quiet_step ((go_at_call 36; exact ext_call (HS0.out _)))); refine wpQuiet_nil ?_; rintro _ ⟨y, rfl⟩)
  go_wp2_with fail
  go_ret; exact ⟨rfl, ext_end _ hz⟩
set_option maxRecDepth 10000 in
set_option maxHeartbeats 1000000 in
theorem szMachine_any (v0 : Value) (q : Machine) (l : Int) (hl0 : 0 ≤ l) (hl1 : l ≤ 1048576) (w : World) (B : Nat) (hB : B ≤ w.heap.size) (h0 : (Ty.slice 72 Move.ty).rep w B [v0] q.Moves) :
    Calls Try.prog 7 #[.agg #[.int .i64 q.States, .int .i64 q.Symbols, v0], .int .i64 l] w fun e w' => e = .returned (.int .i64 (szR l (Machine.cnt q))) ∧ Below w.heap.size w w' := by
  by_cases g0 : ((q.Moves.length : Nat) : Int) ≤ l
  · go_enter Try.func7, Try.ntmps7
    go_upto_region 1 with fail
    refine rebase ?_; intro W1 hW _; have hz : Below w.heap.size w W1 := by rw [hW]; go_grown
    have hb0 := at_of hW (push1_0 _ _); have c0 := box3 hb0; have f0 := boxf hb0; have B0 := Lib.hid hb0; clear hb0; have HW := Lib.hid hW; clear hW; have hs0 := fun z : Ext W1 => szMoveS_any v0 q.Moves (l) (by omega) (by omega) (W1.to z) B (Nat.le_trans hB (ext_end z hz).size) (Ty.rep_below _ h0 ((ext_end z hz).mono hB)); simp only [szR_ok g0] at hs0; have HS0 := Lib.hid hs0; clear hs0; go_wp2_with fail; refine call_ext (HS0.out _) ?_; intro y; go_wp2_with fail; go_ret; exact ⟨by rw [szR_ok (by unfold Machine.cnt; omega)]; unfold Machine.cnt; go_num, ext_end _ hz⟩
  · go_enter Try.func7, Try.ntmps7
    go_upto_region 1 with fail
    refine rebase ?_; intro W1 hW _; have hz : Below w.heap.size w W1 := by rw [hW]; go_grown
    have hb0 := at_of hW (push1_0 _ _); have c0 := box3 hb0; have f0 := boxf hb0; have B0 := Lib.hid hb0; clear hb0; have HW := Lib.hid hW; clear hW; have hs0 := fun z : Ext W1 => szMoveS_any v0 q.Moves (l) (by omega) (by omega) (W1.to z) B (Nat.le_trans hB (ext_end z hz).size) (Ty.rep_below _ h0 ((ext_end z hz).mono hB)); simp only [szR_no g0] at hs0; have HS0 := Lib.hid hs0; clear hs0; go_wp2_with fail; refine call_ext (HS0.out _) ?_; intro y; go_wp2_with fail; go_ret; exact ⟨by rw [szR_no (by unfold Machine.cnt; omega)]; rfl, ext_end _ hz⟩
structure Config where
  Tape : List Int
  Head : Int
  State : Int
  deriving DecidableEq
def Config.ty : Ty Config := Ty.via (Ty.prod (Ty.slice 2 (Ty.int .i64)) (Ty.prod (Ty.int .i64) (Ty.int .i64))) (fun x => (x.Tape, x.Head, x.State))
def Config.cnt (x : Config) : Nat := x.Tape.length
theorem Config.cells {w : World} {B : Nat} {cs : List Value} {x : Config} (h : Config.ty.rep w B cs x) : ∃ v0 : Value, cs = [v0, .int .i64 x.Head, .int .i64 x.State] ∧ (Ty.slice 2 (Ty.int .i64)).rep w B [v0] x.Tape ∧ InK .i64 x.Head ∧ InK .i64 x.State := by obtain ⟨_, _, rfl, h0, _, _, rfl, h1, h2⟩ := h; obtain ⟨u0, rfl⟩ := Ty.slice_one h0; obtain ⟨rfl, i1⟩ := h1; obtain ⟨rfl, i2⟩ := h2; exact ⟨_, rfl, h0, i1, i2⟩
theorem Config.parts {w : World} {B : Nat} {v0 : Value} {x : Config} (h : Config.ty.rep w B [v0, .int .i64 x.Head, .int .i64 x.State] x) : (Ty.slice 2 (Ty.int .i64)).rep w B [v0] x.Tape ∧ InK .i64 x.Head ∧ InK .i64 x.State := by obtain ⟨e0, hh, r0, r1, r2⟩ := Config.cells h; simp only [List.cons.injEq, and_true, true_and] at hh; subst hh; exact ⟨r0, r1, r2⟩
theorem Config.rep_mk {w : World} {B : Nat} {v0 : Value} {x : Config} (h0 : (Ty.slice 2 (Ty.int .i64)).rep w B [v0] x.Tape) (h1 : InK .i64 x.Head) (h2 : InK .i64 x.State) : Config.ty.rep w B [v0, .int .i64 x.Head, .int .i64 x.State] x :=
  ⟨_, _, rfl, h0, _, _, rfl, ⟨rfl, h1⟩, ⟨rfl, h2⟩⟩
set_option maxRecDepth 100000 in
theorem Config.reads : Reads Try.prog 27 Config.ty :=
  reads_via (t := (Ty.prod (Ty.slice 2 (Ty.int .i64)) (Ty.prod (Ty.int .i64) (Ty.int .i64)))) (fun x : Config => (x.Tape, x.Head, x.State)) (fun y => ⟨y.1, y.2.1, y.2.2⟩) (fun _ => rfl) (reads_struct Try.underlying27 (by kernel_rfl) (fld_cons rfl (reads_slice Try.underlying25 (by kernel_rfl) (by decide) (reads_int Try.underlying2 (by kernel_rfl))) (fld_cons rfl (reads_int Try.underlying2 (by kernel_rfl)) (fld_one rfl (reads_int Try.underlying2 (by kernel_rfl))))))
set_option maxRecDepth 10000 in
set_option maxHeartbeats 1000000 in
theorem eqConfig_any (v0 u0 : Value) (x : Config) (w : World) (B : Nat) (hB : B ≤ w.heap.size) (h0 : (Ty.slice 2 (Ty.int .i64)).rep w B [v0] x.Tape) (k0 : (Ty.slice 2 (Ty.int .i64)).rep w B [u0] x.Tape) :
    Calls Try.prog 14 #[.agg #[v0, .int .i64 x.Head, .int .i64 x.State], .agg #[u0, .int .i64 x.Head, .int .i64 x.State]] w fun e w' => e = .returned (.bool true) ∧ Below w.heap.size w w' := by
  go_enter Try.func14, Try.ntmps14
  go_upto_region 1 with fail
  refine rebase ?_; intro W1 hW _; have hz : Below w.heap.size w W1 := by rw [hW]; go_grown
  have hb0 := at_of hW (push2_0 _ _ _); have c0 := box3 hb0; have f0 := boxf hb0; have B0 := Lib.hid hb0; clear hb0; have hb1 := at_of hW (push2_1 _ _ _); have c1 := box3 hb1; have f1 := boxf hb1; have B1 := Lib.hid hb1; clear hb1; have HW := Lib.hid hW; clear hW; have hs0 := fun z : Ext W1 => eqInt64S_any v0 u0 x.Tape (W1.to z) B (Nat.le_trans hB (ext_end z hz).size) (Ty.rep_below _ h0 ((ext_end z hz).mono hB)) (Ty.rep_below _ k0 ((ext_end z hz).mono hB)); have HS0 := Lib.hid hs0; clear hs0; go_wp2_with fail
  first
    | (refine call_ext (HS0.out _) ?_; intro y)
    | (refine wp_region_ext (by kernel_rfl) (by kernel_rfl) ?_; repeat (go_big_quiet_step ((go_at_call 37; exact ext_call (HS0.out _)))); refine wpQuiet_nil ?_; rintro _ ⟨y, rfl⟩)
  go_wp2_with fail
  go_ret; exact ⟨rfl, ext_end _ hz⟩
set_option maxRecDepth 10000 in
set_option maxHeartbeats 1000000 in
theorem eqConfigS_any (v1 v2 : Value) (xs : List Config) (w : World) (B : Nat) (hB : B ≤ w.heap.size) (h1 : (Ty.slice 36 Config.ty).rep w B [v1] xs) (h2 : (Ty.slice 36 Config.ty).rep w B [v2] xs) :
    Calls Try.prog 24 #[v1, v2] w fun e w' => e = .returned (.bool true) ∧ Below w.heap.size w w' := by
  obtain ⟨a1, c1, rfl, _, hm1⟩ := Ty.form h1; obtain ⟨a2, c2, rfl, _, hm2⟩ := Ty.form h2; have hn : xs.length ≤ 9223372036854775807 := (by unfold maxLen at hm1; omega); clear hm1 hm2; refine rebaseC ?_; intro x; go_enter Try.func24, Try.ntmps24; go_wp2
  go_loopw [5] (fun i wr => ∃ k : Nat, k ≤ xs.length ∧ i = .int .i64 k ∧ ∃ z : Ext w, wr = w.to z) (fun i _ => xs.length - (intOf i).toNat)
  case atStart => exact ⟨0, Nat.zero_le _, rfl, x, rfl⟩
  case round =>
    obtain ⟨k, hk, rfl, z, rfl⟩ := hrel; by_cases hlt : k < xs.length
    · obtain ⟨b1, o1, cs1, rfl, hb1, g1, e1⟩ := Ty.elem h1 hB k hlt; obtain ⟨p1_0, rfl, r1_0, _, _⟩ := Config.cells e1; have d1_0 : ∀ z : Ext w, (w.to z).cell? ⟨b1, o1 + k * 3, none⟩ = some (p1_0) := g1 0 _ rfl; have d1_1 : ∀ z : Ext w, (w.to z).cell? ⟨b1, o1 + k * 3 + 1, none⟩ = some (.int .i64 xs[k].Head) := g1 1 _ rfl; have d1_2 : ∀ z : Ext w, (w.to z).cell? ⟨b1, o1 + k * 3 + 2, none⟩ = some (.int .i64 xs[k].State) := g1 2 _ rfl; clear g1; obtain ⟨b2, o2, cs2, rfl, hb2, g2, e2⟩ := Ty.elem h2 hB k hlt; obtain ⟨p2_0, rfl, r2_0, _, _⟩ := Config.cells e2; have d2_0 : ∀ z : Ext w, (w.to z).cell? ⟨b2, o2 + k * 3, none⟩ = some (p2_0) := g2 0 _ rfl; have d2_1 : ∀ z : Ext w, (w.to z).cell? ⟨b2, o2 + k * 3 + 1, none⟩ = some (.int .i64 xs[k].Head) := g2 1 _ rfl; have d2_2 : ∀ z : Ext w, (w.to z).cell? ⟨b2, o2 + k * 3 + 2, none⟩ = some (.int .i64 xs[k].State) := g2 2 _ rfl; clear g2; have hs := fun z : Ext w => eqConfig_any p1_0 p2_0 xs[k] (w.to z) B (Nat.le_trans hB z.below.size) (Ty.rep_to _ hB r1_0 z) (Ty.rep_to _ hB r2_0 z); have HS := Lib.hid hs; clear hs; go_wp2_with fail; refine wp_region_ext (by kernel_rfl) (by kernel_rfl) ?_
      repeat (go_big_quiet_step ((go_at_call 14; exact ext_call (HS.out _))))
      refine wpQuiet_nil ?_; rintro _ ⟨y, rfl⟩; go_wp2_with fail
      go_roundw
      case rel => exact ⟨k + 1, by omega, by go_num, y, rfl⟩
      case measure => simp [intOf]; omega
    · go_wp2_with fail
      go_ret; exact ⟨rfl, z.below⟩
set_option maxRecDepth 10000 in
set_option maxHeartbeats 1000000 in
theorem szConfig_any (v0 : Value) (q : Config) (l : Int) (hl0 : 0 ≤ l) (hl1 : l ≤ 1048576) (w : World) (B : Nat) (hB : B ≤ w.heap.size) (h0 : (Ty.slice 2 (Ty.int .i64)).rep w B [v0] q.Tape) :
    Calls Try.prog 8 #[.agg #[v0, .int .i64 q.Head, .int .i64 q.State], .int .i64 l] w fun e w' => e = .returned (.int .i64 (szR l (Config.cnt q))) ∧ Below w.heap.size w w' := by
  by_cases g0 : ((q.Tape.length : Nat) : Int) ≤ l
  · go_enter Try.func8, Try.ntmps8
    go_upto_region 1 with fail
    refine rebase ?_; intro W1 hW _; have hz : Below w.heap.size w W1 := by rw [hW]; go_grown
    have hb0 := at_of hW (push1_0 _ _); have c0 := box3 hb0; have f0 := boxf hb0; have B0 := Lib.hid hb0; clear hb0; have HW := Lib.hid hW; clear hW; have hs0 := fun z : Ext W1 => szInt64S_any v0 q.Tape (l) (by omega) (by omega) (W1.to z) B (Nat.le_trans hB (ext_end z hz).size) (Ty.rep_below _ h0 ((ext_end z hz).mono hB)); simp only [szR_ok g0] at hs0; have HS0 := Lib.hid hs0; clear hs0; go_wp2_with fail; refine call_ext (HS0.out _) ?_; intro y; go_wp2_with fail; go_ret; exact ⟨by rw [szR_ok (by unfold Config.cnt; omega)]; unfold Config.cnt; go_num, ext_end _ hz⟩
  · go_enter Try.func8, Try.ntmps8
    go_upto_region 1 with fail
    refine rebase ?_; intro W1 hW _; have hz : Below w.heap.size w W1 := by rw [hW]; go_grown
    have hb0 := at_of hW (push1_0 _ _); have c0 := box3 hb0; have f0 := boxf hb0; have B0 := Lib.hid hb0; clear hb0; have HW := Lib.hid hW; clear hW; have hs0 := fun z : Ext W1 => szInt64S_any v0 q.Tape (l) (by omega) (by omega) (W1.to z) B (Nat.le_trans hB (ext_end z hz).size) (Ty.rep_below _ h0 ((ext_end z hz).mono hB)); simp only [szR_no g0] at hs0; have HS0 := Lib.hid hs0; clear hs0; go_wp2_with fail; refine call_ext (HS0.out _) ?_; intro y; go_wp2_with fail; go_ret; exact ⟨by rw [szR_no (by unfold Config.cnt; omega)]; rfl, ext_end _ hz⟩
def Config.cnE (x : Config) : Nat := cnS (fun _ => 1) x.Tape + 1 + 1
def Config.mkE (x : Config) (k : Int) : Config := ⟨mkL (fun _ n => n) (fun _ => 1) x.Tape k, (k + (cnS (fun _ => 1) x.Tape : Nat)), ((k + (cnS (fun _ => 1) x.Tape : Nat)) + 1)⟩
def Config.cnT (x : Config) : Nat := cnS (fun _ => 1) x.Tape
def Config.mkT (x : Config) (k : Int) : Config := ⟨mkL (fun _ n => n) (fun _ => 1) x.Tape k, x.Head, x.State⟩
theorem Config.cnE_le (x : Config) : Config.cnE x ≤ 3 * (1 + Config.cnt x) := by have h0 := cnS_len (K := 1) (fun _ => Nat.le_refl 1) x.Tape; have : Config.cnt x = x.Tape.length := rfl; have : Config.cnE x = cnS (fun _ => 1) x.Tape + 1 + 1 := rfl; omega
theorem Config.cnT_le (x : Config) : Config.cnT x ≤ 3 * Config.cnt x := by have h0 := cnS_len (K := 1) (fun _ => Nat.le_refl 1) x.Tape; have : Config.cnt x = x.Tape.length := rfl; have : Config.cnT x = cnS (fun _ => 1) x.Tape := rfl; omega
theorem Config.own_cells {w : World} {cs : List Value} {x : Config} {F : List Nat} (h : Config.ty.own w cs x F) : ∃ v0 : Value, ∃ F0 : List Nat, cs = [v0, .int .i64 x.Head, .int .i64 x.State] ∧ F = (F0 ++ (([] : List Nat) ++ ([] : List Nat))) ∧ (Ty.slice 2 (Ty.int .i64)).own w [v0] x.Tape F0 ∧ InK .i64 x.Head ∧ InK .i64 x.State := by obtain ⟨_, _, _, _, rfl, rfl, h_0, _, _, _, _, rfl, rfl, h_1, h_2⟩ := h; obtain ⟨h_0_v, h_0_e⟩ := Ty.slice_one (Ty.own_lt _ h_0); subst h_0_e; obtain ⟨rfl, h_1_i, rfl⟩ := h_1; obtain ⟨rfl, h_2_i, rfl⟩ := h_2; exact ⟨h_0_v, _, rfl, rfl, h_0, h_1_i, h_2_i⟩
theorem Config.own_make {w : World} {v0 : Value} {F0 : List Nat} {x : Config} (h0 : (Ty.slice 2 (Ty.int .i64)).own w [v0] x.Tape F0) (h1 : InK .i64 x.Head) (h2 : InK .i64 x.State) : Config.ty.own w [v0, .int .i64 x.Head, .int .i64 x.State] x (F0 ++ (([] : List Nat) ++ ([] : List Nat))) :=
  ⟨_, _, _, _, rfl, rfl, h0, ⟨_, _, _, _, rfl, rfl, ⟨rfl, h1, rfl⟩, ⟨rfl, h2, rfl⟩⟩⟩
set_option maxRecDepth 10000 in
set_option maxHeartbeats 1000000 in
theorem markConfigS_any (v : Value) (xs : List Config) (k : Int) (F : List Nat) (w : World) (h : (Ty.slice 36 Config.ty).own w [v] xs F) (hn : F.Nodup) (hF : ∀ b, b ∈ F → b < w.heap.size) (h0 : 0 ≤ k) (hk : k + (cnS Config.cnE xs : Nat) ≤ 4611686018427387904) :
    Calls Try.prog 25 #[v, .int .i64 k] w fun e w' => e = .returned (.int .i64 (k + (cnS Config.cnE xs : Nat))) ∧ (Ty.slice 36 Config.ty).own w' [v] (mkL Config.mkE Config.cnE xs k) F ∧ Chg F w w' := by
  obtain ⟨a, c, rfl, _, hm⟩ := Ty.form (Ty.own_lt _ h); have hlen : xs.length ≤ 9223372036854775807 := (by unfold maxLen at hm; omega); clear hm; have HO := Lib.hid h; have HN := Lib.hid hn; have HF := Lib.hid hF; clear h hn hF; go_enter Try.func25, Try.ntmps25; go_wp2
  go_loopw [1, 5] (fun n i wr => ∃ j : Nat, j ≤ xs.length ∧ i = .int .i64 j ∧ n = .int .i64 (k + (sumT Config.cnE xs j : Nat)) ∧ (Ty.slice 36 Config.ty).own wr [.slice a xs.length c] (mkAt Config.mkE Config.cnE xs k j) F ∧ Chg F w wr) (fun _ i _ => xs.length - (intOf i).toNat)
  case atStart => exact ⟨0, Nat.zero_le _, rfl, by simp [sumT_zero], by rw [mkAt_zero]; exact HO.out, Chg.refl _ _⟩
  case round =>
    obtain ⟨j, hj, rfl, rfl, ho, hc⟩ := hrel; by_cases hlt : j < xs.length
    · obtain ⟨g, o, cs, Fk, arr0, rfl, -, hg, hgk, hnk, hsub, hx, hH, hput⟩ := own_elem ho HN.out j (by rw [mkAt_len]; exact hlt); rw [mkAt_get _ _ _ _ _ hlt] at hx; have hb1 := sumT_cn_lt Config.cnE xs j hlt; have hb2 := sumT_succ Config.cnE xs j hlt; have hFw : ∀ b, b ∈ F → b < wr.heap.size := fun b hb => Nat.lt_of_lt_of_le (HF.out b hb) hc.size; have HFW := Lib.hid hFw; have HC := Lib.hid hc; clear ho hFw hc; obtain ⟨p0, G0, rfl, hFe, o0, _, _⟩ := Config.own_cells hx; rw [hFe] at hgk hnk hsub hput; clear hFe hx; have hcn : Config.cnE xs[j] = cnS (fun _ => 1) xs[j].Tape + 1 + 1 := rfl; have hnd := hnk
      try simp only [List.nil_append, List.append_nil, List.nodup_append, List.mem_append] at hnd
      have hgm := hgk
      try simp only [List.nil_append, List.append_nil, List.mem_append, not_or] at hgm
      have hsb := hsub
      try simp only [List.nil_append, List.append_nil, List.mem_append] at hsb
      have KC : Chg (g :: (G0 ++ (([] : List Nat) ++ ([] : List Nat)))) wr wr := Chg.refl _ _; have hsz : Config.ty.size = 3 := rfl; rw [hsz] at hH hput; have c0 : wr.cell? ⟨g, o + j * 3, none⟩ = some (p0) := (by have := hH.cell (j := 0) rfl; simpa using this); go_wp2_with fail; refine (markInt64S_any p0 xs[j].Tape (k + (sumT Config.cnE xs j : Nat)) G0 wr o0 (by simp_all) (fun b hb => Nat.lt_of_lt_of_le (HFW.out b (hsub b (by simp_all))) KC.size) (by omega) (by omega)).mono ?_; rintro e W1' ⟨rfl, oo, hCG⟩; have hH3 := hH.keep (hCG.keep g (Nat.lt_of_lt_of_le (HFW.out g hg) KC.size) (by simp_all)); have KC2 := KC.trans (hCG.mono (fun b hb => by simp_all)); clear c0 hH hCG KC o0; have hH := hH3; have KC := KC2; clear hH3 KC2; have o0 := oo; clear oo; have c1 : W1'.cell? ⟨g, o + j * 3 + 1, none⟩ = some (.int .i64 xs[j].Head) := (by have := hH.cell (j := 1) rfl; simpa using this); have f1 := hH.froz
      go_upto_region 7 with fail
      refine plainbase ?_; intro W2 hW; have hH2 := hH.set 1 (by omega) (.int .i64 ((k + (sumT Config.cnE xs j : Nat)) + (cnS (fun _ => 1) xs[j].Tape : Nat))); have hH3 : HoleAt W2 g 36 arr0 (o + j * 3) 3 [p0, .int .i64 ((k + (sumT Config.cnE xs j : Nat)) + (cnS (fun _ => 1) xs[j].Tape : Nat)), .int .i64 xs[j].State] := by rw [hW]; simpa using hH2
      have hCG : Chg [g] W1' W2 := (by rw [hW]; exact (Chg.refl [g] _).set (by simp) _ _); have o0_ := hCG.own o0 (fun b hb hb2 => by simp only [List.mem_singleton] at hb2; subst hb2; simp_all) (fun b hb => Nat.lt_of_lt_of_le (HFW.out b (hsub b (by simp_all))) KC.size); have KC2 := KC.trans (hCG.mono (fun b hb => by simp_all)); clear c1 f1 hH hH2 hCG KC hW o0; have hH := hH3; have KC := KC2; clear hH3 KC2; have o0 := o0_; clear o0_; have c2 : W2.cell? ⟨g, o + j * 3 + 2, none⟩ = some (.int .i64 xs[j].State) := (by have := hH.cell (j := 2) rfl; simpa using this); have f2 := hH.froz
      go_upto_region 3 with fail
      refine plainbase ?_; intro W3 hW; have hH2 := hH.set 2 (by omega) (.int .i64 (((k + (sumT Config.cnE xs j : Nat)) + (cnS (fun _ => 1) xs[j].Tape : Nat)) + 1)); have hH3 : HoleAt W3 g 36 arr0 (o + j * 3) 3 [p0, .int .i64 ((k + (sumT Config.cnE xs j : Nat)) + (cnS (fun _ => 1) xs[j].Tape : Nat)), .int .i64 (((k + (sumT Config.cnE xs j : Nat)) + (cnS (fun _ => 1) xs[j].Tape : Nat)) + 1)] := by rw [hW]; simpa using hH2
      have hCG : Chg [g] W2 W3 := (by rw [hW]; exact (Chg.refl [g] _).set (by simp) _ _); have o0_ := hCG.own o0 (fun b hb hb2 => by simp only [List.mem_singleton] at hb2; subst hb2; simp_all) (fun b hb => Nat.lt_of_lt_of_le (HFW.out b (hsub b (by simp_all))) KC.size); have KC2 := KC.trans (hCG.mono (fun b hb => by simp_all)); clear c2 f2 hH hH2 hCG KC hW o0; have hH := hH3; have KC := KC2; clear hH3 KC2; have o0 := o0_; clear o0_; have h3 := hput _ _ _ hH (Config.own_make (x := Config.mkE xs[j] (k + (sumT Config.cnE xs j : Nat))) o0 (show InK .i64 ((k + (sumT Config.cnE xs j : Nat)) + (cnS (fun _ => 1) xs[j].Tape : Nat)) from ⟨by omega, by omega⟩) (show InK .i64 (((k + (sumT Config.cnE xs j : Nat)) + (cnS (fun _ => 1) xs[j].Tape : Nat)) + 1) from ⟨by omega, by omega⟩)) (fun b hb h1 h2 => KC.keep b (HFW.out b hb) (by simp only [List.mem_cons, not_or]; exact ⟨h1, h2⟩)); rw [← mkAt_succ Config.mkE Config.cnE xs k j hlt] at h3; have h4 := HC.out.trans (KC.mono (fun b hb => by rcases List.mem_cons.1 hb with rfl | hb; exact hg; exact hsub b hb)); have H3 := Lib.hid h3; have H4 := Lib.hid h4; clear h3 h4 hput hH KC o0; go_wp2_with fail
      go_roundw
      case rel => refine ⟨j + 1, by omega, by go_num, by rw [hb2]; rw [hcn]; simp only [Int.natCast_add, Int.natCast_one, Int.add_assoc], H3.out, H4.out⟩
      case measure => simp [intOf]; omega
    · obtain rfl : j = xs.length := (by omega); have HC := Lib.hid hc; have HW := Lib.hid ho; clear hc ho; go_wp2_with fail; go_ret; refine ⟨by rw [sumT_cnS]; rfl, ?_, HC.out⟩; have := HW.out; rw [mkAt_all] at this; exact this
set_option maxRecDepth 10000 in
set_option maxHeartbeats 1000000 in
theorem heldConfigS_any (v : Value) (xs : List Config) (k : Int) (w : World) (B : Nat) (hB : B ≤ w.heap.size) (h : (Ty.slice 36 Config.ty).rep w B [v] (mkL Config.mkE Config.cnE xs k)) (h0 : 0 ≤ k) (hk : k + (cnS Config.cnE xs : Nat) ≤ 4611686018427387904) :
    Calls Try.prog 26 #[v, .int .i64 k] w fun e w' => e = .returned (.int .i64 (k + (cnS Config.cnE xs : Nat))) ∧ Below w.heap.size w w' := by
  obtain ⟨a, c, hv, _, hm⟩ := Ty.form h; rw [mkL_len] at hv; subst hv; have hlen : xs.length ≤ 9223372036854775807 := (by have := Ty.form h; obtain ⟨_, _, _, hh1, hh2⟩ := this; rw [mkL_len] at hh1; unfold maxLen at hh2; omega); clear hm; have HR := Lib.hid h; clear h; refine rebaseC ?_; intro x; go_enter Try.func26, Try.ntmps26; go_wp2
  go_loopw [1, 5] (fun n i wr => ∃ j : Nat, j ≤ xs.length ∧ i = .int .i64 j ∧ n = .int .i64 (k + (sumT Config.cnE xs j : Nat)) ∧ ∃ z : Ext w, wr = w.to z) (fun _ i _ => xs.length - (intOf i).toNat)
  case atStart => exact ⟨0, Nat.zero_le _, rfl, by simp [sumT_zero], x, rfl⟩
  case round =>
    obtain ⟨j, hj, rfl, rfl, z, rfl⟩ := hrel; by_cases hlt : j < xs.length
    · have hb1 := sumT_cn_lt Config.cnE xs j hlt; have hb2 := sumT_succ Config.cnE xs j hlt; have HB2 := Lib.hid hb2; clear hb2; obtain ⟨b, o, cs, rfl, hb, gg, ee⟩ := Ty.elem HR.out hB j (by rw [mkL_len]; exact hlt); rw [mkL_get _ _ _ _ _ hlt] at ee; obtain ⟨p0, rfl, r0, r1, r2⟩ := Config.cells ee; have d0 : ∀ z : Ext w, (w.to z).cell? ⟨b, o + j * 3, none⟩ = some (p0) := gg 0 _ rfl; have d1 : ∀ z : Ext w, (w.to z).cell? ⟨b, o + j * 3 + 1, none⟩ = some (.int .i64 ((k + (sumT Config.cnE xs j : Nat)) + (cnS (fun _ => 1) xs[j].Tape : Nat))) := gg 1 _ rfl; have d2 : ∀ z : Ext w, (w.to z).cell? ⟨b, o + j * 3 + 2, none⟩ = some (.int .i64 (((k + (sumT Config.cnE xs j : Nat)) + (cnS (fun _ => 1) xs[j].Tape : Nat)) + 1)) := gg 2 _ rfl; clear gg ee; have hcn : Config.cnE xs[j] = cnS (fun _ => 1) xs[j].Tape + 1 + 1 := rfl; have hs0 := fun z : Ext w => heldInt64S_any p0 xs[j].Tape (k + (sumT Config.cnE xs j : Nat)) (w.to z) B (Nat.le_trans hB (to_size z)) (Ty.rep_to _ hB r0 z) (by omega) (by omega); have HS0 := Lib.hid hs0; clear hs0; go_wp2_with fail; refine call_ext (HS0.out _) ?_; intro y0; go_wp2_with fail
      go_roundw
      case rel => have hb2 := HB2.out; refine ⟨j + 1, by omega, by go_num, by rw [hb2]; rw [hcn]; simp only [Int.natCast_add, Int.natCast_one, Int.add_assoc], y0, rfl⟩
      case measure => simp [intOf]; omega
    · obtain rfl : j = xs.length := (by omega); go_wp2_with fail; go_ret; exact ⟨by rw [sumT_cnS]; rfl, z.below⟩
set_option maxRecDepth 10000 in
set_option maxHeartbeats 1000000 in
theorem markConfig_any (v0 : Value) (x : Config) (k : Int) (F : List Nat) (w : World) (h : Config.ty.own w [v0, .int .i64 x.Head, .int .i64 x.State] x F) (hn : F.Nodup) (hF : ∀ b, b ∈ F → b < w.heap.size) (h0 : 0 ≤ k) (hk : k + (Config.cnT x : Nat) ≤ 4611686018427387904) :
    Calls Try.prog 18 #[.agg #[v0, .int .i64 x.Head, .int .i64 x.State], .int .i64 k] w fun e w' => e = .returned (.int .i64 (k + (Config.cnT x : Nat))) ∧ Config.ty.own w' [v0, .int .i64 x.Head, .int .i64 x.State] (Config.mkT x k) F ∧ Chg F w w' := by
  obtain ⟨u0, F0, hcs, hFe, o0, q1, q2⟩ := Config.own_cells h; rw [hFe] at hn hF ⊢; clear h hFe; simp only [List.cons.injEq, and_true, true_and] at hcs; subst hcs; obtain ⟨a0, c0_, hv0, _, _⟩ := Ty.form (Ty.own_lt _ o0); subst hv0; have hnd := hn
  try simp only [List.nil_append, List.append_nil, List.nodup_append, List.mem_append] at hnd
  have hsb : ∀ b, b ∈ (F0 ++ (([] : List Nat) ++ ([] : List Nat))) → b < w.heap.size := hF
  try simp only [List.nil_append, List.append_nil, List.mem_append] at hsb
  have hcn : Config.cnT x = cnS (fun _ => 1) x.Tape := rfl; have HND := Lib.hid hnd; have HSB := Lib.hid hsb; clear hnd hsb hn hF; go_enter Try.func18, Try.ntmps18
  go_upto_region 1 with fail
  refine plainbase ?_; intro w1 hW; have hz : Below w.heap.size w w1 := by rw [hW]; go_grown
  have HB := Lib.hid (at_of hW (push1_0 _ _)); have o0_ := (Chg.of_below (F := []) hz).own o0 (by simp) (fun b hb => HSB.out b (by simp_all)); clear o0; have o0 := o0_; clear o0_; have KC : Chg (F0 ++ (([] : List Nat) ++ ([] : List Nat))) w w1 := Chg.of_below hz; have hbw : w.heap.size < w1.heap.size := blk_lt HB.out; clear hW hz; have c := cel3 HB.out; go_wp2_with fail; have hnd := HND.out; have hsb := HSB.out; refine (markInt64S_any (.slice a0 x.Tape.length c0_) x.Tape k (F0) w1 o0 (by simp_all [List.nodup_append]) (fun b hb => Nat.lt_of_lt_of_le (HSB.out b (by simp_all)) KC.size) (by omega) (by omega)).mono ?_; rintro e w2 ⟨rfl, oo, hCG⟩; have HB2 := Lib.hid ((hCG.keep _ hbw (fun hb => absurd (HSB.out _ (by simp_all)) (Nat.lt_irrefl _))).trans HB.out); have KC2 := KC.trans (hCG.mono (fun b hb => by simp_all)); have hbw2 := Nat.lt_of_lt_of_le hbw hCG.size; clear hnd hsb c HB hCG KC hbw o0; have KC := KC2; have HB := HB2; have hbw := hbw2; clear KC2 HB2 hbw2; have o0 := oo; clear oo; go_wp2_with fail; go_ret; exact ⟨by rw [hcn]; first | rfl | (simp only [Int.natCast_add, Int.add_assoc]; done) | (simp only [Int.natCast_add, Int.add_assoc]; rfl), Config.own_make (x := Config.mkT x k) o0 q1 q2, KC⟩
def Move.cnE (x : Move) : Nat := 1 + 1 + 1 + 1 + 1
def Move.mkE (x : Move) (k : Int) : Move := ⟨k, (k + 1), ((k + 1) + 1), (((k + 1) + 1) + 1), ((((k + 1) + 1) + 1) + 1)⟩
def Move.cnT (x : Move) : Nat := 0
def Move.mkT (x : Move) (k : Int) : Move := ⟨x.State, x.Read, x.Write, x.Dir, x.Next⟩
theorem Move.cnE_le (x : Move) : Move.cnE x ≤ 5 := Nat.le_refl _
theorem Move.own_cells {w : World} {cs : List Value} {x : Move} {F : List Nat} (h : Move.ty.own w cs x F) : cs = [.int .i64 x.State, .int .i64 x.Read, .int .i64 x.Write, .int .i64 x.Dir, .int .i64 x.Next] ∧ F = (([] : List Nat) ++ (([] : List Nat) ++ (([] : List Nat) ++ (([] : List Nat) ++ ([] : List Nat))))) ∧ InK .i64 x.State ∧ InK .i64 x.Read ∧ InK .i64 x.Write ∧ InK .i64 x.Dir ∧ InK .i64 x.Next := by obtain ⟨_, _, _, _, rfl, rfl, h_0, _, _, _, _, rfl, rfl, h_1, _, _, _, _, rfl, rfl, h_2, _, _, _, _, rfl, rfl, h_3, h_4⟩ := h; obtain ⟨rfl, h_0_i, rfl⟩ := h_0; obtain ⟨rfl, h_1_i, rfl⟩ := h_1; obtain ⟨rfl, h_2_i, rfl⟩ := h_2; obtain ⟨rfl, h_3_i, rfl⟩ := h_3; obtain ⟨rfl, h_4_i, rfl⟩ := h_4; exact ⟨rfl, rfl, h_0_i, h_1_i, h_2_i, h_3_i, h_4_i⟩
theorem Move.own_make {w : World} {x : Move} (h0 : InK .i64 x.State) (h1 : InK .i64 x.Read) (h2 : InK .i64 x.Write) (h3 : InK .i64 x.Dir) (h4 : InK .i64 x.Next) : Move.ty.own w [.int .i64 x.State, .int .i64 x.Read, .int .i64 x.Write, .int .i64 x.Dir, .int .i64 x.Next] x (([] : List Nat) ++ (([] : List Nat) ++ (([] : List Nat) ++ (([] : List Nat) ++ ([] : List Nat))))) :=
  ⟨_, _, _, _, rfl, rfl, ⟨rfl, h0, rfl⟩, ⟨_, _, _, _, rfl, rfl, ⟨rfl, h1, rfl⟩, ⟨_, _, _, _, rfl, rfl, ⟨rfl, h2, rfl⟩, ⟨_, _, _, _, rfl, rfl, ⟨rfl, h3, rfl⟩, ⟨rfl, h4, rfl⟩⟩⟩⟩⟩
set_option maxRecDepth 10000 in
set_option maxHeartbeats 1000000 in
theorem markMoveS_any (v : Value) (xs : List Move) (k : Int) (F : List Nat) (w : World) (h : (Ty.slice 72 Move.ty).own w [v] xs F) (hn : F.Nodup) (hF : ∀ b, b ∈ F → b < w.heap.size) (h0 : 0 ≤ k) (hk : k + (cnS Move.cnE xs : Nat) ≤ 4611686018427387904) :
    Calls Try.prog 39 #[v, .int .i64 k] w fun e w' => e = .returned (.int .i64 (k + (cnS Move.cnE xs : Nat))) ∧ (Ty.slice 72 Move.ty).own w' [v] (mkL Move.mkE Move.cnE xs k) F ∧ Chg F w w' := by
  obtain ⟨a, c, rfl, _, hm⟩ := Ty.form (Ty.own_lt _ h); have hlen : xs.length ≤ 9223372036854775807 := (by unfold maxLen at hm; omega); clear hm; have HO := Lib.hid h; have HN := Lib.hid hn; have HF := Lib.hid hF; clear h hn hF; go_enter Try.func39, Try.ntmps39; go_wp2
  go_loopw [1, 5] (fun n i wr => ∃ j : Nat, j ≤ xs.length ∧ i = .int .i64 j ∧ n = .int .i64 (k + (sumT Move.cnE xs j : Nat)) ∧ (Ty.slice 72 Move.ty).own wr [.slice a xs.length c] (mkAt Move.mkE Move.cnE xs k j) F ∧ Chg F w wr) (fun _ i _ => xs.length - (intOf i).toNat)
  case atStart => exact ⟨0, Nat.zero_le _, rfl, by simp [sumT_zero], by rw [mkAt_zero]; exact HO.out, Chg.refl _ _⟩
  case round =>
    obtain ⟨j, hj, rfl, rfl, ho, hc⟩ := hrel; by_cases hlt : j < xs.length
    · obtain ⟨g, o, cs, Fk, arr0, rfl, -, hg, hgk, hnk, hsub, hx, hH, hput⟩ := own_elem ho HN.out j (by rw [mkAt_len]; exact hlt); rw [mkAt_get _ _ _ _ _ hlt] at hx; have hb1 := sumT_cn_lt Move.cnE xs j hlt; have hb2 := sumT_succ Move.cnE xs j hlt; have hFw : ∀ b, b ∈ F → b < wr.heap.size := fun b hb => Nat.lt_of_lt_of_le (HF.out b hb) hc.size; have HFW := Lib.hid hFw; have HC := Lib.hid hc; clear ho hFw hc; obtain ⟨rfl, hFe, _, _, _, _, _⟩ := Move.own_cells hx; rw [hFe] at hgk hnk hsub hput; clear hFe hx; have hcn : Move.cnE xs[j] = 1 + 1 + 1 + 1 + 1 := rfl; have KC : Chg (g :: (([] : List Nat) ++ (([] : List Nat) ++ (([] : List Nat) ++ (([] : List Nat) ++ ([] : List Nat)))))) wr wr := Chg.refl _ _; have hsz : Move.ty.size = 5 := rfl; rw [hsz] at hH hput; have c0 : wr.cell? ⟨g, o + j * 5, none⟩ = some (.int .i64 xs[j].State) := (by have := hH.cell (j := 0) rfl; simpa using this); have f0 := hH.froz
      go_upto_region 6 with fail
      refine plainbase ?_; intro W1 hW; have hH2 := hH.set 0 (by omega) (.int .i64 (k + (sumT Move.cnE xs j : Nat))); have hH3 : HoleAt W1 g 72 arr0 (o + j * 5) 5 [.int .i64 (k + (sumT Move.cnE xs j : Nat)), .int .i64 xs[j].Read, .int .i64 xs[j].Write, .int .i64 xs[j].Dir, .int .i64 xs[j].Next] := by rw [hW]; simpa using hH2
      have hCG : Chg [g] wr W1 := (by rw [hW]; exact (Chg.refl [g] _).set (by simp) _ _); have KC2 := KC.trans (hCG.mono (fun b hb => by simp_all)); clear c0 f0 hH hH2 hCG KC hW; have hH := hH3; have KC := KC2; clear hH3 KC2; have c1 : W1.cell? ⟨g, o + j * 5 + 1, none⟩ = some (.int .i64 xs[j].Read) := (by have := hH.cell (j := 1) rfl; simpa using this); have f1 := hH.froz
      go_upto_region 8 with fail
      refine plainbase ?_; intro W2 hW; have hH2 := hH.set 1 (by omega) (.int .i64 ((k + (sumT Move.cnE xs j : Nat)) + 1)); have hH3 : HoleAt W2 g 72 arr0 (o + j * 5) 5 [.int .i64 (k + (sumT Move.cnE xs j : Nat)), .int .i64 ((k + (sumT Move.cnE xs j : Nat)) + 1), .int .i64 xs[j].Write, .int .i64 xs[j].Dir, .int .i64 xs[j].Next] := by rw [hW]; simpa using hH2
      have hCG : Chg [g] W1 W2 := (by rw [hW]; exact (Chg.refl [g] _).set (by simp) _ _); have KC2 := KC.trans (hCG.mono (fun b hb => by simp_all)); clear c1 f1 hH hH2 hCG KC hW; have hH := hH3; have KC := KC2; clear hH3 KC2; have c2 : W2.cell? ⟨g, o + j * 5 + 2, none⟩ = some (.int .i64 xs[j].Write) := (by have := hH.cell (j := 2) rfl; simpa using this); have f2 := hH.froz
      go_upto_region 10 with fail
      refine plainbase ?_; intro W3 hW; have hH2 := hH.set 2 (by omega) (.int .i64 (((k + (sumT Move.cnE xs j : Nat)) + 1) + 1)); have hH3 : HoleAt W3 g 72 arr0 (o + j * 5) 5 [.int .i64 (k + (sumT Move.cnE xs j : Nat)), .int .i64 ((k + (sumT Move.cnE xs j : Nat)) + 1), .int .i64 (((k + (sumT Move.cnE xs j : Nat)) + 1) + 1), .int .i64 xs[j].Dir, .int .i64 xs[j].Next] := by rw [hW]; simpa using hH2
      have hCG : Chg [g] W2 W3 := (by rw [hW]; exact (Chg.refl [g] _).set (by simp) _ _); have KC2 := KC.trans (hCG.mono (fun b hb => by simp_all)); clear c2 f2 hH hH2 hCG KC hW; have hH := hH3; have KC := KC2; clear hH3 KC2; have c3 : W3.cell? ⟨g, o + j * 5 + 3, none⟩ = some (.int .i64 xs[j].Dir) := (by have := hH.cell (j := 3) rfl; simpa using this); have f3 := hH.froz
      go_upto_region 12 with fail
      refine plainbase ?_; intro W4 hW; have hH2 := hH.set 3 (by omega) (.int .i64 ((((k + (sumT Move.cnE xs j : Nat)) + 1) + 1) + 1)); have hH3 : HoleAt W4 g 72 arr0 (o + j * 5) 5 [.int .i64 (k + (sumT Move.cnE xs j : Nat)), .int .i64 ((k + (sumT Move.cnE xs j : Nat)) + 1), .int .i64 (((k + (sumT Move.cnE xs j : Nat)) + 1) + 1), .int .i64 ((((k + (sumT Move.cnE xs j : Nat)) + 1) + 1) + 1), .int .i64 xs[j].Next] := by rw [hW]; simpa using hH2
      have hCG : Chg [g] W3 W4 := (by rw [hW]; exact (Chg.refl [g] _).set (by simp) _ _); have KC2 := KC.trans (hCG.mono (fun b hb => by simp_all)); clear c3 f3 hH hH2 hCG KC hW; have hH := hH3; have KC := KC2; clear hH3 KC2; have c4 : W4.cell? ⟨g, o + j * 5 + 4, none⟩ = some (.int .i64 xs[j].Next) := (by have := hH.cell (j := 4) rfl; simpa using this); have f4 := hH.froz
      go_upto_region 3 with fail
      refine plainbase ?_; intro W5 hW; have hH2 := hH.set 4 (by omega) (.int .i64 (((((k + (sumT Move.cnE xs j : Nat)) + 1) + 1) + 1) + 1)); have hH3 : HoleAt W5 g 72 arr0 (o + j * 5) 5 [.int .i64 (k + (sumT Move.cnE xs j : Nat)), .int .i64 ((k + (sumT Move.cnE xs j : Nat)) + 1), .int .i64 (((k + (sumT Move.cnE xs j : Nat)) + 1) + 1), .int .i64 ((((k + (sumT Move.cnE xs j : Nat)) + 1) + 1) + 1), .int .i64 (((((k + (sumT Move.cnE xs j : Nat)) + 1) + 1) + 1) + 1)] := by rw [hW]; simpa using hH2
      have hCG : Chg [g] W4 W5 := (by rw [hW]; exact (Chg.refl [g] _).set (by simp) _ _); have KC2 := KC.trans (hCG.mono (fun b hb => by simp_all)); clear c4 f4 hH hH2 hCG KC hW; have hH := hH3; have KC := KC2; clear hH3 KC2; have h3 := hput _ _ _ hH (Move.own_make (x := Move.mkE xs[j] (k + (sumT Move.cnE xs j : Nat))) (show InK .i64 (k + (sumT Move.cnE xs j : Nat)) from ⟨by omega, by omega⟩) (show InK .i64 ((k + (sumT Move.cnE xs j : Nat)) + 1) from ⟨by omega, by omega⟩) (show InK .i64 (((k + (sumT Move.cnE xs j : Nat)) + 1) + 1) from ⟨by omega, by omega⟩) (show InK .i64 ((((k + (sumT Move.cnE xs j : Nat)) + 1) + 1) + 1) from ⟨by omega, by omega⟩) (show InK .i64 (((((k + (sumT Move.cnE xs j : Nat)) + 1) + 1) + 1) + 1) from ⟨by omega, by omega⟩)) (fun b hb h1 h2 => KC.keep b (HFW.out b hb) (by simp only [List.mem_cons, not_or]; exact ⟨h1, h2⟩)); rw [← mkAt_succ Move.mkE Move.cnE xs k j hlt] at h3; have h4 := HC.out.trans (KC.mono (fun b hb => by rcases List.mem_cons.1 hb with rfl | hb; exact hg; exact hsub b hb)); have H3 := Lib.hid h3; have H4 := Lib.hid h4; clear h3 h4 hput hH KC; go_wp2_with fail
      go_roundw
      case rel => refine ⟨j + 1, by omega, by go_num, by rw [hb2]; rw [hcn]; simp only [Int.natCast_add, Int.natCast_one, Int.add_assoc], H3.out, H4.out⟩
      case measure => simp [intOf]; omega
    · obtain rfl : j = xs.length := (by omega); have HC := Lib.hid hc; have HW := Lib.hid ho; clear hc ho; go_wp2_with fail; go_ret; refine ⟨by rw [sumT_cnS]; rfl, ?_, HC.out⟩; have := HW.out; rw [mkAt_all] at this; exact this
def Machine.cnE (x : Machine) : Nat := 1 + 1 + cnS Move.cnE x.Moves
def Machine.mkE (x : Machine) (k : Int) : Machine := ⟨k, (k + 1), mkL Move.mkE Move.cnE x.Moves ((k + 1) + 1)⟩
def Machine.cnT (x : Machine) : Nat := cnS Move.cnE x.Moves
def Machine.mkT (x : Machine) (k : Int) : Machine := ⟨x.States, x.Symbols, mkL Move.mkE Move.cnE x.Moves k⟩
theorem Machine.cnE_le (x : Machine) : Machine.cnE x ≤ 7 * (1 + Machine.cnt x) := by have h0 := cnS_len (K := 5) Move.cnE_le x.Moves; have : Machine.cnt x = x.Moves.length := rfl; have : Machine.cnE x = 1 + 1 + cnS Move.cnE x.Moves := rfl; omega
theorem Machine.cnT_le (x : Machine) : Machine.cnT x ≤ 7 * Machine.cnt x := by have h0 := cnS_len (K := 5) Move.cnE_le x.Moves; have : Machine.cnt x = x.Moves.length := rfl; have : Machine.cnT x = cnS Move.cnE x.Moves := rfl; omega
theorem Machine.own_cells {w : World} {cs : List Value} {x : Machine} {F : List Nat} (h : Machine.ty.own w cs x F) : ∃ v0 : Value, ∃ F0 : List Nat, cs = [.int .i64 x.States, .int .i64 x.Symbols, v0] ∧ F = (([] : List Nat) ++ (([] : List Nat) ++ F0)) ∧ InK .i64 x.States ∧ InK .i64 x.Symbols ∧ (Ty.slice 72 Move.ty).own w [v0] x.Moves F0 := by obtain ⟨_, _, _, _, rfl, rfl, h_0, _, _, _, _, rfl, rfl, h_1, h_2⟩ := h; obtain ⟨rfl, h_0_i, rfl⟩ := h_0; obtain ⟨rfl, h_1_i, rfl⟩ := h_1; obtain ⟨h_2_v, h_2_e⟩ := Ty.slice_one (Ty.own_lt _ h_2); subst h_2_e; exact ⟨h_2_v, _, rfl, rfl, h_0_i, h_1_i, h_2⟩
theorem Machine.own_make {w : World} {v0 : Value} {F0 : List Nat} {x : Machine} (h0 : InK .i64 x.States) (h1 : InK .i64 x.Symbols) (h2 : (Ty.slice 72 Move.ty).own w [v0] x.Moves F0) : Machine.ty.own w [.int .i64 x.States, .int .i64 x.Symbols, v0] x (([] : List Nat) ++ (([] : List Nat) ++ F0)) :=
  ⟨_, _, _, _, rfl, rfl, ⟨rfl, h0, rfl⟩, ⟨_, _, _, _, rfl, rfl, ⟨rfl, h1, rfl⟩, h2⟩⟩
set_option maxRecDepth 10000 in
set_option maxHeartbeats 1000000 in
theorem markMachine_any (v0 : Value) (x : Machine) (k : Int) (F : List Nat) (w : World) (h : Machine.ty.own w [.int .i64 x.States, .int .i64 x.Symbols, v0] x F) (hn : F.Nodup) (hF : ∀ b, b ∈ F → b < w.heap.size) (h0 : 0 ≤ k) (hk : k + (Machine.cnT x : Nat) ≤ 4611686018427387904) :
    Calls Try.prog 17 #[.agg #[.int .i64 x.States, .int .i64 x.Symbols, v0], .int .i64 k] w fun e w' => e = .returned (.int .i64 (k + (Machine.cnT x : Nat))) ∧ Machine.ty.own w' [.int .i64 x.States, .int .i64 x.Symbols, v0] (Machine.mkT x k) F ∧ Chg F w w' := by
  obtain ⟨u0, F0, hcs, hFe, q0, q1, o0⟩ := Machine.own_cells h; rw [hFe] at hn hF ⊢; clear h hFe; simp only [List.cons.injEq, and_true, true_and] at hcs; subst hcs; obtain ⟨a0, c0_, hv0, _, _⟩ := Ty.form (Ty.own_lt _ o0); subst hv0; have hnd := hn
  try simp only [List.nil_append, List.append_nil, List.nodup_append, List.mem_append] at hnd
  have hsb : ∀ b, b ∈ (([] : List Nat) ++ (([] : List Nat) ++ F0)) → b < w.heap.size := hF
  try simp only [List.nil_append, List.append_nil, List.mem_append] at hsb
  have hcn : Machine.cnT x = cnS Move.cnE x.Moves := rfl; have HND := Lib.hid hnd; have HSB := Lib.hid hsb; clear hnd hsb hn hF; go_enter Try.func17, Try.ntmps17
  go_upto_region 1 with fail
  refine plainbase ?_; intro w1 hW; have hz : Below w.heap.size w w1 := by rw [hW]; go_grown
  have HB := Lib.hid (at_of hW (push1_0 _ _)); have o0_ := (Chg.of_below (F := []) hz).own o0 (by simp) (fun b hb => HSB.out b (by simp_all)); clear o0; have o0 := o0_; clear o0_; have KC : Chg (([] : List Nat) ++ (([] : List Nat) ++ F0)) w w1 := Chg.of_below hz; have hbw : w.heap.size < w1.heap.size := blk_lt HB.out; clear hW hz; have c := cel3 HB.out; go_wp2_with fail; have hnd := HND.out; have hsb := HSB.out; refine (markMoveS_any (.slice a0 x.Moves.length c0_) x.Moves k (F0) w1 o0 (by simp_all [List.nodup_append]) (fun b hb => Nat.lt_of_lt_of_le (HSB.out b (by simp_all)) KC.size) (by omega) (by omega)).mono ?_; rintro e w2 ⟨rfl, oo, hCG⟩; have HB2 := Lib.hid ((hCG.keep _ hbw (fun hb => absurd (HSB.out _ (by simp_all)) (Nat.lt_irrefl _))).trans HB.out); have KC2 := KC.trans (hCG.mono (fun b hb => by simp_all)); have hbw2 := Nat.lt_of_lt_of_le hbw hCG.size; clear hnd hsb c HB hCG KC hbw o0; have KC := KC2; have HB := HB2; have hbw := hbw2; clear KC2 HB2 hbw2; have o0 := oo; clear oo; go_wp2_with fail; go_ret; exact ⟨by rw [hcn]; first | rfl | (simp only [Int.natCast_add, Int.add_assoc]; done) | (simp only [Int.natCast_add, Int.add_assoc]; rfl), Machine.own_make (x := Machine.mkT x k) q0 q1 o0, KC⟩
end Go.Proofs.Ytljebiaihldgeaa
