/- Laws that the proof stands on. -/
import Derived.Test.YtbflchedmfeghaaDoorZVDec
import Derived.Test.YtbflchedmfeghaaDoorZVSet
set_option linter.all false
namespace Go.Proofs.YtbflchedmfeghaaDoor
open Go.RowKit Go.V
set_option maxRecDepth 100000
def isDg (c : UInt8) : Bool := decide (48 ≤ c.toNat) && decide (c.toNat ≤ 57)
theorem dig_of {k : Nat} (h : k < 10) : isDg (UInt8.ofNat (48 + k)) = true := by
  unfold isDg; have : (UInt8.ofNat (48 + k)).toNat = 48 + k := by simp; omega
  rw [this]; simp; omega
theorem dec_dig (u : Nat) : ∀ c, c ∈ Lib.decDigits u → isDg c = true := by
  induction u using Nat.strongRecOn with
  | _ u ih =>
    intro c hc; rw [Lib.decDigits] at hc; by_cases h : u < 10
    · rw [dif_pos h, List.mem_singleton] at hc; rw [hc]; exact dig_of h
    · rw [dif_neg h, List.mem_append, List.mem_singleton] at hc; rcases hc with hc | hc
      · exact ih _ (by omega) c hc
      · rw [hc]; exact dig_of (by omega)
theorem dec_ne (u : Nat) : Lib.decDigits u ≠ [] := by rw [Lib.decDigits]; split <;> simp
theorem dig_inj {a b : Nat} (ha : a < 10) (hb : b < 10) (h : UInt8.ofNat (48 + a) = UInt8.ofNat (48 + b)) : a = b := by have h1 : (UInt8.ofNat (48 + a)).toNat = 48 + a := (by simp; omega); have h2 : (UInt8.ofNat (48 + b)).toNat = 48 + b := (by simp; omega); have := congrArg UInt8.toNat h; omega
theorem dec_inj (u : Nat) : ∀ v, Lib.decDigits u = Lib.decDigits v → u = v := by
  induction u using Nat.strongRecOn with
  | _ u ih =>
    intro v h; rw [Lib.decDigits.eq_def u, Lib.decDigits.eq_def v] at h; by_cases h1 : u < 10
    · by_cases h2 : v < 10
      · rw [dif_pos h1, dif_pos h2] at h; exact dig_inj h1 h2 (List.cons.inj h).1
      · rw [dif_pos h1, dif_neg h2] at h; have hl := congrArg List.length h; have := List.length_pos_iff.2 (dec_ne (v / 10)); simp at hl; exact absurd hl (dec_ne _)
    · by_cases h2 : v < 10
      · rw [dif_neg h1, dif_pos h2] at h; have hl := congrArg List.length h; simp at hl; exact absurd hl (dec_ne _)
      · rw [dif_neg h1, dif_neg h2] at h; obtain ⟨e1, e2⟩ := List.append_inj' h (by simp); have := ih (u / 10) (by omega) _ e1; have := dig_inj (by omega) (by omega) (List.cons.inj e2).1; omega
theorem takeW_app {α : Type} {p : α → Bool} : ∀ {a b : List α}, (∀ c, c ∈ a → p c = true) → (∀ c r, b = c :: r → p c = false) → (a ++ b).takeWhile p = a
  | [], [], _, _ => rfl
  | [], c :: r, _, h => by simp [List.takeWhile, h c r rfl]
  | x :: a, b, h1, h2 => by rw [List.cons_append, List.takeWhile_cons, h1 x (by simp)]; show x :: (a ++ b).takeWhile p = _; rw [takeW_app (fun c hc => h1 c (List.mem_cons_of_mem _ hc)) h2]
theorem app_split {α : Type} {p : α → Bool} {a a' b b' : List α} (h1 : ∀ c, c ∈ a → p c = true) (h1' : ∀ c, c ∈ a' → p c = true) (h2 : ∀ c r, b = c :: r → p c = false) (h2' : ∀ c r, b' = c :: r → p c = false) (h : a ++ b = a' ++ b') : a = a' ∧ b = b' := by have e : a = a' := (by rw [← takeW_app (p := p) h1 h2, ← takeW_app (p := p) h1' h2', h]); subst e; exact ⟨rfl, List.append_cancel_left h⟩
def nmL : List (List UInt8 × Nat) → List UInt8 → List UInt8
  | [], t => t
  | (p, n) :: r, t => p ++ Lib.decDigits n ++ nmL r t
def okW (p : List UInt8) : Bool := p.all (fun c => !isDg c)
def okNm : Bool → List (List UInt8 × Nat) → List UInt8 → Bool
  | _, [], t => okW t
  | f, (p, _) :: r, t => okW p && (f || !p.isEmpty) && okNm false r t
theorem okW_mem {p : List UInt8} (h : okW p = true) : ∀ c, c ∈ p → (!isDg c) = true := by unfold okW at h; rw [List.all_eq_true] at h; exact h
theorem nmL_head {r : List (List UInt8 × Nat)} {t : List UInt8} (h : okNm false r t = true) : ∀ c l, nmL r t = c :: l → isDg c = false := by
  intro c l e; cases r with
  | nil => simp only [nmL] at e; have := okW_mem (show okW t = true from h) c (by rw [e]; simp); simpa using this
  | cons x r =>
    obtain ⟨p, n⟩ := x; simp only [okNm, Bool.false_or, Bool.and_eq_true] at h; cases p with
    | nil => simp at h
    | cons y p => simp only [nmL, List.cons_append, List.cons.injEq] at e; have := okW_mem h.1.1 y (by simp); rw [e.1] at this; simpa using this
theorem dec_app_head (n : Nat) (l : List UInt8) : ∀ c r, Lib.decDigits n ++ l = c :: r → (!isDg c) = false := by
  intro c r e; cases hd : Lib.decDigits n with
  | nil => exact absurd hd (dec_ne n)
  | cons x xs => rw [hd, List.cons_append, List.cons.injEq] at e; have := dec_dig n x (by rw [hd]; simp); rw [e.1] at this; simp [this]
theorem okW_dec {t p l : List UInt8} {n : Nat} (ht : okW t = true) (e : t = p ++ Lib.decDigits n ++ l) : False := by
  cases hd : Lib.decDigits n with
  | nil => exact absurd hd (dec_ne n)
  | cons x xs => have h1 := dec_dig n x (by rw [hd]; simp); have h2 := okW_mem ht x (by rw [e, hd]; simp); rw [h1] at h2; cases h2
theorem nmL_inj : ∀ (f : Bool) (a b : List (List UInt8 × Nat)) (t u : List UInt8), okNm f a t = true → okNm f b u = true → nmL a t = nmL b u → a = b ∧ t = u
  | _, [], [], t, u, _, _, h => ⟨rfl, h⟩
  | f, [], (p, n) :: r, t, u, h1, _, h => (okW_dec (show okW t = true from h1) h).elim
  | f, (p, n) :: r, [], t, u, _, h2, h => (okW_dec (show okW u = true from h2) h.symm).elim
  | f, (p, n) :: r, (p', n') :: r', t, u, h1, h2, h => by simp only [okNm, Bool.and_eq_true] at h1 h2; simp only [nmL, List.append_assoc] at h; obtain ⟨e1, h⟩ := app_split (p := fun c => !isDg c) (okW_mem h1.1.1) (okW_mem h2.1.1) (dec_app_head n _) (dec_app_head n' _) h; obtain ⟨e2, h⟩ := app_split (p := isDg) (dec_dig n) (dec_dig n') (nmL_head h1.2) (nmL_head h2.2) h; obtain ⟨e3, e4⟩ := nmL_inj false r r' t u h1.2 h2.2 h; rw [e1, dec_inj n n' e2, e3]; exact ⟨rfl, e4⟩
def nm (k : List (List UInt8 × Nat)) (t : List UInt8) : ByteArray := ⟨⟨nmL k t⟩⟩
theorem nm_inj {a b : List (List UInt8 × Nat)} {t u : List UInt8} (h1 : okNm true a t = true) (h2 : okNm true b u = true) : nm a t = nm b u ↔ a = b ∧ t = u := by
  constructor
  · intro h; unfold nm at h; have : nmL a t = nmL b u := by simpa using h
    exact nmL_inj true a b t u h1 h2 this
  · rintro ⟨rfl, rfl⟩; rfl
theorem decS_nat (n : Nat) : decS (n : Int) = ⟨⟨Lib.decDigits n⟩⟩ := by unfold decS itoaS Lib.itoa; rw [if_neg (by omega)]; simp
theorem lit_app (a b : List UInt8) : (⟨⟨a⟩⟩ : ByteArray) ++ ⟨⟨b⟩⟩ = ⟨⟨a ++ b⟩⟩ := by apply ByteArray.ext; simp
def dash : ByteArray := ⟨⟨[45]⟩⟩
def noneS : ByteArray := ⟨⟨[]⟩⟩
def fresh (G : List Glue) (n : ByteArray) : Prop := ∀ g, g ∈ G → g.Name ≠ n
def sideN (G : List Glue) (n : ByteArray) : Int := gIdx G n + 1
structure okM (G : List Glue) : Prop where
  nd : (G.map Glue.Name).Nodup
  d : fresh G dash
  e : fresh G noneS
theorem okM_nil : okM [] := ⟨by simp, (fun g h => by cases h), (fun g h => by cases h)⟩
theorem okM_push {G : List Glue} {n : ByteArray} {k : Int} (h : okM G) (hf : fresh G n) (hd : n ≠ dash) (he : n ≠ noneS) : okM (G ++ [⟨n, k⟩]) := by
  refine ⟨?_, fun g hg => ?_, fun g hg => ?_⟩
  · rw [List.map_append, List.nodup_append]; refine ⟨h.nd, by simp, fun a ha b hb => ?_⟩; obtain ⟨g, hg, rfl⟩ := List.mem_map.1 ha; simp only [List.map_cons, List.map_nil, List.mem_singleton] at hb; rw [hb]; exact hf g hg
  · rcases List.mem_append.1 hg with hg | hg
    · exact h.d g hg
    · rw [List.mem_singleton] at hg; rw [hg]; exact hd
  · rcases List.mem_append.1 hg with hg | hg
    · exact h.e g hg
    · rw [List.mem_singleton] at hg; rw [hg]; exact he
theorem fresh_idx {G : List Glue} {n : ByteArray} (h : fresh G n) : gIdx G n = -1 := vIdx_miss _ G fun j hj => by have := h _ (List.getElem_mem hj); simpa using this
theorem sideN_none {G : List Glue} {n : ByteArray} (h : fresh G n) : sideN G n = 0 := by unfold sideN; rw [fresh_idx h]; rfl
theorem sideN_dash {G : List Glue} (h : okM G) : sideN G dash = 0 := sideN_none h.d
theorem sideN_empty {G : List Glue} (h : okM G) : sideN G noneS = 0 := sideN_none h.e
theorem sideN_in (G : List Glue) (n : ByteArray) : 0 ≤ sideN G n ∧ sideN G n ≤ G.length := by
  unfold sideN gIdx vIdx; cases h : G.findIdx? (fun g => decide (g.Name = n)) with
  | none => simp only; omega
  | some i => have := (List.findIdx?_eq_some_iff_findIdx_eq.1 h).1; simp only; omega
def numE (G : List Glue) : List (Value × Value) := (Value.string dash, Value.int .i64 0) :: G.mapIdx (fun i g => (Value.string g.Name, Value.int .i64 ((i : Int) + 1)))
theorem numE_push (G : List Glue) (g : Glue) : numE (G ++ [g]) = numE G ++ [(Value.string g.Name, Value.int .i64 ((G.length : Int) + 1))] := by unfold numE; rw [List.mapIdx_append]; simp
theorem mset_num {G : List Glue} {n : ByteArray} {k : Int} (hf : fresh G n) (hd : n ≠ dash) : mset (numE G) (.string n) (.int .i64 ((G.length : Int) + 1)) = numE (G ++ [⟨n, k⟩]) := by
  rw [numE_push]; unfold mset; have : (numE G).findIdx? (fun x => keq (.string n) x.1) = none := by
    rw [List.findIdx?_eq_none_iff]; intro x hx; unfold numE at hx; rcases List.mem_cons.1 hx with rfl | hx
    · simp only [keq_str]; exact decide_eq_false (Ne.symm hd)
    · obtain ⟨i, hi, rfl⟩ := List.mem_mapIdx.1 hx; simp only [keq_str]; exact decide_eq_false (hf _ (List.getElem_mem hi))
  rw [this]
theorem find_mapIdx {G : List Glue} {n : ByteArray} : ∀ (k : Nat), (G.mapIdx (fun i g => (Value.string g.Name, Value.int .i64 (((i + k : Nat) : Int) + 1)))).find? (fun x => keq (.string n) x.1) = (G.findIdx? (fun g => decide (g.Name = n))).map fun i => (Value.string n, Value.int .i64 (((i + k : Nat) : Int) + 1)) := by
  induction G with
  | nil => intro k; rfl
  | cons g G ih =>
    intro k; rw [List.mapIdx_cons, List.find?_cons, List.findIdx?_cons]; simp only [keq_str]; by_cases h : g.Name = n
    · simp [h]
    · simp only [h, decide_false]; have := ih (k + 1); have e : (fun (i : Nat) (g : Glue) => (Value.string g.Name, Value.int .i64 (((i + 1 + k : Nat) : Int) + 1))) = (fun (i : Nat) (g : Glue) => (Value.string g.Name, Value.int .i64 (((i + (k + 1) : Nat) : Int) + 1))) := by funext i g; rw [show i + 1 + k = i + (k + 1) by omega]
      rw [e, this]; cases G.findIdx? (fun g => decide (g.Name = n)) with
      | none => simp
      | some i => simp only [Option.map_some, Bool.false_eq_true, if_false]; rw [show i + (k + 1) = i + 1 + k by omega]
theorem mget_num {G : List Glue} (h : okM G) (n : ByteArray) : mget (numE G) (.string n) = some (.int .i64 (sideN G n)) ∨ (mget (numE G) (.string n) = none ∧ sideN G n = 0) := by
  unfold mget numE; rw [List.find?_cons]; simp only [keq_str]; by_cases hd : dash = n
  · subst hd; rw [sideN_dash h]; simp
  · simp only [hd, decide_false]; have := find_mapIdx (G := G) (n := n) 0; simp only [Nat.add_zero] at this; rw [this]; unfold sideN gIdx vIdx; cases G.findIdx? (fun g => decide (g.Name = n)) with
    | none => exact .inr ⟨rfl, rfl⟩
    | some i => exact .inl rfl
def mkI (G : List Glue) (T : List Tile) : List D := [.sl true 2 (G.map (Glue.td.d true)), .sl true 2 (T.map (Tile.td.d true)), .mp .str (numE G)]
def mkS (G : List Glue) (T : List Tile) : List D := [.sl true 2 (G.map (Glue.td.d true)), .sl true 2 (T.map (Tile.td.d true))]
/-! Rows of glues and tiles. -/
theorem rng_push {α : Type} (A : List α) (f : Nat → α) (i : Nat) : A ++ (List.range (i + 1)).map f = (A ++ (List.range i).map f) ++ [f i] := by rw [List.range_succ, List.map_append, List.append_assoc]; rfl
theorem fresh_nil (n : ByteArray) : fresh [] n := fun g h => by cases h
theorem fresh_push {G : List Glue} {a n : ByteArray} {k : Int} (h : fresh G n) (ha : a ≠ n) : fresh (G ++ [⟨a, k⟩]) n := fun g hg => by
  rcases List.mem_append.1 hg with hg | hg
  · exact h g hg
  · rw [List.mem_singleton] at hg; rw [hg]; exact ha
theorem fresh_rng {G : List Glue} {n : ByteArray} {f : Nat → ByteArray} {k : Nat → Int} {i : Nat} (h : fresh G n) (ha : ∀ j, j < i → f j ≠ n) : fresh (G ++ (List.range i).map (fun j => ⟨f j, k j⟩)) n := fun g hg => by
  rcases List.mem_append.1 hg with hg | hg
  · exact h g hg
  · obtain ⟨j, hj, rfl⟩ := List.mem_map.1 hg; exact ha j (by simpa using hj)
theorem okM_rng {G : List Glue} {f : Nat → ByteArray} {k : Nat → Int} (h : okM G) (hf : ∀ i, fresh G (f i)) (hi : ∀ i j, i < j → f i ≠ f j) (hd : ∀ i, f i ≠ dash) (he : ∀ i, f i ≠ noneS) : ∀ i, okM (G ++ (List.range i).map (fun j => ⟨f j, k j⟩))
  | 0 => by simpa using h
  | i + 1 => by rw [rng_push]; exact okM_push (okM_rng h hf hi hd he i) (fresh_rng (hf i) (fun j hj => hi j i hj)) (hd i) (he i)
def freshT (T : List Tile) (n : ByteArray) : Prop := ∀ t, t ∈ T → t.Name ≠ n
theorem freshT_idx {T : List Tile} {n : ByteArray} (h : freshT T n) : tIdx T n = -1 := vIdx_miss _ T fun j hj => by have := h _ (List.getElem_mem hj); simpa using this
theorem freshT_nil (n : ByteArray) : freshT [] n := fun g h => by cases h
theorem nm_ne {a b : List (List UInt8 × Nat)} {t u : List UInt8} (h1 : okNm true a t = true) (h2 : okNm true b u = true) (h : ¬ (a = b ∧ t = u)) : nm a t ≠ nm b u := fun e => h ((nm_inj h1 h2).1 e)
end Go.Proofs.YtbflchedmfeghaaDoor
