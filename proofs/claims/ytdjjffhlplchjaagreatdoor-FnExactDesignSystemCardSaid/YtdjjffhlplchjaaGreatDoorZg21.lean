/- Laws that the proof stands on. -/
import Derived.Test.YtdjjffhlplchjaaGreatDoorZg20
import Derived.Test.YtdjjffhlplchjaaGreatDoorZg14
set_option linter.all false
namespace Go.Proofs.YtdjjffhlplchjaaGreatDoor
open Go.RowKit Go.V
set_option maxRecDepth 100000
def isDg (c : UInt8) : Bool:=decide (48 ≤ c.toNat) && decide (c.toNat ≤ 57)
theorem dig_of {k : Nat} (h : k < 10) : isDg (UInt8.ofNat (48 + k)) = true:=by
  unfold isDg;have : (UInt8.ofNat (48 + k)).toNat = 48 + k:=by simp;omega
  rw [this];simp;omega
theorem zPh (u : Nat) : ∀ c,c ∈ Lib.decDigits u → isDg c = true:=by
  induction u using Nat.strongRecOn with
  | _ u ih =>
    intro c hc;rw [Lib.decDigits] at hc;by_cases h : u < 10
    · rw [dif_pos h,List.mem_singleton] at hc;rw [hc];exact dig_of h
    · rw [dif_neg h,List.mem_append,List.mem_singleton] at hc;rcases hc with hc | hc
      · exact ih _ (by omega) c hc
      · rw [hc];exact dig_of (by omega)
theorem zRj (u : Nat) : Lib.decDigits u ≠ []:=by rw [Lib.decDigits];split <;> simp
theorem dig_inj {a b : Nat} (ha : a < 10) (hb : b < 10) (h : UInt8.ofNat (48 + a) = UInt8.ofNat (48 + b)) : a = b:=by have h1 : (UInt8.ofNat (48 + a)).toNat = 48 + a:=(by simp;omega);have h2 : (UInt8.ofNat (48 + b)).toNat = 48 + b:=(by simp;omega);have:=congrArg UInt8.toNat h;omega
theorem dec_inj (u : Nat) : ∀ v,Lib.decDigits u = Lib.decDigits v → u = v:=by
  induction u using Nat.strongRecOn with
  | _ u ih =>
    intro v h;rw [Lib.decDigits.eq_def u,Lib.decDigits.eq_def v] at h;by_cases h1 : u < 10
    · by_cases h2 : v < 10
      · rw [dif_pos h1,dif_pos h2] at h;exact dig_inj h1 h2 (List.cons.inj h).1
      · rw [dif_pos h1,dif_neg h2] at h;have hl:=congrArg List.length h;have:=List.length_pos_iff.2 (zRj (v / 10));simp at hl;exact absurd hl (zRj _)
    · by_cases h2 : v < 10
      · rw [dif_neg h1,dif_pos h2] at h;have hl:=congrArg List.length h;simp at hl;exact absurd hl (zRj _)
      · rw [dif_neg h1,dif_neg h2] at h;obtain ⟨e1,e2⟩:=List.append_inj' h (by simp);have:=ih (u / 10) (by omega) _ e1;have:=dig_inj (by omega) (by omega) (List.cons.inj e2).1;omega
theorem zLt {α : Type} {p : α → Bool} : ∀ {a b : List α},(∀ c,c ∈ a → p c = true) → (∀ c r,b = c :: r → p c = false) → (a ++ b).takeWhile p = a
  | [],[],_,_ => rfl
  | [],c :: r,_,h => by simp [List.takeWhile,h c r rfl]
  | x :: a,b,h1,h2 => by rw [List.cons_append,List.takeWhile_cons,h1 x (by simp)];show x :: (a ++ b).takeWhile p = _;rw [zLt (fun c hc => h1 c (List.mem_cons_of_mem _ hc)) h2]
theorem zRp {α : Type} {p : α → Bool} {a a' b b' : List α} (h1 : ∀ c,c ∈ a → p c = true) (h1' : ∀ c,c ∈ a' → p c = true) (h2 : ∀ c r,b = c :: r → p c = false) (h2' : ∀ c r,b' = c :: r → p c = false) (h : a ++ b = a' ++ b') : a = a' ∧ b = b':=by have e : a = a':=(by rw [← zLt (p:=p) h1 h2,← zLt (p:=p) h1' h2',h]);subst e;exact ⟨rfl,List.append_cancel_left h⟩
def nmL : List (List UInt8 × Nat) → List UInt8 → List UInt8
  | [],t => t
  | (p,n) :: r,t => p ++ Lib.decDigits n ++ nmL r t
def okW (p : List UInt8) : Bool:=p.all (fun c => !isDg c)
def okNm : Bool → List (List UInt8 × Nat) → List UInt8 → Bool
  | _,[],t => okW t
  | f,(p,_) :: r,t => okW p && (f || !p.isEmpty) && okNm false r t
theorem zL4 {p : List UInt8} (h : okW p = true) : ∀ c,c ∈ p → (!isDg c) = true:=by unfold okW at h;rw [List.all_eq_true] at h;exact h
theorem zUb {r : List (List UInt8 × Nat)} {t : List UInt8} (h : okNm false r t = true) : ∀ c l,nmL r t = c :: l → isDg c = false:=by
  intro c l e;cases r with
  | nil => simp only [nmL] at e;have:=zL4 (show okW t = true from h) c (by rw [e];simp);simpa using this
  | cons x r =>
    obtain ⟨p,n⟩:=x;simp only [okNm,Bool.false_or,Bool.and_eq_true] at h;cases p with
    | nil => simp at h
    | cons y p => simp only [nmL,List.cons_append,List.cons.injEq] at e;have:=zL4 h.1.1 y (by simp);rw [e.1] at this;simpa using this
theorem zKo (n : Nat) (l : List UInt8) : ∀ c r,Lib.decDigits n ++ l = c :: r → (!isDg c) = false:=by
  intro c r e;cases hd : Lib.decDigits n with
  | nil => exact absurd hd (zRj n)
  | cons x xs => rw [hd,List.cons_append,List.cons.injEq] at e;have:=zPh n x (by rw [hd];simp);rw [e.1] at this;simp [this]
theorem zZi {t p l : List UInt8} {n : Nat} (ht : okW t = true) (e : t = p ++ Lib.decDigits n ++ l) : False:=by
  cases hd : Lib.decDigits n with
  | nil => exact absurd hd (zRj n)
  | cons x xs => have h1:=zPh n x (by rw [hd];simp);have h2:=zL4 ht x (by rw [e,hd];simp);rw [h1] at h2;cases h2
theorem zZo : ∀ (f : Bool) (a b : List (List UInt8 × Nat)) (t u : List UInt8),okNm f a t = true → okNm f b u = true → nmL a t = nmL b u → a = b ∧ t = u
  | _,[],[],t,u,_,_,h => ⟨rfl,h⟩
  | f,[],(p,n) :: r,t,u,h1,_,h => (zZi (show okW t = true from h1) h).elim
  | f,(p,n) :: r,[],t,u,_,h2,h => (zZi (show okW u = true from h2) h.symm).elim
  | f,(p,n) :: r,(p',n') :: r',t,u,h1,h2,h => by simp only [okNm,Bool.and_eq_true] at h1 h2;simp only [nmL,List.append_assoc] at h;obtain ⟨e1,h⟩:=zRp (p:=fun c => !isDg c) (zL4 h1.1.1) (zL4 h2.1.1) (zKo n _) (zKo n' _) h;obtain ⟨e2,h⟩:=zRp (p:=isDg) (zPh n) (zPh n') (zUb h1.2) (zUb h2.2) h;obtain ⟨e3,e4⟩:=zZo false r r' t u h1.2 h2.2 h;rw [e1,dec_inj n n' e2,e3];exact ⟨rfl,e4⟩
def nm (k : List (List UInt8 × Nat)) (t : List UInt8) : ByteArray:=⟨⟨nmL k t⟩⟩
theorem nm_inj {a b : List (List UInt8 × Nat)} {t u : List UInt8} (h1 : okNm true a t = true) (h2 : okNm true b u = true) : nm a t = nm b u ↔ a = b ∧ t = u:=by
  constructor
  · intro h;unfold nm at h;have : nmL a t = nmL b u:=by simpa using h
    exact zZo true a b t u h1 h2 this
  · rintro ⟨rfl,rfl⟩;rfl
theorem zPi (n : Nat) : zTh (n : Int) = ⟨⟨Lib.decDigits n⟩⟩:=by unfold zTh zMi Lib.itoa;rw [if_neg (by omega)];simp
theorem zSy (a b : List UInt8) : (⟨⟨a⟩⟩ : ByteArray) ++ ⟨⟨b⟩⟩ = ⟨⟨a ++ b⟩⟩:=by apply ByteArray.ext;simp
def zK6 : ByteArray:=⟨⟨[45]⟩⟩
def zFs : ByteArray:=⟨⟨[]⟩⟩
def fresh (G : List Glue) (n : ByteArray) : Prop:=∀ g,g ∈ G → g.Name ≠ n
def zA8 (G : List Glue) (n : ByteArray) : Int:=zWy G n + 1
structure okM (G : List Glue) : Prop where
  nd : (G.map Glue.Name).Nodup
  d : fresh G zK6
  e : fresh G zFs
theorem okM_nil : okM []:=⟨by simp,(fun g h => by cases h),(fun g h => by cases h)⟩
theorem zT8 {G : List Glue} {n : ByteArray} {k : Int} (h : okM G) (hf : fresh G n) (hd : n ≠ zK6) (he : n ≠ zFs) : okM (G ++ [⟨n,k⟩]):=by
  refine ⟨?_,fun g hg => ?_,fun g hg => ?_⟩
  · rw [List.map_append,List.nodup_append];refine ⟨h.nd,by simp,fun a ha b hb => ?_⟩;obtain ⟨g,hg,rfl⟩:=List.mem_map.1 ha;simp only [List.map_cons,List.map_nil,List.mem_singleton] at hb;rw [hb];exact hf g hg
  · rcases List.mem_append.1 hg with hg | hg
    · exact h.d g hg
    · rw [List.mem_singleton] at hg;rw [hg];exact hd
  · rcases List.mem_append.1 hg with hg | hg
    · exact h.e g hg
    · rw [List.mem_singleton] at hg;rw [hg];exact he
theorem zQw {G : List Glue} {n : ByteArray} (h : fresh G n) : zWy G n = -1:=zFo _ G fun j hj => by have:=h _ (List.getElem_mem hj);simpa using this
theorem zG6 {G : List Glue} {n : ByteArray} (h : fresh G n) : zA8 G n = 0:=by unfold zA8;rw [zQw h];rfl
theorem zG7 {G : List Glue} (h : okM G) : zA8 G zK6 = 0:=zG6 h.d
theorem zSc {G : List Glue} (h : okM G) : zA8 G zFs = 0:=zG6 h.e
theorem zLc (G : List Glue) (n : ByteArray) : 0 ≤ zA8 G n ∧ zA8 G n ≤ G.length:=by
  unfold zA8 zWy zR2;cases h : G.findIdx? (fun g => decide (g.Name = n)) with
  | none => simp only;omega
  | some i => have:=(List.findIdx?_eq_some_iff_findIdx_eq.1 h).1;simp only;omega
def zSn (G : List Glue) : List (Value × Value):=(Value.string zK6,Value.int .i64 0) :: G.mapIdx (fun i g => (Value.string g.Name,Value.int .i64 ((i : Int) + 1)))
theorem zZl (G : List Glue) (g : Glue) : zSn (G ++ [g]) = zSn G ++ [(Value.string g.Name,Value.int .i64 ((G.length : Int) + 1))]:=by unfold zSn;rw [List.mapIdx_append];simp
theorem mset_num {G : List Glue} {n : ByteArray} {k : Int} (hf : fresh G n) (hd : n ≠ zK6) : zJr (zSn G) (.string n) (.int .i64 ((G.length : Int) + 1)) = zSn (G ++ [⟨n,k⟩]):=by
  rw [zZl];unfold zJr;have : (zSn G).findIdx? (fun x => keq (.string n) x.1) = none:=by
    rw [List.findIdx?_eq_none_iff];intro x hx;unfold zSn at hx;rcases List.mem_cons.1 hx with rfl | hx
    · simp only [zHy];exact decide_eq_false (Ne.symm hd)
    · obtain ⟨i,hi,rfl⟩:=List.mem_mapIdx.1 hx;simp only [zHy];exact decide_eq_false (hf _ (List.getElem_mem hi))
  rw [this]
theorem zMo {G : List Glue} {n : ByteArray} : ∀ (k : Nat),(G.mapIdx (fun i g => (Value.string g.Name,Value.int .i64 (((i + k : Nat) : Int) + 1)))).find? (fun x => keq (.string n) x.1) = (G.findIdx? (fun g => decide (g.Name = n))).map fun i => (Value.string n,Value.int .i64 (((i + k : Nat) : Int) + 1)):=by
  induction G with
  | nil => intro k;rfl
  | cons g G ih =>
    intro k;rw [List.mapIdx_cons,List.find?_cons,List.findIdx?_cons];simp only [zHy];by_cases h : g.Name = n
    · simp [h]
    · simp only [h,decide_false];have:=ih (k + 1);have e : (fun (i : Nat) (g : Glue) => (Value.string g.Name,Value.int .i64 (((i + 1 + k : Nat) : Int) + 1))) = (fun (i : Nat) (g : Glue) => (Value.string g.Name,Value.int .i64 (((i + (k + 1) : Nat) : Int) + 1))):=by funext i g;rw [show i + 1 + k = i + (k + 1) by omega]
      rw [e,this];cases G.findIdx? (fun g => decide (g.Name = n)) with
      | none => simp
      | some i => simp only [Option.map_some,Bool.false_eq_true,if_false];rw [show i + (k + 1) = i + 1 + k by omega]
theorem zUc {G : List Glue} (h : okM G) (n : ByteArray) : zWc (zSn G) (.string n) = some (.int .i64 (zA8 G n)) ∨ (zWc (zSn G) (.string n) = none ∧ zA8 G n = 0):=by
  unfold zWc zSn;rw [List.find?_cons];simp only [zHy];by_cases hd : zK6 = n
  · subst hd;rw [zG7 h];simp
  · simp only [hd,decide_false];have:=zMo (G:=G) (n:=n) 0;simp only [Nat.add_zero] at this;rw [this];unfold zA8 zWy zR2;cases G.findIdx? (fun g => decide (g.Name = n)) with
    | none => exact .inr ⟨rfl,rfl⟩
    | some i => exact .inl rfl
def mkI (G : List Glue) (T : List Tile) : List D:=[.sl true 2 (G.map (Glue.td.d true)),.sl true 2 (T.map (Tile.td.d true)),.mp .str (zSn G)]
def mkS (G : List Glue) (T : List Tile) : List D:=[.sl true 2 (G.map (Glue.td.d true)),.sl true 2 (T.map (Tile.td.d true))]
/-! Rows of glues and tiles. -/
theorem zG8 {α : Type} (A : List α) (f : Nat → α) (i : Nat) : A ++ (List.range (i + 1)).map f = (A ++ (List.range i).map f) ++ [f i]:=by rw [List.range_succ,List.map_append,List.append_assoc];rfl
theorem zMm {G : List Glue} {n : ByteArray} {f : Nat → ByteArray} {k : Nat → Int} {i : Nat} (h : fresh G n) (ha : ∀ j,j < i → f j ≠ n) : fresh (G ++ (List.range i).map (fun j => ⟨f j,k j⟩)) n:=fun g hg => by
  rcases List.mem_append.1 hg with hg | hg
  · exact h g hg
  · obtain ⟨j,hj,rfl⟩:=List.mem_map.1 hg;exact ha j (by simpa using hj)
theorem zSl {G : List Glue} {f : Nat → ByteArray} {k : Nat → Int} (h : okM G) (hf : ∀ i,fresh G (f i)) (hi : ∀ i j,i < j → f i ≠ f j) (hd : ∀ i,f i ≠ zK6) (he : ∀ i,f i ≠ zFs) : ∀ i,okM (G ++ (List.range i).map (fun j => ⟨f j,k j⟩))
  | 0 => by simpa using h
  | i + 1 => by rw [zG8];exact zT8 (zSl h hf hi hd he i) (zMm (hf i) (fun j hj => hi j i hj)) (hd i) (he i)
def zGb (T : List Tile) (n : ByteArray) : Prop:=∀ t,t ∈ T → t.Name ≠ n
theorem zWz {T : List Tile} {n : ByteArray} (h : zGb T n) : tIdx T n = -1:=zFo _ T fun j hj => by have:=h _ (List.getElem_mem hj);simpa using this
theorem zN2 (n : ByteArray) : zGb [] n:=fun g h => by cases h
theorem zS8 {T : List Tile} {a n : ByteArray} {s : List Int} (h : zGb T n) (ha : a ≠ n) : zGb (T ++ [⟨a,s⟩]) n:=fun g hg => by
  rcases List.mem_append.1 hg with hg | hg
  · exact h g hg
  · rw [List.mem_singleton] at hg;rw [hg];exact ha
theorem zN1 {T : List Tile} {n : ByteArray} {f : Nat → ByteArray} {s : Nat → List Int} {i : Nat} (h : zGb T n) (ha : ∀ j,j < i → f j ≠ n) : zGb (T ++ (List.range i).map (fun j => ⟨f j,s j⟩)) n:=fun g hg => by
  rcases List.mem_append.1 hg with hg | hg
  · exact h g hg
  · obtain ⟨j,hj,rfl⟩:=List.mem_map.1 hg;exact ha j (by simpa using hj)
theorem zCw {a b : List (List UInt8 × Nat)} {t u : List UInt8} (h1 : okNm true a t = true) (h2 : okNm true b u = true) (h : ¬ (a = b ∧ t = u)) : nm a t ≠ nm b u:=fun e => h ((nm_inj h1 h2).1 e)
end Go.Proofs.YtdjjffhlplchjaaGreatDoor
