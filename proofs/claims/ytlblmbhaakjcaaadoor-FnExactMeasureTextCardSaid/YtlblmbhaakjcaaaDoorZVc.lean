/- Laws that the proof stands on. -/
import Derived.Test.YtlblmbhaakjcaaaDoorZVb
set_option linter.all false
namespace Go.V
open Go.RowKit
section
variable {P : Program} {w0 : Base} {I0 : Nat → Prop} {s : List D} {a : Act} {w : World} {I : Nat → Prop} {Fs : Nat → List Nat} {K : D → List D → Prop}
def ArgOK (s : List D) (tm : Array Value) (w : World) (I : Nat → Prop) (Fs : Nat → List Nat) (u : D) (v : Value) : Prop := ∃ F, T I w u (ρS s tm w) v F ∧ (F = [] ∨ ∃ t, s[t]? = some u ∧ ∀ b, b ∈ F → b ∈ Fs t)
def ArgsOK (s : List D) (tm : Array Value) (w : World) (I : Nat → Prop) (Fs : Nat → List Nat) : List D → List Value → Prop
  | [], vs => vs = []
  | u :: us, vs => ∃ v vs', vs = v :: vs' ∧ ArgOK s tm w I Fs u v ∧ ArgsOK s tm w I Fs us vs'
theorem raw_ok (h : RelI w0 I0 s a.tmps w I Fs) (x : Operand) : ArgOK s a.tmps w I Fs (raw s x) (a.eval x) := by
  cases x with
  | tmp t =>
    simp only [raw]; cases hs : s[t]? with
    | none => exact ⟨[], by simp [T], .inl rfl⟩
    | some d =>
      obtain ⟨u, hu, hT⟩ := h.slot0 hs; have hg : a.eval (.tmp t) = u := (by simp [Act.eval, hu]); rw [hg]; cases d with
      | box tag cells => have := lkT_T h t; simp only [lkT, hs] at this; simp only [hu, Array.getD_eq_getD_getElem?, Option.getD_some] at this; exact ⟨[], this, .inl rfl⟩
      | _ => exact ⟨Fs t, hT, .inr ⟨t, hs, fun b hb => hb⟩⟩
  | const v => exact ⟨[], lk_T h (.const v), .inl rfl⟩
  | func f => exact ⟨[], lk_T h (.func f), .inl rfl⟩
  | global g => exact ⟨[], lk_T h (.global g), .inl rfl⟩
theorem args_ok (h : RelI w0 I0 s a.tmps w I Fs) : ∀ xs : List Operand, ArgsOK s a.tmps w I Fs (xs.map (raw s)) (xs.map a.eval)
  | [] => rfl
  | x :: xs => ⟨_, _, rfl, raw_ok h x, args_ok h xs⟩
theorem vals_ok {tm : Array Value} : ∀ {us : List D} {vs : List Value}, Vals I w us (ρS s tm w) vs [] → ArgsOK s tm w I Fs us vs
  | [], vs, h => by simp only [Vals] at h; exact h.1
  | u :: us, vs, h => by simp only [Vals] at h; obtain ⟨v, vs', F1, F2, e, hF, ht, h2⟩ := h; simp at hF; obtain ⟨rfl, rfl⟩ := hF; exact ⟨v, vs', e, ⟨[], ht, .inl rfl⟩, vals_ok h2⟩
theorem argsOK_app {tm : Array Value} : ∀ {us us' : List D} {vs vs' : List Value}, ArgsOK s tm w I Fs us vs → ArgsOK s tm w I Fs us' vs' → ArgsOK s tm w I Fs (us ++ us') (vs ++ vs')
  | [], us', vs, vs', h, h' => by have h : vs = [] := h; rw [h]; exact h'
  | u :: us, us', vs, vs', h, h' => by obtain ⟨v, vs1, e, h1, h2⟩ := h; exact ⟨v, vs1 ++ vs', by rw [e]; rfl, h1, argsOK_app h2 h'⟩
theorem argsOK_get {tm : Array Value} : ∀ {us : List D} {vs : List Value} {i : Nat} {u : D}, ArgsOK s tm w I Fs us vs → us[i]? = some u → ∃ v, vs[i]? = some v ∧ ArgOK s tm w I Fs u v
  | [], vs, i, u, h, hu => by simp at hu
  | x :: us, vs, 0, u, h, hu => by obtain ⟨v, vs1, e, h1, h2⟩ := h; obtain rfl : x = u := (by simpa using hu); exact ⟨v, by rw [e]; rfl, h1⟩
  | x :: us, vs, i + 1, u, h, hu => by obtain ⟨v, vs1, e, h1, h2⟩ := h; obtain ⟨v', k1, k2⟩ := argsOK_get h2 (by simpa using hu); exact ⟨v', by rw [e]; simpa using k1, k2⟩
theorem io_vals {tm : Array Value} (h : RelI w0 I0 s a.tmps w I Fs) {r : Nat} {tag : Option Nat} {cells : List D} (hs : s[r]? = some (.box tag cells)) {I' : Nat → Prop} (hI : ∀ b, I b → I' b) : ∀ {us : List D} {vs : List Value}, ArgsOK s a.tmps w I Fs us vs → ((us.map (D.prune (notRoot r))).all D.noRef = true ∨ ∀ r', r' ≠ r → ∀ b, b ∈ Fs r' → I' b) →
    Vals I' w ((us.map (D.prune (notRoot r))).map (deep ((pruneL (notRoot r) s).set r .undef) 8)) nil vs []
  | [], vs, hv, _ => by have hv : vs = [] := hv; simp [Vals, hv]
  | u :: us, vs, hv, hn => by
    obtain ⟨v, vs', e, ⟨F, hT, hF⟩, h2⟩ := hv; simp only [List.map_cons, Vals]; refine ⟨v, vs', [], [], e, rfl, ?_, io_vals (tm := tm) h hs hI h2 (hn.imp_left (fun hn => by simp only [List.map_cons, List.all_cons, Bool.and_eq_true] at hn; exact hn.2))⟩; have hT' : T I w (u.prune (notRoot r)) (ρS ((pruneL (notRoot r) s).set r .undef) a.tmps w) v F := T.turn (fun y v hq hy => hy.forget r hq) u hT; by_cases hb : ∃ tg cs, u = .box tg cs
    · obtain ⟨tg, cs, rfl⟩ := hb; simp [D.prune, deep, T]
    · have hsub : ∀ r' b, b ∈ upd Fs r [] r' → r' ≠ r ∧ b ∈ Fs r' := fun r' b hb => by
        unfold upd at hb; split at hb
        · cases hb
        · rename_i hne; exact ⟨hne, hb⟩
      refine deep_T (h.forget r) hI 8 (u.prune (notRoot r)) (fun _ _ h => h) hT' (fun b hbF => ?_) ?_
      · rcases hF with rfl | ⟨t, ht, hF⟩
        · cases hbF
        · have hne : t ≠ r := (by rintro rfl; rw [hs] at ht; cases ht; exact hb ⟨_, _, rfl⟩); rcases hn with hn | hn
          · simp only [List.map_cons, List.all_cons, Bool.and_eq_true] at hn; have := T.nofoot _ hT' (noRef_owny _ hn.1); rw [this] at hbF; cases hbF
          · exact hn t hne b (hF b hbF)
      · rcases hn with hn | hn
        · simp only [List.map_cons, List.all_cons, Bool.and_eq_true] at hn; exact .inl hn.1
        · exact .inr fun r' b hb => hn r' (hsub r' b hb).1 b (hsub r' b hb).2
theorem vals_setU : ∀ {ds : List D} {us : List Value} {ρ : D → Value → Prop} (i : Nat), Vals I w ds ρ us [] → Vals I w (ds.set i .undef) ρ us []
  | [], us, ρ, i, h => by simpa using h
  | d :: ds, us, ρ, i, h => by
    simp only [Vals] at h; obtain ⟨u, us', F1, F2, e, hF, ht, h2⟩ := h; simp at hF; obtain ⟨rfl, rfl⟩ := hF; cases i with
    | zero => simp only [List.set_cons_zero, Vals]; exact ⟨u, us', [], [], e, rfl, by simp [T], h2⟩
    | succ i => simp only [List.set_cons_succ, Vals]; exact ⟨u, us', [], [], e, rfl, ht, vals_setU i h2⟩
theorem RelI.repoint {tm : Array Value} {w' : World} {I2 : Nat → Prop} {Fs2 : Nat → List Nat} {r : Nat} {tag : Option Nat} {cells cells' : List D} {u0 : Value} {X' : List Nat} (h : RelI w0 I0 s tm w I Fs) (hs : s[r]? = some (.box tag cells)) (hu : tm[r]? = some u0)
    (h2 : RelI w0 I0 ((pruneL (notRoot r) s).set r (.box tag cells')) tm w' I2 Fs2) (hF : ∀ k, k ≠ r → Fs2 k = Fs k) (hr : Fs2 r = X') (hI : ∀ b, I b → I2 b) (hk : ∀ b, I b ∨ (∃ k, k ≠ r ∧ b ∈ Fs k) → w'.heap[b]? = w.heap[b]?) (hB : T I2 w' (.box tag cells') nil u0 X') :
    RelI w0 I0 ((pruneL (keepB r) s).set r (.box tag cells')) tm w' I2 Fs2 where
  below := h2.below
  len := by have := h2.len; simpa [pruneL_len] using this
  slot := by
    intro k d u h1 hu'; have hlt : r < s.length := (List.getElem?_eq_some_iff.1 hs).1; by_cases hkr : k = r
    · subst hkr; simp [pruneL_len, hlt] at h1; rw [hu] at hu'; cases hu'; rw [← h1, hr]; exact hB.res (fun _ _ h => h.elim)
    · rw [List.getElem?_set_ne (Ne.symm hkr), pruneL_get] at h1; cases hsk : s[k]? with
      | none => simp [hsk] at h1
      | some d1 =>
        simp only [hsk, Option.map_some, Option.some.injEq] at h1; rw [← h1, hF k hkr]; refine T.turn (fun x v hq hx => ?_) d1 (T.mono hI d1 (T.keep d1 (h.slot k d1 u hsk hu') (fun b hb => hk b (hb.imp_right fun hb => ⟨k, hkr, hb⟩)))); have hget : ∀ r' d', r' ≠ r → s[r']? = some d' → ((pruneL (keepB r) s).set r (.box tag cells'))[r']? = some (d'.prune (keepB r)) := fun r' d' hne hd => by rw [List.getElem?_set_ne (Ne.symm hne), pruneL_get, hd]; rfl
        have hval : ∀ r' d' v0 p t, r' ≠ r → s[r']? = some d' → tm[r']? = some v0 → treeAt d' p = some t → valAt w' v0 (d'.prune (keepB r)) p = valAt w v0 d' p := fun r' d' v0 p t hne k1 k2 k3 => by rw [val_prune p d' (keepB r) k3, val_frame p d' (h.slot r' d' v0 k1 k2) k3 (fun b hb => hk b (.inr ⟨r', hne, hb⟩))]
        cases x with
        | ref r' p => obtain ⟨d', v0, t1, k1, k2, k3, ho, k4⟩ := hx; have hne : r' ≠ r := (by simpa [keepB] using hq); obtain ⟨q', hq'⟩ := tree_prune p d' (keepB r) k3; exact ⟨_, v0, t1, hget r' d' hne k1, k2, by rw [ownv_prune ho] at hq'; exact hq', ho, by rw [hval r' d' v0 p t1 hne k1 k2 k3]; exact k4⟩
        | sub r' p i n => obtain ⟨d', v0, t', sz, rows, u1, b, o, cc, k1, k2, k3, k4, k5, k6⟩ := hx; have hne : r' ≠ r := (by simpa [keepB] using hq); obtain ⟨q', hq'⟩ := tree_prune p d' (keepB r) k3; obtain ⟨rows', hr'⟩ := (like_prune k4 q').cont k4; exact ⟨_, v0, t'.prune q', sz, rows', u1, b, o, cc, hget r' d' hne k1, k2, hq', hr', by rw [hval r' d' v0 p t' hne k1 k2 k3]; exact k5, k6⟩
        | ptr r' p i j =>
          obtain ⟨d', v0, t', sz, rows, u1, b, o, k1, k2, k3, k4, k5, k6, k7⟩ := hx; by_cases hne : r' = r
          · subst hne; have hp : p = [] ∧ i = 0 := by simpa [keepB] using hq
            obtain ⟨rfl, rfl⟩ := hp; rw [hu] at k2; cases k2; simp only [valAt, Option.some.injEq] at k5; subst k5; exact ⟨_, u0, _, cells'.length, [cells'], u0, b, o, by simp [pruneL_len, hlt]; rfl, hu, rfl, rfl, rfl, k6, by rw [k7]; simp⟩
          · obtain ⟨q', hq'⟩ := tree_prune p d' (keepB r) k3; obtain ⟨rows', hr'⟩ := (like_prune k4 q').cont k4; exact ⟨_, v0, t'.prune q', sz, rows', u1, b, o, hget r' d' hne k1, k2, hq', hr', by rw [hval r' d' v0 p t' hne k1 k2 k3]; exact k5, k6, k7⟩
        | _ => exact hx.elim
  nd := h2.nd
  disj := h2.disj
  own := h2.own
  imm := h2.imm
  imm0 := h2.imm0
  immN := h2.immN
theorem io_T {G : World → (Nat → Prop) → Prop} (hG : GI G w I0) (h : RelI w0 I0 s a.tmps w I Fs) {f : FuncId} {us : List D} {vs : List Value} (hv : ArgsOK s a.tmps w I Fs us vs) (hk : ioK (CT P G) f s us K) :
    Calls P f vs.toArray w fun e w' => ∃ v, e = .returned v ∧ OutOK false Fs I w w0 I0 a.tmps K v w' := by
  obtain ⟨i, r, tag, cells, args', cells0, d, cells', hi, hs, hle, hlc, hC, hn, hK⟩ := hk; obtain ⟨u0, hu0, hTb⟩ := h.slot0 hs; simp only [T] at hTb; obtain ⟨b, cs, et, F', hub, htg, hh, hFr, hcs⟩ := hTb; have hptr : vs[i]? = some (.pointer (some ⟨b, 0, none⟩)) := (by obtain ⟨v, hvi, F, hT, _⟩ := argsOK_get hv hi; simp only [T] at hT; obtain ⟨⟨d1, u1, t1, sz, rows, u2, b1, o1, m1, m2, m3, m4, m5, m6, m7⟩, _⟩ := hT; rw [hu0] at m2; cases m2; simp only [valAt, Option.some.injEq] at m5; subst m5; rw [hub] at m6; simp only [baseOf, Option.some.injEq, Prod.mk.injEq] at m6; obtain ⟨rfl, rfl⟩ := m6; rw [hvi, m7]; simp); have hcs0 : Cells I w (pruneL (fun _ => false) cells) nil cs.toList F' := Cells.turn (fun x v hq _ => by cases hq) cells hcs; obtain ⟨F0, hcs1, hsub⟩ := Cells.leF _ _ hcs0 hlc; have hndr := h.nd r; rw [hFr] at hndr; have hXr : ∀ x, x ∈ b :: F0 → x ∈ Fs r := fun x hx => by
    rw [hFr]; rcases List.mem_cons.1 hx with rfl | hx
    · simp
    · exact List.mem_cons_of_mem _ (hsub.subset hx)
  have hXnd : (b :: F0).Nodup := List.nodup_cons.2 ⟨fun hb => (List.nodup_cons.1 hndr).1 (hsub.subset hb), hsub.nodup (List.nodup_cons.1 hndr).2⟩; have hupd : ∀ r' x, x ∈ upd Fs r [] r' → r' ≠ r ∧ x ∈ Fs r' := fun r' x hx => by
    unfold upd at hx; split at hx
    · cases hx
    · rename_i hne; exact ⟨hne, hx⟩
  have hfg := h.forget r; have htmr : ∀ v, v = u0 → a.tmps.setIfInBounds r v = a.tmps := by
    rintro _ rfl; apply Array.ext_getElem?; intro j; by_cases hj : r = j
    · subst hj; rw [hu0, Array.getElem?_setIfInBounds_self_of_lt (Array.getElem?_eq_some_iff.1 hu0).1]
    · rw [Array.getElem?_setIfInBounds_ne hj]
  have hlt := (List.getElem?_eq_some_iff.1 hs).1
  -- the end, whichever blocks stay
  have fin : ∀ (Ic : Nat → Prop), (∀ x, I x → Ic x) → (∀ x, Ic x → x < w.heap.size) → (∀ x, x ∈ b :: F0 → ¬ Ic x) → Vals Ic w args' nil vs [] → (∀ {v : Value} {w' : World} {F X' : List Nat} {I' : Nat → Prop}, (ioB w (b :: F0)).Below w' → T I' w' d nil v F → T I' w' (.box (some b) cells') nil (.pointer (some ⟨b, 0, none⟩)) X' → (∀ x, Ic x → I' x) → (∀ x, I' x → (Ic x ∨ w.heap.size ≤ x ∨ x ∈ b :: F0) ∧ x < w'.heap.size) → (F ++ X').Nodup → (∀ x, x ∈ F ++ X' → (w.heap.size ≤ x ∨ x ∈ b :: F0) ∧ x < w'.heap.size ∧ ¬ I' x) →
        ∃ I2, (∀ x, I x → I2 x) ∧ RelI w0 I0 ((pruneL (notRoot r) s).set r .undef) a.tmps w' I2 (upd Fs r []) ∧ T I2 w' d nil v F ∧ T I2 w' (.box (some b) cells') nil (.pointer (some ⟨b, 0, none⟩)) X' ∧ ∀ x, x ∈ F ++ X' → ¬ I2 x) →
      Calls P f vs.toArray w fun e w' => ∃ v, e = .returned v ∧ OutOK false Fs I w w0 I0 a.tmps K v w' := by
    intro Ic hIc hIlt hIX hvals hend; refine (hC.2 w Ic vs b (b :: F0) (hG.mono fun b hb => hIc b (h.imm0 b hb)) hIlt hptr (vals_setU i hvals) ?_ hXnd (fun x hx => ⟨(h.own r x (hXr x hx)).2.1, hIX x hx⟩)).mono ?_
    · refine T.mono hIc (.box (some b) cells0) ?_; simp only [T]; exact ⟨b, cs, et, F0, rfl, fun k hk => by cases hk; rfl, hh, rfl, hcs1⟩
    · rintro e w' ⟨v, F, X', I', he, hbel, hTd, hTx, hnd, hF, hI1, hI2⟩; obtain ⟨I2, hII2, hR, hTd2, hTx2, hnI⟩ := hend hbel hTd hTx hI1 hI2 hnd hF; have hnd1 := List.nodup_append.1 hnd; have hTx3 : T I2 w' (.box tag cells') (ρS ((pruneL (notRoot r) s).set r .undef) a.tmps w') u0 X' := by simp only [T] at hTx2 ⊢; obtain ⟨b2, cs2, e2, F2, k1, _, k3, k4, k5⟩ := hTx2; simp only [Value.pointer.injEq, Option.some.injEq, Addr.mk.injEq, and_true] at k1; subst k1; exact ⟨b, cs2, e2, F2, hub, htg, k3, k4, k5.res (fun _ _ h => h.elim)⟩
      have hN : ∀ x, (w.heap.size ≤ x ∨ x ∈ b :: F0) → w0.N x := fun x hx => hx.elim (fun h1 => Base.N_of h.below h1) (fun h1 => (h.own r x (hXr x h1)).1); have hout : ∀ x, (w.heap.size ≤ x ∨ x ∈ b :: F0) → ∀ r', x ∉ upd Fs r [] r' := fun x hx r' hr => by
        obtain ⟨hne, hr⟩ := hupd r' x hr; rcases hx with hx | hx
        · have := (h.own r' x hr).2.1; omega
        · exact hne (h.disj r' r x hr (hXr x hx))
      have hput := hR.put (t := r) (d0 := .undef) (d := .box tag cells') (u := u0) (F := X') (by simp [pruneL_len, hlt]) rfl hTx3 hnd1.2.1 (fun x hx => ⟨hN x (hF x (by simp [hx])).1, (hF x (by simp [hx])).2.1, hnI x (by simp [hx]), fun r' _ => hout x (hF x (by simp [hx])).1 r'⟩); rw [htmr u0 rfl, List.set_set] at hput; have hTx4 : T I2 w' (.box tag cells') nil u0 X' := (by simp only [T] at hTx2 ⊢; obtain ⟨b2, cs2, e2, F2, k1, _, k3, k4, k5⟩ := hTx2; simp only [Value.pointer.injEq, Option.some.injEq, Addr.mk.injEq, and_true] at k1; subst k1; exact ⟨b, cs2, e2, F2, hub, htg, k3, k4, k5⟩); have hkeep0 : ∀ x, x < w.heap.size → x ∉ b :: F0 → w'.heap[x]? = w.heap[x]? := fun x hx hn => hbel.block x (fun hN => hN.elim (fun h => by have h : w.heap.size ≤ x := h; omega) hn); have hput := RelI.repoint h hs hu0 hput (fun k hk => by unfold upd; rw [if_neg hk, if_neg hk]) (by unfold upd; rw [if_pos rfl]) hII2 (fun x hx => by
        rcases hx with hx | ⟨k, hk, hx⟩
        · exact hkeep0 x (h.imm x hx) (fun hX => (h.own r x (hXr x hX)).2.2 hx)
        · exact hkeep0 x (h.own k x hx).2.1 (fun hX => hk (h.disj k r x hx (hXr x hX)))) hTx4
      refine ⟨v, he, d, _, I2, _, F, hK, hput, hTd2.res (fun _ _ h => h.elim), ⟨hnd1.1, fun x hx => ⟨hN x (hF x (by simp [hx])).1, (hF x (by simp [hx])).2.1, hnI x (by simp [hx]), fun r' hr => ?_⟩⟩, fun h => by cases h⟩; by_cases hrr : r' = r
      · subst hrr; simp only [upd, if_true] at hr; exact hnd1.2.2 x hx x hr rfl
      · have : x ∈ upd Fs r [] r' := (by unfold upd at hr ⊢; rw [if_neg hrr] at hr ⊢; rw [if_neg hrr] at hr; exact hr); exact hout x (hF x (by simp [hx])).1 r' this
  have hsame : ∀ {w' : World}, (ioB w (b :: F0)).Below w' → RelI w0 I0 ((pruneL (notRoot r) s).set r .undef) a.tmps w' I (upd Fs r []) := by
    intro w' hbel; have hkeep : ∀ x, x < w.heap.size → x ∉ b :: F0 → w'.heap[x]? = w.heap[x]? := fun x hx hn => hbel.block x (fun hN => hN.elim (fun h => by have h : w.heap.size ≤ x := h; omega) hn); refine hfg.same ⟨hbel.os, hbel.tape, hbel.output, hbel.size, fun k hk => hkeep k (Nat.lt_of_lt_of_le (Base.not hk) h.below.size) (fun hx => hk (h.own r k (hXr k hx)).1)⟩ (fun x hx => ?_); rcases hx with hx | ⟨r', hr⟩
    · exact hkeep x (h.imm x hx) (fun hX => (h.own r x (hXr x hX)).2.2 hx)
    · obtain ⟨hne, hr⟩ := hupd r' x hr; exact hkeep x (h.own r' x hr).2.1 (fun hX => hne (h.disj r' r x hr (hXr x hX)))
  by_cases hnr : (us.map (D.prune (notRoot r))).all D.noRef = true
  · refine fin I (fun _ h => h) h.imm (fun x hx => (h.own r x (hXr x hx)).2.2) (Vals.le _ _ (io_vals (tm := a.tmps) h hs (fun _ h => h) hv (.inl hnr)) hle) ?_; intro v w' F X' I' hbel hTd hTx hI1 hI2 hnd hF; refine ⟨I', hI1, (hsame hbel).immMore hI1 (fun x hx => ?_), hTd, hTx, fun x hx => (hF x hx).2.2⟩; obtain ⟨k1, k2⟩ := hI2 x hx; rcases k1 with k1 | k1
    · exact .inl k1
    · refine .inr ⟨k1.elim (fun h1 => Base.N_of h.below h1) (fun h1 => (h.own r x (hXr x h1)).1), k2, fun r' hr => ?_⟩; obtain ⟨hne, hr⟩ := hupd r' x hr; rcases k1 with k1 | k1
      · have := (h.own r' x hr).2.1; omega
      · exact hne (h.disj r' r x hr (hXr x k1))
  · have hni := hn.resolve_right hnr; refine fin (fun x => I x ∨ ∃ r', r' ≠ r ∧ x ∈ Fs r') (fun _ h => .inl h) (fun x hx => hx.elim (h.imm x) (fun ⟨r', _, hr⟩ => (h.own r' x hr).2.1)) (fun x hx hI => ?_) (Vals.le _ _ (io_vals (tm := a.tmps) h hs (fun _ h => .inl h) hv (.inr fun r' hne b hb => .inr ⟨r', hne, hb⟩)) hle) ?_
    · rcases hI with hI | ⟨r', hne, hr⟩
      · exact (h.own r x (hXr x hx)).2.2 hI
      · exact hne (h.disj r' r x hr (hXr x hx))
    · intro v w' F X' I' hbel hTd hTx hI1 hI2 hnd hF; refine ⟨I, fun _ h => h, hsame hbel, T.noImm d hTd hni.1, T.noImm (.box (some b) cells') hTx (by simpa [D.noImm] using hni.2), fun x hx hI => ?_⟩; rcases (hF x hx).1 with h1 | h1
      · have := h.imm x hI; omega
      · exact (h.own r x (hXr x h1)).2.2 hI
theorem lend_vals (h : RelI w0 I0 s a.tmps w I Fs) (r : Nat) {I' : Nat → Prop} (hI : ∀ b, I b → I' b) : ∀ {us : List D} {vs : List Value}, ArgsOK s a.tmps w I Fs us vs → us.all (fun u => !u.owny) = true → ((us.map (D.prune (notRoot r))).all D.noRef = true ∨ ∀ r', r' ≠ r → ∀ b, b ∈ Fs r' → I' b) →
    Vals I' w ((us.map (D.prune (notRoot r))).map (deep ((pruneL (notRoot r) s).set r .undef) 8)) nil vs []
  | [], vs, hv, _, _ => by have hv : vs = [] := hv; simp [Vals, hv]
  | u :: us, vs, hv, hn, hI' => by
    obtain ⟨v, vs', e, ⟨F, hT, hF⟩, h2⟩ := hv; simp only [List.all_cons, Bool.and_eq_true, Bool.not_eq_true'] at hn; simp only [List.map_cons, Vals]; refine ⟨v, vs', [], [], e, rfl, ?_, lend_vals h r hI h2 hn.2 (hI'.imp_left fun hn => by simp only [List.map_cons, List.all_cons, Bool.and_eq_true] at hn; exact hn.2)⟩; have hFn : F = [] := T.nofoot _ hT hn.1; subst hFn; have hT' : T I w (u.prune (notRoot r)) (ρS ((pruneL (notRoot r) s).set r .undef) a.tmps w) v [] := T.turn (fun y v hq hy => hy.forget r hq) u hT; refine deep_T (h.forget r) hI 8 (u.prune (notRoot r)) (fun _ _ h => h) hT' (fun b hb => by cases hb) ?_; rcases hI' with hI' | hI'
    · simp only [List.map_cons, List.all_cons, Bool.and_eq_true] at hI'; exact .inl hI'.1
    · refine .inr fun r' b hb => ?_; unfold upd at hb; split at hb
      · cases hb
      · rename_i hne; exact hI' r' hne b hb
theorem argsOK_setU {tm : Array Value} : ∀ {us : List D} {vs : List Value} (i : Nat), ArgsOK s tm w I Fs us vs → ArgsOK s tm w I Fs (us.set i .undef) vs
  | [], vs, i, h => h
  | u :: us, vs, i, h => by
    obtain ⟨v, vs', e, h1, h2⟩ := h; cases i with
    | zero => exact ⟨v, vs', e, ⟨[], by simp [T], .inl rfl⟩, h2⟩
    | succ i => exact ⟨v, vs', e, h1, argsOK_setU i h2⟩
theorem exact_res {I : Nat → Prop} {w : World} {ρ ρ' : D → Value → Prop} : ∀ {ds : List D} {us : List Value} {F : List Nat}, exactL ds = true → Cells I w ds ρ us F → Cells I w ds ρ' us F
  | [], us, F, _, h => by simpa only [Cells] using h
  | d :: ds, us, F, hx, h => by
    simp only [Cells] at h ⊢; obtain ⟨u, us', F1, F2, e, hF, ho, h1, h2⟩ := h; cases d with
    | v x => exact ⟨u, us', F1, F2, e, hF, ho, by simpa only [T] using h1, exact_res (by simpa only [exactL] using hx) h2⟩
    | nils => exact ⟨u, us', F1, F2, e, hF, ho, by simpa only [T] using h1, exact_res (by simpa only [exactL] using hx) h2⟩
    | sl own sz rows =>
      cases own with
      | false => simp [exactL] at hx
      | true => exact ⟨u, us', F1, F2, e, hF, ho, by simpa only [T] using h1, exact_res (by simpa only [exactL] using hx) h2⟩
    | _ => simp [exactL] at hx
theorem exact_T {I : Nat → Prop} {w : World} {ρ ρ' : D → Value → Prop} {d : D} {u : Value} {F : List Nat} (hx : d.exact = true) (h : T I w d ρ u F) : T I w d ρ' u F := by
  cases d with
  | sl own sz rows => simpa only [T] using h
  | agg cs => simp only [T] at h ⊢; obtain ⟨us, e, hc⟩ := h; exact ⟨us, e, exact_res (by simpa [D.exact] using hx) hc⟩
  | _ => simp [D.exact] at hx
theorem cpy_exact {s : List D} {tm : Array Value} {r : Nat} {tag : Option Nat} {all : List D} {b : Nat} {cs : Array Value} {et : TypeId} (hs : s[r]? = some (.box tag all)) (hu : tm[r]? = some (.pointer (some ⟨b, 0, none⟩))) (hh : w.heap[b]? = some (.cells cs et (0, 0))) : ∀ (ds : List D) (j : Nat) {us vs : List Value} {F : List Nat} {ρ : D → Value → Prop}, exactL ds = true → all.drop j = ds → cs.toList.drop j = vs → Cells I w ds ρ vs F → Cells I w (cpyL r [] 0 j ds) (ρS s tm w) us [] → us = vs
  | [], j, us, vs, F, ρ, _, _, _, h1, h2 => by simp only [cpyL, Cells] at h1 h2; rw [h1.1, h2.1]
  | d :: ds, j, us, vs, F, ρ, hx, hd, hv, h1, h2 => by
    simp only [Cells] at h1; obtain ⟨v, vs', F1, F2, ev, hF, ho, ht, h1⟩ := h1; have hd' : all.drop (j + 1) = ds := by rw [← List.drop_drop, hd]; rfl
    have hv' : cs.toList.drop (j + 1) = vs' := (by rw [← List.drop_drop, hv, ev]; rfl); have hj : all[j]? = some d := (by have := congrArg (fun l => l[0]?) hd; simpa using this); have hcj : cs[j]? = some v := (by have := congrArg (fun l => l[0]?) hv; rw [ev] at this; simpa using this); cases d with
    | v x => simp only [cpyL, D.owny, Bool.false_eq_true, if_false, Cells] at h2; obtain ⟨u, us', G1, G2, eu, hG, hou, htu, h2⟩ := h2; simp at hG; obtain ⟨rfl, rfl⟩ := hG; simp only [T] at ht htu; rw [eu, ev, ht.1, htu.1, cpy_exact hs hu hh ds (j + 1) (by simpa only [exactL] using hx) hd' hv' h1 h2]
    | nils => simp only [cpyL, D.owny, Bool.false_eq_true, if_false, Cells] at h2; obtain ⟨u, us', G1, G2, eu, hG, hou, htu, h2⟩ := h2; simp at hG; obtain ⟨rfl, rfl⟩ := hG; simp only [T] at ht htu; rw [eu, ev, ht.1, htu.1, cpy_exact hs hu hh ds (j + 1) (by simpa only [exactL] using hx) hd' hv' h1 h2]
    | sl own sz rows =>
      cases own with
      | false => simp [exactL] at hx
      | true =>
        simp only [cpyL, Cells, List.nil_append] at h2; obtain ⟨u, us', G1, G2, eu, hG, hou, htu, h2⟩ := h2; simp at hG; obtain ⟨rfl, rfl⟩ := hG; have heq := cpy_exact hs hu hh ds (j + 1) (by simpa only [exactL] using hx) hd' hv' h1 h2; simp only [T, ρS] at htu; obtain ⟨⟨d1, u1, t1, k1, k2, k3, k4, k5⟩, _⟩ := htu; rw [hs] at k1; cases k1; rw [hu] at k2; cases k2; have hc : w.cell? ⟨b, 0 + 0 * all.length + j, none⟩ = some v := by rw [cell_row hh]; simpa using hcj
        simp only [valAt, D.cont, baseOf, List.getElem?_cons_zero, hj, hc, Option.some.injEq] at k5; rw [eu, ev, k5, heq]
    | _ => simp [exactL] at hx
theorem lend_T {G : World → (Nat → Prop) → Prop} (hG : GI G w I0) (h : RelI w0 I0 s a.tmps w I Fs) {f : FuncId} {args : List Operand} (hk : lendK (CT P G) f s args K) :
    Calls P f (args.map a.eval).toArray w fun e w' => ∃ v, e = .returned v ∧ OutOK false Fs I w w0 I0 a.tmps K v w' := by
  obtain ⟨i, r, x, fr, d0, d', dnew, res, args', hix, hlp, hoth, hle, hC, hcs, hK⟩ := hk; unfold lendP at hlp; split at hlp
  case h_2 => exact hlp.elim
  rename_i d hs; obtain ⟨u0, hu0, hTd⟩ := h.slot0 hs; have hvx : (args.map a.eval)[i]? = some (a.eval x) := by rw [List.getElem?_map, hix]; rfl
  have hsp : ∃ A X B, Fs r = A ++ X ++ B ∧ T I w d0 nil (a.eval x) X ∧ ∀ (I2 : Nat → Prop) (w2 : World) (X' : List Nat), (fr = true ∨ I2 = I) → (∀ y, I y ∨ y ∈ A ∨ y ∈ B → w2.heap[y]? = w.heap[y]?) → T I2 w2 d' nil (a.eval x) X' → T I2 w2 dnew nil u0 (A ++ X' ++ B) := by
    rcases hlp with ⟨hxr, hx, rfl, rfl⟩ | ⟨tag, cells, cells', rfl, hlk, hx, rfl, rfl, rfl⟩ | ⟨q, sz, rows, hfr, hq, hlk, rfl, htr, rfl⟩
    · have hg : a.eval x = u0 := by
        rcases hxr with rfl | hlk
        · simp [Act.eval, hu0]
        · have hlT := lk_T h x; rw [hlk] at hlT; simp only [T, ρS] at hlT; obtain ⟨⟨d1, u1, t1, k1, k2, k3, k4, k5⟩, _⟩ := hlT; rw [hu0] at k2; cases k2; simp only [valAt, Option.some.injEq] at k5; exact k5.symm
      rw [hg]; exact ⟨[], Fs r, [], by simp, exact_T hx hTd, fun I2 w2 X' _ _ ht => by simpa using ht⟩
    · have hlT := lk_T h x; rw [hlk] at hlT; simp only [T] at hTd hlT; obtain ⟨b, cs, et, F', hub, htg, hh, hFr, hcs⟩ := hTd; obtain ⟨us, eu, hcu⟩ := hlT; have he : us = cs.toList := cpy_exact hs (by rw [hu0, hub]) hh cells 0 hx rfl rfl hcs hcu; have hea : a.eval x = .agg cs := (by rw [eu, he]); rw [hea]; refine ⟨[b], F', [], by rw [hFr]; simp, by simp only [T]; exact ⟨cs.toList, by simp, exact_res hx hcs⟩, fun I2 w2 X' _ hkp ht => ?_⟩; simp only [T] at ht ⊢; obtain ⟨vs, ev, hcv⟩ := ht; have hvs : vs = cs.toList := (by simp only [Value.agg.injEq] at ev; rw [ev]); rw [hvs] at hcv; exact ⟨b, cs, et, X', hub, htg, (hkp b (.inr (.inl (by simp)))).trans hh, by simp, hcv⟩
    · have hlT := lk_T h x; rw [hlk] at hlT; simp only [T, ρS] at hlT; obtain ⟨⟨d1, u1, t1, k1, k2, k3, k4, k5⟩, _⟩ := hlT; rw [hs] at k1; cases k1; rw [hu0] at k2; cases k2; obtain ⟨b, o, u', A, F', B, cells, e, hadr, hcl, hh, hFF, hbA, hou, htt, hup⟩ := T.focus q d hTd (h.nd r) (fun y hy => (h.own r y hy).2.2) hq htr; have hv := adr_val q d (by rw [htr]; rfl) hadr hcl; rw [k5] at hv; cases hv; refine ⟨A, F', B, hFF, by simpa only [T] using htt, fun I2 w2 X' hI2 hkp ht => ?_⟩; obtain rfl : I2 = I := hI2.resolve_left (by rw [hfr]; simp); refine hup w2 nil (fun _ => false) d' _ X' (fun y _ hy => hkp y hy) ?_ (fun _ _ hq _ => by cases hq) hou (by rw [resAt_nil]; exact ht); rw [hkp b (.inr (.inl hbA)), hh]; congr 1; congr 1; rw [cell_row hh] at hcl; apply Array.ext_getElem?; intro j; by_cases hj : o = j
      · subst hj; rw [Array.getElem?_setIfInBounds_self_of_lt (Array.getElem?_eq_some_iff.1 hcl).1, hcl]
      · rw [Array.getElem?_setIfInBounds_ne hj]
  obtain ⟨A, X, B, hFr, hT0, hreb⟩ := hsp; have hndr := h.nd r; rw [hFr] at hndr; have hn1 := List.nodup_append.1 hndr; have hn2 := List.nodup_append.1 hn1.1; have hXr : ∀ x, x ∈ X → x ∈ Fs r := fun x hx => by rw [hFr]; simp [hx]
  have hupd : ∀ r' x, x ∈ upd Fs r [] r' → r' ≠ r ∧ x ∈ Fs r' := fun r' x hx => by
    unfold upd at hx; split at hx
    · cases hx
    · rename_i hne; exact ⟨hne, hx⟩
  have hfg := h.forget r; have hlt := (List.getElem?_eq_some_iff.1 hs).1; have htmr : a.tmps.setIfInBounds r u0 = a.tmps := by
    apply Array.ext_getElem?; intro j; by_cases hj : r = j
    · subst hj; rw [hu0, Array.getElem?_setIfInBounds_self_of_lt (Array.getElem?_eq_some_iff.1 hu0).1]
    · rw [Array.getElem?_setIfInBounds_ne hj]
  have hsame : ∀ {w' : World}, (ioB w X).Below w' → RelI w0 I0 ((pruneL (notRoot r) s).set r .undef) a.tmps w' I (upd Fs r []) := by
    intro w' hbel; have hkeep : ∀ x, x < w.heap.size → x ∉ X → w'.heap[x]? = w.heap[x]? := fun x hx hn => hbel.block x (fun hN => hN.elim (fun h => by have h : w.heap.size ≤ x := h; omega) hn); refine hfg.same ⟨hbel.os, hbel.tape, hbel.output, hbel.size, fun k hk => hkeep k (Nat.lt_of_lt_of_le (Base.not hk) h.below.size) (fun hx => hk (h.own r k (hXr k hx)).1)⟩ (fun x hx => ?_); rcases hx with hx | ⟨r', hr⟩
    · exact hkeep x (h.imm x hx) (fun hX => (h.own r x (hXr x hX)).2.2 hx)
    · obtain ⟨hne, hr⟩ := hupd r' x hr; exact hkeep x (h.own r' x hr).2.1 (fun hX => hne (h.disj r' r x hr (hXr x hX)))
  have hA : ∀ y, y ∈ A → y ∈ Fs r ∧ y ∉ X := fun y hy => ⟨by rw [hFr]; simp [hy], fun hx => hn2.2.2 y hy y hx rfl⟩
  have hB : ∀ y, y ∈ B → y ∈ Fs r ∧ y ∉ X := fun y hy => ⟨by rw [hFr]; simp [hy], fun hx => hn1.2.2 y (by simp [hx]) y hy rfl⟩
  -- the end, whichever blocks stay
  have fin : ∀ (Ic : Nat → Prop), (∀ x, I x → Ic x) → (∀ x, Ic x → x < w.heap.size) → (∀ x, x ∈ X → ¬ Ic x) → Vals Ic w args' nil (args.map a.eval) [] → (∀ {v : Value} {w' : World} {F X' : List Nat} {I' : Nat → Prop}, (ioB w X).Below w' → T I' w' res nil v F → T I' w' d' nil (a.eval x) X' → (∀ x, Ic x → I' x) → (∀ x, I' x → (Ic x ∨ w.heap.size ≤ x ∨ x ∈ X) ∧ x < w'.heap.size) → (F ++ X').Nodup → (∀ x, x ∈ F ++ X' → (w.heap.size ≤ x ∨ x ∈ X) ∧ x < w'.heap.size ∧ ¬ I' x) →
        ∃ I2, (fr = true ∨ I2 = I) ∧ RelI w0 I0 ((pruneL (notRoot r) s).set r .undef) a.tmps w' I2 (upd Fs r []) ∧ T I2 w' res nil v F ∧ T I2 w' d' nil (a.eval x) X' ∧ (∀ y, y ∈ F ++ X' → ¬ I2 y) ∧ ∀ y, y ∈ A ∨ y ∈ B → ¬ I2 y) →
      Calls P f (args.map a.eval).toArray w fun e w' => ∃ v, e = .returned v ∧ OutOK false Fs I w w0 I0 a.tmps K v w' := by
    intro Ic hIc hIlt hIX hvals hend; refine (hC.2 w Ic (args.map a.eval) (a.eval x) X (hG.mono fun b hb => hIc b (h.imm0 b hb)) hIlt hvx (vals_setU i hvals) (T.mono hIc d0 hT0) hn2.2.1 (fun x hx => ⟨(h.own r x (hXr x hx)).2.1, hIX x hx⟩)).mono ?_; rintro e w' ⟨v, F, X', I', he, hbel, hTd1, hTx, hnd, hF, hI1, hI2⟩; obtain ⟨I2, hfr2, hR, hTd2, hTx2, hnI, hnAB⟩ := hend hbel hTd1 hTx hI1 hI2 hnd hF; have hkeep : ∀ x, x < w.heap.size → x ∉ X → w'.heap[x]? = w.heap[x]? := fun x hx hn => hbel.block x (fun hN => hN.elim (fun h => by have h : w.heap.size ≤ x := h; omega) hn); have hnd1 := List.nodup_append.1 hnd; have hnew := hreb I2 w' X' hfr2 (fun y hy => by
      rcases hy with hy | hy | hy
      · exact hkeep y (h.imm y hy) (fun hX => (h.own r y (hXr y hX)).2.2 hy)
      · exact hkeep y (h.own r y (hA y hy).1).2.1 (hA y hy).2
      · exact hkeep y (h.own r y (hB y hy).1).2.1 (hB y hy).2) hTx2
    have hX'A : ∀ y, y ∈ X' → y ∉ A ∧ y ∉ B := fun y hy => by
      have := (hF y (by simp [hy])).1; refine ⟨fun hz => ?_, fun hz => ?_⟩
      · rcases this with h1 | h1
        · have := (h.own r y (hA y hz).1).2.1; omega
        · exact (hA y hz).2 h1
      · rcases this with h1 | h1
        · have := (h.own r y (hB y hz).1).2.1; omega
        · exact (hB y hz).2 h1
    have hN : ∀ x, (w.heap.size ≤ x ∨ x ∈ X) → w0.N x := fun x hx => hx.elim (fun h1 => Base.N_of h.below h1) (fun h1 => (h.own r x (hXr x h1)).1); have hout : ∀ x, (w.heap.size ≤ x ∨ x ∈ Fs r) → ∀ r', x ∉ upd Fs r [] r' := fun x hx r' hr => by
      obtain ⟨hne, hr⟩ := hupd r' x hr; rcases hx with hx | hx
      · have := (h.own r' x hr).2.1; omega
      · exact hne (h.disj r' r x hr hx)
    have hall : ∀ y, y ∈ A ++ X' ++ B → (w0.N y ∧ y < w'.heap.size ∧ ¬ I2 y) ∧ (w.heap.size ≤ y ∨ y ∈ Fs r) := fun y hy => by
      rcases List.mem_append.1 hy with hy | hy
      · rcases List.mem_append.1 hy with hy | hy
        · have := h.own r y (hA y hy).1; exact ⟨⟨this.1, Nat.lt_of_lt_of_le this.2.1 hbel.size, hnAB y (.inl hy)⟩, .inr (hA y hy).1⟩
        · have := hF y (by simp [hy]); exact ⟨⟨hN y this.1, this.2.1, hnI y (by simp [hy])⟩, this.1.imp_right (hXr y)⟩
      · have := h.own r y (hB y hy).1; exact ⟨⟨this.1, Nat.lt_of_lt_of_le this.2.1 hbel.size, hnAB y (.inr hy)⟩, .inr (hB y hy).1⟩
    have hnodup : (A ++ X' ++ B).Nodup := by
      refine List.nodup_append.2 ⟨List.nodup_append.2 ⟨hn2.1, hnd1.2.1, fun y hy z hz e => ?_⟩, hn1.2.1, fun y hy z hz e => ?_⟩
      · subst e; exact (hX'A y hz).1 hy
      · subst e; rcases List.mem_append.1 hy with hy | hy
        · exact hn1.2.2 y (by simp [hy]) y hz rfl
        · exact (hX'A y hy).2 hz
    have hput := hR.put (t := r) (d0 := .undef) (d := dnew) (u := u0) (F := A ++ X' ++ B) (by simp [pruneL_len, hlt]) rfl (hnew.res (fun _ _ h => h.elim)) hnodup (fun y hy => ⟨(hall y hy).1.1, (hall y hy).1.2.1, (hall y hy).1.2.2, fun r' _ => hout y (hall y hy).2 r'⟩); rw [htmr, List.set_set] at hput; refine ⟨v, he, res, _, I2, _, F, hK, hput, hTd2.res (fun _ _ h => h.elim), ⟨hnd1.1, fun y hy => ⟨hN y (hF y (by simp [hy])).1, (hF y (by simp [hy])).2.1, hnI y (by simp [hy]), fun r' hr => ?_⟩⟩, fun h => by cases h⟩; by_cases hrr : r' = r
    · subst hrr; simp only [upd, if_true] at hr; rcases List.mem_append.1 hr with hr | hr
      · rcases List.mem_append.1 hr with hr | hr
        · rcases (hF y (by simp [hy])).1 with h1 | h1
          · have := (h.own r' y (hA y hr).1).2.1; omega
          · exact (hA y hr).2 h1
        · exact hnd1.2.2 y hy y hr rfl
      · rcases (hF y (by simp [hy])).1 with h1 | h1
        · have := (h.own r' y (hB y hr).1).2.1; omega
        · exact (hB y hr).2 h1
    · have : y ∈ upd Fs r [] r' := (by unfold upd at hr ⊢; rw [if_neg hrr] at hr ⊢; rw [if_neg hrr] at hr; exact hr); exact hout y ((hF y (by simp [hy])).1.imp_right (hXr y)) r' this
  rcases hcs with ⟨hfr, hni, hnd'⟩ | ⟨hfr, hnr⟩
  · refine fin (fun x => I x ∨ ∃ r', r' ≠ r ∧ x ∈ Fs r') (fun _ h => .inl h) (fun x hx => hx.elim (h.imm x) (fun ⟨r', _, hr⟩ => (h.own r' x hr).2.1)) (fun x hx hI => ?_) (Vals.le _ _ (lend_vals h r (fun _ h => .inl h) (argsOK_setU i (args_ok h args)) hoth (.inr fun r' hne b hb => .inr ⟨r', hne, hb⟩)) hle) ?_
    · rcases hI with hI | ⟨r', hne, hr⟩
      · exact (h.own r x (hXr x hx)).2.2 hI
      · exact hne (h.disj r' r x hr (hXr x hx))
    · intro v w' F X' I' hbel hTd hTx hI1 hI2 hnd hF; refine ⟨I, .inr rfl, hsame hbel, T.noImm res hTd hni, T.noImm d' hTx hnd', fun y hy hI => ?_, fun y hy => hy.elim (fun hy => (h.own r y (hA y hy).1).2.2) (fun hy => (h.own r y (hB y hy).1).2.2)⟩; rcases (hF y hy).1 with h1 | h1
      · have := h.imm y hI; omega
      · exact (h.own r y (hXr y h1)).2.2 hI
  · refine fin I (fun _ h => h) h.imm (fun x hx => (h.own r x (hXr x hx)).2.2) (Vals.le _ _ (lend_vals h r (fun _ h => h) (argsOK_setU i (args_ok h args)) hoth (.inl hnr)) hle) ?_; intro v w' F X' I' hbel hTd hTx hI1 hI2 hnd hF; refine ⟨I', .inl hfr, (hsame hbel).immMore hI1 (fun x hx => ?_), hTd, hTx, fun y hy => (hF y hy).2.2, fun y hy hI => ?_⟩
    · obtain ⟨k1, k2⟩ := hI2 x hx; rcases k1 with k1 | k1
      · exact .inl k1
      · refine .inr ⟨k1.elim (fun h1 => Base.N_of h.below h1) (fun h1 => (h.own r x (hXr x h1)).1), k2, fun r' hr => ?_⟩; obtain ⟨hne, hr⟩ := hupd r' x hr; rcases k1 with k1 | k1
        · have := (h.own r' x hr).2.1; omega
        · exact hne (h.disj r' r x hr (hXr x k1))
    · obtain ⟨hy1, hy2⟩ : y ∈ Fs r ∧ y ∉ X := hy.elim (hA y) (hB y); rcases (hI2 y hI).1 with k1 | k1 | k1
      · exact (h.own r y hy1).2.2 k1
      · have := (h.own r y hy1).2.1; omega
      · exact hy2 k1
theorem RelI.freeze (h : RelI w0 I0 s a.tmps w I Fs) (t : Nat) : ∃ I' Fs', RelI w0 I0 (frz t s) a.tmps w I' Fs' ∧ (∀ b, I b → I' b) := by
  unfold frz; cases hs : s[t]? with
  | none => exact ⟨I, Fs, h, fun _ h => h⟩
  | some d =>
    obtain ⟨u0, hu0, hT⟩ := h.slot0 hs; have hfg := h.forget t; have hlt := (List.getElem?_eq_some_iff.1 hs).1; have hT0 : T I w (d.prune (fun _ => false)) nil u0 (Fs t) := T.turn (fun x v hq _ => by cases hq) d hT; have hTi := T.imm (I' := fun b => I b ∨ b ∈ Fs t) (fun _ h => .inl h) _ hT0 (fun b hb => .inr hb); have hupd : ∀ r' x, x ∈ upd Fs t [] r' → r' ≠ t ∧ x ∈ Fs r' := fun r' x hx => by
      unfold upd at hx; split at hx
      · cases hx
      · rename_i hne; exact ⟨hne, hx⟩
    have hm := hfg.immMore (I' := fun b => I b ∨ b ∈ Fs t) (fun _ h => .inl h) (fun b hb => hb.imp_right fun hb => ⟨(h.own t b hb).1, (h.own t b hb).2.1, fun r' hr => by
      obtain ⟨hne, hr⟩ := hupd r' b hr; exact hne (h.disj r' t b hr hb)⟩)
    have hput := hm.put (t := t) (d0 := .undef) (d := (d.prune (fun _ => false)).imm) (u := u0) (F := []) (by simp [pruneL_len, hlt]) rfl (hTi.res (fun _ _ h => h.elim)) List.nodup_nil (fun b hb => by cases hb); have htm : a.tmps.setIfInBounds t u0 = a.tmps := by
      apply Array.ext_getElem?; intro j; by_cases hj : t = j
      · subst hj; rw [hu0, Array.getElem?_setIfInBounds_self_of_lt (Array.getElem?_eq_some_iff.1 hu0).1]
      · rw [Array.getElem?_setIfInBounds_ne hj]
    rw [htm, List.set_set] at hput; exact ⟨_, _, hput, fun _ h => .inl h⟩
theorem OutOK.mono0 {v : Value} {w' : World} {I2 : Nat → Prop} {Fs2 : Nat → List Nat} (h : OutOK false Fs2 I2 w w0 I0 a.tmps K v w') : OutOK false Fs I w w0 I0 a.tmps K v w' := by obtain ⟨d, s', I', Fs', F, h1, h2, h3, h4, _⟩ := h; exact ⟨d, s', I', Fs', F, h1, h2, h3, h4, fun h => by cases h⟩
theorem sim_callX {G : World → (Nat → Prop) → Prop} (hG : GI G w I0) (h : RelI w0 I0 s a.tmps w I Fs) {f : FuncId} {xs : Array Operand} {ts : Array TypeId} {o : Oper} (ho : o.op = .call { callee := .value (.func f), args := xs, argTypes := ts }) (hk : evalK (CT P G) s (.callX f xs.toList) K) : RunsTo P (execOp a.eval o) w (OutOK false Fs I w w0 I0 a.tmps K) := by
  have hlend : lendK (CT P G) f s xs.toList K → RunsTo P (execOp a.eval o) w (OutOK false Fs I w w0 I0 a.tmps K) := by
    intro hk; have hC : ∀ (us : Array Value) (W : World), (callFunc f us).run P W = .ok (.enter f us) W := by obtain ⟨_, _, _, _, _, _, _, _, _, _, _, _, _, hC, _⟩ := hk; exact hC.1
    have hm : Array.map a.eval xs = (List.map a.eval xs.toList).toArray := (by apply Array.ext'; simp); have hrun : (execOp a.eval o).run P w = .ok (.enter f (List.map a.eval xs.toList).toArray) w := (by simp only [execOp, ho, resolve, Sem.run_bind]; rw [show a.eval (.func f) = .func (.func f) #[] #[] from rfl, hm]; simp [Deferred.ofValue, invoke, hC]); unfold RunsTo; rw [hrun]; exact lend_T hG h hk
  have hio : ∀ {s2 : List D} {I2 : Nat → Prop} {Fs2 : Nat → List Nat}, RelI w0 I0 s2 a.tmps w I2 Fs2 → ioK (CT P G) f s2 (xs.toList.map fun x => raw s2 x) K → RunsTo P (execOp a.eval o) w (OutOK false Fs I w w0 I0 a.tmps K) := by
    intro s2 I2 Fs2 h hk; have hC : ∀ (us : Array Value) (W : World), (callFunc f us).run P W = .ok (.enter f us) W := by obtain ⟨_, _, _, _, _, _, _, _, _, _, _, _, hC, _⟩ := hk; exact hC.1
    have hm : Array.map a.eval xs = (List.map a.eval xs.toList).toArray := (by apply Array.ext'; simp); have hrun : (execOp a.eval o).run P w = .ok (.enter f (List.map a.eval xs.toList).toArray) w := (by simp only [execOp, ho, resolve, Sem.run_bind]; rw [show a.eval (.func f) = .func (.func f) #[] #[] from rfl, hm]; simp [Deferred.ofValue, invoke, hC]); unfold RunsTo; rw [hrun]; exact (io_T hG h (args_ok h xs.toList) hk).mono (fun e w' he => by obtain ⟨v, he, hv⟩ := he; exact ⟨v, he, hv.mono0⟩)
  rcases hk with hk | hk | hk | ⟨t, hk⟩
  · exact sim_callP hG h ho hk
  · exact hio h hk
  · exact hlend hk
  · obtain ⟨I2, Fs2, h2, _⟩ := h.freeze t; exact hio h2 hk
theorem sim_callvX {G : World → (Nat → Prop) → Prop} (hG : GI G w I0) (h : RelI w0 I0 s a.tmps w I Fs) {x : Operand} {xs : Array Operand} {ts : Array TypeId} {o : Oper} (ho : o.op = .call { callee := .value x, args := xs, argTypes := ts }) (hk : evalK (CT P G) s (.callvX x xs.toList) K) : RunsTo P (execOp a.eval o) w (OutOK false Fs I w w0 I0 a.tmps K) := by
  have hX := lk_T h x; simp only [evalK] at hk; split at hk
  · rename_i f first caps e
    rcases hk with hk | hk
    · refine sim_callv hG h ho ?_; simp only [evalK, e]; exact hk
    · rw [e] at hX; simp only [T] at hX; obtain ⟨us, vs, F1, F2, hu, hF, h1, h2⟩ := hX; simp at hF; obtain ⟨rfl, rfl⟩ := hF; have hC : ∀ (us : Array Value) (W : World), (callFunc f us).run P W = .ok (.enter f us) W := by obtain ⟨_, _, _, _, _, _, _, _, _, _, _, _, hC, _⟩ := hk; exact hC.1
      have hrun : (execOp a.eval o).run P w = .ok (.enter f (us ++ xs.toList.map a.eval ++ vs).toArray) w := (by have hm : Array.map a.eval xs = (List.map a.eval xs.toList).toArray := (by apply Array.ext'; simp); simp only [execOp, ho, resolve, Sem.run_bind, hu, hm]; simp [Deferred.ofValue, invoke, hC]); unfold RunsTo; rw [hrun]; exact io_T hG h (argsOK_app (argsOK_app (vals_ok h1) (args_ok h xs.toList)) (vals_ok h2)) hk
  · exact hk.elim
end
end Go.V
namespace Go.V
open Go.RowKit
section
variable {P : Program} {w0 : Base} {I0 : Nat → Prop} {s : List D} {a : Act} {w : World} {I : Nat → Prop} {Fs : Nat → List Nat} {K : D → List D → Prop} {Ctr : CtrT} {nn : Bool}
theorem slice_form (h : RelI w0 I0 s a.tmps w I Fs) {x : Operand} {sz : Nat} {rows : List (List D)} (hs : slAt s (lk s x) = some (sz, rows)) : ∃ ad c, a.eval x = .slice ad rows.length c ∧ (rows = [] ∨ ∃ b o raw F, ad = some ⟨b, o, none⟩ ∧ w.rangeAt b o raw ∧ Rows I w sz rows raw F) := by
  have hT := lk_T h x; have own : ∀ {own : Bool} {sz' : Nat} {rows' : List (List D)} {ρ u F}, T I w (.sl own sz' rows') ρ u F → ∃ ad c, u = .slice ad rows'.length c ∧ (rows' = [] ∨ ∃ b o raw F, ad = some ⟨b, o, none⟩ ∧ w.rangeAt b o raw ∧ Rows I w sz' rows' raw F) := by
    intro own sz' rows' ρ u F hT; simp only [T] at hT; obtain ⟨ad, c, e, h1, h2, h3⟩ := hT; refine ⟨ad, c, e, ?_⟩; rcases h3 with ⟨_, _, h3⟩ | ⟨_, h3⟩
    · rcases h3 with h3 | ⟨b, o, raw, h4, _, h5, h6⟩
      · exact .inl h3
      · exact .inr ⟨b, o, raw, _, h4, h5, h6⟩
    · rcases h3 with ⟨_, h4, _⟩ | ⟨b, o, cells, et, raw, F', h4, _, _, h5, _, h6⟩
      · exact .inl (List.eq_nil_of_length_eq_zero (by omega))
      · exact .inr ⟨b, o, raw, _, h4, h5, h6⟩
  cases hl : lk s x with
  | sl own' z r => rw [hl] at hT hs; simp only [slAt, Option.some.injEq, Prod.mk.injEq] at hs; obtain ⟨rfl, rfl⟩ := hs; exact own hT
  | nils => rw [hl] at hT hs; simp only [slAt, Option.some.injEq, Prod.mk.injEq] at hs; obtain ⟨rfl, rfl⟩ := hs; simp only [T] at hT; exact ⟨none, 0, hT.1, .inl rfl⟩
  | ref r q => rw [hl] at hT hs; obtain ⟨F', ρ', k2, _⟩ := ref_form h hT hs; exact own k2
  | sub r q i n =>
    rw [hl] at hT hs; obtain ⟨ad, c, raw, F', e, _, _, _, h4, _, h5⟩ := sub_form h hT hs; refine ⟨ad, c, e, ?_⟩; rcases h5 with h5 | ⟨b, o, h5, _, h6⟩
    · exact .inl h5
    · exact .inr ⟨b, o, raw, F', h5, h6, h4⟩
  | _ => rw [hl] at hs; simp [slAt] at hs
theorem sim_b2s (h : RelI w0 I0 s a.tmps w I Fs) {x : Operand} {src dst e : TypeId} {o : Oper} (ho : o.op = .convert src dst x) (hs : P.underlying src = some (.slice e)) (he : P.underlying e = some (.int .u8)) (hd : P.underlying dst = some .string) (hk : evalK Ctr s (.b2s x) K) : RunsTo P (execOp a.eval o) w (OutOK nn Fs I w w0 I0 a.tmps K) := by
  simp only [evalK, b2sK] at hk; split at hk
  · rename_i sz rows hsl; obtain ⟨xs, rfl, hk⟩ := hk; obtain ⟨ad, c, e1, h1⟩ := slice_form h hsl; refine .value (v := .string (strI xs)) ?_ (.plain h hk T_vI); have hlen : (xs.map rowB).length = xs.length := by simp
    rw [hlen] at e1; simp only [execOp, ho, e1, Sem.run_bind]; have key : (convert src dst (.slice ad xs.length c)).run P w = .ok (.string (strI xs)) w := by
      rcases h1 with h1 | ⟨b, oo, raw, F, rfl, hr, hR⟩
      · have : xs = [] := by cases xs with
          | nil => rfl
          | cons y ys => simp at h1
        subst this; cases ad with
        | none => exact run_convert_bytes_nil w src e hs he _ _ dst hd
        | some y => exact run_convert_bytes_back w src dst e y c [] hs he hd (fun j hj => absurd hj (by simp))
      · refine run_convert_bytes_arg w src e hs he b oo _ c xs rfl (fun i hi => ?_) dst hd; have hrow : ((xs.map rowB))[i]? = some (rowB xs[i]) := by simp [hi]
        obtain ⟨us, F', k1, _, k3, k4⟩ := Rows.at i hR hrow; simp only [rowB, Cells] at k1; obtain ⟨u, us', F1, F2, rfl, _, _, hT, rfl, _⟩ := k1; obtain rfl := (T_v hT).1; simp only [List.length_singleton] at k3; subst k3; have := k4 0 _ rfl; rw [Nat.mul_one, Nat.add_zero] at this; rw [hr i _ this, List.getD_eq_getElem?_getD, List.getElem?_eq_getElem hi]; rfl
    rw [key]; rfl
  · exact hk.elim
theorem sim_isnil (h : RelI w0 I0 s a.tmps w I Fs) {op : BinOp} {neg : Bool} {x : Operand} {xt yt e : TypeId} {o : Oper} (ho : o.op = .binOp op xt x (.const (.slice none 0 0)) yt) (hop : (op = .eql ∧ neg = false) ∨ (op = .neq ∧ neg = true)) (hu : P.underlying xt = some (.slice e)) (hk : evalK Ctr s (.isnil neg x) K) : RunsTo P (execOp a.eval o) w (OutOK nn Fs I w w0 I0 a.tmps K) := by
  have hcst : a.eval (.const (.slice none 0 0)) = .slice none 0 0 := rfl; have run : ∀ (ad : Option Addr) (n c : Nat), a.eval x = .slice ad n c → (execOp a.eval o).run P w = .ok (.value (.bool (if neg then !ad.isNone else ad.isNone))) w := by
    intro ad n c e1; have heq : (Op.equal xt (.slice ad n c) (.slice none 0 0)).run P w = .ok ad.isNone w := by
      have key : ∀ m, (Op.equalIn (m + 1) xt (.slice ad n c) (.slice none 0 0)).run P w = .ok ad.isNone w := fun m => by cases ad <;> simp [Op.equalIn, run_underlying hu]
      exact key 9999
    rcases hop with ⟨rfl, rfl⟩ | ⟨rfl, rfl⟩
    · have hg : (eqGuard .eql xt x (.const (.slice none 0 0)) (.slice ad n c) (.slice none 0 0)).run P w = .ok () w := (by unfold eqGuard; rfl); simp only [execOp, ho, e1, hcst, Sem.run_bind, hg, Result.andThen_ok, binOp, heq]; rfl
    · have hg : (eqGuard .neq xt x (.const (.slice none 0 0)) (.slice ad n c) (.slice none 0 0)).run P w = .ok () w := (by unfold eqGuard; rfl); simp only [execOp, ho, e1, hcst, Sem.run_bind, hg, Result.andThen_ok, binOp, heq]; rfl
  simp only [evalK] at hk; have hT := lk_T h x; unfold isnilK at hk; split at hk
  · rename_i e1; rw [e1] at hT; simp only [T] at hT; refine .value (run none 0 0 hT.1) (.plain h ?_ T_vI); cases neg <;> exact hk
  · rename_i sz rows hsl _; obtain ⟨ad, c, e1, h1⟩ := slice_form h hsl; refine .value (run ad _ c e1) (.plain h ?_ T_vI); rcases h1 with h1 | ⟨b, oo, raw, F, rfl, _⟩
    · obtain ⟨k1, k2⟩ := hk.2 h1; cases (if neg = true then !ad.isNone else ad.isNone)
      · exact k2
      · exact k1
    · by_cases hr : rows = []
      · obtain ⟨k1, k2⟩ := hk.2 hr; cases neg
        · exact k2
        · exact k1
      · have := hk.1 hr; cases neg <;> exact this
  · exact hk.elim
end
end Go.V
namespace Go.V
open Go.RowKit
section
variable (P : Program)
def okZero (z : Value) : Bool := z.cells.toList.all (·.oneCell')
def cOp (n : Bool) : Op → Option VOp
  | .move x => some (.mv x)
  | .assign x => some (.asg x)
  | .pick c a b => some (.pick c a b)
  | .nilCheck x => some (.nilc x)
  | .binOp op xt x y _ => match P.underlying xt with
    | some .bool => match op with
      | .eql => some (.binB false x y)
      | .neq => some (.binB true x y)
      | _ => none
    | some (.int _) => some (.bin op x y)
    | some .string => some (.bin op x y)
    | some (.struct fs) => match flatEq1 P fs.toList 0 with
      | some ks => if P.stoodInHeld xt = false ∧ P.eqGuardType P.depth xt = false then match op with
          | .eql => some (.eqs false ks x y)
          | .neq => some (.eqs true ks x y)
          | _ => none
        else none
      | none => none
    | some (.slice _) => match y with
      | .const (.slice none 0 0) => match op with
        | .eql => some (.isnil false x)
        | .neq => some (.isnil true x)
        | _ => none
      | _ => none
    | _ => none
  | .unOp op _ x => some (.un op x)
  | .convert src dst x => match P.underlying src, P.underlying dst with
    | some _, some (.int k) => some (.conv k x)
    | some (.slice e), some .string => match P.underlying e with
      | some (.int .u8) => some (.b2s x)
      | _ => none
    | _, _ => none
  | .alloc t => match P.info? t with
    | some i => match i.zero with
      | some z => if okZero z then some (.alloc z.cells.toList) else none
      | none => none
    | none => none
  | .box _ x => some (.box x)
  | .build t ps => match P.info? t, P.underlying t with
    | some it, some (.struct fs) => match it.zero, fs.toList.mapM (fun f => (P.info? f.type).map fun i => (f.offset, i.size)) with
      | some z, some places => if okZero z then (ps.toList.mapM fun p => (places[p.1]?).map fun q => (q.1, q.2, p.2)).map fun l => .build z.cells.toList l else none
      | _, _ => none
    | some it, some (.array _ e) => match it.zero, P.info? e with
      | some z, some ie => if okZero z then some (.build z.cells.toList (ps.toList.map fun p => (p.1 * ie.size, ie.size, p.2))) else none
      | _, _ => none
    | _, _ => none
  | .buildSlice t m ps => match P.underlying t with
    | some (.slice e) => match P.info? e with
      | some ie => if ie.zero.isSome ∧ 0 < ie.size ∧ m * ie.size ≤ 2 ^ 24 ∧ ps.toList.map (·.1) = List.range m then some (if n then .bslN ie.size (ps.toList.map (·.2)) else .bsl ie.size (ps.toList.map (·.2))) else none
      | none => none
    | _ => none
  | .load t a => match P.underlying t, P.info? t with
    | some d, some i => if d.isRow then some (.load i.size true a) else if i.size = 1 then some (.load 1 false a) else none
    | _, _ => none
  | .store t a x => match P.info? t with
    | some i => some (.store i.size a x)
    | none => none
  | .fieldAddr st x f => match P.underlying st with
    | some (.struct fs) => match fs[f]? with
      | some fd => match P.info? fd.type with
        | some i => if 0 < i.size then some (.fa fd.offset x) else none
        | none => none
      | none => none
    | _ => none
  | .field st x f => match P.underlying st with
    | some (.struct fs) => match fs[f]? with
      | some fd => match P.info? fd.type, P.underlying fd.type with
        | some i, some d => if d.isRow then some (.fld fd.offset i.size true x) else if i.size = 1 then some (.fld fd.offset 1 false x) else none
        | _, _ => none
      | none => none
    | _ => none
  | .indexAddr t x i => match P.underlying t with
    | some (.slice e) => match P.info? e with
      | some ie => some (.ia ie.size x i)
      | none => none
    | some (.array m e) => match P.info? e with
      | some ie => some (.iaa m ie.size x i)
      | none => none
    | _ => none
  | .index t x i => match P.underlying t with
    | some .string => some (.ixs x i)
    | some (.array m e) => match P.info? e, P.underlying e with
      | some ie, some d => if d.isRow then some (.ixa m ie.size true x i) else if ie.size = 1 then some (.ixa m 1 false x i) else none
      | _, _ => none
    | _ => none
  | .slice t x lo hi mx => match P.underlying t with
    | some .string => if mx.isNone then some (.slcS x lo hi) else none
    | some (.slice e) => match P.info? e with
      | some ie => if mx.isSome = true → hi.isSome = true then some (.slc ie.size x lo hi mx) else none
      | none => none
    | _ => none
  | .extract x i => some (if n then .extN x i else .ext x i)
  | .makeFunc fn first caps => match fn with
    | .func f => some (.mkf f first.toList caps.toList)
    | _ => none
  | .makeSlice t l c => match P.underlying t with
    | some (.slice e) => match P.info? e with
      | some ie => match ie.zero with
        | some z => if okZero z ∧ z.cells.size = ie.size then some (.mks ie.size ie.bytes z.cells.toList l c) else none
        | none => none
      | none => none
    | _ => none
  | .makeMap t none => match P.underlying t with
    | some (.map kt _) => (kkOf P kt).map .mkm
    | _ => none
  | .mapUpdate t m i x => match P.underlying t with
    | some (.map kt _) => (kkOf P kt).map fun k => .mupd k m i x
    | _ => none
  | .insert t m i x => match P.underlying t with
    | some (.map kt _) => (kkOf P kt).map fun k => .mupd k m i x
    | _ => none
  | .lookup t m i ok => match P.underlying t with
    | some (.map kt et) => match kkOf P kt, P.info? et with
      | some k, some ie => ie.zero.map fun z => .mlk k z ok m i
      | _, _ => none
    | _ => none
  | .call c => match c.callee with
    | .value (.func f) => some (if n then .call f c.args.toList else .callX f c.args.toList)
    | .value x => some (if n then .callv x c.args.toList else .callvX x c.args.toList)
    | .builtin .len => match c.args.toList, c.argTypes[0]? with
      | [x], some t => match P.underlying t with
        | some .string => some (.lenS x)
        | some (.slice _) => some (.len x)
        | some (.map _ _) => some (.mlen x)
        | _ => none
      | _, _ => none
    | .builtin .delete => match c.args.toList, c.argTypes[0]? with
      | [m, i], some t => match P.underlying t with
        | some (.map kt _) => (kkOf P kt).map fun k => .mdel k m i
        | _ => none
      | _, _ => none
    | .builtin .min => match c.args.toList with
      | [x, y] => some (.mm false [x, y])
      | _ => none
    | .builtin .max => match c.args.toList with
      | [x, y] => some (.mm true [x, y])
      | _ => none
    | .builtin .append => match c.args.toList, c.argTypes.toList with
      | [x, y], [t, tx] => match P.underlying t, P.underlying tx with
        | some (.slice e), some (.slice _) => match P.info? e with
          | some ie => match ie.zero with
            | some z => if z.cells.size = ie.size then some (if n then .appN ie.size ie.bytes x y else .app ie.size ie.bytes x y) else none
            | none => none
          | none => none
        | _, _ => none
      | _, _ => none
    | _ => none
  | _ => none
end
section
variable {P : Program} {w0 : Base} {I0 : Nat → Prop} {s : List D} {a : Act} {w : World} {I : Nat → Prop} {Fs : Nat → List Nat} {K : D → List D → Prop} {nn : Bool}
theorem arr1 {α : Type} {xs : Array α} {x : α} (h : xs.toList = [x]) : xs = #[x] := by apply Array.ext'; simpa using h
theorem arr2 {α : Type} {xs : Array α} {x y : α} (h : xs.toList = [x, y]) : xs = #[x, y] := by apply Array.ext'; simpa using h
theorem zip_of_range {α : Type} : ∀ (l : List (Nat × α)) (k : Nat), l.map (·.1) = List.range' k l.length → l = ((l.map (·.2)).zipIdx k).map fun x => (x.2, x.1)
  | [], k, _ => rfl
  | (i, x) :: l, k, h => by simp only [List.map_cons, List.length_cons, List.range'_succ, List.cons.injEq] at h; obtain ⟨rfl, h⟩ := h; simp only [List.map_cons, List.zipIdx_cons, List.cons.injEq, true_and]; exact zip_of_range l (i + 1) h
theorem mapM_parts {places : List (Nat × Nat)} : ∀ (l : List (Nat × Operand)) (parts : List (Nat × Nat × Operand)), (l.mapM fun p => (places[p.1]?).map fun q => (q.1, q.2, p.2)) = some parts → l.map (fun p => (places[p.1]?, p.2)) = parts.map fun p => (some (p.1, p.2.1), p.2.2)
  | [], parts, h => by simp at h; subst h; rfl
  | p :: l, parts, h => by
    simp only [List.mapM_cons, Option.bind_eq_bind, Option.pure_def] at h; cases hp : places[p.1]? with
    | none => simp [hp] at h
    | some q =>
      cases hr : l.mapM (fun p => (places[p.1]?).map fun q => (q.1, q.2, p.2)) with
      | none => simp [hp, hr] at h
      | some rest => simp [hp, hr] at h; subst h; simp [hp, mapM_parts l rest hr]
def VOp.framed : VOp → Bool
  | .store _ _ _ => false
  | .app _ _ _ _ => false
  | .bsl _ _ => false
  | .ext _ _ => false
  | .isnil _ _ => false
  | .mupd _ _ _ _ => false
  | .mdel _ _ _ => false
  | .callX _ _ => false
  | .callvX _ _ => false
  | _ => true
theorem sim_op {G : World → (Nat → Prop) → Prop} (hG : GI G w I0) (h : RelI w0 I0 s a.tmps w I Fs) {o : Oper} {v : VOp} {nv : Bool} (hnn : nn = true → v.framed = true) (hc : cOp P nv o.op = some v) (hk : evalK (CT P G) s v K) : RunsTo P (execOp a.eval o) w (OutOK nn Fs I w w0 I0 a.tmps K) := by
  cases hop : o.op with
  | move x => rw [hop] at hc; simp only [cOp, Option.some.injEq] at hc; subst hc; have := sim_mv (nn := nn) (P := P) h hk; simpa only [execOp, hop] using this
  | assign x => rw [hop] at hc; simp only [cOp, Option.some.injEq] at hc; subst hc; have := sim_asg (nn := nn) (P := P) h hk; simpa only [execOp, hop] using this
  | pick c x y => rw [hop] at hc; simp only [cOp, Option.some.injEq] at hc; subst hc; exact sim_pick h hop hk
  | nilCheck x => rw [hop] at hc; simp only [cOp, Option.some.injEq] at hc; subst hc; exact sim_nilc h hop hk
  | unOp op t x => rw [hop] at hc; simp only [cOp, Option.some.injEq] at hc; subst hc; exact sim_un h hop hk
  | box t x => rw [hop] at hc; simp only [cOp, Option.some.injEq] at hc; subst hc; exact sim_box h hop hk
  | extract x i =>
    rw [hop] at hc; simp only [cOp, Option.some.injEq] at hc; subst hc; cases nv with
    | true => exact sim_extN h hop hk
    | false =>
      have hnf : nn = false := by cases nn with | false => rfl | true => exact absurd (hnn rfl) (by simp [VOp.framed])
      subst hnf; exact sim_ext h hop hk
  | binOp op xt x y yt =>
    rw [hop] at hc; simp only [cOp] at hc; split at hc
    · rename_i hu; cases op <;> simp only [Option.some.injEq, reduceCtorEq] at hc
      · subst hc; exact sim_binB h hop (.inl ⟨rfl, rfl⟩) hu hk
      · subst hc; exact sim_binB h hop (.inr ⟨rfl, rfl⟩) hu hk
    · simp only [Option.some.injEq] at hc; subst hc; exact sim_bin h hop hk
    · simp only [Option.some.injEq] at hc; subst hc; exact sim_bin h hop hk
    · rename_i fs hu; split at hc
      · rename_i ks hks; split at hc
        · rename_i hcond; cases op <;> simp only [Option.some.injEq, reduceCtorEq] at hc
          · subst hc; exact sim_eqs h hop (.inl ⟨rfl, rfl⟩) hu hcond.1 hcond.2 hks hk
          · subst hc; exact sim_eqs h hop (.inr ⟨rfl, rfl⟩) hu hcond.1 hcond.2 hks hk
        · cases hc
      · cases hc
    · rename_i e hu; split at hc
      · cases op <;> simp only [Option.some.injEq, reduceCtorEq] at hc
        · subst hc; have hnf : nn = false := by cases nn with | false => rfl | true => exact absurd (hnn rfl) (by simp [VOp.framed])
          subst hnf; exact sim_isnil h hop (.inl ⟨rfl, rfl⟩) hu hk
        · subst hc; have hnf : nn = false := by cases nn with | false => rfl | true => exact absurd (hnn rfl) (by simp [VOp.framed])
          subst hnf; exact sim_isnil h hop (.inr ⟨rfl, rfl⟩) hu hk
      · cases hc
    · cases hc
  | convert src dst x =>
    rw [hop] at hc; simp only [cOp] at hc; split at hc
    · rename_i hs hd; simp only [Option.some.injEq] at hc; subst hc; exact sim_conv h hop hs hd hk
    · rename_i e hs hd; split at hc
      · rename_i he; simp only [Option.some.injEq] at hc; subst hc; exact sim_b2s h hop hs he hd hk
      · cases hc
    · cases hc
  | alloc t =>
    rw [hop] at hc; simp only [cOp] at hc; split at hc
    · rename_i i hi; split at hc
      · rename_i z hz; split at hc
        · rename_i ho; simp only [Option.some.injEq] at hc; subst hc; exact sim_alloc h hop hi hz rfl ho hk
        · cases hc
      · cases hc
    · cases hc
  | build t ps =>
    rw [hop] at hc; simp only [cOp] at hc; split at hc
    · rename_i it fs hi hu; split at hc
      · rename_i z places hz hp; split at hc
        · rename_i ho; simp only [Option.map_eq_some_iff] at hc; obtain ⟨l, hl, rfl⟩ := hc; exact sim_build h hop hi hu hz rfl ho hp (mapM_parts _ _ hl) hk
        · cases hc
      · cases hc
    · rename_i it len e hi hu; split at hc
      · rename_i z ie hz hie; split at hc
        · rename_i ho; simp only [Option.some.injEq] at hc; subst hc; exact sim_buildA h hop hi hu hie hz rfl ho (by simp [List.map_map, Function.comp_def]) hk
        · cases hc
      · cases hc
    · cases hc
  | buildSlice t n ps =>
    rw [hop] at hc; simp only [cOp] at hc; split at hc
    · rename_i e hu; split at hc
      · rename_i ie hi; split at hc
        · rename_i hcond; simp only [Option.some.injEq] at hc; subst hc; obtain ⟨hz, hpos, hsm, hr⟩ := hcond; obtain ⟨z, hz⟩ := Option.isSome_iff_exists.1 hz; have hlen : (ps.toList.map (·.2)).length = n := by have := congrArg List.length hr; simpa using this
          have hn : ps.toList.length = n := (by simpa using hlen); cases nv with
          | true => refine sim_bslN h (xs := ps.toList.map (·.2)) (by rw [hlen]; exact hop) ?_ hu hi hz rfl hpos (by rw [hlen]; exact hsm) hk; exact zip_of_range ps.toList 0 (by rw [hr, hn, List.range_eq_range'])
          | false =>
            have hnf : nn = false := by cases nn with | false => rfl | true => exact absurd (hnn rfl) (by simp [VOp.framed])
            subst hnf; refine sim_bsl h (xs := ps.toList.map (·.2)) (by rw [hlen]; exact hop) ?_ hu hi hz rfl hpos (by rw [hlen]; exact hsm) hk; exact zip_of_range ps.toList 0 (by rw [hr, hn, List.range_eq_range'])
        · cases hc
      · cases hc
    · cases hc
  | load t x =>
    rw [hop] at hc; simp only [cOp] at hc; split at hc
    · rename_i d i hu hi; split at hc
      · rename_i hd; simp only [Option.some.injEq] at hc; subst hc; exact sim_load h hop hu hd (by rw [hi]; rfl) (fun h => by cases h) hk
      · rename_i hd; split at hc
        · rename_i h1; simp only [Option.some.injEq] at hc; subst hc; exact sim_load h hop hu (by simpa using hd) (by rw [hi]; simp [h1]) (fun _ => rfl) hk
        · cases hc
    · cases hc
  | store t x y =>
    rw [hop] at hc; simp only [cOp] at hc; split at hc
    · rename_i i hi; simp only [Option.some.injEq] at hc; subst hc; have hnf : nn = false := by cases nn with | false => rfl | true => exact absurd (hnn rfl) (by simp [VOp.framed])
      subst hnf; exact sim_store h hop (by rw [hi]; rfl) hk
    · cases hc
  | fieldAddr st x f =>
    rw [hop] at hc; simp only [cOp] at hc; split at hc
    · rename_i fs hu; split at hc
      · rename_i fd hf; split at hc
        · rename_i i hi; split at hc
          · rename_i hpos; simp only [Option.some.injEq] at hc; subst hc; exact sim_fa (n := i.size - 1) h hop hu hf rfl (by rw [hi]; simp; omega) hk
          · cases hc
        · cases hc
      · cases hc
    · cases hc
  | field st x f =>
    rw [hop] at hc; simp only [cOp] at hc; split at hc
    · rename_i fs hu; split at hc
      · rename_i fd hf; split at hc
        · rename_i i d hi hud; split at hc
          · rename_i hd; simp only [Option.some.injEq] at hc; subst hc; exact sim_fld h hop hu hf rfl hud hd (by rw [hi]; rfl) (fun h => by cases h) hk
          · rename_i hd; split at hc
            · rename_i h1; simp only [Option.some.injEq] at hc; subst hc; exact sim_fld h hop hu hf rfl hud (by simpa using hd) (by rw [hi]; simp [h1]) (fun _ => rfl) hk
            · cases hc
        · cases hc
      · cases hc
    · cases hc
  | indexAddr t x i =>
    rw [hop] at hc; simp only [cOp] at hc; split at hc
    · rename_i e hu; split at hc
      · rename_i ie hi; simp only [Option.some.injEq] at hc; subst hc; exact sim_ia h hop hu (by rw [hi]; rfl) hk
      · cases hc
    · rename_i n e hu; split at hc
      · rename_i ie hi; simp only [Option.some.injEq] at hc; subst hc; exact sim_iaa h hop hu (by rw [hi]; rfl) hk
      · cases hc
    · cases hc
  | index t x i =>
    rw [hop] at hc; simp only [cOp] at hc; split at hc
    · rename_i hu; simp only [Option.some.injEq] at hc; subst hc; exact sim_ixs h hop hu hk
    · rename_i n e hu; split at hc
      · rename_i ie d hi hud; split at hc
        · rename_i hd; simp only [Option.some.injEq] at hc; subst hc; exact sim_ixa h hop hu hud hd (by rw [hi]; rfl) (fun h => by cases h) hk
        · rename_i hd; split at hc
          · rename_i h1; simp only [Option.some.injEq] at hc; subst hc; exact sim_ixa h hop hu hud (by simpa using hd) (by rw [hi]; simp [h1]) (fun _ => rfl) hk
          · cases hc
      · cases hc
    · cases hc
  | slice t x lo hi mx =>
    rw [hop] at hc; simp only [cOp] at hc; split at hc
    · rename_i hu; split at hc
      · rename_i hm; simp only [Option.some.injEq] at hc; subst hc; have : mx = none := by cases mx <;> simp at hm; rfl
        subst this; exact sim_slcS h hop hu hk
      · cases hc
    · rename_i e hu; split at hc
      · rename_i ie hi'; split at hc
        · rename_i hm; simp only [Option.some.injEq] at hc; subst hc; exact sim_slc h hop hu (by rw [hi']; rfl) hm hk
        · cases hc
      · cases hc
    · cases hc
  | makeFunc fn first caps =>
    rw [hop] at hc; simp only [cOp] at hc; split at hc
    · simp only [Option.some.injEq] at hc; subst hc; exact sim_mkf h hop hk
    · cases hc
  | makeMap t r =>
    rw [hop] at hc; cases r with
    | some r => simp [cOp] at hc
    | none =>
      simp only [cOp] at hc; split at hc
      · simp only [Option.map_eq_some_iff] at hc; obtain ⟨k, hkk, rfl⟩ := hc; exact sim_mkm h hop hk
      · cases hc
  | mapUpdate t m i x =>
    rw [hop] at hc; simp only [cOp] at hc; split at hc
    · rename_i kt et hu; simp only [Option.map_eq_some_iff] at hc; obtain ⟨k, hkk, rfl⟩ := hc; have hnf : nn = false := by cases nn with | false => rfl | true => exact absurd (hnn rfl) (by simp [VOp.framed])
      subst hnf; exact sim_mupd h (.inl hop) hu hkk hk
    · cases hc
  | insert t m i x =>
    rw [hop] at hc; simp only [cOp] at hc; split at hc
    · rename_i kt et hu; simp only [Option.map_eq_some_iff] at hc; obtain ⟨k, hkk, rfl⟩ := hc; have hnf : nn = false := by cases nn with | false => rfl | true => exact absurd (hnn rfl) (by simp [VOp.framed])
      subst hnf; exact sim_mupd h (.inr hop) hu hkk hk
    · cases hc
  | lookup t m i ok =>
    rw [hop] at hc; simp only [cOp] at hc; split at hc
    · rename_i kt et hu; split at hc
      · rename_i k ie hkk hie; simp only [Option.map_eq_some_iff] at hc; obtain ⟨z, hz, rfl⟩ := hc; exact sim_mlk h hop hu hkk hie hz hk
      · cases hc
    · cases hc
  | makeSlice t l c =>
    rw [hop] at hc; simp only [cOp] at hc; split at hc
    · rename_i e hu; split at hc
      · rename_i ie hi; split at hc
        · rename_i z hz; split at hc
          · rename_i hcond; simp only [Option.some.injEq] at hc; subst hc; exact sim_mks h hop hu hi hz rfl rfl rfl (by simp [hcond.2]) hcond.1 hk
          · cases hc
        · cases hc
      · cases hc
    · cases hc
  | call c =>
    rw [hop] at hc; simp only [cOp] at hc; obtain ⟨cal, args, ts⟩ := c; simp only at hc; split at hc
    · simp only [Option.some.injEq] at hc; subst hc; cases nv with
      | true => exact sim_call hG h hop hk
      | false =>
        have hnf : nn = false := by cases nn with | false => rfl | true => exact absurd (hnn rfl) (by simp [VOp.framed])
        subst hnf; exact sim_callX hG h hop hk
    · simp only [Option.some.injEq] at hc; subst hc; cases nv with
      | true => exact sim_callv hG h hop hk
      | false =>
        have hnf : nn = false := by cases nn with | false => rfl | true => exact absurd (hnn rfl) (by simp [VOp.framed])
        subst hnf; exact sim_callvX hG h hop hk
    · split at hc
      · rename_i x t ha ht; split at hc
        · rename_i hu; simp only [Option.some.injEq] at hc; subst hc; rw [arr1 ha] at hop; exact sim_lenS h hop ht hu hk
        · rename_i e hu; simp only [Option.some.injEq] at hc; subst hc; rw [arr1 ha] at hop; exact sim_len h hop ht hu hk
        · rename_i kt et hu; simp only [Option.some.injEq] at hc; subst hc; rw [arr1 ha] at hop; exact sim_mlen h hop ht hu hk
        · cases hc
      · cases hc
    · split at hc
      · rename_i m i t ha ht; split at hc
        · rename_i kt et hu; simp only [Option.map_eq_some_iff] at hc; obtain ⟨k, hkk, rfl⟩ := hc; have hnf : nn = false := by cases nn with | false => rfl | true => exact absurd (hnn rfl) (by simp [VOp.framed])
          subst hnf; rw [arr2 ha] at hop; exact sim_mdel h hop ht hu hkk hk
        · cases hc
      · cases hc
    · split at hc
      · rename_i x y ha; simp only [Option.some.injEq] at hc; subst hc; rw [arr2 ha] at hop; exact sim_mm (mx := false) h hop hk
      · cases hc
    · split at hc
      · rename_i x y ha; simp only [Option.some.injEq] at hc; subst hc; rw [arr2 ha] at hop; exact sim_mm (mx := true) h hop hk
      · cases hc
    · split at hc
      · rename_i x y t tx ha hts; split at hc
        · rename_i e e2 hu hux; split at hc
          · rename_i ie hi; split at hc
            · rename_i z hz; split at hc
              · rename_i hsz; simp only [Option.some.injEq] at hc; subst hc; rw [arr2 ha, arr2 hts] at hop; cases nv with
                | true => exact sim_appN h hop hu hux hi hz rfl hsz rfl hk
                | false =>
                  have hnf : nn = false := by cases nn with | false => rfl | true => exact absurd (hnn rfl) (by simp [VOp.framed])
                  subst hnf; exact sim_app h hop hu hux hi hz rfl hsz rfl hk
              · cases hc
            · cases hc
          · cases hc
        · cases hc
      · cases hc
    · cases hc
  | _ => rw [hop] at hc; simp [cOp] at hc
end
end Go.V
namespace Go.V
open Go.RowKit
section
variable (P : Program)
def cGuard (ops : Array Oper) : Option (Nat × Bool) → Option (Option (Nat × Bool))
  | none => some none
  | some (j, want) => match (ops[j]?).bind (·.dst) with
    | some t => some (some (t, want))
    | none => none
def cVO (n : Bool) (ops : Array Oper) (o : Oper) : Option VO :=
  match cGuard ops o.guard, cOp P n o.op with
  | some g, some v => some ⟨o.dst, g, v⟩
  | _, _ => none
def cVOs (ops : Array Oper) : List Oper → Option (List VO)
  | [] => some []
  | o :: os => match cVO P false ops o, cVOs ops os with
    | some v, some vs => some (v :: vs)
    | _, _ => none
end
def VExit.to : VExit → Exit
  | .normal => .normal
  | .exit id => .exit id
  | .ret => .ret
section
variable {P : Program} {G : World → (Nat → Prop) → Prop} {w0 : Base} {I0 : Nat → Prop}
def Rel (w0 : Base) (I0 : Nat → Prop) (s : List D) (a : Act) (w : World) : Prop := a.defers = [] ∧ ∃ I Fs, RelI w0 I0 s a.tmps w I Fs
theorem wp_of_runs {o : Oper} {a : Act} {w : World} {R : Value → World → Prop} {next : Act → World → Prop} {Q : Exit → Act → World → Prop} (h : RunsTo P (execOp a.eval o) w R) (hn : ∀ v w', R v w' → next (a.put o.dst v) w') : o.wp P a w next Q := by
  unfold Oper.wp; unfold RunsTo at h; cases hr : (execOp a.eval o).run P w with
  | halt x w' => rw [hr] at h; exact h.elim
  | ok n w' =>
    rw [hr] at h; cases n with
    | value v => exact hn _ _ h
    | skip => exact hn _ _ h
    | enter f args => simp only [Oper.upon]; refine Calls.mono h ?_; rintro e w'' ⟨v, rfl, hR⟩; exact hn _ _ hR
    | _ => exact h.elim
theorem put_rel {a : Act} {w : World} {s : List D} {dst : Option Nat} {d : D} {v : Value} {I : Nat → Prop} {Fs : Nat → List Nat} {F : List Nat} (hd : a.defers = []) (h : RelI w0 I0 s a.tmps w I Fs) (hT : T I w d (ρS s a.tmps w) v F) (hF : Fresh w0 w I Fs F) : Rel w0 I0 (match dst with | some t => putD s t d | none => s) (a.put dst v) w := by
  cases dst with
  | none => exact ⟨hd, I, Fs, h⟩
  | some t => obtain ⟨Fs', h'⟩ := putD_T h t hT hF; exact ⟨hd, I, Fs', h'⟩
theorem sim_ops (hcl : ∀ w', w0.Below w' → GI G w' I0) (ops : Array Oper) {Q : Exit → Act → World → Prop} {KK : List D → Prop} (hQ : ∀ s a w, KK s → Rel w0 I0 s a w → Q .normal a w) : ∀ (l : List Oper) (vs : List VO) (s : List D) (a : Act) (w : World), cVOs P ops l = some vs → opsK (CT P G) s vs KK → Rel w0 I0 s a w → wpList P ops Q l a w
  | [], vs, s, a, w, hc, hk, h => by simp only [cVOs, Option.some.injEq] at hc; subst hc; exact hQ s a w hk h
  | o :: l, vs, s, a, w, hc, hk, h => by
    simp only [cVOs] at hc; cases hv : cVO P false ops o with
    | none => simp [hv] at hc
    | some v =>
    cases hvs : cVOs P ops l with
    | none => simp [hv, hvs] at hc
    | some vs' =>
    simp only [hv, hvs, Option.some.injEq] at hc; subst hc; simp only [opsK] at hk; obtain ⟨hd, I, Fs, hR⟩ := h; have hGw : GI G w I0 := hcl _ hR.below; simp only [cVO] at hv; cases hg : cGuard ops o.guard with
    | none => simp [hg] at hv
    | some g =>
    cases hop : cOp P false o.op with
    | none => simp [hg, hop] at hv
    | some vop =>
    simp only [hg, hop, Option.some.injEq] at hv; subst hv; have run : evalK (CT P G) s vop (fun d s' => opsK (CT P G) (match o.dst with | some t => putD s' t d | none => s') vs' KK) → o.wp P a w (wpList P ops Q l) Q := by intro hk; refine wp_of_runs (sim_op (nn := false) hGw hR (fun h => by cases h) hop hk) ?_; rintro v w' ⟨d, s', I', Fs', F, hK, hR', hT, hF, _⟩; exact sim_ops hcl ops hQ l vs' _ _ _ hvs hK (put_rel hd hR' hT hF)
    have skip : opsK (CT P G) (match o.dst with | some t => putD s t (.v (.tuple #[])) | none => s) vs' KK → wpList P ops Q l (a.put o.dst undef) w := (by intro hk; exact sim_ops hcl ops hQ l vs' _ _ _ hvs hk (put_rel (d := .v (.tuple #[])) (v := undef) hd hR (by simp only [T]; exact ⟨rfl, trivial⟩) Fresh.nil)); unfold wpList; simp only [stepK] at hk; cases hgo : o.guard with
    | none => rw [hgo] at hg; simp only [cGuard, Option.some.injEq] at hg; subst hg; rw [if_pos (by simp [Region.wanted, hgo])]; exact .inl (run hk)
    | some jw =>
      obtain ⟨j, want⟩ := jw; rw [hgo] at hg; simp only [cGuard] at hg; cases hj : (ops[j]?).bind (·.dst) with
      | none => simp [hj] at hg
      | some t =>
        simp only [hj, Option.some.injEq] at hg; subst hg; simp only at hk; have hTt := lkT_T hR t; have hyv : ∀ x : Value, lkT s t = .v x → a.tmps[t]? = some x ∨ (a.tmps[t]? = none ∧ x = undef) := by
          intro x e; rw [e] at hTt; have := (T_v hTt).1; cases ht : a.tmps[t]? with
          | none => simp [ht] at this; exact .inr ⟨rfl, this.symm⟩
          | some y => simp [ht] at this; exact .inl (by rw [this])
        split at hk
        · rename_i b e; have hy : yielded ops a.tmps j = some b := by
            unfold yielded; rw [hj]; rcases hyv _ e with h1 | ⟨_, h1⟩
            · simp [h1]
            · cases h1
          by_cases hbw : b = want
          · rw [if_pos (by simp [Region.wanted, hgo, hy, hbw])]; exact .inl (run (hk.1 hbw))
          · rw [if_neg (by simp [Region.wanted, hgo, hy, hbw])]; exact skip (hk.2 hbw)
        · rename_i x hne e; have hy : yielded ops a.tmps j = none := by
            unfold yielded; rw [hj]; rcases hyv _ e with h1 | ⟨h1, _⟩
            · simp only [Option.bind_some, h1]; split
              · rename_i b hb; cases hb; exact absurd rfl (hne b)
              · rfl
            · simp [h1]
          rw [if_neg (by simp [Region.wanted, hgo, hy])]; exact skip hk
        · exact hk.elim
end
end Go.V
namespace Go.V
open Go.RowKit
theorem clrL_get (q : D → Bool) : ∀ (m : List Bool) (s : List D) (r : Nat), (clrL q m s)[r]? = (s[r]?).map fun d => if m.getD r false then .undef else d.prune q
  | m, [], r => by simp [clrL]
  | true :: m, d :: s, 0 => by simp [clrL]
  | false :: m, d :: s, 0 => by simp [clrL]
  | [], d :: s, 0 => by simp [clrL]
  | true :: m, d :: s, r + 1 => by simp [clrL, clrL_get q m s r]
  | false :: m, d :: s, r + 1 => by simp [clrL, clrL_get q m s r]
  | [], d :: s, r + 1 => by have := clrL_get q [] s r; simp only [clrL, List.getElem?_cons_succ, this]; simp
theorem clrL_len (q : D → Bool) : ∀ (m : List Bool) (s : List D), (clrL q m s).length = s.length
  | m, [] => by simp [clrL]
  | true :: m, d :: s => by simp [clrL, clrL_len q m s]
  | false :: m, d :: s => by simp [clrL, clrL_len q m s]
  | [], d :: s => by simp [clrL, clrL_len q [] s]
theorem RelI.clr {w0 I0 s tm w I Fs} (h : RelI w0 I0 s tm w I Fs) (m : List Bool) : RelI w0 I0 (clr m s) tm w I (fun r => if m.getD r false then [] else Fs r) where
  below := h.below
  len := by unfold V.clr; rw [clrL_len]; exact h.len
  slot := by
    intro r d u h1 h2; unfold V.clr at h1; rw [clrL_get] at h1; cases hs : s[r]? with
    | none => simp [hs] at h1
    | some d' =>
      simp only [hs, Option.map_some, Option.some.injEq] at h1; by_cases hm : m.getD r false = true
      · rw [if_pos hm] at h1; subst h1; rw [if_pos hm]; simp [T]
      · rw [if_neg hm] at h1; subst h1; rw [if_neg hm]; refine T.turn (fun x v hq hx => ?_) d' (h.slot r d' u hs h2); cases x with
        | ref r' p => obtain ⟨d1, u0, t1, k1, k2, k3, ko, k4⟩ := hx; have hm' : m.getD r' false = false := (by simpa [keepQ] using hq); obtain ⟨q', hq'⟩ := tree_prune p d1 (keepQ m) k3; refine ⟨d1.prune (keepQ m), u0, t1, ?_, k2, by rw [ownv_prune ko] at hq'; exact hq', ko, by rw [val_prune p d1 _ k3]; exact k4⟩; unfold V.clr; rw [clrL_get, k1]; simp only [Option.map_some, hm', Bool.false_eq_true, if_false]
        | ptr r' p i j => obtain ⟨d1, u0, t', sz, rows, u1, b, o, k1, k2, k3, k4, k5, k6, k7⟩ := hx; have hm' : m.getD r' false = false := (by simpa [keepQ] using hq); obtain ⟨q', hq'⟩ := tree_prune p d1 (keepQ m) k3; obtain ⟨rows', hr'⟩ := (like_prune k4 q').cont k4; refine ⟨d1.prune (keepQ m), u0, t'.prune q', sz, rows', u1, b, o, ?_, k2, hq', hr', by rw [val_prune p d1 _ k3]; exact k5, k6, k7⟩; unfold V.clr; rw [clrL_get, k1]; simp only [Option.map_some, hm', Bool.false_eq_true, if_false]
        | sub r' p i n => obtain ⟨d1, u0, t', sz, rows, u1, b, o, cc, k1, k2, k3, k4, k5, k6, k7⟩ := hx; have hm' : m.getD r' false = false := (by simpa [keepQ] using hq); obtain ⟨q', hq'⟩ := tree_prune p d1 (keepQ m) k3; obtain ⟨rows', hr'⟩ := (like_prune k4 q').cont k4; refine ⟨d1.prune (keepQ m), u0, t'.prune q', sz, rows', u1, b, o, cc, ?_, k2, hq', hr', by rw [val_prune p d1 _ k3]; exact k5, k6, k7⟩; unfold V.clr; rw [clrL_get, k1]; simp only [Option.map_some, hm', Bool.false_eq_true, if_false]
        | _ => exact hx.elim
  nd := by intro r; split; exact List.nodup_nil; exact h.nd r
  disj := by intro r r' b hb hb'; split at hb <;> split at hb' <;> first | (cases hb; done) | (cases hb'; done) | exact h.disj r r' b hb hb'
  own := by
    intro r b hb; split at hb
    · cases hb
    · exact h.own r b hb
  imm := h.imm
  imm0 := h.imm0
  immN := h.immN
/-! ### What a function gives back -/
inductive RV where
  | t (t : Nat)
  | c (t n : Nat) (agg : Bool)
def rebuild : D → List D → D
  | .agg _, cs => .agg cs
  | _, cs => cs.headD .undef
def resolveK (s : List D) (d : D) (K : D → List D → Prop) : Prop := match d with
  | .ptr r [] 0 0 => match s[r]? with
    | some (.box _ cells) => K (.box none (pruneL (fun _ => false) cells)) ((pruneL (notRoot r) s).set r .undef)
    | _ => False
  | d => refsOK d.cells = true ∧ resC s d.cells (fun cs s' => K (rebuild d cs) s')
def rvK (s : List D) : RV → (D → List D → Prop) → Prop
  | .t t, K => (tkT s t).1.okCells = true ∧ resolveK (tkT s t).2 (tkT s t).1 K
  | .c t n agg, K => match s[t]? with
    | some (.box _ cells) => cells.length = n ∧ (mkAgg agg (pruneL (notRoot t) cells)).okCells = true ∧ resolveK ((pruneL (notRoot t) s).set t .undef) (mkAgg agg (pruneL (notRoot t) cells)) K
    | _ => False
def rvsK : List D → List RV → (List D → List D → Prop) → Prop
  | s, [], K => K [] s
  | s, r :: rs, K => rvK s r fun d s' => rvsK s' rs fun ds s'' => K (d :: ds) s''
def one : List D → D
  | [d] => d
  | ds => .tup ds
def cRes (P : Program) : List ResultVar → Option (List RV)
  | [] => some []
  | .tmp t :: rs => (cRes P rs).map (.t t :: ·)
  | .cell a t :: rs => match P.underlying t, P.info? t with
    | some d, some i => if d.isRow then (cRes P rs).map (.c a i.size true :: ·) else if i.size = 1 then (cRes P rs).map (.c a 1 false :: ·) else none
    | _, _ => none
end Go.V
namespace Go.V
open Go.RowKit
theorem growNK_pick {s : List D} {sz : Nat} {x : Operand} {K : List (List D) → List D → Prop} (h : growNK s sz x K) : ∃ r s', K r s' ∧ growNK s sz x (fun r' s'' => r' = r ∧ s'' = s') := by
  unfold growNK at h ⊢; split at h
  · exact ⟨_, _, h.2, h.1, rfl, rfl⟩
  · exact ⟨_, _, h, rfl, rfl⟩
  · exact h.elim
theorem growNK_mono {s : List D} {sz : Nat} {x : Operand} {K K' : List (List D) → List D → Prop} (hm : ∀ r s, K r s → K' r s) (h : growNK s sz x K) : growNK s sz x K' := by
  unfold growNK at h ⊢; split at h
  · exact ⟨h.1, hm _ _ h.2⟩
  · exact hm _ _ h
  · exact h.elim
theorem addK_pick {s : List D} {sz : Nat} {x : Operand} {K : List (List D) → List D → Prop} (h : addK s sz x K) : ∃ r s', K r s' ∧ addK s sz x (fun r' s'' => r' = r ∧ s'' = s') := by
  unfold addK at h ⊢; split at h
  · exact ⟨_, _, h.2, h.1, rfl, rfl⟩
  · exact ⟨_, _, h.2, h.1, rfl, rfl⟩
  · exact ⟨_, _, h, rfl, rfl⟩
  · rename_i r q e
    (try simp only [e])
    split at h
    · rename_i e1
      (try simp only [e1])
      exact ⟨_, _, h.2.2, h.1, h.2.1, rfl, rfl⟩
    · exact h.elim
  · rename_i r q i n e
    (try simp only [e])
    split at h
    · rename_i e1
      (try simp only [e1])
      exact ⟨_, _, h.2.2, h.1, h.2.1, rfl, rfl⟩
    · exact h.elim
  · exact h.elim
theorem addK_mono {s : List D} {sz : Nat} {x : Operand} {K K' : List (List D) → List D → Prop} (hm : ∀ r s, K r s → K' r s) (h : addK s sz x K) : addK s sz x K' := by
  unfold addK at h ⊢; split at h
  · exact ⟨h.1, hm _ _ h.2⟩
  · exact ⟨h.1, hm _ _ h.2⟩
  · exact hm _ _ h
  · rename_i r q e
    (try simp only [e])
    split at h
    · rename_i e1
      (try simp only [e1])
      exact ⟨h.1, h.2.1, hm _ _ h.2.2⟩
    · exact h.elim
  · rename_i r q i n e
    (try simp only [e])
    split at h
    · rename_i e1
      (try simp only [e1])
      exact ⟨h.1, h.2.1, hm _ _ h.2.2⟩
    · exact h.elim
  · exact h.elim
theorem pickK_pick {c a b : D} {s : List D} {K : D → List D → Prop} (h : pickK c a b s K) : ∃ d s', K d s' ∧ pickK c a b s (fun d' s'' => d' = d ∧ s'' = s') := by
  unfold pickK at h ⊢; split at h
  · rename_i t; split at h
    · exact ⟨_, _, h, rfl, rfl⟩
    · rename_i hn; cases t with
      | true => exact ⟨_, _, h.1 rfl, by simp⟩
      | false => exact ⟨_, _, h.2 rfl, by simp⟩
  · exact h.elim
theorem intK_pick {op : BinOp} {k k' : IntKind} {x y : Int} {s : List D} {K : D → List D → Prop} (h : intK op k x k' y (fun v => K (.v v) s)) : ∃ d s', K d s' ∧ intK op k x k' y (fun v => (.v v : D) = d ∧ s = s') := by unfold intK at h ⊢; split at h <;> first | exact ⟨_, _, h.2.2, h.1, h.2.1, rfl, rfl⟩ | exact ⟨_, _, h.2, h.1, rfl, rfl⟩
theorem strK_pick {op : BinOp} {x y : ByteArray} {s : List D} {K : D → List D → Prop} (h : strK op x y (fun v => K (.v v) s)) : ∃ d s', K d s' ∧ strK op x y (fun v => (.v v : D) = d ∧ s = s') := by unfold strK at h ⊢; split at h <;> first | exact ⟨_, _, h.2, h.1, rfl, rfl⟩ | exact ⟨_, _, h, rfl, rfl⟩ | exact h.elim
theorem slcSK_pick {x l h : D} {s : List D} {K : D → List D → Prop} (hk : slcSK x l h s K) : ∃ d s', K d s' ∧ slcSK x l h s (fun d' s'' => d' = d ∧ s'' = s') := by
  unfold slcSK at hk ⊢; split at hk
  · exact ⟨_, _, hk.2.2.2, hk.1, hk.2.1, hk.2.2.1, rfl, rfl⟩
  · exact hk.elim
theorem slcK_pick {sz : Nat} {x l h m : D} {s : List D} {K : D → List D → Prop} (hk : slcK sz x l h m s K) : ∃ d s', K d s' ∧ slcK sz x l h m s (fun d' s'' => d' = d ∧ s'' = s') := by
  unfold slcK at hk ⊢; split at hk
  · obtain ⟨h1, h2, h3, h4, h5, h6, h7⟩ := hk; exact ⟨_, _, h7, h1, h2, h3, h4, h5, h6, rfl, rfl⟩
  · split at hk
    · rename_i e1
      (try simp only [e1])
      obtain ⟨h1, h2, h3, h4, h5, h6, h7⟩ := hk; exact ⟨_, _, h7, h1, h2, h3, h4, h5, h6, rfl, rfl⟩
    · exact hk.elim
  · split at hk
    · rename_i e1
      (try simp only [e1])
      obtain ⟨h1, h2, h3, h4, h5, h6, h7⟩ := hk; exact ⟨_, _, h7, h1, h2, h3, h4, h5, h6, rfl, rfl⟩
    · exact hk.elim
  · exact hk.elim
theorem evalK_pick {Ctr : CtrT} {s : List D} : ∀ {v : VOp} {K : D → List D → Prop}, v.framed = true → evalK Ctr s v K → ∃ d s', K d s' ∧ evalK Ctr s v (fun d' s'' => d' = d ∧ s'' = s') := by
  intro v K hv h; cases v with
  | mv x =>
    simp only [evalK] at h ⊢; unfold mvE at h ⊢; cases x with
    | tmp t => simp only at h ⊢; split at h <;> (rename_i e; (try simp only [e]); exact ⟨_, _, h, rfl, rfl⟩)
    | _ => exact ⟨_, _, h, rfl, rfl⟩
  | asg x => exact ⟨_, _, h, rfl, rfl⟩
  | nilc x => simp only [evalK] at h ⊢; split at h <;> first | exact h.elim | (rename_i e; skip; (try simp only [e]); exact ⟨_, _, h, rfl, rfl⟩)
  | pick c a b => exact pickK_pick h
  | bin op x y =>
    simp only [evalK] at h ⊢; split at h
    · exact intK_pick h
    · exact strK_pick h
    · exact h.elim
  | binB neg x y =>
    simp only [evalK] at h ⊢; split at h
    · exact ⟨_, _, h, rfl, rfl⟩
    · exact h.elim
  | eqs neg ks x y =>
    simp only [evalK] at h ⊢; split at h
    · obtain ⟨h0, h⟩ := h; split at h
      · rename_i e3
        try simp only [e3]
        exact ⟨_, _, h, h0, rfl, rfl⟩
      · exact h.elim
    · exact h.elim
  | un op x =>
    simp only [evalK] at h ⊢; split at h
    · exact ⟨_, _, h, rfl, rfl⟩
    · exact ⟨_, _, h, rfl, rfl⟩
    · exact h.elim
  | conv k x =>
    simp only [evalK] at h ⊢; split at h
    · exact ⟨_, _, h, rfl, rfl⟩
    · exact h.elim
  | alloc z => exact ⟨_, _, h, rfl, rfl⟩
  | box x => exact ⟨_, _, h.2, h.1, rfl, rfl⟩
  | build z ps =>
    simp only [evalK] at h ⊢; obtain ⟨h1, h2⟩ := h; split at h2
    · rename_i e
      (try simp only [e])
      exact ⟨_, _, h2, h1, rfl, rfl⟩
    · exact h2.elim
  | bslN sz ps => exact ⟨_, _, h.2.2, h.1, h.2.1, rfl, rfl⟩
  | load n agg x =>
    simp only [evalK] at h ⊢; split at h
    · rename_i e
      (try simp only [e])
      split at h
      · rename_i e2
        (try simp only [e2])
        exact ⟨_, _, h.2, h.1, rfl, rfl⟩
      · exact h.elim
    · exact ⟨_, _, h.2, h.1, rfl, rfl⟩
    · exact h.elim
  | fa off x => simp only [evalK] at h ⊢; split at h <;> first | exact h.elim | (rename_i e; skip; (try simp only [e]); exact ⟨_, _, h, rfl, rfl⟩)
  | fld off n agg x =>
    simp only [evalK] at h ⊢; split at h
    · exact ⟨_, _, h.2, h.1, rfl, rfl⟩
    · exact h.elim
  | ia sz x i =>
    simp only [evalK] at h ⊢; split at h
    · rename_i e1 e2
      (try simp only [e1, e2])
      split at h
      · rename_i e3
        (try simp only [e3])
        exact ⟨_, _, h.2.2.2, h.1, h.2.1, h.2.2.1, rfl, rfl⟩
      · exact h.elim
    · obtain ⟨h1, h2, h3, row, h4, h5⟩ := h; exact ⟨_, _, h5, h1, h2, h3, row, h4, rfl, rfl⟩
    · exact h.elim
  | iaa len sz x i =>
    simp only [evalK] at h ⊢; split at h
    · exact ⟨_, _, h.2.2, h.1, h.2.1, rfl, rfl⟩
    · exact ⟨_, _, h.2.2, h.1, h.2.1, rfl, rfl⟩
    · exact h.elim
  | ixs x i =>
    simp only [evalK] at h ⊢; split at h
    · obtain ⟨h1, c, h2, h3⟩ := h; exact ⟨_, _, h3, h1, c, h2, rfl, rfl⟩
    · exact h.elim
  | ixa len sz agg x i =>
    simp only [evalK] at h ⊢; split at h
    · exact ⟨_, _, h.2.2.2, h.1, h.2.1, h.2.2.1, rfl, rfl⟩
    · exact h.elim
  | slcS x lo hi => exact slcSK_pick h
  | slc sz x lo hi mx => exact slcK_pick h
  | extN x i =>
    simp only [evalK] at h ⊢; split at h
    · rename_i t; split at h
      · rename_i vs hs
        try simp only [hs]
        split at h
        · rename_i d hi
          try simp only [hi]
          exact ⟨_, _, h.2, h.1, rfl, rfl⟩
        · exact h.elim
      · exact h.elim
    · exact h.elim
  | len x =>
    simp only [evalK] at h ⊢; split at h
    · rename_i e
      (try simp only [e])
      exact ⟨_, _, h, rfl, rfl⟩
    · exact h.elim
  | lenS x =>
    simp only [evalK] at h ⊢; split at h
    · exact ⟨_, _, h, rfl, rfl⟩
    · exact h.elim
  | mm mx xs =>
    simp only [evalK] at h ⊢; split at h
    · exact ⟨_, _, h.2, h.1, rfl, rfl⟩
    · exact h.elim
  | appN sz bytes x y => simp only [evalK] at h ⊢; obtain ⟨r, s1, hk, h1⟩ := growNK_pick h; obtain ⟨m, s2, hk2, h2⟩ := addK_pick hk; refine ⟨_, _, hk2.2, growNK_mono ?_ h1⟩; rintro r' s' ⟨rfl, rfl⟩; refine addK_mono ?_ h2; rintro m' s' ⟨rfl, rfl⟩; exact ⟨hk2.1, rfl, rfl⟩
  | mkf f first caps => exact ⟨_, _, h, rfl, rfl⟩
  | mks sz bytes z l c =>
    simp only [evalK] at h ⊢; split at h
    · exact ⟨_, _, h.2.2.2, h.1, h.2.1, h.2.2.1, rfl, rfl⟩
    · exact h.elim
  | call f args =>
    simp only [evalK] at h ⊢; rcases h with ⟨args', d, h1, h2, h3, h4⟩ | ⟨x, sz, r, q, rows, row, h1, h2, h3, h4, h5, h6, h7⟩
    · exact ⟨_, _, h4, .inl ⟨args', d, h1, h2, h3, rfl, rfl⟩⟩
    · exact ⟨_, _, h7, .inr ⟨x, sz, r, q, rows, row, h1, h2, h3, h4, h5, h6, rfl, rfl⟩⟩
  | callv f args =>
    simp only [evalK] at h ⊢; split at h
    · obtain ⟨args', d, h1, h2, h3, h4⟩ := h; exact ⟨_, _, h4, args', d, h1, h2, h3, rfl, rfl⟩
    · exact h.elim
  | store _ _ _ => simp [VOp.framed] at hv
  | app _ _ _ _ => simp [VOp.framed] at hv
  | bsl _ _ => simp [VOp.framed] at hv
  | ext _ _ => simp [VOp.framed] at hv
  | b2s x =>
    simp only [evalK, b2sK] at h ⊢; split at h
    · obtain ⟨xs, h1, h2⟩ := h; exact ⟨_, _, h2, xs, h1, rfl, rfl⟩
    · exact h.elim
  | isnil _ _ => simp [VOp.framed] at hv
  | s2b x => exact h.elim
  | appS x y => exact h.elim
  | mupd _ _ _ _ => simp [VOp.framed] at hv
  | mdel _ _ _ => simp [VOp.framed] at hv
  | callX _ _ => simp [VOp.framed] at hv
  | callvX _ _ => simp [VOp.framed] at hv
  | mkm k => exact ⟨_, _, h, rfl, rfl⟩
  | mlk k z ok m i =>
    simp only [evalK] at h ⊢; split at h
    · obtain ⟨h0, h⟩ := h; unfold mlkK at h ⊢; split at h
      · obtain ⟨h1, h⟩ := h; split at h
        · rename_i e1; exact ⟨_, _, h, h0, h1, rfl, rfl⟩
        · rename_i e1; exact ⟨_, _, h, h0, h1, rfl, rfl⟩
      · split at h
        · exact ⟨_, _, h, h0, rfl, rfl⟩
        · exact h.elim
    · exact h.elim
  | mlen m =>
    simp only [evalK] at h ⊢; split at h
    · exact ⟨_, _, h, rfl, rfl⟩
    · split at h
      · exact ⟨_, _, h, rfl, rfl⟩
      · exact h.elim
end Go.V
namespace Go.V
open Go.RowKit
mutual
theorem D.prune_prune (q1 q2 : D → Bool) : ∀ d : D, (d.prune q2).prune q1 = d.prune (fun x => q2 x && q1 x)
  | .undef => by simp [D.prune]
  | .nils => by simp [D.prune]
  | .v _ => by simp [D.prune]
  | .sl _ _ _ => by simp [D.prune]
  | .agg cs => by simp only [D.prune, pruneL_pruneL q1 q2 cs]
  | .tup cs => by simp only [D.prune, pruneL_pruneL q1 q2 cs]
  | .ref r p => by cases h : q2 (.ref r p) <;> simp [D.prune, h]
  | .ptr r p i j => by cases h : q2 (.ptr r p i j) <;> simp [D.prune, h]
  | .sub r p i n => by cases h : q2 (.sub r p i n) <;> simp [D.prune, h]
  | .iptr _ _ => by simp [D.prune]
  | .box _ cs => by simp only [D.prune, pruneL_pruneL q1 q2 cs]
  | .mp _ _ => by simp [D.prune]
  | .imp _ _ => by simp [D.prune]
  | .fn _ a b => by simp only [D.prune, pruneL_pruneL q1 q2 a, pruneL_pruneL q1 q2 b]
theorem pruneL_pruneL (q1 q2 : D → Bool) : ∀ ds : List D, pruneL q1 (pruneL q2 ds) = pruneL (fun x => q2 x && q1 x) ds
  | [] => rfl
  | d :: ds => by simp only [pruneL, D.prune_prune q1 q2 d, pruneL_pruneL q1 q2 ds]
end
theorem prune_congr {q q' : D → Bool} (h : ∀ x, q x = q' x) (d : D) : d.prune q = d.prune q' := by rw [show q = q' from funext h]
theorem prune_cont_rev {d : D} {q : D → Bool} {sz : Nat} {rows' : List (List D)} (hd : (d.prune q).cont = some (sz, rows')) : ∃ rows, d.cont = some (sz, rows) ∧
    ∀ (i : Nat) (row' : List D), rows'[i]? = some row' → ∃ row : List D, rows[i]? = some row ∧ ∀ (j : Nat) (x' : D), row'[j]? = some x' → ∃ (x : D) (q' : D → Bool), row[j]? = some x ∧ x' = x.prune q' := by
  cases d with
  | sl own sz0 rows => cases own with
    | false => simp [D.prune, D.cont] at hd
    | true => simp only [D.prune, D.cont, Option.some.injEq, Prod.mk.injEq] at hd; obtain ⟨rfl, rfl⟩ := hd; exact ⟨rows, rfl, fun i row' hi => ⟨row', hi, fun j x' hj => ⟨x', fun _ => true, hj, (D.prune_yes x').symm⟩⟩⟩
  | mp k e => simp only [D.prune, D.cont, Option.some.injEq, Prod.mk.injEq] at hd; obtain ⟨rfl, rfl⟩ := hd; exact ⟨[], rfl, fun i row' hi => by simp at hi⟩
  | box tag cells =>
    simp only [D.prune, D.cont, Option.some.injEq, Prod.mk.injEq] at hd; obtain ⟨rfl, rfl⟩ := hd; refine ⟨[cells], by simp [D.cont, pruneL_len], fun i row' hi => ?_⟩; cases i with
    | succ i => simp at hi
    | zero =>
      obtain rfl : pruneL q cells = row' := (by simpa using hi); refine ⟨cells, rfl, fun j x' hj => ?_⟩; rw [pruneL_get] at hj; cases hc : cells[j]? with
      | none => simp [hc] at hj
      | some x => exact ⟨x, q, rfl, by simpa [hc, eq_comm] using hj⟩
  | ref r p => simp only [D.prune] at hd; split at hd <;> simp [D.cont] at hd
  | ptr r p i j => simp only [D.prune] at hd; split at hd <;> simp [D.cont] at hd
  | sub r p i n => simp only [D.prune] at hd; split at hd <;> simp [D.cont] at hd
  | _ => simp [D.prune, D.cont] at hd
theorem tree_prune_rev : ∀ (p : Path) (d : D) (q : D → Bool) {t' : D}, treeAt (d.prune q) p = some t' → ∃ t q', treeAt d p = some t ∧ t' = t.prune q'
  | [], d, q, t', h => ⟨d, q, rfl, by simpa [treeAt, eq_comm] using h⟩
  | (i, j) :: p, d, q, t', h => by
    simp only [treeAt] at h; cases hd : (d.prune q).cont with
    | none => simp [hd] at h
    | some x =>
    obtain ⟨sz, rows'⟩ := x; simp only [hd] at h; cases hi : rows'[i]? with
    | none => simp [hi] at h
    | some row' =>
    cases hj : row'[j]? with
    | none => simp [hi, hj] at h
    | some c' =>
    simp only [hi, hj] at h; obtain ⟨rows, h1, h2⟩ := prune_cont_rev hd; obtain ⟨row, h3, h4⟩ := h2 i row' hi; obtain ⟨c, q', h5, rfl⟩ := h4 j c' hj; obtain ⟨t, q'', h6, h7⟩ := tree_prune_rev p c q' h; exact ⟨t, q'', by simp only [treeAt, h1, h3, h5, h6], h7⟩
theorem ρS.unclr {s : List D} {tm : Array Value} {w : World} {m : List Bool} {x : D} {v : Value} (h : ρS (clr m s) tm w x v) : ρS s tm w x v := by
  have key : ∀ (r : Nat) (d' : D), (clr m s)[r]? = some d' → d' = .undef ∨ ∃ d q, s[r]? = some d ∧ d' = d.prune q := by
    intro r d' h; unfold V.clr at h; rw [clrL_get] at h; cases hs : s[r]? with
    | none => simp [hs] at h
    | some d =>
      simp only [hs, Option.map_some, Option.some.injEq] at h; split at h
      · exact .inl h.symm
      · exact .inr ⟨d, _, rfl, h.symm⟩
  have nou : ∀ (p : Path) (t : D) (y : Nat × List (List D)), treeAt .undef p = some t → t.cont = some y → False := by
    intro p t y h1 h2; cases p with
    | nil => simp only [treeAt, Option.some.injEq] at h1; subst h1; simp [D.cont] at h2
    | cons z p => obtain ⟨i, j⟩ := z; simp [treeAt, D.cont] at h1
  cases x with
  | ref r p =>
    obtain ⟨d', u0, t1, k1, k2, k3, ko, k4⟩ := h; rcases key r d' k1 with rfl | ⟨d, q, hs, rfl⟩
    · obtain ⟨sz, rows, hcc⟩ := ownv_cont ko; exact (nou p _ _ k3 hcc).elim
    · obtain ⟨t, q', h1, h2⟩ := tree_prune_rev p d q k3; exact ⟨d, u0, t, hs, k2, h1, ownv_unprune (q := q') (by rw [← h2]; exact ko), by rw [← val_prune p d q h1]; exact k4⟩
  | ptr r p i j =>
    obtain ⟨d', u0, t', sz, rows, u1, b, o, k1, k2, k3, k4, k5, k6⟩ := h; rcases key r d' k1 with rfl | ⟨d, q, hs, rfl⟩
    · exact (nou p _ _ k3 k4).elim
    · obtain ⟨t, q', h1, rfl⟩ := tree_prune_rev p d q k3; obtain ⟨rows2, h3, _⟩ := prune_cont_rev k4; exact ⟨d, u0, t, sz, rows2, u1, b, o, hs, k2, h1, h3, by rw [← val_prune p d q h1]; exact k5, k6⟩
  | sub r p i n =>
    obtain ⟨d', u0, t', sz, rows, u1, b, o, cc, k1, k2, k3, k4, k5, k6⟩ := h; rcases key r d' k1 with rfl | ⟨d, q, hs, rfl⟩
    · exact (nou p _ _ k3 k4).elim
    · obtain ⟨t, q', h1, rfl⟩ := tree_prune_rev p d q k3; obtain ⟨rows2, h3, _⟩ := prune_cont_rev k4; exact ⟨d, u0, t, sz, rows2, u1, b, o, cc, hs, k2, h1, h3, by rw [← val_prune p d q h1]; exact k5, k6⟩
  | _ => exact h.elim
theorem ρS.clr {s : List D} {tm : Array Value} {w : World} {m : List Bool} {x : D} {v : Value} (hq : keepQ m x = true) (hx : ρS s tm w x v) : ρS (clr m s) tm w x v := by
  cases x with
  | ref r' p => obtain ⟨d1, u0, t1, k1, k2, k3, ko, k4⟩ := hx; have hm' : m.getD r' false = false := (by simpa [keepQ] using hq); obtain ⟨q', hq'⟩ := tree_prune p d1 (keepQ m) k3; refine ⟨d1.prune (keepQ m), u0, t1, ?_, k2, by rw [ownv_prune ko] at hq'; exact hq', ko, by rw [val_prune p d1 _ k3]; exact k4⟩; unfold V.clr; rw [clrL_get, k1]; simp only [Option.map_some, hm', Bool.false_eq_true, if_false]
  | ptr r' p i j => obtain ⟨d1, u0, t', sz, rows, u1, b, o, k1, k2, k3, k4, k5, k6, k7⟩ := hx; have hm' : m.getD r' false = false := (by simpa [keepQ] using hq); obtain ⟨q', hq'⟩ := tree_prune p d1 (keepQ m) k3; obtain ⟨rows', hr'⟩ := (like_prune k4 q').cont k4; refine ⟨d1.prune (keepQ m), u0, t'.prune q', sz, rows', u1, b, o, ?_, k2, hq', hr', by rw [val_prune p d1 _ k3]; exact k5, k6, k7⟩; unfold V.clr; rw [clrL_get, k1]; simp only [Option.map_some, hm', Bool.false_eq_true, if_false]
  | sub r' p i n => obtain ⟨d1, u0, t', sz, rows, u1, b, o, cc, k1, k2, k3, k4, k5, k6, k7⟩ := hx; have hm' : m.getD r' false = false := (by simpa [keepQ] using hq); obtain ⟨q', hq'⟩ := tree_prune p d1 (keepQ m) k3; obtain ⟨rows', hr'⟩ := (like_prune k4 q').cont k4; refine ⟨d1.prune (keepQ m), u0, t'.prune q', sz, rows', u1, b, o, cc, ?_, k2, hq', hr', by rw [val_prune p d1 _ k3]; exact k5, k6, k7⟩; unfold V.clr; rw [clrL_get, k1]; simp only [Option.map_some, hm', Bool.false_eq_true, if_false]
  | _ => exact hx.elim
theorem clr_get (m : List Bool) (s : List D) (r : Nat) : (clr m s)[r]? = (s[r]?).map fun d => if m.getD r false then .undef else d.prune (keepQ m) := clrL_get _ _ _ _
theorem clr_len (m : List Bool) (s : List D) : (clr m s).length = s.length := clrL_len _ _ _
theorem clr_comm (m1 m2 : List Bool) (s : List D) : clr m1 (clr m2 s) = clr m2 (clr m1 s) := by
  apply List.ext_getElem?; intro r; simp only [clr_get, Option.map_map]; cases s[r]? with
  | none => rfl
  | some d => simp only [Option.map_some, Function.comp_def]; cases m1.getD r false <;> cases m2.getD r false <;> simp [D.prune, D.prune_prune]; apply prune_congr; intro x; exact Bool.and_comm _ _
theorem prune_undef {d : D} {q : D → Bool} (h : d.prune q = .undef) : d.owny = false := by
  cases d with
  | undef => rfl
  | ref r p => rfl
  | ptr r p i j => rfl
  | sub r p i n => rfl
  | _ => simp [D.prune] at h
end Go.V
namespace Go.V
open Go.RowKit
theorem pruneL_set (q : D → Bool) : ∀ (l : List D) (j : Nat) (x : D), pruneL q (l.set j x) = (pruneL q l).set j (x.prune q)
  | [], j, x => rfl
  | d :: l, 0, x => rfl
  | d :: l, j + 1, x => by simp only [List.set_cons_succ, pruneL, pruneL_set q l j x]
theorem setAt_prune (k : D → Bool) : ∀ (p : Path) (d : D), (setAt d p .undef).prune k = setAt (d.prune k) p .undef
  | [], d => by cases d <;> simp [setAt, D.prune]
  | (i, j) :: p, d => by
    cases d with
    | sl own sz rows => cases own with
      | false => simp [setAt, D.cont, D.prune]
      | true =>
        simp only [setAt, D.cont, D.prune, D.withCont]; cases rows[i]? with
        | none => rfl
        | some row => cases hx : row[j]? with
          | none => simp only [hx, D.prune]
          | some x => simp only [hx, D.prune]
    | box tag cells =>
      simp only [setAt, D.cont, D.prune]; cases i with
      | succ i => simp [D.prune]
      | zero =>
        simp only [List.getElem?_cons_zero, pruneL_get]; cases hc : cells[j]? with
        | none => simp [D.prune]
        | some x => simp [D.withCont, D.prune, pruneL_set, setAt_prune k p x]
    | ref r p => simp only [setAt, D.cont, D.prune]; split <;> simp [setAt, D.cont]
    | ptr r p i j => simp only [setAt, D.cont, D.prune]; split <;> simp [setAt, D.cont]
    | sub r p i n => simp only [setAt, D.cont, D.prune]; split <;> simp [setAt, D.cont]
    | _ => simp [setAt, D.cont, D.prune]
theorem treeAt_undef (p : Path) (t : D) (y : Nat × List (List D)) (h1 : treeAt .undef p = some t) (h2 : t.cont = some y) : False := by
  cases p with
  | nil => simp only [treeAt, Option.some.injEq] at h1; subst h1; simp [D.cont] at h2
  | cons z p => obtain ⟨i, j⟩ := z; simp [treeAt, D.cont] at h1
def isOwn (t : D) (_ : Nat) : Prop := t.ownv = true
theorem tree_unhole {w : World} : ∀ (q p : Path) (d : D) {t' : D} {sz : Nat} {rows' : List (List D)}, treeAt (setAt d q .undef) p = some t' → t'.cont = some (sz, rows') →
    ∃ t, treeAt d p = some t ∧ (∃ rows, t.cont = some (sz, rows)) ∧ (isOwn t' sz → isOwn t sz) ∧ ∀ u, valAt w u (setAt d q .undef) p = valAt w u d p
  | [], p, d, t', sz, rows', h, hc => by simp only [setAt] at h; exact (treeAt_undef p t' _ h hc).elim
  | (i, j) :: q, p, d, t', sz, rows', h, hc => by
    have same : setAt d ((i, j) :: q) .undef = d → ∃ t, treeAt d p = some t ∧ (∃ rows, t.cont = some (sz, rows)) ∧ (isOwn t' sz → isOwn t sz) ∧ ∀ u, valAt w u (setAt d ((i, j) :: q) .undef) p = valAt w u d p := fun e => by rw [e] at h ⊢; exact ⟨t', h, ⟨rows', hc⟩, id, fun _ => rfl⟩
    cases hd : d.cont with
    | none => exact same (by simp only [setAt, hd])
    | some x =>
      obtain ⟨sz0, rows0⟩ := x; cases hi : rows0[i]? with
      | none => exact same (by simp only [setAt, hd, hi])
      | some row => cases hj : row[j]? with
        | none => exact same (by simp only [setAt, hd, hi, hj])
        | some x =>
          have hset : setAt d ((i, j) :: q) .undef = d.withCont (rows0.set i (row.set j (setAt x q .undef))) := (by simp only [setAt, hd, hi, hj]); have hcont := withCont_cont hd i j row (setAt x q .undef) hi; have hil := (List.getElem?_eq_some_iff.1 hi).1; have hjl := (List.getElem?_eq_some_iff.1 hj).1; rw [hset] at h ⊢; cases p with
          | nil =>
            simp only [treeAt, Option.some.injEq] at h; subst h; rw [hcont] at hc; simp only [Option.some.injEq, Prod.mk.injEq] at hc; obtain ⟨rfl, _⟩ := hc; refine ⟨d, rfl, ⟨rows0, hd⟩, fun ho => ?_, fun u => rfl⟩; cases d with
            | sl own z r => cases own with
              | false => simp [D.cont] at hd
              | true => rfl
            | box tag cells => unfold isOwn at ho; cases hrs : rows0.set i (row.set j (setAt x q .undef)) <;> simp [D.withCont, hrs, D.ownv] at ho
            | mp k e => rfl
            | _ => simp [D.cont] at hd
          | cons y p =>
            obtain ⟨i2, j2⟩ := y; simp only [treeAt, hcont] at h; by_cases hii : i2 = i
            · subst hii; rw [List.getElem?_set_self hil] at h; simp only at h; by_cases hjj : j2 = j
              · subst hjj; rw [List.getElem?_set_self hjl] at h; simp only at h; obtain ⟨t, k1, k2, k3, k4⟩ := tree_unhole (w := w) q p x h hc; refine ⟨t, by simp only [treeAt, hd, hi, hj, k1], k2, k3, fun u => ?_⟩; simp only [valAt, hcont, hd, hi, hj, List.getElem?_set_self hil, List.getElem?_set_self hjl, k4]; cases baseOf u with
                | none => rfl
                | some y =>
                  obtain ⟨y1, y2⟩ := y; simp only [hi, hj, List.getElem?_set_self hil, List.getElem?_set_self hjl, k4]; cases w.cell? ⟨y1, y2 + i2 * sz0 + j2, none⟩ with
                  | none => simp only [hi, hj, List.getElem?_set_self hil, List.getElem?_set_self hjl, k4]
                  | some u' => simp only [hi, hj, List.getElem?_set_self hil, List.getElem?_set_self hjl, k4]
              · rw [List.getElem?_set_ne (Ne.symm hjj)] at h; refine ⟨t', by simp only [treeAt, hd, hi]; exact h, ⟨rows', hc⟩, id, fun u => ?_⟩; simp only [valAt, hcont, hd, hi, List.getElem?_set_self hil, List.getElem?_set_ne (Ne.symm hjj)]; cases baseOf u with
                | none => rfl
                | some y => obtain ⟨y1, y2⟩ := y; simp only [hi, List.getElem?_set_self hil, List.getElem?_set_ne (Ne.symm hjj)]
            · rw [List.getElem?_set_ne (Ne.symm hii)] at h; refine ⟨t', by simp only [treeAt, hd]; exact h, ⟨rows', hc⟩, id, fun u => ?_⟩; simp only [valAt, hcont, hd, List.getElem?_set_ne (Ne.symm hii)]; cases baseOf u with
              | none => rfl
              | some y => obtain ⟨y1, y2⟩ := y; simp only [List.getElem?_set_ne (Ne.symm hii)]
theorem prune_own {d : D} {q : D → Bool} {sz : Nat} (h : isOwn (d.prune q) sz) : isOwn d sz := ownv_unprune h
theorem hole_get {r : Nat} {q : Path} {s : List D} {d : D} (hs : s[r]? = some d) (j : Nat) : (holeS r q s)[j]? = if j = r then some (setAt (d.prune (notThrough r q)) q .undef) else (s[j]?).map (D.prune (notThrough r q)) := by
  unfold holeS; rw [hs]; simp only; have hlt := (List.getElem?_eq_some_iff.1 hs).1; by_cases hj : j = r
  · subst hj; rw [if_pos rfl, List.getElem?_set_self (by rw [pruneL_len]; exact hlt)]
  · rw [if_neg hj, List.getElem?_set_ne (Ne.symm hj), pruneL_get]
theorem hole_len {r : Nat} {q : Path} {s : List D} : (holeS r q s).length = s.length := by unfold holeS; split <;> simp [pruneL_len]
theorem ρS.unhole {s : List D} {tm : Array Value} {w : World} {r : Nat} {q : Path} {x : D} {v : Value} (h : ρS (holeS r q s) tm w x v) : ρS s tm w x v := by
  cases hsr : s[r]? with
  | none => unfold holeS at h; rw [hsr] at h; exact h
  | some d0 =>
    have key : ∀ (r' : Nat) (d' : D) (p : Path) (t' : D) (sz : Nat) (rows' : List (List D)), (holeS r q s)[r']? = some d' → treeAt d' p = some t' → t'.cont = some (sz, rows') →
        ∃ d t, s[r']? = some d ∧ treeAt d p = some t ∧ (∃ rows, t.cont = some (sz, rows)) ∧ (isOwn t' sz → isOwn t sz) ∧ ∀ u, valAt w u d' p = valAt w u d p := by
      intro r' d' p t' sz rows' h1 h2 h3; rw [hole_get hsr] at h1; split at h1
      · rename_i e; subst e; simp only [Option.some.injEq] at h1; subst h1; obtain ⟨t, k1, ⟨rows, k2⟩, k3, k4⟩ := tree_unhole (w := w) q p _ h2 h3; obtain ⟨t0, q', m1, rfl⟩ := tree_prune_rev p d0 _ k1; obtain ⟨rows0, m2, _⟩ := prune_cont_rev k2; exact ⟨d0, t0, hsr, m1, ⟨rows0, m2⟩, fun ho => prune_own (k3 ho), fun u => (k4 u).trans (val_prune p d0 _ m1)⟩
      · cases hr' : s[r']? with
        | none => simp [hr'] at h1
        | some d => simp only [hr', Option.map_some, Option.some.injEq] at h1; subst h1; obtain ⟨t0, q', m1, rfl⟩ := tree_prune_rev p d _ h2; obtain ⟨rows0, m2, _⟩ := prune_cont_rev h3; exact ⟨d, t0, rfl, m1, ⟨rows0, m2⟩, prune_own, fun u => val_prune p d _ m1⟩
    cases x with
    | ref r' p => obtain ⟨d', u0, t1, k1, k2, k3, ko, k4⟩ := h; obtain ⟨sz, rows, hcc⟩ := ownv_cont ko; obtain ⟨d, t, m1, m2, _, m4, m5⟩ := key r' d' p _ sz rows k1 k3 hcc; exact ⟨d, u0, t, m1, k2, m2, m4 ko, by rw [← m5]; exact k4⟩
    | ptr r' p i j => obtain ⟨d', u0, t', sz, rows, u1, b, o, k1, k2, k3, k4, k5, k6⟩ := h; obtain ⟨d, t, m1, m2, ⟨rows2, m3⟩, _, m5⟩ := key r' d' p _ sz rows k1 k3 k4; exact ⟨d, u0, t, sz, rows2, u1, b, o, m1, k2, m2, m3, by rw [← m5]; exact k5, k6⟩
    | sub r' p i n => obtain ⟨d', u0, t', sz, rows, u1, b, o, cc, k1, k2, k3, k4, k5, k6⟩ := h; obtain ⟨d, t, m1, m2, ⟨rows2, m3⟩, _, m5⟩ := key r' d' p _ sz rows k1 k3 k4; exact ⟨d, u0, t, sz, rows2, u1, b, o, cc, m1, k2, m2, m3, by rw [← m5]; exact k5, k6⟩
    | _ => exact h.elim
theorem hole_clr {r : Nat} {q : Path} {m : List Bool} (hm : m.getD r false = false) (s : List D) : holeS r q (clr m s) = clr m (holeS r q s) := by
  cases hsr : s[r]? with
  | none => have h1 : (clr m s)[r]? = none := (by rw [clr_get, hsr]; rfl); unfold holeS; rw [hsr, h1]
  | some d =>
    have h1 : (clr m s)[r]? = some (d.prune (keepQ m)) := (by rw [clr_get, hsr]; simp only [Option.map_some, hm, Bool.false_eq_true, if_false]); apply List.ext_getElem?; intro j; rw [hole_get h1, clr_get, clr_get, hole_get hsr]; by_cases hj : j = r
    · subst hj; rw [if_pos rfl, if_pos rfl]; simp only [Option.map_some, hm, Bool.false_eq_true, if_false, setAt_prune, D.prune_prune]; rw [prune_congr (q := fun x => keepQ m x && notThrough j q x) (q' := fun x => notThrough j q x && keepQ m x) (fun x => Bool.and_comm _ _)]
    · rw [if_neg hj, if_neg hj]; simp only [Option.map_map]; cases s[j]? with
      | none => rfl
      | some e => simp only [Option.map_some, Function.comp_def]; cases m.getD j false <;> simp [D.prune, D.prune_prune]; exact prune_congr (fun x => Bool.and_comm _ _) _
theorem clr_view {hid : List Bool} {s s' : List D} (hl : s.length = s'.length) (h : ∀ r, hid.getD r false = false → s[r]? = s'[r]?) : clr hid s = clr hid s' := by
  apply List.ext_getElem?; intro r; rw [clr_get, clr_get]; cases hr : hid.getD r false with
  | false => rw [h r hr]
  | true =>
    by_cases hlt : r < s.length
    · rw [List.getElem?_eq_getElem hlt, List.getElem?_eq_getElem (hl ▸ hlt)]; rfl
    · rw [List.getElem?_eq_none (by omega), List.getElem?_eq_none (by omega)]
theorem clr_clr {hid m : List Bool} (h : ∀ r, m.getD r false = true → hid.getD r false = true) (s : List D) : clr hid (clr m s) = clr hid s := by
  apply List.ext_getElem?; intro r; rw [clr_get, clr_get, clr_get, Option.map_map]; cases s[r]? with
  | none => rfl
  | some d =>
    simp only [Option.map_some, Function.comp_def]; cases hr : hid.getD r false with
    | true => rfl
    | false =>
      have hm : m.getD r false = false := by
        cases hm : m.getD r false with
        | false => rfl
        | true => rw [h r hm] at hr; cases hr
      simp only [hm, Bool.false_eq_true, if_false, D.prune_prune]; rw [prune_congr]; intro x; cases x with
      | ref r p => simp only [keepQ]; cases hx : m.getD r false <;> simp; have := h r hx; simpa using this
      | ptr r p i j => simp only [keepQ]; cases hx : m.getD r false <;> simp; have := h r hx; simpa using this
      | sub r p i n => simp only [keepQ]; cases hx : m.getD r false <;> simp; have := h r hx; simpa using this
      | _ => rfl
theorem hole_agree {hid : List Bool} {r : Nat} {q : Path} {s s' : List D} (hr : hid.getD r false = false) (h : ∀ r, hid.getD r false = false → s[r]? = s'[r]?) : ∀ j, hid.getD j false = false → (holeS r q s)[j]? = (holeS r q s')[j]? := by
  intro j hj; cases hsr : s[r]? with
  | none => have h1 : s'[r]? = none := (by rw [← h r hr]; exact hsr); unfold holeS; rw [hsr, h1]; exact h j hj
  | some d => have h1 : s'[r]? = some d := (by rw [← h r hr]; exact hsr); rw [hole_get hsr, hole_get h1, h j hj]
theorem RelI.hole {w0 : Base} {I0 : Nat → Prop} {s : List D} {a : Act} {w : World} {I : Nat → Prop} {Fs : Nat → List Nat} (h : RelI w0 I0 s a.tmps w I Fs) {r : Nat} {q : Path} {d : D} {sz : Nat} {rows : List (List D)} (hs : s[r]? = some d) (ht : treeAt d q = some (.sl true sz rows)) : ∃ Fs', RelI w0 I0 (holeS r q s) a.tmps w I Fs' ∧ ∀ r b, b ∈ Fs' r → b ∈ Fs r := by
  obtain ⟨u0, hu, hT⟩ := h.slot0 hs; obtain ⟨u, F', ρ', h1, _⟩ := val_T q d hT ht; obtain ⟨t', s', Fs', F, _, hK, hr, _, _, hsub, _⟩ := steal_T h (r := r) (q := q) (u := u) ⟨d, u0, _, hs, hu, ht, rfl, h1⟩ (KK := fun _ s' => s' = holeS r q s) (by
    unfold stealK holeS; simp only [hs, ht])
  subst hK; exact ⟨Fs', hr, hsub⟩
end Go.V
namespace Go.V
open Go.RowKit
theorem recomb2 {w0 : Base} {I0 : Nat → Prop} {s sv : List D} {tm : Array Value} {w : World} {I : Nat → Prop} {Fs Fv : Nat → List Nat} (h : RelI w0 I0 s tm w I Fs) (hv : RelI w0 I0 sv tm w I Fv) (hsub : ∀ r b, b ∈ Fv r → b ∈ Fs r) {cl : List Bool} {d : D} {s1 : List D} {I' : Nat → Prop} {Fs' : Nat → List Nat} {F : List Nat} {v : Value} {w' : World}
    (hun : ∀ x u, ρS (clr cl sv) tm w' x u → ρS (clr cl s) tm w' x u) (hs : clr cl s1 = clr cl sv) (h' : RelI w0 I0 s1 tm w' I' Fs') (hT : T I' w' d (ρS s1 tm w') v F) (hF : Fresh w0 w' I' Fs' F) (hfr : Frame Fv I I' Fs' F s1 w w') :
    RelI w0 I0 (clr cl s) tm w' I' (fun r => if cl.getD r false then [] else Fs r) ∧ T I' w' (d.prune (keepQ cl)) (ρS (clr cl s) tm w') v F ∧ Fresh w0 w' I' (fun r => if cl.getD r false then [] else Fs r) F := by
  obtain ⟨f1, f2, f3, f4, f5⟩ := hfr; have hc := h.clr cl; have hdis : ∀ b, b ∈ F → ∀ r, b ∉ (if cl.getD r false then [] else Fs r) := by
    intro b hb r hr; cases hcl : cl.getD r false with
    | true => rw [hcl, if_pos rfl] at hr; cases hr
    | false =>
      simp only [hcl, Bool.false_eq_true, if_false] at hr; rcases f3 b hb with hn | ⟨r', hr'⟩
      · have := (h.own r b hr).2.1; omega
      · obtain rfl := h.disj r r' b hr (hsub r' b hr'); rcases f5 r with hu | he
        · have h1 : (clr cl s1)[r]? = some .undef := (by rw [clr_get, hu]; simp [D.prune]); rw [hs, clr_get] at h1; cases hsr : sv[r]? with
          | none => simp [hsr] at h1
          | some d0 => simp only [hsr, Option.map_some, hcl, Bool.false_eq_true, if_false, Option.some.injEq] at h1; obtain ⟨u, hu, hT0⟩ := hv.slot0 hsr; rw [T.nofoot d0 hT0 (prune_undef h1)] at hr'; cases hr'
        · exact (hF.2 b hb).2.2.2 r (by rw [he]; exact hr')
  have hsize : w.heap.size ≤ w'.heap.size := by
    apply Nat.le_of_not_lt; intro hlt; by_cases hb : w'.heap.size ∈ F
    · exact absurd (hF.2 _ hb).2.1 (by omega)
    · have := f4 _ hlt hb; rw [Array.getElem?_eq_none (Nat.le_refl _)] at this; rw [Array.getElem?_eq_getElem hlt] at this; cases this
  have hbel : w0.Keeps w w' := ⟨h'.below.os.trans h.below.os.symm, h'.below.tape.trans h.below.tape.symm, h'.below.output.trans h.below.output.symm, hsize, fun k hk => (h'.below.block k hk).trans (h.below.block k hk).symm⟩
  have hk : ∀ x, (I x ∨ ∃ r, x ∈ (if cl.getD r false then [] else Fs r)) → w'.heap[x]? = w.heap[x]? := by
    intro x hx; rcases hx with hx | ⟨r, hr⟩
    · exact f4 x (h.imm x hx) (fun hxF => (hF.2 x hxF).2.2.1 (f1 x hx))
    · refine f4 x ?_ (fun hxF => hdis x hxF r hr); split at hr
      · cases hr
      · exact (h.own r x hr).2.1
  have h2 := (hc.same hbel hk).immMore (I' := I') f1 (fun b hb => (f2 b hb).imp_right (fun hn => ⟨Base.N_of h.below hn, h'.imm b hb, fun r hr => by
    split at hr
    · cases hr
    · have := (h.own r b hr).2.1; omega⟩))
  refine ⟨h2, T.turn (fun x u hq hx => ?_) d hT, ⟨hF.1, fun b hb => ⟨(hF.2 b hb).1, (hF.2 b hb).2.1, (hF.2 b hb).2.2.1, fun r hr => hdis b hb r hr⟩⟩⟩; have h3 := ρS.clr hq hx; rw [hs] at h3; exact hun x u h3
section
variable (Ctr : CtrT)
def NF (V : List D) (cl : List Bool) (v : VOp) (d : D) : Prop := ∃ s', clr cl s' = clr cl V ∧ evalK Ctr V v fun d' s'' => d' = d ∧ s'' = s'
def noD : D := .v (.tuple #[])
def DF (V : List D) (cl : List Bool) (o : VO) (d : D) : Prop :=
  match o.guard with
  | none => NF Ctr V cl o.op d
  | some (g, want) => match lkT V g with
    | .v (.bool b) => (b = want → NF Ctr V cl o.op d) ∧ (b ≠ want → d = noD)
    | .v _ => d = noD
    | _ => False
end
theorem drawE_pick {Ctr : CtrT} {V : List D} {cl : List Bool} {v : VOp} {K : D → Prop} (hf : v.framed = true) (h : drawE Ctr V cl v K) : ∃ d, K d ∧ NF Ctr V cl v d := by obtain ⟨d, s', ⟨h1, h2⟩, h3⟩ := evalK_pick hf h; exact ⟨d, h2, s', h1, h3⟩
theorem drawK_pick {Ctr : CtrT} {V : List D} {cl : List Bool} {o : VO} {K : D → Prop} (hf : o.op.framed = true) (h : drawK Ctr V cl o K) : ∃ d, K d ∧ DF Ctr V cl o d := by
  unfold drawK at h; unfold DF; split at h
  · rename_i hg; simp only [hg]; exact drawE_pick hf h
  · rename_i g want hg; simp only [hg]; split at h
    · rename_i b e; simp only [e]; by_cases hb : b = want
      · obtain ⟨d, h1, h2⟩ := drawE_pick hf (h.1 hb); exact ⟨d, h1, fun _ => h2, fun hn => absurd hb hn⟩
      · exact ⟨noD, h.2 hb, fun hn => absurd hn hb, fun _ => rfl⟩
    · rename_i x hx e; refine ⟨noD, h, ?_⟩; split
      · rename_i b e2; exact absurd (D.v.inj (e.symm.trans e2)) (hx b)
      · rfl
      · rename_i h1 h2; exact h2 x e
    · exact h.elim
/-! ### The data that are there so far -/
theorem setO_len {s : List D} {dst : Option Nat} {d : D} : (setO s dst d).length = s.length := by cases dst <;> simp [setO]
theorem setO_ne {s : List D} {dst : Option Nat} {d : D} {r : Nat} (h : dst ≠ some r) : (setO s dst d)[r]? = s[r]? := by
  cases dst with
  | none => rfl
  | some t => simp only [setO]; rw [List.getElem?_set_ne (fun e => h (by rw [e]))]
theorem setO_eq {s : List D} {d : D} {r : Nat} : (setO s (some r) d)[r]? = (s[r]?).map fun _ => d := by
  simp only [setO]; by_cases h : r < s.length
  · rw [List.getElem?_set_self h, List.getElem?_eq_getElem h]; rfl
  · rw [List.getElem?_eq_none (by simpa using h), List.getElem?_eq_none (by omega)]; rfl
def ovE (S : Nat → Bool) : List (DOp × D) → List D → List D
  | [], s => s
  | e :: E, s => ovE S E (if S e.1.idx then setO s e.1.vo.dst e.2 else s)
theorem ovE_len {S : Nat → Bool} : ∀ (E : List (DOp × D)) (s : List D), (ovE S E s).length = s.length
  | [], s => rfl
  | e :: E, s => by
    simp only [ovE]; rw [ovE_len E]; split
    · exact setO_len
    · rfl
theorem ovE_app {S : Nat → Bool} : ∀ (E E' : List (DOp × D)) (s : List D), ovE S (E ++ E') s = ovE S E' (ovE S E s)
  | [], E', s => rfl
  | e :: E, E', s => by simp only [List.cons_append, ovE, ovE_app E E']
theorem ovE_agree {S S' : Nat → Bool} {r : Nat} : ∀ (E : List (DOp × D)) (s s' : List D), (∀ e, e ∈ E → e.1.vo.dst = some r → S e.1.idx = S' e.1.idx) → s[r]? = s'[r]? → (ovE S E s)[r]? = (ovE S' E s')[r]?
  | [], s, s', _, h => h
  | e :: E, s, s', hE, h => by
    simp only [ovE]; refine ovE_agree E _ _ (fun e' he' => hE e' (by simp [he'])) ?_; by_cases hd : e.1.vo.dst = some r
    · have := hE e (by simp) hd; rw [← this]; cases S e.1.idx with
      | true => simp only [if_true]; rw [hd, setO_eq, setO_eq, h]
      | false => simpa using h
    · have h1 : ∀ (b : Bool) (s : List D), (if b = true then setO s e.1.vo.dst e.2 else s)[r]? = s[r]? := fun b s => by
        cases b with
        | true => simp only [if_true]; exact setO_ne hd
        | false => simp
      rw [h1, h1, h]
theorem ovE_out {S : Nat → Bool} {r : Nat} : ∀ (E : List (DOp × D)) (s : List D), (∀ e, e ∈ E → e.1.vo.dst = some r → S e.1.idx = false) → (ovE S E s)[r]? = s[r]?
  | [], s, _ => rfl
  | e :: E, s, hE => by
    simp only [ovE]; rw [ovE_out E _ (fun e' he' => hE e' (by simp [he']))]; by_cases hd : e.1.vo.dst = some r
    · rw [hE e (by simp) hd]; simp
    · split
      · exact setO_ne hd
      · rfl
theorem ovE_in {S : Nat → Bool} {r : Nat} : ∀ (E : List (DOp × D)) (s : List D) (e : DOp × D), e ∈ E → E.Pairwise (fun e e' => e.1.vo.dst = none ∨ e.1.vo.dst ≠ e'.1.vo.dst) → e.1.vo.dst = some r → S e.1.idx = true → (ovE S E s)[r]? = (s[r]?).map fun _ => e.2
  | [], s, e, he, _, _, _ => by cases he
  | e' :: E, s, e, he, hp, hd, hS => by
    simp only [ovE]; rw [List.pairwise_cons] at hp; rcases List.mem_cons.1 he with rfl | he
    · rw [hS, if_pos rfl, ovE_out E _ (fun e' he' hd' => by
        rcases hp.1 e' he' with h | h
        · rw [hd] at h; cases h
        · exact absurd (hd.trans hd'.symm) h)]
      rw [hd, setO_eq]
    · rw [ovE_in E _ e he hp.2 hd hS]; have hne : e'.1.vo.dst ≠ some r := by
        intro h; rcases hp.1 e he with h' | h'
        · rw [h] at h'; cases h'
        · exact h' (h.trans hd.symm)
      split
      · rw [setO_ne hne]
      · rfl
def orM : List Bool → List Bool → List Bool
  | [], m => m
  | m, [] => m
  | a :: x, b :: y => (a || b) :: orM x y
theorem orM_get : ∀ (x y : List Bool) (r : Nat), (orM x y).getD r false = (x.getD r false || y.getD r false)
  | [], m, r => by simp [orM]
  | a :: x, [], r => by simp [orM]
  | a :: x, b :: y, 0 => by simp [orM]
  | a :: x, b :: y, r + 1 => by have := orM_get x y r; simpa [orM] using this
def clE (S : Nat → Bool) : List (DOp × D) → List Bool
  | [] => []
  | e :: E => orM (if S e.1.idx then e.1.cl else []) (clE S E)
theorem clE_get {S : Nat → Bool} {r : Nat} : ∀ (E : List (DOp × D)), (clE S E).getD r false = true ↔ ∃ e, e ∈ E ∧ S e.1.idx = true ∧ e.1.cl.getD r false = true
  | [] => by simp [clE]
  | e :: E => by
    simp only [clE, orM_get, Bool.or_eq_true, clE_get E, List.mem_cons]; constructor
    · rintro (h | ⟨e', h1, h2, h3⟩)
      · cases hS : S e.1.idx with
        | true => rw [hS, if_pos rfl] at h; exact ⟨e, .inl rfl, hS, h⟩
        | false => rw [hS] at h; simp at h
      · exact ⟨e', .inr h1, h2, h3⟩
    · rintro ⟨e', rfl | h1, h2, h3⟩
      · rw [h2, if_pos rfl]; exact .inl h3
      · exact .inr ⟨e', h1, h2, h3⟩
def hwS (hw : Option (Nat × Nat × Path)) (S : Nat → Bool) (s : List D) : List D := match hw with
  | some (i, r, q) => if S i then holeS r q s else s
  | none => s
def sig (E : List (DOp × D)) (hw : Option (Nat × Nat × Path)) (S : Nat → Bool) (s : List D) : List D := clr (clE S E) (hwS hw S (ovE S E s))
theorem hwS_len {hw S s} : (hwS hw S s).length = s.length := by
  unfold hwS; split
  · split
    · exact hole_len
    · rfl
  · rfl
theorem place_app {Ctr : CtrT} {start hid cl : List Bool} {A : List D} {sz bytes : Nat} {x y : Operand} {K : Nat → Path → D → Prop} (hy : ∀ t, y = .tmp t → cl.getD t false = true) (hh : ∀ r, hid.getD r false = true → start.getD r false = true) (h : placeK start (clr hid A) sz bytes x y K) :
    ∃ r q rows d0 rows0, start.getD r false = false ∧ A[r]? = some d0 ∧ treeAt d0 q = some (.sl true sz rows0) ∧ K r q (.sl true sz rows) ∧ evalK Ctr A (.app sz bytes x y) fun d' s' => d' = .sl true sz rows ∧ clr cl s' = clr cl (holeS r q A) := by
  -- what a slot of the view says of the slot
  have slot : ∀ (X : List D) (t : Nat) (d : D), (clr hid X)[t]? = some d → d = .undef ∨ (hid.getD t false = false ∧ ∃ e, X[t]? = some e ∧ d = e.prune (keepQ hid)) := by
    intro X t d h; rw [clr_get] at h; cases hX : X[t]? with
    | none => simp [hX] at h
    | some e =>
      simp only [hX, Option.map_some, Option.some.injEq] at h; split at h
      · exact .inl h.symm
      · rename_i hn; exact .inr ⟨by simpa using hn, e, rfl, h.symm⟩
  have pref : ∀ (e : D) (r : Nat) (q : Path), e.prune (keepQ hid) = .ref r q → e = .ref r q := by
    intro e r q h; cases e with
    | ref r p => simp only [D.prune] at h; split at h <;> first | exact h | cases h
    | ptr r p i j => simp only [D.prune] at h; split at h <;> cases h
    | sub r p i n => simp only [D.prune] at h; split at h <;> cases h
    | _ => simp [D.prune] at h
  have tkref : ∀ (X : List D) (x : Operand) (r : Nat) (q : Path), (tk (clr hid X) x).1 = .ref r q → tk X x = (.ref r q, X) := by
    intro X x r q h; cases x with
    | tmp t =>
      simp only [tk, tkT] at h ⊢; cases hs : (clr hid X)[t]? with
      | none => simp [hs] at h
      | some d =>
        simp only [hs] at h; have hd : d = .ref r q := by
          cases d with
          | sl own sz rows => cases own <;> simp at h
          | box tag cells => simp at h
          | _ => simpa using h
        subst hd; rcases slot X t _ hs with h' | ⟨_, e, h1, h2⟩
        · cases h'
        · rw [h1, pref e r q h2.symm]; rfl
    | const v => simp only [tk, lk, ofV] at h; split at h <;> first | (split at h <;> simp at h; done) | (simp at h; done) | (unfold ofC at h; split at h <;> simp at h)
    | func f => simp [tk, lk] at h
    | global g => simp [tk, lk] at h
  have psub : ∀ (e : D) (r : Nat) (q : Path) (i n : Nat), e.prune (keepQ hid) = .sub r q i n → e = .sub r q i n := by
    intro e r q i n h; cases e with
    | ref r p => simp only [D.prune] at h; split at h <;> cases h
    | ptr r p i j => simp only [D.prune] at h; split at h <;> cases h
    | sub r p i n => simp only [D.prune] at h; split at h <;> first | exact h | cases h
    | _ => simp [D.prune] at h
  have tksub : ∀ (X : List D) (x : Operand) (r : Nat) (q : Path) (i n : Nat), (tk (clr hid X) x).1 = .sub r q i n → tk X x = (.sub r q i n, X) := by
    intro X x r q i n h; cases x with
    | tmp t =>
      simp only [tk, tkT] at h ⊢; cases hs : (clr hid X)[t]? with
      | none => simp [hs] at h
      | some d =>
        simp only [hs] at h; have hd : d = .sub r q i n := by
          cases d with
          | sl own sz rows => cases own <;> simp at h
          | box tag cells => simp at h
          | _ => simpa using h
        subst hd; rcases slot X t _ hs with h' | ⟨_, e, h1, h2⟩
        · cases h'
        · rw [h1, psub e r q i n h2.symm]; rfl
    | const v => simp only [tk, lk, ofV] at h; split at h <;> first | (split at h <;> simp at h; done) | (simp at h; done) | (unfold ofC at h; split at h <;> simp at h)
    | func f => simp [tk, lk] at h
    | global g => simp [tk, lk] at h
  have own1 : ∀ (X : List D) (r : Nat) (q : Path) (d : D) (sz : Nat) (rows : List (List D)), (clr hid X)[r]? = some d → treeAt d q = some (.sl true sz rows) → ∃ e, X[r]? = some e ∧ hid.getD r false = false ∧ treeAt e q = some (.sl true sz rows) := by
    intro X r q d sz rows h1 h2; rcases slot X r _ h1 with rfl | ⟨hr, e, h3, rfl⟩
    · exact (treeAt_undef q _ _ h2 rfl).elim
    · obtain ⟨t, q', m1, m2⟩ := tree_prune_rev q e _ h2; have : t = .sl true sz rows := by
        cases t with
        | sl own z r => simpa [D.prune, eq_comm] using m2
        | ref r p => simp only [D.prune] at m2; split at m2 <;> cases m2
        | ptr r p i j => simp only [D.prune] at m2; split at m2 <;> cases m2
        | sub r p i n => simp only [D.prune] at m2; split at m2 <;> cases m2
        | _ => simp [D.prune] at m2
      subst this; exact ⟨e, h3, hr, m1⟩
  unfold placeK at h; split at h
  · rename_i r q ex; obtain ⟨hst, h⟩ := h; have hX := tkref A x r q ex; unfold stealK at h; split at h
    · rename_i d1 hd1; split at h
      · rename_i sz' rows0 ht; simp only at h; obtain ⟨rfl, h⟩ := h; obtain ⟨d0, hA, hhr, ht0⟩ := own1 A r q d1 sz' rows0 hd1 ht; have hV1 : (pruneL (notThrough r q) (clr hid A)).set r (setAt (d1.prune (notThrough r q)) q .undef) = clr hid (holeS r q A) := by rw [← hole_clr hhr]; unfold holeS; rw [hd1]
        rw [hV1] at h; generalize hXX : holeS r q A = X at h; have fin : ∀ (rows : List (List D)) (s2 : List D), clr cl s2 = clr cl X → addK X sz' y (fun more s' => more = rows ∧ s' = s2) → (rows0.length + rows.length) * (bytes + 1) ≤ 2 ^ 40 → evalK Ctr A (.app sz' bytes x y) fun d' s' => d' = .sl true sz' (rows0 ++ rows) ∧ clr cl s' = clr cl X := by
          intro rows s2 hs2 hadd hb; simp only [evalK, growK]; rw [hX]; simp only [stealK, hA, ht0]; refine ⟨trivial, ?_⟩; have he : (pruneL (notThrough r q) A).set r (setAt (d0.prune (notThrough r q)) q .undef) = X := by rw [← hXX]; unfold holeS; rw [hA]
          rw [he]; refine addK_mono ?_ hadd; rintro m s ⟨rfl, rfl⟩; exact ⟨hb, rfl, hs2⟩
        have hpr : ∀ (t : Nat), y = .tmp t → t < X.length → clr cl ((pruneL (notRoot t) X).set t .undef) = clr cl X := by
          intro t ht hlt; have hcl := hy t ht; apply List.ext_getElem?; intro j; rw [clr_get, clr_get]; by_cases hj : j = t
          · subst hj; rw [List.getElem?_set_self (by rw [pruneL_len]; exact hlt), List.getElem?_eq_getElem hlt]; simp only [Option.map_some, hcl, if_true]
          · rw [List.getElem?_set_ne (Ne.symm hj), pruneL_get]; cases X[j]? with
            | none => rfl
            | some e =>
              simp only [Option.map_some, D.prune_prune]; have : e.prune (fun x => notRoot t x && keepQ cl x) = e.prune (keepQ cl) := prune_congr (fun z => by
                cases z with
                | ref r' p =>
                  simp only [notRoot, keepQ]; by_cases hr : r' = t
                  · subst hr; simp only [hcl]; simp
                  · simp [hr]
                | ptr r' p i j =>
                  simp only [notRoot, keepQ]; by_cases hr : r' = t
                  · subst hr; simp only [hcl]; simp
                  · simp [hr]
                | sub r' p i n =>
                  simp only [notRoot, keepQ]; by_cases hr : r' = t
                  · subst hr; simp only [hcl]; simp
                  · simp [hr]
                | _ => rfl) e
              rw [this]
        -- what is added
        have slY : ∀ (t : Nat) (own : Bool) (sz2 : Nat) (rows : List (List D)), (tk (clr hid X) (.tmp t)).1 = .sl own sz2 rows → X[t]? = some (.sl own sz2 rows) := by
          intro t own sz2 rows e; simp only [tk, tkT] at e; cases hs : (clr hid X)[t]? with
          | none => simp [hs] at e
          | some d =>
            simp only [hs] at e; have hd : d = .sl own sz2 rows := by
              cases d with
              | sl own' sz rows => cases own' <;> simpa using e
              | box tag cells => simp at e
              | _ => simpa using e
            subst hd; rcases slot X t _ hs with h' | ⟨_, e', h1, h2⟩
            · cases h'
            · obtain ⟨rr, hrr⟩ : ∃ rr, e' = .sl own sz2 rr := by
                cases e' with
                | sl o z r => simp only [D.prune, D.sl.injEq] at h2; obtain ⟨rfl, rfl, rfl⟩ := h2; exact ⟨_, rfl⟩
                | ref r p => simp only [D.prune] at h2; split at h2 <;> cases h2
                | ptr r p i j => simp only [D.prune] at h2; split at h2 <;> cases h2
                | sub r p i n => simp only [D.prune] at h2; split at h2 <;> cases h2
                | _ => simp [D.prune] at h2
              subst hrr; simp only [D.prune, D.sl.injEq] at h2; rw [h1, h2.2.2]
        have noSl : ∀ (y : Operand) (own : Bool) (sz2 : Nat) (rows : List (List D)), (tk (clr hid X) y).1 = .sl own sz2 rows → ∃ t, y = .tmp t := by
          intro y own sz2 rows e; cases y with
          | tmp t => exact ⟨t, rfl⟩
          | const v => simp only [tk, lk, ofV] at e; split at e <;> first | (split at e <;> simp at e; done) | (simp at e; done) | (unfold ofC at e; split at e <;> simp at e)
          | func f => simp [tk, lk] at e
          | global g => simp [tk, lk] at e
        unfold addK at h; split at h
        · rename_i sz2 rows e; obtain ⟨h1, h2, h3⟩ := h; obtain ⟨t, rfl⟩ := noSl y _ _ _ e; have hXt := slY t _ _ _ e; have htk : tk X (.tmp t) = (.sl true sz2 rows, (pruneL (notRoot t) X).set t .undef) := by simp [tk, tkT, hXt]
          refine ⟨r, q, rows0 ++ rows, d0, rows0, hst, hA, ht0, h3, ?_⟩; rw [← hXX] at *; exact fin rows _ (hpr t rfl (List.getElem?_eq_some_iff.1 hXt).1) (by unfold addK; rw [htk]; exact ⟨h1, rfl, rfl⟩) h2
        · rename_i sz2 rows e; obtain ⟨h1, h2, h3⟩ := h; obtain ⟨t, rfl⟩ := noSl y _ _ _ e; have hXt := slY t _ _ _ e; have htk : tk X (.tmp t) = (.sl false sz2 rows, X) := by simp [tk, tkT, hXt, D.owny]
          refine ⟨r, q, rows0 ++ rows, d0, rows0, hst, hA, ht0, h3, ?_⟩; rw [← hXX] at *; exact fin rows _ rfl (by unfold addK; rw [htk]; exact ⟨h1, rfl, rfl⟩) h2
        · rename_i e; obtain ⟨h2, h3⟩ := h; have htk : tk X y = (.nils, X) := by
            cases y with
            | tmp t =>
              simp only [tk, tkT] at e ⊢; cases hs : (clr hid X)[t]? with
              | none => simp [hs] at e
              | some d =>
                simp only [hs] at e; have hd : d = .nils := by
                  cases d with
                  | sl own' sz rows => cases own' <;> simp at e
                  | box tag cells => simp at e
                  | _ => simpa using e
                subst hd; rcases slot X t _ hs with h' | ⟨_, e', h1, h2⟩
                · cases h'
                · have : e' = .nils := by
                    cases e' with
                    | nils => rfl
                    | ref r p => simp only [D.prune] at h2; split at h2 <;> cases h2
                    | ptr r p i j => simp only [D.prune] at h2; split at h2 <;> cases h2
                    | sub r p i n => simp only [D.prune] at h2; split at h2 <;> cases h2
                    | _ => simp [D.prune] at h2
                  rw [h1, this]; simp [D.owny]
            | const v => simp only [tk] at e ⊢; rw [show lk (clr hid X) (.const v) = lk X (.const v) from rfl] at e; rw [e]
            | func f => simp [tk, lk] at e
            | global g => simp [tk, lk] at e
          refine ⟨r, q, rows0 ++ [], d0, rows0, hst, hA, ht0, h3, ?_⟩; rw [← hXX] at *; exact fin [] _ rfl (by unfold addK; rw [htk]; exact ⟨rfl, rfl⟩) h2
        · rename_i r2 q2 e; split at h
          · rename_i sz2 rows e1; obtain ⟨h1, hno, h2, h3⟩ := h; have htk := tkref X y r2 q2 e; have hsl : slAt X (.ref r2 q2) = some (sz2, rows) := by
              simp only [slAt] at e1 ⊢; cases hs : (clr hid X)[r2]? with
              | none => simp [hs] at e1
              | some d =>
                simp only [hs] at e1; split at e1
                · rename_i ht2; simp only [Option.some.injEq, Prod.mk.injEq] at e1; obtain ⟨rfl, rfl⟩ := e1; obtain ⟨e', k1, _, k2⟩ := own1 X r2 q2 d _ _ hs ht2; rw [k1]; simp only [k2]
                · cases e1
            refine ⟨r, q, rows0 ++ rows, d0, rows0, hst, hA, ht0, h3, ?_⟩; rw [← hXX] at *; exact fin rows _ rfl (by unfold addK; rw [htk]; simp only [hsl]; exact ⟨h1, hno, trivial, trivial⟩) h2
          · exact h.elim
        · rename_i r2 q2 i2 n2 e; split at h
          · rename_i sz2 rows e1; obtain ⟨h1, hno, h2, h3⟩ := h; have htk := tksub X y r2 q2 i2 n2 e; have hsl : slAt X (.sub r2 q2 i2 n2) = some (sz2, rows) := by
              simp only [slAt] at e1 ⊢; cases hs : (clr hid X)[r2]? with
              | none => simp [hs] at e1
              | some d =>
                simp only [hs] at e1; split at e1
                · rename_i ht2; obtain ⟨e', k1, _, k2⟩ := own1 X r2 q2 d _ _ hs ht2; rw [k1]; simp only [k2]; exact e1
                · cases e1
            refine ⟨r, q, rows0 ++ rows, d0, rows0, hst, hA, ht0, h3, ?_⟩; rw [← hXX] at *; exact fin rows _ rfl (by unfold addK; rw [htk]; simp only [hsl]; exact ⟨h1, hno, trivial, trivial⟩) h2
          · exact h.elim
        · exact h.elim
      · exact h.elim
      · exact h.elim
    · exact h.elim
  · exact h.elim
end Go.V
namespace Go.V
open Go.RowKit
/-! ### Which operations come before which -/
def befStep (acc : List Nat) (o : Oper) : Nat := o.after.toList.foldl (fun m e => if Region.binds .any e then m ||| (1 <<< e.on) ||| acc.getD e.on 0 else m) 0
def befGo : List Oper → List Nat → List Nat
  | [], acc => acc
  | o :: os, acc => befGo os (acc ++ [befStep acc o])
def befs (ops : Array Oper) : List Nat := befGo ops.toList []
theorem befStep_spec {acc : List Nat} {x : Nat} : ∀ (l : List Edge) (m : Nat), (l.foldl (fun m e => if Region.binds .any e then m ||| (1 <<< e.on) ||| acc.getD e.on 0 else m) m).testBit x = true → m.testBit x = true ∨ ∃ e ∈ l, Region.binds .any e = true ∧ (x = e.on ∨ (acc.getD e.on 0).testBit x = true)
  | [], m, h => .inl h
  | e :: l, m, h => by
    simp only [List.foldl_cons] at h; rcases befStep_spec l _ h with h | ⟨e', h1, h2⟩
    · split at h
      · rename_i hb; simp only [Nat.testBit_or, Bool.or_eq_true] at h; rcases h with (h | h) | h
        · exact .inl h
        · refine .inr ⟨e, by simp, hb, .inl ?_⟩; rw [Nat.one_shiftLeft, Nat.testBit_two_pow] at h; simpa [eq_comm] using h
        · exact .inr ⟨e, by simp, hb, .inr h⟩
      · exact .inl h
    · exact .inr ⟨e', by simp [h1], h2⟩
theorem befGo_pre : ∀ (l : List Oper) (acc : List Nat) (k : Nat), k < acc.length → (befGo l acc).getD k 0 = acc.getD k 0
  | [], acc, k, _ => rfl
  | o :: l, acc, k, h => by simp only [befGo]; rw [befGo_pre l _ k (by simp; omega)]; simp only [List.getD_eq_getElem?_getD]; rw [List.getElem?_append_left h]
theorem befGo_spec : ∀ (l : List Oper) (acc : List Nat) (k x : Nat), acc.length ≤ k → ((befGo l acc).getD k 0).testBit x = true → ∃ o, l[k - acc.length]? = some o ∧ ∃ e ∈ o.after.toList, Region.binds .any e = true ∧ (x = e.on ∨ ((befGo l acc).getD e.on 0).testBit x = true)
  | [], acc, k, x, hk, h => by simp only [befGo, List.getD_eq_getElem?_getD] at h; rw [List.getElem?_eq_none (by omega)] at h; simp at h
  | o :: l, acc, k, x, hk, h => by
    simp only [befGo] at h ⊢; by_cases hk' : k = acc.length
    · subst hk'; rw [befGo_pre l _ _ (by simp)] at h; simp only [List.getD_eq_getElem?_getD] at h; rw [List.getElem?_append_right (Nat.le_refl _)] at h; simp only [Nat.sub_self, List.getElem?_cons_zero, Option.getD_some] at h; refine ⟨o, by simp, ?_⟩; rcases befStep_spec _ _ h with h | ⟨e, h1, h2, h3⟩
      · simp at h
      · refine ⟨e, h1, h2, h3.imp_right (fun h => ?_)⟩; have hlt : e.on < acc.length := by apply Nat.lt_of_not_le; intro hle; simp only [List.getD_eq_getElem?_getD] at h; rw [List.getElem?_eq_none hle] at h; simp at h
        rw [befGo_pre l _ _ (by simp; omega)]; simp only [List.getD_eq_getElem?_getD] at h ⊢; rw [List.getElem?_append_left hlt]; exact h
    · obtain ⟨o', h1, h2⟩ := befGo_spec l _ k x (by simp; omega) h; refine ⟨o', ?_, h2⟩; rw [List.length_append, List.length_singleton] at h1; rw [show k - acc.length = (k - (acc.length + 1)) + 1 by omega, List.getElem?_cons_succ]; exact h1
theorem befs_spec {ops : Array Oper} {k x : Nat} (h : ((befs ops).getD k 0).testBit x = true) : ∃ o, ops[k]? = some o ∧ ∃ e ∈ o.after.toList, Region.binds .any e = true ∧ (x = e.on ∨ ((befs ops).getD e.on 0).testBit x = true) := by obtain ⟨o, h1, h2⟩ := befGo_spec ops.toList [] k x (Nat.zero_le _) h; exact ⟨o, by simpa using h1, h2⟩
def subM : List Bool → List Bool → Bool
  | [], _ => true
  | x :: a, [] => !x && subM a []
  | x :: a, y :: b => (!x || y) && subM a b
theorem subM_spec : ∀ (a b : List Bool), subM a b = true → ∀ r, a.getD r false = true → b.getD r false = true
  | [], b, _, r, h => by simp at h
  | x :: a, [], h, r, hr => by
    simp only [subM, Bool.and_eq_true, Bool.not_eq_true'] at h; cases r with
    | zero => simp [h.1] at hr
    | succ r => have := subM_spec a [] h.2 r (by simpa using hr); simp at this
  | x :: a, y :: b, h, r, hr => by
    simp only [subM, Bool.and_eq_true, Bool.or_eq_true, Bool.not_eq_true'] at h; cases r with
    | zero =>
      rcases h.1 with h1 | h1
      · simp [h1] at hr
      · simpa using h1
    | succ r => have := subM_spec a b h.2 r (by simpa using hr); simpa using this
def okE (ops : Array Oper) (H : List DOp) (bs : List Nat) (start : List Bool) (nh : Nat) (pre : List Nat) (o : DOp) : Bool :=
  (match o.vo.dst with | some t => start.getD t false | none => true) && subM o.hid start &&
  H.all (fun e => match e.vo.dst with | none => true | some t => o.hid.getD t false || (pre.contains e.idx && (bs.getD o.idx 0).testBit e.idx)) &&
  (match ops[o.idx]? with | some op => op.after.toList.all (fun ed => !Region.binds .any ed || pre.contains ed.on) | none => false) &&
  H.all (fun k => k.idx == o.idx || (bs.getD o.idx 0).testBit k.idx || subM o.cl k.hid) &&
  (List.range o.cl.length).all (fun r => !o.cl.getD r false || H.any (fun e => e.vo.dst == some r && (bs.getD o.idx 0).testBit e.idx)) &&
  decide (o.idx < nh) && !pre.contains o.idx && H.all (fun e => e.idx == o.idx || e.vo.dst != o.vo.dst || e.vo.dst.isNone)
def okL (ops : Array Oper) (H : List DOp) (bs : List Nat) (start : List Bool) (nh : Nat) : List Nat → List DOp → Bool
  | _, [] => true
  | pre, o :: R => okE ops H bs start nh pre o && okL ops H bs start nh (o.idx :: pre) R
structure OkE (ops : Array Oper) (E : List (DOp × D)) (start : List Bool) (nh : Nat) (P : List (DOp × D)) (o : DOp) : Prop where
  dst : ∀ t, o.vo.dst = some t → start.getD t false = true
  hid : ∀ r, o.hid.getD r false = true → start.getD r false = true
  vis : ∀ e ∈ E, ∀ t, e.1.vo.dst = some t → o.hid.getD t false = true ∨ ((∃ p ∈ P, p.1.idx = e.1.idx) ∧ ((befs ops).getD o.idx 0).testBit e.1.idx = true)
  edge : ∃ op, ops[o.idx]? = some op ∧ ∀ ed ∈ op.after.toList, Region.binds .any ed = true → ∃ p ∈ P, p.1.idx = ed.on
  cl : ∀ k ∈ E, k.1.idx = o.idx ∨ ((befs ops).getD o.idx 0).testBit k.1.idx = true ∨ ∀ r, o.cl.getD r false = true → k.1.hid.getD r false = true
  cld : ∀ r, o.cl.getD r false = true → ∃ e ∈ E, e.1.vo.dst = some r ∧ ((befs ops).getD o.idx 0).testBit e.1.idx = true
  lt : o.idx < nh
  new : ∀ p ∈ P, p.1.idx ≠ o.idx
  uniq : ∀ e ∈ E, e.1.idx = o.idx ∨ e.1.vo.dst ≠ o.vo.dst ∨ e.1.vo.dst = none
theorem okE_spec {ops : Array Oper} {E P : List (DOp × D)} {start : List Bool} {nh : Nat} {pre : List Nat} {o : DOp} (hP : ∀ i, pre.contains i = true → ∃ p ∈ P, p.1.idx = i) (hP' : ∀ p ∈ P, pre.contains p.1.idx = true) (h : okE ops (E.map (·.1)) (befs ops) start nh pre o = true) : OkE ops E start nh P o := by
  simp only [okE, Bool.and_eq_true] at h; obtain ⟨⟨⟨⟨⟨⟨⟨⟨h1, h2⟩, h3⟩, h4⟩, h5⟩, h6⟩, h7⟩, h8⟩, h9⟩ := h; rw [List.all_eq_true] at h3 h5 h6 h9; refine ⟨fun t ht => by rw [ht] at h1; exact h1, subM_spec _ _ h2, fun e he t ht => ?_, ?_, fun k hk => ?_, fun r hr => ?_, by simpa using h7, fun p hp he => ?_, fun e he => ?_⟩
  · have := h3 e.1 (List.mem_map.2 ⟨e, he, rfl⟩); rw [ht] at this; simp only [Bool.or_eq_true, Bool.and_eq_true] at this; exact this.imp_right (fun h => ⟨hP _ h.1, h.2⟩)
  · split at h4
    · rename_i op hop; refine ⟨op, hop, fun ed hed hb => ?_⟩; rw [List.all_eq_true] at h4; have := h4 ed hed; rw [hb] at this; exact hP _ (by simpa using this)
    · cases h4
  · have := h5 k.1 (List.mem_map.2 ⟨k, hk, rfl⟩); simp only [Bool.or_eq_true, beq_iff_eq] at this; rcases this with (h | h) | h
    · exact .inl h
    · exact .inr (.inl h)
    · exact .inr (.inr (subM_spec _ _ h))
  · have hlt : r < o.cl.length := (by apply Nat.lt_of_not_le; intro hle; rw [List.getD_eq_getElem?_getD, List.getElem?_eq_none hle] at hr; cases hr); have := h6 r (by simpa using hlt); rw [hr] at this; simp only [Bool.not_true, Bool.false_or, List.any_eq_true, Bool.and_eq_true, beq_iff_eq] at this; obtain ⟨x, hx, h1, h2⟩ := this; obtain ⟨e, he, rfl⟩ := List.mem_map.1 hx; exact ⟨e, he, h1, h2⟩
  · have := hP' p hp; rw [he] at this; rw [this] at h8; cases h8
  · have := h9 e.1 (List.mem_map.2 ⟨e, he, rfl⟩); simp only [Bool.or_eq_true, beq_iff_eq, bne_iff_ne] at this; rcases this with (h | h) | h
    · exact .inl h
    · exact .inr (.inl h)
    · exact .inr (.inr (by simpa using h))
theorem okL_spec {ops : Array Oper} {E : List (DOp × D)} {start : List Bool} {nh : Nat} : ∀ (L : List (DOp × D)) (pre : List Nat) (P0 : List (DOp × D)), (∀ i, pre.contains i = true → ∃ p ∈ P0, p.1.idx = i) → (∀ p ∈ P0, pre.contains p.1.idx = true) → okL ops (E.map (·.1)) (befs ops) start nh pre (L.map (·.1)) = true →
    ∀ P e R, L = P ++ e :: R → OkE ops E start nh (P0 ++ P) e.1
  | [], _, _, _, _, _, P, e, R, h => by simp at h
  | x :: L, pre, P0, hP, hP', hok, P, e, R, h => by
    simp only [List.map_cons, okL, Bool.and_eq_true] at hok; cases P with
    | nil => simp only [List.nil_append, List.cons.injEq] at h; obtain ⟨rfl, rfl⟩ := h; rw [List.append_nil]; exact okE_spec hP hP' hok.1
    | cons y P =>
      simp only [List.cons_append, List.cons.injEq] at h; obtain ⟨rfl, h⟩ := h; have := okL_spec L (x.1.idx :: pre) (P0 ++ [x]) (fun i hi => ?_) (fun p hp => ?_) hok.2 P e R h
      · rw [List.append_assoc] at this; exact this
      · simp only [List.contains_cons, Bool.or_eq_true, beq_iff_eq] at hi; rcases hi with rfl | hi
        · exact ⟨x, by simp, rfl⟩
        · obtain ⟨p, h1, h2⟩ := hP i hi; exact ⟨p, by simp [h1], h2⟩
      · simp only [List.contains_cons, Bool.or_eq_true, beq_iff_eq]; rcases List.mem_append.1 hp with hp | hp
        · exact .inr (hP' p hp)
        · simp only [List.mem_singleton] at hp; exact .inl (by rw [hp])
end Go.V
namespace Go.V
open Go.RowKit
def memP (P : List (DOp × D)) (i : Nat) : Bool := P.any (fun e => e.1.idx == i)
def rs (hw : Option (Nat × Nat × Path)) (P : List (DOp × D)) (s0 : List D) : List D := hwS hw (memP P) (ovE (fun _ => true) P s0)
section
variable (Ctr : CtrT)
def EF (hw : Option (Nat × Nat × Path)) (start : List Bool) (s0 : List D) (P : List (DOp × D)) (e : DOp × D) : Prop :=
  match hw with
  | none => e.1.vo.op.framed = true ∧ DF Ctr (clr e.1.hid (rs hw P s0)) e.1.cl e.1.vo e.2
  | some (iw, r, q) =>
    if e.1.idx = iw then ∃ sz bytes x y, e.1.vo.op = .app sz bytes x y ∧ e.1.vo.guard = none ∧ (∀ t, y = .tmp t → e.1.cl.getD t false = true) ∧ placeK start (clr e.1.hid (ovE (fun _ => true) P s0)) sz bytes x y (fun r' q' d' => r' = r ∧ q' = q ∧ d' = e.2)
    else e.1.vo.op.framed = true ∧ DF Ctr (clr e.1.hid (rs hw P s0)) e.1.cl e.1.vo e.2
end
theorem memP_iff {P : List (DOp × D)} {i : Nat} : memP P i = true ↔ ∃ p ∈ P, p.1.idx = i := by simp [memP]
theorem sig_len {E hw S s} : (sig E hw S s).length = s.length := by unfold sig; rw [clr_len, hwS_len, ovE_len]
theorem idx_pairwise {L : List (DOp × D)} : (∀ P e R, L = P ++ e :: R → ∀ p ∈ P, p.1.idx ≠ e.1.idx) → L.Pairwise (fun e e' => e.1.idx ≠ e'.1.idx) := by
  induction L with
  | nil => intro _; exact List.Pairwise.nil
  | cons x L ih => intro h; rw [List.pairwise_cons]; refine ⟨fun y hy => ?_, ih fun P e R hL p hp => h (x :: P) e R (by rw [hL]; rfl) p (by simp [hp])⟩; obtain ⟨A, B, hAB⟩ := List.append_of_mem hy; exact h (x :: A) y B (by rw [hAB]; rfl) x (by simp)
theorem clE_false {S : Nat → Bool} {E : List (DOp × D)} {r : Nat} (h : ∀ e ∈ E, S e.1.idx = true → e.1.cl.getD r false = false) : (clE S E).getD r false = false := by
  cases hc : (clE S E).getD r false with
  | false => rfl
  | true => obtain ⟨e, h1, h2, h3⟩ := (clE_get E).1 hc; rw [h e h1 h2] at h3; cases h3
theorem ovE_congr {S S' : Nat → Bool} : ∀ (E : List (DOp × D)) (s : List D), (∀ e ∈ E, S e.1.idx = S' e.1.idx) → ovE S E s = ovE S' E s
  | [], s, _ => rfl
  | e :: E, s, h => by simp only [ovE]; rw [h e (by simp)]; exact ovE_congr E _ (fun e' he' => h e' (by simp [he']))
theorem clE_congr {S S' : Nat → Bool} : ∀ (E : List (DOp × D)), (∀ e ∈ E, S e.1.idx = S' e.1.idx) → clE S E = clE S' E
  | [], _ => rfl
  | e :: E, h => by simp only [clE]; rw [h e (by simp), clE_congr E (fun e' he' => h e' (by simp [he']))]
theorem first_split {α : Type} {p : α → Prop} [DecidablePred p] : ∀ (L : List α), (∃ x ∈ L, p x) → ∃ P x R, L = P ++ x :: R ∧ p x ∧ ∀ y ∈ P, ¬ p y
  | [], h => by obtain ⟨_, h, _⟩ := h; cases h
  | x :: L, h => by
    by_cases hx : p x
    · exact ⟨[], x, L, rfl, hx, fun _ h => by cases h⟩
    · obtain ⟨y, hy, hp⟩ := h; rcases List.mem_cons.1 hy with rfl | hy
      · exact absurd hp hx
      · obtain ⟨P, z, R, h1, h2, h3⟩ := first_split L ⟨y, hy, hp⟩; refine ⟨x :: P, z, R, by rw [h1]; rfl, h2, fun w hw => ?_⟩; rcases List.mem_cons.1 hw with rfl | hw
        · exact hx
        · exact h3 w hw
def cnt (S : Nat → Bool) : Nat → Nat
  | 0 => 0
  | n + 1 => cnt S n + (if S n then 0 else 1)
theorem cnt_zero {S : Nat → Bool} : ∀ {n : Nat}, cnt S n = 0 → ∀ i, i < n → S i = true
  | n + 1, h, i, hi => by
    simp only [cnt] at h; have h1 : cnt S n = 0 := by omega
    by_cases e : i = n
    · subst e; cases hS : S i with
      | true => rfl
      | false => simp [hS] at h
    · exact cnt_zero h1 i (by omega)
theorem cnt_all {S : Nat → Bool} : ∀ {n : Nat}, (∀ i, i < n → S i = true) → cnt S n = 0
  | 0, _ => rfl
  | n + 1, h => by have ih := cnt_all (S := S) (n := n) (fun i hi => h i (by omega)); simp [cnt, ih, h n (by omega)]
theorem cnt_same {S S' : Nat → Bool} : ∀ {n : Nat}, (∀ i, i < n → S i = S' i) → cnt S n = cnt S' n
  | 0, _ => rfl
  | n + 1, h => by have ih := cnt_same (S := S) (S' := S') (n := n) (fun i hi => h i (by omega)); simp [cnt, ih, h n (by omega)]
theorem cnt_set {S S' : Nat → Bool} {i : Nat} (hi : S i = false) (hi' : S' i = true) (h : ∀ j, j ≠ i → S' j = S j) : ∀ {n : Nat}, i < n → cnt S' n + 1 = cnt S n
  | n + 1, hlt => by
    simp only [cnt]; by_cases e : i = n
    · subst e; rw [hi, hi', cnt_same (S := S') (S' := S) (fun j hj => h j (by omega))]; simp
    · have := cnt_set hi hi' h (n := n) (by omega); rw [h n (by omega)]; omega
section
variable {ops : Array Oper} {E : List (DOp × D)} {start : List Bool} {nh : Nat} {hw : Option (Nat × Nat × Path)} {s0 : List D}
def Closed (ops : Array Oper) (S : Nat → Bool) : Prop := ∀ j x, S j = true → ((befs ops).getD j 0).testBit x = true → S x = true
structure Setup (ops : Array Oper) (E : List (DOp × D)) (start : List Bool) (nh : Nat) (hw : Option (Nat × Nat × Path)) (s0 : List D) : Prop where
  ok : ∀ P e R, E = P ++ e :: R → OkE ops E start nh P e.1
  zero : ∀ r, start.getD r false = true → s0[r]? = some .undef ∨ s0[r]? = none
  place : ∀ iw r q, hw = some (iw, r, q) → start.getD r false = false ∧ (∃ d0 sz rows, s0[r]? = some d0 ∧ treeAt d0 q = some (.sl true sz rows)) ∧ (∃ e ∈ E, e.1.idx = iw) ∧ ∀ P e R, E = P ++ e :: R → e.1.idx = iw → ∀ p ∈ P, ((befs ops).getD iw 0).testBit p.1.idx = true
theorem Setup.idx (h : Setup ops E start nh hw s0) : E.Pairwise (fun e e' => e.1.idx ≠ e'.1.idx) := idx_pairwise fun P e R hE => (h.ok P e R hE).new
theorem Setup.same (h : Setup ops E start nh hw s0) {e e' : DOp × D} (he : e ∈ E) (he' : e' ∈ E) (hi : e.1.idx = e'.1.idx) : e = e' := by
  have hp := h.idx; generalize E = L at he he' hp; clear h; induction L with
  | nil => cases he
  | cons x L ih =>
    rw [List.pairwise_cons] at hp; rcases List.mem_cons.1 he with h1 | h1
    · rcases List.mem_cons.1 he' with h2 | h2
      · rw [h1, h2]
      · exact absurd (h1 ▸ hi) (hp.1 e' h2)
    · rcases List.mem_cons.1 he' with h2 | h2
      · exact absurd (h2 ▸ hi.symm) (hp.1 e h1)
      · exact ih h1 h2 hp.2
theorem Setup.dsts (h : Setup ops E start nh hw s0) : E.Pairwise (fun e e' => e.1.vo.dst = none ∨ e.1.vo.dst ≠ e'.1.vo.dst) := by
  have key : ∀ L : List (DOp × D), (∀ x ∈ L, x ∈ E) → L.Pairwise (fun e e' => e.1.idx ≠ e'.1.idx) → L.Pairwise (fun e e' => e.1.vo.dst = none ∨ e.1.vo.dst ≠ e'.1.vo.dst) := by
    intro L; induction L with
    | nil => intro _ _; exact List.Pairwise.nil
    | cons x L ih =>
      intro hL hp; rw [List.pairwise_cons] at hp ⊢; refine ⟨fun y hy => ?_, ih (fun z hz => hL z (by simp [hz])) hp.2⟩; obtain ⟨A, B, hAB⟩ := List.append_of_mem (hL x (by simp)); rcases (h.ok A x B hAB).uniq y (hL y (by simp [hy])) with h1 | h1 | h1
      · exact absurd h1.symm (hp.1 y hy)
      · exact .inr (Ne.symm h1)
      · cases hx : x.1.vo.dst with
        | none => exact .inl rfl
        | some t => exact .inr (by rw [h1]; simp)
  exact key E (fun _ h => h) h.idx
theorem Setup.agree (h : Setup ops E start nh hw s0) {P : List (DOp × D)} {e : DOp × D} {R : List (DOp × D)} (hE : E = P ++ e :: R) {S : Nat → Bool} (hb : ∀ x, ((befs ops).getD e.1.idx 0).testBit x = true → S x = true) (r : Nat) (hr : e.1.hid.getD r false = false) : (ovE S E s0)[r]? = (ovE (fun _ => true) P s0)[r]? := by
  have ok := h.ok P e R hE; have hp := h.idx; have : ovE S E s0 = ovE S (e :: R) (ovE S P s0) := (by rw [hE, ovE_app]); rw [this, ovE_out]
  · refine ovE_agree P _ _ (fun p hp hd => ?_) rfl; rcases ok.vis p (by rw [hE]; simp [hp]) r hd with h1 | ⟨_, h1⟩
    · rw [h1] at hr; cases hr
    · exact hb _ h1
  · intro e' he' hd; exfalso; rcases ok.vis e' (by rw [hE]; simp at he' ⊢; exact .inr he') r hd with h1 | ⟨⟨p, hp1, hp2⟩, _⟩
    · rw [h1] at hr; cases hr
    · rw [hE, List.pairwise_append] at hp; exact hp.2.2 p hp1 e' he' hp2
theorem Setup.clE_hid (h : Setup ops E start nh hw s0) {e : DOp × D} (he : e ∈ E) {S : Nat → Bool} (hS : S e.1.idx = false) (hc : Closed ops S) (r : Nat) (hr : (clE S E).getD r false = true) : e.1.hid.getD r false = true := by
  obtain ⟨j, h1, h2, h3⟩ := (clE_get E).1 hr; obtain ⟨A, B, hAB⟩ := List.append_of_mem h1; rcases (h.ok A j B hAB).cl e he with h4 | h4 | h4
  · rw [← h4, hS] at h2; cases h2
  · rw [hc _ _ h2 h4] at hS; cases hS
  · exact h4 r h3
theorem Setup.hidStart (h : Setup ops E start nh hw s0) {e : DOp × D} (he : e ∈ E) (r : Nat) (hr : start.getD r false = false) : e.1.hid.getD r false = false := by
  obtain ⟨A, B, hAB⟩ := List.append_of_mem he; cases hh : e.1.hid.getD r false with
  | false => rfl
  | true => rw [(h.ok A e B hAB).hid r hh] at hr; cases hr
theorem Setup.clStart (h : Setup ops E start nh hw s0) {e : DOp × D} (he : e ∈ E) (r : Nat) (hr : start.getD r false = false) : e.1.cl.getD r false = false := by
  obtain ⟨A, B, hAB⟩ := List.append_of_mem he; cases hh : e.1.cl.getD r false with
  | false => rfl
  | true => obtain ⟨e', he', hd, _⟩ := (h.ok A e B hAB).cld r hh; obtain ⟨A', B', hAB'⟩ := List.append_of_mem he'; rw [(h.ok A' e' B' hAB').dst r hd] at hr; cases hr
theorem Setup.clEStart (h : Setup ops E start nh hw s0) {S : Nat → Bool} (r : Nat) (hr : start.getD r false = false) : (clE S E).getD r false = false := clE_false fun e he _ => h.clStart he r hr
theorem Setup.dstUndef (h : Setup ops E start nh hw s0) {e : DOp × D} (he : e ∈ E) {t : Nat} (ht : e.1.vo.dst = some t) {S : Nat → Bool} (hS : S e.1.idx = false) : (sig E hw S s0)[t]? = some .undef ∨ (sig E hw S s0)[t]? = none := by
  obtain ⟨A, B, hAB⟩ := List.append_of_mem he; have hst := (h.ok A e B hAB).dst t ht; have h1 : (ovE S E s0)[t]? = s0[t]? := ovE_out E s0 fun e' he' hd => by
    rcases (h.ok A e B hAB).uniq e' he' with h2 | h2 | h2
    · rw [h2]; exact hS
    · exact absurd (hd.trans ht.symm) h2
    · rw [h2] at hd; cases hd
  have h2 : (hwS hw S (ovE S E s0))[t]? = some .undef ∨ (hwS hw S (ovE S E s0))[t]? = none := by
    have h0 := h.zero t hst; rw [← h1] at h0; unfold hwS; cases hw with
    | none => exact h0
    | some x =>
      obtain ⟨iw, r, q⟩ := x; simp only; split
      · obtain ⟨hr, ⟨d0, sz, rows, k1, k2⟩, _⟩ := h.place iw r q rfl; have hne : t ≠ r := fun e => by rw [e, hr] at hst; cases hst
        cases hs : (ovE S E s0)[r]? with
        | none => unfold holeS; rw [hs]; exact h0
        | some d =>
          rw [hole_get hs, if_neg hne]; rcases h0 with h0 | h0 <;> rw [h0]
          · exact .inl (by simp [D.prune])
          · exact .inr rfl
      · exact h0
  unfold sig; rw [clr_get]; rcases h2 with h2 | h2 <;> rw [h2]
  · refine .inl ?_; simp only [Option.map_some, D.prune]; split <;> rfl
  · exact .inr rfl
end
end Go.V
namespace Go.V
open Go.RowKit
def prW (hw : Option (Nat × Nat × Path)) (S : Nat → Bool) (d : D) : D := match hw with
  | some (iw, r, q) => if S iw then d.prune (notThrough r q) else d
  | none => d
section
variable {ops : Array Oper} {E : List (DOp × D)} {start : List Bool} {nh : Nat} {hw : Option (Nat × Nat × Path)} {s0 : List D} {S S' : Nat → Bool} {e : DOp × D}
theorem Setup.cl_or (h : Setup ops E start nh hw s0) (he : e ∈ E) (hS' : S' e.1.idx = true) (hne : ∀ j, j ≠ e.1.idx → S' j = S j) (hS : S e.1.idx = false) (r : Nat) : (clE S' E).getD r false = ((clE S E).getD r false || e.1.cl.getD r false) := by
  rw [Bool.eq_iff_iff, Bool.or_eq_true, clE_get, clE_get]; constructor
  · rintro ⟨e', h1, h2, h3⟩; by_cases hi : e'.1.idx = e.1.idx
    · rw [h.same h1 he hi] at h3; exact .inr h3
    · exact .inl ⟨e', h1, by rw [← hne _ hi]; exact h2, h3⟩
  · rintro (⟨e', h1, h2, h3⟩ | h3)
    · refine ⟨e', h1, ?_, h3⟩; rw [hne _ (fun hi => by rw [hi, hS] at h2; cases h2)]; exact h2
    · exact ⟨e, he, hS', h3⟩
theorem Setup.cl_dst (h : Setup ops E start nh hw s0) (he : e ∈ E) (hS : S e.1.idx = false) (hc : Closed ops S) (hb : ∀ x, ((befs ops).getD e.1.idx 0).testBit x = true → S x = true) (hS' : S' e.1.idx = true) (hne : ∀ j, j ≠ e.1.idx → S' j = S j) {t : Nat} (ht : e.1.vo.dst = some t) : (clE S' E).getD t false = false := by
  apply clE_false; intro j hj hSj; obtain ⟨A, B, hAB⟩ := List.append_of_mem hj; obtain ⟨A', B', hAB'⟩ := List.append_of_mem he; cases hcl : j.1.cl.getD t false with
  | false => rfl
  | true =>
    obtain ⟨e'', h1, h2, h3⟩ := (h.ok A j B hAB).cld t hcl; have hee : e''.1.idx = e.1.idx := by
      rcases (h.ok A' e B' hAB').uniq e'' h1 with h4 | h4 | h4
      · exact h4
      · exact absurd (h2.trans ht.symm) h4
      · rw [h4] at h2; cases h2
    rw [hee] at h3; by_cases hji : j.1.idx = e.1.idx
    · rw [hji] at h3; have := hb _ h3; rw [hS] at this; cases this
    · rw [hne _ hji] at hSj; have := hc _ _ hSj h3; rw [hS] at this; cases this
theorem keepQ_or {m m1 m2 : List Bool} (h : ∀ r, m.getD r false = (m1.getD r false || m2.getD r false)) (x : D) : keepQ m x = (keepQ m1 x && keepQ m2 x) := by
  cases x with
  | ref r p => simp only [keepQ, h r, Bool.not_or]
  | ptr r p i j => simp only [keepQ, h r, Bool.not_or]
  | sub r p i n => simp only [keepQ, h r, Bool.not_or]
  | _ => rfl
theorem clr_or {m m1 m2 : List Bool} (h : ∀ r, m.getD r false = (m1.getD r false || m2.getD r false)) (s : List D) : clr m2 (clr m1 s) = clr m s := by
  apply List.ext_getElem?; intro r; rw [clr_get, clr_get, clr_get, Option.map_map]; cases s[r]? with
  | none => rfl
  | some d => simp only [Option.map_some, Function.comp_def, h r]; cases m1.getD r false <;> cases m2.getD r false <;> simp [D.prune, D.prune_prune]; exact prune_congr (fun x => (keepQ_or h x).symm) d
theorem Setup.ov_ne (h : Setup ops E start nh hw s0) (he : e ∈ E) (hne : ∀ j, j ≠ e.1.idx → S' j = S j) {r : Nat} (hr : e.1.vo.dst ≠ some r) : (ovE S' E s0)[r]? = (ovE S E s0)[r]? :=
  ovE_agree E _ _ (fun e' he' hd => hne _ (fun hi => hr (by rw [← h.same he' he hi]; exact hd))) rfl
theorem Setup.put_eq (h : Setup ops E start nh hw s0) (he : e ∈ E) (hS : S e.1.idx = false) (hc : Closed ops S) (hb : ∀ x, ((befs ops).getD e.1.idx 0).testBit x = true → S x = true) (hS' : S' e.1.idx = true) (hne : ∀ j, j ≠ e.1.idx → S' j = S j) (hW : ∀ iw r q, hw = some (iw, r, q) → e.1.idx ≠ iw) :
    setO (clr e.1.cl (sig E hw S s0)) e.1.vo.dst ((prW hw S e.2).prune (keepQ (clE S' E))) = sig E hw S' s0 := by
  unfold sig; rw [clr_or (fun r => h.cl_or he hS' hne hS r)]; have hX : ∀ r, e.1.vo.dst ≠ some r → (hwS hw S' (ovE S' E s0))[r]? = (hwS hw S (ovE S E s0))[r]? := by
    intro r hr; unfold hwS; cases hw with
    | none => exact h.ov_ne he hne hr
    | some x =>
      obtain ⟨iw, r0, q⟩ := x; simp only; rw [hne iw (Ne.symm (hW iw r0 q rfl))]; split
      · have hr0 : e.1.vo.dst ≠ some r0 := fun hd => by obtain ⟨A, B, hAB⟩ := List.append_of_mem he; have := (h.ok A e B hAB).dst r0 hd; rw [(h.place iw r0 q rfl).1] at this; cases this
        have h1 := h.ov_ne he hne hr0; cases hs : (ovE S E s0)[r0]? with
        | none => rw [hs] at h1; unfold holeS; rw [hs, h1]; exact h.ov_ne he hne hr
        | some d => rw [hs] at h1; rw [hole_get hs, hole_get h1, h.ov_ne he hne hr]
      · exact h.ov_ne he hne hr
  apply List.ext_getElem?; intro r; by_cases hr : e.1.vo.dst = some r
  · rw [hr, setO_eq, clr_get, clr_get, Option.map_map]; have hcl := h.cl_dst he hS hc hb hS' hne hr; have hov := ovE_in (S := S') E s0 e he h.dsts hr hS'; have hlen : ((hwS hw S (ovE S E s0))[r]?).isSome = (s0[r]?).isSome := by rw [Bool.eq_iff_iff]; simp only [isSome_getElem?, hwS_len, ovE_len]
    have hRHS : (hwS hw S' (ovE S' E s0))[r]? = (s0[r]?).map fun _ => prW hw S e.2 := by
      unfold hwS prW; cases hw with
      | none => exact hov
      | some x =>
        obtain ⟨iw, r0, q⟩ := x; simp only; rw [hne iw (Ne.symm (hW iw r0 q rfl))]; split
        · have hrr : r ≠ r0 := fun hd => by obtain ⟨A, B, hAB⟩ := List.append_of_mem he; have := (h.ok A e B hAB).dst r hr; rw [hd, (h.place iw r0 q rfl).1] at this; cases this
          cases hs : (ovE S' E s0)[r0]? with
          | none => exfalso; obtain ⟨_, ⟨d0, sz, rows, k1, _⟩, _⟩ := h.place iw r0 q rfl; have h1 : r0 < s0.length := (List.getElem?_eq_some_iff.1 k1).1; have h2 : (ovE S' E s0).length = s0.length := ovE_len E s0; rw [List.getElem?_eq_none_iff] at hs; omega
          | some d => rw [hole_get hs, if_neg hrr, hov]; cases s0[r]? <;> rfl
        · exact hov
    rw [hRHS, Option.map_map]; cases hs0 : s0[r]? with
    | none =>
      rw [hs0] at hlen; cases hx : (hwS hw S (ovE S E s0))[r]? with
      | none => rfl
      | some d => rw [hx] at hlen; cases hlen
    | some d0 =>
      rw [hs0] at hlen; cases hx : (hwS hw S (ovE S E s0))[r]? with
      | none => rw [hx] at hlen; cases hlen
      | some d => simp only [Option.map_some, Function.comp_def, hcl, Bool.false_eq_true, if_false]
  · rw [setO_ne hr, clr_get, clr_get, hX r hr]
theorem Setup.put_eqW (h : Setup ops E start nh hw s0) (he : e ∈ E) (hS : S e.1.idx = false) (hc : Closed ops S) (hb : ∀ x, ((befs ops).getD e.1.idx 0).testBit x = true → S x = true) (hS' : S' e.1.idx = true) (hne : ∀ j, j ≠ e.1.idx → S' j = S j) {r0 : Nat} {q : Path} (hW : hw = some (e.1.idx, r0, q)) (hown : ∀ k : D → Bool, e.2.prune k = e.2) :
    setO (clr e.1.cl (holeS r0 q (sig E hw S s0))) e.1.vo.dst e.2 = sig E hw S' s0 := by
  obtain ⟨hr0, ⟨d0, sz, rows, k1, k2⟩, _⟩ := h.place _ r0 q hW; have e1 : sig E hw S s0 = clr (clE S E) (ovE S E s0) := (by unfold sig hwS; rw [hW]; simp [hS]); have e2 : sig E hw S' s0 = clr (clE S' E) (holeS r0 q (ovE S' E s0)) := (by unfold sig hwS; rw [hW]; simp [hS']); rw [e1, e2, hole_clr (h.clEStart r0 hr0), clr_or (fun r => h.cl_or he hS' hne hS r)]; have hdr : e.1.vo.dst ≠ some r0 := fun hd => by obtain ⟨A, B, hAB⟩ := List.append_of_mem he; have := (h.ok A e B hAB).dst r0 hd; rw [hr0] at this; cases this
  have hlt : r0 < s0.length := (List.getElem?_eq_some_iff.1 k1).1; obtain ⟨d, hs⟩ : ∃ d, (ovE S E s0)[r0]? = some d := ⟨_, List.getElem?_eq_getElem (by rw [ovE_len]; exact hlt)⟩
  have hs' : (ovE S' E s0)[r0]? = some d := (by rw [h.ov_ne he hne hdr]; exact hs); apply List.ext_getElem?; intro r; by_cases hr : e.1.vo.dst = some r
  · have hrr : r ≠ r0 := fun hd => hdr (by rw [← hd]; exact hr); rw [hr, setO_eq, clr_get, clr_get, Option.map_map, hole_get hs, hole_get hs', if_neg hrr, if_neg hrr, Option.map_map, Option.map_map]; have hcl := h.cl_dst he hS hc hb hS' hne hr; have hov := ovE_in (S := S') E s0 e he h.dsts hr hS'; rw [hov]; cases hs0 : s0[r]? with
    | none => have : (ovE S E s0)[r]? = none := (by rw [List.getElem?_eq_none_iff] at hs0 ⊢; rw [ovE_len]; exact hs0); rw [this]; rfl
    | some dd =>
      obtain ⟨d2, hd2⟩ : ∃ d2, (ovE S E s0)[r]? = some d2 := ⟨_, List.getElem?_eq_getElem (by rw [ovE_len]; exact (List.getElem?_eq_some_iff.1 hs0).1)⟩
      rw [hd2]; simp only [Option.map_some, Function.comp_def, hcl, Bool.false_eq_true, if_false, hown]
  · rw [setO_ne hr, clr_get, clr_get, hole_get hs, hole_get hs', h.ov_ne he hne hr]
end
end Go.V
namespace Go.V
open Go.RowKit
def qW (hw : Option (Nat × Nat × Path)) (S : Nat → Bool) : D → Bool := match hw with
  | some (iw, r, q) => fun x => if S iw then notThrough r q x else true
  | none => fun _ => true
theorem prW_eq (hw : Option (Nat × Nat × Path)) (S : Nat → Bool) (d : D) : prW hw S d = d.prune (qW hw S) := by
  unfold prW qW; cases hw with
  | none => exact (D.prune_yes d).symm
  | some x =>
    obtain ⟨iw, r, q⟩ := x; simp only; cases S iw with
    | true => simp
    | false => simp [D.prune_yes]
theorem putD_undef {s : List D} {t : Nat} {d : D} (h : s[t]? = some .undef ∨ s[t]? = none) : putD s t d = s.set t d := by unfold putD; rcases h with h | h <;> rw [h]
section
variable {P : Program} {G : World → (Nat → Prop) → Prop} {w0 : Base} {I0 : Nat → Prop} {ops : Array Oper} {E : List (DOp × D)} {start : List Bool} {nh : Nat} {hw : Option (Nat × Nat × Path)} {s0 : List D} {S S' : Nat → Bool} {e : DOp × D} {Pre R : List (DOp × D)}
theorem Setup.view (h : Setup ops E start nh hw s0) (hE : E = Pre ++ e :: R) (hS : S e.1.idx = false) (hc : Closed ops S) (hb : ∀ x, ((befs ops).getD e.1.idx 0).testBit x = true → S x = true) (hW : ∀ iw r q, hw = some (iw, r, q) → e.1.idx ≠ iw) {a : Act} {w : World} {I : Nat → Prop} {Fs : Nat → List Nat} (hR : RelI w0 I0 (sig E hw S s0) a.tmps w I Fs) :
    ∃ Fv, RelI w0 I0 (clr e.1.hid (rs hw Pre s0)) a.tmps w I Fv ∧ (∀ r b, b ∈ Fv r → b ∈ Fs r) ∧ ∀ tm w' x u, ρS (clr e.1.cl (clr e.1.hid (rs hw Pre s0))) tm w' x u → ρS (clr e.1.cl (sig E hw S s0)) tm w' x u := by
  have he : e ∈ E := (by rw [hE]; simp); have hag := fun r hr => h.agree hE hb r hr; have hlen : ∀ S P, (ovE S E s0).length = (ovE (fun _ => true) P s0).length := fun S P => by rw [ovE_len, ovE_len]
  have plain : clr e.1.hid (rs hw Pre s0) = clr e.1.hid (sig E hw S s0) → ∃ Fv, RelI w0 I0 (clr e.1.hid (rs hw Pre s0)) a.tmps w I Fv ∧ (∀ r b, b ∈ Fv r → b ∈ Fs r) ∧ ∀ tm w' x u, ρS (clr e.1.cl (clr e.1.hid (rs hw Pre s0))) tm w' x u → ρS (clr e.1.cl (sig E hw S s0)) tm w' x u := by
    intro heq; rw [heq]; refine ⟨_, hR.clr e.1.hid, fun r b hb => ?_, fun tm w' x u hx => ?_⟩
    · split at hb
      · cases hb
      · exact hb
    · rw [clr_comm] at hx; exact hx.unclr
  cases hw with
  | none => refine plain ?_; unfold sig rs hwS; rw [clr_clr (h.clE_hid he hS hc)]; exact clr_view (by rw [ovE_len, ovE_len]) (fun r hr => (hag r hr).symm)
  | some x =>
    obtain ⟨iw, r, q⟩ := x; obtain ⟨hr0, ⟨d0, sz, rows, k1, k2⟩, ⟨eW, hWE, hWi⟩, hbef⟩ := h.place iw r q rfl; have hhr := h.hidStart he r hr0; have hne := hW iw r q rfl; cases hm : memP Pre iw with
    | false =>
      have hSiw : S iw = false := by
        cases hs : S iw with
        | false => rfl
        | true =>
          exfalso; rw [hE] at hWE; rcases List.mem_append.1 hWE with h1 | h1
          · rw [memP_iff.2 ⟨eW, h1, hWi⟩] at hm; cases hm
          · rcases List.mem_cons.1 h1 with rfl | h1
            · exact hne hWi
            · obtain ⟨A, B, hAB⟩ := List.append_of_mem h1; have := hbef (Pre ++ e :: A) eW B (by rw [hE, hAB]; simp) hWi e (by simp); have := hc _ _ hs this; rw [hS] at this; cases this
      refine plain ?_; unfold sig rs hwS; simp only [hm, hSiw, Bool.false_eq_true, if_false]; rw [clr_clr (h.clE_hid he hS hc)]; exact clr_view (by rw [ovE_len, ovE_len]) (fun r hr => (hag r hr).symm)
    | true =>
      have hrs : rs (some (iw, r, q)) Pre s0 = holeS r q (ovE (fun _ => true) Pre s0) := (by unfold rs hwS; simp [hm]); cases hs : S iw with
      | true => refine plain ?_; rw [hrs]; unfold sig hwS; simp only [hs, if_true]; rw [clr_clr (h.clE_hid he hS hc)]; exact clr_view (by rw [hole_len, hole_len, ovE_len, ovE_len]) (hole_agree hhr (fun r hr => (hag r hr).symm))
      | false =>
        have hsig : sig E (some (iw, r, q)) S s0 = clr (clE S E) (ovE S E s0) := (by unfold sig hwS; simp [hs]); have hcr := h.clEStart (S := S) r hr0; have hov : (ovE S E s0)[r]? = some d0 := (by rw [ovE_out E s0 (fun e' he' hd => ?_), k1]; obtain ⟨A, B, hAB⟩ := List.append_of_mem he'; have := (h.ok A e' B hAB).dst r hd; rw [hr0] at this; cases this); obtain ⟨q', hq'⟩ := tree_prune q d0 (keepQ (clE S E)) k2; have hslot : (sig E (some (iw, r, q)) S s0)[r]? = some (d0.prune (keepQ (clE S E))) := (by rw [hsig, clr_get, hov]; simp only [Option.map_some, hcr, Bool.false_eq_true, if_false]); obtain ⟨Fh, hh, hsubh⟩ := hR.hole hslot (by simpa [D.prune] using hq'); have heq : clr e.1.hid (rs (some (iw, r, q)) Pre s0) = clr e.1.hid (holeS r q (sig E (some (iw, r, q)) S s0)) := (by rw [hrs, hsig, hole_clr hcr, clr_clr (h.clE_hid he hS hc)]; exact clr_view (by rw [hole_len, hole_len, ovE_len, ovE_len]) (hole_agree hhr (fun r hr => (hag r hr).symm))); rw [heq]; refine ⟨_, hh.clr e.1.hid, fun r b hb => ?_, fun tm w' x u hx => ?_⟩
        · split at hb
          · cases hb
          · exact hsubh r b hb
        · rw [clr_comm, ← hole_clr (h.clStart he r hr0)] at hx; exact hx.unclr.unhole
theorem head_step (hcl : ∀ w', w0.Below w' → GI G w' I0) (h : Setup ops E start nh hw s0) (hE : E = Pre ++ e :: R) (fact : EF (CT P G) hw start s0 Pre e) {o : Oper} {n : Bool} (hop : ops[e.1.idx]? = some o) (hcomp : cVO P n ops o = some e.1.vo)
    (hS : S e.1.idx = false) (hc : Closed ops S) (hb : ∀ x, ((befs ops).getD e.1.idx 0).testBit x = true → S x = true) (hS' : S' e.1.idx = true) (hne : ∀ j, j ≠ e.1.idx → S' j = S j) {a : Act} {w : World} {I : Nat → Prop} {Fs : Nat → List Nat} (hd : a.defers = []) (hR : RelI w0 I0 (sig E hw S s0) a.tmps w I Fs)
    {Q : Exit → Act → World → Prop} {K : Act → World → Prop} (hK : ∀ a w, Rel w0 I0 (sig E hw S' s0) a w → K a w) : wpOp P ops Q e.1.idx K a w := by
  have he : e ∈ E := (by rw [hE]; simp); have hGw : GI G w I0 := hcl _ hR.below; simp only [cVO] at hcomp; cases hg : cGuard ops o.guard with
  | none => simp [hg] at hcomp
  | some g =>
  cases hopc : cOp P n o.op with
  | none => simp [hg, hopc] at hcomp
  | some vop =>
  simp only [hg, hopc, Option.some.injEq] at hcomp; have hdst : e.1.vo.dst = o.dst := by rw [← hcomp]
  have hvop : e.1.vo.op = vop := (by rw [← hcomp]); have hguard : e.1.vo.guard = g := (by rw [← hcomp]); unfold wpOp; rw [hop]; simp only
  -- what is left to do once there is a result
  have put : ∀ {A2 : List D} {d' : D} {v : Value} {w' : World} {I' : Nat → Prop} {Fs' : Nat → List Nat} {F : List Nat}, RelI w0 I0 A2 a.tmps w' I' Fs' → T I' w' d' (ρS A2 a.tmps w') v F → Fresh w0 w' I' Fs' F → (∀ t, e.1.vo.dst = some t → A2[t]? = some .undef ∨ A2[t]? = none) → setO A2 e.1.vo.dst d' = sig E hw S' s0 → K (a.put o.dst v) w' := by
    intro A2 d' v w' I' Fs' F h1 h2 h3 h4 h5; have := put_rel (dst := o.dst) hd h1 h2 h3; refine hK _ _ ?_; rw [← h5, hdst]; rw [hdst] at h4; cases hdd : o.dst with
    | none => rw [hdd] at this; exact this
    | some t => rw [hdd] at this h4; simp only at this; rw [putD_undef (h4 t rfl)] at this; exact this
  have clrU : ∀ {X : List D} {m : List Bool} {t : Nat}, (X[t]? = some .undef ∨ X[t]? = none) → (clr m X)[t]? = some .undef ∨ (clr m X)[t]? = none := by
    intro X m t hX; rw [clr_get]; rcases hX with hX | hX <;> rw [hX]
    · refine .inl ?_; simp only [Option.map_some, D.prune]; split <;> rfl
    · exact .inr rfl
  have normal : (∀ iw r q, hw = some (iw, r, q) → e.1.idx ≠ iw) → e.1.vo.op.framed = true → DF (CT P G) (clr e.1.hid (rs hw Pre s0)) e.1.cl e.1.vo e.2 → if Region.wanted o (yielded ops a.tmps) then o.wp P a w K Q ∨ (o.asks P a w ∧ LetsOut Q) else K (a.put o.dst undef) w := by
    intro hW hfr hDF; obtain ⟨Fv, hv, hsub, hun⟩ := h.view hE hS hc hb hW hR; have heq := h.put_eq he hS hc hb hS' hne hW; have hU : ∀ t, e.1.vo.dst = some t → (clr e.1.cl (sig E hw S s0))[t]? = some .undef ∨ (clr e.1.cl (sig E hw S s0))[t]? = none := fun t ht => clrU (h.dstUndef he ht hS); have run : NF (CT P G) (clr e.1.hid (rs hw Pre s0)) e.1.cl e.1.vo.op e.2 → o.wp P a w K Q := by
      rintro ⟨s', hs', hk⟩; rw [hvop] at hk hfr; refine wp_of_runs (sim_op (nn := true) hGw hv (fun _ => hfr) hopc hk) ?_; rintro v w' ⟨d', s1, I', Fs', F, ⟨rfl, rfl⟩, hR', hT, hF, hfrm⟩; obtain ⟨h1, h2, h3⟩ := recomb2 hR hv hsub (hun a.tmps w') hs' hR' hT hF (hfrm rfl); have h4 := T.turn (q := fun x => qW hw S x && keepQ (clE S' E) x) (fun x u _ hx => hx) _ h2; have hd2 : (e.2.prune (keepQ e.1.cl)).prune (fun x => qW hw S x && keepQ (clE S' E) x) = (prW hw S e.2).prune (keepQ (clE S' E)) := by rw [D.prune_prune, prW_eq, D.prune_prune]; refine prune_congr (fun x => ?_) _; rw [keepQ_or (fun r => h.cl_or he hS' hne hS r) x]; cases keepQ e.1.cl x <;> cases qW hw S x <;> simp
      rw [hd2] at h4; exact put h1 h4 h3 hU heq
    have skip : e.2 = noD → K (a.put o.dst undef) w := (by intro hno; refine put (d' := (prW hw S e.2).prune (keepQ (clE S' E))) (hR.clr e.1.cl) ?_ Fresh.nil hU heq; rw [hno, prW_eq]; simp only [noD, D.prune, T]; exact ⟨rfl, trivial⟩); unfold DF at hDF; rw [hguard] at hDF; cases hgo : o.guard with
    | none => rw [hgo] at hg; simp only [cGuard, Option.some.injEq] at hg; subst hg; rw [if_pos (by simp [Region.wanted, hgo])]; exact .inl (run hDF)
    | some jw =>
      obtain ⟨j, want⟩ := jw; rw [hgo] at hg; simp only [cGuard] at hg; cases hj : (ops[j]?).bind (·.dst) with
      | none => simp [hj] at hg
      | some t =>
        simp only [hj, Option.some.injEq] at hg; subst hg; simp only at hDF; have hTt := lkT_T hv t; have hyv : ∀ x : Value, lkT (clr e.1.hid (rs hw Pre s0)) t = .v x → a.tmps[t]? = some x ∨ (a.tmps[t]? = none ∧ x = undef) := by
          intro x e; rw [e] at hTt; have := (T_v hTt).1; cases ht : a.tmps[t]? with
          | none => simp [ht] at this; exact .inr ⟨rfl, this.symm⟩
          | some y => simp [ht] at this; exact .inl (by rw [this])
        split at hDF
        · rename_i b e; have hy : yielded ops a.tmps j = some b := by
            unfold yielded; rw [hj]; rcases hyv _ e with h1 | ⟨_, h1⟩
            · simp [h1]
            · cases h1
          by_cases hbw : b = want
          · rw [if_pos (by simp [Region.wanted, hgo, hy, hbw])]; exact .inl (run (hDF.1 hbw))
          · rw [if_neg (by simp [Region.wanted, hgo, hy, hbw])]; exact skip (hDF.2 hbw)
        · rename_i x hne' e; have hy : yielded ops a.tmps j = none := by
            unfold yielded; rw [hj]; rcases hyv _ e with h1 | ⟨h1, _⟩
            · simp only [Option.bind_some, h1]; split
              · rename_i b hb; cases hb; exact absurd rfl (hne' b)
              · rfl
            · simp [h1]
          rw [if_neg (by simp [Region.wanted, hgo, hy])]; exact skip hDF
        · exact hDF.elim
  unfold EF at fact; cases hw with
  | none => exact normal (fun _ _ _ h => by cases h) fact.1 fact.2
  | some x =>
    obtain ⟨iw, r, q⟩ := x; simp only at fact; by_cases hi : e.1.idx = iw
    · rw [if_pos hi] at fact; subst hi; obtain ⟨sz, bytes, x, y, hap, hgn, hy, hpl⟩ := fact; have hg0 : o.guard = none := by
        rw [hguard] at hgn; subst hgn; cases hgo : o.guard with
        | none => rfl
        | some jw => obtain ⟨j, want⟩ := jw; rw [hgo] at hg; simp only [cGuard] at hg; split at hg <;> simp at hg
      rw [if_pos (by simp [Region.wanted, hg0])]; refine .inl ?_; have hsig : sig E (some (e.1.idx, r, q)) S s0 = clr (clE S E) (ovE S E s0) := by unfold sig hwS; simp [hS]
      have hv : clr e.1.hid (ovE (fun _ => true) Pre s0) = clr e.1.hid (sig E (some (e.1.idx, r, q)) S s0) := (by rw [hsig, clr_clr (h.clE_hid he hS hc)]; exact clr_view (by rw [ovE_len, ovE_len]) (fun r hr => (h.agree hE hb r hr).symm)); rw [hv] at hpl; obtain ⟨r', q', rows, d0, rows0, k1, k2, k3, ⟨rfl, rfl, k4⟩, k5⟩ := place_app hy (fun r hr => by
        obtain ⟨A, B, hAB⟩ := List.append_of_mem he; exact (h.ok A e B hAB).hid r hr) hpl
      rw [hap] at hvop; rw [← hvop] at hopc; refine wp_of_runs (sim_op (nn := false) hGw hR (fun h => by cases h) hopc k5) ?_; rintro v w' ⟨d', s1, I', Fs', F, ⟨rfl, hs1⟩, hR', hT, hF, _⟩; have h1 := hR'.clr e.1.cl; rw [hs1] at h1; have heq := h.put_eqW he hS hc hb hS' hne rfl (fun k => by rw [← k4]; simp [D.prune]); refine put (d' := e.2) h1 (by rw [← k4]; simpa only [T] using hT) (hF.sub (fun r b hb => by
        split at hb
        · cases hb
        · exact hb)) (fun t ht => clrU ?_) heq
      have hu := h.dstUndef he ht hS; have hne0 : t ≠ r' := fun e' => by obtain ⟨A, B, hAB⟩ := List.append_of_mem he; have := (h.ok A e B hAB).dst t ht; rw [e', k1] at this; cases this
      rw [hole_get k2, if_neg hne0]; rcases hu with hu | hu <;> rw [hu]
      · exact .inl (by simp [D.prune])
      · exact .inr rfl
    · rw [if_neg hi] at fact; exact normal (fun iw' r' q' h' => by cases h'; exact hi) fact.1 fact.2
end
end Go.V
namespace Go.V
open Go.RowKit
def headArr (n nh : Nat) : Array Bool := ((List.range n).map fun i => decide (i < nh)).toArray
theorem headArr_get {n nh i : Nat} (hi : i < n) : (headArr n nh)[i]? = some (decide (i < nh)) := by unfold headArr; simp [hi]
section
variable {P : Program} {G : World → (Nat → Prop) → Prop} {w0 : Base} {I0 : Nat → Prop} {ops : Array Oper} {E : List (DOp × D)} {start : List Bool} {nh : Nat} {hw : Option (Nat × Nat × Path)} {s0 : List D}
theorem sig_congr {S S' : Nat → Bool} (h : ∀ e ∈ E, S e.1.idx = S' e.1.idx) (hW : ∀ iw r q, hw = some (iw, r, q) → S iw = S' iw) : sig E hw S s0 = sig E hw S' s0 := by
  unfold sig; rw [clE_congr E h, ovE_congr E s0 h]; congr 1; unfold hwS; cases hw with
  | none => rfl
  | some x => obtain ⟨iw, r, q⟩ := x; simp only; rw [hW iw r q rfl]
theorem head_any (hcl : ∀ w', w0.Below w' → GI G w' I0) (h : Setup ops E start nh hw s0) (fact : ∀ Pre e R, E = Pre ++ e :: R → EF (CT P G) hw start s0 Pre e) (hall : ∀ i, i < nh → ∃ e ∈ E, e.1.idx = i) (hcomp : ∀ e ∈ E, ∃ o n, ops[e.1.idx]? = some o ∧ cVO P n ops o = some e.1.vo) (hnh : nh ≤ ops.size)
    (htail : ∀ t, nh ≤ t → t < ops.size → ∀ i, i < nh → ((befs ops).getD t 0).testBit i = true) {Q : Exit → Act → World → Prop}
    (hend : ∀ a w, Rel w0 I0 (sig E hw (fun _ => true) s0) a w → wpAny P .any ops Q (ops.size - nh) (headArr ops.size nh) a w) :
    ∀ (fuel : Nat) (listed : Array Bool) (a : Act) (w : World), listed.size = ops.size → Closed ops (fun i => listed.getD i false) → (∀ i, nh ≤ i → listed.getD i false = false) → fuel = cnt (fun i => listed.getD i false) nh + (ops.size - nh) → Rel w0 I0 (sig E hw (fun i => listed.getD i false) s0) a w → wpAny P .any ops Q fuel listed a w := by
  intro fuel; induction fuel with
  | zero =>
    intro listed a w hsz hc ht hf hR; have hcnt : cnt (fun i => listed.getD i false) nh = 0 := by omega
    have hz := cnt_zero hcnt; have hlist : listed = headArr ops.size nh := by
      apply Array.ext_getElem?; intro i; by_cases hi : i < ops.size
      · rw [headArr_get hi, Array.getElem?_eq_getElem (by omega)]; congr 1; have h1 : listed.getD i false = listed[i]'(by omega) := by simp [hsz, hi]
        rw [← h1]; by_cases hin : i < nh
        · simp only [hin, decide_true]; exact hz i hin
        · simp only [hin, decide_false]; exact ht i (by omega)
      · rw [Array.getElem?_eq_none (by omega), Array.getElem?_eq_none (by unfold headArr; simp; omega)]
    have hsig : sig E hw (fun i => listed.getD i false) s0 = sig E hw (fun _ => true) s0 := sig_congr (fun e he => hz _ (by
      obtain ⟨A, B, hAB⟩ := List.append_of_mem he; exact (h.ok A e B hAB).lt)) (fun iw r q hwe => hz _ (by
      obtain ⟨_, _, ⟨e, he, hei⟩, _⟩ := h.place iw r q hwe; obtain ⟨A, B, hAB⟩ := List.append_of_mem he; rw [← hei]; exact (h.ok A e B hAB).lt))
    rw [hsig] at hR; have := hend a w hR; rw [show ops.size - nh = 0 by omega] at this; rw [hlist]; exact this
  | succ fuel ih =>
    intro listed a w hsz hc ht hf hR; by_cases hcnt : cnt (fun i => listed.getD i false) nh = 0
    · have hz := cnt_zero hcnt; have hlist : listed = headArr ops.size nh := by
        apply Array.ext_getElem?; intro i; by_cases hi : i < ops.size
        · rw [headArr_get hi, Array.getElem?_eq_getElem (by omega)]; congr 1; have h1 : listed.getD i false = listed[i]'(by omega) := by simp [hsz, hi]
          rw [← h1]; by_cases hin : i < nh
          · simp only [hin, decide_true]; exact hz i hin
          · simp only [hin, decide_false]; exact ht i (by omega)
        · rw [Array.getElem?_eq_none (by omega), Array.getElem?_eq_none (by unfold headArr; simp; omega)]
      have hsig : sig E hw (fun i => listed.getD i false) s0 = sig E hw (fun _ => true) s0 := sig_congr (fun e he => hz _ (by
        obtain ⟨A, B, hAB⟩ := List.append_of_mem he; exact (h.ok A e B hAB).lt)) (fun iw r q hwe => hz _ (by
        obtain ⟨_, _, ⟨e, he, hei⟩, _⟩ := h.place iw r q hwe; obtain ⟨A, B, hAB⟩ := List.append_of_mem he; rw [← hei]; exact (h.ok A e B hAB).lt))
      rw [hsig] at hR; have := hend a w hR; rw [hlist, hf, hcnt, Nat.zero_add]; exact this
    · -- some operation of the head is still to come
      have hex : ∃ i, i < nh ∧ listed.getD i false = false := by
        apply Classical.byContradiction; intro hn; apply hcnt; apply cnt_all; intro i hi; cases hS : listed.getD i false with
        | true => rfl
        | false => exact absurd ⟨i, hi, hS⟩ hn
      have getB : ∀ i, i < ops.size → listed.getD i true = listed.getD i false := fun i hi => by have : i < listed.size := (by omega); simp [this]
      refine ⟨fun h0 => ?_, fun i hi => ?_⟩
      · exfalso; obtain ⟨i, hi, hS⟩ := hex; obtain ⟨e, he, rfl⟩ := hall i hi; obtain ⟨A, x, B, hAB, hx, hA⟩ := first_split (p := fun e : DOp × D => listed.getD e.1.idx false = false) E ⟨e, he, hS⟩; obtain ⟨op, hop, hedge⟩ := (h.ok A x B hAB).edge; have hlt : x.1.idx < ops.size := Nat.lt_of_lt_of_le (h.ok A x B hAB).lt hnh; have : x.1.idx ∈ Region.ready .any ops listed := by rw [mem_ready]; refine ⟨by rw [getB _ hlt]; exact hx, op, hop, fun ed hed hb => ?_⟩; obtain ⟨p, hp, hpe⟩ := hedge ed (by simpa using hed) hb; have := hA p hp; rw [hpe] at this; simpa using this
        rw [h0] at this; cases this
      · obtain ⟨hun, o, hoi, hed⟩ := mem_ready.1 hi; have hilt : i < ops.size := (by apply Nat.lt_of_not_le; intro hle; rw [Array.getElem?_eq_none hle] at hoi; cases hoi); have hS : listed.getD i false = false := (by rw [← getB i hilt]; exact hun); have hb : ∀ x, ((befs ops).getD i 0).testBit x = true → listed.getD x false = true := by
          intro x hx; obtain ⟨o', ho', ed, h1, h2, h3⟩ := befs_spec hx; rw [hoi] at ho'; cases ho'; have := hed ed (by simpa using h1) h2; rcases h3 with rfl | h3
          · exact this
          · exact hc _ _ this h3
        have hin : i < nh := (by apply Nat.lt_of_not_le; intro hle; obtain ⟨j, hj, hjS⟩ := hex; rw [hb j (htail i hle hilt j hj)] at hjS; cases hjS); obtain ⟨e, he, rfl⟩ := hall i hin; obtain ⟨A, B, hAB⟩ := List.append_of_mem he; obtain ⟨o', n, ho', hco⟩ := hcomp e he; rw [hoi] at ho'; cases ho'; have hset : ∀ j, (listed.setIfInBounds e.1.idx true).getD j false = if j = e.1.idx then true else listed.getD j false := by
          intro j; by_cases hj : j = e.1.idx
          · subst hj; have : e.1.idx < listed.size := by omega
            simp [this]
          · rw [if_neg hj, getD_set_ne false (Ne.symm hj)]
        obtain ⟨hd, I, Fs, hRI⟩ := hR; refine head_step hcl h hAB (fact A e B hAB) hoi hco (S := fun i => listed.getD i false) (S' := fun i => (listed.setIfInBounds e.1.idx true).getD i false) hS hc hb (by simp only [hset]; simp) (fun j hj => by simp only [hset, if_neg hj]) hd hRI ?_; intro a' w' hR'; refine ih _ a' w' (by simp [hsz]) ?_ (fun j hj => ?_) ?_ hR'
        · intro j x hj hx; simp only [hset] at hj ⊢; by_cases hxe : x = e.1.idx
          · rw [if_pos hxe]
          · rw [if_neg hxe]; by_cases hje : j = e.1.idx
            · subst hje; exact hb x hx
            · rw [if_neg hje] at hj; exact hc j x hj hx
        · rw [hset, if_neg (by omega)]; exact ht j hj
        · have := cnt_set (S := fun i => listed.getD i false) (S' := fun i => (listed.setIfInBounds e.1.idx true).getD i false) hS (by simp only [hset]; simp) (fun j hj => by simp only [hset, if_neg hj]) hin; omega
end
end Go.V
namespace Go.V
open Go.RowKit
def runE (pr : Option (Nat × Path)) : List (DOp × D) → List D → List D
  | [], s => s
  | e :: P, s => runE pr P (setO s e.1.vo.dst (prO pr e.2))
theorem runE_none : ∀ (P : List (DOp × D)) (s : List D), runE none P s = ovE (fun _ => true) P s
  | [], s => rfl
  | e :: P, s => by simp only [runE, ovE, prO, if_true, runE_none P]
theorem head_pick {Ctr : CtrT} {pr : Option (Nat × Path)} : ∀ (l : List DOp) {s : List D} {K : List D → Prop}, l.all (fun o => o.vo.op.framed) = true → headK Ctr pr s l K →
    ∃ E : List (DOp × D), E.map (·.1) = l ∧ (∀ P e R, E = P ++ e :: R → e.1.vo.op.framed = true ∧ DF Ctr (clr e.1.hid (runE pr P s)) e.1.cl e.1.vo e.2) ∧ K (runE pr E s)
  | [], s, K, _, h => ⟨[], rfl, fun P e R h => by simp at h, h⟩
  | o :: l, s, K, hf, h => by
    simp only [List.all_cons, Bool.and_eq_true] at hf; simp only [headK] at h; obtain ⟨d, h1, h2⟩ := drawK_pick hf.1 h; obtain ⟨E, e1, e2, e3⟩ := head_pick l hf.2 h1; refine ⟨(o, d) :: E, by simp [e1], fun P e R hE => ?_, e3⟩; cases P with
    | nil => simp only [List.nil_append, List.cons.injEq] at hE; obtain ⟨rfl, rfl⟩ := hE; exact ⟨hf.1, h2⟩
    | cons x P => simp only [List.cons_append, List.cons.injEq] at hE; obtain ⟨rfl, hE⟩ := hE; exact e2 P e R hE
theorem hole_setO {r : Nat} {q : Path} {s : List D} {dst : Option Nat} {d d0 : D} (hs : s[r]? = some d0) (hr : dst ≠ some r) : setO (holeS r q s) dst (d.prune (notThrough r q)) = holeS r q (setO s dst d) := by
  have h1 : (setO s dst d)[r]? = some d0 := (by rw [setO_ne hr]; exact hs); apply List.ext_getElem?; intro j; rw [hole_get h1]; by_cases hj : j = r
  · subst hj; rw [if_pos rfl, setO_ne hr, hole_get hs, if_pos rfl]
  · rw [if_neg hj]; by_cases hd : dst = some j
    · rw [hd, setO_eq, setO_eq, hole_get hs, if_neg hj, Option.map_map, Option.map_map]; rfl
    · rw [setO_ne hd, setO_ne hd, hole_get hs, if_neg hj]
theorem runE_hole {r : Nat} {q : Path} : ∀ (P : List (DOp × D)) {s : List D} {d0 : D}, s[r]? = some d0 → (∀ e ∈ P, e.1.vo.dst ≠ some r) → runE (some (r, q)) P (holeS r q s) = holeS r q (ovE (fun _ => true) P s)
  | [], s, d0, _, _ => rfl
  | e :: P, s, d0, hs, hP => by simp only [runE, ovE, prO, if_true]; rw [hole_setO hs (hP e (by simp))]; exact runE_hole P (d0 := d0) (by rw [setO_ne (hP e (by simp))]; exact hs) (fun e' he' => hP e' (by simp [he']))
def clAll : List DOp → List Bool
  | [] => []
  | o :: l => orM o.cl (clAll l)
theorem clE_all : ∀ (E : List (DOp × D)), clE (fun _ => true) E = clAll (E.map (·.1))
  | [] => rfl
  | e :: E => by simp only [clE, List.map_cons, clAll, if_true, clE_all E]
def drawB (ops : Array Oper) (H : List DOp) (start : List Bool) (nh : Nat) : Bool :=
  okL ops H (befs ops) start nh [] H && (List.range nh).all (fun i => H.any (fun o => o.idx == i)) && decide (nh ≤ ops.size) &&
  (List.range ops.size).all (fun t => decide (t < nh) || (List.range nh).all fun i => ((befs ops).getD t 0).testBit i) &&
  Region.seqB .any ops (ops.size - nh) nh (headArr ops.size nh)
section
variable {P : Program} {G : World → (Nat → Prop) → Prop} {w0 : Base} {I0 : Nat → Prop}
theorem clr_zero {start : List Bool} {s : List D} {r : Nat} (h : start.getD r false = true) : (clr start s)[r]? = some .undef ∨ (clr start s)[r]? = none := by
  rw [clr_get]; cases s[r]? with
  | none => exact .inr rfl
  | some d => rw [h]; exact .inl rfl
theorem draw_core (hcl : ∀ w', w0.Below w' → GI G w' I0) {ops : Array Oper} {id : Nat} (hm : P.follows .mixedOrders = true) {E : List (DOp × D)} {start : List Bool} {nh : Nat} {hw : Option (Nat × Nat × Path)} {s : List D}
    (hB : drawB ops (E.map (·.1)) start nh = true) (hplace : ∀ iw r q, hw = some (iw, r, q) → start.getD r false = false ∧ (∃ d0 sz rows, (clr start s)[r]? = some d0 ∧ treeAt d0 q = some (.sl true sz rows)) ∧ (∃ e ∈ E, e.1.idx = iw) ∧ ∀ P e R, E = P ++ e :: R → e.1.idx = iw → ∀ p ∈ P, ((befs ops).getD iw 0).testBit p.1.idx = true)
    (fact : ∀ Pre e R, E = Pre ++ e :: R → EF (CT P G) hw start (clr start s) Pre e) (hcomp : ∀ e ∈ E, ∃ o n, ops[e.1.idx]? = some o ∧ cVO P n ops o = some e.1.vo) {tail : List VO} (htl : cVOs P ops (ops.toList.drop nh) = some tail) {KK : List D → Prop} {Q : Exit → Act → World → Prop}
    (hk : opsK (CT P G) (sig E hw (fun _ => true) (clr start s)) tail KK) (hQ : ∀ s a w, KK s → Rel w0 I0 s a w → Q .normal a w) {a : Act} {w : World} (h : Rel w0 I0 s a w) : (Code.region id ops true).wp P Q a w := by
  simp only [drawB, Bool.and_eq_true, decide_eq_true_eq] at hB; obtain ⟨⟨⟨⟨hok, hall⟩, hnh⟩, htail⟩, hseq⟩ := hB; rw [List.all_eq_true] at hall htail; obtain ⟨hd, I, Fs, hR⟩ := h; have hset : Setup ops E start nh hw (clr start s) := ⟨fun P e R hE => by
    have := okL_spec E [] [] (fun _ h => by simp at h) (fun _ h => by cases h) hok P e R hE; simpa using this, fun r hr => clr_zero hr, hplace⟩
  refine wp_region_any hm ?_; have hgF : ∀ i, (Array.replicate ops.size false).getD i false = false := fun i => by by_cases hi : i < ops.size <;> simp [hi]
  have hgFun : (fun i => (Array.replicate ops.size false).getD i false) = fun _ => false := funext hgF; refine head_any (w0 := w0) (I0 := I0) hcl hset fact (fun i hi => ?_) hcomp hnh (fun t ht1 ht2 i hi => ?_) (fun a' w' hR' => ?_) ops.size _ a _ (by simp) (fun j x hj _ => by simp only [hgF] at hj; cases hj) (fun i _ => hgF i) ?_ ?_
  · have := hall i (by simpa using hi); rw [List.any_eq_true] at this; obtain ⟨o, ho, hoi⟩ := this; obtain ⟨e, he, rfl⟩ := List.mem_map.1 ho; exact ⟨e, he, by simpa using hoi⟩
  · have := htail t (by simpa using ht2); simp only [Bool.or_eq_true, decide_eq_true_eq] at this; rcases this with h1 | h1
    · omega
    · rw [List.all_eq_true] at h1; exact h1 i (by simpa using hi)
  · have hl : (ops.toList.drop nh).length = ops.size - nh := (by simp); have := wpAny_of_seq (P := P) (md := .any) (ops := ops) (Q' := Q) (ops.toList.drop nh) nh (headArr ops.size nh) a' w' (fun j => by simp [List.getElem?_drop]) (by rw [hl]; exact hseq)
      (sim_ops hcl ops (KK := KK) hQ _ tail _ a' w' htl hk hR')
    rw [hl] at this; exact this
  · rw [hgFun]; have : ∀ n, cnt (fun _ => false) n = n := by
      intro n; induction n with
      | zero => rfl
      | succ n ih => simp only [cnt, Bool.false_eq_true, if_false]; omega
    rw [this]; omega
  · refine ⟨hd, I, ?_⟩; rw [hgFun]; have h1 := (hR.clr start).world (w' := { w with drawn := w.drawn + 1 }) ((Below.refl _ w).drew); have h2 := h1.clr (clE (fun _ => false) E); have h3 : ovE (fun _ => false) E (clr start s) = clr start s := by
      have : ∀ (E : List (DOp × D)) (s : List D), ovE (fun _ => false) E s = s := by
        intro E; induction E with
        | nil => intro s; rfl
        | cons e E ih => intro s; simp only [ovE, Bool.false_eq_true, if_false]; exact ih s
      exact this E _
    have h4 : hwS hw (fun _ => false) (clr start s) = clr start s := by
      unfold hwS; cases hw with
      | none => rfl
      | some x => obtain ⟨iw, r, q⟩ := x; simp only [Bool.false_eq_true, if_false]
    unfold sig; rw [h3, h4]; exact ⟨_, h2⟩
end
end Go.V
namespace Go.V
open Go.RowKit
theorem split3 {α : Type} {x e : α} : ∀ {A B Pre R : List α}, A ++ x :: B = Pre ++ e :: R → (∃ R1, A = Pre ++ e :: R1) ∨ (Pre = A ∧ e = x ∧ R = B) ∨ (∃ P2, Pre = A ++ x :: P2 ∧ B = P2 ++ e :: R)
  | [], B, [], R, h => by simp only [List.nil_append, List.cons.injEq] at h; exact .inr (.inl ⟨rfl, h.1.symm, h.2.symm⟩)
  | [], B, y :: Pre, R, h => by simp only [List.nil_append, List.cons_append, List.cons.injEq] at h; exact .inr (.inr ⟨Pre, by rw [h.1]; rfl, h.2⟩)
  | a :: A, B, [], R, h => by simp only [List.nil_append, List.cons_append, List.cons.injEq] at h; exact .inl ⟨A, by rw [h.1]; rfl⟩
  | a :: A, B, y :: Pre, R, h => by
    simp only [List.cons_append, List.cons.injEq] at h; obtain ⟨rfl, h⟩ := h; rcases split3 h with ⟨R1, h1⟩ | ⟨h1, h2⟩ | ⟨P2, h1, h2⟩
    · exact .inl ⟨R1, by rw [h1]; rfl⟩
    · exact .inr (.inl ⟨by rw [h1], h2⟩)
    · exact .inr (.inr ⟨P2, by rw [h1]; rfl, h2⟩)
theorem placeK_pick {start : List Bool} {V : List D} {sz bytes : Nat} {x y : Operand} {K : Nat → Path → D → Prop} (h : placeK start V sz bytes x y K) :
    ∃ r q d, K r q d ∧ placeK start V sz bytes x y (fun r' q' d' => r' = r ∧ q' = q ∧ d' = d) ∧ start.getD r false = false ∧ (∀ k : D → Bool, d.prune k = d) ∧ ∃ d1 sz' rows, V[r]? = some d1 ∧ treeAt d1 q = some (.sl true sz' rows) := by
  unfold placeK at h ⊢; split at h
  · rename_i r q e; simp only [e]; obtain ⟨h0, h⟩ := h; unfold stealK at h ⊢; split at h
    · rename_i d1 hd; split at h
      · rename_i sz' rows ht; simp only at h; obtain ⟨h1, h⟩ := h; obtain ⟨more, s', ⟨h2, h3⟩, h4⟩ := addK_pick h; refine ⟨r, q, _, h3, ⟨h0, ?_⟩, h0, fun k => by simp [D.prune], d1, sz', rows, hd, ht⟩; simp only [hd, ht]; refine ⟨h1, addK_mono ?_ h4⟩; rintro m s ⟨rfl, rfl⟩; exact ⟨h2, trivial, trivial, rfl⟩
      · exact h.elim
      · exact h.elim
    · exact h.elim
  · exact h.elim
section
variable {P : Program} {G : World → (Nat → Prop) → Prop} {w0 : Base} {I0 : Nat → Prop}
theorem sim_draw (hcl : ∀ w', w0.Below w' → GI G w' I0) {ops : Array Oper} {id : Nat} (hm : P.follows .mixedOrders = true) {H : List DOp} {start : List Bool} {nh : Nat} {s : List D} (hB : drawB ops H start nh = true) (hf : H.all (fun o => o.vo.op.framed) = true) (hcomp : ∀ o ∈ H, ∃ op n, ops[o.idx]? = some op ∧ cVO P n ops op = some o.vo)
    {tail : List VO} (htl : cVOs P ops (ops.toList.drop nh) = some tail) {VQ : VExit → List D → Prop} {Q : Exit → Act → World → Prop} (hk : (VCode.draw start (clAll H) H tail).wp (CT P G) VQ s) (hQ : ∀ s a w, VQ .normal s → Rel w0 I0 s a w → Q .normal a w) {a : Act} {w : World} (h : Rel w0 I0 s a w) : (Code.region id ops true).wp P Q a w := by
  simp only [VCode.wp] at hk; obtain ⟨E, rfl, e2, e3⟩ := head_pick H hf hk; refine draw_core hcl hm (hw := none) hB (fun _ _ _ h => by cases h) (fun Pre e R hE => ?_) (fun e he => hcomp e.1 (List.mem_map.2 ⟨e, he, rfl⟩)) htl (KK := VQ .normal) ?_ hQ h
  · have := e2 Pre e R hE; rw [runE_none] at this; exact this
  · rw [runE_none] at e3; have : sig E none (fun _ => true) (clr start s) = clr (clAll (E.map (·.1))) (ovE (fun _ => true) E (clr start s)) := by unfold sig hwS; rw [clE_all]
    rw [this]; exact e3
theorem sim_drawW (hcl : ∀ w', w0.Below w' → GI G w' I0) {ops : Array Oper} {id : Nat} (hm : P.follows .mixedOrders = true) {l1 l2 : List DOp} {o : DOp} {start : List Bool} {nh : Nat} {s : List D} (hB : drawB ops (l1 ++ o :: l2) start nh = true) (hf1 : l1.all (fun o => o.vo.op.framed) = true) (hf2 : l2.all (fun o => o.vo.op.framed) = true) (hbef : l1.all (fun k => ((befs ops).getD o.idx 0).testBit k.idx) = true)
    (hg : o.vo.guard = none) (hyc : ∀ sz bytes x y, o.vo.op = .app sz bytes x y → ∀ t, y = .tmp t → o.cl.getD t false = true) (hcomp : ∀ k ∈ l1 ++ o :: l2, ∃ op n, ops[k.idx]? = some op ∧ cVO P n ops op = some k.vo)
    {tail : List VO} (htl : cVOs P ops (ops.toList.drop nh) = some tail) {VQ : VExit → List D → Prop} {Q : Exit → Act → World → Prop} (hk : (VCode.drawW start (clAll (l1 ++ o :: l2)) l1 o l2 tail).wp (CT P G) VQ s) (hQ : ∀ s a w, VQ .normal s → Rel w0 I0 s a w → Q .normal a w) {a : Act} {w : World} (h : Rel w0 I0 s a w) : (Code.region id ops true).wp P Q a w := by
  simp only [VCode.wp] at hk; obtain ⟨E1, rfl, f1, hk⟩ := head_pick l1 hf1 hk; rw [runE_none] at hk; unfold midK at hk; split at hk
  · rename_i sz bytes x y hop; obtain ⟨r, q, d, hk, hpl, hst, hown, d1, sz', rows, hV, htr⟩ := placeK_pick hk; obtain ⟨E2, rfl, f2, hk⟩ := head_pick l2 hf2 hk; have hmap : (E1 ++ (o, d) :: E2).map (·.1) = E1.map (·.1) ++ o :: E2.map (·.1) := by simp
    rw [← hmap] at hB hcomp; have hok : ∀ P e R, E1 ++ (o, d) :: E2 = P ++ e :: R → OkE ops (E1 ++ (o, d) :: E2) start nh P e.1 := fun P e R hE => by have hB' := hB; simp only [drawB, Bool.and_eq_true] at hB'; have := okL_spec (E1 ++ (o, d) :: E2) [] [] (fun _ h => by simp at h) (fun _ h => by cases h) hB'.1.1.1.1 P e R hE; simpa using this
    have hidx := idx_pairwise (L := E1 ++ (o, d) :: E2) (fun P e R hE => (hok P e R hE).new); rw [List.pairwise_append] at hidx; obtain ⟨_, hi2, hi12⟩ := hidx; rw [List.pairwise_cons] at hi2; have hdst : ∀ e ∈ E1 ++ (o, d) :: E2, e.1.vo.dst ≠ some r := fun e he hd => by obtain ⟨A, B, hAB⟩ := List.append_of_mem he; have := (hok A e B hAB).dst r hd; rw [hst] at this; cases this
    have hhid : o.hid.getD r false = false := by
      cases hh : o.hid.getD r false with
      | false => rfl
      | true => rw [(hok E1 (o, d) E2 rfl).hid r hh] at hst; cases hst
    -- the place, as it stands at the start
    have hs1 : (ovE (fun _ => true) E1 (clr start s))[r]? = (clr start s)[r]? := ovE_out E1 _ (fun e he hd => absurd hd (hdst e (by simp [he]))); have hplace : ∃ d0 sz rows, (clr start s)[r]? = some d0 ∧ treeAt d0 q = some (.sl true sz rows) := by
      rw [clr_get, hs1] at hV; cases hx : (clr start s)[r]? with
      | none => simp [hx] at hV
      | some d0 =>
        simp only [hx, Option.map_some, hhid, Bool.false_eq_true, if_false, Option.some.injEq] at hV; subst hV; obtain ⟨t, q', m1, m2⟩ := tree_prune_rev q d0 _ htr; have : t = .sl true sz' rows := by
          cases t with
          | sl own z r => simpa [D.prune, eq_comm] using m2
          | ref r p => simp only [D.prune] at m2; split at m2 <;> cases m2
          | ptr r p i j => simp only [D.prune] at m2; split at m2 <;> cases m2
          | sub r p i n => simp only [D.prune] at m2; split at m2 <;> cases m2
          | _ => simp [D.prune] at m2
        subst this; exact ⟨d0, sz', rows, rfl, m1⟩
    have hrun : ∀ P2 : List (DOp × D), (∀ e ∈ P2, e ∈ E2) → runE (some (r, q)) P2 (setO (holeS r q (ovE (fun _ => true) E1 (clr start s))) o.vo.dst d) = holeS r q (ovE (fun _ => true) (E1 ++ (o, d) :: P2) (clr start s)) := (by intro P2 hP2; obtain ⟨d0, _, _, k1, _⟩ := hplace; have h1 := hs1.trans k1; have h2 := hole_setO (q := q) (dst := o.vo.dst) (d := d) h1 (hdst (o, d) (by simp)); rw [hown] at h2; rw [h2, runE_hole P2 (d0 := d0) (by rw [setO_ne (hdst (o, d) (by simp))]; exact h1) (fun e he => hdst e (by simp [hP2 e he])), ovE_app]; rfl); refine draw_core hcl hm (hw := some (o.idx, r, q)) hB ?_ (fun Pre e R hE => ?_) (fun e he => hcomp e.1 (List.mem_map.2 ⟨e, he, rfl⟩)) htl (KK := VQ .normal) ?_ hQ h
    · rintro iw r' q' hw; simp only [Option.some.injEq, Prod.mk.injEq] at hw; obtain ⟨rfl, rfl, rfl⟩ := hw; refine ⟨hst, hplace, ⟨(o, d), by simp, rfl⟩, fun Pre e R hE hei p hp => ?_⟩; rw [List.all_eq_true] at hbef; rcases split3 hE with ⟨R1, h1⟩ | ⟨h1, _⟩ | ⟨P2, h1, h2⟩
      · exact absurd hei (hi12 e (by rw [h1]; simp) (o, d) (by simp))
      · rw [h1] at hp; exact hbef p.1 (List.mem_map.2 ⟨p, hp, rfl⟩)
      · exact absurd hei.symm (hi2.1 e (by rw [h2]; simp))
    · unfold EF; simp only; rcases split3 hE with ⟨R1, h1⟩ | ⟨h1, h2, _⟩ | ⟨P2, h1, h2⟩
      · have hne : e.1.idx ≠ o.idx := hi12 e (by rw [h1]; simp) (o, d) (by simp); rw [if_neg hne]; have hm : memP Pre o.idx = false := by
          cases hm : memP Pre o.idx with
          | false => rfl
          | true => obtain ⟨p, hp, hpe⟩ := memP_iff.1 hm; exact absurd hpe (hi12 p (by rw [h1]; simp [hp]) (o, d) (by simp))
        have := f1 Pre e R1 h1; rw [runE_none] at this; unfold rs hwS; simp only [hm, Bool.false_eq_true, if_false]; exact this
      · subst h1; subst h2; rw [if_pos rfl]; exact ⟨sz, bytes, x, y, hop, hg, hyc sz bytes x y hop, hpl⟩
      · have hne : e.1.idx ≠ o.idx := Ne.symm (hi2.1 e (by rw [h2]; simp)); rw [if_neg hne]; have hm : memP Pre o.idx = true := memP_iff.2 ⟨(o, d), by rw [h1]; simp, rfl⟩; have := f2 P2 e R h2; rw [hrun P2 (fun e he => by rw [h2]; simp [he])] at this; unfold rs hwS; simp only [hm, if_true]; rw [h1]; exact this
    · rw [hrun E2 (fun _ h => h)] at hk; have : sig (E1 ++ (o, d) :: E2) (some (o.idx, r, q)) (fun _ => true) (clr start s) = clr (clAll (E1.map (·.1) ++ o :: E2.map (·.1))) (holeS r q (ovE (fun _ => true) (E1 ++ (o, d) :: E2) (clr start s))) := by unfold sig hwS; rw [clE_all, hmap]; simp
      rw [this]; exact hk
  · exact hk.elim
end
end Go.V
namespace Go.V
open Go.RowKit
/-! ### Regions that draw and fill boxes of their own: a block that waits to be filled is owned by no slot, but by a number beyond all slots -/
structure Fl where
  t : Nat
  n : Nat
  js : Nat
  ia : Option Nat
def Held (N0 : Nat) (tm : Array Value) (w : World) (Fs : Nat → List Nat) (f : Fl) : Prop :=
  ∃ b cs e, tm[f.t]? = some (.pointer (some ⟨b, 0, none⟩)) ∧ w.heap[b]? = some (.cells cs e (0, 0)) ∧ cs.size = f.n ∧ Fs (N0 + f.t) = [b]
def HeldAll (N0 : Nat) (fl : List Fl) (S : Nat → Bool) (tm : Array Value) (w : World) (Fs : Nat → List Nat) : Prop :=
  ∀ f ∈ fl, (∀ i, f.ia = some i → S i = true) → S f.js = false → Held N0 tm w Fs f
section
variable {w0 : Base} {I0 : Nat → Prop}
theorem RelI.ghost {s : List D} {tm : Array Value} {w : World} {I : Nat → Prop} {Fs : Nat → List Nat} (h : RelI w0 I0 s tm w I Fs) {g : Nat} (hg : s.length ≤ g) {F : List Nat} (hn : F.Nodup) (hF : ∀ b, b ∈ F → w0.N b ∧ b < w.heap.size ∧ ¬ I b ∧ ∀ r, r ≠ g → b ∉ Fs r) : RelI w0 I0 s tm w I (upd Fs g F) where
  below := h.below
  len := h.len
  slot := by
    intro r d u h1 h2; have hr : r ≠ g := by have := (List.getElem?_eq_some_iff.1 h1).1; omega
    simp only [upd, hr, if_false]; exact h.slot r d u h1 h2
  nd := by intro r; unfold upd; split; exact hn; exact h.nd r
  disj := by
    intro r r' b hb hb'; unfold upd at hb hb'; split at hb <;> split at hb'
    · omega
    · exact absurd hb' ((hF b hb).2.2.2 r' (by assumption))
    · exact absurd hb ((hF b hb').2.2.2 r (by assumption))
    · exact h.disj r r' b hb hb'
  own := by
    intro r b hb; unfold upd at hb; split at hb
    · exact ⟨(hF b hb).1, (hF b hb).2.1, (hF b hb).2.2.1⟩
    · exact h.own r b hb
  imm := h.imm
  imm0 := h.imm0
  immN := h.immN
theorem recomb3 {s sv : List D} {tm : Array Value} {w : World} {I : Nat → Prop} {Fs Fv : Nat → List Nat} (h : RelI w0 I0 s tm w I Fs) (hv : RelI w0 I0 sv tm w I Fv) (hsub : ∀ r b, b ∈ Fv r → b ∈ Fs r) {cl : List Bool} {d : D} {s1 : List D} {I' : Nat → Prop} {Fs' : Nat → List Nat} {F : List Nat} {v : Value} {w' : World}
    (hun : ∀ x u, ρS (clr cl sv) tm w' x u → ρS (clr cl s) tm w' x u) (hs : clr cl s1 = clr cl sv) (h' : RelI w0 I0 s1 tm w' I' Fs') (hT : T I' w' d (ρS s1 tm w') v F) (hF : Fresh w0 w' I' Fs' F)
    (f1 : ∀ b, I b → I' b) (f2 : ∀ b, I' b → I b ∨ w.heap.size ≤ b) (f3 : ∀ b, b ∈ F → w.heap.size ≤ b ∨ (∃ r, b ∈ Fv r) ∨ ∀ r, b ∉ Fs r) (f4 : ∀ b, b < w.heap.size → b ∉ F → w'.heap[b]? = w.heap[b]?) (f5 : ∀ r, s1[r]? = some .undef ∨ Fs' r = Fv r) :
    RelI w0 I0 (clr cl s) tm w' I' (fun r => if cl.getD r false then [] else Fs r) ∧ T I' w' (d.prune (keepQ cl)) (ρS (clr cl s) tm w') v F ∧ Fresh w0 w' I' (fun r => if cl.getD r false then [] else Fs r) F := by
  have hc := h.clr cl; have hdis : ∀ b, b ∈ F → ∀ r, b ∉ (if cl.getD r false then [] else Fs r) := by
    intro b hb r hr; cases hcl : cl.getD r false with
    | true => rw [hcl, if_pos rfl] at hr; cases hr
    | false =>
      simp only [hcl, Bool.false_eq_true, if_false] at hr; rcases f3 b hb with hn | ⟨r', hr'⟩ | hno
      · have := (h.own r b hr).2.1; omega
      · obtain rfl := h.disj r r' b hr (hsub r' b hr'); rcases f5 r with hu | he
        · have h1 : (clr cl s1)[r]? = some .undef := (by rw [clr_get, hu]; simp [D.prune]); rw [hs, clr_get] at h1; cases hsr : sv[r]? with
          | none => simp [hsr] at h1
          | some d0 => simp only [hsr, Option.map_some, hcl, Bool.false_eq_true, if_false, Option.some.injEq] at h1; obtain ⟨u, hu, hT0⟩ := hv.slot0 hsr; rw [T.nofoot d0 hT0 (prune_undef h1)] at hr'; cases hr'
        · exact (hF.2 b hb).2.2.2 r (by rw [he]; exact hr')
      · exact hno r hr
  have hsize : w.heap.size ≤ w'.heap.size := by
    apply Nat.le_of_not_lt; intro hlt; by_cases hb : w'.heap.size ∈ F
    · exact absurd (hF.2 _ hb).2.1 (by omega)
    · have := f4 _ hlt hb; rw [Array.getElem?_eq_none (Nat.le_refl _)] at this; rw [Array.getElem?_eq_getElem hlt] at this; cases this
  have hbel : w0.Keeps w w' := ⟨h'.below.os.trans h.below.os.symm, h'.below.tape.trans h.below.tape.symm, h'.below.output.trans h.below.output.symm, hsize, fun k hk => (h'.below.block k hk).trans (h.below.block k hk).symm⟩
  have hk : ∀ x, (I x ∨ ∃ r, x ∈ (if cl.getD r false then [] else Fs r)) → w'.heap[x]? = w.heap[x]? := by
    intro x hx; rcases hx with hx | ⟨r, hr⟩
    · exact f4 x (h.imm x hx) (fun hxF => (hF.2 x hxF).2.2.1 (f1 x hx))
    · refine f4 x ?_ (fun hxF => hdis x hxF r hr); split at hr
      · cases hr
      · exact (h.own r x hr).2.1
  have h2 := (hc.same hbel hk).immMore (I' := I') f1 (fun b hb => (f2 b hb).imp_right (fun hn => ⟨Base.N_of h.below hn, h'.imm b hb, fun r hr => by
    split at hr
    · cases hr
    · have := (h.own r b hr).2.1; omega⟩))
  refine ⟨h2, T.turn (fun x u hq hx => ?_) d hT, ⟨hF.1, fun b hb => ⟨(hF.2 b hb).1, (hF.2 b hb).2.1, (hF.2 b hb).2.2.1, fun r hr => hdis b hb r hr⟩⟩⟩; have h3 := ρS.clr hq hx; rw [hs] at h3; exact hun x u h3
theorem storeAll {P : Program} {b : Nat} {e : TypeId} (hN : w0.N b) : ∀ (us : List Value) (k : Nat) (w : World) (cs : Array Value), w.heap[b]? = some (.cells cs e (0, 0)) → k + us.length = cs.size → us.all (·.oneCell') = true →
    ∃ w', (storeCells ⟨b, 0, none⟩ us k).run P w = .ok () w' ∧ w'.heap[b]? = some (.cells (cs.toList.take k ++ us).toArray e (0, 0)) ∧ (∀ x, x ≠ b → w'.heap[x]? = w.heap[x]?) ∧ w0.Keeps w w' ∧ w'.heap.size = w.heap.size
  | [], k, w, cs, hh, hk, _ => by refine ⟨w, rfl, ?_, fun _ _ => rfl, Base.Keeps.refl, rfl⟩; rw [List.take_of_length_le (by simp at hk ⊢; omega)]; simpa using hh
  | u :: us, k, w, cs, hh, hk, ho => by
    simp only [List.all_cons, Bool.and_eq_true] at ho; have hlt : k < cs.size := by simp at hk; omega
    have hcell : w.cell? ⟨b, 0 + k, none⟩ = some cs[k] := (by rw [cell_row hh, Nat.zero_add]; simp [hlt]); have h2 := setCell_here w b (0 + k) u cs e (0, 0) hh; obtain ⟨w', r1, r2, r3, r4, r5⟩ := storeAll hN us (k + 1) _ _ h2 (by simp at hk ⊢; omega) ho.2; refine ⟨w', ?_, ?_, fun x hx => ?_, (Base.Keeps.setCell hN _ _).trans r4, by rw [r5]; simp [World.setCell]⟩
    · rw [store_step ho.1 (by rw [hcell]; rfl) (by simp [World.frozen?, hh])]; exact r1
    · rw [r2]; congr 2; rw [Nat.zero_add, Array.toList_setIfInBounds, List.take_succ_eq_append_getElem (by simp; omega)]; simp [List.take_set_of_le]
    · rw [r3 x hx]; simp only [World.setCell, Array.getElem?_modify]; rw [if_neg (fun h => hx h.symm)]
end
end Go.V
