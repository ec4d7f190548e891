/- Laws that the proof stands on. -/
import Derived.Test.YtlmkgjigldmbaaaDoorZVB
import Derived.Test.YtlmkgjigldmbaaaDoorZg5
import Derived.Shelf.Strings.Builder1
import Derived.Shelf.Strings.OnBuilder
import Derived.Test.YtlmkgjigldmbaaaDoorZVTab
set_option linter.all false
namespace Go.Proofs.YtlmkgjigldmbaaaDoor
open Go.V Go.RowKit
set_option maxRecDepth 100000
theorem bldX : Builder.Extra Tryd.prog Tryd.lays156_ren where
  sizeBuilder := by kernel_rfl
  liesBuilder := by kernel_rfl
  t5 := Tryd.underlying5
  a5 := Tryd.isAgg5
  z5 := Tryd.sizeOf5
  v5 := Tryd.zeroValue5
  infoByte := by kernel_rfl
  cellsByte := by kernel_rfl
  sizeByte := by kernel_rfl
  neB5 := by decide
theorem app_bytes {P : Program} {w : World} {t u ty e : TypeId} {i : TypeInfo} (ht : P.underlying t = some (.slice e)) (hu : P.underlying u = some .string) (hi : P.info? e = some i) (hz : i.zero = some (.int .u8 0)) (h1 : i.size = 1) (h2 : i.bytes = 1)
    {v : Value} {n : Nat} {xs : List Value} (hx : xs.length = n)
    (hv : (v = .slice none 0 0 ∧ n = 0) ∨ ∃ g cap cur, v = .slice (some ⟨g, 0, none⟩) n cap ∧ w.heap[g]? = some (.cells cur e (0, 0)) ∧ n ≤ cap ∧ cap ≤ maxLen ∧ cur.size = cap ∧ cur.toList.take n = xs)
    (s : ByteArray) (hl : n + s.size ≤ 1000000000) :
    ∃ v' w', (Builtin.append_ #[t, u] ty #[v, .string s]).run P w = .ok v' w' ∧ w'.os = w.os ∧ w'.tape = w.tape ∧ w'.output = w.output ∧ w.heap.size ≤ w'.heap.size ∧
      (∀ j, j < w.heap.size → (∀ g n' cap, v = .slice (some ⟨g, 0, none⟩) n' cap → j ≠ g) → w'.heap[j]? = w.heap[j]?) ∧
      ((v' = .slice none 0 0 ∧ n + s.size = 0) ∨ ∃ g cap cur, v' = .slice (some ⟨g, 0, none⟩) (n + s.size) cap ∧ w'.heap[g]? = some (.cells cur e (0, 0)) ∧ n + s.size ≤ cap ∧ cap ≤ maxLen ∧ cur.size = cap ∧ cur.toList.take (n + s.size) = xs ++ bCells s ∧ g < w'.heap.size ∧ (w.heap.size ≤ g ∨ ∃ n' cap', v = .slice (some ⟨g, 0, none⟩) n' cap')) := by
  rw [show bCells s = Lib.strCells s from rfl]; rcases hv with ⟨rfl, rfl⟩ | ⟨g, cap, cur, rfl, hg, hnc, hcm, hcs, htk⟩
  · have hown : w.ownsRow w.heap.size e 1 (.slice none 0 0) 0 xs := ⟨by simpa using hx, .inl ⟨rfl, rfl⟩⟩
    obtain ⟨v', w', hr, ho, hg, _⟩ := Lib.run_append_own_string (P := P) w w.heap.size t u ty e i ht hu hi hz h1 h2 _ 0 xs hown s (by unfold maxLen; omega) (by omega) (Nat.le_refl _); refine ⟨v', w', hr, hg.os, hg.tape, hg.output, hg.size, fun j hj _ => hg.block j hj (by simp [Value.ownBlock]), ?_⟩; rcases ho.2 with ⟨hv, hn⟩ | ⟨g, cap, cur, hv, hge, hh, k1, k2, k3, k4⟩
    · exact .inl ⟨hv, hn⟩
    · exact .inr ⟨g, cap, cur, hv, hh, k1, k2, by simpa using k3, by simpa using k4, (Array.getElem?_eq_some_iff.1 hh).1, .inl hge⟩
  · have hgl : g < w.heap.size := (Array.getElem?_eq_some_iff.1 hg).1; have hown : w.ownsRow g e 1 (.slice (some ⟨g, 0, none⟩) n cap) n xs := ⟨by simpa using hx, .inr ⟨g, cap, cur, rfl, Nat.le_refl _, hg, hnc, hcm, by simpa using hcs, by simpa using htk⟩⟩
    obtain ⟨v', w', hr, ho, hgr, _⟩ := Lib.run_append_own_string (P := P) w g t u ty e i ht hu hi hz h1 h2 _ n xs hown s (by unfold maxLen; omega) (by omega) (by omega); refine ⟨v', w', hr, hgr.os, hgr.tape, hgr.output, hgr.size, fun j hj hne => hgr.block j hj (by
      have := hne g n cap rfl; simp only [Value.ownBlock, ne_eq, Option.some.injEq]; exact this), ?_⟩
    have hpos : w.heap.size ≤ 0 ∨ ∃ cap', v' = .slice (some ⟨g, 0, none⟩) (n + s.size) cap' ∨ v' = .slice (some ⟨w.heap.size, 0, none⟩) (n + s.size) cap' := by
      by_cases hroom : n + s.size ≤ cap
      · have hr2 := Lib.run_append_room_string (P := P) w t u ty e i ht hu hi h1 g n cap cur hg s hroom (by omega); rw [hr2] at hr; simp only [Result.ok.injEq] at hr; exact .inr ⟨_, .inl hr.1.symm⟩
      · have holds : ∀ j u, xs[j]? = some u → w.cell? ((⟨g, 0, none⟩ : Addr).add j) = some u := hown.cells (g := g) rfl; have hr2 := Lib.run_append_grow_string (P := P) w t u ty e i (.int .u8 0) ht hu hi hz ⟨g, 0, none⟩ n cap xs (by rw [h1]; simpa using hx) holds s (by omega) (by omega) (by rw [h2]; exact growslice_fits (by omega) (by omega)); rw [hr2] at hr; simp only [Result.ok.injEq] at hr; exact .inr ⟨_, .inr hr.1.symm⟩
    rcases hpos with hpos | ⟨cap', hpos⟩
    · omega
    rcases ho.2 with ⟨hv, hn⟩ | ⟨g2, cap2, cur2, hv, hge, hh, k1, k2, k3, k4⟩
    · exact .inl ⟨hv, hn⟩
    · refine .inr ⟨g2, cap2, cur2, hv, hh, k1, k2, by simpa using k3, by simpa using k4, (Array.getElem?_eq_some_iff.1 hh).1, ?_⟩; rcases hpos with hpos | hpos
      · rw [hv] at hpos; simp only [Value.slice.injEq, Option.some.injEq, Addr.mk.injEq, and_true, true_and] at hpos; exact .inr ⟨_, _, by rw [hpos.1]⟩
      · rw [hv] at hpos; simp only [Value.slice.injEq, Option.some.injEq, Addr.mk.injEq, and_true, true_and] at hpos; exact .inl (by omega)
theorem cc_any (b : Nat) (p v : Value) (w : World) (hh : w.heap[b]? = some (.cells #[p, v] 69 (0, 0))) (hp : p = .pointer none ∨ p = .pointer (some ⟨b, 0, none⟩)) :
    Calls Tryd.prog 60 #[.pointer (some ⟨b, 0, none⟩)] w fun e w' => e = .returned (.tuple #[]) ∧ w'.heap[b]? = some (.cells #[.pointer (some ⟨b, 0, none⟩), v] 69 (0, 0)) ∧ (∀ j, j ≠ b → w'.heap[j]? = w.heap[j]?) ∧ w'.os = w.os ∧ w'.tape = w.tape ∧ w'.output = w.output ∧ w'.heap.size = w.heap.size := by
  have hc0 : w.cell? ⟨b, 0, none⟩ = some p := (by unfold World.cell?; simp only [hh]; rfl); rcases hp with rfl | rfl
  · have hf : w.frozen? ⟨b, 0, none⟩ = false := (by unfold World.frozen?; simp only [hh]; rfl); have hs : w.shape? b = some (69, 2) := (by simp [World.shape?, hh]); have hcc : Calls Tryd.prog 60 #[.pointer (some ⟨b, 0, none⟩)] w fun e w' => e = .returned (.tuple #[]) ∧ w' = w.setCell ⟨b, 0, none⟩ (.pointer (some ⟨b, 0, none⟩)) := Any.Builder_copyCheck_fresh { Tryd.lays156 with } bldX.toX72 b w hc0 hs hf; refine hcc.mono ?_; rintro e w' ⟨rfl, rfl⟩; refine ⟨rfl, ?_, fun j hj => Below.heap_setCell _ _ _ _ hj, rfl, rfl, rfl, by simp⟩; obtain ⟨hlt, hk⟩ := Array.getElem?_eq_some_iff.1 hh; show (w.heap.modify b _)[b]? = _; rw [Array.getElem?_eq_getElem (by rw [Array.size_modify]; exact hlt), Array.getElem_modify_self, hk]; rfl
  · have hcc : Calls Tryd.prog 60 #[.pointer (some ⟨b, 0, none⟩)] w fun e w' => e = .returned (.tuple #[]) ∧ w' = w := Any.Builder_copyCheck_used { Tryd.lays156 with } bldX.toX72 b w hc0; refine hcc.mono ?_; rintro e w' ⟨rfl, rfl⟩; exact ⟨rfl, hh, fun _ _ => rfl, rfl, rfl, rfl, rfl⟩
theorem wp_append {P : Program} {w w' : World} {ops : Array Oper} {rest : List Oper} {o : Oper} {a : Act} {Q : Exit → Act → World → Prop} (hgd : o.guard = none) (sl x : Operand) (t u : TypeId) (ho : o.op = .call { callee := .builtin .append, args := #[sl, x], argTypes := #[t, u] }) {v y v' : Value} (hs : a.eval sl = v) (hx : a.eval x = y)
    (hr : (Builtin.append_ #[t, u] o.type #[v, y]).run P w = .ok v' w') (h : wpList P ops Q rest (a.put o.dst v') w') : wpList P ops Q (o :: rest) a w := by
  refine wpList_plain hgd fun K hK => ?_; unfold Oper.wp execOp; simp only [ho, resolve, invoke, builtin, Sem.run_bind, Sem.run_pure, Result.andThen_ok, List.map_toArray, List.map_cons, List.map_nil, hs, hx, hr]; exact hK _ _ h
theorem bCells_app (a b : ByteArray) : bCells (a ++ b) = bCells a ++ bCells b := by simp [bCells]
theorem bCells_len (a : ByteArray) : (bCells a).length = a.size := by unfold bCells; rw [List.length_map, Array.length_toList]; rfl
set_option maxHeartbeats 2000000 in
theorem ws_in (b : Nat) (l s : ByteArray) (w : World) (F : List Nat) (hB : mpB w (.bld 69 5) [(.string l, undef)] (.pointer (some ⟨b, 0, none⟩)) F) (hl : l.size + s.size ≤ 1000000000) :
    Calls Tryd.prog 27 #[.pointer (some ⟨b, 0, none⟩), .string s] w fun e w' => e = .returned (.tuple #[.int .i64 s.size, .nilIface]) ∧ ∃ F', mpB w' (.bld 69 5) [(.string (l ++ s), undef)] (.pointer (some ⟨b, 0, none⟩)) F' ∧
      w'.os = w.os ∧ w'.tape = w.tape ∧ w'.output = w.output ∧ w.heap.size ≤ w'.heap.size ∧ (∀ j, j < w.heap.size → j ∉ F → w'.heap[j]? = w.heap[j]?) ∧ (∀ x, x ∈ F' → (x ∈ F ∨ w.heap.size ≤ x) ∧ x < w'.heap.size) ∧ F'.Nodup := by
  obtain ⟨i0, hi, hz0, hz1, hz2⟩ := info_parts bldX.infoByte; obtain ⟨b', p, v, l', hu, hh, hp, he, hc⟩ := hB; simp only [Value.pointer.injEq, Option.some.injEq, Addr.mk.injEq, and_true] at hu; subst hu; simp only [List.cons.injEq, Prod.mk.injEq, Value.string.injEq, and_true] at he; subst he; have hblt : b < w.heap.size := (Array.getElem?_eq_some_iff.1 hh).1; have hbF : b ∈ F := (by rcases hc with ⟨_, _, hF⟩ | ⟨g, cap, cur, _, _, _, _, _, _, _, hF⟩ <;> rw [hF] <;> simp); have hvv : ∀ w1 : World, (∀ j, j ≠ b → w1.heap[j]? = w.heap[j]?) → (v = .slice none 0 0 ∧ l.size = 0) ∨ ∃ g cap cur, v = .slice (some ⟨g, 0, none⟩) l.size cap ∧ w1.heap[g]? = some (.cells cur 5 (0, 0)) ∧ l.size ≤ cap ∧ cap ≤ maxLen ∧ cur.size = cap ∧ cur.toList.take l.size = bCells l := by
    intro w1 h1; rcases hc with ⟨k1, k2, _⟩ | ⟨g, cap, cur, k1, k2, k3, k4, k5, k6, k7, _⟩
    · exact .inl ⟨k1, k2⟩
    · exact .inr ⟨g, cap, cur, k1, (h1 g (Ne.symm k7)).trans k2, k3, k4, k5, k6⟩
  have hown : ∀ g n' cap, v = .slice (some ⟨g, 0, none⟩) n' cap → g ≠ b ∧ g ∈ F := by
    intro g n' cap hv; rcases hc with ⟨k1, _, _⟩ | ⟨g', cap', cur, k1, k2, k3, k4, k5, k6, k7, k8⟩
    · rw [k1] at hv; simp at hv
    · rw [k1] at hv; simp only [Value.slice.injEq, Option.some.injEq, Addr.mk.injEq, and_true] at hv; rw [← hv.1, k8]; exact ⟨Ne.symm k7, by simp⟩
  obtain ⟨ao, nn, cp, rfl⟩ : ∃ ao nn cp, v = .slice ao nn cp := by
    rcases hc with ⟨k1, _, _⟩ | ⟨g, cap, cur, k1, _⟩
    · exact ⟨_, _, _, k1⟩
    · exact ⟨_, _, _, k1⟩
  clear hc; go_enter Tryd.func27, Tryd.ntmps27; go_wp2_with (first
    | (go_at_call 60; refine (cc_any b p _ w hh hp).mono ?_; rintro e w1 ⟨rfl, hb1, hoth, ho1, ho2, ho3, hsz⟩; have c1 : w1.cell? ⟨b, 1, none⟩ = some (.slice ao nn cp) := by (unfold World.cell?; simp only [hb1]; rfl)
       obtain ⟨v', w2, hr, q1, q2, q3, q4, q5, q6⟩ := app_bytes (P := Tryd.prog) (w := w1) (t := 67) (u := 9) (ty := 67) rfl rfl hi hz0 hz1 hz2 (bCells_len l) (hvv w1 hoth) s hl; obtain ⟨ao', n', cp', rfl⟩ : ∃ ao' n' cp', v' = .slice ao' n' cp' := by (rcases q6 with ⟨k1, _⟩ | ⟨g, cap, cur, k1, _⟩; exact ⟨_, _, _, k1⟩; exact ⟨_, _, _, k1⟩)
       have hb2 : w2.heap[b]? = some (.cells #[.pointer (some ⟨b, 0, none⟩), .slice ao nn cp] 69 (0, 0)) := (q5 b (by omega) (fun g n' cap hv => Ne.symm (hown g n' cap hv).1)).trans hb1; have d1 : w2.cell? ⟨b, 1, none⟩ = some (.slice ao nn cp) := by (unfold World.cell?; simp only [hb2]; rfl)
       have f1 : w2.frozen? ⟨b, 1, none⟩ = false := by (unfold World.frozen?; simp only [hb2]; rfl))
    | (at_builtin; refine wp_append rfl _ _ _ _ rfl rfl rfl hr ?_))
  go_ret2
  refine ⟨rfl, ?_⟩; have hb3 : (w2.setCell ⟨b, 1, none⟩ (.slice ao' n' cp')).heap[b]? = some (.cells #[.pointer (some ⟨b, 0, none⟩), .slice ao' n' cp'] 69 (0, 0)) := by obtain ⟨hlt, hk⟩ := Array.getElem?_eq_some_iff.1 hb2; show (w2.heap.modify b _)[b]? = _; rw [Array.getElem?_eq_getElem (by rw [Array.size_modify]; exact hlt), Array.getElem_modify_self, hk]; rfl
  have hot : ∀ j, j ≠ b → (w2.setCell ⟨b, 1, none⟩ (.slice ao' n' cp')).heap[j]? = w2.heap[j]? := fun j hj => Below.heap_setCell _ _ _ _ hj; have hsz2 : (w2.setCell ⟨b, 1, none⟩ (.slice ao' n' cp')).heap.size = w2.heap.size := (by simp); have hfr : ∀ j, j < w.heap.size → j ∉ F → (w2.setCell ⟨b, 1, none⟩ (.slice ao' n' cp')).heap[j]? = w.heap[j]? := (by intro j hj hjF; have hjb : j ≠ b := fun e => hjF (e ▸ hbF); rw [hot j hjb, q5 j (by omega) (fun g n' cap hv e => hjF (e ▸ (hown g n' cap hv).2)), hoth j hjb]); have hss : (l ++ s).size = l.size + s.size := (by simp); rcases q6 with ⟨k1, k2⟩ | ⟨g, cap, cur, k1, k2, k3, k4, k5, k6, k7, k8⟩
  · refine ⟨[b], ⟨b, _, _, _, rfl, hb3, .inr rfl, rfl, .inl ⟨k1, by omega, rfl⟩⟩, by rw [← ho1, ← q1]; rfl, by rw [← ho2, ← q2]; rfl, by rw [← ho3, ← q3]; rfl, by omega, hfr, fun z hz => ?_, by simp⟩; rw [List.mem_singleton.1 hz]; exact ⟨.inl hbF, by omega⟩
  · have hgb : g ≠ b := by
      rcases k8 with k8 | ⟨n', cap', k8⟩
      · omega
      · exact (hown g n' cap' k8).1
    refine ⟨[b, g], ⟨b, _, _, _, rfl, hb3, .inr rfl, rfl, .inr ⟨g, cap, cur, by rw [hss]; exact k1, (hot g hgb).trans k2, by rw [hss]; exact k3, k4, k5, by rw [hss, bCells_app]; exact k6, Ne.symm hgb, rfl⟩⟩, by rw [← ho1, ← q1]; rfl, by rw [← ho2, ← q2]; rfl, by rw [← ho3, ← q3]; rfl, by omega, hfr, fun z hz => ?_, by simp [Ne.symm hgb]⟩; rcases List.mem_cons.1 hz with rfl | hz
    · exact ⟨.inl hbF, by omega⟩
    · rw [List.mem_singleton] at hz; subst hz; refine ⟨?_, by omega⟩; rcases k8 with k8 | ⟨n', cap', k8⟩
      · exact .inr (by omega)
      · exact .inl (hown z n' cap' k8).2
theorem v_WriteString (l s : ByteArray) (hl : l.size + s.size ≤ 1000000000) : ContractL Tryd.prog TabG 27 0 [.undef, .v (.string s)] (.mp (.bld 69 5) [(.string l, undef)]) (.tup [.v (.int .i64 s.size), .v .nilIface]) (.mp (.bld 69 5) [(.string (l ++ s), undef)]) := by
  refine ⟨fun us W => by kernel_rfl, fun w I us u X hG hI hu0 hV hT hnd hX => ?_⟩; have hus : us = [u, .string s] := by simp only [List.set_cons_zero, Vals, T] at hV; obtain ⟨u1, us', F1, F2, rfl, _, _, u2, us2, F3, F4, rfl, _, ⟨rfl, _⟩, rfl, _⟩ := hV; simp only [List.getElem?_cons_zero, Option.some.injEq] at hu0; rw [hu0]
  subst hus; simp only [T] at hT; obtain ⟨b, rfl⟩ : ∃ b, u = .pointer (some ⟨b, 0, none⟩) := by obtain ⟨b, _, _, _, hu, _⟩ := hT; exact ⟨b, hu⟩
  refine (ws_in b l s w X hT hl).mono ?_; rintro e w' ⟨rfl, F', h1, h2, h3, h4, h5, h6, h7, h8⟩; refine ⟨_, [], F', I, rfl, ⟨h2, h3, h4, h5, fun j hj => h6 j (Nat.lt_of_not_le fun hle => hj (.inl hle)) (fun hm => hj (.inr hm))⟩, ?_, by simp only [T]; exact h1, by simpa using h8, fun z hz => ?_, fun _ h => h, fun z hz => ⟨.inl hz, Nat.lt_of_lt_of_le (hI z hz) h5⟩⟩
  · simp only [T, Vals]; exact ⟨_, rfl, _, _, [], [], rfl, rfl, ⟨rfl, rfl⟩, _, _, [], [], rfl, rfl, ⟨rfl, rfl⟩, rfl, rfl⟩
  · have := h7 z (by simpa using hz); refine ⟨this.1.symm, this.2, fun hIz => ?_⟩; rcases this.1 with hm | hm
    · exact (hX z hm).2 hIz
    · have := hI z hIz; omega
set_option maxHeartbeats 2000000 in
theorem str_in (b : Nat) (l : ByteArray) (w : World) (F : List Nat) (hB : mpB w (.bld 69 5) [(.string l, undef)] (.pointer (some ⟨b, 0, none⟩)) F) (h0 : 0 < l.size) (hl : l.size ≤ 1000000000) :
    Calls Tryd.prog 30 #[.pointer (some ⟨b, 0, none⟩)] w fun e w' => e = .returned (.string l) ∧ w'.os = w.os ∧ w'.tape = w.tape ∧ w'.output = w.output ∧ w'.heap.size = w.heap.size ∧ ∀ j, j ∉ F → w'.heap[j]? = w.heap[j]? := by
  obtain ⟨b', p, v, l', hu, hh, hp, he, hc⟩ := hB; simp only [Value.pointer.injEq, Option.some.injEq, Addr.mk.injEq, and_true] at hu; subst hu; simp only [List.cons.injEq, Prod.mk.injEq, Value.string.injEq, and_true] at he; subst he; rcases hc with ⟨_, hz, _⟩ | ⟨g, cap, cur, rfl, hg, k3, k4, k5, k6, k7, hF⟩
  · omega
  have hlen : l.data.toList.length = l.size := (by rw [Array.length_toList]; rfl); have hne : l.data.toList ≠ [] := (by intro e; rw [e] at hlen; simp at hlen; omega); have c1 : w.cell? ⟨b, 1, none⟩ = some (.slice (some ⟨g, 0, none⟩) l.size cap) := (by unfold World.cell?; simp only [hh]; rfl); have hSD : (Builtin.unsafeSliceData_ #[67] 115 #[.slice (some ⟨g, 0, none⟩) l.size cap]).run Tryd.prog w.drew = .ok (.pointer (some ⟨g, 0, none⟩)) w.drew := Lib.run_unsafeSliceData_row _ _ _ _ _ _ (by omega); have hUS : (Builtin.unsafeString_ #[115, 3] 9 #[.pointer (some ⟨g, 0, none⟩), .int .i64 l.size]).run Tryd.prog w.drew = .ok (.string l) (w.drew.freeze ⟨g, 0, none⟩ l.size) := by
    have := Lib.run_unsafeString_row (P := Tryd.prog) w.drew 115 3 9 5 rfl bldX.cellsByte g cur.size (by have hg' : w.drew.heap[g]? = some (.cells cur 5 (0, 0)) := hg; simp [World.shape?, hg']) l.data.toList hne (by omega) (by omega) (by
      intro j x hx; have hj : j < l.size := by have := (List.getElem?_eq_some_iff.1 hx).1; omega
      have h1 : cur[j]? = some (.int .u8 x.toNat) := by
        rw [← Array.getElem?_toList]; have h2 : (cur.toList.take l.size)[j]? = some (.int .u8 x.toNat) := by rw [k6]; unfold bCells; rw [List.getElem?_map, hx]; rfl
        rwa [List.getElem?_take_of_lt hj] at h2
      have ha : (⟨g, 0, none⟩ : Addr).add j = ⟨g, 0 + j, none⟩ := Addr.add_mid _ _ _; rw [ha]; unfold World.cell?; have hg' : w.drew.heap[g]? = some (.cells cur 5 (0, 0)) := hg; simp only [hg', Nat.zero_add]; exact h1)
    rw [hlen] at this; simpa using this
  go_enter Tryd.func30, Tryd.ntmps30; go_wp2
  go_region
  all_goals
    go_wp2; go_ret; have hf : ∀ W : World, (W.freeze ⟨g, 0, none⟩ l.size).os = W.os ∧ (W.freeze ⟨g, 0, none⟩ l.size).tape = W.tape ∧ (W.freeze ⟨g, 0, none⟩ l.size).output = W.output ∧ (W.freeze ⟨g, 0, none⟩ l.size).heap.size = W.heap.size ∧ ∀ j, j ≠ g → (W.freeze ⟨g, 0, none⟩ l.size).heap[j]? = W.heap[j]? := by intro W; unfold World.freeze; rw [if_neg (by omega)]; exact ⟨rfl, rfl, rfl, by simp, fun j hj => by simp only [Array.getElem?_modify]; rw [if_neg (by omega)]⟩
    obtain ⟨f1, f2, f3, f4, f5⟩ := hf w.drew; exact ⟨rfl, f1, f2, f3, f4, fun j hj => (f5 j (fun e => hj (by rw [hF, e]; simp))).trans rfl⟩
theorem v_BuilderString (l : ByteArray) (h0 : 0 < l.size) (hl : l.size ≤ 1000000000) : ContractL Tryd.prog TabG 30 0 [.undef] (.mp (.bld 69 5) [(.string l, undef)]) (.v (.string l)) .undef := by
  refine ⟨fun us W => by kernel_rfl, fun w I us u X hG hI hu0 hV hT hnd hX => ?_⟩; have hus : us = [u] := by simp only [List.set_cons_zero, Vals, T] at hV; obtain ⟨u1, us', F1, F2, rfl, _, _, rfl, _⟩ := hV; simp only [List.getElem?_cons_zero, Option.some.injEq] at hu0; rw [hu0]
  subst hus; simp only [T] at hT; obtain ⟨b, rfl⟩ : ∃ b, u = .pointer (some ⟨b, 0, none⟩) := by obtain ⟨b, _, _, _, hu, _⟩ := hT; exact ⟨b, hu⟩
  refine (str_in b l w X hT h0 hl).mono ?_; rintro e w' ⟨rfl, h2, h3, h4, h5, h6⟩; exact ⟨_, [], [], I, rfl, ⟨h2, h3, h4, Nat.le_of_eq h5.symm, fun j hj => h6 j (fun hm => hj (.inr hm))⟩, by simp only [T]; first | exact ⟨rfl, trivial⟩ | exact ⟨trivial, trivial⟩ | trivial, by simp only [T], by simp, (fun z hz => by simp at hz), fun _ h => h, fun z hz => ⟨.inl hz, by rw [h5]; exact hI z hz⟩⟩
def joinB (xs : List ByteArray) (sep : ByteArray) : ByteArray := ⟨(Lib.join (xs.map (·.data.toList)) sep.data.toList).toArray⟩
theorem rows_S {I : Nat → Prop} {w : World} : ∀ (xs : List ByteArray) {rw : List Value} {F : List Nat}, Go.V.Rows I w 1 (xs.map rS) rw F → rw = xs.map Value.string ∧ F = []
  | [], rw, F, h => by simpa [Go.V.Rows] using h
  | x :: xs, rw, F, h => by simp only [List.map_cons, Go.V.Rows, rS, Cells, T] at h; obtain ⟨us, rw', F1, F2, rfl, rfl, _, ⟨u, us', A, B, rfl, rfl, _, ⟨rfl, rfl⟩, rfl, rfl⟩, hr⟩ := h; obtain ⟨rfl, rfl⟩ := rows_S xs hr; exact ⟨rfl, rfl⟩
theorem v_Join (xs : List ByteArray) (sep : ByteArray) (hx : xs.length ≤ 100000000) (hl : (joinB xs sep).size ≤ 1000000000) : Contract Tryd.prog TabG 51 [.sl false 1 (xs.map rS), .v (.string sep)] (.v (.string (joinB xs sep))) := by
  refine ⟨fun us W => by kernel_rfl, fun w I us hG hI hV => ?_⟩; simp only [Vals, T, List.length_map] at hV; obtain ⟨u1, us1, F1, F2, rfl, hF, ⟨a, c, rfl, hc1, hc2, hs⟩, u2, us2, F3, F4, rfl, hF2, ⟨rfl, _⟩, rfl, _⟩ := hV; have hl' : (Lib.join (xs.map (·.data.toList)) sep.data.toList).length ≤ 140737488355328 := by have e : (joinB xs sep).size = (Lib.join (xs.map (·.data.toList)) sep.data.toList).length := (by unfold joinB; simp [ByteArray.size]); omega
  have hc : Calls Tryd.prog 51 #[.slice a xs.length c, .string sep] w fun e w' => e = .returned (.string (joinB xs sep)) ∧ Below w.heap.size w w' := by
    rcases hs with ⟨_, _, hs⟩ | ⟨hno, _⟩
    case inr => cases hno
    rcases hs with hs | ⟨b, o, rw', rfl, hIb, hr, hR⟩
    · rw [List.map_eq_nil_iff] at hs; subst hs; refine Calls.mono (Any.strings_Join_none Tryd.lays156 bldX a c sep w) ?_; rintro e w' ⟨he, hw⟩; exact ⟨by rw [he]; rfl, hw ▸ Below.refl _ _⟩
    · obtain ⟨rfl, _⟩ := rows_S xs hR; refine Calls.mono (Any.strings_Join Tryd.lays156 bldX b o c xs sep w (fun j x hj => hr j _ (by rw [List.getElem?_map, hj]; rfl)) (hI b hIb) (by omega) hc1 hl') ?_; rintro e w' ⟨he, hw⟩; exact ⟨he, hw⟩
  refine Calls.mono hc ?_; rintro e w' ⟨rfl, hB⟩; exact ⟨_, [], I, rfl, hB, by simp only [T]; first | exact ⟨rfl, trivial⟩ | exact ⟨trivial, trivial⟩ | trivial, List.nodup_nil, (fun z hz => by simp at hz), fun _ h => h, fun z hz => ⟨.inl hz, Nat.lt_of_lt_of_le (hI z hz) hB.size⟩⟩
end Go.Proofs.YtlmkgjigldmbaaaDoor
