/- The V machine, part 4: a run over data, and that it stands for the walk. -/
import Derived.Test.YtffnoglnpkcjnaaVc
set_option linter.unusedSimpArgs false
set_option linter.unusedVariables false
set_option linter.all false
namespace Go.V
open Go.RowKit
variable {Ctr : CtrT} {s : List D} {K : D → List D → Prop} {KK : List D → Prop} {os : List VO}
def load2K (n : Nat) (agg : Bool) (r : Nat) (q : Path) (i j : Nat) (o : Option (List D)) (s : List D) (K : D → List D → Prop) : Prop := match o with
  | some row => j + n ≤ row.length ∧ K (mkAgg agg (cpyL r q i j ((row.drop j).take n))) s
  | none => False
def loadK (n : Nat) (agg : Bool) (a : D) (s : List D) (K : D → List D → Prop) : Prop := match a with
  | .ptr r q i j => load2K n agg r q i j (rowAt s r q i) s K
  | .iptr cells j => j + n ≤ cells.length ∧ K (mkAgg agg ((cells.drop j).take n)) s
  | _ => False
theorem ev_load {n agg a} : evalK Ctr s (.load n agg a) K = loadK n agg (lk s a) s K := rfl
theorem load_ptr {n agg r q i j} : loadK n agg (.ptr r q i j) s K = load2K n agg r q i j (rowAt s r q i) s K := rfl
theorem load_iptr {n agg cells j} : loadK n agg (.iptr cells j) s K = (j + n ≤ cells.length ∧ K (mkAgg agg ((cells.drop j).take n)) s) := rfl
theorem load2_some {n agg r q i j row} : load2K n agg r q i j (some row) s K = (j + n ≤ row.length ∧ K (mkAgg agg (cpyL r q i j ((row.drop j).take n))) s) := rfl
/-- The end of a store. -/
def endK (K : D → List D → Prop) : List D → Prop := fun s => K .undef s
theorem end_app : endK K s = K .undef s := rfl
def rowK (r : Nat) (q : Path) (i j : Nat) (K : D → List D → Prop) : List D → List D → Prop := fun cs s' => isBox s' r q = false ∧ setR r q i s' j cs (endK K)
theorem row_app {r q i j cs} : rowK r q i j K cs s = (isBox s r q = false ∧ setR r q i s j cs (endK K)) := rfl
def store3K (r : Nat) (q : Path) (i n j : Nat) (cs : List D) (b : Bool) (s : List D) (K : D → List D → Prop) : Prop :=
  if b then q = [] ∧ setB r i n s j cs (endK K) else refsOK cs = true ∧ cs.all (notThr (.ptr r q i j)) = true ∧ resC s cs (rowK r q i j K)
def store2K (n : Nat) (d : D) (a : D) (s : List D) (K : D → List D → Prop) : Prop := match a with
  | .ptr r q i j => d.okCells = true ∧ d.cells.length = n ∧ store3K r q i n j d.cells (isBox s r q) s K
  | _ => False
def storeK (n : Nat) (a : Operand) (p : D × List D) (K : D → List D → Prop) : Prop := store2K n p.1 (lk p.2 a) p.2 K
theorem ev_store {n a x} : evalK Ctr s (.store n a x) K = storeK n a (tk s x) K := rfl
theorem store_mk {n a} {d : D} : storeK n a (d, s) K = store2K n d (lk s a) s K := rfl
theorem store2_ptr {n r q i j} {d : D} : store2K n d (.ptr r q i j) s K = (d.okCells = true ∧ d.cells.length = n ∧ store3K r q i n j d.cells (isBox s r q) s K) := rfl
theorem store3_t {r q i n j cs} : store3K r q i n j cs true s K = (q = [] ∧ setB r i n s j cs (endK K)) := rfl
theorem store3_f {r q i n j cs} : store3K r q i n j cs false s K = (refsOK cs = true ∧ cs.all (notThr (.ptr r q i j)) = true ∧ resC s cs (rowK r q i j K)) := rfl
variable {KQ : List D → (D → Bool) → Prop}
def setC2 (r : Nat) (p : Path) (c : D) (s : List D) (d : D) (o : Option D) (KQ : List D → (D → Bool) → Prop) : Prop := match o with
  | some old => match old.cont with
    | some _ => KQ ((pruneL (notThrough r p) s).set r (setAt (d.prune (notThrough r p)) p (c.prune (notThrough r p)))) (notThrough r p)
    | none => KQ (s.set r (setAt d p c)) (fun _ => true)
  | none => False
def setC1 (r : Nat) (p : Path) (c : D) (s : List D) (o : Option D) (KQ : List D → (D → Bool) → Prop) : Prop := match o with
  | some d => setC2 r p c s d (treeAt d p) KQ
  | none => False
theorem setC_eq {r p c} : setC s r p c KQ = setC1 r p c s s[r]? KQ := by
  unfold setC setC1
  cases s[r]? <;> rfl
theorem setC1_some {r p c d} : setC1 r p c s (some d) KQ = setC2 r p c s d (treeAt d p) KQ := rfl
def allQ : D → Bool := fun _ => true
def setC3 (r : Nat) (p : Path) (c : D) (s : List D) (d : D) (own : Bool) (KQ : List D → (D → Bool) → Prop) : Prop :=
  if own then KQ ((pruneL (notThrough r p) s).set r (setAt (d.prune (notThrough r p)) p (c.prune (notThrough r p)))) (notThrough r p) else KQ (s.set r (setAt d p c)) allQ
theorem setC2_some {r p c d old} : setC2 r p c s d (some old) KQ = setC3 r p c s d old.cont.isSome KQ := by
  unfold setC2 setC3
  cases h : old.cont <;> simp [h] <;> rfl
theorem setC3_f {r p c d} : setC3 r p c s d false KQ = KQ (s.set r (setAt d p c)) allQ := rfl
theorem setC3_t {r p c d} : setC3 r p c s d true KQ = KQ ((pruneL (notThrough r p) s).set r (setAt (d.prune (notThrough r p)) p (c.prune (notThrough r p)))) (notThrough r p) := rfl
def bK (r i n j : Nat) (cs : List D) (KK : List D → Prop) : List D → (D → Bool) → Prop := fun s' q => setB r i n s' j (pruneL q cs) KK
theorem bK_all {r i n j cs} : bK r i n j cs KK s allQ = setB r i n s j cs KK := by
  show setB r i n s j (pruneL (fun _ => true) cs) KK = _
  rw [pruneL_yes]
theorem bK_thr {r i n j cs r' p'} : bK r i n j cs KK s (notThrough r' p') = setB r i n s j (pruneL (notThrough r' p') cs) KK := rfl
theorem setB_nil {r i n j} : setB r i n s j [] KK = KK s := by cases n <;> rfl
theorem setB_cons {r i n j c cs} : setB r i (n + 1) s j (c :: cs) KK = (isBox s r [] = true ∧ setC s r [(i, j)] c (bK r i n (j + 1) cs KK)) := rfl
def rK (r : Nat) (q : Path) (i j : Nat) (cs : List D) (KK : List D → Prop) : List D → (D → Bool) → Prop := fun s' _ => setR r q i s' j cs KK
theorem rK_app {r q i j cs f} : rK r q i j cs KK s f = setR r q i s j cs KK := rfl
theorem setR_nil {r q i j} : setR r q i s j [] KK = KK s := rfl
theorem setR_cons {r q i j c cs} : setR r q i s j (c :: cs) KK = (c.leaf = true ∧ setC s r (q ++ [(i, j)]) c (rK r q i (j + 1) cs KK)) := rfl
def isBoxF (q : Path) : Option D → Bool
  | some d => match treeAt d q with
    | some (.box _ _) => true
    | _ => false
  | none => false
theorem isBox_eq {r q} : isBox s r q = isBoxF q s[r]? := by unfold isBox isBoxF; rfl
theorem isBoxF_box {g cs} : isBoxF [] (some (.box g cs)) = true := rfl
theorem isBoxF_sl {sz rows} : isBoxF [] (some (.sl true sz rows)) = false := rfl
def rowF (q : Path) (i : Nat) : Option D → Option (List D)
  | some d => match treeAt d q with
    | some t => match t.cont with
      | some (_, rows) => rows[i]?
      | none => none
    | none => none
  | none => none
theorem rowAt_eq {r q i} : rowAt s r q i = rowF q i s[r]? := by unfold rowAt rowF; rfl
theorem rowF_box {g cs} : rowF [] 0 (some (.box g cs)) = some cs := rfl
theorem rowF_sl {i sz rows} : rowF [] i (some (.sl true sz rows)) = rows[i]? := rfl
def faK (off : Nat) (x : D) (s : List D) (K : D → List D → Prop) : Prop := match x with
  | .ptr r q i j => K (.ptr r q i (j + off)) s
  | .iptr c j => K (.iptr c (j + off)) s
  | _ => False
theorem ev_fa {off x} : evalK Ctr s (.fa off x) K = faK off (lk s x) s K := rfl
theorem fa_ptr {off r q i j} : faK off (.ptr r q i j) s K = K (.ptr r q i (j + off)) s := rfl
theorem fa_iptr {off c j} : faK off (.iptr c j) s K = K (.iptr c (j + off)) s := rfl
def fldK (off n : Nat) (agg : Bool) (x : D) (s : List D) (K : D → List D → Prop) : Prop := match x with
  | .agg cs => off + n ≤ cs.length ∧ K (mkAgg agg ((cs.drop off).take n)) s
  | _ => False
theorem ev_fld {off n agg x} : evalK Ctr s (.fld off n agg x) K = fldK off n agg (lk s x) s K := rfl
theorem fld_agg {off n agg cs} : fldK off n agg (.agg cs) s K = (off + n ≤ cs.length ∧ K (mkAgg agg ((cs.drop off).take n)) s) := rfl
def ia2K (sz : Nat) (n : Int) (r : Nat) (q : Path) (o : Option (Nat × List (List D))) (s : List D) (K : D → List D → Prop) : Prop := match o with
  | some (sz', rows) => 0 ≤ n ∧ n < rows.length ∧ sz' = sz ∧ K (.ptr r q n.toNat 0) s
  | none => False
def iaK (sz : Nat) (i x : D) (s : List D) (K : D → List D → Prop) : Prop := match i, x with
  | .v (.int _ n), .ref r q => ia2K sz n r q (slAt s (.ref r q)) s K
  | .v (.int _ n), .sl false sz' rows => 0 ≤ n ∧ n < rows.length ∧ sz' = sz ∧ ∃ row, rows[n.toNat]? = some row ∧ K (.iptr row 0) s
  | _, _ => False
theorem ev_ia {sz x i} : evalK Ctr s (.ia sz x i) K = iaK sz (lk s i) (lk s x) s K := rfl
theorem ia_ref {sz k n r q} : iaK sz (.v (.int k n)) (.ref r q) s K = ia2K sz n r q (slAt s (.ref r q)) s K := rfl
theorem ia_sl {sz k n sz' rows} : iaK sz (.v (.int k n)) (.sl false sz' rows) s K = (0 ≤ n ∧ n < rows.length ∧ sz' = sz ∧ ∃ row, rows[n.toNat]? = some row ∧ K (.iptr row 0) s) := rfl
theorem ia2_some {sz n r q sz' rows} : ia2K sz n r q (some (sz', rows)) s K = (0 ≤ n ∧ n < rows.length ∧ sz' = sz ∧ K (.ptr r q n.toNat 0) s) := rfl
def slF (q : Path) : Option D → Option (Nat × List (List D))
  | some d => match treeAt d q with
    | some (.sl true sz rows) => some (sz, rows)
    | _ => none
  | none => none
theorem slAt_ref {r q} : slAt s (.ref r q) = slF q s[r]? := by unfold slAt slF; rfl
theorem slAt_sl {o sz rows} : slAt s (.sl o sz rows) = some (sz, rows) := rfl
theorem slAt_nils : slAt s .nils = some (0, []) := rfl
theorem slF_sl {sz rows} : slF [] (some (.sl true sz rows)) = some (sz, rows) := rfl
def iaaK (len sz : Nat) (i x : D) (s : List D) (K : D → List D → Prop) : Prop := match i, x with
  | .v (.int _ n), .ptr r q i j => 0 ≤ n ∧ n < len ∧ K (.ptr r q i (j + n.toNat * sz)) s
  | .v (.int _ n), .iptr c j => 0 ≤ n ∧ n < len ∧ K (.iptr c (j + n.toNat * sz)) s
  | _, _ => False
theorem ev_iaa {len sz x i} : evalK Ctr s (.iaa len sz x i) K = iaaK len sz (lk s i) (lk s x) s K := rfl
theorem iaa_ptr {len sz k n r q i j} : iaaK len sz (.v (.int k n)) (.ptr r q i j) s K = (0 ≤ n ∧ n < len ∧ K (.ptr r q i (j + n.toNat * sz)) s) := rfl
theorem iaa_iptr {len sz k n c j} : iaaK len sz (.v (.int k n)) (.iptr c j) s K = (0 ≤ n ∧ n < len ∧ K (.iptr c (j + n.toNat * sz)) s) := rfl
def ixsK (i x : D) (s : List D) (K : D → List D → Prop) : Prop := match i, x with
  | .v (.int _ n), .v (.string b) => 0 ≤ n ∧ ∃ c, b[n.toNat]? = some c ∧ K (.v (.int .u8 (c.toNat : Int))) s
  | _, _ => False
theorem ev_ixs {x i} : evalK Ctr s (.ixs x i) K = ixsK (lk s i) (lk s x) s K := rfl
theorem ixs_s {k n b} : ixsK (.v (.int k n)) (.v (.string b)) s K = (0 ≤ n ∧ ∃ c, b[n.toNat]? = some c ∧ K (.v (.int .u8 (c.toNat : Int))) s) := rfl
def ixaK (len sz : Nat) (agg : Bool) (i x : D) (s : List D) (K : D → List D → Prop) : Prop := match i, x with
  | .v (.int _ n), .agg cs => 0 ≤ n ∧ n < len ∧ len * sz ≤ cs.length ∧ K (mkAgg agg ((cs.drop (n.toNat * sz)).take sz)) s
  | _, _ => False
theorem ev_ixa {len sz agg x i} : evalK Ctr s (.ixa len sz agg x i) K = ixaK len sz agg (lk s i) (lk s x) s K := rfl
theorem ixa_agg {len sz agg k n cs} : ixaK len sz agg (.v (.int k n)) (.agg cs) s K = (0 ≤ n ∧ n < len ∧ len * sz ≤ cs.length ∧ K (mkAgg agg ((cs.drop (n.toNat * sz)).take sz)) s) := rfl
theorem ev_slcS {x lo hi} : evalK Ctr s (.slcS x lo hi) K = slcSK (lk s x) (optD s lo 0) (optD s hi (sizeD (lk s x))) s K := rfl
theorem slcS_s {b k l k' h} : slcSK (.v (.string b)) (.v (.int k l)) (.v (.int k' h)) s K = (0 ≤ l ∧ l ≤ h ∧ h ≤ b.size ∧ K (.v (.string (b.extract l.toNat h.toNat))) s) := rfl
theorem ev_slc {sz x lo hi mx} : evalK Ctr s (.slc sz x lo hi mx) K = slcK sz (lk s x) (optD s lo 0) (optD s hi (sizeS s (lk s x))) (optD s mx (sizeS s (lk s x))) s K := rfl
theorem sizeS_sl {o sz rows} : sizeS s (.sl o sz rows) = rows.length := rfl
theorem sizeS_sub {r q i n} : sizeS s (.sub r q i n) = n := rfl
def sizeF : Option (Nat × List (List D)) → Nat
  | some (_, rows) => rows.length
  | none => 0
theorem sizeS_ref {r q} : sizeS s (.ref r q) = sizeF (slAt s (.ref r q)) := rfl
theorem sizeF_some {sz rows} : sizeF (some (sz, rows)) = rows.length := rfl
def slcR (sz : Nat) (r : Nat) (q : Path) (l h m : Int) (o : Option (Nat × List (List D))) (s : List D) (K : D → List D → Prop) : Prop := match o with
  | some (sz', rows) => 0 ≤ l ∧ l ≤ h ∧ h ≤ rows.length ∧ sz' = sz ∧ h ≤ m ∧ m ≤ rows.length ∧ K (.sub r q l.toNat (h.toNat - l.toNat)) s
  | none => False
def slcB (sz : Nat) (r : Nat) (q : Path) (i n : Nat) (l h m : Int) (o : Option (Nat × List (List D))) (s : List D) (K : D → List D → Prop) : Prop := match o with
  | some (sz', rows) => 0 ≤ l ∧ l ≤ h ∧ h ≤ n ∧ sz' = sz ∧ h ≤ m ∧ m ≤ n ∧ K (.sub r q (i + l.toNat) (h.toNat - l.toNat)) s
  | none => False
theorem slc_ref {sz r q k l k' h k'' m} : slcK sz (.ref r q) (.v (.int k l)) (.v (.int k' h)) (.v (.int k'' m)) s K = slcR sz r q l h m (slAt s (.ref r q)) s K := rfl
theorem slc_sub' {sz r q i n k l k' h k'' m} : slcK sz (.sub r q i n) (.v (.int k l)) (.v (.int k' h)) (.v (.int k'' m)) s K = slcB sz r q i n l h m (slAt s (.sub r q i n)) s K := rfl
theorem slcR_some {sz r q l h m sz' rows} : slcR sz r q l h m (some (sz', rows)) s K = (0 ≤ l ∧ l ≤ h ∧ h ≤ rows.length ∧ sz' = sz ∧ h ≤ m ∧ m ≤ rows.length ∧ K (.sub r q l.toNat (h.toNat - l.toNat)) s) := rfl
theorem slcB_some {sz r q i n l h m sz' rows} : slcB sz r q i n l h m (some (sz', rows)) s K = (0 ≤ l ∧ l ≤ h ∧ h ≤ n ∧ sz' = sz ∧ h ≤ m ∧ m ≤ n ∧ K (.sub r q (i + l.toNat) (h.toNat - l.toNat)) s) := rfl
def sub1 (i n : Nat) : Option (Nat × List (List D)) → Option (Nat × List (List D))
  | some (sz, rows) => if i + n ≤ rows.length then some (sz, (rows.drop i).take n) else none
  | none => none
theorem slAt_sub {r q i n} : slAt s (.sub r q i n) = sub1 i n (slAt s (.ref r q)) := by
  simp only [slAt]
  cases s[r]? with
  | none => rfl
  | some d =>
    simp only
    cases treeAt d q with
    | none => rfl
    | some t => cases t <;> first | rfl | (rename_i o _ _; cases o <;> rfl)
theorem sub1_some {i n sz rows} : sub1 i n (some (sz, rows)) = if i + n ≤ rows.length then some (sz, (rows.drop i).take n) else none := rfl
theorem slc_sl {sz sz' rows k l k' h k'' m} : slcK sz (.sl false sz' rows) (.v (.int k l)) (.v (.int k' h)) (.v (.int k'' m)) s K = (0 ≤ l ∧ l ≤ h ∧ h ≤ rows.length ∧ sz' = sz ∧ h ≤ m ∧ m ≤ rows.length ∧ K (.sl false sz ((rows.drop l.toNat).take (h.toNat - l.toNat))) s) := rfl
theorem opt_none {n} : optD s none n = .v (.int .i64 n) := rfl
theorem opt_some {x n} : optD s (some x) n = lk s x := rfl
def ext2K (t i : Nat) (vs : List D) (o : Option D) (s : List D) (K : D → List D → Prop) : Prop := match o with
  | some d => K d (if d.owny then s.set t (.tup (vs.set i .undef)) else s)
  | none => False
def extK (t i : Nat) (o : Option D) (s : List D) (K : D → List D → Prop) : Prop := match o with
  | some (.tup vs) => ext2K t i vs vs[i]? s K
  | _ => False
theorem ev_ext {t i} : evalK Ctr s (.ext (.tmp t) i) K = extK t i s[t]? s K := rfl
theorem ext_tup {t i vs} : extK t i (some (.tup vs)) s K = ext2K t i vs vs[i]? s K := rfl
theorem ext2_some {t i vs d} : ext2K t i vs (some d) s K = K d (if d.owny then s.set t (.tup (vs.set i .undef)) else s) := rfl
def lenK (o : Option (Nat × List (List D))) (s : List D) (K : D → List D → Prop) : Prop := match o with
  | some (_, rows) => K (.v (.int .i64 (rows.length : Int))) s
  | none => False
theorem ev_len {x} : evalK Ctr s (.len x) K = lenK (slAt s (lk s x)) s K := rfl
theorem len_some {sz rows} : lenK (some (sz, rows)) s K = K (.v (.int .i64 (rows.length : Int))) s := rfl
def lenSK (x : D) (s : List D) (K : D → List D → Prop) : Prop := match x with
  | .v (.string b) => K (.v (.int .i64 (b.size : Int))) s
  | _ => False
theorem ev_lenS {x} : evalK Ctr s (.lenS x) K = lenSK (lk s x) s K := rfl
theorem lenS_s {b} : lenSK (.v (.string b)) s K = K (.v (.int .i64 (b.size : Int))) s := rfl
def mmK (mx : Bool) (x y : D) (s : List D) (K : D → List D → Prop) : Prop := match x, y with
  | .v (.int k a), .v (.int k' b) => k = k' ∧ K (.v (.int k (if mx then (if b > a then b else a) else (if b < a then b else a)))) s
  | _, _ => False
theorem ev_mm {mx x y} : evalK Ctr s (.mm mx [x, y]) K = mmK mx (lk s x) (lk s y) s K := by
  simp only [evalK, List.map_cons, List.map_nil, mmK]
  split
  · rename_i h; simp only [List.cons.injEq, and_true] at h; rw [h.1, h.2]
  · rename_i h
    split
    · rename_i e1 e2; exact absurd (by rw [e1, e2]) (h _ _ _ _)
    · rfl
theorem mm_max {k a b} : mmK true (.v (.int k a)) (.v (.int k b)) s K = K (.v (.int k (if b > a then b else a))) s := by simp [mmK]
theorem mm_min {k a b} : mmK false (.v (.int k a)) (.v (.int k b)) s K = K (.v (.int k (if b < a then b else a))) s := by simp [mmK]
variable {KR : List (List D) → List D → Prop}
def app3K (sz bytes : Nat) (rows : List (List D)) (K : D → List D → Prop) : List (List D) → List D → Prop := fun more s2 => (rows.length + more.length) * (bytes + 1) ≤ 2 ^ 40 ∧ K (.sl true sz (rows ++ more)) s2
theorem app3_app {sz bytes rows more} : app3K sz bytes rows K more s = ((rows.length + more.length) * (bytes + 1) ≤ 2 ^ 40 ∧ K (.sl true sz (rows ++ more)) s) := rfl
def app2K (sz bytes : Nat) (y : Operand) (K : D → List D → Prop) : List (List D) → List D → Prop := fun rows s1 => addK s1 sz y (app3K sz bytes rows K)
theorem app2_app {sz bytes y rows} : app2K sz bytes y K rows s = addK s sz y (app3K sz bytes rows K) := rfl
theorem ev_app {sz bytes x y} : evalK Ctr s (.app sz bytes x y) K = growK s sz x (app2K sz bytes y K) := rfl
def grow3 (sz : Nat) (KR : List (List D) → List D → Prop) : D → List D → Prop := fun d s' => match d with
  | .sl true sz' rows => sz' = sz ∧ KR rows s'
  | _ => False
theorem grow3_sl {sz sz' rows} : grow3 sz KR (.sl true sz' rows) s = (sz' = sz ∧ KR rows s) := rfl
def grow2 (sz : Nat) (s0 : List D) (p : D × List D) (KR : List (List D) → List D → Prop) : Prop := match p.1 with
  | .sl true sz' rows => sz' = sz ∧ KR rows p.2
  | .nils => KR [] s0
  | .ref r q => stealK s0 r q (grow3 sz KR)
  | _ => False
theorem grow_eq {sz x} : growK s sz x KR = grow2 sz s (tk s x) KR := rfl
theorem grow2_sl {sz s0 sz' rows} : grow2 sz s0 (.sl true sz' rows, s) KR = (sz' = sz ∧ KR rows s) := rfl
theorem grow2_nils {sz s0} : grow2 sz s0 (.nils, s) KR = KR [] s0 := rfl
theorem grow2_ref {sz s0 r q} : grow2 sz s0 (.ref r q, s) KR = stealK s0 r q (grow3 sz KR) := rfl
def add3 (sz : Nat) (s0 : List D) (o : Option (Nat × List (List D))) (KR : List (List D) → List D → Prop) : Prop := match o with
  | some (sz', rows) => (sz' = sz ∨ rows = []) ∧ (∀ row, row ∈ rows → ownyL row = false) ∧ KR rows s0
  | none => False
theorem add3_some {sz s0 sz' rows} : add3 sz s0 (some (sz', rows)) KR = ((sz' = sz ∨ rows = []) ∧ (∀ row, row ∈ rows → ownyL row = false) ∧ KR rows s0) := rfl
def add2 (sz : Nat) (s0 : List D) (p : D × List D) (KR : List (List D) → List D → Prop) : Prop := match p.1 with
  | .sl true sz' rows => (sz' = sz ∨ rows = []) ∧ KR rows p.2
  | .sl false sz' rows => (sz' = sz ∨ rows = []) ∧ KR rows s0
  | .nils => KR [] s0
  | .ref r q => add3 sz s0 (slAt s0 (.ref r q)) KR
  | .sub r q i n => add3 sz s0 (slAt s0 (.sub r q i n)) KR
  | _ => False
theorem add_eq {sz y} : addK s sz y KR = add2 sz s (tk s y) KR := rfl
theorem add2_own {sz s0 sz' rows} : add2 sz s0 (.sl true sz' rows, s) KR = ((sz' = sz ∨ rows = []) ∧ KR rows s) := rfl
theorem add2_imm {sz s0 sz' rows} : add2 sz s0 (.sl false sz' rows, s) KR = ((sz' = sz ∨ rows = []) ∧ KR rows s0) := rfl
theorem add2_nils {sz s0} : add2 sz s0 (.nils, s) KR = KR [] s0 := rfl
theorem add2_sub {sz s0 r q i n} : add2 sz s0 (.sub r q i n, s) KR = add3 sz s0 (slAt s0 (.sub r q i n)) KR := rfl
theorem add2_ref {sz s0 r q} : add2 sz s0 (.ref r q, s) KR = add3 sz s0 (slAt s0 (.ref r q)) KR := rfl
theorem ev_mkf {f first caps} : evalK Ctr s (.mkf f first caps) K = K (.fn f (first.map (lk s)) (caps.map (lk s))) s := rfl
def mksK (sz bytes : Nat) (zero : List Value) (l c : D) (s : List D) (K : D → List D → Prop) : Prop := match l, c with
  | .v (.int _ n), .v (.int _ m) => 0 ≤ n ∧ n ≤ m ∧ m * (bytes + 1) ≤ 2 ^ 40 ∧ K (.sl true sz (List.replicate n.toNat (zero.map ofC))) s
  | _, _ => False
theorem ev_mks {sz bytes zero l c} : evalK Ctr s (.mks sz bytes zero l c) K = mksK sz bytes zero (lk s l) (lk s c) s K := rfl
theorem mks_int {sz bytes zero k n k' m} : mksK sz bytes zero (.v (.int k n)) (.v (.int k' m)) s K = (0 ≤ n ∧ n ≤ m ∧ m * (bytes + 1) ≤ 2 ^ 40 ∧ K (.sl true sz (List.replicate n.toNat (zero.map ofC))) s) := rfl

/-! the code -/
variable {Q : VExit → List D → Prop} {next : List D → Prop}
theorem wp_ops' {l : List VO} : (VCode.ops l).wp Ctr Q s = opsK Ctr s l (Q .normal) := rfl
theorem wp_seq' {x y : VCode} : (VCode.seq x y).wp Ctr Q s = x.wp Ctr (vthen (y.wp Ctr Q) Q) s := rfl
theorem wp_skip' : VCode.skip.wp Ctr Q s = Q .normal s := rfl
theorem wp_ret' : VCode.ret.wp Ctr Q s = Q .ret s := rfl
theorem wp_exit' {i} : (VCode.exit i).wp Ctr Q s = Q (.exit i) s := rfl
theorem wp_block' {i} {c : VCode} : (VCode.block i c).wp Ctr Q s = c.wp Ctr (vblock i Q) s := rfl
def condK (d : D) (A B : List D → Prop) (s : List D) : Prop := match d with
  | .v (.bool t) => (t = true → A s) ∧ (t = false → B s)
  | _ => False
theorem wp_cond' {x} {a b : VCode} : (VCode.cond x a b).wp Ctr Q s = condK (lk s x) (a.wp Ctr Q) (b.wp Ctr Q) s := rfl
variable {A B : List D → Prop}
theorem cond_t : condK (.v (.bool true)) A B s = A s := by simp [condK]
theorem cond_f : condK (.v (.bool false)) A B s = B s := by simp [condK]
theorem cond_split {t : Bool} {A B : List D → Prop} {s : List D} (h1 : t = true → A s) (h2 : t = false → B s) : condK (.v (.bool t)) A B s := ⟨h1, h2⟩
theorem then_n : vthen next Q .normal s = next s := rfl
theorem then_r : vthen next Q .ret s = Q .ret s := rfl
theorem then_e {i} : vthen next Q (.exit i) s = Q (.exit i) s := rfl
theorem block_n {i} : vblock i Q .normal s = Q .normal s := rfl
theorem block_r {i} : vblock i Q .ret s = Q .ret s := rfl
theorem block_e {i j} : vblock i Q (.exit j) s = if j = i then Q .normal s else Q (.exit j) s := rfl
theorem loop_intro {mask : List Bool} {c : VCode} {Q : VExit → List D → Prop} {s : List D} (J : Nat → List D → Prop) (n : Nat) (h0 : ∃ s1, nleL (clr mask s) s1 ∧ J n s1) (h : ∀ n s', J n s' → c.wp Ctr (vthen (fun s'' => ∃ m, m < n ∧ ∃ s1, nleL (clr mask s'') s1 ∧ J m s1) Q) s') : (VCode.loop mask c).wp Ctr Q s := ⟨J, ⟨n, h0⟩, h⟩
theorem call_intro {f : FuncId} {args : List Operand} {s : List D} {K : D → List D → Prop} (args' : List D) (d : D) (hC : Ctr.c f args' d) (hle : leL (args.map fun x => deep s 8 (raw s x)) args') (hi : d.noImm = true ∨ ((args.map fun x => raw s x).all D.noRef) = true) (hK : K d s) : evalK Ctr s (.call f args) K := ⟨args', d, hle, hC, hi, hK⟩

/-! the results -/
def NoG : World → Prop := fun _ => True
theorem noG : ∀ w w' : World, NoG w → NoG w' := fun _ _ _ => trivial
end Go.V
namespace Go.V
open Go.RowKit
section
variable {Ctr : CtrT} {s s' : List D} {K : D → List D → Prop} {KP : List D → Prop} {KD : D → Prop} {KL : List D → Prop} {Q : VExit → List D → Prop} {pr : Option (Nat × Path)} {os : List DOp}
/-! ### Regions that draw -/
def drawEndK (Ctr : CtrT) (cls : List Bool) (tail : List VO) (Q : VExit → List D → Prop) : List D → Prop := fun s => opsK Ctr (clr cls s) tail (Q .normal)
theorem wp_draw' {start cls l1 tail} : (VCode.draw start cls l1 tail).wp Ctr Q s = headK Ctr none (clr start s) l1 (drawEndK Ctr cls tail Q) := rfl
theorem drawEnd_app {cls tail} : drawEndK Ctr cls tail Q s = opsK Ctr (clr cls s) tail (Q .normal) := rfl
def headC (Ctr : CtrT) (pr : Option (Nat × Path)) (s : List D) (dst : Option Nat) (os : List DOp) (KP : List D → Prop) : D → Prop := fun d => headK Ctr pr (setO s dst (prO pr d)) os KP
def guardD (Ctr : CtrT) (V : List D) (cl : List Bool) (want : Bool) (op : VOp) (d : D) (KD : D → Prop) : Prop := match d with
  | .v (.bool b) => (b = want → drawE Ctr V cl op KD) ∧ (b ≠ want → KD (.v (.tuple #[])))
  | .v _ => KD (.v (.tuple #[]))
  | _ => False
theorem head_nil : headK Ctr pr s [] KP = KP s := rfl
theorem head_cons {i hid cl dst op} : headK Ctr pr s (⟨i, hid, cl, ⟨dst, none, op⟩⟩ :: os) KP = drawE Ctr (clr hid s) cl op (headC Ctr pr s dst os KP) := rfl
theorem head_guard {i hid cl dst op g want} : headK Ctr pr s (⟨i, hid, cl, ⟨dst, some (g, want), op⟩⟩ :: os) KP = guardD Ctr (clr hid s) cl want op (lkT (clr hid s) g) (headC Ctr pr s dst os KP) := rfl
theorem headC_app {dst d} : headC Ctr pr s dst os KP d = headK Ctr pr (setO s dst (prO pr d)) os KP := rfl
theorem gd_tt {V cl op} : guardD Ctr V cl true op (.v (.bool true)) KD = drawE Ctr V cl op KD := by simp [guardD]
theorem gd_ff {V cl op} : guardD Ctr V cl false op (.v (.bool false)) KD = drawE Ctr V cl op KD := by simp [guardD]
theorem gd_tf {V cl op} : guardD Ctr V cl true op (.v (.bool false)) KD = KD (.v (.tuple #[])) := by simp [guardD]
theorem gd_ft {V cl op} : guardD Ctr V cl false op (.v (.bool true)) KD = KD (.v (.tuple #[])) := by simp [guardD]
theorem gd_skip {V cl op want} : guardD Ctr V cl want op (.v (.tuple #[])) KD = KD (.v (.tuple #[])) := by simp [guardD]
theorem gd_split {V cl op want} {b : Bool} (h1 : b = true → guardD Ctr V cl want op (.v (.bool true)) KD) (h2 : b = false → guardD Ctr V cl want op (.v (.bool false)) KD) : guardD Ctr V cl want op (.v (.bool b)) KD := by
  cases b
  · exact h2 rfl
  · exact h1 rfl
def drawC (V : List D) (cl : List Bool) (KD : D → Prop) : D → List D → Prop := fun d s' => clr cl s' = clr cl V ∧ KD d
theorem drawE_eq {V cl op} : drawE Ctr V cl op KD = evalK Ctr V op (drawC V cl KD) := rfl
theorem clr_nil' : ∀ (s : List D), clr [] s = s := by
  intro s
  apply List.ext_getElem?
  intro r
  rw [clr_get]
  cases s[r]? with
  | none => rfl
  | some d =>
    have : keepQ [] = fun _ => true := by funext x; cases x <;> rfl
    simp [this, D.prune_yes]
theorem drawC_nil {V d} : drawC V [] KD d s' = (s' = V ∧ KD d) := by unfold drawC; rw [clr_nil', clr_nil']
theorem drawC_cons {V d b cl} : drawC V (b :: cl) KD d s' = (clr (b :: cl) s' = clr (b :: cl) V ∧ KD d) := rfl
theorem setO_some' {t d} : setO s (some t) d = s.set t d := rfl
theorem setO_none' {d} : setO s none d = s := rfl
theorem prO_none' {d} : prO none d = d := rfl
theorem prO_some' {r q d} : prO (some (r, q)) d = d.prune (notThrough r q) := rfl
theorem clr_eq {m} : clr m s = clrL (keepQ m) m s := rfl
theorem clrL_nil {q m} : clrL q m [] = [] := by simp [clrL]
theorem clrL_t {q m d} : clrL q (true :: m) (d :: s) = .undef :: clrL q m s := rfl
theorem clrL_f {q m d} : clrL q (false :: m) (d :: s) = d.prune q :: clrL q m s := rfl
theorem clrL_e {q d} : clrL q [] (d :: s) = d.prune q :: clrL q [] s := rfl
theorem keepQ_ref {m r p} : keepQ m (.ref r p) = !m.getD r false := rfl
theorem keepQ_sub {m r p i j} : keepQ m (.sub r p i j) = !m.getD r false := rfl
theorem keepQ_ptr {m r p i j} : keepQ m (.ptr r p i j) = !m.getD r false := rfl
theorem getD_z {b : Bool} {m : List Bool} : (b :: m).getD 0 false = b := rfl
theorem getD_s {b : Bool} {m : List Bool} {n : Nat} : (b :: m).getD (n + 1) false = m.getD n false := by simp
theorem getD_e {n : Nat} : ([] : List Bool).getD n false = false := by simp
def midC (Ctr : CtrT) (start cls : List Bool) (o : DOp) (l2 : List DOp) (tail : List VO) (Q : VExit → List D → Prop) : List D → Prop := fun s => midK Ctr start cls s o l2 fun s'' => opsK Ctr s'' tail (Q .normal)
theorem wp_drawW' {start cls l1 o l2 tail} : (VCode.drawW start cls l1 o l2 tail).wp Ctr Q s = headK Ctr none (clr start s) l1 (midC Ctr start cls o l2 tail Q) := rfl
def placeC (Ctr : CtrT) (s : List D) (dst : Option Nat) (l2 : List DOp) (cls : List Bool) (tail : List VO) (Q : VExit → List D → Prop) : Nat → Path → D → Prop := fun r q d => headK Ctr (some (r, q)) (setO (holeS r q s) dst d) l2 (drawEndK Ctr cls tail Q)
theorem mid_app {start cls i hid cl dst g sz by' x y l2 tail} : midC Ctr start cls ⟨i, hid, cl, ⟨dst, g, .app sz by' x y⟩⟩ l2 tail Q s = placeK start (clr hid s) sz by' x y (placeC Ctr s dst l2 cls tail Q) := rfl
theorem placeC_app {dst l2 cls tail r q d} : placeC Ctr s dst l2 cls tail Q r q d = headK Ctr (some (r, q)) (setO (holeS r q s) dst d) l2 (drawEndK Ctr cls tail Q) := rfl
variable {KR : Nat → Path → D → Prop}
def place4 (sz by' : Nat) (rows : List (List D)) (KD : D → Prop) : List (List D) → List D → Prop := fun more _ => (rows.length + more.length) * (by' + 1) ≤ 2 ^ 40 ∧ KD (.sl true sz (rows ++ more))
theorem place4_app {sz by' rows more} : place4 sz by' rows KD more s = ((rows.length + more.length) * (by' + 1) ≤ 2 ^ 40 ∧ KD (.sl true sz (rows ++ more))) := rfl
def place3 (sz by' : Nat) (y : Operand) (KD : D → Prop) : D → List D → Prop := fun d s1 => match d with
  | .sl true sz' rows => sz' = sz ∧ addK s1 sz y (place4 sz by' rows KD)
  | _ => False
theorem place3_app {sz by' y sz' rows} : place3 sz by' y KD (.sl true sz' rows) s = (sz' = sz ∧ addK s sz y (place4 sz by' rows KD)) := rfl
def place2 (start : List Bool) (V : List D) (sz by' : Nat) (y : Operand) (p : D × List D) (KR : Nat → Path → D → Prop) : Prop := match p.1 with
  | .ref r q => start.getD r false = false ∧ stealK V r q (place3 sz by' y (KR r q))
  | _ => False
theorem place_eq {start V sz by' x y} : placeK start V sz by' x y KR = place2 start V sz by' y (tk V x) KR := rfl
theorem place2_ref {start V sz by' y r q} : place2 start V sz by' y (.ref r q, s) KR = (start.getD r false = false ∧ stealK V r q (place3 sz by' y (KR r q))) := rfl
def holeF (r : Nat) (q : Path) (s : List D) (o : Option D) : List D := match o with
  | some d => (pruneL (notThrough r q) s).set r (setAt (d.prune (notThrough r q)) q .undef)
  | none => s
theorem hole_eq {r q} : holeS r q s = holeF r q s s[r]? := rfl
theorem holeF_some {r q d} : holeF r q s (some d) = (pruneL (notThrough r q) s).set r (setAt (d.prune (notThrough r q)) q .undef) := rfl
/-! ### Kin of append and the like -/
variable {KG : List (List D) → List D → Prop}
def growN2 (sz : Nat) (s0 : List D) (p : D × List D) (KG : List (List D) → List D → Prop) : Prop := match p.1 with
  | .sl true sz' rows => sz' = sz ∧ KG rows p.2
  | .nils => KG [] s0
  | _ => False
theorem growN_eq {sz x} : growNK s sz x KG = growN2 sz s (tk s x) KG := rfl
theorem growN2_sl {sz s0 sz' rows} : growN2 sz s0 (.sl true sz' rows, s) KG = (sz' = sz ∧ KG rows s) := rfl
theorem growN2_nils {sz s0} : growN2 sz s0 (.nils, s) KG = KG [] s0 := rfl
theorem ev_appN {sz by' x y} : evalK Ctr s (.appN sz by' x y) K = growNK s sz x (app2K sz by' y K) := rfl
def bslNK (sz n : Nat) (p : List D × List D) (K : D → List D → Prop) : Prop :=
  p.1.all (fun d => d.okCells && d.cells.length == sz) = true ∧ noRefs (p.1.flatMap D.cells) = true ∧ K (.sl true sz (chunk sz n (p.1.flatMap D.cells))) p.2
theorem ev_bslN {sz parts} : evalK Ctr s (.bslN sz parts) K = bslNK sz parts.length (tkL s parts) K := rfl
theorem bslN_mk {sz n} {ds : List D} : bslNK sz n (ds, s) K = (ds.all (fun d => d.okCells && d.cells.length == sz) = true ∧ noRefs (ds.flatMap D.cells) = true ∧ K (.sl true sz (chunk sz n (ds.flatMap D.cells))) s) := rfl
def extNK (o : Option D) (s : List D) (K : D → List D → Prop) (i : Nat) : Prop := match o with
  | some (.tup vs) => match vs[i]? with
    | some d => d.owny = false ∧ K d s
    | none => False
  | _ => False
def extN2 (o : Option D) (s : List D) (K : D → List D → Prop) : Prop := match o with
  | some d => d.owny = false ∧ K d s
  | none => False
theorem ev_extN {t i} : evalK Ctr s (.extN (.tmp t) i) K = extNK s[t]? s K i := rfl
theorem extN_tup {vs i} : extNK (some (.tup vs)) s K i = extN2 vs[i]? s K := rfl
theorem extN2_some {d} : extN2 (some d) s K = (d.owny = false ∧ K d s) := rfl
/-! ### A function's end -/
theorem end_ret {rvs d} : endQ rvs d .ret s = rvsK s rvs (leK d) := rfl
theorem end_n {rvs d} : endQ rvs d .normal s = rvsK s rvs (leK d) := rfl
theorem endX_ret {rvs d i b cs} : endX rvs d i b cs .ret s = rvsK s rvs (leX d i b cs) := rfl
theorem endX_n {rvs d i b cs} : endX rvs d i b cs .normal s = rvsK s rvs (leX d i b cs) := rfl
section
variable {KS : List D → List D → Prop}
def rcons (d : D) (KL : List D → List D → Prop) : List D → List D → Prop := fun ds => KL (d :: ds)
def rvN (rs : List RV) (KL : List D → List D → Prop) : D → List D → Prop := fun d s' => rvsK s' rs (rcons d KL)
theorem rvs_nil : rvsK s [] KS = KS [] s := rfl
theorem rvs_cons {r rs} : rvsK s (r :: rs) KS = rvK s r (rvN rs KS) := rfl
theorem rvN_app {rs d} : rvN rs KS d s = rvsK s rs (rcons d KS) := rfl
theorem rcons_app {d ds} : rcons d KS ds s = KS (d :: ds) s := rfl
end
theorem leK_app {d ds} : leK d ds s = (one ds).le d := rfl
def outF (b : Nat) (cells' : List D) : Option D → Prop
  | some (.box (some b') cs) => b' = b ∧ leL (pruneL (fun _ => false) cs) cells'
  | _ => False
theorem leX_app {d ds i b cs} : leX d i b cs ds s = ((one ds).le d ∧ outF b cs s[i]?) := by unfold leX outX outF; rfl
theorem outF_box {b cs cells'} : outF b cells' (some (.box (some b) cs)) = leL (pruneL (fun _ => false) cs) cells' := by simp [outF]
theorem one_1 {d} : one [d] = d := rfl
theorem one_0 : one [] = .tup [] := rfl
theorem one_2 {d e ds} : one (d :: e :: ds) = .tup (d :: e :: ds) := rfl
def rv2 (p : D × List D) (K : D → List D → Prop) : Prop := p.1.okCells = true ∧ resolveK p.2 p.1 K
theorem rv_t {t} : rvK s (.t t) K = rv2 (tkT s t) K := rfl
theorem rv2_mk {d} : rv2 (d, s) K = (d.okCells = true ∧ resolveK s d K) := rfl
def rv3 (t n : Nat) (agg : Bool) (s : List D) (o : Option D) (K : D → List D → Prop) : Prop := match o with
  | some (.box _ cells) => cells.length = n ∧ (mkAgg agg (pruneL (notRoot t) cells)).okCells = true ∧ resolveK ((pruneL (notRoot t) s).set t .undef) (mkAgg agg (pruneL (notRoot t) cells)) K
  | _ => False
theorem rv_c {t n agg} : rvK s (.c t n agg) K = rv3 t n agg s s[t]? K := rfl
theorem rv3_box {t n agg g cells} : rv3 t n agg s (some (.box g cells)) K = (cells.length = n ∧ (mkAgg agg (pruneL (notRoot t) cells)).okCells = true ∧ resolveK ((pruneL (notRoot t) s).set t .undef) (mkAgg agg (pruneL (notRoot t) cells)) K) := rfl
def rebK (d : D) (K : D → List D → Prop) : List D → List D → Prop := fun cs s' => K (rebuild d cs) s'
def isPtr : D → Bool
  | .ptr _ _ _ _ => true
  | _ => false
theorem resolve_eq {d : D} (h : isPtr d = false) : resolveK s d K = (refsOK d.cells = true ∧ resC s d.cells (rebK d K)) := by
  cases d <;> first | rfl | cases h
def resP (r : Nat) (s : List D) (K : D → List D → Prop) : Option D → Prop
  | some (.box _ cells) => K (.box none (pruneL (fun _ => false) cells)) ((pruneL (notRoot r) s).set r .undef)
  | _ => False
theorem resolve_ptr {r} : resolveK s (.ptr r [] 0 0) K = resP r s K s[r]? := by unfold resolveK resP; rfl
theorem resP_box {r g cells} : resP r s K (some (.box g cells)) = K (.box none (pruneL (fun _ => false) cells)) ((pruneL (notRoot r) s).set r .undef) := rfl
theorem resolve_agg {cs} : resolveK s (.agg cs) K = (refsOK cs = true ∧ resC s cs (rebK (.agg cs) K)) := rfl
theorem resolve_v {x} : resolveK s (.v x) K = (refsOK [.v x] = true ∧ resC s [.v x] (rebK (.v x) K)) := rfl
theorem resolve_nils : resolveK s .nils K = (refsOK [.nils] = true ∧ resC s [.nils] (rebK .nils K)) := rfl
theorem resolve_undef : resolveK s .undef K = (refsOK [.undef] = true ∧ resC s [.undef] (rebK .undef K)) := rfl
theorem resolve_sl {o z r} : resolveK s (.sl o z r) K = (refsOK [.sl o z r] = true ∧ resC s [.sl o z r] (rebK (.sl o z r) K)) := rfl
theorem resolve_ref {r p} : resolveK s (.ref r p) K = (refsOK [.ref r p] = true ∧ resC s [.ref r p] (rebK (.ref r p) K)) := rfl
theorem resolve_mp {k e} : resolveK s (.mp k e) K = (refsOK [.mp k e] = true ∧ resC s [.mp k e] (rebK (.mp k e) K)) := rfl
theorem resolve_iptr {c j} : resolveK s (.iptr c j) K = (refsOK [.iptr c j] = true ∧ resC s [.iptr c j] (rebK (.iptr c j) K)) := rfl
theorem reb_mp {k e ds} : rebuild (.mp k e) ds = ds.headD .undef := rfl
theorem le_mp' {k e k' e'} : (D.mp k e).le (.mp k' e') = (k = k' ∧ e = e') := by simp [D.le]
theorem le_box' {g e g' e'} : (D.box g e).le (.box g' e') = (g = g' ∧ e = e') := by simp [D.le]
theorem rebK_app {d cs} : rebK d K cs s = K (rebuild d cs) s := rfl
theorem reb_agg {cs ds} : rebuild (.agg cs) ds = .agg ds := rfl
theorem reb_v {x ds} : rebuild (.v x) ds = ds.headD .undef := rfl
theorem reb_nils {ds} : rebuild .nils ds = ds.headD .undef := rfl
theorem reb_undef {ds} : rebuild .undef ds = ds.headD .undef := rfl
theorem reb_sl {o z r ds} : rebuild (.sl o z r) ds = ds.headD .undef := rfl
theorem reb_ref {r p ds} : rebuild (.ref r p) ds = ds.headD .undef := rfl
theorem reb_iptr {c j ds} : rebuild (.iptr c j) ds = ds.headD .undef := rfl
theorem le_undef' {d : D} : d.le .undef = True := by cases d <;> simp [D.le]
theorem le_v' {a b : Value} : (D.v a).le (.v b) = (a = b) := by simp [D.le]
theorem le_nils' : D.nils.le .nils = True := by simp [D.le]
theorem le_nilsl {o z r} : D.nils.le (.sl o z r) = (r = []) := by simp [D.le]
theorem le_sl' {o z r o' z' r'} : (D.sl o z r).le (.sl o' z' r') = (o = o' ∧ z = z' ∧ r = r') := by simp [D.le]
theorem le_agg' {a b} : (D.agg a).le (.agg b) = leL a b := by simp [D.le]
theorem le_tup' {a b} : (D.tup a).le (.tup b) = leL a b := by simp [D.le]
theorem le_fn' {f g a b c d} : (D.fn f a b).le (.fn g c d) = (f = g ∧ leL a c ∧ leL b d) := by simp [D.le]
theorem le_iptr' {a b i} (h : a.length = b.length) : (D.iptr a i).le (.iptr b i) = (∃ m, i = m + i ∧ leL ((a.drop m).take b.length) b) := by simp [D.le]
theorem leL_nil' : leL [] [] = True := by simp [leL]
theorem leL_cons' {a b a2 b2} : leL (a :: a2) (b :: b2) = (a.le b ∧ leL a2 b2) := by simp [leL]
end
end Go.V
namespace Go.V
open Go.RowKit
section
variable {Ctr : CtrT} {s : List D} {K : D → List D → Prop}
def eqsK (neg : Bool) (ks : List Nat) (x y : D) (s : List D) (K : D → List D → Prop) : Prop := match x, y with
  | .agg a, .agg b => kindsOK ks a = true ∧ match eqCells a b with
    | some c => K (.v (.bool (if neg then !c else c))) s
    | none => False
  | _, _ => False
theorem ev_eqs {neg ks x y} : evalK Ctr s (.eqs neg ks x y) K = eqsK neg ks (lk s x) (lk s y) s K := rfl
def eqs2 (neg : Bool) (o : Option Bool) (s : List D) (K : D → List D → Prop) : Prop := match o with
  | some c => K (.v (.bool (if neg then !c else c))) s
  | none => False
theorem eqs_agg {neg ks a b} : eqsK neg ks (.agg a) (.agg b) s K = (kindsOK ks a = true ∧ eqs2 neg (eqCells a b) s K) := rfl
theorem eqs2_f {c} : eqs2 false (some c) s K = K (.v (.bool c)) s := rfl
theorem eqs2_t {c} : eqs2 true (some c) s K = K (.v (.bool (!c))) s := rfl
theorem eqc_nil : eqCells [] [] = some true := rfl
theorem eqc_int {k a b xs ys} : eqCells (.v (.int k a) :: xs) (.v (.int k b) :: ys) = (eqCells xs ys).map (decide (a = b) && ·) := by simp [eqCells]
theorem eqc_str {a b xs ys} : eqCells (.v (.string a) :: xs) (.v (.string b) :: ys) = (eqCells xs ys).map (decide (a = b) && ·) := rfl
theorem eqc_bool {a b xs ys} : eqCells (.v (.bool a) :: xs) (.v (.bool b) :: ys) = (eqCells xs ys).map ((a == b) && ·) := rfl
theorem kok_nil : kindsOK [] [] = true := rfl
theorem kok_b {ks b ds} : kindsOK (0 :: ks) (.v (.bool b) :: ds) = kindsOK ks ds := rfl
theorem kok_i {ks k n ds} : kindsOK (1 :: ks) (.v (.int k n) :: ds) = kindsOK ks ds := rfl
theorem kok_s {ks b ds} : kindsOK (2 :: ks) (.v (.string b) :: ds) = kindsOK ks ds := rfl
theorem ev_b2s {x} : evalK Ctr s (.b2s x) K = b2sK (slAt s (lk s x)) s K := rfl
theorem b2s_mk {sz rows} : b2sK (some (sz, rows)) s K = ∃ xs : List Int, rows = xs.map rowB ∧ K (.v (.string (strI xs))) s := rfl
theorem b2s_map {sz} {xs : List Int} (h : K (.v (.string (strI xs))) s) : b2sK (some (sz, xs.map rowB)) s K := ⟨xs, rfl, h⟩
theorem ev_isnil {neg x} : evalK Ctr s (.isnil neg x) K = isnilK neg (lk s x) (slAt s (lk s x)) s K := rfl
theorem isnil_nils {neg o} : isnilK neg .nils o s K = K (.v (.bool (!neg))) s := rfl
/-! maps -/
theorem ev_mkm {k} : evalK Ctr s (.mkm k) K = K (.mp k []) s := rfl
def mupd4 (k : KK) (r : Nat) (q : Path) (d : D) (e : List (Value × Value)) (ou ov : Option Value) (s : List D) (K : D → List D → Prop) : Prop := match ou, ov with
  | some u, some v => keyOK k u = true ∧ K .undef (s.set r (setAt d q (.mp k (mset e u v))))
  | _, _ => False
def mupd3 (k : KK) (r : Nat) (q : Path) (d : D) (o : Option D) (ou ov : Option Value) (s : List D) (K : D → List D → Prop) : Prop := match o with
  | some (.mp k' e) => k' = k ∧ mupd4 k r q d e ou ov s K
  | _ => False
def mupd2 (k : KK) (r : Nat) (q : Path) (o : Option D) (ou ov : Option Value) (s : List D) (K : D → List D → Prop) : Prop := match o with
  | some d => mupd3 k r q d (treeAt d q) ou ov s K
  | none => False
def mupd1 (k : KK) (m : D) (ou ov : Option Value) (s : List D) (K : D → List D → Prop) : Prop := match m with
  | .ref r q => mupd2 k r q s[r]? ou ov s K
  | _ => False
theorem ev_mupd {k m i x} : evalK Ctr s (.mupd k m i x) K = mupd1 k (lk s m) (toV (lk s i)) (toV (lk s x)) s K := rfl
theorem mupd1_ref {k r q ou ov} : mupd1 k (.ref r q) ou ov s K = mupd2 k r q s[r]? ou ov s K := rfl
theorem mupd2_some {k r q d ou ov} : mupd2 k r q (some d) ou ov s K = mupd3 k r q d (treeAt d q) ou ov s K := rfl
theorem mupd3_mp {k r q d e ou ov} : mupd3 k r q d (some (.mp k e)) ou ov s K = mupd4 k r q d e ou ov s K := by simp [mupd3]
theorem mupd4_some {k r q d e u v} : mupd4 k r q d e (some u) (some v) s K = (keyOK k u = true ∧ K .undef (s.set r (setAt d q (.mp k (mset e u v))))) := rfl
def mdel4 (k : KK) (r : Nat) (q : Path) (d : D) (e : List (Value × Value)) (ou : Option Value) (s : List D) (K : D → List D → Prop) : Prop := match ou with
  | some u => keyOK k u = true ∧ K .undef (s.set r (setAt d q (.mp k (mdel e u))))
  | _ => False
def mdel3 (k : KK) (r : Nat) (q : Path) (d : D) (o : Option D) (ou : Option Value) (s : List D) (K : D → List D → Prop) : Prop := match o with
  | some (.mp k' e) => k' = k ∧ mdel4 k r q d e ou s K
  | _ => False
def mdel2 (k : KK) (r : Nat) (q : Path) (o : Option D) (ou : Option Value) (s : List D) (K : D → List D → Prop) : Prop := match o with
  | some d => mdel3 k r q d (treeAt d q) ou s K
  | none => False
def mdel1 (k : KK) (m : D) (ou : Option Value) (s : List D) (K : D → List D → Prop) : Prop := match m with
  | .ref r q => mdel2 k r q s[r]? ou s K
  | _ => False
theorem ev_mdel {k m i} : evalK Ctr s (.mdel k m i) K = mdel1 k (lk s m) (toV (lk s i)) s K := rfl
theorem mdel1_ref {k r q ou} : mdel1 k (.ref r q) ou s K = mdel2 k r q s[r]? ou s K := rfl
theorem mdel2_some {k r q d ou} : mdel2 k r q (some d) ou s K = mdel3 k r q d (treeAt d q) ou s K := rfl
theorem mdel3_mp {k r q d e ou} : mdel3 k r q d (some (.mp k e)) ou s K = mdel4 k r q d e ou s K := by simp [mdel3]
theorem mdel4_some {k r q d e u} : mdel4 k r q d e (some u) s K = (keyOK k u = true ∧ K .undef (s.set r (setAt d q (.mp k (mdel e u))))) := rfl
def mlk0 (k : KK) (z : Value) (ok : Bool) (ou : Option Value) (m : D) (o : Option (KK × List (Value × Value))) (s : List D) (K : D → List D → Prop) : Prop := match ou with
  | some u => keyOK k u = true ∧ mlkK k z ok u m o s K
  | none => False
theorem ev_mlk {k z ok m i} : evalK Ctr s (.mlk k z ok m i) K = mlk0 k z ok (toV (lk s i)) (lk s m) (mpAt s (lk s m)) s K := rfl
theorem mlk0_some {k z ok u m o} : mlk0 k z ok (some u) m o s K = (keyOK k u = true ∧ mlkK k z ok u m o s K) := rfl
/-- The outcome of a look. -/
def lookK (z : Value) (ok : Bool) (o : Option Value) (s : List D) (K : D → List D → Prop) : Prop := match o with
  | some v => K (if ok then .tup [ofV v, .v (.bool true)] else ofV v) s
  | none => K (if ok then .tup [ofV z, .v (.bool false)] else ofV z) s
theorem mlk_some {k z ok u m e} : mlkK k z ok u m (some (k, e)) s K = lookK z ok (mget e u) s K := by
  unfold mlkK lookK
  simp only [true_and]
  cases mget e u <;> rfl
theorem mlk_nil {k z ok u} : mlkK k z ok u (.v (.map none)) none s K = lookK z ok none s K := rfl
theorem look_sf {z v} : lookK z false (some v) s K = K (ofV v) s := rfl
theorem look_st {z v} : lookK z true (some v) s K = K (.tup [ofV v, .v (.bool true)]) s := rfl
theorem look_nf {z} : lookK z false none s K = K (ofV z) s := rfl
theorem look_nt {z} : lookK z true none s K = K (.tup [ofV z, .v (.bool false)]) s := rfl
theorem look_split {z ok} {o : Option Value} (h1 : ∀ v, o = some v → lookK z ok (some v) s K) (h2 : o = none → lookK z ok none s K) : lookK z ok o s K := by
  cases o with
  | some v => exact h1 v rfl
  | none => exact h2 rfl
def mlen2 (m : D) (o : Option (KK × List (Value × Value))) (s : List D) (K : D → List D → Prop) : Prop := match o with
  | some (_, e) => K (.v (.int .i64 (e.length : Int))) s
  | none => match m with
    | .v (.map none) => K (.v (.int .i64 0)) s
    | _ => False
theorem ev_mlen {m} : evalK Ctr s (.mlen m) K = mlen2 (lk s m) (mpAt s (lk s m)) s K := rfl
theorem mlen2_some {m k e} : mlen2 m (some (k, e)) s K = K (.v (.int .i64 (e.length : Int))) s := rfl
theorem mpAt_imp {k e} : mpAt s (.imp k e) = some (k, e) := rfl
def mpG : Option D → Option (KK × List (Value × Value))
  | some (.mp k e) => some (k, e)
  | _ => none
def mpF (q : Path) : Option D → Option (KK × List (Value × Value))
  | some d => mpG (treeAt d q)
  | none => none
theorem mpAt_ref {r q} : mpAt s (.ref r q) = mpF q s[r]? := by unfold mpAt mpF mpG; rfl
theorem mpF_some {q d} : mpF q (some d) = mpG (treeAt d q) := rfl
theorem mpG_mp {k e} : mpG (some (.mp k e)) = some (k, e) := rfl
theorem mpAt_v {x} : mpAt s (.v x) = none := rfl
theorem toV_v {x} : toV (.v x) = some x := rfl
theorem toV_nils : toV .nils = some (.slice none 0 0) := rfl
theorem toV_agg {cs} : toV (.agg cs) = (plainC cs).map fun vs => .agg ⟨vs⟩ := rfl
theorem plain_nil : plainC [] = some [] := rfl
theorem plain_int {k n ds} : plainC (.v (.int k n) :: ds) = (plainC ds).map (.int k n :: ·) := rfl
theorem plain_str {b ds} : plainC (.v (.string b) :: ds) = (plainC ds).map (.string b :: ·) := rfl
theorem plain_bool {b ds} : plainC (.v (.bool b) :: ds) = (plainC ds).map (.bool b :: ·) := rfl
theorem keyOK_str {b} : keyOK .str (.string b) = true := rfl
theorem keyOK_bool {b} : keyOK .bool (.bool b) = true := rfl
theorem keyOK_int {k n} : keyOK (.int k) (.int k n) = true := by simp [keyOK]
theorem keyOK_flat {ks cs} : keyOK (.flat ks) (.agg ⟨cs⟩) = kindsV ks cs := rfl
theorem kV_nil : kindsV [] [] = true := rfl
theorem kV_b {ks b vs} : kindsV (0 :: ks) (.bool b :: vs) = kindsV ks vs := rfl
theorem kV_i {ks n vs} : kindsV (1 :: ks) (.int .i64 n :: vs) = kindsV ks vs := rfl
theorem kV_s {ks b vs} : kindsV (2 :: ks) (.string b :: vs) = kindsV ks vs := rfl
end
attribute [go_sem ↓] wp_draw' wp_drawW' head_nil head_cons head_guard drawE_eq headC_app mid_app placeC_app drawEnd_app ev_appN ev_bslN ev_extN wp_ops' wp_seq' wp_skip' wp_ret' wp_exit' wp_block' wp_cond' then_n then_r
  then_e block_n block_r block_e ops_nil ops_cons ops_guard cont_app put_some put_none ev_mv ev_asg ev_nilc ev_pick ev_bin ev_binB ev_un ev_conv ev_alloc ev_box ev_build ev_bsl ev_load ev_store ev_fa
  ev_fld ev_ia ev_iaa ev_ixs ev_ixa ev_slcS ev_slc ev_ext ev_len ev_lenS ev_mm ev_app ev_mkf ev_mks ev_eqs ev_b2s ev_isnil ev_mkm ev_mupd ev_mdel ev_mlk ev_mlen
attribute [go_sem] guard_tt guard_ff guard_tf guard_ft guard_skip cond_t cond_f lk_tmp lkT_eq lk_const lk_func lkF_own lkF_imm lkF_box lkF_mp lkF_imp lkF_v lkF_nils lkF_undef lkF_ref lkF_ptr lkF_iptr lkF_agg lkF_fn raw_tmp raw_const
  raw_func rawF tk_tmp tkT_eq tk_const tk_func tkF_own tkF_imm tkF_box tkF_mp tkF_imp tkF_v tkF_nils tkF_undef tkF_ref tkF_ptr tkF_iptr tkF_agg tkF_tup tkF_fn tkL_nil tkL_cons putD_eq putF_own putF_box putF_mp putF_imp putF_imm putF_v
  putF_nils putF_undef putF_ref putF_ptr putF_iptr putF_agg putF_tup putF_fn pairK_mk nilc_ptr nilc_iptr nilc_fn pick_b pick_t pick_f bin_add bin_sub bin_mul bin_quo bin_rem bin_eql bin_neq bin_lss
  bin_leq bin_gtr bin_geq bin_shl bin_shr bin_and bin_or bin_sadd bin_seql bin_sneq bin_slss binB_eq binB_ne un_not un_neg conv_int box_mk build_mk build2_some bsl_mk chunk_app cons_app resS_app res_nil
  res_ref res_undef res_nils res_v res_sl steal_eq stealG_some stealF_some load_ptr load_iptr load2_some end_app row_app store_mk store2_ptr store3_t store3_f setC_eq setC1_some setC2_some setC3_f
  setC3_t bK_all bK_thr setB_nil setB_cons rK_app setR_nil setR_cons isBox_eq isBoxF_box isBoxF_sl rowAt_eq rowF_box rowF_sl fa_ptr fa_iptr fld_agg ia_ref ia_sl ia2_some slAt_ref slAt_sl slAt_nils
  slF_sl iaa_ptr iaa_iptr ixs_s ixa_agg slcS_s slc_sl slc_ref slc_sub' slcR_some slcB_some sizeS_sl sizeS_sub sizeS_ref sizeF_some slAt_sub sub1_some add2_sub lkF_sub tkF_sub putF_sub keepQ_sub opt_none opt_some ext_tup ext2_some len_some lenS_s mm_max mm_min app3_app app2_app grow3_sl grow_eq grow2_sl grow2_nils grow2_ref add3_some add_eq
  add2_own add2_imm add2_nils add2_ref mks_int ofV ofC D.owny ownyL D.prune pruneL notRoot notThrough aliveQ D.cont treeAt setAt D.withCont D.cells D.okCells D.leaf refsOK notThr mkAgg cpyL chunk sizeD
  fillB splice gd_tt gd_ff gd_tf gd_ft gd_skip drawC_nil drawC_cons setO_some' setO_none' prO_none' prO_some' clr_eq clrL_nil clrL_t clrL_f clrL_e keepQ_ref keepQ_ptr getD_z getD_s getD_e place4_app
  place3_app place_eq place2_ref hole_eq holeF_some growN_eq growN2_sl growN2_nils bslN_mk noRefs extN_tup extN2_some end_ret end_n rvs_nil rvs_cons rvN_app rcons_app leK_app one_1 one_0 one_2 rv_t
  rv2_mk rv_c rv3_box resolve_agg resolve_v resolve_nils resolve_undef resolve_sl resolve_ref resolve_mp resolve_iptr resolve_ptr resP_box reb_mp res_mp res_iptr stealF_mp le_mp' le_box' endX_ret endX_n leX_app outF_box rebK_app reb_agg reb_v reb_nils reb_undef reb_sl reb_ref reb_iptr le_undef' le_v' le_nils' le_nilsl le_sl' le_agg' le_tup' le_fn' leL_nil' leL_cons' eqs_agg
  mupd1_ref mupd2_some mupd3_mp mupd4_some mdel1_ref mdel2_some mdel3_mp mdel4_some mlk0_some mlk_some mlk_nil look_sf look_st look_nf look_nt mlen2_some mpAt_imp mpAt_ref mpF_some mpG_mp mpAt_v toV_v toV_nils toV_agg plain_nil plain_int plain_str plain_bool keyOK_str keyOK_bool keyOK_int keyOK_flat kV_nil kV_b kV_i kV_s Option.map_some
  eqs2_f eqs2_t eqc_nil eqc_int eqc_str eqc_bool kok_nil kok_b kok_i kok_s b2s_mk isnil_nils
end Go.V
namespace Go.V
open Go.RowKit
mutual
theorem D.le_rfl : ∀ d : D, d.le d
  | .undef => by simp [D.le]
  | .nils => by simp [D.le]
  | .v _ => by simp [D.le]
  | .sl _ _ _ => by simp [D.le]
  | .agg cs => by simp only [D.le]; exact leL_rfl cs
  | .tup cs => by simp only [D.le]; exact leL_rfl cs
  | .ref _ _ => by simp [D.le]
  | .ptr _ _ _ _ => by simp [D.le]
  | .sub _ _ _ _ => by simp [D.le]
  | .iptr cs _ => by simp only [D.le]; exact ⟨0, by omega, by rw [List.drop_zero, List.take_length]; exact leL_rfl cs⟩
  | .box _ _ => by simp [D.le]
  | .mp _ _ => by simp [D.le]
  | .imp _ _ => by simp [D.le]
  | .fn _ a b => by simp only [D.le]; exact ⟨trivial, leL_rfl a, leL_rfl b⟩
theorem leL_rfl : ∀ ds : List D, leL ds ds
  | [] => by simp [leL]
  | d :: ds => by simp only [leL]; exact ⟨D.le_rfl d, leL_rfl ds⟩
end
theorem leL_of_eq {ds es : List D} (h : ds = es) : leL ds es := h ▸ leL_rfl ds
theorem leL_cons {d e : D} {ds es : List D} (h1 : d.le e) (h2 : leL ds es) : leL (d :: ds) (e :: es) := by simp only [leL]; exact ⟨h1, h2⟩
theorem leL_nil : leL [] [] := by simp [leL]
theorem le_of_eq {d e : D} (h : d = e) : d.le e := h ▸ D.le_rfl d
theorem le_agg {cs ds : List D} (h : leL cs ds) : (D.agg cs).le (.agg ds) := by simp only [D.le]; exact h
theorem leL_len : ∀ {cs ds : List D}, leL cs ds → cs.length = ds.length
  | [], [], _ => rfl
  | [], _ :: _, h => by simp [leL] at h
  | _ :: _, [], h => by simp [leL] at h
  | c :: cs, d :: ds, h => by simp only [leL] at h; simp [leL_len h.2]
theorem le_iptr {cs ds : List D} {j : Nat} (h : leL cs ds) : (D.iptr cs j).le (.iptr ds j) := by simp only [D.le]; exact ⟨0, by omega, by rw [List.drop_zero, ← leL_len h, List.take_length]; exact h⟩
/-- A pointer into a row: a part of it alone. -/
theorem le_iptrN {cs ds : List D} {i : Nat} (h : leL ((cs.drop i).take ds.length) ds) : (D.iptr cs i).le (.iptr ds 0) := by simp only [D.le]; exact ⟨i, by omega, h⟩
theorem le_fn {f : FuncId} {a b c d : List D} (h1 : leL a c) (h2 : leL b d) : (D.fn f a b).le (.fn f c d) := by simp only [D.le]; exact ⟨trivial, h1, h2⟩
theorem le_slf {d : D} {z : Nat} {rows rows' : List (List D)} (h : d = .sl false z (immLL rows)) (h2 : immLL rows = rows') : d.le (.sl false z rows') := by rw [h, h2]; exact D.le_rfl _
theorem immL_app : ∀ xs ys : List D, immL (xs ++ ys) = immL xs ++ immL ys
  | [], _ => rfl
  | x :: xs, ys => by simp only [List.cons_append, immL, immL_app xs ys]
theorem le_nilsl_ {o z} : D.nils.le (.sl o z []) := by simp [D.le]
theorem immLL_map {α : Type} {f g : α → List D} (h : ∀ x, immL (f x) = g x) : ∀ xs : List α, immLL (xs.map f) = xs.map g
  | [] => by simp [immLL]
  | x :: xs => by simp only [List.map_cons, immLL, h, immLL_map h xs]
section
variable {P : Program} {G : World → Prop} {s : List D} {K : D → List D → Prop} {Q : VExit → List D → Prop}
/-- A call, by the callee's law. -/
theorem call_le {f : FuncId} {args : List Operand} {args' : List D} {d : D} (hC : Contract P G f args' d) (he : leL (args.map fun x => deep s 8 (raw s x)) args') (hi : d.noImm = true ∨ ((args.map fun x => raw s x).all D.noRef) = true) (hK : K d s) : evalK (CT P G) s (.callX f args) K :=
  .inl ⟨args', d, he, hC, hi, hK⟩
theorem callv_le {x : Operand} {f : FuncId} {first caps : List D} {args : List Operand} {args' : List D} {d : D} (hx : lk s x = .fn f first caps) (hC : Contract P G f args' d) (he : leL ((first ++ args.map (fun x => raw s x) ++ caps).map (deep s 8)) args') (hi : d.noImm = true ∨ (first ++ args.map (fun x => raw s x) ++ caps).all D.noRef = true) (hK : K d s) : evalK (CT P G) s (.callvX x args) K := by
  simp only [evalK, hx]
  exact .inl ⟨args', d, he, hC, hi, hK⟩
/-- A call that changes a variable, by the callee's law. -/
theorem call_io {f : FuncId} {args : List Operand} {i r : Nat} {tag : Option Nat} {cells args' cells0 : List D} {d : D} {cells' : List D} (hC : ContractX P G f i args' cells0 d cells') (hi : (args.map fun x => raw s x)[i]? = some (.ptr r [] 0 0)) (hs : s[r]? = some (.box tag cells))
    (hle : leL (((args.map fun x => raw s x).map (D.prune (notRoot r))).map (deep ((pruneL (notRoot r) s).set r .undef) 8)) args') (hlc : leL (pruneL (fun _ => false) cells) cells0) (hn : (d.noImm = true ∧ noImmL cells' = true) ∨ ((args.map fun x => raw s x).map (D.prune (notRoot r))).all D.noRef = true) (hK : K d ((pruneL (notRoot r) s).set r (.box tag cells'))) : evalK (CT P G) s (.callX f args) K :=
  .inr ⟨i, r, tag, cells, args', cells0, d, cells', hi, hs, hle, hlc, hC, hn, hK⟩
theorem call_go {f : FuncId} {args : List Operand} {args' : List D} {d : D} (hC : Contract P G f args' d) (he : args.map (fun x => deep s 8 (raw s x)) = args') (hi : d.noImm = true ∨ ((args.map fun x => raw s x).all D.noRef) = true) (hK : K d s) : evalK (CT P G) s (.call f args) K :=
  ⟨args', d, leL_of_eq he, hC, hi, hK⟩
theorem call_leN {f : FuncId} {args : List Operand} {args' : List D} {d : D} (hC : Contract P G f args' d) (he : leL (args.map fun x => deep s 8 (raw s x)) args') (hi : d.noImm = true ∨ ((args.map fun x => raw s x).all D.noRef) = true) (hK : K d s) : evalK (CT P G) s (.call f args) K :=
  ⟨args', d, he, hC, hi, hK⟩
theorem callv_leN {x : Operand} {f : FuncId} {first caps : List D} {args : List Operand} {args' : List D} {d : D} (hx : lk s x = .fn f first caps) (hC : Contract P G f args' d) (he : leL ((first ++ args.map (fun x => raw s x) ++ caps).map (deep s 8)) args') (hi : d.noImm = true ∨ (first ++ args.map (fun x => raw s x) ++ caps).all D.noRef = true) (hK : K d s) : evalK (CT P G) s (.callv x args) K := by
  simp only [evalK, hx]
  exact ⟨args', d, he, hC, hi, hK⟩
/-- A loop: what its slots hold as a function of something that goes down. -/
theorem loop_st {α : Type} {Ctr : CtrT} {mask : List Bool} {c : VCode} (st : α → List D) (J : α → Prop) (μ : α → Nat) (a : α) (h0 : nleL (clr mask s) (st a)) (hJ : J a) (h : ∀ a, J a → c.wp Ctr (vthen (fun s'' => ∃ b, μ b < μ a ∧ J b ∧ nleL (clr mask s'') (st b)) Q) (st a)) : (VCode.loop mask c).wp Ctr Q s := by
  refine loop_intro (fun n s => ∃ a, μ a = n ∧ J a ∧ s = st a) (μ a) ⟨_, h0, a, rfl, hJ, rfl⟩ ?_
  rintro n s' ⟨b, rfl, hb, rfl⟩
  have e : (fun s'' => ∃ m, m < μ b ∧ ∃ s1, nleL (clr mask s'') s1 ∧ ∃ a, μ a = m ∧ J a ∧ s1 = st a) = (fun s'' => ∃ a, μ a < μ b ∧ J a ∧ nleL (clr mask s'') (st a)) := by
    funext s''
    exact propext ⟨fun ⟨m, h1, s1, h2, a, h3, h4, h5⟩ => ⟨a, by omega, h4, h5 ▸ h2⟩, fun ⟨a, h1, h2, h3⟩ => ⟨μ a, h1, _, h3, a, rfl, h2, rfl⟩⟩
  rw [e]
  exact h b hb
theorem wrN {i : Nat} (h : i + 1 < 9223372036854775808) : IntKind.i64.wrap ((i : Int) + 1) = ((i + 1 : Nat) : Int) := IntWalk.i64_in _ (by omega)
theorem wrI {a : Int} (h1 : -9223372036854775808 ≤ a) (h2 : a ≤ 9223372036854775807) : IntKind.i64.wrap a = a := IntWalk.i64_in _ (by omega)
end
def slG : Option D → Option (Nat × List (List D))
  | some (.sl true sz rows) => some (sz, rows)
  | _ => none
theorem slF_tree {q : Path} {d : D} : slF q (some d) = slG (treeAt d q) := by
  unfold slF slG
  rfl
theorem slG_sl {sz rows} : slG (some (.sl true sz rows)) = some (sz, rows) := rfl
def isBoxG : Option D → Bool
  | some (.box _ _) => true
  | _ => false
theorem isBoxF_tree {q : Path} {d : D} : isBoxF q (some d) = isBoxG (treeAt d q) := by
  unfold isBoxF isBoxG
  rfl
theorem isBoxG_sl {o sz rows} : isBoxG (some (.sl o sz rows)) = false := rfl
theorem isBoxG_box {g cs} : isBoxG (some (.box g cs)) = true := rfl
def rowH (i : Nat) : Option (Nat × List (List D)) → Option (List D)
  | some (_, rows) => rows[i]?
  | none => none
def rowG (i : Nat) : Option D → Option (List D)
  | some t => rowH i t.cont
  | none => none
theorem rowF_tree {q : Path} {i : Nat} {d : D} : rowF q i (some d) = rowG i (treeAt d q) := by
  unfold rowF rowG rowH
  rfl
theorem rowG_some {i : Nat} {t : D} : rowG i (some t) = rowH i t.cont := rfl
theorem rowH_some {i : Nat} {n rows} : rowH i (some (n, rows)) = rows[i]? := rfl
theorem pair_beq {a b c d : Nat} : ((a, b) == (c, d)) = (a == c && b == d) := rfl
attribute [go_sem] pair_beq slF_tree slG_sl isBoxF_tree isBoxG_sl isBoxG_box rowF_tree rowG_some rowH_some
end Go.V
namespace Go.V
open Go.RowKit
set_option autoImplicit false
/-- Some slots, anew. -/
def ovr (s : List D) : List (Nat × D) → List D
  | [] => s
  | p :: r => ovr (s.set p.1 p.2) r
theorem ovr_nil {s : List D} : ovr s [] = s := rfl
theorem ovr_cons {s : List D} {i : Nat} {d : D} {r : List (Nat × D)} : ovr s ((i, d) :: r) = ovr (s.set i d) r := rfl
/-- A loop: the slots that turn, as functions of something that goes down; the others stay as they are. -/
theorem loop_ov {α : Type} {Ctr : CtrT} {mask : List Bool} {c : VCode} {Q : VExit → List D → Prop} {s s0 : List D} {st : α → List D} (hs : clr mask s = s0) (ov : α → List (Nat × D)) (hst : ∀ a, ovr s0 (ov a) = st a) (J : α → Prop) (μ : α → Nat) (a : α) (h0 : nleL s0 (st a)) (hJ : J a)
    (h : ∀ a, J a → c.wp Ctr (vthen (fun s'' => ∃ b, μ b < μ a ∧ J b ∧ nleL (clr mask s'') (st b)) Q) (st a)) : (VCode.loop mask c).wp Ctr Q s :=
  loop_st st J μ a (hs ▸ h0) hJ h
theorem nleL_cc {a b : D} {xs ys : List D} : nleL (a :: xs) (b :: ys) = (nle a b ∧ nleL xs ys) :=
  propext ⟨fun h => by simp only [nleL] at h; obtain ⟨e, es, h1, h2, h3⟩ := h; simp only [List.cons.injEq] at h1; obtain ⟨rfl, rfl⟩ := h1; exact ⟨h2, h3⟩, fun h => nleL_cons h.1 h.2⟩
theorem nleL_nn : nleL [] [] = True := eq_true nleL_nil
theorem nle_self {d : D} : nle d d = True := eq_true (nle_rfl d)
theorem nle_boxs {t : Option Nat} {cs es : List D} : nle (.box t cs) (.box t es) = nleL cs es :=
  propext ⟨fun h => by simp only [nle] at h; obtain ⟨e, h1, h2⟩ := h; simp only [D.box.injEq, true_and] at h1; exact h1 ▸ h2, nle_box⟩
theorem nle_aggs {cs es : List D} : nle (.agg cs) (.agg es) = nleL cs es :=
  propext ⟨fun h => by simp only [nle] at h; obtain ⟨e, h1, h2⟩ := h; simp only [D.agg.injEq] at h1; exact h1 ▸ h2, nle_agg⟩
theorem nle_nils {sz : Nat} : nle .nils (.sl true sz []) = True := eq_true nle_nil
section
variable {P : Program} {G : World → Prop} {s : List D} {K : D → List D → Prop}
/-- A call by the callee's law, the arguments looked up first. -/
theorem call_leA {f : FuncId} {args : List Operand} {A args' : List D} {d : D} (hC : Contract P G f args' d) (hA : (args.map fun x => deep s 8 (raw s x)) = A) (he : leL A args') (hi : d.noImm = true ∨ ((args.map fun x => raw s x).all D.noRef) = true) (hK : K d s) : evalK (CT P G) s (.callX f args) K :=
  call_le hC (hA ▸ he) hi hK
theorem call_leNA {f : FuncId} {args : List Operand} {A args' : List D} {d : D} (hC : Contract P G f args' d) (hA : (args.map fun x => deep s 8 (raw s x)) = A) (he : leL A args') (hi : d.noImm = true ∨ ((args.map fun x => raw s x).all D.noRef) = true) (hK : K d s) : evalK (CT P G) s (.call f args) K :=
  call_leN hC (hA ▸ he) hi hK
theorem callv_leA {x : Operand} {f : FuncId} {first caps : List D} {args : List Operand} {A args' : List D} {d : D} (hx : lk s x = .fn f first caps) (hC : Contract P G f args' d) (hA : (first ++ args.map (fun x => raw s x) ++ caps).map (deep s 8) = A) (he : leL A args') (hi : d.noImm = true ∨ (first ++ args.map (fun x => raw s x) ++ caps).all D.noRef = true) (hK : K d s) : evalK (CT P G) s (.callvX x args) K :=
  callv_le hx hC (hA ▸ he) hi hK
theorem callv_leNA {x : Operand} {f : FuncId} {first caps : List D} {args : List Operand} {A args' : List D} {d : D} (hx : lk s x = .fn f first caps) (hC : Contract P G f args' d) (hA : (first ++ args.map (fun x => raw s x) ++ caps).map (deep s 8) = A) (he : leL A args') (hi : d.noImm = true ∨ (first ++ args.map (fun x => raw s x) ++ caps).all D.noRef = true) (hK : K d s) : evalK (CT P G) s (.callv x args) K :=
  callv_leN hx hC (hA ▸ he) hi hK
end
end Go.V
