/- Laws that the proof stands on. -/
import Derived.Test.YtaleehohmpohoaaZVc
set_option linter.all false
namespace Go.V
open Go.RowKit
/-! ### States beside blocks that are nobody's -/
theorem RelI.other {w0:Base}{I0:Nat→Prop}{s:List D}{tm:Array Value}{w w':World}{I:Nat→Prop}{Fs:Nat→List Nat}(h:RelI w0 I0 s tm w I Fs)(hbel:w0.Below w')(hsz:w.heap.size≤w'.heap.size)(hk:∀ b,(I b∨∃ r,b∈Fs r)→w'.heap[b]?=w.heap[b]?):RelI w0 I0 s tm w' I Fs where
  below:=hbel
  len:=h.len
  slot:=by
    intro r d u h1 h2;refine (T.keep d (h.slot r d u h1 h2) (fun b hb'=>hk b (hb'.imp_right fun hb'=>⟨r,hb'⟩))).res (fun x v hx=>?_);cases x with
    | ref r' p=>obtain ⟨d',u0,t1,k1,k2,k3,ho,k4⟩:=hx;exact ⟨d',u0,t1,k1,k2,k3,ho,by rw [val_frame p d' (h.slot r' d' u0 k1 k2) k3 (fun b hb'=>hk b (.inr ⟨r',hb'⟩))];exact k4⟩
    | ptr r' p i j=>obtain ⟨d',u0,t',sz,rows,u1,b,o,k1,k2,k3,k4,k5,k6⟩:=hx;exact ⟨d',u0,t',sz,rows,u1,b,o,k1,k2,k3,k4,by rw [val_frame p d' (h.slot r' d' u0 k1 k2) k3 (fun b hb'=>hk b (.inr ⟨r',hb'⟩))];exact k5,k6⟩
    | sub r' p i n=>obtain ⟨d',u0,t',sz,rows,u1,b,o,cc,k1,k2,k3,k4,k5,k6⟩:=hx;exact ⟨d',u0,t',sz,rows,u1,b,o,cc,k1,k2,k3,k4,by rw [val_frame p d' (h.slot r' d' u0 k1 k2) k3 (fun b hb'=>hk b (.inr ⟨r',hb'⟩))];exact k5,k6⟩
    | _=>exact hx.elim
  nd:=h.nd
  disj:=h.disj
  own:=fun r b hb'=>⟨(h.own r b hb').1,Nat.lt_of_lt_of_le (h.own r b hb').2.1 hsz,(h.own r b hb').2.2⟩
  imm:=fun b hb'=>Nat.lt_of_lt_of_le (h.imm b hb') hsz
  imm0:=h.imm0
  immN:=h.immN
theorem RelI.base {w0 w1:Base}{I0 I1:Nat→Prop}{s:List D}{tm:Array Value}{w:World}{I:Nat→Prop}{Fs:Nat→List Nat}(h:RelI w0 I0 s tm w I Fs)(hbel:w1.Below w)(hN:∀ r b,b∈Fs r→w1.N b)(hI1:∀ b,I1 b→I b)(hI2:∀ b,I b→I1 b∨w1.N b):RelI w1 I1 s tm w I Fs where
  below:=hbel
  len:=h.len
  slot:=h.slot
  nd:=h.nd
  disj:=h.disj
  own:=fun r b hb'=>⟨hN r b hb',(h.own r b hb').2⟩
  imm:=h.imm
  imm0:=hI1
  immN:=hI2
theorem RelI.tmps {w0:Base} {I0:Nat→Prop} {s:List D} {tm tm':Array Value} {w:World} {I:Nat→Prop} {Fs:Nat→List Nat} (h:RelI w0 I0 s tm w I Fs) (hsz:tm'.size=tm.size) (hk:∀ (r:Nat) (d:D),s[r]?=some d→d=D.undef∨tm'[r]?=tm[r]?) (hF:∀ r:Nat,s[r]?=some D.undef→Fs r=[]):RelI w0 I0 s tm' w I Fs where
  below:=h.below
  len:=hsz.trans h.len
  slot := by
    have hk':∀ (r:Nat) (d:D) (u0:Value),s[r]?=some d→tm[r]?=some u0→d≠D.undef→tm'[r]?=some u0:=fun r d u0 h1 h2 hd=>by
      rcases hk r d h1 with h3 | h3
      · exact absurd h3 hd
      · rw [h3];exact h2
    intro r d u h1 h2;rcases hk r d h1 with rfl | h3
    · simp only [T];exact hF r h1
    · rw [h3] at h2;refine (h.slot r d u h1 h2).res (fun x v hx=>?_);cases x with
      | ref r' p =>
        obtain ⟨d',u0,t1,k1,k2,k3,ho,k4⟩:=hx;exact ⟨d',u0,t1,k1,hk' r' d' u0 k1 k2 (fun e=>by subst e;cases p with
          | nil=>simp only [treeAt,Option.some.injEq] at k3;subst k3;cases ho
          | cons y p=>obtain ⟨i,j⟩:=y;simp [treeAt,D.cont] at k3),k3,ho,k4⟩
      | ptr r' p i j=>obtain ⟨d',u0,t',sz,rows,u1,b,o,k1,k2,k3,k4,k5,k6⟩:=hx;exact ⟨d',u0,t',sz,rows,u1,b,o,k1,hk' r' d' u0 k1 k2 (fun e=>by subst e;exact treeAt_cont k3 k4 rfl),k3,k4,k5,k6⟩
      | sub r' p i n=>obtain ⟨d',u0,t',sz,rows,u1,b,o,cc,k1,k2,k3,k4,k5,k6⟩:=hx;exact ⟨d',u0,t',sz,rows,u1,b,o,cc,k1,hk' r' d' u0 k1 k2 (fun e=>by subst e;exact treeAt_cont k3 k4 rfl),k3,k4,k5,k6⟩
      | _=>exact hx.elim
  nd:=h.nd
  disj:=h.disj
  own:=h.own
  imm:=h.imm
  imm0:=h.imm0
  immN:=h.immN
/-! ### The state, with marks -/
end Go.V
namespace Go.V
open Go.RowKit
section
variable (P:Program) (pt:Nat)
end
section
variable {P:Program} {G:World→(Nat→Prop)→Prop}
end
end Go.V
namespace Go.V
open Go.RowKit
section
variable {P:Program} {w0:Base} {I0:Nat→Prop} {s:List D} {a:Act} {w':World} {I':Nat→Prop} {Fs:Nat→List Nat}
end
end Go.V
namespace Go.V
open Go.RowKit
/-! ### The machine run by simp: every continuation is a constant applied, none a function written out -/
variable {Ctr:CtrT} {s:List D} {K:D→List D→Prop} {KK:List D→Prop} {os:List VO}
def contK (Ctr:CtrT)(os:List VO)(KK:List D→Prop):List D→Prop:=fun s=>opsK Ctr s os KK
def putK (dst:Option Nat)(K:List D→Prop):D→List D→Prop:=fun d s=>K (match dst with | some t=>putD s t d | none=>s)
def guardK (Ctr:CtrT)(dst:Option Nat)(want:Bool)(op:VOp)(d:D)(s:List D)(K:List D→Prop):Prop :=
  match d with
  | .v (.bool b)=>(b=want→evalK Ctr s op (putK dst K))∧(b≠want→K (match dst with | some t=>putD s t (.v (.tuple #[])) | none=>s))
  | .v _=>K (match dst with | some t=>putD s t (.v (.tuple #[])) | none=>s)
  | _=>False
theorem ops_nil:opsK Ctr s [] KK=KK s:=rfl
theorem ops_cons {dst:Option Nat}{op:VOp}:opsK Ctr s (⟨dst,none,op⟩::os) KK=evalK Ctr s op (putK dst (contK Ctr os KK)):=rfl
theorem ops_guard {dst:Option Nat}{op:VOp}{g:Nat}{want:Bool}:opsK Ctr s (⟨dst,some (g,want),op⟩::os) KK=guardK Ctr dst want op (lkT s g) s (contK Ctr os KK):=rfl
theorem cont_app:contK Ctr os KK s=opsK Ctr s os KK:=rfl
theorem put_some {t:Nat}{d:D}:putK (some t) KK d s=KK (putD s t d):=rfl
theorem put_none {d:D}:putK none KK d s=KK s:=rfl
theorem guard_tt {dst:Option Nat}{op:VOp}:guardK Ctr dst true op (.v (.bool true)) s KK=evalK Ctr s op (putK dst KK):=by simp [guardK]
theorem guard_ff {dst:Option Nat}{op:VOp}:guardK Ctr dst false op (.v (.bool false)) s KK=evalK Ctr s op (putK dst KK):=by simp [guardK]
theorem guard_tf {t:Nat}{op:VOp}:guardK Ctr (some t) true op (.v (.bool false)) s KK=KK (putD s t (.v (.tuple #[]))):=by simp [guardK]
theorem guard_ft {t:Nat}{op:VOp}:guardK Ctr (some t) false op (.v (.bool true)) s KK=KK (putD s t (.v (.tuple #[]))):=by simp [guardK]
theorem guard_skip {t:Nat}{op:VOp}{want:Bool}:guardK Ctr (some t) want op (.v (.tuple #[])) s KK=KK (putD s t (.v (.tuple #[]))):=by simp [guardK]
theorem guard_split {dst:Option Nat}{op:VOp}{want b:Bool}{s:List D}{KK:List D→Prop}(h1:b=true→guardK Ctr dst want op (.v (.bool true)) s KK)(h2:b=false→guardK Ctr dst want op (.v (.bool false)) s KK):guardK Ctr dst want op (.v (.bool b)) s KK:=by
  cases b
  · exact h2 rfl
  · exact h1 rfl
/-! looking -/
def lkF (t:Nat):Option D→D
  | some (.sl true _ _)=>.ref t []
  | some (.mp _ _)=>.ref t []
  | some (.box _ _)=>.ptr t [] 0 0
  | some (.fn f a c)=>if ownyL a||ownyL c then ownF f a c else .fn f a c
  | some d=>if d.owny then .undef else d
  | none=>.undef
theorem ownF_box {f b cs}:ownF f [.box (some b) cs] []=.fn f [.v (.pointer (some ⟨b,0,none⟩))] []:=rfl
theorem lk_tmp {t:Nat}:lk s (.tmp t)=lkF t s[t]?:=by unfold lk lkT lkF;rfl
theorem lkT_eq {t:Nat}:lkT s t=lkF t s[t]?:=by unfold lkT lkF;rfl
theorem lk_const {v:Value}:lk s (.const v)=ofV v:=rfl
theorem lk_func {f:FuncId}:lk s (.func f)=.fn f [] []:=rfl
section
variable {t:Nat}
theorem lkF_own {sz rows}:lkF t (some (.sl true sz rows))=.ref t []:=rfl
theorem lkF_imm {sz rows}:lkF t (some (.sl false sz rows))=.sl false sz rows:=rfl
theorem lkF_box {g cs}:lkF t (some (.box g cs))=.ptr t [] 0 0:=rfl
theorem lkF_mp {k e}:lkF t (some (.mp k e))=.ref t []:=rfl
theorem lkF_imp {k e}:lkF t (some (.imp k e))=.imp k e:=rfl
theorem lkF_v {v}:lkF t (some (.v v))=.v v:=rfl
theorem lkF_nils:lkF t (some .nils)=.nils:=rfl
theorem lkF_undef:lkF t (some .undef)=.undef:=rfl
theorem lkF_ref {r q}:lkF t (some (.ref r q))=.ref r q:=rfl
theorem lkF_sub {r q i j}:lkF t (some (.sub r q i j))=.sub r q i j:=rfl
theorem lkF_ptr {r q i j}:lkF t (some (.ptr r q i j))=.ptr r q i j:=rfl
theorem lkF_iptr {cs j}:lkF t (some (.iptr cs j))=.iptr cs j:=rfl
theorem lkF_agg {cs}:lkF t (some (.agg cs))=if ownyL cs then .undef else .agg cs:=rfl
theorem lkF_fn {f a b}:lkF t (some (.fn f a b))=if ownyL a||ownyL b then ownF f a b else .fn f a b:=rfl
end
def rawF (t:Nat):Option D→D
  | some (.box _ _)=>.ptr t [] 0 0
  | some d=>d
  | none=>.undef
theorem raw_tmp {t:Nat}:raw s (.tmp t)=rawF t s[t]?:=by unfold raw rawF;rfl
theorem raw_const {v:Value}:raw s (.const v)=ofV v:=rfl
theorem raw_func {f:FuncId}:raw s (.func f)=.fn f [] []:=rfl
def tkF (t:Nat)(s:List D):Option D→D×List D
  | some (.sl true sz rows)=>(.sl true sz rows,(pruneL (notRoot t) s).set t .undef)
  | some (.mp k e)=>(.mp k e,(pruneL (notRoot t) s).set t .undef)
  | some (.box _ _)=>(.ptr t [] 0 0,s)
  | some d=>(d,if d.owny then s.set t .undef else s)
  | none=>(.undef,s)
theorem tk_tmp {t:Nat}:tk s (.tmp t)=tkF t s s[t]?:=by unfold tk tkT tkF;rfl
theorem tkT_eq {t:Nat}:tkT s t=tkF t s s[t]?:=by unfold tkT tkF;rfl
theorem tk_const {v:Value}:tk s (.const v)=(ofV v,s):=rfl
theorem tk_func {f:FuncId}:tk s (.func f)=(.fn f [] [],s):=rfl
section
variable {t:Nat}
theorem tkF_own {sz rows}:tkF t s (some (.sl true sz rows))=(.sl true sz rows,(pruneL (notRoot t) s).set t .undef):=rfl
theorem tkF_imm {sz rows}:tkF t s (some (.sl false sz rows))=(.sl false sz rows,s):=rfl
theorem tkF_box {g cs}:tkF t s (some (.box g cs))=(.ptr t [] 0 0,s):=rfl
theorem tkF_mp {k e}:tkF t s (some (.mp k e))=(.mp k e,(pruneL (notRoot t) s).set t .undef):=rfl
theorem tkF_imp {k e}:tkF t s (some (.imp k e))=(.imp k e,s):=rfl
theorem tkF_v {v}:tkF t s (some (.v v))=(.v v,s):=rfl
theorem tkF_nils:tkF t s (some .nils)=(.nils,s):=rfl
theorem tkF_undef:tkF t s (some .undef)=(.undef,s):=rfl
theorem tkF_ref {r q}:tkF t s (some (.ref r q))=(.ref r q,s):=rfl
theorem tkF_sub {r q i j}:tkF t s (some (.sub r q i j))=(.sub r q i j,s):=rfl
theorem tkF_ptr {r q i j}:tkF t s (some (.ptr r q i j))=(.ptr r q i j,s):=rfl
theorem tkF_iptr {cs j}:tkF t s (some (.iptr cs j))=(.iptr cs j,s):=rfl
theorem tkF_agg {cs}:tkF t s (some (.agg cs))=(.agg cs,if ownyL cs then s.set t .undef else s):=rfl
theorem tkF_tup {cs}:tkF t s (some (.tup cs))=(.tup cs,if ownyL cs then s.set t .undef else s):=rfl
theorem tkF_fn {f a b}:tkF t s (some (.fn f a b))=(.fn f a b,if ownyL a||ownyL b then s.set t .undef else s):=rfl
end
theorem tkL_nil:tkL s []=([],s):=rfl
theorem tkL_cons {x:Operand}{xs:List Operand}:tkL s (x::xs)=((tk s x).1.prune (aliveQ (tkL (tk s x).2 xs).2)::(tkL (tk s x).2 xs).1,(tkL (tk s x).2 xs).2):=rfl
def putF (s:List D)(t:Nat)(d:D):Option D→List D
  | some (.sl true sz rows)=>(pruneL (notRoot t) s).set t (putO t sz rows d)
  | some (.mp _ _)=>(pruneL (notRoot t) s).set t (d.prune (notRoot t))
  | some (.box _ _)=>(pruneL (notRoot t) s).set t (d.prune (notRoot t))
  | _=>s.set t d
theorem putD_eq {t:Nat}{d:D}:putD s t d=putF s t d s[t]?:=by unfold putD putF;rfl
section
variable {t:Nat} {d:D}
theorem putF_own {sz rows}:putF s t d (some (.sl true sz rows))=(pruneL (notRoot t) s).set t (putO t sz rows d):=rfl
theorem putO_sub {sz rows r n}:putO t sz rows (.sub r [] 0 n)=if r=t∧n≤rows.length then .sl true sz (rows.take n) else (D.sub r [] 0 n).prune (notRoot t):=rfl
theorem putO_v {sz rows v}:putO t sz rows (.v v)=.v v:=rfl
theorem putO_undef {sz rows}:putO t sz rows .undef=.undef:=rfl
theorem putO_nils {sz rows}:putO t sz rows .nils=.nils:=rfl
theorem putO_sl {sz rows o z rs}:putO t sz rows (.sl o z rs)=.sl o z rs:=rfl
theorem putO_mp {sz rows k e}:putO t sz rows (.mp k e)=.mp k e:=rfl
theorem putO_imp {sz rows k e}:putO t sz rows (.imp k e)=.imp k e:=rfl
theorem putO_iptr {sz rows c j}:putO t sz rows (.iptr c j)=.iptr c j:=rfl
theorem putO_agg {sz rows cs}:putO t sz rows (.agg cs)=(D.agg cs).prune (notRoot t):=rfl
theorem putO_tup {sz rows cs}:putO t sz rows (.tup cs)=(D.tup cs).prune (notRoot t):=rfl
theorem putO_box {sz rows g cs}:putO t sz rows (.box g cs)=(D.box g cs).prune (notRoot t):=rfl
theorem putO_fn {sz rows f a b}:putO t sz rows (.fn f a b)=(D.fn f a b).prune (notRoot t):=rfl
theorem putO_ref {sz rows r p}:putO t sz rows (.ref r p)=(D.ref r p).prune (notRoot t):=rfl
theorem putO_ptr {sz rows r p i j}:putO t sz rows (.ptr r p i j)=(D.ptr r p i j).prune (notRoot t):=rfl
theorem putO_subp {sz rows r x p i n}:putO t sz rows (.sub r (x::p) i n)=(D.sub r (x::p) i n).prune (notRoot t):=rfl
theorem putF_box {g cs}:putF s t d (some (.box g cs))=(pruneL (notRoot t) s).set t (d.prune (notRoot t)):=rfl
theorem putF_mp {k e}:putF s t d (some (.mp k e))=(pruneL (notRoot t) s).set t (d.prune (notRoot t)):=rfl
theorem putF_imp {k e}:putF s t d (some (.imp k e))=s.set t d:=rfl
theorem putF_imm {sz rows}:putF s t d (some (.sl false sz rows))=s.set t d:=rfl
theorem putF_v {v}:putF s t d (some (.v v))=s.set t d:=rfl
theorem putF_nils:putF s t d (some .nils)=s.set t d:=rfl
theorem putF_undef:putF s t d (some .undef)=s.set t d:=rfl
theorem putF_ref {r q}:putF s t d (some (.ref r q))=s.set t d:=rfl
theorem putF_sub {r q i j}:putF s t d (some (.sub r q i j))=s.set t d:=rfl
theorem putF_ptr {r q i j}:putF s t d (some (.ptr r q i j))=s.set t d:=rfl
theorem putF_iptr {cs j}:putF s t d (some (.iptr cs j))=s.set t d:=rfl
theorem putF_agg {cs}:putF s t d (some (.agg cs))=s.set t d:=rfl
theorem putF_tup {cs}:putF s t d (some (.tup cs))=s.set t d:=rfl
theorem putF_fn {f a b}:putF s t d (some (.fn f a b))=s.set t d:=rfl
end
/-! the operations -/
def mvF (t:Nat)(s:List D)(K:D→List D→Prop):Option D→Prop
  | some (.tup vs)=>K (.tup vs) (if ownyL vs then s.set t .undef else s)
  | o=>K (lkF t o) s
theorem mvF_tup {t vs}:mvF t s K (some (.tup vs))=K (.tup vs) (if ownyL vs then s.set t .undef else s):=rfl
theorem mvF_own {t sz rows}:mvF t s K (some (.sl true sz rows))=K (.ref t []) s:=rfl
theorem mvF_imm {t sz rows}:mvF t s K (some (.sl false sz rows))=K (.sl false sz rows) s:=rfl
theorem mvF_box {t g cs}:mvF t s K (some (.box g cs))=K (.ptr t [] 0 0) s:=rfl
theorem mvF_mp {t k e}:mvF t s K (some (.mp k e))=K (.ref t []) s:=rfl
theorem mvF_imp {t k e}:mvF t s K (some (.imp k e))=K (.imp k e) s:=rfl
theorem mvF_v {t v}:mvF t s K (some (.v v))=K (.v v) s:=rfl
theorem mvF_nils {t}:mvF t s K (some .nils)=K .nils s:=rfl
theorem mvF_undef {t}:mvF t s K (some .undef)=K .undef s:=rfl
theorem mvF_ref {t r q}:mvF t s K (some (.ref r q))=K (.ref r q) s:=rfl
theorem mvF_sub {t r q i j}:mvF t s K (some (.sub r q i j))=K (.sub r q i j) s:=rfl
theorem mvF_ptr {t r q i j}:mvF t s K (some (.ptr r q i j))=K (.ptr r q i j) s:=rfl
theorem mvF_iptr {t cs j}:mvF t s K (some (.iptr cs j))=K (.iptr cs j) s:=rfl
theorem mvF_agg {t cs}:mvF t s K (some (.agg cs))=K (if ownyL cs then .undef else .agg cs) s:=rfl
theorem mvF_fn {t f a b}:mvF t s K (some (.fn f a b))=K (if ownyL a||ownyL b then ownF f a b else .fn f a b) s:=rfl
theorem ev_mvt {t}:evalK Ctr s (.mv (.tmp t)) K=mvF t s K s[t]?:=by
  show (match s[t]? with
    | some (.tup vs)=>K (.tup vs) (if ownyL vs then s.set t .undef else s)
    | _=>K (lk s (.tmp t)) s)=_
  rw [lk_tmp];cases h:s[t]? with
  | none=>rfl
  | some d=>cases d<;>rfl
theorem ev_mvc {v}:evalK Ctr s (.mv (.const v)) K=K (ofV v) s:=rfl
theorem ev_mvf {f}:evalK Ctr s (.mv (.func f)) K=K (.fn f [] []) s:=rfl
def pairK (p:D×List D)(K:D→List D→Prop):Prop:=K p.1 p.2
theorem pairK_mk {d:D}:pairK (d,s) K=K d s:=rfl
theorem ev_asg {x}:evalK Ctr s (.asg x) K=pairK (tk s x) K:=rfl
def nilcK (d:D)(s:List D)(K:D→List D→Prop):Prop:=match d with
  | .ptr r q i j=>K (.ptr r q i j) s
  | .iptr c j=>K (.iptr c j) s
  | .fn f a b=>K (.fn f a b) s
  | _=>False
theorem ev_nilc {x}:evalK Ctr s (.nilc x) K=nilcK (lk s x) s K:=rfl
theorem nilc_ptr {r q i j}:nilcK (.ptr r q i j) s K=K (.ptr r q i j) s:=rfl
theorem nilc_iptr {c j}:nilcK (.iptr c j) s K=K (.iptr c j) s:=rfl
theorem nilc_fn {f a b}:nilcK (.fn f a b) s K=K (.fn f a b) s:=rfl
theorem ev_pick {c a b}:evalK Ctr s (.pick c a b) K=pickK (lk s c) (lk s a) (lk s b) s K:=rfl
theorem pick_b {t x y}:pickK (.v (.bool t)) (.v (.bool x)) (.v (.bool y)) s K=K (.v (.bool (if t then x else y))) s:=rfl
theorem pick_t {a b}:pickK (.v (.bool true)) a b s K=K a s:=by simp only [pickK];split<;>simp
theorem pick_f {a b}:pickK (.v (.bool false)) a b s K=K b s:=by simp only [pickK];split<;>simp
def binK (op:BinOp)(x y:D)(s:List D)(K:D→List D→Prop):Prop:=match x,y with
  | .v (.int k a),.v (.int k' b)=>intK op k a k' b (fun v=>K (.v v) s)
  | .v (.string a),.v (.string b)=>strK op a b (fun v=>K (.v v) s)
  | _,_=>False
theorem ev_bin {op x y}:evalK Ctr s (.bin op x y) K=binK op (lk s x) (lk s y) s K:=rfl
section
variable {k:IntKind} {a b:Int} {x y:ByteArray}
theorem bin_add:binK .add (.v (.int k a)) (.v (.int k b)) s K=K (.v (.int k (k.wrap (a+b)))) s:=by simp [binK,intK]
theorem bin_sub:binK .sub (.v (.int k a)) (.v (.int k b)) s K=K (.v (.int k (k.wrap (a-b)))) s:=by simp [binK,intK]
theorem bin_mul:binK .mul (.v (.int k a)) (.v (.int k b)) s K=K (.v (.int k (k.wrap (a*b)))) s:=by simp [binK,intK]
theorem bin_quo:binK .quo (.v (.int k a)) (.v (.int k b)) s K=(b≠0∧K (.v (.int k (k.wrap (a.tdiv b)))) s):=by simp [binK,intK]
theorem bin_rem:binK .rem (.v (.int k a)) (.v (.int k b)) s K=(b≠0∧K (.v (.int k (a.tmod b))) s):=by simp [binK,intK]
theorem bin_eql:binK .eql (.v (.int k a)) (.v (.int k b)) s K=K (.v (.bool (decide (a=b)))) s:=by simp [binK,intK]
theorem bin_neq:binK .neq (.v (.int k a)) (.v (.int k b)) s K=K (.v (.bool (!decide (a=b)))) s:=by simp [binK,intK]
theorem bin_lss:binK .lss (.v (.int k a)) (.v (.int k b)) s K=K (.v (.bool (decide (a<b)))) s:=by simp [binK,intK]
theorem bin_leq:binK .leq (.v (.int k a)) (.v (.int k b)) s K=K (.v (.bool (decide (a≤b)))) s:=by simp [binK,intK]
theorem bin_gtr:binK .gtr (.v (.int k a)) (.v (.int k b)) s K=K (.v (.bool (decide (b<a)))) s:=by simp [binK,intK]
theorem bin_geq:binK .geq (.v (.int k a)) (.v (.int k b)) s K=K (.v (.bool (decide (b≤a)))) s:=by simp [binK,intK]
theorem bin_shl {k':IntKind}:binK .shl (.v (.int k a)) (.v (.int k' b)) s K=(0≤b∧K (.v (.int k (k.wrap (a*2 ^ (min b.toNat k.bits))))) s):=by simp [binK,intK]
theorem bin_shr {k':IntKind}:binK .shr (.v (.int k a)) (.v (.int k' b)) s K=(0≤b∧K (.v (.int k (a.fdiv (2 ^ (min b.toNat k.bits))))) s):=by simp [binK,intK]
theorem bin_and:binK .and (.v (.int k a)) (.v (.int k b)) s K=K (.v (.int k (k.wrap ((BitVec.ofInt k.bits a &&& BitVec.ofInt k.bits b).toNat)))) s:=by simp [binK,intK]
theorem bin_or:binK .or (.v (.int k a)) (.v (.int k b)) s K=K (.v (.int k (k.wrap ((BitVec.ofInt k.bits a ||| BitVec.ofInt k.bits b).toNat)))) s:=by simp [binK,intK]
theorem bin_sadd:binK .add (.v (.string x)) (.v (.string y)) s K=(x.size+y.size≤maxLen∧K (.v (.string (x++y))) s):=rfl
theorem bin_seql:binK .eql (.v (.string x)) (.v (.string y)) s K=K (.v (.bool (decide (x=y)))) s:=rfl
theorem bin_sneq:binK .neq (.v (.string x)) (.v (.string y)) s K=K (.v (.bool (!decide (x=y)))) s:=rfl
theorem bin_slss:binK .lss (.v (.string x)) (.v (.string y)) s K=K (.v (.bool (Op.bytesLess x.toList y.toList))) s:=rfl
end
def binBK (neg:Bool)(x y:D)(s:List D)(K:D→List D→Prop):Prop:=match x,y with
  | .v (.bool a),.v (.bool b)=>K (.v (.bool (if neg then !(a==b) else a==b))) s
  | _,_=>False
theorem ev_binB {neg x y}:evalK Ctr s (.binB neg x y) K=binBK neg (lk s x) (lk s y) s K:=rfl
theorem binB_eq {a b}:binBK false (.v (.bool a)) (.v (.bool b)) s K=K (.v (.bool (a==b))) s:=rfl
theorem binB_ne {a b}:binBK true (.v (.bool a)) (.v (.bool b)) s K=K (.v (.bool (!(a==b)))) s:=rfl
def unK (op:UnOp)(x:D)(s:List D)(K:D→List D→Prop):Prop:=match op,x with
  | .not,.v (.bool b)=>K (.v (.bool (!b))) s
  | .neg,.v (.int k n)=>K (.v (.int k (k.wrap (0-n)))) s
  | _,_=>False
theorem ev_un {op x}:evalK Ctr s (.un op x) K=unK op (lk s x) s K:=rfl
theorem un_not {b}:unK .not (.v (.bool b)) s K=K (.v (.bool (!b))) s:=rfl
theorem un_neg {k n}:unK .neg (.v (.int k n)) s K=K (.v (.int k (k.wrap (0-n)))) s:=rfl
def convK (k:IntKind)(x:D)(s:List D)(K:D→List D→Prop):Prop:=match x with
  | .v (.int _ n)=>K (.v (.int k (k.wrap n))) s
  | _=>False
theorem ev_conv {k x}:evalK Ctr s (.conv k x) K=convK k (lk s x) s K:=rfl
theorem conv_int {k k' n}:convK k (.v (.int k' n)) s K=K (.v (.int k (k.wrap n))) s:=rfl
theorem ev_alloc {z}:evalK Ctr s (.alloc z) K=K (.box none (z.map ofC)) s:=rfl
def boxK (p:D×List D)(K:D→List D→Prop):Prop:=p.1.okCells=true∧K (.box none p.1.cells) p.2
theorem ev_box {x}:evalK Ctr s (.box x) K=boxK (tk s x) K:=rfl
theorem box_mk {d:D}:boxK (d,s) K=(d.okCells=true∧K (.box none d.cells) s):=rfl
def buildK (zero:List Value) (parts:List (Nat×Nat×Operand)) (p:List D×List D) (K:D→List D→Prop):Prop :=
  p.1.all D.okCells=true∧match fillB (parts.map fun p=>(p.1,p.2.1)) p.1 (zero.map ofC) with
    | some cells=>K (.agg cells) p.2
    | none=>False
theorem ev_build {zero parts}:evalK Ctr s (.build zero parts) K=buildK zero parts (tkL s (parts.map (·.2.2))) K:=rfl
def build2K (o:Option (List D))(s:List D)(K:D→List D→Prop):Prop:=match o with
  | some cells=>K (.agg cells) s
  | none=>False
theorem build_mk {zero parts}{ds:List D}:buildK zero parts (ds,s) K=(ds.all D.okCells=true∧build2K (fillB (parts.map fun p=>(p.1,p.2.1)) ds (zero.map ofC)) s K):=rfl
theorem build2_some {cells}:build2K (some cells) s K=K (.agg cells) s:=rfl
def bslK (sz n:Nat)(p:List D×List D)(K:D→List D→Prop):Prop :=
  p.1.all (fun d=>d.okCells&&d.cells.length==sz)=true∧refsOK (p.1.flatMap D.cells)=true∧resC p.2 (p.1.flatMap D.cells) (fun cs s'=>K (.sl true sz (chunk sz n cs)) s')
theorem ev_bsl {sz parts}:evalK Ctr s (.bsl sz parts) K=bslK sz parts.length (tkL s parts) K:=rfl
def chunkK (sz n:Nat)(K:D→List D→Prop):List D→List D→Prop:=fun cs s'=>K (.sl true sz (chunk sz n cs)) s'
theorem chunk_app {sz n cs}:chunkK sz n K cs s=K (.sl true sz (chunk sz n cs)) s:=rfl
theorem bsl_mk {sz n}{ds:List D}:bslK sz n (ds,s) K=(ds.all (fun d=>d.okCells&&d.cells.length==sz)=true∧refsOK (ds.flatMap D.cells)=true∧resC s (ds.flatMap D.cells) (chunkK sz n K)):=rfl
variable {KL:List D→List D→Prop}
def consK (d:D)(KL:List D→List D→Prop):List D→List D→Prop:=fun ds s=>KL (d::ds) s
theorem cons_app {d:D}{ds:List D}:consK d KL ds s=KL (d::ds) s:=rfl
def resS (ds:List D)(KL:List D→List D→Prop):D→List D→Prop:=fun d s=>resC s ds (consK d KL)
theorem resS_app {ds:List D}{d:D}:resS ds KL d s=resC s ds (consK d KL):=rfl
theorem res_nil:resC s [] KL=KL [] s:=rfl
theorem res_ref {r q}{ds:List D}:resC s (.ref r q::ds) KL=stealK s r q (resS ds KL):=by simp only [resC];rfl
def subK (i n:Nat)(ds:List D)(KL:List D→List D→Prop):D→List D→Prop:=fun d s=>match d with
  | .sl true sz rows=>i+n≤rows.length∧resC s ds (consK (.sl true sz ((rows.drop i).take n)) KL)
  | _=>False
theorem subK_sl {i n}{ds:List D}{sz rows}:subK i n ds KL (.sl true sz rows) s=(i+n≤rows.length∧resC s ds (consK (.sl true sz ((rows.drop i).take n)) KL)):=rfl
theorem res_sub {r q i n}{ds:List D}(h:0<n):resC s (.sub r q i n::ds) KL=stealK s r q (subK i n ds KL):=by simp only [resC];exact propext ⟨fun h1=>h1.elim (fun h2=>h2.2) (fun h2=>absurd h2.1 (by omega)),fun h1=>.inl ⟨.inl h,h1⟩⟩
theorem res_subI {r q n}{ds:List D}:resC s (.sub r q 0 n::ds) KL=stealK s r q (subK 0 n ds KL):=by simp only [resC];exact propext ⟨fun h1=>h1.elim (fun h2=>h2.2) (fun h2=>absurd rfl h2.2.1),fun h1=>.inl ⟨.inr trivial,h1⟩⟩
theorem res_sub0 {r q i}{ds:List D}(h:i≠0):resC s (.sub r q i 0::ds) KL=∃ sz,resC s ds (consK (.sl false sz []) KL):=by simp only [resC];exact propext ⟨fun h1=>h1.elim (fun h2=>absurd h2.1 (by omega)) (fun h2=>h2.2.2),fun h1=>.inr ⟨trivial,h,h1⟩⟩
theorem res_undef {ds:List D}:resC s (.undef::ds) KL=resC s ds (consK .undef KL):=by simp only [resC,D.leaf,true_and];rfl
theorem res_nils {ds:List D}:resC s (.nils::ds) KL=resC s ds (consK .nils KL):=by simp only [resC,D.leaf,true_and];rfl
theorem res_v {v}{ds:List D}:resC s (.v v::ds) KL=resC s ds (consK (.v v) KL):=by simp only [resC,D.leaf,true_and];rfl
theorem res_sl {o sz rows}{ds:List D}:resC s (.sl o sz rows::ds) KL=resC s ds (consK (.sl o sz rows) KL):=by simp only [resC,D.leaf,true_and];rfl
def stealF (r:Nat)(q:Path)(s:List D)(d:D)(o:Option D)(K:D→List D→Prop):Prop:=match o with
  | some (.sl true sz rows)=>K (.sl true sz rows) ((pruneL (notThrough r q) s).set r (setAt (d.prune (notThrough r q)) q .undef))
  | some (.mp k e)=>K (.mp k e) ((pruneL (notThrough r q) s).set r (setAt (d.prune (notThrough r q)) q .undef))
  | _=>False
def stealG (r:Nat)(q:Path)(s:List D)(o:Option D)(K:D→List D→Prop):Prop:=match o with
  | some d=>stealF r q s d (treeAt d q) K
  | none=>False
theorem steal_eq {r q}:stealK s r q K=stealG r q s s[r]? K:=by unfold stealK stealG;cases s[r]? <;> rfl
theorem stealG_some {r q d}:stealG r q s (some d) K=stealF r q s d (treeAt d q) K:=rfl
theorem stealF_mp {r q d k e}:stealF r q s d (some (.mp k e)) K=K (.mp k e) ((pruneL (notThrough r q) s).set r (setAt (d.prune (notThrough r q)) q .undef)):=rfl
theorem res_mp {k e}{ds:List D}:resC s (.mp k e::ds) KL=resC s ds (consK (.mp k e) KL):=by simp only [resC,D.leaf,true_and];rfl
theorem res_iptr {c j}{ds:List D}:resC s (.iptr c j::ds) KL=resC s ds (consK (.iptr c j) KL):=by simp only [resC,D.leaf,true_and];rfl
theorem stealF_some {r q d sz rows}:stealF r q s d (some (.sl true sz rows)) K=K (.sl true sz rows) ((pruneL (notThrough r q) s).set r (setAt (d.prune (notThrough r q)) q .undef)):=rfl
end Go.V
namespace Go.V
open Go.RowKit
variable {Ctr:CtrT} {s:List D} {K:D→List D→Prop} {KK:List D→Prop} {os:List VO}
def load2K (n:Nat)(agg:Bool)(r:Nat)(q:Path)(i j:Nat)(o:Option (List D))(s:List D)(K:D→List D→Prop):Prop:=match o with
  | some row=>j+n≤row.length∧K (mkAgg agg (cpyL r q i j ((row.drop j).take n))) s
  | none=>False
def loadK (n:Nat)(agg:Bool)(a:D)(s:List D)(K:D→List D→Prop):Prop:=match a with
  | .ptr r q i j=>load2K n agg r q i j (rowAt s r q i) s K
  | .iptr cells j=>j+n≤cells.length∧K (mkAgg agg ((cells.drop j).take n)) s
  | _=>False
theorem ev_load {n agg a}:evalK Ctr s (.load n agg a) K=loadK n agg (lk s a) s K:=rfl
theorem load_ptr {n agg r q i j}:loadK n agg (.ptr r q i j) s K=load2K n agg r q i j (rowAt s r q i) s K:=rfl
theorem load_iptr {n agg cells j}:loadK n agg (.iptr cells j) s K=(j+n≤cells.length∧K (mkAgg agg ((cells.drop j).take n)) s):=rfl
theorem load2_some {n agg r q i j row}:load2K n agg r q i j (some row) s K=(j+n≤row.length∧K (mkAgg agg (cpyL r q i j ((row.drop j).take n))) s):=rfl
def endK (K:D→List D→Prop):List D→Prop:=fun s=>K .undef s
theorem end_app:endK K s=K .undef s:=rfl
def rowK (r:Nat)(q:Path)(i j:Nat)(K:D→List D→Prop):List D→List D→Prop:=fun cs s'=>isBox s' r q=false∧setR r q i s' j cs (endK K)
theorem row_app {r q i j cs}:rowK r q i j K cs s=(isBox s r q=false∧setR r q i s j cs (endK K)):=rfl
def rowN (r:Nat)(q:Path)(i j:Nat)(K:D→List D→Prop):List D→List D→Prop:=fun cs s'=>isBox s' r q=true∧setR r q i s' j cs (endK K)
theorem rowN_app {r q i j cs}:rowN r q i j K cs s=(isBox s r q=true∧setR r q i s j cs (endK K)):=rfl
def rowBX (r i n j:Nat)(K:D→List D→Prop):List D→List D→Prop:=fun cs s'=>cs.length=n∧setB r i n s' j cs (endK K)
theorem rowBX_app {r i n j cs}:rowBX r i n j K cs s=(cs.length=n∧setB r i n s j cs (endK K)):=rfl
def store3K (r:Nat) (q:Path) (i n j:Nat) (cs:List D) (b:Bool) (s:List D) (K:D→List D→Prop):Prop :=
  if b then (match q with
    | []=>(if selfS r cs then refsOK cs=true∧cs.all (notThr (.ptr r q i j))=true∧resC s cs (fun cs s'=>cs.length=n∧setB r i n s' j cs (endK K)) else setB r i n s j cs (endK K))
    | _::_=>i=0∧refsOK cs=true∧cs.all (notThr (.ptr r q i j))=true∧resC s cs (rowN r q i j K)) else refsOK cs=true∧cs.all (notThr (.ptr r q i j))=true∧resC s cs (rowK r q i j K)
def store2K (n:Nat)(d:D)(a:D)(s:List D)(K:D→List D→Prop):Prop:=match a with
  | .ptr r q i j=>d.okCells=true∧d.cells.length=n∧store3K r q i n j d.cells (isBox s r q) s K
  | _=>False
def storeK (n:Nat)(a:Operand)(p:D×List D)(K:D→List D→Prop):Prop:=store2K n p.1 (lk p.2 a) p.2 K
theorem ev_store {n a x}:evalK Ctr s (.store n a x) K=storeK n a (tk s x) K:=rfl
theorem store_mk {n a}{d:D}:storeK n a (d,s) K=store2K n d (lk s a) s K:=rfl
theorem store2_ptr {n r q i j}{d:D}:store2K n d (.ptr r q i j) s K=(d.okCells=true∧d.cells.length=n∧store3K r q i n j d.cells (isBox s r q) s K):=rfl
def selfK (r i n j:Nat)(q:Path)(cs:List D)(b:Bool)(s:List D)(K:D→List D→Prop):Prop:=if b then refsOK cs=true∧cs.all (notThr (.ptr r q i j))=true∧resC s cs (rowBX r i n j K) else setB r i n s j cs (endK K)
theorem store3_t {r i n j cs}:store3K r [] i n j cs true s K=selfK r i n j [] cs (selfS r cs) s K:=rfl
theorem store3_n {r y q i n j cs}:store3K r (y::q) i n j cs true s K=(i=0∧refsOK cs=true∧cs.all (notThr (.ptr r (y::q) i j))=true∧resC s cs (rowN r (y::q) i j K)):=rfl
theorem selfK_f {r i n j q cs}:selfK r i n j q cs false s K=setB r i n s j cs (endK K):=rfl
theorem selfK_t {r i n j q cs}:selfK r i n j q cs true s K=(refsOK cs=true∧cs.all (notThr (.ptr r q i j))=true∧resC s cs (rowBX r i n j K)):=rfl
theorem store3_f {r q i n j cs}:store3K r q i n j cs false s K=(refsOK cs=true∧cs.all (notThr (.ptr r q i j))=true∧resC s cs (rowK r q i j K)):=rfl
variable {KQ:List D→(D→Bool)→Prop}
def setC2 (r:Nat) (p:Path) (c:D) (s:List D) (d:D) (o:Option D) (KQ:List D→(D→Bool)→Prop):Prop:=match o with
  | some old=>match old.cont with
    | some _=>KQ ((pruneL (notThrough r p) s).set r (setAt (d.prune (notThrough r p)) p (c.prune (notThrough r p)))) (notThrough r p)
    | none=>KQ (s.set r (setAt d p c)) (fun _=>true)
  | none=>False
def setC1 (r:Nat)(p:Path)(c:D)(s:List D)(o:Option D)(KQ:List D→(D→Bool)→Prop):Prop:=match o with
  | some d=>setC2 r p c s d (treeAt d p) KQ
  | none=>False
theorem setC_eq {r p c}:setC s r p c KQ=setC1 r p c s s[r]? KQ:=by unfold setC setC1;cases s[r]? <;> rfl
theorem setC1_some {r p c d}:setC1 r p c s (some d) KQ=setC2 r p c s d (treeAt d p) KQ:=rfl
def allQ:D→Bool:=fun _=>true
def setC3 (r:Nat)(p:Path)(c:D)(s:List D)(d:D)(own:Bool)(KQ:List D→(D→Bool)→Prop):Prop :=
  if own then KQ ((pruneL (notThrough r p) s).set r (setAt (d.prune (notThrough r p)) p (c.prune (notThrough r p)))) (notThrough r p) else KQ (s.set r (setAt d p c)) allQ
theorem setC2_some {r p c d old}:setC2 r p c s d (some old) KQ=setC3 r p c s d old.cont.isSome KQ:=by unfold setC2 setC3;cases h:old.cont<;>simp [h]<;>rfl
theorem setC3_f {r p c d}:setC3 r p c s d false KQ=KQ (s.set r (setAt d p c)) allQ:=rfl
theorem setC3_t {r p c d}:setC3 r p c s d true KQ=KQ ((pruneL (notThrough r p) s).set r (setAt (d.prune (notThrough r p)) p (c.prune (notThrough r p)))) (notThrough r p):=rfl
def bK (r i n j:Nat)(cs:List D)(KK:List D→Prop):List D→(D→Bool)→Prop:=fun s' q=>setB r i n s' j (pruneL q cs) KK
theorem bK_all {r i n j cs}:bK r i n j cs KK s allQ=setB r i n s j cs KK:=by show setB r i n s j (pruneL (fun _=>true) cs) KK=_;rw [pruneL_yes]
theorem bK_thr {r i n j cs r' p'}:bK r i n j cs KK s (notThrough r' p')=setB r i n s j (pruneL (notThrough r' p') cs) KK:=rfl
theorem setB_nil {r i n j}:setB r i n s j [] KK=KK s:=by cases n<;>rfl
theorem setB_cons {r i n j c cs}:setB r i (n+1) s j (c::cs) KK=(isBox s r []=true∧setC s r [(i,j)] c (bK r i n (j+1) cs KK)):=rfl
def rK (r:Nat)(q:Path)(i j:Nat)(cs:List D)(KK:List D→Prop):List D→(D→Bool)→Prop:=fun s' _=>setR r q i s' j cs KK
theorem rK_app {r q i j cs f}:rK r q i j cs KK s f=setR r q i s j cs KK:=rfl
theorem setR_nil {r q i j}:setR r q i s j [] KK=KK s:=rfl
theorem setR_cons {r q i j c cs}:setR r q i s j (c::cs) KK=(c.leaf=true∧setC s r (q++[(i,j)]) c (rK r q i (j+1) cs KK)):=rfl
def isBoxF (q:Path):Option D→Bool
  | some d=>match treeAt d q with
    | some (.box _ _)=>true
    | _=>false
  | none=>false
theorem isBox_eq {r q}:isBox s r q=isBoxF q s[r]?:=by unfold isBox isBoxF;rfl
theorem isBoxF_box {g cs}:isBoxF [] (some (.box g cs))=true:=rfl
theorem isBoxF_sl {sz rows}:isBoxF [] (some (.sl true sz rows))=false:=rfl
def rowF (q:Path) (i:Nat):Option D→Option (List D)
  | some d=>match treeAt d q with
    | some t=>match t.cont with
      | some (_,rows)=>rows[i]?
      | none=>none
    | none=>none
  | none=>none
theorem rowAt_eq {r q i}:rowAt s r q i=rowF q i s[r]?:=by unfold rowAt rowF;rfl
theorem rowF_box {g cs}:rowF [] 0 (some (.box g cs))=some cs:=rfl
theorem rowF_sl {i sz rows}:rowF [] i (some (.sl true sz rows))=rows[i]?:=rfl
def faK (off:Nat)(x:D)(s:List D)(K:D→List D→Prop):Prop:=match x with
  | .ptr r q i j=>K (.ptr r q i (j+off)) s
  | .iptr c j=>K (.iptr c (j+off)) s
  | _=>False
theorem ev_fa {off x}:evalK Ctr s (.fa off x) K=faK off (lk s x) s K:=rfl
theorem fa_ptr {off r q i j}:faK off (.ptr r q i j) s K=K (.ptr r q i (j+off)) s:=rfl
theorem fa_iptr {off c j}:faK off (.iptr c j) s K=K (.iptr c (j+off)) s:=rfl
def fldK (off n:Nat)(agg:Bool)(x:D)(s:List D)(K:D→List D→Prop):Prop:=match x with
  | .agg cs=>off+n≤cs.length∧K (mkAgg agg ((cs.drop off).take n)) s
  | _=>False
theorem ev_fld {off n agg x}:evalK Ctr s (.fld off n agg x) K=fldK off n agg (lk s x) s K:=rfl
theorem fld_agg {off n agg cs}:fldK off n agg (.agg cs) s K=(off+n≤cs.length∧K (mkAgg agg ((cs.drop off).take n)) s):=rfl
def ia2K (sz:Nat)(n:Int)(r:Nat)(q:Path)(o:Option (Nat×List (List D)))(s:List D)(K:D→List D→Prop):Prop:=match o with
  | some (sz',rows)=>0≤n∧n<rows.length∧sz'=sz∧K (.ptr r q n.toNat 0) s
  | none=>False
def iaK (sz:Nat)(i x:D)(s:List D)(K:D→List D→Prop):Prop:=match i,x with
  | .v (.int _ n),.ref r q=>ia2K sz n r q (slAt s (.ref r q)) s K
  | .v (.int _ n),.sl false sz' rows=>0≤n∧n<rows.length∧sz'=sz∧∃ row,rows[n.toNat]?=some row∧K (.iptr row 0) s
  | _,_=>False
theorem ev_ia {sz x i}:evalK Ctr s (.ia sz x i) K=iaK sz (lk s i) (lk s x) s K:=rfl
theorem ia_ref {sz k n r q}:iaK sz (.v (.int k n)) (.ref r q) s K=ia2K sz n r q (slAt s (.ref r q)) s K:=rfl
theorem ia_sl {sz k n sz' rows}:iaK sz (.v (.int k n)) (.sl false sz' rows) s K=(0≤n∧n<rows.length∧sz'=sz∧∃ row,rows[n.toNat]?=some row∧K (.iptr row 0) s):=rfl
theorem ia2_some {sz n r q sz' rows}:ia2K sz n r q (some (sz',rows)) s K=(0≤n∧n<rows.length∧sz'=sz∧K (.ptr r q n.toNat 0) s):=rfl
def slF (q:Path):Option D→Option (Nat×List (List D))
  | some d=>match treeAt d q with
    | some (.sl true sz rows)=>some (sz,rows)
    | _=>none
  | none=>none
theorem slAt_ref {r q}:slAt s (.ref r q)=slF q s[r]?:=by unfold slAt slF;rfl
theorem slAt_sl {o sz rows}:slAt s (.sl o sz rows)=some (sz,rows):=rfl
theorem slAt_nils:slAt s .nils=some (0,[]):=rfl
theorem slF_sl {sz rows}:slF [] (some (.sl true sz rows))=some (sz,rows):=rfl
def iaaK (len sz:Nat)(i x:D)(s:List D)(K:D→List D→Prop):Prop:=match i,x with
  | .v (.int _ n),.ptr r q i j=>0≤n∧n<len∧K (.ptr r q i (j+n.toNat*sz)) s
  | .v (.int _ n),.iptr c j=>0≤n∧n<len∧K (.iptr c (j+n.toNat*sz)) s
  | _,_=>False
theorem ev_iaa {len sz x i}:evalK Ctr s (.iaa len sz x i) K=iaaK len sz (lk s i) (lk s x) s K:=rfl
theorem iaa_ptr {len sz k n r q i j}:iaaK len sz (.v (.int k n)) (.ptr r q i j) s K=(0≤n∧n<len∧K (.ptr r q i (j+n.toNat*sz)) s):=rfl
theorem iaa_iptr {len sz k n c j}:iaaK len sz (.v (.int k n)) (.iptr c j) s K=(0≤n∧n<len∧K (.iptr c (j+n.toNat*sz)) s):=rfl
def ixsK (i x:D)(s:List D)(K:D→List D→Prop):Prop:=match i,x with
  | .v (.int _ n),.v (.string b)=>0≤n∧∃ c,b[n.toNat]?=some c∧K (.v (.int .u8 (c.toNat:Int))) s
  | _,_=>False
theorem ev_ixs {x i}:evalK Ctr s (.ixs x i) K=ixsK (lk s i) (lk s x) s K:=rfl
theorem ixs_s {k n b}:ixsK (.v (.int k n)) (.v (.string b)) s K=(0≤n∧∃ c,b[n.toNat]?=some c∧K (.v (.int .u8 (c.toNat:Int))) s):=rfl
def ixaK (len sz:Nat)(agg:Bool)(i x:D)(s:List D)(K:D→List D→Prop):Prop:=match i,x with
  | .v (.int _ n),.agg cs=>0≤n∧n<len∧len*sz≤cs.length∧K (mkAgg agg ((cs.drop (n.toNat*sz)).take sz)) s
  | _,_=>False
theorem ev_ixa {len sz agg x i}:evalK Ctr s (.ixa len sz agg x i) K=ixaK len sz agg (lk s i) (lk s x) s K:=rfl
theorem ixa_agg {len sz agg k n cs}:ixaK len sz agg (.v (.int k n)) (.agg cs) s K=(0≤n∧n<len∧len*sz≤cs.length∧K (mkAgg agg ((cs.drop (n.toNat*sz)).take sz)) s):=rfl
theorem ev_slcS {x lo hi}:evalK Ctr s (.slcS x lo hi) K=slcSK (lk s x) (optD s lo 0) (optD s hi (sizeD (lk s x))) s K:=rfl
theorem slcS_s {b k l k' h}:slcSK (.v (.string b)) (.v (.int k l)) (.v (.int k' h)) s K=(0≤l∧l≤h∧h≤b.size∧K (.v (.string (b.extract l.toNat h.toNat))) s):=rfl
theorem ev_slc {sz x lo hi mx}:evalK Ctr s (.slc sz x lo hi mx) K=slcK sz (lk s x) (optD s lo 0) (optD s hi (sizeS s (lk s x))) (optD s mx (sizeS s (lk s x))) s K:=rfl
theorem sizeS_sl {o sz rows}:sizeS s (.sl o sz rows)=rows.length:=rfl
theorem sizeS_sub {r q i n}:sizeS s (.sub r q i n)=n:=rfl
def sizeF:Option (Nat×List (List D))→Nat
  | some (_,rows)=>rows.length
  | none=>0
theorem sizeS_ref {r q}:sizeS s (.ref r q)=sizeF (slAt s (.ref r q)):=rfl
theorem sizeF_some {sz rows}:sizeF (some (sz,rows))=rows.length:=rfl
def slcR (sz:Nat)(r:Nat)(q:Path)(l h m:Int)(o:Option (Nat×List (List D)))(s:List D)(K:D→List D→Prop):Prop:=match o with
  | some (sz',rows)=>0≤l∧l≤h∧h≤rows.length∧sz'=sz∧h≤m∧m≤rows.length∧K (.sub r q l.toNat (h.toNat-l.toNat)) s
  | none=>False
def slcB (sz:Nat)(r:Nat)(q:Path)(i n:Nat)(l h m:Int)(o:Option (Nat×List (List D)))(s:List D)(K:D→List D→Prop):Prop:=match o with
  | some (sz',rows)=>0≤l∧l≤h∧h≤n∧sz'=sz∧h≤m∧m≤n∧K (.sub r q (i+l.toNat) (h.toNat-l.toNat)) s
  | none=>False
theorem slc_ref {sz r q k l k' h k'' m}:slcK sz (.ref r q) (.v (.int k l)) (.v (.int k' h)) (.v (.int k'' m)) s K=slcR sz r q l h m (slAt s (.ref r q)) s K:=rfl
theorem slc_sub' {sz r q i n k l k' h k'' m}:slcK sz (.sub r q i n) (.v (.int k l)) (.v (.int k' h)) (.v (.int k'' m)) s K=slcB sz r q i n l h m (slAt s (.sub r q i n)) s K:=rfl
theorem slcR_some {sz r q l h m sz' rows}:slcR sz r q l h m (some (sz',rows)) s K=(0≤l∧l≤h∧h≤rows.length∧sz'=sz∧h≤m∧m≤rows.length∧K (.sub r q l.toNat (h.toNat-l.toNat)) s):=rfl
theorem slcB_some {sz r q i n l h m sz' rows}:slcB sz r q i n l h m (some (sz',rows)) s K=(0≤l∧l≤h∧h≤n∧sz'=sz∧h≤m∧m≤n∧K (.sub r q (i+l.toNat) (h.toNat-l.toNat)) s):=rfl
def sub1 (i n:Nat):Option (Nat×List (List D))→Option (Nat×List (List D))
  | some (sz,rows)=>if i+n≤rows.length then some (sz,(rows.drop i).take n) else none
  | none=>none
theorem slAt_sub {r q i n}:slAt s (.sub r q i n)=sub1 i n (slAt s (.ref r q)):=by
  simp only [slAt];cases s[r]? with
  | none=>rfl
  | some d =>
    simp only;cases treeAt d q with
    | none=>rfl
    | some t=>cases t<;>first | rfl | (rename_i o _ _;cases o<;>rfl)
theorem sub1_some {i n sz rows}:sub1 i n (some (sz,rows))=if i+n≤rows.length then some (sz,(rows.drop i).take n) else none:=rfl
theorem slc_sl {sz sz' rows k l k' h k'' m}:slcK sz (.sl false sz' rows) (.v (.int k l)) (.v (.int k' h)) (.v (.int k'' m)) s K=(0≤l∧l≤h∧h≤rows.length∧sz'=sz∧h≤m∧m≤rows.length∧K (.sl false sz ((rows.drop l.toNat).take (h.toNat-l.toNat))) s):=rfl
theorem opt_none {n}:optD s none n=.v (.int .i64 n):=rfl
theorem opt_some {x n}:optD s (some x) n=lk s x:=rfl
def ext2K (t i:Nat)(vs:List D)(o:Option D)(s:List D)(K:D→List D→Prop):Prop:=match o with
  | some d=>K d (if d.owny then s.set t (.tup (vs.set i .undef)) else s)
  | none=>False
def extK (t i:Nat)(o:Option D)(s:List D)(K:D→List D→Prop):Prop:=match o with
  | some (.tup vs)=>ext2K t i vs vs[i]? s K
  | _=>False
theorem ev_ext {t i}:evalK Ctr s (.ext (.tmp t) i) K=extK t i s[t]? s K:=rfl
theorem ext_tup {t i vs}:extK t i (some (.tup vs)) s K=ext2K t i vs vs[i]? s K:=rfl
theorem ext2_some {t i vs d}:ext2K t i vs (some d) s K=K d (if d.owny then s.set t (.tup (vs.set i .undef)) else s):=rfl
def lenK (o:Option (Nat×List (List D)))(s:List D)(K:D→List D→Prop):Prop:=match o with
  | some (_,rows)=>K (.v (.int .i64 (rows.length:Int))) s
  | none=>False
theorem ev_len {x}:evalK Ctr s (.len x) K=lenK (slAt s (lk s x)) s K:=rfl
theorem len_some {sz rows}:lenK (some (sz,rows)) s K=K (.v (.int .i64 (rows.length:Int))) s:=rfl
def lenSK (x:D)(s:List D)(K:D→List D→Prop):Prop:=match x with
  | .v (.string b)=>K (.v (.int .i64 (b.size:Int))) s
  | _=>False
theorem ev_lenS {x}:evalK Ctr s (.lenS x) K=lenSK (lk s x) s K:=rfl
theorem lenS_s {b}:lenSK (.v (.string b)) s K=K (.v (.int .i64 (b.size:Int))) s:=rfl
def mmK (mx:Bool)(x y:D)(s:List D)(K:D→List D→Prop):Prop:=match x,y with
  | .v (.int k a),.v (.int k' b)=>k=k'∧K (.v (.int k (if mx then (if b>a then b else a) else (if b<a then b else a)))) s
  | _,_=>False
theorem ev_mm {mx x y}:evalK Ctr s (.mm mx [x,y]) K=mmK mx (lk s x) (lk s y) s K:=by
  simp only [evalK,List.map_cons,List.map_nil,mmK];split
  · rename_i h;simp only [List.cons.injEq,and_true] at h;rw [h.1,h.2]
  · rename_i h;split
    · rename_i e1 e2;exact absurd (by rw [e1,e2]) (h _ _ _ _)
    · rfl
theorem mm_max {k a b}:mmK true (.v (.int k a)) (.v (.int k b)) s K=K (.v (.int k (if b>a then b else a))) s:=by simp [mmK]
theorem mm_min {k a b}:mmK false (.v (.int k a)) (.v (.int k b)) s K=K (.v (.int k (if b<a then b else a))) s:=by simp [mmK]
variable {KR:List (List D)→List D→Prop}
def app3K (sz bytes:Nat)(rows:List (List D))(K:D→List D→Prop):List (List D)→List D→Prop:=fun more s2=>(rows.length+more.length)*(bytes+1)≤2 ^ 40∧K (.sl true sz (rows++more)) s2
theorem app3_app {sz bytes rows more}:app3K sz bytes rows K more s=((rows.length+more.length)*(bytes+1)≤2 ^ 40∧K (.sl true sz (rows++more)) s):=rfl
def app2K (sz bytes:Nat)(y:Operand)(K:D→List D→Prop):List (List D)→List D→Prop:=fun rows s1=>addK s1 sz y (app3K sz bytes rows K)
theorem app2_app {sz bytes y rows}:app2K sz bytes y K rows s=addK s sz y (app3K sz bytes rows K):=rfl
theorem ev_app {sz bytes x y}:evalK Ctr s (.app sz bytes x y) K=growK s sz x (app2K sz bytes y K):=rfl
def appS2 (bytes:Nat)(d:D)(rows:List (List D))(s1:List D)(K:D→List D→Prop):Prop:=match d with
  | .v (.string b)=>(rows.length+b.size)*(bytes+1)≤2 ^ 40∧K (.sl true 1 (rows++(bytesI b).map rowB)) s1
  | _=>False
theorem appS2_s {bytes b rows}:appS2 bytes (.v (.string b)) rows s K=((rows.length+b.size)*(bytes+1)≤2 ^ 40∧K (.sl true 1 (rows++(bytesI b).map rowB)) s):=rfl
def appS1 (bytes:Nat)(y:Operand)(K:D→List D→Prop):List (List D)→List D→Prop:=fun rows s1=>appS2 bytes (lk s1 y) rows s1 K
theorem appS1_app {bytes y rows}:appS1 bytes y K rows s=appS2 bytes (lk s y) rows s K:=rfl
theorem ev_appS {bytes x y}:evalK Ctr s (.appS bytes x y) K=growK s 1 x (appS1 bytes y K):=rfl
def grow3 (sz:Nat)(KR:List (List D)→List D→Prop):D→List D→Prop:=fun d s'=>match d with
  | .sl true sz' rows=>sz'=sz∧KR rows s'
  | _=>False
theorem grow3_sl {sz sz' rows}:grow3 sz KR (.sl true sz' rows) s=(sz'=sz∧KR rows s):=rfl
def grow2 (sz:Nat)(s0:List D)(p:D×List D)(KR:List (List D)→List D→Prop):Prop:=match p.1 with
  | .sl true sz' rows=>sz'=sz∧KR rows p.2
  | .nils=>KR [] s0
  | .ref r q=>stealK s0 r q (grow3 sz KR)
  | _=>False
theorem grow_eq {sz x}:growK s sz x KR=grow2 sz s (tk s x) KR:=rfl
theorem grow2_sl {sz s0 sz' rows}:grow2 sz s0 (.sl true sz' rows,s) KR=(sz'=sz∧KR rows s):=rfl
theorem grow2_nils {sz s0}:grow2 sz s0 (.nils,s) KR=KR [] s0:=rfl
theorem grow2_ref {sz s0 r q}:grow2 sz s0 (.ref r q,s) KR=stealK s0 r q (grow3 sz KR):=rfl
def add3 (sz:Nat)(s0:List D)(o:Option (Nat×List (List D)))(KR:List (List D)→List D→Prop):Prop:=match o with
  | some (sz',rows)=>(sz'=sz∨rows=[])∧(∀ row,row∈rows→ownyL row=false)∧KR rows s0
  | none=>False
theorem add3_some {sz s0 sz' rows}:add3 sz s0 (some (sz',rows)) KR=((sz'=sz∨rows=[])∧(∀ row,row∈rows→ownyL row=false)∧KR rows s0):=rfl
def add2 (sz:Nat)(s0:List D)(p:D×List D)(KR:List (List D)→List D→Prop):Prop:=match p.1 with
  | .sl true sz' rows=>(sz'=sz∨rows=[])∧KR rows p.2
  | .sl false sz' rows=>(sz'=sz∨rows=[])∧KR rows s0
  | .nils=>KR [] s0
  | .ref r q=>add3 sz s0 (slAt s0 (.ref r q)) KR
  | .sub r q i n=>add3 sz s0 (slAt s0 (.sub r q i n)) KR
  | _=>False
theorem add_eq {sz y}:addK s sz y KR=add2 sz s (tk s y) KR:=rfl
theorem add2_own {sz s0 sz' rows}:add2 sz s0 (.sl true sz' rows,s) KR=((sz'=sz∨rows=[])∧KR rows s):=rfl
theorem add2_imm {sz s0 sz' rows}:add2 sz s0 (.sl false sz' rows,s) KR=((sz'=sz∨rows=[])∧KR rows s0):=rfl
theorem add2_nils {sz s0}:add2 sz s0 (.nils,s) KR=KR [] s0:=rfl
theorem add2_sub {sz s0 r q i n}:add2 sz s0 (.sub r q i n,s) KR=add3 sz s0 (slAt s0 (.sub r q i n)) KR:=rfl
theorem add2_ref {sz s0 r q}:add2 sz s0 (.ref r q,s) KR=add3 sz s0 (slAt s0 (.ref r q)) KR:=rfl
theorem ev_mkf {f first caps}:evalK Ctr s (.mkf f first caps) K=K (.fn f (first.map (lk s)) (caps.map (lk s))) s:=rfl
def mksK (sz bytes:Nat)(zero:List Value)(l c:D)(s:List D)(K:D→List D→Prop):Prop:=match l,c with
  | .v (.int _ n),.v (.int _ m)=>0≤n∧n≤m∧m*(bytes+1)≤2 ^ 40∧K (.sl true sz (List.replicate n.toNat (zero.map ofC))) s
  | _,_=>False
theorem ev_mks {sz bytes zero l c}:evalK Ctr s (.mks sz bytes zero l c) K=mksK sz bytes zero (lk s l) (lk s c) s K:=rfl
theorem mks_int {sz bytes zero k n k' m}:mksK sz bytes zero (.v (.int k n)) (.v (.int k' m)) s K=(0≤n∧n≤m∧m*(bytes+1)≤2 ^ 40∧K (.sl true sz (List.replicate n.toNat (zero.map ofC))) s):=rfl
/-! the code -/
variable {Q:VExit→List D→Prop} {next:List D→Prop}
theorem wp_ops' {l:List VO}:(VCode.ops l).wp Ctr Q s=opsK Ctr s l (Q .normal):=rfl
theorem wp_seq' {x y:VCode}:(VCode.seq x y).wp Ctr Q s=x.wp Ctr (vthen (y.wp Ctr Q) Q) s:=rfl
theorem wp_skip':VCode.skip.wp Ctr Q s=Q .normal s:=rfl
theorem wp_ret':VCode.ret.wp Ctr Q s=Q .ret s:=rfl
theorem wp_exit' {i}:(VCode.exit i).wp Ctr Q s=Q (.exit i) s:=rfl
theorem wp_block' {i}{c:VCode}:(VCode.block i c).wp Ctr Q s=c.wp Ctr (vblock i Q) s:=rfl
def condK (d:D)(A B:List D→Prop)(s:List D):Prop:=match d with
  | .v (.bool t)=>(t=true→A s)∧(t=false→B s)
  | _=>False
theorem wp_cond' {x}{a b:VCode}:(VCode.cond x a b).wp Ctr Q s=condK (lk s x) (a.wp Ctr Q) (b.wp Ctr Q) s:=rfl
variable {A B:List D→Prop}
theorem cond_t:condK (.v (.bool true)) A B s=A s:=by simp [condK]
theorem cond_f:condK (.v (.bool false)) A B s=B s:=by simp [condK]
theorem cond_split {t:Bool}{A B:List D→Prop}{s:List D}(h1:t=true→A s)(h2:t=false→B s):condK (.v (.bool t)) A B s:=⟨h1,h2⟩
theorem then_n:vthen next Q .normal s=next s:=rfl
theorem then_r:vthen next Q .ret s=Q .ret s:=rfl
theorem then_e {i}:vthen next Q (.exit i) s=Q (.exit i) s:=rfl
theorem block_n {i}:vblock i Q .normal s=Q .normal s:=rfl
theorem block_r {i}:vblock i Q .ret s=Q .ret s:=rfl
theorem block_e {i j}:vblock i Q (.exit j) s=if j=i then Q .normal s else Q (.exit j) s:=rfl
theorem loop_intro {mask:List Bool}{c:VCode}{Q:VExit→List D→Prop}{s:List D}(J:Nat→List D→Prop)(n:Nat)(h0:∃ s1,nleL (clr mask s) s1∧J n s1)(h:∀ n s',J n s'→c.wp Ctr (vthen (fun s''=>∃ m,m<n∧∃ s1,nleL (clr mask s'') s1∧J m s1) Q) s'):(VCode.loop mask c).wp Ctr Q s:=⟨J,⟨n,h0⟩,h⟩
/-! the results -/
def NoG:World→(Nat→Prop)→Prop:=fun _ _=>True
theorem noG:Stab NoG:=fun _ _ _ _ _=>trivial
theorem gI {w:World}{I:Nat→Prop}:GI NoG w I:=⟨fun _=>False,fun _ h=>h.elim,trivial⟩
end Go.V
namespace Go.V
open Go.RowKit
section
variable {Ctr:CtrT} {s s':List D} {K:D→List D→Prop} {KP:List D→Prop} {KD:D→Prop} {KL:List D→Prop} {Q:VExit→List D→Prop} {pr:Option (Nat×Path)} {os:List DOp}
/-! ### Regions that draw -/
def drawEndK (Ctr:CtrT)(cls:List Bool)(tail:List VO)(Q:VExit→List D→Prop):List D→Prop:=fun s=>opsK Ctr (clr cls s) tail (Q .normal)
theorem wp_draw' {start cls l1 tail}:(VCode.draw start cls l1 tail).wp Ctr Q s=headK Ctr none (clr start s) l1 (drawEndK Ctr cls tail Q):=rfl
theorem drawEnd_app {cls tail}:drawEndK Ctr cls tail Q s=opsK Ctr (clr cls s) tail (Q .normal):=rfl
def headC (Ctr:CtrT)(pr:Option (Nat×Path))(s:List D)(dst:Option Nat)(os:List DOp)(KP:List D→Prop):D→Prop:=fun d=>headK Ctr pr (setO s dst (prO pr d)) os KP
def guardD (Ctr:CtrT)(V:List D)(cl:List Bool)(want:Bool)(op:VOp)(d:D)(KD:D→Prop):Prop:=match d with
  | .v (.bool b)=>(b=want→drawE Ctr V cl op KD)∧(b≠want→KD (.v (.tuple #[])))
  | .v _=>KD (.v (.tuple #[]))
  | _=>False
theorem head_nil:headK Ctr pr s [] KP=KP s:=rfl
theorem head_cons {i hid cl dst op}:headK Ctr pr s (⟨i,hid,cl,⟨dst,none,op⟩⟩::os) KP=drawE Ctr (clr hid s) cl op (headC Ctr pr s dst os KP):=rfl
theorem head_guard {i hid cl dst op g want}:headK Ctr pr s (⟨i,hid,cl,⟨dst,some (g,want),op⟩⟩::os) KP=guardD Ctr (clr hid s) cl want op (lkT (clr hid s) g) (headC Ctr pr s dst os KP):=rfl
theorem headC_app {dst d}:headC Ctr pr s dst os KP d=headK Ctr pr (setO s dst (prO pr d)) os KP:=rfl
theorem gd_tt {V cl op}:guardD Ctr V cl true op (.v (.bool true)) KD=drawE Ctr V cl op KD:=by simp [guardD]
theorem gd_ff {V cl op}:guardD Ctr V cl false op (.v (.bool false)) KD=drawE Ctr V cl op KD:=by simp [guardD]
theorem gd_tf {V cl op}:guardD Ctr V cl true op (.v (.bool false)) KD=KD (.v (.tuple #[])):=by simp [guardD]
theorem gd_ft {V cl op}:guardD Ctr V cl false op (.v (.bool true)) KD=KD (.v (.tuple #[])):=by simp [guardD]
theorem gd_skip {V cl op want}:guardD Ctr V cl want op (.v (.tuple #[])) KD=KD (.v (.tuple #[])):=by simp [guardD]
def drawC (V:List D)(cl:List Bool)(KD:D→Prop):D→List D→Prop:=fun d s'=>clr cl s'=clr cl V∧KD d
theorem drawE_eq {V cl op}:drawE Ctr V cl op KD=evalK Ctr V op (drawC V cl KD):=rfl
theorem clr_nil':∀ (s:List D),clr [] s=s:=by
  intro s;apply List.ext_getElem?;intro r;rw [clr_get];cases s[r]? with
  | none=>rfl
  | some d=>have:keepQ []=fun _=>true:=(by funext x;cases x<;>rfl);simp [this,D.prune_yes]
theorem drawC_nil {V d}:drawC V [] KD d s'=(s'=V∧KD d):=by unfold drawC;rw [clr_nil',clr_nil']
theorem drawC_cons {V d b cl}:drawC V (b::cl) KD d s'=(clr (b::cl) s'=clr (b::cl) V∧KD d):=rfl
theorem setO_some' {t d}:setO s (some t) d=s.set t d:=rfl
theorem setO_none' {d}:setO s none d=s:=rfl
theorem prO_none' {d}:prO none d=d:=rfl
theorem prO_some' {r q d}:prO (some (r,q)) d=d.prune (notThrough r q):=rfl
theorem clr_eq {m}:clr m s=clrL (keepQ m) m s:=rfl
theorem clrL_nil {q m}:clrL q m []=[]:=by simp [clrL]
theorem clrL_t {q m d}:clrL q (true::m) (d::s)=.undef::clrL q m s:=rfl
theorem clrL_f {q m d}:clrL q (false::m) (d::s)=d.prune q::clrL q m s:=rfl
theorem clrL_e {q d}:clrL q [] (d::s)=d.prune q::clrL q [] s:=rfl
theorem keepQ_ref {m r p}:keepQ m (.ref r p)=!m.getD r false:=rfl
theorem keepQ_sub {m r p i j}:keepQ m (.sub r p i j)=!m.getD r false:=rfl
theorem keepQ_ptr {m r p i j}:keepQ m (.ptr r p i j)=!m.getD r false:=rfl
theorem getD_z {b:Bool}{m:List Bool}:(b::m).getD 0 false=b:=rfl
theorem getD_s {b:Bool}{m:List Bool}{n:Nat}:(b::m).getD (n+1) false=m.getD n false:=by simp
theorem getD_e {n:Nat}:([]:List Bool).getD n false=false:=by simp
def midC (Ctr:CtrT)(start cls:List Bool)(o:DOp)(l2:List DOp)(tail:List VO)(Q:VExit→List D→Prop):List D→Prop:=fun s=>midK Ctr start cls s o l2 fun s''=>opsK Ctr s'' tail (Q .normal)
def drawEndB (Ctr:CtrT)(fills:List (Nat×Nat))(cls:List Bool)(tail:List VO)(Q:VExit→List D→Prop):List D→Prop:=fun s=>boxesZ s fills∧opsK Ctr (clr cls s) tail (Q .normal)
/-! order by order -/
def tailK (Ctr:CtrT)(tail:List VO)(Q:VExit→List D→Prop):List D→Prop:=fun s=>opsK Ctr s tail (Q .normal)
theorem tail_app {tail}:tailK Ctr tail Q s=opsK Ctr s tail (Q .normal):=rfl
def contT (Ctr:CtrT)(dst:Option Nat)(t:VT)(KP:List D→Prop):D→List D→Prop:=fun d s'=>t.wp Ctr KP (match dst with | some t=>putD s' t d | none=>s')
theorem tree_done:VT.done.wp Ctr KP s=KP s:=rfl
theorem tree_one {i dst op sub}:(VT.br i ⟨dst,none,op⟩ sub .nil).wp Ctr KP s=evalK Ctr s op (contT Ctr dst sub KP):=by simp only [VT.wp,and_true];rfl
theorem tree_h {i dst op sub}:(VT.h i ⟨dst,none,op⟩ sub).wp Ctr KP s=evalK Ctr s op (contT Ctr dst sub KP):=rfl
theorem tree_br {i dst op sub j o sub2 rest}:(VT.br i ⟨dst,none,op⟩ sub (.br j o sub2 rest)).wp Ctr KP s=(evalK Ctr s op (contT Ctr dst sub KP)∧(VT.br j o sub2 rest).wp Ctr KP s):=rfl
def guardT (Ctr:CtrT)(s:List D)(dst:Option Nat)(want:Bool)(op:VOp)(sub:VT)(KP:List D→Prop)(d:D):Prop:=match d with
  | .v (.bool b)=>(b=want→evalK Ctr s op (contT Ctr dst sub KP))∧(b≠want→contT Ctr dst sub KP (.v (.tuple #[])) s)
  | .v _=>contT Ctr dst sub KP (.v (.tuple #[])) s
  | _=>False
theorem tree_oneG {i dst g want op sub}:(VT.br i ⟨dst,some (g,want),op⟩ sub .nil).wp Ctr KP s=guardT Ctr s dst want op sub KP (lkT s g):=by simp only [VT.wp,and_true];rfl
theorem tree_brG {i dst g want op sub j o sub2 rest}:(VT.br i ⟨dst,some (g,want),op⟩ sub (.br j o sub2 rest)).wp Ctr KP s=(guardT Ctr s dst want op sub KP (lkT s g)∧(VT.br j o sub2 rest).wp Ctr KP s):=rfl
theorem gt_tt {dst op sub}:guardT Ctr s dst true op sub KP (.v (.bool true))=evalK Ctr s op (contT Ctr dst sub KP):=by simp [guardT]
theorem gt_ff {dst op sub}:guardT Ctr s dst false op sub KP (.v (.bool false))=evalK Ctr s op (contT Ctr dst sub KP):=by simp [guardT]
theorem gt_tf {dst op sub}:guardT Ctr s dst true op sub KP (.v (.bool false))=contT Ctr dst sub KP (.v (.tuple #[])) s:=by simp [guardT]
theorem gt_ft {dst op sub}:guardT Ctr s dst false op sub KP (.v (.bool true))=contT Ctr dst sub KP (.v (.tuple #[])) s:=by simp [guardT]
theorem gt_skip {dst op sub want}:guardT Ctr s dst want op sub KP (.v (.tuple #[]))=contT Ctr dst sub KP (.v (.tuple #[])) s:=by simp [guardT]
theorem contT_some {t sub d}:contT Ctr (some t) sub KP d s=sub.wp Ctr KP (putD s t d):=rfl
theorem contT_none {sub d}:contT Ctr none sub KP d s=sub.wp Ctr KP s:=rfl
theorem wp_drawB' {pre fills start cls l1 tail}:(VCode.drawB pre fills start cls l1 tail).wp Ctr Q s=(boxesS s pre∧headK Ctr none (clr start s) l1 (drawEndB Ctr fills cls tail Q)):=rfl
theorem drawEndB_app {fills cls tail}:drawEndB Ctr fills cls tail Q s=(boxesZ s fills∧opsK Ctr (clr cls s) tail (Q .normal)):=rfl
theorem boxesS_nil:boxesS s []=True:=rfl
theorem boxesS_cons {t n l}:boxesS s ((t,n)::l)=(boxS s t n∧boxesS s l):=rfl
theorem boxesZ_nil:boxesZ s []=True:=rfl
theorem boxesZ_cons {t n l}:boxesZ s ((t,n)::l)=(boxZ s t n∧boxesZ s l):=rfl
def boxSF (n:Nat):Option D→Prop
  | some (.box _ cells)=>cells.length=n
  | _=>False
def boxZF (n:Nat):Option D→Prop
  | some (.box none cells)=>cells.length=n
  | _=>False
theorem boxS_eq {t n}:boxS s t n=boxSF n s[t]?:=rfl
theorem boxZ_eq {t n}:boxZ s t n=boxZF n s[t]?:=rfl
theorem boxSF_box {n tag cells}:boxSF n (some (.box tag cells))=(cells.length=n):=rfl
theorem boxZF_box {n cells}:boxZF n (some (.box none cells))=(cells.length=n):=rfl
theorem wp_drawW' {start cls l1 o l2 tail}:(VCode.drawW start cls l1 o l2 tail).wp Ctr Q s=headK Ctr none (clr start s) l1 (midC Ctr start cls o l2 tail Q):=rfl
def placeC (Ctr:CtrT)(s:List D)(dst:Option Nat)(l2:List DOp)(cls:List Bool)(tail:List VO)(Q:VExit→List D→Prop):Nat→Path→D→Prop:=fun r q d=>headK Ctr (some (r,q)) (setO (holeS r q s) dst d) l2 (drawEndK Ctr cls tail Q)
theorem mid_app {start cls i hid cl dst g sz by' x y l2 tail}:midC Ctr start cls ⟨i,hid,cl,⟨dst,g,.app sz by' x y⟩⟩ l2 tail Q s=placeK start (clr hid s) sz by' x y (placeC Ctr s dst l2 cls tail Q):=rfl
theorem placeC_app {dst l2 cls tail r q d}:placeC Ctr s dst l2 cls tail Q r q d=headK Ctr (some (r,q)) (setO (holeS r q s) dst d) l2 (drawEndK Ctr cls tail Q):=rfl
variable {KR:Nat→Path→D→Prop}
def place4 (sz by':Nat)(rows:List (List D))(KD:D→Prop):List (List D)→List D→Prop:=fun more _=>(rows.length+more.length)*(by'+1)≤2 ^ 40∧KD (.sl true sz (rows++more))
theorem place4_app {sz by' rows more}:place4 sz by' rows KD more s=((rows.length+more.length)*(by'+1)≤2 ^ 40∧KD (.sl true sz (rows++more))):=rfl
def place3 (sz by':Nat)(y:Operand)(KD:D→Prop):D→List D→Prop:=fun d s1=>match d with
  | .sl true sz' rows=>sz'=sz∧addK s1 sz y (place4 sz by' rows KD)
  | _=>False
theorem place3_app {sz by' y sz' rows}:place3 sz by' y KD (.sl true sz' rows) s=(sz'=sz∧addK s sz y (place4 sz by' rows KD)):=rfl
def place2 (start:List Bool)(V:List D)(sz by':Nat)(y:Operand)(p:D×List D)(KR:Nat→Path→D→Prop):Prop:=match p.1 with
  | .ref r q=>start.getD r false=false∧stealK V r q (place3 sz by' y (KR r q))
  | _=>False
theorem place_eq {start V sz by' x y}:placeK start V sz by' x y KR=place2 start V sz by' y (tk V x) KR:=rfl
theorem place2_ref {start V sz by' y r q}:place2 start V sz by' y (.ref r q,s) KR=(start.getD r false=false∧stealK V r q (place3 sz by' y (KR r q))):=rfl
def holeF (r:Nat)(q:Path)(s:List D)(o:Option D):List D:=match o with
  | some d=>(pruneL (notThrough r q) s).set r (setAt (d.prune (notThrough r q)) q .undef)
  | none=>s
theorem hole_eq {r q}:holeS r q s=holeF r q s s[r]?:=rfl
theorem holeF_some {r q d}:holeF r q s (some d)=(pruneL (notThrough r q) s).set r (setAt (d.prune (notThrough r q)) q .undef):=rfl
/-! ### Kin of append and the like -/
variable {KG:List (List D)→List D→Prop}
def growN2 (sz:Nat)(s0:List D)(p:D×List D)(KG:List (List D)→List D→Prop):Prop:=match p.1 with
  | .sl true sz' rows=>sz'=sz∧KG rows p.2
  | .nils=>KG [] s0
  | _=>False
theorem growN_eq {sz x}:growNK s sz x KG=growN2 sz s (tk s x) KG:=rfl
theorem growN2_sl {sz s0 sz' rows}:growN2 sz s0 (.sl true sz' rows,s) KG=(sz'=sz∧KG rows s):=rfl
theorem growN2_nils {sz s0}:growN2 sz s0 (.nils,s) KG=KG [] s0:=rfl
theorem ev_appN {sz by' x y}:evalK Ctr s (.appN sz by' x y) K=growNK s sz x (app2K sz by' y K):=rfl
def bslNK (sz n:Nat)(p:List D×List D)(K:D→List D→Prop):Prop :=
  p.1.all (fun d=>d.okCells&&d.cells.length==sz)=true∧noRefs (p.1.flatMap D.cells)=true∧K (.sl true sz (chunk sz n (p.1.flatMap D.cells))) p.2
theorem ev_bslN {sz parts}:evalK Ctr s (.bslN sz parts) K=bslNK sz parts.length (tkL s parts) K:=rfl
theorem bslN_mk {sz n}{ds:List D}:bslNK sz n (ds,s) K=(ds.all (fun d=>d.okCells&&d.cells.length==sz)=true∧noRefs (ds.flatMap D.cells)=true∧K (.sl true sz (chunk sz n (ds.flatMap D.cells))) s):=rfl
def extNK (o:Option D) (s:List D) (K:D→List D→Prop) (i:Nat):Prop:=match o with
  | some (.tup vs)=>match vs[i]? with
    | some d=>d.owny=false∧K d s
    | none=>False
  | _=>False
def extN2 (o:Option D)(s:List D)(K:D→List D→Prop):Prop:=match o with
  | some d=>d.owny=false∧K d s
  | none=>False
theorem ev_extN {t i}:evalK Ctr s (.extN (.tmp t) i) K=extNK s[t]? s K i:=rfl
theorem extN_tup {vs i}:extNK (some (.tup vs)) s K i=extN2 vs[i]? s K:=rfl
theorem extN2_some {d}:extN2 (some d) s K=(d.owny=false∧K d s):=rfl
/-! ### A function's end -/
theorem end_ret {rvs d}:endQ rvs d .ret s=rvsK s rvs (leK d):=rfl
theorem end_n {rvs d}:endQ rvs d .normal s=rvsK s rvs (leK d):=rfl
theorem endX_ret {rvs d i b cs}:endX rvs d i b cs .ret s=rvsK s rvs (leX d i b cs):=rfl
theorem endX_n {rvs d i b cs}:endX rvs d i b cs .normal s=rvsK s rvs (leX d i b cs):=rfl
section
variable {KS:List D→List D→Prop}
def rcons (d:D)(KL:List D→List D→Prop):List D→List D→Prop:=fun ds=>KL (d::ds)
def rvN (rs:List RV)(KL:List D→List D→Prop):D→List D→Prop:=fun d s'=>rvsK s' rs (rcons d KL)
theorem rvs_nil:rvsK s [] KS=KS [] s:=rfl
theorem rvs_cons {r rs}:rvsK s (r::rs) KS=rvK s r (rvN rs KS):=rfl
theorem rvN_app {rs d}:rvN rs KS d s=rvsK s rs (rcons d KS):=rfl
theorem rcons_app {d ds}:rcons d KS ds s=KS (d::ds) s:=rfl
end
theorem leK_app {d ds}:leK d ds s=(one ds).le d:=rfl
def outF (b:Nat)(cells':List D):Option D→Prop
  | some (.box (some b') cs)=>b'=b∧leL (pruneL (fun _=>false) cs) cells'
  | _=>False
theorem endG_ret {rvs d b cs}:endG rvs d b cs .ret s=rvsK s rvs (leG d b cs):=rfl
theorem endG_n {rvs d b cs}:endG rvs d b cs .normal s=rvsK s rvs (leG d b cs):=rfl
theorem leG_app {d ds b cs}:leG d b cs ds s=((one ds).le d∧outL b cs s):=rfl
def rvP1 (x n:Nat)(s:List D)(K:D→List D→Prop):Option D→Prop
  | some (.box _ (.ptr r [] 0 0::rest))=>rest.length+1=n∧r≠x∧rest.all D.flatI=true∧resolveK ((pruneL (notRoot x) s).set x .undef) (.ptr r [] 0 0) (fun d' s'=>K (.agg (d'::rest)) s')
  | _=>False
theorem endP_ret {x n d}:endP x n d .ret s=rvP1 x n s (fun d' _=>d'.le d) s[x]?:=rfl
theorem endP_n {x n d}:endP x n d .normal s=rvP1 x n s (fun d' _=>d'.le d) s[x]?:=rfl
theorem rvP1_box {x n K g r rest}:rvP1 x n s K (some (.box g (.ptr r [] 0 0::rest)))=(rest.length+1=n∧r≠x∧rest.all D.flatI=true∧resolveK ((pruneL (notRoot x) s).set x .undef) (.ptr r [] 0 0) (fun d' s'=>K (.agg (d'::rest)) s')):=rfl
theorem endKK_ret {rvs d i b cs}:endKK rvs d i b cs .ret s=rvsK s rvs (leK2 d i b cs):=rfl
theorem endKK_n {rvs d i b cs}:endKK rvs d i b cs .normal s=rvsK s rvs (leK2 d i b cs):=rfl
def outKF (b:Nat)(cells':List D):Option D→Prop
  | some (.fn _ [.box (some b') cs] [])=>b'=b∧leL (pruneL (fun _=>false) cs) cells'
  | _=>False
theorem leK2_app {d ds i b cs}:leK2 d i b cs ds s=((one ds).le d∧outKF b cs s[i]?):=by unfold leK2 outK outKF;rfl
theorem outKF_fn {g b b' cs cells'}:outKF b cells' (some (.fn g [.box (some b') cs] []))=(b'=b∧leL (pruneL (fun _=>false) cs) cells'):=rfl
def mkifF (ty:Nat)(t:Nat)(s:List D)(K:D→List D→Prop):Option D→Prop
  | some (.box _ [.v (.int .i64 m),.v (.int .i64 n)])=>K (.mp (.err ty) [(.int .i64 m,.int .i64 n)]) ((pruneL (notRoot t) s).set t .undef)
  | _=>False
theorem leX_app {d ds i b cs}:leX d i b cs ds s=((one ds).le d∧outF b cs s[i]?):=by unfold leX outX outF;rfl
theorem outF_box {b cs cells'}:outF b cells' (some (.box (some b) cs))=leL (pruneL (fun _=>false) cs) cells':=by simp [outF]
theorem one_1 {d}:one [d]=d:=rfl
theorem one_0:one []=.tup []:=rfl
theorem one_2 {d e ds}:one (d::e::ds)=.tup (d::e::ds):=rfl
def rv2 (p:D×List D)(K:D→List D→Prop):Prop:=p.1.okCells=true∧resolveK p.2 p.1 K
theorem rv_t {t}:rvK s (.t t) K=rv2 (tkT s t) K:=rfl
theorem rv2_mk {d}:rv2 (d,s) K=(d.okCells=true∧resolveK s d K):=rfl
def rv3 (t n:Nat)(agg:Bool)(s:List D)(o:Option D)(K:D→List D→Prop):Prop:=match o with
  | some (.box _ cells)=>cells.length=n∧(mkAgg agg (pruneL (notRoot t) cells)).okCells=true∧resolveK ((pruneL (notRoot t) s).set t .undef) (mkAgg agg (pruneL (notRoot t) cells)) K
  | _=>False
theorem rv_c {t n agg}:rvK s (.c t n agg) K=rv3 t n agg s s[t]? K:=rfl
theorem rv3_box {t n agg g cells}:rv3 t n agg s (some (.box g cells)) K=(cells.length=n∧(mkAgg agg (pruneL (notRoot t) cells)).okCells=true∧resolveK ((pruneL (notRoot t) s).set t .undef) (mkAgg agg (pruneL (notRoot t) cells)) K):=rfl
def rebK (d:D)(K:D→List D→Prop):List D→List D→Prop:=fun cs s'=>K (rebuild d cs) s'
def boxRK (K:D→List D→Prop):List D→List D→Prop:=fun cs s'=>K (.box none cs) s'
theorem boxRK_app {cs}:boxRK K cs s=K (.box none cs) s:=rfl
def resP (r:Nat)(s:List D)(K:D→List D→Prop):Option D→Prop
  | some (.box _ cells)=>refsOK (pruneL (refNot r) cells)=true∧resC ((pruneL (notRoot r) s).set r .undef) (pruneL (refNot r) cells) (boxRK K)
  | _=>False
theorem resolve_ptr {r}:resolveK s (.ptr r [] 0 0) K=resP r s K s[r]?:=by unfold resolveK resP;rfl
theorem resP_box {r g cells}:resP r s K (some (.box g cells))=(refsOK (pruneL (refNot r) cells)=true∧resC ((pruneL (notRoot r) s).set r .undef) (pruneL (refNot r) cells) (boxRK K)):=rfl
theorem resolve_agg {cs}:resolveK s (.agg cs) K=(refsOK cs=true∧resC s cs (rebK (.agg cs) K)):=rfl
theorem resolve_v {x}:resolveK s (.v x) K=(refsOK [.v x]=true∧resC s [.v x] (rebK (.v x) K)):=rfl
theorem resolve_nils:resolveK s .nils K=(refsOK [.nils]=true∧resC s [.nils] (rebK .nils K)):=rfl
theorem resolve_undef:resolveK s .undef K=(refsOK [.undef]=true∧resC s [.undef] (rebK .undef K)):=rfl
theorem resolve_sl {o z r}:resolveK s (.sl o z r) K=(refsOK [.sl o z r]=true∧resC s [.sl o z r] (rebK (.sl o z r) K)):=rfl
theorem resolve_ref {r p}:resolveK s (.ref r p) K=(refsOK [.ref r p]=true∧resC s [.ref r p] (rebK (.ref r p) K)):=rfl
theorem resolve_mp {k e}:resolveK s (.mp k e) K=(refsOK [.mp k e]=true∧resC s [.mp k e] (rebK (.mp k e) K)):=rfl
theorem resolve_iptr {c j}:resolveK s (.iptr c j) K=(refsOK [.iptr c j]=true∧resC s [.iptr c j] (rebK (.iptr c j) K)):=rfl
theorem reb_mp {k e ds}:rebuild (.mp k e) ds=ds.headD .undef:=rfl
theorem le_mp' {k e k' e'}:(D.mp k e).le (.mp k' e')=(k=k'∧e=e'):=by simp [D.le]
theorem le_box' {g e g' e'}:(D.box g e).le (.box g' e')=(g=g'∧e=e'):=by simp [D.le]
theorem rebK_app {d cs}:rebK d K cs s=K (rebuild d cs) s:=rfl
theorem reb_agg {cs ds}:rebuild (.agg cs) ds=.agg ds:=rfl
theorem reb_v {x ds}:rebuild (.v x) ds=ds.headD .undef:=rfl
theorem reb_nils {ds}:rebuild .nils ds=ds.headD .undef:=rfl
theorem reb_undef {ds}:rebuild .undef ds=ds.headD .undef:=rfl
theorem reb_sl {o z r ds}:rebuild (.sl o z r) ds=ds.headD .undef:=rfl
theorem reb_ref {r p ds}:rebuild (.ref r p) ds=ds.headD .undef:=rfl
theorem reb_iptr {c j ds}:rebuild (.iptr c j) ds=ds.headD .undef:=rfl
theorem le_undef' {d:D}:d.le .undef=True:=by cases d<;>simp [D.le]
theorem le_v' {a b:Value}:(D.v a).le (.v b)=(a=b):=by simp [D.le]
theorem le_nils':D.nils.le .nils=True:=by simp [D.le]
theorem le_nilsl {o z r}:D.nils.le (.sl o z r)=(r=[]):=by simp [D.le]
theorem le_sl' {o z r o' z' r'}:(D.sl o z r).le (.sl o' z' r')=(o=o'∧z=z'∧r=r'):=by simp [D.le]
theorem le_agg' {a b}:(D.agg a).le (.agg b)=leL a b:=by simp [D.le]
theorem le_tup' {a b}:(D.tup a).le (.tup b)=leL a b:=by simp [D.le]
theorem le_fn' {f g a b c d}:(D.fn f a b).le (.fn g c d)=(f=g∧leL a c∧leL b d):=by simp [D.le]
theorem leL_nil':leL [] []=True:=by simp [leL]
theorem leL_cons' {a b a2 b2}:leL (a::a2) (b::b2)=(a.le b∧leL a2 b2):=by simp [leL]
end
theorem drawT_at {C:CtrT}{Q:VExit→List D→Prop}{s:List D}{t:VT}{tail:List VO}{s0:List D}(h:∀ K:List D→Prop,K s0→t.wp C K s)(p:tailK C tail Q s0):(VCode.drawT t tail).wp C Q s:=h _ p
end Go.V
namespace Go.V
open Go.RowKit
section
variable {Ctr:CtrT} {s:List D} {K:D→List D→Prop}
def eqsK (neg:Bool) (ks:List Nat) (x y:D) (s:List D) (K:D→List D→Prop):Prop:=match x,y with
  | .agg a,.agg b=>kindsOK ks a=true∧match eqCells a b with
    | some c=>K (.v (.bool (if neg then !c else c))) s
    | none=>False
  | _,_=>False
theorem ev_eqs {neg ks x y}:evalK Ctr s (.eqs neg ks x y) K=eqsK neg ks (lk s x) (lk s y) s K:=rfl
def eqs2 (neg:Bool)(o:Option Bool)(s:List D)(K:D→List D→Prop):Prop:=match o with
  | some c=>K (.v (.bool (if neg then !c else c))) s
  | none=>False
theorem eqs_agg {neg ks a b}:eqsK neg ks (.agg a) (.agg b) s K=(kindsOK ks a=true∧eqs2 neg (eqCells a b) s K):=rfl
theorem eqs2_f {c}:eqs2 false (some c) s K=K (.v (.bool c)) s:=rfl
theorem eqs2_t {c}:eqs2 true (some c) s K=K (.v (.bool (!c))) s:=rfl
theorem eqc_nil:eqCells [] []=some true:=rfl
theorem eqc_int {k a b xs ys}:eqCells (.v (.int k a)::xs) (.v (.int k b)::ys)=(eqCells xs ys).map (decide (a=b)&&·):=by simp [eqCells]
theorem eqc_str {a b xs ys}:eqCells (.v (.string a)::xs) (.v (.string b)::ys)=(eqCells xs ys).map (decide (a=b)&&·):=rfl
theorem eqc_bool {a b xs ys}:eqCells (.v (.bool a)::xs) (.v (.bool b)::ys)=(eqCells xs ys).map ((a==b)&&·):=rfl
theorem kok_nil:kindsOK [] []=true:=rfl
theorem kok_b {ks b ds}:kindsOK (0::ks) (.v (.bool b)::ds)=kindsOK ks ds:=rfl
theorem kok_i {ks k n ds}:kindsOK (1::ks) (.v (.int k n)::ds)=kindsOK ks ds:=rfl
theorem kok_s {ks b ds}:kindsOK (2::ks) (.v (.string b)::ds)=kindsOK ks ds:=rfl
theorem ev_b2s {x}:evalK Ctr s (.b2s x) K=b2sK (slAt s (lk s x)) s K:=rfl
theorem b2s_mk {sz rows}:b2sK (some (sz,rows)) s K=∃ xs:List Int,rows=xs.map rowB∧K (.v (.string (strI xs))) s:=rfl
theorem ev_isnil {neg x}:evalK Ctr s (.isnil neg x) K=isnilK neg (lk s x) (slAt s (lk s x)) s K:=rfl
theorem isnil_nils {neg o}:isnilK neg .nils o s K=K (.v (.bool (!neg))) s:=rfl
/-! maps -/
theorem ev_mkm {k}:evalK Ctr s (.mkm k) K=K (.mp k k.e0) s:=rfl
theorem e0_str:KK.e0 .str=[]:=rfl
theorem e0_bool:KK.e0 .bool=[]:=rfl
theorem e0_int {k}:KK.e0 (.int k)=[]:=rfl
theorem e0_flat {ks}:KK.e0 (.flat ks)=[]:=rfl
theorem ev_mkif {ty t}:evalK Ctr s (.mkif ty (.tmp t)) K=mkifF ty t s K s[t]?:=by unfold mkifF;rfl
theorem mkifF_box {ty t g m n}:mkifF ty t s K (some (.box g [.v (.int .i64 m),.v (.int .i64 n)]))=K (.mp (.err ty) [(.int .i64 m,.int .i64 n)]) ((pruneL (notRoot t) s).set t .undef):=rfl
theorem e0_bld {t e}:KK.e0 (.bld t e)=[(.string ⟨#[]⟩,undef)]:=rfl
def mupd4 (k:KK)(r:Nat)(q:Path)(d:D)(e:List (Value×Value))(ou ov:Option Value)(s:List D)(K:D→List D→Prop):Prop:=match ou,ov with
  | some u,some v=>keyOK k u=true∧K .undef (s.set r (setAt d q (.mp k (mset e u v))))
  | _,_=>False
def mupd3 (k:KK)(r:Nat)(q:Path)(d:D)(o:Option D)(ou ov:Option Value)(s:List D)(K:D→List D→Prop):Prop:=match o with
  | some (.mp k' e)=>k'=k∧mupd4 k r q d e ou ov s K
  | _=>False
def mupd2 (k:KK)(r:Nat)(q:Path)(o:Option D)(ou ov:Option Value)(s:List D)(K:D→List D→Prop):Prop:=match o with
  | some d=>mupd3 k r q d (treeAt d q) ou ov s K
  | none=>False
def mupd1 (k:KK)(m:D)(ou ov:Option Value)(s:List D)(K:D→List D→Prop):Prop:=match m with
  | .ref r q=>mupd2 k r q s[r]? ou ov s K
  | _=>False
theorem ev_mupd {k m i x}:evalK Ctr s (.mupd k m i x) K=mupd1 k (lk s m) (toV (lk s i)) (toV (lk s x)) s K:=rfl
theorem mupd1_ref {k r q ou ov}:mupd1 k (.ref r q) ou ov s K=mupd2 k r q s[r]? ou ov s K:=rfl
theorem mupd2_some {k r q d ou ov}:mupd2 k r q (some d) ou ov s K=mupd3 k r q d (treeAt d q) ou ov s K:=rfl
theorem mupd3_mp {k r q d e ou ov}:mupd3 k r q d (some (.mp k e)) ou ov s K=mupd4 k r q d e ou ov s K:=by simp [mupd3]
theorem mupd4_some {k r q d e u v}:mupd4 k r q d e (some u) (some v) s K=(keyOK k u=true∧K .undef (s.set r (setAt d q (.mp k (mset e u v))))):=rfl
def mdel4 (k:KK)(r:Nat)(q:Path)(d:D)(e:List (Value×Value))(ou:Option Value)(s:List D)(K:D→List D→Prop):Prop:=match ou with
  | some u=>keyOK k u=true∧K .undef (s.set r (setAt d q (.mp k (mdel e u))))
  | _=>False
def mdel3 (k:KK)(r:Nat)(q:Path)(d:D)(o:Option D)(ou:Option Value)(s:List D)(K:D→List D→Prop):Prop:=match o with
  | some (.mp k' e)=>k'=k∧mdel4 k r q d e ou s K
  | _=>False
def mdel2 (k:KK)(r:Nat)(q:Path)(o:Option D)(ou:Option Value)(s:List D)(K:D→List D→Prop):Prop:=match o with
  | some d=>mdel3 k r q d (treeAt d q) ou s K
  | none=>False
def mdel1 (k:KK)(m:D)(ou:Option Value)(s:List D)(K:D→List D→Prop):Prop:=match m with
  | .ref r q=>mdel2 k r q s[r]? ou s K
  | _=>False
theorem ev_mdel {k m i}:evalK Ctr s (.mdel k m i) K=mdel1 k (lk s m) (toV (lk s i)) s K:=rfl
theorem mdel1_ref {k r q ou}:mdel1 k (.ref r q) ou s K=mdel2 k r q s[r]? ou s K:=rfl
theorem mdel2_some {k r q d ou}:mdel2 k r q (some d) ou s K=mdel3 k r q d (treeAt d q) ou s K:=rfl
theorem mdel3_mp {k r q d e ou}:mdel3 k r q d (some (.mp k e)) ou s K=mdel4 k r q d e ou s K:=by simp [mdel3]
theorem mdel4_some {k r q d e u}:mdel4 k r q d e (some u) s K=(keyOK k u=true∧K .undef (s.set r (setAt d q (.mp k (mdel e u))))):=rfl
def mlk0 (k:KK)(z:Value)(ok:Bool)(ou:Option Value)(m:D)(o:Option (KK×List (Value×Value)))(s:List D)(K:D→List D→Prop):Prop:=match ou with
  | some u=>keyOK k u=true∧mlkK k z ok u m o s K
  | none=>False
theorem ev_mlk {k z ok m i}:evalK Ctr s (.mlk k z ok m i) K=mlk0 k z ok (toV (lk s i)) (lk s m) (mpAt s (lk s m)) s K:=rfl
theorem mlk0_some {k z ok u m o}:mlk0 k z ok (some u) m o s K=(keyOK k u=true∧mlkK k z ok u m o s K):=rfl
def lookK (z:Value)(ok:Bool)(o:Option Value)(s:List D)(K:D→List D→Prop):Prop:=match o with
  | some v=>K (if ok then .tup [ofV v,.v (.bool true)] else ofV v) s
  | none=>K (if ok then .tup [ofV z,.v (.bool false)] else ofV z) s
theorem mlk_some {k z ok u m e}:mlkK k z ok u m (some (k,e)) s K=lookK z ok (mget e u) s K:=by unfold mlkK lookK;simp only [true_and];cases mget e u<;>rfl
theorem mlk_nil {k z ok u}:mlkK k z ok u (.v (.map none)) none s K=lookK z ok none s K:=rfl
theorem look_sf {z v}:lookK z false (some v) s K=K (ofV v) s:=rfl
theorem look_st {z v}:lookK z true (some v) s K=K (.tup [ofV v,.v (.bool true)]) s:=rfl
theorem look_nf {z}:lookK z false none s K=K (ofV z) s:=rfl
theorem look_nt {z}:lookK z true none s K=K (.tup [ofV z,.v (.bool false)]) s:=rfl
def mlen2 (m:D) (o:Option (KK×List (Value×Value))) (s:List D) (K:D→List D→Prop):Prop:=match o with
  | some (k,e)=>mlenK k (K (.v (.int .i64 (e.length:Int))) s)
  | none=>match m with
    | .v (.map none)=>K (.v (.int .i64 0)) s
    | _=>False
theorem ev_mlen {m}:evalK Ctr s (.mlen m) K=mlen2 (lk s m) (mpAt s (lk s m)) s K:=rfl
theorem mlen2_some {m k e}:mlen2 m (some (k,e)) s K=mlenK k (K (.v (.int .i64 (e.length:Int))) s):=rfl
theorem mlenK_str {p}:mlenK .str p=p:=rfl
theorem mlenK_bool {p}:mlenK .bool p=p:=rfl
theorem mlenK_int {k p}:mlenK (.int k) p=p:=rfl
theorem mlenK_flat {ks p}:mlenK (.flat ks) p=p:=rfl
theorem mpAt_imp {k e}:mpAt s (.imp k e)=some (k,e):=rfl
def mpG:Option D→Option (KK×List (Value×Value))
  | some (.mp k e)=>some (k,e)
  | _=>none
def mpF (q:Path):Option D→Option (KK×List (Value×Value))
  | some d=>mpG (treeAt d q)
  | none=>none
theorem mpAt_ref {r q}:mpAt s (.ref r q)=mpF q s[r]?:=by unfold mpAt mpF mpG;rfl
theorem mpF_some {q d}:mpF q (some d)=mpG (treeAt d q):=rfl
theorem mpG_mp {k e}:mpG (some (.mp k e))=some (k,e):=rfl
theorem mpAt_v {x}:mpAt s (.v x)=none:=rfl
theorem toV_v {x}:toV (.v x)=some x:=rfl
theorem toV_nils:toV .nils=some (.slice none 0 0):=rfl
theorem toV_agg {cs}:toV (.agg cs)=(plainC cs).map fun vs=>.agg ⟨vs⟩:=rfl
theorem plain_nil:plainC []=some []:=rfl
theorem plain_int {k n ds}:plainC (.v (.int k n)::ds)=(plainC ds).map (.int k n::·):=rfl
theorem plain_str {b ds}:plainC (.v (.string b)::ds)=(plainC ds).map (.string b::·):=rfl
theorem plain_bool {b ds}:plainC (.v (.bool b)::ds)=(plainC ds).map (.bool b::·):=rfl
theorem keyOK_str {b}:keyOK .str (.string b)=true:=rfl
theorem keyOK_bool {b}:keyOK .bool (.bool b)=true:=rfl
theorem keyOK_int {k n}:keyOK (.int k) (.int k n)=true:=by simp [keyOK]
theorem keyOK_flat {ks cs}:keyOK (.flat ks) (.agg ⟨cs⟩)=kindsV ks cs:=rfl
theorem kV_nil:kindsV [] []=true:=rfl
theorem kV_b {ks b vs}:kindsV (0::ks) (.bool b::vs)=kindsV ks vs:=rfl
theorem kV_i {ks n vs}:kindsV (1::ks) (.int .i64 n::vs)=kindsV ks vs:=rfl
theorem kV_s {ks b vs}:kindsV (2::ks) (.string b::vs)=kindsV ks vs:=rfl
end
attribute [go_sem ↓] tree_done tree_h tree_one tree_br tree_oneG tree_brG contT_some contT_none wp_draw' wp_drawB' drawEndB_app wp_drawW' head_nil head_cons head_guard drawE_eq headC_app mid_app placeC_app drawEnd_app ev_appN ev_bslN ev_extN wp_ops' wp_seq' wp_skip' wp_ret' wp_exit' wp_block' wp_cond' then_n then_r
  then_e block_n block_r block_e ops_nil ops_cons ops_guard cont_app put_some put_none ev_mvt ev_mvc ev_mvf ev_asg ev_nilc ev_pick ev_bin ev_binB ev_un ev_conv ev_alloc ev_box ev_build ev_bsl ev_load ev_store ev_fa
  ev_fld ev_ia ev_iaa ev_ixs ev_ixa ev_slcS ev_slc ev_ext ev_len ev_lenS ev_mm ev_app ev_appS appS1_app appS2_s ev_mkf ev_mks ev_eqs ev_b2s ev_isnil ev_mkm ev_mupd ev_mdel ev_mlk ev_mlen
attribute [go_sem] gt_tt gt_ff gt_tf gt_ft gt_skip mvF_tup mvF_own mvF_imm mvF_box mvF_mp mvF_imp mvF_v mvF_nils mvF_undef mvF_ref mvF_sub mvF_ptr mvF_iptr mvF_agg mvF_fn boxesS_nil boxesS_cons boxesZ_nil boxesZ_cons boxS_eq boxZ_eq boxSF_box boxZF_box guard_tt guard_ff guard_tf guard_ft guard_skip cond_t cond_f lk_tmp lkT_eq lk_const lk_func lkF_own lkF_imm lkF_box lkF_mp lkF_imp lkF_v lkF_nils lkF_undef lkF_ref lkF_ptr lkF_iptr lkF_agg lkF_fn raw_tmp raw_const
  raw_func rawF tk_tmp tkT_eq tk_const tk_func tkF_own tkF_imm tkF_box tkF_mp tkF_imp tkF_v tkF_nils tkF_undef tkF_ref tkF_ptr tkF_iptr tkF_agg tkF_tup tkF_fn tkL_nil tkL_cons putD_eq putF_own putF_box putF_mp putF_imp putF_imm putF_v
  putF_nils putF_undef putF_ref putF_ptr putF_iptr putF_agg putF_tup putF_fn pairK_mk nilc_ptr nilc_iptr nilc_fn pick_b pick_t pick_f bin_add bin_sub bin_mul bin_quo bin_rem bin_eql bin_neq bin_lss
  bin_leq bin_gtr bin_geq bin_shl bin_shr bin_and bin_or bin_sadd bin_seql bin_sneq bin_slss binB_eq binB_ne un_not un_neg conv_int box_mk build_mk build2_some bsl_mk chunk_app cons_app resS_app res_nil
  res_ref res_sub res_subI res_sub0 subK_sl res_undef res_nils res_v res_sl steal_eq stealG_some stealF_some load_ptr load_iptr load2_some end_app row_app store_mk store2_ptr store3_t store3_n rowN_app selfK_f selfK_t rowBX_app selfS store3_f setC_eq setC1_some setC2_some setC3_f
  setC3_t bK_all bK_thr setB_nil setB_cons rK_app setR_nil setR_cons isBox_eq isBoxF_box isBoxF_sl rowAt_eq rowF_box rowF_sl fa_ptr fa_iptr fld_agg ia_ref ia_sl ia2_some slAt_ref slAt_sl slAt_nils
  slF_sl iaa_ptr iaa_iptr ixs_s ixa_agg slcS_s slc_sl slc_ref slc_sub' slcR_some slcB_some sizeS_sl sizeS_sub sizeS_ref sizeF_some slAt_sub sub1_some add2_sub lkF_sub tkF_sub putF_sub keepQ_sub opt_none opt_some ext_tup ext2_some len_some lenS_s mm_max mm_min app3_app app2_app grow3_sl grow_eq grow2_sl grow2_nils grow2_ref add3_some add_eq
  add2_own add2_imm add2_nils add2_ref mks_int ofV ofC D.owny ownyL D.prune pruneL notRoot keepB List.isEmpty_nil List.isEmpty_cons notThrough aliveQ D.cont treeAt setAt D.withCont D.cells D.okCells D.leaf refsOK notThr mkAgg cpyL chunk sizeD
  fillB splice gd_tt gd_ff gd_tf gd_ft gd_skip drawC_nil drawC_cons setO_some' setO_none' prO_none' prO_some' clr_eq clrL_nil clrL_t clrL_f clrL_e keepQ_ref keepQ_ptr getD_z getD_s getD_e place4_app
  place3_app place_eq place2_ref hole_eq holeF_some growN_eq growN2_sl growN2_nils bslN_mk noRefs extN_tup extN2_some end_ret end_n rvs_nil rvs_cons rvN_app rcons_app leK_app one_1 one_0 one_2 rv_t
  rv2_mk rv_c rv3_box resolve_agg resolve_v resolve_nils resolve_undef resolve_sl resolve_ref resolve_mp resolve_iptr resolve_ptr resP_box boxRK_app refNot reb_mp res_mp res_iptr stealF_mp le_mp' le_box' endX_ret endX_n endG_ret endG_n leG_app endP_ret endP_n rvP1_box endKK_ret endKK_n putO_sub putO_v putO_undef putO_nils putO_sl putO_mp putO_imp putO_iptr putO_agg putO_tup putO_box putO_fn putO_ref putO_ptr putO_subp leK2_app outKF_fn ownF_box ev_mkif mkifF_box leX_app outF_box rebK_app reb_agg reb_v reb_nils reb_undef reb_sl reb_ref reb_iptr le_undef' le_v' le_nils' le_nilsl le_sl' le_agg' le_tup' le_fn' leL_nil' leL_cons' eqs_agg
  mupd1_ref mupd2_some mupd3_mp mupd4_some mdel1_ref mdel2_some mdel3_mp mdel4_some mlk0_some mlk_some mlk_nil look_sf look_st look_nf look_nt mlen2_some mlenK_str mlenK_bool mlenK_int mlenK_flat e0_str e0_bool e0_int e0_flat e0_bld mpAt_imp mpAt_ref mpF_some mpG_mp mpAt_v toV_v toV_nils toV_agg plain_nil plain_int plain_str plain_bool keyOK_str keyOK_bool keyOK_int keyOK_flat kV_nil kV_b kV_i kV_s Option.map_some
  eqs2_f eqs2_t eqc_nil eqc_int eqc_str eqc_bool kok_nil kok_b kok_i kok_s b2s_mk isnil_nils
end Go.V
namespace Go.V
open Go.RowKit
mutual
theorem D.le_rfl:∀ d:D,d.le d
  | .undef=>by simp [D.le]
  | .nils=>by simp [D.le]
  | .v _=>by simp [D.le]
  | .sl _ _ _=>by simp [D.le]
  | .agg cs=>by simp only [D.le];exact leL_rfl cs
  | .tup cs=>by simp only [D.le];exact leL_rfl cs
  | .ref _ _=>by simp [D.le]
  | .ptr _ _ _ _=>by simp [D.le]
  | .sub _ _ _ _=>by simp [D.le]
  | .iptr cs _=>by simp only [D.le];exact ⟨0,by omega,by rw [List.drop_zero,List.take_length];exact leL_rfl cs⟩
  | .box _ _=>by simp [D.le]
  | .mp _ _=>by simp [D.le]
  | .imp _ _=>by simp [D.le]
  | .fn _ a b=>by simp only [D.le];exact ⟨trivial,leL_rfl a,leL_rfl b⟩
theorem leL_rfl:∀ ds:List D,leL ds ds
  | []=>by simp [leL]
  | d::ds=>by simp only [leL];exact ⟨D.le_rfl d,leL_rfl ds⟩
end
theorem leL_of_eq {ds es:List D}(h:ds=es):leL ds es:=h▸leL_rfl ds
theorem leL_cons {d e:D}{ds es:List D}(h1:d.le e)(h2:leL ds es):leL (d::ds) (e::es):=by simp only [leL];exact ⟨h1,h2⟩
theorem leL_nil:leL [] []:=by simp [leL]
theorem le_of_eq {d e:D}(h:d=e):d.le e:=h▸D.le_rfl d
theorem le_agg {cs ds:List D}(h:leL cs ds):(D.agg cs).le (.agg ds):=by simp only [D.le];exact h
theorem leL_len:∀ {cs ds:List D},leL cs ds→cs.length=ds.length
  | [],[],_=>rfl
  | [],_::_,h=>by simp [leL] at h
  | _::_,[],h=>by simp [leL] at h
  | c::cs,d::ds,h=>by simp only [leL] at h;simp [leL_len h.2]
theorem le_iptr {cs ds:List D}{j:Nat}(h:leL cs ds):(D.iptr cs j).le (.iptr ds j):=by simp only [D.le];exact ⟨0,by omega,by rw [List.drop_zero,← leL_len h,List.take_length];exact h⟩
theorem le_iptrN {cs ds:List D}{i:Nat}(h:leL ((cs.drop i).take ds.length) ds):(D.iptr cs i).le (.iptr ds 0):=by simp only [D.le];exact ⟨i,by omega,h⟩
theorem le_fn {f:FuncId}{a b c d:List D}(h1:leL a c)(h2:leL b d):(D.fn f a b).le (.fn f c d):=by simp only [D.le];exact ⟨trivial,h1,h2⟩
theorem le_slf {d:D}{z:Nat}{rows rows':List (List D)}(h:d=.sl false z (immLL rows))(h2:immLL rows=rows'):d.le (.sl false z rows'):=by rw [h,h2];exact D.le_rfl _
theorem immL_app:∀ xs ys:List D,immL (xs++ys)=immL xs++immL ys
  | [],_=>rfl
  | x::xs,ys=>by simp only [List.cons_append,immL,immL_app xs ys]
theorem le_nilsl_ {o z}:D.nils.le (.sl o z []):=by simp [D.le]
theorem immLL_map {α:Type}{f g:α→List D}(h:∀ x,immL (f x)=g x):∀ xs:List α,immLL (xs.map f)=xs.map g
  | []=>by simp [immLL]
  | x::xs=>by simp only [List.map_cons,immLL,h,immLL_map h xs]
section
variable {P:Program} {G:World→(Nat→Prop)→Prop} {s:List D} {K:D→List D→Prop} {Q:VExit→List D→Prop}
theorem call_le {f:FuncId}{args:List Operand}{args':List D}{d:D}(hC:Contract P G f args' d)(he:leL (args.map fun x=>deep s 8 (raw s x)) args')(hi:d.noImm=true∨((args.map fun x=>raw s x).all D.noRef)=true)(hK:K d s):evalK (CT P G) s (.callX f args) K :=
  .inl ⟨args',d,he,hC,hi,hK⟩
theorem callv_le {x:Operand}{f:FuncId}{first caps:List D}{args:List Operand}{args':List D}{d:D}(hx:lk s x=.fn f first caps)(hC:Contract P G f args' d)(he:leL ((first++args.map (fun x=>raw s x)++caps).map (deep s 8)) args')(hi:d.noImm=true∨(first++args.map (fun x=>raw s x)++caps).all D.noRef=true)(hK:K d s):evalK (CT P G) s (.callvX x args) K:=by simp only [evalK,hx];exact .inl ⟨args',d,he,hC,hi,hK⟩
theorem call_io {f:FuncId}{args:List Operand}{i r:Nat}{tag:Option Nat}{cells args' cells0:List D}{d:D}{cells':List D}(hC:ContractX P G f i args' cells0 d cells')(hi:(args.map fun x=>raw s x)[i]?=some (.ptr r [] 0 0))(hs:s[r]?=some (.box tag cells))
    (hle:leL (((args.map fun x=>raw s x).map (D.prune (notRoot r))).map (deep ((pruneL (notRoot r) s).set r .undef) 8)) args') (hlc:leL (pruneL (fun _=>false) cells) cells0) (hn:(d.noImm=true∧noImmL cells'=true)∨((args.map fun x=>raw s x).map (D.prune (notRoot r))).all D.noRef=true) (hK:K d ((pruneL (keepB r) s).set r (.box tag cells'))):evalK (CT P G) s (.callX f args) K :=
  .inr (.inl ⟨i,r,tag,cells,args',cells0,hi,hs,hle,hlc,fun b _=>⟨d,cells',tag,.inl rfl,hC.at b,hn,hK⟩⟩)
theorem call_lend {f:FuncId}{args:List Operand}{i r:Nat}{x:Operand}{d0 d' dnew res:D}{args':List D}(fr:Bool)(hC:ContractL P G f i args' d0 res d')(hx:args[i]?=some x)(hl:lendP s r x fr d0 d' dnew d')(ho:((args.map fun x=>raw s x).set i .undef).all (fun u=>!u.owny)=true)
    (hle:leL ((((args.map fun x=>raw s x).set i .undef).map (D.prune (notRoot r))).map (deep ((pruneL (notRoot r) s).set r .undef) 8)) args') (hn:(fr=false∧res.noImm=true∧d'.noImm=true)∨(fr=true∧(((args.map fun x=>raw s x).set i .undef).map (D.prune (notRoot r))).all D.noRef=true)) (hK:K res ((pruneL (notRoot r) s).set r dnew)):evalK (CT P G) s (.callX f args) K :=
  .inr (.inr (.inl ⟨i,r,x,fr,d0,d',dnew,d',res,args',hx,hl,.inr ho,hle,hC,hn,.inl hK⟩))
theorem call_lendN {f:FuncId}{args:List Operand}{i r:Nat}{x:Operand}{tag tg:Option Nat}{cs cells0 cells':List D}{res:D}{args' A:List D}(hC:ContractX P G f i args' cells0 res cells')(hx:args[i]?=some x)(hs:s[r]?=some (.box tag [.box tg cs]))(hlk:lk s x=.ptr r [(0,0)] 0 0)(h0:pruneL (fun _=>false) cs=cells0)
    (hA:(((args.map fun x=>raw s x).set i .undef).map (D.prune (notRoot r))).map (deep ((pruneL (notRoot r) s).set r .undef) 8)=A) (hle:leL A args') (hn:(((args.map fun x=>raw s x).set i .undef).map (D.prune (notRoot r))).all D.noRef=true) (hK:K res ((pruneL (keepB r) s).set r (.box tag [.box tg cells']))):evalK (CT P G) s (.callX f args) K:=by
  refine .inr (.inr (.inl ⟨i,r,x,true,.box none cells0,.box none cells',.box tag [.box tg cells'],.box tg cells',res,args',hx,?_,.inl ⟨_,hs,rfl⟩,hA▸hle,hC.lend,.inr ⟨rfl,hn⟩,.inr ⟨⟨_,hs,rfl⟩,rfl,hK⟩⟩));unfold lendP;rw [hs];exact .inr (.inr (.inr (.inr (.inr (.inl ⟨tag,tg,cs,cells',hlk,rfl,by rw [h0],rfl,rfl,rfl⟩)))))
theorem call_each {f F:FuncId}{x y:Operand}{caps caps' c2 C C0 C':List D}{c0:D}{r t b j:Nat}{tg:Option Nat}{res:Value}(hC:ContractL P G f 1 [.v (.pointer (some ⟨b,j,none⟩)),.undef] (.fn F [] (.box none [.box (some b) C0]::caps')) (.v res) (.fn F [] (.box none [.box (some b) C']::caps')))
    (hx:lk s x=.ptr t [] 0 j) (hy:lk s y=.fn F [] (.ptr r [] 0 0::caps)) (hne:r≠t) (hr:s[r]?=some (.box tg [.ptr t [] 0 0])) (ht:s[t]?=some (.box (some b) C)) (hd:deep (gone2 r t s) 8 (lk (gone2 r t s) y)=.fn F [] (c0::c2)) (hle:leL c2 caps') (h0:pruneL (fun _=>false) C=C0)
    (hK:K (.v res) ((List.replicate s.length .undef).set t (.box (some b) C'))):evalK (CT P G) s (.callX f [x,y]) K:=by
  subst h0;exact .inr (.inr (.inr (.inr (.inr (.inr (.inr (.inr ⟨x,y,F,caps,caps',r,t,[],tg,b,j,C,C',res,c0,c2,rfl,hx,hy,.inl ⟨rfl,hne,hr,ht⟩,hd,hle,hC,hK⟩)))))))
theorem call_eachN {f F:FuncId}{x y:Operand}{caps caps' c2 C C0 C':List D}{c0:D}{r b j:Nat}{tg:Option Nat}{res:Value}(hC:ContractL P G f 1 [.v (.pointer (some ⟨b,j,none⟩)),.undef] (.fn F [] (.box none [.box (some b) C0]::caps')) (.v res) (.fn F [] (.box none [.box (some b) C']::caps')))
    (hx:lk s x=.ptr r [(0,0)] 0 j) (hy:lk s y=.fn F [] (.ptr r [] 0 0::caps)) (hr:s[r]?=some (.box tg [.box (some b) C])) (hd:deep (gone2 r r s) 8 (lk (gone2 r r s) y)=.fn F [] (c0::c2)) (hle:leL c2 caps') (h0:pruneL (fun _=>false) C=C0)
    (hK:K (.v res) ((List.replicate s.length .undef).set r (.box tg [.box (some b) C']))):evalK (CT P G) s (.callX f [x,y]) K:=by
  subst h0;exact .inr (.inr (.inr (.inr (.inr (.inr (.inr (.inr ⟨x,y,F,caps,caps',r,r,[(0,0)],tg,b,j,C,C',res,c0,c2,rfl,hx,hy,.inr ⟨rfl,rfl,hr⟩,hd,hle,hC,hK⟩)))))))
theorem call_ioA {f:FuncId}{args:List Operand}{i r:Nat}{tag:Option Nat}{cells A args' cells0:List D}{d:D}{cells':List D}(hC:ContractX P G f i args' cells0 d cells')(hi:(args.map fun x=>raw s x)[i]?=some (.ptr r [] 0 0))(hs:s[r]?=some (.box tag cells))
    (hA:((args.map fun x=>raw s x).map (D.prune (notRoot r))).map (deep ((pruneL (notRoot r) s).set r .undef) 8)=A) (hle:leL A args') (hlc:leL (pruneL (fun _=>false) cells) cells0) (hn:(d.noImm=true∧noImmL cells'=true)∨((args.map fun x=>raw s x).map (D.prune (notRoot r))).all D.noRef=true) (hK:K d ((pruneL (keepB r) s).set r (.box tag cells'))):evalK (CT P G) s (.callX f args) K :=
  call_io hC hi hs (hA▸hle) hlc hn hK
theorem call_markB {f:FuncId}{r:Nat}{x y:Operand}{tag:Option Nat}{cells cells':List D}{k:Value}{res:D}(hC:ContractL P G f 0 [.undef,.v k] (.agg cells) res (.agg cells'))(hs:s[r]?=some (.box tag cells))(hx:lk s x=.agg (cpyL r [] 0 0 cells))(hy:raw s y=.v k)(he:exactL cells=true)(hK:K res ((pruneL (notRoot r) s).set r (.box tag cells'))):evalK (CT P G) s (.callX f [x,y]) K :=
  call_lend (x:=x) true hC rfl (by unfold lendP;rw [hs];exact .inr (.inl ⟨rfl,tag,cells,cells',rfl,hx,he,rfl,rfl,rfl⟩)) (by simp [hy,D.owny]) (by simp [hy,D.prune,deep,leL,D.le]) (.inr ⟨rfl,by simp [hy,D.prune,D.noRef]⟩) hK
theorem Contract.imm {f:FuncId}{args:List D}{d:D}(h:Contract P G f args d):Contract P G f args d.imm:=by refine ⟨h.1,fun w I us hG hI hV=>(h.2 w I us hG hI hV).mono ?_⟩;rintro e w' ⟨v,F,I',he,hb,hT,hn,hF,hI1,hI2⟩;exact ⟨v,[],fun b=>I' b∨b∈F,he,hb,T.imm (fun b h=>.inl h) d hT (fun b hb=>.inr hb),List.nodup_nil,fun b hb=>(List.not_mem_nil hb).elim,fun b hb=>.inl (hI1 b hb),fun b hb=>hb.elim (hI2 b) (fun h=>⟨.inr (hF b h).1,(hF b h).2.1⟩)⟩
theorem call_leN {f:FuncId}{args:List Operand}{args':List D}{d:D}(hC:Contract P G f args' d)(he:leL (args.map fun x=>deep s 8 (raw s x)) args')(hi:d.noImm=true∨((args.map fun x=>raw s x).all D.noRef)=true)(hK:K d s):evalK (CT P G) s (.call f args) K :=
  .inl ⟨args',d,he,hC,hi,hK⟩
def row3 (x:Value×Value×Value):List D:=[.v x.1,.v x.2.1,.v x.2.2]
theorem loop_st {α:Type}{Ctr:CtrT}{mask:List Bool}{c:VCode}(st:α→List D)(J:α→Prop)(μ:α→Nat)(a:α)(h0:nleL (clr mask s) (st a))(hJ:J a)(h:∀ a,J a→c.wp Ctr (vthen (fun s''=>∃ b,μ b<μ a∧J b∧nleL (clr mask s'') (st b)) Q) (st a)):(VCode.loop mask c).wp Ctr Q s:=by
  refine loop_intro (fun n s=>∃ a,μ a=n∧J a∧s=st a) (μ a) ⟨_,h0,a,rfl,hJ,rfl⟩ ?_;rintro n s' ⟨b,rfl,hb,rfl⟩;have e:(fun s''=>∃ m,m<μ b∧∃ s1,nleL (clr mask s'') s1∧∃ a,μ a=m∧J a∧s1=st a)=(fun s''=>∃ a,μ a<μ b∧J a∧nleL (clr mask s'') (st a)):=by funext s'';exact propext ⟨fun ⟨m,h1,s1,h2,a,h3,h4,h5⟩=>⟨a,by omega,h4,h5▸h2⟩,fun ⟨a,h1,h2,h3⟩=>⟨μ a,h1,_,h3,a,rfl,h2,rfl⟩⟩
  rw [e];exact h b hb
theorem wrN {i:Nat}(h:i+1<9223372036854775808):IntKind.i64.wrap ((i:Int)+1)=((i+1:Nat):Int):=IntWalk.i64_in _ (by omega)
theorem wrI {a:Int}(h1 : -9223372036854775808≤a)(h2:a≤9223372036854775807):IntKind.i64.wrap a=a:=IntWalk.i64_in _ (by omega)
end
def slG:Option D→Option (Nat×List (List D))
  | some (.sl true sz rows)=>some (sz,rows)
  | _=>none
theorem slF_tree {q:Path}{d:D}:slF q (some d)=slG (treeAt d q):=by unfold slF slG;rfl
theorem slG_sl {sz rows}:slG (some (.sl true sz rows))=some (sz,rows):=rfl
def isBoxG:Option D→Bool
  | some (.box _ _)=>true
  | _=>false
theorem isBoxF_tree {q:Path}{d:D}:isBoxF q (some d)=isBoxG (treeAt d q):=by unfold isBoxF isBoxG;rfl
theorem isBoxG_sl {o sz rows}:isBoxG (some (.sl o sz rows))=false:=rfl
theorem isBoxG_box {g cs}:isBoxG (some (.box g cs))=true:=rfl
def rowH (i:Nat):Option (Nat×List (List D))→Option (List D)
  | some (_,rows)=>rows[i]?
  | none=>none
def rowG (i:Nat):Option D→Option (List D)
  | some t=>rowH i t.cont
  | none=>none
theorem rowF_tree {q:Path}{i:Nat}{d:D}:rowF q i (some d)=rowG i (treeAt d q):=by unfold rowF rowG rowH;rfl
theorem rowG_some {i:Nat}{t:D}:rowG i (some t)=rowH i t.cont:=rfl
theorem rowH_some {i:Nat}{n rows}:rowH i (some (n,rows))=rows[i]?:=rfl
theorem pair_beq {a b c d:Nat}:((a,b)==(c,d))=(a==c&&b==d):=rfl
attribute [go_sem] pair_beq slF_tree slG_sl isBoxF_tree isBoxG_sl isBoxG_box rowF_tree rowG_some rowH_some
end Go.V
namespace Go.V
open Go.RowKit
set_option autoImplicit false
def ovr (s:List D):List (Nat×D)→List D
  | []=>s
  | p::r=>ovr (s.set p.1 p.2) r
theorem ovr_nil {s:List D}:ovr s []=s:=rfl
theorem ovr_cons {s:List D}{i:Nat}{d:D}{r:List (Nat×D)}:ovr s ((i,d)::r)=ovr (s.set i d) r:=rfl
theorem loop_ov {α:Type}{Ctr:CtrT}{mask:List Bool}{c:VCode}{Q:VExit→List D→Prop}{s s0:List D}{st:α→List D}(hs:clr mask s=s0)(ov:α→List (Nat×D))(hst:∀ a,ovr s0 (ov a)=st a)(J:α→Prop)(μ:α→Nat)(a:α)(h0:nleL s0 (st a))(hJ:J a)
    (h:∀ a,J a→c.wp Ctr (vthen (fun s''=>∃ b,μ b<μ a∧J b∧nleL (clr mask s'') (st b)) Q) (st a)):(VCode.loop mask c).wp Ctr Q s :=
  loop_st st J μ a (hs▸h0) hJ h
theorem nleL_cc {a b:D}{xs ys:List D}:nleL (a::xs) (b::ys)=(nle a b∧nleL xs ys) :=
  propext ⟨fun h=>by simp only [nleL] at h;obtain ⟨e,es,h1,h2,h3⟩:=h;simp only [List.cons.injEq] at h1;obtain ⟨rfl,rfl⟩:=h1;exact ⟨h2,h3⟩,fun h=>nleL_cons h.1 h.2⟩
theorem nleL_nn:nleL [] []=True:=eq_true nleL_nil
theorem nle_self {d:D}:nle d d=True:=eq_true (nle_rfl d)
theorem nle_boxs {t:Option Nat}{cs es:List D}:nle (.box t cs) (.box t es)=nleL cs es :=
  propext ⟨fun h=>by simp only [nle] at h;obtain ⟨e,h1,h2⟩:=h;simp only [D.box.injEq,true_and] at h1;exact h1▸h2,nle_box⟩
theorem nle_aggs {cs es:List D}:nle (.agg cs) (.agg es)=nleL cs es :=
  propext ⟨fun h=>by simp only [nle] at h;obtain ⟨e,h1,h2⟩:=h;simp only [D.agg.injEq] at h1;exact h1▸h2,nle_agg⟩
theorem nle_nils {sz:Nat}:nle .nils (.sl true sz [])=True:=eq_true nle_nil
section
variable {P:Program} {G:World→(Nat→Prop)→Prop} {s:List D} {K:D→List D→Prop}
theorem call_leA {f:FuncId}{args:List Operand}{A args':List D}{d:D}(hC:Contract P G f args' d)(hA:(args.map fun x=>deep s 8 (raw s x))=A)(he:leL A args')(hi:d.noImm=true∨((args.map fun x=>raw s x).all D.noRef)=true)(hK:K d s):evalK (CT P G) s (.callX f args) K :=
  call_le hC (hA▸he) hi hK
theorem call_leNA {f:FuncId}{args:List Operand}{A args':List D}{d:D}(hC:Contract P G f args' d)(hA:(args.map fun x=>deep s 8 (raw s x))=A)(he:leL A args')(hi:d.noImm=true∨((args.map fun x=>raw s x).all D.noRef)=true)(hK:K d s):evalK (CT P G) s (.call f args) K :=
  call_leN hC (hA▸he) hi hK
end
section
variable {Ctr:CtrT} {m:List Bool} {next:List D→Prop} {Q:VExit→List D→Prop} {s:List D}
theorem round_n:roundQ m next Q .normal s=∃ s1,nleL (clr m s) s1∧next s1:=rfl
theorem round_r:roundQ m next Q .ret s=Q .ret (clr m s):=rfl
theorem round_e {i}:roundQ m next Q (.exit i) s=Q (.exit i) (clr m s):=rfl
theorem putMany_nil {ds:List D}:putMany s [] ds=s:=by cases ds<;>rfl
theorem putMany_cons {p ps d ds}:putMany s (p::ps) (d::ds)=putMany (putD s p d) ps ds:=rfl
end
attribute [go_sem] round_n round_r round_e putMany_nil putMany_cons
end Go.V
