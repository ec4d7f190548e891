/- Laws that the proof stands on. -/
import Derived.Test.YteaicicfbpehbaaGreatDoorZg16
set_option linter.all false
namespace Go.Proofs.YteaicicfbpehbaaGreatDoor
open Go.RowKit Go.V
set_option maxRecDepth 100000
def yQ6 (c:UInt8):Bool:=decide (48≤c.toNat)&&decide (c.toNat≤57)
theorem yIj {k:Nat} (h:k < 10):yQ6 (UInt8.ofNat (48+k))=true:=by
  unfold yQ6;have:(UInt8.ofNat (48+k)).toNat=48+k:=by simp;omega
  rw [this];simp;omega
theorem zQd (u:Nat):∀ c,c∈Lib.decDigits u→yQ6 c=true:=by
  induction u using Nat.strongRecOn with
  | _ u ih =>
    intro c hc;rw [Lib.decDigits] at hc;by_cases h:u < 10
    · rw [dif_pos h,List.mem_singleton] at hc;rw [hc];exact yIj h
    · rw [dif_neg h,List.mem_append,List.mem_singleton] at hc;rcases hc with hc | hc
      · exact ih _ (by omega) c hc
      · rw [hc];exact yIj (by omega)
theorem zSc (u:Nat):Lib.decDigits u≠[]:=by rw [Lib.decDigits];split <;> simp
theorem zT4 {a b:Nat} (ha:a < 10) (hb:b < 10) (h:UInt8.ofNat (48+a)=UInt8.ofNat (48+b)):a=b:=by have h1:(UInt8.ofNat (48+a)).toNat=48+a:=(by simp;omega);have h2:(UInt8.ofNat (48+b)).toNat=48+b:=(by simp;omega);have:=congrArg UInt8.toNat h;omega
theorem yNn (u:Nat):∀ v,Lib.decDigits u=Lib.decDigits v→u=v:=by
  induction u using Nat.strongRecOn with
  | _ u ih =>
    intro v h;rw [Lib.decDigits.eq_def u,Lib.decDigits.eq_def v] at h;by_cases h1:u < 10
    · by_cases h2:v < 10
      · rw [dif_pos h1,dif_pos h2] at h;exact zT4 h1 h2 (List.cons.inj h).1
      · rw [dif_pos h1,dif_neg h2] at h;have hl:=congrArg List.length h;have:=List.length_pos_iff.2 (zSc (v / 10));simp at hl;exact absurd hl (zSc _)
    · by_cases h2:v < 10
      · rw [dif_neg h1,dif_pos h2] at h;have hl:=congrArg List.length h;simp at hl;exact absurd hl (zSc _)
      · rw [dif_neg h1,dif_neg h2] at h;obtain ⟨e1,e2⟩:=List.append_inj' h (by simp);have:=ih (u / 10) (by omega) _ e1;have:=zT4 (by omega) (by omega) (List.cons.inj e2).1;omega
theorem zMb {α:Type} {p:α→Bool}:∀ {a b:List α},(∀ c,c∈a→p c=true)→(∀ c r,b=c::r→p c=false)→(a++b).takeWhile p=a
  | [],[],_,_=>rfl
  | [],c::r,_,h=>by simp [List.takeWhile,h c r rfl]
  | x::a,b,h1,h2=>by rw [List.cons_append,List.takeWhile_cons,h1 x (by simp)];show x::(a++b).takeWhile p=_;rw [zMb (fun c hc=>h1 c (List.mem_cons_of_mem _ hc)) h2]
theorem zSk {α:Type} {p:α→Bool} {a a' b b':List α} (h1:∀ c,c∈a→p c=true) (h1':∀ c,c∈a'→p c=true) (h2:∀ c r,b=c::r→p c=false) (h2':∀ c r,b'=c::r→p c=false) (h:a++b=a'++b'):a=a'∧b=b':=by have e:a=a':=(by rw [← zMb (p:=p) h1 h2,← zMb (p:=p) h1' h2',h]);subst e;exact ⟨rfl,List.append_cancel_left h⟩
def nmL:List (List UInt8 × Nat)→List UInt8→List UInt8
  | [],t=>t
  | (p,n)::r,t=>p++Lib.decDigits n++nmL r t
def okW (p:List UInt8):Bool:=p.all (fun c=>!yQ6 c)
def yCu:Bool→List (List UInt8 × Nat)→List UInt8→Bool
  | _,[],t=>okW t
  | f,(p,_)::r,t=>okW p&&(f||!p.isEmpty)&&yCu false r t
theorem zMm {p:List UInt8} (h:okW p=true):∀ c,c∈p→(!yQ6 c)=true:=by unfold okW at h;rw [List.all_eq_true] at h;exact h
theorem zUz {r:List (List UInt8 × Nat)} {t:List UInt8} (h:yCu false r t=true):∀ c l,nmL r t=c::l→yQ6 c=false:=by
  intro c l e;cases r with
  | nil=>simp only [nmL] at e;have:=zMm (show okW t=true from h) c (by rw [e];simp);simpa using this
  | cons x r =>
    obtain ⟨p,n⟩:=x;simp only [yCu,Bool.false_or,Bool.and_eq_true] at h;cases p with
    | nil=>simp at h
    | cons y p=>simp only [nmL,List.cons_append,List.cons.injEq] at e;have:=zMm h.1.1 y (by simp);rw [e.1] at this;simpa using this
theorem zK1 (n:Nat) (l:List UInt8):∀ c r,Lib.decDigits n++l=c::r→(!yQ6 c)=false:=by
  intro c r e;cases hd:Lib.decDigits n with
  | nil=>exact absurd hd (zSc n)
  | cons x xs=>rw [hd,List.cons_append,List.cons.injEq] at e;have:=zQd n x (by rw [hd];simp);rw [e.1] at this;simp [this]
theorem yAq {t p l:List UInt8} {n:Nat} (ht:okW t=true) (e:t=p++Lib.decDigits n++l):False:=by
  cases hd:Lib.decDigits n with
  | nil=>exact absurd hd (zSc n)
  | cons x xs=>have h1:=zQd n x (by rw [hd];simp);have h2:=zMm ht x (by rw [e,hd];simp);rw [h1] at h2;cases h2
theorem zTc:∀ (f:Bool) (a b:List (List UInt8 × Nat)) (t u:List UInt8),yCu f a t=true→yCu f b u=true→nmL a t=nmL b u→a=b∧t=u
  | _,[],[],t,u,_,_,h=>⟨rfl,h⟩
  | f,[],(p,n)::r,t,u,h1,_,h=>(yAq (show okW t=true from h1) h).elim
  | f,(p,n)::r,[],t,u,_,h2,h=>(yAq (show okW u=true from h2) h.symm).elim
  | f,(p,n)::r,(p',n')::r',t,u,h1,h2,h=>by simp only [yCu,Bool.and_eq_true] at h1 h2;simp only [nmL,List.append_assoc] at h;obtain ⟨e1,h⟩:=zSk (p:=fun c=>!yQ6 c) (zMm h1.1.1) (zMm h2.1.1) (zK1 n _) (zK1 n' _) h;obtain ⟨e2,h⟩:=zSk (p:=yQ6) (zQd n) (zQd n') (zUz h1.2) (zUz h2.2) h;obtain ⟨e3,e4⟩:=zTc false r r' t u h1.2 h2.2 h;rw [e1,yNn n n' e2,e3];exact ⟨rfl,e4⟩
def nm (k:List (List UInt8 × Nat)) (t:List UInt8):ByteArray:=⟨⟨nmL k t⟩⟩
theorem yQb {a b:List (List UInt8 × Nat)} {t u:List UInt8} (h1:yCu true a t=true) (h2:yCu true b u=true):nm a t=nm b u↔a=b∧t=u:=by
  constructor
  · intro h;unfold nm at h;have:nmL a t=nmL b u:=by simpa using h
    exact zTc true a b t u h1 h2 this
  · rintro ⟨rfl,rfl⟩;rfl
theorem zQe (n:Nat):zNf (n:Int)=⟨⟨Lib.decDigits n⟩⟩:=by unfold zNf zM3 Lib.itoa;rw [if_neg (by omega)];simp
theorem zTk (a b:List UInt8):(⟨⟨a⟩⟩:ByteArray)++⟨⟨b⟩⟩=⟨⟨a++b⟩⟩:=by apply ByteArray.ext;simp
theorem zG2 (k:List (List UInt8 × Nat)) (t:List UInt8):(nm k t).size=(nmL k t).length:=rfl
def zQf:ByteArray:=⟨⟨[45]⟩⟩
def zG1:ByteArray:=⟨⟨[]⟩⟩
def fresh (G:List Glue) (n:ByteArray):Prop:=∀ g,g∈G→g.Name≠n
def zAy (G:List Glue) (n:ByteArray):Int:=yMn G n+1
structure okM (G:List Glue):Prop where
  nd:(G.map Glue.Name).Nodup
  d:fresh G zQf
  e:fresh G zG1
theorem yK4:okM []:=⟨by simp,(fun g h=>by cases h),(fun g h=>by cases h)⟩
theorem zGc {G:List Glue} {n:ByteArray} {k:Int} (h:okM G) (hf:fresh G n) (hd:n≠zQf) (he:n≠zG1):okM (G++[⟨n,k⟩]):=by
  refine ⟨?_,fun g hg=>?_,fun g hg=>?_⟩
  · rw [List.map_append,List.nodup_append];refine ⟨h.nd,by simp,fun a ha b hb=>?_⟩;obtain ⟨g,hg,rfl⟩:=List.mem_map.1 ha;simp only [List.map_cons,List.map_nil,List.mem_singleton] at hb;rw [hb];exact hf g hg
  · rcases List.mem_append.1 hg with hg | hg
    · exact h.d g hg
    · rw [List.mem_singleton] at hg;rw [hg];exact hd
  · rcases List.mem_append.1 hg with hg | hg
    · exact h.e g hg
    · rw [List.mem_singleton] at hg;rw [hg];exact he
theorem zRr {G:List Glue} {n:ByteArray} (h:fresh G n):yMn G n = -1:=zEv _ G fun j hj=>by have:=h _ (List.getElem_mem hj);simpa using this
theorem zJ8 {G:List Glue} {n:ByteArray} (h:fresh G n):zAy G n=0:=by unfold zAy;rw [zRr h];rfl
theorem zFq {G:List Glue} (h:okM G):zAy G zQf=0:=zJ8 h.d
theorem zEx {G:List Glue} (h:okM G):zAy G zG1=0:=zJ8 h.e
theorem zDp (G:List Glue) (n:ByteArray):0≤zAy G n∧zAy G n≤G.length:=by
  unfold zAy yMn zV5;cases h:G.findIdx? (fun g=>decide (g.Name=n)) with
  | none=>simp only;omega
  | some i=>have:=(List.findIdx?_eq_some_iff_findIdx_eq.1 h).1;simp only;omega
def zUy (G:List Glue):List (Value × Value):=(Value.string zQf,Value.int .i64 0)::G.mapIdx (fun i g=>(Value.string g.Name,Value.int .i64 ((i:Int)+1)))
theorem yAr (G:List Glue) (g:Glue):zUy (G++[g])=zUy G++[(Value.string g.Name,Value.int .i64 ((G.length:Int)+1))]:=by unfold zUy;rw [List.mapIdx_append];simp
theorem yFq {G:List Glue} {n:ByteArray} {k:Int} (hf:fresh G n) (hd:n≠zQf):yAy (zUy G) (.string n) (.int .i64 ((G.length:Int)+1))=zUy (G++[⟨n,k⟩]):=by
  rw [yAr];unfold yAy;have:(zUy G).findIdx? (fun x=>keq (.string n) x.1)=none:=by
    rw [List.findIdx?_eq_none_iff];intro x hx;unfold zUy at hx;rcases List.mem_cons.1 hx with rfl | hx
    · simp only [zPr];exact decide_eq_false (Ne.symm hd)
    · obtain ⟨i,hi,rfl⟩:=List.mem_mapIdx.1 hx;simp only [zPr];exact decide_eq_false (hf _ (List.getElem_mem hi))
  rw [this]
theorem zTw {G:List Glue} {n:ByteArray}:∀ (k:Nat),(G.mapIdx (fun i g=>(Value.string g.Name,Value.int .i64 (((i+k:Nat):Int)+1)))).find? (fun x=>keq (.string n) x.1)=(G.findIdx? (fun g=>decide (g.Name=n))).map fun i=>(Value.string n,Value.int .i64 (((i+k:Nat):Int)+1)):=by
  induction G with
  | nil=>intro k;rfl
  | cons g G ih =>
    intro k;rw [List.mapIdx_cons,List.find?_cons,List.findIdx?_cons];simp only [zPr];by_cases h:g.Name=n
    · simp [h]
    · simp only [h,decide_false];have:=ih (k+1);have e:(fun (i:Nat) (g:Glue)=>(Value.string g.Name,Value.int .i64 (((i+1+k:Nat):Int)+1)))=(fun (i:Nat) (g:Glue)=>(Value.string g.Name,Value.int .i64 (((i+(k+1):Nat):Int)+1))):=by funext i g;rw [show i+1+k=i+(k+1) by omega]
      rw [e,this];cases G.findIdx? (fun g=>decide (g.Name=n)) with
      | none=>simp
      | some i=>simp only [Option.map_some,Bool.false_eq_true,if_false];rw [show i+(k+1)=i+1+k by omega]
theorem yFv {G:List Glue} (h:okM G) (n:ByteArray):yH8 (zUy G) (.string n)=some (.int .i64 (zAy G n))∨(yH8 (zUy G) (.string n)=none∧zAy G n=0):=by
  unfold yH8 zUy;rw [List.find?_cons];simp only [zPr];by_cases hd:zQf=n
  · subst hd;rw [zFq h];simp
  · simp only [hd,decide_false];have:=zTw (G:=G) (n:=n) 0;simp only [Nat.add_zero] at this;rw [this];unfold zAy yMn zV5;cases G.findIdx? (fun g=>decide (g.Name=n)) with
    | none=>exact .inr ⟨rfl,rfl⟩
    | some i=>exact .inl rfl
def mkI (G:List Glue) (T:List Tile):List D:=[.sl true 2 (G.map (Glue.td.d true)),.sl true 2 (T.map (Tile.td.d true)),.mp .str (zUy G)]
def mkS (G:List Glue) (T:List Tile):List D:=[.sl true 2 (G.map (Glue.td.d true)),.sl true 2 (T.map (Tile.td.d true))]
/-! Rows of glues and tiles. -/
theorem zHi {α:Type} (A:List α) (f:Nat→α) (i:Nat):A++(List.range (i+1)).map f=(A++(List.range i).map f)++[f i]:=by rw [List.range_succ,List.map_append,List.append_assoc];rfl
theorem zC7 (n:ByteArray):fresh [] n:=fun g h=>by cases h
theorem zBl {G:List Glue} {a n:ByteArray} {k:Int} (h:fresh G n) (ha:a≠n):fresh (G++[⟨a,k⟩]) n:=fun g hg=>by
  rcases List.mem_append.1 hg with hg | hg
  · exact h g hg
  · rw [List.mem_singleton] at hg;rw [hg];exact ha
theorem zF1 {G:List Glue} {n:ByteArray} {f:Nat→ByteArray} {k:Nat→Int} {i:Nat} (h:fresh G n) (ha:∀ j,j < i→f j≠n):fresh (G++(List.range i).map (fun j=>⟨f j,k j⟩)) n:=fun g hg=>by
  rcases List.mem_append.1 hg with hg | hg
  · exact h g hg
  · obtain ⟨j,hj,rfl⟩:=List.mem_map.1 hg;exact ha j (by simpa using hj)
theorem zTb {G:List Glue} {f:Nat→ByteArray} {k:Nat→Int} (h:okM G) (hf:∀ i,fresh G (f i)) (hi:∀ i j,i < j→f i≠f j) (hd:∀ i,f i≠zQf) (he:∀ i,f i≠zG1):∀ i,okM (G++(List.range i).map (fun j=>⟨f j,k j⟩))
  | 0=>by simpa using h
  | i+1=>by rw [zHi];exact zGc (zTb h hf hi hd he i) (zF1 (hf i) (fun j hj=>hi j i hj)) (hd i) (he i)
def zJi (T:List Tile) (n:ByteArray):Prop:=∀ t,t∈T→t.Name≠n
theorem zXo {T:List Tile} {n:ByteArray} (h:zJi T n):yTi T n = -1:=zEv _ T fun j hj=>by have:=h _ (List.getElem_mem hj);simpa using this
theorem zXn (n:ByteArray):zJi [] n:=fun g h=>by cases h
theorem zF2 {T:List Tile} {n:ByteArray} {f:Nat→ByteArray} {s:Nat→List Int} {i:Nat} (h:zJi T n) (ha:∀ j,j < i→f j≠n):zJi (T++(List.range i).map (fun j=>⟨f j,s j⟩)) n:=fun g hg=>by
  rcases List.mem_append.1 hg with hg | hg
  · exact h g hg
  · obtain ⟨j,hj,rfl⟩:=List.mem_map.1 hg;exact ha j (by simpa using hj)
theorem zDe {a b:List (List UInt8 × Nat)} {t u:List UInt8} (h1:yCu true a t=true) (h2:yCu true b u=true) (h:¬ (a=b∧t=u)):nm a t≠nm b u:=fun e=>h ((yQb h1 h2).1 e)
end Go.Proofs.YteaicicfbpehbaaGreatDoor
