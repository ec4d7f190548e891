/- Laws that the proof stands on. -/
import Derived.Test.YtaleehohmpohoaaZg13
import Derived.Test.YtaleehohmpohoaaZVMeet
set_option linter.all false
namespace Go.Proofs.Ytaleehohmpohoaa
open Go.RowKit Go.V
attribute [local go_sem] xBh xBb xBc xA8 xA6 xBl xBk xBy xBm xC7 xBt xCi xBn xCl xB6 xCg xBi xBp xBw xCn Value.oneCell' xCp xCu xCv xC0 xC1 xBr xB7 and_true true_and beq_self_eq_true xBa if_true if_false xB2 Nat.reduceAdd Nat.reduceMul Nat.reduceLeDiff xBj xB5 xB0 not_true_eq_false not_false_eq_true ne_eq reduceCtorEq xCf bne_self_eq_false Nat.reduceEqDiff List.isPrefixOf xB9 xCm xCq xC5 xCx decide_true decide_false Nat.reduceBEq Nat.reduceBNe xBv xBz exists_eq_left' exists_eq_left xAv or_false or_true true_or false_or xAx xCk mB Nat.reduceMod Nat.reduceDiv
set_option maxRecDepth 100000
def zAu (x:D):Prop:=x.prune (zAd 7)=x∧x.prune (zAd 8)=x
instance:Nonempty (zAu .undef):=⟨rfl,rfl⟩
instance {v:Value}:Nonempty (zAu (.v v)):=⟨rfl,rfl⟩
instance {q:zBr}:Nonempty (zAu (.ref 9 q)):=⟨rfl,rfl⟩
instance {q:zBr}:Nonempty (zAu (.ref 10 q)):=⟨rfl,rfl⟩
instance {q:zBr} {i j:Nat}:Nonempty (zAu (.ptr 9 q i j)):=⟨rfl,rfl⟩
instance {q:zBr} {i j:Nat}:Nonempty (zAu (.ptr 1 q i j)):=⟨rfl,rfl⟩
instance {q:zBr} {i j:Nat}:Nonempty (zAu (.ptr 13 q i j)):=⟨rfl,rfl⟩
instance {o:Bool} {z:Nat} {r:List (List D)}:Nonempty (zAu (.sl o z r)):=⟨rfl,rfl⟩
instance {c:List D} {j:Nat}:Nonempty (zAu (.iptr c j)):=⟨rfl,rfl⟩
instance {a b c d e:Value}:Nonempty (zAu (.agg [.v a,.v b,.v c,.v d,.v e])):=⟨rfl,rfl⟩
theorem yZi {x:D} [h:Nonempty (zAu x)]:x.prune (zAd 7)=x:=h.elim (fun h=>h.1)
theorem yZh {x:D} [h:Nonempty (zAu x)]:x.prune (zAd 8)=x:=h.elim (fun h=>h.2)
set_option maxHeartbeats 16000000 in
theorem yB6 {Q:VExit→List D→Prop}{tail:List VO}{er ec es:List (Value×Value)}{co no ea so we a b vs vw:Int}{bo le pc b1 b2 b3 b4:List (List D)}{jj:Nat}{y6 y11 y12 y32 y33 y34 y35 y37 y38 y39 y40 y41 y16:Value}{x42 x43 x44 x45 x46 x47 x48 x49 x50 x51 x52 x53 x54 x55 x56 x57 x58 x59 x60 x61 x62 x63 x64 x65 x66 x67 x68 x69 x70 x71 x72 x73 x74 x75 x76 x77 x78 x79 x80 x82 x83 x84 x86 x87 x88:D} [Nonempty (zAu x42)] [Nonempty (zAu x43)] [Nonempty (zAu x44)] [Nonempty (zAu x45)] [Nonempty (zAu x46)] [Nonempty (zAu x47)] [Nonempty (zAu x48)] [Nonempty (zAu x49)] [Nonempty (zAu x50)] [Nonempty (zAu x51)] [Nonempty (zAu x52)] [Nonempty (zAu x53)] [Nonempty (zAu x54)] [Nonempty (zAu x55)] [Nonempty (zAu x56)] [Nonempty (zAu x57)] [Nonempty (zAu x58)] [Nonempty (zAu x59)] [Nonempty (zAu x60)] [Nonempty (zAu x61)] [Nonempty (zAu x62)] [Nonempty (zAu x63)] [Nonempty (zAu x64)] [Nonempty (zAu x65)] [Nonempty (zAu x66)] [Nonempty (zAu x67)] [Nonempty (zAu x68)] [Nonempty (zAu x69)] [Nonempty (zAu x70)] [Nonempty (zAu x71)] [Nonempty (zAu x72)] [Nonempty (zAu x73)] [Nonempty (zAu x74)] [Nonempty (zAu x75)] [Nonempty (zAu x76)] [Nonempty (zAu x77)] [Nonempty (zAu x78)] [Nonempty (zAu x79)] [Nonempty (zAu x80)] [Nonempty (zAu x82)] [Nonempty (zAu x83)] [Nonempty (zAu x84)] [Nonempty (zAu x86)] [Nonempty (zAu x87)] [Nonempty (zAu x88)]
    (hM3:ContractL Try.prog NoG 37 0 [.undef,.v (.int .i64 so)] (.mp (.int .i64) er) (.v (.int .i64 vs)) (.mp (.int .i64) er))
    (hM4:ContractL Try.prog NoG 37 0 [.undef,.v (.int .i64 we)] (.mp (.int .i64) ec) (.v (.int .i64 vw)) (.mp (.int .i64) ec))
    (hT:yPs (CT Try.prog NoG) tail Q [.undef,.box none [.sl false 1 b1,.sl false 1 b2,.sl false 5 b3],.box none [.nils,.nils,.nils],.undef,.sl true 1 b4,.undef,.v y6,.mp (.int .i64) er,.mp (.int .i64) ec,.box none [.sl true 1 bo,.sl true 1 le,.sl true 5 pc],.mp (.int .i64) es,.v y11,.v y12,.box none [.v (.int .i64 co),.v (.int .i64 no),.v (.int .i64 ea),.v (.int .i64 so),.v (.int .i64 we)],.v (.int .i64 a),.v (.int .i64 b),.tup [.undef,.v y16],.agg [.sl false 1 b1,.sl false 1 b2,.sl false 5 b3],.undef,.undef,.undef,.undef,.undef,.undef,.undef,.undef,.undef,.undef,.undef,.undef,.undef,.ref 4 [],.v y32,.v y33,.v y34,.v y35,.ptr 4 [] jj 0,.v y37,.v y38,.v y39,.v y40,.v y41,x42,x43,x44,x45,x46,x47,x48,x49,x50,x51,x52,x53,x54,x55,x56,x57,x58,x59,x60,x61,x62,x63,x64,x65,x66,x67,x68,x69,x70,x71,x72,x73,x74,x75,x76,x77,x78,x79,x80,.undef,x82,x83,x84,.undef,x86,x87,x88,.ptr 9 [] 0 2,.ref 9 [(0,2)],.ptr 13 [] 0 0,.v (.int .i64 co),.v (.int .i64 a),.v (.int .i64 b),.undef,.ptr 13 [] 0 3,.v (.int .i64 so),.v (.int .i64 vs),.undef,.ptr 13 [] 0 4,.v (.int .i64 we),.v (.int .i64 vw),.agg [.v (.int .i64 co),.v (.int .i64 a),.v (.int .i64 b),.v (.int .i64 vs),.v (.int .i64 vw)],.sl true 5 [[.v (.int .i64 co),.v (.int .i64 a),.v (.int .i64 b),.v (.int .i64 vs),.v (.int .i64 vw)]],.undef,.undef,.undef,.undef]) :
    (VCode.drawT zCz tail).wp (CT Try.prog NoG) Q [.undef,.box none [.sl false 1 b1,.sl false 1 b2,.sl false 5 b3],.box none [.nils,.nils,.nils],.undef,.sl true 1 b4,.undef,.v y6,.mp (.int .i64) er,.mp (.int .i64) ec,.box none [.sl true 1 bo,.sl true 1 le,.sl true 5 pc],.mp (.int .i64) es,.v y11,.v y12,.box none [.v (.int .i64 co),.v (.int .i64 no),.v (.int .i64 ea),.v (.int .i64 so),.v (.int .i64 we)],.v (.int .i64 a),.v (.int .i64 b),.tup [.undef,.v y16],.agg [.sl false 1 b1,.sl false 1 b2,.sl false 5 b3],.undef,.undef,.undef,.undef,.undef,.undef,.undef,.undef,.undef,.undef,.undef,.undef,.undef,.ref 4 [],.v y32,.v y33,.v y34,.v y35,.ptr 4 [] jj 0,.v y37,.v y38,.v y39,.v y40,.v y41,x42,x43,x44,x45,x46,x47,x48,x49,x50,x51,x52,x53,x54,x55,x56,x57,x58,x59,x60,x61,x62,x63,x64,x65,x66,x67,x68,x69,x70,x71,x72,x73,x74,x75,x76,x77,x78,x79,x80,.undef,x82,x83,x84,.undef,x86,x87,x88,.undef,.undef,.undef,.undef,.undef,.undef,.undef,.undef,.undef,.undef,.undef,.undef,.undef,.undef,.undef,.undef,.undef,.undef,.undef,.undef]:=by
  with_reducible refine zDg (fun K hK=>?_) hT
  unfold zCz;simp -implicitDefEqProofs (disch:=omega) only [go_sem,↓reduceIte]
  repeat' (first | with_reducible exact hK | with_reducible refine And.intro ?_ ?_ | ((with_reducible refine zD8 ?_);refine zB5 (r:=7) (hM3) rfl rfl rfl rfl ?_;simp -implicitDefEqProofs (disch:=omega) only [go_sem,↓reduceIte,↓yZi]) | ((with_reducible refine zD8 ?_);refine zB5 (r:=8) (hM4) rfl rfl rfl rfl ?_;simp -implicitDefEqProofs (disch:=omega) only [go_sem,↓reduceIte,↓yZh]))
end Go.Proofs.Ytaleehohmpohoaa
