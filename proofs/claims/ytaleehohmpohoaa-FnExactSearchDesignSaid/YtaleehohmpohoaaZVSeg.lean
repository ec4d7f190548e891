/- Laws that the proof stands on. -/
import Derived.Test.YtaleehohmpohoaaZVB
set_option linter.all false
namespace Go.V
open Go.RowKit
def cL:Code→Code
  | .seq a _=>a
  | .cond _ a _=>a
  | .block _ c=>c
  | .loop c=>c
  | c=>c
def cR:Code→Code
  | .seq _ b=>b
  | .cond _ _ b=>b
  | c=>c
section
variable {P:Program} {pt:Nat} {c:Code} {ms ms1 ms2:List (List Bool)} {va vb:VCode}
theorem cc_seq (h1:cCode P pt (cL c) ms=some (va,ms1))(h2:cCode P pt (cR c) ms1=some (vb,ms2))(hc:c=.seq (cL c) (cR c):=by kernel_rfl):cCode P pt c ms=some (.seq va vb,ms2):=by generalize cL c=a at *;generalize cR c=b at *;subst hc;simp only [cCode,h1,h2]
theorem cc_cond {o:Operand}(h1:cCode P pt (cL c) ms=some (va,ms1))(h2:cCode P pt (cR c) ms1=some (vb,ms2))(hc:c=.cond o (cL c) (cR c):=by kernel_rfl):cCode P pt c ms=some (.cond o va vb,ms2):=by generalize cL c=a at *;generalize cR c=b at *;subst hc;simp only [cCode,h1,h2]
theorem cc_block {i:Nat}(h1:cCode P pt (cL c) ms=some (va,ms1))(hc:c=.block i (cL c):=by kernel_rfl):cCode P pt c ms=some (.block i va,ms1):=by generalize cL c=a at *;subst hc;simp only [cCode,h1]
theorem cc_loop {m:List Bool}(h1:cCode P pt (cL c) ms=some (va,ms1))(hc:c=.loop (cL c):=by kernel_rfl):cCode P pt c (m::ms)=some (.loop m va,ms1):=by generalize cL c=a at *;subst hc;simp only [cCode,h1]
end
end Go.V
