/- Laws that the proof stands on. -/
import Derived.Test.YtaleehohmpohoaaZg11
import Derived.Test.YtaleehohmpohoaaZg13
set_option linter.all false
namespace Go.Proofs.Ytaleehohmpohoaa
open Go.RowKit Go.V
set_option maxRecDepth 100000
/-! Tables filled by a list: keys, values. -/
section
variable {α κ:Type} [DecidableEq κ]
structure KeyG (kk:α→κ) (key:α→Value):Prop where
  eq:∀ a b,keq (key a) (key b)=decide (kk b=kk a)
end
/-! Pieces and their inlets. -/
def isInl (s w:Int)(p:Piece):Bool:=decide (p.South=s)&&decide (p.West=w)
def fitP (ps:List Piece)(s w:Int):Int:=vIdx (isInl s w) ps
/-! The run: row by row. -/
structure RunS where
  out:List Int
  bel:List Int
  west:Int
end Go.Proofs.Ytaleehohmpohoaa
