/- Laws that the proof stands on. -/
import Derived.Test.YtlblmbhaakjcaaaDoorZg5
import Derived.Test.YtlblmbhaakjcaaaDoorZVB
set_option linter.all false
namespace Go.Proofs.YtlblmbhaakjcaaaDoor
open Go.RowKit Go.V
def Measure.td : TD Measure.ty := TD.via (TD.prod (TD.int .i64) (TD.prod (TD.int .i64) (TD.prod (TD.int .i64) (TD.prod (TD.int .i64) (TD.prod (TD.int .i64) (TD.prod (TD.int .i64) (TD.int .i64))))))) (fun x : Measure => (x.Tiles, x.Kinds, x.Glues, x.Area, x.Strength, x.Misfits, x.Slack))
theorem Measure.td_d (o : Bool) (x : Measure) : Measure.td.d o x = [.v (.int .i64 x.Tiles), .v (.int .i64 x.Kinds), .v (.int .i64 x.Glues), .v (.int .i64 x.Area), .v (.int .i64 x.Strength), .v (.int .i64 x.Misfits), .v (.int .i64 x.Slack)] := rfl
theorem Measure.td_ok (x : Measure) : Measure.td.ok x = (InK .i64 x.Tiles ∧ InK .i64 x.Kinds ∧ InK .i64 x.Glues ∧ InK .i64 x.Area ∧ InK .i64 x.Strength ∧ InK .i64 x.Misfits ∧ InK .i64 x.Slack) := rfl
end Go.Proofs.YtlblmbhaakjcaaaDoor
