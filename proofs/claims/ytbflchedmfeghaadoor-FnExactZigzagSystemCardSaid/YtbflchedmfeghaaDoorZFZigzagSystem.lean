/- Laws that the proof stands on. -/
import Derived.Test.YtbflchedmfeghaaDoorZg25
import Derived.Test.YtbflchedmfeghaaDoorZVTab
set_option linter.all false
namespace Go.Proofs.YtbflchedmfeghaaDoor
open Go.RowKit Go.V
theorem vZigzagSystem_spec (q_aBase : Int) (q_aBase_ok : InK .i64 q_aBase) (q_aDigits : Int) (q_aDigits_ok : InK .i64 q_aDigits) (q_aStart : Int) (q_aStart_ok : InK .i64 q_aStart) : Contract Tryd.prog TabG 11 [.v (.int .i64 q_aBase), .v (.int .i64 q_aDigits), .v (.int .i64 q_aStart)] (.tup [.agg (System.td.d true (ZigR q_aBase q_aDigits q_aStart)), .v (.int .i64 (ZigC q_aBase q_aDigits q_aStart))]) :=
  vZig_spec q_aBase q_aDigits q_aStart
theorem vZigzagSystem_impl (q_aBase : Int) (q_aBase_ok : InK .i64 q_aBase) (q_aDigits : Int) (q_aDigits_ok : InK .i64 q_aDigits) (q_aStart : Int) (q_aStart_ok : InK .i64 q_aStart) : Contract Tryd.prog TabG 12 [.v (.int .i64 q_aBase), .v (.int .i64 q_aDigits), .v (.int .i64 q_aStart)] (.tup [.agg (System.td.d true (ZigR q_aBase q_aDigits q_aStart)), .v (.int .i64 (ZigC q_aBase q_aDigits q_aStart))]) :=
  vZig_impl q_aBase q_aDigits q_aStart
end Go.Proofs.YtbflchedmfeghaaDoor
