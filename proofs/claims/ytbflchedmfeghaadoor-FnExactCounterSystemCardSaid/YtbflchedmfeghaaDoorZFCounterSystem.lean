/- Laws that the proof stands on. -/
import Derived.Test.YtbflchedmfeghaaDoorZg22
import Derived.Test.YtbflchedmfeghaaDoorZVDigI
import Derived.Test.YtbflchedmfeghaaDoorZVCntOk
import Derived.Test.YtbflchedmfeghaaDoorZVTab
set_option linter.all false
namespace Go.Proofs.YtbflchedmfeghaaDoor
open Go.RowKit Go.V
theorem vCounterSystem_spec (q_aBase : Int) (q_aBase_ok : InK .i64 q_aBase) (q_aDigits : Int) (q_aDigits_ok : InK .i64 q_aDigits) (q_aStart : Int) (q_aStart_ok : InK .i64 q_aStart) (q_aRows : Int) (q_aRows_ok : InK .i64 q_aRows) : Contract Tryd.prog TabG 6 [.v (.int .i64 q_aBase), .v (.int .i64 q_aDigits), .v (.int .i64 q_aStart), .v (.int .i64 q_aRows)] (.tup [.agg (System.td.d true (CounterR q_aBase q_aDigits q_aStart q_aRows)), .v (.int .i64 (CounterC q_aBase q_aDigits q_aStart q_aRows))]) :=
  vCounter_spec q_aBase q_aDigits q_aStart q_aRows
theorem vCounterSystem_impl (q_aBase : Int) (q_aBase_ok : InK .i64 q_aBase) (q_aDigits : Int) (q_aDigits_ok : InK .i64 q_aDigits) (q_aStart : Int) (q_aStart_ok : InK .i64 q_aStart) (q_aRows : Int) (q_aRows_ok : InK .i64 q_aRows) : Contract Tryd.prog TabG 7 [.v (.int .i64 q_aBase), .v (.int .i64 q_aDigits), .v (.int .i64 q_aStart), .v (.int .i64 q_aRows)] (.tup [.agg (System.td.d true (CounterR q_aBase q_aDigits q_aStart q_aRows)), .v (.int .i64 (CounterC q_aBase q_aDigits q_aStart q_aRows))]) :=
  vCounter_impl v_digitsOf q_aBase q_aDigits q_aStart q_aRows
end Go.Proofs.YtbflchedmfeghaaDoor
