/-
  My own text: a part of the proof.
-/
import Derived.Test.YtiflikkmjeikdaaGreatC10
set_option linter.unusedVariables false
set_option linter.unusedSimpArgs false
set_option maxHeartbeats 0
namespace Go.Cat
open Go Go.Proofs.Tryz
theorem law_law28_ReqBurst (x : TT [(.st .Config), (.st .Site), (.int .i64), (.int .u8), (.int .u8), (.int .u8), (.int .u32)]) (h : OkTT [(.st .Config), (.st .Site), (.int .i64), (.int .u8), (.int .u8), (.int .u8), (.int .u32)] x) : (fnTree env4 4 [(.st .Config), (.st .Site), (.int .i64), (.int .u8), (.int .u8), (.int .u8), (.int .u32)] [.bool] x).den = some (true, ()) :=
  (T_law28_ReqBurst x).trans (P_law28_ReqBurst _ _ _ _ _ _ _ (okI_u8 h.2.2.2.1) (okI_u8 h.2.2.2.2.1) (okI_u8 h.2.2.2.2.2.1) (okL_u32 (h.2.2.2.2.2.2.1 (.int .u32 _) (List.mem_singleton.2 rfl))))
end Go.Cat
