/-
  My own text: a part of the proof.
-/
import Derived.Test.YtiflikkmjeikdaaGreatC10
set_option linter.unusedVariables false
set_option linter.unusedSimpArgs false
set_option maxHeartbeats 0
namespace Go.Cat
open Go Go.Proofs.Tryz
theorem law_law28_ReqSubmits (x : TT [(.st .Config), (.st .Site), (.int .i64), (.sl (.int .u8))]) (_ : OkTT [(.st .Config), (.st .Site), (.int .i64), (.sl (.int .u8))] x) : (fnTree env3 3 [(.st .Config), (.st .Site), (.int .i64), (.sl (.int .u8))] [.bool] x).den = some (true, ()) :=
  (T_law28_ReqSubmits x).trans (P_law28_ReqSubmits _ _ _ _)
end Go.Cat
