/-
  My own text: a part of the proof.
-/
import Derived.Test.YtiflikkmjeikdaaGreatC9
set_option linter.unusedVariables false
set_option linter.unusedSimpArgs false
set_option maxHeartbeats 0
namespace Go.Cat
open Go Go.Proofs.Tryz
theorem law_law21_ActEnds (x : TT [(.st .Config), (.st .Site)]) (h : OkTT [(.st .Config), (.st .Site)] x) : (fnTree env6 6 [(.st .Config), (.st .Site)] [.bool] x).den = some (true, ()) :=
  (T_law21_ActEnds x).trans (P_law21_ActEnds _ _ (okSiteU h.2.1) (okSite_done h.2.1))
end Go.Cat
