/-
  My own text: a part of the proof.
-/
import Derived.Test.YtiflikkmjeikdaaGreatC9
set_option linter.unusedVariables false
set_option linter.unusedSimpArgs false
set_option maxHeartbeats 0
namespace Go.Cat
open Go Go.Proofs.Tryz
theorem law_law21_ActNames (x : TT []) (_ : OkTT [] x) : (fnTree env5 5 [] [.bool] x).den = some (true, ()) :=
  (T_law21_ActNames x).trans P_law21_ActNames
end Go.Cat
