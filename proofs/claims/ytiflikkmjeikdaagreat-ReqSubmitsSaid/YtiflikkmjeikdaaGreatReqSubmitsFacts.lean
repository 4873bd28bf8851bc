/-
  My own text: a part of the proof.
-/
import Derived.Test.YtiflikkmjeikdaaGreatRows
import Derived.JoinedOf
import Derived.KernelRfl
set_option linter.unusedVariables false
set_option linter.unusedSimpArgs false
set_option maxHeartbeats 0
namespace Go.Proofs.YtiflikkmjeikdaaGreat.reqSubmits
theorem band {a b : Bool} (ha : a = true) (hb : b = true) : (a && b) = true := by rw [ha, hb]; rfl
theorem g0 : (Rows.reqSubmitsRow.wf (OpenSpec.ofChange Rows.reqSubmitsSpec)) = true := by kernel_rfl
theorem g1 : (laidOutB Tryz.prog) = true := by kernel_rfl
theorem g2 : (mapsRowed Tryz.prog) = true := by kernel_rfl
theorem g3 : (Tryz.f3.params.all (Tryz.prog.readableRec ·)) = true := by kernel_rfl
theorem g4 : (namedTie Tryz.prog Rows.reqSubmitsRow.named Rows.reqSubmitsSpec.vars) = true := by kernel_rfl
theorem g5 : (Rows.reqSubmitsRow.stops == []) = true := by kernel_rfl
theorem g6 : (Tryz.prog.stops == []) = true := by kernel_rfl
theorem g7 : (Rows.reqSubmitsRow.knobs == []) = true := by kernel_rfl
theorem g8 : (Tryz.prog.stopKnobs == []) = true := by kernel_rfl
theorem g9 : (Rows.reqSubmitsRow.inPlace == Tryz.prog.inPlace 3) = true := by kernel_rfl
theorem g10 : (Rows.reqSubmitsRow.unfollowed == Tryz.prog.unfollowed 3) = true := by kernel_rfl
theorem g11 : (Rows.reqSubmitsRow.recurses == Tryz.prog.recurses 3) = true := by kernel_rfl
theorem g12 : (Rows.reqSubmitsRow.named == Tryz.prog.varsNamed 3) = true := by kernel_rfl
theorem g13 : (Rows.reqSubmitsRow.maps == (Tryz.f3.params.toList ++ Rows.reqSubmitsSpec.plain.varTypes Tryz.prog).any (Tryz.prog.mapsRec ·)) = true := by kernel_rfl
theorem g14 : (Rows.reqSubmitsRow.ifaces == (Tryz.f3.params.toList ++ Rows.reqSubmitsSpec.plain.varTypes Tryz.prog).any (Tryz.prog.ifacesRec ·)) = true := by kernel_rfl
theorem g15 : (Rows.reqSubmitsRow.mapsOut == Tryz.prog.mapsAmong Tryz.f3.resultTypes.toList) = true := by kernel_rfl
theorem g16 : (Rows.reqSubmitsRow.loops == (Tryz.f3.params.toList ++ Rows.reqSubmitsSpec.plain.varTypes Tryz.prog).any (Tryz.prog.loopsFrom ·)) = true := by kernel_rfl
theorem g17 : (Rows.reqSubmitsRow.wideKeys == (Tryz.f3.params.toList ++ Rows.reqSubmitsSpec.plain.varTypes Tryz.prog ++ Tryz.f3.resultTypes.toList).any (Tryz.prog.wideKeysFrom ·)) = true := by kernel_rfl
theorem g18 : (Rows.reqSubmitsSpec.vars.all (Tryz.prog.varReadable ·)) = true := by kernel_rfl
theorem g19 : (Tryz.f3.resultTypes.all (fun t => Tryz.prog.readableRec t && decide (t < Tryz.prog.types.size))) = true := by kernel_rfl
theorem g20 : (Rows.reqSubmitsRow.ifacesOut == Tryz.f3.resultTypes.toList.any (Tryz.prog.ifacesRec ·)) = true := by kernel_rfl
theorem g21 : (Rows.reqSubmitsRow.loopsOut == Tryz.f3.resultTypes.toList.any (Tryz.prog.loopsFrom ·)) = true := by kernel_rfl
theorem g22 : (Rows.reqSubmitsRow.plainKeys == Tryz.prog.plainKeys) = true := by kernel_rfl
theorem g23 : (Rows.reqSubmitsRow.shortTexts.isNone) = true := by kernel_rfl
theorem g24 : (Tryz.prog.stopsHeard) = true := by kernel_rfl
theorem g25 : (Tryz.prog.mayEnter) = true := by kernel_rfl
theorem g26 : (Rows.reqSubmitsRow.lifted == Tryz.prog.liftsFinal) = true := by kernel_rfl
theorem g27 : (Tryz.prog.make == some Rows.reqSubmitsRow.make) = true := by kernel_rfl
theorem g29 : (Rows.reqSubmitsRow.pinned == Rows.reqSubmitsRow.pinnedBy) = true := by kernel_rfl
theorem g30 : (Rows.reqSubmitsRow.veiled == (Tryz.f3.params.toList ++ Rows.reqSubmitsSpec.plain.varTypes Tryz.prog ++ Tryz.f3.resultTypes.toList).any (Tryz.prog.veiledRec ·)) = true := by kernel_rfl
theorem g31 : (Rows.reqSubmitsRow.veiledFits Tryz.prog Tryz.f3.params.toList (Tryz.f3.params.toList ++ Rows.reqSubmitsSpec.plain.varTypes Tryz.prog ++ Tryz.f3.resultTypes.toList)) = true := by kernel_rfl
theorem closed : joinedFacts Tryz.prog 3 Tryz.f3 Rows.reqSubmitsSpec Rows.reqSubmitsRow = true := by
  unfold joinedFacts
  refine (band (band (band (band (band (band (band (band (band (band (band (band (band (band (band (band (band (band (band (band (band (band (band (band (band (band (band (band (band (band (band g0 g1) g2) g3) g4) g5) g6) g7) g8) g9) g10) g11) g12) g13) g14) g15) g16) g17) g18) g19) g20) g21) g22) g23) g24) g25) g26) g27) ?_) g29) g30) g31)
  kernel_rfl
end Go.Proofs.YtiflikkmjeikdaaGreat.reqSubmits
