/-
  My own text: a part of the proof.
-/
import Derived.Test.YtiflikkmjeikdaaGreatRows
import Derived.JoinedOf
import Derived.KernelRfl
set_option linter.unusedVariables false
set_option linter.unusedSimpArgs false
set_option maxHeartbeats 0
namespace Go.Proofs.YtiflikkmjeikdaaGreat.actNames
theorem band {a b : Bool} (ha : a = true) (hb : b = true) : (a && b) = true := by rw [ha, hb]; rfl
theorem g0 : (Rows.actNamesRow.wf (OpenSpec.ofChange Rows.actNamesSpec)) = true := by kernel_rfl
theorem g1 : (laidOutB Tryz.prog) = true := by kernel_rfl
theorem g2 : (mapsRowed Tryz.prog) = true := by kernel_rfl
theorem g3 : (Tryz.f5.params.all (Tryz.prog.readableRec ·)) = true := by kernel_rfl
theorem g4 : (namedTie Tryz.prog Rows.actNamesRow.named Rows.actNamesSpec.vars) = true := by kernel_rfl
theorem g5 : (Rows.actNamesRow.stops == []) = true := by kernel_rfl
theorem g6 : (Tryz.prog.stops == []) = true := by kernel_rfl
theorem g7 : (Rows.actNamesRow.knobs == []) = true := by kernel_rfl
theorem g8 : (Tryz.prog.stopKnobs == []) = true := by kernel_rfl
theorem g9 : (Rows.actNamesRow.inPlace == Tryz.prog.inPlace 5) = true := by kernel_rfl
theorem g10 : (Rows.actNamesRow.unfollowed == Tryz.prog.unfollowed 5) = true := by kernel_rfl
theorem g11 : (Rows.actNamesRow.recurses == Tryz.prog.recurses 5) = true := by kernel_rfl
theorem g12 : (Rows.actNamesRow.named == Tryz.prog.varsNamed 5) = true := by kernel_rfl
theorem g13 : (Rows.actNamesRow.maps == (Tryz.f5.params.toList ++ Rows.actNamesSpec.plain.varTypes Tryz.prog).any (Tryz.prog.mapsRec ·)) = true := by kernel_rfl
theorem g14 : (Rows.actNamesRow.ifaces == (Tryz.f5.params.toList ++ Rows.actNamesSpec.plain.varTypes Tryz.prog).any (Tryz.prog.ifacesRec ·)) = true := by kernel_rfl
theorem g15 : (Rows.actNamesRow.mapsOut == Tryz.prog.mapsAmong Tryz.f5.resultTypes.toList) = true := by kernel_rfl
theorem g16 : (Rows.actNamesRow.loops == (Tryz.f5.params.toList ++ Rows.actNamesSpec.plain.varTypes Tryz.prog).any (Tryz.prog.loopsFrom ·)) = true := by kernel_rfl
theorem g17 : (Rows.actNamesRow.wideKeys == (Tryz.f5.params.toList ++ Rows.actNamesSpec.plain.varTypes Tryz.prog ++ Tryz.f5.resultTypes.toList).any (Tryz.prog.wideKeysFrom ·)) = true := by kernel_rfl
theorem g18 : (Rows.actNamesSpec.vars.all (Tryz.prog.varReadable ·)) = true := by kernel_rfl
theorem g19 : (Tryz.f5.resultTypes.all (fun t => Tryz.prog.readableRec t && decide (t < Tryz.prog.types.size))) = true := by kernel_rfl
theorem g20 : (Rows.actNamesRow.ifacesOut == Tryz.f5.resultTypes.toList.any (Tryz.prog.ifacesRec ·)) = true := by kernel_rfl
theorem g21 : (Rows.actNamesRow.loopsOut == Tryz.f5.resultTypes.toList.any (Tryz.prog.loopsFrom ·)) = true := by kernel_rfl
theorem g22 : (Rows.actNamesRow.plainKeys == Tryz.prog.plainKeys) = true := by kernel_rfl
theorem g23 : (Rows.actNamesRow.shortTexts.isNone) = true := by kernel_rfl
theorem g24 : (Tryz.prog.stopsHeard) = true := by kernel_rfl
theorem g25 : (Tryz.prog.mayEnter) = true := by kernel_rfl
theorem g26 : (Rows.actNamesRow.lifted == Tryz.prog.liftsFinal) = true := by kernel_rfl
theorem g27 : (Tryz.prog.make == some Rows.actNamesRow.make) = true := by kernel_rfl
theorem g29 : (Rows.actNamesRow.pinned == Rows.actNamesRow.pinnedBy) = true := by kernel_rfl
theorem g30 : (Rows.actNamesRow.veiled == (Tryz.f5.params.toList ++ Rows.actNamesSpec.plain.varTypes Tryz.prog ++ Tryz.f5.resultTypes.toList).any (Tryz.prog.veiledRec ·)) = true := by kernel_rfl
theorem g31 : (Rows.actNamesRow.veiledFits Tryz.prog Tryz.f5.params.toList (Tryz.f5.params.toList ++ Rows.actNamesSpec.plain.varTypes Tryz.prog ++ Tryz.f5.resultTypes.toList)) = true := by kernel_rfl
theorem closed : joinedFacts Tryz.prog 5 Tryz.f5 Rows.actNamesSpec Rows.actNamesRow = true := by
  unfold joinedFacts
  refine (band (band (band (band (band (band (band (band (band (band (band (band (band (band (band (band (band (band (band (band (band (band (band (band (band (band (band (band (band (band (band g0 g1) g2) g3) g4) g5) g6) g7) g8) g9) g10) g11) g12) g13) g14) g15) g16) g17) g18) g19) g20) g21) g22) g23) g24) g25) g26) g27) ?_) g29) g30) g31)
  kernel_rfl
end Go.Proofs.YtiflikkmjeikdaaGreat.actNames
