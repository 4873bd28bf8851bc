/-
  My own text: a part of the proof.
-/
import Derived.Test.YtiflikkmjeikdaaGreatRows
import Derived.JoinedOf
import Derived.KernelRfl
set_option linter.unusedVariables false
set_option linter.unusedSimpArgs false
set_option maxHeartbeats 0
namespace Go.Proofs.YtiflikkmjeikdaaGreat.actEnds
theorem band {a b : Bool} (ha : a = true) (hb : b = true) : (a && b) = true := by rw [ha, hb]; rfl
theorem g0 : (Rows.actEndsRow.wf (OpenSpec.ofChange Rows.actEndsSpec)) = true := by kernel_rfl
theorem g1 : (laidOutB Tryz.prog) = true := by kernel_rfl
theorem g2 : (mapsRowed Tryz.prog) = true := by kernel_rfl
theorem g3 : (Tryz.f6.params.all (Tryz.prog.readableRec ·)) = true := by kernel_rfl
theorem g4 : (namedTie Tryz.prog Rows.actEndsRow.named Rows.actEndsSpec.vars) = true := by kernel_rfl
theorem g5 : (Rows.actEndsRow.stops == []) = true := by kernel_rfl
theorem g6 : (Tryz.prog.stops == []) = true := by kernel_rfl
theorem g7 : (Rows.actEndsRow.knobs == []) = true := by kernel_rfl
theorem g8 : (Tryz.prog.stopKnobs == []) = true := by kernel_rfl
theorem g9 : (Rows.actEndsRow.inPlace == Tryz.prog.inPlace 6) = true := by kernel_rfl
theorem g10 : (Rows.actEndsRow.unfollowed == Tryz.prog.unfollowed 6) = true := by kernel_rfl
theorem g11 : (Rows.actEndsRow.recurses == Tryz.prog.recurses 6) = true := by kernel_rfl
theorem g12 : (Rows.actEndsRow.named == Tryz.prog.varsNamed 6) = true := by kernel_rfl
theorem g13 : (Rows.actEndsRow.maps == (Tryz.f6.params.toList ++ Rows.actEndsSpec.plain.varTypes Tryz.prog).any (Tryz.prog.mapsRec ·)) = true := by kernel_rfl
theorem g14 : (Rows.actEndsRow.ifaces == (Tryz.f6.params.toList ++ Rows.actEndsSpec.plain.varTypes Tryz.prog).any (Tryz.prog.ifacesRec ·)) = true := by kernel_rfl
theorem g15 : (Rows.actEndsRow.mapsOut == Tryz.prog.mapsAmong Tryz.f6.resultTypes.toList) = true := by kernel_rfl
theorem g16 : (Rows.actEndsRow.loops == (Tryz.f6.params.toList ++ Rows.actEndsSpec.plain.varTypes Tryz.prog).any (Tryz.prog.loopsFrom ·)) = true := by kernel_rfl
theorem g17 : (Rows.actEndsRow.wideKeys == (Tryz.f6.params.toList ++ Rows.actEndsSpec.plain.varTypes Tryz.prog ++ Tryz.f6.resultTypes.toList).any (Tryz.prog.wideKeysFrom ·)) = true := by kernel_rfl
theorem g18 : (Rows.actEndsSpec.vars.all (Tryz.prog.varReadable ·)) = true := by kernel_rfl
theorem g19 : (Tryz.f6.resultTypes.all (fun t => Tryz.prog.readableRec t && decide (t < Tryz.prog.types.size))) = true := by kernel_rfl
theorem g20 : (Rows.actEndsRow.ifacesOut == Tryz.f6.resultTypes.toList.any (Tryz.prog.ifacesRec ·)) = true := by kernel_rfl
theorem g21 : (Rows.actEndsRow.loopsOut == Tryz.f6.resultTypes.toList.any (Tryz.prog.loopsFrom ·)) = true := by kernel_rfl
theorem g22 : (Rows.actEndsRow.plainKeys == Tryz.prog.plainKeys) = true := by kernel_rfl
theorem g23 : (Rows.actEndsRow.shortTexts.isNone) = true := by kernel_rfl
theorem g24 : (Tryz.prog.stopsHeard) = true := by kernel_rfl
theorem g25 : (Tryz.prog.mayEnter) = true := by kernel_rfl
theorem g26 : (Rows.actEndsRow.lifted == Tryz.prog.liftsFinal) = true := by kernel_rfl
theorem g27 : (Tryz.prog.make == some Rows.actEndsRow.make) = true := by kernel_rfl
theorem g29 : (Rows.actEndsRow.pinned == Rows.actEndsRow.pinnedBy) = true := by kernel_rfl
theorem g30 : (Rows.actEndsRow.veiled == (Tryz.f6.params.toList ++ Rows.actEndsSpec.plain.varTypes Tryz.prog ++ Tryz.f6.resultTypes.toList).any (Tryz.prog.veiledRec ·)) = true := by kernel_rfl
theorem g31 : (Rows.actEndsRow.veiledFits Tryz.prog Tryz.f6.params.toList (Tryz.f6.params.toList ++ Rows.actEndsSpec.plain.varTypes Tryz.prog ++ Tryz.f6.resultTypes.toList)) = true := by kernel_rfl
theorem closed : joinedFacts Tryz.prog 6 Tryz.f6 Rows.actEndsSpec Rows.actEndsRow = true := by
  unfold joinedFacts
  refine (band (band (band (band (band (band (band (band (band (band (band (band (band (band (band (band (band (band (band (band (band (band (band (band (band (band (band (band (band (band (band g0 g1) g2) g3) g4) g5) g6) g7) g8) g9) g10) g11) g12) g13) g14) g15) g16) g17) g18) g19) g20) g21) g22) g23) g24) g25) g26) g27) ?_) g29) g30) g31)
  kernel_rfl
end Go.Proofs.YtiflikkmjeikdaaGreat.actEnds
