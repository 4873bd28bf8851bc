/-
  My own text: a part of the proof.
-/
import Derived.Test.YtiflikkmjeikdaaGreatRows
import Derived.JoinedOf
import Derived.KernelRfl
set_option linter.unusedVariables false
set_option linter.unusedSimpArgs false
set_option maxHeartbeats 0
namespace Go.Proofs.YtiflikkmjeikdaaGreat.reqBurst
theorem band {a b : Bool} (ha : a = true) (hb : b = true) : (a && b) = true := by rw [ha, hb]; rfl
theorem g0 : (Rows.reqBurstRow.wf (OpenSpec.ofChange Rows.reqBurstSpec)) = true := by kernel_rfl
theorem g1 : (laidOutB Tryz.prog) = true := by kernel_rfl
theorem g2 : (mapsRowed Tryz.prog) = true := by kernel_rfl
theorem g3 : (Tryz.f4.params.all (Tryz.prog.readableRec ·)) = true := by kernel_rfl
theorem g4 : (namedTie Tryz.prog Rows.reqBurstRow.named Rows.reqBurstSpec.vars) = true := by kernel_rfl
theorem g5 : (Rows.reqBurstRow.stops == []) = true := by kernel_rfl
theorem g6 : (Tryz.prog.stops == []) = true := by kernel_rfl
theorem g7 : (Rows.reqBurstRow.knobs == []) = true := by kernel_rfl
theorem g8 : (Tryz.prog.stopKnobs == []) = true := by kernel_rfl
theorem g9 : (Rows.reqBurstRow.inPlace == Tryz.prog.inPlace 4) = true := by kernel_rfl
theorem g10 : (Rows.reqBurstRow.unfollowed == Tryz.prog.unfollowed 4) = true := by kernel_rfl
theorem g11 : (Rows.reqBurstRow.recurses == Tryz.prog.recurses 4) = true := by kernel_rfl
theorem g12 : (Rows.reqBurstRow.named == Tryz.prog.varsNamed 4) = true := by kernel_rfl
theorem g13 : (Rows.reqBurstRow.maps == (Tryz.f4.params.toList ++ Rows.reqBurstSpec.plain.varTypes Tryz.prog).any (Tryz.prog.mapsRec ·)) = true := by kernel_rfl
theorem g14 : (Rows.reqBurstRow.ifaces == (Tryz.f4.params.toList ++ Rows.reqBurstSpec.plain.varTypes Tryz.prog).any (Tryz.prog.ifacesRec ·)) = true := by kernel_rfl
theorem g15 : (Rows.reqBurstRow.mapsOut == Tryz.prog.mapsAmong Tryz.f4.resultTypes.toList) = true := by kernel_rfl
theorem g16 : (Rows.reqBurstRow.loops == (Tryz.f4.params.toList ++ Rows.reqBurstSpec.plain.varTypes Tryz.prog).any (Tryz.prog.loopsFrom ·)) = true := by kernel_rfl
theorem g17 : (Rows.reqBurstRow.wideKeys == (Tryz.f4.params.toList ++ Rows.reqBurstSpec.plain.varTypes Tryz.prog ++ Tryz.f4.resultTypes.toList).any (Tryz.prog.wideKeysFrom ·)) = true := by kernel_rfl
theorem g18 : (Rows.reqBurstSpec.vars.all (Tryz.prog.varReadable ·)) = true := by kernel_rfl
theorem g19 : (Tryz.f4.resultTypes.all (fun t => Tryz.prog.readableRec t && decide (t < Tryz.prog.types.size))) = true := by kernel_rfl
theorem g20 : (Rows.reqBurstRow.ifacesOut == Tryz.f4.resultTypes.toList.any (Tryz.prog.ifacesRec ·)) = true := by kernel_rfl
theorem g21 : (Rows.reqBurstRow.loopsOut == Tryz.f4.resultTypes.toList.any (Tryz.prog.loopsFrom ·)) = true := by kernel_rfl
theorem g22 : (Rows.reqBurstRow.plainKeys == Tryz.prog.plainKeys) = true := by kernel_rfl
theorem g23 : (Rows.reqBurstRow.shortTexts.isNone) = true := by kernel_rfl
theorem g24 : (Tryz.prog.stopsHeard) = true := by kernel_rfl
theorem g25 : (Tryz.prog.mayEnter) = true := by kernel_rfl
theorem g26 : (Rows.reqBurstRow.lifted == Tryz.prog.liftsFinal) = true := by kernel_rfl
theorem g27 : (Tryz.prog.make == some Rows.reqBurstRow.make) = true := by kernel_rfl
theorem g29 : (Rows.reqBurstRow.pinned == Rows.reqBurstRow.pinnedBy) = true := by kernel_rfl
theorem g30 : (Rows.reqBurstRow.veiled == (Tryz.f4.params.toList ++ Rows.reqBurstSpec.plain.varTypes Tryz.prog ++ Tryz.f4.resultTypes.toList).any (Tryz.prog.veiledRec ·)) = true := by kernel_rfl
theorem g31 : (Rows.reqBurstRow.veiledFits Tryz.prog Tryz.f4.params.toList (Tryz.f4.params.toList ++ Rows.reqBurstSpec.plain.varTypes Tryz.prog ++ Tryz.f4.resultTypes.toList)) = true := by kernel_rfl
theorem closed : joinedFacts Tryz.prog 4 Tryz.f4 Rows.reqBurstSpec Rows.reqBurstRow = true := by
  unfold joinedFacts
  refine (band (band (band (band (band (band (band (band (band (band (band (band (band (band (band (band (band (band (band (band (band (band (band (band (band (band (band (band (band (band (band g0 g1) g2) g3) g4) g5) g6) g7) g8) g9) g10) g11) g12) g13) g14) g15) g16) g17) g18) g19) g20) g21) g22) g23) g24) g25) g26) g27) ?_) g29) g30) g31)
  kernel_rfl
end Go.Proofs.YtiflikkmjeikdaaGreat.reqBurst
