import Derived.Test.YtfdogailfmdkhaaGreatRows
import Derived.Test.YtfdogailfmdkhaaGreatChecked
import Derived.JoinedOf
import Derived.KernelRfl

namespace Go.Proofs.YtfdogailfmdkhaaGreat
open Go
theorem topOnce_jf0 : (Rows.topOnceRow.wf (OpenSpec.ofChange Rows.topOnceSpec)) = true := by kernel_rfl
theorem topOnce_jf1 : (laidOutB Tryz.pinned.checked.prog) = true := by kernel_rfl
theorem topOnce_jf2 : (mapsRowed Tryz.pinned.checked.prog) = true := by kernel_rfl
theorem topOnce_jf3 : (Tryz.f7.params.all (Tryz.pinned.checked.prog.readableRec ·)) = true := by kernel_rfl
theorem topOnce_jf4 : (namedTie Tryz.pinned.checked.prog Rows.topOnceRow.named Rows.topOnceSpec.vars) = true := by kernel_rfl
theorem topOnce_jf5 : ((Rows.topOnceRow.stops == [])) = true := by kernel_rfl
theorem topOnce_jf6 : ((Tryz.pinned.checked.prog.stops == [])) = true := by kernel_rfl
theorem topOnce_jf7 : ((Rows.topOnceRow.knobs == [])) = true := by kernel_rfl
theorem topOnce_jf8 : ((Tryz.pinned.checked.prog.stopKnobs == [])) = true := by kernel_rfl
theorem topOnce_jf9 : ((Rows.topOnceRow.inPlace == Tryz.pinned.checked.prog.inPlace 7)) = true := by kernel_rfl
theorem topOnce_jf10 : ((Rows.topOnceRow.unfollowed == Tryz.pinned.checked.prog.unfollowed 7)) = true := by kernel_rfl
theorem topOnce_jf11 : ((Rows.topOnceRow.recurses == Tryz.pinned.checked.prog.recurses 7)) = true := by kernel_rfl
theorem topOnce_jf12 : ((Rows.topOnceRow.named == Tryz.pinned.checked.prog.varsNamed 7)) = true := by kernel_rfl
theorem topOnce_jf13 : ((Rows.topOnceRow.maps == (Tryz.f7.params.toList ++ Rows.topOnceSpec.plain.varTypes Tryz.pinned.checked.prog).any (Tryz.pinned.checked.prog.mapsRec ·))) = true := by kernel_rfl
theorem topOnce_jf14 : ((Rows.topOnceRow.ifaces == (Tryz.f7.params.toList ++ Rows.topOnceSpec.plain.varTypes Tryz.pinned.checked.prog).any (Tryz.pinned.checked.prog.ifacesRec ·))) = true := by kernel_rfl
theorem topOnce_jf15 : ((Rows.topOnceRow.mapsOut == Tryz.pinned.checked.prog.mapsAmong Tryz.f7.resultTypes.toList)) = true := by kernel_rfl
theorem topOnce_jf16 : ((Rows.topOnceRow.loops == (Tryz.f7.params.toList ++ Rows.topOnceSpec.plain.varTypes Tryz.pinned.checked.prog).any (Tryz.pinned.checked.prog.loopsFrom ·))) = true := by kernel_rfl
theorem topOnce_jf17 : ((Rows.topOnceRow.wideKeys == (Tryz.f7.params.toList ++ Rows.topOnceSpec.plain.varTypes Tryz.pinned.checked.prog ++ Tryz.f7.resultTypes.toList).any (Tryz.pinned.checked.prog.wideKeysFrom ·))) = true := by kernel_rfl
theorem topOnce_jf18 : (Rows.topOnceSpec.vars.all (Tryz.pinned.checked.prog.varReadable ·)) = true := by kernel_rfl
theorem topOnce_jf19 : (Tryz.f7.resultTypes.all (fun t => Tryz.pinned.checked.prog.readableRec t && decide (t < Tryz.pinned.checked.prog.types.size))) = true := by kernel_rfl
theorem topOnce_jf20 : ((Rows.topOnceRow.ifacesOut == Tryz.f7.resultTypes.toList.any (Tryz.pinned.checked.prog.ifacesRec ·))) = true := by kernel_rfl
theorem topOnce_jf21 : ((Rows.topOnceRow.loopsOut == Tryz.f7.resultTypes.toList.any (Tryz.pinned.checked.prog.loopsFrom ·))) = true := by kernel_rfl
theorem topOnce_jf22 : ((Rows.topOnceRow.plainKeys == Tryz.pinned.checked.prog.plainKeys)) = true := by kernel_rfl
theorem topOnce_jf23 : (Rows.topOnceRow.shortTexts.isNone) = true := by kernel_rfl
theorem topOnce_jf24 : (Tryz.pinned.checked.prog.stopsHeard) = true := by kernel_rfl
theorem topOnce_jf25 : (Tryz.pinned.checked.prog.mayEnter) = true := by kernel_rfl
theorem topOnce_jf26 : ((Rows.topOnceRow.lifted == Tryz.pinned.checked.prog.liftsFinal)) = true := by kernel_rfl
theorem topOnce_jf27 : ((Tryz.pinned.checked.prog.make == some Rows.topOnceRow.make)) = true := by kernel_rfl
theorem topOnce_jf29 : ((Rows.topOnceRow.pinned == Rows.topOnceRow.pinnedBy)) = true := by kernel_rfl
theorem topOnce_jf30 : ((Rows.topOnceRow.veiled == (Tryz.f7.params.toList ++ Rows.topOnceSpec.plain.varTypes Tryz.pinned.checked.prog ++ Tryz.f7.resultTypes.toList).any (Tryz.pinned.checked.prog.veiledRec ·))) = true := by kernel_rfl
theorem topOnce_jf31 : (Rows.topOnceRow.veiledFits Tryz.pinned.checked.prog Tryz.f7.params.toList (Tryz.f7.params.toList ++ Rows.topOnceSpec.plain.varTypes Tryz.pinned.checked.prog ++ Tryz.f7.resultTypes.toList)) = true := by kernel_rfl
theorem topOnce_and {x y : Bool} (hx : x = true) (hy : y = true) : (x && y) = true := by rw [hx, hy]; rfl
theorem topOnce_joined : joinedFacts Tryz.pinned.checked.prog 7 Tryz.f7 Rows.topOnceSpec Rows.topOnceRow = true := by
  unfold joinedFacts
  exact (topOnce_and (topOnce_and (topOnce_and (topOnce_and (topOnce_and (topOnce_and (topOnce_and (topOnce_and (topOnce_and (topOnce_and (topOnce_and (topOnce_and (topOnce_and (topOnce_and (topOnce_and (topOnce_and (topOnce_and (topOnce_and (topOnce_and (topOnce_and (topOnce_and (topOnce_and (topOnce_and (topOnce_and (topOnce_and (topOnce_and (topOnce_and (topOnce_and (topOnce_and (topOnce_and (topOnce_and topOnce_jf0 topOnce_jf1) topOnce_jf2) topOnce_jf3) topOnce_jf4) topOnce_jf5) topOnce_jf6) topOnce_jf7) topOnce_jf8) topOnce_jf9) topOnce_jf10) topOnce_jf11) topOnce_jf12) topOnce_jf13) topOnce_jf14) topOnce_jf15) topOnce_jf16) topOnce_jf17) topOnce_jf18) topOnce_jf19) topOnce_jf20) topOnce_jf21) topOnce_jf22) topOnce_jf23) topOnce_jf24) topOnce_jf25) topOnce_jf26) topOnce_jf27) (by kernel_rfl)) topOnce_jf29) topOnce_jf30) topOnce_jf31)
end Go.Proofs.YtfdogailfmdkhaaGreat

