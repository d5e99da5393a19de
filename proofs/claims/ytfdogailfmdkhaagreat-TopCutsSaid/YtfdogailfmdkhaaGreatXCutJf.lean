import Derived.Test.YtfdogailfmdkhaaGreatRows
import Derived.Test.YtfdogailfmdkhaaGreatChecked
import Derived.JoinedOf
import Derived.KernelRfl

namespace Go.Proofs.YtfdogailfmdkhaaGreat
open Go
theorem topCuts_jf0 : (Rows.topCutsRow.wf (OpenSpec.ofChange Rows.topCutsSpec)) = true := by kernel_rfl
theorem topCuts_jf1 : (laidOutB Tryz.pinned.checked.prog) = true := by kernel_rfl
theorem topCuts_jf2 : (mapsRowed Tryz.pinned.checked.prog) = true := by kernel_rfl
theorem topCuts_jf3 : (Tryz.f6.params.all (Tryz.pinned.checked.prog.readableRec ·)) = true := by kernel_rfl
theorem topCuts_jf4 : (namedTie Tryz.pinned.checked.prog Rows.topCutsRow.named Rows.topCutsSpec.vars) = true := by kernel_rfl
theorem topCuts_jf5 : ((Rows.topCutsRow.stops == [])) = true := by kernel_rfl
theorem topCuts_jf6 : ((Tryz.pinned.checked.prog.stops == [])) = true := by kernel_rfl
theorem topCuts_jf7 : ((Rows.topCutsRow.knobs == [])) = true := by kernel_rfl
theorem topCuts_jf8 : ((Tryz.pinned.checked.prog.stopKnobs == [])) = true := by kernel_rfl
theorem topCuts_jf9 : ((Rows.topCutsRow.inPlace == Tryz.pinned.checked.prog.inPlace 6)) = true := by kernel_rfl
theorem topCuts_jf10 : ((Rows.topCutsRow.unfollowed == Tryz.pinned.checked.prog.unfollowed 6)) = true := by kernel_rfl
theorem topCuts_jf11 : ((Rows.topCutsRow.recurses == Tryz.pinned.checked.prog.recurses 6)) = true := by kernel_rfl
theorem topCuts_jf12 : ((Rows.topCutsRow.named == Tryz.pinned.checked.prog.varsNamed 6)) = true := by kernel_rfl
theorem topCuts_jf13 : ((Rows.topCutsRow.maps == (Tryz.f6.params.toList ++ Rows.topCutsSpec.plain.varTypes Tryz.pinned.checked.prog).any (Tryz.pinned.checked.prog.mapsRec ·))) = true := by kernel_rfl
theorem topCuts_jf14 : ((Rows.topCutsRow.ifaces == (Tryz.f6.params.toList ++ Rows.topCutsSpec.plain.varTypes Tryz.pinned.checked.prog).any (Tryz.pinned.checked.prog.ifacesRec ·))) = true := by kernel_rfl
theorem topCuts_jf15 : ((Rows.topCutsRow.mapsOut == Tryz.pinned.checked.prog.mapsAmong Tryz.f6.resultTypes.toList)) = true := by kernel_rfl
theorem topCuts_jf16 : ((Rows.topCutsRow.loops == (Tryz.f6.params.toList ++ Rows.topCutsSpec.plain.varTypes Tryz.pinned.checked.prog).any (Tryz.pinned.checked.prog.loopsFrom ·))) = true := by kernel_rfl
theorem topCuts_jf17 : ((Rows.topCutsRow.wideKeys == (Tryz.f6.params.toList ++ Rows.topCutsSpec.plain.varTypes Tryz.pinned.checked.prog ++ Tryz.f6.resultTypes.toList).any (Tryz.pinned.checked.prog.wideKeysFrom ·))) = true := by kernel_rfl
theorem topCuts_jf18 : (Rows.topCutsSpec.vars.all (Tryz.pinned.checked.prog.varReadable ·)) = true := by kernel_rfl
theorem topCuts_jf19 : (Tryz.f6.resultTypes.all (fun t => Tryz.pinned.checked.prog.readableRec t && decide (t < Tryz.pinned.checked.prog.types.size))) = true := by kernel_rfl
theorem topCuts_jf20 : ((Rows.topCutsRow.ifacesOut == Tryz.f6.resultTypes.toList.any (Tryz.pinned.checked.prog.ifacesRec ·))) = true := by kernel_rfl
theorem topCuts_jf21 : ((Rows.topCutsRow.loopsOut == Tryz.f6.resultTypes.toList.any (Tryz.pinned.checked.prog.loopsFrom ·))) = true := by kernel_rfl
theorem topCuts_jf22 : ((Rows.topCutsRow.plainKeys == Tryz.pinned.checked.prog.plainKeys)) = true := by kernel_rfl
theorem topCuts_jf23 : (Rows.topCutsRow.shortTexts.isNone) = true := by kernel_rfl
theorem topCuts_jf24 : (Tryz.pinned.checked.prog.stopsHeard) = true := by kernel_rfl
theorem topCuts_jf25 : (Tryz.pinned.checked.prog.mayEnter) = true := by kernel_rfl
theorem topCuts_jf26 : ((Rows.topCutsRow.lifted == Tryz.pinned.checked.prog.liftsFinal)) = true := by kernel_rfl
theorem topCuts_jf27 : ((Tryz.pinned.checked.prog.make == some Rows.topCutsRow.make)) = true := by kernel_rfl
theorem topCuts_jf29 : ((Rows.topCutsRow.pinned == Rows.topCutsRow.pinnedBy)) = true := by kernel_rfl
theorem topCuts_jf30 : ((Rows.topCutsRow.veiled == (Tryz.f6.params.toList ++ Rows.topCutsSpec.plain.varTypes Tryz.pinned.checked.prog ++ Tryz.f6.resultTypes.toList).any (Tryz.pinned.checked.prog.veiledRec ·))) = true := by kernel_rfl
theorem topCuts_jf31 : (Rows.topCutsRow.veiledFits Tryz.pinned.checked.prog Tryz.f6.params.toList (Tryz.f6.params.toList ++ Rows.topCutsSpec.plain.varTypes Tryz.pinned.checked.prog ++ Tryz.f6.resultTypes.toList)) = true := by kernel_rfl
theorem topCuts_and {x y : Bool} (hx : x = true) (hy : y = true) : (x && y) = true := by rw [hx, hy]; rfl
theorem topCuts_joined : joinedFacts Tryz.pinned.checked.prog 6 Tryz.f6 Rows.topCutsSpec Rows.topCutsRow = true := by
  unfold joinedFacts
  exact (topCuts_and (topCuts_and (topCuts_and (topCuts_and (topCuts_and (topCuts_and (topCuts_and (topCuts_and (topCuts_and (topCuts_and (topCuts_and (topCuts_and (topCuts_and (topCuts_and (topCuts_and (topCuts_and (topCuts_and (topCuts_and (topCuts_and (topCuts_and (topCuts_and (topCuts_and (topCuts_and (topCuts_and (topCuts_and (topCuts_and (topCuts_and (topCuts_and (topCuts_and (topCuts_and (topCuts_and topCuts_jf0 topCuts_jf1) topCuts_jf2) topCuts_jf3) topCuts_jf4) topCuts_jf5) topCuts_jf6) topCuts_jf7) topCuts_jf8) topCuts_jf9) topCuts_jf10) topCuts_jf11) topCuts_jf12) topCuts_jf13) topCuts_jf14) topCuts_jf15) topCuts_jf16) topCuts_jf17) topCuts_jf18) topCuts_jf19) topCuts_jf20) topCuts_jf21) topCuts_jf22) topCuts_jf23) topCuts_jf24) topCuts_jf25) topCuts_jf26) topCuts_jf27) (by kernel_rfl)) topCuts_jf29) topCuts_jf30) topCuts_jf31)
end Go.Proofs.YtfdogailfmdkhaaGreat

