import Derived.Test.YtfdogailfmdkhaaGreatRows
import Derived.Test.YtfdogailfmdkhaaGreatChecked
import Derived.JoinedOf
import Derived.KernelRfl

namespace Go.Proofs.YtfdogailfmdkhaaGreat
open Go
theorem topFiles_jf0 : (Rows.topFilesRow.wf (OpenSpec.ofChange Rows.topFilesSpec)) = true := by kernel_rfl
theorem topFiles_jf1 : (laidOutB Tryz.pinned.checked.prog) = true := by kernel_rfl
theorem topFiles_jf2 : (mapsRowed Tryz.pinned.checked.prog) = true := by kernel_rfl
theorem topFiles_jf3 : (Tryz.f5.params.all (Tryz.pinned.checked.prog.readableRec ·)) = true := by kernel_rfl
theorem topFiles_jf4 : (namedTie Tryz.pinned.checked.prog Rows.topFilesRow.named Rows.topFilesSpec.vars) = true := by kernel_rfl
theorem topFiles_jf5 : ((Rows.topFilesRow.stops == [])) = true := by kernel_rfl
theorem topFiles_jf6 : ((Tryz.pinned.checked.prog.stops == [])) = true := by kernel_rfl
theorem topFiles_jf7 : ((Rows.topFilesRow.knobs == [])) = true := by kernel_rfl
theorem topFiles_jf8 : ((Tryz.pinned.checked.prog.stopKnobs == [])) = true := by kernel_rfl
theorem topFiles_jf9 : ((Rows.topFilesRow.inPlace == Tryz.pinned.checked.prog.inPlace 5)) = true := by kernel_rfl
theorem topFiles_jf10 : ((Rows.topFilesRow.unfollowed == Tryz.pinned.checked.prog.unfollowed 5)) = true := by kernel_rfl
theorem topFiles_jf11 : ((Rows.topFilesRow.recurses == Tryz.pinned.checked.prog.recurses 5)) = true := by kernel_rfl
theorem topFiles_jf12 : ((Rows.topFilesRow.named == Tryz.pinned.checked.prog.varsNamed 5)) = true := by kernel_rfl
theorem topFiles_jf13 : ((Rows.topFilesRow.maps == (Tryz.f5.params.toList ++ Rows.topFilesSpec.plain.varTypes Tryz.pinned.checked.prog).any (Tryz.pinned.checked.prog.mapsRec ·))) = true := by kernel_rfl
theorem topFiles_jf14 : ((Rows.topFilesRow.ifaces == (Tryz.f5.params.toList ++ Rows.topFilesSpec.plain.varTypes Tryz.pinned.checked.prog).any (Tryz.pinned.checked.prog.ifacesRec ·))) = true := by kernel_rfl
theorem topFiles_jf15 : ((Rows.topFilesRow.mapsOut == Tryz.pinned.checked.prog.mapsAmong Tryz.f5.resultTypes.toList)) = true := by kernel_rfl
theorem topFiles_jf16 : ((Rows.topFilesRow.loops == (Tryz.f5.params.toList ++ Rows.topFilesSpec.plain.varTypes Tryz.pinned.checked.prog).any (Tryz.pinned.checked.prog.loopsFrom ·))) = true := by kernel_rfl
theorem topFiles_jf17 : ((Rows.topFilesRow.wideKeys == (Tryz.f5.params.toList ++ Rows.topFilesSpec.plain.varTypes Tryz.pinned.checked.prog ++ Tryz.f5.resultTypes.toList).any (Tryz.pinned.checked.prog.wideKeysFrom ·))) = true := by kernel_rfl
theorem topFiles_jf18 : (Rows.topFilesSpec.vars.all (Tryz.pinned.checked.prog.varReadable ·)) = true := by kernel_rfl
theorem topFiles_jf19 : (Tryz.f5.resultTypes.all (fun t => Tryz.pinned.checked.prog.readableRec t && decide (t < Tryz.pinned.checked.prog.types.size))) = true := by kernel_rfl
theorem topFiles_jf20 : ((Rows.topFilesRow.ifacesOut == Tryz.f5.resultTypes.toList.any (Tryz.pinned.checked.prog.ifacesRec ·))) = true := by kernel_rfl
theorem topFiles_jf21 : ((Rows.topFilesRow.loopsOut == Tryz.f5.resultTypes.toList.any (Tryz.pinned.checked.prog.loopsFrom ·))) = true := by kernel_rfl
theorem topFiles_jf22 : ((Rows.topFilesRow.plainKeys == Tryz.pinned.checked.prog.plainKeys)) = true := by kernel_rfl
theorem topFiles_jf23 : (Rows.topFilesRow.shortTexts.isNone) = true := by kernel_rfl
theorem topFiles_jf24 : (Tryz.pinned.checked.prog.stopsHeard) = true := by kernel_rfl
theorem topFiles_jf25 : (Tryz.pinned.checked.prog.mayEnter) = true := by kernel_rfl
theorem topFiles_jf26 : ((Rows.topFilesRow.lifted == Tryz.pinned.checked.prog.liftsFinal)) = true := by kernel_rfl
theorem topFiles_jf27 : ((Tryz.pinned.checked.prog.make == some Rows.topFilesRow.make)) = true := by kernel_rfl
theorem topFiles_jf29 : ((Rows.topFilesRow.pinned == Rows.topFilesRow.pinnedBy)) = true := by kernel_rfl
theorem topFiles_jf30 : ((Rows.topFilesRow.veiled == (Tryz.f5.params.toList ++ Rows.topFilesSpec.plain.varTypes Tryz.pinned.checked.prog ++ Tryz.f5.resultTypes.toList).any (Tryz.pinned.checked.prog.veiledRec ·))) = true := by kernel_rfl
theorem topFiles_jf31 : (Rows.topFilesRow.veiledFits Tryz.pinned.checked.prog Tryz.f5.params.toList (Tryz.f5.params.toList ++ Rows.topFilesSpec.plain.varTypes Tryz.pinned.checked.prog ++ Tryz.f5.resultTypes.toList)) = true := by kernel_rfl
theorem topFiles_and {x y : Bool} (hx : x = true) (hy : y = true) : (x && y) = true := by rw [hx, hy]; rfl
theorem topFiles_joined : joinedFacts Tryz.pinned.checked.prog 5 Tryz.f5 Rows.topFilesSpec Rows.topFilesRow = true := by
  unfold joinedFacts
  exact (topFiles_and (topFiles_and (topFiles_and (topFiles_and (topFiles_and (topFiles_and (topFiles_and (topFiles_and (topFiles_and (topFiles_and (topFiles_and (topFiles_and (topFiles_and (topFiles_and (topFiles_and (topFiles_and (topFiles_and (topFiles_and (topFiles_and (topFiles_and (topFiles_and (topFiles_and (topFiles_and (topFiles_and (topFiles_and (topFiles_and (topFiles_and (topFiles_and (topFiles_and (topFiles_and (topFiles_and topFiles_jf0 topFiles_jf1) topFiles_jf2) topFiles_jf3) topFiles_jf4) topFiles_jf5) topFiles_jf6) topFiles_jf7) topFiles_jf8) topFiles_jf9) topFiles_jf10) topFiles_jf11) topFiles_jf12) topFiles_jf13) topFiles_jf14) topFiles_jf15) topFiles_jf16) topFiles_jf17) topFiles_jf18) topFiles_jf19) topFiles_jf20) topFiles_jf21) topFiles_jf22) topFiles_jf23) topFiles_jf24) topFiles_jf25) topFiles_jf26) topFiles_jf27) (by kernel_rfl)) topFiles_jf29) topFiles_jf30) topFiles_jf31)
end Go.Proofs.YtfdogailfmdkhaaGreat

