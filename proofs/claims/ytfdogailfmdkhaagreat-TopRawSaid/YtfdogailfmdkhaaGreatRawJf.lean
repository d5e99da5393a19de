import Derived.Test.YtfdogailfmdkhaaGreatRows
import Derived.Test.YtfdogailfmdkhaaGreatChecked
import Derived.JoinedOf
import Derived.KernelRfl
/- The closed facts of the row of cachettop.TopRaw, one by one. -/
namespace Go.Proofs.YtfdogailfmdkhaaGreat
open Go
theorem topRaw_jf0 : (Rows.topRawRow.wf (OpenSpec.ofChange Rows.topRawSpec)) = true := by kernel_rfl
theorem topRaw_jf1 : (laidOutB Tryz.pinned.checked.prog) = true := by kernel_rfl
theorem topRaw_jf2 : (mapsRowed Tryz.pinned.checked.prog) = true := by kernel_rfl
theorem topRaw_jf3 : (Tryz.f4.params.all (Tryz.pinned.checked.prog.readableRec ·)) = true := by kernel_rfl
theorem topRaw_jf4 : (namedTie Tryz.pinned.checked.prog Rows.topRawRow.named Rows.topRawSpec.vars) = true := by kernel_rfl
theorem topRaw_jf5 : ((Rows.topRawRow.stops == [])) = true := by kernel_rfl
theorem topRaw_jf6 : ((Tryz.pinned.checked.prog.stops == [])) = true := by kernel_rfl
theorem topRaw_jf7 : ((Rows.topRawRow.knobs == [])) = true := by kernel_rfl
theorem topRaw_jf8 : ((Tryz.pinned.checked.prog.stopKnobs == [])) = true := by kernel_rfl
theorem topRaw_jf9 : ((Rows.topRawRow.inPlace == Tryz.pinned.checked.prog.inPlace 4)) = true := by kernel_rfl
theorem topRaw_jf10 : ((Rows.topRawRow.unfollowed == Tryz.pinned.checked.prog.unfollowed 4)) = true := by kernel_rfl
theorem topRaw_jf11 : ((Rows.topRawRow.recurses == Tryz.pinned.checked.prog.recurses 4)) = true := by kernel_rfl
theorem topRaw_jf12 : ((Rows.topRawRow.named == Tryz.pinned.checked.prog.varsNamed 4)) = true := by kernel_rfl
theorem topRaw_jf13 : ((Rows.topRawRow.maps == (Tryz.f4.params.toList ++ Rows.topRawSpec.plain.varTypes Tryz.pinned.checked.prog).any (Tryz.pinned.checked.prog.mapsRec ·))) = true := by kernel_rfl
theorem topRaw_jf14 : ((Rows.topRawRow.ifaces == (Tryz.f4.params.toList ++ Rows.topRawSpec.plain.varTypes Tryz.pinned.checked.prog).any (Tryz.pinned.checked.prog.ifacesRec ·))) = true := by kernel_rfl
theorem topRaw_jf15 : ((Rows.topRawRow.mapsOut == Tryz.pinned.checked.prog.mapsAmong Tryz.f4.resultTypes.toList)) = true := by kernel_rfl
theorem topRaw_jf16 : ((Rows.topRawRow.loops == (Tryz.f4.params.toList ++ Rows.topRawSpec.plain.varTypes Tryz.pinned.checked.prog).any (Tryz.pinned.checked.prog.loopsFrom ·))) = true := by kernel_rfl
theorem topRaw_jf17 : ((Rows.topRawRow.wideKeys == (Tryz.f4.params.toList ++ Rows.topRawSpec.plain.varTypes Tryz.pinned.checked.prog ++ Tryz.f4.resultTypes.toList).any (Tryz.pinned.checked.prog.wideKeysFrom ·))) = true := by kernel_rfl
theorem topRaw_jf18 : (Rows.topRawSpec.vars.all (Tryz.pinned.checked.prog.varReadable ·)) = true := by kernel_rfl
theorem topRaw_jf19 : (Tryz.f4.resultTypes.all (fun t => Tryz.pinned.checked.prog.readableRec t && decide (t < Tryz.pinned.checked.prog.types.size))) = true := by kernel_rfl
theorem topRaw_jf20 : ((Rows.topRawRow.ifacesOut == Tryz.f4.resultTypes.toList.any (Tryz.pinned.checked.prog.ifacesRec ·))) = true := by kernel_rfl
theorem topRaw_jf21 : ((Rows.topRawRow.loopsOut == Tryz.f4.resultTypes.toList.any (Tryz.pinned.checked.prog.loopsFrom ·))) = true := by kernel_rfl
theorem topRaw_jf22 : ((Rows.topRawRow.plainKeys == Tryz.pinned.checked.prog.plainKeys)) = true := by kernel_rfl
theorem topRaw_jf23 : (Rows.topRawRow.shortTexts.isNone) = true := by kernel_rfl
theorem topRaw_jf24 : (Tryz.pinned.checked.prog.stopsHeard) = true := by kernel_rfl
theorem topRaw_jf25 : (Tryz.pinned.checked.prog.mayEnter) = true := by kernel_rfl
theorem topRaw_jf26 : ((Rows.topRawRow.lifted == Tryz.pinned.checked.prog.liftsFinal)) = true := by kernel_rfl
theorem topRaw_jf27 : ((Tryz.pinned.checked.prog.make == some Rows.topRawRow.make)) = true := by kernel_rfl
theorem topRaw_jf29 : ((Rows.topRawRow.pinned == Rows.topRawRow.pinnedBy)) = true := by kernel_rfl
theorem topRaw_jf30 : ((Rows.topRawRow.veiled == (Tryz.f4.params.toList ++ Rows.topRawSpec.plain.varTypes Tryz.pinned.checked.prog ++ Tryz.f4.resultTypes.toList).any (Tryz.pinned.checked.prog.veiledRec ·))) = true := by kernel_rfl
theorem topRaw_jf31 : (Rows.topRawRow.veiledFits Tryz.pinned.checked.prog Tryz.f4.params.toList (Tryz.f4.params.toList ++ Rows.topRawSpec.plain.varTypes Tryz.pinned.checked.prog ++ Tryz.f4.resultTypes.toList)) = true := by kernel_rfl
theorem topRaw_and {x y : Bool} (hx : x = true) (hy : y = true) : (x && y) = true := by rw [hx, hy]; rfl
theorem topRaw_joined : joinedFacts Tryz.pinned.checked.prog 4 Tryz.f4 Rows.topRawSpec Rows.topRawRow = true := by
  unfold joinedFacts
  exact (topRaw_and (topRaw_and (topRaw_and (topRaw_and (topRaw_and (topRaw_and (topRaw_and (topRaw_and (topRaw_and (topRaw_and (topRaw_and (topRaw_and (topRaw_and (topRaw_and (topRaw_and (topRaw_and (topRaw_and (topRaw_and (topRaw_and (topRaw_and (topRaw_and (topRaw_and (topRaw_and (topRaw_and (topRaw_and (topRaw_and (topRaw_and (topRaw_and (topRaw_and (topRaw_and (topRaw_and topRaw_jf0 topRaw_jf1) topRaw_jf2) topRaw_jf3) topRaw_jf4) topRaw_jf5) topRaw_jf6) topRaw_jf7) topRaw_jf8) topRaw_jf9) topRaw_jf10) topRaw_jf11) topRaw_jf12) topRaw_jf13) topRaw_jf14) topRaw_jf15) topRaw_jf16) topRaw_jf17) topRaw_jf18) topRaw_jf19) topRaw_jf20) topRaw_jf21) topRaw_jf22) topRaw_jf23) topRaw_jf24) topRaw_jf25) topRaw_jf26) topRaw_jf27) (by kernel_rfl)) topRaw_jf29) topRaw_jf30) topRaw_jf31)
end Go.Proofs.YtfdogailfmdkhaaGreat
