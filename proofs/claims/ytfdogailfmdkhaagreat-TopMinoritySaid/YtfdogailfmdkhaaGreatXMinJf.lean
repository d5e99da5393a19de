import Derived.Test.YtfdogailfmdkhaaGreatRows
import Derived.Test.YtfdogailfmdkhaaGreatChecked
import Derived.JoinedOf
import Derived.KernelRfl
namespace Go.Proofs.YtfdogailfmdkhaaGreat
open Go
theorem topMinority_jf0 : (Rows.topMinorityRow.wf (OpenSpec.ofChange Rows.topMinoritySpec)) = true := by kernel_rfl
theorem topMinority_jf1 : (laidOutB Tryz.pinned.checked.prog) = true := by kernel_rfl
theorem topMinority_jf2 : (mapsRowed Tryz.pinned.checked.prog) = true := by kernel_rfl
theorem topMinority_jf3 : (Tryz.f3.params.all (Tryz.pinned.checked.prog.readableRec ·)) = true := by kernel_rfl
theorem topMinority_jf4 : (namedTie Tryz.pinned.checked.prog Rows.topMinorityRow.named Rows.topMinoritySpec.vars) = true := by kernel_rfl
theorem topMinority_jf5 : ((Rows.topMinorityRow.stops == [])) = true := by kernel_rfl
theorem topMinority_jf6 : ((Tryz.pinned.checked.prog.stops == [])) = true := by kernel_rfl
theorem topMinority_jf7 : ((Rows.topMinorityRow.knobs == [])) = true := by kernel_rfl
theorem topMinority_jf8 : ((Tryz.pinned.checked.prog.stopKnobs == [])) = true := by kernel_rfl
theorem topMinority_jf9 : ((Rows.topMinorityRow.inPlace == Tryz.pinned.checked.prog.inPlace 3)) = true := by kernel_rfl
theorem topMinority_jf10 : ((Rows.topMinorityRow.unfollowed == Tryz.pinned.checked.prog.unfollowed 3)) = true := by kernel_rfl
theorem topMinority_jf11 : ((Rows.topMinorityRow.recurses == Tryz.pinned.checked.prog.recurses 3)) = true := by kernel_rfl
theorem topMinority_jf12 : ((Rows.topMinorityRow.named == Tryz.pinned.checked.prog.varsNamed 3)) = true := by kernel_rfl
theorem topMinority_jf13 : ((Rows.topMinorityRow.maps == (Tryz.f3.params.toList ++ Rows.topMinoritySpec.plain.varTypes Tryz.pinned.checked.prog).any (Tryz.pinned.checked.prog.mapsRec ·))) = true := by kernel_rfl
theorem topMinority_jf14 : ((Rows.topMinorityRow.ifaces == (Tryz.f3.params.toList ++ Rows.topMinoritySpec.plain.varTypes Tryz.pinned.checked.prog).any (Tryz.pinned.checked.prog.ifacesRec ·))) = true := by kernel_rfl
theorem topMinority_jf15 : ((Rows.topMinorityRow.mapsOut == Tryz.pinned.checked.prog.mapsAmong Tryz.f3.resultTypes.toList)) = true := by kernel_rfl
theorem topMinority_jf16 : ((Rows.topMinorityRow.loops == (Tryz.f3.params.toList ++ Rows.topMinoritySpec.plain.varTypes Tryz.pinned.checked.prog).any (Tryz.pinned.checked.prog.loopsFrom ·))) = true := by kernel_rfl
theorem topMinority_jf17 : ((Rows.topMinorityRow.wideKeys == (Tryz.f3.params.toList ++ Rows.topMinoritySpec.plain.varTypes Tryz.pinned.checked.prog ++ Tryz.f3.resultTypes.toList).any (Tryz.pinned.checked.prog.wideKeysFrom ·))) = true := by kernel_rfl
theorem topMinority_jf18 : (Rows.topMinoritySpec.vars.all (Tryz.pinned.checked.prog.varReadable ·)) = true := by kernel_rfl
theorem topMinority_jf19 : (Tryz.f3.resultTypes.all (fun t => Tryz.pinned.checked.prog.readableRec t && decide (t < Tryz.pinned.checked.prog.types.size))) = true := by kernel_rfl
theorem topMinority_jf20 : ((Rows.topMinorityRow.ifacesOut == Tryz.f3.resultTypes.toList.any (Tryz.pinned.checked.prog.ifacesRec ·))) = true := by kernel_rfl
theorem topMinority_jf21 : ((Rows.topMinorityRow.loopsOut == Tryz.f3.resultTypes.toList.any (Tryz.pinned.checked.prog.loopsFrom ·))) = true := by kernel_rfl
theorem topMinority_jf22 : ((Rows.topMinorityRow.plainKeys == Tryz.pinned.checked.prog.plainKeys)) = true := by kernel_rfl
theorem topMinority_jf23 : (Rows.topMinorityRow.shortTexts.isNone) = true := by kernel_rfl
theorem topMinority_jf24 : (Tryz.pinned.checked.prog.stopsHeard) = true := by kernel_rfl
theorem topMinority_jf25 : (Tryz.pinned.checked.prog.mayEnter) = true := by kernel_rfl
theorem topMinority_jf26 : ((Rows.topMinorityRow.lifted == Tryz.pinned.checked.prog.liftsFinal)) = true := by kernel_rfl
theorem topMinority_jf27 : ((Tryz.pinned.checked.prog.make == some Rows.topMinorityRow.make)) = true := by kernel_rfl
theorem topMinority_jf29 : ((Rows.topMinorityRow.pinned == Rows.topMinorityRow.pinnedBy)) = true := by kernel_rfl
theorem topMinority_jf30 : ((Rows.topMinorityRow.veiled == (Tryz.f3.params.toList ++ Rows.topMinoritySpec.plain.varTypes Tryz.pinned.checked.prog ++ Tryz.f3.resultTypes.toList).any (Tryz.pinned.checked.prog.veiledRec ·))) = true := by kernel_rfl
theorem topMinority_jf31 : (Rows.topMinorityRow.veiledFits Tryz.pinned.checked.prog Tryz.f3.params.toList (Tryz.f3.params.toList ++ Rows.topMinoritySpec.plain.varTypes Tryz.pinned.checked.prog ++ Tryz.f3.resultTypes.toList)) = true := by kernel_rfl
theorem topMinority_and {x y : Bool} (hx : x = true) (hy : y = true) : (x && y) = true := by rw [hx, hy]; rfl
theorem topMinority_joined : joinedFacts Tryz.pinned.checked.prog 3 Tryz.f3 Rows.topMinoritySpec Rows.topMinorityRow = true := by
  unfold joinedFacts
  exact (topMinority_and (topMinority_and (topMinority_and (topMinority_and (topMinority_and (topMinority_and (topMinority_and (topMinority_and (topMinority_and (topMinority_and (topMinority_and (topMinority_and (topMinority_and (topMinority_and (topMinority_and (topMinority_and (topMinority_and (topMinority_and (topMinority_and (topMinority_and (topMinority_and (topMinority_and (topMinority_and (topMinority_and (topMinority_and (topMinority_and (topMinority_and (topMinority_and (topMinority_and (topMinority_and (topMinority_and topMinority_jf0 topMinority_jf1) topMinority_jf2) topMinority_jf3) topMinority_jf4) topMinority_jf5) topMinority_jf6) topMinority_jf7) topMinority_jf8) topMinority_jf9) topMinority_jf10) topMinority_jf11) topMinority_jf12) topMinority_jf13) topMinority_jf14) topMinority_jf15) topMinority_jf16) topMinority_jf17) topMinority_jf18) topMinority_jf19) topMinority_jf20) topMinority_jf21) topMinority_jf22) topMinority_jf23) topMinority_jf24) topMinority_jf25) topMinority_jf26) topMinority_jf27) (by kernel_rfl)) topMinority_jf29) topMinority_jf30) topMinority_jf31)
end Go.Proofs.YtfdogailfmdkhaaGreat

