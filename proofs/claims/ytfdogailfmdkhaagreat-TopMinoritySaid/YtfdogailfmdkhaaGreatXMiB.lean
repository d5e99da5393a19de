import Derived.Test.YtfdogailfmdkhaaGreatXMiS
import Derived.Test.YtfdogailfmdkhaaGreatMiJF
set_option linter.unusedVariables false
set_option maxRecDepth 100000
namespace Go.Proofs.YtfdogailfmdkhaaGreat
open Go Go.RowKit Go.Sx Go.Ev
theorem mchB : preR (fun F H => begR 1 F H (chkK 1 rs1A ob1A [721, 722, 725, 726, 727, 728, 736, 743, 744, 754, 762, 763, 770, 771, 772, 815, 816, 817, 818, 826, 833, 834, 844, 852, 853, 855, 857, 858, 859, 860, 861, 996, 1454, 1985, 2171, 2176, 2424, 2428, 2435, 2437, 2469, 2475, 2580, 2586, 2588, 2590, 2618, 2671] (begR 2 F H (chkK 1 rs2A ob2A [721, 722, 725, 726, 727, 728, 736, 743, 744, 754, 762, 763, 770, 771, 772, 773, 781, 788, 789, 799, 807, 808, 815, 816, 817, 855, 857, 858, 859, 860, 861, 996, 1454, 1985, 2171, 2176, 2410, 2414, 2421, 2423, 2455, 2461, 2588, 2594, 2596, 2598, 2626, 2679] (.ok .unk Hd))))) = .ok .unk Hd := by kernel_rfl
end Go.Proofs.YtfdogailfmdkhaaGreat

