import Derived.Test.YtfdogailfmdkhaaGreatXMiS
set_option linter.unusedVariables false
set_option maxRecDepth 100000
namespace Go.Proofs.YtfdogailfmdkhaaGreat
open Go Go.RowKit Go.Sx Go.Ev
theorem ch1B : Ev.start rs1B ob1B (chainR (fiS rs1C ob1C [0,1,2,3,4,5,6,7,8,9,10,11,12,13,14,15,16,17,18,19,20,21,22,23,24,25,26,27,28,29,30,31,32,33,34,35,38,40,41,44,46,47,48,49,84,907,1774,2680,2682,2704,2707,3114,3814,3816,3835,3838,5501,6238,7024,7029,7336,7342,7348,7352,7359,7361,7393,7402,7546,7552,7558,7564,7566,7568,7596,7608,7683]) 7 11) = .ok .unk Hd := by kernel_rfl
end Go.Proofs.YtfdogailfmdkhaaGreat

