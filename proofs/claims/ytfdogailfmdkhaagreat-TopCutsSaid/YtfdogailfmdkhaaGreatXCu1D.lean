import Derived.Test.YtfdogailfmdkhaaGreatXCuS
set_option linter.unusedVariables false
set_option maxRecDepth 100000
namespace Go.Proofs.YtfdogailfmdkhaaGreat
open Go Go.RowKit Go.Sx Go.Ev
theorem cchD : Ev.start rsD obD (chainR (fiS rsE obE [0,1,2,3,4,5,6,7,8,9,10,11,12,13,14,15,16,17,18,19,20,21,22,23,24,25,26,27,28,29,30,31,32,33,34,35,36,37,38,39,40,41,42,43,44,45,46,47,48,49,50,51,52,53,54,55,56,57,58,59,60,61,62,63,64,67,69,72,76,78,79,80,81,125,1618,3185,4430,4432,4468,4471,5453,5458,5912,5919,5953,6169,6171,6204,6207,6804,7021,7028,7062,7278,7280,7313,7316,7913,8182,8188,9238,9240,9242,9601]) 4 28) = .ok .unk Hd := by kernel_rfl
end Go.Proofs.YtfdogailfmdkhaaGreat

