import Derived.Test.YtfdogailfmdkhaaGreatXMiS
set_option linter.unusedVariables false
set_option maxRecDepth 100000
namespace Go.Proofs.YtfdogailfmdkhaaGreat
open Go Go.RowKit Go.Sx Go.Ev
theorem ch1E : Ev.start rs1E ob1E (chainR (fiS rs1F ob1F [0,1,2,3,4,5,6,7,8,9,10,11,12,13,14,15,16,17,18,19,20,21,22,23,24,25,26,27,28,29,30,31,32,33,34,35,36,37,38,39,40,41,42,43,44,45,46,47,48,49,50,51,52,53,54,55,56,59,61,64,66,67,68,69,70,107,1180,2140,2142,2178,2181,2772,3501,3503,3536,3539,5436,5441,5736,5740,5747,5749,5781,5787,5945,5951,5953,5955,5983,5992,6093]) 4 28) = .ok .unk Hd := by kernel_rfl
end Go.Proofs.YtfdogailfmdkhaaGreat

