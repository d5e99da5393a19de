import Derived.Test.YtfdogailfmdkhaaGreatXMiS
set_option linter.unusedVariables false
set_option maxRecDepth 100000
namespace Go.Proofs.YtfdogailfmdkhaaGreat
open Go Go.RowKit Go.Sx Go.Ev
theorem ch1A : Ev.start rs1A ob1A (chainR (fiS rs1B ob1B [0,1,2,3,4,5,6,8,9,10,11,12,13,14,15,16,17,18,19,21,22,23,24,25,26,27,28,29,30,32,34,62,651,1283,1962,2690,3491,3493,3508,3511,3585,3816,4446,4448,4460,4463,5866,6500,7183,7913,7918,8230,8236,8242,8248,8252,8259,8261,8293,8305,8442,8448,8454,8460,8466,8468,8470,8498,8510,8572]) 10 1) = .ok .unk Hd := by kernel_rfl
end Go.Proofs.YtfdogailfmdkhaaGreat

