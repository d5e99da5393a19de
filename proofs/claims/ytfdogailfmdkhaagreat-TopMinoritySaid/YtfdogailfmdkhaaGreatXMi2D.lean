import Derived.Test.YtfdogailfmdkhaaGreatXMiS
set_option linter.unusedVariables false
set_option maxRecDepth 100000
namespace Go.Proofs.YtfdogailfmdkhaaGreat
open Go Go.RowKit Go.Sx Go.Ev
theorem ch2D : Ev.start rs2D ob2D (chainR (fiS rs2E ob2E [0,1,2,3,4,5,6,7,8,9,10,11,12,13,14,15,16,17,18,19,20,21,22,23,24,25,26,27,28,29,30,31,32,33,34,35,36,37,38,39,40,41,42,43,44,45,46,47,48,49,50,51,52,53,54,55,56,57,58,59,60,61,66,67,68,69,91,939,1838,2784,3777,3782,4124,4130,4136,4142,4148,4152,4159,4161,4193,4205,4396,4402,4408,4414,4420,4426,4428,4430,4458,4470,4558]) 5 23) = .ok .unk Hd := by kernel_rfl
end Go.Proofs.YtfdogailfmdkhaaGreat

