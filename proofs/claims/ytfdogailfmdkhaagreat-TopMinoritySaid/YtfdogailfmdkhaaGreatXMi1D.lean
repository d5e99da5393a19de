import Derived.Test.YtfdogailfmdkhaaGreatXMiS
set_option linter.unusedVariables false
set_option maxRecDepth 100000
namespace Go.Proofs.YtfdogailfmdkhaaGreat
open Go Go.RowKit Go.Sx Go.Ev
theorem ch1D : Ev.start rs1D ob1D (chainR (fiS rs1E ob1E [0,1,2,3,4,5,6,7,8,9,10,11,12,13,14,15,16,17,18,19,20,21,22,23,24,25,26,27,28,29,30,31,32,33,34,35,36,37,38,39,40,41,42,43,44,45,46,47,48,49,50,51,52,53,54,55,56,57,58,59,60,61,66,67,68,69,91,931,1822,2760,3745,3750,4106,4112,4118,4124,4130,4134,4141,4143,4175,4187,4356,4362,4368,4374,4380,4386,4388,4390,4418,4430,4518]) 5 23) = .ok .unk Hd := by kernel_rfl
end Go.Proofs.YtfdogailfmdkhaaGreat

