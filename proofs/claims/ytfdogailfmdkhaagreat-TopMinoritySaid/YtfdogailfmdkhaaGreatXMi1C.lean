import Derived.Test.YtfdogailfmdkhaaGreatXMiS
set_option linter.unusedVariables false
set_option maxRecDepth 100000
namespace Go.Proofs.YtfdogailfmdkhaaGreat
open Go Go.RowKit Go.Sx Go.Ev
theorem ch1C : Ev.start rs1C ob1C (chainR (fiS rs1D ob1D [0,1,2,3,4,5,6,7,8,9,10,11,12,13,14,15,16,17,18,19,20,21,22,23,24,25,26,27,28,29,30,31,32,33,34,35,36,37,38,39,40,41,42,43,44,45,46,49,51,54,56,57,58,91,973,1899,2869,3803,3805,3834,3837,4336,4341,4796,4803,4837,5052,5054,5080,5083,5632,5845,5849,5877,5883,6598,6649]) 5 18) = .ok .unk Hd := by kernel_rfl
end Go.Proofs.YtfdogailfmdkhaaGreat

