import Derived.Test.YtfdogailfmdkhaaGreatXMiS
set_option linter.unusedVariables false
set_option maxRecDepth 100000
namespace Go.Proofs.YtfdogailfmdkhaaGreat
open Go Go.RowKit Go.Sx Go.Ev
theorem ch2C : Ev.start rs2C ob2C (chainR (fiS rs2D ob2D [0,1,2,3,4,5,6,7,8,9,10,11,12,13,14,15,16,17,18,19,20,21,22,23,24,25,26,27,28,29,30,31,32,33,34,35,36,37,38,39,40,41,42,43,44,45,46,49,51,54,56,57,58,91,981,1915,2893,3835,3837,3866,3869,4368,4373,4814,4821,4855,5070,5072,5098,5101,5650,5901,5905,5933,5939,6654,6705]) 5 18) = .ok .unk Hd := by kernel_rfl
end Go.Proofs.YtfdogailfmdkhaaGreat

