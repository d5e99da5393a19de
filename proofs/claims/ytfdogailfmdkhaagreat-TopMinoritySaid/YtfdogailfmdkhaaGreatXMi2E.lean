import Derived.Test.YtfdogailfmdkhaaGreatXMiS
set_option linter.unusedVariables false
set_option maxRecDepth 100000
namespace Go.Proofs.YtfdogailfmdkhaaGreat
open Go Go.RowKit Go.Sx Go.Ev
theorem ch2E : Ev.start rs2E ob2E (chainR (fiS rs2F ob2F [0,1,2,3,4,5,6,7,8,9,10,11,12,13,14,15,16,17,18,19,20,21,22,23,24,25,26,27,28,29,30,31,32,33,34,35,36,37,38,39,40,41,42,43,44,45,46,47,48,49,50,51,52,53,54,55,56,59,61,64,66,67,68,69,70,107,1188,2156,2158,2194,2197,2788,3503,3505,3538,3541,5476,5481,5762,5766,5773,5775,5807,5813,5993,5999,6001,6003,6031,6040,6141]) 4 28) = .ok .unk Hd := by kernel_rfl
end Go.Proofs.YtfdogailfmdkhaaGreat

