import Derived.Test.YtfdogailfmdkhaaGreatXCuS
set_option linter.unusedVariables false
set_option maxRecDepth 100000
namespace Go.Proofs.YtfdogailfmdkhaaGreat
open Go Go.RowKit Go.Sx Go.Ev
theorem cchC : Ev.start rsC obC (chainR (fiS rsD obD [0,1,2,3,4,5,6,7,8,9,10,11,12,13,14,15,16,17,18,19,20,21,22,23,24,25,26,27,28,29,30,31,32,33,34,35,36,37,38,39,40,41,42,43,44,45,46,47,48,49,50,51,52,53,54,55,58,62,64,65,66,67,68,69,70,97,98,99,100,126,828,830,856,859,1910,1912,1938,1941,4339,5529,6809,8163,8168,8492,8498,8504,8510,8514,8521,8523,8555,8570,8737,8743,8749,8755,8759,8766,8768,8800,8815,9042,9057,9225,9231,9237,9243,9249,9251,9253,9337]) 5 23) = .ok .unk Hd := by kernel_rfl
end Go.Proofs.YtfdogailfmdkhaaGreat

