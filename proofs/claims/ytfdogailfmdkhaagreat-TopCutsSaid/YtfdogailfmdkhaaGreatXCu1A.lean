import Derived.Test.YtfdogailfmdkhaaGreatXCuS
set_option linter.unusedVariables false
set_option maxRecDepth 100000
namespace Go.Proofs.YtfdogailfmdkhaaGreat
open Go Go.RowKit Go.Sx Go.Ev
theorem cchA : Ev.start rsA obA (chainR (fiS rsB obB [0,1,2,3,4,5,6,7,8,9,10,11,12,13,14,15,16,17,18,19,20,21,22,23,24,25,26,27,28,29,30,31,32,33,34,35,36,37,38,39,40,41,44,46,53,61,64,85,1017,2036,3129,4293,5528,6837,8004,8006,8028,8031,8777,8782,9209,9216,9250,9466,9468,9487,9490,10047,10264,10271,10305,10521,10523,10542,10545,11102,11371,11377,12339,12341,12343,12624]) 8 8) = .ok .unk Hd := by kernel_rfl
end Go.Proofs.YtfdogailfmdkhaaGreat

