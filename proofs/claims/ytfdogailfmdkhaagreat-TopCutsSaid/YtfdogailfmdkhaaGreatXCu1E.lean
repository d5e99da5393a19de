import Derived.Test.YtfdogailfmdkhaaGreatXCuS
set_option linter.unusedVariables false
set_option maxRecDepth 100000
namespace Go.Proofs.YtfdogailfmdkhaaGreat
open Go Go.RowKit Go.Sx Go.Ev
theorem cchE : Ev.start rsE obE (chainR (fiS rsF obF [0,1,2,3,4,5,6,7,8,9,10,11,12,13,14,15,16,17,18,19,20,21,22,23,24,25,26,27,28,29,30,31,32,33,34,35,36,37,38,39,40,41,42,43,44,45,46,47,48,49,50,51,52,53,54,55,56,57,58,59,60,61,62,63,64,65,66,67,68,69,70,71,72,73,74,75,76,77,78,79,80,85,86,87,88,93,94,95,96,118,1440,2849,4332,5883,5888,6243,6249,6255,6261,6267,6271,6278,6280,6312,6327,6513,6519,6525,6531,6537,6541,6548,6550,6582,6597,6849,6867,7054,7060,7066,7072,7078,7084,7086,7088,7185]) 5 32) = .ok .unk Hd := by kernel_rfl
end Go.Proofs.YtfdogailfmdkhaaGreat

