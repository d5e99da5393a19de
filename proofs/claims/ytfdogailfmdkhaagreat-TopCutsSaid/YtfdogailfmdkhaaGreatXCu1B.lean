import Derived.Test.YtfdogailfmdkhaaGreatXCuS
set_option linter.unusedVariables false
set_option maxRecDepth 100000
namespace Go.Proofs.YtfdogailfmdkhaaGreat
open Go Go.RowKit Go.Sx Go.Ev
theorem cchB : Ev.start rsB obB (chainR (fiS rsC obC [0,1,2,3,4,5,6,7,8,9,10,11,12,13,14,15,16,17,18,19,20,21,22,23,24,25,26,27,28,29,30,31,32,33,34,35,36,37,38,39,40,41,42,43,44,45,46,47,48,49,50,51,52,53,56,58,63,64,65,66,71,72,73,74,96,1157,2305,3530,4823,6187,7625,7630,7995,8001,8007,8013,8019,8025,8031,8035,8042,8044,8076,8094,8266,8272,8278,8284,8290,8296,8302,8306,8313,8315,8347,8365,8615,8831,8833,8862,8865,9095,9101,9107,9113,9119,9125,9131,9137,9139,9141,9241]) 7 16) = .ok .unk Hd := by kernel_rfl
end Go.Proofs.YtfdogailfmdkhaaGreat

