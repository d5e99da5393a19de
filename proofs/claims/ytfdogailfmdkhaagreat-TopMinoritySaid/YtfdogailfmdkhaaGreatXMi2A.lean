import Derived.Test.YtfdogailfmdkhaaGreatXMiS
set_option linter.unusedVariables false
set_option maxRecDepth 100000
namespace Go.Proofs.YtfdogailfmdkhaaGreat
open Go Go.RowKit Go.Sx Go.Ev
theorem ch2A : Ev.start rs2A ob2A (chainR (fiS rs2B ob2B [0,1,2,3,4,5,6,8,9,10,11,12,13,14,15,16,18,19,20,21,22,23,24,25,26,27,28,29,30,32,34,62,659,1299,1986,2722,3531,3533,3548,3551,3856,4472,4474,4486,4489,4966,5931,6573,7264,8002,8007,8305,8311,8317,8323,8327,8334,8336,8368,8380,8539,8545,8551,8557,8563,8565,8567,8595,8607,8669]) 10 1) = .ok .unk Hd := by kernel_rfl
end Go.Proofs.YtfdogailfmdkhaaGreat

