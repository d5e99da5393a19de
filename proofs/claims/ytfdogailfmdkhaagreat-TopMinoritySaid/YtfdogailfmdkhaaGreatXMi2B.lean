import Derived.Test.YtfdogailfmdkhaaGreatXMiS
set_option linter.unusedVariables false
set_option maxRecDepth 100000
namespace Go.Proofs.YtfdogailfmdkhaaGreat
open Go Go.RowKit Go.Sx Go.Ev
theorem ch2B : Ev.start rs2B ob2B (chainR (fiS rs2C ob2C [0,1,2,3,4,5,6,7,8,9,10,11,12,13,14,15,16,17,18,19,20,21,22,23,24,25,26,27,28,29,30,31,32,33,34,35,38,40,43,45,46,47,48,49,84,915,1790,2704,2706,2728,2731,3138,3824,3826,3845,3848,5549,6294,7088,7093,7386,7392,7398,7402,7409,7411,7443,7452,7618,7624,7630,7636,7638,7640,7668,7680,7755]) 7 11) = .ok .unk Hd := by kernel_rfl
end Go.Proofs.YtfdogailfmdkhaaGreat

