import Derived.Test.YtfdogailfmdkhaaGreatXCuS
set_option linter.unusedVariables false
set_option maxRecDepth 100000
namespace Go.Proofs.YtfdogailfmdkhaaGreat
open Go Go.RowKit Go.Sx Go.Ev
theorem cbegC : preR (fun F H => begR 8 F H (fiS rsA obA [721,722,725,726,727,728,736,744,754,762,763,770,771,772,773,781,789,799,807,808,815,816,817,818,826,834,844,852,853,855,857,858,859,860,861,1454,2165,2973,3859,4816,5847,6949,7994,7996,8011,8014,8620,8625,9031,9038,9072,9259,9261,9273,9276,9737,9948,9955,9989,10176,10178,10190,10193,10654,10696,10923,10929,11770,11772,11774,12016])) = .ok .unk Hd := by kernel_rfl
end Go.Proofs.YtfdogailfmdkhaaGreat

