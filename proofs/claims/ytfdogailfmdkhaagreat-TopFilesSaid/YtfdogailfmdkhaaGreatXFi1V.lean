import Derived.Test.YtfdogailfmdkhaaGreatXFiS
set_option linter.unusedVariables false
set_option maxRecDepth 100000
namespace Go.Proofs.YtfdogailfmdkhaaGreat
open Go Go.RowKit Go.Sx Go.Ev
theorem fchV : stK rsV obV (rndR (endS rsW obW) 1 45) = .ok .unk Hd := by kernel_rfl
end Go.Proofs.YtfdogailfmdkhaaGreat

