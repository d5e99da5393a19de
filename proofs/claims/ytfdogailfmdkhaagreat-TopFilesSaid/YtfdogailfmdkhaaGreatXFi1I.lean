import Derived.Test.YtfdogailfmdkhaaGreatXFiS
set_option linter.unusedVariables false
set_option maxRecDepth 100000
namespace Go.Proofs.YtfdogailfmdkhaaGreat
open Go Go.RowKit Go.Sx Go.Ev
theorem fchI : stK rsI obI (rndR (endS rsJ obJ) 2 28) = .ok .unk Hd := by kernel_rfl
end Go.Proofs.YtfdogailfmdkhaaGreat

