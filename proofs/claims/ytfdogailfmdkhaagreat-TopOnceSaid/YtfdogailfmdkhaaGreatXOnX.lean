import Derived.Test.YtfdogailfmdkhaaGreatOzD

set_option maxRecDepth 100000
namespace Go.Proofs.YtfdogailfmdkhaaGreat
open Go Go.RowKit Go.Sx Go.Ev
theorem allR_ok : allR trs = .ok .unk Hd := by kernel_rfl
end Go.Proofs.YtfdogailfmdkhaaGreat

