import Derived.Test.YtfdogailfmdkhaaGreatRaw1
import Derived.KernelRfl
/- The kernel reckons TopRaw. -/
namespace Go.Proofs.YtfdogailfmdkhaaGreat
open Go Go.Ev
theorem raw_true : isTrue (run1 fuel 200 fun F H => tails fuel 200 F H) = true := by kernel_rfl
end Go.Proofs.YtfdogailfmdkhaaGreat
