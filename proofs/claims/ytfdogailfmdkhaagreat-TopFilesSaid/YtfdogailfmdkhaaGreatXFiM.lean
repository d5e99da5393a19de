import Derived.Test.YtfdogailfmdkhaaGreatFiJF

set_option maxRecDepth 100000
namespace Go.Proofs.YtfdogailfmdkhaaGreat
open Go Go.RowKit Go.Sx Go.Ev
theorem okM0 : okMask tb maskQ 0 93 = true := by kernel_rfl
theorem okM1 : okMask tb maskQ 93 93 = true := by kernel_rfl
theorem okM2 : okMask tb maskQ 186 93 = true := by kernel_rfl
theorem okM3 : okMask tb maskQ 279 93 = true := by kernel_rfl
theorem okM4 : okMask tb maskQ 372 140 = true := by kernel_rfl
theorem okMq : ∀ f, f < 512 → hasT maskQ f = true → okFn tb f = true := fun f h1 hm => by
  by_cases h : f < 93
  · exact okMask_get _ _ okM0 f (by omega) (by omega) hm
  by_cases h1 : f < 186
  · exact okMask_get _ _ okM1 f (by omega) (by omega) hm
  by_cases h2 : f < 279
  · exact okMask_get _ _ okM2 f (by omega) (by omega) hm
  by_cases h3 : f < 372
  · exact okMask_get _ _ okM3 f (by omega) (by omega) hm
  exact okMask_get _ _ okM4 f (by omega) (by omega) hm
end Go.Proofs.YtfdogailfmdkhaaGreat

