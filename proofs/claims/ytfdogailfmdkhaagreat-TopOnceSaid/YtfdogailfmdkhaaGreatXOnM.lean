import Derived.Test.YtfdogailfmdkhaaGreatOzD
set_option linter.unusedVariables false
set_option maxRecDepth 100000
namespace Go.Proofs.YtfdogailfmdkhaaGreat
open Go Go.RowKit Go.Sx Go.Ev
theorem okM0 : okMask tb maskO 0 93 = true := by kernel_rfl
theorem okM1 : okMask tb maskO 93 93 = true := by kernel_rfl
theorem okM2 : okMask tb maskO 186 93 = true := by kernel_rfl
theorem okM3 : okMask tb maskO 279 93 = true := by kernel_rfl
theorem okM4 : okMask tb maskO 372 140 = true := by kernel_rfl
theorem okMq : ∀ f, f < 512 → hasT maskO f = true → okFn tb f = true := fun f h1 hm => by
  by_cases h : f < 93
  · exact okMask_get _ _ okM0 f (by omega) (by omega) hm
  by_cases h1 : f < 186
  · exact okMask_get _ _ okM1 f (by omega) (by omega) hm
  by_cases h2 : f < 279
  · exact okMask_get _ _ okM2 f (by omega) (by omega) hm
  by_cases h3 : f < 372
  · exact okMask_get _ _ okM3 f (by omega) (by omega) hm
  exact okMask_get _ _ okM4 f (by omega) (by omega) hm
theorem selfO_ok (σ : Nat → Value) : SlfOk Tryz.prog σ selfO := selfU_t hT (fun f g h s hs => natO_ok f g h s hs) (fun s hs n hn => draw_t hmix hT hs hn) okMq 200
end Go.Proofs.YtfdogailfmdkhaaGreat

