/- The closed facts of the row AugTrap. Conditions: none. -/
import Derived.Test.YtabdfngdamikiaaGreatRows
import Derived.JoinedOf
import Derived.KernelRfl
set_option linter.unusedSimpArgs false
set_option linter.unusedVariables false
namespace Go.Proofs.YtabdfngdamikiaaGreat
theorem band_augTrap {a b : Bool} (h : a = true) (h' : b = true) : (a && b) = true := by rw [h, h']; rfl
set_option maxHeartbeats 400000000 in
set_option maxRecDepth 100000 in
theorem joined_augTrap : joinedFacts Tryz.prog 12 Tryz.f12 Rows.augTrapSpec Rows.augTrapRow = true := by
  unfold joinedFacts
  iterate 31 (refine band_augTrap ?_ (by as_aux_lemma => kernel_rfl))
  kernel_rfl
end Go.Proofs.YtabdfngdamikiaaGreat
