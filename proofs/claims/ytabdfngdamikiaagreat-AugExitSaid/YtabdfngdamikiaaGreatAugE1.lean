/- The closed facts of the row AugExit. Conditions: none. -/
import Derived.Test.YtabdfngdamikiaaGreatRows
import Derived.JoinedOf
import Derived.KernelRfl
set_option linter.unusedSimpArgs false
set_option linter.unusedVariables false
namespace Go.Proofs.YtabdfngdamikiaaGreat
theorem band_augExit {a b : Bool} (h : a = true) (h' : b = true) : (a && b) = true := by rw [h, h']; rfl
set_option maxHeartbeats 400000000 in
set_option maxRecDepth 100000 in
theorem joined_augExit : joinedFacts Tryz.prog 10 Tryz.f10 Rows.augExitSpec Rows.augExitRow = true := by
  unfold joinedFacts
  iterate 31 (refine band_augExit ?_ (by as_aux_lemma => kernel_rfl))
  kernel_rfl
end Go.Proofs.YtabdfngdamikiaaGreat
