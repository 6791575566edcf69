/- The closed facts of the row AugMore. Conditions: none. -/
import Derived.Test.YtabdfngdamikiaaGreatRows
import Derived.JoinedOf
import Derived.KernelRfl
set_option linter.unusedSimpArgs false
set_option linter.unusedVariables false
namespace Go.Proofs.YtabdfngdamikiaaGreat
theorem band_augMore {a b : Bool} (h : a = true) (h' : b = true) : (a && b) = true := by rw [h, h']; rfl
set_option maxHeartbeats 400000000 in
set_option maxRecDepth 100000 in
theorem joined_augMore : joinedFacts Tryz.prog 13 Tryz.f13 Rows.augMoreSpec Rows.augMoreRow = true := by
  unfold joinedFacts
  iterate 31 (refine band_augMore ?_ (by as_aux_lemma => kernel_rfl))
  kernel_rfl
end Go.Proofs.YtabdfngdamikiaaGreat
