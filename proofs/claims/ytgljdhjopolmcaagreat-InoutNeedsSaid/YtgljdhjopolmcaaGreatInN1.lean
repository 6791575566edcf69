/- The closed facts of the row InoutNeeds. Conditions: none. -/
import Derived.Test.YtgljdhjopolmcaaGreatRows
import Derived.JoinedOf
import Derived.KernelRfl
set_option linter.unusedSimpArgs false
set_option linter.unusedVariables false
namespace Go.Proofs.YtgljdhjopolmcaaGreat
theorem band_inoutNeeds {a b : Bool} (h : a = true) (h' : b = true) : (a && b) = true := by rw [h, h']; rfl
set_option maxHeartbeats 400000000 in
set_option maxRecDepth 100000 in
theorem joined_inoutNeeds : joinedFacts Tryz.prog 4 Tryz.f4 Rows.inoutNeedsSpec Rows.inoutNeedsRow = true := by
  unfold joinedFacts
  iterate 31 (refine band_inoutNeeds ?_ (by as_aux_lemma => kernel_rfl))
  kernel_rfl
end Go.Proofs.YtgljdhjopolmcaaGreat
