/- The closed facts of the row ReachLine. Conditions: none. -/
import Derived.Test.YtmfnbgbblkhneaaGreatRows
import Derived.JoinedOf
import Derived.KernelRfl
set_option linter.unusedSimpArgs false
set_option linter.unusedVariables false
namespace Go.Proofs.YtmfnbgbblkhneaaGreat
theorem band_reachLine {a b : Bool} (h : a = true) (h' : b = true) : (a && b) = true := by rw [h, h']; rfl
set_option maxHeartbeats 400000000 in
set_option maxRecDepth 100000 in
theorem joined_reachLine : joinedFacts Tryz.prog 5 Tryz.f5 Rows.reachLineSpec Rows.reachLineRow = true := by
  unfold joinedFacts
  iterate 31 (refine band_reachLine ?_ (by as_aux_lemma => kernel_rfl))
  kernel_rfl
end Go.Proofs.YtmfnbgbblkhneaaGreat
