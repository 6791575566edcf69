/- The closed facts of the row InoutRead. Conditions: none. -/
import Derived.Test.YtmfnbgbblkhneaaGreatRows
import Derived.JoinedOf
import Derived.KernelRfl
set_option linter.unusedSimpArgs false
set_option linter.unusedVariables false
namespace Go.Proofs.YtmfnbgbblkhneaaGreat
theorem band_inoutRead {a b : Bool} (h : a = true) (h' : b = true) : (a && b) = true := by rw [h, h']; rfl
set_option maxHeartbeats 400000000 in
set_option maxRecDepth 100000 in
theorem joined_inoutRead : joinedFacts Tryz.prog 9 Tryz.f9 Rows.inoutReadSpec Rows.inoutReadRow = true := by
  unfold joinedFacts
  iterate 31 (refine band_inoutRead ?_ (by as_aux_lemma => kernel_rfl))
  kernel_rfl
end Go.Proofs.YtmfnbgbblkhneaaGreat
