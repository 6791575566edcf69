/- The closed facts of the row SdgProcs. Conditions: none. -/
import Derived.Test.YtgpjfppgphaobaaGreatRows
import Derived.JoinedOf
import Derived.KernelRfl
set_option linter.unusedSimpArgs false
set_option linter.unusedVariables false
namespace Go.Proofs.YtgpjfppgphaobaaGreat
theorem band_sdgProcs {a b : Bool} (h : a = true) (h' : b = true) : (a && b) = true := by rw [h, h']; rfl
set_option maxHeartbeats 400000000 in
set_option maxRecDepth 100000 in
theorem joined_sdgProcs : joinedFacts Tryz.prog 6 Tryz.f6 Rows.sdgProcsSpec Rows.sdgProcsRow = true := by
  unfold joinedFacts
  iterate 31 (refine band_sdgProcs ?_ (by as_aux_lemma => kernel_rfl))
  kernel_rfl
end Go.Proofs.YtgpjfppgphaobaaGreat
