/- The closed facts of the row SdgEnds. Conditions: none. -/
import Derived.Test.YtgpjfppgphaobaaGreatRows
import Derived.JoinedOf
import Derived.KernelRfl
set_option linter.unusedSimpArgs false
set_option linter.unusedVariables false
namespace Go.Proofs.YtgpjfppgphaobaaGreat
theorem band_sdgEnds {a b : Bool} (h : a = true) (h' : b = true) : (a && b) = true := by rw [h, h']; rfl
set_option maxHeartbeats 400000000 in
set_option maxRecDepth 100000 in
theorem joined_sdgEnds : joinedFacts Tryz.prog 4 Tryz.f4 Rows.sdgEndsSpec Rows.sdgEndsRow = true := by
  unfold joinedFacts
  iterate 31 (refine band_sdgEnds ?_ (by as_aux_lemma => kernel_rfl))
  kernel_rfl
end Go.Proofs.YtgpjfppgphaobaaGreat
