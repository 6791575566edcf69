/- The closed facts of the row SdgJoins. Conditions: none. -/
import Derived.Test.YtgpjfppgphaobaaGreatRows
import Derived.JoinedOf
import Derived.KernelRfl
set_option linter.unusedSimpArgs false
set_option linter.unusedVariables false
namespace Go.Proofs.YtgpjfppgphaobaaGreat
theorem band_sdgJoins {a b : Bool} (h : a = true) (h' : b = true) : (a && b) = true := by rw [h, h']; rfl
set_option maxHeartbeats 400000000 in
set_option maxRecDepth 100000 in
theorem joined_sdgJoins : joinedFacts Tryz.prog 5 Tryz.f5 Rows.sdgJoinsSpec Rows.sdgJoinsRow = true := by
  unfold joinedFacts
  iterate 31 (refine band_sdgJoins ?_ (by as_aux_lemma => kernel_rfl))
  kernel_rfl
end Go.Proofs.YtgpjfppgphaobaaGreat
