/- The closed facts of the row InoutAll. Conditions: none. -/
import Derived.Test.YtiaikoimoonlmaaGreatRows
import Derived.JoinedOf
import Derived.KernelRfl
set_option linter.unusedSimpArgs false
set_option linter.unusedVariables false
namespace Go.Proofs.YtiaikoimoonlmaaGreat
theorem band_inoutAll {a b : Bool} (h : a = true) (h' : b = true) : (a && b) = true := by rw [h, h']; rfl
set_option maxHeartbeats 400000000 in
set_option maxRecDepth 100000 in
theorem joined_inoutAll : joinedFacts Tryz.prog 3 Tryz.f3 Rows.inoutAllSpec Rows.inoutAllRow = true := by
  unfold joinedFacts
  iterate 31 (refine band_inoutAll ?_ (by as_aux_lemma => kernel_rfl))
  kernel_rfl
end Go.Proofs.YtiaikoimoonlmaaGreat
