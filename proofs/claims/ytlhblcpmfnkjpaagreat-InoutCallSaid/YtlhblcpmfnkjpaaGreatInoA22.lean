/- The closed facts of the row InoutCall. Conditions: none. -/
import Derived.Test.YtlhblcpmfnkjpaaGreatRows
import Derived.JoinedOf
import Derived.KernelRfl
set_option linter.unusedSimpArgs false
set_option linter.unusedVariables false
namespace Go.Proofs.YtlhblcpmfnkjpaaGreat
theorem band_inoutCall {a b : Bool} (h : a = true) (h' : b = true) : (a && b) = true := by rw [h, h']; rfl
set_option maxHeartbeats 400000000 in
set_option maxRecDepth 100000 in
theorem joined_inoutCall : joinedFacts Tryz.prog 5 Tryz.f5 Rows.inoutCallSpec Rows.inoutCallRow = true := by
  unfold joinedFacts
  iterate 31 (refine band_inoutCall ?_ (by as_aux_lemma => kernel_rfl))
  kernel_rfl
end Go.Proofs.YtlhblcpmfnkjpaaGreat
