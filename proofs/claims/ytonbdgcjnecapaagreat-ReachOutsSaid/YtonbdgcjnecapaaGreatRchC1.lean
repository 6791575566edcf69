/- The closed facts of the row ReachOuts. Conditions: none. -/
import Derived.Test.YtonbdgcjnecapaaGreatRows
import Derived.JoinedOf
import Derived.KernelRfl
set_option linter.unusedSimpArgs false
set_option linter.unusedVariables false
namespace Go.Proofs.YtonbdgcjnecapaaGreat
theorem band_reachOuts {a b : Bool} (h : a = true) (h' : b = true) : (a && b) = true := by rw [h, h']; rfl
set_option maxHeartbeats 400000000 in
set_option maxRecDepth 100000 in
theorem joined_reachOuts : joinedFacts Tryz.prog 4 Tryz.f4 Rows.reachOutsSpec Rows.reachOutsRow = true := by
  unfold joinedFacts
  iterate 31 (refine band_reachOuts ?_ (by as_aux_lemma => kernel_rfl))
  kernel_rfl
end Go.Proofs.YtonbdgcjnecapaaGreat
