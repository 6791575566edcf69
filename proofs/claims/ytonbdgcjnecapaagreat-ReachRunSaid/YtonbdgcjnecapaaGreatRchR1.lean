/- The closed facts of the row ReachRun. Conditions: none. -/
import Derived.Test.YtonbdgcjnecapaaGreatRows
import Derived.JoinedOf
import Derived.KernelRfl
set_option linter.unusedSimpArgs false
set_option linter.unusedVariables false
namespace Go.Proofs.YtonbdgcjnecapaaGreat
theorem band_reachRun {a b : Bool} (h : a = true) (h' : b = true) : (a && b) = true := by rw [h, h']; rfl
set_option maxHeartbeats 400000000 in
set_option maxRecDepth 100000 in
theorem joined_reachRun : joinedFacts Tryz.prog 9 Tryz.f9 Rows.reachRunSpec Rows.reachRunRow = true := by
  unfold joinedFacts
  iterate 31 (refine band_reachRun ?_ (by as_aux_lemma => kernel_rfl))
  kernel_rfl
end Go.Proofs.YtonbdgcjnecapaaGreat
