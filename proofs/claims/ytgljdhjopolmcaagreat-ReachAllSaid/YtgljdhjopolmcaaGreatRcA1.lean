/- The closed facts of the row ReachAll. Conditions: none. -/
import Derived.Test.YtgljdhjopolmcaaGreatRows
import Derived.JoinedOf
import Derived.KernelRfl
set_option linter.unusedSimpArgs false
set_option linter.unusedVariables false
namespace Go.Proofs.YtgljdhjopolmcaaGreat
theorem band_reachAll {a b : Bool} (h : a = true) (h' : b = true) : (a && b) = true := by rw [h, h']; rfl
set_option maxHeartbeats 400000000 in
set_option maxRecDepth 100000 in
theorem joined_reachAll : joinedFacts Tryz.prog 3 Tryz.f3 Rows.reachAllSpec Rows.reachAllRow = true := by
  unfold joinedFacts
  iterate 31 (refine band_reachAll ?_ (by as_aux_lemma => kernel_rfl))
  kernel_rfl
end Go.Proofs.YtgljdhjopolmcaaGreat
