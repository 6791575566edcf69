/- The closed facts of the row CdepIn. Conditions: none. -/
import Derived.Test.YtngohbblmlokoaaGreatRows
import Derived.JoinedOf
import Derived.KernelRfl
set_option linter.unusedSimpArgs false
set_option linter.unusedVariables false
namespace Go.Proofs.YtngohbblmlokoaaGreat
theorem band_cdepIn {a b : Bool} (h : a = true) (h' : b = true) : (a && b) = true := by rw [h, h']; rfl
set_option maxHeartbeats 400000000 in
set_option maxRecDepth 100000 in
theorem joined_cdepIn : joinedFacts Tryz.prog 7 Tryz.f7 Rows.cdepInSpec Rows.cdepInRow = true := by
  unfold joinedFacts
  iterate 31 (refine band_cdepIn ?_ (by as_aux_lemma => kernel_rfl))
  kernel_rfl
end Go.Proofs.YtngohbblmlokoaaGreat
