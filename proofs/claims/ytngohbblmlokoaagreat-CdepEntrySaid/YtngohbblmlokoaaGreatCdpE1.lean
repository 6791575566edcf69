/- The closed facts of the row CdepEntry. Conditions: none. -/
import Derived.Test.YtngohbblmlokoaaGreatRows
import Derived.JoinedOf
import Derived.KernelRfl
set_option linter.unusedSimpArgs false
set_option linter.unusedVariables false
namespace Go.Proofs.YtngohbblmlokoaaGreat
theorem band_cdepEntry {a b : Bool} (h : a = true) (h' : b = true) : (a && b) = true := by rw [h, h']; rfl
set_option maxHeartbeats 400000000 in
set_option maxRecDepth 100000 in
theorem joined_cdepEntry : joinedFacts Tryz.prog 8 Tryz.f8 Rows.cdepEntrySpec Rows.cdepEntryRow = true := by
  unfold joinedFacts
  iterate 31 (refine band_cdepEntry ?_ (by as_aux_lemma => kernel_rfl))
  kernel_rfl
end Go.Proofs.YtngohbblmlokoaaGreat
