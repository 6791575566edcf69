/- The closed facts of the row AugRun. Conditions: none. -/
import Derived.Test.YtkgbhpcfnpfpcaaGreatRows
import Derived.JoinedOf
import Derived.KernelRfl
set_option linter.unusedSimpArgs false
set_option linter.unusedVariables false
namespace Go.Proofs.YtkgbhpcfnpfpcaaGreat
theorem band_augRun {a b : Bool} (h : a = true) (h' : b = true) : (a && b) = true := by rw [h, h']; rfl
set_option maxHeartbeats 400000000 in
set_option maxRecDepth 100000 in
theorem joined_augRun : joinedFacts Tryz.prog 8 Tryz.f8 Rows.augRunSpec Rows.augRunRow = true := by
  unfold joinedFacts
  iterate 31 (refine band_augRun ?_ (by as_aux_lemma => kernel_rfl))
  kernel_rfl
end Go.Proofs.YtkgbhpcfnpfpcaaGreat
