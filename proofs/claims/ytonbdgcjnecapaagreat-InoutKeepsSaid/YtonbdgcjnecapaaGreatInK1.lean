/- The closed facts of the row InoutKeeps. Conditions: none. -/
import Derived.Test.YtonbdgcjnecapaaGreatRows
import Derived.JoinedOf
import Derived.KernelRfl
set_option linter.unusedSimpArgs false
set_option linter.unusedVariables false
namespace Go.Proofs.YtonbdgcjnecapaaGreat
theorem band_inoutKeeps {a b : Bool} (h : a = true) (h' : b = true) : (a && b) = true := by rw [h, h']; rfl
set_option maxHeartbeats 400000000 in
set_option maxRecDepth 100000 in
theorem joined_inoutKeeps : joinedFacts Tryz.prog 7 Tryz.f7 Rows.inoutKeepsSpec Rows.inoutKeepsRow = true := by
  unfold joinedFacts
  iterate 31 (refine band_inoutKeeps ?_ (by as_aux_lemma => kernel_rfl))
  kernel_rfl
end Go.Proofs.YtonbdgcjnecapaaGreat
