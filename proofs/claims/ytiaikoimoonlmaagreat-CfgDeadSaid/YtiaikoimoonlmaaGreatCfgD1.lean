/- The closed facts of the row CfgDead. Conditions: none. -/
import Derived.Test.YtiaikoimoonlmaaGreatRows
import Derived.JoinedOf
import Derived.KernelRfl
set_option linter.unusedSimpArgs false
set_option linter.unusedVariables false
namespace Go.Proofs.YtiaikoimoonlmaaGreat
theorem band_cfgDead {a b : Bool} (h : a = true) (h' : b = true) : (a && b) = true := by rw [h, h']; rfl
set_option maxHeartbeats 400000000 in
set_option maxRecDepth 100000 in
theorem joined_cfgDead : joinedFacts Tryz.prog 5 Tryz.f5 Rows.cfgDeadSpec Rows.cfgDeadRow = true := by
  unfold joinedFacts
  iterate 31 (refine band_cfgDead ?_ (by as_aux_lemma => kernel_rfl))
  kernel_rfl
end Go.Proofs.YtiaikoimoonlmaaGreat
