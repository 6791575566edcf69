/- The closed facts of the row CfgEnds. Conditions: none. -/
import Derived.Test.YtabdfngdamikiaaGreatRows
import Derived.JoinedOf
import Derived.KernelRfl
set_option linter.unusedSimpArgs false
set_option linter.unusedVariables false
namespace Go.Proofs.YtabdfngdamikiaaGreat
theorem band_cfgEnds {a b : Bool} (h : a = true) (h' : b = true) : (a && b) = true := by rw [h, h']; rfl
set_option maxHeartbeats 400000000 in
set_option maxRecDepth 100000 in
theorem joined_cfgEnds : joinedFacts Tryz.prog 8 Tryz.f8 Rows.cfgEndsSpec Rows.cfgEndsRow = true := by
  unfold joinedFacts
  iterate 31 (refine band_cfgEnds ?_ (by as_aux_lemma => kernel_rfl))
  kernel_rfl
end Go.Proofs.YtabdfngdamikiaaGreat
