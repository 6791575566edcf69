/- The closed facts of the row CfgLive. Conditions: none. -/
import Derived.Test.YtkgbhpcfnpfpcaaGreatRows
import Derived.JoinedOf
import Derived.KernelRfl
set_option linter.unusedSimpArgs false
set_option linter.unusedVariables false
namespace Go.Proofs.YtkgbhpcfnpfpcaaGreat
theorem band_cfgLive {a b : Bool} (h : a = true) (h' : b = true) : (a && b) = true := by rw [h, h']; rfl
set_option maxHeartbeats 400000000 in
set_option maxRecDepth 100000 in
theorem joined_cfgLive : joinedFacts Tryz.prog 6 Tryz.f6 Rows.cfgLiveSpec Rows.cfgLiveRow = true := by
  unfold joinedFacts
  iterate 31 (refine band_cfgLive ?_ (by as_aux_lemma => kernel_rfl))
  kernel_rfl
end Go.Proofs.YtkgbhpcfnpfpcaaGreat
