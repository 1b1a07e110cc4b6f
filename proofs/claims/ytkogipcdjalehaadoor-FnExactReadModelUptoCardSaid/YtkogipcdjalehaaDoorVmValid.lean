/- Truth, Valid. -/
import Derived.Test.YtkogipcdjalehaaDoorVmUse
import Derived.Test.YtkogipcdjalehaaDoorVmLib
import Derived.Test.YtkogipcdjalehaaDoorVmShaped
set_option linter.unusedVariables false
set_option linter.unusedSimpArgs false
set_option linter.unusedSectionVars false
namespace Go.Proofs.YtkogipcdjalehaaDoor
noncomputable section
end
end Go.Proofs.YtkogipcdjalehaaDoor

set_option linter.unusedVariables false
set_option linter.unusedSimpArgs false
set_option linter.unusedSectionVars false
namespace Go.Proofs.YtkogipcdjalehaaDoor
noncomputable section
theorem sigOk_iff (gg : GSig) : sigOk gg = true ↔ (0 ≤ gg.tests ∧ gg.tests ≤ 3) ∧ (0 ≤ gg.actions ∧ gg.actions ≤ 4) := by
 simp [sigOk]
end
end Go.Proofs.YtkogipcdjalehaaDoor
