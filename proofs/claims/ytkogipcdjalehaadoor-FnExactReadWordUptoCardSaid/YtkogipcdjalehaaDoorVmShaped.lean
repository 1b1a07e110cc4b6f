/- The form of an expression: impl.shaped. Printed by vmk.py. -/
import Derived.Test.YtkogipcdjalehaaDoorVmUse
import Derived.Test.YtkogipcdjalehaaDoorVmLib
import Derived.Test.YtkogipcdjalehaaDoorVmExpr
import Derived.Test.YtkogipcdjalehaaDoorVmExpr2
set_option linter.unusedVariables false
set_option linter.unusedSimpArgs false
set_option linter.unusedSectionVars false
namespace Go.Proofs.YtkogipcdjalehaaDoor
noncomputable section
end
end Go.Proofs.YtkogipcdjalehaaDoor
