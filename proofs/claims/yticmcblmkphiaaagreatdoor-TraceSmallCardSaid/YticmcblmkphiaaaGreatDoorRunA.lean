/-
  The check of the small core, by the kernel.
-/
import Derived.Test.YticmcblmkphiaaaGreatDoorTabC
set_option linter.unusedVariables false
set_option linter.unusedSimpArgs false
set_option linter.unusedSectionVars false
set_option maxRecDepth 100000
namespace Dv
theorem core_run : isV (table ftab0 stab 2000 2000 0 181 coreArgs (heapD coreBl)) (fun v => v.intB fun k n => bb (Nat.beq k 3) (eqI n 0) false) = true := by decide +kernel
end Dv
