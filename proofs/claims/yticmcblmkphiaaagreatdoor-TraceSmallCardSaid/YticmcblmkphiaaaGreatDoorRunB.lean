/-
  The function awake, by the kernel.
-/
import Derived.Test.YticmcblmkphiaaaGreatDoorTabC
set_option linter.unusedVariables false
set_option linter.unusedSimpArgs false
set_option linter.unusedSectionVars false
set_option maxRecDepth 100000
namespace Dv
theorem awake_run : isV (table ftab1 stab 2000 2000 0 16 [] (heapD glBl)) (fun v => v.boolB fun b => b) = true := by decide +kernel
end Dv
