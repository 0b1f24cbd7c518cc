/-
  TraceSmall itself, by the kernel.
-/
import Derived.Test.YticmcblmkphiaaaGreatDoorTabC
set_option linter.unusedVariables false
set_option linter.unusedSimpArgs false
set_option linter.unusedSectionVars false
set_option maxRecDepth 100000
namespace Dv
theorem small_run : isV (table ftab2 stab 2000 2000 0 9 [] (heapD glBl)) (fun v => v.boolB fun b => b) = true := by decide +kernel
end Dv
