/-
  Closed facts of the row (1).
-/
import Derived.Test.YticmcblmkphiaaaGreatDoorRows
import Derived.JoinedOf
set_option linter.unusedVariables false
set_option linter.unusedSimpArgs false
set_option linter.unusedSectionVars false
namespace Go.Proofs.YticmcblmkphiaaaGreatDoor
theorem cl2 : laidOutB Tryz.pinned.checked.prog = true := by kernel_rfl
theorem cl10 : (Rows.traceSmallRow.inPlace == Tryz.pinned.checked.prog.inPlace 9) = true := by kernel_rfl
end Go.Proofs.YticmcblmkphiaaaGreatDoor
