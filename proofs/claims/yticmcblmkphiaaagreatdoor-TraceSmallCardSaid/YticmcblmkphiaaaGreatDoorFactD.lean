/-
  Closed facts of the row (4).
-/
import Derived.Test.YticmcblmkphiaaaGreatDoorRows
import Derived.JoinedOf
set_option linter.unusedVariables false
set_option linter.unusedSimpArgs false
set_option linter.unusedSectionVars false
namespace Go.Proofs.YticmcblmkphiaaaGreatDoor
theorem cl13 : (Rows.traceSmallRow.named == Tryz.pinned.checked.prog.varsNamed 9) = true := by kernel_rfl
theorem cl24b : (Rows.traceSmallRow.lifted == Tryz.pinned.checked.prog.liftsFinal) = true := by kernel_rfl
theorem cl24c : (Tryz.pinned.checked.prog.make == some Rows.traceSmallRow.make) = true := by kernel_rfl
end Go.Proofs.YticmcblmkphiaaaGreatDoor
