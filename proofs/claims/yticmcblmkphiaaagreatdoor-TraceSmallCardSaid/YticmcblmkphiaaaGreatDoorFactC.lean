/-
  Closed facts of the row (3).
-/
import Derived.Test.YticmcblmkphiaaaGreatDoorRows
import Derived.JoinedOf
set_option linter.unusedVariables false
set_option linter.unusedSimpArgs false
set_option linter.unusedSectionVars false
namespace Go.Proofs.YticmcblmkphiaaaGreatDoor
theorem cl12 : (Rows.traceSmallRow.recurses == Tryz.pinned.checked.prog.recurses 9) = true := by kernel_rfl
theorem cl23b : Tryz.pinned.checked.prog.stopsHeard = true := by kernel_rfl
theorem cl24 : Tryz.pinned.checked.prog.mayEnter = true := by kernel_rfl
end Go.Proofs.YticmcblmkphiaaaGreatDoor
