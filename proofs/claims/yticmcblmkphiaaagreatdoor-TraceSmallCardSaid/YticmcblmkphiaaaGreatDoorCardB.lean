/-
  Closed facts of the card (2).
-/
import Derived.Test.YticmcblmkphiaaaGreatDoorRows
import Derived.SevenTiedAt
set_option linter.unusedVariables false
set_option linter.unusedSimpArgs false
set_option linter.unusedSectionVars false
namespace Go.Proofs.YticmcblmkphiaaaGreatDoor
open Go
theorem kd4 : false = Rows.traceSmallRow.goesBy Tryz.pinned.checked.prog := by kernel_rfl
end Go.Proofs.YticmcblmkphiaaaGreatDoor
