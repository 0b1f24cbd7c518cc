/-
  Closed facts of the card (1).
-/
import Derived.Test.YticmcblmkphiaaaGreatDoorRows
import Derived.SevenTiedAt
set_option linter.unusedVariables false
set_option linter.unusedSimpArgs false
set_option linter.unusedSectionVars false
namespace Go.Proofs.YticmcblmkphiaaaGreatDoor
open Go
theorem kd1 : Rows.traceSmallRow.wfByText (OpenSpec.ofChange Rows.traceSmallSpec) = true := by kernel_rfl
end Go.Proofs.YticmcblmkphiaaaGreatDoor
namespace Go.Proofs.YticmcblmkphiaaaGreatDoor
open Go
theorem kd2 : Tryz.pinned.checked.prog.mainIs = some (true, "c216da9c0dd9615e7fa3951e245d5d32d699a748b67cb39c408ad3eb8f0b2067".toList) := by kernel_rfl
end Go.Proofs.YticmcblmkphiaaaGreatDoor
namespace Go.Proofs.YticmcblmkphiaaaGreatDoor
open Go
theorem kd3 : false = Tryz.pinned.checked.prog.looks [] := by kernel_rfl
end Go.Proofs.YticmcblmkphiaaaGreatDoor
