/-
  Closed facts of the row (2).
-/
import Derived.Test.YticmcblmkphiaaaGreatDoorRows
import Derived.JoinedOf
set_option linter.unusedVariables false
set_option linter.unusedSimpArgs false
set_option linter.unusedSectionVars false
namespace Go.Proofs.YticmcblmkphiaaaGreatDoor
theorem cl11 : (Rows.traceSmallRow.unfollowed == Tryz.pinned.checked.prog.unfollowed 9) = true := by kernel_rfl
theorem cl3 : mapsRowed Tryz.pinned.checked.prog = true := by kernel_rfl
theorem cl22 : (Rows.traceSmallRow.plainKeys == Tryz.pinned.checked.prog.plainKeys) = true := by kernel_rfl
end Go.Proofs.YticmcblmkphiaaaGreatDoor
