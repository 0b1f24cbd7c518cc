/-
  The row's closed facts together.
-/
import Derived.Test.YticmcblmkphiaaaGreatDoorRowA
import Derived.Test.YticmcblmkphiaaaGreatDoorFactA
import Derived.Test.YticmcblmkphiaaaGreatDoorFactB
import Derived.Test.YticmcblmkphiaaaGreatDoorFactC
import Derived.Test.YticmcblmkphiaaaGreatDoorFactD
set_option linter.unusedVariables false
set_option linter.unusedSimpArgs false
set_option linter.unusedSectionVars false
namespace Go.Proofs.YticmcblmkphiaaaGreatDoor
set_option maxRecDepth 100000 in
theorem closed9 : joinedFacts Tryz.pinned.checked.prog 9 Tryz.f9 Rows.traceSmallSpec Rows.traceSmallRow = true := by
  simp only [joinedFacts, Bool.and_eq_true]
  exact ⟨⟨⟨⟨⟨⟨⟨⟨⟨⟨⟨⟨⟨⟨⟨⟨⟨⟨⟨⟨⟨⟨⟨⟨⟨⟨⟨⟨⟨⟨⟨(by kernel_rfl), cl2⟩, cl3⟩, (by kernel_rfl)⟩, (by kernel_rfl)⟩, (by kernel_rfl)⟩, (by kernel_rfl)⟩, (by kernel_rfl)⟩, (by kernel_rfl)⟩, cl10⟩, cl11⟩, cl12⟩, cl13⟩, (by kernel_rfl)⟩, (by kernel_rfl)⟩, (by kernel_rfl)⟩, (by kernel_rfl)⟩, (by kernel_rfl)⟩, (by kernel_rfl)⟩, (by kernel_rfl)⟩, (by kernel_rfl)⟩, (by kernel_rfl)⟩, cl22⟩, (by kernel_rfl)⟩, cl23b⟩, cl24⟩, cl24b⟩, cl24c⟩, (by kernel_rfl)⟩, (by kernel_rfl)⟩, (by kernel_rfl)⟩, (by kernel_rfl)⟩
end Go.Proofs.YticmcblmkphiaaaGreatDoor
