/-
  TraceSmall returns true at every input (it has none), in whatever memory in which the listed package variables read as the program's text lays them (unicode/utf8.acceptRanges, roundelay/trace.events, unicode/utf8.first), on every schedule and in every order that Go leaves open; proved as the tied card. No condition beyond the row's own.
-/
import Derived.Test.YticmcblmkphiaaaGreatDoorRowC
import Derived.Test.YticmcblmkphiaaaGreatDoorCardA
import Derived.Test.YticmcblmkphiaaaGreatDoorCardB
import Derived.Test.YticmcblmkphiaaaGreatDoorTie
import Derived.Test.YticmcblmkphiaaaGreatDoorCards
import Derived.SevenTiedAt
set_option linter.unusedVariables false
set_option linter.unusedSimpArgs false
set_option linter.unusedSectionVars false
namespace Go.Proofs.YticmcblmkphiaaaGreatDoor
open Go
theorem kd6 (f : FuncId) (fn : Func) (hf : Tryz.pinned.checked.prog.funcNamed Rows.traceSmallRow.func = some f) (hfn : Tryz.pinned.checked.prog.funcs[f]? = some fn) :
    false = Tryz.pinned.checked.prog.looks [] ∧ ∀ (j : Nat) t, fn.params[j]? = some t → Tryz.pinned.checked.prog.wantsStandIn t = false := by
  obtain rfl : f = 9 := Option.some.inj (nm9.symm.trans hf) |>.symm
  obtain rfl : fn = Tryz.f9 := (Option.some.inj (Tryz.func9.symm.trans hfn)).symm
  exact ⟨kd3, fun j t ht => by
    rw [Tryz.params9] at ht
    simp at ht⟩
theorem traceSmall_card : Rows.TraceSmallCardSaid :=
  Claim7.holds_tied_plain_at .later [] [.data, .funcs, .pinned] true (true, "c216da9c0dd9615e7fa3951e245d5d32d699a748b67cb39c408ad3eb8f0b2067") false
    traceSmall_holds (fun _ h => by cases h) kd1 (fun _ h => by cases h) traceSmall_row_tie rfl ⟨rfl, rfl⟩ kd2 rfl kd6 kd4
#print axioms traceSmall_card
end Go.Proofs.YticmcblmkphiaaaGreatDoor
