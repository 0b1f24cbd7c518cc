/-
  The row of TraceSmall.
-/
import Derived.Test.YticmcblmkphiaaaGreatDoorRowB
import Derived.Test.YticmcblmkphiaaaGreatDoorFactE
set_option linter.unusedVariables false
set_option linter.unusedSimpArgs false
set_option linter.unusedSectionVars false
namespace Go.Proofs.YticmcblmkphiaaaGreatDoor
open Go.ChangeShapes Go.WideShapes Go.ChangeAt Go.RowKit
/-- a start that fits: the tables by the function, the events' cells by hand -/
noncomputable def start (os : Os) : World :=
  { World.laidAll Tryz.prog os plainLaid with heap := (World.laidAll Tryz.prog os plainLaid).heap.setIfInBounds 1 (.cells evCells.toArray 289) }
theorem start_os (os : Os) : (start os).os = os := by
  have h := World.laidAll_os Tryz.prog os plainLaid
  unfold start
  generalize World.laidAll Tryz.prog os plainLaid = w at h
  exact h
set_option maxRecDepth 100000 in
theorem start_plain (os : Os) (args : Array Value) : laidMet Tryz.prog (allLaid.filter fun x => x.2.handleName?.isNone) ((start os).forCall (fun _ _ => 0) ⟨#[], args, []⟩).memory :=
  laidMet_of_run' 8 (by kernel_rfl) (by kernel_rfl)
set_option maxRecDepth 100000 in
theorem start_met (os : Os) (args : Array Value) : laidMetH Tryz.prog allLaid ((start os).forCall (fun _ _ => 0) ⟨#[], args, []⟩).memory :=
  laidMetH_of_parts3 (fuel := 8) (start_plain os args) (by kernel_rfl) (by kernel_rfl)
set_option maxRecDepth 100000 in
theorem traceSmall_lifted (os : Os) (started : os.Started) (H : Type) (enc : TypeId × Value → H) :
    ReturnsInHanded {} Tryz.checked os 9 .any (fun w args => (Rows.traceSmallSpec.pre enc Tryz.prog Tryz.f9 [] false w args ∧ laidMetH Tryz.prog allLaid w) ∧ sizedMet enc Tryz.prog Tryz.f9 (OpenSpec.ofChange Rows.traceSmallSpec) false w args)
      (Rows.traceSmallSpec.post enc Tryz.prog Tryz.f9 false true false false) := by
  refine returnsInHanded_of_change_and (C := Tryz.checked) (X := fun w _ => laidMetH Tryz.prog allLaid w) (fun _ _ _ hh h => h.of_heap hh) own started (by kernel_rfl) Tryz.func9
    (ChangeSpec.witness_shaped (enc := enc) (C := Tryz.checked) (os := os) (X := fun w _ => laidMetH Tryz.prog allLaid w) false (start os) #[] 8 (start_os os) (World.shaped_of_ZipB (by kernel_rfl) (by kernel_rfl)) (by kernel_rfl) (by kernel_rfl) (by kernel_rfl) (start_met os _)) ?_
  intro W base args ds gs before hval0 hW _ _ hL _
  have hW' := hW
  obtain ⟨p, q, hA0, hV, rfl, hfz, hnd⟩ := hW
  have hA : DataW.TrodAll enc Tryz.prog W 0 (fun _ => true) true Tryz.f9.params.toList args.toList ds p := hA0
  rw [Tryz.params9] at hA
  obtain ⟨rfl, rfl, rfl⟩ := trodAll_none hA
  obtain ⟨rfl, rfl⟩ := trodVars_none hV
  refine (small_calls hL).mono fun e W' ⟨he, hb⟩ => ?_
  subst he
  exact ⟨_, rfl, [], [], _, [], [], [], hW', trodAll_mk1 (shut_bool Tryz.underlying4 _), trodAll_mk0, rfl, hb.frame _, fun h => by cases h⟩
theorem nm9 : Tryz.pinned.checked.prog.funcNamed Rows.traceSmallRow.func = some 9 := by kernel_rfl
theorem inst9 : Tryz.f9.isInstance Tryz.pinned.checked.prog Rows.traceSmallRow.origin Rows.traceSmallRow.targs := of_decide_eq_true (by kernel_rfl)
theorem wrap9 : Tryz.f9.isWrapper Tryz.pinned.checked.prog Rows.traceSmallRow.wrapper Rows.traceSmallRow.mainSum := by
  unfold Func.isWrapper
  rw [if_neg (by decide +kernel)]
  exact ⟨rfl, rfl⟩
theorem traceSmall_holds : Rows.TraceSmallSaid :=
  OpenClaim.holds_of_wide 9 Tryz.f9 rfl rfl rfl rfl rfl rfl rfl ⟨rfl, rfl, rfl, rfl, rfl⟩ rfl rfl rfl rfl rfl nm9 Tryz.func9 closed9 inst9 wrap9
    (fun os started H enc _ => traceSmall_lifted os started H enc)
end Go.Proofs.YticmcblmkphiaaaGreatDoor
