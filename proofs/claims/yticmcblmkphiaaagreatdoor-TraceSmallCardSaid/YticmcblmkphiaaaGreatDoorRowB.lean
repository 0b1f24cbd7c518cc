/-
  The call of TraceSmall returns true and leaves all older memory as it was.
-/
import Derived.Test.YticmcblmkphiaaaGreatDoorFunF
import Derived.Test.YticmcblmkphiaaaGreatDoorEvG
import Derived.Test.YticmcblmkphiaaaGreatDoorRowA
set_option linter.unusedVariables false
set_option linter.unusedSimpArgs false
set_option linter.unusedSectionVars false
namespace Go.Proofs.YticmcblmkphiaaaGreatDoor
open Go.ChangeShapes Go.WideShapes Go.ChangeAt Go.RowKit
def muS : Dv.Mu := fun g => if g < Dv.glBl.length then some ⟨g, 0, ((Dv.glBl[g]?).getD []).length, 1⟩ else none
theorem ev_vr : Dv.VRs muS Dv.evL evCells :=
  .cons (.int .i64 0) (.cons .nilf (.cons (.int .i64 1) (.cons (.fn .nil .nil) (.cons (.int .i64 1) (.cons (.fn .nil .nil) (.cons (.int .i64 2) (.cons (.fn .nil .nil) (.cons (.int .i64 5) (.cons (.fn .nil .nil) (.cons (.int .i64 4) (.cons (.fn .nil .nil) .nil)))))))))))
theorem ev_one : ∀ v ∈ evCells, v.oneCell' = true := by
  intro v hv
  have : (evCells.all fun v => v.oneCell') = true := rfl
  exact List.all_eq_true.1 this v hv
theorem small_calls {W : World} (hL : laidMetH Tryz.prog allLaid W) : Calls Tryz.prog 9 #[] W fun e w' => e = .returned (.bool true) ∧ Below W.heap.size W w' := by
  have hs := size_of hL
  obtain ⟨cs, t, fr, h1, h2⟩ := of_laid hL
  have hst := Dv.start_ok (S := Dv.S0) (w := W) (bl := Dv.glBl) (μ := muS) (by decide) hs (fun g => rfl) (fun g cs' hg i x hx => by
    have hg4 : g < 4 := (List.getElem?_eq_some_iff.1 hg).1
    have hne : cs' ≠ [] := fun z => by subst z; simp at hx
    have hg1 : g = 1 := by
      match g, hg4 with
      | 0, _ => exact absurd (Option.some.inj hg).symm hne
      | 1, _ => rfl
      | 2, _ => exact absurd (Option.some.inj hg).symm hne
      | 3, _ => exact absurd (Option.some.inj hg).symm hne
    subst hg1
    have hcs : Dv.evL = cs' := Option.some.inj hg
    subst hcs
    obtain ⟨v, p1, p2⟩ := ev_vr.get hx
    refine ⟨v, ?_, ev_one v (List.mem_of_getElem? p1), p2⟩
    unfold World.cell?
    rw [h1]
    show cs[i]? = some v
    rw [← Array.getElem?_toList, h2]; exact p1)
  obtain ⟨hr, hg⟩ := hst
  obtain ⟨v, hh, q1, q2⟩ := Dv.isV_ok Dv.small_run
  have hv := Dv.bool_of q2
  subst hv
  refine (Dv.top_ok Dv.tt_ok Dv.p20 Dv.pbig Dv.pmix Dv.ft2_ok Dv.stab_ok (f := 9) Dv.fn9 (fuel := 1999) q1 hr hg .nil).mono fun e w' ⟨μ', v', he, hx, hvr⟩ => ?_
  refine ⟨?_, hx.below⟩
  rw [he]
  cases hvr
  rfl
end Go.Proofs.YticmcblmkphiaaaGreatDoor
