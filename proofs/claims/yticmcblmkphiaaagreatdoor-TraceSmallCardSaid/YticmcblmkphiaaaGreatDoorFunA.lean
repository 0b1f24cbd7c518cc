/-
  The ranges over functions are the program's.
-/
import Derived.Test.YticmcblmkphiaaaGreatDoorTabC
import Derived.Test.YticmcblmkphiaaaGreatDoorEvG
import Derived.Test.YticmcblmkphiaaaGreatDoorProg
import Derived.KernelRfl
set_option linter.unusedVariables false
set_option linter.unusedSimpArgs false
set_option linter.unusedSectionVars false
set_option maxRecDepth 100000
namespace Dv
open Go Go.Proofs
noncomputable def ttP : TT := tiOfP Tryz.prog
noncomputable def S0 : Sites
  | 1 => siteAt (kpOf [18, 17, 16, 12, 8, 7, 6, 5, 1, 4, 3, 2, 0]) Tryz.f37
  | 2 => siteAt (kpOf [10, 9, 8, 6, 5, 4, 3, 1, 2, 0]) Tryz.f109
  | 3 => siteAt (kpOf [22, 21, 20, 17, 11, 7, 5, 4, 1, 3, 2, 0]) Tryz.f125
  | 5 => siteAt (kpOf [19, 12, 11, 7, 5, 2, 4, 0, 1]) Tryz.f355
  | 6 => siteAt (kpOf [16, 13, 12, 11, 7, 6, 5, 4, 3, 2, 0]) Tryz.f378
  | _ => none
theorem sitek1 : siteD ttP 4 (kpOf [18, 17, 16, 12, 8, 7, 6, 5, 1, 4, 3, 2, 0]) Tryz.f37 = some site1 := by kernel_rfl
theorem siteo1 : SiteOk S0 ttP 4 1 site1 := siteOk rfl sitek1
theorem sitek2 : siteD ttP 4 (kpOf [10, 9, 8, 6, 5, 4, 3, 1, 2, 0]) Tryz.f109 = some site2 := by kernel_rfl
theorem siteo2 : SiteOk S0 ttP 4 2 site2 := siteOk rfl sitek2
theorem sitek3 : siteD ttP 4 (kpOf [22, 21, 20, 17, 11, 7, 5, 4, 1, 3, 2, 0]) Tryz.f125 = some site3 := by kernel_rfl
theorem siteo3 : SiteOk S0 ttP 4 3 site3 := siteOk rfl sitek3
theorem sitek5 : siteD ttP 4 (kpOf [19, 12, 11, 7, 5, 2, 4, 0, 1]) Tryz.f355 = some site5 := by kernel_rfl
theorem siteo5 : SiteOk S0 ttP 4 5 site5 := siteOk rfl sitek5
theorem sitek6 : siteD ttP 4 (kpOf [16, 13, 12, 11, 7, 6, 5, 4, 3, 2, 0]) Tryz.f378 = some site6 := by kernel_rfl
theorem siteo6 : SiteOk S0 ttP 4 6 site6 := siteOk rfl sitek6
theorem fk_node {P : Program} {S : Sites} {tt : TT} {ng n : Nat} {c : Bool} {a b : DF} (ha : FnOk P S tt ng n a) (hb : FnOk P S tt ng n b) : FnOk P S tt ng n (bdf c a b) := by
  cases c
  · exact hb
  · exact ha
theorem fk_leaf {P : Program} {S : Sites} {tt : TT} {ng n k : Nat} {d : DF} (h : FnOk P S tt ng k d) : FnOk P S tt ng n (bdf (Nat.beq n k) d .none) := by
  cases hb : Nat.beq n k
  · exact .inl rfl
  · have := nbeq_iff.1 hb
    subst this
    exact h
theorem sk_node {S : Sites} {tt : TT} {ng n : Nat} {c : Bool} {a b : Site} (ha : SiteOk S tt ng n a) (hb : SiteOk S tt ng n b) : SiteOk S tt ng n (bst c a b) := by
  cases c
  · exact hb
  · exact ha
theorem sk_leaf {S : Sites} {tt : TT} {ng n k : Nat} {d : Site} (h : SiteOk S tt ng k d) : SiteOk S tt ng n (bst (Nat.beq n k) d .none) := by
  cases hb : Nat.beq n k
  · exact .inl rfl
  · have := nbeq_iff.1 hb
    subst this
    exact h
theorem stab_ok (n : Nat) : SiteOk S0 ttP 4 n (stab n) := by
  unfold stab
  exact (sk_node (sk_node (sk_leaf siteo1) (sk_leaf siteo2)) (sk_node (sk_leaf siteo3) (sk_node (sk_leaf siteo5) (sk_leaf siteo6))))
end Dv
