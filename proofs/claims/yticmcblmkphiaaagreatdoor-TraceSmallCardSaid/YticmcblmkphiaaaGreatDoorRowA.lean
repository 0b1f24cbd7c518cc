/-
  What the listed variables give.
-/
import Derived.Test.YticmcblmkphiaaaGreatDoorRows
import Derived.ProofKit
import Derived.LaidMore
import Derived.Lay
import Derived.OpenShut
import Derived.Stop.Joined
set_option linter.unusedVariables false
set_option linter.unusedSimpArgs false
set_option linter.unusedSectionVars false
namespace Go.Proofs.YticmcblmkphiaaaGreatDoor
open Go.ChangeShapes Go.WideShapes Go.ChangeAt Go.RowKit

theorem own : ownKnob Tryz.prog.godebug = none := by kernel_rfl
theorem gEvents : Tryz.prog.globalNamed "roundelay/trace.events" = some 1 := by kernel_rfl
theorem tEvents : (Tryz.prog.globals[1]?).map (·.type) = some 289 := by kernel_rfl
theorem gFirst : Tryz.prog.globalNamed "unicode/utf8.first" = some 2 := by kernel_rfl
theorem gAccept : Tryz.prog.globalNamed "unicode/utf8.acceptRanges" = some 3 := by kernel_rfl
theorem cells288 : Tryz.prog.cellsOf 288 = 2 := by kernel_rfl
theorem cells289 : Tryz.prog.cellsOf 289 = 12 := by kernel_rfl
theorem cells287 : Tryz.prog.cellsOf 287 = 1 := by kernel_rfl
theorem cells3 : Tryz.prog.cellsOf 3 = 1 := by kernel_rfl
def plainLaid : List (String × DataW Unit) := [("unicode/utf8.acceptRanges", Rows.laid_unicode_utf8_acceptRanges), ("unicode/utf8.first", Rows.laid_unicode_utf8_first)]
def allLaid : List (String × DataW Unit) := [("unicode/utf8.acceptRanges", Rows.laid_unicode_utf8_acceptRanges), ("roundelay/trace.events", Rows.laid_roundelay_trace_events), ("unicode/utf8.first", Rows.laid_unicode_utf8_first)]
theorem one_cell {vs : List Value} (h : vs.length = 2) : ∃ a b, vs = [a, b] := by
  match vs, h with
  | [a, b], _ => exact ⟨a, b, rfl⟩
/-- one entry of the table: a kind and a function (or none) -/
theorem entry_of {W : World} {fuel : Nat} {vs : List Value} {d1 d2 : DataW (List UInt8)} {p : List MemPlace}
    (h : DataW.trod (funcToken Tryz.prog) Tryz.prog W 0 (fun _ => true) true fuel 288 vs = some (.agg [d1, d2], p)) :
    ∃ a b n q1 q2, vs = [a, b] ∧ DataW.trod (funcToken Tryz.prog) Tryz.prog W 0 (fun _ => true) true n 3 [a] = some (d1, q1) ∧ DataW.trod (funcToken Tryz.prog) Tryz.prog W 0 (fun _ => true) true n 287 [b] = some (d2, q2) := by
  obtain ⟨y0, y1, n, hx, hl, h0, h1⟩ := trod_struct2 Tryz.underlying288 h
  rw [cells288] at hl
  obtain ⟨a, b, rfl⟩ := one_cell hl
  simp only [Prod.mk.injEq, DataW.agg.injEq, List.cons.injEq, and_true] at hx
  obtain ⟨⟨e1, e2⟩, _⟩ := hx
  rw [cells3] at h0
  rw [cells287] at h1
  refine ⟨a, b, n, y0.2, y1.2, rfl, ?_, ?_⟩
  · rw [e1]; exact h0
  · rw [e2]; exact h1
theorem int_of {W : World} {fuel : Nat} {a : Value} {z : Int} {q : List MemPlace}
    (h : DataW.trod (funcToken Tryz.prog) Tryz.prog W 0 (fun _ => true) true fuel 3 [a] = some (.lit (.int .i64 z), q)) : a = .int .i64 z := by
  obtain ⟨k, e1, e2, _⟩ := DataW.trod_int Tryz.underlying3 h
  simp only [Prod.mk.injEq, DataW.lit.injEq, Lit.int.injEq, true_and] at e2
  simp only [List.cons.injEq, and_true] at e1
  rw [e1, ← e2.1]
theorem nil_of {W : World} {fuel : Nat} {a : Value} {q : List MemPlace}
    (h : DataW.trod (funcToken Tryz.prog) Tryz.prog W 0 (fun _ => true) true fuel 287 [a] = some (.nil, q)) : a = .nilFunc := by
  cases fuel with
  | zero => simp [DataW.trod] at h
  | succ n => cases a <;> simp [DataW.trod, Tryz.underlying287] at h ⊢
/-- the table of the events, as it lies in memory -/
def evCells : List Value := [.int .i64 0, .nilFunc, .int .i64 1, .func (.func 410) #[] #[], .int .i64 1, .func (.func 411) #[] #[], .int .i64 2, .func (.func 412) #[] #[], .int .i64 5, .func (.func 132) #[] #[], .int .i64 4, .func (.func 132) #[] #[]]
theorem plain_of {P : Program} {l : List (String × DataW Unit)} {w : World} (h : laidMetH P l w) : laidMet P (l.filter fun x => x.2.handleName?.isNone) w := by
  unfold laidMetH at h
  generalize hfl : (l.filter fun x => x.2.handleName?.isSome) = fl at h
  cases fl with
  | nil =>
    have e : (l.filter fun x => x.2.handleName?.isNone) = l := by
      rw [List.filter_eq_self]
      intro x hx
      have := (List.filter_eq_nil_iff.1 hfl) x hx
      cases hn : x.2.handleName? with
      | none => rfl
      | some s => rw [hn] at this; exact absurd rfl this
    rw [e]
    exact h
  | cons a r => exact h.1
theorem size_of {W : World} (h : laidMetH Tryz.prog allLaid W) : 4 ≤ W.heap.size := by
  have h1 := plain_of h
  have e : (allLaid.filter fun x => x.2.handleName?.isNone) = plainLaid := rfl
  rw [e] at h1
  obtain ⟨ps, ⟨g0, t0, cs0, f0, p0, q0, hg0, ht0, hv0, _⟩, _⟩ := h1
  obtain rfl := Option.some.inj (gAccept.symm.trans hg0)
  unfold World.var? at hv0
  rw [gAccept] at hv0
  simp only [Option.bind_some] at hv0
  split at hv0
  · rename_i hq
    have := (Array.getElem?_eq_some_iff.1 hq).1
    omega
  · cases hv0
theorem twelve {l : List Value} {a0 b0 a1 b1 a2 b2 a3 b3 a4 b4 a5 b5 : Value} (hl : l.length = 12) (h0 : (l.drop 0).take 2 = [a0, b0]) (h1 : (l.drop 2).take 2 = [a1, b1]) (h2 : (l.drop 4).take 2 = [a2, b2]) (h3 : (l.drop 6).take 2 = [a3, b3]) (h4 : (l.drop 8).take 2 = [a4, b4]) (h5 : (l.drop 10).take 2 = [a5, b5]) :
    l = [a0, b0, a1, b1, a2, b2, a3, b3, a4, b4, a5, b5] := by
  match l, hl with
  | [c0, c1, c2, c3, c4, c5, c6, c7, c8, c9, c10, c11], _ =>
    simp at h0 h1 h2 h3 h4 h5
    obtain ⟨rfl, rfl⟩ := h0; obtain ⟨rfl, rfl⟩ := h1; obtain ⟨rfl, rfl⟩ := h2; obtain ⟨rfl, rfl⟩ := h3; obtain ⟨rfl, rfl⟩ := h4; obtain ⟨rfl, rfl⟩ := h5
    rfl
theorem of_laid {W : World} (h : laidMetH Tryz.prog allLaid W) : ∃ cs t fr, W.heap[1]? = some (.cells cs t fr) ∧ cs.toList = evCells := by
  obtain ⟨g, t, cs, fuel, p, hg, ht, hv, hd⟩ := h.funcs (n := "roundelay/trace.events") (List.mem_cons_of_mem _ (List.mem_cons_self ..))
  obtain rfl := Option.some.inj (gEvents.symm.trans hg)
  obtain rfl := Option.some.inj (tEvents.symm.trans ht)
  have hh : ∃ t fr, W.heap[1]? = some (.cells cs t fr) := by
    unfold World.var? at hv
    rw [gEvents] at hv
    simp only [Option.bind_some] at hv
    split at hv
    · rename_i hq
      cases hv
      exact ⟨_, _, hq⟩
    · cases hv
  obtain ⟨t, fr, hh⟩ := hh
  refine ⟨cs, t, fr, hh, ?_⟩
  obtain ⟨xs, m, _, hx, hlen, hn, hel⟩ := DataW.trod_array Tryz.underlying289 hd
  rw [cells289] at hlen
  match xs, hn with
  | [x0, x1, x2, x3, x4, x5], _ =>
    simp only [Prod.mk.injEq] at hx
    obtain ⟨hx, _⟩ := hx
    have hx' : DataW.agg [DataW.agg [.lit (.int .i64 0), .nil], .agg [.lit (.int .i64 1), .held [114, 111, 117, 110, 100, 101, 108, 97, 121, 47, 116, 114, 97, 99, 101, 46, 101, 118, 101, 110, 116, 115, 36, 49]], .agg [.lit (.int .i64 1), .held [114, 111, 117, 110, 100, 101, 108, 97, 121, 47, 116, 114, 97, 99, 101, 46, 101, 118, 101, 110, 116, 115, 36, 50]], .agg [.lit (.int .i64 2), .held [114, 111, 117, 110, 100, 101, 108, 97, 121, 47, 116, 114, 97, 99, 101, 46, 101, 118, 101, 110, 116, 115, 36, 51]], .agg [.lit (.int .i64 5), .held [40, 114, 111, 117, 110, 100, 101, 108, 97, 121, 47, 116, 114, 97, 99, 101, 46, 109, 111, 109, 101, 110, 116, 41, 46, 119, 97, 110, 116, 101, 100]], .agg [.lit (.int .i64 4), .held [40, 114, 111, 117, 110, 100, 101, 108, 97, 121, 47, 116, 114, 97, 99, 101, 46, 109, 111, 109, 101, 110, 116, 41, 46, 119, 97, 110, 116, 101, 100]]] = (DataW.agg [x0.1, x1.1, x2.1, x3.1, x4.1, x5.1] : DataW (List UInt8)) := hx
    simp only [DataW.agg.injEq, List.cons.injEq, and_true] at hx'
    obtain ⟨y0, y1, y2, y3, y4, y5⟩ := hx'
    obtain ⟨z0, r0⟩ := x0; obtain ⟨z1, r1⟩ := x1; obtain ⟨z2, r2⟩ := x2; obtain ⟨z3, r3⟩ := x3; obtain ⟨z4, r4⟩ := x4; obtain ⟨z5, r5⟩ := x5
    simp only at y0 y1 y2 y3 y4 y5
    subst y0; subst y1; subst y2; subst y3; subst y4; subst y5
    rw [cells288] at hel
    obtain ⟨a0, b0, n0, _, _, e0, f0, g0⟩ := entry_of (hel 0 (by decide))
    obtain ⟨a1, b1, n1, _, _, e1, f1, g1⟩ := entry_of (hel 1 (by decide))
    obtain ⟨a2, b2, n2, _, _, e2, f2, g2⟩ := entry_of (hel 2 (by decide))
    obtain ⟨a3, b3, n3, _, _, e3, f3, g3⟩ := entry_of (hel 3 (by decide))
    obtain ⟨a4, b4, n4, _, _, e4, f4, g4⟩ := entry_of (hel 4 (by decide))
    obtain ⟨a5, b5, n5, _, _, e5, f5, g5⟩ := entry_of (hel 5 (by decide))
    rw [twelve hlen e0 e1 e2 e3 e4 e5, int_of f0, int_of f1, int_of f2, int_of f3, int_of f4, int_of f5, nil_of g0, func_of_trod (f0 := 410) Tryz.underlying287 (by kernel_rfl) g1, func_of_trod (f0 := 411) Tryz.underlying287 (by kernel_rfl) g2,
      func_of_trod (f0 := 412) Tryz.underlying287 (by kernel_rfl) g3, func_of_trod (f0 := 132) Tryz.underlying287 (by kernel_rfl) g4, func_of_trod (f0 := 132) Tryz.underlying287 (by kernel_rfl) g5]
    rfl
end Go.Proofs.YticmcblmkphiaaaGreatDoor
