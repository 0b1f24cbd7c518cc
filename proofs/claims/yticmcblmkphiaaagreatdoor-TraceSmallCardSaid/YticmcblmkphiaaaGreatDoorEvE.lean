/-
  A step of a region, its guards, the drawn orders (first part).
-/
import Derived.Test.YticmcblmkphiaaaGreatDoorEvD
import Derived.AtR
import Derived.RangeFuncIn
import Derived.RangeFuncRecord
import Derived.RangeFuncNested
import Derived.RangeFuncLeaves
set_option linter.unusedVariables false
set_option linter.unusedSimpArgs false
set_option linter.unusedSectionVars false
/-! temporaries: their values, by number -/
namespace Dv
open Go Go.RowKit
variable {S : Sites} {base : Nat} {μ μ' : Mu} {h : Heap} {w w' : World} {P : Program} {tt : TT} {ng : Nat} {kp : Nat → Bool} {nt : Nat} {M : List Nat} {e e1 : Env} {a a' : Act} {k : K}
noncomputable section
def tval (M : List Nat) (e : Env) (t : Nat) : AV := match findT t M 0 with
  | some i => (e.loc[i]?).getD .und
  | none => nthRd rdL t e
end
theorem tval_some {t i : Nat} (hf : findT t M 0 = some i) : tval M e t = (e.loc[i]?).getD .und := by unfold tval; rw [hf]
theorem tval_none {t : Nat} (hf : findT t M 0 = none) : tval M e t = nthRd rdL t e := by unfold tval; rw [hf]
theorem nthRd_ge {t : Nat} (ht : 320 ≤ t) (e : Env) : nthRd rdL t e = .und := by
  unfold nthRd
  have : rdL[t]? = none := by
    rw [rdL_eq]
    exact List.getElem?_eq_none (by simp; omega)
  rw [this]; rfl
theorem rd_far {t : Nat} (ht : t < 320) (l : List AV) (e : Env) : nthRd rdL t ⟨l, e.far⟩ = nthRd rdL t e := by rw [nthRd_rd ht, nthRd_rd ht]
theorem tmpAt_rd {t : Nat} {x : OpdS} (hx : tmpAt M t = some x) : x.rd e = tval M e t := by
  unfold tmpAt at hx
  cases hf : findT t M 0 with
  | some i =>
    rw [hf] at hx
    simp only at hx
    split at hx
    · rename_i hlt
      cases hx
      rw [tval_some hf]
      exact nthRd_lo (blt_iff.1 hlt) e
    · cases hx
  | none =>
    rw [hf] at hx
    simp only at hx
    split at hx
    · cases hx
      rw [tval_none hf]; rfl
    · cases hx
theorem findT_get (t : Nat) : ∀ (M : List Nat) (n i : Nat), findT t M n = some i → n ≤ i ∧ M[i - n]? = some t
  | [], n, i, q => by cases q
  | u :: r, n, i, q => by
    unfold findT at q
    split at q
    · rename_i hu
      cases q
      exact ⟨Nat.le_refl _, by rw [Nat.sub_self, nbeq_iff.1 hu]; rfl⟩
    · obtain ⟨q1, q2⟩ := findT_get t r (n + 1) i q
      refine ⟨by omega, ?_⟩
      rw [show i - n = (i - (n + 1)) + 1 from by omega]
      exact q2
theorem findT_inj {t u i : Nat} (h1 : findT t M 0 = some i) (h2 : findT u M 0 = some i) : t = u := by
  have a := (findT_get t M 0 i h1).2
  have b := (findT_get u M 0 i h2).2
  rw [a] at b; cases b; rfl
/-- what is not written, what is a region's own -/
structure TR (kp : Nat → Bool) (M : List Nat) (e : Env) : Prop where
  keep : ∀ t, t < 320 → kp t = false → nthRd rdL t e = .und
  mok : ∀ t i, findT t M 0 = some i → kp t = false
theorem AR.of_val (ht : TR kp M e) (hs : nt ≤ a.tmps.size) (hg : GOk ng μ) (hv : ∀ t, VR μ (tval M e t) (a.tmps.getD t undef)) : AR ng kp nt μ M e a :=
  ⟨⟨fun t h3 => by
     cases hf : findT t M 0 with
     | none => have := hv t; rw [tval_none hf] at this; exact this
     | some i => rw [ht.keep t h3 (ht.mok t i hf)]; exact .und _,
    ht.keep, hs⟩, fun t i hf => by have := hv t; rw [tval_some hf] at this; exact this, hg⟩
theorem AR.val (h1 : AR ng kp nt μ M e a) (t : Nat) : VR μ (tval M e t) (a.tmps.getD t undef) := by
  cases hf : findT t M 0 with
  | some i => rw [tval_some hf]; exact h1.lr t i hf
  | none =>
    rw [tval_none hf]
    by_cases ht : t < 320
    · exact h1.er.slot t ht
    · rw [nthRd_ge (by omega)]; exact .und _
theorem far_any (f : Nat → AV) : ∀ n, n ≤ 320 → ∃ e : Env, ∀ t, t < 320 → nthRd rdL t e = if t < n then f t else .und
  | 0, _ => ⟨Env.nil, fun t ht => by rw [if_neg (by omega)]; exact rd_nil ht⟩
  | n + 1, hn => by
    obtain ⟨e, he⟩ := far_any f n (by omega)
    refine ⟨nthW wL n (f n) e, fun t ht => ?_⟩
    rw [rd_w ht (by omega)]
    by_cases q : n = t
    · subst q; rw [if_pos rfl, if_pos (by omega)]
    · rw [if_neg q, he t ht]
      by_cases q2 : t < n
      · rw [if_pos q2, if_pos (by omega)]
      · rw [if_neg q2, if_neg (by omega)]
/-- temporaries alone that matter: the others are not known -/
theorem mask (ht : TR kp M e) (T : Nat → Prop) (hs : nt ≤ a'.tmps.size) (hg : GOk ng μ) (hT : ∀ t, T t → VR μ (tval M e t) (a'.tmps.getD t undef)) :
    ∃ e1, AR ng kp nt μ M e1 a' ∧ ∀ t, T t → tval M e1 t = tval M e t := by
  classical
  obtain ⟨e0, he0⟩ := far_any (fun t => if T t then nthRd rdL t e else .und) 320 (Nat.le_refl _)
  have hl : ∃ l1 : List AV, ∀ i, (l1[i]?).getD .und = if ∃ t, T t ∧ findT t M 0 = some i then (e.loc[i]?).getD .und else .und := by
    refine ⟨(List.range e.loc.length).map (fun i => if ∃ t, T t ∧ findT t M 0 = some i then (e.loc[i]?).getD .und else .und), fun i => ?_⟩
    rw [List.getElem?_map]
    by_cases hi : i < e.loc.length
    · rw [List.getElem?_range hi]; rfl
    · rw [List.getElem?_eq_none (by simp; omega), List.getElem?_eq_none (by omega)]
      simp
  obtain ⟨l1, hl⟩ := hl
  have hrd : ∀ t, t < 320 → nthRd rdL t ⟨l1, e0.far⟩ = if T t then nthRd rdL t e else .und := fun t h3 => by
    rw [rd_far h3, he0 t h3, if_pos h3]
  have hag : ∀ t, T t → tval M ⟨l1, e0.far⟩ t = tval M e t := by
    intro t h3
    cases hf : findT t M 0 with
    | some i => rw [tval_some hf, tval_some hf, hl, if_pos ⟨t, h3, hf⟩]
    | none =>
      rw [tval_none hf, tval_none hf]
      by_cases h4 : t < 320
      · rw [hrd t h4, if_pos h3]
      · rw [nthRd_ge (by omega), nthRd_ge (by omega)]
  refine ⟨⟨l1, e0.far⟩, AR.of_val ⟨fun t h3 h4 => ?_, ht.mok⟩ hs hg (fun t => ?_), hag⟩
  · rw [hrd t h3]
    split
    · exact ht.keep t h3 h4
    · rfl
  · by_cases h3 : T t
    · rw [hag t h3]; exact hT t h3
    · have : tval M ⟨l1, e0.far⟩ t = .und := by
        cases hf : findT t M 0 with
        | some i =>
          rw [tval_some hf, hl]
          split
          · rename_i q
            obtain ⟨u, q1, q2⟩ := q
            rw [findT_inj q2 hf] at q1
            exact absurd q1 h3
          · rfl
        | none =>
          rw [tval_none hf]
          by_cases h4 : t < 320
          · rw [hrd t h4, if_neg h3]
          · exact nthRd_ge (by omega) _
      rw [this]; exact .und _

/-! writing -/
theorem dstS_lt {dst : Option Nat} {d : DstS} (hd : dstS kp nt dst = some d) : ∀ t, dst = some t → t < nt := by
  rintro t rfl
  unfold dstS at hd
  simp only at hd
  split at hd
  · rename_i q; exact blt_iff.1 q
  · cases hd
theorem tval_put (ht : TR kp M e) {dst : Option Nat} {d : DstS} (hd : dstS kp nt dst = some d) (v : AV) :
    TR kp (nextM kp dst M) (d.w v e) ∧ ∀ t, tval (nextM kp dst M) (d.w v e) t = if dst = some t then v else tval M e t := by
  cases dst with
  | none =>
    cases hd
    exact ⟨ht, fun t => by rw [if_neg (by simp)]; rfl⟩
  | some t0 =>
    unfold dstS at hd
    simp only at hd
    split at hd
    case isFalse => cases hd
    split at hd
    · rename_i q1 q2
      split at hd
      case isFalse => cases hd
      rename_i q3
      have h320 : t0 < 320 := blt_iff.1 q3
      cases hd
      have hn : nextM kp (some t0) M = M := by unfold nextM; simp only; rw [if_pos q2]
      rw [hn]
      show TR kp M (nthW wL t0 v e) ∧ ∀ t, tval M (nthW wL t0 v e) t = _
      refine ⟨⟨fun t h3 h4 => ?_, ht.mok⟩, fun t => ?_⟩
      · rw [rd_w h3 h320, if_neg (by rintro rfl; rw [q2] at h4; cases h4)]
        exact ht.keep t h3 h4
      · cases hf : findT t M 0 with
        | some i =>
          have h5 := ht.mok t i hf
          rw [tval_some hf, tval_some hf, w_loc h320, if_neg (by intro z; cases z; rw [q2] at h5; cases h5)]
        | none =>
          rw [tval_none hf, tval_none hf]
          by_cases h3 : t < 320
          · rw [rd_w h3 h320]
            by_cases h4 : t0 = t
            · rw [if_pos h4, if_pos (by rw [h4])]
            · rw [if_neg h4, if_neg (by intro z; cases z; exact h4 rfl)]
          · rw [nthRd_ge (by omega), nthRd_ge (by omega), if_neg (by intro z; cases z; omega)]
    · rename_i q1 q2
      cases hd
      have q2' : kp t0 = false := by simpa using q2
      have hn : nextM kp (some t0) M = t0 :: M := by unfold nextM; simp only; rw [if_neg q2]
      rw [hn]
      show TR kp (t0 :: M) (wL0 v e) ∧ ∀ t, tval (t0 :: M) (wL0 v e) t = _
      have hrd : ∀ t, nthRd rdL t (wL0 v e) = nthRd rdL t e := fun t => by
        by_cases h3 : t < 320
        · exact rd_wL0 h3 v e
        · rw [nthRd_ge (by omega), nthRd_ge (by omega)]
      refine ⟨⟨fun t h3 h4 => by rw [hrd]; exact ht.keep t h3 h4, fun t i hf => ?_⟩, fun t => ?_⟩
      · rw [findT_cons] at hf
        split at hf
        · rename_i q; rw [← q]; exact q2'
        · cases hg : findT t M 0 with
          | none => rw [hg] at hf; cases hf
          | some j => exact ht.mok t j hg
      · by_cases h4 : t0 = t
        · subst h4
          have : findT t0 (t0 :: M) 0 = some 0 := by rw [findT_cons, if_pos rfl]
          rw [tval_some this, if_pos rfl, wL0_eq]; rfl
        · rw [if_neg (by intro z; cases z; exact h4 rfl)]
          cases hf : findT t M 0 with
          | some i =>
            have : findT t (t0 :: M) 0 = some (i + 1) := by rw [findT_cons, if_neg h4, hf]; rfl
            rw [tval_some this, tval_some hf, wL0_eq]; rfl
          | none =>
            have : findT t (t0 :: M) 0 = none := by rw [findT_cons, if_neg h4, hf]; rfl
            rw [tval_none this, tval_none hf, hrd]
theorem put_getD {dst : Option Nat} (v : Value) (hlt : ∀ t, dst = some t → t < a.tmps.size) (t : Nat) : (a.put dst v).tmps.getD t undef = if dst = some t then v else a.tmps.getD t undef := by
  cases dst with
  | none => rw [if_neg (by simp)]; rfl
  | some t0 =>
    have := hlt t0 rfl
    show (a.tmps.setIfInBounds t0 v).getD t undef = _
    by_cases h4 : t0 = t
    · subst h4; rw [if_pos rfl]; simp [Array.getD_eq_getD_getElem?, this]
    · rw [if_neg (by intro z; cases z; exact h4 rfl)]
      simp [Array.getD_eq_getD_getElem?, Array.getElem?_setIfInBounds_ne h4]
theorem put_size (dst : Option Nat) (v : Value) : (a.put dst v).tmps.size = a.tmps.size := by
  cases dst <;> simp [Act.put]
theorem put_defers (dst : Option Nat) (v : Value) : (a.put dst v).defers = a.defers := by
  cases dst <;> simp [Act.put]
end Dv
/-! an operation looks at its operands alone -/
namespace Dv
open Go Go.RowKit
variable {S : Sites} {base : Nat} {μ μ' : Mu} {h : Heap} {w w' : World} {P : Program} {tt : TT} {ng : Nat} {kp : Nat → Bool} {nt : Nat} {M : List Nat} {e e1 : Env} {a a' : Act} {k : K}
def OpS.opds : OpS → List OpdS
  | .move x => [x]
  | .pick c a b => [c, a, b]
  | .alloc _ => []
  | .box x => [x]
  | .build _ ps => ps.map (·.2.2)
  | .buildSlice _ _ ps => ps.map (·.2.2)
  | .load1 a => [a]
  | .loadN _ a => [a]
  | .store1 a v => [a, v]
  | .storeN _ a v => [a, v]
  | .nilCheck x => [x]
  | .int _ x y => [x, y]
  | .sh _ x y => [x, y]
  | .str _ x y => [x, y]
  | .bool _ x y => [x, y]
  | .agEq _ _ x y => [x, y]
  | .slNil _ x => [x]
  | .not x => [x]
  | .neg x => [x]
  | .conv _ x => [x]
  | .mkFn _ a b => a ++ b
  | .mkMap _ => []
  | .mkSlice _ l c => [l, c]
  | .sliceS x lo hi => x :: (lo.toList ++ hi.toList)
  | .sliceV _ x lo hi => x :: (lo.toList ++ hi.toList)
  | .slice3 _ x lo hi mx => x :: hi :: mx :: lo.toList
  | .slicePtr _ _ x lo hi => x :: (lo.toList ++ hi.toList)
  | .fieldAddr _ x => [x]
  | .field1 _ x => [x]
  | .fieldN _ _ x => [x]
  | .indexAddrV _ x i => [x, i]
  | .indexAddrA _ _ x i => [x, i]
  | .indexS x i => [x, i]
  | .indexA1 _ _ x i => [x, i]
  | .lookup _ _ m k => [m, k]
  | .lookupOk _ _ m k => [m, k]
  | .mapUpd _ m k v => [m, k, v]
  | .extract _ x => [x]
  | .lenV x => [x]
  | .lenS x => [x]
  | .lenM x => [x]
  | .append _ s x => [s, x]
  | .copy _ d s => [d, s]
  | .minMax _ x y => [x, y]
  | .clear _ x => [x]
  | .call _ l => l
  | .callV f l => f :: l
theorem fillsK_congr : ∀ (ps : List (Nat × Nat × OpdS)), (∀ p ∈ ps, p.2.2.rd e = p.2.2.rd e1) → ∀ (b : List AV) (K : List AV → Out), fillsK (rdP ps) e b K = fillsK (rdP ps) e1 b K
  | [], _, _, _ => rfl
  | p :: ps, hq, b, K => by
    show ckU (p.2.2.rd e) (bo (Nat.beq (lenL (p.2.2.rd e).cells) p.2.1) (fillsK (rdP ps) e (fillL (p.2.2.rd e).cells b p.1) K) .bad) = ckU (p.2.2.rd e1) (bo (Nat.beq (lenL (p.2.2.rd e1).cells) p.2.1) (fillsK (rdP ps) e1 (fillL (p.2.2.rd e1).cells b p.1) K) .bad)
    rw [hq p (List.mem_cons_self ..), fillsK_congr ps (fun q hm => hq q (List.mem_cons_of_mem _ hm))]
theorem fills_congr : ∀ (ps : List (Nat × Nat × OpdS)), (∀ p ∈ ps, p.2.2.rd e = p.2.2.rd e1) → ∀ (b : List AV), fills (rdP ps) e b = fills (rdP ps) e1 b
  | [], _, _ => rfl
  | p :: ps, hq, b => by
    show fills (rdP ps) e (fillL (p.2.2.rd e).cells b p.1) = fills (rdP ps) e1 (fillL (p.2.2.rd e1).cells b p.1)
    rw [hq p (List.mem_cons_self ..), fills_congr ps (fun q hm => hq q (List.mem_cons_of_mem _ hm))]
theorem mapRd_congr : ∀ (l : List OpdS), (∀ y ∈ l, y.rd e = y.rd e1) → mapRd (rds l) e = mapRd (rds l) e1
  | [], _ => rfl
  | y :: l, hq => by
    show y.rd e :: mapRd (rds l) e = y.rd e1 :: mapRd (rds l) e1
    rw [hq y (List.mem_cons_self ..), mapRd_congr l (fun q hm => hq q (List.mem_cons_of_mem _ hm))]
theorem oNat_congr : ∀ (o : Option OpdS), (∀ y ∈ o.toList, y.rd e = y.rd e1) → ∀ (d : Nat) (f : Nat → Out), oNat (rdO o) e d f = oNat (rdO o) e1 d f
  | none, _, _, _ => rfl
  | some y, hq, d, f => by
    show onNat (y.rd e) f = onNat (y.rd e1) f
    rw [hq y (by simp)]
theorem op_congr (d : OpS) (hp : d.plain = true) (hq : ∀ y ∈ d.opds, y.rd e = y.rd e1) : d.op e = d.op e1 := by
  funext h k
  cases d with
  | move x => simp only [OpS.op, oMove, hq x (by simp [OpS.opds])]
  | pick c a b => simp only [OpS.op, oPick, hq c (by simp [OpS.opds]), hq a (by simp [OpS.opds]), hq b (by simp [OpS.opds])]
  | alloc z => rfl
  | box x => simp only [OpS.op, oBox, hq x (by simp [OpS.opds])]
  | build z ps => exact fillsK_congr ps (fun p hm => hq _ (List.mem_map_of_mem hm)) z _
  | buildSlice n z ps => exact fillsK_congr ps (fun p hm => hq _ (List.mem_map_of_mem hm)) z _
  | load1 a => simp only [OpS.op, oLoad1, hq a (by simp [OpS.opds])]
  | loadN n a => simp only [OpS.op, oLoadN, hq a (by simp [OpS.opds])]
  | store1 a v => simp only [OpS.op, oStore1, hq a (by simp [OpS.opds]), hq v (by simp [OpS.opds])]
  | storeN n a v => simp only [OpS.op, oStoreN, hq a (by simp [OpS.opds]), hq v (by simp [OpS.opds])]
  | nilCheck x => simp only [OpS.op, oNilCheck, hq x (by simp [OpS.opds])]
  | int op x y => simp only [OpS.op, oI, hq x (by simp [OpS.opds]), hq y (by simp [OpS.opds])]
  | sh op x y => simp only [OpS.op, oSh, hq x (by simp [OpS.opds]), hq y (by simp [OpS.opds])]
  | str op x y => simp only [OpS.op, oS, hq x (by simp [OpS.opds]), hq y (by simp [OpS.opds])]
  | bool p x y => simp only [OpS.op, oB, hq x (by simp [OpS.opds]), hq y (by simp [OpS.opds])]
  | agEq c p x y => simp only [OpS.op, oAg, hq x (by simp [OpS.opds]), hq y (by simp [OpS.opds])]
  | slNil p x => simp only [OpS.op, oSlNil, hq x (by simp [OpS.opds])]
  | not x => simp only [OpS.op, oNot, hq x (by simp [OpS.opds])]
  | neg x => simp only [OpS.op, oNeg, hq x (by simp [OpS.opds])]
  | conv kd x => simp only [OpS.op, oConv, hq x (by simp [OpS.opds])]
  | mkFn f a b => simp only [OpS.op, oMkFn, mapRd_congr a (fun y hm => hq y (by simp [OpS.opds, hm])), mapRd_congr b (fun y hm => hq y (by simp [OpS.opds, hm]))]
  | mkMap c => rfl
  | mkSlice z l c => simp only [OpS.op, oMkSlice, hq l (by simp [OpS.opds]), hq c (by simp [OpS.opds])]
  | sliceS x lo hi => simp only [OpS.op, oSliceS, hq x (by simp [OpS.opds]), oNat_congr lo (fun y hm => hq y (List.mem_cons_of_mem _ (List.mem_append.2 (.inl hm)))), oNat_congr hi (fun y hm => hq y (List.mem_cons_of_mem _ (List.mem_append.2 (.inr hm))))]
  | sliceV sz x lo hi => simp only [OpS.op, oSliceV, hq x (by simp [OpS.opds]), oNat_congr lo (fun y hm => hq y (List.mem_cons_of_mem _ (List.mem_append.2 (.inl hm)))), oNat_congr hi (fun y hm => hq y (List.mem_cons_of_mem _ (List.mem_append.2 (.inr hm))))]
  | slice3 sz x lo hi mx => simp only [OpS.op, oSlice3, hq x (by simp [OpS.opds]), hq hi (by simp [OpS.opds]), hq mx (by simp [OpS.opds]), oNat_congr lo (fun y hm => hq y (List.mem_cons_of_mem _ (List.mem_cons_of_mem _ (List.mem_cons_of_mem _ hm))))]
  | slicePtr n sz x lo hi => simp only [OpS.op, oSlicePtr, hq x (by simp [OpS.opds]), oNat_congr lo (fun y hm => hq y (List.mem_cons_of_mem _ (List.mem_append.2 (.inl hm)))), oNat_congr hi (fun y hm => hq y (List.mem_cons_of_mem _ (List.mem_append.2 (.inr hm))))]
  | fieldAddr o x => simp only [OpS.op, oFieldAddr, hq x (by simp [OpS.opds])]
  | field1 o x => simp only [OpS.op, oField1, hq x (by simp [OpS.opds])]
  | fieldN o s x => simp only [OpS.op, oFieldN, hq x (by simp [OpS.opds])]
  | indexAddrV sz x i => simp only [OpS.op, oIndexAddrV, hq x (by simp [OpS.opds]), hq i (by simp [OpS.opds])]
  | indexAddrA n sz x i => simp only [OpS.op, oIndexAddrA, hq x (by simp [OpS.opds]), hq i (by simp [OpS.opds])]
  | indexS x i => simp only [OpS.op, oIndexS, hq x (by simp [OpS.opds]), hq i (by simp [OpS.opds])]
  | indexA1 n sz x i => simp only [OpS.op, oIndexA1, hq x (by simp [OpS.opds]), hq i (by simp [OpS.opds])]
  | lookup kd z m k => simp only [OpS.op, oLookup, hq m (by simp [OpS.opds]), hq k (by simp [OpS.opds])]
  | lookupOk kd z m k => simp only [OpS.op, oLookupOk, hq m (by simp [OpS.opds]), hq k (by simp [OpS.opds])]
  | mapUpd kd m k v => simp only [OpS.op, oMapUpd, hq m (by simp [OpS.opds]), hq k (by simp [OpS.opds]), hq v (by simp [OpS.opds])]
  | extract i x => simp only [OpS.op, oExtract, hq x (by simp [OpS.opds])]
  | lenV x => simp only [OpS.op, oLenV, hq x (by simp [OpS.opds])]
  | lenS x => simp only [OpS.op, oLenS, hq x (by simp [OpS.opds])]
  | lenM x => simp only [OpS.op, oLenM, hq x (by simp [OpS.opds])]
  | append sz s x => simp only [OpS.op, oAppend, hq s (by simp [OpS.opds]), hq x (by simp [OpS.opds])]
  | copy sz d s => simp only [OpS.op, oCopy, hq d (by simp [OpS.opds]), hq s (by simp [OpS.opds])]
  | minMax m x y => simp only [OpS.op, oMinMax, hq x (by simp [OpS.opds]), hq y (by simp [OpS.opds])]
  | clear z x => simp only [OpS.op, oClear, hq x (by simp [OpS.opds])]
  | call f l => cases hp
  | callV f l => cases hp

/-! the operands come of the program's own -/
theorem opds_mem : ∀ {l : List Operand} {xs : List OpdS}, opds ng M l = some xs → ∀ y ∈ xs, ∃ x ∈ l, opd ng M x = some y
  | [], xs, q, y, hy => by cases q; cases hy
  | x :: l, xs, q, y, hy => by
    obtain ⟨u, h1, q⟩ := bind_some2 (show (opd ng M x).bind _ = some xs from q)
    obtain ⟨v, h2, rfl⟩ := map_some2 q
    rcases List.mem_cons.1 hy with rfl | hy
    · exact ⟨x, by simp, h1⟩
    · obtain ⟨z, p1, p2⟩ := opds_mem h2 y hy
      exact ⟨z, by simp [p1], p2⟩
theorem parts_mem {places : Nat → Option (Nat × Nat)} {tot : Nat} : ∀ {l : List (Nat × Operand)} {ps : List (Nat × Nat × OpdS)}, parts ng M places tot l = some ps → ∀ p ∈ ps, ∃ q ∈ l, opd ng M q.2 = some p.2.2
  | [], ps, q, y, hy => by cases q; cases hy
  | (i, x) :: l, ps, q, y, hy => by
    obtain ⟨o, h1, q⟩ := bind_some2 (show (places i).bind _ = some ps from q)
    obtain ⟨u, h2, q⟩ := bind_some2 q
    split at q
    · obtain ⟨v, h3, rfl⟩ := map_some2 q
      rcases List.mem_cons.1 hy with rfl | hy
      · exact ⟨(i, x), by simp, h2⟩
      · obtain ⟨z, p1, p2⟩ := parts_mem h3 y hy
        exact ⟨z, by simp [p1], p2⟩
    · cases q
theorem opdO_mem {o : Option Operand} {x : Option OpdS} (q : opdO ng M o = some x) : ∀ y ∈ x.toList, ∃ z ∈ o.toList, opd ng M z = some y := by
  cases o with
  | none => cases q; intro y hy; cases hy
  | some z =>
    obtain ⟨u, h1, rfl⟩ := map_some2 (show (opd ng M z).map some = some x from q)
    intro y hy
    have : y = u := by simpa using hy
    subst this
    exact ⟨z, by simp, h1⟩
/-- 1: looks, at most; 2: a new block of known cells -/
def OpS.cls : OpS → Nat
  | .alloc _ => 2
  | .box _ => 2
  | .buildSlice _ _ _ => 2
  | .store1 _ _ => 3
  | .storeN _ _ _ => 3
  | .mkMap _ => 3
  | .mkSlice _ _ _ => 3
  | .mapUpd _ _ _ _ => 3
  | .append _ _ _ => 3
  | .copy _ _ _ => 3
  | .clear _ _ => 3
  | .call _ _ => 3
  | .callV _ _ => 3
  | _ => 1
def ClsOk (o : Op) (d : OpS) : Prop := (clsOf o ≤ 1 → d.cls = 1) ∧ (clsOf o = 2 → d.cls = 2)
theorem cls1 {o : Op} {d : OpS} (hd : d.cls = 1) (ho : clsOf o ≠ 2) : ClsOk o d := ⟨fun _ => hd, fun q => absurd q ho⟩
theorem cls2 {o : Op} {d : OpS} (hd : d.cls = 2) (ho : clsOf o = 2) : ClsOk o d := ⟨fun q => by omega, fun _ => hd⟩
theorem cls3 {o : Op} {d : OpS} (ho : clsOf o = 3) : ClsOk o d := ⟨fun q => by omega, fun q => by omega⟩
def Comes (ng : Nat) (M : List Nat) (o : Op) (d : OpS) : Prop := (∀ y ∈ d.opds, ∃ x ∈ o.operands.toList, opd ng M x = some y) ∧ (d.plain = true ∨ ∃ f args ats, o = .call ⟨.value f, args, ats⟩) ∧ ClsOk o d
theorem comes1 {o : Op} {d : OpS} {x : Operand} {u : OpdS} (h1 : opd ng M x = some u) (hd : d.opds = [u]) (ho : x ∈ o.operands.toList) (hp : d.plain = true := by rfl) (hcl : ClsOk o d := by first | exact cls3 rfl | exact cls2 rfl rfl | exact cls1 rfl (by intro q; cases q)) : Comes ng M o d := by
  refine ⟨fun y hy => ?_, .inl hp, hcl⟩
  rw [hd] at hy; have : y = u := by simpa using hy
  subst this; exact ⟨x, ho, h1⟩
theorem comes2 {o : Op} {d : OpS} {x x2 : Operand} {u u2 : OpdS} (h1 : opd ng M x = some u) (h2 : opd ng M x2 = some u2) (hd : d.opds = [u, u2]) (ho : x ∈ o.operands.toList) (ho2 : x2 ∈ o.operands.toList) (hp : d.plain = true := by rfl) (hcl : ClsOk o d := by first | exact cls3 rfl | exact cls2 rfl rfl | exact cls1 rfl (by intro q; cases q)) : Comes ng M o d := by
  refine ⟨fun y hy => ?_, .inl hp, hcl⟩
  rw [hd] at hy
  rcases List.mem_cons.1 hy with rfl | hy
  · exact ⟨x, ho, h1⟩
  · have : y = u2 := by simpa using hy
    subst this; exact ⟨x2, ho2, h2⟩
theorem comes3 {o : Op} {d : OpS} {x x2 x3 : Operand} {u u2 u3 : OpdS} (h1 : opd ng M x = some u) (h2 : opd ng M x2 = some u2) (h3 : opd ng M x3 = some u3) (hd : d.opds = [u, u2, u3]) (ho : x ∈ o.operands.toList) (ho2 : x2 ∈ o.operands.toList) (ho3 : x3 ∈ o.operands.toList) (hp : d.plain = true := by rfl) (hcl : ClsOk o d := by first | exact cls3 rfl | exact cls2 rfl rfl | exact cls1 rfl (by intro q; cases q)) : Comes ng M o d := by
  refine ⟨fun y hy => ?_, .inl hp, hcl⟩
  rw [hd] at hy
  rcases List.mem_cons.1 hy with rfl | hy
  · exact ⟨x, ho, h1⟩
  rcases List.mem_cons.1 hy with rfl | hy
  · exact ⟨x2, ho2, h2⟩
  · have : y = u3 := by simpa using hy
    subst this; exact ⟨x3, ho3, h3⟩
theorem comesS {t : TypeId} {x : Operand} {lo hi mx : Option Operand} {d : OpS} {u : OpdS} {l : List OpdS} (h1 : opd ng M x = some u) (hd : d.opds = u :: l) (hl : ∀ y ∈ l, ∃ z ∈ lo.toList ++ hi.toList ++ mx.toList, opd ng M z = some y) (hp : d.plain = true := by rfl) (hcl : ClsOk (.slice t x lo hi mx) d := by exact cls1 rfl (by intro q; cases q)) : Comes ng M (.slice t x lo hi mx) d := by
  refine ⟨fun y hy => ?_, .inl hp, hcl⟩
  rw [hd] at hy
  rcases List.mem_cons.1 hy with rfl | hy
  · exact ⟨x, by simp [Op.operands], h1⟩
  · obtain ⟨z, q1, q2⟩ := hl y hy
    refine ⟨z, ?_, q2⟩
    simp only [Op.operands, Array.toList_append, List.mem_append, Option.toList_toArray] at q1 ⊢
    rcases q1 with (q1 | q1) | q1
    · exact .inl (.inl (.inr q1))
    · exact .inl (.inr q1)
    · exact .inr q1
theorem bin_comes {op : BinOp} {t ty : TypeId} {X Y : Operand} {d : OpS} (hd : compBin tt ng M op t X Y = some d) : Comes ng M (.binOp op t X Y ty) d := by
  obtain ⟨i, hi, hd⟩ := bind_some2 (show (tt t).bind _ = some d from hd)
  have two : ∀ {f : OpdS → OpdS → OpS}, (∀ x y, (f x y).opds = [x, y] ∧ (f x y).plain = true ∧ (f x y).cls = 1) → o2 ng M X Y f = some d → Comes ng M (.binOp op t X Y ty) d := by
    intro f hf q
    obtain ⟨u, v, h1, h2, rfl⟩ := o2_some q
    exact comes2 h1 h2 (hf u v).1 (by simp [Op.operands]) (by simp [Op.operands]) (hf u v).2.1 (cls1 (hf u v).2.2 (by intro q; cases q))
  have sl : ∀ pos, (if isNilS Y then o1 ng M X (.slNil pos) else if isNilS X then o1 ng M Y (.slNil pos) else none) = some d → Comes ng M (.binOp op t X Y ty) d := by
    intro pos q
    split at q
    · obtain ⟨u, h1, rfl⟩ := o1_some q
      exact comes1 h1 rfl (by simp [Op.operands])
    · split at q
      · obtain ⟨u, h1, rfl⟩ := o1_some q
        exact comes1 h1 rfl (by simp [Op.operands])
      · cases q
  have ag : ∀ pos, ((shapeOf tt t).bind fun sh => o2 ng M X Y (.agEq sh pos)) = some d → Comes ng M (.binOp op t X Y ty) d := by
    intro pos q
    obtain ⟨sh, _, q⟩ := bind_some2 q
    exact two (fun _ _ => ⟨rfl, rfl, rfl⟩) q
  cases hdd : i.desc <;> rw [hdd] at hd <;> cases op <;> first
    | (cases hd; done)
    | exact ag _ hd
    | exact sl _ hd
    | exact two (fun _ _ => ⟨rfl, rfl, rfl⟩) hd
    | (simp only at hd
       split at hd
       · cases hd
       · exact two (fun _ _ => ⟨rfl, rfl, rfl⟩) hd)
theorem comp_comes {o : Op} {d : OpS} (hd : compOp tt ng M o = some d) : Comes ng M o d := by
  cases o with
  | move x => obtain ⟨u, h1, rfl⟩ := o1_some (show o1 ng M x .move = some d from hd); exact comes1 h1 rfl (by simp [Op.operands])
  | assign x => obtain ⟨u, h1, rfl⟩ := o1_some (show o1 ng M x .move = some d from hd); exact comes1 h1 rfl (by simp [Op.operands])
  | pick c x y => obtain ⟨u, v, t, h1, h2, h3, rfl⟩ := o3_some (show o3 ng M c x y .pick = some d from hd); exact comes3 h1 h2 h3 rfl (by simp [Op.operands]) (by simp [Op.operands]) (by simp [Op.operands])
  | alloc t =>
    obtain ⟨i, hi, rfl⟩ := map_some2 (show (tt t).map _ = some d from hd)
    exact ⟨fun y hy => (by cases hy), .inl rfl, by first | exact cls3 rfl | exact cls2 rfl rfl⟩
  | box t x =>
    obtain ⟨i, hi, hd⟩ := bind_some2 (show (tt t).bind _ = some d from hd)
    obtain ⟨u, h1, rfl⟩ := o1_some hd
    exact comes1 h1 rfl (by simp [Op.operands])
  | build t prt =>
    obtain ⟨i, hi, hd⟩ := bind_some2 (show (tt t).bind _ = some d from hd)
    have fin : ∀ {places : Nat → Option (Nat × Nat)} {ps : List (Nat × Nat × OpdS)}, parts ng M places i.size prt.toList = some ps → Comes ng M (.build t prt) (.build i.zero ps) := by
      intro places ps q
      refine ⟨fun y hy => ?_, .inl rfl, by first | exact cls1 rfl (by intro q; cases q) | exact cls2 rfl rfl⟩
      obtain ⟨p, hp, rfl⟩ := List.mem_map.1 hy
      obtain ⟨z, q1, q2⟩ := parts_mem q p hp
      exact ⟨z.2, by simp only [Op.operands]; exact List.mem_map_of_mem q1, q2⟩
    split at hd
    · split at hd
      · obtain ⟨ps, h1, rfl⟩ := map_some2 hd
        exact fin h1
      · cases hd
    · obtain ⟨ie, h1, hd⟩ := bind_some2 hd
      obtain ⟨ps, h2, rfl⟩ := map_some2 hd
      exact fin h2
    · cases hd
  | buildSlice t len prt =>
    obtain ⟨i, hi, hd⟩ := bind_some2 (show (tt t).bind _ = some d from hd)
    split at hd
    · obtain ⟨ie, h0, hd⟩ := bind_some2 hd
      split at hd
      · cases hd
      · obtain ⟨ps, h1, rfl⟩ := map_some2 hd
        refine ⟨fun y hy => ?_, .inl rfl, by first | exact cls1 rfl (by intro q; cases q) | exact cls2 rfl rfl⟩
        obtain ⟨p, hp, rfl⟩ := List.mem_map.1 hy
        obtain ⟨z, q1, q2⟩ := parts_mem h1 p hp
        exact ⟨z.2, by simp only [Op.operands]; exact List.mem_map_of_mem q1, q2⟩
    · cases hd
  | load t x =>
    obtain ⟨i, hi, hd⟩ := bind_some2 (show (tt t).bind _ = some d from hd)
    split at hd
    · obtain ⟨u, h1, rfl⟩ := o1_some hd; exact comes1 h1 rfl (by simp [Op.operands])
    · split at hd
      · obtain ⟨u, h1, rfl⟩ := o1_some hd; exact comes1 h1 rfl (by simp [Op.operands])
      · cases hd
  | store t x y =>
    obtain ⟨i, hi, hd⟩ := bind_some2 (show (tt t).bind _ = some d from hd)
    split at hd
    · obtain ⟨u, v, h1, h2, rfl⟩ := o2_some hd; exact comes2 h1 h2 rfl (by simp [Op.operands]) (by simp [Op.operands])
    · split at hd
      · obtain ⟨u, v, h1, h2, rfl⟩ := o2_some hd; exact comes2 h1 h2 rfl (by simp [Op.operands]) (by simp [Op.operands])
      · cases hd
  | nilCheck x => obtain ⟨u, h1, rfl⟩ := o1_some (show o1 ng M x .nilCheck = some d from hd); exact comes1 h1 rfl (by simp [Op.operands])
  | binOp op t x y _ => exact bin_comes (show compBin tt ng M op t x y = some d from hd)
  | unOp op t x =>
    cases op with
    | not => obtain ⟨u, h1, rfl⟩ := o1_some (show o1 ng M x .not = some d from hd); exact comes1 h1 rfl (by simp [Op.operands])
    | neg => obtain ⟨u, h1, rfl⟩ := o1_some (show o1 ng M x .neg = some d from hd); exact comes1 h1 rfl (by simp [Op.operands])
    | _ => cases hd
  | convert s t x =>
    obtain ⟨j, hj, hd⟩ := bind_some2 (show (tt s).bind _ = some d from hd)
    obtain ⟨i, hi, hd⟩ := bind_some2 hd
    split at hd
    · obtain ⟨u, h1, rfl⟩ := o1_some hd; exact comes1 h1 rfl (by simp [Op.operands])
    · cases hd
  | makeFunc f x y =>
    cases f with
    | func f =>
      obtain ⟨u, h1, hd⟩ := bind_some2 (show (opds ng M x.toList).bind _ = some d from hd)
      obtain ⟨v, h2, rfl⟩ := map_some2 hd
      refine ⟨fun z hz => ?_, .inl rfl, cls1 rfl (by intro q; cases q)⟩
      rcases List.mem_append.1 hz with q | q
      · obtain ⟨b, p1, p2⟩ := opds_mem h1 z q
        exact ⟨b, by simp only [Op.operands, Array.toList_append, List.mem_append]; exact .inl p1, p2⟩
      · obtain ⟨b, p1, p2⟩ := opds_mem h2 z q
        exact ⟨b, by simp only [Op.operands, Array.toList_append, List.mem_append]; exact .inr p1, p2⟩
    | _ => cases hd
  | makeMap t r =>
    cases r with
    | some r => cases hd
    | none =>
      obtain ⟨i, hi, hd⟩ := bind_some2 (show (tt t).bind _ = some d from hd)
      split at hd
      · obtain ⟨sh, h1, rfl⟩ := map_some2 hd
        exact ⟨fun y hy => (by cases hy), .inl rfl, by first | exact cls3 rfl | exact cls2 rfl rfl⟩
      · cases hd
  | makeSlice t l c =>
    obtain ⟨i, hi, hd⟩ := bind_some2 (show (tt t).bind _ = some d from hd)
    split at hd
    · obtain ⟨ie, h0, hd⟩ := bind_some2 hd
      split at hd
      · obtain ⟨u, v, h1, h2, rfl⟩ := o2_some hd; exact comes2 h1 h2 rfl (by simp [Op.operands]) (by simp [Op.operands])
      · cases hd
    · cases hd
  | slice t x lo hi mx =>
    obtain ⟨i, hi', hd2⟩ := bind_some2 (show (tt t).bind _ = some d from hd)
    clear hd
    have hd := hd2
    clear hd2
    split at hd
    · obtain ⟨u, h1, hd⟩ := bind_some2 hd
      obtain ⟨v, h2, hd⟩ := bind_some2 hd
      obtain ⟨z, h3, rfl⟩ := map_some2 hd
      refine comesS h1 rfl (fun y hy => ?_)
      rcases List.mem_append.1 hy with q | q
      · obtain ⟨b, p1, p2⟩ := opdO_mem h2 y q
        exact ⟨b, by simp only [List.mem_append]; exact .inl (.inl p1), p2⟩
      · obtain ⟨b, p1, p2⟩ := opdO_mem h3 y q
        exact ⟨b, by simp only [List.mem_append]; exact .inl (.inr p1), p2⟩
    · obtain ⟨ie, h0, hd⟩ := bind_some2 hd
      obtain ⟨u, h1, hd⟩ := bind_some2 hd
      obtain ⟨v, h2, hd⟩ := bind_some2 hd
      obtain ⟨z, h3, rfl⟩ := map_some2 hd
      refine comesS h1 rfl (fun y hy => ?_)
      rcases List.mem_append.1 hy with q | q
      · obtain ⟨b, p1, p2⟩ := opdO_mem h2 y q
        exact ⟨b, by simp only [List.mem_append]; exact .inl (.inl p1), p2⟩
      · obtain ⟨b, p1, p2⟩ := opdO_mem h3 y q
        exact ⟨b, by simp only [List.mem_append]; exact .inl (.inr p1), p2⟩
    · rename_i el m q1
      obtain ⟨ie, h0, hd⟩ := bind_some2 hd
      obtain ⟨u, h1, hd⟩ := bind_some2 hd
      obtain ⟨v, h2, hd⟩ := bind_some2 hd
      obtain ⟨z, h3, hd⟩ := bind_some2 hd
      obtain ⟨m', h4, hd⟩ := bind_some2 hd
      obtain ⟨z', h5, rfl⟩ := map_some2 hd
      subst h5
      refine comesS h1 rfl (fun y hy => ?_)
      rcases List.mem_cons.1 hy with rfl | hy
      · obtain ⟨b, p1, p2⟩ := opdO_mem h3 y (by simp)
        exact ⟨b, by simp only [List.mem_append]; exact .inl (.inr p1), p2⟩
      rcases List.mem_cons.1 hy with rfl | hy
      · exact ⟨m, by simp, h4⟩
      · obtain ⟨b, p1, p2⟩ := opdO_mem h2 y hy
        exact ⟨b, by simp only [List.mem_append]; exact .inl (.inl p1), p2⟩
    · obtain ⟨ie, h0, hd⟩ := bind_some2 hd
      obtain ⟨u, h1, hd⟩ := bind_some2 hd
      obtain ⟨v, h2, hd⟩ := bind_some2 hd
      obtain ⟨z, h3, rfl⟩ := map_some2 hd
      refine comesS h1 rfl (fun y hy => ?_)
      rcases List.mem_append.1 hy with q | q
      · obtain ⟨b, p1, p2⟩ := opdO_mem h2 y q
        exact ⟨b, by simp only [List.mem_append]; exact .inl (.inl p1), p2⟩
      · obtain ⟨b, p1, p2⟩ := opdO_mem h3 y q
        exact ⟨b, by simp only [List.mem_append]; exact .inl (.inr p1), p2⟩
    · cases hd
  | fieldAddr s x f =>
    obtain ⟨i, hi', hd⟩ := bind_some2 (show (tt s).bind _ = some d from hd)
    split at hd
    · obtain ⟨fl, h0, hd⟩ := bind_some2 hd
      obtain ⟨ie, h1, hd⟩ := bind_some2 hd
      split at hd
      · cases hd
      · obtain ⟨u, h2, rfl⟩ := o1_some hd; exact comes1 h2 rfl (by simp [Op.operands])
    · cases hd
  | field s x f =>
    obtain ⟨i, hi', hd⟩ := bind_some2 (show (tt s).bind _ = some d from hd)
    split at hd
    · obtain ⟨fl, h0, hd⟩ := bind_some2 hd
      obtain ⟨ie, h1, hd⟩ := bind_some2 hd
      split at hd
      · obtain ⟨u, h2, rfl⟩ := o1_some hd; exact comes1 h2 rfl (by simp [Op.operands])
      · obtain ⟨u, h2, rfl⟩ := o1_some hd; exact comes1 h2 rfl (by simp [Op.operands])
    · cases hd
  | indexAddr t x ix =>
    obtain ⟨i, hi', hd⟩ := bind_some2 (show (tt t).bind _ = some d from hd)
    split at hd
    · obtain ⟨ie, h1, hd⟩ := bind_some2 hd
      obtain ⟨u, v, h2, h3, rfl⟩ := o2_some hd; exact comes2 h2 h3 rfl (by simp [Op.operands]) (by simp [Op.operands])
    · obtain ⟨ie, h1, hd⟩ := bind_some2 hd
      obtain ⟨u, v, h2, h3, rfl⟩ := o2_some hd; exact comes2 h2 h3 rfl (by simp [Op.operands]) (by simp [Op.operands])
    · cases hd
  | index t x ix =>
    obtain ⟨i, hi', hd⟩ := bind_some2 (show (tt t).bind _ = some d from hd)
    split at hd
    · obtain ⟨u, v, h2, h3, rfl⟩ := o2_some hd; exact comes2 h2 h3 rfl (by simp [Op.operands]) (by simp [Op.operands])
    · obtain ⟨ie, h1, hd⟩ := bind_some2 hd
      split at hd
      · cases hd
      · obtain ⟨u, v, h2, h3, rfl⟩ := o2_some hd; exact comes2 h2 h3 rfl (by simp [Op.operands]) (by simp [Op.operands])
    · cases hd
  | lookup t m x ok =>
    obtain ⟨i, hi, hd⟩ := bind_some2 (show (tt t).bind _ = some d from hd)
    split at hd
    · obtain ⟨sh, hs, hd⟩ := bind_some2 hd
      obtain ⟨ie, hie, hd⟩ := bind_some2 hd
      split at hd
      · cases hd
      · split at hd
        · split at hd
          · obtain ⟨u, v, h2, h3, rfl⟩ := o2_some hd; exact comes2 h2 h3 rfl (by simp [Op.operands]) (by simp [Op.operands])
          · obtain ⟨u, v, h2, h3, rfl⟩ := o2_some hd; exact comes2 h2 h3 rfl (by simp [Op.operands]) (by simp [Op.operands])
        · cases hd
    · cases hd
  | mapUpdate t m x y =>
    obtain ⟨i, hi, hd⟩ := bind_some2 (show (tt t).bind _ = some d from hd)
    split at hd
    · obtain ⟨sh, hs, hd⟩ := bind_some2 hd
      obtain ⟨u, v, z, h1, h2, h3, rfl⟩ := o3_some hd
      exact comes3 h1 h2 h3 rfl (by simp [Op.operands]) (by simp [Op.operands]) (by simp [Op.operands])
    · cases hd
  | insert t m x y =>
    obtain ⟨i, hi, hd⟩ := bind_some2 (show (tt t).bind _ = some d from hd)
    split at hd
    · obtain ⟨sh, hs, hd⟩ := bind_some2 hd
      obtain ⟨u, v, z, h1, h2, h3, rfl⟩ := o3_some hd
      exact comes3 h1 h2 h3 rfl (by simp [Op.operands]) (by simp [Op.operands]) (by simp [Op.operands])
    · cases hd
  | extract x i => obtain ⟨u, h1, rfl⟩ := o1_some (show o1 ng M x (.extract i) = some d from hd); exact comes1 h1 rfl (by simp [Op.operands])
  | call c =>
    obtain ⟨callee, args, ats⟩ := c
    have two : ∀ {X0 Y0 : Operand} {f : OpdS → OpdS → OpS} {cl : Callee}, (∀ x y, (f x y).opds = [x, y] ∧ (f x y).plain = true ∧ ClsOk (.call ⟨cl, #[X0, Y0], ats⟩) (f x y)) → o2 ng M X0 Y0 f = some d → Comes ng M (.call ⟨cl, #[X0, Y0], ats⟩) d := by
      intro X0 Y0 f cl hf q
      obtain ⟨u, v, h1, h2, rfl⟩ := o2_some q
      exact comes2 h1 h2 (hf u v).1 (by simp [Op.operands, Call.operands]) (by simp [Op.operands, Call.operands]) (hf u v).2.1 (hf u v).2.2
    have one : ∀ {X0 : Operand} {f : OpdS → OpS} {cl : Callee}, (∀ x, (f x).opds = [x] ∧ (f x).plain = true ∧ ClsOk (.call ⟨cl, #[X0], ats⟩) (f x)) → o1 ng M X0 f = some d → Comes ng M (.call ⟨cl, #[X0], ats⟩) d := by
      intro X0 f cl hf q
      obtain ⟨u, h1, rfl⟩ := o1_some q
      exact comes1 h1 (hf u).1 (by simp [Op.operands, Call.operands]) (hf u).2.1 (hf u).2.2
    cases callee with
    | builtin b =>
      cases b with
      | len =>
        have hd' : (match args.toList, ats.toList with
          | [x], [t] => (tt t).bind fun i => match i.desc with
            | .slice _ => o1 ng M x .lenV
            | .string => o1 ng M x .lenS
            | .map _ _ => o1 ng M x .lenM
            | _ => none
          | _, _ => none) = some d := hd
        split at hd'
        · rename_i x t q1 q2
          have e1 := arr1 q1
          subst e1
          obtain ⟨i, hi, hd'⟩ := bind_some2 hd'
          split at hd'
          · exact one (fun _ => ⟨rfl, rfl, by first | exact cls3 rfl | exact cls1 rfl (by intro q; cases q)⟩) hd'
          · exact one (fun _ => ⟨rfl, rfl, by first | exact cls3 rfl | exact cls1 rfl (by intro q; cases q)⟩) hd'
          · exact one (fun _ => ⟨rfl, rfl, by first | exact cls3 rfl | exact cls1 rfl (by intro q; cases q)⟩) hd'
          · cases hd'
        · cases hd'
      | append =>
        have hd' : (match args.toList, ats.toList with
          | [s, x], [t, u] => (tt t).bind fun i => (tt u).bind fun j => match i.desc, j.desc with
            | .slice e, .slice _ => (tt e).bind fun ie => if ie.bytes ≤ 1048576 ∧ 0 < ie.size then o2 ng M s x (.append ie.size) else none
            | _, _ => none
          | _, _ => none) = some d := hd
        split at hd'
        · rename_i s x t u q1 q2
          have e1 := arr2 q1
          subst e1
          obtain ⟨i, hi, hd'⟩ := bind_some2 hd'
          obtain ⟨j, hj, hd'⟩ := bind_some2 hd'
          split at hd'
          · obtain ⟨ie, h0, hd'⟩ := bind_some2 hd'
            split at hd'
            · exact two (fun _ _ => ⟨rfl, rfl, by first | exact cls3 rfl | exact cls1 rfl (by intro q; cases q)⟩) hd'
            · cases hd'
          · cases hd'
        · cases hd'
      | copy =>
        have hd' : (match args.toList, ats.toList with
          | [s, x], [t, u] => (tt t).bind fun i => (tt u).bind fun j => match i.desc, j.desc with
            | .slice e, .slice _ => (tt e).bind fun ie => o2 ng M s x (.copy ie.size)
            | _, _ => none
          | _, _ => none) = some d := hd
        split at hd'
        · rename_i s x t u q1 q2
          have e1 := arr2 q1
          subst e1
          obtain ⟨i, hi, hd'⟩ := bind_some2 hd'
          obtain ⟨j, hj, hd'⟩ := bind_some2 hd'
          split at hd'
          · obtain ⟨ie, h0, hd'⟩ := bind_some2 hd'
            exact two (fun _ _ => ⟨rfl, rfl, by first | exact cls3 rfl | exact cls1 rfl (by intro q; cases q)⟩) hd'
          · cases hd'
        · cases hd'
      | clear =>
        have hd' : (match args.toList, ats.toList with
          | [s], [t] => (tt t).bind fun i => match i.desc with
            | .slice e => (tt e).bind fun ie => o1 ng M s (.clear ie.zero)
            | _ => none
          | _, _ => none) = some d := hd
        split at hd'
        · rename_i s t q1 q2
          have e1 := arr1 q1
          subst e1
          obtain ⟨i, hi, hd'⟩ := bind_some2 hd'
          split at hd'
          · obtain ⟨ie, h0, hd'⟩ := bind_some2 hd'
            exact one (fun _ => ⟨rfl, rfl, by first | exact cls3 rfl | exact cls1 rfl (by intro q; cases q)⟩) hd'
          · cases hd'
        · cases hd'
      | min =>
        have hd' : (match args.toList with | [x, y] => o2 ng M x y (.minMax false) | _ => none) = some d := hd
        split at hd'
        · rename_i x y q1
          have e1 := arr2 q1
          subst e1
          exact two (fun _ _ => ⟨rfl, rfl, by first | exact cls3 rfl | exact cls1 rfl (by intro q; cases q)⟩) hd'
        · cases hd'
      | max =>
        have hd' : (match args.toList with | [x, y] => o2 ng M x y (.minMax true) | _ => none) = some d := hd
        split at hd'
        · rename_i x y q1
          have e1 := arr2 q1
          subst e1
          exact two (fun _ _ => ⟨rfl, rfl, by first | exact cls3 rfl | exact cls1 rfl (by intro q; cases q)⟩) hd'
        · cases hd'
      | _ => cases hd
    | invoke r n => cases hd
    | value f =>
      have viaF : ∀ {f : Operand}, (opd ng M f).bind (fun f => (opds ng M args.toList).map (.callV f)) = some d → Comes ng M (.call ⟨.value f, args, ats⟩) d := by
        intro f q
        obtain ⟨u, h1, q⟩ := bind_some2 q
        obtain ⟨v, h2, rfl⟩ := map_some2 q
        refine ⟨fun y hy => ?_, .inr ⟨_, _, _, rfl⟩, cls3 rfl⟩
        rcases List.mem_cons.1 hy with rfl | hy
        · exact ⟨f, by simp [Op.operands, Call.operands], h1⟩
        · obtain ⟨z, p1, p2⟩ := opds_mem h2 y hy
          exact ⟨z, by simp only [Op.operands, Call.operands, Array.toList_append, List.mem_append]; exact .inr p1, p2⟩
      cases f with
      | func f =>
        obtain ⟨u, h1, rfl⟩ := map_some2 (show (opds ng M args.toList).map (.call f) = some d from hd)
        refine ⟨fun y hy => ?_, .inr ⟨_, _, _, rfl⟩, cls3 rfl⟩
        obtain ⟨z, p1, p2⟩ := opds_mem h1 y hy
        exact ⟨z, by simp only [Op.operands, Call.operands, Array.toList_append, List.mem_append]; exact .inr p1, p2⟩
      | tmp t => exact viaF hd
      | const v => exact viaF hd
      | global g => exact viaF hd
  | _ => cases hd
/-- operands that are alike in two environments -/
theorem opds_alike {o : Op} {d : OpS} (hd : compOp tt ng M o = some d) (hv : ∀ t ∈ opTmps o, tval M e1 t = tval M e t) : ∀ y ∈ d.opds, y.rd e = y.rd e1 := by
  intro y hy
  obtain ⟨x, hx, q⟩ := (comp_comes hd).1 y hy
  cases x with
  | tmp t =>
    have ht : t ∈ opTmps o := List.mem_filterMap.2 ⟨_, hx, rfl⟩
    have q' : tmpAt M t = some y := q
    rw [tmpAt_rd q', tmpAt_rd q']
    exact (hv t ht).symm
  | const v =>
    obtain ⟨u, h1, rfl⟩ := map_some2 (show (ofV v).map .c = some y from q)
    rfl
  | global g =>
    have q' : (if Nat.blt g ng then some (OpdS.c (.ptr g 0)) else none) = some y := q
    split at q'
    · cases q'; rfl
    · cases q'
  | func f => cases q; rfl
end Dv
/-! one operation, on the machine -/
namespace Dv
open Go Go.RowKit
variable {S : Sites} {base : Nat} {μ μ' : Mu} {h : Heap} {w w' : World} {P : Program} {tt : TT} {ng : Nat} {kp : Nat → Bool} {nt : Nat} {M : List Nat} {e e1 : Env} {a a' : Act} {k : K} {s : Self}

/-- what the functions' table is to keep: calls -/
def SelfF (P : Program) (S : Sites) (base ng : Nat) (s : Self) : Prop :=
  ∀ (f : Nat) (args : List AV) (h : Heap) (v : AV) (h' : Heap), s 0 f args h = .val v h' → ∀ (μ : Mu) (w : World) (args' : List Value), HR S base μ h w → GOk ng μ → VRs μ args args' →
    (∃ fn, P.funcs[f]? = some fn ∧ fn.body.isSome = true ∧ (fn.name == "runtime.NumGoroutine") = false) ∧
    ∀ (c : Frame) (cs : List Frame), ∃ μ' v' w', Ext S base μ h w μ' h' w' ∧ VR μ' v v' ∧ Steps P (lone (Frame.enter P f args'.toArray .normal) (c :: cs) w) (lone (c.finish v') cs w')
/-- rounds -/
def SelfY (P : Program) (S : Sites) (base ng : Nat) (s : Self) : Prop :=
  ∀ (l : Nat) (args : List AV) (h : Heap) (v : AV) (h' : Heap), s 1 l args h = .val v h' → ∀ (μ : Mu) (w : World) (args' : List Value) (L : Loc), HR S base μ h w → GOk ng μ → VRs μ args args' → μ l = some L →
    ∃ (fn : FuncId) (tmps : Array Value) (asg body : Code), (Instr.yield L.blk args'.toArray).run P w = .ok (.round L.blk fn tmps asg body) w ∧
      ∀ (c : Frame) (cs : List Frame), ∃ (μ' : Mu) (v' : Value) (w' : World), Ext S base μ h w μ' h' w' ∧ VR μ' v v' ∧ Steps P (lone (Frame.round L.blk fn tmps asg body .normal) (c :: cs) w) (lone (c.finish v') cs w')

theorem VR.fn_inv {f : Nat} {l l' : List AV} {v : Value} (h : VR μ (.oth 4 f l l') v) : ∃ a' b', VRs μ l a' ∧ VRs μ l' b' ∧ v = .func (.func f) a'.toArray b'.toArray := by
  cases h with
  | fn ha hb => exact ⟨_, _, ha, hb, rfl⟩
theorem VR.yld_inv {m : Nat} {l l' : List AV} {v : Value} (h : VR μ (.oth 5 m l l') v) : ∃ L, μ m = some L ∧ v = .func (.yield L.blk) #[] #[] := by
  cases h with
  | yld h => exact ⟨_, h, rfl⟩
theorem onVal_ne {o : Out} {f : AV → Heap → Out} (hne : onVal o f ≠ .bad) : ∃ v h, o = .val v h ∧ onVal o f = f v h := by
  cases o <;> first | exact absurd rfl hne | exact ⟨_, _, rfl, rfl⟩
theorem onOth_ne {v : AV} {f : Nat → Nat → List AV → List AV → Out} (hne : v.onOth f .bad ≠ .bad) : ∃ t a l m, v = .oth t a l m ∧ v.onOth f .bad = f t a l m := by
  cases v <;> first | exact absurd rfl hne | exact ⟨_, _, _, _, rfl, rfl⟩
theorem run_callFunc_body {f : FuncId} {fn : Func} (hf : P.funcs[f]? = some fn) (hb : fn.body.isSome = true) (hname : (fn.name == "runtime.NumGoroutine") = false) (args : Array Value) (w : World) :
    (callFunc f args).run P w = .ok (.enter f args) w := by
  have h1 : fn.name ≠ "runtime.NumGoroutine" := by simpa using hname
  cases hq : fn.body with
  | none => rw [hq] at hb; cases hb
  | some c => simp [callFunc, hf, h1, hq]
section
variable {b : Frame} {ops : Array Oper} {i : Nat} {rest : List Nat} {k : List Item} {cs : List Frame} {o : Oper}
theorem step_val {v : Value} (ho : ops[i]? = some o) (hw : Region.wanted o (yielded ops a.tmps) = true) (hnd : ∀ c, o.op ≠ .defer c)
    (hr : (execOp a.eval o).run P w = .ok (.value v) w' ∨ ((execOp a.eval o).run P w = .ok .skip w' ∧ v = undef)) :
    step P (lone (b.atR a (.inRegion ops (i :: rest) :: k)) cs w) = .next (lone (b.atR (a.put o.dst v) (.inRegion ops rest :: k)) cs w') := by
  have hfin : (b.atR a (.inRegion ops (i :: rest) :: k)).finish v = b.atR (a.put o.dst v) (.inRegion ops rest :: k) := by rw [Frame.finish_atR, ho]; rfl
  refine step_lone_go ?_
  rw [stepGR_op ho hw, Oper.semAt_eq _ _ _ hnd, ← hfin]
  rcases hr with hr | ⟨hr, rfl⟩ <;> simp [stepG.apply, hr]
theorem step_enter {f : FuncId} {args : Array Value} (ho : ops[i]? = some o) (hw : Region.wanted o (yielded ops a.tmps) = true) (hnd : ∀ c, o.op ≠ .defer c) (hr : (execOp a.eval o).run P w = .ok (.enter f args) w) :
    step P (lone (b.atR a (.inRegion ops (i :: rest) :: k)) cs w) = .next (lone (Frame.enter P f args .normal) (b.atR a (.inRegion ops (i :: rest) :: k) :: cs) w) := by
  refine step_lone_go ?_
  rw [stepGR_op ho hw, Oper.semAt_eq _ _ _ hnd]
  simp [stepG.apply, hr, Frame.atR]
theorem step_round {l : Nat} {f : FuncId} {tmps : Array Value} {asg body : Code} (ho : ops[i]? = some o) (hw : Region.wanted o (yielded ops a.tmps) = true) (hnd : ∀ c, o.op ≠ .defer c) (hr : (execOp a.eval o).run P w = .ok (.round l f tmps asg body) w) :
    step P (lone (b.atR a (.inRegion ops (i :: rest) :: k)) cs w) = .next (lone (Frame.round l f tmps asg body .normal) (b.atR a (.inRegion ops (i :: rest) :: k) :: cs) w) := by
  refine step_lone_go ?_
  rw [stepGR_op ho hw, Oper.semAt_eq _ _ _ hnd]
  simp [stepG.apply, hr, Frame.atR]
end
theorem comp_nodefer {o : Op} {d : OpS} (hd : compOp tt ng M o = some d) : ∀ c, o ≠ .defer c := by
  rintro c rfl; cases hd
/-- operation o, done: the value, the memory, the machine's steps -/
def OpDone (P : Program) (S : Sites) (base : Nat) (μ : Mu) (h : Heap) (w : World) (a : Act) (o : Oper) (v : AV) (h' : Heap) : Prop :=
  ∀ (b : Frame) (ops : Array Oper) (i : Nat) (rest : List Nat) (k : List Item) (cs : List Frame), ops[i]? = some o → Region.wanted o (yielded ops a.tmps) = true → ∃ μ' cv w', Ext S base μ h w μ' h' w' ∧ VR μ' v cv ∧
    Steps P (lone (b.atR a (.inRegion ops (i :: rest) :: k)) cs w) (lone (b.atR (a.put o.dst cv) (.inRegion ops rest :: k)) cs w')
theorem plain_run (d : OpS) (hp : d.plain = true) (w0 : Wr) (next : Run) : d.run w0 next = rO d.op w0 next := by
  cases d <;> first | rfl | cases hp
theorem call_inv {o : Op} {f : Nat} {xs : List OpdS} (hd : compOp tt ng M o = some (.call f xs)) : ∃ args ats, o = .call ⟨.value (.func f), args, ats⟩ ∧ opds ng M args.toList = some xs := by
  rcases (comp_comes hd).2.1 with q | ⟨F, args, ats, rfl⟩
  · cases q
  · have viaF : ∀ {F : Operand}, (opd ng M F).bind (fun f => (opds ng M args.toList).map (OpS.callV f)) ≠ some (OpS.call f xs) := by
      intro F q
      obtain ⟨u, h1, q⟩ := bind_some2 q
      obtain ⟨v, h2, q⟩ := map_some2 q
      cases q
    cases F with
    | func g =>
      obtain ⟨u, h1, q⟩ := map_some2 (show (opds ng M args.toList).map (OpS.call g) = some (OpS.call f xs) from hd)
      cases q
      exact ⟨args, ats, rfl, h1⟩
    | tmp t => exact absurd hd viaF
    | const v => exact absurd hd viaF
    | global g => exact absurd hd viaF
theorem callV_inv {o : Op} {x : OpdS} {xs : List OpdS} (hd : compOp tt ng M o = some (.callV x xs)) : ∃ F args ats, o = .call ⟨.value F, args, ats⟩ ∧ opd ng M F = some x ∧ opds ng M args.toList = some xs := by
  rcases (comp_comes hd).2.1 with q | ⟨F, args, ats, rfl⟩
  · cases q
  · have viaF : ∀ {F : Operand}, (opd ng M F).bind (fun f => (opds ng M args.toList).map (OpS.callV f)) = some (OpS.callV x xs) → opd ng M F = some x ∧ opds ng M args.toList = some xs := by
      intro F q
      obtain ⟨u, h1, q⟩ := bind_some2 q
      obtain ⟨v, h2, q⟩ := map_some2 q
      cases q
      exact ⟨h1, h2⟩
    cases F with
    | func g =>
      obtain ⟨u, h1, q⟩ := map_some2 (show (opds ng M args.toList).map (OpS.call g) = some (OpS.callV x xs) from hd)
      cases q
    | tmp t => exact ⟨_, _, _, rfl, viaF hd⟩
    | const v => exact ⟨_, _, _, rfl, viaF hd⟩
    | global g => exact ⟨_, _, _, rfl, viaF hd⟩
theorem op_step (htt : TTOk P tt) (h20 : 20 ≤ P.types.size + 1) (hbig : P.types.size + 2 ≤ 10000) (hF : SelfF P S base ng s) (hY : SelfY P S base ng s) (hr : HR S base μ h w) (ha : AR ng kp nt μ M e1 a) {o : Oper} {d : OpS} (hd : compOp tt ng M o.op = some d) (hal : ∀ y ∈ d.opds, y.rd e = y.rd e1)
    {w0 : Wr} {next : Run} {c : Ctx} (hc : c.s = s) (hne : d.run w0 next c e h ≠ .bad) : ∃ v h', (∀ next' : Run, d.run w0 next' c e h = next' c (w0 v e) h') ∧ OpDone P S base μ h w a o v h' := by
  subst hc
  have hnd := comp_nodefer hd
  cases hp : d.plain with
  | true =>
    have hrun := plain_run d hp
    rw [hrun] at hne
    have hoc := op_congr d hp hal
    obtain ⟨μ', v, h', cv, w', r1, r2, r3, r4⟩ := eff_ok htt h20 hbig hr ha hd hp (k := fun v h => next c (w0 v e) h) (by rw [← hoc]; exact hne)
    rw [← hoc] at r1
    exact ⟨v, h', fun next' => by rw [hrun]; exact r1 _, fun b ops i rest k cs ho hw => ⟨μ', cv, w', r2, r3, .one (step_val ho hw hnd r4)⟩⟩
  | false =>
    cases d with
    | call f xs =>
      obtain ⟨args, ats, ho, hx⟩ := call_inv hd
      have hma : mapRd (rds xs) e = mapRd (rds xs) e1 := mapRd_congr xs hal
      have hne' : onVal (c.s 0 f (mapRd (rds xs) e) h) (fun v h => next c (w0 v e) h) ≠ .bad := hne
      obtain ⟨v, h', q1, q2⟩ := onVal_ne hne'
      have q1' := q1
      rw [hma] at q1'
      obtain ⟨⟨fn, f1, f2, f3⟩, hcall⟩ := hF f _ h v h' q1' μ w _ hr ha.gok (ha.opds hx)
      refine ⟨v, h', fun next' => ?_, fun b ops i rest k cs ho' hw => ?_⟩
      · show onVal (c.s 0 f (mapRd (rds xs) e) h) (fun v h => next' c (w0 v e) h) = _
        rw [q1]; rfl
      · have hrun : (execOp a.eval o).run P w = .ok (.enter f (args.toList.map a.eval).toArray) w := by
          have e1 : (args.toList.map a.eval).toArray = args.map a.eval := by apply Array.ext'; simp
          obtain ⟨dst, op, ty, pos, after, guard⟩ := o
          simp only at ho
          subst ho
          rw [e1]
          have := run_callFunc_body f1 f2 f3 (args.map a.eval) w
          simp [execOp, resolve, Act.eval, Deferred.ofValue, invoke, this]
        have h1 := step_enter (b := b) (k := k) (cs := cs) (rest := rest) ho' hw hnd hrun
        obtain ⟨μ', cv, w', r1, r2, h2⟩ := hcall (b.atR a (.inRegion ops (i :: rest) :: k)) cs
        rw [Frame.finish_atR, ho'] at h2
        exact ⟨μ', cv, w', r1, r2, .head h1 h2⟩
    | callV x xs =>
      obtain ⟨F, args, ats, ho, hxF, hx⟩ := callV_inv hd
      have hvF := ha.opd hxF
      have hma : mapRd (rds xs) e = mapRd (rds xs) e1 := mapRd_congr xs (fun y hy => hal y (List.mem_cons_of_mem _ hy))
      rw [← hal x (List.mem_cons_self ..)] at hvF
      have hvs := ha.opds hx
      rw [← hma] at hvs
      have e1 : (args.toList.map a.eval).toArray = args.map a.eval := by apply Array.ext'; simp
      have hne' : (x.rd e).onOth (fun t g first caps => bo (Nat.beq t 4) (onVal (c.s 0 g (appL first (appL (mapRd (rds xs) e) caps)) h) fun v h => next c (w0 v e) h)
        (bo (Nat.beq t 5) (onVal (c.s 1 g (mapRd (rds xs) e) h) fun v h => next c (w0 v e) h) .bad)) .bad ≠ .bad := hne
      obtain ⟨t, g, first, caps, z1, z2⟩ := onOth_ne hne'
      rw [z2] at hne'
      have unf : ∀ next' : Run, (OpS.callV x xs).run w0 next' c e h = bo (Nat.beq t 4) (onVal (c.s 0 g (appL first (appL (mapRd (rds xs) e) caps)) h) fun v h => next' c (w0 v e) h)
        (bo (Nat.beq t 5) (onVal (c.s 1 g (mapRd (rds xs) e) h) fun v h => next' c (w0 v e) h) .bad) := by
        intro next'
        show (x.rd e).onOth _ .bad = _
        rw [z1]; rfl
      rw [z1] at hvF
      by_cases t4 : t = 4
      · subst t4
        have hne2 : onVal (c.s 0 g (appL first (appL (mapRd (rds xs) e) caps)) h) (fun v h => next c (w0 v e) h) ≠ .bad := hne'
        obtain ⟨v, h', q1, q2⟩ := onVal_ne hne2
        obtain ⟨c1, c2, v1, v2, v3⟩ := hvF.fn_inv
        rw [appL_eq, appL_eq] at q1
        obtain ⟨⟨fn, f1, f2, f3⟩, hcall⟩ := hF g _ h v h' q1 μ w _ hr ha.gok (v1.append (hvs.append v2))
        refine ⟨v, h', fun next' => ?_, fun b ops i rest k cs ho' hw => ?_⟩
        · rw [unf, appL_eq, appL_eq]
          show onVal _ _ = _
          rw [q1]; rfl
        · have hrun : (execOp a.eval o).run P w = .ok (.enter g (c1 ++ (args.toList.map a.eval ++ c2)).toArray) w := by
            have e2 : (c1 ++ (args.toList.map a.eval ++ c2)).toArray = c1.toArray ++ args.map a.eval ++ c2.toArray := by apply Array.ext'; simp
            obtain ⟨dst, op, ty, pos, after, guard⟩ := o
            simp only at ho
            subst ho
            rw [e2]
            have := run_callFunc_body f1 f2 f3 (c1.toArray ++ args.map a.eval ++ c2.toArray) w
            simp only [execOp, resolve, v3, Deferred.ofValue, invoke, Sem.run_bind, Sem.run_pure, Result.andThen_ok]
            exact this
          have h1 := step_enter (b := b) (k := k) (cs := cs) (rest := rest) ho' hw hnd hrun
          obtain ⟨μ', cv, w', r1, r2, h2⟩ := hcall (b.atR a (.inRegion ops (i :: rest) :: k)) cs
          rw [Frame.finish_atR, ho'] at h2
          exact ⟨μ', cv, w', r1, r2, .head h1 h2⟩
      · rw [nbeq_f t4, bo_f] at hne'
        obtain ⟨t5', hne2⟩ := bo_ne' hne'
        have t5 := nbeq_iff.1 t5'
        subst t5
        rw [hne2] at hne'
        obtain ⟨v, h', q1, q2⟩ := onVal_ne hne'
        obtain ⟨L, l1, l2⟩ := hvF.yld_inv
        obtain ⟨fn, tmps, asg, body, y1, hcall⟩ := hY g _ h v h' q1 μ w _ L hr ha.gok hvs l1
        refine ⟨v, h', fun next' => ?_, fun b ops i rest k cs ho' hw => ?_⟩
        · rw [unf]
          show onVal _ _ = _
          rw [q1]; rfl
        · have hrun : (execOp a.eval o).run P w = .ok (.round L.blk fn tmps asg body) w := by
            obtain ⟨dst, op, ty, pos, after, guard⟩ := o
            simp only at ho
            subst ho
            rw [e1] at y1
            simp only [execOp, resolve, l2, Deferred.ofValue, invoke, Sem.run_bind, Sem.run_pure, Result.andThen_ok, Array.empty_append]
            exact y1
          have h1 := step_round (b := b) (k := k) (cs := cs) (rest := rest) ho' hw hnd hrun
          obtain ⟨μ', cv, w', r1, r2, h2⟩ := hcall (b.atR a (.inRegion ops (i :: rest) :: k)) cs
          rw [Frame.finish_atR, ho'] at h2
          exact ⟨μ', cv, w', r1, r2, .head h1 h2⟩
    | _ => cases hp
end Dv
/-! guards; a region in the order of its text -/
namespace Dv
open Go Go.RowKit
variable {S : Sites} {base : Nat} {μ μ' : Mu} {h : Heap} {w w' : World} {P : Program} {tt : TT} {ng : Nat} {kp : Nat → Bool} {nt : Nat} {M : List Nat} {e e1 : Env} {a a' : Act} {k : K} {s : Self} {ops : Array Oper}

/-- operation i, done or passed by -/
def StDone (P : Program) (S : Sites) (base : Nat) (ops : Array Oper) (i : Nat) (μ : Mu) (h : Heap) (w : World) (a : Act) (o : Oper) (v : AV) (h' : Heap) : Prop :=
  ∀ (b : Frame) (rest : List Nat) (k : List Item) (cs : List Frame), ∃ μ' cv w', Ext S base μ h w μ' h' w' ∧ VR μ' v cv ∧
    Steps P (lone (b.atR a (.inRegion ops (i :: rest) :: k)) cs w) (lone (b.atR (a.put o.dst cv) (.inRegion ops rest :: k)) cs w')
theorem OpDone.st {v : AV} {h' : Heap} {o : Oper} {i : Nat} (q : OpDone P S base μ h w a o v h') (ho : ops[i]? = some o) (hw : Region.wanted o (yielded ops a.tmps) = true) : StDone P S base ops i μ h w a o v h' :=
  fun b rest k cs => q b ops i rest k cs ho hw
theorem skip_st {o : Oper} {i : Nat} (hr : HR S base μ h w) (ho : ops[i]? = some o) (hw : Region.wanted o (yielded ops a.tmps) = false) : StDone P S base ops i μ h w a o (.tup []) h := by
  intro b rest k cs
  refine ⟨μ, undef, w, Ext.refl hr, .tup .nil, ?_⟩
  have h1 := stepR_op_skip (P := P) (b := b) (a := a) (k := k) (cs := cs) (w := w) (ops := ops) (i := i) (rest := rest) (by rw [ho]; simpa using hw)
  rw [ho] at h1
  exact .one h1
theorem guardS_some {j : Nat} {want : Bool} {g : Option (OpdS × Bool)} (hg : guardS ops M (some (j, want)) = some g) : ∃ t x, (ops[j]?).bind (·.dst) = some t ∧ tmpAt M t = some x ∧ g = some (x, want) := by
  obtain ⟨t, h1, q⟩ := bind_some2 (show ((ops[j]?).bind (·.dst)).bind _ = some g from hg)
  obtain ⟨x, h2, rfl⟩ := map_some2 q
  exact ⟨t, x, h1, h2, rfl⟩
theorem getD_bool {tmps : Array Value} {t : Nat} {b : Bool} (q : tmps.getD t undef = .bool b) : tmps[t]? = some (.bool b) := by
  rw [Array.getD_eq_getD_getElem?] at q
  cases hq : tmps[t]? with
  | none => rw [hq] at q; cases q
  | some v => rw [hq] at q; simp at q; rw [q]
theorem wanted_bool {o : Oper} {j t : Nat} {want b0 : Bool} (hg : o.guard = some (j, want)) (hj : (ops[j]?).bind (·.dst) = some t) (q : a.tmps.getD t undef = .bool b0) : Region.wanted o (yielded ops a.tmps) = (b0 == want) := by
  have : yielded ops a.tmps j = some b0 := by
    unfold yielded
    rw [hj]
    show (match a.tmps[t]? with | some (.bool b) => some b | _ => none) = _
    rw [getD_bool q]
  unfold Region.wanted
  rw [hg]
  simp only [this]
  cases b0 <;> cases want <;> rfl
theorem wanted_undef {o : Oper} {j t : Nat} {want : Bool} (hg : o.guard = some (j, want)) (hj : (ops[j]?).bind (·.dst) = some t) (q : a.tmps.getD t undef = .tuple #[]) : Region.wanted o (yielded ops a.tmps) = false := by
  have : yielded ops a.tmps j = none := by
    unfold yielded
    rw [hj]
    show (match a.tmps[t]? with | some (.bool b) => some b | _ => none) = _
    rw [Array.getD_eq_getD_getElem?] at q
    cases hq : a.tmps[t]? with
    | none => rfl
    | some v => rw [hq] at q; simp at q; subst q; rfl
  unfold Region.wanted
  rw [hg]
  simp only [this]
  cases want <;> rfl
/-- what a guard says: done, or passed by -/
def GSay (g : Option (OpdS × Bool)) (e : Env) (yes : Bool) : Prop := match g with
  | none => yes = true
  | some (x, want) => (∃ b0, x.rd e = .bool b0 ∧ yes = (b0 == want)) ∨ ((∃ m l', x.rd e = .oth 8 m [] l') ∧ yes = false)
theorem rG_ne {x : OpdS} {want : Bool} {w0 : Wr} {op : Run → Run} {next : Run} {c : Ctx} (hne : rG x.rd want w0 op next c e h ≠ .bad) :
    ∃ yes, GSay (some (x, want)) e yes ∧ (∀ next' : Run, rG x.rd want w0 op next' c e h = if yes then op next' c e h else next' c (w0 (.tup []) e) h) := by
  have unf : ∀ next' : Run, rG x.rd want w0 op next' c e h = (x.rd e).onBool (fun b => bo (bb b want (notB want)) (op next' c e h) (next' c (w0 (.tup []) e) h))
    ((x.rd e).onTag 8 (fun _ l _ => @List.rec AV (fun _ => Out) (next' c (w0 (.tup []) e) h) (fun _ _ _ => .bad) l) .bad) := fun _ => rfl
  cases hx : x.rd e with
  | bool b0 =>
    refine ⟨b0 == want, .inl ⟨b0, hx, rfl⟩, fun next' => ?_⟩
    rw [unf, hx]
    show bo (bb b0 want (notB want)) _ _ = _
    cases b0 <;> cases want <;> rfl
  | oth t m l l' =>
    rw [unf, hx] at hne
    have hne' : bo (Nat.beq t 8) (@List.rec AV (fun _ => Out) (next c (w0 (.tup []) e) h) (fun _ _ _ => .bad) l) .bad ≠ .bad := hne
    obtain ⟨q1, q2⟩ := bo_ne' hne'
    rw [q2] at hne'
    have := nbeq_iff.1 q1
    subst this
    cases l with
    | cons y r => exact absurd rfl hne'
    | nil =>
      refine ⟨false, .inr ⟨⟨m, l', hx⟩, rfl⟩, fun next' => ?_⟩
      rw [unf, hx]; rfl
  | int _ _ => rw [unf, hx] at hne; exact absurd rfl hne
  | str _ _ => rw [unf, hx] at hne; exact absurd rfl hne
  | ptr _ _ => rw [unf, hx] at hne; exact absurd rfl hne
  | slice _ _ _ _ _ => rw [unf, hx] at hne; exact absurd rfl hne
/-- the machine's guard says the same -/
theorem gsay_wanted {o : Oper} {g : Option (OpdS × Bool)} (hg : guardS ops M o.guard = some g) {yes : Bool} (hs : GSay g e yes) (hv : ∀ j t, o.guard.map (·.1) = some j → (ops[j]?).bind (·.dst) = some t → VR μ (tval M e t) (a.tmps.getD t undef)) :
    Region.wanted o (yielded ops a.tmps) = yes := by
  cases hq : o.guard with
  | none =>
    rw [hq] at hg
    cases hg
    have : yes = true := hs
    rw [this]
    unfold Region.wanted
    rw [hq]
  | some p =>
    obtain ⟨j, want⟩ := p
    rw [hq] at hg
    obtain ⟨t, x, h1, h2, rfl⟩ := guardS_some hg
    have hvr := hv j t (by rw [hq]; rfl) h1
    rw [← tmpAt_rd h2] at hvr
    rcases hs with ⟨b0, q1, rfl⟩ | ⟨⟨m, l', q1⟩, rfl⟩
    · rw [q1] at hvr
      exact wanted_bool hq h1 hvr.bool_inv
    · rw [q1] at hvr
      obtain ⟨cs, c1, c2⟩ := hvr.tup_inv
      cases c1
      exact wanted_undef hq h1 c2
theorem gsay_run {dw : DstS} {d : OpS} {g : Option (OpdS × Bool)} {next : Run} {c : Ctx} (hne : (OperS.mk dw d g).run next c e h ≠ .bad) :
    ∃ yes, GSay g e yes ∧ (∀ next' : Run, (OperS.mk dw d g).run next' c e h = if yes then d.run dw.w next' c e h else next' c (dw.w (.tup []) e) h) := by
  cases g with
  | none => exact ⟨true, rfl, fun next' => rfl⟩
  | some p =>
    obtain ⟨x, want⟩ := p
    exact rG_ne (op := d.run dw.w) hne
theorem oper_step (htt : TTOk P tt) (h20 : 20 ≤ P.types.size + 1) (hbig : P.types.size + 2 ≤ 10000) (hF : SelfF P S base ng s) (hY : SelfY P S base ng s) (hr : HR S base μ h w) (ha : AR ng kp nt μ M e1 a) {i : Nat} {o : Oper} {d : OpS} {dw : DstS} {g : Option (OpdS × Bool)}
    (ho : ops[i]? = some o) (hd : compOp tt ng M o.op = some d) (hg : guardS ops M o.guard = some g) (hal : ∀ y ∈ d.opds, y.rd e = y.rd e1) (hgv : ∀ j t, o.guard.map (·.1) = some j → (ops[j]?).bind (·.dst) = some t → tval M e t = tval M e1 t) {next : Run} {c : Ctx} (hc : c.s = s) (hne : (OperS.mk dw d g).run next c e h ≠ .bad) :
    ∃ v h', (∀ next' : Run, (OperS.mk dw d g).run next' c e h = next' c (dw.w v e) h') ∧ StDone P S base ops i μ h w a o v h' := by
  obtain ⟨yes, g1, g2⟩ := gsay_run hne
  have hw := gsay_wanted (μ := μ) (a := a) hg g1 (fun j t q1 q2 => by rw [hgv j t q1 q2]; exact ha.val t)
  rw [g2] at hne
  cases yes with
  | true =>
    obtain ⟨v, h', q1, q2⟩ := op_step htt h20 hbig hF hY hr ha hd hal hc (w0 := dw.w) hne
    exact ⟨v, h', fun next' => by rw [g2]; exact q1 next', q2.st ho hw⟩
  | false => exact ⟨.tup [], h, fun next' => by rw [g2]; rfl, skip_st hr ho hw⟩
theorem AR.tr (h1 : AR ng kp nt μ M e a) (hm : ∀ t i, findT t M 0 = some i → kp t = false) : TR kp M e := ⟨h1.er.keep, hm⟩
theorem AR.start (h1 : AR ng kp nt μ M e a) : AR ng kp nt μ [] e a := ⟨h1.er, fun t i hf => (by cases hf), h1.gok⟩
/-- a temporary is written, on both sides -/
theorem AR.put (h1 : AR ng kp nt μ M e a) (hm : ∀ t i, findT t M 0 = some i → kp t = false) {dst : Option Nat} {dw : DstS} (hd : dstS kp nt dst = some dw) {v : AV} {cv : Value} (hv : VR μ v cv) :
    AR ng kp nt μ (nextM kp dst M) (dw.w v e) (a.put dst cv) ∧ ∀ t i, findT t (nextM kp dst M) 0 = some i → kp t = false := by
  obtain ⟨q1, q2⟩ := tval_put (h1.tr hm) hd v
  refine ⟨AR.of_val q1 (by rw [put_size]; exact h1.er.size) h1.gok (fun t => ?_), q1.mok⟩
  rw [q2, put_getD cv (fun t ht => Nat.lt_of_lt_of_le (dstS_lt hd t ht) h1.er.size)]
  by_cases z : dst = some t
  · rw [if_pos z, if_pos z]; exact hv
  · rw [if_neg z, if_neg z]; exact h1.val t
theorem compSteps_op {i : Nat} {r : List ItemS} {st : List StS} (hc : compSteps tt ng kp nt ops (.op i :: r) M = some st) :
    ∃ o d dw g st', ops[i]? = some o ∧ compOp tt ng M o.op = some d ∧ dstS kp nt o.dst = some dw ∧ guardS ops M o.guard = some g ∧ compSteps tt ng kp nt ops r (nextM kp o.dst M) = some st' ∧ st = .op ⟨dw, d, g⟩ :: st' := by
  obtain ⟨o, h1, q⟩ := bind_some2 (show (ops[i]?).bind _ = some st from hc)
  obtain ⟨d, h2, q⟩ := bind_some2 q
  obtain ⟨dw, h3, q⟩ := bind_some2 q
  obtain ⟨g, h4, q⟩ := bind_some2 q
  obtain ⟨st', h5, rfl⟩ := map_some2 q
  exact ⟨o, d, dw, g, st', h1, h2, h3, h4, h5, rfl⟩
/-- a region, done -/
def RegDone (P : Program) (S : Sites) (base ng : Nat) (kp : Nat → Bool) (nt : Nat) (ops : Array Oper) (b : Frame) (k : List Item) (cs : List Frame) (l : List Nat) (μ : Mu) (h : Heap) (w : World) (a : Act) (o : Out) : Prop :=
  ∃ e' h' μ' M' a' w', o = .nrm e' h' ∧ Ext S base μ h w μ' h' w' ∧ AR ng kp nt μ' M' e' a' ∧ a'.defers = a.defers ∧ Steps P (lone (b.atR a (.inRegion ops l :: k)) cs w) (lone (b.atR a' (.inRegion ops [] :: k)) cs w')
theorem text_ok (htt : TTOk P tt) (h20 : 20 ≤ P.types.size + 1) (hbig : P.types.size + 2 ≤ 10000) (hF : SelfF P S base ng s) (hY : SelfY P S base ng s) {c : Ctx} (hc : c.s = s) (b : Frame) (k : List Item) (cs : List Frame) : ∀ (l : List Nat) (M : List Nat) (st : List StS) (e : Env) (a : Act) (μ : Mu) (h : Heap) (w : World),
    compSteps tt ng kp nt ops (l.map ItemS.op) M = some st → runSteps st c e h ≠ .bad → HR S base μ h w → AR ng kp nt μ M e a → (∀ t i, findT t M 0 = some i → kp t = false) → RegDone P S base ng kp nt ops b k cs l μ h w a (runSteps st c e h)
  | [], M, st, e, a, μ, h, w, hst, hne, hr, ha, hm => by
    cases hst
    exact ⟨e, h, μ, M, a, w, rfl, Ext.refl hr, ha, rfl, .refl P _⟩
  | i :: l, M, st, e, a, μ, h, w, hst, hne, hr, ha, hm => by
    obtain ⟨o, d, dw, g, st', h1, h2, h3, h4, h5, rfl⟩ := compSteps_op hst
    obtain ⟨v, h', q1, qd⟩ := oper_step htt h20 hbig hF hY hr ha h1 h2 h4 (fun _ _ => rfl) (fun _ _ _ _ => rfl) (dw := dw) (next := runSteps st') hc hne
    obtain ⟨μ1, cv, w1, q2, q3, q4⟩ := qd b l k cs
    have hrun : runSteps (.op ⟨dw, d, g⟩ :: st') c e h = runSteps st' c (dw.w v e) h' := q1 _
    rw [hrun] at hne ⊢
    obtain ⟨ha1, hm1⟩ := (ha.mono q2.le).put hm h3 q3
    obtain ⟨e2, h2', μ2, M2, a2, w2, r1, r2, r3, r4, r5⟩ := text_ok htt h20 hbig hF hY hc b k cs l _ st' _ _ μ1 h' w1 h5 hne q2.hr ha1 hm1
    exact ⟨e2, h2', μ2, M2, a2, w2, r1, q2.trans r2, r3, by rw [r4, put_defers], q4.trans r5⟩
end Dv
/-! operations that look: one value, whatever comes behind; new blocks -/
namespace Dv
open Go Go.RowKit
variable {S : Sites} {base : Nat} {μ μ' : Mu} {h : Heap} {w w' : World} {P : Program} {tt : TT} {ng : Nat} {kp : Nat → Bool} {nt : Nat} {M : List Nat} {e e1 : Env} {a a' : Act} {k : K} {s : Self} {ops : Array Oper}
noncomputable section
def onV (o : Out) (f : AV → Out) : Out := @Out.rec (fun _ => Out) .bad (fun _ _ => .bad) (fun _ _ _ => .bad) (fun _ _ => .bad) (fun v _ => f v) o
abbrev kv : K := fun v h => .val v h
end
section laws
variable {g : AV → Out}
theorem onV_bad : onV .bad g = .bad := rfl
theorem onV_val (v : AV) (h : Heap) : onV (.val v h) g = g v := rfl
theorem onV_bo (b : Bool) (x y : Out) : onV (bo b x y) g = bo b (onV x g) (onV y g) := by cases b <;> rfl
theorem onV_onInt (v : AV) (f : Nat → Int → Out) (d : Out) : onV (v.onInt f d) g = v.onInt (fun k n => onV (f k n) g) (onV d g) := by cases v <;> rfl
theorem onV_onBool (v : AV) (f : Bool → Out) (d : Out) : onV (v.onBool f d) g = v.onBool (fun k => onV (f k) g) (onV d g) := by cases v <;> rfl
theorem onV_onStr (v : AV) (f : Nat → Nat → Out) (d : Out) : onV (v.onStr f d) g = v.onStr (fun k n => onV (f k n) g) (onV d g) := by cases v <;> rfl
theorem onV_onPtr (v : AV) (f : Nat → Nat → Out) (d : Out) : onV (v.onPtr f d) g = v.onPtr (fun k n => onV (f k n) g) (onV d g) := by cases v <;> rfl
theorem onV_onSl (v : AV) (f : Nat → Nat → Nat → Nat → Bool → Out) (n d : Out) : onV (v.onSl f n d) g = v.onSl (fun a b c d e => onV (f a b c d e) g) (onV n g) (onV d g) := by
  cases v with
  | oth t a l m => show onV (bo (Nat.beq t 1) n d) g = bo (Nat.beq t 1) (onV n g) (onV d g); exact onV_bo _ _ _
  | _ => rfl
theorem onV_onOth (v : AV) (f : Nat → Nat → List AV → List AV → Out) (d : Out) : onV (v.onOth f d) g = v.onOth (fun t a l m => onV (f t a l m) g) (onV d g) := by cases v <;> rfl
theorem onV_onTag (v : AV) (tag : Nat) (f : Nat → List AV → List AV → Out) (d : Out) : onV (v.onTag tag f d) g = v.onTag tag (fun a l m => onV (f a l m) g) (onV d g) := by
  unfold AV.onTag
  rw [onV_onOth]
  congr 1
  funext t a l m
  exact onV_bo _ _ _
theorem onV_onNilable (v : AV) (f d : Out) : onV (v.onNilable f d) g = v.onNilable (onV f g) (onV d g) := by
  cases v with
  | oth t a l m => exact onV_bo _ _ _
  | _ => rfl
theorem onV_onI (n : Int) (f f' : Nat → Out) : onV (onI n f f') g = onI n (fun x => onV (f x) g) (fun x => onV (f' x) g) := by cases n <;> rfl
theorem onV_onNat (v : AV) (f : Nat → Out) : onV (onNat v f) g = onNat v (fun x => onV (f x) g) := by
  unfold onNat
  rw [onV_onInt]
  congr 1
  funext k n
  exact onV_onI _ _ _
theorem onV_oNat (o : Option Rd) (e : Env) (d : Nat) (f : Nat → Out) : onV (oNat o e d f) g = oNat o e d (fun x => onV (f x) g) := by
  cases o with
  | none => rfl
  | some r => exact onV_onNat _ _
theorem onV_nthL (l : List AV) : ∀ (n : Nat) (f : AV → Out), onV (nthL l n f) g = nthL l n (fun x => onV (f x) g) := by
  induction l with
  | nil => intro n f; rfl
  | cons v l ih =>
    intro n f
    show onV (bo (Nat.beq n 0) (f v) (nthL l (Nat.sub n 1) f)) g = bo (Nat.beq n 0) (onV (f v) g) (nthL l (Nat.sub n 1) (fun x => onV (f x) g))
    rw [onV_bo, ih]
theorem onV_onCells (o : AObj) (f : Nat → CT → Nat → Nat → Out) (d : Out) : onV (onCells o f d) g = onCells o (fun a b c x => onV (f a b c x) g) (onV d g) := by cases o <;> rfl
theorem onV_onFam (o : AObj) (f : Nat → Nat → Nat → Out) (d : Out) : onV (onFam o f d) g = onFam o (fun a b c => onV (f a b c) g) (onV d g) := by cases o <;> rfl
theorem onV_onMapO (o : AObj) (f : Nat → List (AV × AV) → Out) (d : Out) : onV (onMapO o f d) g = onMapO o (fun a b => onV (f a b) g) (onV d g) := by cases o <;> rfl
theorem onV_findK (kv0 : AV) (l : List (AV × AV)) (n : Out) (f : AV → Out) : onV (findK kv0 l n f) g = findK kv0 l (onV n g) (fun x => onV (f x) g) := by
  induction l with
  | nil => rfl
  | cons p l ih =>
    show onV (bo (eqV kv0 p.1) (f p.2) (findK kv0 l n f)) g = bo (eqV kv0 p.1) (onV (f p.2) g) (findK kv0 l (onV n g) (fun x => onV (f x) g))
    rw [onV_bo, ih]
theorem onV_aliveB (h : Heap) (b kd fm : Nat) (k : Out) : onV (aliveB h b kd fm k) g = aliveB h b kd fm (onV k g) := by
  unfold aliveB aliveK
  simp only [onV_bo, onV_onFam, onV_bad]
theorem onV_hLoad (h : Heap) (b o : Nat) (f : AV → Out) : onV (hLoad h b o f) g = hLoad h b o (fun v => onV (f v) g) := by
  unfold hLoad
  simp only [onV_bo, onV_onCells, onV_aliveB, onV_bad]
theorem onV_hLoadN (h : Heap) (b o n : Nat) (f : List AV → Out) : onV (hLoadN h b o n f) g = hLoadN h b o n (fun v => onV (f v) g) := by
  unfold hLoadN
  simp only [onV_bo, onV_onCells, onV_aliveB, onV_bad]
theorem onV_ckU (v : AV) (k : Out) : onV (ckU v k) g = ckU v (onV k g) := by
  cases v <;> first | rfl | exact onV_bo _ _ _
theorem onV_fillsK (ps : List (Nat × Nat × Rd)) (e : Env) : ∀ (b : List AV) (f : List AV → Out), onV (fillsK ps e b f) g = fillsK ps e b (fun x => onV (f x) g) := by
  induction ps with
  | nil => intro b f; rfl
  | cons p ps ih =>
    intro b f
    show onV (ckU (p.2.2 e) (bo (Nat.beq (lenL (p.2.2 e).cells) p.2.1) (fillsK ps e (fillL (p.2.2 e).cells b p.1) f) .bad)) g = ckU (p.2.2 e) (bo (Nat.beq (lenL (p.2.2 e).cells) p.2.1) (fillsK ps e (fillL (p.2.2 e).cells b p.1) (fun x => onV (f x) g)) .bad)
    rw [onV_ckU, onV_bo, ih]; rfl
theorem onV_ib (op : BinOp) (kd : Nat) (x y : Int) (f : AV → Out) : onV (ibOf op kd x y f) g = ibOf op kd x y (fun v => onV (f v) g) := by
  cases op <;> simp only [ibOf, ibAdd, ibSub, ibMul, ibQuo, ibRem, ibEql, ibNeq, ibLss, ibLeq, ibGtr, ibGeq, ibNat, ibShl, ibShr, onV_bo, onV_onI, onV_bad]
end laws
/-- whatever comes behind: the value is the same, and the memory stays -/
def Uni (op : DOp) : Prop := ∀ e h k, op e h k = onV (op e h kv) (fun v => k v h)
theorem op_uni (d : OpS) (hd : d.cls = 1) : Uni d.op := by
  intro e h k
  cases d <;> first
    | (cases hd; done)
    | simp only [OpS.op, oMove, oPick, oBuild, oLoad1, oLoadN, oNilCheck, oI, oSh, oS, oB, oAg, oSlNil, oNot, oNeg, oConv, oMkFn, oSliceS, oSliceV, oSlice3, oSlicePtr, oFieldAddr, oField1, oFieldN, oIndexAddrV, oIndexAddrA, oIndexS, oIndexA1,
        oLookup, oLookupOk, oExtract, oLenV, oLenS, oLenM, oMinMax, kv,
        onV_val, onV_bad, onV_bo, onV_onInt, onV_onBool, onV_onStr, onV_onPtr, onV_onSl, onV_onTag, onV_onNilable, onV_onNat, onV_oNat, onV_nthL, onV_onMapO, onV_findK, onV_hLoad, onV_hLoadN, onV_fillsK, onV_ib]
theorem uni_val {op : DOp} (hu : Uni op) (hne : op e h k ≠ .bad) : ∃ v, (∀ k : K, op e h k = k v h) := by
  have := hu e h k
  rw [this] at hne
  cases hq : op e h kv with
  | val v h1 => exact ⟨v, fun k => by rw [hu e h k, hq]; rfl⟩
  | _ => rw [hq] at hne; exact absurd rfl hne

/-! the same value -/
noncomputable section
def sameVs (a b : List AV) : Bool :=
  @AV.rec_1 (fun _ => AV → Bool) (fun _ => List AV → Bool)
    (fun k n w => w.intB fun k' m => bb (Nat.beq k k') (eqI n m) false)
    (fun x w => w.boolB fun y => bb x y (notB y))
    (fun l s w => w.strB fun l' s' => bb (Nat.beq l l') (Nat.beq s s') false)
    (fun b o w => bb false false (w.ptrB fun b' o' => bb (Nat.beq b b') (Nat.beq o o') false))
    (fun b o n c ex w => bb false false (w.slB fun b' o' n' c' ex' => bb (Nat.beq b b') (bb (Nat.beq o o') (bb (Nat.beq n n') (bb (Nat.beq c c') (bb ex ex' (notB ex')) false) false) false) false))
    (fun t a _ _ ihl ihm w => bb (bb false (Nat.beq t 7) (Nat.ble t 8)) (w.othB fun t' a' l' m' => bb (Nat.beq t t') (bb (Nat.beq a a') (bb (ihl l') (ihm m') false) false) false) false)
    (fun l => @List.rec AV (fun _ => Bool) true (fun _ _ _ => false) l)
    (fun _ _ ih1 ih2 l => @List.rec AV (fun _ => Bool) false (fun y ys _ => bb (ih1 y) (ih2 ys) false) l)
    a b
end
mutual
theorem sameV_eq : ∀ (x y : AV), sameV x y = true → x = y
  | .int k n, y, q => by
    cases y <;> first | (cases q; done) | skip
    rename_i k' n'
    obtain ⟨q1, q2⟩ := bb_and (show bb (Nat.beq k k') (eqI n n') false = true from q)
    rw [eqI_eq] at q2
    rw [nbeq_iff.1 q1, eq_of_beq q2]
  | .bool a, y, q => by
    cases y <;> first | (cases q; done) | skip
    rename_i b
    have q' : bb a b (notB b) = true := q
    cases a <;> cases b <;> first | rfl | cases q'
  | .str l a, y, q => by
    cases y <;> first | (cases q; done) | skip
    rename_i l' a'
    obtain ⟨q1, q2⟩ := bb_and (show bb (Nat.beq l l') (Nat.beq a a') false = true from q)
    rw [nbeq_iff.1 q1, nbeq_iff.1 q2]
  | .ptr l a, y, q => by
    cases y <;> first | (cases q; done) | skip
    rename_i l' a'
    obtain ⟨q1, q2⟩ := bb_and (show bb (Nat.beq l l') (Nat.beq a a') false = true from q)
    rw [nbeq_iff.1 q1, nbeq_iff.1 q2]
  | .slice b o n c ex, y, q => by
    cases y <;> first | (cases q; done) | skip
    rename_i b' o' n' c' ex'
    obtain ⟨q1, q⟩ := bb_and (show bb (Nat.beq b b') (bb (Nat.beq o o') (bb (Nat.beq n n') (bb (Nat.beq c c') (bb ex ex' (notB ex')) false) false) false) false = true from q)
    obtain ⟨q2, q⟩ := bb_and q
    obtain ⟨q3, q⟩ := bb_and q
    obtain ⟨q4, q⟩ := bb_and q
    rw [nbeq_iff.1 q1, nbeq_iff.1 q2, nbeq_iff.1 q3, nbeq_iff.1 q4]
    cases ex <;> cases ex' <;> first | rfl | cases q
  | .oth t a l m, y, q => by
    cases y with
    | oth t' a' l' m' =>
      obtain ⟨_, q⟩ := bb_and (show bb (bb false (Nat.beq t 7) (Nat.ble t 8)) (bb (Nat.beq t t') (bb (Nat.beq a a') (bb (sameVs l l') (sameVs m m') false) false) false) false = true from q)
      obtain ⟨q1, q⟩ := bb_and q
      obtain ⟨q2, q⟩ := bb_and q
      obtain ⟨q3, q4⟩ := bb_and q
      rw [nbeq_iff.1 q1, nbeq_iff.1 q2, sameVs_eq l l' q3, sameVs_eq m m' q4]
    | _ =>
      have := (bb_and (b := false) (show bb _ false false = true from q)).2
      cases this
theorem sameVs_eq : ∀ (l m : List AV), sameVs l m = true → l = m
  | [], m, q => by
    cases m with
    | nil => rfl
    | cons y r => cases q
  | x :: l, m, q => by
    cases m with
    | nil => cases q
    | cons y r =>
      obtain ⟨q1, q2⟩ := bb_and (show bb (sameV x y) (sameVs l r) false = true from q)
      rw [sameV_eq x y q1, sameVs_eq l r q2]
end

/-! new blocks of known cells -/
noncomputable section
def OpS.zc (d : OpS) (e : Env) : List AV := match d with
  | .alloc z => z
  | .box x => (x.rd e).cells
  | .buildSlice _ z ps => fills (rdP ps) e z
  | _ => []
def OpS.mkV (d : OpS) (b : Nat) : AV := match d with
  | .buildSlice n _ _ => .slice b 0 n n true
  | _ => .ptr b 0
end
theorem fillsK_ne : ∀ (ps : List (Nat × Nat × Rd)) (b : List AV) (K : List AV → Out), fillsK ps e b K ≠ .bad → ∀ K' : List AV → Out, fillsK ps e b K' = K' (fills ps e b)
  | [], b, K, _, K' => rfl
  | p :: ps, b, K, hne, K' => by
    have e1 : ∀ K, fillsK (p :: ps) e b K = ckU (p.2.2 e) (bo (Nat.beq (lenL (p.2.2 e).cells) p.2.1) (fillsK ps e (fillL (p.2.2 e).cells b p.1) K) .bad) := fun _ => rfl
    have e2 : fills (p :: ps) e b = fills ps e (fillL (p.2.2 e).cells b p.1) := rfl
    rw [e1] at hne
    obtain ⟨c1, c2⟩ := ckU_ne hne
    rw [c1] at hne
    obtain ⟨b1, b2⟩ := bo_ne' hne
    rw [b2] at hne
    rw [e1, c1, b1, e2]
    exact fillsK_ne ps _ K hne K'
theorem new_run {d : OpS} (hd : d.cls = 2) (hne : d.op e h k ≠ .bad) : (∀ k' : K, d.op e h k' = h.new (mkCells (d.zc e)) fun b h => k' (d.mkV b) h) ∧ h.new (mkCells (d.zc e)) (fun b h => k (d.mkV b) h) ≠ .bad := by
  have main : ∀ k' : K, d.op e h k' = h.new (mkCells (d.zc e)) fun b h => k' (d.mkV b) h := by
    intro k'
    cases d with
    | alloc z => rfl
    | box x =>
      obtain ⟨c1, c2⟩ := ckU_ne (show ckU (x.rd e) (h.new (mkCells (x.rd e).cells) fun b h => k (.ptr b 0) h) ≠ .bad from hne)
      show ckU (x.rd e) _ = _
      rw [c1]; rfl
    | buildSlice n z ps => exact fillsK_ne (rdP ps) z _ hne _
    | _ => cases hd
  exact ⟨main, by rw [← main]; exact hne⟩
theorem zc_congr (d : OpS) (hq : ∀ y ∈ d.opds, y.rd e = y.rd e1) : d.zc e = d.zc e1 := by
  cases d with
  | box x => simp only [OpS.zc, hq x (by simp [OpS.opds])]
  | buildSlice n z ps => exact fills_congr ps (fun p hm => hq _ (List.mem_map_of_mem hm)) z
  | _ => rfl
/-- such a block, on the machine -/
theorem al_ok (htt : TTOk P tt) (ha : AR ng kp nt μ M e a) {o : Oper} {d : OpS} (hd : compOp tt ng M o.op = some d) (hc : clsOf o.op = 2) (hne : d.op e h k ≠ .bad) :
    ∃ (l' : List Value) (ty : TypeId) (cmk : Addr → Value), VRs μ (d.zc e) l' ∧ (∀ v ∈ l', v.oneCell' = true) ∧ (∀ w : World, (execOp a.eval o).run P w = .ok (.value (cmk ⟨w.heap.size, 0, none⟩)) (w.alloc (.cells l'.toArray ty))) ∧
      ∀ (μ : Mu) (y : Nat) (L : Loc), μ y = some L → L.off = 0 → VR μ (d.mkV y) (cmk ⟨L.blk, 0, none⟩) := by
  obtain ⟨dst, op, ty, pos, after, guard⟩ := o
  simp only at hd hc
  have ptr : ∀ (μ : Mu) (y : Nat) (L : Loc), μ y = some L → L.off = 0 → VR μ (.ptr y 0) (.pointer (some ⟨L.blk, 0, none⟩)) := by
    intro μ y L h1 h2
    have := VR.ptr (o := 0) h1
    rw [h2] at this
    exact this
  cases op with
  | alloc t =>
    obtain ⟨i, hi, rfl⟩ := map_some2 (show (tt t).map _ = some d from hd)
    obtain ⟨f, i1, i2, i3, z, i4, i5, i6, i7, _⟩ := (htt _ _ hi).info
    refine ⟨z.cells.toList, t, fun a => .pointer (some a), i5 μ, i6, fun w => ?_, ptr⟩
    show (valS (Instr.alloc t true (.tuple #[]))).run P w = _
    refine valS_run1 ?_
    simp [Instr.alloc, zeroValue, typeInfo, i1, i4, newVar, newRow]
  | box t x =>
    obtain ⟨i, hi, hd⟩ := bind_some2 (show (tt t).bind _ = some d from hd)
    obtain ⟨u, h1, rfl⟩ := o1_some hd
    obtain ⟨c1, c2⟩ := ckU_ne (show ckU (u.rd e) (h.new (mkCells (u.rd e).cells) fun b h => k (.ptr b 0) h) ≠ .bad from hne)
    obtain ⟨d1, d2⟩ := (ha.opd h1).cells8 c2
    refine ⟨(a.eval x).cells.toList, t, fun a => .pointer (some a), d1, d2, fun w => ?_, ptr⟩
    show (valS (Instr.box t (a.eval x))).run P w = _
    refine valS_run1 ?_
    simp [Instr.box, newVar, newRow]
  | buildSlice t len prt =>
    obtain ⟨i, hi, hd⟩ := bind_some2 (show (tt t).bind _ = some d from hd)
    split at hd
    case h_2 => cases hd
    rename_i el q1
    obtain ⟨ie, h0, hd⟩ := bind_some2 hd
    split at hd
    · cases hd
    rename_i hle
    obtain ⟨ps, hp, rfl⟩ := map_some2 hd
    have ht := htt _ _ hi
    have hte := htt _ _ h0
    obtain ⟨f, i1, i2, i3, z, i4, i5, i6, i7, _⟩ := hte.info
    have hz7 : z.cells.toList.length = ie.size := i7
    obtain ⟨cs', r1, r2, r3, r4, r5⟩ := fill_ok ha (places' := fun j => some (j * ie.size, ie.size)) (fun _ _ q => q) prt.toList ps hp (repZ ie.zero len) (repV z.cells.toList len).toArray _ ((i5 μ).rep len) (by simp [repV_length, i7]) (by simpa using repV_one i6 len) hne
    refine ⟨cs'.toList, el, fun a => .slice (some a) len len, r3, r5, fun w => ?_, fun μ y L h1 h2 => .slEx h1 (fun _ => by rw [h2]) (Nat.le_refl _)⟩
    show (valS (Instr.buildSlice t len (prt.map fun (j, x) => (j, a.eval x)))).run P w = _
    refine valS_run1 ?_
    have hu := run_und w ht.und
    rw [q1] at hu
    have hsz := run_size w hte
    have hzv : (zeroValue el).run P w = .ok z w := by simp [zeroValue, typeInfo, i1, i4]
    have e1 : (Array.map (fun (j, x) => (j, a.eval x)) prt).toList = prt.toList.map fun p => (p.1, a.eval p.2) := by simp
    have hbig : ¬ (len * ie.size > 2 ^ 24) := by omega
    have hrow : (Array.range (len * ie.size)).map (fun i => z.cells[i % z.cells.size]!) = (repV z.cells.toList len).toArray := by rw [← i7]; exact range_rep z.cells len
    unfold Instr.buildSlice
    by_cases h0 : len * ie.size = 0
    · have hnil : (repV z.cells.toList len).toArray = #[] := by
        have : (repV z.cells.toList len).length = 0 := by rw [repV_length, hz7, h0]
        rw [List.eq_nil_of_length_eq_zero this]
      rw [hnil] at r2
      have hr0 : ∀ zz : Array Value, (Array.range (len * ie.size)).map (fun i => zz[i % zz.size]!) = #[] := by intro zz; rw [h0]; apply Array.ext'; simp
      simp only [Sem.run_bind, hu, Result.andThen_ok, hsz, if_neg hbig, if_pos h0, Sem.run_pure]
      rw [hr0, e1, r2]
      simp [newRow]
    · simp only [Sem.run_bind, hu, Result.andThen_ok, hsz, if_neg hbig, if_neg h0, Sem.run_pure, hzv]
      rw [hrow, e1, r2]
      simp [newRow]
  | call c =>
    obtain ⟨callee, args, ats⟩ := c
    cases callee with
    | builtin b => cases b <;> cases hc
    | _ => cases hc
  | _ => cases hc
/-- a block that is there, not yet placed, comes to lie somewhere -/
theorem HR.placeNew (hr : HR S base μ h w) {y : Nat} (hy : y < h.nx) (hμ : μ y = none) {l : List AV} {l' : List Value} {ct : CT} (ho : h.get y = .cells l.length ct 0 0) (hct : ∀ i, i < l.length → ct.get i = (l[i]?).getD .und ∨ ct.get i = .und)
    (hv : VRs μ l l') (h1 : ∀ v ∈ l', v.oneCell' = true) (ty : TypeId) : HR S base (μ.set y ⟨w.heap.size, 0, l'.length, 0⟩) h (w.alloc (.cells l'.toArray ty)) := by
  have hle := Mu.le_set hμ ⟨w.heap.size, 0, l'.length, 0⟩
  have hlen := hv.length
  refine hr.place hy hμ _ rfl ?_ (fun n c kd fm q => ?_) (fun n c fm ow fl tp q1 q2 => ?_)
  · rw [ho]
    have hcell : ∀ i : Nat, (w.alloc (.cells l'.toArray ty)).cell? ⟨w.heap.size, 0 + i, none⟩ = l'.toArray[i]? := fun i => by
      rw [Nat.zero_add]; exact World.cell?_alloc_new ..
    refine ⟨by show l.length ≤ l'.length; omega, fun i hi => ?_, fun _ => ⟨hr.bs, l'.toArray, ty, ?_, by simp⟩⟩
    · have hi' : i < l'.length := by omega
      refine ⟨l'[i], by rw [hcell]; simp [hi'], h1 _ (List.getElem_mem hi'), ?_⟩
      rcases hct i hi with hq | hq
      · rw [hq, List.getElem?_eq_getElem hi]
        obtain ⟨v, q1, q2⟩ := hv.get (i := i) (List.getElem?_eq_getElem hi)
        rw [List.getElem?_eq_getElem hi'] at q1; cases q1
        exact q2.mono hle
      · rw [hq]; exact .und _
    · show (w.heap.push _)[w.heap.size]? = _
      rw [Array.getElem?_push_size]
  · rw [ho] at q; cases q; omega
  · rw [ho] at q1; cases q1
end Dv
