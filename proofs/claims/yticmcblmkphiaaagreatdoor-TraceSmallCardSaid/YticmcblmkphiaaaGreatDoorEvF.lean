/-
  Regions in whatever order the tape draws end as the evaluator says.
-/
import Derived.Test.YticmcblmkphiaaaGreatDoorEvE
import Derived.Orders
set_option linter.unusedVariables false
set_option linter.unusedSimpArgs false
set_option linter.unusedSectionVars false
/-! regions that draw their order: orders, plans -/
namespace Dv
open Go Go.RowKit
variable {ops : Array Oper}

def dstAt (ops : Array Oper) (i : Nat) : Option Nat := (ops[i]?).bind (·.dst)
def Preds (ops : Array Oper) (i : Nat) (D : List Nat) : Prop := ∀ o, ops[i]? = some o → ∀ ed ∈ o.after, Region.binds .any ed = true → ed.on ∈ D
def ClosedL (ops : Array Oper) (D : List Nat) : Prop := ∀ i ∈ D, Preds ops i D
theorem Preds.mono {i : Nat} {D D' : List Nat} (h : Preds ops i D) (hs : ∀ x ∈ D, x ∈ D') : Preds ops i D' := fun o ho ed he hb => hs _ (h o ho ed he hb)
theorem ClosedL.cons {i : Nat} {D : List Nat} (h : ClosedL ops D) (hi : Preds ops i D) : ClosedL ops (i :: D) := by
  intro j hj
  rcases List.mem_cons.1 hj with rfl | hj
  · exact hi.mono (fun _ q => List.mem_cons_of_mem _ q)
  · exact (h j hj).mono (fun _ q => List.mem_cons_of_mem _ q)

/-! what lies before what -/
def bRow (acc : Array Nat) (o : Oper) : Nat := o.after.foldl (fun s e => if Region.binds .any e then s ||| 2 ^ e.on ||| acc.getD e.on 0 else s) 0
def bRows (l : List Oper) : Array Nat := l.foldl (fun acc o => acc.push (bRow acc o)) #[]
theorem before_eq : Region.before ops = bRows ops.toList := by
  unfold Region.before bRows
  rw [← Array.foldl_toList]
  rfl
theorem bRow_bit (acc : Array Nat) (i : Nat) : ∀ (l : List Edge) (s0 : Nat), (l.foldl (fun s e => if Region.binds .any e then s ||| 2 ^ e.on ||| acc.getD e.on 0 else s) s0).testBit i = true →
    s0.testBit i = true ∨ ∃ e ∈ l, Region.binds .any e = true ∧ (e.on = i ∨ (acc.getD e.on 0).testBit i = true)
  | [], s0, q => .inl q
  | e :: l, s0, q => by
    rw [List.foldl_cons] at q
    rcases bRow_bit acc i l _ q with q | ⟨x, h1, h2⟩
    · split at q
      · rename_i hb
        rw [Nat.testBit_or, Nat.testBit_or, Nat.testBit_two_pow] at q
        simp only [Bool.or_eq_true, decide_eq_true_eq] at q
        rcases q with (q | q) | q
        · exact .inl q
        · exact .inr ⟨e, List.mem_cons_self .., hb, .inl q⟩
        · exact .inr ⟨e, List.mem_cons_self .., hb, .inr q⟩
      · exact .inl q
    · exact .inr ⟨x, List.mem_cons_of_mem _ h1, h2⟩
theorem bRows_snoc (l : List Oper) (o : Oper) : bRows (l ++ [o]) = (bRows l).push (bRow (bRows l) o) := by
  unfold bRows; rw [List.foldl_append]; rfl
theorem bRows_size : ∀ (n : Nat) (l : List Oper), l.length = n → (bRows l).size = l.length
  | 0, l, h => by rw [List.eq_nil_of_length_eq_zero h]; rfl
  | n + 1, l, h => by
    obtain ⟨l', o, rfl⟩ : ∃ l' o, l = l' ++ [o] := ⟨l.dropLast, l.getLast (by intro q; rw [q] at h; simp at h), (List.dropLast_concat_getLast _).symm⟩
    have h' : l'.length = n := by simpa using h
    rw [bRows_snoc, Array.size_push, bRows_size n l' h']; simp
theorem bRows_spec : ∀ (n : Nat) (l : List Oper), l.length = n → ∀ (j i : Nat), ((bRows l).getD j 0).testBit i = true → ∃ o, l[j]? = some o ∧ ∃ ed ∈ o.after, Region.binds .any ed = true ∧ (ed.on = i ∨ (ed.on < j ∧ ((bRows l).getD ed.on 0).testBit i = true))
  | 0, l, h, j, i, q => by
    rw [List.eq_nil_of_length_eq_zero h] at q
    have : ((#[] : Array Nat).getD j 0).testBit i = true := q
    simp at this
  | n + 1, l, h, j, i, q => by
    obtain ⟨l', o, rfl⟩ : ∃ l' o, l = l' ++ [o] := ⟨l.dropLast, l.getLast (by intro q; rw [q] at h; simp at h), (List.dropLast_concat_getLast _).symm⟩
    have h' : l'.length = n := by simpa using h
    have hsz := bRows_size n l' h'
    have old : ∀ x, x < n → (bRows (l' ++ [o])).getD x 0 = (bRows l').getD x 0 := fun x hx => by
      rw [bRows_snoc, Array.getD_eq_getD_getElem?, Array.getD_eq_getD_getElem?, Array.getElem?_push, if_neg (by omega)]
    have lt : ∀ x, ((bRows l').getD x 0).testBit i = true → x < n := fun x hx => by
      rcases Nat.lt_or_ge x n with z | z
      · exact z
      · rw [Array.getD_eq_getD_getElem?, Array.getElem?_eq_none (by omega)] at hx
        simp at hx
    by_cases hj : j < n
    · rw [old j hj] at q
      obtain ⟨o', h1, ed, h2, h3, h4⟩ := bRows_spec n l' h' j i q
      refine ⟨o', by rw [List.getElem?_append_left (by omega)]; exact h1, ed, h2, h3, ?_⟩
      rcases h4 with h4 | ⟨h4, h5⟩
      · exact .inl h4
      · exact .inr ⟨h4, by rw [old _ (by omega)]; exact h5⟩
    · by_cases hj2 : j = n
      · subst hj2
        rw [bRows_snoc, Array.getD_eq_getD_getElem?, Array.getElem?_push, if_pos (by omega)] at q
        have q' : (bRow (bRows l') o).testBit i = true := q
        unfold bRow at q'
        rw [← Array.foldl_toList] at q'
        rcases bRow_bit (bRows l') i o.after.toList 0 q' with q2 | ⟨ed, h1, h2, h3⟩
        · simp at q2
        · refine ⟨o, by rw [List.getElem?_append_right (by omega), h', Nat.sub_self]; rfl, ed, Array.mem_toList_iff.1 h1, h2, ?_⟩
          rcases h3 with h3 | h3
          · exact .inl h3
          · exact .inr ⟨lt _ h3, by rw [old _ (lt _ h3)]; exact h3⟩
      · rw [bRows_snoc, Array.getD_eq_getD_getElem?, Array.getElem?_eq_none (by rw [Array.size_push]; omega)] at q
        simp at q
theorem ord_ready {D : List Nat} (hc : ClosedL ops D) : ∀ (n j : Nat), j = n → Preds ops j D → ∀ i, ordered (Region.before ops) i j = true → i ∈ D := by
  intro n
  induction n using Nat.strongRecOn with
  | _ n ih =>
    rintro j rfl hp i q
    unfold ordered at q
    rw [before_eq] at q
    obtain ⟨o, h1, ed, h2, h3, h4⟩ := bRows_spec _ ops.toList rfl j i q
    have hm := hp o (by rw [← Array.getElem?_toList]; exact h1) ed h2 h3
    rcases h4 with rfl | ⟨h4, h5⟩
    · exact hm
    · exact ih ed.on h4 ed.on rfl (hc _ hm) i (by unfold ordered; rw [before_eq]; exact h5)
theorem ord_closed {D : List Nat} (hc : ClosedL ops D) {i j : Nat} (hj : j ∈ D) (q : ordered (Region.before ops) i j = true) : i ∈ D := ord_ready hc j j rfl (hc j hj) i q

/-! what the plan looks at -/
theorem clsAt_late {b : Array Nat} {i j d : Nat} {x y : Oper} (hi : ops[i]? = some x) (hj : ops[j]? = some y) (hd : x.dst = some d) (hm : d ∈ tmpsOf ops y) (ho : ordered b i j = false) : clsAt ops b i = 3 := by
  have : lateW ops b i = true := by
    unfold lateW
    rw [hi]
    show (match x.dst with
      | some d => (List.range ops.size).any fun j => match ops[j]? with
        | some y => (tmpsOf ops y).contains d && !ordered b i j
        | none => false
      | none => false) = true
    rw [hd]
    refine List.any_eq_true.2 ⟨j, List.mem_range.2 (Array.getElem?_eq_some_iff.1 hj).1, ?_⟩
    rw [hj]
    simp only [ho, Bool.not_false, Bool.and_true]
    exact List.contains_iff_mem.2 hm
  unfold clsAt
  rw [this]; rfl
theorem clsAt_eq {b : Array Nat} {i : Nat} {o : Oper} (ho : ops[i]? = some o) (hc : clsAt ops b i ≠ 3) : clsAt ops b i = clsOf o.op := by
  unfold clsAt at *
  split at hc
  · exact absurd rfl hc
  · rename_i h
    rw [if_neg h, ho]; rfl
theorem planOk_spec {b : Array Nat} (hp : planOk ops b = true) {i j : Nat} {x y : Oper} (hi : ops[i]? = some x) (hj : ops[j]? = some y) :
    (i = j ∨ ((clsAt ops b i = 3 → clsAt ops b j = 3 → ordered b i j = true ∨ ordered b j i = true) ∧ ∀ d, x.dst = some d → y.dst ≠ some d)) ∧ ∀ d, x.dst = some d → d ∈ tmpsOf ops y → ordered b i j = true ∨ (ordered b j i = true ∧ clsAt ops b i = 3 ∧ i ≠ j) := by
  unfold planOk at hp
  have h1 := List.all_eq_true.1 hp i (List.mem_range.2 (Array.getElem?_eq_some_iff.1 hi).1)
  have h2 := List.all_eq_true.1 h1 j (List.mem_range.2 (Array.getElem?_eq_some_iff.1 hj).1)
  unfold okPair at h2
  rw [hi, hj] at h2
  simp only [Bool.and_eq_true, Bool.or_eq_true] at h2
  obtain ⟨h3, h4⟩ := h2
  refine ⟨?_, fun d hd hm => ?_⟩
  · rcases h3 with h3 | ⟨h3, h5⟩
    · exact .inl (eq_of_beq h3)
    · refine .inr ⟨fun c1 c2 => ?_, fun d hd hd2 => ?_⟩
      · rcases h3 with h3 | h3
        · rw [c1, c2] at h3; simp at h3
        · exact h3
      · rw [hd, hd2] at h5
        simp at h5
  · rw [hd] at h4
    simp only [Bool.or_eq_true, Bool.and_eq_true] at h4
    rcases h4 with h4 | h4 | ⟨h4, h5⟩
    · have : (tmpsOf ops y).contains d = true := List.contains_iff_mem.2 hm
      rw [this] at h4; cases h4
    · exact .inl h4
    · cases ho : ordered b i j with
      | true => exact .inl rfl
      | false => exact .inr ⟨h4, clsAt_late hi hj hd hm ho, by simpa using h5⟩
theorem readyI_spec {D : List Nat} {i : Nat} : readyI ops D i = true ↔ i ∉ D ∧ (∃ o, ops[i]? = some o) ∧ Preds ops i D := by
  unfold readyI Preds
  rw [Bool.and_eq_true]
  constructor
  · rintro ⟨h1, h2⟩
    refine ⟨fun q => ?_, ?_⟩
    · rw [List.contains_iff_mem.2 q] at h1; cases h1
    · cases ho : ops[i]? with
      | none => rw [ho] at h2; cases h2
      | some o =>
        rw [ho] at h2
        refine ⟨⟨o, rfl⟩, fun o' ho' ed he hb => ?_⟩
        cases ho'
        have := List.all_eq_true.1 h2 ed (Array.mem_toList_iff.2 he)
        rw [hb] at this
        simpa using this
  · rintro ⟨h1, ⟨o, ho⟩, h2⟩
    refine ⟨?_, ?_⟩
    · cases q : D.contains i with
      | false => rfl
      | true => exact absurd (List.contains_iff_mem.1 q) h1
    · rw [ho]
      refine List.all_eq_true.2 (fun ed he => ?_)
      cases hb : Region.binds .any ed with
      | false => rfl
      | true =>
        have := h2 o ho ed (Array.mem_toList_iff.1 he) hb
        simpa using this
def chksOf (ops : Array Oper) (P : List Nat) (c : Nat) : List Nat := P.filter fun p => (clsAt ops (Region.before ops) p == 1 || clsAt ops (Region.before ops) p == 2) && !ordered (Region.before ops) p c
theorem planGo_succ {n : Nat} {P : List Nat} {pl : List ItemS} (hg : planGo ops (Region.before ops) (n + 1) P = some pl) :
    ∃ i pl', readyI ops P i = true ∧ planGo ops (Region.before ops) n (i :: P) = some pl' ∧
      ((clsAt ops (Region.before ops) i ≠ 3 ∧ pl = .op i :: pl') ∨ ((∀ j, readyI ops P j = true → clsAt ops (Region.before ops) j = 3) ∧ pl = .op i :: ((chksOf ops P i).map ItemS.chk ++ pl'))) := by
  have hmem : ∀ j, readyI ops P j = true → j ∈ (List.range ops.size).filter (readyI ops P) := fun j hj => by
    obtain ⟨_, ⟨o, ho⟩, _⟩ := readyI_spec.1 hj
    exact List.mem_filter.2 ⟨List.mem_range.2 (Array.getElem?_eq_some_iff.1 ho).1, hj⟩
  simp only [planGo] at hg
  split at hg
  · rename_i rs i hf
    obtain ⟨pl', h1, rfl⟩ := map_some2 hg
    have h2 := List.mem_of_find?_eq_some hf
    have h3 := List.find?_some hf
    refine ⟨i, pl', (List.mem_filter.1 h2).2, h1, .inl ⟨by simpa using h3, rfl⟩⟩
  · rename_i i rest hf hrs
    obtain ⟨pl', h1, rfl⟩ := map_some2 hg
    refine ⟨i, pl', (List.mem_filter.1 (by rw [hrs]; exact List.mem_cons_self ..)).2, h1, .inr ⟨fun j hj => ?_, rfl⟩⟩
    have := List.find?_eq_none.1 hf j (hmem j hj)
    simpa using this
  · cases hg
theorem planGo_zero {P : List Nat} {pl : List ItemS} (hg : planGo ops (Region.before ops) 0 P = some pl) : pl = [] ∧ ∀ i, i < ops.size → i ∈ P := by
  simp only [planGo] at hg
  split at hg
  · rename_i h
    cases hg
    exact ⟨rfl, fun i hi => by simpa using List.all_eq_true.1 h i (List.mem_range.2 hi)⟩
  · cases hg
/-- as long as not all are done, one may be -/
theorem plan_ready : ∀ (n : Nat) (P : List Nat) (pl : List ItemS), planGo ops (Region.before ops) n P = some pl → ∀ D : List Nat, (∀ x ∈ P, x ∈ D) → (∃ i, i < ops.size ∧ i ∉ D) → ∃ i, readyI ops D i = true
  | 0, P, pl, hg, D, hs, ⟨i, h1, h2⟩ => absurd (hs i ((planGo_zero hg).2 i h1)) h2
  | n + 1, P, pl, hg, D, hs, hex => by
    obtain ⟨i, pl', h1, h2, _⟩ := planGo_succ hg
    by_cases hi : i ∈ D
    · exact plan_ready n (i :: P) pl' h2 D (fun x hx => (List.mem_cons.1 hx).elim (fun q => by rw [q]; exact hi) (fun q => hs x q)) hex
    · obtain ⟨_, h4, h5⟩ := readyI_spec.1 h1
      exact ⟨i, readyI_spec.2 ⟨hi, h4, h5.mono hs⟩⟩

/-! the orders that may be drawn -/
inductive Sched (ops : Array Oper) : List Nat → List Nat → Prop
  | nil {D : List Nat} (h : ∀ i, i < ops.size → i ∈ D) : Sched ops [] D
  | cons {i : Nat} {l D : List Nat} (hi : i ∉ D) (ho : ∃ o, ops[i]? = some o) (hp : Preds ops i D) (h : Sched ops l (i :: D)) : Sched ops (i :: l) D
theorem filter_lt {α : Type} (p q : α → Bool) : ∀ (l : List α), (∀ x, q x = true → p x = true) → (∃ x ∈ l, p x = true ∧ q x = false) → (l.filter q).length < (l.filter p).length
  | [], _, ⟨x, h, _⟩ => by cases h
  | y :: l, hpq, ⟨x, hx, h1, h2⟩ => by
    have le : ∀ l : List α, (l.filter q).length ≤ (l.filter p).length := by
      intro l
      induction l with
      | nil => exact Nat.le_refl _
      | cons z l ih =>
        rw [List.filter_cons, List.filter_cons]
        cases hz : q z with
        | true => rw [if_pos rfl, if_pos (hpq z hz)]; simp only [List.length_cons]; omega
        | false =>
          rw [if_neg (by simp)]
          split
          · simp only [List.length_cons]; omega
          · exact ih
    rw [List.filter_cons, List.filter_cons]
    rcases List.mem_cons.1 hx with rfl | hx
    · rw [if_pos h1, if_neg (by simp [h2])]
      have := le l
      simp only [List.length_cons]; omega
    · have ih := filter_lt p q l hpq ⟨x, hx, h1, h2⟩
      cases hz : q y with
      | true => rw [if_pos rfl, if_pos (hpq y hz)]; simp only [List.length_cons]; omega
      | false =>
        rw [if_neg (by simp)]
        split
        · simp only [List.length_cons]; omega
        · exact ih
theorem sched_go {n0 : Nat} {pl0 : List ItemS} (hplan : planGo ops (Region.before ops) n0 [] = some pl0) : ∀ (fuel t : Nat) (listed : Array Bool) (D : List Nat), (∀ x ∈ D, x < ops.size) → listed.size = ops.size → (∀ i, i < ops.size → (listed.getD i true = true ↔ i ∈ D)) →
    ((List.range ops.size).filter (fun i => !D.contains i)).length ≤ fuel → Sched ops (Region.linearise.go .any ops fuel t listed []) D
  | 0, t, listed, D, hin, hs, hl, hf => by
    have hn : (List.range ops.size).filter (fun i => !D.contains i) = [] := List.eq_nil_of_length_eq_zero (by omega)
    refine .nil (fun i hi => ?_)
    cases hq : D.contains i with
    | true => exact List.contains_iff_mem.1 hq
    | false =>
      have : i ∈ (List.range ops.size).filter (fun i => !D.contains i) := List.mem_filter.2 ⟨List.mem_range.2 hi, by rw [hq]; rfl⟩
      rw [hn] at this; cases this
  | fuel + 1, t, listed, D, hin, hs, hl, hf => by
    have hD : ∀ x, listed.getD x false = true → x ∈ D := fun x hx => by
      have hlt : x < ops.size := by
        rcases Nat.lt_or_ge x ops.size with z | z
        · exact z
        · rw [Array.getD_eq_getD_getElem?, Array.getElem?_eq_none (by omega)] at hx
          cases hx
      refine (hl x hlt).1 ?_
      rw [Array.getD_eq_getD_getElem?, Array.getElem?_eq_getElem (by omega)] at hx ⊢
      exact hx
    have hD2 : ∀ x, x ∈ D → x < ops.size → listed.getD x false = true := fun x hx hlt => by
      have := (hl x hlt).2 hx
      rw [Array.getD_eq_getD_getElem?, Array.getElem?_eq_getElem (by omega)] at this ⊢
      exact this
    simp only [Region.linearise.go]
    change Sched ops (match (Region.ready .any ops listed)[t % (Region.ready .any ops listed).length]? with
      | some i => Region.linearise.go .any ops fuel (t / (Region.ready .any ops listed).length) (listed.setIfInBounds i true) [i]
      | none => [].reverse) D
    cases hi : (Region.ready .any ops listed)[t % (Region.ready .any ops listed).length]? with
    | none =>
      have hnil : Region.ready .any ops listed = [] := by
        cases hr : Region.ready .any ops listed with
        | nil => rfl
        | cons x xs =>
          rw [hr] at hi
          have hlt : t % (x :: xs).length < (x :: xs).length := Nat.mod_lt _ (by simp)
          have := List.getElem?_eq_none_iff.1 hi
          omega
      refine .nil (fun i hi => ?_)
      apply Classical.byContradiction
      intro hni
      obtain ⟨j, hj⟩ := plan_ready n0 [] pl0 hplan D (fun x hx => by cases hx) ⟨i, hi, hni⟩
      obtain ⟨h1, ⟨o, ho⟩, h3⟩ := readyI_spec.1 hj
      have hlt := (Array.getElem?_eq_some_iff.1 ho).1
      have : j ∈ Region.ready .any ops listed := by
        rw [mem_ready]
        refine ⟨?_, o, ho, fun ed he hb => ?_⟩
        · cases hq : listed.getD j true with
          | false => rfl
          | true => exact absurd ((hl j hlt).1 hq) h1
        · exact hD2 _ (h3 o ho ed he hb) (hin _ (h3 o ho ed he hb))
      rw [hnil] at this; cases this
    | some i =>
      have hmem := List.mem_of_getElem? hi
      rw [mem_ready] at hmem
      obtain ⟨h0, o, ho, hall⟩ := hmem
      have hlt := (Array.getElem?_eq_some_iff.1 ho).1
      have hni : i ∉ D := fun q => by
        have := (hl i hlt).2 q
        rw [h0] at this; cases this
      show Sched ops (Region.linearise.go .any ops fuel _ _ [i]) D
      rw [linearise_go_acc, List.reverse_singleton, List.singleton_append]
      refine .cons hni ⟨o, ho⟩ (fun o' ho' ed he hb => ?_) (sched_go hplan fuel _ _ (i :: D) (fun x hx => ?_) (by simp [hs]) (fun j hj => ?_) ?_)
      · rw [ho] at ho'; cases ho'
        exact hD _ (hall ed he hb)
      · rcases List.mem_cons.1 hx with rfl | hx
        · exact hlt
        · exact hin x hx
      · by_cases hij : i = j
        · subst hij
          constructor
          · intro _; exact List.mem_cons_self ..
          · intro _
            rw [Array.getD_eq_getD_getElem?, Array.getElem?_setIfInBounds_self_of_lt (by omega)]; rfl
        · rw [getD_set_ne true hij, hl j hj]
          constructor
          · intro q; exact List.mem_cons_of_mem _ q
          · intro q
            rcases List.mem_cons.1 q with q | q
            · exact absurd q.symm hij
            · exact q
      · have := filter_lt (fun j => !D.contains j) (fun j => !(i :: D).contains j) (List.range ops.size) (fun x hx => by
          simp only [Bool.not_eq_true', List.contains_eq_mem, decide_eq_false_iff_not, List.mem_cons, not_or] at hx ⊢
          exact hx.2) ⟨i, List.mem_range.2 hlt, by simpa using hni, by simp⟩
        omega
theorem sched_any {n0 : Nat} {pl0 : List ItemS} (hplan : planGo ops (Region.before ops) n0 [] = some pl0) (t : Nat) : Sched ops (Region.schedule true ops t) [] := by
  unfold Region.schedule
  simp only [Bool.true_or, if_true]
  refine sched_go hplan _ _ _ [] (fun x hx => by cases hx) (by simp) (fun i hi => ?_) ?_
  · simp [Array.getD_eq_getD_getElem?, hi]
  · have := List.length_filter_le (fun i => !([] : List Nat).contains i) (List.range ops.size)
    rw [List.length_range] at this
    exact this
end Dv
/-! regions that draw their order: what is kept -/
namespace Dv
open Go Go.RowKit
variable {S : Sites} {base : Nat} {μ μ' μ0 : Mu} {h h' h0 : Heap} {w w' w0 : World} {P : Program} {tt : TT} {ng : Nat} {kp : Nat → Bool} {nt : Nat} {M M' : List Nat} {e e' e1 : Env} {a a' : Act} {k : K} {s : Self} {ops : Array Oper}

/-- operation o, met later, yields v: the memory is h -/
def PromV (P : Program) (S : Sites) (base ng nt : Nat) (h : Heap) (o : Oper) (tv : Nat → AV) (v : AV) : Prop := ∀ (μ : Mu) (w : World) (a : Act), HR S base μ h w → GOk ng μ → nt ≤ a.tmps.size →
  (∀ t ∈ opTmps o.op, VR μ (tv t) (a.tmps.getD t undef)) → ∃ cv, (execOp a.eval o).run P w = .ok (.value cv) w ∧ VR μ v cv
/-- it makes a block of the cells l -/
def PromA (P : Program) (ng nt : Nat) (o : Oper) (tv : Nat → AV) (v : AV) (y : Nat) (l : List AV) : Prop := ∀ (μ : Mu) (a : Act), GOk ng μ → nt ≤ a.tmps.size →
  (∀ t ∈ opTmps o.op, VR μ (tv t) (a.tmps.getD t undef)) → ∃ (l' : List Value) (ty : TypeId) (cmk : Addr → Value), VRs μ l l' ∧ (∀ v ∈ l', v.oneCell' = true) ∧
    (∀ w : World, (execOp a.eval o).run P w = .ok (.value (cmk ⟨w.heap.size, 0, none⟩)) (w.alloc (.cells l'.toArray ty))) ∧ ∀ (μ : Mu) (L : Loc), μ y = some L → L.off = 0 → VR μ v (cmk ⟨L.blk, 0, none⟩)
/-- it looks: the evaluator's own word -/
def LookV (tt : TT) (ng : Nat) (kp : Nat → Bool) (h : Heap) (o : Oper) (tv : Nat → AV) (v : AV) : Prop := ∃ (M1 : List Nat) (e1 : Env) (d : OpS), compOp tt ng M1 o.op = some d ∧ TR kp M1 e1 ∧ (∀ t ∈ opTmps o.op, tval M1 e1 t = tv t) ∧ ∀ k : K, d.op e1 h k = k v h
def NewV (tt : TT) (ng : Nat) (kp : Nat → Bool) (o : Oper) (tv : Nat → AV) (v : AV) (y : Nat) (l : List AV) : Prop := ∃ (M1 : List Nat) (e1 : Env) (d : OpS) (h : Heap) (k : K), compOp tt ng M1 o.op = some d ∧ TR kp M1 e1 ∧ (∀ t ∈ opTmps o.op, tval M1 e1 t = tv t) ∧ d.op e1 h k ≠ .bad ∧ v = d.mkV y ∧ l = d.zc e1
def Holds (h : Heap) (y : Nat) (l : List AV) : Prop := ∃ ct, h.get y = .cells l.length ct 0 0 ∧ ∀ i, i < l.length → ct.get i = (l[i]?).getD .und ∨ ct.get i = .und
/-- what a guard says -/
def GT (ops : Array Oper) (M : List Nat) (e : Env) (o : Oper) (yes : Bool) : Prop := match o.guard with
  | none => yes = true
  | some (j, want) => ∃ t, dstAt ops j = some t ∧ ((∃ b0, tval M e t = .bool b0 ∧ yes = (b0 == want)) ∨ ((∃ m l', tval M e t = .oth 8 m [] l') ∧ yes = false))
theorem gsay_gt {o : Oper} {g : Option (OpdS × Bool)} (hg : guardS ops M o.guard = some g) {yes : Bool} (hs : GSay g e yes) : GT ops M e o yes := by
  unfold GT
  cases hq : o.guard with
  | none => rw [hq] at hg; cases hg; exact hs
  | some p =>
    obtain ⟨j, want⟩ := p
    rw [hq] at hg
    obtain ⟨t, x, h1, h2, rfl⟩ := guardS_some hg
    refine ⟨t, h1, ?_⟩
    rcases hs with ⟨b0, q1, q2⟩ | ⟨⟨m, l', q1⟩, q2⟩
    · rw [tmpAt_rd h2] at q1; exact .inl ⟨b0, q1, q2⟩
    · rw [tmpAt_rd h2] at q1; exact .inr ⟨⟨m, l', q1⟩, q2⟩
theorem guard_mem {o : Oper} {j t : Nat} {want : Bool} (hq : o.guard = some (j, want)) (h : dstAt ops j = some t) : t ∈ tmpsOf ops o := by
  unfold tmpsOf
  rw [hq]
  refine List.mem_append.2 (.inr ?_)
  show t ∈ ((ops[j]?).bind (·.dst)).toList
  rw [show (ops[j]?).bind (·.dst) = some t from h]; simp
theorem GT.congr {o : Oper} {yes : Bool} (h : GT ops M e o yes) (hv : ∀ t ∈ tmpsOf ops o, tval M' e' t = tval M e t) : GT ops M' e' o yes := by
  unfold GT at *
  cases hq : o.guard with
  | none => rw [hq] at h; exact h
  | some p =>
    obtain ⟨j, want⟩ := p
    rw [hq] at h
    obtain ⟨t, h1, h2⟩ := h
    refine ⟨t, h1, ?_⟩
    rw [hv t (guard_mem hq h1)]; exact h2
theorem GT.det {o : Oper} {y1 y2 : Bool} (h : GT ops M e o y1) (h' : GT ops M e o y2) : y1 = y2 := by
  unfold GT at *
  cases hq : o.guard with
  | none => rw [hq] at h h'; rw [h, h']
  | some p =>
    obtain ⟨j, want⟩ := p
    rw [hq] at h h'
    obtain ⟨t, h1, h2⟩ := h
    obtain ⟨t', h1', h2'⟩ := h'
    rw [h1] at h1'; cases h1'
    rcases h2 with ⟨b, q1, q2⟩ | ⟨⟨m, l, q1⟩, q2⟩ <;> rcases h2' with ⟨b', q1', q2'⟩ | ⟨⟨m', l', q1'⟩, q2'⟩
    · rw [q1] at q1'; cases q1'; rw [q2, q2']
    · rw [q1] at q1'; cases q1'
    · rw [q1] at q1'; cases q1'
    · rw [q2, q2']
theorem GT.wanted {o : Oper} {yes : Bool} (h : GT ops M e o yes) (hv : ∀ t ∈ tmpsOf ops o, VR μ (tval M e t) (a.tmps.getD t undef)) : Region.wanted o (yielded ops a.tmps) = yes := by
  unfold GT at h
  cases hq : o.guard with
  | none => rw [hq] at h; have : yes = true := h
            rw [this]; unfold Region.wanted; rw [hq]
  | some p =>
    obtain ⟨j, want⟩ := p
    rw [hq] at h
    obtain ⟨t, h1, h2⟩ := h
    have hvr := hv t (guard_mem hq h1)
    rcases h2 with ⟨b0, q1, rfl⟩ | ⟨⟨m, l', q1⟩, rfl⟩
    · rw [q1] at hvr
      exact wanted_bool hq h1 hvr.bool_inv
    · rw [q1] at hvr
      obtain ⟨cs, c1, c2⟩ := hvr.tup_inv
      cases c1
      exact wanted_undef hq h1 c2
/-- an operation that the plan has met, and the machine not yet -/
inductive Pnd (P : Program) (S : Sites) (base : Nat) (tt : TT) (ng : Nat) (kp : Nat → Bool) (nt : Nat) (ops : Array Oper) (n0 : Nat) (h : Heap) (μ : Mu) (M : List Nat) (e : Env) (i y : Nat) (chk : Prop) : Prop
  | skip (o : Oper) (ho : ops[i]? = some o) (hg : GT ops M e o false) (hv : ∀ t, o.dst = some t → tval M e t = .tup [])
  | quiet (o : Oper) (v : AV) (ho : ops[i]? = some o) (hg : GT ops M e o true) (hcl : clsAt ops (Region.before ops) i = clsOf o.op) (hc : clsOf o.op = 0) (hv : ∀ t, o.dst = some t → tval M e t = v) (hp : ∀ h, PromV P S base ng nt h o (tval M e) v)
  | val (o : Oper) (v : AV) (ho : ops[i]? = some o) (hg : GT ops M e o true) (hcl : clsAt ops (Region.before ops) i = clsOf o.op) (hc : clsOf o.op = 1) (hv : ∀ t, o.dst = some t → tval M e t = v) (hp : chk → LookV tt ng kp h o (tval M e) v)
  | new (o : Oper) (v : AV) (l : List AV) (ho : ops[i]? = some o) (hg : GT ops M e o true) (hcl : clsAt ops (Region.before ops) i = clsOf o.op) (hc : clsOf o.op = 2) (hv : ∀ t, o.dst = some t → tval M e t = v) (hp : NewV tt ng kp o (tval M e) v y l) (hh : chk → Holds h y l) (hy : y < h.nx) (hn : n0 ≤ y) (hm : μ y = none)
theorem dstAt_eq {i : Nat} {o : Oper} (ho : ops[i]? = some o) : dstAt ops i = o.dst := by unfold dstAt; rw [ho]; rfl
theorem opTmps_sub {o : Oper} {t : Nat} (ht : t ∈ opTmps o.op) : t ∈ tmpsOf ops o := List.mem_append.2 (.inl ht)
theorem PromV.congr {o : Oper} {tv tv' : Nat → AV} {v : AV} (h1 : PromV P S base ng nt h o tv v) (hv : ∀ t ∈ opTmps o.op, tv' t = tv t) : PromV P S base ng nt h o tv' v := fun μ w a p1 p2 p3 p4 => h1 μ w a p1 p2 p3 (fun t ht => by rw [← hv t ht]; exact p4 t ht)
theorem PromA.congr {o : Oper} {tv tv' : Nat → AV} {v : AV} {y : Nat} {l : List AV} (h1 : PromA P ng nt o tv v y l) (hv : ∀ t ∈ opTmps o.op, tv' t = tv t) : PromA P ng nt o tv' v y l := fun μ a p2 p3 p4 => h1 μ a p2 p3 (fun t ht => by rw [← hv t ht]; exact p4 t ht)
theorem LookV.congr {o : Oper} {tv tv' : Nat → AV} {v : AV} (h1 : LookV tt ng kp h o tv v) (hv : ∀ t ∈ opTmps o.op, tv' t = tv t) : LookV tt ng kp h o tv' v := by
  obtain ⟨M1, e1, d, p1, p2, p3, p4⟩ := h1
  exact ⟨M1, e1, d, p1, p2, fun t ht => by rw [p3 t ht, hv t ht], p4⟩
theorem NewV.congr {o : Oper} {tv tv' : Nat → AV} {v : AV} {y : Nat} {l : List AV} (h1 : NewV tt ng kp o tv v y l) (hv : ∀ t ∈ opTmps o.op, tv' t = tv t) : NewV tt ng kp o tv' v y l := by
  obtain ⟨M1, e1, d, h, k, p1, p2, p3, p4⟩ := h1
  exact ⟨M1, e1, d, h, k, p1, p2, fun t ht => by rw [p3 t ht, hv t ht], p4⟩
theorem plain_of {o : Oper} {d : OpS} (hd : compOp tt ng M o.op = some d) (hc : clsOf o.op ≠ 3) : d.plain = true := by
  rcases (comp_comes hd).2.1 with q | ⟨f, args, ats, q⟩
  · exact q
  · rw [q] at hc; exact absurd rfl hc
theorem quiet_prom (htt : TTOk P tt) (h20 : 20 ≤ P.types.size + 1) (hbig : P.types.size + 2 ≤ 10000) {o : Oper} (hc : clsOf o.op = 0) {tv : Nat → AV} {v : AV} (q : LookV tt ng kp h o tv v) (h' : Heap) : PromV P S base ng nt h' o tv v := by
  obtain ⟨M1, e1, d, p1, p2, p3, p4⟩ := q
  intro μ w a hr gok sz hop
  obtain ⟨e2, ha, hag⟩ := mask (M := M1) (e := e1) p2 (fun t => t ∈ opTmps o.op) sz gok (fun t ht => by rw [p3 t ht]; exact hop t ht)
  have hoc := op_congr d (plain_of p1 (by rw [hc]; decide)) (opds_alike p1 hag)
  have hk := p4 kv
  rw [hoc] at hk
  obtain ⟨v', cv, q1, q2, q3⟩ := quiet_ok htt (ag_ok htt h20 hbig) ha p1 hc (k := kv) (h := h) (by rw [hk]; intro z; cases z)
  rw [q1 h kv] at hk
  have : v' = v := by injection hk
  subst this
  exact ⟨cv, q3 w, q2⟩
theorem look_prom (htt : TTOk P tt) (h20 : 20 ≤ P.types.size + 1) (hbig : P.types.size + 2 ≤ 10000) {o : Oper} (hc : clsOf o.op = 1) {tv : Nat → AV} {v : AV} (q : LookV tt ng kp h o tv v) : PromV P S base ng nt h o tv v := by
  obtain ⟨M1, e1, d, p1, p2, p3, p4⟩ := q
  intro μ w a hr gok sz hop
  obtain ⟨e2, ha, hag⟩ := mask (M := M1) (e := e1) p2 (fun t => t ∈ opTmps o.op) sz gok (fun t ht => by rw [p3 t ht]; exact hop t ht)
  have hoc := op_congr d (plain_of p1 (by rw [hc]; decide)) (opds_alike p1 hag)
  have hk := p4 kv
  rw [hoc] at hk
  obtain ⟨v', cv, q1, q2, q3⟩ := read_ok htt h20 hbig hr ha p1 hc (k := kv) (by rw [hk]; intro z; cases z)
  rw [q1 kv] at hk
  have : v' = v := by injection hk
  subst this
  exact ⟨cv, q3, q2⟩
theorem new_prom (htt : TTOk P tt) {o : Oper} (hc : clsOf o.op = 2) {tv : Nat → AV} {v : AV} {y : Nat} {l : List AV} (q : NewV tt ng kp o tv v y l) : PromA P ng nt o tv v y l := by
  obtain ⟨M1, e1, d, h, k, p1, p2, p3, p4, rfl, rfl⟩ := q
  intro μ a gok sz hop
  obtain ⟨e2, ha, hag⟩ := mask (M := M1) (e := e1) p2 (fun t => t ∈ opTmps o.op) sz gok (fun t ht => by rw [p3 t ht]; exact hop t ht)
  have hal := opds_alike p1 hag
  have hoc := op_congr d (plain_of p1 (by rw [hc]; decide)) hal
  rw [hoc] at p4
  obtain ⟨l', ty, cmk, r1, r2, r3, r4⟩ := al_ok htt ha p1 hc p4
  rw [← zc_congr d hal] at r1
  exact ⟨l', ty, cmk, r1, r2, r3, fun μ L h1 h2 => r4 μ y L h1 h2⟩
/-- it stays so: the temporaries that it looks at are as before; memory of its own -/
theorem Pnd.move {n0 i y : Nat} {chk chk' : Prop} (q : Pnd P S base tt ng kp nt ops n0 h μ M e i y chk) (hv : ∀ o, ops[i]? = some o → ∀ t ∈ tmpsOf ops o, tval M' e' t = tval M e t) (hd : ∀ t, dstAt ops i = some t → tval M' e' t = tval M e t)
    (hch : chk' → chk) (hV : ∀ o v, chk' → ops[i]? = some o → clsAt ops (Region.before ops) i = clsOf o.op → clsOf o.op = 1 → LookV tt ng kp h o (tval M e) v → LookV tt ng kp h' o (tval M e) v) (hH : ∀ o l, chk' → ops[i]? = some o → clsAt ops (Region.before ops) i = clsOf o.op → clsOf o.op = 2 → Holds h y l → Holds h' y l) (hnx : h.nx ≤ h'.nx) (hμ : y < h.nx → μ y = none → μ' y = none) :
    Pnd P S base tt ng kp nt ops n0 h' μ' M' e' i y chk' := by
  cases q with
  | skip o ho hg hv' => exact .skip o ho (hg.congr (hv o ho)) (fun t ht => by rw [hd t (by rw [dstAt_eq ho]; exact ht)]; exact hv' t ht)
  | quiet o v ho hg hcl hc hv' hp => exact .quiet o v ho (hg.congr (hv o ho)) hcl hc (fun t ht => by rw [hd t (by rw [dstAt_eq ho]; exact ht)]; exact hv' t ht) (fun h => (hp h).congr (fun t ht => hv o ho t (opTmps_sub ht)))
  | val o v ho hg hcl hc hv' hp => exact .val o v ho (hg.congr (hv o ho)) hcl hc (fun t ht => by rw [hd t (by rw [dstAt_eq ho]; exact ht)]; exact hv' t ht) (fun c => (hV o v c ho hcl hc (hp (hch c))).congr (fun t ht => hv o ho t (opTmps_sub ht)))
  | new o v l ho hg hcl hc hv' hp hh hy hn hm => exact .new o v l ho (hg.congr (hv o ho)) hcl hc (fun t ht => by rw [hd t (by rw [dstAt_eq ho]; exact ht)]; exact hv' t ht) (hp.congr (fun t ht => hv o ho t (opTmps_sub ht))) (fun c => hH o l c ho hcl hc (hh (hch c))) (by omega) hn (hμ hy hm)
/-- all that is kept: Pd: met by the plan; Dn: by the machine; td: to be looked at again -/
structure RI (P : Program) (S : Sites) (base : Nat) (tt : TT) (ng : Nat) (kp : Nat → Bool) (nt : Nat) (ops : Array Oper) (μ0 : Mu) (h0 : Heap) (w0 : World) (Pd Dn td : List Nat) (M : List Nat) (e : Env) (h : Heap) (μ : Mu) (w : World) (a : Act) (Y : Nat → Nat) : Prop where
  ext : Ext S base μ0 h0 w0 μ h w
  gok : GOk ng μ
  tr : TR kp M e
  size : nt ≤ a.tmps.size
  sub : ∀ i ∈ Dn, i ∈ Pd
  cP : ClosedL ops Pd
  cD : ClosedL ops Dn
  val : ∀ t, (∀ p ∈ Pd, p ∉ Dn → dstAt ops p ≠ some t) → VR μ (tval M e t) (a.tmps.getD t undef)
  pend : ∀ p ∈ Pd, p ∉ Dn → Pnd P S base tt ng kp nt ops h0.nx h μ M e p (Y p) (p ∉ td)
  inj : ∀ p ∈ Pd, ∀ q ∈ Pd, p ∉ Dn → q ∉ Dn → p ≠ q → Y p ≠ Y q
  yb : ∀ p ∈ Pd, p ∉ Dn → Y p < h.nx ∨ Y p = 262144 + p
  pc : ∀ p ∈ Pd, p ∉ Dn → clsAt ops (Region.before ops) p ≠ 3
variable {Pd Dn td : List Nat} {Y : Nat → Nat}
/-- what an operation looks at is there, as soon as all before it is done -/
theorem RI.opds (q : RI P S base tt ng kp nt ops μ0 h0 w0 Pd Dn td M e h μ w a Y) (hpl : planOk ops (Region.before ops) = true) {p : Nat} {o : Oper} (ho : ops[p]? = some o) (hp : Preds ops p Dn) : ∀ t ∈ tmpsOf ops o, VR μ (tval M e t) (a.tmps.getD t undef) := by
  intro t ht
  refine q.val t (fun r hr hrn hd => hrn ?_)
  cases hro : ops[r]? with
  | none => rw [dstAt, hro] at hd; cases hd
  | some x =>
    rw [dstAt_eq hro] at hd
    rcases (planOk_spec hpl hro ho).2 t hd ht with z | ⟨_, z, _⟩
    · exact ord_ready q.cD p p rfl hp r z
    · exact absurd z (q.pc r hr hrn)
theorem Holds.placed {y : Nat} {l : List AV} {l' : List Value} (hr : HR S base μ h w) (hh : Holds h y l) (hy : y < h.nx) (hm : μ y = none) (hv : VRs μ l l') (h1 : ∀ v ∈ l', v.oneCell' = true) (ty : TypeId) : HR S base (μ.set y ⟨w.heap.size, 0, l'.length, 0⟩) h (w.alloc (.cells l'.toArray ty)) := by
  obtain ⟨ct, q1, q2⟩ := hh
  exact hr.placeNew hy hm q1 q2 hv h1 ty
/-- the machine meets what the plan has met -/
theorem RI.meet (htt : TTOk P tt) (h20 : 20 ≤ P.types.size + 1) (hbig : P.types.size + 2 ≤ 10000) (q : RI P S base tt ng kp nt ops μ0 h0 w0 Pd Dn [] M e h μ w a Y) (hpl : planOk ops (Region.before ops) = true) {p : Nat} (hp : p ∈ Pd) (hn : p ∉ Dn) (hpr : Preds ops p Dn) (hnd : ∀ o, ops[p]? = some o → ∀ c, o.op ≠ .defer c)
    (hlt : ∀ o, ops[p]? = some o → ∀ t, o.dst = some t → t < nt) :
    ∃ μ' a' w', RI P S base tt ng kp nt ops μ0 h0 w0 Pd (p :: Dn) [] M e h μ' w' a' Y ∧ a'.defers = a.defers ∧ ∀ (b : Frame) (rest : List Nat) (k : List Item) (cs : List Frame), Steps P (lone (b.atR a (.inRegion ops (p :: rest) :: k)) cs w) (lone (b.atR a' (.inRegion ops rest :: k)) cs w') := by
  have hP := q.pend p hp hn
  -- what is kept whatever the operation is
  have fin : ∀ (o : Oper) (v : AV) (cv : Value) (μ' : Mu) (w' : World), ops[p]? = some o → (∀ t, o.dst = some t → tval M e t = v) → VR μ' v cv → μ.le μ' → Ext S base μ0 h0 w0 μ' h w' → (∀ r ∈ Pd, r ∉ Dn → r ≠ p → μ (Y r) = none → μ' (Y r) = none) →
      RI P S base tt ng kp nt ops μ0 h0 w0 Pd (p :: Dn) [] M e h μ' w' (a.put o.dst cv) Y := by
    intro o v cv μ' w' ho hv hvr hle hext hoth
    have hlt' : ∀ t, o.dst = some t → t < a.tmps.size := fun t ht => Nat.lt_of_lt_of_le (hlt o ho t ht) q.size
    refine ⟨hext, q.gok.mono hle, q.tr, by rw [put_size]; exact q.size, fun i hi => ?_, q.cP, q.cD.cons hpr, fun t ht => ?_, fun r hr hrn => ?_, fun r hr r' hr' h1 h2 => q.inj r hr r' hr' (fun z => h1 (List.mem_cons_of_mem _ z)) (fun z => h2 (List.mem_cons_of_mem _ z)), fun r hr h1 => q.yb r hr (fun z => h1 (List.mem_cons_of_mem _ z)), fun r hr h1 => q.pc r hr (fun z => h1 (List.mem_cons_of_mem _ z))⟩
    · rcases List.mem_cons.1 hi with rfl | hi
      · exact hp
      · exact q.sub i hi
    · rw [put_getD cv hlt']
      by_cases hd : o.dst = some t
      · rw [if_pos hd, hv t hd]; exact hvr
      · rw [if_neg hd]
        refine (q.val t (fun r hr hrn => ?_)).mono hle
        by_cases hrp : r = p
        · subst hrp; rw [dstAt_eq ho]; exact hd
        · exact ht r hr (fun z => (List.mem_cons.1 z).elim (fun z => hrp z) (fun z => hrn z))
    · have hrn' : r ∉ Dn := fun z => hrn (List.mem_cons_of_mem _ z)
      have hrp : r ≠ p := fun z => hrn (by rw [z]; exact List.mem_cons_self ..)
      have hr0 := q.pend r hr hrn'
      exact hr0.move (fun _ _ _ _ => rfl) (fun _ _ => rfl) (fun c => c) (fun _ _ _ _ _ _ z => z) (fun _ _ _ _ _ _ z => z) (Nat.le_refl _) (fun _ z => hoth r hr hrn' hrp z)
  have same : ∀ (o : Oper) (v : AV) (cv : Value), ops[p]? = some o → (∀ t, o.dst = some t → tval M e t = v) → VR μ v cv → RI P S base tt ng kp nt ops μ0 h0 w0 Pd (p :: Dn) [] M e h μ w (a.put o.dst cv) Y := fun o v cv ho hv hvr => fin o v cv μ w ho hv hvr (Mu.le_refl _) q.ext (fun _ _ _ _ z => z)
  cases hP with
  | skip o ho hg hv =>
    have hw := hg.wanted (fun t ht => q.opds hpl ho hpr t ht)
    refine ⟨μ, a.put o.dst undef, w, same o (.tup []) undef ho hv (.tup .nil), put_defers _ _, fun b rest k cs => ?_⟩
    have h1 := stepR_op_skip (P := P) (b := b) (a := a) (k := k) (cs := cs) (w := w) (ops := ops) (i := p) (rest := rest) (by rw [ho]; simpa using hw)
    rw [ho] at h1
    exact .one h1
  | quiet o v ho hg hcl hc hv hpm =>
    have hw := hg.wanted (fun t ht => q.opds hpl ho hpr t ht)
    obtain ⟨cv, r1, r2⟩ := hpm h μ w a q.ext.hr q.gok q.size (fun t ht => q.opds hpl ho hpr t (opTmps_sub ht))
    exact ⟨μ, a.put o.dst cv, w, same o v cv ho hv r2, put_defers _ _, fun b rest k cs => .one (step_val ho hw (hnd o ho) (.inl r1))⟩
  | val o v ho hg hcl hc hv hpm =>
    have hw := hg.wanted (fun t ht => q.opds hpl ho hpr t ht)
    obtain ⟨cv, r1, r2⟩ := look_prom htt h20 hbig hc (hpm (by simp)) μ w a q.ext.hr q.gok q.size (fun t ht => q.opds hpl ho hpr t (opTmps_sub ht))
    exact ⟨μ, a.put o.dst cv, w, same o v cv ho hv r2, put_defers _ _, fun b rest k cs => .one (step_val ho hw (hnd o ho) (.inl r1))⟩
  | new o v l ho hg hcl hc hv hpm hh hy hn0 hm =>
    have hw := hg.wanted (fun t ht => q.opds hpl ho hpr t ht)
    obtain ⟨l', ty, cmk, r1, r2, r3, r4⟩ := new_prom (nt := nt) htt hc hpm μ a q.gok q.size (fun t ht => q.opds hpl ho hpr t (opTmps_sub ht))
    have hr := q.ext.hr
    have hpl2 := (hh (by simp)).placed hr hy hm r1 r2 ty
    have hle := Mu.le_set hm ⟨w.heap.size, 0, l'.length, 0⟩
    refine ⟨μ.set (Y p) ⟨w.heap.size, 0, l'.length, 0⟩, a.put o.dst _, _, fin o v (cmk ⟨w.heap.size, 0, none⟩) _ (w.alloc (.cells l'.toArray ty)) ho hv (r4 _ _ (Mu.set_self _ _ _) rfl) hle ⟨hpl2, Mu.le_trans q.ext.le hle, q.ext.nx, fun b hb z => ?_, ?_, q.ext.kept.trans (KeepD.alloc _ _)⟩ (fun r hr2 hrn hrp z => ?_),
      put_defers _ _, fun b rest k cs => .one (step_val ho hw (hnd o ho) (.inl (r3 w)))⟩
    · have := q.ext.fresh b hb z
      unfold Mu.set
      rw [if_neg (by omega)]; exact this
    · exact q.ext.below.trans ((Below.refl base w).alloc hr.bs _)
    · unfold Mu.set
      rw [if_neg (q.inj r hr2 p hp hrn hn hrp)]; exact z
end Dv
/-! regions that draw their order: the plan's steps -/
namespace Dv
open Go Go.RowKit
variable {S : Sites} {base : Nat} {μ μ' μ0 : Mu} {h h' h0 : Heap} {w w' w0 : World} {P : Program} {tt : TT} {ng : Nat} {kp : Nat → Bool} {nt : Nat} {M M' M1 : List Nat} {e e' e1 : Env} {a a' : Act} {k : K} {s : Self} {ops : Array Oper}
variable {Pd Dn td : List Nat} {Y : Nat → Nat}

/-! memory that goes on -/
theorem HT.get_set_any {d : Nat} {t : HT} (hp : t.Perf d) : ∀ (n m : Nat) (x : AObj), (t.set n x).get m = t.get m ∨ t.get m = t.get n := by
  induction hp with
  | leaf o => intro n m x; exact .inr rfl
  | @nd d l r hl hr ihl ihr =>
    intro n m x
    rw [HT.set_nd]
    by_cases h1 : n % 2 = 0
    · rw [if_pos h1, HT.get_nd, HT.get_nd, HT.get_nd]
      by_cases h2 : m % 2 = 0
      · rw [if_pos h2, if_pos h2, if_pos h1]; exact ihl _ _ _
      · rw [if_neg h2, if_neg h2]; exact .inl rfl
    · rw [if_neg h1, HT.get_nd, HT.get_nd, HT.get_nd]
      by_cases h2 : m % 2 = 0
      · rw [if_pos h2, if_pos h2]; exact .inl rfl
      · rw [if_neg h2, if_neg h2, if_neg h1]; exact ihr _ _ _
def Grows (h h' : Heap) : Prop := ∀ b, h.get b ≠ .none → h'.get b = h.get b
theorem HR.grows (hr : HR S base μ h w) {n : Nat} {t : HT} (he : h = .mk n t) (hn : n < 262143) (o : AObj) : Grows h (.mk (n + 1) (t.set n o)) := by
  intro b hb
  obtain ⟨t', ht', hp⟩ := hr.perf
  have e : t' = t := by rw [ht'] at he; injection he
  subst e
  have hx : h.nx = n := by rw [he]; rfl
  have hfree := hr.free n (by omega) (by omega)
  rw [he] at hb hfree ⊢
  rcases HT.get_set_any hp n b o with q | q
  · exact q
  · exact absurd (show (Heap.mk n t').get b = .none from q.trans hfree) hb
theorem Grows.cells {b n : Nat} {c : CT} {kd fm : Nat} (g : Grows h h') (ho : h.get b = .cells n c kd fm) : h'.get b = .cells n c kd fm := by rw [g b (by rw [ho]; intro z; cases z), ho]
theorem Grows.fam {b x y z : Nat} (g : Grows h h') (ho : h.get b = .fam x y z) : h'.get b = .fam x y z := by rw [g b (by rw [ho]; intro z; cases z), ho]
theorem Grows.alive {b n : Nat} {c : CT} {kd fm : Nat} (g : Grows h h') (ho : h.get b = .cells n c kd fm) (ha : Alive h b) : Alive h' b := by
  unfold Alive at *
  rw [ho] at ha
  rw [g.cells ho]
  intro q
  obtain ⟨x, y, z, h1, h2⟩ := ha q
  exact ⟨x, y, z, g.fam h1, h2⟩
/-- the operations that look at memory -/
def OpS.look : OpS → Bool
  | .load1 _ => true
  | .loadN _ _ => true
  | .lookup _ _ _ _ => true
  | .lookupOk _ _ _ _ => true
  | .lenV _ => true
  | .lenS _ => true
  | .lenM _ => true
  | _ => false
theorem comp_look {o : Oper} {d : OpS} (hd : compOp tt ng M o.op = some d) (hc : clsOf o.op = 1) : d.look = true := by
  obtain ⟨dst, op, ty, pos, after, guard⟩ := o
  simp only at hd hc
  cases op with
  | load t x =>
    obtain ⟨i, hi, hd⟩ := bind_some2 (show (tt t).bind _ = some d from hd)
    split at hd
    · obtain ⟨u, h1, rfl⟩ := o1_some hd; rfl
    · split at hd
      · obtain ⟨u, h1, rfl⟩ := o1_some hd; rfl
      · cases hd
  | lookup t m x ok =>
    obtain ⟨i, hi, hd⟩ := bind_some2 (show (tt t).bind _ = some d from hd)
    split at hd
    · obtain ⟨sh, hs, hd⟩ := bind_some2 hd
      obtain ⟨ie, hie, hd⟩ := bind_some2 hd
      split at hd
      · cases hd
      · split at hd
        · split at hd
          · obtain ⟨u, v, h2, h3, rfl⟩ := o2_some hd; rfl
          · obtain ⟨u, v, h2, h3, rfl⟩ := o2_some hd; rfl
        · cases hd
    · cases hd
  | call c =>
    obtain ⟨callee, args, ats⟩ := c
    cases callee with
    | builtin b =>
      have hb : b = .len := by cases b <;> first | rfl | (cases hc; done)
      subst hb
      have hd' : (match args.toList, ats.toList with
        | [x], [t] => (tt t).bind fun i => match i.desc with
          | .slice _ => o1 ng M x .lenV
          | .string => o1 ng M x .lenS
          | .map _ _ => o1 ng M x .lenM
          | _ => none
        | _, _ => none) = some d := hd
      split at hd'
      · obtain ⟨i, hi, hd'⟩ := bind_some2 hd'
        split at hd'
        · obtain ⟨u, h1, rfl⟩ := o1_some hd'; rfl
        · obtain ⟨u, h1, rfl⟩ := o1_some hd'; rfl
        · obtain ⟨u, h1, rfl⟩ := o1_some hd'; rfl
        · cases hd'
      · cases hd'
    | _ => cases hc
  | _ => cases hc
theorem look_grows {d : OpS} (hl : d.look = true) (g : Grows h h') {v : AV} (hk : ∀ k : K, d.op e h k = k v h) : ∀ k : K, d.op e h' k = k v h' := by
  have hne : d.op e h kv ≠ .bad := by rw [hk]; intro z; cases z
  have vv : ∀ {u : AV}, (∀ k : K, d.op e h k = k u h) → u = v := fun hu => by
    have := hu kv
    rw [hk] at this
    injection this with q; exact q.symm
  cases d with
  | load1 x =>
    have hne' : (x.rd e).onPtr (fun b o => hLoad h b o fun v => kv v h) .bad ≠ .bad := hne
    obtain ⟨b, o, e1, e2⟩ := onPtr_ne hne'
    rw [e2] at hne'
    obtain ⟨n, c, kd, fm, p1, p2, p3, p4⟩ := hLoad_ne hne'
    have run : ∀ (hh : Heap), hh.get b = .cells n c kd fm → Alive hh b → ∀ k : K, (OpS.load1 x).op e hh k = k (c.get o) hh := by
      intro hh q1 q2 k
      show (x.rd e).onPtr (fun b o => hLoad hh b o fun v => k v hh) .bad = _
      rw [e1]
      show hLoad hh b o (fun v => k v hh) = _
      unfold hLoad
      rw [q1]
      show bo (Nat.blt o n) (aliveB hh b kd fm (k (c.get o) hh)) .bad = _
      rw [blt_iff.2 p2, bo_t, aliveB_at q1 q2]
    rw [← vv (run h p1 p3)]
    exact run h' (g.cells p1) (g.alive p1 p3)
  | loadN m x =>
    have hne' : (x.rd e).onPtr (fun b o => hLoadN h b o m fun l => kv (.agg l) h) .bad ≠ .bad := hne
    obtain ⟨b, o, e1, e2⟩ := onPtr_ne hne'
    rw [e2] at hne'
    obtain ⟨n, c, kd, fm, p1, p2, p3, p4⟩ := hLoadN_ne hne'
    have run : ∀ (hh : Heap), hh.get b = .cells n c kd fm → Alive hh b → ∀ k : K, (OpS.loadN m x).op e hh k = k (.agg (readCT c m o)) hh := by
      intro hh q1 q2 k
      show (x.rd e).onPtr (fun b o => hLoadN hh b o m fun l => k (.agg l) hh) .bad = _
      rw [e1]
      show hLoadN hh b o m (fun l => k (.agg l) hh) = _
      rw [hLoadN_at q1 p2 q2]
    rw [← vv (run h p1 p3)]
    exact run h' (g.cells p1) (g.alive p1 p3)
  | lookup sh z m x =>
    have hne' : (m.rd e).onTag 2 (fun b _ _ => onMapO (h.get b) (fun sh' es => bo (bb (Nat.beq sh sh') (keyOk sh (x.rd e)) false) (findK (x.rd e) es (kv z h) fun v => kv v h) .bad) .bad) .bad ≠ .bad := hne
    obtain ⟨b, l0, l1, e1, e2⟩ := onTag_ne hne'
    rw [e2] at hne'
    obtain ⟨sh', es, e3, e4⟩ := onMapO_ne hne'
    rw [e4] at hne'
    obtain ⟨q1, q2⟩ := bo_ne' hne'
    have run : ∀ (hh : Heap), hh.get b = .map sh' es → ∀ k : K, (OpS.lookup sh z m x).op e hh k = findK (x.rd e) es (k z hh) fun v => k v hh := by
      intro hh p1 k
      show (m.rd e).onTag 2 (fun b _ _ => onMapO (hh.get b) (fun sh' es => bo (bb (Nat.beq sh sh') (keyOk sh (x.rd e)) false) (findK (x.rd e) es (k z hh) fun v => k v hh) .bad) .bad) .bad = _
      rw [e1]
      show onMapO (hh.get b) _ .bad = _
      rw [p1]
      show bo (bb (Nat.beq sh sh') (keyOk sh (x.rd e)) false) _ .bad = _
      rw [q1, bo_t]
    have fk : ∃ u, ∀ (hh : Heap) (k : K), findK (x.rd e) es (k z hh) (fun v => k v hh) = k u hh := by
      clear hne' run e4 e3 q2
      induction es with
      | nil => exact ⟨z, fun hh k => rfl⟩
      | cons p es ih =>
        obtain ⟨u, hu⟩ := ih
        cases hq : eqV (x.rd e) p.1 with
        | true => exact ⟨p.2, fun hh k => by show bo (eqV (x.rd e) p.1) (k p.2 hh) _ = _; rw [hq, bo_t]⟩
        | false => exact ⟨u, fun hh k => by show bo (eqV (x.rd e) p.1) (k p.2 hh) (findK (x.rd e) es (k z hh) fun v => k v hh) = _; rw [hq, bo_f]; exact hu hh k⟩
    obtain ⟨u, hu⟩ := fk
    rw [← vv (u := u) (fun k => by rw [run h e3, hu])]
    intro k
    rw [run h' (by rw [g b (by rw [e3]; intro z; cases z), e3]), hu]
  | lookupOk sh z m x =>
    have hne' : (m.rd e).onTag 2 (fun b _ _ => onMapO (h.get b) (fun sh' es => bo (bb (Nat.beq sh sh') (keyOk sh (x.rd e)) false) (findK (x.rd e) es (kv (.tup [z, .bool false]) h) fun v => kv (.tup [v, .bool true]) h) .bad) .bad) .bad ≠ .bad := hne
    obtain ⟨b, l0, l1, e1, e2⟩ := onTag_ne hne'
    rw [e2] at hne'
    obtain ⟨sh', es, e3, e4⟩ := onMapO_ne hne'
    rw [e4] at hne'
    obtain ⟨q1, q2⟩ := bo_ne' hne'
    have run : ∀ (hh : Heap), hh.get b = .map sh' es → ∀ k : K, (OpS.lookupOk sh z m x).op e hh k = findK (x.rd e) es (k (.tup [z, .bool false]) hh) fun v => k (.tup [v, .bool true]) hh := by
      intro hh p1 k
      show (m.rd e).onTag 2 (fun b _ _ => onMapO (hh.get b) (fun sh' es => bo (bb (Nat.beq sh sh') (keyOk sh (x.rd e)) false) (findK (x.rd e) es (k (.tup [z, .bool false]) hh) fun v => k (.tup [v, .bool true]) hh) .bad) .bad) .bad = _
      rw [e1]
      show onMapO (hh.get b) _ .bad = _
      rw [p1]
      show bo (bb (Nat.beq sh sh') (keyOk sh (x.rd e)) false) _ .bad = _
      rw [q1, bo_t]
    have fk : ∃ u, ∀ (hh : Heap) (k : K), findK (x.rd e) es (k (.tup [z, .bool false]) hh) (fun v => k (.tup [v, .bool true]) hh) = k u hh := by
      clear hne' run e4 e3 q2
      induction es with
      | nil => exact ⟨_, fun hh k => rfl⟩
      | cons p es ih =>
        obtain ⟨u, hu⟩ := ih
        cases hq : eqV (x.rd e) p.1 with
        | true => exact ⟨_, fun hh k => by show bo (eqV (x.rd e) p.1) (k (.tup [p.2, .bool true]) hh) _ = _; rw [hq, bo_t]⟩
        | false => exact ⟨u, fun hh k => by show bo (eqV (x.rd e) p.1) (k (.tup [p.2, .bool true]) hh) (findK (x.rd e) es (k (.tup [z, .bool false]) hh) fun v => k (.tup [v, .bool true]) hh) = _; rw [hq, bo_f]; exact hu hh k⟩
    obtain ⟨u, hu⟩ := fk
    rw [← vv (u := u) (fun k => by rw [run h e3, hu])]
    intro k
    rw [run h' (by rw [g b (by rw [e3]; intro z; cases z), e3]), hu]
  | lenV x =>
    have hne' : (x.rd e).onSl (fun _ _ n _ _ => kv (natV n) h) (kv (natV 0) h) .bad ≠ .bad := hne
    rcases onSl_ne hne' with ⟨b, o, n, c, ex, e1, e2⟩ | ⟨⟨m, l, l', e1⟩, e2⟩
    · have run : ∀ (hh : Heap) (k : K), (OpS.lenV x).op e hh k = k (natV n) hh := fun hh k => by
        show (x.rd e).onSl (fun _ _ n _ _ => k (natV n) hh) (k (natV 0) hh) .bad = _
        rw [e1]; rfl
      rw [← vv (run h)]; exact run h'
    · have run : ∀ (hh : Heap) (k : K), (OpS.lenV x).op e hh k = k (natV 0) hh := fun hh k => by
        show (x.rd e).onSl (fun _ _ n _ _ => k (natV n) hh) (k (natV 0) hh) .bad = _
        rw [e1]; rfl
      rw [← vv (run h)]; exact run h'
  | lenS x =>
    have hne' : (x.rd e).onStr (fun n _ => kv (natV n) h) .bad ≠ .bad := hne
    obtain ⟨n, l, e1, e2⟩ := onStr_ne hne'
    have run : ∀ (hh : Heap) (k : K), (OpS.lenS x).op e hh k = k (natV n) hh := fun hh k => by
      show (x.rd e).onStr (fun n _ => k (natV n) hh) .bad = _
      rw [e1]; rfl
    rw [← vv (run h)]; exact run h'
  | lenM x =>
    have hne' : (x.rd e).onTag 2 (fun b _ _ => onMapO (h.get b) (fun _ es => kv (natV (lenM es)) h) .bad) .bad ≠ .bad := hne
    obtain ⟨b, l0, l1, e1, e2⟩ := onTag_ne hne'
    rw [e2] at hne'
    obtain ⟨sh', es, e3, e4⟩ := onMapO_ne hne'
    have run : ∀ (hh : Heap), hh.get b = .map sh' es → ∀ k : K, (OpS.lenM x).op e hh k = k (natV (lenM es)) hh := by
      intro hh p1 k
      show (x.rd e).onTag 2 (fun b _ _ => onMapO (hh.get b) (fun _ es => k (natV (lenM es)) hh) .bad) .bad = _
      rw [e1]
      show onMapO (hh.get b) _ .bad = _
      rw [p1]; rfl
    rw [← vv (run h e3)]
    exact run h' (by rw [g b (by rw [e3]; intro z; cases z), e3])
  | _ => cases hl
theorem LookV.grows {o : Oper} {tv : Nat → AV} {v : AV} (hc : clsOf o.op = 1) (q : LookV tt ng kp h o tv v) (g : Grows h h') : LookV tt ng kp h' o tv v := by
  obtain ⟨M1, e1, d, p1, p2, p3, p4⟩ := q
  exact ⟨M1, e1, d, p1, p2, p3, look_grows (comp_look p1 hc) g p4⟩
theorem Holds.grows {y : Nat} {l : List AV} (q : Holds h y l) (g : Grows h h') : Holds h' y l := by
  obtain ⟨ct, h1, h2⟩ := q
  exact ⟨ct, g.cells h1, h2⟩

/-! the same operation, met twice -/
theorem opd_same {x : Operand} {u u1 : OpdS} (h1 : opd ng M x = some u) (h2 : opd ng M1 x = some u1) (hv : ∀ t, x = .tmp t → tval M e t = tval M1 e1 t) : u.rd e = u1.rd e1 := by
  cases x with
  | tmp t =>
    have q1 : tmpAt M t = some u := h1
    have q2 : tmpAt M1 t = some u1 := h2
    rw [tmpAt_rd q1, tmpAt_rd q2]; exact hv t rfl
  | const v =>
    obtain ⟨z, p1, rfl⟩ := map_some2 (show (ofV v).map .c = some u from h1)
    obtain ⟨z', p1', rfl⟩ := map_some2 (show (ofV v).map .c = some u1 from h2)
    rw [p1] at p1'; cases p1'; rfl
  | global g =>
    have q1 : (if Nat.blt g ng then some (OpdS.c (.ptr g 0)) else none) = some u := h1
    have q2 : (if Nat.blt g ng then some (OpdS.c (.ptr g 0)) else none) = some u1 := h2
    split at q1
    · rename_i hb
      rw [if_pos hb] at q2
      cases q1; cases q2; rfl
    · cases q1
  | func f => cases h1; cases h2; rfl
theorem parts_same {places : Nat → Option (Nat × Nat)} {tot : Nat} : ∀ {l : List (Nat × Operand)} {ps ps1 : List (Nat × Nat × OpdS)}, parts ng M places tot l = some ps → parts ng M1 places tot l = some ps1 → (∀ p ∈ l, ∀ t, p.2 = .tmp t → tval M e t = tval M1 e1 t) →
    ∀ (b : List AV) (K : List AV → Out), fillsK (rdP ps) e b K = fillsK (rdP ps1) e1 b K ∧ fills (rdP ps) e b = fills (rdP ps1) e1 b
  | [], ps, ps1, h1, h2, hv, b, K => by cases h1; cases h2; exact ⟨rfl, rfl⟩
  | (i, x) :: l, ps, ps1, h1, h2, hv, b, K => by
    obtain ⟨o, a1, h1⟩ := bind_some2 (show (places i).bind _ = some ps from h1)
    obtain ⟨u, a2, h1⟩ := bind_some2 h1
    obtain ⟨o', b1, h2⟩ := bind_some2 (show (places i).bind _ = some ps1 from h2)
    obtain ⟨u', b2, h2⟩ := bind_some2 h2
    rw [a1] at b1; cases b1
    split at h1
    · rename_i hle
      rw [if_pos hle] at h2
      obtain ⟨ps', a3, rfl⟩ := map_some2 h1
      obtain ⟨ps1', b3, rfl⟩ := map_some2 h2
      have hs := opd_same (e := e) (e1 := e1) a2 b2 (hv (i, x) (List.mem_cons_self ..))
      have hv' : ∀ p ∈ l, ∀ t, p.2 = .tmp t → tval M e t = tval M1 e1 t := fun p hp => hv p (List.mem_cons_of_mem _ hp)
      constructor
      · show ckU (u.rd e) (bo (Nat.beq (lenL (u.rd e).cells) o.2) (fillsK (rdP ps') e (fillL (u.rd e).cells b o.1) K) .bad) = ckU (u'.rd e1) (bo (Nat.beq (lenL (u'.rd e1).cells) o.2) (fillsK (rdP ps1') e1 (fillL (u'.rd e1).cells b o.1) K) .bad)
        rw [hs, (parts_same a3 b3 hv' _ K).1]
      · show fills (rdP ps') e (fillL (u.rd e).cells b o.1) = fills (rdP ps1') e1 (fillL (u'.rd e1).cells b o.1)
        rw [hs, (parts_same a3 b3 hv' _ K).2]
    · cases h1
theorem new_same {o : Oper} {d d1 : OpS} (hd : compOp tt ng M o.op = some d) (hd1 : compOp tt ng M1 o.op = some d1) (hc : clsOf o.op = 2) (hv : ∀ t ∈ opTmps o.op, tval M e t = tval M1 e1 t) : d.op e = d1.op e1 ∧ d.zc e = d1.zc e1 ∧ d.mkV = d1.mkV := by
  obtain ⟨dst, op, ty, pos, after, guard⟩ := o
  simp only at hd hd1 hc hv
  cases op with
  | alloc t =>
    obtain ⟨i, hi, rfl⟩ := map_some2 (show (tt t).map _ = some d from hd)
    obtain ⟨i', hi', rfl⟩ := map_some2 (show (tt t).map _ = some d1 from hd1)
    rw [hi] at hi'; cases hi'
    exact ⟨rfl, rfl, rfl⟩
  | box t x =>
    obtain ⟨i, hi, hd⟩ := bind_some2 (show (tt t).bind _ = some d from hd)
    obtain ⟨u, h1, rfl⟩ := o1_some hd
    obtain ⟨i', hi', hd1⟩ := bind_some2 (show (tt t).bind _ = some d1 from hd1)
    obtain ⟨u', h1', rfl⟩ := o1_some hd1
    have hs := opd_same (e := e) (e1 := e1) h1 h1' (fun t ht => hv t (by subst ht; simp [opTmps, Op.operands]))
    refine ⟨?_, ?_, rfl⟩
    · funext h k
      simp only [OpS.op, oBox, hs]
    · simp only [OpS.zc, hs]
  | buildSlice t len prt =>
    obtain ⟨i, hi, hd⟩ := bind_some2 (show (tt t).bind _ = some d from hd)
    obtain ⟨i', hi', hd1⟩ := bind_some2 (show (tt t).bind _ = some d1 from hd1)
    rw [hi] at hi'; cases hi'
    split at hd
    case h_2 => cases hd
    rename_i el q1
    rw [q1] at hd1
    simp only at hd1
    obtain ⟨ie, h0, hd⟩ := bind_some2 hd
    obtain ⟨ie', h0', hd1⟩ := bind_some2 hd1
    rw [h0] at h0'; cases h0'
    split at hd
    · cases hd
    rename_i hle
    rw [if_neg hle] at hd1
    obtain ⟨ps, hp, rfl⟩ := map_some2 hd
    obtain ⟨ps1, hp1, rfl⟩ := map_some2 hd1
    have hs := parts_same (e := e) (e1 := e1) hp hp1 (fun p hp t ht => hv t (by
      refine List.mem_filterMap.2 ⟨p.2, ?_, by rw [ht]⟩
      simp only [Op.operands]
      exact List.mem_map_of_mem hp))
    refine ⟨?_, (hs _ (fun _ => .bad)).2, rfl⟩
    funext h k
    exact (hs _ _).1
  | call c =>
    obtain ⟨callee, args, ats⟩ := c
    cases callee with
    | builtin b => cases b <;> cases hc
    | _ => cases hc
  | _ => cases hc
end Dv
/-! regions that draw their order: the proof -/
namespace Dv
open Go Go.RowKit
variable {S : Sites} {base : Nat} {μ μ' μ0 : Mu} {h h' h0 : Heap} {w w' w0 : World} {P : Program} {tt : TT} {ng : Nat} {kp : Nat → Bool} {nt : Nat} {M M' M1 : List Nat} {e e' e1 : Env} {a a' : Act} {k : K} {s : Self} {ops : Array Oper}
variable {Pd Dn td : List Nat} {Y : Nat → Nat}

theorem cls_le (o : Op) : clsOf o = 0 ∨ clsOf o = 1 ∨ clsOf o = 2 ∨ clsOf o = 3 := by
  cases o <;> first
    | exact .inl rfl
    | exact .inr (.inl rfl)
    | exact .inr (.inr (.inl rfl))
    | exact .inr (.inr (.inr rfl))
    | (rename_i c
       obtain ⟨callee, args, ats⟩ := c
       cases callee with
       | builtin b => cases b <;> first
         | exact .inl rfl
         | exact .inr (.inl rfl)
         | exact .inr (.inr (.inr rfl))
       | _ => exact .inr (.inr (.inr rfl)))
/-- the plan meets an operation that changes nothing -/
theorem RI.plan (htt : TTOk P tt) (h20 : 20 ≤ P.types.size + 1) (hbig : P.types.size + 2 ≤ 10000) (q : RI P S base tt ng kp nt ops μ0 h0 w0 Pd Dn [] M e h μ w a Y) (hpl : planOk ops (Region.before ops) = true) {i : Nat} (hready : readyI ops Pd i = true) (hc3 : clsAt ops (Region.before ops) i ≠ 3)
    {o : Oper} {d : OpS} {dw : DstS} {g : Option (OpdS × Bool)} (ho : ops[i]? = some o) (hd : compOp tt ng M o.op = some d) (hdw : dstS kp nt o.dst = some dw) (hg : guardS ops M o.guard = some g) {next : Run} {c : Ctx} (hne : (OperS.mk dw d g).run next c e h ≠ .bad) :
    ∃ v h' Y', (OperS.mk dw d g).run next c e h = next c (dw.w v e) h' ∧ RI P S base tt ng kp nt ops μ0 h0 w0 (i :: Pd) Dn [] (nextM kp o.dst M) (dw.w v e) h' μ w a Y' := by
  obtain ⟨hni, _, hpr⟩ := readyI_spec.1 hready
  obtain ⟨yes, g1, g2⟩ := gsay_run hne
  have hgt := gsay_gt hg g1
  have hcap := q.ext.hr.cap
  have selfT : ∀ t ∈ tmpsOf ops o, o.dst ≠ some t := fun t ht z => ((planOk_spec hpl ho ho).2 t z ht).elim (fun y => hni (ord_ready q.cP i i rfl hpr i y)) (fun y => y.2.2 rfl)
  have othT : ∀ p ∈ Pd, ∀ x, ops[p]? = some x → ∀ t ∈ tmpsOf ops x, o.dst ≠ some t := fun p hp x hx t ht z => ((planOk_spec hpl ho hx).2 t z ht).elim (fun y => hni (ord_closed q.cP hp y)) (fun y => hc3 y.2.1)
  have othD : ∀ p ∈ Pd, ∀ t, dstAt ops p = some t → o.dst ≠ some t := fun p hp t hd1 z => by
    cases hx : ops[p]? with
    | none => rw [dstAt, hx] at hd1; cases hd1
    | some x =>
      rw [dstAt_eq hx] at hd1
      rcases (planOk_spec hpl ho hx).1 with r | ⟨_, r⟩
      · exact hni (by rw [r]; exact hp)
      · exact r t z hd1
  -- what is left to show: this operation's own promise
  have fin : ∀ (v : AV) (h' : Heap) (y : Nat), Ext S base μ0 h0 w0 μ h' w → h.nx ≤ h'.nx → (∀ o v, clsOf o.op = 1 → LookV tt ng kp h o (tval M e) v → LookV tt ng kp h' o (tval M e) v) → (∀ y l, Holds h y l → Holds h' y l) →
      (y = 262144 + i ∨ (y = h.nx ∧ h'.nx = h.nx + 1)) →
      ((∀ t ∈ tmpsOf ops o, tval (nextM kp o.dst M) (dw.w v e) t = tval M e t) → (∀ t, o.dst = some t → tval (nextM kp o.dst M) (dw.w v e) t = v) → Pnd P S base tt ng kp nt ops h0.nx h' μ (nextM kp o.dst M) (dw.w v e) i y True) →
      ∃ Y', RI P S base tt ng kp nt ops μ0 h0 w0 (i :: Pd) Dn [] (nextM kp o.dst M) (dw.w v e) h' μ w a Y' := by
    intro v h' y hext hnx hL hH hy hown
    obtain ⟨tr', tv⟩ := tval_put q.tr hdw v
    have hown' := hown (fun t ht => by rw [tv, if_neg (selfT t ht)]) (fun t ht => by rw [tv, if_pos ht])
    have hiD : i ∉ Dn := fun z => hni (q.sub i z)
    obtain ⟨Y', hYi, hYo⟩ : ∃ Y' : Nat → Nat, Y' i = y ∧ ∀ p, p ≠ i → Y' p = Y p := ⟨fun x => if x = i then y else Y x, if_pos rfl, fun p hp => if_neg hp⟩
    refine ⟨Y', hext, q.gok, tr', q.size, fun j hj => List.mem_cons_of_mem _ (q.sub j hj), q.cP.cons hpr, q.cD, fun t ht => ?_, fun p hp hpn => ?_, fun p hp p' hp' h1 h2 hne2 => ?_, fun p hp hpn => ?_, fun p hp hpn => (List.mem_cons.1 hp).elim (fun z => by rw [z]; exact hc3) (fun z => q.pc p z hpn)⟩
    · have h1 := ht i (List.mem_cons_self ..) hiD
      rw [dstAt_eq ho] at h1
      rw [tv, if_neg h1]
      exact q.val t (fun p hp => ht p (List.mem_cons_of_mem _ hp))
    · by_cases hpi : p = i
      · subst hpi
        rw [hYi]
        exact hown'.move (fun _ _ _ _ => rfl) (fun _ _ => rfl) (fun _ => trivial) (fun _ _ _ _ _ _ z => z) (fun _ _ _ _ _ _ z => z) (Nat.le_refl _) (fun _ z => z)
      · have hp' : p ∈ Pd := (List.mem_cons.1 hp).elim (fun z => absurd z hpi) (fun z => z)
        rw [hYo p hpi]
        exact (q.pend p hp' hpn).move (fun x hx t ht => by rw [tv, if_neg (othT p hp' x hx t ht)]) (fun t ht => by rw [tv, if_neg (othD p hp' t ht)]) (fun c => c) (fun o v _ _ _ c z => hL o v c z) (fun _ l _ _ _ _ z => hH _ l z) hnx (fun _ z => z)
    · by_cases hpi : p = i
      · subst hpi
        have hp'' : p' ∈ Pd := (List.mem_cons.1 hp').elim (fun z => absurd z (fun w => hne2 w.symm)) (fun z => z)
        rw [hYi, hYo p' (fun z => hne2 z.symm)]
        have := q.yb p' hp'' h2
        omega
      · have hp'' : p ∈ Pd := (List.mem_cons.1 hp).elim (fun z => absurd z hpi) (fun z => z)
        rw [hYo p hpi]
        by_cases hpi' : p' = i
        · subst hpi'
          rw [hYi]
          have := q.yb p hp'' h1
          omega
        · rw [hYo p' hpi']
          exact q.inj p hp'' p' ((List.mem_cons.1 hp').elim (fun z => absurd z hpi') (fun z => z)) h1 h2 hne2
    · by_cases hpi : p = i
      · subst hpi
        rw [hYi]
        omega
      · rw [hYo p hpi]
        have := q.yb p ((List.mem_cons.1 hp).elim (fun z => absurd z hpi) (fun z => z)) hpn
        omega
  cases yes with
  | false =>
    obtain ⟨Y', hY⟩ := fin (.tup []) h (262144 + i) q.ext (Nat.le_refl _) (fun _ _ _ z => z) (fun _ _ z => z) (.inl rfl) (fun s1 s2 => .skip o ho (hgt.congr s1) s2)
    exact ⟨.tup [], h, Y', by rw [g2]; rfl, hY⟩
  | true =>
    have hcl0 := clsAt_eq ho hc3
    rw [hcl0] at hc3
    have hp := plain_of hd hc3
    have hrun : ∀ next' : Run, (OperS.mk dw d g).run next' c e h = d.op e h (fun v h => next' c (dw.w v e) h) := fun next' => by
      rw [g2, plain_run d hp]; rfl
    rw [hrun] at hne
    have hcl := (comp_comes hd).2.2
    have look : d.cls = 1 → ∃ v, (∀ k : K, d.op e h k = k v h) := fun hc1 => uni_val (op_uni d hc1) hne
    rcases cls_le o.op with hc | hc | hc | hc
    · obtain ⟨v, hv⟩ := look (hcl.1 (by omega))
      obtain ⟨Y', hY⟩ := fin v h (262144 + i) q.ext (Nat.le_refl _) (fun _ _ _ z => z) (fun _ _ z => z) (.inl rfl) (fun s1 s2 => .quiet o v ho (hgt.congr s1) hcl0 hc s2
        (fun h' => (quiet_prom htt h20 hbig hc ⟨M, e, d, hd, q.tr, fun _ _ => rfl, hv⟩ h').congr (fun t ht => s1 t (opTmps_sub ht))))
      exact ⟨v, h, Y', by rw [hrun, hv], hY⟩
    · obtain ⟨v, hv⟩ := look (hcl.1 (by omega))
      obtain ⟨Y', hY⟩ := fin v h (262144 + i) q.ext (Nat.le_refl _) (fun _ _ _ z => z) (fun _ _ z => z) (.inl rfl) (fun s1 s2 => .val o v ho (hgt.congr s1) hcl0 hc s2
        (fun _ => ⟨M, e, d, hd, q.tr, fun t ht => (s1 t (opTmps_sub ht)).symm, hv⟩))
      exact ⟨v, h, Y', by rw [hrun, hv], hY⟩
    · have hc2 := hcl.2 hc
      obtain ⟨n1, n2⟩ := new_run hc2 hne
      obtain ⟨n, t, he, hlt, n3⟩ := new_ne n2
      obtain ⟨b1, b2, b3, b4⟩ := q.ext.hr.new he hlt (mkCells (d.zc e))
      have hx : h.nx = n := by rw [he]; rfl
      have hgr := q.ext.hr.grows he hlt (mkCells (d.zc e))
      have hrel : ∀ o v, clsOf o.op = 1 → LookV tt ng kp h o (tval M e) v → LookV tt ng kp (.mk (n + 1) (t.set n (mkCells (d.zc e)))) o (tval M e) v := fun _ _ c z => z.grows c hgr
      obtain ⟨Y', hY⟩ := fin (d.mkV n) (.mk (n + 1) (t.set n (mkCells (d.zc e)))) n ⟨b1, q.ext.le, Nat.le_trans q.ext.nx (by rw [hx]; show n ≤ n + 1; omega), q.ext.fresh, q.ext.below, q.ext.kept⟩ (by rw [hx]; show n ≤ n + 1; omega) hrel (fun _ _ z => z.grows hgr) (.inr ⟨hx.symm, by rw [hx]; rfl⟩)
        (fun s1 s2 => .new o (d.mkV n) (d.zc e) ho (hgt.congr s1) hcl0 hc s2 ⟨M, e, d, h, _, hd, q.tr, fun t ht => (s1 t (opTmps_sub ht)).symm, hne, rfl, rfl⟩
          (fun _ => ⟨ofL (d.zc e), by rw [b2]; unfold mkCells; rw [lenL_eq], fun i _ => ct_ofL_get 18 _ i⟩) (by show n < n + 1; omega) (by rw [← hx]; exact q.ext.nx) b3)
      refine ⟨d.mkV n, _, Y', ?_, hY⟩
      rw [hrun, n1, n3]
    · exact absurd hc hc3

/-! looking again -/
theorem chk_run {d : OpS} {x : OpdS} {g : Option (OpdS × Bool)} {next : Run} {c : Ctx} (hne : chkRun d x g next c e h ≠ .bad) : ∃ yes, GSay g e yes ∧ chkRun d x g next c e h = if yes then d.chk1 x.rd next c e h else next c e h := by
  cases g with
  | none => exact ⟨true, rfl, rfl⟩
  | some p =>
    obtain ⟨y, want⟩ := p
    obtain ⟨yes, h1, h2⟩ := rG_ne (op := d.chk1 x.rd) (w0 := wN) hne
    exact ⟨yes, h1, h2 next⟩
theorem chk_val {d : OpS} {x : OpdS} (hc : d.cls = 1) {next : Run} {c : Ctx} (hne : d.chk1 x.rd next c e h ≠ .bad) : d.chk1 x.rd next c e h = next c e h ∧ ∀ k : K, d.op e h k = k (x.rd e) h := by
  have h1 : d.chk1 x.rd next c e h = d.op e h fun v _ => bo (sameV v (x.rd e)) (next c e h) .bad := by cases d <;> first | rfl | cases hc
  rw [h1] at hne ⊢
  obtain ⟨v, hv⟩ := uni_val (op_uni d hc) hne
  rw [hv] at hne ⊢
  obtain ⟨q1, q2⟩ := bo_ne' hne
  have := sameV_eq _ _ q1
  subst this
  exact ⟨q2, hv⟩
theorem sameV_agg {l m : List AV} (q : sameV (.agg l) (.agg m) = true) : l = m := by
  have := sameV_eq _ _ q
  injection this
theorem chkA_ne {z : Env → List AV} {b : Nat} {next : Run} {c : Ctx} (hne : chkA z b next c e h ≠ .bad) : chkA z b next c e h = next c e h ∧ Holds h b (z e) := by
  unfold chkA at hne ⊢
  obtain ⟨nb, ct, kd, fm, e1, e2⟩ := onCells_ne hne
  rw [e2] at hne ⊢
  obtain ⟨q1, q2⟩ := bo_ne' hne
  rw [q2] at hne ⊢
  obtain ⟨q3, q4⟩ := bo_ne' hne
  obtain ⟨k1, k2⟩ := bb_and q1
  obtain ⟨k2, k3⟩ := bb_and k2
  have k1 := nbeq_iff.1 k1
  have k2 := nbeq_iff.1 k2
  have k3 := nbeq_iff.1 k3
  rw [lenL_eq] at k3
  subst k1; subst k2; subst k3
  have hl := sameV_agg q3
  refine ⟨q4, ct, e1, fun i hi => .inl ?_⟩
  have := readCT_get ct (z e).length 0 i hi
  rw [hl, Nat.zero_add] at this
  rw [this]; rfl
theorem chk_new {d : OpS} {x : OpdS} (hc : d.cls = 2) {next : Run} {c : Ctx} (hne : d.chk1 x.rd next c e h ≠ .bad) : d.chk1 x.rd next c e h = next c e h ∧ ∀ y, x.rd e = d.mkV y → Holds h y (d.zc e) := by
  have h1 : d.chk1 x.rd next c e h = rChkA d.zc x.rd next c e h := by cases d <;> first | rfl | cases hc
  rw [h1] at hne ⊢
  have unf : rChkA d.zc x.rd next c e h = (x.rd e).onPtr (fun b _ => chkA d.zc b next c e h) ((x.rd e).onSl (fun b _ _ _ _ => chkA d.zc b next c e h) .bad .bad) := rfl
  rw [unf] at hne ⊢
  cases hx : x.rd e with
  | ptr b o =>
    rw [hx] at hne
    have hne' : chkA d.zc b next c e h ≠ .bad := hne
    obtain ⟨p1, p2⟩ := chkA_ne hne'
    refine ⟨p1, fun y hy => ?_⟩
    have : b = y := by cases d <;> first | (cases hc; done) | (injection hy) | cases hy
    subst this; exact p2
  | slice b o n cc ex =>
    rw [hx] at hne
    have hne' : chkA d.zc b next c e h ≠ .bad := hne
    obtain ⟨p1, p2⟩ := chkA_ne hne'
    refine ⟨p1, fun y hy => ?_⟩
    have : b = y := by cases d <;> first | (cases hc; done) | (injection hy) | cases hy
    subst this; exact p2
  | oth t b l m =>
    rw [hx] at hne
    have hne' : bo (Nat.beq t 1) Out.bad .bad ≠ .bad := hne
    exact absurd (by cases Nat.beq t 1 <;> rfl) hne'
  | int _ _ => rw [hx] at hne; exact absurd rfl hne
  | bool _ => rw [hx] at hne; exact absurd rfl hne
  | str _ _ => rw [hx] at hne; exact absurd rfl hne
theorem compSteps_chk {i : Nat} {r : List ItemS} {st : List StS} (hc : compSteps tt ng kp nt ops (.chk i :: r) M = some st) :
    ∃ o d t x g st', ops[i]? = some o ∧ compOp tt ng M o.op = some d ∧ o.dst = some t ∧ tmpAt M t = some x ∧ guardS ops M o.guard = some g ∧ compSteps tt ng kp nt ops r M = some st' ∧ st = .chk d x g :: st' := by
  obtain ⟨o, h1, q⟩ := bind_some2 (show (ops[i]?).bind _ = some st from hc)
  obtain ⟨d, h2, q⟩ := bind_some2 q
  obtain ⟨t, h3, q⟩ := bind_some2 q
  obtain ⟨x, h4, q⟩ := bind_some2 q
  obtain ⟨g, h5, q⟩ := bind_some2 q
  obtain ⟨st', h6, rfl⟩ := map_some2 q
  exact ⟨o, d, t, x, g, st', h1, h2, h3, h4, h5, h6, rfl⟩
theorem RI.chks {c : Ctx} : ∀ (td : List Nat) (pl : List ItemS) (st : List StS), (∀ p ∈ td, clsAt ops (Region.before ops) p = 1 ∨ clsAt ops (Region.before ops) p = 2) → RI P S base tt ng kp nt ops μ0 h0 w0 Pd Dn td M e h μ w a Y → compSteps tt ng kp nt ops (td.map ItemS.chk ++ pl) M = some st → runSteps st c e h ≠ .bad →
    ∃ st', compSteps tt ng kp nt ops pl M = some st' ∧ runSteps st c e h = runSteps st' c e h ∧ RI P S base tt ng kp nt ops μ0 h0 w0 Pd Dn [] M e h μ w a Y
  | [], pl, st, hcl, q, hst, hne => ⟨st, hst, rfl, q⟩
  | p :: td, pl, st, hcl, q, hst, hne => by
    obtain ⟨o, d, t, x, g, st', h1, h2, h3, h4, h5, h6, rfl⟩ := compSteps_chk hst
    have hrun : runSteps (.chk d x g :: st') c e h = chkRun d x g (runSteps st') c e h := rfl
    rw [hrun] at hne ⊢
    obtain ⟨yes, g1, g2⟩ := chk_run hne
    have hgt := gsay_gt h5 g1
    rw [g2] at hne ⊢
    have hx := tmpAt_rd (e := e) h4
    have hcp := hcl p (List.mem_cons_self ..)
    rw [clsAt_eq h1 (by omega)] at hcp
    have hdc := (comp_comes h2).2.2
    -- what comes behind, and p's promise
    have key : (if yes then d.chk1 x.rd (runSteps st') c e h else runSteps st' c e h) = runSteps st' c e h ∧ (p ∈ Pd → p ∉ Dn → Pnd P S base tt ng kp nt ops h0.nx h μ M e p (Y p) True) := by
      cases yes with
      | false =>
        refine ⟨rfl, fun hp hn => ?_⟩
        cases q.pend p hp hn with
        | skip o' ho' hg' hv' => exact .skip o' ho' hg' hv'
        | quiet o' v' ho' hg' hcl' hc' hv' hp' => exact .quiet o' v' ho' hg' hcl' hc' hv' hp'
        | val o' v' ho' hg' hcl' hc' hv' hp' => rw [h1] at ho'; cases ho'; exact absurd (hgt.det hg') (by simp)
        | new o' v' l ho' hg' hcl' hc' hv' hp' hh hy hn' hm => rw [h1] at ho'; cases ho'; exact absurd (hgt.det hg') (by simp)
      | true =>
        have hne' : d.chk1 x.rd (runSteps st') c e h ≠ .bad := hne
        show d.chk1 x.rd (runSteps st') c e h = _ ∧ _
        rcases hcp with hcp | hcp
        · obtain ⟨r1, r2⟩ := chk_val (hdc.1 (by omega)) hne'
          refine ⟨r1, fun hp hn => ?_⟩
          cases q.pend p hp hn with
          | skip o' ho' hg' hv' => rw [h1] at ho'; cases ho'; exact absurd (hgt.det hg') (by simp)
          | quiet o' v' ho' hg' hcl' hc' hv' hp' => exact .quiet o' v' ho' hg' hcl' hc' hv' hp'
          | val o' v' ho' hg' hcl' hc' hv' hp' =>
            rw [h1] at ho'; cases ho'
            have hv2 := hv' t h3
            rw [hx, hv2] at r2
            exact .val _ v' h1 hg' hcl' hc' hv' (fun _ => ⟨M, e, d, h2, q.tr, fun _ _ => rfl, r2⟩)
          | new o' v' l ho' hg' hcl' hc' hv' hp' hh hy hn' hm => rw [h1] at ho'; cases ho'; omega
        · obtain ⟨r1, r2⟩ := chk_new (hdc.2 hcp) hne'
          refine ⟨r1, fun hp hn => ?_⟩
          cases q.pend p hp hn with
          | skip o' ho' hg' hv' => rw [h1] at ho'; cases ho'; exact absurd (hgt.det hg') (by simp)
          | quiet o' v' ho' hg' hcl' hc' hv' hp' => exact .quiet o' v' ho' hg' hcl' hc' hv' hp'
          | val o' v' ho' hg' hcl' hc' hv' hp' => rw [h1] at ho'; cases ho'; omega
          | new o' v' l ho' hg' hcl' hc' hv' hp' hh hy hn' hm =>
            rw [h1] at ho'; cases ho'
            have hv2 := hv' t h3
            obtain ⟨M1, e1, d1, hx1, k1, z1, z2, z3, z4, z5, z6⟩ := id hp'
            obtain ⟨_, s2, s3⟩ := new_same (e := e) (e1 := e1) h2 z1 hc' (fun t ht => (z3 t ht).symm)
            have hh' := r2 (Y p) (by rw [hx, hv2, z5, s3])
            rw [s2, ← z6] at hh'
            exact .new _ v' l h1 hg' hcl' hc' hv' hp' (fun _ => hh') hy hn' hm
    obtain ⟨k1, k2⟩ := key
    have q' : RI P S base tt ng kp nt ops μ0 h0 w0 Pd Dn td M e h μ w a Y := by
      refine ⟨q.ext, q.gok, q.tr, q.size, q.sub, q.cP, q.cD, q.val, fun r hr hrn => ?_, q.inj, q.yb, q.pc⟩
      by_cases hrp : r = p
      · subst hrp
        exact (k2 hr hrn).move (fun _ _ _ _ => rfl) (fun _ _ => rfl) (fun _ => trivial) (fun _ _ _ _ _ _ z => z) (fun _ _ _ _ _ _ z => z) (Nat.le_refl _) (fun _ z => z)
      · exact (q.pend r hr hrn).move (fun _ _ _ _ => rfl) (fun _ _ => rfl) (fun hc z => (List.mem_cons.1 z).elim (fun z => hrp z) (fun z => hc z)) (fun _ _ _ _ _ _ z => z) (fun _ _ _ _ _ _ z => z) (Nat.le_refl _) (fun _ z => z)
    rw [k1] at hne ⊢
    exact RI.chks td pl st' (fun r hr => hcl r (List.mem_cons_of_mem _ hr)) q' h6 hne

/-- plan and machine meet an operation together -/
theorem RI.both (htt : TTOk P tt) (h20 : 20 ≤ P.types.size + 1) (hbig : P.types.size + 2 ≤ 10000) (hF : SelfF P S base ng s) (hY : SelfY P S base ng s) (q : RI P S base tt ng kp nt ops μ0 h0 w0 Pd Dn [] M e h μ w a Y) (hpl : planOk ops (Region.before ops) = true) {i : Nat} (hni : i ∉ Pd) (hpr : Preds ops i Dn)
    {o : Oper} {d : OpS} {dw : DstS} {g : Option (OpdS × Bool)} (ho : ops[i]? = some o) (hd : compOp tt ng M o.op = some d) (hdw : dstS kp nt o.dst = some dw) (hg : guardS ops M o.guard = some g) {next : Run} {c : Ctx} (hc : c.s = s) (hne : (OperS.mk dw d g).run next c e h ≠ .bad) :
    ∃ v h', (OperS.mk dw d g).run next c e h = next c (dw.w v e) h' ∧ ∀ (b : Frame) (rest : List Nat) (k : List Item) (cs : List Frame), ∃ μ' a' w', RI P S base tt ng kp nt ops μ0 h0 w0 (i :: Pd) (i :: Dn) (chksOf ops Pd i) (nextM kp o.dst M) (dw.w v e) h' μ' w' a' Y ∧ a'.defers = a.defers ∧
      Steps P (lone (b.atR a (.inRegion ops (i :: rest) :: k)) cs w) (lone (b.atR a' (.inRegion ops rest :: k)) cs w') := by
  have hprP : Preds ops i Pd := hpr.mono q.sub
  obtain ⟨e1, ha, hag⟩ := mask q.tr (fun t => ∀ p ∈ Pd, p ∉ Dn → dstAt ops p ≠ some t) q.size q.gok (fun t ht => q.val t ht)
  have hT : ∀ t ∈ tmpsOf ops o, ∀ p ∈ Pd, p ∉ Dn → dstAt ops p ≠ some t := fun t ht p hp hpn hd1 => by
    cases hx : ops[p]? with
    | none => rw [dstAt, hx] at hd1; cases hd1
    | some x =>
      rw [dstAt_eq hx] at hd1
      exact ((planOk_spec hpl hx ho).2 t hd1 ht).elim (fun y => hpn (ord_ready q.cD i i rfl hpr p y)) (fun y => q.pc p hp hpn y.2.1)
  obtain ⟨v, h', r1, rd⟩ := oper_step htt h20 hbig hF hY q.ext.hr ha ho hd hg (opds_alike hd (fun t ht => hag t (hT t (opTmps_sub ht)))) (fun j t q1 q2 => by
    cases hq : o.guard with
    | none => rw [hq] at q1; cases q1
    | some p =>
      obtain ⟨j', want⟩ := p
      rw [hq] at q1
      have : j' = j := by simpa using q1
      subst this
      exact (hag t (hT t (guard_mem hq q2))).symm) (dw := dw) hc hne
  obtain ⟨tr', tv⟩ := tval_put q.tr hdw v
  have othT : ∀ p ∈ Pd, p ∉ Dn → ∀ x, ops[p]? = some x → ∀ t ∈ tmpsOf ops x, o.dst ≠ some t := fun p hp hpn x hx t ht z => ((planOk_spec hpl ho hx).2 t z ht).elim (fun y => hni (ord_closed q.cP hp y)) (fun y => hpn (ord_ready q.cD i i rfl hpr p y.1))
  have othD : ∀ p ∈ Pd, ∀ t, dstAt ops p = some t → o.dst ≠ some t := fun p hp t hd1 z => by
    cases hx : ops[p]? with
    | none => rw [dstAt, hx] at hd1; cases hd1
    | some x =>
      rw [dstAt_eq hx] at hd1
      rcases (planOk_spec hpl ho hx).1 with r | ⟨_, r⟩
      · exact hni (by rw [r]; exact hp)
      · exact r t z hd1
  have hlt' : ∀ t, o.dst = some t → t < a.tmps.size := fun t ht => Nat.lt_of_lt_of_le (dstS_lt hdw t ht) q.size
  refine ⟨v, h', r1 _, fun b rest k cs => ?_⟩
  obtain ⟨μ', cv, w', r2, r3, r4⟩ := rd b rest k cs
  refine ⟨μ', a.put o.dst cv, w', ⟨q.ext.trans r2, q.gok.mono r2.le, tr', by rw [put_size]; exact q.size, fun j hj => ?_, q.cP.cons hprP, q.cD.cons hpr, fun t ht => ?_, fun p hp hpn => ?_, fun p hp p' hp' h1 h2 hne2 => ?_, fun p hp hpn => ?_, fun p hp hpn => ?_⟩, put_defers _ _, r4⟩
  · rcases List.mem_cons.1 hj with rfl | hj
    · exact List.mem_cons_self ..
    · exact List.mem_cons_of_mem _ (q.sub j hj)
  · rw [put_getD cv hlt', tv]
    by_cases hdt : o.dst = some t
    · rw [if_pos hdt, if_pos hdt]; exact r3
    · rw [if_neg hdt, if_neg hdt]
      refine (q.val t (fun p hp hpn => ht p (List.mem_cons_of_mem _ hp) (fun z => ?_))).mono r2.le
      rcases List.mem_cons.1 z with z | z
      · exact hni (by rw [← z]; exact hp)
      · exact hpn z
  · have hpi : p ≠ i := fun z => hpn (by rw [z]; exact List.mem_cons_self ..)
    have hp' : p ∈ Pd := (List.mem_cons.1 hp).elim (fun z => absurd z hpi) (fun z => z)
    have hpn' : p ∉ Dn := fun z => hpn (List.mem_cons_of_mem _ z)
    have inT : ∀ x, ops[p]? = some x → clsAt ops (Region.before ops) p = clsOf x.op → (clsOf x.op = 1 ∨ clsOf x.op = 2) → p ∈ chksOf ops Pd i := fun x hx hce hcl => by
      refine List.mem_filter.2 ⟨hp', ?_⟩
      rw [hce]
      have : ordered (Region.before ops) p i = false := by
        cases z : ordered (Region.before ops) p i with
        | false => rfl
        | true => exact absurd (ord_ready q.cD i i rfl hpr p z) hpn'
      rw [this]
      rcases hcl with z | z <;> rw [z] <;> rfl
    exact (q.pend p hp' hpn').move (fun x hx t ht => by rw [tv, if_neg (othT p hp' hpn' x hx t ht)]) (fun t ht => by rw [tv, if_neg (othD p hp' t ht)]) (fun _ => by simp) (fun x _ c1 hx ce c2 _ => absurd (inT x hx ce (.inl c2)) c1) (fun x _ c1 hx ce c2 _ => absurd (inT x hx ce (.inr c2)) c1) r2.nx (fun h1 h2 => r2.fresh _ h1 h2)
  · have inP : ∀ p, p ∈ i :: Pd → p ∉ i :: Dn → p ∈ Pd ∧ p ∉ Dn := fun p hp hpn => ⟨(List.mem_cons.1 hp).elim (fun z => absurd (by rw [z]; exact List.mem_cons_self ..) hpn) (fun z => z), fun z => hpn (List.mem_cons_of_mem _ z)⟩
    exact q.inj p (inP p hp h1).1 p' (inP p' hp' h2).1 (inP p hp h1).2 (inP p' hp' h2).2 hne2
  · have hpP : p ∈ Pd := (List.mem_cons.1 hp).elim (fun z => absurd (by rw [z]; exact List.mem_cons_self ..) hpn) (fun z => z)
    have := q.yb p hpP (fun z => hpn (List.mem_cons_of_mem _ z))
    have hnx := r2.nx
    omega
  · have hpP : p ∈ Pd := (List.mem_cons.1 hp).elim (fun z => absurd (by rw [z]; exact List.mem_cons_self ..) hpn) (fun z => z)
    exact q.pc p hpP (fun z => hpn (List.mem_cons_of_mem _ z))
/-- nothing is left for the plan, or but what changes memory -/
def At3 (ops : Array Oper) (n : Nat) (Pd : List Nat) : Prop := n = 0 ∨ ∀ j, readyI ops Pd j = true → clsAt ops (Region.before ops) j = 3
theorem RI.advance (htt : TTOk P tt) (h20 : 20 ≤ P.types.size + 1) (hbig : P.types.size + 2 ≤ 10000) (hpl : planOk ops (Region.before ops) = true) {c : Ctx} : ∀ (n : Nat) (Pd : List Nat) (pl : List ItemS) (M : List Nat) (st : List StS) (e : Env) (h : Heap) (Y : Nat → Nat),
    RI P S base tt ng kp nt ops μ0 h0 w0 Pd Dn [] M e h μ w a Y → planGo ops (Region.before ops) n Pd = some pl → compSteps tt ng kp nt ops pl M = some st → runSteps st c e h ≠ .bad →
    ∃ n' Pd' pl' M' st' e' h' Y', RI P S base tt ng kp nt ops μ0 h0 w0 Pd' Dn [] M' e' h' μ w a Y' ∧ planGo ops (Region.before ops) n' Pd' = some pl' ∧ At3 ops n' Pd' ∧ compSteps tt ng kp nt ops pl' M' = some st' ∧ runSteps st c e h = runSteps st' c e' h'
  | 0, Pd, pl, M, st, e, h, Y, q, hg, hst, hne => ⟨0, Pd, pl, M, st, e, h, Y, q, hg, .inl rfl, hst, rfl⟩
  | n + 1, Pd, pl, M, st, e, h, Y, q, hg, hst, hne => by
    obtain ⟨i, pl', h1, h2, h3⟩ := planGo_succ hg
    rcases h3 with ⟨h3, rfl⟩ | ⟨h3, _⟩
    · obtain ⟨o, d, dw, g, st', k1, k2, k3, k4, k5, rfl⟩ := compSteps_op hst
      obtain ⟨v, h', Y', r1, r2⟩ := q.plan htt h20 hbig hpl h1 h3 k1 k2 k3 k4 (next := runSteps st') (c := c) hne
      have hrun : runSteps (.op ⟨dw, d, g⟩ :: st') c e h = runSteps st' c (dw.w v e) h' := r1
      rw [hrun] at hne ⊢
      exact RI.advance htt h20 hbig hpl n (i :: Pd) pl' _ st' _ h' Y' r2 h2 k5 hne
    · exact ⟨n + 1, Pd, pl, M, st, e, h, Y, q, hg, .inr h3, hst, rfl⟩
/-- all ops compile within nt -/
theorem RI.main (htt : TTOk P tt) (h20 : 20 ≤ P.types.size + 1) (hbig : P.types.size + 2 ≤ 10000) (hF : SelfF P S base ng s) (hY : SelfY P S base ng s) (hpl : planOk ops (Region.before ops) = true) {c : Ctx} (hc : c.s = s)
    (hnd : ∀ (p : Nat) (o : Oper), ops[p]? = some o → ∀ c, o.op ≠ .defer c) (hlt : ∀ (p : Nat) (o : Oper), ops[p]? = some o → ∀ t, o.dst = some t → t < nt) (b : Frame) (k : List Item) (cs : List Frame) : ∀ (l Dn : List Nat), Sched ops l Dn → ∀ (n : Nat) (Pd : List Nat) (pl : List ItemS) (M : List Nat) (st : List StS) (e : Env) (h : Heap) (μ : Mu) (w : World) (a : Act) (Y : Nat → Nat),
    RI P S base tt ng kp nt ops μ0 h0 w0 Pd Dn [] M e h μ w a Y → planGo ops (Region.before ops) n Pd = some pl → At3 ops n Pd → compSteps tt ng kp nt ops pl M = some st → runSteps st c e h ≠ .bad →
    ∃ e' h' μ' M' a' w', runSteps st c e h = .nrm e' h' ∧ Ext S base μ0 h0 w0 μ' h' w' ∧ AR ng kp nt μ' M' e' a' ∧ a'.defers = a.defers ∧ Steps P (lone (b.atR a (.inRegion ops l :: k)) cs w) (lone (b.atR a' (.inRegion ops [] :: k)) cs w') := by
  intro l
  induction l with
  | nil =>
    intro Dn hs n Pd pl M st e h μ w a Y q hg h3 hst hne
    cases hs with
    | nil hall =>
      have hn : n = 0 := by
        cases n with
        | zero => rfl
        | succ n =>
          obtain ⟨i, pl', k1, _⟩ := planGo_succ hg
          obtain ⟨k2, ⟨o, ho⟩, _⟩ := readyI_spec.1 k1
          exact absurd (q.sub i (hall i (Array.getElem?_eq_some_iff.1 ho).1)) k2
      subst hn
      obtain ⟨rfl, _⟩ := planGo_zero hg
      cases hst
      refine ⟨e, h, μ, M, a, w, rfl, q.ext, AR.of_val q.tr q.size q.gok (fun t => q.val t (fun p hp hpn hd => hpn ?_)), rfl, .refl P _⟩
      cases hx : ops[p]? with
      | none => rw [dstAt, hx] at hd; cases hd
      | some x => exact hall p (Array.getElem?_eq_some_iff.1 hx).1
  | cons i l ih =>
    intro Dn hs n Pd pl M st e h μ w a Y q hg h3 hst hne
    cases hs with
    | cons hi ho hp hs =>
      by_cases hiP : i ∈ Pd
      · obtain ⟨μ1, a1, w1, q1, q2, q3⟩ := q.meet htt h20 hbig hpl hiP hi hp (hnd i) (hlt i)
        obtain ⟨e', h', μ', M', a', w', r1, r2, r3, r4, r5⟩ := ih (i :: Dn) hs n Pd pl M st e h μ1 w1 a1 Y q1 hg h3 hst hne
        exact ⟨e', h', μ', M', a', w', r1, r2, r3, by rw [r4, q2], (q3 b l k cs).trans r5⟩
      · obtain ⟨o, ho⟩ := ho
        have hready : readyI ops Pd i = true := readyI_spec.2 ⟨hiP, ⟨o, ho⟩, hp.mono q.sub⟩
        cases n with
        | zero => exact absurd ((planGo_zero hg).2 i (Array.getElem?_eq_some_iff.1 ho).1) hiP
        | succ n =>
          have hall3 : ∀ j, readyI ops Pd j = true → clsAt ops (Region.before ops) j = 3 := by
            rcases h3 with h3 | h3
            · cases h3
            · exact h3
          obtain ⟨i', pl', k1, k2, k3⟩ := planGo_succ hg
          rcases k3 with ⟨k3, _⟩ | ⟨_, rfl⟩
          · exact absurd (hall3 i' k1) k3
          obtain ⟨o', d, dw, g, st', c1, c2, c3, c4, c5, rfl⟩ := compSteps_op hst
          have hii : i = i' := by
            rcases (planOk_spec hpl ho c1).1 with z | ⟨z, _⟩
            · exact z
            · exfalso
              obtain ⟨n1, _, n3⟩ := readyI_spec.1 k1
              have e1 := hall3 i hready
              have e2 := hall3 i' k1
              rcases z e1 e2 with z | z
              · exact hiP (ord_ready q.cP i' i' rfl n3 i z)
              · exact n1 (ord_ready q.cP i i rfl (hp.mono q.sub) i' z)
          subst hii
          obtain ⟨v, h', r1, rd⟩ := q.both htt h20 hbig hF hY hpl hiP hp c1 c2 c3 c4 (next := runSteps st') hc hne
          obtain ⟨μ1, a1, w1, r2, r3, r4⟩ := rd b l k cs
          have hrun : runSteps (.op ⟨dw, d, g⟩ :: st') c e h = runSteps st' c (dw.w v e) h' := r1
          rw [hrun] at hne ⊢
          obtain ⟨st2, s1, s2, s3⟩ := RI.chks (c := c) (chksOf ops Pd i) pl' st' (fun p hp => by
            have := (List.mem_filter.1 hp).2
            rw [Bool.and_eq_true, Bool.or_eq_true] at this
            rcases this.1 with z | z
            · exact .inl (eq_of_beq z)
            · exact .inr (eq_of_beq z)) r2 c5 hne
          rw [s2] at hne ⊢
          obtain ⟨n', Pd', pl2, M', st3, e3, h3', Y3, t1, t2, t3, t4, t5⟩ := RI.advance htt h20 hbig hpl n (i :: Pd) pl' _ st2 _ h' Y s3 k2 s1 hne
          rw [t5] at hne ⊢
          obtain ⟨e', h'', μ', M'', a', w', u1, u2, u3, u4, u5⟩ := ih (i :: Dn) hs n' Pd' pl2 M' st3 e3 h3' μ1 w1 a1 Y3 t1 t2 t3 t4 hne
          exact ⟨e', h'', μ', M'', a', w', u1, u2, u3, by rw [u4, r3], r4.trans u5⟩
end Dv
/-! a region -/
namespace Dv
open Go Go.RowKit
variable {S : Sites} {base : Nat} {μ μ' μ0 : Mu} {h h' h0 : Heap} {w w' w0 : World} {P : Program} {tt : TT} {ng : Nat} {kp : Nat → Bool} {nt : Nat} {M M' M1 : List Nat} {e e' e1 : Env} {a a' : Act} {k : K} {s : Self} {ops : Array Oper}

theorem comp_all : ∀ (pl : List ItemS) (M : List Nat) (st : List StS), compSteps tt ng kp nt ops pl M = some st → ∀ i, ItemS.op i ∈ pl → ∃ o M' d dw, ops[i]? = some o ∧ compOp tt ng M' o.op = some d ∧ dstS kp nt o.dst = some dw
  | [], M, st, hst, i, hi => by cases hi
  | .op j :: r, M, st, hst, i, hi => by
    obtain ⟨o, d, dw, g, st', k1, k2, k3, k4, k5, rfl⟩ := compSteps_op hst
    rcases List.mem_cons.1 hi with q | hi
    · cases q; exact ⟨o, M, d, dw, k1, k2, k3⟩
    · exact comp_all r _ st' k5 i hi
  | .chk j :: r, M, st, hst, i, hi => by
    obtain ⟨o, d, t, x, g, st', h1, h2, h3, h4, h5, h6, rfl⟩ := compSteps_chk hst
    rcases List.mem_cons.1 hi with q | hi
    · cases q
    · exact comp_all r _ st' h6 i hi
theorem plan_all : ∀ (n : Nat) (Pd : List Nat) (pl : List ItemS), planGo ops (Region.before ops) n Pd = some pl → ∀ i, i < ops.size → i ∈ Pd ∨ ItemS.op i ∈ pl
  | 0, Pd, pl, hg, i, hi => .inl ((planGo_zero hg).2 i hi)
  | n + 1, Pd, pl, hg, i, hi => by
    obtain ⟨j, pl', h1, h2, h3⟩ := planGo_succ hg
    have in_ : ItemS.op i ∈ pl' → ItemS.op i ∈ pl := fun q => by
      rcases h3 with ⟨_, rfl⟩ | ⟨_, rfl⟩
      · exact List.mem_cons_of_mem _ q
      · exact List.mem_cons_of_mem _ (List.mem_append.2 (.inr q))
    have hj : ItemS.op j ∈ pl := by
      rcases h3 with ⟨_, rfl⟩ | ⟨_, rfl⟩ <;> exact List.mem_cons_self ..
    rcases plan_all n (j :: Pd) pl' h2 i hi with q | q
    · rcases List.mem_cons.1 q with rfl | q
      · exact .inr hj
      · exact .inl q
    · exact .inr (in_ q)
theorem below_drawn (w : World) : Below base w { w with drawn := w.drawn + 1 } := ⟨rfl, rfl, rfl, Nat.le_refl _, fun _ _ => rfl⟩
/-- the memory that follows, and the machine's steps -/
def RegR (P : Program) (S : Sites) (base ng : Nat) (kp : Nat → Bool) (nt : Nat) (μ : Mu) (h : Heap) (w : World) (a : Act) (h' : Heap) (e' : Env) (m : Machine) (fin : Act → World → Machine) : Prop :=
  ∃ μ' a' w', Ext S base μ h w μ' h' w' ∧ AR ng kp nt μ' [] e' a' ∧ a'.defers = a.defers ∧ Steps P m (fin a' w')
theorem region_ok (htt : TTOk P tt) (h20 : 20 ≤ P.types.size + 1) (hbig : P.types.size + 2 ≤ 10000) (hmix : P.follows .mixedOrders = true) (hF : SelfF P S base ng s) (hY : SelfY P S base ng s) {c : Ctx} (hc : c.s = s) {draw : Bool} {cd : CodeS} (hcd : compRegion tt ng kp nt ops draw = some cd) (hne : cd.run c e h ≠ .bad)
    (hr : HR S base μ h w) (ha : AR ng kp nt μ [] e a) (b : Frame) (id : Nat) (k : List Item) (cs : List Frame) :
    ∃ e' h', cd.run c e h = .nrm e' h' ∧ RegR P S base ng kp nt μ h w a h' e' (lone (b.atR a (.code (.region id ops draw) :: k)) cs w) (fun a' w' => lone (b.atR a' k) cs w') := by
  obtain ⟨pl, hpl, hcd⟩ := bind_some2 (show (planOf ops draw).bind _ = some cd from hcd)
  obtain ⟨st, hst, rfl⟩ := map_some2 hcd
  have hne' : runSteps st c e h ≠ .bad := hne
  cases draw with
  | false =>
    cases hpl
    obtain ⟨e', h', μ', M', a', w', r1, r2, r3, r4, r5⟩ := text_ok htt h20 hbig hF hY hc b k cs (List.range ops.size) [] st e a μ h w hst hne' hr ha (fun t i q => by cases q)
    exact ⟨e', h', r1, μ', a', w', r2, r3.start, r4, .head stepR_region (r5.trans (.one stepR_region_end))⟩
  | true =>
    unfold planOf at hpl
    simp only [if_true] at hpl
    split at hpl
    case isFalse => cases hpl
    rename_i hpo
    have hr1 : HR S base μ h { w with drawn := w.drawn + 1 } := hr.of_heap rfl
    have hall := comp_all pl [] st hst
    have hop : ∀ (p : Nat) (o : Oper), ops[p]? = some o → ∃ M' d dw, compOp tt ng M' o.op = some d ∧ dstS kp nt o.dst = some dw := fun p o ho => by
      rcases plan_all _ _ _ hpl p (Array.getElem?_eq_some_iff.1 ho).1 with q | q
      · cases q
      · obtain ⟨o', M', d, dw, k1, k2, k3⟩ := hall p q
        rw [ho] at k1; cases k1
        exact ⟨M', d, dw, k2, k3⟩
    have q0 : RI P S base tt ng kp nt ops μ h { w with drawn := w.drawn + 1 } [] [] [] [] e h μ { w with drawn := w.drawn + 1 } a (fun p => 262144 + p) :=
      ⟨Ext.refl hr1, ha.gok, ⟨ha.er.keep, fun t i q => by cases q⟩, ha.er.size, fun i hi => hi, fun i hi => (by cases hi), fun i hi => (by cases hi), fun t _ => ha.val t, fun p hp => (by cases hp), fun p hp => (by cases hp), fun p hp => (by cases hp), fun p hp => by cases hp⟩
    obtain ⟨n', Pd', pl', M', st', e', h', Y', t1, t2, t3, t4, t5⟩ := RI.advance (c := c) htt h20 hbig hpo _ [] pl [] st e h _ q0 hpl hst hne'
    rw [t5] at hne'
    have hsch : Sched ops (Region.schedule (P.follows .mixedOrders) ops (w.tape w.drawn (.order b.fn id))) [] := by
      rw [hmix]; exact sched_any hpl _
    obtain ⟨e'', h'', μ', M'', a', w', u1, u2, u3, u4, u5⟩ := RI.main htt h20 hbig hF hY hpo hc (fun p o ho => by obtain ⟨M', d, dw, k2, k3⟩ := hop p o ho; exact comp_nodefer k2) (fun p o ho t ht => by obtain ⟨M', d, dw, k2, k3⟩ := hop p o ho; exact dstS_lt k3 t ht) b k cs
      _ [] hsch n' Pd' pl' M' st' e' h' μ _ a Y' t1 t2 t3 t4 hne'
    refine ⟨e'', h'', by show runSteps st c e h = _; rw [t5, u1], μ', a', w', ⟨u2.hr, u2.le, u2.nx, u2.fresh, (below_drawn w).trans u2.below, fun b ds q => u2.kept b ds q⟩, u3.start, u4, .head stepR_region_draw (u5.trans (.one stepR_region_end))⟩
end Dv
