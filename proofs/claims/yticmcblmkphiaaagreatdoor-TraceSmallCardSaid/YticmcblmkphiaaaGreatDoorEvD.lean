/-
  Operations of the evaluator keep the relation; maps.
-/
import Derived.Test.YticmcblmkphiaaaGreatDoorEvC
import Derived.Maps.Keyed
import Derived.Laws.StructEq
import Derived.Laws.MakeOwn
import Derived.Deep.AppendSrc
set_option linter.unusedVariables false
set_option linter.unusedSimpArgs false
set_option linter.unusedSectionVars false
/-! operations that look at memory, or change it, 1 -/
namespace Dv
open Go Go.RowKit
variable {S : Sites} {base : Nat} {μ μ' : Mu} {h : Heap} {w w' : World} {P : Program} {tt : TT} {ng : Nat} {kp : Nat → Bool} {nt : Nat} {M : List Nat} {e : Env} {a : Act} {k : K}

/-- what was deferred is still there -/
def KeepD (w w' : World) : Prop := ∀ (b : Nat) (ds : Option (List Deferred)), w.heap[b]? = some (.deferred ds) → w'.heap[b]? = some (.deferred ds)
theorem KeepD.refl (w : World) : KeepD w w := fun _ _ h => h
theorem KeepD.trans {a b c : World} (h : KeepD a b) (k : KeepD b c) : KeepD a c := fun i d q => k i d (h i d q)
/-- how the memory goes on -/
structure Ext (S : Sites) (base : Nat) (μ : Mu) (h : Heap) (w : World) (μ' : Mu) (h' : Heap) (w' : World) : Prop where
  hr : HR S base μ' h' w'
  le : μ.le μ'
  nx : h.nx ≤ h'.nx
  fresh : ∀ b, b < h.nx → μ b = none → μ' b = none
  below : Below base w w'
  kept : KeepD w w'
theorem Ext.refl (hr : HR S base μ h w) : Ext S base μ h w μ h w := ⟨hr, Mu.le_refl _, Nat.le_refl _, fun _ _ q => q, Below.refl _ _, KeepD.refl _⟩
theorem Ext.trans {μ1 μ2 μ3 : Mu} {h1 h2 h3 : Heap} {w1 w2 w3 : World} (a : Ext S base μ1 h1 w1 μ2 h2 w2) (b : Ext S base μ2 h2 w2 μ3 h3 w3) : Ext S base μ1 h1 w1 μ3 h3 w3 :=
  ⟨b.hr, Mu.le_trans a.le b.le, Nat.le_trans a.nx b.nx, fun x hx q => b.fresh x (Nat.lt_of_lt_of_le hx a.nx) (a.fresh x hx q), a.below.trans b.below, a.kept.trans b.kept⟩
/-- op and the program's operation, in step -/
def EffR (P : Program) (S : Sites) (base : Nat) (μ : Mu) (h : Heap) (w : World) (op : DOp) (e : Env) (s : Sem Next) : Prop :=
  ∃ μ' v h' cv w', (∀ k, op e h k = k v h') ∧ Ext S base μ h w μ' h' w' ∧ VR μ' v cv ∧ (s.run P w = .ok (.value cv) w' ∨ (s.run P w = .ok .skip w' ∧ cv = undef))
/-- op reads -/
def RdR (P : Program) (μ : Mu) (h : Heap) (w : World) (op : DOp) (e : Env) (s : Sem Next) : Prop :=
  ∃ v cv, (∀ k, op e h k = k v h) ∧ VR μ v cv ∧ s.run P w = .ok (.value cv) w
theorem QR.read {op : DOp} {s : Sem Next} (q : QR P μ op e s) (h : Heap) (w : World) : RdR P μ h w op e s := let ⟨v, cv, a, b, c⟩ := q; ⟨v, cv, a h, b, c w⟩
theorem RdR.eff {op : DOp} {s : Sem Next} (hr : HR S base μ h w) (q : RdR P μ h w op e s) : EffR P S base μ h w op e s := let ⟨v, cv, a, b, c⟩ := q; ⟨μ, v, h, cv, w, a, Ext.refl hr, b, .inl c⟩
theorem valS_run1 {s : Sem Value} {cv : Value} {w w' : World} (h : s.run P w = .ok cv w') : (valS s).run P w = .ok (.value cv) w' := by simp [valS, h]
def skipS (s : Sem Unit) : Sem Next := do s; pure .skip
theorem skipS_run1 {s : Sem Unit} {w w' : World} (h : s.run P w = .ok () w') : (skipS s).run P w = .ok .skip w' := by simp [skipS, h]

theorem r_load1 (hr : HR S base μ h w) {t : TypeId} {i : TI} (ht : TOk P t i) (hg : isAggD i.desc = false) {x : Rd} {cx : Value} (hne : oLoad1 x e h k ≠ .bad) (hx : VR μ (x e) cx) : RdR P μ h w (oLoad1 x) e (valS (Instr.loadAt t cx)) := by
  unfold oLoad1 at hne
  obtain ⟨b, o, e1, e2⟩ := onPtr_ne hne
  rw [e2] at hne
  obtain ⟨n, c, kd, fm, h1, h2, h3, h4⟩ := hLoad_ne hne
  rw [e1] at hx
  obtain ⟨L, h5, rfl⟩ := hx.ptr_inv
  obtain ⟨v, g1, g2, g3⟩ := hr.load h5 h1 h3 h2
  refine ⟨c.get o, v, fun k => ?_, g3, valS_run1 ?_⟩
  · unfold oLoad1
    rw [e1]
    show (hLoad h b o fun v => k v h) = _
    unfold hLoad
    rw [h1]
    show bo (Nat.blt o n) (aliveB h b kd fm (k (c.get o) h)) .bad = _
    rw [blt_iff.2 h2]
    exact aliveB_at h1 h3 _
  · simp [Instr.loadAt, Instr.sureAddr, loadVar, run_isAgg ht, hg, g1]
theorem r_loadN (hr : HR S base μ h w) {t : TypeId} {i : TI} (ht : TOk P t i) (hg : isAggD i.desc = true) {x : Rd} {cx : Value} (hne : oLoadN i.size x e h k ≠ .bad) (hx : VR μ (x e) cx) : RdR P μ h w (oLoadN i.size x) e (valS (Instr.loadAt t cx)) := by
  unfold oLoadN at hne
  obtain ⟨b, o, e1, e2⟩ := onPtr_ne hne
  rw [e2] at hne
  obtain ⟨n, c, kd, fm, h1, h2, h3, h4⟩ := hLoadN_ne hne
  rw [e1] at hx
  obtain ⟨L, h5, rfl⟩ := hx.ptr_inv
  obtain ⟨vs, g0, g1, g2, g3⟩ := hr.loadN h5 h1 h3 h2
  refine ⟨.agg (readCT c i.size o), .agg vs.toArray, fun k => ?_, .agg g3 g2, valS_run1 ?_⟩
  · unfold oLoadN
    rw [e1]
    show (hLoadN h b o i.size fun l => k (.agg l) h) = _
    rw [hLoadN_at h1 h2 h3]
  · have hl := run_loadCells_list (P := P) w ⟨L.blk, L.off + o, none⟩ vs (fun j v hj => by rw [addr_add]; exact g1 j v hj)
    rw [g0] at hl
    simp [Instr.loadAt, Instr.sureAddr, loadVar, run_isAgg ht, hg, run_size w ht, hl]
theorem r_lenV (t : TypeId) {i : TI} {el : TypeId} (ht : TOk P t i) (hd : i.desc = .slice el) {x : Rd} {cx : Value} (hne : oLenV x e h k ≠ .bad) (hx : VR μ (x e) cx) (ty : TypeId) : RdR P μ h w (oLenV x) e (valS (Builtin.len_ #[t] ty #[cx])) := by
  unfold oLenV at hne
  have hu := run_und w ht.und
  rw [hd] at hu
  rcases onSl_ne hne with ⟨⟨b, o, n, c, ex, e1, e2⟩⟩ | ⟨⟨m0, l0, l0', e1⟩, e2⟩
  · rw [e1] at hx
    obtain ⟨L, ad, cc, h1, rfl, hn, ha, g1, g2⟩ := hx.sl_inv
    refine ⟨natV n, goInt n, fun k => by unfold oLenV; rw [e1]; rfl, .int .i64 _, valS_run1 ?_⟩
    simp [Builtin.len_, hu]
  · rw [e1] at hx
    have hx' := hx.nils_inv
    subst hx'
    refine ⟨natV 0, goInt 0, fun k => by unfold oLenV; rw [e1]; rfl, .int .i64 _, valS_run1 ?_⟩
    simp [Builtin.len_, hu]
theorem r_lenS (t : TypeId) {i : TI} (ht : TOk P t i) (hd : i.desc = .string) {x : Rd} {cx : Value} (hne : oLenS x e h k ≠ .bad) (hx : VR μ (x e) cx) (ty : TypeId) : RdR P μ h w (oLenS x) e (valS (Builtin.len_ #[t] ty #[cx])) := by
  unfold oLenS at hne
  have hu := run_und w ht.und
  rw [hd] at hu
  obtain ⟨l, b, e1, e2⟩ := onStr_ne hne
  rw [e1] at hx
  obtain ⟨s, rfl, rfl, rfl⟩ := hx.str_inv
  refine ⟨natV s.size, goInt s.size, fun k => by unfold oLenS; rw [e1]; rfl, .int .i64 _, valS_run1 ?_⟩
  simp [Builtin.len_, hu]
theorem MRs.length {l : List (AV × AV)} {es : List MapEntry} (h : MRs μ l es) : l.length = es.length := by
  induction h with
  | nil => rfl
  | cons _ _ _ ih => simp [ih]
theorem r_lenM (hr : HR S base μ h w) (t : TypeId) {i : TI} {kt el : TypeId} (ht : TOk P t i) (hd : i.desc = .map kt el) {x : Rd} {cx : Value} (hne : oLenM x e h k ≠ .bad) (hx : VR μ (x e) cx) (ty : TypeId) : RdR P μ h w (oLenM x) e (valS (Builtin.len_ #[t] ty #[cx])) := by
  unfold oLenM at hne
  have hu := run_und w ht.und
  rw [hd] at hu
  obtain ⟨m, l, l', e1, e2⟩ := onTag_ne hne
  rw [e2] at hne
  obtain ⟨sh, es, e3, e4⟩ := onMapO_ne hne
  rw [e1] at hx
  obtain ⟨L, h1, rfl⟩ := hx.map_inv
  have hal : Alive h m := by unfold Alive; rw [e3]; trivial
  have ho := hr.obj m L h1 hal
  rw [e3] at ho
  obtain ⟨_, es', ck, g1, g2, _⟩ := ho
  refine ⟨natV (lenM es), goInt es'.size, fun k => by unfold oLenM; rw [e1]; show onMapO (h.get m) _ _ = _; rw [e3]; rfl, ?_, valS_run1 ?_⟩
  · rw [lenM_eq, g2.length]; exact .int .i64 _
  · simp [Builtin.len_, hu, getObj, Sem.run, g1]
end Dv
/-! values without pointers: equality, keys -/
namespace Dv
open Go Go.RowKit
variable {S : Sites} {base : Nat} {μ μ' : Mu} {h : Heap} {w w' : World} {P : Program} {tt : TT} {ng : Nat} {kp : Nat → Bool} {nt : Nat} {M : List Nat} {e : Env} {a : Act} {k : K}

inductive CellV : Nat → Value → Prop
  | str {s : ByteArray} (h : s.size ≤ maxLen) : CellV 9 (.string s)
  | bool (b : Bool) : CellV 10 (.bool b)
  | int {k : IntKind} {n : Int} (h : (Lit.int k n).wf = true) : CellV (kcode k + 1) (.int k n)
inductive CellsV : List Nat → List Value → Prop
  | nil : CellsV [] []
  | cons {c : Nat} {v : Value} {l : List Nat} {vs : List Value} (h : CellV c v) (hs : CellsV l vs) : CellsV (c :: l) (v :: vs)
theorem CellsV.length {l : List Nat} {vs : List Value} (h : CellsV l vs) : vs.length = l.length := by
  induction h with
  | nil => rfl
  | cons _ _ ih => simp [ih]
theorem CellsV.drop {l : List Nat} {vs : List Value} (h : CellsV l vs) : ∀ n, CellsV (l.drop n) (vs.drop n) := by
  induction h with
  | nil => intro n; simpa using CellsV.nil
  | cons a b ih => intro n; cases n with | zero => exact .cons a b | succ n => exact ih n
theorem CellsV.take {l : List Nat} {vs : List Value} (h : CellsV l vs) : ∀ n, CellsV (l.take n) (vs.take n) := by
  induction h with
  | nil => intro n; simpa using CellsV.nil
  | cons a b ih => intro n; cases n with | zero => exact .nil | succ n => exact .cons a (ih n)
theorem mapM_some_get {α β : Type} {f : α → Option β} : ∀ {l : List α} {r : List β}, l.mapM f = some r → r.length = l.length ∧ ∀ (i : Nat) (x : α), l[i]? = some x → ∃ y, r[i]? = some y ∧ f x = some y
  | [], r, h => by simp at h; subst h; exact ⟨rfl, fun i x q => by simp at q⟩
  | a :: l, r, h => by
    rw [List.mapM_cons] at h
    simp only [bind, Option.bind_eq_some_iff, pure, Option.some.injEq] at h
    obtain ⟨y, h1, r', h2, rfl⟩ := h
    obtain ⟨h3, h4⟩ := mapM_some_get h2
    refine ⟨by simp [h3], fun i x q => ?_⟩
    cases i with
    | zero => simp only [List.getElem?_cons_zero, Option.some.injEq] at q; subst q; exact ⟨y, rfl, h1⟩
    | succ i => obtain ⟨z, q1, q2⟩ := h4 i x (by simpa using q); exact ⟨z, by simpa using q1, q2⟩
theorem mapM_some_of {α β : Type} {f : α → Option β} : ∀ {l : List α}, (∀ x ∈ l, ∃ y, f x = some y) → ∃ r, l.mapM f = some r
  | [], _ => ⟨[], rfl⟩
  | a :: l, h => by
    obtain ⟨y, hy⟩ := h a (by simp)
    obtain ⟨r, hr⟩ := mapM_some_of (l := l) (fun x hx => h x (by simp [hx]))
    exact ⟨y :: r, by rw [List.mapM_cons]; simp [hy, hr]⟩
theorem cellsOf_eq {t : TypeId} {i : TI} (ht : TOk P t i) : P.cellsOf t = i.size := by
  obtain ⟨f, h1, h2, _⟩ := ht.info
  simp [Program.cellsOf, h1, h2]
theorem size_one {t : TypeId} {i : TI} (ht : TOk P t i) (hd : isAggD i.desc = false) : P.cellsOf t = 1 := by
  rw [cellsOf_eq ht]
  obtain ⟨f, h1, h2, h3, z, h4, h5, h6, h7, h8⟩ := ht.info
  have := h8 hd
  rw [← h7]
  cases z <;> first | rfl | cases this
/-- the fields, side by side -/
theorem fields_chunks {d : Nat} (ih : ∀ t l, shapeL tt d t = some l → l.length = P.cellsOf t) : ∀ (fs : List Field) (off tot : Nat) (ls : List (List Nat)), P.runs off fs = some tot → fs.mapM (fun f => shapeL tt d f.type) = some ls →
    ls.flatten.length = tot - off ∧ off ≤ tot ∧ ∀ (i : Nat) (f : Field) (l : List Nat), fs[i]? = some f → ls[i]? = some l → off ≤ f.offset ∧ (ls.flatten.drop (f.offset - off)).take (P.cellsOf f.type) = l
  | [], off, tot, ls, hr, hm => by
    simp only [Program.runs, Option.some.injEq] at hr
    simp at hm; subst hm; subst hr
    exact ⟨by simp, Nat.le_refl _, fun i f l q => by simp at q⟩
  | f :: fs, off, tot, ls, hr, hm => by
    simp only [Program.runs] at hr
    split at hr
    · rename_i ho
      rw [List.mapM_cons] at hm
      simp only [bind, Option.bind_eq_some_iff, pure, Option.some.injEq] at hm
      obtain ⟨l1, h1, ls', h2, rfl⟩ := hm
      obtain ⟨g1, g2, g3⟩ := fields_chunks ih fs _ tot ls' hr h2
      have hl1 := ih _ _ h1
      refine ⟨by simp only [List.flatten_cons, List.length_append, g1]; omega, by omega, fun i f' l q1 q2 => ?_⟩
      cases i with
      | zero =>
        simp only [List.getElem?_cons_zero, Option.some.injEq] at q1 q2
        subst q1; subst q2
        refine ⟨by omega, ?_⟩
        rw [ho, Nat.sub_self, List.drop_zero, List.flatten_cons, ← hl1, List.take_left]
      | succ i =>
        obtain ⟨r1, r2⟩ := g3 i f' l (by simpa using q1) (by simpa using q2)
        refine ⟨by omega, ?_⟩
        rw [List.flatten_cons, show f'.offset - off = l1.length + (f'.offset - (off + P.cellsOf f.type)) from by omega, List.drop_append, List.drop_of_length_le (by omega), List.nil_append]
        rw [show l1.length + (f'.offset - (off + P.cellsOf f.type)) - l1.length = f'.offset - (off + P.cellsOf f.type) from by omega]
        exact r2
    · cases hr
theorem flatten_rep_length (l : List Nat) : ∀ n, (List.replicate n l).flatten.length = n * l.length
  | 0 => by simp
  | n + 1 => by rw [List.replicate_succ, List.flatten_cons, List.length_append, flatten_rep_length l n, Nat.succ_mul]; omega
theorem rep_chunk (l : List Nat) : ∀ (n i : Nat), i < n → (((List.replicate n l).flatten).drop (i * l.length)).take l.length = l
  | 0, i, h => by omega
  | n + 1, 0, h => by rw [Nat.zero_mul, List.drop_zero, List.replicate_succ, List.flatten_cons, List.take_left]
  | n + 1, i + 1, h => by
    rw [List.replicate_succ, List.flatten_cons, show (i + 1) * l.length = l.length + i * l.length from by rw [Nat.succ_mul]; omega, List.drop_append, List.drop_of_length_le (by omega), List.nil_append,
      show l.length + i * l.length - l.length = i * l.length from by omega]
    exact rep_chunk l n i (by omega)
theorem shape_ok (htt : TTOk P tt) : ∀ (d : Nat) (t : TypeId) (l : List Nat), shapeL tt d t = some l → l.length = P.cellsOf t ∧ ∀ (D : Nat), d ≤ D → ∀ cs, CellsV l cs → ∃ ls, P.keyLits D t cs = some ls
  | 0, t, l, h => by simp [shapeL] at h
  | d + 1, t, l, h => by
    have IH := shape_ok htt d
    simp only [shapeL] at h
    obtain ⟨i, hi, h⟩ := bind_some2 h
    by_cases hk : i.key = true
    · rw [if_pos hk] at h
      have ht := htt t i hi
      obtain ⟨k1, k2⟩ := ht.key hk
      have hu := ht.und
      split at h
      · rename_i hd
        simp only [Option.some.injEq] at h; subst h
        refine ⟨by rw [size_one ht (by rw [hd]; rfl)]; rfl, fun D hD cs hc => ?_⟩
        generalize hcc : (10 : Nat) = c at hc
        cases hc with
        | cons hv hs =>
          cases hs
          cases hv with
          | str _ => omega
          | bool b => cases D with | zero => omega | succ D => exact ⟨[.bool b], by simp [Program.keyLits, hu, hd]⟩
          | @int k n hw => cases k <;> simp [kcode] at hcc
      · rename_i kk hd
        simp only [Option.some.injEq] at h; subst h
        refine ⟨by rw [size_one ht (by rw [hd]; rfl)]; rfl, fun D hD cs hc => ?_⟩
        generalize hcc : kcode kk + 1 = c at hc
        cases hc with
        | cons hv hs =>
          cases hs
          cases hv with
          | bool b => cases kk <;> simp [kcode] at hcc
          | str _ => cases kk <;> simp [kcode] at hcc
          | @int k n hw =>
            have := kcode_inj (Nat.succ.inj hcc); subst this
            cases D with | zero => omega | succ D => exact ⟨[.int kk n], by simp [Program.keyLits, hu, hd, hw]⟩
      · rename_i hd
        simp only [Option.some.injEq] at h; subst h
        refine ⟨by rw [size_one ht (by rw [hd]; rfl)]; rfl, fun D hD cs hc => ?_⟩
        generalize hcc : (9 : Nat) = c at hc
        cases hc with
        | cons hv hs =>
          cases hs
          cases hv with
          | bool b => omega
          | @str s hs => cases D with | zero => omega | succ D => exact ⟨[.string s.data.toList], by simp [Program.keyLits, hu, hd, hs]⟩
          | @int k n hw => cases k <;> simp [kcode] at hcc
      · rename_i fs hd
        obtain ⟨ls, h1, rfl⟩ := map_some2 h
        have ht1 : P.runs 0 fs.toList = some (P.cellsOf t) := by
          have := k2
          unfold Program.tiled at this
          simp only [hu, hd, Bool.and_eq_true, beq_iff_eq] at this
          exact this.1
        have hnb : fs.all (·.name != "_") = true := by
          have := k1
          unfold Program.keyTypeAt at this
          simp only [hu, hd, Bool.and_eq_true] at this
          rw [Array.all_eq_true_iff_forall_mem] at this ⊢
          intro f hf
          have := this.1.1 f hf
          simp only [Bool.and_eq_true] at this
          exact this.1
        obtain ⟨c1, c2, c3⟩ := fields_chunks (fun t l q => (IH t l q).1) fs.toList 0 _ ls ht1 h1
        obtain ⟨m1, m2⟩ := mapM_some_get h1
        refine ⟨by rw [c1]; omega, fun D hD cs hc => ?_⟩
        cases D with
        | zero => omega
        | succ D =>
          have hlen : cs.length = P.cellsOf t := by rw [hc.length, c1]; omega
          have : ∃ r, fs.toList.mapM (fun f => P.keyLits D f.type ((cs.drop f.offset).take (P.cellsOf f.type))) = some r := by
            refine mapM_some_of (fun f hf => ?_)
            obtain ⟨j, hj⟩ := List.getElem?_of_mem hf
            obtain ⟨y, q1, q2⟩ := m2 j f hj
            obtain ⟨r1, r2⟩ := c3 j f y hj q1
            have := (hc.drop f.offset).take (P.cellsOf f.type)
            rw [Nat.sub_zero] at r2
            rw [r2] at this
            exact (IH f.type y q2).2 D (by omega) _ this
          obtain ⟨r, hr⟩ := this
          exact ⟨r.flatten, by simp [Program.keyLits, hu, hd, hlen, hr, hnb]⟩
      · rename_i n el hd
        obtain ⟨le, h1, rfl⟩ := map_some2 h
        obtain ⟨g1, g2⟩ := IH el le h1
        have ht1 : P.cellsOf t = n * P.cellsOf el := by
          have := k2
          unfold Program.tiled at this
          simp only [hu, hd, Bool.and_eq_true, beq_iff_eq] at this
          exact this.1
        refine ⟨by rw [flatten_rep_length, g1, ht1], fun D hD cs hc => ?_⟩
        cases D with
        | zero => omega
        | succ D =>
          have hlen : cs.length = P.cellsOf t := by rw [hc.length, flatten_rep_length, g1, ht1]
          have : ∃ r, (List.range n).mapM (fun i => P.keyLits D el ((cs.drop (i * P.cellsOf el)).take (P.cellsOf el))) = some r := by
            refine mapM_some_of (fun j hj => ?_)
            have := (hc.drop (j * P.cellsOf el)).take (P.cellsOf el)
            rw [← g1, rep_chunk le n j (List.mem_range.1 hj)] at this
            rw [← g1]
            exact g2 D (by omega) _ this
          obtain ⟨r, hr⟩ := this
          exact ⟨r.flatten, by simp [Program.keyLits, hu, hd, hlen, hr]⟩
      · cases h
    · rw [if_neg hk] at h; cases h
end Dv
/-! values without pointers: equality, keys, 2 -/
namespace Dv
open Go Go.RowKit
variable {S : Sites} {base : Nat} {μ μ' : Mu} {h : Heap} {w w' : World} {P : Program} {tt : TT} {ng : Nat} {kp : Nat → Bool} {nt : Nat} {M : List Nat} {e : Env} {a : Act} {k : K}

theorem wf_of_wrap {k : IntKind} {n : Int} (h : k.wrap n = n) : (Lit.int k n).wf = true := by
  simp only [Lit.wf, Bool.and_eq_true, decide_eq_true_eq]
  unfold IntKind.wrap at h
  cases k <;> simp only [IntKind.bits, IntKind.signed, IntKind.min, IntKind.max, Bool.true_and, Bool.false_and, decide_eq_true_eq, Nat.reduceSub, Int.reducePow, Bool.false_eq_true, if_false, if_true] at h ⊢ <;>
    first | omega | (split at h <;> (rename_i q; first | omega | (have q := of_decide_eq_true q; omega) | (have q := of_decide_eq_false (by simpa using q); omega) | (simp at q; omega)))
theorem cellOk_ok {c : Nat} {x : AV} {v : Value} (h : cellOk c x = true) (hv : VR μ x v) : CellV c v := by
  unfold cellOk at h
  rw [bb_eq] at h
  by_cases q1 : Nat.beq c 9 = true
  · rw [if_pos q1] at h
    have := nbeq_iff.1 q1; subst this
    cases hv with
    | str s => exact .str (ble_iff.1 h)
    | _ => cases h
  · rw [if_neg q1, bb_eq] at h
    by_cases q2 : Nat.beq c 10 = true
    · have := nbeq_iff.1 q2; subst this
      rw [if_pos q2] at h
      cases hv with
      | bool b => exact .bool b
      | _ => cases h
    · rw [if_neg q2] at h
      cases hv with
      | int k n =>
        have h' : bb (Nat.beq c (Nat.add (kcode k) 1)) (eqI (wrapK (kcode k) n) n) false = true := h
        obtain ⟨h1, h2⟩ := bb_and h'
        have := nbeq_iff.1 h1; subst this
        rw [eqI_eq, wrapK_eq, beq_iff_eq] at h2
        exact .int (wf_of_wrap h2)
      | _ => cases h
theorem shOk_ok : ∀ (l : List Nat) (xs : List AV) (vs : List Value), (∀ c ∈ l, 1 ≤ c ∧ c < 16) → shOk xs (shCode l) = true → VRs μ xs vs → CellsV l vs
  | [], [], vs, _, _, hv => by cases hv; exact .nil
  | [], x :: xs, vs, _, h, hv => by
    have h' : bb (cellOk 0 x) (shOk xs 0) false = true := h
    have h0 := (bb_and h').1
    cases hv with
    | cons hv _ => exact absurd (cellOk_ok h0 hv) (fun q => by generalize hcc : (0 : Nat) = c at q; cases q <;> omega)
  | c :: l, [], vs, hd, h, hv => by
    have h' : Nat.beq (shCode (c :: l)) 0 = true := h
    have := nbeq_iff.1 h'
    have := (hd c (by simp)).1
    simp only [shCode] at *
    omega
  | c :: l, x :: xs, vs, hd, h, hv => by
    have h' : bb (cellOk (Nat.mod (shCode (c :: l)) 16) x) (shOk xs (Nat.div (shCode (c :: l)) 16)) false = true := h
    obtain ⟨h1, h2⟩ := bb_and h'
    have hc := (hd c (by simp)).2
    have e1 : Nat.mod (shCode (c :: l)) 16 = c := by show (c + 16 * shCode l) % 16 = c; omega
    have e2 : Nat.div (shCode (c :: l)) 16 = shCode l := by show (c + 16 * shCode l) / 16 = shCode l; omega
    rw [e1] at h1; rw [e2] at h2
    cases hv with
    | cons hv hs => exact .cons (cellOk_ok h1 hv) (shOk_ok l xs _ (fun c' hc' => hd c' (by simp [hc'])) h2 hs)
theorem mapM_digits {d : Nat} (ih : ∀ t l, shapeL tt d t = some l → ∀ c ∈ l, 1 ≤ c ∧ c < 16) : ∀ (fs : List Field) (ls : List (List Nat)), fs.mapM (fun f => shapeL tt d f.type) = some ls → ∀ c ∈ ls.flatten, 1 ≤ c ∧ c < 16
  | [], ls, h => by simp at h; subst h; simp
  | f :: fs, ls, h => by
    rw [List.mapM_cons] at h
    simp only [bind, Option.bind_eq_some_iff, pure, Option.some.injEq] at h
    obtain ⟨l1, h1, ls', h2, rfl⟩ := h
    intro c hc
    rw [List.flatten_cons, List.mem_append] at hc
    rcases hc with hc | hc
    · exact ih _ _ h1 c hc
    · exact mapM_digits ih fs ls' h2 c hc
theorem shapeL_digits : ∀ (d : Nat) (t : TypeId) (l : List Nat), shapeL tt d t = some l → ∀ c ∈ l, 1 ≤ c ∧ c < 16
  | 0, t, l, h => by simp [shapeL] at h
  | d + 1, t, l, h => by
    have IH := shapeL_digits d
    simp only [shapeL] at h
    obtain ⟨i, hi, h⟩ := bind_some2 h
    split at h
    · split at h
      · simp only [Option.some.injEq] at h; subst h; simp
      · rename_i kk _; simp only [Option.some.injEq] at h; subst h; cases kk <;> simp [kcode]
      · simp only [Option.some.injEq] at h; subst h; simp
      · obtain ⟨ls, h1, rfl⟩ := map_some2 h
        exact mapM_digits IH _ _ h1
      · obtain ⟨l1, h1, rfl⟩ := map_some2 h
        intro c hc
        obtain ⟨l2, q1, q2⟩ := List.mem_flatten.1 hc
        rw [List.mem_replicate] at q1
        rw [q1.2] at q2
        exact IH _ _ h1 c q2
      · cases h
    · cases h

/-! equality -/
theorem eqV_agg (x y : AV) (l m : List AV) : eqV (.oth 7 0 (x :: l) []) (.oth 7 0 (y :: m) []) = bb (eqV x y) (eqV (.oth 7 0 l []) (.oth 7 0 m [])) false := by
  have : ∀ A R, bb (bb A R false) true false = bb A (bb R true false) false := by intro A R; cases A <;> cases R <;> rfl
  exact this _ _
theorem eqV_cell {c : Nat} {x y : AV} {v u : Value} (hx : VR μ x v) (hy : VR μ y u) (hv : CellV c v) (hu : CellV c u) (nx : x ≠ .und) (ny : y ≠ .und) : eqV x y = true ↔ v = u := by
  cases hv with
  | @str s hs =>
    generalize hcc : (9 : Nat) = c at hu
    cases hu with
    | bool b => omega
    | @int k n hw => cases k <;> simp [kcode] at hcc
    | @str s' hs' =>
      cases hx with
      | und _ => exact absurd rfl nx
      | str _ =>
        cases hy with
        | und _ => exact absurd rfl ny
        | str _ =>
          show bb (Nat.beq s.size s'.size) (Nat.beq (strBits s.data.toList) (strBits s'.data.toList)) false = true ↔ _
          rw [sb_eq, beq_iff_eq, ByteArray.toList_eq, ByteArray.toList_eq]
          constructor
          · intro q
            have : s = s' := by cases s; cases s'; congr 1; exact Array.toList_inj.1 q
            rw [this]
          · intro q; injection q with q; rw [q]
  | bool b =>
    generalize hcc : (10 : Nat) = c at hu
    cases hu with
    | str _ => omega
    | @int k n hw => cases k <;> simp [kcode] at hcc
    | bool b' =>
      cases hx with
      | und _ => exact absurd rfl nx
      | bool _ =>
        cases hy with
        | und _ => exact absurd rfl ny
        | bool _ =>
          show bb b b' (notB b') = true ↔ _
          cases b <;> cases b' <;> simp [bb, notB]
  | @int k n hw =>
    generalize hcc : kcode k + 1 = c at hu
    cases hu with
    | str _ => cases k <;> simp [kcode] at hcc
    | bool _ => cases k <;> simp [kcode] at hcc
    | @int k' n' hw' =>
      have := kcode_inj (Nat.succ.inj hcc); subst this
      cases hx with
      | und _ => exact absurd rfl nx
      | int _ _ =>
        generalize hv : Value.int k n' = u at hy
        cases hy with
        | und _ => exact absurd rfl ny
        | int k2 n2 =>
          injection hv with q1 q2; subst q1; subst q2
          show bb (Nat.beq (kcode k) (kcode k)) (eqI n n') false = true ↔ _
          rw [nbeq_t, eqI_eq]
          show (n == n') = true ↔ _
          rw [beq_iff_eq]
          exact ⟨fun q => by rw [q], fun q => by injection q⟩
        | _ => cases hv
end Dv
/-! values without pointers: equality, keys, 3 -/
namespace Dv
open Go Go.RowKit
variable {S : Sites} {base : Nat} {μ μ' : Mu} {h : Heap} {w w' : World} {P : Program} {tt : TT} {ng : Nat} {kp : Nat → Bool} {nt : Nat} {M : List Nat} {e : Env} {a : Act} {k : K}

theorem cellOk_known {c : Nat} {x : AV} (h : cellOk c x = true) : x ≠ .und := by
  rintro rfl
  unfold cellOk at h
  rw [bb_eq, bb_eq] at h
  split at h
  · cases h
  · split at h <;> cases h
theorem shOk_known : ∀ (xs : List AV) (c : Nat), shOk xs c = true → ∀ x ∈ xs, x ≠ .und
  | [], c, _ => by simp
  | x :: xs, c, h => by
    have h' : bb (cellOk (Nat.mod c 16) x) (shOk xs (Nat.div c 16)) false = true := h
    obtain ⟨h1, h2⟩ := bb_and h'
    intro y hy
    rcases List.mem_cons.1 hy with rfl | hy
    · exact cellOk_known h1
    · exact shOk_known xs _ h2 y hy
theorem eqV_cells : ∀ (l : List Nat) (xs ys : List AV) (vs us : List Value), VRs μ xs vs → VRs μ ys us → CellsV l vs → CellsV l us → (∀ x ∈ xs, x ≠ .und) → (∀ y ∈ ys, y ≠ .und) → (eqV (.oth 7 0 xs []) (.oth 7 0 ys []) = true ↔ vs = us)
  | [], xs, ys, vs, us, hx, hy, hv, hu, _, _ => by
    cases hv; cases hu; cases hx; cases hy
    exact ⟨fun _ => rfl, fun _ => rfl⟩
  | c :: l, xs, ys, vs, us, hx, hy, hv, hu, kx, ky => by
    cases hv with
    | cons hv hvs =>
      cases hu with
      | cons hu hus =>
        cases hx with
        | cons hx hxs =>
          cases hy with
          | cons hy hys =>
            rw [eqV_agg, bb_eq]
            have h1 := eqV_cell hx hy hv hu (kx _ (by simp)) (ky _ (by simp))
            have h2 := eqV_cells l _ _ _ _ hxs hys hvs hus (fun x q => kx x (by simp [q])) (fun y q => ky y (by simp [q]))
            constructor
            · intro q
              split at q
              · rename_i q1
                rw [h1.1 q1, h2.1 q]
              · cases q
            · intro q
              injection q with q1 q2
              rw [if_pos (h1.2 q1)]
              exact h2.2 q2
theorem shape_desc (htt : TTOk P tt) {t : TypeId} {sh : Nat} (h : shapeOf tt t = some sh) : ∃ i l, tt t = some i ∧ shapeL tt 20 t = some l ∧ sh = 2 * shCode l + (if isAggD i.desc then 1 else 0) ∧ i.key = true := by
  unfold shapeOf at h
  obtain ⟨i, hi, h⟩ := bind_some2 h
  obtain ⟨l, hl, h⟩ := map_some2 h
  refine ⟨i, l, hi, hl, h, ?_⟩
  have hl' := hl
  rw [shapeL] at hl'
  obtain ⟨i', hi', hl'⟩ := bind_some2 hl'
  rw [hi] at hi'; cases hi'
  split at hl'
  · assumption
  · cases hl'
theorem shape_plain (htt : TTOk P tt) {t : TypeId} {i : TI} {l : List Nat} (hi : tt t = some i) (hl : shapeL tt 20 t = some l) (hd : isAggD i.desc = false) : (i.desc = .bool ∧ l = [10]) ∨ (∃ k, i.desc = .int k ∧ l = [kcode k + 1]) ∨ (i.desc = .string ∧ l = [9]) := by
  rw [shapeL] at hl
  obtain ⟨i', hi', hl⟩ := bind_some2 hl
  rw [hi] at hi'; cases hi'
  split at hl
  · split at hl
    · rename_i q; simp only [Option.some.injEq] at hl; exact .inl ⟨q, hl.symm⟩
    · rename_i kk q; simp only [Option.some.injEq] at hl; exact .inr (.inl ⟨kk, q, hl.symm⟩)
    · rename_i q; simp only [Option.some.injEq] at hl; exact .inr (.inr ⟨q, hl.symm⟩)
    · rename_i q; rw [q] at hd; cases hd
    · rename_i q; rw [q] at hd; cases hd
    · cases hl
  · cases hl
/-- what the look at a key tells -/
theorem keyOk_ok (htt : TTOk P tt) {t : TypeId} {sh : Nat} (h : shapeOf tt t = some sh) {x : AV} {v : Value} (hx : VR μ x v) (hk : keyOk sh x = true) : ∃ i l, tt t = some i ∧ i.key = true ∧ shapeL tt 20 t = some l ∧ CellsV l v.cells.toList ∧
    ((isAggD i.desc = true ∧ ∃ xs vs, x = .oth 7 0 xs [] ∧ v = .agg vs ∧ VRs μ xs vs.toList ∧ (∀ y ∈ xs, y ≠ .und)) ∨ (isAggD i.desc = false ∧ x ≠ .und ∧ v.cells = #[v])) := by
  obtain ⟨i, l, hi, hl, hs, hkey⟩ := shape_desc htt h
  refine ⟨i, l, hi, hkey, hl, ?_⟩
  unfold keyOk at hk
  rw [bb_eq] at hk
  have hdig := shapeL_digits 20 t l hl
  cases hd : isAggD i.desc with
  | true =>
    rw [hd] at hs
    have e1 : Nat.mod sh 2 = 1 := by show sh % 2 = 1; simp only [if_true] at hs; omega
    have e2 : Nat.div sh 2 = shCode l := by show sh / 2 = shCode l; simp only [if_true] at hs; omega
    rw [e1, e2, if_pos (show Nat.beq 1 1 = true from rfl)] at hk
    cases hx with
    | agg hxs h1 =>
      rename_i xs vs
      have hk' : bb (Nat.beq 7 7) (shOk xs (shCode l)) false = true := hk
      have hk2 := (bb_and hk').2
      exact ⟨shOk_ok l xs vs hdig hk2 hxs, .inl ⟨rfl, xs, vs.toArray, rfl, rfl, hxs, shOk_known xs _ hk2⟩⟩
    | _ => cases hk
  | false =>
    rw [hd] at hs
    have e1 : Nat.mod sh 2 = 0 := by show sh % 2 = 0; simp only [Bool.false_eq_true, if_false] at hs; omega
    have e2 : Nat.div sh 2 = shCode l := by show sh / 2 = shCode l; simp only [Bool.false_eq_true, if_false] at hs; omega
    rw [e1, e2, if_neg (by decide)] at hk
    have hc := shOk_ok l [x] [v] hdig hk (.cons hx .nil)
    have hkn := shOk_known [x] _ hk x (by simp)
    have hcells : v.cells = #[v] := by
      cases hc with
      | cons hv _ => cases hv <;> rfl
    exact ⟨by rw [hcells]; exact hc, .inr ⟨rfl, hkn, hcells⟩⟩
/-- two that were looked at: the same just if they are said to be -/
theorem eqV_iff (htt : TTOk P tt) {t : TypeId} {sh : Nat} (h : shapeOf tt t = some sh) {x y : AV} {v u : Value} (hx : VR μ x v) (hy : VR μ y u) (kx : keyOk sh x = true) (ky : keyOk sh y = true) : eqV x y = true ↔ v = u := by
  obtain ⟨i, l, hi, _, hl, hc, hcase⟩ := keyOk_ok htt h hx kx
  obtain ⟨i', l', hi', _, hl', hc', hcase'⟩ := keyOk_ok htt h hy ky
  rw [hi] at hi'; cases hi'
  rw [hl] at hl'; cases hl'
  rcases hcase with ⟨d1, xs, vs, rfl, rfl, r1, r2⟩ | ⟨d1, r1, r2⟩
  · rcases hcase' with ⟨_, ys, us, rfl, rfl, s1, s2⟩ | ⟨d2, _⟩
    · rw [eqV_cells l xs ys vs.toList us.toList r1 s1 hc hc' r2 s2]
      exact ⟨fun q => by rw [Array.toList_inj.1 q], fun q => by injection q with q; rw [q]⟩
    · rw [d1] at d2; cases d2
  · rcases hcase' with ⟨d2, _⟩ | ⟨_, s1, s2⟩
    · rw [d1] at d2; cases d2
    · rw [r2] at hc; rw [s2] at hc'
      cases hc with
      | cons hv _ =>
        cases hc' with
        | cons hu _ => exact eqV_cell hx hy hv hu r1 s1
theorem keyOk_lits (htt : TTOk P tt) (hbig : 20 ≤ P.types.size + 1) {t : TypeId} {sh : Nat} (h : shapeOf tt t = some sh) {x : AV} {v : Value} (hx : VR μ x v) (hk : keyOk sh x = true) :
    ∃ ls, P.keyLits (P.types.size + 1) t v.cells.toList = some ls ∧ v.formed P t = true ∧ ∃ l, keyOf P t v = some l := by
  obtain ⟨i, l, hi, hkey, hl, hc, hcase⟩ := keyOk_ok htt h hx hk
  have ht := htt t i hi
  obtain ⟨g1, g2⟩ := shape_ok htt 20 t l hl
  obtain ⟨ls, hls⟩ := g2 (P.types.size + 1) hbig _ hc
  have hu := ht.und
  obtain ⟨k1, k2⟩ := ht.key hkey
  rcases hcase with ⟨d1, xs, vs, rfl, rfl, r1, r2⟩ | ⟨d1, r1, r2⟩
  · have hlen : vs.size = P.cellsOf t := by rw [← g1, ← hc.length]; rfl
    have hf : (Value.agg vs).formed P t = true := by
      unfold Value.formed
      rw [hu]
      cases hd : i.desc <;> rw [hd] at d1 <;> first | (cases d1; done) | (simp [hlen]; done)
    refine ⟨ls, hls, hf, ?_⟩
    unfold keyOf
    rw [hu]
    cases hd : i.desc <;> rw [hd] at d1 <;> first | (cases d1; done) | (refine ⟨.string (keyBytes ls), ?_⟩; simp only [Program.keyType, k1, hf, Bool.and_self, if_true, hls, Option.map_some]; done)
  · rw [r2] at hc
    rcases shape_plain htt hi hl d1 with ⟨hd, rfl⟩ | ⟨kk, hd, rfl⟩ | ⟨hd, rfl⟩
    · generalize hcc : (10 : Nat) = c at hc
      cases hc with
      | cons hv _ => cases hv with
        | bool b => exact ⟨ls, hls, by simp [Value.formed, hu, hd], .bool b, by simp [keyOf, mapKey, hu, hd]⟩
        | str _ => omega
        | @int k n hw => cases k <;> simp [kcode] at hcc
    · generalize hcc : kcode kk + 1 = c at hc
      cases hc with
      | cons hv _ => cases hv with
        | bool b => cases kk <;> simp [kcode] at hcc
        | str _ => cases kk <;> simp [kcode] at hcc
        | @int k n hw =>
          have := kcode_inj (Nat.succ.inj hcc); subst this
          exact ⟨ls, hls, by simp [Value.formed, hu, hd], .int kk n, by simp [keyOf, mapKey, hu, hd, hw]⟩
    · generalize hcc : (9 : Nat) = c at hc
      cases hc with
      | cons hv _ => cases hv with
        | bool b => omega
        | @str s hs => exact ⟨ls, hls, by simp [Value.formed, hu, hd], .string s.data.toList, by simp [keyOf, mapKey, hu, hd, hs]⟩
        | @int k n hw => cases k <;> simp [kcode] at hcc
theorem keyed_ok (htt : TTOk P tt) (hbig : P.types.size + 2 ≤ 10000) {t : TypeId} {sh : Nat} (h : shapeOf tt t = some sh) : Go.Maps.Keyed P t := by
  obtain ⟨i, l, hi, hl, hs, hkey⟩ := shape_desc htt h
  have ht := htt t i hi
  have hu := ht.und
  obtain ⟨k1, k2⟩ := ht.key hkey
  cases hd : isAggD i.desc with
  | true =>
    refine Go.Maps.Keyed.of_law (deep_law (m := P.types.size + 1) (by omega) k1 k2 ?_)
    rw [hu]
    cases hq : i.desc <;> rw [hq] at hd <;> first | rfl | cases hd
  | false =>
    rcases shape_plain htt hi hl hd with ⟨hd, rfl⟩ | ⟨kk, hd, rfl⟩ | ⟨hd, rfl⟩
    · exact Go.Maps.bool_keyed (by rw [hu, hd])
    · exact Go.Maps.int_keyed (by rw [hu, hd])
    · exact Go.Maps.string_keyed (by rw [hu, hd])
end Dv
/-! == on structs and arrays -/
namespace Dv
open Go Go.RowKit
variable {S : Sites} {base : Nat} {μ μ' : Mu} {h : Heap} {w w' : World} {P : Program} {tt : TT} {ng : Nat} {kp : Nat → Bool} {nt : Nat} {M : List Nat} {e : Env} {a : Act} {k : K}

theorem guard_flat : ∀ (m d : Nat) (t : TypeId), m ≤ d → P.keyTypeAt m t = true → P.eqGuardType d t = false
  | 0, d, t, _, h => by simp [Program.keyTypeAt] at h
  | m + 1, 0, t, hd, h => by omega
  | m + 1, d + 1, t, hd, h => by
    unfold Program.keyTypeAt at h
    unfold Program.eqGuardType
    cases hu : P.underlying t with
    | none => rfl
    | some dd =>
      rw [hu] at h
      cases dd <;> first | rfl | (cases h; done) | skip
      · simp only at h ⊢
        exact guard_flat m d _ (by omega) h
      · simp only [Bool.and_eq_true] at h ⊢
        have h1 := h.1.1
        rw [Array.all_eq_true_iff_forall_mem] at h1
        rw [Bool.eq_false_iff]
        intro q
        rw [Array.any_eq_true] at q
        obtain ⟨i, hi, q⟩ := q
        rw [Bool.and_eq_true] at q
        have := h1 _ (Array.getElem_mem hi)
        rw [Bool.and_eq_true] at this
        rw [guard_flat m d _ (by omega) this.2] at q
        cases q.2
theorem ag_ok (htt : TTOk P tt) (h20 : 20 ≤ P.types.size + 1) (hbig : P.types.size + 2 ≤ 10000) : AgOk P tt := by
  intro μ h k e pos t i X Y x y cx cy hi hd sh hs hne hx hy
  unfold oAg at hne
  obtain ⟨h1, h2⟩ := bo_ne' hne
  obtain ⟨kx, ky⟩ := bb_and h1
  obtain ⟨la, a1, a2, _⟩ := keyOk_lits htt h20 hs hx kx
  obtain ⟨lb, b1, b2, _⟩ := keyOk_lits htt h20 hs hy ky
  obtain ⟨i1, l1, hi1, hkey, _, _, hcx⟩ := keyOk_ok htt hs hx kx
  obtain ⟨i2, l2, hi2, _, _, _, hcy⟩ := keyOk_ok htt hs hy ky
  rw [hi] at hi1 hi2; cases hi1; cases hi2
  obtain ⟨k1, k2⟩ := (htt t i hi).key hkey
  have heq := eqV_iff htt hs hx hy kx ky
  rcases hcx with ⟨_, xs, vs, rx, rfl, r1, r2⟩ | ⟨d1, _⟩
  · rcases hcy with ⟨_, ys, us, ry, rfl, s1, s2⟩ | ⟨d1, _⟩
    · have hE := run_equalIn_deep (P := P) (10000 - (P.types.size + 1)) (P.types.size + 1) t k1
      rw [show 10000 - (P.types.size + 1) + (P.types.size + 1) = 10000 from by omega] at hE
      have hr : ∀ w, (Op.equalIn 10000 t (.agg vs) (.agg us)).run P w = .ok (eqV (x e) (y e)) w := by
        intro w
        obtain ⟨r, q1, q2⟩ := hE w _ _ _ _ la lb a2 b2 a1 b1
        rw [q1]
        have : r = eqV (x e) (y e) := by
          rw [Bool.eq_iff_iff, q2, heq]
          constructor
          · intro q
            have c1 := cells_of_lits (P.types.size + 1) t k2 _ _ _ a1
            have c2 := cells_of_lits (P.types.size + 1) t k2 _ _ _ b1
            rw [q] at c1
            have : vs.toList = us.toList := by
              show (Value.agg vs).cells.toList = (Value.agg us).cells.toList
              rw [c1, c2]
            rw [Array.toList_inj.1 this]
          · intro q
            rw [q] at a1
            rw [a1] at b1
            injection b1
        rw [this]
      have hg : P.eqGuardType P.depth t = false := guard_flat (P.types.size + 1) P.depth t (by unfold Program.depth; omega) k1
      refine ⟨.bool (if pos then eqV (x e) (y e) else !eqV (x e) (y e)), .bool (if pos then eqV (x e) (y e) else !eqV (x e) (y e)), fun h k => ?_, .bool _, valS_run fun w => ?_⟩
      · unfold oAg
        rw [h1]
        show k (.bool (bb (eqV (x e) (y e)) pos (notB pos))) h = _
        cases eqV (x e) (y e) <;> cases pos <;> rfl
      · have hgr := fun op => run_eqGuard_agg (P := P) w op t X Y vs us hg
        cases pos
        · simp only [binS, Bool.false_eq_true, if_false, Sem.run_bind, hgr, Result.andThen_ok, run_neq_struct, hr]
        · simp only [binS, if_true, Sem.run_bind, hgr, Result.andThen_ok, run_eql_struct, hr]
    · rw [hd] at d1; cases d1
  · rw [hd] at d1; cases d1
end Dv
/-! stores, new blocks -/
namespace Dv
open Go Go.RowKit
variable {S : Sites} {base : Nat} {μ μ' : Mu} {h : Heap} {w w' : World} {P : Program} {tt : TT} {ng : Nat} {kp : Nat → Bool} {nt : Nat} {M : List Nat} {e : Env} {a : Act} {k : K}

theorem KeepD.setCells (B : Nat) (vs : List Value) : ∀ (w : World) (o : Nat), KeepD w (w.setCells B o vs) := by
  induction vs with
  | nil => intro w o; exact KeepD.refl w
  | cons v r ih =>
    intro w o
    refine KeepD.trans ?_ (ih (w.setCell ⟨B, o, none⟩ v) (o + 1))
    intro b ds hb
    simp only [World.setCell, Array.getElem?_modify]
    by_cases q : B = b
    · subst q; rw [if_pos rfl, hb]; rfl
    · rw [if_neg q]; exact hb
theorem KeepD.alloc (w : World) (o : Obj) : KeepD w (w.alloc o) := by
  intro b ds hb
  have hlt := (Array.getElem?_eq_some_iff.1 hb).1
  rw [Below.heap_alloc w o b hlt]; exact hb
theorem famWr_any {b kd fm : Nat} {k : Heap → Out} {n : Nat} {c : CT} (ho : h.get b = .cells n c kd fm) (hne : famWr h b kd fm k ≠ .bad) : ∃ h1, ∀ k' : Heap → Out, famWr h b kd fm k' = k' h1 := by
  unfold famWr at hne ⊢
  rw [bo_eq] at hne
  by_cases q0 : Nat.beq kd 0 = true
  · exact ⟨h, fun k' => by rw [bo_eq, if_pos q0]⟩
  · rw [if_neg q0, bo_eq] at hne
    by_cases q1 : Nat.beq kd 1 = true
    · rw [if_pos q1] at hne
      unfold famWr1 at hne
      obtain ⟨ow, fl, tp, h1, h2⟩ := onFam_ne hne
      rw [h2] at hne
      obtain ⟨h3, h4⟩ := bo_ne' hne
      have e1 : ∀ k' : Heap → Out, famWr1 h b fm k' = bo (bb (Nat.beq b ow) (bb (Nat.beq b tp) (Nat.ble tp fl) false) false) (k' h) (h.on fun nx t => k' (.mk nx (t.set fm (.fam b nx b)))) := by
        intro k'
        unfold famWr1
        rw [h1]
        show bo (bb (Nat.beq b ow) true (Nat.ble fl b)) _ .bad = _
        rw [h3]; rfl
      cases h with
      | mk nx t =>
        by_cases q : bb (Nat.beq b ow) (bb (Nat.beq b tp) (Nat.ble tp fl) false) false = true
        · exact ⟨.mk nx t, fun k' => by rw [bo_eq, if_neg q0, bo_eq, if_pos q1, e1, bo_eq, if_pos q]⟩
        · exact ⟨.mk nx (t.set fm (.fam b nx b)), fun k' => by rw [bo_eq, if_neg q0, bo_eq, if_pos q1, e1, bo_eq, if_neg q]; rfl⟩
    · rw [if_neg q1] at hne; exact absurd rfl hne
/-- a store's heap does not hang on what comes behind it -/
theorem hStore1_ex {b o : Nat} {x : AV} {k : Heap → Out} (hne : hStore1 h b o x k ≠ .bad) : ∃ h', ∀ k' : Heap → Out, hStore1 h b o x k' = k' h' := by
  unfold hStore1 at hne ⊢
  obtain ⟨n, c, kd, fm, ho, e1⟩ := onCells_ne hne
  rw [e1] at hne
  obtain ⟨h3, h4⟩ := bo_ne' hne
  rw [h4] at hne
  obtain ⟨h1, hk⟩ := famWr_any ho hne
  obtain ⟨nn, t, he, hu⟩ := upd_eq h1 b (.cells n (c.set o x) kd fm) k
  refine ⟨.mk nn (t.set b (.cells n (c.set o x) kd fm)), fun k' => ?_⟩
  rw [ho]
  show bo (Nat.blt o n) _ .bad = _
  rw [h3]
  show famWr h b kd fm _ = _
  rw [hk, he]; rfl
theorem hStore_ex {b o : Nat} {vs : List AV} {k : Heap → Out} (hne : hStore h b o vs k ≠ .bad) : ∃ h', ∀ k' : Heap → Out, hStore h b o vs k' = k' h' := by
  unfold hStore at hne ⊢
  obtain ⟨n, c, kd, fm, ho, e1⟩ := onCells_ne hne
  rw [e1] at hne
  obtain ⟨h3, h4⟩ := bo_ne' hne
  rw [h4] at hne
  obtain ⟨h1, hk⟩ := famWr_any ho hne
  obtain ⟨nn, t, he, hu⟩ := upd_eq h1 b (.cells n (setAll n c o vs) kd fm) k
  refine ⟨.mk nn (t.set b (.cells n (setAll n c o vs) kd fm)), fun k' => ?_⟩
  rw [ho]
  show bo (Nat.ble (Nat.add o (lenL vs)) n) _ .bad = _
  rw [h3]
  show famWr h b kd fm _ = _
  rw [hk, he]; rfl
theorem e_store1 (hr : HR S base μ h w) {t : TypeId} {i : TI} (ht : TOk P t i) (hs : i.size = 1) {x y : Rd} {cx cy : Value} (hne : oStore1 x y e h k ≠ .bad) (hx : VR μ (x e) cx) (hy : VR μ (y e) cy) :
    EffR P S base μ h w (oStore1 x y) e (skipS (Instr.storeAt t cx cy)) := by
  unfold oStore1 at hne
  obtain ⟨b, o, e1, e2⟩ := onPtr_ne hne
  rw [e2] at hne
  obtain ⟨c1, c2⟩ := ck1_ne hne
  rw [c1] at hne
  rw [e1] at hx
  obtain ⟨L, h5, rfl⟩ := hx.ptr_inv
  obtain ⟨o1, o2⟩ := hy.cell7 c2
  obtain ⟨h', any⟩ := hStore1_ex hne
  obtain ⟨h'', q1, q2, q3, q4, q5, q6⟩ := hr.st1 (k := fun h => .nrm e h) h5 (by rw [any]; exact fun q => by cases q) hy o1
  rw [any] at q1
  injection q1 with _ q1
  subst q1
  refine ⟨μ, .tup [], h', undef, w.setCells L.blk (L.off + o) [cy], fun k => ?_, ⟨q2, Mu.le_refl _, by omega, fun _ _ q => q, setCells_below q4 _ _ _, KeepD.setCells _ _ _ _⟩, .tup .nil, .inr ⟨skipS_run1 ?_, rfl⟩⟩
  · unfold oStore1
    rw [e1]
    show ck1 (y e) (hStore1 h b o (y e) (k (.tup []))) = _
    rw [c1, any]
  · have hc := run_storeCells_cells (P := P) L.blk (L.off + o) [cy] 0 w (fun j hj => by
        have : j = 0 := by simp at hj; exact hj
        subst this; exact q5) (fun j hj => by
        have : j = 0 := by simp at hj; exact hj
        subst this; exact q6) (fun v hv => by simp at hv; subst hv; exact o1)
    simp [Instr.storeAt, Instr.sureAddr, storeVar, run_size w ht, hs, o2] 
    exact hc
theorem e_storeN (hr : HR S base μ h w) {t : TypeId} {i : TI} (ht : TOk P t i) {x y : Rd} {cx cy : Value} (hne : oStoreN i.size x y e h k ≠ .bad) (hx : VR μ (x e) cx) (hy : VR μ (y e) cy) :
    EffR P S base μ h w (oStoreN i.size x y) e (skipS (Instr.storeAt t cx cy)) := by
  unfold oStoreN at hne
  obtain ⟨b, o, e1, e2⟩ := onPtr_ne hne
  rw [e2] at hne
  obtain ⟨m, vs, l', e3, e4⟩ := onTag_ne hne
  rw [e4] at hne
  obtain ⟨n1, n2⟩ := bo_ne' hne
  rw [n2] at hne
  have hlen := nbeq_iff.1 n1
  rw [lenL_eq] at hlen
  rw [e1] at hx; rw [e3] at hy
  obtain ⟨L, h5, rfl⟩ := hx.ptr_inv
  obtain ⟨cs, g1, g2, rfl⟩ := hy.agg_inv
  have hl2 := g1.length
  obtain ⟨h', any⟩ := hStore_ex hne
  obtain ⟨h'', q1, q2, q3, q4, q5⟩ := hr.stN (k := fun h => .nrm e h) h5 (by rw [any]; exact fun q => by cases q) g1 g2
  rw [any] at q1
  injection q1 with _ q1
  subst q1
  refine ⟨μ, .tup [], h', undef, w.setCells L.blk (L.off + o) cs, fun k => ?_, ⟨q2, Mu.le_refl _, by omega, fun _ _ q => q, setCells_below q4 _ _ _, KeepD.setCells _ _ _ _⟩, .tup .nil, .inr ⟨skipS_run1 ?_, rfl⟩⟩
  · unfold oStoreN
    rw [e1]
    show (y e).onTag 7 _ _ = _
    rw [e3]
    show bo (Nat.beq (lenL vs) i.size) (hStore h b o vs (k (.tup []))) .bad = _
    rw [n1, any]; rfl
  · have hc := run_storeCells_cells (P := P) L.blk (L.off + o) cs 0 w (fun j hj => (q5 j hj).1) (fun j hj => (q5 j hj).2) g2
    have hsz : (Value.agg cs.toArray).cells.size = i.size := by show cs.toArray.size = _; simp; omega
    simp [Instr.storeAt, Instr.sureAddr, storeVar, run_size w ht, hsz]
    exact hc
end Dv
/-! new blocks -/
namespace Dv
open Go Go.RowKit
variable {S : Sites} {base : Nat} {μ μ' : Mu} {h : Heap} {w w' : World} {P : Program} {tt : TT} {ng : Nat} {kp : Nat → Bool} {nt : Nat} {M : List Nat} {e : Env} {a : Act} {k : K}

/-- a new block of its own, of known cells -/
theorem HR.made (hr : HR S base μ h w) {l : List AV} {l' : List Value} {k : Nat → Heap → Out} (hne : h.new (mkCells l) k ≠ .bad) (hv : VRs μ l l') (h1 : ∀ v ∈ l', v.oneCell' = true) (t0 : TypeId) :
    ∃ h' y, (∀ k' : Nat → Heap → Out, h.new (mkCells l) k' = k' y h') ∧ Ext S base μ h w (μ.set y ⟨w.heap.size, 0, l'.length, 0⟩) h' (w.alloc (.cells l'.toArray t0)) := by
  obtain ⟨n, t, he, hlt, e⟩ := new_ne hne
  have hx : h.nx = n := by rw [he]; rfl
  obtain ⟨b1, b2, b3, b4⟩ := hr.new he hlt (mkCells l)
  refine ⟨.mk (n + 1) (t.set n (mkCells l)), n, fun k' => ?_, ?_, Mu.le_set b3 _, by rw [hx]; show n ≤ n + 1; omega, Mu.set_fresh (by omega), (Below.refl base w).alloc hr.bs _, KeepD.alloc _ _⟩
  · rw [he]
    show bo (Nat.blt n 262143) (k' n _) .bad = _
    rw [blt_iff.2 hlt]; rfl
  have hle := Mu.le_set b3 ⟨w.heap.size, 0, l'.length, 0⟩
  refine b1.place (by show n < n + 1; omega) b3 _ rfl ?_ ?_ ?_
  · rw [b2]
    exact ORel_made rfl rfl (by simp) hr.bs (hv.mono hle) h1 (fun i hi => by simp) (by simp)
  · intro n' c' kd fm q
    rw [b2] at q
    unfold mkCells at q
    cases q
    show 0 < n + 1; omega
  · intro n' c' fm ow fl tp q1 q2
    rw [b2] at q1
    unfold mkCells at q1
    cases q1
theorem e_alloc (hr : HR S base μ h w) {t : TypeId} {i : TI} (ht : TOk P t i) (hne : oAlloc (mkCells i.zero) e h k ≠ .bad) : EffR P S base μ h w (oAlloc (mkCells i.zero)) e (valS (Instr.alloc t true (.tuple #[]))) := by
  unfold oAlloc at hne
  obtain ⟨f, i1, i2, i3, z, i4, i5, i6, i7, _⟩ := ht.info
  obtain ⟨h', y, q1, q2⟩ := hr.made hne (i5 μ) i6 t
  refine ⟨_, .ptr y 0, h', .pointer (some ⟨w.heap.size, 0, none⟩), _, fun k => by unfold oAlloc; rw [q1], q2, .ptr (Mu.set_self _ _ _), .inl (valS_run1 ?_)⟩
  simp [Instr.alloc, zeroValue, typeInfo, i1, i4, newVar, newRow]
theorem e_box (hr : HR S base μ h w) {t : TypeId} {x : Rd} {cx : Value} (hne : oBox x e h k ≠ .bad) (hx : VR μ (x e) cx) : EffR P S base μ h w (oBox x) e (valS (Instr.box t cx)) := by
  unfold oBox at hne
  obtain ⟨c1, c2⟩ := ckU_ne hne
  rw [c1] at hne
  obtain ⟨d1, d2⟩ := hx.cells8 c2
  obtain ⟨h', y, q1, q2⟩ := hr.made hne d1 d2 t
  refine ⟨_, .ptr y 0, h', .pointer (some ⟨w.heap.size, 0, none⟩), _, fun k => by unfold oBox; rw [c1, q1], q2, .ptr (Mu.set_self _ _ _), .inl (valS_run1 ?_)⟩
  simp [Instr.box, newVar, newRow]
theorem repZ_length (z : List AV) : ∀ n, (repZ z n).length = n * z.length
  | 0 => by simp [repZ]
  | n + 1 => by rw [repZ, List.length_append, repZ_length z n, Nat.succ_mul]; omega
def repV (z : List Value) : Nat → List Value
  | 0 => []
  | n + 1 => z ++ repV z n
theorem repV_length (z : List Value) : ∀ n, (repV z n).length = n * z.length
  | 0 => by simp [repV]
  | n + 1 => by rw [repV, List.length_append, repV_length z n, Nat.succ_mul]; omega
theorem repV_get (z : List Value) : ∀ (n i : Nat), i < n * z.length → (repV z n)[i]? = z[i % z.length]?
  | 0, i, h => by simp at h
  | n + 1, i, h => by
    rw [repV]
    rw [Nat.succ_mul] at h
    by_cases q : i < z.length
    · rw [List.getElem?_append_left q, Nat.mod_eq_of_lt q]
    · rw [List.getElem?_append_right (by omega), repV_get z n (i - z.length) (by omega), Nat.mod_eq_sub_mod (by omega : i ≥ z.length)]
theorem VRs.rep {z : List AV} {z' : List Value} (h : VRs μ z z') : ∀ n, VRs μ (repZ z n) (repV z' n)
  | 0 => .nil
  | n + 1 => h.append (VRs.rep h n)
theorem repV_one {z : List Value} (h : ∀ v ∈ z, v.oneCell' = true) : ∀ n, ∀ v ∈ repV z n, v.oneCell' = true
  | 0, v, hv => by cases hv
  | n + 1, v, hv => by
    rw [repV, List.mem_append] at hv
    rcases hv with hv | hv
    · exact h v hv
    · exact repV_one h n v hv
theorem range_rep (z : Array Value) (n : Nat) : (Array.range (n * z.size)).map (fun i => z[i % z.size]!) = (repV z.toList n).toArray := by
  apply Array.ext'
  apply List.ext_getElem?
  intro i
  simp only [Array.toList_map, Array.toList_range, List.getElem?_map]
  by_cases hi : i < n * z.size
  · have hz : 0 < z.size := by rcases Nat.eq_zero_or_pos z.size with q | q; (rw [q] at hi; omega); exact q
    have hm : i % z.size < z.size := Nat.mod_lt _ hz
    have := repV_get z.toList n i (by simpa using hi)
    rw [this]
    simp [List.getElem?_range hi, hm]
  · rw [List.getElem?_eq_none (by simpa using hi), List.getElem?_eq_none (by rw [repV_length]; simpa using hi)]
    rfl
theorem e_buildSlice (htt : TTOk P tt) (ha : AR ng kp nt μ M e a) (hr : HR S base μ h w) {t el : TypeId} {i ie : TI} (ht : TOk P t i) (hd : i.desc = .slice el) (hte : TOk P el ie) {len : Nat} (hlen : len * ie.size ≤ 100000) {prt : Array (Nat × Operand)} {ps : List (Nat × Nat × OpdS)}
    (hp : parts ng M (fun j => some (j * ie.size, ie.size)) (len * ie.size) prt.toList = some ps) (hne : oBuildSlice len (repZ ie.zero len) (rdP ps) e h k ≠ .bad) :
    EffR P S base μ h w (oBuildSlice len (repZ ie.zero len) (rdP ps)) e (valS (Instr.buildSlice t len (prt.map fun (j, x) => (j, a.eval x)))) := by
  unfold oBuildSlice at hne
  obtain ⟨f, i1, i2, i3, z, i4, i5, i6, i7, _⟩ := hte.info
  have hz7 : z.cells.toList.length = ie.size := i7
  obtain ⟨cs', r1, r2, r3, r4, r5⟩ := fill_ok ha (places' := fun j => some (j * ie.size, ie.size)) (fun _ _ q => q) prt.toList ps hp (repZ ie.zero len) (repV z.cells.toList len).toArray _ ((i5 μ).rep len) (by simp [repV_length, i7]) (by simpa using repV_one i6 len) hne
  rw [r1] at hne
  obtain ⟨h', y, q1, q2⟩ := hr.made hne r3 r5 el
  have hcl : cs'.toList.length = cs'.size := rfl
  refine ⟨_, .slice y 0 len len true, h', .slice (some ⟨w.heap.size, 0, none⟩) len len, _, fun k => by unfold oBuildSlice; rw [r1, q1], q2, .slEx (Mu.set_self _ _ _) (fun _ => rfl) (Nat.le_refl _), .inl (valS_run1 ?_)⟩
  have hu := run_und w ht.und
  rw [hd] at hu
  have hsz := run_size w hte
  have hzv : (zeroValue el).run P w = .ok z w := by simp [zeroValue, typeInfo, i1, i4]
  have e1 : (Array.map (fun (j, x) => (j, a.eval x)) prt).toList = prt.toList.map fun p => (p.1, a.eval p.2) := by simp
  have hbig : ¬ (len * ie.size > 2 ^ 24) := by omega
  have hrow : (Array.range (len * ie.size)).map (fun i => z.cells[i % z.cells.size]!) = (repV z.cells.toList len).toArray := by rw [← i7]; exact range_rep z.cells len
  unfold Instr.buildSlice
  by_cases h0 : len * ie.size = 0
  · have hnil : (repV z.cells.toList len).toArray = #[] := by
      have : (repV z.cells.toList len).length = 0 := by rw [repV_length, hz7, h0]
      rw [List.eq_nil_of_length_eq_zero this]
    rw [hnil] at r2
    have hr0 : ∀ zz : Array Value, (Array.range (len * ie.size)).map (fun i => zz[i % zz.size]!) = #[] := by intro zz; rw [h0]; apply Array.ext'; simp
    simp only [Sem.run_bind, hu, Result.andThen_ok, hsz, if_neg hbig, if_pos h0, Sem.run_pure]
    rw [hr0, e1, r2]
    simp [newRow]
  · simp only [Sem.run_bind, hu, Result.andThen_ok, hsz, if_neg hbig, if_neg h0, Sem.run_pure, hzv]
    rw [hrow, e1, r2]
    simp [newRow]
end Dv
/-! maps -/
namespace Dv
open Go Go.RowKit
variable {S : Sites} {base : Nat} {μ μ' : Mu} {h : Heap} {w w' : World} {P : Program} {tt : TT} {ng : Nat} {kp : Nat → Bool} {nt : Nat} {M : List Nat} {e : Env} {a : Act} {k : K}

/-- a map or a loop -/
def AObj.own : AObj → Prop
  | .map _ _ => True
  | .loop _ _ _ _ _ _ => True
  | _ => False
theorem HR.objSet (hr : HR S base μ h w) {t : HT} (ht : h = .mk h.nx t) {b : Nat} {L : Loc} (hb : μ b = some L) (ho : (h.get b).own) {o' : AObj} (ho' : o'.own) (hsz : w'.heap.size = w.heap.size)
    (hoth : ∀ k, k ≠ L.blk → w'.heap[k]? = w.heap[k]?) (hrel : ORel S base μ w' o' L) : HR S base μ (.mk h.nx (t.set b o')) w' := by
  have hc := hr.cap
  have hbx := hr.dom b L hb
  have hget : ∀ x, x < 262144 → (Heap.mk h.nx (t.set b o')).get x = if b = x then o' else h.get x := fun x hx => hr.get_set ht _ (by omega) hx _
  have hlt : ∀ x Lx, μ x = some Lx → x < 262144 := fun x Lx hx => by have := (hr.dom x Lx hx).1; omega
  have hrec : ∀ g x y z, g < 262144 → ((Heap.mk h.nx (t.set b o')).get g = .fam x y z ↔ h.get g = .fam x y z) := by
    intro g x y z hg
    rw [hget g hg]
    by_cases he : b = g
    · subst he; rw [if_pos rfl]
      constructor <;> intro q
      · rw [q] at ho'; exact ho'.elim
      · rw [q] at ho; exact ho.elim
    · rw [if_neg he]
  have alO : ∀ {g : Heap} {x : Nat}, (g.get x).own → Alive g x := by
    intro g x q
    unfold Alive
    cases hq : g.get x <;> rw [hq] at q <;> first | exact q.elim | trivial
  have hal : ∀ x Lx, μ x = some Lx → (Alive (Heap.mk h.nx (t.set b o')) x ↔ Alive h x) := by
    intro x Lx hx
    by_cases he : b = x
    · subst he
      exact ⟨fun _ => alO ho, fun _ => alO (by rw [hget _ (hlt _ Lx hx), if_pos rfl]; exact ho')⟩
    · unfold Alive
      rw [hget x (hlt x Lx hx), if_neg he]
      cases hox : h.get x with
      | cells n1 c1 k1 g1 =>
        have := hr.fmOk x Lx n1 c1 k1 g1 hx hox
        simp only [hrec g1 _ _ _ (show g1 < 262144 by omega)]
      | _ => exact Iff.rfl
  have hA := alO ho
  have notAp : ∀ o : AObj, ¬ Apart o (h.get b) ∧ ¬ Apart (h.get b) o := by
    intro o
    constructor
    · rintro (⟨_, q⟩ | ⟨n, c, f, n', c', _, q⟩)
      · cases hq : h.get b <;> rw [hq] at ho q <;> first | exact ho.elim | exact q.elim
      · rw [q] at ho; exact ho.elim
    · rintro (⟨q, _⟩ | ⟨n, c, f, n', c', q, _⟩)
      · cases hq : h.get b <;> rw [hq] at ho q <;> first | exact ho.elim | exact q.elim
      · rw [q] at ho; exact ho.elim
  have alone : ∀ x Lx, μ x = some Lx → Alive h x → x ≠ b → Lx.blk ≠ L.blk := fun x Lx hx hAx hne hblk => (notAp _).1 (hr.apart x b Lx L hx hb hne hblk hAx hA)
  obtain ⟨t', ht', hp⟩ := hr.perf
  have e : t' = t := by rw [ht'] at ht; injection ht
  subst e
  have noC : ∀ {x : Nat} {n1 : Nat} {c1 : CT} {k1 f1 : Nat}, x < 262144 → (Heap.mk h.nx (t'.set b o')).get x = .cells n1 c1 k1 f1 → h.get x = .cells n1 c1 k1 f1 := by
    intro x n1 c1 k1 f1 hx q
    rw [hget x hx] at q
    by_cases he : b = x
    · rw [if_pos he] at q; rw [q] at ho'; exact ho'.elim
    · rw [if_neg he] at q; exact q
  refine ⟨⟨_, rfl, hp.set _ _⟩, hr.cap, fun x hx hx' => by have hx2 : h.nx ≤ x := hx; have hb2 := (hr.dom b L hb).1; rw [hget x hx', if_neg (by omega)]; exact hr.free x hx2 hx', by rw [hsz]; exact hr.bs, fun x Lx hx => by rw [hsz]; exact hr.dom x Lx hx, ?_, ?_, ?_, ?_, ?_, ?_⟩
  · intro x Lx hx hAx
    rw [hget x (hlt x Lx hx)]
    by_cases he : b = x
    · subst he; rw [hb] at hx; cases hx; rw [if_pos rfl]; exact hrel
    · rw [if_neg he]
      have hA' := (hal x Lx hx).1 hAx
      exact (hr.obj x Lx hx hA').mono (Mu.le_refl _) (hoth _ (alone x Lx hx hA' (fun q => he q.symm)))
  · intro x y Lx Ly hx hy hne hL hAx hAy
    have hx' := (hal x Lx hx).1 hAx
    have hy' := (hal y Ly hy).1 hAy
    have := hr.apart x y Lx Ly hx hy hne hL hx' hy'
    rw [hget x (hlt x Lx hx), hget y (hlt y Ly hy)]
    by_cases he : b = x
    · subst he; exact ((notAp _).2 this).elim
    · by_cases he' : b = y
      · subst he'; exact ((notAp _).1 this).elim
      · rw [if_neg he, if_neg he']; exact this
  · intro x Lx hx hAx n1 ct1 f1 ow fl tp nt ctt Lt q1 q2 q3 q4 q5
    have q1' := noC (hlt x Lx hx) q1
    have hf1 := hr.fmOk x Lx _ _ _ f1 hx q1'
    exact hr.tip x Lx hx ((hal x Lx hx).1 hAx) n1 ct1 f1 ow fl tp nt ctt Lt q1' ((hrec f1 _ _ _ (by omega)).1 q2) q3 (noC (hlt tp Lt q5) q4) q5
  · intro x Lx hx hro
    rw [hget x (hlt x Lx hx)] at hro
    by_cases he : b = x
    · subst he
      refine hr.wr b Lx hx (fun q => ?_)
      cases hq : h.get b <;> rw [hq] at ho q <;> first | exact ho.elim | exact q.elim
    · rw [if_neg he] at hro; exact hr.wr x Lx hx hro
  · intro x Lx n1 c1 k1 f1 hx hox
    exact hr.fmOk x Lx n1 c1 k1 f1 hx (noC (hlt x Lx hx) hox)
  · intro x Lx n1 c1 f1 ow fl tp hx hAx q1 q2
    have q1' := noC (hlt x Lx hx) q1
    have hf1 := hr.fmOk x Lx _ _ _ f1 hx q1'
    exact hr.mx x Lx n1 c1 f1 ow fl tp hx ((hal x Lx hx).1 hAx) q1' ((hrec f1 _ _ _ (by omega)).1 q2)
end Dv
/-! maps, 2 -/
namespace Dv
open Go Go.RowKit
variable {S : Sites} {base : Nat} {μ μ' : Mu} {h : Heap} {w w' : World} {P : Program} {tt : TT} {ng : Nat} {kp : Nat → Bool} {nt : Nat} {M : List Nat} {e : Env} {a : Act} {k : K}

theorem e_mkMap (hr : HR S base μ h w) {t : TypeId} {sh : Nat} (hne : oMkMap sh e h k ≠ .bad) : EffR P S base μ h w (oMkMap sh) e (valS (Instr.makeMap t none)) := by
  unfold oMkMap at hne
  obtain ⟨n, tr, he, hlt, e1⟩ := new_ne hne
  have hx : h.nx = n := by rw [he]; rfl
  obtain ⟨b1, b2, b3, b4⟩ := hr.new he hlt (.map sh [])
  have hle := Mu.le_set b3 ⟨w.heap.size, 0, 0, 0⟩
  refine ⟨μ.set n ⟨w.heap.size, 0, 0, 0⟩, .map n, .mk (n + 1) (tr.set n (.map sh [])), .map (some w.heap.size), w.alloc (.map #[] 0), fun k => ?_, ⟨?_, hle, by rw [hx]; show n ≤ n + 1; omega, Mu.set_fresh (by omega), (Below.refl base w).alloc hr.bs _, KeepD.alloc _ _⟩, .map (Mu.set_self _ _ _), .inl (valS_run1 ?_)⟩
  · unfold oMkMap
    rw [he]
    show bo (Nat.blt n 262143) (k (.map n) _) .bad = _
    rw [blt_iff.2 hlt]; rfl
  · refine b1.place (by show n < n + 1; omega) b3 _ rfl ?_ ?_ ?_
    · rw [b2]
      refine ⟨hr.bs, #[], 0, ?_, MRs.nil, ⟨fun p hp => absurd hp List.not_mem_nil, List.Pairwise.nil⟩⟩
      show (w.heap.push _)[w.heap.size]? = _
      rw [Array.getElem?_push_size]
    · intro n' c' kd fm q; rw [b2] at q; cases q
    · intro n' c' fm ow fl tp q; rw [b2] at q; cases q
  · simp [Instr.makeMap]
theorem MRs.get {l : List (AV × AV)} {es : List MapEntry} (h : MRs μ l es) : ∀ (j : Nat) (e : MapEntry), es[j]? = some e → ∃ p, l[j]? = some p ∧ VR μ p.1 e.key ∧ VR μ p.2 e.val := by
  induction h with
  | nil => intro j e q; simp at q
  | cons hk hv hs ih =>
    intro j e q
    cases j with
    | zero => simp only [List.getElem?_cons_zero, Option.some.injEq] at q; subst q; exact ⟨_, rfl, hk, hv⟩
    | succ j => obtain ⟨p, q1, q2⟩ := ih j e (by simpa using q); exact ⟨p, by simpa using q1, q2⟩
/-- what findK does: none is the key; or the one at j is, and none before it -/
theorem findK_none {kv : AV} {nn : Out} {f : AV → Out} : ∀ {l : List (AV × AV)}, (∀ p ∈ l, eqV kv p.1 = false) → findK kv l nn f = nn
  | [], _ => rfl
  | p :: l, h => by
    show bo (eqV kv p.1) (f p.2) (findK kv l nn f) = nn
    rw [h p (by simp)]
    exact findK_none (fun q hq => h q (by simp [hq]))
theorem findK_at {kv : AV} {nn : Out} {f : AV → Out} : ∀ {l : List (AV × AV)} {j : Nat} {p : AV × AV}, l[j]? = some p → eqV kv p.1 = true → (∀ i q, i < j → l[i]? = some q → eqV kv q.1 = false) → findK kv l nn f = f p.2
  | [], j, p, h, _, _ => by simp at h
  | x :: l, 0, p, h, h1, _ => by
    simp only [List.getElem?_cons_zero, Option.some.injEq] at h; subst h
    show bo (eqV kv x.1) (f x.2) _ = _
    rw [h1]; rfl
  | x :: l, j + 1, p, h, h1, h2 => by
    show bo (eqV kv x.1) (f x.2) (findK kv l nn f) = _
    rw [h2 0 x (by omega) rfl]
    exact findK_at (j := j) (by simpa using h) h1 (fun i q hi hq => h2 (i + 1) q (by omega) (by simpa using hq))
/-- a look into a map, on both sides -/
theorem map_find (htt : TTOk P tt) (h20 : 20 ≤ P.types.size + 1) (hbig : P.types.size + 2 ≤ 10000) {kt : TypeId} {sh : Nat} (hs : shapeOf tt kt = some sh) {x : AV} {v : Value} (hx : VR μ x v) (kx : keyOk sh x = true)
    {l : List (AV × AV)} {es : Array MapEntry} (hm : MRs μ l es.toList) (hk : ∀ p ∈ l, keyOk sh p.1 = true) (hd : es.toList.Pairwise (fun a b => a.key ≠ b.key)) (w : World) (em : Bool) :
    (Instr.checkKey em 10000 kt v).run P w = .ok () w ∧ (Instr.keyThatStays v v).run P w = .ok v w ∧
    (((Instr.findKey kt v es.toList).run P w = .ok none w ∧ ∀ p ∈ l, eqV x p.1 = false) ∨
      ∃ j e p, (Instr.findKey kt v es.toList).run P w = .ok (some (j, e.val)) w ∧ es.toList[j]? = some e ∧ e.key = v ∧ l[j]? = some p ∧ VR μ p.2 e.val ∧ eqV x p.1 = true ∧ ∀ i q, i ≠ j → l[i]? = some q → eqV x q.1 = false) := by
  have K := keyed_ok htt hbig hs
  obtain ⟨_, _, _, lx, hlx⟩ := keyOk_lits htt h20 hs hx kx
  have hlen := hm.length
  have pair : ∀ (i : Nat) (q : AV × AV), l[i]? = some q → ∃ e, es.toList[i]? = some e ∧ VR μ q.1 e.key ∧ VR μ q.2 e.val := by
    intro i q hq
    have hi : i < es.toList.length := by rw [← hlen]; exact (List.getElem?_eq_some_iff.1 hq).1
    obtain ⟨p, q1, q2, q3⟩ := hm.get i _ (List.getElem?_eq_getElem hi)
    rw [hq] at q1; cases q1
    exact ⟨_, List.getElem?_eq_getElem hi, q2, q3⟩
  have hes : ∀ e ∈ es.toList, ∃ l, keyOf P kt e.key = some l := by
    intro e he
    obtain ⟨j, hj⟩ := List.getElem?_of_mem he
    obtain ⟨p, q1, q2, _⟩ := hm.get j e hj
    obtain ⟨_, _, _, q⟩ := keyOk_lits htt h20 hs q2 (hk p (List.mem_of_getElem? q1))
    exact q
  have neq : ∀ (i : Nat) (q : AV × AV) (e : MapEntry), l[i]? = some q → es.toList[i]? = some e → e.key ≠ v → eqV x q.1 = false := by
    intro i q e hq he hne
    obtain ⟨e', r1, r2, _⟩ := pair i q hq
    rw [he] at r1; cases r1
    rw [Bool.eq_false_iff]
    intro hE
    exact hne ((eqV_iff htt hs hx r2 kx (hk q (List.mem_of_getElem? hq))).1 hE).symm
  refine ⟨K.check w em hlx, K.stays w hlx, ?_⟩
  rcases K.find w hlx es.toList hes with ⟨f1, f2⟩ | ⟨j, e, f1, f2, f3⟩
  · refine .inl ⟨f1, fun p hp => ?_⟩
    obtain ⟨i, hi⟩ := List.getElem?_of_mem hp
    obtain ⟨e', r1, _⟩ := pair i p hi
    exact neq i p e' hi r1 (f2 e' (List.mem_of_getElem? r1))
  · obtain ⟨p, r1, r2, r3⟩ := hm.get j e f2
    refine .inr ⟨j, e, p, f1, f2, f3, r1, r3, (eqV_iff htt hs hx r2 kx (hk p (List.mem_of_getElem? r1))).2 f3.symm, fun i q hij hq => ?_⟩
    obtain ⟨e', s1, _⟩ := pair i q hq
    refine neq i q e' hq s1 (fun hkey => ?_)
    have hi := (List.getElem?_eq_some_iff.1 s1)
    have hj := (List.getElem?_eq_some_iff.1 f2)
    obtain ⟨hi1, hi2⟩ := hi
    obtain ⟨hj1, hj2⟩ := hj
    rw [List.pairwise_iff_getElem] at hd
    rcases Nat.lt_or_gt_of_ne hij with c | c
    · exact hd i j hi1 hj1 c (by rw [hi2, hj2, hkey, f3])
    · exact hd j i hj1 hi1 c (by rw [hi2, hj2, hkey, f3])
end Dv
/-! maps, 3 -/
namespace Dv
open Go Go.RowKit
variable {S : Sites} {base : Nat} {μ μ' : Mu} {h : Heap} {w w' : World} {P : Program} {tt : TT} {ng : Nat} {kp : Nat → Bool} {nt : Nat} {M : List Nat} {e : Env} {a : Act} {k : K}

theorem zero1 {el : TypeId} {ie : TI} (hte : TOk P el ie) (hg : isAggD ie.desc = false) {z : AV} (hz : ie.zero = [z]) : ∃ zv, (∀ w, (zeroValue el).run P w = .ok zv w) ∧ ∀ μ, VR μ z zv := by
  obtain ⟨f, i1, i2, i3, zv, i4, i5, i6, i7, i8⟩ := hte.info
  refine ⟨zv, fun w => by simp [zeroValue, typeInfo, i1, i4], fun μ => ?_⟩
  have h1 := i8 hg
  have h2 := i5 μ
  rw [hz] at h2
  have : zv.cells.toList = [zv] := by cases zv <;> first | rfl | cases h1
  rw [this] at h2
  cases h2 with
  | cons a _ => exact a
theorem r_lookup (htt : TTOk P tt) (h20 : 20 ≤ P.types.size + 1) (hbig : P.types.size + 2 ≤ 10000) (hr : HR S base μ h w) {t kt el : TypeId} {i ie : TI} (ht : TOk P t i) (hd : i.desc = .map kt el) (hte : TOk P el ie) (hg : isAggD ie.desc = false) {z : AV} (hz : ie.zero = [z])
    {sh : Nat} (hs : shapeOf tt kt = some sh) {m x : Rd} {cm cx : Value} (hm : VR μ (m e) cm) (hx : VR μ (x e) cx) :
    (∀ k, oLookup sh z m x e h k ≠ .bad → RdR P μ h w (oLookup sh z m x) e (valS (Instr.lookup t cm cx false))) ∧
    (∀ k, oLookupOk sh z m x e h k ≠ .bad → RdR P μ h w (oLookupOk sh z m x) e (valS (Instr.lookup t cm cx true))) := by
  obtain ⟨zv, z1, z2⟩ := zero1 hte hg hz
  have hu := run_und w ht.und
  rw [hd] at hu
  have core : ∀ (b : Nat) (l1 l2 : List AV) (sh' : Nat) (es : List (AV × AV)), m e = .oth 2 b l1 l2 → h.get b = .map sh' es → sh = sh' → keyOk sh (x e) = true →
      ∃ v cv ok, (∀ (nn : Out) (f : AV → Out), findK (x e) es nn f = if ok then f v else nn) ∧ VR μ v cv ∧ (ok = false → v = z ∧ cv = zv) ∧ ∀ c, (Instr.lookup t cm cx c).run P w = .ok (if c then .tuple #[cv, .bool ok] else cv) w := by
    intro b l1 l2 sh' es e1 e2 e3 e4
    subst e3
    rw [e1] at hm
    obtain ⟨L, h1, rfl⟩ := hm.map_inv
    have hal : Alive h b := by unfold Alive; rw [e2]; trivial
    have ho := hr.obj b L h1 hal
    rw [e2] at ho
    obtain ⟨_, es', ck, g1, g2, g3, g4⟩ := ho
    obtain ⟨c1, _, c3⟩ := map_find htt h20 hbig hs hx e4 g2 g3 g4 w es'.isEmpty
    have hobj : (getObj L.blk).run P w = .ok (.map es' ck) w := by simp [getObj, Sem.run, g1]
    rcases c3 with ⟨f1, f2⟩ | ⟨j, en, p, f1, f2, f3, f4, f5, f6, f7⟩
    · refine ⟨z, zv, false, fun nn f => by rw [findK_none f2]; rfl, z2 μ, fun _ => ⟨rfl, rfl⟩, fun c => ?_⟩
      simp [Instr.lookup, hu, hobj, c1, f1, z1 w]
    · refine ⟨p.2, en.val, true, fun nn f => by rw [findK_at f4 f6 (fun i q hi hq => f7 i q (by omega) hq)]; rfl, f5, (fun q => absurd q (by decide)), fun c => ?_⟩
      simp [Instr.lookup, hu, hobj, c1, f1]
  constructor
  · intro k hne
    unfold oLookup at hne
    obtain ⟨b, l1, l2, e1, e2⟩ := onTag_ne hne
    rw [e2] at hne
    obtain ⟨sh', es, e3, e4⟩ := onMapO_ne hne
    rw [e4] at hne
    obtain ⟨q1, q2⟩ := bo_ne' hne
    obtain ⟨v, cv, ok, r1, r2, r3, r4⟩ := core b l1 l2 sh' es e1 e3 (nbeq_iff.1 (bb_and q1).1) (bb_and q1).2
    refine ⟨v, cv, fun k => ?_, r2, valS_run1 (r4 false)⟩
    unfold oLookup
    rw [e1]
    show onMapO (h.get b) _ .bad = _
    rw [e3]
    show bo (bb (Nat.beq sh sh') (keyOk sh (x e)) false) (findK (x e) es (k z h) fun v => k v h) .bad = _
    rw [q1, r1]
    cases ok with
    | true => rfl
    | false => rw [(r3 rfl).1]; rfl
  · intro k hne
    unfold oLookupOk at hne
    obtain ⟨b, l1, l2, e1, e2⟩ := onTag_ne hne
    rw [e2] at hne
    obtain ⟨sh', es, e3, e4⟩ := onMapO_ne hne
    rw [e4] at hne
    obtain ⟨q1, q2⟩ := bo_ne' hne
    obtain ⟨v, cv, ok, r1, r2, r3, r4⟩ := core b l1 l2 sh' es e1 e3 (nbeq_iff.1 (bb_and q1).1) (bb_and q1).2
    refine ⟨.tup [v, .bool ok], .tuple #[cv, .bool ok], fun k => ?_, .tup (l' := [cv, .bool ok]) (.cons r2 (.cons (.bool ok) .nil)), valS_run1 (r4 true)⟩
    unfold oLookupOk
    rw [e1]
    show onMapO (h.get b) _ .bad = _
    rw [e3]
    show bo (bb (Nat.beq sh sh') (keyOk sh (x e)) false) (findK (x e) es (k (.tup [z, .bool false]) h) fun v => k (.tup [v, .bool true]) h) .bad = _
    rw [q1, r1]
    cases ok with
    | true => rfl
    | false => rw [(r3 rfl).1]; rfl
end Dv
/-! stores into maps -/
namespace Dv
open Go Go.RowKit
variable {S : Sites} {base : Nat} {μ μ' : Mu} {h : Heap} {w w' : World} {P : Program} {tt : TT} {ng : Nat} {kp : Nat → Bool} {nt : Nat} {M : List Nat} {e : Env} {a : Act} {k : K}

theorem updK_none {kv v : AV} : ∀ {l : List (AV × AV)}, (∀ p ∈ l, eqV kv p.1 = false) → updK kv v l = l ++ [(kv, v)]
  | [], _ => rfl
  | p :: l, h => by
    show blm (eqV kv p.1) ((kv, v) :: l) (p :: updK kv v l) = _
    rw [h p (by simp)]
    show p :: updK kv v l = _
    rw [updK_none (fun q hq => h q (by simp [hq]))]; rfl
theorem updK_at {kv v : AV} : ∀ {l : List (AV × AV)} {j : Nat} {p : AV × AV}, l[j]? = some p → eqV kv p.1 = true → (∀ i q, i < j → l[i]? = some q → eqV kv q.1 = false) → updK kv v l = l.set j (kv, v)
  | [], j, p, h, _, _ => by simp at h
  | x :: l, 0, p, h, h1, _ => by
    simp only [List.getElem?_cons_zero, Option.some.injEq] at h; subst h
    show blm (eqV kv x.1) ((kv, v) :: l) _ = _
    rw [h1]; rfl
  | x :: l, j + 1, p, h, h1, h2 => by
    show blm (eqV kv x.1) ((kv, v) :: l) (x :: updK kv v l) = _
    rw [h2 0 x (by omega) rfl]
    show x :: updK kv v l = _
    rw [updK_at (j := j) (by simpa using h) h1 (fun i q hi hq => h2 (i + 1) q (by omega) (by simpa using hq))]; rfl
theorem MRs.append {l l2 : List (AV × AV)} {es es2 : List MapEntry} (h : MRs μ l es) (h2 : MRs μ l2 es2) : MRs μ (l ++ l2) (es ++ es2) := by
  induction h with
  | nil => exact h2
  | cons a b _ ih => exact .cons a b ih
theorem MRs.set {l : List (AV × AV)} {es : List MapEntry} (h : MRs μ l es) {kv v : AV} {e : MapEntry} (hk : VR μ kv e.key) (hv : VR μ v e.val) : ∀ j, MRs μ (l.set j (kv, v)) (es.set j e) := by
  induction h with
  | nil => intro j; exact .nil
  | cons a b c ih => intro j; cases j with | zero => exact .cons hk hv c | succ j => exact .cons a b (ih j)
theorem e_mapUpd (htt : TTOk P tt) (h20 : 20 ≤ P.types.size + 1) (hbig : P.types.size + 2 ≤ 10000) (hr : HR S base μ h w) {t kt el : TypeId} {i : TI} (ht : TOk P t i) (hd : i.desc = .map kt el)
    {sh : Nat} (hs : shapeOf tt kt = some sh) {m x y : Rd} {cm cx cy : Value} (hm : VR μ (m e) cm) (hx : VR μ (x e) cx) (hy : VR μ (y e) cy) (hne : oMapUpd sh m x y e h k ≠ .bad) :
    EffR P S base μ h w (oMapUpd sh m x y) e (skipS (Instr.mapUpdate t cm cx cy)) := by
  unfold oMapUpd at hne
  obtain ⟨b, l1, l2, e1, e2⟩ := onTag_ne hne
  rw [e2] at hne
  obtain ⟨sh', es, e3, e4⟩ := onMapO_ne hne
  rw [e4] at hne
  obtain ⟨q1, q2⟩ := bo_ne' hne
  have hsh := nbeq_iff.1 (bb_and q1).1
  have kx := (bb_and q1).2
  subst hsh
  have hu := run_und w ht.und
  rw [hd] at hu
  rw [e1] at hm
  obtain ⟨L, h1, rfl⟩ := hm.map_inv
  have hal : Alive h b := by unfold Alive; rw [e3]; trivial
  have ho := hr.obj b L h1 hal
  rw [e3] at ho
  obtain ⟨hb0, es', ck, g1, g2, g3, g4⟩ := ho
  obtain ⟨c1, c2, c3⟩ := map_find htt h20 hbig hs hx kx g2 g3 g4 w false
  have hobj : (getObj L.blk).run P w = .ok (.map es' ck) w := by simp [getObj, Sem.run, g1]
  have hset : ∀ o, (setObj L.blk o).run P w = .ok () { w with heap := w.heap.setIfInBounds L.blk o } := by intro o; simp [setObj, Sem.run, g1]
  have hlt : L.blk < w.heap.size := (Array.getElem?_eq_some_iff.1 g1).1
  have hk2 : ∀ p ∈ updK (x e) (y e) es, keyOk sh p.1 = true := by
    rcases c3 with ⟨f1, f2⟩ | ⟨j, en, p, f1, f2, f3, f4, f5, f6, f7⟩
    · rw [updK_none f2]
      intro p hp
      rw [List.mem_append] at hp
      rcases hp with hp | hp
      · exact g3 p hp
      · simp only [List.mem_singleton] at hp; subst hp; exact kx
    · rw [updK_at f4 f6 (fun i q hi hq => f7 i q (by omega) hq)]
      intro p hp
      rcases List.mem_or_eq_of_mem_set hp with hp | hp
      · exact g3 p hp
      · subst hp; exact kx
  -- the world behind it
  have core : ∃ es2 ck2, (Instr.mapUpdate t (.map (some L.blk)) cx cy).run P w = .ok () { w with heap := w.heap.setIfInBounds L.blk (.map es2 ck2) } ∧ MRs μ (updK (x e) (y e) es) es2.toList ∧ es2.toList.Pairwise (fun a b => a.key ≠ b.key) := by
    rcases c3 with ⟨f1, f2⟩ | ⟨j, en, p, f1, f2, f3, f4, f5, f6, f7⟩
    · refine ⟨es'.push { key := cx, val := cy, born := ck }, ck + 1, ?_, ?_, ?_⟩
      · simp [Instr.mapUpdate, hu, hobj, c1, f1, hset]
      · rw [updK_none f2, Array.toList_push]
        exact g2.append (.cons hx hy .nil)
      · rw [Array.toList_push, List.pairwise_append]
        refine ⟨g4, List.pairwise_singleton _ _, fun a ha b' hb' => ?_⟩
        simp only [List.mem_singleton] at hb'; subst hb'
        intro hkey
        obtain ⟨j, hj⟩ := List.getElem?_of_mem ha
        obtain ⟨p, r1, r2, r3⟩ := g2.get j a hj
        have := f2 p (List.mem_of_getElem? r1)
        rw [Bool.eq_false_iff] at this
        exact this ((eqV_iff htt hs hx r2 kx (g3 p (List.mem_of_getElem? r1))).2 hkey.symm)
    · have hj : es'[j]? = some en := by rw [← f2, Array.getElem?_toList]
      have hjl := (Array.getElem?_eq_some_iff.1 hj).1
      have hmod : (es'.modify j fun e => { e with key := cx, val := cy }).toList = es'.toList.set j { en with key := cx, val := cy } := by
        rw [Array.toList_modify]
        apply List.ext_getElem?
        intro i'
        rw [List.getElem?_modify, List.getElem?_set]
        by_cases q : j = i'
        · subst q
          rw [if_pos rfl, if_pos (show j < es'.toList.length by simpa using hjl), f2]
          simp
        · rw [if_neg q]
          cases es'.toList[i']? with
          | none => rfl
          | some z => simp [q]
      refine ⟨es'.modify j fun e => { e with key := cx, val := cy }, ck, ?_, ?_, ?_⟩
      · simp [Instr.mapUpdate, hu, hobj, c1, f1, hset, hj, f3, c2]
      · rw [updK_at f4 f6 (fun i q hi hq => f7 i q (by omega) hq), hmod]
        exact g2.set (e := { en with key := cx, val := cy }) hx hy j
      · rw [hmod]
        have : es'.toList.set j { en with key := cx, val := cy } = es'.toList.set j { en with val := cy } := by rw [← f3]
        rw [List.pairwise_iff_getElem] at g4 ⊢
        intro i1 i2 p1 p2 hlt'
        have key : ∀ i' (hp : i' < (es'.toList.set j { en with key := cx, val := cy }).length), ((es'.toList.set j { en with key := cx, val := cy })[i']).key = (es'.toList[i']'(by simpa using hp)).key := by
          intro i' hp
          rw [List.getElem_set]
          split
          · rename_i q; subst q
            have := (List.getElem?_eq_some_iff.1 f2).2
            rw [this]; exact f3.symm
          · rfl
        rw [key, key]
        exact g4 i1 i2 _ _ hlt'
  obtain ⟨es2, ck2, r1, r2, r3⟩ := core
  obtain ⟨tr, htr, _⟩ := hr.perf
  have hblk : ∀ o, ({ w with heap := w.heap.setIfInBounds L.blk o } : World).heap[L.blk]? = some o := by intro o; simp [hlt]
  have hoth : ∀ o k', k' ≠ L.blk → ({ w with heap := w.heap.setIfInBounds L.blk o } : World).heap[k']? = w.heap[k']? := by
    intro o k' hk'
    show (w.heap.setIfInBounds L.blk o)[k']? = _
    rw [Array.getElem?_setIfInBounds_ne (fun q => hk' q.symm)]
  refine ⟨μ, .tup [], .mk h.nx (tr.set b (.map sh (updK (x e) (y e) es))), undef, { w with heap := w.heap.setIfInBounds L.blk (.map es2 ck2) }, fun k => ?_, ⟨?_, Mu.le_refl _, Nat.le_refl _, fun _ _ q => q, ⟨rfl, rfl, rfl, by simp, fun k' hk' => hoth _ k' (by omega)⟩, ?_⟩, .tup .nil, .inr ⟨skipS_run1 r1, rfl⟩⟩
  · unfold oMapUpd
    rw [e1]
    show onMapO (h.get b) _ .bad = _
    rw [e3]
    show bo (bb (Nat.beq sh sh) (keyOk sh (x e)) false) (h.upd b (.map sh (updK (x e) (y e) es)) (k (.tup []))) .bad = _
    rw [q1]
    obtain ⟨nn, t', he, hu'⟩ := upd_eq h b (.map sh (updK (x e) (y e) es)) (k (.tup []))
    show h.upd b _ _ = _
    rw [hu']
    rw [he] at htr ⊢
    injection htr with s1 s2
    rw [s2]; rfl
  · exact hr.objSet htr h1 (by rw [e3]; trivial) trivial (by simp) (hoth _) ⟨hb0, es2, ck2, hblk _, r2, hk2, r3⟩
  · intro b' ds hb'
    by_cases q : b' = L.blk
    · subst q; rw [g1] at hb'; cases hb'
    · rw [hoth _ _ q]; exact hb'
end Dv
/-! make of a slice -/
namespace Dv
open Go Go.RowKit
variable {S : Sites} {base : Nat} {μ μ' : Mu} {h : Heap} {w w' : World} {P : Program} {tt : TT} {ng : Nat} {kp : Nat → Bool} {nt : Nat} {M : List Nat} {e : Env} {a : Act} {k : K}

theorem e_mkSlice (hr : HR S base μ h w) {t el : TypeId} {i ie : TI} (ht : TOk P t i) (hd : i.desc = .slice el) (hte : TOk P el ie) (hb : ie.bytes ≤ 1048576) {x y : Rd} {cx cy : Value} (hne : oMkSlice ie.zero x y e h k ≠ .bad) (hx : VR μ (x e) cx) (hy : VR μ (y e) cy) :
    EffR P S base μ h w (oMkSlice ie.zero x y) e (valS (Instr.makeSlice t cx cy)) := by
  unfold oMkSlice at hne
  obtain ⟨k1, l, e1, e2⟩ := onNat_ne hne
  rw [e2] at hne
  obtain ⟨k2, c, e3, e4⟩ := onNat_ne hne
  rw [e4] at hne
  obtain ⟨q1, q2⟩ := bo_ne' hne
  rw [q2] at hne
  have hlc := ble_iff.1 (bb_and q1).1
  have hc := ble_iff.1 (bb_and q1).2
  rw [repL_eq] at hne
  rw [e1] at hx; rw [e3] at hy
  obtain ⟨ki, rfl, rfl⟩ := hx.int_inv
  obtain ⟨kj, rfl, rfl⟩ := hy.int_inv
  obtain ⟨f, i1, i2, i3, z, i4, i5, i6, i7, _⟩ := hte.info
  have hz7 : z.cells.toList.length = ie.size := i7
  obtain ⟨h', b, r1, r2⟩ := hr.made hne ((i5 μ).rep c) (repV_one i6 c) el
  refine ⟨_, .slice b 0 l c true, h', .slice (some ⟨w.heap.size, 0, none⟩) l c, _, fun k => ?_, r2, .slEx (Mu.set_self _ _ _) (fun _ => rfl) hlc, .inl (valS_run1 ?_)⟩
  · unfold oMkSlice
    rw [onNat_at e1, onNat_at e3]
    show bo (bb (Nat.ble l c) (Nat.ble c 65536) false) (h.new (mkCells (repL ie.zero c)) fun b h => k (.slice b 0 l c true) h) .bad = _
    rw [q1, repL_eq]
    show h.new _ _ = _
    rw [r1]
  · have hb1 : ((f.bytes : Nat) : Int) * (c : Int) ≤ 281474976710656 := by
      have h1 : f.bytes * c ≤ 1048576 * 65536 := Nat.mul_le_mul (by omega) hc
      have h2 : ((f.bytes * c : Nat) : Int) ≤ 281474976710656 := by omega
      rw [Int.natCast_mul] at h2
      exact h2
    have hc2 : c * f.size ≤ 16777216 ∨ True := .inr trivial
    have := run_make w t el f z (by rw [ht.und, hd]) i1 i4 ki kj (l : Int) (c : Int) (by omega) (by omega) hb1 (by omega)
    have hrow : madeCells z.cells (c * f.size) = (repV z.cells.toList c).toArray := by rw [i2, ← i7]; exact range_rep z.cells c
    simp only [Int.toNat_natCast] at this
    rw [hrow] at this
    exact this
end Dv
/-! copy, clear -/
namespace Dv
open Go Go.RowKit
variable {S : Sites} {base : Nat} {μ μ' : Mu} {h : Heap} {w w' : World} {P : Program} {tt : TT} {ng : Nat} {kp : Nat → Bool} {nt : Nat} {M : List Nat} {e : Env} {a : Act} {k : K}

theorem run_loadPart {L : Loc} {o : Nat} {ad : Addr} {vs : List Value} (ha : vs.length ≠ 0 → ad = ⟨L.blk, L.off + o, none⟩) (hg : ∀ j v, vs[j]? = some v → w.cell? ⟨L.blk, L.off + o + j, none⟩ = some v) :
    (loadCells ad vs.length).run P w = .ok vs.toArray w := by
  refine run_loadCells_list w ad vs (fun j v hj => ?_)
  have : vs.length ≠ 0 := fun q => by rw [List.eq_nil_of_length_eq_zero q] at hj; simp at hj
  rw [ha this, addr_add]
  exact hg j v hj
theorem run_storePart {L : Loc} {o : Nat} {ad : Addr} {vs : List Value} (ha : vs.length ≠ 0 → ad = ⟨L.blk, L.off + o, none⟩) (h1 : ∀ v ∈ vs, v.oneCell' = true)
    (hg : ∀ j, j < vs.length → (w.cell? ⟨L.blk, L.off + o + j, none⟩).isSome = true ∧ w.frozen? ⟨L.blk, L.off + o + j, none⟩ = false) :
    (storeCells ad vs 0).run P w = .ok () (w.setCells L.blk (L.off + o) vs) := by
  cases vs with
  | nil => rfl
  | cons v r =>
    rw [ha (by simp)]
    exact run_storeCells_cells L.blk (L.off + o) (v :: r) 0 w (fun j hj => (hg j hj).1) (fun j hj => (hg j hj).2) h1
theorem minN_eq (a b : Nat) : minN a b = min a b := by
  unfold minN; rw [bn_eq]
  by_cases q : a ≤ b
  · rw [if_pos (ble_iff.2 q), Nat.min_eq_left q]
  · rw [if_neg (fun z => q (ble_iff.1 z)), Nat.min_eq_right (by omega)]
theorem e_copy (hr : HR S base μ h w) {t u ty el : TypeId} {i ie : TI} (ht : TOk P t i) (hd : i.desc = .slice el) (hte : TOk P el ie) {x y : Rd} {cx cy : Value} (hne : oCopy ie.size x y e h k ≠ .bad) (hx : VR μ (x e) cx) (hy : VR μ (y e) cy) :
    EffR P S base μ h w (oCopy ie.size x y) e (valS (Builtin.copy_ #[t, u] ty #[cx, cy])) := by
  unfold oCopy at hne
  have hu := run_und w ht.und
  rw [hd] at hu
  have hsz := run_size w hte
  rcases onSl_ne hne with ⟨⟨b, o, n, c, ex, e1, e2⟩⟩ | ⟨⟨m0, l0, l0', e1⟩, e2⟩
  · rw [e2] at hne
    rw [e1] at hx
    obtain ⟨L, ad, cc, h1, rfl, hn, ha, g1, g2⟩ := hx.sl_inv
    rcases onSl_ne hne with ⟨⟨b', o', n', c', ex', e3, e4⟩⟩ | ⟨⟨m0, l0, l0', e3⟩, e4⟩
    · rw [e4] at hne
      rw [e3] at hy
      obtain ⟨L', ad', cc', h1', rfl, hn', ha', g1', g2'⟩ := hy.sl_inv
      obtain ⟨nb, ct, kd, fm, p1, p2, p3, p4⟩ := hLoadN_ne hne
      rw [p4] at hne
      obtain ⟨vs, v1, v2, v3, v4⟩ := hr.loadN h1' p1 p3 p2
      obtain ⟨h', any⟩ := hStore_ex hne
      obtain ⟨h'', q1, q2, q3, q4, q5⟩ := hr.stN (k := fun h => .nrm e h) h1 (by rw [any]; exact fun q => by cases q) v4 v3
      rw [any] at q1
      injection q1 with _ q1
      subst q1
      have hmin : Nat.mul (minN n n') ie.size = min n n' * ie.size := by rw [minN_eq]; rfl
      have hl : vs.length = Nat.min n' n * ie.size := by rw [v1, hmin]; show min n n' * ie.size = min n' n * ie.size; rw [Nat.min_comm]
      have hz : vs.length ≠ 0 → 0 < n ∧ 0 < n' := by
        intro q
        rw [v1, hmin] at q
        have : min n n' ≠ 0 := fun z => by rw [z] at q; simp at q
        omega
      have hload := run_loadPart (P := P) (w := w) (L := L') (o := o') (ad := ad') (vs := vs) (fun q => ha' (by have := hz q; omega)) v2
      rw [hl] at hload
      have hstore := run_storePart (P := P) (w := w) (L := L) (o := o) (ad := ad) (vs := vs) (fun q => ha (by have := hz q; omega)) v3 q5
      refine ⟨μ, natV (minN n n'), h', goInt (Nat.min n' n), w.setCells L.blk (L.off + o) vs, fun k => ?_, ⟨q2, Mu.le_refl _, by omega, fun _ _ q => q, setCells_below q4 _ _ _, KeepD.setCells _ _ _ _⟩, ?_, .inl (valS_run1 ?_)⟩
      · unfold oCopy
        rw [e1, e3]
        show hLoadN h b' o' (Nat.mul (minN n n') ie.size) (fun vs => hStore h b o vs fun h => k (natV (minN n n')) h) = _
        rw [hLoadN_at p1 p2 p3, any]
      · have : minN n n' = Nat.min n' n := by rw [minN_eq]; exact Nat.min_comm _ _
        rw [this]; exact .int .i64 _
      · simp [Builtin.copy_, hu, Builtin.lenOf, hsz, Builtin.firstCells, hload, hstore]
    · rw [e3] at hy
      have hy' := hy.nils_inv
      subst hy'
      refine ⟨μ, natV 0, h, goInt 0, w, fun k => by unfold oCopy; rw [e1, e3]; rfl, Ext.refl hr, .int .i64 _, .inl (valS_run1 ?_)⟩
      simp [Builtin.copy_, hu, Builtin.lenOf, hsz, Builtin.firstCells, storeCells]
  · rw [e2] at hne
    rw [e1] at hx
    have hx' := hx.nils_inv
    subst hx'
    rcases onSl_ne hne with ⟨⟨b', o', n', c', ex', e3, e4⟩⟩ | ⟨⟨m0, l0, l0', e3⟩, e4⟩
    · rw [e3] at hy
      obtain ⟨L', ad', cc', h1', rfl, hn', ha', g1', g2'⟩ := hy.sl_inv
      refine ⟨μ, natV 0, h, goInt 0, w, fun k => by unfold oCopy; rw [e1, e3]; rfl, Ext.refl hr, .int .i64 _, .inl (valS_run1 ?_)⟩
      simp [Builtin.copy_, hu, Builtin.lenOf, hsz, Builtin.firstCells, loadCells, loadCellsFrom]
    · rw [e3] at hy
      have hy' := hy.nils_inv
      subst hy'
      refine ⟨μ, natV 0, h, goInt 0, w, fun k => by unfold oCopy; rw [e1, e3]; rfl, Ext.refl hr, .int .i64 _, .inl (valS_run1 ?_)⟩
      simp [Builtin.copy_, hu, Builtin.lenOf, hsz, Builtin.firstCells]
end Dv
/-! clear -/
namespace Dv
open Go Go.RowKit
variable {S : Sites} {base : Nat} {μ μ' : Mu} {h : Heap} {w w' : World} {P : Program} {tt : TT} {ng : Nat} {kp : Nat → Bool} {nt : Nat} {M : List Nat} {e : Env} {a : Act} {k : K}

theorem zeroCells_rep (z : Array Value) (n : Nat) : Builtin.zeroCells z n = (repV z.toList n).toArray := range_rep z n
theorem e_clear (hr : HR S base μ h w) {t ty el : TypeId} {i ie : TI} (ht : TOk P t i) (hd : i.desc = .slice el) (hte : TOk P el ie) {x : Rd} {cx : Value} (hne : oClear ie.zero x e h k ≠ .bad) (hx : VR μ (x e) cx) :
    EffR P S base μ h w (oClear ie.zero x) e (valS (Builtin.clear_ #[t] ty #[cx])) := by
  unfold oClear at hne
  have hu := run_und w ht.und
  rw [hd] at hu
  rcases onSl_ne hne with ⟨⟨b, o, n, c, ex, e1, e2⟩⟩ | ⟨⟨m0, l0, l0', e1⟩, e2⟩
  · rw [e2, repL_eq] at hne
    rw [e1] at hx
    obtain ⟨L, ad, cc, h1, rfl, hn, ha, g1, g2⟩ := hx.sl_inv
    obtain ⟨f, i1, i2, i3, z, i4, i5, i6, i7, _⟩ := hte.info
    have hz7 : z.cells.toList.length = ie.size := i7
    have v4 := (i5 μ).rep n
    have v3 := repV_one i6 n
    obtain ⟨h', any⟩ := hStore_ex hne
    obtain ⟨h'', q1, q2, q3, q4, q5⟩ := hr.stN (k := fun h => .nrm e h) h1 (by rw [any]; exact fun q => by cases q) v4 v3
    rw [any] at q1
    injection q1 with _ q1
    subst q1
    have hk : ∀ k, oClear ie.zero x e h k = k (.tup []) h' := by
      intro k
      unfold oClear
      rw [e1]
      show hStore h b o (repL ie.zero n) (k (.tup [])) = _
      rw [repL_eq, any]
    refine ⟨μ, .tup [], h', .tuple #[], w.setCells L.blk (L.off + o) (repV z.cells.toList n), hk, ⟨q2, Mu.le_refl _, by omega, fun _ _ q => q, setCells_below q4 _ _ _, KeepD.setCells _ _ _ _⟩, .tup .nil, .inl (valS_run1 ?_)⟩
    cases n with
    | zero =>
      simp [Builtin.clear_, hu, repV, World.setCells]
    | succ n =>
      have hstore := run_storePart (P := P) (w := w) (L := L) (o := o) (ad := ad) (vs := repV z.cells.toList (n + 1)) (fun q => ha (by omega)) v3 q5
      have hzv : (zeroValue el).run P w = .ok z w := by simp [zeroValue, typeInfo, i1, i4]
      simp [Builtin.clear_, hu, hzv, zeroCells_rep, hstore]
  · rw [e1] at hx
    have hx' := hx.nils_inv
    subst hx'
    refine ⟨μ, .tup [], h, .tuple #[], w, fun k => by unfold oClear; rw [e1]; rfl, Ext.refl hr, .tup .nil, .inl (valS_run1 ?_)⟩
    simp [Builtin.clear_, hu]
end Dv
/-! append -/
namespace Dv
open Go Go.RowKit
variable {S : Sites} {base : Nat} {μ μ' : Mu} {h : Heap} {w w' : World} {P : Program} {tt : TT} {ng : Nat} {kp : Nat → Bool} {nt : Nat} {M : List Nat} {e : Env} {a : Act} {k : K}

theorem appNew_any {sz : Nat} {l : List AV} {n : Nat} (hne : appNew sz h l n k ≠ .bad) : ∃ h' y, ∀ k' : K, appNew sz h l n k' = k' (.slice y 0 n sz false) h' := by
  cases h with
  | mk nx t =>
    obtain ⟨q1, _⟩ := bo_ne' (c := bb (Nat.blt nx 262142) (Nat.ble n 67108864) false) hne
    refine ⟨.mk (nx + 2) ((t.set nx (.fam (nx + 1) (nx + 1) (nx + 1))).set (nx + 1) (.cells (lenL l) (ofL l) 1 nx)), nx + 1, fun k' => ?_⟩
    show bo (bb (Nat.blt nx 262142) (Nat.ble n 67108864) false) (k' (.slice (nx + 1) 0 n sz false) _) .bad = _
    rw [q1]; rfl
theorem appGrow_any {sz : Nat} {b fm : Nat} {l : List AV} {n : Nat} (hne : appGrow sz h b fm l n k ≠ .bad) : ∃ h' y, ∀ k' : K, appGrow sz h b fm l n k' = k' (.slice y 0 n sz false) h' := by
  unfold appGrow at hne ⊢
  obtain ⟨ow, fl, tp, e1, e2⟩ := onFam_ne hne
  rw [e2] at hne
  obtain ⟨q1, q2⟩ := bo_ne' hne
  rw [q2] at hne
  cases h with
  | mk nx t =>
    obtain ⟨q3, _⟩ := bo_ne' (c := bb (Nat.blt nx 262143) (Nat.ble n 67108864) false) hne
    refine ⟨.mk (nx + 1) ((t.set fm (bob (Nat.beq b tp) (.fam ow fl nx) (.fam b nx nx))).set nx (.cells (lenL l) (ofL l) 1 fm)), nx, fun k' => ?_⟩
    rw [e1]
    show bo (bb (Nat.beq b ow) true (Nat.ble fl b)) (bo (bb (Nat.blt nx 262143) (Nat.ble n 67108864) false) (k' (.slice nx 0 n sz false) _) .bad) .bad = _
    rw [q1, q3]; rfl

theorem below_drew (w : World) : Below base w w.drew := (Below.refl base w).drew
/-- what is appended to a new row -/
theorem app_new (hr : HR S base μ h w) {t tx ty el : TypeId} {i ie : TI} (ht : TOk P t i) (hd : i.desc = .slice el) (hte : TOk P el ie) (hb : ie.bytes ≤ 1048576) {base0 : Option Addr} {n cc m : Nat} {old new : List AV} {old' new' : List Value}
    {cx : Value} (hs : Src P ie.size tx cx m new' w) (hv : VRs μ new new') (hv0 : VRs μ old old') (h0 : ∀ v ∈ old', v.oneCell' = true) (hl0 : old'.length = n * ie.size)
    (hold : (Builtin.firstCells ie.size n (.slice base0 n cc)).run P w.drew = .ok old'.toArray w.drew) (hg : cc < n + m)
    {l : List AV} (hl : l = old ++ new) (hne : appNew ie.size h l (n + m) k ≠ .bad) :
    ∃ μ' v h' cv w', (∀ k : K, appNew ie.size h l (n + m) k = k v h') ∧ Ext S base μ h w μ' h' w' ∧ VR μ' v cv ∧ (Builtin.append_ #[t, tx] ty #[.slice base0 n cc, cx]).run P w = .ok cv w' := by
  have hu := ht.und
  rw [hd] at hu
  subst hl
  obtain ⟨f, i1, i2, i3, z, i4, i5, i6, i7, _⟩ := hte.info
  obtain ⟨h', y, any⟩ := appNew_any hne
  have hle := appNew_le hne
  have hfit : (n + m) * f.bytes ≤ 140737488355328 := by
    have h1 : (n + m) * f.bytes ≤ 67108864 * 1048576 := Nat.mul_le_mul hle (by omega)
    omega
  have hcap := grownCap_ge w (n + m) cc el
  have hr' : HR S base μ h w.drew := hr.of_heap rfl
  have hsz : (Builtin.zeroCells z.cells (grownCap w (n + m) cc el - (n + m))).size = (grownCap w (n + m) cc el - (n + m)) * ie.size := by rw [size_zeroCells, i7]
  have hsum : (n + m) * ie.size + (grownCap w (n + m) cc el - (n + m)) * ie.size = grownCap w (n + m) cc el * ie.size := by
    rw [← Nat.add_mul]; congr 1; omega
  have hln : new'.length = m * ie.size := hs.newsLen
  have hlen : (old' ++ new').length = (n + m) * ie.size := by rw [List.length_append, hl0, hln, Nat.add_mul]
  obtain ⟨h'', y', r1, r2, r3, r4, r5, r6⟩ := hr'.apNew (k := fun v h => .val v h) (l' := old' ++ new') (arr := (old' ++ new').toArray ++ Builtin.zeroCells z.cells (grownCap w (n + m) cc el - (n + m))) (c := grownCap w (n + m) cc el)
    (by rw [any]; exact fun q => by cases q) (hv0.append hv) (fun v hv => (List.mem_append.1 hv).elim (fun q => h0 v q) (fun q => hs.one v q)) el
    (fun i hi => by rw [Array.getElem?_append_left (by simpa using hi)]; simp) (by rw [Array.size_append, hsz, List.size_toArray, hlen, hsum]) hlen hcap
  rw [any] at r1
  injection r1 with q1 q2
  subst q2
  injection q1 with q1
  subst q1
  refine ⟨_, _, _, _, _, any, ⟨r6, Mu.le_set r2 _, r5, Mu.set_fresh r3, ?_, ?_⟩, ?_, run_append_grow_src (P := P) w t tx ty el f z hu i1 i4 base0 n cc old' (by rw [i2]; exact hold) cx m new' (by rw [i2]; exact hs) hg (by omega) (growslice_fits hg hfit)⟩
  · exact (below_drew w).trans ((Below.refl base w.drew).alloc hr'.bs _)
  · exact KeepD.alloc w.drew _
  · refine .slGr (Mu.set_self _ _ _) (fun _ => rfl) hcap ?_ rfl
    show 0 + _ * ie.size = ((old' ++ new').toArray ++ _).size
    rw [Array.size_append, hsz, List.size_toArray, hlen, hsum, Nat.zero_add]
/-- what is appended behind a row's last cell, where there is room -/
theorem app_room {t tx ty el : TypeId} {i ie : TI} (ht : TOk P t i) (hd : i.desc = .slice el) (hte : TOk P el ie) {L : Loc} {o n cc m : Nat} {new' : List Value} {cx : Value} (hs : Src P ie.size tx cx m new' w) (hc : n + m ≤ cc)
    (hg : ∀ j, j < new'.length → (w.cell? ⟨L.blk, L.off + (o + n * ie.size) + j, none⟩).isSome = true ∧ w.frozen? ⟨L.blk, L.off + (o + n * ie.size) + j, none⟩ = false) :
    (Builtin.append_ #[t, tx] ty #[.slice (some ⟨L.blk, L.off + o, none⟩) n cc, cx]).run P w = .ok (.slice (some ⟨L.blk, L.off + o, none⟩) (n + m) cc) (w.setCells L.blk (L.off + (o + n * ie.size)) new') := by
  have hu := ht.und
  rw [hd] at hu
  obtain ⟨f, i1, i2, i3, _⟩ := hte.info
  have e1 : L.off + o + n * f.size = L.off + (o + n * ie.size) := by rw [i2]; omega
  have := run_append_room_src (P := P) w t tx ty el f hu i1 L.blk (L.off + o) n cc cx m new' (by rw [i2]; exact hs) hc (fun j hj => by rw [e1]; exact (hg j hj).1) (fun j hj => by rw [e1]; exact (hg j hj).2)
  rw [e1] at this
  exact this
theorem app_none {t tx ty el : TypeId} {i ie : TI} (ht : TOk P t i) (hd : i.desc = .slice el) (hte : TOk P el ie) {b0 : Option Addr} {n cc : Nat} {new' : List Value} {cx : Value} (hs : Src P ie.size tx cx 0 new' w) (hc : n ≤ cc) :
    (Builtin.append_ #[t, tx] ty #[.slice b0 n cc, cx]).run P w = .ok (.slice b0 n cc) w := by
  have hu := ht.und
  rw [hd] at hu
  obtain ⟨f, i1, i2, i3, _⟩ := hte.info
  have hl := hs.newsLen
  rw [Nat.zero_mul] at hl
  have hn := List.eq_nil_of_length_eq_zero hl
  subst hn
  have hcl := hs.cells
  rw [← i2] at hcl
  cases b0 <;> rcases hs.kind with ⟨e', hk⟩ | hk <;> simp [Builtin.append_, run_underlying hu, run_underlying hk, Go.sizeOf, typeInfo, i1, hs.len, hc, hcl, storeCells]
theorem hStore_ne {b o : Nat} {vs : List AV} {k : Heap → Out} (hne : hStore h b o vs k ≠ .bad) : ∃ n c kd fm, h.get b = .cells n c kd fm ∧ o + vs.length ≤ n ∧ Alive h b := by
  unfold hStore at hne
  obtain ⟨n, c, kd, fm, e1, e2⟩ := onCells_ne hne
  rw [e2] at hne
  obtain ⟨q1, q2⟩ := bo_ne' hne
  rw [q2] at hne
  have := ble_iff.1 q1
  rw [lenL_eq] at this
  exact ⟨n, c, kd, fm, e1, this, (famWr_ne e1 hne).2.1⟩
theorem e_appTo (hr : HR S base μ h w) {t tx ty el : TypeId} {i ie : TI} (ht : TOk P t i) (hd : i.desc = .slice el) (hte : TOk P el ie) (hb : ie.bytes ≤ 1048576) (hz : 0 < ie.size) {m : Nat} {new : List AV} {new' : List Value}
    {s : AV} {cs cx : Value} (hs : Src P ie.size tx cx m new' w) (hv : VRs μ new new') (hx : VR μ s cs) (hne : appTo ie.size s h m new k ≠ .bad) :
    ∃ μ' v h' cv w', (∀ k : K, appTo ie.size s h m new k = k v h') ∧ Ext S base μ h w μ' h' w' ∧ VR μ' v cv ∧ (Builtin.append_ #[t, tx] ty #[cs, cx]).run P w = .ok cv w' := by
  unfold appTo at hne
  have hnl : new.length = m * ie.size := by rw [hv.length]; exact hs.newsLen
  rcases onSl_ne hne with ⟨b, o, n, c, ex, e1, e2⟩ | ⟨⟨m0, l0, l0', e1⟩, e2⟩
  · rw [e2] at hne
    subst e1
    have hx0 := hx
    obtain ⟨L, ad, cc, h1, rfl, hn, ha, g1, g2⟩ := hx.sl_inv
    by_cases hm : m = 0
    · subst hm
      exact ⟨μ, _, h, _, w, fun k => rfl, Ext.refl hr, hx0, app_none ht hd hte hs hn⟩
    rw [nbeq_f hm, bo_f] at hne
    cases ex with
    | true =>
      rw [bo_t] at hne
      have hcc := g1 rfl
      subst hcc
      by_cases hroom : n + m ≤ cc
      · rw [show Nat.ble (Nat.add n m) cc = true from ble_iff.2 hroom, bo_t] at hne
        have hne' := hne
        obtain ⟨h', any⟩ := hStore_ex hne
        obtain ⟨h'', q1, q2, q3, q4, q5⟩ := hr.stN (k := fun h => .nrm Env.nil h) h1 (by rw [any]; exact fun q => by cases q) hv hs.one
        rw [any] at q1
        injection q1 with _ q1
        subst q1
        have had := ha (by omega)
        subst had
        refine ⟨μ, .slice b o (Nat.add n m) cc true, h', _, w.setCells L.blk (L.off + (o + n * ie.size)) new', fun k => ?_, ⟨q2, Mu.le_refl _, by omega, fun _ _ q => q, setCells_below q4 _ _ _, KeepD.setCells _ _ _ _⟩, ?_, app_room ht hd hte hs hroom q5⟩
        · show bo (Nat.beq m 0) _ (bo true (bo (Nat.ble (Nat.add n m) cc) (hStore h b (Nat.add o (Nat.mul n ie.size)) new fun h => k (.slice b o (Nat.add n m) cc true) h) _) _) = _
          rw [nbeq_f hm, bo_f, bo_t, show Nat.ble (Nat.add n m) cc = true from ble_iff.2 hroom, bo_t, any]
        · exact .slEx h1 (fun _ => rfl) hroom
      · have hf : Nat.ble (Nat.add n m) cc = false := by
          cases q : Nat.ble (Nat.add n m) cc with
          | false => rfl
          | true => exact absurd (ble_iff.1 q) hroom
        rw [hf, bo_f] at hne
        obtain ⟨nb, ct, kd, fm, p1, p2, p3, p4⟩ := hLoadN_ne hne
        rw [p4, appL_eq] at hne
        obtain ⟨vs, v1, v2, v3, v4⟩ := hr.loadN h1 p1 p3 p2
        have v1' : vs.length = n * ie.size := v1
        have hload := run_loadPart (P := P) (w := w.drew) (L := L) (o := o) (ad := ad) (vs := vs) (fun q => ha (fun z => by have hn0 : n = 0 := (by omega); rw [hn0] at v1'; omega)) v2
        obtain ⟨μ', v, h', cv, w', r1, r2, r3, r4⟩ := app_new (cc := cc) (base0 := some ad) hr ht hd hte hb hs hv v4 v3 v1' (by rw [v1'] at hload; exact hload) (by omega) rfl hne
        refine ⟨μ', v, h', cv, w', fun k => ?_, r2, r3, r4⟩
        show bo (Nat.beq m 0) _ (bo true (bo (Nat.ble (Nat.add n m) cc) _ (hLoadN h b o (Nat.mul n ie.size) fun old => appNew ie.size h (appL old new) (Nat.add n m) k)) _) = _
        rw [nbeq_f hm, bo_f, bo_t, hf, bo_f, hLoadN_at p1 p2 p3, appL_eq]
        exact r1 k
    | false =>
      rw [bo_f] at hne
      obtain ⟨hext, hsz⟩ := g2 rfl
      obtain ⟨t1, t2⟩ := bo_ne' hne
      rw [t2] at hne
      have hcs : c = ie.size := nbeq_iff.1 t1
      subst hcs
      obtain ⟨nb, ct, kd, fm, p1, p2⟩ := onCells_ne hne
      rw [p2] at hne
      rw [← hsz] at hext
      by_cases hend : o + n * ie.size = nb
      · have hE : Nat.beq (Nat.add o (Nat.mul n ie.size)) nb = true := nbeq_iff.2 hend
        rw [hE, bo_t] at hne
        obtain ⟨t3, t4⟩ := bo_ne' hne
        rw [t4] at hne
        have hkd : kd = 1 := nbeq_iff.1 t3
        subst hkd
        rw [appL_eq] at hne
        have hle : n + m ≤ 67108864 := appGrow_le hne
        obtain ⟨h', y, any⟩ := appGrow_any hne
        obtain ⟨h'', y', ow, fl, r1, r2, r3, r4, r5, r6, r7, r8, r9, r10, r11, r12⟩ := hr.grown (k := fun v h => .val v h) h1 p1 (l := readCT ct (Nat.mul n ie.size) o ++ new) (n := n + m) (sz := ie.size) (by
          show appGrow ie.size h b fm (readCT ct (Nat.mul n ie.size) o ++ new) (Nat.add n m) (fun v h => .val v h) ≠ .bad
          rw [any]; exact fun q => by cases q)
        have r1' : appGrow ie.size h b fm (readCT ct (Nat.mul n ie.size) o ++ new) (Nat.add n m) (fun v h => .val v h) = .val (.slice y' 0 (n + m) ie.size false) h'' := r1
        rw [any] at r1'
        injection r1' with q1 q2
        subst q2
        injection q1 with q1
        subst q1
        have hk : ∀ k : K, appTo ie.size (.slice b o n ie.size false) h m new k = k (.slice y 0 (Nat.add n m) ie.size false) h' := by
          intro k
          show bo (Nat.beq m 0) _ (bo false _ (bo (Nat.beq ie.size ie.size) (onCells (h.get b) (fun nb ct kd fm => bo (Nat.beq (Nat.add o (Nat.mul n ie.size)) nb) (bo (Nat.beq kd 1) (appGrow ie.size h b fm (appL (readCT ct (Nat.mul n ie.size) o) new) (Nat.add n m) k) .bad) _) .bad) .bad)) = _
          rw [nbeq_f hm, bo_f, bo_f, nbeq_t, bo_t, p1]
          show bo (Nat.beq (Nat.add o (Nat.mul n ie.size)) nb) (bo true _ .bad) _ = _
          rw [hE, bo_t, bo_t, appL_eq, any]
        obtain ⟨vs, v1, v2, v3, v4⟩ := hr.loadN h1 p1 r10 (o := o) (n := n * ie.size) (by omega)
        by_cases hroom : n + m ≤ cc
        · have had := ha (by omega)
          subst had
          obtain ⟨z1, z2⟩ := hr.room h1 p1 r10 (by decide)
          have hmul : (n + m) * ie.size ≤ cc * ie.size := Nat.mul_le_mul_right _ hroom
          rw [Nat.add_mul] at hmul
          have hln : new'.length = m * ie.size := hs.newsLen
          have hp := r2.placeIn (o := o) (old := readCT ct (Nat.mul n ie.size) o) (new := new) (new' := new') h1 r3 r5 r9 r11 r8 r7 (by rw [readCT_length]; exact hend)
            (fun i hi => by rw [readCT_length] at hi; exact readCT_get ct _ o i hi) (by omega) hv hs.one r12
          have e3 : L.off + nb = L.off + (o + n * ie.size) := by omega
          rw [e3] at hp
          refine ⟨_, _, h', _, w.setCells L.blk (L.off + (o + n * ie.size)) new', hk, ⟨hp, Mu.le_set r3 _, r6, Mu.set_fresh r4, setCells_below z1 _ _ _, KeepD.setCells _ _ _ _⟩, ?_,
            app_room ht hd hte hs hroom (fun j hj => by have := z2 (o + n * ie.size + j) (by omega); rw [← Nat.add_assoc L.off] at this; exact this)⟩
          refine .slGr (Mu.set_self _ _ _) (fun _ => rfl) hroom ?_ hsz
          show 0 + cc * L.sz = L.ext - o
          rw [← hsz]; omega
        · have hu := ht.und
          rw [hd] at hu
          obtain ⟨f, i1, i2, i3, z, i4, i5, i6, i7, _⟩ := hte.info
          have v1' : vs.length = n * ie.size := v1
          have hload := run_loadPart (P := P) (w := w.drew) (L := L) (o := o) (ad := ad) (vs := vs) (fun q => ha (fun z => by have hn0 : n = 0 := (by omega); rw [hn0] at v1'; omega)) v2
          rw [v1'] at hload
          have hfit : (n + m) * f.bytes ≤ 140737488355328 := by
            have h1 : (n + m) * f.bytes ≤ 67108864 * 1048576 := Nat.mul_le_mul hle (by omega)
            omega
          have hcap := grownCap_ge w (n + m) cc el
          have hsz2 : (Builtin.zeroCells z.cells (grownCap w (n + m) cc el - (n + m))).size = (grownCap w (n + m) cc el - (n + m)) * ie.size := by rw [size_zeroCells, i7]
          have hsum : (n + m) * ie.size + (grownCap w (n + m) cc el - (n + m)) * ie.size = grownCap w (n + m) cc el * ie.size := by
            rw [← Nat.add_mul]; congr 1; omega
          have hlen : (vs ++ new').length = (n + m) * ie.size := by rw [List.length_append, v1', hs.newsLen, Nat.add_mul]
          have r2' : HR S base μ h' w.drew := r2.of_heap rfl
          have hasz : ((vs ++ new').toArray ++ Builtin.zeroCells z.cells (grownCap w (n + m) cc el - (n + m))).size = grownCap w (n + m) cc el * ie.size := by
            rw [Array.size_append, hsz2, List.size_toArray, hlen, hsum]
          have hle2 := Mu.le_set r3 ⟨w.drew.heap.size, 0, ((vs ++ new').toArray ++ Builtin.zeroCells z.cells (grownCap w (n + m) cc el - (n + m))).size, ie.size⟩
          have hp := r2'.place (L := ⟨w.drew.heap.size, 0, ((vs ++ new').toArray ++ Builtin.zeroCells z.cells (grownCap w (n + m) cc el - (n + m))).size, ie.size⟩) r5 r3
            (.cells ((vs ++ new').toArray ++ Builtin.zeroCells z.cells (grownCap w (n + m) cc el - (n + m))) el) rfl
            (by
              rw [r7]
              refine ORel_made rfl rfl rfl r2'.bs ((v4.append hv).mono hle2) (fun v hv => (List.mem_append.1 hv).elim (fun q => v3 v q) (fun q => hs.one v q))
                (fun i hi => by rw [Array.getElem?_append_left (by simpa using hi)]; simp) ?_
              rw [hasz, hlen]; exact Nat.mul_le_mul_right _ hcap)
            (fun n' c' kd fm' q => by
              rw [r7] at q; cases q
              have := r2.fmOk b L nb ct 1 fm h1 r9
              exact this)
            (fun n' c' fm' ow' fl' tp' q1 q2 => by
              rw [r7] at q1; cases q1
              rw [r8] at q2; cases q2; rfl)
          refine ⟨_, _, h', _, _, hk, ⟨hp, hle2, r6, Mu.set_fresh r4, ?_, ?_⟩, ?_, run_append_grow_src (P := P) w t tx ty el f z hu i1 i4 (some ad) n cc vs (by rw [i2]; exact hload) cx m new' (by rw [i2]; exact hs) (by omega) (by omega) (growslice_fits (by omega) hfit)⟩
          · exact (below_drew w).trans ((Below.refl base w.drew).alloc r2'.bs _)
          · exact KeepD.alloc w.drew _
          · refine .slGr (Mu.set_self _ _ _) (fun _ => rfl) hcap ?_ rfl
            show 0 + _ * ie.size = _
            rw [Nat.zero_add]; exact hasz.symm
      · have hE : Nat.beq (Nat.add o (Nat.mul n ie.size)) nb = false := by
          cases q : Nat.beq (Nat.add o (Nat.mul n ie.size)) nb with
          | false => rfl
          | true => exact absurd (nbeq_iff.1 q) hend
        rw [hE, bo_f] at hne
        obtain ⟨nb', ct', kd', fm', s1, s2, hal⟩ := hStore_ne hne
        rw [p1] at s1; cases s1
        have s2' : o + n * ie.size + new.length ≤ nb := s2
        obtain ⟨h', any⟩ := hStore_ex hne
        obtain ⟨h'', q1, q2, q3, q4, q5⟩ := hr.stN (k := fun h => .nrm Env.nil h) h1 (by rw [any]; exact fun q => by cases q) hv hs.one
        rw [any] at q1
        injection q1 with _ q1
        subst q1
        have hob := hr.obj b L h1 hal
        rw [p1] at hob
        have hnbL := hob.1
        have hroom : n + m ≤ cc := by
          rcases Nat.lt_or_ge cc (n + m) with q | q
          · have : (cc + 1) * ie.size ≤ (n + m) * ie.size := Nat.mul_le_mul_right _ q
            rw [Nat.add_mul, Nat.add_mul] at this
            omega
          · exact q
        have had := ha (by omega)
        subst had
        refine ⟨μ, .slice b o (Nat.add n m) ie.size false, h', _, w.setCells L.blk (L.off + (o + n * ie.size)) new', fun k => ?_, ⟨q2, Mu.le_refl _, by omega, fun _ _ q => q, setCells_below q4 _ _ _, KeepD.setCells _ _ _ _⟩, ?_, app_room ht hd hte hs hroom q5⟩
        · show bo (Nat.beq m 0) _ (bo false _ (bo (Nat.beq ie.size ie.size) (onCells (h.get b) (fun nb ct kd fm => bo (Nat.beq (Nat.add o (Nat.mul n ie.size)) nb) _ (hStore h b (Nat.add o (Nat.mul n ie.size)) new fun h => k (.slice b o (Nat.add n m) ie.size false) h)) .bad) .bad)) = _
          rw [nbeq_f hm, bo_f, bo_f, nbeq_t, bo_t, p1]
          show bo (Nat.beq (Nat.add o (Nat.mul n ie.size)) nb) _ _ = _
          rw [hE, bo_f, any]
        · exact .slGr h1 (fun _ => rfl) hroom (by rw [← hsz]; exact hext) hsz
  · rw [e2] at hne
    subst e1
    have hx' := hx.nils_inv
    subst hx'
    by_cases hm : m = 0
    · subst hm
      exact ⟨μ, _, h, _, w, fun k => rfl, Ext.refl hr, .nils, app_none ht hd hte hs (Nat.le_refl _)⟩
    rw [nbeq_f hm, bo_f] at hne
    obtain ⟨μ', v, h', cv, w', r1, r2, r3, r4⟩ := app_new (ty := ty) (cc := 0) (n := 0) (base0 := none) (old := []) (old' := []) hr ht hd hte hb hs hv .nil (fun _ q => by cases q) (by simp) (run_firstCells_none w.drew ie.size 0 0 0) (by omega) (l := new) rfl (by rw [Nat.zero_add]; exact hne)
    rw [Nat.zero_add] at r1
    refine ⟨μ', v, h', cv, w', fun k => ?_, r2, r3, r4⟩
    show bo (Nat.beq m 0) _ (appNew ie.size h new m k) = _
    rw [nbeq_f hm, bo_f]
    exact r1 k
theorem e_append (hr : HR S base μ h w) {t u ty el el' : TypeId} {i j ie : TI} (ht : TOk P t i) (hd : i.desc = .slice el) (hu : TOk P u j) (hdu : j.desc = .slice el') (hte : TOk P el ie) (hb : ie.bytes ≤ 1048576) (hz : 0 < ie.size) {x y : Rd} {cx cy : Value} (hne : oAppend ie.size x y e h k ≠ .bad) (hx : VR μ (x e) cx) (hy : VR μ (y e) cy) :
    EffR P S base μ h w (oAppend ie.size x y) e (valS (Builtin.append_ #[t, u] ty #[cx, cy])) := by
  unfold oAppend at hne
  have hku := hu.und
  rw [hdu] at hku
  rcases onSl_ne hne with ⟨b, o, n, c, ex, e1, e2⟩ | ⟨⟨m0, l0, l0', e1⟩, e2⟩
  · rw [e2] at hne
    rw [e1] at hy
    obtain ⟨L, ad, cc, h1, rfl, hn, ha, g1, g2⟩ := hy.sl_inv
    obtain ⟨nb, ct, kd, fm, p1, p2, p3, p4⟩ := hLoadN_ne hne
    rw [p4] at hne
    obtain ⟨vs, v1, v2, v3, v4⟩ := hr.loadN h1 p1 p3 p2
    have v1' : vs.length = n * ie.size := v1
    have hs : Src P ie.size u (.slice (some ad) n cc) n vs w := Src.ofSlice w hku ad n cc vs v1' (fun j v hj => by
      have : vs.length ≠ 0 := fun q => by rw [List.eq_nil_of_length_eq_zero q] at hj; simp at hj
      rw [ha (fun z => by have hn0 : n = 0 := (by omega); subst hn0; omega), addr_add]
      exact v2 j v hj) v3
    obtain ⟨μ', v, h', cv, w', r1, r2, r3, r4⟩ := e_appTo (ty := ty) hr ht hd hte hb hz hs v4 hx hne
    refine ⟨μ', v, h', cv, w', fun k => ?_, r2, r3, .inl (valS_run1 r4)⟩
    unfold oAppend
    rw [e1]
    show hLoadN h b o (Nat.mul n ie.size) (fun new => appTo ie.size (x e) h n new k) = _
    rw [hLoadN_at p1 p2 p3]
    exact r1 k
  · rw [e2] at hne
    rw [e1] at hy
    have hy' := hy.nils_inv
    subst hy'
    obtain ⟨μ', v, h', cv, w', r1, r2, r3, r4⟩ := e_appTo (ty := ty) hr ht hd hte hb hz (Src.ofNil w hku 0) .nil hx hne
    refine ⟨μ', v, h', cv, w', fun k => ?_, r2, r3, .inl (valS_run1 r4)⟩
    unfold oAppend
    rw [e1]
    exact r1 k
end Dv
/-! every operation that is no call of a function -/
namespace Dv
open Go Go.RowKit
variable {S : Sites} {base : Nat} {μ μ' : Mu} {h : Heap} {w w' : World} {P : Program} {tt : TT} {ng : Nat} {kp : Nat → Bool} {nt : Nat} {M : List Nat} {e : Env} {a : Act} {k : K}

theorem run_call_builtin {b : Builtin} {args : Array Operand} {ats : Array TypeId} {dst : Option Tmp} {ty : TypeId} {pos : String} {after : Array Edge} {guard : Option (Nat × Bool)} {s : Sem Value}
    (hb : ∀ cs, builtin b ats ty cs (args.map a.eval) = valS s) (w : World) : (execOp a.eval ⟨dst, .call ⟨.builtin b, args, ats⟩, ty, pos, after, guard⟩).run P w = (valS s).run P w := by
  simp only [execOp, resolve, invoke, Sem.run_bind, Sem.run_pure, Result.andThen_ok, hb]
theorem map1 (x : Operand) : Array.map a.eval #[x] = #[a.eval x] := by simp
theorem map2 (x y : Operand) : Array.map a.eval #[x, y] = #[a.eval x, a.eval y] := by simp
theorem arr1 {α : Type} {l : Array α} {x : α} (q : l.toList = [x]) : l = #[x] := by apply Array.ext'; simpa using q
theorem arr2 {α : Type} {l : Array α} {x y : α} (q : l.toList = [x, y]) : l = #[x, y] := by apply Array.ext'; simpa using q

theorem read_ok (htt : TTOk P tt) (h20 : 20 ≤ P.types.size + 1) (hbig : P.types.size + 2 ≤ 10000) (hr : HR S base μ h w) (ha : AR ng kp nt μ M e a) {o : Oper} {d : OpS} (hd : compOp tt ng M o.op = some d) (hc : clsOf o.op = 1) (hne : d.op e h k ≠ .bad) : RdR P μ h w d.op e (execOp a.eval o) := by
  obtain ⟨dst, op, ty, pos, after, guard⟩ := o
  simp only at hd hc
  cases op with
  | load t x =>
    obtain ⟨i, hi, hd⟩ := bind_some2 (show (tt t).bind _ = some d from hd)
    split at hd
    · rename_i hg
      obtain ⟨u, h1, rfl⟩ := o1_some hd
      exact r_loadN hr (htt _ _ hi) hg hne (ha.opd h1)
    · rename_i hg
      split at hd
      · obtain ⟨u, h1, rfl⟩ := o1_some hd
        exact r_load1 hr (htt _ _ hi) (by simpa using hg) hne (ha.opd h1)
      · cases hd
  | lookup t m x ok =>
    obtain ⟨i, hi, hd⟩ := bind_some2 (show (tt t).bind _ = some d from hd)
    split at hd
    · rename_i kt el q1
      obtain ⟨sh, hs, hd⟩ := bind_some2 hd
      obtain ⟨ie, hie, hd⟩ := bind_some2 hd
      split at hd
      · cases hd
      · rename_i hg
        split at hd
        · rename_i z hz
          cases ok with
          | true =>
            obtain ⟨u, v, h2, h3, rfl⟩ := o2_some (show o2 ng M m x (.lookupOk sh z) = some d from hd)
            exact (r_lookup htt h20 hbig hr (htt _ _ hi) q1 (htt _ _ hie) (by simpa using hg) hz hs (ha.opd h2) (ha.opd h3)).2 _ hne
          | false =>
            obtain ⟨u, v, h2, h3, rfl⟩ := o2_some (show o2 ng M m x (.lookup sh z) = some d from hd)
            exact (r_lookup htt h20 hbig hr (htt _ _ hi) q1 (htt _ _ hie) (by simpa using hg) hz hs (ha.opd h2) (ha.opd h3)).1 _ hne
        · cases hd
    · cases hd
  | call c =>
    obtain ⟨callee, args, ats⟩ := c
    cases callee with
    | builtin b =>
      have hb : b = .len := by cases b <;> first | rfl | (cases hc; done)
      subst hb
      have hd' : (match args.toList, ats.toList with
        | [x], [t] => (tt t).bind fun i => match i.desc with
          | .slice _ => o1 ng M x .lenV
          | .string => o1 ng M x .lenS
          | .map _ _ => o1 ng M x .lenM
          | _ => none
        | _, _ => none) = some d := hd
      split at hd'
      · rename_i x t q1 q2
        have e1 := arr1 q1
        have e2 := arr1 q2
        subst e1; subst e2
        obtain ⟨i, hi, hd'⟩ := bind_some2 hd'
        have fin : ∀ {u : OpdS} {dd : OpS}, RdR P μ h w dd.op e (valS (Builtin.len_ #[t] ty #[a.eval x])) → RdR P μ h w dd.op e (execOp a.eval ⟨dst, .call ⟨.builtin .len, #[x], #[t]⟩, ty, pos, after, guard⟩) := by
          intro u dd q
          obtain ⟨v, cv, r1, r2, r3⟩ := q
          refine ⟨v, cv, r1, r2, ?_⟩
          rw [run_call_builtin (s := Builtin.len_ #[t] ty #[a.eval x]) (fun cs => by rw [map1]; rfl)]
          exact r3
        split at hd'
        · rename_i el q
          obtain ⟨u, h1, rfl⟩ := o1_some hd'
          exact fin (u := u) (r_lenV t (htt _ _ hi) q hne (ha.opd h1) ty)
        · rename_i q
          obtain ⟨u, h1, rfl⟩ := o1_some hd'
          exact fin (u := u) (r_lenS t (htt _ _ hi) q hne (ha.opd h1) ty)
        · rename_i kt el q
          obtain ⟨u, h1, rfl⟩ := o1_some hd'
          exact fin (u := u) (r_lenM hr t (htt _ _ hi) q hne (ha.opd h1) ty)
        · cases hd'
      · cases hd'
    | _ => cases hc
  | _ => cases hc

/-- an operation that is no call of a function's -/
def OpS.plain : OpS → Bool
  | .call _ _ => false
  | .callV _ _ => false
  | _ => true

theorem eff_ok (htt : TTOk P tt) (h20 : 20 ≤ P.types.size + 1) (hbig : P.types.size + 2 ≤ 10000) (hr : HR S base μ h w) (ha : AR ng kp nt μ M e a) {o : Oper} {d : OpS} (hd : compOp tt ng M o.op = some d) (hp : d.plain = true) (hne : d.op e h k ≠ .bad) : EffR P S base μ h w d.op e (execOp a.eval o) := by
  have hag := ag_ok htt h20 hbig
  by_cases hc0 : clsOf o.op = 0
  · exact ((quiet_ok htt hag ha hd hc0 hne).read h w).eff hr
  by_cases hc1 : clsOf o.op = 1
  · exact (read_ok htt h20 hbig hr ha hd hc1 hne).eff hr
  obtain ⟨dst, op, ty, pos, after, guard⟩ := o
  simp only at hd hc0 hc1
  cases op with
  | alloc t =>
    obtain ⟨i, hi, rfl⟩ := map_some2 (show (tt t).map _ = some d from hd)
    exact e_alloc hr (htt _ _ hi) hne
  | box t x =>
    obtain ⟨i, hi, hd⟩ := bind_some2 (show (tt t).bind _ = some d from hd)
    obtain ⟨u, h1, rfl⟩ := o1_some hd
    exact e_box hr hne (ha.opd h1)
  | buildSlice t len prt =>
    obtain ⟨i, hi, hd⟩ := bind_some2 (show (tt t).bind _ = some d from hd)
    split at hd
    · rename_i el q1
      obtain ⟨ie, h0, hd⟩ := bind_some2 hd
      split at hd
      · cases hd
      · rename_i hle
        obtain ⟨ps, h1, rfl⟩ := map_some2 hd
        exact e_buildSlice htt ha hr (htt _ _ hi) q1 (htt _ _ h0) (by omega) h1 hne
    · cases hd
  | store t x y =>
    obtain ⟨i, hi, hd⟩ := bind_some2 (show (tt t).bind _ = some d from hd)
    split at hd
    · obtain ⟨u, v, h1, h2, rfl⟩ := o2_some hd
      exact e_storeN hr (htt _ _ hi) hne (ha.opd h1) (ha.opd h2)
    · split at hd
      · rename_i hs
        obtain ⟨u, v, h1, h2, rfl⟩ := o2_some hd
        exact e_store1 hr (htt _ _ hi) hs hne (ha.opd h1) (ha.opd h2)
      · cases hd
  | makeMap t r =>
    cases r with
    | some r => cases hd
    | none =>
      obtain ⟨i, hi, hd⟩ := bind_some2 (show (tt t).bind _ = some d from hd)
      split at hd
      · obtain ⟨sh, h1, rfl⟩ := map_some2 hd
        exact e_mkMap hr hne
      · cases hd
  | makeSlice t l c =>
    obtain ⟨i, hi, hd⟩ := bind_some2 (show (tt t).bind _ = some d from hd)
    split at hd
    · rename_i el q1
      obtain ⟨ie, h0, hd⟩ := bind_some2 hd
      split at hd
      · rename_i hb
        obtain ⟨u, v, h1, h2, rfl⟩ := o2_some hd
        exact e_mkSlice hr (htt _ _ hi) q1 (htt _ _ h0) hb hne (ha.opd h1) (ha.opd h2)
      · cases hd
    · cases hd
  | mapUpdate t m x y =>
    obtain ⟨i, hi, hd⟩ := bind_some2 (show (tt t).bind _ = some d from hd)
    split at hd
    · rename_i kt el q1
      obtain ⟨sh, hs, hd⟩ := bind_some2 hd
      obtain ⟨u, v, z, h1, h2, h3, rfl⟩ := o3_some hd
      exact e_mapUpd htt h20 hbig hr (htt _ _ hi) q1 hs (ha.opd h1) (ha.opd h2) (ha.opd h3) hne
    · cases hd
  | insert t m x y =>
    obtain ⟨i, hi, hd⟩ := bind_some2 (show (tt t).bind _ = some d from hd)
    split at hd
    · rename_i kt el q1
      obtain ⟨sh, hs, hd⟩ := bind_some2 hd
      obtain ⟨u, v, z, h1, h2, h3, rfl⟩ := o3_some hd
      exact e_mapUpd htt h20 hbig hr (htt _ _ hi) q1 hs (ha.opd h1) (ha.opd h2) (ha.opd h3) hne
    · cases hd
  | call c =>
    obtain ⟨callee, args, ats⟩ := c
    have fin : ∀ {b : Builtin} {s : Sem Value} {dd : OpS}, callee = .builtin b → (∀ cs, builtin b ats ty cs (args.map a.eval) = valS s) → EffR P S base μ h w dd.op e (valS s) → EffR P S base μ h w dd.op e (execOp a.eval ⟨dst, .call ⟨callee, args, ats⟩, ty, pos, after, guard⟩) := by
      intro b s dd hcl hb q
      subst hcl
      obtain ⟨μ', v, h', cv, w', r1, r2, r3, r4⟩ := q
      refine ⟨μ', v, h', cv, w', r1, r2, r3, ?_⟩
      rw [run_call_builtin hb]
      exact r4
    cases callee with
    | builtin b =>
      cases b with
      | append =>
        have hd' : (match args.toList, ats.toList with
          | [s, x], [t, u] => (tt t).bind fun i => (tt u).bind fun j => match i.desc, j.desc with
            | .slice e, .slice _ => (tt e).bind fun ie => if ie.bytes ≤ 1048576 ∧ 0 < ie.size then o2 ng M s x (.append ie.size) else none
            | _, _ => none
          | _, _ => none) = some d := hd
        split at hd'
        · rename_i s x t u q1 q2
          have e1 := arr2 q1
          have e2 := arr2 q2
          subst e1; subst e2
          obtain ⟨i, hi, hd'⟩ := bind_some2 hd'
          obtain ⟨j, hj, hd'⟩ := bind_some2 hd'
          split at hd'
          · rename_i el el' q3 q4
            obtain ⟨ie, h0, hd'⟩ := bind_some2 hd'
            split at hd'
            · rename_i hb
              obtain ⟨y, v, h1, h2, rfl⟩ := o2_some hd'
              exact fin (b := .append) (s := Builtin.append_ #[t, u] ty #[a.eval s, a.eval x]) rfl (fun cs => by rw [map2]; rfl) (e_append hr (htt _ _ hi) q3 (htt _ _ hj) q4 (htt _ _ h0) hb.1 hb.2 hne (ha.opd h1) (ha.opd h2))
            · cases hd'
          · cases hd'
        · cases hd'
      | copy =>
        have hd' : (match args.toList, ats.toList with
          | [s, x], [t, u] => (tt t).bind fun i => (tt u).bind fun j => match i.desc, j.desc with
            | .slice e, .slice _ => (tt e).bind fun ie => o2 ng M s x (.copy ie.size)
            | _, _ => none
          | _, _ => none) = some d := hd
        split at hd'
        · rename_i s x t u q1 q2
          have e1 := arr2 q1
          have e2 := arr2 q2
          subst e1; subst e2
          obtain ⟨i, hi, hd'⟩ := bind_some2 hd'
          obtain ⟨j, hj, hd'⟩ := bind_some2 hd'
          split at hd'
          · rename_i el el' q3 q4
            obtain ⟨ie, h0, hd'⟩ := bind_some2 hd'
            obtain ⟨y, v, h1, h2, rfl⟩ := o2_some hd'
            exact fin (b := .copy) (s := Builtin.copy_ #[t, u] ty #[a.eval s, a.eval x]) rfl (fun cs => by rw [map2]; rfl) (e_copy hr (htt _ _ hi) q3 (htt _ _ h0) hne (ha.opd h1) (ha.opd h2))
          · cases hd'
        · cases hd'
      | clear =>
        have hd' : (match args.toList, ats.toList with
          | [s], [t] => (tt t).bind fun i => match i.desc with
            | .slice e => (tt e).bind fun ie => o1 ng M s (.clear ie.zero)
            | _ => none
          | _, _ => none) = some d := hd
        split at hd'
        · rename_i s t q1 q2
          have e1 := arr1 q1
          have e2 := arr1 q2
          subst e1; subst e2
          obtain ⟨i, hi, hd'⟩ := bind_some2 hd'
          split at hd'
          · rename_i el q3
            obtain ⟨ie, h0, hd'⟩ := bind_some2 hd'
            obtain ⟨y, h1, rfl⟩ := o1_some hd'
            exact fin (b := .clear) (s := Builtin.clear_ #[t] ty #[a.eval s]) rfl (fun cs => by rw [map1]; rfl) (e_clear hr (htt _ _ hi) q3 (htt _ _ h0) hne (ha.opd h1))
          · cases hd'
        · cases hd'
      | len => exact absurd rfl hc1
      | min => exact absurd rfl hc0
      | max => exact absurd rfl hc0
      | _ => cases hd
    | invoke r n => cases hd
    | value f =>
      exfalso
      cases f with
      | func f =>
        obtain ⟨u, h1, rfl⟩ := map_some2 (show (opds ng M args.toList).map (.call f) = some d from hd)
        cases hp
      | _ =>
        obtain ⟨u, h1, hd⟩ := bind_some2 (show (opd ng M _).bind _ = some d from hd)
        obtain ⟨v, h2, rfl⟩ := map_some2 hd
        cases hp
  | load t x => exact absurd rfl hc1
  | lookup t m x ok => exact absurd rfl hc1
  | move x => exact absurd rfl hc0
  | assign x => exact absurd rfl hc0
  | pick c x y => exact absurd rfl hc0
  | build t prt => exact absurd rfl hc0
  | nilCheck x => exact absurd rfl hc0
  | binOp op t x y _ => exact absurd rfl hc0
  | unOp op t x => exact absurd rfl hc0
  | convert s t x => exact absurd rfl hc0
  | makeFunc f x y => exact absurd rfl hc0
  | slice t x lo hi mx => exact absurd rfl hc0
  | fieldAddr s x f => exact absurd rfl hc0
  | field s x f => exact absurd rfl hc0
  | indexAddr t x ix => exact absurd rfl hc0
  | index t x ix => exact absurd rfl hc0
  | extract x i => exact absurd rfl hc0
  | _ => cases hd
end Dv
