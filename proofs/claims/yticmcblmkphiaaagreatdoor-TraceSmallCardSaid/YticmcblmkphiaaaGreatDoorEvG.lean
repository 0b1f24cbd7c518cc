/-
  Codes, functions, rounds; the table of functions; answers that were computed once; from the top.
-/
import Derived.Test.YticmcblmkphiaaaGreatDoorEvF
set_option linter.unusedVariables false
set_option linter.unusedSimpArgs false
set_option linter.unusedSectionVars false
/-! code -/
namespace Dv
open Go Go.RowKit
variable {S : Sites} {base : Nat} {μ μ' μ0 : Mu} {h h' h0 : Heap} {w w' w0 : World} {P : Program} {tt : TT} {ng : Nat} {kp : Nat → Bool} {nt : Nat} {M M' M1 : List Nat} {e e' e1 : Env} {a a' : Act} {k : K} {s : Self} {ops : Array Oper}

/-- the ranges over functions in a code, in the order in which they are numbered -/
def codeSites : Code → List (Array Tmp × Code × Code)
  | .seq a b => codeSites a ++ codeSites b
  | .cond _ a b => codeSites a ++ codeSites b
  | .block _ b => codeSites b
  | .loop b => codeSites b
  | .rangeFunc _ ps a b => (ps, a, b) :: (codeSites a ++ codeSites b)
  | .scope b => codeSites b
  | _ => []
def SitesAt (S : Sites) (kp : Nat → Bool) (nt n : Nat) (l : List (Array Tmp × Code × Code)) : Prop := ∀ j x, l[j]? = some x → S (n + j) = some ⟨kp, nt, x.1, x.2.1, x.2.2⟩
theorem SitesAt.left {n : Nat} {l m : List (Array Tmp × Code × Code)} (h : SitesAt S kp nt n (l ++ m)) : SitesAt S kp nt n l := fun j x hj => h j x (by rw [List.getElem?_append_left (List.getElem?_eq_some_iff.1 hj).1]; exact hj)
theorem SitesAt.right {n : Nat} {l m : List (Array Tmp × Code × Code)} (h : SitesAt S kp nt n (l ++ m)) : SitesAt S kp nt (n + l.length) m := fun j x hj => by
  have := h (l.length + j) x (by rw [List.getElem?_append_right (by omega), show l.length + j - l.length = j from by omega]; exact hj)
  rw [← Nat.add_assoc] at this; exact this
theorem SitesAt.head {n : Nat} {x : Array Tmp × Code × Code} {m : List (Array Tmp × Code × Code)} (h : SitesAt S kp nt n (x :: m)) : S n = some ⟨kp, nt, x.1, x.2.1, x.2.2⟩ ∧ SitesAt S kp nt (n + 1) m :=
  ⟨h 0 x rfl, fun j y hj => by have := h (j + 1) y hj; rw [show n + (j + 1) = n + 1 + j from by omega] at this; exact this⟩
/-- the numbers go on by as many as there are -/
theorem comp_count : ∀ (cd : Code) (n : Nat) (x : CodeS) (n' : Nat) (l : List (List Nat × CodeS × CodeS)), compCode tt ng kp nt n cd = some (x, n', l) → n' = n + (codeSites cd).length
  | .skip, n, x, n', l, h => by cases h; rfl
  | .label _, n, x, n', l, h => by cases h; rfl
  | .region _ ops draw, n, x, n', l, h => by
    obtain ⟨r, h1, h2⟩ := map_some2 (show (compRegion tt ng kp nt ops draw).map _ = some (x, n', l) from h)
    cases h2; rfl
  | .seq a b, n, x, n', l, h => by
    obtain ⟨⟨xa, na, la⟩, h1, h⟩ := bind_some2 (show (compCode tt ng kp nt n a).bind _ = some (x, n', l) from h)
    obtain ⟨⟨xb, nb, lb⟩, h2, h3⟩ := map_some2 h
    cases h3
    have e1 := comp_count a n xa na la h1
    have e2 := comp_count b na xb n' lb h2
    show n' = n + (codeSites a ++ codeSites b).length
    rw [List.length_append]; omega
  | .cond c a b, n, x, n', l, h => by
    obtain ⟨y, h0, h⟩ := bind_some2 (show (opd ng [] c).bind _ = some (x, n', l) from h)
    obtain ⟨⟨xa, na, la⟩, h1, h⟩ := bind_some2 h
    obtain ⟨⟨xb, nb, lb⟩, h2, h3⟩ := map_some2 h
    cases h3
    have e1 := comp_count a n xa na la h1
    have e2 := comp_count b na xb n' lb h2
    show n' = n + (codeSites a ++ codeSites b).length
    rw [List.length_append]; omega
  | .block i b, n, x, n', l, h => by
    obtain ⟨⟨xa, na, la⟩, h1, h3⟩ := map_some2 (show (compCode tt ng kp nt n b).map _ = some (x, n', l) from h)
    cases h3
    exact comp_count b n xa n' l h1
  | .loop b, n, x, n', l, h => by
    obtain ⟨⟨xa, na, la⟩, h1, h3⟩ := map_some2 (show (compCode tt ng kp nt n b).map _ = some (x, n', l) from h)
    cases h3
    exact comp_count b n xa n' l h1
  | .rangeFunc f ps a b, n, x, n', l, h => by
    obtain ⟨y, h0, h⟩ := bind_some2 (show (opd ng [] f).bind _ = some (x, n', l) from h)
    obtain ⟨⟨xa, na, la⟩, h1, h⟩ := bind_some2 h
    obtain ⟨⟨xb, nb, lb⟩, h2, h3⟩ := bind_some2 h
    have h4 : (if ps.toList.all (fun p => kp p && Nat.blt p NT && Nat.blt p nt) then some (CodeS.rangeFunc y n, nb, (ps.toList, xa, xb) :: (la ++ lb)) else none) = some (x, n', l) := h3
    split at h4
    · cases h4
      have e1 := comp_count a (n + 1) xa na la h1
      have e2 := comp_count b na xb n' lb h2
      show n' = n + ((ps, a, b) :: (codeSites a ++ codeSites b)).length
      rw [List.length_cons, List.length_append]; omega
    · cases h4
  | .exit i, n, x, n', l, h => by cases h; rfl
  | .scope b, n, x, n', l, h => comp_count b n x n' l h
  | .ret, n, x, n', l, h => by cases h; rfl
  | .goto _, n, x, n', l, h => by cases h
  | .refuse _, n, x, n', l, h => by cases h

/-! marks -/
def mark (r : Nat) : Deferred := { target := .collected r, args := #[] }
/-- what is deferred: marks alone -/
def Marks (B : Nat) (w : World) (ds : List Deferred) : Prop := ∃ rs : List Nat, ds = rs.map mark ∧ rs.Nodup ∧ ∀ r ∈ rs, B ≤ r ∧ w.heap[r]? = some (.deferred (some []))
theorem Marks.keep {B : Nat} {ds : List Deferred} (hm : Marks B w ds) (hk : KeepD w w') : Marks B w' ds := by
  obtain ⟨rs, h1, h2, h3⟩ := hm
  exact ⟨rs, h1, h2, fun r hr => ⟨(h3 r hr).1, hk r _ (h3 r hr).2⟩⟩
theorem Marks.nil (B : Nat) (w : World) : Marks B w [] := ⟨[], rfl, .nil, fun r hr => by cases hr⟩

/-! how a code ends -/
def CodeR (P : Program) (S : Sites) (base ng : Nat) (kp : Nat → Bool) (nt B : Nat) (b : Frame) (k : List Item) (cs : List Frame) (μ : Mu) (h : Heap) (w : World) (m : Machine) : Out → Prop
  | .nrm e' h' => ∃ μ' a' w', Ext S base μ h w μ' h' w' ∧ AR ng kp nt μ' [] e' a' ∧ Marks B w' a'.defers ∧ Steps P m (lone (b.atR a' k) cs w')
  | .ext i e' h' => ∃ μ' a' w' k1, Ext S base μ h w μ' h' w' ∧ AR ng kp nt μ' [] e' a' ∧ Marks B w' a'.defers ∧ exitTo i k1 = exitTo i k ∧ Steps P m (lone (b.atR a' (.code (.exit i) :: k1)) cs w')
  | .ret e' h' => ∃ μ' a' w' k1, Ext S base μ h w μ' h' w' ∧ AR ng kp nt μ' [] e' a' ∧ Marks B w' a'.defers ∧ Steps P m (lone (b.atR a' (.code .ret :: k1)) cs w')
  | _ => False
variable {B : Nat} {b : Frame} {kk kk' : List Item} {cs : List Frame} {m m' : Machine}
theorem CodeR.after {o : Out} {μ1 : Mu} {h1 : Heap} {w1 : World} (q : CodeR P S base ng kp nt B b kk cs μ1 h1 w1 m' o) (hx : Ext S base μ h w μ1 h1 w1) (hs : Steps P m m') : CodeR P S base ng kp nt B b kk cs μ h w m o := by
  cases o with
  | nrm e' h' => obtain ⟨μ', a', w', r1, r2, r3, r4⟩ := q; exact ⟨μ', a', w', hx.trans r1, r2, r3, hs.trans r4⟩
  | ext i e' h' => obtain ⟨μ', a', w', k1, r1, r2, r3, r5, r4⟩ := q; exact ⟨μ', a', w', k1, hx.trans r1, r2, r3, r5, hs.trans r4⟩
  | ret e' h' => obtain ⟨μ', a', w', k1, r1, r2, r3, r4⟩ := q; exact ⟨μ', a', w', k1, hx.trans r1, r2, r3, hs.trans r4⟩
  | bad => exact q
  | val v h => exact q
/-- what does not end here ends the same with more behind it -/
theorem CodeR.under {o : Out} (q : CodeR P S base ng kp nt B b kk' cs μ h w m o) (hn : ∀ e h, o ≠ .nrm e h) (hk : ∀ i e h, o = .ext i e h → exitTo i kk' = exitTo i kk) : CodeR P S base ng kp nt B b kk cs μ h w m o := by
  cases o with
  | nrm e' h' => exact absurd rfl (hn e' h')
  | ext i e' h' => obtain ⟨μ', a', w', k1, r1, r2, r3, r5, r4⟩ := q; exact ⟨μ', a', w', k1, r1, r2, r3, r5.trans (hk i e' h' rfl), r4⟩
  | ret e' h' => exact q
  | bad => exact q
  | val v h => exact q
theorem onOut_ne {o : Out} {f : Env → Heap → Out} {g : Nat → Env → Heap → Out} {r : Env → Heap → Out} (hne : onOut o f g r ≠ .bad) :
    (∃ e h, o = .nrm e h ∧ onOut o f g r = f e h) ∨ (∃ i e h, o = .ext i e h ∧ onOut o f g r = g i e h) ∨ (∃ e h, o = .ret e h ∧ onOut o f g r = r e h) := by
  cases o with
  | bad => exact absurd rfl hne
  | nrm e h => exact .inl ⟨e, h, rfl, rfl⟩
  | ext i e h => exact .inr (.inl ⟨i, e, h, rfl, rfl⟩)
  | ret e h => exact .inr (.inr ⟨e, h, rfl, rfl⟩)
  | val v h => exact absurd rfl hne
/-- the round that a frame is in -/
def RoR (μ : Mu) (ro : Nat) (b : Frame) : Prop := (ro = 0 ∧ b.roundOf = none) ∨ ∃ l L, ro = l + 1 ∧ μ l = some L ∧ b.roundOf = some L.blk
theorem RoR.mono {ro : Nat} (h : RoR μ ro b) (hm : μ.le μ') : RoR μ' ro b := by
  rcases h with h | ⟨l, L, h1, h2, h3⟩
  · exact .inl h
  · exact .inr ⟨l, L, h1, hm _ _ h2, h3⟩
end Dv
/-! a range over a function -/
namespace Dv
open Go Go.RowKit
variable {S : Sites} {base : Nat} {μ μ' μ0 : Mu} {h h' h0 : Heap} {w w' w0 : World} {P : Program} {tt : TT} {ng : Nat} {kp : Nat → Bool} {nt : Nat} {M M' M1 : List Nat} {e e' e1 : Env} {a a' : Act} {k : K} {s : Self} {ops : Array Oper}
variable {B : Nat} {b : Frame} {kk kk' : List Item} {cs : List Frame} {m m' : Machine}
theorem KeepD.putObj {r : Nat} {o o' : Obj} (ho : w.heap[r]? = some o) (hn : ∀ d, o ≠ .deferred d) : KeepD w (w.putObj r o') := by
  intro x ds hx
  by_cases hxr : x = r
  · subst hxr; rw [ho] at hx; cases hx; exact absurd rfl (hn ds)
  · rw [World.putObj_heap_other hxr]; exact hx
theorem below_putObj {r : Nat} {o : Obj} (hr : base ≤ r) : Below base w (w.putObj r o) := ⟨rfl, rfl, rfl, by simp, fun k hk => World.putObj_heap_other (by omega)⟩
/-- a loop's record is written -/
theorem HR.loopSet (hr : HR S base μ h w) {l : Nat} {L : Loc} (hl : μ l = some L) {st p pid si d : Nat} {env : Env} (ho : h.get l = .loop st p pid env si d) {st' p' pid' : Nat} {env' : Env} {r : Loop} {o' : Obj}
    (hrec : w.heap[L.blk]? = some (.loop r)) {r' : Loop} (ho' : o' = .loop r') (hst : stOf r'.state = st') (hp : PendR p' pid' r'.pending) (hsame : r'.defers = r.defers ∧ r'.params = r.params ∧ r'.assign = r.assign ∧ r'.body = r.body ∧ r'.tmps = r.tmps) :
    ∃ h', (∀ k : Heap → Out, h.upd l (.loop st' p' pid' env si d) k = k h') ∧ Ext S base μ h w μ h' (w.putObj L.blk o') ∧ h'.get l = .loop st' p' pid' env si d ∧ (w.putObj L.blk o').heap[L.blk]? = some o' := by
  obtain ⟨t, ht, hp2⟩ := hr.perf
  have hal : Alive h l := by unfold Alive; rw [ho]; trivial
  have hO := hr.obj l L hl hal
  rw [ho] at hO
  obtain ⟨hb, lp, sii, q1, q2, q3, q4, q5, q6, q7, q8, q9⟩ := hO
  rw [hrec] at q1; cases q1
  have hlt := (hr.dom l L hl).2
  have hln := (hr.dom l L hl).1
  have hcap := hr.cap
  refine ⟨.mk h.nx (t.set l (.loop st' p' pid' env si d)), fun k => ?_, ⟨?_, Mu.le_refl _, Nat.le_refl _, fun _ _ z => z, below_putObj hb, KeepD.putObj hrec (fun _ z => by cases z)⟩, ?_, World.putObj_heap_same hlt⟩
  · conv => lhs; rw [ht]
    rfl
  · refine hr.objSet ht hl (by rw [ho]; trivial) trivial (by simp) (fun k hk => World.putObj_heap_other hk) ?_
    refine ⟨hb, r', sii, by rw [World.putObj_heap_same hlt, ho'], hst, hp, ?_, q5, ?_, ?_, ?_, ?_⟩
    · rw [hsame.1]; exact q4
    · rw [hsame.2.1]; exact q6
    · rw [hsame.2.2.1]; exact q7
    · rw [hsame.2.2.2.1]; exact q8
    · rw [hsame.2.2.2.2]; exact q9
  · rw [hr.get_set ht _ (by omega) (by omega), if_pos rfl]
/-- a loop begins -/
theorem loop_begins (hr : HR S base μ h w) (ha : AR ng kp nt μ [] e a) (hm : Marks B w a.defers) (hB : B ≤ w.heap.size) {ro : Nat} (hro : RoR μ ro b) {site : Nat} {ps : Array Tmp} {ac bc : Code} (hS : S site = some ⟨kp, nt, ps, ac, bc⟩) {K : Nat → Heap → Out}
    (hne : (rgDfr ro h fun d h => h.new (.loop 0 0 0 e site d) K) ≠ .bad) :
    ∃ (μ1 : Mu) (h1 : Heap) (w1 : World) (l d : Nat) (L : Loc) (mk : List Deferred), (rgDfr ro h fun d h => h.new (.loop 0 0 0 e site d) K) = K l h1 ∧ Ext S base μ h w μ1 h1 w1 ∧ μ1 l = some L ∧ h1.get l = .loop 0 0 0 e site d ∧
      (Instr.enterLoop b.fn a.tmps ps ac bc b.roundOf).run P w = .ok (L.blk, mk) w1 ∧ Marks B w1 (mk ++ a.defers) := by
  have hcap := hr.cap
  -- the record, placed, where its block for what is deferred is
  have place : ∀ (μ2 : Mu) (h2 : Heap) (w2 : World) (d : Nat) (Ld : Loc), HR S base μ2 h2 w2 → ER μ2 kp nt e a.tmps → μ2 d = some Ld → (h2.new (.loop 0 0 0 e site d) K) ≠ .bad →
      ∃ (l : Nat) (h3 : Heap) (μ3 : Mu), h2.new (.loop 0 0 0 e site d) K = K l h3 ∧ Ext S base μ2 h2 w2 μ3 h3 (w2.alloc (.loop { state := .ready, pending := none, fn := b.fn, tmps := a.tmps, params := ps, assign := ac, body := bc, defers := Ld.blk })) ∧
        μ3 l = some ⟨w2.heap.size, 0, 0, 0⟩ ∧ h3.get l = .loop 0 0 0 e site d := by
    intro μ2 h2 w2 d Ld hr2 her hd hne2
    obtain ⟨n, t, he, hlt, e3⟩ := new_ne hne2
    have hx : h2.nx = n := by rw [he]; rfl
    obtain ⟨b1, b2, b3, b4⟩ := hr2.new he hlt (.loop 0 0 0 e site d)
    have hle := Mu.le_set b3 ⟨w2.heap.size, 0, 0, 0⟩
    refine ⟨n, .mk (n + 1) (t.set n (.loop 0 0 0 e site d)), μ2.set n ⟨w2.heap.size, 0, 0, 0⟩, e3, ⟨?_, hle, by rw [hx]; show n ≤ n + 1; omega, Mu.set_fresh (by omega), (Below.refl base w2).alloc hr2.bs _, KeepD.alloc _ _⟩, Mu.set_self _ _ _, b2⟩
    refine b1.place (by show n < n + 1; omega) b3 _ rfl ?_ (fun n' c kd fm q => by rw [b2] at q; cases q) (fun n' c fm ow fl tp q => by rw [b2] at q; cases q)
    rw [b2]
    exact ⟨hr2.bs, _, _, World.alloc_heap_new w2 _, rfl, rfl, ⟨Ld, hle _ _ hd, rfl⟩, hS, rfl, rfl, rfl, her.mono hle⟩
  rcases hro with ⟨rfl, hb⟩ | ⟨l0, L0, rfl, hl0, hb⟩
  · have unf : (rgDfr 0 h fun d h => h.new (.loop 0 0 0 e site d) K) = h.new .dfr fun d h => h.new (.loop 0 0 0 e site d) K := rfl
    rw [unf] at hne ⊢
    obtain ⟨n, t, he, hlt, e3⟩ := new_ne hne
    rw [e3] at hne ⊢
    have hx : h.nx = n := by rw [he]; rfl
    obtain ⟨b1, b2, b3, b4⟩ := hr.new he hlt .dfr
    have hle := Mu.le_set b3 ⟨w.heap.size, 0, 0, 0⟩
    have c1 : HR S base (μ.set n ⟨w.heap.size, 0, 0, 0⟩) (.mk (n + 1) (t.set n .dfr)) (w.alloc (.deferred (some []))) :=
      b1.place (by show n < n + 1; omega) b3 _ rfl (by rw [b2]; exact hr.bs) (fun n' c kd fm q => by rw [b2] at q; cases q) (fun n' c fm ow fl tp q => by rw [b2] at q; cases q)
    have x1 : Ext S base μ h w (μ.set n ⟨w.heap.size, 0, 0, 0⟩) (.mk (n + 1) (t.set n .dfr)) (w.alloc (.deferred (some []))) :=
      ⟨c1, hle, by rw [hx]; show n ≤ n + 1; omega, Mu.set_fresh (by omega), (Below.refl base w).alloc hr.bs _, KeepD.alloc _ _⟩
    obtain ⟨l, h3, μ3, p1, p2, p3, p4⟩ := place _ _ _ n ⟨w.heap.size, 0, 0, 0⟩ c1 (ha.er.mono hle) (Mu.set_self _ _ _) hne
    have hsz : (w.alloc (.deferred (some []))).heap.size = w.heap.size + 1 := by simp
    refine ⟨μ3, h3, _, l, n, _, [mark w.heap.size], p1, x1.trans p2, p3, p4, ?_, ?_⟩
    · rw [hb, run_enterLoop_outer]
      show _ = Result.ok ((w.alloc (.deferred (some []))).heap.size, [mark w.heap.size]) _
      rw [hsz]; rfl
    · obtain ⟨rs, r1, r2, r3⟩ := hm
      refine ⟨w.heap.size :: rs, by rw [r1]; rfl, List.nodup_cons.2 ⟨fun z => ?_, r2⟩, fun r hr' => ?_⟩
      · have := (r3 _ z).2
        rw [Array.getElem?_eq_none (Nat.le_refl _)] at this; cases this
      · rcases List.mem_cons.1 hr' with rfl | hr'
        · exact ⟨hB, (KeepD.alloc _ _) _ _ (World.alloc_heap_new w _)⟩
        · exact ⟨(r3 r hr').1, (KeepD.alloc _ _) _ _ ((KeepD.alloc _ _) _ _ (r3 r hr').2)⟩
  · have unf : (rgDfr (l0 + 1) h fun d h => h.new (.loop 0 0 0 e site d) K) = onLoop (h.get l0) (fun _ _ _ _ _ d => h.new (.loop 0 0 0 e site d) K) .bad := rfl
    rw [unf] at hne ⊢
    obtain ⟨st, p, pid, env, si, d, e1, e2⟩ := onLoop_ne hne
    rw [e2] at hne ⊢
    have hO := hr.obj l0 L0 hl0 (by unfold Alive; rw [e1]; trivial)
    rw [e1] at hO
    obtain ⟨hbb, lp, sii, q1, q2, q3, ⟨Ld, q4, q4'⟩, q5, q6, q7, q8, q9⟩ := hO
    obtain ⟨l, h3, μ3, p1, p2, p3, p4⟩ := place μ h w d Ld hr ha.er q4 hne
    refine ⟨μ3, h3, _, l, d, _, [], p1, p2, p3, p4, ?_, hm.keep p2.kept⟩
    rw [hb, run_enterLoop_inner q1, q4']
/-- a loop ends -/
theorem loop_ends (hr : HR S base μ h w) (ha : AR ng kp nt μ [] e a) (hm : Marks B w a.defers) {l : Nat} {L : Loc} (hl : μ l = some L) (hne : rgEnd e l h ≠ .bad) : CodeR P S base ng kp nt B b kk cs μ h w (lone (b.atR a (.endRangeFunc L.blk :: kk)) cs w) (rgEnd e l h) := by
  have unf : rgEnd e l h = onLoop (h.get l) (fun st p pid env si d => bo (Nat.beq st 1) .bad (h.upd l (.loop 3 p pid env si d) fun h => bo (Nat.beq p 0) (.nrm e h) (bo (Nat.beq p 1) (.ret e h) (.ext pid e h)))) .bad := rfl
  rw [unf] at hne ⊢
  obtain ⟨st, p, pid, env, si, d, e1, e2⟩ := onLoop_ne hne
  rw [e2] at hne ⊢
  cases hst : Nat.beq st 1 with
  | true => rw [hst] at hne; exact absurd rfl hne
  | false =>
    rw [hst] at hne
    rw [bo_f] at hne ⊢
    have hO := hr.obj l L hl (by unfold Alive; rw [e1]; trivial)
    rw [e1] at hO
    obtain ⟨hbb, lp, sii, q1, q2, q3, q4, q5, q6, q7, q8, q9⟩ := hO
    have hbusy : lp.state ≠ .busy := fun z => by rw [z] at q2; rw [← q2] at hst; cases hst
    have hend := run_endLoop (P := P) q1 hbusy
    obtain ⟨h1, u1, u2, u3, u4⟩ := hr.loopSet hl e1 (st' := 3) (p' := p) (pid' := pid) (env' := env) (o' := .loop { lp with state := .exhausted }) q1 rfl rfl q3 ⟨rfl, rfl, rfl, rfl, rfl⟩
    generalize hW : w.putObj L.blk (.loop { lp with state := .exhausted }) = W at hend u2 u4
    rw [u1]
    have hm' := hm.keep u2.kept
    have ha' := ha.mono u2.le
    have st1 := stepR_endRangeFunc (P := P) (b := b) (a := a) (k := kk) (cs := cs) hend
    cases hpn : lp.pending with
    | none =>
      rw [hpn] at q3 st1
      have : p = 0 := q3
      subst this
      exact ⟨μ, a, _, u2, ha', hm', .one st1⟩
    | some c =>
      rw [hpn] at q3 st1
      cases c <;> first | exact q3.elim | skip
      · rename_i i
        obtain ⟨rfl, rfl⟩ := q3
        exact ⟨μ, a, _, kk, u2, ha', hm', rfl, .one st1⟩
      · have : p = 1 := q3
        subst this
        exact ⟨μ, a, _, kk, u2, ha', hm', .one st1⟩
theorem AR.setD (h1 : AR ng kp nt μ M e a) {ds : List Deferred} : AR ng kp nt μ M e { a with defers := ds } := ⟨⟨h1.er.slot, h1.er.keep, h1.er.size⟩, h1.lr, h1.gok⟩
theorem range_ok (hF : SelfF P S base ng s) (hr : HR S base μ h w) (ha : AR ng kp nt μ [] e a) (hm : Marks B w a.defers) (hB : B ≤ w.heap.size) {c : Ctx} (hc : c.s = s) (hro : RoR μ c.ro b) {site : Nat} {f : Operand} {x : OpdS} (hx : opd ng [] f = some x) {ps : Array Tmp} {ac bc : Code} (hS : S site = some ⟨kp, nt, ps, ac, bc⟩)
    (hne : rRange x.rd site c e h ≠ .bad) : CodeR P S base ng kp nt B b kk cs μ h w (lone (b.atR a (.code (.rangeFunc f ps ac bc) :: kk)) cs w) (rRange x.rd site c e h) := by
  subst hc
  have unf : rRange x.rd site c e h = (x.rd e).onTag 4 (fun g first caps => rgDfr c.ro h fun d h => h.new (.loop 0 0 0 e site d) fun l h => onVal (c.s 0 g (appL first (.yld l :: caps)) h) fun _ h => rgEnd e l h) .bad := rfl
  rw [unf] at hne ⊢
  have hv := ha.opd hx
  obtain ⟨g, first, caps, e1, e2⟩ := onTag_ne hne
  rw [e2] at hne ⊢
  rw [e1] at hv
  obtain ⟨f', c', v1, v2, v3⟩ := hv.fn_inv
  obtain ⟨μ1, h1, w1, l, d, L, mk, q1, q2, q3, q4, q5, q6⟩ := loop_begins (P := P) hr ha hm hB hro hS hne
  rw [q1] at hne ⊢
  obtain ⟨v, h2, p1, p2⟩ := onVal_ne hne
  rw [p2] at hne ⊢
  rw [appL_eq] at p1
  obtain ⟨⟨fn, f1, f2, f3⟩, hcall⟩ := hF g _ h1 v h2 p1 μ1 w1 _ q2.hr (ha.gok.mono q2.le) ((v1.mono q2.le).append (.cons (.yld q3) (v2.mono q2.le)))
  have hres : (resolve a.eval (rangeCall f L.blk) 0).run P w1 = .ok { target := .fn (.func g) c'.toArray, args := f'.toArray ++ #[.func (.yield L.blk) #[] #[]] } w1 := by
    show (Deferred.ofValue (a.eval f) (Array.map a.eval #[Operand.const (.func (.yield L.blk) #[] #[])])).run P w1 = _
    rw [v3, map1]
    rfl
  have hinv : (invoke (.fn (.func g) c'.toArray) (f'.toArray ++ #[.func (.yield L.blk) #[] #[]])).run P w1 = .ok (.enter g (f' ++ .func (.yield L.blk) #[] #[] :: c').toArray) w1 := by
    have e3 : (f' ++ .func (.yield L.blk) #[] #[] :: c').toArray = f'.toArray ++ #[Value.func (.yield L.blk) #[] #[]] ++ c'.toArray := by apply Array.ext'; simp
    rw [e3]
    exact run_callFunc_body f1 f2 f3 _ w1
  have s1 := stepR_rangeFunc (P := P) (b := b) (a := a) (k := kk) (cs := cs) (w := w) q5 hres hinv
  obtain ⟨μ2, cv, w2, r1, r2, s2⟩ := hcall (b.atR { a with defers := mk ++ a.defers } (.inRangeFunc L.blk :: kk)) cs
  rw [finish_atR_inRangeFunc] at s2
  have ha2 : AR ng kp nt μ2 [] e { a with defers := mk ++ a.defers } := (ha.mono (Mu.le_trans q2.le r1.le)).setD
  exact (loop_ends r1.hr ha2 (q6.keep r1.kept) (r1.le _ _ q3) hne).after (q2.trans r1) (.head s1 s2)
end Dv
/-! every code -/
namespace Dv
open Go Go.RowKit
variable {S : Sites} {base : Nat} {μ μ' μ0 : Mu} {h h' h0 : Heap} {w w' w0 : World} {P : Program} {tt : TT} {ng : Nat} {kp : Nat → Bool} {nt : Nat} {M M' M1 : List Nat} {e e' e1 : Env} {a a' : Act} {k : K} {s : Self} {ops : Array Oper}
variable {B : Nat} {b : Frame} {kk kk' : List Item} {cs : List Frame} {m m' : Machine}
theorem stepR_scope {c : Code} : step P (lone (b.atR a (.code (.scope c) :: kk)) cs w) = .next (lone (b.atR a (.code c :: .inScope c :: kk)) cs w) := step_lone_go (by simp [stepG, stepG.exec, Frame.atR])
theorem stepR_inScope {c : Code} : step P (lone (b.atR a (.inScope c :: kk)) cs w) = .next (lone (b.atR a kk) cs w) := step_lone_go (by simp [stepG, stepG.exec, Frame.atR])
theorem Ext.size (x : Ext S base μ h w μ' h' w') : w.heap.size ≤ w'.heap.size := x.below.size
def CodeOk (P : Program) (S : Sites) (base ng : Nat) (kp : Nat → Bool) (nt : Nat) (c : Ctx) (cd : Code) (x : CodeS) : Prop :=
  ∀ (e : Env) (h : Heap) (μ : Mu) (w : World) (a : Act) (B : Nat) (b : Frame) (kk : List Item) (cs : List Frame), x.run c e h ≠ .bad → HR S base μ h w → AR ng kp nt μ [] e a → Marks B w a.defers → B ≤ w.heap.size → RoR μ c.ro b →
    CodeR P S base ng kp nt B b kk cs μ h w (lone (b.atR a (.code cd :: kk)) cs w) (x.run c e h)
theorem loop_ok {c : Ctx} {body : Code} {x : CodeS} (ih : CodeOk P S base ng kp nt c body x) : ∀ (n : Nat) (e : Env) (h : Heap) (μ : Mu) (w : World) (a : Act) (B : Nat) (b : Frame) (kk : List Item) (cs : List Frame), loopN x.run c n e h ≠ .bad → HR S base μ h w → AR ng kp nt μ [] e a → Marks B w a.defers → B ≤ w.heap.size → RoR μ c.ro b →
    CodeR P S base ng kp nt B b kk cs μ h w (lone (b.atR a (.code body :: .inLoop body :: kk)) cs w) (loopN x.run c n e h)
  | 0, e, h, μ, w, a, B, b, kk, cs, hne, _, _, _, _, _ => absurd rfl hne
  | n + 1, e, h, μ, w, a, B, b, kk, cs, hne, hr, ha, hm, hB, hro => by
    have unf : loopN x.run c (n + 1) e h = onOut (x.run c e h) (loopN x.run c n) .ext .ret := rfl
    rw [unf] at hne ⊢
    have hb : x.run c e h ≠ .bad := fun z => by rw [z] at hne; exact hne rfl
    have q := ih e h μ w a B b (.inLoop body :: kk) cs hb hr ha hm hB hro
    rcases onOut_ne hne with ⟨e1, h1, z1, z2⟩ | ⟨i, e1, h1, z1, z2⟩ | ⟨e1, h1, z1, z2⟩
    · rw [z2] at hne ⊢
      rw [z1] at q
      obtain ⟨μ1, a1, w1, r1, r2, r3, r4⟩ := q
      have q2 := loop_ok ih n e1 h1 μ1 w1 a1 B b kk cs hne r1.hr r2 r3 (Nat.le_trans hB r1.size) (hro.mono r1.le)
      exact q2.after r1 (r4.trans (.one stepR_inLoop))
    · rw [z2]; rw [z1] at q
      exact q.under (fun _ _ z => by cases z) (fun _ _ _ _ => rfl)
    · rw [z2]; rw [z1] at q
      exact q.under (fun _ _ z => by cases z) (fun _ _ _ z => by cases z)
theorem code_ok (htt : TTOk P tt) (h20 : 20 ≤ P.types.size + 1) (hbig : P.types.size + 2 ≤ 10000) (hmix : P.follows .mixedOrders = true) (hF : SelfF P S base ng s) (hY : SelfY P S base ng s) {c : Ctx} (hc : c.s = s) : ∀ (cd : Code) (n : Nat) (x : CodeS) (n' : Nat) (l : List (List Nat × CodeS × CodeS)),
    compCode tt ng kp nt n cd = some (x, n', l) → SitesAt S kp nt n (codeSites cd) → CodeOk P S base ng kp nt c cd x
  | .skip, n, x, n', l, h0, hS => by
    cases h0
    intro e h μ w a B b kk cs hne hr ha hm hB hro
    exact ⟨μ, a, w, Ext.refl hr, ha, hm, .one stepR_skip⟩
  | .label _, n, x, n', l, h0, hS => by
    cases h0
    intro e h μ w a B b kk cs hne hr ha hm hB hro
    exact ⟨μ, a, w, Ext.refl hr, ha, hm, .one stepR_label⟩
  | .region id ops draw, n, x, n', l, h0, hS => by
    obtain ⟨r, h1, h2⟩ := map_some2 (show (compRegion tt ng kp nt ops draw).map _ = some (x, n', l) from h0)
    cases h2
    intro e h μ w a B b kk cs hne hr ha hm hB hro
    obtain ⟨e', h', r1, μ', a', w', r2, r3, r4, r5⟩ := region_ok htt h20 hbig hmix hF hY hc h1 hne hr ha b id kk cs
    rw [r1]
    exact ⟨μ', a', w', r2, r3, by rw [r4]; exact hm.keep r2.kept, r5⟩
  | .seq p q, n, x, n', l, h0, hS => by
    obtain ⟨⟨xa, na, la⟩, h1, h0⟩ := bind_some2 (show (compCode tt ng kp nt n p).bind _ = some (x, n', l) from h0)
    obtain ⟨⟨xb, nb, lb⟩, h2, h3⟩ := map_some2 h0
    cases h3
    have hS2 : SitesAt S kp nt na (codeSites q) := by rw [comp_count p n xa na la h1]; exact hS.right
    have ihp := code_ok htt h20 hbig hmix hF hY hc p n xa na la h1 hS.left
    have ihq := code_ok htt h20 hbig hmix hF hY hc q na xb n' lb h2 hS2
    intro e h μ w a B b kk cs hne hr ha hm hB hro
    have unf : (CodeS.seq xa xb).run c e h = onOut (xa.run c e h) (xb.run c) .ext .ret := rfl
    rw [unf] at hne ⊢
    have hb : xa.run c e h ≠ .bad := fun z => by rw [z] at hne; exact hne rfl
    have r := ihp e h μ w a B b (.code q :: kk) cs hb hr ha hm hB hro
    rcases onOut_ne hne with ⟨e1, h1', z1, z2⟩ | ⟨i, e1, h1', z1, z2⟩ | ⟨e1, h1', z1, z2⟩
    · rw [z2] at hne ⊢
      rw [z1] at r
      obtain ⟨μ1, a1, w1, r1, r2, r3, r4⟩ := r
      exact (ihq e1 h1' μ1 w1 a1 B b kk cs hne r1.hr r2 r3 (Nat.le_trans hB r1.size) (hro.mono r1.le)).after r1 (.head stepR_seq r4)
    · rw [z2]; rw [z1] at r
      exact (r.under (fun _ _ z => by cases z) (fun _ _ _ _ => rfl)).after (Ext.refl hr) (.one stepR_seq)
    · rw [z2]; rw [z1] at r
      exact (r.under (fun _ _ z => by cases z) (fun _ _ _ z => by cases z)).after (Ext.refl hr) (.one stepR_seq)
  | .cond cc p q, n, x, n', l, h0, hS => by
    obtain ⟨y, hy, h0⟩ := bind_some2 (show (opd ng [] cc).bind _ = some (x, n', l) from h0)
    obtain ⟨⟨xa, na, la⟩, h1, h0⟩ := bind_some2 h0
    obtain ⟨⟨xb, nb, lb⟩, h2, h3⟩ := map_some2 h0
    cases h3
    have hS2 : SitesAt S kp nt na (codeSites q) := by rw [comp_count p n xa na la h1]; exact hS.right
    have ihp := code_ok htt h20 hbig hmix hF hY hc p n xa na la h1 hS.left
    have ihq := code_ok htt h20 hbig hmix hF hY hc q na xb n' lb h2 hS2
    intro e h μ w a B b kk cs hne hr ha hm hB hro
    have unf : (CodeS.cond y xa xb).run c e h = (y.rd e).onBool (fun t => bo t (xa.run c e h) (xb.run c e h)) .bad := rfl
    rw [unf] at hne ⊢
    obtain ⟨t, z1, z2⟩ := onBool_ne hne
    rw [z2] at hne ⊢
    have hv := ha.opd hy
    rw [z1] at hv
    have hcv := hv.bool_inv
    have hst := stepR_cond (P := P) (b := b) (a := a) (k := kk) (cs := cs) (w := w) (x := p) (y := q) hcv
    cases t with
    | true => exact (ihp e h μ w a B b kk cs hne hr ha hm hB hro).after (Ext.refl hr) (.one hst)
    | false => exact (ihq e h μ w a B b kk cs hne hr ha hm hB hro).after (Ext.refl hr) (.one hst)
  | .block id p, n, x, n', l, h0, hS => by
    obtain ⟨⟨xa, na, la⟩, h1, h3⟩ := map_some2 (show (compCode tt ng kp nt n p).map _ = some (x, n', l) from h0)
    cases h3
    have ihp := code_ok htt h20 hbig hmix hF hY hc p n xa _ _ h1 hS
    intro e h μ w a B b kk cs hne hr ha hm hB hro
    have unf : (CodeS.block id xa).run c e h = onOut (xa.run c e h) .nrm (fun i e h => bo (Nat.beq i id) (.nrm e h) (.ext i e h)) .ret := rfl
    rw [unf] at hne ⊢
    have hb : xa.run c e h ≠ .bad := fun z => by rw [z] at hne; exact hne rfl
    have r := ihp e h μ w a B b (.inBlock id :: kk) cs hb hr ha hm hB hro
    rcases onOut_ne hne with ⟨e1, h1', z1, z2⟩ | ⟨i, e1, h1', z1, z2⟩ | ⟨e1, h1', z1, z2⟩
    · rw [z2]; rw [z1] at r
      obtain ⟨μ1, a1, w1, r1, r2, r3, r4⟩ := r
      exact ⟨μ1, a1, w1, r1, r2, r3, .head stepR_block (r4.trans (.one stepR_inBlock))⟩
    · rw [z2]; rw [z1] at r
      obtain ⟨μ1, a1, w1, k1, r1, r2, r3, r5, r4⟩ := r
      cases hid : Nat.beq i id with
      | true =>
        have := nbeq_iff.1 hid
        subst this
        have hk : exitTo i k1 = some kk := by rw [r5]; simp [exitTo]
        exact ⟨μ1, a1, w1, r1, r2, r3, .head stepR_block (r4.trans (.one (stepR_exit hk)))⟩
      | false =>
        have hne2 : i ≠ id := fun z => by rw [z, nbeq_t] at hid; cases hid
        have : (id == i) = false := by simp; exact fun z => hne2 z.symm
        exact ⟨μ1, a1, w1, k1, r1, r2, r3, by rw [r5]; simp [exitTo, this], .head stepR_block r4⟩
    · rw [z2]; rw [z1] at r
      exact (r.under (fun _ _ z => by cases z) (fun _ _ _ z => by cases z)).after (Ext.refl hr) (.one stepR_block)
  | .loop p, n, x, n', l, h0, hS => by
    obtain ⟨⟨xa, na, la⟩, h1, h3⟩ := map_some2 (show (compCode tt ng kp nt n p).map _ = some (x, n', l) from h0)
    cases h3
    have ihp := code_ok htt h20 hbig hmix hF hY hc p n xa _ _ h1 hS
    intro e h μ w a B b kk cs hne hr ha hm hB hro
    exact (loop_ok ihp c.n e h μ w a B b kk cs hne hr ha hm hB hro).after (Ext.refl hr) (.one stepR_loop)
  | .rangeFunc f ps p q, n, x, n', l, h0, hS => by
    obtain ⟨y, hy, h0⟩ := bind_some2 (show (opd ng [] f).bind _ = some (x, n', l) from h0)
    obtain ⟨⟨xa, na, la⟩, h1, h0⟩ := bind_some2 h0
    obtain ⟨⟨xb, nb, lb⟩, h2, h3⟩ := bind_some2 h0
    have h4 : (if ps.toList.all (fun p => kp p && Nat.blt p NT && Nat.blt p nt) then some (CodeS.rangeFunc y n, nb, (ps.toList, xa, xb) :: (la ++ lb)) else none) = some (x, n', l) := h3
    split at h4
    case isFalse => cases h4
    cases h4
    intro e h μ w a B b kk cs hne hr ha hm hB hro
    exact range_ok hF hr ha hm hB hc hro hy hS.head.1 hne
  | .exit i, n, x, n', l, h0, hS => by
    cases h0
    intro e h μ w a B b kk cs hne hr ha hm hB hro
    exact ⟨μ, a, w, kk, Ext.refl hr, ha, hm, rfl, .refl P _⟩
  | .scope p, n, x, n', l, h0, hS => by
    have ihp := code_ok htt h20 hbig hmix hF hY hc p n x n' l h0 hS
    intro e h μ w a B b kk cs hne hr ha hm hB hro
    have r := ihp e h μ w a B b (.inScope p :: kk) cs hne hr ha hm hB hro
    cases ho : x.run c e h with
    | nrm e' h' =>
      rw [ho] at r
      obtain ⟨μ1, a1, w1, r1, r2, r3, r4⟩ := r
      exact ⟨μ1, a1, w1, r1, r2, r3, .head stepR_scope (r4.trans (.one stepR_inScope))⟩
    | ext i e' h' =>
      rw [ho] at r
      exact (r.under (fun _ _ z => by cases z) (fun _ _ _ _ => rfl)).after (Ext.refl hr) (.one stepR_scope)
    | ret e' h' =>
      rw [ho] at r
      exact (r.under (fun _ _ z => by cases z) (fun _ _ _ z => by cases z)).after (Ext.refl hr) (.one stepR_scope)
    | bad => rw [ho] at r; exact r.elim
    | val v h' => rw [ho] at r; exact r.elim
  | .ret, n, x, n', l, h0, hS => by
    cases h0
    intro e h μ w a B b kk cs hne hr ha hm hB hro
    exact ⟨μ, a, w, kk, Ext.refl hr, ha, hm, .refl P _⟩
  | .goto _, n, x, n', l, h0, hS => by cases h0
  | .refuse _, n, x, n', l, h0, hS => by cases h0
end Dv
/-! functions, rounds, the table -/
namespace Dv
open Go Go.RowKit
variable {S : Sites} {base : Nat} {μ μ' μ0 : Mu} {h h' h0 : Heap} {w w' w0 : World} {P : Program} {tt : TT} {ng : Nat} {kp : Nat → Bool} {nt : Nat} {M M' M1 : List Nat} {e e' e1 : Env} {a a' : Act} {k : K} {s : Self} {ops : Array Oper}
variable {B : Nat} {b : Frame} {kk kk' : List Item} {cs : List Frame} {m m' : Machine}

/-! arguments -/
theorem lenW_eq (l : List Wr) : lenW l = l.length := by
  induction l with
  | nil => rfl
  | cons x l ih => show Nat.add (lenW l) 1 = _; rw [ih]; rfl
theorem envOf_cons (v : AV) (l : List AV) (x : Wr) (ws : List Wr) (e : Env) : envOf (v :: l) (x :: ws) e = envOf l ws (x v e) := rfl
theorem envOf_nil (ws : List Wr) (e : Env) : envOf [] ws e = e := rfl
theorem envOf_nil2 (l : List AV) (e : Env) : envOf l [] e = e := by cases l <;> rfl
theorem wL_take {np : Nat} (hn : np ≤ 320) : wL.take np = (List.range' 0 np).map (nthW wL) := by
  have hl : wL.length = 320 := by rw [wL_eq]; simp
  apply List.ext_getElem?
  intro i
  rw [List.getElem?_map]
  by_cases hi : i < np
  · rw [List.getElem?_take_of_lt hi, List.getElem?_range' (by omega)]
    show wL[i]? = some (nthW wL (0 + 1 * i))
    unfold nthW
    rw [show 0 + 1 * i = i from by omega, List.getElem?_eq_getElem (by omega)]; rfl
  · rw [List.getElem?_eq_none (by simp; omega), List.getElem?_eq_none (by simp; omega)]; rfl
theorem envOf_slot : ∀ (l : List AV) (n j : Nat) (e : Env), j + n ≤ 320 → ∀ t, t < 320 → nthRd rdL t (envOf l ((List.range' j n).map (nthW wL)) e) = if j ≤ t ∧ t < j + n ∧ t - j < l.length then (l[t - j]?).getD .und else nthRd rdL t e
  | [], n, j, e, hn, t, ht => by rw [envOf_nil, if_neg (by simp)]
  | v :: l, 0, j, e, hn, t, ht => by
    show nthRd rdL t (envOf (v :: l) [] e) = _
    rw [envOf_nil2, if_neg (by omega)]
  | v :: l, n + 1, j, e, hn, t, ht => by
    rw [List.range'_succ, List.map_cons, envOf_cons, envOf_slot l n (j + 1) _ (by omega) t ht, rd_w ht (by omega)]
    by_cases h1 : j = t
    · subst h1
      rw [if_neg (by omega), if_pos rfl, if_pos ⟨Nat.le_refl _, by omega, by simp⟩, Nat.sub_self]; rfl
    · rw [if_neg h1]
      by_cases h2 : j + 1 ≤ t ∧ t < j + 1 + n ∧ t - (j + 1) < l.length
      · rw [if_pos h2, if_pos ⟨by omega, by omega, by simp only [List.length_cons]; omega⟩, show t - j = (t - (j + 1)) + 1 from by omega]; rfl
      · rw [if_neg h2, if_neg (by simp only [List.length_cons]; omega)]
/-- a function's arguments, at its start -/
theorem args_ok {l : List AV} {l' : List Value} (hv : VRs μ l l') {np : Nat} (hn : np ≤ 320) (hk : keepOk kp np = true) (hg : GOk ng μ) : AR ng kp nt μ [] (envOf l (wL.take np) Env.nil) { tmps := l'.toArray ++ Array.replicate (nt - l'.toArray.size) undef, defers := [] } := by
  have hlen := hv.length
  rw [wL_take hn]
  have hkp : ∀ t, t < np → kp t = true := fun t ht => List.all_eq_true.1 hk t (List.mem_range.2 ht)
  have hs : ∀ t, t < 320 → nthRd rdL t (envOf l ((List.range' 0 np).map (nthW wL)) Env.nil) = if t < np ∧ t < l.length then (l[t]?).getD .und else .und := fun t ht => by
    rw [envOf_slot l np 0 _ (by omega) t ht, rd_nil ht]
    by_cases h1 : t < np ∧ t < l.length
    · rw [if_pos ⟨by omega, by omega, by omega⟩, if_pos h1, Nat.sub_zero]
    · rw [if_neg (by omega), if_neg h1]
  refine ⟨⟨fun t ht => ?_, fun t ht h1 => ?_, ?_⟩, fun t i q => (by cases q), hg⟩
  · rw [hs t ht]
    split
    · rename_i h1
      rw [List.getElem?_eq_getElem h1.2]
      obtain ⟨v, p1, p2⟩ := hv.get (i := t) (List.getElem?_eq_getElem h1.2)
      have : (l'.toArray ++ Array.replicate (nt - l'.toArray.size) undef).getD t undef = v := by
        rw [Array.getD_eq_getD_getElem?, Array.getElem?_append_left (by simp; omega)]
        simp only [List.getElem?_toArray, p1, Option.getD_some]
      show VR μ l[t] ((l'.toArray ++ Array.replicate (nt - l'.toArray.size) undef).getD t undef)
      rw [this]; exact p2
    · exact .und _
  · rw [hs t ht, if_neg (fun q => by rw [hkp t q.1] at h1; cases h1)]
  · show nt ≤ (l'.toArray ++ Array.replicate (nt - l'.toArray.size) undef).size
    simp; omega
/-- a round's parameters -/
theorem params_ok : ∀ (l : List AV) (l' : List Value) (ps : List Nat) (e : Env) (tmps : Array Value), VRs μ l l' → l.length = ps.length → (∀ p ∈ ps, kp p = true ∧ p < 320 ∧ p < nt) → ER μ kp nt e tmps →
    ER μ kp nt (envOf l (ps.map (nthW wL)) e) ((ps.zip l').foldl (fun tmps (x : Nat × Value) => tmps.setIfInBounds x.1 x.2) tmps)
  | [], l', ps, e, tmps, hv, hl, hp, he => by
    cases hv
    cases ps with
    | nil => exact he
    | cons p ps => cases hl
  | v :: l, l', ps, e, tmps, hv, hl, hp, he => by
    cases hv with
    | cons hv hvs =>
      cases ps with
      | nil => cases hl
      | cons p ps =>
        obtain ⟨p1, p2, p3⟩ := hp p (List.mem_cons_self ..)
        rw [List.map_cons, envOf_cons, List.zip_cons_cons, List.foldl_cons]
        refine params_ok l _ ps _ _ hvs (by simpa using hl) (fun q hq => hp q (List.mem_cons_of_mem _ hq)) ⟨fun t ht => ?_, fun t ht h1 => ?_, by simp; exact he.size⟩
        · have hsz := he.size
          rw [rd_w ht p2]
          by_cases h4 : p = t
          · subst h4; rw [if_pos rfl]
            show VR μ v ((tmps.setIfInBounds p _).getD p undef)
            rw [Array.getD_eq_getD_getElem?, Array.getElem?_setIfInBounds_self_of_lt (by omega)]
            exact hv
          · rw [if_neg h4]
            show VR μ _ ((tmps.setIfInBounds p _).getD t undef)
            rw [Array.getD_eq_getD_getElem?, Array.getElem?_setIfInBounds_ne h4, ← Array.getD_eq_getD_getElem?]
            exact he.slot t ht
        · rw [rd_w ht p2, if_neg (by rintro rfl; rw [p1] at h1; cases h1)]
          exact he.keep t ht h1

/-! results -/
def resM (tmps : Array Value) : ResultVar → Sem Value
  | .tmp t => pure (tmps.getD t undef)
  | .cell c t => do loadVar t (← asAddr (tmps.getD c undef))
theorem res_ok (htt : TTOk P tt) (hr : HR S base μ h w) (ha : AR ng kp nt μ [] e a) : ∀ (rs : List ResultVar) (r : List ResS) (K : List AV → Out), compRes tt kp rs = some r → resRun r e h K ≠ .bad →
    ∃ l l', (∀ K : List AV → Out, resRun r e h K = K l) ∧ VRs μ l l' ∧ (rs.mapM (resM a.tmps)).run P w = .ok l' w
  | [], r, K, hc, hne => by
    cases hc
    exact ⟨[], [], fun _ => rfl, .nil, rfl⟩
  | .tmp t :: rs, r, K, hc, hne => by
    have hc' : (if Nat.blt t NT && kp t then (compRes tt kp rs).map (.tmp t :: ·) else none) = some r := hc
    split at hc'
    case isFalse => cases hc'
    rename_i hb
    rw [Bool.and_eq_true] at hb
    obtain ⟨r', h1, rfl⟩ := map_some2 hc'
    have unf : ∀ K : List AV → Out, resRun (.tmp t :: r') e h K = resRun r' e h fun l => K (nthRd rdL t e :: l) := fun _ => rfl
    rw [unf] at hne
    obtain ⟨l, l', q1, q2, q3⟩ := res_ok htt hr ha rs r' _ h1 hne
    refine ⟨nthRd rdL t e :: l, a.tmps.getD t undef :: l', fun K => by rw [unf, q1], .cons (ha.er.slot t (blt_iff.1 hb.1)) q2, ?_⟩
    have hc1 : (resM a.tmps (.tmp t)).run P w = .ok (a.tmps.getD t undef) w := rfl
    rw [List.mapM_cons]
    simp only [Sem.run_bind, Sem.run_pure, hc1, Result.andThen_ok, q3]
  | .cell c t :: rs, r, K, hc, hne => by
    have hc' : (if Nat.blt c NT && kp c then (compRes tt kp rs).bind fun r => (tt t).map fun i => (if isAggD i.desc then .cellN c i.size else .cell1 c) :: r else none) = some r := hc
    split at hc'
    case isFalse => cases hc'
    rename_i hb
    rw [Bool.and_eq_true] at hb
    obtain ⟨r', h1, hc'⟩ := bind_some2 hc'
    obtain ⟨i, hi, rfl⟩ := map_some2 hc'
    have hslot := ha.er.slot c (blt_iff.1 hb.1)
    -- the look into the variable
    have look : ∀ {v : AV} {cv : Value} (x : Rd), x = nthRd rdL c → (valS (Instr.loadAt t (a.tmps.getD c undef))).run P w = .ok (.value cv) w → VR μ v cv →
        (∀ l l', VRs μ l l' → (rs.mapM (resM a.tmps)).run P w = .ok l' w → ((∃ ad, a.tmps.getD c undef = .pointer (some ad)) → ((ResultVar.cell c t :: rs).mapM (resM a.tmps)).run P w = .ok (cv :: l') w)) := by
      rintro v cv x rfl hld hvv l l' hl hrun ⟨ad, had⟩
      have hlv : (loadVar t ad).run P w = .ok cv w := by
        rw [had] at hld
        have : (valS (Instr.loadAt t (.pointer (some ad)))).run P w = ((loadVar t ad).run P w).andThen fun v w => .ok (.value v) w := by
          simp [valS, Instr.loadAt, Instr.sureAddr]
        rw [this] at hld
        cases hq : (loadVar t ad).run P w with
        | ok v w2 => rw [hq] at hld; simp [Result.andThen] at hld; rw [hld.1, hld.2]
        | halt x w2 => rw [hq] at hld; simp [Result.andThen] at hld
      have hc1 : (resM a.tmps (.cell c t)).run P w = .ok cv w := by
        show ((asAddr (a.tmps.getD c undef)).bind fun ad => loadVar t ad).run P w = _
        rw [had]
        exact hlv
      rw [List.mapM_cons]
      simp only [Sem.run_bind, Sem.run_pure, hc1, Result.andThen_ok, hrun]
    cases hg : isAggD i.desc with
    | true =>
      have unf : ∀ K : List AV → Out, resRun ((if true = true then ResS.cellN c i.size else ResS.cell1 c) :: r') e h K = (nthRd rdL c e).onPtr (fun b o => hLoadN h b o i.size fun v => resRun r' e h fun l => K (.agg v :: l)) .bad := fun _ => rfl
      rw [hg] at hne
      rw [unf] at hne
      obtain ⟨b, o, e1, e2⟩ := onPtr_ne hne
      rw [e2] at hne
      obtain ⟨nb, ct, kd, fm, p1, p2, p3, p4⟩ := hLoadN_ne hne
      rw [p4] at hne
      obtain ⟨l, l', q1, q2, q3⟩ := res_ok htt hr ha rs r' _ h1 hne
      have hx : VR μ (nthRd rdL c e) (a.tmps.getD c undef) := hslot
      obtain ⟨v, cv, k1, k2, k3⟩ := r_loadN (P := P) (k := kv) (e := e) (x := nthRd rdL c) hr (htt _ _ hi) hg (by
        show (nthRd rdL c e).onPtr (fun b o => hLoadN h b o i.size fun l => kv (.agg l) h) .bad ≠ .bad
        rw [e1]
        show hLoadN h b o i.size (fun l => kv (.agg l) h) ≠ .bad
        rw [hLoadN_at p1 p2 p3]; exact fun z => by cases z) hx
      have hv : v = .agg (readCT ct i.size o) := by
        have := k1 kv
        have k1' : (nthRd rdL c e).onPtr (fun b o => hLoadN h b o i.size fun l => kv (.agg l) h) .bad = kv v h := this
        rw [e1] at k1'
        have k2' : hLoadN h b o i.size (fun l => kv (.agg l) h) = kv v h := k1'
        rw [hLoadN_at p1 p2 p3] at k2'
        injection k2' with z; exact z.symm
      rw [e1] at hslot
      obtain ⟨L, l1, l2⟩ := hslot.ptr_inv
      refine ⟨v :: l, cv :: l', fun K => ?_, .cons k2 q2, look _ rfl k3 k2 l l' q2 q3 ⟨_, l2⟩⟩
      rw [unf, e1]
      show hLoadN h b o i.size (fun v => resRun r' e h fun l => K (.agg v :: l)) = _
      rw [hLoadN_at p1 p2 p3, q1, hv]
    | false =>
      have unf : ∀ K : List AV → Out, resRun ((if false = true then ResS.cellN c i.size else ResS.cell1 c) :: r') e h K = (nthRd rdL c e).onPtr (fun b o => hLoad h b o fun v => resRun r' e h fun l => K (v :: l)) .bad := fun _ => rfl
      rw [hg] at hne
      rw [unf] at hne
      obtain ⟨b, o, e1, e2⟩ := onPtr_ne hne
      rw [e2] at hne
      obtain ⟨nb, ct, kd, fm, p1, p2, p3, p4⟩ := hLoad_ne hne
      rw [p4] at hne
      obtain ⟨l, l', q1, q2, q3⟩ := res_ok htt hr ha rs r' _ h1 hne
      have hx : VR μ (nthRd rdL c e) (a.tmps.getD c undef) := hslot
      have at_ : ∀ f : AV → Out, hLoad h b o f = f (ct.get o) := fun f => by
        unfold hLoad
        rw [p1]
        show bo (Nat.blt o nb) (aliveB h b kd fm (f (ct.get o))) .bad = _
        rw [blt_iff.2 p2, bo_t, aliveB_at p1 p3]
      obtain ⟨v, cv, k1, k2, k3⟩ := r_load1 (P := P) (k := kv) (e := e) (x := nthRd rdL c) hr (htt _ _ hi) hg (by
        show (nthRd rdL c e).onPtr (fun b o => hLoad h b o fun v => kv v h) .bad ≠ .bad
        rw [e1]
        show hLoad h b o (fun v => kv v h) ≠ .bad
        rw [at_]; exact fun z => by cases z) hx
      have hv : v = ct.get o := by
        have := k1 kv
        have k1' : (nthRd rdL c e).onPtr (fun b o => hLoad h b o fun v => kv v h) .bad = kv v h := this
        rw [e1] at k1'
        have k2' : hLoad h b o (fun v => kv v h) = kv v h := k1'
        rw [at_] at k2'
        injection k2' with z; exact z.symm
      rw [e1] at hslot
      obtain ⟨L, l1, l2⟩ := hslot.ptr_inv
      refine ⟨v :: l, cv :: l', fun K => ?_, .cons k2 q2, look _ rfl k3 k2 l l' q2 q3 ⟨_, l2⟩⟩
      rw [unf, e1]
      show hLoad h b o (fun v => resRun r' e h fun l => K (v :: l)) = _
      rw [at_, q1, hv]

/-! marks are taken -/
theorem HR.deferSet (hr : HR S base μ h w) {r : Nat} {ds ds' : Option (List Deferred)} (ho : w.heap[r]? = some (.deferred ds)) : HR S base μ h (w.putObj r (.deferred ds')) := by
  refine ⟨hr.perf, hr.cap, hr.free, by simp; exact hr.bs, fun b L hb => by simp; exact hr.dom b L hb, fun b L hb ha => ?_, hr.apart, hr.tip, hr.wr, hr.fmOk, hr.mx⟩
  have hO := hr.obj b L hb ha
  by_cases hL : L.blk = r
  · cases hg : h.get b with
    | none => trivial
    | fam x y z => trivial
    | cells n ct kd fm =>
      rw [hg] at hO
      obtain ⟨g1, g3, g4⟩ := hO
      have hn : n = 0 := by
        rcases Nat.eq_zero_or_pos n with z | z
        · exact z
        · obtain ⟨v, p1, _⟩ := g3 0 z
          have : w.cell? ⟨L.blk, L.off + 0, none⟩ = none := by unfold World.cell?; rw [hL, ho]
          rw [this] at p1; cases p1
      have hk : kd = 2 := by
        apply Classical.byContradiction
        intro z
        obtain ⟨_, arr, t, q1, _⟩ := g4 z
        rw [hL, ho] at q1; cases q1
      subst hn
      exact ⟨g1, fun i hi => by omega, fun z => absurd hk z⟩
    | map sh es =>
      rw [hg] at hO
      obtain ⟨_, es', ck, q1, _⟩ := hO
      rw [hL, ho] at q1; cases q1
    | dfr => rw [hg] at hO; exact hO
    | loop st p pid env si d =>
      rw [hg] at hO
      obtain ⟨_, lp, sii, q1, _⟩ := hO
      rw [hL, ho] at q1; cases q1
  · exact hO.mono (Mu.le_refl _) (World.putObj_heap_other hL)
theorem marks_leave : ∀ (rs : List Nat) (w : World) (fr : Frame) (cs : List Frame), rs.Nodup → (∀ r ∈ rs, B ≤ r ∧ w.heap[r]? = some (.deferred (some []))) → fr.mode = .returning → fr.defers = rs.map mark → base ≤ B → HR S base μ h w →
    ∃ w', HR S base μ h w' ∧ Below base w w' ∧ (∀ b, b < B → w'.heap[b]? = w.heap[b]?) ∧ Steps P (lone fr cs w) (lone { fr with defers := [] } cs w')
  | [], w, fr, cs, hn, hm, hmode, hd, hB, hr => ⟨w, hr, Below.refl _ _, fun _ _ => rfl, by
      have : fr.defers = [] := hd
      rw [← this]; exact .refl P _⟩
  | r :: rs, w, fr, cs, hn, hm, hmode, hd, hB, hr => by
    obtain ⟨h1, h2⟩ := hm r (List.mem_cons_self ..)
    have s1 := step_collected (P := P) (fr := fr) (cs := cs) (d := mark r) (r := r) (ds := rs.map mark) (by rw [hmode]; intro z; cases z) hd rfl (run_takeDeferred (P := P) h2)
    have hn' := List.nodup_cons.1 hn
    obtain ⟨w', q1, q2, q3, q4⟩ := marks_leave rs (w.putObj r (.deferred none)) { fr with defers := [] ++ rs.map mark } cs hn'.2 (fun x hx => ⟨(hm x (List.mem_cons_of_mem _ hx)).1, by
      rw [World.putObj_heap_other (by rintro rfl; exact hn'.1 hx)]; exact (hm x (List.mem_cons_of_mem _ hx)).2⟩) hmode rfl hB (hr.deferSet h2)
    exact ⟨w', q1, (below_putObj (by omega)).trans q2, fun b hb => by rw [q3 b hb, World.putObj_heap_other (by omega)], .head s1 q4⟩

/-! the table -/
/-- what is known of f's answers -/
def SumOk (P : Program) (S : Sites) (ng : Nat) (f : Nat) (chk : List AV → Heap → Bool) (v : AV) : Prop := ∀ (base : Nat) (μ : Mu) (h : Heap) (w : World) (args : List AV) (args' : List Value), HR S base μ h w → GOk ng μ → VRs μ args args' → chk args h = true →
  ∀ (c : Frame) (cs : List Frame), ∃ v' w', Below w.heap.size w w' ∧ (∀ μ, VR μ v v') ∧ Steps P (lone (Frame.enter P f args'.toArray .normal) (c :: cs) w) (lone (c.finish v') cs w')
theorem HR.of_below (hr : HR S base μ h w) (hb : Below w.heap.size w w') : HR S base μ h w' :=
  ⟨hr.perf, hr.cap, hr.free, Nat.le_trans hr.bs hb.size, fun b L q => ⟨(hr.dom b L q).1, Nat.lt_of_lt_of_le (hr.dom b L q).2 hb.size⟩,
   fun b L q ha => (hr.obj b L q ha).mono (Mu.le_refl _) (hb.block _ (hr.dom b L q).2), hr.apart, hr.tip, hr.wr, hr.fmOk, hr.mx⟩
/-- function f's entry is what the program has -/
def FnOk (P : Program) (S : Sites) (tt : TT) (ng : Nat) (f : Nat) (d : DF) : Prop := d = .none ∨ ∃ (fn : Func) (c : Code) (fs : FuncS) (kp : Nat → Bool) (site : Nat) (l : List (List Nat × CodeS × CodeS)),
  P.funcs[f]? = some fn ∧ fn.body = some c ∧ (fn.name == "runtime.NumGoroutine") = false ∧ compFunc tt ng kp site fn = some (fs, l) ∧ SitesAt S kp fn.ntmps site (codeSites c) ∧ (d = fs.df ∨ ∃ chk v, d = .sm chk v (wL.take fs.np) (resRun fs.res) fs.code.run ∧ SumOk P S ng f chk v)
/-- site k's entry too -/
def SiteOk (S : Sites) (tt : TT) (ng : Nat) (k : Nat) (st : Site) : Prop := st = .none ∨ ∃ (si : SiteI) (n1 n2 n3 : Nat) (xa xb : CodeS) (la lb : List (List Nat × CodeS × CodeS)),
  S k = some si ∧ compCode tt ng si.kp si.nt n1 si.assign = some (xa, n2, la) ∧ compCode tt ng si.kp si.nt n2 si.body = some (xb, n3, lb) ∧ SitesAt S si.kp si.nt n1 (codeSites si.assign) ∧ SitesAt S si.kp si.nt n2 (codeSites si.body) ∧
    (∀ p ∈ si.ps.toList, si.kp p = true ∧ p < 320 ∧ p < si.nt) ∧ st = .mk (si.ps.toList.map (nthW wL)) xa.run xb.run
theorem comp_func {fn : Func} {fs : FuncS} {kp : Nat → Bool} {site : Nat} {l : List (List Nat × CodeS × CodeS)} (hc : compFunc tt ng kp site fn = some (fs, l)) :
    ∃ c x n, fn.body = some c ∧ compCode tt ng kp fn.ntmps site c = some (x, n, l) ∧ compRes tt kp fn.results.toList = some fs.res ∧ fs.code = x ∧ keepOk kp fs.np = true ∧ fs.np ≤ 320 := by
  obtain ⟨c, h1, hc⟩ := bind_some2 (show fn.body.bind _ = some (fs, l) from hc)
  obtain ⟨⟨x, n, l'⟩, h2, hc⟩ := bind_some2 hc
  obtain ⟨r, h3, hc⟩ := bind_some2 hc
  split at hc
  case isFalse => cases hc
  rename_i hb
  rw [Bool.and_eq_true] at hb
  cases hc
  exact ⟨c, x, n, h1, h2, h3, rfl, hb.1, ble_iff.1 hb.2⟩
theorem results_run {fn : Func} {tmps : Array Value} {l' : List Value} (hm : (fn.results.toList.mapM (resM tmps)).run P w = .ok l' w) :
    (results fn tmps).run P w = .ok (if h : l'.toArray.size = 1 then l'.toArray[0] else .tuple l'.toArray) w := by
  show (do
    let vs ← fn.results.mapM (resM tmps)
    pure (if h : vs.size = 1 then vs[0] else .tuple vs) : Sem Value).run P w = _
  rw [Array.mapM_eq_mapM_toList]
  simp only [map_eq_pure_bind, Sem.run_bind, Sem.run_pure, hm, Result.andThen_ok]
theorem packRes_ok {l : List AV} {l' : List Value} (hv : VRs μ l l') : VR μ (packRes l) (if h : l'.toArray.size = 1 then l'.toArray[0] else .tuple l'.toArray) := by
  cases hv with
  | nil => exact .tup .nil
  | cons hx hs =>
    cases hs with
    | nil => exact hx
    | cons hy hs => exact .tup (.cons hx (.cons hy hs))
/-- a function's body, to its end -/
theorem body_ok (htt : TTOk P tt) (h20 : 20 ≤ P.types.size + 1) (hbig : P.types.size + 2 ≤ 10000) (hmix : P.follows .mixedOrders = true) {s : Self} (hF : SelfF P S base ng s) (hY : SelfY P S base ng s) {n f : Nat} {fn : Func} {c : Code} {fs : FuncS} {kp : Nat → Bool} {site : Nat} {l : List (List Nat × CodeS × CodeS)}
    (h1 : P.funcs[f]? = some fn) (h2 : fn.body = some c) (h4 : compFunc tt ng kp site fn = some (fs, l)) (h5 : SitesAt S kp fn.ntmps site (codeSites c)) {args : List AV} {h : Heap} {v : AV} {h' : Heap} (hrun : callB (wL.take fs.np) (resRun fs.res) fs.code.run n s args h = .val v h')
    {μ : Mu} {w : World} {args' : List Value} (hr : HR S base μ h w) (hg : GOk ng μ) (hv : VRs μ args args') (cs : List Frame) :
    ∃ μ' v' w' fr, Ext S base μ h w μ' h' w' ∧ VR μ' v v' ∧ Steps P (lone (Frame.enter P f args'.toArray .normal) cs w) (lone fr cs w') ∧ fr.fn = f ∧ fr.leaving P w' (.returned v') := by
  obtain ⟨c', x, n', c1, c2, c3, c4, c5, c6⟩ := comp_func h4
  rw [h2] at c1; cases c1
  have unf : callB (wL.take fs.np) (resRun fs.res) fs.code.run n s args h = @Out.rec (fun _ => Out) .bad (fun e h => resRun fs.res e h fun l => .val (packRes l) h) (fun _ _ _ => .bad) (fun e h => resRun fs.res e h fun l => .val (packRes l) h) (fun _ _ => .bad) (fs.code.run ⟨n, 0, s⟩ (envOf args (wL.take fs.np) Env.nil) h) := rfl
  rw [unf, c4] at hrun
  have hne : x.run ⟨n, 0, s⟩ (envOf args (wL.take fs.np) Env.nil) h ≠ .bad := fun z => by rw [z] at hrun; cases hrun
  have ha := args_ok (kp := kp) (nt := fn.ntmps) (ng := ng) hv c6 c5 hg
  have henter : Frame.enter P f args'.toArray .normal = ({ (default : Frame) with fn := f, kind := .normal } : Frame).atR { tmps := args'.toArray ++ Array.replicate (fn.ntmps - args'.toArray.size) undef, defers := [] } [.code c] := by
    simp [Frame.enter, Frame.atR, h1, h2]
    rfl
  have q := code_ok htt h20 hbig hmix hF hY (c := ⟨n, 0, s⟩) rfl c site x n' l c2 h5 _ h μ w _ w.heap.size { (default : Frame) with fn := f, kind := .normal } [] cs hne hr ha (Marks.nil _ _) (Nat.le_refl _) (.inl ⟨rfl, rfl⟩)
  rw [← henter] at q
  -- what comes behind the code
  have fin : ∀ (e1 : Env) (h1' : Heap) (μ1 : Mu) (a1 : Act) (w1 : World) (todo : List Item), (resRun fs.res e1 h1' fun l => .val (packRes l) h1') = .val v h' → Ext S base μ h w μ1 h1' w1 → AR ng kp fn.ntmps μ1 [] e1 a1 → Marks w.heap.size w1 a1.defers →
      Steps P (lone (Frame.enter P f args'.toArray .normal) cs w) (lone { ({ (default : Frame) with fn := f, kind := .normal } : Frame).atR a1 todo with mode := .returning } cs w1) →
      ∃ μ' v' w' fr, Ext S base μ h w μ' h' w' ∧ VR μ' v v' ∧ Steps P (lone (Frame.enter P f args'.toArray .normal) cs w) (lone fr cs w') ∧ fr.fn = f ∧ fr.leaving P w' (.returned v') := by
    intro e1 h1' μ1 a1 w1 todo hres hx ha1 hm1 hsteps
    obtain ⟨rs, m1, m2, m3⟩ := hm1
    obtain ⟨w2, p1, p2, p3, p4⟩ := marks_leave (P := P) (base := base) rs w1 { ({ (default : Frame) with fn := f, kind := .normal } : Frame).atR a1 todo with mode := .returning } cs m2 m3 rfl m1 hr.bs hx.hr
    obtain ⟨l, l', q1, q2, q3⟩ := res_ok (P := P) (w := w2) htt p1 ha1 fn.results.toList fs.res _ c3 (by rw [hres]; intro z; cases z)
    rw [q1] at hres
    injection hres with z1 z2
    subst z1; subst z2
    refine ⟨μ1, _, w2, _, ⟨p1, hx.le, hx.nx, hx.fresh, hx.below.trans p2, fun b ds z => ?_⟩, packRes_ok q2, hsteps.trans p4, rfl, ⟨rfl, rfl, rfl, fn, h1, results_run q3⟩⟩
    have hb : b < w.heap.size := by
      rcases Nat.lt_or_ge b w.heap.size with y | y
      · exact y
      · rw [Array.getElem?_eq_none y] at z; cases z
    rw [p3 b hb]
    exact hx.kept b ds z
  cases ho : x.run ⟨n, 0, s⟩ (envOf args (wL.take fs.np) Env.nil) h with
  | nrm e1 h1' =>
    rw [ho] at hrun q
    obtain ⟨μ1, a1, w1, r1, r2, r3, r4⟩ := q
    exact fin e1 h1' μ1 a1 w1 [] hrun r1 r2 r3 (r4.trans (.one (stepR_end rfl)))
  | ret e1 h1' =>
    rw [ho] at hrun q
    obtain ⟨μ1, a1, w1, k1, r1, r2, r3, r4⟩ := q
    exact fin e1 h1' μ1 a1 w1 _ hrun r1 r2 r3 (r4.trans (.one (stepR_ret rfl)))
  | ext i e1 h1' => rw [ho] at hrun; cases hrun
  | val v1 h1' => rw [ho] at hrun; cases hrun
  | bad => rw [ho] at hrun; cases hrun
theorem self_f (htt : TTOk P tt) (h20 : 20 ≤ P.types.size + 1) (hbig : P.types.size + 2 ≤ 10000) (hmix : P.follows .mixedOrders = true) {ft : Nat → DF} (hft : ∀ f, FnOk P S tt ng f (ft f)) {s : Self} (hF : SelfF P S base ng s) (hY : SelfY P S base ng s) (n : Nat) (f : Nat) (args : List AV) (h : Heap) (v : AV) (h' : Heap) (hrun : callF (ft f) n s args h = .val v h')
    (μ : Mu) (w : World) (args' : List Value) (hr : HR S base μ h w) (hg : GOk ng μ) (hv : VRs μ args args') :
    (∃ fn, P.funcs[f]? = some fn ∧ fn.body.isSome = true ∧ (fn.name == "runtime.NumGoroutine") = false) ∧
    ∀ (c : Frame) (cs : List Frame), ∃ μ' v' w', Ext S base μ h w μ' h' w' ∧ VR μ' v v' ∧ Steps P (lone (Frame.enter P f args'.toArray .normal) (c :: cs) w) (lone (c.finish v') cs w') := by
  rcases hft f with hd | ⟨fn, c, fs, kp, site, l, h1, h2, h3, h4, h5, hd0⟩
  · rw [hd] at hrun; cases hrun
  · refine ⟨⟨fn, h1, by rw [h2]; rfl, h3⟩, ?_⟩
    have hrun : callB (wL.take fs.np) (resRun fs.res) fs.code.run n s args h = .val v h' ∨ ∀ (c : Frame) (cs : List Frame), ∃ μ' v' w', Ext S base μ h w μ' h' w' ∧ VR μ' v v' ∧ Steps P (lone (Frame.enter P f args'.toArray .normal) (c :: cs) w) (lone (c.finish v') cs w') := by
      rcases hd0 with hd | ⟨chk, v0, hd, hsum⟩
      · rw [hd] at hrun; exact .inl hrun
      · rw [hd] at hrun
        have hrun' : bo (chk args h) (.val v0 h) (callB (wL.take fs.np) (resRun fs.res) fs.code.run n s args h) = .val v h' := hrun
        cases hq : chk args h with
        | false => rw [hq, bo_f] at hrun'; exact .inl hrun'
        | true =>
          rw [hq, bo_t] at hrun'
          injection hrun' with z1 z2
          subst z1; subst z2
          refine .inr (fun cf cs => ?_)
          obtain ⟨v', w', q1, q2, q3⟩ := hsum base μ h w args args' hr hg hv hq cf cs
          exact ⟨μ, v', w', ⟨hr.of_below q1, Mu.le_refl _, Nat.le_refl _, fun _ _ z => z, q1.mono hr.bs, fun b ds z => by
            have hb : b < w.heap.size := by
              rcases Nat.lt_or_ge b w.heap.size with y | y
              · exact y
              · rw [Array.getElem?_eq_none y] at z; cases z
            rw [q1.block b hb]; exact z⟩, q2 μ, q3⟩
    rcases hrun with hrun | hrun
    case inr => exact hrun
    intro cf cs
    obtain ⟨μ', v', w', fr, q1, q2, q3, q4, q5⟩ := body_ok htt h20 hbig hmix hF hY h1 h2 h4 h5 hrun hr hg hv (cf :: cs)
    exact ⟨μ', v', w', q1, q2, q3.trans (.one (step_leave_returned q5))⟩
end Dv
/-! rounds; the table keeps its word -/
namespace Dv
open Go Go.RowKit
variable {S : Sites} {base : Nat} {μ μ' μ0 : Mu} {h h' h0 : Heap} {w w' w0 : World} {P : Program} {tt : TT} {ng : Nat} {kp : Nat → Bool} {nt : Nat} {M M' M1 : List Nat} {e e' e1 : Env} {a a' : Act} {k : K} {s : Self} {ops : Array Oper}
variable {B : Nat} {b : Frame} {kk kk' : List Item} {cs : List Frame} {m m' : Machine}

theorem endRound_ok (hr : HR S base μ h w) {l : Nat} {L : Loc} (hl : μ l = some L) {st p pid : Nat} {bb0 : Bool} {jump : Option Code} (hst : stOf (if jump.isNone then LoopState.ready else .done) = st) (hp : PendR p pid jump) {v : AV} (hrun : endRound l st p pid bb0 h = .val v h') (hb : bb0 = jump.isNone) :
    ∃ w', (Instr.endRound L.blk jump).run P w = .ok (.bool jump.isNone) w' ∧ Ext S base μ h w μ h' w' ∧ VR μ v (.bool jump.isNone) := by
  subst hb
  have unf : endRound l st p pid jump.isNone h = onLoop (h.get l) (fun _ _ _ env si d => h.upd l (.loop st p pid env si d) fun h => .val (.bool jump.isNone) h) .bad := rfl
  rw [unf] at hrun
  obtain ⟨st0, p0, pid0, env, si, d, e1, e2⟩ := onLoop_ne (by rw [hrun]; intro z; cases z)
  rw [e2] at hrun
  have hO := hr.obj l L hl (by unfold Alive; rw [e1]; trivial)
  rw [e1] at hO
  obtain ⟨hbb, lp, sii, q1, q2, q3, q4, q5, q6, q7, q8, q9⟩ := hO
  obtain ⟨h1, u1, u2, u3, u4⟩ := hr.loopSet hl e1 (st' := st) (p' := p) (pid' := pid) (env' := env) (o' := .loop { lp with state := if jump.isNone then .ready else .done, pending := jump }) q1 rfl hst hp ⟨rfl, rfl, rfl, rfl, rfl⟩
  rw [u1] at hrun
  injection hrun with z1 z2
  subst z1; subst z2
  exact ⟨_, run_endRound jump q1, u2, .bool _⟩
theorem self_y (htt : TTOk P tt) (h20 : 20 ≤ P.types.size + 1) (hbig : P.types.size + 2 ≤ 10000) (hmix : P.follows .mixedOrders = true) {sites : Nat → Site} (hst : ∀ k, SiteOk S tt ng k (sites k)) {s : Self} (hF : SelfF P S base ng s) (hY : SelfY P S base ng s) (n : Nat) (l : Nat) (args : List AV) (h : Heap) (v : AV) (h' : Heap) (hrun : runY sites n s l args h = .val v h')
    (μ : Mu) (w : World) (args' : List Value) (L : Loc) (hr : HR S base μ h w) (hg : GOk ng μ) (hv : VRs μ args args') (hl : μ l = some L) :
    ∃ (fn : FuncId) (tmps : Array Value) (asg body : Code), (Instr.yield L.blk args'.toArray).run P w = .ok (.round L.blk fn tmps asg body) w ∧
      ∀ (c : Frame) (cs : List Frame), ∃ (μ' : Mu) (v' : Value) (w' : World), Ext S base μ h w μ' h' w' ∧ VR μ' v v' ∧ Steps P (lone (Frame.round L.blk fn tmps asg body .normal) (c :: cs) w) (lone (c.finish v') cs w') := by
  have unf : runY sites n s l args h = onLoop (h.get l) (fun _ _ _ env si _ => @Site.rec (fun _ => Out) .bad (fun ps assign body =>
    bo (Nat.beq (lenL args) (lenW ps)) (onOut (assign ⟨n, Nat.add l 1, s⟩ (envOf args ps env) h) (fun e h => runY2 n l s body e h) (fun _ _ _ => .bad) (fun _ _ => .bad)) .bad) (sites si)) .bad := rfl
  rw [unf] at hrun
  obtain ⟨st0, p0, pid0, env, sn, d, e1, e2⟩ := onLoop_ne (by rw [hrun]; intro z; cases z)
  rw [e2] at hrun
  have hO := hr.obj l L hl (by unfold Alive; rw [e1]; trivial)
  rw [e1] at hO
  obtain ⟨hbb, lp, sii, q1, q2, q3, q4, q5, q6, q7, q8, q9⟩ := hO
  rcases hst sn with hd | ⟨si, n1, n2, n3, xa, xb, la, lb, s1, s2, s3, s4, s5, s6, s7⟩
  · rw [hd] at hrun; cases hrun
  rw [q5] at s1; cases s1
  rw [s7] at hrun
  have hrun' : bo (Nat.beq (lenL args) (lenW (sii.ps.toList.map (nthW wL)))) (onOut (xa.run ⟨n, l + 1, s⟩ (envOf args (sii.ps.toList.map (nthW wL)) env) h) (fun e h => runY2 n l s xb.run e h) (fun _ _ _ => .bad) (fun _ _ => .bad)) .bad = .val v h' := hrun
  obtain ⟨z1, z2⟩ := bo_ne' (by rw [hrun']; intro z; cases z)
  rw [z2] at hrun'
  have hlen := nbeq_iff.1 z1
  rw [lenL_eq, lenW_eq, List.length_map] at hlen
  have hlv := hv.length
  have hps : args'.toArray.size = lp.params.size := by rw [q6, List.size_toArray, ← hlv, hlen]; rfl
  have hyield := run_yield (P := P) q1 hps
  refine ⟨_, _, _, _, hyield, fun cf cs => ?_⟩
  rw [q6, q7, q8]
  -- the round's own temporaries
  have hpar := params_ok args args' sii.ps.toList env lp.tmps hv hlen s6 q9
  have hfold : (sii.ps.zip args'.toArray).foldl (fun tmps (t, a) => tmps.setIfInBounds t a) lp.tmps = (sii.ps.toList.zip args').foldl (fun tmps (x : Nat × Value) => tmps.setIfInBounds x.1 x.2) lp.tmps := by
    rw [← Array.foldl_toList, Array.toList_zip]
  rw [hfold]
  generalize htm : (sii.ps.toList.zip args').foldl (fun tmps (x : Nat × Value) => tmps.setIfInBounds x.1 x.2) lp.tmps = tm at hpar
  let bf : Frame := { (default : Frame) with fn := lp.fn, kind := .normal, roundOf := some L.blk }
  have hfr : Frame.round L.blk lp.fn tm sii.assign sii.body .normal = bf.atR { tmps := tm, defers := [] } [.code sii.assign, .beginRound, .code sii.body] := rfl
  rw [hfr]
  have ha : AR ng sii.kp sii.nt μ [] (envOf args (sii.ps.toList.map (nthW wL)) env) { tmps := tm, defers := [] } := ⟨hpar, fun t i q => (by cases q), hg⟩
  have hro : RoR μ (l + 1) bf := .inr ⟨l, L, rfl, hl, rfl⟩
  have hne : onOut (xa.run ⟨n, l + 1, s⟩ (envOf args (sii.ps.toList.map (nthW wL)) env) h) (fun e h => runY2 n l s xb.run e h) (fun _ _ _ => .bad) (fun _ _ => .bad) ≠ .bad := by rw [hrun']; intro z; cases z
  rcases onOut_ne hne with ⟨e3, h3, y1, y2⟩ | ⟨i, e3, h3, y1, y2⟩ | ⟨e3, h3, y1, y2⟩
  case inr.inl => rw [y2] at hne; exact absurd rfl hne
  case inr.inr => rw [y2] at hne; exact absurd rfl hne
  rw [y2] at hrun'
  have qa := code_ok htt h20 hbig hmix hF hY (c := ⟨n, l + 1, s⟩) rfl sii.assign n1 xa n2 la s2 s4 _ h μ w _ w.heap.size bf [.beginRound, .code sii.body] (cf :: cs) (by rw [y1]; intro z; cases z) hr ha (Marks.nil _ _) (Nat.le_refl _) hro
  rw [y1] at qa
  obtain ⟨μ1, a1, w1, r1, r2, r3, r4⟩ := qa
  -- the round begins
  have hl1 := r1.le _ _ hl
  have unf2 : runY2 n l s xb.run e3 h3 = onLoop (h3.get l) (fun st p pid env si d => bo (Nat.beq st 0) (h3.upd l (.loop 1 p pid env si d) fun h =>
    onOut (xb.run ⟨n, Nat.add l 1, s⟩ e3 h) (fun _ h => endRound l 0 0 0 true h) (fun i _ h => endRound l 2 2 i false h) (fun _ h => endRound l 2 1 0 false h)) .bad) .bad := rfl
  rw [unf2] at hrun'
  obtain ⟨st4, p4, pid4, env4, sn4, d4, g1, g2⟩ := onLoop_ne (by rw [hrun']; intro z; cases z)
  rw [g2] at hrun'
  obtain ⟨g3, g4⟩ := bo_ne' (by rw [hrun']; intro z; cases z)
  rw [g4] at hrun'
  have hst4 := nbeq_iff.1 g3
  subst hst4
  have hO1 := r1.hr.obj l L hl1 (by unfold Alive; rw [g1]; trivial)
  rw [g1] at hO1
  obtain ⟨_, lp1, si1, t1, t2, t3, t4, t5, t6, t7, t8, t9⟩ := hO1
  have hready : lp1.state = .ready := by cases hq : lp1.state <;> rw [hq] at t2 <;> first | rfl | cases t2
  obtain ⟨h5, u1, u2, u3, u4⟩ := r1.hr.loopSet hl1 g1 (st' := 1) (p' := p4) (pid' := pid4) (env' := env4) (o' := .loop { lp1 with state := .busy }) t1 rfl rfl t3 ⟨rfl, rfl, rfl, rfl, rfl⟩
  rw [u1] at hrun'
  have sbeg := stepR_beginRound (P := P) (b := bf) (a := a1) (k := [.code sii.body]) (cs := cf :: cs) (l := L.blk) rfl (run_beginRound (P := P) t1 hready)
  have hx1 := r1.trans u2
  have hne5 : onOut (xb.run ⟨n, l + 1, s⟩ e3 h5) (fun _ h => endRound l 0 0 0 true h) (fun i _ h => endRound l 2 2 i false h) (fun _ h => endRound l 2 1 0 false h) ≠ .bad := by
    intro z
    have hz : Out.bad = .val v h' := z.symm.trans hrun'
    cases hz
  have hb : xb.run ⟨n, l + 1, s⟩ e3 h5 ≠ .bad := fun z => by rw [z] at hne5; exact hne5 rfl
  have qb := code_ok htt h20 hbig hmix hF hY (c := ⟨n, l + 1, s⟩) rfl sii.body n2 xb n3 lb s3 s5 e3 h5 μ1 _ a1 w.heap.size bf [] (cf :: cs) hb u2.hr (r2.mono u2.le) (r3.keep u2.kept) (Nat.le_trans r1.size u2.size) (hro.mono r1.le)
  have pre := (r4.trans (.one sbeg))
  have hrun5 : onOut (xb.run ⟨n, l + 1, s⟩ e3 h5) (fun _ h => endRound l 0 0 0 true h) (fun i _ h => endRound l 2 2 i false h) (fun _ h => endRound l 2 1 0 false h) = .val v h' := hrun'
  rcases onOut_ne hne5 with ⟨e6, h6, y1, y2⟩ | ⟨i, e6, h6, y1, y2⟩ | ⟨e6, h6, y1, y2⟩
  · rw [y2] at hrun5
    rw [y1] at qb
    obtain ⟨μ2, a2, w2, v1, v2, v3, v4⟩ := qb
    obtain ⟨w3, k1, k2, k3⟩ := endRound_ok (P := P) v1.hr (v1.le _ _ hl1) (jump := none) rfl rfl hrun5 rfl
    exact ⟨μ2, _, w3, (hx1.trans v1).trans k2, k3, pre.trans (v4.trans (.one (stepR_round_end rfl rfl k1)))⟩
  · rw [y2] at hrun5
    rw [y1] at qb
    obtain ⟨μ2, a2, w2, kq, v1, v2, v3, v5, v4⟩ := qb
    obtain ⟨w3, k1, k2, k3⟩ := endRound_ok (P := P) v1.hr (v1.le _ _ hl1) (jump := some (.exit i)) rfl ⟨rfl, rfl⟩ hrun5 rfl
    exact ⟨μ2, _, w3, (hx1.trans v1).trans k2, k3, pre.trans (v4.trans (.one (stepR_round_exit rfl rfl v5 k1)))⟩
  · rw [y2] at hrun5
    rw [y1] at qb
    obtain ⟨μ2, a2, w2, kq, v1, v2, v3, v4⟩ := qb
    obtain ⟨w3, k1, k2, k3⟩ := endRound_ok (P := P) v1.hr (v1.le _ _ hl1) (jump := some .ret) rfl rfl hrun5 rfl
    exact ⟨μ2, _, w3, (hx1.trans v1).trans k2, k3, pre.trans (v4.trans (.one (stepR_round_ret rfl rfl k1)))⟩
theorem table_ok (htt : TTOk P tt) (h20 : 20 ≤ P.types.size + 1) (hbig : P.types.size + 2 ≤ 10000) (hmix : P.follows .mixedOrders = true) {ft : Nat → DF} {sites : Nat → Site} (hft : ∀ f, FnOk P S tt ng f (ft f)) (hst : ∀ k, SiteOk S tt ng k (sites k)) (n : Nat) : ∀ fuel : Nat, SelfF P S base ng (table ft sites fuel n) ∧ SelfY P S base ng (table ft sites fuel n)
  | 0 => ⟨fun f args h v h' q => (by cases q), fun l args h v h' q => by cases q⟩
  | fuel + 1 => by
    obtain ⟨hF, hY⟩ := table_ok htt h20 hbig hmix hft hst n fuel
    exact ⟨fun f args h v h' q μ w args' hr hg hv => self_f htt h20 hbig hmix hft hF hY n f args h v h' q μ w args' hr hg hv,
      fun l args h v h' q μ w args' L hr hg hv hl => self_y htt h20 hbig hmix hst hF hY n l args h v h' q μ w args' L hr hg hv hl⟩
end Dv
/-! answers that are known: arguments that read as given data -/
namespace Dv
open Go Go.RowKit
variable {S : Sites} {base : Nat} {μ μ' μ0 : Mu} {h h' h0 : Heap} {w w' w0 : World} {P : Program} {tt : TT} {ng : Nat}
noncomputable section
/-- where a block of the data lies: the block, the place in it, how many cells at least -/
abbrev Sg := List (Nat × Nat × Nat)
/-- no memory in it -/
def flatS : AV → Bool
  | .int _ _ => true
  | .bool _ => true
  | .str _ _ => true
  | .oth 0 0 [] [] => true
  | .oth 1 0 [] [] => true
  | .oth 3 0 [] [] => true
  | .oth 4 _ [] [] => true
  | .oth 6 0 [] [] => true
  | _ => false
def match1 (x y : AV) (σ : Sg) : Option Sg := match x, y with
  | .slice j o0 n sz ex0, .slice b o n' _ _ => if Nat.beq j σ.length && (Nat.beq o0 0 && (Nat.beq n n' && !ex0)) then some (σ ++ [(b, o, n * sz)]) else none
  | x, y => if flatS x && sameV x y then some σ else none
def matchL : List AV → List AV → Sg → Option Sg
  | [], [], σ => some σ
  | x :: xs, y :: ys, σ => (match1 x y σ).bind (matchL xs ys)
  | _, _, _ => none
/-- arguments: structs too -/
def matchA : List AV → List AV → Sg → Option Sg
  | [], [], σ => some σ
  | .oth 7 0 l [] :: xs, .oth 7 0 l' [] :: ys, σ => (matchL l l' σ).bind (matchA xs ys)
  | x :: xs, y :: ys, σ => (match1 x y σ).bind (matchA xs ys)
  | _, _, _ => none
def aliveOk (h : Heap) (b kd fm : Nat) : Bool := match kd with
  | 1 => match h.get fm with
    | .fam ow fl _ => Nat.beq b ow || Nat.ble fl b
    | _ => false
  | _ => true
def chkB (ng : Nat) (h : Heap) : List (List AV) → Nat → Sg → Bool
  | [], k, σ => Nat.beq σ.length k
  | [] :: r, k, σ => Nat.blt k σ.length && chkB ng h r (k + 1) σ
  | cs :: r, k, σ => match σ[k]? with
    | some (b, o, m) => match h.get b with
      | .cells nb ct kd fm => (Nat.ble (o + cs.length) nb && (aliveOk h b kd fm && (Nat.ble cs.length m || Nat.blt k ng))) && (match matchL cs (readCT ct cs.length o) σ with
        | some σ' => chkB ng h r (k + 1) σ'
        | none => false)
      | _ => false
    | none => false
def sg0 (ng : Nat) : Sg := (List.range ng).map fun g => (g, 0, 0)
def chkD (ng : Nat) (argsD : List AV) (bl : List (List AV)) (args : List AV) (h : Heap) : Bool := match matchA argsD args (sg0 ng) with
  | some σ => chkB ng h bl 0 σ
  | none => false
def treeD : List (List AV) → Nat → HT → HT
  | [], _, t => t
  | cs :: r, k, t => treeD r (k + 1) (t.set k (.cells (lenL cs) (ofL cs) 2 0))
def heapD (bl : List (List AV)) : Heap := .mk (bl.length) (treeD bl 0 (HT.full 18))
end
theorem flat_vr {x : AV} (hf : flatS x = true) {v : Value} (hv : VR μ x v) (μ' : Mu) : VR μ' x v := by
  cases hv with
  | int k n => exact .int k n
  | bool b => exact .bool b
  | str s => exact .str s
  | nilp => exact .nilp
  | nils => exact .nils
  | nilm => exact .nilm
  | nilf => exact .nilf
  | @fn f a b a' b' ha hb =>
    have q : a = [] ∧ b = [] := by
      cases a <;> cases b <;> first | exact ⟨rfl, rfl⟩ | cases hf
    obtain ⟨rfl, rfl⟩ := q
    cases ha; cases hb
    exact .fn .nil .nil
  | und v => cases hf
  | ptr q => cases hf
  | slEx q _ _ => cases hf
  | slGr q _ _ _ _ => cases hf
  | map q => cases hf
  | yld q => cases hf
  | agg q _ => cases hf
  | tup q => cases hf
/-- where the data's blocks lie -/
structure SI (ng : Nat) (μ : Mu) (σ : Sg) (μ' : Mu) : Prop where
  dom : ∀ j L', μ' j = some L' → j < σ.length
  at_ : ∀ j b o m, σ[j]? = some (b, o, m) → ∃ L L', μ b = some L ∧ μ' j = some L' ∧ L'.blk = L.blk ∧ L'.off = L.off + o ∧ m ≤ L'.ext
  glob : ∀ g, g < ng → μ' g = μ g
  ngl : ng ≤ σ.length
  gs : ∀ g, g < ng → σ[g]? = some (g, 0, 0)
theorem SI.start (hg : GOk ng μ) : SI ng μ (sg0 ng) (fun j => if j < ng then μ j else none) := by
  have hl : (sg0 ng).length = ng := by unfold sg0; simp
  refine ⟨fun j L' hj => ?_, fun j b o m hj => ?_, fun g h1 => if_pos h1, by omega, fun g h1 => by unfold sg0; rw [List.getElem?_map, List.getElem?_range h1]; rfl⟩
  · split at hj
    · omega
    · cases hj
  · have hlt := (List.getElem?_eq_some_iff.1 hj).1
    unfold sg0 at hj
    rw [List.getElem?_map, List.getElem?_range (by omega)] at hj
    simp only [Option.map_some, Option.some.injEq, Prod.mk.injEq] at hj
    obtain ⟨rfl, rfl, rfl⟩ := hj
    obtain ⟨L, h1, h2, h3⟩ := hg j (by omega)
    exact ⟨L, L, h1, by rw [if_pos (by omega)]; exact h1, rfl, rfl, Nat.zero_le _⟩
theorem match1_ok {x y : AV} {σ σ' : Sg} (hm : match1 x y σ = some σ') (hs : SI ng μ σ μ') {v : Value} (hv : VR μ y v) : ∃ μ'', μ'.le μ'' ∧ SI ng μ σ' μ'' ∧ VR μ'' x v ∧ σ.length ≤ σ'.length ∧ (∀ j, j < σ.length → σ'[j]? = σ[j]?) := by
  have flat : flatS x = true → sameV x y = true → σ' = σ → ∃ μ'', μ'.le μ'' ∧ SI ng μ σ' μ'' ∧ VR μ'' x v ∧ σ.length ≤ σ'.length ∧ (∀ j, j < σ.length → σ'[j]? = σ[j]?) := by
    rintro h1 h2 rfl
    have := sameV_eq _ _ h2
    subst this
    exact ⟨μ', Mu.le_refl _, hs, flat_vr h1 hv μ', Nat.le_refl _, fun _ _ => rfl⟩
  unfold match1 at hm
  split at hm
  · rename_i j o0 n sz ex0 b o n' c ex
    split at hm
    case isFalse => cases hm
    rename_i hq
    cases hm
    simp only [Bool.and_eq_true] at hq
    obtain ⟨q1, q2, q3, q4⟩ := hq
    have q1 := nbeq_iff.1 q1
    have q2 := nbeq_iff.1 q2
    have q3 := nbeq_iff.1 q3
    have q4 : ex0 = false := by simpa using q4
    subst q2; subst q3; subst q4
    obtain ⟨L, ad, cc, h1, rfl, hn, ha, _, _⟩ := hv.sl_inv
    have hnone : μ' j = none := by
      cases hq : μ' j with
      | none => rfl
      | some L' => have := hs.dom j L' hq; omega
    have hle := Mu.le_set hnone ⟨L.blk, L.off + o, cc * sz, sz⟩
    have hng := hs.ngl
    refine ⟨μ'.set j ⟨L.blk, L.off + o, cc * sz, sz⟩, hle, ⟨fun i L' hi => ?_, fun i b' o' m' hi => ?_, fun g h3 => ?_, by rw [List.length_append]; omega, fun g h3 => by rw [List.getElem?_append_left (by omega)]; exact hs.gs g h3⟩, ?_, by simp, fun i hi => by rw [List.getElem?_append_left hi]⟩
    · rw [List.length_append]
      unfold Mu.set at hi
      split at hi
      · rename_i z; simp; omega
      · have := hs.dom i L' hi; omega
    · by_cases hi2 : i < σ.length
      · rw [List.getElem?_append_left hi2] at hi
        obtain ⟨L1, L1', k1, k2, k3⟩ := hs.at_ i b' o' m' hi
        exact ⟨L1, L1', k1, hle _ _ k2, k3⟩
      · have hlt := (List.getElem?_eq_some_iff.1 hi).1
        rw [List.length_append] at hlt
        simp only [List.length_cons, List.length_nil] at hlt
        have : i = σ.length := by omega
        subst this
        rw [List.getElem?_append_right (Nat.le_refl _), Nat.sub_self] at hi
        simp only [List.getElem?_cons_zero, Option.some.injEq, Prod.mk.injEq] at hi
        obtain ⟨rfl, rfl, rfl⟩ := hi
        exact ⟨L, ⟨L.blk, L.off + o, cc * sz, sz⟩, h1, by rw [← q1]; exact Mu.set_self _ _ _, rfl, rfl, Nat.mul_le_mul_right _ hn⟩
    · unfold Mu.set
      rw [if_neg (by omega)]
      exact hs.glob g h3
    · exact .slGr (Mu.set_self _ _ _) (fun z => by rw [ha z]; rfl) hn (by simp) rfl
  · split at hm
    · rename_i hq
      rw [Bool.and_eq_true] at hq
      cases hm
      exact flat hq.1 hq.2 rfl
    · cases hm
theorem matchL_ok : ∀ {xs ys : List AV} {σ σ' : Sg} {μ' : Mu} {vs : List Value}, matchL xs ys σ = some σ' → SI ng μ σ μ' → VRs μ ys vs → ∃ μ'', μ'.le μ'' ∧ SI ng μ σ' μ'' ∧ VRs μ'' xs vs ∧ σ.length ≤ σ'.length ∧ (∀ j, j < σ.length → σ'[j]? = σ[j]?)
  | [], [], σ, σ', μ', vs, hm, hs, hv => by cases hm; cases hv; exact ⟨μ', Mu.le_refl _, hs, .nil, Nat.le_refl _, fun _ _ => rfl⟩
  | x :: xs, y :: ys, σ, σ', μ', vs, hm, hs, hv => by
    obtain ⟨σ1, h1, h2⟩ := bind_some2 (show (match1 x y σ).bind (matchL xs ys) = some σ' from hm)
    cases hv with
    | cons hv hvs =>
      obtain ⟨μ1, a1, a2, a3, a4, a5⟩ := match1_ok h1 hs hv
      obtain ⟨μ2, b1, b2, b3, b4, b5⟩ := matchL_ok h2 a2 hvs
      exact ⟨μ2, Mu.le_trans a1 b1, b2, .cons (a3.mono b1) b3, by omega, fun j hj => by rw [b5 j (by omega), a5 j hj]⟩
  | [], y :: ys, σ, σ', μ', vs, hm, hs, hv => by cases hm
  | x :: xs, [], σ, σ', μ', vs, hm, hs, hv => by cases hm
theorem matchA_ok : ∀ {xs ys : List AV} {σ σ' : Sg} {μ' : Mu} {vs : List Value}, matchA xs ys σ = some σ' → SI ng μ σ μ' → VRs μ ys vs → ∃ μ'', μ'.le μ'' ∧ SI ng μ σ' μ'' ∧ VRs μ'' xs vs ∧ σ.length ≤ σ'.length ∧ (∀ j, j < σ.length → σ'[j]? = σ[j]?) := by
  intro xs
  induction xs with
  | nil =>
    intro ys σ σ' μ' vs hm hs hv
    cases ys with
    | nil => cases hm; cases hv; exact ⟨μ', Mu.le_refl _, hs, .nil, Nat.le_refl _, fun _ _ => rfl⟩
    | cons y ys => cases hm
  | cons x xs ih =>
    intro ys σ σ' μ' vs hm hs hv
    cases ys with
    | nil => unfold matchA at hm; split at hm <;> first | (rename_i q1 q2; cases q1; done) | (rename_i q1 q2; cases q2; done) | cases hm
    | cons y ys =>
      cases hv with
      | @cons _ v _ vs' hv hvs =>
        unfold matchA at hm
        split at hm
        · rename_i q1 q2; cases q1
        · rename_i l xs' l' ys' _ q1 q2
          injection q1 with q1 q1'; injection q2 with q2 q2'
          subst q1; subst q1'; subst q2; subst q2'
          obtain ⟨σ1, h1, h2⟩ := bind_some2 hm
          obtain ⟨cs, c1, c2, rfl⟩ := hv.agg_inv
          obtain ⟨μ1, a1, a2, a3, a4, a5⟩ := matchL_ok h1 hs c1
          obtain ⟨μ2, b1, b2, b3, b4, b5⟩ := ih h2 a2 hvs
          exact ⟨μ2, Mu.le_trans a1 b1, b2, .cons ((VR.agg a3 c2).mono b1) b3, by omega, fun j hj => by rw [b5 j (by omega), a5 j hj]⟩
        · rename_i x' xs' y' ys' _ _ q1 q2
          injection q1 with q1 q1'; injection q2 with q2 q2'
          subst q1; subst q1'; subst q2; subst q2'
          obtain ⟨σ1, h1, h2⟩ := bind_some2 hm
          obtain ⟨μ1, a1, a2, a3, a4, a5⟩ := match1_ok h1 hs hv
          obtain ⟨μ2, b1, b2, b3, b4, b5⟩ := ih h2 a2 hvs
          exact ⟨μ2, Mu.le_trans a1 b1, b2, .cons (a3.mono b1) b3, by omega, fun j hj => by rw [b5 j (by omega), a5 j hj]⟩
        · cases hm
theorem aliveOk_ok {b kd fm n : Nat} {c : CT} (ho : h.get b = .cells n c kd fm) (q : aliveOk h b kd fm = true) : Alive h b := by
  unfold Alive
  rw [ho]
  intro hk
  subst hk
  unfold aliveOk at q
  cases hf : h.get fm with
  | fam ow fl tp =>
    simp only [hf] at q
    rw [Bool.or_eq_true] at q
    exact ⟨ow, fl, tp, rfl, q.imp nbeq_iff.1 ble_iff.1⟩
  | _ => simp only [hf] at q; cases q
/-- block k of the data is there -/
def BlkOk (μ' : Mu) (w : World) (k : Nat) (cs : List AV) : Prop := cs = [] ∨ ∃ L', μ' k = some L' ∧ cs.length ≤ L'.ext ∧ ∀ i x, cs[i]? = some x → ∃ v, w.cell? ⟨L'.blk, L'.off + i, none⟩ = some v ∧ v.oneCell' = true ∧ VR μ' x v
theorem BlkOk.mono {k : Nat} {cs : List AV} {μ'' : Mu} (q : BlkOk μ' w k cs) (hm : μ'.le μ'') : BlkOk μ'' w k cs := by
  rcases q with q | ⟨L', h1, h2, h3⟩
  · exact .inl q
  · exact .inr ⟨L', hm _ _ h1, h2, fun i x hi => let ⟨v, a, b, c⟩ := h3 i x hi; ⟨v, a, b, c.mono hm⟩⟩
theorem chkB_ok (hr : HR S base μ h w) : ∀ (bl : List (List AV)) (k : Nat) (σ : Sg) (μ' : Mu), chkB ng h bl k σ = true → SI ng μ σ μ' → ∃ μ'' σ', μ'.le μ'' ∧ SI ng μ σ' μ'' ∧ σ'.length = k + bl.length ∧ ∀ j cs, bl[j]? = some cs → BlkOk μ'' w (k + j) cs
  | [], k, σ, μ', hc, hs => ⟨μ', σ, Mu.le_refl _, hs, by have := nbeq_iff.1 (show Nat.beq σ.length k = true from hc); simp; omega, fun j cs hj => by simp at hj⟩
  | [] :: r, k, σ, μ', hc, hs => by
    have hc' : (Nat.blt k σ.length && chkB ng h r (k + 1) σ) = true := hc
    rw [Bool.and_eq_true] at hc'
    obtain ⟨μ2, σ2, b1, b2, b3, b4⟩ := chkB_ok hr r (k + 1) σ μ' hc'.2 hs
    refine ⟨μ2, σ2, b1, b2, by rw [b3, List.length_cons]; omega, fun j cs hj => ?_⟩
    cases j with
    | zero => simp at hj; exact .inl hj
    | succ j => have := b4 j cs hj; rw [show k + (j + 1) = k + 1 + j from by omega]; exact this
  | (c0 :: cr) :: r, k, σ, μ', hc, hs => by
    have hc' : (match σ[k]? with
      | some (b, o, m) => match h.get b with
        | .cells nb ct kd fm => (Nat.ble (o + (c0 :: cr).length) nb && (aliveOk h b kd fm && (Nat.ble (c0 :: cr).length m || Nat.blt k ng))) && (match matchL (c0 :: cr) (readCT ct (c0 :: cr).length o) σ with
          | some σ' => chkB ng h r (k + 1) σ'
          | none => false)
        | _ => false
      | none => false) = true := hc
    generalize hcs : (c0 :: cr) = cs at hc'
    cases hσ : σ[k]? with
    | none => rw [hσ] at hc'; cases hc'
    | some p =>
      obtain ⟨b, o, m⟩ := p
      rw [hσ] at hc'
      simp only at hc'
      cases hg : h.get b with
      | cells nb ct kd fm =>
        rw [hg] at hc'
        simp only at hc'
        rw [Bool.and_eq_true, Bool.and_eq_true, Bool.and_eq_true, Bool.or_eq_true] at hc'
        obtain ⟨⟨q1, q2, q3⟩, q4⟩ := hc'
        cases hm : matchL cs (readCT ct cs.length o) σ with
        | none => rw [hm] at q4; cases q4
        | some σ1 =>
          rw [hm] at q4
          simp only at q4
          obtain ⟨L, L', k1, k2, k3, k4, k5⟩ := hs.at_ k b o m hσ
          have hal := aliveOk_ok hg q2
          have q1' : o + cs.length ≤ nb := ble_iff.1 q1
          obtain ⟨vs, v1, v2, v3, v4⟩ := hr.loadN k1 hg hal q1'
          obtain ⟨μ1, a1, a2, a3, a4, a5⟩ := matchL_ok hm hs v4
          obtain ⟨μ2, σ2, b1, b2, b3, b4⟩ := chkB_ok hr r (k + 1) σ1 μ1 q4 a2
          refine ⟨μ2, σ2, Mu.le_trans a1 b1, b2, by rw [b3, List.length_cons]; omega, fun j cs' hj => ?_⟩
          cases j with
          | succ j => have := b4 j cs' hj; rw [show k + (j + 1) = k + 1 + j from by omega]; exact this
          | zero =>
            have hj' : cs = cs' := by simpa using hj
            subst hj'
            have hext : cs.length ≤ L'.ext := by
              rcases q3 with q3 | q3
              · have := ble_iff.1 q3; omega
              · have hk := blt_iff.1 q3
                have hglob := hs.glob k hk
                have hgs := hs.gs k hk
                rw [hσ] at hgs
                simp only [Option.some.injEq, Prod.mk.injEq] at hgs
                obtain ⟨rfl, rfl, rfl⟩ := hgs
                rw [hglob, k1] at k2
                cases k2
                -- a variable of the program's: the block itself
                have hO := hr.obj b L k1 hal
                rw [hg] at hO
                have hn := hO.1
                omega
            refine .inr ⟨L', b1 _ _ (a1 _ _ k2), hext, fun i x hi => ?_⟩
            obtain ⟨v, p1, p2⟩ := a3.get hi
            have hcell := v2 i v p1
            refine ⟨v, ?_, v3 v (List.mem_of_getElem? p1), p2.mono b1⟩
            rw [k3, k4]; exact hcell
      | _ => rw [hg] at hc'; cases hc'
theorem treeD_get : ∀ (bl : List (List AV)) (k : Nat) (t : HT), t.Perf 18 → k + bl.length ≤ 262144 → (treeD bl k t).Perf 18 ∧ ∀ j, j < 262144 → (treeD bl k t).get j = if k ≤ j ∧ j < k + bl.length then (match bl[j - k]? with | some cs => .cells (lenL cs) (ofL cs) 2 0 | none => .none) else t.get j
  | [], k, t, hp, hk => ⟨hp, fun j hj => by rw [if_neg (fun q => by have := q.2; simp at this; omega)]; rfl⟩
  | cs :: r, k, t, hp, hk => by
    rw [List.length_cons] at hk
    obtain ⟨q1, q2⟩ := treeD_get r (k + 1) (t.set k (.cells (lenL cs) (ofL cs) 2 0)) (hp.set _ _) (by omega)
    refine ⟨q1, fun j hj => ?_⟩
    show (treeD r (k + 1) (t.set k (.cells (lenL cs) (ofL cs) 2 0))).get j = _
    rw [q2 j hj, hp.get_set k j _ (by omega) hj]
    by_cases h1 : k = j
    · subst h1
      rw [if_neg (by omega), if_pos rfl, if_pos ⟨Nat.le_refl _, by rw [List.length_cons]; omega⟩, Nat.sub_self]; rfl
    · by_cases h2 : k + 1 ≤ j ∧ j < k + 1 + r.length
      · rw [if_pos h2, if_pos ⟨by omega, by rw [List.length_cons]; omega⟩, show j - k = (j - (k + 1)) + 1 from by omega]; rfl
      · rw [if_neg h2, if_neg h1, if_neg (by rw [List.length_cons]; omega)]
/-- the data, as a memory of its own -/
theorem data_ok (hr : HR S base μ h w) (hg : GOk ng μ) {argsD : List AV} {bl : List (List AV)} {args : List AV} {args' : List Value} (hv : VRs μ args args') (hc : chkD ng argsD bl args h = true) (hcap : bl.length ≤ 262143) :
    ∃ μ', HR S w.heap.size μ' (heapD bl) w ∧ GOk ng μ' ∧ VRs μ' argsD args' := by
  unfold chkD at hc
  cases hm : matchA argsD args (sg0 ng) with
  | none => rw [hm] at hc; cases hc
  | some σ =>
    rw [hm] at hc
    obtain ⟨μ1, a1, a2, a3, a4, a5⟩ := matchA_ok hm (SI.start hg) hv
    obtain ⟨μ2, σ2, b1, b2, b3, b4⟩ := chkB_ok hr bl 0 σ μ1 hc a2
    rw [Nat.zero_add] at b3
    obtain ⟨t1, t2⟩ := treeD_get bl 0 (HT.full 18) (HT.perf_full 18) (by omega)
    have hget : ∀ j, j < bl.length → ∃ cs, bl[j]? = some cs ∧ (heapD bl).get j = .cells (lenL cs) (ofL cs) 2 0 := fun j hj => by
      refine ⟨bl[j], List.getElem?_eq_getElem hj, ?_⟩
      show (treeD bl 0 (HT.full 18)).get j = _
      rw [t2 j (by omega), if_pos ⟨Nat.zero_le _, by omega⟩, Nat.sub_zero, List.getElem?_eq_getElem hj]
    have hdom : ∀ j L', μ2 j = some L' → j < bl.length := fun j L' q => by have := b2.dom j L' q; omega
    have hblk : ∀ j L', μ2 j = some L' → L'.blk < w.heap.size := fun j L' q => by
      have hj := hdom j L' q
      have hjs : j < σ2.length := by omega
      obtain ⟨L, L2, k1, k2, k3, k4⟩ := b2.at_ j σ2[j].1 σ2[j].2.1 σ2[j].2.2 (List.getElem?_eq_getElem hjs)
      rw [q] at k2; cases k2
      rw [k3]; exact (hr.dom _ L k1).2
    have cells : ∀ j L' n c kd fm, μ2 j = some L' → (heapD bl).get j = .cells n c kd fm → kd = 2 ∧ fm = 0 := fun j L' n c kd fm q1 q2 => by
      obtain ⟨cs, _, h2⟩ := hget j (hdom j L' q1)
      rw [h2] at q2; cases q2; exact ⟨rfl, rfl⟩
    have ro : ∀ j L', μ2 j = some L' → ((heapD bl).get j).ro := fun j L' q => by
      obtain ⟨cs, _, h2⟩ := hget j (hdom j L' q)
      rw [h2]; rfl
    refine ⟨μ2, ⟨⟨_, rfl, t1⟩, hcap, fun b hb hb' => ?_, Nat.le_refl _, fun j L' q => ⟨hdom j L' q, hblk j L' q⟩, fun j L' q ha => ?_, fun j j' L L' q q' _ _ _ _ => .inl ⟨ro j L q, ro j' L' q'⟩, fun j L' q ha n ct fm ow fl tp nt ctt Lt q1 => ?_, fun j L' q q1 => absurd (ro j L' q) q1, fun j L' n c kd fm q q1 => ?_, fun j L' n c fm ow fl tp q ha q1 => ?_⟩, fun g hgn => ?_, a3.mono b1⟩
    · show (treeD bl 0 (HT.full 18)).get b = _
      have hb2 : bl.length ≤ b := hb
      rw [t2 b hb', if_neg (by omega), HT.get_full]
    · obtain ⟨cs, h1, h2⟩ := hget j (hdom j L' q)
      rw [h2]
      have hB := b4 j cs h1
      rw [Nat.zero_add] at hB
      rcases hB with rfl | ⟨L2, k1, k2, k3⟩
      · exact ⟨Nat.zero_le _, fun i hi => absurd hi (Nat.not_lt_zero _), fun z => absurd rfl z⟩
      · rw [q] at k1; cases k1
        refine ⟨by rw [lenL_eq]; exact k2, fun i hi => ?_, fun z => absurd rfl z⟩
        rw [lenL_eq] at hi
        obtain ⟨v, p1, p2, p3⟩ := k3 i cs[i] (List.getElem?_eq_getElem hi)
        refine ⟨v, p1, p2, ?_⟩
        rcases ct_ofL_get 18 cs i with z | z
        · show VR μ2 (CT.get (CT.ofL 18 cs) i) v
          rw [z, List.getElem?_eq_getElem hi]; exact p3
        · show VR μ2 (CT.get (CT.ofL 18 cs) i) v
          rw [z]; exact .und _
    · obtain ⟨z, _⟩ := cells j L' n ct 1 fm q q1
      cases z
    · obtain ⟨_, rfl⟩ := cells j L' n c kd fm q q1
      have := hdom j L' q
      show 0 < bl.length
      omega
    · obtain ⟨z, _⟩ := cells j L' n c 1 fm q q1
      cases z
    · obtain ⟨L, k1, k2, k3⟩ := hg g hgn
      exact ⟨L, b1 _ _ ((a2.glob g hgn).trans k1), k2, k3⟩
/-- an answer that was computed once -/
theorem sum_ok (htt : TTOk P tt) (h20 : 20 ≤ P.types.size + 1) (hbig : P.types.size + 2 ≤ 10000) (hmix : P.follows .mixedOrders = true) {ft : Nat → DF} {sites : Nat → Site} (hft : ∀ f, FnOk P S tt ng f (ft f)) (hst : ∀ k, SiteOk S tt ng k (sites k)) {n fuel f : Nat} {argsD : List AV} {bl : List (List AV)} {v : AV} {hh : Heap}
    (hrun : table ft sites fuel n 0 f argsD (heapD bl) = .val v hh) (hcap : bl.length ≤ 262143) (hv : flatS v = true) : SumOk P S ng f (chkD ng argsD bl) v := by
  intro base μ h w args args' hr hg hvs hc cf cs
  obtain ⟨μ', r1, r2, r3⟩ := data_ok hr hg hvs hc hcap
  obtain ⟨hF, _⟩ := table_ok (P := P) (base := w.heap.size) htt h20 hbig hmix hft hst n fuel
  obtain ⟨_, hcall⟩ := hF f argsD (heapD bl) v hh hrun μ' w args' r1 r2 r3
  obtain ⟨μ2, v', w', q1, q2, q3⟩ := hcall cf cs
  exact ⟨v', w', q1.below, fun μ => flat_vr hv q2 μ, q3⟩
end Dv
/-! what is asked of each function once, by the kernel -/
namespace Dv
open Go Go.RowKit
variable {P : Program} {S : Sites} {tt : TT} {ng : Nat}
/-- one function, with no range over a function in it -/
noncomputable def fnD (tt : TT) (ng : Nat) (kp : Nat → Bool) (site : Nat) (fn : Func) : Option DF :=
  (compFunc tt ng kp site fn).bind fun p => if (fn.name == "runtime.NumGoroutine") || fn.body.any (fun c => !(codeSites c).isEmpty) then none else some p.1.df
/-- one function, with one range over a function in it -/
noncomputable def fnD1 (tt : TT) (ng : Nat) (kp : Nat → Bool) (site : Nat) (fn : Func) : Option DF :=
  (compFunc tt ng kp site fn).bind fun p => if (fn.name == "runtime.NumGoroutine") || fn.body.any (fun c => !Nat.beq (codeSites c).length 1) then none else some p.1.df
/-- the range of a function -/
def siteAt (kp : Nat → Bool) (fn : Func) : Option SiteI := fn.body.bind fun c => ((codeSites c)[0]?).map fun x => ⟨kp, fn.ntmps, x.1, x.2.1, x.2.2⟩
noncomputable def siteD (tt : TT) (ng : Nat) (kp : Nat → Bool) (fn : Func) : Option Site :=
  (siteAt kp fn).bind fun si => (compCode tt ng kp si.nt 0 si.assign).bind fun p => (compCode tt ng kp si.nt p.2.1 si.body).bind fun q =>
    if (codeSites si.assign).isEmpty && (codeSites si.body).isEmpty && si.ps.toList.all (fun p => kp p && Nat.blt p 320 && Nat.blt p si.nt) then some (.mk (si.ps.toList.map (nthW wL)) p.1.run q.1.run) else none
theorem sitesAt_nil {kp : Nat → Bool} {nt n : Nat} : SitesAt S kp nt n [] := fun j x h => by simp at h
/-- what is to be shown of a function, but for its entry -/
def FnHas (P : Program) (S : Sites) (tt : TT) (ng : Nat) (f : Nat) (d : DF) : Prop := ∃ (fn : Func) (c : Code) (fs : FuncS) (kp : Nat → Bool) (site : Nat) (l : List (List Nat × CodeS × CodeS)),
  P.funcs[f]? = some fn ∧ fn.body = some c ∧ (fn.name == "runtime.NumGoroutine") = false ∧ compFunc tt ng kp site fn = some (fs, l) ∧ SitesAt S kp fn.ntmps site (codeSites c) ∧ d = fs.df
theorem FnHas.ok {f : Nat} {d : DF} (h : FnHas P S tt ng f d) : FnOk P S tt ng f d :=
  let ⟨fn, c, fs, kp, site, l, h1, h2, h3, h4, h5, h6⟩ := h
  .inr ⟨fn, c, fs, kp, site, l, h1, h2, h3, h4, h5, .inl h6⟩
theorem FnHas.sm {f : Nat} {ws : List Wr} {res : Res} {code : Run} (h : FnHas P S tt ng f (.mk ws res code)) {chk : List AV → Heap → Bool} {v : AV} (hs : SumOk P S ng f chk v) : FnOk P S tt ng f (.sm chk v ws res code) := by
  obtain ⟨fn, c, fs, kp, site, l, h1, h2, h3, h4, h5, h6⟩ := h
  refine .inr ⟨fn, c, fs, kp, site, l, h1, h2, h3, h4, h5, .inr ⟨chk, v, ?_, hs⟩⟩
  unfold FuncS.df at h6
  injection h6 with a b c
  rw [a, b, c]
theorem body_some {kp : Nat → Bool} {site : Nat} {fn : Func} {p : FuncS × List (List Nat × CodeS × CodeS)} (h : compFunc tt ng kp site fn = some p) : ∃ c, fn.body = some c := by
  obtain ⟨c, h1, _⟩ := bind_some2 (show fn.body.bind _ = some p from h)
  exact ⟨c, h1⟩
theorem fnHas {f : Nat} {fn : Func} {kp : Nat → Bool} {site : Nat} {d : DF} (hf : P.funcs[f]? = some fn) (h : fnD tt ng kp site fn = some d) : FnHas P S tt ng f d := by
  obtain ⟨⟨fs, l⟩, h1, h2⟩ := bind_some2 h
  obtain ⟨c, hb⟩ := body_some h1
  split at h2
  · cases h2
  rename_i hq
  rw [hb] at hq
  simp only [Bool.or_eq_true, not_or, Option.any_some, Bool.not_eq_true', Bool.not_eq_false] at hq
  injection h2 with h2
  refine ⟨fn, c, fs, kp, site, l, hf, hb, by simpa using hq.1, h1, ?_, h2.symm⟩
  have : codeSites c = [] := by simpa using hq.2
  rw [this]; exact sitesAt_nil
theorem fnHas1 {f : Nat} {fn : Func} {kp : Nat → Bool} {site : Nat} {d : DF} (hf : P.funcs[f]? = some fn) (hS : S site = siteAt kp fn) (h : fnD1 tt ng kp site fn = some d) : FnHas P S tt ng f d := by
  obtain ⟨⟨fs, l⟩, h1, h2⟩ := bind_some2 h
  obtain ⟨c, hb⟩ := body_some h1
  split at h2
  · cases h2
  rename_i hq
  rw [hb] at hq
  simp only [Bool.or_eq_true, not_or, Option.any_some, Bool.not_eq_true', Bool.not_eq_false] at hq
  injection h2 with h2
  refine ⟨fn, c, fs, kp, site, l, hf, hb, by simpa using hq.1, h1, ?_, h2.symm⟩
  have hl : (codeSites c).length = 1 := nbeq_iff.1 hq.2
  intro j x hx
  have hj : j < 1 := by rw [← hl]; exact (List.getElem?_eq_some_iff.1 hx).1
  have hj0 : j = 0 := by omega
  subst hj0
  rw [Nat.add_zero, hS]
  unfold siteAt
  rw [hb]
  show ((codeSites c)[0]?).map _ = _
  rw [hx]; rfl
theorem siteOk {k : Nat} {fn : Func} {kp : Nat → Bool} {st : Site} (hS : S k = siteAt kp fn) (h : siteD tt ng kp fn = some st) : SiteOk S tt ng k st := by
  obtain ⟨si, h1, h2⟩ := bind_some2 h
  obtain ⟨⟨xa, n2, la⟩, h3, h4⟩ := bind_some2 h2
  obtain ⟨⟨xb, n3, lb⟩, h5, h6⟩ := bind_some2 h4
  split at h6
  case isFalse => cases h6
  rename_i hq
  simp only [Bool.and_eq_true] at hq
  injection h6 with h6
  have hk : si.kp = kp := by
    unfold siteAt at h1
    obtain ⟨c, _, h7⟩ := bind_some2 h1
    obtain ⟨x, _, h8⟩ := map_some2 h7
    rw [h8]
  refine .inr ⟨si, 0, n2, n3, xa, xb, la, lb, hS.trans h1, by rw [hk]; exact h3, by rw [hk]; exact h5, ?_, ?_, fun p hp => ?_, h6.symm⟩
  · rw [show codeSites si.assign = [] from by simpa using hq.1.1]; exact sitesAt_nil
  · rw [show codeSites si.body = [] from by simpa using hq.1.2]; exact sitesAt_nil
  · have := List.all_eq_true.1 hq.2 p hp
    simp only [Bool.and_eq_true] at this
    exact ⟨by rw [hk]; exact this.1.1, blt_iff.1 this.1.2, blt_iff.1 this.2⟩
end Dv
/-! from the top -/
namespace Dv
open Go Go.RowKit
variable {P : Program} {S : Sites} {tt : TT} {ng : Nat}
theorem top_ok (htt : TTOk P tt) (h20 : 20 ≤ P.types.size + 1) (hbig : P.types.size + 2 ≤ 10000) (hmix : P.follows .mixedOrders = true) {ft : Nat → DF} {sites : Nat → Site} (hft : ∀ f, FnOk P S tt ng f (ft f)) (hst : ∀ k, SiteOk S tt ng k (sites k)) {f : Nat} (hfn : FnHas P S tt ng f (ft f)) {fuel n base : Nat} {args : List AV} {h : Heap} {v : AV} {h' : Heap}
    (hrun : table ft sites (fuel + 1) n 0 f args h = .val v h') {μ : Mu} {w : World} {args' : List Value} (hr : HR S base μ h w) (hg : GOk ng μ) (hv : VRs μ args args') :
    Calls P f args'.toArray w fun e w' => ∃ μ' v', e = .returned v' ∧ Ext S base μ h w μ' h' w' ∧ VR μ' v v' := by
  obtain ⟨hF, hY⟩ := table_ok (P := P) (base := base) htt h20 hbig hmix hft hst n fuel
  obtain ⟨fn, c, fs, kp, site, l, h1, h2, h3, h4, h5, h6⟩ := hfn
  have hrun' : callF (ft f) n (table ft sites fuel n) args h = .val v h' := hrun
  rw [h6] at hrun'
  intro cs
  obtain ⟨μ', v', w', fr, q1, q2, q3, q4, q5⟩ := body_ok htt h20 hbig hmix hF hY h1 h2 h4 h5 (show callB (wL.take fs.np) (resRun fs.res) fs.code.run n (table ft sites fuel n) args h = .val v h' from hrun') hr hg hv cs
  exact ⟨.returned v', w', fr, ⟨μ', v', rfl, q1, q2⟩, q3, q4, q5⟩
/-- the program's variables, as they lie at the start -/
theorem start_ok {w : World} {bl : List (List AV)} {μ : Mu} (hcap : bl.length ≤ 262143) (hsz : bl.length ≤ w.heap.size) (hμ : ∀ g, μ g = if g < bl.length then some ⟨g, 0, ((bl[g]?).getD []).length, 1⟩ else none)
    (hbl : ∀ g cs, bl[g]? = some cs → ∀ i x, cs[i]? = some x → ∃ v, w.cell? ⟨g, i, none⟩ = some v ∧ v.oneCell' = true ∧ VR μ x v) : HR S w.heap.size μ (heapD bl) w ∧ GOk bl.length μ := by
  obtain ⟨t1, t2⟩ := treeD_get bl 0 (HT.full 18) (HT.perf_full 18) (by omega)
  have hdom : ∀ j L', μ j = some L' → j < bl.length ∧ L' = ⟨j, 0, ((bl[j]?).getD []).length, 1⟩ := fun j L' q => by
    rw [hμ] at q
    split at q
    · rename_i z; cases q; exact ⟨z, rfl⟩
    · cases q
  have hget : ∀ j, j < bl.length → ∃ cs, bl[j]? = some cs ∧ (heapD bl).get j = .cells (lenL cs) (ofL cs) 2 0 := fun j hj => by
    refine ⟨bl[j], List.getElem?_eq_getElem hj, ?_⟩
    show (treeD bl 0 (HT.full 18)).get j = _
    rw [t2 j (by omega), if_pos ⟨Nat.zero_le _, by omega⟩, Nat.sub_zero, List.getElem?_eq_getElem hj]
  have cells : ∀ j L' n c kd fm, μ j = some L' → (heapD bl).get j = .cells n c kd fm → kd = 2 ∧ fm = 0 := fun j L' n c kd fm q1 q2 => by
    obtain ⟨cs, _, h2⟩ := hget j (hdom j L' q1).1
    rw [h2] at q2; cases q2; exact ⟨rfl, rfl⟩
  have ro : ∀ j L', μ j = some L' → ((heapD bl).get j).ro := fun j L' q => by
    obtain ⟨cs, _, h2⟩ := hget j (hdom j L' q).1
    rw [h2]; rfl
  refine ⟨⟨⟨_, rfl, t1⟩, hcap, fun b hb hb' => ?_, Nat.le_refl _, fun j L' q => ?_, fun j L' q ha => ?_, fun j j' L L' q q' _ _ _ _ => .inl ⟨ro j L q, ro j' L' q'⟩, fun j L' q ha n ct fm ow fl tp nt ctt Lt q1 => ?_, fun j L' q q1 => absurd (ro j L' q) q1, fun j L' n c kd fm q q1 => ?_, fun j L' n c fm ow fl tp q ha q1 => ?_⟩, fun g hgn => ?_⟩
  · show (treeD bl 0 (HT.full 18)).get b = _
    have hb2 : bl.length ≤ b := hb
    rw [t2 b hb', if_neg (by omega), HT.get_full]
  · obtain ⟨h1, h2⟩ := hdom j L' q
    subst h2
    exact ⟨h1, by show j < _; omega⟩
  · obtain ⟨cs, h1, h2⟩ := hget j (hdom j L' q).1
    obtain ⟨_, hL⟩ := hdom j L' q
    subst hL
    rw [h2]
    refine ⟨by show lenL cs ≤ ((bl[j]?).getD []).length; rw [lenL_eq, h1]; exact Nat.le_refl _, fun i hi => ?_, fun z => absurd rfl z⟩
    rw [lenL_eq] at hi
    obtain ⟨v, p1, p2, p3⟩ := hbl j cs h1 i cs[i] (List.getElem?_eq_getElem hi)
    refine ⟨v, by rw [Nat.zero_add]; exact p1, p2, ?_⟩
    rcases ct_ofL_get 18 cs i with z | z
    · show VR μ (CT.get (CT.ofL 18 cs) i) v
      rw [z, List.getElem?_eq_getElem hi]; exact p3
    · show VR μ (CT.get (CT.ofL 18 cs) i) v
      rw [z]; exact .und _
  · obtain ⟨z, _⟩ := cells j L' n ct 1 fm q q1
    cases z
  · obtain ⟨_, rfl⟩ := cells j L' n c kd fm q q1
    have := (hdom j L' q).1
    show 0 < bl.length
    omega
  · obtain ⟨z, _⟩ := cells j L' n c 1 fm q q1
    cases z
  · exact ⟨_, by rw [hμ, if_pos hgn], rfl, rfl⟩
end Dv
