/-
  The relation, operation by operation (second part).
-/
import Derived.Test.YticmcblmkphiaaaGreatDoorEvB
import Derived.Laws.Slices
import Derived.Laws.Small
import Derived.Laws.Strings
import Derived.Laws.Strings2
import Derived.WideShapes
import Derived.Laws.Strings3
import Derived.Laws.Cover3
import Derived.Laws.Tables
set_option linter.unusedVariables false
set_option linter.unusedSimpArgs false
set_option linter.unusedSectionVars false
/-! operations that look at no memory, 1 -/
namespace Dv
open Go Go.RowKit
variable {S : Sites} {base : Nat} {μ μ' : Mu} {h : Heap} {w w' : World} {P : Program} {tt : TT} {ng : Nat} {kp : Nat → Bool} {nt : Nat} {M : List Nat} {e : Env} {a : Act} {k : K}

/-- op's value needs no memory: 's' gives it in every world -/
def QR (P : Program) (μ : Mu) (op : DOp) (e : Env) (s : Sem Next) : Prop :=
  ∃ v cv, (∀ h k, op e h k = k v h) ∧ VR μ v cv ∧ ∀ w, s.run P w = .ok (.value cv) w
def valS (s : Sem Value) : Sem Next := do pure (.value (← s))
theorem valS_run {s : Sem Value} {cv : Value} (h : ∀ w, s.run P w = .ok cv w) (w : World) : (valS s).run P w = .ok (.value cv) w := by
  simp [valS, h w]
theorem kcode_cases (k : IntKind) : bitsOf (kcode k) = k.bits := by cases k <;> rfl
theorem ofInt_small {n x : Nat} (h : x < 2 ^ n) : (BitVec.ofInt n (x : Int)).toNat = x := by
  rw [BitVec.toNat_ofInt]
  have : (x : Int) % ((2 ^ n : Nat) : Int) = (x : Int) := Int.emod_eq_of_lt (by omega) (by exact_mod_cast h)
  rw [this]; rfl
theorem wrap_nat {k : IntKind} (hk : k.signed = false) {x : Nat} (h : x < 2 ^ k.bits) : k.wrap (x : Int) = x := by
  unfold IntKind.wrap
  have : (x : Int) % 2 ^ k.bits = (x : Int) := Int.emod_eq_of_lt (by omega) (by exact_mod_cast h)
  simp [hk, this]
def bitOp (op : BinOp) : Prop := op = .and ∨ op = .or ∨ op = .xor
theorem ib_ok {op : BinOp} (t : TypeId) {kk : IntKind} {x y : Int} {f : AV → Out} (hne : ibOf op (kcode kk) x y f ≠ .bad) (h1 : op ≠ .shl) (h2 : op ≠ .shr) :
    ∃ v cv, (∀ f, ibOf op (kcode kk) x y f = f v) ∧ (∀ μ, VR μ v cv) ∧ ∀ w, (binOp op t (.int kk x) (.int kk y)).run P w = .ok cv w := by
  have hB : ∀ {g : Nat → Nat → Nat}, ibNat g (kcode kk) x y f ≠ .bad → ∃ m n : Nat, x = m ∧ y = n ∧ m < 2 ^ kk.bits ∧ n < 2 ^ kk.bits ∧ kk.signed = false ∧ ∀ f, ibNat g (kcode kk) x y f = f (.int (kcode kk) (.ofNat (g m n))) := by
    intro g hne
    unfold ibNat at hne
    obtain ⟨m, e1, e2⟩ := onI_ne (fun _ => rfl) hne
    rw [e2] at hne
    obtain ⟨n, e3, e4⟩ := onI_ne (fun _ => rfl) hne
    rw [e4] at hne
    obtain ⟨h3, h4⟩ := bo_ne' hne
    rw [kcode_cases] at h3
    have hk4 : 4 ≤ kcode kk := ble_iff.1 (bb_and h3).1
    refine ⟨m, n, e1, e3, blt_iff.1 (bb_and (bb_and h3).2).1, blt_iff.1 (bb_and (bb_and h3).2).2, by cases kk <;> simp [kcode] at hk4 <;> rfl, fun f => ?_⟩
    subst e1; subst e3
    unfold ibNat
    show bo _ _ _ = _
    rw [kcode_cases, h3]; rfl
  cases op with
  | shl => exact absurd rfl h1
  | shr => exact absurd rfl h2
  | andNot => exact absurd rfl hne
  | add => exact ⟨_, .int kk (kk.wrap (x + y)), fun f => rfl, fun μ => by rw [wrapK_eq, addI_eq]; exact .int _ _, fun w => by simp [binOp, Op.intArith]⟩
  | sub => exact ⟨_, .int kk (kk.wrap (x - y)), fun f => rfl, fun μ => by rw [wrapK_eq, subI_eq]; exact .int _ _, fun w => by simp [binOp, Op.intArith]⟩
  | mul => exact ⟨_, .int kk (kk.wrap (x * y)), fun f => rfl, fun μ => by rw [wrapK_eq]; exact .int _ _, fun w => by simp [binOp, Op.intArith]⟩
  | quo =>
    have hz : eqI y 0 = false := by
      cases q : eqI y 0 with
      | false => rfl
      | true => refine absurd ?_ hne; show bo (eqI y 0) .bad _ = _; rw [q]; rfl
    have hy : y ≠ 0 := fun q => by rw [eqI_eq] at hz; simp [q] at hz
    refine ⟨.int (kcode kk) (wrapK (kcode kk) (Int.tdiv x y)), .int kk (kk.wrap (x.tdiv y)), fun f => ?_, fun μ => by rw [wrapK_eq]; exact .int _ _, fun w => by simp [binOp, Op.intDiv, hy]⟩
    show bo (eqI y 0) .bad _ = _; rw [hz]; rfl
  | rem =>
    have hz : eqI y 0 = false := by
      cases q : eqI y 0 with
      | false => rfl
      | true => refine absurd ?_ hne; show bo (eqI y 0) .bad _ = _; rw [q]; rfl
    have hy : y ≠ 0 := fun q => by rw [eqI_eq] at hz; simp [q] at hz
    refine ⟨.int (kcode kk) (Int.tmod x y), .int kk (x.tmod y), fun f => ?_, fun μ => .int _ _, fun w => by simp [binOp, Op.intDiv, hy]⟩
    show bo (eqI y 0) .bad _ = _; rw [hz]; rfl
  | and =>
    obtain ⟨m, n, rfl, rfl, hm, hn, hs, e1⟩ := hB hne
    have hlt : m &&& n < 2 ^ kk.bits := Nat.and_lt_two_pow m hn
    refine ⟨_, .int kk ((m &&& n : Nat) : Int), e1, fun μ => .int _ _, fun w => ?_⟩
    simp [binOp, Op.intBits, ofInt_small hm, ofInt_small hn, Nat.mod_eq_of_lt hm, Nat.mod_eq_of_lt hn]
    exact wrap_nat hs hlt
  | or =>
    obtain ⟨m, n, rfl, rfl, hm, hn, hs, e1⟩ := hB hne
    have hlt : m ||| n < 2 ^ kk.bits := Nat.or_lt_two_pow hm hn
    refine ⟨_, .int kk ((m ||| n : Nat) : Int), e1, fun μ => .int _ _, fun w => ?_⟩
    simp [binOp, Op.intBits, ofInt_small hm, ofInt_small hn, Nat.mod_eq_of_lt hm, Nat.mod_eq_of_lt hn]
    exact wrap_nat hs hlt
  | xor =>
    obtain ⟨m, n, rfl, rfl, hm, hn, hs, e1⟩ := hB hne
    have hlt : m ^^^ n < 2 ^ kk.bits := Nat.xor_lt_two_pow hm hn
    refine ⟨_, .int kk ((m ^^^ n : Nat) : Int), e1, fun μ => .int _ _, fun w => ?_⟩
    simp [binOp, Op.intBits, ofInt_small hm, ofInt_small hn, Nat.mod_eq_of_lt hm, Nat.mod_eq_of_lt hn]
    exact wrap_nat hs hlt
  | eql => exact ⟨_, .bool (x == y), fun f => rfl, fun μ => by rw [eqI_eq]; exact .bool _, fun w => by simp [binOp, Op.intCmp]⟩
  | neq => exact ⟨_, .bool (x != y), fun f => rfl, fun μ => by rw [eqI_eq, notB_eq]; exact .bool _, fun w => by simp [binOp, Op.intCmp]⟩
  | lss => exact ⟨_, .bool (x < y), fun f => rfl, fun μ => by rw [ltI_eq]; exact .bool _, fun w => by simp [binOp, Op.intCmp]⟩
  | leq => exact ⟨_, .bool (x ≤ y), fun f => rfl, fun μ => by
      rw [ltI_eq, notB_eq, show (!decide (y < x)) = decide (x ≤ y) from by rw [Bool.eq_iff_iff]; simp]; exact .bool _, fun w => by simp [binOp, Op.intCmp]⟩
  | gtr => exact ⟨_, .bool (x > y), fun f => rfl, fun μ => by rw [ltI_eq]; exact .bool _, fun w => by simp [binOp, Op.intCmp]⟩
  | geq => exact ⟨_, .bool (x ≥ y), fun f => rfl, fun μ => by
      rw [ltI_eq, notB_eq, show (!decide (x < y)) = decide (x ≥ y) from by rw [Bool.eq_iff_iff]; simp]; exact .bool _, fun w => by simp [binOp, Op.intCmp]⟩

def binS (op : BinOp) (t : TypeId) (X Y : Operand) (cx cy : Value) : Sem Value := do eqGuard op t X Y cx cy; binOp op t cx cy
theorem q_int {op : BinOp} {t : TypeId} {X Y : Operand} {x y : Rd} {cx cy : Value} (hne : oI (ibOf op) x y e h k ≠ .bad) (hx : VR μ (x e) cx) (hy : VR μ (y e) cy) (h1 : op ≠ .shl) (h2 : op ≠ .shr) :
    QR P μ (oI (ibOf op) x y) e (valS (binS op t X Y cx cy)) := by
  unfold oI at hne
  obtain ⟨kx, n, e1, e2⟩ := onInt_ne hne
  rw [e2] at hne
  obtain ⟨ky, m, e3, e4⟩ := onInt_ne hne
  rw [e4] at hne
  obtain ⟨h3, h4⟩ := bo_ne' hne
  rw [h4] at hne
  have := nbeq_iff.1 h3; subst this
  rw [e1] at hx; rw [e3] at hy
  obtain ⟨kk, rfl, rfl⟩ := hx.int_inv
  obtain ⟨kk', q, rfl⟩ := hy.int_inv
  have := kcode_inj q; subst this
  obtain ⟨v, cv, b1, b2, b3⟩ := ib_ok (P := P) t hne h1 h2
  refine ⟨v, cv, fun h k => ?_, b2 μ, valS_run fun w => ?_⟩
  · unfold oI
    rw [e1, e3]
    show bo (Nat.beq _ _) _ _ = _
    rw [nbeq_t]
    exact b1 _
  · simp only [binS, eqGuard_at_int, Sem.run_bind, Sem.run_pure, Result.andThen_ok, b3 w]

theorem q_sh {op : BinOp} {t : TypeId} {X Y : Operand} {x y : Rd} {cx cy : Value} (hne : oSh (ibOf op) x y e h k ≠ .bad) (hx : VR μ (x e) cx) (hy : VR μ (y e) cy) (h1 : op = .shl ∨ op = .shr) :
    QR P μ (oSh (ibOf op) x y) e (valS (binS op t X Y cx cy)) := by
  unfold oSh at hne
  obtain ⟨kx, n, e1, e2⟩ := onInt_ne hne
  rw [e2] at hne
  obtain ⟨ky, m, e3, e4⟩ := onInt_ne hne
  rw [e4] at hne
  rw [e1] at hx; rw [e3] at hy
  obtain ⟨kk, rfl, rfl⟩ := hx.int_inv
  obtain ⟨kk', rfl, rfl⟩ := hy.int_inv
  have hmin : ∀ j, minN j (bitsOf (kcode kk)) = min j kk.bits := fun j => by
    unfold minN; rw [kcode_cases, bn_eq]
    by_cases q : j ≤ kk.bits
    · rw [if_pos (ble_iff.2 q), Nat.min_eq_left q]
    · rw [if_neg (fun q' => q (ble_iff.1 q')), Nat.min_eq_right (by omega)]
  rcases h1 with rfl | rfl
  · obtain ⟨j, rfl, e5⟩ := onI_ne (fun _ => rfl) hne
    refine ⟨.int (kcode kk) (kk.wrap (n * 2 ^ min j kk.bits)), .int kk (kk.wrap (n * 2 ^ min j kk.bits)), fun h k => ?_, .int _ _, valS_run fun w => ?_⟩
    · unfold oSh
      rw [e1, e3]
      show k (.int (kcode kk) (wrapK (kcode kk) (Int.mul n (.ofNat (Nat.pow 2 (minN j (bitsOf (kcode kk)))))))) h = _
      rw [wrapK_eq, hmin]
      have : Int.mul n (.ofNat (Nat.pow 2 (min j kk.bits))) = n * 2 ^ min j kk.bits := by
        show n * ((2 ^ min j kk.bits : Nat) : Int) = _
        rw [Int.natCast_pow]; rfl
      rw [this]
    · have hj : ¬ ((j : Int) < 0) := by omega
      simp [binS, binOp, Op.shift, eqGuard_shl, hj]
  · obtain ⟨j, rfl, e5⟩ := onI_ne (fun _ => rfl) hne
    refine ⟨.int (kcode kk) (n.fdiv (2 ^ min j kk.bits)), .int kk (n.fdiv (2 ^ min j kk.bits)), fun h k => ?_, .int _ _, valS_run fun w => ?_⟩
    · unfold oSh
      rw [e1, e3]
      show k (.int (kcode kk) (Int.fdiv n (.ofNat (Nat.pow 2 (minN j (bitsOf (kcode kk))))))) h = _
      rw [hmin]
      have : (Int.ofNat (Nat.pow 2 (min j kk.bits))) = 2 ^ min j kk.bits := by
        show ((2 ^ min j kk.bits : Nat) : Int) = _
        rw [Int.natCast_pow]; rfl
      rw [this]
    · have hj : ¬ ((j : Int) < 0) := by omega
      simp [binS, binOp, Op.shift, eqGuard_shr, hj]

theorem q_neg {x : Rd} {cx : Value} (hne : oNeg x e h k ≠ .bad) (hx : VR μ (x e) cx) : QR P μ (oNeg x) e (valS (Op.unary .neg cx)) := by
  unfold oNeg at hne
  obtain ⟨kx, n, e1, e2⟩ := onInt_ne hne
  rw [e1] at hx
  obtain ⟨kk, rfl, rfl⟩ := hx.int_inv
  refine ⟨.int (kcode kk) (kk.wrap (0 - n)), .int kk (kk.wrap (0 - n)), fun h k => ?_, .int _ _, valS_run fun w => by simp [Op.unary, Op.intArith]⟩
  unfold oNeg
  rw [e1]
  show k (.int (kcode kk) (wrapK (kcode kk) (subI 0 n))) h = _
  rw [wrapK_eq, subI_eq]
theorem q_not {x : Rd} {cx : Value} (hne : oNot x e h k ≠ .bad) (hx : VR μ (x e) cx) : QR P μ (oNot x) e (valS (Op.unary .not cx)) := by
  unfold oNot at hne
  obtain ⟨b, e1, e2⟩ := onBool_ne hne
  rw [e1] at hx
  have := hx.bool_inv; subst this
  refine ⟨.bool (!b), .bool (!b), fun h k => ?_, .bool _, valS_run fun w => by simp [Op.unary]⟩
  unfold oNot
  rw [e1]
  show k (.bool (notB b)) h = _
  rw [notB_eq]
theorem q_conv {j i : TI} {s d : TypeId} (hj : TOk P s j) (hi : TOk P d i) {k1 k2 : IntKind} (h1 : j.desc = .int k1) (h2 : i.desc = .int k2) {x : Rd} {cx : Value} (hne : oConv (kcode k2) x e h k ≠ .bad) (hx : VR μ (x e) cx) :
    QR P μ (oConv (kcode k2) x) e (valS (convert s d cx)) := by
  unfold oConv at hne
  obtain ⟨kx, n, e1, e2⟩ := onInt_ne hne
  rw [e1] at hx
  obtain ⟨kk, rfl, rfl⟩ := hx.int_inv
  refine ⟨.int (kcode k2) (k2.wrap n), .int k2 (k2.wrap n), fun h k => ?_, .int _ _, valS_run fun w => ?_⟩
  · unfold oConv
    rw [e1]
    show k (.int (kcode k2) (wrapK (kcode k2) n)) h = _
    rw [wrapK_eq]
  · simp [convert, run_und w hj.und, run_und w hi.und, h1, h2, Conv.intToInt]
theorem q_move {x : Rd} {cx : Value} (hx : VR μ (x e) cx) : QR P μ (oMove x) e (pure (.value cx)) := ⟨_, _, fun _ _ => rfl, hx, fun _ => rfl⟩
theorem q_pick {c x y : Rd} {cc cx cy : Value} (hne : oPick c x y e h k ≠ .bad) (hc : VR μ (c e) cc) (hx : VR μ (x e) cx) (hy : VR μ (y e) cy) :
    QR P μ (oPick c x y) e (do pure (.value (if ← asBool cc then cx else cy))) := by
  unfold oPick at hne
  obtain ⟨b, e1, e2⟩ := onBool_ne hne
  rw [e1] at hc
  have := hc.bool_inv; subst this
  refine ⟨bv b (x e) (y e), if b then cx else cy, fun h k => ?_, ?_, fun w => by simp [asBool]⟩
  · unfold oPick; rw [e1]; rfl
  · rw [bv_eq]; cases b <;> simpa
theorem q_extract {i : Nat} {x : Rd} {cx : Value} (hne : oExtract i x e h k ≠ .bad) (hx : VR μ (x e) cx) : QR P μ (oExtract i x) e (valS (Instr.extract cx i)) := by
  unfold oExtract at hne
  obtain ⟨m, l, l', e1, e2⟩ := onTag_ne hne
  rw [e2] at hne
  obtain ⟨v, e3, e4⟩ := nthL_ne hne
  rw [e1] at hx
  obtain ⟨cs, h1, rfl⟩ := hx.tup_inv
  obtain ⟨cv, h2, h3⟩ := h1.get e3
  refine ⟨v, cv, fun h k => ?_, h3, valS_run fun w => by simp [Instr.extract, h2]⟩
  unfold oExtract
  rw [e1]
  show bo (Nat.beq 8 8) (nthL l i fun v => k v h) .bad = _
  show nthL l i (fun v => k v h) = _
  exact nthL_at e3 _
theorem q_bool {pos : Bool} {t : TypeId} {i : TI} (ht : TOk P t i) (hd : i.desc = .bool) {X Y : Operand} {x y : Rd} {cx cy : Value} (hne : oB pos x y e h k ≠ .bad) (hx : VR μ (x e) cx) (hy : VR μ (y e) cy) :
    QR P μ (oB pos x y) e (valS (binS (if pos then .eql else .neq) t X Y cx cy)) := by
  unfold oB at hne
  obtain ⟨b, e1, e2⟩ := onBool_ne hne
  rw [e2] at hne
  obtain ⟨c, e3, e4⟩ := onBool_ne hne
  rw [e1] at hx; rw [e3] at hy
  have := hx.bool_inv; subst this
  have := hy.bool_inv; subst this
  refine ⟨.bool (if pos then b == c else !(b == c)), .bool (if pos then b == c else !(b == c)), fun h k => ?_, .bool _, valS_run fun w => ?_⟩
  · unfold oB
    rw [e1, e3]
    show k (.bool (bb (bb b c (notB c)) pos (notB pos))) h = _
    cases b <;> cases c <;> cases pos <;> rfl
  · have hu := run_equal_bool w t b c (by rw [ht.und, hd])
    cases pos <;> simp only [binS, eqGuard_at_bool, Sem.run_bind, Sem.run_pure, Result.andThen_ok, if_true, Bool.false_eq_true, if_false] <;> simp [binOp, hu]
end Dv
/-! strings -/
namespace Dv
open Go Go.RowKit
variable {S : Sites} {base : Nat} {μ μ' : Mu} {h : Heap} {w w' : World} {P : Program} {tt : TT} {ng : Nat} {kp : Nat → Bool} {nt : Nat} {M : List Nat} {e : Env} {a : Act} {k : K}

theorem sb_lt (l : List UInt8) : strBits l < 256 ^ l.length := by
  induction l with
  | nil => simp [strBits]
  | cons x r ih =>
    have hx : x.toNat < 256 := x.toNat_lt
    simp only [strBits, List.length_cons, Nat.pow_succ]
    have : (strBits r + 1) * 256 ≤ 256 ^ r.length * 256 := Nat.mul_le_mul_right _ ih
    omega
theorem sb_app (l m : List UInt8) : strBits (l ++ m) = strBits l + strBits m * 256 ^ l.length := by
  induction l with
  | nil => simp [strBits]
  | cons x r ih =>
    simp only [List.cons_append, strBits, ih, List.length_cons, Nat.pow_succ]
    rw [Nat.mul_add, Nat.mul_comm (256 ^ r.length) 256, ← Nat.mul_assoc, ← Nat.mul_assoc, Nat.mul_comm 256 (strBits m)]
    omega
theorem sb_inj : ∀ {l m : List UInt8}, l.length = m.length → strBits l = strBits m → l = m
  | [], [], _, _ => rfl
  | x :: l, y :: m, h, e => by
    simp only [strBits] at e
    have hx : x.toNat < 256 := x.toNat_lt
    have hy : y.toNat < 256 := y.toNat_lt
    have e1 : x.toNat = y.toNat := by omega
    have e2 : strBits l = strBits m := by omega
    rw [UInt8.toNat_inj.1 e1, sb_inj (by simpa using h) e2]
  | [], _ :: _, h, _ => by simp at h
  | _ :: _, [], h, _ => by simp at h
theorem sb_drop : ∀ (l : List UInt8) (n : Nat), n ≤ l.length → strBits l / 256 ^ n = strBits (l.drop n)
  | l, 0, _ => by simp
  | [], n + 1, h => by simp at h
  | x :: l, n + 1, h => by
    have hx : x.toNat < 256 := x.toNat_lt
    simp only [List.drop_succ_cons, strBits]
    rw [Nat.pow_succ, Nat.mul_comm (256 ^ n) 256, ← Nat.div_div_eq_div_mul, show (x.toNat + 256 * strBits l) / 256 = strBits l from by omega]
    exact sb_drop l n (by simpa using h)
theorem sb_take : ∀ (l : List UInt8) (n : Nat), n ≤ l.length → strBits l % 256 ^ n = strBits (l.take n)
  | l, 0, _ => by simp [strBits, Nat.mod_one]
  | [], n + 1, h => by simp at h
  | x :: l, n + 1, h => by
    have hx : x.toNat < 256 := x.toNat_lt
    simp only [List.take_succ_cons, strBits]
    rw [Nat.pow_succ, Nat.mul_comm (256 ^ n) 256, Nat.mod_mul, show (x.toNat + 256 * strBits l) / 256 = strBits l from by omega, show (x.toNat + 256 * strBits l) % 256 = x.toNat from by omega, sb_take l n (by simpa using h)]
theorem sb_at (l : List UInt8) (i : Nat) (h : i < l.length) : strBits l / 256 ^ i % 256 = l[i].toNat := by
  rw [sb_drop l i (by omega), List.drop_eq_getElem_cons h]
  simp only [strBits]
  have := (l[i]).toNat_lt
  omega
theorem size_data (s : ByteArray) : s.data.toList.length = s.size := rfl
theorem strLt_ok : ∀ (d : Nat) (l m : List UInt8), l.length < d → strLt d l.length (strBits l) m.length (strBits m) = Op.bytesLess l m
  | 0, _, _, h => by omega
  | d + 1, l, m, h => by
    show bb (Nat.beq m.length 0) false (bb (Nat.beq l.length 0) true (bb (Nat.blt (Nat.mod (strBits l) 256) (Nat.mod (strBits m) 256)) true
      (bb (Nat.beq (Nat.mod (strBits l) 256) (Nat.mod (strBits m) 256)) (strLt d (Nat.sub l.length 1) (Nat.div (strBits l) 256) (Nat.sub m.length 1) (Nat.div (strBits m) 256)) false))) = _
    cases m with
    | nil => cases l <;> rfl
    | cons y m =>
      cases l with
      | nil => rfl
      | cons x l =>
        have hx : x.toNat < 256 := x.toNat_lt
        have hy : y.toNat < 256 := y.toNat_lt
        have e1 : Nat.mod (strBits (x :: l)) 256 = x.toNat := by show strBits (x :: l) % 256 = _; simp only [strBits]; omega
        have e2 : Nat.mod (strBits (y :: m)) 256 = y.toNat := by show strBits (y :: m) % 256 = _; simp only [strBits]; omega
        have e3 : Nat.div (strBits (x :: l)) 256 = strBits l := by show strBits (x :: l) / 256 = _; simp only [strBits]; omega
        have e4 : Nat.div (strBits (y :: m)) 256 = strBits m := by show strBits (y :: m) / 256 = _; simp only [strBits]; omega
        rw [e1, e2, e3, e4]
        have e5 : Nat.sub (x :: l).length 1 = l.length := by simp
        have e6 : Nat.sub (y :: m).length 1 = m.length := by simp
        rw [e5, e6, strLt_ok d l m (by simpa using h)]
        rw [nbeq_f (by simp), nbeq_f (by simp)]
        show bb (Nat.blt x.toNat y.toNat) true (bb (Nat.beq x.toNat y.toNat) (Op.bytesLess l m) false) = (decide (x < y) || (x == y && Op.bytesLess l m))
        rw [bb_eq, bb_eq]
        have h1 : (Nat.blt x.toNat y.toNat = true) ↔ x < y := by rw [blt_iff]; exact UInt8.lt_iff_toNat_lt.symm
        have h2 : (Nat.beq x.toNat y.toNat = true) ↔ x = y := by rw [nbeq_iff]; exact UInt8.toNat_inj
        by_cases q1 : x < y
        · rw [if_pos (h1.2 q1)]; simp [q1]
        · rw [if_neg (fun q => q1 (h1.1 q))]
          by_cases q2 : x = y
          · rw [if_pos (h2.2 q2)]; subst q2; simp
          · rw [if_neg (fun q => q2 (h2.1 q))]; simp [q1, q2]
theorem sb_eq (s t : ByteArray) : bb (Nat.beq s.size t.size) (Nat.beq (strBits s.data.toList) (strBits t.data.toList)) false = (s.toList == t.toList) := by
  rw [ByteArray.toList_eq, ByteArray.toList_eq, Bool.eq_iff_iff, beq_iff_eq]
  constructor
  · intro q
    obtain ⟨h1, h2⟩ := bb_and q
    exact sb_inj (by rw [size_data, size_data]; exact nbeq_iff.1 h1) (nbeq_iff.1 h2)
  · intro q
    have : s = t := by cases s; cases t; congr 1; exact Array.toList_inj.1 q
    subst this
    rw [nbeq_t, nbeq_t]; rfl

theorem bytesLess_total : ∀ (l m : List UInt8), (!(Op.bytesLess l m || l == m)) = Op.bytesLess m l
  | [], [] => by simp [Op.bytesLess]
  | [], _ :: _ => by simp [Op.bytesLess]
  | _ :: _, [] => by simp [Op.bytesLess]
  | x :: l, y :: m => by
    have ih := bytesLess_total l m
    simp only [Op.bytesLess]
    rcases Nat.lt_trichotomy x.toNat y.toNat with q | q | q
    · have h1 : x < y := UInt8.lt_iff_toNat_lt.2 q
      have h2 : ¬ y < x := fun z => by have := UInt8.lt_iff_toNat_lt.1 z; omega
      have h3 : y ≠ x := fun z => by subst z; omega
      simp [h1, h2, h3]
    · have h3 : x = y := UInt8.toNat_inj.1 q
      subst h3
      have h1 : ¬ x < x := fun z => by have := UInt8.lt_iff_toNat_lt.1 z; omega
      simp only [h1, decide_false, Bool.false_or, beq_self_eq_true, Bool.true_and]
      rw [← ih]
      have : (x :: l == x :: m) = (l == m) := by simp
      rw [this]
    · have h1 : y < x := UInt8.lt_iff_toNat_lt.2 q
      have h2 : ¬ x < y := fun z => by have := UInt8.lt_iff_toNat_lt.1 z; omega
      have h3 : x ≠ y := fun z => by subst z; omega
      simp [h1, h2, h3]
theorem gtr_less (s u : ByteArray) : (!(Op.bytesLess s.toList u.toList || s.toList == u.toList)) = Op.bytesLess u.toList s.toList := bytesLess_total _ _
def strOp (op : BinOp) : Prop := op = .add ∨ op = .eql ∨ op = .neq ∨ op = .lss ∨ op = .gtr
theorem q_str {op : BinOp} {t : TypeId} {X Y : Operand} {x y : Rd} {cx cy : Value} (hop : strOp op) (hne : oS (sbOf op) x y e h k ≠ .bad) (hx : VR μ (x e) cx) (hy : VR μ (y e) cy) :
    QR P μ (oS (sbOf op) x y) e (valS (binS op t X Y cx cy)) := by
  unfold oS at hne
  obtain ⟨l, b, e1, e2⟩ := onStr_ne hne
  rw [e2] at hne
  obtain ⟨m, c, e3, e4⟩ := onStr_ne hne
  rw [e4] at hne
  obtain ⟨h3, _⟩ := bo_ne' hne
  rw [e1] at hx; rw [e3] at hy
  obtain ⟨s, rfl, rfl, rfl⟩ := hx.str_inv
  obtain ⟨u, rfl, rfl, rfl⟩ := hy.str_inv
  have hle : s.size + u.size ≤ 9223372036854775807 := ble_iff.1 h3
  have main : ∀ v cv, sbOf op s.size (strBits s.data.toList) u.size (strBits u.data.toList) = v → VR μ v cv → (∀ w, (Op.stringOp op s u).run P w = .ok cv w) → QR P μ (oS (sbOf op) x y) e (valS (binS op t X Y (.string s) (.string u))) := by
    intro v cv q1 q2 q3
    refine ⟨v, cv, fun h k => ?_, q2, valS_run fun w => ?_⟩
    · unfold oS
      rw [e1, e3]
      show bo (Nat.ble (Nat.add s.size u.size) 9223372036854775807) (k (sbOf op s.size (strBits s.data.toList) u.size (strBits u.data.toList)) h) .bad = _
      rw [h3, q1]; rfl
    · simp only [binS, eqGuard_at_string, Sem.run_bind, Sem.run_pure, Result.andThen_ok]
      rcases hop with rfl | rfl | rfl | rfl | rfl <;> simp only [binOp] <;> exact q3 w
  rcases hop with rfl | rfl | rfl | rfl | rfl
  · refine main _ (.string (s ++ u)) rfl ?_ (fun w => ?_)
    · have e5 : (s ++ u).data.toList = s.data.toList ++ u.data.toList := by simp [ByteArray.data_append]
      have := VR.str (μ := μ) (s ++ u)
      rw [ByteArray.size_append, e5, sb_app, size_data] at this
      exact this
    · have : ¬ (IntKind.i64.max < ((s.size + u.size : Nat) : Int)) := by rw [IntKind.max_i64]; omega
      simp only [Op.stringOp]
      rw [if_neg this]; rfl
  · exact main _ (.bool (s.toList == u.toList)) rfl (by show VR μ (.bool _) _; rw [sb_eq]; exact .bool _) (fun w => by simp [Op.stringOp])
  · exact main _ (.bool (!(s.toList == u.toList))) rfl (by show VR μ (.bool (notB _)) _; rw [sb_eq, notB_eq]; exact .bool _) (fun w => by simp [Op.stringOp])
  · refine main _ (.bool (Op.bytesLess s.toList u.toList)) rfl ?_ (fun w => by simp [Op.stringOp])
    show VR μ (.bool (strLt (s.size + 1) s.size _ u.size _)) _
    rw [← size_data s, ← size_data u, strLt_ok _ _ _ (Nat.lt_succ_self _), ByteArray.toList_eq, ByteArray.toList_eq]; exact .bool _
  · refine main _ (.bool (Op.bytesLess u.toList s.toList)) rfl ?_ (fun w => ?_)
    · show VR μ (.bool (strLt (u.size + 1) u.size _ s.size _)) _
      rw [← size_data s, ← size_data u, strLt_ok _ _ _ (Nat.lt_succ_self _), ByteArray.toList_eq, ByteArray.toList_eq]; exact .bool _
    · simp only [Op.stringOp, Sem.run_pure]
      rw [gtr_less]
end Dv
/-! addresses, slices, parts -/
namespace Dv
open Go Go.RowKit
variable {S : Sites} {base : Nat} {μ μ' : Mu} {h : Heap} {w w' : World} {P : Program} {tt : TT} {ng : Nat} {kp : Nat → Bool} {nt : Nat} {M : List Nat} {e : Env} {a : Act} {k : K}

theorem addr_add (b o n : Nat) : (⟨b, o, none⟩ : Addr).add n = ⟨b, o + n, none⟩ := by
  cases n <;> simp [Addr.add]
theorem q_fieldAddr {s : TypeId} {i ie : TI} (ht : TOk P s i) {fs : Array Field} (hd : i.desc = .struct fs) {f : Nat} {fl : Field} (hf : fs[f]? = some fl) (hte : TOk P fl.type ie) (hz : ie.size ≠ 0)
    {x : Rd} {cx : Value} (hne : oFieldAddr fl.offset x e h k ≠ .bad) (hx : VR μ (x e) cx) : QR P μ (oFieldAddr fl.offset x) e (valS (Instr.fieldAt s cx f)) := by
  unfold oFieldAddr at hne
  obtain ⟨b, o, e1, e2⟩ := onPtr_ne hne
  rw [e1] at hx
  obtain ⟨L, h1, rfl⟩ := hx.ptr_inv
  refine ⟨.ptr b (o + fl.offset), _, fun h k => by unfold oFieldAddr; rw [e1]; rfl, .ptr h1, valS_run fun w => ?_⟩
  have hu := run_und w ht.und
  rw [hd] at hu
  simp [Instr.fieldAt, hu, hf, Instr.sureAddr, fieldPlace, run_size w hte, hz, addr_add, Nat.add_assoc]
theorem q_indexAddrV {t el : TypeId} {i ie : TI} (ht : TOk P t i) (hd : i.desc = .slice el) (hte : TOk P el ie) {x ix : Rd} {cx ci : Value} (hne : oIndexAddrV ie.size x ix e h k ≠ .bad) (hx : VR μ (x e) cx) (hi : VR μ (ix e) ci) :
    QR P μ (oIndexAddrV ie.size x ix) e (valS (Instr.indexAt t cx ci)) := by
  unfold oIndexAddrV at hne
  rcases onSl_ne hne with ⟨⟨b, o, n, c, ex, e1, e2⟩⟩ | ⟨_, q⟩
  · rw [e2] at hne
    obtain ⟨kk, m, e3, e4⟩ := onNat_ne hne
    rw [e4] at hne
    obtain ⟨h3, _⟩ := bo_ne' hne
    have hlt := blt_iff.1 h3
    rw [e1] at hx; rw [e3] at hi
    obtain ⟨L, ad, cc, h1, rfl, hn, ha, _, _⟩ := hx.sl_inv
    obtain ⟨ki, rfl, rfl⟩ := hi.int_inv
    have := ha (by omega); subst this
    refine ⟨.ptr b (o + m * ie.size), _, fun h k => ?_, .ptr h1, valS_run fun w => ?_⟩
    · unfold oIndexAddrV
      rw [e1]
      show onNat (ix e) _ = _
      unfold onNat
      rw [e3]
      show bo (Nat.blt m n) _ _ = _
      rw [h3]; rfl
    · have hu := run_und w ht.und
      rw [hd] at hu
      have hlt' : (m : Int) < n := by omega
      have h0 : (0 : Int) ≤ m := by omega
      simp [Instr.indexAt, asIntOf, hu, hlt', h0, hlt, Nat.not_le.2 hlt, run_size w hte, addr_add, Nat.add_assoc]
  · rw [q] at hne; exact absurd rfl hne
theorem q_indexAddrA {t el : TypeId} {n : Nat} {i ie : TI} (ht : TOk P t i) (hd : i.desc = .array n el) (hte : TOk P el ie) {x ix : Rd} {cx ci : Value} (hne : oIndexAddrA n ie.size x ix e h k ≠ .bad) (hx : VR μ (x e) cx) (hi : VR μ (ix e) ci) :
    QR P μ (oIndexAddrA n ie.size x ix) e (valS (Instr.indexAt t cx ci)) := by
  unfold oIndexAddrA at hne
  obtain ⟨b, o, e1, e2⟩ := onPtr_ne hne
  rw [e2] at hne
  obtain ⟨kk, m, e3, e4⟩ := onNat_ne hne
  rw [e4] at hne
  obtain ⟨h3, _⟩ := bo_ne' hne
  have hlt := blt_iff.1 h3
  rw [e1] at hx; rw [e3] at hi
  obtain ⟨L, h1, rfl⟩ := hx.ptr_inv
  obtain ⟨ki, rfl, rfl⟩ := hi.int_inv
  refine ⟨.ptr b (o + m * ie.size), _, fun h k => ?_, .ptr h1, valS_run fun w => ?_⟩
  · unfold oIndexAddrA
    rw [e1]
    show onNat (ix e) _ = _
    unfold onNat
    rw [e3]
    show bo (Nat.blt m n) _ _ = _
    rw [h3]; rfl
  · have hu := run_und w ht.und
    rw [hd] at hu
    have hlt' : (m : Int) < n := by omega
    have h0 : (0 : Int) ≤ m := by omega
    simp [Instr.indexAt, asIntOf, Instr.sureAddr, hu, hlt', h0, hlt, Nat.not_le.2 hlt, run_size w hte, addr_add, Nat.add_assoc]
theorem q_indexS {t : TypeId} {i : TI} (ht : TOk P t i) (hd : i.desc = .string) {x ix : Rd} {cx ci : Value} (hne : oIndexS x ix e h k ≠ .bad) (hx : VR μ (x e) cx) (hi : VR μ (ix e) ci) :
    QR P μ (oIndexS x ix) e (valS (Instr.index t cx ci)) := by
  unfold oIndexS at hne
  obtain ⟨l, b, e1, e2⟩ := onStr_ne hne
  rw [e2] at hne
  obtain ⟨kk, m, e3, e4⟩ := onNat_ne hne
  rw [e4] at hne
  obtain ⟨h3, _⟩ := bo_ne' hne
  have hlt := blt_iff.1 h3
  rw [e1] at hx; rw [e3] at hi
  obtain ⟨s, rfl, rfl, rfl⟩ := hx.str_inv
  obtain ⟨ki, rfl, rfl⟩ := hi.int_inv
  have hl : m < s.data.toList.length := hlt
  refine ⟨.int 4 (s.data.toList[m].toNat : Int), .int .u8 (s.data.toList[m].toNat : Int), fun h k => ?_, .int .u8 _, valS_run fun w => ?_⟩
  · unfold oIndexS
    rw [e1]
    show onNat (ix e) _ = _
    unfold onNat
    rw [e3]
    show bo (Nat.blt m s.size) (k (.int 4 (.ofNat (Nat.mod (Nat.div (strBits s.data.toList) (Nat.pow 256 m)) 256))) h) _ = _
    rw [h3]
    show k (.int 4 (((strBits s.data.toList / 256 ^ m % 256 : Nat) : Int))) h = _
    rw [sb_at _ _ hl]
  · have hu := run_und w ht.und
    rw [hd] at hu
    have h0 : (0 : Int) ≤ m := by omega
    have hg : s[m]? = some s[m] := ByteArray.getElem?_lt' s m hlt
    have hg2 : s[m] = s.data.toList[m] := by rfl
    simp [Instr.index, asIntOf, hu, h0, hg, hg2]
theorem q_indexA1 {t el : TypeId} {n : Nat} {i ie : TI} (ht : TOk P t i) (hd : i.desc = .array n el) (hte : TOk P el ie) (hag : isAggD ie.desc = false) {x ix : Rd} {cx ci : Value} (hne : oIndexA1 n ie.size x ix e h k ≠ .bad) (hx : VR μ (x e) cx) (hi : VR μ (ix e) ci) :
    QR P μ (oIndexA1 n ie.size x ix) e (valS (Instr.index t cx ci)) := by
  unfold oIndexA1 at hne
  obtain ⟨m', l, l', e1, e2⟩ := onTag_ne hne
  rw [e2] at hne
  obtain ⟨kk, m, e3, e4⟩ := onNat_ne hne
  rw [e4] at hne
  obtain ⟨h3, h4⟩ := bo_ne' hne
  rw [h4] at hne
  have hlt := blt_iff.1 h3
  obtain ⟨v, e5, _⟩ := nthL_ne hne
  rw [e1] at hx; rw [e3] at hi
  obtain ⟨cs, h1, _, rfl⟩ := hx.agg_inv
  obtain ⟨ki, rfl, rfl⟩ := hi.int_inv
  obtain ⟨cv, h5, h6⟩ := h1.get e5
  refine ⟨v, cv, fun h k => ?_, h6, valS_run fun w => ?_⟩
  · unfold oIndexA1
    rw [e1]
    show onNat (ix e) _ = _
    unfold onNat
    rw [e3]
    show bo (Nat.blt m n) (nthL l (Nat.mul m ie.size) fun v => k v h) _ = _
    rw [h3]
    exact nthL_at e5 _
  · have hu := run_und w ht.und
    rw [hd] at hu
    have hue := run_und w hte.und
    have hlt' : (m : Int) < n := by omega
    have h0 : (0 : Int) ≤ m := by omega
    have hia : (isAgg el).run P w = .ok false w := by
      unfold isAgg
      rw [Sem.run_bind, hue, Result.andThen_ok]
      cases hq : ie.desc <;> rw [hq] at hag <;> first | rfl | cases hag
    have h5' : cs[m * ie.size]? = some cv := h5
    simp [Instr.index, asIntOf, hu, hlt', h0, hlt, Nat.not_le.2 hlt, part, hia, run_size w hte, h5']
theorem run_isAgg {t : TypeId} {i : TI} (ht : TOk P t i) (w : World) : (isAgg t).run P w = .ok (isAggD i.desc) w := by
  have hue := run_und w ht.und
  unfold isAgg
  rw [Sem.run_bind, hue, Result.andThen_ok]
  cases hq : i.desc <;> rfl
theorem q_field1 {t : TypeId} {i ie : TI} (ht : TOk P t i) {fs : Array Field} (hd : i.desc = .struct fs) {f : Nat} {fl : Field} (hf : fs[f]? = some fl) (hte : TOk P fl.type ie) (hag : isAggD ie.desc = false)
    {x : Rd} {cx : Value} (hne : oField1 fl.offset x e h k ≠ .bad) (hx : VR μ (x e) cx) : QR P μ (oField1 fl.offset x) e (valS (Instr.field t cx f)) := by
  unfold oField1 at hne
  obtain ⟨m', l, l', e1, e2⟩ := onTag_ne hne
  rw [e2] at hne
  obtain ⟨v, e5, _⟩ := nthL_ne hne
  rw [e1] at hx
  obtain ⟨cs, h1, _, rfl⟩ := hx.agg_inv
  obtain ⟨cv, h5, h6⟩ := h1.get e5
  refine ⟨v, cv, fun h k => ?_, h6, valS_run fun w => ?_⟩
  · unfold oField1; rw [e1]; exact nthL_at e5 _
  · have hu := run_und w ht.und
    rw [hd] at hu
    have h5' : cs[fl.offset]? = some cv := h5
    simp [Instr.field, hu, hf, asAgg, part, run_isAgg hte, hag, h5']
theorem VRs.drop {l : List AV} : ∀ {l' : List Value} (n : Nat), VRs μ l l' → VRs μ (l.drop n) (l'.drop n) := by
  induction l with
  | nil => intro l' n h; cases h; simpa using VRs.nil
  | cons x r ih => intro l' n h; cases h with | cons h hs => cases n with | zero => exact .cons h hs | succ n => exact ih n hs
theorem VRs.take {l : List AV} : ∀ {l' : List Value} (n : Nat), VRs μ l l' → VRs μ (l.take n) (l'.take n) := by
  induction l with
  | nil => intro l' n h; cases h; simpa using VRs.nil
  | cons x r ih => intro l' n h; cases h with | cons h hs => cases n with | zero => exact .nil | succ n => exact .cons h (ih n hs)
theorem q_fieldN {t : TypeId} {i ie : TI} (ht : TOk P t i) {fs : Array Field} (hd : i.desc = .struct fs) {f : Nat} {fl : Field} (hf : fs[f]? = some fl) (hte : TOk P fl.type ie) (hag : isAggD ie.desc = true)
    {x : Rd} {cx : Value} (hne : oFieldN fl.offset ie.size x e h k ≠ .bad) (hx : VR μ (x e) cx) : QR P μ (oFieldN fl.offset ie.size x) e (valS (Instr.field t cx f)) := by
  unfold oFieldN at hne
  obtain ⟨m', l, l', e1, e2⟩ := onTag_ne hne
  rw [e1] at hx
  obtain ⟨cs, h1, h2, rfl⟩ := hx.agg_inv
  refine ⟨.oth 7 0 ((l.drop fl.offset).take ie.size) [], .agg ((cs.drop fl.offset).take ie.size).toArray, fun h k => ?_, .agg ((h1.drop _).take _) (fun v hv => h2 v (List.mem_of_mem_drop (List.mem_of_mem_take hv))), valS_run fun w => ?_⟩
  · unfold oFieldN; rw [e1]
    show k (.oth 7 0 (takeL (dropL l fl.offset) ie.size) []) h = _
    rw [takeL_eq, dropL_eq]
  · have hu := run_und w ht.und
    rw [hd] at hu
    have : cs.toArray.extract fl.offset (fl.offset + ie.size) = ((cs.drop fl.offset).take ie.size).toArray := by simp [List.extract_eq_take_drop]
    simp [Instr.field, hu, hf, asAgg, part, run_isAgg hte, hag, run_size w hte, this]
end Dv
/-! slices, functions, the rest -/
namespace Dv
open Go Go.RowKit
variable {S : Sites} {base : Nat} {μ μ' : Mu} {h : Heap} {w w' : World} {P : Program} {tt : TT} {ng : Nat} {kp : Nat → Bool} {nt : Nat} {M : List Nat} {e : Env} {a : Act} {k : K}

inductive OptR (μ : Mu) (e : Env) : Option Rd → Option Value → Prop
  | none : OptR μ e none none
  | some {r : Rd} {v : Value} (h : VR μ (r e) v) : OptR μ e (some r) (some v)
def BndR (co : Option Value) (d m : Nat) : Prop := (co = none ∧ m = d) ∨ ∃ kk, co = some (.int kk (m : Int))
theorem onNat_at {v : AV} {kk m : Nat} (hv : v = .int kk (m : Int)) (f : Nat → Out) : onNat v f = f m := by subst hv; rfl
theorem oNat_ne {o : Option Rd} {d : Nat} {f : Nat → Out} {co : Option Value} (hr : OptR μ e o co) (hne : oNat o e d f ≠ .bad) : ∃ m, (∀ f, oNat o e d f = f m) ∧ BndR co d m ∧ oNat o e d f = f m := by
  cases hr with
  | none => exact ⟨d, fun _ => rfl, .inl ⟨rfl, rfl⟩, rfl⟩
  | @some r v hv =>
    obtain ⟨kk, m, e1, e2⟩ := onNat_ne (v := r e) (f := f) hne
    rw [e1] at hv
    obtain ⟨ki, rfl, rfl⟩ := hv.int_inv
    exact ⟨m, fun f => onNat_at e1 f, .inr ⟨ki, rfl⟩, e2⟩
theorem run_bounds {isS : Bool} {len cap l hh : Nat} {lo hi : Option Value} (hl : BndR lo 0 l) (hhi : BndR hi len hh) (h1 : l ≤ hh) (h2 : hh ≤ cap) (w : World) :
    (Instr.sliceBounds isS len cap lo hi none).run P w = .ok (l, hh, cap) w := by
  have q1 : (0 : Int) ≤ (hh : Int) := by omega
  have q2 : (0 : Int) ≤ (l : Int) := by omega
  rcases hl with ⟨rfl, rfl⟩ | ⟨k1, rfl⟩ <;> rcases hhi with ⟨rfl, rfl⟩ | ⟨k2, rfl⟩ <;> simp [Instr.sliceBounds, Instr.sliceBound, asIntOf, h1, h2, q1, q2]
theorem run_bounds3 {len cap l hh m : Nat} {lo : Option Value} {hi mx : Value} {k2 k3 : IntKind} (hl : BndR lo 0 l) (hhi : hi = .int k2 (hh : Int)) (hm : mx = .int k3 (m : Int)) (h1 : l ≤ hh) (h2 : hh ≤ m) (h3 : m ≤ cap) (w : World) :
    (Instr.sliceBounds true len cap lo (some hi) (some mx)).run P w = .ok (l, hh, m) w := by
  have q1 : (0 : Int) ≤ (hh : Int) := by omega
  have q2 : (0 : Int) ≤ (l : Int) := by omega
  have q3 : (0 : Int) ≤ (m : Int) := by omega
  subst hhi; subst hm
  rcases hl with ⟨rfl, rfl⟩ | ⟨k1, rfl⟩ <;> simp [Instr.sliceBounds, Instr.sliceBound, asIntOf, h1, h2, h3, q1, q2, q3]
/-- a part of a slice -/
theorem VR.part {b o sz l hh m c' : Nat} {ex : Bool} {L : Loc} {ad : Addr} {cc : Nat} (h1 : μ b = some L) (ha : cc ≠ 0 → ad = ⟨L.blk, L.off + o, none⟩) (hm : m ≤ cc) (hl : l ≤ hh) (hhm : hh ≤ m) (hex : ex = true → c' = m - l)
    (hg : ex = false → o + cc * sz = L.ext ∧ m = cc ∧ L.sz = sz ∧ c' = sz) : VR μ (.slice b (o + l * sz) (hh - l) c' ex) (sliced (some ad) l hh m sz) := by
  have hadr : m - l ≠ 0 → (if m = l then some ad else (some ad).map (·.add (l * sz))) = some ⟨L.blk, L.off + (o + l * sz), none⟩ := by
    intro q
    rw [if_neg (by omega), ha (by omega)]
    simp [addr_add, Nat.add_assoc]
  have hsome : ∃ ad', (if m = l then some ad else (some ad).map (·.add (l * sz))) = some ad' := by
    by_cases q : m = l <;> simp [q]
  obtain ⟨ad', hq⟩ := hsome
  unfold sliced
  rw [hq]
  rw [hq] at hadr
  have ha' : m - l ≠ 0 → ad' = ⟨L.blk, L.off + (o + l * sz), none⟩ := fun q => by have := hadr q; simpa using this
  cases ex with
  | true =>
    have := hex rfl; subst this
    exact .slEx h1 ha' (by omega)
  | false =>
    obtain ⟨g1, rfl, hs, g4⟩ := hg rfl
    subst hs
    refine .slGr h1 ha' (by omega) ?_ g4
    have : (m - l) * L.sz + l * L.sz = m * L.sz := by rw [← Nat.add_mul]; congr 1; omega
    omega
theorem q_sliceS {t : TypeId} {i : TI} (ht : TOk P t i) (hd : i.desc = .string) {x : Rd} {lo hi : Option Rd} {cx : Value} {cl ch : Option Value} (hne : oSliceS x lo hi e h k ≠ .bad) (hx : VR μ (x e) cx) (hl : OptR μ e lo cl) (hh : OptR μ e hi ch) :
    QR P μ (oSliceS x lo hi) e (valS (Instr.sliceAt t cx cl ch none)) := by
  unfold oSliceS at hne
  obtain ⟨n, s', e1, e2⟩ := onStr_ne hne
  rw [e2] at hne
  obtain ⟨m, a1, a2, a3⟩ := oNat_ne hh hne
  rw [a3] at hne
  obtain ⟨l, b1, b2, b3⟩ := oNat_ne hl hne
  rw [b3] at hne
  obtain ⟨h3, _⟩ := bo_ne' hne
  have q1 := ble_iff.1 (bb_and h3).1
  have q2 := ble_iff.1 (bb_and h3).2
  rw [e1] at hx
  obtain ⟨s, rfl, rfl, rfl⟩ := hx.str_inv
  refine ⟨.str (m - l) (strBits ((s.data.toList.drop l).take (m - l))), .string (s.extract l m), fun h k => ?_, ?_, valS_run fun w => ?_⟩
  · unfold oSliceS
    rw [e1]
    show (oNat hi e s.size fun hi => oNat lo e 0 fun lo => bo (bb (Nat.ble lo hi) (Nat.ble hi s.size) false) (k (.str (hi - lo) (Nat.mod (Nat.div (strBits s.data.toList) (Nat.pow 256 lo)) (Nat.pow 256 (hi - lo)))) h) .bad) = _
    rw [a1, b1, h3]
    show k (.str (m - l) (strBits s.data.toList / 256 ^ l % 256 ^ (m - l))) h = _
    rw [sb_drop _ _ (by rw [size_data]; omega), sb_take _ _ (by rw [List.length_drop, size_data]; omega)]
  · have e5 : (s.extract l m).data.toList = (s.data.toList.drop l).take (m - l) := by
      obtain ⟨⟨y⟩⟩ := s
      have := ByteArray.extract_mk y l m
      rw [this]
    have := VR.str (μ := μ) (s.extract l m)
    rw [e5] at this
    have e6 : (s.extract l m).size = m - l := by
      rw [← size_data, e5, List.length_take, List.length_drop, size_data]; omega
    rw [e6] at this
    exact this
  · have hu := run_und w ht.und
    rw [hd] at hu
    have hb := run_bounds (P := P) (isS := false) b2 a2 q1 q2 w
    simp [Instr.sliceAt, hu, Instr.slice, hb]
theorem q_sliceV {t el : TypeId} {i ie : TI} (ht : TOk P t i) (hd : i.desc = .slice el) (hte : TOk P el ie) {x : Rd} {lo hi : Option Rd} {cx : Value} {cl ch : Option Value} (hne : oSliceV ie.size x lo hi e h k ≠ .bad) (hx : VR μ (x e) cx) (hl : OptR μ e lo cl) (hh : OptR μ e hi ch) :
    QR P μ (oSliceV ie.size x lo hi) e (valS (Instr.sliceAt t cx cl ch none)) := by
  unfold oSliceV at hne
  rcases onSl_ne hne with ⟨⟨b, o, n, c, ex, e1, e2⟩⟩ | ⟨⟨m0, l0, l0', e1⟩, e2⟩
  · rw [e2] at hne
    obtain ⟨m, a1, a2, a3⟩ := oNat_ne hh hne
    rw [a3] at hne
    obtain ⟨l, b1, b2, b3⟩ := oNat_ne hl hne
    rw [b3] at hne
    obtain ⟨h3, _⟩ := bo_ne' hne
    have q1 := ble_iff.1 (bb_and h3).1
    have q2 := ble_iff.1 (bb_and (bb_and h3).2).1
    have q4 := bb_or (bb_and (bb_and h3).2).2
    rw [e1] at hx
    obtain ⟨L, ad, cc, h1, rfl, hn, ha, g1, g2⟩ := hx.sl_inv
    have q3 : m ≤ cc := by
      rw [bn_eq] at q2
      cases ex with
      | true => have := g1 rfl; simp at q2; omega
      | false => simp at q2; omega
    refine ⟨.slice b (o + l * ie.size) (m - l) (if ex then c - l else c) ex, _, fun h k => ?_, VR.part (sz := ie.size) h1 ha (Nat.le_refl cc) q1 q3 (fun q => by have := g1 q; subst q; simp [this]) (fun q => ?_), valS_run fun w => ?_⟩
    · unfold oSliceV
      rw [e1]
      show (oNat hi e n fun hi => oNat lo e 0 fun lo => bo (bb (Nat.ble lo hi) (bb (Nat.ble hi (bn ex c n)) (bb ex true (Nat.beq c ie.size)) false) false) (k (.slice b (o + lo * ie.size) (hi - lo) (bn ex (c - lo) c) ex) h) .bad) = _
      rw [a1, b1, h3, bn_eq]; rfl
    · obtain ⟨g3, g4⟩ := g2 q
      rcases q4 with q4 | q4
      · rw [q] at q4; cases q4
      · have := nbeq_iff.1 q4
        subst q
        rw [← g4, this] at g3
        exact ⟨g3, rfl, by omega, by simp [this]⟩
    · have hu := run_und w ht.und
      rw [hd] at hu
      have hb := run_bounds (P := P) (isS := true) b2 a2 q1 q3 w
      simp [Instr.sliceAt, hu, Instr.slice, hb, run_size w hte, sliced]
  · rw [e2] at hne
    obtain ⟨m, a1, a2, a3⟩ := oNat_ne hh hne
    rw [a3] at hne
    obtain ⟨l, b1, b2, b3⟩ := oNat_ne hl hne
    rw [b3] at hne
    obtain ⟨h3, _⟩ := bo_ne' hne
    have q1 := nbeq_iff.1 (bb_and h3).1
    have q2 := nbeq_iff.1 (bb_and h3).2
    subst q1; subst q2
    rw [e1] at hx
    have hx' := hx.nils_inv
    subst hx'
    refine ⟨.nils, .slice none 0 0, fun h k => ?_, .nils, valS_run fun w => ?_⟩
    · unfold oSliceV
      rw [e1]
      show (oNat hi e 0 fun hi => oNat lo e 0 fun lo => bo (bb (Nat.beq hi 0) (Nat.beq lo 0) false) (k .nils h) .bad) = _
      rw [a1, b1, h3]; rfl
    · have hu := run_und w ht.und
      rw [hd] at hu
      have hb := run_bounds (P := P) (isS := true) b2 a2 (Nat.le_refl 0) (Nat.le_refl 0) w
      simp [Instr.sliceAt, hu, Instr.slice, hb, run_size w hte]
theorem q_slicePtr {t el : TypeId} {n : Nat} {i ie : TI} (ht : TOk P t i) (hd : i.desc = .array n el) (hte : TOk P el ie) {x : Rd} {lo hi : Option Rd} {cx : Value} {cl ch : Option Value} (hne : oSlicePtr n ie.size x lo hi e h k ≠ .bad) (hx : VR μ (x e) cx) (hl : OptR μ e lo cl) (hh : OptR μ e hi ch) :
    QR P μ (oSlicePtr n ie.size x lo hi) e (valS (Instr.sliceAt t cx cl ch none)) := by
  unfold oSlicePtr at hne
  obtain ⟨b, o, e1, e2⟩ := onPtr_ne hne
  rw [e2] at hne
  obtain ⟨m, a1, a2, a3⟩ := oNat_ne hh hne
  rw [a3] at hne
  obtain ⟨l, b1, b2, b3⟩ := oNat_ne hl hne
  rw [b3] at hne
  obtain ⟨h3, _⟩ := bo_ne' hne
  have q1 := ble_iff.1 (bb_and h3).1
  have q2 := ble_iff.1 (bb_and h3).2
  rw [e1] at hx
  obtain ⟨L, h1, rfl⟩ := hx.ptr_inv
  refine ⟨.slice b (o + l * ie.size) (m - l) (n - l) true, _, fun h k => ?_, VR.part (sz := ie.size) (cc := n) h1 (fun _ => rfl) (Nat.le_refl n) q1 q2 (fun _ => rfl) (fun q => by cases q), valS_run fun w => ?_⟩
  · unfold oSlicePtr
    rw [e1]
    show (oNat hi e n fun hi => oNat lo e 0 fun lo => bo (bb (Nat.ble lo hi) (Nat.ble hi n) false) (k (.slice b (o + lo * ie.size) (hi - lo) (n - lo) true) h) .bad) = _
    rw [a1, b1, h3]; rfl
  · have hu := run_und w ht.und
    rw [hd] at hu
    have hb := run_bounds (P := P) (isS := false) b2 a2 q1 q2 w
    simp [Instr.sliceAt, hu, Instr.sureAddr, hb, run_size w hte, sliced]
    split <;> rfl
end Dv
/-! functions, min and max, nil, composite values -/
namespace Dv
open Go Go.RowKit
variable {S : Sites} {base : Nat} {μ μ' : Mu} {h : Heap} {w w' : World} {P : Program} {tt : TT} {ng : Nat} {kp : Nat → Bool} {nt : Nat} {M : List Nat} {e : Env} {a : Act} {k : K}

theorem q_slice3 {t el : TypeId} {i ie : TI} (ht : TOk P t i) (hd : i.desc = .slice el) (hte : TOk P el ie) {x hi mx : Rd} {lo : Option Rd} {cx ch cm : Value} {cl : Option Value} (hne : oSlice3 ie.size x lo hi mx e h k ≠ .bad) (hx : VR μ (x e) cx) (hl : OptR μ e lo cl) (hh : VR μ (hi e) ch) (hm : VR μ (mx e) cm) :
    QR P μ (oSlice3 ie.size x lo hi mx) e (valS (Instr.sliceAt t cx cl (some ch) (some cm))) := by
  unfold oSlice3 at hne
  rcases onSl_ne hne with ⟨⟨b, o, n, c, ex, e1, e2⟩⟩ | ⟨⟨m0, l0, l0', e1⟩, e2⟩
  · rw [e2] at hne
    obtain ⟨k2, hv, a1, a2⟩ := onNat_ne hne
    rw [a2] at hne
    obtain ⟨l, b1, b2, b3⟩ := oNat_ne hl hne
    rw [b3] at hne
    obtain ⟨k3, m, c1, c2⟩ := onNat_ne hne
    rw [c2] at hne
    obtain ⟨h3, _⟩ := bo_ne' hne
    have q1 := ble_iff.1 (bb_and h3).1
    have q2 := ble_iff.1 (bb_and (bb_and h3).2).1
    have q4 := ble_iff.1 (bb_and (bb_and h3).2).2
    rw [e1] at hx; rw [a1] at hh; rw [c1] at hm
    obtain ⟨L, ad, cc, h1, rfl, hn, ha, g1, g2⟩ := hx.sl_inv
    obtain ⟨ki, rfl, rfl⟩ := hh.int_inv
    obtain ⟨kj, rfl, rfl⟩ := hm.int_inv
    have q3 : m ≤ cc := by
      rw [bn_eq] at q4
      cases ex with
      | true => have := g1 rfl; simp at q4; omega
      | false => simp at q4; omega
    refine ⟨.slice b (o + l * ie.size) (hv - l) (m - l) true, _, fun h k => ?_, VR.part (sz := ie.size) (ex := true) h1 ha q3 q1 q2 (fun _ => rfl) (fun q => by cases q), valS_run fun w => ?_⟩
    · unfold oSlice3
      rw [e1]
      show (onNat (hi e) fun hi => oNat lo e 0 fun lo => onNat (mx e) fun m => bo (bb (Nat.ble lo hi) (bb (Nat.ble hi m) (Nat.ble m (bn ex c n)) false) false) (k (.slice b (o + lo * ie.size) (hi - lo) (m - lo) true) h) .bad) = _
      rw [onNat_at a1, b1, onNat_at c1, h3]; rfl
    · have hu := run_und w ht.und
      rw [hd] at hu
      have hb := run_bounds3 (P := P) (k2 := ki) (k3 := kj) (len := n) b2 rfl rfl q1 q2 q3 w
      simp [Instr.sliceAt, hu, Instr.slice, hb, run_size w hte, sliced]
  · rw [e2] at hne
    obtain ⟨k2, hv, a1, a2⟩ := onNat_ne hne
    rw [a2] at hne
    obtain ⟨l, b1, b2, b3⟩ := oNat_ne hl hne
    rw [b3] at hne
    obtain ⟨k3, m, c1, c2⟩ := onNat_ne hne
    rw [c2] at hne
    obtain ⟨h3, _⟩ := bo_ne' hne
    have q1 := nbeq_iff.1 (bb_and h3).1
    have q2 := nbeq_iff.1 (bb_and (bb_and h3).2).1
    have q4 := nbeq_iff.1 (bb_and (bb_and h3).2).2
    subst q1; subst q2; subst q4
    rw [e1] at hx; rw [a1] at hh; rw [c1] at hm
    have hx' := hx.nils_inv
    subst hx'
    obtain ⟨ki, rfl, rfl⟩ := hh.int_inv
    obtain ⟨kj, rfl, rfl⟩ := hm.int_inv
    refine ⟨.nils, .slice none 0 0, fun h k => ?_, .nils, valS_run fun w => ?_⟩
    · unfold oSlice3
      rw [e1]
      show (onNat (hi e) fun hi => oNat lo e 0 fun lo => onNat (mx e) fun m => bo (bb (Nat.beq hi 0) (bb (Nat.beq lo 0) (Nat.beq m 0) false) false) (k .nils h) .bad) = _
      rw [onNat_at a1, b1, onNat_at c1, h3]; rfl
    · have hu := run_und w ht.und
      rw [hd] at hu
      have hb := run_bounds3 (P := P) (k2 := ki) (k3 := kj) (len := 0) (cap := 0) b2 rfl rfl (Nat.le_refl 0) (Nat.le_refl 0) (Nat.le_refl 0) w
      rw [show ((0 : Nat) : Int) = 0 from rfl] at hb
      simp [Instr.sliceAt, hu, Instr.slice, hb, run_size w hte]
theorem q_mkFn {f : Nat} {first caps : List Rd} {c1 c2 : List Value} (h1 : VRs μ (mapRd first e) c1) (h2 : VRs μ (mapRd caps e) c2) : QR P μ (oMkFn f first caps) e (valS (Instr.makeFunc (.func f) c1.toArray c2.toArray)) :=
  ⟨_, _, fun _ _ => rfl, .fn h1 h2, valS_run fun _ => rfl⟩
theorem q_nilCheck {x : Rd} {cx : Value} (hne : oNilCheck x e h k ≠ .bad) (hx : VR μ (x e) cx) {s : Sem Next} (hs : (∃ a, cx = .pointer (some a)) ∨ (∃ f a b, cx = .func (.func f) a b) ∨ (∃ l a b, cx = .func (.yield l) a b) → s = pure (.value cx)) :
    QR P μ (oNilCheck x) e s := by
  unfold oNilCheck at hne
  obtain ⟨h1, h2⟩ := onNilable_ne hne
  have hcase : ((∃ a, cx = .pointer (some a)) ∨ (∃ f a b, cx = .func (.func f) a b) ∨ (∃ l a b, cx = .func (.yield l) a b)) ∧ ∀ f : Out, (x e).onNilable f .bad = f := by
    rcases h1 with ⟨b, o, e1⟩ | ⟨m, l, l', e1⟩ | ⟨m, l, l', e1⟩
    · rw [e1] at hx; cases hx; exact ⟨.inl ⟨_, rfl⟩, fun f => by rw [e1]; rfl⟩
    · rw [e1] at hx; cases hx; exact ⟨.inr (.inl ⟨_, _, _, rfl⟩), fun f => by rw [e1]; rfl⟩
    · rw [e1] at hx; cases hx; exact ⟨.inr (.inr ⟨_, _, _, rfl⟩), fun f => by rw [e1]; rfl⟩
  rw [hs hcase.1]
  exact ⟨x e, cx, fun h k => by unfold oNilCheck; rw [hcase.2], hx, fun w => rfl⟩
theorem q_minMax {mx : Bool} {x y : Rd} {cx cy : Value} (hne : oMinMax mx x y e h k ≠ .bad) (hx : VR μ (x e) cx) (hy : VR μ (y e) cy) {ts : Array TypeId} {t : TypeId} :
    QR P μ (oMinMax mx x y) e (valS (if mx then Builtin.max_ ts t #[cx, cy] else Builtin.min_ ts t #[cx, cy])) := by
  unfold oMinMax at hne
  obtain ⟨kx, n, e1, e2⟩ := onInt_ne hne
  rw [e2] at hne
  obtain ⟨ky, m, e3, e4⟩ := onInt_ne hne
  rw [e4] at hne
  obtain ⟨h3, _⟩ := bo_ne' hne
  have := nbeq_iff.1 h3; subst this
  rw [e1] at hx; rw [e3] at hy
  obtain ⟨kk, rfl, rfl⟩ := hx.int_inv
  obtain ⟨kk', q, rfl⟩ := hy.int_inv
  have := kcode_inj q; subst this
  refine ⟨.int (kcode kk) (if mx then (if m > n then m else n) else (if m < n then m else n)), .int kk (if mx then (if m > n then m else n) else (if m < n then m else n)), fun h k => ?_, .int _ _, valS_run fun w => ?_⟩
  · unfold oMinMax
    rw [e1, e3]
    show bo (Nat.beq (kcode kk) (kcode kk)) (k (.int (kcode kk) (bi (bb (ltI n m) mx (notB mx)) m n)) h) _ = _
    rw [nbeq_t, bi_eq, bb_eq, ltI_eq, notB_eq]
    have : (if (if decide (n < m) = true then mx else !mx) = true then m else n) = if mx then (if m > n then m else n) else (if m < n then m else n) := by
      cases mx <;> by_cases q1 : n < m <;> by_cases q2 : m < n <;> simp [q1, q2] <;> omega
    rw [this]; rfl
  · cases mx
    · simp [Builtin.min_, Builtin.min2]
    · simp [Builtin.max_, Builtin.max2]
theorem q_slNil {pos : Bool} {t el : TypeId} {i : TI} (ht : TOk P t i) (hd : i.desc = .slice el) {X Y : Operand} {x : Rd} {cx : Value} (hne : oSlNil pos x e h k ≠ .bad) (hx : VR μ (x e) cx) :
    QR P μ (oSlNil pos x) e (valS (binS (if pos then .eql else .neq) t X Y cx (.slice none 0 0))) ∧ QR P μ (oSlNil pos x) e (valS (binS (if pos then .eql else .neq) t X Y (.slice none 0 0) cx)) := by
  unfold oSlNil at hne
  have hu : P.underlying t = some (.slice el) := by rw [ht.und, hd]
  have flip : ∀ (a : Option Addr) (l c : Nat) (w : World), (Op.equal t (.slice none 0 0) (.slice a l c)).run P w = .ok a.isNone w := by
    intro a l c w
    show (Op.equalIn (9999 + 1) t _ _).run P w = _
    unfold Op.equalIn
    rw [Sem.run_bind, run_und w hu]
    rfl
  have both : ∀ (b : Bool) (a : Option Addr) (l c : Nat), a.isNone = b → ∀ w, (binS (if pos then .eql else .neq) t X Y (.slice a l c) (.slice none 0 0)).run P w = .ok (.bool (if pos then b else !b)) w ∧ (binS (if pos then .eql else .neq) t X Y (.slice none 0 0) (.slice a l c)).run P w = .ok (.bool (if pos then b else !b)) w := by
    intro b a l c hb w
    have h1 := run_equal_slice_nil w t el a l c hu
    have h2 := flip a l c w
    cases pos <;> simp only [binS, eqGuard_at_slice, Sem.run_bind, Sem.run_pure, Result.andThen_ok, if_true, Bool.false_eq_true, if_false] <;> simp [binOp, h1, h2, hb]
  rcases onSl_ne hne with ⟨⟨b, o, n, c, ex, e1, e2⟩⟩ | ⟨⟨m0, l0, l0', e1⟩, e2⟩
  · rw [e1] at hx
    obtain ⟨L, ad, cc, h1, rfl, hn, ha, g1, g2⟩ := hx.sl_inv
    have hk : ∀ h k, oSlNil pos x e h k = k (.bool (!pos)) h := fun h k => by unfold oSlNil; rw [e1]; show k (.bool (notB pos)) h = _; rw [notB_eq]
    have hv : VR μ (.bool (!pos)) (.bool (if pos then false else !false)) := by cases pos <;> exact .bool _
    exact ⟨⟨_, _, hk, hv, valS_run fun w => (both false _ n cc rfl w).1⟩, ⟨_, _, hk, hv, valS_run fun w => (both false _ n cc rfl w).2⟩⟩
  · rw [e1] at hx
    have hx' := hx.nils_inv
    subst hx'
    have hk : ∀ h k, oSlNil pos x e h k = k (.bool pos) h := fun h k => by unfold oSlNil; rw [e1]; rfl
    have hv : VR μ (.bool pos) (.bool (if pos then true else !true)) := by cases pos <;> exact .bool _
    exact ⟨⟨_, _, hk, hv, valS_run fun w => (both true _ 0 0 rfl w).1⟩, ⟨_, _, hk, hv, valS_run fun w => (both true _ 0 0 rfl w).2⟩⟩
end Dv
/-! composite values -/
namespace Dv
open Go Go.RowKit
variable {S : Sites} {base : Nat} {μ μ' : Mu} {h : Heap} {w w' : World} {P : Program} {tt : TT} {ng : Nat} {kp : Nat → Bool} {nt : Nat} {M : List Nat} {e : Env} {a : Act} {k : K}

theorem fold_get (off : Nat) : ∀ (l : List Value) (n : Nat) (cs : Array Value), ((l.zipIdx n).foldl (fun cs (x : Value × Nat) => cs.setIfInBounds (off + x.2) x.1) cs).size = cs.size ∧
    ∀ i, i < cs.size → ((l.zipIdx n).foldl (fun cs (x : Value × Nat) => cs.setIfInBounds (off + x.2) x.1) cs)[i]? = if off + n ≤ i ∧ i < off + n + l.length then l[i - (off + n)]? else cs[i]?
  | [], n, cs => ⟨rfl, fun i hi => by simp; omega⟩
  | x :: l, n, cs => by
    obtain ⟨h1, h2⟩ := fold_get off l (n + 1) (cs.setIfInBounds (off + n) x)
    rw [List.zipIdx_cons, List.foldl_cons]
    refine ⟨by rw [h1]; simp, fun i hi => ?_⟩
    rw [h2 i (by simpa using hi), Array.getElem?_setIfInBounds]
    by_cases q : off + n = i
    · subst q
      rw [if_neg (by omega), if_pos rfl, if_pos hi, if_pos (by simp)]
      simp
    · rw [if_neg q]
      by_cases q2 : off + (n + 1) ≤ i ∧ i < off + (n + 1) + l.length
      · rw [if_pos q2, if_pos (by simp only [List.length_cons]; omega), show i - (off + n) = (i - (off + (n + 1))) + 1 from by omega, List.getElem?_cons_succ]
      · rw [if_neg q2, if_neg (by simp only [List.length_cons]; omega)]
theorem fillL_nil (b : List AV) (o : Nat) : fillL [] b o = b := rfl
theorem fillL_cons0 (v : AV) (vs : List AV) (b : AV) (r : List AV) : fillL (v :: vs) (b :: r) 0 = v :: fillL vs r 0 := rfl
theorem fillL_consS (v : AV) (vs : List AV) (b : AV) (r : List AV) (o : Nat) : fillL (v :: vs) (b :: r) (o + 1) = b :: fillL (v :: vs) r o := rfl
theorem fillL_get (vs : List AV) : ∀ (bs : List AV) (o : Nat), o + vs.length ≤ bs.length → (fillL vs bs o).length = bs.length ∧ ∀ i, (fillL vs bs o)[i]? = if o ≤ i ∧ i < o + vs.length then vs[i - o]? else bs[i]? := by
  induction vs with
  | nil => intro bs o h; exact ⟨rfl, fun i => by rw [fillL_nil, if_neg (fun q => by simp only [List.length_nil] at q; omega)]⟩
  | cons v vs ih =>
    intro bs
    induction bs with
    | nil => intro o h; simp at h
    | cons b r ihb =>
      intro o h
      cases o with
      | zero =>
        rw [fillL_cons0]
        obtain ⟨h1, h2⟩ := ih r 0 (by simpa using h)
        refine ⟨by simp [h1], fun i => ?_⟩
        cases i with
        | zero => simp
        | succ i =>
          rw [List.getElem?_cons_succ, h2 i]
          by_cases q : 0 ≤ i ∧ i < 0 + vs.length
          · rw [if_pos q, if_pos (by simp only [List.length_cons]; omega)]; simp
          · rw [if_neg q, if_neg (by simp only [List.length_cons]; omega)]; simp
      | succ o =>
        rw [fillL_consS]
        obtain ⟨h1, h2⟩ := ihb o (by simp only [List.length_cons] at h ⊢; omega)
        refine ⟨by simp [h1], fun i => ?_⟩
        cases i with
        | zero => simp
        | succ i =>
          rw [List.getElem?_cons_succ, h2 i]
          by_cases q : o ≤ i ∧ i < o + (v :: vs).length
          · rw [if_pos q, if_pos (by omega), show i + 1 - (o + 1) = i - o from by omega]
          · rw [if_neg q, if_neg (by omega)]; simp
theorem ckU_ne {v : AV} {k : Out} (hne : ckU v k ≠ .bad) : (∀ k, ckU v k = k) ∧ ∀ t m l l', v = .oth t m l l' → t < 8 := by
  unfold ckU at hne ⊢
  cases v with
  | oth t m l l' =>
    have e1 : ∀ f g, (AV.oth t m l l').onOth f g = f t m l l' := fun _ _ => rfl
    rw [e1] at hne
    cases q : Nat.ble 8 t with
    | true => rw [q] at hne; exact absurd rfl hne
    | false =>
      refine ⟨fun k => by rw [e1]; show bo (Nat.ble 8 t) .bad k = k; rw [q]; rfl, fun t' m' l1 l2 he => ?_⟩
      cases he
      have : ¬ 8 ≤ t := fun z => by rw [ble_iff.2 z] at q; cases q
      omega
  | _ => exact ⟨fun _ => rfl, fun _ _ _ _ he => by cases he⟩
theorem ck1_ne {v : AV} {k : Out} (hne : ck1 v k ≠ .bad) : (∀ k, ck1 v k = k) ∧ ∀ t m l l', v = .oth t m l l' → t < 7 := by
  unfold ck1 at hne ⊢
  cases v with
  | oth t m l l' =>
    have e1 : ∀ f g, (AV.oth t m l l').onOth f g = f t m l l' := fun _ _ => rfl
    rw [e1] at hne
    cases q : Nat.ble 7 t with
    | true => rw [q] at hne; exact absurd rfl hne
    | false =>
      refine ⟨fun k => by rw [e1]; show bo (Nat.ble 7 t) .bad k = k; rw [q]; rfl, fun t' m' l1 l2 he => ?_⟩
      cases he
      have : ¬ 7 ≤ t := fun z => by rw [ble_iff.2 z] at q; cases q
      omega
  | _ => exact ⟨fun _ => rfl, fun _ _ _ _ he => by cases he⟩
theorem cells_agg (m : Nat) (l l' : List AV) : (AV.oth 7 m l l').cells = l := rfl
theorem VR.cells8 {x : AV} {v : Value} (h : VR μ x v) (ht : ∀ t m l l', x = .oth t m l l' → t < 8) : VRs μ x.cells v.cells.toList ∧ ∀ u ∈ v.cells.toList, u.oneCell' = true := by
  have h0 := h
  have one : ∀ {x : AV} {v : Value}, VR μ x v → x.cells = [x] → v.cells = #[v] → v.oneCell' = true → VRs μ x.cells v.cells.toList ∧ ∀ u ∈ v.cells.toList, u.oneCell' = true := by
    intro x v h e1 e2 e3
    rw [e1, e2]
    exact ⟨.cons h .nil, fun u hu => by simp at hu; subst hu; exact e3⟩
  cases h with
  | und v => have := ht _ _ _ _ rfl; omega
  | tup _ => have := ht _ _ _ _ rfl; omega
  | agg hl hl1 => exact ⟨hl, hl1⟩
  | _ => exact one h0 rfl rfl rfl
theorem VR.cell7 {x : AV} {v : Value} (h : VR μ x v) (ht : ∀ t m l l', x = .oth t m l l' → t < 7) : v.oneCell' = true ∧ v.cells = #[v] := by
  cases h with
  | und v => have := ht _ _ _ _ rfl; omega
  | tup _ => have := ht _ _ _ _ rfl; omega
  | agg hl hl1 => have := ht _ _ _ _ rfl; omega
  | _ => exact ⟨rfl, rfl⟩
theorem toA {cs : Array Value} {j : Nat} {o : Option Value} (h : cs.toList[j]? = o) : cs[j]? = o := by rw [← h, Array.getElem?_toList]
theorem toL {cs : Array Value} {j : Nat} {o : Option Value} (h : cs[j]? = o) : cs.toList[j]? = o := by rw [← h, Array.getElem?_toList]
theorem fill_ok (ha : AR ng kp nt μ M e a) {places places' : Nat → Option (Nat × Nat)} {tot : Nat} (hpl : ∀ i o, places i = some o → places' i = some o) :
    ∀ (l : List (Nat × Operand)) (ps : List (Nat × Nat × OpdS)), parts ng M places tot l = some ps → ∀ (bs : List AV) (cs : Array Value) (K : List AV → Out), VRs μ bs cs.toList → cs.size = tot → (∀ v ∈ cs.toList, v.oneCell' = true) →
    fillsK (rdP ps) e bs K ≠ .bad → ∃ cs', (∀ K, fillsK (rdP ps) e bs K = K (fills (rdP ps) e bs)) ∧ Instr.fill places' cs (l.map fun p => (p.1, a.eval p.2)) = some cs' ∧ VRs μ (fills (rdP ps) e bs) cs'.toList ∧ cs'.size = tot ∧ (∀ v ∈ cs'.toList, v.oneCell' = true)
  | [], ps, hp, bs, cs, K, hv, hs, h1, hne => by
    simp only [parts, Option.some.injEq] at hp; subst hp
    exact ⟨cs, fun _ => rfl, rfl, hv, hs, h1⟩
  | (i, x) :: l, ps, hp, bs, cs, K, hv, hs, h1, hne => by
    simp only [parts] at hp
    cases hpi : places i with
    | none => rw [hpi] at hp; simp at hp
    | some o =>
      cases hx : opd ng M x with
      | none => rw [hpi, hx] at hp; simp at hp
      | some xs =>
        rw [hpi, hx] at hp
        simp only [Option.bind_some] at hp
        by_cases hle : o.1 + o.2 ≤ tot
        · rw [if_pos hle] at hp
          cases hr : parts ng M places tot l with
          | none => rw [hr] at hp; simp at hp
          | some ps' =>
            rw [hr] at hp
            simp only [Option.map_some, Option.some.injEq] at hp; subst hp
            have e1 : ∀ K, fillsK (rdP ((o.1, o.2, xs) :: ps')) e bs K = ckU (xs.rd e) (bo (Nat.beq (lenL (xs.rd e).cells) o.2) (fillsK (rdP ps') e (fillL (xs.rd e).cells bs o.1) K) .bad) := fun _ => rfl
            have e2 : fills (rdP ((o.1, o.2, xs) :: ps')) e bs = fills (rdP ps') e (fillL (xs.rd e).cells bs o.1) := rfl
            rw [e1] at hne
            obtain ⟨c1, c2⟩ := ckU_ne hne
            rw [c1] at hne
            obtain ⟨b1, b2⟩ := bo_ne' hne
            rw [b2] at hne
            have hsz := nbeq_iff.1 b1
            rw [lenL_eq] at hsz
            have hxv := ha.opd hx
            obtain ⟨d1, d2⟩ := hxv.cells8 c2
            have dl := d1.length
            have hbl := hv.length
            have hcl : cs.toList.length = cs.size := rfl
            have hvl : (a.eval x).cells.toList.length = (a.eval x).cells.size := rfl
            obtain ⟨g1, g2⟩ := fold_get o.1 (a.eval x).cells.toList 0 cs
            obtain ⟨f1, f2⟩ := fillL_get (xs.rd e).cells bs o.1 (by omega)
            have hfold : ((a.eval x).cells.zipIdx.foldl (fun cs (c, j) => cs.setIfInBounds (o.1 + j) c) cs) = ((a.eval x).cells.toList.zipIdx 0).foldl (fun cs (x : Value × Nat) => cs.setIfInBounds (o.1 + x.2) x.1) cs := by
              rw [← Array.foldl_toList, Array.toList_zipIdx]
            generalize hcs : ((a.eval x).cells.toList.zipIdx 0).foldl (fun cs (x : Value × Nat) => cs.setIfInBounds (o.1 + x.2) x.1) cs = cs2 at g1 g2 hfold
            have hv2 : VRs μ (fillL (xs.rd e).cells bs o.1) cs2.toList := by
              refine VRs.of_get (by rw [f1, hbl]; show cs.size = cs2.size; exact g1.symm) (fun j y v hy hv' => ?_)
              have hj : j < cs.size := by
                have := (Array.getElem?_eq_some_iff.1 (toA hv')).1
                omega
              rw [f2] at hy
              have hv'' : cs2[j]? = some v := toA hv'
              rw [g2 j hj] at hv''
              by_cases q : o.1 ≤ j ∧ j < o.1 + (xs.rd e).cells.length
              · rw [if_pos q] at hy
                rw [if_pos (by omega)] at hv''
                obtain ⟨v', p1, p2⟩ := d1.get hy
                rw [Nat.add_zero] at hv''
                rw [p1] at hv''; cases hv''; exact p2
              · rw [if_neg q] at hy
                rw [if_neg (by omega)] at hv''
                obtain ⟨v', p1, p2⟩ := hv.get hy
                rw [toA p1] at hv''; cases hv''; exact p2
            have h12 : ∀ v ∈ cs2.toList, v.oneCell' = true := by
              intro v hv'
              obtain ⟨j, hj⟩ := List.getElem?_of_mem hv'
              have hj' : cs2[j]? = some v := toA hj
              have hjl := (Array.getElem?_eq_some_iff.1 hj').1
              rw [g2 j (by omega)] at hj'
              split at hj'
              · exact d2 v (List.mem_of_getElem? hj')
              · exact h1 v (List.mem_of_getElem? (toL hj'))
            obtain ⟨cs', r1, r2, r3, r4, r5⟩ := fill_ok ha hpl l ps' hr _ cs2 K hv2 (by omega) h12 hne
            refine ⟨cs', fun K => ?_, ?_, by rw [e2]; exact r3, r4, r5⟩
            · rw [e1, c1, b1, e2]; exact r1 K
            · simp only [List.map_cons, Instr.fill]
              rw [hpl i o hpi]
              simp only
              rw [if_neg (by simp; omega), hfold]
              exact r2
        · rw [if_neg hle] at hp; simp at hp
end Dv
/-! quiet operations, all -/
namespace Dv
open Go Go.RowKit
variable {S : Sites} {base : Nat} {μ μ' : Mu} {h : Heap} {w w' : World} {P : Program} {tt : TT} {ng : Nat} {kp : Nat → Bool} {nt : Nat} {M : List Nat} {e : Env} {a : Act} {k : K}

def fsz (tt : TT) (f : Field) : Nat := ((tt f.type).map (·.size)).getD 0
theorem run_mapM_fields (htt : TTOk P tt) (w : World) : ∀ (l : List Field), l.all (fun f => (tt f.type).isSome) = true → (l.mapM (fun f => do pure (f.offset, ← Go.sizeOf f.type) : Field → Sem (Nat × Nat))).run P w = .ok (l.map fun f => (f.offset, fsz tt f)) w
  | [], _ => rfl
  | f :: l, h => by
    simp only [List.all_cons, Bool.and_eq_true] at h
    obtain ⟨i, hi⟩ := Option.isSome_iff_exists.1 h.1
    have ih := run_mapM_fields htt w l h.2
    rw [List.mapM_cons]
    simp only [Sem.run_bind, run_size w (htt _ _ hi), Result.andThen_ok, Sem.run_pure, ih, List.map_cons]
    simp [fsz, hi]
theorem q_build (htt : TTOk P tt) (ha : AR ng kp nt μ M e a) {t : TypeId} {i : TI} (ht : tt t = some i) {prt : Array (Nat × Operand)} {ps : List (Nat × Nat × OpdS)}
    (hc : (∃ fs, i.desc = .struct fs ∧ fs.toList.all (fun f => (tt f.type).isSome) = true ∧ parts ng M (fun j => (fs[j]?).bind fun f => (tt f.type).map fun ie => (f.offset, ie.size)) i.size prt.toList = some ps) ∨
      ∃ n el ie, i.desc = .array n el ∧ tt el = some ie ∧ parts ng M (fun j => some (j * ie.size, ie.size)) i.size prt.toList = some ps)
    (hne : oBuild i.zero (rdP ps) e h k ≠ .bad) : QR P μ (oBuild i.zero (rdP ps)) e (valS (Instr.build t (prt.map fun (j, x) => (j, a.eval x)))) := by
  unfold oBuild at hne
  have key : ∀ (places places' : Nat → Option (Nat × Nat)), (∀ i o, places i = some o → places' i = some o) → parts ng M places i.size prt.toList = some ps →
      (∀ w cs' z, (zeroValue t).run P w = .ok z w → Instr.fill places' z.cells (prt.toList.map fun p => (p.1, a.eval p.2)) = some cs' → (Instr.build t (prt.map fun (j, x) => (j, a.eval x))).run P w = .ok (.agg cs') w) →
      QR P μ (oBuild i.zero (rdP ps)) e (valS (Instr.build t (prt.map fun (j, x) => (j, a.eval x)))) := by
    intro places places' hpl hp hrun
    obtain ⟨f, i1, i2, i3, z, i4, i5, i6, i7, _⟩ := (htt t i ht).info
    obtain ⟨cs', r1, r2, r3, r4, r5⟩ := fill_ok ha hpl prt.toList ps hp i.zero z.cells _ (i5 μ) i7 i6 hne
    refine ⟨.agg (fills (rdP ps) e i.zero), .agg cs', fun h k => ?_, ?_, valS_run fun w => ?_⟩
    · unfold oBuild; rw [r1]
    · have := VR.agg r3 r5
      simpa using this
    · exact hrun w cs' z (by simp [zeroValue, typeInfo, i1, i4]) r2
  rcases hc with ⟨fs, hd, hall, hp⟩ | ⟨n, el, ie, hd, hel, hp⟩
  · refine key _ (fun j => (fs.map fun f => (f.offset, fsz tt f))[j]?) ?_ hp ?_
    · intro j o ho
      cases hf : fs[j]? with
      | none => rw [hf] at ho; simp at ho
      | some f =>
        rw [hf] at ho
        simp only [Option.bind_some, Option.map_eq_some_iff] at ho
        obtain ⟨ie, q1, q2⟩ := ho
        simp [hf, fsz, q1, q2]
    · intro w cs' z hz hfill
      have hu := run_und w (htt t i ht).und
      rw [hd] at hu
      have hm : (fs.mapM (fun f => do pure (f.offset, ← Go.sizeOf f.type) : Field → Sem (Nat × Nat))).run P w = .ok (fs.map fun f => (f.offset, fsz tt f)) w := by
        rw [Array.mapM_eq_mapM_toList, Sem.run_map, run_mapM_fields htt w _ hall]
        simp only [Result.andThen_ok]
        congr 1
        apply Array.ext'
        simp
      unfold Instr.build
      simp only [Sem.run_bind, hz, Result.andThen_ok, Sem.run_map, hu]
      rw [hm]
      simp only [Result.andThen_ok]
      have e1 : (Array.map (fun (j, x) => (j, a.eval x)) prt).toList = prt.toList.map fun p => (p.1, a.eval p.2) := by simp
      rw [e1, hfill]
      rfl
  · refine key _ (fun j => some (j * ie.size, ie.size)) (fun _ _ q => q) hp ?_
    intro w cs' z hz hfill
    have hu := run_und w (htt t i ht).und
    rw [hd] at hu
    unfold Instr.build
    simp only [Sem.run_bind, hz, Result.andThen_ok, Sem.run_map, hu, run_size w (htt _ _ hel)]
    have e1 : (Array.map (fun (j, x) => (j, a.eval x)) prt).toList = prt.toList.map fun p => (p.1, a.eval p.2) := by simp
    rw [e1, hfill]
    rfl

/-- what is to be shown of == on structs and arrays -/
def AgOk (P : Program) (tt : TT) : Prop := ∀ (μ : Mu) (h : Heap) (k : K) (e : Env) (pos : Bool) (t : TypeId) (i : TI) (X Y : Operand) (x y : Rd) (cx cy : Value), tt t = some i → isAggD i.desc = true → ∀ sh, shapeOf tt t = some sh → oAg sh pos x y e h k ≠ .bad → VR μ (x e) cx → VR μ (y e) cy →
  QR P μ (oAg sh pos x y) e (valS (binS (if pos then .eql else .neq) t X Y cx cy))
theorem opdO_ok (ha : AR ng kp nt μ M e a) {o : Option Operand} {x : Option OpdS} (h : opdO ng M o = some x) : OptR μ e (rdO x) (o.map a.eval) := by
  cases o with
  | none => simp only [opdO, Option.some.injEq] at h; subst h; exact .none
  | some y =>
    simp only [opdO, Option.map_eq_some_iff] at h
    obtain ⟨z, h1, rfl⟩ := h
    exact .some (ha.opd h1)
theorem isNilS_eq {o : Operand} (h : isNilS o = true) : a.eval o = .slice none 0 0 := by
  unfold isNilS at h
  split at h
  · rfl
  · cases h
theorem bin_ok (htt : TTOk P tt) (hag : AgOk P tt) (ha : AR ng kp nt μ M e a) {op : BinOp} {t : TypeId} {X Y : Operand} {d : OpS} (hd : compBin tt ng M op t X Y = some d) (hne : d.op e h k ≠ .bad) :
    QR P μ d.op e (valS (binS op t X Y (a.eval X) (a.eval Y))) := by
  unfold compBin at hd
  cases hi : tt t with
  | none => rw [hi] at hd; simp at hd
  | some i =>
    rw [hi] at hd
    simp only [Option.bind_some] at hd
    have ht := htt t i hi
    have agg : ∀ pos, op = (if pos then .eql else .neq) → isAggD i.desc = true → ((shapeOf tt t).bind fun sh => o2 ng M X Y (.agEq sh pos)) = some d → QR P μ d.op e (valS (binS op t X Y (a.eval X) (a.eval Y))) := by
      intro pos e1 e2 hd
      cases hs : shapeOf tt t with
      | none => rw [hs] at hd; cases hd
      | some sh =>
        rw [hs] at hd
        obtain ⟨u, v, h1, h2, rfl⟩ := o2_some (show o2 ng M X Y (.agEq sh pos) = some d from hd)
        rw [e1]
        exact hag μ h k e pos t i X Y _ _ _ _ hi e2 sh hs hne (ha.opd h1) (ha.opd h2)
    have sl : ∀ pos el, op = (if pos then .eql else .neq) → i.desc = .slice el → (if isNilS Y then o1 ng M X (.slNil pos) else if isNilS X then o1 ng M Y (.slNil pos) else none) = some d → QR P μ d.op e (valS (binS op t X Y (a.eval X) (a.eval Y))) := by
      intro pos el e1 e2 hd
      by_cases hy : isNilS Y = true
      · rw [if_pos hy] at hd
        obtain ⟨u, h1, rfl⟩ := o1_some hd
        rw [e1, isNilS_eq (a := a) hy]
        exact (q_slNil ht e2 hne (ha.opd h1)).1
      · rw [if_neg hy] at hd
        by_cases hx : isNilS X = true
        · rw [if_pos hx] at hd
          obtain ⟨u, h1, rfl⟩ := o1_some hd
          rw [e1, isNilS_eq (a := a) hx]
          exact (q_slNil ht e2 hne (ha.opd h1)).2
        · rw [if_neg hx] at hd; cases hd
    have int : op ≠ .shl → op ≠ .shr → o2 ng M X Y (.int op) = some d → QR P μ d.op e (valS (binS op t X Y (a.eval X) (a.eval Y))) := by
      intro n1 n2 hd
      obtain ⟨u, v, h1, h2, rfl⟩ := o2_some hd
      exact q_int hne (ha.opd h1) (ha.opd h2) n1 n2
    have str : strOp op → o2 ng M X Y (.str op) = some d → QR P μ d.op e (valS (binS op t X Y (a.eval X) (a.eval Y))) := by
      intro q hd
      obtain ⟨u, v, h1, h2, rfl⟩ := o2_some hd
      exact q_str q hne (ha.opd h1) (ha.opd h2)
    have boo : ∀ pos, op = (if pos then .eql else .neq) → i.desc = .bool → o2 ng M X Y (.bool pos) = some d → QR P μ d.op e (valS (binS op t X Y (a.eval X) (a.eval Y))) := by
      intro pos e1 e2 hd
      obtain ⟨u, v, h1, h2, rfl⟩ := o2_some hd
      rw [e1]
      exact q_bool ht e2 hne (ha.opd h1) (ha.opd h2)
    cases hdd : i.desc <;> rw [hdd] at hd <;> cases op <;> first
      | (cases hd; done)
      | exact agg true rfl (by rw [hdd]; rfl) hd
      | exact agg false rfl (by rw [hdd]; rfl) hd
      | exact sl true _ rfl hdd hd
      | exact sl false _ rfl hdd hd
      | exact boo true rfl hdd hd
      | exact boo false rfl hdd hd
      | exact str (by unfold strOp; simp) hd
      | (obtain ⟨u, v, h1, h2, rfl⟩ := o2_some hd; exact q_sh hne (ha.opd h1) (ha.opd h2) (.inl rfl))
      | (obtain ⟨u, v, h1, h2, rfl⟩ := o2_some hd; exact q_sh hne (ha.opd h1) (ha.opd h2) (.inr rfl))
      | exact int (by simp) (by simp) hd
      | (rename_i kk; simp only at hd; by_cases hs : kk.signed = true
         · rw [if_pos hs] at hd; cases hd
         · rw [if_neg hs] at hd; exact int (by simp) (by simp) hd)

theorem bind_some2 {α β : Type} {x : Option α} {f : α → Option β} {b : β} (h : x.bind f = some b) : ∃ y, x = some y ∧ f y = some b := by
  cases x with
  | none => cases h
  | some y => exact ⟨y, rfl, h⟩
theorem map_some2 {α β : Type} {x : Option α} {f : α → β} {b : β} (h : x.map f = some b) : ∃ y, x = some y ∧ b = f y := by
  cases x with
  | none => cases h
  | some y => simp only [Option.map_some, Option.some.injEq] at h; exact ⟨y, rfl, h.symm⟩
theorem quiet_ok (htt : TTOk P tt) (hag : AgOk P tt) (ha : AR ng kp nt μ M e a) {o : Oper} {d : OpS} (hd : compOp tt ng M o.op = some d) (hc : clsOf o.op = 0) (hne : d.op e h k ≠ .bad) : QR P μ d.op e (execOp a.eval o) := by
  obtain ⟨dst, op, ty, pos, after, guard⟩ := o
  simp only at hd hc
  cases op with
  | move x => obtain ⟨u, h1, rfl⟩ := o1_some (show o1 ng M x .move = some d from hd); exact q_move (ha.opd h1)
  | assign x => obtain ⟨u, h1, rfl⟩ := o1_some (show o1 ng M x .move = some d from hd); exact q_move (ha.opd h1)
  | pick c x y => obtain ⟨u, v, t, h1, h2, h3, rfl⟩ := o3_some (show o3 ng M c x y .pick = some d from hd); exact q_pick hne (ha.opd h1) (ha.opd h2) (ha.opd h3)
  | build t prt =>
    obtain ⟨i, hi, hd⟩ := bind_some2 (show (tt t).bind _ = some d from hd)
    have hdd : ∃ ps, ((∃ fs, i.desc = .struct fs ∧ fs.toList.all (fun f => (tt f.type).isSome) = true ∧ parts ng M (fun j => (fs[j]?).bind fun f => (tt f.type).map fun ie => (f.offset, ie.size)) i.size prt.toList = some ps) ∨
      ∃ n el ie, i.desc = .array n el ∧ tt el = some ie ∧ parts ng M (fun j => some (j * ie.size, ie.size)) i.size prt.toList = some ps) ∧ d = .build i.zero ps := by
      split at hd
      · rename_i fs hdd
        split at hd
        · rename_i hall
          obtain ⟨ps, h1, h2⟩ := map_some2 hd
          exact ⟨ps, .inl ⟨fs, hdd, hall, h1⟩, h2⟩
        · cases hd
      · rename_i n el hdd
        obtain ⟨ie, h1, hd⟩ := bind_some2 hd
        obtain ⟨ps, h2, h3⟩ := map_some2 hd
        exact ⟨ps, .inr ⟨n, el, ie, hdd, h1, h2⟩, h3⟩
      · cases hd
    obtain ⟨ps, hcase, rfl⟩ := hdd
    exact q_build htt ha hi hcase hne
  | nilCheck x =>
    obtain ⟨u, h1, rfl⟩ := o1_some (show o1 ng M x .nilCheck = some d from hd)
    refine q_nilCheck hne (ha.opd h1) (fun hx => ?_)
    rcases hx with ⟨z, hx⟩ | ⟨f, b, c, hx⟩ | ⟨l, b, c, hx⟩ <;> simp [execOp, hx]
  | binOp op t x y _ => exact bin_ok htt hag ha (show compBin tt ng M op t x y = some d from hd) hne
  | unOp op t x =>
    cases op with
    | not => obtain ⟨u, h1, rfl⟩ := o1_some (show o1 ng M x .not = some d from hd); exact q_not hne (ha.opd h1)
    | neg => obtain ⟨u, h1, rfl⟩ := o1_some (show o1 ng M x .neg = some d from hd); exact q_neg hne (ha.opd h1)
    | _ => cases hd
  | convert s t x =>
    obtain ⟨j, hj, hd⟩ := bind_some2 (show (tt s).bind _ = some d from hd)
    obtain ⟨i, hi, hd⟩ := bind_some2 hd
    split at hd
    · rename_i k1 k2 q1 q2
      obtain ⟨u, h1, rfl⟩ := o1_some hd
      exact q_conv (htt _ _ hj) (htt _ _ hi) q1 q2 hne (ha.opd h1)
    · cases hd
  | makeFunc f x y =>
    cases f with
    | func f =>
      obtain ⟨u, h1, hd⟩ := bind_some2 (show (opds ng M x.toList).bind _ = some d from hd)
      obtain ⟨v, h2, rfl⟩ := map_some2 hd
      have := q_mkFn (P := P) (f := f) (ha.opds h1) (ha.opds h2)
      have e1 : (x.toList.map a.eval).toArray = x.map a.eval := by apply Array.ext'; simp
      have e2 : (y.toList.map a.eval).toArray = y.map a.eval := by apply Array.ext'; simp
      rw [e1, e2] at this
      exact this
    | _ => cases hd
  | slice t x lo hi mx =>
    obtain ⟨i, hi', hd2⟩ := bind_some2 (show (tt t).bind _ = some d from hd)
    clear hd
    have hd := hd2
    clear hd2
    split at hd
    · rename_i q1
      obtain ⟨u, h1, hd⟩ := bind_some2 hd
      obtain ⟨v, h2, hd⟩ := bind_some2 hd
      obtain ⟨z, h3, rfl⟩ := map_some2 hd
      exact q_sliceS (htt _ _ hi') q1 hne (ha.opd h1) (opdO_ok ha h2) (opdO_ok ha h3)
    · rename_i el q1
      obtain ⟨ie, h0, hd⟩ := bind_some2 hd
      obtain ⟨u, h1, hd⟩ := bind_some2 hd
      obtain ⟨v, h2, hd⟩ := bind_some2 hd
      obtain ⟨z, h3, rfl⟩ := map_some2 hd
      exact q_sliceV (htt _ _ hi') q1 (htt _ _ h0) hne (ha.opd h1) (opdO_ok ha h2) (opdO_ok ha h3)
    · rename_i el m q1
      obtain ⟨ie, h0, hd⟩ := bind_some2 hd
      obtain ⟨u, h1, hd⟩ := bind_some2 hd
      obtain ⟨v, h2, hd⟩ := bind_some2 hd
      obtain ⟨z, h3, hd⟩ := bind_some2 hd
      obtain ⟨m', h4, hd⟩ := bind_some2 hd
      obtain ⟨z', h5, rfl⟩ := map_some2 hd
      subst h5
      have h3' := opdO_ok ha h3
      cases hi with
      | none => cases h3'
      | some hi =>
        cases h3' with
        | some h3' => exact q_slice3 (htt _ _ hi') q1 (htt _ _ h0) hne (ha.opd h1) (opdO_ok ha h2) h3' (ha.opd h4)
    · rename_i n el q1
      obtain ⟨ie, h0, hd⟩ := bind_some2 hd
      obtain ⟨u, h1, hd⟩ := bind_some2 hd
      obtain ⟨v, h2, hd⟩ := bind_some2 hd
      obtain ⟨z, h3, rfl⟩ := map_some2 hd
      exact q_slicePtr (htt _ _ hi') q1 (htt _ _ h0) hne (ha.opd h1) (opdO_ok ha h2) (opdO_ok ha h3)
    · cases hd
  | fieldAddr s x f =>
    obtain ⟨i, hi', hd⟩ := bind_some2 (show (tt s).bind _ = some d from hd)
    split at hd
    · rename_i fs q1
      obtain ⟨fl, h0, hd⟩ := bind_some2 hd
      obtain ⟨ie, h1, hd⟩ := bind_some2 hd
      split at hd
      · cases hd
      · rename_i hz
        obtain ⟨u, h2, rfl⟩ := o1_some hd
        exact q_fieldAddr (htt _ _ hi') q1 h0 (htt _ _ h1) hz hne (ha.opd h2)
    · cases hd
  | field s x f =>
    obtain ⟨i, hi', hd⟩ := bind_some2 (show (tt s).bind _ = some d from hd)
    split at hd
    · rename_i fs q1
      obtain ⟨fl, h0, hd⟩ := bind_some2 hd
      obtain ⟨ie, h1, hd⟩ := bind_some2 hd
      split at hd
      · rename_i hg
        obtain ⟨u, h2, rfl⟩ := o1_some hd
        exact q_fieldN (htt _ _ hi') q1 h0 (htt _ _ h1) hg hne (ha.opd h2)
      · rename_i hg
        obtain ⟨u, h2, rfl⟩ := o1_some hd
        exact q_field1 (htt _ _ hi') q1 h0 (htt _ _ h1) (by simpa using hg) hne (ha.opd h2)
    · cases hd
  | indexAddr t x ix =>
    obtain ⟨i, hi', hd⟩ := bind_some2 (show (tt t).bind _ = some d from hd)
    split at hd
    · rename_i el q1
      obtain ⟨ie, h1, hd⟩ := bind_some2 hd
      obtain ⟨u, v, h2, h3, rfl⟩ := o2_some hd
      exact q_indexAddrV (htt _ _ hi') q1 (htt _ _ h1) hne (ha.opd h2) (ha.opd h3)
    · rename_i n el q1
      obtain ⟨ie, h1, hd⟩ := bind_some2 hd
      obtain ⟨u, v, h2, h3, rfl⟩ := o2_some hd
      exact q_indexAddrA (htt _ _ hi') q1 (htt _ _ h1) hne (ha.opd h2) (ha.opd h3)
    · cases hd
  | index t x ix =>
    obtain ⟨i, hi', hd⟩ := bind_some2 (show (tt t).bind _ = some d from hd)
    split at hd
    · rename_i q1
      obtain ⟨u, v, h2, h3, rfl⟩ := o2_some hd
      exact q_indexS (htt _ _ hi') q1 hne (ha.opd h2) (ha.opd h3)
    · rename_i n el q1
      obtain ⟨ie, h1, hd⟩ := bind_some2 hd
      split at hd
      · cases hd
      · rename_i hg
        obtain ⟨u, v, h2, h3, rfl⟩ := o2_some hd
        exact q_indexA1 (htt _ _ hi') q1 (htt _ _ h1) (by simpa using hg) hne (ha.opd h2) (ha.opd h3)
    · cases hd
  | extract x i => obtain ⟨u, h1, rfl⟩ := o1_some (show o1 ng M x (.extract i) = some d from hd); exact q_extract hne (ha.opd h1)
  | call c =>
    obtain ⟨callee, args, ats⟩ := c
    cases callee with
    | builtin b =>
      have hb : b = .min ∨ b = .max := by
        cases b <;> first | (exact .inl rfl) | (exact .inr rfl) | (cases hc)
      have main : ∀ mx, (match args.toList with | [x, y] => o2 ng M x y (.minMax mx) | _ => none) = some d → ∃ x y u v, args = #[x, y] ∧ opd ng M x = some u ∧ opd ng M y = some v ∧ d = .minMax mx u v := by
        intro mx hd
        split at hd
        · rename_i x y q
          obtain ⟨u, v, h2, h3, rfl⟩ := o2_some hd
          exact ⟨x, y, u, v, by apply Array.ext'; simpa using q, h2, h3, rfl⟩
        · cases hd
      rcases hb with rfl | rfl
      · obtain ⟨x, y, u, v, rfl, h2, h3, rfl⟩ := main false hd
        have := q_minMax (P := P) (ts := ats) (t := ty) hne (ha.opd h2) (ha.opd h3)
        obtain ⟨v', cv, r1, r2, r3⟩ := this
        refine ⟨v', cv, r1, r2, fun w => ?_⟩
        have := r3 w
        simp only [Bool.false_eq_true, if_false] at this
        have e1 : Array.map a.eval #[x, y] = #[a.eval x, a.eval y] := by simp
        simp only [execOp, resolve, invoke, builtin, Sem.run_bind, Sem.run_pure, Result.andThen_ok, e1]
        simpa only [valS, Sem.run_bind, Sem.run_pure] using this
      · obtain ⟨x, y, u, v, rfl, h2, h3, rfl⟩ := main true hd
        have := q_minMax (P := P) (ts := ats) (t := ty) hne (ha.opd h2) (ha.opd h3)
        obtain ⟨v', cv, r1, r2, r3⟩ := this
        refine ⟨v', cv, r1, r2, fun w => ?_⟩
        have := r3 w
        simp only [if_true] at this
        have e1 : Array.map a.eval #[x, y] = #[a.eval x, a.eval y] := by simp
        simp only [execOp, resolve, invoke, builtin, Sem.run_bind, Sem.run_pure, Result.andThen_ok, e1]
        simpa only [valS, Sem.run_bind, Sem.run_pure] using this
    | _ => cases hc
  | _ => cases hc
end Dv
