/-
  The evaluator: a deterministic reading of the program in numbers, cells and continuations, and the translation into it.
-/
import GoSem.Core.Layout
import GoSem.Dispatch
import GoSem.Machine.Frame
import Derived.DeepKeys3
set_option linter.unusedVariables false
set_option linter.unusedSimpArgs false
set_option linter.unusedSectionVars false
namespace Dv
noncomputable section

/-! values, cells, heap -/
inductive AV where
  | int (k : Nat) (n : Int)
  | bool (b : Bool)
  | str (len : Nat) (bits : Nat)
  | ptr (b o : Nat)
  | slice (b o len cap : Nat) (ex : Bool)
  /-- tag: 0 nil pointer, 1 nil slice, 2 map, 3 nil map, 4 function, 5 yield, 6 nil function, 7 aggregate, 8 tuple, 9 unknown -/
  | oth (t a : Nat) (l m : List AV)

abbrev AV.nilp : AV := .oth 0 0 [] []
abbrev AV.nils : AV := .oth 1 0 [] []
abbrev AV.map (m : Nat) : AV := .oth 2 m [] []
abbrev AV.nilm : AV := .oth 3 0 [] []
abbrev AV.fn (f : Nat) (first caps : List AV) : AV := .oth 4 f first caps
abbrev AV.yld (l : Nat) : AV := .oth 5 l [] []
abbrev AV.nilf : AV := .oth 6 0 [] []
abbrev AV.agg (l : List AV) : AV := .oth 7 0 l []
abbrev AV.tup (l : List AV) : AV := .oth 8 0 l []
def AV.und : AV := .oth 9 0 [] []

inductive CT where
  | lf
  | nd (v : AV) (l r : CT)

structure E1 where
  f0 : AV
  f1 : AV
  f2 : AV
  f3 : AV
  f4 : AV
  f5 : AV
  f6 : AV
  f7 : AV
  f8 : AV
  f9 : AV
  f10 : AV
  f11 : AV
  f12 : AV
  f13 : AV
  f14 : AV
  f15 : AV

structure E2 where
  g0 : E1
  g1 : E1
  g2 : E1
  g3 : E1
  g4 : E1
  g5 : E1
  g6 : E1
  g7 : E1
  g8 : E1
  g9 : E1
  g10 : E1
  g11 : E1
  g12 : E1
  g13 : E1
  g14 : E1
  g15 : E1
  g16 : E1
  g17 : E1
  g18 : E1
  g19 : E1

/-- the temporaries: those of the region at work, the last one first, and the others -/
structure Env where
  loc : List AV
  far : E2


inductive AObj where
  | none
  /-- kd: 0 a block of its own, 1 growable (fam: its family's record), 2 read-only -/
  | cells (n : Nat) (c : CT) (kd : Nat) (fam : Nat)
  | fam (owner floor tip : Nat)
  /-- sh: what its keys look like -/
  | map (sh : Nat) (es : List (AV × AV))
  | dfr
  /-- st: 0 ready, 1 busy, 2 done, 3 exhausted; pend: 0 none, 1 ret, 2 exit pid -/
  | loop (st : Nat) (pend : Nat) (pid : Nat) (env : Env) (site : Nat) (dfr : Nat)

/-- full binary trees -/
inductive HT where
  | leaf (o : AObj)
  | nd (l r : HT)

inductive Heap where
  | mk (next : Nat) (t : HT)

inductive Out where
  | bad
  | nrm (e : Env) (h : Heap)
  | ext (i : Nat) (e : Env) (h : Heap)
  | ret (e : Env) (h : Heap)
  | val (v : AV) (h : Heap)

/-! eliminators, each at one type -/
def bo (b : Bool) (t f : Out) : Out := Bool.rec (motive := fun _ => Out) f t b
def bb (b t f : Bool) : Bool := Bool.rec (motive := fun _ => Bool) f t b
def notB (b : Bool) : Bool := Bool.rec (motive := fun _ => Bool) true false b
def bn (b : Bool) (t f : Nat) : Nat := Bool.rec (motive := fun _ => Nat) f t b
def bi (b : Bool) (t f : Int) : Int := Bool.rec (motive := fun _ => Int) f t b
def bv (b : Bool) (t f : AV) : AV := Bool.rec (motive := fun _ => AV) f t b
def bl (b : Bool) (t f : List AV) : List AV := Bool.rec (motive := fun _ => List AV) f t b
def bct (b : Bool) (t f : CT) : CT := Bool.rec (motive := fun _ => CT) f t b
def bht (b : Bool) (t f : HT) : HT := Bool.rec (motive := fun _ => HT) f t b
def bob (b : Bool) (t f : AObj) : AObj := Bool.rec (motive := fun _ => AObj) f t b

/-- every other element, from the first (second) on -/
def evn (l : List AV) : Bool → List AV := @List.rec AV (fun _ => Bool → List AV) (fun _ => []) (fun v _ ih b => bl b (v :: ih false) (ih true)) l
namespace CT
def get (t : CT) : Nat → AV :=
  @CT.rec (fun _ => Nat → AV) (fun _ => .und)
    (fun v _ _ ihl ihr n => bv (Nat.beq n 0) v (bv (Nat.beq (Nat.mod n 2) 1) (ihl (Nat.div n 2)) (ihr (Nat.sub (Nat.div n 2) 1)))) t
def set (t : CT) : Nat → AV → CT :=
  @CT.rec (fun _ => Nat → AV → CT) (fun _ _ => lf)
    (fun v l r ihl ihr n x => bct (Nat.beq n 0) (nd x l r) (bct (Nat.beq (Nat.mod n 2) 1) (nd v (ihl (Nat.div n 2) x) r) (nd v l (ihr (Nat.sub (Nat.div n 2) 1) x)))) t
def ofL (d : Nat) : List AV → CT :=
  @Nat.rec (fun _ => List AV → CT) (fun _ => lf) (fun _ ih l => @List.rec AV (fun _ => CT) lf (fun v r _ => nd v (ih (evn r true)) (ih (evn r false))) l) d
end CT
namespace HT
def get (t : HT) : Nat → AObj :=
  @HT.rec (fun _ => Nat → AObj) (fun o _ => o) (fun _ _ ihl ihr n => bob (Nat.beq (Nat.mod n 2) 0) (ihl (Nat.div n 2)) (ihr (Nat.div n 2))) t
def set (t : HT) : Nat → AObj → HT :=
  @HT.rec (fun _ => Nat → AObj → HT) (fun _ _ x => leaf x) (fun l r ihl ihr n x => bht (Nat.beq (Nat.mod n 2) 0) (nd (ihl (Nat.div n 2) x) r) (nd l (ihr (Nat.div n 2) x))) t
def full (d : Nat) : HT := @Nat.rec (fun _ => HT) (leaf .none) (fun _ t => nd t t) d
end HT

namespace AV
def onInt (v : AV) (f : Nat → Int → Out) (d : Out) : Out :=
  @AV.rec (fun _ => Out) (fun _ => Out) f (fun _ => d) (fun _ _ => d) (fun _ _ => d) (fun _ _ _ _ _ => d) (fun _ _ _ _ _ _ => d) d (fun _ _ _ _ => d) v
def onBool (v : AV) (f : Bool → Out) (d : Out) : Out :=
  @AV.rec (fun _ => Out) (fun _ => Out) (fun _ _ => d) f (fun _ _ => d) (fun _ _ => d) (fun _ _ _ _ _ => d) (fun _ _ _ _ _ _ => d) d (fun _ _ _ _ => d) v
def onStr (v : AV) (f : Nat → Nat → Out) (d : Out) : Out :=
  @AV.rec (fun _ => Out) (fun _ => Out) (fun _ _ => d) (fun _ => d) f (fun _ _ => d) (fun _ _ _ _ _ => d) (fun _ _ _ _ _ _ => d) d (fun _ _ _ _ => d) v
def onPtr (v : AV) (f : Nat → Nat → Out) (d : Out) : Out :=
  @AV.rec (fun _ => Out) (fun _ => Out) (fun _ _ => d) (fun _ => d) (fun _ _ => d) f (fun _ _ _ _ _ => d) (fun _ _ _ _ _ _ => d) d (fun _ _ _ _ => d) v
def onSl (v : AV) (f : Nat → Nat → Nat → Nat → Bool → Out) (nl : Out) (d : Out) : Out :=
  @AV.rec (fun _ => Out) (fun _ => Out) (fun _ _ => d) (fun _ => d) (fun _ _ => d) (fun _ _ => d) f (fun t _ _ _ _ _ => bo (Nat.beq t 1) nl d) d (fun _ _ _ _ => d) v
def onOth (v : AV) (f : Nat → Nat → List AV → List AV → Out) (d : Out) : Out :=
  @AV.rec (fun _ => Out) (fun _ => Out) (fun _ _ => d) (fun _ => d) (fun _ _ => d) (fun _ _ => d) (fun _ _ _ _ _ => d) (fun t a l m _ _ => f t a l m) d (fun _ _ _ _ => d) v
def onNilable (v : AV) (f d : Out) : Out :=
  @AV.rec (fun _ => Out) (fun _ => Out) (fun _ _ => d) (fun _ => d) (fun _ _ => d) (fun _ _ => f) (fun _ _ _ _ _ => d) (fun t _ _ _ _ _ => bo (bb (Nat.beq t 4) true (Nat.beq t 5)) f d) d (fun _ _ _ _ => d) v
def cells (v : AV)  : List AV :=
  @AV.rec (fun _ => List AV) (fun _ => List AV) (fun _ _ => [v]) (fun _ => [v]) (fun _ _ => [v]) (fun _ _ => [v]) (fun _ _ _ _ _ => [v]) (fun t _ l _ _ _ => bl (Nat.beq t 7) l (bl (Nat.beq t 9) [] [v])) [] (fun _ _ _ _ => []) v
def intB (v : AV) (f : Nat → Int → Bool) : Bool :=
  @AV.rec (fun _ => Bool) (fun _ => Bool) f (fun _ => false) (fun _ _ => false) (fun _ _ => false) (fun _ _ _ _ _ => false) (fun _ _ _ _ _ _ => false) false (fun _ _ _ _ => false) v
def boolB (v : AV) (f : Bool → Bool) : Bool :=
  @AV.rec (fun _ => Bool) (fun _ => Bool) (fun _ _ => false) f (fun _ _ => false) (fun _ _ => false) (fun _ _ _ _ _ => false) (fun _ _ _ _ _ _ => false) false (fun _ _ _ _ => false) v
def strB (v : AV) (f : Nat → Nat → Bool) : Bool :=
  @AV.rec (fun _ => Bool) (fun _ => Bool) (fun _ _ => false) (fun _ => false) f (fun _ _ => false) (fun _ _ _ _ _ => false) (fun _ _ _ _ _ _ => false) false (fun _ _ _ _ => false) v
def ptrB (v : AV) (f : Nat → Nat → Bool) : Bool :=
  @AV.rec (fun _ => Bool) (fun _ => Bool) (fun _ _ => false) (fun _ => false) (fun _ _ => false) f (fun _ _ _ _ _ => false) (fun _ _ _ _ _ _ => false) false (fun _ _ _ _ => false) v
def slB (v : AV) (f : Nat → Nat → Nat → Nat → Bool → Bool) : Bool :=
  @AV.rec (fun _ => Bool) (fun _ => Bool) (fun _ _ => false) (fun _ => false) (fun _ _ => false) (fun _ _ => false) f (fun _ _ _ _ _ _ => false) false (fun _ _ _ _ => false) v
def othB (v : AV) (f : Nat → Nat → List AV → List AV → Bool) : Bool :=
  @AV.rec (fun _ => Bool) (fun _ => Bool) (fun _ _ => false) (fun _ => false) (fun _ _ => false) (fun _ _ => false) (fun _ _ _ _ _ => false) (fun t a l m _ _ => f t a l m) false (fun _ _ _ _ => false) v
def onTag (v : AV) (tag : Nat) (f : Nat → List AV → List AV → Out) (d : Out) : Out := v.onOth (fun t a l m => bo (Nat.beq t tag) (f a l m) d) d
end AV

def onCells (o : AObj) (f : Nat → CT → Nat → Nat → Out) (d : Out) : Out :=
  @AObj.rec (fun _ => Out) d f (fun _ _ _ => d) (fun _ _ => d) d (fun _ _ _ _ _ _ => d) o
def onMapO (o : AObj) (f : Nat → List (AV × AV) → Out) (d : Out) : Out :=
  @AObj.rec (fun _ => Out) d (fun _ _ _ _ => d) (fun _ _ _ => d) f d (fun _ _ _ _ _ _ => d) o
def onFam (o : AObj) (f : Nat → Nat → Nat → Out) (d : Out) : Out :=
  @AObj.rec (fun _ => Out) d (fun _ _ _ _ => d) f (fun _ _ => d) d (fun _ _ _ _ _ _ => d) o
def onLoop (o : AObj) (f : Nat → Nat → Nat → Env → Nat → Nat → Out) (d : Out) : Out :=
  @AObj.rec (fun _ => Out) d (fun _ _ _ _ => d) (fun _ _ _ => d) (fun _ _ => d) d f o
def HD : Nat := 18
def HCAP : Nat := 262144
namespace Heap
def on (h : Heap) (f : Nat → HT → Out) : Out := @Heap.rec (fun _ => Out) f h
def tr (h : Heap) : HT := @Heap.rec (fun _ => HT) (fun _ t => t) h
def get (h : Heap) (b : Nat) : AObj := h.tr.get b
def upd (h : Heap) (b : Nat) (o : AObj) (k : Heap → Out) : Out := h.on fun n t => k (.mk n (t.set b o))
def new (h : Heap) (o : AObj) (k : Nat → Heap → Out) : Out := h.on fun n t => bo (Nat.blt n 262143) (k n (.mk (Nat.add n 1) (t.set n o))) .bad
end Heap
def onI (a : Int) (f : Nat → Out) (g : Nat → Out) : Out := @Int.rec (fun _ => Out) f g a
def iB (a : Int) (f : Nat → Bool) (g : Nat → Bool) : Bool := @Int.rec (fun _ => Bool) f g a
def iI (a : Int) (f : Nat → Int) (g : Nat → Int) : Int := @Int.rec (fun _ => Int) f g a
end
end Dv
namespace Dv
noncomputable section
abbrev Rd := Env → AV
abbrev Wr := AV → Env → Env
def hdL (l : List AV) : AV := @List.rec AV (fun _ => AV) .und (fun v _ _ => v) l
def tlL (l : List AV) : List AV := @List.rec AV (fun _ => List AV) [] (fun _ r _ => r) l
def farW (f : AV → E2 → E2) : Wr := fun v e => @Env.rec (fun _ => Env) (fun l g => ⟨l, f v g⟩) e
/-- a local of the region -/
def wL0 : Wr := fun v e => @Env.rec (fun _ => Env) (fun l g => ⟨v :: l, g⟩) e
def wN : Wr := fun _ e => e
def lo0 : Rd := fun e => hdL (e.loc)
def lo1 : Rd := fun e => hdL (tlL e.loc)
def lo2 : Rd := fun e => hdL (tlL (tlL e.loc))
def lo3 : Rd := fun e => hdL (tlL (tlL (tlL e.loc)))
def lo4 : Rd := fun e => hdL (tlL (tlL (tlL (tlL e.loc))))
def lo5 : Rd := fun e => hdL (tlL (tlL (tlL (tlL (tlL e.loc)))))
def lo6 : Rd := fun e => hdL (tlL (tlL (tlL (tlL (tlL (tlL e.loc))))))
def lo7 : Rd := fun e => hdL (tlL (tlL (tlL (tlL (tlL (tlL (tlL e.loc)))))))
def lo8 : Rd := fun e => hdL (tlL (tlL (tlL (tlL (tlL (tlL (tlL (tlL e.loc))))))))
def lo9 : Rd := fun e => hdL (tlL (tlL (tlL (tlL (tlL (tlL (tlL (tlL (tlL e.loc)))))))))
def lo10 : Rd := fun e => hdL (tlL (tlL (tlL (tlL (tlL (tlL (tlL (tlL (tlL (tlL e.loc))))))))))
def lo11 : Rd := fun e => hdL (tlL (tlL (tlL (tlL (tlL (tlL (tlL (tlL (tlL (tlL (tlL e.loc)))))))))))
def lo12 : Rd := fun e => hdL (tlL (tlL (tlL (tlL (tlL (tlL (tlL (tlL (tlL (tlL (tlL (tlL e.loc))))))))))))
def lo13 : Rd := fun e => hdL (tlL (tlL (tlL (tlL (tlL (tlL (tlL (tlL (tlL (tlL (tlL (tlL (tlL e.loc)))))))))))))
def lo14 : Rd := fun e => hdL (tlL (tlL (tlL (tlL (tlL (tlL (tlL (tlL (tlL (tlL (tlL (tlL (tlL (tlL e.loc))))))))))))))
def lo15 : Rd := fun e => hdL (tlL (tlL (tlL (tlL (tlL (tlL (tlL (tlL (tlL (tlL (tlL (tlL (tlL (tlL (tlL e.loc)))))))))))))))
def lo16 : Rd := fun e => hdL (tlL (tlL (tlL (tlL (tlL (tlL (tlL (tlL (tlL (tlL (tlL (tlL (tlL (tlL (tlL (tlL e.loc))))))))))))))))
def lo17 : Rd := fun e => hdL (tlL (tlL (tlL (tlL (tlL (tlL (tlL (tlL (tlL (tlL (tlL (tlL (tlL (tlL (tlL (tlL (tlL e.loc)))))))))))))))))
def lo18 : Rd := fun e => hdL (tlL (tlL (tlL (tlL (tlL (tlL (tlL (tlL (tlL (tlL (tlL (tlL (tlL (tlL (tlL (tlL (tlL (tlL e.loc))))))))))))))))))
def lo19 : Rd := fun e => hdL (tlL (tlL (tlL (tlL (tlL (tlL (tlL (tlL (tlL (tlL (tlL (tlL (tlL (tlL (tlL (tlL (tlL (tlL (tlL e.loc)))))))))))))))))))
def lo20 : Rd := fun e => hdL (tlL (tlL (tlL (tlL (tlL (tlL (tlL (tlL (tlL (tlL (tlL (tlL (tlL (tlL (tlL (tlL (tlL (tlL (tlL (tlL e.loc))))))))))))))))))))
def lo21 : Rd := fun e => hdL (tlL (tlL (tlL (tlL (tlL (tlL (tlL (tlL (tlL (tlL (tlL (tlL (tlL (tlL (tlL (tlL (tlL (tlL (tlL (tlL (tlL e.loc)))))))))))))))))))))
def lo22 : Rd := fun e => hdL (tlL (tlL (tlL (tlL (tlL (tlL (tlL (tlL (tlL (tlL (tlL (tlL (tlL (tlL (tlL (tlL (tlL (tlL (tlL (tlL (tlL (tlL e.loc))))))))))))))))))))))
def lo23 : Rd := fun e => hdL (tlL (tlL (tlL (tlL (tlL (tlL (tlL (tlL (tlL (tlL (tlL (tlL (tlL (tlL (tlL (tlL (tlL (tlL (tlL (tlL (tlL (tlL (tlL e.loc)))))))))))))))))))))))
def lo24 : Rd := fun e => hdL (tlL (tlL (tlL (tlL (tlL (tlL (tlL (tlL (tlL (tlL (tlL (tlL (tlL (tlL (tlL (tlL (tlL (tlL (tlL (tlL (tlL (tlL (tlL (tlL e.loc))))))))))))))))))))))))
def lo25 : Rd := fun e => hdL (tlL (tlL (tlL (tlL (tlL (tlL (tlL (tlL (tlL (tlL (tlL (tlL (tlL (tlL (tlL (tlL (tlL (tlL (tlL (tlL (tlL (tlL (tlL (tlL (tlL e.loc)))))))))))))))))))))))))
def lo26 : Rd := fun e => hdL (tlL (tlL (tlL (tlL (tlL (tlL (tlL (tlL (tlL (tlL (tlL (tlL (tlL (tlL (tlL (tlL (tlL (tlL (tlL (tlL (tlL (tlL (tlL (tlL (tlL (tlL e.loc))))))))))))))))))))))))))
def lo27 : Rd := fun e => hdL (tlL (tlL (tlL (tlL (tlL (tlL (tlL (tlL (tlL (tlL (tlL (tlL (tlL (tlL (tlL (tlL (tlL (tlL (tlL (tlL (tlL (tlL (tlL (tlL (tlL (tlL (tlL e.loc)))))))))))))))))))))))))))
def lo28 : Rd := fun e => hdL (tlL (tlL (tlL (tlL (tlL (tlL (tlL (tlL (tlL (tlL (tlL (tlL (tlL (tlL (tlL (tlL (tlL (tlL (tlL (tlL (tlL (tlL (tlL (tlL (tlL (tlL (tlL (tlL e.loc))))))))))))))))))))))))))))
def lo29 : Rd := fun e => hdL (tlL (tlL (tlL (tlL (tlL (tlL (tlL (tlL (tlL (tlL (tlL (tlL (tlL (tlL (tlL (tlL (tlL (tlL (tlL (tlL (tlL (tlL (tlL (tlL (tlL (tlL (tlL (tlL (tlL e.loc)))))))))))))))))))))))))))))
def lo30 : Rd := fun e => hdL (tlL (tlL (tlL (tlL (tlL (tlL (tlL (tlL (tlL (tlL (tlL (tlL (tlL (tlL (tlL (tlL (tlL (tlL (tlL (tlL (tlL (tlL (tlL (tlL (tlL (tlL (tlL (tlL (tlL (tlL e.loc))))))))))))))))))))))))))))))
def lo31 : Rd := fun e => hdL (tlL (tlL (tlL (tlL (tlL (tlL (tlL (tlL (tlL (tlL (tlL (tlL (tlL (tlL (tlL (tlL (tlL (tlL (tlL (tlL (tlL (tlL (tlL (tlL (tlL (tlL (tlL (tlL (tlL (tlL (tlL e.loc)))))))))))))))))))))))))))))))
def lo32 : Rd := fun e => hdL (tlL (tlL (tlL (tlL (tlL (tlL (tlL (tlL (tlL (tlL (tlL (tlL (tlL (tlL (tlL (tlL (tlL (tlL (tlL (tlL (tlL (tlL (tlL (tlL (tlL (tlL (tlL (tlL (tlL (tlL (tlL (tlL e.loc))))))))))))))))))))))))))))))))
def lo33 : Rd := fun e => hdL (tlL (tlL (tlL (tlL (tlL (tlL (tlL (tlL (tlL (tlL (tlL (tlL (tlL (tlL (tlL (tlL (tlL (tlL (tlL (tlL (tlL (tlL (tlL (tlL (tlL (tlL (tlL (tlL (tlL (tlL (tlL (tlL (tlL e.loc)))))))))))))))))))))))))))))))))
def lo34 : Rd := fun e => hdL (tlL (tlL (tlL (tlL (tlL (tlL (tlL (tlL (tlL (tlL (tlL (tlL (tlL (tlL (tlL (tlL (tlL (tlL (tlL (tlL (tlL (tlL (tlL (tlL (tlL (tlL (tlL (tlL (tlL (tlL (tlL (tlL (tlL (tlL e.loc))))))))))))))))))))))))))))))))))
def lo35 : Rd := fun e => hdL (tlL (tlL (tlL (tlL (tlL (tlL (tlL (tlL (tlL (tlL (tlL (tlL (tlL (tlL (tlL (tlL (tlL (tlL (tlL (tlL (tlL (tlL (tlL (tlL (tlL (tlL (tlL (tlL (tlL (tlL (tlL (tlL (tlL (tlL (tlL e.loc)))))))))))))))))))))))))))))))))))
def lo36 : Rd := fun e => hdL (tlL (tlL (tlL (tlL (tlL (tlL (tlL (tlL (tlL (tlL (tlL (tlL (tlL (tlL (tlL (tlL (tlL (tlL (tlL (tlL (tlL (tlL (tlL (tlL (tlL (tlL (tlL (tlL (tlL (tlL (tlL (tlL (tlL (tlL (tlL (tlL e.loc))))))))))))))))))))))))))))))))))))
def lo37 : Rd := fun e => hdL (tlL (tlL (tlL (tlL (tlL (tlL (tlL (tlL (tlL (tlL (tlL (tlL (tlL (tlL (tlL (tlL (tlL (tlL (tlL (tlL (tlL (tlL (tlL (tlL (tlL (tlL (tlL (tlL (tlL (tlL (tlL (tlL (tlL (tlL (tlL (tlL (tlL e.loc)))))))))))))))))))))))))))))))))))))
def lo38 : Rd := fun e => hdL (tlL (tlL (tlL (tlL (tlL (tlL (tlL (tlL (tlL (tlL (tlL (tlL (tlL (tlL (tlL (tlL (tlL (tlL (tlL (tlL (tlL (tlL (tlL (tlL (tlL (tlL (tlL (tlL (tlL (tlL (tlL (tlL (tlL (tlL (tlL (tlL (tlL (tlL e.loc))))))))))))))))))))))))))))))))))))))
def lo39 : Rd := fun e => hdL (tlL (tlL (tlL (tlL (tlL (tlL (tlL (tlL (tlL (tlL (tlL (tlL (tlL (tlL (tlL (tlL (tlL (tlL (tlL (tlL (tlL (tlL (tlL (tlL (tlL (tlL (tlL (tlL (tlL (tlL (tlL (tlL (tlL (tlL (tlL (tlL (tlL (tlL (tlL e.loc)))))))))))))))))))))))))))))))))))))))
def lo40 : Rd := fun e => hdL (tlL (tlL (tlL (tlL (tlL (tlL (tlL (tlL (tlL (tlL (tlL (tlL (tlL (tlL (tlL (tlL (tlL (tlL (tlL (tlL (tlL (tlL (tlL (tlL (tlL (tlL (tlL (tlL (tlL (tlL (tlL (tlL (tlL (tlL (tlL (tlL (tlL (tlL (tlL (tlL e.loc))))))))))))))))))))))))))))))))))))))))
def lo41 : Rd := fun e => hdL (tlL (tlL (tlL (tlL (tlL (tlL (tlL (tlL (tlL (tlL (tlL (tlL (tlL (tlL (tlL (tlL (tlL (tlL (tlL (tlL (tlL (tlL (tlL (tlL (tlL (tlL (tlL (tlL (tlL (tlL (tlL (tlL (tlL (tlL (tlL (tlL (tlL (tlL (tlL (tlL (tlL e.loc)))))))))))))))))))))))))))))))))))))))))
def lo42 : Rd := fun e => hdL (tlL (tlL (tlL (tlL (tlL (tlL (tlL (tlL (tlL (tlL (tlL (tlL (tlL (tlL (tlL (tlL (tlL (tlL (tlL (tlL (tlL (tlL (tlL (tlL (tlL (tlL (tlL (tlL (tlL (tlL (tlL (tlL (tlL (tlL (tlL (tlL (tlL (tlL (tlL (tlL (tlL (tlL e.loc))))))))))))))))))))))))))))))))))))))))))
def lo43 : Rd := fun e => hdL (tlL (tlL (tlL (tlL (tlL (tlL (tlL (tlL (tlL (tlL (tlL (tlL (tlL (tlL (tlL (tlL (tlL (tlL (tlL (tlL (tlL (tlL (tlL (tlL (tlL (tlL (tlL (tlL (tlL (tlL (tlL (tlL (tlL (tlL (tlL (tlL (tlL (tlL (tlL (tlL (tlL (tlL (tlL e.loc)))))))))))))))))))))))))))))))))))))))))))
def lo44 : Rd := fun e => hdL (tlL (tlL (tlL (tlL (tlL (tlL (tlL (tlL (tlL (tlL (tlL (tlL (tlL (tlL (tlL (tlL (tlL (tlL (tlL (tlL (tlL (tlL (tlL (tlL (tlL (tlL (tlL (tlL (tlL (tlL (tlL (tlL (tlL (tlL (tlL (tlL (tlL (tlL (tlL (tlL (tlL (tlL (tlL (tlL e.loc))))))))))))))))))))))))))))))))))))))))))))
def lo45 : Rd := fun e => hdL (tlL (tlL (tlL (tlL (tlL (tlL (tlL (tlL (tlL (tlL (tlL (tlL (tlL (tlL (tlL (tlL (tlL (tlL (tlL (tlL (tlL (tlL (tlL (tlL (tlL (tlL (tlL (tlL (tlL (tlL (tlL (tlL (tlL (tlL (tlL (tlL (tlL (tlL (tlL (tlL (tlL (tlL (tlL (tlL (tlL e.loc)))))))))))))))))))))))))))))))))))))))))))))
def lo46 : Rd := fun e => hdL (tlL (tlL (tlL (tlL (tlL (tlL (tlL (tlL (tlL (tlL (tlL (tlL (tlL (tlL (tlL (tlL (tlL (tlL (tlL (tlL (tlL (tlL (tlL (tlL (tlL (tlL (tlL (tlL (tlL (tlL (tlL (tlL (tlL (tlL (tlL (tlL (tlL (tlL (tlL (tlL (tlL (tlL (tlL (tlL (tlL (tlL e.loc))))))))))))))))))))))))))))))))))))))))))))))
def lo47 : Rd := fun e => hdL (tlL (tlL (tlL (tlL (tlL (tlL (tlL (tlL (tlL (tlL (tlL (tlL (tlL (tlL (tlL (tlL (tlL (tlL (tlL (tlL (tlL (tlL (tlL (tlL (tlL (tlL (tlL (tlL (tlL (tlL (tlL (tlL (tlL (tlL (tlL (tlL (tlL (tlL (tlL (tlL (tlL (tlL (tlL (tlL (tlL (tlL (tlL e.loc)))))))))))))))))))))))))))))))))))))))))))))))
def lo48 : Rd := fun e => hdL (tlL (tlL (tlL (tlL (tlL (tlL (tlL (tlL (tlL (tlL (tlL (tlL (tlL (tlL (tlL (tlL (tlL (tlL (tlL (tlL (tlL (tlL (tlL (tlL (tlL (tlL (tlL (tlL (tlL (tlL (tlL (tlL (tlL (tlL (tlL (tlL (tlL (tlL (tlL (tlL (tlL (tlL (tlL (tlL (tlL (tlL (tlL (tlL e.loc))))))))))))))))))))))))))))))))))))))))))))))))
def lo49 : Rd := fun e => hdL (tlL (tlL (tlL (tlL (tlL (tlL (tlL (tlL (tlL (tlL (tlL (tlL (tlL (tlL (tlL (tlL (tlL (tlL (tlL (tlL (tlL (tlL (tlL (tlL (tlL (tlL (tlL (tlL (tlL (tlL (tlL (tlL (tlL (tlL (tlL (tlL (tlL (tlL (tlL (tlL (tlL (tlL (tlL (tlL (tlL (tlL (tlL (tlL (tlL e.loc)))))))))))))))))))))))))))))))))))))))))))))))))
def lo50 : Rd := fun e => hdL (tlL (tlL (tlL (tlL (tlL (tlL (tlL (tlL (tlL (tlL (tlL (tlL (tlL (tlL (tlL (tlL (tlL (tlL (tlL (tlL (tlL (tlL (tlL (tlL (tlL (tlL (tlL (tlL (tlL (tlL (tlL (tlL (tlL (tlL (tlL (tlL (tlL (tlL (tlL (tlL (tlL (tlL (tlL (tlL (tlL (tlL (tlL (tlL (tlL (tlL e.loc))))))))))))))))))))))))))))))))))))))))))))))))))
def lo51 : Rd := fun e => hdL (tlL (tlL (tlL (tlL (tlL (tlL (tlL (tlL (tlL (tlL (tlL (tlL (tlL (tlL (tlL (tlL (tlL (tlL (tlL (tlL (tlL (tlL (tlL (tlL (tlL (tlL (tlL (tlL (tlL (tlL (tlL (tlL (tlL (tlL (tlL (tlL (tlL (tlL (tlL (tlL (tlL (tlL (tlL (tlL (tlL (tlL (tlL (tlL (tlL (tlL (tlL e.loc)))))))))))))))))))))))))))))))))))))))))))))))))))
def lo52 : Rd := fun e => hdL (tlL (tlL (tlL (tlL (tlL (tlL (tlL (tlL (tlL (tlL (tlL (tlL (tlL (tlL (tlL (tlL (tlL (tlL (tlL (tlL (tlL (tlL (tlL (tlL (tlL (tlL (tlL (tlL (tlL (tlL (tlL (tlL (tlL (tlL (tlL (tlL (tlL (tlL (tlL (tlL (tlL (tlL (tlL (tlL (tlL (tlL (tlL (tlL (tlL (tlL (tlL (tlL e.loc))))))))))))))))))))))))))))))))))))))))))))))))))))
def lo53 : Rd := fun e => hdL (tlL (tlL (tlL (tlL (tlL (tlL (tlL (tlL (tlL (tlL (tlL (tlL (tlL (tlL (tlL (tlL (tlL (tlL (tlL (tlL (tlL (tlL (tlL (tlL (tlL (tlL (tlL (tlL (tlL (tlL (tlL (tlL (tlL (tlL (tlL (tlL (tlL (tlL (tlL (tlL (tlL (tlL (tlL (tlL (tlL (tlL (tlL (tlL (tlL (tlL (tlL (tlL (tlL e.loc)))))))))))))))))))))))))))))))))))))))))))))))))))))
def lo54 : Rd := fun e => hdL (tlL (tlL (tlL (tlL (tlL (tlL (tlL (tlL (tlL (tlL (tlL (tlL (tlL (tlL (tlL (tlL (tlL (tlL (tlL (tlL (tlL (tlL (tlL (tlL (tlL (tlL (tlL (tlL (tlL (tlL (tlL (tlL (tlL (tlL (tlL (tlL (tlL (tlL (tlL (tlL (tlL (tlL (tlL (tlL (tlL (tlL (tlL (tlL (tlL (tlL (tlL (tlL (tlL (tlL e.loc))))))))))))))))))))))))))))))))))))))))))))))))))))))
def lo55 : Rd := fun e => hdL (tlL (tlL (tlL (tlL (tlL (tlL (tlL (tlL (tlL (tlL (tlL (tlL (tlL (tlL (tlL (tlL (tlL (tlL (tlL (tlL (tlL (tlL (tlL (tlL (tlL (tlL (tlL (tlL (tlL (tlL (tlL (tlL (tlL (tlL (tlL (tlL (tlL (tlL (tlL (tlL (tlL (tlL (tlL (tlL (tlL (tlL (tlL (tlL (tlL (tlL (tlL (tlL (tlL (tlL (tlL e.loc)))))))))))))))))))))))))))))))))))))))))))))))))))))))
def lo56 : Rd := fun e => hdL (tlL (tlL (tlL (tlL (tlL (tlL (tlL (tlL (tlL (tlL (tlL (tlL (tlL (tlL (tlL (tlL (tlL (tlL (tlL (tlL (tlL (tlL (tlL (tlL (tlL (tlL (tlL (tlL (tlL (tlL (tlL (tlL (tlL (tlL (tlL (tlL (tlL (tlL (tlL (tlL (tlL (tlL (tlL (tlL (tlL (tlL (tlL (tlL (tlL (tlL (tlL (tlL (tlL (tlL (tlL (tlL e.loc))))))))))))))))))))))))))))))))))))))))))))))))))))))))
def lo57 : Rd := fun e => hdL (tlL (tlL (tlL (tlL (tlL (tlL (tlL (tlL (tlL (tlL (tlL (tlL (tlL (tlL (tlL (tlL (tlL (tlL (tlL (tlL (tlL (tlL (tlL (tlL (tlL (tlL (tlL (tlL (tlL (tlL (tlL (tlL (tlL (tlL (tlL (tlL (tlL (tlL (tlL (tlL (tlL (tlL (tlL (tlL (tlL (tlL (tlL (tlL (tlL (tlL (tlL (tlL (tlL (tlL (tlL (tlL (tlL e.loc)))))))))))))))))))))))))))))))))))))))))))))))))))))))))
def lo58 : Rd := fun e => hdL (tlL (tlL (tlL (tlL (tlL (tlL (tlL (tlL (tlL (tlL (tlL (tlL (tlL (tlL (tlL (tlL (tlL (tlL (tlL (tlL (tlL (tlL (tlL (tlL (tlL (tlL (tlL (tlL (tlL (tlL (tlL (tlL (tlL (tlL (tlL (tlL (tlL (tlL (tlL (tlL (tlL (tlL (tlL (tlL (tlL (tlL (tlL (tlL (tlL (tlL (tlL (tlL (tlL (tlL (tlL (tlL (tlL (tlL e.loc))))))))))))))))))))))))))))))))))))))))))))))))))))))))))
def lo59 : Rd := fun e => hdL (tlL (tlL (tlL (tlL (tlL (tlL (tlL (tlL (tlL (tlL (tlL (tlL (tlL (tlL (tlL (tlL (tlL (tlL (tlL (tlL (tlL (tlL (tlL (tlL (tlL (tlL (tlL (tlL (tlL (tlL (tlL (tlL (tlL (tlL (tlL (tlL (tlL (tlL (tlL (tlL (tlL (tlL (tlL (tlL (tlL (tlL (tlL (tlL (tlL (tlL (tlL (tlL (tlL (tlL (tlL (tlL (tlL (tlL (tlL e.loc)))))))))))))))))))))))))))))))))))))))))))))))))))))))))))
def lo60 : Rd := fun e => hdL (tlL (tlL (tlL (tlL (tlL (tlL (tlL (tlL (tlL (tlL (tlL (tlL (tlL (tlL (tlL (tlL (tlL (tlL (tlL (tlL (tlL (tlL (tlL (tlL (tlL (tlL (tlL (tlL (tlL (tlL (tlL (tlL (tlL (tlL (tlL (tlL (tlL (tlL (tlL (tlL (tlL (tlL (tlL (tlL (tlL (tlL (tlL (tlL (tlL (tlL (tlL (tlL (tlL (tlL (tlL (tlL (tlL (tlL (tlL (tlL e.loc))))))))))))))))))))))))))))))))))))))))))))))))))))))))))))
def lo61 : Rd := fun e => hdL (tlL (tlL (tlL (tlL (tlL (tlL (tlL (tlL (tlL (tlL (tlL (tlL (tlL (tlL (tlL (tlL (tlL (tlL (tlL (tlL (tlL (tlL (tlL (tlL (tlL (tlL (tlL (tlL (tlL (tlL (tlL (tlL (tlL (tlL (tlL (tlL (tlL (tlL (tlL (tlL (tlL (tlL (tlL (tlL (tlL (tlL (tlL (tlL (tlL (tlL (tlL (tlL (tlL (tlL (tlL (tlL (tlL (tlL (tlL (tlL (tlL e.loc)))))))))))))))))))))))))))))))))))))))))))))))))))))))))))))
def lo62 : Rd := fun e => hdL (tlL (tlL (tlL (tlL (tlL (tlL (tlL (tlL (tlL (tlL (tlL (tlL (tlL (tlL (tlL (tlL (tlL (tlL (tlL (tlL (tlL (tlL (tlL (tlL (tlL (tlL (tlL (tlL (tlL (tlL (tlL (tlL (tlL (tlL (tlL (tlL (tlL (tlL (tlL (tlL (tlL (tlL (tlL (tlL (tlL (tlL (tlL (tlL (tlL (tlL (tlL (tlL (tlL (tlL (tlL (tlL (tlL (tlL (tlL (tlL (tlL (tlL e.loc))))))))))))))))))))))))))))))))))))))))))))))))))))))))))))))
def lo63 : Rd := fun e => hdL (tlL (tlL (tlL (tlL (tlL (tlL (tlL (tlL (tlL (tlL (tlL (tlL (tlL (tlL (tlL (tlL (tlL (tlL (tlL (tlL (tlL (tlL (tlL (tlL (tlL (tlL (tlL (tlL (tlL (tlL (tlL (tlL (tlL (tlL (tlL (tlL (tlL (tlL (tlL (tlL (tlL (tlL (tlL (tlL (tlL (tlL (tlL (tlL (tlL (tlL (tlL (tlL (tlL (tlL (tlL (tlL (tlL (tlL (tlL (tlL (tlL (tlL (tlL e.loc)))))))))))))))))))))))))))))))))))))))))))))))))))))))))))))))
def m1_0 (v : AV) (e : E1) : E1 := @E1.rec (fun _ => E1) (fun _ x1 x2 x3 x4 x5 x6 x7 x8 x9 x10 x11 x12 x13 x14 x15 => ⟨v, x1, x2, x3, x4, x5, x6, x7, x8, x9, x10, x11, x12, x13, x14, x15⟩) e
def m1_1 (v : AV) (e : E1) : E1 := @E1.rec (fun _ => E1) (fun x0 _ x2 x3 x4 x5 x6 x7 x8 x9 x10 x11 x12 x13 x14 x15 => ⟨x0, v, x2, x3, x4, x5, x6, x7, x8, x9, x10, x11, x12, x13, x14, x15⟩) e
def m1_2 (v : AV) (e : E1) : E1 := @E1.rec (fun _ => E1) (fun x0 x1 _ x3 x4 x5 x6 x7 x8 x9 x10 x11 x12 x13 x14 x15 => ⟨x0, x1, v, x3, x4, x5, x6, x7, x8, x9, x10, x11, x12, x13, x14, x15⟩) e
def m1_3 (v : AV) (e : E1) : E1 := @E1.rec (fun _ => E1) (fun x0 x1 x2 _ x4 x5 x6 x7 x8 x9 x10 x11 x12 x13 x14 x15 => ⟨x0, x1, x2, v, x4, x5, x6, x7, x8, x9, x10, x11, x12, x13, x14, x15⟩) e
def m1_4 (v : AV) (e : E1) : E1 := @E1.rec (fun _ => E1) (fun x0 x1 x2 x3 _ x5 x6 x7 x8 x9 x10 x11 x12 x13 x14 x15 => ⟨x0, x1, x2, x3, v, x5, x6, x7, x8, x9, x10, x11, x12, x13, x14, x15⟩) e
def m1_5 (v : AV) (e : E1) : E1 := @E1.rec (fun _ => E1) (fun x0 x1 x2 x3 x4 _ x6 x7 x8 x9 x10 x11 x12 x13 x14 x15 => ⟨x0, x1, x2, x3, x4, v, x6, x7, x8, x9, x10, x11, x12, x13, x14, x15⟩) e
def m1_6 (v : AV) (e : E1) : E1 := @E1.rec (fun _ => E1) (fun x0 x1 x2 x3 x4 x5 _ x7 x8 x9 x10 x11 x12 x13 x14 x15 => ⟨x0, x1, x2, x3, x4, x5, v, x7, x8, x9, x10, x11, x12, x13, x14, x15⟩) e
def m1_7 (v : AV) (e : E1) : E1 := @E1.rec (fun _ => E1) (fun x0 x1 x2 x3 x4 x5 x6 _ x8 x9 x10 x11 x12 x13 x14 x15 => ⟨x0, x1, x2, x3, x4, x5, x6, v, x8, x9, x10, x11, x12, x13, x14, x15⟩) e
def m1_8 (v : AV) (e : E1) : E1 := @E1.rec (fun _ => E1) (fun x0 x1 x2 x3 x4 x5 x6 x7 _ x9 x10 x11 x12 x13 x14 x15 => ⟨x0, x1, x2, x3, x4, x5, x6, x7, v, x9, x10, x11, x12, x13, x14, x15⟩) e
def m1_9 (v : AV) (e : E1) : E1 := @E1.rec (fun _ => E1) (fun x0 x1 x2 x3 x4 x5 x6 x7 x8 _ x10 x11 x12 x13 x14 x15 => ⟨x0, x1, x2, x3, x4, x5, x6, x7, x8, v, x10, x11, x12, x13, x14, x15⟩) e
def m1_10 (v : AV) (e : E1) : E1 := @E1.rec (fun _ => E1) (fun x0 x1 x2 x3 x4 x5 x6 x7 x8 x9 _ x11 x12 x13 x14 x15 => ⟨x0, x1, x2, x3, x4, x5, x6, x7, x8, x9, v, x11, x12, x13, x14, x15⟩) e
def m1_11 (v : AV) (e : E1) : E1 := @E1.rec (fun _ => E1) (fun x0 x1 x2 x3 x4 x5 x6 x7 x8 x9 x10 _ x12 x13 x14 x15 => ⟨x0, x1, x2, x3, x4, x5, x6, x7, x8, x9, x10, v, x12, x13, x14, x15⟩) e
def m1_12 (v : AV) (e : E1) : E1 := @E1.rec (fun _ => E1) (fun x0 x1 x2 x3 x4 x5 x6 x7 x8 x9 x10 x11 _ x13 x14 x15 => ⟨x0, x1, x2, x3, x4, x5, x6, x7, x8, x9, x10, x11, v, x13, x14, x15⟩) e
def m1_13 (v : AV) (e : E1) : E1 := @E1.rec (fun _ => E1) (fun x0 x1 x2 x3 x4 x5 x6 x7 x8 x9 x10 x11 x12 _ x14 x15 => ⟨x0, x1, x2, x3, x4, x5, x6, x7, x8, x9, x10, x11, x12, v, x14, x15⟩) e
def m1_14 (v : AV) (e : E1) : E1 := @E1.rec (fun _ => E1) (fun x0 x1 x2 x3 x4 x5 x6 x7 x8 x9 x10 x11 x12 x13 _ x15 => ⟨x0, x1, x2, x3, x4, x5, x6, x7, x8, x9, x10, x11, x12, x13, v, x15⟩) e
def m1_15 (v : AV) (e : E1) : E1 := @E1.rec (fun _ => E1) (fun x0 x1 x2 x3 x4 x5 x6 x7 x8 x9 x10 x11 x12 x13 x14 _ => ⟨x0, x1, x2, x3, x4, x5, x6, x7, x8, x9, x10, x11, x12, x13, x14, v⟩) e
def rd0 : Rd := fun e => e.far.g0.f0
def rd1 : Rd := fun e => e.far.g0.f1
def rd2 : Rd := fun e => e.far.g0.f2
def rd3 : Rd := fun e => e.far.g0.f3
def rd4 : Rd := fun e => e.far.g0.f4
def rd5 : Rd := fun e => e.far.g0.f5
def rd6 : Rd := fun e => e.far.g0.f6
def rd7 : Rd := fun e => e.far.g0.f7
def rd8 : Rd := fun e => e.far.g0.f8
def rd9 : Rd := fun e => e.far.g0.f9
def rd10 : Rd := fun e => e.far.g0.f10
def rd11 : Rd := fun e => e.far.g0.f11
def rd12 : Rd := fun e => e.far.g0.f12
def rd13 : Rd := fun e => e.far.g0.f13
def rd14 : Rd := fun e => e.far.g0.f14
def rd15 : Rd := fun e => e.far.g0.f15
def rd16 : Rd := fun e => e.far.g1.f0
def rd17 : Rd := fun e => e.far.g1.f1
def rd18 : Rd := fun e => e.far.g1.f2
def rd19 : Rd := fun e => e.far.g1.f3
def rd20 : Rd := fun e => e.far.g1.f4
def rd21 : Rd := fun e => e.far.g1.f5
def rd22 : Rd := fun e => e.far.g1.f6
def rd23 : Rd := fun e => e.far.g1.f7
def rd24 : Rd := fun e => e.far.g1.f8
def rd25 : Rd := fun e => e.far.g1.f9
def rd26 : Rd := fun e => e.far.g1.f10
def rd27 : Rd := fun e => e.far.g1.f11
def rd28 : Rd := fun e => e.far.g1.f12
def rd29 : Rd := fun e => e.far.g1.f13
def rd30 : Rd := fun e => e.far.g1.f14
def rd31 : Rd := fun e => e.far.g1.f15
def rd32 : Rd := fun e => e.far.g2.f0
def rd33 : Rd := fun e => e.far.g2.f1
def rd34 : Rd := fun e => e.far.g2.f2
def rd35 : Rd := fun e => e.far.g2.f3
def rd36 : Rd := fun e => e.far.g2.f4
def rd37 : Rd := fun e => e.far.g2.f5
def rd38 : Rd := fun e => e.far.g2.f6
def rd39 : Rd := fun e => e.far.g2.f7
def rd40 : Rd := fun e => e.far.g2.f8
def rd41 : Rd := fun e => e.far.g2.f9
def rd42 : Rd := fun e => e.far.g2.f10
def rd43 : Rd := fun e => e.far.g2.f11
def rd44 : Rd := fun e => e.far.g2.f12
def rd45 : Rd := fun e => e.far.g2.f13
def rd46 : Rd := fun e => e.far.g2.f14
def rd47 : Rd := fun e => e.far.g2.f15
def rd48 : Rd := fun e => e.far.g3.f0
def rd49 : Rd := fun e => e.far.g3.f1
def rd50 : Rd := fun e => e.far.g3.f2
def rd51 : Rd := fun e => e.far.g3.f3
def rd52 : Rd := fun e => e.far.g3.f4
def rd53 : Rd := fun e => e.far.g3.f5
def rd54 : Rd := fun e => e.far.g3.f6
def rd55 : Rd := fun e => e.far.g3.f7
def rd56 : Rd := fun e => e.far.g3.f8
def rd57 : Rd := fun e => e.far.g3.f9
def rd58 : Rd := fun e => e.far.g3.f10
def rd59 : Rd := fun e => e.far.g3.f11
def rd60 : Rd := fun e => e.far.g3.f12
def rd61 : Rd := fun e => e.far.g3.f13
def rd62 : Rd := fun e => e.far.g3.f14
def rd63 : Rd := fun e => e.far.g3.f15
def rd64 : Rd := fun e => e.far.g4.f0
def rd65 : Rd := fun e => e.far.g4.f1
def rd66 : Rd := fun e => e.far.g4.f2
def rd67 : Rd := fun e => e.far.g4.f3
def rd68 : Rd := fun e => e.far.g4.f4
def rd69 : Rd := fun e => e.far.g4.f5
def rd70 : Rd := fun e => e.far.g4.f6
def rd71 : Rd := fun e => e.far.g4.f7
def rd72 : Rd := fun e => e.far.g4.f8
def rd73 : Rd := fun e => e.far.g4.f9
def rd74 : Rd := fun e => e.far.g4.f10
def rd75 : Rd := fun e => e.far.g4.f11
def rd76 : Rd := fun e => e.far.g4.f12
def rd77 : Rd := fun e => e.far.g4.f13
def rd78 : Rd := fun e => e.far.g4.f14
def rd79 : Rd := fun e => e.far.g4.f15
def rd80 : Rd := fun e => e.far.g5.f0
def rd81 : Rd := fun e => e.far.g5.f1
def rd82 : Rd := fun e => e.far.g5.f2
def rd83 : Rd := fun e => e.far.g5.f3
def rd84 : Rd := fun e => e.far.g5.f4
def rd85 : Rd := fun e => e.far.g5.f5
def rd86 : Rd := fun e => e.far.g5.f6
def rd87 : Rd := fun e => e.far.g5.f7
def rd88 : Rd := fun e => e.far.g5.f8
def rd89 : Rd := fun e => e.far.g5.f9
def rd90 : Rd := fun e => e.far.g5.f10
def rd91 : Rd := fun e => e.far.g5.f11
def rd92 : Rd := fun e => e.far.g5.f12
def rd93 : Rd := fun e => e.far.g5.f13
def rd94 : Rd := fun e => e.far.g5.f14
def rd95 : Rd := fun e => e.far.g5.f15
def rd96 : Rd := fun e => e.far.g6.f0
def rd97 : Rd := fun e => e.far.g6.f1
def rd98 : Rd := fun e => e.far.g6.f2
def rd99 : Rd := fun e => e.far.g6.f3
def rd100 : Rd := fun e => e.far.g6.f4
def rd101 : Rd := fun e => e.far.g6.f5
def rd102 : Rd := fun e => e.far.g6.f6
def rd103 : Rd := fun e => e.far.g6.f7
def rd104 : Rd := fun e => e.far.g6.f8
def rd105 : Rd := fun e => e.far.g6.f9
def rd106 : Rd := fun e => e.far.g6.f10
def rd107 : Rd := fun e => e.far.g6.f11
def rd108 : Rd := fun e => e.far.g6.f12
def rd109 : Rd := fun e => e.far.g6.f13
def rd110 : Rd := fun e => e.far.g6.f14
def rd111 : Rd := fun e => e.far.g6.f15
def rd112 : Rd := fun e => e.far.g7.f0
def rd113 : Rd := fun e => e.far.g7.f1
def rd114 : Rd := fun e => e.far.g7.f2
def rd115 : Rd := fun e => e.far.g7.f3
def rd116 : Rd := fun e => e.far.g7.f4
def rd117 : Rd := fun e => e.far.g7.f5
def rd118 : Rd := fun e => e.far.g7.f6
def rd119 : Rd := fun e => e.far.g7.f7
def rd120 : Rd := fun e => e.far.g7.f8
def rd121 : Rd := fun e => e.far.g7.f9
def rd122 : Rd := fun e => e.far.g7.f10
def rd123 : Rd := fun e => e.far.g7.f11
def rd124 : Rd := fun e => e.far.g7.f12
def rd125 : Rd := fun e => e.far.g7.f13
def rd126 : Rd := fun e => e.far.g7.f14
def rd127 : Rd := fun e => e.far.g7.f15
def rd128 : Rd := fun e => e.far.g8.f0
def rd129 : Rd := fun e => e.far.g8.f1
def rd130 : Rd := fun e => e.far.g8.f2
def rd131 : Rd := fun e => e.far.g8.f3
def rd132 : Rd := fun e => e.far.g8.f4
def rd133 : Rd := fun e => e.far.g8.f5
def rd134 : Rd := fun e => e.far.g8.f6
def rd135 : Rd := fun e => e.far.g8.f7
def rd136 : Rd := fun e => e.far.g8.f8
def rd137 : Rd := fun e => e.far.g8.f9
def rd138 : Rd := fun e => e.far.g8.f10
def rd139 : Rd := fun e => e.far.g8.f11
def rd140 : Rd := fun e => e.far.g8.f12
def rd141 : Rd := fun e => e.far.g8.f13
def rd142 : Rd := fun e => e.far.g8.f14
def rd143 : Rd := fun e => e.far.g8.f15
def rd144 : Rd := fun e => e.far.g9.f0
def rd145 : Rd := fun e => e.far.g9.f1
def rd146 : Rd := fun e => e.far.g9.f2
def rd147 : Rd := fun e => e.far.g9.f3
def rd148 : Rd := fun e => e.far.g9.f4
def rd149 : Rd := fun e => e.far.g9.f5
def rd150 : Rd := fun e => e.far.g9.f6
def rd151 : Rd := fun e => e.far.g9.f7
def rd152 : Rd := fun e => e.far.g9.f8
def rd153 : Rd := fun e => e.far.g9.f9
def rd154 : Rd := fun e => e.far.g9.f10
def rd155 : Rd := fun e => e.far.g9.f11
def rd156 : Rd := fun e => e.far.g9.f12
def rd157 : Rd := fun e => e.far.g9.f13
def rd158 : Rd := fun e => e.far.g9.f14
def rd159 : Rd := fun e => e.far.g9.f15
def rd160 : Rd := fun e => e.far.g10.f0
def rd161 : Rd := fun e => e.far.g10.f1
def rd162 : Rd := fun e => e.far.g10.f2
def rd163 : Rd := fun e => e.far.g10.f3
def rd164 : Rd := fun e => e.far.g10.f4
def rd165 : Rd := fun e => e.far.g10.f5
def rd166 : Rd := fun e => e.far.g10.f6
def rd167 : Rd := fun e => e.far.g10.f7
def rd168 : Rd := fun e => e.far.g10.f8
def rd169 : Rd := fun e => e.far.g10.f9
def rd170 : Rd := fun e => e.far.g10.f10
def rd171 : Rd := fun e => e.far.g10.f11
def rd172 : Rd := fun e => e.far.g10.f12
def rd173 : Rd := fun e => e.far.g10.f13
def rd174 : Rd := fun e => e.far.g10.f14
def rd175 : Rd := fun e => e.far.g10.f15
def rd176 : Rd := fun e => e.far.g11.f0
def rd177 : Rd := fun e => e.far.g11.f1
def rd178 : Rd := fun e => e.far.g11.f2
def rd179 : Rd := fun e => e.far.g11.f3
def rd180 : Rd := fun e => e.far.g11.f4
def rd181 : Rd := fun e => e.far.g11.f5
def rd182 : Rd := fun e => e.far.g11.f6
def rd183 : Rd := fun e => e.far.g11.f7
def rd184 : Rd := fun e => e.far.g11.f8
def rd185 : Rd := fun e => e.far.g11.f9
def rd186 : Rd := fun e => e.far.g11.f10
def rd187 : Rd := fun e => e.far.g11.f11
def rd188 : Rd := fun e => e.far.g11.f12
def rd189 : Rd := fun e => e.far.g11.f13
def rd190 : Rd := fun e => e.far.g11.f14
def rd191 : Rd := fun e => e.far.g11.f15
def rd192 : Rd := fun e => e.far.g12.f0
def rd193 : Rd := fun e => e.far.g12.f1
def rd194 : Rd := fun e => e.far.g12.f2
def rd195 : Rd := fun e => e.far.g12.f3
def rd196 : Rd := fun e => e.far.g12.f4
def rd197 : Rd := fun e => e.far.g12.f5
def rd198 : Rd := fun e => e.far.g12.f6
def rd199 : Rd := fun e => e.far.g12.f7
def rd200 : Rd := fun e => e.far.g12.f8
def rd201 : Rd := fun e => e.far.g12.f9
def rd202 : Rd := fun e => e.far.g12.f10
def rd203 : Rd := fun e => e.far.g12.f11
def rd204 : Rd := fun e => e.far.g12.f12
def rd205 : Rd := fun e => e.far.g12.f13
def rd206 : Rd := fun e => e.far.g12.f14
def rd207 : Rd := fun e => e.far.g12.f15
def rd208 : Rd := fun e => e.far.g13.f0
def rd209 : Rd := fun e => e.far.g13.f1
def rd210 : Rd := fun e => e.far.g13.f2
def rd211 : Rd := fun e => e.far.g13.f3
def rd212 : Rd := fun e => e.far.g13.f4
def rd213 : Rd := fun e => e.far.g13.f5
def rd214 : Rd := fun e => e.far.g13.f6
def rd215 : Rd := fun e => e.far.g13.f7
def rd216 : Rd := fun e => e.far.g13.f8
def rd217 : Rd := fun e => e.far.g13.f9
def rd218 : Rd := fun e => e.far.g13.f10
def rd219 : Rd := fun e => e.far.g13.f11
def rd220 : Rd := fun e => e.far.g13.f12
def rd221 : Rd := fun e => e.far.g13.f13
def rd222 : Rd := fun e => e.far.g13.f14
def rd223 : Rd := fun e => e.far.g13.f15
def rd224 : Rd := fun e => e.far.g14.f0
def rd225 : Rd := fun e => e.far.g14.f1
def rd226 : Rd := fun e => e.far.g14.f2
def rd227 : Rd := fun e => e.far.g14.f3
def rd228 : Rd := fun e => e.far.g14.f4
def rd229 : Rd := fun e => e.far.g14.f5
def rd230 : Rd := fun e => e.far.g14.f6
def rd231 : Rd := fun e => e.far.g14.f7
def rd232 : Rd := fun e => e.far.g14.f8
def rd233 : Rd := fun e => e.far.g14.f9
def rd234 : Rd := fun e => e.far.g14.f10
def rd235 : Rd := fun e => e.far.g14.f11
def rd236 : Rd := fun e => e.far.g14.f12
def rd237 : Rd := fun e => e.far.g14.f13
def rd238 : Rd := fun e => e.far.g14.f14
def rd239 : Rd := fun e => e.far.g14.f15
def rd240 : Rd := fun e => e.far.g15.f0
def rd241 : Rd := fun e => e.far.g15.f1
def rd242 : Rd := fun e => e.far.g15.f2
def rd243 : Rd := fun e => e.far.g15.f3
def rd244 : Rd := fun e => e.far.g15.f4
def rd245 : Rd := fun e => e.far.g15.f5
def rd246 : Rd := fun e => e.far.g15.f6
def rd247 : Rd := fun e => e.far.g15.f7
def rd248 : Rd := fun e => e.far.g15.f8
def rd249 : Rd := fun e => e.far.g15.f9
def rd250 : Rd := fun e => e.far.g15.f10
def rd251 : Rd := fun e => e.far.g15.f11
def rd252 : Rd := fun e => e.far.g15.f12
def rd253 : Rd := fun e => e.far.g15.f13
def rd254 : Rd := fun e => e.far.g15.f14
def rd255 : Rd := fun e => e.far.g15.f15
def rd256 : Rd := fun e => e.far.g16.f0
def rd257 : Rd := fun e => e.far.g16.f1
def rd258 : Rd := fun e => e.far.g16.f2
def rd259 : Rd := fun e => e.far.g16.f3
def rd260 : Rd := fun e => e.far.g16.f4
def rd261 : Rd := fun e => e.far.g16.f5
def rd262 : Rd := fun e => e.far.g16.f6
def rd263 : Rd := fun e => e.far.g16.f7
def rd264 : Rd := fun e => e.far.g16.f8
def rd265 : Rd := fun e => e.far.g16.f9
def rd266 : Rd := fun e => e.far.g16.f10
def rd267 : Rd := fun e => e.far.g16.f11
def rd268 : Rd := fun e => e.far.g16.f12
def rd269 : Rd := fun e => e.far.g16.f13
def rd270 : Rd := fun e => e.far.g16.f14
def rd271 : Rd := fun e => e.far.g16.f15
def rd272 : Rd := fun e => e.far.g17.f0
def rd273 : Rd := fun e => e.far.g17.f1
def rd274 : Rd := fun e => e.far.g17.f2
def rd275 : Rd := fun e => e.far.g17.f3
def rd276 : Rd := fun e => e.far.g17.f4
def rd277 : Rd := fun e => e.far.g17.f5
def rd278 : Rd := fun e => e.far.g17.f6
def rd279 : Rd := fun e => e.far.g17.f7
def rd280 : Rd := fun e => e.far.g17.f8
def rd281 : Rd := fun e => e.far.g17.f9
def rd282 : Rd := fun e => e.far.g17.f10
def rd283 : Rd := fun e => e.far.g17.f11
def rd284 : Rd := fun e => e.far.g17.f12
def rd285 : Rd := fun e => e.far.g17.f13
def rd286 : Rd := fun e => e.far.g17.f14
def rd287 : Rd := fun e => e.far.g17.f15
def rd288 : Rd := fun e => e.far.g18.f0
def rd289 : Rd := fun e => e.far.g18.f1
def rd290 : Rd := fun e => e.far.g18.f2
def rd291 : Rd := fun e => e.far.g18.f3
def rd292 : Rd := fun e => e.far.g18.f4
def rd293 : Rd := fun e => e.far.g18.f5
def rd294 : Rd := fun e => e.far.g18.f6
def rd295 : Rd := fun e => e.far.g18.f7
def rd296 : Rd := fun e => e.far.g18.f8
def rd297 : Rd := fun e => e.far.g18.f9
def rd298 : Rd := fun e => e.far.g18.f10
def rd299 : Rd := fun e => e.far.g18.f11
def rd300 : Rd := fun e => e.far.g18.f12
def rd301 : Rd := fun e => e.far.g18.f13
def rd302 : Rd := fun e => e.far.g18.f14
def rd303 : Rd := fun e => e.far.g18.f15
def rd304 : Rd := fun e => e.far.g19.f0
def rd305 : Rd := fun e => e.far.g19.f1
def rd306 : Rd := fun e => e.far.g19.f2
def rd307 : Rd := fun e => e.far.g19.f3
def rd308 : Rd := fun e => e.far.g19.f4
def rd309 : Rd := fun e => e.far.g19.f5
def rd310 : Rd := fun e => e.far.g19.f6
def rd311 : Rd := fun e => e.far.g19.f7
def rd312 : Rd := fun e => e.far.g19.f8
def rd313 : Rd := fun e => e.far.g19.f9
def rd314 : Rd := fun e => e.far.g19.f10
def rd315 : Rd := fun e => e.far.g19.f11
def rd316 : Rd := fun e => e.far.g19.f12
def rd317 : Rd := fun e => e.far.g19.f13
def rd318 : Rd := fun e => e.far.g19.f14
def rd319 : Rd := fun e => e.far.g19.f15
def m2_0 (m : AV → E1 → E1) (v : AV) (e : E2) : E2 := @E2.rec (fun _ => E2) (fun y0 y1 y2 y3 y4 y5 y6 y7 y8 y9 y10 y11 y12 y13 y14 y15 y16 y17 y18 y19 => ⟨m v y0, y1, y2, y3, y4, y5, y6, y7, y8, y9, y10, y11, y12, y13, y14, y15, y16, y17, y18, y19⟩) e
def m2_1 (m : AV → E1 → E1) (v : AV) (e : E2) : E2 := @E2.rec (fun _ => E2) (fun y0 y1 y2 y3 y4 y5 y6 y7 y8 y9 y10 y11 y12 y13 y14 y15 y16 y17 y18 y19 => ⟨y0, m v y1, y2, y3, y4, y5, y6, y7, y8, y9, y10, y11, y12, y13, y14, y15, y16, y17, y18, y19⟩) e
def m2_2 (m : AV → E1 → E1) (v : AV) (e : E2) : E2 := @E2.rec (fun _ => E2) (fun y0 y1 y2 y3 y4 y5 y6 y7 y8 y9 y10 y11 y12 y13 y14 y15 y16 y17 y18 y19 => ⟨y0, y1, m v y2, y3, y4, y5, y6, y7, y8, y9, y10, y11, y12, y13, y14, y15, y16, y17, y18, y19⟩) e
def m2_3 (m : AV → E1 → E1) (v : AV) (e : E2) : E2 := @E2.rec (fun _ => E2) (fun y0 y1 y2 y3 y4 y5 y6 y7 y8 y9 y10 y11 y12 y13 y14 y15 y16 y17 y18 y19 => ⟨y0, y1, y2, m v y3, y4, y5, y6, y7, y8, y9, y10, y11, y12, y13, y14, y15, y16, y17, y18, y19⟩) e
def m2_4 (m : AV → E1 → E1) (v : AV) (e : E2) : E2 := @E2.rec (fun _ => E2) (fun y0 y1 y2 y3 y4 y5 y6 y7 y8 y9 y10 y11 y12 y13 y14 y15 y16 y17 y18 y19 => ⟨y0, y1, y2, y3, m v y4, y5, y6, y7, y8, y9, y10, y11, y12, y13, y14, y15, y16, y17, y18, y19⟩) e
def m2_5 (m : AV → E1 → E1) (v : AV) (e : E2) : E2 := @E2.rec (fun _ => E2) (fun y0 y1 y2 y3 y4 y5 y6 y7 y8 y9 y10 y11 y12 y13 y14 y15 y16 y17 y18 y19 => ⟨y0, y1, y2, y3, y4, m v y5, y6, y7, y8, y9, y10, y11, y12, y13, y14, y15, y16, y17, y18, y19⟩) e
def m2_6 (m : AV → E1 → E1) (v : AV) (e : E2) : E2 := @E2.rec (fun _ => E2) (fun y0 y1 y2 y3 y4 y5 y6 y7 y8 y9 y10 y11 y12 y13 y14 y15 y16 y17 y18 y19 => ⟨y0, y1, y2, y3, y4, y5, m v y6, y7, y8, y9, y10, y11, y12, y13, y14, y15, y16, y17, y18, y19⟩) e
def m2_7 (m : AV → E1 → E1) (v : AV) (e : E2) : E2 := @E2.rec (fun _ => E2) (fun y0 y1 y2 y3 y4 y5 y6 y7 y8 y9 y10 y11 y12 y13 y14 y15 y16 y17 y18 y19 => ⟨y0, y1, y2, y3, y4, y5, y6, m v y7, y8, y9, y10, y11, y12, y13, y14, y15, y16, y17, y18, y19⟩) e
def m2_8 (m : AV → E1 → E1) (v : AV) (e : E2) : E2 := @E2.rec (fun _ => E2) (fun y0 y1 y2 y3 y4 y5 y6 y7 y8 y9 y10 y11 y12 y13 y14 y15 y16 y17 y18 y19 => ⟨y0, y1, y2, y3, y4, y5, y6, y7, m v y8, y9, y10, y11, y12, y13, y14, y15, y16, y17, y18, y19⟩) e
def m2_9 (m : AV → E1 → E1) (v : AV) (e : E2) : E2 := @E2.rec (fun _ => E2) (fun y0 y1 y2 y3 y4 y5 y6 y7 y8 y9 y10 y11 y12 y13 y14 y15 y16 y17 y18 y19 => ⟨y0, y1, y2, y3, y4, y5, y6, y7, y8, m v y9, y10, y11, y12, y13, y14, y15, y16, y17, y18, y19⟩) e
def m2_10 (m : AV → E1 → E1) (v : AV) (e : E2) : E2 := @E2.rec (fun _ => E2) (fun y0 y1 y2 y3 y4 y5 y6 y7 y8 y9 y10 y11 y12 y13 y14 y15 y16 y17 y18 y19 => ⟨y0, y1, y2, y3, y4, y5, y6, y7, y8, y9, m v y10, y11, y12, y13, y14, y15, y16, y17, y18, y19⟩) e
def m2_11 (m : AV → E1 → E1) (v : AV) (e : E2) : E2 := @E2.rec (fun _ => E2) (fun y0 y1 y2 y3 y4 y5 y6 y7 y8 y9 y10 y11 y12 y13 y14 y15 y16 y17 y18 y19 => ⟨y0, y1, y2, y3, y4, y5, y6, y7, y8, y9, y10, m v y11, y12, y13, y14, y15, y16, y17, y18, y19⟩) e
def m2_12 (m : AV → E1 → E1) (v : AV) (e : E2) : E2 := @E2.rec (fun _ => E2) (fun y0 y1 y2 y3 y4 y5 y6 y7 y8 y9 y10 y11 y12 y13 y14 y15 y16 y17 y18 y19 => ⟨y0, y1, y2, y3, y4, y5, y6, y7, y8, y9, y10, y11, m v y12, y13, y14, y15, y16, y17, y18, y19⟩) e
def m2_13 (m : AV → E1 → E1) (v : AV) (e : E2) : E2 := @E2.rec (fun _ => E2) (fun y0 y1 y2 y3 y4 y5 y6 y7 y8 y9 y10 y11 y12 y13 y14 y15 y16 y17 y18 y19 => ⟨y0, y1, y2, y3, y4, y5, y6, y7, y8, y9, y10, y11, y12, m v y13, y14, y15, y16, y17, y18, y19⟩) e
def m2_14 (m : AV → E1 → E1) (v : AV) (e : E2) : E2 := @E2.rec (fun _ => E2) (fun y0 y1 y2 y3 y4 y5 y6 y7 y8 y9 y10 y11 y12 y13 y14 y15 y16 y17 y18 y19 => ⟨y0, y1, y2, y3, y4, y5, y6, y7, y8, y9, y10, y11, y12, y13, m v y14, y15, y16, y17, y18, y19⟩) e
def m2_15 (m : AV → E1 → E1) (v : AV) (e : E2) : E2 := @E2.rec (fun _ => E2) (fun y0 y1 y2 y3 y4 y5 y6 y7 y8 y9 y10 y11 y12 y13 y14 y15 y16 y17 y18 y19 => ⟨y0, y1, y2, y3, y4, y5, y6, y7, y8, y9, y10, y11, y12, y13, y14, m v y15, y16, y17, y18, y19⟩) e
def m2_16 (m : AV → E1 → E1) (v : AV) (e : E2) : E2 := @E2.rec (fun _ => E2) (fun y0 y1 y2 y3 y4 y5 y6 y7 y8 y9 y10 y11 y12 y13 y14 y15 y16 y17 y18 y19 => ⟨y0, y1, y2, y3, y4, y5, y6, y7, y8, y9, y10, y11, y12, y13, y14, y15, m v y16, y17, y18, y19⟩) e
def m2_17 (m : AV → E1 → E1) (v : AV) (e : E2) : E2 := @E2.rec (fun _ => E2) (fun y0 y1 y2 y3 y4 y5 y6 y7 y8 y9 y10 y11 y12 y13 y14 y15 y16 y17 y18 y19 => ⟨y0, y1, y2, y3, y4, y5, y6, y7, y8, y9, y10, y11, y12, y13, y14, y15, y16, m v y17, y18, y19⟩) e
def m2_18 (m : AV → E1 → E1) (v : AV) (e : E2) : E2 := @E2.rec (fun _ => E2) (fun y0 y1 y2 y3 y4 y5 y6 y7 y8 y9 y10 y11 y12 y13 y14 y15 y16 y17 y18 y19 => ⟨y0, y1, y2, y3, y4, y5, y6, y7, y8, y9, y10, y11, y12, y13, y14, y15, y16, y17, m v y18, y19⟩) e
def m2_19 (m : AV → E1 → E1) (v : AV) (e : E2) : E2 := @E2.rec (fun _ => E2) (fun y0 y1 y2 y3 y4 y5 y6 y7 y8 y9 y10 y11 y12 y13 y14 y15 y16 y17 y18 y19 => ⟨y0, y1, y2, y3, y4, y5, y6, y7, y8, y9, y10, y11, y12, y13, y14, y15, y16, y17, y18, m v y19⟩) e
def w0 : Wr := farW (m2_0 m1_0)
def w1 : Wr := farW (m2_0 m1_1)
def w2 : Wr := farW (m2_0 m1_2)
def w3 : Wr := farW (m2_0 m1_3)
def w4 : Wr := farW (m2_0 m1_4)
def w5 : Wr := farW (m2_0 m1_5)
def w6 : Wr := farW (m2_0 m1_6)
def w7 : Wr := farW (m2_0 m1_7)
def w8 : Wr := farW (m2_0 m1_8)
def w9 : Wr := farW (m2_0 m1_9)
def w10 : Wr := farW (m2_0 m1_10)
def w11 : Wr := farW (m2_0 m1_11)
def w12 : Wr := farW (m2_0 m1_12)
def w13 : Wr := farW (m2_0 m1_13)
def w14 : Wr := farW (m2_0 m1_14)
def w15 : Wr := farW (m2_0 m1_15)
def w16 : Wr := farW (m2_1 m1_0)
def w17 : Wr := farW (m2_1 m1_1)
def w18 : Wr := farW (m2_1 m1_2)
def w19 : Wr := farW (m2_1 m1_3)
def w20 : Wr := farW (m2_1 m1_4)
def w21 : Wr := farW (m2_1 m1_5)
def w22 : Wr := farW (m2_1 m1_6)
def w23 : Wr := farW (m2_1 m1_7)
def w24 : Wr := farW (m2_1 m1_8)
def w25 : Wr := farW (m2_1 m1_9)
def w26 : Wr := farW (m2_1 m1_10)
def w27 : Wr := farW (m2_1 m1_11)
def w28 : Wr := farW (m2_1 m1_12)
def w29 : Wr := farW (m2_1 m1_13)
def w30 : Wr := farW (m2_1 m1_14)
def w31 : Wr := farW (m2_1 m1_15)
def w32 : Wr := farW (m2_2 m1_0)
def w33 : Wr := farW (m2_2 m1_1)
def w34 : Wr := farW (m2_2 m1_2)
def w35 : Wr := farW (m2_2 m1_3)
def w36 : Wr := farW (m2_2 m1_4)
def w37 : Wr := farW (m2_2 m1_5)
def w38 : Wr := farW (m2_2 m1_6)
def w39 : Wr := farW (m2_2 m1_7)
def w40 : Wr := farW (m2_2 m1_8)
def w41 : Wr := farW (m2_2 m1_9)
def w42 : Wr := farW (m2_2 m1_10)
def w43 : Wr := farW (m2_2 m1_11)
def w44 : Wr := farW (m2_2 m1_12)
def w45 : Wr := farW (m2_2 m1_13)
def w46 : Wr := farW (m2_2 m1_14)
def w47 : Wr := farW (m2_2 m1_15)
def w48 : Wr := farW (m2_3 m1_0)
def w49 : Wr := farW (m2_3 m1_1)
def w50 : Wr := farW (m2_3 m1_2)
def w51 : Wr := farW (m2_3 m1_3)
def w52 : Wr := farW (m2_3 m1_4)
def w53 : Wr := farW (m2_3 m1_5)
def w54 : Wr := farW (m2_3 m1_6)
def w55 : Wr := farW (m2_3 m1_7)
def w56 : Wr := farW (m2_3 m1_8)
def w57 : Wr := farW (m2_3 m1_9)
def w58 : Wr := farW (m2_3 m1_10)
def w59 : Wr := farW (m2_3 m1_11)
def w60 : Wr := farW (m2_3 m1_12)
def w61 : Wr := farW (m2_3 m1_13)
def w62 : Wr := farW (m2_3 m1_14)
def w63 : Wr := farW (m2_3 m1_15)
def w64 : Wr := farW (m2_4 m1_0)
def w65 : Wr := farW (m2_4 m1_1)
def w66 : Wr := farW (m2_4 m1_2)
def w67 : Wr := farW (m2_4 m1_3)
def w68 : Wr := farW (m2_4 m1_4)
def w69 : Wr := farW (m2_4 m1_5)
def w70 : Wr := farW (m2_4 m1_6)
def w71 : Wr := farW (m2_4 m1_7)
def w72 : Wr := farW (m2_4 m1_8)
def w73 : Wr := farW (m2_4 m1_9)
def w74 : Wr := farW (m2_4 m1_10)
def w75 : Wr := farW (m2_4 m1_11)
def w76 : Wr := farW (m2_4 m1_12)
def w77 : Wr := farW (m2_4 m1_13)
def w78 : Wr := farW (m2_4 m1_14)
def w79 : Wr := farW (m2_4 m1_15)
def w80 : Wr := farW (m2_5 m1_0)
def w81 : Wr := farW (m2_5 m1_1)
def w82 : Wr := farW (m2_5 m1_2)
def w83 : Wr := farW (m2_5 m1_3)
def w84 : Wr := farW (m2_5 m1_4)
def w85 : Wr := farW (m2_5 m1_5)
def w86 : Wr := farW (m2_5 m1_6)
def w87 : Wr := farW (m2_5 m1_7)
def w88 : Wr := farW (m2_5 m1_8)
def w89 : Wr := farW (m2_5 m1_9)
def w90 : Wr := farW (m2_5 m1_10)
def w91 : Wr := farW (m2_5 m1_11)
def w92 : Wr := farW (m2_5 m1_12)
def w93 : Wr := farW (m2_5 m1_13)
def w94 : Wr := farW (m2_5 m1_14)
def w95 : Wr := farW (m2_5 m1_15)
def w96 : Wr := farW (m2_6 m1_0)
def w97 : Wr := farW (m2_6 m1_1)
def w98 : Wr := farW (m2_6 m1_2)
def w99 : Wr := farW (m2_6 m1_3)
def w100 : Wr := farW (m2_6 m1_4)
def w101 : Wr := farW (m2_6 m1_5)
def w102 : Wr := farW (m2_6 m1_6)
def w103 : Wr := farW (m2_6 m1_7)
def w104 : Wr := farW (m2_6 m1_8)
def w105 : Wr := farW (m2_6 m1_9)
def w106 : Wr := farW (m2_6 m1_10)
def w107 : Wr := farW (m2_6 m1_11)
def w108 : Wr := farW (m2_6 m1_12)
def w109 : Wr := farW (m2_6 m1_13)
def w110 : Wr := farW (m2_6 m1_14)
def w111 : Wr := farW (m2_6 m1_15)
def w112 : Wr := farW (m2_7 m1_0)
def w113 : Wr := farW (m2_7 m1_1)
def w114 : Wr := farW (m2_7 m1_2)
def w115 : Wr := farW (m2_7 m1_3)
def w116 : Wr := farW (m2_7 m1_4)
def w117 : Wr := farW (m2_7 m1_5)
def w118 : Wr := farW (m2_7 m1_6)
def w119 : Wr := farW (m2_7 m1_7)
def w120 : Wr := farW (m2_7 m1_8)
def w121 : Wr := farW (m2_7 m1_9)
def w122 : Wr := farW (m2_7 m1_10)
def w123 : Wr := farW (m2_7 m1_11)
def w124 : Wr := farW (m2_7 m1_12)
def w125 : Wr := farW (m2_7 m1_13)
def w126 : Wr := farW (m2_7 m1_14)
def w127 : Wr := farW (m2_7 m1_15)
def w128 : Wr := farW (m2_8 m1_0)
def w129 : Wr := farW (m2_8 m1_1)
def w130 : Wr := farW (m2_8 m1_2)
def w131 : Wr := farW (m2_8 m1_3)
def w132 : Wr := farW (m2_8 m1_4)
def w133 : Wr := farW (m2_8 m1_5)
def w134 : Wr := farW (m2_8 m1_6)
def w135 : Wr := farW (m2_8 m1_7)
def w136 : Wr := farW (m2_8 m1_8)
def w137 : Wr := farW (m2_8 m1_9)
def w138 : Wr := farW (m2_8 m1_10)
def w139 : Wr := farW (m2_8 m1_11)
def w140 : Wr := farW (m2_8 m1_12)
def w141 : Wr := farW (m2_8 m1_13)
def w142 : Wr := farW (m2_8 m1_14)
def w143 : Wr := farW (m2_8 m1_15)
def w144 : Wr := farW (m2_9 m1_0)
def w145 : Wr := farW (m2_9 m1_1)
def w146 : Wr := farW (m2_9 m1_2)
def w147 : Wr := farW (m2_9 m1_3)
def w148 : Wr := farW (m2_9 m1_4)
def w149 : Wr := farW (m2_9 m1_5)
def w150 : Wr := farW (m2_9 m1_6)
def w151 : Wr := farW (m2_9 m1_7)
def w152 : Wr := farW (m2_9 m1_8)
def w153 : Wr := farW (m2_9 m1_9)
def w154 : Wr := farW (m2_9 m1_10)
def w155 : Wr := farW (m2_9 m1_11)
def w156 : Wr := farW (m2_9 m1_12)
def w157 : Wr := farW (m2_9 m1_13)
def w158 : Wr := farW (m2_9 m1_14)
def w159 : Wr := farW (m2_9 m1_15)
def w160 : Wr := farW (m2_10 m1_0)
def w161 : Wr := farW (m2_10 m1_1)
def w162 : Wr := farW (m2_10 m1_2)
def w163 : Wr := farW (m2_10 m1_3)
def w164 : Wr := farW (m2_10 m1_4)
def w165 : Wr := farW (m2_10 m1_5)
def w166 : Wr := farW (m2_10 m1_6)
def w167 : Wr := farW (m2_10 m1_7)
def w168 : Wr := farW (m2_10 m1_8)
def w169 : Wr := farW (m2_10 m1_9)
def w170 : Wr := farW (m2_10 m1_10)
def w171 : Wr := farW (m2_10 m1_11)
def w172 : Wr := farW (m2_10 m1_12)
def w173 : Wr := farW (m2_10 m1_13)
def w174 : Wr := farW (m2_10 m1_14)
def w175 : Wr := farW (m2_10 m1_15)
def w176 : Wr := farW (m2_11 m1_0)
def w177 : Wr := farW (m2_11 m1_1)
def w178 : Wr := farW (m2_11 m1_2)
def w179 : Wr := farW (m2_11 m1_3)
def w180 : Wr := farW (m2_11 m1_4)
def w181 : Wr := farW (m2_11 m1_5)
def w182 : Wr := farW (m2_11 m1_6)
def w183 : Wr := farW (m2_11 m1_7)
def w184 : Wr := farW (m2_11 m1_8)
def w185 : Wr := farW (m2_11 m1_9)
def w186 : Wr := farW (m2_11 m1_10)
def w187 : Wr := farW (m2_11 m1_11)
def w188 : Wr := farW (m2_11 m1_12)
def w189 : Wr := farW (m2_11 m1_13)
def w190 : Wr := farW (m2_11 m1_14)
def w191 : Wr := farW (m2_11 m1_15)
def w192 : Wr := farW (m2_12 m1_0)
def w193 : Wr := farW (m2_12 m1_1)
def w194 : Wr := farW (m2_12 m1_2)
def w195 : Wr := farW (m2_12 m1_3)
def w196 : Wr := farW (m2_12 m1_4)
def w197 : Wr := farW (m2_12 m1_5)
def w198 : Wr := farW (m2_12 m1_6)
def w199 : Wr := farW (m2_12 m1_7)
def w200 : Wr := farW (m2_12 m1_8)
def w201 : Wr := farW (m2_12 m1_9)
def w202 : Wr := farW (m2_12 m1_10)
def w203 : Wr := farW (m2_12 m1_11)
def w204 : Wr := farW (m2_12 m1_12)
def w205 : Wr := farW (m2_12 m1_13)
def w206 : Wr := farW (m2_12 m1_14)
def w207 : Wr := farW (m2_12 m1_15)
def w208 : Wr := farW (m2_13 m1_0)
def w209 : Wr := farW (m2_13 m1_1)
def w210 : Wr := farW (m2_13 m1_2)
def w211 : Wr := farW (m2_13 m1_3)
def w212 : Wr := farW (m2_13 m1_4)
def w213 : Wr := farW (m2_13 m1_5)
def w214 : Wr := farW (m2_13 m1_6)
def w215 : Wr := farW (m2_13 m1_7)
def w216 : Wr := farW (m2_13 m1_8)
def w217 : Wr := farW (m2_13 m1_9)
def w218 : Wr := farW (m2_13 m1_10)
def w219 : Wr := farW (m2_13 m1_11)
def w220 : Wr := farW (m2_13 m1_12)
def w221 : Wr := farW (m2_13 m1_13)
def w222 : Wr := farW (m2_13 m1_14)
def w223 : Wr := farW (m2_13 m1_15)
def w224 : Wr := farW (m2_14 m1_0)
def w225 : Wr := farW (m2_14 m1_1)
def w226 : Wr := farW (m2_14 m1_2)
def w227 : Wr := farW (m2_14 m1_3)
def w228 : Wr := farW (m2_14 m1_4)
def w229 : Wr := farW (m2_14 m1_5)
def w230 : Wr := farW (m2_14 m1_6)
def w231 : Wr := farW (m2_14 m1_7)
def w232 : Wr := farW (m2_14 m1_8)
def w233 : Wr := farW (m2_14 m1_9)
def w234 : Wr := farW (m2_14 m1_10)
def w235 : Wr := farW (m2_14 m1_11)
def w236 : Wr := farW (m2_14 m1_12)
def w237 : Wr := farW (m2_14 m1_13)
def w238 : Wr := farW (m2_14 m1_14)
def w239 : Wr := farW (m2_14 m1_15)
def w240 : Wr := farW (m2_15 m1_0)
def w241 : Wr := farW (m2_15 m1_1)
def w242 : Wr := farW (m2_15 m1_2)
def w243 : Wr := farW (m2_15 m1_3)
def w244 : Wr := farW (m2_15 m1_4)
def w245 : Wr := farW (m2_15 m1_5)
def w246 : Wr := farW (m2_15 m1_6)
def w247 : Wr := farW (m2_15 m1_7)
def w248 : Wr := farW (m2_15 m1_8)
def w249 : Wr := farW (m2_15 m1_9)
def w250 : Wr := farW (m2_15 m1_10)
def w251 : Wr := farW (m2_15 m1_11)
def w252 : Wr := farW (m2_15 m1_12)
def w253 : Wr := farW (m2_15 m1_13)
def w254 : Wr := farW (m2_15 m1_14)
def w255 : Wr := farW (m2_15 m1_15)
def w256 : Wr := farW (m2_16 m1_0)
def w257 : Wr := farW (m2_16 m1_1)
def w258 : Wr := farW (m2_16 m1_2)
def w259 : Wr := farW (m2_16 m1_3)
def w260 : Wr := farW (m2_16 m1_4)
def w261 : Wr := farW (m2_16 m1_5)
def w262 : Wr := farW (m2_16 m1_6)
def w263 : Wr := farW (m2_16 m1_7)
def w264 : Wr := farW (m2_16 m1_8)
def w265 : Wr := farW (m2_16 m1_9)
def w266 : Wr := farW (m2_16 m1_10)
def w267 : Wr := farW (m2_16 m1_11)
def w268 : Wr := farW (m2_16 m1_12)
def w269 : Wr := farW (m2_16 m1_13)
def w270 : Wr := farW (m2_16 m1_14)
def w271 : Wr := farW (m2_16 m1_15)
def w272 : Wr := farW (m2_17 m1_0)
def w273 : Wr := farW (m2_17 m1_1)
def w274 : Wr := farW (m2_17 m1_2)
def w275 : Wr := farW (m2_17 m1_3)
def w276 : Wr := farW (m2_17 m1_4)
def w277 : Wr := farW (m2_17 m1_5)
def w278 : Wr := farW (m2_17 m1_6)
def w279 : Wr := farW (m2_17 m1_7)
def w280 : Wr := farW (m2_17 m1_8)
def w281 : Wr := farW (m2_17 m1_9)
def w282 : Wr := farW (m2_17 m1_10)
def w283 : Wr := farW (m2_17 m1_11)
def w284 : Wr := farW (m2_17 m1_12)
def w285 : Wr := farW (m2_17 m1_13)
def w286 : Wr := farW (m2_17 m1_14)
def w287 : Wr := farW (m2_17 m1_15)
def w288 : Wr := farW (m2_18 m1_0)
def w289 : Wr := farW (m2_18 m1_1)
def w290 : Wr := farW (m2_18 m1_2)
def w291 : Wr := farW (m2_18 m1_3)
def w292 : Wr := farW (m2_18 m1_4)
def w293 : Wr := farW (m2_18 m1_5)
def w294 : Wr := farW (m2_18 m1_6)
def w295 : Wr := farW (m2_18 m1_7)
def w296 : Wr := farW (m2_18 m1_8)
def w297 : Wr := farW (m2_18 m1_9)
def w298 : Wr := farW (m2_18 m1_10)
def w299 : Wr := farW (m2_18 m1_11)
def w300 : Wr := farW (m2_18 m1_12)
def w301 : Wr := farW (m2_18 m1_13)
def w302 : Wr := farW (m2_18 m1_14)
def w303 : Wr := farW (m2_18 m1_15)
def w304 : Wr := farW (m2_19 m1_0)
def w305 : Wr := farW (m2_19 m1_1)
def w306 : Wr := farW (m2_19 m1_2)
def w307 : Wr := farW (m2_19 m1_3)
def w308 : Wr := farW (m2_19 m1_4)
def w309 : Wr := farW (m2_19 m1_5)
def w310 : Wr := farW (m2_19 m1_6)
def w311 : Wr := farW (m2_19 m1_7)
def w312 : Wr := farW (m2_19 m1_8)
def w313 : Wr := farW (m2_19 m1_9)
def w314 : Wr := farW (m2_19 m1_10)
def w315 : Wr := farW (m2_19 m1_11)
def w316 : Wr := farW (m2_19 m1_12)
def w317 : Wr := farW (m2_19 m1_13)
def w318 : Wr := farW (m2_19 m1_14)
def w319 : Wr := farW (m2_19 m1_15)
def E1.nil : E1 := ⟨.und, .und, .und, .und, .und, .und, .und, .und, .und, .und, .und, .und, .und, .und, .und, .und⟩
def E2.nil : E2 := ⟨E1.nil, E1.nil, E1.nil, E1.nil, E1.nil, E1.nil, E1.nil, E1.nil, E1.nil, E1.nil, E1.nil, E1.nil, E1.nil, E1.nil, E1.nil, E1.nil, E1.nil, E1.nil, E1.nil, E1.nil⟩
def Env.nil : Env := ⟨[], E2.nil⟩
def rdL : List Rd := [rd0, rd1, rd2, rd3, rd4, rd5, rd6, rd7, rd8, rd9, rd10, rd11, rd12, rd13, rd14, rd15, rd16, rd17, rd18, rd19, rd20, rd21, rd22, rd23, rd24, rd25, rd26, rd27, rd28, rd29, rd30, rd31, rd32, rd33, rd34, rd35, rd36, rd37, rd38, rd39, rd40, rd41, rd42, rd43, rd44, rd45, rd46, rd47, rd48, rd49, rd50, rd51, rd52, rd53, rd54, rd55, rd56, rd57, rd58, rd59, rd60, rd61, rd62, rd63, rd64, rd65, rd66, rd67, rd68, rd69, rd70, rd71, rd72, rd73, rd74, rd75, rd76, rd77, rd78, rd79, rd80, rd81, rd82, rd83, rd84, rd85, rd86, rd87, rd88, rd89, rd90, rd91, rd92, rd93, rd94, rd95, rd96, rd97, rd98, rd99, rd100, rd101, rd102, rd103, rd104, rd105, rd106, rd107, rd108, rd109, rd110, rd111, rd112, rd113, rd114, rd115, rd116, rd117, rd118, rd119, rd120, rd121, rd122, rd123, rd124, rd125, rd126, rd127, rd128, rd129, rd130, rd131, rd132, rd133, rd134, rd135, rd136, rd137, rd138, rd139, rd140, rd141, rd142, rd143, rd144, rd145, rd146, rd147, rd148, rd149, rd150, rd151, rd152, rd153, rd154, rd155, rd156, rd157, rd158, rd159, rd160, rd161, rd162, rd163, rd164, rd165, rd166, rd167, rd168, rd169, rd170, rd171, rd172, rd173, rd174, rd175, rd176, rd177, rd178, rd179, rd180, rd181, rd182, rd183, rd184, rd185, rd186, rd187, rd188, rd189, rd190, rd191, rd192, rd193, rd194, rd195, rd196, rd197, rd198, rd199, rd200, rd201, rd202, rd203, rd204, rd205, rd206, rd207, rd208, rd209, rd210, rd211, rd212, rd213, rd214, rd215, rd216, rd217, rd218, rd219, rd220, rd221, rd222, rd223, rd224, rd225, rd226, rd227, rd228, rd229, rd230, rd231, rd232, rd233, rd234, rd235, rd236, rd237, rd238, rd239, rd240, rd241, rd242, rd243, rd244, rd245, rd246, rd247, rd248, rd249, rd250, rd251, rd252, rd253, rd254, rd255, rd256, rd257, rd258, rd259, rd260, rd261, rd262, rd263, rd264, rd265, rd266, rd267, rd268, rd269, rd270, rd271, rd272, rd273, rd274, rd275, rd276, rd277, rd278, rd279, rd280, rd281, rd282, rd283, rd284, rd285, rd286, rd287, rd288, rd289, rd290, rd291, rd292, rd293, rd294, rd295, rd296, rd297, rd298, rd299, rd300, rd301, rd302, rd303, rd304, rd305, rd306, rd307, rd308, rd309, rd310, rd311, rd312, rd313, rd314, rd315, rd316, rd317, rd318, rd319]
def loL : List Rd := [lo0, lo1, lo2, lo3, lo4, lo5, lo6, lo7, lo8, lo9, lo10, lo11, lo12, lo13, lo14, lo15, lo16, lo17, lo18, lo19, lo20, lo21, lo22, lo23, lo24, lo25, lo26, lo27, lo28, lo29, lo30, lo31, lo32, lo33, lo34, lo35, lo36, lo37, lo38, lo39, lo40, lo41, lo42, lo43, lo44, lo45, lo46, lo47, lo48, lo49, lo50, lo51, lo52, lo53, lo54, lo55, lo56, lo57, lo58, lo59, lo60, lo61, lo62, lo63]
def wL : List Wr := [w0, w1, w2, w3, w4, w5, w6, w7, w8, w9, w10, w11, w12, w13, w14, w15, w16, w17, w18, w19, w20, w21, w22, w23, w24, w25, w26, w27, w28, w29, w30, w31, w32, w33, w34, w35, w36, w37, w38, w39, w40, w41, w42, w43, w44, w45, w46, w47, w48, w49, w50, w51, w52, w53, w54, w55, w56, w57, w58, w59, w60, w61, w62, w63, w64, w65, w66, w67, w68, w69, w70, w71, w72, w73, w74, w75, w76, w77, w78, w79, w80, w81, w82, w83, w84, w85, w86, w87, w88, w89, w90, w91, w92, w93, w94, w95, w96, w97, w98, w99, w100, w101, w102, w103, w104, w105, w106, w107, w108, w109, w110, w111, w112, w113, w114, w115, w116, w117, w118, w119, w120, w121, w122, w123, w124, w125, w126, w127, w128, w129, w130, w131, w132, w133, w134, w135, w136, w137, w138, w139, w140, w141, w142, w143, w144, w145, w146, w147, w148, w149, w150, w151, w152, w153, w154, w155, w156, w157, w158, w159, w160, w161, w162, w163, w164, w165, w166, w167, w168, w169, w170, w171, w172, w173, w174, w175, w176, w177, w178, w179, w180, w181, w182, w183, w184, w185, w186, w187, w188, w189, w190, w191, w192, w193, w194, w195, w196, w197, w198, w199, w200, w201, w202, w203, w204, w205, w206, w207, w208, w209, w210, w211, w212, w213, w214, w215, w216, w217, w218, w219, w220, w221, w222, w223, w224, w225, w226, w227, w228, w229, w230, w231, w232, w233, w234, w235, w236, w237, w238, w239, w240, w241, w242, w243, w244, w245, w246, w247, w248, w249, w250, w251, w252, w253, w254, w255, w256, w257, w258, w259, w260, w261, w262, w263, w264, w265, w266, w267, w268, w269, w270, w271, w272, w273, w274, w275, w276, w277, w278, w279, w280, w281, w282, w283, w284, w285, w286, w287, w288, w289, w290, w291, w292, w293, w294, w295, w296, w297, w298, w299, w300, w301, w302, w303, w304, w305, w306, w307, w308, w309, w310, w311, w312, w313, w314, w315, w316, w317, w318, w319]
end
end Dv
namespace Dv
noncomputable section

abbrev K := AV → Heap → Out
abbrev DOp := Env → Heap → K → Out

def rdC (v : AV) : Rd := fun _ => v

/-! lists -/
def lenL (l : List AV) : Nat := @List.rec AV (fun _ => Nat) 0 (fun _ _ ih => Nat.add ih 1) l
def lenM (l : List (AV × AV)) : Nat := @List.rec (AV × AV) (fun _ => Nat) 0 (fun _ _ ih => Nat.add ih 1) l
def appL (a b : List AV) : List AV := @List.rec AV (fun _ => List AV) b (fun v _ ih => v :: ih) a
def nthL (l : List AV) : Nat → (AV → Out) → Out := @List.rec AV (fun _ => Nat → (AV → Out) → Out) (fun _ _ => .bad) (fun v _ ih n k => bo (Nat.beq n 0) (k v) (ih (Nat.sub n 1) k)) l
def dropL (l : List AV) : Nat → List AV := @List.rec AV (fun _ => Nat → List AV) (fun _ => []) (fun v r ih n => bl (Nat.beq n 0) (v :: r) (ih (Nat.sub n 1))) l
def takeL (l : List AV) : Nat → List AV := @List.rec AV (fun _ => Nat → List AV) (fun _ => []) (fun v _ ih n => bl (Nat.beq n 0) [] (v :: ih (Nat.sub n 1))) l
def repL (z : List AV) (n : Nat) : List AV := @Nat.rec (fun _ => List AV) [] (fun _ ih => appL z ih) n
def cellsT (l : List AV) : Nat → CT → CT := @List.rec AV (fun _ => Nat → CT → CT) (fun _ t => t) (fun v _ ih i t => ih (Nat.add i 1) (t.set i v)) l
def ofL (l : List AV) : CT := CT.ofL 18 l
def mkCells (l : List AV) : AObj := .cells (lenL l) (ofL l) 0 0
def readCT (c : CT) (n : Nat) : Nat → List AV := @Nat.rec (fun _ => Nat → List AV) (fun _ => []) (fun _ ih o => c.get o :: ih (Nat.add o 1)) n

/-! memory -/
/-- may block b of family fm still be looked at? -/
def aliveK (h : Heap) (b fm : Nat) (k : Out) : Out := onFam (h.get fm) (fun ow fl _ => bo (bb (Nat.beq b ow) true (Nat.ble fl b)) k .bad) .bad
def aliveB (h : Heap) (b kd fm : Nat) (k : Out) : Out := bo (Nat.beq kd 1) (aliveK h b fm k) k
def hLoad (h : Heap) (b o : Nat) (f : AV → Out) : Out := onCells (h.get b) (fun n c kd fm => bo (Nat.blt o n) (aliveB h b kd fm (f (c.get o))) .bad) .bad
def hLoadN (h : Heap) (b o n : Nat) (f : List AV → Out) : Out :=
  onCells (h.get b) (fun nb c kd fm => bo (Nat.ble (Nat.add o n) nb) (aliveB h b kd fm (f (readCT c n o))) .bad) .bad
/-- the family's record behind a write to b -/
def famWr1 (h : Heap) (b fm : Nat) (k : Heap → Out) : Out :=
  onFam (h.get fm) (fun ow fl tp => bo (bb (Nat.beq b ow) true (Nat.ble fl b))
    (bo (bb (Nat.beq b ow) (bb (Nat.beq b tp) (Nat.ble tp fl) false) false) (k h)
      (h.on fun nx t => k (.mk nx (t.set fm (.fam b nx b))))) .bad) .bad
def famWr (h : Heap) (b kd fm : Nat) (k : Heap → Out) : Out := bo (Nat.beq kd 0) (k h) (bo (Nat.beq kd 1) (famWr1 h b fm k) .bad)
def hStore1 (h : Heap) (b o : Nat) (v : AV) (k : Heap → Out) : Out :=
  onCells (h.get b) (fun n c kd fm => bo (Nat.blt o n) (famWr h b kd fm fun h => h.upd b (.cells n (c.set o v) kd fm) k) .bad) .bad
def setAll (n : Nat) (c : CT) (o : Nat) (vs : List AV) : CT := bct (bb (Nat.beq o 0) (Nat.beq (lenL vs) n) false) (ofL vs) (cellsT vs o c)
def hStore (h : Heap) (b o : Nat) (vs : List AV) (k : Heap → Out) : Out :=
  onCells (h.get b) (fun n c kd fm => bo (Nat.ble (Nat.add o (lenL vs)) n) (famWr h b kd fm fun h => h.upd b (.cells n (setAll n c o vs) kd fm) k) .bad) .bad

/-! numbers -/
def wrap64 (n : Int) : Int := iI n (fun m => bi (Nat.blt m 9223372036854775808) n (Go.IntKind.i64.wrap n)) (fun m => bi (Nat.blt m 9223372036854775808) n (Go.IntKind.i64.wrap n))
def wrapK (k : Nat) (n : Int) : Int :=
  bi (Nat.beq k 3) (wrap64 n) <| bi (Nat.beq k 4) (Go.IntKind.u8.wrap n) <| bi (Nat.beq k 7) (Go.IntKind.u64.wrap n) <| bi (Nat.beq k 2) (Go.IntKind.i32.wrap n) <|
  bi (Nat.beq k 6) (Go.IntKind.u32.wrap n) <| bi (Nat.beq k 5) (Go.IntKind.u16.wrap n) <| bi (Nat.beq k 0) (Go.IntKind.i8.wrap n) (Go.IntKind.i16.wrap n)
def ltI (a b : Int) : Bool := iB a (fun x => iB b (fun y => Nat.blt x y) (fun _ => false)) (fun x => iB b (fun _ => true) (fun y => Nat.blt y x))
def eqI (a b : Int) : Bool := iB a (fun x => iB b (fun y => Nat.beq x y) (fun _ => false)) (fun x => iB b (fun _ => false) (fun y => Nat.beq x y))
def addI (a b : Int) : Int := iI a (fun x => iI b (fun y => .ofNat (Nat.add x y)) (fun _ => Int.add a b)) (fun _ => Int.add a b)
def subI (a b : Int) : Int := iI a (fun x => iI b (fun y => bi (Nat.ble y x) (.ofNat (Nat.sub x y)) (Int.sub a b)) (fun _ => Int.sub a b)) (fun _ => Int.sub a b)

/-- the same value; 'strict': no pointers, slices, maps or functions in it -/
def eqW (strict : Bool) (a b : AV) : Bool :=
  @AV.rec (fun _ => AV → Bool) (fun _ => List AV → Bool)
    (fun k n w => w.intB fun k' m => bb (Nat.beq k k') (eqI n m) false)
    (fun x w => w.boolB fun y => bb x y (notB y))
    (fun l s w => w.strB fun l' s' => bb (Nat.beq l l') (Nat.beq s s') false)
    (fun b o w => bb strict false (w.ptrB fun b' o' => bb (Nat.beq b b') (Nat.beq o o') false))
    (fun b o n c ex w => bb strict false (w.slB fun b' o' n' c' ex' => bb (Nat.beq b b') (bb (Nat.beq o o') (bb (Nat.beq n n') (bb (Nat.beq c c') (bb ex ex' (notB ex')) false) false) false) false))
    (fun t a _ _ ihl ihm w => bb (bb strict (Nat.beq t 7) (Nat.ble t 8)) (w.othB fun t' a' l' m' => bb (Nat.beq t t') (bb (Nat.beq a a') (bb (ihl l') (ihm m') false) false) false) false)
    (fun l => @List.rec AV (fun _ => Bool) true (fun _ _ _ => false) l)
    (fun _ _ ih1 ih2 l => @List.rec AV (fun _ => Bool) false (fun y ys _ => bb (ih1 y) (ih2 ys) false) l)
    a b
def eqV (a b : AV) : Bool := eqW true a b
def sameV (a b : AV) : Bool := eqW false a b

/-- a cell of kind c (1 to 8: an integer's kind and one; 9: a string; 10: a bool) -/
def cellOk (c : Nat) (v : AV) : Bool :=
  bb (Nat.beq c 9) (v.strB fun l _ => Nat.ble l 9223372036854775807) (bb (Nat.beq c 10) (v.boolB fun _ => true) (v.intB fun k n => bb (Nat.beq c (Nat.add k 1)) (eqI (wrapK k n) n) false))
def shOk (l : List AV) : Nat → Bool := @List.rec AV (fun _ => Nat → Bool) (fun c => Nat.beq c 0) (fun v _ ih c => bb (cellOk (Nat.mod c 16) v) (ih (Nat.div c 16)) false) l
/-- a value of flat type: sh: its cells' kinds (base 16), twice that, and one more for a struct or an array -/
def keyOk (sh : Nat) (a : AV) : Bool :=
  bb (Nat.beq (Nat.mod sh 2) 1) (a.othB fun t _ l _ => bb (Nat.beq t 7) (shOk l (Nat.div sh 2)) false) (shOk [a] (Nat.div sh 2))

/-! operators -/
abbrev IB := Nat → Int → Int → (AV → Out) → Out
def ibAdd : IB := fun k a b f => f (.int k (wrapK k (addI a b)))
def ibSub : IB := fun k a b f => f (.int k (wrapK k (subI a b)))
def ibMul : IB := fun k a b f => f (.int k (wrapK k (Int.mul a b)))
def ibQuo : IB := fun k a b f => bo (eqI b 0) .bad (f (.int k (wrapK k (Int.tdiv a b))))
def ibRem : IB := fun k a b f => bo (eqI b 0) .bad (f (.int k (Int.tmod a b)))
def ibEql : IB := fun _ a b f => f (.bool (eqI a b))
def ibNeq : IB := fun _ a b f => f (.bool (notB (eqI a b)))
def ibLss : IB := fun _ a b f => f (.bool (ltI a b))
def ibLeq : IB := fun _ a b f => f (.bool (notB (ltI b a)))
def ibGtr : IB := fun _ a b f => f (.bool (ltI b a))
def ibGeq : IB := fun _ a b f => f (.bool (notB (ltI a b)))
def bitsOf (k : Nat) : Nat := bn (Nat.beq k 3) 64 <| bn (Nat.beq k 7) 64 <| bn (Nat.beq k 2) 32 <| bn (Nat.beq k 6) 32 <| bn (Nat.beq k 4) 8 <| bn (Nat.beq k 0) 8 16
def ibNat (g : Nat → Nat → Nat) : IB := fun k a b f => onI a (fun x => onI b (fun y => bo (bb (Nat.ble 4 k) (bb (Nat.blt x (Nat.pow 2 (bitsOf k))) (Nat.blt y (Nat.pow 2 (bitsOf k))) false) false) (f (.int k (.ofNat (g x y)))) .bad) (fun _ => .bad)) (fun _ => .bad)
def minN (a b : Nat) : Nat := bn (Nat.ble a b) a b
def ibShl : IB := fun k a b f => onI b (fun y => f (.int k (wrapK k (Int.mul a (.ofNat (Nat.pow 2 (minN y (bitsOf k)))))))) (fun _ => .bad)
def ibShr : IB := fun k a b f => onI b (fun y => f (.int k (Int.fdiv a (.ofNat (Nat.pow 2 (minN y (bitsOf k))))))) (fun _ => .bad)

/-- an operator on two integers of one kind -/
def oI (ib : IB) (x y : Rd) : DOp := fun e h k => (x e).onInt (fun kx a => (y e).onInt (fun ky b => bo (Nat.beq kx ky) (ib kx a b fun v => k v h) .bad) .bad) .bad
/-- a shift: the second operand's kind may be another -/
def oSh (ib : IB) (x y : Rd) : DOp := fun e h k => (x e).onInt (fun kx a => (y e).onInt (fun _ b => ib kx a b fun v => k v h) .bad) .bad
def strLt (d : Nat) : Nat → Nat → Nat → Nat → Bool :=
  @Nat.rec (fun _ => Nat → Nat → Nat → Nat → Bool) (fun _ _ _ _ => false)
    (fun _ ih la a lb b => bb (Nat.beq lb 0) false <| bb (Nat.beq la 0) true <| bb (Nat.blt (Nat.mod a 256) (Nat.mod b 256)) true <|
      bb (Nat.beq (Nat.mod a 256) (Nat.mod b 256)) (ih (Nat.sub la 1) (Nat.div a 256) (Nat.sub lb 1) (Nat.div b 256)) false) d
abbrev SB := Nat → Nat → Nat → Nat → AV
def sbAdd : SB := fun l a m b => .str (Nat.add l m) (Nat.add a (Nat.mul b (Nat.pow 256 l)))
def sbEql : SB := fun l a m b => .bool (bb (Nat.beq l m) (Nat.beq a b) false)
def sbNeq : SB := fun l a m b => .bool (notB (bb (Nat.beq l m) (Nat.beq a b) false))
def sbLss : SB := fun l a m b => .bool (strLt (Nat.add l 1) l a m b)
def sbGtr : SB := fun l a m b => .bool (strLt (Nat.add m 1) m b l a)
def oS (sb : SB) (x y : Rd) : DOp := fun e h k => (x e).onStr (fun l a => (y e).onStr (fun m b => bo (Nat.ble (Nat.add l m) 9223372036854775807) (k (sb l a m b) h) .bad) .bad) .bad
/-- == (pos) or != on bools, on structs and arrays without pointers, on a slice and nil -/
def oB (pos : Bool) (x y : Rd) : DOp := fun e h k => (x e).onBool (fun a => (y e).onBool (fun b => k (.bool (bb (bb a b (notB b)) pos (notB pos))) h) .bad) .bad
def oAg (sh : Nat) (pos : Bool) (x y : Rd) : DOp := fun e h k => bo (bb (keyOk sh (x e)) (keyOk sh (y e)) false) (k (.bool (bb (eqV (x e) (y e)) pos (notB pos))) h) .bad
def oSlNil (pos : Bool) (x : Rd) : DOp := fun e h k => (x e).onSl (fun _ _ _ _ _ => k (.bool (notB pos)) h) (k (.bool pos) h) .bad
def oNot (x : Rd) : DOp := fun e h k => (x e).onBool (fun b => k (.bool (notB b)) h) .bad
def oNeg (x : Rd) : DOp := fun e h k => (x e).onInt (fun kd n => k (.int kd (wrapK kd (subI 0 n))) h) .bad
def oConv (kd : Nat) (x : Rd) : DOp := fun e h k => (x e).onInt (fun _ n => k (.int kd (wrapK kd n)) h) .bad

def oMove (x : Rd) : DOp := fun e h k => k (x e) h
def oPick (c a b : Rd) : DOp := fun e h k => (c e).onBool (fun t => k (bv t (a e) (b e)) h) .bad
def oAlloc (z : AObj) : DOp := fun _ h k => h.new z fun b h => k (.ptr b 0) h
/-- v, if it is known, and a variable can hold it -/
def ckU (v : AV) (k : Out) : Out := v.onOth (fun t _ _ _ => bo (Nat.ble 8 t) .bad k) k
/-- v, if it is known, and a cell can hold it -/
def ck1 (v : AV) (k : Out) : Out := v.onOth (fun t _ _ _ => bo (Nat.ble 7 t) .bad k) k
def oBox (x : Rd) : DOp := fun e h k => ckU (x e) (h.new (mkCells (x e).cells) fun b h => k (.ptr b 0) h)
def fillL (vs : List AV) : List AV → Nat → List AV :=
  @List.rec AV (fun _ => List AV → Nat → List AV) (fun base _ => base)
    (fun v _ ih base o => @List.rec AV (fun _ => Nat → List AV) (fun _ => []) (fun b r ihb o => @Nat.rec (fun _ => List AV) (v :: ih r 0) (fun o _ => b :: ihb o) o) base o) vs
def fills (ps : List (Nat × Nat × Rd)) (e : Env) : List AV → List AV :=
  @List.rec (Nat × Nat × Rd) (fun _ => List AV → List AV) (fun base => base) (fun p _ ih base => ih (fillL (p.2.2 e).cells base p.1)) ps
def fillsK (ps : List (Nat × Nat × Rd)) (e : Env) : List AV → (List AV → Out) → Out :=
  @List.rec (Nat × Nat × Rd) (fun _ => List AV → (List AV → Out) → Out) (fun base k => k base)
    (fun p _ ih base k => ckU (p.2.2 e) (bo (Nat.beq (lenL (p.2.2 e).cells) p.2.1) (ih (fillL (p.2.2 e).cells base p.1) k) .bad)) ps
def oBuild (z : List AV) (ps : List (Nat × Nat × Rd)) : DOp := fun e h k => fillsK ps e z fun l => k (.agg l) h
def oBuildSlice (len : Nat) (z : List AV) (ps : List (Nat × Nat × Rd)) : DOp := fun e h k => fillsK ps e z fun l => h.new (mkCells l) fun b h => k (.slice b 0 len len true) h
def oLoad1 (a : Rd) : DOp := fun e h k => (a e).onPtr (fun b o => hLoad h b o fun v => k v h) .bad
def oLoadN (n : Nat) (a : Rd) : DOp := fun e h k => (a e).onPtr (fun b o => hLoadN h b o n fun l => k (.agg l) h) .bad
def oStore1 (a v : Rd) : DOp := fun e h k => (a e).onPtr (fun b o => ck1 (v e) (hStore1 h b o (v e) (k (.tup [])))) .bad
def oStoreN (n : Nat) (a v : Rd) : DOp := fun e h k => (a e).onPtr (fun b o => (v e).onTag 7 (fun _ vs _ => bo (Nat.beq (lenL vs) n) (hStore h b o vs (k (.tup []))) .bad) .bad) .bad
def oNilCheck (x : Rd) : DOp := fun e h k => (x e).onNilable (k (x e) h) .bad
def mapRd (l : List Rd) (e : Env) : List AV := @List.rec Rd (fun _ => List AV) [] (fun r _ ih => r e :: ih) l
def oMkFn (f : Nat) (first caps : List Rd) : DOp := fun e h k => k (.fn f (mapRd first e) (mapRd caps e)) h
def oMkMap (sh : Nat) : DOp := fun _ h k => h.new (.map sh []) fun b h => k (.map b) h
def onNat (v : AV) (f : Nat → Out) : Out := v.onInt (fun _ n => onI n f (fun _ => .bad)) .bad
def oMkSlice (z : List AV) (l c : Rd) : DOp := fun e h k => onNat (l e) fun l => onNat (c e) fun c => bo (bb (Nat.ble l c) (Nat.ble c 65536) false) (h.new (mkCells (repL z c)) fun b h => k (.slice b 0 l c true) h) .bad
def oNat (o : Option Rd) (e : Env) (dflt : Nat) (f : Nat → Out) : Out := @Option.rec Rd (fun _ => Out) (f dflt) (fun r => onNat (r e) f) o
def oSliceS (x : Rd) (lo hi : Option Rd) : DOp := fun e h k => (x e).onStr (fun n s => oNat hi e n fun hi => oNat lo e 0 fun lo =>
  bo (bb (Nat.ble lo hi) (Nat.ble hi n) false) (k (.str (Nat.sub hi lo) (Nat.mod (Nat.div s (Nat.pow 256 lo)) (Nat.pow 256 (Nat.sub hi lo)))) h) .bad) .bad
def oSliceV (sz : Nat) (x : Rd) (lo hi : Option Rd) : DOp := fun e h k => (x e).onSl (fun b o n c ex => oNat hi e n fun hi => oNat lo e 0 fun lo =>
    bo (bb (Nat.ble lo hi) (bb (Nat.ble hi (bn ex c n)) (bb ex true (Nat.beq c sz)) false) false) (k (.slice b (Nat.add o (Nat.mul lo sz)) (Nat.sub hi lo) (bn ex (Nat.sub c lo) c) ex) h) .bad)
  (oNat hi e 0 fun hi => oNat lo e 0 fun lo => bo (bb (Nat.beq hi 0) (Nat.beq lo 0) false) (k .nils h) .bad) .bad
def oSlice3 (sz : Nat) (x : Rd) (lo : Option Rd) (hi mx : Rd) : DOp := fun e h k => (x e).onSl (fun b o n c ex => onNat (hi e) fun hi => oNat lo e 0 fun lo => onNat (mx e) fun m =>
    bo (bb (Nat.ble lo hi) (bb (Nat.ble hi m) (Nat.ble m (bn ex c n)) false) false) (k (.slice b (Nat.add o (Nat.mul lo sz)) (Nat.sub hi lo) (Nat.sub m lo) true) h) .bad)
  (onNat (hi e) fun hi => oNat lo e 0 fun lo => onNat (mx e) fun m => bo (bb (Nat.beq hi 0) (bb (Nat.beq lo 0) (Nat.beq m 0) false) false) (k .nils h) .bad) .bad
def oSlicePtr (n sz : Nat) (x : Rd) (lo hi : Option Rd) : DOp := fun e h k => (x e).onPtr (fun b o => oNat hi e n fun hi => oNat lo e 0 fun lo =>
  bo (bb (Nat.ble lo hi) (Nat.ble hi n) false) (k (.slice b (Nat.add o (Nat.mul lo sz)) (Nat.sub hi lo) (Nat.sub n lo) true) h) .bad) .bad
def oFieldAddr (off : Nat) (x : Rd) : DOp := fun e h k => (x e).onPtr (fun b o => k (.ptr b (Nat.add o off)) h) .bad
def oField1 (off : Nat) (x : Rd) : DOp := fun e h k => (x e).onTag 7 (fun _ cs _ => nthL cs off fun v => k v h) .bad
def oFieldN (off size : Nat) (x : Rd) : DOp := fun e h k => (x e).onTag 7 (fun _ cs _ => k (.agg (takeL (dropL cs off) size)) h) .bad
def oIndexAddrV (sz : Nat) (x i : Rd) : DOp := fun e h k => (x e).onSl (fun b o n _ _ => onNat (i e) fun i => bo (Nat.blt i n) (k (.ptr b (Nat.add o (Nat.mul i sz))) h) .bad) .bad .bad
def oIndexAddrA (n sz : Nat) (x i : Rd) : DOp := fun e h k => (x e).onPtr (fun b o => onNat (i e) fun i => bo (Nat.blt i n) (k (.ptr b (Nat.add o (Nat.mul i sz))) h) .bad) .bad
def oIndexS (x i : Rd) : DOp := fun e h k => (x e).onStr (fun n s => onNat (i e) fun i => bo (Nat.blt i n) (k (.int 4 (.ofNat (Nat.mod (Nat.div s (Nat.pow 256 i)) 256))) h) .bad) .bad
def oIndexA1 (n sz : Nat) (x i : Rd) : DOp := fun e h k => (x e).onTag 7 (fun _ cs _ => onNat (i e) fun i => bo (Nat.blt i n) (nthL cs (Nat.mul i sz) fun v => k v h) .bad) .bad
def findK (kv : AV) (l : List (AV × AV)) (none : Out) (some : AV → Out) : Out := @List.rec (AV × AV) (fun _ => Out) none (fun p _ ih => bo (eqV kv p.1) (some p.2) ih) l
def blm (b : Bool) (t f : List (AV × AV)) : List (AV × AV) := Bool.rec (motive := fun _ => List (AV × AV)) f t b
def updK (kv v : AV) (l : List (AV × AV)) : List (AV × AV) := @List.rec (AV × AV) (fun _ => List (AV × AV)) [(kv, v)] (fun p r ih => blm (eqV kv p.1) ((kv, v) :: r) (p :: ih)) l
def oLookup (sh : Nat) (z : AV) (m k : Rd) : DOp := fun e h kk => (m e).onTag 2 (fun b _ _ => onMapO (h.get b) (fun sh' es => bo (bb (Nat.beq sh sh') (keyOk sh (k e)) false) (findK (k e) es (kk z h) fun v => kk v h) .bad) .bad) .bad
def oLookupOk (sh : Nat) (z : AV) (m k : Rd) : DOp := fun e h kk => (m e).onTag 2 (fun b _ _ => onMapO (h.get b) (fun sh' es => bo (bb (Nat.beq sh sh') (keyOk sh (k e)) false) (findK (k e) es (kk (.tup [z, .bool false]) h) fun v => kk (.tup [v, .bool true]) h) .bad) .bad) .bad
def oMapUpd (sh : Nat) (m k v : Rd) : DOp := fun e h kk => (m e).onTag 2 (fun b _ _ => onMapO (h.get b) (fun sh' es => bo (bb (Nat.beq sh sh') (keyOk sh (k e)) false) (h.upd b (.map sh (updK (k e) (v e) es)) (kk (.tup []))) .bad) .bad) .bad
def oExtract (i : Nat) (x : Rd) : DOp := fun e h k => (x e).onTag 8 (fun _ vs _ => nthL vs i fun v => k v h) .bad
def natV (n : Nat) : AV := .int 3 (.ofNat n)
def oLenV (x : Rd) : DOp := fun e h k => (x e).onSl (fun _ _ n _ _ => k (natV n) h) (k (natV 0) h) .bad
def oLenS (x : Rd) : DOp := fun e h k => (x e).onStr (fun n _ => k (natV n) h) .bad
def oLenM (x : Rd) : DOp := fun e h k => (x e).onTag 2 (fun b _ _ => onMapO (h.get b) (fun _ es => k (natV (lenM es)) h) .bad) .bad
/-- a new growable block, of a family of its own -/
def appNew (sz : Nat) (h : Heap) (l : List AV) (n : Nat) (k : K) : Out := h.on fun nx t => bo (bb (Nat.blt nx 262142) (Nat.ble n 67108864) false)
  (k (.slice (Nat.add nx 1) 0 n sz false) (.mk (Nat.add nx 2) ((t.set nx (.fam (Nat.add nx 1) (Nat.add nx 1) (Nat.add nx 1))).set (Nat.add nx 1) (.cells (lenL l) (ofL l) 1 nx)))) .bad
/-- a growable block behind its last cell -/
def appGrow (sz : Nat) (h : Heap) (b fm : Nat) (l : List AV) (n : Nat) (k : K) : Out :=
  onFam (h.get fm) (fun ow fl tp => bo (bb (Nat.beq b ow) true (Nat.ble fl b)) (h.on fun nx t => bo (bb (Nat.blt nx 262143) (Nat.ble n 67108864) false)
    (k (.slice nx 0 n sz false) (.mk (Nat.add nx 1) ((t.set fm (bob (Nat.beq b tp) (.fam ow fl nx) (.fam b nx nx))).set nx (.cells (lenL l) (ofL l) 1 fm)))) .bad) .bad) .bad
def appTo (sz : Nat) (s : AV) (h : Heap) (m : Nat) (new : List AV) (k : K) : Out :=
  s.onSl (fun b o n c ex => bo (Nat.beq m 0) (k s h) <|
      bo ex (bo (Nat.ble (Nat.add n m) c)
          (hStore h b (Nat.add o (Nat.mul n sz)) new fun h => k (.slice b o (Nat.add n m) c true) h)
          (hLoadN h b o (Nat.mul n sz) fun old => appNew sz h (appL old new) (Nat.add n m) k))
        (bo (Nat.beq c sz) (onCells (h.get b) (fun nb ct kd fm => bo (Nat.beq (Nat.add o (Nat.mul n sz)) nb)
            (bo (Nat.beq kd 1) (appGrow sz h b fm (appL (readCT ct (Nat.mul n sz) o) new) (Nat.add n m) k) .bad)
            (hStore h b (Nat.add o (Nat.mul n sz)) new fun h => k (.slice b o (Nat.add n m) sz false) h)) .bad) .bad))
    (bo (Nat.beq m 0) (k .nils h) (appNew sz h new m k)) .bad
def oAppend (sz : Nat) (s x : Rd) : DOp := fun e h k => (x e).onSl (fun b o n _ _ => hLoadN h b o (Nat.mul n sz) fun new => appTo sz (s e) h n new k) (appTo sz (s e) h 0 [] k) .bad
def oCopy (sz : Nat) (d s : Rd) : DOp := fun e h k => (d e).onSl (fun b o n _ _ => (s e).onSl (fun b' o' n' _ _ =>
    hLoadN h b' o' (Nat.mul (minN n n') sz) fun vs => hStore h b o vs fun h => k (natV (minN n n')) h) (k (natV 0) h) .bad) ((s e).onSl (fun _ _ _ _ _ => k (natV 0) h) (k (natV 0) h) .bad) .bad
def oMinMax (mx : Bool) (x y : Rd) : DOp := fun e h k => (x e).onInt (fun kx a => (y e).onInt (fun ky b => bo (Nat.beq kx ky) (k (.int kx (bi (bb (ltI a b) mx (notB mx)) b a)) h) .bad) .bad) .bad
def oClear (z : List AV) (x : Rd) : DOp := fun e h k => (x e).onSl (fun b o n _ _ => hStore h b o (repL z n) (k (.tup []))) (k (.tup []) h) .bad

/-! control -/
/-- tag 0: a call of function i; 1: a round of loop i -/
abbrev Self := Nat → Nat → List AV → Heap → Out
/-- rounds still allowed; the loop in whose round we are (0: none; l + 1); calls -/
structure Ctx where
  n : Nat
  ro : Nat
  s : Self
abbrev Run := Ctx → Env → Heap → Out

def onOut (o : Out) (nrm : Env → Heap → Out) (ext : Nat → Env → Heap → Out) (ret : Env → Heap → Out) : Out :=
  @Out.rec (fun _ => Out) .bad nrm ext ret (fun _ _ => .bad) o
def onVal (o : Out) (f : AV → Heap → Out) : Out :=
  @Out.rec (fun _ => Out) .bad (fun _ _ => .bad) (fun _ _ _ => .bad) (fun _ _ => .bad) f o
def rSkip : Run := fun _ e h => .nrm e h
def rExit (i : Nat) : Run := fun _ e h => .ext i e h
def rRet : Run := fun _ e h => .ret e h
def rSeq (a b : Run) : Run := fun c e h => onOut (a c e h) (b c) .ext .ret
def rCond (x : Rd) (a b : Run) : Run := fun c e h => (x e).onBool (fun t => bo t (a c e h) (b c e h)) .bad
def rBlock (id : Nat) (b : Run) : Run := fun c e h => onOut (b c e h) .nrm (fun i e h => bo (Nat.beq i id) (.nrm e h) (.ext i e h)) .ret
def loopN (b : Run) (c : Ctx) (n : Nat) : Env → Heap → Out := @Nat.rec (fun _ => Env → Heap → Out) (fun _ _ => .bad) (fun _ ih e h => onOut (b c e h) ih .ext .ret) n
def rLoop (b : Run) : Run := fun c => loopN b c c.n
/-- an operation, and what comes behind it -/
def rO (op : DOp) (w : Wr) (next : Run) : Run := fun c e h => op e h fun v h => next c (w v e) h
def rCall (f : Nat) (args : List Rd) (w : Wr) (next : Run) : Run := fun c e h => onVal (c.s 0 f (mapRd args e) h) fun v h => next c (w v e) h
def rCallV (f : Rd) (args : List Rd) (w : Wr) (next : Run) : Run := fun c e h =>
  (f e).onOth (fun t g first caps => bo (Nat.beq t 4) (onVal (c.s 0 g (appL first (appL (mapRd args e) caps)) h) fun v h => next c (w v e) h)
    (bo (Nat.beq t 5) (onVal (c.s 1 g (mapRd args e) h) fun v h => next c (w v e) h) .bad)) .bad
/-- op, with what comes behind it, where the guard says so; next, where not -/
def rG (g : Rd) (want : Bool) (w : Wr) (op : Run → Run) (next : Run) : Run := fun c e h =>
  (g e).onBool (fun b => bo (bb b want (notB want)) (op next c e h) (next c (w (.tup []) e) h))
    ((g e).onTag 8 (fun _ l _ => @List.rec AV (fun _ => Out) (next c (w (.tup []) e) h) (fun _ _ _ => .bad) l) .bad)
/-- op once more: its value is still the one that x has -/
def rChk (op : DOp) (x : Rd) (next : Run) : Run := fun c e h => op e h fun v _ => bo (sameV v (x e)) (next c e h) .bad
def chkA (z : Env → List AV) (b : Nat) (next : Run) : Run := fun c e h =>
  onCells (h.get b) (fun nb ct kd fm => bo (bb (Nat.beq kd 0) (bb (Nat.beq fm 0) (Nat.beq nb (lenL (z e))) false) false) (bo (sameV (.agg (readCT ct nb 0)) (.agg (z e))) (next c e h) .bad) .bad) .bad
/-- the block that x points to still has the cells that it was made with -/
def rChkA (z : Env → List AV) (x : Rd) (next : Run) : Run := fun c e h =>
  (x e).onPtr (fun b _ => chkA z b next c e h) ((x e).onSl (fun b _ _ _ _ => chkA z b next c e h) .bad .bad)

/-! functions -/
abbrev Res := Env → Heap → (List AV → Out) → Out
def resNil : Res := fun _ _ k => k []
def resT (x : Rd) (r : Res) : Res := fun e h k => r e h fun l => k (x e :: l)
def res1 (x : Rd) (r : Res) : Res := fun e h k => (x e).onPtr (fun b o => hLoad h b o fun v => r e h fun l => k (v :: l)) .bad
def resN (n : Nat) (x : Rd) (r : Res) : Res := fun e h k => (x e).onPtr (fun b o => hLoadN h b o n fun v => r e h fun l => k (.agg v :: l)) .bad
def packRes (l : List AV) : AV := @List.rec AV (fun _ => AV) (.tup l) (fun v r _ => @List.rec AV (fun _ => AV) v (fun _ _ _ => .tup l) r) l
def envOf (l : List AV) : List Wr → Env → Env := @List.rec AV (fun _ => List Wr → Env → Env) (fun _ e => e) (fun v _ ih ws e => @List.rec Wr (fun _ => Env) e (fun w r _ => ih r (w v e)) ws) l
/-- sm: one whose answer is known for some arguments -/
inductive DF where
  | none
  | mk (ws : List Wr) (res : Res) (code : Run)
  | sm (chk : List AV → Heap → Bool) (v : AV) (ws : List Wr) (res : Res) (code : Run)
def callB (ws : List Wr) (res : Res) (code : Run) (n : Nat) (s : Self) (args : List AV) (h : Heap) : Out :=
  @Out.rec (fun _ => Out) .bad (fun e h => res e h fun l => .val (packRes l) h) (fun _ _ _ => .bad) (fun e h => res e h fun l => .val (packRes l) h) (fun _ _ => .bad) (code ⟨n, 0, s⟩ (envOf args ws Env.nil) h)
def callF (d : DF) (n : Nat) (s : Self) (args : List AV) (h : Heap) : Out :=
  @DF.rec (fun _ => Out) .bad (fun ws res code => callB ws res code n s args h) (fun chk v ws res code => bo (chk args h) (.val v h) (callB ws res code n s args h)) d

/-! ranges over functions -/
def lenW (l : List Wr) : Nat := @List.rec Wr (fun _ => Nat) 0 (fun _ _ ih => Nat.add ih 1) l
inductive Site where
  | none
  | mk (ps : List Wr) (assign body : Run)
def rgDfr (ro : Nat) (h : Heap) (k : Nat → Heap → Out) : Out :=
  bo (Nat.beq ro 0) (h.new .dfr k) (onLoop (h.get (Nat.sub ro 1)) (fun _ _ _ _ _ d => k d h) .bad)
def rgEnd (e : Env) (l : Nat) (h : Heap) : Out :=
  onLoop (h.get l) (fun st p pid env si d => bo (Nat.beq st 1) .bad (h.upd l (.loop 3 p pid env si d) fun h =>
    bo (Nat.beq p 0) (.nrm e h) (bo (Nat.beq p 1) (.ret e h) (.ext pid e h)))) .bad
def rRange (f : Rd) (site : Nat) : Run := fun c e h =>
  (f e).onTag 4 (fun g first caps => rgDfr c.ro h fun d h => h.new (.loop 0 0 0 e site d) fun l h =>
    onVal (c.s 0 g (appL first (.yld l :: caps)) h) fun _ h => rgEnd e l h) .bad
def endRound (l : Nat) (st p pid : Nat) (b : Bool) (h : Heap) : Out :=
  onLoop (h.get l) (fun _ _ _ env si d => h.upd l (.loop st p pid env si d) fun h => .val (.bool b) h) .bad
def runY2 (n l : Nat) (s : Self) (body : Run) (e : Env) (h : Heap) : Out :=
  onLoop (h.get l) (fun st p pid env si d => bo (Nat.beq st 0) (h.upd l (.loop 1 p pid env si d) fun h =>
    onOut (body ⟨n, Nat.add l 1, s⟩ e h) (fun _ h => endRound l 0 0 0 true h) (fun i _ h => endRound l 2 2 i false h) (fun _ h => endRound l 2 1 0 false h)) .bad) .bad
def runY (sites : Nat → Site) (n : Nat) (s : Self) (l : Nat) (args : List AV) (h : Heap) : Out :=
  onLoop (h.get l) (fun _ _ _ env si _ => @Site.rec (fun _ => Out) .bad (fun ps assign body =>
    bo (Nat.beq (lenL args) (lenW ps)) (onOut (assign ⟨n, Nat.add l 1, s⟩ (envOf args ps env) h) (fun e h => runY2 n l s body e h) (fun _ _ _ => .bad) (fun _ _ => .bad)) .bad) (sites si)) .bad
def table (ft : Nat → DF) (sites : Nat → Site) (fuel n : Nat) : Self :=
  @Nat.rec (fun _ => Self) (fun _ _ _ _ => .bad) (fun _ ih tag f args h => bo (Nat.beq tag 0) (callF (ft f) n ih args h) (runY sites n ih f args h)) fuel
end
end Dv
/-! the compiler: Go's code to the evaluator's own, as data -/
namespace Dv
open Go

inductive OpdS where
  /-- a temporary; one of the region at work (the last one written: 0); a constant -/
  | t (i : Nat)
  | l (i : Nat)
  | c (v : AV)

inductive OpS where
  | move (x : OpdS)
  | pick (c a b : OpdS)
  | alloc (z : List AV)
  | box (x : OpdS)
  | build (z : List AV) (ps : List (Nat × Nat × OpdS))
  | buildSlice (len : Nat) (z : List AV) (ps : List (Nat × Nat × OpdS))
  | load1 (a : OpdS)
  | loadN (n : Nat) (a : OpdS)
  | store1 (a v : OpdS)
  | storeN (n : Nat) (a v : OpdS)
  | nilCheck (x : OpdS)
  | int (op : BinOp) (x y : OpdS)
  | sh (op : BinOp) (x y : OpdS)
  | str (op : BinOp) (x y : OpdS)
  | bool (pos : Bool) (x y : OpdS)
  | agEq (sh : Nat) (pos : Bool) (x y : OpdS)
  | slNil (pos : Bool) (x : OpdS)
  | not (x : OpdS)
  | neg (x : OpdS)
  | conv (k : Nat) (x : OpdS)
  | mkFn (f : Nat) (first caps : List OpdS)
  | mkMap (sh : Nat)
  | mkSlice (z : List AV) (l c : OpdS)
  | sliceS (x : OpdS) (lo hi : Option OpdS)
  | sliceV (sz : Nat) (x : OpdS) (lo hi : Option OpdS)
  | slice3 (sz : Nat) (x : OpdS) (lo : Option OpdS) (hi mx : OpdS)
  | slicePtr (n sz : Nat) (x : OpdS) (lo hi : Option OpdS)
  | fieldAddr (off : Nat) (x : OpdS)
  | field1 (off : Nat) (x : OpdS)
  | fieldN (off size : Nat) (x : OpdS)
  | indexAddrV (sz : Nat) (x i : OpdS)
  | indexAddrA (n sz : Nat) (x i : OpdS)
  | indexS (x i : OpdS)
  | indexA1 (n sz : Nat) (x i : OpdS)
  | lookup (kd : Nat) (z : AV) (m k : OpdS)
  | lookupOk (kd : Nat) (z : AV) (m k : OpdS)
  | mapUpd (kd : Nat) (m k v : OpdS)
  | extract (i : Nat) (x : OpdS)
  | lenV (x : OpdS)
  | lenS (x : OpdS)
  | lenM (x : OpdS)
  | append (sz : Nat) (s x : OpdS)
  | copy (sz : Nat) (d s : OpdS)
  | minMax (mx : Bool) (x y : OpdS)
  | clear (z : List AV) (x : OpdS)
  | call (f : Nat) (args : List OpdS)
  | callV (f : OpdS) (args : List OpdS)

/-- 0: looks at no memory; 1: reads; 2: an allocation of known cells; 3: changes memory, or calls -/
def clsOf : Op → Nat
  | .alloc _ | .box _ _ | .buildSlice .. => 2
  | .load .. | .lookup .. => 1
  | .call c => match c.callee with
    | .builtin .len => 1
    | .builtin .min => 0
    | .builtin .max => 0
    | _ => 3
  | .move _ | .assign _ | .pick .. | .build .. | .nilCheck _ | .binOp .. | .unOp .. | .convert .. | .makeFunc .. | .slice .. | .fieldAddr .. | .field .. | .indexAddr .. | .index .. | .extract .. => 0
  | _ => 3

inductive DstS where
  | none
  | slot (i : Nat)
  | loc

structure OperS where
  dst : DstS
  op : OpS
  guard : Option (OpdS × Bool)

/-- an operation; a look whether operation 'op', whose value lies at 'at_', still has it -/
inductive StS where
  | op (o : OperS)
  | chk (op : OpS) (at_ : OpdS) (guard : Option (OpdS × Bool))

inductive ItemS where
  | op (i : Nat)
  | chk (i : Nat)

inductive CodeS where
  | skip
  | region (steps : List StS)
  | seq (a b : CodeS)
  | cond (c : OpdS) (thn els : CodeS)
  | block (id : Nat) (body : CodeS)
  | loop (body : CodeS)
  | rangeFunc (f : OpdS) (site : Nat)
  | exit (id : Nat)
  | ret

inductive ResS where
  | tmp (t : Nat)
  | cell1 (a : Nat)
  | cellN (a n : Nat)

structure FuncS where
  np : Nat
  res : List ResS
  code : CodeS

def kcode : IntKind → Nat
  | .i8 => 0 | .i16 => 1 | .i32 => 2 | .i64 => 3 | .u8 => 4 | .u16 => 5 | .u32 => 6 | .u64 => 7
def strBits : List UInt8 → Nat
  | [] => 0
  | b :: r => b.toNat + 256 * strBits r
def oneC : Value → Bool
  | .agg _ | .tuple _ => false
  | _ => true
mutual
/-- a constant -/
def ofV : Value → Option AV
  | .int k n => some (.int (kcode k) n)
  | .bool b => some (.bool b)
  | .string s => some (.str s.size (strBits s.data.toList))
  | .pointer none => some .nilp
  | .slice none 0 0 => some .nils
  | .map none => some .nilm
  | .nilFunc => some .nilf
  | .agg ⟨cs⟩ => if cs.all oneC then (ofVs cs).map .agg else none
  | .tuple ⟨cs⟩ => (ofVs cs).map .tup
  | .func (.func f) ⟨a⟩ ⟨b⟩ => (ofVs a).bind fun a => (ofVs b).map fun b => .fn f a b
  | _ => none
def ofVs : List Value → Option (List AV)
  | [] => some []
  | v :: r => (ofV v).bind fun a => (ofVs r).map fun l => a :: l
end
/-- of a type: what it is, its cells, its zero value's cells, the bytes -/
structure TI where
  desc : TypeDesc
  size : Nat
  zero : List AV
  bytes : Nat
  /-- a type without pointers, its parts side by side -/
  key : Bool
abbrev TT := Nat → Option TI
def isAggD : TypeDesc → Bool
  | .struct _ => true
  | .array _ _ => true
  | _ => false
/-- a type's row, off the program -/
def tiOfP (P : Program) (t : Nat) : Option TI :=
  (P.info? t).bind fun i => (P.underlying t).bind fun d => i.zero.bind fun z => (ofV z).bind fun a =>
    if z.cells.toList.all oneC && z.cells.size == i.size && (isAggD d || oneC z) then some { desc := d, size := i.size, zero := (match a with | .oth 7 _ l _ => l | v => [v]), bytes := i.bytes, key := P.keyTypeAt (P.types.size + 1) t && P.tiled (P.types.size + 1) t } else none
def NT : Nat := 320
def NL : Nat := 64
def findT (t : Nat) : List Nat → Nat → Option Nat
  | [], _ => none
  | u :: r, i => if Nat.beq u t then some i else findT t r (i + 1)
def tmpAt (M : List Nat) (t : Nat) : Option OpdS := match findT t M 0 with
  | some i => if Nat.blt i NL then some (.l i) else none
  | none => if Nat.blt t NT then some (.t t) else none
def opd (ng : Nat) (M : List Nat) (o : Operand) : Option OpdS := match o with
  | .tmp t => tmpAt M t
  | .const v => (ofV v).map .c
  | .global g => if Nat.blt g ng then some (.c (.ptr g 0)) else none
  | .func f => some (.c (.fn f [] []))
def opds (ng : Nat) (M : List Nat) : List Operand → Option (List OpdS)
  | [] => some []
  | x :: r => (opd ng M x).bind fun a => (opds ng M r).map fun l => a :: l
def opdO (ng : Nat) (M : List Nat) (o : Option Operand) : Option (Option OpdS) := match o with
  | none => some none
  | some x => (opd ng M x).map some
def o1 (ng : Nat) (M : List Nat) (x : Operand) (f : OpdS → OpS) : Option OpS := (opd ng M x).map f
def o2 (ng : Nat) (M : List Nat) (x y : Operand) (f : OpdS → OpdS → OpS) : Option OpS := (opd ng M x).bind fun a => (opd ng M y).map fun b => f a b
def o3 (ng : Nat) (M : List Nat) (x y z : Operand) (f : OpdS → OpdS → OpdS → OpS) : Option OpS := (opd ng M x).bind fun a => (opd ng M y).bind fun b => (opd ng M z).map fun c => f a b c
/-- 'tot': the cells in all -/
def parts (ng : Nat) (M : List Nat) (places : Nat → Option (Nat × Nat)) (tot : Nat) : List (Nat × Operand) → Option (List (Nat × Nat × OpdS))
  | [] => some []
  | (i, x) :: r => (places i).bind fun o => (opd ng M x).bind fun a => if o.1 + o.2 ≤ tot then (parts ng M places tot r).map fun l => (o.1, o.2, a) :: l else none
/-- the cells' kinds of a type without pointers -/
def shapeL (tt : TT) : Nat → TypeId → Option (List Nat)
  | 0, _ => none
  | d + 1, t => (tt t).bind fun i => if i.key then match i.desc with
      | .bool => some [10]
      | .int k => some [kcode k + 1]
      | .string => some [9]
      | .struct fs => (fs.toList.mapM fun f => shapeL tt d f.type).map List.flatten
      | .array n e => (shapeL tt d e).map fun l => (List.replicate n l).flatten
      | _ => none
    else none
def shCode : List Nat → Nat
  | [] => 0
  | c :: r => c + 16 * shCode r
def shapeOf (tt : TT) (t : TypeId) : Option Nat := (tt t).bind fun i => (shapeL tt 20 t).map fun l => 2 * shCode l + (if isAggD i.desc then 1 else 0)
def isNilS (o : Operand) : Bool := match o with
  | .const (.slice none 0 0) => true
  | _ => false
def compBin (tt : TT) (ng : Nat) (M : List Nat) (op : BinOp) (t : TypeId) (x y : Operand) : Option OpS :=
  (tt t).bind fun i => match i.desc, op with
    | .int _, .shl | .int _, .shr => o2 ng M x y (.sh op)
    | .int _, .andNot => none
    | .int k, .and | .int k, .or | .int k, .xor => if k.signed then none else o2 ng M x y (.int op)
    | .int _, _ => o2 ng M x y (.int op)
    | .string, .add | .string, .eql | .string, .neq | .string, .lss | .string, .gtr => o2 ng M x y (.str op)
    | .bool, .eql => o2 ng M x y (.bool true)
    | .bool, .neq => o2 ng M x y (.bool false)
    | .slice _, .eql => if isNilS y then o1 ng M x (.slNil true) else if isNilS x then o1 ng M y (.slNil true) else none
    | .slice _, .neq => if isNilS y then o1 ng M x (.slNil false) else if isNilS x then o1 ng M y (.slNil false) else none
    | .struct _, .eql | .array _ _, .eql => (shapeOf tt t).bind fun sh => o2 ng M x y (.agEq sh true)
    | .struct _, .neq | .array _ _, .neq => (shapeOf tt t).bind fun sh => o2 ng M x y (.agEq sh false)
    | _, _ => none
def repZ (z : List AV) : Nat → List AV
  | 0 => []
  | n + 1 => z ++ repZ z n
def compOp (tt : TT) (ng : Nat) (M : List Nat) (o : Op) : Option OpS :=
  match o with
  | .move x | .assign x => o1 ng M x .move
  | .pick c a b => o3 ng M c a b .pick
  | .alloc t => (tt t).map fun i => .alloc i.zero
  | .box t x => (tt t).bind fun _ => o1 ng M x .box
  | .build t ps => (tt t).bind fun i => match i.desc with
    | .struct fs => if fs.toList.all (fun f => (tt f.type).isSome) then (parts ng M (fun j => (fs[j]?).bind fun f => (tt f.type).map fun ie => (f.offset, ie.size)) i.size ps.toList).map (.build i.zero) else none
    | .array _ e => (tt e).bind fun ie => (parts ng M (fun j => some (j * ie.size, ie.size)) i.size ps.toList).map (.build i.zero)
    | _ => none
  | .buildSlice t len ps => (tt t).bind fun i => match i.desc with
    | .slice e => (tt e).bind fun ie => if len * ie.size > 100000 then none else (parts ng M (fun j => some (j * ie.size, ie.size)) (len * ie.size) ps.toList).map (.buildSlice len (repZ ie.zero len))
    | _ => none
  | .load t a => (tt t).bind fun i => if isAggD i.desc then o1 ng M a (.loadN i.size) else if i.size = 1 then o1 ng M a .load1 else none
  | .store t a v => (tt t).bind fun i => if isAggD i.desc then o2 ng M a v (.storeN i.size) else if i.size = 1 then o2 ng M a v .store1 else none
  | .nilCheck x => o1 ng M x .nilCheck
  | .binOp op t x y _ => compBin tt ng M op t x y
  | .unOp .not _ x => o1 ng M x .not
  | .unOp .neg _ x => o1 ng M x .neg
  | .convert s d x => (tt s).bind fun j => (tt d).bind fun i => match j.desc, i.desc with
    | .int _, .int k => o1 ng M x (.conv (kcode k))
    | _, _ => none
  | .makeFunc (.func f) a b => (opds ng M a.toList).bind fun a => (opds ng M b.toList).map fun b => .mkFn f a b
  | .makeMap t none => (tt t).bind fun i => match i.desc with
    | .map kt _ => (shapeOf tt kt).map .mkMap
    | _ => none
  | .makeSlice t l c => (tt t).bind fun i => match i.desc with
    | .slice e => (tt e).bind fun ie => if ie.bytes ≤ 1048576 then o2 ng M l c (.mkSlice ie.zero) else none
    | _ => none
  | .slice t x l h m => (tt t).bind fun i => match i.desc, m with
    | .string, none => (opd ng M x).bind fun x => (opdO ng M l).bind fun l => (opdO ng M h).map fun h => .sliceS x l h
    | .slice e, none => (tt e).bind fun ie => (opd ng M x).bind fun x => (opdO ng M l).bind fun l => (opdO ng M h).map fun h => .sliceV ie.size x l h
    | .slice e, some m => (tt e).bind fun ie => (opd ng M x).bind fun x => (opdO ng M l).bind fun l => (opdO ng M h).bind fun h => (opd ng M m).bind fun m => h.map fun h => .slice3 ie.size x l h m
    | .array n e, none => (tt e).bind fun ie => (opd ng M x).bind fun x => (opdO ng M l).bind fun l => (opdO ng M h).map fun h => .slicePtr n ie.size x l h
    | _, _ => none
  | .fieldAddr s x f => (tt s).bind fun i => match i.desc with
    | .struct fs => (fs[f]?).bind fun fl => (tt fl.type).bind fun ie => if ie.size = 0 then none else o1 ng M x (.fieldAddr fl.offset)
    | _ => none
  | .field s x f => (tt s).bind fun i => match i.desc with
    | .struct fs => (fs[f]?).bind fun fl => (tt fl.type).bind fun ie => if isAggD ie.desc then o1 ng M x (.fieldN fl.offset ie.size) else o1 ng M x (.field1 fl.offset)
    | _ => none
  | .indexAddr t x ix => (tt t).bind fun i => match i.desc with
    | .slice e => (tt e).bind fun ie => o2 ng M x ix (.indexAddrV ie.size)
    | .array n e => (tt e).bind fun ie => o2 ng M x ix (.indexAddrA n ie.size)
    | _ => none
  | .index t x ix => (tt t).bind fun i => match i.desc with
    | .string => o2 ng M x ix .indexS
    | .array n e => (tt e).bind fun ie => if isAggD ie.desc then none else o2 ng M x ix (.indexA1 n ie.size)
    | _ => none
  | .lookup t m k ok => (tt t).bind fun i => match i.desc with
    | .map kt e => (shapeOf tt kt).bind fun kd => (tt e).bind fun ie => if isAggD ie.desc then none else match ie.zero with
      | [z] => if ok then o2 ng M m k (.lookupOk kd z) else o2 ng M m k (.lookup kd z)
      | _ => none
    | _ => none
  | .mapUpdate t m k v | .insert t m k v => (tt t).bind fun i => match i.desc with
    | .map kt _ => (shapeOf tt kt).bind fun kd => o3 ng M m k v (.mapUpd kd)
    | _ => none
  | .extract x i => o1 ng M x (.extract i)
  | .call c => match c.callee with
    | .builtin .len => match c.args.toList, c.argTypes.toList with
      | [x], [t] => (tt t).bind fun i => match i.desc with
        | .slice _ => o1 ng M x .lenV
        | .string => o1 ng M x .lenS
        | .map _ _ => o1 ng M x .lenM
        | _ => none
      | _, _ => none
    | .builtin .append => match c.args.toList, c.argTypes.toList with
      | [s, x], [t, u] => (tt t).bind fun i => (tt u).bind fun j => match i.desc, j.desc with
        | .slice e, .slice _ => (tt e).bind fun ie => if ie.bytes ≤ 1048576 ∧ 0 < ie.size then o2 ng M s x (.append ie.size) else none
        | _, _ => none
      | _, _ => none
    | .builtin .copy => match c.args.toList, c.argTypes.toList with
      | [s, x], [t, u] => (tt t).bind fun i => (tt u).bind fun j => match i.desc, j.desc with
        | .slice e, .slice _ => (tt e).bind fun ie => o2 ng M s x (.copy ie.size)
        | _, _ => none
      | _, _ => none
    | .builtin .clear => match c.args.toList, c.argTypes.toList with
      | [s], [t] => (tt t).bind fun i => match i.desc with
        | .slice e => (tt e).bind fun ie => o1 ng M s (.clear ie.zero)
        | _ => none
      | _, _ => none
    | .builtin .min => match c.args.toList with | [x, y] => o2 ng M x y (.minMax false) | _ => none
    | .builtin .max => match c.args.toList with | [x, y] => o2 ng M x y (.minMax true) | _ => none
    | .builtin _ => none
    | .invoke _ _ => none
    | .value (.func f) => (opds ng M c.args.toList).map (.call f)
    | .value f => (opd ng M f).bind fun f => (opds ng M c.args.toList).map (.callV f)
  | _ => none

/-! the plan of a region that draws its order -/
def opTmps (o : Op) : List Nat := o.operands.toList.filterMap fun | .tmp t => some t | _ => none
def tmpsOf (ops : Array Oper) (o : Oper) : List Nat :=
  opTmps o.op ++ (match o.guard with | some (j, _) => (((ops[j]?).bind (·.dst)).toList) | none => [])
def ordered (b : Array Nat) (i j : Nat) : Bool := (b.getD j 0).testBit i
/-- it writes what another one has looked at before -/
def lateW (ops : Array Oper) (b : Array Nat) (i : Nat) : Bool := match (ops[i]?).bind (·.dst) with
  | some d => (List.range ops.size).any fun j => match ops[j]? with
    | some y => (tmpsOf ops y).contains d && !ordered b i j
    | none => false
  | none => false
def clsAt (ops : Array Oper) (b : Array Nat) (i : Nat) : Nat := if lateW ops b i then 3 else ((ops[i]?).map fun o => clsOf o.op).getD 3
def okPair (ops : Array Oper) (b : Array Nat) (i j : Nat) : Bool :=
  match ops[i]?, ops[j]? with
  | some x, some y =>
    (i == j || ((!(clsAt ops b i == 3 && clsAt ops b j == 3) || (ordered b i j || ordered b j i)) && (x.dst.isNone || x.dst != y.dst))) &&
      (match x.dst with | some d => !(tmpsOf ops y).contains d || (ordered b i j || (ordered b j i && i != j)) | none => true)
  | _, _ => false
/-- each operation's effects and temporaries lie in an order that the edges fix -/
def planOk (ops : Array Oper) (b : Array Nat) : Bool :=
  (List.range ops.size).all fun i => (List.range ops.size).all fun j => okPair ops b i j
def readyI (ops : Array Oper) (doneL : List Nat) (i : Nat) : Bool :=
  !doneL.contains i && match ops[i]? with
    | some o => o.after.toList.all fun e => !Region.binds .any e || doneL.contains e.on
    | none => false
def planGo (ops : Array Oper) (b : Array Nat) : Nat → List Nat → Option (List ItemS)
  | 0, doneL => if (List.range ops.size).all (fun i => doneL.contains i) then some [] else none
  | n + 1, doneL =>
    let rs := (List.range ops.size).filter (readyI ops doneL)
    match rs.find? (fun i => clsAt ops b i != 3), rs with
    | some i, _ => (planGo ops b n (i :: doneL)).map fun l => .op i :: l
    | none, i :: _ =>
      (planGo ops b n (i :: doneL)).map fun l => .op i :: ((doneL.filter fun p => (clsAt ops b p == 1 || clsAt ops b p == 2) && !ordered b p i).map ItemS.chk ++ l)
    | none, [] => none
def planOf (ops : Array Oper) (draw : Bool) : Option (List ItemS) :=
  if draw then
    let b := Region.before ops
    if planOk ops b then planGo ops b ops.size [] else none
  else some ((List.range ops.size).map .op)

/-- 'kp': the temporaries that are looked at outside the region that writes them -/
def dstS (kp : Nat → Bool) (nt : Nat) (d : Option Nat) : Option DstS := match d with
  | none => some .none
  | some t => if Nat.blt t nt then (if kp t then (if Nat.blt t NT then some (.slot t) else none) else some .loc) else none
def nextM (kp : Nat → Bool) (d : Option Nat) (M : List Nat) : List Nat := match d with
  | none => M
  | some t => if kp t then M else t :: M
def guardS (ops : Array Oper) (M : List Nat) (g : Option (Nat × Bool)) : Option (Option (OpdS × Bool)) := match g with
  | none => some none
  | some (j, w) => ((ops[j]?).bind (·.dst)).bind fun t => (tmpAt M t).map fun x => some (x, w)
def compSteps (tt : TT) (ng : Nat) (kp : Nat → Bool) (nt : Nat) (ops : Array Oper) : List ItemS → List Nat → Option (List StS)
  | [], _ => some []
  | .op i :: r, M => (ops[i]?).bind fun o => (compOp tt ng M o.op).bind fun d => (dstS kp nt o.dst).bind fun w => (guardS ops M o.guard).bind fun g =>
      (compSteps tt ng kp nt ops r (nextM kp o.dst M)).map fun l => .op ⟨w, d, g⟩ :: l
  | .chk i :: r, M => (ops[i]?).bind fun o => (compOp tt ng M o.op).bind fun d => o.dst.bind fun t => (tmpAt M t).bind fun x => (guardS ops M o.guard).bind fun g =>
      (compSteps tt ng kp nt ops r M).map fun l => .chk d x g :: l
def compRegion (tt : TT) (ng : Nat) (kp : Nat → Bool) (nt : Nat) (ops : Array Oper) (draw : Bool) : Option CodeS :=
  (planOf ops draw).bind fun pl => (compSteps tt ng kp nt ops pl []).map .region

/-- the number of the next site of a range over a function; the sites met are told -/
def compCode (tt : TT) (ng : Nat) (kp : Nat → Bool) (nt : Nat) : Nat → Code → Option (CodeS × Nat × List (List Nat × CodeS × CodeS))
  | n, .skip => some (.skip, n, [])
  | n, .label _ => some (.skip, n, [])
  | n, .region _ ops draw => (compRegion tt ng kp nt ops draw).map fun r => (r, n, [])
  | n, .seq a b => (compCode tt ng kp nt n a).bind fun (a, n, l) => (compCode tt ng kp nt n b).map fun (b, n, m) => (.seq a b, n, l ++ m)
  | n, .cond c a b => (opd ng [] c).bind fun c => (compCode tt ng kp nt n a).bind fun (a, n, l) => (compCode tt ng kp nt n b).map fun (b, n, m) => (.cond c a b, n, l ++ m)
  | n, .block i b => (compCode tt ng kp nt n b).map fun (b, n, l) => (.block i b, n, l)
  | n, .loop b => (compCode tt ng kp nt n b).map fun (b, n, l) => (.loop b, n, l)
  | n, .rangeFunc f ps a b => (opd ng [] f).bind fun f => (compCode tt ng kp nt (n + 1) a).bind fun (a, n', l) => (compCode tt ng kp nt n' b).bind fun (b, n', m) =>
      if ps.toList.all (fun p => kp p && Nat.blt p NT && Nat.blt p nt) then some (.rangeFunc f n, n', (ps.toList, a, b) :: (l ++ m)) else none
  | n, .exit i => some (.exit i, n, [])
  | n, .scope b => compCode tt ng kp nt n b
  | n, .ret => some (.ret, n, [])
  | _, _ => none
def compRes (tt : TT) (kp : Nat → Bool) : List ResultVar → Option (List ResS)
  | [] => some []
  | .tmp t :: r => if Nat.blt t NT && kp t then (compRes tt kp r).map (.tmp t :: ·) else none
  | .cell a t :: r => if Nat.blt a NT && kp a then (compRes tt kp r).bind fun r => (tt t).map fun i => (if isAggD i.desc then .cellN a i.size else .cell1 a) :: r else none
def kpOf (l : List Nat) (t : Nat) : Bool := l.any (Nat.beq t)
/-- parameters (np of them, with what is captured) lie in slots -/
def keepOk (kp : Nat → Bool) (np : Nat) : Bool := (List.range np).all kp
def compFunc (tt : TT) (ng : Nat) (kp : Nat → Bool) (site : Nat) (f : Func) : Option (FuncS × List (List Nat × CodeS × CodeS)) :=
  f.body.bind fun c => (compCode tt ng kp f.ntmps site c).bind fun (code, _, l) => (compRes tt kp f.results.toList).bind fun r =>
    if keepOk kp (f.params.size + f.nfree) && Nat.ble (f.params.size + f.nfree) NT then some (⟨f.params.size + f.nfree, r, code⟩, l) else none

/-! what it means -/
noncomputable section
def nthRd (l : List Rd) (i : Nat) : Rd := (l[i]?).getD (fun _ => .und)
def nthW (l : List Wr) (i : Nat) : Wr := (l[i]?).getD wN
def OpdS.rd : OpdS → Rd
  | .t i => nthRd rdL i
  | .l i => nthRd loL i
  | .c v => rdC v
def rds (l : List OpdS) : List Rd := l.map OpdS.rd
def rdO (o : Option OpdS) : Option Rd := o.map OpdS.rd
def rdP (l : List (Nat × Nat × OpdS)) : List (Nat × Nat × Rd) := l.map fun p => (p.1, p.2.1, p.2.2.rd)
def ibOf : BinOp → IB
  | .add => ibAdd | .sub => ibSub | .mul => ibMul | .quo => ibQuo | .rem => ibRem | .and => ibNat Nat.land | .or => ibNat Nat.lor | .xor => ibNat Nat.xor | .andNot => fun _ _ _ _ => .bad
  | .shl => ibShl | .shr => ibShr | .eql => ibEql | .neq => ibNeq | .lss => ibLss | .leq => ibLeq | .gtr => ibGtr | .geq => ibGeq
def sbOf : BinOp → SB
  | .add => sbAdd | .neq => sbNeq | .lss => sbLss | .gtr => sbGtr | _ => sbEql
def OpS.op : OpS → DOp
  | .move x => oMove x.rd
  | .pick c a b => oPick c.rd a.rd b.rd
  | .alloc z => oAlloc (mkCells z)
  | .box x => oBox x.rd
  | .build z ps => oBuild z (rdP ps)
  | .buildSlice n z ps => oBuildSlice n z (rdP ps)
  | .load1 a => oLoad1 a.rd
  | .loadN n a => oLoadN n a.rd
  | .store1 a v => oStore1 a.rd v.rd
  | .storeN n a v => oStoreN n a.rd v.rd
  | .nilCheck x => oNilCheck x.rd
  | .int op x y => oI (ibOf op) x.rd y.rd
  | .sh op x y => oSh (ibOf op) x.rd y.rd
  | .str op x y => oS (sbOf op) x.rd y.rd
  | .bool p x y => oB p x.rd y.rd
  | .agEq c p x y => oAg c p x.rd y.rd
  | .slNil p x => oSlNil p x.rd
  | .not x => oNot x.rd
  | .neg x => oNeg x.rd
  | .conv k x => oConv k x.rd
  | .mkFn f a b => oMkFn f (rds a) (rds b)
  | .mkMap c => oMkMap c
  | .mkSlice z l c => oMkSlice z l.rd c.rd
  | .sliceS x l h => oSliceS x.rd (rdO l) (rdO h)
  | .sliceV sz x l h => oSliceV sz x.rd (rdO l) (rdO h)
  | .slice3 sz x l h m => oSlice3 sz x.rd (rdO l) h.rd m.rd
  | .slicePtr n sz x l h => oSlicePtr n sz x.rd (rdO l) (rdO h)
  | .fieldAddr o x => oFieldAddr o x.rd
  | .field1 o x => oField1 o x.rd
  | .fieldN o s x => oFieldN o s x.rd
  | .indexAddrV sz x i => oIndexAddrV sz x.rd i.rd
  | .indexAddrA n sz x i => oIndexAddrA n sz x.rd i.rd
  | .indexS x i => oIndexS x.rd i.rd
  | .indexA1 n sz x i => oIndexA1 n sz x.rd i.rd
  | .lookup kd z m k => oLookup kd z m.rd k.rd
  | .lookupOk kd z m k => oLookupOk kd z m.rd k.rd
  | .mapUpd kd m k v => oMapUpd kd m.rd k.rd v.rd
  | .extract i x => oExtract i x.rd
  | .lenV x => oLenV x.rd
  | .lenS x => oLenS x.rd
  | .lenM x => oLenM x.rd
  | .append sz s x => oAppend sz s.rd x.rd
  | .copy sz d s => oCopy sz d.rd s.rd
  | .minMax m x y => oMinMax m x.rd y.rd
  | .clear z x => oClear z x.rd
  | .call _ _ => fun _ _ _ => .bad
  | .callV _ _ => fun _ _ _ => .bad
def DstS.w : DstS → Wr
  | .none => wN
  | .slot i => nthW wL i
  | .loc => wL0
def OpS.run (o : OpS) (w : Wr) (next : Run) : Run := match o with
  | .call f args => rCall f (rds args) w next
  | .callV f args => rCallV f.rd (rds args) w next
  | o => rO o.op w next
def OperS.run (o : OperS) (next : Run) : Run := match o.guard with
  | none => o.op.run o.dst.w next
  | some (t, want) => rG t.rd want o.dst.w (o.op.run o.dst.w) next
def OpS.chk1 (o : OpS) (x : Rd) (next : Run) : Run := match o with
  | .alloc z => rChkA (fun _ => z) x next
  | .box y => rChkA (fun e => (y.rd e).cells) x next
  | .buildSlice _ z ps => rChkA (fun e => fills (rdP ps) e z) x next
  | op => rChk op.op x next
def chkRun (o : OpS) (x : OpdS) (g : Option (OpdS × Bool)) (next : Run) : Run := match g with
  | none => o.chk1 x.rd next
  | some (t, want) => rG t.rd want wN (o.chk1 x.rd) next
def runSteps : List StS → Run
  | [] => rSkip
  | .op o :: r => o.run (runSteps r)
  | .chk o x g :: r => chkRun o x g (runSteps r)
def CodeS.run : CodeS → Run
  | .skip => rSkip
  | .region steps => runSteps steps
  | .seq a b => rSeq a.run b.run
  | .cond c a b => rCond c.rd a.run b.run
  | .block i b => rBlock i b.run
  | .loop b => rLoop b.run
  | .rangeFunc f s => rRange f.rd s
  | .exit i => rExit i
  | .ret => rRet
def resRun : List ResS → Res
  | [] => resNil
  | .tmp t :: r => resT (nthRd rdL t) (resRun r)
  | .cell1 a :: r => res1 (nthRd rdL a) (resRun r)
  | .cellN a n :: r => resN n (nthRd rdL a) (resRun r)
def FuncS.df (f : FuncS) : DF := .mk (wL.take f.np) (resRun f.res) f.code.run
end
end Dv
