import Derived.Test.YtinopkpnlibopaaAbBase
import Derived.Orders
/- An abstract machine over the model's code: pure typed values, rows by name, boxes by name; its definitions. -/
set_option linter.unusedVariables false
set_option linter.unusedSimpArgs false
namespace Go.Proofs.Ytinopkpnlibopaa.Ab
open Go.RowKit

inductive Ty where
  | unit | int (k : IntKind) | bool | str | sl (e : TypeId) (t : Ty) | pair (a b : Ty)
  deriving DecidableEq, Inhabited

@[reducible] def Ty.D : Ty → Type
  | .unit => Unit | .int _ => Int | .bool => Bool | .str => ByteArray | .sl _ t => List t.D | .pair a b => a.D × b.D

def kdUnit : Kd Unit where
  sz := 0
  FK := fun _ _ _ cs => cs = []
  len := fun h => by rw [h]; rfl
  one := fun h u hu => by rw [h] at hu; cases hu
  stay := fun _ h => h

def Ty.kd : (t : Ty) → Kd t.D
  | .unit => kdUnit | .int k => Kd.int k | .bool => Kd.bool | .str => Kd.string | .sl e t => Kd.slice e t.kd | .pair a b => Kd.pair a.kd b.kd

def Ty.z : (t : Ty) → t.D
  | .unit => () | .int _ => (0 : Int) | .bool => false | .str => ⟨#[]⟩ | .sl _ _ => [] | .pair a b => (a.z, b.z)

def Ty.sz : Ty → Nat
  | .unit => 0 | .pair a b => a.sz + b.sz | _ => 1

def Ty.flat : Ty → Bool
  | .sl _ _ => false | .pair a b => a.flat && b.flat | _ => true

/-- Numbers and bools alone. -/
def Ty.nos : Ty → Bool
  | .unit => true | .int _ => true | .bool => true | .str => false | .sl _ _ => false | .pair a b => a.nos && b.nos

def ikEq : IntKind → IntKind → Bool
  | .i8, .i8 | .i16, .i16 | .i32, .i32 | .i64, .i64 | .u8, .u8 | .u16, .u16 | .u32, .u32 | .u64, .u64 => true
  | _, _ => false

theorem ikEq_eq : ∀ {a b : IntKind}, ikEq a b = true → a = b := by
  intro a b h
  cases a <;> cases b <;> first | rfl | cases h

def Ty.beq : Ty → Ty → Bool
  | .unit, .unit => true
  | .int k, .int k' => ikEq k k'
  | .bool, .bool => true
  | .str, .str => true
  | .sl e t, .sl e' t' => Nat.beq e e' && t.beq t'
  | .pair a b, .pair a' b' => a.beq a' && b.beq b'
  | _, _ => false

theorem Ty.beq_eq : ∀ {a b : Ty}, a.beq b = true → a = b := by
  intro a
  induction a with
  | unit => intro b h; cases b <;> first | rfl | cases h
  | int k => intro b h; cases b <;> first | (cases h; done) | (simp only [Ty.beq] at h; rw [ikEq_eq h])
  | bool => intro b h; cases b <;> first | rfl | cases h
  | str => intro b h; cases b <;> first | rfl | cases h
  | sl e t ih => intro b h; cases b <;> first | (cases h; done) | (simp only [Ty.beq, Bool.and_eq_true] at h; rw [Nat.eq_of_beq_eq_true h.1, ih h.2])
  | pair x y ihx ihy => intro b h; cases b <;> first | (cases h; done) | (simp only [Ty.beq, Bool.and_eq_true] at h; rw [ihx h.1, ihy h.2])

/-- A list at another type, where the types are one. -/
def castL (t t' : Ty) (xs : List t.D) : Option (List t'.D) :=
  match h : t.beq t' with
  | true => some (Ty.beq_eq h ▸ xs)
  | false => none

/-- .. a single one. -/
def castT (t t' : Ty) (x : t.D) : Option t'.D :=
  match h : t.beq t' with
  | true => some (Ty.beq_eq h ▸ x)
  | false => none

/-- Entries of a map, at other types. -/
def castM (k k' v v' : Ty) (xs : List (k.D × v.D)) : Option (List (k'.D × v'.D)) :=
  match h : k.beq k', h' : v.beq v' with
  | true, true => some (Ty.beq_eq h ▸ Ty.beq_eq h' ▸ xs)
  | _, _ => none

def bAnd : Bool → Bool → Bool
  | true, b => b
  | false, _ => false

/-- Are two one? (Types without rows.) -/
def beqD : (t : Ty) → t.D → t.D → Bool
  | .unit, _, _ => true
  | .int _, a, b => (a == b : Bool)
  | .bool, a, b => (a == b : Bool)
  | .str, _, _ => false
  | .sl _ _, _, _ => false
  | .pair t u, a, b => (beqD t a.1 b.1 && beqD u a.2 b.2)

def lookD (tk tv : Ty) (k : tk.D) : List (tk.D × tv.D) → Option tv.D
  | [] => none
  | e :: r => match beqD tk k e.1 with | true => some e.2 | false => lookD tk tv k r
def updD (tk tv : Ty) (k : tk.D) (v : tv.D) : List (tk.D × tv.D) → List (tk.D × tv.D)
  | [] => [(k, v)]
  | e :: r => match beqD tk k e.1 with | true => (k, v) :: r | false => e :: updD tk tv k v r

inductive AV where
  | undef
  | hole
  | int (k : IntKind) (n : Int)
  | bool (b : Bool)
  | str (s : ByteArray)
  | nil
  | ro (e : TypeId) (t : Ty) (xs : List t.D)
  | rz (z : Bool) (e : TypeId) (t : Ty) (xs : List t.D)
  | own (n : Nat)
  | vw (n z : Nat) (l h : Int)
  | ptr (n off : Nat)
  | elo (n z : Nat) (i : Int) (off : Nat)
  | elr (t : Ty) (x : t.D) (off : Nat)
  | dyn (p : AV) (c : Nat) (j : Int)
  | agg (cs : List AV)
  | tup (vs : List AV)
  | clo (f : FuncId) (caps : List AV)

inductive Obj where
  | row (w : Bool) (e : TypeId) (t : Ty) (xs : List t.D)
  | box (T : TypeId) (cs : List AV)
  | mp (T : TypeId) (ak : Bool) (tk : Ty) (av : Bool) (tv : Ty) (es : List (tk.D × tv.D))

structure St where
  sl : Nat → AV
  mem : Nat → Option Obj
  nxt : Nat
  n : Nat
  np : Nat

def unpack : (t : Ty) → t.D → List AV
  | .unit, _ => [] | .int k, n => [.int k n] | .bool, b => [.bool b] | .str, s => [.str s] | .sl e t, xs => [.ro e t xs]
  | .pair a b, p => unpack a p.1 ++ unpack b p.2

def zeroC : Ty → List AV
  | .unit => [] | .int k => [.int k 0] | .bool => [.bool false] | .str => [.str ⟨#[]⟩] | .sl _ _ => [.nil] | .pair a b => zeroC a ++ zeroC b

/-- The list of a slice that is read; the row of the call's own that it is. -/
def rowOf (m : Nat → Option Obj) (e : TypeId) (t : Ty) : AV → Option (List t.D × List Nat)
  | .nil => some ([], [])
  | .ro e' t' xs => match Nat.beq e e' with | true => (match castL t' t xs with | some ys => some (ys, []) | none => none) | false => none
  | .vw n z l h => match m n with
    | some (.row _ e' t' xs) => (match Nat.beq e e' && Nat.beq z t.sz with
      | true => (match castL t' t xs with | some ys => some ((ys.take h.toNat).drop l.toNat, [n]) | none => none)
      | false => none)
    | _ => none
  | .rz _ e' t' xs => match Nat.beq e e' with | true => (match castL t' t xs with | some ys => some (ys, []) | none => none) | false => none
  | .own n => match m n with
    | some (.row _ e' t' xs) => (match Nat.beq e e' with | true => (match castL t' t xs with | some ys => some (ys, [n]) | none => none) | false => none)
    | _ => none
  | _ => none

/-- Cells as a value of a type; the rest; the rows of the call's own among them. -/
def pack (m : Nat → Option Obj) : (t : Ty) → List AV → Option (t.D × List AV × List Nat)
  | .unit, r => some ((), r, [])
  | .int k, .int k' n :: r => match ikEq k k' with | true => some (n, r, []) | false => none
  | .bool, .bool b :: r => some (b, r, [])
  | .str, .str s :: r => some (s, r, [])
  | .sl e t, v :: r => (match rowOf m e t v with | some (ys, ns) => some (ys, r, ns) | none => none)
  | .pair a b, cs => match pack m a cs with
    | some (x, r, ns) => (match pack m b r with | some (y, r', ns') => some ((x, y), r', ns ++ ns') | none => none)
    | none => none
  | _, _ => none

structure VT where
  agg : Bool
  t : Ty
  own : Bool

@[reducible] def PD : List VT → Type
  | [] => Unit
  | v :: r => v.t.D × PD r

/-- No rows inside. -/
def flatE : Ty → Bool
  | .sl _ t => t.flat
  | .pair a b => flatE a && flatE b
  | _ => true
def flatRs : List VT → Bool
  | [] => true
  | v :: r => (v.t.flat || (v.own && flatE v.t)) && flatRs r

/-- Shapes of what lives on: a cell (a number, a bool, a string, a row that is read), a row of the call's own, a variable in memory, a struct's value, nothing;
what is lent (by its number), a pointer to what is read, a closure, a map. -/
inductive PV where
  | cell (t : Ty) | own (e : TypeId) (t : Ty) | box (T : TypeId) (cs : List PV) | agg (cs : List PV) | nil
  | pin (row : Bool) (j : Nat) | ref (t : Ty) | clo (g : FuncId) (cs : List PV) | mp (T : TypeId) (ak : Bool) (tk : Ty) (av : Bool) (tv : Ty)

mutual
@[reducible] def PV.D : PV → Type
  | .cell t => t.D | .own _ t => List t.D | .box _ cs => PVs cs | .agg cs => PVs cs | .nil => Unit
  | .pin _ _ => Unit | .ref t => t.D | .clo _ cs => PVs cs | .mp _ _ tk _ tv => List (tk.D × tv.D)
@[reducible] def PVs : List PV → Type
  | [] => Unit
  | p :: r => p.D × PVs r
end

/-- Kinds of parameters: by value; of a shape (a closure, a pointer to what is read); a variable, a row, that is written; a row, a value that is given away. -/
inductive PT where
  | val (v : VT) | pv (p : PV) | mbox (T : TypeId) (cs : List PV) | mrow (e : TypeId) (t : Ty) | give (e : TypeId) (t : Ty) | gv (p : PV)

@[reducible] def PT.D : PT → Type
  | .val v => v.t.D | .pv p => p.D | .mbox _ cs => PVs cs | .mrow _ t => List t.D | .give _ t => List t.D | .gv p => p.D
@[reducible] def AD : List PT → Type
  | [] => Unit
  | p :: r => p.D × AD r
/-- .. as they are behind the call. -/
@[reducible] def MD : List PT → Type
  | [] => Unit
  | .mbox _ cs :: r => PVs cs × MD r
  | .mrow _ t :: r => List t.D × MD r
  | .val _ :: r => MD r
  | .pv _ :: r => MD r
  | .give _ _ :: r => MD r
  | .gv _ :: r => MD r

/-- Kinds of results. -/
inductive RT where
  | val (v : VT) | pv (p : PV)
@[reducible] def RT.D : RT → Type
  | .val v => v.t.D | .pv p => p.D
@[reducible] def RD : List RT → Type
  | [] => Unit
  | v :: r => v.D × RD r

mutual
/-- Nothing of it is of what came in. -/
def flatPV : PV → Bool
  | .cell t => t.flat | .own _ t => t.flat | .box _ cs => flatPVs cs | .agg cs => flatPVs cs | .nil => true
  | .pin _ _ => true | .ref _ => false | .clo _ cs => flatPVs cs | .mp _ _ _ _ tv => tv.flat
def flatPVs : List PV → Bool
  | [] => true
  | p :: r => flatPV p && flatPVs r
end
def flatRT : List RT → Bool
  | [] => true
  | .val v :: r => (v.t.flat || (v.own && flatE v.t)) && flatRT r
  | .pv p :: r => flatPV p && flatRT r
def flatMT : List PT → Bool
  | [] => true
  | .mbox _ cs :: r => flatPVs cs && flatMT r
  | .mrow _ t :: r => t.flat && flatMT r
  | .val _ :: r => flatMT r
  | .pv _ :: r => flatMT r
  | .give _ _ :: r => flatMT r
  | .gv _ :: r => flatMT r

def pinsN : List PT → Nat
  | [] => 0
  | .val _ :: r => pinsN r
  | .pv _ :: r => pinsN r
  | .mbox _ _ :: r => pinsN r + 1
  | .mrow _ _ :: r => pinsN r + 1
  | .give _ _ :: r => pinsN r + 1
  | .gv _ :: r => pinsN r

structure Fn where
  ps : List PT
  rs : List RT
  sem : Nat → AD ps → Option (RD rs × MD ps)

structure Env where
  agg : TypeId → Bool
  ty : TypeId → Option Ty
  elem : TypeId → Option TypeId
  byt : TypeId → Nat
  fld : TypeId → Nat → Option (Nat × TypeId)
  arr : TypeId → Option (Nat × TypeId)
  ik : TypeId → Option IntKind
  hint : Nat → Nat
  eqT : TypeId → Bool
  fn : FuncId → Option Fn
  map : TypeId → Option (TypeId × TypeId)

structure Eff where
  val : AV
  upd : List (Nat × Option Obj)
  nm : List Nat

def upd1 (m : Nat → Option Obj) (n : Nat) (o : Option Obj) : Nat → Option Obj := fun i => match Nat.beq i n with | true => o | false => m i
def updL (m : Nat → Option Obj) : List (Nat × Option Obj) → Nat → Option Obj
  | [] => m
  | (n, o) :: r => updL (upd1 m n o) r
def setS (f : Nat → AV) (d : Nat) (v : AV) : Nat → AV := fun i => match Nat.beq i d with | true => v | false => f i
def St.put (s : St) (d : Option Tmp) (v : AV) : St := match d with | some d => { s with sl := setS s.sl d v } | none => s
def St.app (s : St) (d : Option Tmp) (e : Eff) : St := { s.put d e.val with mem := updL s.mem e.upd }

def ofConst : Value → AV
  | .int k n => .int k n
  | .bool b => .bool b
  | .string s => .str s
  | .slice none 0 0 => .nil
  | _ => .undef

def St.op (s : St) : Operand → AV
  | .tmp t => s.sl t
  | .const v => ofConst v
  | .func f => .clo f []
  | .global _ => .undef

def nthA : List AV → Nat → AV
  | [], _ => .undef
  | v :: _, 0 => v
  | _ :: r, i + 1 => nthA r i

def cellsA : AV → List AV
  | .agg cs => cs
  | v => [v]

def takeA : Nat → List AV → List AV
  | 0, _ => []
  | _ + 1, [] => []
  | n + 1, v :: r => v :: takeA n r
def dropA : Nat → List AV → List AV
  | 0, l => l
  | _ + 1, [] => []
  | n + 1, _ :: r => dropA n r
def lenA : List AV → Nat
  | [] => 0
  | _ :: r => lenA r + 1

def defA : AV → Bool
  | .undef => false
  | .hole => false
  | .dyn _ _ _ => false
  | _ => true

def isNone {α : Type} : Option α → Bool
  | none => true
  | some _ => false

section
variable {R : Type}

def intBin (op : BinOp) (k : IntKind) (a b : Int) (κ : AV → Option R) : Option R :=
  match op with
  | .add => κ (.int k (k.wrap (a + b)))
  | .sub => κ (.int k (k.wrap (a - b)))
  | .mul => κ (.int k (k.wrap (a * b)))
  | .quo => if b = 0 then none else κ (.int k (k.wrap (a.tdiv b)))
  | .rem => if b = 0 then none else κ (.int k (a.tmod b))
  | .and => κ (.int k (k.wrap (BitVec.ofInt k.bits a &&& BitVec.ofInt k.bits b).toNat))
  | .or => κ (.int k (k.wrap (BitVec.ofInt k.bits a ||| BitVec.ofInt k.bits b).toNat))
  | .xor => κ (.int k (k.wrap (BitVec.ofInt k.bits a ^^^ BitVec.ofInt k.bits b).toNat))
  | .andNot => κ (.int k (k.wrap (BitVec.ofInt k.bits a &&& ~~~(BitVec.ofInt k.bits b)).toNat))
  | .eql => κ (.bool (a == b))
  | .neq => κ (.bool (a != b))
  | .lss => κ (.bool (decide (a < b)))
  | .leq => κ (.bool (decide (a ≤ b)))
  | .gtr => κ (.bool (decide (a > b)))
  | .geq => κ (.bool (decide (a ≥ b)))
  | _ => none

/-- A slice, held against nil. -/
def nilA (E : Env) (T : TypeId) (op : BinOp) (z : Bool) (κ : AV → Option R) : Option R :=
  match op, E.elem T with
  | .eql, some _ => κ (.bool z)
  | .neq, some _ => κ (.bool (!z))
  | _, _ => none

def binA (E : Env) (T : TypeId) (op : BinOp) (x y : AV) (κ : AV → Option R) : Option R :=
  match x, y with
  | .int k a, .int k' b =>
    match op with
    | .shl => if b < 0 then none else κ (.int k (k.wrap (a * 2 ^ (min b.toNat k.bits))))
    | .shr => if b < 0 then none else κ (.int k (a.fdiv (2 ^ (min b.toNat k.bits))))
    | _ => match ikEq k k' with | true => intBin op k a b κ | false => none
  | .bool a, .bool b =>
    match op, E.ty T, E.agg T with
    | .eql, some .bool, false => κ (.bool (a == b))
    | .neq, some .bool, false => κ (.bool (!(a == b)))
    | _, _, _ => none
  | .nil, .nil => nilA E T op true κ
  | .rz z _ _ _, .nil => nilA E T op z κ
  | .agg xs, .agg ys =>
    match E.ty T, E.eqT T, E.agg T with
    | some t, true, true =>
      (match pack (fun _ => none) t xs, pack (fun _ => none) t ys with
      | some (a, [], _), some (b, [], _) => (match op with
        | .eql => κ (.bool (beqD t a b))
        | .neq => κ (.bool (!(beqD t a b)))
        | _ => none)
      | _, _ => none)
    | _, _, _ => none
  | _, _ => none

def unA (op : UnOp) (x : AV) (κ : AV → Option R) : Option R :=
  match op, x with
  | .not, .bool b => κ (.bool (!b))
  | .neg, .int k n => κ (.int k (k.wrap (0 - n)))
  | .xor, .int k n => κ (.int k (k.wrap (BitVec.ofInt k.bits (if k.signed then -1 else k.max) ^^^ BitVec.ofInt k.bits n).toNat))
  | _, _ => none

/-- .. and it may be written. -/
def ownOf (m : Nat → Option Obj) (e : TypeId) (t : Ty) : AV → Option (List t.D × List Nat)
  | .nil => some ([], [])
  | .own n => match m n with
    | some (.row true e' t' xs) => (match Nat.beq e e' with | true => (match castL t' t xs with | some ys => some (ys, [n]) | none => none) | false => none)
    | _ => none
  | _ => none

def liveN (m : Nat → Option Obj) (n : Nat) : Bool := match m n with | some (.row w _ _ _) => w | some (.box _ _) => true | some (.mp _ _ _ _ _ _) => true | none => false

def frz (m : Nat → Option Obj) : List Nat → List (Nat × Option Obj)
  | [] => []
  | n :: r => match m n with
    | some (.row _ e t xs) => (n, some (.row false e t xs)) :: frz m r
    | _ => frz m r

def delL : List Nat → List (Nat × Option Obj)
  | [] => []
  | n :: r => (n, none) :: delL r
def memN (n : Nat) : List Nat → Bool
  | [] => false
  | m :: r => Nat.beq n m || memN n r
def disj : List Nat → List Nat → Bool
  | [], _ => true
  | n :: r, l => !memN n l && disj r l

def packA (m : Nat → Option Obj) (v : VT) (x : AV) : Option (v.t.D × List Nat) :=
  match v.agg, x with
  | true, .agg cs => (match pack m v.t cs with | some (d, [], ns) => some (d, ns) | _ => none)
  | true, _ => none
  | false, x => (match pack m v.t [x] with | some (d, [], ns) => some (d, ns) | _ => none)

def nodupB : List Nat → Bool
  | [] => true
  | n :: r => !memN n r && nodupB r

/-- Nothing of it is alive; at a cut alone. -/
def deadB (m : Nat → Option Obj) : List Nat → Bool
  | [] => true
  | n :: r => (match liveN m n with | true => false | false => deadB m r)
def softB (z : Bool) (m : Nat → Option Obj) : List Nat → Bool
  | [] => true
  | n :: r => (match z with | true => deadB m (n :: r) | false => false)

mutual
def grab (z : Bool) (m : Nat → Option Obj) (np : Nat) : (p : PV) → AV → Option (p.D × List Nat)
  | .cell t, v => (match pack m t [v] with | some (d, [], ns) => (match softB z m ns with | true => some (d, []) | false => none) | _ => none)
  | .own e t, v => (match v with
    | .own n => ownOf m e t (.own n)
    | _ => none)
  | .box T cs, v => (match v with
    | .ptr n off => (match m n, off with
      | some (.box U xs), 0 => (match Nat.beq T U with
        | true => (match grabs z m np cs xs with | some (d, ns) => some (d, n :: ns) | none => none)
        | false => none)
      | _, _ => none)
    | _ => none)
  | .agg cs, v => (match v with | .agg xs => grabs z m np cs xs | _ => none)
  | .nil, v => (match v with | .nil => some ((), []) | _ => none)
  | .pin row j, v => (match row, v with
    | true, .own n => (match Nat.beq n j && Nat.blt j np with | true => some ((), []) | false => none)
    | false, .ptr n 0 => (match Nat.beq n j && Nat.blt j np with | true => some ((), []) | false => none)
    | _, _ => none)
  | .ref t, v => (match v with
    | .elr t' x 0 => (match castT t' t x with | some y => some (y, []) | none => none)
    | _ => none)
  | .clo g cs, v => (match v with
    | .clo g' xs => (match Nat.beq g g' with | true => grabs z m np cs xs | false => none)
    | _ => none)
  | .mp T ak tk av tv, v => (match v with
    | .own n => (match m n with
      | some (.mp T' ak' tk' av' tv' es) => (match Nat.beq T T' && (ak == ak' && av == av') with
        | true => (match castM tk' tk tv' tv es with | some es => some (es, [n]) | none => none)
        | false => none)
      | _ => none)
    | _ => none)
def grabs (z : Bool) (m : Nat → Option Obj) (np : Nat) : (ps : List PV) → List AV → Option (PVs ps × List Nat)
  | [], [] => some ((), [])
  | p :: r, x :: xs => (match grab z m np p x with
    | some (d, ns) => (match grabs z m np r xs with | some (ds, ns') => some ((d, ds), ns ++ ns') | none => none)
    | none => none)
  | _, _ => none
end

mutual
def lay : (p : PV) → p.D → Nat → AV × List (Nat × Option Obj) × Nat
  | .cell t, d, b => (nthA (unpack t d) 0, [], b)
  | .own e t, xs, b => (.own b, [(b, some (.row true e t xs))], b + 1)
  | .box T cs, d, b => (match lays cs d (b + 1) with | (xs, us, b') => (.ptr b 0, (b, some (.box T xs)) :: us, b'))
  | .agg cs, d, b => (match lays cs d b with | (xs, us, b') => (.agg xs, us, b'))
  | .nil, _, b => (.nil, [], b)
  | .pin row j, _, b => ((match row with | true => .own j | false => .ptr j 0), [], b)
  | .ref t, x, b => (.elr t x 0, [], b)
  | .clo g cs, d, b => (match lays cs d b with | (xs, us, b') => (.clo g xs, us, b'))
  | .mp T ak tk av tv, es, b => (.own b, [(b, some (.mp T ak tk av tv es))], b + 1)
def lays : (ps : List PV) → PVs ps → Nat → List AV × List (Nat × Option Obj) × Nat
  | [], _, b => ([], [], b)
  | p :: r, d, b => (match lay p d.1 b with
    | (x, us, b1) => (match lays r d.2 b1 with | (xs, us', b2) => (x :: xs, us ++ us', b2)))
end

mutual
/-- An argument of a shape: read, not taken. -/
def packP (m : Nat → Option Obj) : (p : PV) → AV → Option (p.D × List Nat)
  | .cell t, v => (match pack m t [v] with | some (d, [], ns) => some (d, ns) | _ => none)
  | .ref t, v => (match v with
    | .elr t' x 0 => (match castT t' t x with | some y => some (y, []) | none => none)
    | .ptr n off => (match m n with
      | some (.box _ cs) => (match Nat.beq (lenA (takeA t.sz (dropA off cs))) t.sz with
        | true => (match pack m t (takeA t.sz (dropA off cs)) with | some (d, [], ns) => some (d, n :: ns) | _ => none)
        | false => none)
      | _ => none)
    | _ => none)
  | .agg cs, v => (match v with | .agg xs => packPs m cs xs | _ => none)
  | .clo g cs, v => (match v with
    | .clo g' xs => (match Nat.beq g g' with | true => packPs m cs xs | false => none)
    | _ => none)
  | .nil, v => (match v with | .nil => some ((), []) | _ => none)
  | _, _ => none
def packPs (m : Nat → Option Obj) : (ps : List PV) → List AV → Option (PVs ps × List Nat)
  | [], [] => some ((), [])
  | p :: r, x :: xs => (match packP m p x with
    | some (d, ns) => (match packPs m r xs with | some (ds, ns') => some ((d, ds), ns ++ ns') | none => none)
    | none => none)
  | _, _ => none
end

/-- An argument: the data; what is read; what is lent; the rows inside of what is lent. -/
def arg1P (m : Nat → Option Obj) : (p : PT) → AV → Option (p.D × List Nat × List Nat × List Nat)
  | .val v, x => (match packA m v x with | some (d, ns) => some (d, ns, [], []) | none => none)
  | .pv p, x => (match packP m p x with | some (d, ns) => some (d, ns, [], []) | none => none)
  | .mbox T cs, x => (match x with
    | .ptr n 0 => (match m n with
      | some (.box U ys) => (match Nat.beq T U with
        | true => (match grabs false m 0 cs ys with | some (d, is) => some (d, [], [n], is) | none => none)
        | false => none)
      | _ => none)
    | _ => none)
  | .mrow e t, x => (match x with
    | .own n => (match ownOf m e t (.own n) with | some (d, _) => some (d, [], [n], []) | none => none)
    | _ => none)
  | .give e t, x => (match x with
    | .own n => (match ownOf m e t (.own n) with | some (d, _) => some (d, [], [n], []) | none => none)
    | _ => none)
  | .gv p, x => (match grab false m 0 p x with | some (d, is) => some (d, [], [], is) | none => none)
def argsP (m : Nat → Option Obj) : (ps : List PT) → List AV → Option (AD ps × List Nat × List Nat × List Nat)
  | [], [] => some ((), [], [], [])
  | p :: r, x :: xs => (match arg1P m p x with
    | some (d, ns, pn, is) => (match argsP m r xs with
      | some (ds, ns', pn', is') => some ((d, ds), ns ++ ns', pn ++ pn', is ++ is')
      | none => none)
    | none => none)
  | _, _ => none

/-- A value's cells, its rows of the call's own named from b on. -/
def impC (own : Bool) : (t : Ty) → t.D → Nat → List AV × List (Nat × Option Obj) × Nat
  | .sl e t, xs, b => match own with
    | true => ([.own b], [(b, some (.row true e t xs))], b + 1)
    | false => ([.ro e t xs], [], b)
  | .unit, _, b => ([], [], b)
  | .int k, n, b => ([.int k n], [], b)
  | .bool, x, b => ([.bool x], [], b)
  | .str, x, b => ([.str x], [], b)
  | .pair x y, p, b => match impC own x p.1 b with
    | (c1, u1, b1) => (match impC own y p.2 b1 with | (c2, u2, b2) => (c1 ++ c2, u1 ++ u2, b2))

def wrapA (agg : Bool) (cs : List AV) : AV := match agg with | true => .agg cs | false => nthA cs 0

def impR : (rs : List RT) → RD rs → Nat → List AV × List (Nat × Option Obj) × Nat
  | [], _, b => ([], [], b)
  | .val v :: r, p, b => match impC v.own v.t p.1 b with
    | (c1, u1, b1) => (match impR r p.2 b1 with | (c2, u2, b2) => (wrapA v.agg c1 :: c2, u1 ++ u2, b2))
  | .pv q :: r, p, b => match lay q p.1 b with
    | (c1, u1, b1) => (match impR r p.2 b1 with | (c2, u2, b2) => (c1 :: c2, u1 ++ u2, b2))

/-- What was lent, behind the call. -/
def outP : (ps : List PT) → MD ps → (Nat → Nat) → (j b : Nat) → List (Nat × Option Obj) × Nat
  | [], _, _, _, b => ([], b)
  | .val _ :: r, o, pn, j, b => outP r o pn j b
  | .pv _ :: r, o, pn, j, b => outP r o pn j b
  | .gv _ :: r, o, pn, j, b => outP r o pn j b
  | .give _ _ :: r, o, pn, j, b => (match outP r o pn (j + 1) b with | (us, b') => ((pn j, none) :: us, b'))
  | .mrow e t :: r, o, pn, j, b => (match outP r o.2 pn (j + 1) b with | (us, b') => ((pn j, some (.row true e t o.1)) :: us, b'))
  | .mbox T cs :: r, o, pn, j, b => (match lays cs o.1 b with
    | (xs, u1, b1) => (match outP r o.2 pn (j + 1) b1 with | (us, b') => ((pn j, some (.box T xs)) :: (u1 ++ us), b')))

def nthN : List Nat → Nat → Nat
  | [], _ => 0
  | n :: _, 0 => n
  | _ :: r, i + 1 => nthN r i

def tupA : List AV → AV
  | [v] => v
  | vs => .tup vs

def namesOf : List (Nat × Option Obj) → List Nat
  | [] => []
  | (n, _) :: r => n :: namesOf r

def mapOp (s : St) : List Operand → List AV
  | [] => []
  | x :: r => s.op x :: mapOp s r

def lenL {α : Type} : List α → Nat
  | [] => 0
  | _ :: r => lenL r + 1

def elemsOf (m : Nat → Option Obj) (t : Ty) : Nat → List (Nat × AV) → Option (List t.D × List Nat)
  | _, [] => some ([], [])
  | i, (j, x) :: r => match Nat.beq i j && defA x with
    | true => (match pack m t (cellsA x) with
      | some (d, [], ns) => (match elemsOf m t (i + 1) r with | some (ds, ns') => some (d :: ds, ns ++ ns') | none => none)
      | _ => none)
    | false => none

def mapOpP (s : St) : List (Nat × Operand) → List (Nat × AV)
  | [] => []
  | (i, x) :: r => (i, s.op x) :: mapOpP s r

/-- Where part i of a struct or an array stands, and its type. -/
def placeA (E : Env) (T : TypeId) (i : Nat) : Option (Nat × Ty) :=
  match E.arr T with
  | some (n, U) => (match E.ty U, Nat.blt i n with | some u, true => some (i * u.sz, u) | _, _ => none)
  | none => (match E.fld T i with
    | some (off, U) => (match E.ty U with | some u => some (off, u) | none => none)
    | none => none)

/-- Parts laid over cells. -/
def fillA (E : Env) (T : TypeId) : List AV → List (Nat × AV) → Option (List AV)
  | cs, [] => some cs
  | cs, (i, x) :: r => match placeA E T i with
    | some (off, u) => (match Nat.beq (lenA (cellsA x)) u.sz && Nat.ble (off + lenA (cellsA x)) (lenA cs) && defA x with
      | true => fillA E T (takeA off cs ++ cellsA x ++ dropA (off + lenA (cellsA x)) cs) r
      | false => none)
    | none => none

def minA (mx : Bool) : AV → List AV → Option AV
  | x, [] => some x
  | .int k x, .int k' y :: r => match ikEq k k' with
    | true => minA mx (.int k (match mx with | true => (if x < y then y else x) | false => (if y < x then y else x))) r
    | false => none
  | _, _ => none

def loadA (E : Env) (T : TypeId) (cs : List AV) (off : Nat) : Option AV :=
  match E.ty T with
  | some t => (match Nat.beq (lenA (takeA t.sz (dropA off cs))) t.sz with
    | true => some (wrapA (E.agg T) (takeA t.sz (dropA off cs)))
    | false => none)
  | none => none

/-- Cells of one kind, their numbers. -/
def selI (k : IntKind) : List AV → Option (List Int)
  | [] => some []
  | .int k' n :: r => (match ikEq k k', selI k r with | true, some l => some (n :: l) | _, _ => none)
  | _ :: _ => none
def selB : List AV → Option (List Bool)
  | [] => some []
  | .bool b :: r => (match selB r with | some l => some (b :: l) | none => none)
  | _ :: _ => none
/-- One of c cells from off on, at an index that is not known. -/
def loadD (E : Env) (T : TypeId) (cs : List AV) (off c : Nat) (j : Int) : Option AV :=
  match E.ty T, E.agg T, Nat.beq (lenA (takeA c (dropA off cs))) c with
  | some (.int k), false, true => (match selI k (takeA c (dropA off cs)) with | some l => some (.int k (l.getD j.toNat 0)) | none => none)
  | some .bool, false, true => (match selB (takeA c (dropA off cs)) with | some l => some (.bool (l.getD j.toNat false)) | none => none)
  | _, _, _ => none
/-- Cells of which one is another one. -/
def putI (k : IntKind) (j v : Int) : Nat → List AV → Option (List AV)
  | _, [] => some []
  | i, .int k' n :: r => (match ikEq k k', putI k j v (i + 1) r with | true, some l => some (.int k (if j = (i : Int) then v else n) :: l) | _, _ => none)
  | _, _ :: _ => none
def putB (j : Int) (v : Bool) : Nat → List AV → Option (List AV)
  | _, [] => some []
  | i, .bool b :: r => (match putB j v (i + 1) r with | some l => some (.bool (if j = (i : Int) then v else b) :: l) | none => none)
  | _, _ :: _ => none
def storeD (E : Env) (T : TypeId) (cs : List AV) (off c : Nat) (j : Int) (v : AV) : Option (List AV) :=
  match E.ty T, v, Nat.beq (lenA (takeA c (dropA off cs))) c with
  | some (.int k), .int k' n, true => (match ikEq k k', putI k j n 0 (takeA c (dropA off cs)) with | true, some l => some (takeA off cs ++ l ++ dropA (off + c) cs) | _, _ => none)
  | some .bool, .bool b, true => (match putB j b 0 (takeA c (dropA off cs)) with | some l => some (takeA off cs ++ l ++ dropA (off + c) cs) | none => none)
  | _, _, _ => none

/-- The value of one cell. -/
def oneA : AV → Bool
  | .undef => false | .hole => false | .agg _ => false | .tup _ => false | .dyn _ _ _ => false | _ => true
def onesA : List AV → Bool
  | [] => true
  | v :: r => oneA v && onesA r

def allRowB (m : Nat → Option Obj) : List Nat → Bool
  | [] => true
  | n :: r => (match m n with | some (.row _ _ _ _) => true | _ => false) && allRowB m r

def callA (E : Env) (k : Nat) (f : FuncId) (xs : List AV) (b : Nat) (s : St) (κ : Eff → Option R) : Option R :=
  match E.fn f with
  | some F => (match argsP s.mem F.ps xs with
    | some (x, ns, pn, is) => (match nodupB (pn ++ is) && disj (pn ++ is) ns with
      | true => (F.sem k x).bind fun q =>
        match impR F.rs q.1 b with
        | (vs, us, b1) => (match outP F.ps q.2 (nthN pn) 0 b1 with
          | (us2, b2) => (match Nat.ble b2 (b + 64), flatRT F.rs && flatMT F.ps with
            | true, true => κ ⟨tupA vs, delL is ++ (us ++ us2), ns ++ (pn ++ is) ++ namesOf (us ++ us2)⟩
            | true, false => (match allRowB s.mem ns with
              | true => κ ⟨tupA vs, frz s.mem ns ++ (delL is ++ (us ++ us2)), ns ++ (pn ++ is) ++ namesOf (us ++ us2)⟩
              | false => none)
            | false, _ => none))
      | false => none)
    | none => none)
  | none => none

def builtinA (E : Env) (bi : Builtin) (ts : List TypeId) (xs : List AV) (b : Nat) (s : St) (κ : Eff → Option R) : Option R :=
  match bi, xs with
  | .len, [.str x] => (match ts with
    | T :: _ => (match E.ty T, E.agg T with | some .str, false => κ ⟨.int .i64 x.size, [], []⟩ | _, _ => none)
    | _ => none)
  | .len, [x] => match ts with
    | T :: _ => (match E.elem T with
      | some e => (match E.ty e with
        | some t => (match rowOf s.mem e t x with | some (l, ns) => κ ⟨.int .i64 l.length, [], ns⟩ | none => none)
        | none => none)
      | none => (match E.map T, x with
        | some _, .own n => (match s.mem n with
          | some (.mp T' _ _ _ _ es) => (match Nat.beq T T' with | true => κ ⟨.int .i64 es.length, [], [n]⟩ | false => none)
          | _ => none)
        | _, _ => none))
    | _ => none
  | .append, [x, y] => match ts with
    | [T, T'] => (match Nat.beq T T', E.elem T with
      | true, some e => (match E.ty e with
        | some t => (match ownOf s.mem e t x with
          | some (l, ns) => (match rowOf s.mem e t y with
            | some (l', ns') =>
              if (l.length + l'.length) * E.byt e ≤ 140737488355328 then
                match disj ns ns', isNone (s.mem b), t.flat with
                | true, true, true => κ ⟨.own b, delL ns ++ [(b, some (.row true e t (l ++ l')))], b :: ns ++ ns'⟩
                | true, true, false => κ ⟨.own b, frz s.mem ns' ++ (delL ns ++ [(b, some (.row true e t (l ++ l')))]), b :: ns ++ ns'⟩
                | _, _, _ => none
              else none
            | none => none)
          | none => none)
        | none => none)
      | false, some e => (match E.ik T', E.ty e, x, y with
        | some _, some t, .nil, .int _ n =>
          if (decide (0 ≤ n) && decide ((0 + n.toNat) * E.byt e ≤ 140737488355328)) = true then
            match isNone (s.mem b) with
            | true => κ ⟨.own b, [(b, some (.row true e t (List.replicate n.toNat t.z)))], [b]⟩
            | false => none
          else none
        | _, _, _, _ => none)
      | _, _ => none)
    | _ => none
  | .cap, [.nil] => (match ts with
    | T :: _ => (match E.elem T with | some _ => κ ⟨.int .i64 0, [], []⟩ | none => none)
    | _ => none)
  | .min, x :: r => (match minA false x r with | some v => κ ⟨v, [], []⟩ | none => none)
  | .max, x :: r => (match minA true x r with | some v => κ ⟨v, [], []⟩ | none => none)
  | _, _ => none

/-- Is a map of the types that its type has? -/
def mapOKB (E : Env) (T : TypeId) (ak : Bool) (tk : Ty) (av : Bool) (tv : Ty) : Bool :=
  match E.map T with
  | some (k, v) => (match E.ty k, E.ty v with
    | some tk', some tv' => tk'.beq tk && (tv'.beq tv && ((E.agg k == ak) && ((E.agg v == av) && (E.eqT k && tk.flat))))
    | _, _ => false)
  | none => false
def mapA (E : Env) (T : TypeId) (x i y : AV) (s : St) (κ : Eff → Option R) : Option R :=
  match x with
  | .own n => (match s.mem n with
    | some (.mp T' ak tk av tv es) => (match Nat.beq T T' && mapOKB E T ak tk av tv with
      | true => (match packA s.mem ⟨ak, tk, false⟩ i, packA s.mem ⟨av, tv, false⟩ y with
        | some (d, ns0), some (z, ns) => (match memN n ns with
          | false => κ ⟨.undef, frz s.mem ns ++ [(n, some (.mp T ak tk av tv (updD tk tv d z es)))], n :: (ns0 ++ ns)⟩
          | true => none)
        | _, _ => none)
      | false => none)
    | _ => none)
  | _ => none

def loA (s : St) : Option Operand → Option Int
  | some y => (match s.op y with | .int .i64 l => some l | _ => none)
  | none => some 0
def hiA (s : St) (n : Nat) : Option Operand → Option Int
  | some y => (match s.op y with | .int .i64 h => some h | _ => none)
  | none => some (n : Int)


/-- The kinds of a type's cells. -/
def cellTs : Ty → List (Option (TypeId × Ty))
  | .unit => []
  | .sl e t => [some (e, t)]
  | .pair a b => cellTs a ++ cellTs b
  | _ => [none]
/-- Nil slices as empty rows of the call's own. -/
def ownZ : List (Option (TypeId × Ty)) → List AV → Nat → List AV × List (Nat × Option Obj) × Nat
  | some (e, t) :: ts, .nil :: r, b => (match ownZ ts r (b + 1) with | (cs, us, b') => (.own b :: cs, (b, some (.row true e t [])) :: us, b'))
  | _ :: ts, v :: r, b => (match ownZ ts r b with | (cs, us, b') => (v :: cs, us, b'))
  | _, cs, b => (cs, [], b)
/-- Does the text's hint want them so? -/
def zTs (E : Env) (d : Option Tmp) (T : TypeId) : List (Option (TypeId × Ty)) :=
  match d with
  | some d => (match E.hint d with | 2 => (match E.ty T with | some t => cellTs t | none => []) | _ => [])
  | none => []

def absOp (E : Env) (k : Nat) (o : Oper) (b : Nat) (s : St) (κ : Eff → Option R) : Option R :=
  match o.op with
  | .move x => κ ⟨s.op x, [], []⟩
  | .assign x => (match zTs E o.dst o.type with
    | [] => κ ⟨s.op x, [], []⟩
    | ts => (match ownZ ts [s.op x] b with
      | ([v], us, b') => (match Nat.ble b' (b + 64) with | true => κ ⟨v, us, namesOf us⟩ | false => none)
      | _ => none))
  | .extract x i => (match s.op x with
    | .tup vs => (match Nat.blt i (lenA vs) with | true => κ ⟨nthA vs i, [], []⟩ | false => none)
    | _ => none)
  | .pick c x y => (match s.op c with | .bool t => if t = true then κ ⟨s.op x, [], []⟩ else κ ⟨s.op y, [], []⟩ | _ => none)
  | .binOp op T x y _ => binA E T op (s.op x) (s.op y) fun v => κ ⟨v, [], []⟩
  | .unOp op _ x => unA op (s.op x) fun v => κ ⟨v, [], []⟩
  | .convert a c x => (match s.op x with
    | .int _ n => (match E.ik c, isNone (E.ty a) with | some k', false => κ ⟨.int k' (k'.wrap n), [], []⟩ | _, _ => none)
    | _ => none)
  | .nilCheck x => (match s.op x with
    | .ptr n off => κ ⟨.ptr n off, [], []⟩
    | .elo n z i off => κ ⟨.elo n z i off, [], []⟩
    | .elr t x off => κ ⟨.elr t x off, [], []⟩
    | .dyn p c j => κ ⟨.dyn p c j, [], []⟩
    | _ => none)
  | .box T x => (match isNone (s.mem b) && defA (s.op x) with
    | true => (match zTs E o.dst T with
      | [] => κ ⟨.ptr b 0, [(b, some (.box T (cellsA (s.op x))))], [b]⟩
      | ts => (match ownZ ts (cellsA (s.op x)) (b + 1) with
        | (cs, us, b') => (match Nat.ble b' (b + 64) with | true => κ ⟨.ptr b 0, us ++ [(b, some (.box T cs))], b :: namesOf us⟩ | false => none)))
    | false => none)
  | .alloc T => (match isNone (s.mem b), E.ty T with
    | true, some t => (match zTs E o.dst T with
      | [] => κ ⟨.ptr b 0, [(b, some (.box T (zeroC t)))], [b]⟩
      | ts => (match ownZ ts (zeroC t) (b + 1) with
        | (cs, us, b') => (match Nat.ble b' (b + 64) with | true => κ ⟨.ptr b 0, us ++ [(b, some (.box T cs))], b :: namesOf us⟩ | false => none)))
    | _, _ => none)
  | .load T x => (match s.op x with
    | .ptr n off => (match s.mem n with
      | some (.box _ cs) => (match loadA E T cs off with | some v => κ ⟨v, [], [n]⟩ | none => none)
      | _ => none)
    | .elr t x off => (match loadA E T (unpack t x) off with | some v => κ ⟨v, [], []⟩ | none => none)
    | .elo n z i off => (match s.mem n with
      | some (.row _ _ t xs) => (match Nat.beq z t.sz with
        | true => (match loadA E T (unpack t (xs.getD i.toNat t.z)) off with | some v => κ ⟨v, [], [n]⟩ | none => none)
        | false => none)
      | _ => none)
    | .dyn p c j => (match p with
      | .ptr n off => (match s.mem n with
        | some (.box _ cs) => (match loadD E T cs off c j with | some v => κ ⟨v, [], [n]⟩ | none => none)
        | _ => none)
      | .elr t x off => (match loadD E T (unpack t x) off c j with | some v => κ ⟨v, [], []⟩ | none => none)
      | .elo n z i off => (match s.mem n with
        | some (.row _ _ t xs) => (match Nat.beq z t.sz with
          | true => (match loadD E T (unpack t (xs.getD i.toNat t.z)) off c j with | some v => κ ⟨v, [], [n]⟩ | none => none)
          | false => none)
        | _ => none)
      | _ => none)
    | _ => none)
  | .store T p x => (match s.op p with
    | .ptr n off => (match s.mem n with
      | some (.box U cs) => (match E.ty T with
        | some u => (match Nat.beq (lenA (cellsA (s.op x))) u.sz && (Nat.ble (off + u.sz) (lenA cs) && onesA (cellsA (s.op x))) with
          | true => κ ⟨.undef, [(n, some (.box U (takeA off cs ++ cellsA (s.op x) ++ dropA (off + u.sz) cs)))], [n]⟩
          | false => none)
        | none => none)
      | _ => none)
    | .elo n z i off => (match s.mem n with
      | some (.row true e t xs) => (match E.ty T with
        | some u => (match Nat.beq z t.sz && (Nat.beq (lenA (cellsA (s.op x))) u.sz && (Nat.ble (off + u.sz) t.sz && defA (s.op x))) with
          | true =>
            (match pack s.mem t (takeA off (unpack t (xs.getD i.toNat t.z)) ++ cellsA (s.op x) ++ dropA (off + u.sz) (unpack t (xs.getD i.toNat t.z))) with
            | some (d, [], ns) => (match memN n ns with
              | false => κ ⟨.undef, frz s.mem ns ++ [(n, some (.row true e t (xs.set i.toNat d)))], n :: ns⟩
              | true => none)
            | _ => none)
          | false => none)
        | none => none)
      | _ => none)
    | .dyn q c j => (match q with
      | .ptr n off => (match s.mem n with
        | some (.box U cs) => (match storeD E T cs off c j (s.op x) with
          | some cs' => κ ⟨.undef, [(n, some (.box U cs'))], [n]⟩
          | none => none)
        | _ => none)
      | .elo n z i off => (match s.mem n with
        | some (.row true e t xs) => (match Nat.beq z t.sz, storeD E T (unpack t (xs.getD i.toNat t.z)) off c j (s.op x) with
          | true, some cs' => (match pack s.mem t cs' with
            | some (d, [], ns) => (match memN n ns with
              | false => κ ⟨.undef, frz s.mem ns ++ [(n, some (.row true e t (xs.set i.toNat d)))], n :: ns⟩
              | true => none)
            | _ => none)
          | _, _ => none)
        | _ => none)
      | _ => none)
    | _ => none)
  | .fieldAddr T x f => (match E.fld T f with
    | some (o, U) => (match isNone (E.ty U) with
      | false => (match s.op x with
        | .ptr n off => κ ⟨.ptr n (off + o), [], []⟩
        | .elo n z i off => κ ⟨.elo n z i (off + o), [], []⟩
        | .elr t x off => κ ⟨.elr t x (off + o), [], []⟩
        | _ => none)
      | true => none)
    | none => none)
  | .field T x f => (match E.fld T f, s.op x with
    | some (o, U), .agg cs => (match loadA E U cs o with | some v => κ ⟨v, [], []⟩ | none => none)
    | _, _ => none)
  | .indexAddr T x i => (match s.op i with
    | .int _ j => (match E.elem T with
      | some e => (match E.ty e with
        | some t => (match rowOf s.mem e t (s.op x) with
          | some (xs, ns) => if (decide (0 ≤ j) && decide (j < (xs.length : Int))) = true then (match s.op x with
            | .own n => (match liveN s.mem n with
              | true => κ ⟨.elo n t.sz j 0, [], ns⟩
              | false => κ ⟨.elr t (xs.getD j.toNat t.z) 0, [], ns⟩)
            | .vw n _ l _ => (match s.mem n with
              | some (.row true _ _ _) => κ ⟨.elo n t.sz (l + j) 0, [], [n]⟩
              | _ => none)
            | _ => κ ⟨.elr t (xs.getD j.toNat t.z) 0, [], ns⟩) else none
          | none => none)
        | none => none)
      | none => (match E.arr T with
        | some (n, U) => (match E.ty U with
          | some u => if (decide (0 ≤ j) && decide (j < (n : Int))) = true then (match i with
            | .const _ => (match s.op x with
              | .ptr n off => κ ⟨.ptr n (off + j.toNat * u.sz), [], []⟩
              | .elr t x off => κ ⟨.elr t x (off + j.toNat * u.sz), [], []⟩
              | .elo n z i off => κ ⟨.elo n z i (off + j.toNat * u.sz), [], []⟩
              | _ => none)
            | _ => (match Nat.beq u.sz 1 with
              | true => (match s.op x with
                | .ptr m off => κ ⟨.dyn (.ptr m off) n j, [], []⟩
                | .elr t x off => κ ⟨.dyn (.elr t x off) n j, [], []⟩
                | .elo m z i off => κ ⟨.dyn (.elo m z i off) n j, [], []⟩
                | _ => none)
              | false => none)) else none
          | none => none)
        | none => none))
    | _ => none)
  | .index T x i => (match s.op i, s.op x with
    | .int _ j, .agg cs => (match E.arr T with
      | some (n, U) => (match E.ty U with
        | some u => if (decide (0 ≤ j) && decide (j < (n : Int))) = true then
            (match i with
            | .const _ => (match loadA E U cs (j.toNat * u.sz) with | some v => κ ⟨v, [], []⟩ | none => none)
            | _ => (match Nat.beq u.sz 1 with
              | true => (match loadD E U cs 0 n j with | some v => κ ⟨v, [], []⟩ | none => none)
              | false => none)) else none
        | none => none)
      | none => none)
    | _, _ => none)
  | .makeSlice T x y => (match s.op x, s.op y with
    | .int .i64 n, .int .i64 m => (match isNone (s.mem b) && !isNone o.dst, E.elem T with
      | true, some e => (match E.ty e with
        | some t => if n = m then (if (decide (0 ≤ n) && Nat.ble (n.toNat * E.byt e) 281474976710656) = true then
            κ ⟨.own b, [(b, some (.row true e t (List.replicate n.toNat t.z)))], [b]⟩ else none) else none
        | none => none)
      | _, _ => none)
    | _, _ => none)
  | .buildSlice T n ps => (match isNone (s.mem b) && !isNone o.dst, E.elem T with
      | true, some e => (match E.ty e with
        | some t => (match elemsOf s.mem t 0 (mapOpP s ps.toList) with
          | some (xs, ns) => (match Nat.beq n (lenL xs) && Nat.ble (n * t.sz) 16777216 with
            | true => κ ⟨.own b, frz s.mem ns ++ [(b, some (.row true e t xs))], b :: ns⟩
            | false => none)
          | none => none)
        | none => none)
      | _, _ => none)
  | .build T ps => (match (match E.agg T with | true => E.ty T | false => none) with
    | some t => (match fillA E T (zeroC t) (mapOpP s ps.toList) with
      | some cs => (match zTs E o.dst T with
        | [] => κ ⟨.agg cs, [], []⟩
        | ts => (match ownZ ts cs b with
          | (cs', us, b') => (match Nat.ble b' (b + 64) with | true => κ ⟨.agg cs', us, namesOf us⟩ | false => none)))
      | none => none)
    | none => none)
  | .slice T x lo hi none => (match E.elem T with
    | some e => (match E.ty e with
      | some t => (match rowOf s.mem e t (s.op x) with
        | some (xs, ns) =>
          (match loA s lo, hiA s xs.length hi with
          | some l, some h =>
            if (decide (0 ≤ l) && (decide (l ≤ h) && decide (h ≤ (xs.length : Int)))) = true then
              (match o.dst with
              | some d => (match E.hint d, lo, s.op x with
                | 1, none, .own m => (match s.mem m with
                  | some (.row true _ _ _) => κ ⟨.own b, [(m, none), (b, some (.row true e t (xs.take h.toNat)))], [m, b]⟩
                  | _ => none)
                | 0, _, .own m => (match s.mem m with
                  | some (.row true _ _ _) => κ ⟨.vw m t.sz l h, [], [m]⟩
                  | _ => κ ⟨.ro e t ((xs.take h.toNat).drop l.toNat), frz s.mem ns, ns⟩)
                | _, _, .nil => κ ⟨.nil, [], []⟩
                | _, _, _ => κ ⟨.ro e t ((xs.take h.toNat).drop l.toNat), frz s.mem ns, ns⟩)
              | none => none)
            else none
          | _, _ => none)
        | none => none)
      | none => none)
    | none => none)
  | .call c => (match c.callee with
    | .builtin bi => builtinA E bi c.argTypes.toList (mapOp s c.args.toList) b s κ
    | .value f => (match s.op f with
      | .clo g caps => callA E k g (mapOp s c.args.toList ++ caps) b s κ
      | _ => none)
    | _ => none)
  | .makeMap T r => (match isNone (s.mem b) && isNone r, E.map T with
    | true, some (k, v) => (match E.ty k, E.ty v with
      | some tk, some tv => κ ⟨.own b, [(b, some (.mp T (E.agg k) tk (E.agg v) tv []))], [b]⟩
      | _, _ => none)
    | _, _ => none)
  | .lookup T x i ok => (match s.op x with
    | .own n => (match s.mem n with
      | some (.mp T' ak tk av tv es) => (match Nat.beq T T' && mapOKB E T ak tk av tv with
        | true => (match packA s.mem ⟨ak, tk, false⟩ (s.op i) with
          | some (d, ns) => (match ok with
            | true => κ ⟨.tup [wrapA av (unpack tv (match lookD tk tv d es with | some z => z | none => tv.z)), .bool (!isNone (lookD tk tv d es))], [], n :: ns⟩
            | false => κ ⟨wrapA av (unpack tv (match lookD tk tv d es with | some z => z | none => tv.z)), [], n :: ns⟩)
          | none => none)
        | false => none)
      | _ => none)
    | _ => none)
  | .insert T x i y => mapA E T (s.op x) (s.op i) (s.op y) s κ
  | .mapUpdate T x i y => mapA E T (s.op x) (s.op i) (s.op y) s κ
  | .makeFunc (.func g) first caps => (match first.toList with
    | [] => κ ⟨.clo g (mapOp s caps.toList), [], []⟩
    | _ => none)
  | _ => none

/-- An operation in its place: its guard, its effect, what follows. -/
def stepOp (E : Env) (k : Nat) (all : List Oper) (o : Oper) (b : Nat) (s : St) (κ : Eff → Option R) : Option R :=
  match (match o.dst with | some d => Nat.blt d s.n | none => true) with
  | false => none
  | true =>
    match o.guard with
    | none => absOp E k o b s κ
    | some (g, want) => (match all[g]? with
      | some og => (match og.dst with
        | some d => (match s.sl d with
          | .bool t => if (t == want) = true then absOp E k o b s κ else κ ⟨.hole, [], []⟩
          | .hole => κ ⟨.hole, [], []⟩
          | _ => none)
        | none => none)
      | none => none)

/-- What is new takes a name of this operation's own. -/
def freshB (m : Nat → Option Obj) (b : Nat) : List (Nat × Option Obj) → Bool
  | [] => true
  | (n, _) :: r => (!isNone (m n) || (Nat.ble b n && Nat.blt n (b + 64))) && freshB m b r

/-- Data, its numbers reckoned out: for the kernel's sake; nothing is changed. -/
def frcN {R : Type} (n : Nat) (κ : Nat → R) : R := match n with | 0 => κ 0 | m + 1 => κ (Nat.succ m)
def frcI {R : Type} (n : Int) (κ : Int → R) : R := match n with | .ofNat m => frcN m (fun m => κ (.ofNat m)) | .negSucc m => frcN m (fun m => κ (.negSucc m))
def frcL {R α : Type} (f : α → (α → R) → R) : List α → (List α → R) → R
  | [], κ => κ []
  | x :: r, κ => f x fun x => frcL f r fun r => κ (x :: r)
/-- A state behind an operation. -/
def St.step (s : St) (d : Option Tmp) (e : Eff) (nx : Nat) : St := ⟨match d with | some d => setS s.sl d e.val | none => s.sl, updL s.mem e.upd, nx, s.n, s.np⟩

/-- By cases on a slot's bool: from here on it is reckoned. -/
def splitS (d : Nat) (s : St) (κ : St → Option R) : Option R :=
  match s.sl d with
  | .bool t => (match t with
    | true => κ { s with sl := setS s.sl d (.bool true) }
    | false => κ { s with sl := setS s.sl d (.bool false) })
  | .hole => κ s
  | _ => none
def splitO (c : Operand) (s : St) (κ : St → Option R) : Option R := match c with | .tmp d => splitS d s κ | _ => κ s
def splitG (all : List Oper) (o : Oper) (s : St) (κ : St → Option R) : Option R :=
  match o.guard with
  | none => κ s
  | some (g, _) => (match all[g]? with
    | some og => (match og.dst with | some d => splitS d s κ | none => none)
    | none => none)

/-- The operations in the text's order. -/
def seqOps (E : Env) (k : Nat) (all : List Oper) : List Oper → (κ : St → Option R) → St → Option R
  | [], κ, s => κ s
  | o :: r, κ, s => splitG all o s fun s => stepOp E k all o s.nxt s fun e => match freshB s.mem s.nxt e.upd with
    | true => frcN (s.nxt + 64) fun nx => seqOps E k all r κ (s.step o.dst e nx)
    | false => none

def edge (oi : Oper) (j : Nat) : Bool := oi.after.toList.any fun e => Nat.beq e.on j && Region.binds .any e
/-- What is told of an operation that has been done: itself, its place, the names that it looks at, those that it writes. -/
structure Rec where
  o : Oper
  i : Nat
  nm : List Nat
  up : List Nat

/-- .. or by way of others, d at most. -/
def reach (all : List Oper) : Nat → Oper → Nat → Bool
  | 0, o, j => edge o j
  | d + 1, o, j => edge o j || o.after.toList.any fun e => Region.binds .any e && (match all[e.on]? with | some om => reach all d om j | none => false)
def ordB (all : List Oper) (a c : Rec) : Bool := (Nat.blt c.i a.i && reach all 2 a.o c.i) || (Nat.blt a.i c.i && reach all 2 c.o a.i)
def lookT (all : List Oper) (o : Oper) : List Nat :=
  (o.op.operands.toList.filterMap fun | .tmp t => some t | _ => none) ++
  (match o.guard with | some (g, _) => ((all[g]?).bind (·.dst)).toList | none => [])
def dstB (a c : Oper) : Bool := match a.dst, c.dst with | some x, some y => !Nat.beq x y | _, _ => true
def hitB (all : List Oper) (a c : Oper) : Bool := match c.dst with | some d => memN d (lookT all a) | none => false
def pairB (all : List Oper) (a c : Rec) : Bool :=
  dstB a.o c.o && (!hitB all a.o c.o || ordB all a c) && (!hitB all c.o a.o || ordB all c a) && (disj a.nm c.up && disj c.nm a.up && disj a.up c.up || ordB all a c)
def allB (all : List Oper) : List Rec → Bool
  | [] => true
  | a :: r => (r.all fun c => pairB all a c) && allB all r
def guardB (o : Oper) (i : Nat) : Bool :=
  (match o.guard with | some (g, _) => Nat.blt g i && edge o g | none => true) && o.after.toList.all fun e => !Region.binds .any e || Nat.blt e.on i

/-- .. in a region that draws its order: what is looked at and written is kept, and held against each other at the end. -/
def drawOps (E : Env) (k : Nat) (all : List Oper) : List Oper → Nat → List Rec → (κ : St → Option R) → St → Option R
  | [], _, recs, κ, s => match allB all recs with | true => κ s | false => none
  | o :: r, i, recs, κ, s => match guardB o i with
    | true => splitG all o s fun s => stepOp E k all o s.nxt s fun e => match freshB s.mem s.nxt e.upd with
      | true => frcN (s.nxt + 64) fun nx => frcL frcN e.nm fun nm => frcL frcN (namesOf e.upd) fun up => drawOps E k all r (i + 1) (recs ++ [⟨o, i, nm, up⟩]) κ (s.step o.dst e nx)
      | false => none
    | false => none

inductive BExit where
  | normal | exit (id : Nat) | ret

/-- What is lent, at a cut: a variable, a row, gone. -/
inductive PP where
  | mbox (T : TypeId) (cs : List PV) | mrow (e : TypeId) (t : Ty) | gone
@[reducible] def PPD : List PP → Type
  | [] => Unit
  | .mbox _ cs :: r => PVs cs × PPD r
  | .mrow _ t :: r => List t.D × PPD r
  | .gone :: r => PPD r
def grabPP (m : Nat → Option Obj) (np : Nat) : (ps : List PP) → (j : Nat) → Option (PPD ps × List Nat × List Nat)
  | [], _ => some ((), [], [])
  | .gone :: r, j => grabPP m np r (j + 1)
  | .mrow e t :: r, j => (match ownOf m e t (.own j) with
    | some (d, _) => (match grabPP m np r (j + 1) with | some (ds, pj, is) => some ((d, ds), j :: pj, is) | none => none)
    | none => none)
  | .mbox T cs :: r, j => (match m j with
    | some (.box U xs) => (match Nat.beq T U with
      | true => (match grabs true m np cs xs with
        | some (d, is) => (match grabPP m np r (j + 1) with | some (ds, pj, is') => some ((d, ds), j :: pj, is ++ is') | none => none)
        | none => none)
      | false => none)
    | _ => none)
def layPP : (ps : List PP) → PPD ps → (j b : Nat) → List (Nat × Option Obj) × Nat
  | [], _, _, b => ([], b)
  | .gone :: r, d, j, b => layPP r d (j + 1) b
  | .mrow e t :: r, d, j, b => (match layPP r d.2 (j + 1) b with | (us, b') => ((j, some (.row true e t d.1)) :: us, b'))
  | .mbox T cs :: r, d, j, b => (match lays cs d.1 b with
    | (xs, u1, b1) => (match layPP r d.2 (j + 1) b1 with | (us, b') => ((j, some (.box T xs)) :: (u1 ++ us), b')))

/-- A cut: which slots live on, in which shapes; what is lent. -/
structure Cut where
  slots : List Nat
  ps : List PV
  pp : List PP
  n : Nat

def getS (s : St) : List Nat → List AV
  | [] => []
  | i :: r => s.sl i :: getS s r
def putS : List Nat → List AV → (Nat → AV) → Nat → AV
  | i :: r, v :: vs, f => putS r vs (setS f i v)
  | _, _, f => f

mutual
/-- Rows of the call's own that are read from here on. -/
def softP (m : Nat → Option Obj) : (p : PV) → AV → List Nat
  | .cell t, v => (match pack m t [v] with | some (_, _, ns) => ns | none => [])
  | .own _ _, _ => []
  | .box _ cs, v => (match v with
    | .ptr n _ => (match m n with | some (.box _ xs) => softPs m cs xs | _ => [])
    | _ => [])
  | .agg cs, v => (match v with | .agg xs => softPs m cs xs | _ => [])
  | .nil, _ => []
  | .pin _ _, _ => []
  | .ref _, _ => []
  | .clo _ cs, v => (match v with | .clo _ xs => softPs m cs xs | _ => [])
  | .mp _ _ _ _ _, _ => []
def softPs (m : Nat → Option Obj) : (ps : List PV) → List AV → List Nat
  | p :: r, x :: xs => softP m p x ++ softPs m r xs
  | _, _ => []
end
def softPP (m : Nat → Option Obj) : (ps : List PP) → (j : Nat) → List Nat
  | [], _ => []
  | .mbox _ cs :: r, j => (match m j with | some (.box _ xs) => softPs m cs xs | _ => []) ++ softPP m r (j + 1)
  | _ :: r, j => softPP m r (j + 1)

abbrev Cut.D (c : Cut) : Type := PPD c.pp × PVs c.ps
def Cut.at (c : Cut) (x : c.D) : St :=
  match layPP c.pp x.1 0 (lenL c.pp) with
  | (us, b) => (match lays c.ps x.2 b with
    | (vs, us', b') => { sl := putS c.slots vs (fun _ => .undef), mem := updL (fun _ => none) (us ++ us'), nxt := b', n := c.n, np := lenL c.pp })
def Cut.gr0 (c : Cut) (s : St) : Option c.D :=
  match Nat.beq c.n s.n && Nat.beq (lenL c.pp) s.np, grabPP s.mem s.np c.pp 0, grabs true s.mem s.np c.ps (getS s c.slots) with
  | true, some (d, pj, is), some (d', ns') => (match nodupB (pj ++ (is ++ ns')) with | true => some (d, d') | false => none)
  | _, _, _ => none
def Cut.soft (c : Cut) (s : St) : St := { s with mem := updL s.mem (frz s.mem (softPP s.mem c.pp 0 ++ softPs s.mem c.ps (getS s c.slots))) }
/-- What lives on, of a state. -/
def Cut.gr (c : Cut) (s : St) : Option c.D := c.gr0 (c.soft s)

/-- The first region's number: a loop's name, and a cut's. -/
def firstR : Code → Option Nat
  | .region id _ _ => some id
  | .seq a b => match firstR a with | some i => some i | none => firstR b
  | .block _ c => firstR c
  | .loop c => firstR c
  | .scope c => firstR c
  | _ => none

abbrev Kont (R : Type) := BExit → St → Option R

def frcT {R : Type} : (t : Ty) → t.D → (t.D → R) → R
  | .unit, _, κ => κ ()
  | .int _, n, κ => frcI n κ
  | .bool, b, κ => (match b with | true => κ true | false => κ false)
  | .str, s, κ => κ s
  | .sl _ t, xs, κ => frcL (frcT t) xs κ
  | .pair a b, p, κ => frcT a p.1 fun x => frcT b p.2 fun y => κ (x, y)
mutual
def frcP {R : Type} : (p : PV) → p.D → (p.D → R) → R
  | .cell t, d, κ => frcT t d κ
  | .own _ t, xs, κ => frcL (frcT t) xs κ
  | .box _ cs, d, κ => frcPs cs d κ
  | .agg cs, d, κ => frcPs cs d κ
  | .nil, _, κ => κ ()
  | .pin _ _, _, κ => κ ()
  | .ref t, d, κ => frcT t d κ
  | .clo _ cs, d, κ => frcPs cs d κ
  | .mp _ _ tk _ tv, es, κ => frcL (fun e κ => frcT tk e.1 fun x => frcT tv e.2 fun y => κ (x, y)) es κ
def frcPs {R : Type} : (ps : List PV) → PVs ps → (PVs ps → R) → R
  | [], _, κ => κ ()
  | p :: r, d, κ => frcP p d.1 fun x => frcPs r d.2 fun y => κ (x, y)
end
def frcPP {R : Type} : (ps : List PP) → PPD ps → (PPD ps → R) → R
  | [], _, κ => κ ()
  | .gone :: r, d, κ => frcPP r d κ
  | .mrow _ t :: r, d, κ => frcL (frcT t) d.1 fun x => frcPP r d.2 fun y => κ (x, y)
  | .mbox _ cs :: r, d, κ => frcPs cs d.1 fun x => frcPP r d.2 fun y => κ (x, y)
def Cut.frc {R : Type} (c : Cut) (x : c.D) (κ : c.D → R) : R := frcPP c.pp x.1 fun a => frcPs c.ps x.2 fun b => κ (a, b)

/-- Rounds of a loop: at each, what lives on is reckoned out. -/
def iter {R : Type} (c : Cut) (f : (c.D → Option R) → c.D → Option R) : Nat → c.D → Option R
  | 0, _ => none
  | j + 1, d => c.frc d fun d => f (iter c f j) d

/-- What is told of a function's cuts: at a join, what follows; at a loop, one round. -/
inductive Tbl (R : Type) : Type 1 where
  | nil
  | join (id : Nat) (c : Cut) (f : c.D → Option R) (r : Tbl R)
  | loop (id : Nat) (c : Cut) (f : (c.D → Option R) → c.D → Option R) (sub : (c.D → Option R) → Tbl R) (r : Tbl R)

inductive Ent (R : Type) : Type 1 where
  | none
  | join (c : Cut) (f : c.D → Option R)
  | loop (c : Cut) (f : (c.D → Option R) → c.D → Option R) (sub : (c.D → Option R) → Tbl R)

/-- Loops and joins have numbers of their own: a loop's is twice its first region's, a join's one more. -/
def Tbl.get {R : Type} : Tbl R → Nat → Ent R
  | .nil, _ => .none
  | .join id c f r, i => (match Nat.beq (2 * id + 1) i with | true => .join c f | false => r.get i)
  | .loop id c f sub r, i => (match Nat.beq (2 * id) i with | true => .loop c f sub | false => r.get i)
def Tbl.loopOf {R : Type} (T : Tbl R) (c : Code) : Ent R := match firstR c with | some i => T.get (2 * i) | none => .none
def Tbl.joinOf {R : Type} (T : Tbl R) (c : Code) : Ent R := match firstR c with | some i => T.get (2 * i + 1) | none => .none

def kBlock (id : Nat) (K : Kont R) : Kont R := fun e s => match e with
  | .normal => K .normal s
  | .exit id' => (match Nat.beq id' id with | true => K .normal s | false => K (.exit id') s)
  | .ret => K .ret s
def kSeq (f : St → Option R) (K : Kont R) : Kont R := fun e s => match e with
  | .normal => f s
  | .exit id => K (.exit id) s
  | .ret => K .ret s

def evalM (E : Env) (k : Nat) (T : Tbl R) : Code → Kont R → St → Option R
  | .skip, K, s => K .normal s
  | .region _ ops draw, K, s => (match draw with
    | false => seqOps E k ops.toList ops.toList (K .normal) s
    | true => drawOps E k ops.toList ops.toList 0 [] (K .normal) s)
  | .seq a c, K, s => evalM E k T a (kSeq (match T.joinOf c with
      | .join ct f => fun s => (ct.gr s).bind f
      | _ => evalM E k T c K) K) s
  | .cond c x y, K, s => splitO c s fun s => (match s.op c with
    | .bool t => (match t with | true => evalM E k T x K s | false => evalM E k T y K s)
    | _ => none)
  | .block id c, K, s => evalM E k T c (kBlock id K) s
  | .loop c, K, s => (match T.loopOf c with
    | .loop ct f _ => (ct.gr s).bind (iter ct f k)
    | _ => none)
  | .scope c, K, s => evalM E k T c K s
  | .exit id, K, s => K (.exit id) s
  | .ret, K, s => K .ret s
  | _, _, _ => none

/-- What is owed: that each thing told is so. -/
inductive Obt : Type 1 where
  | nil
  | eq (α : Type) (x : α) (r : Obt)
  | all (α : Type) (f : α → Obt) (r : Obt)

/-- .. as it is told (l) or as it is reckoned (not l), ahead of what r has. -/
def owed (E : Env) (k : Nat) (l : Bool) (T : Tbl R) : Code → Kont R → Obt → Obt
  | .seq a c, K, r => (match T.joinOf c with
    | .join ct f => .eq (ct.D → Option R) (match l with | true => f | false => fun d => evalM E k T c K (ct.at d))
        (owed E k l T a (kSeq (fun s => (ct.gr s).bind f) K) (owed E k l T c K r))
    | _ => owed E k l T a (kSeq (evalM E k T c K) K) (owed E k l T c K r))
  | .cond _ x y, K, r => owed E k l T x K (owed E k l T y K r)
  | .block id c, K, r => owed E k l T c (kBlock id K) r
  | .loop c, K, r => (match T.loopOf c with
    | .loop ct f sub => .eq ((ct.D → Option R) → ct.D → Option R) (match l with | true => f | false => fun g d => evalM E k (sub g) c (kSeq (fun s => (ct.gr s).bind g) K) (ct.at d))
        (.all (ct.D → Option R) (fun g => owed E k l (sub g) c (kSeq (fun s => (ct.gr s).bind g) K) .nil) r)
    | _ => r)
  | .scope c, K, r => owed E k l T c K r
  | _, _, r => r

/-- A cell whose row, if it is one, is the call's own. -/
def ownCell (m : Nat → Option Obj) : AV → Bool
  | .ro _ _ _ => false
  | .rz _ _ _ _ => false
  | .vw _ _ _ _ => false
  | .own n => (match m n with | some (.row true _ _ _) => true | _ => false)
  | _ => true
def ownCells (m : Nat → Option Obj) : List AV → Bool
  | [] => true
  | v :: r => ownCell m v && ownCells m r

/-- What a result's place holds. -/
def resA (E : Env) (s : St) : ResultVar → Option AV
  | .tmp t => some (s.sl t)
  | .cell a T => (match s.sl a with
    | .ptr n off => (match s.mem n with | some (.box _ cs) => loadA E T cs off | _ => none)
    | _ => none)

/-- The results as they go out: their rows as the call's own, or as rows that are read. -/
def outR (E : Env) (s : St) : (rs : List RT) → List ResultVar → Option (RD rs × List Nat × List Nat)
  | [], [] => some ((), [], [])
  | .val v :: r, x :: xs => (match resA E s x with
    | some y => (match packA s.mem v y with
      | some (d, ns) => (match outR E s r xs with
        | some (ds, os, qs) => (match v.own with
          | true => (match ownCells s.mem (cellsA y) with | true => some ((d, ds), ns ++ os, qs) | false => none)
          | false => some ((d, ds), os, ns ++ qs))
        | none => none)
      | none => none)
    | none => none)
  | .pv p :: r, x :: xs => (match resA E s x with
    | some y => (match grab false s.mem 0 p y with
      | some (d, ns) => (match outR E s r xs with
        | some (ds, os, qs) => some ((d, ds), ns ++ os, qs)
        | none => none)
      | none => none)
    | none => none)
  | _, _ => none
/-- .. what was lent. -/
def outM (m : Nat → Option Obj) : (ps : List PT) → (j : Nat) → Option (MD ps × List Nat × List Nat)
  | [], _ => some ((), [], [])
  | .val _ :: r, j => outM m r j
  | .pv _ :: r, j => outM m r j
  | .gv _ :: r, j => outM m r j
  | .give _ _ :: r, j => outM m r (j + 1)
  | .mrow e t :: r, j => (match ownOf m e t (.own j) with
    | some (d, _) => (match outM m r (j + 1) with | some (ds, pj, is) => some ((d, ds), j :: pj, is) | none => none)
    | none => none)
  | .mbox T cs :: r, j => (match m j with
    | some (.box U xs) => (match Nat.beq T U with
      | true => (match grabs false m 0 cs xs with
        | some (d, is) => (match outM m r (j + 1) with | some (ds, pj, is') => some ((d, ds), j :: pj, is ++ is') | none => none)
        | none => none)
      | false => none)
    | _ => none)

/-- The parameters as they come in. -/
def inP : (ps : List PT) → AD ps → (j b : Nat) → List AV × List (Nat × Option Obj) × Nat
  | [], _, _, b => ([], [], b)
  | .val v :: r, d, j, b => (match inP r d.2 j b with | (vs, us, b') => (wrapA v.agg (unpack v.t d.1) :: vs, us, b'))
  | .gv p :: r, d, j, b => (match lay p d.1 b with
    | (v, u1, b1) => (match inP r d.2 j b1 with | (vs, us, b') => (v :: vs, u1 ++ us, b')))
  | .pv p :: r, d, j, b => (match lay p d.1 b with
    | (v, u1, b1) => (match inP r d.2 j b1 with | (vs, us, b') => (v :: vs, u1 ++ us, b')))
  | .mbox T cs :: r, d, j, b => (match lays cs d.1 b with
    | (xs, u1, b1) => (match inP r d.2 (j + 1) b1 with | (vs, us, b') => (.ptr j 0 :: vs, (j, some (.box T xs)) :: (u1 ++ us), b')))
  | .mrow e t :: r, d, j, b => (match inP r d.2 (j + 1) b with | (vs, us, b') => (.own j :: vs, (j, some (.row true e t d.1)) :: us, b'))
  | .give e t :: r, d, j, b => (match inP r d.2 (j + 1) b with | (vs, us, b') => (.own j :: vs, (j, some (.row true e t d.1)) :: us, b'))

def slotsOf : Nat → List AV → Nat → AV
  | _, [], _ => .undef
  | i, v :: r, j => match Nat.beq i j with | true => v | false => slotsOf (i + 1) r j

def entry (ps : List PT) (d : AD ps) (n : Nat) : St :=
  match inP ps d 0 (pinsN ps) with
  | (vs, us, b) => { sl := slotsOf 0 vs, mem := updL (fun _ => none) us, nxt := b, n := n, np := pinsN ps }

def finish (E : Env) (ps : List PT) (rs : List RT) (res : List ResultVar) : Kont (RD rs × MD ps) := fun e s =>
  match e with
  | .exit _ => none
  | _ => (match outR E s rs res, outM s.mem ps 0 with
    | some (d, os, qs), some (o, pj, is) => (match nodupB (pj ++ (os ++ is)) && disj (pj ++ (os ++ is)) qs with | true => some (d, o) | false => none)
    | _, _ => none)

def evalF (E : Env) (fn : Func) (ps : List PT) (rs : List RT) (k : Nat) (T : Tbl (RD rs × MD ps)) (d : AD ps) : Option (RD rs × MD ps) :=
  match fn.body with
  | some c => evalM E k T c (finish E ps rs fn.results.toList) (entry ps d fn.ntmps)
  | none => none
def owedF (E : Env) (fn : Func) (ps : List PT) (rs : List RT) (k : Nat) (l : Bool) (T : Tbl (RD rs × MD ps)) : Obt :=
  match fn.body with
  | some c => owed E k l T c (finish E ps rs fn.results.toList) .nil
  | none => .nil
end
end Go.Proofs.Ytinopkpnlibopaa.Ab
