import Derived.Test.YtinopkpnlibopaaAbEnv
import Derived.Test.YtinopkpnlibopaaAbClone
/- What the plain functions are told in. -/
set_option linter.unusedVariables false
set_option linter.unusedSimpArgs false
namespace Go.Proofs.Ytinopkpnlibopaa.Ab
open Go.RowKit

section
variable {R α : Type}
/-- An index that is in a row, or nothing. -/
def ix (xs : List α) (j : Int) (x : Option R) : Option R := if (decide (0 ≤ j) && decide (j < (xs.length : Int))) = true then x else none
def sx (xs : List α) (l h : Int) (x : Option R) : Option R := if (decide (0 ≤ l) && (decide (l ≤ h) && decide (h ≤ (xs.length : Int)))) = true then x else none
def mk (n m : Int) (z : Nat) (x : Option R) : Option R := if n = m then (if (decide (0 ≤ n) && Nat.ble (n.toNat * z) 281474976710656) = true then x else none) else none
def ap (xs ys : List α) (z : Nat) (f : List α → Option R) : Option R := if (xs.length + ys.length) * z ≤ 140737488355328 then f (xs ++ ys) else none
def az (xs : List α) (n : Int) (z : Nat) (x : α) (f : List α → Option R) : Option R := if (decide (0 ≤ n) && decide ((xs.length + n.toNat) * z ≤ 140737488355328)) = true then f (xs ++ List.replicate n.toNat x) else none
def nz (b : Int) (x : Option R) : Option R := if b = 0 then none else x
def nneg (b : Int) (x : Option R) : Option R := if b < 0 then none else x
def rd (xs : List α) (j : Int) (z : α) : α := xs.getD j.toNat z
def upd (xs : List α) (j : Int) (x : α) : List α := xs.set j.toNat x
def sub (xs : List α) (l h : Int) : List α := (xs.take h.toNat).drop l.toNat
def mn (x y : Int) : Int := if y < x then y else x
def mx (x y : Int) : Int := if x < y then y else x
def ishl (k : IntKind) (a b : Int) : Int := k.wrap (a * 2 ^ (min b.toNat k.bits))
def ishr (k : IntKind) (a b : Int) : Int := a.fdiv (2 ^ (min b.toNat k.bits))
def iand (k : IntKind) (a b : Int) : Int := k.wrap (BitVec.ofInt k.bits a &&& BitVec.ofInt k.bits b).toNat
def ior (k : IntKind) (a b : Int) : Int := k.wrap (BitVec.ofInt k.bits a ||| BitVec.ofInt k.bits b).toNat
def ixor (k : IntKind) (a b : Int) : Int := k.wrap (BitVec.ofInt k.bits a ^^^ BitVec.ofInt k.bits b).toNat
def iandn (k : IntKind) (a b : Int) : Int := k.wrap (BitVec.ofInt k.bits a &&& ~~~(BitVec.ofInt k.bits b)).toNat
def inot (k : IntKind) (n : Int) : Int := k.wrap (BitVec.ofInt k.bits (if k.signed then -1 else k.max) ^^^ BitVec.ofInt k.bits n).toNat
def ax (n : Nat) (j : Int) (x : Option R) : Option R := if (decide (0 ≤ j) && decide (j < (n : Int))) = true then x else none
@[reducible] def arrT : Nat → Ty → Ty
  | 0, _ => .unit
  | 1, t => t
  | n + 2, t => .pair t (arrT (n + 1) t)
/-- Arrays: as many, side by side. -/
@[reducible] def PN (α : Type) : Nat → Type
  | 0 => Unit
  | 1 => α
  | n + 2 => α × PN α (n + 1)
def plist : (n : Nat) → PN α n → List α
  | 0, _ => []
  | 1, x => [x]
  | n + 2, x => x.1 :: plist (n + 1) x.2
def prep : (n : Nat) → α → PN α n
  | 0, _ => ()
  | 1, x => x
  | n + 2, x => (x, prep (n + 1) x)
def aget (n : Nat) (x : PN α n) (j : Int) (z : α) : α := (plist n x).getD j.toNat z
def asetF : (n : Nat) → Nat → PN α n → Int → α → PN α n
  | 0, _, x, _, _ => x
  | 1, i, x, j, v => if j = (i : Int) then v else x
  | n + 2, i, x, j, v => (if j = (i : Int) then v else x.1, asetF (n + 1) (i + 1) x.2 j v)
def aset (n : Nat) (x : PN α n) (j : Int) (v : α) : PN α n := asetF n 0 x j v
def mget (tk tv : Ty) (d : tk.D) (es : List (tk.D × tv.D)) (z : tv.D) : tv.D := match lookD tk tv d es with | some v => v | none => z
def mhas (tk tv : Ty) (d : tk.D) (es : List (tk.D × tv.D)) : Bool := !isNone (lookD tk tv d es)
def hintL (l : List (Nat × Nat)) (d : Nat) : Nat := match lk l d with | some h => h | none => 0
end
end Go.Proofs.Ytinopkpnlibopaa.Ab
