import Derived.Test.YtkhahfpjnmebdaaAbEnv
import Derived.Test.YtkhahfpjnmebdaaAbClone
/- What the plain functions are told in. -/
set_option linter.unusedVariables false
namespace Go.Proofs.Ytkhahfpjnmebdaa.Ab
open Go.RowKit

section
variable {R α : Type}
/-- An index that is in a row, or nothing. -/
def ix (xs : List α) (j : Int) (x : Option R) : Option R := if (decide (0 ≤ j) && decide (j < (xs.length : Int))) = true then x else none
def sx (xs : List α) (l h : Int) (x : Option R) : Option R := if (decide (0 ≤ l) && (decide (l ≤ h) && decide (h ≤ (xs.length : Int)))) = true then x else none
def mk (n m : Int) (z : Nat) (x : Option R) : Option R := if n = m then (if (decide (0 ≤ n) && Nat.ble (n.toNat * z) 281474976710656) = true then x else none) else none
def ap (xs ys : List α) (z : Nat) (f : List α → Option R) : Option R := if (xs.length + ys.length) * z ≤ 140737488355328 then f (xs ++ ys) else none
def nz (b : Int) (x : Option R) : Option R := if b = 0 then none else x
def nneg (b : Int) (x : Option R) : Option R := if b < 0 then none else x
def rd (xs : List α) (j : Int) (z : α) : α := xs.getD j.toNat z
def upd (xs : List α) (j : Int) (x : α) : List α := xs.set j.toNat x
def sub (xs : List α) (l h : Int) : List α := (xs.take h.toNat).drop l.toNat
def mn (x y : Int) : Int := if y < x then y else x
def mx (x y : Int) : Int := if x < y then y else x
def ishl (k : IntKind) (a b : Int) : Int := k.wrap (a * 2 ^ (min b.toNat k.bits))
def ishr (k : IntKind) (a b : Int) : Int := a.fdiv (2 ^ (min b.toNat k.bits))
def iand (k : IntKind) (a b : Int) : Int := k.wrap (BitVec.ofInt k.bits a &&& BitVec.ofInt k.bits b).toNat
def ior (k : IntKind) (a b : Int) : Int := k.wrap (BitVec.ofInt k.bits a ||| BitVec.ofInt k.bits b).toNat
def ixor (k : IntKind) (a b : Int) : Int := k.wrap (BitVec.ofInt k.bits a ^^^ BitVec.ofInt k.bits b).toNat
def iandn (k : IntKind) (a b : Int) : Int := k.wrap (BitVec.ofInt k.bits a &&& ~~~(BitVec.ofInt k.bits b)).toNat
def inot (k : IntKind) (n : Int) : Int := k.wrap (BitVec.ofInt k.bits (if k.signed then -1 else k.max) ^^^ BitVec.ofInt k.bits n).toNat
def mget (tk tv : Ty) (d : tk.D) (es : List (tk.D × tv.D)) (z : tv.D) : tv.D := match lookD tk tv d es with | some v => v | none => z
def mhas (tk tv : Ty) (d : tk.D) (es : List (tk.D × tv.D)) : Bool := !isNone (lookD tk tv d es)
def hintL (l : List (Nat × Nat)) (d : Nat) : Nat := match lk l d with | some h => h | none => 0
end
end Go.Proofs.Ytkhahfpjnmebdaa.Ab
