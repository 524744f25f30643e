import Derived.Test.YtmmagcjlfcicfaaGreatPbC
import Derived.Test.YtmmagcjlfcicfaaGreatAbV0
import Derived.Test.YtmmagcjlfcicfaaGreatAbV1
import Derived.Test.YtmmagcjlfcicfaaGreatAbV2
import Derived.Test.YtmmagcjlfcicfaaGreatAbV3
import Derived.Test.YtmmagcjlfcicfaaGreatAbV4
import Derived.Test.YtmmagcjlfcicfaaGreatAbV5
import Derived.Test.YtmmagcjlfcicfaaGreatAbV6
import Derived.Test.YtmmagcjlfcicfaaGreatAbV7
import Derived.Test.YtmmagcjlfcicfaaGreatAbV8
import Derived.Test.YtmmagcjlfcicfaaGreatAbV9
import Derived.Test.YtmmagcjlfcicfaaGreatAbV10
import Derived.Test.YtmmagcjlfcicfaaGreatAbV11
import Derived.Test.YtmmagcjlfcicfaaGreatAbV12
import Derived.KernelRfl
/- The plain law, and what it hangs on. -/
/- Small laws of lists, of loops with a counter, of searches, of arrays as lists. -/
namespace Go.Proofs.YtmmagcjlfcicfaaGreat.Ab
open Go.RowKit
set_option linter.unusedSimpArgs false
set_option linter.unusedVariables false
section
variable {σ R α : Type}
abbrev I4 : Type := Int × Int × Int × Int
abbrev i0 : I4 := (0, 0, 0, 0)
theorem bsel {c x y : Bool} : (bif c then some ((x, ()), ()) else some ((y, ()), ()) : Option ((Bool × Unit) × Unit)) = some ((bif c then x else y, ()), ()) := by cases c <;> rfl
theorem bsel_f {c x : Bool} : (bif c then x else false) = (c && x) := by cases c <;> rfl
theorem getD_in {l : List α} {n : Nat} {z : α} (h : n < l.length) : l.getD n z = l[n] := by
 simp [List.getD_eq_getElem?_getD, List.getElem?_eq_getElem h]
theorem getD_out {l : List α} {n : Nat} {z : α} (h : l.length ≤ n) : l.getD n z = z := by
 simp [List.getD_eq_getElem?_getD, List.getElem?_eq_none h]
theorem set_get {l : List α} {x y : Nat} {v z : α} : (l.set x v).getD y z = if x = y ∧ y < l.length then v else l.getD y z := by
 simp only [List.getD_eq_getElem?_getD, List.getElem?_set]
 by_cases h : x = y
 ·subst h
  by_cases h2 : x < l.length
  ·simp [h2]
  ·simp [h2]
 ·simp [h]
theorem getD_app_r {u w : List α} {n : Nat} {z : α} (h : u.length ≤ n) : (u ++ w).getD n z = w.getD (n - u.length) z := by
 simp [List.getD_eq_getElem?_getD, List.getElem?_append_right h]
theorem drop_cons {l : List α} {i : Nat} (z : α) (h : i < l.length) : l.drop i = l.getD i z :: l.drop (i + 1) := by
 rw [List.drop_eq_getElem_cons h, getD_in h]
theorem drop_nil {l : List α} {i : Nat} (h : i = l.length) : l.drop i = [] := List.drop_eq_nil_of_le (by omega)
theorem getD_mem {l : List α} {i : Nat} {z : α} (h : i < l.length) : l.getD i z ∈ l := by rw [getD_in h]; exact List.getElem_mem h
def idxI (f : α → Bool) (xs : List α) : Int := match xs.findIdx? f with | some n => (n : Int) | none => -1
theorem idx_gen (L : Nat → Int → Option ((Int × Unit) × Unit)) (xs : List α) (z : α) (f : α → Bool)
  (hs : ∀ (j n : Nat), n < xs.length → L (j + 1) (n : Int) = bif f (xs.getD n z) then some (((n : Int), ()), ()) else L j ((n + 1 : Nat) : Int))
  (he : ∀ j, L (j + 1) (xs.length : Int) = some ((-1, ()), ())) : ∀ (m i j : Nat), i + m = xs.length → m < j →
   L j i = some (((match (xs.drop i).findIdx? f with | some n => ((i + n : Nat) : Int) | none => -1), ()), ())
 | 0, i, j, h, hj => by
  obtain ⟨j', rfl⟩ : ∃ j', j = j' + 1 := ⟨j - 1, by omega⟩
  have : i = xs.length := by omega
  subst this; rw [he, List.drop_length]; rfl
 | m + 1, i, j, h, hj => by
  obtain ⟨j', rfl⟩ : ∃ j', j = j' + 1 := ⟨j - 1, by omega⟩
  have hlt : i < xs.length := by omega
  rw [hs j' i hlt, drop_cons z hlt, List.findIdx?_cons, idx_gen L xs z f hs he m (i + 1) j' (by omega) (by omega)]
  cases f (xs.getD i z) with
  | true => simp
  | false =>
   simp only [cond_false, Bool.false_eq_true, if_false]
   cases (xs.drop (i + 1)).findIdx? f with
   | none => rfl
   | some n => simp only [Option.map_some]; congr 4; omega
theorem idx_all (L : Nat → Int → Option ((Int × Unit) × Unit)) (xs : List α) (z : α) (f : α → Bool)
  (hs : ∀ (j n : Nat), n < xs.length → L (j + 1) (n : Int) = bif f (xs.getD n z) then some (((n : Int), ()), ()) else L j ((n + 1 : Nat) : Int))
  (he : ∀ j, L (j + 1) (xs.length : Int) = some ((-1, ()), ())) (j : Nat) (hj : xs.length < j) : L j 0 = some ((idxI f xs, ()), ()) := by
 have := idx_gen L xs z f hs he xs.length 0 j (by omega) hj
 rw [List.drop_zero] at this
 simpa [idxI] using this
theorem idx_ge (f : α → Bool) (s : List α) : decide (idxI f s ≥ 0) = s.any f := by
 unfold idxI
 cases h : s.findIdx? f with
 | none => rw [List.findIdx?_eq_none_iff] at h; simp; intro x hx; simpa using h x hx
 | some n =>
  have h2 := List.findIdx?_isSome (xs := s) (p := f)
  rw [h] at h2
  rw [← h2]; simp
def anyF (f : Nat → Bool) : Nat → Nat → Bool
 | 0, _ => false
 | m + 1, i => f i || anyF f m (i + 1)
theorem anyF_iff (f : Nat → Bool) : ∀ (m i : Nat), anyF f m i = true ↔ ∃ n, i ≤ n ∧ n < i + m ∧ f n = true
 | 0, i => ⟨fun h => by simp [anyF] at h, fun ⟨n, h1, h2, _⟩ => by omega⟩
 | m + 1, i => by
  rw [anyF, Bool.or_eq_true, anyF_iff f m (i + 1)]
  constructor
  ·rintro (h | ⟨n, h1, h2, h3⟩)
   ·exact ⟨i, by omega, by omega, h⟩
   ·exact ⟨n, by omega, by omega, h3⟩
  ·rintro ⟨n, h1, h2, h3⟩
   by_cases e : n = i
   ·subst e; exact .inl h3
   ·exact .inr ⟨n, by omega, by omega, h3⟩
theorem anyF_none (f : Nat → Bool) (m i : Nat) : anyF f m i = false ↔ ∀ n, i ≤ n → n < i + m → f n = false := by
 constructor
 ·intro h n h1 h2
  cases hf : f n with
  | false => rfl
  | true => rw [(anyF_iff f m i).2 ⟨n, h1, h2, hf⟩] at h; cases h
 ·intro h
  cases ha : anyF f m i with
  | false => rfl
  | true => obtain ⟨n, h1, h2, h3⟩ := (anyF_iff f m i).1 ha; rw [h n h1 h2] at h3; cases h3
end
end Go.Proofs.YtmmagcjlfcicfaaGreat.Ab

/- Which instructions may be; areas: both answers are one. -/
namespace Go.Proofs.YtmmagcjlfcicfaaGreat.Ab
open Go.RowKit
set_option linter.unusedSimpArgs false
set_option linter.unusedVariables false
def memI (a : Int) : Bool := decide (a ≥ 0) && decide (a < 8)
def witI (v a b : Int) : Bool := decide (v ≥ a) && decide (v ≤ b)
def mayI (i : I4) : Bool :=
 bif i.1 == 0 then (i.2.1 == 0 && (i.2.2.1 == 0 && i.2.2.2 == 0))
 else bif i.1 == 11 then (i.2.1 == 0 && (i.2.2.1 == 0 && i.2.2.2 == 0))
 else bif i.1 == 1 then (memI i.2.1 && (i.2.2.1 == 0 && witI i.2.2.2 (-2147483648) 2147483647))
 else bif i.1 == 2 then (memI i.2.1 && (memI i.2.2.1 && i.2.2.2 == 0))
 else bif i.1 == 3 then (memI i.2.1 && (memI i.2.2.1 && i.2.2.2 == 0))
 else bif i.1 == 4 then (memI i.2.1 && (memI i.2.2.1 && i.2.2.2 == 0))
 else bif i.1 == 5 then (memI i.2.1 && (i.2.2.1 == 0 && witI i.2.2.2 (-63) 63))
 else bif i.1 == 6 then (memI i.2.1 && (i.2.2.1 == 0 && witI i.2.2.2 1 64))
 else bif i.1 == 7 then (memI i.2.1 && (i.2.2.1 == 0 && witI i.2.2.2 1 24))
 else bif i.1 == 8 then (i.2.1 == 0 && (witI i.2.2.1 1 24 && witI i.2.2.2 1 20))
 else bif i.1 == 9 then (witI i.2.1 0 3 && (i.2.2.1 == 0 && i.2.2.2 == 0))
 else bif i.1 == 10 then (witI i.2.1 0 3 && (i.2.2.1 == 0 && i.2.2.2 == 0))
 else false
theorem S234_eq (k : Nat) (a : Int) : S234 k a = some ((memI a, ()), ()) := by unfold S234 memI; rw [bsel, bsel_f]
theorem S235_eq (k : Nat) (v a b : Int) : S235 k v a b = some ((witI v a b, ()), ()) := by unfold S235 witI; rw [bsel, bsel_f]
theorem S228_eq (k : Nat) (i : I4) : S228 k i = some ((mayI i, ()), ()) := by
 unfold mayI S228
 simp only [S234_eq, S235_eq, Option.bind_some, bsel, bsel_f]
def sameS (l : List I4) (open_ : List Int) (x : Int) : Bool := open_.any (fun i => (rd l i i0).2.1 == (rd l x i0).2.1)
end Go.Proofs.YtmmagcjlfcicfaaGreat.Ab

/- Areas, how they stand to each other, and which instruction is in which: the program's answers told. -/
namespace Go.Proofs.YtmmagcjlfcicfaaGreat.Ab
open Go.RowKit
set_option linter.unusedSimpArgs false
set_option linter.unusedVariables false
def pc (i : Nat) (x : I4) : List (Int × Int × Int × Bool) :=
 bif x.1 == 8 then [(((i + 1 : Nat) : Int), IntKind.i64.wrap ((i : Int) + x.2.2.1), (i : Int), true)]
 else bif x.1 == 7 then [(((i + 1 : Nat) : Int), IntKind.i64.wrap ((i : Int) + x.2.2.2), (i : Int), false)] else []
def pcs : Nat → List (I4) → List (Int × Int × Int × Bool)
 | _, [] => []
 | i, x :: r => pc i x ++ pcs (i + 1) r
abbrev Ar : Type := Int × Int × Int × Bool
def hasA (p : Ar) (i : Int) : Bool := decide (p.1 ≤ i) && decide (i ≤ p.2.1)
def inA (p q : Ar) : Bool := hasA q p.1 && hasA q p.2.1
def apA (p q : Ar) : Bool := decide (p.2.1 < q.1) || decide (q.2.1 < p.1)
def badA (p q : Ar) : Bool := (hasA q p.2.2.1 && !inA p q) || (!apA p q && (!inA p q && !inA q p))
def bumps : List Int → Nat → Nat → List Int
 | ar, _, 0 => ar
 | ar, i, m + 1 => bumps (ar.set i (IntKind.i64.wrap (ar.getD i 0 + 1))) (i + 1) m
def nest (L1 : Int) (all : List Ar) : List Ar → List Int → Bool
 | [], ar => !ar.any (fun i => decide (i > 2))
 | p :: r, ar => bif decide (p.2.1 ≥ L1) then false else bif all.any (badA p) then false else nest L1 all r (bif p.2.2.2 then bumps ar p.1.toNat (p.2.1 + 1 - p.1).toNat else ar)
def marks (n : Nat) (p : Ar) : List (PN Bool 24) → Nat → Nat → List (PN Bool 24)
 | out, _, 0 => out
 | out, i, m + 1 => marks n p (bif hasA p (i : Int) then out.set i (aset (α := Bool) 24 (out.getD i (prep (α := Bool) 24 false)) (n : Int) true) else out) (i + 1) m
end Go.Proofs.YtmmagcjlfcicfaaGreat.Ab

/- Which instruction is in which area, as bits; maps; pairs as the program has them. -/
namespace Go.Proofs.YtmmagcjlfcicfaaGreat.Ab
open Go.RowKit
set_option linter.unusedSimpArgs false
set_option linter.unusedVariables false
def sepA (l : List I4) (i j : Int) : Bool := (pcs 0 l).any (fun p => hasA p i != hasA p j)
section
variable {tk tv : Ty} (hb : ∀ a b : tk.D, beqD tk a b = true ↔ a = b)
include hb
end
end Go.Proofs.YtmmagcjlfcicfaaGreat.Ab

/- Pairs, as the program has them. -/
namespace Go.Proofs.YtmmagcjlfcicfaaGreat.Ab
open Go.RowKit
set_option linter.unusedSimpArgs false
set_option linter.unusedVariables false
def prStep (l : List I4) (i : Nat) (s : List Int × List Int) : Option (List Int × List Int) :=
 if (l.getD i i0).1 = 9 then (if 2 ≤ s.2.length ∨ sameS l s.2 i = true then none else some (s.1, s.2 ++ [(i : Int)]))
 else if (l.getD i i0).1 = 10 then
  (match s.2.getLast? with
  | none => none
  | some k => if (rd l k i0).2.1 ≠ (l.getD i i0).2.1 ∨ sepA l k.toNat i = true then none else some (upd s.1 k i, s.2.dropLast))
 else some s
def prGo (l : List I4) : Nat → Nat → List Int × List Int → Option (List Int × List Int)
 | 0, _, s => some s
 | m + 1, i, s => (prStep l i s).bind (prGo l m (i + 1))
def prs (l : List I4) : Option (List Int) := match prGo l l.length 0 (List.replicate l.length 0, []) with
 | some (out, []) => some out
 | _ => none
end Go.Proofs.YtmmagcjlfcicfaaGreat.Ab

/- Which programs may be, as the program has it. -/
namespace Go.Proofs.YtmmagcjlfcicfaaGreat.Ab
open Go.RowKit
set_option linter.unusedSimpArgs false
set_option linter.unusedVariables false
def mkBad (l : List I4) (ps : List Int) (i : Nat) : Bool := (l.getD i i0).1 == 11 && ((pcs 0 l).any (fun p => hasA p i) || (ps.take i).any (fun e => decide (e > (i : Int))))
def mayA (l : List I4) : Bool :=
 decide (1 ≤ l.length) && (decide (l.length ≤ 24) && (!l.any (fun i => !mayI i) && (idxI (fun i => i.1 == 0) l == (l.length : Int) - 1 &&
  (nest ((l.length : Int) - 1) (pcs 0 l) (pcs 0 l) (List.replicate l.length 0) &&
  (match prs l with | none => false | some ps => !anyF (mkBad l ps) l.length 0)))))
end Go.Proofs.YtmmagcjlfcicfaaGreat.Ab

/- Pairs, and which programs may be, as the document has them. -/
namespace Go.Proofs.YtmmagcjlfcicfaaGreat.Ab
open Go.RowKit
set_option linter.unusedSimpArgs false
set_option linter.unusedVariables false
abbrev a0 : Ar := (0, 0, 0, false)
end Go.Proofs.YtmmagcjlfcicfaaGreat.Ab

/- Which programs may be: both answers are one. -/
namespace Go.Proofs.YtmmagcjlfcicfaaGreat.Ab
open Go.RowKit
set_option linter.unusedSimpArgs false
set_option linter.unusedVariables false
def wd (x : I4) : Nat := (bif x.1 == 8 then x.2.2.1 else bif x.1 == 7 then x.2.2.2 else 0).toNat
def isA (x : I4) : Bool := x.1 == 8 || x.1 == 7
theorem wit_iff (v a b : Int) : witI v a b = true ↔ a ≤ v ∧ v ≤ b := by simp [witI]
theorem may8 {x : I4} (h : mayI x = true) (e : x.1 = 8) : x.2.1 = 0 ∧ (1 ≤ x.2.2.1 ∧ x.2.2.1 ≤ 24) ∧ 1 ≤ x.2.2.2 ∧ x.2.2.2 ≤ 20 := by
 simpa [mayI, e, wit_iff] using h
end Go.Proofs.YtmmagcjlfcicfaaGreat.Ab

/- Programs as trees: what is flat may be. -/
namespace Go.Proofs.YtmmagcjlfcicfaaGreat.Ab
open Go.RowKit
set_option linter.unusedSimpArgs false
set_option linter.unusedVariables false
inductive Tr where
 | nil
 | one (x : I4) (r : Tr)
 | lk (a : Int) (b r : Tr)
 | ar (x : I4) (b r : Tr)
namespace Tr
def flat : Tr → List I4
 | nil => []
 | one x r => x :: flat r
 | lk a b r => (9, a, 0, 0) :: (flat b ++ ((10, a, 0, 0) :: flat r))
 | ar x b r => x :: (flat b ++ flat r)
def len : Tr → Nat
 | nil => 0
 | one _ r => len r + 1
 | lk _ b r => len b + len r + 2
 | ar _ b r => len b + len r + 1
theorem flat_len : ∀ t : Tr, t.flat.length = t.len
 | nil => rfl
 | one x r => by simp only [flat, len, List.length_cons, flat_len r]
 | lk a b r => by simp only [flat, len, List.length_cons, List.length_append, flat_len b, flat_len r]; omega
 | ar x b r => by simp only [flat, len, List.length_cons, List.length_append, flat_len b, flat_len r]
def plain (x : I4) : Prop := x.1 ≠ 0 ∧ x.1 ≠ 7 ∧ x.1 ≠ 8 ∧ x.1 ≠ 9 ∧ x.1 ≠ 10
def Ok : Nat → List Int → Bool → Tr → Prop
 | _, _, _, nil => True
 | d, hs, ia, one x r => mayI x = true ∧ plain x ∧ (x.1 = 11 → ia = false ∧ hs = []) ∧ Ok d hs ia r
 | d, hs, ia, lk a b r => (0 ≤ a ∧ a ≤ 3) ∧ (a ∉ hs ∧ hs.length < 2) ∧ Ok d (hs ++ [a]) ia b ∧ Ok d hs ia r
 | d, hs, ia, ar x b r => (mayI x = true ∧ isA x = true ∧ wd x = b.len) ∧ (x.1 = 8 → d < 2) ∧ Ok (bif x.1 == 8 then d + 1 else d) hs true b ∧ Ok d hs ia r
end Tr
open Tr
end Go.Proofs.YtmmagcjlfcicfaaGreat.Ab

/- Pairs of a tree; a tree with an end behind it is a program that may be. -/
namespace Go.Proofs.YtmmagcjlfcicfaaGreat.Ab
open Go.RowKit Tr
set_option linter.unusedSimpArgs false
set_option linter.unusedVariables false
def Tr.prog (t : Tr) : List I4 := t.flat ++ [i0]
theorem prog_len (t : Tr) : t.prog.length = t.len + 1 := by unfold Tr.prog; rw [List.length_append, flat_len]; rfl
end Go.Proofs.YtmmagcjlfcicfaaGreat.Ab

/- Programs made of numbers are trees. -/
namespace Go.Proofs.YtmmagcjlfcicfaaGreat.Ab
open Go.RowKit Tr
set_option linter.unusedSimpArgs false
set_option linter.unusedVariables false
def semT (n : Int) : Tr → Prop
 | .nil => True
 | .one _ r => semT n r
 | .lk a b r => (0 ≤ a ∧ a < n) ∧ semT n b ∧ semT n r
 | .ar _ b r => semT n b ∧ semT n r
def lowT : Tr → Prop
 | .nil => True
 | .one x r => (x.1 ≤ 6 → x.2.1 < 3) ∧ lowT r
 | .lk _ b r => lowT b ∧ lowT r
 | .ar _ b r => lowT b ∧ lowT r
structure Mp (locks : Int) (t : Tr) : Prop where
 ok : Ok 0 [] false t
 free : semT locks t
 low : lowT t
end Go.Proofs.YtmmagcjlfcicfaaGreat.Ab

/- Wild programs; what begins the laws; numbers out of bytes. -/
namespace Go.Proofs.YtmmagcjlfcicfaaGreat.Ab
open Go.RowKit Tr
set_option linter.unusedSimpArgs false
set_option linter.unusedVariables false
end Go.Proofs.YtmmagcjlfcicfaaGreat.Ab

/- The laws of layer 6 that are of lists alone. -/
namespace Go.Proofs.YtmmagcjlfcicfaaGreat.Ab
open Go.RowKit Tr
set_option linter.unusedSimpArgs false
set_option linter.unusedVariables false
end Go.Proofs.YtmmagcjlfcicfaaGreat.Ab

/- What pairs are: each lock has its own, one in the other or apart. -/
namespace Go.Proofs.YtmmagcjlfcicfaaGreat.Ab
open Go.RowKit Tr
set_option linter.unusedSimpArgs false
set_option linter.unusedVariables false
end Go.Proofs.YtmmagcjlfcicfaaGreat.Ab

/- Numbers that stop at their ends, of numbers that are not below nought. -/
namespace Go.Proofs.YtmmagcjlfcicfaaGreat.Ab
open Go.RowKit
set_option linter.unusedSimpArgs false
set_option linter.unusedVariables false
theorem u64 {n : Int} (h1 : 0 ≤ n) (h2 : n < 18446744073709551616) : IntKind.u64.wrap n = n := by
 unfold IntKind.wrap
 have e1 : (2 ^ IntKind.u64.bits : Int) = 18446744073709551616 := by decide
 simp only [e1, IntKind.signed, Bool.false_and, Bool.false_eq_true, if_false]
 omega
theorem u64_emod (n : Int) : IntKind.u64.wrap n = n % 18446744073709551616 := by
 unfold IntKind.wrap
 have e1 : (2 ^ IntKind.u64.bits : Int) = 18446744073709551616 := by decide
 simp only [e1, IntKind.signed, Bool.false_and, Bool.false_eq_true, if_false]
end Go.Proofs.YtmmagcjlfcicfaaGreat.Ab

/- How long programs are: both answers are one. -/
namespace Go.Proofs.YtmmagcjlfcicfaaGreat.Ab
open Go.RowKit Tr
set_option linter.unusedSimpArgs false
set_option linter.unusedVariables false
def tmA (l : List I4) (j : Int) : List Ar → Int → Int
 | [], acc => acc
 | p :: r, acc => tmA l j r (bif p.2.2.2 && hasA p j then acc * (rd l p.2.2.1 i0).2.2.2 else acc)
def tms (l : List I4) : List Int := (List.range l.length).map (fun (j : Nat) => tmA l (j : Int) (pcs 0 l) 1)
/-! ### the program's -/
end Go.Proofs.YtmmagcjlfcicfaaGreat.Ab

/- How long programs are: the answer told. -/
namespace Go.Proofs.YtmmagcjlfcicfaaGreat.Ab
open Go.RowKit Tr
set_option linter.unusedSimpArgs false
set_option linter.unusedVariables false
def sm : List Int → Int
 | [] => 0
 | x :: r => x + sm r
def cg (l : List I4) (ts ps : List Int) : Nat → Nat → Int → List (Int × Int) → Int → Int × List (Int × Int)
 | 0, _, c1, c2, _ => (c1, c2)
 | m + 1, i, c1, c2, p =>
  if (l.getD i i0).1 = 11 ∨ (l.getD i i0).1 = 0 then cg l ts ps m (i + 1) (max c1 (p + ts.getD i 0)) c2 0
  else if (l.getD i i0).1 = 9 then cg l ts ps m (i + 1) c1 (c2 ++ [((l.getD i i0).2.1, Int.tdiv (sm (sub ts ((i + 1 : Nat) : Int) (ps.getD i 0 + 1))) (ts.getD i 0))]) (p + ts.getD i 0)
  else cg l ts ps m (i + 1) c1 c2 (p + ts.getD i 0)
def costR (l : List I4) (ps : List Int) : Int × Int × List (Int × Int) := (sm (tms l), cg l (tms l) ps l.length 0 0 [] 0)
noncomputable def costOf (l : List I4) : Option (Int × Int × List (Int × Int)) := if mayA l = true then some (costR l ((prs l).getD [])) else none
end Go.Proofs.YtmmagcjlfcicfaaGreat.Ab

/- How long programs are: the law of both answers. -/
namespace Go.Proofs.YtmmagcjlfcicfaaGreat.Ab
open Go.RowKit Tr
set_option linter.unusedSimpArgs false
set_option linter.unusedVariables false
end Go.Proofs.YtmmagcjlfcicfaaGreat.Ab

/- How long a tree is. -/
namespace Go.Proofs.YtmmagcjlfcicfaaGreat.Ab
open Go.RowKit Tr
set_option linter.unusedSimpArgs false
set_option linter.unusedVariables false
def repOf (x : I4) : Int := if x.1 = 8 then x.2.2.2 else 1
namespace Tr
def cost : Tr → Int
 | .nil => 0
 | .one _ r => 1 + cost r
 | .lk _ b r => 2 + cost b + cost r
 | .ar x b r => 1 + repOf x * cost b + cost r
def ts : Int → Tr → List Int
 | _, .nil => []
 | M, .one _ r => M :: ts M r
 | M, .lk _ b r => M :: (ts M b ++ (M :: ts M r))
 | M, .ar x b r => M :: (ts (M * repOf x) b ++ ts M r)
def spans : Tr → List (Int × Int)
 | .nil => []
 | .one _ r => spans r
 | .lk a b r => (a, cost b + 1) :: (spans b ++ spans r)
 | .ar _ b r => spans b ++ spans r
def piece : Int → Tr → Int × Int → Int × Int
 | _, .nil, s => s
 | M, .one x r, s => piece M r (if x.1 = 11 then (max s.1 (s.2 + M), 0) else (s.1, s.2 + M))
 | M, .lk _ b r, s => piece M r ((piece M b (s.1, s.2 + M)).1, (piece M b (s.1, s.2 + M)).2 + M)
 | M, .ar x b r, s => piece M r (piece (M * repOf x) b (s.1, s.2 + M))
end Tr
end Go.Proofs.YtmmagcjlfcicfaaGreat.Ab

/- The pieces of a tree: how they change. -/
namespace Go.Proofs.YtmmagcjlfcicfaaGreat.Ab
open Go.RowKit Tr
set_option linter.unusedSimpArgs false
set_option linter.unusedVariables false
end Go.Proofs.YtmmagcjlfcicfaaGreat.Ab

/- Numbers of 64 bits: by powers of two, narrower; machines, step by step: the document's. -/
namespace Go.Proofs.YtmmagcjlfcicfaaGreat.Ab
open Go.RowKit
set_option linter.unusedSimpArgs false
set_option linter.unusedVariables false
def inR (v : Int) : Prop := -9223372036854775808 ≤ v ∧ v ≤ 9223372036854775807
theorem wrap_in (v : Int) : inR (IntKind.i64.wrap v) := by
 unfold IntKind.wrap inR
 have e1 : (2 ^ IntKind.i64.bits : Int) = 18446744073709551616 := by decide
 have e2 : (2 ^ (IntKind.i64.bits - 1) : Int) = 9223372036854775808 := by decide
 simp only [e1, e2, IntKind.signed, Bool.true_and, decide_eq_true_eq]
 split <;> omega
theorem wrap_mod (v : Int) : ∃ q : Int, IntKind.i64.wrap v = v + q * 18446744073709551616 := by
 unfold IntKind.wrap
 have e1 : (2 ^ IntKind.i64.bits : Int) = 18446744073709551616 := by decide
 have e2 : (2 ^ (IntKind.i64.bits - 1) : Int) = 9223372036854775808 := by decide
 simp only [e1, e2, IntKind.signed, Bool.true_and, decide_eq_true_eq]
 split
 ·exact ⟨-(v / 18446744073709551616) - 1, by omega⟩
 ·exact ⟨-(v / 18446744073709551616), by omega⟩
theorem wrap_eq {v u : Int} (h : inR u) (q : Int) (e : u = v + q * 18446744073709551616) : IntKind.i64.wrap v = u := by
 obtain ⟨q2, h2⟩ := wrap_mod v
 have := wrap_in v
 unfold inR at *
 omega
def shiftV (v n : Int) : Int := if n = 0 then v else if 0 < n then IntKind.i64.wrap (v * 2 ^ n.toNat) else v.fdiv (2 ^ (-n).toNat)
def narrowV (v n : Int) : Int := if (v % 2 ^ n.toNat) * 2 ≥ 2 ^ n.toNat then v % 2 ^ n.toNat - 2 ^ n.toNat else v % 2 ^ n.toNat
theorem pow2_half {n : Nat} (h : 1 ≤ n) : (2 : Int) ^ n = 2 * 2 ^ (n - 1) := by
 obtain ⟨m, rfl⟩ : ∃ m, n = m + 1 := ⟨n - 1, by omega⟩
 rw [Int.pow_succ, Nat.add_sub_cancel]; omega
theorem pow2_dvd {n : Nat} (h : n ≤ 64) : (18446744073709551616 : Int) = 2 ^ n * 2 ^ (64 - n) := by
 rw [← Int.pow_add, show n + (64 - n) = 64 by omega]; decide
end Go.Proofs.YtmmagcjlfcicfaaGreat.Ab

/- A step of a machine, as the document has it. -/
namespace Go.Proofs.YtmmagcjlfcicfaaGreat.Ab
open Go.RowKit
set_option linter.unusedSimpArgs false
set_option linter.unusedVariables false
abbrev Rp : Type := Int × Int × Int
abbrev Mem : Type := PN Int 8
abbrev Mc : Type := Int × Mem × List Rp × Bool
def mg (mem : Mem) (a : Int) : Int := aget (α := Int) 8 mem a 0
def inM (mem : Mem) : Prop := ∀ x ∈ plist 8 mem, inR x
theorem mg_in {mem : Mem} (h : inM mem) (a : Int) : inR (mg mem a) := by
 unfold mg aget
 by_cases e : a.toNat < (plist 8 mem).length
 ·exact h _ (getD_mem e)
 ·rw [getD_out (by omega)]; unfold inR; omega
def eff (x : I4) (mem : Mem) : Mem :=
 if x.1 = 1 then aset (α := Int) 8 mem x.2.1 x.2.2.2
 else if x.1 = 2 then aset (α := Int) 8 mem x.2.1 (IntKind.i64.wrap (mg mem x.2.1 + mg mem x.2.2.1))
 else if x.1 = 3 then aset (α := Int) 8 mem x.2.1 (IntKind.i64.wrap (mg mem x.2.1 - mg mem x.2.2.1))
 else if x.1 = 4 then aset (α := Int) 8 mem x.2.1 (IntKind.i64.wrap (mg mem x.2.1 * mg mem x.2.2.1))
 else if x.1 = 5 then aset (α := Int) 8 mem x.2.1 (shiftV (mg mem x.2.1) x.2.2.2)
 else if x.1 = 6 then aset (α := Int) 8 mem x.2.1 (narrowV (mg mem x.2.1) x.2.2.2)
 else mem
theorem may_set {x : I4} (h : mayI x = true) (e : x.1 = 1) : (0 ≤ x.2.1 ∧ x.2.1 < 8) ∧ x.2.2.1 = 0 ∧ -2147483648 ≤ x.2.2.2 ∧ x.2.2.2 ≤ 2147483647 := by
 simpa [mayI, e, witI, memI] using h
theorem may_two {x : I4} (h : mayI x = true) (e : x.1 = 2 ∨ x.1 = 3 ∨ x.1 = 4) : (0 ≤ x.2.1 ∧ x.2.1 < 8) ∧ (0 ≤ x.2.2.1 ∧ x.2.2.1 < 8) ∧ x.2.2.2 = 0 := by
 rcases e with e | e | e <;> simpa [mayI, e, witI, memI] using h
theorem may_shift {x : I4} (h : mayI x = true) (e : x.1 = 5) : (0 ≤ x.2.1 ∧ x.2.1 < 8) ∧ x.2.2.1 = 0 ∧ -63 ≤ x.2.2.2 ∧ x.2.2.2 ≤ 63 := by
 simpa [mayI, e, witI, memI] using h
theorem may_narrow {x : I4} (h : mayI x = true) (e : x.1 = 6) : (0 ≤ x.2.1 ∧ x.2.1 < 8) ∧ x.2.2.1 = 0 ∧ 1 ≤ x.2.2.2 ∧ x.2.2.2 ≤ 64 := by
 simpa [mayI, e, witI, memI] using h
theorem may_skip {x : I4} (h : mayI x = true) (e : x.1 = 7) : (0 ≤ x.2.1 ∧ x.2.1 < 8) ∧ x.2.2.1 = 0 ∧ 1 ≤ x.2.2.2 ∧ x.2.2.2 ≤ 24 := by
 simpa [mayI, e, witI, memI] using h
def goesR (pc : Int) : List Rp → Int × List Rp
 | [] => (pc, [])
 | r :: rest => if r.2.1 < pc then (if r.2.2 > 0 then (r.1, (r.1, r.2.1, r.2.2 - 1) :: rest) else goesR pc rest) else (pc, r :: rest)
def nxt (x : I4) (pc : Int) (mem : Mem) (R : List Rp) : Int × List Rp :=
 if x.1 = 0 then (pc, R)
 else if x.1 = 7 then (if mg mem x.2.1 = 0 then (pc + 1 + x.2.2.2, R) else (pc + 1, R))
 else if x.1 = 8 then (pc + 1, (pc + 1, pc + x.2.2.1, x.2.2.2 - 1) :: R)
 else (pc + 1, R)
def go (x : I4) (pc : Int) (mem : Mem) (R : List Rp) : Int × List Rp := goesR (nxt x pc mem R).1 (nxt x pc mem R).2
end Go.Proofs.YtmmagcjlfcicfaaGreat.Ab

/- Runs of the program of a tree. -/
namespace Go.Proofs.YtmmagcjlfcicfaaGreat.Ab
open Go.RowKit Tr
set_option linter.unusedSimpArgs false
set_option linter.unusedVariables false
inductive Run (l : List I4) : Nat → Mem → List Rp → List I4 → Nat → Mem → List Rp → Prop
 | nil (n : Nat) (mem : Mem) (R : List Rp) : Run l n mem R [] n mem R
 | cons {n : Nat} {mem : Mem} {R : List Rp} {x : I4} {n1 : Nat} {R1 : List Rp} {tr : List I4} {n2 : Nat} {mem2 : Mem} {R2 : List Rp} : n < l.length → l.getD n i0 = x → x.1 ≠ 0 → R.length ≤ 2 → (∀ r ∈ R, r.2.2 ≤ 1000) → go x n mem R = ((n1 : Int), R1) → (x.1 = 11 → R1 = []) →
   Run l n1 (eff x mem) R1 tr n2 mem2 R2 → Run l n mem R (x :: tr) n2 mem2 R2
def RunG (l : List I4) (o : Nat) (mem : Mem) (R : List Rp) (tr : List I4) (o2 : Nat) (mem2 : Mem) (R2 : List Rp) : Prop :=
 ∀ (n1 : Nat) (R1 : List Rp), goesR (o : Int) R = ((n1 : Int), R1) → ∃ (n2 : Nat) (R3 : List Rp), goesR (o2 : Int) R2 = ((n2 : Int), R3) ∧ Run l n1 mem R1 tr n2 mem2 R3
theorem RunG.nil {l : List I4} {o : Nat} {mem : Mem} {R : List Rp} : RunG l o mem R [] o mem R := fun n1 R1 h => ⟨n1, R1, h, .nil _ _ _⟩
def Cov (R : List Rp) (e : Nat) : Prop := ∀ r ∈ R.head?, (e : Int) ≤ r.2.1 + 1
theorem goes_stay {R : List Rp} {o : Nat} (h : Cov R (o + 1)) : goesR (o : Int) R = ((o : Int), R) := by
 cases R with
 | nil => rfl
 | cons r R => rw [goesR, if_neg]; have := h r (by simp); omega
theorem RunG.step {l : List I4} {o : Nat} {mem : Mem} {R : List Rp} {x : I4} {o1 : Nat} {R1 : List Rp} (hn : o < l.length) (hx : l.getD o i0 = x) (h0 : x.1 ≠ 0) (hR : R.length ≤ 2) (hb : ∀ r ∈ R, r.2.2 ≤ 1000) (hc : Cov R (o + 1)) (hnx : nxt x o mem R = ((o1 : Int), R1)) (hm : x.1 = 11 → (goesR (o1 : Int) R1).2 = []) (hpos : 0 ≤ (goesR (o1 : Int) R1).1) :
  RunG l o mem R [x] o1 (eff x mem) R1 := fun n1 R2 h => by
 rw [goes_stay hc] at h
 injection h with h1 h2
 subst h2
 have : n1 = o := by omega
 subst this
 refine ⟨(goesR (o1 : Int) R1).1.toNat, (goesR (o1 : Int) R1).2, ?_, ?_⟩
 ·exact Prod.ext (by simp only; omega) rfl
 ·refine .cons hn hx h0 hR hb ?_ hm (.nil _ _ _)
  unfold go
  rw [hnx]
  exact Prod.ext (by simp only; omega) rfl
theorem RunG.congr {l : List I4} {o : Nat} {mem : Mem} {R : List Rp} {tr : List I4} {o2 : Nat} {mem2 : Mem} {R2 : List Rp} {o3 : Nat} {R3 : List Rp} (h : RunG l o mem R tr o2 mem2 R2) (e : goesR (o2 : Int) R2 = goesR (o3 : Int) R3) : RunG l o mem R tr o3 mem2 R3 := fun n1 R1 g => by
 obtain ⟨n2, R4, g1, g2⟩ := h n1 R1 g
 exact ⟨n2, R4, by rw [← e]; exact g1, g2⟩
end Go.Proofs.YtmmagcjlfcicfaaGreat.Ab

/- What runs of trees do: how long they are, what they hold. -/
namespace Go.Proofs.YtmmagcjlfcicfaaGreat.Ab
open Go.RowKit Tr
set_option linter.unusedSimpArgs false
set_option linter.unusedVariables false
end Go.Proofs.YtmmagcjlfcicfaaGreat.Ab

/- A program that may be is the program of a tree. -/
namespace Go.Proofs.YtmmagcjlfcicfaaGreat.Ab
open Go.RowKit Tr
set_option linter.unusedSimpArgs false
set_option linter.unusedVariables false
theorem may9 {x : I4} (h : mayI x = true) (e : x.1 = 9 ∨ x.1 = 10) : (0 ≤ x.2.1 ∧ x.2.1 ≤ 3) ∧ x.2.2.1 = 0 ∧ x.2.2.2 = 0 := by
 rcases e with e | e <;> simpa [mayI, e, witI] using h
end Go.Proofs.YtmmagcjlfcicfaaGreat.Ab

/- What programs come to, as the document has it. -/
namespace Go.Proofs.YtmmagcjlfcicfaaGreat.Ab
open Go.RowKit Tr
set_option linter.unusedSimpArgs false
set_option linter.unusedVariables false
abbrev mem0 (a : Int) : Mem := (a, 0, 0, 0, 0, 0, 0, 0)
theorem mem0_in (a : Int) (h : inR a) : inM (mem0 a) := by
 intro x hx
 simp only [plist, List.mem_cons, List.not_mem_nil, or_false] at hx
 rcases hx with rfl | rfl | rfl | rfl | rfl | rfl | rfl | rfl
 ·exact h
 all_goals exact ⟨by omega, by omega⟩
end Go.Proofs.YtmmagcjlfcicfaaGreat.Ab

/- A step of a machine, and a run, as the program has it. -/
namespace Go.Proofs.YtmmagcjlfcicfaaGreat.Ab
open Go.RowKit Tr
set_option linter.unusedSimpArgs false
set_option linter.unusedVariables false
theorem wrap_congr {x y : Int} (q : Int) (h : x = y + q * 18446744073709551616) : IntKind.i64.wrap x = IntKind.i64.wrap y := by
 obtain ⟨q2, h2⟩ := wrap_mod y
 refine wrap_eq (wrap_in _) (q2 - q) ?_
 rw [h2, h]; grind
theorem u64_q (x : Int) : ∃ q : Int, IntKind.u64.wrap x = x + q * 18446744073709551616 := ⟨-(x / 18446744073709551616), by rw [u64_emod]; omega⟩
theorem w_u (x : Int) : IntKind.i64.wrap (IntKind.u64.wrap x) = IntKind.i64.wrap x := by
 obtain ⟨q, h⟩ := u64_q x
 exact wrap_congr q h
theorem w_add (a b : Int) : IntKind.i64.wrap (IntKind.u64.wrap (IntKind.u64.wrap a + IntKind.u64.wrap b)) = IntKind.i64.wrap (a + b) := by
 rw [w_u]
 obtain ⟨q1, h1⟩ := u64_q a
 obtain ⟨q2, h2⟩ := u64_q b
 exact wrap_congr (q1 + q2) (by rw [h1, h2]; grind)
theorem w_sub (a b : Int) : IntKind.i64.wrap (IntKind.u64.wrap (IntKind.u64.wrap a - IntKind.u64.wrap b)) = IntKind.i64.wrap (a - b) := by
 rw [w_u]
 obtain ⟨q1, h1⟩ := u64_q a
 obtain ⟨q2, h2⟩ := u64_q b
 exact wrap_congr (q1 - q2) (by rw [h1, h2]; grind)
theorem w_mul (a b : Int) : IntKind.i64.wrap (IntKind.u64.wrap (IntKind.u64.wrap a * IntKind.u64.wrap b)) = IntKind.i64.wrap (a * b) := by
 rw [w_u]
 obtain ⟨q1, h1⟩ := u64_q a
 obtain ⟨q2, h2⟩ := u64_q b
 exact wrap_congr (q1 * b + q2 * a + q1 * q2 * 18446744073709551616) (by rw [h1, h2]; grind)
theorem w_mulc (a c : Int) : IntKind.i64.wrap (IntKind.u64.wrap (IntKind.u64.wrap a * c)) = IntKind.i64.wrap (a * c) := by
 rw [w_u]
 obtain ⟨q1, h1⟩ := u64_q a
 exact wrap_congr (q1 * c) (by rw [h1]; grind)
theorem w_id {v : Int} (h : inR v) : IntKind.i64.wrap v = v := w64 h.1 h.2
theorem nneg_ok {R : Type} {b : Int} {x : Option R} (h : 0 ≤ b) : nneg b x = x := by unfold nneg; rw [if_neg (by omega)]
theorem S230_eq (k : Nat) {v n : Int} (hv : inR v) (h1 : -63 ≤ n) (h2 : n ≤ 63) : S230 k v n = some ((shiftV v n, ()), ()) := by
 unfold S230 shiftV
 rw [bif_f (by omega), bif_f (by omega)]
 by_cases e : n < 0
 ·rw [bif_t e, if_neg (by omega), if_neg (by omega), w64 (n := 0 - n) (by omega) (by omega), nneg_ok (by omega)]
  unfold ishr
  have : min (0 - n).toNat IntKind.i64.bits = (-n).toNat := by
   have : IntKind.i64.bits = 64 := rfl
   omega
  rw [this]
 ·rw [bif_f e, nneg_ok (by omega)]
  unfold ishl
  have : min n.toNat IntKind.u64.bits = n.toNat := by
   have : IntKind.u64.bits = 64 := rfl
   omega
  rw [this, w_mulc]
  by_cases e0 : n = 0
  ·subst e0; rw [if_pos rfl]; simp [w_id hv]
  ·rw [if_neg e0, if_pos (by omega)]
theorem pow_split {n : Nat} (h1 : 1 ≤ n) (h : n ≤ 64) : (9223372036854775808 : Int) = 2 ^ (n - 1) * 2 ^ (64 - n) := by
 rw [← Int.pow_add, show n - 1 + (64 - n) = 63 by omega]; decide
theorem S231_eq (k : Nat) {v n : Int} (h1 : 1 ≤ n) (h2 : n ≤ 64) : S231 k v n = some ((narrowV v n, ()), ()) := by
 unfold S231
 rw [bif_f (by omega), bif_f (by omega), w64 (n := 64 - n) (by omega) (by omega), nneg_ok (by omega), nneg_ok (by omega)]
 obtain ⟨m, rfl⟩ : ∃ m : Nat, n = (m : Int) := ⟨n.toNat, by omega⟩
 unfold ishr ishl narrowV
 have e : min ((64 : Int) - (m : Int)).toNat IntKind.i64.bits = 64 - m := by
  have : IntKind.i64.bits = 64 := rfl
  omega
 rw [e, Int.toNat_natCast]
 obtain ⟨q, hq⟩ := wrap_mod (v * 2 ^ (64 - m))
 have hin := wrap_in (v * 2 ^ (64 - m))
 rw [hq] at hin ⊢
 have hs0 : (0 : Int) < 2 ^ (64 - m) := Int.pow_pos (by omega)
 have hn0 : (0 : Int) < 2 ^ m := Int.pow_pos (by omega)
 have hh := pow2_half (n := m) (by omega)
 have hp := pow_split (n := m) (by omega) (by omega)
 have hd := pow2_dvd (n := m) (by omega)
 have hfac : v * 2 ^ (64 - m) + q * 18446744073709551616 = (v + q * 2 ^ m) * 2 ^ (64 - m) := by rw [hd]; grind
 rw [hfac] at hin ⊢
 rw [Int.fdiv_eq_ediv_of_nonneg _ (by omega), Int.mul_ediv_cancel _ (by omega)]
 have hmod : v % 2 ^ m = (v + q * 2 ^ m) % 2 ^ m := by rw [Int.add_mul_emod_self_right]
 rw [hmod]
 generalize v + q * 2 ^ m = r at *
 unfold inR at hin
 have hr1 : r < 2 ^ (m - 1) := by
  by_cases f : r < 2 ^ (m - 1)
  ·exact f
  ·have := Int.mul_le_mul_of_nonneg_right (show (2 : Int) ^ (m - 1) ≤ r by omega) (show (0 : Int) ≤ 2 ^ (64 - m) by omega)
   omega
 have hr2 : -(2 ^ (m - 1)) ≤ r := by
  by_cases f : -(2 ^ (m - 1)) ≤ r
  ·exact f
  ·have h3 := Int.mul_le_mul_of_nonneg_right (show r ≤ -(2 ^ (m - 1)) - 1 by omega) (show (0 : Int) ≤ 2 ^ (64 - m) by omega)
   have h4 : (-(2 ^ (m - 1)) - 1) * (2 : Int) ^ (64 - m) = -(2 ^ (m - 1) * 2 ^ (64 - m)) - 2 ^ (64 - m) := by grind
   omega
 congr 3
 by_cases f : 0 ≤ r
 ·rw [Int.emod_eq_of_lt f (by omega), if_neg (by omega)]
 ·have : r % 2 ^ m = r + 2 ^ m := by
   rw [← Int.add_emod_right, Int.emod_eq_of_lt (by omega) (by omega)]
  rw [this, if_pos (by omega)]; omega
theorem L232_2_eq {k : Nat} {pc a b c d e f g h : Int} {ov : Bool} {t1 t2 t3 t4 t5 t6 t7 t8 t9 : Int} {t10 : Bool} : ∀ (R : List Rp) (j : Nat), R.length < j → R.length ≤ 900 → (∀ r ∈ R, r.2.2 ≤ 1000) →
  L232_2 k j pc a b c d e f g h R.reverse ov t1 t2 t3 t4 t5 t6 t7 t8 t9 t10 (R.length : Int) = some ((((goesR pc R).1, (a, b, c, d, e, f, g, h), (goesR pc R).2.reverse, ov), ()), ())
 | [], j, hj, _, _ => by
  obtain ⟨j', rfl⟩ : ∃ j', j = j' + 1 := ⟨j - 1, by omega⟩
  rw [L232_2_s, l232_2, bif_f (by simp)]
  rfl
 | r :: R, j, hj, hl, hb => by
  obtain ⟨j', rfl⟩ : ∃ j', j = j' + 1 := ⟨j - 1, by omega⟩
  simp only [List.length_cons] at hj hl
  have hlen : ((R.reverse ++ [r]).length : Int) = (R.length : Int) + 1 := by simp
  have hw : IntKind.i64.wrap (((r :: R).length : Int) - 1) = (R.length : Int) := by simp only [List.length_cons]; rw [w64 (by omega) (by omega)]; omega
  have hrd : rd (R.reverse ++ [r]) (R.length : Int) (0, 0, 0) = r := by rw [rd_nat, getD_app_r (by simp)]; simp
  have htk : (R.reverse ++ [r]).take (R.length : Int).toNat = R.reverse := by
   rw [Int.toNat_natCast, List.take_append_of_le_length (by simp)]; exact List.take_of_length_le (by simp)
  have hup : ∀ q : Rp, upd (R.reverse ++ [r]) (R.length : Int) q = R.reverse ++ [q] := fun q => by
   rw [upd_nat, List.set_append_right _ _ (by simp)]; simp
  have hr := hb r List.mem_cons_self
  rw [List.reverse_cons, L232_2_s, l232_2, hw, bif_t (by simp only [List.length_cons]; omega), ix_ok (by omega) (by omega), hrd, htk, goesR]
  by_cases e1 : r.2.1 < pc
  ·rw [bif_t e1, if_pos e1, ix_ok (by omega) (by omega), sx_ok (by omega) (by omega) (by omega), hup]
   by_cases e2 : r.2.2 > 0
   ·rw [bif_t e2, if_pos e2, w64 (by omega) (by omega), List.reverse_cons]
   ·rw [bif_f e2, if_neg e2, List.length_reverse]
    exact L232_2_eq R j' (by omega) (by omega) (fun q hq => hb q (List.mem_cons_of_mem _ hq))
  ·rw [bif_f e1, if_neg e1, List.reverse_cons]
theorem may_AB {x : I4} (h : mayI x = true) : (0 ≤ x.2.1 ∧ x.2.1 < 8) ∧ 0 ≤ x.2.2.1 := by
 have h0 : x.1 = 0 ∨ x.1 = 11 → x.2.1 = 0 ∧ x.2.2.1 = 0 := fun e => by
  rcases e with e | e <;> (have : x.2.1 = 0 ∧ x.2.2.1 = 0 ∧ x.2.2.2 = 0 := by simpa [mayI, e] using h) <;> exact ⟨this.1, this.2.1⟩
 by_cases e0 : x.1 = 0 ∨ x.1 = 11
 ·have := h0 e0; omega
 by_cases e1 : x.1 = 1
 ·have := may_set h e1; omega
 by_cases e2 : x.1 = 2 ∨ x.1 = 3 ∨ x.1 = 4
 ·have := may_two h e2; omega
 by_cases e5 : x.1 = 5
 ·have := may_shift h e5; omega
 by_cases e6 : x.1 = 6
 ·have := may_narrow h e6; omega
 by_cases e7 : x.1 = 7
 ·have := may_skip h e7; omega
 by_cases e8 : x.1 = 8
 ·have := may8 h e8; omega
 by_cases e9 : x.1 = 9 ∨ x.1 = 10
 ·have := may9 h e9; omega
 exfalso
 have a0 : (x.1 == 0) = false := by rw [beq_eq_false_iff_ne]; omega
 have a1 : (x.1 == 11) = false := by rw [beq_eq_false_iff_ne]; omega
 have a2 : (x.1 == 1) = false := by rw [beq_eq_false_iff_ne]; omega
 have a3 : (x.1 == 2) = false := by rw [beq_eq_false_iff_ne]; omega
 have a4 : (x.1 == 3) = false := by rw [beq_eq_false_iff_ne]; omega
 have a5 : (x.1 == 4) = false := by rw [beq_eq_false_iff_ne]; omega
 have a6 : (x.1 == 5) = false := by rw [beq_eq_false_iff_ne]; omega
 have a7 : (x.1 == 6) = false := by rw [beq_eq_false_iff_ne]; omega
 have a8 : (x.1 == 7) = false := by rw [beq_eq_false_iff_ne]; omega
 have a9 : (x.1 == 8) = false := by rw [beq_eq_false_iff_ne]; omega
 have b0 : (x.1 == 9) = false := by rw [beq_eq_false_iff_ne]; omega
 have b1 : (x.1 == 10) = false := by rw [beq_eq_false_iff_ne]; omega
 simp [mayI, a0, a1, a2, a3, a4, a5, a6, a7, a8, a9, b0, b1] at h
theorem S208_eq {k : Nat} (hk : 1000 ≤ k) {l : List I4} {n : Nat} {mem : Mem} {R : List Rp} (hl : l.length ≤ 900) (hn : n < l.length) (hx : mayI (l.getD n i0) = true) (hR : R.length ≤ 100) (hb : ∀ r ∈ R, r.2.2 ≤ 1000) (hm : inM mem) :
  S208 k l ((n : Int), mem, R.reverse, false) = some ((((go (l.getD n i0) n mem R).1, eff (l.getD n i0) mem, (go (l.getD n i0) n mem R).2.reverse, (l.getD n i0).1 == 0), l.getD n i0, true, ()), ()) := by
 unfold S208 S229 S138
 simp only
 rw [cond_false, bif_f (by omega), bif_f (by omega), ix_nat hn, rd_nat, S228_eq, Option.bind_some, hx]
 simp only [Bool.not_true, cond_false]
 rw [clone_eq (by simp only [List.length_reverse]; omega)]
 simp only [Option.bind_some]
 rw [ix_nat hn, rd_nat]
 generalize l.getD n i0 = x at hx ⊢
 have hab := may_AB hx
 have htp : 0 ≤ Int.tmod x.2.2.1 8 ∧ Int.tmod x.2.2.1 8 < ((8 : Nat) : Int) := ⟨Int.tmod_nonneg _ hab.2, Int.tmod_lt_of_pos _ (by omega)⟩
 rw [ax_ok hab.1.1 hab.1.2, ax_ok htp.1 htp.2]
 have key : ∀ (pc : Int) (mem' : Mem) (R' : List Rp) (ov : Bool), R'.length ≤ 900 → (∀ r ∈ R', r.2.2 ≤ 1000) → ((S232 k pc mem'.1 mem'.2.1 mem'.2.2.1 mem'.2.2.2.1 mem'.2.2.2.2.1 mem'.2.2.2.2.2.1 mem'.2.2.2.2.2.2.1 mem'.2.2.2.2.2.2.2 R'.reverse ov).bind fun q => some ((q.1.1, x, true, ()), ())) = some ((((goesR pc R').1, mem', (goesR pc R').2.reverse, ov), x, true, ()), ()) := fun pc mem' R' ov h1 h2 => by
  unfold S232
  rw [List.length_reverse, L232_2_eq R' k (by omega) h1 h2]
  rfl
 have htm : 0 ≤ x.2.2.1 ∧ x.2.2.1 < 8 → Int.tmod x.2.2.1 8 = x.2.2.1 := fun h => Int.tmod_eq_of_lt h.1 h.2
 unfold go nxt eff
 rw [w64 (n := (n : Int) + 1) (by omega) (by omega)]
 by_cases e0 : x.1 = 0
 ·rw [show (x.1 == 0) = true by rw [e0]; rfl, cond_true, if_pos e0, if_neg (by omega), if_neg (by omega), if_neg (by omega), if_neg (by omega), if_neg (by omega), if_neg (by omega)]
  exact key _ _ _ _ (by omega) hb
 rw [show (x.1 == 0) = false by simpa using e0, cond_false, if_neg e0]
 by_cases e1 : x.1 = 1
 ·rw [show (x.1 == 1) = true by rw [e1]; rfl, cond_true, if_neg (by omega), if_neg (by omega), if_pos e1]
  exact key _ _ _ _ (by omega) hb
 rw [show (x.1 == 1) = false by simpa using e1, cond_false, if_neg e1]
 by_cases e2 : x.1 = 2
 ·have := may_two hx (.inl e2)
  rw [show (x.1 == 2) = true by rw [e2]; rfl, cond_true, if_neg (by omega), if_neg (by omega), if_pos e2, htm this.2.1, w_add]
  exact key _ _ _ _ (by omega) hb
 rw [show (x.1 == 2) = false by simpa using e2, cond_false, if_neg e2]
 by_cases e3 : x.1 = 3
 ·have := may_two hx (.inr (.inl e3))
  rw [show (x.1 == 3) = true by rw [e3]; rfl, cond_true, if_neg (by omega), if_neg (by omega), if_pos e3, htm this.2.1, w_sub]
  exact key _ _ _ _ (by omega) hb
 rw [show (x.1 == 3) = false by simpa using e3, cond_false, if_neg e3]
 by_cases e4 : x.1 = 4
 ·have := may_two hx (.inr (.inr e4))
  rw [show (x.1 == 4) = true by rw [e4]; rfl, cond_true, if_neg (by omega), if_neg (by omega), if_pos e4, htm this.2.1, w_mul]
  exact key _ _ _ _ (by omega) hb
 rw [show (x.1 == 4) = false by simpa using e4, cond_false, if_neg e4]
 by_cases e5 : x.1 = 5
 ·have := may_shift hx e5
  rw [show (x.1 == 5) = true by rw [e5]; rfl, cond_true, show aget (α := Int) 8 mem x.2.1 0 = mg mem x.2.1 from rfl, S230_eq k (mg_in hm _) this.2.2.1 this.2.2.2, Option.bind_some, if_neg (by omega), if_neg (by omega), if_pos e5]
  exact key _ _ _ _ (by omega) hb
 rw [show (x.1 == 5) = false by simpa using e5, cond_false, if_neg e5]
 by_cases e6 : x.1 = 6
 ·have := may_narrow hx e6
  rw [show (x.1 == 6) = true by rw [e6]; rfl, cond_true, show aget (α := Int) 8 mem x.2.1 0 = mg mem x.2.1 from rfl, S231_eq k this.2.2.1 this.2.2.2, Option.bind_some, if_neg (by omega), if_neg (by omega), if_pos e6]
  exact key _ _ _ _ (by omega) hb
 rw [show (x.1 == 6) = false by simpa using e6, cond_false, if_neg e6]
 by_cases e7 : x.1 = 7
 ·have := may_skip hx e7
  rw [show (x.1 == 7) = true by rw [e7]; rfl, cond_true, show aget (α := Int) 8 mem x.2.1 0 = mg mem x.2.1 from rfl, if_pos e7]
  by_cases e : mg mem x.2.1 = 0
  ·rw [show (mg mem x.2.1 == 0) = true by rw [e]; rfl, cond_true, if_pos e, w64 (by omega) (by omega)]
   exact key _ _ _ _ (by omega) hb
  ·rw [show (mg mem x.2.1 == 0) = false by simpa using e, cond_false, if_neg e]
   exact key _ _ _ _ (by omega) hb
 rw [show (x.1 == 7) = false by simpa using e7, cond_false, if_neg e7]
 by_cases e8 : x.1 = 8
 ·have h8 := may8 hx e8
  rw [show (x.1 == 8) = true by rw [e8]; rfl, cond_true, if_pos e8, ap_ok (by simp only [List.length_reverse, List.length_cons, List.length_nil]; omega), w64 (n := (n : Int) + x.2.2.1) (by omega) (by omega), w64 (n := x.2.2.2 - 1) (by omega) (by omega), ← List.reverse_cons]
  exact key _ _ _ _ (by simp only [List.length_cons]; omega) (fun r hr => by
   rcases List.mem_cons.1 hr with rfl | hr
   ·simp only; omega
   ·exact hb r hr)
 rw [show (x.1 == 8) = false by simpa using e8, cond_false, if_neg e8]
 exact key _ _ _ _ (by omega) hb
end Go.Proofs.YtmmagcjlfcicfaaGreat.Ab

/- Tasks: which may be, what they cost. -/
namespace Go.Proofs.YtmmagcjlfcicfaaGreat.Ab
open Go.RowKit Tr
set_option linter.unusedSimpArgs false
set_option linter.unusedVariables false
abbrev Tk := Int × Int × Int × List I4 × List I4 × List I4
noncomputable def cst (l : List I4) : Int × Int × List (Int × Int) := (costOf l).getD (0, 0, [])
def hasL (l : List I4) : Bool := l.any fun i => i.1 == 9
noncomputable def mayT (t : Tk) : Int :=
 bif decide (t.1 < 0) then 1 else bif decide (t.1 > 63) then 1 else bif decide (t.2.1 < 1) then 9 else bif decide (t.2.1 > 16384) then 9 else
 bif decide (t.2.2.1 < 1) then 9 else bif decide (t.2.2.1 > t.2.1) then 9 else
 bif !mayA t.2.2.2.1 then 2 else bif !(((t.2.2.2.2.1.length : Int) == 0) || mayA t.2.2.2.2.1) then 2 else bif !(((t.2.2.2.2.2.length : Int) == 0) || mayA t.2.2.2.2.2) then 2 else
 bif hasL t.2.2.2.2.2 then 2 else bif decide ((cst t.2.2.2.1).1 > t.2.2.1) then 10 else bif decide ((cst t.2.2.2.2.1).1 > (cst t.2.2.2.1).1) then 12 else 0
def lightT (t : Tk) : Prop := t.2.2.2.1.length ≤ 900 ∧ t.2.2.2.2.1.length ≤ 900 ∧ t.2.2.2.2.2.length ≤ 900
noncomputable def costsT (t : Tk) : Int × Int × List (Int × Int) :=
 if mayT t = 0 then ((cst t.2.2.2.1).1, bif mayA t.2.2.2.2.1 then (cst t.2.2.2.2.1).1 else (cst t.2.2.2.1).2.1, (cst t.2.2.2.1).2.2 ++ (cst t.2.2.2.2.1).2.2) else (0, 0, [])
end Go.Proofs.YtmmagcjlfcicfaaGreat.Ab

/- Tasks that are made of numbers; the law of all tasks. -/
namespace Go.Proofs.YtmmagcjlfcicfaaGreat.Ab
open Go.RowKit Tr
set_option linter.unusedSimpArgs false
set_option linter.unusedVariables false
structure MT (locks rank : Int) (t : Tk) : Prop where
 rank : t.1 = rank
 per : 20 ≤ t.2.1 ∧ t.2.1 ≤ 130
 en : t.2.1 - 9 ≤ t.2.2.1 ∧ t.2.2.1 ≤ t.2.1
 main : ∃ m, t.2.2.2.1 = Tr.prog m ∧ Mp locks m ∧ m.len ≤ 22
 way : t.2.2.2.2.1 = [] ∨ t.2.2.2.2.1 = [(1, 0, 0, 99), (0, 0, 0, 0)] ∨ t.2.2.2.2.1 = [(0, 0, 0, 0)]
 opt : t.2.2.2.2.2 = [] ∨ ∃ o, t.2.2.2.2.2 = Tr.prog o ∧ Mp 0 o ∧ o.len ≤ 22
theorem MT.light {locks rank : Int} {t : Tk} (h : MT locks rank t) : lightT t := by
 obtain ⟨m, e, _, hm⟩ := h.main
 refine ⟨by rw [e, prog_len]; omega, ?_, ?_⟩
 ·rcases h.way with e | e | e <;> rw [e] <;> simp
 ·rcases h.opt with e | ⟨o, e, _, ho⟩
  ·rw [e]; simp
  ·rw [e, prog_len]; omega
end Go.Proofs.YtmmagcjlfcicfaaGreat.Ab

/- Which tasks may be; costs of made ones. -/
namespace Go.Proofs.YtmmagcjlfcicfaaGreat.Ab
open Go.RowKit Tr
set_option linter.unusedSimpArgs false
set_option linter.unusedVariables false
theorem b0 {c : Bool} {a b : Int} (h : a ≠ 0) : (bif c then a else b) = 0 ↔ c = false ∧ b = 0 := by cases c <;> simp [h]
end Go.Proofs.YtmmagcjlfcicfaaGreat.Ab

/- Who holds up whom: both answers. -/
namespace Go.Proofs.YtmmagcjlfcicfaaGreat.Ab
open Go.RowKit Tr
set_option linter.unusedSimpArgs false
set_option linter.unusedVariables false
abbrev t0 : Tk := (0, 0, 0, [], [], [])
def lockS (s : Int) (x : I4) : Bool := bif x.1 == 9 then x.2.1 == s else false
def locksT (s : Int) (t : Tk) : Bool := (t.2.2.2.1 ++ t.2.2.2.2.1).any (lockS s)
def ceilG (s : Int) : List Tk → Nat → Int
 | [], _ => 8
 | t :: r, i => bif locksT s t then (i : Int) else ceilG s r (i + 1)
def ceilT (l : List Tk) (s : Int) : Int := ceilG s l 0
theorem L36_3_eq {k : Nat} (hk : 1000 ≤ k) {a b : List I4} (ha : a.length ≤ 900) (hb : b.length ≤ 900) (j : Nat) : L36_3 k (j + 3) [a, b] 0 [a, b] 2 0 = some ((a ++ b, ()), ()) := by
 have e1 : L36_11 k k ([] : List I4) [a, b] 2 0 = some ((a ++ b, ()), ()) := by
  have : ∀ j, L36_11 k (j + 3) ([] : List I4) [a, b] 2 0 = some ((a ++ b, ()), ()) := fun j => by
   rw [L36_11_s, l36_11, bif_t (by omega), ix_ok (by omega) (by simp), show rd [a, b] 0 [] = a from rfl, ap_ok (by simp only [List.length_nil]; omega), w64 (by omega) (by omega), List.nil_append]
   rw [L36_11_s, l36_11, bif_t (by omega), ix_ok (by omega) (by simp), show rd [a, b] (0 + 1) [] = b from rfl, ap_ok (by omega), w64 (by omega) (by omega)]
   rw [L36_11_s, l36_11, bif_f (by omega)]
  have := this (k - 3)
  rwa [show k - 3 + 3 = k by omega] at this
 rw [L36_3_s, l36_3, bif_t (by omega), ix_ok (by omega) (by simp), show rd [a, b] 0 [] = a from rfl, w64 (n := 0 + (a.length : Int)) (by omega) (by omega), bif_f (by omega), w64 (by omega) (by omega)]
 rw [L36_3_s, l36_3, bif_t (by omega), ix_ok (by omega) (by simp), show rd [a, b] (0 + 1) [] = b from rfl, w64 (n := 0 + (a.length : Int) + (b.length : Int)) (by omega) (by omega), bif_f (by omega), w64 (by omega) (by omega)]
 rw [L36_3_s, l36_3, bif_f (by omega)]
 unfold S85
 rw [bif_f (by omega), w64 (n := 0 + (a.length : Int) + (b.length : Int) - 0) (by omega) (by omega)]
 by_cases h0 : 0 + (a.length : Int) + (b.length : Int) - 0 > 0
 ·rw [bif_t h0]
  unfold az
  rw [if_pos (by rw [Bool.and_eq_true]; exact ⟨decide_eq_true (by omega), decide_eq_true (by simp only [List.length_nil]; omega)⟩)]
  dsimp only
  rw [sx_ok (by omega) (by omega) (by omega), Option.bind_some]
  exact e1
 ·rw [bif_f h0, Option.bind_some]; exact e1
theorem S36_eq {k : Nat} (hk : 1000 ≤ k) {a b : List I4} (ha : a.length ≤ 900) (hb : b.length ≤ 900) : S36 k [a, b] = some ((a ++ b, ()), ()) := by
 unfold S36
 have := L36_3_eq hk ha hb (k - 3)
 rwa [show k - 3 + 3 = k by omega] at this
def lightL (l : List Tk) : Prop := l.length ≤ 100 ∧ ∀ t ∈ l, lightT t ∧ (t.2.2.2.1 ++ t.2.2.2.2.1).length ≤ 900
def spF (l : List Tk) (i : Int) : Int → List (Int × Int) → Int
 | m, [] => m
 | m, e :: r => spF l i (bif decide (ceilT l e.1 ≤ i) then mx m e.2 else m) r
noncomputable def byG (l : List Tk) (i : Int) : List Tk → Nat → Int → Int
 | [], _, m => m
 | t :: r, n, m => byG l i r (n + 1) (bif (n : Int) == i then m else spF l i m (costsT t).2.2)
noncomputable def byT (l : List Tk) (i : Int) : Int := byG l i l 0 0
end Go.Proofs.YtmmagcjlfcicfaaGreat.Ab

/- Rows of made tasks; the law of all rows. -/
namespace Go.Proofs.YtmmagcjlfcicfaaGreat.Ab
open Go.RowKit Tr
set_option linter.unusedSimpArgs false
set_option linter.unusedVariables false
structure RowOK (locks : Int) (l : List Tk) : Prop where
 mt : ∀ j, j < l.length → ∃ r, MT locks r (l.getD j t0) ∧ 3 * (j : Int) ≤ r ∧ r ≤ 3 * (j : Int) + 2
 may : ∀ j, j < l.length → mayT (l.getD j t0) = 0
theorem MT.code {locks rank : Int} {t : Tk} (h : MT locks rank t) : (t.2.2.2.1 ++ t.2.2.2.2.1).length ≤ 30 := by
 obtain ⟨m, e, _, hm⟩ := h.main
 rw [List.length_append, e, prog_len]
 rcases h.way with e | e | e <;> rw [e] <;> simp <;> omega
theorem RowOK.light {locks : Int} {l : List Tk} (h : RowOK locks l) (hl : l.length ≤ 100) : lightL l := ⟨hl, fun t ht => by
 obtain ⟨j, hj, e⟩ := List.mem_iff_getElem.1 ht
 obtain ⟨r, hm, _⟩ := h.mt j hj
 have e2 : l.getD j t0 = t := by rw [← e, List.getD_eq_getElem?_getD, List.getElem?_eq_getElem hj]; rfl
 rw [e2] at hm
 exact ⟨hm.light, by have := hm.code; omega⟩⟩
end Go.Proofs.YtmmagcjlfcicfaaGreat.Ab

/- What ceilings are; the law of ceilings. -/
namespace Go.Proofs.YtmmagcjlfcicfaaGreat.Ab
open Go.RowKit Tr
set_option linter.unusedSimpArgs false
set_option linter.unusedVariables false
end Go.Proofs.YtmmagcjlfcicfaaGreat.Ab

/- Who locks nothing holds up nobody. -/
namespace Go.Proofs.YtmmagcjlfcicfaaGreat.Ab
open Go.RowKit Tr
set_option linter.unusedSimpArgs false
set_option linter.unusedVariables false
theorem mx_ge (a b : Int) : a ≤ mx a b := by unfold mx; split <;> omega
theorem spF_ge {l : List Tk} {i : Int} : ∀ (sp : List (Int × Int)) (m : Int), m ≤ spF l i m sp
 | [], m => Int.le_refl _
 | e :: r, m => by
  rw [spF]
  cases decide (ceilT l e.1 ≤ i) with
  | true => exact Int.le_trans (mx_ge m e.2) (spF_ge r _)
  | false => exact spF_ge r m
theorem byG_ge {l : List Tk} {i : Int} : ∀ (r : List Tk) (n : Nat) (m : Int), m ≤ byG l i r n m
 | [], n, m => Int.le_refl _
 | t :: r, n, m => by
  rw [byG]
  cases (n : Int) == i with
  | true => exact byG_ge r _ m
  | false => exact Int.le_trans (spF_ge _ m) (byG_ge r _ _)
end Go.Proofs.YtmmagcjlfcicfaaGreat.Ab

/- How often, sums that may go beyond, rows. -/
namespace Go.Proofs.YtmmagcjlfcicfaaGreat.Ab
open Go.RowKit Tr
set_option linter.unusedSimpArgs false
set_option linter.unusedVariables false
def up (r v : Int) : Int := (r + v - 1) / v
theorem up_bd {r v : Int} (hr : 0 ≤ r) (hv : 1 ≤ v) : 0 ≤ up r v ∧ up r v ≤ r := by
 unfold up
 refine ⟨Int.ediv_nonneg (by omega) (by omega), ?_⟩
 rw [← Int.lt_add_one_iff]
 refine Int.ediv_lt_of_lt_mul (by omega) ?_
 have : (r + 1) * 1 ≤ (r + 1) * v := Int.mul_le_mul_of_nonneg_left hv (by omega)
 have : r * 1 ≤ r * v := Int.mul_le_mul_of_nonneg_left hv hr
 rw [Int.add_mul]; omega
noncomputable def badR (l : List Tk) (i : Nat) : Bool := (mayT (l.getD i t0) != 0) || (decide ((i : Int) > 0) && decide ((l.getD (i - 1) t0).1 ≥ (l.getD i t0).1))
noncomputable def rowT (l : List Tk) : Bool := !anyF (badR l) l.length 0
end Go.Proofs.YtmmagcjlfcicfaaGreat.Ab

/- What is reckoned of a row is small; the rounds. -/
namespace Go.Proofs.YtmmagcjlfcicfaaGreat.Ab
open Go.RowKit Tr
set_option linter.unusedSimpArgs false
set_option linter.unusedVariables false
structure CoS (t : Tk) : Prop where
 per : 1 ≤ t.2.1 ∧ t.2.1 ≤ 16384
 en : 1 ≤ t.2.2.1 ∧ t.2.2.1 ≤ t.2.1
 cost : 1 ≤ (costsT t).1 ∧ (costsT t).1 ≤ t.2.2.1
 lost : 1 ≤ (costsT t).2.1 ∧ (costsT t).2.1 ≤ (costsT t).1
 spans : ∀ e ∈ (costsT t).2.2, 1 ≤ e.2 ∧ e.2 < (costsT t).1
theorem mx_le {a b c : Int} (h1 : a ≤ c) (h2 : b ≤ c) : mx a b ≤ c := by unfold mx; split <;> omega
theorem spF_le {l : List Tk} {i b : Int} : ∀ (sp : List (Int × Int)) (m : Int), m ≤ b → (∀ e ∈ sp, e.2 ≤ b) → spF l i m sp ≤ b
 | [], m, h, _ => h
 | e :: r, m, h, hs => by
  rw [spF]
  refine spF_le r _ ?_ (fun x hx => hs x (by simp [hx]))
  cases decide (ceilT l e.1 ≤ i) with
  | true => exact mx_le h (hs e (by simp))
  | false => exact h
theorem byG_le {l : List Tk} {i b : Int} : ∀ (r : List Tk) (n : Nat) (m : Int), m ≤ b → (∀ t ∈ r, ∀ e ∈ (costsT t).2.2, e.2 ≤ b) → byG l i r n m ≤ b
 | [], n, m, h, _ => h
 | t :: r, n, m, h, hs => by
  rw [byG]
  refine byG_le r _ _ ?_ (fun x hx => hs x (by simp [hx]))
  cases (n : Int) == i with
  | true => exact h
  | false => exact spF_le _ m h (hs t (by simp))
theorem byT_bd {l : List Tk} (h : ∀ t ∈ l, CoS t) (i : Int) : 0 ≤ byT l i ∧ byT l i ≤ 16384 :=
 ⟨byG_ge l 0 0, byG_le l 0 0 (by omega) (fun t ht e he => by have q := h t ht; have := q.spans e he; have := q.cost; have := q.en; have := q.per; omega)⟩
def sumA (r : Int) : List (Int × Int) → Int
 | [] => 0
 | x :: l => up r x.1 * x.2 + sumA r l
noncomputable def pc1 (t : Tk) : Int × Int := (t.2.1, (costsT t).1)
noncomputable def lostG : Int → List Tk → Int
 | m, [] => m
 | m, t :: r => lostG (mx m (costsT t).2.1) r
noncomputable def firstT (l : List Tk) (i : Nat) : Int := (costsT (l.getD i t0)).1 + byT l (i : Int)
noncomputable def rightT (l : List Tk) (i : Nat) (apart r : Int) : Int := firstT l i + up r apart * lostG 0 (l.take (i + 1)) + sumA r ((l.take i).map pc1)
theorem sumA_nonneg {r : Int} (hr : 0 ≤ r) : ∀ {l : List (Int × Int)}, (∀ x ∈ l, 1 ≤ x.1 ∧ 0 ≤ x.2) → 0 ≤ sumA r l
 | [], _ => Int.le_refl _
 | x :: l, h => by
  have hx := h x (by simp)
  have := sumA_nonneg hr (l := l) (fun y hy => h y (by simp [hy]))
  have := Int.mul_nonneg (up_bd hr hx.1).1 hx.2
  rw [sumA]; omega
theorem sumA_le {r b : Int} (hr : 0 ≤ r) (hb : 0 ≤ b) : ∀ {l : List (Int × Int)}, (∀ x ∈ l, 1 ≤ x.1 ∧ 0 ≤ x.2 ∧ x.2 ≤ b) → sumA r l ≤ (l.length : Int) * (r * b)
 | [], _ => by simp [sumA]
 | x :: l, h => by
  have hx := h x (by simp)
  have h1 := sumA_le hr hb (l := l) (fun y hy => h y (by simp [hy]))
  have hu := up_bd hr hx.1
  have h2 : up r x.1 * x.2 ≤ r * b := Int.mul_le_mul hu.2 hx.2.2 hx.2.1 hr
  rw [sumA, List.length_cons, show ((l.length + 1 : Nat) : Int) = (l.length : Int) + 1 by omega, Int.add_mul, Int.one_mul]; omega
end Go.Proofs.YtmmagcjlfcicfaaGreat.Ab

/- How long a task takes at most: the program's rounds. -/
namespace Go.Proofs.YtmmagcjlfcicfaaGreat.Ab
open Go.RowKit Tr
set_option linter.unusedSimpArgs false
set_option linter.unusedVariables false
structure RS (l : List Tk) : Prop where
 light : lightL l
 len : l.length ≤ 10
 co : ∀ t ∈ l, CoS t
theorem lostG_bd {b : Int} : ∀ (r : List Tk) (m : Int), 0 ≤ m → m ≤ b → (∀ t ∈ r, (costsT t).2.1 ≤ b) → 0 ≤ lostG m r ∧ lostG m r ≤ b
 | [], m, h0, h, _ => ⟨h0, h⟩
 | t :: r, m, h0, h, hs => by
  rw [lostG]
  exact lostG_bd r _ (Int.le_trans h0 (mx_ge _ _)) (mx_le h (hs t (by simp))) (fun x hx => hs x (by simp [hx]))
theorem RS.first {l : List Tk} (h : RS l) {i : Nat} (hi : i < l.length) : 1 ≤ firstT l i ∧ firstT l i ≤ 32768 := by
 have hc := h.co _ (getD_mem (z := t0) hi)
 have hb := byT_bd h.co (i : Int)
 have := hc.cost; have := hc.en; have := hc.per
 unfold firstT; omega
theorem RS.lost {l : List Tk} (h : RS l) (i : Nat) : 0 ≤ lostG 0 (l.take i) ∧ lostG 0 (l.take i) ≤ 16384 :=
 lostG_bd _ 0 (by omega) (by omega) (fun t ht => by have q := h.co t (List.mem_of_mem_take ht); have := q.lost; have := q.cost; have := q.en; have := q.per; omega)
theorem RS.pcs {l : List Tk} (h : RS l) (i : Nat) : ∀ x ∈ (l.take i).map pc1, 1 ≤ x.1 ∧ 0 ≤ x.2 ∧ x.2 ≤ 16384 := fun x hx => by
 obtain ⟨t, ht, rfl⟩ := List.mem_map.1 hx
 have q := h.co t (List.mem_of_mem_take ht)
 have := q.cost; have := q.en; have := q.per
 unfold pc1; simp only; omega
theorem RS.loss {l : List Tk} (h : RS l) {i : Nat} {apart r : Int} (ha : 1 ≤ apart) (hr : 0 ≤ r ∧ r ≤ 50000) : 0 ≤ up r apart * lostG 0 (l.take (i + 1)) ∧ up r apart * lostG 0 (l.take (i + 1)) ≤ 819200000 := by
 have hl := h.lost (i + 1)
 have hu := up_bd hr.1 ha
 have := Int.mul_nonneg hu.1 hl.1
 have : up r apart * lostG 0 (l.take (i + 1)) ≤ 50000 * 16384 := Int.mul_le_mul (by omega) hl.2 hl.1 (by omega)
 omega
theorem RS.sum {l : List Tk} (h : RS l) {i : Nat} {r : Int} (hr : 0 ≤ r ∧ r ≤ 50000) : 0 ≤ sumA r ((l.take i).map pc1) ∧ sumA r ((l.take i).map pc1) ≤ 8192000000 := by
 have h0 := sumA_nonneg hr.1 (l := (l.take i).map pc1) (fun x hx => ⟨(h.pcs i x hx).1, (h.pcs i x hx).2.1⟩)
 have h1 := sumA_le hr.1 (show (0 : Int) ≤ 16384 by omega) (h.pcs i)
 have hl : ((l.take i).map pc1).length ≤ 10 := by rw [List.length_map, List.length_take]; have := h.len; omega
 have h2 : (((l.take i).map pc1).length : Int) * (r * 16384) ≤ 10 * (r * 16384) := Int.mul_le_mul_of_nonneg_right (by omega) (by omega)
 omega
theorem RS.right {l : List Tk} (h : RS l) {i : Nat} (hi : i < l.length) {apart r : Int} (ha : 1 ≤ apart) (hr : 0 ≤ r ∧ r ≤ 50000) : firstT l i ≤ rightT l i apart r ∧ rightT l i apart r ≤ 100000000000 := by
 have h1 := h.first hi; have h2 := h.loss (i := i) ha hr; have h3 := h.sum (i := i) hr
 unfold rightT; omega
end Go.Proofs.YtmmagcjlfcicfaaGreat.Ab

/- How long a task takes at most: the program's answer. -/
namespace Go.Proofs.YtmmagcjlfcicfaaGreat.Ab
open Go.RowKit Tr
set_option linter.unusedSimpArgs false
set_option linter.unusedVariables false
end Go.Proofs.YtmmagcjlfcicfaaGreat.Ab

/- How long a task takes at most: the document's answer. -/
namespace Go.Proofs.YtmmagcjlfcicfaaGreat.Ab
open Go.RowKit Tr
set_option linter.unusedSimpArgs false
set_option linter.unusedVariables false
end Go.Proofs.YtmmagcjlfcicfaaGreat.Ab

/- Both answers are one: the law of all rows. -/
namespace Go.Proofs.YtmmagcjlfcicfaaGreat.Ab
open Go.RowKit Tr
set_option linter.unusedSimpArgs false
set_option linter.unusedVariables false
end Go.Proofs.YtmmagcjlfcicfaaGreat.Ab

/- What the rounds come to: the least that is so, or nothing up to the end. -/
namespace Go.Proofs.YtmmagcjlfcicfaaGreat.Ab
open Go.RowKit Tr
set_option linter.unusedSimpArgs false
set_option linter.unusedVariables false
theorem RowOK.row {locks : Int} {l : List Tk} (h : RowOK locks l) : rowT l = true := by
 unfold rowT
 rw [Bool.not_eq_true', anyF_none]
 intro n _ hn
 unfold badR
 rw [h.may n (by omega), bne_self_eq_false, Bool.false_or, Bool.and_eq_false_iff]
 by_cases h0 : (n : Int) > 0
 ·right
  obtain ⟨r, m1, m2, m3⟩ := h.mt n (by omega)
  obtain ⟨r2, p1, p2, p3⟩ := h.mt (n - 1) (by omega)
  have e1 := m1.rank
  have e2 := p1.rank
  exact decide_eq_false (by rw [e1, e2]; omega)
 ·left; exact decide_eq_false h0
end Go.Proofs.YtmmagcjlfcicfaaGreat.Ab

/- What is told is no less than cost, what holds up, one loss, one go of each ahead. -/
namespace Go.Proofs.YtmmagcjlfcicfaaGreat.Ab
open Go.RowKit Tr
set_option linter.unusedSimpArgs false
set_option linter.unusedVariables false
end Go.Proofs.YtmmagcjlfcicfaaGreat.Ab

/- The law of what makes it no longer. -/
namespace Go.Proofs.YtmmagcjlfcicfaaGreat.Ab
open Go.RowKit Tr
set_option linter.unusedSimpArgs false
set_option linter.unusedVariables false
end Go.Proofs.YtmmagcjlfcicfaaGreat.Ab

/- Who may come in: the program's answer. -/
namespace Go.Proofs.YtmmagcjlfcicfaaGreat.Ab
open Go.RowKit Tr
set_option linter.unusedSimpArgs false
set_option linter.unusedVariables false
abbrev Bd5 : Type := PN Int 5
end Go.Proofs.YtmmagcjlfcicfaaGreat.Ab

/- Who may come in: both answers. -/
namespace Go.Proofs.YtmmagcjlfcicfaaGreat.Ab
open Go.RowKit Tr
set_option linter.unusedSimpArgs false
set_option linter.unusedVariables false
end Go.Proofs.YtmmagcjlfcicfaaGreat.Ab

/- A kernel without things: a kernel of its own is the same. -/
namespace Go.Proofs.YtmmagcjlfcicfaaGreat.Ab
open Go.RowKit
set_option linter.unusedSimpArgs false
set_option linter.unusedVariables false
abbrev Jb : Type := Int × Int × Int × Int × Mc × Mc × List Int × Bool
abbrev Thg : Type := Int × (Int × Int) × (Int × Int) × ((List Int) × List Int) × (Int × List (Int × Int)) × Int
abbrev TabK : Type := (List Int × List Bool) × List Thg
abbrev Kn : Type := Int × Int × List Tk × List Bd5 × Bool × Bool × Bool × List Jb × TabK × List Int × List Bool
abbrev m0 : Mc := (0, prep (α := Int) 8 0, [], false)
abbrev j0 : Jb := (0, 0, 0, 0, m0, m0, [], false)
abbrev TK0 : TabK := ((List.replicate 12 0, List.replicate 12 false), List.replicate 12 (0, (0, 0), (0, 0), ([], []), (0, []), 0))
structure JOK (j : Jb) : Prop where
 held : j.2.2.2.2.2.2.1 = []
 m : j.2.2.2.2.1.2.2.1.length ≤ 100
 kept : j.2.2.2.2.2.1.2.2.1.length ≤ 100
theorem cl_inst {k : Nat} {xs : List I4} (h : xs.length ≤ 900) : S80 k xs = some ((xs, ()), ()) := by
 unfold S80
 exact clone_eq (by omega)
theorem cl_task {k : Nat} {xs : List Tk} (h : xs.length ≤ 900) : S77 k xs = some ((xs, ()), ()) := by
 unfold S77
 exact clone_eq (by omega)
theorem cl_bounds {k : Nat} {xs : List Bd5} (h : xs.length ≤ 900) : S78 k xs = some ((xs, ()), ()) := by
 unfold S78
 exact clone_eq (by omega)
theorem cl_job {k : Nat} {xs : List Jb} (h : xs.length ≤ 900) : S79 k xs = some ((xs, ()), ()) := by
 unfold S79
 exact clone_eq (by omega)
theorem cl_rep {k : Nat} {xs : List Rp} (h : xs.length ≤ 900) : S138 k xs = some ((xs, ()), ()) := by
 unfold S138
 exact clone_eq (by omega)
theorem cl_int {k : Nat} {xs : List Int} (h : xs.length ≤ 900) : S140 k xs = some ((xs, ()), ()) := by
 unfold S140
 exact clone_eq (by omega)
theorem cl_bool {k : Nat} {xs : List Bool} (h : xs.length ≤ 900) : S187 k xs = some ((xs, ()), ()) := by
 unfold S187
 exact clone_eq (by omega)
theorem delF_nil {k : Nat} (hk : 1000 ≤ k) (s : Int) : S139 k [] s = some (([], ()), ()) := by
 obtain ⟨k, rfl⟩ : ∃ m, k = m + 1 := ⟨k - 1, by omega⟩
 unfold S139 S186
 rw [L186_2_s, l186_2, bif_f (by simp), Option.bind_some]
 rfl
theorem S81_eq {k : Nat} (hk : 1000 ≤ k) {j : Jb} (h : JOK j) (s : Int) : S81 k j s = some ((j, ()), ()) := by
 obtain ⟨t, a, i, p, m, kp, hd, up⟩ := j
 have h1 : hd = [] := h.held
 have h2 : m.2.2.1.length ≤ 100 := h.m
 have h3 : kp.2.2.1.length ≤ 100 := h.kept
 subst h1
 unfold S81
 simp only
 rw [cl_rep (by omega), Option.bind_some, cl_rep (by omega), Option.bind_some, cl_int (by simp), Option.bind_some]
 simp only
 rw [delF_nil hk, Option.bind_some]
theorem put_TK0 {k : Nat} (hk : 1000 ≤ k) (x : Thg) : S82 k TK0 (-1) x = some ((TK0, ()), ()) := by
 obtain ⟨k, rfl⟩ : ∃ m, k = m + 1000 := ⟨k - 1000, by omega⟩
 kernel_rfl
theorem good_none {k : Nat} {r : List Int} {o : List Bool} (h1 : r.length ≤ 900) (h2 : o.length ≤ 900) : S83 k (r, o) (-1) = some (((r, o), ()), ()) := by
 unfold S83 S147
 simp only
 rw [cl_int h1, Option.bind_some, cl_bool h2, Option.bind_some, Option.bind_some]
 rfl
theorem set_same {α : Type} {l : List α} {n : Nat} {z : α} : l.set n (l.getD n z) = l := by
 by_cases h : n < l.length
 ·rw [getD_in h]; exact List.set_getElem_self h
 ·exact List.set_eq_of_length_le (by omega)
theorem L34_8_eq {k : Nat} (hk : 1000 ≤ k) {now ap : Int} {ts : List Tk} {bs : List Bd5} {ru ha hi : Bool} {js : List Jb} {rows : List Int} {off : List Bool} {x1 x2 : Int} {x3 x4 x5 : Bool} (hr : rows.length ≤ 900) (ho : off.length ≤ 900) (hjl : js.length ≤ 900) (hj : ∀ j ∈ js, JOK j) : ∀ (d i j : Nat), i + d = js.length → d < j →
  L34_8 k j now ap ts bs ru ha hi js TK0.1.1 TK0.1.2 TK0.2 rows off x1 x2 x3 x4 x5 (js.length : Int) (i : Int) = some (((now, ap, ts, bs, ru, ha, hi, js, TK0, rows, off), ()), ())
 | 0, i, j, h, hjj => by
  obtain ⟨j', rfl⟩ : ∃ j', j = j' + 1 := ⟨j - 1, by omega⟩
  rw [L34_8_s, l34_8, bif_f (by omega), put_TK0 hk, Option.bind_some, good_none hr ho, Option.bind_some]
 | d + 1, i, j, h, hjj => by
  obtain ⟨j', rfl⟩ : ∃ j', j = j' + 1 := ⟨j - 1, by omega⟩
  have hi' : i < js.length := by omega
  rw [L34_8_s, l34_8, bif_t (by omega), ix_nat hi', rd_nat, S81_eq hk (hj _ (getD_mem hi')), Option.bind_some, ix_nat hi', upd_nat, w64_nat (by omega)]
  simp only
  rw [set_same]
  exact L34_8_eq hk hr ho hjl hj d (i + 1) j' (by omega) (by omega)
theorem L34_3_eq {k : Nat} (hk : 1000 ≤ k) {now ap : Int} {ts : List Tk} {bs : List Bd5} {ru ha hi : Bool} {js : List Jb} {rows : List Int} {off : List Bool} {x1 x2 : Int} {x3 x4 x5 : Bool} (hr : rows.length ≤ 900) (ho : off.length ≤ 900) (hjl : js.length ≤ 900) (hj : ∀ j ∈ js, JOK j) (ht : lightL ts) : ∀ (d i j : Nat), i + d = ts.length → d < j →
  L34_3 k j now ap ts bs ru ha hi js TK0.1.1 TK0.1.2 TK0.2 rows off x1 x2 x3 x4 x5 (ts.length : Int) (i : Int) = some (((now, ap, ts, bs, ru, ha, hi, js, TK0, rows, off), ()), ())
 | 0, i, j, h, hjj => by
  obtain ⟨j', rfl⟩ : ∃ j', j = j' + 1 := ⟨j - 1, by omega⟩
  rw [L34_3_s, l34_3, bif_f (by omega)]
  exact L34_8_eq hk hr ho hjl hj js.length 0 k (by omega) (by omega)
 | d + 1, i, j, h, hjj => by
  obtain ⟨j', rfl⟩ : ∃ j', j = j' + 1 := ⟨j - 1, by omega⟩
  have hi' : i < ts.length := by omega
  have hl := (ht.2 _ (getD_mem (z := t0) hi')).1
  rw [L34_3_s, l34_3, bif_t (by omega), ix_nat hi', rd_nat, cl_inst hl.1, Option.bind_some, cl_inst hl.2.1, Option.bind_some, cl_inst hl.2.2, Option.bind_some, ix_nat hi', upd_nat]
  rw [show (ts.set i (ts.getD i (0, 0, 0, [], [], []))) = ts from set_same, ix_nat hi', rd_nat, upd_nat]
  simp only
  rw [show (ts.set i (ts.getD i (0, 0, 0, [], [], []))) = ts from set_same, ix_nat hi', rd_nat, upd_nat, show (ts.set i (ts.getD i (0, 0, 0, [], [], []))) = ts from set_same, w64_nat (by have := ht.1; omega)]
  exact L34_3_eq hk hr ho hjl hj ht d (i + 1) j' (by omega) (by omega)
structure KOK (K : Kn) : Prop where
 tab : K.2.2.2.2.2.2.2.2.1 = TK0
 tasks : lightL K.2.2.1
 bounds : K.2.2.2.1.length ≤ 900
 jobs : K.2.2.2.2.2.2.2.1.length ≤ 800
 job : ∀ j ∈ K.2.2.2.2.2.2.2.1, JOK j
 rows : K.2.2.2.2.2.2.2.2.2.1.length ≤ 900
 off : K.2.2.2.2.2.2.2.2.2.2.length ≤ 900
theorem S34_eq {k : Nat} (hk : 1000 ≤ k) {K : Kn} (h : KOK K) : S34 k K = some ((K, ()), ()) := by
 obtain ⟨now, ap, ts, bs, ru, ha, hi, js, T, rows, off⟩ := K
 have e : T = TK0 := h.tab
 subst e
 unfold S34
 simp only
 have h1 : ts.length ≤ 100 := h.tasks.1
 have h2 : js.length ≤ 800 := h.jobs
 rw [cl_task (by omega), Option.bind_some, cl_bounds h.bounds, Option.bind_some, cl_job (by omega), Option.bind_some]
 exact L34_3_eq (ts := ts) (js := js) hk h.rows h.off (by omega) h.job h.tasks ts.length 0 k (by omega) (by omega)
end Go.Proofs.YtmmagcjlfcicfaaGreat.Ab

/- A kernel without things: no semaphores; a kernel is started; what is told; who misses. -/
namespace Go.Proofs.YtmmagcjlfcicfaaGreat.Ab
open Go.RowKit
set_option linter.unusedSimpArgs false
set_option linter.unusedVariables false
abbrev Ev : Type := PN Int 6
theorem semas_TK0 {k : Nat} (hk : 1000 ≤ k) : S73 k TK0 = some (([], ()), ()) := by
 obtain ⟨k, rfl⟩ : ∃ m, k = m + 1000 := ⟨k - 1000, by omega⟩
 kernel_rfl
theorem audit_TK0 {k : Nat} (hk : 1000 ≤ k) : S102 k TK0 = some ((TK0, [], [], ()), ()) := by
 obtain ⟨k, rfl⟩ : ∃ m, k = m + 1000 := ⟨k - 1000, by omega⟩
 kernel_rfl
theorem L30_2_eq {k : Nat} {now ap : Int} {ts : List Tk} {bs : List Bd5} {ru ha hi : Bool} {js : List Jb} {s : List Int} {i : List Bool} {l : List Thg} {rows : List Int} {off : List Bool} (j : Nat) (hj : 0 < j) :
  L30_2 k j now ap ts bs ru ha hi js s i l rows off [] [] 0 0 = some (([], ()), ()) := by
 obtain ⟨j', rfl⟩ : ∃ j', j = j' + 1 := ⟨j - 1, by omega⟩
 rw [L30_2_s, l30_2, bif_f (by omega)]
theorem locks_TK0 {k : Nat} (hk : 1000 ≤ k) {now ap : Int} {ts : List Tk} {bs : List Bd5} {ru ha hi : Bool} {js : List Jb} {rows : List Int} {off : List Bool} : S30 k (now, ap, ts, bs, ru, ha, hi, js, TK0, rows, off) = some (([], ()), ()) := by
 unfold S30
 rw [show S73 k (now, ap, ts, bs, ru, ha, hi, js, TK0, rows, off).2.2.2.2.2.2.2.2.1 = _ from semas_TK0 hk, Option.bind_some]
 exact L30_2_eq k (by omega)
theorem S39_eq {k : Nat} (hk : 1000 ≤ k) {now ap : Int} {ts : List Tk} {bs : List Bd5} {ru ha hi : Bool} {js : List Jb} {rows : List Int} {off : List Bool} {l : List (Int × Int)} :
  S39 k now ap ts bs ru ha hi js TK0.1.1 TK0.1.2 TK0.2 rows off l = some ((), (now, ap, ts, bs, ru, ha, hi, js, TK0.1.1, TK0.1.2, TK0.2, rows, off, ()), ()) := by
 unfold S39
 obtain ⟨k, rfl⟩ : ∃ m, k = m + 1 := ⟨k - 1, by omega⟩
 rw [show S73 (k + 1) ((TK0.1.1, TK0.1.2), TK0.2) = _ from semas_TK0 hk, Option.bind_some, L39_1_s, l39_1, bif_f (by simp)]
theorem S39a_eq {k : Nat} (hk : 1000 ≤ k) {now ap : Int} {ts : List Tk} {bs : List Bd5} {ru ha hi : Bool} {js : List Jb} {rows : List Int} {off : List Bool} {ev : List Ev} {l : List (Int × Int)} :
  S39a k now ap ts bs ru ha hi js TK0.1.1 TK0.1.2 TK0.2 rows off ev l = some ((), (now, ap, ts, bs, ru, ha, hi, js, TK0.1.1, TK0.1.2, TK0.2, rows, off, ev, ()), ()) := by
 unfold S39a
 obtain ⟨k, rfl⟩ : ∃ m, k = m + 1 := ⟨k - 1, by omega⟩
 rw [show S73 (k + 1) ((TK0.1.1, TK0.1.2), TK0.2) = _ from semas_TK0 hk, Option.bind_some, L39a_1_s, l39a_1, bif_f (by simp)]
theorem S39b_eq {k : Nat} (hk : 1000 ≤ k) {now ap : Int} {ts : List Tk} {bs : List Bd5} {ru ha hi : Bool} {js : List Jb} {rows : List Int} {off : List Bool} {ev : List Ev} {l : List (Int × Int)} :
  S39b k now ap ts bs ru ha hi js TK0.1.1 TK0.1.2 TK0.2 rows off ev l = some ((), (now, ap, ts, bs, ru, ha, hi, js, TK0.1.1, TK0.1.2, TK0.2, rows, off, ev, ()), ()) := by
 unfold S39b
 obtain ⟨k, rfl⟩ : ∃ m, k = m + 1 := ⟨k - 1, by omega⟩
 rw [show S73 (k + 1) ((TK0.1.1, TK0.1.2), TK0.2) = _ from semas_TK0 hk, Option.bind_some, L39b_1_s, l39b_1, bif_f (by simp)]
def lockZ (x : I4) : Bool := bif x.1 == 9 then decide (x.2.1 ≥ 0) else false
def locksZ (t : Tk) : Bool := (t.2.2.2.1 ++ t.2.2.2.2.1).any lockZ
theorem S84_eq {k : Nat} (hk : 1000 ≤ k) {s : List I4} (h : s.length ≤ 900) : S84 k s [] = some ((idxI lockZ s, ()), ()) := by
 unfold S84
 refine idx_all (fun j i => L84_2 k j s [] (s.length : Int) i) s i0 _ (fun j i hi => ?_) (fun j => ?_) k (by omega)
 ·show L84_2 k (j + 1) s [] (s.length : Int) (i : Int) = _
  rw [L84_2_s, l84_2, bif_t (by omega), ix_nat hi, w64_nat (by omega), rd_nat]
  unfold S37 lockZ
  cases (s.getD i i0).1 == 9 <;> rfl
 ·show L84_2 k (j + 1) s [] (s.length : Int) (s.length : Int) = _
  rw [L84_2_s, l84_2, bif_f (by omega)]
theorem L12_6_eq {k : Nat} (hk : 1000 ≤ k) {now ap : Int} {ts : List Tk} {bs : List Bd5} {ru ha hi : Bool} {js : List Jb} {rows : List Int} {off : List Bool} {x1 x2 : Int} {x3 x4 x5 : Bool} (ht : lightL ts) : ∀ (d i j : Nat), i + d = ts.length → d < j →
  L12_6 k j now ap ts bs ru ha hi js TK0.1.1 TK0.1.2 TK0.2 rows off x1 x2 x3 x4 x5 [] ts (ts.length : Int) (i : Int) = bif (ts.drop i).any locksZ then some (((now, ap, ts, bs, ru, ha, hi, js, TK0, rows, off), 4, ()), ()) else some (((now, ap, ts, bs, true, ha, hi, js, TK0, rows, off), 0, ()), ())
 | 0, i, j, h, hjj => by
  obtain ⟨j', rfl⟩ : ∃ j', j = j' + 1 := ⟨j - 1, by omega⟩
  rw [L12_6_s, l12_6, bif_f (by omega), drop_nil (by omega)]
  obtain ⟨k, rfl⟩ : ∃ m, k = m + 1 := ⟨k - 1, by omega⟩
  rw [L12_12_s, l12_12, bif_f (by simp), S39_eq hk, Option.bind_some]
  rfl
 | d + 1, i, j, h, hjj => by
  obtain ⟨j', rfl⟩ : ∃ j', j = j' + 1 := ⟨j - 1, by omega⟩
  have hi' : i < ts.length := by omega
  have hl := ht.2 _ (getD_mem (z := t0) hi')
  rw [L12_6_s, l12_6, bif_t (by omega), ix_nat hi', rd_nat, S36_eq hk hl.1.1 hl.1.2.1, Option.bind_some]
  unfold S35
  rw [S84_eq hk hl.2]
  simp only [Option.bind_some, idx_ge]
  rw [drop_cons t0 hi', List.any_cons, w64_nat (by have := ht.1; omega), L12_6_eq hk ht d (i + 1) j' (by omega) (by omega)]
  show (bif locksZ (ts.getD i t0) then _ else _) = _
  cases locksZ (ts.getD i t0) <;> rfl
theorem start_new {k : Nat} (hk : 1000 ≤ k) {now ap : Int} {ts : List Tk} {bs : List Bd5} {ha hi : Bool} {js : List Jb} {rows : List Int} {off : List Bool} (h : KOK (now, ap, ts, bs, false, ha, hi, js, TK0, rows, off)) :
  S12 k (now, ap, ts, bs, false, ha, hi, js, TK0, rows, off) = some (((now, ap, ts, bs, !ts.any locksZ, ha, hi, js, TK0, rows, off), (bif ts.any locksZ then 4 else 0), ()), ()) := by
 unfold S12
 rw [S34_eq hk h, Option.bind_some]
 simp only [cond_false]
 have ht : lightL ts := h.tasks
 rw [locks_TK0 hk, Option.bind_some]
 have e := L12_6_eq (now := now) (ap := ap) (bs := bs) (ru := false) (ha := ha) (hi := hi) (js := js) (rows := rows) (off := off) (x1 := 0) (x2 := 0) (x3 := false) (x4 := false) (x5 := false) hk ht ts.length 0 k (by omega) (by have := ht.1; omega)
 rw [List.drop_zero] at e
 refine e.trans ?_
 cases ts.any locksZ <;> rfl
theorem S100_eq {k : Nat} {now ap : Int} {ts : List Tk} {bs : List Bd5} {ru ha hi : Bool} {js : List Jb} {s : List Int} {i : List Bool} {l : List Thg} {rows : List Int} {off : List Bool} {ev : List Ev} {e : Ev} (he : ev.length ≤ 100000) :
  S100 k now ap ts bs ru ha hi js s i l rows off ev e = some ((), (now, ap, ts, bs, ru, ha, hi, js, s, i, l, rows, off, ev ++ [(now, e.2)], ()), ()) := by
 unfold S100
 rw [ap_ok (by simp only [List.length_cons, List.length_nil]; omega)]
theorem S100a_eq {k : Nat} {now ap : Int} {ts : List Tk} {bs : List Bd5} {ru ha hi : Bool} {js : List Jb} {s : List Int} {i : List Bool} {l : List Thg} {rows : List Int} {off : List Bool} {ev : List Ev} {e : Ev} (he : ev.length ≤ 100000) :
  S100a k now ap ts bs ru ha hi js s i l rows off ev e = some ((), (now, ap, ts, bs, ru, ha, hi, js, s, i, l, rows, off, ev ++ [(now, e.2)], ()), ()) := by
 unfold S100a
 rw [ap_ok (by simp only [List.length_cons, List.length_nil]; omega)]
theorem all_nil {k : Nat} (hk : 1000 ≤ k) (t : Int) : S154 k [] t = some (([], ()), ()) := by
 obtain ⟨k, rfl⟩ : ∃ m, k = m + 1 := ⟨k - 1, by omega⟩
 unfold S154 S194
 rw [clone_eq (by simp), Option.bind_some]
 rw [L154_3_s, l154_3, bif_f (by simp)]
end Go.Proofs.YtmmagcjlfcicfaaGreat.Ab

/- Does the kernel do anything: what a kernel that does not run does. -/
namespace Go.Proofs.YtmmagcjlfcicfaaGreat.Ab
open Go.RowKit
set_option linter.unusedSimpArgs false
set_option linter.unusedVariables false
theorem S9_eq {k : Nat} (hk : 20000 ≤ k) : S9 k = some ((true, ()), ()) := by
 obtain ⟨k, rfl⟩ : ∃ m, k = m + 20000 := ⟨k - 20000, by omega⟩
 kernel_rfl
theorem new24 (k : Nat) {ap : Int} (h1 : 1 ≤ ap) (h2 : ap ≤ 4611686018427387904) : S25 (k + 1000) ap = some (((0, ap, [], [], false, false, false, [], ((List.replicate 12 0, List.replicate 12 false), List.replicate 12 (0, (0, 0), (0, 0), ([], []), (0, []), 0)), [], []), true, ()), ()) := by
 unfold S25
 rw [bif_f (by omega), bif_f (by omega)]
 kernel_rfl
end Go.Proofs.YtmmagcjlfcicfaaGreat.Ab

/- A tick of a kernel without things: whose end it is, who is promoted. -/
namespace Go.Proofs.YtmmagcjlfcicfaaGreat.Ab
open Go.RowKit
set_option linter.unusedSimpArgs false
set_option linter.unusedVariables false
def missW (rows : List Int) (off : List Bool) (n : Nat) : (List Int × List Bool) × Bool × Bool :=
 bif (IntKind.i64.wrap (rows.getD n 0 + 1) != 2) || off.getD n false then ((rows.set n (IntKind.i64.wrap (rows.getD n 0 + 1)), off), false, false)
 else ((rows.set n (IntKind.i64.wrap (rows.getD n 0 + 1)), off.set n true), true, !(off.set n true).any (fun b => false == b))
theorem S223_eq {k : Nat} {s : List Bool} {v : Bool} (h : s.length ≤ 900) (hk : 1000 ≤ k) : S223 k s v = some ((idxI (fun b => v == b) s, ()), ()) := by
 unfold S223
 refine idx_all (fun j i => L223_2 k j s v (s.length : Int) i) s false _ (fun j i hi => ?_) (fun j => ?_) k (by omega)
 ·show L223_2 k (j + 1) s v (s.length : Int) (i : Int) = _
  rw [L223_2_s, l223_2, bif_t (by omega), ix_nat hi, w64_nat (by omega), rd_nat]
 ·show L223_2 k (j + 1) s v (s.length : Int) (s.length : Int) = _
  rw [L223_2_s, l223_2, bif_f (by omega)]
theorem S155_eq {k : Nat} (hk : 1000 ≤ k) {rows : List Int} {off : List Bool} {n : Nat} (h1 : n < rows.length) (h2 : n < off.length) (h3 : rows.length ≤ 900) (h4 : off.length ≤ 900) :
  S155 k (rows, off) (n : Int) = some (((missW rows off n).1, (missW rows off n).2.1, (missW rows off n).2.2, ()), ()) := by
 unfold S155 S147 S196
 simp only
 rw [cl_int h3, Option.bind_some, cl_bool h4, Option.bind_some, Option.bind_some, bif_t (by omega), Option.bind_some]
 simp only
 rw [decide_eq_true (show (n : Int) < mn (rows.length : Int) (off.length : Int) by rw [mn_eq]; omega)]
 simp only [Bool.not_true, cond_false]
 have hs : ∀ v : Int, n < (rows.set n v).length := fun v => by rw [List.length_set]; exact h1
 rw [ix_nat h1, ix_nat h1, rd_nat, upd_nat, ix_nat (hs _), rd_nat, set_get, if_pos ⟨rfl, h1⟩, ix_nat h2, rd_nat]
 unfold missW
 cases hb : (IntKind.i64.wrap (rows.getD n 0 + 1) != 2) with
 | true => rfl
 | false =>
  rw [Bool.false_or, cond_false]
  cases off.getD n false with
  | true => rfl
  | false =>
   rw [cond_false, cond_false, ix_nat h2, upd_nat]
   unfold S197
   rw [S223_eq (by rw [List.length_set]; exact h4) hk]
   simp only [Option.bind_some, idx_ge]
theorem missW_len (rows : List Int) (off : List Bool) (n : Nat) : (missW rows off n).1.1.length = rows.length ∧ (missW rows off n).1.2.length = off.length := by
 unfold missW
 cases (IntKind.i64.wrap (rows.getD n 0 + 1) != 2) || off.getD n false <;> simp
def missE (now t : Int) (b : Bool × Bool) : List Ev := [(now, 5, t, 0, 0, 0)] ++ ((bif b.1 then [(now, 9, t, 0, 0, 0)] else []) ++ (bif b.2 then [(now, 10, 0, 0, 0, 0)] else []))
theorem S101_eq {k : Nat} (hk : 1000 ≤ k) {now ap : Int} {ts : List Tk} {bs : List Bd5} {ru ha hi : Bool} {js : List Jb} {rows : List Int} {off : List Bool} {ev : List Ev} {j : Jb} {n : Nat} (hn : j.1 = (n : Int)) (he : ev.length ≤ 10000) (h1 : n < rows.length) (h2 : n < off.length) (h3 : rows.length ≤ 900) (h4 : off.length ≤ 900) :
  S101 k now ap ts bs ru ha hi js TK0.1.1 TK0.1.2 TK0.2 rows off ev j = some ((), (now, ap, ts, bs, ru, ha || (missW rows off n).2.2, hi, js, TK0.1.1, TK0.1.2, TK0.2, (missW rows off n).1.1, (missW rows off n).1.2, ev ++ missE now n (missW rows off n).2, ()), ()) := by
 unfold S101
 rw [hn, S100_eq (by omega), Option.bind_some]
 simp only
 have hl : S30 k (now, ap, ts, bs, ru, ha, hi, js, ((TK0.1.1, TK0.1.2), TK0.2), rows, off) = some (([], ()), ()) := locks_TK0 hk
 rw [hl, Option.bind_some]
 simp only
 rw [all_nil hk, Option.bind_some, S39a_eq hk, Option.bind_some]
 simp only
 rw [S155_eq hk h1 h2 h3 h4, Option.bind_some]
 simp only
 unfold missE
 cases (missW rows off n).2.1 with
 | true =>
  rw [cond_true, S100_eq (by simp; omega), Option.bind_some]
  simp only
  unfold j101_7
  cases (missW rows off n).2.2 with
  | true =>
   rw [cond_true, S100_eq (by simp; omega), Option.bind_some]
   simp
  | false => simp
 | false =>
  rw [cond_false]
  unfold j101_7
  cases (missW rows off n).2.2 with
  | true =>
   rw [cond_true, S100_eq (by simp; omega), Option.bind_some]
   simp
  | false => simp
abbrev EndT : Type := List Jb × List Ev × List Int × List Bool × Bool
def endS (now : Int) (ts : List Tk) (s : EndT) (j : Jb) : EndT :=
 bif IntKind.i64.wrap (now - j.2.1) != (ts.getD j.1.toNat t0).2.2.1 then (s.1 ++ [j], s.2.1, s.2.2.1, s.2.2.2.1, s.2.2.2.2)
 else bif j.2.2.2.1 == 2 then (s.1, s.2.1 ++ [(now, 13, j.1, 0, 0, 0)], s.2.2.1, s.2.2.2.1, s.2.2.2.2)
 else (s.1, s.2.1 ++ missE now j.1 (missW s.2.2.1 s.2.2.2.1 j.1.toNat).2, (missW s.2.2.1 s.2.2.2.1 j.1.toNat).1.1, (missW s.2.2.1 s.2.2.2.1 j.1.toNat).1.2, s.2.2.2.2 || (missW s.2.2.1 s.2.2.2.1 j.1.toNat).2.2)
theorem missE_len (now t : Int) (b : Bool × Bool) : (missE now t b).length ≤ 3 := by
 obtain ⟨a, b⟩ := b
 unfold missE
 cases a <;> cases b <;> simp
theorem L56_2_eq {k : Nat} (hk : 1000 ≤ k) {now ap : Int} {ts : List Tk} {bs : List Bd5} {ru hi : Bool} {js0 js : List Jb} (hl : js.length ≤ 800) (hjs : ∀ j ∈ js, 0 ≤ j.1 ∧ j.1 < (ts.length : Int)) (hts : ts.length ≤ 900) :
  ∀ (d i j : Nat) (s : EndT), i + d = js.length → d < j → s.1.length ≤ i → s.2.1.length ≤ 3 * i → s.2.2.1.length = ts.length → s.2.2.2.1.length = ts.length →
  L56_2 k j now ap ts bs ru s.2.2.2.2 hi js0 TK0.1.1 TK0.1.2 TK0.2 s.2.2.1 s.2.2.2.1 s.2.1 s.1 js (js.length : Int) (i : Int) =
   some ((), (now, ap, ts, bs, ru, ((js.drop i).foldl (endS now ts) s).2.2.2.2, hi, ((js.drop i).foldl (endS now ts) s).1, TK0.1.1, TK0.1.2, TK0.2, ((js.drop i).foldl (endS now ts) s).2.2.1, ((js.drop i).foldl (endS now ts) s).2.2.2.1, ((js.drop i).foldl (endS now ts) s).2.1, ()), ())
 | 0, i, j, s, h, hjj, h1, h2, h3, h4 => by
  obtain ⟨j', rfl⟩ : ∃ j', j = j' + 1 := ⟨j - 1, by omega⟩
  rw [L56_2_s, l56_2, bif_f (by omega), drop_nil (by omega)]
  rfl
 | d + 1, i, j, s, h, hjj, h1, h2, h3, h4 => by
  obtain ⟨j', rfl⟩ : ∃ j', j = j' + 1 := ⟨j - 1, by omega⟩
  have hi' : i < js.length := by omega
  have hb := hjs _ (getD_mem (z := j0) hi')
  obtain ⟨n, hn⟩ : ∃ n : Nat, (js.getD i j0).1 = (n : Int) := ⟨(js.getD i j0).1.toNat, by omega⟩
  have hn2 : n < ts.length := by omega
  have htn : (js.getD i j0).1.toNat = n := by omega
  rw [L56_2_s, l56_2, bif_t (by omega), ix_nat hi', rd_nat, show js.getD i (0, 0, 0, 0, (0, prep (α := Int) 8 0, [], false), (0, prep (α := Int) 8 0, [], false), [], false) = js.getD i j0 from rfl, hn, ix_nat hn2, rd_nat, drop_cons j0 hi', List.foldl_cons, w64_nat (by omega)]
  have hw := missW_len s.2.2.1 s.2.2.2.1 n
  cases hc : IntKind.i64.wrap (now - (js.getD i j0).2.1) != (ts.getD n t0).2.2.1 with
  | true =>
   have e : endS now ts s (js.getD i j0) = (s.1 ++ [js.getD i j0], s.2.1, s.2.2.1, s.2.2.2.1, s.2.2.2.2) := by unfold endS; rw [htn, hc, cond_true]
   rw [cond_true, ap_ok (by simp only [List.length_cons, List.length_nil]; omega), e]
   exact L56_2_eq hk hl hjs hts d (i + 1) j' (s.1 ++ [js.getD i j0], s.2.1, s.2.2.1, s.2.2.2.1, s.2.2.2.2) (by omega) (by omega) (by simp only [List.length_append, List.length_cons, List.length_nil]; omega) (by simp only; omega) h3 h4
  | false =>
   rw [cond_false]
   cases hp : (js.getD i j0).2.2.2.1 == 2 with
   | true =>
    have e : endS now ts s (js.getD i j0) = (s.1, s.2.1 ++ [(now, 13, (n : Int), 0, 0, 0)], s.2.2.1, s.2.2.2.1, s.2.2.2.2) := by unfold endS; rw [htn, hc, cond_false, hp, cond_true, hn]
    rw [cond_true, S100_eq (by omega), Option.bind_some, e]
    exact L56_2_eq hk hl hjs hts d (i + 1) j' (s.1, s.2.1 ++ [(now, 13, (n : Int), 0, 0, 0)], s.2.2.1, s.2.2.2.1, s.2.2.2.2) (by omega) (by omega) (by simp only; omega) (by simp; omega) h3 h4
   | false =>
    have e : endS now ts s (js.getD i j0) = (s.1, s.2.1 ++ missE now n (missW s.2.2.1 s.2.2.2.1 n).2, (missW s.2.2.1 s.2.2.2.1 n).1.1, (missW s.2.2.1 s.2.2.2.1 n).1.2, s.2.2.2.2 || (missW s.2.2.1 s.2.2.2.1 n).2.2) := by unfold endS; rw [htn, hc, cond_false, hp, cond_false, hn]
    have hm := missE_len now n (missW s.2.2.1 s.2.2.2.1 n).2
    rw [cond_false, S101_eq hk hn (by omega) (by omega) (by omega) (by omega) (by omega), Option.bind_some, e]
    exact L56_2_eq hk hl hjs hts d (i + 1) j' (s.1, s.2.1 ++ missE now n (missW s.2.2.1 s.2.2.2.1 n).2, (missW s.2.2.1 s.2.2.2.1 n).1.1, (missW s.2.2.1 s.2.2.2.1 n).1.2, s.2.2.2.2 || (missW s.2.2.1 s.2.2.2.1 n).2.2) (by omega) (by omega) (by simp only; omega) (by simp only [List.length_append]; omega) (by simp only; omega) (by simp only; omega)
def endsM (now : Int) (ts : List Tk) (js : List Jb) (rows : List Int) (off : List Bool) (ha : Bool) : EndT := js.foldl (endS now ts) ([], [], rows, off, ha)
theorem S56_eq {k : Nat} (hk : 1000 ≤ k) {now ap : Int} {ts : List Tk} {bs : List Bd5} {ru ha hi : Bool} {js : List Jb} {rows : List Int} {off : List Bool} (hl : js.length ≤ 800) (hjs : ∀ j ∈ js, 0 ≤ j.1 ∧ j.1 < (ts.length : Int)) (hts : ts.length ≤ 900) (hr : rows.length = ts.length) (ho : off.length = ts.length) :
  S56 k now ap ts bs ru ha hi js TK0.1.1 TK0.1.2 TK0.2 rows off [] = some ((), (now, ap, ts, bs, ru, (endsM now ts js rows off ha).2.2.2.2, hi, (endsM now ts js rows off ha).1, TK0.1.1, TK0.1.2, TK0.2, (endsM now ts js rows off ha).2.2.1, (endsM now ts js rows off ha).2.2.2.1, (endsM now ts js rows off ha).2.1, ()), ()) := by
 unfold S56
 have e := L56_2_eq (ap := ap) (bs := bs) (ru := ru) (hi := hi) (js0 := js) (now := now) hk hl hjs hts js.length 0 k ([], [], rows, off, ha) (by omega) (by omega) (by simp) (by simp) hr ho
 rw [List.drop_zero] at e
 exact e
def promJ (now : Int) (bs : List Bd5) (j : Jb) : Jb :=
 bif j.2.2.2.1 != 2 then (bif decide (IntKind.i64.wrap (now - j.2.1) ≥ (bs.getD j.1.toNat (prep (α := Int) 5 0)).2.2.2.2) then (j.1, j.2.1, j.2.2.1, j.2.2.2.1, j.2.2.2.2.1, j.2.2.2.2.2.1, j.2.2.2.2.2.2.1, true) else j) else j
theorem map_step {α : Type} {f : α → α} {l : List α} {i : Nat} (z : α) (h : i < l.length) : ((l.take i).map f ++ l.drop i).set i (f (l.getD i z)) = (l.take (i + 1)).map f ++ l.drop (i + 1) := by
 have e : i - ((l.take i).map f).length = 0 := by simp; omega
 rw [List.set_append_right _ _ (by simp; omega), e, drop_cons z h, List.set_cons_zero, List.take_succ_eq_append_getElem h, List.map_append, List.append_assoc, getD_in h]
 rfl
theorem map_get {α : Type} {f : α → α} {l : List α} {i : Nat} (z : α) (h : i < l.length) : ((l.take i).map f ++ l.drop i).getD i z = l.getD i z := by
 have e : i - ((l.take i).map f).length = 0 := by simp; omega
 rw [getD_app_r (by simp; omega), e, drop_cons z h]
 rfl
theorem map_len {α : Type} {f : α → α} {l : List α} {i : Nat} (h : i ≤ l.length) : ((l.take i).map f ++ l.drop i).length = l.length := by simp; omega
theorem L57_1_eq {k : Nat} {now ap : Int} {ts : List Tk} {bs : List Bd5} {ru ha hi : Bool} {js : List Jb} {g : List Int} {l : List Bool} {u : List Thg} {rows : List Int} {off : List Bool} {ev : List Ev} (hl : js.length ≤ 800) (hjs : ∀ j ∈ js, 0 ≤ j.1 ∧ j.1 < (bs.length : Int)) :
  ∀ (d i j : Nat), i + d = js.length → d < j →
  L57_1 k j now ap ts bs ru ha hi ((js.take i).map (promJ now bs) ++ js.drop i) g l u rows off ev (js.length : Int) (i : Int) =
   some ((), (now, ap, ts, bs, ru, ha, hi, js.map (promJ now bs), g, l, u, rows, off, ev, ()), ())
 | 0, i, j, h, hjj => by
  obtain ⟨j', rfl⟩ : ∃ j', j = j' + 1 := ⟨j - 1, by omega⟩
  rw [L57_1_s, l57_1, bif_f (by omega), drop_nil (by omega), List.take_of_length_le (by omega), List.append_nil]
 | d + 1, i, j, h, hjj => by
  obtain ⟨j', rfl⟩ : ∃ j', j = j' + 1 := ⟨j - 1, by omega⟩
  have hi' : i < js.length := by omega
  have hb := hjs _ (getD_mem (z := j0) hi')
  obtain ⟨n, hn⟩ : ∃ n : Nat, (js.getD i j0).1 = (n : Int) := ⟨(js.getD i j0).1.toNat, by omega⟩
  have hn2 : n < bs.length := by omega
  have htn : (js.getD i j0).1.toNat = n := by omega
  have hlen : ((js.take i).map (promJ now bs) ++ js.drop i).length = js.length := map_len (by omega)
  have hg : ((js.take i).map (promJ now bs) ++ js.drop i).getD i (0, 0, 0, 0, (0, prep (α := Int) 8 0, [], false), (0, prep (α := Int) 8 0, [], false), [], false) = js.getD i j0 := map_get j0 hi'
  have hst := map_step (f := promJ now bs) j0 hi'
  have ih := L57_1_eq (k := k) (now := now) (ap := ap) (ts := ts) (bs := bs) (ru := ru) (ha := ha) (hi := hi) (js := js) (g := g) (l := l) (u := u) (rows := rows) (off := off) (ev := ev) hl hjs d (i + 1) j' (by omega) (by omega)
  have hsame : promJ now bs (js.getD i j0) = js.getD i j0 → (js.take i).map (promJ now bs) ++ js.drop i = (js.take (i + 1)).map (promJ now bs) ++ js.drop (i + 1) := fun e => by
   rw [← hst, e]
   exact (by have := set_same (l := (js.take i).map (promJ now bs) ++ js.drop i) (n := i) (z := j0); rw [map_get j0 hi'] at this; exact this.symm)
  rw [L57_1_s, l57_1, bif_t (by omega), ix_nat (by omega), rd_nat, hg, hn, ix_nat hn2, rd_nat, w64_nat (by omega)]
  cases hp : (js.getD i j0).2.2.2.1 != 2 with
  | false =>
   rw [cond_false, hsame (by unfold promJ; rw [hp, cond_false]), ih]
  | true =>
   rw [cond_true]
   by_cases hq : IntKind.i64.wrap (now - (js.getD i j0).2.1) ≥ (bs.getD n (prep (α := Int) 5 0)).2.2.2.2
   ·rw [bif_t hq, ix_nat (by omega), upd_nat]
    have e : promJ now bs (js.getD i j0) = ((n : Int), (js.getD i j0).2.1, (js.getD i j0).2.2.1, (js.getD i j0).2.2.2.1, (js.getD i j0).2.2.2.2.1, (js.getD i j0).2.2.2.2.2.1, (js.getD i j0).2.2.2.2.2.2.1, true) := by unfold promJ; rw [hp, cond_true, htn, bif_t hq, hn]
    rw [← e, hst, ih]
   ·rw [bif_f hq, hsame (by unfold promJ; rw [hp, cond_true, htn, bif_f hq]), ih]
theorem S57_eq {k : Nat} (hk : 1000 ≤ k) {now ap : Int} {ts : List Tk} {bs : List Bd5} {ru ha hi : Bool} {js : List Jb} {g : List Int} {l : List Bool} {u : List Thg} {rows : List Int} {off : List Bool} {ev : List Ev} (hl : js.length ≤ 800) (hjs : ∀ j ∈ js, 0 ≤ j.1 ∧ j.1 < (bs.length : Int)) :
  S57 k now ap ts bs ru ha hi js g l u rows off ev = some ((), (now, ap, ts, bs, ru, ha, hi, js.map (promJ now bs), g, l, u, rows, off, ev, ()), ()) := by
 unfold S57
 exact L57_1_eq hl hjs js.length 0 k (by omega) (by omega)
theorem S58_eq {k : Nat} (hk : 1000 ≤ k) {now ap : Int} {ts : List Tk} {bs : List Bd5} {ru ha hi : Bool} {js : List Jb} {rows : List Int} {off : List Bool} {ev : List Ev} :
  S58 k now ap ts bs ru ha hi js TK0.1.1 TK0.1.2 TK0.2 rows off ev = some ((), (now, ap, ts, bs, ru, ha, hi, js, TK0.1.1, TK0.1.2, TK0.2, rows, off, ev, ()), ()) := by
 unfold S58
 rw [show S102 k ((TK0.1.1, TK0.1.2), TK0.2) = _ from audit_TK0 hk, Option.bind_some]
 obtain ⟨k, rfl⟩ : ∃ m, k = m + 1 := ⟨k - 1, by omega⟩
 simp only
 rw [L58_3_s, l58_3, bif_f (by simp)]
end Go.Proofs.YtmmagcjlfcicfaaGreat.Ab

/- A tick of a kernel without things: one goes on, or is hit. -/
namespace Go.Proofs.YtmmagcjlfcicfaaGreat.Ab
open Go.RowKit
set_option linter.unusedSimpArgs false
set_option linter.unusedVariables false
def stepX (l : List I4) (m : Mc) : I4 := l.getD m.1.toNat i0
def stepM (l : List I4) (m : Mc) : Mc := ((go (stepX l m) (m.1.toNat : Int) m.2.1 m.2.2.1.reverse).1, eff (stepX l m) m.2.1, (go (stepX l m) (m.1.toNat : Int) m.2.1 m.2.2.1.reverse).2.reverse, (stepX l m).1 == 0)
structure MOK (l : List I4) (m : Mc) : Prop where
 len : l.length ≤ 900
 pc : 0 ≤ m.1 ∧ m.1.toNat < l.length
 may : mayI (stepX l m) = true
 reps : m.2.2.1.length ≤ 100
 bound : ∀ r ∈ m.2.2.1, r.2.2 ≤ 1000
 mem : inM m.2.1
 on : m.2.2.2 = false
 plain : (stepX l m).1 ≠ 9 ∧ (stepX l m).1 ≠ 10
theorem vm_stepM {k : Nat} (hk : 1000 ≤ k) {l : List I4} {m : Mc} (h : MOK l m) : S208 k l m = some ((stepM l m, stepX l m, true, ()), ()) := by
 obtain ⟨pc, mem, rs, ov⟩ := m
 obtain ⟨n, rfl⟩ : ∃ n : Nat, pc = (n : Int) := ⟨pc.toNat, by have : 0 ≤ pc := h.pc.1; omega⟩
 have ho : ov = false := h.on
 subst ho
 have e := S208_eq hk (l := l) (n := n) (mem := mem) (R := rs.reverse) h.len (by have : (n : Int).toNat < l.length := h.pc.2; omega) h.may (by rw [List.length_reverse]; exact h.reps) (fun r hr => h.bound r (List.mem_reverse.1 hr)) h.mem
 rw [List.reverse_reverse] at e
 exact e
def codeJ (t : Tk) (p : Int) : List I4 := bif p == 0 then t.2.2.2.1 else bif p == 1 then t.2.2.2.2.1 else t.2.2.2.2.2
theorem S209_eq {k : Nat} {t : Tk} (ht : lightT t) {j : Jb} (hp : 0 ≤ j.2.2.2.1 ∧ j.2.2.2.1 ≤ 2) : S209 k t j = some ((codeJ t j.2.2.2.1, ()), ()) := by
 unfold S209
 obtain ⟨a, b, c, p, r⟩ := j
 have hp' : p = 0 ∨ p = 1 ∨ p = 2 := by have : 0 ≤ p ∧ p ≤ 2 := hp; omega
 rcases hp' with rfl | rfl | rfl
 ·rw [show mget (.int .i64) (.sl _ (.pair (.int .i64) (.pair (.int .i64) (.pair (.int .i64) (.int .i64))))) (0 : Int) _ ([] : List I4) = t.2.2.2.1 from rfl, cl_inst ht.1, Option.bind_some]; rfl
 ·rw [show mget (.int .i64) (.sl _ (.pair (.int .i64) (.pair (.int .i64) (.pair (.int .i64) (.int .i64))))) (1 : Int) _ ([] : List I4) = t.2.2.2.2.1 from rfl, cl_inst ht.2.1, Option.bind_some]; rfl
 ·rw [show mget (.int .i64) (.sl _ (.pair (.int .i64) (.pair (.int .i64) (.pair (.int .i64) (.int .i64))))) (2 : Int) _ ([] : List I4) = t.2.2.2.2.2 from rfl, cl_inst ht.2.2, Option.bind_some]; rfl
theorem S210_eq {k : Nat} {m : Mc} (h : m.2.2.1.length ≤ 900) : S210 k m = some ((m, ()), ()) := by
 unfold S210
 rw [cl_rep h, Option.bind_some]
theorem S207_eq {k : Nat} {j : Jb} (h : JOK j) : S207 k j = some ((j, ()), ()) := by
 unfold S207
 rw [S210_eq (by have := h.m; omega), Option.bind_some, S210_eq (by have := h.kept; omega), Option.bind_some, cl_int (by rw [h.held]; simp), Option.bind_some]
structure GOK (ts : List Tk) (j : Jb) : Prop where
 ok : JOK j
 task : 0 ≤ j.1 ∧ j.1 < (ts.length : Int)
 phase : 0 ≤ j.2.2.2.1 ∧ j.2.2.2.1 ≤ 2
 m : MOK (codeJ (ts.getD j.1.toNat t0) j.2.2.2.1) j.2.2.2.2.1
def goJ (t : Tk) (j : Jb) : Jb := (j.1, j.2.1, j.2.2.1, j.2.2.2.1, stepM (codeJ t j.2.2.2.1) j.2.2.2.2.1, (bif (stepX (codeJ t j.2.2.2.1) j.2.2.2.2.1).1 == 11 then stepM (codeJ t j.2.2.2.1) j.2.2.2.2.1 else j.2.2.2.2.2.1), j.2.2.2.2.2.2)
theorem stepM_len {l : List I4} {m : Mc} (h : MOK l m) : (stepM l m).2.2.1.length ≤ 900 := by
 have hg : ∀ (R : List Rp) (pc : Int), (goesR pc R).2.length ≤ R.length := fun R => by
  induction R with
  | nil => intro pc; simp [goesR]
  | cons r R ih =>
   intro pc
   rw [goesR]
   by_cases a : r.2.1 < pc
   ·rw [if_pos a]
    by_cases b : r.2.2 > 0
    ·rw [if_pos b]; simp
    ·rw [if_neg b]; have := ih pc; simp only [List.length_cons]; omega
   ·rw [if_neg a]; exact Nat.le_refl _
 have hn : ∀ (x : I4) (pc : Int) (mem : Mem) (R : List Rp), (nxt x pc mem R).2.length ≤ R.length + 1 := fun x pc mem R => by
  unfold nxt; split; · simp
  ·split; · split <;> simp
   ·split <;> simp
 unfold stepM
 rw [List.length_reverse]
 unfold go
 have h1 := hg (nxt (stepX l m) (m.1.toNat : Int) m.2.1 m.2.2.1.reverse).2 (nxt (stepX l m) (m.1.toNat : Int) m.2.1 m.2.2.1.reverse).1
 have h2 := hn (stepX l m) (m.1.toNat : Int) m.2.1 m.2.2.1.reverse
 rw [List.length_reverse] at h2
 have := h.reps
 omega
theorem S161_eq {k : Nat} (hk : 1000 ≤ k) {ts : List Tk} {j : Jb} (ht : lightT (ts.getD j.1.toNat t0)) (h : GOK ts j) :
  S161 k (ts.getD j.1.toNat t0) j = some ((goJ (ts.getD j.1.toNat t0) j, stepX (codeJ (ts.getD j.1.toNat t0) j.2.2.2.1) j.2.2.2.2.1, true, ()), ()) := by
 unfold S161
 rw [S207_eq h.ok, Option.bind_some, S209_eq ht h.phase, Option.bind_some, vm_stepM hk h.m, Option.bind_some]
 simp only [Bool.not_true, cond_false]
 have hp := h.m.plain
 unfold goJ
 cases e : (stepX (codeJ (ts.getD j.1.toNat t0) j.2.2.2.1) j.2.2.2.2.1).1 == 11 with
 | true => rw [cond_true, cond_true, S210_eq (stepM_len h.m), Option.bind_some]
 | false =>
  rw [cond_false, cond_false, beq_eq_false_iff_ne.2 hp.1, cond_false, beq_eq_false_iff_ne.2 hp.2, cond_false]
theorem good_at {k : Nat} {r : List Int} {o : List Bool} {n : Nat} (h1 : r.length ≤ 900) (h2 : o.length ≤ 900) (h : n < r.length) : S83 k (r, o) (n : Int) = some (((r.set n 0, o), ()), ()) := by
 unfold S83 S147
 simp only
 rw [cl_int h1, Option.bind_some, cl_bool h2, Option.bind_some, Option.bind_some, bif_t (by omega), bif_t (by simp only; omega), ix_nat h, upd_nat]
def newM (a : Int) : Mc := (0, (a, 0, 0, 0, 0, 0, 0, 0), [], false)
def optJ (j : Jb) : Jb := (j.1, j.2.1, j.2.2.1, 2, newM j.2.2.2.2.1.2.1.1, newM j.2.2.2.2.1.2.1.1, [], false)
def flJ (j : Jb) : Int × Int × Int × Int × Int × Int × Int × Int × Int × Int × Int × Int × Int × List Rp × Bool × Int × Int × Int × Int × Int × Int × Int × Int × Int × List Rp × Bool × List Int × Bool × Unit := (j.1, j.2.1, j.2.2.1, j.2.2.2.1, j.2.2.2.2.1.1, j.2.2.2.2.1.2.1.1, j.2.2.2.2.1.2.1.2.1, j.2.2.2.2.1.2.1.2.2.1, j.2.2.2.2.1.2.1.2.2.2.1, j.2.2.2.2.1.2.1.2.2.2.2.1, j.2.2.2.2.1.2.1.2.2.2.2.2.1, j.2.2.2.2.1.2.1.2.2.2.2.2.2.1, j.2.2.2.2.1.2.1.2.2.2.2.2.2.2, j.2.2.2.2.1.2.2.1, j.2.2.2.2.1.2.2.2, j.2.2.2.2.2.1.1, j.2.2.2.2.2.1.2.1.1, j.2.2.2.2.2.1.2.1.2.1, j.2.2.2.2.2.1.2.1.2.2.1, j.2.2.2.2.2.1.2.1.2.2.2.1, j.2.2.2.2.2.1.2.1.2.2.2.2.1, j.2.2.2.2.2.1.2.1.2.2.2.2.2.1, j.2.2.2.2.2.1.2.1.2.2.2.2.2.2.1, j.2.2.2.2.2.1.2.1.2.2.2.2.2.2.2, j.2.2.2.2.2.1.2.2.1, j.2.2.2.2.2.1.2.2.2, j.2.2.2.2.2.2.1, j.2.2.2.2.2.2.2, ())
abbrev RunT : Type := Jb × Bool × List Ev × List Int
def doneJ (now : Int) (t : Tk) (j : Jb) (rows : List Int) : RunT :=
 bif j.2.2.2.1 == 2 then (j, true, [(now, 4, j.1, 0, j.2.2.2.2.1.2.1.1, 0)], rows)
 else (optJ j, (t.2.2.2.2.2.length : Int) == 0, [(now, 3, j.1, 0, j.2.2.2.2.1.2.1.1, 0)] ++ (bif (j.2.2.2.1 == 0) && decide ((t.2.2.2.2.1.length : Int) > 0) then [(now, 8, j.1, 0, 0, 0)] else []), rows.set j.1.toNat 0)
theorem j164_8_eq {k : Nat} (hk : 1000 ≤ k) {now ap : Int} {ts : List Tk} {bs : List Bd5} {ru ha hi : Bool} {js : List Jb} {rows : List Int} {off : List Bool} {ev : List Ev} {j : Jb} (hj : JOK j) (h : 0 ≤ j.1 ∧ j.1 < (ts.length : Int)) (hr : rows.length = ts.length) (ho : off.length ≤ 900) (ht : ts.length ≤ 900) :
  j164_8 k now ap ts bs ru ha hi js TK0.1.1 TK0.1.2 TK0.2 rows off ev j.1 j.2.1 j.2.2.1 j.2.2.2.1 j.2.2.2.2.1.1 j.2.2.2.2.1.2.1.1 j.2.2.2.2.1.2.1.2.1 j.2.2.2.2.1.2.1.2.2.1 j.2.2.2.2.1.2.1.2.2.2.1 j.2.2.2.2.1.2.1.2.2.2.2.1 j.2.2.2.2.1.2.1.2.2.2.2.2.1 j.2.2.2.2.1.2.1.2.2.2.2.2.2.1 j.2.2.2.2.1.2.1.2.2.2.2.2.2.2 j.2.2.2.2.1.2.2.1 j.2.2.2.2.1.2.2.2 j.2.2.2.2.2.1.1 j.2.2.2.2.2.1.2.1.1 j.2.2.2.2.2.1.2.1.2.1 j.2.2.2.2.2.1.2.1.2.2.1 j.2.2.2.2.2.1.2.1.2.2.2.1 j.2.2.2.2.2.1.2.1.2.2.2.2.1 j.2.2.2.2.2.1.2.1.2.2.2.2.2.1 j.2.2.2.2.2.1.2.1.2.2.2.2.2.2.1 j.2.2.2.2.2.1.2.1.2.2.2.2.2.2.2 j.2.2.2.2.2.1.2.2.1 j.2.2.2.2.2.1.2.2.2 j.2.2.2.2.2.2.1 j.2.2.2.2.2.2.2 = some (((((ts.getD j.1.toNat t0).2.2.2.2.2.length : Int) == 0), ()), (now, ap, ts, bs, ru, ha, hi, js, TK0.1.1, TK0.1.2, TK0.2, rows.set j.1.toNat 0, off, ev, ()), flJ (optJ j), ()) := by
 obtain ⟨n, hn⟩ : ∃ n : Nat, j.1 = (n : Int) := ⟨j.1.toNat, by omega⟩
 unfold j164_8 S213 S99
 rw [show S207 k (j.1, j.2.1, j.2.2.1, j.2.2.2.1, (j.2.2.2.2.1.1, (j.2.2.2.2.1.2.1.1, j.2.2.2.2.1.2.1.2.1, j.2.2.2.2.1.2.1.2.2.1, j.2.2.2.2.1.2.1.2.2.2.1, j.2.2.2.2.1.2.1.2.2.2.2.1, j.2.2.2.2.1.2.1.2.2.2.2.2.1, j.2.2.2.2.1.2.1.2.2.2.2.2.2.1, j.2.2.2.2.1.2.1.2.2.2.2.2.2.2), j.2.2.2.2.1.2.2.1, j.2.2.2.2.1.2.2.2), (j.2.2.2.2.2.1.1, (j.2.2.2.2.2.1.2.1.1, j.2.2.2.2.2.1.2.1.2.1, j.2.2.2.2.2.1.2.1.2.2.1, j.2.2.2.2.2.1.2.1.2.2.2.1, j.2.2.2.2.2.1.2.1.2.2.2.2.1, j.2.2.2.2.2.1.2.1.2.2.2.2.2.1, j.2.2.2.2.2.1.2.1.2.2.2.2.2.2.1, j.2.2.2.2.2.1.2.1.2.2.2.2.2.2.2), j.2.2.2.2.2.1.2.2.1, j.2.2.2.2.2.1.2.2.2), j.2.2.2.2.2.2.1, j.2.2.2.2.2.2.2) = some ((j, ()), ()) from S207_eq hj, hn, good_at (by omega) ho (by omega)]
 simp only [Option.bind_some]
 rw [hn, ix_nat (by omega), rd_nat, Int.toNat_natCast]
 unfold flJ optJ newM
 simp only [hn]
theorem done_eq {k : Nat} (hk : 1000 ≤ k) {now ap : Int} {ts : List Tk} {bs : List Bd5} {ru ha hi : Bool} {js : List Jb} {rows : List Int} {off : List Bool} {ev : List Ev} {j : Jb} (hj : JOK j) (h : 0 ≤ j.1 ∧ j.1 < (ts.length : Int)) (hr : rows.length = ts.length) (ho : off.length ≤ 900) (ht : ts.length ≤ 900) (he : ev.length ≤ 10000) :
  S164 k now ap ts bs ru ha hi js TK0.1.1 TK0.1.2 TK0.2 rows off ev j.1 j.2.1 j.2.2.1 j.2.2.2.1 j.2.2.2.2.1.1 j.2.2.2.2.1.2.1.1 j.2.2.2.2.1.2.1.2.1 j.2.2.2.2.1.2.1.2.2.1 j.2.2.2.2.1.2.1.2.2.2.1 j.2.2.2.2.1.2.1.2.2.2.2.1 j.2.2.2.2.1.2.1.2.2.2.2.2.1 j.2.2.2.2.1.2.1.2.2.2.2.2.2.1 j.2.2.2.2.1.2.1.2.2.2.2.2.2.2 j.2.2.2.2.1.2.2.1 j.2.2.2.2.1.2.2.2 j.2.2.2.2.2.1.1 j.2.2.2.2.2.1.2.1.1 j.2.2.2.2.2.1.2.1.2.1 j.2.2.2.2.2.1.2.1.2.2.1 j.2.2.2.2.2.1.2.1.2.2.2.1 j.2.2.2.2.2.1.2.1.2.2.2.2.1 j.2.2.2.2.2.1.2.1.2.2.2.2.2.1 j.2.2.2.2.2.1.2.1.2.2.2.2.2.2.1 j.2.2.2.2.2.1.2.1.2.2.2.2.2.2.2 j.2.2.2.2.2.1.2.2.1 j.2.2.2.2.2.1.2.2.2 j.2.2.2.2.2.2.1 j.2.2.2.2.2.2.2 = some (((doneJ now (ts.getD j.1.toNat t0) j rows).2.1, ()), (now, ap, ts, bs, ru, ha, hi, js, TK0.1.1, TK0.1.2, TK0.2, (doneJ now (ts.getD j.1.toNat t0) j rows).2.2.2, off, ev ++ (doneJ now (ts.getD j.1.toNat t0) j rows).2.2.1, ()), flJ (doneJ now (ts.getD j.1.toNat t0) j rows).1, ()) := by
 obtain ⟨n, hn⟩ : ∃ n : Nat, j.1 = (n : Int) := ⟨j.1.toNat, by omega⟩
 unfold S164 doneJ
 cases hp : j.2.2.2.1 == 2 with
 | true =>
  simp only [cond_true]
  rw [S100a_eq (by omega), Option.bind_some]
  rfl
 | false =>
  simp only [cond_false]
  rw [S100a_eq (by omega), Option.bind_some]
  simp only
  cases hp0 : j.2.2.2.1 == 0 with
  | false =>
   simp only [cond_false, Bool.false_and, List.append_nil]
   exact j164_8_eq hk hj h hr ho ht
  | true =>
   simp only [cond_true, Bool.true_and]
   rw [hn, ix_nat (by omega), rd_nat, ← hn, show ts.getD n (0, 0, 0, [], [], []) = ts.getD n t0 from rfl]
   have e := fun ev : List Ev => j164_8_eq (now := now) (ap := ap) (bs := bs) (ru := ru) (ha := ha) (hi := hi) (js := js) (off := off) (ev := ev) hk hj h hr ho ht
   rw [show j.1.toNat = n by omega] at e ⊢
   cases hw : decide (((ts.getD n t0).2.2.2.2.1.length : Int) > 0) with
   | false =>
    simp only [cond_false, List.append_nil]
    exact e _
   | true =>
    simp only [cond_true]
    rw [S100a_eq (by simp; omega), Option.bind_some]
    simp only
    rw [← List.append_assoc]
    exact e _
end Go.Proofs.YtmmagcjlfcicfaaGreat.Ab

/- A tick of a kernel without things: one goes on, or is hit. -/
namespace Go.Proofs.YtmmagcjlfcicfaaGreat.Ab
open Go.RowKit
set_option linter.unusedSimpArgs false
set_option linter.unusedVariables false
def goesJ (now : Int) (t : Tk) (j : Jb) (rows : List Int) : RunT :=
 bif (goJ t j).2.2.2.2.1.2.2.2 then doneJ now t (goJ t j) rows else (goJ t j, false, [], rows)
theorem stepM_reps {l : List I4} {m : Mc} (h : MOK l m) : (stepM l m).2.2.1.length ≤ m.2.2.1.length + 1 := by
 have hg : ∀ (R : List Rp) (pc : Int), (goesR pc R).2.length ≤ R.length := fun R => by
  induction R with
  | nil => intro pc; simp [goesR]
  | cons r R ih =>
   intro pc
   rw [goesR]
   by_cases a : r.2.1 < pc
   ·rw [if_pos a]
    by_cases b : r.2.2 > 0
    ·rw [if_pos b]; simp
    ·rw [if_neg b]; have := ih pc; simp only [List.length_cons]; omega
   ·rw [if_neg a]; exact Nat.le_refl _
 have hn : ∀ (x : I4) (pc : Int) (mem : Mem) (R : List Rp), (nxt x pc mem R).2.length ≤ R.length + 1 := fun x pc mem R => by
  unfold nxt; split; · simp
  ·split; · split <;> simp
   ·split <;> simp
 unfold stepM
 rw [List.length_reverse]
 unfold go
 have h1 := hg (nxt (stepX l m) (m.1.toNat : Int) m.2.1 m.2.2.1.reverse).2 (nxt (stepX l m) (m.1.toNat : Int) m.2.1 m.2.2.1.reverse).1
 have h2 := hn (stepX l m) (m.1.toNat : Int) m.2.1 m.2.2.1.reverse
 rw [List.length_reverse] at h2
 omega
def few (j : Jb) : Prop := j.2.2.2.2.1.2.2.1.length ≤ 10 ∧ j.2.2.2.2.2.1.2.2.1.length ≤ 10
theorem goJ_ok {ts : List Tk} {j : Jb} (h : GOK ts j) (hf : few j) : JOK (goJ (ts.getD j.1.toNat t0) j) := by
 have h1 := stepM_reps h.m
 have h2 := hf.1
 have h3 := hf.2
 refine ⟨h.ok.held, ?_, ?_⟩
 ·show (stepM _ _).2.2.1.length ≤ 100
  omega
 ·show (bif _ then stepM _ _ else _).2.2.1.length ≤ 100
  cases (stepX (codeJ (ts.getD j.1.toNat t0) j.2.2.2.1) j.2.2.2.2.1).1 == 11 with
  | true => rw [cond_true]; omega
  | false => rw [cond_false]; omega
theorem goes_eq {k : Nat} (hk : 1000 ≤ k) {now ap : Int} {ts : List Tk} {bs : List Bd5} {ru ha hi : Bool} {js : List Jb} {rows : List Int} {off : List Bool} {ev : List Ev} {j : Jb} (hL : lightL ts) (hj : GOK ts j) (hf : few j) (hr : rows.length = ts.length) (ho : off.length ≤ 900) (he : ev.length ≤ 10000) :
  S105 k now ap ts bs ru ha hi js TK0.1.1 TK0.1.2 TK0.2 rows off ev j.1 j.2.1 j.2.2.1 j.2.2.2.1 j.2.2.2.2.1.1 j.2.2.2.2.1.2.1.1 j.2.2.2.2.1.2.1.2.1 j.2.2.2.2.1.2.1.2.2.1 j.2.2.2.2.1.2.1.2.2.2.1 j.2.2.2.2.1.2.1.2.2.2.2.1 j.2.2.2.2.1.2.1.2.2.2.2.2.1 j.2.2.2.2.1.2.1.2.2.2.2.2.2.1 j.2.2.2.2.1.2.1.2.2.2.2.2.2.2 j.2.2.2.2.1.2.2.1 j.2.2.2.2.1.2.2.2 j.2.2.2.2.2.1.1 j.2.2.2.2.2.1.2.1.1 j.2.2.2.2.2.1.2.1.2.1 j.2.2.2.2.2.1.2.1.2.2.1 j.2.2.2.2.2.1.2.1.2.2.2.1 j.2.2.2.2.2.1.2.1.2.2.2.2.1 j.2.2.2.2.2.1.2.1.2.2.2.2.2.1 j.2.2.2.2.2.1.2.1.2.2.2.2.2.2.1 j.2.2.2.2.2.1.2.1.2.2.2.2.2.2.2 j.2.2.2.2.2.1.2.2.1 j.2.2.2.2.2.1.2.2.2 j.2.2.2.2.2.2.1 j.2.2.2.2.2.2.2 = some (((goesJ now (ts.getD j.1.toNat t0) j rows).2.1, ()), (now, ap, ts, bs, ru, ha, hi, js, TK0.1.1, TK0.1.2, TK0.2, (goesJ now (ts.getD j.1.toNat t0) j rows).2.2.2, off, ev ++ (goesJ now (ts.getD j.1.toNat t0) j rows).2.2.1, ()), flJ (goesJ now (ts.getD j.1.toNat t0) j rows).1, ()) := by
 have h := hj.task
 have hl := hL.1
 have ht := (hL.2 _ (getD_mem (z := t0) (l := ts) (i := j.1.toNat) (by omega))).1
 have hok := goJ_ok hj hf
 have hp := hj.m.plain
 have eg : S161 k (rd ts j.1 (0, 0, 0, [], [], [])) j = _ := S161_eq hk ht hj
 unfold S105
 rw [ix_ok h.1 h.2]
 refine (congrArg (fun x => Option.bind x _) eg).trans ?_
 simp only [Option.bind_some, Bool.not_true, cond_false]
 rw [beq_eq_false_iff_ne.2 hp.1, cond_false, beq_eq_false_iff_ne.2 hp.2, cond_false]
 unfold j105_12 goesJ
 cases e : (goJ (ts.getD j.1.toNat t0) j).2.2.2.2.1.2.2.2 with
 | true =>
  simp only [cond_true]
  have ed := done_eq (now := now) (ap := ap) (bs := bs) (ru := ru) (ha := ha) (hi := hi) (js := js) (rows := rows) (off := off) (ev := ev) (j := goJ (ts.getD j.1.toNat t0) j) hk hok h hr ho (by omega) he
  rw [e] at ed
  rw [ed, Option.bind_some]
  rfl
 | false =>
  simp only [cond_false, List.append_nil]
  unfold flJ
  rw [e]
def backJ (t : Tk) (j : Jb) : Jb :=
 bif (j.2.2.2.1 == 0) && decide ((t.2.2.2.2.1.length : Int) > 0) then (j.1, j.2.1, j.2.2.1, 1, newM j.2.2.1, newM j.2.2.1, [], j.2.2.2.2.2.2.2)
 else (j.1, j.2.1, j.2.2.1, j.2.2.2.1, j.2.2.2.2.2.1, j.2.2.2.2.2.1, [], j.2.2.2.2.2.2.2)
def hitJ (now : Int) (t : Tk) (j : Jb) (rows : List Int) : RunT :=
 bif j.2.2.2.1 == 2 then (j, true, [(now, 13, j.1, 0, 0, 0)], rows)
 else bif (j.2.2.2.1 == 0) && decide ((t.2.2.2.2.1.length : Int) > 0) then (backJ t j, false, [(now, 7, j.1, 0, 0, 0)], rows)
 else (backJ t j, false, [(now, 6, j.1, 0, 0, 0)], rows)
theorem S214_eq {k : Nat} {t : Tk} {j : Jb} (h : JOK j) : S214 k t j = some ((backJ t j, ()), ()) := by
 unfold S214 S99 backJ
 rw [S207_eq h, Option.bind_some]
 simp only [Option.bind_some]
 have hm := S210_eq (k := k) (m := j.2.2.2.2.2.1) (by have := h.kept; omega)
 rw [hm]
 simp only [Option.bind_some]
 cases j.2.2.2.1 == 0 with
 | false => rfl
 | true => rw [Bool.true_and, cond_true]; cases decide ((t.2.2.2.2.1.length : Int) > 0) <;> rfl
theorem S165_eq {k : Nat} (hk : 1000 ≤ k) {t : Tk} {j : Jb} (h : JOK j) (now : Int) (rows : List Int) : S165 k t j [] = some (((hitJ now t j rows).1, [], (bif j.2.2.2.1 == 2 then 13 else bif (j.2.2.2.1 == 0) && decide ((t.2.2.2.2.1.length : Int) > 0) then 7 else 6), ()), ()) := by
 unfold S165 hitJ
 rw [S214_eq h, Option.bind_some, all_nil hk, Option.bind_some, S81_eq hk h]
 cases hp : j.2.2.2.1 == 2 with
 | true => simp
 | false =>
  simp only [cond_false, Option.bind_some]
  unfold backJ
  cases hp0 : j.2.2.2.1 == 0 with
  | false => simp
  | true =>
   have : j.2.2.2.1 = 0 := by simpa using hp0
   cases decide ((t.2.2.2.2.1.length : Int) > 0) with
   | true => simp [this]
   | false => simp
theorem hits_eq {k : Nat} (hk : 1000 ≤ k) {now ap : Int} {ts : List Tk} {bs : List Bd5} {ru ha hi : Bool} {js : List Jb} {rows : List Int} {off : List Bool} {ev : List Ev} {j : Jb} (hj : JOK j) (h : 0 ≤ j.1 ∧ j.1 < (ts.length : Int)) (he : ev.length ≤ 10000) :
  S106 k now ap ts bs ru ha hi js TK0.1.1 TK0.1.2 TK0.2 rows off ev j.1 j.2.1 j.2.2.1 j.2.2.2.1 j.2.2.2.2.1.1 j.2.2.2.2.1.2.1.1 j.2.2.2.2.1.2.1.2.1 j.2.2.2.2.1.2.1.2.2.1 j.2.2.2.2.1.2.1.2.2.2.1 j.2.2.2.2.1.2.1.2.2.2.2.1 j.2.2.2.2.1.2.1.2.2.2.2.2.1 j.2.2.2.2.1.2.1.2.2.2.2.2.2.1 j.2.2.2.2.1.2.1.2.2.2.2.2.2.2 j.2.2.2.2.1.2.2.1 j.2.2.2.2.1.2.2.2 j.2.2.2.2.2.1.1 j.2.2.2.2.2.1.2.1.1 j.2.2.2.2.2.1.2.1.2.1 j.2.2.2.2.2.1.2.1.2.2.1 j.2.2.2.2.2.1.2.1.2.2.2.1 j.2.2.2.2.2.1.2.1.2.2.2.2.1 j.2.2.2.2.2.1.2.1.2.2.2.2.2.1 j.2.2.2.2.2.1.2.1.2.2.2.2.2.2.1 j.2.2.2.2.2.1.2.1.2.2.2.2.2.2.2 j.2.2.2.2.2.1.2.2.1 j.2.2.2.2.2.1.2.2.2 j.2.2.2.2.2.2.1 j.2.2.2.2.2.2.2 = some (((hitJ now (ts.getD j.1.toNat t0) j rows).2.1, ()), (now, ap, ts, bs, ru, ha, hi, js, TK0.1.1, TK0.1.2, TK0.2, rows, off, ev ++ (hitJ now (ts.getD j.1.toNat t0) j rows).2.2.1, ()), flJ (hitJ now (ts.getD j.1.toNat t0) j rows).1, ()) := by
 unfold S106
 rw [ix_ok h.1 h.2]
 have hl : S30 k (now, ap, ts, bs, ru, ha, hi, js, ((TK0.1.1, TK0.1.2), TK0.2), rows, off) = some (([], ()), ()) := locks_TK0 hk
 rw [hl, Option.bind_some]
 have eg : S165 k (rd ts j.1 (0, 0, 0, [], [], [])) j [] = _ := S165_eq hk hj now rows
 refine (congrArg (fun x => Option.bind x _) eg).trans ?_
 simp only [Option.bind_some]
 rw [S39b_eq hk, Option.bind_some]
 simp only
 rw [S100a_eq (by omega), Option.bind_some]
 simp only
 show _ = some (((hitJ now (rd ts j.1 (0, 0, 0, [], [], [])) j rows).2.1, ()), (now, ap, ts, bs, ru, ha, hi, js, TK0.1.1, TK0.1.2, TK0.2, rows, off, ev ++ (hitJ now (rd ts j.1 (0, 0, 0, [], [], [])) j rows).2.2.1, ()), flJ (hitJ now (rd ts j.1 (0, 0, 0, [], [], [])) j rows).1, ())
 generalize rd ts j.1 (0, 0, 0, [], [], []) = t
 have h1 : (hitJ now t j rows).1.1 = j.1 := by
  unfold hitJ backJ
  cases j.2.2.2.1 == 2 <;> cases (j.2.2.2.1 == 0) && decide ((t.2.2.2.2.1.length : Int) > 0) <;> rfl
 unfold flJ
 have h2 : ((bif j.2.2.2.1 == 2 then 13 else bif (j.2.2.2.1 == 0) && decide ((t.2.2.2.2.1.length : Int) > 0) then 7 else 6 : Int) == 13) = (hitJ now t j rows).2.1 := by
  unfold hitJ
  cases j.2.2.2.1 == 2 <;> cases (j.2.2.2.1 == 0) && decide ((t.2.2.2.2.1.length : Int) > 0) <;> rfl
 have h3 : [(now, (bif j.2.2.2.1 == 2 then 13 else bif (j.2.2.2.1 == 0) && decide ((t.2.2.2.2.1.length : Int) > 0) then 7 else 6 : Int), j.1, 0, 0, 0)] = (hitJ now t j rows).2.2.1 := by
  unfold hitJ
  cases j.2.2.2.1 == 2 <;> cases (j.2.2.2.1 == 0) && decide ((t.2.2.2.2.1.length : Int) > 0) <;> rfl
 rw [h1, h2, h3]
end Go.Proofs.YtmmagcjlfcicfaaGreat.Ab

/- A tick of a kernel without things: whose tick it is. -/
namespace Go.Proofs.YtmmagcjlfcicfaaGreat.Ab
open Go.RowKit
set_option linter.unusedSimpArgs false
set_option linter.unusedVariables false
abbrev Pk3 : Type := Int × Int × Int
abbrev pk0 : Pk3 := (0, 0, 0)
def keyJ (n : Int) (j : Jb) : Pk3 := (bif j.2.2.2.1 == 2 then n + n + j.1 else bif j.2.2.2.2.2.2.2 then j.1 else n + j.1, 1, j.1)
def cmpI (a b : Int) : Int := bif decide (a < b) then -1 else bif decide (a > b) then 1 else 0
def cmpK (p q : Pk3) : Int := bif cmpI p.1 q.1 != 0 then cmpI p.1 q.1 else bif cmpI p.2.1 q.2.1 != 0 then cmpI p.2.1 q.2.1 else cmpI p.2.2 q.2.2
theorem S206_eq (k : Nat) (a b : Int) : S206 k a b = some ((cmpI a b, ()), ()) := by
 unfold S206 S227 cmpI
 simp only [Option.bind_some, bne_self_eq_false, cond_false]
 cases decide (a < b) with
 | true => rfl
 | false => cases decide (a > b) <;> rfl
theorem S160_eq {k : Nat} (hk : 1000 ≤ k) (p q : Pk3) : S160 k p q = some ((cmpK p q, ()), ()) := by
 unfold S160 cmpK
 rw [S206_eq, Option.bind_some, S206_eq, Option.bind_some, S206_eq, Option.bind_some]
 simp only
 generalize cmpI p.1 q.1 = a
 generalize cmpI p.2.1 q.2.1 = b
 generalize cmpI p.2.2 q.2.2 = c
 unfold S205
 obtain ⟨k, rfl⟩ : ∃ m, k = m + 4 := ⟨k - 4, by omega⟩
 rw [L205_3_s, l205_3, bif_t (by simp), ix_ok (by omega) (by simp)]
 show Option.bind (bif a != 0 then _ else _) _ = _
 cases a != 0 with
 | true => rfl
 | false =>
  rw [cond_false, cond_false, show IntKind.i64.wrap ((0 : Int) + 1) = 1 from rfl, L205_3_s, l205_3, bif_t (by simp), ix_ok (by omega) (by simp)]
  show Option.bind (bif b != 0 then _ else _) _ = _
  cases b != 0 with
  | true => rfl
  | false =>
   rw [cond_false, cond_false, show IntKind.i64.wrap ((1 : Int) + 1) = 2 from rfl, L205_3_s, l205_3, bif_t (by simp), ix_ok (by omega) (by simp)]
   show Option.bind (bif c != 0 then _ else _) _ = _
   cases hc : c != 0 with
   | true => rfl
   | false =>
    have : c = 0 := by simpa using hc
    subst this
    rw [cond_false, show IntKind.i64.wrap ((2 : Int) + 1) = 3 from rfl, L205_3_s, l205_3, bif_f (by simp)]
    rfl
theorem low_nil {k : Nat} (hk : 1000 ≤ k) (s : List (Int × Int)) (t : Int) : S202 k s [] t = some ((0, false, ()), ()) := by
 obtain ⟨k, rfl⟩ : ∃ m, k = m + 1 := ⟨k - 1, by omega⟩
 unfold S202
 rw [L202_3_s, l202_3, bif_f (by simp)]
theorem S158_eq {k : Nat} (hk : 1000 ≤ k) {j : Jb} (h : JOK j) {n : Int} (hn : 0 ≤ n ∧ n ≤ 1000) (ht : 0 ≤ j.1 ∧ j.1 ≤ 1000) : S158 k j n [] = some ((keyJ n j, ()), ()) := by
 unfold S158 S201 S225 keyJ
 rw [h.held, low_nil hk, Option.bind_some]
 simp only [cond_false, Option.bind_some]
 cases j.2.2.2.1 == 2 with
 | true =>
  simp only [cond_true, Option.bind_some]
  rw [w64 (n := n + n) (by omega) (by omega), w64 (by omega) (by omega)]
 | false =>
  simp only [cond_false]
  cases j.2.2.2.2.2.2.2 with
  | true => rfl
  | false =>
   simp only [cond_false, Option.bind_some]
   rw [w64 (by omega) (by omega)]
theorem row_set {k : Nat} {i : Nat} (hi : i < 8) : S203 k 0 (i : Int) = some ((((2 ^ i : Nat) : Int), ()), ()) := by
 have : i = 0 ∨ i = 1 ∨ i = 2 ∨ i = 3 ∨ i = 4 ∨ i = 5 ∨ i = 6 ∨ i = 7 := by omega
 rcases this with rfl | rfl | rfl | rfl | rfl | rfl | rfl | rfl <;> (show _ = _; kernel_rfl)
theorem row_first {k : Nat} (hk : 1000 ≤ k) {i : Nat} (hi : i < 8) : S204 k ((2 ^ i : Nat) : Int) = some (((i : Int), true, ()), ()) := by
 have : i = 0 ∨ i = 1 ∨ i = 2 ∨ i = 3 ∨ i = 4 ∨ i = 5 ∨ i = 6 ∨ i = 7 := by omega
 obtain ⟨k, rfl⟩ : ∃ m, k = m + 1000 := ⟨k - 1000, by omega⟩
 rcases this with rfl | rfl | rfl | rfl | rfl | rfl | rfl | rfl <;> (show _ = _; kernel_rfl)
def minG (l : List Pk3) : Nat → Nat → Nat → Nat
 | 0, _, m => m
 | d + 1, i, m => minG l d (i + 1) (if cmpK (l.getD i pk0) (l.getD m pk0) < 0 then i else m)
theorem minG_lt {l : List Pk3} : ∀ (d i m : Nat), i + d = l.length → m < l.length → minG l d i m < l.length
 | 0, _, m, _, h => h
 | d + 1, i, m, h, hm => by
  rw [minG]
  exact minG_lt d (i + 1) _ (by omega) (by split <;> omega)
theorem L159_3_eq {k : Nat} (hk : 1000 ≤ k) {l : List Pk3} (hl : l.length ≤ 8) (hd : ∀ a b, a < l.length → b < l.length → a ≠ b → cmpK (l.getD a pk0) (l.getD b pk0) ≠ 0) : ∀ (d i j m : Nat), i + d = l.length → d < j → m < i →
  L159_3 k j (l.getD m pk0).1 (l.getD m pk0).2.1 (l.getD m pk0).2.2 ((2 ^ m : Nat) : Int) l (l.length : Int) (i : Int) = some ((((minG l d i m : Nat) : Int), ()), ())
 | 0, i, j, m, h, hjj, hm => by
  obtain ⟨j', rfl⟩ : ∃ j', j = j' + 1 := ⟨j - 1, by omega⟩
  rw [L159_3_s, l159_3, bif_f (by omega), row_first hk (by omega)]
  rfl
 | d + 1, i, j, m, h, hjj, hm => by
  obtain ⟨j', rfl⟩ : ∃ j', j = j' + 1 := ⟨j - 1, by omega⟩
  have hi : i < l.length := by omega
  have hne := hd i m hi (by omega) (by omega)
  rw [L159_3_s, l159_3, bif_t (by omega), ix_nat hi, rd_nat, show ((l.getD m pk0).1, (l.getD m pk0).2.1, (l.getD m pk0).2.2) = l.getD m pk0 from rfl, S160_eq hk, Option.bind_some, minG, w64_nat (by omega)]
  simp only
  by_cases hc : cmpK (l.getD i pk0) (l.getD m pk0) < 0
  ·rw [bif_t hc, if_pos hc, row_set (by omega), Option.bind_some]
   exact L159_3_eq hk hl hd d (i + 1) j' i (by omega) (by omega) (by omega)
  ·rw [bif_f hc, if_neg hc, beq_eq_false_iff_ne.2 hne, cond_false]
   exact L159_3_eq hk hl hd d (i + 1) j' m (by omega) (by omega) (by omega)
theorem cmpK_self (p : Pk3) : cmpK p p = 0 := by
 unfold cmpK cmpI
 simp
theorem S159_eq {k : Nat} (hk : 1000 ≤ k) {l : List Pk3} (hl : l.length ≤ 8) (h0 : 0 < l.length) (hd : ∀ a b, a < l.length → b < l.length → a ≠ b → cmpK (l.getD a pk0) (l.getD b pk0) ≠ 0) : S159 k l = some ((((minG l l.length 0 0 : Nat) : Int), ()), ()) := by
 unfold S159
 obtain ⟨d, hdd⟩ : ∃ d, l.length = d + 1 := ⟨l.length - 1, by omega⟩
 obtain ⟨j, hj⟩ : ∃ j, k = j + 1 := ⟨k - 1, by omega⟩
 rw [ix_ok (by omega) (by omega)]
 conv => lhs; rw [show ∀ a b c r l n i, L159_3 k k a b c r l n i = L159_3 k (j + 1) a b c r l n i from fun a b c r l n i => by rw [← hj]]
 rw [L159_3_s, l159_3, bif_t (by omega), ix_ok (by omega) (by omega)]
 show Option.bind (S160 k (l.getD 0 pk0) (l.getD 0 pk0)) _ = _
 rw [S160_eq hk, cmpK_self, Option.bind_some]
 simp only [beq_self_eq_true, cond_true]
 rw [bif_f (by omega)]
 have := row_set (k := k) (i := 0) (by omega)
 rw [show S203 k 0 0 = _ from this, Option.bind_some, hdd, minG, if_neg (by rw [cmpK_self]; omega)]
 have e := L159_3_eq hk hl hd d 1 j 0 (by omega) (by omega) (by omega)
 rw [hdd] at e
 exact e
theorem L104_3_eq {k : Nat} (hk : 1000 ≤ k) {n : Int} (hn : 0 ≤ n ∧ n ≤ 1000) {js : List Jb} (hl : js.length ≤ 900) (hj : ∀ j ∈ js, JOK j ∧ 0 ≤ j.1 ∧ j.1 ≤ 1000) : ∀ (d i j : Nat), i + d = js.length → d < j →
  L104_3 k j n [] 0 false ((js.take i).map (keyJ n)) js (js.length : Int) (i : Int) = L104_8 k k 0 false (js.map (keyJ n)) 0
 | 0, i, j, h, hjj => by
  obtain ⟨j', rfl⟩ : ∃ j', j = j' + 1 := ⟨j - 1, by omega⟩
  rw [L104_3_s, l104_3, bif_f (by omega), List.take_of_length_le (by omega)]
 | d + 1, i, j, h, hjj => by
  obtain ⟨j', rfl⟩ : ∃ j', j = j' + 1 := ⟨j - 1, by omega⟩
  have hi : i < js.length := by omega
  have hh := hj _ (getD_mem (z := j0) hi)
  rw [L104_3_s, l104_3, bif_t (by omega), ix_nat hi, rd_nat, show js.getD i (0, 0, 0, 0, (0, prep (α := Int) 8 0, [], false), (0, prep (α := Int) 8 0, [], false), [], false) = js.getD i j0 from rfl, S158_eq hk hh.1 hn hh.2, Option.bind_some, ap_ok (by simp; omega), w64_nat (by omega)]
  have e : (js.take i).map (keyJ n) ++ [keyJ n (js.getD i j0)] = (js.take (i + 1)).map (keyJ n) := by
   rw [List.take_succ_eq_append_getElem hi, List.map_append, getD_in hi]; rfl
  rw [e]
  exact L104_3_eq hk hn hl hj d (i + 1) j' (by omega) (by omega)
def nextM (js : List Jb) (n : Int) : Nat := minG (js.map (keyJ n)) js.length 0 0
def distK (js : List Jb) (n : Int) : Prop := ∀ a b, a < js.length → b < js.length → a ≠ b → cmpK (keyJ n (js.getD a j0)) (keyJ n (js.getD b j0)) ≠ 0
theorem map_getD {α β : Type} {f : α → β} {l : List α} {i : Nat} (z : α) (w : β) (h : i < l.length) : (l.map f).getD i w = f (l.getD i z) := by
 rw [getD_in (by rw [List.length_map]; exact h), getD_in h, List.getElem_map]
theorem S104_eq {k : Nat} (hk : 1000 ≤ k) {n : Int} (hn : 0 ≤ n ∧ n ≤ 1000) {js : List Jb} (hl : js.length ≤ 8) (hj : ∀ j ∈ js, JOK j ∧ 0 ≤ j.1 ∧ j.1 ≤ 1000) (hd : distK js n) :
  S104 k js n [] = some ((((nextM js n : Nat) : Int), !(js.isEmpty), ()), ()) := by
 unfold S104
 have e := L104_3_eq hk hn (by omega) hj js.length 0 k (by omega) (by omega)
 rw [List.take_zero, List.map_nil] at e
 refine e.trans ?_
 have hlen : (js.map (keyJ n)).length = js.length := List.length_map _
 by_cases h0 : js.length = 0
 ·have : js = [] := List.eq_nil_of_length_eq_zero h0
  subst this
  obtain ⟨k, rfl⟩ : ∃ m, k = m + 1 := ⟨k - 1, by omega⟩
  rw [L104_8_s, l104_8, bif_f (by simp)]
  rfl
 ·obtain ⟨j, hjk⟩ : ∃ j, k = j + 2 := ⟨k - 2, by omega⟩
  have hf := S159_eq hk (l := js.map (keyJ n)) (by omega) (by omega) (fun a b ha hb hab => by
   rw [map_getD j0 _ (by omega), map_getD j0 _ (by omega)]
   exact hd a b (by omega) (by omega) hab)
  have hsub : sub (js.map (keyJ n)) 0 (mn (IntKind.i64.wrap (0 + 64)) ((js.map (keyJ n)).length : Int)) = js.map (keyJ n) := by
   have hm : mn (IntKind.i64.wrap (0 + 64)) ((js.map (keyJ n)).length : Int) = (js.length : Int) := by
    rw [mn_eq, w64 (by omega) (by omega)]; omega
   rw [hm]
   unfold sub
   rw [List.take_of_length_le (by rw [hlen]; omega)]; rfl
  have hmin := minG_lt (l := js.map (keyJ n)) js.length 0 0 (by omega) (by omega)
  have hem : js.isEmpty = false := by cases js with | nil => simp at h0 | cons a l => rfl
  conv => lhs; rw [show ∀ a b c d, L104_8 k k a b c d = L104_8 k (j + 1 + 1) a b c d from fun a b c d => by rw [← hjk]]
  rw [L104_8_s, l104_8, bif_t (by omega), sx_ok (by omega) (by rw [mn_eq, w64 (by omega) (by omega)]; omega) (by rw [mn_eq]; omega), hsub, hf, Option.bind_some]
  simp only [Bool.not_false, cond_true]
  rw [L104_8_s, l104_8, bif_f (by rw [w64 (by omega) (by omega)]; omega), hlen, hem, w64 (n := 0 + ((minG (js.map (keyJ n)) js.length 0 0 : Nat) : Int)) (by omega) (by omega), Int.zero_add]
  rfl
end Go.Proofs.YtmmagcjlfcicfaaGreat.Ab

/- A tick of a kernel without things, whole. -/
namespace Go.Proofs.YtmmagcjlfcicfaaGreat.Ab
open Go.RowKit
set_option linter.unusedSimpArgs false
set_option linter.unusedVariables false
theorem cmpI_zero {a b : Int} : cmpI a b = 0 ↔ a = b := by
 unfold cmpI
 by_cases h : a < b
 ·rw [bif_t h]; constructor <;> intro h2 <;> omega
 ·rw [bif_f h]
  by_cases h3 : a > b
  ·rw [bif_t h3]; constructor <;> intro h2 <;> omega
  ·rw [bif_f h3]; constructor
   ·intro _; omega
   ·intro _; rfl
theorem cmpK_zero {p q : Pk3} (h : cmpK p q = 0) : p.2.2 = q.2.2 := by
 unfold cmpK at h
 cases h1 : cmpI p.1 q.1 != 0 with
 | true => rw [h1, cond_true] at h; simp [h] at h1
 | false =>
  rw [h1, cond_false] at h
  cases h2 : cmpI p.2.1 q.2.1 != 0 with
  | true => rw [h2, cond_true] at h; simp [h] at h2
  | false => rw [h2, cond_false] at h; exact cmpI_zero.1 h
def rising (js : List Jb) : Prop := js.Pairwise (fun a b => a.1 < b.1)
theorem rising_ne {js : List Jb} (h : rising js) {a b : Nat} (ha : a < js.length) (hb : b < js.length) (hab : a ≠ b) : (js.getD a j0).1 ≠ (js.getD b j0).1 := by
 rw [getD_in ha, getD_in hb]
 have := List.pairwise_iff_getElem.1 h
 rcases Nat.lt_or_gt_of_ne hab with hl | hl
 ·have := this a b ha hb hl; omega
 ·have := this b a hb ha hl; omega
theorem rising_dist {js : List Jb} (h : rising js) (n : Int) : distK js n := fun a b ha hb hab e => rising_ne h ha hb hab (cmpK_zero e)
theorem rising_len : ∀ {js : List Jb} {lo n : Int}, rising js → (∀ j ∈ js, lo ≤ j.1 ∧ j.1 < n) → lo ≤ n → (js.length : Int) ≤ n - lo
 | [], lo, n, _, _, h => by simp; omega
 | a :: js, lo, n, h, hb, hl => by
  have h1 := List.pairwise_cons.1 h
  have ha := hb a List.mem_cons_self
  have := rising_len (lo := a.1 + 1) h1.2 (fun j hj => ⟨by have := h1.1 j hj; omega, (hb j (List.mem_cons_of_mem _ hj)).2⟩) (by omega)
  simp only [List.length_cons]; omega
theorem endS_fold (now : Int) (ts : List Tk) : ∀ (js : List Jb) (s : EndT), ∃ l, l.Sublist js ∧ (js.foldl (endS now ts) s).1 = s.1 ++ l ∧ (js.foldl (endS now ts) s).2.2.1.length = s.2.2.1.length ∧ (js.foldl (endS now ts) s).2.2.2.1.length = s.2.2.2.1.length ∧ (js.foldl (endS now ts) s).2.1.length ≤ s.2.1.length + 3 * js.length
 | [], s => ⟨[], List.Sublist.refl _, by simp, rfl, rfl, by simp⟩
 | j :: js, s => by
  rw [List.foldl_cons]
  obtain ⟨l, h1, h2, h3, h4, h5⟩ := endS_fold now ts js (endS now ts s j)
  have hw := missW_len s.2.2.1 s.2.2.2.1 j.1.toNat
  have hm := missE_len now j.1 (missW s.2.2.1 s.2.2.2.1 j.1.toNat).2
  unfold endS at h2 h3 h4 h5 ⊢
  cases hc : IntKind.i64.wrap (now - j.2.1) != (ts.getD j.1.toNat t0).2.2.1 with
  | true =>
   simp only [hc, cond_true] at h2 h3 h4 h5 ⊢
   exact ⟨j :: l, h1.cons_cons j, by rw [h2]; simp, h3, h4, by simp only [List.length_cons]; omega⟩
  | false =>
   cases hp : j.2.2.2.1 == 2 with
   | true =>
    simp only [hc, hp, cond_true, cond_false] at h2 h3 h4 h5 ⊢
    exact ⟨l, h1.cons j, h2, h3, h4, by simp only [List.length_append, List.length_cons, List.length_nil] at h5 ⊢; omega⟩
   | false =>
    simp only [hc, hp, cond_false] at h2 h3 h4 h5 ⊢
    exact ⟨l, h1.cons j, h2, by omega, by omega, by simp only [List.length_append, List.length_cons] at h5 ⊢; omega⟩
def runsM (now : Int) (ts : List Tk) (js : List Jb) (rows : List Int) (hi : Bool) : List Jb × List Ev × List Int :=
 let i := nextM js (ts.length : Int)
 let r := bif hi then hitJ now (ts.getD (js.getD i j0).1.toNat t0) (js.getD i j0) rows else goesJ now (ts.getD (js.getD i j0).1.toNat t0) (js.getD i j0) rows
 ((bif r.2.1 then js.take i ++ js.drop (i + 1) else js.set i r.1), (now, 2, (js.getD i j0).1, 0, 0, 0) :: r.2.2.1, r.2.2.2)
theorem del_set {k : Nat} {js : List Jb} {i : Nat} {x : Jb} (h : i < js.length) (hl : js.length ≤ 900) : S50 k (upd js (i : Int) x) (i : Int) (IntKind.i64.wrap ((i : Int) + 1)) = some ((js.take i ++ js.drop (i + 1), ()), ()) := by
 unfold S50 delSem
 rw [w64_nat (by omega), upd_nat]
 refine (if_pos ?_).trans ?_
 ·simp only [Bool.and_eq_true]
  refine ⟨decide_eq_true (by show (0 : Int) ≤ (i : Int); omega), decide_eq_true (by show (i : Int) ≤ ((i + 1 : Nat) : Int); omega), decide_eq_true ?_⟩
  show ((i + 1 : Nat) : Int) ≤ ((js.set i x).length : Int)
  rw [List.length_set]; omega
 ·show some (((js.set i x).take (i : Int).toNat ++ (js.set i x).drop ((i + 1 : Nat) : Int).toNat, ()), ()) = _
  rw [Int.toNat_natCast, Int.toNat_natCast, List.take_set_of_le (by omega), List.drop_set_of_lt (by omega)]
theorem S59_eq {k : Nat} (hk : 1000 ≤ k) {now ap : Int} {ts : List Tk} {bs : List Bd5} {ru ha hi : Bool} {js : List Jb} {rows : List Int} {off : List Bool} {ev : List Ev} (hL : lightL ts) (h8 : ts.length ≤ 8) (hj : ∀ j ∈ js, GOK ts j ∧ few j) (hris : rising js) (hr : rows.length = ts.length) (ho : off.length ≤ 900) (he : ev.length ≤ 5000) :
  S59 k now ap ts bs ru ha hi js TK0.1.1 TK0.1.2 TK0.2 rows off ev = some ((), (now, ap, ts, bs, ru, ha, hi, (bif ha || js.isEmpty then js else (runsM now ts js rows hi).1), TK0.1.1, TK0.1.2, TK0.2, (bif ha || js.isEmpty then rows else (runsM now ts js rows hi).2.2), off, ev ++ (bif ha || js.isEmpty then [] else (runsM now ts js rows hi).2.1), ()), ()) := by
 have hlen : (js.length : Int) ≤ (ts.length : Int) - 0 := rising_len hris (fun j h => (hj j h).1.task) (by omega)
 unfold S59
 have hl : S30 k (now, ap, ts, bs, ru, ha, hi, js, ((TK0.1.1, TK0.1.2), TK0.2), rows, off) = some (([], ()), ()) := locks_TK0 hk
 rw [hl, Option.bind_some]
 simp only
 rw [S104_eq hk ⟨by omega, by omega⟩ (by omega) (fun j h => ⟨(hj j h).1.ok, by have := (hj j h).1.task; omega⟩) (rising_dist hris _), Option.bind_some]
 simp only
 cases ha with
 | true => simp
 | false =>
  cases hem : js.isEmpty with
  | true => simp
  | false =>
   have h0 : 0 < js.length := by cases js with | nil => simp at hem | cons a l => simp
   have hmin : nextM js (ts.length : Int) < js.length := by
    have := minG_lt (l := js.map (keyJ (ts.length : Int))) js.length 0 0 (by simp) (by simpa using h0)
    simpa [nextM] using this
   have hin := hj _ (getD_mem (z := j0) hmin)
   simp only [Bool.not_false, Bool.not_true, cond_false, Bool.or_false]
   rw [ix_nat hmin, rd_nat, show js.getD (nextM js (ts.length : Int)) (0, 0, 0, 0, (0, prep (α := Int) 8 0, [], false), (0, prep (α := Int) 8 0, [], false), [], false) = js.getD (nextM js (ts.length : Int)) j0 from rfl, S100a_eq (by omega), Option.bind_some]
   simp only
   unfold runsM
   simp only
   generalize nextM js (ts.length : Int) = i at hmin hin ⊢
   generalize js.getD i j0 = j at hin ⊢
   have hevl : (ev ++ [(now, ((2 : Int), j.1, (0 : Int), (0 : Int), (0 : Int)))]).length ≤ 10000 := by simp; omega
   have tail : ∀ r : RunT, (ix js (i : Int) (bif r.2.1 then (S50 k (upd js (i : Int) r.1) (i : Int) (IntKind.i64.wrap ((i : Int) + 1))).bind (fun q => some ((), (now, ap, ts, bs, ru, false, hi, q.1.1, TK0.1.1, TK0.1.2, TK0.2, r.2.2.2, off, (ev ++ [(now, ((2 : Int), j.1, (0 : Int), (0 : Int), (0 : Int)))]) ++ r.2.2.1, ()), ())) else some ((), (now, ap, ts, bs, ru, false, hi, upd js (i : Int) r.1, TK0.1.1, TK0.1.2, TK0.2, r.2.2.2, off, (ev ++ [(now, ((2 : Int), j.1, (0 : Int), (0 : Int), (0 : Int)))]) ++ r.2.2.1, ()), ())) : Option (Unit × (Int × Int × List Tk × List Bd5 × Bool × Bool × Bool × List Jb × List Int × List Bool × List Thg × List Int × List Bool × List Ev × Unit) × Unit)) =
     some ((), (now, ap, ts, bs, ru, false, hi, (bif r.2.1 then js.take i ++ js.drop (i + 1) else js.set i r.1), TK0.1.1, TK0.1.2, TK0.2, r.2.2.2, off, ev ++ ((now, 2, j.1, 0, 0, 0) :: r.2.2.1), ()), ()) := fun r => by
    rw [ix_nat hmin, del_set hmin (by omega), Option.bind_some, upd_nat, List.append_assoc]
    cases r.2.1 <;> rfl
   cases hi with
   | true =>
    simp only [cond_true]
    rw [hits_eq hk hin.1.ok hin.1.task hevl, Option.bind_some]
    have hr2 : (hitJ now (ts.getD j.1.toNat t0) j rows).2.2.2 = rows := by
     unfold hitJ
     cases j.2.2.2.1 == 2 <;> cases (j.2.2.2.1 == 0) && decide (((ts.getD j.1.toNat t0).2.2.2.2.1.length : Int) > 0) <;> rfl
    have ht := tail (hitJ now (ts.getD j.1.toNat t0) j rows)
    rw [hr2] at ht
    rw [hr2]
    exact ht
   | false =>
    simp only [cond_false]
    rw [goes_eq hk hL hin.1 hin.2 hr ho hevl, Option.bind_some]
    exact tail (goesJ now (ts.getD j.1.toNat t0) j rows)
def tickM (K : Kn) : Kn × List Ev :=
 bif K.2.2.2.2.1 && !K.2.2.2.2.2.1 then
  let E := endsM K.1 K.2.2.1 K.2.2.2.2.2.2.2.1 K.2.2.2.2.2.2.2.2.2.1 K.2.2.2.2.2.2.2.2.2.2 K.2.2.2.2.2.1
  let js := E.1.map (promJ K.1 K.2.2.2.1)
  let R := bif E.2.2.2.2 || js.isEmpty then (js, [], E.2.2.1) else runsM K.1 K.2.2.1 js E.2.2.1 K.2.2.2.2.2.2.1
  ((IntKind.i64.wrap (K.1 + 1), K.2.1, K.2.2.1, K.2.2.2.1, K.2.2.2.2.1, E.2.2.2.2, false, R.1, K.2.2.2.2.2.2.2.2.1, R.2.2, E.2.2.2.1), E.2.1 ++ R.2.1)
 else ((IntKind.i64.wrap (K.1 + 1), K.2.1, K.2.2.1, K.2.2.2.1, K.2.2.2.2.1, K.2.2.2.2.2.1, false, K.2.2.2.2.2.2.2), [])
structure KI (K : Kn) : Prop where
 tab : K.2.2.2.2.2.2.2.2.1 = TK0
 tasks : lightL K.2.2.1
 few8 : K.2.2.1.length ≤ 8
 bounds : K.2.2.2.1.length = K.2.2.1.length
 rows : K.2.2.2.2.2.2.2.2.2.1.length = K.2.2.1.length
 off : K.2.2.2.2.2.2.2.2.2.2.length = K.2.2.1.length
 job : ∀ j ∈ K.2.2.2.2.2.2.2.1, GOK K.2.2.1 j ∧ few j
 ris : rising K.2.2.2.2.2.2.2.1
theorem KI.len {K : Kn} (h : KI K) : K.2.2.2.2.2.2.2.1.length ≤ 8 := by
 have := rising_len h.ris (fun j hj => (h.job j hj).1.task) (by omega)
 have := h.few8
 omega
theorem KI.kok {K : Kn} (h : KI K) : KOK K := ⟨h.tab, h.tasks, by have := h.bounds; have := h.few8; omega, by have := h.len; omega, fun j hj => (h.job j hj).1.ok, by have := h.rows; have := h.few8; omega, by have := h.off; have := h.few8; omega⟩
theorem promJ_task (now : Int) (bs : List Bd5) (j : Jb) : (promJ now bs j).1 = j.1 ∧ (promJ now bs j).2.1 = j.2.1 ∧ (promJ now bs j).2.2.1 = j.2.2.1 ∧ (promJ now bs j).2.2.2.1 = j.2.2.2.1 ∧ (promJ now bs j).2.2.2.2.1 = j.2.2.2.2.1 ∧ (promJ now bs j).2.2.2.2.2.1 = j.2.2.2.2.2.1 ∧ (promJ now bs j).2.2.2.2.2.2.1 = j.2.2.2.2.2.2.1 := by
 unfold promJ
 cases j.2.2.2.1 != 2 with
 | false => simp
 | true => rw [cond_true]; cases decide (IntKind.i64.wrap (now - j.2.1) ≥ (bs.getD j.1.toNat (prep (α := Int) 5 0)).2.2.2.2) <;> simp
theorem promJ_ok {ts : List Tk} {now : Int} {bs : List Bd5} {j : Jb} (h : GOK ts j ∧ few j) : GOK ts (promJ now bs j) ∧ few (promJ now bs j) := by
 obtain ⟨e1, e2, e3, e4, e5, e6, e7⟩ := promJ_task now bs j
 refine ⟨⟨⟨by rw [e7]; exact h.1.ok.held, by rw [e5]; exact h.1.ok.m, by rw [e6]; exact h.1.ok.kept⟩, by rw [e1]; exact h.1.task, by rw [e4]; exact h.1.phase, by rw [e1, e4, e5]; exact h.1.m⟩, ?_⟩
 unfold few
 rw [e5, e6]; exact h.2
theorem rising_map {f : Jb → Jb} (hf : ∀ j, (f j).1 = j.1) {js : List Jb} (h : rising js) : rising (js.map f) := by
 unfold rising
 rw [List.pairwise_map]
 exact List.Pairwise.imp (fun {a b} hab => by rw [hf, hf]; exact hab) h
theorem S23_eq {k : Nat} (hk : 1000 ≤ k) {K : Kn} (h : KI K) : S23 k K = some (((tickM K).1, (tickM K).2, ()), ()) := by
 have hkok := h.kok
 have hl8 := h.len
 obtain ⟨now, ap, ts, bs, ru, ha, hi, js, T, rows, off⟩ := K
 have e : T = TK0 := h.tab
 subst e
 have h1 : lightL ts := h.tasks
 have h2 : ts.length ≤ 8 := h.few8
 have h3 : bs.length = ts.length := h.bounds
 have h4 : rows.length = ts.length := h.rows
 have h5 : off.length = ts.length := h.off
 have h6 : ∀ j ∈ js, GOK ts j ∧ few j := h.job
 have h7 : rising js := h.ris
 have h8 : js.length ≤ 8 := hl8
 unfold S23 tickM
 rw [S34_eq hk hkok, Option.bind_some]
 simp only
 cases ru with
 | false => rfl
 | true =>
  cases ha with
  | true => rfl
  | false =>
   simp only [cond_true, Bool.not_false, Bool.and_self]
   rw [S56_eq hk (by omega) (fun j hj => (h6 j hj).1.task) (by omega) h4 h5, Option.bind_some]
   simp only
   obtain ⟨l, g1, g2, g3, g4, g5⟩ := endS_fold now ts js ([], [], rows, off, false)
   rw [show js.foldl (endS now ts) ([], [], rows, off, false) = endsM now ts js rows off false from rfl] at g2 g3 g4 g5
   simp only [List.nil_append, List.length_nil] at g2 g3 g4 g5
   generalize endsM now ts js rows off false = E at g2 g3 g4 g5 ⊢
   have hE : ∀ j ∈ E.1, GOK ts j ∧ few j := fun j hj => h6 j (g1.subset (by rw [← g2]; exact hj))
   have hEr : rising E.1 := by rw [g2]; exact List.Pairwise.sublist g1 h7
   have hEl : E.1.length ≤ 8 := by rw [g2]; have := g1.length_le; omega
   rw [S57_eq hk (by omega) (fun j hj => by rw [h3]; exact (hE j hj).1.task), Option.bind_some]
   simp only
   rw [S58_eq hk, Option.bind_some]
   simp only
   rw [S59_eq hk h1 h2 (fun j hj => by
    obtain ⟨x, hx, rfl⟩ := List.mem_map.1 hj
    exact promJ_ok (hE x hx)) (rising_map (fun j => (promJ_task now bs j).1) hEr) (by omega) (by omega) (by omega), Option.bind_some]
   simp only
   cases E.2.2.2.2 || (E.1.map (promJ now bs)).isEmpty <;> rfl
end Go.Proofs.YtmmagcjlfcicfaaGreat.Ab

/- A kernel without things: one is released. -/
namespace Go.Proofs.YtmmagcjlfcicfaaGreat.Ab
open Go.RowKit
set_option linter.unusedSimpArgs false
set_option linter.unusedVariables false
def posJ (p : Int) : List Jb → Nat
 | [] => 0
 | j :: l => bif decide (j.1 < p) then posJ p l + 1 else 0
theorem posJ_unique (p : Int) : ∀ (l : List Jb) (n : Nat), n ≤ l.length → (∀ a, a < n → (l.getD a j0).1 < p) → (n < l.length → ¬ (l.getD n j0).1 < p) → posJ p l = n
 | [], n, h, _, _ => by simp at h; rw [h]; rfl
 | x :: l, 0, _, _, h2 => by
  have h3 : ¬ x.1 < p := h2 (by simp)
  rw [posJ, decide_eq_false h3, cond_false]
 | x :: l, n + 1, h, h1, h2 => by
  have h3 : x.1 < p := h1 0 (by omega)
  rw [posJ, decide_eq_true h3, cond_true, posJ_unique p l n (by simpa using h) (fun a ha => h1 (a + 1) (by omega)) (fun hn => h2 (by simpa using hn))]
theorem posJ_le (p : Int) : ∀ l : List Jb, posJ p l ≤ l.length
 | [] => Nat.le_refl _
 | x :: l => by
  rw [posJ]
  cases decide (x.1 < p) with
  | true => rw [cond_true, List.length_cons]; have := posJ_le p l; omega
  | false => rw [cond_false]; omega
theorem half16 : ∀ n : Fin 17, IntKind.i64.wrap (ishr .u64 (IntKind.u64.wrap (IntKind.i64.wrap ((n.1 : Nat) : Int))) 1) = ((n.1 / 2 : Nat) : Int) := by decide
theorem half_nat {a b : Nat} (h : a + b ≤ 16) : IntKind.i64.wrap (ishr .u64 (IntKind.u64.wrap (IntKind.i64.wrap ((a : Int) + (b : Int)))) 1) = (((a + b) / 2 : Nat) : Int) := by
 have := half16 ⟨a + b, by omega⟩
 simpa using this
theorem L95_3_eq {k : Nat} {js : List Jb} {p : Int} (hl : js.length ≤ 8) (hp : 0 ≤ p ∧ p ≤ 1000) (ht : ∀ j ∈ js, 0 ≤ j.1 ∧ j.1 ≤ 1000) (hr : rising js) : ∀ (m fu a b : Nat), b - a ≤ m → m < fu → a ≤ b → b ≤ js.length → (∀ c, c < a → (js.getD c j0).1 < p) → (∀ c, b ≤ c → c < js.length → p ≤ (js.getD c j0).1) →
  L95_3 k fu js p (js.length : Int) (a : Int) (b : Int) = some ((((posJ p js : Nat) : Int), decide (posJ p js < js.length) && (js.getD (posJ p js) j0).1 == p, ()), ())
 | m, fu, a, b, hm, hf, hab, hb, h1, h2 => by
  obtain ⟨f, rfl⟩ : ∃ f, fu = f + 1 := ⟨fu - 1, by omega⟩
  rw [L95_3_s, l95_3]
  by_cases h : a < b
  ·obtain ⟨m', rfl⟩ : ∃ m', m = m' + 1 := ⟨m - 1, by omega⟩
   have hc : (a + b) / 2 < js.length := by omega
   have hb2 := ht _ (getD_mem (z := j0) hc)
   rw [bif_t (by omega), half_nat (by omega), ix_nat hc, rd_nat, show js.getD ((a + b) / 2) (0, 0, 0, 0, (0, prep (α := Int) 8 0, [], false), (0, prep (α := Int) 8 0, [], false), [], false) = js.getD ((a + b) / 2) j0 from rfl]
   unfold S96
   rw [Option.bind_some, w64 (by omega) (by omega)]
   simp only
   have hmono : ∀ x y, x < y → y < js.length → (js.getD x j0).1 < (js.getD y j0).1 := fun x y hxy hy => by
    rw [getD_in (by omega), getD_in hy]; exact List.pairwise_iff_getElem.1 hr x y (by omega) hy hxy
   by_cases e : (js.getD ((a + b) / 2) j0).1 - p < 0
   ·rw [bif_t e, w64_nat (by omega)]
    exact L95_3_eq hl hp ht hr m' f ((a + b) / 2 + 1) b (by omega) (by omega) (by omega) hb (fun c hc2 => by
     by_cases e2 : c = (a + b) / 2
     ·subst e2; omega
     ·have := hmono c ((a + b) / 2) (by omega) hc; omega) h2
   ·rw [bif_f e]
    exact L95_3_eq hl hp ht hr m' f a ((a + b) / 2) (by omega) (by omega) (by omega) (by omega) h1 (fun c hc2 hc3 => by
     by_cases e2 : c = (a + b) / 2
     ·subst e2; omega
     ·have := hmono ((a + b) / 2) c (by omega) hc3; omega)
  ·have hba : b = a := by omega
   subst hba
   have hpos : posJ p js = b := posJ_unique p js b hb h1 (fun hn => by have := h2 b (by omega) hn; omega)
   rw [bif_f (by omega), hpos]
   by_cases h3 : b < js.length
   ·have hb2 := ht _ (getD_mem (z := j0) h3)
    rw [bif_t (by omega), ix_nat h3, rd_nat, show js.getD b (0, 0, 0, 0, (0, prep (α := Int) 8 0, [], false), (0, prep (α := Int) 8 0, [], false), [], false) = js.getD b j0 from rfl]
    unfold S96
    rw [Option.bind_some, w64 (by omega) (by omega), decide_eq_true h3, Bool.true_and]
    simp only
    congr 3
    by_cases e : (js.getD b j0).1 = p
    ·rw [e]; simp
    ·rw [beq_eq_false_iff_ne.2 e, beq_eq_false_iff_ne.2 (by omega)]
   ·rw [bif_f (by omega), decide_eq_false h3]; rfl
def newJ (p now a : Int) : Jb := (p, now, a, 0, newM a, newM a, [], false)
def withJ (K : Kn) (js : List Jb) : Kn := (K.1, K.2.1, K.2.2.1, K.2.2.2.1, K.2.2.2.2.1, K.2.2.2.2.2.1, K.2.2.2.2.2.2.1, js, K.2.2.2.2.2.2.2.2)
def relM (K : Kn) (p a : Int) : Kn × List Ev × Int :=
 bif !K.2.2.2.2.1 then (K, [], 8)
 else bif K.2.2.2.2.2.1 then (K, [], 17)
 else bif decide (p < 0) || decide (p ≥ (K.2.2.1.length : Int)) then (K, [], 3)
 else bif K.2.2.2.2.2.2.2.2.2.2.getD p.toNat false then (K, [], 6)
 else
  let js := K.2.2.2.2.2.2.2.1
  let i := posJ p js
  bif decide (i < js.length) && (js.getD i j0).1 == p then
   (bif (js.getD i j0).2.2.2.1 != 2 then (K, [], 5)
       else (withJ K (js.take i ++ [newJ p K.1 a] ++ js.drop (i + 1)), [(K.1, 13, p, 0, 0, 0), (K.1, 1, p, 0, a, 0)], 0))
  else (withJ K (js.take i ++ [newJ p K.1 a] ++ js.drop i), [(K.1, 1, p, 0, a, 0)], 0)
theorem ins_at {k : Nat} {js : List Jb} {i : Nat} {x : Jb} (h : i ≤ js.length) (hl : js.length ≤ 900) : S51 k js (i : Int) [x] = some ((js.take i ++ [x] ++ js.drop i, ()), ()) := by
 unfold S51 insSem
 refine if_pos ?_
 simp only [Bool.and_eq_true]
 refine ⟨decide_eq_true (Int.natCast_nonneg i), decide_eq_true (Int.ofNat_le.2 h), decide_eq_true ?_⟩
 show (js.length + 1) * _ ≤ _
 omega
theorem del_at {k : Nat} {js : List Jb} {i : Nat} (h : i < js.length) (hl : js.length ≤ 900) : S50 k js (i : Int) (IntKind.i64.wrap ((i : Int) + 1)) = some ((js.take i ++ js.drop (i + 1), ()), ()) := by
 have := del_set (k := k) (x := js.getD i j0) h hl
 rwa [upd_nat, set_same] at this
theorem j20_17_eq {k : Nat} {p a now ap : Int} {ts : List Tk} {bs : List Bd5} {ru ha hi : Bool} {js : List Jb} {g : List Int} {l : List Bool} {u : List Thg} {rows : List Int} {off : List Bool} {x1 x2 : Int} {x3 x4 x5 : Bool} {ev : List Ev} {i : Nat} (h : i ≤ js.length) (hl : js.length ≤ 900) (he : ev.length ≤ 10) :
  j20_17 k p a now ap ts bs ru ha hi js g l u rows off x1 x2 x3 x4 x5 ev (i : Int) = some (((now, ap, ts, bs, ru, ha, hi, js.take i ++ [newJ p now a] ++ js.drop i, ((g, l), u), rows, off), ev ++ [(now, 1, p, 0, a, 0)], 0, ()), ()) := by
 unfold j20_17 S52 S99
 simp only [Option.bind_some]
 have e := ins_at (k := k) (x := newJ p now a) h hl
 unfold newJ newM at e ⊢
 rw [e, Option.bind_some, ap_ok (by simp; omega)]
theorem S20_eq {k : Nat} (hk : 1000 ≤ k) {K : Kn} (h : KI K) (p a : Int) : S20 k K p a = some (((relM K p a).1, (relM K p a).2.1, (relM K p a).2.2, ()), ()) := by
 have hkok := h.kok
 have hl8 := h.len
 obtain ⟨now, ap, ts, bs, ru, ha, hi, js, T, rows, off⟩ := K
 have e : T = TK0 := h.tab
 subst e
 have h2 : ts.length ≤ 8 := h.few8
 have h5 : off.length = ts.length := h.off
 have h6 : ∀ j ∈ js, GOK ts j ∧ few j := h.job
 have h7 : rising js := h.ris
 have h8 : js.length ≤ 8 := hl8
 unfold S20 relM
 rw [S34_eq hk hkok, Option.bind_some]
 simp only
 cases ru with
 | false => rfl
 | true =>
  cases ha with
  | true => rfl
  | false =>
   simp only [Bool.not_true, cond_false]
   by_cases hp1 : p < 0
   ·rw [bif_t hp1, decide_eq_true hp1]; rfl
   ·rw [bif_f hp1, decide_eq_false hp1, Bool.false_or]
    by_cases hp2 : p ≥ (ts.length : Int)
    ·rw [bif_t hp2, decide_eq_true hp2]; rfl
    ·obtain ⟨n, rfl⟩ : ∃ n : Nat, p = (n : Int) := ⟨p.toNat, by omega⟩
     rw [bif_f hp2, decide_eq_false hp2, cond_false, bif_t (by omega), ix_nat (by omega), rd_nat, Int.toNat_natCast]
     cases off.getD n false with
     | true => rfl
     | false =>
      simp only [cond_false]
      have hfind := L95_3_eq (k := k) (p := (n : Int)) h8 (by omega) (fun j hj => by have := (h6 j hj).1.task; omega) h7 js.length k 0 js.length (by omega) (by omega) (by omega) (by omega) (fun c hc => by omega) (fun c hc hc2 => by omega)
      have hle := posJ_le (n : Int) js
      unfold j20_10 S49 S95
      simp only
      rw [show L95_3 k k js (n : Int) (js.length : Int) 0 (js.length : Int) = _ from hfind]
      simp only [Option.bind_some]
      cases hc : decide (posJ (n : Int) js < js.length) && (js.getD (posJ (n : Int) js) j0).1 == (n : Int) with
      | false =>
       simp only [cond_false]
       rw [j20_17_eq hle (by omega) (by simp)]
       rfl
      | true =>
       have hlt : posJ (n : Int) js < js.length := by
        rw [Bool.and_eq_true] at hc; exact of_decide_eq_true hc.1
       simp only [cond_true]
       rw [ix_nat hlt, rd_nat, show js.getD (posJ (n : Int) js) (0, 0, 0, 0, (0, prep (α := Int) 8 0, [], false), (0, prep (α := Int) 8 0, [], false), [], false) = js.getD (posJ (n : Int) js) j0 from rfl]
       cases (js.getD (posJ (n : Int) js) j0).2.2.2.1 != 2 with
       | true => rfl
       | false =>
        simp only [cond_false]
        rw [ap_ok (by simp), del_at hlt (by omega), Option.bind_some]
        simp only [List.nil_append]
        rw [j20_17_eq (by simp; omega) (by simp; omega) (by simp)]
        have ht : (js.take (posJ (n : Int) js) ++ js.drop (posJ (n : Int) js + 1)).take (posJ (n : Int) js) = js.take (posJ (n : Int) js) := by
         rw [List.take_append_of_le_length (by simp; omega), List.take_take, Nat.min_self]
        have hd : (js.take (posJ (n : Int) js) ++ js.drop (posJ (n : Int) js + 1)).drop (posJ (n : Int) js) = js.drop (posJ (n : Int) js + 1) := by
         rw [List.drop_append_of_le_length (by simp; omega), List.drop_eq_nil_of_le (by simp; omega), List.nil_append]
        rw [ht, hd]
        rfl
end Go.Proofs.YtmmagcjlfcicfaaGreat.Ab

/- Who is hit again and again misses at just its end, and is stopped when it has missed twice in a row. -/
namespace Go.Proofs.YtmmagcjlfcicfaaGreat.Ab
open Go.RowKit
set_option linter.unusedSimpArgs false
set_option linter.unusedVariables false
abbrev cM (c : Nat) : List I4 := List.replicate (c - 1) (1, 0, 0, 0) ++ [(0, 0, 0, 0)]
abbrev tM (c : Nat) (e : Int) : Tk := (1, e, e, cM c, [], [])
theorem in_tM {k : Nat} (hk : 20000 ≤ k) {c : Nat} (hc : 2 ≤ c ∧ c ≤ 6) {e : Int} (he : 2 * (c : Int) ≤ e ∧ e ≤ 2 * (c : Int) + 8) : S28 k [] (tM c e) 10000 = some (([tM c e], [((c : Int), (c : Int), 0, 2 * (c : Int), e - 2 * (c : Int))], 0, ()), ()) := by
 obtain ⟨k, rfl⟩ : ∃ m, k = m + 20000 := ⟨k - 20000, by omega⟩
 obtain ⟨b, hb, rfl⟩ : ∃ b : Nat, b ≤ 8 ∧ e = 2 * (c : Int) + (b : Int) := ⟨(e - 2 * (c : Int)).toNat, by omega, by omega⟩
 have h1 : c = 2 ∨ c = 3 ∨ c = 4 ∨ c = 5 ∨ c = 6 := by omega
 have h2 : b = 0 ∨ b = 1 ∨ b = 2 ∨ b = 3 ∨ b = 4 ∨ b = 5 ∨ b = 6 ∨ b = 7 ∨ b = 8 := by omega
 rcases h1 with rfl | rfl | rfl | rfl | rfl <;> rcases h2 with rfl | rfl | rfl | rfl | rfl | rfl | rfl | rfl | rfl <;> (show _ = _; kernel_rfl)
theorem beq6 (a b c d e f : Int) : beqD (arrT 6 (.int .i64)) (a, b, c, d, e, f) (a, b, c, d, e, f) = true := by simp [beqD]
def jM (at_ : Int) (up : Bool) : Jb := (0, at_, 3, 0, newM 3, newM 3, [], up)
def oneO (now : Int) (t : Tk) (b : Bd5) (ha hi : Bool) (js : List Jb) (rows : List Int) (off : List Bool) : Kn := (now, 10000, [t], [b], true, ha, hi, js, TK0, rows, off)
theorem cM_len {c : Nat} (hc : 2 ≤ c) : (cM c).length = c := by simp; omega
theorem tM_light {c : Nat} (hc : 2 ≤ c ∧ c ≤ 6) (e : Int) : lightL [tM c e] := ⟨by simp, fun x hx => by
 rw [List.mem_singleton] at hx
 rw [hx]
 refine ⟨⟨?_, by simp, by simp⟩, ?_⟩
 ·show (cM c).length ≤ 900
  rw [cM_len hc.1]; omega
 ·show (cM c ++ []).length ≤ 900
  rw [List.append_nil, cM_len hc.1]; omega⟩
theorem cM_head {c : Nat} (hc : 2 ≤ c) : (cM c).getD 0 i0 = (1, 0, 0, 0) := by
 obtain ⟨n, rfl⟩ : ∃ n, c = n + 2 := ⟨c - 2, by omega⟩
 rfl
theorem jM_gok {c : Nat} (hc : 2 ≤ c ∧ c ≤ 6) (e at_ : Int) (up : Bool) : GOK [tM c e] (jM at_ up) ∧ few (jM at_ up) := by
 refine ⟨⟨⟨rfl, by simp [jM, newM], by simp [jM, newM]⟩, by simp [jM], by simp [jM], ?_⟩, by simp [few, jM, newM]⟩
 have hx : stepX (cM c) (newM 3) = (1, 0, 0, 0) := cM_head hc.1
 show MOK (cM c) (newM 3)
 refine ⟨by rw [cM_len hc.1]; omega, ⟨by simp [newM], by rw [cM_len hc.1]; simp [newM]; omega⟩, by rw [hx]; decide, by simp [newM], by simp [newM], mem0_in 3 (by unfold inR; omega), rfl, by rw [hx]; exact ⟨by decide, by decide⟩⟩
theorem kiM {c : Nat} (hc : 2 ≤ c ∧ c ≤ 6) (e now at_ : Int) (b : Bd5) (ha hi up : Bool) (r : Int) (o : Bool) : KI (oneO now (tM c e) b ha hi [jM at_ up] [r] [o]) :=
 ⟨rfl, tM_light hc e, by simp [oneO], rfl, rfl, rfl, (fun x h => by
  have : x = jM at_ up := by simpa [oneO] using h
  rw [this]; exact jM_gok hc e at_ up), List.pairwise_singleton _ _⟩
theorem kiM0 {c : Nat} (hc : 2 ≤ c ∧ c ≤ 6) (e now : Int) (b : Bd5) (ha hi : Bool) (r : Int) (o : Bool) : KI (oneO now (tM c e) b ha hi [] [r] [o]) :=
 ⟨rfl, tM_light hc e, by simp [oneO], rfl, rfl, rfl, (fun x h => by cases h), List.Pairwise.nil⟩
theorem prom_jM (now at_ : Int) (bs : List Bd5) (up : Bool) : ∃ up2, promJ now bs (jM at_ up) = jM at_ up2 := by
 unfold promJ jM
 simp only
 rw [show ((0 : Int) != 2) = true from rfl, cond_true]
 cases decide (IntKind.i64.wrap (now - at_) ≥ (bs.getD (0 : Int).toNat (prep (α := Int) 5 0)).2.2.2.2) with
 | true => exact ⟨true, rfl⟩
 | false => exact ⟨up, rfl⟩
theorem tick_hit {c : Nat} {e now at_ : Int} {b : Bd5} {up : Bool} {r : Int} (h : IntKind.i64.wrap (now - at_) ≠ e) : ∃ up2, tickM (oneO now (tM c e) b false true [jM at_ up] [r] [false]) = (oneO (IntKind.i64.wrap (now + 1)) (tM c e) b false false [jM at_ up2] [r] [false], [(now, 2, 0, 0, 0, 0), (now, 6, 0, 0, 0, 0)]) := by
 obtain ⟨up2, e2⟩ := prom_jM now at_ [b] up
 refine ⟨up2, ?_⟩
 have e1 : endsM now [tM c e] [jM at_ up] [r] [false] false = ([jM at_ up], [], [r], [false], false) := by
  unfold endsM
  rw [List.foldl_cons, List.foldl_nil]
  unfold endS
  rw [show ([tM c e].getD (jM at_ up).1.toNat t0) = tM c e from rfl, show (jM at_ up).2.1 = at_ from rfl, bne_iff_ne.2 h, cond_true]; rfl
 unfold tickM oneO
 simp only [Bool.not_false, Bool.and_self, cond_true]
 rw [e1]
 simp only [List.map_cons, List.map_nil, List.isEmpty_cons, Bool.or_self, cond_false]
 rw [e2]
 unfold runsM
 simp only [List.length_cons, List.length_nil]
 rw [show nextM [jM at_ up2] ((0 + 1 : Nat) : Int) = 0 from by
  unfold nextM
  show minG [keyJ _ (jM at_ up2)] 1 0 0 = 0
  rw [minG, if_neg (by rw [cmpK_self]; omega)]; rfl]
 rfl
theorem tick_miss0 {c : Nat} {e now at_ : Int} {b : Bd5} {up : Bool} (h : IntKind.i64.wrap (now - at_) = e) : tickM (oneO now (tM c e) b false true [jM at_ up] [0] [false]) = (oneO (IntKind.i64.wrap (now + 1)) (tM c e) b false false [] [1] [false], [(now, 5, 0, 0, 0, 0)]) := by
 have e1 : endsM now [tM c e] [jM at_ up] [0] [false] false = ([], [(now, 5, 0, 0, 0, 0)], [1], [false], false) := by
  unfold endsM
  rw [List.foldl_cons, List.foldl_nil]
  unfold endS
  rw [show ([tM c e].getD (jM at_ up).1.toNat t0) = tM c e from rfl, show (jM at_ up).2.1 = at_ from rfl, h, show (e != (tM c e).2.2.1) = false from bne_self_eq_false _, cond_false]; rfl
 unfold tickM oneO
 simp only [Bool.not_false, Bool.and_self, cond_true]
 rw [e1]
 rfl
theorem tick_miss1 {c : Nat} {e now at_ : Int} {b : Bd5} {up : Bool} (h : IntKind.i64.wrap (now - at_) = e) : tickM (oneO now (tM c e) b false true [jM at_ up] [1] [false]) = (oneO (IntKind.i64.wrap (now + 1)) (tM c e) b true false [] [2] [true], [(now, 5, 0, 0, 0, 0), (now, 9, 0, 0, 0, 0), (now, 10, 0, 0, 0, 0)]) := by
 have e1 : endsM now [tM c e] [jM at_ up] [1] [false] false = ([], [(now, 5, 0, 0, 0, 0), (now, 9, 0, 0, 0, 0), (now, 10, 0, 0, 0, 0)], [2], [true], true) := by
  unfold endsM
  rw [List.foldl_cons, List.foldl_nil]
  unfold endS
  rw [show ([tM c e].getD (jM at_ up).1.toNat t0) = tM c e from rfl, show (jM at_ up).2.1 = at_ from rfl, h, show (e != (tM c e).2.2.1) = false from bne_self_eq_false _, cond_false]; rfl
 unfold tickM oneO
 simp only [Bool.not_false, Bool.and_self, cond_true]
 rw [e1]
 rfl
theorem tick_of {k : Nat} (hk : 1000 ≤ k) {K K2 : Kn} {ev : List Ev} (h : KI K) (e : tickM K = (K2, ev)) : S23 k K = some ((K2, ev, ()), ()) := by
 rw [S23_eq hk h, e]
theorem L6_31_eq {k : Nat} (hk : 1000 ≤ k) {g21 : Int → Int → Int → Int → (List Tk) → (List Bd5) → Bool → Bool → Bool → (List Jb) → (List Int) → (List Bool) → (List Thg) → (List Int) → (List Bool) → Int → Option ((Bool × Unit) × Unit)} {c : Nat} (hc : 2 ≤ c ∧ c ≤ 6) {E at_ : Nat} (hE : E ≤ 100) (ha : at_ ≤ 1000) {b : Bd5} {gs : Int} {g : Nat} (hg : g ≤ 1) : ∀ (d i fu : Nat) (up : Bool), i + d = E → d + 1 < fu →
  L6_31 k g21 fu gs (E : Int) ((at_ + i : Nat) : Int) 10000 [tM c E] [b] true false false [jM at_ up] TK0.1.1 TK0.1.2 TK0.2 [(g : Int)] [false] (g : Int) (at_ : Int) (i : Int) =
   g21 gs (E : Int) ((at_ + E + 1 : Nat) : Int) 10000 [tM c E] [b] true (g == 1) false [] TK0.1.1 TK0.1.2 TK0.2 [((g + 1 : Nat) : Int)] [g == 1] ((g + 1 : Nat) : Int)
 | 0, i, fu, up, h, hf => by
  obtain ⟨f, rfl⟩ : ∃ f, fu = f + 2 := ⟨fu - 2, by omega⟩
  have hi : i = E := by omega
  subst hi
  have hw : IntKind.i64.wrap (((at_ + i : Nat) : Int) - (at_ : Int)) = (i : Int) := by rw [w64 (by omega) (by omega)]; omega
  have hn : IntKind.i64.wrap (((at_ + i : Nat) : Int) + 1) = ((at_ + i + 1 : Nat) : Int) := w64_nat (by omega)
  have hki := kiM hc (i : Int) ((at_ + i : Nat) : Int) (at_ : Int) b false true up (g : Int) false
  have hg2 : g = 0 ∨ g = 1 := by omega
  rw [L6_31_s, l6_31, bif_t (by omega)]
  rcases hg2 with rfl | rfl
  ·have et := tick_of hk hki (tick_miss0 hw)
   rw [hn] at et
   unfold oneO at et
   rw [show S23 k (((at_ + i : Nat) : Int), 10000, [tM c i], [b], true, false, true, [jM at_ up], ((TK0.1.1, TK0.1.2), TK0.2), [((0 : Nat) : Int)], [false]) = _ from et, Option.bind_some]
   simp only
   rw [hn]
   simp only [bne_self_eq_false, cond_false]
   rw [bif_f (by omega), show ((([(((at_ + i : Nat) : Int), (5 : Int), (0 : Int), (0 : Int), (0 : Int), (0 : Int))] : List Ev).length : Int) != IntKind.i64.wrap (1 + IntKind.i64.wrap (2 * ((0 : Nat) : Int)))) = false from rfl, cond_false, ix_ok (by omega) (by simp), w64 (n := (at_ : Int) + (i : Int)) (by omega) (by omega)]
   rw [show beqD (arrT 6 (.int .i64)) (rd ([(((at_ + i : Nat) : Int), (5 : Int), (0 : Int), (0 : Int), (0 : Int), (0 : Int))] : List Ev) 0 (prep (α := Int) 6 0)) ((at_ : Int) + (i : Int), 5, 0, 0, 0, 0) = true from by
    show beqD (arrT 6 (.int .i64)) (((at_ + i : Nat) : Int), (5 : Int), (0 : Int), (0 : Int), (0 : Int), (0 : Int)) ((at_ : Int) + (i : Int), 5, 0, 0, 0, 0) = true
    rw [show ((at_ + i : Nat) : Int) = (at_ : Int) + (i : Int) by omega]
    exact beq6 _ _ _ _ _ _]
   simp only [Bool.not_true, cond_false]
   rw [show ((((0 : Nat) : Int)) == 1) = false from rfl, cond_false, w64_nat (by omega), L6_31_s, l6_31, bif_f (by omega), w64_nat (by omega)]
   rfl
  ·have et := tick_of hk hki (tick_miss1 hw)
   rw [hn] at et
   unfold oneO at et
   rw [show S23 k (((at_ + i : Nat) : Int), 10000, [tM c i], [b], true, false, true, [jM at_ up], ((TK0.1.1, TK0.1.2), TK0.2), [((1 : Nat) : Int)], [false]) = _ from et, Option.bind_some]
   simp only
   rw [hn]
   simp only [bne_self_eq_false, cond_false]
   rw [bif_f (by omega), show ((([(((at_ + i : Nat) : Int), (5 : Int), (0 : Int), (0 : Int), (0 : Int), (0 : Int)), (((at_ + i : Nat) : Int), (9 : Int), (0 : Int), (0 : Int), (0 : Int), (0 : Int)), (((at_ + i : Nat) : Int), (10 : Int), (0 : Int), (0 : Int), (0 : Int), (0 : Int))] : List Ev).length : Int) != IntKind.i64.wrap (1 + IntKind.i64.wrap (2 * ((1 : Nat) : Int)))) = false from rfl, cond_false, ix_ok (by omega) (by simp), w64 (n := (at_ : Int) + (i : Int)) (by omega) (by omega)]
   rw [show beqD (arrT 6 (.int .i64)) (rd ([(((at_ + i : Nat) : Int), (5 : Int), (0 : Int), (0 : Int), (0 : Int), (0 : Int)), (((at_ + i : Nat) : Int), (9 : Int), (0 : Int), (0 : Int), (0 : Int), (0 : Int)), (((at_ + i : Nat) : Int), (10 : Int), (0 : Int), (0 : Int), (0 : Int), (0 : Int))] : List Ev) 0 (prep (α := Int) 6 0)) ((at_ : Int) + (i : Int), 5, 0, 0, 0, 0) = true from by
    show beqD (arrT 6 (.int .i64)) (((at_ + i : Nat) : Int), (5 : Int), (0 : Int), (0 : Int), (0 : Int), (0 : Int)) ((at_ : Int) + (i : Int), 5, 0, 0, 0, 0) = true
    rw [show ((at_ + i : Nat) : Int) = (at_ : Int) + (i : Int) by omega]
    exact beq6 _ _ _ _ _ _]
   simp only [Bool.not_true, cond_false]
   rw [show ((((1 : Nat) : Int)) == 1) = true from rfl, cond_true, ix_ok (by omega) (by simp), show ∀ (x y z : Ev), rd [x, y, z] 1 (prep (α := Int) 6 0) = y from fun x y z => rfl]
   simp only [bne_self_eq_false, cond_false]
   rw [ix_ok (by omega) (by simp), show ∀ (x y z : Ev), rd [x, y, z] 2 (prep (α := Int) 6 0) = z from fun x y z => rfl]
   simp only [bne_self_eq_false, cond_false]
   rw [w64_nat (by omega), L6_31_s, l6_31, bif_f (by omega), w64_nat (by omega)]
   rfl
 | d + 1, i, fu, up, h, hf => by
  obtain ⟨f, rfl⟩ : ∃ f, fu = f + 1 := ⟨fu - 1, by omega⟩
  have hw : IntKind.i64.wrap (((at_ + i : Nat) : Int) - (at_ : Int)) ≠ (E : Int) := by rw [w64 (by omega) (by omega)]; omega
  have hn : IntKind.i64.wrap (((at_ + i : Nat) : Int) + 1) = ((at_ + (i + 1) : Nat) : Int) := w64_nat (by omega)
  have hki := kiM hc (E : Int) ((at_ + i : Nat) : Int) (at_ : Int) b false true up (g : Int) false
  obtain ⟨up2, e2⟩ := tick_hit (c := c) (b := b) (up := up) (r := (g : Int)) hw
  have et := tick_of hk hki e2
  rw [hn] at et
  unfold oneO at et
  rw [L6_31_s, l6_31, bif_t (by omega), show S23 k (((at_ + i : Nat) : Int), 10000, [tM c E], [b], true, false, true, [jM at_ up], ((TK0.1.1, TK0.1.2), TK0.2), [(g : Int)], [false]) = _ from et, Option.bind_some]
  simp only
  rw [hn]
  simp only [bne_self_eq_false, cond_false]
  rw [bif_t (by omega), show ∀ (x y : Ev), ((([x, y] : List Ev).length : Int) != 2) = false from fun x y => rfl, cond_false, ix_ok (by omega) (by simp), show ∀ (x y : Ev), rd [x, y] 0 (prep (α := Int) 6 0) = x from fun x y => rfl]
  simp only [bne_self_eq_false, cond_false]
  rw [ix_ok (by omega) (by simp), show ∀ (x y : Ev), rd [x, y] 1 (prep (α := Int) 6 0) = y from fun x y => rfl]
  simp only [bne_self_eq_false, cond_false]
  rw [w64_nat (by omega)]
  exact L6_31_eq hk hc hE ha hg d (i + 1) f up2 (by omega) (by omega)
theorem L6_21_eq {k : Nat} (hk : 1000 ≤ k) {c : Nat} (hc : 2 ≤ c ∧ c ≤ 6) {E : Nat} (hE : E ≤ 100) {b : Bd5} {gs : Int} {G : Nat} (hG : IntKind.i64.wrap (Int.tmod gs 5) = (G : Int)) (hG5 : G ≤ 4) :
  L6_21 k k gs (E : Int) 0 10000 [tM c E] [b] true false false [] TK0.1.1 TK0.1.2 TK0.2 [0] [false] 0 = some ((true, ()), ()) := by
 obtain ⟨f, hf⟩ : ∃ f, k = f + 3 := ⟨k - 3, by omega⟩
 have go : ∀ (now : Nat) (g : Nat) (fu : Nat), now ≤ 1000 → g ≤ 1 → g < G → L6_21 k (fu + 1) gs (E : Int) (now : Int) 10000 [tM c E] [b] true false false [] TK0.1.1 TK0.1.2 TK0.2 [(g : Int)] [false] (g : Int) =
   L6_21 k fu gs (E : Int) ((now + E + 1 : Nat) : Int) 10000 [tM c E] [b] true (g == 1) false [] TK0.1.1 TK0.1.2 TK0.2 [((g + 1 : Nat) : Int)] [g == 1] ((g + 1 : Nat) : Int) := fun now g fu hn hg hgG => by
  have er := S20_eq hk (kiM0 hc (E : Int) (now : Int) b false false (g : Int) false) 0 3
  rw [show relM (oneO (now : Int) (tM c E) b false false [] [(g : Int)] [false]) 0 3 = (oneO (now : Int) (tM c E) b false false [jM (now : Int) false] [(g : Int)] [false], [((now : Int), 1, 0, 0, 3, 0)], 0) from rfl] at er
  rw [L6_21_s, l6_21, hG, bif_t (by omega), show S20 k ((now : Int), 10000, [tM c E], [b], true, false, false, [], ((TK0.1.1, TK0.1.2), TK0.2), [(g : Int)], [false]) 0 3 = _ from er, Option.bind_some, bif_f (by omega)]
  simp only [bne_self_eq_false, cond_false]
  have := L6_31_eq (g21 := L6_21 k fu) (gs := gs) (b := b) hk hc hE hn hg E 0 k false (by omega) (by omega)
  exact this
 have stop : ∀ (fu : Nat) (K1 K2 K3 : Int) (ha : Bool) (o : Bool), (G : Int) ≤ K3 → L6_21 k (fu + 1) gs (E : Int) K1 10000 [tM c E] [b] true ha false [] TK0.1.1 TK0.1.2 TK0.2 [K2] [o] K3 = some ((true, ()), ()) := fun fu K1 K2 K3 ha o h => by
  rw [L6_21_s, l6_21, hG, bif_f (by omega)]
 conv => lhs; rw [show ∀ a1 a2 a3 a4 a5 a6 a7 a8 a9 a10 a11 a12 a13 a14 a15 a16, L6_21 k k a1 a2 a3 a4 a5 a6 a7 a8 a9 a10 a11 a12 a13 a14 a15 a16 = L6_21 k (f + 2 + 1) a1 a2 a3 a4 a5 a6 a7 a8 a9 a10 a11 a12 a13 a14 a15 a16 from fun a1 a2 a3 a4 a5 a6 a7 a8 a9 a10 a11 a12 a13 a14 a15 a16 => by rw [show f + 2 + 1 = k by omega]]
 by_cases h0 : G = 0
 ·exact stop (f + 2) 0 0 0 false false (by omega)
 ·have e1 := go 0 0 (f + 2) (by omega) (by omega) (by omega)
  refine e1.trans ?_
  by_cases h1 : G = 1
  ·exact stop (f + 1) _ _ _ _ _ (by omega)
  ·have e2 := go (0 + E + 1) 1 (f + 1) (by omega) (by omega) (by omega)
   refine e2.trans ?_
   by_cases h2 : G = 2
   ·exact stop f _ _ _ _ _ (by omega)
   ·have er := S20_eq hk (kiM0 hc (E : Int) ((0 + E + 1 + E + 1 : Nat) : Int) b true false ((1 + 1 : Nat) : Int) true) 0 3
    rw [show relM (oneO ((0 + E + 1 + E + 1 : Nat) : Int) (tM c E) b true false [] [((1 + 1 : Nat) : Int)] [true]) 0 3 = (oneO ((0 + E + 1 + E + 1 : Nat) : Int) (tM c E) b true false [] [((1 + 1 : Nat) : Int)] [true], [], 17) from rfl] at er
    rw [L6_21_s, l6_21, hG, bif_t (by omega), show S20 k (((0 + E + 1 + E + 1 : Nat) : Int), 10000, [tM c E], [b], true, (1 == 1), false, [], ((TK0.1.1, TK0.1.2), TK0.2), [((1 + 1 : Nat) : Int)], [1 == 1]) 0 3 = _ from er, Option.bind_some, bif_t (by omega)]
    rfl
theorem L6_6_eq {k : Nat} (hk : 20000 ≤ k) {c : Nat} (hc : 2 ≤ c ∧ c ≤ 6) {en gs : Int} {B G : Nat} (hB : IntKind.i64.wrap (Int.tmod en 9) = (B : Int)) (hB8 : B ≤ 8) (hG : IntKind.i64.wrap (Int.tmod gs 5) = (G : Int)) (hG5 : G ≤ 4) : ∀ (d i fu : Nat), i + d + 1 = c → d < fu →
  L6_6 k fu en gs (c : Int) (List.replicate i (1, 0, 0, 0) ++ List.replicate (c - i) (0, 0, 0, 0)) (i : Int) = some ((true, ()), ())
 | 0, i, fu, h, hf => by
  obtain ⟨f, rfl⟩ : ∃ f, fu = f + 1 := ⟨fu - 1, by omega⟩
  have hi : i = c - 1 := by omega
  subst hi
  have hcode : (List.replicate (c - 1) ((1, 0, 0, 0) : I4) ++ List.replicate (c - (c - 1)) (0, 0, 0, 0)) = cM c := by
   rw [show c - (c - 1) = 1 by omega]; rfl
  have hE : IntKind.i64.wrap (IntKind.i64.wrap (2 * (c : Int)) + (B : Int)) = ((2 * c + B : Nat) : Int) := by rw [w64 (n := 2 * (c : Int)) (by omega) (by omega), w64 (by omega) (by omega)]; omega
  have hnl : [tM c ((2 * c + B : Nat) : Int)].any locksZ = false := by
   have h2 : c = 2 ∨ c = 3 ∨ c = 4 ∨ c = 5 ∨ c = 6 := by omega
   rcases h2 with rfl | rfl | rfl | rfl | rfl <;> rfl
  have hst : S12 k (0, 10000, [tM c ((2 * c + B : Nat) : Int)], [((c : Int), (c : Int), 0, 2 * (c : Int), ((2 * c + B : Nat) : Int) - 2 * (c : Int))], false, false, false, [], TK0, [], []) = some (((0, 10000, [tM c ((2 * c + B : Nat) : Int)], [((c : Int), (c : Int), 0, 2 * (c : Int), ((2 * c + B : Nat) : Int) - 2 * (c : Int))], true, false, false, [], TK0, [], []), 0, ()), ()) := by
   have h : KOK (0, 10000, [tM c ((2 * c + B : Nat) : Int)], [((c : Int), (c : Int), 0, 2 * (c : Int), ((2 * c + B : Nat) : Int) - 2 * (c : Int))], false, false, false, [], TK0, [], []) := ⟨rfl, tM_light hc _, by simp, by simp, (fun j h => by cases h), by simp, by simp⟩
   have := start_new (by omega : 1000 ≤ k) h
   rw [hnl] at this
   exact this
  have hnew : S25 k 10000 = some (((0, 10000, [], [], false, false, false, [], TK0, [], []), true, ()), ()) := by
   obtain ⟨m, rfl⟩ : ∃ m, k = m + 1000 := ⟨k - 1000, by omega⟩
   exact new24 m (by omega) (by omega)
  rw [L6_6_s, l6_6, w64 (n := (c : Int) - 1) (by omega) (by omega), bif_f (by omega), hcode, hB, hE, in_tM hk hc (by omega), Option.bind_some, hnew, Option.bind_some]
  simp only [Bool.not_true, cond_false, bne_self_eq_false]
  rw [hst, Option.bind_some]
  simp only [bne_self_eq_false, cond_false]
  rw [mk_ok (by omega) (by omega), mk_ok (by omega) (by omega)]
  exact L6_21_eq (by omega) hc (by omega) hG hG5
 | d + 1, i, fu, h, hf => by
  obtain ⟨f, rfl⟩ : ∃ f, fu = f + 1 := ⟨fu - 1, by omega⟩
  have hlen : (List.replicate i ((1, 0, 0, 0) : I4) ++ List.replicate (c - i) (0, 0, 0, 0)).length = c := by simp; omega
  have hup : (List.replicate i ((1, 0, 0, 0) : I4) ++ List.replicate (c - i) (0, 0, 0, 0)).set i (1, 0, 0, 0) = List.replicate (i + 1) (1, 0, 0, 0) ++ List.replicate (c - (i + 1)) (0, 0, 0, 0) := by
   obtain ⟨m, hm⟩ : ∃ m, c - i = m + 1 := ⟨c - i - 1, by omega⟩
   rw [List.set_append_right _ _ (by simp), List.length_replicate, Nat.sub_self, hm, List.replicate_succ (n := m), List.set_cons_zero, show c - (i + 1) = m by omega, List.replicate_succ', List.append_assoc]; rfl
  have hrd : (List.replicate i ((1, 0, 0, 0) : I4) ++ List.replicate (c - i) (0, 0, 0, 0)).getD i (0, 0, 0, 0) = (0, 0, 0, 0) := by
   rw [getD_app_r (by simp), List.length_replicate, Nat.sub_self]
   obtain ⟨m, hm⟩ : ∃ m, c - i = m + 1 := ⟨c - i - 1, by omega⟩
   rw [hm]; rfl
  rw [L6_6_s, l6_6, w64 (n := (c : Int) - 1) (by omega) (by omega), bif_t (by omega), ix_nat (by omega), rd_nat, hrd, upd_nat, hup, w64_nat (by omega)]
  exact L6_6_eq hk hc hB hB8 hG hG5 d (i + 1) f (by omega) (by omega)
theorem kernMiss_pure {n en gs : Int} (h1 : 0 ≤ n ∧ n ≤ 255) (h2 : 0 ≤ en ∧ en ≤ 255) (h3 : 0 ≤ gs ∧ gs ≤ 255) {k : Nat} (hk : 20000 ≤ k) : S6 k n en gs = some ((true, ()), ()) := by
 have hn : IntKind.i64.wrap (2 + IntKind.i64.wrap (Int.tmod n 5)) = ((2 + n.toNat % 5 : Nat) : Int) := by
  rw [Int.tmod_eq_emod_of_nonneg h1.1, w64 (n := n % 5) (by omega) (by omega), w64 (by omega) (by omega)]; omega
 have hB : IntKind.i64.wrap (Int.tmod en 9) = ((en.toNat % 9 : Nat) : Int) := by
  rw [Int.tmod_eq_emod_of_nonneg h2.1, w64 (by omega) (by omega)]; omega
 have hG : IntKind.i64.wrap (Int.tmod gs 5) = ((gs.toNat % 5 : Nat) : Int) := by
  rw [Int.tmod_eq_emod_of_nonneg h3.1, w64 (by omega) (by omega)]; omega
 unfold S6
 rw [S9_eq hk]
 simp only [Option.bind_some, Bool.not_true, cond_false]
 rw [hn, mk_ok (by omega) (by omega), Int.toNat_natCast]
 exact L6_6_eq hk (c := 2 + n.toNat % 5) (by omega) hB (by omega) hG (by omega) (1 + n.toNat % 5) 0 k (by omega) (by omega)
theorem wf_u8m {n : Int} (h : (Lit.int .u8 n).wf = true) : 0 ≤ n ∧ n ≤ 255 := by
 simp only [Lit.wf, Bool.and_eq_true] at h
 have h1 := of_decide_eq_true h.1
 have h2 := of_decide_eq_true h.2
 simp [IntKind.min, IntKind.max, IntKind.signed, IntKind.bits] at h1 h2
 omega
theorem kernMiss_law (n en gs : Int) (h1 : Ty.fine (.int .u8) n) (h2 : Ty.fine (.int .u8) en) (h3 : Ty.fine (.int .u8) gs) : ∃ k, S6 k n en gs = some ((true, ()), ()) := ⟨20000, kernMiss_pure (wf_u8m h1) (wf_u8m h2) (wf_u8m h3) (by omega)⟩
end Go.Proofs.YtmmagcjlfcicfaaGreat.Ab
