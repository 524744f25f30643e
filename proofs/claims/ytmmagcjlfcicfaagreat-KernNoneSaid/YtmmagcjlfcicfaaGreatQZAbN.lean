import Derived.Test.YtmmagcjlfcicfaaGreatPbC
import Derived.Test.YtmmagcjlfcicfaaGreatAbN0
import Derived.Test.YtmmagcjlfcicfaaGreatAbN1
import Derived.Test.YtmmagcjlfcicfaaGreatAbN2
import Derived.Test.YtmmagcjlfcicfaaGreatAbN3
import Derived.Test.YtmmagcjlfcicfaaGreatAbN4
import Derived.Test.YtmmagcjlfcicfaaGreatAbN5
import Derived.Test.YtmmagcjlfcicfaaGreatAbN6
import Derived.Test.YtmmagcjlfcicfaaGreatAbN7
import Derived.Test.YtmmagcjlfcicfaaGreatAbN8
import Derived.Test.YtmmagcjlfcicfaaGreatAbN9
import Derived.Test.YtmmagcjlfcicfaaGreatAbN10
import Derived.Test.YtmmagcjlfcicfaaGreatAbN11
import Derived.Test.YtmmagcjlfcicfaaGreatAbN12
import Derived.Test.YtmmagcjlfcicfaaGreatAbN13
import Derived.KernelRfl
/- The plain law, and what it hangs on. -/
/- Small laws of lists, of loops with a counter, of searches, of arrays as lists. -/
namespace Go.Proofs.YtmmagcjlfcicfaaGreat.Ab
open Go.RowKit
set_option linter.unusedSimpArgs false
set_option linter.unusedVariables false
section
variable {σ R α : Type}
abbrev I4 : Type := Int × Int × Int × Int
abbrev i0 : I4 := (0, 0, 0, 0)
theorem getD_in {l : List α} {n : Nat} {z : α} (h : n < l.length) : l.getD n z = l[n] := by
 simp [List.getD_eq_getElem?_getD, List.getElem?_eq_getElem h]
theorem drop_cons {l : List α} {i : Nat} (z : α) (h : i < l.length) : l.drop i = l.getD i z :: l.drop (i + 1) := by
 rw [List.drop_eq_getElem_cons h, getD_in h]
theorem drop_nil {l : List α} {i : Nat} (h : i = l.length) : l.drop i = [] := List.drop_eq_nil_of_le (by omega)
theorem getD_mem {l : List α} {i : Nat} {z : α} (h : i < l.length) : l.getD i z ∈ l := by rw [getD_in h]; exact List.getElem_mem h
def idxI (f : α → Bool) (xs : List α) : Int := match xs.findIdx? f with | some n => (n : Int) | none => -1
theorem idx_gen (L : Nat → Int → Option ((Int × Unit) × Unit)) (xs : List α) (z : α) (f : α → Bool)
  (hs : ∀ (j n : Nat), n < xs.length → L (j + 1) (n : Int) = bif f (xs.getD n z) then some (((n : Int), ()), ()) else L j ((n + 1 : Nat) : Int))
  (he : ∀ j, L (j + 1) (xs.length : Int) = some ((-1, ()), ())) : ∀ (m i j : Nat), i + m = xs.length → m < j →
   L j i = some (((match (xs.drop i).findIdx? f with | some n => ((i + n : Nat) : Int) | none => -1), ()), ())
 | 0, i, j, h, hj => by
  obtain ⟨j', rfl⟩ : ∃ j', j = j' + 1 := ⟨j - 1, by omega⟩
  have : i = xs.length := by omega
  subst this; rw [he, List.drop_length]; rfl
 | m + 1, i, j, h, hj => by
  obtain ⟨j', rfl⟩ : ∃ j', j = j' + 1 := ⟨j - 1, by omega⟩
  have hlt : i < xs.length := by omega
  rw [hs j' i hlt, drop_cons z hlt, List.findIdx?_cons, idx_gen L xs z f hs he m (i + 1) j' (by omega) (by omega)]
  cases f (xs.getD i z) with
  | true => simp
  | false =>
   simp only [cond_false, Bool.false_eq_true, if_false]
   cases (xs.drop (i + 1)).findIdx? f with
   | none => rfl
   | some n => simp only [Option.map_some]; congr 4; omega
theorem idx_all (L : Nat → Int → Option ((Int × Unit) × Unit)) (xs : List α) (z : α) (f : α → Bool)
  (hs : ∀ (j n : Nat), n < xs.length → L (j + 1) (n : Int) = bif f (xs.getD n z) then some (((n : Int), ()), ()) else L j ((n + 1 : Nat) : Int))
  (he : ∀ j, L (j + 1) (xs.length : Int) = some ((-1, ()), ())) (j : Nat) (hj : xs.length < j) : L j 0 = some ((idxI f xs, ()), ()) := by
 have := idx_gen L xs z f hs he xs.length 0 j (by omega) hj
 rw [List.drop_zero] at this
 simpa [idxI] using this
theorem idx_ge (f : α → Bool) (s : List α) : decide (idxI f s ≥ 0) = s.any f := by
 unfold idxI
 cases h : s.findIdx? f with
 | none => rw [List.findIdx?_eq_none_iff] at h; simp; intro x hx; simpa using h x hx
 | some n =>
  have h2 := List.findIdx?_isSome (xs := s) (p := f)
  rw [h] at h2
  rw [← h2]; simp
def anyF (f : Nat → Bool) : Nat → Nat → Bool
 | 0, _ => false
 | m + 1, i => f i || anyF f m (i + 1)
theorem anyF_iff (f : Nat → Bool) : ∀ (m i : Nat), anyF f m i = true ↔ ∃ n, i ≤ n ∧ n < i + m ∧ f n = true
 | 0, i => ⟨fun h => by simp [anyF] at h, fun ⟨n, h1, h2, _⟩ => by omega⟩
 | m + 1, i => by
  rw [anyF, Bool.or_eq_true, anyF_iff f m (i + 1)]
  constructor
  ·rintro (h | ⟨n, h1, h2, h3⟩)
   ·exact ⟨i, by omega, by omega, h⟩
   ·exact ⟨n, by omega, by omega, h3⟩
  ·rintro ⟨n, h1, h2, h3⟩
   by_cases e : n = i
   ·subst e; exact .inl h3
   ·exact .inr ⟨n, by omega, by omega, h3⟩
theorem anyF_none (f : Nat → Bool) (m i : Nat) : anyF f m i = false ↔ ∀ n, i ≤ n → n < i + m → f n = false := by
 constructor
 ·intro h n h1 h2
  cases hf : f n with
  | false => rfl
  | true => rw [(anyF_iff f m i).2 ⟨n, h1, h2, hf⟩] at h; cases h
 ·intro h
  cases ha : anyF f m i with
  | false => rfl
  | true => obtain ⟨n, h1, h2, h3⟩ := (anyF_iff f m i).1 ha; rw [h n h1 h2] at h3; cases h3
end
end Go.Proofs.YtmmagcjlfcicfaaGreat.Ab

/- Which instructions may be; areas: both answers are one. -/
namespace Go.Proofs.YtmmagcjlfcicfaaGreat.Ab
open Go.RowKit
set_option linter.unusedSimpArgs false
set_option linter.unusedVariables false
def memI (a : Int) : Bool := decide (a ≥ 0) && decide (a < 8)
def witI (v a b : Int) : Bool := decide (v ≥ a) && decide (v ≤ b)
def mayI (i : I4) : Bool :=
 bif i.1 == 0 then (i.2.1 == 0 && (i.2.2.1 == 0 && i.2.2.2 == 0))
 else bif i.1 == 11 then (i.2.1 == 0 && (i.2.2.1 == 0 && i.2.2.2 == 0))
 else bif i.1 == 1 then (memI i.2.1 && (i.2.2.1 == 0 && witI i.2.2.2 (-2147483648) 2147483647))
 else bif i.1 == 2 then (memI i.2.1 && (memI i.2.2.1 && i.2.2.2 == 0))
 else bif i.1 == 3 then (memI i.2.1 && (memI i.2.2.1 && i.2.2.2 == 0))
 else bif i.1 == 4 then (memI i.2.1 && (memI i.2.2.1 && i.2.2.2 == 0))
 else bif i.1 == 5 then (memI i.2.1 && (i.2.2.1 == 0 && witI i.2.2.2 (-63) 63))
 else bif i.1 == 6 then (memI i.2.1 && (i.2.2.1 == 0 && witI i.2.2.2 1 64))
 else bif i.1 == 7 then (memI i.2.1 && (i.2.2.1 == 0 && witI i.2.2.2 1 24))
 else bif i.1 == 8 then (i.2.1 == 0 && (witI i.2.2.1 1 24 && witI i.2.2.2 1 20))
 else bif i.1 == 9 then (witI i.2.1 0 3 && (i.2.2.1 == 0 && i.2.2.2 == 0))
 else bif i.1 == 10 then (witI i.2.1 0 3 && (i.2.2.1 == 0 && i.2.2.2 == 0))
 else false
def sameS (l : List I4) (open_ : List Int) (x : Int) : Bool := open_.any (fun i => (rd l i i0).2.1 == (rd l x i0).2.1)
end Go.Proofs.YtmmagcjlfcicfaaGreat.Ab

/- Areas, how they stand to each other, and which instruction is in which: the program's answers told. -/
namespace Go.Proofs.YtmmagcjlfcicfaaGreat.Ab
open Go.RowKit
set_option linter.unusedSimpArgs false
set_option linter.unusedVariables false
def pc (i : Nat) (x : I4) : List (Int × Int × Int × Bool) :=
 bif x.1 == 8 then [(((i + 1 : Nat) : Int), IntKind.i64.wrap ((i : Int) + x.2.2.1), (i : Int), true)]
 else bif x.1 == 7 then [(((i + 1 : Nat) : Int), IntKind.i64.wrap ((i : Int) + x.2.2.2), (i : Int), false)] else []
def pcs : Nat → List (I4) → List (Int × Int × Int × Bool)
 | _, [] => []
 | i, x :: r => pc i x ++ pcs (i + 1) r
abbrev Ar : Type := Int × Int × Int × Bool
def hasA (p : Ar) (i : Int) : Bool := decide (p.1 ≤ i) && decide (i ≤ p.2.1)
def inA (p q : Ar) : Bool := hasA q p.1 && hasA q p.2.1
def apA (p q : Ar) : Bool := decide (p.2.1 < q.1) || decide (q.2.1 < p.1)
def badA (p q : Ar) : Bool := (hasA q p.2.2.1 && !inA p q) || (!apA p q && (!inA p q && !inA q p))
def bumps : List Int → Nat → Nat → List Int
 | ar, _, 0 => ar
 | ar, i, m + 1 => bumps (ar.set i (IntKind.i64.wrap (ar.getD i 0 + 1))) (i + 1) m
def nest (L1 : Int) (all : List Ar) : List Ar → List Int → Bool
 | [], ar => !ar.any (fun i => decide (i > 2))
 | p :: r, ar => bif decide (p.2.1 ≥ L1) then false else bif all.any (badA p) then false else nest L1 all r (bif p.2.2.2 then bumps ar p.1.toNat (p.2.1 + 1 - p.1).toNat else ar)
def marks (n : Nat) (p : Ar) : List (PN Bool 24) → Nat → Nat → List (PN Bool 24)
 | out, _, 0 => out
 | out, i, m + 1 => marks n p (bif hasA p (i : Int) then out.set i (aset (α := Bool) 24 (out.getD i (prep (α := Bool) 24 false)) (n : Int) true) else out) (i + 1) m
end Go.Proofs.YtmmagcjlfcicfaaGreat.Ab

/- Which instruction is in which area, as bits; maps; pairs as the program has them. -/
namespace Go.Proofs.YtmmagcjlfcicfaaGreat.Ab
open Go.RowKit
set_option linter.unusedSimpArgs false
set_option linter.unusedVariables false
def sepA (l : List I4) (i j : Int) : Bool := (pcs 0 l).any (fun p => hasA p i != hasA p j)
section
variable {tk tv : Ty} (hb : ∀ a b : tk.D, beqD tk a b = true ↔ a = b)
include hb
end
end Go.Proofs.YtmmagcjlfcicfaaGreat.Ab

/- Pairs, as the program has them. -/
namespace Go.Proofs.YtmmagcjlfcicfaaGreat.Ab
open Go.RowKit
set_option linter.unusedSimpArgs false
set_option linter.unusedVariables false
def prStep (l : List I4) (i : Nat) (s : List Int × List Int) : Option (List Int × List Int) :=
 if (l.getD i i0).1 = 9 then (if 2 ≤ s.2.length ∨ sameS l s.2 i = true then none else some (s.1, s.2 ++ [(i : Int)]))
 else if (l.getD i i0).1 = 10 then
  (match s.2.getLast? with
  | none => none
  | some k => if (rd l k i0).2.1 ≠ (l.getD i i0).2.1 ∨ sepA l k.toNat i = true then none else some (upd s.1 k i, s.2.dropLast))
 else some s
def prGo (l : List I4) : Nat → Nat → List Int × List Int → Option (List Int × List Int)
 | 0, _, s => some s
 | m + 1, i, s => (prStep l i s).bind (prGo l m (i + 1))
def prs (l : List I4) : Option (List Int) := match prGo l l.length 0 (List.replicate l.length 0, []) with
 | some (out, []) => some out
 | _ => none
end Go.Proofs.YtmmagcjlfcicfaaGreat.Ab

/- Which programs may be, as the program has it. -/
namespace Go.Proofs.YtmmagcjlfcicfaaGreat.Ab
open Go.RowKit
set_option linter.unusedSimpArgs false
set_option linter.unusedVariables false
def mkBad (l : List I4) (ps : List Int) (i : Nat) : Bool := (l.getD i i0).1 == 11 && ((pcs 0 l).any (fun p => hasA p i) || (ps.take i).any (fun e => decide (e > (i : Int))))
def mayA (l : List I4) : Bool :=
 decide (1 ≤ l.length) && (decide (l.length ≤ 24) && (!l.any (fun i => !mayI i) && (idxI (fun i => i.1 == 0) l == (l.length : Int) - 1 &&
  (nest ((l.length : Int) - 1) (pcs 0 l) (pcs 0 l) (List.replicate l.length 0) &&
  (match prs l with | none => false | some ps => !anyF (mkBad l ps) l.length 0)))))
end Go.Proofs.YtmmagcjlfcicfaaGreat.Ab

/- Pairs, and which programs may be, as the document has them. -/
namespace Go.Proofs.YtmmagcjlfcicfaaGreat.Ab
open Go.RowKit
set_option linter.unusedSimpArgs false
set_option linter.unusedVariables false
end Go.Proofs.YtmmagcjlfcicfaaGreat.Ab

/- Which programs may be: both answers are one. -/
namespace Go.Proofs.YtmmagcjlfcicfaaGreat.Ab
open Go.RowKit
set_option linter.unusedSimpArgs false
set_option linter.unusedVariables false
def wd (x : I4) : Nat := (bif x.1 == 8 then x.2.2.1 else bif x.1 == 7 then x.2.2.2 else 0).toNat
def isA (x : I4) : Bool := x.1 == 8 || x.1 == 7
end Go.Proofs.YtmmagcjlfcicfaaGreat.Ab

/- Programs as trees: what is flat may be. -/
namespace Go.Proofs.YtmmagcjlfcicfaaGreat.Ab
open Go.RowKit
set_option linter.unusedSimpArgs false
set_option linter.unusedVariables false
inductive Tr where
 | nil
 | one (x : I4) (r : Tr)
 | lk (a : Int) (b r : Tr)
 | ar (x : I4) (b r : Tr)
namespace Tr
def flat : Tr → List I4
 | nil => []
 | one x r => x :: flat r
 | lk a b r => (9, a, 0, 0) :: (flat b ++ ((10, a, 0, 0) :: flat r))
 | ar x b r => x :: (flat b ++ flat r)
def len : Tr → Nat
 | nil => 0
 | one _ r => len r + 1
 | lk _ b r => len b + len r + 2
 | ar _ b r => len b + len r + 1
theorem flat_len : ∀ t : Tr, t.flat.length = t.len
 | nil => rfl
 | one x r => by simp only [flat, len, List.length_cons, flat_len r]
 | lk a b r => by simp only [flat, len, List.length_cons, List.length_append, flat_len b, flat_len r]; omega
 | ar x b r => by simp only [flat, len, List.length_cons, List.length_append, flat_len b, flat_len r]
def plain (x : I4) : Prop := x.1 ≠ 0 ∧ x.1 ≠ 7 ∧ x.1 ≠ 8 ∧ x.1 ≠ 9 ∧ x.1 ≠ 10
def Ok : Nat → List Int → Bool → Tr → Prop
 | _, _, _, nil => True
 | d, hs, ia, one x r => mayI x = true ∧ plain x ∧ (x.1 = 11 → ia = false ∧ hs = []) ∧ Ok d hs ia r
 | d, hs, ia, lk a b r => (0 ≤ a ∧ a ≤ 3) ∧ (a ∉ hs ∧ hs.length < 2) ∧ Ok d (hs ++ [a]) ia b ∧ Ok d hs ia r
 | d, hs, ia, ar x b r => (mayI x = true ∧ isA x = true ∧ wd x = b.len) ∧ (x.1 = 8 → d < 2) ∧ Ok (bif x.1 == 8 then d + 1 else d) hs true b ∧ Ok d hs ia r
end Tr
open Tr
end Go.Proofs.YtmmagcjlfcicfaaGreat.Ab

/- Pairs of a tree; a tree with an end behind it is a program that may be. -/
namespace Go.Proofs.YtmmagcjlfcicfaaGreat.Ab
open Go.RowKit Tr
set_option linter.unusedSimpArgs false
set_option linter.unusedVariables false
def Tr.prog (t : Tr) : List I4 := t.flat ++ [i0]
theorem prog_len (t : Tr) : t.prog.length = t.len + 1 := by unfold Tr.prog; rw [List.length_append, flat_len]; rfl
end Go.Proofs.YtmmagcjlfcicfaaGreat.Ab

/- Programs made of numbers are trees. -/
namespace Go.Proofs.YtmmagcjlfcicfaaGreat.Ab
open Go.RowKit Tr
set_option linter.unusedSimpArgs false
set_option linter.unusedVariables false
def semT (n : Int) : Tr → Prop
 | .nil => True
 | .one _ r => semT n r
 | .lk a b r => (0 ≤ a ∧ a < n) ∧ semT n b ∧ semT n r
 | .ar _ b r => semT n b ∧ semT n r
def lowT : Tr → Prop
 | .nil => True
 | .one x r => (x.1 ≤ 6 → x.2.1 < 3) ∧ lowT r
 | .lk _ b r => lowT b ∧ lowT r
 | .ar _ b r => lowT b ∧ lowT r
structure Mp (locks : Int) (t : Tr) : Prop where
 ok : Ok 0 [] false t
 free : semT locks t
 low : lowT t
end Go.Proofs.YtmmagcjlfcicfaaGreat.Ab

/- Wild programs; what begins the laws; numbers out of bytes. -/
namespace Go.Proofs.YtmmagcjlfcicfaaGreat.Ab
open Go.RowKit Tr
set_option linter.unusedSimpArgs false
set_option linter.unusedVariables false
end Go.Proofs.YtmmagcjlfcicfaaGreat.Ab

/- The laws of layer 6 that are of lists alone. -/
namespace Go.Proofs.YtmmagcjlfcicfaaGreat.Ab
open Go.RowKit Tr
set_option linter.unusedSimpArgs false
set_option linter.unusedVariables false
end Go.Proofs.YtmmagcjlfcicfaaGreat.Ab

/- What pairs are: each lock has its own, one in the other or apart. -/
namespace Go.Proofs.YtmmagcjlfcicfaaGreat.Ab
open Go.RowKit Tr
set_option linter.unusedSimpArgs false
set_option linter.unusedVariables false
end Go.Proofs.YtmmagcjlfcicfaaGreat.Ab

/- Numbers that stop at their ends, of numbers that are not below nought. -/
namespace Go.Proofs.YtmmagcjlfcicfaaGreat.Ab
open Go.RowKit
set_option linter.unusedSimpArgs false
set_option linter.unusedVariables false
end Go.Proofs.YtmmagcjlfcicfaaGreat.Ab

/- How long programs are: both answers are one. -/
namespace Go.Proofs.YtmmagcjlfcicfaaGreat.Ab
open Go.RowKit Tr
set_option linter.unusedSimpArgs false
set_option linter.unusedVariables false
def tmA (l : List I4) (j : Int) : List Ar → Int → Int
 | [], acc => acc
 | p :: r, acc => tmA l j r (bif p.2.2.2 && hasA p j then acc * (rd l p.2.2.1 i0).2.2.2 else acc)
def tms (l : List I4) : List Int := (List.range l.length).map (fun (j : Nat) => tmA l (j : Int) (pcs 0 l) 1)
/-! ### the program's -/
end Go.Proofs.YtmmagcjlfcicfaaGreat.Ab

/- How long programs are: the answer told. -/
namespace Go.Proofs.YtmmagcjlfcicfaaGreat.Ab
open Go.RowKit Tr
set_option linter.unusedSimpArgs false
set_option linter.unusedVariables false
def sm : List Int → Int
 | [] => 0
 | x :: r => x + sm r
def cg (l : List I4) (ts ps : List Int) : Nat → Nat → Int → List (Int × Int) → Int → Int × List (Int × Int)
 | 0, _, c1, c2, _ => (c1, c2)
 | m + 1, i, c1, c2, p =>
  if (l.getD i i0).1 = 11 ∨ (l.getD i i0).1 = 0 then cg l ts ps m (i + 1) (max c1 (p + ts.getD i 0)) c2 0
  else if (l.getD i i0).1 = 9 then cg l ts ps m (i + 1) c1 (c2 ++ [((l.getD i i0).2.1, Int.tdiv (sm (sub ts ((i + 1 : Nat) : Int) (ps.getD i 0 + 1))) (ts.getD i 0))]) (p + ts.getD i 0)
  else cg l ts ps m (i + 1) c1 c2 (p + ts.getD i 0)
def costR (l : List I4) (ps : List Int) : Int × Int × List (Int × Int) := (sm (tms l), cg l (tms l) ps l.length 0 0 [] 0)
noncomputable def costOf (l : List I4) : Option (Int × Int × List (Int × Int)) := if mayA l = true then some (costR l ((prs l).getD [])) else none
end Go.Proofs.YtmmagcjlfcicfaaGreat.Ab

/- How long programs are: the law of both answers. -/
namespace Go.Proofs.YtmmagcjlfcicfaaGreat.Ab
open Go.RowKit Tr
set_option linter.unusedSimpArgs false
set_option linter.unusedVariables false
end Go.Proofs.YtmmagcjlfcicfaaGreat.Ab

/- How long a tree is. -/
namespace Go.Proofs.YtmmagcjlfcicfaaGreat.Ab
open Go.RowKit Tr
set_option linter.unusedSimpArgs false
set_option linter.unusedVariables false
def repOf (x : I4) : Int := if x.1 = 8 then x.2.2.2 else 1
namespace Tr
def cost : Tr → Int
 | .nil => 0
 | .one _ r => 1 + cost r
 | .lk _ b r => 2 + cost b + cost r
 | .ar x b r => 1 + repOf x * cost b + cost r
def ts : Int → Tr → List Int
 | _, .nil => []
 | M, .one _ r => M :: ts M r
 | M, .lk _ b r => M :: (ts M b ++ (M :: ts M r))
 | M, .ar x b r => M :: (ts (M * repOf x) b ++ ts M r)
def spans : Tr → List (Int × Int)
 | .nil => []
 | .one _ r => spans r
 | .lk a b r => (a, cost b + 1) :: (spans b ++ spans r)
 | .ar _ b r => spans b ++ spans r
def piece : Int → Tr → Int × Int → Int × Int
 | _, .nil, s => s
 | M, .one x r, s => piece M r (if x.1 = 11 then (max s.1 (s.2 + M), 0) else (s.1, s.2 + M))
 | M, .lk _ b r, s => piece M r ((piece M b (s.1, s.2 + M)).1, (piece M b (s.1, s.2 + M)).2 + M)
 | M, .ar x b r, s => piece M r (piece (M * repOf x) b (s.1, s.2 + M))
end Tr
end Go.Proofs.YtmmagcjlfcicfaaGreat.Ab

/- The pieces of a tree: how they change. -/
namespace Go.Proofs.YtmmagcjlfcicfaaGreat.Ab
open Go.RowKit Tr
set_option linter.unusedSimpArgs false
set_option linter.unusedVariables false
end Go.Proofs.YtmmagcjlfcicfaaGreat.Ab

/- Numbers of 64 bits: by powers of two, narrower; machines, step by step: the document's. -/
namespace Go.Proofs.YtmmagcjlfcicfaaGreat.Ab
open Go.RowKit
set_option linter.unusedSimpArgs false
set_option linter.unusedVariables false
def shiftV (v n : Int) : Int := if n = 0 then v else if 0 < n then IntKind.i64.wrap (v * 2 ^ n.toNat) else v.fdiv (2 ^ (-n).toNat)
def narrowV (v n : Int) : Int := if (v % 2 ^ n.toNat) * 2 ≥ 2 ^ n.toNat then v % 2 ^ n.toNat - 2 ^ n.toNat else v % 2 ^ n.toNat
end Go.Proofs.YtmmagcjlfcicfaaGreat.Ab

/- A step of a machine, as the document has it. -/
namespace Go.Proofs.YtmmagcjlfcicfaaGreat.Ab
open Go.RowKit
set_option linter.unusedSimpArgs false
set_option linter.unusedVariables false
abbrev Rp : Type := Int × Int × Int
abbrev Mem : Type := PN Int 8
abbrev Mc : Type := Int × Mem × List Rp × Bool
def mg (mem : Mem) (a : Int) : Int := aget (α := Int) 8 mem a 0
def eff (x : I4) (mem : Mem) : Mem :=
 if x.1 = 1 then aset (α := Int) 8 mem x.2.1 x.2.2.2
 else if x.1 = 2 then aset (α := Int) 8 mem x.2.1 (IntKind.i64.wrap (mg mem x.2.1 + mg mem x.2.2.1))
 else if x.1 = 3 then aset (α := Int) 8 mem x.2.1 (IntKind.i64.wrap (mg mem x.2.1 - mg mem x.2.2.1))
 else if x.1 = 4 then aset (α := Int) 8 mem x.2.1 (IntKind.i64.wrap (mg mem x.2.1 * mg mem x.2.2.1))
 else if x.1 = 5 then aset (α := Int) 8 mem x.2.1 (shiftV (mg mem x.2.1) x.2.2.2)
 else if x.1 = 6 then aset (α := Int) 8 mem x.2.1 (narrowV (mg mem x.2.1) x.2.2.2)
 else mem
def goesR (pc : Int) : List Rp → Int × List Rp
 | [] => (pc, [])
 | r :: rest => if r.2.1 < pc then (if r.2.2 > 0 then (r.1, (r.1, r.2.1, r.2.2 - 1) :: rest) else goesR pc rest) else (pc, r :: rest)
def nxt (x : I4) (pc : Int) (mem : Mem) (R : List Rp) : Int × List Rp :=
 if x.1 = 0 then (pc, R)
 else if x.1 = 7 then (if mg mem x.2.1 = 0 then (pc + 1 + x.2.2.2, R) else (pc + 1, R))
 else if x.1 = 8 then (pc + 1, (pc + 1, pc + x.2.2.1, x.2.2.2 - 1) :: R)
 else (pc + 1, R)
def go (x : I4) (pc : Int) (mem : Mem) (R : List Rp) : Int × List Rp := goesR (nxt x pc mem R).1 (nxt x pc mem R).2
end Go.Proofs.YtmmagcjlfcicfaaGreat.Ab

/- Runs of the program of a tree. -/
namespace Go.Proofs.YtmmagcjlfcicfaaGreat.Ab
open Go.RowKit Tr
set_option linter.unusedSimpArgs false
set_option linter.unusedVariables false
inductive Run (l : List I4) : Nat → Mem → List Rp → List I4 → Nat → Mem → List Rp → Prop
 | nil (n : Nat) (mem : Mem) (R : List Rp) : Run l n mem R [] n mem R
 | cons {n : Nat} {mem : Mem} {R : List Rp} {x : I4} {n1 : Nat} {R1 : List Rp} {tr : List I4} {n2 : Nat} {mem2 : Mem} {R2 : List Rp} : n < l.length → l.getD n i0 = x → x.1 ≠ 0 → R.length ≤ 2 → (∀ r ∈ R, r.2.2 ≤ 1000) → go x n mem R = ((n1 : Int), R1) → (x.1 = 11 → R1 = []) →
   Run l n1 (eff x mem) R1 tr n2 mem2 R2 → Run l n mem R (x :: tr) n2 mem2 R2
def RunG (l : List I4) (o : Nat) (mem : Mem) (R : List Rp) (tr : List I4) (o2 : Nat) (mem2 : Mem) (R2 : List Rp) : Prop :=
 ∀ (n1 : Nat) (R1 : List Rp), goesR (o : Int) R = ((n1 : Int), R1) → ∃ (n2 : Nat) (R3 : List Rp), goesR (o2 : Int) R2 = ((n2 : Int), R3) ∧ Run l n1 mem R1 tr n2 mem2 R3
theorem RunG.nil {l : List I4} {o : Nat} {mem : Mem} {R : List Rp} : RunG l o mem R [] o mem R := fun n1 R1 h => ⟨n1, R1, h, .nil _ _ _⟩
def Cov (R : List Rp) (e : Nat) : Prop := ∀ r ∈ R.head?, (e : Int) ≤ r.2.1 + 1
theorem goes_stay {R : List Rp} {o : Nat} (h : Cov R (o + 1)) : goesR (o : Int) R = ((o : Int), R) := by
 cases R with
 | nil => rfl
 | cons r R => rw [goesR, if_neg]; have := h r (by simp); omega
theorem RunG.step {l : List I4} {o : Nat} {mem : Mem} {R : List Rp} {x : I4} {o1 : Nat} {R1 : List Rp} (hn : o < l.length) (hx : l.getD o i0 = x) (h0 : x.1 ≠ 0) (hR : R.length ≤ 2) (hb : ∀ r ∈ R, r.2.2 ≤ 1000) (hc : Cov R (o + 1)) (hnx : nxt x o mem R = ((o1 : Int), R1)) (hm : x.1 = 11 → (goesR (o1 : Int) R1).2 = []) (hpos : 0 ≤ (goesR (o1 : Int) R1).1) :
  RunG l o mem R [x] o1 (eff x mem) R1 := fun n1 R2 h => by
 rw [goes_stay hc] at h
 injection h with h1 h2
 subst h2
 have : n1 = o := by omega
 subst this
 refine ⟨(goesR (o1 : Int) R1).1.toNat, (goesR (o1 : Int) R1).2, ?_, ?_⟩
 ·exact Prod.ext (by simp only; omega) rfl
 ·refine .cons hn hx h0 hR hb ?_ hm (.nil _ _ _)
  unfold go
  rw [hnx]
  exact Prod.ext (by simp only; omega) rfl
theorem RunG.congr {l : List I4} {o : Nat} {mem : Mem} {R : List Rp} {tr : List I4} {o2 : Nat} {mem2 : Mem} {R2 : List Rp} {o3 : Nat} {R3 : List Rp} (h : RunG l o mem R tr o2 mem2 R2) (e : goesR (o2 : Int) R2 = goesR (o3 : Int) R3) : RunG l o mem R tr o3 mem2 R3 := fun n1 R1 g => by
 obtain ⟨n2, R4, g1, g2⟩ := h n1 R1 g
 exact ⟨n2, R4, by rw [← e]; exact g1, g2⟩
end Go.Proofs.YtmmagcjlfcicfaaGreat.Ab

/- What runs of trees do: how long they are, what they hold. -/
namespace Go.Proofs.YtmmagcjlfcicfaaGreat.Ab
open Go.RowKit Tr
set_option linter.unusedSimpArgs false
set_option linter.unusedVariables false
end Go.Proofs.YtmmagcjlfcicfaaGreat.Ab

/- A program that may be is the program of a tree. -/
namespace Go.Proofs.YtmmagcjlfcicfaaGreat.Ab
open Go.RowKit Tr
set_option linter.unusedSimpArgs false
set_option linter.unusedVariables false
end Go.Proofs.YtmmagcjlfcicfaaGreat.Ab

/- What programs come to, as the document has it. -/
namespace Go.Proofs.YtmmagcjlfcicfaaGreat.Ab
open Go.RowKit Tr
set_option linter.unusedSimpArgs false
set_option linter.unusedVariables false
end Go.Proofs.YtmmagcjlfcicfaaGreat.Ab

/- A step of a machine, and a run, as the program has it. -/
namespace Go.Proofs.YtmmagcjlfcicfaaGreat.Ab
open Go.RowKit Tr
set_option linter.unusedSimpArgs false
set_option linter.unusedVariables false
end Go.Proofs.YtmmagcjlfcicfaaGreat.Ab

/- Tasks: which may be, what they cost. -/
namespace Go.Proofs.YtmmagcjlfcicfaaGreat.Ab
open Go.RowKit Tr
set_option linter.unusedSimpArgs false
set_option linter.unusedVariables false
abbrev Tk := Int × Int × Int × List I4 × List I4 × List I4
noncomputable def cst (l : List I4) : Int × Int × List (Int × Int) := (costOf l).getD (0, 0, [])
def hasL (l : List I4) : Bool := l.any fun i => i.1 == 9
noncomputable def mayT (t : Tk) : Int :=
 bif decide (t.1 < 0) then 1 else bif decide (t.1 > 63) then 1 else bif decide (t.2.1 < 1) then 9 else bif decide (t.2.1 > 16384) then 9 else
 bif decide (t.2.2.1 < 1) then 9 else bif decide (t.2.2.1 > t.2.1) then 9 else
 bif !mayA t.2.2.2.1 then 2 else bif !(((t.2.2.2.2.1.length : Int) == 0) || mayA t.2.2.2.2.1) then 2 else bif !(((t.2.2.2.2.2.length : Int) == 0) || mayA t.2.2.2.2.2) then 2 else
 bif hasL t.2.2.2.2.2 then 2 else bif decide ((cst t.2.2.2.1).1 > t.2.2.1) then 10 else bif decide ((cst t.2.2.2.2.1).1 > (cst t.2.2.2.1).1) then 12 else 0
def lightT (t : Tk) : Prop := t.2.2.2.1.length ≤ 900 ∧ t.2.2.2.2.1.length ≤ 900 ∧ t.2.2.2.2.2.length ≤ 900
noncomputable def costsT (t : Tk) : Int × Int × List (Int × Int) :=
 if mayT t = 0 then ((cst t.2.2.2.1).1, bif mayA t.2.2.2.2.1 then (cst t.2.2.2.2.1).1 else (cst t.2.2.2.1).2.1, (cst t.2.2.2.1).2.2 ++ (cst t.2.2.2.2.1).2.2) else (0, 0, [])
end Go.Proofs.YtmmagcjlfcicfaaGreat.Ab

/- Tasks that are made of numbers; the law of all tasks. -/
namespace Go.Proofs.YtmmagcjlfcicfaaGreat.Ab
open Go.RowKit Tr
set_option linter.unusedSimpArgs false
set_option linter.unusedVariables false
structure MT (locks rank : Int) (t : Tk) : Prop where
 rank : t.1 = rank
 per : 20 ≤ t.2.1 ∧ t.2.1 ≤ 130
 en : t.2.1 - 9 ≤ t.2.2.1 ∧ t.2.2.1 ≤ t.2.1
 main : ∃ m, t.2.2.2.1 = Tr.prog m ∧ Mp locks m ∧ m.len ≤ 22
 way : t.2.2.2.2.1 = [] ∨ t.2.2.2.2.1 = [(1, 0, 0, 99), (0, 0, 0, 0)] ∨ t.2.2.2.2.1 = [(0, 0, 0, 0)]
 opt : t.2.2.2.2.2 = [] ∨ ∃ o, t.2.2.2.2.2 = Tr.prog o ∧ Mp 0 o ∧ o.len ≤ 22
theorem MT.light {locks rank : Int} {t : Tk} (h : MT locks rank t) : lightT t := by
 obtain ⟨m, e, _, hm⟩ := h.main
 refine ⟨by rw [e, prog_len]; omega, ?_, ?_⟩
 ·rcases h.way with e | e | e <;> rw [e] <;> simp
 ·rcases h.opt with e | ⟨o, e, _, ho⟩
  ·rw [e]; simp
  ·rw [e, prog_len]; omega
end Go.Proofs.YtmmagcjlfcicfaaGreat.Ab

/- Which tasks may be; costs of made ones. -/
namespace Go.Proofs.YtmmagcjlfcicfaaGreat.Ab
open Go.RowKit Tr
set_option linter.unusedSimpArgs false
set_option linter.unusedVariables false
end Go.Proofs.YtmmagcjlfcicfaaGreat.Ab

/- Who holds up whom: both answers. -/
namespace Go.Proofs.YtmmagcjlfcicfaaGreat.Ab
open Go.RowKit Tr
set_option linter.unusedSimpArgs false
set_option linter.unusedVariables false
abbrev t0 : Tk := (0, 0, 0, [], [], [])
def lockS (s : Int) (x : I4) : Bool := bif x.1 == 9 then x.2.1 == s else false
def locksT (s : Int) (t : Tk) : Bool := (t.2.2.2.1 ++ t.2.2.2.2.1).any (lockS s)
def ceilG (s : Int) : List Tk → Nat → Int
 | [], _ => 8
 | t :: r, i => bif locksT s t then (i : Int) else ceilG s r (i + 1)
def ceilT (l : List Tk) (s : Int) : Int := ceilG s l 0
theorem L36_3_eq {k : Nat} (hk : 1000 ≤ k) {a b : List I4} (ha : a.length ≤ 900) (hb : b.length ≤ 900) (j : Nat) : L36_3 k (j + 3) [a, b] 0 [a, b] 2 0 = some ((a ++ b, ()), ()) := by
 have e1 : L36_11 k k ([] : List I4) [a, b] 2 0 = some ((a ++ b, ()), ()) := by
  have : ∀ j, L36_11 k (j + 3) ([] : List I4) [a, b] 2 0 = some ((a ++ b, ()), ()) := fun j => by
   rw [L36_11_s, l36_11, bif_t (by omega), ix_ok (by omega) (by simp), show rd [a, b] 0 [] = a from rfl, ap_ok (by simp only [List.length_nil]; omega), w64 (by omega) (by omega), List.nil_append]
   rw [L36_11_s, l36_11, bif_t (by omega), ix_ok (by omega) (by simp), show rd [a, b] (0 + 1) [] = b from rfl, ap_ok (by omega), w64 (by omega) (by omega)]
   rw [L36_11_s, l36_11, bif_f (by omega)]
  have := this (k - 3)
  rwa [show k - 3 + 3 = k by omega] at this
 rw [L36_3_s, l36_3, bif_t (by omega), ix_ok (by omega) (by simp), show rd [a, b] 0 [] = a from rfl, w64 (n := 0 + (a.length : Int)) (by omega) (by omega), bif_f (by omega), w64 (by omega) (by omega)]
 rw [L36_3_s, l36_3, bif_t (by omega), ix_ok (by omega) (by simp), show rd [a, b] (0 + 1) [] = b from rfl, w64 (n := 0 + (a.length : Int) + (b.length : Int)) (by omega) (by omega), bif_f (by omega), w64 (by omega) (by omega)]
 rw [L36_3_s, l36_3, bif_f (by omega)]
 unfold S85
 rw [bif_f (by omega), w64 (n := 0 + (a.length : Int) + (b.length : Int) - 0) (by omega) (by omega)]
 by_cases h0 : 0 + (a.length : Int) + (b.length : Int) - 0 > 0
 ·rw [bif_t h0]
  unfold az
  rw [if_pos (by rw [Bool.and_eq_true]; exact ⟨decide_eq_true (by omega), decide_eq_true (by simp only [List.length_nil]; omega)⟩)]
  dsimp only
  rw [sx_ok (by omega) (by omega) (by omega), Option.bind_some]
  exact e1
 ·rw [bif_f h0, Option.bind_some]; exact e1
theorem S36_eq {k : Nat} (hk : 1000 ≤ k) {a b : List I4} (ha : a.length ≤ 900) (hb : b.length ≤ 900) : S36 k [a, b] = some ((a ++ b, ()), ()) := by
 unfold S36
 have := L36_3_eq hk ha hb (k - 3)
 rwa [show k - 3 + 3 = k by omega] at this
def lightL (l : List Tk) : Prop := l.length ≤ 100 ∧ ∀ t ∈ l, lightT t ∧ (t.2.2.2.1 ++ t.2.2.2.2.1).length ≤ 900
def spF (l : List Tk) (i : Int) : Int → List (Int × Int) → Int
 | m, [] => m
 | m, e :: r => spF l i (bif decide (ceilT l e.1 ≤ i) then mx m e.2 else m) r
noncomputable def byG (l : List Tk) (i : Int) : List Tk → Nat → Int → Int
 | [], _, m => m
 | t :: r, n, m => byG l i r (n + 1) (bif (n : Int) == i then m else spF l i m (costsT t).2.2)
noncomputable def byT (l : List Tk) (i : Int) : Int := byG l i l 0 0
end Go.Proofs.YtmmagcjlfcicfaaGreat.Ab

/- Rows of made tasks; the law of all rows. -/
namespace Go.Proofs.YtmmagcjlfcicfaaGreat.Ab
open Go.RowKit Tr
set_option linter.unusedSimpArgs false
set_option linter.unusedVariables false
structure RowOK (locks : Int) (l : List Tk) : Prop where
 mt : ∀ j, j < l.length → ∃ r, MT locks r (l.getD j t0) ∧ 3 * (j : Int) ≤ r ∧ r ≤ 3 * (j : Int) + 2
 may : ∀ j, j < l.length → mayT (l.getD j t0) = 0
theorem MT.code {locks rank : Int} {t : Tk} (h : MT locks rank t) : (t.2.2.2.1 ++ t.2.2.2.2.1).length ≤ 30 := by
 obtain ⟨m, e, _, hm⟩ := h.main
 rw [List.length_append, e, prog_len]
 rcases h.way with e | e | e <;> rw [e] <;> simp <;> omega
theorem RowOK.light {locks : Int} {l : List Tk} (h : RowOK locks l) (hl : l.length ≤ 100) : lightL l := ⟨hl, fun t ht => by
 obtain ⟨j, hj, e⟩ := List.mem_iff_getElem.1 ht
 obtain ⟨r, hm, _⟩ := h.mt j hj
 have e2 : l.getD j t0 = t := by rw [← e, List.getD_eq_getElem?_getD, List.getElem?_eq_getElem hj]; rfl
 rw [e2] at hm
 exact ⟨hm.light, by have := hm.code; omega⟩⟩
end Go.Proofs.YtmmagcjlfcicfaaGreat.Ab

/- What ceilings are; the law of ceilings. -/
namespace Go.Proofs.YtmmagcjlfcicfaaGreat.Ab
open Go.RowKit Tr
set_option linter.unusedSimpArgs false
set_option linter.unusedVariables false
end Go.Proofs.YtmmagcjlfcicfaaGreat.Ab

/- Who locks nothing holds up nobody. -/
namespace Go.Proofs.YtmmagcjlfcicfaaGreat.Ab
open Go.RowKit Tr
set_option linter.unusedSimpArgs false
set_option linter.unusedVariables false
theorem mx_ge (a b : Int) : a ≤ mx a b := by unfold mx; split <;> omega
theorem spF_ge {l : List Tk} {i : Int} : ∀ (sp : List (Int × Int)) (m : Int), m ≤ spF l i m sp
 | [], m => Int.le_refl _
 | e :: r, m => by
  rw [spF]
  cases decide (ceilT l e.1 ≤ i) with
  | true => exact Int.le_trans (mx_ge m e.2) (spF_ge r _)
  | false => exact spF_ge r m
theorem byG_ge {l : List Tk} {i : Int} : ∀ (r : List Tk) (n : Nat) (m : Int), m ≤ byG l i r n m
 | [], n, m => Int.le_refl _
 | t :: r, n, m => by
  rw [byG]
  cases (n : Int) == i with
  | true => exact byG_ge r _ m
  | false => exact Int.le_trans (spF_ge _ m) (byG_ge r _ _)
end Go.Proofs.YtmmagcjlfcicfaaGreat.Ab

/- How often, sums that may go beyond, rows. -/
namespace Go.Proofs.YtmmagcjlfcicfaaGreat.Ab
open Go.RowKit Tr
set_option linter.unusedSimpArgs false
set_option linter.unusedVariables false
def up (r v : Int) : Int := (r + v - 1) / v
theorem up_bd {r v : Int} (hr : 0 ≤ r) (hv : 1 ≤ v) : 0 ≤ up r v ∧ up r v ≤ r := by
 unfold up
 refine ⟨Int.ediv_nonneg (by omega) (by omega), ?_⟩
 rw [← Int.lt_add_one_iff]
 refine Int.ediv_lt_of_lt_mul (by omega) ?_
 have : (r + 1) * 1 ≤ (r + 1) * v := Int.mul_le_mul_of_nonneg_left hv (by omega)
 have : r * 1 ≤ r * v := Int.mul_le_mul_of_nonneg_left hv hr
 rw [Int.add_mul]; omega
noncomputable def badR (l : List Tk) (i : Nat) : Bool := (mayT (l.getD i t0) != 0) || (decide ((i : Int) > 0) && decide ((l.getD (i - 1) t0).1 ≥ (l.getD i t0).1))
noncomputable def rowT (l : List Tk) : Bool := !anyF (badR l) l.length 0
end Go.Proofs.YtmmagcjlfcicfaaGreat.Ab

/- What is reckoned of a row is small; the rounds. -/
namespace Go.Proofs.YtmmagcjlfcicfaaGreat.Ab
open Go.RowKit Tr
set_option linter.unusedSimpArgs false
set_option linter.unusedVariables false
structure CoS (t : Tk) : Prop where
 per : 1 ≤ t.2.1 ∧ t.2.1 ≤ 16384
 en : 1 ≤ t.2.2.1 ∧ t.2.2.1 ≤ t.2.1
 cost : 1 ≤ (costsT t).1 ∧ (costsT t).1 ≤ t.2.2.1
 lost : 1 ≤ (costsT t).2.1 ∧ (costsT t).2.1 ≤ (costsT t).1
 spans : ∀ e ∈ (costsT t).2.2, 1 ≤ e.2 ∧ e.2 < (costsT t).1
theorem mx_le {a b c : Int} (h1 : a ≤ c) (h2 : b ≤ c) : mx a b ≤ c := by unfold mx; split <;> omega
theorem spF_le {l : List Tk} {i b : Int} : ∀ (sp : List (Int × Int)) (m : Int), m ≤ b → (∀ e ∈ sp, e.2 ≤ b) → spF l i m sp ≤ b
 | [], m, h, _ => h
 | e :: r, m, h, hs => by
  rw [spF]
  refine spF_le r _ ?_ (fun x hx => hs x (by simp [hx]))
  cases decide (ceilT l e.1 ≤ i) with
  | true => exact mx_le h (hs e (by simp))
  | false => exact h
theorem byG_le {l : List Tk} {i b : Int} : ∀ (r : List Tk) (n : Nat) (m : Int), m ≤ b → (∀ t ∈ r, ∀ e ∈ (costsT t).2.2, e.2 ≤ b) → byG l i r n m ≤ b
 | [], n, m, h, _ => h
 | t :: r, n, m, h, hs => by
  rw [byG]
  refine byG_le r _ _ ?_ (fun x hx => hs x (by simp [hx]))
  cases (n : Int) == i with
  | true => exact h
  | false => exact spF_le _ m h (hs t (by simp))
theorem byT_bd {l : List Tk} (h : ∀ t ∈ l, CoS t) (i : Int) : 0 ≤ byT l i ∧ byT l i ≤ 16384 :=
 ⟨byG_ge l 0 0, byG_le l 0 0 (by omega) (fun t ht e he => by have q := h t ht; have := q.spans e he; have := q.cost; have := q.en; have := q.per; omega)⟩
def sumA (r : Int) : List (Int × Int) → Int
 | [] => 0
 | x :: l => up r x.1 * x.2 + sumA r l
noncomputable def pc1 (t : Tk) : Int × Int := (t.2.1, (costsT t).1)
noncomputable def lostG : Int → List Tk → Int
 | m, [] => m
 | m, t :: r => lostG (mx m (costsT t).2.1) r
noncomputable def firstT (l : List Tk) (i : Nat) : Int := (costsT (l.getD i t0)).1 + byT l (i : Int)
noncomputable def rightT (l : List Tk) (i : Nat) (apart r : Int) : Int := firstT l i + up r apart * lostG 0 (l.take (i + 1)) + sumA r ((l.take i).map pc1)
theorem sumA_nonneg {r : Int} (hr : 0 ≤ r) : ∀ {l : List (Int × Int)}, (∀ x ∈ l, 1 ≤ x.1 ∧ 0 ≤ x.2) → 0 ≤ sumA r l
 | [], _ => Int.le_refl _
 | x :: l, h => by
  have hx := h x (by simp)
  have := sumA_nonneg hr (l := l) (fun y hy => h y (by simp [hy]))
  have := Int.mul_nonneg (up_bd hr hx.1).1 hx.2
  rw [sumA]; omega
theorem sumA_le {r b : Int} (hr : 0 ≤ r) (hb : 0 ≤ b) : ∀ {l : List (Int × Int)}, (∀ x ∈ l, 1 ≤ x.1 ∧ 0 ≤ x.2 ∧ x.2 ≤ b) → sumA r l ≤ (l.length : Int) * (r * b)
 | [], _ => by simp [sumA]
 | x :: l, h => by
  have hx := h x (by simp)
  have h1 := sumA_le hr hb (l := l) (fun y hy => h y (by simp [hy]))
  have hu := up_bd hr hx.1
  have h2 : up r x.1 * x.2 ≤ r * b := Int.mul_le_mul hu.2 hx.2.2 hx.2.1 hr
  rw [sumA, List.length_cons, show ((l.length + 1 : Nat) : Int) = (l.length : Int) + 1 by omega, Int.add_mul, Int.one_mul]; omega
end Go.Proofs.YtmmagcjlfcicfaaGreat.Ab

/- How long a task takes at most: the program's rounds. -/
namespace Go.Proofs.YtmmagcjlfcicfaaGreat.Ab
open Go.RowKit Tr
set_option linter.unusedSimpArgs false
set_option linter.unusedVariables false
structure RS (l : List Tk) : Prop where
 light : lightL l
 len : l.length ≤ 10
 co : ∀ t ∈ l, CoS t
theorem lostG_bd {b : Int} : ∀ (r : List Tk) (m : Int), 0 ≤ m → m ≤ b → (∀ t ∈ r, (costsT t).2.1 ≤ b) → 0 ≤ lostG m r ∧ lostG m r ≤ b
 | [], m, h0, h, _ => ⟨h0, h⟩
 | t :: r, m, h0, h, hs => by
  rw [lostG]
  exact lostG_bd r _ (Int.le_trans h0 (mx_ge _ _)) (mx_le h (hs t (by simp))) (fun x hx => hs x (by simp [hx]))
theorem RS.first {l : List Tk} (h : RS l) {i : Nat} (hi : i < l.length) : 1 ≤ firstT l i ∧ firstT l i ≤ 32768 := by
 have hc := h.co _ (getD_mem (z := t0) hi)
 have hb := byT_bd h.co (i : Int)
 have := hc.cost; have := hc.en; have := hc.per
 unfold firstT; omega
theorem RS.lost {l : List Tk} (h : RS l) (i : Nat) : 0 ≤ lostG 0 (l.take i) ∧ lostG 0 (l.take i) ≤ 16384 :=
 lostG_bd _ 0 (by omega) (by omega) (fun t ht => by have q := h.co t (List.mem_of_mem_take ht); have := q.lost; have := q.cost; have := q.en; have := q.per; omega)
theorem RS.pcs {l : List Tk} (h : RS l) (i : Nat) : ∀ x ∈ (l.take i).map pc1, 1 ≤ x.1 ∧ 0 ≤ x.2 ∧ x.2 ≤ 16384 := fun x hx => by
 obtain ⟨t, ht, rfl⟩ := List.mem_map.1 hx
 have q := h.co t (List.mem_of_mem_take ht)
 have := q.cost; have := q.en; have := q.per
 unfold pc1; simp only; omega
theorem RS.loss {l : List Tk} (h : RS l) {i : Nat} {apart r : Int} (ha : 1 ≤ apart) (hr : 0 ≤ r ∧ r ≤ 50000) : 0 ≤ up r apart * lostG 0 (l.take (i + 1)) ∧ up r apart * lostG 0 (l.take (i + 1)) ≤ 819200000 := by
 have hl := h.lost (i + 1)
 have hu := up_bd hr.1 ha
 have := Int.mul_nonneg hu.1 hl.1
 have : up r apart * lostG 0 (l.take (i + 1)) ≤ 50000 * 16384 := Int.mul_le_mul (by omega) hl.2 hl.1 (by omega)
 omega
theorem RS.sum {l : List Tk} (h : RS l) {i : Nat} {r : Int} (hr : 0 ≤ r ∧ r ≤ 50000) : 0 ≤ sumA r ((l.take i).map pc1) ∧ sumA r ((l.take i).map pc1) ≤ 8192000000 := by
 have h0 := sumA_nonneg hr.1 (l := (l.take i).map pc1) (fun x hx => ⟨(h.pcs i x hx).1, (h.pcs i x hx).2.1⟩)
 have h1 := sumA_le hr.1 (show (0 : Int) ≤ 16384 by omega) (h.pcs i)
 have hl : ((l.take i).map pc1).length ≤ 10 := by rw [List.length_map, List.length_take]; have := h.len; omega
 have h2 : (((l.take i).map pc1).length : Int) * (r * 16384) ≤ 10 * (r * 16384) := Int.mul_le_mul_of_nonneg_right (by omega) (by omega)
 omega
theorem RS.right {l : List Tk} (h : RS l) {i : Nat} (hi : i < l.length) {apart r : Int} (ha : 1 ≤ apart) (hr : 0 ≤ r ∧ r ≤ 50000) : firstT l i ≤ rightT l i apart r ∧ rightT l i apart r ≤ 100000000000 := by
 have h1 := h.first hi; have h2 := h.loss (i := i) ha hr; have h3 := h.sum (i := i) hr
 unfold rightT; omega
end Go.Proofs.YtmmagcjlfcicfaaGreat.Ab

/- How long a task takes at most: the program's answer. -/
namespace Go.Proofs.YtmmagcjlfcicfaaGreat.Ab
open Go.RowKit Tr
set_option linter.unusedSimpArgs false
set_option linter.unusedVariables false
end Go.Proofs.YtmmagcjlfcicfaaGreat.Ab

/- How long a task takes at most: the document's answer. -/
namespace Go.Proofs.YtmmagcjlfcicfaaGreat.Ab
open Go.RowKit Tr
set_option linter.unusedSimpArgs false
set_option linter.unusedVariables false
end Go.Proofs.YtmmagcjlfcicfaaGreat.Ab

/- Both answers are one: the law of all rows. -/
namespace Go.Proofs.YtmmagcjlfcicfaaGreat.Ab
open Go.RowKit Tr
set_option linter.unusedSimpArgs false
set_option linter.unusedVariables false
end Go.Proofs.YtmmagcjlfcicfaaGreat.Ab

/- What the rounds come to: the least that is so, or nothing up to the end. -/
namespace Go.Proofs.YtmmagcjlfcicfaaGreat.Ab
open Go.RowKit Tr
set_option linter.unusedSimpArgs false
set_option linter.unusedVariables false
theorem RowOK.row {locks : Int} {l : List Tk} (h : RowOK locks l) : rowT l = true := by
 unfold rowT
 rw [Bool.not_eq_true', anyF_none]
 intro n _ hn
 unfold badR
 rw [h.may n (by omega), bne_self_eq_false, Bool.false_or, Bool.and_eq_false_iff]
 by_cases h0 : (n : Int) > 0
 ·right
  obtain ⟨r, m1, m2, m3⟩ := h.mt n (by omega)
  obtain ⟨r2, p1, p2, p3⟩ := h.mt (n - 1) (by omega)
  have e1 := m1.rank
  have e2 := p1.rank
  exact decide_eq_false (by rw [e1, e2]; omega)
 ·left; exact decide_eq_false h0
end Go.Proofs.YtmmagcjlfcicfaaGreat.Ab

/- What is told is no less than cost, what holds up, one loss, one go of each ahead. -/
namespace Go.Proofs.YtmmagcjlfcicfaaGreat.Ab
open Go.RowKit Tr
set_option linter.unusedSimpArgs false
set_option linter.unusedVariables false
end Go.Proofs.YtmmagcjlfcicfaaGreat.Ab

/- The law of what makes it no longer. -/
namespace Go.Proofs.YtmmagcjlfcicfaaGreat.Ab
open Go.RowKit Tr
set_option linter.unusedSimpArgs false
set_option linter.unusedVariables false
end Go.Proofs.YtmmagcjlfcicfaaGreat.Ab

/- Who may come in: the program's answer. -/
namespace Go.Proofs.YtmmagcjlfcicfaaGreat.Ab
open Go.RowKit Tr
set_option linter.unusedSimpArgs false
set_option linter.unusedVariables false
abbrev Bd5 : Type := PN Int 5
end Go.Proofs.YtmmagcjlfcicfaaGreat.Ab

/- Who may come in: both answers. -/
namespace Go.Proofs.YtmmagcjlfcicfaaGreat.Ab
open Go.RowKit Tr
set_option linter.unusedSimpArgs false
set_option linter.unusedVariables false
end Go.Proofs.YtmmagcjlfcicfaaGreat.Ab

/- A kernel without things: a kernel of its own is the same. -/
namespace Go.Proofs.YtmmagcjlfcicfaaGreat.Ab
open Go.RowKit
set_option linter.unusedSimpArgs false
set_option linter.unusedVariables false
abbrev Jb : Type := Int × Int × Int × Int × Mc × Mc × List Int × Bool
abbrev Thg : Type := Int × (Int × Int) × (Int × Int) × ((List Int) × List Int) × (Int × List (Int × Int)) × Int
abbrev TabK : Type := (List Int × List Bool) × List Thg
abbrev Kn : Type := Int × Int × List Tk × List Bd5 × Bool × Bool × Bool × List Jb × TabK × List Int × List Bool
abbrev TK0 : TabK := ((List.replicate 12 0, List.replicate 12 false), List.replicate 12 (0, (0, 0), (0, 0), ([], []), (0, []), 0))
structure JOK (j : Jb) : Prop where
 held : j.2.2.2.2.2.2.1 = []
 m : j.2.2.2.2.1.2.2.1.length ≤ 100
 kept : j.2.2.2.2.2.1.2.2.1.length ≤ 100
theorem cl_inst {k : Nat} {xs : List I4} (h : xs.length ≤ 900) : S80 k xs = some ((xs, ()), ()) := by
 unfold S80
 exact clone_eq (by omega)
theorem cl_task {k : Nat} {xs : List Tk} (h : xs.length ≤ 900) : S77 k xs = some ((xs, ()), ()) := by
 unfold S77
 exact clone_eq (by omega)
theorem cl_bounds {k : Nat} {xs : List Bd5} (h : xs.length ≤ 900) : S78 k xs = some ((xs, ()), ()) := by
 unfold S78
 exact clone_eq (by omega)
theorem cl_job {k : Nat} {xs : List Jb} (h : xs.length ≤ 900) : S79 k xs = some ((xs, ()), ()) := by
 unfold S79
 exact clone_eq (by omega)
theorem cl_rep {k : Nat} {xs : List Rp} (h : xs.length ≤ 900) : S138 k xs = some ((xs, ()), ()) := by
 unfold S138
 exact clone_eq (by omega)
theorem cl_int {k : Nat} {xs : List Int} (h : xs.length ≤ 900) : S140 k xs = some ((xs, ()), ()) := by
 unfold S140
 exact clone_eq (by omega)
theorem cl_bool {k : Nat} {xs : List Bool} (h : xs.length ≤ 900) : S187 k xs = some ((xs, ()), ()) := by
 unfold S187
 exact clone_eq (by omega)
theorem delF_nil {k : Nat} (hk : 1000 ≤ k) (s : Int) : S139 k [] s = some (([], ()), ()) := by
 obtain ⟨k, rfl⟩ : ∃ m, k = m + 1 := ⟨k - 1, by omega⟩
 unfold S139 S186
 rw [L186_2_s, l186_2, bif_f (by simp), Option.bind_some]
 rfl
theorem S81_eq {k : Nat} (hk : 1000 ≤ k) {j : Jb} (h : JOK j) (s : Int) : S81 k j s = some ((j, ()), ()) := by
 obtain ⟨t, a, i, p, m, kp, hd, up⟩ := j
 have h1 : hd = [] := h.held
 have h2 : m.2.2.1.length ≤ 100 := h.m
 have h3 : kp.2.2.1.length ≤ 100 := h.kept
 subst h1
 unfold S81
 simp only
 rw [cl_rep (by omega), Option.bind_some, cl_rep (by omega), Option.bind_some, cl_int (by simp), Option.bind_some]
 simp only
 rw [delF_nil hk, Option.bind_some]
theorem put_TK0 {k : Nat} (hk : 1000 ≤ k) (x : Thg) : S82 k TK0 (-1) x = some ((TK0, ()), ()) := by
 obtain ⟨k, rfl⟩ : ∃ m, k = m + 1000 := ⟨k - 1000, by omega⟩
 kernel_rfl
theorem good_none {k : Nat} {r : List Int} {o : List Bool} (h1 : r.length ≤ 900) (h2 : o.length ≤ 900) : S83 k (r, o) (-1) = some (((r, o), ()), ()) := by
 unfold S83 S147
 simp only
 rw [cl_int h1, Option.bind_some, cl_bool h2, Option.bind_some, Option.bind_some]
 rfl
theorem set_same {α : Type} {l : List α} {n : Nat} {z : α} : l.set n (l.getD n z) = l := by
 by_cases h : n < l.length
 ·rw [getD_in h]; exact List.set_getElem_self h
 ·exact List.set_eq_of_length_le (by omega)
theorem L34_8_eq {k : Nat} (hk : 1000 ≤ k) {now ap : Int} {ts : List Tk} {bs : List Bd5} {ru ha hi : Bool} {js : List Jb} {rows : List Int} {off : List Bool} {x1 x2 : Int} {x3 x4 x5 : Bool} (hr : rows.length ≤ 900) (ho : off.length ≤ 900) (hjl : js.length ≤ 900) (hj : ∀ j ∈ js, JOK j) : ∀ (d i j : Nat), i + d = js.length → d < j →
  L34_8 k j now ap ts bs ru ha hi js TK0.1.1 TK0.1.2 TK0.2 rows off x1 x2 x3 x4 x5 (js.length : Int) (i : Int) = some (((now, ap, ts, bs, ru, ha, hi, js, TK0, rows, off), ()), ())
 | 0, i, j, h, hjj => by
  obtain ⟨j', rfl⟩ : ∃ j', j = j' + 1 := ⟨j - 1, by omega⟩
  rw [L34_8_s, l34_8, bif_f (by omega), put_TK0 hk, Option.bind_some, good_none hr ho, Option.bind_some]
 | d + 1, i, j, h, hjj => by
  obtain ⟨j', rfl⟩ : ∃ j', j = j' + 1 := ⟨j - 1, by omega⟩
  have hi' : i < js.length := by omega
  rw [L34_8_s, l34_8, bif_t (by omega), ix_nat hi', rd_nat, S81_eq hk (hj _ (getD_mem hi')), Option.bind_some, ix_nat hi', upd_nat, w64_nat (by omega)]
  simp only
  rw [set_same]
  exact L34_8_eq hk hr ho hjl hj d (i + 1) j' (by omega) (by omega)
theorem L34_3_eq {k : Nat} (hk : 1000 ≤ k) {now ap : Int} {ts : List Tk} {bs : List Bd5} {ru ha hi : Bool} {js : List Jb} {rows : List Int} {off : List Bool} {x1 x2 : Int} {x3 x4 x5 : Bool} (hr : rows.length ≤ 900) (ho : off.length ≤ 900) (hjl : js.length ≤ 900) (hj : ∀ j ∈ js, JOK j) (ht : lightL ts) : ∀ (d i j : Nat), i + d = ts.length → d < j →
  L34_3 k j now ap ts bs ru ha hi js TK0.1.1 TK0.1.2 TK0.2 rows off x1 x2 x3 x4 x5 (ts.length : Int) (i : Int) = some (((now, ap, ts, bs, ru, ha, hi, js, TK0, rows, off), ()), ())
 | 0, i, j, h, hjj => by
  obtain ⟨j', rfl⟩ : ∃ j', j = j' + 1 := ⟨j - 1, by omega⟩
  rw [L34_3_s, l34_3, bif_f (by omega)]
  exact L34_8_eq hk hr ho hjl hj js.length 0 k (by omega) (by omega)
 | d + 1, i, j, h, hjj => by
  obtain ⟨j', rfl⟩ : ∃ j', j = j' + 1 := ⟨j - 1, by omega⟩
  have hi' : i < ts.length := by omega
  have hl := (ht.2 _ (getD_mem (z := t0) hi')).1
  rw [L34_3_s, l34_3, bif_t (by omega), ix_nat hi', rd_nat, cl_inst hl.1, Option.bind_some, cl_inst hl.2.1, Option.bind_some, cl_inst hl.2.2, Option.bind_some, ix_nat hi', upd_nat]
  rw [show (ts.set i (ts.getD i (0, 0, 0, [], [], []))) = ts from set_same, ix_nat hi', rd_nat, upd_nat]
  simp only
  rw [show (ts.set i (ts.getD i (0, 0, 0, [], [], []))) = ts from set_same, ix_nat hi', rd_nat, upd_nat, show (ts.set i (ts.getD i (0, 0, 0, [], [], []))) = ts from set_same, w64_nat (by have := ht.1; omega)]
  exact L34_3_eq hk hr ho hjl hj ht d (i + 1) j' (by omega) (by omega)
structure KOK (K : Kn) : Prop where
 tab : K.2.2.2.2.2.2.2.2.1 = TK0
 tasks : lightL K.2.2.1
 bounds : K.2.2.2.1.length ≤ 900
 jobs : K.2.2.2.2.2.2.2.1.length ≤ 800
 job : ∀ j ∈ K.2.2.2.2.2.2.2.1, JOK j
 rows : K.2.2.2.2.2.2.2.2.2.1.length ≤ 900
 off : K.2.2.2.2.2.2.2.2.2.2.length ≤ 900
theorem S34_eq {k : Nat} (hk : 1000 ≤ k) {K : Kn} (h : KOK K) : S34 k K = some ((K, ()), ()) := by
 obtain ⟨now, ap, ts, bs, ru, ha, hi, js, T, rows, off⟩ := K
 have e : T = TK0 := h.tab
 subst e
 unfold S34
 simp only
 have h1 : ts.length ≤ 100 := h.tasks.1
 have h2 : js.length ≤ 800 := h.jobs
 rw [cl_task (by omega), Option.bind_some, cl_bounds h.bounds, Option.bind_some, cl_job (by omega), Option.bind_some]
 exact L34_3_eq (ts := ts) (js := js) hk h.rows h.off (by omega) h.job h.tasks ts.length 0 k (by omega) (by omega)
end Go.Proofs.YtmmagcjlfcicfaaGreat.Ab

/- A kernel without things: no semaphores; a kernel is started; what is told; who misses. -/
namespace Go.Proofs.YtmmagcjlfcicfaaGreat.Ab
open Go.RowKit
set_option linter.unusedSimpArgs false
set_option linter.unusedVariables false
theorem semas_TK0 {k : Nat} (hk : 1000 ≤ k) : S73 k TK0 = some (([], ()), ()) := by
 obtain ⟨k, rfl⟩ : ∃ m, k = m + 1000 := ⟨k - 1000, by omega⟩
 kernel_rfl
theorem L30_2_eq {k : Nat} {now ap : Int} {ts : List Tk} {bs : List Bd5} {ru ha hi : Bool} {js : List Jb} {s : List Int} {i : List Bool} {l : List Thg} {rows : List Int} {off : List Bool} (j : Nat) (hj : 0 < j) :
  L30_2 k j now ap ts bs ru ha hi js s i l rows off [] [] 0 0 = some (([], ()), ()) := by
 obtain ⟨j', rfl⟩ : ∃ j', j = j' + 1 := ⟨j - 1, by omega⟩
 rw [L30_2_s, l30_2, bif_f (by omega)]
theorem locks_TK0 {k : Nat} (hk : 1000 ≤ k) {now ap : Int} {ts : List Tk} {bs : List Bd5} {ru ha hi : Bool} {js : List Jb} {rows : List Int} {off : List Bool} : S30 k (now, ap, ts, bs, ru, ha, hi, js, TK0, rows, off) = some (([], ()), ()) := by
 unfold S30
 rw [show S73 k (now, ap, ts, bs, ru, ha, hi, js, TK0, rows, off).2.2.2.2.2.2.2.2.1 = _ from semas_TK0 hk, Option.bind_some]
 exact L30_2_eq k (by omega)
theorem S39_eq {k : Nat} (hk : 1000 ≤ k) {now ap : Int} {ts : List Tk} {bs : List Bd5} {ru ha hi : Bool} {js : List Jb} {rows : List Int} {off : List Bool} {l : List (Int × Int)} :
  S39 k now ap ts bs ru ha hi js TK0.1.1 TK0.1.2 TK0.2 rows off l = some ((), (now, ap, ts, bs, ru, ha, hi, js, TK0.1.1, TK0.1.2, TK0.2, rows, off, ()), ()) := by
 unfold S39
 obtain ⟨k, rfl⟩ : ∃ m, k = m + 1 := ⟨k - 1, by omega⟩
 rw [show S73 (k + 1) ((TK0.1.1, TK0.1.2), TK0.2) = _ from semas_TK0 hk, Option.bind_some, L39_1_s, l39_1, bif_f (by simp)]
def lockZ (x : I4) : Bool := bif x.1 == 9 then decide (x.2.1 ≥ 0) else false
def locksZ (t : Tk) : Bool := (t.2.2.2.1 ++ t.2.2.2.2.1).any lockZ
theorem S84_eq {k : Nat} (hk : 1000 ≤ k) {s : List I4} (h : s.length ≤ 900) : S84 k s [] = some ((idxI lockZ s, ()), ()) := by
 unfold S84
 refine idx_all (fun j i => L84_2 k j s [] (s.length : Int) i) s i0 _ (fun j i hi => ?_) (fun j => ?_) k (by omega)
 ·show L84_2 k (j + 1) s [] (s.length : Int) (i : Int) = _
  rw [L84_2_s, l84_2, bif_t (by omega), ix_nat hi, w64_nat (by omega), rd_nat]
  unfold S37 lockZ
  cases (s.getD i i0).1 == 9 <;> rfl
 ·show L84_2 k (j + 1) s [] (s.length : Int) (s.length : Int) = _
  rw [L84_2_s, l84_2, bif_f (by omega)]
theorem L12_6_eq {k : Nat} (hk : 1000 ≤ k) {now ap : Int} {ts : List Tk} {bs : List Bd5} {ru ha hi : Bool} {js : List Jb} {rows : List Int} {off : List Bool} {x1 x2 : Int} {x3 x4 x5 : Bool} (ht : lightL ts) : ∀ (d i j : Nat), i + d = ts.length → d < j →
  L12_6 k j now ap ts bs ru ha hi js TK0.1.1 TK0.1.2 TK0.2 rows off x1 x2 x3 x4 x5 [] ts (ts.length : Int) (i : Int) = bif (ts.drop i).any locksZ then some (((now, ap, ts, bs, ru, ha, hi, js, TK0, rows, off), 4, ()), ()) else some (((now, ap, ts, bs, true, ha, hi, js, TK0, rows, off), 0, ()), ())
 | 0, i, j, h, hjj => by
  obtain ⟨j', rfl⟩ : ∃ j', j = j' + 1 := ⟨j - 1, by omega⟩
  rw [L12_6_s, l12_6, bif_f (by omega), drop_nil (by omega)]
  obtain ⟨k, rfl⟩ : ∃ m, k = m + 1 := ⟨k - 1, by omega⟩
  rw [L12_12_s, l12_12, bif_f (by simp), S39_eq hk, Option.bind_some]
  rfl
 | d + 1, i, j, h, hjj => by
  obtain ⟨j', rfl⟩ : ∃ j', j = j' + 1 := ⟨j - 1, by omega⟩
  have hi' : i < ts.length := by omega
  have hl := ht.2 _ (getD_mem (z := t0) hi')
  rw [L12_6_s, l12_6, bif_t (by omega), ix_nat hi', rd_nat, S36_eq hk hl.1.1 hl.1.2.1, Option.bind_some]
  unfold S35
  rw [S84_eq hk hl.2]
  simp only [Option.bind_some, idx_ge]
  rw [drop_cons t0 hi', List.any_cons, w64_nat (by have := ht.1; omega), L12_6_eq hk ht d (i + 1) j' (by omega) (by omega)]
  show (bif locksZ (ts.getD i t0) then _ else _) = _
  cases locksZ (ts.getD i t0) <;> rfl
theorem start_ran {k : Nat} (hk : 1000 ≤ k) {K : Kn} (h : KOK K) (hr : K.2.2.2.2.1 = true) : S12 k K = some ((K, 7, ()), ()) := by
 unfold S12
 rw [S34_eq hk h, Option.bind_some, hr, cond_true]
theorem start_new {k : Nat} (hk : 1000 ≤ k) {now ap : Int} {ts : List Tk} {bs : List Bd5} {ha hi : Bool} {js : List Jb} {rows : List Int} {off : List Bool} (h : KOK (now, ap, ts, bs, false, ha, hi, js, TK0, rows, off)) :
  S12 k (now, ap, ts, bs, false, ha, hi, js, TK0, rows, off) = some (((now, ap, ts, bs, !ts.any locksZ, ha, hi, js, TK0, rows, off), (bif ts.any locksZ then 4 else 0), ()), ()) := by
 unfold S12
 rw [S34_eq hk h, Option.bind_some]
 simp only [cond_false]
 have ht : lightL ts := h.tasks
 rw [locks_TK0 hk, Option.bind_some]
 have e := L12_6_eq (now := now) (ap := ap) (bs := bs) (ru := false) (ha := ha) (hi := hi) (js := js) (rows := rows) (off := off) (x1 := 0) (x2 := 0) (x3 := false) (x4 := false) (x5 := false) hk ht ts.length 0 k (by omega) (by have := ht.1; omega)
 rw [List.drop_zero] at e
 refine e.trans ?_
 cases ts.any locksZ <;> rfl
end Go.Proofs.YtmmagcjlfcicfaaGreat.Ab

/- Does the kernel do anything: what a kernel that does not run does. -/
namespace Go.Proofs.YtmmagcjlfcicfaaGreat.Ab
open Go.RowKit
set_option linter.unusedSimpArgs false
set_option linter.unusedVariables false
theorem S9_eq {k : Nat} (hk : 20000 ≤ k) : S9 k = some ((true, ()), ()) := by
 obtain ⟨k, rfl⟩ : ∃ m, k = m + 20000 := ⟨k - 20000, by omega⟩
 kernel_rfl
theorem new24 (k : Nat) {ap : Int} (h1 : 1 ≤ ap) (h2 : ap ≤ 4611686018427387904) : S25 (k + 1000) ap = some (((0, ap, [], [], false, false, false, [], ((List.replicate 12 0, List.replicate 12 false), List.replicate 12 (0, (0, 0), (0, 0), ([], []), (0, []), 0)), [], []), true, ()), ()) := by
 unfold S25
 rw [bif_f (by omega), bif_f (by omega)]
 kernel_rfl
theorem table_TK0 {k : Nat} (hk : 1000 ≤ k) : S11 k TK0 = some ((TK0, ()), ()) := by
 obtain ⟨k, rfl⟩ : ∃ m, k = m + 1000 := ⟨k - 1000, by omega⟩
 kernel_rfl
theorem kernNone_pure {ap pl i : Int} {k : Nat} (hk : 20000 ≤ k) : S4 k ap pl i = some ((true, ()), ()) := by
 have hb := S9_eq hk
 obtain ⟨k, rfl⟩ : ∃ m, k = m + 1000 := ⟨k - 1000, by omega⟩
 unfold S4
 rw [hb, Option.bind_some]
 simp only [Bool.not_true, cond_false]
 by_cases h1 : ap < 1
 ·have e : S25 (k + 1000) ap = some (((0, 0, [], [], false, false, false, [], (([], []), []), [], []), false, ()), ()) := by
   unfold S25
   rw [bif_t h1]
  rw [e, Option.bind_some, bif_f (by omega)]
  rfl
 by_cases h2 : ap > 4611686018427387904
 ·have e : S25 (k + 1000) ap = some (((0, 0, [], [], false, false, false, [], (([], []), []), [], []), false, ()), ()) := by
   unfold S25
   rw [bif_f h1, bif_t h2]
  rw [e, Option.bind_some, bif_t (by omega), decide_eq_false (show ¬ ap ≤ 4611686018427387904 by omega)]
  rfl
 ·rw [new24 k (by omega) (by omega), Option.bind_some, bif_t (by omega), decide_eq_true (show ap ≤ 4611686018427387904 by omega)]
  have e : S26 (k + 1000) ap = some (((0, ap, [], [], false, false, false, [], ((List.replicate 12 0, List.replicate 12 false), List.replicate 12 (0, (0, 0), (0, 0), ([], []), (0, []), 0)), [], []), true, ()), ()) := by
   unfold S26
   rw [bif_f (by omega), bif_f (by omega)]
   kernel_rfl
  have k0 : ∀ (n : Int) (r : Bool), KOK (n, ap, [], [], r, false, false, [], TK0, [], []) := fun n r => ⟨rfl, ⟨by simp, fun t h => by cases h⟩, by simp, by simp, (fun j h => by cases h), by simp, by simp⟩
  have hk1 : 1000 ≤ k + 1000 := by omega
  have r1 : S20 (k + 1000) (0, ap, [], [], false, false, false, [], TK0, [], []) pl i = some (((0, ap, [], [], false, false, false, [], TK0, [], []), [], 8, ()), ()) := by
   unfold S20
   rw [S34_eq hk1 (k0 0 false), Option.bind_some]; rfl
  have r2 : S23 (k + 1000) (0, ap, [], [], false, false, false, [], TK0, [], []) = some (((1, ap, [], [], false, false, false, [], TK0, [], []), [], ()), ()) := by
   unfold S23
   rw [S34_eq hk1 (k0 0 false), Option.bind_some]; rfl
  have r3 : S12 (k + 1000) (1, ap, [], [], false, false, false, [], TK0, [], []) = some (((1, ap, [], [], true, false, false, [], TK0, [], []), 0, ()), ()) := start_new hk1 (k0 1 false)
  have r4 : S12 (k + 1000) (1, ap, [], [], true, false, false, [], TK0, [], []) = some (((1, ap, [], [], true, false, false, [], TK0, [], []), 7, ()), ()) := start_ran hk1 (k0 1 true) rfl
  have r5 : S20 (k + 1000) (1, ap, [], [], true, false, false, [], TK0, [], []) pl i = some (((1, ap, [], [], true, false, false, [], TK0, [], []), [], 3, ()), ()) := by
   unfold S20
   rw [S34_eq hk1 (k0 1 true), Option.bind_some]
   simp only [Bool.not_true, cond_false]
   by_cases h : pl < 0
   ·rw [bif_t h]
   ·rw [bif_f h, bif_t (by simp only [List.length_nil]; omega)]
  have r6 : S15 (k + 1000) (0, ap, [], [], false, false, false, [], TK0, [], []) = some (((0, ap, [], [], false, false, false, [], TK0, [], []), ()), ()) := by
   unfold S15
   simp only
   rw [table_TK0 hk1, Option.bind_some]
  have r7 : S14 (k + 1000) (0, ap, [], [], false, false, false, [], ((List.replicate 12 0, List.replicate 12 false), List.replicate 12 (0, (0, 0), (0, 0), ([], []), (0, []), 0)), [], []) (0, ap, [], [], false, false, false, [], ((List.replicate 12 0, List.replicate 12 false), List.replicate 12 (0, (0, 0), (0, 0), ([], []), (0, []), 0)), [], []) = some ((true, ()), ()) := by
   unfold S14
   simp only [beq_self_eq_true, cond_true]
   kernel_rfl
  simp only [beq_self_eq_true, Bool.not_true, cond_false]
  unfold j4_6
  rw [e, Option.bind_some]
  simp only [Bool.not_true, cond_false]
  rw [r1, Option.bind_some, r2, Option.bind_some]
  simp only
  rw [r3, Option.bind_some]
  simp only
  rw [r4, Option.bind_some, r5, Option.bind_some, r6, Option.bind_some]
  simp only
  rw [r7, Option.bind_some]
  rfl
theorem kernNone_law (ap pl i : Int) (_ : Ty.fine (.int .i64) ap) (_ : Ty.fine (.int .i64) pl) (_ : Ty.fine (.int .i64) i) : ∃ k, S4 k ap pl i = some ((true, ()), ()) := ⟨20000, kernNone_pure (by omega)⟩
end Go.Proofs.YtmmagcjlfcicfaaGreat.Ab
