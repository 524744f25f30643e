import Derived.Test.YtjemccmhbjfnaaaGreatAbY0
/- Contracts, printed by this session's own program gen.py. -/
set_option linter.unusedVariables false
set_option linter.unusedSimpArgs false
set_option maxRecDepth 100000
namespace Go.Proofs.YtjemccmhbjfnaaaGreat.Ab
open Go.RowKit
abbrev Y1_0 : Type := Int × Int × (List (Int × Int × Int × (List (Int × Int × Int × Int)) × (List (Int × Int × Int × Int)) × List (Int × Int × Int × Int))) × (List (PN Int 5)) × Bool × Bool × Bool × (List (Int × Int × Int × Int × (Int × (PN Int 8) × (List (Int × Int × Int)) × Bool) × (Int × (PN Int 8) × (List (Int × Int × Int)) × Bool) × (List Int) × Bool)) × (List Int) × (List Bool) × (List (Int × (Int × Int) × (Int × Int) × ((List Int) × List Int) × (Int × List (Int × Int)) × Int)) × (List Int) × (List Bool) × Int × Int × Int × Int × (List (Int × Int × Int × Int)) × (List (Int × Int × Int × Int)) × (List (Int × Int × Int × Int)) × Int × Int × Int × Int × Int × (List (PN Int 6)) × Int × Int × Int × Int × Unit
abbrev Y1_1 : Ty := .sl 40 (.pair (.int .i64) (.pair (.int .i64) (.pair (.int .i64) (.int .i64))))
abbrev Y1_2 : Ty := .pair (.int .i64) (.pair (.int .i64) (.pair (.int .i64) (.pair (.int .i64) (.pair (.pair (.int .i64) (.pair (arrT 8 (.int .i64)) (.pair (.sl 177 (.pair (.int .i64) (.pair (.int .i64) (.int .i64)))) .bool))) (.pair (.pair (.int .i64) (.pair (arrT 8 (.int .i64)) (.pair (.sl 177 (.pair (.int .i64) (.pair (.int .i64) (.int .i64)))) .bool))) (.pair (.sl 3 (.int .i64)) .bool))))))
abbrev Y1_3 : Type := Int × Int × Int × Int × (Int × (PN Int 8) × (List (Int × Int × Int)) × Bool) × (Int × (PN Int 8) × (List (Int × Int × Int)) × Bool) × (List Int) × Bool
abbrev Y1_4 : Ty := .pair (.int .i64) (.pair (.pair (.int .i64) (.int .i64)) (.pair (.pair (.int .i64) (.int .i64)) (.pair (.pair (.sl 2 (.int .i64)) (.sl 3 (.int .i64))) (.pair (.pair (.int .u32) (.sl 109 (.pair (.int .i64) (.int .u32)))) (.int .u32)))))
abbrev Y1_5 : Type := Int × Int × Int × (List (Int × Int × Int × Int)) × (List (Int × Int × Int × Int)) × List (Int × Int × Int × Int)
abbrev Y1_6 : Type := Int × (Int × Int) × (Int × Int) × ((List Int) × List Int) × (Int × List (Int × Int)) × Int
abbrev Y1_7 : Ty := .pair (.int .i64) (.pair (.int .i64) (.pair (.int .i64) (.pair Y1_1 (.pair Y1_1 Y1_1))))
abbrev Y1_8 : Type := List (Int × Int × Int × Int)
abbrev Y1_9 : Type := (List (Int × Int)) → Int → Int → (List Y1_5) → (List (PN Int 5)) → Bool → Bool → Bool → (List Y1_3) → (List Int) → (List Bool) → (List Y1_6) → (List Int) → (List Bool) → Int → Int → Int → Int → Int → Int → Int → Option ((Bool × Unit) × Unit)
abbrev Y1_10 : Ty := .sl 3 (.int .i64)
abbrev Y1_11 : Ty := .pair (.int .i64) (.int .u32)
abbrev Y1_12 : Type := List (Int × Int)
abbrev Y1_13 : Type := Int × List (Int × Int)
abbrev Y1_14 : Type := ((List Int) × Unit) × Unit
abbrev Y1_15 : Type := (Unit) × Y1_0 × Unit
abbrev Y1_16 : Ty := .pair (.int .i64) (.pair (.int .i64) (.pair (.sl 43 Y1_7) (.pair (.sl 117 (arrT 5 (.int .i64))) (.pair .bool (.pair .bool (.pair .bool (.pair (.sl 124 Y1_2) (.pair (.pair (.pair Y1_10 (.sl 4 .bool)) (.sl 97 Y1_4)) (.pair Y1_10 (.sl 4 .bool))))))))))
abbrev Y1_17 : Type := List (Int × Int)
abbrev Y1_18 : Type := (Int × Unit) × Unit
abbrev Y1_19 : Ty := .sl 117 (arrT 5 (.int .i64))
abbrev Y1_20 : Type := (Y1_13 × (List Int) × Unit) × Unit
abbrev Y1_21 : Type := (Bool × Unit) × Unit
abbrev Y1_22 : Type := Int × Int × (List Y1_5) × (List (PN Int 5)) × Bool × Bool × Bool × (List Y1_3) × (List Int) × (List Bool) × (List Y1_6) × (List Int) × (List Bool) × Unit
abbrev Y1_23 : Ty := .pair (.int .u32) (.sl 109 Y1_11)
abbrev Y1_24 : Type := (Y1_13 × Y1_12 × Unit) × Unit
abbrev Y1_25 : Type := List (Int × Int × Int × Int)
abbrev Y1_26 : Ty := .sl 4 .bool
abbrev Y1_27 : Ty := arrT 6 (.int .i64)
noncomputable section
abbrev c51_L2 : Cut := ⟨[0, 1, 7, 8], [.cell Y1_10, cI, cI, cI], [], 19, []⟩
def l51_2 (k : Nat) (g2 : (List Int) → Int → Int → Int → Option Y1_18) (a : List Int) (b c e : Int) : Option Y1_18 :=
 (bif decide (e < c) then
  ix a e <|
  (bif b == (rd a e 0) then
   some ((e, ()), ())
  else
   g2 a b c (IntKind.i64.wrap (e + 1)))
 else
  some (((-1), ()), ()))
def b51_2 (k : Nat) (g : ((Unit) × (List Int) × Int × Int × Int × Unit) → Option Y1_18) (d : (Unit) × (List Int) × Int × Int × Int × Unit) : Option Y1_18 := l51_2 k (fun a b c e => g ((), a, b, c, e, ())) d.2.1 d.2.2.1 d.2.2.2.1 d.2.2.2.2.1
def L51_2 (k a : Nat) (b : List Int) (c e f : Int) : Option Y1_18 := iter (R := (Int × Unit) × Unit) c51_L2 (b51_2 k) a ((), b, c, e, f, ())
theorem L51_2_s (k a b c e f) : L51_2 k (a + 1) b c e f = l51_2 k (L51_2 k a) b c e f := iter_succ _ _ _ _
def S51 (k : Nat) (a : List Int) (b : Int) : Option Y1_18 :=
 L51_2 k k a b (a.length : Int) 0
def F51 : Fn := ⟨[.val ⟨false, Y1_10, false⟩, .val ⟨false, (.int .i64), false⟩], [.val ⟨false, (.int .i64), true⟩], fun k x => S51 k x.1 x.2.1⟩
theorem ok51 : FnOK Tryz.prog 51 F51 := okF [] [] (fun k => (.loop 2 c51_L2 (b51_2 k) (fun g => .nil) .nil)) trivial Tryz.func51 rfl
def S81 (k : Nat) (a : List Int) (b : Int) : Option Y1_21 :=
 (S51 k a b).bind fun q0 =>
 some ((decide (q0.1.1 ≥ 0), ()), ())
def F81 : Fn := ⟨[.val ⟨false, Y1_10, false⟩, .val ⟨false, (.int .i64), false⟩], [.val ⟨false, .bool, true⟩], fun k x => S81 k x.1 x.2.1⟩
theorem ok81 : FnOK Tryz.prog 81 F81 := okF [(51, F51)] [] (fun k => .nil) ⟨ok51, trivial⟩ Tryz.func81 rfl
def S38 (k : Nat) (a : (List Int) × List Int) (b : Int) : Option ((((List Int) × List Int) × Int × Bool × Bool × Unit) × Unit) :=
 (S77 k a).bind fun q0 =>
 (bif decide (b < 1) then
  some ((q0.1.1, 0, false, false, ()), ())
 else
  (bif decide ((q0.1.1.1.length : Int) > 0) then
   ix q0.1.1.1 0 <|
   sx q0.1.1.1 1 (q0.1.1.1.length : Int) <|
   some (((sub q0.1.1.1 1 (q0.1.1.1.length : Int), q0.1.1.2), rd q0.1.1.1 0 0, true, true, ()), ())
  else
   (S81 k q0.1.1.2 b).bind fun q1 =>
   (bif q1.1.1 then
    some ((q0.1.1, 0, false, false, ()), ())
   else
    (bif decide ((q0.1.1.2.length : Int) ≥ 4) then
     some ((q0.1.1, 0, false, false, ()), ())
    else
     ap q0.1.1.2 ([b] : List Int) 8 fun r2 =>
     some (((q0.1.1.1, r2), 0, false, true, ()), ())))))
def F38 : Fn := ⟨[.val ⟨true, (.pair (.sl 2 (.int .i64)) Y1_10), false⟩, .val ⟨false, (.int .i64), false⟩], [.val ⟨true, (.pair (.sl 2 (.int .i64)) Y1_10), false⟩, .val ⟨false, (.int .i64), true⟩, .val ⟨false, .bool, true⟩, .val ⟨false, .bool, true⟩], fun k x => S38 k x.1 x.2.1⟩
theorem ok38 : FnOK Tryz.prog 38 F38 := okF [(77, F77), (81, F81)] [] (fun k => .nil) ⟨ok77, ok81, trivial⟩ Tryz.func38 rfl
def S18 (k : Nat) (a b : Int) (c : List Y1_5) (e : List (PN Int 5)) (f h i : Bool) (l : List Y1_3) (m : List Int) (n : List Bool) (o : List Y1_6) (p : List Int) (s : List Bool) (t u v w : Int) (y z A : Y1_8) (B C D G H : Int) (I : List (PN Int 6)) (J K M N : Int) : Option Y1_15 :=
 (S34 k a b c e f h i l m n o p s t u v w y z A B C D G H I J K M N 2).bind fun q0 =>
 (bif !q0.1.2.2.1 then
  some ((), q0.2.1, ())
 else
  (S38 k q0.1.2.1.2.2.2.1 q0.2.1.2.2.2.2.2.2.2.2.2.2.2.2.2.2.2.2.2.2.2.2.2.2.1).bind fun q1 =>
  (bif !q1.1.2.2.2.1 then
   some ((), (q0.2.1.1, q0.2.1.2.1, q0.2.1.2.2.1, q0.2.1.2.2.2.1, q0.2.1.2.2.2.2.1, q0.2.1.2.2.2.2.2.1, q0.2.1.2.2.2.2.2.2.1, q0.2.1.2.2.2.2.2.2.2.1, q0.2.1.2.2.2.2.2.2.2.2.1, q0.2.1.2.2.2.2.2.2.2.2.2.1, q0.2.1.2.2.2.2.2.2.2.2.2.2.1, q0.2.1.2.2.2.2.2.2.2.2.2.2.2.1, q0.2.1.2.2.2.2.2.2.2.2.2.2.2.2.1, q0.2.1.2.2.2.2.2.2.2.2.2.2.2.2.2.1, q0.2.1.2.2.2.2.2.2.2.2.2.2.2.2.2.2.1, q0.2.1.2.2.2.2.2.2.2.2.2.2.2.2.2.2.2.1, q0.2.1.2.2.2.2.2.2.2.2.2.2.2.2.2.2.2.2.1, q0.2.1.2.2.2.2.2.2.2.2.2.2.2.2.2.2.2.2.2.1, q0.2.1.2.2.2.2.2.2.2.2.2.2.2.2.2.2.2.2.2.2.1, q0.2.1.2.2.2.2.2.2.2.2.2.2.2.2.2.2.2.2.2.2.2.1, q0.2.1.2.2.2.2.2.2.2.2.2.2.2.2.2.2.2.2.2.2.2.2.1, q0.2.1.2.2.2.2.2.2.2.2.2.2.2.2.2.2.2.2.2.2.2.2.2.1, q0.2.1.2.2.2.2.2.2.2.2.2.2.2.2.2.2.2.2.2.2.2.2.2.2.1, q0.2.1.2.2.2.2.2.2.2.2.2.2.2.2.2.2.2.2.2.2.2.2.2.2.2.1, q0.2.1.2.2.2.2.2.2.2.2.2.2.2.2.2.2.2.2.2.2.2.2.2.2.2.2.1, q0.2.1.2.2.2.2.2.2.2.2.2.2.2.2.2.2.2.2.2.2.2.2.2.2.2.2.2.1, 1, q0.2.1.2.2.2.2.2.2.2.2.2.2.2.2.2.2.2.2.2.2.2.2.2.2.2.2.2.2.2.1, q0.2.1.2.2.2.2.2.2.2.2.2.2.2.2.2.2.2.2.2.2.2.2.2.2.2.2.2.2.2.2.1, q0.2.1.2.2.2.2.2.2.2.2.2.2.2.2.2.2.2.2.2.2.2.2.2.2.2.2.2.2.2.2.2.1, ()), ())
  else
   (bif q1.1.2.2.1 then
    (S37 k ((q0.2.1.2.2.2.2.2.2.2.2.1, q0.2.1.2.2.2.2.2.2.2.2.2.1), q0.2.1.2.2.2.2.2.2.2.2.2.2.1) q0.1.1 (q0.1.2.1.1, q0.1.2.1.2.1, q0.1.2.1.2.2.1, q1.1.1, q0.1.2.1.2.2.2.2)).bind fun q2 =>
    some ((), (q0.2.1.1, q0.2.1.2.1, q0.2.1.2.2.1, q0.2.1.2.2.2.1, q0.2.1.2.2.2.2.1, q0.2.1.2.2.2.2.2.1, q0.2.1.2.2.2.2.2.2.1, q0.2.1.2.2.2.2.2.2.2.1, q2.1.1.1.1, q2.1.1.1.2, q2.1.1.2, q0.2.1.2.2.2.2.2.2.2.2.2.2.2.1, q0.2.1.2.2.2.2.2.2.2.2.2.2.2.2.1, q0.2.1.2.2.2.2.2.2.2.2.2.2.2.2.2.1, q0.2.1.2.2.2.2.2.2.2.2.2.2.2.2.2.2.1, q0.2.1.2.2.2.2.2.2.2.2.2.2.2.2.2.2.2.1, q0.2.1.2.2.2.2.2.2.2.2.2.2.2.2.2.2.2.2.1, q0.2.1.2.2.2.2.2.2.2.2.2.2.2.2.2.2.2.2.2.1, q0.2.1.2.2.2.2.2.2.2.2.2.2.2.2.2.2.2.2.2.2.1, q0.2.1.2.2.2.2.2.2.2.2.2.2.2.2.2.2.2.2.2.2.2.1, q0.2.1.2.2.2.2.2.2.2.2.2.2.2.2.2.2.2.2.2.2.2.2.1, q0.2.1.2.2.2.2.2.2.2.2.2.2.2.2.2.2.2.2.2.2.2.2.2.1, q0.2.1.2.2.2.2.2.2.2.2.2.2.2.2.2.2.2.2.2.2.2.2.2.2.1, q0.2.1.2.2.2.2.2.2.2.2.2.2.2.2.2.2.2.2.2.2.2.2.2.2.2.1, q0.2.1.2.2.2.2.2.2.2.2.2.2.2.2.2.2.2.2.2.2.2.2.2.2.2.2.1, q0.2.1.2.2.2.2.2.2.2.2.2.2.2.2.2.2.2.2.2.2.2.2.2.2.2.2.2.1, q0.2.1.2.2.2.2.2.2.2.2.2.2.2.2.2.2.2.2.2.2.2.2.2.2.2.2.2.2.1, q0.2.1.2.2.2.2.2.2.2.2.2.2.2.2.2.2.2.2.2.2.2.2.2.2.2.2.2.2.2.1, q0.2.1.2.2.2.2.2.2.2.2.2.2.2.2.2.2.2.2.2.2.2.2.2.2.2.2.2.2.2.2.1, q1.1.2.1, ()), ())
   else
    (S37 k ((q0.2.1.2.2.2.2.2.2.2.2.1, q0.2.1.2.2.2.2.2.2.2.2.2.1), q0.2.1.2.2.2.2.2.2.2.2.2.2.1) q0.1.1 (q0.1.2.1.1, q0.1.2.1.2.1, q0.1.2.1.2.2.1, q1.1.1, q0.1.2.1.2.2.2.2)).bind fun q3 =>
    some ((), (q0.2.1.1, q0.2.1.2.1, q0.2.1.2.2.1, q0.2.1.2.2.2.1, q0.2.1.2.2.2.2.1, q0.2.1.2.2.2.2.2.1, q0.2.1.2.2.2.2.2.2.1, q0.2.1.2.2.2.2.2.2.2.1, q3.1.1.1.1, q3.1.1.1.2, q3.1.1.2, q0.2.1.2.2.2.2.2.2.2.2.2.2.2.1, q0.2.1.2.2.2.2.2.2.2.2.2.2.2.2.1, q0.2.1.2.2.2.2.2.2.2.2.2.2.2.2.2.1, q0.2.1.2.2.2.2.2.2.2.2.2.2.2.2.2.2.1, q0.2.1.2.2.2.2.2.2.2.2.2.2.2.2.2.2.2.1, q0.2.1.2.2.2.2.2.2.2.2.2.2.2.2.2.2.2.2.1, q0.2.1.2.2.2.2.2.2.2.2.2.2.2.2.2.2.2.2.2.1, q0.2.1.2.2.2.2.2.2.2.2.2.2.2.2.2.2.2.2.2.2.1, q0.2.1.2.2.2.2.2.2.2.2.2.2.2.2.2.2.2.2.2.2.2.1, q0.2.1.2.2.2.2.2.2.2.2.2.2.2.2.2.2.2.2.2.2.2.2.1, q0.2.1.2.2.2.2.2.2.2.2.2.2.2.2.2.2.2.2.2.2.2.2.2.1, q0.2.1.2.2.2.2.2.2.2.2.2.2.2.2.2.2.2.2.2.2.2.2.2.2.1, q0.2.1.2.2.2.2.2.2.2.2.2.2.2.2.2.2.2.2.2.2.2.2.2.2.2.1, q0.2.1.2.2.2.2.2.2.2.2.2.2.2.2.2.2.2.2.2.2.2.2.2.2.2.2.1, q0.2.1.2.2.2.2.2.2.2.2.2.2.2.2.2.2.2.2.2.2.2.2.2.2.2.2.2.1, 16, q0.2.1.2.2.2.2.2.2.2.2.2.2.2.2.2.2.2.2.2.2.2.2.2.2.2.2.2.2.2.1, q0.2.1.2.2.2.2.2.2.2.2.2.2.2.2.2.2.2.2.2.2.2.2.2.2.2.2.2.2.2.2.1, q0.2.1.2.2.2.2.2.2.2.2.2.2.2.2.2.2.2.2.2.2.2.2.2.2.2.2.2.2.2.2.2.1, ()), ()))))
def F18 : Fn := ⟨[.mbox 71 [cI, cI, .cell (.sl 43 Y1_7), .cell Y1_19, .cell .bool, .cell .bool, .cell .bool, .cell (.sl 124 Y1_2), .cell Y1_10, .cell Y1_26, .cell (.sl 97 Y1_4), .cell Y1_10, .cell Y1_26, cI, cI, cI, cI, .cell Y1_1, .cell Y1_1, .cell Y1_1, cI, cI, cI, cI, .cell (.int .u32), .own 58 Y1_27, cI, cI, cI, cI]], [], fun k x => S18 k x.1.1 x.1.2.1 x.1.2.2.1 x.1.2.2.2.1 x.1.2.2.2.2.1 x.1.2.2.2.2.2.1 x.1.2.2.2.2.2.2.1 x.1.2.2.2.2.2.2.2.1 x.1.2.2.2.2.2.2.2.2.1 x.1.2.2.2.2.2.2.2.2.2.1 x.1.2.2.2.2.2.2.2.2.2.2.1 x.1.2.2.2.2.2.2.2.2.2.2.2.1 x.1.2.2.2.2.2.2.2.2.2.2.2.2.1 x.1.2.2.2.2.2.2.2.2.2.2.2.2.2.1 x.1.2.2.2.2.2.2.2.2.2.2.2.2.2.2.1 x.1.2.2.2.2.2.2.2.2.2.2.2.2.2.2.2.1 x.1.2.2.2.2.2.2.2.2.2.2.2.2.2.2.2.2.1 x.1.2.2.2.2.2.2.2.2.2.2.2.2.2.2.2.2.2.1 x.1.2.2.2.2.2.2.2.2.2.2.2.2.2.2.2.2.2.2.1 x.1.2.2.2.2.2.2.2.2.2.2.2.2.2.2.2.2.2.2.2.1 x.1.2.2.2.2.2.2.2.2.2.2.2.2.2.2.2.2.2.2.2.2.1 x.1.2.2.2.2.2.2.2.2.2.2.2.2.2.2.2.2.2.2.2.2.2.1 x.1.2.2.2.2.2.2.2.2.2.2.2.2.2.2.2.2.2.2.2.2.2.2.1 x.1.2.2.2.2.2.2.2.2.2.2.2.2.2.2.2.2.2.2.2.2.2.2.2.1 x.1.2.2.2.2.2.2.2.2.2.2.2.2.2.2.2.2.2.2.2.2.2.2.2.2.1 x.1.2.2.2.2.2.2.2.2.2.2.2.2.2.2.2.2.2.2.2.2.2.2.2.2.2.1 x.1.2.2.2.2.2.2.2.2.2.2.2.2.2.2.2.2.2.2.2.2.2.2.2.2.2.2.1 x.1.2.2.2.2.2.2.2.2.2.2.2.2.2.2.2.2.2.2.2.2.2.2.2.2.2.2.2.1 x.1.2.2.2.2.2.2.2.2.2.2.2.2.2.2.2.2.2.2.2.2.2.2.2.2.2.2.2.2.1 x.1.2.2.2.2.2.2.2.2.2.2.2.2.2.2.2.2.2.2.2.2.2.2.2.2.2.2.2.2.2.1⟩
theorem ok18 : FnOK Tryz.prog 18 F18 := okF [(34, F34), (37, F37), (38, F38)] [] (fun k => .nil) ⟨ok34, ok37, ok38, trivial⟩ Tryz.func18 rfl
abbrev c39_L3 : Cut := ⟨[4, 5, 15, 16, 17], [.box 95 [.cell (.int .u32), .own 109 Y1_11], .own 109 Y1_11, .cell (.sl 109 Y1_11), cI, cI], [], 49, []⟩
def l39_3 (k : Nat) (g3 : Int → Y1_12 → Y1_12 → Y1_12 → Int → Int → Option Y1_24) (x : Int) (a b c : Y1_17) (e f : Int) : Option Y1_24 :=
 (bif decide (f < e) then
  ix c f <|
  (bif (iand .u32 x (rd c f (0, 0)).2) == 0 then
   ap a ([rd c f (0, 0)] : List (Int × Int)) 16 fun r0 =>
   g3 x r0 b c e (IntKind.i64.wrap (f + 1))
  else
   ap b ([((rd c f (0, 0)).1, iand .u32 x (rd c f (0, 0)).2)] : List (Int × Int)) 16 fun r1 =>
   g3 (iandn .u32 x (iand .u32 x (rd c f (0, 0)).2)) a r1 c e (IntKind.i64.wrap (f + 1)))
 else
  some (((x, a), b, ()), ()))
def b39_3 (k : Nat) (g : ((Unit) × (Int × Y1_12 × Unit) × Y1_12 × Y1_12 × Int × Int × Unit) → Option Y1_24) (d : (Unit) × (Int × Y1_12 × Unit) × Y1_12 × Y1_12 × Int × Int × Unit) : Option Y1_24 := l39_3 k (fun x a b c e f => g ((), (x, a, ()), b, c, e, f, ())) d.2.1.1 d.2.1.2.1 d.2.2.1 d.2.2.2.1 d.2.2.2.2.1 d.2.2.2.2.2.1
def L39_3 (k a : Nat) (x : Int) (b c e : Y1_17) (f h : Int) : Option Y1_24 := iter (R := (Y1_13 × Y1_12 × Unit) × Unit) c39_L3 (b39_3 k) a ((), (x, b, ()), c, e, f, h, ())
theorem L39_3_s (k a x b c e f h) : L39_3 k (a + 1) x b c e f h = l39_3 k (L39_3 k a) x b c e f h := iter_succ _ _ _ _
def S39 (k : Nat) (a : Int × List (Int × Int)) (b : Int) : Option Y1_24 :=
 L39_3 k k (ior .u32 a.1 b) ([] : List (Int × Int)) ([] : List (Int × Int)) a.2 (a.2.length : Int) 0
def F39 : Fn := ⟨[.val ⟨true, Y1_23, false⟩, .val ⟨false, (.int .u32), false⟩], [.val ⟨true, Y1_23, true⟩, .val ⟨false, (.sl 109 Y1_11), true⟩], fun k x => S39 k x.1 x.2.1⟩
theorem ok39 : FnOK Tryz.prog 39 F39 := okF [] [(4, 2), (5, 2)] (fun k => (.loop 3 c39_L3 (b39_3 k) (fun g => .nil) .nil)) trivial Tryz.func39 rfl
abbrev c19_L4 : Cut := ⟨[0, 2, 3, 5, 28, 29, 30], [.pin false 0, cI, .box 97 [cI, cI, cI, cI, cI, .cell (.sl 2 (.int .i64)), .cell Y1_10, .cell (.int .u32), .cell (.sl 109 Y1_11), .cell (.int .u32)], .box 95 [.cell (.int .u32), .own 109 Y1_11], .own 109 Y1_11, cI, cI], [.mbox 71 [cI, cI, .cell (.sl 43 Y1_7), .cell Y1_19, .cell .bool, .cell .bool, .cell .bool, .cell (.sl 124 Y1_2), .cell Y1_10, .cell Y1_26, .cell (.sl 97 Y1_4), .cell Y1_10, .cell Y1_26, cI, cI, cI, cI, .cell Y1_1, .cell Y1_1, .cell Y1_1, cI, cI, cI, cI, .cell (.int .u32), .own 58 Y1_27, cI, cI, cI, cI]], 56, []⟩
def l19_4 (k : Nat) (g4 : Int → Int → (List Y1_5) → (List (PN Int 5)) → Bool → Bool → Bool → (List Y1_3) → (List Int) → (List Bool) → (List Y1_6) → (List Int) → (List Bool) → Int → Int → Int → Int → Y1_25 → Y1_25 → Y1_25 → Int → Int → Int → Int → Int → (List (PN Int 6)) → Int → Int → Int → Int → Int → Int → Int → Int → Int → Int → (List Int) → (List Int) → Int → Y1_12 → Int → Int → Y1_12 → Y1_12 → Int → Int → Option Y1_15) (a b : Int) (c : List Y1_5) (e : List (PN Int 5)) (f h i : Bool) (l : List Y1_3) (m : List Int) (n : List Bool) (o : List Y1_6) (p : List Int) (s : List Bool) (t u v w : Int) (y z A : Y1_8) (B C D G H : Int) (I : List (PN Int 6)) (J K M N O x P Q T U : Int) (V W : List Int) (X : Int) (Z : Y1_17) (a1 b1 : Int) (c1 e1 : Y1_17) (f1 h1 : Int) : Option Y1_15 :=
 (bif decide (h1 < f1) then
  ix e1 h1 <|
  (S36 k a b c e f h i l m n o p s t u v w y z A B C D G H I J K M N (rd e1 h1 (0, 0)).1 (IntKind.i64.wrap (rd e1 h1 (0, 0)).2) 0).bind fun q2 =>
  g4 q2.2.1.1 q2.2.1.2.1 q2.2.1.2.2.1 q2.2.1.2.2.2.1 q2.2.1.2.2.2.2.1 q2.2.1.2.2.2.2.2.1 q2.2.1.2.2.2.2.2.2.1 q2.2.1.2.2.2.2.2.2.2.1 q2.2.1.2.2.2.2.2.2.2.2.1 q2.2.1.2.2.2.2.2.2.2.2.2.1 q2.2.1.2.2.2.2.2.2.2.2.2.2.1 q2.2.1.2.2.2.2.2.2.2.2.2.2.2.1 q2.2.1.2.2.2.2.2.2.2.2.2.2.2.2.1 q2.2.1.2.2.2.2.2.2.2.2.2.2.2.2.2.1 q2.2.1.2.2.2.2.2.2.2.2.2.2.2.2.2.2.1 q2.2.1.2.2.2.2.2.2.2.2.2.2.2.2.2.2.2.1 q2.2.1.2.2.2.2.2.2.2.2.2.2.2.2.2.2.2.2.1 q2.2.1.2.2.2.2.2.2.2.2.2.2.2.2.2.2.2.2.2.1 q2.2.1.2.2.2.2.2.2.2.2.2.2.2.2.2.2.2.2.2.2.1 q2.2.1.2.2.2.2.2.2.2.2.2.2.2.2.2.2.2.2.2.2.2.1 q2.2.1.2.2.2.2.2.2.2.2.2.2.2.2.2.2.2.2.2.2.2.2.1 q2.2.1.2.2.2.2.2.2.2.2.2.2.2.2.2.2.2.2.2.2.2.2.2.1 q2.2.1.2.2.2.2.2.2.2.2.2.2.2.2.2.2.2.2.2.2.2.2.2.2.1 q2.2.1.2.2.2.2.2.2.2.2.2.2.2.2.2.2.2.2.2.2.2.2.2.2.2.1 q2.2.1.2.2.2.2.2.2.2.2.2.2.2.2.2.2.2.2.2.2.2.2.2.2.2.2.1 q2.2.1.2.2.2.2.2.2.2.2.2.2.2.2.2.2.2.2.2.2.2.2.2.2.2.2.2.1 q2.2.1.2.2.2.2.2.2.2.2.2.2.2.2.2.2.2.2.2.2.2.2.2.2.2.2.2.2.1 q2.2.1.2.2.2.2.2.2.2.2.2.2.2.2.2.2.2.2.2.2.2.2.2.2.2.2.2.2.2.1 q2.2.1.2.2.2.2.2.2.2.2.2.2.2.2.2.2.2.2.2.2.2.2.2.2.2.2.2.2.2.2.1 q2.2.1.2.2.2.2.2.2.2.2.2.2.2.2.2.2.2.2.2.2.2.2.2.2.2.2.2.2.2.2.2.1 O x P Q T U V W X Z a1 b1 c1 e1 f1 (IntKind.i64.wrap (h1 + 1))
 else
  (S37 k ((m, n), o) O (x, (P, Q), (T, U), (V, W), (b1, c1), a1)).bind fun q3 =>
  some ((), (a, b, c, e, f, h, i, l, q3.1.1.1.1, q3.1.1.1.2, q3.1.1.2, p, s, t, u, v, w, y, z, A, B, C, D, G, H, I, J, K, M, N, ()), ()))
def b19_4 (k : Nat) (g : ((Y1_0 × Unit) × Unit × Int × (Int × Int × Int × Int × Int × (List Int) × (List Int) × Int × Y1_12 × Int × Unit) × (Int × Y1_12 × Unit) × Y1_12 × Int × Int × Unit) → Option Y1_15) (d : (Y1_0 × Unit) × Unit × Int × (Int × Int × Int × Int × Int × (List Int) × (List Int) × Int × Y1_12 × Int × Unit) × (Int × Y1_12 × Unit) × Y1_12 × Int × Int × Unit) : Option Y1_15 := l19_4 k (fun a b c e f h i l m n o p s t u v w y z A B C D G H I J K M N O x P Q T U V W X Z a1 b1 c1 e1 f1 h1 => g (((a, b, c, e, f, h, i, l, m, n, o, p, s, t, u, v, w, y, z, A, B, C, D, G, H, I, J, K, M, N, ()), ()), (), O, (x, P, Q, T, U, V, W, X, Z, a1, ()), (b1, c1, ()), e1, f1, h1, ())) d.1.1.1 d.1.1.2.1 d.1.1.2.2.1 d.1.1.2.2.2.1 d.1.1.2.2.2.2.1 d.1.1.2.2.2.2.2.1 d.1.1.2.2.2.2.2.2.1 d.1.1.2.2.2.2.2.2.2.1 d.1.1.2.2.2.2.2.2.2.2.1 d.1.1.2.2.2.2.2.2.2.2.2.1 d.1.1.2.2.2.2.2.2.2.2.2.2.1 d.1.1.2.2.2.2.2.2.2.2.2.2.2.1 d.1.1.2.2.2.2.2.2.2.2.2.2.2.2.1 d.1.1.2.2.2.2.2.2.2.2.2.2.2.2.2.1 d.1.1.2.2.2.2.2.2.2.2.2.2.2.2.2.2.1 d.1.1.2.2.2.2.2.2.2.2.2.2.2.2.2.2.2.1 d.1.1.2.2.2.2.2.2.2.2.2.2.2.2.2.2.2.2.1 d.1.1.2.2.2.2.2.2.2.2.2.2.2.2.2.2.2.2.2.1 d.1.1.2.2.2.2.2.2.2.2.2.2.2.2.2.2.2.2.2.2.1 d.1.1.2.2.2.2.2.2.2.2.2.2.2.2.2.2.2.2.2.2.2.1 d.1.1.2.2.2.2.2.2.2.2.2.2.2.2.2.2.2.2.2.2.2.2.1 d.1.1.2.2.2.2.2.2.2.2.2.2.2.2.2.2.2.2.2.2.2.2.2.1 d.1.1.2.2.2.2.2.2.2.2.2.2.2.2.2.2.2.2.2.2.2.2.2.2.1 d.1.1.2.2.2.2.2.2.2.2.2.2.2.2.2.2.2.2.2.2.2.2.2.2.2.1 d.1.1.2.2.2.2.2.2.2.2.2.2.2.2.2.2.2.2.2.2.2.2.2.2.2.2.1 d.1.1.2.2.2.2.2.2.2.2.2.2.2.2.2.2.2.2.2.2.2.2.2.2.2.2.2.1 d.1.1.2.2.2.2.2.2.2.2.2.2.2.2.2.2.2.2.2.2.2.2.2.2.2.2.2.2.1 d.1.1.2.2.2.2.2.2.2.2.2.2.2.2.2.2.2.2.2.2.2.2.2.2.2.2.2.2.2.1 d.1.1.2.2.2.2.2.2.2.2.2.2.2.2.2.2.2.2.2.2.2.2.2.2.2.2.2.2.2.2.1 d.1.1.2.2.2.2.2.2.2.2.2.2.2.2.2.2.2.2.2.2.2.2.2.2.2.2.2.2.2.2.2.1 d.2.2.1 d.2.2.2.1.1 d.2.2.2.1.2.1 d.2.2.2.1.2.2.1 d.2.2.2.1.2.2.2.1 d.2.2.2.1.2.2.2.2.1 d.2.2.2.1.2.2.2.2.2.1 d.2.2.2.1.2.2.2.2.2.2.1 d.2.2.2.1.2.2.2.2.2.2.2.1 d.2.2.2.1.2.2.2.2.2.2.2.2.1 d.2.2.2.1.2.2.2.2.2.2.2.2.2.1 d.2.2.2.2.1.1 d.2.2.2.2.1.2.1 d.2.2.2.2.2.1 d.2.2.2.2.2.2.1 d.2.2.2.2.2.2.2.1
def L19_4 (k a : Nat) (b c : Int) (e : List Y1_5) (f : List (PN Int 5)) (h i l : Bool) (m : List Y1_3) (n : List Int) (o : List Bool) (p : List Y1_6) (s : List Int) (t : List Bool) (u v w y : Int) (z A B : Y1_8) (C D G H I : Int) (J : List (PN Int 6)) (K M N O P x Q T U V : Int) (W X : List Int) (Z : Int) (a1 : Y1_17) (b1 c1 : Int) (e1 f1 : Y1_17) (h1 i1 : Int) : Option Y1_15 := iter (R := (Unit) × Y1_0 × Unit) c19_L4 (b19_4 k) a (((b, c, e, f, h, i, l, m, n, o, p, s, t, u, v, w, y, z, A, B, C, D, G, H, I, J, K, M, N, O, ()), ()), (), P, (x, Q, T, U, V, W, X, Z, a1, b1, ()), (c1, e1, ()), f1, h1, i1, ())
theorem L19_4_s (k a b c e f h i l m n o p s t u v w y z A B C D G H I J K M N O P x Q T U V W X Z a1 b1 c1 e1 f1 h1 i1) : L19_4 k (a + 1) b c e f h i l m n o p s t u v w y z A B C D G H I J K M N O P x Q T U V W X Z a1 b1 c1 e1 f1 h1 i1 = l19_4 k (L19_4 k a) b c e f h i l m n o p s t u v w y z A B C D G H I J K M N O P x Q T U V W X Z a1 b1 c1 e1 f1 h1 i1 := iter_succ _ _ _ _
def S19 (k : Nat) (a b : Int) (c : List Y1_5) (e : List (PN Int 5)) (f h i : Bool) (l : List Y1_3) (m : List Int) (n : List Bool) (o : List Y1_6) (p : List Int) (s : List Bool) (t u v w : Int) (y z A : Y1_8) (B C D G H : Int) (I : List (PN Int 6)) (J K M N : Int) : Option Y1_15 :=
 (S34 k a b c e f h i l m n o p s t u v w y z A B C D G H I J K M N 3).bind fun q0 =>
 (bif !q0.1.2.2.1 then
  some ((), q0.2.1, ())
 else
  (S39 k q0.1.2.1.2.2.2.2.1 q0.2.1.2.2.2.2.2.2.2.2.2.2.2.2.2.2.2.2.2.2.2.2.2.2.2.2.1).bind fun q1 =>
  L19_4 k k q0.2.1.1 q0.2.1.2.1 q0.2.1.2.2.1 q0.2.1.2.2.2.1 q0.2.1.2.2.2.2.1 q0.2.1.2.2.2.2.2.1 q0.2.1.2.2.2.2.2.2.1 q0.2.1.2.2.2.2.2.2.2.1 q0.2.1.2.2.2.2.2.2.2.2.1 q0.2.1.2.2.2.2.2.2.2.2.2.1 q0.2.1.2.2.2.2.2.2.2.2.2.2.1 q0.2.1.2.2.2.2.2.2.2.2.2.2.2.1 q0.2.1.2.2.2.2.2.2.2.2.2.2.2.2.1 q0.2.1.2.2.2.2.2.2.2.2.2.2.2.2.2.1 q0.2.1.2.2.2.2.2.2.2.2.2.2.2.2.2.2.1 q0.2.1.2.2.2.2.2.2.2.2.2.2.2.2.2.2.2.1 q0.2.1.2.2.2.2.2.2.2.2.2.2.2.2.2.2.2.2.1 q0.2.1.2.2.2.2.2.2.2.2.2.2.2.2.2.2.2.2.2.1 q0.2.1.2.2.2.2.2.2.2.2.2.2.2.2.2.2.2.2.2.2.1 q0.2.1.2.2.2.2.2.2.2.2.2.2.2.2.2.2.2.2.2.2.2.1 q0.2.1.2.2.2.2.2.2.2.2.2.2.2.2.2.2.2.2.2.2.2.2.1 q0.2.1.2.2.2.2.2.2.2.2.2.2.2.2.2.2.2.2.2.2.2.2.2.1 q0.2.1.2.2.2.2.2.2.2.2.2.2.2.2.2.2.2.2.2.2.2.2.2.2.1 q0.2.1.2.2.2.2.2.2.2.2.2.2.2.2.2.2.2.2.2.2.2.2.2.2.2.1 q0.2.1.2.2.2.2.2.2.2.2.2.2.2.2.2.2.2.2.2.2.2.2.2.2.2.2.1 q0.2.1.2.2.2.2.2.2.2.2.2.2.2.2.2.2.2.2.2.2.2.2.2.2.2.2.2.1 q0.2.1.2.2.2.2.2.2.2.2.2.2.2.2.2.2.2.2.2.2.2.2.2.2.2.2.2.2.1 q0.2.1.2.2.2.2.2.2.2.2.2.2.2.2.2.2.2.2.2.2.2.2.2.2.2.2.2.2.2.1 q0.2.1.2.2.2.2.2.2.2.2.2.2.2.2.2.2.2.2.2.2.2.2.2.2.2.2.2.2.2.2.1 q0.2.1.2.2.2.2.2.2.2.2.2.2.2.2.2.2.2.2.2.2.2.2.2.2.2.2.2.2.2.2.2.1 q0.1.1 q0.1.2.1.1 q0.1.2.1.2.1.1 q0.1.2.1.2.1.2 q0.1.2.1.2.2.1.1 q0.1.2.1.2.2.1.2 q0.1.2.1.2.2.2.1.1 q0.1.2.1.2.2.2.1.2 q0.1.2.1.2.2.2.2.1.1 q0.1.2.1.2.2.2.2.1.2 q0.1.2.1.2.2.2.2.2 q1.1.1.1 q1.1.1.2 q1.1.2.1 (q1.1.2.1.length : Int) 0)
def F19 : Fn := ⟨[.mbox 71 [cI, cI, .cell (.sl 43 Y1_7), .cell Y1_19, .cell .bool, .cell .bool, .cell .bool, .cell (.sl 124 Y1_2), .cell Y1_10, .cell Y1_26, .cell (.sl 97 Y1_4), .cell Y1_10, .cell Y1_26, cI, cI, cI, cI, .cell Y1_1, .cell Y1_1, .cell Y1_1, cI, cI, cI, cI, .cell (.int .u32), .own 58 Y1_27, cI, cI, cI, cI]], [], fun k x => S19 k x.1.1 x.1.2.1 x.1.2.2.1 x.1.2.2.2.1 x.1.2.2.2.2.1 x.1.2.2.2.2.2.1 x.1.2.2.2.2.2.2.1 x.1.2.2.2.2.2.2.2.1 x.1.2.2.2.2.2.2.2.2.1 x.1.2.2.2.2.2.2.2.2.2.1 x.1.2.2.2.2.2.2.2.2.2.2.1 x.1.2.2.2.2.2.2.2.2.2.2.2.1 x.1.2.2.2.2.2.2.2.2.2.2.2.2.1 x.1.2.2.2.2.2.2.2.2.2.2.2.2.2.1 x.1.2.2.2.2.2.2.2.2.2.2.2.2.2.2.1 x.1.2.2.2.2.2.2.2.2.2.2.2.2.2.2.2.1 x.1.2.2.2.2.2.2.2.2.2.2.2.2.2.2.2.2.1 x.1.2.2.2.2.2.2.2.2.2.2.2.2.2.2.2.2.2.1 x.1.2.2.2.2.2.2.2.2.2.2.2.2.2.2.2.2.2.2.1 x.1.2.2.2.2.2.2.2.2.2.2.2.2.2.2.2.2.2.2.2.1 x.1.2.2.2.2.2.2.2.2.2.2.2.2.2.2.2.2.2.2.2.2.1 x.1.2.2.2.2.2.2.2.2.2.2.2.2.2.2.2.2.2.2.2.2.2.1 x.1.2.2.2.2.2.2.2.2.2.2.2.2.2.2.2.2.2.2.2.2.2.2.1 x.1.2.2.2.2.2.2.2.2.2.2.2.2.2.2.2.2.2.2.2.2.2.2.2.1 x.1.2.2.2.2.2.2.2.2.2.2.2.2.2.2.2.2.2.2.2.2.2.2.2.2.1 x.1.2.2.2.2.2.2.2.2.2.2.2.2.2.2.2.2.2.2.2.2.2.2.2.2.2.1 x.1.2.2.2.2.2.2.2.2.2.2.2.2.2.2.2.2.2.2.2.2.2.2.2.2.2.2.1 x.1.2.2.2.2.2.2.2.2.2.2.2.2.2.2.2.2.2.2.2.2.2.2.2.2.2.2.2.1 x.1.2.2.2.2.2.2.2.2.2.2.2.2.2.2.2.2.2.2.2.2.2.2.2.2.2.2.2.2.1 x.1.2.2.2.2.2.2.2.2.2.2.2.2.2.2.2.2.2.2.2.2.2.2.2.2.2.2.2.2.2.1⟩
theorem ok19 : FnOK Tryz.prog 19 F19 := okF [(34, F34), (36, F36), (37, F37), (39, F39)] [] (fun k => (.loop 4 c19_L4 (b19_4 k) (fun g => .nil) .nil)) ⟨ok34, ok36, ok37, ok39, trivial⟩ Tryz.func19 rfl
def S84 (k : Nat) (a : Int × Int) (b : Int) : Option Y1_21 :=
 some ((a.1 == b, ()), ())
def F84 : Fn := ⟨[.val ⟨true, Y1_11, false⟩, .pv (.ref (.int .i64))], [.val ⟨false, .bool, true⟩], fun k x => S84 k x.1 x.2.1⟩
theorem ok84 : FnOK Tryz.prog 84 F84 := okF [] [] (fun k => .nil) trivial Tryz.func84 rfl
abbrev c127_L2 : Cut := ⟨[0, 1, 7, 8], [.cell (.sl 109 Y1_11), .clo 84 [.ref (.int .i64)], cI, cI], [], 19, []⟩
def l127_2 (k : Nat) (g2 : Y1_12 → Int → Int → Int → Option Y1_18) (a : Y1_17) (b c e : Int) : Option Y1_18 :=
 (bif decide (e < c) then
  ix a e <|
  (S84 k (rd a e (0, 0)) b).bind fun q0 =>
  (bif q0.1.1 then
   some ((e, ()), ())
  else
   g2 a b c (IntKind.i64.wrap (e + 1)))
 else
  some (((-1), ()), ()))
def b127_2 (k : Nat) (g : ((Unit) × Y1_12 × (Int × Unit) × Int × Int × Unit) → Option Y1_18) (d : (Unit) × Y1_12 × (Int × Unit) × Int × Int × Unit) : Option Y1_18 := l127_2 k (fun a b c e => g ((), a, (b, ()), c, e, ())) d.2.1 d.2.2.1.1 d.2.2.2.1 d.2.2.2.2.1
def L127_2 (k a : Nat) (b : Y1_17) (c e f : Int) : Option Y1_18 := iter (R := (Int × Unit) × Unit) c127_L2 (b127_2 k) a ((), b, (c, ()), e, f, ())
theorem L127_2_s (k a b c e f) : L127_2 k (a + 1) b c e f = l127_2 k (L127_2 k a) b c e f := iter_succ _ _ _ _
def S127 (k : Nat) (a : Y1_17) (b : Int) : Option Y1_18 :=
 L127_2 k k a b (a.length : Int) 0
def F127 : Fn := ⟨[.val ⟨false, (.sl 109 Y1_11), false⟩, .pv (.clo 84 [.ref (.int .i64)])], [.val ⟨false, (.int .i64), true⟩], fun k x => S127 k x.1 x.2.1.1⟩
theorem ok127 : FnOK Tryz.prog 127 F127 := okF [(84, F84)] [] (fun k => (.loop 2 c127_L2 (b127_2 k) (fun g => .nil) .nil)) ⟨ok84, trivial⟩ Tryz.func127 rfl
def S83 (k : Nat) (a : Y1_17) (b : Int) : Option Y1_21 :=
 (S127 k a b).bind fun q0 =>
 some ((decide (q0.1.1 ≥ 0), ()), ())
def F83 : Fn := ⟨[.val ⟨false, (.sl 109 Y1_11), false⟩, .pv (.clo 84 [.ref (.int .i64)])], [.val ⟨false, .bool, true⟩], fun k x => S83 k x.1 x.2.1.1⟩
theorem ok83 : FnOK Tryz.prog 83 F83 := okF [(127, F127)] [] (fun k => .nil) ⟨ok127, trivial⟩ Tryz.func83 rfl
def S40 (k : Nat) (a : Int × List (Int × Int)) (b c : Int) : Option ((Y1_13 × Int × Bool × Unit) × Unit) :=
 (S82 k a.2).bind fun q0 =>
 (bif decide (b < 1) then
  some (((a.1, q0.1.1), 0, false, ()), ())
 else
  (bif c == 0 then
   some (((a.1, q0.1.1), 0, false, ()), ())
  else
   (bif (iand .u32 a.1 c) != 0 then
    some (((iandn .u32 a.1 (iand .u32 a.1 c), q0.1.1), iand .u32 a.1 c, true, ()), ())
   else
    (bif decide ((a.2.length : Int) ≥ 4) then
     some (((a.1, q0.1.1), 0, false, ()), ())
    else
     (S83 k a.2 b).bind fun q1 =>
     (bif q1.1.1 then
      some (((a.1, q0.1.1), 0, false, ()), ())
     else
      ap q0.1.1 ([(b, c)] : List (Int × Int)) 16 fun r2 =>
      some (((a.1, r2), 0, true, ()), ()))))))
def F40 : Fn := ⟨[.val ⟨true, Y1_23, false⟩, .val ⟨false, (.int .i64), false⟩, .val ⟨false, (.int .u32), false⟩], [.val ⟨true, Y1_23, true⟩, .val ⟨false, (.int .u32), true⟩, .val ⟨false, .bool, true⟩], fun k x => S40 k x.1 x.2.1 x.2.2.1⟩
theorem ok40 : FnOK Tryz.prog 40 F40 := okF [(82, F82), (83, F83)] [] (fun k => .nil) ⟨ok82, ok83, trivial⟩ Tryz.func40 rfl
def S20 (k : Nat) (a b : Int) (c : List Y1_5) (e : List (PN Int 5)) (f h i : Bool) (l : List Y1_3) (m : List Int) (n : List Bool) (o : List Y1_6) (p : List Int) (s : List Bool) (t u v w : Int) (y z A : Y1_8) (B C D G H : Int) (I : List (PN Int 6)) (J K M N : Int) : Option Y1_15 :=
 (S34 k a b c e f h i l m n o p s t u v w y z A B C D G H I J K M N 3).bind fun q0 =>
 (bif !q0.1.2.2.1 then
  some ((), q0.2.1, ())
 else
  (S40 k q0.1.2.1.2.2.2.2.1 q0.2.1.2.2.2.2.2.2.2.2.2.2.2.2.2.2.2.2.2.2.2.2.2.2.1 q0.2.1.2.2.2.2.2.2.2.2.2.2.2.2.2.2.2.2.2.2.2.2.2.2.2.2.1).bind fun q1 =>
  (bif !q1.1.2.2.1 then
   some ((), (q0.2.1.1, q0.2.1.2.1, q0.2.1.2.2.1, q0.2.1.2.2.2.1, q0.2.1.2.2.2.2.1, q0.2.1.2.2.2.2.2.1, q0.2.1.2.2.2.2.2.2.1, q0.2.1.2.2.2.2.2.2.2.1, q0.2.1.2.2.2.2.2.2.2.2.1, q0.2.1.2.2.2.2.2.2.2.2.2.1, q0.2.1.2.2.2.2.2.2.2.2.2.2.1, q0.2.1.2.2.2.2.2.2.2.2.2.2.2.1, q0.2.1.2.2.2.2.2.2.2.2.2.2.2.2.1, q0.2.1.2.2.2.2.2.2.2.2.2.2.2.2.2.1, q0.2.1.2.2.2.2.2.2.2.2.2.2.2.2.2.2.1, q0.2.1.2.2.2.2.2.2.2.2.2.2.2.2.2.2.2.1, q0.2.1.2.2.2.2.2.2.2.2.2.2.2.2.2.2.2.2.1, q0.2.1.2.2.2.2.2.2.2.2.2.2.2.2.2.2.2.2.2.1, q0.2.1.2.2.2.2.2.2.2.2.2.2.2.2.2.2.2.2.2.2.1, q0.2.1.2.2.2.2.2.2.2.2.2.2.2.2.2.2.2.2.2.2.2.1, q0.2.1.2.2.2.2.2.2.2.2.2.2.2.2.2.2.2.2.2.2.2.2.1, q0.2.1.2.2.2.2.2.2.2.2.2.2.2.2.2.2.2.2.2.2.2.2.2.1, q0.2.1.2.2.2.2.2.2.2.2.2.2.2.2.2.2.2.2.2.2.2.2.2.2.1, q0.2.1.2.2.2.2.2.2.2.2.2.2.2.2.2.2.2.2.2.2.2.2.2.2.2.1, q0.2.1.2.2.2.2.2.2.2.2.2.2.2.2.2.2.2.2.2.2.2.2.2.2.2.2.1, q0.2.1.2.2.2.2.2.2.2.2.2.2.2.2.2.2.2.2.2.2.2.2.2.2.2.2.2.1, 1, q0.2.1.2.2.2.2.2.2.2.2.2.2.2.2.2.2.2.2.2.2.2.2.2.2.2.2.2.2.2.1, q0.2.1.2.2.2.2.2.2.2.2.2.2.2.2.2.2.2.2.2.2.2.2.2.2.2.2.2.2.2.2.1, q0.2.1.2.2.2.2.2.2.2.2.2.2.2.2.2.2.2.2.2.2.2.2.2.2.2.2.2.2.2.2.2.1, ()), ())
  else
   (bif q1.1.2.1 == 0 then
    (S37 k ((q0.2.1.2.2.2.2.2.2.2.2.1, q0.2.1.2.2.2.2.2.2.2.2.2.1), q0.2.1.2.2.2.2.2.2.2.2.2.2.1) q0.1.1 (q0.1.2.1.1, q0.1.2.1.2.1, q0.1.2.1.2.2.1, q0.1.2.1.2.2.2.1, q1.1.1, q0.1.2.1.2.2.2.2.2)).bind fun q2 =>
    some ((), (q0.2.1.1, q0.2.1.2.1, q0.2.1.2.2.1, q0.2.1.2.2.2.1, q0.2.1.2.2.2.2.1, q0.2.1.2.2.2.2.2.1, q0.2.1.2.2.2.2.2.2.1, q0.2.1.2.2.2.2.2.2.2.1, q2.1.1.1.1, q2.1.1.1.2, q2.1.1.2, q0.2.1.2.2.2.2.2.2.2.2.2.2.2.1, q0.2.1.2.2.2.2.2.2.2.2.2.2.2.2.1, q0.2.1.2.2.2.2.2.2.2.2.2.2.2.2.2.1, q0.2.1.2.2.2.2.2.2.2.2.2.2.2.2.2.2.1, q0.2.1.2.2.2.2.2.2.2.2.2.2.2.2.2.2.2.1, q0.2.1.2.2.2.2.2.2.2.2.2.2.2.2.2.2.2.2.1, q0.2.1.2.2.2.2.2.2.2.2.2.2.2.2.2.2.2.2.2.1, q0.2.1.2.2.2.2.2.2.2.2.2.2.2.2.2.2.2.2.2.2.1, q0.2.1.2.2.2.2.2.2.2.2.2.2.2.2.2.2.2.2.2.2.2.1, q0.2.1.2.2.2.2.2.2.2.2.2.2.2.2.2.2.2.2.2.2.2.2.1, q0.2.1.2.2.2.2.2.2.2.2.2.2.2.2.2.2.2.2.2.2.2.2.2.1, q0.2.1.2.2.2.2.2.2.2.2.2.2.2.2.2.2.2.2.2.2.2.2.2.2.1, q0.2.1.2.2.2.2.2.2.2.2.2.2.2.2.2.2.2.2.2.2.2.2.2.2.2.1, q0.2.1.2.2.2.2.2.2.2.2.2.2.2.2.2.2.2.2.2.2.2.2.2.2.2.2.1, q0.2.1.2.2.2.2.2.2.2.2.2.2.2.2.2.2.2.2.2.2.2.2.2.2.2.2.2.1, 16, q0.2.1.2.2.2.2.2.2.2.2.2.2.2.2.2.2.2.2.2.2.2.2.2.2.2.2.2.2.2.1, q0.2.1.2.2.2.2.2.2.2.2.2.2.2.2.2.2.2.2.2.2.2.2.2.2.2.2.2.2.2.2.1, IntKind.i64.wrap q1.1.2.1, ()), ())
   else
    (S37 k ((q0.2.1.2.2.2.2.2.2.2.2.1, q0.2.1.2.2.2.2.2.2.2.2.2.1), q0.2.1.2.2.2.2.2.2.2.2.2.2.1) q0.1.1 (q0.1.2.1.1, q0.1.2.1.2.1, q0.1.2.1.2.2.1, q0.1.2.1.2.2.2.1, q1.1.1, q0.1.2.1.2.2.2.2.2)).bind fun q3 =>
    some ((), (q0.2.1.1, q0.2.1.2.1, q0.2.1.2.2.1, q0.2.1.2.2.2.1, q0.2.1.2.2.2.2.1, q0.2.1.2.2.2.2.2.1, q0.2.1.2.2.2.2.2.2.1, q0.2.1.2.2.2.2.2.2.2.1, q3.1.1.1.1, q3.1.1.1.2, q3.1.1.2, q0.2.1.2.2.2.2.2.2.2.2.2.2.2.1, q0.2.1.2.2.2.2.2.2.2.2.2.2.2.2.1, q0.2.1.2.2.2.2.2.2.2.2.2.2.2.2.2.1, q0.2.1.2.2.2.2.2.2.2.2.2.2.2.2.2.2.1, q0.2.1.2.2.2.2.2.2.2.2.2.2.2.2.2.2.2.1, q0.2.1.2.2.2.2.2.2.2.2.2.2.2.2.2.2.2.2.1, q0.2.1.2.2.2.2.2.2.2.2.2.2.2.2.2.2.2.2.2.1, q0.2.1.2.2.2.2.2.2.2.2.2.2.2.2.2.2.2.2.2.2.1, q0.2.1.2.2.2.2.2.2.2.2.2.2.2.2.2.2.2.2.2.2.2.1, q0.2.1.2.2.2.2.2.2.2.2.2.2.2.2.2.2.2.2.2.2.2.2.1, q0.2.1.2.2.2.2.2.2.2.2.2.2.2.2.2.2.2.2.2.2.2.2.2.1, q0.2.1.2.2.2.2.2.2.2.2.2.2.2.2.2.2.2.2.2.2.2.2.2.2.1, q0.2.1.2.2.2.2.2.2.2.2.2.2.2.2.2.2.2.2.2.2.2.2.2.2.2.1, q0.2.1.2.2.2.2.2.2.2.2.2.2.2.2.2.2.2.2.2.2.2.2.2.2.2.2.1, q0.2.1.2.2.2.2.2.2.2.2.2.2.2.2.2.2.2.2.2.2.2.2.2.2.2.2.2.1, q0.2.1.2.2.2.2.2.2.2.2.2.2.2.2.2.2.2.2.2.2.2.2.2.2.2.2.2.2.1, q0.2.1.2.2.2.2.2.2.2.2.2.2.2.2.2.2.2.2.2.2.2.2.2.2.2.2.2.2.2.1, q0.2.1.2.2.2.2.2.2.2.2.2.2.2.2.2.2.2.2.2.2.2.2.2.2.2.2.2.2.2.2.1, IntKind.i64.wrap q1.1.2.1, ()), ()))))
def F20 : Fn := ⟨[.mbox 71 [cI, cI, .cell (.sl 43 Y1_7), .cell Y1_19, .cell .bool, .cell .bool, .cell .bool, .cell (.sl 124 Y1_2), .cell Y1_10, .cell Y1_26, .cell (.sl 97 Y1_4), .cell Y1_10, .cell Y1_26, cI, cI, cI, cI, .cell Y1_1, .cell Y1_1, .cell Y1_1, cI, cI, cI, cI, .cell (.int .u32), .own 58 Y1_27, cI, cI, cI, cI]], [], fun k x => S20 k x.1.1 x.1.2.1 x.1.2.2.1 x.1.2.2.2.1 x.1.2.2.2.2.1 x.1.2.2.2.2.2.1 x.1.2.2.2.2.2.2.1 x.1.2.2.2.2.2.2.2.1 x.1.2.2.2.2.2.2.2.2.1 x.1.2.2.2.2.2.2.2.2.2.1 x.1.2.2.2.2.2.2.2.2.2.2.1 x.1.2.2.2.2.2.2.2.2.2.2.2.1 x.1.2.2.2.2.2.2.2.2.2.2.2.2.1 x.1.2.2.2.2.2.2.2.2.2.2.2.2.2.1 x.1.2.2.2.2.2.2.2.2.2.2.2.2.2.2.1 x.1.2.2.2.2.2.2.2.2.2.2.2.2.2.2.2.1 x.1.2.2.2.2.2.2.2.2.2.2.2.2.2.2.2.2.1 x.1.2.2.2.2.2.2.2.2.2.2.2.2.2.2.2.2.2.1 x.1.2.2.2.2.2.2.2.2.2.2.2.2.2.2.2.2.2.2.1 x.1.2.2.2.2.2.2.2.2.2.2.2.2.2.2.2.2.2.2.2.1 x.1.2.2.2.2.2.2.2.2.2.2.2.2.2.2.2.2.2.2.2.2.1 x.1.2.2.2.2.2.2.2.2.2.2.2.2.2.2.2.2.2.2.2.2.2.1 x.1.2.2.2.2.2.2.2.2.2.2.2.2.2.2.2.2.2.2.2.2.2.2.1 x.1.2.2.2.2.2.2.2.2.2.2.2.2.2.2.2.2.2.2.2.2.2.2.2.1 x.1.2.2.2.2.2.2.2.2.2.2.2.2.2.2.2.2.2.2.2.2.2.2.2.2.1 x.1.2.2.2.2.2.2.2.2.2.2.2.2.2.2.2.2.2.2.2.2.2.2.2.2.2.1 x.1.2.2.2.2.2.2.2.2.2.2.2.2.2.2.2.2.2.2.2.2.2.2.2.2.2.2.1 x.1.2.2.2.2.2.2.2.2.2.2.2.2.2.2.2.2.2.2.2.2.2.2.2.2.2.2.2.1 x.1.2.2.2.2.2.2.2.2.2.2.2.2.2.2.2.2.2.2.2.2.2.2.2.2.2.2.2.2.1 x.1.2.2.2.2.2.2.2.2.2.2.2.2.2.2.2.2.2.2.2.2.2.2.2.2.2.2.2.2.2.1⟩
theorem ok20 : FnOK Tryz.prog 20 F20 := okF [(34, F34), (37, F37), (40, F40)] [] (fun k => .nil) ⟨ok34, ok37, ok40, trivial⟩ Tryz.func20 rfl
def S85 (k : Nat) (a : (List Int) × List Bool) (b : Int × Int) : Option ((((List Int) × List Bool) × Bool × Unit) × Unit) :=
 (S112 k a).bind fun q0 =>
 (S124 k q0.1.1 b).bind fun q1 =>
 (bif !q1.1.1 then
  some ((q0.1.1, false, ()), ())
 else
  ix q0.1.1.2 b.1 <|
  some (((q0.1.1.1, upd q0.1.1.2 b.1 false), true, ()), ()))
def F85 : Fn := ⟨[.val ⟨true, (.pair Y1_10 Y1_26), false⟩, .val ⟨true, (.pair (.int .i64) (.int .i64)), false⟩], [.val ⟨true, (.pair Y1_10 Y1_26), true⟩, .val ⟨false, .bool, true⟩], fun k x => S85 k x.1 x.2.1⟩
theorem ok85 : FnOK Tryz.prog 85 F85 := okF [(112, F112), (124, F124)] [] (fun k => .nil) ⟨ok112, ok124, trivial⟩ Tryz.func85 rfl
def S128 (k : Nat) (a : (List Int) × List Int) : Option ((((List Int) × List Int) × (List Int) × Unit) × Unit) :=
 (S89 k a.2).bind fun q0 =>
 some ((([], []), q0.1.1, ()), ())
def F128 : Fn := ⟨[.val ⟨true, (.pair (.sl 2 (.int .i64)) Y1_10), false⟩], [.val ⟨true, (.pair (.sl 2 (.int .i64)) Y1_10), true⟩, .val ⟨false, Y1_10, true⟩], fun k x => S128 k x.1⟩
theorem ok128 : FnOK Tryz.prog 128 F128 := okF [(89, F89)] [] (fun k => .nil) ⟨ok89, trivial⟩ Tryz.func128 rfl
abbrev c129_L2 : Cut := ⟨[2, 3, 7, 8, 9], [.box 95 [.cell (.int .u32), .nil], .own 3 (.int .i64), .cell (.sl 109 Y1_11), cI, cI], [], 21, []⟩
def l129_2 (k : Nat) (g2 : Int → (List Int) → Y1_12 → Int → Int → Option Y1_20) (x : Int) (a : List Int) (b : Y1_17) (c e : Int) : Option Y1_20 :=
 (bif decide (e < c) then
  ix b e <|
  ap a ([(rd b e (0, 0)).1] : List Int) 8 fun r0 =>
  g2 x r0 b c (IntKind.i64.wrap (e + 1))
 else
  some (((x, []), a, ()), ()))
def b129_2 (k : Nat) (g : ((Unit) × (Int × Unit × Unit) × (List Int) × Y1_12 × Int × Int × Unit) → Option Y1_20) (d : (Unit) × (Int × Unit × Unit) × (List Int) × Y1_12 × Int × Int × Unit) : Option Y1_20 := l129_2 k (fun x a b c e => g ((), (x, (), ()), a, b, c, e, ())) d.2.1.1 d.2.2.1 d.2.2.2.1 d.2.2.2.2.1 d.2.2.2.2.2.1
def L129_2 (k a : Nat) (x : Int) (b : List Int) (c : Y1_17) (e f : Int) : Option Y1_20 := iter (R := (Y1_13 × (List Int) × Unit) × Unit) c129_L2 (b129_2 k) a ((), (x, (), ()), b, c, e, f, ())
theorem L129_2_s (k a x b c e f) : L129_2 k (a + 1) x b c e f = l129_2 k (L129_2 k a) x b c e f := iter_succ _ _ _ _
def S129 (k : Nat) (a : Int × List (Int × Int)) : Option Y1_20 :=
 L129_2 k k 0 ([] : List Int) a.2 (a.2.length : Int) 0
def F129 : Fn := ⟨[.val ⟨true, Y1_23, false⟩], [.val ⟨true, Y1_23, true⟩, .val ⟨false, Y1_10, true⟩], fun k x => S129 k x.1⟩
theorem ok129 : FnOK Tryz.prog 129 F129 := okF [] [(3, 2)] (fun k => (.loop 2 c129_L2 (b129_2 k) (fun g => .nil) .nil)) trivial Tryz.func129 rfl
def S167 (k : Nat) (a : Int) : Option Y1_14 :=
 (bif decide (a < 0) then
  none
 else
  (bif decide ((IntKind.i64.wrap (a - 0)) > 0) then
   az ([] : List Int) (IntKind.i64.wrap (a - 0)) 8 0 fun r0 =>
   sx r0 0 0 <|
   some ((r0.take 0, ()), ())
  else
   some (([], ()), ())))
def F167 : Fn := ⟨[.pv (.nil), .val ⟨false, (.int .i64), false⟩], [.val ⟨false, Y1_10, true⟩], fun k x => S167 k x.2.1⟩
theorem ok167 : FnOK Tryz.prog 167 F167 := okF [] [(25, 1)] (fun k => .nil) trivial Tryz.func167 rfl
abbrev c130_L11 : Cut := ⟨[6, 25, 26, 27], [.own 3 (.int .i64), .cell (.sl 26 Y1_10), cI, cI], [], 36, []⟩
def l130_11 (k : Nat) (g11 : (List Int) → (List (List Int)) → Int → Int → Option Y1_14) (a : List Int) (b : List (List Int)) (c e : Int) : Option Y1_14 :=
 (bif decide (e < c) then
  ix b e <|
  ap a (rd b e []) 8 fun r1 =>
  g11 r1 b c (IntKind.i64.wrap (e + 1))
 else
  some ((a, ()), ()))
def b130_11 (k : Nat) (g : ((Unit) × (List Int) × (List (List Int)) × Int × Int × Unit) → Option Y1_14) (d : (Unit) × (List Int) × (List (List Int)) × Int × Int × Unit) : Option Y1_14 := l130_11 k (fun a b c e => g ((), a, b, c, e, ())) d.2.1 d.2.2.1 d.2.2.2.1 d.2.2.2.2.1
def L130_11 (k a : Nat) (b : List Int) (c : List (List Int)) (e f : Int) : Option Y1_14 := iter (R := ((List Int) × Unit) × Unit) c130_L11 (b130_11 k) a ((), b, c, e, f, ())
theorem L130_11_s (k a b c e f) : L130_11 k (a + 1) b c e f = l130_11 k (L130_11 k a) b c e f := iter_succ _ _ _ _
abbrev c130_L3 : Cut := ⟨[0, 3, 9, 10, 11], [.cell (.sl 26 Y1_10), cI, .cell (.sl 26 Y1_10), cI, cI], [], 36, []⟩
def l130_3 (k : Nat) (g3 : (List (List Int)) → Int → (List (List Int)) → Int → Int → Option Y1_14) (a : List (List Int)) (b : Int) (c : List (List Int)) (e f : Int) : Option Y1_14 :=
 (bif decide (f < e) then
  ix c f <|
  (bif decide ((IntKind.i64.wrap (b + ((rd c f []).length : Int))) < 0) then
   none
  else
   g3 a (IntKind.i64.wrap (b + ((rd c f []).length : Int))) c e (IntKind.i64.wrap (f + 1)))
 else
  (S167 k b).bind fun q0 =>
  L130_11 k k q0.1.1 a (a.length : Int) 0)
def b130_3 (k : Nat) (g : ((Unit) × (List (List Int)) × Int × (List (List Int)) × Int × Int × Unit) → Option Y1_14) (d : (Unit) × (List (List Int)) × Int × (List (List Int)) × Int × Int × Unit) : Option Y1_14 := l130_3 k (fun a b c e f => g ((), a, b, c, e, f, ())) d.2.1 d.2.2.1 d.2.2.2.1 d.2.2.2.2.1 d.2.2.2.2.2.1
def L130_3 (k a : Nat) (b : List (List Int)) (c : Int) (e : List (List Int)) (f h : Int) : Option Y1_14 := iter (R := ((List Int) × Unit) × Unit) c130_L3 (b130_3 k) a ((), b, c, e, f, h, ())
theorem L130_3_s (k a b c e f h) : L130_3 k (a + 1) b c e f h = l130_3 k (L130_3 k a) b c e f h := iter_succ _ _ _ _
def S130 (k : Nat) (a : List (List Int)) : Option Y1_14 :=
 L130_3 k k a 0 a (a.length : Int) 0
def F130 : Fn := ⟨[.val ⟨false, (.sl 26 Y1_10), false⟩], [.val ⟨false, Y1_10, true⟩], fun k x => S130 k x.1⟩
theorem ok130 : FnOK Tryz.prog 130 F130 := okF [(167, F167)] [] (fun k => (.loop 11 c130_L11 (b130_11 k) (fun g => .nil) (.loop 3 c130_L3 (b130_3 k) (fun g => .nil) .nil))) ⟨ok167, trivial⟩ Tryz.func130 rfl
def S86 (k : Nat) (x : Int × (Int × Int) × (Int × Int) × ((List Int) × List Int) × Y1_13 × Int) : Option Y1_14 :=
 (S128 k x.2.2.2.1).bind fun q0 =>
 (S129 k x.2.2.2.2.1).bind fun q1 =>
 (S130 k ([q0.1.2.1, q1.1.2.1] : List (List Int))).bind fun q2 =>
 some ((q2.1.1, ()), ())
def F86 : Fn := ⟨[.val ⟨true, Y1_4, false⟩], [.val ⟨false, Y1_10, true⟩], fun k x => S86 k x.1⟩
theorem ok86 : FnOK Tryz.prog 86 F86 := okF [(128, F128), (129, F129), (130, F130)] [] (fun k => .nil) ⟨ok128, ok129, ok130, trivial⟩ Tryz.func86 rfl
def S41 (k : Nat) (a : ((List Int) × List Bool) × List Y1_6) (b : Int × Int) : Option (((((List Int) × List Bool) × List Y1_6) × (List Int) × Bool × Unit) × Unit) :=
 (S64 k a).bind fun q0 =>
 (S76 k a b).bind fun q1 =>
 (bif !q1.1.2.1 then
  some ((q0.1.1, [], false, ()), ())
 else
  ix a.2 q1.1.1 <|
  (bif (rd a.2 q1.1.1 (0, (0, 0), (0, 0), ([], []), (0, []), 0)).1 == 1 then
   some ((q0.1.1, [], false, ()), ())
  else
   (S85 k q0.1.1.1 b).bind fun q2 =>
   ix q0.1.1.2 q1.1.1 <|
   ix a.2 q1.1.1 <|
   (S86 k (rd a.2 q1.1.1 (0, (0, 0), (0, 0), ([], []), (0, []), 0))).bind fun q3 =>
   some (((q2.1.1, upd q0.1.1.2 q1.1.1 (0, (0, 0), (0, 0), ([], []), (0, []), 0)), q3.1.1, true, ()), ())))
def F41 : Fn := ⟨[.val ⟨true, (.pair (.pair Y1_10 Y1_26) (.sl 97 Y1_4)), false⟩, .val ⟨true, (.pair (.int .i64) (.int .i64)), false⟩], [.val ⟨true, (.pair (.pair Y1_10 Y1_26) (.sl 97 Y1_4)), true⟩, .val ⟨false, Y1_10, true⟩, .val ⟨false, .bool, true⟩], fun k x => S41 k x.1 x.2.1⟩
theorem ok41 : FnOK Tryz.prog 41 F41 := okF [(64, F64), (76, F76), (85, F85), (86, F86)] [] (fun k => .nil) ⟨ok64, ok76, ok85, ok86, trivial⟩ Tryz.func41 rfl
def S36a (k : Nat) (a b : Int) (c : List Y1_5) (e : List (PN Int 5)) (f h i : Bool) (l : List Y1_3) (m : List Int) (n : List Bool) (o : List Y1_6) (p : List Int) (s : List Bool) (t u v w : Int) (y z A : Y1_8) (B C D G H : Int) (I : List (PN Int 6)) (J K M N O P Q : Int) : Option Y1_15 :=
 ap I ([(a, 12, 0, O, P, Q)] : List (PN Int 6)) 48 fun r0 =>
 some ((), (a, b, c, e, f, h, i, l, m, n, o, p, s, t, u, v, w, y, z, A, B, C, D, G, H, r0, J, K, M, N, ()), ())
def F36a : Fn := ⟨[.mbox 71 [cI, cI, .cell (.sl 43 Y1_7), .cell Y1_19, .cell .bool, .cell .bool, .cell .bool, .cell (.sl 124 Y1_2), .own 3 (.int .i64), .own 4 .bool, .own 97 Y1_4, .cell Y1_10, .cell Y1_26, cI, cI, cI, cI, .cell Y1_1, .cell Y1_1, .cell Y1_1, cI, cI, cI, cI, .cell (.int .u32), .own 58 Y1_27, cI, cI, cI, cI], .val ⟨false, (.int .i64), false⟩, .val ⟨false, (.int .i64), false⟩, .val ⟨false, (.int .i64), false⟩], [], fun k x => S36a k x.1.1 x.1.2.1 x.1.2.2.1 x.1.2.2.2.1 x.1.2.2.2.2.1 x.1.2.2.2.2.2.1 x.1.2.2.2.2.2.2.1 x.1.2.2.2.2.2.2.2.1 x.1.2.2.2.2.2.2.2.2.1 x.1.2.2.2.2.2.2.2.2.2.1 x.1.2.2.2.2.2.2.2.2.2.2.1 x.1.2.2.2.2.2.2.2.2.2.2.2.1 x.1.2.2.2.2.2.2.2.2.2.2.2.2.1 x.1.2.2.2.2.2.2.2.2.2.2.2.2.2.1 x.1.2.2.2.2.2.2.2.2.2.2.2.2.2.2.1 x.1.2.2.2.2.2.2.2.2.2.2.2.2.2.2.2.1 x.1.2.2.2.2.2.2.2.2.2.2.2.2.2.2.2.2.1 x.1.2.2.2.2.2.2.2.2.2.2.2.2.2.2.2.2.2.1 x.1.2.2.2.2.2.2.2.2.2.2.2.2.2.2.2.2.2.2.1 x.1.2.2.2.2.2.2.2.2.2.2.2.2.2.2.2.2.2.2.2.1 x.1.2.2.2.2.2.2.2.2.2.2.2.2.2.2.2.2.2.2.2.2.1 x.1.2.2.2.2.2.2.2.2.2.2.2.2.2.2.2.2.2.2.2.2.2.1 x.1.2.2.2.2.2.2.2.2.2.2.2.2.2.2.2.2.2.2.2.2.2.2.1 x.1.2.2.2.2.2.2.2.2.2.2.2.2.2.2.2.2.2.2.2.2.2.2.2.1 x.1.2.2.2.2.2.2.2.2.2.2.2.2.2.2.2.2.2.2.2.2.2.2.2.2.1 x.1.2.2.2.2.2.2.2.2.2.2.2.2.2.2.2.2.2.2.2.2.2.2.2.2.2.1 x.1.2.2.2.2.2.2.2.2.2.2.2.2.2.2.2.2.2.2.2.2.2.2.2.2.2.2.1 x.1.2.2.2.2.2.2.2.2.2.2.2.2.2.2.2.2.2.2.2.2.2.2.2.2.2.2.2.1 x.1.2.2.2.2.2.2.2.2.2.2.2.2.2.2.2.2.2.2.2.2.2.2.2.2.2.2.2.2.1 x.1.2.2.2.2.2.2.2.2.2.2.2.2.2.2.2.2.2.2.2.2.2.2.2.2.2.2.2.2.2.1 x.2.1 x.2.2.1 x.2.2.2.1⟩
theorem ok36a : FnOK Tryz.prog 36 F36a := okF [] [] (fun k => .nil) trivial Tryz.func36 rfl
abbrev c21_L5 : Cut := ⟨[0, 33, 34, 35], [.pin false 0, .own 3 (.int .i64), cI, cI], [.mbox 71 [cI, cI, .cell (.sl 43 Y1_7), .cell Y1_19, .cell .bool, .cell .bool, .cell .bool, .cell (.sl 124 Y1_2), .own 3 (.int .i64), .own 4 .bool, .own 97 Y1_4, .cell Y1_10, .cell Y1_26, cI, cI, cI, cI, .cell Y1_1, .cell Y1_1, .cell Y1_1, cI, cI, cI, cI, .cell (.int .u32), .own 58 Y1_27, cI, cI, cI, cI]], 43, []⟩
def l21_5 (k : Nat) (g5 : Int → Int → (List Y1_5) → (List (PN Int 5)) → Bool → Bool → Bool → (List Y1_3) → (List Int) → (List Bool) → (List Y1_6) → (List Int) → (List Bool) → Int → Int → Int → Int → Y1_25 → Y1_25 → Y1_25 → Int → Int → Int → Int → Int → (List (PN Int 6)) → Int → Int → Int → Int → (List Int) → Int → Int → Option Y1_15) (a b : Int) (c : List Y1_5) (e : List (PN Int 5)) (f h i : Bool) (l : List Y1_3) (m : List Int) (n : List Bool) (o : List Y1_6) (p : List Int) (s : List Bool) (t u v w : Int) (y z A : Y1_8) (B C D G H : Int) (I : List (PN Int 6)) (J K M N : Int) (O : List Int) (P Q : Int) : Option Y1_15 :=
 (bif decide (Q < P) then
  ix O Q <|
  (S36a k a b c e f h i l m n o p s t u v w y z A B C D G H I J K M N (rd O Q 0) 0 15).bind fun q1 =>
  g5 q1.2.1.1 q1.2.1.2.1 q1.2.1.2.2.1 q1.2.1.2.2.2.1 q1.2.1.2.2.2.2.1 q1.2.1.2.2.2.2.2.1 q1.2.1.2.2.2.2.2.2.1 q1.2.1.2.2.2.2.2.2.2.1 q1.2.1.2.2.2.2.2.2.2.2.1 q1.2.1.2.2.2.2.2.2.2.2.2.1 q1.2.1.2.2.2.2.2.2.2.2.2.2.1 q1.2.1.2.2.2.2.2.2.2.2.2.2.2.1 q1.2.1.2.2.2.2.2.2.2.2.2.2.2.2.1 q1.2.1.2.2.2.2.2.2.2.2.2.2.2.2.2.1 q1.2.1.2.2.2.2.2.2.2.2.2.2.2.2.2.2.1 q1.2.1.2.2.2.2.2.2.2.2.2.2.2.2.2.2.2.1 q1.2.1.2.2.2.2.2.2.2.2.2.2.2.2.2.2.2.2.1 q1.2.1.2.2.2.2.2.2.2.2.2.2.2.2.2.2.2.2.2.1 q1.2.1.2.2.2.2.2.2.2.2.2.2.2.2.2.2.2.2.2.2.1 q1.2.1.2.2.2.2.2.2.2.2.2.2.2.2.2.2.2.2.2.2.2.1 q1.2.1.2.2.2.2.2.2.2.2.2.2.2.2.2.2.2.2.2.2.2.2.1 q1.2.1.2.2.2.2.2.2.2.2.2.2.2.2.2.2.2.2.2.2.2.2.2.1 q1.2.1.2.2.2.2.2.2.2.2.2.2.2.2.2.2.2.2.2.2.2.2.2.2.1 q1.2.1.2.2.2.2.2.2.2.2.2.2.2.2.2.2.2.2.2.2.2.2.2.2.2.1 q1.2.1.2.2.2.2.2.2.2.2.2.2.2.2.2.2.2.2.2.2.2.2.2.2.2.2.1 q1.2.1.2.2.2.2.2.2.2.2.2.2.2.2.2.2.2.2.2.2.2.2.2.2.2.2.2.1 q1.2.1.2.2.2.2.2.2.2.2.2.2.2.2.2.2.2.2.2.2.2.2.2.2.2.2.2.2.1 q1.2.1.2.2.2.2.2.2.2.2.2.2.2.2.2.2.2.2.2.2.2.2.2.2.2.2.2.2.2.1 q1.2.1.2.2.2.2.2.2.2.2.2.2.2.2.2.2.2.2.2.2.2.2.2.2.2.2.2.2.2.2.1 q1.2.1.2.2.2.2.2.2.2.2.2.2.2.2.2.2.2.2.2.2.2.2.2.2.2.2.2.2.2.2.2.1 O P (IntKind.i64.wrap (Q + 1))
 else
  some ((), (a, b, c, e, f, h, i, l, m, n, o, p, s, t, u, v, w, y, z, A, B, C, D, G, H, I, J, K, M, N, ()), ()))
def b21_5 (k : Nat) (g : ((Y1_0 × Unit) × Unit × (List Int) × Int × Int × Unit) → Option Y1_15) (d : (Y1_0 × Unit) × Unit × (List Int) × Int × Int × Unit) : Option Y1_15 := l21_5 k (fun a b c e f h i l m n o p s t u v w y z A B C D G H I J K M N O P Q => g (((a, b, c, e, f, h, i, l, m, n, o, p, s, t, u, v, w, y, z, A, B, C, D, G, H, I, J, K, M, N, ()), ()), (), O, P, Q, ())) d.1.1.1 d.1.1.2.1 d.1.1.2.2.1 d.1.1.2.2.2.1 d.1.1.2.2.2.2.1 d.1.1.2.2.2.2.2.1 d.1.1.2.2.2.2.2.2.1 d.1.1.2.2.2.2.2.2.2.1 d.1.1.2.2.2.2.2.2.2.2.1 d.1.1.2.2.2.2.2.2.2.2.2.1 d.1.1.2.2.2.2.2.2.2.2.2.2.1 d.1.1.2.2.2.2.2.2.2.2.2.2.2.1 d.1.1.2.2.2.2.2.2.2.2.2.2.2.2.1 d.1.1.2.2.2.2.2.2.2.2.2.2.2.2.2.1 d.1.1.2.2.2.2.2.2.2.2.2.2.2.2.2.2.1 d.1.1.2.2.2.2.2.2.2.2.2.2.2.2.2.2.2.1 d.1.1.2.2.2.2.2.2.2.2.2.2.2.2.2.2.2.2.1 d.1.1.2.2.2.2.2.2.2.2.2.2.2.2.2.2.2.2.2.1 d.1.1.2.2.2.2.2.2.2.2.2.2.2.2.2.2.2.2.2.2.1 d.1.1.2.2.2.2.2.2.2.2.2.2.2.2.2.2.2.2.2.2.2.1 d.1.1.2.2.2.2.2.2.2.2.2.2.2.2.2.2.2.2.2.2.2.2.1 d.1.1.2.2.2.2.2.2.2.2.2.2.2.2.2.2.2.2.2.2.2.2.2.1 d.1.1.2.2.2.2.2.2.2.2.2.2.2.2.2.2.2.2.2.2.2.2.2.2.1 d.1.1.2.2.2.2.2.2.2.2.2.2.2.2.2.2.2.2.2.2.2.2.2.2.2.1 d.1.1.2.2.2.2.2.2.2.2.2.2.2.2.2.2.2.2.2.2.2.2.2.2.2.2.1 d.1.1.2.2.2.2.2.2.2.2.2.2.2.2.2.2.2.2.2.2.2.2.2.2.2.2.2.1 d.1.1.2.2.2.2.2.2.2.2.2.2.2.2.2.2.2.2.2.2.2.2.2.2.2.2.2.2.1 d.1.1.2.2.2.2.2.2.2.2.2.2.2.2.2.2.2.2.2.2.2.2.2.2.2.2.2.2.2.1 d.1.1.2.2.2.2.2.2.2.2.2.2.2.2.2.2.2.2.2.2.2.2.2.2.2.2.2.2.2.2.1 d.1.1.2.2.2.2.2.2.2.2.2.2.2.2.2.2.2.2.2.2.2.2.2.2.2.2.2.2.2.2.2.1 d.2.2.1 d.2.2.2.1 d.2.2.2.2.1
def L21_5 (k a : Nat) (b c : Int) (e : List Y1_5) (f : List (PN Int 5)) (h i l : Bool) (m : List Y1_3) (n : List Int) (o : List Bool) (p : List Y1_6) (s : List Int) (t : List Bool) (u v w y : Int) (z A B : Y1_8) (C D G H I : Int) (J : List (PN Int 6)) (K M N O : Int) (P : List Int) (Q T : Int) : Option Y1_15 := iter (R := (Unit) × Y1_0 × Unit) c21_L5 (b21_5 k) a (((b, c, e, f, h, i, l, m, n, o, p, s, t, u, v, w, y, z, A, B, C, D, G, H, I, J, K, M, N, O, ()), ()), (), P, Q, T, ())
theorem L21_5_s (k a b c e f h i l m n o p s t u v w y z A B C D G H I J K M N O P Q T) : L21_5 k (a + 1) b c e f h i l m n o p s t u v w y z A B C D G H I J K M N O P Q T = l21_5 k (L21_5 k a) b c e f h i l m n o p s t u v w y z A B C D G H I J K M N O P Q T := iter_succ _ _ _ _
def S21 (k : Nat) (a b : Int) (c : List Y1_5) (e : List (PN Int 5)) (f h i : Bool) (l : List Y1_3) (m : List Int) (n : List Bool) (o : List Y1_6) (p : List Int) (s : List Bool) (t u v w : Int) (y z A : Y1_8) (B C D G H : Int) (I : List (PN Int 6)) (J K M N : Int) : Option Y1_15 :=
 (S41 k ((m, n), o) (B, C)).bind fun q0 =>
 (bif !q0.1.2.2.1 then
  some ((), (a, b, c, e, f, h, i, l, m, n, o, p, s, t, u, v, w, y, z, A, B, C, D, G, H, I, 3, K, M, N, ()), ())
 else
  L21_5 k k a b c e f h i l q0.1.1.1.1 q0.1.1.1.2 q0.1.1.2 p s t u v w y z A B C D G H I J K M N q0.1.2.1 (q0.1.2.1.length : Int) 0)
def F21 : Fn := ⟨[.mbox 71 [cI, cI, .cell (.sl 43 Y1_7), .cell Y1_19, .cell .bool, .cell .bool, .cell .bool, .cell (.sl 124 Y1_2), .cell Y1_10, .cell Y1_26, .cell (.sl 97 Y1_4), .cell Y1_10, .cell Y1_26, cI, cI, cI, cI, .cell Y1_1, .cell Y1_1, .cell Y1_1, cI, cI, cI, cI, .cell (.int .u32), .own 58 Y1_27, cI, cI, cI, cI]], [], fun k x => S21 k x.1.1 x.1.2.1 x.1.2.2.1 x.1.2.2.2.1 x.1.2.2.2.2.1 x.1.2.2.2.2.2.1 x.1.2.2.2.2.2.2.1 x.1.2.2.2.2.2.2.2.1 x.1.2.2.2.2.2.2.2.2.1 x.1.2.2.2.2.2.2.2.2.2.1 x.1.2.2.2.2.2.2.2.2.2.2.1 x.1.2.2.2.2.2.2.2.2.2.2.2.1 x.1.2.2.2.2.2.2.2.2.2.2.2.2.1 x.1.2.2.2.2.2.2.2.2.2.2.2.2.2.1 x.1.2.2.2.2.2.2.2.2.2.2.2.2.2.2.1 x.1.2.2.2.2.2.2.2.2.2.2.2.2.2.2.2.1 x.1.2.2.2.2.2.2.2.2.2.2.2.2.2.2.2.2.1 x.1.2.2.2.2.2.2.2.2.2.2.2.2.2.2.2.2.2.1 x.1.2.2.2.2.2.2.2.2.2.2.2.2.2.2.2.2.2.2.1 x.1.2.2.2.2.2.2.2.2.2.2.2.2.2.2.2.2.2.2.2.1 x.1.2.2.2.2.2.2.2.2.2.2.2.2.2.2.2.2.2.2.2.2.1 x.1.2.2.2.2.2.2.2.2.2.2.2.2.2.2.2.2.2.2.2.2.2.1 x.1.2.2.2.2.2.2.2.2.2.2.2.2.2.2.2.2.2.2.2.2.2.2.1 x.1.2.2.2.2.2.2.2.2.2.2.2.2.2.2.2.2.2.2.2.2.2.2.2.1 x.1.2.2.2.2.2.2.2.2.2.2.2.2.2.2.2.2.2.2.2.2.2.2.2.2.1 x.1.2.2.2.2.2.2.2.2.2.2.2.2.2.2.2.2.2.2.2.2.2.2.2.2.2.1 x.1.2.2.2.2.2.2.2.2.2.2.2.2.2.2.2.2.2.2.2.2.2.2.2.2.2.2.1 x.1.2.2.2.2.2.2.2.2.2.2.2.2.2.2.2.2.2.2.2.2.2.2.2.2.2.2.2.1 x.1.2.2.2.2.2.2.2.2.2.2.2.2.2.2.2.2.2.2.2.2.2.2.2.2.2.2.2.2.1 x.1.2.2.2.2.2.2.2.2.2.2.2.2.2.2.2.2.2.2.2.2.2.2.2.2.2.2.2.2.2.1⟩
theorem ok21 : FnOK Tryz.prog 21 F21 := okF [(36, F36a), (41, F41)] [] (fun k => (.loop 5 c21_L5 (b21_5 k) (fun g => .nil) .nil)) ⟨ok36a, ok41, trivial⟩ Tryz.func21 rfl
def S22 (k : Nat) (a b : Int) (c : List Y1_5) (e : List (PN Int 5)) (f h i : Bool) (l : List Y1_3) (m : List Int) (n : List Bool) (o : List Y1_6) (p : List Int) (s : List Bool) (t u v w : Int) (y z A : Y1_8) (B C D G H : Int) (I : List (PN Int 6)) (J K M N : Int) : Option Y1_15 :=
 some ((), (a, b, c, e, f, h, i, l, m, n, o, p, s, t, u, v, w, y, z, A, B, C, D, G, H, I, 1, K, M, N, ()), ())
def F22 : Fn := ⟨[.mbox 71 [cI, cI, .cell (.sl 43 Y1_7), .cell Y1_19, .cell .bool, .cell .bool, .cell .bool, .cell (.sl 124 Y1_2), .cell Y1_10, .cell Y1_26, .cell (.sl 97 Y1_4), .cell Y1_10, .cell Y1_26, cI, cI, cI, cI, .cell Y1_1, .cell Y1_1, .cell Y1_1, cI, cI, cI, cI, .cell (.int .u32), .own 58 Y1_27, cI, cI, cI, cI]], [], fun k x => S22 k x.1.1 x.1.2.1 x.1.2.2.1 x.1.2.2.2.1 x.1.2.2.2.2.1 x.1.2.2.2.2.2.1 x.1.2.2.2.2.2.2.1 x.1.2.2.2.2.2.2.2.1 x.1.2.2.2.2.2.2.2.2.1 x.1.2.2.2.2.2.2.2.2.2.1 x.1.2.2.2.2.2.2.2.2.2.2.1 x.1.2.2.2.2.2.2.2.2.2.2.2.1 x.1.2.2.2.2.2.2.2.2.2.2.2.2.1 x.1.2.2.2.2.2.2.2.2.2.2.2.2.2.1 x.1.2.2.2.2.2.2.2.2.2.2.2.2.2.2.1 x.1.2.2.2.2.2.2.2.2.2.2.2.2.2.2.2.1 x.1.2.2.2.2.2.2.2.2.2.2.2.2.2.2.2.2.1 x.1.2.2.2.2.2.2.2.2.2.2.2.2.2.2.2.2.2.1 x.1.2.2.2.2.2.2.2.2.2.2.2.2.2.2.2.2.2.2.1 x.1.2.2.2.2.2.2.2.2.2.2.2.2.2.2.2.2.2.2.2.1 x.1.2.2.2.2.2.2.2.2.2.2.2.2.2.2.2.2.2.2.2.2.1 x.1.2.2.2.2.2.2.2.2.2.2.2.2.2.2.2.2.2.2.2.2.2.1 x.1.2.2.2.2.2.2.2.2.2.2.2.2.2.2.2.2.2.2.2.2.2.2.1 x.1.2.2.2.2.2.2.2.2.2.2.2.2.2.2.2.2.2.2.2.2.2.2.2.1 x.1.2.2.2.2.2.2.2.2.2.2.2.2.2.2.2.2.2.2.2.2.2.2.2.2.1 x.1.2.2.2.2.2.2.2.2.2.2.2.2.2.2.2.2.2.2.2.2.2.2.2.2.2.1 x.1.2.2.2.2.2.2.2.2.2.2.2.2.2.2.2.2.2.2.2.2.2.2.2.2.2.2.1 x.1.2.2.2.2.2.2.2.2.2.2.2.2.2.2.2.2.2.2.2.2.2.2.2.2.2.2.2.1 x.1.2.2.2.2.2.2.2.2.2.2.2.2.2.2.2.2.2.2.2.2.2.2.2.2.2.2.2.2.1 x.1.2.2.2.2.2.2.2.2.2.2.2.2.2.2.2.2.2.2.2.2.2.2.2.2.2.2.2.2.2.1⟩
theorem ok22 : FnOK Tryz.prog 22 F22 := okF [] [] (fun k => .nil) trivial Tryz.func22 rfl
def S9 (k : Nat) (a : Int × Int × (List Y1_5) × (List (PN Int 5)) × Bool × Bool × Bool × (List Y1_3) × (((List Int) × List Bool) × List Y1_6) × (List Int) × List Bool) (b : Int × Y1_5 × (Int × Int) × Int × Int × Int) : Option (((Int × Int × (List Y1_5) × (List (PN Int 5)) × Bool × Bool × Bool × (List Y1_3) × (((List Int) × List Bool) × List Y1_6) × (List Int) × List Bool) × (List (PN Int 6)) × (Int × (Int × Int) × Int) × Unit) × Unit) :=
 (bif b.1 == 1 then
  (S13 k a.1 a.2.1 a.2.2.1 a.2.2.2.1 a.2.2.2.2.1 a.2.2.2.2.2.1 a.2.2.2.2.2.2.1 a.2.2.2.2.2.2.2.1 a.2.2.2.2.2.2.2.2.1.1.1 a.2.2.2.2.2.2.2.2.1.1.2 a.2.2.2.2.2.2.2.2.1.2 a.2.2.2.2.2.2.2.2.2.1 a.2.2.2.2.2.2.2.2.2.2 b.1 b.2.1.1 b.2.1.2.1 b.2.1.2.2.1 b.2.1.2.2.2.1 b.2.1.2.2.2.2.1 b.2.1.2.2.2.2.2 b.2.2.1.1 b.2.2.1.2 b.2.2.2.1 b.2.2.2.2.1 b.2.2.2.2.2 ([] : List (PN Int 6)) 0 0 0 0).bind fun q0 =>
  (S23 k (q0.2.1.1, q0.2.1.2.1, q0.2.1.2.2.1, q0.2.1.2.2.2.1, q0.2.1.2.2.2.2.1, q0.2.1.2.2.2.2.2.1, q0.2.1.2.2.2.2.2.2.1, q0.2.1.2.2.2.2.2.2.2.1, ((q0.2.1.2.2.2.2.2.2.2.2.1, q0.2.1.2.2.2.2.2.2.2.2.2.1), q0.2.1.2.2.2.2.2.2.2.2.2.2.1), q0.2.1.2.2.2.2.2.2.2.2.2.2.2.1, q0.2.1.2.2.2.2.2.2.2.2.2.2.2.2.1)).bind fun q1 =>
  some ((q1.1.1, q0.2.1.2.2.2.2.2.2.2.2.2.2.2.2.2.2.2.2.2.2.2.2.2.2.2.2.2.1, (q0.2.1.2.2.2.2.2.2.2.2.2.2.2.2.2.2.2.2.2.2.2.2.2.2.2.2.2.2.1, (q0.2.1.2.2.2.2.2.2.2.2.2.2.2.2.2.2.2.2.2.2.2.2.2.2.2.2.2.2.2.1, q0.2.1.2.2.2.2.2.2.2.2.2.2.2.2.2.2.2.2.2.2.2.2.2.2.2.2.2.2.2.2.1), q0.2.1.2.2.2.2.2.2.2.2.2.2.2.2.2.2.2.2.2.2.2.2.2.2.2.2.2.2.2.2.2.1), ()), ())
 else
  (bif b.1 == 2 then
   (S14 k a.1 a.2.1 a.2.2.1 a.2.2.2.1 a.2.2.2.2.1 a.2.2.2.2.2.1 a.2.2.2.2.2.2.1 a.2.2.2.2.2.2.2.1 a.2.2.2.2.2.2.2.2.1.1.1 a.2.2.2.2.2.2.2.2.1.1.2 a.2.2.2.2.2.2.2.2.1.2 a.2.2.2.2.2.2.2.2.2.1 a.2.2.2.2.2.2.2.2.2.2 b.1 b.2.1.1 b.2.1.2.1 b.2.1.2.2.1 b.2.1.2.2.2.1 b.2.1.2.2.2.2.1 b.2.1.2.2.2.2.2 b.2.2.1.1 b.2.2.1.2 b.2.2.2.1 b.2.2.2.2.1 b.2.2.2.2.2 ([] : List (PN Int 6)) 0 0 0 0).bind fun q2 =>
   (S23 k (q2.2.1.1, q2.2.1.2.1, q2.2.1.2.2.1, q2.2.1.2.2.2.1, q2.2.1.2.2.2.2.1, q2.2.1.2.2.2.2.2.1, q2.2.1.2.2.2.2.2.2.1, q2.2.1.2.2.2.2.2.2.2.1, ((q2.2.1.2.2.2.2.2.2.2.2.1, q2.2.1.2.2.2.2.2.2.2.2.2.1), q2.2.1.2.2.2.2.2.2.2.2.2.2.1), q2.2.1.2.2.2.2.2.2.2.2.2.2.2.1, q2.2.1.2.2.2.2.2.2.2.2.2.2.2.2.1)).bind fun q3 =>
   some ((q3.1.1, q2.2.1.2.2.2.2.2.2.2.2.2.2.2.2.2.2.2.2.2.2.2.2.2.2.2.2.2.1, (q2.2.1.2.2.2.2.2.2.2.2.2.2.2.2.2.2.2.2.2.2.2.2.2.2.2.2.2.2.1, (q2.2.1.2.2.2.2.2.2.2.2.2.2.2.2.2.2.2.2.2.2.2.2.2.2.2.2.2.2.2.1, q2.2.1.2.2.2.2.2.2.2.2.2.2.2.2.2.2.2.2.2.2.2.2.2.2.2.2.2.2.2.2.1), q2.2.1.2.2.2.2.2.2.2.2.2.2.2.2.2.2.2.2.2.2.2.2.2.2.2.2.2.2.2.2.2.1), ()), ())
  else
   (bif b.1 == 3 then
    (S14 k a.1 a.2.1 a.2.2.1 a.2.2.2.1 a.2.2.2.2.1 a.2.2.2.2.2.1 a.2.2.2.2.2.2.1 a.2.2.2.2.2.2.2.1 a.2.2.2.2.2.2.2.2.1.1.1 a.2.2.2.2.2.2.2.2.1.1.2 a.2.2.2.2.2.2.2.2.1.2 a.2.2.2.2.2.2.2.2.2.1 a.2.2.2.2.2.2.2.2.2.2 b.1 b.2.1.1 b.2.1.2.1 b.2.1.2.2.1 b.2.1.2.2.2.1 b.2.1.2.2.2.2.1 b.2.1.2.2.2.2.2 b.2.2.1.1 b.2.2.1.2 b.2.2.2.1 b.2.2.2.2.1 b.2.2.2.2.2 ([] : List (PN Int 6)) 0 0 0 0).bind fun q4 =>
    (S23 k (q4.2.1.1, q4.2.1.2.1, q4.2.1.2.2.1, q4.2.1.2.2.2.1, q4.2.1.2.2.2.2.1, q4.2.1.2.2.2.2.2.1, q4.2.1.2.2.2.2.2.2.1, q4.2.1.2.2.2.2.2.2.2.1, ((q4.2.1.2.2.2.2.2.2.2.2.1, q4.2.1.2.2.2.2.2.2.2.2.2.1), q4.2.1.2.2.2.2.2.2.2.2.2.2.1), q4.2.1.2.2.2.2.2.2.2.2.2.2.2.1, q4.2.1.2.2.2.2.2.2.2.2.2.2.2.2.1)).bind fun q5 =>
    some ((q5.1.1, q4.2.1.2.2.2.2.2.2.2.2.2.2.2.2.2.2.2.2.2.2.2.2.2.2.2.2.2.1, (q4.2.1.2.2.2.2.2.2.2.2.2.2.2.2.2.2.2.2.2.2.2.2.2.2.2.2.2.2.1, (q4.2.1.2.2.2.2.2.2.2.2.2.2.2.2.2.2.2.2.2.2.2.2.2.2.2.2.2.2.2.1, q4.2.1.2.2.2.2.2.2.2.2.2.2.2.2.2.2.2.2.2.2.2.2.2.2.2.2.2.2.2.2.1), q4.2.1.2.2.2.2.2.2.2.2.2.2.2.2.2.2.2.2.2.2.2.2.2.2.2.2.2.2.2.2.2.1), ()), ())
   else
    (bif b.1 == 4 then
     (S14 k a.1 a.2.1 a.2.2.1 a.2.2.2.1 a.2.2.2.2.1 a.2.2.2.2.2.1 a.2.2.2.2.2.2.1 a.2.2.2.2.2.2.2.1 a.2.2.2.2.2.2.2.2.1.1.1 a.2.2.2.2.2.2.2.2.1.1.2 a.2.2.2.2.2.2.2.2.1.2 a.2.2.2.2.2.2.2.2.2.1 a.2.2.2.2.2.2.2.2.2.2 b.1 b.2.1.1 b.2.1.2.1 b.2.1.2.2.1 b.2.1.2.2.2.1 b.2.1.2.2.2.2.1 b.2.1.2.2.2.2.2 b.2.2.1.1 b.2.2.1.2 b.2.2.2.1 b.2.2.2.2.1 b.2.2.2.2.2 ([] : List (PN Int 6)) 0 0 0 0).bind fun q6 =>
     (S23 k (q6.2.1.1, q6.2.1.2.1, q6.2.1.2.2.1, q6.2.1.2.2.2.1, q6.2.1.2.2.2.2.1, q6.2.1.2.2.2.2.2.1, q6.2.1.2.2.2.2.2.2.1, q6.2.1.2.2.2.2.2.2.2.1, ((q6.2.1.2.2.2.2.2.2.2.2.1, q6.2.1.2.2.2.2.2.2.2.2.2.1), q6.2.1.2.2.2.2.2.2.2.2.2.2.1), q6.2.1.2.2.2.2.2.2.2.2.2.2.2.1, q6.2.1.2.2.2.2.2.2.2.2.2.2.2.2.1)).bind fun q7 =>
     some ((q7.1.1, q6.2.1.2.2.2.2.2.2.2.2.2.2.2.2.2.2.2.2.2.2.2.2.2.2.2.2.2.1, (q6.2.1.2.2.2.2.2.2.2.2.2.2.2.2.2.2.2.2.2.2.2.2.2.2.2.2.2.2.1, (q6.2.1.2.2.2.2.2.2.2.2.2.2.2.2.2.2.2.2.2.2.2.2.2.2.2.2.2.2.2.1, q6.2.1.2.2.2.2.2.2.2.2.2.2.2.2.2.2.2.2.2.2.2.2.2.2.2.2.2.2.2.2.1), q6.2.1.2.2.2.2.2.2.2.2.2.2.2.2.2.2.2.2.2.2.2.2.2.2.2.2.2.2.2.2.2.1), ()), ())
    else
     (bif b.1 == 5 then
      (S15 k a.1 a.2.1 a.2.2.1 a.2.2.2.1 a.2.2.2.2.1 a.2.2.2.2.2.1 a.2.2.2.2.2.2.1 a.2.2.2.2.2.2.2.1 a.2.2.2.2.2.2.2.2.1.1.1 a.2.2.2.2.2.2.2.2.1.1.2 a.2.2.2.2.2.2.2.2.1.2 a.2.2.2.2.2.2.2.2.2.1 a.2.2.2.2.2.2.2.2.2.2 b.1 b.2.1.1 b.2.1.2.1 b.2.1.2.2.1 b.2.1.2.2.2.1 b.2.1.2.2.2.2.1 b.2.1.2.2.2.2.2 b.2.2.1.1 b.2.2.1.2 b.2.2.2.1 b.2.2.2.2.1 b.2.2.2.2.2 ([] : List (PN Int 6)) 0 0 0 0).bind fun q8 =>
      (S23 k (q8.2.1.1, q8.2.1.2.1, q8.2.1.2.2.1, q8.2.1.2.2.2.1, q8.2.1.2.2.2.2.1, q8.2.1.2.2.2.2.2.1, q8.2.1.2.2.2.2.2.2.1, q8.2.1.2.2.2.2.2.2.2.1, ((q8.2.1.2.2.2.2.2.2.2.2.1, q8.2.1.2.2.2.2.2.2.2.2.2.1), q8.2.1.2.2.2.2.2.2.2.2.2.2.1), q8.2.1.2.2.2.2.2.2.2.2.2.2.2.1, q8.2.1.2.2.2.2.2.2.2.2.2.2.2.2.1)).bind fun q9 =>
      some ((q9.1.1, q8.2.1.2.2.2.2.2.2.2.2.2.2.2.2.2.2.2.2.2.2.2.2.2.2.2.2.2.1, (q8.2.1.2.2.2.2.2.2.2.2.2.2.2.2.2.2.2.2.2.2.2.2.2.2.2.2.2.2.1, (q8.2.1.2.2.2.2.2.2.2.2.2.2.2.2.2.2.2.2.2.2.2.2.2.2.2.2.2.2.2.1, q8.2.1.2.2.2.2.2.2.2.2.2.2.2.2.2.2.2.2.2.2.2.2.2.2.2.2.2.2.2.2.1), q8.2.1.2.2.2.2.2.2.2.2.2.2.2.2.2.2.2.2.2.2.2.2.2.2.2.2.2.2.2.2.2.1), ()), ())
     else
      (bif b.1 == 6 then
       (S16 k a.1 a.2.1 a.2.2.1 a.2.2.2.1 a.2.2.2.2.1 a.2.2.2.2.2.1 a.2.2.2.2.2.2.1 a.2.2.2.2.2.2.2.1 a.2.2.2.2.2.2.2.2.1.1.1 a.2.2.2.2.2.2.2.2.1.1.2 a.2.2.2.2.2.2.2.2.1.2 a.2.2.2.2.2.2.2.2.2.1 a.2.2.2.2.2.2.2.2.2.2 b.1 b.2.1.1 b.2.1.2.1 b.2.1.2.2.1 b.2.1.2.2.2.1 b.2.1.2.2.2.2.1 b.2.1.2.2.2.2.2 b.2.2.1.1 b.2.2.1.2 b.2.2.2.1 b.2.2.2.2.1 b.2.2.2.2.2 ([] : List (PN Int 6)) 0 0 0 0).bind fun q10 =>
       (S23 k (q10.2.1.1, q10.2.1.2.1, q10.2.1.2.2.1, q10.2.1.2.2.2.1, q10.2.1.2.2.2.2.1, q10.2.1.2.2.2.2.2.1, q10.2.1.2.2.2.2.2.2.1, q10.2.1.2.2.2.2.2.2.2.1, ((q10.2.1.2.2.2.2.2.2.2.2.1, q10.2.1.2.2.2.2.2.2.2.2.2.1), q10.2.1.2.2.2.2.2.2.2.2.2.2.1), q10.2.1.2.2.2.2.2.2.2.2.2.2.2.1, q10.2.1.2.2.2.2.2.2.2.2.2.2.2.2.1)).bind fun q11 =>
       some ((q11.1.1, q10.2.1.2.2.2.2.2.2.2.2.2.2.2.2.2.2.2.2.2.2.2.2.2.2.2.2.2.1, (q10.2.1.2.2.2.2.2.2.2.2.2.2.2.2.2.2.2.2.2.2.2.2.2.2.2.2.2.2.1, (q10.2.1.2.2.2.2.2.2.2.2.2.2.2.2.2.2.2.2.2.2.2.2.2.2.2.2.2.2.2.1, q10.2.1.2.2.2.2.2.2.2.2.2.2.2.2.2.2.2.2.2.2.2.2.2.2.2.2.2.2.2.2.1), q10.2.1.2.2.2.2.2.2.2.2.2.2.2.2.2.2.2.2.2.2.2.2.2.2.2.2.2.2.2.2.2.1), ()), ())
      else
       (bif b.1 == 7 then
        (S17 k a.1 a.2.1 a.2.2.1 a.2.2.2.1 a.2.2.2.2.1 a.2.2.2.2.2.1 a.2.2.2.2.2.2.1 a.2.2.2.2.2.2.2.1 a.2.2.2.2.2.2.2.2.1.1.1 a.2.2.2.2.2.2.2.2.1.1.2 a.2.2.2.2.2.2.2.2.1.2 a.2.2.2.2.2.2.2.2.2.1 a.2.2.2.2.2.2.2.2.2.2 b.1 b.2.1.1 b.2.1.2.1 b.2.1.2.2.1 b.2.1.2.2.2.1 b.2.1.2.2.2.2.1 b.2.1.2.2.2.2.2 b.2.2.1.1 b.2.2.1.2 b.2.2.2.1 b.2.2.2.2.1 b.2.2.2.2.2 ([] : List (PN Int 6)) 0 0 0 0).bind fun q12 =>
        (S23 k (q12.2.1.1, q12.2.1.2.1, q12.2.1.2.2.1, q12.2.1.2.2.2.1, q12.2.1.2.2.2.2.1, q12.2.1.2.2.2.2.2.1, q12.2.1.2.2.2.2.2.2.1, q12.2.1.2.2.2.2.2.2.2.1, ((q12.2.1.2.2.2.2.2.2.2.2.1, q12.2.1.2.2.2.2.2.2.2.2.2.1), q12.2.1.2.2.2.2.2.2.2.2.2.2.1), q12.2.1.2.2.2.2.2.2.2.2.2.2.2.1, q12.2.1.2.2.2.2.2.2.2.2.2.2.2.2.1)).bind fun q13 =>
        some ((q13.1.1, q12.2.1.2.2.2.2.2.2.2.2.2.2.2.2.2.2.2.2.2.2.2.2.2.2.2.2.2.1, (q12.2.1.2.2.2.2.2.2.2.2.2.2.2.2.2.2.2.2.2.2.2.2.2.2.2.2.2.2.1, (q12.2.1.2.2.2.2.2.2.2.2.2.2.2.2.2.2.2.2.2.2.2.2.2.2.2.2.2.2.2.1, q12.2.1.2.2.2.2.2.2.2.2.2.2.2.2.2.2.2.2.2.2.2.2.2.2.2.2.2.2.2.2.1), q12.2.1.2.2.2.2.2.2.2.2.2.2.2.2.2.2.2.2.2.2.2.2.2.2.2.2.2.2.2.2.2.1), ()), ())
       else
        (bif b.1 == 8 then
         (S18 k a.1 a.2.1 a.2.2.1 a.2.2.2.1 a.2.2.2.2.1 a.2.2.2.2.2.1 a.2.2.2.2.2.2.1 a.2.2.2.2.2.2.2.1 a.2.2.2.2.2.2.2.2.1.1.1 a.2.2.2.2.2.2.2.2.1.1.2 a.2.2.2.2.2.2.2.2.1.2 a.2.2.2.2.2.2.2.2.2.1 a.2.2.2.2.2.2.2.2.2.2 b.1 b.2.1.1 b.2.1.2.1 b.2.1.2.2.1 b.2.1.2.2.2.1 b.2.1.2.2.2.2.1 b.2.1.2.2.2.2.2 b.2.2.1.1 b.2.2.1.2 b.2.2.2.1 b.2.2.2.2.1 b.2.2.2.2.2 ([] : List (PN Int 6)) 0 0 0 0).bind fun q14 =>
         (S23 k (q14.2.1.1, q14.2.1.2.1, q14.2.1.2.2.1, q14.2.1.2.2.2.1, q14.2.1.2.2.2.2.1, q14.2.1.2.2.2.2.2.1, q14.2.1.2.2.2.2.2.2.1, q14.2.1.2.2.2.2.2.2.2.1, ((q14.2.1.2.2.2.2.2.2.2.2.1, q14.2.1.2.2.2.2.2.2.2.2.2.1), q14.2.1.2.2.2.2.2.2.2.2.2.2.1), q14.2.1.2.2.2.2.2.2.2.2.2.2.2.1, q14.2.1.2.2.2.2.2.2.2.2.2.2.2.2.1)).bind fun q15 =>
         some ((q15.1.1, q14.2.1.2.2.2.2.2.2.2.2.2.2.2.2.2.2.2.2.2.2.2.2.2.2.2.2.2.1, (q14.2.1.2.2.2.2.2.2.2.2.2.2.2.2.2.2.2.2.2.2.2.2.2.2.2.2.2.2.1, (q14.2.1.2.2.2.2.2.2.2.2.2.2.2.2.2.2.2.2.2.2.2.2.2.2.2.2.2.2.2.1, q14.2.1.2.2.2.2.2.2.2.2.2.2.2.2.2.2.2.2.2.2.2.2.2.2.2.2.2.2.2.2.1), q14.2.1.2.2.2.2.2.2.2.2.2.2.2.2.2.2.2.2.2.2.2.2.2.2.2.2.2.2.2.2.2.1), ()), ())
        else
         (bif b.1 == 9 then
          (S19 k a.1 a.2.1 a.2.2.1 a.2.2.2.1 a.2.2.2.2.1 a.2.2.2.2.2.1 a.2.2.2.2.2.2.1 a.2.2.2.2.2.2.2.1 a.2.2.2.2.2.2.2.2.1.1.1 a.2.2.2.2.2.2.2.2.1.1.2 a.2.2.2.2.2.2.2.2.1.2 a.2.2.2.2.2.2.2.2.2.1 a.2.2.2.2.2.2.2.2.2.2 b.1 b.2.1.1 b.2.1.2.1 b.2.1.2.2.1 b.2.1.2.2.2.1 b.2.1.2.2.2.2.1 b.2.1.2.2.2.2.2 b.2.2.1.1 b.2.2.1.2 b.2.2.2.1 b.2.2.2.2.1 b.2.2.2.2.2 ([] : List (PN Int 6)) 0 0 0 0).bind fun q16 =>
          (S23 k (q16.2.1.1, q16.2.1.2.1, q16.2.1.2.2.1, q16.2.1.2.2.2.1, q16.2.1.2.2.2.2.1, q16.2.1.2.2.2.2.2.1, q16.2.1.2.2.2.2.2.2.1, q16.2.1.2.2.2.2.2.2.2.1, ((q16.2.1.2.2.2.2.2.2.2.2.1, q16.2.1.2.2.2.2.2.2.2.2.2.1), q16.2.1.2.2.2.2.2.2.2.2.2.2.1), q16.2.1.2.2.2.2.2.2.2.2.2.2.2.1, q16.2.1.2.2.2.2.2.2.2.2.2.2.2.2.1)).bind fun q17 =>
          some ((q17.1.1, q16.2.1.2.2.2.2.2.2.2.2.2.2.2.2.2.2.2.2.2.2.2.2.2.2.2.2.2.1, (q16.2.1.2.2.2.2.2.2.2.2.2.2.2.2.2.2.2.2.2.2.2.2.2.2.2.2.2.2.1, (q16.2.1.2.2.2.2.2.2.2.2.2.2.2.2.2.2.2.2.2.2.2.2.2.2.2.2.2.2.2.1, q16.2.1.2.2.2.2.2.2.2.2.2.2.2.2.2.2.2.2.2.2.2.2.2.2.2.2.2.2.2.2.1), q16.2.1.2.2.2.2.2.2.2.2.2.2.2.2.2.2.2.2.2.2.2.2.2.2.2.2.2.2.2.2.2.1), ()), ())
         else
          (bif b.1 == 10 then
           (S20 k a.1 a.2.1 a.2.2.1 a.2.2.2.1 a.2.2.2.2.1 a.2.2.2.2.2.1 a.2.2.2.2.2.2.1 a.2.2.2.2.2.2.2.1 a.2.2.2.2.2.2.2.2.1.1.1 a.2.2.2.2.2.2.2.2.1.1.2 a.2.2.2.2.2.2.2.2.1.2 a.2.2.2.2.2.2.2.2.2.1 a.2.2.2.2.2.2.2.2.2.2 b.1 b.2.1.1 b.2.1.2.1 b.2.1.2.2.1 b.2.1.2.2.2.1 b.2.1.2.2.2.2.1 b.2.1.2.2.2.2.2 b.2.2.1.1 b.2.2.1.2 b.2.2.2.1 b.2.2.2.2.1 b.2.2.2.2.2 ([] : List (PN Int 6)) 0 0 0 0).bind fun q18 =>
           (S23 k (q18.2.1.1, q18.2.1.2.1, q18.2.1.2.2.1, q18.2.1.2.2.2.1, q18.2.1.2.2.2.2.1, q18.2.1.2.2.2.2.2.1, q18.2.1.2.2.2.2.2.2.1, q18.2.1.2.2.2.2.2.2.2.1, ((q18.2.1.2.2.2.2.2.2.2.2.1, q18.2.1.2.2.2.2.2.2.2.2.2.1), q18.2.1.2.2.2.2.2.2.2.2.2.2.1), q18.2.1.2.2.2.2.2.2.2.2.2.2.2.1, q18.2.1.2.2.2.2.2.2.2.2.2.2.2.2.1)).bind fun q19 =>
           some ((q19.1.1, q18.2.1.2.2.2.2.2.2.2.2.2.2.2.2.2.2.2.2.2.2.2.2.2.2.2.2.2.1, (q18.2.1.2.2.2.2.2.2.2.2.2.2.2.2.2.2.2.2.2.2.2.2.2.2.2.2.2.2.1, (q18.2.1.2.2.2.2.2.2.2.2.2.2.2.2.2.2.2.2.2.2.2.2.2.2.2.2.2.2.2.1, q18.2.1.2.2.2.2.2.2.2.2.2.2.2.2.2.2.2.2.2.2.2.2.2.2.2.2.2.2.2.2.1), q18.2.1.2.2.2.2.2.2.2.2.2.2.2.2.2.2.2.2.2.2.2.2.2.2.2.2.2.2.2.2.2.1), ()), ())
          else
           (bif b.1 == 11 then
            (S21 k a.1 a.2.1 a.2.2.1 a.2.2.2.1 a.2.2.2.2.1 a.2.2.2.2.2.1 a.2.2.2.2.2.2.1 a.2.2.2.2.2.2.2.1 a.2.2.2.2.2.2.2.2.1.1.1 a.2.2.2.2.2.2.2.2.1.1.2 a.2.2.2.2.2.2.2.2.1.2 a.2.2.2.2.2.2.2.2.2.1 a.2.2.2.2.2.2.2.2.2.2 b.1 b.2.1.1 b.2.1.2.1 b.2.1.2.2.1 b.2.1.2.2.2.1 b.2.1.2.2.2.2.1 b.2.1.2.2.2.2.2 b.2.2.1.1 b.2.2.1.2 b.2.2.2.1 b.2.2.2.2.1 b.2.2.2.2.2 ([] : List (PN Int 6)) 0 0 0 0).bind fun q20 =>
            (S23 k (q20.2.1.1, q20.2.1.2.1, q20.2.1.2.2.1, q20.2.1.2.2.2.1, q20.2.1.2.2.2.2.1, q20.2.1.2.2.2.2.2.1, q20.2.1.2.2.2.2.2.2.1, q20.2.1.2.2.2.2.2.2.2.1, ((q20.2.1.2.2.2.2.2.2.2.2.1, q20.2.1.2.2.2.2.2.2.2.2.2.1), q20.2.1.2.2.2.2.2.2.2.2.2.2.1), q20.2.1.2.2.2.2.2.2.2.2.2.2.2.1, q20.2.1.2.2.2.2.2.2.2.2.2.2.2.2.1)).bind fun q21 =>
            some ((q21.1.1, q20.2.1.2.2.2.2.2.2.2.2.2.2.2.2.2.2.2.2.2.2.2.2.2.2.2.2.2.1, (q20.2.1.2.2.2.2.2.2.2.2.2.2.2.2.2.2.2.2.2.2.2.2.2.2.2.2.2.2.1, (q20.2.1.2.2.2.2.2.2.2.2.2.2.2.2.2.2.2.2.2.2.2.2.2.2.2.2.2.2.2.1, q20.2.1.2.2.2.2.2.2.2.2.2.2.2.2.2.2.2.2.2.2.2.2.2.2.2.2.2.2.2.2.1), q20.2.1.2.2.2.2.2.2.2.2.2.2.2.2.2.2.2.2.2.2.2.2.2.2.2.2.2.2.2.2.2.1), ()), ())
           else
            (S22 k a.1 a.2.1 a.2.2.1 a.2.2.2.1 a.2.2.2.2.1 a.2.2.2.2.2.1 a.2.2.2.2.2.2.1 a.2.2.2.2.2.2.2.1 a.2.2.2.2.2.2.2.2.1.1.1 a.2.2.2.2.2.2.2.2.1.1.2 a.2.2.2.2.2.2.2.2.1.2 a.2.2.2.2.2.2.2.2.2.1 a.2.2.2.2.2.2.2.2.2.2 b.1 b.2.1.1 b.2.1.2.1 b.2.1.2.2.1 b.2.1.2.2.2.1 b.2.1.2.2.2.2.1 b.2.1.2.2.2.2.2 b.2.2.1.1 b.2.2.1.2 b.2.2.2.1 b.2.2.2.2.1 b.2.2.2.2.2 ([] : List (PN Int 6)) 0 0 0 0).bind fun q22 =>
            (S23 k (q22.2.1.1, q22.2.1.2.1, q22.2.1.2.2.1, q22.2.1.2.2.2.1, q22.2.1.2.2.2.2.1, q22.2.1.2.2.2.2.2.1, q22.2.1.2.2.2.2.2.2.1, q22.2.1.2.2.2.2.2.2.2.1, ((q22.2.1.2.2.2.2.2.2.2.2.1, q22.2.1.2.2.2.2.2.2.2.2.2.1), q22.2.1.2.2.2.2.2.2.2.2.2.2.1), q22.2.1.2.2.2.2.2.2.2.2.2.2.2.1, q22.2.1.2.2.2.2.2.2.2.2.2.2.2.2.1)).bind fun q23 =>
            some ((q23.1.1, q22.2.1.2.2.2.2.2.2.2.2.2.2.2.2.2.2.2.2.2.2.2.2.2.2.2.2.2.1, (q22.2.1.2.2.2.2.2.2.2.2.2.2.2.2.2.2.2.2.2.2.2.2.2.2.2.2.2.2.1, (q22.2.1.2.2.2.2.2.2.2.2.2.2.2.2.2.2.2.2.2.2.2.2.2.2.2.2.2.2.2.1, q22.2.1.2.2.2.2.2.2.2.2.2.2.2.2.2.2.2.2.2.2.2.2.2.2.2.2.2.2.2.2.1), q22.2.1.2.2.2.2.2.2.2.2.2.2.2.2.2.2.2.2.2.2.2.2.2.2.2.2.2.2.2.2.2.1), ()), ()))))))))))))
def F9 : Fn := ⟨[.val ⟨true, Y1_16, false⟩, .val ⟨true, (.pair (.int .i64) (.pair Y1_7 (.pair (.pair (.int .i64) (.int .i64)) (.pair (.int .i64) Y1_11)))), false⟩], [.val ⟨true, Y1_16, true⟩, .val ⟨false, (.sl 58 Y1_27), true⟩, .val ⟨true, (.pair (.int .i64) (.pair (.pair (.int .i64) (.int .i64)) (.int .i64))), true⟩], fun k x => S9 k x.1 x.2.1⟩
theorem ok9 : FnOK Tryz.prog 9 F9 := okF [(13, F13), (14, F14), (15, F15), (16, F16), (17, F17), (18, F18), (19, F19), (20, F20), (21, F21), (22, F22), (23, F23)] [(14, 2)] (fun k => .nil) ⟨ok13, ok14, ok15, ok16, ok17, ok18, ok19, ok20, ok21, ok22, ok23, trivial⟩ Tryz.func9 rfl
def S7 (k : Nat) : Option Y1_21 :=
 (S8 k 50).bind fun q0 =>
 (S9 k q0.1.1 (1, (1, 20, 20, ([(0, 0, 0, 0)] : List (Int × Int × Int × Int)), [], []), (0, 0), 0, 0, 0)).bind fun q1 =>
 (S9 k q1.1.1 (3, (0, 0, 0, [], [], []), (0, 0), 0, 0, 0)).bind fun q2 =>
 (S9 k q2.1.1 (5, (0, 0, 0, [], [], []), (0, 0), 0, 0, 0)).bind fun q3 =>
 (S9 k q3.1.1 (7, (0, 0, 0, [], [], []), q2.1.2.2.1.2.1, 0, 7, 0)).bind fun q4 =>
 (S9 k q4.1.1 (8, (0, 0, 0, [], [], []), q2.1.2.2.1.2.1, 1, 0, 0)).bind fun q5 =>
 (S9 k q5.1.1 (99, (0, 0, 0, [], [], []), (0, 0), 0, 0, 0)).bind fun q6 =>
 (bif q0.1.2.1 then
  (bif q1.1.2.2.1.1 == 0 then
   (bif q2.1.2.2.1.1 == 0 then
    (bif q3.1.2.2.1.1 == 0 then
     (bif q4.1.2.2.1.1 == 0 then
      (bif q5.1.2.2.1.1 == 0 then
       (bif q5.1.2.2.1.2.2 == 7 then
        (bif q6.1.2.2.1.1 == 1 then
         some ((q6.1.1.2.2.2.2.1, ()), ())
        else
         some ((false, ()), ()))
       else
        some ((false, ()), ()))
      else
       some ((false, ()), ()))
     else
      some ((false, ()), ()))
    else
     some ((false, ()), ()))
   else
    some ((false, ()), ()))
  else
   some ((false, ()), ()))
 else
  some ((false, ()), ()))
def F7 : Fn := ⟨[], [.val ⟨false, .bool, true⟩], fun k x => S7 k ⟩
theorem ok7 : FnOK Tryz.prog 7 F7 := okF [(8, F8), (9, F9)] [] (fun k => .nil) ⟨ok8, ok9, trivial⟩ Tryz.func7 rfl
abbrev c5_J21 : Cut := ⟨[0, 3, 6, 7, 8, 9, 14], [.cell (.sl 61 (.pair (.int .u8) (.int .u8))), .box 36 [cI, cI, .own 43 Y1_7, .own 117 (arrT 5 (.int .i64)), .cell .bool, .cell .bool, .cell .bool, .own 124 Y1_2, .own 3 (.int .i64), .own 4 .bool, .own 97 Y1_4, .own 3 (.int .i64), .own 4 .bool], .box 54 [cI, cI, cI, cI], .cell (.int .u32), .cell (.int .u32), cI, .cell (.int .u32)], [], 178, []⟩
def j5_21 (k : Nat) (g11 : Y1_9) (a : Y1_17) (b c : Int) (e : List Y1_5) (f : List (PN Int 5)) (h i l : Bool) (m : List Y1_3) (n : List Int) (o : List Bool) (p : List Y1_6) (s : List Int) (t : List Bool) (u v w y z A B C : Int) : Option Y1_21 :=
 (bif C != 0 then
  g11 a b c e f h i l m n o p s t u v w y (iandn .u32 z C) 0 (IntKind.i64.wrap (B + 1))
 else
  g11 a b c e f h i l m n o p s t u v w y z A (IntKind.i64.wrap (B + 1)))
abbrev c5_L11 : Cut := ⟨[0, 3, 6, 7, 8, 9], [.cell (.sl 61 (.pair (.int .u8) (.int .u8))), .box 36 [cI, cI, .own 43 Y1_7, .own 117 (arrT 5 (.int .i64)), .cell .bool, .cell .bool, .cell .bool, .own 124 Y1_2, .own 3 (.int .i64), .own 4 .bool, .own 97 Y1_4, .own 3 (.int .i64), .own 4 .bool], .box 54 [cI, cI, cI, cI], .cell (.int .u32), .cell (.int .u32), cI], [], 178, []⟩
def l5_11 (k : Nat) (g11 : Y1_9) (a : Y1_17) (b c : Int) (e : List Y1_5) (f : List (PN Int 5)) (h i l : Bool) (m : List Y1_3) (n : List Int) (o : List Bool) (p : List Y1_6) (s : List Int) (t : List Bool) (u v w y z A B : Int) : Option Y1_21 :=
 (bif decide (B < (a.length : Int)) then
  ix a B <|
  ix a B <|
  (bif (Int.tmod (rd a B (0, 0)).1 2) == 0 then
   (S9 k (b, c, e, f, h, i, l, m, ((n, o), p), s, t) (9, (0, 0, 0, [], [], []), (v, w), 0, 0, IntKind.u32.wrap (rd a B (0, 0)).2)).bind fun q3 =>
   (bif q3.1.2.2.1.1 != 0 then
    some ((false, ()), ())
   else
    (bif !(((q3.1.2.1.length : Int) == 1) == ((iand .u32 (ior .u32 z (IntKind.u32.wrap (rd a B (0, 0)).2)) A) != 0)) then
     some ((false, ()), ())
    else
     (bif decide ((q3.1.2.1.length : Int) > 1) then
      some ((false, ()), ())
     else
      (bif (iand .u32 (ior .u32 z (IntKind.u32.wrap (rd a B (0, 0)).2)) A) != 0 then
       ix q3.1.2.1 0 <|
       (bif (rd q3.1.2.1 0 (prep (α := Int) 6 0)).2.2.2.1 != 1 then
        some ((false, ()), ())
       else
        ix q3.1.2.1 0 <|
        (bif (rd q3.1.2.1 0 (prep (α := Int) 6 0)).2.2.2.2.1 != (IntKind.i64.wrap (iand .u32 (ior .u32 z (IntKind.u32.wrap (rd a B (0, 0)).2)) A)) then
         some ((false, ()), ())
        else
         ix q3.1.2.1 0 <|
         (bif (rd q3.1.2.1 0 (prep (α := Int) 6 0)).2.2.2.2.2 != 0 then
          some ((false, ()), ())
         else
          j5_21 k g11 a q3.1.1.1 q3.1.1.2.1 q3.1.1.2.2.1 q3.1.1.2.2.2.1 q3.1.1.2.2.2.2.1 q3.1.1.2.2.2.2.2.1 q3.1.1.2.2.2.2.2.2.1 q3.1.1.2.2.2.2.2.2.2.1 q3.1.1.2.2.2.2.2.2.2.2.1.1.1 q3.1.1.2.2.2.2.2.2.2.2.1.1.2 q3.1.1.2.2.2.2.2.2.2.2.1.2 q3.1.1.2.2.2.2.2.2.2.2.2.1 q3.1.1.2.2.2.2.2.2.2.2.2.2 u v w y (ior .u32 z (IntKind.u32.wrap (rd a B (0, 0)).2)) A B (iand .u32 (ior .u32 z (IntKind.u32.wrap (rd a B (0, 0)).2)) A))))
      else
       j5_21 k g11 a q3.1.1.1 q3.1.1.2.1 q3.1.1.2.2.1 q3.1.1.2.2.2.1 q3.1.1.2.2.2.2.1 q3.1.1.2.2.2.2.2.1 q3.1.1.2.2.2.2.2.2.1 q3.1.1.2.2.2.2.2.2.2.1 q3.1.1.2.2.2.2.2.2.2.2.1.1.1 q3.1.1.2.2.2.2.2.2.2.2.1.1.2 q3.1.1.2.2.2.2.2.2.2.2.1.2 q3.1.1.2.2.2.2.2.2.2.2.2.1 q3.1.1.2.2.2.2.2.2.2.2.2.2 u v w y (ior .u32 z (IntKind.u32.wrap (rd a B (0, 0)).2)) A B (iand .u32 (ior .u32 z (IntKind.u32.wrap (rd a B (0, 0)).2)) A)))))
  else
   (S9 k (b, c, e, f, h, i, l, m, ((n, o), p), s, t) (10, (0, 0, 0, [], [], []), (v, w), 1, 0, IntKind.u32.wrap (rd a B (0, 0)).2)).bind fun q4 =>
   (bif (q4.1.2.1.length : Int) != 0 then
    some ((false, ()), ())
   else
    (bif (IntKind.u32.wrap (rd a B (0, 0)).2) == 0 then
     (bif q4.1.2.2.1.1 != 1 then
      some ((false, ()), ())
     else
      g11 a q4.1.1.1 q4.1.1.2.1 q4.1.1.2.2.1 q4.1.1.2.2.2.1 q4.1.1.2.2.2.2.1 q4.1.1.2.2.2.2.2.1 q4.1.1.2.2.2.2.2.2.1 q4.1.1.2.2.2.2.2.2.2.1 q4.1.1.2.2.2.2.2.2.2.2.1.1.1 q4.1.1.2.2.2.2.2.2.2.2.1.1.2 q4.1.1.2.2.2.2.2.2.2.2.1.2 q4.1.1.2.2.2.2.2.2.2.2.2.1 q4.1.1.2.2.2.2.2.2.2.2.2.2 u v w y z A (IntKind.i64.wrap (B + 1)))
    else
     (bif (iand .u32 z (IntKind.u32.wrap (rd a B (0, 0)).2)) == 0 then
      (bif A != 0 then
       (bif q4.1.2.2.1.1 != 1 then
        some ((false, ()), ())
       else
        g11 a q4.1.1.1 q4.1.1.2.1 q4.1.1.2.2.1 q4.1.1.2.2.2.1 q4.1.1.2.2.2.2.1 q4.1.1.2.2.2.2.2.1 q4.1.1.2.2.2.2.2.2.1 q4.1.1.2.2.2.2.2.2.2.1 q4.1.1.2.2.2.2.2.2.2.2.1.1.1 q4.1.1.2.2.2.2.2.2.2.2.1.1.2 q4.1.1.2.2.2.2.2.2.2.2.1.2 q4.1.1.2.2.2.2.2.2.2.2.2.1 q4.1.1.2.2.2.2.2.2.2.2.2.2 u v w y z A (IntKind.i64.wrap (B + 1)))
      else
       (bif (iand .u32 z (IntKind.u32.wrap (rd a B (0, 0)).2)) != 0 then
        (bif q4.1.2.2.1.1 != 0 then
         some ((false, ()), ())
        else
         (bif q4.1.2.2.1.2.2 != (IntKind.i64.wrap (iand .u32 z (IntKind.u32.wrap (rd a B (0, 0)).2))) then
          some ((false, ()), ())
         else
          g11 a q4.1.1.1 q4.1.1.2.1 q4.1.1.2.2.1 q4.1.1.2.2.2.1 q4.1.1.2.2.2.2.1 q4.1.1.2.2.2.2.2.1 q4.1.1.2.2.2.2.2.2.1 q4.1.1.2.2.2.2.2.2.2.1 q4.1.1.2.2.2.2.2.2.2.2.1.1.1 q4.1.1.2.2.2.2.2.2.2.2.1.1.2 q4.1.1.2.2.2.2.2.2.2.2.1.2 q4.1.1.2.2.2.2.2.2.2.2.2.1 q4.1.1.2.2.2.2.2.2.2.2.2.2 u v w y (iandn .u32 z (iand .u32 z (IntKind.u32.wrap (rd a B (0, 0)).2))) A (IntKind.i64.wrap (B + 1))))
       else
        (bif q4.1.2.2.1.1 != 16 then
         some ((false, ()), ())
        else
         g11 a q4.1.1.1 q4.1.1.2.1 q4.1.1.2.2.1 q4.1.1.2.2.2.1 q4.1.1.2.2.2.2.1 q4.1.1.2.2.2.2.2.1 q4.1.1.2.2.2.2.2.2.1 q4.1.1.2.2.2.2.2.2.2.1 q4.1.1.2.2.2.2.2.2.2.2.1.1.1 q4.1.1.2.2.2.2.2.2.2.2.1.1.2 q4.1.1.2.2.2.2.2.2.2.2.1.2 q4.1.1.2.2.2.2.2.2.2.2.2.1 q4.1.1.2.2.2.2.2.2.2.2.2.2 u v w y z (IntKind.u32.wrap (rd a B (0, 0)).2) (IntKind.i64.wrap (B + 1)))))
     else
      (bif (iand .u32 z (IntKind.u32.wrap (rd a B (0, 0)).2)) != 0 then
       (bif q4.1.2.2.1.1 != 0 then
        some ((false, ()), ())
       else
        (bif q4.1.2.2.1.2.2 != (IntKind.i64.wrap (iand .u32 z (IntKind.u32.wrap (rd a B (0, 0)).2))) then
         some ((false, ()), ())
        else
         g11 a q4.1.1.1 q4.1.1.2.1 q4.1.1.2.2.1 q4.1.1.2.2.2.1 q4.1.1.2.2.2.2.1 q4.1.1.2.2.2.2.2.1 q4.1.1.2.2.2.2.2.2.1 q4.1.1.2.2.2.2.2.2.2.1 q4.1.1.2.2.2.2.2.2.2.2.1.1.1 q4.1.1.2.2.2.2.2.2.2.2.1.1.2 q4.1.1.2.2.2.2.2.2.2.2.1.2 q4.1.1.2.2.2.2.2.2.2.2.2.1 q4.1.1.2.2.2.2.2.2.2.2.2.2 u v w y (iandn .u32 z (iand .u32 z (IntKind.u32.wrap (rd a B (0, 0)).2))) A (IntKind.i64.wrap (B + 1))))
      else
       (bif q4.1.2.2.1.1 != 16 then
        some ((false, ()), ())
       else
        g11 a q4.1.1.1 q4.1.1.2.1 q4.1.1.2.2.1 q4.1.1.2.2.2.1 q4.1.1.2.2.2.2.1 q4.1.1.2.2.2.2.2.1 q4.1.1.2.2.2.2.2.2.1 q4.1.1.2.2.2.2.2.2.2.1 q4.1.1.2.2.2.2.2.2.2.2.1.1.1 q4.1.1.2.2.2.2.2.2.2.2.1.1.2 q4.1.1.2.2.2.2.2.2.2.2.1.2 q4.1.1.2.2.2.2.2.2.2.2.2.1 q4.1.1.2.2.2.2.2.2.2.2.2.2 u v w y z (IntKind.u32.wrap (rd a B (0, 0)).2) (IntKind.i64.wrap (B + 1))))))))
 else
  some ((true, ()), ()))
def b5_11 (k : Nat) (g : ((Unit) × Y1_12 × Y1_22 × (Int × Int × Int × Int × Unit) × Int × Int × Int × Unit) → Option Y1_21) (d : (Unit) × Y1_12 × Y1_22 × (Int × Int × Int × Int × Unit) × Int × Int × Int × Unit) : Option Y1_21 := l5_11 k (fun a b c e f h i l m n o p s t u v w y z A B => g ((), a, (b, c, e, f, h, i, l, m, n, o, p, s, t, ()), (u, v, w, y, ()), z, A, B, ())) d.2.1 d.2.2.1.1 d.2.2.1.2.1 d.2.2.1.2.2.1 d.2.2.1.2.2.2.1 d.2.2.1.2.2.2.2.1 d.2.2.1.2.2.2.2.2.1 d.2.2.1.2.2.2.2.2.2.1 d.2.2.1.2.2.2.2.2.2.2.1 d.2.2.1.2.2.2.2.2.2.2.2.1 d.2.2.1.2.2.2.2.2.2.2.2.2.1 d.2.2.1.2.2.2.2.2.2.2.2.2.2.1 d.2.2.1.2.2.2.2.2.2.2.2.2.2.2.1 d.2.2.1.2.2.2.2.2.2.2.2.2.2.2.2.1 d.2.2.2.1.1 d.2.2.2.1.2.1 d.2.2.2.1.2.2.1 d.2.2.2.1.2.2.2.1 d.2.2.2.2.1 d.2.2.2.2.2.1 d.2.2.2.2.2.2.1
def L5_11 (k a : Nat) (b : Y1_17) (c e : Int) (f : List Y1_5) (h : List (PN Int 5)) (i l m : Bool) (n : List Y1_3) (o : List Int) (p : List Bool) (s : List Y1_6) (t : List Int) (u : List Bool) (v w y z A B C : Int) : Option Y1_21 := iter (R := (Bool × Unit) × Unit) c5_L11 (b5_11 k) a ((), b, (c, e, f, h, i, l, m, n, o, p, s, t, u, ()), (v, w, y, z, ()), A, B, C, ())
theorem L5_11_s (k a b c e f h i l m n o p s t u v w y z A B C) : L5_11 k (a + 1) b c e f h i l m n o p s t u v w y z A B C = l5_11 k (L5_11 k a) b c e f h i l m n o p s t u v w y z A B C := iter_succ _ _ _ _
def S5 (k : Nat) (a : Y1_17) : Option Y1_21 :=
 (S7 k).bind fun q0 =>
 (bif !q0.1.1 then
  some ((false, ()), ())
 else
  (bif decide ((a.length : Int) > 40) then
   some ((true, ()), ())
  else
   (S8 k 10).bind fun q1 =>
   (S9 k q1.1.1 (4, (0, 0, 0, [], [], []), (0, 0), 0, 0, 0)).bind fun q2 =>
   (bif !q1.1.2.1 then
    some ((false, ()), ())
   else
    (bif q2.1.2.2.1.1 != 0 then
     some ((false, ()), ())
    else
     L5_11 k k a q2.1.1.1 q2.1.1.2.1 q2.1.1.2.2.1 q2.1.1.2.2.2.1 q2.1.1.2.2.2.2.1 q2.1.1.2.2.2.2.2.1 q2.1.1.2.2.2.2.2.2.1 q2.1.1.2.2.2.2.2.2.2.1 q2.1.1.2.2.2.2.2.2.2.2.1.1.1 q2.1.1.2.2.2.2.2.2.2.2.1.1.2 q2.1.1.2.2.2.2.2.2.2.2.1.2 q2.1.1.2.2.2.2.2.2.2.2.2.1 q2.1.1.2.2.2.2.2.2.2.2.2.2 q2.1.2.2.1.1 q2.1.2.2.1.2.1.1 q2.1.2.2.1.2.1.2 q2.1.2.2.1.2.2 0 0 0))))
def F5 : Fn := ⟨[.val ⟨false, (.sl 61 (.pair (.int .u8) (.int .u8))), false⟩], [.val ⟨false, .bool, true⟩], fun k x => S5 k x.1⟩
theorem ok5 : FnOK Tryz.prog 5 F5 := okF [(7, F7), (8, F8), (9, F9)] [] (fun k => (.loop 11 c5_L11 (b5_11 k) (fun g => (fun (g11 : Y1_9) => (.join 21 c5_J21 (fun d => j5_21 k g11 d.2.1 d.2.2.1.1 d.2.2.1.2.1 d.2.2.1.2.2.1 d.2.2.1.2.2.2.1 d.2.2.1.2.2.2.2.1 d.2.2.1.2.2.2.2.2.1 d.2.2.1.2.2.2.2.2.2.1 d.2.2.1.2.2.2.2.2.2.2.1 d.2.2.1.2.2.2.2.2.2.2.2.1 d.2.2.1.2.2.2.2.2.2.2.2.2.1 d.2.2.1.2.2.2.2.2.2.2.2.2.2.1 d.2.2.1.2.2.2.2.2.2.2.2.2.2.2.1 d.2.2.1.2.2.2.2.2.2.2.2.2.2.2.2.1 d.2.2.2.1.1 d.2.2.2.1.2.1 d.2.2.2.1.2.2.1 d.2.2.2.1.2.2.2.1 d.2.2.2.2.1 d.2.2.2.2.2.1 d.2.2.2.2.2.2.1 d.2.2.2.2.2.2.2.1) .nil)) (fun l_1 k_ k_1 k_2 k_3 k_4 k_5 k_6 k_7 k_8 k_9 k_10 k_11 k_12 a a1 a2 a3 bits want i => g ((), l_1, (k_, k_1, k_2, k_3, k_4, k_5, k_6, k_7, k_8, k_9, k_10, k_11, k_12, ()), (a, a1, a2, a3, ()), bits, want, i, ()))) .nil)) ⟨ok7, ok8, ok9, trivial⟩ Tryz.func5 rfl
end
end Go.Proofs.YtjemccmhbjfnaaaGreat.Ab
