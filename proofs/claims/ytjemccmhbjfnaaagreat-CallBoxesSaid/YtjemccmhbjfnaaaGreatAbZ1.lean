import Derived.Test.YtjemccmhbjfnaaaGreatAbZ0
/- Contracts, printed by this session's own program gen.py. -/
set_option linter.unusedVariables false
set_option linter.unusedSimpArgs false
set_option maxRecDepth 100000
namespace Go.Proofs.YtjemccmhbjfnaaaGreat.Ab
open Go.RowKit
abbrev Y1_0 : Type := Int × Int × (List (Int × Int × Int × (List (Int × Int × Int × Int)) × (List (Int × Int × Int × Int)) × List (Int × Int × Int × Int))) × (List (PN Int 5)) × Bool × Bool × Bool × (List (Int × Int × Int × Int × (Int × (PN Int 8) × (List (Int × Int × Int)) × Bool) × (Int × (PN Int 8) × (List (Int × Int × Int)) × Bool) × (List Int) × Bool)) × (List Int) × (List Bool) × (List (Int × (Int × Int) × (Int × Int) × ((List Int) × List Int) × (Int × List (Int × Int)) × Int)) × (List Int) × (List Bool) × (List (PN Int 6)) × Unit
abbrev Y1_1 : Ty := .pair (.int .i64) (.pair (.int .i64) (.pair (.int .i64) (.pair (.int .i64) (.pair (.pair (.int .i64) (.pair (arrT 8 (.int .i64)) (.pair (.sl 177 (.pair (.int .i64) (.pair (.int .i64) (.int .i64)))) .bool))) (.pair (.pair (.int .i64) (.pair (arrT 8 (.int .i64)) (.pair (.sl 177 (.pair (.int .i64) (.pair (.int .i64) (.int .i64)))) .bool))) (.pair (.sl 3 (.int .i64)) .bool))))))
abbrev Y1_2 : Type := Int × Int × Int × Int × (Int × (PN Int 8) × (List (Int × Int × Int)) × Bool) × (Int × (PN Int 8) × (List (Int × Int × Int)) × Bool) × (List Int) × Bool
abbrev Y1_3 : Ty := .pair (.int .i64) (.pair (.int .i64) (.pair (.int .i64) (.pair (.sl 40 (.pair (.int .i64) (.pair (.int .i64) (.pair (.int .i64) (.int .i64))))) (.pair (.sl 40 (.pair (.int .i64) (.pair (.int .i64) (.pair (.int .i64) (.int .i64))))) (.sl 40 (.pair (.int .i64) (.pair (.int .i64) (.pair (.int .i64) (.int .i64)))))))))
abbrev Y1_4 : Type := Int × Int × (List (Int × Int × Int × (List (Int × Int × Int × Int)) × (List (Int × Int × Int × Int)) × List (Int × Int × Int × Int))) × (List (PN Int 5)) × Bool × Bool × Bool × (List Y1_2) × (List Int) × (List Bool) × (List (Int × (Int × Int) × (Int × Int) × ((List Int) × List Int) × (Int × List (Int × Int)) × Int)) × (List Int) × (List Bool) × Int × Int × Int × Int × (List (Int × Int × Int × Int)) × (List (Int × Int × Int × Int)) × (List (Int × Int × Int × Int)) × Int × Int × Int × Int × Int × (List (PN Int 6)) × Int × Int × Int × Int × Unit
abbrev Y1_5 : Ty := .pair (.int .i64) (.pair (.pair (.int .i64) (.int .i64)) (.pair (.pair (.int .i64) (.int .i64)) (.pair (.pair (.sl 2 (.int .i64)) (.sl 3 (.int .i64))) (.pair (.pair (.int .u32) (.sl 109 (.pair (.int .i64) (.int .u32)))) (.int .u32)))))
abbrev Y1_6 : Type := Int × (Int × Int) × (Int × Int) × ((List Int) × List Int) × (Int × List (Int × Int)) × Int
abbrev Y1_7 : Type := Int × Int × Int × (List (Int × Int × Int × Int)) × (List (Int × Int × Int × Int)) × List (Int × Int × Int × Int)
abbrev Y1_8 : Ty := .pair (.int .i64) (.pair (.int .i64) (.int .i64))
abbrev Y1_9 : Type := Int → Int → (List Y1_7) → (List (PN Int 5)) → Bool → Bool → Bool → (List Y1_2) → (List Int) → (List Bool) → (List Y1_6) → (List Int) → (List Bool) → (List (PN Int 6)) → (List (List Int)) → (List Int) → Int → Int → Option ((Unit) × Y1_0 × Unit)
abbrev Y1_10 : Type := Int × Int × Int × Int × Int × Int × Int × Int × Int × Int × Int × Int × Int × (List (Int × Int × Int)) × Bool × Int × Int × Int × Int × Int × Int × Int × Int × Int × (List (Int × Int × Int)) × Bool × (List Int) × Bool × Unit
abbrev Y1_11 : Type := Int × (PN Int 8) × (List (Int × Int × Int)) × Bool
abbrev Y1_12 : Type := Int × Int × Int × Int
abbrev Y1_13 : Ty := .sl 3 (.int .i64)
abbrev Y1_14 : Ty := .sl 40 (.pair (.int .i64) Y1_8)
abbrev Y1_15 : Ty := .pair (.int .i64) (.int .i64)
abbrev Y1_16 : Type := (Unit) × Y1_0 × Unit
abbrev Y1_17 : Type := List (Int × Int)
abbrev Y1_18 : Ty := .pair (.int .i64) (.pair (.int .i64) (.pair (.sl 43 Y1_3) (.pair (.sl 117 (arrT 5 (.int .i64))) (.pair .bool (.pair .bool (.pair .bool (.pair (.sl 124 Y1_1) (.pair (.pair (.pair Y1_13 (.sl 4 .bool)) (.sl 97 Y1_5)) (.pair Y1_13 (.sl 4 .bool))))))))))
abbrev Y1_19 : Type := ((((List Int) × List Bool) × List Y1_6) × (List Int) × (List (List Int)) × Unit) × Unit
abbrev Y1_20 : Type := Int × Int × Int
abbrev Y1_21 : Type := (List Int) → Int → Int → (List Y1_7) → (List (PN Int 5)) → Bool → Bool → Bool → (List Y1_2) → (List Int) → (List Bool) → (List Y1_6) → (List Int) → (List Bool) → Int → Int → Int → Int → Int → Int → Int → Int → Option ((Bool × Unit) × Unit)
abbrev Y1_22 : Type := (Int × Bool × Unit) × Unit
abbrev Y1_23 : Type := (Int × Unit) × Unit
abbrev Y1_24 : Type := Int × Int × Int × Int × Y1_11 × Y1_11 × (List Int) × Bool
abbrev Y1_25 : Ty := .pair (.int .i64) (.int .u32)
abbrev Y1_26 : Type := List (Int × Int)
abbrev Y1_27 : Ty := arrT 6 (.int .i64)
abbrev Y1_28 : Ty := arrT 5 (.int .i64)
abbrev Y1_29 : Ty := .pair (.int .i64) (.pair (arrT 8 (.int .i64)) (.pair (.sl 177 Y1_8) .bool))
abbrev Y1_30 : Type := (List Int) → (List Bool) → (List Y1_6) → (List Int) → (List Bool) → (List Y1_6) → (List Int) → (List (List Int)) → (List Y1_6) → Int → Int → Option Y1_19
abbrev Y1_31 : Type := ((List Int) × Unit) × Unit
abbrev Y1_32 : Type := Int × List (Int × Int)
abbrev Y1_33 : Type := (Unit) × Y1_4 × Unit
abbrev Y1_34 : Type := (Bool × Unit) × Unit
abbrev Y1_35 : Type := Int → Int → (List Y1_7) → (List (PN Int 5)) → Bool → Bool → Bool → (List Y1_2) → (List Int) → (List Bool) → (List Y1_6) → (List Int) → (List Bool) → (List (PN Int 6)) → Y1_17 → (List Int) → Int → Int → Option Y1_16
abbrev Y1_36 : Type := List (List Int)
abbrev Y1_37 : Ty := .sl 4 .bool
abbrev Y1_38 : Type := (Y1_2 × Y1_12 × Bool × Unit) × Unit
abbrev Y1_39 : Type := (List Int) × List Bool
abbrev Y1_40 : Type := Int × Int × Int × (List Y1_12) × (List Y1_12) × List Y1_12
abbrev Y1_41 : Type := (Y1_32 × (List Int) × Unit) × Unit
abbrev Y1_42 : Type := Int × Int × (List Y1_7) × (List (PN Int 5)) × Bool × Bool × Bool × (List Y1_2) × (List Int) × (List Bool) × (List Y1_6) × (List Int) × (List Bool) × Unit
abbrev Y1_43 : Ty := .sl 89 Y1_15
abbrev Y1_44 : Ty := .pair (.int .u32) (.sl 109 Y1_25)
abbrev Y1_45 : Type := (Y1_32 × Y1_17 × Unit) × Unit
abbrev Y1_46 : Type := (Bool × Unit) × Y1_0 × Y1_10 × Unit
abbrev Y1_47 : Ty := .sl 124 Y1_1
abbrev Y1_48 : Type := (Y1_11 × Unit) × Unit
abbrev Y1_49 : Type := Int × Int × (List Y1_7) × (List (PN Int 5)) × Bool × Bool × Bool × (List Y1_2) × (Y1_39 × List Y1_6) × (List Int) × List Bool
abbrev Y1_50 : Type := (List Int) × (List Bool) × (List Y1_6) × Unit
abbrev Y1_51 : Type := Int × Int × (List Y1_7) × (List (PN Int 5)) × Bool × Bool × Bool × (List Y1_2) × (Y1_39 × List Y1_6) × (List Int) × List Bool
abbrev Y1_52 : Type := (Y1_17 × Unit) × Unit
abbrev Y1_53 : Ty := .pair (.pair Y1_13 Y1_37) (.sl 97 Y1_5)
abbrev Y1_54 : Type := Y1_0 × Unit
abbrev Y1_55 : Type := List Y1_20
noncomputable section
abbrev c51_L2 : Cut := ⟨[0, 1, 7, 8], [.cell Y1_13, cI, cI, cI], [], 19, []⟩
def l51_2 (k : Nat) (g2 : (List Int) → Int → Int → Int → Option Y1_23) (a : List Int) (b c e : Int) : Option Y1_23 :=
 (bif decide (e < c) then
  ix a e <|
  (bif b == (rd a e 0) then
   some ((e, ()), ())
  else
   g2 a b c (IntKind.i64.wrap (e + 1)))
 else
  some (((-1), ()), ()))
def b51_2 (k : Nat) (g : ((Unit) × (List Int) × Int × Int × Int × Unit) → Option Y1_23) (d : (Unit) × (List Int) × Int × Int × Int × Unit) : Option Y1_23 := l51_2 k (fun a b c e => g ((), a, b, c, e, ())) d.2.1 d.2.2.1 d.2.2.2.1 d.2.2.2.2.1
def L51_2 (k a : Nat) (b : List Int) (c e f : Int) : Option Y1_23 := iter (R := (Int × Unit) × Unit) c51_L2 (b51_2 k) a ((), b, c, e, f, ())
theorem L51_2_s (k a b c e f) : L51_2 k (a + 1) b c e f = l51_2 k (L51_2 k a) b c e f := iter_succ _ _ _ _
def S51 (k : Nat) (a : List Int) (b : Int) : Option Y1_23 :=
 L51_2 k k a b (a.length : Int) 0
def F51 : Fn := ⟨[.val ⟨false, Y1_13, false⟩, .val ⟨false, (.int .i64), false⟩], [.val ⟨false, (.int .i64), true⟩], fun k x => S51 k x.1 x.2.1⟩
theorem ok51 : FnOK Tryz.prog 51 F51 := okF [] [] (fun k => (.loop 2 c51_L2 (b51_2 k) (fun g => .nil) .nil)) trivial Tryz.func51 rfl
def S81 (k : Nat) (a : List Int) (b : Int) : Option Y1_34 :=
 (S51 k a b).bind fun q0 =>
 some ((decide (q0.1.1 ≥ 0), ()), ())
def F81 : Fn := ⟨[.val ⟨false, Y1_13, false⟩, .val ⟨false, (.int .i64), false⟩], [.val ⟨false, .bool, true⟩], fun k x => S81 k x.1 x.2.1⟩
theorem ok81 : FnOK Tryz.prog 81 F81 := okF [(51, F51)] [] (fun k => .nil) ⟨ok51, trivial⟩ Tryz.func81 rfl
def S38 (k : Nat) (a : (List Int) × List Int) (b : Int) : Option ((((List Int) × List Int) × Int × Bool × Bool × Unit) × Unit) :=
 (S77 k a).bind fun q0 =>
 (bif decide (b < 1) then
  some ((q0.1.1, 0, false, false, ()), ())
 else
  (bif decide ((q0.1.1.1.length : Int) > 0) then
   ix q0.1.1.1 0 <|
   sx q0.1.1.1 1 (q0.1.1.1.length : Int) <|
   some (((sub q0.1.1.1 1 (q0.1.1.1.length : Int), q0.1.1.2), rd q0.1.1.1 0 0, true, true, ()), ())
  else
   (S81 k q0.1.1.2 b).bind fun q1 =>
   (bif q1.1.1 then
    some ((q0.1.1, 0, false, false, ()), ())
   else
    (bif decide ((q0.1.1.2.length : Int) ≥ 4) then
     some ((q0.1.1, 0, false, false, ()), ())
    else
     ap q0.1.1.2 ([b] : List Int) 8 fun r2 =>
     some (((q0.1.1.1, r2), 0, false, true, ()), ())))))
def F38 : Fn := ⟨[.val ⟨true, (.pair (.sl 2 (.int .i64)) Y1_13), false⟩, .val ⟨false, (.int .i64), false⟩], [.val ⟨true, (.pair (.sl 2 (.int .i64)) Y1_13), false⟩, .val ⟨false, (.int .i64), true⟩, .val ⟨false, .bool, true⟩, .val ⟨false, .bool, true⟩], fun k x => S38 k x.1 x.2.1⟩
theorem ok38 : FnOK Tryz.prog 38 F38 := okF [(77, F77), (81, F81)] [] (fun k => .nil) ⟨ok77, ok81, trivial⟩ Tryz.func38 rfl
def S18 (k : Nat) (a b : Int) (c : List Y1_7) (e : List (PN Int 5)) (f h i : Bool) (l : List Y1_2) (m : List Int) (n : List Bool) (o : List Y1_6) (p : List Int) (s : List Bool) (t u v w : Int) (y z A : List Y1_12) (B C D G H : Int) (I : List (PN Int 6)) (J K M N : Int) : Option Y1_33 :=
 (S34 k a b c e f h i l m n o p s t u v w y z A B C D G H I J K M N 2).bind fun q0 =>
 (bif !q0.1.2.2.1 then
  some ((), q0.2.1, ())
 else
  (S38 k q0.1.2.1.2.2.2.1 q0.2.1.2.2.2.2.2.2.2.2.2.2.2.2.2.2.2.2.2.2.2.2.2.2.1).bind fun q1 =>
  (bif !q1.1.2.2.2.1 then
   some ((), (q0.2.1.1, q0.2.1.2.1, q0.2.1.2.2.1, q0.2.1.2.2.2.1, q0.2.1.2.2.2.2.1, q0.2.1.2.2.2.2.2.1, q0.2.1.2.2.2.2.2.2.1, q0.2.1.2.2.2.2.2.2.2.1, q0.2.1.2.2.2.2.2.2.2.2.1, q0.2.1.2.2.2.2.2.2.2.2.2.1, q0.2.1.2.2.2.2.2.2.2.2.2.2.1, q0.2.1.2.2.2.2.2.2.2.2.2.2.2.1, q0.2.1.2.2.2.2.2.2.2.2.2.2.2.2.1, q0.2.1.2.2.2.2.2.2.2.2.2.2.2.2.2.1, q0.2.1.2.2.2.2.2.2.2.2.2.2.2.2.2.2.1, q0.2.1.2.2.2.2.2.2.2.2.2.2.2.2.2.2.2.1, q0.2.1.2.2.2.2.2.2.2.2.2.2.2.2.2.2.2.2.1, q0.2.1.2.2.2.2.2.2.2.2.2.2.2.2.2.2.2.2.2.1, q0.2.1.2.2.2.2.2.2.2.2.2.2.2.2.2.2.2.2.2.2.1, q0.2.1.2.2.2.2.2.2.2.2.2.2.2.2.2.2.2.2.2.2.2.1, q0.2.1.2.2.2.2.2.2.2.2.2.2.2.2.2.2.2.2.2.2.2.2.1, q0.2.1.2.2.2.2.2.2.2.2.2.2.2.2.2.2.2.2.2.2.2.2.2.1, q0.2.1.2.2.2.2.2.2.2.2.2.2.2.2.2.2.2.2.2.2.2.2.2.2.1, q0.2.1.2.2.2.2.2.2.2.2.2.2.2.2.2.2.2.2.2.2.2.2.2.2.2.1, q0.2.1.2.2.2.2.2.2.2.2.2.2.2.2.2.2.2.2.2.2.2.2.2.2.2.2.1, q0.2.1.2.2.2.2.2.2.2.2.2.2.2.2.2.2.2.2.2.2.2.2.2.2.2.2.2.1, 1, q0.2.1.2.2.2.2.2.2.2.2.2.2.2.2.2.2.2.2.2.2.2.2.2.2.2.2.2.2.2.1, q0.2.1.2.2.2.2.2.2.2.2.2.2.2.2.2.2.2.2.2.2.2.2.2.2.2.2.2.2.2.2.1, q0.2.1.2.2.2.2.2.2.2.2.2.2.2.2.2.2.2.2.2.2.2.2.2.2.2.2.2.2.2.2.2.1, ()), ())
  else
   (bif q1.1.2.2.1 then
    (S37 k ((q0.2.1.2.2.2.2.2.2.2.2.1, q0.2.1.2.2.2.2.2.2.2.2.2.1), q0.2.1.2.2.2.2.2.2.2.2.2.2.1) q0.1.1 (q0.1.2.1.1, q0.1.2.1.2.1, q0.1.2.1.2.2.1, q1.1.1, q0.1.2.1.2.2.2.2)).bind fun q2 =>
    some ((), (q0.2.1.1, q0.2.1.2.1, q0.2.1.2.2.1, q0.2.1.2.2.2.1, q0.2.1.2.2.2.2.1, q0.2.1.2.2.2.2.2.1, q0.2.1.2.2.2.2.2.2.1, q0.2.1.2.2.2.2.2.2.2.1, q2.1.1.1.1, q2.1.1.1.2, q2.1.1.2, q0.2.1.2.2.2.2.2.2.2.2.2.2.2.1, q0.2.1.2.2.2.2.2.2.2.2.2.2.2.2.1, q0.2.1.2.2.2.2.2.2.2.2.2.2.2.2.2.1, q0.2.1.2.2.2.2.2.2.2.2.2.2.2.2.2.2.1, q0.2.1.2.2.2.2.2.2.2.2.2.2.2.2.2.2.2.1, q0.2.1.2.2.2.2.2.2.2.2.2.2.2.2.2.2.2.2.1, q0.2.1.2.2.2.2.2.2.2.2.2.2.2.2.2.2.2.2.2.1, q0.2.1.2.2.2.2.2.2.2.2.2.2.2.2.2.2.2.2.2.2.1, q0.2.1.2.2.2.2.2.2.2.2.2.2.2.2.2.2.2.2.2.2.2.1, q0.2.1.2.2.2.2.2.2.2.2.2.2.2.2.2.2.2.2.2.2.2.2.1, q0.2.1.2.2.2.2.2.2.2.2.2.2.2.2.2.2.2.2.2.2.2.2.2.1, q0.2.1.2.2.2.2.2.2.2.2.2.2.2.2.2.2.2.2.2.2.2.2.2.2.1, q0.2.1.2.2.2.2.2.2.2.2.2.2.2.2.2.2.2.2.2.2.2.2.2.2.2.1, q0.2.1.2.2.2.2.2.2.2.2.2.2.2.2.2.2.2.2.2.2.2.2.2.2.2.2.1, q0.2.1.2.2.2.2.2.2.2.2.2.2.2.2.2.2.2.2.2.2.2.2.2.2.2.2.2.1, q0.2.1.2.2.2.2.2.2.2.2.2.2.2.2.2.2.2.2.2.2.2.2.2.2.2.2.2.2.1, q0.2.1.2.2.2.2.2.2.2.2.2.2.2.2.2.2.2.2.2.2.2.2.2.2.2.2.2.2.2.1, q0.2.1.2.2.2.2.2.2.2.2.2.2.2.2.2.2.2.2.2.2.2.2.2.2.2.2.2.2.2.2.1, q1.1.2.1, ()), ())
   else
    (S37 k ((q0.2.1.2.2.2.2.2.2.2.2.1, q0.2.1.2.2.2.2.2.2.2.2.2.1), q0.2.1.2.2.2.2.2.2.2.2.2.2.1) q0.1.1 (q0.1.2.1.1, q0.1.2.1.2.1, q0.1.2.1.2.2.1, q1.1.1, q0.1.2.1.2.2.2.2)).bind fun q3 =>
    some ((), (q0.2.1.1, q0.2.1.2.1, q0.2.1.2.2.1, q0.2.1.2.2.2.1, q0.2.1.2.2.2.2.1, q0.2.1.2.2.2.2.2.1, q0.2.1.2.2.2.2.2.2.1, q0.2.1.2.2.2.2.2.2.2.1, q3.1.1.1.1, q3.1.1.1.2, q3.1.1.2, q0.2.1.2.2.2.2.2.2.2.2.2.2.2.1, q0.2.1.2.2.2.2.2.2.2.2.2.2.2.2.1, q0.2.1.2.2.2.2.2.2.2.2.2.2.2.2.2.1, q0.2.1.2.2.2.2.2.2.2.2.2.2.2.2.2.2.1, q0.2.1.2.2.2.2.2.2.2.2.2.2.2.2.2.2.2.1, q0.2.1.2.2.2.2.2.2.2.2.2.2.2.2.2.2.2.2.1, q0.2.1.2.2.2.2.2.2.2.2.2.2.2.2.2.2.2.2.2.1, q0.2.1.2.2.2.2.2.2.2.2.2.2.2.2.2.2.2.2.2.2.1, q0.2.1.2.2.2.2.2.2.2.2.2.2.2.2.2.2.2.2.2.2.2.1, q0.2.1.2.2.2.2.2.2.2.2.2.2.2.2.2.2.2.2.2.2.2.2.1, q0.2.1.2.2.2.2.2.2.2.2.2.2.2.2.2.2.2.2.2.2.2.2.2.1, q0.2.1.2.2.2.2.2.2.2.2.2.2.2.2.2.2.2.2.2.2.2.2.2.2.1, q0.2.1.2.2.2.2.2.2.2.2.2.2.2.2.2.2.2.2.2.2.2.2.2.2.2.1, q0.2.1.2.2.2.2.2.2.2.2.2.2.2.2.2.2.2.2.2.2.2.2.2.2.2.2.1, q0.2.1.2.2.2.2.2.2.2.2.2.2.2.2.2.2.2.2.2.2.2.2.2.2.2.2.2.1, 16, q0.2.1.2.2.2.2.2.2.2.2.2.2.2.2.2.2.2.2.2.2.2.2.2.2.2.2.2.2.2.1, q0.2.1.2.2.2.2.2.2.2.2.2.2.2.2.2.2.2.2.2.2.2.2.2.2.2.2.2.2.2.2.1, q0.2.1.2.2.2.2.2.2.2.2.2.2.2.2.2.2.2.2.2.2.2.2.2.2.2.2.2.2.2.2.2.1, ()), ()))))
def F18 : Fn := ⟨[.mbox 71 [cI, cI, .cell (.sl 43 Y1_3), .cell (.sl 117 Y1_28), .cell .bool, .cell .bool, .cell .bool, .cell Y1_47, .cell Y1_13, .cell Y1_37, .cell (.sl 97 Y1_5), .cell Y1_13, .cell Y1_37, cI, cI, cI, cI, .cell Y1_14, .cell Y1_14, .cell Y1_14, cI, cI, cI, cI, .cell (.int .u32), .own 58 Y1_27, cI, cI, cI, cI]], [], fun k x => S18 k x.1.1 x.1.2.1 x.1.2.2.1 x.1.2.2.2.1 x.1.2.2.2.2.1 x.1.2.2.2.2.2.1 x.1.2.2.2.2.2.2.1 x.1.2.2.2.2.2.2.2.1 x.1.2.2.2.2.2.2.2.2.1 x.1.2.2.2.2.2.2.2.2.2.1 x.1.2.2.2.2.2.2.2.2.2.2.1 x.1.2.2.2.2.2.2.2.2.2.2.2.1 x.1.2.2.2.2.2.2.2.2.2.2.2.2.1 x.1.2.2.2.2.2.2.2.2.2.2.2.2.2.1 x.1.2.2.2.2.2.2.2.2.2.2.2.2.2.2.1 x.1.2.2.2.2.2.2.2.2.2.2.2.2.2.2.2.1 x.1.2.2.2.2.2.2.2.2.2.2.2.2.2.2.2.2.1 x.1.2.2.2.2.2.2.2.2.2.2.2.2.2.2.2.2.2.1 x.1.2.2.2.2.2.2.2.2.2.2.2.2.2.2.2.2.2.2.1 x.1.2.2.2.2.2.2.2.2.2.2.2.2.2.2.2.2.2.2.2.1 x.1.2.2.2.2.2.2.2.2.2.2.2.2.2.2.2.2.2.2.2.2.1 x.1.2.2.2.2.2.2.2.2.2.2.2.2.2.2.2.2.2.2.2.2.2.1 x.1.2.2.2.2.2.2.2.2.2.2.2.2.2.2.2.2.2.2.2.2.2.2.1 x.1.2.2.2.2.2.2.2.2.2.2.2.2.2.2.2.2.2.2.2.2.2.2.2.1 x.1.2.2.2.2.2.2.2.2.2.2.2.2.2.2.2.2.2.2.2.2.2.2.2.2.1 x.1.2.2.2.2.2.2.2.2.2.2.2.2.2.2.2.2.2.2.2.2.2.2.2.2.2.1 x.1.2.2.2.2.2.2.2.2.2.2.2.2.2.2.2.2.2.2.2.2.2.2.2.2.2.2.1 x.1.2.2.2.2.2.2.2.2.2.2.2.2.2.2.2.2.2.2.2.2.2.2.2.2.2.2.2.1 x.1.2.2.2.2.2.2.2.2.2.2.2.2.2.2.2.2.2.2.2.2.2.2.2.2.2.2.2.2.1 x.1.2.2.2.2.2.2.2.2.2.2.2.2.2.2.2.2.2.2.2.2.2.2.2.2.2.2.2.2.2.1⟩
theorem ok18 : FnOK Tryz.prog 18 F18 := okF [(34, F34), (37, F37), (38, F38)] [] (fun k => .nil) ⟨ok34, ok37, ok38, trivial⟩ Tryz.func18 rfl
abbrev c39_L3 : Cut := ⟨[4, 5, 15, 16, 17], [.box 95 [.cell (.int .u32), .own 109 Y1_25], .own 109 Y1_25, .cell (.sl 109 Y1_25), cI, cI], [], 49, []⟩
def l39_3 (k : Nat) (g3 : Int → Y1_17 → Y1_17 → Y1_17 → Int → Int → Option Y1_45) (x : Int) (a b c : Y1_26) (e f : Int) : Option Y1_45 :=
 (bif decide (f < e) then
  ix c f <|
  (bif (iand .u32 x (rd c f (0, 0)).2) == 0 then
   ap a ([rd c f (0, 0)] : List (Int × Int)) 16 fun r0 =>
   g3 x r0 b c e (IntKind.i64.wrap (f + 1))
  else
   ap b ([((rd c f (0, 0)).1, iand .u32 x (rd c f (0, 0)).2)] : List (Int × Int)) 16 fun r1 =>
   g3 (iandn .u32 x (iand .u32 x (rd c f (0, 0)).2)) a r1 c e (IntKind.i64.wrap (f + 1)))
 else
  some (((x, a), b, ()), ()))
def b39_3 (k : Nat) (g : ((Unit) × (Int × Y1_17 × Unit) × Y1_17 × Y1_17 × Int × Int × Unit) → Option Y1_45) (d : (Unit) × (Int × Y1_17 × Unit) × Y1_17 × Y1_17 × Int × Int × Unit) : Option Y1_45 := l39_3 k (fun x a b c e f => g ((), (x, a, ()), b, c, e, f, ())) d.2.1.1 d.2.1.2.1 d.2.2.1 d.2.2.2.1 d.2.2.2.2.1 d.2.2.2.2.2.1
def L39_3 (k a : Nat) (x : Int) (b c e : Y1_26) (f h : Int) : Option Y1_45 := iter (R := (Y1_32 × Y1_17 × Unit) × Unit) c39_L3 (b39_3 k) a ((), (x, b, ()), c, e, f, h, ())
theorem L39_3_s (k a x b c e f h) : L39_3 k (a + 1) x b c e f h = l39_3 k (L39_3 k a) x b c e f h := iter_succ _ _ _ _
def S39 (k : Nat) (a : Int × List (Int × Int)) (b : Int) : Option Y1_45 :=
 L39_3 k k (ior .u32 a.1 b) ([] : List (Int × Int)) ([] : List (Int × Int)) a.2 (a.2.length : Int) 0
def F39 : Fn := ⟨[.val ⟨true, Y1_44, false⟩, .val ⟨false, (.int .u32), false⟩], [.val ⟨true, Y1_44, true⟩, .val ⟨false, (.sl 109 Y1_25), true⟩], fun k x => S39 k x.1 x.2.1⟩
theorem ok39 : FnOK Tryz.prog 39 F39 := okF [] [(4, 2), (5, 2)] (fun k => (.loop 3 c39_L3 (b39_3 k) (fun g => .nil) .nil)) trivial Tryz.func39 rfl
abbrev c19_L4 : Cut := ⟨[0, 2, 3, 5, 28, 29, 30], [.pin false 0, cI, .box 97 [cI, cI, cI, cI, cI, .cell (.sl 2 (.int .i64)), .cell Y1_13, .cell (.int .u32), .cell (.sl 109 Y1_25), .cell (.int .u32)], .box 95 [.cell (.int .u32), .own 109 Y1_25], .own 109 Y1_25, cI, cI], [.mbox 71 [cI, cI, .cell (.sl 43 Y1_3), .cell (.sl 117 Y1_28), .cell .bool, .cell .bool, .cell .bool, .cell Y1_47, .cell Y1_13, .cell Y1_37, .cell (.sl 97 Y1_5), .cell Y1_13, .cell Y1_37, cI, cI, cI, cI, .cell Y1_14, .cell Y1_14, .cell Y1_14, cI, cI, cI, cI, .cell (.int .u32), .own 58 Y1_27, cI, cI, cI, cI]], 56, []⟩
def l19_4 (k : Nat) (g4 : Int → Int → (List Y1_7) → (List (PN Int 5)) → Bool → Bool → Bool → (List Y1_2) → (List Int) → (List Bool) → (List Y1_6) → (List Int) → (List Bool) → Int → Int → Int → Int → (List Y1_12) → (List Y1_12) → (List Y1_12) → Int → Int → Int → Int → Int → (List (PN Int 6)) → Int → Int → Int → Int → Int → Int → Int → Int → Int → Int → (List Int) → (List Int) → Int → Y1_17 → Int → Int → Y1_17 → Y1_17 → Int → Int → Option Y1_33) (a b : Int) (c : List Y1_7) (e : List (PN Int 5)) (f h i : Bool) (l : List Y1_2) (m : List Int) (n : List Bool) (o : List Y1_6) (p : List Int) (s : List Bool) (t u v w : Int) (y z A : List Y1_12) (B C D G H : Int) (I : List (PN Int 6)) (J K M N O x P Q T U : Int) (V W : List Int) (X : Int) (Z : Y1_26) (a1 b1 : Int) (c1 e1 : Y1_26) (f1 h1 : Int) : Option Y1_33 :=
 (bif decide (h1 < f1) then
  ix e1 h1 <|
  (S36 k a b c e f h i l m n o p s t u v w y z A B C D G H I J K M N (rd e1 h1 (0, 0)).1 (IntKind.i64.wrap (rd e1 h1 (0, 0)).2) 0).bind fun q2 =>
  g4 q2.2.1.1 q2.2.1.2.1 q2.2.1.2.2.1 q2.2.1.2.2.2.1 q2.2.1.2.2.2.2.1 q2.2.1.2.2.2.2.2.1 q2.2.1.2.2.2.2.2.2.1 q2.2.1.2.2.2.2.2.2.2.1 q2.2.1.2.2.2.2.2.2.2.2.1 q2.2.1.2.2.2.2.2.2.2.2.2.1 q2.2.1.2.2.2.2.2.2.2.2.2.2.1 q2.2.1.2.2.2.2.2.2.2.2.2.2.2.1 q2.2.1.2.2.2.2.2.2.2.2.2.2.2.2.1 q2.2.1.2.2.2.2.2.2.2.2.2.2.2.2.2.1 q2.2.1.2.2.2.2.2.2.2.2.2.2.2.2.2.2.1 q2.2.1.2.2.2.2.2.2.2.2.2.2.2.2.2.2.2.1 q2.2.1.2.2.2.2.2.2.2.2.2.2.2.2.2.2.2.2.1 q2.2.1.2.2.2.2.2.2.2.2.2.2.2.2.2.2.2.2.2.1 q2.2.1.2.2.2.2.2.2.2.2.2.2.2.2.2.2.2.2.2.2.1 q2.2.1.2.2.2.2.2.2.2.2.2.2.2.2.2.2.2.2.2.2.2.1 q2.2.1.2.2.2.2.2.2.2.2.2.2.2.2.2.2.2.2.2.2.2.2.1 q2.2.1.2.2.2.2.2.2.2.2.2.2.2.2.2.2.2.2.2.2.2.2.2.1 q2.2.1.2.2.2.2.2.2.2.2.2.2.2.2.2.2.2.2.2.2.2.2.2.2.1 q2.2.1.2.2.2.2.2.2.2.2.2.2.2.2.2.2.2.2.2.2.2.2.2.2.2.1 q2.2.1.2.2.2.2.2.2.2.2.2.2.2.2.2.2.2.2.2.2.2.2.2.2.2.2.1 q2.2.1.2.2.2.2.2.2.2.2.2.2.2.2.2.2.2.2.2.2.2.2.2.2.2.2.2.1 q2.2.1.2.2.2.2.2.2.2.2.2.2.2.2.2.2.2.2.2.2.2.2.2.2.2.2.2.2.1 q2.2.1.2.2.2.2.2.2.2.2.2.2.2.2.2.2.2.2.2.2.2.2.2.2.2.2.2.2.2.1 q2.2.1.2.2.2.2.2.2.2.2.2.2.2.2.2.2.2.2.2.2.2.2.2.2.2.2.2.2.2.2.1 q2.2.1.2.2.2.2.2.2.2.2.2.2.2.2.2.2.2.2.2.2.2.2.2.2.2.2.2.2.2.2.2.1 O x P Q T U V W X Z a1 b1 c1 e1 f1 (IntKind.i64.wrap (h1 + 1))
 else
  (S37 k ((m, n), o) O (x, (P, Q), (T, U), (V, W), (b1, c1), a1)).bind fun q3 =>
  some ((), (a, b, c, e, f, h, i, l, q3.1.1.1.1, q3.1.1.1.2, q3.1.1.2, p, s, t, u, v, w, y, z, A, B, C, D, G, H, I, J, K, M, N, ()), ()))
def b19_4 (k : Nat) (g : ((Y1_4 × Unit) × Unit × Int × (Int × Int × Int × Int × Int × (List Int) × (List Int) × Int × Y1_17 × Int × Unit) × (Int × Y1_17 × Unit) × Y1_17 × Int × Int × Unit) → Option Y1_33) (d : (Y1_4 × Unit) × Unit × Int × (Int × Int × Int × Int × Int × (List Int) × (List Int) × Int × Y1_17 × Int × Unit) × (Int × Y1_17 × Unit) × Y1_17 × Int × Int × Unit) : Option Y1_33 := l19_4 k (fun a b c e f h i l m n o p s t u v w y z A B C D G H I J K M N O x P Q T U V W X Z a1 b1 c1 e1 f1 h1 => g (((a, b, c, e, f, h, i, l, m, n, o, p, s, t, u, v, w, y, z, A, B, C, D, G, H, I, J, K, M, N, ()), ()), (), O, (x, P, Q, T, U, V, W, X, Z, a1, ()), (b1, c1, ()), e1, f1, h1, ())) d.1.1.1 d.1.1.2.1 d.1.1.2.2.1 d.1.1.2.2.2.1 d.1.1.2.2.2.2.1 d.1.1.2.2.2.2.2.1 d.1.1.2.2.2.2.2.2.1 d.1.1.2.2.2.2.2.2.2.1 d.1.1.2.2.2.2.2.2.2.2.1 d.1.1.2.2.2.2.2.2.2.2.2.1 d.1.1.2.2.2.2.2.2.2.2.2.2.1 d.1.1.2.2.2.2.2.2.2.2.2.2.2.1 d.1.1.2.2.2.2.2.2.2.2.2.2.2.2.1 d.1.1.2.2.2.2.2.2.2.2.2.2.2.2.2.1 d.1.1.2.2.2.2.2.2.2.2.2.2.2.2.2.2.1 d.1.1.2.2.2.2.2.2.2.2.2.2.2.2.2.2.2.1 d.1.1.2.2.2.2.2.2.2.2.2.2.2.2.2.2.2.2.1 d.1.1.2.2.2.2.2.2.2.2.2.2.2.2.2.2.2.2.2.1 d.1.1.2.2.2.2.2.2.2.2.2.2.2.2.2.2.2.2.2.2.1 d.1.1.2.2.2.2.2.2.2.2.2.2.2.2.2.2.2.2.2.2.2.1 d.1.1.2.2.2.2.2.2.2.2.2.2.2.2.2.2.2.2.2.2.2.2.1 d.1.1.2.2.2.2.2.2.2.2.2.2.2.2.2.2.2.2.2.2.2.2.2.1 d.1.1.2.2.2.2.2.2.2.2.2.2.2.2.2.2.2.2.2.2.2.2.2.2.1 d.1.1.2.2.2.2.2.2.2.2.2.2.2.2.2.2.2.2.2.2.2.2.2.2.2.1 d.1.1.2.2.2.2.2.2.2.2.2.2.2.2.2.2.2.2.2.2.2.2.2.2.2.2.1 d.1.1.2.2.2.2.2.2.2.2.2.2.2.2.2.2.2.2.2.2.2.2.2.2.2.2.2.1 d.1.1.2.2.2.2.2.2.2.2.2.2.2.2.2.2.2.2.2.2.2.2.2.2.2.2.2.2.1 d.1.1.2.2.2.2.2.2.2.2.2.2.2.2.2.2.2.2.2.2.2.2.2.2.2.2.2.2.2.1 d.1.1.2.2.2.2.2.2.2.2.2.2.2.2.2.2.2.2.2.2.2.2.2.2.2.2.2.2.2.2.1 d.1.1.2.2.2.2.2.2.2.2.2.2.2.2.2.2.2.2.2.2.2.2.2.2.2.2.2.2.2.2.2.1 d.2.2.1 d.2.2.2.1.1 d.2.2.2.1.2.1 d.2.2.2.1.2.2.1 d.2.2.2.1.2.2.2.1 d.2.2.2.1.2.2.2.2.1 d.2.2.2.1.2.2.2.2.2.1 d.2.2.2.1.2.2.2.2.2.2.1 d.2.2.2.1.2.2.2.2.2.2.2.1 d.2.2.2.1.2.2.2.2.2.2.2.2.1 d.2.2.2.1.2.2.2.2.2.2.2.2.2.1 d.2.2.2.2.1.1 d.2.2.2.2.1.2.1 d.2.2.2.2.2.1 d.2.2.2.2.2.2.1 d.2.2.2.2.2.2.2.1
def L19_4 (k a : Nat) (b c : Int) (e : List Y1_7) (f : List (PN Int 5)) (h i l : Bool) (m : List Y1_2) (n : List Int) (o : List Bool) (p : List Y1_6) (s : List Int) (t : List Bool) (u v w y : Int) (z A B : List Y1_12) (C D G H I : Int) (J : List (PN Int 6)) (K M N O P x Q T U V : Int) (W X : List Int) (Z : Int) (a1 : Y1_26) (b1 c1 : Int) (e1 f1 : Y1_26) (h1 i1 : Int) : Option Y1_33 := iter (R := (Unit) × Y1_4 × Unit) c19_L4 (b19_4 k) a (((b, c, e, f, h, i, l, m, n, o, p, s, t, u, v, w, y, z, A, B, C, D, G, H, I, J, K, M, N, O, ()), ()), (), P, (x, Q, T, U, V, W, X, Z, a1, b1, ()), (c1, e1, ()), f1, h1, i1, ())
theorem L19_4_s (k a b c e f h i l m n o p s t u v w y z A B C D G H I J K M N O P x Q T U V W X Z a1 b1 c1 e1 f1 h1 i1) : L19_4 k (a + 1) b c e f h i l m n o p s t u v w y z A B C D G H I J K M N O P x Q T U V W X Z a1 b1 c1 e1 f1 h1 i1 = l19_4 k (L19_4 k a) b c e f h i l m n o p s t u v w y z A B C D G H I J K M N O P x Q T U V W X Z a1 b1 c1 e1 f1 h1 i1 := iter_succ _ _ _ _
def S19 (k : Nat) (a b : Int) (c : List Y1_7) (e : List (PN Int 5)) (f h i : Bool) (l : List Y1_2) (m : List Int) (n : List Bool) (o : List Y1_6) (p : List Int) (s : List Bool) (t u v w : Int) (y z A : List Y1_12) (B C D G H : Int) (I : List (PN Int 6)) (J K M N : Int) : Option Y1_33 :=
 (S34 k a b c e f h i l m n o p s t u v w y z A B C D G H I J K M N 3).bind fun q0 =>
 (bif !q0.1.2.2.1 then
  some ((), q0.2.1, ())
 else
  (S39 k q0.1.2.1.2.2.2.2.1 q0.2.1.2.2.2.2.2.2.2.2.2.2.2.2.2.2.2.2.2.2.2.2.2.2.2.2.1).bind fun q1 =>
  L19_4 k k q0.2.1.1 q0.2.1.2.1 q0.2.1.2.2.1 q0.2.1.2.2.2.1 q0.2.1.2.2.2.2.1 q0.2.1.2.2.2.2.2.1 q0.2.1.2.2.2.2.2.2.1 q0.2.1.2.2.2.2.2.2.2.1 q0.2.1.2.2.2.2.2.2.2.2.1 q0.2.1.2.2.2.2.2.2.2.2.2.1 q0.2.1.2.2.2.2.2.2.2.2.2.2.1 q0.2.1.2.2.2.2.2.2.2.2.2.2.2.1 q0.2.1.2.2.2.2.2.2.2.2.2.2.2.2.1 q0.2.1.2.2.2.2.2.2.2.2.2.2.2.2.2.1 q0.2.1.2.2.2.2.2.2.2.2.2.2.2.2.2.2.1 q0.2.1.2.2.2.2.2.2.2.2.2.2.2.2.2.2.2.1 q0.2.1.2.2.2.2.2.2.2.2.2.2.2.2.2.2.2.2.1 q0.2.1.2.2.2.2.2.2.2.2.2.2.2.2.2.2.2.2.2.1 q0.2.1.2.2.2.2.2.2.2.2.2.2.2.2.2.2.2.2.2.2.1 q0.2.1.2.2.2.2.2.2.2.2.2.2.2.2.2.2.2.2.2.2.2.1 q0.2.1.2.2.2.2.2.2.2.2.2.2.2.2.2.2.2.2.2.2.2.2.1 q0.2.1.2.2.2.2.2.2.2.2.2.2.2.2.2.2.2.2.2.2.2.2.2.1 q0.2.1.2.2.2.2.2.2.2.2.2.2.2.2.2.2.2.2.2.2.2.2.2.2.1 q0.2.1.2.2.2.2.2.2.2.2.2.2.2.2.2.2.2.2.2.2.2.2.2.2.2.1 q0.2.1.2.2.2.2.2.2.2.2.2.2.2.2.2.2.2.2.2.2.2.2.2.2.2.2.1 q0.2.1.2.2.2.2.2.2.2.2.2.2.2.2.2.2.2.2.2.2.2.2.2.2.2.2.2.1 q0.2.1.2.2.2.2.2.2.2.2.2.2.2.2.2.2.2.2.2.2.2.2.2.2.2.2.2.2.1 q0.2.1.2.2.2.2.2.2.2.2.2.2.2.2.2.2.2.2.2.2.2.2.2.2.2.2.2.2.2.1 q0.2.1.2.2.2.2.2.2.2.2.2.2.2.2.2.2.2.2.2.2.2.2.2.2.2.2.2.2.2.2.1 q0.2.1.2.2.2.2.2.2.2.2.2.2.2.2.2.2.2.2.2.2.2.2.2.2.2.2.2.2.2.2.2.1 q0.1.1 q0.1.2.1.1 q0.1.2.1.2.1.1 q0.1.2.1.2.1.2 q0.1.2.1.2.2.1.1 q0.1.2.1.2.2.1.2 q0.1.2.1.2.2.2.1.1 q0.1.2.1.2.2.2.1.2 q0.1.2.1.2.2.2.2.1.1 q0.1.2.1.2.2.2.2.1.2 q0.1.2.1.2.2.2.2.2 q1.1.1.1 q1.1.1.2 q1.1.2.1 (q1.1.2.1.length : Int) 0)
def F19 : Fn := ⟨[.mbox 71 [cI, cI, .cell (.sl 43 Y1_3), .cell (.sl 117 Y1_28), .cell .bool, .cell .bool, .cell .bool, .cell Y1_47, .cell Y1_13, .cell Y1_37, .cell (.sl 97 Y1_5), .cell Y1_13, .cell Y1_37, cI, cI, cI, cI, .cell Y1_14, .cell Y1_14, .cell Y1_14, cI, cI, cI, cI, .cell (.int .u32), .own 58 Y1_27, cI, cI, cI, cI]], [], fun k x => S19 k x.1.1 x.1.2.1 x.1.2.2.1 x.1.2.2.2.1 x.1.2.2.2.2.1 x.1.2.2.2.2.2.1 x.1.2.2.2.2.2.2.1 x.1.2.2.2.2.2.2.2.1 x.1.2.2.2.2.2.2.2.2.1 x.1.2.2.2.2.2.2.2.2.2.1 x.1.2.2.2.2.2.2.2.2.2.2.1 x.1.2.2.2.2.2.2.2.2.2.2.2.1 x.1.2.2.2.2.2.2.2.2.2.2.2.2.1 x.1.2.2.2.2.2.2.2.2.2.2.2.2.2.1 x.1.2.2.2.2.2.2.2.2.2.2.2.2.2.2.1 x.1.2.2.2.2.2.2.2.2.2.2.2.2.2.2.2.1 x.1.2.2.2.2.2.2.2.2.2.2.2.2.2.2.2.2.1 x.1.2.2.2.2.2.2.2.2.2.2.2.2.2.2.2.2.2.1 x.1.2.2.2.2.2.2.2.2.2.2.2.2.2.2.2.2.2.2.1 x.1.2.2.2.2.2.2.2.2.2.2.2.2.2.2.2.2.2.2.2.1 x.1.2.2.2.2.2.2.2.2.2.2.2.2.2.2.2.2.2.2.2.2.1 x.1.2.2.2.2.2.2.2.2.2.2.2.2.2.2.2.2.2.2.2.2.2.1 x.1.2.2.2.2.2.2.2.2.2.2.2.2.2.2.2.2.2.2.2.2.2.2.1 x.1.2.2.2.2.2.2.2.2.2.2.2.2.2.2.2.2.2.2.2.2.2.2.2.1 x.1.2.2.2.2.2.2.2.2.2.2.2.2.2.2.2.2.2.2.2.2.2.2.2.2.1 x.1.2.2.2.2.2.2.2.2.2.2.2.2.2.2.2.2.2.2.2.2.2.2.2.2.2.1 x.1.2.2.2.2.2.2.2.2.2.2.2.2.2.2.2.2.2.2.2.2.2.2.2.2.2.2.1 x.1.2.2.2.2.2.2.2.2.2.2.2.2.2.2.2.2.2.2.2.2.2.2.2.2.2.2.2.1 x.1.2.2.2.2.2.2.2.2.2.2.2.2.2.2.2.2.2.2.2.2.2.2.2.2.2.2.2.2.1 x.1.2.2.2.2.2.2.2.2.2.2.2.2.2.2.2.2.2.2.2.2.2.2.2.2.2.2.2.2.2.1⟩
theorem ok19 : FnOK Tryz.prog 19 F19 := okF [(34, F34), (36, F36), (37, F37), (39, F39)] [] (fun k => (.loop 4 c19_L4 (b19_4 k) (fun g => .nil) .nil)) ⟨ok34, ok36, ok37, ok39, trivial⟩ Tryz.func19 rfl
def S84 (k : Nat) (a : Int × Int) (b : Int) : Option Y1_34 :=
 some ((a.1 == b, ()), ())
def F84 : Fn := ⟨[.val ⟨true, Y1_25, false⟩, .pv (.ref (.int .i64))], [.val ⟨false, .bool, true⟩], fun k x => S84 k x.1 x.2.1⟩
theorem ok84 : FnOK Tryz.prog 84 F84 := okF [] [] (fun k => .nil) trivial Tryz.func84 rfl
abbrev c127_L2 : Cut := ⟨[0, 1, 7, 8], [.cell (.sl 109 Y1_25), .clo 84 [.ref (.int .i64)], cI, cI], [], 19, []⟩
def l127_2 (k : Nat) (g2 : Y1_17 → Int → Int → Int → Option Y1_23) (a : Y1_26) (b c e : Int) : Option Y1_23 :=
 (bif decide (e < c) then
  ix a e <|
  (S84 k (rd a e (0, 0)) b).bind fun q0 =>
  (bif q0.1.1 then
   some ((e, ()), ())
  else
   g2 a b c (IntKind.i64.wrap (e + 1)))
 else
  some (((-1), ()), ()))
def b127_2 (k : Nat) (g : ((Unit) × Y1_17 × (Int × Unit) × Int × Int × Unit) → Option Y1_23) (d : (Unit) × Y1_17 × (Int × Unit) × Int × Int × Unit) : Option Y1_23 := l127_2 k (fun a b c e => g ((), a, (b, ()), c, e, ())) d.2.1 d.2.2.1.1 d.2.2.2.1 d.2.2.2.2.1
def L127_2 (k a : Nat) (b : Y1_26) (c e f : Int) : Option Y1_23 := iter (R := (Int × Unit) × Unit) c127_L2 (b127_2 k) a ((), b, (c, ()), e, f, ())
theorem L127_2_s (k a b c e f) : L127_2 k (a + 1) b c e f = l127_2 k (L127_2 k a) b c e f := iter_succ _ _ _ _
def S127 (k : Nat) (a : Y1_26) (b : Int) : Option Y1_23 :=
 L127_2 k k a b (a.length : Int) 0
def F127 : Fn := ⟨[.val ⟨false, (.sl 109 Y1_25), false⟩, .pv (.clo 84 [.ref (.int .i64)])], [.val ⟨false, (.int .i64), true⟩], fun k x => S127 k x.1 x.2.1.1⟩
theorem ok127 : FnOK Tryz.prog 127 F127 := okF [(84, F84)] [] (fun k => (.loop 2 c127_L2 (b127_2 k) (fun g => .nil) .nil)) ⟨ok84, trivial⟩ Tryz.func127 rfl
def S83 (k : Nat) (a : Y1_26) (b : Int) : Option Y1_34 :=
 (S127 k a b).bind fun q0 =>
 some ((decide (q0.1.1 ≥ 0), ()), ())
def F83 : Fn := ⟨[.val ⟨false, (.sl 109 Y1_25), false⟩, .pv (.clo 84 [.ref (.int .i64)])], [.val ⟨false, .bool, true⟩], fun k x => S83 k x.1 x.2.1.1⟩
theorem ok83 : FnOK Tryz.prog 83 F83 := okF [(127, F127)] [] (fun k => .nil) ⟨ok127, trivial⟩ Tryz.func83 rfl
def S40 (k : Nat) (a : Int × List (Int × Int)) (b c : Int) : Option ((Y1_32 × Int × Bool × Unit) × Unit) :=
 (S82 k a.2).bind fun q0 =>
 (bif decide (b < 1) then
  some (((a.1, q0.1.1), 0, false, ()), ())
 else
  (bif c == 0 then
   some (((a.1, q0.1.1), 0, false, ()), ())
  else
   (bif (iand .u32 a.1 c) != 0 then
    some (((iandn .u32 a.1 (iand .u32 a.1 c), q0.1.1), iand .u32 a.1 c, true, ()), ())
   else
    (bif decide ((a.2.length : Int) ≥ 4) then
     some (((a.1, q0.1.1), 0, false, ()), ())
    else
     (S83 k a.2 b).bind fun q1 =>
     (bif q1.1.1 then
      some (((a.1, q0.1.1), 0, false, ()), ())
     else
      ap q0.1.1 ([(b, c)] : List (Int × Int)) 16 fun r2 =>
      some (((a.1, r2), 0, true, ()), ()))))))
def F40 : Fn := ⟨[.val ⟨true, Y1_44, false⟩, .val ⟨false, (.int .i64), false⟩, .val ⟨false, (.int .u32), false⟩], [.val ⟨true, Y1_44, true⟩, .val ⟨false, (.int .u32), true⟩, .val ⟨false, .bool, true⟩], fun k x => S40 k x.1 x.2.1 x.2.2.1⟩
theorem ok40 : FnOK Tryz.prog 40 F40 := okF [(82, F82), (83, F83)] [] (fun k => .nil) ⟨ok82, ok83, trivial⟩ Tryz.func40 rfl
def S20 (k : Nat) (a b : Int) (c : List Y1_7) (e : List (PN Int 5)) (f h i : Bool) (l : List Y1_2) (m : List Int) (n : List Bool) (o : List Y1_6) (p : List Int) (s : List Bool) (t u v w : Int) (y z A : List Y1_12) (B C D G H : Int) (I : List (PN Int 6)) (J K M N : Int) : Option Y1_33 :=
 (S34 k a b c e f h i l m n o p s t u v w y z A B C D G H I J K M N 3).bind fun q0 =>
 (bif !q0.1.2.2.1 then
  some ((), q0.2.1, ())
 else
  (S40 k q0.1.2.1.2.2.2.2.1 q0.2.1.2.2.2.2.2.2.2.2.2.2.2.2.2.2.2.2.2.2.2.2.2.2.1 q0.2.1.2.2.2.2.2.2.2.2.2.2.2.2.2.2.2.2.2.2.2.2.2.2.2.2.1).bind fun q1 =>
  (bif !q1.1.2.2.1 then
   some ((), (q0.2.1.1, q0.2.1.2.1, q0.2.1.2.2.1, q0.2.1.2.2.2.1, q0.2.1.2.2.2.2.1, q0.2.1.2.2.2.2.2.1, q0.2.1.2.2.2.2.2.2.1, q0.2.1.2.2.2.2.2.2.2.1, q0.2.1.2.2.2.2.2.2.2.2.1, q0.2.1.2.2.2.2.2.2.2.2.2.1, q0.2.1.2.2.2.2.2.2.2.2.2.2.1, q0.2.1.2.2.2.2.2.2.2.2.2.2.2.1, q0.2.1.2.2.2.2.2.2.2.2.2.2.2.2.1, q0.2.1.2.2.2.2.2.2.2.2.2.2.2.2.2.1, q0.2.1.2.2.2.2.2.2.2.2.2.2.2.2.2.2.1, q0.2.1.2.2.2.2.2.2.2.2.2.2.2.2.2.2.2.1, q0.2.1.2.2.2.2.2.2.2.2.2.2.2.2.2.2.2.2.1, q0.2.1.2.2.2.2.2.2.2.2.2.2.2.2.2.2.2.2.2.1, q0.2.1.2.2.2.2.2.2.2.2.2.2.2.2.2.2.2.2.2.2.1, q0.2.1.2.2.2.2.2.2.2.2.2.2.2.2.2.2.2.2.2.2.2.1, q0.2.1.2.2.2.2.2.2.2.2.2.2.2.2.2.2.2.2.2.2.2.2.1, q0.2.1.2.2.2.2.2.2.2.2.2.2.2.2.2.2.2.2.2.2.2.2.2.1, q0.2.1.2.2.2.2.2.2.2.2.2.2.2.2.2.2.2.2.2.2.2.2.2.2.1, q0.2.1.2.2.2.2.2.2.2.2.2.2.2.2.2.2.2.2.2.2.2.2.2.2.2.1, q0.2.1.2.2.2.2.2.2.2.2.2.2.2.2.2.2.2.2.2.2.2.2.2.2.2.2.1, q0.2.1.2.2.2.2.2.2.2.2.2.2.2.2.2.2.2.2.2.2.2.2.2.2.2.2.2.1, 1, q0.2.1.2.2.2.2.2.2.2.2.2.2.2.2.2.2.2.2.2.2.2.2.2.2.2.2.2.2.2.1, q0.2.1.2.2.2.2.2.2.2.2.2.2.2.2.2.2.2.2.2.2.2.2.2.2.2.2.2.2.2.2.1, q0.2.1.2.2.2.2.2.2.2.2.2.2.2.2.2.2.2.2.2.2.2.2.2.2.2.2.2.2.2.2.2.1, ()), ())
  else
   (bif q1.1.2.1 == 0 then
    (S37 k ((q0.2.1.2.2.2.2.2.2.2.2.1, q0.2.1.2.2.2.2.2.2.2.2.2.1), q0.2.1.2.2.2.2.2.2.2.2.2.2.1) q0.1.1 (q0.1.2.1.1, q0.1.2.1.2.1, q0.1.2.1.2.2.1, q0.1.2.1.2.2.2.1, q1.1.1, q0.1.2.1.2.2.2.2.2)).bind fun q2 =>
    some ((), (q0.2.1.1, q0.2.1.2.1, q0.2.1.2.2.1, q0.2.1.2.2.2.1, q0.2.1.2.2.2.2.1, q0.2.1.2.2.2.2.2.1, q0.2.1.2.2.2.2.2.2.1, q0.2.1.2.2.2.2.2.2.2.1, q2.1.1.1.1, q2.1.1.1.2, q2.1.1.2, q0.2.1.2.2.2.2.2.2.2.2.2.2.2.1, q0.2.1.2.2.2.2.2.2.2.2.2.2.2.2.1, q0.2.1.2.2.2.2.2.2.2.2.2.2.2.2.2.1, q0.2.1.2.2.2.2.2.2.2.2.2.2.2.2.2.2.1, q0.2.1.2.2.2.2.2.2.2.2.2.2.2.2.2.2.2.1, q0.2.1.2.2.2.2.2.2.2.2.2.2.2.2.2.2.2.2.1, q0.2.1.2.2.2.2.2.2.2.2.2.2.2.2.2.2.2.2.2.1, q0.2.1.2.2.2.2.2.2.2.2.2.2.2.2.2.2.2.2.2.2.1, q0.2.1.2.2.2.2.2.2.2.2.2.2.2.2.2.2.2.2.2.2.2.1, q0.2.1.2.2.2.2.2.2.2.2.2.2.2.2.2.2.2.2.2.2.2.2.1, q0.2.1.2.2.2.2.2.2.2.2.2.2.2.2.2.2.2.2.2.2.2.2.2.1, q0.2.1.2.2.2.2.2.2.2.2.2.2.2.2.2.2.2.2.2.2.2.2.2.2.1, q0.2.1.2.2.2.2.2.2.2.2.2.2.2.2.2.2.2.2.2.2.2.2.2.2.2.1, q0.2.1.2.2.2.2.2.2.2.2.2.2.2.2.2.2.2.2.2.2.2.2.2.2.2.2.1, q0.2.1.2.2.2.2.2.2.2.2.2.2.2.2.2.2.2.2.2.2.2.2.2.2.2.2.2.1, 16, q0.2.1.2.2.2.2.2.2.2.2.2.2.2.2.2.2.2.2.2.2.2.2.2.2.2.2.2.2.2.1, q0.2.1.2.2.2.2.2.2.2.2.2.2.2.2.2.2.2.2.2.2.2.2.2.2.2.2.2.2.2.2.1, IntKind.i64.wrap q1.1.2.1, ()), ())
   else
    (S37 k ((q0.2.1.2.2.2.2.2.2.2.2.1, q0.2.1.2.2.2.2.2.2.2.2.2.1), q0.2.1.2.2.2.2.2.2.2.2.2.2.1) q0.1.1 (q0.1.2.1.1, q0.1.2.1.2.1, q0.1.2.1.2.2.1, q0.1.2.1.2.2.2.1, q1.1.1, q0.1.2.1.2.2.2.2.2)).bind fun q3 =>
    some ((), (q0.2.1.1, q0.2.1.2.1, q0.2.1.2.2.1, q0.2.1.2.2.2.1, q0.2.1.2.2.2.2.1, q0.2.1.2.2.2.2.2.1, q0.2.1.2.2.2.2.2.2.1, q0.2.1.2.2.2.2.2.2.2.1, q3.1.1.1.1, q3.1.1.1.2, q3.1.1.2, q0.2.1.2.2.2.2.2.2.2.2.2.2.2.1, q0.2.1.2.2.2.2.2.2.2.2.2.2.2.2.1, q0.2.1.2.2.2.2.2.2.2.2.2.2.2.2.2.1, q0.2.1.2.2.2.2.2.2.2.2.2.2.2.2.2.2.1, q0.2.1.2.2.2.2.2.2.2.2.2.2.2.2.2.2.2.1, q0.2.1.2.2.2.2.2.2.2.2.2.2.2.2.2.2.2.2.1, q0.2.1.2.2.2.2.2.2.2.2.2.2.2.2.2.2.2.2.2.1, q0.2.1.2.2.2.2.2.2.2.2.2.2.2.2.2.2.2.2.2.2.1, q0.2.1.2.2.2.2.2.2.2.2.2.2.2.2.2.2.2.2.2.2.2.1, q0.2.1.2.2.2.2.2.2.2.2.2.2.2.2.2.2.2.2.2.2.2.2.1, q0.2.1.2.2.2.2.2.2.2.2.2.2.2.2.2.2.2.2.2.2.2.2.2.1, q0.2.1.2.2.2.2.2.2.2.2.2.2.2.2.2.2.2.2.2.2.2.2.2.2.1, q0.2.1.2.2.2.2.2.2.2.2.2.2.2.2.2.2.2.2.2.2.2.2.2.2.2.1, q0.2.1.2.2.2.2.2.2.2.2.2.2.2.2.2.2.2.2.2.2.2.2.2.2.2.2.1, q0.2.1.2.2.2.2.2.2.2.2.2.2.2.2.2.2.2.2.2.2.2.2.2.2.2.2.2.1, q0.2.1.2.2.2.2.2.2.2.2.2.2.2.2.2.2.2.2.2.2.2.2.2.2.2.2.2.2.1, q0.2.1.2.2.2.2.2.2.2.2.2.2.2.2.2.2.2.2.2.2.2.2.2.2.2.2.2.2.2.1, q0.2.1.2.2.2.2.2.2.2.2.2.2.2.2.2.2.2.2.2.2.2.2.2.2.2.2.2.2.2.2.1, IntKind.i64.wrap q1.1.2.1, ()), ()))))
def F20 : Fn := ⟨[.mbox 71 [cI, cI, .cell (.sl 43 Y1_3), .cell (.sl 117 Y1_28), .cell .bool, .cell .bool, .cell .bool, .cell Y1_47, .cell Y1_13, .cell Y1_37, .cell (.sl 97 Y1_5), .cell Y1_13, .cell Y1_37, cI, cI, cI, cI, .cell Y1_14, .cell Y1_14, .cell Y1_14, cI, cI, cI, cI, .cell (.int .u32), .own 58 Y1_27, cI, cI, cI, cI]], [], fun k x => S20 k x.1.1 x.1.2.1 x.1.2.2.1 x.1.2.2.2.1 x.1.2.2.2.2.1 x.1.2.2.2.2.2.1 x.1.2.2.2.2.2.2.1 x.1.2.2.2.2.2.2.2.1 x.1.2.2.2.2.2.2.2.2.1 x.1.2.2.2.2.2.2.2.2.2.1 x.1.2.2.2.2.2.2.2.2.2.2.1 x.1.2.2.2.2.2.2.2.2.2.2.2.1 x.1.2.2.2.2.2.2.2.2.2.2.2.2.1 x.1.2.2.2.2.2.2.2.2.2.2.2.2.2.1 x.1.2.2.2.2.2.2.2.2.2.2.2.2.2.2.1 x.1.2.2.2.2.2.2.2.2.2.2.2.2.2.2.2.1 x.1.2.2.2.2.2.2.2.2.2.2.2.2.2.2.2.2.1 x.1.2.2.2.2.2.2.2.2.2.2.2.2.2.2.2.2.2.1 x.1.2.2.2.2.2.2.2.2.2.2.2.2.2.2.2.2.2.2.1 x.1.2.2.2.2.2.2.2.2.2.2.2.2.2.2.2.2.2.2.2.1 x.1.2.2.2.2.2.2.2.2.2.2.2.2.2.2.2.2.2.2.2.2.1 x.1.2.2.2.2.2.2.2.2.2.2.2.2.2.2.2.2.2.2.2.2.2.1 x.1.2.2.2.2.2.2.2.2.2.2.2.2.2.2.2.2.2.2.2.2.2.2.1 x.1.2.2.2.2.2.2.2.2.2.2.2.2.2.2.2.2.2.2.2.2.2.2.2.1 x.1.2.2.2.2.2.2.2.2.2.2.2.2.2.2.2.2.2.2.2.2.2.2.2.2.1 x.1.2.2.2.2.2.2.2.2.2.2.2.2.2.2.2.2.2.2.2.2.2.2.2.2.2.1 x.1.2.2.2.2.2.2.2.2.2.2.2.2.2.2.2.2.2.2.2.2.2.2.2.2.2.2.1 x.1.2.2.2.2.2.2.2.2.2.2.2.2.2.2.2.2.2.2.2.2.2.2.2.2.2.2.2.1 x.1.2.2.2.2.2.2.2.2.2.2.2.2.2.2.2.2.2.2.2.2.2.2.2.2.2.2.2.2.1 x.1.2.2.2.2.2.2.2.2.2.2.2.2.2.2.2.2.2.2.2.2.2.2.2.2.2.2.2.2.2.1⟩
theorem ok20 : FnOK Tryz.prog 20 F20 := okF [(34, F34), (37, F37), (40, F40)] [] (fun k => .nil) ⟨ok34, ok37, ok40, trivial⟩ Tryz.func20 rfl
def S85 (k : Nat) (a : (List Int) × List Bool) (b : Int × Int) : Option ((Y1_39 × Bool × Unit) × Unit) :=
 (S112 k a).bind fun q0 =>
 (S124 k q0.1.1 b).bind fun q1 =>
 (bif !q1.1.1 then
  some ((q0.1.1, false, ()), ())
 else
  ix q0.1.1.2 b.1 <|
  some (((q0.1.1.1, upd q0.1.1.2 b.1 false), true, ()), ()))
def F85 : Fn := ⟨[.val ⟨true, (.pair Y1_13 Y1_37), false⟩, .val ⟨true, Y1_15, false⟩], [.val ⟨true, (.pair Y1_13 Y1_37), true⟩, .val ⟨false, .bool, true⟩], fun k x => S85 k x.1 x.2.1⟩
theorem ok85 : FnOK Tryz.prog 85 F85 := okF [(112, F112), (124, F124)] [] (fun k => .nil) ⟨ok112, ok124, trivial⟩ Tryz.func85 rfl
def S128 (k : Nat) (a : (List Int) × List Int) : Option ((((List Int) × List Int) × (List Int) × Unit) × Unit) :=
 (S89 k a.2).bind fun q0 =>
 some ((([], []), q0.1.1, ()), ())
def F128 : Fn := ⟨[.val ⟨true, (.pair (.sl 2 (.int .i64)) Y1_13), false⟩], [.val ⟨true, (.pair (.sl 2 (.int .i64)) Y1_13), true⟩, .val ⟨false, Y1_13, true⟩], fun k x => S128 k x.1⟩
theorem ok128 : FnOK Tryz.prog 128 F128 := okF [(89, F89)] [] (fun k => .nil) ⟨ok89, trivial⟩ Tryz.func128 rfl
abbrev c129_L2 : Cut := ⟨[2, 3, 7, 8, 9], [.box 95 [.cell (.int .u32), .nil], .own 3 (.int .i64), .cell (.sl 109 Y1_25), cI, cI], [], 21, []⟩
def l129_2 (k : Nat) (g2 : Int → (List Int) → Y1_17 → Int → Int → Option Y1_41) (x : Int) (a : List Int) (b : Y1_26) (c e : Int) : Option Y1_41 :=
 (bif decide (e < c) then
  ix b e <|
  ap a ([(rd b e (0, 0)).1] : List Int) 8 fun r0 =>
  g2 x r0 b c (IntKind.i64.wrap (e + 1))
 else
  some (((x, []), a, ()), ()))
def b129_2 (k : Nat) (g : ((Unit) × (Int × Unit × Unit) × (List Int) × Y1_17 × Int × Int × Unit) → Option Y1_41) (d : (Unit) × (Int × Unit × Unit) × (List Int) × Y1_17 × Int × Int × Unit) : Option Y1_41 := l129_2 k (fun x a b c e => g ((), (x, (), ()), a, b, c, e, ())) d.2.1.1 d.2.2.1 d.2.2.2.1 d.2.2.2.2.1 d.2.2.2.2.2.1
def L129_2 (k a : Nat) (x : Int) (b : List Int) (c : Y1_26) (e f : Int) : Option Y1_41 := iter (R := (Y1_32 × (List Int) × Unit) × Unit) c129_L2 (b129_2 k) a ((), (x, (), ()), b, c, e, f, ())
theorem L129_2_s (k a x b c e f) : L129_2 k (a + 1) x b c e f = l129_2 k (L129_2 k a) x b c e f := iter_succ _ _ _ _
def S129 (k : Nat) (a : Int × List (Int × Int)) : Option Y1_41 :=
 L129_2 k k 0 ([] : List Int) a.2 (a.2.length : Int) 0
def F129 : Fn := ⟨[.val ⟨true, Y1_44, false⟩], [.val ⟨true, Y1_44, true⟩, .val ⟨false, Y1_13, true⟩], fun k x => S129 k x.1⟩
theorem ok129 : FnOK Tryz.prog 129 F129 := okF [] [(3, 2)] (fun k => (.loop 2 c129_L2 (b129_2 k) (fun g => .nil) .nil)) trivial Tryz.func129 rfl
def S167 (k : Nat) (a : Int) : Option Y1_31 :=
 (bif decide (a < 0) then
  none
 else
  (bif decide ((IntKind.i64.wrap (a - 0)) > 0) then
   az ([] : List Int) (IntKind.i64.wrap (a - 0)) 8 0 fun r0 =>
   sx r0 0 0 <|
   some ((r0.take 0, ()), ())
  else
   some (([], ()), ())))
def F167 : Fn := ⟨[.pv (.nil), .val ⟨false, (.int .i64), false⟩], [.val ⟨false, Y1_13, true⟩], fun k x => S167 k x.2.1⟩
theorem ok167 : FnOK Tryz.prog 167 F167 := okF [] [(25, 1)] (fun k => .nil) trivial Tryz.func167 rfl
abbrev c130_L11 : Cut := ⟨[6, 25, 26, 27], [.own 3 (.int .i64), .cell (.sl 26 Y1_13), cI, cI], [], 36, []⟩
def l130_11 (k : Nat) (g11 : (List Int) → Y1_36 → Int → Int → Option Y1_31) (a : List Int) (b : List (List Int)) (c e : Int) : Option Y1_31 :=
 (bif decide (e < c) then
  ix b e <|
  ap a (rd b e []) 8 fun r1 =>
  g11 r1 b c (IntKind.i64.wrap (e + 1))
 else
  some ((a, ()), ()))
def b130_11 (k : Nat) (g : ((Unit) × (List Int) × Y1_36 × Int × Int × Unit) → Option Y1_31) (d : (Unit) × (List Int) × Y1_36 × Int × Int × Unit) : Option Y1_31 := l130_11 k (fun a b c e => g ((), a, b, c, e, ())) d.2.1 d.2.2.1 d.2.2.2.1 d.2.2.2.2.1
def L130_11 (k a : Nat) (b : List Int) (c : List (List Int)) (e f : Int) : Option Y1_31 := iter (R := ((List Int) × Unit) × Unit) c130_L11 (b130_11 k) a ((), b, c, e, f, ())
theorem L130_11_s (k a b c e f) : L130_11 k (a + 1) b c e f = l130_11 k (L130_11 k a) b c e f := iter_succ _ _ _ _
abbrev c130_L3 : Cut := ⟨[0, 3, 9, 10, 11], [.cell (.sl 26 Y1_13), cI, .cell (.sl 26 Y1_13), cI, cI], [], 36, []⟩
def l130_3 (k : Nat) (g3 : Y1_36 → Int → Y1_36 → Int → Int → Option Y1_31) (a : List (List Int)) (b : Int) (c : List (List Int)) (e f : Int) : Option Y1_31 :=
 (bif decide (f < e) then
  ix c f <|
  (bif decide ((IntKind.i64.wrap (b + ((rd c f []).length : Int))) < 0) then
   none
  else
   g3 a (IntKind.i64.wrap (b + ((rd c f []).length : Int))) c e (IntKind.i64.wrap (f + 1)))
 else
  (S167 k b).bind fun q0 =>
  L130_11 k k q0.1.1 a (a.length : Int) 0)
def b130_3 (k : Nat) (g : ((Unit) × Y1_36 × Int × Y1_36 × Int × Int × Unit) → Option Y1_31) (d : (Unit) × Y1_36 × Int × Y1_36 × Int × Int × Unit) : Option Y1_31 := l130_3 k (fun a b c e f => g ((), a, b, c, e, f, ())) d.2.1 d.2.2.1 d.2.2.2.1 d.2.2.2.2.1 d.2.2.2.2.2.1
def L130_3 (k a : Nat) (b : List (List Int)) (c : Int) (e : List (List Int)) (f h : Int) : Option Y1_31 := iter (R := ((List Int) × Unit) × Unit) c130_L3 (b130_3 k) a ((), b, c, e, f, h, ())
theorem L130_3_s (k a b c e f h) : L130_3 k (a + 1) b c e f h = l130_3 k (L130_3 k a) b c e f h := iter_succ _ _ _ _
def S130 (k : Nat) (a : List (List Int)) : Option Y1_31 :=
 L130_3 k k a 0 a (a.length : Int) 0
def F130 : Fn := ⟨[.val ⟨false, (.sl 26 Y1_13), false⟩], [.val ⟨false, Y1_13, true⟩], fun k x => S130 k x.1⟩
theorem ok130 : FnOK Tryz.prog 130 F130 := okF [(167, F167)] [] (fun k => (.loop 11 c130_L11 (b130_11 k) (fun g => .nil) (.loop 3 c130_L3 (b130_3 k) (fun g => .nil) .nil))) ⟨ok167, trivial⟩ Tryz.func130 rfl
def S86 (k : Nat) (x : Int × (Int × Int) × (Int × Int) × ((List Int) × List Int) × Y1_32 × Int) : Option Y1_31 :=
 (S128 k x.2.2.2.1).bind fun q0 =>
 (S129 k x.2.2.2.2.1).bind fun q1 =>
 (S130 k ([q0.1.2.1, q1.1.2.1] : List (List Int))).bind fun q2 =>
 some ((q2.1.1, ()), ())
def F86 : Fn := ⟨[.val ⟨true, Y1_5, false⟩], [.val ⟨false, Y1_13, true⟩], fun k x => S86 k x.1⟩
theorem ok86 : FnOK Tryz.prog 86 F86 := okF [(128, F128), (129, F129), (130, F130)] [] (fun k => .nil) ⟨ok128, ok129, ok130, trivial⟩ Tryz.func86 rfl
def S41 (k : Nat) (a : Y1_39 × List Y1_6) (b : Int × Int) : Option (((Y1_39 × List Y1_6) × (List Int) × Bool × Unit) × Unit) :=
 (S64 k a).bind fun q0 =>
 (S76 k a b).bind fun q1 =>
 (bif !q1.1.2.1 then
  some ((q0.1.1, [], false, ()), ())
 else
  ix a.2 q1.1.1 <|
  (bif (rd a.2 q1.1.1 (0, (0, 0), (0, 0), ([], []), (0, []), 0)).1 == 1 then
   some ((q0.1.1, [], false, ()), ())
  else
   (S85 k q0.1.1.1 b).bind fun q2 =>
   ix q0.1.1.2 q1.1.1 <|
   ix a.2 q1.1.1 <|
   (S86 k (rd a.2 q1.1.1 (0, (0, 0), (0, 0), ([], []), (0, []), 0))).bind fun q3 =>
   some (((q2.1.1, upd q0.1.1.2 q1.1.1 (0, (0, 0), (0, 0), ([], []), (0, []), 0)), q3.1.1, true, ()), ())))
def F41 : Fn := ⟨[.val ⟨true, Y1_53, false⟩, .val ⟨true, Y1_15, false⟩], [.val ⟨true, Y1_53, true⟩, .val ⟨false, Y1_13, true⟩, .val ⟨false, .bool, true⟩], fun k x => S41 k x.1 x.2.1⟩
theorem ok41 : FnOK Tryz.prog 41 F41 := okF [(64, F64), (76, F76), (85, F85), (86, F86)] [] (fun k => .nil) ⟨ok64, ok76, ok85, ok86, trivial⟩ Tryz.func41 rfl
def S36a (k : Nat) (a b : Int) (c : List Y1_7) (e : List (PN Int 5)) (f h i : Bool) (l : List Y1_2) (m : List Int) (n : List Bool) (o : List Y1_6) (p : List Int) (s : List Bool) (t u v w : Int) (y z A : List Y1_12) (B C D G H : Int) (I : List (PN Int 6)) (J K M N O P Q : Int) : Option Y1_33 :=
 ap I ([(a, 12, 0, O, P, Q)] : List (PN Int 6)) 48 fun r0 =>
 some ((), (a, b, c, e, f, h, i, l, m, n, o, p, s, t, u, v, w, y, z, A, B, C, D, G, H, r0, J, K, M, N, ()), ())
def F36a : Fn := ⟨[.mbox 71 [cI, cI, .cell (.sl 43 Y1_3), .cell (.sl 117 Y1_28), .cell .bool, .cell .bool, .cell .bool, .cell Y1_47, .own 3 (.int .i64), .own 4 .bool, .own 97 Y1_5, .cell Y1_13, .cell Y1_37, cI, cI, cI, cI, .cell Y1_14, .cell Y1_14, .cell Y1_14, cI, cI, cI, cI, .cell (.int .u32), .own 58 Y1_27, cI, cI, cI, cI], .val ⟨false, (.int .i64), false⟩, .val ⟨false, (.int .i64), false⟩, .val ⟨false, (.int .i64), false⟩], [], fun k x => S36a k x.1.1 x.1.2.1 x.1.2.2.1 x.1.2.2.2.1 x.1.2.2.2.2.1 x.1.2.2.2.2.2.1 x.1.2.2.2.2.2.2.1 x.1.2.2.2.2.2.2.2.1 x.1.2.2.2.2.2.2.2.2.1 x.1.2.2.2.2.2.2.2.2.2.1 x.1.2.2.2.2.2.2.2.2.2.2.1 x.1.2.2.2.2.2.2.2.2.2.2.2.1 x.1.2.2.2.2.2.2.2.2.2.2.2.2.1 x.1.2.2.2.2.2.2.2.2.2.2.2.2.2.1 x.1.2.2.2.2.2.2.2.2.2.2.2.2.2.2.1 x.1.2.2.2.2.2.2.2.2.2.2.2.2.2.2.2.1 x.1.2.2.2.2.2.2.2.2.2.2.2.2.2.2.2.2.1 x.1.2.2.2.2.2.2.2.2.2.2.2.2.2.2.2.2.2.1 x.1.2.2.2.2.2.2.2.2.2.2.2.2.2.2.2.2.2.2.1 x.1.2.2.2.2.2.2.2.2.2.2.2.2.2.2.2.2.2.2.2.1 x.1.2.2.2.2.2.2.2.2.2.2.2.2.2.2.2.2.2.2.2.2.1 x.1.2.2.2.2.2.2.2.2.2.2.2.2.2.2.2.2.2.2.2.2.2.1 x.1.2.2.2.2.2.2.2.2.2.2.2.2.2.2.2.2.2.2.2.2.2.2.1 x.1.2.2.2.2.2.2.2.2.2.2.2.2.2.2.2.2.2.2.2.2.2.2.2.1 x.1.2.2.2.2.2.2.2.2.2.2.2.2.2.2.2.2.2.2.2.2.2.2.2.2.1 x.1.2.2.2.2.2.2.2.2.2.2.2.2.2.2.2.2.2.2.2.2.2.2.2.2.2.1 x.1.2.2.2.2.2.2.2.2.2.2.2.2.2.2.2.2.2.2.2.2.2.2.2.2.2.2.1 x.1.2.2.2.2.2.2.2.2.2.2.2.2.2.2.2.2.2.2.2.2.2.2.2.2.2.2.2.1 x.1.2.2.2.2.2.2.2.2.2.2.2.2.2.2.2.2.2.2.2.2.2.2.2.2.2.2.2.2.1 x.1.2.2.2.2.2.2.2.2.2.2.2.2.2.2.2.2.2.2.2.2.2.2.2.2.2.2.2.2.2.1 x.2.1 x.2.2.1 x.2.2.2.1⟩
theorem ok36a : FnOK Tryz.prog 36 F36a := okF [] [] (fun k => .nil) trivial Tryz.func36 rfl
abbrev c21_L5 : Cut := ⟨[0, 33, 34, 35], [.pin false 0, .own 3 (.int .i64), cI, cI], [.mbox 71 [cI, cI, .cell (.sl 43 Y1_3), .cell (.sl 117 Y1_28), .cell .bool, .cell .bool, .cell .bool, .cell Y1_47, .own 3 (.int .i64), .own 4 .bool, .own 97 Y1_5, .cell Y1_13, .cell Y1_37, cI, cI, cI, cI, .cell Y1_14, .cell Y1_14, .cell Y1_14, cI, cI, cI, cI, .cell (.int .u32), .own 58 Y1_27, cI, cI, cI, cI]], 43, []⟩
def l21_5 (k : Nat) (g5 : Int → Int → (List Y1_7) → (List (PN Int 5)) → Bool → Bool → Bool → (List Y1_2) → (List Int) → (List Bool) → (List Y1_6) → (List Int) → (List Bool) → Int → Int → Int → Int → (List Y1_12) → (List Y1_12) → (List Y1_12) → Int → Int → Int → Int → Int → (List (PN Int 6)) → Int → Int → Int → Int → (List Int) → Int → Int → Option Y1_33) (a b : Int) (c : List Y1_7) (e : List (PN Int 5)) (f h i : Bool) (l : List Y1_2) (m : List Int) (n : List Bool) (o : List Y1_6) (p : List Int) (s : List Bool) (t u v w : Int) (y z A : List Y1_12) (B C D G H : Int) (I : List (PN Int 6)) (J K M N : Int) (O : List Int) (P Q : Int) : Option Y1_33 :=
 (bif decide (Q < P) then
  ix O Q <|
  (S36a k a b c e f h i l m n o p s t u v w y z A B C D G H I J K M N (rd O Q 0) 0 15).bind fun q1 =>
  g5 q1.2.1.1 q1.2.1.2.1 q1.2.1.2.2.1 q1.2.1.2.2.2.1 q1.2.1.2.2.2.2.1 q1.2.1.2.2.2.2.2.1 q1.2.1.2.2.2.2.2.2.1 q1.2.1.2.2.2.2.2.2.2.1 q1.2.1.2.2.2.2.2.2.2.2.1 q1.2.1.2.2.2.2.2.2.2.2.2.1 q1.2.1.2.2.2.2.2.2.2.2.2.2.1 q1.2.1.2.2.2.2.2.2.2.2.2.2.2.1 q1.2.1.2.2.2.2.2.2.2.2.2.2.2.2.1 q1.2.1.2.2.2.2.2.2.2.2.2.2.2.2.2.1 q1.2.1.2.2.2.2.2.2.2.2.2.2.2.2.2.2.1 q1.2.1.2.2.2.2.2.2.2.2.2.2.2.2.2.2.2.1 q1.2.1.2.2.2.2.2.2.2.2.2.2.2.2.2.2.2.2.1 q1.2.1.2.2.2.2.2.2.2.2.2.2.2.2.2.2.2.2.2.1 q1.2.1.2.2.2.2.2.2.2.2.2.2.2.2.2.2.2.2.2.2.1 q1.2.1.2.2.2.2.2.2.2.2.2.2.2.2.2.2.2.2.2.2.2.1 q1.2.1.2.2.2.2.2.2.2.2.2.2.2.2.2.2.2.2.2.2.2.2.1 q1.2.1.2.2.2.2.2.2.2.2.2.2.2.2.2.2.2.2.2.2.2.2.2.1 q1.2.1.2.2.2.2.2.2.2.2.2.2.2.2.2.2.2.2.2.2.2.2.2.2.1 q1.2.1.2.2.2.2.2.2.2.2.2.2.2.2.2.2.2.2.2.2.2.2.2.2.2.1 q1.2.1.2.2.2.2.2.2.2.2.2.2.2.2.2.2.2.2.2.2.2.2.2.2.2.2.1 q1.2.1.2.2.2.2.2.2.2.2.2.2.2.2.2.2.2.2.2.2.2.2.2.2.2.2.2.1 q1.2.1.2.2.2.2.2.2.2.2.2.2.2.2.2.2.2.2.2.2.2.2.2.2.2.2.2.2.1 q1.2.1.2.2.2.2.2.2.2.2.2.2.2.2.2.2.2.2.2.2.2.2.2.2.2.2.2.2.2.1 q1.2.1.2.2.2.2.2.2.2.2.2.2.2.2.2.2.2.2.2.2.2.2.2.2.2.2.2.2.2.2.1 q1.2.1.2.2.2.2.2.2.2.2.2.2.2.2.2.2.2.2.2.2.2.2.2.2.2.2.2.2.2.2.2.1 O P (IntKind.i64.wrap (Q + 1))
 else
  some ((), (a, b, c, e, f, h, i, l, m, n, o, p, s, t, u, v, w, y, z, A, B, C, D, G, H, I, J, K, M, N, ()), ()))
def b21_5 (k : Nat) (g : ((Y1_4 × Unit) × Unit × (List Int) × Int × Int × Unit) → Option Y1_33) (d : (Y1_4 × Unit) × Unit × (List Int) × Int × Int × Unit) : Option Y1_33 := l21_5 k (fun a b c e f h i l m n o p s t u v w y z A B C D G H I J K M N O P Q => g (((a, b, c, e, f, h, i, l, m, n, o, p, s, t, u, v, w, y, z, A, B, C, D, G, H, I, J, K, M, N, ()), ()), (), O, P, Q, ())) d.1.1.1 d.1.1.2.1 d.1.1.2.2.1 d.1.1.2.2.2.1 d.1.1.2.2.2.2.1 d.1.1.2.2.2.2.2.1 d.1.1.2.2.2.2.2.2.1 d.1.1.2.2.2.2.2.2.2.1 d.1.1.2.2.2.2.2.2.2.2.1 d.1.1.2.2.2.2.2.2.2.2.2.1 d.1.1.2.2.2.2.2.2.2.2.2.2.1 d.1.1.2.2.2.2.2.2.2.2.2.2.2.1 d.1.1.2.2.2.2.2.2.2.2.2.2.2.2.1 d.1.1.2.2.2.2.2.2.2.2.2.2.2.2.2.1 d.1.1.2.2.2.2.2.2.2.2.2.2.2.2.2.2.1 d.1.1.2.2.2.2.2.2.2.2.2.2.2.2.2.2.2.1 d.1.1.2.2.2.2.2.2.2.2.2.2.2.2.2.2.2.2.1 d.1.1.2.2.2.2.2.2.2.2.2.2.2.2.2.2.2.2.2.1 d.1.1.2.2.2.2.2.2.2.2.2.2.2.2.2.2.2.2.2.2.1 d.1.1.2.2.2.2.2.2.2.2.2.2.2.2.2.2.2.2.2.2.2.1 d.1.1.2.2.2.2.2.2.2.2.2.2.2.2.2.2.2.2.2.2.2.2.1 d.1.1.2.2.2.2.2.2.2.2.2.2.2.2.2.2.2.2.2.2.2.2.2.1 d.1.1.2.2.2.2.2.2.2.2.2.2.2.2.2.2.2.2.2.2.2.2.2.2.1 d.1.1.2.2.2.2.2.2.2.2.2.2.2.2.2.2.2.2.2.2.2.2.2.2.2.1 d.1.1.2.2.2.2.2.2.2.2.2.2.2.2.2.2.2.2.2.2.2.2.2.2.2.2.1 d.1.1.2.2.2.2.2.2.2.2.2.2.2.2.2.2.2.2.2.2.2.2.2.2.2.2.2.1 d.1.1.2.2.2.2.2.2.2.2.2.2.2.2.2.2.2.2.2.2.2.2.2.2.2.2.2.2.1 d.1.1.2.2.2.2.2.2.2.2.2.2.2.2.2.2.2.2.2.2.2.2.2.2.2.2.2.2.2.1 d.1.1.2.2.2.2.2.2.2.2.2.2.2.2.2.2.2.2.2.2.2.2.2.2.2.2.2.2.2.2.1 d.1.1.2.2.2.2.2.2.2.2.2.2.2.2.2.2.2.2.2.2.2.2.2.2.2.2.2.2.2.2.2.1 d.2.2.1 d.2.2.2.1 d.2.2.2.2.1
def L21_5 (k a : Nat) (b c : Int) (e : List Y1_7) (f : List (PN Int 5)) (h i l : Bool) (m : List Y1_2) (n : List Int) (o : List Bool) (p : List Y1_6) (s : List Int) (t : List Bool) (u v w y : Int) (z A B : List Y1_12) (C D G H I : Int) (J : List (PN Int 6)) (K M N O : Int) (P : List Int) (Q T : Int) : Option Y1_33 := iter (R := (Unit) × Y1_4 × Unit) c21_L5 (b21_5 k) a (((b, c, e, f, h, i, l, m, n, o, p, s, t, u, v, w, y, z, A, B, C, D, G, H, I, J, K, M, N, O, ()), ()), (), P, Q, T, ())
theorem L21_5_s (k a b c e f h i l m n o p s t u v w y z A B C D G H I J K M N O P Q T) : L21_5 k (a + 1) b c e f h i l m n o p s t u v w y z A B C D G H I J K M N O P Q T = l21_5 k (L21_5 k a) b c e f h i l m n o p s t u v w y z A B C D G H I J K M N O P Q T := iter_succ _ _ _ _
def S21 (k : Nat) (a b : Int) (c : List Y1_7) (e : List (PN Int 5)) (f h i : Bool) (l : List Y1_2) (m : List Int) (n : List Bool) (o : List Y1_6) (p : List Int) (s : List Bool) (t u v w : Int) (y z A : List Y1_12) (B C D G H : Int) (I : List (PN Int 6)) (J K M N : Int) : Option Y1_33 :=
 (S41 k ((m, n), o) (B, C)).bind fun q0 =>
 (bif !q0.1.2.2.1 then
  some ((), (a, b, c, e, f, h, i, l, m, n, o, p, s, t, u, v, w, y, z, A, B, C, D, G, H, I, 3, K, M, N, ()), ())
 else
  L21_5 k k a b c e f h i l q0.1.1.1.1 q0.1.1.1.2 q0.1.1.2 p s t u v w y z A B C D G H I J K M N q0.1.2.1 (q0.1.2.1.length : Int) 0)
def F21 : Fn := ⟨[.mbox 71 [cI, cI, .cell (.sl 43 Y1_3), .cell (.sl 117 Y1_28), .cell .bool, .cell .bool, .cell .bool, .cell Y1_47, .cell Y1_13, .cell Y1_37, .cell (.sl 97 Y1_5), .cell Y1_13, .cell Y1_37, cI, cI, cI, cI, .cell Y1_14, .cell Y1_14, .cell Y1_14, cI, cI, cI, cI, .cell (.int .u32), .own 58 Y1_27, cI, cI, cI, cI]], [], fun k x => S21 k x.1.1 x.1.2.1 x.1.2.2.1 x.1.2.2.2.1 x.1.2.2.2.2.1 x.1.2.2.2.2.2.1 x.1.2.2.2.2.2.2.1 x.1.2.2.2.2.2.2.2.1 x.1.2.2.2.2.2.2.2.2.1 x.1.2.2.2.2.2.2.2.2.2.1 x.1.2.2.2.2.2.2.2.2.2.2.1 x.1.2.2.2.2.2.2.2.2.2.2.2.1 x.1.2.2.2.2.2.2.2.2.2.2.2.2.1 x.1.2.2.2.2.2.2.2.2.2.2.2.2.2.1 x.1.2.2.2.2.2.2.2.2.2.2.2.2.2.2.1 x.1.2.2.2.2.2.2.2.2.2.2.2.2.2.2.2.1 x.1.2.2.2.2.2.2.2.2.2.2.2.2.2.2.2.2.1 x.1.2.2.2.2.2.2.2.2.2.2.2.2.2.2.2.2.2.1 x.1.2.2.2.2.2.2.2.2.2.2.2.2.2.2.2.2.2.2.1 x.1.2.2.2.2.2.2.2.2.2.2.2.2.2.2.2.2.2.2.2.1 x.1.2.2.2.2.2.2.2.2.2.2.2.2.2.2.2.2.2.2.2.2.1 x.1.2.2.2.2.2.2.2.2.2.2.2.2.2.2.2.2.2.2.2.2.2.1 x.1.2.2.2.2.2.2.2.2.2.2.2.2.2.2.2.2.2.2.2.2.2.2.1 x.1.2.2.2.2.2.2.2.2.2.2.2.2.2.2.2.2.2.2.2.2.2.2.2.1 x.1.2.2.2.2.2.2.2.2.2.2.2.2.2.2.2.2.2.2.2.2.2.2.2.2.1 x.1.2.2.2.2.2.2.2.2.2.2.2.2.2.2.2.2.2.2.2.2.2.2.2.2.2.1 x.1.2.2.2.2.2.2.2.2.2.2.2.2.2.2.2.2.2.2.2.2.2.2.2.2.2.2.1 x.1.2.2.2.2.2.2.2.2.2.2.2.2.2.2.2.2.2.2.2.2.2.2.2.2.2.2.2.1 x.1.2.2.2.2.2.2.2.2.2.2.2.2.2.2.2.2.2.2.2.2.2.2.2.2.2.2.2.2.1 x.1.2.2.2.2.2.2.2.2.2.2.2.2.2.2.2.2.2.2.2.2.2.2.2.2.2.2.2.2.2.1⟩
theorem ok21 : FnOK Tryz.prog 21 F21 := okF [(36, F36a), (41, F41)] [] (fun k => (.loop 5 c21_L5 (b21_5 k) (fun g => .nil) .nil)) ⟨ok36a, ok41, trivial⟩ Tryz.func21 rfl
def S22 (k : Nat) (a b : Int) (c : List Y1_7) (e : List (PN Int 5)) (f h i : Bool) (l : List Y1_2) (m : List Int) (n : List Bool) (o : List Y1_6) (p : List Int) (s : List Bool) (t u v w : Int) (y z A : List Y1_12) (B C D G H : Int) (I : List (PN Int 6)) (J K M N : Int) : Option Y1_33 :=
 some ((), (a, b, c, e, f, h, i, l, m, n, o, p, s, t, u, v, w, y, z, A, B, C, D, G, H, I, 1, K, M, N, ()), ())
def F22 : Fn := ⟨[.mbox 71 [cI, cI, .cell (.sl 43 Y1_3), .cell (.sl 117 Y1_28), .cell .bool, .cell .bool, .cell .bool, .cell Y1_47, .cell Y1_13, .cell Y1_37, .cell (.sl 97 Y1_5), .cell Y1_13, .cell Y1_37, cI, cI, cI, cI, .cell Y1_14, .cell Y1_14, .cell Y1_14, cI, cI, cI, cI, .cell (.int .u32), .own 58 Y1_27, cI, cI, cI, cI]], [], fun k x => S22 k x.1.1 x.1.2.1 x.1.2.2.1 x.1.2.2.2.1 x.1.2.2.2.2.1 x.1.2.2.2.2.2.1 x.1.2.2.2.2.2.2.1 x.1.2.2.2.2.2.2.2.1 x.1.2.2.2.2.2.2.2.2.1 x.1.2.2.2.2.2.2.2.2.2.1 x.1.2.2.2.2.2.2.2.2.2.2.1 x.1.2.2.2.2.2.2.2.2.2.2.2.1 x.1.2.2.2.2.2.2.2.2.2.2.2.2.1 x.1.2.2.2.2.2.2.2.2.2.2.2.2.2.1 x.1.2.2.2.2.2.2.2.2.2.2.2.2.2.2.1 x.1.2.2.2.2.2.2.2.2.2.2.2.2.2.2.2.1 x.1.2.2.2.2.2.2.2.2.2.2.2.2.2.2.2.2.1 x.1.2.2.2.2.2.2.2.2.2.2.2.2.2.2.2.2.2.1 x.1.2.2.2.2.2.2.2.2.2.2.2.2.2.2.2.2.2.2.1 x.1.2.2.2.2.2.2.2.2.2.2.2.2.2.2.2.2.2.2.2.1 x.1.2.2.2.2.2.2.2.2.2.2.2.2.2.2.2.2.2.2.2.2.1 x.1.2.2.2.2.2.2.2.2.2.2.2.2.2.2.2.2.2.2.2.2.2.1 x.1.2.2.2.2.2.2.2.2.2.2.2.2.2.2.2.2.2.2.2.2.2.2.1 x.1.2.2.2.2.2.2.2.2.2.2.2.2.2.2.2.2.2.2.2.2.2.2.2.1 x.1.2.2.2.2.2.2.2.2.2.2.2.2.2.2.2.2.2.2.2.2.2.2.2.2.1 x.1.2.2.2.2.2.2.2.2.2.2.2.2.2.2.2.2.2.2.2.2.2.2.2.2.2.1 x.1.2.2.2.2.2.2.2.2.2.2.2.2.2.2.2.2.2.2.2.2.2.2.2.2.2.2.1 x.1.2.2.2.2.2.2.2.2.2.2.2.2.2.2.2.2.2.2.2.2.2.2.2.2.2.2.2.1 x.1.2.2.2.2.2.2.2.2.2.2.2.2.2.2.2.2.2.2.2.2.2.2.2.2.2.2.2.2.1 x.1.2.2.2.2.2.2.2.2.2.2.2.2.2.2.2.2.2.2.2.2.2.2.2.2.2.2.2.2.2.1⟩
theorem ok22 : FnOK Tryz.prog 22 F22 := okF [] [] (fun k => .nil) trivial Tryz.func22 rfl
def S9 (k : Nat) (a : Y1_51) (b : Int × Y1_7 × (Int × Int) × Int × Int × Int) : Option ((Y1_49 × (List (PN Int 6)) × (Int × (Int × Int) × Int) × Unit) × Unit) :=
 (bif b.1 == 1 then
  (S13 k a.1 a.2.1 a.2.2.1 a.2.2.2.1 a.2.2.2.2.1 a.2.2.2.2.2.1 a.2.2.2.2.2.2.1 a.2.2.2.2.2.2.2.1 a.2.2.2.2.2.2.2.2.1.1.1 a.2.2.2.2.2.2.2.2.1.1.2 a.2.2.2.2.2.2.2.2.1.2 a.2.2.2.2.2.2.2.2.2.1 a.2.2.2.2.2.2.2.2.2.2 b.1 b.2.1.1 b.2.1.2.1 b.2.1.2.2.1 b.2.1.2.2.2.1 b.2.1.2.2.2.2.1 b.2.1.2.2.2.2.2 b.2.2.1.1 b.2.2.1.2 b.2.2.2.1 b.2.2.2.2.1 b.2.2.2.2.2 ([] : List (PN Int 6)) 0 0 0 0).bind fun q0 =>
  (S23 k (q0.2.1.1, q0.2.1.2.1, q0.2.1.2.2.1, q0.2.1.2.2.2.1, q0.2.1.2.2.2.2.1, q0.2.1.2.2.2.2.2.1, q0.2.1.2.2.2.2.2.2.1, q0.2.1.2.2.2.2.2.2.2.1, ((q0.2.1.2.2.2.2.2.2.2.2.1, q0.2.1.2.2.2.2.2.2.2.2.2.1), q0.2.1.2.2.2.2.2.2.2.2.2.2.1), q0.2.1.2.2.2.2.2.2.2.2.2.2.2.1, q0.2.1.2.2.2.2.2.2.2.2.2.2.2.2.1)).bind fun q1 =>
  some ((q1.1.1, q0.2.1.2.2.2.2.2.2.2.2.2.2.2.2.2.2.2.2.2.2.2.2.2.2.2.2.2.1, (q0.2.1.2.2.2.2.2.2.2.2.2.2.2.2.2.2.2.2.2.2.2.2.2.2.2.2.2.2.1, (q0.2.1.2.2.2.2.2.2.2.2.2.2.2.2.2.2.2.2.2.2.2.2.2.2.2.2.2.2.2.1, q0.2.1.2.2.2.2.2.2.2.2.2.2.2.2.2.2.2.2.2.2.2.2.2.2.2.2.2.2.2.2.1), q0.2.1.2.2.2.2.2.2.2.2.2.2.2.2.2.2.2.2.2.2.2.2.2.2.2.2.2.2.2.2.2.1), ()), ())
 else
  (bif b.1 == 2 then
   (S14 k a.1 a.2.1 a.2.2.1 a.2.2.2.1 a.2.2.2.2.1 a.2.2.2.2.2.1 a.2.2.2.2.2.2.1 a.2.2.2.2.2.2.2.1 a.2.2.2.2.2.2.2.2.1.1.1 a.2.2.2.2.2.2.2.2.1.1.2 a.2.2.2.2.2.2.2.2.1.2 a.2.2.2.2.2.2.2.2.2.1 a.2.2.2.2.2.2.2.2.2.2 b.1 b.2.1.1 b.2.1.2.1 b.2.1.2.2.1 b.2.1.2.2.2.1 b.2.1.2.2.2.2.1 b.2.1.2.2.2.2.2 b.2.2.1.1 b.2.2.1.2 b.2.2.2.1 b.2.2.2.2.1 b.2.2.2.2.2 ([] : List (PN Int 6)) 0 0 0 0).bind fun q2 =>
   (S23 k (q2.2.1.1, q2.2.1.2.1, q2.2.1.2.2.1, q2.2.1.2.2.2.1, q2.2.1.2.2.2.2.1, q2.2.1.2.2.2.2.2.1, q2.2.1.2.2.2.2.2.2.1, q2.2.1.2.2.2.2.2.2.2.1, ((q2.2.1.2.2.2.2.2.2.2.2.1, q2.2.1.2.2.2.2.2.2.2.2.2.1), q2.2.1.2.2.2.2.2.2.2.2.2.2.1), q2.2.1.2.2.2.2.2.2.2.2.2.2.2.1, q2.2.1.2.2.2.2.2.2.2.2.2.2.2.2.1)).bind fun q3 =>
   some ((q3.1.1, q2.2.1.2.2.2.2.2.2.2.2.2.2.2.2.2.2.2.2.2.2.2.2.2.2.2.2.2.1, (q2.2.1.2.2.2.2.2.2.2.2.2.2.2.2.2.2.2.2.2.2.2.2.2.2.2.2.2.2.1, (q2.2.1.2.2.2.2.2.2.2.2.2.2.2.2.2.2.2.2.2.2.2.2.2.2.2.2.2.2.2.1, q2.2.1.2.2.2.2.2.2.2.2.2.2.2.2.2.2.2.2.2.2.2.2.2.2.2.2.2.2.2.2.1), q2.2.1.2.2.2.2.2.2.2.2.2.2.2.2.2.2.2.2.2.2.2.2.2.2.2.2.2.2.2.2.2.1), ()), ())
  else
   (bif b.1 == 3 then
    (S14 k a.1 a.2.1 a.2.2.1 a.2.2.2.1 a.2.2.2.2.1 a.2.2.2.2.2.1 a.2.2.2.2.2.2.1 a.2.2.2.2.2.2.2.1 a.2.2.2.2.2.2.2.2.1.1.1 a.2.2.2.2.2.2.2.2.1.1.2 a.2.2.2.2.2.2.2.2.1.2 a.2.2.2.2.2.2.2.2.2.1 a.2.2.2.2.2.2.2.2.2.2 b.1 b.2.1.1 b.2.1.2.1 b.2.1.2.2.1 b.2.1.2.2.2.1 b.2.1.2.2.2.2.1 b.2.1.2.2.2.2.2 b.2.2.1.1 b.2.2.1.2 b.2.2.2.1 b.2.2.2.2.1 b.2.2.2.2.2 ([] : List (PN Int 6)) 0 0 0 0).bind fun q4 =>
    (S23 k (q4.2.1.1, q4.2.1.2.1, q4.2.1.2.2.1, q4.2.1.2.2.2.1, q4.2.1.2.2.2.2.1, q4.2.1.2.2.2.2.2.1, q4.2.1.2.2.2.2.2.2.1, q4.2.1.2.2.2.2.2.2.2.1, ((q4.2.1.2.2.2.2.2.2.2.2.1, q4.2.1.2.2.2.2.2.2.2.2.2.1), q4.2.1.2.2.2.2.2.2.2.2.2.2.1), q4.2.1.2.2.2.2.2.2.2.2.2.2.2.1, q4.2.1.2.2.2.2.2.2.2.2.2.2.2.2.1)).bind fun q5 =>
    some ((q5.1.1, q4.2.1.2.2.2.2.2.2.2.2.2.2.2.2.2.2.2.2.2.2.2.2.2.2.2.2.2.1, (q4.2.1.2.2.2.2.2.2.2.2.2.2.2.2.2.2.2.2.2.2.2.2.2.2.2.2.2.2.1, (q4.2.1.2.2.2.2.2.2.2.2.2.2.2.2.2.2.2.2.2.2.2.2.2.2.2.2.2.2.2.1, q4.2.1.2.2.2.2.2.2.2.2.2.2.2.2.2.2.2.2.2.2.2.2.2.2.2.2.2.2.2.2.1), q4.2.1.2.2.2.2.2.2.2.2.2.2.2.2.2.2.2.2.2.2.2.2.2.2.2.2.2.2.2.2.2.1), ()), ())
   else
    (bif b.1 == 4 then
     (S14 k a.1 a.2.1 a.2.2.1 a.2.2.2.1 a.2.2.2.2.1 a.2.2.2.2.2.1 a.2.2.2.2.2.2.1 a.2.2.2.2.2.2.2.1 a.2.2.2.2.2.2.2.2.1.1.1 a.2.2.2.2.2.2.2.2.1.1.2 a.2.2.2.2.2.2.2.2.1.2 a.2.2.2.2.2.2.2.2.2.1 a.2.2.2.2.2.2.2.2.2.2 b.1 b.2.1.1 b.2.1.2.1 b.2.1.2.2.1 b.2.1.2.2.2.1 b.2.1.2.2.2.2.1 b.2.1.2.2.2.2.2 b.2.2.1.1 b.2.2.1.2 b.2.2.2.1 b.2.2.2.2.1 b.2.2.2.2.2 ([] : List (PN Int 6)) 0 0 0 0).bind fun q6 =>
     (S23 k (q6.2.1.1, q6.2.1.2.1, q6.2.1.2.2.1, q6.2.1.2.2.2.1, q6.2.1.2.2.2.2.1, q6.2.1.2.2.2.2.2.1, q6.2.1.2.2.2.2.2.2.1, q6.2.1.2.2.2.2.2.2.2.1, ((q6.2.1.2.2.2.2.2.2.2.2.1, q6.2.1.2.2.2.2.2.2.2.2.2.1), q6.2.1.2.2.2.2.2.2.2.2.2.2.1), q6.2.1.2.2.2.2.2.2.2.2.2.2.2.1, q6.2.1.2.2.2.2.2.2.2.2.2.2.2.2.1)).bind fun q7 =>
     some ((q7.1.1, q6.2.1.2.2.2.2.2.2.2.2.2.2.2.2.2.2.2.2.2.2.2.2.2.2.2.2.2.1, (q6.2.1.2.2.2.2.2.2.2.2.2.2.2.2.2.2.2.2.2.2.2.2.2.2.2.2.2.2.1, (q6.2.1.2.2.2.2.2.2.2.2.2.2.2.2.2.2.2.2.2.2.2.2.2.2.2.2.2.2.2.1, q6.2.1.2.2.2.2.2.2.2.2.2.2.2.2.2.2.2.2.2.2.2.2.2.2.2.2.2.2.2.2.1), q6.2.1.2.2.2.2.2.2.2.2.2.2.2.2.2.2.2.2.2.2.2.2.2.2.2.2.2.2.2.2.2.1), ()), ())
    else
     (bif b.1 == 5 then
      (S15 k a.1 a.2.1 a.2.2.1 a.2.2.2.1 a.2.2.2.2.1 a.2.2.2.2.2.1 a.2.2.2.2.2.2.1 a.2.2.2.2.2.2.2.1 a.2.2.2.2.2.2.2.2.1.1.1 a.2.2.2.2.2.2.2.2.1.1.2 a.2.2.2.2.2.2.2.2.1.2 a.2.2.2.2.2.2.2.2.2.1 a.2.2.2.2.2.2.2.2.2.2 b.1 b.2.1.1 b.2.1.2.1 b.2.1.2.2.1 b.2.1.2.2.2.1 b.2.1.2.2.2.2.1 b.2.1.2.2.2.2.2 b.2.2.1.1 b.2.2.1.2 b.2.2.2.1 b.2.2.2.2.1 b.2.2.2.2.2 ([] : List (PN Int 6)) 0 0 0 0).bind fun q8 =>
      (S23 k (q8.2.1.1, q8.2.1.2.1, q8.2.1.2.2.1, q8.2.1.2.2.2.1, q8.2.1.2.2.2.2.1, q8.2.1.2.2.2.2.2.1, q8.2.1.2.2.2.2.2.2.1, q8.2.1.2.2.2.2.2.2.2.1, ((q8.2.1.2.2.2.2.2.2.2.2.1, q8.2.1.2.2.2.2.2.2.2.2.2.1), q8.2.1.2.2.2.2.2.2.2.2.2.2.1), q8.2.1.2.2.2.2.2.2.2.2.2.2.2.1, q8.2.1.2.2.2.2.2.2.2.2.2.2.2.2.1)).bind fun q9 =>
      some ((q9.1.1, q8.2.1.2.2.2.2.2.2.2.2.2.2.2.2.2.2.2.2.2.2.2.2.2.2.2.2.2.1, (q8.2.1.2.2.2.2.2.2.2.2.2.2.2.2.2.2.2.2.2.2.2.2.2.2.2.2.2.2.1, (q8.2.1.2.2.2.2.2.2.2.2.2.2.2.2.2.2.2.2.2.2.2.2.2.2.2.2.2.2.2.1, q8.2.1.2.2.2.2.2.2.2.2.2.2.2.2.2.2.2.2.2.2.2.2.2.2.2.2.2.2.2.2.1), q8.2.1.2.2.2.2.2.2.2.2.2.2.2.2.2.2.2.2.2.2.2.2.2.2.2.2.2.2.2.2.2.1), ()), ())
     else
      (bif b.1 == 6 then
       (S16 k a.1 a.2.1 a.2.2.1 a.2.2.2.1 a.2.2.2.2.1 a.2.2.2.2.2.1 a.2.2.2.2.2.2.1 a.2.2.2.2.2.2.2.1 a.2.2.2.2.2.2.2.2.1.1.1 a.2.2.2.2.2.2.2.2.1.1.2 a.2.2.2.2.2.2.2.2.1.2 a.2.2.2.2.2.2.2.2.2.1 a.2.2.2.2.2.2.2.2.2.2 b.1 b.2.1.1 b.2.1.2.1 b.2.1.2.2.1 b.2.1.2.2.2.1 b.2.1.2.2.2.2.1 b.2.1.2.2.2.2.2 b.2.2.1.1 b.2.2.1.2 b.2.2.2.1 b.2.2.2.2.1 b.2.2.2.2.2 ([] : List (PN Int 6)) 0 0 0 0).bind fun q10 =>
       (S23 k (q10.2.1.1, q10.2.1.2.1, q10.2.1.2.2.1, q10.2.1.2.2.2.1, q10.2.1.2.2.2.2.1, q10.2.1.2.2.2.2.2.1, q10.2.1.2.2.2.2.2.2.1, q10.2.1.2.2.2.2.2.2.2.1, ((q10.2.1.2.2.2.2.2.2.2.2.1, q10.2.1.2.2.2.2.2.2.2.2.2.1), q10.2.1.2.2.2.2.2.2.2.2.2.2.1), q10.2.1.2.2.2.2.2.2.2.2.2.2.2.1, q10.2.1.2.2.2.2.2.2.2.2.2.2.2.2.1)).bind fun q11 =>
       some ((q11.1.1, q10.2.1.2.2.2.2.2.2.2.2.2.2.2.2.2.2.2.2.2.2.2.2.2.2.2.2.2.1, (q10.2.1.2.2.2.2.2.2.2.2.2.2.2.2.2.2.2.2.2.2.2.2.2.2.2.2.2.2.1, (q10.2.1.2.2.2.2.2.2.2.2.2.2.2.2.2.2.2.2.2.2.2.2.2.2.2.2.2.2.2.1, q10.2.1.2.2.2.2.2.2.2.2.2.2.2.2.2.2.2.2.2.2.2.2.2.2.2.2.2.2.2.2.1), q10.2.1.2.2.2.2.2.2.2.2.2.2.2.2.2.2.2.2.2.2.2.2.2.2.2.2.2.2.2.2.2.1), ()), ())
      else
       (bif b.1 == 7 then
        (S17 k a.1 a.2.1 a.2.2.1 a.2.2.2.1 a.2.2.2.2.1 a.2.2.2.2.2.1 a.2.2.2.2.2.2.1 a.2.2.2.2.2.2.2.1 a.2.2.2.2.2.2.2.2.1.1.1 a.2.2.2.2.2.2.2.2.1.1.2 a.2.2.2.2.2.2.2.2.1.2 a.2.2.2.2.2.2.2.2.2.1 a.2.2.2.2.2.2.2.2.2.2 b.1 b.2.1.1 b.2.1.2.1 b.2.1.2.2.1 b.2.1.2.2.2.1 b.2.1.2.2.2.2.1 b.2.1.2.2.2.2.2 b.2.2.1.1 b.2.2.1.2 b.2.2.2.1 b.2.2.2.2.1 b.2.2.2.2.2 ([] : List (PN Int 6)) 0 0 0 0).bind fun q12 =>
        (S23 k (q12.2.1.1, q12.2.1.2.1, q12.2.1.2.2.1, q12.2.1.2.2.2.1, q12.2.1.2.2.2.2.1, q12.2.1.2.2.2.2.2.1, q12.2.1.2.2.2.2.2.2.1, q12.2.1.2.2.2.2.2.2.2.1, ((q12.2.1.2.2.2.2.2.2.2.2.1, q12.2.1.2.2.2.2.2.2.2.2.2.1), q12.2.1.2.2.2.2.2.2.2.2.2.2.1), q12.2.1.2.2.2.2.2.2.2.2.2.2.2.1, q12.2.1.2.2.2.2.2.2.2.2.2.2.2.2.1)).bind fun q13 =>
        some ((q13.1.1, q12.2.1.2.2.2.2.2.2.2.2.2.2.2.2.2.2.2.2.2.2.2.2.2.2.2.2.2.1, (q12.2.1.2.2.2.2.2.2.2.2.2.2.2.2.2.2.2.2.2.2.2.2.2.2.2.2.2.2.1, (q12.2.1.2.2.2.2.2.2.2.2.2.2.2.2.2.2.2.2.2.2.2.2.2.2.2.2.2.2.2.1, q12.2.1.2.2.2.2.2.2.2.2.2.2.2.2.2.2.2.2.2.2.2.2.2.2.2.2.2.2.2.2.1), q12.2.1.2.2.2.2.2.2.2.2.2.2.2.2.2.2.2.2.2.2.2.2.2.2.2.2.2.2.2.2.2.1), ()), ())
       else
        (bif b.1 == 8 then
         (S18 k a.1 a.2.1 a.2.2.1 a.2.2.2.1 a.2.2.2.2.1 a.2.2.2.2.2.1 a.2.2.2.2.2.2.1 a.2.2.2.2.2.2.2.1 a.2.2.2.2.2.2.2.2.1.1.1 a.2.2.2.2.2.2.2.2.1.1.2 a.2.2.2.2.2.2.2.2.1.2 a.2.2.2.2.2.2.2.2.2.1 a.2.2.2.2.2.2.2.2.2.2 b.1 b.2.1.1 b.2.1.2.1 b.2.1.2.2.1 b.2.1.2.2.2.1 b.2.1.2.2.2.2.1 b.2.1.2.2.2.2.2 b.2.2.1.1 b.2.2.1.2 b.2.2.2.1 b.2.2.2.2.1 b.2.2.2.2.2 ([] : List (PN Int 6)) 0 0 0 0).bind fun q14 =>
         (S23 k (q14.2.1.1, q14.2.1.2.1, q14.2.1.2.2.1, q14.2.1.2.2.2.1, q14.2.1.2.2.2.2.1, q14.2.1.2.2.2.2.2.1, q14.2.1.2.2.2.2.2.2.1, q14.2.1.2.2.2.2.2.2.2.1, ((q14.2.1.2.2.2.2.2.2.2.2.1, q14.2.1.2.2.2.2.2.2.2.2.2.1), q14.2.1.2.2.2.2.2.2.2.2.2.2.1), q14.2.1.2.2.2.2.2.2.2.2.2.2.2.1, q14.2.1.2.2.2.2.2.2.2.2.2.2.2.2.1)).bind fun q15 =>
         some ((q15.1.1, q14.2.1.2.2.2.2.2.2.2.2.2.2.2.2.2.2.2.2.2.2.2.2.2.2.2.2.2.1, (q14.2.1.2.2.2.2.2.2.2.2.2.2.2.2.2.2.2.2.2.2.2.2.2.2.2.2.2.2.1, (q14.2.1.2.2.2.2.2.2.2.2.2.2.2.2.2.2.2.2.2.2.2.2.2.2.2.2.2.2.2.1, q14.2.1.2.2.2.2.2.2.2.2.2.2.2.2.2.2.2.2.2.2.2.2.2.2.2.2.2.2.2.2.1), q14.2.1.2.2.2.2.2.2.2.2.2.2.2.2.2.2.2.2.2.2.2.2.2.2.2.2.2.2.2.2.2.1), ()), ())
        else
         (bif b.1 == 9 then
          (S19 k a.1 a.2.1 a.2.2.1 a.2.2.2.1 a.2.2.2.2.1 a.2.2.2.2.2.1 a.2.2.2.2.2.2.1 a.2.2.2.2.2.2.2.1 a.2.2.2.2.2.2.2.2.1.1.1 a.2.2.2.2.2.2.2.2.1.1.2 a.2.2.2.2.2.2.2.2.1.2 a.2.2.2.2.2.2.2.2.2.1 a.2.2.2.2.2.2.2.2.2.2 b.1 b.2.1.1 b.2.1.2.1 b.2.1.2.2.1 b.2.1.2.2.2.1 b.2.1.2.2.2.2.1 b.2.1.2.2.2.2.2 b.2.2.1.1 b.2.2.1.2 b.2.2.2.1 b.2.2.2.2.1 b.2.2.2.2.2 ([] : List (PN Int 6)) 0 0 0 0).bind fun q16 =>
          (S23 k (q16.2.1.1, q16.2.1.2.1, q16.2.1.2.2.1, q16.2.1.2.2.2.1, q16.2.1.2.2.2.2.1, q16.2.1.2.2.2.2.2.1, q16.2.1.2.2.2.2.2.2.1, q16.2.1.2.2.2.2.2.2.2.1, ((q16.2.1.2.2.2.2.2.2.2.2.1, q16.2.1.2.2.2.2.2.2.2.2.2.1), q16.2.1.2.2.2.2.2.2.2.2.2.2.1), q16.2.1.2.2.2.2.2.2.2.2.2.2.2.1, q16.2.1.2.2.2.2.2.2.2.2.2.2.2.2.1)).bind fun q17 =>
          some ((q17.1.1, q16.2.1.2.2.2.2.2.2.2.2.2.2.2.2.2.2.2.2.2.2.2.2.2.2.2.2.2.1, (q16.2.1.2.2.2.2.2.2.2.2.2.2.2.2.2.2.2.2.2.2.2.2.2.2.2.2.2.2.1, (q16.2.1.2.2.2.2.2.2.2.2.2.2.2.2.2.2.2.2.2.2.2.2.2.2.2.2.2.2.2.1, q16.2.1.2.2.2.2.2.2.2.2.2.2.2.2.2.2.2.2.2.2.2.2.2.2.2.2.2.2.2.2.1), q16.2.1.2.2.2.2.2.2.2.2.2.2.2.2.2.2.2.2.2.2.2.2.2.2.2.2.2.2.2.2.2.1), ()), ())
         else
          (bif b.1 == 10 then
           (S20 k a.1 a.2.1 a.2.2.1 a.2.2.2.1 a.2.2.2.2.1 a.2.2.2.2.2.1 a.2.2.2.2.2.2.1 a.2.2.2.2.2.2.2.1 a.2.2.2.2.2.2.2.2.1.1.1 a.2.2.2.2.2.2.2.2.1.1.2 a.2.2.2.2.2.2.2.2.1.2 a.2.2.2.2.2.2.2.2.2.1 a.2.2.2.2.2.2.2.2.2.2 b.1 b.2.1.1 b.2.1.2.1 b.2.1.2.2.1 b.2.1.2.2.2.1 b.2.1.2.2.2.2.1 b.2.1.2.2.2.2.2 b.2.2.1.1 b.2.2.1.2 b.2.2.2.1 b.2.2.2.2.1 b.2.2.2.2.2 ([] : List (PN Int 6)) 0 0 0 0).bind fun q18 =>
           (S23 k (q18.2.1.1, q18.2.1.2.1, q18.2.1.2.2.1, q18.2.1.2.2.2.1, q18.2.1.2.2.2.2.1, q18.2.1.2.2.2.2.2.1, q18.2.1.2.2.2.2.2.2.1, q18.2.1.2.2.2.2.2.2.2.1, ((q18.2.1.2.2.2.2.2.2.2.2.1, q18.2.1.2.2.2.2.2.2.2.2.2.1), q18.2.1.2.2.2.2.2.2.2.2.2.2.1), q18.2.1.2.2.2.2.2.2.2.2.2.2.2.1, q18.2.1.2.2.2.2.2.2.2.2.2.2.2.2.1)).bind fun q19 =>
           some ((q19.1.1, q18.2.1.2.2.2.2.2.2.2.2.2.2.2.2.2.2.2.2.2.2.2.2.2.2.2.2.2.1, (q18.2.1.2.2.2.2.2.2.2.2.2.2.2.2.2.2.2.2.2.2.2.2.2.2.2.2.2.2.1, (q18.2.1.2.2.2.2.2.2.2.2.2.2.2.2.2.2.2.2.2.2.2.2.2.2.2.2.2.2.2.1, q18.2.1.2.2.2.2.2.2.2.2.2.2.2.2.2.2.2.2.2.2.2.2.2.2.2.2.2.2.2.2.1), q18.2.1.2.2.2.2.2.2.2.2.2.2.2.2.2.2.2.2.2.2.2.2.2.2.2.2.2.2.2.2.2.1), ()), ())
          else
           (bif b.1 == 11 then
            (S21 k a.1 a.2.1 a.2.2.1 a.2.2.2.1 a.2.2.2.2.1 a.2.2.2.2.2.1 a.2.2.2.2.2.2.1 a.2.2.2.2.2.2.2.1 a.2.2.2.2.2.2.2.2.1.1.1 a.2.2.2.2.2.2.2.2.1.1.2 a.2.2.2.2.2.2.2.2.1.2 a.2.2.2.2.2.2.2.2.2.1 a.2.2.2.2.2.2.2.2.2.2 b.1 b.2.1.1 b.2.1.2.1 b.2.1.2.2.1 b.2.1.2.2.2.1 b.2.1.2.2.2.2.1 b.2.1.2.2.2.2.2 b.2.2.1.1 b.2.2.1.2 b.2.2.2.1 b.2.2.2.2.1 b.2.2.2.2.2 ([] : List (PN Int 6)) 0 0 0 0).bind fun q20 =>
            (S23 k (q20.2.1.1, q20.2.1.2.1, q20.2.1.2.2.1, q20.2.1.2.2.2.1, q20.2.1.2.2.2.2.1, q20.2.1.2.2.2.2.2.1, q20.2.1.2.2.2.2.2.2.1, q20.2.1.2.2.2.2.2.2.2.1, ((q20.2.1.2.2.2.2.2.2.2.2.1, q20.2.1.2.2.2.2.2.2.2.2.2.1), q20.2.1.2.2.2.2.2.2.2.2.2.2.1), q20.2.1.2.2.2.2.2.2.2.2.2.2.2.1, q20.2.1.2.2.2.2.2.2.2.2.2.2.2.2.1)).bind fun q21 =>
            some ((q21.1.1, q20.2.1.2.2.2.2.2.2.2.2.2.2.2.2.2.2.2.2.2.2.2.2.2.2.2.2.2.1, (q20.2.1.2.2.2.2.2.2.2.2.2.2.2.2.2.2.2.2.2.2.2.2.2.2.2.2.2.2.1, (q20.2.1.2.2.2.2.2.2.2.2.2.2.2.2.2.2.2.2.2.2.2.2.2.2.2.2.2.2.2.1, q20.2.1.2.2.2.2.2.2.2.2.2.2.2.2.2.2.2.2.2.2.2.2.2.2.2.2.2.2.2.2.1), q20.2.1.2.2.2.2.2.2.2.2.2.2.2.2.2.2.2.2.2.2.2.2.2.2.2.2.2.2.2.2.2.1), ()), ())
           else
            (S22 k a.1 a.2.1 a.2.2.1 a.2.2.2.1 a.2.2.2.2.1 a.2.2.2.2.2.1 a.2.2.2.2.2.2.1 a.2.2.2.2.2.2.2.1 a.2.2.2.2.2.2.2.2.1.1.1 a.2.2.2.2.2.2.2.2.1.1.2 a.2.2.2.2.2.2.2.2.1.2 a.2.2.2.2.2.2.2.2.2.1 a.2.2.2.2.2.2.2.2.2.2 b.1 b.2.1.1 b.2.1.2.1 b.2.1.2.2.1 b.2.1.2.2.2.1 b.2.1.2.2.2.2.1 b.2.1.2.2.2.2.2 b.2.2.1.1 b.2.2.1.2 b.2.2.2.1 b.2.2.2.2.1 b.2.2.2.2.2 ([] : List (PN Int 6)) 0 0 0 0).bind fun q22 =>
            (S23 k (q22.2.1.1, q22.2.1.2.1, q22.2.1.2.2.1, q22.2.1.2.2.2.1, q22.2.1.2.2.2.2.1, q22.2.1.2.2.2.2.2.1, q22.2.1.2.2.2.2.2.2.1, q22.2.1.2.2.2.2.2.2.2.1, ((q22.2.1.2.2.2.2.2.2.2.2.1, q22.2.1.2.2.2.2.2.2.2.2.2.1), q22.2.1.2.2.2.2.2.2.2.2.2.2.1), q22.2.1.2.2.2.2.2.2.2.2.2.2.2.1, q22.2.1.2.2.2.2.2.2.2.2.2.2.2.2.1)).bind fun q23 =>
            some ((q23.1.1, q22.2.1.2.2.2.2.2.2.2.2.2.2.2.2.2.2.2.2.2.2.2.2.2.2.2.2.2.1, (q22.2.1.2.2.2.2.2.2.2.2.2.2.2.2.2.2.2.2.2.2.2.2.2.2.2.2.2.2.1, (q22.2.1.2.2.2.2.2.2.2.2.2.2.2.2.2.2.2.2.2.2.2.2.2.2.2.2.2.2.2.1, q22.2.1.2.2.2.2.2.2.2.2.2.2.2.2.2.2.2.2.2.2.2.2.2.2.2.2.2.2.2.2.1), q22.2.1.2.2.2.2.2.2.2.2.2.2.2.2.2.2.2.2.2.2.2.2.2.2.2.2.2.2.2.2.2.1), ()), ()))))))))))))
def F9 : Fn := ⟨[.val ⟨true, Y1_18, false⟩, .val ⟨true, (.pair (.int .i64) (.pair Y1_3 (.pair Y1_15 (.pair (.int .i64) Y1_25)))), false⟩], [.val ⟨true, Y1_18, true⟩, .val ⟨false, (.sl 58 Y1_27), true⟩, .val ⟨true, (.pair (.int .i64) (.pair Y1_15 (.int .i64))), true⟩], fun k x => S9 k x.1 x.2.1⟩
theorem ok9 : FnOK Tryz.prog 9 F9 := okF [(13, F13), (14, F14), (15, F15), (16, F16), (17, F17), (18, F18), (19, F19), (20, F20), (21, F21), (22, F22), (23, F23)] [(14, 2)] (fun k => .nil) ⟨ok13, ok14, ok15, ok16, ok17, ok18, ok19, ok20, ok21, ok22, ok23, trivial⟩ Tryz.func9 rfl
def S7 (k : Nat) : Option Y1_34 :=
 (S8 k 50).bind fun q0 =>
 (S9 k q0.1.1 (1, (1, 20, 20, ([(0, 0, 0, 0)] : List Y1_12), [], []), (0, 0), 0, 0, 0)).bind fun q1 =>
 (S9 k q1.1.1 (3, (0, 0, 0, [], [], []), (0, 0), 0, 0, 0)).bind fun q2 =>
 (S9 k q2.1.1 (5, (0, 0, 0, [], [], []), (0, 0), 0, 0, 0)).bind fun q3 =>
 (S9 k q3.1.1 (7, (0, 0, 0, [], [], []), q2.1.2.2.1.2.1, 0, 7, 0)).bind fun q4 =>
 (S9 k q4.1.1 (8, (0, 0, 0, [], [], []), q2.1.2.2.1.2.1, 1, 0, 0)).bind fun q5 =>
 (S9 k q5.1.1 (99, (0, 0, 0, [], [], []), (0, 0), 0, 0, 0)).bind fun q6 =>
 (bif q0.1.2.1 then
  (bif q1.1.2.2.1.1 == 0 then
   (bif q2.1.2.2.1.1 == 0 then
    (bif q3.1.2.2.1.1 == 0 then
     (bif q4.1.2.2.1.1 == 0 then
      (bif q5.1.2.2.1.1 == 0 then
       (bif q5.1.2.2.1.2.2 == 7 then
        (bif q6.1.2.2.1.1 == 1 then
         some ((q6.1.1.2.2.2.2.1, ()), ())
        else
         some ((false, ()), ()))
       else
        some ((false, ()), ()))
      else
       some ((false, ()), ()))
     else
      some ((false, ()), ()))
    else
     some ((false, ()), ()))
   else
    some ((false, ()), ()))
  else
   some ((false, ()), ()))
 else
  some ((false, ()), ()))
def F7 : Fn := ⟨[], [.val ⟨false, .bool, true⟩], fun k x => S7 k ⟩
theorem ok7 : FnOK Tryz.prog 7 F7 := okF [(8, F8), (9, F9)] [] (fun k => .nil) ⟨ok8, ok9, trivial⟩ Tryz.func7 rfl
def S48 (k : Nat) (a b : Int) (c : List Y1_7) (e : List (PN Int 5)) (f h i : Bool) (l : List Y1_2) (m : List Int) (n : List Bool) (o : List Y1_6) (p : List Int) (s : List Bool) (t : List (PN Int 6)) (u : PN Int 6) : Option Y1_16 :=
 ap t ([(a, u.2)] : List (PN Int 6)) 48 fun r0 =>
 some ((), (a, b, c, e, f, h, i, l, m, n, o, p, s, r0, ()), ())
def F48 : Fn := ⟨[.mbox 77 [cI, cI, .own 43 Y1_3, .own 117 Y1_28, .cell .bool, .cell .bool, .cell .bool, .cell Y1_47, .own 3 (.int .i64), .own 4 .bool, .own 97 Y1_5, .own 3 (.int .i64), .own 4 .bool, .own 58 Y1_27], .val ⟨true, Y1_27, false⟩], [], fun k x => S48 k x.1.1 x.1.2.1 x.1.2.2.1 x.1.2.2.2.1 x.1.2.2.2.2.1 x.1.2.2.2.2.2.1 x.1.2.2.2.2.2.2.1 x.1.2.2.2.2.2.2.2.1 x.1.2.2.2.2.2.2.2.2.1 x.1.2.2.2.2.2.2.2.2.2.1 x.1.2.2.2.2.2.2.2.2.2.2.1 x.1.2.2.2.2.2.2.2.2.2.2.2.1 x.1.2.2.2.2.2.2.2.2.2.2.2.2.1 x.1.2.2.2.2.2.2.2.2.2.2.2.2.2.1 x.2.1⟩
theorem ok48 : FnOK Tryz.prog 48 F48 := okF [] [] (fun k => .nil) trivial Tryz.func48 rfl
def S132 (k : Nat) (a : Y1_26) : Option Y1_52 := cloneSem 16 89 Y1_15 k (a, ())
def F132 : Fn := ⟨clonePs 89 Y1_15, cloneRs 89 Y1_15, cloneSem 16 89 Y1_15⟩
theorem ok132 : FnOK Tryz.prog 132 F132 := clone_ok E0_ok mix Tryz.func132 rfl (by kernel_rfl) (by kernel_rfl) (fun k => by kernel_rfl) (fun k xs => by kernel_rfl) (fun k xs => by kernel_rfl)
def S147 (k : Nat) (a : Y1_26) (b : Int) : Option Y1_34 :=
 (bif decide (b ≥ 0) then
  some ((decide (b < (a.length : Int)), ()), ())
 else
  some ((false, ()), ()))
def F147 : Fn := ⟨[.val ⟨false, Y1_43, false⟩, .val ⟨false, (.int .i64), false⟩], [.val ⟨false, .bool, true⟩], fun k x => S147 k x.1 x.2.1⟩
theorem ok147 : FnOK Tryz.prog 147 F147 := okF [] [] (fun k => .nil) trivial Tryz.func147 rfl
def S133 (k : Nat) (a : Y1_26) (b c : Int) : Option Y1_34 :=
 (S147 k a b).bind fun q0 =>
 (bif q0.1.1 then
  (bif decide (c ≥ 0) then
   ix a b <|
   some (((rd a b (0, 0)).2 == (IntKind.i64.wrap (c + 1)), ()), ())
  else
   some ((false, ()), ()))
 else
  some ((false, ()), ()))
def F133 : Fn := ⟨[.val ⟨false, Y1_43, false⟩, .val ⟨false, (.int .i64), false⟩, .val ⟨false, (.int .i64), false⟩], [.val ⟨false, .bool, true⟩], fun k x => S133 k x.1 x.2.1 x.2.2.1⟩
theorem ok133 : FnOK Tryz.prog 133 F133 := okF [(147, F147)] [] (fun k => .nil) ⟨ok147, trivial⟩ Tryz.func133 rfl
abbrev c92_L3 : Cut := ⟨[0, 1, 5, 10, 11], [.cell Y1_43, cI, .own 89 Y1_15, cI, cI], [], 24, []⟩
def l92_3 (k : Nat) (g3 : Y1_17 → Int → Y1_17 → Int → Int → Option Y1_52) (a : Y1_26) (b : Int) (c : Y1_26) (e f : Int) : Option Y1_52 :=
 (bif decide (f < e) then
  (S133 k a f b).bind fun q1 =>
  (bif q1.1.1 then
   ix c f <|
   g3 a b (upd c f ((rd c f (0, 0)).1, 0)) e (IntKind.i64.wrap (f + 1))
  else
   g3 a b c e (IntKind.i64.wrap (f + 1)))
 else
  some ((c, ()), ()))
def b92_3 (k : Nat) (g : ((Unit) × Y1_17 × Int × Y1_17 × Int × Int × Unit) → Option Y1_52) (d : (Unit) × Y1_17 × Int × Y1_17 × Int × Int × Unit) : Option Y1_52 := l92_3 k (fun a b c e f => g ((), a, b, c, e, f, ())) d.2.1 d.2.2.1 d.2.2.2.1 d.2.2.2.2.1 d.2.2.2.2.2.1
def L92_3 (k a : Nat) (b : Y1_26) (c : Int) (e : Y1_26) (f h : Int) : Option Y1_52 := iter (R := (Y1_17 × Unit) × Unit) c92_L3 (b92_3 k) a ((), b, c, e, f, h, ())
theorem L92_3_s (k a b c e f h) : L92_3 k (a + 1) b c e f h = l92_3 k (L92_3 k a) b c e f h := iter_succ _ _ _ _
def S92 (k : Nat) (a : Y1_26) (b : Int) : Option Y1_52 :=
 (S132 k a).bind fun q0 =>
 L92_3 k k a b q0.1.1 (q0.1.1.length : Int) 0
def F92 : Fn := ⟨[.val ⟨false, Y1_43, false⟩, .val ⟨false, (.int .i64), false⟩], [.val ⟨false, Y1_43, true⟩], fun k x => S92 k x.1 x.2.1⟩
theorem ok92 : FnOK Tryz.prog 92 F92 := okF [(132, F132), (133, F133)] [] (fun k => (.loop 3 c92_L3 (b92_3 k) (fun g => .nil) .nil)) ⟨ok132, ok133, trivial⟩ Tryz.func92 rfl
abbrev c72a_L1 : Cut := ⟨[0, 1, 11, 12, 13], [.pin false 0, .cell Y1_43, .own 3 (.int .i64), cI, cI], [.mbox 77 [cI, cI, .own 43 Y1_3, .own 117 Y1_28, .cell .bool, .cell .bool, .cell .bool, .cell Y1_47, .own 3 (.int .i64), .own 4 .bool, .own 97 Y1_5, .own 3 (.int .i64), .own 4 .bool, .own 58 Y1_27]], 55, []⟩
def l72a_1 (k : Nat) (g1 : Y1_35) (a b : Int) (c : List Y1_7) (e : List (PN Int 5)) (f h i : Bool) (l : List Y1_2) (m : List Int) (n : List Bool) (o : List Y1_6) (p : List Int) (s : List Bool) (t : List (PN Int 6)) (u : Y1_26) (v : List Int) (w y : Int) : Option Y1_16 :=
 (bif decide (y < w) then
  ix v y <|
  ix o (rd v y 0) <|
  (bif decide (y < (u.length : Int)) then
   ix u y <|
   (bif !(beqD Y1_15 (rd o (rd v y 0) (0, (0, 0), (0, 0), ([], []), (0, []), 0)).2.2.1 (rd u y (0, 0))) then
    ix u y <|
    (S37 k ((m, n), o) (rd v y 0) ((rd o (rd v y 0) (0, (0, 0), (0, 0), ([], []), (0, []), 0)).1, (rd o (rd v y 0) (0, (0, 0), (0, 0), ([], []), (0, []), 0)).2.1, rd u y (0, 0), (rd o (rd v y 0) (0, (0, 0), (0, 0), ([], []), (0, []), 0)).2.2.2)).bind fun q1 =>
    g1 a b c e f h i l q1.1.1.1.1 q1.1.1.1.2 q1.1.1.2 p s t u v w (IntKind.i64.wrap (y + 1))
   else
    g1 a b c e f h i l m n o p s t u v w (IntKind.i64.wrap (y + 1)))
  else
   g1 a b c e f h i l m n o p s t u v w (IntKind.i64.wrap (y + 1)))
 else
  some ((), (a, b, c, e, f, h, i, l, m, n, o, p, s, t, ()), ()))
def b72a_1 (k : Nat) (g : (Y1_54 × Unit × Y1_17 × (List Int) × Int × Int × Unit) → Option Y1_16) (d : Y1_54 × Unit × Y1_17 × (List Int) × Int × Int × Unit) : Option Y1_16 := l72a_1 k (fun a b c e f h i l m n o p s t u v w y => g (((a, b, c, e, f, h, i, l, m, n, o, p, s, t, ()), ()), (), u, v, w, y, ())) d.1.1.1 d.1.1.2.1 d.1.1.2.2.1 d.1.1.2.2.2.1 d.1.1.2.2.2.2.1 d.1.1.2.2.2.2.2.1 d.1.1.2.2.2.2.2.2.1 d.1.1.2.2.2.2.2.2.2.1 d.1.1.2.2.2.2.2.2.2.2.1 d.1.1.2.2.2.2.2.2.2.2.2.1 d.1.1.2.2.2.2.2.2.2.2.2.2.1 d.1.1.2.2.2.2.2.2.2.2.2.2.2.1 d.1.1.2.2.2.2.2.2.2.2.2.2.2.2.1 d.1.1.2.2.2.2.2.2.2.2.2.2.2.2.2.1 d.2.2.1 d.2.2.2.1 d.2.2.2.2.1 d.2.2.2.2.2.1
def L72a_1 (k a : Nat) (b c : Int) (e : List Y1_7) (f : List (PN Int 5)) (h i l : Bool) (m : List Y1_2) (n : List Int) (o : List Bool) (p : List Y1_6) (s : List Int) (t : List Bool) (u : List (PN Int 6)) (v : Y1_26) (w : List Int) (y z : Int) : Option Y1_16 := iter (R := (Unit) × Y1_0 × Unit) c72a_L1 (b72a_1 k) a (((b, c, e, f, h, i, l, m, n, o, p, s, t, u, ()), ()), (), v, w, y, z, ())
theorem L72a_1_s (k a b c e f h i l m n o p s t u v w y z) : L72a_1 k (a + 1) b c e f h i l m n o p s t u v w y z = l72a_1 k (L72a_1 k a) b c e f h i l m n o p s t u v w y z := iter_succ _ _ _ _
def S72a (k : Nat) (a b : Int) (c : List Y1_7) (e : List (PN Int 5)) (f h i : Bool) (l : List Y1_2) (m : List Int) (n : List Bool) (o : List Y1_6) (p : List Int) (s : List Bool) (t : List (PN Int 6)) (u : Y1_26) : Option Y1_16 :=
 (S52 k ((m, n), o)).bind fun q0 =>
 L72a_1 k k a b c e f h i l m n o p s t u q0.1.1 (q0.1.1.length : Int) 0
def F72a : Fn := ⟨[.mbox 77 [cI, cI, .own 43 Y1_3, .own 117 Y1_28, .cell .bool, .cell .bool, .cell .bool, .cell Y1_47, .own 3 (.int .i64), .own 4 .bool, .own 97 Y1_5, .own 3 (.int .i64), .own 4 .bool, .own 58 Y1_27], .val ⟨false, Y1_43, false⟩], [], fun k x => S72a k x.1.1 x.1.2.1 x.1.2.2.1 x.1.2.2.2.1 x.1.2.2.2.2.1 x.1.2.2.2.2.2.1 x.1.2.2.2.2.2.2.1 x.1.2.2.2.2.2.2.2.1 x.1.2.2.2.2.2.2.2.2.1 x.1.2.2.2.2.2.2.2.2.2.1 x.1.2.2.2.2.2.2.2.2.2.2.1 x.1.2.2.2.2.2.2.2.2.2.2.2.1 x.1.2.2.2.2.2.2.2.2.2.2.2.2.1 x.1.2.2.2.2.2.2.2.2.2.2.2.2.2.1 x.2.1⟩
theorem ok72a : FnOK Tryz.prog 72 F72a := okF [(37, F37), (52, F52)] [] (fun k => (.loop 1 c72a_L1 (b72a_1 k) (fun g => .nil) .nil)) ⟨ok37, ok52, trivial⟩ Tryz.func72 rfl
def S134 (k : Nat) (a : (List Int) × List Bool) (b : Int) : Option Y1_34 :=
 (bif decide (b ≥ 0) then
  some ((decide (b < (mn (a.1.length : Int) (a.2.length : Int))), ()), ())
 else
  some ((false, ()), ()))
def F134 : Fn := ⟨[.val ⟨true, (.pair Y1_13 Y1_37), false⟩, .val ⟨false, (.int .i64), false⟩], [.val ⟨false, .bool, true⟩], fun k x => S134 k x.1 x.2.1⟩
theorem ok134 : FnOK Tryz.prog 134 F134 := okF [] [] (fun k => .nil) trivial Tryz.func134 rfl
def S135 (k : Nat) (a : List Bool) (b : Bool) : Option Y1_34 :=
 (S113 k a b).bind fun q0 =>
 some ((decide (q0.1.1 ≥ 0), ()), ())
def F135 : Fn := ⟨[.val ⟨false, Y1_37, false⟩, .val ⟨false, .bool, false⟩], [.val ⟨false, .bool, true⟩], fun k x => S135 k x.1 x.2.1⟩
theorem ok135 : FnOK Tryz.prog 135 F135 := okF [(113, F113)] [] (fun k => .nil) ⟨ok113, trivial⟩ Tryz.func135 rfl
def S93 (k : Nat) (a : (List Int) × List Bool) (b : Int) : Option ((Y1_39 × Bool × Bool × Unit) × Unit) :=
 (S91 k a).bind fun q0 =>
 (S134 k a b).bind fun q1 =>
 (bif !q1.1.1 then
  some ((q0.1.1, false, false, ()), ())
 else
  ix q0.1.1.1 b <|
  ix q0.1.1.1 b <|
  ix (upd q0.1.1.1 b (IntKind.i64.wrap ((rd q0.1.1.1 b 0) + 1))) b <|
  (bif (rd (upd q0.1.1.1 b (IntKind.i64.wrap ((rd q0.1.1.1 b 0) + 1))) b 0) != 2 then
   some (((upd q0.1.1.1 b (IntKind.i64.wrap ((rd q0.1.1.1 b 0) + 1)), q0.1.1.2), false, false, ()), ())
  else
   ix q0.1.1.2 b <|
   (bif rd q0.1.1.2 b false then
    some (((upd q0.1.1.1 b (IntKind.i64.wrap ((rd q0.1.1.1 b 0) + 1)), q0.1.1.2), false, false, ()), ())
   else
    ix q0.1.1.2 b <|
    (S135 k (upd q0.1.1.2 b true) false).bind fun q2 =>
    some (((upd q0.1.1.1 b (IntKind.i64.wrap ((rd q0.1.1.1 b 0) + 1)), upd q0.1.1.2 b true), true, !q2.1.1, ()), ()))))
def F93 : Fn := ⟨[.val ⟨true, (.pair Y1_13 Y1_37), false⟩, .val ⟨false, (.int .i64), false⟩], [.val ⟨true, (.pair Y1_13 Y1_37), true⟩, .val ⟨false, .bool, true⟩, .val ⟨false, .bool, true⟩], fun k x => S93 k x.1 x.2.1⟩
theorem ok93 : FnOK Tryz.prog 93 F93 := okF [(91, F91), (134, F134), (135, F135)] [] (fun k => .nil) ⟨ok91, ok134, ok135, trivial⟩ Tryz.func93 rfl
abbrev c49_J7 : Cut := ⟨[0, 6], [.pin false 0, .cell .bool], [.mbox 77 [cI, cI, .own 43 Y1_3, .own 117 Y1_28, .cell .bool, .cell .bool, .cell .bool, .cell Y1_47, .own 3 (.int .i64), .own 4 .bool, .own 97 Y1_5, .own 3 (.int .i64), .own 4 .bool, .own 58 Y1_27]], 55, []⟩
def j49_7 (k : Nat) (a b : Int) (c : List Y1_7) (e : List (PN Int 5)) (f h i : Bool) (l : List Y1_2) (m : List Int) (n : List Bool) (o : List Y1_6) (p : List Int) (s : List Bool) (t : List (PN Int 6)) (u : Bool) : Option Y1_16 :=
 (bif u then
  (S48 k a b c e f h i l m n o p s t (0, 10, 0, 0, 0, 0)).bind fun q6 =>
  some ((), (q6.2.1.1, q6.2.1.2.1, q6.2.1.2.2.1, q6.2.1.2.2.2.1, q6.2.1.2.2.2.2.1, true, q6.2.1.2.2.2.2.2.2.1, q6.2.1.2.2.2.2.2.2.2.1, q6.2.1.2.2.2.2.2.2.2.2.1, q6.2.1.2.2.2.2.2.2.2.2.2.1, q6.2.1.2.2.2.2.2.2.2.2.2.2.1, q6.2.1.2.2.2.2.2.2.2.2.2.2.2.1, q6.2.1.2.2.2.2.2.2.2.2.2.2.2.2.1, q6.2.1.2.2.2.2.2.2.2.2.2.2.2.2.2.1, ()), ())
 else
  some ((), (a, b, c, e, f, h, i, l, m, n, o, p, s, t, ()), ()))
def S49 (k : Nat) (a b : Int) (c : List Y1_7) (e : List (PN Int 5)) (f h i : Bool) (l : List Y1_2) (m : List Int) (n : List Bool) (o : List Y1_6) (p : List Int) (s : List Bool) (t : List (PN Int 6)) (u : Y1_24) : Option Y1_16 :=
 (S48 k a b c e f h i l m n o p s t (0, 5, u.1, 0, 0, 0)).bind fun q0 =>
 (S54 k (q0.2.1.1, q0.2.1.2.1, q0.2.1.2.2.1, q0.2.1.2.2.2.1, q0.2.1.2.2.2.2.1, q0.2.1.2.2.2.2.2.1, q0.2.1.2.2.2.2.2.2.1, q0.2.1.2.2.2.2.2.2.2.1, ((q0.2.1.2.2.2.2.2.2.2.2.1, q0.2.1.2.2.2.2.2.2.2.2.2.1), q0.2.1.2.2.2.2.2.2.2.2.2.2.1), q0.2.1.2.2.2.2.2.2.2.2.2.2.2.1, q0.2.1.2.2.2.2.2.2.2.2.2.2.2.2.1)).bind fun q1 =>
 (S92 k q1.1.1 u.1).bind fun q2 =>
 (S72a k q0.2.1.1 q0.2.1.2.1 q0.2.1.2.2.1 q0.2.1.2.2.2.1 q0.2.1.2.2.2.2.1 q0.2.1.2.2.2.2.2.1 q0.2.1.2.2.2.2.2.2.1 q0.2.1.2.2.2.2.2.2.2.1 q0.2.1.2.2.2.2.2.2.2.2.1 q0.2.1.2.2.2.2.2.2.2.2.2.1 q0.2.1.2.2.2.2.2.2.2.2.2.2.1 q0.2.1.2.2.2.2.2.2.2.2.2.2.2.1 q0.2.1.2.2.2.2.2.2.2.2.2.2.2.2.1 q0.2.1.2.2.2.2.2.2.2.2.2.2.2.2.2.1 q2.1.1).bind fun q3 =>
 (S93 k (q3.2.1.2.2.2.2.2.2.2.2.2.2.2.1, q3.2.1.2.2.2.2.2.2.2.2.2.2.2.2.1) u.1).bind fun q4 =>
 (bif q4.1.2.1 then
  (S48 k q3.2.1.1 q3.2.1.2.1 q3.2.1.2.2.1 q3.2.1.2.2.2.1 q3.2.1.2.2.2.2.1 q3.2.1.2.2.2.2.2.1 q3.2.1.2.2.2.2.2.2.1 q3.2.1.2.2.2.2.2.2.2.1 q3.2.1.2.2.2.2.2.2.2.2.1 q3.2.1.2.2.2.2.2.2.2.2.2.1 q3.2.1.2.2.2.2.2.2.2.2.2.2.1 q4.1.1.1 q4.1.1.2 q3.2.1.2.2.2.2.2.2.2.2.2.2.2.2.2.1 (0, 9, u.1, 0, 0, 0)).bind fun q5 =>
  j49_7 k q5.2.1.1 q5.2.1.2.1 q5.2.1.2.2.1 q5.2.1.2.2.2.1 q5.2.1.2.2.2.2.1 q5.2.1.2.2.2.2.2.1 q5.2.1.2.2.2.2.2.2.1 q5.2.1.2.2.2.2.2.2.2.1 q5.2.1.2.2.2.2.2.2.2.2.1 q5.2.1.2.2.2.2.2.2.2.2.2.1 q5.2.1.2.2.2.2.2.2.2.2.2.2.1 q5.2.1.2.2.2.2.2.2.2.2.2.2.2.1 q5.2.1.2.2.2.2.2.2.2.2.2.2.2.2.1 q5.2.1.2.2.2.2.2.2.2.2.2.2.2.2.2.1 q4.1.2.2.1
 else
  j49_7 k q3.2.1.1 q3.2.1.2.1 q3.2.1.2.2.1 q3.2.1.2.2.2.1 q3.2.1.2.2.2.2.1 q3.2.1.2.2.2.2.2.1 q3.2.1.2.2.2.2.2.2.1 q3.2.1.2.2.2.2.2.2.2.1 q3.2.1.2.2.2.2.2.2.2.2.1 q3.2.1.2.2.2.2.2.2.2.2.2.1 q3.2.1.2.2.2.2.2.2.2.2.2.2.1 q4.1.1.1 q4.1.1.2 q3.2.1.2.2.2.2.2.2.2.2.2.2.2.2.2.1 q4.1.2.2.1)
def F49 : Fn := ⟨[.mbox 77 [cI, cI, .own 43 Y1_3, .own 117 Y1_28, .cell .bool, .cell .bool, .cell .bool, .cell Y1_47, .own 3 (.int .i64), .own 4 .bool, .own 97 Y1_5, .own 3 (.int .i64), .own 4 .bool, .own 58 Y1_27], .val ⟨true, Y1_1, false⟩], [], fun k x => S49 k x.1.1 x.1.2.1 x.1.2.2.1 x.1.2.2.2.1 x.1.2.2.2.2.1 x.1.2.2.2.2.2.1 x.1.2.2.2.2.2.2.1 x.1.2.2.2.2.2.2.2.1 x.1.2.2.2.2.2.2.2.2.1 x.1.2.2.2.2.2.2.2.2.2.1 x.1.2.2.2.2.2.2.2.2.2.2.1 x.1.2.2.2.2.2.2.2.2.2.2.2.1 x.1.2.2.2.2.2.2.2.2.2.2.2.2.1 x.1.2.2.2.2.2.2.2.2.2.2.2.2.2.1 x.2.1⟩
theorem ok49 : FnOK Tryz.prog 49 F49 := okF [(48, F48), (54, F54), (72, F72a), (92, F92), (93, F93)] [] (fun k => (.join 7 c49_J7 (fun d => j49_7 k d.1.1.1 d.1.1.2.1 d.1.1.2.2.1 d.1.1.2.2.2.1 d.1.1.2.2.2.2.1 d.1.1.2.2.2.2.2.1 d.1.1.2.2.2.2.2.2.1 d.1.1.2.2.2.2.2.2.2.1 d.1.1.2.2.2.2.2.2.2.2.1 d.1.1.2.2.2.2.2.2.2.2.2.1 d.1.1.2.2.2.2.2.2.2.2.2.2.1 d.1.1.2.2.2.2.2.2.2.2.2.2.2.1 d.1.1.2.2.2.2.2.2.2.2.2.2.2.2.1 d.1.1.2.2.2.2.2.2.2.2.2.2.2.2.2.1 d.2.2.1) .nil)) ⟨ok48, ok54, ok72a, ok92, ok93, trivial⟩ Tryz.func49 rfl
abbrev c25_L2 : Cut := ⟨[0, 2, 9, 10, 11], [.pin false 0, .own 124 Y1_1, .cell Y1_47, cI, cI], [.mbox 77 [cI, cI, .own 43 Y1_3, .own 117 Y1_28, .cell .bool, .cell .bool, .cell .bool, .cell Y1_47, .own 3 (.int .i64), .own 4 .bool, .own 97 Y1_5, .own 3 (.int .i64), .own 4 .bool, .own 58 Y1_27]], 57, []⟩
def l25_2 (k : Nat) (g2 : Int → Int → (List Y1_7) → (List (PN Int 5)) → Bool → Bool → Bool → (List Y1_2) → (List Int) → (List Bool) → (List Y1_6) → (List Int) → (List Bool) → (List (PN Int 6)) → (List Y1_2) → (List Y1_2) → Int → Int → Option Y1_16) (a b : Int) (c : List Y1_7) (e : List (PN Int 5)) (f h i : Bool) (l : List Y1_2) (m : List Int) (n : List Bool) (o : List Y1_6) (p : List Int) (s : List Bool) (t : List (PN Int 6)) (u v : List Y1_2) (w y : Int) : Option Y1_16 :=
 (bif decide (y < w) then
  ix v y <|
  ix c (rd v y (0, 0, 0, 0, (0, prep (α := Int) 8 0, [], false), (0, prep (α := Int) 8 0, [], false), [], false)).1 <|
  (bif (IntKind.i64.wrap (a - (rd v y (0, 0, 0, 0, (0, prep (α := Int) 8 0, [], false), (0, prep (α := Int) 8 0, [], false), [], false)).2.1)) != (rd c (rd v y (0, 0, 0, 0, (0, prep (α := Int) 8 0, [], false), (0, prep (α := Int) 8 0, [], false), [], false)).1 (0, 0, 0, [], [], [])).2.2.1 then
   ap u ([rd v y (0, 0, 0, 0, (0, prep (α := Int) 8 0, [], false), (0, prep (α := Int) 8 0, [], false), [], false)] : List Y1_2) 272 fun r0 =>
   g2 a b c e f h i l m n o p s t r0 v w (IntKind.i64.wrap (y + 1))
  else
   (bif (rd v y (0, 0, 0, 0, (0, prep (α := Int) 8 0, [], false), (0, prep (α := Int) 8 0, [], false), [], false)).2.2.2.1 == 2 then
    (S48 k a b c e f h i l m n o p s t (0, 13, (rd v y (0, 0, 0, 0, (0, prep (α := Int) 8 0, [], false), (0, prep (α := Int) 8 0, [], false), [], false)).1, 0, 0, 0)).bind fun q1 =>
    g2 q1.2.1.1 q1.2.1.2.1 q1.2.1.2.2.1 q1.2.1.2.2.2.1 q1.2.1.2.2.2.2.1 q1.2.1.2.2.2.2.2.1 q1.2.1.2.2.2.2.2.2.1 q1.2.1.2.2.2.2.2.2.2.1 q1.2.1.2.2.2.2.2.2.2.2.1 q1.2.1.2.2.2.2.2.2.2.2.2.1 q1.2.1.2.2.2.2.2.2.2.2.2.2.1 q1.2.1.2.2.2.2.2.2.2.2.2.2.2.1 q1.2.1.2.2.2.2.2.2.2.2.2.2.2.2.1 q1.2.1.2.2.2.2.2.2.2.2.2.2.2.2.2.1 u v w (IntKind.i64.wrap (y + 1))
   else
    (S49 k a b c e f h i l m n o p s t (rd v y (0, 0, 0, 0, (0, prep (α := Int) 8 0, [], false), (0, prep (α := Int) 8 0, [], false), [], false))).bind fun q2 =>
    g2 q2.2.1.1 q2.2.1.2.1 q2.2.1.2.2.1 q2.2.1.2.2.2.1 q2.2.1.2.2.2.2.1 q2.2.1.2.2.2.2.2.1 q2.2.1.2.2.2.2.2.2.1 q2.2.1.2.2.2.2.2.2.2.1 q2.2.1.2.2.2.2.2.2.2.2.1 q2.2.1.2.2.2.2.2.2.2.2.2.1 q2.2.1.2.2.2.2.2.2.2.2.2.2.1 q2.2.1.2.2.2.2.2.2.2.2.2.2.2.1 q2.2.1.2.2.2.2.2.2.2.2.2.2.2.2.1 q2.2.1.2.2.2.2.2.2.2.2.2.2.2.2.2.1 u v w (IntKind.i64.wrap (y + 1))))
 else
  some ((), (a, b, c, e, f, h, i, u, m, n, o, p, s, t, ()), ()))
def b25_2 (k : Nat) (g : (Y1_54 × Unit × (List Y1_2) × (List Y1_2) × Int × Int × Unit) → Option Y1_16) (d : Y1_54 × Unit × (List Y1_2) × (List Y1_2) × Int × Int × Unit) : Option Y1_16 := l25_2 k (fun a b c e f h i l m n o p s t u v w y => g (((a, b, c, e, f, h, i, l, m, n, o, p, s, t, ()), ()), (), u, v, w, y, ())) d.1.1.1 d.1.1.2.1 d.1.1.2.2.1 d.1.1.2.2.2.1 d.1.1.2.2.2.2.1 d.1.1.2.2.2.2.2.1 d.1.1.2.2.2.2.2.2.1 d.1.1.2.2.2.2.2.2.2.1 d.1.1.2.2.2.2.2.2.2.2.1 d.1.1.2.2.2.2.2.2.2.2.2.1 d.1.1.2.2.2.2.2.2.2.2.2.2.1 d.1.1.2.2.2.2.2.2.2.2.2.2.2.1 d.1.1.2.2.2.2.2.2.2.2.2.2.2.2.1 d.1.1.2.2.2.2.2.2.2.2.2.2.2.2.2.1 d.2.2.1 d.2.2.2.1 d.2.2.2.2.1 d.2.2.2.2.2.1
def L25_2 (k a : Nat) (b c : Int) (e : List Y1_7) (f : List (PN Int 5)) (h i l : Bool) (m : List Y1_2) (n : List Int) (o : List Bool) (p : List Y1_6) (s : List Int) (t : List Bool) (u : List (PN Int 6)) (v w : List Y1_2) (y z : Int) : Option Y1_16 := iter (R := (Unit) × Y1_0 × Unit) c25_L2 (b25_2 k) a (((b, c, e, f, h, i, l, m, n, o, p, s, t, u, ()), ()), (), v, w, y, z, ())
theorem L25_2_s (k a b c e f h i l m n o p s t u v w y z) : L25_2 k (a + 1) b c e f h i l m n o p s t u v w y z = l25_2 k (L25_2 k a) b c e f h i l m n o p s t u v w y z := iter_succ _ _ _ _
def S25 (k : Nat) (a b : Int) (c : List Y1_7) (e : List (PN Int 5)) (f h i : Bool) (l : List Y1_2) (m : List Int) (n : List Bool) (o : List Y1_6) (p : List Int) (s : List Bool) (t : List (PN Int 6)) : Option Y1_16 :=
 L25_2 k k a b c e f h i l m n o p s t ([] : List Y1_2) l (l.length : Int) 0
def F25 : Fn := ⟨[.mbox 77 [cI, cI, .own 43 Y1_3, .own 117 Y1_28, .cell .bool, .cell .bool, .cell .bool, .own 124 Y1_1, .own 3 (.int .i64), .own 4 .bool, .own 97 Y1_5, .own 3 (.int .i64), .own 4 .bool, .own 58 Y1_27]], [], fun k x => S25 k x.1.1 x.1.2.1 x.1.2.2.1 x.1.2.2.2.1 x.1.2.2.2.2.1 x.1.2.2.2.2.2.1 x.1.2.2.2.2.2.2.1 x.1.2.2.2.2.2.2.2.1 x.1.2.2.2.2.2.2.2.2.1 x.1.2.2.2.2.2.2.2.2.2.1 x.1.2.2.2.2.2.2.2.2.2.2.1 x.1.2.2.2.2.2.2.2.2.2.2.2.1 x.1.2.2.2.2.2.2.2.2.2.2.2.2.1 x.1.2.2.2.2.2.2.2.2.2.2.2.2.2.1⟩
theorem ok25 : FnOK Tryz.prog 25 F25 := okF [(48, F48), (49, F49)] [(2, 2)] (fun k => (.loop 2 c25_L2 (b25_2 k) (fun g => .nil) .nil)) ⟨ok48, ok49, trivial⟩ Tryz.func25 rfl
abbrev c26_L1 : Cut := ⟨[0, 9, 10], [.pin false 0, cI, cI], [.mbox 77 [cI, cI, .own 43 Y1_3, .own 117 Y1_28, .cell .bool, .cell .bool, .cell .bool, .own 124 Y1_1, .own 3 (.int .i64), .own 4 .bool, .own 97 Y1_5, .own 3 (.int .i64), .own 4 .bool, .own 58 Y1_27]], 48, [(8, 3)]⟩
def l26_1 (k : Nat) (g1 : Int → Int → (List Y1_7) → (List (PN Int 5)) → Bool → Bool → Bool → (List Y1_2) → (List Int) → (List Bool) → (List Y1_6) → (List Int) → (List Bool) → (List (PN Int 6)) → Int → Int → Option Y1_16) (a b : Int) (c : List Y1_7) (e : List (PN Int 5)) (f h i : Bool) (l : List Y1_2) (m : List Int) (n : List Bool) (o : List Y1_6) (p : List Int) (s : List Bool) (t : List (PN Int 6)) (u v : Int) : Option Y1_16 :=
 (bif decide (v < u) then
  ix l v <|
  (bif (rd l v (0, 0, 0, 0, (0, prep (α := Int) 8 0, [], false), (0, prep (α := Int) 8 0, [], false), [], false)).2.2.2.1 != 2 then
   ix e (rd l v (0, 0, 0, 0, (0, prep (α := Int) 8 0, [], false), (0, prep (α := Int) 8 0, [], false), [], false)).1 <|
   (bif decide ((IntKind.i64.wrap (a - (rd l v (0, 0, 0, 0, (0, prep (α := Int) 8 0, [], false), (0, prep (α := Int) 8 0, [], false), [], false)).2.1)) ≥ (rd e (rd l v (0, 0, 0, 0, (0, prep (α := Int) 8 0, [], false), (0, prep (α := Int) 8 0, [], false), [], false)).1 (prep (α := Int) 5 0)).2.2.2.2) then
    ix l v <|
    let r0 : List Y1_2 := upd l v ((rd l v (0, 0, 0, 0, (0, prep (α := Int) 8 0, [], false), (0, prep (α := Int) 8 0, [], false), [], false)).1, (rd l v (0, 0, 0, 0, (0, prep (α := Int) 8 0, [], false), (0, prep (α := Int) 8 0, [], false), [], false)).2.1, (rd l v (0, 0, 0, 0, (0, prep (α := Int) 8 0, [], false), (0, prep (α := Int) 8 0, [], false), [], false)).2.2.1, (rd l v (0, 0, 0, 0, (0, prep (α := Int) 8 0, [], false), (0, prep (α := Int) 8 0, [], false), [], false)).2.2.2.1, (rd l v (0, 0, 0, 0, (0, prep (α := Int) 8 0, [], false), (0, prep (α := Int) 8 0, [], false), [], false)).2.2.2.2.1, (rd l v (0, 0, 0, 0, (0, prep (α := Int) 8 0, [], false), (0, prep (α := Int) 8 0, [], false), [], false)).2.2.2.2.2.1, (rd l v (0, 0, 0, 0, (0, prep (α := Int) 8 0, [], false), (0, prep (α := Int) 8 0, [], false), [], false)).2.2.2.2.2.2.1, true)
    g1 a b c e f h i r0 m n o p s t u (IntKind.i64.wrap (v + 1))
   else
    g1 a b c e f h i l m n o p s t u (IntKind.i64.wrap (v + 1)))
  else
   g1 a b c e f h i l m n o p s t u (IntKind.i64.wrap (v + 1)))
 else
  some ((), (a, b, c, e, f, h, i, l, m, n, o, p, s, t, ()), ()))
def b26_1 (k : Nat) (g : (Y1_54 × Unit × Int × Int × Unit) → Option Y1_16) (d : Y1_54 × Unit × Int × Int × Unit) : Option Y1_16 := l26_1 k (fun a b c e f h i l m n o p s t u v => g (((a, b, c, e, f, h, i, l, m, n, o, p, s, t, ()), ()), (), u, v, ())) d.1.1.1 d.1.1.2.1 d.1.1.2.2.1 d.1.1.2.2.2.1 d.1.1.2.2.2.2.1 d.1.1.2.2.2.2.2.1 d.1.1.2.2.2.2.2.2.1 d.1.1.2.2.2.2.2.2.2.1 d.1.1.2.2.2.2.2.2.2.2.1 d.1.1.2.2.2.2.2.2.2.2.2.1 d.1.1.2.2.2.2.2.2.2.2.2.2.1 d.1.1.2.2.2.2.2.2.2.2.2.2.2.1 d.1.1.2.2.2.2.2.2.2.2.2.2.2.2.1 d.1.1.2.2.2.2.2.2.2.2.2.2.2.2.2.1 d.2.2.1 d.2.2.2.1
def L26_1 (k a : Nat) (b c : Int) (e : List Y1_7) (f : List (PN Int 5)) (h i l : Bool) (m : List Y1_2) (n : List Int) (o : List Bool) (p : List Y1_6) (s : List Int) (t : List Bool) (u : List (PN Int 6)) (v w : Int) : Option Y1_16 := iter (R := (Unit) × Y1_0 × Unit) c26_L1 (b26_1 k) a (((b, c, e, f, h, i, l, m, n, o, p, s, t, u, ()), ()), (), v, w, ())
theorem L26_1_s (k a b c e f h i l m n o p s t u v w) : L26_1 k (a + 1) b c e f h i l m n o p s t u v w = l26_1 k (L26_1 k a) b c e f h i l m n o p s t u v w := iter_succ _ _ _ _
def S26 (k : Nat) (a b : Int) (c : List Y1_7) (e : List (PN Int 5)) (f h i : Bool) (l : List Y1_2) (m : List Int) (n : List Bool) (o : List Y1_6) (p : List Int) (s : List Bool) (t : List (PN Int 6)) : Option Y1_16 :=
 L26_1 k k a b c e f h i l m n o p s t (l.length : Int) 0
def F26 : Fn := ⟨[.mbox 77 [cI, cI, .own 43 Y1_3, .own 117 Y1_28, .cell .bool, .cell .bool, .cell .bool, .own 124 Y1_1, .own 3 (.int .i64), .own 4 .bool, .own 97 Y1_5, .own 3 (.int .i64), .own 4 .bool, .own 58 Y1_27]], [], fun k x => S26 k x.1.1 x.1.2.1 x.1.2.2.1 x.1.2.2.2.1 x.1.2.2.2.2.1 x.1.2.2.2.2.2.1 x.1.2.2.2.2.2.2.1 x.1.2.2.2.2.2.2.2.1 x.1.2.2.2.2.2.2.2.2.1 x.1.2.2.2.2.2.2.2.2.2.1 x.1.2.2.2.2.2.2.2.2.2.2.1 x.1.2.2.2.2.2.2.2.2.2.2.2.1 x.1.2.2.2.2.2.2.2.2.2.2.2.2.1 x.1.2.2.2.2.2.2.2.2.2.2.2.2.2.1⟩
theorem ok26 : FnOK Tryz.prog 26 F26 := okF [] [] (fun k => (.loop 1 c26_L1 (b26_1 k) (fun g => .nil) .nil)) trivial Tryz.func26 rfl
abbrev c50_J9 : Cut := ⟨[1, 2, 3, 4, 5, 6, 7, 11, 12, 13], [.box 32 [.cell Y1_13, .cell Y1_37, .cell (.sl 97 Y1_5)], .box 32 [.own 3 (.int .i64), .own 4 .bool, .own 97 Y1_5], .own 3 (.int .i64), .own 26 Y1_13, cI, .box 97 [cI, cI, cI, cI, cI, .cell (.sl 2 (.int .i64)), .cell Y1_13, .cell (.int .u32), .cell (.sl 109 Y1_25), .cell (.int .u32)], .box 97 [cI, cI, cI, cI, cI, .own 2 (.int .i64), .own 3 (.int .i64), .cell (.int .u32), .own 109 Y1_25, .cell (.int .u32)], .cell (.sl 97 Y1_5), cI, cI], [], 61, []⟩
def j50_9 (k : Nat) (g3 : Y1_30) (a : List Int) (b : List Bool) (c : List Y1_6) (e : List Int) (f : List Bool) (h : List Y1_6) (i : List Int) (l : List (List Int)) (m x n o p s : Int) (t u : List Int) (v : Int) (w : Y1_26) (y z A B C D : Int) (G H : List Int) (I : Int) (J : Y1_26) (K : Int) (M : List Y1_6) (N O : Int) : Option Y1_19 :=
 (S66 k (z, (A, B), (C, D), (G, H), (I, J), K)).bind fun q4 =>
 ix h m <|
 ap i ([m] : List Int) 8 fun r5 =>
 (S86 k (x, (n, o), (p, s), (t, u), (v, w), y)).bind fun q6 =>
 ap l ([q6.1.1] : List (List Int)) 24 fun r7 =>
 g3 a b c e f (upd h m q4.1.1) r5 r7 M N (IntKind.i64.wrap (O + 1))
abbrev c50_L3 : Cut := ⟨[1, 2, 3, 4, 11, 12, 13], [.box 32 [.cell Y1_13, .cell Y1_37, .cell (.sl 97 Y1_5)], .box 32 [.own 3 (.int .i64), .own 4 .bool, .own 97 Y1_5], .own 3 (.int .i64), .own 26 Y1_13, .cell (.sl 97 Y1_5), cI, cI], [], 61, []⟩
def l50_3 (k : Nat) (g3 : Y1_30) (a : List Int) (b : List Bool) (c : List Y1_6) (e : List Int) (f : List Bool) (h : List Y1_6) (i : List Int) (l : List (List Int)) (m : List Y1_6) (n o : Int) : Option Y1_19 :=
 (bif decide (o < n) then
  ix m o <|
  (S78 k ((a, b), c) o).bind fun q1 =>
  (bif !q1.1.1 then
   g3 a b c e f h i l m n (IntKind.i64.wrap (o + 1))
  else
   (S80 k (rd m o (0, (0, 0), (0, 0), ([], []), (0, []), 0))).bind fun q2 =>
   (bif (rd m o (0, (0, 0), (0, 0), ([], []), (0, []), 0)).2.2.2.2.2 == q2.1.1 then
    g3 a b c e f h i l m n (IntKind.i64.wrap (o + 1))
   else
    (S67 k (rd m o (0, (0, 0), (0, 0), ([], []), (0, []), 0)).1 (rd m o (0, (0, 0), (0, 0), ([], []), (0, []), 0)).2.1).bind fun q3 =>
    (bif (rd m o (0, (0, 0), (0, 0), ([], []), (0, []), 0)).1 == 1 then
     j50_9 k g3 a b c e f h i l o (rd m o (0, (0, 0), (0, 0), ([], []), (0, []), 0)).1 (rd m o (0, (0, 0), (0, 0), ([], []), (0, []), 0)).2.1.1 (rd m o (0, (0, 0), (0, 0), ([], []), (0, []), 0)).2.1.2 (rd m o (0, (0, 0), (0, 0), ([], []), (0, []), 0)).2.2.1.1 (rd m o (0, (0, 0), (0, 0), ([], []), (0, []), 0)).2.2.1.2 (rd m o (0, (0, 0), (0, 0), ([], []), (0, []), 0)).2.2.2.1.1 (rd m o (0, (0, 0), (0, 0), ([], []), (0, []), 0)).2.2.2.1.2 (rd m o (0, (0, 0), (0, 0), ([], []), (0, []), 0)).2.2.2.2.1.1 (rd m o (0, (0, 0), (0, 0), ([], []), (0, []), 0)).2.2.2.2.1.2 (rd m o (0, (0, 0), (0, 0), ([], []), (0, []), 0)).2.2.2.2.2 q3.1.1.1 q3.1.1.2.1.1 q3.1.1.2.1.2 (rd m o (0, (0, 0), (0, 0), ([], []), (0, []), 0)).2.2.1.1 q3.1.1.2.2.1.2 q3.1.1.2.2.2.1.1 q3.1.1.2.2.2.1.2 q3.1.1.2.2.2.2.1.1 q3.1.1.2.2.2.2.1.2 q3.1.1.2.2.2.2.2 m n o
    else
     j50_9 k g3 a b c e f h i l o (rd m o (0, (0, 0), (0, 0), ([], []), (0, []), 0)).1 (rd m o (0, (0, 0), (0, 0), ([], []), (0, []), 0)).2.1.1 (rd m o (0, (0, 0), (0, 0), ([], []), (0, []), 0)).2.1.2 (rd m o (0, (0, 0), (0, 0), ([], []), (0, []), 0)).2.2.1.1 (rd m o (0, (0, 0), (0, 0), ([], []), (0, []), 0)).2.2.1.2 (rd m o (0, (0, 0), (0, 0), ([], []), (0, []), 0)).2.2.2.1.1 (rd m o (0, (0, 0), (0, 0), ([], []), (0, []), 0)).2.2.2.1.2 (rd m o (0, (0, 0), (0, 0), ([], []), (0, []), 0)).2.2.2.2.1.1 (rd m o (0, (0, 0), (0, 0), ([], []), (0, []), 0)).2.2.2.2.1.2 (rd m o (0, (0, 0), (0, 0), ([], []), (0, []), 0)).2.2.2.2.2 q3.1.1.1 q3.1.1.2.1.1 q3.1.1.2.1.2 q3.1.1.2.2.1.1 q3.1.1.2.2.1.2 q3.1.1.2.2.2.1.1 q3.1.1.2.2.2.1.2 q3.1.1.2.2.2.2.1.1 q3.1.1.2.2.2.2.1.2 q3.1.1.2.2.2.2.2 m n o)))
 else
  some ((((e, f), h), i, l, ()), ()))
def b50_3 (k : Nat) (g : ((Unit) × Y1_50 × Y1_50 × (List Int) × Y1_36 × (List Y1_6) × Int × Int × Unit) → Option Y1_19) (d : (Unit) × Y1_50 × Y1_50 × (List Int) × Y1_36 × (List Y1_6) × Int × Int × Unit) : Option Y1_19 := l50_3 k (fun a b c e f h i l m n o => g ((), (a, b, c, ()), (e, f, h, ()), i, l, m, n, o, ())) d.2.1.1 d.2.1.2.1 d.2.1.2.2.1 d.2.2.1.1 d.2.2.1.2.1 d.2.2.1.2.2.1 d.2.2.2.1 d.2.2.2.2.1 d.2.2.2.2.2.1 d.2.2.2.2.2.2.1 d.2.2.2.2.2.2.2.1
def L50_3 (k a : Nat) (b : List Int) (c : List Bool) (e : List Y1_6) (f : List Int) (h : List Bool) (i : List Y1_6) (l : List Int) (m : List (List Int)) (n : List Y1_6) (o p : Int) : Option Y1_19 := iter (R := ((Y1_39 × List Y1_6) × (List Int) × Y1_36 × Unit) × Unit) c50_L3 (b50_3 k) a ((), (b, c, e, ()), (f, h, i, ()), l, m, n, o, p, ())
theorem L50_3_s (k a b c e f h i l m n o p) : L50_3 k (a + 1) b c e f h i l m n o p = l50_3 k (L50_3 k a) b c e f h i l m n o p := iter_succ _ _ _ _
def S50 (k : Nat) (a : Y1_39 × List Y1_6) : Option Y1_19 :=
 (S64 k a).bind fun q0 =>
 L50_3 k k a.1.1 a.1.2 a.2 q0.1.1.1.1 q0.1.1.1.2 q0.1.1.2 ([] : List Int) ([] : List (List Int)) a.2 (a.2.length : Int) 0
def F50 : Fn := ⟨[.val ⟨true, Y1_53, false⟩], [.val ⟨true, Y1_53, true⟩, .val ⟨false, Y1_13, true⟩, .val ⟨false, (.sl 26 Y1_13), true⟩], fun k x => S50 k x.1⟩
theorem ok50 : FnOK Tryz.prog 50 F50 := okF [(64, F64), (66, F66), (67, F67), (78, F78), (80, F80), (86, F86)] [(3, 2), (4, 2)] (fun k => (.loop 3 c50_L3 (b50_3 k) (fun g => (fun (g3 : Y1_30) => (.join 9 c50_J9 (fun d => j50_9 k g3 d.2.1.1 d.2.1.2.1 d.2.1.2.2.1 d.2.2.1.1 d.2.2.1.2.1 d.2.2.1.2.2.1 d.2.2.2.1 d.2.2.2.2.1 d.2.2.2.2.2.1 d.2.2.2.2.2.2.1.1 d.2.2.2.2.2.2.1.2.1 d.2.2.2.2.2.2.1.2.2.1 d.2.2.2.2.2.2.1.2.2.2.1 d.2.2.2.2.2.2.1.2.2.2.2.1 d.2.2.2.2.2.2.1.2.2.2.2.2.1 d.2.2.2.2.2.2.1.2.2.2.2.2.2.1 d.2.2.2.2.2.2.1.2.2.2.2.2.2.2.1 d.2.2.2.2.2.2.1.2.2.2.2.2.2.2.2.1 d.2.2.2.2.2.2.1.2.2.2.2.2.2.2.2.2.1 d.2.2.2.2.2.2.2.1.1 d.2.2.2.2.2.2.2.1.2.1 d.2.2.2.2.2.2.2.1.2.2.1 d.2.2.2.2.2.2.2.1.2.2.2.1 d.2.2.2.2.2.2.2.1.2.2.2.2.1 d.2.2.2.2.2.2.2.1.2.2.2.2.2.1 d.2.2.2.2.2.2.2.1.2.2.2.2.2.2.1 d.2.2.2.2.2.2.2.1.2.2.2.2.2.2.2.1 d.2.2.2.2.2.2.2.1.2.2.2.2.2.2.2.2.1 d.2.2.2.2.2.2.2.1.2.2.2.2.2.2.2.2.2.1 d.2.2.2.2.2.2.2.2.1 d.2.2.2.2.2.2.2.2.2.1 d.2.2.2.2.2.2.2.2.2.2.1) .nil)) (fun t1 t2 t3 out out1 out2 places who t11 t12 t13 => g ((), (t1, t2, t3, ()), (out, out1, out2, ()), places, who, t11, t12, t13, ()))) .nil)) ⟨ok64, ok66, ok67, ok78, ok80, ok86, trivial⟩ Tryz.func50 rfl
def S48a (k : Nat) (a b : Int) (c : List Y1_7) (e : List (PN Int 5)) (f h i : Bool) (l : List Y1_2) (m : List Int) (n : List Bool) (o : List Y1_6) (p : List Int) (s : List Bool) (t : List (PN Int 6)) (u : PN Int 6) : Option Y1_16 :=
 ap t ([(a, u.2)] : List (PN Int 6)) 48 fun r0 =>
 some ((), (a, b, c, e, f, h, i, l, m, n, o, p, s, r0, ()), ())
def F48a : Fn := ⟨[.mbox 77 [cI, cI, .own 43 Y1_3, .own 117 Y1_28, .cell .bool, .cell .bool, .cell .bool, .own 124 Y1_1, .own 3 (.int .i64), .own 4 .bool, .own 97 Y1_5, .own 3 (.int .i64), .own 4 .bool, .own 58 Y1_27], .val ⟨true, Y1_27, false⟩], [], fun k x => S48a k x.1.1 x.1.2.1 x.1.2.2.1 x.1.2.2.2.1 x.1.2.2.2.2.1 x.1.2.2.2.2.2.1 x.1.2.2.2.2.2.2.1 x.1.2.2.2.2.2.2.2.1 x.1.2.2.2.2.2.2.2.2.1 x.1.2.2.2.2.2.2.2.2.2.1 x.1.2.2.2.2.2.2.2.2.2.2.1 x.1.2.2.2.2.2.2.2.2.2.2.2.1 x.1.2.2.2.2.2.2.2.2.2.2.2.2.1 x.1.2.2.2.2.2.2.2.2.2.2.2.2.2.1 x.2.1⟩
theorem ok48a : FnOK Tryz.prog 48 F48a := okF [] [] (fun k => .nil) trivial Tryz.func48 rfl
abbrev c27_L14 : Cut := ⟨[0, 4, 9, 27, 28, 29, 67, 68], [.pin false 0, .own 26 Y1_13, cI, .own 3 (.int .i64), cI, cI, cI, cI], [.mbox 77 [cI, cI, .own 43 Y1_3, .own 117 Y1_28, .cell .bool, .cell .bool, .cell .bool, .own 124 Y1_1, .own 3 (.int .i64), .own 4 .bool, .own 97 Y1_5, .own 3 (.int .i64), .own 4 .bool, .own 58 Y1_27]], 85, [(66, 3)]⟩
def l27_14 (k : Nat) (g3 : Y1_9) (g14 : Int → Int → (List Y1_7) → (List (PN Int 5)) → Bool → Bool → Bool → (List Y1_2) → (List Int) → (List Bool) → (List Y1_6) → (List Int) → (List Bool) → (List (PN Int 6)) → Y1_36 → Int → (List Int) → Int → Int → Int → Int → Option Y1_16) (a b : Int) (c : List Y1_7) (e : List (PN Int 5)) (f h i : Bool) (l : List Y1_2) (m : List Int) (n : List Bool) (o : List Y1_6) (p : List Int) (s : List Bool) (t : List (PN Int 6)) (u : List (List Int)) (v : Int) (w : List Int) (y z A B : Int) : Option Y1_16 :=
 (bif decide (B < A) then
  ix l B <|
  (S46 k (rd l B (0, 0, 0, 0, (0, prep (α := Int) 8 0, [], false), (0, prep (α := Int) 8 0, [], false), [], false)) v).bind fun q5 =>
  ix l B <|
  g14 a b c e f h i (upd l B q5.1.1) m n o p s t u v w y z A (IntKind.i64.wrap (B + 1))
 else
  g3 a b c e f h i l m n o p s t u w y (IntKind.i64.wrap (z + 1)))
def b27_14 (k : Nat) (g3 : Y1_9) (g : (Y1_54 × Unit × Y1_36 × Int × (List Int) × Int × Int × Int × Int × Unit) → Option Y1_16) (d : Y1_54 × Unit × Y1_36 × Int × (List Int) × Int × Int × Int × Int × Unit) : Option Y1_16 := l27_14 k g3 (fun a b c e f h i l m n o p s t u v w y z A B => g (((a, b, c, e, f, h, i, l, m, n, o, p, s, t, ()), ()), (), u, v, w, y, z, A, B, ())) d.1.1.1 d.1.1.2.1 d.1.1.2.2.1 d.1.1.2.2.2.1 d.1.1.2.2.2.2.1 d.1.1.2.2.2.2.2.1 d.1.1.2.2.2.2.2.2.1 d.1.1.2.2.2.2.2.2.2.1 d.1.1.2.2.2.2.2.2.2.2.1 d.1.1.2.2.2.2.2.2.2.2.2.1 d.1.1.2.2.2.2.2.2.2.2.2.2.1 d.1.1.2.2.2.2.2.2.2.2.2.2.2.1 d.1.1.2.2.2.2.2.2.2.2.2.2.2.2.1 d.1.1.2.2.2.2.2.2.2.2.2.2.2.2.2.1 d.2.2.1 d.2.2.2.1 d.2.2.2.2.1 d.2.2.2.2.2.1 d.2.2.2.2.2.2.1 d.2.2.2.2.2.2.2.1 d.2.2.2.2.2.2.2.2.1
def L27_14 (k : Nat) (g3 : Y1_9) (a : Nat) (b c : Int) (e : List Y1_7) (f : List (PN Int 5)) (h i l : Bool) (m : List Y1_2) (n : List Int) (o : List Bool) (p : List Y1_6) (s : List Int) (t : List Bool) (u : List (PN Int 6)) (v : List (List Int)) (w : Int) (y : List Int) (z A B C : Int) : Option Y1_16 := iter (R := (Unit) × Y1_0 × Unit) c27_L14 (b27_14 k g3) a (((b, c, e, f, h, i, l, m, n, o, p, s, t, u, ()), ()), (), v, w, y, z, A, B, C, ())
theorem L27_14_s (k g3 a b c e f h i l m n o p s t u v w y z A B C) : L27_14 k g3 (a + 1) b c e f h i l m n o p s t u v w y z A B C = l27_14 k g3 (L27_14 k g3 a) b c e f h i l m n o p s t u v w y z A B C := iter_succ _ _ _ _
abbrev c27_L7 : Cut := ⟨[0, 4, 6, 27, 28, 29, 41, 42, 43], [.pin false 0, .own 26 Y1_13, cI, .own 3 (.int .i64), cI, cI, .cell Y1_13, cI, cI], [.mbox 77 [cI, cI, .own 43 Y1_3, .own 117 Y1_28, .cell .bool, .cell .bool, .cell .bool, .own 124 Y1_1, .own 3 (.int .i64), .own 4 .bool, .own 97 Y1_5, .own 3 (.int .i64), .own 4 .bool, .own 58 Y1_27]], 85, []⟩
def l27_7 (k : Nat) (g3 : Y1_9) (g7 : Int → Int → (List Y1_7) → (List (PN Int 5)) → Bool → Bool → Bool → (List Y1_2) → (List Int) → (List Bool) → (List Y1_6) → (List Int) → (List Bool) → (List (PN Int 6)) → Y1_36 → Int → (List Int) → Int → Int → (List Int) → Int → Int → Option Y1_16) (a b : Int) (c : List Y1_7) (e : List (PN Int 5)) (f h i : Bool) (l : List Y1_2) (m : List Int) (n : List Bool) (o : List Y1_6) (p : List Int) (s : List Bool) (t : List (PN Int 6)) (u : List (List Int)) (v : Int) (w : List Int) (y z : Int) (A : List Int) (B C : Int) : Option Y1_16 :=
 (bif decide (C < B) then
  ix A C <|
  (S48a k a b c e f h i l m n o p s t (0, 12, 0, rd A C 0, 0, 15)).bind fun q2 =>
  g7 q2.2.1.1 q2.2.1.2.1 q2.2.1.2.2.1 q2.2.1.2.2.2.1 q2.2.1.2.2.2.2.1 q2.2.1.2.2.2.2.2.1 q2.2.1.2.2.2.2.2.2.1 q2.2.1.2.2.2.2.2.2.2.1 q2.2.1.2.2.2.2.2.2.2.2.1 q2.2.1.2.2.2.2.2.2.2.2.2.1 q2.2.1.2.2.2.2.2.2.2.2.2.2.1 q2.2.1.2.2.2.2.2.2.2.2.2.2.2.1 q2.2.1.2.2.2.2.2.2.2.2.2.2.2.2.1 q2.2.1.2.2.2.2.2.2.2.2.2.2.2.2.2.1 u v w y z A B (IntKind.i64.wrap (C + 1))
 else
  (S52 k ((m, n), o)).bind fun q3 =>
  (S51 k q3.1.1 v).bind fun q4 =>
  (bif decide (q4.1.1 ≥ 0) then
   L27_14 k g3 k a b c e f h i l m n o p s t u q4.1.1 w y z (l.length : Int) 0
  else
   g3 a b c e f h i l m n o p s t u w y (IntKind.i64.wrap (z + 1))))
def b27_7 (k : Nat) (g3 : Y1_9) (g : (Y1_54 × Unit × Y1_36 × Int × (List Int) × Int × Int × (List Int) × Int × Int × Unit) → Option Y1_16) (d : Y1_54 × Unit × Y1_36 × Int × (List Int) × Int × Int × (List Int) × Int × Int × Unit) : Option Y1_16 := l27_7 k g3 (fun a b c e f h i l m n o p s t u v w y z A B C => g (((a, b, c, e, f, h, i, l, m, n, o, p, s, t, ()), ()), (), u, v, w, y, z, A, B, C, ())) d.1.1.1 d.1.1.2.1 d.1.1.2.2.1 d.1.1.2.2.2.1 d.1.1.2.2.2.2.1 d.1.1.2.2.2.2.2.1 d.1.1.2.2.2.2.2.2.1 d.1.1.2.2.2.2.2.2.2.1 d.1.1.2.2.2.2.2.2.2.2.1 d.1.1.2.2.2.2.2.2.2.2.2.1 d.1.1.2.2.2.2.2.2.2.2.2.2.1 d.1.1.2.2.2.2.2.2.2.2.2.2.2.1 d.1.1.2.2.2.2.2.2.2.2.2.2.2.2.1 d.1.1.2.2.2.2.2.2.2.2.2.2.2.2.2.1 d.2.2.1 d.2.2.2.1 d.2.2.2.2.1 d.2.2.2.2.2.1 d.2.2.2.2.2.2.1 d.2.2.2.2.2.2.2.1 d.2.2.2.2.2.2.2.2.1 d.2.2.2.2.2.2.2.2.2.1
def L27_7 (k : Nat) (g3 : Y1_9) (a : Nat) (b c : Int) (e : List Y1_7) (f : List (PN Int 5)) (h i l : Bool) (m : List Y1_2) (n : List Int) (o : List Bool) (p : List Y1_6) (s : List Int) (t : List Bool) (u : List (PN Int 6)) (v : List (List Int)) (w : Int) (y : List Int) (z A : Int) (B : List Int) (C D : Int) : Option Y1_16 := iter (R := (Unit) × Y1_0 × Unit) c27_L7 (b27_7 k g3) a (((b, c, e, f, h, i, l, m, n, o, p, s, t, u, ()), ()), (), v, w, y, z, A, B, C, D, ())
theorem L27_7_s (k g3 a b c e f h i l m n o p s t u v w y z A B C D) : L27_7 k g3 (a + 1) b c e f h i l m n o p s t u v w y z A B C D = l27_7 k g3 (L27_7 k g3 a) b c e f h i l m n o p s t u v w y z A B C D := iter_succ _ _ _ _
abbrev c27_L3 : Cut := ⟨[0, 4, 27, 28, 29], [.pin false 0, .own 26 Y1_13, .own 3 (.int .i64), cI, cI], [.mbox 77 [cI, cI, .own 43 Y1_3, .own 117 Y1_28, .cell .bool, .cell .bool, .cell .bool, .own 124 Y1_1, .own 3 (.int .i64), .own 4 .bool, .own 97 Y1_5, .own 3 (.int .i64), .own 4 .bool, .own 58 Y1_27]], 85, []⟩
def l27_3 (k : Nat) (g3 : Y1_9) (a b : Int) (c : List Y1_7) (e : List (PN Int 5)) (f h i : Bool) (l : List Y1_2) (m : List Int) (n : List Bool) (o : List Y1_6) (p : List Int) (s : List Bool) (t : List (PN Int 6)) (u : List (List Int)) (v : List Int) (w y : Int) : Option Y1_16 :=
 (bif decide (y < w) then
  ix v y <|
  (S48a k a b c e f h i l m n o p s t (0, 11, 0, rd v y 0, 0, 0)).bind fun q1 =>
  ix u y <|
  L27_7 k g3 k q1.2.1.1 q1.2.1.2.1 q1.2.1.2.2.1 q1.2.1.2.2.2.1 q1.2.1.2.2.2.2.1 q1.2.1.2.2.2.2.2.1 q1.2.1.2.2.2.2.2.2.1 q1.2.1.2.2.2.2.2.2.2.1 q1.2.1.2.2.2.2.2.2.2.2.1 q1.2.1.2.2.2.2.2.2.2.2.2.1 q1.2.1.2.2.2.2.2.2.2.2.2.2.1 q1.2.1.2.2.2.2.2.2.2.2.2.2.2.1 q1.2.1.2.2.2.2.2.2.2.2.2.2.2.2.1 q1.2.1.2.2.2.2.2.2.2.2.2.2.2.2.2.1 u (rd v y 0) v w y (rd u y []) ((rd u y []).length : Int) 0
 else
  some ((), (a, b, c, e, f, h, i, l, m, n, o, p, s, t, ()), ()))
def b27_3 (k : Nat) (g : (Y1_54 × Unit × Y1_36 × (List Int) × Int × Int × Unit) → Option Y1_16) (d : Y1_54 × Unit × Y1_36 × (List Int) × Int × Int × Unit) : Option Y1_16 := l27_3 k (fun a b c e f h i l m n o p s t u v w y => g (((a, b, c, e, f, h, i, l, m, n, o, p, s, t, ()), ()), (), u, v, w, y, ())) d.1.1.1 d.1.1.2.1 d.1.1.2.2.1 d.1.1.2.2.2.1 d.1.1.2.2.2.2.1 d.1.1.2.2.2.2.2.1 d.1.1.2.2.2.2.2.2.1 d.1.1.2.2.2.2.2.2.2.1 d.1.1.2.2.2.2.2.2.2.2.1 d.1.1.2.2.2.2.2.2.2.2.2.1 d.1.1.2.2.2.2.2.2.2.2.2.2.1 d.1.1.2.2.2.2.2.2.2.2.2.2.2.1 d.1.1.2.2.2.2.2.2.2.2.2.2.2.2.1 d.1.1.2.2.2.2.2.2.2.2.2.2.2.2.2.1 d.2.2.1 d.2.2.2.1 d.2.2.2.2.1 d.2.2.2.2.2.1
def L27_3 (k a : Nat) (b c : Int) (e : List Y1_7) (f : List (PN Int 5)) (h i l : Bool) (m : List Y1_2) (n : List Int) (o : List Bool) (p : List Y1_6) (s : List Int) (t : List Bool) (u : List (PN Int 6)) (v : List (List Int)) (w : List Int) (y z : Int) : Option Y1_16 := iter (R := (Unit) × Y1_0 × Unit) c27_L3 (b27_3 k) a (((b, c, e, f, h, i, l, m, n, o, p, s, t, u, ()), ()), (), v, w, y, z, ())
theorem L27_3_s (k a b c e f h i l m n o p s t u v w y z) : L27_3 k (a + 1) b c e f h i l m n o p s t u v w y z = l27_3 k (L27_3 k a) b c e f h i l m n o p s t u v w y z := iter_succ _ _ _ _
def S27 (k : Nat) (a b : Int) (c : List Y1_7) (e : List (PN Int 5)) (f h i : Bool) (l : List Y1_2) (m : List Int) (n : List Bool) (o : List Y1_6) (p : List Int) (s : List Bool) (t : List (PN Int 6)) : Option Y1_16 :=
 (S50 k ((m, n), o)).bind fun q0 =>
 L27_3 k k a b c e f h i l q0.1.1.1.1 q0.1.1.1.2 q0.1.1.2 p s t q0.1.2.2.1 q0.1.2.1 (q0.1.2.1.length : Int) 0
def F27 : Fn := ⟨[.mbox 77 [cI, cI, .own 43 Y1_3, .own 117 Y1_28, .cell .bool, .cell .bool, .cell .bool, .own 124 Y1_1, .own 3 (.int .i64), .own 4 .bool, .own 97 Y1_5, .own 3 (.int .i64), .own 4 .bool, .own 58 Y1_27]], [], fun k x => S27 k x.1.1 x.1.2.1 x.1.2.2.1 x.1.2.2.2.1 x.1.2.2.2.2.1 x.1.2.2.2.2.2.1 x.1.2.2.2.2.2.2.1 x.1.2.2.2.2.2.2.2.1 x.1.2.2.2.2.2.2.2.2.1 x.1.2.2.2.2.2.2.2.2.2.1 x.1.2.2.2.2.2.2.2.2.2.2.1 x.1.2.2.2.2.2.2.2.2.2.2.2.1 x.1.2.2.2.2.2.2.2.2.2.2.2.2.1 x.1.2.2.2.2.2.2.2.2.2.2.2.2.2.1⟩
theorem ok27 : FnOK Tryz.prog 27 F27 := okF [(46, F46), (48, F48a), (50, F50), (51, F51), (52, F52)] [] (fun k => (.loop 3 c27_L3 (b27_3 k) (fun g => (fun (g3 : Y1_9) => (.loop 14 c27_L14 (b27_14 k g3) (fun g => .nil) (.loop 7 c27_L7 (b27_7 k g3) (fun g => .nil) .nil))) (fun t14 t15 t16 t17 t18 t19 t20 t21 t22 t23 t24 t25 t26 t27 who t27_1 t28 t29 => g (((t14, t15, t16, t17, t18, t19, t20, t21, t22, t23, t24, t25, t26, t27, ()), ()), (), who, t27_1, t28, t29, ()))) .nil)) ⟨ok46, ok48a, ok50, ok51, ok52, trivial⟩ Tryz.func27 rfl
abbrev c137_L3 : Cut := ⟨[0, 2, 6, 7, 8, 12, 13, 14], [.cell Y1_43, cI, cI, .cell .bool, .mp 274 true (.int .i64) false .bool, .cell Y1_13, cI, cI], [], 51, []⟩
def l137_3 (k : Nat) (g3 : Y1_17 → Int → Int → Bool → (List (Int × Bool)) → (List Int) → Int → Int → Option Y1_22) (a : Y1_26) (b c : Int) (e : Bool) (f : List (Int × Bool)) (h : List Int) (i l : Int) : Option Y1_22 :=
 (bif decide (l < i) then
  ix h l <|
  (S133 k a (rd h l 0) b).bind fun q0 =>
  (bif !q0.1.1 then
   g3 a b c e f h i (IntKind.i64.wrap (l + 1))
  else
   (bif mget (.int .i64) .bool (rd h l 0) f false then
    g3 a b c e f h i (IntKind.i64.wrap (l + 1))
   else
    (bif !e then
     ix a (rd h l 0) <|
     g3 a b (rd a (rd h l 0) (0, 0)).1 true (updD (.int .i64) .bool (rd h l 0) true f) h i (IntKind.i64.wrap (l + 1))
    else
     ix a (rd h l 0) <|
     (bif decide ((rd a (rd h l 0) (0, 0)).1 < c) then
      ix a (rd h l 0) <|
      g3 a b (rd a (rd h l 0) (0, 0)).1 true (updD (.int .i64) .bool (rd h l 0) true f) h i (IntKind.i64.wrap (l + 1))
     else
      g3 a b c e (updD (.int .i64) .bool (rd h l 0) true f) h i (IntKind.i64.wrap (l + 1))))))
 else
  some ((c, e, ()), ()))
def b137_3 (k : Nat) (g : ((Unit) × Y1_17 × Int × Int × Bool × (List (Int × Bool)) × (List Int) × Int × Int × Unit) → Option Y1_22) (d : (Unit) × Y1_17 × Int × Int × Bool × (List (Int × Bool)) × (List Int) × Int × Int × Unit) : Option Y1_22 := l137_3 k (fun a b c e f h i l => g ((), a, b, c, e, f, h, i, l, ())) d.2.1 d.2.2.1 d.2.2.2.1 d.2.2.2.2.1 d.2.2.2.2.2.1 d.2.2.2.2.2.2.1 d.2.2.2.2.2.2.2.1 d.2.2.2.2.2.2.2.2.1
def L137_3 (k a : Nat) (b : Y1_26) (c e : Int) (f : Bool) (h : List (Int × Bool)) (i : List Int) (l m : Int) : Option Y1_22 := iter (R := (Int × Bool × Unit) × Unit) c137_L3 (b137_3 k) a ((), b, c, e, f, h, i, l, m, ())
theorem L137_3_s (k a b c e f h i l m) : L137_3 k (a + 1) b c e f h i l m = l137_3 k (L137_3 k a) b c e f h i l m := iter_succ _ _ _ _
def S137 (k : Nat) (a : Y1_26) (b : List Int) (c : Int) : Option Y1_22 :=
 L137_3 k k a c 0 false ([] : List (Int × Bool)) b (b.length : Int) 0
def F137 : Fn := ⟨[.val ⟨false, Y1_43, false⟩, .val ⟨false, Y1_13, false⟩, .val ⟨false, (.int .i64), false⟩], [.val ⟨false, (.int .i64), true⟩, .val ⟨false, .bool, true⟩], fun k x => S137 k x.1 x.2.1 x.2.2.1⟩
theorem ok137 : FnOK Tryz.prog 137 F137 := okF [(133, F133)] [] (fun k => (.loop 3 c137_L3 (b137_3 k) (fun g => .nil) .nil)) ⟨ok133, trivial⟩ Tryz.func137 rfl
def S168 (k : Nat) (a : Y1_24) (b : Int) : Option Y1_23 :=
 (bif a.2.2.2.1 == 2 then
  some ((IntKind.i64.wrap ((IntKind.i64.wrap (b + b)) + a.1), ()), ())
 else
  (bif a.2.2.2.2.2.2.2 then
   some ((a.1, ()), ())
  else
   some ((IntKind.i64.wrap (b + a.1), ()), ())))
def F168 : Fn := ⟨[.val ⟨true, Y1_1, false⟩, .val ⟨false, (.int .i64), false⟩], [.val ⟨false, (.int .i64), true⟩], fun k x => S168 k x.1 x.2.1⟩
theorem ok168 : FnOK Tryz.prog 168 F168 := okF [] [] (fun k => .nil) trivial Tryz.func168 rfl
def S136 (k : Nat) (a : Y1_24) (b : Int) (c : Y1_26) : Option Y1_23 :=
 (S137 k c a.2.2.2.2.2.2.1 a.1).bind fun q0 =>
 (bif q0.1.2.1 then
  (S168 k a b).bind fun q1 =>
  some ((mn q1.1.1 q0.1.1, ()), ())
 else
  (S168 k a b).bind fun q2 =>
  some ((q2.1.1, ()), ()))
def F136 : Fn := ⟨[.val ⟨true, Y1_1, false⟩, .val ⟨false, (.int .i64), false⟩, .val ⟨false, Y1_43, false⟩], [.val ⟨false, (.int .i64), true⟩], fun k x => S136 k x.1 x.2.1 x.2.2.1⟩
theorem ok136 : FnOK Tryz.prog 136 F136 := okF [(137, F137), (168, F168)] [] (fun k => .nil) ⟨ok137, ok168, trivial⟩ Tryz.func136 rfl
def S94 (k : Nat) (a : Y1_24) (b : Int) (c : Y1_26) : Option ((Y1_20 × Unit) × Unit) :=
 (S136 k a b c).bind fun q0 =>
 (S137 k c a.2.2.2.2.2.2.1 a.1).bind fun q1 =>
 (bif q1.1.2.1 then
  some (((q0.1.1, 0, a.1), ()), ())
 else
  some (((q0.1.1, 1, a.1), ()), ()))
def F94 : Fn := ⟨[.val ⟨true, Y1_1, false⟩, .val ⟨false, (.int .i64), false⟩, .val ⟨false, Y1_43, false⟩], [.val ⟨true, Y1_8, true⟩], fun k x => S94 k x.1 x.2.1 x.2.2.1⟩
theorem ok94 : FnOK Tryz.prog 94 F94 := okF [(136, F136), (137, F137)] [] (fun k => .nil) ⟨ok136, ok137, trivial⟩ Tryz.func94 rfl
def S170 (k : Nat) (x : Int) : Option Y1_34 :=
 some ((x != x, ()), ())
def F170 : Fn := ⟨[.val ⟨false, (.int .i64), false⟩], [.val ⟨false, .bool, true⟩], fun k x => S170 k x.1⟩
theorem ok170 : FnOK Tryz.prog 170 F170 := okF [] [] (fun k => .nil) trivial Tryz.func170 rfl
def S141 (k : Nat) (x a : Int) : Option Y1_23 :=
 (S170 k x).bind fun q0 =>
 (S170 k a).bind fun q1 =>
 (bif q0.1.1 then
  (bif q1.1.1 then
   some ((0, ()), ())
  else
   some (((-1), ()), ()))
 else
  (bif q1.1.1 then
   some ((1, ()), ())
  else
   (bif decide (x < a) then
    some (((-1), ()), ())
   else
    (bif decide (x > a) then
     some ((1, ()), ())
    else
     some ((0, ()), ())))))
def F141 : Fn := ⟨[.val ⟨false, (.int .i64), false⟩, .val ⟨false, (.int .i64), false⟩], [.val ⟨false, (.int .i64), true⟩], fun k x => S141 k x.1 x.2.1⟩
theorem ok141 : FnOK Tryz.prog 141 F141 := okF [(170, F170)] [] (fun k => .nil) ⟨ok170, trivial⟩ Tryz.func141 rfl
abbrev c140_L3 : Cut := ⟨[3, 6, 7, 8], [cI, .cell Y1_13, cI, cI], [], 18, []⟩
def l140_3 (k : Nat) (g3 : Int → (List Int) → Int → Int → Option Y1_23) (a : Int) (b : List Int) (c e : Int) : Option Y1_23 :=
 (bif decide (e < c) then
  ix b e <|
  (bif (rd b e 0) != a then
   some ((rd b e 0, ()), ())
  else
   g3 a b c (IntKind.i64.wrap (e + 1)))
 else
  some ((a, ()), ()))
def b140_3 (k : Nat) (g : ((Unit) × Int × (List Int) × Int × Int × Unit) → Option Y1_23) (d : (Unit) × Int × (List Int) × Int × Int × Unit) : Option Y1_23 := l140_3 k (fun a b c e => g ((), a, b, c, e, ())) d.2.1 d.2.2.1 d.2.2.2.1 d.2.2.2.2.1
def L140_3 (k a : Nat) (b : Int) (c : List Int) (e f : Int) : Option Y1_23 := iter (R := (Int × Unit) × Unit) c140_L3 (b140_3 k) a ((), b, c, e, f, ())
theorem L140_3_s (k a b c e f) : L140_3 k (a + 1) b c e f = l140_3 k (L140_3 k a) b c e f := iter_succ _ _ _ _
def S140 (k : Nat) (a : List Int) : Option Y1_23 :=
 L140_3 k k 0 a (a.length : Int) 0
def F140 : Fn := ⟨[.val ⟨false, Y1_13, false⟩], [.val ⟨false, (.int .i64), true⟩], fun k x => S140 k x.1⟩
theorem ok140 : FnOK Tryz.prog 140 F140 := okF [] [] (fun k => (.loop 3 c140_L3 (b140_3 k) (fun g => .nil) .nil)) trivial Tryz.func140 rfl
def S96 (k : Nat) (a b : Int × Int × Int) : Option Y1_23 :=
 (S141 k a.1 b.1).bind fun q0 =>
 (S141 k a.2.1 b.2.1).bind fun q1 =>
 (S141 k a.2.2 b.2.2).bind fun q2 =>
 (S140 k ([q0.1.1, q1.1.1, q2.1.1] : List Int)).bind fun q3 =>
 some ((q3.1.1, ()), ())
def F96 : Fn := ⟨[.val ⟨true, Y1_8, false⟩, .val ⟨true, Y1_8, false⟩], [.val ⟨false, (.int .i64), true⟩], fun k x => S96 k x.1 x.2.1⟩
theorem ok96 : FnOK Tryz.prog 96 F96 := okF [(140, F140), (141, F141)] [] (fun k => .nil) ⟨ok140, ok141, trivial⟩ Tryz.func96 rfl
def S169 (k : Nat) (a : Int) : Option Y1_23 :=
 (bif decide (a < 0) then
  some ((0, ()), ())
 else
  (bif decide (a ≥ 64) then
   some ((0, ()), ())
  else
   nneg a <|
   some ((ishl .u64 1 a, ()), ())))
def F169 : Fn := ⟨[.val ⟨false, (.int .i64), false⟩], [.val ⟨false, (.int .u64), true⟩], fun k x => S169 k x.1⟩
theorem ok169 : FnOK Tryz.prog 169 F169 := okF [] [] (fun k => .nil) trivial Tryz.func169 rfl
def S138 (k : Nat) (a b : Int) : Option Y1_23 :=
 (S169 k b).bind fun q0 =>
 some ((ior .u64 a q0.1.1, ()), ())
def F138 : Fn := ⟨[.val ⟨false, (.int .u64), false⟩, .val ⟨false, (.int .i64), false⟩], [.val ⟨false, (.int .u64), true⟩], fun k x => S138 k x.1 x.2.1⟩
theorem ok138 : FnOK Tryz.prog 138 F138 := okF [(169, F169)] [] (fun k => .nil) ⟨ok169, trivial⟩ Tryz.func138 rfl
abbrev c139_L4 : Cut := ⟨[0, 2, 4], [.cell (.int .u64), cI, cI], [], 23, []⟩
def l139_4 (k : Nat) (g4 : Int → Int → Int → Option Y1_22) (a b c : Int) : Option Y1_22 :=
 (bif decide (c > 0) then
  nneg (IntKind.i64.wrap (64 - c)) <|
  (bif (ishl .u64 a (IntKind.i64.wrap (64 - c))) == 0 then
   nneg c <|
   g4 (ishr .u64 a c) (IntKind.i64.wrap (b + c)) (IntKind.i64.wrap (Int.tdiv c 2))
  else
   g4 a b (IntKind.i64.wrap (Int.tdiv c 2)))
 else
  some ((b, true, ()), ()))
def b139_4 (k : Nat) (g : ((Unit) × Int × Int × Int × Unit) → Option Y1_22) (d : (Unit) × Int × Int × Int × Unit) : Option Y1_22 := l139_4 k (fun a b c => g ((), a, b, c, ())) d.2.1 d.2.2.1 d.2.2.2.1
def L139_4 (k a : Nat) (b c e : Int) : Option Y1_22 := iter (R := (Int × Bool × Unit) × Unit) c139_L4 (b139_4 k) a ((), b, c, e, ())
theorem L139_4_s (k a b c e) : L139_4 k (a + 1) b c e = l139_4 k (L139_4 k a) b c e := iter_succ _ _ _ _
def S139 (k : Nat) (a : Int) : Option Y1_22 :=
 (bif a == 0 then
  some ((0, false, ()), ())
 else
  L139_4 k k a 0 32)
def F139 : Fn := ⟨[.val ⟨false, (.int .u64), false⟩], [.val ⟨false, (.int .i64), true⟩, .val ⟨false, .bool, true⟩], fun k x => S139 k x.1⟩
theorem ok139 : FnOK Tryz.prog 139 F139 := okF [] [] (fun k => (.loop 4 c139_L4 (b139_4 k) (fun g => .nil) .nil)) trivial Tryz.func139 rfl
abbrev c95_L3 : Cut := ⟨[3, 4, 13, 14, 15], [.box 187 [cI, cI, cI], .cell (.int .u64), .cell (.sl 187 Y1_8), cI, cI], [], 42, []⟩
def l95_3 (k : Nat) (g3 : Int → Int → Int → Int → Y1_55 → Int → Int → Option Y1_23) (a b c e : Int) (f : List Y1_20) (h i : Int) : Option Y1_23 :=
 (bif decide (i < h) then
  ix f i <|
  (S96 k (rd f i (0, 0, 0)) (a, b, c)).bind fun q0 =>
  (bif decide (q0.1.1 < 0) then
   (S138 k 0 i).bind fun q1 =>
   g3 (rd f i (0, 0, 0)).1 (rd f i (0, 0, 0)).2.1 (rd f i (0, 0, 0)).2.2 q1.1.1 f h (IntKind.i64.wrap (i + 1))
  else
   (bif q0.1.1 == 0 then
    (S138 k e i).bind fun q2 =>
    g3 a b c q2.1.1 f h (IntKind.i64.wrap (i + 1))
   else
    g3 a b c e f h (IntKind.i64.wrap (i + 1))))
 else
  (S139 k e).bind fun q3 =>
  some ((q3.1.1, ()), ()))
def b95_3 (k : Nat) (g : ((Unit) × (Int × Int × Int × Unit) × Int × Y1_55 × Int × Int × Unit) → Option Y1_23) (d : (Unit) × (Int × Int × Int × Unit) × Int × Y1_55 × Int × Int × Unit) : Option Y1_23 := l95_3 k (fun a b c e f h i => g ((), (a, b, c, ()), e, f, h, i, ())) d.2.1.1 d.2.1.2.1 d.2.1.2.2.1 d.2.2.1 d.2.2.2.1 d.2.2.2.2.1 d.2.2.2.2.2.1
def L95_3 (k a : Nat) (b c e f : Int) (h : List Y1_20) (i l : Int) : Option Y1_23 := iter (R := (Int × Unit) × Unit) c95_L3 (b95_3 k) a ((), (b, c, e, ()), f, h, i, l, ())
theorem L95_3_s (k a b c e f h i l) : L95_3 k (a + 1) b c e f h i l = l95_3 k (L95_3 k a) b c e f h i l := iter_succ _ _ _ _
def S95 (k : Nat) (a : List Y1_20) : Option Y1_23 :=
 ix a 0 <|
 L95_3 k k (rd a 0 (0, 0, 0)).1 (rd a 0 (0, 0, 0)).2.1 (rd a 0 (0, 0, 0)).2.2 0 a (a.length : Int) 0
def F95 : Fn := ⟨[.val ⟨false, (.sl 187 Y1_8), false⟩], [.val ⟨false, (.int .i64), true⟩], fun k x => S95 k x.1⟩
theorem ok95 : FnOK Tryz.prog 95 F95 := okF [(96, F96), (138, F138), (139, F139)] [] (fun k => (.loop 3 c95_L3 (b95_3 k) (fun g => .nil) .nil)) ⟨ok96, ok138, ok139, trivial⟩ Tryz.func95 rfl
abbrev c53_L8 : Cut := ⟨[6, 7, 8, 11], [cI, .cell .bool, .own 187 Y1_8, cI], [], 63, []⟩
def l53_8 (k : Nat) (g8 : Int → Bool → Y1_55 → Int → Option Y1_22) (a : Int) (b : Bool) (c : List Y1_20) (e : Int) : Option Y1_22 :=
 (bif decide (e < (c.length : Int)) then
  sx c e (mn (IntKind.i64.wrap (e + 64)) (c.length : Int)) <|
  (S95 k (sub c e (mn (IntKind.i64.wrap (e + 64)) (c.length : Int)))).bind fun q2 =>
  (bif !b then
   g8 (IntKind.i64.wrap (e + q2.1.1)) true c (IntKind.i64.wrap (e + 64))
  else
   ix c (IntKind.i64.wrap (e + q2.1.1)) <|
   ix c a <|
   (S96 k (rd c (IntKind.i64.wrap (e + q2.1.1)) (0, 0, 0)) (rd c a (0, 0, 0))).bind fun q3 =>
   (bif decide (q3.1.1 < 0) then
    g8 (IntKind.i64.wrap (e + q2.1.1)) true c (IntKind.i64.wrap (e + 64))
   else
    g8 a b c (IntKind.i64.wrap (e + 64))))
 else
  some ((a, b, ()), ()))
def b53_8 (k : Nat) (g : ((Unit) × Int × Bool × Y1_55 × Int × Unit) → Option Y1_22) (d : (Unit) × Int × Bool × Y1_55 × Int × Unit) : Option Y1_22 := l53_8 k (fun a b c e => g ((), a, b, c, e, ())) d.2.1 d.2.2.1 d.2.2.2.1 d.2.2.2.2.1
def L53_8 (k a : Nat) (b : Int) (c : Bool) (e : List Y1_20) (f : Int) : Option Y1_22 := iter (R := (Int × Bool × Unit) × Unit) c53_L8 (b53_8 k) a ((), b, c, e, f, ())
theorem L53_8_s (k a b c e f) : L53_8 k (a + 1) b c e f = l53_8 k (L53_8 k a) b c e f := iter_succ _ _ _ _
abbrev c53_L3 : Cut := ⟨[1, 2, 6, 7, 8, 14, 15, 16], [cI, .cell Y1_43, cI, .cell .bool, .own 187 Y1_8, .cell Y1_47, cI, cI], [], 63, []⟩
def l53_3 (k : Nat) (g3 : Int → Y1_17 → Int → Bool → Y1_55 → (List Y1_2) → Int → Int → Option Y1_22) (a : Int) (b : Y1_26) (c : Int) (e : Bool) (f : List Y1_20) (h : List Y1_2) (i l : Int) : Option Y1_22 :=
 (bif decide (l < i) then
  ix h l <|
  (S94 k (rd h l (0, 0, 0, 0, (0, prep (α := Int) 8 0, [], false), (0, prep (α := Int) 8 0, [], false), [], false)) a b).bind fun q0 =>
  ap f ([q0.1.1] : List Y1_20) 24 fun r1 =>
  g3 a b c e r1 h i (IntKind.i64.wrap (l + 1))
 else
  L53_8 k k c e f 0)
def b53_3 (k : Nat) (g : ((Unit) × Int × Y1_17 × Int × Bool × Y1_55 × (List Y1_2) × Int × Int × Unit) → Option Y1_22) (d : (Unit) × Int × Y1_17 × Int × Bool × Y1_55 × (List Y1_2) × Int × Int × Unit) : Option Y1_22 := l53_3 k (fun a b c e f h i l => g ((), a, b, c, e, f, h, i, l, ())) d.2.1 d.2.2.1 d.2.2.2.1 d.2.2.2.2.1 d.2.2.2.2.2.1 d.2.2.2.2.2.2.1 d.2.2.2.2.2.2.2.1 d.2.2.2.2.2.2.2.2.1
def L53_3 (k a : Nat) (b : Int) (c : Y1_26) (e : Int) (f : Bool) (h : List Y1_20) (i : List Y1_2) (l m : Int) : Option Y1_22 := iter (R := (Int × Bool × Unit) × Unit) c53_L3 (b53_3 k) a ((), b, c, e, f, h, i, l, m, ())
theorem L53_3_s (k a b c e f h i l m) : L53_3 k (a + 1) b c e f h i l m = l53_3 k (L53_3 k a) b c e f h i l m := iter_succ _ _ _ _
def S53 (k : Nat) (a : List Y1_2) (b : Int) (c : Y1_26) : Option Y1_22 :=
 L53_3 k k b c 0 false ([] : List Y1_20) a (a.length : Int) 0
def F53 : Fn := ⟨[.val ⟨false, Y1_47, false⟩, .val ⟨false, (.int .i64), false⟩, .val ⟨false, Y1_43, false⟩], [.val ⟨false, (.int .i64), true⟩, .val ⟨false, .bool, true⟩], fun k x => S53 k x.1 x.2.1 x.2.2.1⟩
theorem ok53 : FnOK Tryz.prog 53 F53 := okF [(94, F94), (95, F95), (96, F96)] [(8, 2)] (fun k => (.loop 8 c53_L8 (b53_8 k) (fun g => .nil) (.loop 3 c53_L3 (b53_3 k) (fun g => .nil) .nil))) ⟨ok94, ok95, ok96, trivial⟩ Tryz.func53 rfl
def S145 (k : Nat) (a : Int × (PN Int 8) × Y1_55 × Bool) : Option Y1_48 :=
 (S87 k a.2.2.1).bind fun q0 =>
 some (((a.1, a.2.1, q0.1.1, a.2.2.2), ()), ())
def F145 : Fn := ⟨[.val ⟨true, Y1_29, false⟩], [.val ⟨true, Y1_29, true⟩], fun k x => S145 k x.1⟩
theorem ok145 : FnOK Tryz.prog 145 F145 := okF [(87, F87)] [] (fun k => .nil) ⟨ok87, trivial⟩ Tryz.func145 rfl
def S142 (k : Nat) (a : Y1_24) : Option ((Y1_2 × Unit) × Unit) :=
 (S145 k a.2.2.2.2.1).bind fun q0 =>
 (S145 k a.2.2.2.2.2.1).bind fun q1 =>
 (S89 k a.2.2.2.2.2.2.1).bind fun q2 =>
 some (((a.1, a.2.1, a.2.2.1, a.2.2.2.1, q0.1.1, q1.1.1, q2.1.1, a.2.2.2.2.2.2.2), ()), ())
def F142 : Fn := ⟨[.val ⟨true, Y1_1, false⟩], [.val ⟨true, Y1_1, true⟩], fun k x => S142 k x.1⟩
theorem ok142 : FnOK Tryz.prog 142 F142 := okF [(89, F89), (145, F145)] [] (fun k => .nil) ⟨ok89, ok145, trivial⟩ Tryz.func142 rfl
def S149 (k : Nat) (a : Y1_40) (b : Y1_24) : Option ((Y1_2 × Unit) × Unit) :=
 (S142 k b).bind fun q0 =>
 (bif b.2.2.2.1 == 0 then
  (bif decide ((a.2.2.2.2.1.length : Int) > 0) then
   (S123 k b.2.2.1).bind fun q1 =>
   (S123 k b.2.2.1).bind fun q2 =>
   some (((q0.1.1.1, q0.1.1.2.1, q0.1.1.2.2.1, 1, q1.1.1, q2.1.1, [], q0.1.1.2.2.2.2.2.2.2), ()), ())
  else
   (S145 k b.2.2.2.2.2.1).bind fun q3 =>
   some (((q0.1.1.1, q0.1.1.2.1, q0.1.1.2.2.1, q0.1.1.2.2.2.1, q3.1.1, q0.1.1.2.2.2.2.2.1, [], q0.1.1.2.2.2.2.2.2.2), ()), ()))
 else
  (S145 k b.2.2.2.2.2.1).bind fun q4 =>
  some (((q0.1.1.1, q0.1.1.2.1, q0.1.1.2.2.1, q0.1.1.2.2.2.1, q4.1.1, q0.1.1.2.2.2.2.2.1, [], q0.1.1.2.2.2.2.2.2.2), ()), ()))
def F149 : Fn := ⟨[.val ⟨true, Y1_3, false⟩, .val ⟨true, Y1_1, false⟩], [.val ⟨true, Y1_1, true⟩], fun k x => S149 k x.1 x.2.1⟩
theorem ok149 : FnOK Tryz.prog 149 F149 := okF [(123, F123), (142, F142), (145, F145)] [] (fun k => .nil) ⟨ok123, ok142, ok145, trivial⟩ Tryz.func149 rfl
def S101 (k : Nat) (a : Y1_40) (b : Y1_24) (c : Y1_26) : Option ((Y1_2 × Y1_17 × Int × Unit) × Unit) :=
 (S149 k a b).bind fun q0 =>
 (S92 k c b.1).bind fun q1 =>
 (bif b.2.2.2.1 == 2 then
  (S46 k b (-1)).bind fun q2 =>
  some ((q2.1.1, q1.1.1, 13, ()), ())
 else
  (bif q0.1.1.2.2.2.1 != b.2.2.2.1 then
   some ((q0.1.1, q1.1.1, 7, ()), ())
  else
   some ((q0.1.1, q1.1.1, 6, ()), ())))
def F101 : Fn := ⟨[.val ⟨true, Y1_3, false⟩, .val ⟨true, Y1_1, false⟩, .val ⟨false, Y1_43, false⟩], [.val ⟨true, Y1_1, true⟩, .val ⟨false, Y1_43, true⟩, .val ⟨false, (.int .i64), true⟩], fun k x => S101 k x.1 x.2.1 x.2.2.1⟩
theorem ok101 : FnOK Tryz.prog 101 F101 := okF [(46, F46), (92, F92), (149, F149)] [] (fun k => .nil) ⟨ok46, ok92, ok149, trivial⟩ Tryz.func101 rfl
abbrev c72b_L1 : Cut := ⟨[0, 1, 11, 12, 13], [.pin false 0, .cell Y1_43, .own 3 (.int .i64), cI, cI], [.mbox 77 [cI, cI, .own 43 Y1_3, .own 117 Y1_28, .cell .bool, .cell .bool, .cell .bool, .own 124 Y1_1, .own 3 (.int .i64), .own 4 .bool, .own 97 Y1_5, .own 3 (.int .i64), .own 4 .bool, .own 58 Y1_27]], 55, []⟩
def l72b_1 (k : Nat) (g1 : Y1_35) (a b : Int) (c : List Y1_7) (e : List (PN Int 5)) (f h i : Bool) (l : List Y1_2) (m : List Int) (n : List Bool) (o : List Y1_6) (p : List Int) (s : List Bool) (t : List (PN Int 6)) (u : Y1_26) (v : List Int) (w y : Int) : Option Y1_16 :=
 (bif decide (y < w) then
  ix v y <|
  ix o (rd v y 0) <|
  (bif decide (y < (u.length : Int)) then
   ix u y <|
   (bif !(beqD Y1_15 (rd o (rd v y 0) (0, (0, 0), (0, 0), ([], []), (0, []), 0)).2.2.1 (rd u y (0, 0))) then
    ix u y <|
    (S37 k ((m, n), o) (rd v y 0) ((rd o (rd v y 0) (0, (0, 0), (0, 0), ([], []), (0, []), 0)).1, (rd o (rd v y 0) (0, (0, 0), (0, 0), ([], []), (0, []), 0)).2.1, rd u y (0, 0), (rd o (rd v y 0) (0, (0, 0), (0, 0), ([], []), (0, []), 0)).2.2.2)).bind fun q1 =>
    g1 a b c e f h i l q1.1.1.1.1 q1.1.1.1.2 q1.1.1.2 p s t u v w (IntKind.i64.wrap (y + 1))
   else
    g1 a b c e f h i l m n o p s t u v w (IntKind.i64.wrap (y + 1)))
  else
   g1 a b c e f h i l m n o p s t u v w (IntKind.i64.wrap (y + 1)))
 else
  some ((), (a, b, c, e, f, h, i, l, m, n, o, p, s, t, ()), ()))
def b72b_1 (k : Nat) (g : (Y1_54 × Unit × Y1_17 × (List Int) × Int × Int × Unit) → Option Y1_16) (d : Y1_54 × Unit × Y1_17 × (List Int) × Int × Int × Unit) : Option Y1_16 := l72b_1 k (fun a b c e f h i l m n o p s t u v w y => g (((a, b, c, e, f, h, i, l, m, n, o, p, s, t, ()), ()), (), u, v, w, y, ())) d.1.1.1 d.1.1.2.1 d.1.1.2.2.1 d.1.1.2.2.2.1 d.1.1.2.2.2.2.1 d.1.1.2.2.2.2.2.1 d.1.1.2.2.2.2.2.2.1 d.1.1.2.2.2.2.2.2.2.1 d.1.1.2.2.2.2.2.2.2.2.1 d.1.1.2.2.2.2.2.2.2.2.2.1 d.1.1.2.2.2.2.2.2.2.2.2.2.1 d.1.1.2.2.2.2.2.2.2.2.2.2.2.1 d.1.1.2.2.2.2.2.2.2.2.2.2.2.2.1 d.1.1.2.2.2.2.2.2.2.2.2.2.2.2.2.1 d.2.2.1 d.2.2.2.1 d.2.2.2.2.1 d.2.2.2.2.2.1
def L72b_1 (k a : Nat) (b c : Int) (e : List Y1_7) (f : List (PN Int 5)) (h i l : Bool) (m : List Y1_2) (n : List Int) (o : List Bool) (p : List Y1_6) (s : List Int) (t : List Bool) (u : List (PN Int 6)) (v : Y1_26) (w : List Int) (y z : Int) : Option Y1_16 := iter (R := (Unit) × Y1_0 × Unit) c72b_L1 (b72b_1 k) a (((b, c, e, f, h, i, l, m, n, o, p, s, t, u, ()), ()), (), v, w, y, z, ())
theorem L72b_1_s (k a b c e f h i l m n o p s t u v w y z) : L72b_1 k (a + 1) b c e f h i l m n o p s t u v w y z = l72b_1 k (L72b_1 k a) b c e f h i l m n o p s t u v w y z := iter_succ _ _ _ _
def S72b (k : Nat) (a b : Int) (c : List Y1_7) (e : List (PN Int 5)) (f h i : Bool) (l : List Y1_2) (m : List Int) (n : List Bool) (o : List Y1_6) (p : List Int) (s : List Bool) (t : List (PN Int 6)) (u : Y1_26) : Option Y1_16 :=
 (S52 k ((m, n), o)).bind fun q0 =>
 L72b_1 k k a b c e f h i l m n o p s t u q0.1.1 (q0.1.1.length : Int) 0
def F72b : Fn := ⟨[.mbox 77 [cI, cI, .own 43 Y1_3, .own 117 Y1_28, .cell .bool, .cell .bool, .cell .bool, .own 124 Y1_1, .own 3 (.int .i64), .own 4 .bool, .own 97 Y1_5, .own 3 (.int .i64), .own 4 .bool, .own 58 Y1_27], .val ⟨false, Y1_43, false⟩], [], fun k x => S72b k x.1.1 x.1.2.1 x.1.2.2.1 x.1.2.2.2.1 x.1.2.2.2.2.1 x.1.2.2.2.2.2.1 x.1.2.2.2.2.2.2.1 x.1.2.2.2.2.2.2.2.1 x.1.2.2.2.2.2.2.2.2.1 x.1.2.2.2.2.2.2.2.2.2.1 x.1.2.2.2.2.2.2.2.2.2.2.1 x.1.2.2.2.2.2.2.2.2.2.2.2.1 x.1.2.2.2.2.2.2.2.2.2.2.2.2.1 x.1.2.2.2.2.2.2.2.2.2.2.2.2.2.1 x.2.1⟩
theorem ok72b : FnOK Tryz.prog 72 F72b := okF [(37, F37), (52, F52)] [] (fun k => (.loop 1 c72b_L1 (b72b_1 k) (fun g => .nil) .nil)) ⟨ok37, ok52, trivial⟩ Tryz.func72 rfl
def S56 (k : Nat) (a b : Int) (c : List Y1_7) (e : List (PN Int 5)) (f h i : Bool) (l : List Y1_2) (m : List Int) (n : List Bool) (o : List Y1_6) (p : List Int) (s : List Bool) (t : List (PN Int 6)) (u v w y z A B C D G H I J : Int) (K : List Y1_20) (M : Bool) (N O P Q T U V W X : Int) (Z : List Y1_20) (a1 : Bool) (b1 : List Int) (c1 : Bool) : Option Y1_46 :=
 ix c u <|
 (S54 k (a, b, c, e, f, h, i, l, ((m, n), o), p, s)).bind fun q0 =>
 (S101 k (rd c u (0, 0, 0, [], [], [])) (u, v, w, y, (z, (A, B, C, D, G, H, I, J), K, M), (N, (O, P, Q, T, U, V, W, X), Z, a1), b1, c1) q0.1.1).bind fun q1 =>
 (S72b k a b c e f h i l m n o p s t q1.1.2.1).bind fun q2 =>
 (S48a k q2.2.1.1 q2.2.1.2.1 q2.2.1.2.2.1 q2.2.1.2.2.2.1 q2.2.1.2.2.2.2.1 q2.2.1.2.2.2.2.2.1 q2.2.1.2.2.2.2.2.2.1 q2.2.1.2.2.2.2.2.2.2.1 q2.2.1.2.2.2.2.2.2.2.2.1 q2.2.1.2.2.2.2.2.2.2.2.2.1 q2.2.1.2.2.2.2.2.2.2.2.2.2.1 q2.2.1.2.2.2.2.2.2.2.2.2.2.2.1 q2.2.1.2.2.2.2.2.2.2.2.2.2.2.2.1 q2.2.1.2.2.2.2.2.2.2.2.2.2.2.2.2.1 (0, q1.1.2.2.1, q1.1.1.1, 0, 0, 0)).bind fun q3 =>
 some ((q1.1.2.2.1 == 13, ()), q3.2.1, (q1.1.1.1, q1.1.1.2.1, q1.1.1.2.2.1, q1.1.1.2.2.2.1, q1.1.1.2.2.2.2.1.1, q1.1.1.2.2.2.2.1.2.1.1, q1.1.1.2.2.2.2.1.2.1.2.1, q1.1.1.2.2.2.2.1.2.1.2.2.1, q1.1.1.2.2.2.2.1.2.1.2.2.2.1, q1.1.1.2.2.2.2.1.2.1.2.2.2.2.1, q1.1.1.2.2.2.2.1.2.1.2.2.2.2.2.1, q1.1.1.2.2.2.2.1.2.1.2.2.2.2.2.2.1, q1.1.1.2.2.2.2.1.2.1.2.2.2.2.2.2.2, q1.1.1.2.2.2.2.1.2.2.1, q1.1.1.2.2.2.2.1.2.2.2, q1.1.1.2.2.2.2.2.1.1, q1.1.1.2.2.2.2.2.1.2.1.1, q1.1.1.2.2.2.2.2.1.2.1.2.1, q1.1.1.2.2.2.2.2.1.2.1.2.2.1, q1.1.1.2.2.2.2.2.1.2.1.2.2.2.1, q1.1.1.2.2.2.2.2.1.2.1.2.2.2.2.1, q1.1.1.2.2.2.2.2.1.2.1.2.2.2.2.2.1, q1.1.1.2.2.2.2.2.1.2.1.2.2.2.2.2.2.1, q1.1.1.2.2.2.2.2.1.2.1.2.2.2.2.2.2.2, q1.1.1.2.2.2.2.2.1.2.2.1, q1.1.1.2.2.2.2.2.1.2.2.2, q1.1.1.2.2.2.2.2.2.1, q1.1.1.2.2.2.2.2.2.2, ()), ())
def F56 : Fn := ⟨[.mbox 77 [cI, cI, .own 43 Y1_3, .own 117 Y1_28, .cell .bool, .cell .bool, .cell .bool, .own 124 Y1_1, .own 3 (.int .i64), .own 4 .bool, .own 97 Y1_5, .own 3 (.int .i64), .own 4 .bool, .own 58 Y1_27], .mbox 124 [cI, cI, cI, cI, cI, cI, cI, cI, cI, cI, cI, cI, cI, .cell (.sl 177 Y1_8), .cell .bool, cI, cI, cI, cI, cI, cI, cI, cI, cI, .cell (.sl 177 Y1_8), .cell .bool, .cell Y1_13, .cell .bool]], [.val ⟨false, .bool, true⟩], fun k x => S56 k x.1.1 x.1.2.1 x.1.2.2.1 x.1.2.2.2.1 x.1.2.2.2.2.1 x.1.2.2.2.2.2.1 x.1.2.2.2.2.2.2.1 x.1.2.2.2.2.2.2.2.1 x.1.2.2.2.2.2.2.2.2.1 x.1.2.2.2.2.2.2.2.2.2.1 x.1.2.2.2.2.2.2.2.2.2.2.1 x.1.2.2.2.2.2.2.2.2.2.2.2.1 x.1.2.2.2.2.2.2.2.2.2.2.2.2.1 x.1.2.2.2.2.2.2.2.2.2.2.2.2.2.1 x.2.1.1 x.2.1.2.1 x.2.1.2.2.1 x.2.1.2.2.2.1 x.2.1.2.2.2.2.1 x.2.1.2.2.2.2.2.1 x.2.1.2.2.2.2.2.2.1 x.2.1.2.2.2.2.2.2.2.1 x.2.1.2.2.2.2.2.2.2.2.1 x.2.1.2.2.2.2.2.2.2.2.2.1 x.2.1.2.2.2.2.2.2.2.2.2.2.1 x.2.1.2.2.2.2.2.2.2.2.2.2.2.1 x.2.1.2.2.2.2.2.2.2.2.2.2.2.2.1 x.2.1.2.2.2.2.2.2.2.2.2.2.2.2.2.1 x.2.1.2.2.2.2.2.2.2.2.2.2.2.2.2.2.1 x.2.1.2.2.2.2.2.2.2.2.2.2.2.2.2.2.2.1 x.2.1.2.2.2.2.2.2.2.2.2.2.2.2.2.2.2.2.1 x.2.1.2.2.2.2.2.2.2.2.2.2.2.2.2.2.2.2.2.1 x.2.1.2.2.2.2.2.2.2.2.2.2.2.2.2.2.2.2.2.2.1 x.2.1.2.2.2.2.2.2.2.2.2.2.2.2.2.2.2.2.2.2.2.1 x.2.1.2.2.2.2.2.2.2.2.2.2.2.2.2.2.2.2.2.2.2.2.1 x.2.1.2.2.2.2.2.2.2.2.2.2.2.2.2.2.2.2.2.2.2.2.2.1 x.2.1.2.2.2.2.2.2.2.2.2.2.2.2.2.2.2.2.2.2.2.2.2.2.1 x.2.1.2.2.2.2.2.2.2.2.2.2.2.2.2.2.2.2.2.2.2.2.2.2.2.1 x.2.1.2.2.2.2.2.2.2.2.2.2.2.2.2.2.2.2.2.2.2.2.2.2.2.2.1 x.2.1.2.2.2.2.2.2.2.2.2.2.2.2.2.2.2.2.2.2.2.2.2.2.2.2.2.1 x.2.1.2.2.2.2.2.2.2.2.2.2.2.2.2.2.2.2.2.2.2.2.2.2.2.2.2.2.1 x.2.1.2.2.2.2.2.2.2.2.2.2.2.2.2.2.2.2.2.2.2.2.2.2.2.2.2.2.2.1⟩
theorem ok56 : FnOK Tryz.prog 56 F56 := okF [(48, F48a), (54, F54), (72, F72b), (101, F101)] [] (fun k => .nil) ⟨ok48a, ok54, ok72b, ok101, trivial⟩ Tryz.func56 rfl
def S144 (k : Nat) (a : Y1_40) (b : Y1_24) : Option (((List Y1_12) × Unit) × Unit) :=
 (S45 k (mget (.int .i64) Y1_14 b.2.2.2.1 (updD (.int .i64) Y1_14 2 a.2.2.2.2.2 (updD (.int .i64) Y1_14 1 a.2.2.2.2.1 (updD (.int .i64) Y1_14 0 a.2.2.2.1 ([] : List (Int × List Y1_12))))) [])).bind fun q0 =>
 some ((q0.1.1, ()), ())
def F144 : Fn := ⟨[.val ⟨true, Y1_3, false⟩, .val ⟨true, Y1_1, false⟩], [.val ⟨false, Y1_14, true⟩], fun k x => S144 k x.1 x.2.1⟩
theorem ok144 : FnOK Tryz.prog 144 F144 := okF [(45, F45)] [] (fun k => .nil) ⟨ok45, trivial⟩ Tryz.func144 rfl
def S171 (k : Nat) (a : Int × (PN Int 8) × Y1_55 × Bool) : Option Y1_48 :=
 (S87 k a.2.2.1).bind fun q0 =>
 some (((a.1, a.2.1, q0.1.1, a.2.2.2), ()), ())
def F171 : Fn := ⟨[.val ⟨true, Y1_29, false⟩], [.val ⟨true, Y1_29, true⟩], fun k x => S171 k x.1⟩
theorem ok171 : FnOK Tryz.prog 171 F171 := okF [(87, F87)] [] (fun k => .nil) ⟨ok87, trivial⟩ Tryz.func171 rfl
def S172 (k : Nat) (a b : Int) : Option Y1_23 :=
 (bif decide (b ≤ (-64)) then
  some ((a, ()), ())
 else
  (bif decide (b ≥ 64) then
   some ((a, ()), ())
  else
   (bif decide (b < 0) then
    nneg (IntKind.i64.wrap (0 - b)) <|
    some ((ishr .i64 a (IntKind.i64.wrap (0 - b)), ()), ())
   else
    nneg b <|
    some ((IntKind.i64.wrap (ishl .u64 (IntKind.u64.wrap a) b), ()), ()))))
def F172 : Fn := ⟨[.val ⟨false, (.int .i64), false⟩, .val ⟨false, (.int .i64), false⟩], [.val ⟨false, (.int .i64), true⟩], fun k x => S172 k x.1 x.2.1⟩
theorem ok172 : FnOK Tryz.prog 172 F172 := okF [] [] (fun k => .nil) trivial Tryz.func172 rfl
def S173 (k : Nat) (a b : Int) : Option Y1_23 :=
 (bif decide (b < 1) then
  some ((a, ()), ())
 else
  (bif decide (b > 64) then
   some ((a, ()), ())
  else
   nneg (IntKind.i64.wrap (64 - b)) <|
   nneg (IntKind.i64.wrap (64 - b)) <|
   some ((ishr .i64 (ishl .i64 a (IntKind.i64.wrap (64 - b))) (IntKind.i64.wrap (64 - b)), ()), ())))
def F173 : Fn := ⟨[.val ⟨false, (.int .i64), false⟩, .val ⟨false, (.int .i64), false⟩], [.val ⟨false, (.int .i64), true⟩], fun k x => S173 k x.1 x.2.1⟩
theorem ok173 : FnOK Tryz.prog 173 F173 := okF [] [] (fun k => .nil) trivial Tryz.func173 rfl
abbrev c174_L2 : Cut := ⟨[1, 2, 3], [.box 122 [cI, cI, cI, cI, cI, cI, cI, cI, cI, .own 177 Y1_8, .cell .bool], .box 122 [cI, cI, cI, cI, cI, cI, cI, cI, cI, .nil, .cell .bool], cI], [], 55, []⟩
def l174_2 (k : Nat) (g2 : Int → Int → Int → Int → Int → Int → Int → Int → Int → Y1_55 → Bool → Int → Int → Int → Int → Int → Int → Int → Int → Int → Bool → Int → Option Y1_48) (a b c e f h i l m : Int) (n : List Y1_20) (o : Bool) (p s t u v w y z A : Int) (B : Bool) (C : Int) : Option Y1_48 :=
 (bif decide (C > 0) then
  ix n (IntKind.i64.wrap (C - 1)) <|
  (bif decide ((rd n (IntKind.i64.wrap (C - 1)) (0, 0, 0)).2.1 < a) then
   ix n (IntKind.i64.wrap (C - 1)) <|
   (bif decide ((rd n (IntKind.i64.wrap (C - 1)) (0, 0, 0)).2.2 > 0) then
    some ((((rd n (IntKind.i64.wrap (C - 1)) (0, 0, 0)).1, (b, c, e, f, h, i, l, m), upd n (IntKind.i64.wrap (C - 1)) ((rd n (IntKind.i64.wrap (C - 1)) (0, 0, 0)).1, (rd n (IntKind.i64.wrap (C - 1)) (0, 0, 0)).2.1, IntKind.i64.wrap ((rd n (IntKind.i64.wrap (C - 1)) (0, 0, 0)).2.2 - 1)), o), ()), ())
   else
    sx n 0 (IntKind.i64.wrap (C - 1)) <|
    g2 a b c e f h i l m (n.take (IntKind.i64.wrap (C - 1)).toNat) o p s t u v w y z A B ((n.take (IntKind.i64.wrap (C - 1)).toNat).length : Int))
  else
   some (((a, (b, c, e, f, h, i, l, m), n, o), ()), ()))
 else
  some (((a, (b, c, e, f, h, i, l, m), n, o), ()), ()))
def b174_2 (k : Nat) (g : ((Unit) × (Int × Int × Int × Int × Int × Int × Int × Int × Int × Y1_55 × Bool × Unit) × (Int × Int × Int × Int × Int × Int × Int × Int × Int × Unit × Bool × Unit) × Int × Unit) → Option Y1_48) (d : (Unit) × (Int × Int × Int × Int × Int × Int × Int × Int × Int × Y1_55 × Bool × Unit) × (Int × Int × Int × Int × Int × Int × Int × Int × Int × Unit × Bool × Unit) × Int × Unit) : Option Y1_48 := l174_2 k (fun a b c e f h i l m n o p s t u v w y z A B C => g ((), (a, b, c, e, f, h, i, l, m, n, o, ()), (p, s, t, u, v, w, y, z, A, (), B, ()), C, ())) d.2.1.1 d.2.1.2.1 d.2.1.2.2.1 d.2.1.2.2.2.1 d.2.1.2.2.2.2.1 d.2.1.2.2.2.2.2.1 d.2.1.2.2.2.2.2.2.1 d.2.1.2.2.2.2.2.2.2.1 d.2.1.2.2.2.2.2.2.2.2.1 d.2.1.2.2.2.2.2.2.2.2.2.1 d.2.1.2.2.2.2.2.2.2.2.2.2.1 d.2.2.1.1 d.2.2.1.2.1 d.2.2.1.2.2.1 d.2.2.1.2.2.2.1 d.2.2.1.2.2.2.2.1 d.2.2.1.2.2.2.2.2.1 d.2.2.1.2.2.2.2.2.2.1 d.2.2.1.2.2.2.2.2.2.2.1 d.2.2.1.2.2.2.2.2.2.2.2.1 d.2.2.1.2.2.2.2.2.2.2.2.2.2.1 d.2.2.2.1
def L174_2 (k a : Nat) (b c e f h i l m n : Int) (o : List Y1_20) (p : Bool) (s t u v w y z A B : Int) (C : Bool) (D : Int) : Option Y1_48 := iter (R := (Y1_11 × Unit) × Unit) c174_L2 (b174_2 k) a ((), (b, c, e, f, h, i, l, m, n, o, p, ()), (s, t, u, v, w, y, z, A, B, (), C, ()), D, ())
theorem L174_2_s (k a b c e f h i l m n o p s t u v w y z A B C D) : L174_2 k (a + 1) b c e f h i l m n o p s t u v w y z A B C D = l174_2 k (L174_2 k a) b c e f h i l m n o p s t u v w y z A B C D := iter_succ _ _ _ _
def S174 (k : Nat) (a b c e f h i l m : Int) (n : List Y1_20) (o : Bool) : Option Y1_48 :=
 L174_2 k k a b c e f h i l m n o 0 0 0 0 0 0 0 0 0 false (n.length : Int)
def F174 : Fn := ⟨[.gv (.agg [cI, cI, cI, cI, cI, cI, cI, cI, cI, .own 177 Y1_8, .cell .bool])], [.val ⟨true, Y1_29, true⟩], fun k x => S174 k x.1.1 x.1.2.1 x.1.2.2.1 x.1.2.2.2.1 x.1.2.2.2.2.1 x.1.2.2.2.2.2.1 x.1.2.2.2.2.2.2.1 x.1.2.2.2.2.2.2.2.1 x.1.2.2.2.2.2.2.2.2.1 x.1.2.2.2.2.2.2.2.2.2.1 x.1.2.2.2.2.2.2.2.2.2.2.1⟩
theorem ok174 : FnOK Tryz.prog 174 F174 := okF [] [(52, 1)] (fun k => (.loop 2 c174_L2 (b174_2 k) (fun g => .nil) .nil)) trivial Tryz.func174 rfl
def S143 (k : Nat) (a : List Y1_12) (b : Int × (PN Int 8) × Y1_55 × Bool) : Option ((Y1_11 × Y1_12 × Bool × Unit) × Unit) :=
 (bif b.2.2.2 then
  (S171 k b).bind fun q0 =>
  some ((q0.1.1, (0, 0, 0, 0), false, ()), ())
 else
  (bif decide (b.1 < 0) then
   (S171 k b).bind fun q1 =>
   some ((q1.1.1, (0, 0, 0, 0), false, ()), ())
  else
   (bif decide (b.1 ≥ (a.length : Int)) then
    (S171 k b).bind fun q2 =>
    some ((q2.1.1, (0, 0, 0, 0), false, ()), ())
   else
    ix a b.1 <|
    (S151 k (rd a b.1 (0, 0, 0, 0))).bind fun q3 =>
    (bif !q3.1.1 then
     (S171 k b).bind fun q4 =>
     some ((q4.1.1, (0, 0, 0, 0), false, ()), ())
    else
     (S171 k b).bind fun q5 =>
     ix a q5.1.1.1 <|
     ax 8 (rd a q5.1.1.1 (0, 0, 0, 0)).2.1 <|
     ax 8 (Int.tmod (rd a q5.1.1.1 (0, 0, 0, 0)).2.2.1 8) <|
     (bif (rd a q5.1.1.1 (0, 0, 0, 0)).1 == 0 then
      (S174 k q5.1.1.1 q5.1.1.2.1.1 q5.1.1.2.1.2.1 q5.1.1.2.1.2.2.1 q5.1.1.2.1.2.2.2.1 q5.1.1.2.1.2.2.2.2.1 q5.1.1.2.1.2.2.2.2.2.1 q5.1.1.2.1.2.2.2.2.2.2.1 q5.1.1.2.1.2.2.2.2.2.2.2 q5.1.1.2.2.1 true).bind fun q6 =>
      some ((q6.1.1, rd a q5.1.1.1 (0, 0, 0, 0), true, ()), ())
     else
      (bif (rd a q5.1.1.1 (0, 0, 0, 0)).1 == 1 then
       (S174 k (IntKind.i64.wrap (q5.1.1.1 + 1)) (aset (α := Int) 8 q5.1.1.2.1 (rd a q5.1.1.1 (0, 0, 0, 0)).2.1 (rd a q5.1.1.1 (0, 0, 0, 0)).2.2.2).1 (aset (α := Int) 8 q5.1.1.2.1 (rd a q5.1.1.1 (0, 0, 0, 0)).2.1 (rd a q5.1.1.1 (0, 0, 0, 0)).2.2.2).2.1 (aset (α := Int) 8 q5.1.1.2.1 (rd a q5.1.1.1 (0, 0, 0, 0)).2.1 (rd a q5.1.1.1 (0, 0, 0, 0)).2.2.2).2.2.1 (aset (α := Int) 8 q5.1.1.2.1 (rd a q5.1.1.1 (0, 0, 0, 0)).2.1 (rd a q5.1.1.1 (0, 0, 0, 0)).2.2.2).2.2.2.1 (aset (α := Int) 8 q5.1.1.2.1 (rd a q5.1.1.1 (0, 0, 0, 0)).2.1 (rd a q5.1.1.1 (0, 0, 0, 0)).2.2.2).2.2.2.2.1 (aset (α := Int) 8 q5.1.1.2.1 (rd a q5.1.1.1 (0, 0, 0, 0)).2.1 (rd a q5.1.1.1 (0, 0, 0, 0)).2.2.2).2.2.2.2.2.1 (aset (α := Int) 8 q5.1.1.2.1 (rd a q5.1.1.1 (0, 0, 0, 0)).2.1 (rd a q5.1.1.1 (0, 0, 0, 0)).2.2.2).2.2.2.2.2.2.1 (aset (α := Int) 8 q5.1.1.2.1 (rd a q5.1.1.1 (0, 0, 0, 0)).2.1 (rd a q5.1.1.1 (0, 0, 0, 0)).2.2.2).2.2.2.2.2.2.2 q5.1.1.2.2.1 q5.1.1.2.2.2).bind fun q7 =>
       some ((q7.1.1, rd a q5.1.1.1 (0, 0, 0, 0), true, ()), ())
      else
       (bif (rd a q5.1.1.1 (0, 0, 0, 0)).1 == 2 then
        (S174 k (IntKind.i64.wrap (q5.1.1.1 + 1)) (aset (α := Int) 8 q5.1.1.2.1 (rd a q5.1.1.1 (0, 0, 0, 0)).2.1 (IntKind.i64.wrap (IntKind.u64.wrap ((IntKind.u64.wrap (aget (α := Int) 8 q5.1.1.2.1 (rd a q5.1.1.1 (0, 0, 0, 0)).2.1 0)) + (IntKind.u64.wrap (aget (α := Int) 8 q5.1.1.2.1 (Int.tmod (rd a q5.1.1.1 (0, 0, 0, 0)).2.2.1 8) 0)))))).1 (aset (α := Int) 8 q5.1.1.2.1 (rd a q5.1.1.1 (0, 0, 0, 0)).2.1 (IntKind.i64.wrap (IntKind.u64.wrap ((IntKind.u64.wrap (aget (α := Int) 8 q5.1.1.2.1 (rd a q5.1.1.1 (0, 0, 0, 0)).2.1 0)) + (IntKind.u64.wrap (aget (α := Int) 8 q5.1.1.2.1 (Int.tmod (rd a q5.1.1.1 (0, 0, 0, 0)).2.2.1 8) 0)))))).2.1 (aset (α := Int) 8 q5.1.1.2.1 (rd a q5.1.1.1 (0, 0, 0, 0)).2.1 (IntKind.i64.wrap (IntKind.u64.wrap ((IntKind.u64.wrap (aget (α := Int) 8 q5.1.1.2.1 (rd a q5.1.1.1 (0, 0, 0, 0)).2.1 0)) + (IntKind.u64.wrap (aget (α := Int) 8 q5.1.1.2.1 (Int.tmod (rd a q5.1.1.1 (0, 0, 0, 0)).2.2.1 8) 0)))))).2.2.1 (aset (α := Int) 8 q5.1.1.2.1 (rd a q5.1.1.1 (0, 0, 0, 0)).2.1 (IntKind.i64.wrap (IntKind.u64.wrap ((IntKind.u64.wrap (aget (α := Int) 8 q5.1.1.2.1 (rd a q5.1.1.1 (0, 0, 0, 0)).2.1 0)) + (IntKind.u64.wrap (aget (α := Int) 8 q5.1.1.2.1 (Int.tmod (rd a q5.1.1.1 (0, 0, 0, 0)).2.2.1 8) 0)))))).2.2.2.1 (aset (α := Int) 8 q5.1.1.2.1 (rd a q5.1.1.1 (0, 0, 0, 0)).2.1 (IntKind.i64.wrap (IntKind.u64.wrap ((IntKind.u64.wrap (aget (α := Int) 8 q5.1.1.2.1 (rd a q5.1.1.1 (0, 0, 0, 0)).2.1 0)) + (IntKind.u64.wrap (aget (α := Int) 8 q5.1.1.2.1 (Int.tmod (rd a q5.1.1.1 (0, 0, 0, 0)).2.2.1 8) 0)))))).2.2.2.2.1 (aset (α := Int) 8 q5.1.1.2.1 (rd a q5.1.1.1 (0, 0, 0, 0)).2.1 (IntKind.i64.wrap (IntKind.u64.wrap ((IntKind.u64.wrap (aget (α := Int) 8 q5.1.1.2.1 (rd a q5.1.1.1 (0, 0, 0, 0)).2.1 0)) + (IntKind.u64.wrap (aget (α := Int) 8 q5.1.1.2.1 (Int.tmod (rd a q5.1.1.1 (0, 0, 0, 0)).2.2.1 8) 0)))))).2.2.2.2.2.1 (aset (α := Int) 8 q5.1.1.2.1 (rd a q5.1.1.1 (0, 0, 0, 0)).2.1 (IntKind.i64.wrap (IntKind.u64.wrap ((IntKind.u64.wrap (aget (α := Int) 8 q5.1.1.2.1 (rd a q5.1.1.1 (0, 0, 0, 0)).2.1 0)) + (IntKind.u64.wrap (aget (α := Int) 8 q5.1.1.2.1 (Int.tmod (rd a q5.1.1.1 (0, 0, 0, 0)).2.2.1 8) 0)))))).2.2.2.2.2.2.1 (aset (α := Int) 8 q5.1.1.2.1 (rd a q5.1.1.1 (0, 0, 0, 0)).2.1 (IntKind.i64.wrap (IntKind.u64.wrap ((IntKind.u64.wrap (aget (α := Int) 8 q5.1.1.2.1 (rd a q5.1.1.1 (0, 0, 0, 0)).2.1 0)) + (IntKind.u64.wrap (aget (α := Int) 8 q5.1.1.2.1 (Int.tmod (rd a q5.1.1.1 (0, 0, 0, 0)).2.2.1 8) 0)))))).2.2.2.2.2.2.2 q5.1.1.2.2.1 q5.1.1.2.2.2).bind fun q8 =>
        some ((q8.1.1, rd a q5.1.1.1 (0, 0, 0, 0), true, ()), ())
       else
        (bif (rd a q5.1.1.1 (0, 0, 0, 0)).1 == 3 then
         (S174 k (IntKind.i64.wrap (q5.1.1.1 + 1)) (aset (α := Int) 8 q5.1.1.2.1 (rd a q5.1.1.1 (0, 0, 0, 0)).2.1 (IntKind.i64.wrap (IntKind.u64.wrap ((IntKind.u64.wrap (aget (α := Int) 8 q5.1.1.2.1 (rd a q5.1.1.1 (0, 0, 0, 0)).2.1 0)) - (IntKind.u64.wrap (aget (α := Int) 8 q5.1.1.2.1 (Int.tmod (rd a q5.1.1.1 (0, 0, 0, 0)).2.2.1 8) 0)))))).1 (aset (α := Int) 8 q5.1.1.2.1 (rd a q5.1.1.1 (0, 0, 0, 0)).2.1 (IntKind.i64.wrap (IntKind.u64.wrap ((IntKind.u64.wrap (aget (α := Int) 8 q5.1.1.2.1 (rd a q5.1.1.1 (0, 0, 0, 0)).2.1 0)) - (IntKind.u64.wrap (aget (α := Int) 8 q5.1.1.2.1 (Int.tmod (rd a q5.1.1.1 (0, 0, 0, 0)).2.2.1 8) 0)))))).2.1 (aset (α := Int) 8 q5.1.1.2.1 (rd a q5.1.1.1 (0, 0, 0, 0)).2.1 (IntKind.i64.wrap (IntKind.u64.wrap ((IntKind.u64.wrap (aget (α := Int) 8 q5.1.1.2.1 (rd a q5.1.1.1 (0, 0, 0, 0)).2.1 0)) - (IntKind.u64.wrap (aget (α := Int) 8 q5.1.1.2.1 (Int.tmod (rd a q5.1.1.1 (0, 0, 0, 0)).2.2.1 8) 0)))))).2.2.1 (aset (α := Int) 8 q5.1.1.2.1 (rd a q5.1.1.1 (0, 0, 0, 0)).2.1 (IntKind.i64.wrap (IntKind.u64.wrap ((IntKind.u64.wrap (aget (α := Int) 8 q5.1.1.2.1 (rd a q5.1.1.1 (0, 0, 0, 0)).2.1 0)) - (IntKind.u64.wrap (aget (α := Int) 8 q5.1.1.2.1 (Int.tmod (rd a q5.1.1.1 (0, 0, 0, 0)).2.2.1 8) 0)))))).2.2.2.1 (aset (α := Int) 8 q5.1.1.2.1 (rd a q5.1.1.1 (0, 0, 0, 0)).2.1 (IntKind.i64.wrap (IntKind.u64.wrap ((IntKind.u64.wrap (aget (α := Int) 8 q5.1.1.2.1 (rd a q5.1.1.1 (0, 0, 0, 0)).2.1 0)) - (IntKind.u64.wrap (aget (α := Int) 8 q5.1.1.2.1 (Int.tmod (rd a q5.1.1.1 (0, 0, 0, 0)).2.2.1 8) 0)))))).2.2.2.2.1 (aset (α := Int) 8 q5.1.1.2.1 (rd a q5.1.1.1 (0, 0, 0, 0)).2.1 (IntKind.i64.wrap (IntKind.u64.wrap ((IntKind.u64.wrap (aget (α := Int) 8 q5.1.1.2.1 (rd a q5.1.1.1 (0, 0, 0, 0)).2.1 0)) - (IntKind.u64.wrap (aget (α := Int) 8 q5.1.1.2.1 (Int.tmod (rd a q5.1.1.1 (0, 0, 0, 0)).2.2.1 8) 0)))))).2.2.2.2.2.1 (aset (α := Int) 8 q5.1.1.2.1 (rd a q5.1.1.1 (0, 0, 0, 0)).2.1 (IntKind.i64.wrap (IntKind.u64.wrap ((IntKind.u64.wrap (aget (α := Int) 8 q5.1.1.2.1 (rd a q5.1.1.1 (0, 0, 0, 0)).2.1 0)) - (IntKind.u64.wrap (aget (α := Int) 8 q5.1.1.2.1 (Int.tmod (rd a q5.1.1.1 (0, 0, 0, 0)).2.2.1 8) 0)))))).2.2.2.2.2.2.1 (aset (α := Int) 8 q5.1.1.2.1 (rd a q5.1.1.1 (0, 0, 0, 0)).2.1 (IntKind.i64.wrap (IntKind.u64.wrap ((IntKind.u64.wrap (aget (α := Int) 8 q5.1.1.2.1 (rd a q5.1.1.1 (0, 0, 0, 0)).2.1 0)) - (IntKind.u64.wrap (aget (α := Int) 8 q5.1.1.2.1 (Int.tmod (rd a q5.1.1.1 (0, 0, 0, 0)).2.2.1 8) 0)))))).2.2.2.2.2.2.2 q5.1.1.2.2.1 q5.1.1.2.2.2).bind fun q9 =>
         some ((q9.1.1, rd a q5.1.1.1 (0, 0, 0, 0), true, ()), ())
        else
         (bif (rd a q5.1.1.1 (0, 0, 0, 0)).1 == 4 then
          (S174 k (IntKind.i64.wrap (q5.1.1.1 + 1)) (aset (α := Int) 8 q5.1.1.2.1 (rd a q5.1.1.1 (0, 0, 0, 0)).2.1 (IntKind.i64.wrap (IntKind.u64.wrap ((IntKind.u64.wrap (aget (α := Int) 8 q5.1.1.2.1 (rd a q5.1.1.1 (0, 0, 0, 0)).2.1 0)) * (IntKind.u64.wrap (aget (α := Int) 8 q5.1.1.2.1 (Int.tmod (rd a q5.1.1.1 (0, 0, 0, 0)).2.2.1 8) 0)))))).1 (aset (α := Int) 8 q5.1.1.2.1 (rd a q5.1.1.1 (0, 0, 0, 0)).2.1 (IntKind.i64.wrap (IntKind.u64.wrap ((IntKind.u64.wrap (aget (α := Int) 8 q5.1.1.2.1 (rd a q5.1.1.1 (0, 0, 0, 0)).2.1 0)) * (IntKind.u64.wrap (aget (α := Int) 8 q5.1.1.2.1 (Int.tmod (rd a q5.1.1.1 (0, 0, 0, 0)).2.2.1 8) 0)))))).2.1 (aset (α := Int) 8 q5.1.1.2.1 (rd a q5.1.1.1 (0, 0, 0, 0)).2.1 (IntKind.i64.wrap (IntKind.u64.wrap ((IntKind.u64.wrap (aget (α := Int) 8 q5.1.1.2.1 (rd a q5.1.1.1 (0, 0, 0, 0)).2.1 0)) * (IntKind.u64.wrap (aget (α := Int) 8 q5.1.1.2.1 (Int.tmod (rd a q5.1.1.1 (0, 0, 0, 0)).2.2.1 8) 0)))))).2.2.1 (aset (α := Int) 8 q5.1.1.2.1 (rd a q5.1.1.1 (0, 0, 0, 0)).2.1 (IntKind.i64.wrap (IntKind.u64.wrap ((IntKind.u64.wrap (aget (α := Int) 8 q5.1.1.2.1 (rd a q5.1.1.1 (0, 0, 0, 0)).2.1 0)) * (IntKind.u64.wrap (aget (α := Int) 8 q5.1.1.2.1 (Int.tmod (rd a q5.1.1.1 (0, 0, 0, 0)).2.2.1 8) 0)))))).2.2.2.1 (aset (α := Int) 8 q5.1.1.2.1 (rd a q5.1.1.1 (0, 0, 0, 0)).2.1 (IntKind.i64.wrap (IntKind.u64.wrap ((IntKind.u64.wrap (aget (α := Int) 8 q5.1.1.2.1 (rd a q5.1.1.1 (0, 0, 0, 0)).2.1 0)) * (IntKind.u64.wrap (aget (α := Int) 8 q5.1.1.2.1 (Int.tmod (rd a q5.1.1.1 (0, 0, 0, 0)).2.2.1 8) 0)))))).2.2.2.2.1 (aset (α := Int) 8 q5.1.1.2.1 (rd a q5.1.1.1 (0, 0, 0, 0)).2.1 (IntKind.i64.wrap (IntKind.u64.wrap ((IntKind.u64.wrap (aget (α := Int) 8 q5.1.1.2.1 (rd a q5.1.1.1 (0, 0, 0, 0)).2.1 0)) * (IntKind.u64.wrap (aget (α := Int) 8 q5.1.1.2.1 (Int.tmod (rd a q5.1.1.1 (0, 0, 0, 0)).2.2.1 8) 0)))))).2.2.2.2.2.1 (aset (α := Int) 8 q5.1.1.2.1 (rd a q5.1.1.1 (0, 0, 0, 0)).2.1 (IntKind.i64.wrap (IntKind.u64.wrap ((IntKind.u64.wrap (aget (α := Int) 8 q5.1.1.2.1 (rd a q5.1.1.1 (0, 0, 0, 0)).2.1 0)) * (IntKind.u64.wrap (aget (α := Int) 8 q5.1.1.2.1 (Int.tmod (rd a q5.1.1.1 (0, 0, 0, 0)).2.2.1 8) 0)))))).2.2.2.2.2.2.1 (aset (α := Int) 8 q5.1.1.2.1 (rd a q5.1.1.1 (0, 0, 0, 0)).2.1 (IntKind.i64.wrap (IntKind.u64.wrap ((IntKind.u64.wrap (aget (α := Int) 8 q5.1.1.2.1 (rd a q5.1.1.1 (0, 0, 0, 0)).2.1 0)) * (IntKind.u64.wrap (aget (α := Int) 8 q5.1.1.2.1 (Int.tmod (rd a q5.1.1.1 (0, 0, 0, 0)).2.2.1 8) 0)))))).2.2.2.2.2.2.2 q5.1.1.2.2.1 q5.1.1.2.2.2).bind fun q10 =>
          some ((q10.1.1, rd a q5.1.1.1 (0, 0, 0, 0), true, ()), ())
         else
          (bif (rd a q5.1.1.1 (0, 0, 0, 0)).1 == 5 then
           (S172 k (aget (α := Int) 8 q5.1.1.2.1 (rd a q5.1.1.1 (0, 0, 0, 0)).2.1 0) (rd a q5.1.1.1 (0, 0, 0, 0)).2.2.2).bind fun q11 =>
           (S174 k (IntKind.i64.wrap (q5.1.1.1 + 1)) (aset (α := Int) 8 q5.1.1.2.1 (rd a q5.1.1.1 (0, 0, 0, 0)).2.1 q11.1.1).1 (aset (α := Int) 8 q5.1.1.2.1 (rd a q5.1.1.1 (0, 0, 0, 0)).2.1 q11.1.1).2.1 (aset (α := Int) 8 q5.1.1.2.1 (rd a q5.1.1.1 (0, 0, 0, 0)).2.1 q11.1.1).2.2.1 (aset (α := Int) 8 q5.1.1.2.1 (rd a q5.1.1.1 (0, 0, 0, 0)).2.1 q11.1.1).2.2.2.1 (aset (α := Int) 8 q5.1.1.2.1 (rd a q5.1.1.1 (0, 0, 0, 0)).2.1 q11.1.1).2.2.2.2.1 (aset (α := Int) 8 q5.1.1.2.1 (rd a q5.1.1.1 (0, 0, 0, 0)).2.1 q11.1.1).2.2.2.2.2.1 (aset (α := Int) 8 q5.1.1.2.1 (rd a q5.1.1.1 (0, 0, 0, 0)).2.1 q11.1.1).2.2.2.2.2.2.1 (aset (α := Int) 8 q5.1.1.2.1 (rd a q5.1.1.1 (0, 0, 0, 0)).2.1 q11.1.1).2.2.2.2.2.2.2 q5.1.1.2.2.1 q5.1.1.2.2.2).bind fun q12 =>
           some ((q12.1.1, rd a q5.1.1.1 (0, 0, 0, 0), true, ()), ())
          else
           (bif (rd a q5.1.1.1 (0, 0, 0, 0)).1 == 6 then
            (S173 k (aget (α := Int) 8 q5.1.1.2.1 (rd a q5.1.1.1 (0, 0, 0, 0)).2.1 0) (rd a q5.1.1.1 (0, 0, 0, 0)).2.2.2).bind fun q13 =>
            (S174 k (IntKind.i64.wrap (q5.1.1.1 + 1)) (aset (α := Int) 8 q5.1.1.2.1 (rd a q5.1.1.1 (0, 0, 0, 0)).2.1 q13.1.1).1 (aset (α := Int) 8 q5.1.1.2.1 (rd a q5.1.1.1 (0, 0, 0, 0)).2.1 q13.1.1).2.1 (aset (α := Int) 8 q5.1.1.2.1 (rd a q5.1.1.1 (0, 0, 0, 0)).2.1 q13.1.1).2.2.1 (aset (α := Int) 8 q5.1.1.2.1 (rd a q5.1.1.1 (0, 0, 0, 0)).2.1 q13.1.1).2.2.2.1 (aset (α := Int) 8 q5.1.1.2.1 (rd a q5.1.1.1 (0, 0, 0, 0)).2.1 q13.1.1).2.2.2.2.1 (aset (α := Int) 8 q5.1.1.2.1 (rd a q5.1.1.1 (0, 0, 0, 0)).2.1 q13.1.1).2.2.2.2.2.1 (aset (α := Int) 8 q5.1.1.2.1 (rd a q5.1.1.1 (0, 0, 0, 0)).2.1 q13.1.1).2.2.2.2.2.2.1 (aset (α := Int) 8 q5.1.1.2.1 (rd a q5.1.1.1 (0, 0, 0, 0)).2.1 q13.1.1).2.2.2.2.2.2.2 q5.1.1.2.2.1 q5.1.1.2.2.2).bind fun q14 =>
            some ((q14.1.1, rd a q5.1.1.1 (0, 0, 0, 0), true, ()), ())
           else
            (bif (rd a q5.1.1.1 (0, 0, 0, 0)).1 == 7 then
             (bif (aget (α := Int) 8 q5.1.1.2.1 (rd a q5.1.1.1 (0, 0, 0, 0)).2.1 0) == 0 then
              (S174 k (IntKind.i64.wrap ((IntKind.i64.wrap (q5.1.1.1 + 1)) + (rd a q5.1.1.1 (0, 0, 0, 0)).2.2.2)) q5.1.1.2.1.1 q5.1.1.2.1.2.1 q5.1.1.2.1.2.2.1 q5.1.1.2.1.2.2.2.1 q5.1.1.2.1.2.2.2.2.1 q5.1.1.2.1.2.2.2.2.2.1 q5.1.1.2.1.2.2.2.2.2.2.1 q5.1.1.2.1.2.2.2.2.2.2.2 q5.1.1.2.2.1 q5.1.1.2.2.2).bind fun q15 =>
              some ((q15.1.1, rd a q5.1.1.1 (0, 0, 0, 0), true, ()), ())
             else
              (S174 k (IntKind.i64.wrap (q5.1.1.1 + 1)) q5.1.1.2.1.1 q5.1.1.2.1.2.1 q5.1.1.2.1.2.2.1 q5.1.1.2.1.2.2.2.1 q5.1.1.2.1.2.2.2.2.1 q5.1.1.2.1.2.2.2.2.2.1 q5.1.1.2.1.2.2.2.2.2.2.1 q5.1.1.2.1.2.2.2.2.2.2.2 q5.1.1.2.2.1 q5.1.1.2.2.2).bind fun q16 =>
              some ((q16.1.1, rd a q5.1.1.1 (0, 0, 0, 0), true, ()), ()))
            else
             (bif (rd a q5.1.1.1 (0, 0, 0, 0)).1 == 8 then
              ap q5.1.1.2.2.1 ([(IntKind.i64.wrap (q5.1.1.1 + 1), IntKind.i64.wrap (q5.1.1.1 + (rd a q5.1.1.1 (0, 0, 0, 0)).2.2.1), IntKind.i64.wrap ((rd a q5.1.1.1 (0, 0, 0, 0)).2.2.2 - 1))] : List Y1_20) 24 fun r17 =>
              (S174 k (IntKind.i64.wrap (q5.1.1.1 + 1)) q5.1.1.2.1.1 q5.1.1.2.1.2.1 q5.1.1.2.1.2.2.1 q5.1.1.2.1.2.2.2.1 q5.1.1.2.1.2.2.2.2.1 q5.1.1.2.1.2.2.2.2.2.1 q5.1.1.2.1.2.2.2.2.2.2.1 q5.1.1.2.1.2.2.2.2.2.2.2 r17 q5.1.1.2.2.2).bind fun q18 =>
              some ((q18.1.1, rd a q5.1.1.1 (0, 0, 0, 0), true, ()), ())
             else
              (S174 k (IntKind.i64.wrap (q5.1.1.1 + 1)) q5.1.1.2.1.1 q5.1.1.2.1.2.1 q5.1.1.2.1.2.2.1 q5.1.1.2.1.2.2.2.1 q5.1.1.2.1.2.2.2.2.1 q5.1.1.2.1.2.2.2.2.2.1 q5.1.1.2.1.2.2.2.2.2.2.1 q5.1.1.2.1.2.2.2.2.2.2.2 q5.1.1.2.2.1 q5.1.1.2.2.2).bind fun q19 =>
              some ((q19.1.1, rd a q5.1.1.1 (0, 0, 0, 0), true, ()), ()))))))))))))))
def F143 : Fn := ⟨[.val ⟨false, Y1_14, false⟩, .val ⟨true, Y1_29, false⟩], [.val ⟨true, Y1_29, true⟩, .val ⟨true, (.pair (.int .i64) Y1_8), true⟩, .val ⟨false, .bool, true⟩], fun k x => S143 k x.1 x.2.1⟩
theorem ok143 : FnOK Tryz.prog 143 F143 := okF [(151, F151), (171, F171), (172, F172), (173, F173), (174, F174)] [] (fun k => .nil) ⟨ok151, ok171, ok172, ok173, ok174, trivial⟩ Tryz.func143 rfl
section
variable (w : World) {g n c i j : Nat}
theorem delF146_t : Tryz.prog.underlying 26 = some (.slice 3) ∧ Tryz.prog.underlying 3 = some (.int .i64) ∧ Tryz.prog.underlying 4 = some .bool ∧ Tryz.prog.follows .mixedOrders = true ∧ (∀ w, (Go.sizeOf 3).run Tryz.prog w = .ok 1 w) ∧ Tryz.f146.ntmps = 33 := ⟨by kernel_rfl, by kernel_rfl, by kernel_rfl, by kernel_rfl, fun w => by kernel_rfl, rfl⟩
theorem delF146_none {v : Value} (hv : (∃ A n c, v = .slice A n c ∧ i ≤ n ∧ n ≤ c ∧ c ≤ 9223372036854775807)) : Calls Tryz.prog 146 #[v, .int .i64 i, .int .i64 i] w fun e w' => e = .returned v ∧ w' = w := by
 obtain ⟨t24, t3, t4, mixed, z36, hnt⟩ := delF146_t
 have u24 := run_underlying t24; have u3 := run_underlying t3; have u4 := run_underlying t4
 obtain ⟨A, n, c, rfl, hi, hnc, hc63⟩ := hv
 have hi0 : (i : Int) ≤ (n : Int) := by omega
 have hi1 : (0 : Int) ≤ (i : Int) := by omega
 cases A <;> (go_enter Tryz.func146, hnt; go_wp2 <;> (go_ret; exact ⟨rfl, rfl⟩))
theorem delF146_some {w' w'' : World} (hlt : i < j) (hj : j ≤ n) (hnc : n ≤ c) (hc63 : c ≤ 9223372036854775807)
  (hap : ∀ ty A, (c ≠ j → A = (⟨g, j * 1, none⟩ : Addr)) → (Builtin.append_ #[26, 26] ty #[.slice (some ⟨g, 0, none⟩) i c, .slice (some A) (n - j) (c - j)]).run Tryz.prog w.drew = .ok (.slice (some ⟨g, 0, none⟩) (i + (n - j)) c) w')
  (hcl : ∀ ty dc, (Builtin.clear_ #[26] ty #[.slice (some ⟨g, (i + (n - j)) * 1, none⟩) (n - (i + (n - j))) dc]).run Tryz.prog w' = .ok (.tuple #[]) w'') :
  Calls Tryz.prog 146 #[.slice (some ⟨g, 0, none⟩) n c, .int .i64 i, .int .i64 j] w fun e w1 => e = .returned (.slice (some ⟨g, 0, none⟩) (i + (n - j)) c) ∧ w1 = w'' := by
 obtain ⟨t24, t3, t4, mixed, z36, hnt⟩ := delF146_t
 have u24 := run_underlying t24; have u3 := run_underlying t3; have u4 := run_underlying t4
 have hi0 : (i : Int) ≤ (n : Int) := by omega
 have hj0 : (j : Int) ≤ (n : Int) := by omega
 have hij : (i : Int) ≤ (j : Int) := by omega
 have hne : ¬ ((i : Int) = (j : Int)) := by omega
 have hic : i ≤ c := by omega
 have hjc : j ≤ c := by omega
 have hln : i + (n - j) ≤ n := by omega
 have hlc : i + (n - j) ≤ c := by omega
 have hci : ¬ (c = i + (n - j)) := by omega
 obtain ⟨A, hA, hA'⟩ : ∃ A : Addr, (if c = j then some (⟨g, 0, none⟩ : Addr) else some ⟨g, j * 1, none⟩) = some A ∧ (c ≠ j → A = (⟨g, j * 1, none⟩ : Addr)) := by
  by_cases h : c = j
  · exact ⟨_, if_pos h, fun q => absurd h q⟩
  · exact ⟨_, if_neg h, fun _ => rfl⟩
 try simp only [Nat.mul_one] at hA hcl
 go_enter Tryz.func146, hnt
 go_wp2_with fail
 go_region_law_o (refine append_step rfl rfl _ _ (by simp [Act.eval, Act.put]) (by simp [Act.eval, Act.put, hA]) (hap _ _ hA') ?_)
 go_wp2_with (at_builtin; refine clear_list rfl rfl _ rfl (hcl _ _) ?_)
 go_ret
 exact ⟨rfl, rfl⟩
end
abbrev P146 : List PT := delPs 3 (.int .i64)
abbrev R146 : List RT := delRs 3 (.int .i64)
def S146 (k : Nat) (a : List Int) (i j : Int) : Option Y1_31 := delSem 3 (.int .i64) k (a, i, j, ())
def F146 : Fn := ⟨P146, R146, delSem 3 (.int .i64)⟩
def E146 : Env := tab.env (fun _ => none) (fun _ => 0)
theorem E146_ok : EnvOK Tryz.prog E146 := envOK_of tabOK _ _ (fun f F h => by cases h)
theorem ok146 : FnOK Tryz.prog 146 F146 := by
 obtain ⟨i0, z, a1, a2, a3, a4, a5⟩ := (E146_ok.ty 3 ((.int .i64)) (by kernel_rfl)).info
 have b2 : Ty.sz ((.int .i64)) = 1 := rfl
 have hz : z.cells.size = 1 := by rw [← Array.length_toList, a5, zeroV_len, b2]
 obtain ⟨t24, t3, t4, mixed, z36, hnt⟩ := delF146_t
 refine del_ok Tryz.func146 rfl (by kernel_rfl) ?_
 rw [b2]
 exact del_all (S := 26) (z := z) t24 a1 a4 (by rw [a2, b2]) hz (fun v hv => zeroV_one ((.int .i64)) v (by rw [← a5]; exact hv)) (by decide) (fun w i v h => delF146_none w h) (fun w g n c i j w' w'' h1 h2 h3 h4 h5 h6 => delF146_some w h1 h2 h3 h4 h5 h6)
abbrev c97_L13 : Cut := ⟨[4, 5, 8], [.box 124 [cI, cI, cI, cI, cI, cI, cI, cI, cI, cI, cI, cI, cI, .own 177 Y1_8, .cell .bool, cI, cI, cI, cI, cI, cI, cI, cI, cI, .own 177 Y1_8, .cell .bool, .own 3 (.int .i64), .cell .bool], .box 40 [cI, cI, cI, cI], cI], [], 70, []⟩
def l97_13 (k : Nat) (g13 : Int → Int → Int → Int → Int → Int → Int → Int → Int → Int → Int → Int → Int → Y1_55 → Bool → Int → Int → Int → Int → Int → Int → Int → Int → Int → Y1_55 → Bool → (List Int) → Bool → Int → Int → Int → Int → Int → Option Y1_38) (x a b c e f h i l m n o p : Int) (s : List Y1_20) (t : Bool) (u v w y z A B C D : Int) (G : List Y1_20) (H : Bool) (I : List Int) (J : Bool) (K M N O P : Int) : Option Y1_38 :=
 (bif decide (P ≥ 0) then
  ix I P <|
  (bif (rd I P 0) == M then
   (S146 k I P (IntKind.i64.wrap (P + 1))).bind fun q5 =>
   some (((x, a, b, c, (e, (f, h, i, l, m, n, o, p), s, t), (u, (v, w, y, z, A, B, C, D), G, H), q5.1.1, J), (K, M, N, O), true, ()), ())
  else
   g13 x a b c e f h i l m n o p s t u v w y z A B C D G H I J K M N O (IntKind.i64.wrap (P - 1)))
 else
  some (((x, a, b, c, (e, (f, h, i, l, m, n, o, p), s, t), (u, (v, w, y, z, A, B, C, D), G, H), I, J), (K, M, N, O), true, ()), ()))
def b97_13 (k : Nat) (g : ((Unit) × Y1_10 × (Int × Int × Int × Int × Unit) × Int × Unit) → Option Y1_38) (d : (Unit) × Y1_10 × (Int × Int × Int × Int × Unit) × Int × Unit) : Option Y1_38 := l97_13 k (fun x a b c e f h i l m n o p s t u v w y z A B C D G H I J K M N O P => g ((), (x, a, b, c, e, f, h, i, l, m, n, o, p, s, t, u, v, w, y, z, A, B, C, D, G, H, I, J, ()), (K, M, N, O, ()), P, ())) d.2.1.1 d.2.1.2.1 d.2.1.2.2.1 d.2.1.2.2.2.1 d.2.1.2.2.2.2.1 d.2.1.2.2.2.2.2.1 d.2.1.2.2.2.2.2.2.1 d.2.1.2.2.2.2.2.2.2.1 d.2.1.2.2.2.2.2.2.2.2.1 d.2.1.2.2.2.2.2.2.2.2.2.1 d.2.1.2.2.2.2.2.2.2.2.2.2.1 d.2.1.2.2.2.2.2.2.2.2.2.2.2.1 d.2.1.2.2.2.2.2.2.2.2.2.2.2.2.1 d.2.1.2.2.2.2.2.2.2.2.2.2.2.2.2.1 d.2.1.2.2.2.2.2.2.2.2.2.2.2.2.2.2.1 d.2.1.2.2.2.2.2.2.2.2.2.2.2.2.2.2.2.1 d.2.1.2.2.2.2.2.2.2.2.2.2.2.2.2.2.2.2.1 d.2.1.2.2.2.2.2.2.2.2.2.2.2.2.2.2.2.2.2.1 d.2.1.2.2.2.2.2.2.2.2.2.2.2.2.2.2.2.2.2.2.1 d.2.1.2.2.2.2.2.2.2.2.2.2.2.2.2.2.2.2.2.2.2.1 d.2.1.2.2.2.2.2.2.2.2.2.2.2.2.2.2.2.2.2.2.2.2.1 d.2.1.2.2.2.2.2.2.2.2.2.2.2.2.2.2.2.2.2.2.2.2.2.1 d.2.1.2.2.2.2.2.2.2.2.2.2.2.2.2.2.2.2.2.2.2.2.2.2.1 d.2.1.2.2.2.2.2.2.2.2.2.2.2.2.2.2.2.2.2.2.2.2.2.2.2.1 d.2.1.2.2.2.2.2.2.2.2.2.2.2.2.2.2.2.2.2.2.2.2.2.2.2.2.1 d.2.1.2.2.2.2.2.2.2.2.2.2.2.2.2.2.2.2.2.2.2.2.2.2.2.2.2.1 d.2.1.2.2.2.2.2.2.2.2.2.2.2.2.2.2.2.2.2.2.2.2.2.2.2.2.2.2.1 d.2.1.2.2.2.2.2.2.2.2.2.2.2.2.2.2.2.2.2.2.2.2.2.2.2.2.2.2.2.1 d.2.2.1.1 d.2.2.1.2.1 d.2.2.1.2.2.1 d.2.2.1.2.2.2.1 d.2.2.2.1
def L97_13 (k a : Nat) (x b c e f h i l m n o p s : Int) (t : List Y1_20) (u : Bool) (v w y z A B C D G : Int) (H : List Y1_20) (I : Bool) (J : List Int) (K : Bool) (M N O P Q : Int) : Option Y1_38 := iter (R := (Y1_2 × Y1_12 × Bool × Unit) × Unit) c97_L13 (b97_13 k) a ((), (x, b, c, e, f, h, i, l, m, n, o, p, s, t, u, v, w, y, z, A, B, C, D, G, H, I, J, K, ()), (M, N, O, P, ()), Q, ())
theorem L97_13_s (k a x b c e f h i l m n o p s t u v w y z A B C D G H I J K M N O P Q) : L97_13 k (a + 1) x b c e f h i l m n o p s t u v w y z A B C D G H I J K M N O P Q = l97_13 k (L97_13 k a) x b c e f h i l m n o p s t u v w y z A B C D G H I J K M N O P Q := iter_succ _ _ _ _
def S97 (k : Nat) (a : Y1_40) (b : Y1_24) : Option Y1_38 :=
 (S142 k b).bind fun q0 =>
 (S144 k a b).bind fun q1 =>
 (S143 k q1.1.1 b.2.2.2.2.1).bind fun q2 =>
 (bif !q2.1.2.2.1 then
  some ((q0.1.1, (0, 0, 0, 0), false, ()), ())
 else
  (bif q2.1.2.1.1 == 11 then
   (S145 k q2.1.1).bind fun q3 =>
   some (((q0.1.1.1, q0.1.1.2.1, q0.1.1.2.2.1, q0.1.1.2.2.2.1, q2.1.1, q3.1.1, q0.1.1.2.2.2.2.2.2), q2.1.2.1, true, ()), ())
  else
   (bif q2.1.2.1.1 == 9 then
    ap q0.1.1.2.2.2.2.2.2.1 ([q2.1.2.1.2.1] : List Int) 8 fun r4 =>
    some (((q0.1.1.1, q0.1.1.2.1, q0.1.1.2.2.1, q0.1.1.2.2.2.1, q2.1.1, q0.1.1.2.2.2.2.2.1, r4, q0.1.1.2.2.2.2.2.2.2), q2.1.2.1, true, ()), ())
   else
    (bif q2.1.2.1.1 == 10 then
     L97_13 k k q0.1.1.1 q0.1.1.2.1 q0.1.1.2.2.1 q0.1.1.2.2.2.1 q2.1.1.1 q2.1.1.2.1.1 q2.1.1.2.1.2.1 q2.1.1.2.1.2.2.1 q2.1.1.2.1.2.2.2.1 q2.1.1.2.1.2.2.2.2.1 q2.1.1.2.1.2.2.2.2.2.1 q2.1.1.2.1.2.2.2.2.2.2.1 q2.1.1.2.1.2.2.2.2.2.2.2 q2.1.1.2.2.1 q2.1.1.2.2.2 q0.1.1.2.2.2.2.2.1.1 q0.1.1.2.2.2.2.2.1.2.1.1 q0.1.1.2.2.2.2.2.1.2.1.2.1 q0.1.1.2.2.2.2.2.1.2.1.2.2.1 q0.1.1.2.2.2.2.2.1.2.1.2.2.2.1 q0.1.1.2.2.2.2.2.1.2.1.2.2.2.2.1 q0.1.1.2.2.2.2.2.1.2.1.2.2.2.2.2.1 q0.1.1.2.2.2.2.2.1.2.1.2.2.2.2.2.2.1 q0.1.1.2.2.2.2.2.1.2.1.2.2.2.2.2.2.2 q0.1.1.2.2.2.2.2.1.2.2.1 q0.1.1.2.2.2.2.2.1.2.2.2 q0.1.1.2.2.2.2.2.2.1 q0.1.1.2.2.2.2.2.2.2 q2.1.2.1.1 q2.1.2.1.2.1 q2.1.2.1.2.2.1 q2.1.2.1.2.2.2 (IntKind.i64.wrap ((q0.1.1.2.2.2.2.2.2.1.length : Int) - 1))
    else
     some (((q0.1.1.1, q0.1.1.2.1, q0.1.1.2.2.1, q0.1.1.2.2.2.1, q2.1.1, q0.1.1.2.2.2.2.2), q2.1.2.1, true, ()), ())))))
def F97 : Fn := ⟨[.val ⟨true, Y1_3, false⟩, .val ⟨true, Y1_1, false⟩], [.val ⟨true, Y1_1, true⟩, .val ⟨true, (.pair (.int .i64) Y1_8), true⟩, .val ⟨false, .bool, true⟩], fun k x => S97 k x.1 x.2.1⟩
theorem ok97 : FnOK Tryz.prog 97 F97 := okF [(142, F142), (143, F143), (144, F144), (145, F145), (146, F146)] [] (fun k => (.loop 13 c97_L13 (b97_13 k) (fun g => .nil) .nil)) ⟨ok142, ok143, ok144, ok145, ok146, trivial⟩ Tryz.func97 rfl
def S98 (k : Nat) (a : Y1_26) (b c : Int) : Option ((Y1_17 × Bool × Unit) × Unit) :=
 (S132 k a).bind fun q0 =>
 (S147 k a b).bind fun q1 =>
 (bif !q1.1.1 then
  some ((q0.1.1, false, ()), ())
 else
  ix a b <|
  (bif (rd a b (0, 0)).2 != 0 then
   some ((q0.1.1, false, ()), ())
  else
   ix q0.1.1 b <|
   some ((upd q0.1.1 b ((rd q0.1.1 b (0, 0)).1, IntKind.i64.wrap (c + 1)), true, ()), ())))
def F98 : Fn := ⟨[.val ⟨false, Y1_43, false⟩, .val ⟨false, (.int .i64), false⟩, .val ⟨false, (.int .i64), false⟩], [.val ⟨false, Y1_43, true⟩, .val ⟨false, .bool, true⟩], fun k x => S98 k x.1 x.2.1 x.2.2.1⟩
theorem ok98 : FnOK Tryz.prog 98 F98 := okF [(132, F132), (147, F147)] [] (fun k => .nil) ⟨ok132, ok147, trivial⟩ Tryz.func98 rfl
def S99 (k : Nat) (a : Y1_26) (b c : Int) : Option ((Y1_17 × Bool × Unit) × Unit) :=
 (S132 k a).bind fun q0 =>
 (S133 k a b c).bind fun q1 =>
 (bif !q1.1.1 then
  some ((q0.1.1, false, ()), ())
 else
  ix q0.1.1 b <|
  some ((upd q0.1.1 b ((rd q0.1.1 b (0, 0)).1, 0), true, ()), ()))
def F99 : Fn := ⟨[.val ⟨false, Y1_43, false⟩, .val ⟨false, (.int .i64), false⟩, .val ⟨false, (.int .i64), false⟩], [.val ⟨false, Y1_43, true⟩, .val ⟨false, .bool, true⟩], fun k x => S99 k x.1 x.2.1 x.2.2.1⟩
theorem ok99 : FnOK Tryz.prog 99 F99 := okF [(132, F132), (133, F133)] [] (fun k => .nil) ⟨ok132, ok133, trivial⟩ Tryz.func99 rfl
def S148 (k : Nat) (a : Y1_24) : Option ((Y1_2 × Unit) × Unit) :=
 (S142 k a).bind fun q0 =>
 (S123 k a.2.2.2.2.1.2.1.1).bind fun q1 =>
 (S123 k a.2.2.2.2.1.2.1.1).bind fun q2 =>
 some (((q0.1.1.1, q0.1.1.2.1, q0.1.1.2.2.1, 2, q1.1.1, q2.1.1, [], false), ()), ())
def F148 : Fn := ⟨[.val ⟨true, Y1_1, false⟩], [.val ⟨true, Y1_1, true⟩], fun k x => S148 k x.1⟩
theorem ok148 : FnOK Tryz.prog 148 F148 := okF [(123, F123), (142, F142)] [] (fun k => .nil) ⟨ok123, ok142, trivial⟩ Tryz.func148 rfl
abbrev c100_J8 : Cut := ⟨[0, 1], [.pin false 0, .pin false 1], [.mbox 77 [cI, cI, .own 43 Y1_3, .own 117 Y1_28, .cell .bool, .cell .bool, .cell .bool, .own 124 Y1_1, .own 3 (.int .i64), .own 4 .bool, .own 97 Y1_5, .own 3 (.int .i64), .own 4 .bool, .own 58 Y1_27], .mbox 124 [cI, cI, cI, cI, cI, cI, cI, cI, cI, cI, cI, cI, cI, .own 177 Y1_8, .cell .bool, cI, cI, cI, cI, cI, cI, cI, cI, cI, .own 177 Y1_8, .cell .bool, .own 3 (.int .i64), .cell .bool]], 95, []⟩
def j100_8 (k : Nat) (a b : Int) (c : List Y1_7) (e : List (PN Int 5)) (f h i : Bool) (l : List Y1_2) (m : List Int) (n : List Bool) (o : List Y1_6) (p : List Int) (s : List Bool) (t : List (PN Int 6)) (u v w y z A B C D G H I J : Int) (K : List Y1_20) (M : Bool) (N O P Q T U V W X : Int) (Z : List Y1_20) (a1 : Bool) (b1 : List Int) (c1 : Bool) : Option Y1_46 :=
 (S47 k (p, s) u).bind fun q3 =>
 (S148 k (u, v, w, y, (z, (A, B, C, D, G, H, I, J), K, M), (N, (O, P, Q, T, U, V, W, X), Z, a1), b1, c1)).bind fun q4 =>
 ix c q4.1.1.1 <|
 some ((((rd c q4.1.1.1 (0, 0, 0, [], [], [])).2.2.2.2.2.length : Int) == 0, ()), (a, b, c, e, f, h, i, l, m, n, o, q3.1.1.1, q3.1.1.2, t, ()), (q4.1.1.1, q4.1.1.2.1, q4.1.1.2.2.1, q4.1.1.2.2.2.1, q4.1.1.2.2.2.2.1.1, q4.1.1.2.2.2.2.1.2.1.1, q4.1.1.2.2.2.2.1.2.1.2.1, q4.1.1.2.2.2.2.1.2.1.2.2.1, q4.1.1.2.2.2.2.1.2.1.2.2.2.1, q4.1.1.2.2.2.2.1.2.1.2.2.2.2.1, q4.1.1.2.2.2.2.1.2.1.2.2.2.2.2.1, q4.1.1.2.2.2.2.1.2.1.2.2.2.2.2.2.1, q4.1.1.2.2.2.2.1.2.1.2.2.2.2.2.2.2, q4.1.1.2.2.2.2.1.2.2.1, q4.1.1.2.2.2.2.1.2.2.2, q4.1.1.2.2.2.2.2.1.1, q4.1.1.2.2.2.2.2.1.2.1.1, q4.1.1.2.2.2.2.2.1.2.1.2.1, q4.1.1.2.2.2.2.2.1.2.1.2.2.1, q4.1.1.2.2.2.2.2.1.2.1.2.2.2.1, q4.1.1.2.2.2.2.2.1.2.1.2.2.2.2.1, q4.1.1.2.2.2.2.2.1.2.1.2.2.2.2.2.1, q4.1.1.2.2.2.2.2.1.2.1.2.2.2.2.2.2.1, q4.1.1.2.2.2.2.2.1.2.1.2.2.2.2.2.2.2, q4.1.1.2.2.2.2.2.1.2.2.1, q4.1.1.2.2.2.2.2.1.2.2.2, q4.1.1.2.2.2.2.2.2.1, q4.1.1.2.2.2.2.2.2.2, ()), ())
def S100 (k : Nat) (a b : Int) (c : List Y1_7) (e : List (PN Int 5)) (f h i : Bool) (l : List Y1_2) (m : List Int) (n : List Bool) (o : List Y1_6) (p : List Int) (s : List Bool) (t : List (PN Int 6)) (u v w y z A B C D G H I J : Int) (K : List Y1_20) (M : Bool) (N O P Q T U V W X : Int) (Z : List Y1_20) (a1 : Bool) (b1 : List Int) (c1 : Bool) : Option Y1_46 :=
 (bif y == 2 then
  (S48a k a b c e f h i l m n o p s t (0, 4, u, 0, A, 0)).bind fun q0 =>
  some ((true, ()), q0.2.1, (u, v, w, y, z, A, B, C, D, G, H, I, J, K, M, N, O, P, Q, T, U, V, W, X, Z, a1, b1, c1, ()), ())
 else
  (S48a k a b c e f h i l m n o p s t (0, 3, u, 0, A, 0)).bind fun q1 =>
  (bif y == 0 then
   ix q1.2.1.2.2.1 u <|
   (bif decide (((rd q1.2.1.2.2.1 u (0, 0, 0, [], [], [])).2.2.2.2.1.length : Int) > 0) then
    (S48a k q1.2.1.1 q1.2.1.2.1 q1.2.1.2.2.1 q1.2.1.2.2.2.1 q1.2.1.2.2.2.2.1 q1.2.1.2.2.2.2.2.1 q1.2.1.2.2.2.2.2.2.1 q1.2.1.2.2.2.2.2.2.2.1 q1.2.1.2.2.2.2.2.2.2.2.1 q1.2.1.2.2.2.2.2.2.2.2.2.1 q1.2.1.2.2.2.2.2.2.2.2.2.2.1 q1.2.1.2.2.2.2.2.2.2.2.2.2.2.1 q1.2.1.2.2.2.2.2.2.2.2.2.2.2.2.1 q1.2.1.2.2.2.2.2.2.2.2.2.2.2.2.2.1 (0, 8, u, 0, 0, 0)).bind fun q2 =>
    j100_8 k q2.2.1.1 q2.2.1.2.1 q2.2.1.2.2.1 q2.2.1.2.2.2.1 q2.2.1.2.2.2.2.1 q2.2.1.2.2.2.2.2.1 q2.2.1.2.2.2.2.2.2.1 q2.2.1.2.2.2.2.2.2.2.1 q2.2.1.2.2.2.2.2.2.2.2.1 q2.2.1.2.2.2.2.2.2.2.2.2.1 q2.2.1.2.2.2.2.2.2.2.2.2.2.1 q2.2.1.2.2.2.2.2.2.2.2.2.2.2.1 q2.2.1.2.2.2.2.2.2.2.2.2.2.2.2.1 q2.2.1.2.2.2.2.2.2.2.2.2.2.2.2.2.1 u v w y z A B C D G H I J K M N O P Q T U V W X Z a1 b1 c1
   else
    j100_8 k q1.2.1.1 q1.2.1.2.1 q1.2.1.2.2.1 q1.2.1.2.2.2.1 q1.2.1.2.2.2.2.1 q1.2.1.2.2.2.2.2.1 q1.2.1.2.2.2.2.2.2.1 q1.2.1.2.2.2.2.2.2.2.1 q1.2.1.2.2.2.2.2.2.2.2.1 q1.2.1.2.2.2.2.2.2.2.2.2.1 q1.2.1.2.2.2.2.2.2.2.2.2.2.1 q1.2.1.2.2.2.2.2.2.2.2.2.2.2.1 q1.2.1.2.2.2.2.2.2.2.2.2.2.2.2.1 q1.2.1.2.2.2.2.2.2.2.2.2.2.2.2.2.1 u v w y z A B C D G H I J K M N O P Q T U V W X Z a1 b1 c1)
  else
   j100_8 k q1.2.1.1 q1.2.1.2.1 q1.2.1.2.2.1 q1.2.1.2.2.2.1 q1.2.1.2.2.2.2.1 q1.2.1.2.2.2.2.2.1 q1.2.1.2.2.2.2.2.2.1 q1.2.1.2.2.2.2.2.2.2.1 q1.2.1.2.2.2.2.2.2.2.2.1 q1.2.1.2.2.2.2.2.2.2.2.2.1 q1.2.1.2.2.2.2.2.2.2.2.2.2.1 q1.2.1.2.2.2.2.2.2.2.2.2.2.2.1 q1.2.1.2.2.2.2.2.2.2.2.2.2.2.2.1 q1.2.1.2.2.2.2.2.2.2.2.2.2.2.2.2.1 u v w y z A B C D G H I J K M N O P Q T U V W X Z a1 b1 c1))
def F100 : Fn := ⟨[.mbox 77 [cI, cI, .own 43 Y1_3, .own 117 Y1_28, .cell .bool, .cell .bool, .cell .bool, .own 124 Y1_1, .own 3 (.int .i64), .own 4 .bool, .own 97 Y1_5, .own 3 (.int .i64), .own 4 .bool, .own 58 Y1_27], .mbox 124 [cI, cI, cI, cI, cI, cI, cI, cI, cI, cI, cI, cI, cI, .own 177 Y1_8, .cell .bool, cI, cI, cI, cI, cI, cI, cI, cI, cI, .own 177 Y1_8, .cell .bool, .own 3 (.int .i64), .cell .bool]], [.val ⟨false, .bool, true⟩], fun k x => S100 k x.1.1 x.1.2.1 x.1.2.2.1 x.1.2.2.2.1 x.1.2.2.2.2.1 x.1.2.2.2.2.2.1 x.1.2.2.2.2.2.2.1 x.1.2.2.2.2.2.2.2.1 x.1.2.2.2.2.2.2.2.2.1 x.1.2.2.2.2.2.2.2.2.2.1 x.1.2.2.2.2.2.2.2.2.2.2.1 x.1.2.2.2.2.2.2.2.2.2.2.2.1 x.1.2.2.2.2.2.2.2.2.2.2.2.2.1 x.1.2.2.2.2.2.2.2.2.2.2.2.2.2.1 x.2.1.1 x.2.1.2.1 x.2.1.2.2.1 x.2.1.2.2.2.1 x.2.1.2.2.2.2.1 x.2.1.2.2.2.2.2.1 x.2.1.2.2.2.2.2.2.1 x.2.1.2.2.2.2.2.2.2.1 x.2.1.2.2.2.2.2.2.2.2.1 x.2.1.2.2.2.2.2.2.2.2.2.1 x.2.1.2.2.2.2.2.2.2.2.2.2.1 x.2.1.2.2.2.2.2.2.2.2.2.2.2.1 x.2.1.2.2.2.2.2.2.2.2.2.2.2.2.1 x.2.1.2.2.2.2.2.2.2.2.2.2.2.2.2.1 x.2.1.2.2.2.2.2.2.2.2.2.2.2.2.2.2.1 x.2.1.2.2.2.2.2.2.2.2.2.2.2.2.2.2.2.1 x.2.1.2.2.2.2.2.2.2.2.2.2.2.2.2.2.2.2.1 x.2.1.2.2.2.2.2.2.2.2.2.2.2.2.2.2.2.2.2.1 x.2.1.2.2.2.2.2.2.2.2.2.2.2.2.2.2.2.2.2.2.1 x.2.1.2.2.2.2.2.2.2.2.2.2.2.2.2.2.2.2.2.2.2.1 x.2.1.2.2.2.2.2.2.2.2.2.2.2.2.2.2.2.2.2.2.2.2.1 x.2.1.2.2.2.2.2.2.2.2.2.2.2.2.2.2.2.2.2.2.2.2.2.1 x.2.1.2.2.2.2.2.2.2.2.2.2.2.2.2.2.2.2.2.2.2.2.2.2.1 x.2.1.2.2.2.2.2.2.2.2.2.2.2.2.2.2.2.2.2.2.2.2.2.2.2.1 x.2.1.2.2.2.2.2.2.2.2.2.2.2.2.2.2.2.2.2.2.2.2.2.2.2.2.1 x.2.1.2.2.2.2.2.2.2.2.2.2.2.2.2.2.2.2.2.2.2.2.2.2.2.2.2.1 x.2.1.2.2.2.2.2.2.2.2.2.2.2.2.2.2.2.2.2.2.2.2.2.2.2.2.2.2.1 x.2.1.2.2.2.2.2.2.2.2.2.2.2.2.2.2.2.2.2.2.2.2.2.2.2.2.2.2.2.1⟩
theorem ok100 : FnOK Tryz.prog 100 F100 := okF [(47, F47), (48, F48a), (148, F148)] [] (fun k => (.join 8 c100_J8 (fun d => j100_8 k d.1.1.1 d.1.1.2.1 d.1.1.2.2.1 d.1.1.2.2.2.1 d.1.1.2.2.2.2.1 d.1.1.2.2.2.2.2.1 d.1.1.2.2.2.2.2.2.1 d.1.1.2.2.2.2.2.2.2.1 d.1.1.2.2.2.2.2.2.2.2.1 d.1.1.2.2.2.2.2.2.2.2.2.1 d.1.1.2.2.2.2.2.2.2.2.2.2.1 d.1.1.2.2.2.2.2.2.2.2.2.2.2.1 d.1.1.2.2.2.2.2.2.2.2.2.2.2.2.1 d.1.1.2.2.2.2.2.2.2.2.2.2.2.2.2.1 d.1.2.1.1 d.1.2.1.2.1 d.1.2.1.2.2.1 d.1.2.1.2.2.2.1 d.1.2.1.2.2.2.2.1 d.1.2.1.2.2.2.2.2.1 d.1.2.1.2.2.2.2.2.2.1 d.1.2.1.2.2.2.2.2.2.2.1 d.1.2.1.2.2.2.2.2.2.2.2.1 d.1.2.1.2.2.2.2.2.2.2.2.2.1 d.1.2.1.2.2.2.2.2.2.2.2.2.2.1 d.1.2.1.2.2.2.2.2.2.2.2.2.2.2.1 d.1.2.1.2.2.2.2.2.2.2.2.2.2.2.2.1 d.1.2.1.2.2.2.2.2.2.2.2.2.2.2.2.2.1 d.1.2.1.2.2.2.2.2.2.2.2.2.2.2.2.2.2.1 d.1.2.1.2.2.2.2.2.2.2.2.2.2.2.2.2.2.2.1 d.1.2.1.2.2.2.2.2.2.2.2.2.2.2.2.2.2.2.2.1 d.1.2.1.2.2.2.2.2.2.2.2.2.2.2.2.2.2.2.2.2.1 d.1.2.1.2.2.2.2.2.2.2.2.2.2.2.2.2.2.2.2.2.2.1 d.1.2.1.2.2.2.2.2.2.2.2.2.2.2.2.2.2.2.2.2.2.2.1 d.1.2.1.2.2.2.2.2.2.2.2.2.2.2.2.2.2.2.2.2.2.2.2.1 d.1.2.1.2.2.2.2.2.2.2.2.2.2.2.2.2.2.2.2.2.2.2.2.2.1 d.1.2.1.2.2.2.2.2.2.2.2.2.2.2.2.2.2.2.2.2.2.2.2.2.2.1 d.1.2.1.2.2.2.2.2.2.2.2.2.2.2.2.2.2.2.2.2.2.2.2.2.2.2.1 d.1.2.1.2.2.2.2.2.2.2.2.2.2.2.2.2.2.2.2.2.2.2.2.2.2.2.2.1 d.1.2.1.2.2.2.2.2.2.2.2.2.2.2.2.2.2.2.2.2.2.2.2.2.2.2.2.2.1 d.1.2.1.2.2.2.2.2.2.2.2.2.2.2.2.2.2.2.2.2.2.2.2.2.2.2.2.2.2.1 d.1.2.1.2.2.2.2.2.2.2.2.2.2.2.2.2.2.2.2.2.2.2.2.2.2.2.2.2.2.2.1) .nil)) ⟨ok47, ok48a, ok148, trivial⟩ Tryz.func100 rfl
abbrev c55_J12 : Cut := ⟨[0, 1], [.pin false 0, .pin false 1], [.mbox 77 [cI, cI, .own 43 Y1_3, .own 117 Y1_28, .cell .bool, .cell .bool, .cell .bool, .own 124 Y1_1, .own 3 (.int .i64), .own 4 .bool, .own 97 Y1_5, .own 3 (.int .i64), .own 4 .bool, .own 58 Y1_27], .mbox 124 [cI, cI, cI, cI, cI, cI, cI, cI, cI, cI, cI, cI, cI, .own 177 Y1_8, .cell .bool, cI, cI, cI, cI, cI, cI, cI, cI, cI, .own 177 Y1_8, .cell .bool, .own 3 (.int .i64), .cell .bool]], 92, []⟩
def j55_12 (k : Nat) (a b : Int) (c : List Y1_7) (e : List (PN Int 5)) (f h i : Bool) (l : List Y1_2) (m : List Int) (n : List Bool) (o : List Y1_6) (p : List Int) (s : List Bool) (t : List (PN Int 6)) (u v w y z A B C D G H I J : Int) (K : List Y1_20) (M : Bool) (N O P Q T U V W X : Int) (Z : List Y1_20) (a1 : Bool) (b1 : List Int) (c1 : Bool) : Option Y1_46 :=
 (bif M then
  (S100 k a b c e f h i l m n o p s t u v w y z A B C D G H I J K M N O P Q T U V W X Z a1 b1 c1).bind fun q7 =>
  some ((q7.1.1, ()), q7.2.1, q7.2.2.1, ())
 else
  some ((false, ()), (a, b, c, e, f, h, i, l, m, n, o, p, s, t, ()), (u, v, w, y, z, A, B, C, D, G, H, I, J, K, M, N, O, P, Q, T, U, V, W, X, Z, a1, b1, c1, ()), ()))
def S55 (k : Nat) (a b : Int) (c : List Y1_7) (e : List (PN Int 5)) (f h i : Bool) (l : List Y1_2) (m : List Int) (n : List Bool) (o : List Y1_6) (p : List Int) (s : List Bool) (t : List (PN Int 6)) (u v w y z A B C D G H I J : Int) (K : List Y1_20) (M : Bool) (N O P Q T U V W X : Int) (Z : List Y1_20) (a1 : Bool) (b1 : List Int) (c1 : Bool) : Option Y1_46 :=
 ix c u <|
 (S97 k (rd c u (0, 0, 0, [], [], [])) (u, v, w, y, (z, (A, B, C, D, G, H, I, J), K, M), (N, (O, P, Q, T, U, V, W, X), Z, a1), b1, c1)).bind fun q0 =>
 (bif !q0.1.2.2.1 then
  some ((false, ()), (a, b, c, e, f, h, i, l, m, n, o, p, s, t, ()), (u, v, w, y, z, A, B, C, D, G, H, I, J, K, M, N, O, P, Q, T, U, V, W, X, Z, a1, b1, c1, ()), ())
 else
  (bif q0.1.2.1.1 == 9 then
   (S54 k (a, b, c, e, f, h, i, l, ((m, n), o), p, s)).bind fun q1 =>
   (S98 k q1.1.1 q0.1.2.1.2.1 q0.1.1.1).bind fun q2 =>
   (S72b k a b c e f h i l m n o p s t q2.1.1).bind fun q3 =>
   j55_12 k q3.2.1.1 q3.2.1.2.1 q3.2.1.2.2.1 q3.2.1.2.2.2.1 q3.2.1.2.2.2.2.1 q3.2.1.2.2.2.2.2.1 q3.2.1.2.2.2.2.2.2.1 q3.2.1.2.2.2.2.2.2.2.1 q3.2.1.2.2.2.2.2.2.2.2.1 q3.2.1.2.2.2.2.2.2.2.2.2.1 q3.2.1.2.2.2.2.2.2.2.2.2.2.1 q3.2.1.2.2.2.2.2.2.2.2.2.2.2.1 q3.2.1.2.2.2.2.2.2.2.2.2.2.2.2.1 q3.2.1.2.2.2.2.2.2.2.2.2.2.2.2.2.1 q0.1.1.1 q0.1.1.2.1 q0.1.1.2.2.1 q0.1.1.2.2.2.1 q0.1.1.2.2.2.2.1.1 q0.1.1.2.2.2.2.1.2.1.1 q0.1.1.2.2.2.2.1.2.1.2.1 q0.1.1.2.2.2.2.1.2.1.2.2.1 q0.1.1.2.2.2.2.1.2.1.2.2.2.1 q0.1.1.2.2.2.2.1.2.1.2.2.2.2.1 q0.1.1.2.2.2.2.1.2.1.2.2.2.2.2.1 q0.1.1.2.2.2.2.1.2.1.2.2.2.2.2.2.1 q0.1.1.2.2.2.2.1.2.1.2.2.2.2.2.2.2 q0.1.1.2.2.2.2.1.2.2.1 q0.1.1.2.2.2.2.1.2.2.2 q0.1.1.2.2.2.2.2.1.1 q0.1.1.2.2.2.2.2.1.2.1.1 q0.1.1.2.2.2.2.2.1.2.1.2.1 q0.1.1.2.2.2.2.2.1.2.1.2.2.1 q0.1.1.2.2.2.2.2.1.2.1.2.2.2.1 q0.1.1.2.2.2.2.2.1.2.1.2.2.2.2.1 q0.1.1.2.2.2.2.2.1.2.1.2.2.2.2.2.1 q0.1.1.2.2.2.2.2.1.2.1.2.2.2.2.2.2.1 q0.1.1.2.2.2.2.2.1.2.1.2.2.2.2.2.2.2 q0.1.1.2.2.2.2.2.1.2.2.1 q0.1.1.2.2.2.2.2.1.2.2.2 q0.1.1.2.2.2.2.2.2.1 q0.1.1.2.2.2.2.2.2.2
  else
   (bif q0.1.2.1.1 == 10 then
    (S54 k (a, b, c, e, f, h, i, l, ((m, n), o), p, s)).bind fun q4 =>
    (S99 k q4.1.1 q0.1.2.1.2.1 q0.1.1.1).bind fun q5 =>
    (S72b k a b c e f h i l m n o p s t q5.1.1).bind fun q6 =>
    j55_12 k q6.2.1.1 q6.2.1.2.1 q6.2.1.2.2.1 q6.2.1.2.2.2.1 q6.2.1.2.2.2.2.1 q6.2.1.2.2.2.2.2.1 q6.2.1.2.2.2.2.2.2.1 q6.2.1.2.2.2.2.2.2.2.1 q6.2.1.2.2.2.2.2.2.2.2.1 q6.2.1.2.2.2.2.2.2.2.2.2.1 q6.2.1.2.2.2.2.2.2.2.2.2.2.1 q6.2.1.2.2.2.2.2.2.2.2.2.2.2.1 q6.2.1.2.2.2.2.2.2.2.2.2.2.2.2.1 q6.2.1.2.2.2.2.2.2.2.2.2.2.2.2.2.1 q0.1.1.1 q0.1.1.2.1 q0.1.1.2.2.1 q0.1.1.2.2.2.1 q0.1.1.2.2.2.2.1.1 q0.1.1.2.2.2.2.1.2.1.1 q0.1.1.2.2.2.2.1.2.1.2.1 q0.1.1.2.2.2.2.1.2.1.2.2.1 q0.1.1.2.2.2.2.1.2.1.2.2.2.1 q0.1.1.2.2.2.2.1.2.1.2.2.2.2.1 q0.1.1.2.2.2.2.1.2.1.2.2.2.2.2.1 q0.1.1.2.2.2.2.1.2.1.2.2.2.2.2.2.1 q0.1.1.2.2.2.2.1.2.1.2.2.2.2.2.2.2 q0.1.1.2.2.2.2.1.2.2.1 q0.1.1.2.2.2.2.1.2.2.2 q0.1.1.2.2.2.2.2.1.1 q0.1.1.2.2.2.2.2.1.2.1.1 q0.1.1.2.2.2.2.2.1.2.1.2.1 q0.1.1.2.2.2.2.2.1.2.1.2.2.1 q0.1.1.2.2.2.2.2.1.2.1.2.2.2.1 q0.1.1.2.2.2.2.2.1.2.1.2.2.2.2.1 q0.1.1.2.2.2.2.2.1.2.1.2.2.2.2.2.1 q0.1.1.2.2.2.2.2.1.2.1.2.2.2.2.2.2.1 q0.1.1.2.2.2.2.2.1.2.1.2.2.2.2.2.2.2 q0.1.1.2.2.2.2.2.1.2.2.1 q0.1.1.2.2.2.2.2.1.2.2.2 q0.1.1.2.2.2.2.2.2.1 q0.1.1.2.2.2.2.2.2.2
   else
    j55_12 k a b c e f h i l m n o p s t q0.1.1.1 q0.1.1.2.1 q0.1.1.2.2.1 q0.1.1.2.2.2.1 q0.1.1.2.2.2.2.1.1 q0.1.1.2.2.2.2.1.2.1.1 q0.1.1.2.2.2.2.1.2.1.2.1 q0.1.1.2.2.2.2.1.2.1.2.2.1 q0.1.1.2.2.2.2.1.2.1.2.2.2.1 q0.1.1.2.2.2.2.1.2.1.2.2.2.2.1 q0.1.1.2.2.2.2.1.2.1.2.2.2.2.2.1 q0.1.1.2.2.2.2.1.2.1.2.2.2.2.2.2.1 q0.1.1.2.2.2.2.1.2.1.2.2.2.2.2.2.2 q0.1.1.2.2.2.2.1.2.2.1 q0.1.1.2.2.2.2.1.2.2.2 q0.1.1.2.2.2.2.2.1.1 q0.1.1.2.2.2.2.2.1.2.1.1 q0.1.1.2.2.2.2.2.1.2.1.2.1 q0.1.1.2.2.2.2.2.1.2.1.2.2.1 q0.1.1.2.2.2.2.2.1.2.1.2.2.2.1 q0.1.1.2.2.2.2.2.1.2.1.2.2.2.2.1 q0.1.1.2.2.2.2.2.1.2.1.2.2.2.2.2.1 q0.1.1.2.2.2.2.2.1.2.1.2.2.2.2.2.2.1 q0.1.1.2.2.2.2.2.1.2.1.2.2.2.2.2.2.2 q0.1.1.2.2.2.2.2.1.2.2.1 q0.1.1.2.2.2.2.2.1.2.2.2 q0.1.1.2.2.2.2.2.2.1 q0.1.1.2.2.2.2.2.2.2)))
def F55 : Fn := ⟨[.mbox 77 [cI, cI, .own 43 Y1_3, .own 117 Y1_28, .cell .bool, .cell .bool, .cell .bool, .own 124 Y1_1, .own 3 (.int .i64), .own 4 .bool, .own 97 Y1_5, .own 3 (.int .i64), .own 4 .bool, .own 58 Y1_27], .mbox 124 [cI, cI, cI, cI, cI, cI, cI, cI, cI, cI, cI, cI, cI, .cell (.sl 177 Y1_8), .cell .bool, cI, cI, cI, cI, cI, cI, cI, cI, cI, .cell (.sl 177 Y1_8), .cell .bool, .cell Y1_13, .cell .bool]], [.val ⟨false, .bool, true⟩], fun k x => S55 k x.1.1 x.1.2.1 x.1.2.2.1 x.1.2.2.2.1 x.1.2.2.2.2.1 x.1.2.2.2.2.2.1 x.1.2.2.2.2.2.2.1 x.1.2.2.2.2.2.2.2.1 x.1.2.2.2.2.2.2.2.2.1 x.1.2.2.2.2.2.2.2.2.2.1 x.1.2.2.2.2.2.2.2.2.2.2.1 x.1.2.2.2.2.2.2.2.2.2.2.2.1 x.1.2.2.2.2.2.2.2.2.2.2.2.2.1 x.1.2.2.2.2.2.2.2.2.2.2.2.2.2.1 x.2.1.1 x.2.1.2.1 x.2.1.2.2.1 x.2.1.2.2.2.1 x.2.1.2.2.2.2.1 x.2.1.2.2.2.2.2.1 x.2.1.2.2.2.2.2.2.1 x.2.1.2.2.2.2.2.2.2.1 x.2.1.2.2.2.2.2.2.2.2.1 x.2.1.2.2.2.2.2.2.2.2.2.1 x.2.1.2.2.2.2.2.2.2.2.2.2.1 x.2.1.2.2.2.2.2.2.2.2.2.2.2.1 x.2.1.2.2.2.2.2.2.2.2.2.2.2.2.1 x.2.1.2.2.2.2.2.2.2.2.2.2.2.2.2.1 x.2.1.2.2.2.2.2.2.2.2.2.2.2.2.2.2.1 x.2.1.2.2.2.2.2.2.2.2.2.2.2.2.2.2.2.1 x.2.1.2.2.2.2.2.2.2.2.2.2.2.2.2.2.2.2.1 x.2.1.2.2.2.2.2.2.2.2.2.2.2.2.2.2.2.2.2.1 x.2.1.2.2.2.2.2.2.2.2.2.2.2.2.2.2.2.2.2.2.1 x.2.1.2.2.2.2.2.2.2.2.2.2.2.2.2.2.2.2.2.2.2.1 x.2.1.2.2.2.2.2.2.2.2.2.2.2.2.2.2.2.2.2.2.2.2.1 x.2.1.2.2.2.2.2.2.2.2.2.2.2.2.2.2.2.2.2.2.2.2.2.1 x.2.1.2.2.2.2.2.2.2.2.2.2.2.2.2.2.2.2.2.2.2.2.2.2.1 x.2.1.2.2.2.2.2.2.2.2.2.2.2.2.2.2.2.2.2.2.2.2.2.2.2.1 x.2.1.2.2.2.2.2.2.2.2.2.2.2.2.2.2.2.2.2.2.2.2.2.2.2.2.1 x.2.1.2.2.2.2.2.2.2.2.2.2.2.2.2.2.2.2.2.2.2.2.2.2.2.2.2.1 x.2.1.2.2.2.2.2.2.2.2.2.2.2.2.2.2.2.2.2.2.2.2.2.2.2.2.2.2.1 x.2.1.2.2.2.2.2.2.2.2.2.2.2.2.2.2.2.2.2.2.2.2.2.2.2.2.2.2.2.1⟩
theorem ok55 : FnOK Tryz.prog 55 F55 := okF [(54, F54), (72, F72b), (97, F97), (98, F98), (99, F99), (100, F100)] [] (fun k => (.join 12 c55_J12 (fun d => j55_12 k d.1.1.1 d.1.1.2.1 d.1.1.2.2.1 d.1.1.2.2.2.1 d.1.1.2.2.2.2.1 d.1.1.2.2.2.2.2.1 d.1.1.2.2.2.2.2.2.1 d.1.1.2.2.2.2.2.2.2.1 d.1.1.2.2.2.2.2.2.2.2.1 d.1.1.2.2.2.2.2.2.2.2.2.1 d.1.1.2.2.2.2.2.2.2.2.2.2.1 d.1.1.2.2.2.2.2.2.2.2.2.2.2.1 d.1.1.2.2.2.2.2.2.2.2.2.2.2.2.1 d.1.1.2.2.2.2.2.2.2.2.2.2.2.2.2.1 d.1.2.1.1 d.1.2.1.2.1 d.1.2.1.2.2.1 d.1.2.1.2.2.2.1 d.1.2.1.2.2.2.2.1 d.1.2.1.2.2.2.2.2.1 d.1.2.1.2.2.2.2.2.2.1 d.1.2.1.2.2.2.2.2.2.2.1 d.1.2.1.2.2.2.2.2.2.2.2.1 d.1.2.1.2.2.2.2.2.2.2.2.2.1 d.1.2.1.2.2.2.2.2.2.2.2.2.2.1 d.1.2.1.2.2.2.2.2.2.2.2.2.2.2.1 d.1.2.1.2.2.2.2.2.2.2.2.2.2.2.2.1 d.1.2.1.2.2.2.2.2.2.2.2.2.2.2.2.2.1 d.1.2.1.2.2.2.2.2.2.2.2.2.2.2.2.2.2.1 d.1.2.1.2.2.2.2.2.2.2.2.2.2.2.2.2.2.2.1 d.1.2.1.2.2.2.2.2.2.2.2.2.2.2.2.2.2.2.2.1 d.1.2.1.2.2.2.2.2.2.2.2.2.2.2.2.2.2.2.2.2.1 d.1.2.1.2.2.2.2.2.2.2.2.2.2.2.2.2.2.2.2.2.2.1 d.1.2.1.2.2.2.2.2.2.2.2.2.2.2.2.2.2.2.2.2.2.2.1 d.1.2.1.2.2.2.2.2.2.2.2.2.2.2.2.2.2.2.2.2.2.2.2.1 d.1.2.1.2.2.2.2.2.2.2.2.2.2.2.2.2.2.2.2.2.2.2.2.2.1 d.1.2.1.2.2.2.2.2.2.2.2.2.2.2.2.2.2.2.2.2.2.2.2.2.2.1 d.1.2.1.2.2.2.2.2.2.2.2.2.2.2.2.2.2.2.2.2.2.2.2.2.2.2.1 d.1.2.1.2.2.2.2.2.2.2.2.2.2.2.2.2.2.2.2.2.2.2.2.2.2.2.2.1 d.1.2.1.2.2.2.2.2.2.2.2.2.2.2.2.2.2.2.2.2.2.2.2.2.2.2.2.2.1 d.1.2.1.2.2.2.2.2.2.2.2.2.2.2.2.2.2.2.2.2.2.2.2.2.2.2.2.2.2.1 d.1.2.1.2.2.2.2.2.2.2.2.2.2.2.2.2.2.2.2.2.2.2.2.2.2.2.2.2.2.2.1) .nil)) ⟨ok54, ok72b, ok97, ok98, ok99, ok100, trivial⟩ Tryz.func55 rfl
def S28 (k : Nat) (a b : Int) (c : List Y1_7) (e : List (PN Int 5)) (f h i : Bool) (l : List Y1_2) (m : List Int) (n : List Bool) (o : List Y1_6) (p : List Int) (s : List Bool) (t : List (PN Int 6)) : Option Y1_16 :=
 (S54 k (a, b, c, e, f, h, i, l, ((m, n), o), p, s)).bind fun q0 =>
 (S53 k l (c.length : Int) q0.1.1).bind fun q1 =>
 (bif h then
  some ((), (a, b, c, e, f, h, i, l, m, n, o, p, s, t, ()), ())
 else
  (bif !q1.1.2.1 then
   some ((), (a, b, c, e, f, h, i, l, m, n, o, p, s, t, ()), ())
  else
   ix l q1.1.1 <|
   (S48a k a b c e f h i l m n o p s t (0, 2, (rd l q1.1.1 (0, 0, 0, 0, (0, prep (α := Int) 8 0, [], false), (0, prep (α := Int) 8 0, [], false), [], false)).1, 0, 0, 0)).bind fun q2 =>
   (bif q2.2.1.2.2.2.2.2.2.1 then
    (S56 k q2.2.1.1 q2.2.1.2.1 q2.2.1.2.2.1 q2.2.1.2.2.2.1 q2.2.1.2.2.2.2.1 q2.2.1.2.2.2.2.2.1 q2.2.1.2.2.2.2.2.2.1 q2.2.1.2.2.2.2.2.2.2.1 q2.2.1.2.2.2.2.2.2.2.2.1 q2.2.1.2.2.2.2.2.2.2.2.2.1 q2.2.1.2.2.2.2.2.2.2.2.2.2.1 q2.2.1.2.2.2.2.2.2.2.2.2.2.2.1 q2.2.1.2.2.2.2.2.2.2.2.2.2.2.2.1 q2.2.1.2.2.2.2.2.2.2.2.2.2.2.2.2.1 (rd l q1.1.1 (0, 0, 0, 0, (0, prep (α := Int) 8 0, [], false), (0, prep (α := Int) 8 0, [], false), [], false)).1 (rd l q1.1.1 (0, 0, 0, 0, (0, prep (α := Int) 8 0, [], false), (0, prep (α := Int) 8 0, [], false), [], false)).2.1 (rd l q1.1.1 (0, 0, 0, 0, (0, prep (α := Int) 8 0, [], false), (0, prep (α := Int) 8 0, [], false), [], false)).2.2.1 (rd l q1.1.1 (0, 0, 0, 0, (0, prep (α := Int) 8 0, [], false), (0, prep (α := Int) 8 0, [], false), [], false)).2.2.2.1 (rd l q1.1.1 (0, 0, 0, 0, (0, prep (α := Int) 8 0, [], false), (0, prep (α := Int) 8 0, [], false), [], false)).2.2.2.2.1.1 (rd l q1.1.1 (0, 0, 0, 0, (0, prep (α := Int) 8 0, [], false), (0, prep (α := Int) 8 0, [], false), [], false)).2.2.2.2.1.2.1.1 (rd l q1.1.1 (0, 0, 0, 0, (0, prep (α := Int) 8 0, [], false), (0, prep (α := Int) 8 0, [], false), [], false)).2.2.2.2.1.2.1.2.1 (rd l q1.1.1 (0, 0, 0, 0, (0, prep (α := Int) 8 0, [], false), (0, prep (α := Int) 8 0, [], false), [], false)).2.2.2.2.1.2.1.2.2.1 (rd l q1.1.1 (0, 0, 0, 0, (0, prep (α := Int) 8 0, [], false), (0, prep (α := Int) 8 0, [], false), [], false)).2.2.2.2.1.2.1.2.2.2.1 (rd l q1.1.1 (0, 0, 0, 0, (0, prep (α := Int) 8 0, [], false), (0, prep (α := Int) 8 0, [], false), [], false)).2.2.2.2.1.2.1.2.2.2.2.1 (rd l q1.1.1 (0, 0, 0, 0, (0, prep (α := Int) 8 0, [], false), (0, prep (α := Int) 8 0, [], false), [], false)).2.2.2.2.1.2.1.2.2.2.2.2.1 (rd l q1.1.1 (0, 0, 0, 0, (0, prep (α := Int) 8 0, [], false), (0, prep (α := Int) 8 0, [], false), [], false)).2.2.2.2.1.2.1.2.2.2.2.2.2.1 (rd l q1.1.1 (0, 0, 0, 0, (0, prep (α := Int) 8 0, [], false), (0, prep (α := Int) 8 0, [], false), [], false)).2.2.2.2.1.2.1.2.2.2.2.2.2.2 (rd l q1.1.1 (0, 0, 0, 0, (0, prep (α := Int) 8 0, [], false), (0, prep (α := Int) 8 0, [], false), [], false)).2.2.2.2.1.2.2.1 (rd l q1.1.1 (0, 0, 0, 0, (0, prep (α := Int) 8 0, [], false), (0, prep (α := Int) 8 0, [], false), [], false)).2.2.2.2.1.2.2.2 (rd l q1.1.1 (0, 0, 0, 0, (0, prep (α := Int) 8 0, [], false), (0, prep (α := Int) 8 0, [], false), [], false)).2.2.2.2.2.1.1 (rd l q1.1.1 (0, 0, 0, 0, (0, prep (α := Int) 8 0, [], false), (0, prep (α := Int) 8 0, [], false), [], false)).2.2.2.2.2.1.2.1.1 (rd l q1.1.1 (0, 0, 0, 0, (0, prep (α := Int) 8 0, [], false), (0, prep (α := Int) 8 0, [], false), [], false)).2.2.2.2.2.1.2.1.2.1 (rd l q1.1.1 (0, 0, 0, 0, (0, prep (α := Int) 8 0, [], false), (0, prep (α := Int) 8 0, [], false), [], false)).2.2.2.2.2.1.2.1.2.2.1 (rd l q1.1.1 (0, 0, 0, 0, (0, prep (α := Int) 8 0, [], false), (0, prep (α := Int) 8 0, [], false), [], false)).2.2.2.2.2.1.2.1.2.2.2.1 (rd l q1.1.1 (0, 0, 0, 0, (0, prep (α := Int) 8 0, [], false), (0, prep (α := Int) 8 0, [], false), [], false)).2.2.2.2.2.1.2.1.2.2.2.2.1 (rd l q1.1.1 (0, 0, 0, 0, (0, prep (α := Int) 8 0, [], false), (0, prep (α := Int) 8 0, [], false), [], false)).2.2.2.2.2.1.2.1.2.2.2.2.2.1 (rd l q1.1.1 (0, 0, 0, 0, (0, prep (α := Int) 8 0, [], false), (0, prep (α := Int) 8 0, [], false), [], false)).2.2.2.2.2.1.2.1.2.2.2.2.2.2.1 (rd l q1.1.1 (0, 0, 0, 0, (0, prep (α := Int) 8 0, [], false), (0, prep (α := Int) 8 0, [], false), [], false)).2.2.2.2.2.1.2.1.2.2.2.2.2.2.2 (rd l q1.1.1 (0, 0, 0, 0, (0, prep (α := Int) 8 0, [], false), (0, prep (α := Int) 8 0, [], false), [], false)).2.2.2.2.2.1.2.2.1 (rd l q1.1.1 (0, 0, 0, 0, (0, prep (α := Int) 8 0, [], false), (0, prep (α := Int) 8 0, [], false), [], false)).2.2.2.2.2.1.2.2.2 (rd l q1.1.1 (0, 0, 0, 0, (0, prep (α := Int) 8 0, [], false), (0, prep (α := Int) 8 0, [], false), [], false)).2.2.2.2.2.2.1 (rd l q1.1.1 (0, 0, 0, 0, (0, prep (α := Int) 8 0, [], false), (0, prep (α := Int) 8 0, [], false), [], false)).2.2.2.2.2.2.2).bind fun q3 =>
    ix q3.2.1.2.2.2.2.2.2.2.1 q1.1.1 <|
    let r4 : List Y1_2 := upd q3.2.1.2.2.2.2.2.2.2.1 q1.1.1 (q3.2.2.1.1, q3.2.2.1.2.1, q3.2.2.1.2.2.1, q3.2.2.1.2.2.2.1, (q3.2.2.1.2.2.2.2.1, (q3.2.2.1.2.2.2.2.2.1, q3.2.2.1.2.2.2.2.2.2.1, q3.2.2.1.2.2.2.2.2.2.2.1, q3.2.2.1.2.2.2.2.2.2.2.2.1, q3.2.2.1.2.2.2.2.2.2.2.2.2.1, q3.2.2.1.2.2.2.2.2.2.2.2.2.2.1, q3.2.2.1.2.2.2.2.2.2.2.2.2.2.2.1, q3.2.2.1.2.2.2.2.2.2.2.2.2.2.2.2.1), q3.2.2.1.2.2.2.2.2.2.2.2.2.2.2.2.2.1, q3.2.2.1.2.2.2.2.2.2.2.2.2.2.2.2.2.2.1), (q3.2.2.1.2.2.2.2.2.2.2.2.2.2.2.2.2.2.2.1, (q3.2.2.1.2.2.2.2.2.2.2.2.2.2.2.2.2.2.2.2.1, q3.2.2.1.2.2.2.2.2.2.2.2.2.2.2.2.2.2.2.2.2.1, q3.2.2.1.2.2.2.2.2.2.2.2.2.2.2.2.2.2.2.2.2.2.1, q3.2.2.1.2.2.2.2.2.2.2.2.2.2.2.2.2.2.2.2.2.2.2.1, q3.2.2.1.2.2.2.2.2.2.2.2.2.2.2.2.2.2.2.2.2.2.2.2.1, q3.2.2.1.2.2.2.2.2.2.2.2.2.2.2.2.2.2.2.2.2.2.2.2.2.1, q3.2.2.1.2.2.2.2.2.2.2.2.2.2.2.2.2.2.2.2.2.2.2.2.2.2.1, q3.2.2.1.2.2.2.2.2.2.2.2.2.2.2.2.2.2.2.2.2.2.2.2.2.2.2.1), q3.2.2.1.2.2.2.2.2.2.2.2.2.2.2.2.2.2.2.2.2.2.2.2.2.2.2.2.1, q3.2.2.1.2.2.2.2.2.2.2.2.2.2.2.2.2.2.2.2.2.2.2.2.2.2.2.2.2.1), q3.2.2.1.2.2.2.2.2.2.2.2.2.2.2.2.2.2.2.2.2.2.2.2.2.2.2.2.2.2.1, q3.2.2.1.2.2.2.2.2.2.2.2.2.2.2.2.2.2.2.2.2.2.2.2.2.2.2.2.2.2.2.1)
    (bif q3.1.1 then
     (S57 k r4 q1.1.1 (IntKind.i64.wrap (q1.1.1 + 1))).bind fun q5 =>
     some ((), (q3.2.1.1, q3.2.1.2.1, q3.2.1.2.2.1, q3.2.1.2.2.2.1, q3.2.1.2.2.2.2.1, q3.2.1.2.2.2.2.2.1, q3.2.1.2.2.2.2.2.2.1, q5.1.1, q3.2.1.2.2.2.2.2.2.2.2.1, q3.2.1.2.2.2.2.2.2.2.2.2.1, q3.2.1.2.2.2.2.2.2.2.2.2.2.1, q3.2.1.2.2.2.2.2.2.2.2.2.2.2.1, q3.2.1.2.2.2.2.2.2.2.2.2.2.2.2.1, q3.2.1.2.2.2.2.2.2.2.2.2.2.2.2.2.1, ()), ())
    else
     some ((), (q3.2.1.1, q3.2.1.2.1, q3.2.1.2.2.1, q3.2.1.2.2.2.1, q3.2.1.2.2.2.2.1, q3.2.1.2.2.2.2.2.1, q3.2.1.2.2.2.2.2.2.1, r4, q3.2.1.2.2.2.2.2.2.2.2.1, q3.2.1.2.2.2.2.2.2.2.2.2.1, q3.2.1.2.2.2.2.2.2.2.2.2.2.1, q3.2.1.2.2.2.2.2.2.2.2.2.2.2.1, q3.2.1.2.2.2.2.2.2.2.2.2.2.2.2.1, q3.2.1.2.2.2.2.2.2.2.2.2.2.2.2.2.1, ()), ()))
   else
    (S55 k q2.2.1.1 q2.2.1.2.1 q2.2.1.2.2.1 q2.2.1.2.2.2.1 q2.2.1.2.2.2.2.1 q2.2.1.2.2.2.2.2.1 q2.2.1.2.2.2.2.2.2.1 q2.2.1.2.2.2.2.2.2.2.1 q2.2.1.2.2.2.2.2.2.2.2.1 q2.2.1.2.2.2.2.2.2.2.2.2.1 q2.2.1.2.2.2.2.2.2.2.2.2.2.1 q2.2.1.2.2.2.2.2.2.2.2.2.2.2.1 q2.2.1.2.2.2.2.2.2.2.2.2.2.2.2.1 q2.2.1.2.2.2.2.2.2.2.2.2.2.2.2.2.1 (rd l q1.1.1 (0, 0, 0, 0, (0, prep (α := Int) 8 0, [], false), (0, prep (α := Int) 8 0, [], false), [], false)).1 (rd l q1.1.1 (0, 0, 0, 0, (0, prep (α := Int) 8 0, [], false), (0, prep (α := Int) 8 0, [], false), [], false)).2.1 (rd l q1.1.1 (0, 0, 0, 0, (0, prep (α := Int) 8 0, [], false), (0, prep (α := Int) 8 0, [], false), [], false)).2.2.1 (rd l q1.1.1 (0, 0, 0, 0, (0, prep (α := Int) 8 0, [], false), (0, prep (α := Int) 8 0, [], false), [], false)).2.2.2.1 (rd l q1.1.1 (0, 0, 0, 0, (0, prep (α := Int) 8 0, [], false), (0, prep (α := Int) 8 0, [], false), [], false)).2.2.2.2.1.1 (rd l q1.1.1 (0, 0, 0, 0, (0, prep (α := Int) 8 0, [], false), (0, prep (α := Int) 8 0, [], false), [], false)).2.2.2.2.1.2.1.1 (rd l q1.1.1 (0, 0, 0, 0, (0, prep (α := Int) 8 0, [], false), (0, prep (α := Int) 8 0, [], false), [], false)).2.2.2.2.1.2.1.2.1 (rd l q1.1.1 (0, 0, 0, 0, (0, prep (α := Int) 8 0, [], false), (0, prep (α := Int) 8 0, [], false), [], false)).2.2.2.2.1.2.1.2.2.1 (rd l q1.1.1 (0, 0, 0, 0, (0, prep (α := Int) 8 0, [], false), (0, prep (α := Int) 8 0, [], false), [], false)).2.2.2.2.1.2.1.2.2.2.1 (rd l q1.1.1 (0, 0, 0, 0, (0, prep (α := Int) 8 0, [], false), (0, prep (α := Int) 8 0, [], false), [], false)).2.2.2.2.1.2.1.2.2.2.2.1 (rd l q1.1.1 (0, 0, 0, 0, (0, prep (α := Int) 8 0, [], false), (0, prep (α := Int) 8 0, [], false), [], false)).2.2.2.2.1.2.1.2.2.2.2.2.1 (rd l q1.1.1 (0, 0, 0, 0, (0, prep (α := Int) 8 0, [], false), (0, prep (α := Int) 8 0, [], false), [], false)).2.2.2.2.1.2.1.2.2.2.2.2.2.1 (rd l q1.1.1 (0, 0, 0, 0, (0, prep (α := Int) 8 0, [], false), (0, prep (α := Int) 8 0, [], false), [], false)).2.2.2.2.1.2.1.2.2.2.2.2.2.2 (rd l q1.1.1 (0, 0, 0, 0, (0, prep (α := Int) 8 0, [], false), (0, prep (α := Int) 8 0, [], false), [], false)).2.2.2.2.1.2.2.1 (rd l q1.1.1 (0, 0, 0, 0, (0, prep (α := Int) 8 0, [], false), (0, prep (α := Int) 8 0, [], false), [], false)).2.2.2.2.1.2.2.2 (rd l q1.1.1 (0, 0, 0, 0, (0, prep (α := Int) 8 0, [], false), (0, prep (α := Int) 8 0, [], false), [], false)).2.2.2.2.2.1.1 (rd l q1.1.1 (0, 0, 0, 0, (0, prep (α := Int) 8 0, [], false), (0, prep (α := Int) 8 0, [], false), [], false)).2.2.2.2.2.1.2.1.1 (rd l q1.1.1 (0, 0, 0, 0, (0, prep (α := Int) 8 0, [], false), (0, prep (α := Int) 8 0, [], false), [], false)).2.2.2.2.2.1.2.1.2.1 (rd l q1.1.1 (0, 0, 0, 0, (0, prep (α := Int) 8 0, [], false), (0, prep (α := Int) 8 0, [], false), [], false)).2.2.2.2.2.1.2.1.2.2.1 (rd l q1.1.1 (0, 0, 0, 0, (0, prep (α := Int) 8 0, [], false), (0, prep (α := Int) 8 0, [], false), [], false)).2.2.2.2.2.1.2.1.2.2.2.1 (rd l q1.1.1 (0, 0, 0, 0, (0, prep (α := Int) 8 0, [], false), (0, prep (α := Int) 8 0, [], false), [], false)).2.2.2.2.2.1.2.1.2.2.2.2.1 (rd l q1.1.1 (0, 0, 0, 0, (0, prep (α := Int) 8 0, [], false), (0, prep (α := Int) 8 0, [], false), [], false)).2.2.2.2.2.1.2.1.2.2.2.2.2.1 (rd l q1.1.1 (0, 0, 0, 0, (0, prep (α := Int) 8 0, [], false), (0, prep (α := Int) 8 0, [], false), [], false)).2.2.2.2.2.1.2.1.2.2.2.2.2.2.1 (rd l q1.1.1 (0, 0, 0, 0, (0, prep (α := Int) 8 0, [], false), (0, prep (α := Int) 8 0, [], false), [], false)).2.2.2.2.2.1.2.1.2.2.2.2.2.2.2 (rd l q1.1.1 (0, 0, 0, 0, (0, prep (α := Int) 8 0, [], false), (0, prep (α := Int) 8 0, [], false), [], false)).2.2.2.2.2.1.2.2.1 (rd l q1.1.1 (0, 0, 0, 0, (0, prep (α := Int) 8 0, [], false), (0, prep (α := Int) 8 0, [], false), [], false)).2.2.2.2.2.1.2.2.2 (rd l q1.1.1 (0, 0, 0, 0, (0, prep (α := Int) 8 0, [], false), (0, prep (α := Int) 8 0, [], false), [], false)).2.2.2.2.2.2.1 (rd l q1.1.1 (0, 0, 0, 0, (0, prep (α := Int) 8 0, [], false), (0, prep (α := Int) 8 0, [], false), [], false)).2.2.2.2.2.2.2).bind fun q6 =>
    ix q6.2.1.2.2.2.2.2.2.2.1 q1.1.1 <|
    let r7 : List Y1_2 := upd q6.2.1.2.2.2.2.2.2.2.1 q1.1.1 (q6.2.2.1.1, q6.2.2.1.2.1, q6.2.2.1.2.2.1, q6.2.2.1.2.2.2.1, (q6.2.2.1.2.2.2.2.1, (q6.2.2.1.2.2.2.2.2.1, q6.2.2.1.2.2.2.2.2.2.1, q6.2.2.1.2.2.2.2.2.2.2.1, q6.2.2.1.2.2.2.2.2.2.2.2.1, q6.2.2.1.2.2.2.2.2.2.2.2.2.1, q6.2.2.1.2.2.2.2.2.2.2.2.2.2.1, q6.2.2.1.2.2.2.2.2.2.2.2.2.2.2.1, q6.2.2.1.2.2.2.2.2.2.2.2.2.2.2.2.1), q6.2.2.1.2.2.2.2.2.2.2.2.2.2.2.2.2.1, q6.2.2.1.2.2.2.2.2.2.2.2.2.2.2.2.2.2.1), (q6.2.2.1.2.2.2.2.2.2.2.2.2.2.2.2.2.2.2.1, (q6.2.2.1.2.2.2.2.2.2.2.2.2.2.2.2.2.2.2.2.1, q6.2.2.1.2.2.2.2.2.2.2.2.2.2.2.2.2.2.2.2.2.1, q6.2.2.1.2.2.2.2.2.2.2.2.2.2.2.2.2.2.2.2.2.2.1, q6.2.2.1.2.2.2.2.2.2.2.2.2.2.2.2.2.2.2.2.2.2.2.1, q6.2.2.1.2.2.2.2.2.2.2.2.2.2.2.2.2.2.2.2.2.2.2.2.1, q6.2.2.1.2.2.2.2.2.2.2.2.2.2.2.2.2.2.2.2.2.2.2.2.2.1, q6.2.2.1.2.2.2.2.2.2.2.2.2.2.2.2.2.2.2.2.2.2.2.2.2.2.1, q6.2.2.1.2.2.2.2.2.2.2.2.2.2.2.2.2.2.2.2.2.2.2.2.2.2.2.1), q6.2.2.1.2.2.2.2.2.2.2.2.2.2.2.2.2.2.2.2.2.2.2.2.2.2.2.2.1, q6.2.2.1.2.2.2.2.2.2.2.2.2.2.2.2.2.2.2.2.2.2.2.2.2.2.2.2.2.1), q6.2.2.1.2.2.2.2.2.2.2.2.2.2.2.2.2.2.2.2.2.2.2.2.2.2.2.2.2.2.1, q6.2.2.1.2.2.2.2.2.2.2.2.2.2.2.2.2.2.2.2.2.2.2.2.2.2.2.2.2.2.2.1)
    (bif q6.1.1 then
     (S57 k r7 q1.1.1 (IntKind.i64.wrap (q1.1.1 + 1))).bind fun q8 =>
     some ((), (q6.2.1.1, q6.2.1.2.1, q6.2.1.2.2.1, q6.2.1.2.2.2.1, q6.2.1.2.2.2.2.1, q6.2.1.2.2.2.2.2.1, q6.2.1.2.2.2.2.2.2.1, q8.1.1, q6.2.1.2.2.2.2.2.2.2.2.1, q6.2.1.2.2.2.2.2.2.2.2.2.1, q6.2.1.2.2.2.2.2.2.2.2.2.2.1, q6.2.1.2.2.2.2.2.2.2.2.2.2.2.1, q6.2.1.2.2.2.2.2.2.2.2.2.2.2.2.1, q6.2.1.2.2.2.2.2.2.2.2.2.2.2.2.2.1, ()), ())
    else
     some ((), (q6.2.1.1, q6.2.1.2.1, q6.2.1.2.2.1, q6.2.1.2.2.2.1, q6.2.1.2.2.2.2.1, q6.2.1.2.2.2.2.2.1, q6.2.1.2.2.2.2.2.2.1, r7, q6.2.1.2.2.2.2.2.2.2.2.1, q6.2.1.2.2.2.2.2.2.2.2.2.1, q6.2.1.2.2.2.2.2.2.2.2.2.2.1, q6.2.1.2.2.2.2.2.2.2.2.2.2.2.1, q6.2.1.2.2.2.2.2.2.2.2.2.2.2.2.1, q6.2.1.2.2.2.2.2.2.2.2.2.2.2.2.2.1, ()), ())))))
def F28 : Fn := ⟨[.mbox 77 [cI, cI, .own 43 Y1_3, .own 117 Y1_28, .cell .bool, .cell .bool, .cell .bool, .own 124 Y1_1, .own 3 (.int .i64), .own 4 .bool, .own 97 Y1_5, .own 3 (.int .i64), .own 4 .bool, .own 58 Y1_27]], [], fun k x => S28 k x.1.1 x.1.2.1 x.1.2.2.1 x.1.2.2.2.1 x.1.2.2.2.2.1 x.1.2.2.2.2.2.1 x.1.2.2.2.2.2.2.1 x.1.2.2.2.2.2.2.2.1 x.1.2.2.2.2.2.2.2.2.1 x.1.2.2.2.2.2.2.2.2.2.1 x.1.2.2.2.2.2.2.2.2.2.2.1 x.1.2.2.2.2.2.2.2.2.2.2.2.1 x.1.2.2.2.2.2.2.2.2.2.2.2.2.1 x.1.2.2.2.2.2.2.2.2.2.2.2.2.2.1⟩
theorem ok28 : FnOK Tryz.prog 28 F28 := okF [(48, F48a), (53, F53), (54, F54), (55, F55), (56, F56), (57, F57)] [] (fun k => .nil) ⟨ok48a, ok53, ok54, ok55, ok56, ok57, trivial⟩ Tryz.func28 rfl
def S10 (k : Nat) (a : Y1_51) : Option ((Y1_49 × (List (PN Int 6)) × Unit) × Unit) :=
 (S24 k a).bind fun q0 =>
 (bif q0.1.1.2.2.2.2.1 then
  (bif !q0.1.1.2.2.2.2.2.1 then
   (S25 k q0.1.1.1 q0.1.1.2.1 q0.1.1.2.2.1 q0.1.1.2.2.2.1 q0.1.1.2.2.2.2.1 q0.1.1.2.2.2.2.2.1 q0.1.1.2.2.2.2.2.2.1 q0.1.1.2.2.2.2.2.2.2.1 q0.1.1.2.2.2.2.2.2.2.2.1.1.1 q0.1.1.2.2.2.2.2.2.2.2.1.1.2 q0.1.1.2.2.2.2.2.2.2.2.1.2 q0.1.1.2.2.2.2.2.2.2.2.2.1 q0.1.1.2.2.2.2.2.2.2.2.2.2 ([] : List (PN Int 6))).bind fun q1 =>
   (S26 k q1.2.1.1 q1.2.1.2.1 q1.2.1.2.2.1 q1.2.1.2.2.2.1 q1.2.1.2.2.2.2.1 q1.2.1.2.2.2.2.2.1 q1.2.1.2.2.2.2.2.2.1 q1.2.1.2.2.2.2.2.2.2.1 q1.2.1.2.2.2.2.2.2.2.2.1 q1.2.1.2.2.2.2.2.2.2.2.2.1 q1.2.1.2.2.2.2.2.2.2.2.2.2.1 q1.2.1.2.2.2.2.2.2.2.2.2.2.2.1 q1.2.1.2.2.2.2.2.2.2.2.2.2.2.2.1 q1.2.1.2.2.2.2.2.2.2.2.2.2.2.2.2.1).bind fun q2 =>
   (S27 k q2.2.1.1 q2.2.1.2.1 q2.2.1.2.2.1 q2.2.1.2.2.2.1 q2.2.1.2.2.2.2.1 q2.2.1.2.2.2.2.2.1 q2.2.1.2.2.2.2.2.2.1 q2.2.1.2.2.2.2.2.2.2.1 q2.2.1.2.2.2.2.2.2.2.2.1 q2.2.1.2.2.2.2.2.2.2.2.2.1 q2.2.1.2.2.2.2.2.2.2.2.2.2.1 q2.2.1.2.2.2.2.2.2.2.2.2.2.2.1 q2.2.1.2.2.2.2.2.2.2.2.2.2.2.2.1 q2.2.1.2.2.2.2.2.2.2.2.2.2.2.2.2.1).bind fun q3 =>
   (S28 k q3.2.1.1 q3.2.1.2.1 q3.2.1.2.2.1 q3.2.1.2.2.2.1 q3.2.1.2.2.2.2.1 q3.2.1.2.2.2.2.2.1 q3.2.1.2.2.2.2.2.2.1 q3.2.1.2.2.2.2.2.2.2.1 q3.2.1.2.2.2.2.2.2.2.2.1 q3.2.1.2.2.2.2.2.2.2.2.2.1 q3.2.1.2.2.2.2.2.2.2.2.2.2.1 q3.2.1.2.2.2.2.2.2.2.2.2.2.2.1 q3.2.1.2.2.2.2.2.2.2.2.2.2.2.2.1 q3.2.1.2.2.2.2.2.2.2.2.2.2.2.2.2.1).bind fun q4 =>
   some (((IntKind.i64.wrap (q4.2.1.1 + 1), q4.2.1.2.1, q4.2.1.2.2.1, q4.2.1.2.2.2.1, q4.2.1.2.2.2.2.1, q4.2.1.2.2.2.2.2.1, false, q4.2.1.2.2.2.2.2.2.2.1, ((q4.2.1.2.2.2.2.2.2.2.2.1, q4.2.1.2.2.2.2.2.2.2.2.2.1), q4.2.1.2.2.2.2.2.2.2.2.2.2.1), q4.2.1.2.2.2.2.2.2.2.2.2.2.2.1, q4.2.1.2.2.2.2.2.2.2.2.2.2.2.2.1), q4.2.1.2.2.2.2.2.2.2.2.2.2.2.2.2.1, ()), ())
  else
   some (((IntKind.i64.wrap (q0.1.1.1 + 1), q0.1.1.2.1, q0.1.1.2.2.1, q0.1.1.2.2.2.1, q0.1.1.2.2.2.2.1, q0.1.1.2.2.2.2.2.1, false, q0.1.1.2.2.2.2.2.2.2), ([] : List (PN Int 6)), ()), ()))
 else
  some (((IntKind.i64.wrap (q0.1.1.1 + 1), q0.1.1.2.1, q0.1.1.2.2.1, q0.1.1.2.2.2.1, q0.1.1.2.2.2.2.1, q0.1.1.2.2.2.2.2.1, false, q0.1.1.2.2.2.2.2.2.2), ([] : List (PN Int 6)), ()), ()))
def F10 : Fn := ⟨[.val ⟨true, Y1_18, false⟩], [.val ⟨true, Y1_18, true⟩, .val ⟨false, (.sl 58 Y1_27), true⟩], fun k x => S10 k x.1⟩
theorem ok10 : FnOK Tryz.prog 10 F10 := okF [(24, F24), (25, F25), (26, F26), (27, F27), (28, F28)] [(8, 2)] (fun k => .nil) ⟨ok24, ok25, ok26, ok27, ok28, trivial⟩ Tryz.func10 rfl
abbrev c6_J24 : Cut := ⟨[0, 3, 6, 7, 8, 9, 10, 11, 12, 14], [.cell (.sl 5 (.int .u8)), .box 36 [cI, cI, .cell (.sl 43 Y1_3), .cell (.sl 117 Y1_28), .cell .bool, .cell .bool, .cell .bool, .cell Y1_47, .cell Y1_13, .cell Y1_37, .cell (.sl 97 Y1_5), .cell Y1_13, .cell Y1_37], .box 54 [cI, cI, cI, cI], cI, cI, cI, cI, .box 36 [cI, cI, .own 43 Y1_3, .own 117 Y1_28, .cell .bool, .cell .bool, .cell .bool, .own 124 Y1_1, .own 3 (.int .i64), .own 4 .bool, .own 97 Y1_5, .own 3 (.int .i64), .own 4 .bool], .own 58 Y1_27, .cell .bool], [], 170, []⟩
def j6_24 (k : Nat) (g12 : Y1_21) (a : List Int) (b c : Int) (e : List Y1_7) (f : List (PN Int 5)) (h i l : Bool) (m : List Y1_2) (n : List Int) (o : List Bool) (p : List Y1_6) (s : List Int) (t : List Bool) (u v w y z A B C x D : Int) (G : List Y1_7) (H : List (PN Int 5)) (I J K : Bool) (M : List Y1_2) (N : List Int) (O : List Bool) (P : List Y1_6) (Q : List Int) (T : List Bool) (U : List (PN Int 6)) (V : Bool) : Option Y1_34 :=
 (bif V then
  g12 a x D G H I J K M N O P Q T u v w y z A B (IntKind.i64.wrap (C + 1))
 else
  (bif decide (B > 0) then
   (bif (U.length : Int) != 1 then
    some ((false, ()), ())
   else
    ix U 0 <|
    (bif (rd U 0 (prep (α := Int) 6 0)).2.1 != 12 then
     some ((false, ()), ())
    else
     ix U 0 <|
     (bif (rd U 0 (prep (α := Int) 6 0)).2.2.2.1 != 1 then
      some ((false, ()), ())
     else
      ix U 0 <|
      (bif (rd U 0 (prep (α := Int) 6 0)).2.2.2.2.1 != (IntKind.i64.wrap (z + 1)) then
       some ((false, ()), ())
      else
       g12 a x D G H I J K M N O P Q T u v w y (IntKind.i64.wrap (z + 1)) (IntKind.i64.wrap (z + 1)) 0 (IntKind.i64.wrap (C + 1))))))
  else
   (bif (U.length : Int) != 0 then
    some ((false, ()), ())
   else
    g12 a x D G H I J K M N O P Q T u v w y (IntKind.i64.wrap (z + 1)) A B (IntKind.i64.wrap (C + 1)))))
abbrev c6_L12 : Cut := ⟨[0, 3, 6, 7, 8, 9, 10], [.cell (.sl 5 (.int .u8)), .box 36 [cI, cI, .own 43 Y1_3, .own 117 Y1_28, .cell .bool, .cell .bool, .cell .bool, .own 124 Y1_1, .own 3 (.int .i64), .own 4 .bool, .own 97 Y1_5, .own 3 (.int .i64), .own 4 .bool], .box 54 [cI, cI, cI, cI], cI, cI, cI, cI], [], 170, []⟩
def l6_12 (k : Nat) (g12 : Y1_21) (a : List Int) (b c : Int) (e : List Y1_7) (f : List (PN Int 5)) (h i l : Bool) (m : List Y1_2) (n : List Int) (o : List Bool) (p : List Y1_6) (s : List Int) (t : List Bool) (u v w y z A B C : Int) : Option Y1_34 :=
 (bif decide (C < (a.length : Int)) then
  ix a C <|
  (bif (Int.tmod (rd a C 0) 3) == 0 then
   (S9 k (b, c, e, f, h, i, l, m, ((n, o), p), s, t) (7, (0, 0, 0, [], [], []), (v, w), 0, IntKind.i64.wrap (z + 1), 0)).bind fun q3 =>
   (bif (q3.1.2.2.1.1 == 0) == (decide ((IntKind.i64.wrap (z - A)) ≥ 4)) then
    some ((false, ()), ())
   else
    (bif decide ((IntKind.i64.wrap (z - A)) ≥ 4) then
     (bif q3.1.2.2.1.1 != 4 then
      some ((false, ()), ())
     else
      j6_24 k g12 a b c e f h i l m n o p s t u v w y z A B C q3.1.1.1 q3.1.1.2.1 q3.1.1.2.2.1 q3.1.1.2.2.2.1 q3.1.1.2.2.2.2.1 q3.1.1.2.2.2.2.2.1 q3.1.1.2.2.2.2.2.2.1 q3.1.1.2.2.2.2.2.2.2.1 q3.1.1.2.2.2.2.2.2.2.2.1.1.1 q3.1.1.2.2.2.2.2.2.2.2.1.1.2 q3.1.1.2.2.2.2.2.2.2.2.1.2 q3.1.1.2.2.2.2.2.2.2.2.2.1 q3.1.1.2.2.2.2.2.2.2.2.2.2 q3.1.2.1 (decide ((IntKind.i64.wrap (z - A)) ≥ 4)))
    else
     j6_24 k g12 a b c e f h i l m n o p s t u v w y z A B C q3.1.1.1 q3.1.1.2.1 q3.1.1.2.2.1 q3.1.1.2.2.2.1 q3.1.1.2.2.2.2.1 q3.1.1.2.2.2.2.2.1 q3.1.1.2.2.2.2.2.2.1 q3.1.1.2.2.2.2.2.2.2.1 q3.1.1.2.2.2.2.2.2.2.2.1.1.1 q3.1.1.2.2.2.2.2.2.2.2.1.1.2 q3.1.1.2.2.2.2.2.2.2.2.1.2 q3.1.1.2.2.2.2.2.2.2.2.2.1 q3.1.1.2.2.2.2.2.2.2.2.2.2 q3.1.2.1 (decide ((IntKind.i64.wrap (z - A)) ≥ 4))))
  else
   (bif (Int.tmod (rd a C 0) 3) == 1 then
    (S9 k (b, c, e, f, h, i, l, m, ((n, o), p), s, t) (8, (0, 0, 0, [], [], []), (v, w), 1, 0, 0)).bind fun q4 =>
    (bif decide (z > A) then
     (bif q4.1.2.2.1.1 != 0 then
      some ((false, ()), ())
     else
      (bif q4.1.2.2.1.2.2 != (IntKind.i64.wrap (A + 1)) then
       some ((false, ()), ())
      else
       g12 a q4.1.1.1 q4.1.1.2.1 q4.1.1.2.2.1 q4.1.1.2.2.2.1 q4.1.1.2.2.2.2.1 q4.1.1.2.2.2.2.2.1 q4.1.1.2.2.2.2.2.2.1 q4.1.1.2.2.2.2.2.2.2.1 q4.1.1.2.2.2.2.2.2.2.2.1.1.1 q4.1.1.2.2.2.2.2.2.2.2.1.1.2 q4.1.1.2.2.2.2.2.2.2.2.1.2 q4.1.1.2.2.2.2.2.2.2.2.2.1 q4.1.1.2.2.2.2.2.2.2.2.2.2 u v w y z (IntKind.i64.wrap (A + 1)) B (IntKind.i64.wrap (C + 1))))
    else
     (bif decide (B > 0) then
      (bif q4.1.2.2.1.1 != 1 then
       some ((false, ()), ())
      else
       (bif B == 0 then
        (bif q4.1.2.2.1.1 != 16 then
         some ((false, ()), ())
        else
         g12 a q4.1.1.1 q4.1.1.2.1 q4.1.1.2.2.1 q4.1.1.2.2.2.1 q4.1.1.2.2.2.2.1 q4.1.1.2.2.2.2.2.1 q4.1.1.2.2.2.2.2.2.1 q4.1.1.2.2.2.2.2.2.2.1 q4.1.1.2.2.2.2.2.2.2.2.1.1.1 q4.1.1.2.2.2.2.2.2.2.2.1.1.2 q4.1.1.2.2.2.2.2.2.2.2.1.2 q4.1.1.2.2.2.2.2.2.2.2.2.1 q4.1.1.2.2.2.2.2.2.2.2.2.2 u v w y z A 1 (IntKind.i64.wrap (C + 1)))
       else
        g12 a q4.1.1.1 q4.1.1.2.1 q4.1.1.2.2.1 q4.1.1.2.2.2.1 q4.1.1.2.2.2.2.1 q4.1.1.2.2.2.2.2.1 q4.1.1.2.2.2.2.2.2.1 q4.1.1.2.2.2.2.2.2.2.1 q4.1.1.2.2.2.2.2.2.2.2.1.1.1 q4.1.1.2.2.2.2.2.2.2.2.1.1.2 q4.1.1.2.2.2.2.2.2.2.2.1.2 q4.1.1.2.2.2.2.2.2.2.2.2.1 q4.1.1.2.2.2.2.2.2.2.2.2.2 u v w y z A 1 (IntKind.i64.wrap (C + 1))))
     else
      (bif B == 0 then
       (bif q4.1.2.2.1.1 != 16 then
        some ((false, ()), ())
       else
        g12 a q4.1.1.1 q4.1.1.2.1 q4.1.1.2.2.1 q4.1.1.2.2.2.1 q4.1.1.2.2.2.2.1 q4.1.1.2.2.2.2.2.1 q4.1.1.2.2.2.2.2.2.1 q4.1.1.2.2.2.2.2.2.2.1 q4.1.1.2.2.2.2.2.2.2.2.1.1.1 q4.1.1.2.2.2.2.2.2.2.2.1.1.2 q4.1.1.2.2.2.2.2.2.2.2.1.2 q4.1.1.2.2.2.2.2.2.2.2.2.1 q4.1.1.2.2.2.2.2.2.2.2.2.2 u v w y z A 1 (IntKind.i64.wrap (C + 1)))
      else
       g12 a q4.1.1.1 q4.1.1.2.1 q4.1.1.2.2.1 q4.1.1.2.2.2.1 q4.1.1.2.2.2.2.1 q4.1.1.2.2.2.2.2.1 q4.1.1.2.2.2.2.2.2.1 q4.1.1.2.2.2.2.2.2.2.1 q4.1.1.2.2.2.2.2.2.2.2.1.1.1 q4.1.1.2.2.2.2.2.2.2.2.1.1.2 q4.1.1.2.2.2.2.2.2.2.2.1.2 q4.1.1.2.2.2.2.2.2.2.2.2.1 q4.1.1.2.2.2.2.2.2.2.2.2.2 u v w y z A 1 (IntKind.i64.wrap (C + 1)))))
   else
    (S10 k (b, c, e, f, h, i, l, m, ((n, o), p), s, t)).bind fun q5 =>
    (bif (q5.1.2.1.length : Int) != 0 then
     some ((false, ()), ())
    else
     g12 a q5.1.1.1 q5.1.1.2.1 q5.1.1.2.2.1 q5.1.1.2.2.2.1 q5.1.1.2.2.2.2.1 q5.1.1.2.2.2.2.2.1 q5.1.1.2.2.2.2.2.2.1 q5.1.1.2.2.2.2.2.2.2.1 q5.1.1.2.2.2.2.2.2.2.2.1.1.1 q5.1.1.2.2.2.2.2.2.2.2.1.1.2 q5.1.1.2.2.2.2.2.2.2.2.1.2 q5.1.1.2.2.2.2.2.2.2.2.2.1 q5.1.1.2.2.2.2.2.2.2.2.2.2 u v w y z A B (IntKind.i64.wrap (C + 1)))))
 else
  some ((true, ()), ()))
def b6_12 (k : Nat) (g : ((Unit) × (List Int) × Y1_42 × (Int × Int × Int × Int × Unit) × Int × Int × Int × Int × Unit) → Option Y1_34) (d : (Unit) × (List Int) × Y1_42 × (Int × Int × Int × Int × Unit) × Int × Int × Int × Int × Unit) : Option Y1_34 := l6_12 k (fun a b c e f h i l m n o p s t u v w y z A B C => g ((), a, (b, c, e, f, h, i, l, m, n, o, p, s, t, ()), (u, v, w, y, ()), z, A, B, C, ())) d.2.1 d.2.2.1.1 d.2.2.1.2.1 d.2.2.1.2.2.1 d.2.2.1.2.2.2.1 d.2.2.1.2.2.2.2.1 d.2.2.1.2.2.2.2.2.1 d.2.2.1.2.2.2.2.2.2.1 d.2.2.1.2.2.2.2.2.2.2.1 d.2.2.1.2.2.2.2.2.2.2.2.1 d.2.2.1.2.2.2.2.2.2.2.2.2.1 d.2.2.1.2.2.2.2.2.2.2.2.2.2.1 d.2.2.1.2.2.2.2.2.2.2.2.2.2.2.1 d.2.2.1.2.2.2.2.2.2.2.2.2.2.2.2.1 d.2.2.2.1.1 d.2.2.2.1.2.1 d.2.2.2.1.2.2.1 d.2.2.2.1.2.2.2.1 d.2.2.2.2.1 d.2.2.2.2.2.1 d.2.2.2.2.2.2.1 d.2.2.2.2.2.2.2.1
def L6_12 (k a : Nat) (b : List Int) (c e : Int) (f : List Y1_7) (h : List (PN Int 5)) (i l m : Bool) (n : List Y1_2) (o : List Int) (p : List Bool) (s : List Y1_6) (t : List Int) (u : List Bool) (v w y z A B C D : Int) : Option Y1_34 := iter (R := (Bool × Unit) × Unit) c6_L12 (b6_12 k) a ((), b, (c, e, f, h, i, l, m, n, o, p, s, t, u, ()), (v, w, y, z, ()), A, B, C, D, ())
theorem L6_12_s (k a b c e f h i l m n o p s t u v w y z A B C D) : L6_12 k (a + 1) b c e f h i l m n o p s t u v w y z A B C D = l6_12 k (L6_12 k a) b c e f h i l m n o p s t u v w y z A B C D := iter_succ _ _ _ _
def S6 (k : Nat) (a : List Int) : Option Y1_34 :=
 (S7 k).bind fun q0 =>
 (bif !q0.1.1 then
  some ((false, ()), ())
 else
  (bif decide ((a.length : Int) > 60) then
   some ((true, ()), ())
  else
   (S8 k 10).bind fun q1 =>
   (S9 k q1.1.1 (3, (0, 0, 0, [], [], []), (0, 0), 0, 0, 0)).bind fun q2 =>
   (bif !q1.1.2.1 then
    some ((false, ()), ())
   else
    (bif q2.1.2.2.1.1 != 0 then
     some ((false, ()), ())
    else
     L6_12 k k a q2.1.1.1 q2.1.1.2.1 q2.1.1.2.2.1 q2.1.1.2.2.2.1 q2.1.1.2.2.2.2.1 q2.1.1.2.2.2.2.2.1 q2.1.1.2.2.2.2.2.2.1 q2.1.1.2.2.2.2.2.2.2.1 q2.1.1.2.2.2.2.2.2.2.2.1.1.1 q2.1.1.2.2.2.2.2.2.2.2.1.1.2 q2.1.1.2.2.2.2.2.2.2.2.1.2 q2.1.1.2.2.2.2.2.2.2.2.2.1 q2.1.1.2.2.2.2.2.2.2.2.2.2 q2.1.2.2.1.1 q2.1.2.2.1.2.1.1 q2.1.2.2.1.2.1.2 q2.1.2.2.1.2.2 0 0 0 0))))
def F6 : Fn := ⟨[.val ⟨false, (.sl 5 (.int .u8)), false⟩], [.val ⟨false, .bool, true⟩], fun k x => S6 k x.1⟩
theorem ok6 : FnOK Tryz.prog 6 F6 := okF [(7, F7), (8, F8), (9, F9), (10, F10)] [] (fun k => (.loop 12 c6_L12 (b6_12 k) (fun g => (fun (g12 : Y1_21) => (.join 24 c6_J24 (fun d => j6_24 k g12 d.2.1 d.2.2.1.1 d.2.2.1.2.1 d.2.2.1.2.2.1 d.2.2.1.2.2.2.1 d.2.2.1.2.2.2.2.1 d.2.2.1.2.2.2.2.2.1 d.2.2.1.2.2.2.2.2.2.1 d.2.2.1.2.2.2.2.2.2.2.1 d.2.2.1.2.2.2.2.2.2.2.2.1 d.2.2.1.2.2.2.2.2.2.2.2.2.1 d.2.2.1.2.2.2.2.2.2.2.2.2.2.1 d.2.2.1.2.2.2.2.2.2.2.2.2.2.2.1 d.2.2.1.2.2.2.2.2.2.2.2.2.2.2.2.1 d.2.2.2.1.1 d.2.2.2.1.2.1 d.2.2.2.1.2.2.1 d.2.2.2.1.2.2.2.1 d.2.2.2.2.1 d.2.2.2.2.2.1 d.2.2.2.2.2.2.1 d.2.2.2.2.2.2.2.1 d.2.2.2.2.2.2.2.2.1.1 d.2.2.2.2.2.2.2.2.1.2.1 d.2.2.2.2.2.2.2.2.1.2.2.1 d.2.2.2.2.2.2.2.2.1.2.2.2.1 d.2.2.2.2.2.2.2.2.1.2.2.2.2.1 d.2.2.2.2.2.2.2.2.1.2.2.2.2.2.1 d.2.2.2.2.2.2.2.2.1.2.2.2.2.2.2.1 d.2.2.2.2.2.2.2.2.1.2.2.2.2.2.2.2.1 d.2.2.2.2.2.2.2.2.1.2.2.2.2.2.2.2.2.1 d.2.2.2.2.2.2.2.2.1.2.2.2.2.2.2.2.2.2.1 d.2.2.2.2.2.2.2.2.1.2.2.2.2.2.2.2.2.2.2.1 d.2.2.2.2.2.2.2.2.1.2.2.2.2.2.2.2.2.2.2.2.1 d.2.2.2.2.2.2.2.2.1.2.2.2.2.2.2.2.2.2.2.2.2.1 d.2.2.2.2.2.2.2.2.2.1 d.2.2.2.2.2.2.2.2.2.2.1) .nil)) (fun l_1 k_ k_1 k_2 k_3 k_4 k_5 k_6 k_7 k_8 k_9 k_10 k_11 k_12 a a1 a2 a3 posted came waits i => g ((), l_1, (k_, k_1, k_2, k_3, k_4, k_5, k_6, k_7, k_8, k_9, k_10, k_11, k_12, ()), (a, a1, a2, a3, ()), posted, came, waits, i, ()))) .nil)) ⟨ok7, ok8, ok9, ok10, trivial⟩ Tryz.func6 rfl
end
end Go.Proofs.YtjemccmhbjfnaaaGreat.Ab
