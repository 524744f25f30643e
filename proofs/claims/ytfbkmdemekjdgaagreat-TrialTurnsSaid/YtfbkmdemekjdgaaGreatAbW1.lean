import Derived.Test.YtfbkmdemekjdgaaGreatAbW0
/- Contracts, printed by this session's own program gen.py. -/
set_option linter.unusedVariables false
set_option linter.unusedSimpArgs false
set_option maxRecDepth 100000
namespace Go.Proofs.YtfbkmdemekjdgaaGreat.Ab
open Go.RowKit
abbrev Y1_0 : Type := Int × Int × (List (Int × Int × Int × (List (Int × Int × Int × Int)) × (List (Int × Int × Int × Int)) × List (Int × Int × Int × Int))) × (List (PN Int 5)) × Bool × Bool × Bool × (List (Int × Int × Int × Int × (Int × (PN Int 8) × (List (Int × Int × Int)) × Bool) × (Int × (PN Int 8) × (List (Int × Int × Int)) × Bool) × (List Int) × Bool)) × (List Int) × (List Bool) × (List (Int × (Int × Int) × (Int × Int) × ((List Int) × List Int) × (Int × List (Int × Int)) × Int)) × (List Int) × (List Bool) × (List (PN Int 6)) × Unit
abbrev Y1_1 : Ty := .pair (.int .i64) (.pair (.int .i64) (.pair (.int .i64) (.pair (.int .i64) (.pair (.pair (.int .i64) (.pair (arrT 8 (.int .i64)) (.pair (.sl 189 (.pair (.int .i64) (.pair (.int .i64) (.int .i64)))) .bool))) (.pair (.pair (.int .i64) (.pair (arrT 8 (.int .i64)) (.pair (.sl 189 (.pair (.int .i64) (.pair (.int .i64) (.int .i64)))) .bool))) (.pair (.sl 3 (.int .i64)) .bool))))))
abbrev Y1_2 : Type := Int × Int × Int × Int × (Int × (PN Int 8) × (List (Int × Int × Int)) × Bool) × (Int × (PN Int 8) × (List (Int × Int × Int)) × Bool) × (List Int) × Bool
abbrev Y1_3 : Ty := .pair (.int .i64) (.pair (.int .i64) (.pair (.int .i64) (.pair (.sl 24 (.pair (.int .i64) (.pair (.int .i64) (.pair (.int .i64) (.int .i64))))) (.pair (.sl 24 (.pair (.int .i64) (.pair (.int .i64) (.pair (.int .i64) (.int .i64))))) (.sl 24 (.pair (.int .i64) (.pair (.int .i64) (.pair (.int .i64) (.int .i64)))))))))
abbrev Y1_4 : Type := Int × Int × (List (Int × Int × Int × (List (Int × Int × Int × Int)) × (List (Int × Int × Int × Int)) × List (Int × Int × Int × Int))) × (List (PN Int 5)) × Bool × Bool × Bool × (List Y1_2) × (List Int) × (List Bool) × (List (Int × (Int × Int) × (Int × Int) × ((List Int) × List Int) × (Int × List (Int × Int)) × Int)) × (List Int) × (List Bool) × Int × Int × Int × Int × (List (Int × Int × Int × Int)) × (List (Int × Int × Int × Int)) × (List (Int × Int × Int × Int)) × Int × Int × Int × Int × Int × (List (PN Int 6)) × Int × Int × Int × Int × Unit
abbrev Y1_5 : Ty := .pair (.int .i64) (.pair (.pair (.int .i64) (.int .i64)) (.pair (.pair (.int .i64) (.int .i64)) (.pair (.pair (.sl 2 (.int .i64)) (.sl 3 (.int .i64))) (.pair (.pair (.int .u32) (.sl 126 (.pair (.int .i64) (.int .u32)))) (.int .u32)))))
abbrev Y1_6 : Type := Int × (Int × Int) × (Int × Int) × ((List Int) × List Int) × (Int × List (Int × Int)) × Int
abbrev Y1_7 : Type := Int × Int × Int × (List (Int × Int × Int × Int)) × (List (Int × Int × Int × Int)) × List (Int × Int × Int × Int)
abbrev Y1_8 : Ty := .pair (.int .i64) (.pair (.int .i64) (.int .i64))
abbrev Y1_9 : Type := Int → Int → (List Y1_7) → (List (PN Int 5)) → Bool → Bool → Bool → (List Y1_2) → (List Int) → (List Bool) → (List Y1_6) → (List Int) → (List Bool) → (List (PN Int 6)) → (List (List Int)) → (List Int) → Int → Int → Option ((Unit) × Y1_0 × Unit)
abbrev Y1_10 : Type := Int × Int × Int × Int × Int × Int × Int × Int × Int × Int × Int × Int × Int × (List (Int × Int × Int)) × Bool × Int × Int × Int × Int × Int × Int × Int × Int × Int × (List (Int × Int × Int)) × Bool × (List Int) × Bool × Unit
abbrev Y1_11 : Type := (Int × Int × (List Y1_7) × (List (PN Int 5)) × Bool × Bool × Bool × (List Y1_2) × (((List Int) × List Bool) × List Y1_6) × (List Int) × List Bool) × (List (PN Int 6)) × (Int × (Int × Int) × Int) × Unit
abbrev Y1_12 : Type := Int × (PN Int 8) × (List (Int × Int × Int)) × Bool
abbrev Y1_13 : Ty := .pair (.int .i64) (.pair (.int .i64) (.pair (.sl 27 Y1_3) (.pair (.sl 134 (arrT 5 (.int .i64))) (.pair .bool (.pair .bool (.pair .bool (.pair (.sl 103 Y1_1) (.pair (.pair (.pair (.sl 3 (.int .i64)) (.sl 4 .bool)) (.sl 95 Y1_5)) (.pair (.sl 3 (.int .i64)) (.sl 4 .bool))))))))))
abbrev Y1_14 : Type := Int × Int × Int × Int
abbrev Y1_15 : Ty := .pair (.int .i64) (.int .i64)
abbrev Y1_16 : Ty := .sl 3 (.int .i64)
abbrev Y1_17 : Ty := .sl 24 (.pair (.int .i64) Y1_8)
abbrev Y1_18 : Type := (Unit) × Y1_0 × Unit
abbrev Y1_19 : Type := List (Int × Int)
abbrev Y1_20 : Type := ((((List Int) × List Bool) × List Y1_6) × (List Int) × (List (List Int)) × Unit) × Unit
abbrev Y1_21 : Type := Int × Int × Int
abbrev Y1_22 : Type := (Int × Bool × Unit) × Unit
abbrev Y1_23 : Type := (Int × Unit) × Unit
abbrev Y1_24 : Ty := .pair (.int .i64) (.int .u32)
abbrev Y1_25 : Type := Int × Int × Int × Int × Y1_12 × Y1_12 × (List Int) × Bool
abbrev Y1_26 : Ty := arrT 6 (.int .i64)
abbrev Y1_27 : Type := List (Int × Int)
abbrev Y1_28 : Ty := .pair (.int .i64) (.pair (arrT 8 (.int .i64)) (.pair (.sl 189 Y1_8) .bool))
abbrev Y1_29 : Ty := arrT 5 (.int .i64)
abbrev Y1_30 : Type := (List Int) → (List Bool) → (List Y1_6) → (List Int) → (List Bool) → (List Y1_6) → (List Int) → (List (List Int)) → (List Y1_6) → Int → Int → Option Y1_20
abbrev Y1_31 : Type := ((List Int) × Unit) × Unit
abbrev Y1_32 : Type := Int × List (Int × Int)
abbrev Y1_33 : Type := Int × Int × (List Y1_7) × (List (PN Int 5)) × Bool × Bool × Bool × (List Y1_2) × (((List Int) × List Bool) × List Y1_6) × (List Int) × List Bool
abbrev Y1_34 : Type := (Unit) × Y1_4 × Unit
abbrev Y1_35 : Type := Int → Int → (List Y1_7) → (List (PN Int 5)) → Bool → Bool → Bool → (List Y1_2) → (List Int) → (List Bool) → (List Y1_6) → (List Int) → (List Bool) → (List (PN Int 6)) → Y1_19 → (List Int) → Int → Int → Option Y1_18
abbrev Y1_36 : Ty := .pair (.pair Y1_16 (.sl 4 .bool)) (.sl 95 Y1_5)
abbrev Y1_37 : Type := List (List Int)
abbrev Y1_38 : Type := (Y1_2 × Y1_14 × Bool × Unit) × Unit
abbrev Y1_39 : Type := Int × Int × Int × (List Y1_14) × (List Y1_14) × List Y1_14
abbrev Y1_40 : Type := (Y1_32 × (List Int) × Unit) × Unit
abbrev Y1_41 : Type := Int × Int × (List Y1_7) × (List (PN Int 5)) × Bool × Bool × Bool × (List Y1_2) × (List Int) × (List Bool) × (List Y1_6) × (List Int) × (List Bool) × Unit
abbrev Y1_42 : Ty := .sl 4 .bool
abbrev Y1_43 : Ty := .sl 87 Y1_15
abbrev Y1_44 : Type := (List Int) × List Bool
abbrev Y1_45 : Ty := .pair (.int .u32) (.sl 126 Y1_24)
abbrev Y1_46 : Type := (Y1_32 × Y1_19 × Unit) × Unit
abbrev Y1_47 : Type := (Bool × Unit) × Y1_0 × Y1_10 × Unit
abbrev Y1_48 : Type := Int × Int × Int × Int × Unit
abbrev Y1_49 : Ty := .sl 103 Y1_1
abbrev Y1_50 : Type := (Y1_12 × Unit) × Unit
abbrev Y1_51 : Type := (List Int) × (List Bool) × (List Y1_6) × Unit
abbrev Y1_52 : Type := (Bool × Unit) × Unit
abbrev Y1_53 : Type := (Y1_19 × Unit) × Unit
abbrev Y1_54 : Type := Y1_0 × Unit
abbrev Y1_55 : Type := Int × Int × Unit × Unit × Bool × Bool × Bool × Unit × Unit × Unit × Unit × Unit × Unit × Unit
abbrev Y1_56 : Type := List (PN Int 6)
abbrev Y1_57 : Type := List Y1_21
noncomputable section
abbrev c60_L2 : Cut := ⟨[0, 1, 7, 8], [.cell Y1_16, cI, cI, cI], [], 19, []⟩
def l60_2 (k : Nat) (g2 : (List Int) → Int → Int → Int → Option Y1_23) (a : List Int) (b c e : Int) : Option Y1_23 :=
 (bif decide (e < c) then
  ix a e <|
  (bif b == (rd a e 0) then
   some ((e, ()), ())
  else
   g2 a b c (IntKind.i64.wrap (e + 1)))
 else
  some (((-1), ()), ()))
def b60_2 (k : Nat) (g : ((Unit) × (List Int) × Int × Int × Int × Unit) → Option Y1_23) : ((Unit) × (List Int) × Int × Int × Int × Unit) → Option Y1_23 := fun (_, a, b, c, e, _) => l60_2 k (fun a b c e => g ((), a, b, c, e, ())) a b c e
def L60_2 (k a : Nat) (b : List Int) (c e f : Int) : Option Y1_23 := iter (R := (Int × Unit) × Unit) c60_L2 (b60_2 k) a ((), b, c, e, f, ())
theorem L60_2_s (k a b c e f) : L60_2 k (a + 1) b c e f = l60_2 k (L60_2 k a) b c e f := iter_succ _ _ _ _
def S60 (k : Nat) (a : List Int) (b : Int) : Option Y1_23 :=
 L60_2 k k a b (a.length : Int) 0
def F60 : Fn := ⟨[.val ⟨false, Y1_16, false⟩, .val ⟨false, (.int .i64), false⟩], [.val ⟨false, (.int .i64), true⟩], fun k x => S60 k x.1 x.2.1⟩
theorem ok60 : FnOK Tryz.prog 60 F60 := okF [] [] (fun k => (.loop 2 c60_L2 (b60_2 k) (fun g => .nil) .nil)) trivial Tryz.func60 rfl
def S91 (k : Nat) (a : List Int) (b : Int) : Option Y1_52 :=
 (S60 k a b).bind fun q0 =>
 some ((decide (q0.1.1 ≥ 0), ()), ())
def F91 : Fn := ⟨[.val ⟨false, Y1_16, false⟩, .val ⟨false, (.int .i64), false⟩], [.val ⟨false, .bool, true⟩], fun k x => S91 k x.1 x.2.1⟩
theorem ok91 : FnOK Tryz.prog 91 F91 := okF [(60, F60)] [] (fun k => .nil) ⟨ok60, trivial⟩ Tryz.func91 rfl
def S47 (k : Nat) (a : (List Int) × List Int) (b : Int) : Option ((((List Int) × List Int) × Int × Bool × Bool × Unit) × Unit) :=
 (S89 k a).bind fun q0 =>
 (bif decide (b < 1) then
  some ((q0.1.1, 0, false, false, ()), ())
 else
  (bif decide ((q0.1.1.1.length : Int) > 0) then
   ix q0.1.1.1 0 <|
   sx q0.1.1.1 1 (q0.1.1.1.length : Int) <|
   some (((sub q0.1.1.1 1 (q0.1.1.1.length : Int), q0.1.1.2), rd q0.1.1.1 0 0, true, true, ()), ())
  else
   (S91 k q0.1.1.2 b).bind fun q1 =>
   (bif q1.1.1 then
    some ((q0.1.1, 0, false, false, ()), ())
   else
    (bif decide ((q0.1.1.2.length : Int) ≥ 4) then
     some ((q0.1.1, 0, false, false, ()), ())
    else
     ap q0.1.1.2 ([b] : List Int) 8 fun r2 =>
     some (((q0.1.1.1, r2), 0, false, true, ()), ())))))
def F47 : Fn := ⟨[.val ⟨true, (.pair (.sl 2 (.int .i64)) Y1_16), false⟩, .val ⟨false, (.int .i64), false⟩], [.val ⟨true, (.pair (.sl 2 (.int .i64)) Y1_16), false⟩, .val ⟨false, (.int .i64), true⟩, .val ⟨false, .bool, true⟩, .val ⟨false, .bool, true⟩], fun k x => S47 k x.1 x.2.1⟩
theorem ok47 : FnOK Tryz.prog 47 F47 := okF [(89, F89), (91, F91)] [] (fun k => .nil) ⟨ok89, ok91, trivial⟩ Tryz.func47 rfl
def S22 (k : Nat) (a b : Int) (c : List Y1_7) (e : List (PN Int 5)) (f h i : Bool) (l : List Y1_2) (m : List Int) (n : List Bool) (o : List Y1_6) (p : List Int) (s : List Bool) (t u v w : Int) (y z A : List Y1_14) (B C D G H : Int) (I : List (PN Int 6)) (J K M N : Int) : Option Y1_34 :=
 (S43 k a b c e f h i l m n o p s t u v w y z A B C D G H I J K M N 2).bind fun q0 =>
 (bif !q0.1.2.2.1 then
  some ((), q0.2.1, ())
 else
  (S47 k q0.1.2.1.2.2.2.1 q0.2.1.2.2.2.2.2.2.2.2.2.2.2.2.2.2.2.2.2.2.2.2.2.2.1).bind fun q1 =>
  (bif !q1.1.2.2.2.1 then
   some ((), (q0.2.1.1, q0.2.1.2.1, q0.2.1.2.2.1, q0.2.1.2.2.2.1, q0.2.1.2.2.2.2.1, q0.2.1.2.2.2.2.2.1, q0.2.1.2.2.2.2.2.2.1, q0.2.1.2.2.2.2.2.2.2.1, q0.2.1.2.2.2.2.2.2.2.2.1, q0.2.1.2.2.2.2.2.2.2.2.2.1, q0.2.1.2.2.2.2.2.2.2.2.2.2.1, q0.2.1.2.2.2.2.2.2.2.2.2.2.2.1, q0.2.1.2.2.2.2.2.2.2.2.2.2.2.2.1, q0.2.1.2.2.2.2.2.2.2.2.2.2.2.2.2.1, q0.2.1.2.2.2.2.2.2.2.2.2.2.2.2.2.2.1, q0.2.1.2.2.2.2.2.2.2.2.2.2.2.2.2.2.2.1, q0.2.1.2.2.2.2.2.2.2.2.2.2.2.2.2.2.2.2.1, q0.2.1.2.2.2.2.2.2.2.2.2.2.2.2.2.2.2.2.2.1, q0.2.1.2.2.2.2.2.2.2.2.2.2.2.2.2.2.2.2.2.2.1, q0.2.1.2.2.2.2.2.2.2.2.2.2.2.2.2.2.2.2.2.2.2.1, q0.2.1.2.2.2.2.2.2.2.2.2.2.2.2.2.2.2.2.2.2.2.2.1, q0.2.1.2.2.2.2.2.2.2.2.2.2.2.2.2.2.2.2.2.2.2.2.2.1, q0.2.1.2.2.2.2.2.2.2.2.2.2.2.2.2.2.2.2.2.2.2.2.2.2.1, q0.2.1.2.2.2.2.2.2.2.2.2.2.2.2.2.2.2.2.2.2.2.2.2.2.2.1, q0.2.1.2.2.2.2.2.2.2.2.2.2.2.2.2.2.2.2.2.2.2.2.2.2.2.2.1, q0.2.1.2.2.2.2.2.2.2.2.2.2.2.2.2.2.2.2.2.2.2.2.2.2.2.2.2.1, 1, q0.2.1.2.2.2.2.2.2.2.2.2.2.2.2.2.2.2.2.2.2.2.2.2.2.2.2.2.2.2.1, q0.2.1.2.2.2.2.2.2.2.2.2.2.2.2.2.2.2.2.2.2.2.2.2.2.2.2.2.2.2.2.1, q0.2.1.2.2.2.2.2.2.2.2.2.2.2.2.2.2.2.2.2.2.2.2.2.2.2.2.2.2.2.2.2.1, ()), ())
  else
   (bif q1.1.2.2.1 then
    (S46 k ((q0.2.1.2.2.2.2.2.2.2.2.1, q0.2.1.2.2.2.2.2.2.2.2.2.1), q0.2.1.2.2.2.2.2.2.2.2.2.2.1) q0.1.1 (q0.1.2.1.1, q0.1.2.1.2.1, q0.1.2.1.2.2.1, q1.1.1, q0.1.2.1.2.2.2.2)).bind fun q2 =>
    some ((), (q0.2.1.1, q0.2.1.2.1, q0.2.1.2.2.1, q0.2.1.2.2.2.1, q0.2.1.2.2.2.2.1, q0.2.1.2.2.2.2.2.1, q0.2.1.2.2.2.2.2.2.1, q0.2.1.2.2.2.2.2.2.2.1, q2.1.1.1.1, q2.1.1.1.2, q2.1.1.2, q0.2.1.2.2.2.2.2.2.2.2.2.2.2.1, q0.2.1.2.2.2.2.2.2.2.2.2.2.2.2.1, q0.2.1.2.2.2.2.2.2.2.2.2.2.2.2.2.1, q0.2.1.2.2.2.2.2.2.2.2.2.2.2.2.2.2.1, q0.2.1.2.2.2.2.2.2.2.2.2.2.2.2.2.2.2.1, q0.2.1.2.2.2.2.2.2.2.2.2.2.2.2.2.2.2.2.1, q0.2.1.2.2.2.2.2.2.2.2.2.2.2.2.2.2.2.2.2.1, q0.2.1.2.2.2.2.2.2.2.2.2.2.2.2.2.2.2.2.2.2.1, q0.2.1.2.2.2.2.2.2.2.2.2.2.2.2.2.2.2.2.2.2.2.1, q0.2.1.2.2.2.2.2.2.2.2.2.2.2.2.2.2.2.2.2.2.2.2.1, q0.2.1.2.2.2.2.2.2.2.2.2.2.2.2.2.2.2.2.2.2.2.2.2.1, q0.2.1.2.2.2.2.2.2.2.2.2.2.2.2.2.2.2.2.2.2.2.2.2.2.1, q0.2.1.2.2.2.2.2.2.2.2.2.2.2.2.2.2.2.2.2.2.2.2.2.2.2.1, q0.2.1.2.2.2.2.2.2.2.2.2.2.2.2.2.2.2.2.2.2.2.2.2.2.2.2.1, q0.2.1.2.2.2.2.2.2.2.2.2.2.2.2.2.2.2.2.2.2.2.2.2.2.2.2.2.1, q0.2.1.2.2.2.2.2.2.2.2.2.2.2.2.2.2.2.2.2.2.2.2.2.2.2.2.2.2.1, q0.2.1.2.2.2.2.2.2.2.2.2.2.2.2.2.2.2.2.2.2.2.2.2.2.2.2.2.2.2.1, q0.2.1.2.2.2.2.2.2.2.2.2.2.2.2.2.2.2.2.2.2.2.2.2.2.2.2.2.2.2.2.1, q1.1.2.1, ()), ())
   else
    (S46 k ((q0.2.1.2.2.2.2.2.2.2.2.1, q0.2.1.2.2.2.2.2.2.2.2.2.1), q0.2.1.2.2.2.2.2.2.2.2.2.2.1) q0.1.1 (q0.1.2.1.1, q0.1.2.1.2.1, q0.1.2.1.2.2.1, q1.1.1, q0.1.2.1.2.2.2.2)).bind fun q3 =>
    some ((), (q0.2.1.1, q0.2.1.2.1, q0.2.1.2.2.1, q0.2.1.2.2.2.1, q0.2.1.2.2.2.2.1, q0.2.1.2.2.2.2.2.1, q0.2.1.2.2.2.2.2.2.1, q0.2.1.2.2.2.2.2.2.2.1, q3.1.1.1.1, q3.1.1.1.2, q3.1.1.2, q0.2.1.2.2.2.2.2.2.2.2.2.2.2.1, q0.2.1.2.2.2.2.2.2.2.2.2.2.2.2.1, q0.2.1.2.2.2.2.2.2.2.2.2.2.2.2.2.1, q0.2.1.2.2.2.2.2.2.2.2.2.2.2.2.2.2.1, q0.2.1.2.2.2.2.2.2.2.2.2.2.2.2.2.2.2.1, q0.2.1.2.2.2.2.2.2.2.2.2.2.2.2.2.2.2.2.1, q0.2.1.2.2.2.2.2.2.2.2.2.2.2.2.2.2.2.2.2.1, q0.2.1.2.2.2.2.2.2.2.2.2.2.2.2.2.2.2.2.2.2.1, q0.2.1.2.2.2.2.2.2.2.2.2.2.2.2.2.2.2.2.2.2.2.1, q0.2.1.2.2.2.2.2.2.2.2.2.2.2.2.2.2.2.2.2.2.2.2.1, q0.2.1.2.2.2.2.2.2.2.2.2.2.2.2.2.2.2.2.2.2.2.2.2.1, q0.2.1.2.2.2.2.2.2.2.2.2.2.2.2.2.2.2.2.2.2.2.2.2.2.1, q0.2.1.2.2.2.2.2.2.2.2.2.2.2.2.2.2.2.2.2.2.2.2.2.2.2.1, q0.2.1.2.2.2.2.2.2.2.2.2.2.2.2.2.2.2.2.2.2.2.2.2.2.2.2.1, q0.2.1.2.2.2.2.2.2.2.2.2.2.2.2.2.2.2.2.2.2.2.2.2.2.2.2.2.1, 16, q0.2.1.2.2.2.2.2.2.2.2.2.2.2.2.2.2.2.2.2.2.2.2.2.2.2.2.2.2.2.1, q0.2.1.2.2.2.2.2.2.2.2.2.2.2.2.2.2.2.2.2.2.2.2.2.2.2.2.2.2.2.2.1, q0.2.1.2.2.2.2.2.2.2.2.2.2.2.2.2.2.2.2.2.2.2.2.2.2.2.2.2.2.2.2.2.1, ()), ()))))
def F22 : Fn := ⟨[.mbox 77 [cI, cI, .cell (.sl 27 Y1_3), .cell (.sl 134 Y1_29), .cell .bool, .cell .bool, .cell .bool, .cell Y1_49, .cell Y1_16, .cell Y1_42, .cell (.sl 95 Y1_5), .cell Y1_16, .cell Y1_42, cI, cI, cI, cI, .cell Y1_17, .cell Y1_17, .cell Y1_17, cI, cI, cI, cI, .cell (.int .u32), .own 58 Y1_26, cI, cI, cI, cI]], [], fun k ((a, b, c, e, f, h, i, l, m, n, o, p, s, t, u, v, w, y, z, A, B, C, D, G, H, I, J, K, M, N, _), _) => S22 k a b c e f h i l m n o p s t u v w y z A B C D G H I J K M N⟩
theorem ok22 : FnOK Tryz.prog 22 F22 := okF [(43, F43), (46, F46), (47, F47)] [] (fun k => .nil) ⟨ok43, ok46, ok47, trivial⟩ Tryz.func22 rfl
abbrev c48_L3 : Cut := ⟨[4, 5, 15, 16, 17], [.box 93 [.cell (.int .u32), .own 126 Y1_24], .own 126 Y1_24, .cell (.sl 126 Y1_24), cI, cI], [], 49, []⟩
def l48_3 (k : Nat) (g3 : Int → Y1_19 → Y1_19 → Y1_19 → Int → Int → Option Y1_46) (x : Int) (a b c : Y1_27) (e f : Int) : Option Y1_46 :=
 (bif decide (f < e) then
  ix c f <|
  (bif (iand .u32 x (rd c f (0, 0)).2) == 0 then
   ap a ([rd c f (0, 0)] : List (Int × Int)) 16 fun r0 =>
   g3 x r0 b c e (IntKind.i64.wrap (f + 1))
  else
   ap b ([((rd c f (0, 0)).1, iand .u32 x (rd c f (0, 0)).2)] : List (Int × Int)) 16 fun r1 =>
   g3 (iandn .u32 x (iand .u32 x (rd c f (0, 0)).2)) a r1 c e (IntKind.i64.wrap (f + 1)))
 else
  some (((x, a), b, ()), ()))
def b48_3 (k : Nat) (g : ((Unit) × (Int × Y1_19 × Unit) × Y1_19 × Y1_19 × Int × Int × Unit) → Option Y1_46) : ((Unit) × (Int × Y1_19 × Unit) × Y1_19 × Y1_19 × Int × Int × Unit) → Option Y1_46 := fun (_, (x, a, _), b, c, e, f, _) => l48_3 k (fun x a b c e f => g ((), (x, a, ()), b, c, e, f, ())) x a b c e f
def L48_3 (k a : Nat) (x : Int) (b c e : Y1_27) (f h : Int) : Option Y1_46 := iter (R := (Y1_32 × Y1_19 × Unit) × Unit) c48_L3 (b48_3 k) a ((), (x, b, ()), c, e, f, h, ())
theorem L48_3_s (k a x b c e f h) : L48_3 k (a + 1) x b c e f h = l48_3 k (L48_3 k a) x b c e f h := iter_succ _ _ _ _
def S48 (k : Nat) (a : Int × List (Int × Int)) (b : Int) : Option Y1_46 :=
 L48_3 k k (ior .u32 a.1 b) ([] : List (Int × Int)) ([] : List (Int × Int)) a.2 (a.2.length : Int) 0
def F48 : Fn := ⟨[.val ⟨true, Y1_45, false⟩, .val ⟨false, (.int .u32), false⟩], [.val ⟨true, Y1_45, true⟩, .val ⟨false, (.sl 126 Y1_24), true⟩], fun k x => S48 k x.1 x.2.1⟩
theorem ok48 : FnOK Tryz.prog 48 F48 := okF [] [(4, 2), (5, 2)] (fun k => (.loop 3 c48_L3 (b48_3 k) (fun g => .nil) .nil)) trivial Tryz.func48 rfl
abbrev c23_L4 : Cut := ⟨[0, 2, 3, 5, 28, 29, 30], [.pin false 0, cI, .box 95 [cI, cI, cI, cI, cI, .cell (.sl 2 (.int .i64)), .cell Y1_16, .cell (.int .u32), .cell (.sl 126 Y1_24), .cell (.int .u32)], .box 93 [.cell (.int .u32), .own 126 Y1_24], .own 126 Y1_24, cI, cI], [.mbox 77 [cI, cI, .cell (.sl 27 Y1_3), .cell (.sl 134 Y1_29), .cell .bool, .cell .bool, .cell .bool, .cell Y1_49, .cell Y1_16, .cell Y1_42, .cell (.sl 95 Y1_5), .cell Y1_16, .cell Y1_42, cI, cI, cI, cI, .cell Y1_17, .cell Y1_17, .cell Y1_17, cI, cI, cI, cI, .cell (.int .u32), .own 58 Y1_26, cI, cI, cI, cI]], 56, []⟩
def l23_4 (k : Nat) (g4 : Int → Int → (List Y1_7) → (List (PN Int 5)) → Bool → Bool → Bool → (List Y1_2) → (List Int) → (List Bool) → (List Y1_6) → (List Int) → (List Bool) → Int → Int → Int → Int → (List Y1_14) → (List Y1_14) → (List Y1_14) → Int → Int → Int → Int → Int → Y1_56 → Int → Int → Int → Int → Int → Int → Int → Int → Int → Int → (List Int) → (List Int) → Int → Y1_19 → Int → Int → Y1_19 → Y1_19 → Int → Int → Option Y1_34) (a b : Int) (c : List Y1_7) (e : List (PN Int 5)) (f h i : Bool) (l : List Y1_2) (m : List Int) (n : List Bool) (o : List Y1_6) (p : List Int) (s : List Bool) (t u v w : Int) (y z A : List Y1_14) (B C D G H : Int) (I : List (PN Int 6)) (J K M N O x P Q T U : Int) (V W : List Int) (X : Int) (Z : Y1_27) (a1 b1 : Int) (c1 e1 : Y1_27) (f1 h1 : Int) : Option Y1_34 :=
 (bif decide (h1 < f1) then
  ix e1 h1 <|
  (S45 k a b c e f h i l m n o p s t u v w y z A B C D G H I J K M N (rd e1 h1 (0, 0)).1 (IntKind.i64.wrap (rd e1 h1 (0, 0)).2) 0).bind fun q2 =>
  g4 q2.2.1.1 q2.2.1.2.1 q2.2.1.2.2.1 q2.2.1.2.2.2.1 q2.2.1.2.2.2.2.1 q2.2.1.2.2.2.2.2.1 q2.2.1.2.2.2.2.2.2.1 q2.2.1.2.2.2.2.2.2.2.1 q2.2.1.2.2.2.2.2.2.2.2.1 q2.2.1.2.2.2.2.2.2.2.2.2.1 q2.2.1.2.2.2.2.2.2.2.2.2.2.1 q2.2.1.2.2.2.2.2.2.2.2.2.2.2.1 q2.2.1.2.2.2.2.2.2.2.2.2.2.2.2.1 q2.2.1.2.2.2.2.2.2.2.2.2.2.2.2.2.1 q2.2.1.2.2.2.2.2.2.2.2.2.2.2.2.2.2.1 q2.2.1.2.2.2.2.2.2.2.2.2.2.2.2.2.2.2.1 q2.2.1.2.2.2.2.2.2.2.2.2.2.2.2.2.2.2.2.1 q2.2.1.2.2.2.2.2.2.2.2.2.2.2.2.2.2.2.2.2.1 q2.2.1.2.2.2.2.2.2.2.2.2.2.2.2.2.2.2.2.2.2.1 q2.2.1.2.2.2.2.2.2.2.2.2.2.2.2.2.2.2.2.2.2.2.1 q2.2.1.2.2.2.2.2.2.2.2.2.2.2.2.2.2.2.2.2.2.2.2.1 q2.2.1.2.2.2.2.2.2.2.2.2.2.2.2.2.2.2.2.2.2.2.2.2.1 q2.2.1.2.2.2.2.2.2.2.2.2.2.2.2.2.2.2.2.2.2.2.2.2.2.1 q2.2.1.2.2.2.2.2.2.2.2.2.2.2.2.2.2.2.2.2.2.2.2.2.2.2.1 q2.2.1.2.2.2.2.2.2.2.2.2.2.2.2.2.2.2.2.2.2.2.2.2.2.2.2.1 q2.2.1.2.2.2.2.2.2.2.2.2.2.2.2.2.2.2.2.2.2.2.2.2.2.2.2.2.1 q2.2.1.2.2.2.2.2.2.2.2.2.2.2.2.2.2.2.2.2.2.2.2.2.2.2.2.2.2.1 q2.2.1.2.2.2.2.2.2.2.2.2.2.2.2.2.2.2.2.2.2.2.2.2.2.2.2.2.2.2.1 q2.2.1.2.2.2.2.2.2.2.2.2.2.2.2.2.2.2.2.2.2.2.2.2.2.2.2.2.2.2.2.1 q2.2.1.2.2.2.2.2.2.2.2.2.2.2.2.2.2.2.2.2.2.2.2.2.2.2.2.2.2.2.2.2.1 O x P Q T U V W X Z a1 b1 c1 e1 f1 (IntKind.i64.wrap (h1 + 1))
 else
  (S46 k ((m, n), o) O (x, (P, Q), (T, U), (V, W), (b1, c1), a1)).bind fun q3 =>
  some ((), (a, b, c, e, f, h, i, l, q3.1.1.1.1, q3.1.1.1.2, q3.1.1.2, p, s, t, u, v, w, y, z, A, B, C, D, G, H, I, J, K, M, N, ()), ()))
def b23_4 (k : Nat) (g : ((Y1_4 × Unit) × Unit × Int × (Int × Int × Int × Int × Int × (List Int) × (List Int) × Int × Y1_19 × Int × Unit) × (Int × Y1_19 × Unit) × Y1_19 × Int × Int × Unit) → Option Y1_34) : ((Y1_4 × Unit) × Unit × Int × (Int × Int × Int × Int × Int × (List Int) × (List Int) × Int × Y1_19 × Int × Unit) × (Int × Y1_19 × Unit) × Y1_19 × Int × Int × Unit) → Option Y1_34 := fun (((a, b, c, e, f, h, i, l, m, n, o, p, s, t, u, v, w, y, z, A, B, C, D, G, H, I, J, K, M, N, _), _), _, O, (x, P, Q, T, U, V, W, X, Z, a1, _), (b1, c1, _), e1, f1, h1, _) => l23_4 k (fun a b c e f h i l m n o p s t u v w y z A B C D G H I J K M N O x P Q T U V W X Z a1 b1 c1 e1 f1 h1 => g (((a, b, c, e, f, h, i, l, m, n, o, p, s, t, u, v, w, y, z, A, B, C, D, G, H, I, J, K, M, N, ()), ()), (), O, (x, P, Q, T, U, V, W, X, Z, a1, ()), (b1, c1, ()), e1, f1, h1, ())) a b c e f h i l m n o p s t u v w y z A B C D G H I J K M N O x P Q T U V W X Z a1 b1 c1 e1 f1 h1
def L23_4 (k a : Nat) (b c : Int) (e : List Y1_7) (f : List (PN Int 5)) (h i l : Bool) (m : List Y1_2) (n : List Int) (o : List Bool) (p : List Y1_6) (s : List Int) (t : List Bool) (u v w y : Int) (z A B : List Y1_14) (C D G H I : Int) (J : List (PN Int 6)) (K M N O P x Q T U V : Int) (W X : List Int) (Z : Int) (a1 : Y1_27) (b1 c1 : Int) (e1 f1 : Y1_27) (h1 i1 : Int) : Option Y1_34 := iter (R := (Unit) × Y1_4 × Unit) c23_L4 (b23_4 k) a (((b, c, e, f, h, i, l, m, n, o, p, s, t, u, v, w, y, z, A, B, C, D, G, H, I, J, K, M, N, O, ()), ()), (), P, (x, Q, T, U, V, W, X, Z, a1, b1, ()), (c1, e1, ()), f1, h1, i1, ())
theorem L23_4_s (k a b c e f h i l m n o p s t u v w y z A B C D G H I J K M N O P x Q T U V W X Z a1 b1 c1 e1 f1 h1 i1) : L23_4 k (a + 1) b c e f h i l m n o p s t u v w y z A B C D G H I J K M N O P x Q T U V W X Z a1 b1 c1 e1 f1 h1 i1 = l23_4 k (L23_4 k a) b c e f h i l m n o p s t u v w y z A B C D G H I J K M N O P x Q T U V W X Z a1 b1 c1 e1 f1 h1 i1 := iter_succ _ _ _ _
def S23 (k : Nat) (a b : Int) (c : List Y1_7) (e : List (PN Int 5)) (f h i : Bool) (l : List Y1_2) (m : List Int) (n : List Bool) (o : List Y1_6) (p : List Int) (s : List Bool) (t u v w : Int) (y z A : List Y1_14) (B C D G H : Int) (I : List (PN Int 6)) (J K M N : Int) : Option Y1_34 :=
 (S43 k a b c e f h i l m n o p s t u v w y z A B C D G H I J K M N 3).bind fun q0 =>
 (bif !q0.1.2.2.1 then
  some ((), q0.2.1, ())
 else
  (S48 k q0.1.2.1.2.2.2.2.1 q0.2.1.2.2.2.2.2.2.2.2.2.2.2.2.2.2.2.2.2.2.2.2.2.2.2.2.1).bind fun q1 =>
  L23_4 k k q0.2.1.1 q0.2.1.2.1 q0.2.1.2.2.1 q0.2.1.2.2.2.1 q0.2.1.2.2.2.2.1 q0.2.1.2.2.2.2.2.1 q0.2.1.2.2.2.2.2.2.1 q0.2.1.2.2.2.2.2.2.2.1 q0.2.1.2.2.2.2.2.2.2.2.1 q0.2.1.2.2.2.2.2.2.2.2.2.1 q0.2.1.2.2.2.2.2.2.2.2.2.2.1 q0.2.1.2.2.2.2.2.2.2.2.2.2.2.1 q0.2.1.2.2.2.2.2.2.2.2.2.2.2.2.1 q0.2.1.2.2.2.2.2.2.2.2.2.2.2.2.2.1 q0.2.1.2.2.2.2.2.2.2.2.2.2.2.2.2.2.1 q0.2.1.2.2.2.2.2.2.2.2.2.2.2.2.2.2.2.1 q0.2.1.2.2.2.2.2.2.2.2.2.2.2.2.2.2.2.2.1 q0.2.1.2.2.2.2.2.2.2.2.2.2.2.2.2.2.2.2.2.1 q0.2.1.2.2.2.2.2.2.2.2.2.2.2.2.2.2.2.2.2.2.1 q0.2.1.2.2.2.2.2.2.2.2.2.2.2.2.2.2.2.2.2.2.2.1 q0.2.1.2.2.2.2.2.2.2.2.2.2.2.2.2.2.2.2.2.2.2.2.1 q0.2.1.2.2.2.2.2.2.2.2.2.2.2.2.2.2.2.2.2.2.2.2.2.1 q0.2.1.2.2.2.2.2.2.2.2.2.2.2.2.2.2.2.2.2.2.2.2.2.2.1 q0.2.1.2.2.2.2.2.2.2.2.2.2.2.2.2.2.2.2.2.2.2.2.2.2.2.1 q0.2.1.2.2.2.2.2.2.2.2.2.2.2.2.2.2.2.2.2.2.2.2.2.2.2.2.1 q0.2.1.2.2.2.2.2.2.2.2.2.2.2.2.2.2.2.2.2.2.2.2.2.2.2.2.2.1 q0.2.1.2.2.2.2.2.2.2.2.2.2.2.2.2.2.2.2.2.2.2.2.2.2.2.2.2.2.1 q0.2.1.2.2.2.2.2.2.2.2.2.2.2.2.2.2.2.2.2.2.2.2.2.2.2.2.2.2.2.1 q0.2.1.2.2.2.2.2.2.2.2.2.2.2.2.2.2.2.2.2.2.2.2.2.2.2.2.2.2.2.2.1 q0.2.1.2.2.2.2.2.2.2.2.2.2.2.2.2.2.2.2.2.2.2.2.2.2.2.2.2.2.2.2.2.1 q0.1.1 q0.1.2.1.1 q0.1.2.1.2.1.1 q0.1.2.1.2.1.2 q0.1.2.1.2.2.1.1 q0.1.2.1.2.2.1.2 q0.1.2.1.2.2.2.1.1 q0.1.2.1.2.2.2.1.2 q0.1.2.1.2.2.2.2.1.1 q0.1.2.1.2.2.2.2.1.2 q0.1.2.1.2.2.2.2.2 q1.1.1.1 q1.1.1.2 q1.1.2.1 (q1.1.2.1.length : Int) 0)
def F23 : Fn := ⟨[.mbox 77 [cI, cI, .cell (.sl 27 Y1_3), .cell (.sl 134 Y1_29), .cell .bool, .cell .bool, .cell .bool, .cell Y1_49, .cell Y1_16, .cell Y1_42, .cell (.sl 95 Y1_5), .cell Y1_16, .cell Y1_42, cI, cI, cI, cI, .cell Y1_17, .cell Y1_17, .cell Y1_17, cI, cI, cI, cI, .cell (.int .u32), .own 58 Y1_26, cI, cI, cI, cI]], [], fun k ((a, b, c, e, f, h, i, l, m, n, o, p, s, t, u, v, w, y, z, A, B, C, D, G, H, I, J, K, M, N, _), _) => S23 k a b c e f h i l m n o p s t u v w y z A B C D G H I J K M N⟩
theorem ok23 : FnOK Tryz.prog 23 F23 := okF [(43, F43), (45, F45), (46, F46), (48, F48)] [] (fun k => (.loop 4 c23_L4 (b23_4 k) (fun g => .nil) .nil)) ⟨ok43, ok45, ok46, ok48, trivial⟩ Tryz.func23 rfl
def S94 (k : Nat) (a : Int × Int) (b : Int) : Option Y1_52 :=
 some ((a.1 == b, ()), ())
def F94 : Fn := ⟨[.val ⟨true, Y1_24, false⟩, .pv (.ref (.int .i64))], [.val ⟨false, .bool, true⟩], fun k x => S94 k x.1 x.2.1⟩
theorem ok94 : FnOK Tryz.prog 94 F94 := okF [] [] (fun k => .nil) trivial Tryz.func94 rfl
abbrev c131_L2 : Cut := ⟨[0, 1, 7, 8], [.cell (.sl 126 Y1_24), .clo 94 [.ref (.int .i64)], cI, cI], [], 19, []⟩
def l131_2 (k : Nat) (g2 : Y1_19 → Int → Int → Int → Option Y1_23) (a : Y1_27) (b c e : Int) : Option Y1_23 :=
 (bif decide (e < c) then
  ix a e <|
  (S94 k (rd a e (0, 0)) b).bind fun q0 =>
  (bif q0.1.1 then
   some ((e, ()), ())
  else
   g2 a b c (IntKind.i64.wrap (e + 1)))
 else
  some (((-1), ()), ()))
def b131_2 (k : Nat) (g : ((Unit) × Y1_19 × (Int × Unit) × Int × Int × Unit) → Option Y1_23) : ((Unit) × Y1_19 × (Int × Unit) × Int × Int × Unit) → Option Y1_23 := fun (_, a, (b, _), c, e, _) => l131_2 k (fun a b c e => g ((), a, (b, ()), c, e, ())) a b c e
def L131_2 (k a : Nat) (b : Y1_27) (c e f : Int) : Option Y1_23 := iter (R := (Int × Unit) × Unit) c131_L2 (b131_2 k) a ((), b, (c, ()), e, f, ())
theorem L131_2_s (k a b c e f) : L131_2 k (a + 1) b c e f = l131_2 k (L131_2 k a) b c e f := iter_succ _ _ _ _
def S131 (k : Nat) (a : Y1_27) (b : Int) : Option Y1_23 :=
 L131_2 k k a b (a.length : Int) 0
def F131 : Fn := ⟨[.val ⟨false, (.sl 126 Y1_24), false⟩, .pv (.clo 94 [.ref (.int .i64)])], [.val ⟨false, (.int .i64), true⟩], fun k x => S131 k x.1 x.2.1.1⟩
theorem ok131 : FnOK Tryz.prog 131 F131 := okF [(94, F94)] [] (fun k => (.loop 2 c131_L2 (b131_2 k) (fun g => .nil) .nil)) ⟨ok94, trivial⟩ Tryz.func131 rfl
def S93 (k : Nat) (a : Y1_27) (b : Int) : Option Y1_52 :=
 (S131 k a b).bind fun q0 =>
 some ((decide (q0.1.1 ≥ 0), ()), ())
def F93 : Fn := ⟨[.val ⟨false, (.sl 126 Y1_24), false⟩, .pv (.clo 94 [.ref (.int .i64)])], [.val ⟨false, .bool, true⟩], fun k x => S93 k x.1 x.2.1.1⟩
theorem ok93 : FnOK Tryz.prog 93 F93 := okF [(131, F131)] [] (fun k => .nil) ⟨ok131, trivial⟩ Tryz.func93 rfl
def S49 (k : Nat) (a : Int × List (Int × Int)) (b c : Int) : Option ((Y1_32 × Int × Bool × Unit) × Unit) :=
 (S92 k a.2).bind fun q0 =>
 (bif decide (b < 1) then
  some (((a.1, q0.1.1), 0, false, ()), ())
 else
  (bif c == 0 then
   some (((a.1, q0.1.1), 0, false, ()), ())
  else
   (bif (iand .u32 a.1 c) != 0 then
    some (((iandn .u32 a.1 (iand .u32 a.1 c), q0.1.1), iand .u32 a.1 c, true, ()), ())
   else
    (bif decide ((a.2.length : Int) ≥ 4) then
     some (((a.1, q0.1.1), 0, false, ()), ())
    else
     (S93 k a.2 b).bind fun q1 =>
     (bif q1.1.1 then
      some (((a.1, q0.1.1), 0, false, ()), ())
     else
      ap q0.1.1 ([(b, c)] : List (Int × Int)) 16 fun r2 =>
      some (((a.1, r2), 0, true, ()), ()))))))
def F49 : Fn := ⟨[.val ⟨true, Y1_45, false⟩, .val ⟨false, (.int .i64), false⟩, .val ⟨false, (.int .u32), false⟩], [.val ⟨true, Y1_45, true⟩, .val ⟨false, (.int .u32), true⟩, .val ⟨false, .bool, true⟩], fun k (a, b, c, _) => S49 k a b c⟩
theorem ok49 : FnOK Tryz.prog 49 F49 := okF [(92, F92), (93, F93)] [] (fun k => .nil) ⟨ok92, ok93, trivial⟩ Tryz.func49 rfl
def S24 (k : Nat) (a b : Int) (c : List Y1_7) (e : List (PN Int 5)) (f h i : Bool) (l : List Y1_2) (m : List Int) (n : List Bool) (o : List Y1_6) (p : List Int) (s : List Bool) (t u v w : Int) (y z A : List Y1_14) (B C D G H : Int) (I : List (PN Int 6)) (J K M N : Int) : Option Y1_34 :=
 (S43 k a b c e f h i l m n o p s t u v w y z A B C D G H I J K M N 3).bind fun q0 =>
 (bif !q0.1.2.2.1 then
  some ((), q0.2.1, ())
 else
  (S49 k q0.1.2.1.2.2.2.2.1 q0.2.1.2.2.2.2.2.2.2.2.2.2.2.2.2.2.2.2.2.2.2.2.2.2.1 q0.2.1.2.2.2.2.2.2.2.2.2.2.2.2.2.2.2.2.2.2.2.2.2.2.2.2.1).bind fun q1 =>
  (bif !q1.1.2.2.1 then
   some ((), (q0.2.1.1, q0.2.1.2.1, q0.2.1.2.2.1, q0.2.1.2.2.2.1, q0.2.1.2.2.2.2.1, q0.2.1.2.2.2.2.2.1, q0.2.1.2.2.2.2.2.2.1, q0.2.1.2.2.2.2.2.2.2.1, q0.2.1.2.2.2.2.2.2.2.2.1, q0.2.1.2.2.2.2.2.2.2.2.2.1, q0.2.1.2.2.2.2.2.2.2.2.2.2.1, q0.2.1.2.2.2.2.2.2.2.2.2.2.2.1, q0.2.1.2.2.2.2.2.2.2.2.2.2.2.2.1, q0.2.1.2.2.2.2.2.2.2.2.2.2.2.2.2.1, q0.2.1.2.2.2.2.2.2.2.2.2.2.2.2.2.2.1, q0.2.1.2.2.2.2.2.2.2.2.2.2.2.2.2.2.2.1, q0.2.1.2.2.2.2.2.2.2.2.2.2.2.2.2.2.2.2.1, q0.2.1.2.2.2.2.2.2.2.2.2.2.2.2.2.2.2.2.2.1, q0.2.1.2.2.2.2.2.2.2.2.2.2.2.2.2.2.2.2.2.2.1, q0.2.1.2.2.2.2.2.2.2.2.2.2.2.2.2.2.2.2.2.2.2.1, q0.2.1.2.2.2.2.2.2.2.2.2.2.2.2.2.2.2.2.2.2.2.2.1, q0.2.1.2.2.2.2.2.2.2.2.2.2.2.2.2.2.2.2.2.2.2.2.2.1, q0.2.1.2.2.2.2.2.2.2.2.2.2.2.2.2.2.2.2.2.2.2.2.2.2.1, q0.2.1.2.2.2.2.2.2.2.2.2.2.2.2.2.2.2.2.2.2.2.2.2.2.2.1, q0.2.1.2.2.2.2.2.2.2.2.2.2.2.2.2.2.2.2.2.2.2.2.2.2.2.2.1, q0.2.1.2.2.2.2.2.2.2.2.2.2.2.2.2.2.2.2.2.2.2.2.2.2.2.2.2.1, 1, q0.2.1.2.2.2.2.2.2.2.2.2.2.2.2.2.2.2.2.2.2.2.2.2.2.2.2.2.2.2.1, q0.2.1.2.2.2.2.2.2.2.2.2.2.2.2.2.2.2.2.2.2.2.2.2.2.2.2.2.2.2.2.1, q0.2.1.2.2.2.2.2.2.2.2.2.2.2.2.2.2.2.2.2.2.2.2.2.2.2.2.2.2.2.2.2.1, ()), ())
  else
   (bif q1.1.2.1 == 0 then
    (S46 k ((q0.2.1.2.2.2.2.2.2.2.2.1, q0.2.1.2.2.2.2.2.2.2.2.2.1), q0.2.1.2.2.2.2.2.2.2.2.2.2.1) q0.1.1 (q0.1.2.1.1, q0.1.2.1.2.1, q0.1.2.1.2.2.1, q0.1.2.1.2.2.2.1, q1.1.1, q0.1.2.1.2.2.2.2.2)).bind fun q2 =>
    some ((), (q0.2.1.1, q0.2.1.2.1, q0.2.1.2.2.1, q0.2.1.2.2.2.1, q0.2.1.2.2.2.2.1, q0.2.1.2.2.2.2.2.1, q0.2.1.2.2.2.2.2.2.1, q0.2.1.2.2.2.2.2.2.2.1, q2.1.1.1.1, q2.1.1.1.2, q2.1.1.2, q0.2.1.2.2.2.2.2.2.2.2.2.2.2.1, q0.2.1.2.2.2.2.2.2.2.2.2.2.2.2.1, q0.2.1.2.2.2.2.2.2.2.2.2.2.2.2.2.1, q0.2.1.2.2.2.2.2.2.2.2.2.2.2.2.2.2.1, q0.2.1.2.2.2.2.2.2.2.2.2.2.2.2.2.2.2.1, q0.2.1.2.2.2.2.2.2.2.2.2.2.2.2.2.2.2.2.1, q0.2.1.2.2.2.2.2.2.2.2.2.2.2.2.2.2.2.2.2.1, q0.2.1.2.2.2.2.2.2.2.2.2.2.2.2.2.2.2.2.2.2.1, q0.2.1.2.2.2.2.2.2.2.2.2.2.2.2.2.2.2.2.2.2.2.1, q0.2.1.2.2.2.2.2.2.2.2.2.2.2.2.2.2.2.2.2.2.2.2.1, q0.2.1.2.2.2.2.2.2.2.2.2.2.2.2.2.2.2.2.2.2.2.2.2.1, q0.2.1.2.2.2.2.2.2.2.2.2.2.2.2.2.2.2.2.2.2.2.2.2.2.1, q0.2.1.2.2.2.2.2.2.2.2.2.2.2.2.2.2.2.2.2.2.2.2.2.2.2.1, q0.2.1.2.2.2.2.2.2.2.2.2.2.2.2.2.2.2.2.2.2.2.2.2.2.2.2.1, q0.2.1.2.2.2.2.2.2.2.2.2.2.2.2.2.2.2.2.2.2.2.2.2.2.2.2.2.1, 16, q0.2.1.2.2.2.2.2.2.2.2.2.2.2.2.2.2.2.2.2.2.2.2.2.2.2.2.2.2.2.1, q0.2.1.2.2.2.2.2.2.2.2.2.2.2.2.2.2.2.2.2.2.2.2.2.2.2.2.2.2.2.2.1, IntKind.i64.wrap q1.1.2.1, ()), ())
   else
    (S46 k ((q0.2.1.2.2.2.2.2.2.2.2.1, q0.2.1.2.2.2.2.2.2.2.2.2.1), q0.2.1.2.2.2.2.2.2.2.2.2.2.1) q0.1.1 (q0.1.2.1.1, q0.1.2.1.2.1, q0.1.2.1.2.2.1, q0.1.2.1.2.2.2.1, q1.1.1, q0.1.2.1.2.2.2.2.2)).bind fun q3 =>
    some ((), (q0.2.1.1, q0.2.1.2.1, q0.2.1.2.2.1, q0.2.1.2.2.2.1, q0.2.1.2.2.2.2.1, q0.2.1.2.2.2.2.2.1, q0.2.1.2.2.2.2.2.2.1, q0.2.1.2.2.2.2.2.2.2.1, q3.1.1.1.1, q3.1.1.1.2, q3.1.1.2, q0.2.1.2.2.2.2.2.2.2.2.2.2.2.1, q0.2.1.2.2.2.2.2.2.2.2.2.2.2.2.1, q0.2.1.2.2.2.2.2.2.2.2.2.2.2.2.2.1, q0.2.1.2.2.2.2.2.2.2.2.2.2.2.2.2.2.1, q0.2.1.2.2.2.2.2.2.2.2.2.2.2.2.2.2.2.1, q0.2.1.2.2.2.2.2.2.2.2.2.2.2.2.2.2.2.2.1, q0.2.1.2.2.2.2.2.2.2.2.2.2.2.2.2.2.2.2.2.1, q0.2.1.2.2.2.2.2.2.2.2.2.2.2.2.2.2.2.2.2.2.1, q0.2.1.2.2.2.2.2.2.2.2.2.2.2.2.2.2.2.2.2.2.2.1, q0.2.1.2.2.2.2.2.2.2.2.2.2.2.2.2.2.2.2.2.2.2.2.1, q0.2.1.2.2.2.2.2.2.2.2.2.2.2.2.2.2.2.2.2.2.2.2.2.1, q0.2.1.2.2.2.2.2.2.2.2.2.2.2.2.2.2.2.2.2.2.2.2.2.2.1, q0.2.1.2.2.2.2.2.2.2.2.2.2.2.2.2.2.2.2.2.2.2.2.2.2.2.1, q0.2.1.2.2.2.2.2.2.2.2.2.2.2.2.2.2.2.2.2.2.2.2.2.2.2.2.1, q0.2.1.2.2.2.2.2.2.2.2.2.2.2.2.2.2.2.2.2.2.2.2.2.2.2.2.2.1, q0.2.1.2.2.2.2.2.2.2.2.2.2.2.2.2.2.2.2.2.2.2.2.2.2.2.2.2.2.1, q0.2.1.2.2.2.2.2.2.2.2.2.2.2.2.2.2.2.2.2.2.2.2.2.2.2.2.2.2.2.1, q0.2.1.2.2.2.2.2.2.2.2.2.2.2.2.2.2.2.2.2.2.2.2.2.2.2.2.2.2.2.2.1, IntKind.i64.wrap q1.1.2.1, ()), ()))))
def F24 : Fn := ⟨[.mbox 77 [cI, cI, .cell (.sl 27 Y1_3), .cell (.sl 134 Y1_29), .cell .bool, .cell .bool, .cell .bool, .cell Y1_49, .cell Y1_16, .cell Y1_42, .cell (.sl 95 Y1_5), .cell Y1_16, .cell Y1_42, cI, cI, cI, cI, .cell Y1_17, .cell Y1_17, .cell Y1_17, cI, cI, cI, cI, .cell (.int .u32), .own 58 Y1_26, cI, cI, cI, cI]], [], fun k ((a, b, c, e, f, h, i, l, m, n, o, p, s, t, u, v, w, y, z, A, B, C, D, G, H, I, J, K, M, N, _), _) => S24 k a b c e f h i l m n o p s t u v w y z A B C D G H I J K M N⟩
theorem ok24 : FnOK Tryz.prog 24 F24 := okF [(43, F43), (46, F46), (49, F49)] [] (fun k => .nil) ⟨ok43, ok46, ok49, trivial⟩ Tryz.func24 rfl
def S95 (k : Nat) (a : (List Int) × List Bool) (b : Int × Int) : Option ((Y1_44 × Bool × Unit) × Unit) :=
 (S122 k a).bind fun q0 =>
 (S129 k q0.1.1 b).bind fun q1 =>
 (bif !q1.1.1 then
  some ((q0.1.1, false, ()), ())
 else
  ix q0.1.1.2 b.1 <|
  some (((q0.1.1.1, upd q0.1.1.2 b.1 false), true, ()), ()))
def F95 : Fn := ⟨[.val ⟨true, (.pair Y1_16 Y1_42), false⟩, .val ⟨true, Y1_15, false⟩], [.val ⟨true, (.pair Y1_16 Y1_42), true⟩, .val ⟨false, .bool, true⟩], fun k x => S95 k x.1 x.2.1⟩
theorem ok95 : FnOK Tryz.prog 95 F95 := okF [(122, F122), (129, F129)] [] (fun k => .nil) ⟨ok122, ok129, trivial⟩ Tryz.func95 rfl
def S132 (k : Nat) (a : (List Int) × List Int) : Option ((((List Int) × List Int) × (List Int) × Unit) × Unit) :=
 (S66 k a.2).bind fun q0 =>
 some ((([], []), q0.1.1, ()), ())
def F132 : Fn := ⟨[.val ⟨true, (.pair (.sl 2 (.int .i64)) Y1_16), false⟩], [.val ⟨true, (.pair (.sl 2 (.int .i64)) Y1_16), true⟩, .val ⟨false, Y1_16, true⟩], fun k x => S132 k x.1⟩
theorem ok132 : FnOK Tryz.prog 132 F132 := okF [(66, F66)] [] (fun k => .nil) ⟨ok66, trivial⟩ Tryz.func132 rfl
abbrev c133_L2 : Cut := ⟨[2, 3, 7, 8, 9], [.box 93 [.cell (.int .u32), .nil], .own 3 (.int .i64), .cell (.sl 126 Y1_24), cI, cI], [], 21, []⟩
def l133_2 (k : Nat) (g2 : Int → (List Int) → Y1_19 → Int → Int → Option Y1_40) (x : Int) (a : List Int) (b : Y1_27) (c e : Int) : Option Y1_40 :=
 (bif decide (e < c) then
  ix b e <|
  ap a ([(rd b e (0, 0)).1] : List Int) 8 fun r0 =>
  g2 x r0 b c (IntKind.i64.wrap (e + 1))
 else
  some (((x, []), a, ()), ()))
def b133_2 (k : Nat) (g : ((Unit) × (Int × Unit × Unit) × (List Int) × Y1_19 × Int × Int × Unit) → Option Y1_40) : ((Unit) × (Int × Unit × Unit) × (List Int) × Y1_19 × Int × Int × Unit) → Option Y1_40 := fun (_, (x, _), a, b, c, e, _) => l133_2 k (fun x a b c e => g ((), (x, (), ()), a, b, c, e, ())) x a b c e
def L133_2 (k a : Nat) (x : Int) (b : List Int) (c : Y1_27) (e f : Int) : Option Y1_40 := iter (R := (Y1_32 × (List Int) × Unit) × Unit) c133_L2 (b133_2 k) a ((), (x, (), ()), b, c, e, f, ())
theorem L133_2_s (k a x b c e f) : L133_2 k (a + 1) x b c e f = l133_2 k (L133_2 k a) x b c e f := iter_succ _ _ _ _
def S133 (k : Nat) (a : Int × List (Int × Int)) : Option Y1_40 :=
 L133_2 k k 0 ([] : List Int) a.2 (a.2.length : Int) 0
def F133 : Fn := ⟨[.val ⟨true, Y1_45, false⟩], [.val ⟨true, Y1_45, true⟩, .val ⟨false, Y1_16, true⟩], fun k x => S133 k x.1⟩
theorem ok133 : FnOK Tryz.prog 133 F133 := okF [] [(3, 2)] (fun k => (.loop 2 c133_L2 (b133_2 k) (fun g => .nil) .nil)) trivial Tryz.func133 rfl
def S171 (k : Nat) (a : Int) : Option Y1_31 :=
 (bif decide (a < 0) then
  none
 else
  (bif decide ((IntKind.i64.wrap (a - 0)) > 0) then
   az ([] : List Int) (IntKind.i64.wrap (a - 0)) 8 0 fun r0 =>
   sx r0 0 0 <|
   some ((r0.take 0, ()), ())
  else
   some (([], ()), ())))
def F171 : Fn := ⟨[.pv (.nil), .val ⟨false, (.int .i64), false⟩], [.val ⟨false, Y1_16, true⟩], fun k x => S171 k x.2.1⟩
theorem ok171 : FnOK Tryz.prog 171 F171 := okF [] [(25, 1)] (fun k => .nil) trivial Tryz.func171 rfl
abbrev c134_L11 : Cut := ⟨[6, 25, 26, 27], [.own 3 (.int .i64), .cell (.sl 41 Y1_16), cI, cI], [], 36, []⟩
def l134_11 (k : Nat) (g11 : (List Int) → Y1_37 → Int → Int → Option Y1_31) (a : List Int) (b : List (List Int)) (c e : Int) : Option Y1_31 :=
 (bif decide (e < c) then
  ix b e <|
  ap a (rd b e []) 8 fun r1 =>
  g11 r1 b c (IntKind.i64.wrap (e + 1))
 else
  some ((a, ()), ()))
def b134_11 (k : Nat) (g : ((Unit) × (List Int) × Y1_37 × Int × Int × Unit) → Option Y1_31) : ((Unit) × (List Int) × Y1_37 × Int × Int × Unit) → Option Y1_31 := fun (_, a, b, c, e, _) => l134_11 k (fun a b c e => g ((), a, b, c, e, ())) a b c e
def L134_11 (k a : Nat) (b : List Int) (c : List (List Int)) (e f : Int) : Option Y1_31 := iter (R := ((List Int) × Unit) × Unit) c134_L11 (b134_11 k) a ((), b, c, e, f, ())
theorem L134_11_s (k a b c e f) : L134_11 k (a + 1) b c e f = l134_11 k (L134_11 k a) b c e f := iter_succ _ _ _ _
abbrev c134_L3 : Cut := ⟨[0, 3, 9, 10, 11], [.cell (.sl 41 Y1_16), cI, .cell (.sl 41 Y1_16), cI, cI], [], 36, []⟩
def l134_3 (k : Nat) (g3 : Y1_37 → Int → Y1_37 → Int → Int → Option Y1_31) (a : List (List Int)) (b : Int) (c : List (List Int)) (e f : Int) : Option Y1_31 :=
 (bif decide (f < e) then
  ix c f <|
  (bif decide ((IntKind.i64.wrap (b + ((rd c f []).length : Int))) < 0) then
   none
  else
   g3 a (IntKind.i64.wrap (b + ((rd c f []).length : Int))) c e (IntKind.i64.wrap (f + 1)))
 else
  (S171 k b).bind fun q0 =>
  L134_11 k k q0.1.1 a (a.length : Int) 0)
def b134_3 (k : Nat) (g : ((Unit) × Y1_37 × Int × Y1_37 × Int × Int × Unit) → Option Y1_31) : ((Unit) × Y1_37 × Int × Y1_37 × Int × Int × Unit) → Option Y1_31 := fun (_, a, b, c, e, f, _) => l134_3 k (fun a b c e f => g ((), a, b, c, e, f, ())) a b c e f
def L134_3 (k a : Nat) (b : List (List Int)) (c : Int) (e : List (List Int)) (f h : Int) : Option Y1_31 := iter (R := ((List Int) × Unit) × Unit) c134_L3 (b134_3 k) a ((), b, c, e, f, h, ())
theorem L134_3_s (k a b c e f h) : L134_3 k (a + 1) b c e f h = l134_3 k (L134_3 k a) b c e f h := iter_succ _ _ _ _
def S134 (k : Nat) (a : List (List Int)) : Option Y1_31 :=
 L134_3 k k a 0 a (a.length : Int) 0
def F134 : Fn := ⟨[.val ⟨false, (.sl 41 Y1_16), false⟩], [.val ⟨false, Y1_16, true⟩], fun k x => S134 k x.1⟩
theorem ok134 : FnOK Tryz.prog 134 F134 := okF [(171, F171)] [] (fun k => (.loop 11 c134_L11 (b134_11 k) (fun g => .nil) (.loop 3 c134_L3 (b134_3 k) (fun g => .nil) .nil))) ⟨ok171, trivial⟩ Tryz.func134 rfl
def S96 (k : Nat) (x : Int × (Int × Int) × (Int × Int) × ((List Int) × List Int) × Y1_32 × Int) : Option Y1_31 :=
 (S132 k x.2.2.2.1).bind fun q0 =>
 (S133 k x.2.2.2.2.1).bind fun q1 =>
 (S134 k ([q0.1.2.1, q1.1.2.1] : List (List Int))).bind fun q2 =>
 some ((q2.1.1, ()), ())
def F96 : Fn := ⟨[.val ⟨true, Y1_5, false⟩], [.val ⟨false, Y1_16, true⟩], fun k x => S96 k x.1⟩
theorem ok96 : FnOK Tryz.prog 96 F96 := okF [(132, F132), (133, F133), (134, F134)] [] (fun k => .nil) ⟨ok132, ok133, ok134, trivial⟩ Tryz.func96 rfl
def S50 (k : Nat) (a : Y1_44 × List Y1_6) (b : Int × Int) : Option (((Y1_44 × List Y1_6) × (List Int) × Bool × Unit) × Unit) :=
 (S33 k a).bind fun q0 =>
 (S88 k a b).bind fun q1 =>
 (bif !q1.1.2.1 then
  some ((q0.1.1, [], false, ()), ())
 else
  ix a.2 q1.1.1 <|
  (bif (rd a.2 q1.1.1 (0, (0, 0), (0, 0), ([], []), (0, []), 0)).1 == 1 then
   some ((q0.1.1, [], false, ()), ())
  else
   (S95 k q0.1.1.1 b).bind fun q2 =>
   ix q0.1.1.2 q1.1.1 <|
   ix a.2 q1.1.1 <|
   (S96 k (rd a.2 q1.1.1 (0, (0, 0), (0, 0), ([], []), (0, []), 0))).bind fun q3 =>
   some (((q2.1.1, upd q0.1.1.2 q1.1.1 (0, (0, 0), (0, 0), ([], []), (0, []), 0)), q3.1.1, true, ()), ())))
def F50 : Fn := ⟨[.val ⟨true, Y1_36, false⟩, .val ⟨true, Y1_15, false⟩], [.val ⟨true, Y1_36, true⟩, .val ⟨false, Y1_16, true⟩, .val ⟨false, .bool, true⟩], fun k x => S50 k x.1 x.2.1⟩
theorem ok50 : FnOK Tryz.prog 50 F50 := okF [(33, F33), (88, F88), (95, F95), (96, F96)] [] (fun k => .nil) ⟨ok33, ok88, ok95, ok96, trivial⟩ Tryz.func50 rfl
def S45a (k : Nat) (a b : Int) (c : List Y1_7) (e : List (PN Int 5)) (f h i : Bool) (l : List Y1_2) (m : List Int) (n : List Bool) (o : List Y1_6) (p : List Int) (s : List Bool) (t u v w : Int) (y z A : List Y1_14) (B C D G H : Int) (I : List (PN Int 6)) (J K M N O P Q : Int) : Option Y1_34 :=
 ap I ([(a, 12, 0, O, P, Q)] : List (PN Int 6)) 48 fun r0 =>
 some ((), (a, b, c, e, f, h, i, l, m, n, o, p, s, t, u, v, w, y, z, A, B, C, D, G, H, r0, J, K, M, N, ()), ())
def F45a : Fn := ⟨[.mbox 77 [cI, cI, .cell (.sl 27 Y1_3), .cell (.sl 134 Y1_29), .cell .bool, .cell .bool, .cell .bool, .cell Y1_49, .own 3 (.int .i64), .own 4 .bool, .own 95 Y1_5, .cell Y1_16, .cell Y1_42, cI, cI, cI, cI, .cell Y1_17, .cell Y1_17, .cell Y1_17, cI, cI, cI, cI, .cell (.int .u32), .own 58 Y1_26, cI, cI, cI, cI], .val ⟨false, (.int .i64), false⟩, .val ⟨false, (.int .i64), false⟩, .val ⟨false, (.int .i64), false⟩], [], fun k ((a, b, c, e, f, h, i, l, m, n, o, p, s, t, u, v, w, y, z, A, B, C, D, G, H, I, J, K, M, N, _), O, P, Q, _) => S45a k a b c e f h i l m n o p s t u v w y z A B C D G H I J K M N O P Q⟩
theorem ok45a : FnOK Tryz.prog 45 F45a := okF [] [] (fun k => .nil) trivial Tryz.func45 rfl
abbrev c25_L5 : Cut := ⟨[0, 33, 34, 35], [.pin false 0, .own 3 (.int .i64), cI, cI], [.mbox 77 [cI, cI, .cell (.sl 27 Y1_3), .cell (.sl 134 Y1_29), .cell .bool, .cell .bool, .cell .bool, .cell Y1_49, .own 3 (.int .i64), .own 4 .bool, .own 95 Y1_5, .cell Y1_16, .cell Y1_42, cI, cI, cI, cI, .cell Y1_17, .cell Y1_17, .cell Y1_17, cI, cI, cI, cI, .cell (.int .u32), .own 58 Y1_26, cI, cI, cI, cI]], 43, []⟩
def l25_5 (k : Nat) (g5 : Int → Int → (List Y1_7) → (List (PN Int 5)) → Bool → Bool → Bool → (List Y1_2) → (List Int) → (List Bool) → (List Y1_6) → (List Int) → (List Bool) → Int → Int → Int → Int → (List Y1_14) → (List Y1_14) → (List Y1_14) → Int → Int → Int → Int → Int → Y1_56 → Int → Int → Int → Int → (List Int) → Int → Int → Option Y1_34) (a b : Int) (c : List Y1_7) (e : List (PN Int 5)) (f h i : Bool) (l : List Y1_2) (m : List Int) (n : List Bool) (o : List Y1_6) (p : List Int) (s : List Bool) (t u v w : Int) (y z A : List Y1_14) (B C D G H : Int) (I : List (PN Int 6)) (J K M N : Int) (O : List Int) (P Q : Int) : Option Y1_34 :=
 (bif decide (Q < P) then
  ix O Q <|
  (S45a k a b c e f h i l m n o p s t u v w y z A B C D G H I J K M N (rd O Q 0) 0 15).bind fun q1 =>
  g5 q1.2.1.1 q1.2.1.2.1 q1.2.1.2.2.1 q1.2.1.2.2.2.1 q1.2.1.2.2.2.2.1 q1.2.1.2.2.2.2.2.1 q1.2.1.2.2.2.2.2.2.1 q1.2.1.2.2.2.2.2.2.2.1 q1.2.1.2.2.2.2.2.2.2.2.1 q1.2.1.2.2.2.2.2.2.2.2.2.1 q1.2.1.2.2.2.2.2.2.2.2.2.2.1 q1.2.1.2.2.2.2.2.2.2.2.2.2.2.1 q1.2.1.2.2.2.2.2.2.2.2.2.2.2.2.1 q1.2.1.2.2.2.2.2.2.2.2.2.2.2.2.2.1 q1.2.1.2.2.2.2.2.2.2.2.2.2.2.2.2.2.1 q1.2.1.2.2.2.2.2.2.2.2.2.2.2.2.2.2.2.1 q1.2.1.2.2.2.2.2.2.2.2.2.2.2.2.2.2.2.2.1 q1.2.1.2.2.2.2.2.2.2.2.2.2.2.2.2.2.2.2.2.1 q1.2.1.2.2.2.2.2.2.2.2.2.2.2.2.2.2.2.2.2.2.1 q1.2.1.2.2.2.2.2.2.2.2.2.2.2.2.2.2.2.2.2.2.2.1 q1.2.1.2.2.2.2.2.2.2.2.2.2.2.2.2.2.2.2.2.2.2.2.1 q1.2.1.2.2.2.2.2.2.2.2.2.2.2.2.2.2.2.2.2.2.2.2.2.1 q1.2.1.2.2.2.2.2.2.2.2.2.2.2.2.2.2.2.2.2.2.2.2.2.2.1 q1.2.1.2.2.2.2.2.2.2.2.2.2.2.2.2.2.2.2.2.2.2.2.2.2.2.1 q1.2.1.2.2.2.2.2.2.2.2.2.2.2.2.2.2.2.2.2.2.2.2.2.2.2.2.1 q1.2.1.2.2.2.2.2.2.2.2.2.2.2.2.2.2.2.2.2.2.2.2.2.2.2.2.2.1 q1.2.1.2.2.2.2.2.2.2.2.2.2.2.2.2.2.2.2.2.2.2.2.2.2.2.2.2.2.1 q1.2.1.2.2.2.2.2.2.2.2.2.2.2.2.2.2.2.2.2.2.2.2.2.2.2.2.2.2.2.1 q1.2.1.2.2.2.2.2.2.2.2.2.2.2.2.2.2.2.2.2.2.2.2.2.2.2.2.2.2.2.2.1 q1.2.1.2.2.2.2.2.2.2.2.2.2.2.2.2.2.2.2.2.2.2.2.2.2.2.2.2.2.2.2.2.1 O P (IntKind.i64.wrap (Q + 1))
 else
  some ((), (a, b, c, e, f, h, i, l, m, n, o, p, s, t, u, v, w, y, z, A, B, C, D, G, H, I, J, K, M, N, ()), ()))
def b25_5 (k : Nat) (g : ((Y1_4 × Unit) × Unit × (List Int) × Int × Int × Unit) → Option Y1_34) : ((Y1_4 × Unit) × Unit × (List Int) × Int × Int × Unit) → Option Y1_34 := fun (((a, b, c, e, f, h, i, l, m, n, o, p, s, t, u, v, w, y, z, A, B, C, D, G, H, I, J, K, M, N, _), _), _, O, P, Q, _) => l25_5 k (fun a b c e f h i l m n o p s t u v w y z A B C D G H I J K M N O P Q => g (((a, b, c, e, f, h, i, l, m, n, o, p, s, t, u, v, w, y, z, A, B, C, D, G, H, I, J, K, M, N, ()), ()), (), O, P, Q, ())) a b c e f h i l m n o p s t u v w y z A B C D G H I J K M N O P Q
def L25_5 (k a : Nat) (b c : Int) (e : List Y1_7) (f : List (PN Int 5)) (h i l : Bool) (m : List Y1_2) (n : List Int) (o : List Bool) (p : List Y1_6) (s : List Int) (t : List Bool) (u v w y : Int) (z A B : List Y1_14) (C D G H I : Int) (J : List (PN Int 6)) (K M N O : Int) (P : List Int) (Q T : Int) : Option Y1_34 := iter (R := (Unit) × Y1_4 × Unit) c25_L5 (b25_5 k) a (((b, c, e, f, h, i, l, m, n, o, p, s, t, u, v, w, y, z, A, B, C, D, G, H, I, J, K, M, N, O, ()), ()), (), P, Q, T, ())
theorem L25_5_s (k a b c e f h i l m n o p s t u v w y z A B C D G H I J K M N O P Q T) : L25_5 k (a + 1) b c e f h i l m n o p s t u v w y z A B C D G H I J K M N O P Q T = l25_5 k (L25_5 k a) b c e f h i l m n o p s t u v w y z A B C D G H I J K M N O P Q T := iter_succ _ _ _ _
def S25 (k : Nat) (a b : Int) (c : List Y1_7) (e : List (PN Int 5)) (f h i : Bool) (l : List Y1_2) (m : List Int) (n : List Bool) (o : List Y1_6) (p : List Int) (s : List Bool) (t u v w : Int) (y z A : List Y1_14) (B C D G H : Int) (I : List (PN Int 6)) (J K M N : Int) : Option Y1_34 :=
 (S50 k ((m, n), o) (B, C)).bind fun q0 =>
 (bif !q0.1.2.2.1 then
  some ((), (a, b, c, e, f, h, i, l, m, n, o, p, s, t, u, v, w, y, z, A, B, C, D, G, H, I, 3, K, M, N, ()), ())
 else
  L25_5 k k a b c e f h i l q0.1.1.1.1 q0.1.1.1.2 q0.1.1.2 p s t u v w y z A B C D G H I J K M N q0.1.2.1 (q0.1.2.1.length : Int) 0)
def F25 : Fn := ⟨[.mbox 77 [cI, cI, .cell (.sl 27 Y1_3), .cell (.sl 134 Y1_29), .cell .bool, .cell .bool, .cell .bool, .cell Y1_49, .cell Y1_16, .cell Y1_42, .cell (.sl 95 Y1_5), .cell Y1_16, .cell Y1_42, cI, cI, cI, cI, .cell Y1_17, .cell Y1_17, .cell Y1_17, cI, cI, cI, cI, .cell (.int .u32), .own 58 Y1_26, cI, cI, cI, cI]], [], fun k ((a, b, c, e, f, h, i, l, m, n, o, p, s, t, u, v, w, y, z, A, B, C, D, G, H, I, J, K, M, N, _), _) => S25 k a b c e f h i l m n o p s t u v w y z A B C D G H I J K M N⟩
theorem ok25 : FnOK Tryz.prog 25 F25 := okF [(45, F45a), (50, F50)] [] (fun k => (.loop 5 c25_L5 (b25_5 k) (fun g => .nil) .nil)) ⟨ok45a, ok50, trivial⟩ Tryz.func25 rfl
def S26 (k : Nat) (a b : Int) (c : List Y1_7) (e : List (PN Int 5)) (f h i : Bool) (l : List Y1_2) (m : List Int) (n : List Bool) (o : List Y1_6) (p : List Int) (s : List Bool) (t u v w : Int) (y z A : List Y1_14) (B C D G H : Int) (I : List (PN Int 6)) (J K M N : Int) : Option Y1_34 :=
 some ((), (a, b, c, e, f, h, i, l, m, n, o, p, s, t, u, v, w, y, z, A, B, C, D, G, H, I, 1, K, M, N, ()), ())
def F26 : Fn := ⟨[.mbox 77 [cI, cI, .cell (.sl 27 Y1_3), .cell (.sl 134 Y1_29), .cell .bool, .cell .bool, .cell .bool, .cell Y1_49, .cell Y1_16, .cell Y1_42, .cell (.sl 95 Y1_5), .cell Y1_16, .cell Y1_42, cI, cI, cI, cI, .cell Y1_17, .cell Y1_17, .cell Y1_17, cI, cI, cI, cI, .cell (.int .u32), .own 58 Y1_26, cI, cI, cI, cI]], [], fun k ((a, b, c, e, f, h, i, l, m, n, o, p, s, t, u, v, w, y, z, A, B, C, D, G, H, I, J, K, M, N, _), _) => S26 k a b c e f h i l m n o p s t u v w y z A B C D G H I J K M N⟩
theorem ok26 : FnOK Tryz.prog 26 F26 := okF [] [] (fun k => .nil) trivial Tryz.func26 rfl
def S11 (k : Nat) (a : Y1_33) (b : Int × Y1_7 × (Int × Int) × Int × Int × Int) : Option (Y1_11 × Unit) :=
 (bif b.1 == 1 then
  (S17 k a.1 a.2.1 a.2.2.1 a.2.2.2.1 a.2.2.2.2.1 a.2.2.2.2.2.1 a.2.2.2.2.2.2.1 a.2.2.2.2.2.2.2.1 a.2.2.2.2.2.2.2.2.1.1.1 a.2.2.2.2.2.2.2.2.1.1.2 a.2.2.2.2.2.2.2.2.1.2 a.2.2.2.2.2.2.2.2.2.1 a.2.2.2.2.2.2.2.2.2.2 b.1 b.2.1.1 b.2.1.2.1 b.2.1.2.2.1 b.2.1.2.2.2.1 b.2.1.2.2.2.2.1 b.2.1.2.2.2.2.2 b.2.2.1.1 b.2.2.1.2 b.2.2.2.1 b.2.2.2.2.1 b.2.2.2.2.2 ([] : List (PN Int 6)) 0 0 0 0).bind fun q0 =>
  (S27 k (q0.2.1.1, q0.2.1.2.1, q0.2.1.2.2.1, q0.2.1.2.2.2.1, q0.2.1.2.2.2.2.1, q0.2.1.2.2.2.2.2.1, q0.2.1.2.2.2.2.2.2.1, q0.2.1.2.2.2.2.2.2.2.1, ((q0.2.1.2.2.2.2.2.2.2.2.1, q0.2.1.2.2.2.2.2.2.2.2.2.1), q0.2.1.2.2.2.2.2.2.2.2.2.2.1), q0.2.1.2.2.2.2.2.2.2.2.2.2.2.1, q0.2.1.2.2.2.2.2.2.2.2.2.2.2.2.1)).bind fun q1 =>
  some ((q1.1.1, q0.2.1.2.2.2.2.2.2.2.2.2.2.2.2.2.2.2.2.2.2.2.2.2.2.2.2.2.1, (q0.2.1.2.2.2.2.2.2.2.2.2.2.2.2.2.2.2.2.2.2.2.2.2.2.2.2.2.2.1, (q0.2.1.2.2.2.2.2.2.2.2.2.2.2.2.2.2.2.2.2.2.2.2.2.2.2.2.2.2.2.1, q0.2.1.2.2.2.2.2.2.2.2.2.2.2.2.2.2.2.2.2.2.2.2.2.2.2.2.2.2.2.2.1), q0.2.1.2.2.2.2.2.2.2.2.2.2.2.2.2.2.2.2.2.2.2.2.2.2.2.2.2.2.2.2.2.1), ()), ())
 else
  (bif b.1 == 2 then
   (S18 k a.1 a.2.1 a.2.2.1 a.2.2.2.1 a.2.2.2.2.1 a.2.2.2.2.2.1 a.2.2.2.2.2.2.1 a.2.2.2.2.2.2.2.1 a.2.2.2.2.2.2.2.2.1.1.1 a.2.2.2.2.2.2.2.2.1.1.2 a.2.2.2.2.2.2.2.2.1.2 a.2.2.2.2.2.2.2.2.2.1 a.2.2.2.2.2.2.2.2.2.2 b.1 b.2.1.1 b.2.1.2.1 b.2.1.2.2.1 b.2.1.2.2.2.1 b.2.1.2.2.2.2.1 b.2.1.2.2.2.2.2 b.2.2.1.1 b.2.2.1.2 b.2.2.2.1 b.2.2.2.2.1 b.2.2.2.2.2 ([] : List (PN Int 6)) 0 0 0 0).bind fun q2 =>
   (S27 k (q2.2.1.1, q2.2.1.2.1, q2.2.1.2.2.1, q2.2.1.2.2.2.1, q2.2.1.2.2.2.2.1, q2.2.1.2.2.2.2.2.1, q2.2.1.2.2.2.2.2.2.1, q2.2.1.2.2.2.2.2.2.2.1, ((q2.2.1.2.2.2.2.2.2.2.2.1, q2.2.1.2.2.2.2.2.2.2.2.2.1), q2.2.1.2.2.2.2.2.2.2.2.2.2.1), q2.2.1.2.2.2.2.2.2.2.2.2.2.2.1, q2.2.1.2.2.2.2.2.2.2.2.2.2.2.2.1)).bind fun q3 =>
   some ((q3.1.1, q2.2.1.2.2.2.2.2.2.2.2.2.2.2.2.2.2.2.2.2.2.2.2.2.2.2.2.2.1, (q2.2.1.2.2.2.2.2.2.2.2.2.2.2.2.2.2.2.2.2.2.2.2.2.2.2.2.2.2.1, (q2.2.1.2.2.2.2.2.2.2.2.2.2.2.2.2.2.2.2.2.2.2.2.2.2.2.2.2.2.2.1, q2.2.1.2.2.2.2.2.2.2.2.2.2.2.2.2.2.2.2.2.2.2.2.2.2.2.2.2.2.2.2.1), q2.2.1.2.2.2.2.2.2.2.2.2.2.2.2.2.2.2.2.2.2.2.2.2.2.2.2.2.2.2.2.2.1), ()), ())
  else
   (bif b.1 == 3 then
    (S18 k a.1 a.2.1 a.2.2.1 a.2.2.2.1 a.2.2.2.2.1 a.2.2.2.2.2.1 a.2.2.2.2.2.2.1 a.2.2.2.2.2.2.2.1 a.2.2.2.2.2.2.2.2.1.1.1 a.2.2.2.2.2.2.2.2.1.1.2 a.2.2.2.2.2.2.2.2.1.2 a.2.2.2.2.2.2.2.2.2.1 a.2.2.2.2.2.2.2.2.2.2 b.1 b.2.1.1 b.2.1.2.1 b.2.1.2.2.1 b.2.1.2.2.2.1 b.2.1.2.2.2.2.1 b.2.1.2.2.2.2.2 b.2.2.1.1 b.2.2.1.2 b.2.2.2.1 b.2.2.2.2.1 b.2.2.2.2.2 ([] : List (PN Int 6)) 0 0 0 0).bind fun q4 =>
    (S27 k (q4.2.1.1, q4.2.1.2.1, q4.2.1.2.2.1, q4.2.1.2.2.2.1, q4.2.1.2.2.2.2.1, q4.2.1.2.2.2.2.2.1, q4.2.1.2.2.2.2.2.2.1, q4.2.1.2.2.2.2.2.2.2.1, ((q4.2.1.2.2.2.2.2.2.2.2.1, q4.2.1.2.2.2.2.2.2.2.2.2.1), q4.2.1.2.2.2.2.2.2.2.2.2.2.1), q4.2.1.2.2.2.2.2.2.2.2.2.2.2.1, q4.2.1.2.2.2.2.2.2.2.2.2.2.2.2.1)).bind fun q5 =>
    some ((q5.1.1, q4.2.1.2.2.2.2.2.2.2.2.2.2.2.2.2.2.2.2.2.2.2.2.2.2.2.2.2.1, (q4.2.1.2.2.2.2.2.2.2.2.2.2.2.2.2.2.2.2.2.2.2.2.2.2.2.2.2.2.1, (q4.2.1.2.2.2.2.2.2.2.2.2.2.2.2.2.2.2.2.2.2.2.2.2.2.2.2.2.2.2.1, q4.2.1.2.2.2.2.2.2.2.2.2.2.2.2.2.2.2.2.2.2.2.2.2.2.2.2.2.2.2.2.1), q4.2.1.2.2.2.2.2.2.2.2.2.2.2.2.2.2.2.2.2.2.2.2.2.2.2.2.2.2.2.2.2.1), ()), ())
   else
    (bif b.1 == 4 then
     (S18 k a.1 a.2.1 a.2.2.1 a.2.2.2.1 a.2.2.2.2.1 a.2.2.2.2.2.1 a.2.2.2.2.2.2.1 a.2.2.2.2.2.2.2.1 a.2.2.2.2.2.2.2.2.1.1.1 a.2.2.2.2.2.2.2.2.1.1.2 a.2.2.2.2.2.2.2.2.1.2 a.2.2.2.2.2.2.2.2.2.1 a.2.2.2.2.2.2.2.2.2.2 b.1 b.2.1.1 b.2.1.2.1 b.2.1.2.2.1 b.2.1.2.2.2.1 b.2.1.2.2.2.2.1 b.2.1.2.2.2.2.2 b.2.2.1.1 b.2.2.1.2 b.2.2.2.1 b.2.2.2.2.1 b.2.2.2.2.2 ([] : List (PN Int 6)) 0 0 0 0).bind fun q6 =>
     (S27 k (q6.2.1.1, q6.2.1.2.1, q6.2.1.2.2.1, q6.2.1.2.2.2.1, q6.2.1.2.2.2.2.1, q6.2.1.2.2.2.2.2.1, q6.2.1.2.2.2.2.2.2.1, q6.2.1.2.2.2.2.2.2.2.1, ((q6.2.1.2.2.2.2.2.2.2.2.1, q6.2.1.2.2.2.2.2.2.2.2.2.1), q6.2.1.2.2.2.2.2.2.2.2.2.2.1), q6.2.1.2.2.2.2.2.2.2.2.2.2.2.1, q6.2.1.2.2.2.2.2.2.2.2.2.2.2.2.1)).bind fun q7 =>
     some ((q7.1.1, q6.2.1.2.2.2.2.2.2.2.2.2.2.2.2.2.2.2.2.2.2.2.2.2.2.2.2.2.1, (q6.2.1.2.2.2.2.2.2.2.2.2.2.2.2.2.2.2.2.2.2.2.2.2.2.2.2.2.2.1, (q6.2.1.2.2.2.2.2.2.2.2.2.2.2.2.2.2.2.2.2.2.2.2.2.2.2.2.2.2.2.1, q6.2.1.2.2.2.2.2.2.2.2.2.2.2.2.2.2.2.2.2.2.2.2.2.2.2.2.2.2.2.2.1), q6.2.1.2.2.2.2.2.2.2.2.2.2.2.2.2.2.2.2.2.2.2.2.2.2.2.2.2.2.2.2.2.1), ()), ())
    else
     (bif b.1 == 5 then
      (S19 k a.1 a.2.1 a.2.2.1 a.2.2.2.1 a.2.2.2.2.1 a.2.2.2.2.2.1 a.2.2.2.2.2.2.1 a.2.2.2.2.2.2.2.1 a.2.2.2.2.2.2.2.2.1.1.1 a.2.2.2.2.2.2.2.2.1.1.2 a.2.2.2.2.2.2.2.2.1.2 a.2.2.2.2.2.2.2.2.2.1 a.2.2.2.2.2.2.2.2.2.2 b.1 b.2.1.1 b.2.1.2.1 b.2.1.2.2.1 b.2.1.2.2.2.1 b.2.1.2.2.2.2.1 b.2.1.2.2.2.2.2 b.2.2.1.1 b.2.2.1.2 b.2.2.2.1 b.2.2.2.2.1 b.2.2.2.2.2 ([] : List (PN Int 6)) 0 0 0 0).bind fun q8 =>
      (S27 k (q8.2.1.1, q8.2.1.2.1, q8.2.1.2.2.1, q8.2.1.2.2.2.1, q8.2.1.2.2.2.2.1, q8.2.1.2.2.2.2.2.1, q8.2.1.2.2.2.2.2.2.1, q8.2.1.2.2.2.2.2.2.2.1, ((q8.2.1.2.2.2.2.2.2.2.2.1, q8.2.1.2.2.2.2.2.2.2.2.2.1), q8.2.1.2.2.2.2.2.2.2.2.2.2.1), q8.2.1.2.2.2.2.2.2.2.2.2.2.2.1, q8.2.1.2.2.2.2.2.2.2.2.2.2.2.2.1)).bind fun q9 =>
      some ((q9.1.1, q8.2.1.2.2.2.2.2.2.2.2.2.2.2.2.2.2.2.2.2.2.2.2.2.2.2.2.2.1, (q8.2.1.2.2.2.2.2.2.2.2.2.2.2.2.2.2.2.2.2.2.2.2.2.2.2.2.2.2.1, (q8.2.1.2.2.2.2.2.2.2.2.2.2.2.2.2.2.2.2.2.2.2.2.2.2.2.2.2.2.2.1, q8.2.1.2.2.2.2.2.2.2.2.2.2.2.2.2.2.2.2.2.2.2.2.2.2.2.2.2.2.2.2.1), q8.2.1.2.2.2.2.2.2.2.2.2.2.2.2.2.2.2.2.2.2.2.2.2.2.2.2.2.2.2.2.2.1), ()), ())
     else
      (bif b.1 == 6 then
       (S20 k a.1 a.2.1 a.2.2.1 a.2.2.2.1 a.2.2.2.2.1 a.2.2.2.2.2.1 a.2.2.2.2.2.2.1 a.2.2.2.2.2.2.2.1 a.2.2.2.2.2.2.2.2.1.1.1 a.2.2.2.2.2.2.2.2.1.1.2 a.2.2.2.2.2.2.2.2.1.2 a.2.2.2.2.2.2.2.2.2.1 a.2.2.2.2.2.2.2.2.2.2 b.1 b.2.1.1 b.2.1.2.1 b.2.1.2.2.1 b.2.1.2.2.2.1 b.2.1.2.2.2.2.1 b.2.1.2.2.2.2.2 b.2.2.1.1 b.2.2.1.2 b.2.2.2.1 b.2.2.2.2.1 b.2.2.2.2.2 ([] : List (PN Int 6)) 0 0 0 0).bind fun q10 =>
       (S27 k (q10.2.1.1, q10.2.1.2.1, q10.2.1.2.2.1, q10.2.1.2.2.2.1, q10.2.1.2.2.2.2.1, q10.2.1.2.2.2.2.2.1, q10.2.1.2.2.2.2.2.2.1, q10.2.1.2.2.2.2.2.2.2.1, ((q10.2.1.2.2.2.2.2.2.2.2.1, q10.2.1.2.2.2.2.2.2.2.2.2.1), q10.2.1.2.2.2.2.2.2.2.2.2.2.1), q10.2.1.2.2.2.2.2.2.2.2.2.2.2.1, q10.2.1.2.2.2.2.2.2.2.2.2.2.2.2.1)).bind fun q11 =>
       some ((q11.1.1, q10.2.1.2.2.2.2.2.2.2.2.2.2.2.2.2.2.2.2.2.2.2.2.2.2.2.2.2.1, (q10.2.1.2.2.2.2.2.2.2.2.2.2.2.2.2.2.2.2.2.2.2.2.2.2.2.2.2.2.1, (q10.2.1.2.2.2.2.2.2.2.2.2.2.2.2.2.2.2.2.2.2.2.2.2.2.2.2.2.2.2.1, q10.2.1.2.2.2.2.2.2.2.2.2.2.2.2.2.2.2.2.2.2.2.2.2.2.2.2.2.2.2.2.1), q10.2.1.2.2.2.2.2.2.2.2.2.2.2.2.2.2.2.2.2.2.2.2.2.2.2.2.2.2.2.2.2.1), ()), ())
      else
       (bif b.1 == 7 then
        (S21 k a.1 a.2.1 a.2.2.1 a.2.2.2.1 a.2.2.2.2.1 a.2.2.2.2.2.1 a.2.2.2.2.2.2.1 a.2.2.2.2.2.2.2.1 a.2.2.2.2.2.2.2.2.1.1.1 a.2.2.2.2.2.2.2.2.1.1.2 a.2.2.2.2.2.2.2.2.1.2 a.2.2.2.2.2.2.2.2.2.1 a.2.2.2.2.2.2.2.2.2.2 b.1 b.2.1.1 b.2.1.2.1 b.2.1.2.2.1 b.2.1.2.2.2.1 b.2.1.2.2.2.2.1 b.2.1.2.2.2.2.2 b.2.2.1.1 b.2.2.1.2 b.2.2.2.1 b.2.2.2.2.1 b.2.2.2.2.2 ([] : List (PN Int 6)) 0 0 0 0).bind fun q12 =>
        (S27 k (q12.2.1.1, q12.2.1.2.1, q12.2.1.2.2.1, q12.2.1.2.2.2.1, q12.2.1.2.2.2.2.1, q12.2.1.2.2.2.2.2.1, q12.2.1.2.2.2.2.2.2.1, q12.2.1.2.2.2.2.2.2.2.1, ((q12.2.1.2.2.2.2.2.2.2.2.1, q12.2.1.2.2.2.2.2.2.2.2.2.1), q12.2.1.2.2.2.2.2.2.2.2.2.2.1), q12.2.1.2.2.2.2.2.2.2.2.2.2.2.1, q12.2.1.2.2.2.2.2.2.2.2.2.2.2.2.1)).bind fun q13 =>
        some ((q13.1.1, q12.2.1.2.2.2.2.2.2.2.2.2.2.2.2.2.2.2.2.2.2.2.2.2.2.2.2.2.1, (q12.2.1.2.2.2.2.2.2.2.2.2.2.2.2.2.2.2.2.2.2.2.2.2.2.2.2.2.2.1, (q12.2.1.2.2.2.2.2.2.2.2.2.2.2.2.2.2.2.2.2.2.2.2.2.2.2.2.2.2.2.1, q12.2.1.2.2.2.2.2.2.2.2.2.2.2.2.2.2.2.2.2.2.2.2.2.2.2.2.2.2.2.2.1), q12.2.1.2.2.2.2.2.2.2.2.2.2.2.2.2.2.2.2.2.2.2.2.2.2.2.2.2.2.2.2.2.1), ()), ())
       else
        (bif b.1 == 8 then
         (S22 k a.1 a.2.1 a.2.2.1 a.2.2.2.1 a.2.2.2.2.1 a.2.2.2.2.2.1 a.2.2.2.2.2.2.1 a.2.2.2.2.2.2.2.1 a.2.2.2.2.2.2.2.2.1.1.1 a.2.2.2.2.2.2.2.2.1.1.2 a.2.2.2.2.2.2.2.2.1.2 a.2.2.2.2.2.2.2.2.2.1 a.2.2.2.2.2.2.2.2.2.2 b.1 b.2.1.1 b.2.1.2.1 b.2.1.2.2.1 b.2.1.2.2.2.1 b.2.1.2.2.2.2.1 b.2.1.2.2.2.2.2 b.2.2.1.1 b.2.2.1.2 b.2.2.2.1 b.2.2.2.2.1 b.2.2.2.2.2 ([] : List (PN Int 6)) 0 0 0 0).bind fun q14 =>
         (S27 k (q14.2.1.1, q14.2.1.2.1, q14.2.1.2.2.1, q14.2.1.2.2.2.1, q14.2.1.2.2.2.2.1, q14.2.1.2.2.2.2.2.1, q14.2.1.2.2.2.2.2.2.1, q14.2.1.2.2.2.2.2.2.2.1, ((q14.2.1.2.2.2.2.2.2.2.2.1, q14.2.1.2.2.2.2.2.2.2.2.2.1), q14.2.1.2.2.2.2.2.2.2.2.2.2.1), q14.2.1.2.2.2.2.2.2.2.2.2.2.2.1, q14.2.1.2.2.2.2.2.2.2.2.2.2.2.2.1)).bind fun q15 =>
         some ((q15.1.1, q14.2.1.2.2.2.2.2.2.2.2.2.2.2.2.2.2.2.2.2.2.2.2.2.2.2.2.2.1, (q14.2.1.2.2.2.2.2.2.2.2.2.2.2.2.2.2.2.2.2.2.2.2.2.2.2.2.2.2.1, (q14.2.1.2.2.2.2.2.2.2.2.2.2.2.2.2.2.2.2.2.2.2.2.2.2.2.2.2.2.2.1, q14.2.1.2.2.2.2.2.2.2.2.2.2.2.2.2.2.2.2.2.2.2.2.2.2.2.2.2.2.2.2.1), q14.2.1.2.2.2.2.2.2.2.2.2.2.2.2.2.2.2.2.2.2.2.2.2.2.2.2.2.2.2.2.2.1), ()), ())
        else
         (bif b.1 == 9 then
          (S23 k a.1 a.2.1 a.2.2.1 a.2.2.2.1 a.2.2.2.2.1 a.2.2.2.2.2.1 a.2.2.2.2.2.2.1 a.2.2.2.2.2.2.2.1 a.2.2.2.2.2.2.2.2.1.1.1 a.2.2.2.2.2.2.2.2.1.1.2 a.2.2.2.2.2.2.2.2.1.2 a.2.2.2.2.2.2.2.2.2.1 a.2.2.2.2.2.2.2.2.2.2 b.1 b.2.1.1 b.2.1.2.1 b.2.1.2.2.1 b.2.1.2.2.2.1 b.2.1.2.2.2.2.1 b.2.1.2.2.2.2.2 b.2.2.1.1 b.2.2.1.2 b.2.2.2.1 b.2.2.2.2.1 b.2.2.2.2.2 ([] : List (PN Int 6)) 0 0 0 0).bind fun q16 =>
          (S27 k (q16.2.1.1, q16.2.1.2.1, q16.2.1.2.2.1, q16.2.1.2.2.2.1, q16.2.1.2.2.2.2.1, q16.2.1.2.2.2.2.2.1, q16.2.1.2.2.2.2.2.2.1, q16.2.1.2.2.2.2.2.2.2.1, ((q16.2.1.2.2.2.2.2.2.2.2.1, q16.2.1.2.2.2.2.2.2.2.2.2.1), q16.2.1.2.2.2.2.2.2.2.2.2.2.1), q16.2.1.2.2.2.2.2.2.2.2.2.2.2.1, q16.2.1.2.2.2.2.2.2.2.2.2.2.2.2.1)).bind fun q17 =>
          some ((q17.1.1, q16.2.1.2.2.2.2.2.2.2.2.2.2.2.2.2.2.2.2.2.2.2.2.2.2.2.2.2.1, (q16.2.1.2.2.2.2.2.2.2.2.2.2.2.2.2.2.2.2.2.2.2.2.2.2.2.2.2.2.1, (q16.2.1.2.2.2.2.2.2.2.2.2.2.2.2.2.2.2.2.2.2.2.2.2.2.2.2.2.2.2.1, q16.2.1.2.2.2.2.2.2.2.2.2.2.2.2.2.2.2.2.2.2.2.2.2.2.2.2.2.2.2.2.1), q16.2.1.2.2.2.2.2.2.2.2.2.2.2.2.2.2.2.2.2.2.2.2.2.2.2.2.2.2.2.2.2.1), ()), ())
         else
          (bif b.1 == 10 then
           (S24 k a.1 a.2.1 a.2.2.1 a.2.2.2.1 a.2.2.2.2.1 a.2.2.2.2.2.1 a.2.2.2.2.2.2.1 a.2.2.2.2.2.2.2.1 a.2.2.2.2.2.2.2.2.1.1.1 a.2.2.2.2.2.2.2.2.1.1.2 a.2.2.2.2.2.2.2.2.1.2 a.2.2.2.2.2.2.2.2.2.1 a.2.2.2.2.2.2.2.2.2.2 b.1 b.2.1.1 b.2.1.2.1 b.2.1.2.2.1 b.2.1.2.2.2.1 b.2.1.2.2.2.2.1 b.2.1.2.2.2.2.2 b.2.2.1.1 b.2.2.1.2 b.2.2.2.1 b.2.2.2.2.1 b.2.2.2.2.2 ([] : List (PN Int 6)) 0 0 0 0).bind fun q18 =>
           (S27 k (q18.2.1.1, q18.2.1.2.1, q18.2.1.2.2.1, q18.2.1.2.2.2.1, q18.2.1.2.2.2.2.1, q18.2.1.2.2.2.2.2.1, q18.2.1.2.2.2.2.2.2.1, q18.2.1.2.2.2.2.2.2.2.1, ((q18.2.1.2.2.2.2.2.2.2.2.1, q18.2.1.2.2.2.2.2.2.2.2.2.1), q18.2.1.2.2.2.2.2.2.2.2.2.2.1), q18.2.1.2.2.2.2.2.2.2.2.2.2.2.1, q18.2.1.2.2.2.2.2.2.2.2.2.2.2.2.1)).bind fun q19 =>
           some ((q19.1.1, q18.2.1.2.2.2.2.2.2.2.2.2.2.2.2.2.2.2.2.2.2.2.2.2.2.2.2.2.1, (q18.2.1.2.2.2.2.2.2.2.2.2.2.2.2.2.2.2.2.2.2.2.2.2.2.2.2.2.2.1, (q18.2.1.2.2.2.2.2.2.2.2.2.2.2.2.2.2.2.2.2.2.2.2.2.2.2.2.2.2.2.1, q18.2.1.2.2.2.2.2.2.2.2.2.2.2.2.2.2.2.2.2.2.2.2.2.2.2.2.2.2.2.2.1), q18.2.1.2.2.2.2.2.2.2.2.2.2.2.2.2.2.2.2.2.2.2.2.2.2.2.2.2.2.2.2.2.1), ()), ())
          else
           (bif b.1 == 11 then
            (S25 k a.1 a.2.1 a.2.2.1 a.2.2.2.1 a.2.2.2.2.1 a.2.2.2.2.2.1 a.2.2.2.2.2.2.1 a.2.2.2.2.2.2.2.1 a.2.2.2.2.2.2.2.2.1.1.1 a.2.2.2.2.2.2.2.2.1.1.2 a.2.2.2.2.2.2.2.2.1.2 a.2.2.2.2.2.2.2.2.2.1 a.2.2.2.2.2.2.2.2.2.2 b.1 b.2.1.1 b.2.1.2.1 b.2.1.2.2.1 b.2.1.2.2.2.1 b.2.1.2.2.2.2.1 b.2.1.2.2.2.2.2 b.2.2.1.1 b.2.2.1.2 b.2.2.2.1 b.2.2.2.2.1 b.2.2.2.2.2 ([] : List (PN Int 6)) 0 0 0 0).bind fun q20 =>
            (S27 k (q20.2.1.1, q20.2.1.2.1, q20.2.1.2.2.1, q20.2.1.2.2.2.1, q20.2.1.2.2.2.2.1, q20.2.1.2.2.2.2.2.1, q20.2.1.2.2.2.2.2.2.1, q20.2.1.2.2.2.2.2.2.2.1, ((q20.2.1.2.2.2.2.2.2.2.2.1, q20.2.1.2.2.2.2.2.2.2.2.2.1), q20.2.1.2.2.2.2.2.2.2.2.2.2.1), q20.2.1.2.2.2.2.2.2.2.2.2.2.2.1, q20.2.1.2.2.2.2.2.2.2.2.2.2.2.2.1)).bind fun q21 =>
            some ((q21.1.1, q20.2.1.2.2.2.2.2.2.2.2.2.2.2.2.2.2.2.2.2.2.2.2.2.2.2.2.2.1, (q20.2.1.2.2.2.2.2.2.2.2.2.2.2.2.2.2.2.2.2.2.2.2.2.2.2.2.2.2.1, (q20.2.1.2.2.2.2.2.2.2.2.2.2.2.2.2.2.2.2.2.2.2.2.2.2.2.2.2.2.2.1, q20.2.1.2.2.2.2.2.2.2.2.2.2.2.2.2.2.2.2.2.2.2.2.2.2.2.2.2.2.2.2.1), q20.2.1.2.2.2.2.2.2.2.2.2.2.2.2.2.2.2.2.2.2.2.2.2.2.2.2.2.2.2.2.2.1), ()), ())
           else
            (S26 k a.1 a.2.1 a.2.2.1 a.2.2.2.1 a.2.2.2.2.1 a.2.2.2.2.2.1 a.2.2.2.2.2.2.1 a.2.2.2.2.2.2.2.1 a.2.2.2.2.2.2.2.2.1.1.1 a.2.2.2.2.2.2.2.2.1.1.2 a.2.2.2.2.2.2.2.2.1.2 a.2.2.2.2.2.2.2.2.2.1 a.2.2.2.2.2.2.2.2.2.2 b.1 b.2.1.1 b.2.1.2.1 b.2.1.2.2.1 b.2.1.2.2.2.1 b.2.1.2.2.2.2.1 b.2.1.2.2.2.2.2 b.2.2.1.1 b.2.2.1.2 b.2.2.2.1 b.2.2.2.2.1 b.2.2.2.2.2 ([] : List (PN Int 6)) 0 0 0 0).bind fun q22 =>
            (S27 k (q22.2.1.1, q22.2.1.2.1, q22.2.1.2.2.1, q22.2.1.2.2.2.1, q22.2.1.2.2.2.2.1, q22.2.1.2.2.2.2.2.1, q22.2.1.2.2.2.2.2.2.1, q22.2.1.2.2.2.2.2.2.2.1, ((q22.2.1.2.2.2.2.2.2.2.2.1, q22.2.1.2.2.2.2.2.2.2.2.2.1), q22.2.1.2.2.2.2.2.2.2.2.2.2.1), q22.2.1.2.2.2.2.2.2.2.2.2.2.2.1, q22.2.1.2.2.2.2.2.2.2.2.2.2.2.2.1)).bind fun q23 =>
            some ((q23.1.1, q22.2.1.2.2.2.2.2.2.2.2.2.2.2.2.2.2.2.2.2.2.2.2.2.2.2.2.2.1, (q22.2.1.2.2.2.2.2.2.2.2.2.2.2.2.2.2.2.2.2.2.2.2.2.2.2.2.2.2.1, (q22.2.1.2.2.2.2.2.2.2.2.2.2.2.2.2.2.2.2.2.2.2.2.2.2.2.2.2.2.2.1, q22.2.1.2.2.2.2.2.2.2.2.2.2.2.2.2.2.2.2.2.2.2.2.2.2.2.2.2.2.2.2.1), q22.2.1.2.2.2.2.2.2.2.2.2.2.2.2.2.2.2.2.2.2.2.2.2.2.2.2.2.2.2.2.2.1), ()), ()))))))))))))
def F11 : Fn := ⟨[.val ⟨true, Y1_13, false⟩, .val ⟨true, (.pair (.int .i64) (.pair Y1_3 (.pair Y1_15 (.pair (.int .i64) Y1_24)))), false⟩], [.val ⟨true, Y1_13, true⟩, .val ⟨false, (.sl 58 Y1_26), true⟩, .val ⟨true, (.pair (.int .i64) (.pair Y1_15 (.int .i64))), true⟩], fun k x => S11 k x.1 x.2.1⟩
theorem ok11 : FnOK Tryz.prog 11 F11 := okF [(17, F17), (18, F18), (19, F19), (20, F20), (21, F21), (22, F22), (23, F23), (24, F24), (25, F25), (26, F26), (27, F27)] [(14, 2)] (fun k => .nil) ⟨ok17, ok18, ok19, ok20, ok21, ok22, ok23, ok24, ok25, ok26, ok27, trivial⟩ Tryz.func11 rfl
def S57 (k : Nat) (a b : Int) (c : List Y1_7) (e : List (PN Int 5)) (f h i : Bool) (l : List Y1_2) (m : List Int) (n : List Bool) (o : List Y1_6) (p : List Int) (s : List Bool) (t : List (PN Int 6)) (u : PN Int 6) : Option Y1_18 :=
 ap t ([(a, u.2)] : List (PN Int 6)) 48 fun r0 =>
 some ((), (a, b, c, e, f, h, i, l, m, n, o, p, s, r0, ()), ())
def F57 : Fn := ⟨[.mbox 83 [cI, cI, .own 27 Y1_3, .own 134 Y1_29, .cell .bool, .cell .bool, .cell .bool, .cell Y1_49, .own 3 (.int .i64), .own 4 .bool, .own 95 Y1_5, .own 3 (.int .i64), .own 4 .bool, .own 58 Y1_26], .val ⟨true, Y1_26, false⟩], [], fun k ((a, b, c, e, f, h, i, l, m, n, o, p, s, t, _), u, _) => S57 k a b c e f h i l m n o p s t u⟩
theorem ok57 : FnOK Tryz.prog 57 F57 := okF [] [] (fun k => .nil) trivial Tryz.func57 rfl
def S136 (k : Nat) (a : Y1_27) : Option Y1_53 := cloneSem 16 87 Y1_15 k (a, ())
def F136 : Fn := ⟨clonePs 87 Y1_15, cloneRs 87 Y1_15, cloneSem 16 87 Y1_15⟩
theorem ok136 : FnOK Tryz.prog 136 F136 := clone_ok E0_ok mix Tryz.func136 rfl (by kernel_rfl) (by kernel_rfl) (fun k => by kernel_rfl) (fun k xs => by kernel_rfl) (fun k xs => by kernel_rfl)
def S151 (k : Nat) (a : Y1_27) (b : Int) : Option Y1_52 :=
 (bif decide (b ≥ 0) then
  some ((decide (b < (a.length : Int)), ()), ())
 else
  some ((false, ()), ()))
def F151 : Fn := ⟨[.val ⟨false, Y1_43, false⟩, .val ⟨false, (.int .i64), false⟩], [.val ⟨false, .bool, true⟩], fun k x => S151 k x.1 x.2.1⟩
theorem ok151 : FnOK Tryz.prog 151 F151 := okF [] [] (fun k => .nil) trivial Tryz.func151 rfl
def S137 (k : Nat) (a : Y1_27) (b c : Int) : Option Y1_52 :=
 (S151 k a b).bind fun q0 =>
 (bif q0.1.1 then
  (bif decide (c ≥ 0) then
   ix a b <|
   some (((rd a b (0, 0)).2 == (IntKind.i64.wrap (c + 1)), ()), ())
  else
   some ((false, ()), ()))
 else
  some ((false, ()), ()))
def F137 : Fn := ⟨[.val ⟨false, Y1_43, false⟩, .val ⟨false, (.int .i64), false⟩, .val ⟨false, (.int .i64), false⟩], [.val ⟨false, .bool, true⟩], fun k (a, b, c, _) => S137 k a b c⟩
theorem ok137 : FnOK Tryz.prog 137 F137 := okF [(151, F151)] [] (fun k => .nil) ⟨ok151, trivial⟩ Tryz.func137 rfl
abbrev c101_L3 : Cut := ⟨[0, 1, 5, 10, 11], [.cell Y1_43, cI, .own 87 Y1_15, cI, cI], [], 24, []⟩
def l101_3 (k : Nat) (g3 : Y1_19 → Int → Y1_19 → Int → Int → Option Y1_53) (a : Y1_27) (b : Int) (c : Y1_27) (e f : Int) : Option Y1_53 :=
 (bif decide (f < e) then
  (S137 k a f b).bind fun q1 =>
  (bif q1.1.1 then
   ix c f <|
   g3 a b (upd c f ((rd c f (0, 0)).1, 0)) e (IntKind.i64.wrap (f + 1))
  else
   g3 a b c e (IntKind.i64.wrap (f + 1)))
 else
  some ((c, ()), ()))
def b101_3 (k : Nat) (g : ((Unit) × Y1_19 × Int × Y1_19 × Int × Int × Unit) → Option Y1_53) : ((Unit) × Y1_19 × Int × Y1_19 × Int × Int × Unit) → Option Y1_53 := fun (_, a, b, c, e, f, _) => l101_3 k (fun a b c e f => g ((), a, b, c, e, f, ())) a b c e f
def L101_3 (k a : Nat) (b : Y1_27) (c : Int) (e : Y1_27) (f h : Int) : Option Y1_53 := iter (R := (Y1_19 × Unit) × Unit) c101_L3 (b101_3 k) a ((), b, c, e, f, h, ())
theorem L101_3_s (k a b c e f h) : L101_3 k (a + 1) b c e f h = l101_3 k (L101_3 k a) b c e f h := iter_succ _ _ _ _
def S101 (k : Nat) (a : Y1_27) (b : Int) : Option Y1_53 :=
 (S136 k a).bind fun q0 =>
 L101_3 k k a b q0.1.1 (q0.1.1.length : Int) 0
def F101 : Fn := ⟨[.val ⟨false, Y1_43, false⟩, .val ⟨false, (.int .i64), false⟩], [.val ⟨false, Y1_43, true⟩], fun k x => S101 k x.1 x.2.1⟩
theorem ok101 : FnOK Tryz.prog 101 F101 := okF [(136, F136), (137, F137)] [] (fun k => (.loop 3 c101_L3 (b101_3 k) (fun g => .nil) .nil)) ⟨ok136, ok137, trivial⟩ Tryz.func101 rfl
abbrev c87a_L1 : Cut := ⟨[0, 1, 11, 12, 13], [.pin false 0, .cell Y1_43, .own 3 (.int .i64), cI, cI], [.mbox 83 [cI, cI, .own 27 Y1_3, .own 134 Y1_29, .cell .bool, .cell .bool, .cell .bool, .cell Y1_49, .own 3 (.int .i64), .own 4 .bool, .own 95 Y1_5, .own 3 (.int .i64), .own 4 .bool, .own 58 Y1_26]], 55, []⟩
def l87a_1 (k : Nat) (g1 : Y1_35) (a b : Int) (c : List Y1_7) (e : List (PN Int 5)) (f h i : Bool) (l : List Y1_2) (m : List Int) (n : List Bool) (o : List Y1_6) (p : List Int) (s : List Bool) (t : List (PN Int 6)) (u : Y1_27) (v : List Int) (w y : Int) : Option Y1_18 :=
 (bif decide (y < w) then
  ix v y <|
  ix o (rd v y 0) <|
  (bif decide (y < (u.length : Int)) then
   ix u y <|
   (bif !(beqD Y1_15 (rd o (rd v y 0) (0, (0, 0), (0, 0), ([], []), (0, []), 0)).2.2.1 (rd u y (0, 0))) then
    ix u y <|
    (S46 k ((m, n), o) (rd v y 0) ((rd o (rd v y 0) (0, (0, 0), (0, 0), ([], []), (0, []), 0)).1, (rd o (rd v y 0) (0, (0, 0), (0, 0), ([], []), (0, []), 0)).2.1, rd u y (0, 0), (rd o (rd v y 0) (0, (0, 0), (0, 0), ([], []), (0, []), 0)).2.2.2)).bind fun q1 =>
    g1 a b c e f h i l q1.1.1.1.1 q1.1.1.1.2 q1.1.1.2 p s t u v w (IntKind.i64.wrap (y + 1))
   else
    g1 a b c e f h i l m n o p s t u v w (IntKind.i64.wrap (y + 1)))
  else
   g1 a b c e f h i l m n o p s t u v w (IntKind.i64.wrap (y + 1)))
 else
  some ((), (a, b, c, e, f, h, i, l, m, n, o, p, s, t, ()), ()))
def b87a_1 (k : Nat) (g : (Y1_54 × Unit × Y1_19 × (List Int) × Int × Int × Unit) → Option Y1_18) : (Y1_54 × Unit × Y1_19 × (List Int) × Int × Int × Unit) → Option Y1_18 := fun (((a, b, c, e, f, h, i, l, m, n, o, p, s, t, _), _), _, u, v, w, y, _) => l87a_1 k (fun a b c e f h i l m n o p s t u v w y => g (((a, b, c, e, f, h, i, l, m, n, o, p, s, t, ()), ()), (), u, v, w, y, ())) a b c e f h i l m n o p s t u v w y
def L87a_1 (k a : Nat) (b c : Int) (e : List Y1_7) (f : List (PN Int 5)) (h i l : Bool) (m : List Y1_2) (n : List Int) (o : List Bool) (p : List Y1_6) (s : List Int) (t : List Bool) (u : List (PN Int 6)) (v : Y1_27) (w : List Int) (y z : Int) : Option Y1_18 := iter (R := (Unit) × Y1_0 × Unit) c87a_L1 (b87a_1 k) a (((b, c, e, f, h, i, l, m, n, o, p, s, t, u, ()), ()), (), v, w, y, z, ())
theorem L87a_1_s (k a b c e f h i l m n o p s t u v w y z) : L87a_1 k (a + 1) b c e f h i l m n o p s t u v w y z = l87a_1 k (L87a_1 k a) b c e f h i l m n o p s t u v w y z := iter_succ _ _ _ _
def S87a (k : Nat) (a b : Int) (c : List Y1_7) (e : List (PN Int 5)) (f h i : Bool) (l : List Y1_2) (m : List Int) (n : List Bool) (o : List Y1_6) (p : List Int) (s : List Bool) (t : List (PN Int 6)) (u : Y1_27) : Option Y1_18 :=
 (S61 k ((m, n), o)).bind fun q0 =>
 L87a_1 k k a b c e f h i l m n o p s t u q0.1.1 (q0.1.1.length : Int) 0
def F87a : Fn := ⟨[.mbox 83 [cI, cI, .own 27 Y1_3, .own 134 Y1_29, .cell .bool, .cell .bool, .cell .bool, .cell Y1_49, .own 3 (.int .i64), .own 4 .bool, .own 95 Y1_5, .own 3 (.int .i64), .own 4 .bool, .own 58 Y1_26], .val ⟨false, Y1_43, false⟩], [], fun k ((a, b, c, e, f, h, i, l, m, n, o, p, s, t, _), u, _) => S87a k a b c e f h i l m n o p s t u⟩
theorem ok87a : FnOK Tryz.prog 87 F87a := okF [(46, F46), (61, F61)] [] (fun k => (.loop 1 c87a_L1 (b87a_1 k) (fun g => .nil) .nil)) ⟨ok46, ok61, trivial⟩ Tryz.func87 rfl
def S138 (k : Nat) (a : (List Int) × List Bool) (b : Int) : Option Y1_52 :=
 (bif decide (b ≥ 0) then
  some ((decide (b < (mn (a.1.length : Int) (a.2.length : Int))), ()), ())
 else
  some ((false, ()), ()))
def F138 : Fn := ⟨[.val ⟨true, (.pair Y1_16 Y1_42), false⟩, .val ⟨false, (.int .i64), false⟩], [.val ⟨false, .bool, true⟩], fun k x => S138 k x.1 x.2.1⟩
theorem ok138 : FnOK Tryz.prog 138 F138 := okF [] [] (fun k => .nil) trivial Tryz.func138 rfl
def S139 (k : Nat) (a : List Bool) (b : Bool) : Option Y1_52 :=
 (S123 k a b).bind fun q0 =>
 some ((decide (q0.1.1 ≥ 0), ()), ())
def F139 : Fn := ⟨[.val ⟨false, Y1_42, false⟩, .val ⟨false, .bool, false⟩], [.val ⟨false, .bool, true⟩], fun k x => S139 k x.1 x.2.1⟩
theorem ok139 : FnOK Tryz.prog 139 F139 := okF [(123, F123)] [] (fun k => .nil) ⟨ok123, trivial⟩ Tryz.func139 rfl
def S102 (k : Nat) (a : (List Int) × List Bool) (b : Int) : Option ((Y1_44 × Bool × Bool × Unit) × Unit) :=
 (S100 k a).bind fun q0 =>
 (S138 k a b).bind fun q1 =>
 (bif !q1.1.1 then
  some ((q0.1.1, false, false, ()), ())
 else
  ix q0.1.1.1 b <|
  ix q0.1.1.1 b <|
  ix (upd q0.1.1.1 b (IntKind.i64.wrap ((rd q0.1.1.1 b 0) + 1))) b <|
  (bif (rd (upd q0.1.1.1 b (IntKind.i64.wrap ((rd q0.1.1.1 b 0) + 1))) b 0) != 2 then
   some (((upd q0.1.1.1 b (IntKind.i64.wrap ((rd q0.1.1.1 b 0) + 1)), q0.1.1.2), false, false, ()), ())
  else
   ix q0.1.1.2 b <|
   (bif rd q0.1.1.2 b false then
    some (((upd q0.1.1.1 b (IntKind.i64.wrap ((rd q0.1.1.1 b 0) + 1)), q0.1.1.2), false, false, ()), ())
   else
    ix q0.1.1.2 b <|
    (S139 k (upd q0.1.1.2 b true) false).bind fun q2 =>
    some (((upd q0.1.1.1 b (IntKind.i64.wrap ((rd q0.1.1.1 b 0) + 1)), upd q0.1.1.2 b true), true, !q2.1.1, ()), ()))))
def F102 : Fn := ⟨[.val ⟨true, (.pair Y1_16 Y1_42), false⟩, .val ⟨false, (.int .i64), false⟩], [.val ⟨true, (.pair Y1_16 Y1_42), true⟩, .val ⟨false, .bool, true⟩, .val ⟨false, .bool, true⟩], fun k x => S102 k x.1 x.2.1⟩
theorem ok102 : FnOK Tryz.prog 102 F102 := okF [(100, F100), (138, F138), (139, F139)] [] (fun k => .nil) ⟨ok100, ok138, ok139, trivial⟩ Tryz.func102 rfl
abbrev c58_J7 : Cut := ⟨[0, 6], [.pin false 0, .cell .bool], [.mbox 83 [cI, cI, .own 27 Y1_3, .own 134 Y1_29, .cell .bool, .cell .bool, .cell .bool, .cell Y1_49, .own 3 (.int .i64), .own 4 .bool, .own 95 Y1_5, .own 3 (.int .i64), .own 4 .bool, .own 58 Y1_26]], 55, []⟩
def j58_7 (k : Nat) (a b : Int) (c : List Y1_7) (e : List (PN Int 5)) (f h i : Bool) (l : List Y1_2) (m : List Int) (n : List Bool) (o : List Y1_6) (p : List Int) (s : List Bool) (t : List (PN Int 6)) (u : Bool) : Option Y1_18 :=
 (bif u then
  (S57 k a b c e f h i l m n o p s t (0, 10, 0, 0, 0, 0)).bind fun q6 =>
  some ((), (q6.2.1.1, q6.2.1.2.1, q6.2.1.2.2.1, q6.2.1.2.2.2.1, q6.2.1.2.2.2.2.1, true, q6.2.1.2.2.2.2.2.2.1, q6.2.1.2.2.2.2.2.2.2.1, q6.2.1.2.2.2.2.2.2.2.2.1, q6.2.1.2.2.2.2.2.2.2.2.2.1, q6.2.1.2.2.2.2.2.2.2.2.2.2.1, q6.2.1.2.2.2.2.2.2.2.2.2.2.2.1, q6.2.1.2.2.2.2.2.2.2.2.2.2.2.2.1, q6.2.1.2.2.2.2.2.2.2.2.2.2.2.2.2.1, ()), ())
 else
  some ((), (a, b, c, e, f, h, i, l, m, n, o, p, s, t, ()), ()))
def S58 (k : Nat) (a b : Int) (c : List Y1_7) (e : List (PN Int 5)) (f h i : Bool) (l : List Y1_2) (m : List Int) (n : List Bool) (o : List Y1_6) (p : List Int) (s : List Bool) (t : List (PN Int 6)) (u : Y1_25) : Option Y1_18 :=
 (S57 k a b c e f h i l m n o p s t (0, 5, u.1, 0, 0, 0)).bind fun q0 =>
 (S63 k (q0.2.1.1, q0.2.1.2.1, q0.2.1.2.2.1, q0.2.1.2.2.2.1, q0.2.1.2.2.2.2.1, q0.2.1.2.2.2.2.2.1, q0.2.1.2.2.2.2.2.2.1, q0.2.1.2.2.2.2.2.2.2.1, ((q0.2.1.2.2.2.2.2.2.2.2.1, q0.2.1.2.2.2.2.2.2.2.2.2.1), q0.2.1.2.2.2.2.2.2.2.2.2.2.1), q0.2.1.2.2.2.2.2.2.2.2.2.2.2.1, q0.2.1.2.2.2.2.2.2.2.2.2.2.2.2.1)).bind fun q1 =>
 (S101 k q1.1.1 u.1).bind fun q2 =>
 (S87a k q0.2.1.1 q0.2.1.2.1 q0.2.1.2.2.1 q0.2.1.2.2.2.1 q0.2.1.2.2.2.2.1 q0.2.1.2.2.2.2.2.1 q0.2.1.2.2.2.2.2.2.1 q0.2.1.2.2.2.2.2.2.2.1 q0.2.1.2.2.2.2.2.2.2.2.1 q0.2.1.2.2.2.2.2.2.2.2.2.1 q0.2.1.2.2.2.2.2.2.2.2.2.2.1 q0.2.1.2.2.2.2.2.2.2.2.2.2.2.1 q0.2.1.2.2.2.2.2.2.2.2.2.2.2.2.1 q0.2.1.2.2.2.2.2.2.2.2.2.2.2.2.2.1 q2.1.1).bind fun q3 =>
 (S102 k (q3.2.1.2.2.2.2.2.2.2.2.2.2.2.1, q3.2.1.2.2.2.2.2.2.2.2.2.2.2.2.1) u.1).bind fun q4 =>
 (bif q4.1.2.1 then
  (S57 k q3.2.1.1 q3.2.1.2.1 q3.2.1.2.2.1 q3.2.1.2.2.2.1 q3.2.1.2.2.2.2.1 q3.2.1.2.2.2.2.2.1 q3.2.1.2.2.2.2.2.2.1 q3.2.1.2.2.2.2.2.2.2.1 q3.2.1.2.2.2.2.2.2.2.2.1 q3.2.1.2.2.2.2.2.2.2.2.2.1 q3.2.1.2.2.2.2.2.2.2.2.2.2.1 q4.1.1.1 q4.1.1.2 q3.2.1.2.2.2.2.2.2.2.2.2.2.2.2.2.1 (0, 9, u.1, 0, 0, 0)).bind fun q5 =>
  j58_7 k q5.2.1.1 q5.2.1.2.1 q5.2.1.2.2.1 q5.2.1.2.2.2.1 q5.2.1.2.2.2.2.1 q5.2.1.2.2.2.2.2.1 q5.2.1.2.2.2.2.2.2.1 q5.2.1.2.2.2.2.2.2.2.1 q5.2.1.2.2.2.2.2.2.2.2.1 q5.2.1.2.2.2.2.2.2.2.2.2.1 q5.2.1.2.2.2.2.2.2.2.2.2.2.1 q5.2.1.2.2.2.2.2.2.2.2.2.2.2.1 q5.2.1.2.2.2.2.2.2.2.2.2.2.2.2.1 q5.2.1.2.2.2.2.2.2.2.2.2.2.2.2.2.1 q4.1.2.2.1
 else
  j58_7 k q3.2.1.1 q3.2.1.2.1 q3.2.1.2.2.1 q3.2.1.2.2.2.1 q3.2.1.2.2.2.2.1 q3.2.1.2.2.2.2.2.1 q3.2.1.2.2.2.2.2.2.1 q3.2.1.2.2.2.2.2.2.2.1 q3.2.1.2.2.2.2.2.2.2.2.1 q3.2.1.2.2.2.2.2.2.2.2.2.1 q3.2.1.2.2.2.2.2.2.2.2.2.2.1 q4.1.1.1 q4.1.1.2 q3.2.1.2.2.2.2.2.2.2.2.2.2.2.2.2.1 q4.1.2.2.1)
def F58 : Fn := ⟨[.mbox 83 [cI, cI, .own 27 Y1_3, .own 134 Y1_29, .cell .bool, .cell .bool, .cell .bool, .cell Y1_49, .own 3 (.int .i64), .own 4 .bool, .own 95 Y1_5, .own 3 (.int .i64), .own 4 .bool, .own 58 Y1_26], .val ⟨true, Y1_1, false⟩], [], fun k ((a, b, c, e, f, h, i, l, m, n, o, p, s, t, _), u, _) => S58 k a b c e f h i l m n o p s t u⟩
theorem ok58 : FnOK Tryz.prog 58 F58 := okF [(57, F57), (63, F63), (87, F87a), (101, F101), (102, F102)] [] (fun k => (.join 7 c58_J7 (fun d => j58_7 k d.1.1.1 d.1.1.2.1 d.1.1.2.2.1 d.1.1.2.2.2.1 d.1.1.2.2.2.2.1 d.1.1.2.2.2.2.2.1 d.1.1.2.2.2.2.2.2.1 d.1.1.2.2.2.2.2.2.2.1 d.1.1.2.2.2.2.2.2.2.2.1 d.1.1.2.2.2.2.2.2.2.2.2.1 d.1.1.2.2.2.2.2.2.2.2.2.2.1 d.1.1.2.2.2.2.2.2.2.2.2.2.2.1 d.1.1.2.2.2.2.2.2.2.2.2.2.2.2.1 d.1.1.2.2.2.2.2.2.2.2.2.2.2.2.2.1 d.2.2.1) .nil)) ⟨ok57, ok63, ok87a, ok101, ok102, trivial⟩ Tryz.func58 rfl
abbrev c29_L2 : Cut := ⟨[0, 2, 9, 10, 11], [.pin false 0, .own 103 Y1_1, .cell Y1_49, cI, cI], [.mbox 83 [cI, cI, .own 27 Y1_3, .own 134 Y1_29, .cell .bool, .cell .bool, .cell .bool, .cell Y1_49, .own 3 (.int .i64), .own 4 .bool, .own 95 Y1_5, .own 3 (.int .i64), .own 4 .bool, .own 58 Y1_26]], 57, []⟩
def l29_2 (k : Nat) (g2 : Int → Int → (List Y1_7) → (List (PN Int 5)) → Bool → Bool → Bool → (List Y1_2) → (List Int) → (List Bool) → (List Y1_6) → (List Int) → (List Bool) → Y1_56 → (List Y1_2) → (List Y1_2) → Int → Int → Option Y1_18) (a b : Int) (c : List Y1_7) (e : List (PN Int 5)) (f h i : Bool) (l : List Y1_2) (m : List Int) (n : List Bool) (o : List Y1_6) (p : List Int) (s : List Bool) (t : List (PN Int 6)) (u v : List Y1_2) (w y : Int) : Option Y1_18 :=
 (bif decide (y < w) then
  ix v y <|
  ix c (rd v y (0, 0, 0, 0, (0, prep (α := Int) 8 0, [], false), (0, prep (α := Int) 8 0, [], false), [], false)).1 <|
  (bif (IntKind.i64.wrap (a - (rd v y (0, 0, 0, 0, (0, prep (α := Int) 8 0, [], false), (0, prep (α := Int) 8 0, [], false), [], false)).2.1)) != (rd c (rd v y (0, 0, 0, 0, (0, prep (α := Int) 8 0, [], false), (0, prep (α := Int) 8 0, [], false), [], false)).1 (0, 0, 0, [], [], [])).2.2.1 then
   ap u ([rd v y (0, 0, 0, 0, (0, prep (α := Int) 8 0, [], false), (0, prep (α := Int) 8 0, [], false), [], false)] : List Y1_2) 272 fun r0 =>
   g2 a b c e f h i l m n o p s t r0 v w (IntKind.i64.wrap (y + 1))
  else
   (bif (rd v y (0, 0, 0, 0, (0, prep (α := Int) 8 0, [], false), (0, prep (α := Int) 8 0, [], false), [], false)).2.2.2.1 == 2 then
    (S57 k a b c e f h i l m n o p s t (0, 13, (rd v y (0, 0, 0, 0, (0, prep (α := Int) 8 0, [], false), (0, prep (α := Int) 8 0, [], false), [], false)).1, 0, 0, 0)).bind fun q1 =>
    g2 q1.2.1.1 q1.2.1.2.1 q1.2.1.2.2.1 q1.2.1.2.2.2.1 q1.2.1.2.2.2.2.1 q1.2.1.2.2.2.2.2.1 q1.2.1.2.2.2.2.2.2.1 q1.2.1.2.2.2.2.2.2.2.1 q1.2.1.2.2.2.2.2.2.2.2.1 q1.2.1.2.2.2.2.2.2.2.2.2.1 q1.2.1.2.2.2.2.2.2.2.2.2.2.1 q1.2.1.2.2.2.2.2.2.2.2.2.2.2.1 q1.2.1.2.2.2.2.2.2.2.2.2.2.2.2.1 q1.2.1.2.2.2.2.2.2.2.2.2.2.2.2.2.1 u v w (IntKind.i64.wrap (y + 1))
   else
    (S58 k a b c e f h i l m n o p s t (rd v y (0, 0, 0, 0, (0, prep (α := Int) 8 0, [], false), (0, prep (α := Int) 8 0, [], false), [], false))).bind fun q2 =>
    g2 q2.2.1.1 q2.2.1.2.1 q2.2.1.2.2.1 q2.2.1.2.2.2.1 q2.2.1.2.2.2.2.1 q2.2.1.2.2.2.2.2.1 q2.2.1.2.2.2.2.2.2.1 q2.2.1.2.2.2.2.2.2.2.1 q2.2.1.2.2.2.2.2.2.2.2.1 q2.2.1.2.2.2.2.2.2.2.2.2.1 q2.2.1.2.2.2.2.2.2.2.2.2.2.1 q2.2.1.2.2.2.2.2.2.2.2.2.2.2.1 q2.2.1.2.2.2.2.2.2.2.2.2.2.2.2.1 q2.2.1.2.2.2.2.2.2.2.2.2.2.2.2.2.1 u v w (IntKind.i64.wrap (y + 1))))
 else
  some ((), (a, b, c, e, f, h, i, u, m, n, o, p, s, t, ()), ()))
def b29_2 (k : Nat) (g : (Y1_54 × Unit × (List Y1_2) × (List Y1_2) × Int × Int × Unit) → Option Y1_18) : (Y1_54 × Unit × (List Y1_2) × (List Y1_2) × Int × Int × Unit) → Option Y1_18 := fun (((a, b, c, e, f, h, i, l, m, n, o, p, s, t, _), _), _, u, v, w, y, _) => l29_2 k (fun a b c e f h i l m n o p s t u v w y => g (((a, b, c, e, f, h, i, l, m, n, o, p, s, t, ()), ()), (), u, v, w, y, ())) a b c e f h i l m n o p s t u v w y
def L29_2 (k a : Nat) (b c : Int) (e : List Y1_7) (f : List (PN Int 5)) (h i l : Bool) (m : List Y1_2) (n : List Int) (o : List Bool) (p : List Y1_6) (s : List Int) (t : List Bool) (u : List (PN Int 6)) (v w : List Y1_2) (y z : Int) : Option Y1_18 := iter (R := (Unit) × Y1_0 × Unit) c29_L2 (b29_2 k) a (((b, c, e, f, h, i, l, m, n, o, p, s, t, u, ()), ()), (), v, w, y, z, ())
theorem L29_2_s (k a b c e f h i l m n o p s t u v w y z) : L29_2 k (a + 1) b c e f h i l m n o p s t u v w y z = l29_2 k (L29_2 k a) b c e f h i l m n o p s t u v w y z := iter_succ _ _ _ _
def S29 (k : Nat) (a b : Int) (c : List Y1_7) (e : List (PN Int 5)) (f h i : Bool) (l : List Y1_2) (m : List Int) (n : List Bool) (o : List Y1_6) (p : List Int) (s : List Bool) (t : List (PN Int 6)) : Option Y1_18 :=
 L29_2 k k a b c e f h i l m n o p s t ([] : List Y1_2) l (l.length : Int) 0
def F29 : Fn := ⟨[.mbox 83 [cI, cI, .own 27 Y1_3, .own 134 Y1_29, .cell .bool, .cell .bool, .cell .bool, .own 103 Y1_1, .own 3 (.int .i64), .own 4 .bool, .own 95 Y1_5, .own 3 (.int .i64), .own 4 .bool, .own 58 Y1_26]], [], fun k ((a, b, c, e, f, h, i, l, m, n, o, p, s, t, _), _) => S29 k a b c e f h i l m n o p s t⟩
theorem ok29 : FnOK Tryz.prog 29 F29 := okF [(57, F57), (58, F58)] [(2, 2)] (fun k => (.loop 2 c29_L2 (b29_2 k) (fun g => .nil) .nil)) ⟨ok57, ok58, trivial⟩ Tryz.func29 rfl
abbrev c30_L1 : Cut := ⟨[0, 9, 10], [.pin false 0, cI, cI], [.mbox 83 [cI, cI, .own 27 Y1_3, .own 134 Y1_29, .cell .bool, .cell .bool, .cell .bool, .own 103 Y1_1, .own 3 (.int .i64), .own 4 .bool, .own 95 Y1_5, .own 3 (.int .i64), .own 4 .bool, .own 58 Y1_26]], 48, [(8, 3)]⟩
def l30_1 (k : Nat) (g1 : Int → Int → (List Y1_7) → (List (PN Int 5)) → Bool → Bool → Bool → (List Y1_2) → (List Int) → (List Bool) → (List Y1_6) → (List Int) → (List Bool) → Y1_56 → Int → Int → Option Y1_18) (a b : Int) (c : List Y1_7) (e : List (PN Int 5)) (f h i : Bool) (l : List Y1_2) (m : List Int) (n : List Bool) (o : List Y1_6) (p : List Int) (s : List Bool) (t : List (PN Int 6)) (u v : Int) : Option Y1_18 :=
 (bif decide (v < u) then
  ix l v <|
  (bif (rd l v (0, 0, 0, 0, (0, prep (α := Int) 8 0, [], false), (0, prep (α := Int) 8 0, [], false), [], false)).2.2.2.1 != 2 then
   ix e (rd l v (0, 0, 0, 0, (0, prep (α := Int) 8 0, [], false), (0, prep (α := Int) 8 0, [], false), [], false)).1 <|
   (bif decide ((IntKind.i64.wrap (a - (rd l v (0, 0, 0, 0, (0, prep (α := Int) 8 0, [], false), (0, prep (α := Int) 8 0, [], false), [], false)).2.1)) ≥ (rd e (rd l v (0, 0, 0, 0, (0, prep (α := Int) 8 0, [], false), (0, prep (α := Int) 8 0, [], false), [], false)).1 (prep (α := Int) 5 0)).2.2.2.2) then
    ix l v <|
    let r0 : List Y1_2 := upd l v ((rd l v (0, 0, 0, 0, (0, prep (α := Int) 8 0, [], false), (0, prep (α := Int) 8 0, [], false), [], false)).1, (rd l v (0, 0, 0, 0, (0, prep (α := Int) 8 0, [], false), (0, prep (α := Int) 8 0, [], false), [], false)).2.1, (rd l v (0, 0, 0, 0, (0, prep (α := Int) 8 0, [], false), (0, prep (α := Int) 8 0, [], false), [], false)).2.2.1, (rd l v (0, 0, 0, 0, (0, prep (α := Int) 8 0, [], false), (0, prep (α := Int) 8 0, [], false), [], false)).2.2.2.1, (rd l v (0, 0, 0, 0, (0, prep (α := Int) 8 0, [], false), (0, prep (α := Int) 8 0, [], false), [], false)).2.2.2.2.1, (rd l v (0, 0, 0, 0, (0, prep (α := Int) 8 0, [], false), (0, prep (α := Int) 8 0, [], false), [], false)).2.2.2.2.2.1, (rd l v (0, 0, 0, 0, (0, prep (α := Int) 8 0, [], false), (0, prep (α := Int) 8 0, [], false), [], false)).2.2.2.2.2.2.1, true)
    g1 a b c e f h i r0 m n o p s t u (IntKind.i64.wrap (v + 1))
   else
    g1 a b c e f h i l m n o p s t u (IntKind.i64.wrap (v + 1)))
  else
   g1 a b c e f h i l m n o p s t u (IntKind.i64.wrap (v + 1)))
 else
  some ((), (a, b, c, e, f, h, i, l, m, n, o, p, s, t, ()), ()))
def b30_1 (k : Nat) (g : (Y1_54 × Unit × Int × Int × Unit) → Option Y1_18) : (Y1_54 × Unit × Int × Int × Unit) → Option Y1_18 := fun (((a, b, c, e, f, h, i, l, m, n, o, p, s, t, _), _), _, u, v, _) => l30_1 k (fun a b c e f h i l m n o p s t u v => g (((a, b, c, e, f, h, i, l, m, n, o, p, s, t, ()), ()), (), u, v, ())) a b c e f h i l m n o p s t u v
def L30_1 (k a : Nat) (b c : Int) (e : List Y1_7) (f : List (PN Int 5)) (h i l : Bool) (m : List Y1_2) (n : List Int) (o : List Bool) (p : List Y1_6) (s : List Int) (t : List Bool) (u : List (PN Int 6)) (v w : Int) : Option Y1_18 := iter (R := (Unit) × Y1_0 × Unit) c30_L1 (b30_1 k) a (((b, c, e, f, h, i, l, m, n, o, p, s, t, u, ()), ()), (), v, w, ())
theorem L30_1_s (k a b c e f h i l m n o p s t u v w) : L30_1 k (a + 1) b c e f h i l m n o p s t u v w = l30_1 k (L30_1 k a) b c e f h i l m n o p s t u v w := iter_succ _ _ _ _
def S30 (k : Nat) (a b : Int) (c : List Y1_7) (e : List (PN Int 5)) (f h i : Bool) (l : List Y1_2) (m : List Int) (n : List Bool) (o : List Y1_6) (p : List Int) (s : List Bool) (t : List (PN Int 6)) : Option Y1_18 :=
 L30_1 k k a b c e f h i l m n o p s t (l.length : Int) 0
def F30 : Fn := ⟨[.mbox 83 [cI, cI, .own 27 Y1_3, .own 134 Y1_29, .cell .bool, .cell .bool, .cell .bool, .own 103 Y1_1, .own 3 (.int .i64), .own 4 .bool, .own 95 Y1_5, .own 3 (.int .i64), .own 4 .bool, .own 58 Y1_26]], [], fun k ((a, b, c, e, f, h, i, l, m, n, o, p, s, t, _), _) => S30 k a b c e f h i l m n o p s t⟩
theorem ok30 : FnOK Tryz.prog 30 F30 := okF [] [] (fun k => (.loop 1 c30_L1 (b30_1 k) (fun g => .nil) .nil)) trivial Tryz.func30 rfl
abbrev c59_J9 : Cut := ⟨[1, 2, 3, 4, 5, 6, 7, 11, 12, 13], [.box 47 [.cell Y1_16, .cell Y1_42, .cell (.sl 95 Y1_5)], .box 47 [.own 3 (.int .i64), .own 4 .bool, .own 95 Y1_5], .own 3 (.int .i64), .own 41 Y1_16, cI, .box 95 [cI, cI, cI, cI, cI, .cell (.sl 2 (.int .i64)), .cell Y1_16, .cell (.int .u32), .cell (.sl 126 Y1_24), .cell (.int .u32)], .box 95 [cI, cI, cI, cI, cI, .own 2 (.int .i64), .own 3 (.int .i64), .cell (.int .u32), .own 126 Y1_24, .cell (.int .u32)], .cell (.sl 95 Y1_5), cI, cI], [], 61, []⟩
def j59_9 (k : Nat) (g3 : Y1_30) (a : List Int) (b : List Bool) (c : List Y1_6) (e : List Int) (f : List Bool) (h : List Y1_6) (i : List Int) (l : List (List Int)) (m x n o p s : Int) (t u : List Int) (v : Int) (w : Y1_27) (y z A B C D : Int) (G H : List Int) (I : Int) (J : Y1_27) (K : Int) (M : List Y1_6) (N O : Int) : Option Y1_20 :=
 (S81 k (z, (A, B), (C, D), (G, H), (I, J), K)).bind fun q4 =>
 ix h m <|
 ap i ([m] : List Int) 8 fun r5 =>
 (S96 k (x, (n, o), (p, s), (t, u), (v, w), y)).bind fun q6 =>
 ap l ([q6.1.1] : List (List Int)) 24 fun r7 =>
 g3 a b c e f (upd h m q4.1.1) r5 r7 M N (IntKind.i64.wrap (O + 1))
abbrev c59_L3 : Cut := ⟨[1, 2, 3, 4, 11, 12, 13], [.box 47 [.cell Y1_16, .cell Y1_42, .cell (.sl 95 Y1_5)], .box 47 [.own 3 (.int .i64), .own 4 .bool, .own 95 Y1_5], .own 3 (.int .i64), .own 41 Y1_16, .cell (.sl 95 Y1_5), cI, cI], [], 61, []⟩
def l59_3 (k : Nat) (g3 : Y1_30) (a : List Int) (b : List Bool) (c : List Y1_6) (e : List Int) (f : List Bool) (h : List Y1_6) (i : List Int) (l : List (List Int)) (m : List Y1_6) (n o : Int) : Option Y1_20 :=
 (bif decide (o < n) then
  ix m o <|
  (S34 k ((a, b), c) o).bind fun q1 =>
  (bif !q1.1.1 then
   g3 a b c e f h i l m n (IntKind.i64.wrap (o + 1))
  else
   (S90 k (rd m o (0, (0, 0), (0, 0), ([], []), (0, []), 0))).bind fun q2 =>
   (bif (rd m o (0, (0, 0), (0, 0), ([], []), (0, []), 0)).2.2.2.2.2 == q2.1.1 then
    g3 a b c e f h i l m n (IntKind.i64.wrap (o + 1))
   else
    (S82 k (rd m o (0, (0, 0), (0, 0), ([], []), (0, []), 0)).1 (rd m o (0, (0, 0), (0, 0), ([], []), (0, []), 0)).2.1).bind fun q3 =>
    (bif (rd m o (0, (0, 0), (0, 0), ([], []), (0, []), 0)).1 == 1 then
     j59_9 k g3 a b c e f h i l o (rd m o (0, (0, 0), (0, 0), ([], []), (0, []), 0)).1 (rd m o (0, (0, 0), (0, 0), ([], []), (0, []), 0)).2.1.1 (rd m o (0, (0, 0), (0, 0), ([], []), (0, []), 0)).2.1.2 (rd m o (0, (0, 0), (0, 0), ([], []), (0, []), 0)).2.2.1.1 (rd m o (0, (0, 0), (0, 0), ([], []), (0, []), 0)).2.2.1.2 (rd m o (0, (0, 0), (0, 0), ([], []), (0, []), 0)).2.2.2.1.1 (rd m o (0, (0, 0), (0, 0), ([], []), (0, []), 0)).2.2.2.1.2 (rd m o (0, (0, 0), (0, 0), ([], []), (0, []), 0)).2.2.2.2.1.1 (rd m o (0, (0, 0), (0, 0), ([], []), (0, []), 0)).2.2.2.2.1.2 (rd m o (0, (0, 0), (0, 0), ([], []), (0, []), 0)).2.2.2.2.2 q3.1.1.1 q3.1.1.2.1.1 q3.1.1.2.1.2 (rd m o (0, (0, 0), (0, 0), ([], []), (0, []), 0)).2.2.1.1 q3.1.1.2.2.1.2 q3.1.1.2.2.2.1.1 q3.1.1.2.2.2.1.2 q3.1.1.2.2.2.2.1.1 q3.1.1.2.2.2.2.1.2 q3.1.1.2.2.2.2.2 m n o
    else
     j59_9 k g3 a b c e f h i l o (rd m o (0, (0, 0), (0, 0), ([], []), (0, []), 0)).1 (rd m o (0, (0, 0), (0, 0), ([], []), (0, []), 0)).2.1.1 (rd m o (0, (0, 0), (0, 0), ([], []), (0, []), 0)).2.1.2 (rd m o (0, (0, 0), (0, 0), ([], []), (0, []), 0)).2.2.1.1 (rd m o (0, (0, 0), (0, 0), ([], []), (0, []), 0)).2.2.1.2 (rd m o (0, (0, 0), (0, 0), ([], []), (0, []), 0)).2.2.2.1.1 (rd m o (0, (0, 0), (0, 0), ([], []), (0, []), 0)).2.2.2.1.2 (rd m o (0, (0, 0), (0, 0), ([], []), (0, []), 0)).2.2.2.2.1.1 (rd m o (0, (0, 0), (0, 0), ([], []), (0, []), 0)).2.2.2.2.1.2 (rd m o (0, (0, 0), (0, 0), ([], []), (0, []), 0)).2.2.2.2.2 q3.1.1.1 q3.1.1.2.1.1 q3.1.1.2.1.2 q3.1.1.2.2.1.1 q3.1.1.2.2.1.2 q3.1.1.2.2.2.1.1 q3.1.1.2.2.2.1.2 q3.1.1.2.2.2.2.1.1 q3.1.1.2.2.2.2.1.2 q3.1.1.2.2.2.2.2 m n o)))
 else
  some ((((e, f), h), i, l, ()), ()))
def b59_3 (k : Nat) (g : ((Unit) × Y1_51 × Y1_51 × (List Int) × Y1_37 × (List Y1_6) × Int × Int × Unit) → Option Y1_20) : ((Unit) × Y1_51 × Y1_51 × (List Int) × Y1_37 × (List Y1_6) × Int × Int × Unit) → Option Y1_20 := fun (_, (a, b, c, _), (e, f, h, _), i, l, m, n, o, _) => l59_3 k (fun a b c e f h i l m n o => g ((), (a, b, c, ()), (e, f, h, ()), i, l, m, n, o, ())) a b c e f h i l m n o
def L59_3 (k a : Nat) (b : List Int) (c : List Bool) (e : List Y1_6) (f : List Int) (h : List Bool) (i : List Y1_6) (l : List Int) (m : List (List Int)) (n : List Y1_6) (o p : Int) : Option Y1_20 := iter (R := ((Y1_44 × List Y1_6) × (List Int) × Y1_37 × Unit) × Unit) c59_L3 (b59_3 k) a ((), (b, c, e, ()), (f, h, i, ()), l, m, n, o, p, ())
theorem L59_3_s (k a b c e f h i l m n o p) : L59_3 k (a + 1) b c e f h i l m n o p = l59_3 k (L59_3 k a) b c e f h i l m n o p := iter_succ _ _ _ _
def S59 (k : Nat) (a : Y1_44 × List Y1_6) : Option Y1_20 :=
 (S33 k a).bind fun q0 =>
 L59_3 k k a.1.1 a.1.2 a.2 q0.1.1.1.1 q0.1.1.1.2 q0.1.1.2 ([] : List Int) ([] : List (List Int)) a.2 (a.2.length : Int) 0
def F59 : Fn := ⟨[.val ⟨true, Y1_36, false⟩], [.val ⟨true, Y1_36, true⟩, .val ⟨false, Y1_16, true⟩, .val ⟨false, (.sl 41 Y1_16), true⟩], fun k x => S59 k x.1⟩
theorem ok59 : FnOK Tryz.prog 59 F59 := okF [(33, F33), (34, F34), (81, F81), (82, F82), (90, F90), (96, F96)] [(3, 2), (4, 2)] (fun k => (.loop 3 c59_L3 (b59_3 k) (fun g => (fun (g3 : Y1_30) => (.join 9 c59_J9 (fun d => j59_9 k g3 d.2.1.1 d.2.1.2.1 d.2.1.2.2.1 d.2.2.1.1 d.2.2.1.2.1 d.2.2.1.2.2.1 d.2.2.2.1 d.2.2.2.2.1 d.2.2.2.2.2.1 d.2.2.2.2.2.2.1.1 d.2.2.2.2.2.2.1.2.1 d.2.2.2.2.2.2.1.2.2.1 d.2.2.2.2.2.2.1.2.2.2.1 d.2.2.2.2.2.2.1.2.2.2.2.1 d.2.2.2.2.2.2.1.2.2.2.2.2.1 d.2.2.2.2.2.2.1.2.2.2.2.2.2.1 d.2.2.2.2.2.2.1.2.2.2.2.2.2.2.1 d.2.2.2.2.2.2.1.2.2.2.2.2.2.2.2.1 d.2.2.2.2.2.2.1.2.2.2.2.2.2.2.2.2.1 d.2.2.2.2.2.2.2.1.1 d.2.2.2.2.2.2.2.1.2.1 d.2.2.2.2.2.2.2.1.2.2.1 d.2.2.2.2.2.2.2.1.2.2.2.1 d.2.2.2.2.2.2.2.1.2.2.2.2.1 d.2.2.2.2.2.2.2.1.2.2.2.2.2.1 d.2.2.2.2.2.2.2.1.2.2.2.2.2.2.1 d.2.2.2.2.2.2.2.1.2.2.2.2.2.2.2.1 d.2.2.2.2.2.2.2.1.2.2.2.2.2.2.2.2.1 d.2.2.2.2.2.2.2.1.2.2.2.2.2.2.2.2.2.1 d.2.2.2.2.2.2.2.2.1 d.2.2.2.2.2.2.2.2.2.1 d.2.2.2.2.2.2.2.2.2.2.1) .nil)) (fun t1 t2 t3 out out1 out2 places who t11 t12 t13 => g ((), (t1, t2, t3, ()), (out, out1, out2, ()), places, who, t11, t12, t13, ()))) .nil)) ⟨ok33, ok34, ok81, ok82, ok90, ok96, trivial⟩ Tryz.func59 rfl
def S57a (k : Nat) (a b : Int) (c : List Y1_7) (e : List (PN Int 5)) (f h i : Bool) (l : List Y1_2) (m : List Int) (n : List Bool) (o : List Y1_6) (p : List Int) (s : List Bool) (t : List (PN Int 6)) (u : PN Int 6) : Option Y1_18 :=
 ap t ([(a, u.2)] : List (PN Int 6)) 48 fun r0 =>
 some ((), (a, b, c, e, f, h, i, l, m, n, o, p, s, r0, ()), ())
def F57a : Fn := ⟨[.mbox 83 [cI, cI, .own 27 Y1_3, .own 134 Y1_29, .cell .bool, .cell .bool, .cell .bool, .own 103 Y1_1, .own 3 (.int .i64), .own 4 .bool, .own 95 Y1_5, .own 3 (.int .i64), .own 4 .bool, .own 58 Y1_26], .val ⟨true, Y1_26, false⟩], [], fun k ((a, b, c, e, f, h, i, l, m, n, o, p, s, t, _), u, _) => S57a k a b c e f h i l m n o p s t u⟩
theorem ok57a : FnOK Tryz.prog 57 F57a := okF [] [] (fun k => .nil) trivial Tryz.func57 rfl
abbrev c31_L14 : Cut := ⟨[0, 4, 9, 27, 28, 29, 67, 68], [.pin false 0, .own 41 Y1_16, cI, .own 3 (.int .i64), cI, cI, cI, cI], [.mbox 83 [cI, cI, .own 27 Y1_3, .own 134 Y1_29, .cell .bool, .cell .bool, .cell .bool, .own 103 Y1_1, .own 3 (.int .i64), .own 4 .bool, .own 95 Y1_5, .own 3 (.int .i64), .own 4 .bool, .own 58 Y1_26]], 85, [(66, 3)]⟩
def l31_14 (k : Nat) (g3 : Y1_9) (g14 : Int → Int → (List Y1_7) → (List (PN Int 5)) → Bool → Bool → Bool → (List Y1_2) → (List Int) → (List Bool) → (List Y1_6) → (List Int) → (List Bool) → Y1_56 → Y1_37 → Int → (List Int) → Int → Int → Int → Int → Option Y1_18) (a b : Int) (c : List Y1_7) (e : List (PN Int 5)) (f h i : Bool) (l : List Y1_2) (m : List Int) (n : List Bool) (o : List Y1_6) (p : List Int) (s : List Bool) (t : List (PN Int 6)) (u : List (List Int)) (v : Int) (w : List Int) (y z A B : Int) : Option Y1_18 :=
 (bif decide (B < A) then
  ix l B <|
  (S55 k (rd l B (0, 0, 0, 0, (0, prep (α := Int) 8 0, [], false), (0, prep (α := Int) 8 0, [], false), [], false)) v).bind fun q5 =>
  ix l B <|
  g14 a b c e f h i (upd l B q5.1.1) m n o p s t u v w y z A (IntKind.i64.wrap (B + 1))
 else
  g3 a b c e f h i l m n o p s t u w y (IntKind.i64.wrap (z + 1)))
def b31_14 (k : Nat) (g3 : Y1_9) (g : (Y1_54 × Unit × Y1_37 × Int × (List Int) × Int × Int × Int × Int × Unit) → Option Y1_18) : (Y1_54 × Unit × Y1_37 × Int × (List Int) × Int × Int × Int × Int × Unit) → Option Y1_18 := fun (((a, b, c, e, f, h, i, l, m, n, o, p, s, t, _), _), _, u, v, w, y, z, A, B, _) => l31_14 k g3 (fun a b c e f h i l m n o p s t u v w y z A B => g (((a, b, c, e, f, h, i, l, m, n, o, p, s, t, ()), ()), (), u, v, w, y, z, A, B, ())) a b c e f h i l m n o p s t u v w y z A B
def L31_14 (k : Nat) (g3 : Y1_9) (a : Nat) (b c : Int) (e : List Y1_7) (f : List (PN Int 5)) (h i l : Bool) (m : List Y1_2) (n : List Int) (o : List Bool) (p : List Y1_6) (s : List Int) (t : List Bool) (u : List (PN Int 6)) (v : List (List Int)) (w : Int) (y : List Int) (z A B C : Int) : Option Y1_18 := iter (R := (Unit) × Y1_0 × Unit) c31_L14 (b31_14 k g3) a (((b, c, e, f, h, i, l, m, n, o, p, s, t, u, ()), ()), (), v, w, y, z, A, B, C, ())
theorem L31_14_s (k g3 a b c e f h i l m n o p s t u v w y z A B C) : L31_14 k g3 (a + 1) b c e f h i l m n o p s t u v w y z A B C = l31_14 k g3 (L31_14 k g3 a) b c e f h i l m n o p s t u v w y z A B C := iter_succ _ _ _ _
abbrev c31_L7 : Cut := ⟨[0, 4, 6, 27, 28, 29, 41, 42, 43], [.pin false 0, .own 41 Y1_16, cI, .own 3 (.int .i64), cI, cI, .cell Y1_16, cI, cI], [.mbox 83 [cI, cI, .own 27 Y1_3, .own 134 Y1_29, .cell .bool, .cell .bool, .cell .bool, .own 103 Y1_1, .own 3 (.int .i64), .own 4 .bool, .own 95 Y1_5, .own 3 (.int .i64), .own 4 .bool, .own 58 Y1_26]], 85, []⟩
def l31_7 (k : Nat) (g3 : Y1_9) (g7 : Int → Int → (List Y1_7) → (List (PN Int 5)) → Bool → Bool → Bool → (List Y1_2) → (List Int) → (List Bool) → (List Y1_6) → (List Int) → (List Bool) → Y1_56 → Y1_37 → Int → (List Int) → Int → Int → (List Int) → Int → Int → Option Y1_18) (a b : Int) (c : List Y1_7) (e : List (PN Int 5)) (f h i : Bool) (l : List Y1_2) (m : List Int) (n : List Bool) (o : List Y1_6) (p : List Int) (s : List Bool) (t : List (PN Int 6)) (u : List (List Int)) (v : Int) (w : List Int) (y z : Int) (A : List Int) (B C : Int) : Option Y1_18 :=
 (bif decide (C < B) then
  ix A C <|
  (S57a k a b c e f h i l m n o p s t (0, 12, 0, rd A C 0, 0, 15)).bind fun q2 =>
  g7 q2.2.1.1 q2.2.1.2.1 q2.2.1.2.2.1 q2.2.1.2.2.2.1 q2.2.1.2.2.2.2.1 q2.2.1.2.2.2.2.2.1 q2.2.1.2.2.2.2.2.2.1 q2.2.1.2.2.2.2.2.2.2.1 q2.2.1.2.2.2.2.2.2.2.2.1 q2.2.1.2.2.2.2.2.2.2.2.2.1 q2.2.1.2.2.2.2.2.2.2.2.2.2.1 q2.2.1.2.2.2.2.2.2.2.2.2.2.2.1 q2.2.1.2.2.2.2.2.2.2.2.2.2.2.2.1 q2.2.1.2.2.2.2.2.2.2.2.2.2.2.2.2.1 u v w y z A B (IntKind.i64.wrap (C + 1))
 else
  (S61 k ((m, n), o)).bind fun q3 =>
  (S60 k q3.1.1 v).bind fun q4 =>
  (bif decide (q4.1.1 ≥ 0) then
   L31_14 k g3 k a b c e f h i l m n o p s t u q4.1.1 w y z (l.length : Int) 0
  else
   g3 a b c e f h i l m n o p s t u w y (IntKind.i64.wrap (z + 1))))
def b31_7 (k : Nat) (g3 : Y1_9) (g : (Y1_54 × Unit × Y1_37 × Int × (List Int) × Int × Int × (List Int) × Int × Int × Unit) → Option Y1_18) : (Y1_54 × Unit × Y1_37 × Int × (List Int) × Int × Int × (List Int) × Int × Int × Unit) → Option Y1_18 := fun (((a, b, c, e, f, h, i, l, m, n, o, p, s, t, _), _), _, u, v, w, y, z, A, B, C, _) => l31_7 k g3 (fun a b c e f h i l m n o p s t u v w y z A B C => g (((a, b, c, e, f, h, i, l, m, n, o, p, s, t, ()), ()), (), u, v, w, y, z, A, B, C, ())) a b c e f h i l m n o p s t u v w y z A B C
def L31_7 (k : Nat) (g3 : Y1_9) (a : Nat) (b c : Int) (e : List Y1_7) (f : List (PN Int 5)) (h i l : Bool) (m : List Y1_2) (n : List Int) (o : List Bool) (p : List Y1_6) (s : List Int) (t : List Bool) (u : List (PN Int 6)) (v : List (List Int)) (w : Int) (y : List Int) (z A : Int) (B : List Int) (C D : Int) : Option Y1_18 := iter (R := (Unit) × Y1_0 × Unit) c31_L7 (b31_7 k g3) a (((b, c, e, f, h, i, l, m, n, o, p, s, t, u, ()), ()), (), v, w, y, z, A, B, C, D, ())
theorem L31_7_s (k g3 a b c e f h i l m n o p s t u v w y z A B C D) : L31_7 k g3 (a + 1) b c e f h i l m n o p s t u v w y z A B C D = l31_7 k g3 (L31_7 k g3 a) b c e f h i l m n o p s t u v w y z A B C D := iter_succ _ _ _ _
abbrev c31_L3 : Cut := ⟨[0, 4, 27, 28, 29], [.pin false 0, .own 41 Y1_16, .own 3 (.int .i64), cI, cI], [.mbox 83 [cI, cI, .own 27 Y1_3, .own 134 Y1_29, .cell .bool, .cell .bool, .cell .bool, .own 103 Y1_1, .own 3 (.int .i64), .own 4 .bool, .own 95 Y1_5, .own 3 (.int .i64), .own 4 .bool, .own 58 Y1_26]], 85, []⟩
def l31_3 (k : Nat) (g3 : Y1_9) (a b : Int) (c : List Y1_7) (e : List (PN Int 5)) (f h i : Bool) (l : List Y1_2) (m : List Int) (n : List Bool) (o : List Y1_6) (p : List Int) (s : List Bool) (t : List (PN Int 6)) (u : List (List Int)) (v : List Int) (w y : Int) : Option Y1_18 :=
 (bif decide (y < w) then
  ix v y <|
  (S57a k a b c e f h i l m n o p s t (0, 11, 0, rd v y 0, 0, 0)).bind fun q1 =>
  ix u y <|
  L31_7 k g3 k q1.2.1.1 q1.2.1.2.1 q1.2.1.2.2.1 q1.2.1.2.2.2.1 q1.2.1.2.2.2.2.1 q1.2.1.2.2.2.2.2.1 q1.2.1.2.2.2.2.2.2.1 q1.2.1.2.2.2.2.2.2.2.1 q1.2.1.2.2.2.2.2.2.2.2.1 q1.2.1.2.2.2.2.2.2.2.2.2.1 q1.2.1.2.2.2.2.2.2.2.2.2.2.1 q1.2.1.2.2.2.2.2.2.2.2.2.2.2.1 q1.2.1.2.2.2.2.2.2.2.2.2.2.2.2.1 q1.2.1.2.2.2.2.2.2.2.2.2.2.2.2.2.1 u (rd v y 0) v w y (rd u y []) ((rd u y []).length : Int) 0
 else
  some ((), (a, b, c, e, f, h, i, l, m, n, o, p, s, t, ()), ()))
def b31_3 (k : Nat) (g : (Y1_54 × Unit × Y1_37 × (List Int) × Int × Int × Unit) → Option Y1_18) : (Y1_54 × Unit × Y1_37 × (List Int) × Int × Int × Unit) → Option Y1_18 := fun (((a, b, c, e, f, h, i, l, m, n, o, p, s, t, _), _), _, u, v, w, y, _) => l31_3 k (fun a b c e f h i l m n o p s t u v w y => g (((a, b, c, e, f, h, i, l, m, n, o, p, s, t, ()), ()), (), u, v, w, y, ())) a b c e f h i l m n o p s t u v w y
def L31_3 (k a : Nat) (b c : Int) (e : List Y1_7) (f : List (PN Int 5)) (h i l : Bool) (m : List Y1_2) (n : List Int) (o : List Bool) (p : List Y1_6) (s : List Int) (t : List Bool) (u : List (PN Int 6)) (v : List (List Int)) (w : List Int) (y z : Int) : Option Y1_18 := iter (R := (Unit) × Y1_0 × Unit) c31_L3 (b31_3 k) a (((b, c, e, f, h, i, l, m, n, o, p, s, t, u, ()), ()), (), v, w, y, z, ())
theorem L31_3_s (k a b c e f h i l m n o p s t u v w y z) : L31_3 k (a + 1) b c e f h i l m n o p s t u v w y z = l31_3 k (L31_3 k a) b c e f h i l m n o p s t u v w y z := iter_succ _ _ _ _
def S31 (k : Nat) (a b : Int) (c : List Y1_7) (e : List (PN Int 5)) (f h i : Bool) (l : List Y1_2) (m : List Int) (n : List Bool) (o : List Y1_6) (p : List Int) (s : List Bool) (t : List (PN Int 6)) : Option Y1_18 :=
 (S59 k ((m, n), o)).bind fun q0 =>
 L31_3 k k a b c e f h i l q0.1.1.1.1 q0.1.1.1.2 q0.1.1.2 p s t q0.1.2.2.1 q0.1.2.1 (q0.1.2.1.length : Int) 0
def F31 : Fn := ⟨[.mbox 83 [cI, cI, .own 27 Y1_3, .own 134 Y1_29, .cell .bool, .cell .bool, .cell .bool, .own 103 Y1_1, .own 3 (.int .i64), .own 4 .bool, .own 95 Y1_5, .own 3 (.int .i64), .own 4 .bool, .own 58 Y1_26]], [], fun k ((a, b, c, e, f, h, i, l, m, n, o, p, s, t, _), _) => S31 k a b c e f h i l m n o p s t⟩
theorem ok31 : FnOK Tryz.prog 31 F31 := okF [(55, F55), (57, F57a), (59, F59), (60, F60), (61, F61)] [] (fun k => (.loop 3 c31_L3 (b31_3 k) (fun g => (fun (g3 : Y1_9) => (.loop 14 c31_L14 (b31_14 k g3) (fun g => .nil) (.loop 7 c31_L7 (b31_7 k g3) (fun g => .nil) .nil))) (fun t14 t15 t16 t17 t18 t19 t20 t21 t22 t23 t24 t25 t26 t27 who t27_1 t28 t29 => g (((t14, t15, t16, t17, t18, t19, t20, t21, t22, t23, t24, t25, t26, t27, ()), ()), (), who, t27_1, t28, t29, ()))) .nil)) ⟨ok55, ok57a, ok59, ok60, ok61, trivial⟩ Tryz.func31 rfl
abbrev c141_L3 : Cut := ⟨[0, 2, 6, 7, 8, 12, 13, 14], [.cell Y1_43, cI, cI, .cell .bool, .mp 279 true (.int .i64) false .bool, .cell Y1_16, cI, cI], [], 51, []⟩
def l141_3 (k : Nat) (g3 : Y1_19 → Int → Int → Bool → (List (Int × Bool)) → (List Int) → Int → Int → Option Y1_22) (a : Y1_27) (b c : Int) (e : Bool) (f : List (Int × Bool)) (h : List Int) (i l : Int) : Option Y1_22 :=
 (bif decide (l < i) then
  ix h l <|
  (S137 k a (rd h l 0) b).bind fun q0 =>
  (bif !q0.1.1 then
   g3 a b c e f h i (IntKind.i64.wrap (l + 1))
  else
   (bif mget (.int .i64) .bool (rd h l 0) f false then
    g3 a b c e f h i (IntKind.i64.wrap (l + 1))
   else
    (bif !e then
     ix a (rd h l 0) <|
     g3 a b (rd a (rd h l 0) (0, 0)).1 true (updD (.int .i64) .bool (rd h l 0) true f) h i (IntKind.i64.wrap (l + 1))
    else
     ix a (rd h l 0) <|
     (bif decide ((rd a (rd h l 0) (0, 0)).1 < c) then
      ix a (rd h l 0) <|
      g3 a b (rd a (rd h l 0) (0, 0)).1 true (updD (.int .i64) .bool (rd h l 0) true f) h i (IntKind.i64.wrap (l + 1))
     else
      g3 a b c e (updD (.int .i64) .bool (rd h l 0) true f) h i (IntKind.i64.wrap (l + 1))))))
 else
  some ((c, e, ()), ()))
def b141_3 (k : Nat) (g : ((Unit) × Y1_19 × Int × Int × Bool × (List (Int × Bool)) × (List Int) × Int × Int × Unit) → Option Y1_22) : ((Unit) × Y1_19 × Int × Int × Bool × (List (Int × Bool)) × (List Int) × Int × Int × Unit) → Option Y1_22 := fun (_, a, b, c, e, f, h, i, l, _) => l141_3 k (fun a b c e f h i l => g ((), a, b, c, e, f, h, i, l, ())) a b c e f h i l
def L141_3 (k a : Nat) (b : Y1_27) (c e : Int) (f : Bool) (h : List (Int × Bool)) (i : List Int) (l m : Int) : Option Y1_22 := iter (R := (Int × Bool × Unit) × Unit) c141_L3 (b141_3 k) a ((), b, c, e, f, h, i, l, m, ())
theorem L141_3_s (k a b c e f h i l m) : L141_3 k (a + 1) b c e f h i l m = l141_3 k (L141_3 k a) b c e f h i l m := iter_succ _ _ _ _
def S141 (k : Nat) (a : Y1_27) (b : List Int) (c : Int) : Option Y1_22 :=
 L141_3 k k a c 0 false ([] : List (Int × Bool)) b (b.length : Int) 0
def F141 : Fn := ⟨[.val ⟨false, Y1_43, false⟩, .val ⟨false, Y1_16, false⟩, .val ⟨false, (.int .i64), false⟩], [.val ⟨false, (.int .i64), true⟩, .val ⟨false, .bool, true⟩], fun k (a, b, c, _) => S141 k a b c⟩
theorem ok141 : FnOK Tryz.prog 141 F141 := okF [(137, F137)] [] (fun k => (.loop 3 c141_L3 (b141_3 k) (fun g => .nil) .nil)) ⟨ok137, trivial⟩ Tryz.func141 rfl
def S172 (k : Nat) (a : Y1_25) (b : Int) : Option Y1_23 :=
 (bif a.2.2.2.1 == 2 then
  some ((IntKind.i64.wrap ((IntKind.i64.wrap (b + b)) + a.1), ()), ())
 else
  (bif a.2.2.2.2.2.2.2 then
   some ((a.1, ()), ())
  else
   some ((IntKind.i64.wrap (b + a.1), ()), ())))
def F172 : Fn := ⟨[.val ⟨true, Y1_1, false⟩, .val ⟨false, (.int .i64), false⟩], [.val ⟨false, (.int .i64), true⟩], fun k x => S172 k x.1 x.2.1⟩
theorem ok172 : FnOK Tryz.prog 172 F172 := okF [] [] (fun k => .nil) trivial Tryz.func172 rfl
def S140 (k : Nat) (a : Y1_25) (b : Int) (c : Y1_27) : Option Y1_23 :=
 (S141 k c a.2.2.2.2.2.2.1 a.1).bind fun q0 =>
 (bif q0.1.2.1 then
  (S172 k a b).bind fun q1 =>
  some ((mn q1.1.1 q0.1.1, ()), ())
 else
  (S172 k a b).bind fun q2 =>
  some ((q2.1.1, ()), ()))
def F140 : Fn := ⟨[.val ⟨true, Y1_1, false⟩, .val ⟨false, (.int .i64), false⟩, .val ⟨false, Y1_43, false⟩], [.val ⟨false, (.int .i64), true⟩], fun k (a, b, c, _) => S140 k a b c⟩
theorem ok140 : FnOK Tryz.prog 140 F140 := okF [(141, F141), (172, F172)] [] (fun k => .nil) ⟨ok141, ok172, trivial⟩ Tryz.func140 rfl
def S103 (k : Nat) (a : Y1_25) (b : Int) (c : Y1_27) : Option ((Y1_21 × Unit) × Unit) :=
 (S140 k a b c).bind fun q0 =>
 (S141 k c a.2.2.2.2.2.2.1 a.1).bind fun q1 =>
 (bif q1.1.2.1 then
  some (((q0.1.1, 0, a.1), ()), ())
 else
  some (((q0.1.1, 1, a.1), ()), ()))
def F103 : Fn := ⟨[.val ⟨true, Y1_1, false⟩, .val ⟨false, (.int .i64), false⟩, .val ⟨false, Y1_43, false⟩], [.val ⟨true, Y1_8, true⟩], fun k (a, b, c, _) => S103 k a b c⟩
theorem ok103 : FnOK Tryz.prog 103 F103 := okF [(140, F140), (141, F141)] [] (fun k => .nil) ⟨ok140, ok141, trivial⟩ Tryz.func103 rfl
def S174 (k : Nat) (x : Int) : Option Y1_52 :=
 some ((x != x, ()), ())
def F174 : Fn := ⟨[.val ⟨false, (.int .i64), false⟩], [.val ⟨false, .bool, true⟩], fun k x => S174 k x.1⟩
theorem ok174 : FnOK Tryz.prog 174 F174 := okF [] [] (fun k => .nil) trivial Tryz.func174 rfl
def S145 (k : Nat) (x a : Int) : Option Y1_23 :=
 (S174 k x).bind fun q0 =>
 (S174 k a).bind fun q1 =>
 (bif q0.1.1 then
  (bif q1.1.1 then
   some ((0, ()), ())
  else
   some (((-1), ()), ()))
 else
  (bif q1.1.1 then
   some ((1, ()), ())
  else
   (bif decide (x < a) then
    some (((-1), ()), ())
   else
    (bif decide (x > a) then
     some ((1, ()), ())
    else
     some ((0, ()), ())))))
def F145 : Fn := ⟨[.val ⟨false, (.int .i64), false⟩, .val ⟨false, (.int .i64), false⟩], [.val ⟨false, (.int .i64), true⟩], fun k x => S145 k x.1 x.2.1⟩
theorem ok145 : FnOK Tryz.prog 145 F145 := okF [(174, F174)] [] (fun k => .nil) ⟨ok174, trivial⟩ Tryz.func145 rfl
abbrev c144_L3 : Cut := ⟨[3, 6, 7, 8], [cI, .cell Y1_16, cI, cI], [], 18, []⟩
def l144_3 (k : Nat) (g3 : Int → (List Int) → Int → Int → Option Y1_23) (a : Int) (b : List Int) (c e : Int) : Option Y1_23 :=
 (bif decide (e < c) then
  ix b e <|
  (bif (rd b e 0) != a then
   some ((rd b e 0, ()), ())
  else
   g3 a b c (IntKind.i64.wrap (e + 1)))
 else
  some ((a, ()), ()))
def b144_3 (k : Nat) (g : ((Unit) × Int × (List Int) × Int × Int × Unit) → Option Y1_23) : ((Unit) × Int × (List Int) × Int × Int × Unit) → Option Y1_23 := fun (_, a, b, c, e, _) => l144_3 k (fun a b c e => g ((), a, b, c, e, ())) a b c e
def L144_3 (k a : Nat) (b : Int) (c : List Int) (e f : Int) : Option Y1_23 := iter (R := (Int × Unit) × Unit) c144_L3 (b144_3 k) a ((), b, c, e, f, ())
theorem L144_3_s (k a b c e f) : L144_3 k (a + 1) b c e f = l144_3 k (L144_3 k a) b c e f := iter_succ _ _ _ _
def S144 (k : Nat) (a : List Int) : Option Y1_23 :=
 L144_3 k k 0 a (a.length : Int) 0
def F144 : Fn := ⟨[.val ⟨false, Y1_16, false⟩], [.val ⟨false, (.int .i64), true⟩], fun k x => S144 k x.1⟩
theorem ok144 : FnOK Tryz.prog 144 F144 := okF [] [] (fun k => (.loop 3 c144_L3 (b144_3 k) (fun g => .nil) .nil)) trivial Tryz.func144 rfl
def S105 (k : Nat) (a b : Int × Int × Int) : Option Y1_23 :=
 (S145 k a.1 b.1).bind fun q0 =>
 (S145 k a.2.1 b.2.1).bind fun q1 =>
 (S145 k a.2.2 b.2.2).bind fun q2 =>
 (S144 k ([q0.1.1, q1.1.1, q2.1.1] : List Int)).bind fun q3 =>
 some ((q3.1.1, ()), ())
def F105 : Fn := ⟨[.val ⟨true, Y1_8, false⟩, .val ⟨true, Y1_8, false⟩], [.val ⟨false, (.int .i64), true⟩], fun k x => S105 k x.1 x.2.1⟩
theorem ok105 : FnOK Tryz.prog 105 F105 := okF [(144, F144), (145, F145)] [] (fun k => .nil) ⟨ok144, ok145, trivial⟩ Tryz.func105 rfl
def S173 (k : Nat) (a : Int) : Option Y1_23 :=
 (bif decide (a < 0) then
  some ((0, ()), ())
 else
  (bif decide (a ≥ 64) then
   some ((0, ()), ())
  else
   nneg a <|
   some ((ishl .u64 1 a, ()), ())))
def F173 : Fn := ⟨[.val ⟨false, (.int .i64), false⟩], [.val ⟨false, (.int .u64), true⟩], fun k x => S173 k x.1⟩
theorem ok173 : FnOK Tryz.prog 173 F173 := okF [] [] (fun k => .nil) trivial Tryz.func173 rfl
def S142 (k : Nat) (a b : Int) : Option Y1_23 :=
 (S173 k b).bind fun q0 =>
 some ((ior .u64 a q0.1.1, ()), ())
def F142 : Fn := ⟨[.val ⟨false, (.int .u64), false⟩, .val ⟨false, (.int .i64), false⟩], [.val ⟨false, (.int .u64), true⟩], fun k x => S142 k x.1 x.2.1⟩
theorem ok142 : FnOK Tryz.prog 142 F142 := okF [(173, F173)] [] (fun k => .nil) ⟨ok173, trivial⟩ Tryz.func142 rfl
abbrev c143_L4 : Cut := ⟨[0, 2, 4], [.cell (.int .u64), cI, cI], [], 23, []⟩
def l143_4 (k : Nat) (g4 : Int → Int → Int → Option Y1_22) (a b c : Int) : Option Y1_22 :=
 (bif decide (c > 0) then
  nneg (IntKind.i64.wrap (64 - c)) <|
  (bif (ishl .u64 a (IntKind.i64.wrap (64 - c))) == 0 then
   nneg c <|
   g4 (ishr .u64 a c) (IntKind.i64.wrap (b + c)) (IntKind.i64.wrap (Int.tdiv c 2))
  else
   g4 a b (IntKind.i64.wrap (Int.tdiv c 2)))
 else
  some ((b, true, ()), ()))
def b143_4 (k : Nat) (g : ((Unit) × Int × Int × Int × Unit) → Option Y1_22) : ((Unit) × Int × Int × Int × Unit) → Option Y1_22 := fun (_, a, b, c, _) => l143_4 k (fun a b c => g ((), a, b, c, ())) a b c
def L143_4 (k a : Nat) (b c e : Int) : Option Y1_22 := iter (R := (Int × Bool × Unit) × Unit) c143_L4 (b143_4 k) a ((), b, c, e, ())
theorem L143_4_s (k a b c e) : L143_4 k (a + 1) b c e = l143_4 k (L143_4 k a) b c e := iter_succ _ _ _ _
def S143 (k : Nat) (a : Int) : Option Y1_22 :=
 (bif a == 0 then
  some ((0, false, ()), ())
 else
  L143_4 k k a 0 32)
def F143 : Fn := ⟨[.val ⟨false, (.int .u64), false⟩], [.val ⟨false, (.int .i64), true⟩, .val ⟨false, .bool, true⟩], fun k x => S143 k x.1⟩
theorem ok143 : FnOK Tryz.prog 143 F143 := okF [] [] (fun k => (.loop 4 c143_L4 (b143_4 k) (fun g => .nil) .nil)) trivial Tryz.func143 rfl
abbrev c104_L3 : Cut := ⟨[3, 4, 13, 14, 15], [.box 198 [cI, cI, cI], .cell (.int .u64), .cell (.sl 198 Y1_8), cI, cI], [], 42, []⟩
def l104_3 (k : Nat) (g3 : Int → Int → Int → Int → Y1_57 → Int → Int → Option Y1_23) (a b c e : Int) (f : List Y1_21) (h i : Int) : Option Y1_23 :=
 (bif decide (i < h) then
  ix f i <|
  (S105 k (rd f i (0, 0, 0)) (a, b, c)).bind fun q0 =>
  (bif decide (q0.1.1 < 0) then
   (S142 k 0 i).bind fun q1 =>
   g3 (rd f i (0, 0, 0)).1 (rd f i (0, 0, 0)).2.1 (rd f i (0, 0, 0)).2.2 q1.1.1 f h (IntKind.i64.wrap (i + 1))
  else
   (bif q0.1.1 == 0 then
    (S142 k e i).bind fun q2 =>
    g3 a b c q2.1.1 f h (IntKind.i64.wrap (i + 1))
   else
    g3 a b c e f h (IntKind.i64.wrap (i + 1))))
 else
  (S143 k e).bind fun q3 =>
  some ((q3.1.1, ()), ()))
def b104_3 (k : Nat) (g : ((Unit) × (Int × Int × Int × Unit) × Int × Y1_57 × Int × Int × Unit) → Option Y1_23) : ((Unit) × (Int × Int × Int × Unit) × Int × Y1_57 × Int × Int × Unit) → Option Y1_23 := fun (_, (a, b, c, _), e, f, h, i, _) => l104_3 k (fun a b c e f h i => g ((), (a, b, c, ()), e, f, h, i, ())) a b c e f h i
def L104_3 (k a : Nat) (b c e f : Int) (h : List Y1_21) (i l : Int) : Option Y1_23 := iter (R := (Int × Unit) × Unit) c104_L3 (b104_3 k) a ((), (b, c, e, ()), f, h, i, l, ())
theorem L104_3_s (k a b c e f h i l) : L104_3 k (a + 1) b c e f h i l = l104_3 k (L104_3 k a) b c e f h i l := iter_succ _ _ _ _
def S104 (k : Nat) (a : List Y1_21) : Option Y1_23 :=
 ix a 0 <|
 L104_3 k k (rd a 0 (0, 0, 0)).1 (rd a 0 (0, 0, 0)).2.1 (rd a 0 (0, 0, 0)).2.2 0 a (a.length : Int) 0
def F104 : Fn := ⟨[.val ⟨false, (.sl 198 Y1_8), false⟩], [.val ⟨false, (.int .i64), true⟩], fun k x => S104 k x.1⟩
theorem ok104 : FnOK Tryz.prog 104 F104 := okF [(105, F105), (142, F142), (143, F143)] [] (fun k => (.loop 3 c104_L3 (b104_3 k) (fun g => .nil) .nil)) ⟨ok105, ok142, ok143, trivial⟩ Tryz.func104 rfl
abbrev c62_L8 : Cut := ⟨[6, 7, 8, 11], [cI, .cell .bool, .own 198 Y1_8, cI], [], 63, []⟩
def l62_8 (k : Nat) (g8 : Int → Bool → Y1_57 → Int → Option Y1_22) (a : Int) (b : Bool) (c : List Y1_21) (e : Int) : Option Y1_22 :=
 (bif decide (e < (c.length : Int)) then
  sx c e (mn (IntKind.i64.wrap (e + 64)) (c.length : Int)) <|
  (S104 k (sub c e (mn (IntKind.i64.wrap (e + 64)) (c.length : Int)))).bind fun q2 =>
  (bif !b then
   g8 (IntKind.i64.wrap (e + q2.1.1)) true c (IntKind.i64.wrap (e + 64))
  else
   ix c (IntKind.i64.wrap (e + q2.1.1)) <|
   ix c a <|
   (S105 k (rd c (IntKind.i64.wrap (e + q2.1.1)) (0, 0, 0)) (rd c a (0, 0, 0))).bind fun q3 =>
   (bif decide (q3.1.1 < 0) then
    g8 (IntKind.i64.wrap (e + q2.1.1)) true c (IntKind.i64.wrap (e + 64))
   else
    g8 a b c (IntKind.i64.wrap (e + 64))))
 else
  some ((a, b, ()), ()))
def b62_8 (k : Nat) (g : ((Unit) × Int × Bool × Y1_57 × Int × Unit) → Option Y1_22) : ((Unit) × Int × Bool × Y1_57 × Int × Unit) → Option Y1_22 := fun (_, a, b, c, e, _) => l62_8 k (fun a b c e => g ((), a, b, c, e, ())) a b c e
def L62_8 (k a : Nat) (b : Int) (c : Bool) (e : List Y1_21) (f : Int) : Option Y1_22 := iter (R := (Int × Bool × Unit) × Unit) c62_L8 (b62_8 k) a ((), b, c, e, f, ())
theorem L62_8_s (k a b c e f) : L62_8 k (a + 1) b c e f = l62_8 k (L62_8 k a) b c e f := iter_succ _ _ _ _
abbrev c62_L3 : Cut := ⟨[1, 2, 6, 7, 8, 14, 15, 16], [cI, .cell Y1_43, cI, .cell .bool, .own 198 Y1_8, .cell Y1_49, cI, cI], [], 63, []⟩
def l62_3 (k : Nat) (g3 : Int → Y1_19 → Int → Bool → Y1_57 → (List Y1_2) → Int → Int → Option Y1_22) (a : Int) (b : Y1_27) (c : Int) (e : Bool) (f : List Y1_21) (h : List Y1_2) (i l : Int) : Option Y1_22 :=
 (bif decide (l < i) then
  ix h l <|
  (S103 k (rd h l (0, 0, 0, 0, (0, prep (α := Int) 8 0, [], false), (0, prep (α := Int) 8 0, [], false), [], false)) a b).bind fun q0 =>
  ap f ([q0.1.1] : List Y1_21) 24 fun r1 =>
  g3 a b c e r1 h i (IntKind.i64.wrap (l + 1))
 else
  L62_8 k k c e f 0)
def b62_3 (k : Nat) (g : ((Unit) × Int × Y1_19 × Int × Bool × Y1_57 × (List Y1_2) × Int × Int × Unit) → Option Y1_22) : ((Unit) × Int × Y1_19 × Int × Bool × Y1_57 × (List Y1_2) × Int × Int × Unit) → Option Y1_22 := fun (_, a, b, c, e, f, h, i, l, _) => l62_3 k (fun a b c e f h i l => g ((), a, b, c, e, f, h, i, l, ())) a b c e f h i l
def L62_3 (k a : Nat) (b : Int) (c : Y1_27) (e : Int) (f : Bool) (h : List Y1_21) (i : List Y1_2) (l m : Int) : Option Y1_22 := iter (R := (Int × Bool × Unit) × Unit) c62_L3 (b62_3 k) a ((), b, c, e, f, h, i, l, m, ())
theorem L62_3_s (k a b c e f h i l m) : L62_3 k (a + 1) b c e f h i l m = l62_3 k (L62_3 k a) b c e f h i l m := iter_succ _ _ _ _
def S62 (k : Nat) (a : List Y1_2) (b : Int) (c : Y1_27) : Option Y1_22 :=
 L62_3 k k b c 0 false ([] : List Y1_21) a (a.length : Int) 0
def F62 : Fn := ⟨[.val ⟨false, Y1_49, false⟩, .val ⟨false, (.int .i64), false⟩, .val ⟨false, Y1_43, false⟩], [.val ⟨false, (.int .i64), true⟩, .val ⟨false, .bool, true⟩], fun k (a, b, c, _) => S62 k a b c⟩
theorem ok62 : FnOK Tryz.prog 62 F62 := okF [(103, F103), (104, F104), (105, F105)] [(8, 2)] (fun k => (.loop 8 c62_L8 (b62_8 k) (fun g => .nil) (.loop 3 c62_L3 (b62_3 k) (fun g => .nil) .nil))) ⟨ok103, ok104, ok105, trivial⟩ Tryz.func62 rfl
def S149 (k : Nat) (a : Int × (PN Int 8) × Y1_57 × Bool) : Option Y1_50 :=
 (S97 k a.2.2.1).bind fun q0 =>
 some (((a.1, a.2.1, q0.1.1, a.2.2.2), ()), ())
def F149 : Fn := ⟨[.val ⟨true, Y1_28, false⟩], [.val ⟨true, Y1_28, true⟩], fun k x => S149 k x.1⟩
theorem ok149 : FnOK Tryz.prog 149 F149 := okF [(97, F97)] [] (fun k => .nil) ⟨ok97, trivial⟩ Tryz.func149 rfl
def S146 (k : Nat) (a : Y1_25) : Option ((Y1_2 × Unit) × Unit) :=
 (S149 k a.2.2.2.2.1).bind fun q0 =>
 (S149 k a.2.2.2.2.2.1).bind fun q1 =>
 (S66 k a.2.2.2.2.2.2.1).bind fun q2 =>
 some (((a.1, a.2.1, a.2.2.1, a.2.2.2.1, q0.1.1, q1.1.1, q2.1.1, a.2.2.2.2.2.2.2), ()), ())
def F146 : Fn := ⟨[.val ⟨true, Y1_1, false⟩], [.val ⟨true, Y1_1, true⟩], fun k x => S146 k x.1⟩
theorem ok146 : FnOK Tryz.prog 146 F146 := okF [(66, F66), (149, F149)] [] (fun k => .nil) ⟨ok66, ok149, trivial⟩ Tryz.func146 rfl
def S153 (k : Nat) (a : Y1_39) (b : Y1_25) : Option ((Y1_2 × Unit) × Unit) :=
 (S146 k b).bind fun q0 =>
 (bif b.2.2.2.1 == 0 then
  (bif decide ((a.2.2.2.2.1.length : Int) > 0) then
   (S73 k b.2.2.1).bind fun q1 =>
   (S73 k b.2.2.1).bind fun q2 =>
   some (((q0.1.1.1, q0.1.1.2.1, q0.1.1.2.2.1, 1, q1.1.1, q2.1.1, [], q0.1.1.2.2.2.2.2.2.2), ()), ())
  else
   (S149 k b.2.2.2.2.2.1).bind fun q3 =>
   some (((q0.1.1.1, q0.1.1.2.1, q0.1.1.2.2.1, q0.1.1.2.2.2.1, q3.1.1, q0.1.1.2.2.2.2.2.1, [], q0.1.1.2.2.2.2.2.2.2), ()), ()))
 else
  (S149 k b.2.2.2.2.2.1).bind fun q4 =>
  some (((q0.1.1.1, q0.1.1.2.1, q0.1.1.2.2.1, q0.1.1.2.2.2.1, q4.1.1, q0.1.1.2.2.2.2.2.1, [], q0.1.1.2.2.2.2.2.2.2), ()), ()))
def F153 : Fn := ⟨[.val ⟨true, Y1_3, false⟩, .val ⟨true, Y1_1, false⟩], [.val ⟨true, Y1_1, true⟩], fun k x => S153 k x.1 x.2.1⟩
theorem ok153 : FnOK Tryz.prog 153 F153 := okF [(73, F73), (146, F146), (149, F149)] [] (fun k => .nil) ⟨ok73, ok146, ok149, trivial⟩ Tryz.func153 rfl
def S110 (k : Nat) (a : Y1_39) (b : Y1_25) (c : Y1_27) : Option ((Y1_2 × Y1_19 × Int × Unit) × Unit) :=
 (S153 k a b).bind fun q0 =>
 (S101 k c b.1).bind fun q1 =>
 (bif b.2.2.2.1 == 2 then
  (S55 k b (-1)).bind fun q2 =>
  some ((q2.1.1, q1.1.1, 13, ()), ())
 else
  (bif q0.1.1.2.2.2.1 != b.2.2.2.1 then
   some ((q0.1.1, q1.1.1, 7, ()), ())
  else
   some ((q0.1.1, q1.1.1, 6, ()), ())))
def F110 : Fn := ⟨[.val ⟨true, Y1_3, false⟩, .val ⟨true, Y1_1, false⟩, .val ⟨false, Y1_43, false⟩], [.val ⟨true, Y1_1, true⟩, .val ⟨false, Y1_43, true⟩, .val ⟨false, (.int .i64), true⟩], fun k (a, b, c, _) => S110 k a b c⟩
theorem ok110 : FnOK Tryz.prog 110 F110 := okF [(55, F55), (101, F101), (153, F153)] [] (fun k => .nil) ⟨ok55, ok101, ok153, trivial⟩ Tryz.func110 rfl
abbrev c87b_L1 : Cut := ⟨[0, 1, 11, 12, 13], [.pin false 0, .cell Y1_43, .own 3 (.int .i64), cI, cI], [.mbox 83 [cI, cI, .own 27 Y1_3, .own 134 Y1_29, .cell .bool, .cell .bool, .cell .bool, .own 103 Y1_1, .own 3 (.int .i64), .own 4 .bool, .own 95 Y1_5, .own 3 (.int .i64), .own 4 .bool, .own 58 Y1_26]], 55, []⟩
def l87b_1 (k : Nat) (g1 : Y1_35) (a b : Int) (c : List Y1_7) (e : List (PN Int 5)) (f h i : Bool) (l : List Y1_2) (m : List Int) (n : List Bool) (o : List Y1_6) (p : List Int) (s : List Bool) (t : List (PN Int 6)) (u : Y1_27) (v : List Int) (w y : Int) : Option Y1_18 :=
 (bif decide (y < w) then
  ix v y <|
  ix o (rd v y 0) <|
  (bif decide (y < (u.length : Int)) then
   ix u y <|
   (bif !(beqD Y1_15 (rd o (rd v y 0) (0, (0, 0), (0, 0), ([], []), (0, []), 0)).2.2.1 (rd u y (0, 0))) then
    ix u y <|
    (S46 k ((m, n), o) (rd v y 0) ((rd o (rd v y 0) (0, (0, 0), (0, 0), ([], []), (0, []), 0)).1, (rd o (rd v y 0) (0, (0, 0), (0, 0), ([], []), (0, []), 0)).2.1, rd u y (0, 0), (rd o (rd v y 0) (0, (0, 0), (0, 0), ([], []), (0, []), 0)).2.2.2)).bind fun q1 =>
    g1 a b c e f h i l q1.1.1.1.1 q1.1.1.1.2 q1.1.1.2 p s t u v w (IntKind.i64.wrap (y + 1))
   else
    g1 a b c e f h i l m n o p s t u v w (IntKind.i64.wrap (y + 1)))
  else
   g1 a b c e f h i l m n o p s t u v w (IntKind.i64.wrap (y + 1)))
 else
  some ((), (a, b, c, e, f, h, i, l, m, n, o, p, s, t, ()), ()))
def b87b_1 (k : Nat) (g : (Y1_54 × Unit × Y1_19 × (List Int) × Int × Int × Unit) → Option Y1_18) : (Y1_54 × Unit × Y1_19 × (List Int) × Int × Int × Unit) → Option Y1_18 := fun (((a, b, c, e, f, h, i, l, m, n, o, p, s, t, _), _), _, u, v, w, y, _) => l87b_1 k (fun a b c e f h i l m n o p s t u v w y => g (((a, b, c, e, f, h, i, l, m, n, o, p, s, t, ()), ()), (), u, v, w, y, ())) a b c e f h i l m n o p s t u v w y
def L87b_1 (k a : Nat) (b c : Int) (e : List Y1_7) (f : List (PN Int 5)) (h i l : Bool) (m : List Y1_2) (n : List Int) (o : List Bool) (p : List Y1_6) (s : List Int) (t : List Bool) (u : List (PN Int 6)) (v : Y1_27) (w : List Int) (y z : Int) : Option Y1_18 := iter (R := (Unit) × Y1_0 × Unit) c87b_L1 (b87b_1 k) a (((b, c, e, f, h, i, l, m, n, o, p, s, t, u, ()), ()), (), v, w, y, z, ())
theorem L87b_1_s (k a b c e f h i l m n o p s t u v w y z) : L87b_1 k (a + 1) b c e f h i l m n o p s t u v w y z = l87b_1 k (L87b_1 k a) b c e f h i l m n o p s t u v w y z := iter_succ _ _ _ _
def S87b (k : Nat) (a b : Int) (c : List Y1_7) (e : List (PN Int 5)) (f h i : Bool) (l : List Y1_2) (m : List Int) (n : List Bool) (o : List Y1_6) (p : List Int) (s : List Bool) (t : List (PN Int 6)) (u : Y1_27) : Option Y1_18 :=
 (S61 k ((m, n), o)).bind fun q0 =>
 L87b_1 k k a b c e f h i l m n o p s t u q0.1.1 (q0.1.1.length : Int) 0
def F87b : Fn := ⟨[.mbox 83 [cI, cI, .own 27 Y1_3, .own 134 Y1_29, .cell .bool, .cell .bool, .cell .bool, .own 103 Y1_1, .own 3 (.int .i64), .own 4 .bool, .own 95 Y1_5, .own 3 (.int .i64), .own 4 .bool, .own 58 Y1_26], .val ⟨false, Y1_43, false⟩], [], fun k ((a, b, c, e, f, h, i, l, m, n, o, p, s, t, _), u, _) => S87b k a b c e f h i l m n o p s t u⟩
theorem ok87b : FnOK Tryz.prog 87 F87b := okF [(46, F46), (61, F61)] [] (fun k => (.loop 1 c87b_L1 (b87b_1 k) (fun g => .nil) .nil)) ⟨ok46, ok61, trivial⟩ Tryz.func87 rfl
def S65 (k : Nat) (a b : Int) (c : List Y1_7) (e : List (PN Int 5)) (f h i : Bool) (l : List Y1_2) (m : List Int) (n : List Bool) (o : List Y1_6) (p : List Int) (s : List Bool) (t : List (PN Int 6)) (u v w y z A B C D G H I J : Int) (K : List Y1_21) (M : Bool) (N O P Q T U V W X : Int) (Z : List Y1_21) (a1 : Bool) (b1 : List Int) (c1 : Bool) : Option Y1_47 :=
 ix c u <|
 (S63 k (a, b, c, e, f, h, i, l, ((m, n), o), p, s)).bind fun q0 =>
 (S110 k (rd c u (0, 0, 0, [], [], [])) (u, v, w, y, (z, (A, B, C, D, G, H, I, J), K, M), (N, (O, P, Q, T, U, V, W, X), Z, a1), b1, c1) q0.1.1).bind fun q1 =>
 (S87b k a b c e f h i l m n o p s t q1.1.2.1).bind fun q2 =>
 (S57a k q2.2.1.1 q2.2.1.2.1 q2.2.1.2.2.1 q2.2.1.2.2.2.1 q2.2.1.2.2.2.2.1 q2.2.1.2.2.2.2.2.1 q2.2.1.2.2.2.2.2.2.1 q2.2.1.2.2.2.2.2.2.2.1 q2.2.1.2.2.2.2.2.2.2.2.1 q2.2.1.2.2.2.2.2.2.2.2.2.1 q2.2.1.2.2.2.2.2.2.2.2.2.2.1 q2.2.1.2.2.2.2.2.2.2.2.2.2.2.1 q2.2.1.2.2.2.2.2.2.2.2.2.2.2.2.1 q2.2.1.2.2.2.2.2.2.2.2.2.2.2.2.2.1 (0, q1.1.2.2.1, q1.1.1.1, 0, 0, 0)).bind fun q3 =>
 some ((q1.1.2.2.1 == 13, ()), q3.2.1, (q1.1.1.1, q1.1.1.2.1, q1.1.1.2.2.1, q1.1.1.2.2.2.1, q1.1.1.2.2.2.2.1.1, q1.1.1.2.2.2.2.1.2.1.1, q1.1.1.2.2.2.2.1.2.1.2.1, q1.1.1.2.2.2.2.1.2.1.2.2.1, q1.1.1.2.2.2.2.1.2.1.2.2.2.1, q1.1.1.2.2.2.2.1.2.1.2.2.2.2.1, q1.1.1.2.2.2.2.1.2.1.2.2.2.2.2.1, q1.1.1.2.2.2.2.1.2.1.2.2.2.2.2.2.1, q1.1.1.2.2.2.2.1.2.1.2.2.2.2.2.2.2, q1.1.1.2.2.2.2.1.2.2.1, q1.1.1.2.2.2.2.1.2.2.2, q1.1.1.2.2.2.2.2.1.1, q1.1.1.2.2.2.2.2.1.2.1.1, q1.1.1.2.2.2.2.2.1.2.1.2.1, q1.1.1.2.2.2.2.2.1.2.1.2.2.1, q1.1.1.2.2.2.2.2.1.2.1.2.2.2.1, q1.1.1.2.2.2.2.2.1.2.1.2.2.2.2.1, q1.1.1.2.2.2.2.2.1.2.1.2.2.2.2.2.1, q1.1.1.2.2.2.2.2.1.2.1.2.2.2.2.2.2.1, q1.1.1.2.2.2.2.2.1.2.1.2.2.2.2.2.2.2, q1.1.1.2.2.2.2.2.1.2.2.1, q1.1.1.2.2.2.2.2.1.2.2.2, q1.1.1.2.2.2.2.2.2.1, q1.1.1.2.2.2.2.2.2.2, ()), ())
def F65 : Fn := ⟨[.mbox 83 [cI, cI, .own 27 Y1_3, .own 134 Y1_29, .cell .bool, .cell .bool, .cell .bool, .own 103 Y1_1, .own 3 (.int .i64), .own 4 .bool, .own 95 Y1_5, .own 3 (.int .i64), .own 4 .bool, .own 58 Y1_26], .mbox 103 [cI, cI, cI, cI, cI, cI, cI, cI, cI, cI, cI, cI, cI, .cell (.sl 189 Y1_8), .cell .bool, cI, cI, cI, cI, cI, cI, cI, cI, cI, .cell (.sl 189 Y1_8), .cell .bool, .cell Y1_16, .cell .bool]], [.val ⟨false, .bool, true⟩], fun k ((a, b, c, e, f, h, i, l, m, n, o, p, s, t, _), (u, v, w, y, z, A, B, C, D, G, H, I, J, K, M, N, O, P, Q, T, U, V, W, X, Z, a1, b1, c1, _), _) => S65 k a b c e f h i l m n o p s t u v w y z A B C D G H I J K M N O P Q T U V W X Z a1 b1 c1⟩
theorem ok65 : FnOK Tryz.prog 65 F65 := okF [(57, F57a), (63, F63), (87, F87b), (110, F110)] [] (fun k => .nil) ⟨ok57a, ok63, ok87b, ok110, trivial⟩ Tryz.func65 rfl
def S148 (k : Nat) (a : Y1_39) (b : Y1_25) : Option (((List Y1_14) × Unit) × Unit) :=
 (S54 k (mget (.int .i64) Y1_17 b.2.2.2.1 (updD (.int .i64) Y1_17 2 a.2.2.2.2.2 (updD (.int .i64) Y1_17 1 a.2.2.2.2.1 (updD (.int .i64) Y1_17 0 a.2.2.2.1 ([] : List (Int × List Y1_14))))) [])).bind fun q0 =>
 some ((q0.1.1, ()), ())
def F148 : Fn := ⟨[.val ⟨true, Y1_3, false⟩, .val ⟨true, Y1_1, false⟩], [.val ⟨false, Y1_17, true⟩], fun k x => S148 k x.1 x.2.1⟩
theorem ok148 : FnOK Tryz.prog 148 F148 := okF [(54, F54)] [] (fun k => .nil) ⟨ok54, trivial⟩ Tryz.func148 rfl
def S175 (k : Nat) (a : Int × (PN Int 8) × Y1_57 × Bool) : Option Y1_50 :=
 (S97 k a.2.2.1).bind fun q0 =>
 some (((a.1, a.2.1, q0.1.1, a.2.2.2), ()), ())
def F175 : Fn := ⟨[.val ⟨true, Y1_28, false⟩], [.val ⟨true, Y1_28, true⟩], fun k x => S175 k x.1⟩
theorem ok175 : FnOK Tryz.prog 175 F175 := okF [(97, F97)] [] (fun k => .nil) ⟨ok97, trivial⟩ Tryz.func175 rfl
def S176 (k : Nat) (a b : Int) : Option Y1_23 :=
 (bif decide (b ≤ (-64)) then
  some ((a, ()), ())
 else
  (bif decide (b ≥ 64) then
   some ((a, ()), ())
  else
   (bif decide (b < 0) then
    nneg (IntKind.i64.wrap (0 - b)) <|
    some ((ishr .i64 a (IntKind.i64.wrap (0 - b)), ()), ())
   else
    nneg b <|
    some ((IntKind.i64.wrap (ishl .u64 (IntKind.u64.wrap a) b), ()), ()))))
def F176 : Fn := ⟨[.val ⟨false, (.int .i64), false⟩, .val ⟨false, (.int .i64), false⟩], [.val ⟨false, (.int .i64), true⟩], fun k x => S176 k x.1 x.2.1⟩
theorem ok176 : FnOK Tryz.prog 176 F176 := okF [] [] (fun k => .nil) trivial Tryz.func176 rfl
def S177 (k : Nat) (a b : Int) : Option Y1_23 :=
 (bif decide (b < 1) then
  some ((a, ()), ())
 else
  (bif decide (b > 64) then
   some ((a, ()), ())
  else
   nneg (IntKind.i64.wrap (64 - b)) <|
   nneg (IntKind.i64.wrap (64 - b)) <|
   some ((ishr .i64 (ishl .i64 a (IntKind.i64.wrap (64 - b))) (IntKind.i64.wrap (64 - b)), ()), ())))
def F177 : Fn := ⟨[.val ⟨false, (.int .i64), false⟩, .val ⟨false, (.int .i64), false⟩], [.val ⟨false, (.int .i64), true⟩], fun k x => S177 k x.1 x.2.1⟩
theorem ok177 : FnOK Tryz.prog 177 F177 := okF [] [] (fun k => .nil) trivial Tryz.func177 rfl
abbrev c178_L2 : Cut := ⟨[1, 2, 3], [.box 101 [cI, cI, cI, cI, cI, cI, cI, cI, cI, .own 189 Y1_8, .cell .bool], .box 101 [cI, cI, cI, cI, cI, cI, cI, cI, cI, .nil, .cell .bool], cI], [], 55, []⟩
def l178_2 (k : Nat) (g2 : Int → Int → Int → Int → Int → Int → Int → Int → Int → Y1_57 → Bool → Int → Int → Int → Int → Int → Int → Int → Int → Int → Bool → Int → Option Y1_50) (a b c e f h i l m : Int) (n : List Y1_21) (o : Bool) (p s t u v w y z A : Int) (B : Bool) (C : Int) : Option Y1_50 :=
 (bif decide (C > 0) then
  ix n (IntKind.i64.wrap (C - 1)) <|
  (bif decide ((rd n (IntKind.i64.wrap (C - 1)) (0, 0, 0)).2.1 < a) then
   ix n (IntKind.i64.wrap (C - 1)) <|
   (bif decide ((rd n (IntKind.i64.wrap (C - 1)) (0, 0, 0)).2.2 > 0) then
    some ((((rd n (IntKind.i64.wrap (C - 1)) (0, 0, 0)).1, (b, c, e, f, h, i, l, m), upd n (IntKind.i64.wrap (C - 1)) ((rd n (IntKind.i64.wrap (C - 1)) (0, 0, 0)).1, (rd n (IntKind.i64.wrap (C - 1)) (0, 0, 0)).2.1, IntKind.i64.wrap ((rd n (IntKind.i64.wrap (C - 1)) (0, 0, 0)).2.2 - 1)), o), ()), ())
   else
    sx n 0 (IntKind.i64.wrap (C - 1)) <|
    g2 a b c e f h i l m (n.take (IntKind.i64.wrap (C - 1)).toNat) o p s t u v w y z A B ((n.take (IntKind.i64.wrap (C - 1)).toNat).length : Int))
  else
   some (((a, (b, c, e, f, h, i, l, m), n, o), ()), ()))
 else
  some (((a, (b, c, e, f, h, i, l, m), n, o), ()), ()))
def b178_2 (k : Nat) (g : ((Unit) × (Int × Int × Int × Int × Int × Int × Int × Int × Int × Y1_57 × Bool × Unit) × (Int × Int × Int × Int × Int × Int × Int × Int × Int × Unit × Bool × Unit) × Int × Unit) → Option Y1_50) : ((Unit) × (Int × Int × Int × Int × Int × Int × Int × Int × Int × Y1_57 × Bool × Unit) × (Int × Int × Int × Int × Int × Int × Int × Int × Int × Unit × Bool × Unit) × Int × Unit) → Option Y1_50 := fun (_, (a, b, c, e, f, h, i, l, m, n, o, _), (p, s, t, u, v, w, y, z, A, _, B, _), C, _) => l178_2 k (fun a b c e f h i l m n o p s t u v w y z A B C => g ((), (a, b, c, e, f, h, i, l, m, n, o, ()), (p, s, t, u, v, w, y, z, A, (), B, ()), C, ())) a b c e f h i l m n o p s t u v w y z A B C
def L178_2 (k a : Nat) (b c e f h i l m n : Int) (o : List Y1_21) (p : Bool) (s t u v w y z A B : Int) (C : Bool) (D : Int) : Option Y1_50 := iter (R := (Y1_12 × Unit) × Unit) c178_L2 (b178_2 k) a ((), (b, c, e, f, h, i, l, m, n, o, p, ()), (s, t, u, v, w, y, z, A, B, (), C, ()), D, ())
theorem L178_2_s (k a b c e f h i l m n o p s t u v w y z A B C D) : L178_2 k (a + 1) b c e f h i l m n o p s t u v w y z A B C D = l178_2 k (L178_2 k a) b c e f h i l m n o p s t u v w y z A B C D := iter_succ _ _ _ _
def S178 (k : Nat) (a b c e f h i l m : Int) (n : List Y1_21) (o : Bool) : Option Y1_50 :=
 L178_2 k k a b c e f h i l m n o 0 0 0 0 0 0 0 0 0 false (n.length : Int)
def F178 : Fn := ⟨[.gv (.agg [cI, cI, cI, cI, cI, cI, cI, cI, cI, .own 189 Y1_8, .cell .bool])], [.val ⟨true, Y1_28, true⟩], fun k ((a, b, c, e, f, h, i, l, m, n, o, _), _) => S178 k a b c e f h i l m n o⟩
theorem ok178 : FnOK Tryz.prog 178 F178 := okF [] [(52, 1)] (fun k => (.loop 2 c178_L2 (b178_2 k) (fun g => .nil) .nil)) trivial Tryz.func178 rfl
def S147 (k : Nat) (a : List Y1_14) (b : Int × (PN Int 8) × Y1_57 × Bool) : Option ((Y1_12 × Y1_14 × Bool × Unit) × Unit) :=
 (bif b.2.2.2 then
  (S175 k b).bind fun q0 =>
  some ((q0.1.1, (0, 0, 0, 0), false, ()), ())
 else
  (bif decide (b.1 < 0) then
   (S175 k b).bind fun q1 =>
   some ((q1.1.1, (0, 0, 0, 0), false, ()), ())
  else
   (bif decide (b.1 ≥ (a.length : Int)) then
    (S175 k b).bind fun q2 =>
    some ((q2.1.1, (0, 0, 0, 0), false, ()), ())
   else
    ix a b.1 <|
    (S156 k (rd a b.1 (0, 0, 0, 0))).bind fun q3 =>
    (bif !q3.1.1 then
     (S175 k b).bind fun q4 =>
     some ((q4.1.1, (0, 0, 0, 0), false, ()), ())
    else
     (S175 k b).bind fun q5 =>
     ix a q5.1.1.1 <|
     ax 8 (rd a q5.1.1.1 (0, 0, 0, 0)).2.1 <|
     ax 8 (Int.tmod (rd a q5.1.1.1 (0, 0, 0, 0)).2.2.1 8) <|
     (bif (rd a q5.1.1.1 (0, 0, 0, 0)).1 == 0 then
      (S178 k q5.1.1.1 q5.1.1.2.1.1 q5.1.1.2.1.2.1 q5.1.1.2.1.2.2.1 q5.1.1.2.1.2.2.2.1 q5.1.1.2.1.2.2.2.2.1 q5.1.1.2.1.2.2.2.2.2.1 q5.1.1.2.1.2.2.2.2.2.2.1 q5.1.1.2.1.2.2.2.2.2.2.2 q5.1.1.2.2.1 true).bind fun q6 =>
      some ((q6.1.1, rd a q5.1.1.1 (0, 0, 0, 0), true, ()), ())
     else
      (bif (rd a q5.1.1.1 (0, 0, 0, 0)).1 == 1 then
       (S178 k (IntKind.i64.wrap (q5.1.1.1 + 1)) (aset (α := Int) 8 q5.1.1.2.1 (rd a q5.1.1.1 (0, 0, 0, 0)).2.1 (rd a q5.1.1.1 (0, 0, 0, 0)).2.2.2).1 (aset (α := Int) 8 q5.1.1.2.1 (rd a q5.1.1.1 (0, 0, 0, 0)).2.1 (rd a q5.1.1.1 (0, 0, 0, 0)).2.2.2).2.1 (aset (α := Int) 8 q5.1.1.2.1 (rd a q5.1.1.1 (0, 0, 0, 0)).2.1 (rd a q5.1.1.1 (0, 0, 0, 0)).2.2.2).2.2.1 (aset (α := Int) 8 q5.1.1.2.1 (rd a q5.1.1.1 (0, 0, 0, 0)).2.1 (rd a q5.1.1.1 (0, 0, 0, 0)).2.2.2).2.2.2.1 (aset (α := Int) 8 q5.1.1.2.1 (rd a q5.1.1.1 (0, 0, 0, 0)).2.1 (rd a q5.1.1.1 (0, 0, 0, 0)).2.2.2).2.2.2.2.1 (aset (α := Int) 8 q5.1.1.2.1 (rd a q5.1.1.1 (0, 0, 0, 0)).2.1 (rd a q5.1.1.1 (0, 0, 0, 0)).2.2.2).2.2.2.2.2.1 (aset (α := Int) 8 q5.1.1.2.1 (rd a q5.1.1.1 (0, 0, 0, 0)).2.1 (rd a q5.1.1.1 (0, 0, 0, 0)).2.2.2).2.2.2.2.2.2.1 (aset (α := Int) 8 q5.1.1.2.1 (rd a q5.1.1.1 (0, 0, 0, 0)).2.1 (rd a q5.1.1.1 (0, 0, 0, 0)).2.2.2).2.2.2.2.2.2.2 q5.1.1.2.2.1 q5.1.1.2.2.2).bind fun q7 =>
       some ((q7.1.1, rd a q5.1.1.1 (0, 0, 0, 0), true, ()), ())
      else
       (bif (rd a q5.1.1.1 (0, 0, 0, 0)).1 == 2 then
        (S178 k (IntKind.i64.wrap (q5.1.1.1 + 1)) (aset (α := Int) 8 q5.1.1.2.1 (rd a q5.1.1.1 (0, 0, 0, 0)).2.1 (IntKind.i64.wrap (IntKind.u64.wrap ((IntKind.u64.wrap (aget (α := Int) 8 q5.1.1.2.1 (rd a q5.1.1.1 (0, 0, 0, 0)).2.1 0)) + (IntKind.u64.wrap (aget (α := Int) 8 q5.1.1.2.1 (Int.tmod (rd a q5.1.1.1 (0, 0, 0, 0)).2.2.1 8) 0)))))).1 (aset (α := Int) 8 q5.1.1.2.1 (rd a q5.1.1.1 (0, 0, 0, 0)).2.1 (IntKind.i64.wrap (IntKind.u64.wrap ((IntKind.u64.wrap (aget (α := Int) 8 q5.1.1.2.1 (rd a q5.1.1.1 (0, 0, 0, 0)).2.1 0)) + (IntKind.u64.wrap (aget (α := Int) 8 q5.1.1.2.1 (Int.tmod (rd a q5.1.1.1 (0, 0, 0, 0)).2.2.1 8) 0)))))).2.1 (aset (α := Int) 8 q5.1.1.2.1 (rd a q5.1.1.1 (0, 0, 0, 0)).2.1 (IntKind.i64.wrap (IntKind.u64.wrap ((IntKind.u64.wrap (aget (α := Int) 8 q5.1.1.2.1 (rd a q5.1.1.1 (0, 0, 0, 0)).2.1 0)) + (IntKind.u64.wrap (aget (α := Int) 8 q5.1.1.2.1 (Int.tmod (rd a q5.1.1.1 (0, 0, 0, 0)).2.2.1 8) 0)))))).2.2.1 (aset (α := Int) 8 q5.1.1.2.1 (rd a q5.1.1.1 (0, 0, 0, 0)).2.1 (IntKind.i64.wrap (IntKind.u64.wrap ((IntKind.u64.wrap (aget (α := Int) 8 q5.1.1.2.1 (rd a q5.1.1.1 (0, 0, 0, 0)).2.1 0)) + (IntKind.u64.wrap (aget (α := Int) 8 q5.1.1.2.1 (Int.tmod (rd a q5.1.1.1 (0, 0, 0, 0)).2.2.1 8) 0)))))).2.2.2.1 (aset (α := Int) 8 q5.1.1.2.1 (rd a q5.1.1.1 (0, 0, 0, 0)).2.1 (IntKind.i64.wrap (IntKind.u64.wrap ((IntKind.u64.wrap (aget (α := Int) 8 q5.1.1.2.1 (rd a q5.1.1.1 (0, 0, 0, 0)).2.1 0)) + (IntKind.u64.wrap (aget (α := Int) 8 q5.1.1.2.1 (Int.tmod (rd a q5.1.1.1 (0, 0, 0, 0)).2.2.1 8) 0)))))).2.2.2.2.1 (aset (α := Int) 8 q5.1.1.2.1 (rd a q5.1.1.1 (0, 0, 0, 0)).2.1 (IntKind.i64.wrap (IntKind.u64.wrap ((IntKind.u64.wrap (aget (α := Int) 8 q5.1.1.2.1 (rd a q5.1.1.1 (0, 0, 0, 0)).2.1 0)) + (IntKind.u64.wrap (aget (α := Int) 8 q5.1.1.2.1 (Int.tmod (rd a q5.1.1.1 (0, 0, 0, 0)).2.2.1 8) 0)))))).2.2.2.2.2.1 (aset (α := Int) 8 q5.1.1.2.1 (rd a q5.1.1.1 (0, 0, 0, 0)).2.1 (IntKind.i64.wrap (IntKind.u64.wrap ((IntKind.u64.wrap (aget (α := Int) 8 q5.1.1.2.1 (rd a q5.1.1.1 (0, 0, 0, 0)).2.1 0)) + (IntKind.u64.wrap (aget (α := Int) 8 q5.1.1.2.1 (Int.tmod (rd a q5.1.1.1 (0, 0, 0, 0)).2.2.1 8) 0)))))).2.2.2.2.2.2.1 (aset (α := Int) 8 q5.1.1.2.1 (rd a q5.1.1.1 (0, 0, 0, 0)).2.1 (IntKind.i64.wrap (IntKind.u64.wrap ((IntKind.u64.wrap (aget (α := Int) 8 q5.1.1.2.1 (rd a q5.1.1.1 (0, 0, 0, 0)).2.1 0)) + (IntKind.u64.wrap (aget (α := Int) 8 q5.1.1.2.1 (Int.tmod (rd a q5.1.1.1 (0, 0, 0, 0)).2.2.1 8) 0)))))).2.2.2.2.2.2.2 q5.1.1.2.2.1 q5.1.1.2.2.2).bind fun q8 =>
        some ((q8.1.1, rd a q5.1.1.1 (0, 0, 0, 0), true, ()), ())
       else
        (bif (rd a q5.1.1.1 (0, 0, 0, 0)).1 == 3 then
         (S178 k (IntKind.i64.wrap (q5.1.1.1 + 1)) (aset (α := Int) 8 q5.1.1.2.1 (rd a q5.1.1.1 (0, 0, 0, 0)).2.1 (IntKind.i64.wrap (IntKind.u64.wrap ((IntKind.u64.wrap (aget (α := Int) 8 q5.1.1.2.1 (rd a q5.1.1.1 (0, 0, 0, 0)).2.1 0)) - (IntKind.u64.wrap (aget (α := Int) 8 q5.1.1.2.1 (Int.tmod (rd a q5.1.1.1 (0, 0, 0, 0)).2.2.1 8) 0)))))).1 (aset (α := Int) 8 q5.1.1.2.1 (rd a q5.1.1.1 (0, 0, 0, 0)).2.1 (IntKind.i64.wrap (IntKind.u64.wrap ((IntKind.u64.wrap (aget (α := Int) 8 q5.1.1.2.1 (rd a q5.1.1.1 (0, 0, 0, 0)).2.1 0)) - (IntKind.u64.wrap (aget (α := Int) 8 q5.1.1.2.1 (Int.tmod (rd a q5.1.1.1 (0, 0, 0, 0)).2.2.1 8) 0)))))).2.1 (aset (α := Int) 8 q5.1.1.2.1 (rd a q5.1.1.1 (0, 0, 0, 0)).2.1 (IntKind.i64.wrap (IntKind.u64.wrap ((IntKind.u64.wrap (aget (α := Int) 8 q5.1.1.2.1 (rd a q5.1.1.1 (0, 0, 0, 0)).2.1 0)) - (IntKind.u64.wrap (aget (α := Int) 8 q5.1.1.2.1 (Int.tmod (rd a q5.1.1.1 (0, 0, 0, 0)).2.2.1 8) 0)))))).2.2.1 (aset (α := Int) 8 q5.1.1.2.1 (rd a q5.1.1.1 (0, 0, 0, 0)).2.1 (IntKind.i64.wrap (IntKind.u64.wrap ((IntKind.u64.wrap (aget (α := Int) 8 q5.1.1.2.1 (rd a q5.1.1.1 (0, 0, 0, 0)).2.1 0)) - (IntKind.u64.wrap (aget (α := Int) 8 q5.1.1.2.1 (Int.tmod (rd a q5.1.1.1 (0, 0, 0, 0)).2.2.1 8) 0)))))).2.2.2.1 (aset (α := Int) 8 q5.1.1.2.1 (rd a q5.1.1.1 (0, 0, 0, 0)).2.1 (IntKind.i64.wrap (IntKind.u64.wrap ((IntKind.u64.wrap (aget (α := Int) 8 q5.1.1.2.1 (rd a q5.1.1.1 (0, 0, 0, 0)).2.1 0)) - (IntKind.u64.wrap (aget (α := Int) 8 q5.1.1.2.1 (Int.tmod (rd a q5.1.1.1 (0, 0, 0, 0)).2.2.1 8) 0)))))).2.2.2.2.1 (aset (α := Int) 8 q5.1.1.2.1 (rd a q5.1.1.1 (0, 0, 0, 0)).2.1 (IntKind.i64.wrap (IntKind.u64.wrap ((IntKind.u64.wrap (aget (α := Int) 8 q5.1.1.2.1 (rd a q5.1.1.1 (0, 0, 0, 0)).2.1 0)) - (IntKind.u64.wrap (aget (α := Int) 8 q5.1.1.2.1 (Int.tmod (rd a q5.1.1.1 (0, 0, 0, 0)).2.2.1 8) 0)))))).2.2.2.2.2.1 (aset (α := Int) 8 q5.1.1.2.1 (rd a q5.1.1.1 (0, 0, 0, 0)).2.1 (IntKind.i64.wrap (IntKind.u64.wrap ((IntKind.u64.wrap (aget (α := Int) 8 q5.1.1.2.1 (rd a q5.1.1.1 (0, 0, 0, 0)).2.1 0)) - (IntKind.u64.wrap (aget (α := Int) 8 q5.1.1.2.1 (Int.tmod (rd a q5.1.1.1 (0, 0, 0, 0)).2.2.1 8) 0)))))).2.2.2.2.2.2.1 (aset (α := Int) 8 q5.1.1.2.1 (rd a q5.1.1.1 (0, 0, 0, 0)).2.1 (IntKind.i64.wrap (IntKind.u64.wrap ((IntKind.u64.wrap (aget (α := Int) 8 q5.1.1.2.1 (rd a q5.1.1.1 (0, 0, 0, 0)).2.1 0)) - (IntKind.u64.wrap (aget (α := Int) 8 q5.1.1.2.1 (Int.tmod (rd a q5.1.1.1 (0, 0, 0, 0)).2.2.1 8) 0)))))).2.2.2.2.2.2.2 q5.1.1.2.2.1 q5.1.1.2.2.2).bind fun q9 =>
         some ((q9.1.1, rd a q5.1.1.1 (0, 0, 0, 0), true, ()), ())
        else
         (bif (rd a q5.1.1.1 (0, 0, 0, 0)).1 == 4 then
          (S178 k (IntKind.i64.wrap (q5.1.1.1 + 1)) (aset (α := Int) 8 q5.1.1.2.1 (rd a q5.1.1.1 (0, 0, 0, 0)).2.1 (IntKind.i64.wrap (IntKind.u64.wrap ((IntKind.u64.wrap (aget (α := Int) 8 q5.1.1.2.1 (rd a q5.1.1.1 (0, 0, 0, 0)).2.1 0)) * (IntKind.u64.wrap (aget (α := Int) 8 q5.1.1.2.1 (Int.tmod (rd a q5.1.1.1 (0, 0, 0, 0)).2.2.1 8) 0)))))).1 (aset (α := Int) 8 q5.1.1.2.1 (rd a q5.1.1.1 (0, 0, 0, 0)).2.1 (IntKind.i64.wrap (IntKind.u64.wrap ((IntKind.u64.wrap (aget (α := Int) 8 q5.1.1.2.1 (rd a q5.1.1.1 (0, 0, 0, 0)).2.1 0)) * (IntKind.u64.wrap (aget (α := Int) 8 q5.1.1.2.1 (Int.tmod (rd a q5.1.1.1 (0, 0, 0, 0)).2.2.1 8) 0)))))).2.1 (aset (α := Int) 8 q5.1.1.2.1 (rd a q5.1.1.1 (0, 0, 0, 0)).2.1 (IntKind.i64.wrap (IntKind.u64.wrap ((IntKind.u64.wrap (aget (α := Int) 8 q5.1.1.2.1 (rd a q5.1.1.1 (0, 0, 0, 0)).2.1 0)) * (IntKind.u64.wrap (aget (α := Int) 8 q5.1.1.2.1 (Int.tmod (rd a q5.1.1.1 (0, 0, 0, 0)).2.2.1 8) 0)))))).2.2.1 (aset (α := Int) 8 q5.1.1.2.1 (rd a q5.1.1.1 (0, 0, 0, 0)).2.1 (IntKind.i64.wrap (IntKind.u64.wrap ((IntKind.u64.wrap (aget (α := Int) 8 q5.1.1.2.1 (rd a q5.1.1.1 (0, 0, 0, 0)).2.1 0)) * (IntKind.u64.wrap (aget (α := Int) 8 q5.1.1.2.1 (Int.tmod (rd a q5.1.1.1 (0, 0, 0, 0)).2.2.1 8) 0)))))).2.2.2.1 (aset (α := Int) 8 q5.1.1.2.1 (rd a q5.1.1.1 (0, 0, 0, 0)).2.1 (IntKind.i64.wrap (IntKind.u64.wrap ((IntKind.u64.wrap (aget (α := Int) 8 q5.1.1.2.1 (rd a q5.1.1.1 (0, 0, 0, 0)).2.1 0)) * (IntKind.u64.wrap (aget (α := Int) 8 q5.1.1.2.1 (Int.tmod (rd a q5.1.1.1 (0, 0, 0, 0)).2.2.1 8) 0)))))).2.2.2.2.1 (aset (α := Int) 8 q5.1.1.2.1 (rd a q5.1.1.1 (0, 0, 0, 0)).2.1 (IntKind.i64.wrap (IntKind.u64.wrap ((IntKind.u64.wrap (aget (α := Int) 8 q5.1.1.2.1 (rd a q5.1.1.1 (0, 0, 0, 0)).2.1 0)) * (IntKind.u64.wrap (aget (α := Int) 8 q5.1.1.2.1 (Int.tmod (rd a q5.1.1.1 (0, 0, 0, 0)).2.2.1 8) 0)))))).2.2.2.2.2.1 (aset (α := Int) 8 q5.1.1.2.1 (rd a q5.1.1.1 (0, 0, 0, 0)).2.1 (IntKind.i64.wrap (IntKind.u64.wrap ((IntKind.u64.wrap (aget (α := Int) 8 q5.1.1.2.1 (rd a q5.1.1.1 (0, 0, 0, 0)).2.1 0)) * (IntKind.u64.wrap (aget (α := Int) 8 q5.1.1.2.1 (Int.tmod (rd a q5.1.1.1 (0, 0, 0, 0)).2.2.1 8) 0)))))).2.2.2.2.2.2.1 (aset (α := Int) 8 q5.1.1.2.1 (rd a q5.1.1.1 (0, 0, 0, 0)).2.1 (IntKind.i64.wrap (IntKind.u64.wrap ((IntKind.u64.wrap (aget (α := Int) 8 q5.1.1.2.1 (rd a q5.1.1.1 (0, 0, 0, 0)).2.1 0)) * (IntKind.u64.wrap (aget (α := Int) 8 q5.1.1.2.1 (Int.tmod (rd a q5.1.1.1 (0, 0, 0, 0)).2.2.1 8) 0)))))).2.2.2.2.2.2.2 q5.1.1.2.2.1 q5.1.1.2.2.2).bind fun q10 =>
          some ((q10.1.1, rd a q5.1.1.1 (0, 0, 0, 0), true, ()), ())
         else
          (bif (rd a q5.1.1.1 (0, 0, 0, 0)).1 == 5 then
           (S176 k (aget (α := Int) 8 q5.1.1.2.1 (rd a q5.1.1.1 (0, 0, 0, 0)).2.1 0) (rd a q5.1.1.1 (0, 0, 0, 0)).2.2.2).bind fun q11 =>
           (S178 k (IntKind.i64.wrap (q5.1.1.1 + 1)) (aset (α := Int) 8 q5.1.1.2.1 (rd a q5.1.1.1 (0, 0, 0, 0)).2.1 q11.1.1).1 (aset (α := Int) 8 q5.1.1.2.1 (rd a q5.1.1.1 (0, 0, 0, 0)).2.1 q11.1.1).2.1 (aset (α := Int) 8 q5.1.1.2.1 (rd a q5.1.1.1 (0, 0, 0, 0)).2.1 q11.1.1).2.2.1 (aset (α := Int) 8 q5.1.1.2.1 (rd a q5.1.1.1 (0, 0, 0, 0)).2.1 q11.1.1).2.2.2.1 (aset (α := Int) 8 q5.1.1.2.1 (rd a q5.1.1.1 (0, 0, 0, 0)).2.1 q11.1.1).2.2.2.2.1 (aset (α := Int) 8 q5.1.1.2.1 (rd a q5.1.1.1 (0, 0, 0, 0)).2.1 q11.1.1).2.2.2.2.2.1 (aset (α := Int) 8 q5.1.1.2.1 (rd a q5.1.1.1 (0, 0, 0, 0)).2.1 q11.1.1).2.2.2.2.2.2.1 (aset (α := Int) 8 q5.1.1.2.1 (rd a q5.1.1.1 (0, 0, 0, 0)).2.1 q11.1.1).2.2.2.2.2.2.2 q5.1.1.2.2.1 q5.1.1.2.2.2).bind fun q12 =>
           some ((q12.1.1, rd a q5.1.1.1 (0, 0, 0, 0), true, ()), ())
          else
           (bif (rd a q5.1.1.1 (0, 0, 0, 0)).1 == 6 then
            (S177 k (aget (α := Int) 8 q5.1.1.2.1 (rd a q5.1.1.1 (0, 0, 0, 0)).2.1 0) (rd a q5.1.1.1 (0, 0, 0, 0)).2.2.2).bind fun q13 =>
            (S178 k (IntKind.i64.wrap (q5.1.1.1 + 1)) (aset (α := Int) 8 q5.1.1.2.1 (rd a q5.1.1.1 (0, 0, 0, 0)).2.1 q13.1.1).1 (aset (α := Int) 8 q5.1.1.2.1 (rd a q5.1.1.1 (0, 0, 0, 0)).2.1 q13.1.1).2.1 (aset (α := Int) 8 q5.1.1.2.1 (rd a q5.1.1.1 (0, 0, 0, 0)).2.1 q13.1.1).2.2.1 (aset (α := Int) 8 q5.1.1.2.1 (rd a q5.1.1.1 (0, 0, 0, 0)).2.1 q13.1.1).2.2.2.1 (aset (α := Int) 8 q5.1.1.2.1 (rd a q5.1.1.1 (0, 0, 0, 0)).2.1 q13.1.1).2.2.2.2.1 (aset (α := Int) 8 q5.1.1.2.1 (rd a q5.1.1.1 (0, 0, 0, 0)).2.1 q13.1.1).2.2.2.2.2.1 (aset (α := Int) 8 q5.1.1.2.1 (rd a q5.1.1.1 (0, 0, 0, 0)).2.1 q13.1.1).2.2.2.2.2.2.1 (aset (α := Int) 8 q5.1.1.2.1 (rd a q5.1.1.1 (0, 0, 0, 0)).2.1 q13.1.1).2.2.2.2.2.2.2 q5.1.1.2.2.1 q5.1.1.2.2.2).bind fun q14 =>
            some ((q14.1.1, rd a q5.1.1.1 (0, 0, 0, 0), true, ()), ())
           else
            (bif (rd a q5.1.1.1 (0, 0, 0, 0)).1 == 7 then
             (bif (aget (α := Int) 8 q5.1.1.2.1 (rd a q5.1.1.1 (0, 0, 0, 0)).2.1 0) == 0 then
              (S178 k (IntKind.i64.wrap ((IntKind.i64.wrap (q5.1.1.1 + 1)) + (rd a q5.1.1.1 (0, 0, 0, 0)).2.2.2)) q5.1.1.2.1.1 q5.1.1.2.1.2.1 q5.1.1.2.1.2.2.1 q5.1.1.2.1.2.2.2.1 q5.1.1.2.1.2.2.2.2.1 q5.1.1.2.1.2.2.2.2.2.1 q5.1.1.2.1.2.2.2.2.2.2.1 q5.1.1.2.1.2.2.2.2.2.2.2 q5.1.1.2.2.1 q5.1.1.2.2.2).bind fun q15 =>
              some ((q15.1.1, rd a q5.1.1.1 (0, 0, 0, 0), true, ()), ())
             else
              (S178 k (IntKind.i64.wrap (q5.1.1.1 + 1)) q5.1.1.2.1.1 q5.1.1.2.1.2.1 q5.1.1.2.1.2.2.1 q5.1.1.2.1.2.2.2.1 q5.1.1.2.1.2.2.2.2.1 q5.1.1.2.1.2.2.2.2.2.1 q5.1.1.2.1.2.2.2.2.2.2.1 q5.1.1.2.1.2.2.2.2.2.2.2 q5.1.1.2.2.1 q5.1.1.2.2.2).bind fun q16 =>
              some ((q16.1.1, rd a q5.1.1.1 (0, 0, 0, 0), true, ()), ()))
            else
             (bif (rd a q5.1.1.1 (0, 0, 0, 0)).1 == 8 then
              ap q5.1.1.2.2.1 ([(IntKind.i64.wrap (q5.1.1.1 + 1), IntKind.i64.wrap (q5.1.1.1 + (rd a q5.1.1.1 (0, 0, 0, 0)).2.2.1), IntKind.i64.wrap ((rd a q5.1.1.1 (0, 0, 0, 0)).2.2.2 - 1))] : List Y1_21) 24 fun r17 =>
              (S178 k (IntKind.i64.wrap (q5.1.1.1 + 1)) q5.1.1.2.1.1 q5.1.1.2.1.2.1 q5.1.1.2.1.2.2.1 q5.1.1.2.1.2.2.2.1 q5.1.1.2.1.2.2.2.2.1 q5.1.1.2.1.2.2.2.2.2.1 q5.1.1.2.1.2.2.2.2.2.2.1 q5.1.1.2.1.2.2.2.2.2.2.2 r17 q5.1.1.2.2.2).bind fun q18 =>
              some ((q18.1.1, rd a q5.1.1.1 (0, 0, 0, 0), true, ()), ())
             else
              (S178 k (IntKind.i64.wrap (q5.1.1.1 + 1)) q5.1.1.2.1.1 q5.1.1.2.1.2.1 q5.1.1.2.1.2.2.1 q5.1.1.2.1.2.2.2.1 q5.1.1.2.1.2.2.2.2.1 q5.1.1.2.1.2.2.2.2.2.1 q5.1.1.2.1.2.2.2.2.2.2.1 q5.1.1.2.1.2.2.2.2.2.2.2 q5.1.1.2.2.1 q5.1.1.2.2.2).bind fun q19 =>
              some ((q19.1.1, rd a q5.1.1.1 (0, 0, 0, 0), true, ()), ()))))))))))))))
def F147 : Fn := ⟨[.val ⟨false, Y1_17, false⟩, .val ⟨true, Y1_28, false⟩], [.val ⟨true, Y1_28, true⟩, .val ⟨true, (.pair (.int .i64) Y1_8), true⟩, .val ⟨false, .bool, true⟩], fun k x => S147 k x.1 x.2.1⟩
theorem ok147 : FnOK Tryz.prog 147 F147 := okF [(156, F156), (175, F175), (176, F176), (177, F177), (178, F178)] [] (fun k => .nil) ⟨ok156, ok175, ok176, ok177, ok178, trivial⟩ Tryz.func147 rfl
section
variable (w : World) {g n c i j : Nat}
theorem delF150_t : Tryz.prog.underlying 41 = some (.slice 3) ∧ Tryz.prog.underlying 3 = some (.int .i64) ∧ Tryz.prog.underlying 4 = some .bool ∧ Tryz.prog.follows .mixedOrders = true ∧ (∀ w, (Go.sizeOf 3).run Tryz.prog w = .ok 1 w) ∧ Tryz.f150.ntmps = 33 := ⟨by kernel_rfl, by kernel_rfl, by kernel_rfl, by kernel_rfl, fun w => by kernel_rfl, rfl⟩
theorem delF150_none {v : Value} (hv : (∃ A n c, v = .slice A n c ∧ i ≤ n ∧ n ≤ c ∧ c ≤ 9223372036854775807)) : Calls Tryz.prog 150 #[v, .int .i64 i, .int .i64 i] w fun e w' => e = .returned v ∧ w' = w := by
 obtain ⟨t24, t3, t4, mixed, z36, hnt⟩ := delF150_t
 have u24 := run_underlying t24; have u3 := run_underlying t3; have u4 := run_underlying t4
 obtain ⟨A, n, c, rfl, hi, hnc, hc63⟩ := hv
 have hi0 : (i : Int) ≤ (n : Int) := by omega
 have hi1 : (0 : Int) ≤ (i : Int) := by omega
 cases A <;> (go_enter Tryz.func150, hnt; go_wp2 <;> (go_ret; exact ⟨rfl, rfl⟩))
theorem delF150_some {w' w'' : World} (hlt : i < j) (hj : j ≤ n) (hnc : n ≤ c) (hc63 : c ≤ 9223372036854775807)
  (hap : ∀ ty A, (c ≠ j → A = (⟨g, j * 1, none⟩ : Addr)) → (Builtin.append_ #[41, 41] ty #[.slice (some ⟨g, 0, none⟩) i c, .slice (some A) (n - j) (c - j)]).run Tryz.prog w.drew = .ok (.slice (some ⟨g, 0, none⟩) (i + (n - j)) c) w')
  (hcl : ∀ ty dc, (Builtin.clear_ #[41] ty #[.slice (some ⟨g, (i + (n - j)) * 1, none⟩) (n - (i + (n - j))) dc]).run Tryz.prog w' = .ok (.tuple #[]) w'') :
  Calls Tryz.prog 150 #[.slice (some ⟨g, 0, none⟩) n c, .int .i64 i, .int .i64 j] w fun e w1 => e = .returned (.slice (some ⟨g, 0, none⟩) (i + (n - j)) c) ∧ w1 = w'' := by
 obtain ⟨t24, t3, t4, mixed, z36, hnt⟩ := delF150_t
 have u24 := run_underlying t24; have u3 := run_underlying t3; have u4 := run_underlying t4
 have hi0 : (i : Int) ≤ (n : Int) := by omega
 have hj0 : (j : Int) ≤ (n : Int) := by omega
 have hij : (i : Int) ≤ (j : Int) := by omega
 have hne : ¬ ((i : Int) = (j : Int)) := by omega
 have hic : i ≤ c := by omega
 have hjc : j ≤ c := by omega
 have hln : i + (n - j) ≤ n := by omega
 have hlc : i + (n - j) ≤ c := by omega
 have hci : ¬ (c = i + (n - j)) := by omega
 obtain ⟨A, hA, hA'⟩ : ∃ A : Addr, (if c = j then some (⟨g, 0, none⟩ : Addr) else some ⟨g, j * 1, none⟩) = some A ∧ (c ≠ j → A = (⟨g, j * 1, none⟩ : Addr)) := by
  by_cases h : c = j
  · exact ⟨_, if_pos h, fun q => absurd h q⟩
  · exact ⟨_, if_neg h, fun _ => rfl⟩
 try simp only [Nat.mul_one] at hA hcl
 go_enter Tryz.func150, hnt
 go_wp2_with fail
 go_region_law_o (refine append_step rfl rfl _ _ (by simp [Act.eval, Act.put]) (by simp [Act.eval, Act.put, hA]) (hap _ _ hA') ?_)
 go_wp2_with (at_builtin; refine clear_list rfl rfl _ rfl (hcl _ _) ?_)
 go_ret
 exact ⟨rfl, rfl⟩
end
abbrev P150 : List PT := delPs 3 (.int .i64)
abbrev R150 : List RT := delRs 3 (.int .i64)
def S150 (k : Nat) (a : List Int) (i j : Int) : Option Y1_31 := delSem 3 (.int .i64) k (a, i, j, ())
def F150 : Fn := ⟨P150, R150, delSem 3 (.int .i64)⟩
def E150 : Env := tab.env (fun _ => none) (fun _ => 0)
theorem E150_ok : EnvOK Tryz.prog E150 := envOK_of tabOK _ _ (fun f F h => by cases h)
theorem ok150 : FnOK Tryz.prog 150 F150 := by
 obtain ⟨i0, z, a1, a2, a3, a4, a5⟩ := (E150_ok.ty 3 ((.int .i64)) (by kernel_rfl)).info
 have b2 : Ty.sz ((.int .i64)) = 1 := rfl
 have hz : z.cells.size = 1 := by rw [← Array.length_toList, a5, zeroV_len, b2]
 obtain ⟨t24, t3, t4, mixed, z36, hnt⟩ := delF150_t
 refine del_ok Tryz.func150 rfl (by kernel_rfl) ?_
 rw [b2]
 exact del_all (S := 41) (z := z) t24 a1 a4 (by rw [a2, b2]) hz (fun v hv => zeroV_one ((.int .i64)) v (by rw [← a5]; exact hv)) (by decide) (fun w i v h => delF150_none w h) (fun w g n c i j w' w'' h1 h2 h3 h4 h5 h6 => delF150_some w h1 h2 h3 h4 h5 h6)
abbrev c106_L13 : Cut := ⟨[4, 5, 8], [.box 103 [cI, cI, cI, cI, cI, cI, cI, cI, cI, cI, cI, cI, cI, .own 189 Y1_8, .cell .bool, cI, cI, cI, cI, cI, cI, cI, cI, cI, .own 189 Y1_8, .cell .bool, .own 3 (.int .i64), .cell .bool], .box 24 [cI, cI, cI, cI], cI], [], 70, []⟩
def l106_13 (k : Nat) (g13 : Int → Int → Int → Int → Int → Int → Int → Int → Int → Int → Int → Int → Int → Y1_57 → Bool → Int → Int → Int → Int → Int → Int → Int → Int → Int → Y1_57 → Bool → (List Int) → Bool → Int → Int → Int → Int → Int → Option Y1_38) (x a b c e f h i l m n o p : Int) (s : List Y1_21) (t : Bool) (u v w y z A B C D : Int) (G : List Y1_21) (H : Bool) (I : List Int) (J : Bool) (K M N O P : Int) : Option Y1_38 :=
 (bif decide (P ≥ 0) then
  ix I P <|
  (bif (rd I P 0) == M then
   (S150 k I P (IntKind.i64.wrap (P + 1))).bind fun q5 =>
   some (((x, a, b, c, (e, (f, h, i, l, m, n, o, p), s, t), (u, (v, w, y, z, A, B, C, D), G, H), q5.1.1, J), (K, M, N, O), true, ()), ())
  else
   g13 x a b c e f h i l m n o p s t u v w y z A B C D G H I J K M N O (IntKind.i64.wrap (P - 1)))
 else
  some (((x, a, b, c, (e, (f, h, i, l, m, n, o, p), s, t), (u, (v, w, y, z, A, B, C, D), G, H), I, J), (K, M, N, O), true, ()), ()))
def b106_13 (k : Nat) (g : ((Unit) × Y1_10 × Y1_48 × Int × Unit) → Option Y1_38) : ((Unit) × Y1_10 × Y1_48 × Int × Unit) → Option Y1_38 := fun (_, (x, a, b, c, e, f, h, i, l, m, n, o, p, s, t, u, v, w, y, z, A, B, C, D, G, H, I, J, _), (K, M, N, O, _), P, _) => l106_13 k (fun x a b c e f h i l m n o p s t u v w y z A B C D G H I J K M N O P => g ((), (x, a, b, c, e, f, h, i, l, m, n, o, p, s, t, u, v, w, y, z, A, B, C, D, G, H, I, J, ()), (K, M, N, O, ()), P, ())) x a b c e f h i l m n o p s t u v w y z A B C D G H I J K M N O P
def L106_13 (k a : Nat) (x b c e f h i l m n o p s : Int) (t : List Y1_21) (u : Bool) (v w y z A B C D G : Int) (H : List Y1_21) (I : Bool) (J : List Int) (K : Bool) (M N O P Q : Int) : Option Y1_38 := iter (R := (Y1_2 × Y1_14 × Bool × Unit) × Unit) c106_L13 (b106_13 k) a ((), (x, b, c, e, f, h, i, l, m, n, o, p, s, t, u, v, w, y, z, A, B, C, D, G, H, I, J, K, ()), (M, N, O, P, ()), Q, ())
theorem L106_13_s (k a x b c e f h i l m n o p s t u v w y z A B C D G H I J K M N O P Q) : L106_13 k (a + 1) x b c e f h i l m n o p s t u v w y z A B C D G H I J K M N O P Q = l106_13 k (L106_13 k a) x b c e f h i l m n o p s t u v w y z A B C D G H I J K M N O P Q := iter_succ _ _ _ _
def S106 (k : Nat) (a : Y1_39) (b : Y1_25) : Option Y1_38 :=
 (S146 k b).bind fun q0 =>
 (S148 k a b).bind fun q1 =>
 (S147 k q1.1.1 b.2.2.2.2.1).bind fun q2 =>
 (bif !q2.1.2.2.1 then
  some ((q0.1.1, (0, 0, 0, 0), false, ()), ())
 else
  (bif q2.1.2.1.1 == 11 then
   (S149 k q2.1.1).bind fun q3 =>
   some (((q0.1.1.1, q0.1.1.2.1, q0.1.1.2.2.1, q0.1.1.2.2.2.1, q2.1.1, q3.1.1, q0.1.1.2.2.2.2.2.2), q2.1.2.1, true, ()), ())
  else
   (bif q2.1.2.1.1 == 9 then
    ap q0.1.1.2.2.2.2.2.2.1 ([q2.1.2.1.2.1] : List Int) 8 fun r4 =>
    some (((q0.1.1.1, q0.1.1.2.1, q0.1.1.2.2.1, q0.1.1.2.2.2.1, q2.1.1, q0.1.1.2.2.2.2.2.1, r4, q0.1.1.2.2.2.2.2.2.2), q2.1.2.1, true, ()), ())
   else
    (bif q2.1.2.1.1 == 10 then
     L106_13 k k q0.1.1.1 q0.1.1.2.1 q0.1.1.2.2.1 q0.1.1.2.2.2.1 q2.1.1.1 q2.1.1.2.1.1 q2.1.1.2.1.2.1 q2.1.1.2.1.2.2.1 q2.1.1.2.1.2.2.2.1 q2.1.1.2.1.2.2.2.2.1 q2.1.1.2.1.2.2.2.2.2.1 q2.1.1.2.1.2.2.2.2.2.2.1 q2.1.1.2.1.2.2.2.2.2.2.2 q2.1.1.2.2.1 q2.1.1.2.2.2 q0.1.1.2.2.2.2.2.1.1 q0.1.1.2.2.2.2.2.1.2.1.1 q0.1.1.2.2.2.2.2.1.2.1.2.1 q0.1.1.2.2.2.2.2.1.2.1.2.2.1 q0.1.1.2.2.2.2.2.1.2.1.2.2.2.1 q0.1.1.2.2.2.2.2.1.2.1.2.2.2.2.1 q0.1.1.2.2.2.2.2.1.2.1.2.2.2.2.2.1 q0.1.1.2.2.2.2.2.1.2.1.2.2.2.2.2.2.1 q0.1.1.2.2.2.2.2.1.2.1.2.2.2.2.2.2.2 q0.1.1.2.2.2.2.2.1.2.2.1 q0.1.1.2.2.2.2.2.1.2.2.2 q0.1.1.2.2.2.2.2.2.1 q0.1.1.2.2.2.2.2.2.2 q2.1.2.1.1 q2.1.2.1.2.1 q2.1.2.1.2.2.1 q2.1.2.1.2.2.2 (IntKind.i64.wrap ((q0.1.1.2.2.2.2.2.2.1.length : Int) - 1))
    else
     some (((q0.1.1.1, q0.1.1.2.1, q0.1.1.2.2.1, q0.1.1.2.2.2.1, q2.1.1, q0.1.1.2.2.2.2.2), q2.1.2.1, true, ()), ())))))
def F106 : Fn := ⟨[.val ⟨true, Y1_3, false⟩, .val ⟨true, Y1_1, false⟩], [.val ⟨true, Y1_1, true⟩, .val ⟨true, (.pair (.int .i64) Y1_8), true⟩, .val ⟨false, .bool, true⟩], fun k x => S106 k x.1 x.2.1⟩
theorem ok106 : FnOK Tryz.prog 106 F106 := okF [(146, F146), (147, F147), (148, F148), (149, F149), (150, F150)] [] (fun k => (.loop 13 c106_L13 (b106_13 k) (fun g => .nil) .nil)) ⟨ok146, ok147, ok148, ok149, ok150, trivial⟩ Tryz.func106 rfl
def S107 (k : Nat) (a : Y1_27) (b c : Int) : Option ((Y1_19 × Bool × Unit) × Unit) :=
 (S136 k a).bind fun q0 =>
 (S151 k a b).bind fun q1 =>
 (bif !q1.1.1 then
  some ((q0.1.1, false, ()), ())
 else
  ix a b <|
  (bif (rd a b (0, 0)).2 != 0 then
   some ((q0.1.1, false, ()), ())
  else
   ix q0.1.1 b <|
   some ((upd q0.1.1 b ((rd q0.1.1 b (0, 0)).1, IntKind.i64.wrap (c + 1)), true, ()), ())))
def F107 : Fn := ⟨[.val ⟨false, Y1_43, false⟩, .val ⟨false, (.int .i64), false⟩, .val ⟨false, (.int .i64), false⟩], [.val ⟨false, Y1_43, true⟩, .val ⟨false, .bool, true⟩], fun k (a, b, c, _) => S107 k a b c⟩
theorem ok107 : FnOK Tryz.prog 107 F107 := okF [(136, F136), (151, F151)] [] (fun k => .nil) ⟨ok136, ok151, trivial⟩ Tryz.func107 rfl
def S108 (k : Nat) (a : Y1_27) (b c : Int) : Option ((Y1_19 × Bool × Unit) × Unit) :=
 (S136 k a).bind fun q0 =>
 (S137 k a b c).bind fun q1 =>
 (bif !q1.1.1 then
  some ((q0.1.1, false, ()), ())
 else
  ix q0.1.1 b <|
  some ((upd q0.1.1 b ((rd q0.1.1 b (0, 0)).1, 0), true, ()), ()))
def F108 : Fn := ⟨[.val ⟨false, Y1_43, false⟩, .val ⟨false, (.int .i64), false⟩, .val ⟨false, (.int .i64), false⟩], [.val ⟨false, Y1_43, true⟩, .val ⟨false, .bool, true⟩], fun k (a, b, c, _) => S108 k a b c⟩
theorem ok108 : FnOK Tryz.prog 108 F108 := okF [(136, F136), (137, F137)] [] (fun k => .nil) ⟨ok136, ok137, trivial⟩ Tryz.func108 rfl
def S152 (k : Nat) (a : Y1_25) : Option ((Y1_2 × Unit) × Unit) :=
 (S146 k a).bind fun q0 =>
 (S73 k a.2.2.2.2.1.2.1.1).bind fun q1 =>
 (S73 k a.2.2.2.2.1.2.1.1).bind fun q2 =>
 some (((q0.1.1.1, q0.1.1.2.1, q0.1.1.2.2.1, 2, q1.1.1, q2.1.1, [], false), ()), ())
def F152 : Fn := ⟨[.val ⟨true, Y1_1, false⟩], [.val ⟨true, Y1_1, true⟩], fun k x => S152 k x.1⟩
theorem ok152 : FnOK Tryz.prog 152 F152 := okF [(73, F73), (146, F146)] [] (fun k => .nil) ⟨ok73, ok146, trivial⟩ Tryz.func152 rfl
abbrev c109_J8 : Cut := ⟨[0, 1], [.pin false 0, .pin false 1], [.mbox 83 [cI, cI, .own 27 Y1_3, .own 134 Y1_29, .cell .bool, .cell .bool, .cell .bool, .own 103 Y1_1, .own 3 (.int .i64), .own 4 .bool, .own 95 Y1_5, .own 3 (.int .i64), .own 4 .bool, .own 58 Y1_26], .mbox 103 [cI, cI, cI, cI, cI, cI, cI, cI, cI, cI, cI, cI, cI, .own 189 Y1_8, .cell .bool, cI, cI, cI, cI, cI, cI, cI, cI, cI, .own 189 Y1_8, .cell .bool, .own 3 (.int .i64), .cell .bool]], 95, []⟩
def j109_8 (k : Nat) (a b : Int) (c : List Y1_7) (e : List (PN Int 5)) (f h i : Bool) (l : List Y1_2) (m : List Int) (n : List Bool) (o : List Y1_6) (p : List Int) (s : List Bool) (t : List (PN Int 6)) (u v w y z A B C D G H I J : Int) (K : List Y1_21) (M : Bool) (N O P Q T U V W X : Int) (Z : List Y1_21) (a1 : Bool) (b1 : List Int) (c1 : Bool) : Option Y1_47 :=
 (S56 k (p, s) u).bind fun q3 =>
 (S152 k (u, v, w, y, (z, (A, B, C, D, G, H, I, J), K, M), (N, (O, P, Q, T, U, V, W, X), Z, a1), b1, c1)).bind fun q4 =>
 ix c q4.1.1.1 <|
 some ((((rd c q4.1.1.1 (0, 0, 0, [], [], [])).2.2.2.2.2.length : Int) == 0, ()), (a, b, c, e, f, h, i, l, m, n, o, q3.1.1.1, q3.1.1.2, t, ()), (q4.1.1.1, q4.1.1.2.1, q4.1.1.2.2.1, q4.1.1.2.2.2.1, q4.1.1.2.2.2.2.1.1, q4.1.1.2.2.2.2.1.2.1.1, q4.1.1.2.2.2.2.1.2.1.2.1, q4.1.1.2.2.2.2.1.2.1.2.2.1, q4.1.1.2.2.2.2.1.2.1.2.2.2.1, q4.1.1.2.2.2.2.1.2.1.2.2.2.2.1, q4.1.1.2.2.2.2.1.2.1.2.2.2.2.2.1, q4.1.1.2.2.2.2.1.2.1.2.2.2.2.2.2.1, q4.1.1.2.2.2.2.1.2.1.2.2.2.2.2.2.2, q4.1.1.2.2.2.2.1.2.2.1, q4.1.1.2.2.2.2.1.2.2.2, q4.1.1.2.2.2.2.2.1.1, q4.1.1.2.2.2.2.2.1.2.1.1, q4.1.1.2.2.2.2.2.1.2.1.2.1, q4.1.1.2.2.2.2.2.1.2.1.2.2.1, q4.1.1.2.2.2.2.2.1.2.1.2.2.2.1, q4.1.1.2.2.2.2.2.1.2.1.2.2.2.2.1, q4.1.1.2.2.2.2.2.1.2.1.2.2.2.2.2.1, q4.1.1.2.2.2.2.2.1.2.1.2.2.2.2.2.2.1, q4.1.1.2.2.2.2.2.1.2.1.2.2.2.2.2.2.2, q4.1.1.2.2.2.2.2.1.2.2.1, q4.1.1.2.2.2.2.2.1.2.2.2, q4.1.1.2.2.2.2.2.2.1, q4.1.1.2.2.2.2.2.2.2, ()), ())
def S109 (k : Nat) (a b : Int) (c : List Y1_7) (e : List (PN Int 5)) (f h i : Bool) (l : List Y1_2) (m : List Int) (n : List Bool) (o : List Y1_6) (p : List Int) (s : List Bool) (t : List (PN Int 6)) (u v w y z A B C D G H I J : Int) (K : List Y1_21) (M : Bool) (N O P Q T U V W X : Int) (Z : List Y1_21) (a1 : Bool) (b1 : List Int) (c1 : Bool) : Option Y1_47 :=
 (bif y == 2 then
  (S57a k a b c e f h i l m n o p s t (0, 4, u, 0, A, 0)).bind fun q0 =>
  some ((true, ()), q0.2.1, (u, v, w, y, z, A, B, C, D, G, H, I, J, K, M, N, O, P, Q, T, U, V, W, X, Z, a1, b1, c1, ()), ())
 else
  (S57a k a b c e f h i l m n o p s t (0, 3, u, 0, A, 0)).bind fun q1 =>
  (bif y == 0 then
   ix q1.2.1.2.2.1 u <|
   (bif decide (((rd q1.2.1.2.2.1 u (0, 0, 0, [], [], [])).2.2.2.2.1.length : Int) > 0) then
    (S57a k q1.2.1.1 q1.2.1.2.1 q1.2.1.2.2.1 q1.2.1.2.2.2.1 q1.2.1.2.2.2.2.1 q1.2.1.2.2.2.2.2.1 q1.2.1.2.2.2.2.2.2.1 q1.2.1.2.2.2.2.2.2.2.1 q1.2.1.2.2.2.2.2.2.2.2.1 q1.2.1.2.2.2.2.2.2.2.2.2.1 q1.2.1.2.2.2.2.2.2.2.2.2.2.1 q1.2.1.2.2.2.2.2.2.2.2.2.2.2.1 q1.2.1.2.2.2.2.2.2.2.2.2.2.2.2.1 q1.2.1.2.2.2.2.2.2.2.2.2.2.2.2.2.1 (0, 8, u, 0, 0, 0)).bind fun q2 =>
    j109_8 k q2.2.1.1 q2.2.1.2.1 q2.2.1.2.2.1 q2.2.1.2.2.2.1 q2.2.1.2.2.2.2.1 q2.2.1.2.2.2.2.2.1 q2.2.1.2.2.2.2.2.2.1 q2.2.1.2.2.2.2.2.2.2.1 q2.2.1.2.2.2.2.2.2.2.2.1 q2.2.1.2.2.2.2.2.2.2.2.2.1 q2.2.1.2.2.2.2.2.2.2.2.2.2.1 q2.2.1.2.2.2.2.2.2.2.2.2.2.2.1 q2.2.1.2.2.2.2.2.2.2.2.2.2.2.2.1 q2.2.1.2.2.2.2.2.2.2.2.2.2.2.2.2.1 u v w y z A B C D G H I J K M N O P Q T U V W X Z a1 b1 c1
   else
    j109_8 k q1.2.1.1 q1.2.1.2.1 q1.2.1.2.2.1 q1.2.1.2.2.2.1 q1.2.1.2.2.2.2.1 q1.2.1.2.2.2.2.2.1 q1.2.1.2.2.2.2.2.2.1 q1.2.1.2.2.2.2.2.2.2.1 q1.2.1.2.2.2.2.2.2.2.2.1 q1.2.1.2.2.2.2.2.2.2.2.2.1 q1.2.1.2.2.2.2.2.2.2.2.2.2.1 q1.2.1.2.2.2.2.2.2.2.2.2.2.2.1 q1.2.1.2.2.2.2.2.2.2.2.2.2.2.2.1 q1.2.1.2.2.2.2.2.2.2.2.2.2.2.2.2.1 u v w y z A B C D G H I J K M N O P Q T U V W X Z a1 b1 c1)
  else
   j109_8 k q1.2.1.1 q1.2.1.2.1 q1.2.1.2.2.1 q1.2.1.2.2.2.1 q1.2.1.2.2.2.2.1 q1.2.1.2.2.2.2.2.1 q1.2.1.2.2.2.2.2.2.1 q1.2.1.2.2.2.2.2.2.2.1 q1.2.1.2.2.2.2.2.2.2.2.1 q1.2.1.2.2.2.2.2.2.2.2.2.1 q1.2.1.2.2.2.2.2.2.2.2.2.2.1 q1.2.1.2.2.2.2.2.2.2.2.2.2.2.1 q1.2.1.2.2.2.2.2.2.2.2.2.2.2.2.1 q1.2.1.2.2.2.2.2.2.2.2.2.2.2.2.2.1 u v w y z A B C D G H I J K M N O P Q T U V W X Z a1 b1 c1))
def F109 : Fn := ⟨[.mbox 83 [cI, cI, .own 27 Y1_3, .own 134 Y1_29, .cell .bool, .cell .bool, .cell .bool, .own 103 Y1_1, .own 3 (.int .i64), .own 4 .bool, .own 95 Y1_5, .own 3 (.int .i64), .own 4 .bool, .own 58 Y1_26], .mbox 103 [cI, cI, cI, cI, cI, cI, cI, cI, cI, cI, cI, cI, cI, .own 189 Y1_8, .cell .bool, cI, cI, cI, cI, cI, cI, cI, cI, cI, .own 189 Y1_8, .cell .bool, .own 3 (.int .i64), .cell .bool]], [.val ⟨false, .bool, true⟩], fun k ((a, b, c, e, f, h, i, l, m, n, o, p, s, t, _), (u, v, w, y, z, A, B, C, D, G, H, I, J, K, M, N, O, P, Q, T, U, V, W, X, Z, a1, b1, c1, _), _) => S109 k a b c e f h i l m n o p s t u v w y z A B C D G H I J K M N O P Q T U V W X Z a1 b1 c1⟩
theorem ok109 : FnOK Tryz.prog 109 F109 := okF [(56, F56), (57, F57a), (152, F152)] [] (fun k => (.join 8 c109_J8 (fun d => j109_8 k d.1.1.1 d.1.1.2.1 d.1.1.2.2.1 d.1.1.2.2.2.1 d.1.1.2.2.2.2.1 d.1.1.2.2.2.2.2.1 d.1.1.2.2.2.2.2.2.1 d.1.1.2.2.2.2.2.2.2.1 d.1.1.2.2.2.2.2.2.2.2.1 d.1.1.2.2.2.2.2.2.2.2.2.1 d.1.1.2.2.2.2.2.2.2.2.2.2.1 d.1.1.2.2.2.2.2.2.2.2.2.2.2.1 d.1.1.2.2.2.2.2.2.2.2.2.2.2.2.1 d.1.1.2.2.2.2.2.2.2.2.2.2.2.2.2.1 d.1.2.1.1 d.1.2.1.2.1 d.1.2.1.2.2.1 d.1.2.1.2.2.2.1 d.1.2.1.2.2.2.2.1 d.1.2.1.2.2.2.2.2.1 d.1.2.1.2.2.2.2.2.2.1 d.1.2.1.2.2.2.2.2.2.2.1 d.1.2.1.2.2.2.2.2.2.2.2.1 d.1.2.1.2.2.2.2.2.2.2.2.2.1 d.1.2.1.2.2.2.2.2.2.2.2.2.2.1 d.1.2.1.2.2.2.2.2.2.2.2.2.2.2.1 d.1.2.1.2.2.2.2.2.2.2.2.2.2.2.2.1 d.1.2.1.2.2.2.2.2.2.2.2.2.2.2.2.2.1 d.1.2.1.2.2.2.2.2.2.2.2.2.2.2.2.2.2.1 d.1.2.1.2.2.2.2.2.2.2.2.2.2.2.2.2.2.2.1 d.1.2.1.2.2.2.2.2.2.2.2.2.2.2.2.2.2.2.2.1 d.1.2.1.2.2.2.2.2.2.2.2.2.2.2.2.2.2.2.2.2.1 d.1.2.1.2.2.2.2.2.2.2.2.2.2.2.2.2.2.2.2.2.2.1 d.1.2.1.2.2.2.2.2.2.2.2.2.2.2.2.2.2.2.2.2.2.2.1 d.1.2.1.2.2.2.2.2.2.2.2.2.2.2.2.2.2.2.2.2.2.2.2.1 d.1.2.1.2.2.2.2.2.2.2.2.2.2.2.2.2.2.2.2.2.2.2.2.2.1 d.1.2.1.2.2.2.2.2.2.2.2.2.2.2.2.2.2.2.2.2.2.2.2.2.2.1 d.1.2.1.2.2.2.2.2.2.2.2.2.2.2.2.2.2.2.2.2.2.2.2.2.2.2.1 d.1.2.1.2.2.2.2.2.2.2.2.2.2.2.2.2.2.2.2.2.2.2.2.2.2.2.2.1 d.1.2.1.2.2.2.2.2.2.2.2.2.2.2.2.2.2.2.2.2.2.2.2.2.2.2.2.2.1 d.1.2.1.2.2.2.2.2.2.2.2.2.2.2.2.2.2.2.2.2.2.2.2.2.2.2.2.2.2.1 d.1.2.1.2.2.2.2.2.2.2.2.2.2.2.2.2.2.2.2.2.2.2.2.2.2.2.2.2.2.2.1) .nil)) ⟨ok56, ok57a, ok152, trivial⟩ Tryz.func109 rfl
abbrev c64_J12 : Cut := ⟨[0, 1], [.pin false 0, .pin false 1], [.mbox 83 [cI, cI, .own 27 Y1_3, .own 134 Y1_29, .cell .bool, .cell .bool, .cell .bool, .own 103 Y1_1, .own 3 (.int .i64), .own 4 .bool, .own 95 Y1_5, .own 3 (.int .i64), .own 4 .bool, .own 58 Y1_26], .mbox 103 [cI, cI, cI, cI, cI, cI, cI, cI, cI, cI, cI, cI, cI, .own 189 Y1_8, .cell .bool, cI, cI, cI, cI, cI, cI, cI, cI, cI, .own 189 Y1_8, .cell .bool, .own 3 (.int .i64), .cell .bool]], 92, []⟩
def j64_12 (k : Nat) (a b : Int) (c : List Y1_7) (e : List (PN Int 5)) (f h i : Bool) (l : List Y1_2) (m : List Int) (n : List Bool) (o : List Y1_6) (p : List Int) (s : List Bool) (t : List (PN Int 6)) (u v w y z A B C D G H I J : Int) (K : List Y1_21) (M : Bool) (N O P Q T U V W X : Int) (Z : List Y1_21) (a1 : Bool) (b1 : List Int) (c1 : Bool) : Option Y1_47 :=
 (bif M then
  (S109 k a b c e f h i l m n o p s t u v w y z A B C D G H I J K M N O P Q T U V W X Z a1 b1 c1).bind fun q7 =>
  some ((q7.1.1, ()), q7.2.1, q7.2.2.1, ())
 else
  some ((false, ()), (a, b, c, e, f, h, i, l, m, n, o, p, s, t, ()), (u, v, w, y, z, A, B, C, D, G, H, I, J, K, M, N, O, P, Q, T, U, V, W, X, Z, a1, b1, c1, ()), ()))
def S64 (k : Nat) (a b : Int) (c : List Y1_7) (e : List (PN Int 5)) (f h i : Bool) (l : List Y1_2) (m : List Int) (n : List Bool) (o : List Y1_6) (p : List Int) (s : List Bool) (t : List (PN Int 6)) (u v w y z A B C D G H I J : Int) (K : List Y1_21) (M : Bool) (N O P Q T U V W X : Int) (Z : List Y1_21) (a1 : Bool) (b1 : List Int) (c1 : Bool) : Option Y1_47 :=
 ix c u <|
 (S106 k (rd c u (0, 0, 0, [], [], [])) (u, v, w, y, (z, (A, B, C, D, G, H, I, J), K, M), (N, (O, P, Q, T, U, V, W, X), Z, a1), b1, c1)).bind fun q0 =>
 (bif !q0.1.2.2.1 then
  some ((false, ()), (a, b, c, e, f, h, i, l, m, n, o, p, s, t, ()), (u, v, w, y, z, A, B, C, D, G, H, I, J, K, M, N, O, P, Q, T, U, V, W, X, Z, a1, b1, c1, ()), ())
 else
  (bif q0.1.2.1.1 == 9 then
   (S63 k (a, b, c, e, f, h, i, l, ((m, n), o), p, s)).bind fun q1 =>
   (S107 k q1.1.1 q0.1.2.1.2.1 q0.1.1.1).bind fun q2 =>
   (S87b k a b c e f h i l m n o p s t q2.1.1).bind fun q3 =>
   j64_12 k q3.2.1.1 q3.2.1.2.1 q3.2.1.2.2.1 q3.2.1.2.2.2.1 q3.2.1.2.2.2.2.1 q3.2.1.2.2.2.2.2.1 q3.2.1.2.2.2.2.2.2.1 q3.2.1.2.2.2.2.2.2.2.1 q3.2.1.2.2.2.2.2.2.2.2.1 q3.2.1.2.2.2.2.2.2.2.2.2.1 q3.2.1.2.2.2.2.2.2.2.2.2.2.1 q3.2.1.2.2.2.2.2.2.2.2.2.2.2.1 q3.2.1.2.2.2.2.2.2.2.2.2.2.2.2.1 q3.2.1.2.2.2.2.2.2.2.2.2.2.2.2.2.1 q0.1.1.1 q0.1.1.2.1 q0.1.1.2.2.1 q0.1.1.2.2.2.1 q0.1.1.2.2.2.2.1.1 q0.1.1.2.2.2.2.1.2.1.1 q0.1.1.2.2.2.2.1.2.1.2.1 q0.1.1.2.2.2.2.1.2.1.2.2.1 q0.1.1.2.2.2.2.1.2.1.2.2.2.1 q0.1.1.2.2.2.2.1.2.1.2.2.2.2.1 q0.1.1.2.2.2.2.1.2.1.2.2.2.2.2.1 q0.1.1.2.2.2.2.1.2.1.2.2.2.2.2.2.1 q0.1.1.2.2.2.2.1.2.1.2.2.2.2.2.2.2 q0.1.1.2.2.2.2.1.2.2.1 q0.1.1.2.2.2.2.1.2.2.2 q0.1.1.2.2.2.2.2.1.1 q0.1.1.2.2.2.2.2.1.2.1.1 q0.1.1.2.2.2.2.2.1.2.1.2.1 q0.1.1.2.2.2.2.2.1.2.1.2.2.1 q0.1.1.2.2.2.2.2.1.2.1.2.2.2.1 q0.1.1.2.2.2.2.2.1.2.1.2.2.2.2.1 q0.1.1.2.2.2.2.2.1.2.1.2.2.2.2.2.1 q0.1.1.2.2.2.2.2.1.2.1.2.2.2.2.2.2.1 q0.1.1.2.2.2.2.2.1.2.1.2.2.2.2.2.2.2 q0.1.1.2.2.2.2.2.1.2.2.1 q0.1.1.2.2.2.2.2.1.2.2.2 q0.1.1.2.2.2.2.2.2.1 q0.1.1.2.2.2.2.2.2.2
  else
   (bif q0.1.2.1.1 == 10 then
    (S63 k (a, b, c, e, f, h, i, l, ((m, n), o), p, s)).bind fun q4 =>
    (S108 k q4.1.1 q0.1.2.1.2.1 q0.1.1.1).bind fun q5 =>
    (S87b k a b c e f h i l m n o p s t q5.1.1).bind fun q6 =>
    j64_12 k q6.2.1.1 q6.2.1.2.1 q6.2.1.2.2.1 q6.2.1.2.2.2.1 q6.2.1.2.2.2.2.1 q6.2.1.2.2.2.2.2.1 q6.2.1.2.2.2.2.2.2.1 q6.2.1.2.2.2.2.2.2.2.1 q6.2.1.2.2.2.2.2.2.2.2.1 q6.2.1.2.2.2.2.2.2.2.2.2.1 q6.2.1.2.2.2.2.2.2.2.2.2.2.1 q6.2.1.2.2.2.2.2.2.2.2.2.2.2.1 q6.2.1.2.2.2.2.2.2.2.2.2.2.2.2.1 q6.2.1.2.2.2.2.2.2.2.2.2.2.2.2.2.1 q0.1.1.1 q0.1.1.2.1 q0.1.1.2.2.1 q0.1.1.2.2.2.1 q0.1.1.2.2.2.2.1.1 q0.1.1.2.2.2.2.1.2.1.1 q0.1.1.2.2.2.2.1.2.1.2.1 q0.1.1.2.2.2.2.1.2.1.2.2.1 q0.1.1.2.2.2.2.1.2.1.2.2.2.1 q0.1.1.2.2.2.2.1.2.1.2.2.2.2.1 q0.1.1.2.2.2.2.1.2.1.2.2.2.2.2.1 q0.1.1.2.2.2.2.1.2.1.2.2.2.2.2.2.1 q0.1.1.2.2.2.2.1.2.1.2.2.2.2.2.2.2 q0.1.1.2.2.2.2.1.2.2.1 q0.1.1.2.2.2.2.1.2.2.2 q0.1.1.2.2.2.2.2.1.1 q0.1.1.2.2.2.2.2.1.2.1.1 q0.1.1.2.2.2.2.2.1.2.1.2.1 q0.1.1.2.2.2.2.2.1.2.1.2.2.1 q0.1.1.2.2.2.2.2.1.2.1.2.2.2.1 q0.1.1.2.2.2.2.2.1.2.1.2.2.2.2.1 q0.1.1.2.2.2.2.2.1.2.1.2.2.2.2.2.1 q0.1.1.2.2.2.2.2.1.2.1.2.2.2.2.2.2.1 q0.1.1.2.2.2.2.2.1.2.1.2.2.2.2.2.2.2 q0.1.1.2.2.2.2.2.1.2.2.1 q0.1.1.2.2.2.2.2.1.2.2.2 q0.1.1.2.2.2.2.2.2.1 q0.1.1.2.2.2.2.2.2.2
   else
    j64_12 k a b c e f h i l m n o p s t q0.1.1.1 q0.1.1.2.1 q0.1.1.2.2.1 q0.1.1.2.2.2.1 q0.1.1.2.2.2.2.1.1 q0.1.1.2.2.2.2.1.2.1.1 q0.1.1.2.2.2.2.1.2.1.2.1 q0.1.1.2.2.2.2.1.2.1.2.2.1 q0.1.1.2.2.2.2.1.2.1.2.2.2.1 q0.1.1.2.2.2.2.1.2.1.2.2.2.2.1 q0.1.1.2.2.2.2.1.2.1.2.2.2.2.2.1 q0.1.1.2.2.2.2.1.2.1.2.2.2.2.2.2.1 q0.1.1.2.2.2.2.1.2.1.2.2.2.2.2.2.2 q0.1.1.2.2.2.2.1.2.2.1 q0.1.1.2.2.2.2.1.2.2.2 q0.1.1.2.2.2.2.2.1.1 q0.1.1.2.2.2.2.2.1.2.1.1 q0.1.1.2.2.2.2.2.1.2.1.2.1 q0.1.1.2.2.2.2.2.1.2.1.2.2.1 q0.1.1.2.2.2.2.2.1.2.1.2.2.2.1 q0.1.1.2.2.2.2.2.1.2.1.2.2.2.2.1 q0.1.1.2.2.2.2.2.1.2.1.2.2.2.2.2.1 q0.1.1.2.2.2.2.2.1.2.1.2.2.2.2.2.2.1 q0.1.1.2.2.2.2.2.1.2.1.2.2.2.2.2.2.2 q0.1.1.2.2.2.2.2.1.2.2.1 q0.1.1.2.2.2.2.2.1.2.2.2 q0.1.1.2.2.2.2.2.2.1 q0.1.1.2.2.2.2.2.2.2)))
def F64 : Fn := ⟨[.mbox 83 [cI, cI, .own 27 Y1_3, .own 134 Y1_29, .cell .bool, .cell .bool, .cell .bool, .own 103 Y1_1, .own 3 (.int .i64), .own 4 .bool, .own 95 Y1_5, .own 3 (.int .i64), .own 4 .bool, .own 58 Y1_26], .mbox 103 [cI, cI, cI, cI, cI, cI, cI, cI, cI, cI, cI, cI, cI, .cell (.sl 189 Y1_8), .cell .bool, cI, cI, cI, cI, cI, cI, cI, cI, cI, .cell (.sl 189 Y1_8), .cell .bool, .cell Y1_16, .cell .bool]], [.val ⟨false, .bool, true⟩], fun k ((a, b, c, e, f, h, i, l, m, n, o, p, s, t, _), (u, v, w, y, z, A, B, C, D, G, H, I, J, K, M, N, O, P, Q, T, U, V, W, X, Z, a1, b1, c1, _), _) => S64 k a b c e f h i l m n o p s t u v w y z A B C D G H I J K M N O P Q T U V W X Z a1 b1 c1⟩
theorem ok64 : FnOK Tryz.prog 64 F64 := okF [(63, F63), (87, F87b), (106, F106), (107, F107), (108, F108), (109, F109)] [] (fun k => (.join 12 c64_J12 (fun d => j64_12 k d.1.1.1 d.1.1.2.1 d.1.1.2.2.1 d.1.1.2.2.2.1 d.1.1.2.2.2.2.1 d.1.1.2.2.2.2.2.1 d.1.1.2.2.2.2.2.2.1 d.1.1.2.2.2.2.2.2.2.1 d.1.1.2.2.2.2.2.2.2.2.1 d.1.1.2.2.2.2.2.2.2.2.2.1 d.1.1.2.2.2.2.2.2.2.2.2.2.1 d.1.1.2.2.2.2.2.2.2.2.2.2.2.1 d.1.1.2.2.2.2.2.2.2.2.2.2.2.2.1 d.1.1.2.2.2.2.2.2.2.2.2.2.2.2.2.1 d.1.2.1.1 d.1.2.1.2.1 d.1.2.1.2.2.1 d.1.2.1.2.2.2.1 d.1.2.1.2.2.2.2.1 d.1.2.1.2.2.2.2.2.1 d.1.2.1.2.2.2.2.2.2.1 d.1.2.1.2.2.2.2.2.2.2.1 d.1.2.1.2.2.2.2.2.2.2.2.1 d.1.2.1.2.2.2.2.2.2.2.2.2.1 d.1.2.1.2.2.2.2.2.2.2.2.2.2.1 d.1.2.1.2.2.2.2.2.2.2.2.2.2.2.1 d.1.2.1.2.2.2.2.2.2.2.2.2.2.2.2.1 d.1.2.1.2.2.2.2.2.2.2.2.2.2.2.2.2.1 d.1.2.1.2.2.2.2.2.2.2.2.2.2.2.2.2.2.1 d.1.2.1.2.2.2.2.2.2.2.2.2.2.2.2.2.2.2.1 d.1.2.1.2.2.2.2.2.2.2.2.2.2.2.2.2.2.2.2.1 d.1.2.1.2.2.2.2.2.2.2.2.2.2.2.2.2.2.2.2.2.1 d.1.2.1.2.2.2.2.2.2.2.2.2.2.2.2.2.2.2.2.2.2.1 d.1.2.1.2.2.2.2.2.2.2.2.2.2.2.2.2.2.2.2.2.2.2.1 d.1.2.1.2.2.2.2.2.2.2.2.2.2.2.2.2.2.2.2.2.2.2.2.1 d.1.2.1.2.2.2.2.2.2.2.2.2.2.2.2.2.2.2.2.2.2.2.2.2.1 d.1.2.1.2.2.2.2.2.2.2.2.2.2.2.2.2.2.2.2.2.2.2.2.2.2.1 d.1.2.1.2.2.2.2.2.2.2.2.2.2.2.2.2.2.2.2.2.2.2.2.2.2.2.1 d.1.2.1.2.2.2.2.2.2.2.2.2.2.2.2.2.2.2.2.2.2.2.2.2.2.2.2.1 d.1.2.1.2.2.2.2.2.2.2.2.2.2.2.2.2.2.2.2.2.2.2.2.2.2.2.2.2.1 d.1.2.1.2.2.2.2.2.2.2.2.2.2.2.2.2.2.2.2.2.2.2.2.2.2.2.2.2.2.1 d.1.2.1.2.2.2.2.2.2.2.2.2.2.2.2.2.2.2.2.2.2.2.2.2.2.2.2.2.2.2.1) .nil)) ⟨ok63, ok87b, ok106, ok107, ok108, ok109, trivial⟩ Tryz.func64 rfl
def S32 (k : Nat) (a b : Int) (c : List Y1_7) (e : List (PN Int 5)) (f h i : Bool) (l : List Y1_2) (m : List Int) (n : List Bool) (o : List Y1_6) (p : List Int) (s : List Bool) (t : List (PN Int 6)) : Option Y1_18 :=
 (S63 k (a, b, c, e, f, h, i, l, ((m, n), o), p, s)).bind fun q0 =>
 (S62 k l (c.length : Int) q0.1.1).bind fun q1 =>
 (bif h then
  some ((), (a, b, c, e, f, h, i, l, m, n, o, p, s, t, ()), ())
 else
  (bif !q1.1.2.1 then
   some ((), (a, b, c, e, f, h, i, l, m, n, o, p, s, t, ()), ())
  else
   ix l q1.1.1 <|
   (S57a k a b c e f h i l m n o p s t (0, 2, (rd l q1.1.1 (0, 0, 0, 0, (0, prep (α := Int) 8 0, [], false), (0, prep (α := Int) 8 0, [], false), [], false)).1, 0, 0, 0)).bind fun q2 =>
   (bif q2.2.1.2.2.2.2.2.2.1 then
    (S65 k q2.2.1.1 q2.2.1.2.1 q2.2.1.2.2.1 q2.2.1.2.2.2.1 q2.2.1.2.2.2.2.1 q2.2.1.2.2.2.2.2.1 q2.2.1.2.2.2.2.2.2.1 q2.2.1.2.2.2.2.2.2.2.1 q2.2.1.2.2.2.2.2.2.2.2.1 q2.2.1.2.2.2.2.2.2.2.2.2.1 q2.2.1.2.2.2.2.2.2.2.2.2.2.1 q2.2.1.2.2.2.2.2.2.2.2.2.2.2.1 q2.2.1.2.2.2.2.2.2.2.2.2.2.2.2.1 q2.2.1.2.2.2.2.2.2.2.2.2.2.2.2.2.1 (rd l q1.1.1 (0, 0, 0, 0, (0, prep (α := Int) 8 0, [], false), (0, prep (α := Int) 8 0, [], false), [], false)).1 (rd l q1.1.1 (0, 0, 0, 0, (0, prep (α := Int) 8 0, [], false), (0, prep (α := Int) 8 0, [], false), [], false)).2.1 (rd l q1.1.1 (0, 0, 0, 0, (0, prep (α := Int) 8 0, [], false), (0, prep (α := Int) 8 0, [], false), [], false)).2.2.1 (rd l q1.1.1 (0, 0, 0, 0, (0, prep (α := Int) 8 0, [], false), (0, prep (α := Int) 8 0, [], false), [], false)).2.2.2.1 (rd l q1.1.1 (0, 0, 0, 0, (0, prep (α := Int) 8 0, [], false), (0, prep (α := Int) 8 0, [], false), [], false)).2.2.2.2.1.1 (rd l q1.1.1 (0, 0, 0, 0, (0, prep (α := Int) 8 0, [], false), (0, prep (α := Int) 8 0, [], false), [], false)).2.2.2.2.1.2.1.1 (rd l q1.1.1 (0, 0, 0, 0, (0, prep (α := Int) 8 0, [], false), (0, prep (α := Int) 8 0, [], false), [], false)).2.2.2.2.1.2.1.2.1 (rd l q1.1.1 (0, 0, 0, 0, (0, prep (α := Int) 8 0, [], false), (0, prep (α := Int) 8 0, [], false), [], false)).2.2.2.2.1.2.1.2.2.1 (rd l q1.1.1 (0, 0, 0, 0, (0, prep (α := Int) 8 0, [], false), (0, prep (α := Int) 8 0, [], false), [], false)).2.2.2.2.1.2.1.2.2.2.1 (rd l q1.1.1 (0, 0, 0, 0, (0, prep (α := Int) 8 0, [], false), (0, prep (α := Int) 8 0, [], false), [], false)).2.2.2.2.1.2.1.2.2.2.2.1 (rd l q1.1.1 (0, 0, 0, 0, (0, prep (α := Int) 8 0, [], false), (0, prep (α := Int) 8 0, [], false), [], false)).2.2.2.2.1.2.1.2.2.2.2.2.1 (rd l q1.1.1 (0, 0, 0, 0, (0, prep (α := Int) 8 0, [], false), (0, prep (α := Int) 8 0, [], false), [], false)).2.2.2.2.1.2.1.2.2.2.2.2.2.1 (rd l q1.1.1 (0, 0, 0, 0, (0, prep (α := Int) 8 0, [], false), (0, prep (α := Int) 8 0, [], false), [], false)).2.2.2.2.1.2.1.2.2.2.2.2.2.2 (rd l q1.1.1 (0, 0, 0, 0, (0, prep (α := Int) 8 0, [], false), (0, prep (α := Int) 8 0, [], false), [], false)).2.2.2.2.1.2.2.1 (rd l q1.1.1 (0, 0, 0, 0, (0, prep (α := Int) 8 0, [], false), (0, prep (α := Int) 8 0, [], false), [], false)).2.2.2.2.1.2.2.2 (rd l q1.1.1 (0, 0, 0, 0, (0, prep (α := Int) 8 0, [], false), (0, prep (α := Int) 8 0, [], false), [], false)).2.2.2.2.2.1.1 (rd l q1.1.1 (0, 0, 0, 0, (0, prep (α := Int) 8 0, [], false), (0, prep (α := Int) 8 0, [], false), [], false)).2.2.2.2.2.1.2.1.1 (rd l q1.1.1 (0, 0, 0, 0, (0, prep (α := Int) 8 0, [], false), (0, prep (α := Int) 8 0, [], false), [], false)).2.2.2.2.2.1.2.1.2.1 (rd l q1.1.1 (0, 0, 0, 0, (0, prep (α := Int) 8 0, [], false), (0, prep (α := Int) 8 0, [], false), [], false)).2.2.2.2.2.1.2.1.2.2.1 (rd l q1.1.1 (0, 0, 0, 0, (0, prep (α := Int) 8 0, [], false), (0, prep (α := Int) 8 0, [], false), [], false)).2.2.2.2.2.1.2.1.2.2.2.1 (rd l q1.1.1 (0, 0, 0, 0, (0, prep (α := Int) 8 0, [], false), (0, prep (α := Int) 8 0, [], false), [], false)).2.2.2.2.2.1.2.1.2.2.2.2.1 (rd l q1.1.1 (0, 0, 0, 0, (0, prep (α := Int) 8 0, [], false), (0, prep (α := Int) 8 0, [], false), [], false)).2.2.2.2.2.1.2.1.2.2.2.2.2.1 (rd l q1.1.1 (0, 0, 0, 0, (0, prep (α := Int) 8 0, [], false), (0, prep (α := Int) 8 0, [], false), [], false)).2.2.2.2.2.1.2.1.2.2.2.2.2.2.1 (rd l q1.1.1 (0, 0, 0, 0, (0, prep (α := Int) 8 0, [], false), (0, prep (α := Int) 8 0, [], false), [], false)).2.2.2.2.2.1.2.1.2.2.2.2.2.2.2 (rd l q1.1.1 (0, 0, 0, 0, (0, prep (α := Int) 8 0, [], false), (0, prep (α := Int) 8 0, [], false), [], false)).2.2.2.2.2.1.2.2.1 (rd l q1.1.1 (0, 0, 0, 0, (0, prep (α := Int) 8 0, [], false), (0, prep (α := Int) 8 0, [], false), [], false)).2.2.2.2.2.1.2.2.2 (rd l q1.1.1 (0, 0, 0, 0, (0, prep (α := Int) 8 0, [], false), (0, prep (α := Int) 8 0, [], false), [], false)).2.2.2.2.2.2.1 (rd l q1.1.1 (0, 0, 0, 0, (0, prep (α := Int) 8 0, [], false), (0, prep (α := Int) 8 0, [], false), [], false)).2.2.2.2.2.2.2).bind fun q3 =>
    ix q3.2.1.2.2.2.2.2.2.2.1 q1.1.1 <|
    let r4 : List Y1_2 := upd q3.2.1.2.2.2.2.2.2.2.1 q1.1.1 (q3.2.2.1.1, q3.2.2.1.2.1, q3.2.2.1.2.2.1, q3.2.2.1.2.2.2.1, (q3.2.2.1.2.2.2.2.1, (q3.2.2.1.2.2.2.2.2.1, q3.2.2.1.2.2.2.2.2.2.1, q3.2.2.1.2.2.2.2.2.2.2.1, q3.2.2.1.2.2.2.2.2.2.2.2.1, q3.2.2.1.2.2.2.2.2.2.2.2.2.1, q3.2.2.1.2.2.2.2.2.2.2.2.2.2.1, q3.2.2.1.2.2.2.2.2.2.2.2.2.2.2.1, q3.2.2.1.2.2.2.2.2.2.2.2.2.2.2.2.1), q3.2.2.1.2.2.2.2.2.2.2.2.2.2.2.2.2.1, q3.2.2.1.2.2.2.2.2.2.2.2.2.2.2.2.2.2.1), (q3.2.2.1.2.2.2.2.2.2.2.2.2.2.2.2.2.2.2.1, (q3.2.2.1.2.2.2.2.2.2.2.2.2.2.2.2.2.2.2.2.1, q3.2.2.1.2.2.2.2.2.2.2.2.2.2.2.2.2.2.2.2.2.1, q3.2.2.1.2.2.2.2.2.2.2.2.2.2.2.2.2.2.2.2.2.2.1, q3.2.2.1.2.2.2.2.2.2.2.2.2.2.2.2.2.2.2.2.2.2.2.1, q3.2.2.1.2.2.2.2.2.2.2.2.2.2.2.2.2.2.2.2.2.2.2.2.1, q3.2.2.1.2.2.2.2.2.2.2.2.2.2.2.2.2.2.2.2.2.2.2.2.2.1, q3.2.2.1.2.2.2.2.2.2.2.2.2.2.2.2.2.2.2.2.2.2.2.2.2.2.1, q3.2.2.1.2.2.2.2.2.2.2.2.2.2.2.2.2.2.2.2.2.2.2.2.2.2.2.1), q3.2.2.1.2.2.2.2.2.2.2.2.2.2.2.2.2.2.2.2.2.2.2.2.2.2.2.2.1, q3.2.2.1.2.2.2.2.2.2.2.2.2.2.2.2.2.2.2.2.2.2.2.2.2.2.2.2.2.1), q3.2.2.1.2.2.2.2.2.2.2.2.2.2.2.2.2.2.2.2.2.2.2.2.2.2.2.2.2.2.1, q3.2.2.1.2.2.2.2.2.2.2.2.2.2.2.2.2.2.2.2.2.2.2.2.2.2.2.2.2.2.2.1)
    (bif q3.1.1 then
     (S36 k r4 q1.1.1 (IntKind.i64.wrap (q1.1.1 + 1))).bind fun q5 =>
     some ((), (q3.2.1.1, q3.2.1.2.1, q3.2.1.2.2.1, q3.2.1.2.2.2.1, q3.2.1.2.2.2.2.1, q3.2.1.2.2.2.2.2.1, q3.2.1.2.2.2.2.2.2.1, q5.1.1, q3.2.1.2.2.2.2.2.2.2.2.1, q3.2.1.2.2.2.2.2.2.2.2.2.1, q3.2.1.2.2.2.2.2.2.2.2.2.2.1, q3.2.1.2.2.2.2.2.2.2.2.2.2.2.1, q3.2.1.2.2.2.2.2.2.2.2.2.2.2.2.1, q3.2.1.2.2.2.2.2.2.2.2.2.2.2.2.2.1, ()), ())
    else
     some ((), (q3.2.1.1, q3.2.1.2.1, q3.2.1.2.2.1, q3.2.1.2.2.2.1, q3.2.1.2.2.2.2.1, q3.2.1.2.2.2.2.2.1, q3.2.1.2.2.2.2.2.2.1, r4, q3.2.1.2.2.2.2.2.2.2.2.1, q3.2.1.2.2.2.2.2.2.2.2.2.1, q3.2.1.2.2.2.2.2.2.2.2.2.2.1, q3.2.1.2.2.2.2.2.2.2.2.2.2.2.1, q3.2.1.2.2.2.2.2.2.2.2.2.2.2.2.1, q3.2.1.2.2.2.2.2.2.2.2.2.2.2.2.2.1, ()), ()))
   else
    (S64 k q2.2.1.1 q2.2.1.2.1 q2.2.1.2.2.1 q2.2.1.2.2.2.1 q2.2.1.2.2.2.2.1 q2.2.1.2.2.2.2.2.1 q2.2.1.2.2.2.2.2.2.1 q2.2.1.2.2.2.2.2.2.2.1 q2.2.1.2.2.2.2.2.2.2.2.1 q2.2.1.2.2.2.2.2.2.2.2.2.1 q2.2.1.2.2.2.2.2.2.2.2.2.2.1 q2.2.1.2.2.2.2.2.2.2.2.2.2.2.1 q2.2.1.2.2.2.2.2.2.2.2.2.2.2.2.1 q2.2.1.2.2.2.2.2.2.2.2.2.2.2.2.2.1 (rd l q1.1.1 (0, 0, 0, 0, (0, prep (α := Int) 8 0, [], false), (0, prep (α := Int) 8 0, [], false), [], false)).1 (rd l q1.1.1 (0, 0, 0, 0, (0, prep (α := Int) 8 0, [], false), (0, prep (α := Int) 8 0, [], false), [], false)).2.1 (rd l q1.1.1 (0, 0, 0, 0, (0, prep (α := Int) 8 0, [], false), (0, prep (α := Int) 8 0, [], false), [], false)).2.2.1 (rd l q1.1.1 (0, 0, 0, 0, (0, prep (α := Int) 8 0, [], false), (0, prep (α := Int) 8 0, [], false), [], false)).2.2.2.1 (rd l q1.1.1 (0, 0, 0, 0, (0, prep (α := Int) 8 0, [], false), (0, prep (α := Int) 8 0, [], false), [], false)).2.2.2.2.1.1 (rd l q1.1.1 (0, 0, 0, 0, (0, prep (α := Int) 8 0, [], false), (0, prep (α := Int) 8 0, [], false), [], false)).2.2.2.2.1.2.1.1 (rd l q1.1.1 (0, 0, 0, 0, (0, prep (α := Int) 8 0, [], false), (0, prep (α := Int) 8 0, [], false), [], false)).2.2.2.2.1.2.1.2.1 (rd l q1.1.1 (0, 0, 0, 0, (0, prep (α := Int) 8 0, [], false), (0, prep (α := Int) 8 0, [], false), [], false)).2.2.2.2.1.2.1.2.2.1 (rd l q1.1.1 (0, 0, 0, 0, (0, prep (α := Int) 8 0, [], false), (0, prep (α := Int) 8 0, [], false), [], false)).2.2.2.2.1.2.1.2.2.2.1 (rd l q1.1.1 (0, 0, 0, 0, (0, prep (α := Int) 8 0, [], false), (0, prep (α := Int) 8 0, [], false), [], false)).2.2.2.2.1.2.1.2.2.2.2.1 (rd l q1.1.1 (0, 0, 0, 0, (0, prep (α := Int) 8 0, [], false), (0, prep (α := Int) 8 0, [], false), [], false)).2.2.2.2.1.2.1.2.2.2.2.2.1 (rd l q1.1.1 (0, 0, 0, 0, (0, prep (α := Int) 8 0, [], false), (0, prep (α := Int) 8 0, [], false), [], false)).2.2.2.2.1.2.1.2.2.2.2.2.2.1 (rd l q1.1.1 (0, 0, 0, 0, (0, prep (α := Int) 8 0, [], false), (0, prep (α := Int) 8 0, [], false), [], false)).2.2.2.2.1.2.1.2.2.2.2.2.2.2 (rd l q1.1.1 (0, 0, 0, 0, (0, prep (α := Int) 8 0, [], false), (0, prep (α := Int) 8 0, [], false), [], false)).2.2.2.2.1.2.2.1 (rd l q1.1.1 (0, 0, 0, 0, (0, prep (α := Int) 8 0, [], false), (0, prep (α := Int) 8 0, [], false), [], false)).2.2.2.2.1.2.2.2 (rd l q1.1.1 (0, 0, 0, 0, (0, prep (α := Int) 8 0, [], false), (0, prep (α := Int) 8 0, [], false), [], false)).2.2.2.2.2.1.1 (rd l q1.1.1 (0, 0, 0, 0, (0, prep (α := Int) 8 0, [], false), (0, prep (α := Int) 8 0, [], false), [], false)).2.2.2.2.2.1.2.1.1 (rd l q1.1.1 (0, 0, 0, 0, (0, prep (α := Int) 8 0, [], false), (0, prep (α := Int) 8 0, [], false), [], false)).2.2.2.2.2.1.2.1.2.1 (rd l q1.1.1 (0, 0, 0, 0, (0, prep (α := Int) 8 0, [], false), (0, prep (α := Int) 8 0, [], false), [], false)).2.2.2.2.2.1.2.1.2.2.1 (rd l q1.1.1 (0, 0, 0, 0, (0, prep (α := Int) 8 0, [], false), (0, prep (α := Int) 8 0, [], false), [], false)).2.2.2.2.2.1.2.1.2.2.2.1 (rd l q1.1.1 (0, 0, 0, 0, (0, prep (α := Int) 8 0, [], false), (0, prep (α := Int) 8 0, [], false), [], false)).2.2.2.2.2.1.2.1.2.2.2.2.1 (rd l q1.1.1 (0, 0, 0, 0, (0, prep (α := Int) 8 0, [], false), (0, prep (α := Int) 8 0, [], false), [], false)).2.2.2.2.2.1.2.1.2.2.2.2.2.1 (rd l q1.1.1 (0, 0, 0, 0, (0, prep (α := Int) 8 0, [], false), (0, prep (α := Int) 8 0, [], false), [], false)).2.2.2.2.2.1.2.1.2.2.2.2.2.2.1 (rd l q1.1.1 (0, 0, 0, 0, (0, prep (α := Int) 8 0, [], false), (0, prep (α := Int) 8 0, [], false), [], false)).2.2.2.2.2.1.2.1.2.2.2.2.2.2.2 (rd l q1.1.1 (0, 0, 0, 0, (0, prep (α := Int) 8 0, [], false), (0, prep (α := Int) 8 0, [], false), [], false)).2.2.2.2.2.1.2.2.1 (rd l q1.1.1 (0, 0, 0, 0, (0, prep (α := Int) 8 0, [], false), (0, prep (α := Int) 8 0, [], false), [], false)).2.2.2.2.2.1.2.2.2 (rd l q1.1.1 (0, 0, 0, 0, (0, prep (α := Int) 8 0, [], false), (0, prep (α := Int) 8 0, [], false), [], false)).2.2.2.2.2.2.1 (rd l q1.1.1 (0, 0, 0, 0, (0, prep (α := Int) 8 0, [], false), (0, prep (α := Int) 8 0, [], false), [], false)).2.2.2.2.2.2.2).bind fun q6 =>
    ix q6.2.1.2.2.2.2.2.2.2.1 q1.1.1 <|
    let r7 : List Y1_2 := upd q6.2.1.2.2.2.2.2.2.2.1 q1.1.1 (q6.2.2.1.1, q6.2.2.1.2.1, q6.2.2.1.2.2.1, q6.2.2.1.2.2.2.1, (q6.2.2.1.2.2.2.2.1, (q6.2.2.1.2.2.2.2.2.1, q6.2.2.1.2.2.2.2.2.2.1, q6.2.2.1.2.2.2.2.2.2.2.1, q6.2.2.1.2.2.2.2.2.2.2.2.1, q6.2.2.1.2.2.2.2.2.2.2.2.2.1, q6.2.2.1.2.2.2.2.2.2.2.2.2.2.1, q6.2.2.1.2.2.2.2.2.2.2.2.2.2.2.1, q6.2.2.1.2.2.2.2.2.2.2.2.2.2.2.2.1), q6.2.2.1.2.2.2.2.2.2.2.2.2.2.2.2.2.1, q6.2.2.1.2.2.2.2.2.2.2.2.2.2.2.2.2.2.1), (q6.2.2.1.2.2.2.2.2.2.2.2.2.2.2.2.2.2.2.1, (q6.2.2.1.2.2.2.2.2.2.2.2.2.2.2.2.2.2.2.2.1, q6.2.2.1.2.2.2.2.2.2.2.2.2.2.2.2.2.2.2.2.2.1, q6.2.2.1.2.2.2.2.2.2.2.2.2.2.2.2.2.2.2.2.2.2.1, q6.2.2.1.2.2.2.2.2.2.2.2.2.2.2.2.2.2.2.2.2.2.2.1, q6.2.2.1.2.2.2.2.2.2.2.2.2.2.2.2.2.2.2.2.2.2.2.2.1, q6.2.2.1.2.2.2.2.2.2.2.2.2.2.2.2.2.2.2.2.2.2.2.2.2.1, q6.2.2.1.2.2.2.2.2.2.2.2.2.2.2.2.2.2.2.2.2.2.2.2.2.2.1, q6.2.2.1.2.2.2.2.2.2.2.2.2.2.2.2.2.2.2.2.2.2.2.2.2.2.2.1), q6.2.2.1.2.2.2.2.2.2.2.2.2.2.2.2.2.2.2.2.2.2.2.2.2.2.2.2.1, q6.2.2.1.2.2.2.2.2.2.2.2.2.2.2.2.2.2.2.2.2.2.2.2.2.2.2.2.2.1), q6.2.2.1.2.2.2.2.2.2.2.2.2.2.2.2.2.2.2.2.2.2.2.2.2.2.2.2.2.2.1, q6.2.2.1.2.2.2.2.2.2.2.2.2.2.2.2.2.2.2.2.2.2.2.2.2.2.2.2.2.2.2.1)
    (bif q6.1.1 then
     (S36 k r7 q1.1.1 (IntKind.i64.wrap (q1.1.1 + 1))).bind fun q8 =>
     some ((), (q6.2.1.1, q6.2.1.2.1, q6.2.1.2.2.1, q6.2.1.2.2.2.1, q6.2.1.2.2.2.2.1, q6.2.1.2.2.2.2.2.1, q6.2.1.2.2.2.2.2.2.1, q8.1.1, q6.2.1.2.2.2.2.2.2.2.2.1, q6.2.1.2.2.2.2.2.2.2.2.2.1, q6.2.1.2.2.2.2.2.2.2.2.2.2.1, q6.2.1.2.2.2.2.2.2.2.2.2.2.2.1, q6.2.1.2.2.2.2.2.2.2.2.2.2.2.2.1, q6.2.1.2.2.2.2.2.2.2.2.2.2.2.2.2.1, ()), ())
    else
     some ((), (q6.2.1.1, q6.2.1.2.1, q6.2.1.2.2.1, q6.2.1.2.2.2.1, q6.2.1.2.2.2.2.1, q6.2.1.2.2.2.2.2.1, q6.2.1.2.2.2.2.2.2.1, r7, q6.2.1.2.2.2.2.2.2.2.2.1, q6.2.1.2.2.2.2.2.2.2.2.2.1, q6.2.1.2.2.2.2.2.2.2.2.2.2.1, q6.2.1.2.2.2.2.2.2.2.2.2.2.2.1, q6.2.1.2.2.2.2.2.2.2.2.2.2.2.2.1, q6.2.1.2.2.2.2.2.2.2.2.2.2.2.2.2.1, ()), ())))))
def F32 : Fn := ⟨[.mbox 83 [cI, cI, .own 27 Y1_3, .own 134 Y1_29, .cell .bool, .cell .bool, .cell .bool, .own 103 Y1_1, .own 3 (.int .i64), .own 4 .bool, .own 95 Y1_5, .own 3 (.int .i64), .own 4 .bool, .own 58 Y1_26]], [], fun k ((a, b, c, e, f, h, i, l, m, n, o, p, s, t, _), _) => S32 k a b c e f h i l m n o p s t⟩
theorem ok32 : FnOK Tryz.prog 32 F32 := okF [(36, F36), (57, F57a), (62, F62), (63, F63), (64, F64), (65, F65)] [] (fun k => .nil) ⟨ok36, ok57a, ok62, ok63, ok64, ok65, trivial⟩ Tryz.func32 rfl
def S12 (k : Nat) (a : Y1_33) : Option (((Int × Int × (List Y1_7) × (List (PN Int 5)) × Bool × Bool × Bool × (List Y1_2) × (Y1_44 × List Y1_6) × (List Int) × List Bool) × Y1_56 × Unit) × Unit) :=
 (S28 k a).bind fun q0 =>
 (bif q0.1.1.2.2.2.2.1 then
  (bif !q0.1.1.2.2.2.2.2.1 then
   (S29 k q0.1.1.1 q0.1.1.2.1 q0.1.1.2.2.1 q0.1.1.2.2.2.1 q0.1.1.2.2.2.2.1 q0.1.1.2.2.2.2.2.1 q0.1.1.2.2.2.2.2.2.1 q0.1.1.2.2.2.2.2.2.2.1 q0.1.1.2.2.2.2.2.2.2.2.1.1.1 q0.1.1.2.2.2.2.2.2.2.2.1.1.2 q0.1.1.2.2.2.2.2.2.2.2.1.2 q0.1.1.2.2.2.2.2.2.2.2.2.1 q0.1.1.2.2.2.2.2.2.2.2.2.2 ([] : List (PN Int 6))).bind fun q1 =>
   (S30 k q1.2.1.1 q1.2.1.2.1 q1.2.1.2.2.1 q1.2.1.2.2.2.1 q1.2.1.2.2.2.2.1 q1.2.1.2.2.2.2.2.1 q1.2.1.2.2.2.2.2.2.1 q1.2.1.2.2.2.2.2.2.2.1 q1.2.1.2.2.2.2.2.2.2.2.1 q1.2.1.2.2.2.2.2.2.2.2.2.1 q1.2.1.2.2.2.2.2.2.2.2.2.2.1 q1.2.1.2.2.2.2.2.2.2.2.2.2.2.1 q1.2.1.2.2.2.2.2.2.2.2.2.2.2.2.1 q1.2.1.2.2.2.2.2.2.2.2.2.2.2.2.2.1).bind fun q2 =>
   (S31 k q2.2.1.1 q2.2.1.2.1 q2.2.1.2.2.1 q2.2.1.2.2.2.1 q2.2.1.2.2.2.2.1 q2.2.1.2.2.2.2.2.1 q2.2.1.2.2.2.2.2.2.1 q2.2.1.2.2.2.2.2.2.2.1 q2.2.1.2.2.2.2.2.2.2.2.1 q2.2.1.2.2.2.2.2.2.2.2.2.1 q2.2.1.2.2.2.2.2.2.2.2.2.2.1 q2.2.1.2.2.2.2.2.2.2.2.2.2.2.1 q2.2.1.2.2.2.2.2.2.2.2.2.2.2.2.1 q2.2.1.2.2.2.2.2.2.2.2.2.2.2.2.2.1).bind fun q3 =>
   (S32 k q3.2.1.1 q3.2.1.2.1 q3.2.1.2.2.1 q3.2.1.2.2.2.1 q3.2.1.2.2.2.2.1 q3.2.1.2.2.2.2.2.1 q3.2.1.2.2.2.2.2.2.1 q3.2.1.2.2.2.2.2.2.2.1 q3.2.1.2.2.2.2.2.2.2.2.1 q3.2.1.2.2.2.2.2.2.2.2.2.1 q3.2.1.2.2.2.2.2.2.2.2.2.2.1 q3.2.1.2.2.2.2.2.2.2.2.2.2.2.1 q3.2.1.2.2.2.2.2.2.2.2.2.2.2.2.1 q3.2.1.2.2.2.2.2.2.2.2.2.2.2.2.2.1).bind fun q4 =>
   some (((IntKind.i64.wrap (q4.2.1.1 + 1), q4.2.1.2.1, q4.2.1.2.2.1, q4.2.1.2.2.2.1, q4.2.1.2.2.2.2.1, q4.2.1.2.2.2.2.2.1, false, q4.2.1.2.2.2.2.2.2.2.1, ((q4.2.1.2.2.2.2.2.2.2.2.1, q4.2.1.2.2.2.2.2.2.2.2.2.1), q4.2.1.2.2.2.2.2.2.2.2.2.2.1), q4.2.1.2.2.2.2.2.2.2.2.2.2.2.1, q4.2.1.2.2.2.2.2.2.2.2.2.2.2.2.1), q4.2.1.2.2.2.2.2.2.2.2.2.2.2.2.2.1, ()), ())
  else
   some (((IntKind.i64.wrap (q0.1.1.1 + 1), q0.1.1.2.1, q0.1.1.2.2.1, q0.1.1.2.2.2.1, q0.1.1.2.2.2.2.1, q0.1.1.2.2.2.2.2.1, false, q0.1.1.2.2.2.2.2.2.2), ([] : List (PN Int 6)), ()), ()))
 else
  some (((IntKind.i64.wrap (q0.1.1.1 + 1), q0.1.1.2.1, q0.1.1.2.2.1, q0.1.1.2.2.2.1, q0.1.1.2.2.2.2.1, q0.1.1.2.2.2.2.2.1, false, q0.1.1.2.2.2.2.2.2.2), ([] : List (PN Int 6)), ()), ()))
def F12 : Fn := ⟨[.val ⟨true, Y1_13, false⟩], [.val ⟨true, Y1_13, true⟩, .val ⟨false, (.sl 58 Y1_26), true⟩], fun k x => S12 k x.1⟩
theorem ok12 : FnOK Tryz.prog 12 F12 := okF [(28, F28), (29, F29), (30, F30), (31, F31), (32, F32)] [(8, 2)] (fun k => .nil) ⟨ok28, ok29, ok30, ok31, ok32, trivial⟩ Tryz.func12 rfl
def S13 (k : Nat) (a : Y1_44 × List Y1_6) (b : Int) : Option (((Y1_44 × List Y1_6) × Bool × Unit) × Unit) :=
 (S33 k a).bind fun q0 =>
 (S34 k a b).bind fun q1 =>
 (bif !q1.1.1 then
  some ((q0.1.1, false, ()), ())
 else
  ix q0.1.1.2 b <|
  ix q0.1.1.2 b <|
  some (((q0.1.1.1, upd q0.1.1.2 b ((rd q0.1.1.2 b (0, (0, 0), (0, 0), ([], []), (0, []), 0)).1, (rd q0.1.1.2 b (0, (0, 0), (0, 0), ([], []), (0, []), 0)).2.1, (rd q0.1.1.2 b (0, (0, 0), (0, 0), ([], []), (0, []), 0)).2.2.1, (rd q0.1.1.2 b (0, (0, 0), (0, 0), ([], []), (0, []), 0)).2.2.2.1, (rd q0.1.1.2 b (0, (0, 0), (0, 0), ([], []), (0, []), 0)).2.2.2.2.1, inot .u32 (rd q0.1.1.2 b (0, (0, 0), (0, 0), ([], []), (0, []), 0)).2.2.2.2.2)), true, ()), ()))
def F13 : Fn := ⟨[.val ⟨true, Y1_36, false⟩, .val ⟨false, (.int .i64), false⟩], [.val ⟨true, Y1_36, true⟩, .val ⟨false, .bool, true⟩], fun k x => S13 k x.1 x.2.1⟩
theorem ok13 : FnOK Tryz.prog 13 F13 := okF [(33, F33), (34, F34)] [] (fun k => .nil) ⟨ok33, ok34, trivial⟩ Tryz.func13 rfl
abbrev c9_L21 : Cut := ⟨[2, 4, 6, 7, 8, 65, 66], [.box 51 [cI, cI, .cell (.sl 27 Y1_3), .cell (.sl 134 Y1_29), .cell .bool, .cell .bool, .cell .bool, .cell Y1_49, .cell Y1_16, .cell Y1_42, .cell (.sl 95 Y1_5), .cell Y1_16, .cell Y1_42], .box 51 [cI, cI, .nil, .nil, .cell .bool, .cell .bool, .cell .bool, .nil, .nil, .nil, .nil, .nil, .nil], .box 60 [cI, cI, cI, cI], .box 60 [cI, cI, cI, cI], .own 58 Y1_26, cI, cI], [], 87, []⟩
def l9_21 (k : Nat) (g21 : Int → Int → (List Y1_7) → (List (PN Int 5)) → Bool → Bool → Bool → (List Y1_2) → (List Int) → (List Bool) → (List Y1_6) → (List Int) → (List Bool) → Int → Int → Bool → Bool → Bool → Int → Int → Int → Int → Int → Int → Int → Int → Y1_56 → Int → Int → Option (Y1_11 × Unit)) (a b : Int) (c : List Y1_7) (e : List (PN Int 5)) (f h i : Bool) (l : List Y1_2) (m : List Int) (n : List Bool) (o : List Y1_6) (p : List Int) (s : List Bool) (t u : Int) (v w y : Bool) (z A B C D G H I : Int) (J : List (PN Int 6)) (K M : Int) : Option (Y1_11 × Unit) :=
 (bif decide (M < K) then
  (S12 k (a, b, c, e, f, h, i, l, ((m, n), o), p, s)).bind fun q8 =>
  ap J q8.1.2.1 48 fun r9 =>
  g21 q8.1.1.1 q8.1.1.2.1 q8.1.1.2.2.1 q8.1.1.2.2.2.1 q8.1.1.2.2.2.2.1 q8.1.1.2.2.2.2.2.1 q8.1.1.2.2.2.2.2.2.1 q8.1.1.2.2.2.2.2.2.2.1 q8.1.1.2.2.2.2.2.2.2.2.1.1.1 q8.1.1.2.2.2.2.2.2.2.2.1.1.2 q8.1.1.2.2.2.2.2.2.2.2.1.2 q8.1.1.2.2.2.2.2.2.2.2.2.1 q8.1.1.2.2.2.2.2.2.2.2.2.2 t u v w y z A B C D G H I r9 K (IntKind.i64.wrap (M + 1))
 else
  (S14 k (a, b, c, e, f, h, i, l, ((m, n), o), p, s) (-1) 0).bind fun q10 =>
  some ((q10.1.1, J, (D, (G, H), I), ()), ()))
def b9_21 (k : Nat) (g : ((Unit) × Y1_41 × Y1_55 × Y1_48 × Y1_48 × Y1_56 × Int × Int × Unit) → Option (Y1_11 × Unit)) : ((Unit) × Y1_41 × Y1_55 × Y1_48 × Y1_48 × Y1_56 × Int × Int × Unit) → Option (Y1_11 × Unit) := fun (_, (a, b, c, e, f, h, i, l, m, n, o, p, s, _), (t, u, _, _, v, w, y, _), (z, A, B, C, _), (D, G, H, I, _), J, K, M, _) => l9_21 k (fun a b c e f h i l m n o p s t u v w y z A B C D G H I J K M => g ((), (a, b, c, e, f, h, i, l, m, n, o, p, s, ()), (t, u, (), (), v, w, y, (), (), (), (), (), (), ()), (z, A, B, C, ()), (D, G, H, I, ()), J, K, M, ())) a b c e f h i l m n o p s t u v w y z A B C D G H I J K M
def L9_21 (k a : Nat) (b c : Int) (e : List Y1_7) (f : List (PN Int 5)) (h i l : Bool) (m : List Y1_2) (n : List Int) (o : List Bool) (p : List Y1_6) (s : List Int) (t : List Bool) (u v : Int) (w y z : Bool) (A B C D G H I J : Int) (K : List (PN Int 6)) (M N : Int) : Option (Y1_11 × Unit) := iter (R := Y1_11 × Unit) c9_L21 (b9_21 k) a ((), (b, c, e, f, h, i, l, m, n, o, p, s, t, ()), (u, v, (), (), w, y, z, (), (), (), (), (), (), ()), (A, B, C, D, ()), (G, H, I, J, ()), K, M, N, ())
theorem L9_21_s (k a b c e f h i l m n o p s t u v w y z A B C D G H I J K M N) : L9_21 k (a + 1) b c e f h i l m n o p s t u v w y z A B C D G H I J K M N = l9_21 k (L9_21 k a) b c e f h i l m n o p s t u v w y z A B C D G H I J K M N := iter_succ _ _ _ _
def S9 (k : Nat) (a : Y1_33) (b : Int × (Int × Y1_7 × (Int × Int) × Int × Int × Int) × Int × Int) : Option (Y1_11 × Unit) :=
 (bif b.1 == 1 then
  (S11 k a b.2.1).bind fun q0 =>
  some (q0.1, ())
 else
  (bif b.1 == 2 then
   (S12 k a).bind fun q1 =>
   some ((q1.1.1, q1.1.2.1, (0, (0, 0), 0), ()), ())
  else
   (bif b.1 == 3 then
    (S14 k (a.1, a.2.1, a.2.2.1, a.2.2.2.1, a.2.2.2.2.1, a.2.2.2.2.2.1, true, a.2.2.2.2.2.2.2) (-1) 0).bind fun q2 =>
    some ((q2.1.1, ([] : List (PN Int 6)), (0, (0, 0), 0), ()), ())
   else
    (bif b.1 == 4 then
     (S13 k a.2.2.2.2.2.2.2.2.1 b.2.2.1).bind fun q3 =>
     (bif !q3.1.2.1 then
      (S14 k a (-1) 0).bind fun q4 =>
      some ((q4.1.1, ([] : List (PN Int 6)), (3, (0, 0), 0), ()), ())
     else
      (S14 k (a.1, a.2.1, a.2.2.1, a.2.2.2.1, a.2.2.2.2.1, a.2.2.2.2.2.1, a.2.2.2.2.2.2.1, a.2.2.2.2.2.2.2.1, q3.1.1, a.2.2.2.2.2.2.2.2.2) (-1) 0).bind fun q5 =>
      some ((q5.1.1, ([] : List (PN Int 6)), (0, (0, 0), 0), ()), ()))
    else
     (bif b.1 == 5 then
      (bif decide (b.2.2.2 < 0) then
       (S14 k a (-1) 0).bind fun q6 =>
       some ((q6.1.1, ([] : List (PN Int 6)), (1, (0, 0), 0), ()), ())
      else
       (bif decide (b.2.2.2 > 10000) then
        (S14 k a (-1) 0).bind fun q7 =>
        some ((q7.1.1, ([] : List (PN Int 6)), (1, (0, 0), 0), ()), ())
       else
        L9_21 k k a.1 a.2.1 a.2.2.1 a.2.2.2.1 a.2.2.2.2.1 a.2.2.2.2.2.1 a.2.2.2.2.2.2.1 a.2.2.2.2.2.2.2.1 a.2.2.2.2.2.2.2.2.1.1.1 a.2.2.2.2.2.2.2.2.1.1.2 a.2.2.2.2.2.2.2.2.1.2 a.2.2.2.2.2.2.2.2.2.1 a.2.2.2.2.2.2.2.2.2.2 0 0 false false false 0 0 0 0 0 0 0 0 ([] : List (PN Int 6)) b.2.2.2 0))
     else
      (S14 k a (-1) 0).bind fun q11 =>
      some ((q11.1.1, ([] : List (PN Int 6)), (1, (0, 0), 0), ()), ()))))))
def F9 : Fn := ⟨[.val ⟨true, Y1_13, false⟩, .val ⟨true, (.pair (.int .i64) (.pair (.pair (.int .i64) (.pair Y1_3 (.pair Y1_15 (.pair (.int .i64) Y1_24)))) Y1_15)), false⟩], [.val ⟨true, Y1_13, true⟩, .val ⟨false, (.sl 58 Y1_26), true⟩, .val ⟨true, (.pair (.int .i64) (.pair Y1_15 (.int .i64))), true⟩], fun k x => S9 k x.1 x.2.1⟩
theorem ok9 : FnOK Tryz.prog 9 F9 := okF [(11, F11), (12, F12), (13, F13), (14, F14)] [(8, 2)] (fun k => (.loop 21 c9_L21 (b9_21 k) (fun g => .nil) .nil)) ⟨ok11, ok12, ok13, ok14, trivial⟩ Tryz.func9 rfl
end
end Go.Proofs.YtfbkmdemekjdgaaGreat.Ab
