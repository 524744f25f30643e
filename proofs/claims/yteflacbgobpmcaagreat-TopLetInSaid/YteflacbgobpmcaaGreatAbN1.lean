import Derived.Test.YteflacbgobpmcaaGreatAbN0
/- Contracts, printed by this session's own program gen.py. -/
set_option linter.unusedVariables false
set_option linter.unusedSimpArgs false
set_option maxRecDepth 100000
namespace Go.Proofs.YteflacbgobpmcaaGreat.Ab
open Go.RowKit
abbrev Y1_0 : Type := Int × Int × (List (Int × Int × Int × (List (Int × Int × Int × Int)) × (List (Int × Int × Int × Int)) × List (Int × Int × Int × Int))) × (List (PN Int 5)) × Bool × Bool × Bool × (List (Int × Int × Int × Int × (Int × (PN Int 8) × (List (Int × Int × Int)) × Bool) × (Int × (PN Int 8) × (List (Int × Int × Int)) × Bool) × (List Int) × Bool)) × (List Int) × (List Bool) × (List (Int × (Int × Int) × (Int × Int) × ((List Int) × List Int) × (Int × List (Int × Int)) × Int)) × (List Int) × (List Bool) × (List (PN Int 6)) × Unit
abbrev Y1_1 : Ty := .pair (.int .i64) (.pair (.int .i64) (.pair (.int .i64) (.pair (.int .i64) (.pair (.pair (.int .i64) (.pair (arrT 8 (.int .i64)) (.pair (.sl 270 (.pair (.int .i64) (.pair (.int .i64) (.int .i64)))) .bool))) (.pair (.pair (.int .i64) (.pair (arrT 8 (.int .i64)) (.pair (.sl 270 (.pair (.int .i64) (.pair (.int .i64) (.int .i64)))) .bool))) (.pair (.sl 3 (.int .i64)) .bool))))))
abbrev Y1_2 : Type := Int × Int × Int × Int × (Int × (PN Int 8) × (List (Int × Int × Int)) × Bool) × (Int × (PN Int 8) × (List (Int × Int × Int)) × Bool) × (List Int) × Bool
abbrev Y1_3 : Type := Int × Int × (List (Int × Int × Int × (List (Int × Int × Int × Int)) × (List (Int × Int × Int × Int)) × List (Int × Int × Int × Int))) × (List (PN Int 5)) × Bool × Bool × Bool × (List Y1_2) × (List Int) × (List Bool) × (List (Int × (Int × Int) × (Int × Int) × ((List Int) × List Int) × (Int × List (Int × Int)) × Int)) × (List Int) × (List Bool) × Int × Int × Int × Int × (List (Int × Int × Int × Int)) × (List (Int × Int × Int × Int)) × (List (Int × Int × Int × Int)) × Int × Int × Int × Int × Int × (List (PN Int 6)) × Int × Int × Int × Int × Unit
abbrev Y1_4 : Ty := .pair (.int .i64) (.pair (.int .i64) (.pair (.int .i64) (.pair (.sl 46 (.pair (.int .i64) (.pair (.int .i64) (.pair (.int .i64) (.int .i64))))) (.pair (.sl 46 (.pair (.int .i64) (.pair (.int .i64) (.pair (.int .i64) (.int .i64))))) (.sl 46 (.pair (.int .i64) (.pair (.int .i64) (.pair (.int .i64) (.int .i64)))))))))
abbrev Y1_5 : Ty := .pair (.int .i64) (.pair (.pair (.int .i64) (.int .i64)) (.pair (.pair (.int .i64) (.int .i64)) (.pair (.pair (.sl 2 (.int .i64)) (.sl 3 (.int .i64))) (.pair (.pair (.int .u32) (.sl 221 (.pair (.int .i64) (.int .u32)))) (.int .u32)))))
abbrev Y1_6 : Type := Int × (Int × Int) × (Int × Int) × ((List Int) × List Int) × (Int × List (Int × Int)) × Int
abbrev Y1_7 : Type := Int × Int × Int × (List (Int × Int × Int × Int)) × (List (Int × Int × Int × Int)) × List (Int × Int × Int × Int)
abbrev Y1_8 : Ty := .pair (.int .i64) (.pair (.int .i64) (.int .i64))
abbrev Y1_9 : Type := Int → Int → (List Y1_7) → (List (PN Int 5)) → Bool → Bool → Bool → (List Y1_2) → (List Int) → (List Bool) → (List Y1_6) → (List Int) → (List Bool) → (List (PN Int 6)) → (List (List Int)) → (List Int) → Int → Int → Option ((Unit) × Y1_0 × Unit)
abbrev Y1_10 : Type := Int × Int × Int × Int × Int × Int × Int × Int × Int × Int × Int × Int × Int × (List (Int × Int × Int)) × Bool × Int × Int × Int × Int × Int × Int × Int × Int × Int × (List (Int × Int × Int)) × Bool × (List Int) × Bool × Unit
abbrev Y1_11 : Type := Int × (PN Int 8) × (List (Int × Int × Int)) × Bool
abbrev Y1_12 : Type := Int × Int × Int × Int
abbrev Y1_13 : Ty := .sl 3 (.int .i64)
abbrev Y1_14 : Ty := .sl 46 (.pair (.int .i64) Y1_8)
abbrev Y1_15 : Ty := .pair (.int .i64) (.int .i64)
abbrev Y1_16 : Type := (Unit) × Y1_0 × Unit
abbrev Y1_17 : Type := List (Int × Int)
abbrev Y1_18 : Ty := .pair (.int .i64) (.pair (.int .i64) (.pair (.sl 30 Y1_4) (.pair (.sl 43 (arrT 5 (.int .i64))) (.pair .bool (.pair .bool (.pair .bool (.pair (.sl 184 Y1_1) (.pair (.pair (.pair Y1_13 (.sl 4 .bool)) (.sl 177 Y1_5)) (.pair Y1_13 (.sl 4 .bool))))))))))
abbrev Y1_19 : Type := ((((List Int) × List Bool) × List Y1_6) × (List Int) × (List (List Int)) × Unit) × Unit
abbrev Y1_20 : Type := Int × Int × Int
abbrev Y1_21 : Type := (Int × Bool × Unit) × Unit
abbrev Y1_22 : Type := (Int × Unit) × Unit
abbrev Y1_23 : Type := Int × Int × Int × Int × Y1_11 × Y1_11 × (List Int) × Bool
abbrev Y1_24 : Ty := .pair (.int .i64) (.int .u32)
abbrev Y1_25 : Type := List (Int × Int)
abbrev Y1_26 : Ty := arrT 6 (.int .i64)
abbrev Y1_27 : Ty := .pair (.int .i64) (.pair (arrT 8 (.int .i64)) (.pair (.sl 270 Y1_8) .bool))
abbrev Y1_28 : Ty := arrT 5 (.int .i64)
abbrev Y1_29 : Type := (List Int) → (List Bool) → (List Y1_6) → (List Int) → (List Bool) → (List Y1_6) → (List Int) → (List (List Int)) → (List Y1_6) → Int → Int → Option Y1_19
abbrev Y1_30 : Type := ((List Int) × Unit) × Unit
abbrev Y1_31 : Type := Int × List (Int × Int)
abbrev Y1_32 : Type := (Unit) × Y1_3 × Unit
abbrev Y1_33 : Type := Int → Int → (List Y1_7) → (List (PN Int 5)) → Bool → Bool → Bool → (List Y1_2) → (List Int) → (List Bool) → (List Y1_6) → (List Int) → (List Bool) → (List (PN Int 6)) → Y1_17 → (List Int) → Int → Int → Option Y1_16
abbrev Y1_34 : Ty := .pair (.pair Y1_13 (.sl 4 .bool)) (.sl 177 Y1_5)
abbrev Y1_35 : Type := (List Int) × List Bool
abbrev Y1_36 : Type := List (List Int)
abbrev Y1_37 : Ty := .sl 170 Y1_15
abbrev Y1_38 : Type := (Y1_2 × Y1_12 × Bool × Unit) × Unit
abbrev Y1_39 : Type := Int × Int × Int × (List Y1_12) × (List Y1_12) × List Y1_12
abbrev Y1_40 : Type := (Y1_31 × (List Int) × Unit) × Unit
abbrev Y1_41 : Ty := .sl 4 .bool
abbrev Y1_42 : Ty := .pair (.int .u32) (.sl 221 Y1_24)
abbrev Y1_43 : Type := (Y1_31 × Y1_17 × Unit) × Unit
abbrev Y1_44 : Type := (Bool × Unit) × Y1_0 × Y1_10 × Unit
abbrev Y1_45 : Ty := .sl 184 Y1_1
abbrev Y1_46 : Type := (Y1_11 × Unit) × Unit
abbrev Y1_47 : Type := Int × Int × (List Y1_7) × (List (PN Int 5)) × Bool × Bool × Bool × (List Y1_2) × (Y1_35 × List Y1_6) × (List Int) × List Bool
abbrev Y1_48 : Type := (List Int) × (List Bool) × (List Y1_6) × Unit
abbrev Y1_49 : Type := Int × Int × (List Y1_7) × (List (PN Int 5)) × Bool × Bool × Bool × (List Y1_2) × (Y1_35 × List Y1_6) × (List Int) × List Bool
abbrev Y1_50 : Type := (Bool × Unit) × Unit
abbrev Y1_51 : Type := (Y1_17 × Unit) × Unit
abbrev Y1_52 : Type := Y1_0 × Unit
abbrev Y1_53 : Type := List Y1_20
abbrev u1_0 : PT := .mbox 160 [cI, cI, .cell (.sl 30 Y1_4), .cell (.sl 43 Y1_28), .cell .bool, .cell .bool, .cell .bool, .cell Y1_45, .cell Y1_13, .cell Y1_41, .cell (.sl 177 Y1_5), .cell Y1_13, .cell Y1_41, cI, cI, cI, cI, .cell Y1_14, .cell Y1_14, .cell Y1_14, cI, cI, cI, cI, .cell (.int .u32), .own 73 Y1_26, cI, cI, cI, cI]
abbrev u1_1 : PT := .mbox 166 [cI, cI, .own 30 Y1_4, .own 43 Y1_28, .cell .bool, .cell .bool, .cell .bool, .own 184 Y1_1, .own 3 (.int .i64), .own 4 .bool, .own 177 Y1_5, .own 3 (.int .i64), .own 4 .bool, .own 73 Y1_26]
abbrev u1_2 : PT := .mbox 166 [cI, cI, .own 30 Y1_4, .own 43 Y1_28, .cell .bool, .cell .bool, .cell .bool, .cell Y1_45, .own 3 (.int .i64), .own 4 .bool, .own 177 Y1_5, .own 3 (.int .i64), .own 4 .bool, .own 73 Y1_26]
abbrev u1_3 : PT := .mbox 184 [cI, cI, cI, cI, cI, cI, cI, cI, cI, cI, cI, cI, cI, .cell (.sl 270 Y1_8), .cell .bool, cI, cI, cI, cI, cI, cI, cI, cI, cI, .cell (.sl 270 Y1_8), .cell .bool, .cell Y1_13, .cell .bool]
abbrev u1_4 : PT := .val ⟨true, (.pair (.sl 2 (.int .i64)) Y1_13), false⟩
abbrev u1_5 : RT := .val ⟨true, (.pair (.int .i64) Y1_8), true⟩
abbrev u1_6 : PT := .val ⟨true, (.pair Y1_13 Y1_41), false⟩
abbrev u1_7 : RT := .val ⟨true, (.pair Y1_13 Y1_41), true⟩
abbrev u1_8 : PT := .val ⟨false, (.sl 221 Y1_24), false⟩
abbrev u1_9 : RT := .val ⟨false, (.sl 73 Y1_26), true⟩
abbrev u1_10 : PT := .val ⟨false, Y1_13, false⟩
abbrev u1_11 : PT := .val ⟨false, Y1_37, false⟩
abbrev u1_12 : PT := .val ⟨true, Y1_42, false⟩
abbrev u1_13 : RT := .val ⟨false, Y1_13, true⟩
abbrev u1_14 : PT := .val ⟨true, Y1_34, false⟩
abbrev u1_15 : RT := .val ⟨false, Y1_37, true⟩
abbrev u1_16 : PT := .val ⟨true, Y1_27, false⟩
abbrev u1_17 : RT := .val ⟨true, Y1_42, true⟩
abbrev u1_18 : RT := .val ⟨true, Y1_34, true⟩
abbrev u1_19 : PT := .val ⟨true, Y1_1, false⟩
abbrev u1_20 : RT := .val ⟨true, Y1_27, true⟩
abbrev u1_21 : PT := .val ⟨true, Y1_4, false⟩
abbrev u1_22 : RT := .val ⟨true, Y1_1, true⟩
noncomputable section
def S92 (k : Nat) (a a1 : Int) (b1 : List Y1_7) (c1 : List (PN Int 5)) (e1 f1 h1 : Bool) (i1 : List Y1_2) (l1 : List Int) (m1 : List Bool) (n1 : List Y1_6) (o1 : List Int) (p1 : List Bool) (s1 t1 u1 v1 : Int) (w1 y1 z1 : List Y1_12) (a2 b2 c2 e2 f2 : Int) (h2 : List (PN Int 6)) (i2 l2 m2 n2 : Int) : Option Y1_32 :=
 (S127 k a a1 b1 c1 e1 f1 h1 i1 l1 m1 n1 o1 p1 s1 t1 u1 v1 w1 y1 z1 a2 b2 c2 e2 f2 h2 i2 l2 m2 n2 2).bind fun ((b, (c, e, f, h, i), l, _), m, _) =>
 (bif !l then
  some ((), m, ())
 else
  (S128 k h m.2.2.2.2.2.2.2.2.2.2.2.2.2.2.2.2.2.2.2.2.2.2.2.1).bind fun q1 =>
  (bif !q1.1.2.2.1 then
   some ((), (m.1, m.2.1, m.2.2.1, m.2.2.2.1, m.2.2.2.2.1, m.2.2.2.2.2.1, m.2.2.2.2.2.2.1, m.2.2.2.2.2.2.2.1, m.2.2.2.2.2.2.2.2.1, m.2.2.2.2.2.2.2.2.2.1, m.2.2.2.2.2.2.2.2.2.2.1, m.2.2.2.2.2.2.2.2.2.2.2.1, m.2.2.2.2.2.2.2.2.2.2.2.2.1, m.2.2.2.2.2.2.2.2.2.2.2.2.2.1, m.2.2.2.2.2.2.2.2.2.2.2.2.2.2.1, m.2.2.2.2.2.2.2.2.2.2.2.2.2.2.2.1, m.2.2.2.2.2.2.2.2.2.2.2.2.2.2.2.2.1, m.2.2.2.2.2.2.2.2.2.2.2.2.2.2.2.2.2.1, m.2.2.2.2.2.2.2.2.2.2.2.2.2.2.2.2.2.2.1, m.2.2.2.2.2.2.2.2.2.2.2.2.2.2.2.2.2.2.2.1, m.2.2.2.2.2.2.2.2.2.2.2.2.2.2.2.2.2.2.2.2.1, m.2.2.2.2.2.2.2.2.2.2.2.2.2.2.2.2.2.2.2.2.2.1, m.2.2.2.2.2.2.2.2.2.2.2.2.2.2.2.2.2.2.2.2.2.2.1, m.2.2.2.2.2.2.2.2.2.2.2.2.2.2.2.2.2.2.2.2.2.2.2.1, m.2.2.2.2.2.2.2.2.2.2.2.2.2.2.2.2.2.2.2.2.2.2.2.2.1, m.2.2.2.2.2.2.2.2.2.2.2.2.2.2.2.2.2.2.2.2.2.2.2.2.2.1, 4, m.2.2.2.2.2.2.2.2.2.2.2.2.2.2.2.2.2.2.2.2.2.2.2.2.2.2.2.1, m.2.2.2.2.2.2.2.2.2.2.2.2.2.2.2.2.2.2.2.2.2.2.2.2.2.2.2.2.1, m.2.2.2.2.2.2.2.2.2.2.2.2.2.2.2.2.2.2.2.2.2.2.2.2.2.2.2.2.2.1, ()), ())
  else
   (bif decide (q1.1.2.1 > 0) then
    (K30 (S129 k) m q1.1.2.1 m.2.2.2.2.2.2.2.2.2.2.2.2.2.2.2.2.2.2.2.2.2.2.2.1 0).bind fun (_, (n, o, p, s, t, u, v, w, y, z, A, B, C, D, G, H, I, J, K, M, N, O, P, Q, T, U, V, W, X, Z, _), _) =>
    (S130 k ((y, z), A) b (c, e, f, q1.1.1, i)).bind fun q3 =>
    some ((), (n, o, p, s, t, u, v, w, q3.1.1.1.1, q3.1.1.1.2, q3.1.1.2, B, C, D, G, H, I, J, K, M, N, O, P, Q, T, U, V, W, X, Z, ()), ())
   else
    (S130 k ((m.2.2.2.2.2.2.2.2.1, m.2.2.2.2.2.2.2.2.2.1), m.2.2.2.2.2.2.2.2.2.2.1) b (c, e, f, q1.1.1, i)).bind fun q4 =>
    some ((), (m.1, m.2.1, m.2.2.1, m.2.2.2.1, m.2.2.2.2.1, m.2.2.2.2.2.1, m.2.2.2.2.2.2.1, m.2.2.2.2.2.2.2.1, q4.1.1.1.1, q4.1.1.1.2, q4.1.1.2, m.2.2.2.2.2.2.2.2.2.2.2.1, m.2.2.2.2.2.2.2.2.2.2.2.2.1, m.2.2.2.2.2.2.2.2.2.2.2.2.2.1, m.2.2.2.2.2.2.2.2.2.2.2.2.2.2.1, m.2.2.2.2.2.2.2.2.2.2.2.2.2.2.2.1, m.2.2.2.2.2.2.2.2.2.2.2.2.2.2.2.2.1, m.2.2.2.2.2.2.2.2.2.2.2.2.2.2.2.2.2.1, m.2.2.2.2.2.2.2.2.2.2.2.2.2.2.2.2.2.2.1, m.2.2.2.2.2.2.2.2.2.2.2.2.2.2.2.2.2.2.2.1, m.2.2.2.2.2.2.2.2.2.2.2.2.2.2.2.2.2.2.2.2.1, m.2.2.2.2.2.2.2.2.2.2.2.2.2.2.2.2.2.2.2.2.2.1, m.2.2.2.2.2.2.2.2.2.2.2.2.2.2.2.2.2.2.2.2.2.2.1, m.2.2.2.2.2.2.2.2.2.2.2.2.2.2.2.2.2.2.2.2.2.2.2.1, m.2.2.2.2.2.2.2.2.2.2.2.2.2.2.2.2.2.2.2.2.2.2.2.2.1, m.2.2.2.2.2.2.2.2.2.2.2.2.2.2.2.2.2.2.2.2.2.2.2.2.2.1, m.2.2.2.2.2.2.2.2.2.2.2.2.2.2.2.2.2.2.2.2.2.2.2.2.2.2.1, m.2.2.2.2.2.2.2.2.2.2.2.2.2.2.2.2.2.2.2.2.2.2.2.2.2.2.2.1, m.2.2.2.2.2.2.2.2.2.2.2.2.2.2.2.2.2.2.2.2.2.2.2.2.2.2.2.2.1, m.2.2.2.2.2.2.2.2.2.2.2.2.2.2.2.2.2.2.2.2.2.2.2.2.2.2.2.2.2.1, ()), ()))))
def F92 : Fn := ⟨[u1_0], [], fun k ((a, b, c, e, f, h, i, l, m, n, o, p, s, t, u, v, w, y, z, A, B, C, D, G, H, I, J, K, M, N, _), _) => S92 k a b c e f h i l m n o p s t u v w y z A B C D G H I J K M N⟩
theorem ok92 : O 92 F92 := okF (Om ok127 <| Om ok128 <| Om ok129 <| Om ok130 Oz) [] On Tryz.func92 rfl
abbrev c143_L2 : Cut := ⟨[0, 1, 7, 8], [.cell Y1_13, cI, cI, cI], [], 19, []⟩
def l143_2 (k : Nat) (g2 : (List Int) → Int → Int → Int → Option Y1_22) (a : List Int) (b c e : Int) : Option Y1_22 :=
 (bif decide (e < c) then
  ix a e <|
  (bif b == (rd a e 0) then
   some ((e, ()), ())
  else
   g2 a b c (IntKind.i64.wrap (e + 1)))
 else
  some (((-1), ()), ()))
def b143_2 (k : Nat) : Xx (((Unit) × (List Int) × Int × Int × Int × Unit) → Option Y1_22) := iV (iU (iL (iL (iL (iL iE))))) (l143_2 k)
def L143_2 (k a : Nat) (b : List Int) (c e f : Int) : Option Y1_22 := iter c143_L2 (b143_2 k) a ((), b, c, e, f, ())
def S143 (k : Nat) (a : List Int) (b : Int) : Option Y1_22 :=
 L143_2 k k a b (a.length : Int) 0
def F143 : Fn := ⟨[u1_10, pI], [rI], fun k x => S143 k x.1 x.2.1⟩
theorem ok143 : O 143 F143 := okF Oz [] (fun k => (.loop 2 c143_L2 (b143_2 k) (fun g => .nil) .nil)) Tryz.func143 rfl
def S166 (k : Nat) (a : List Int) (b : Int) : Option Y1_50 :=
 (S143 k a b).bind fun q0 =>
 some ((decide (q0.1.1 ≥ 0), ()), ())
def F166 : Fn := ⟨[u1_10, pI], [rB], fun k x => S166 k x.1 x.2.1⟩
theorem ok166 : O 166 F166 := okF (Om ok143 Oz) [] On Tryz.func166 rfl
def S131 (k : Nat) (a : (List Int) × List Int) (b : Int) : Option ((((List Int) × List Int) × Int × Bool × Bool × Unit) × Unit) :=
 (S164 k a).bind fun q0 =>
 (bif decide (b < 1) then
  some ((q0.1.1, 0, false, false, ()), ())
 else
  (bif decide ((q0.1.1.1.length : Int) > 0) then
   ix q0.1.1.1 0 <|
   sx q0.1.1.1 1 (q0.1.1.1.length : Int) <|
   some (((sub q0.1.1.1 1 (q0.1.1.1.length : Int), q0.1.1.2), rd q0.1.1.1 0 0, true, true, ()), ())
  else
   (S166 k q0.1.1.2 b).bind fun q1 =>
   (bif q1.1.1 then
    some ((q0.1.1, 0, false, false, ()), ())
   else
    (bif decide ((q0.1.1.2.length : Int) ≥ 4) then
     some ((q0.1.1, 0, false, false, ()), ())
    else
     ap q0.1.1.2 ([b] : List Int) 8 fun r2 =>
     some (((q0.1.1.1, r2), 0, false, true, ()), ())))))
def F131 : Fn := ⟨[u1_4, pI], [.val ⟨true, (.pair (.sl 2 (.int .i64)) Y1_13), false⟩, rI, rB, rB], fun k x => S131 k x.1 x.2.1⟩
theorem ok131 : O 131 F131 := okF (Om ok164 <| Om ok166 Oz) [] On Tryz.func131 rfl
def S93 (k : Nat) (a n : Int) (o : List Y1_7) (p : List (PN Int 5)) (s t u : Bool) (v : List Y1_2) (w : List Int) (y : List Bool) (z : List Y1_6) (A : List Int) (B : List Bool) (C D G H : Int) (I J K : List Y1_12) (M N O P Q : Int) (T : List (PN Int 6)) (U V W X : Int) : Option Y1_32 :=
 (S127 k a n o p s t u v w y z A B C D G H I J K M N O P Q T U V W X 2).bind fun ((b, (c, e, f, h, i), l, _), m, _) =>
 (bif !l then
  some ((), m, ())
 else
  (S131 k h m.2.2.2.2.2.2.2.2.2.2.2.2.2.2.2.2.2.2.2.2.2.2.1).bind fun q1 =>
  (bif !q1.1.2.2.2.1 then
   some ((), (m.1, m.2.1, m.2.2.1, m.2.2.2.1, m.2.2.2.2.1, m.2.2.2.2.2.1, m.2.2.2.2.2.2.1, m.2.2.2.2.2.2.2.1, m.2.2.2.2.2.2.2.2.1, m.2.2.2.2.2.2.2.2.2.1, m.2.2.2.2.2.2.2.2.2.2.1, m.2.2.2.2.2.2.2.2.2.2.2.1, m.2.2.2.2.2.2.2.2.2.2.2.2.1, m.2.2.2.2.2.2.2.2.2.2.2.2.2.1, m.2.2.2.2.2.2.2.2.2.2.2.2.2.2.1, m.2.2.2.2.2.2.2.2.2.2.2.2.2.2.2.1, m.2.2.2.2.2.2.2.2.2.2.2.2.2.2.2.2.1, m.2.2.2.2.2.2.2.2.2.2.2.2.2.2.2.2.2.1, m.2.2.2.2.2.2.2.2.2.2.2.2.2.2.2.2.2.2.1, m.2.2.2.2.2.2.2.2.2.2.2.2.2.2.2.2.2.2.2.1, m.2.2.2.2.2.2.2.2.2.2.2.2.2.2.2.2.2.2.2.2.1, m.2.2.2.2.2.2.2.2.2.2.2.2.2.2.2.2.2.2.2.2.2.1, m.2.2.2.2.2.2.2.2.2.2.2.2.2.2.2.2.2.2.2.2.2.2.1, m.2.2.2.2.2.2.2.2.2.2.2.2.2.2.2.2.2.2.2.2.2.2.2.1, m.2.2.2.2.2.2.2.2.2.2.2.2.2.2.2.2.2.2.2.2.2.2.2.2.1, m.2.2.2.2.2.2.2.2.2.2.2.2.2.2.2.2.2.2.2.2.2.2.2.2.2.1, 1, m.2.2.2.2.2.2.2.2.2.2.2.2.2.2.2.2.2.2.2.2.2.2.2.2.2.2.2.1, m.2.2.2.2.2.2.2.2.2.2.2.2.2.2.2.2.2.2.2.2.2.2.2.2.2.2.2.2.1, m.2.2.2.2.2.2.2.2.2.2.2.2.2.2.2.2.2.2.2.2.2.2.2.2.2.2.2.2.2.1, ()), ())
  else
   (bif q1.1.2.2.1 then
    (S130 k ((m.2.2.2.2.2.2.2.2.1, m.2.2.2.2.2.2.2.2.2.1), m.2.2.2.2.2.2.2.2.2.2.1) b (c, e, f, q1.1.1, i)).bind fun q2 =>
    some ((), (m.1, m.2.1, m.2.2.1, m.2.2.2.1, m.2.2.2.2.1, m.2.2.2.2.2.1, m.2.2.2.2.2.2.1, m.2.2.2.2.2.2.2.1, q2.1.1.1.1, q2.1.1.1.2, q2.1.1.2, m.2.2.2.2.2.2.2.2.2.2.2.1, m.2.2.2.2.2.2.2.2.2.2.2.2.1, m.2.2.2.2.2.2.2.2.2.2.2.2.2.1, m.2.2.2.2.2.2.2.2.2.2.2.2.2.2.1, m.2.2.2.2.2.2.2.2.2.2.2.2.2.2.2.1, m.2.2.2.2.2.2.2.2.2.2.2.2.2.2.2.2.1, m.2.2.2.2.2.2.2.2.2.2.2.2.2.2.2.2.2.1, m.2.2.2.2.2.2.2.2.2.2.2.2.2.2.2.2.2.2.1, m.2.2.2.2.2.2.2.2.2.2.2.2.2.2.2.2.2.2.2.1, m.2.2.2.2.2.2.2.2.2.2.2.2.2.2.2.2.2.2.2.2.1, m.2.2.2.2.2.2.2.2.2.2.2.2.2.2.2.2.2.2.2.2.2.1, m.2.2.2.2.2.2.2.2.2.2.2.2.2.2.2.2.2.2.2.2.2.2.1, m.2.2.2.2.2.2.2.2.2.2.2.2.2.2.2.2.2.2.2.2.2.2.2.1, m.2.2.2.2.2.2.2.2.2.2.2.2.2.2.2.2.2.2.2.2.2.2.2.2.1, m.2.2.2.2.2.2.2.2.2.2.2.2.2.2.2.2.2.2.2.2.2.2.2.2.2.1, m.2.2.2.2.2.2.2.2.2.2.2.2.2.2.2.2.2.2.2.2.2.2.2.2.2.2.1, m.2.2.2.2.2.2.2.2.2.2.2.2.2.2.2.2.2.2.2.2.2.2.2.2.2.2.2.1, m.2.2.2.2.2.2.2.2.2.2.2.2.2.2.2.2.2.2.2.2.2.2.2.2.2.2.2.2.1, q1.1.2.1, ()), ())
   else
    (S130 k ((m.2.2.2.2.2.2.2.2.1, m.2.2.2.2.2.2.2.2.2.1), m.2.2.2.2.2.2.2.2.2.2.1) b (c, e, f, q1.1.1, i)).bind fun q3 =>
    some ((), (m.1, m.2.1, m.2.2.1, m.2.2.2.1, m.2.2.2.2.1, m.2.2.2.2.2.1, m.2.2.2.2.2.2.1, m.2.2.2.2.2.2.2.1, q3.1.1.1.1, q3.1.1.1.2, q3.1.1.2, m.2.2.2.2.2.2.2.2.2.2.2.1, m.2.2.2.2.2.2.2.2.2.2.2.2.1, m.2.2.2.2.2.2.2.2.2.2.2.2.2.1, m.2.2.2.2.2.2.2.2.2.2.2.2.2.2.1, m.2.2.2.2.2.2.2.2.2.2.2.2.2.2.2.1, m.2.2.2.2.2.2.2.2.2.2.2.2.2.2.2.2.1, m.2.2.2.2.2.2.2.2.2.2.2.2.2.2.2.2.2.1, m.2.2.2.2.2.2.2.2.2.2.2.2.2.2.2.2.2.2.1, m.2.2.2.2.2.2.2.2.2.2.2.2.2.2.2.2.2.2.2.1, m.2.2.2.2.2.2.2.2.2.2.2.2.2.2.2.2.2.2.2.2.1, m.2.2.2.2.2.2.2.2.2.2.2.2.2.2.2.2.2.2.2.2.2.1, m.2.2.2.2.2.2.2.2.2.2.2.2.2.2.2.2.2.2.2.2.2.2.1, m.2.2.2.2.2.2.2.2.2.2.2.2.2.2.2.2.2.2.2.2.2.2.2.1, m.2.2.2.2.2.2.2.2.2.2.2.2.2.2.2.2.2.2.2.2.2.2.2.2.1, m.2.2.2.2.2.2.2.2.2.2.2.2.2.2.2.2.2.2.2.2.2.2.2.2.2.1, 16, m.2.2.2.2.2.2.2.2.2.2.2.2.2.2.2.2.2.2.2.2.2.2.2.2.2.2.2.1, m.2.2.2.2.2.2.2.2.2.2.2.2.2.2.2.2.2.2.2.2.2.2.2.2.2.2.2.2.1, m.2.2.2.2.2.2.2.2.2.2.2.2.2.2.2.2.2.2.2.2.2.2.2.2.2.2.2.2.2.1, ()), ()))))
def F93 : Fn := ⟨[u1_0], [], fun k ((a, b, c, e, f, h, i, l, m, n, o, p, s, t, u, v, w, y, z, A, B, C, D, G, H, I, J, K, M, N, _), _) => S93 k a b c e f h i l m n o p s t u v w y z A B C D G H I J K M N⟩
theorem ok93 : O 93 F93 := okF (Om ok127 <| Om ok130 <| Om ok131 Oz) [] On Tryz.func93 rfl
abbrev c132_L3 : Cut := ⟨[4, 5, 15, 16, 17], [.box 175 [.cell (.int .u32), .own 221 Y1_24], .own 221 Y1_24, .cell (.sl 221 Y1_24), cI, cI], [], 49, []⟩
def l132_3 (k : Nat) (g3 : Int → Y1_17 → Y1_17 → Y1_17 → Int → Int → Option Y1_43) (x : Int) (a b c : Y1_25) (e f : Int) : Option Y1_43 :=
 (bif decide (f < e) then
  ix c f <|
  (bif (iand .u32 x (rd c f (0, 0)).2) == 0 then
   ap a ([rd c f (0, 0)] : List (Int × Int)) 16 fun r0 =>
   g3 x r0 b c e (IntKind.i64.wrap (f + 1))
  else
   ap b ([((rd c f (0, 0)).1, iand .u32 x (rd c f (0, 0)).2)] : List (Int × Int)) 16 fun r1 =>
   g3 (iandn .u32 x (iand .u32 x (rd c f (0, 0)).2)) a r1 c e (IntKind.i64.wrap (f + 1)))
 else
  some (((x, a), b, ()), ()))
def b132_3 (k : Nat) : Xx (((Unit) × (Int × Y1_17 × Unit) × Y1_17 × Y1_17 × Int × Int × Unit) → Option Y1_43) := iV (iU (iN (iL (iL iE)) (iL (iL (iL (iL iE)))))) (l132_3 k)
def L132_3 (k a : Nat) (x : Int) (b c e : Y1_25) (f h : Int) : Option Y1_43 := iter c132_L3 (b132_3 k) a ((), (x, b, ()), c, e, f, h, ())
def S132 (k : Nat) (a : Int × List (Int × Int)) (b : Int) : Option Y1_43 :=
 L132_3 k k (ior .u32 a.1 b) ([] : List (Int × Int)) ([] : List (Int × Int)) a.2 (a.2.length : Int) 0
def F132 : Fn := ⟨[u1_12, .val ⟨false, (.int .u32), false⟩], [u1_17, .val ⟨false, (.sl 221 Y1_24), true⟩], fun k x => S132 k x.1 x.2.1⟩
theorem ok132 : O 132 F132 := okF Oz [(4, 2), (5, 2)] (fun k => (.loop 3 c132_L3 (b132_3 k) (fun g => .nil) .nil)) Tryz.func132 rfl
abbrev c94_L4 : Cut := ⟨[0, 2, 3, 5, 28, 29, 30], [.pin false 0, cI, .box 177 [cI, cI, cI, cI, cI, .cell (.sl 2 (.int .i64)), .cell Y1_13, .cell (.int .u32), .cell (.sl 221 Y1_24), .cell (.int .u32)], .box 175 [.cell (.int .u32), .own 221 Y1_24], .own 221 Y1_24, cI, cI], [.mbox 160 [cI, cI, .cell (.sl 30 Y1_4), .cell (.sl 43 Y1_28), .cell .bool, .cell .bool, .cell .bool, .cell Y1_45, .cell Y1_13, .cell Y1_41, .cell (.sl 177 Y1_5), .cell Y1_13, .cell Y1_41, cI, cI, cI, cI, .cell Y1_14, .cell Y1_14, .cell Y1_14, cI, cI, cI, cI, .cell (.int .u32), .own 73 Y1_26, cI, cI, cI, cI]], 56, []⟩
def l94_4 (k : Nat) (g4 : Int → Int → (List Y1_7) → (List (PN Int 5)) → Bool → Bool → Bool → (List Y1_2) → (List Int) → (List Bool) → (List Y1_6) → (List Int) → (List Bool) → Int → Int → Int → Int → (List Y1_12) → (List Y1_12) → (List Y1_12) → Int → Int → Int → Int → Int → (List (PN Int 6)) → Int → Int → Int → Int → Int → Int → Int → Int → Int → Int → (List Int) → (List Int) → Int → Y1_17 → Int → Int → Y1_17 → Y1_17 → Int → Int → Option Y1_32) (a b : Int) (c : List Y1_7) (e : List (PN Int 5)) (f h i : Bool) (l : List Y1_2) (m : List Int) (n : List Bool) (o : List Y1_6) (p : List Int) (s : List Bool) (t u v w : Int) (y z A : List Y1_12) (B C D G H : Int) (I : List (PN Int 6)) (J K M N O x P Q T U : Int) (V W : List Int) (X : Int) (Z : Y1_25) (a1 b1 : Int) (c1 e1 : Y1_25) (f1 h1 : Int) : Option Y1_32 :=
 (bif decide (h1 < f1) then
  ix e1 h1 <|
  (S129 k a b c e f h i l m n o p s t u v w y z A B C D G H I J K M N (rd e1 h1 (0, 0)).1 (IntKind.i64.wrap (rd e1 h1 (0, 0)).2) 0).bind fun q2 =>
  K30 (g4) q2.2.1 O x P Q T U V W X Z a1 b1 c1 e1 f1 (IntKind.i64.wrap (h1 + 1))
 else
  (S130 k ((m, n), o) O (x, (P, Q), (T, U), (V, W), (b1, c1), a1)).bind fun q3 =>
  some ((), (a, b, c, e, f, h, i, l, q3.1.1.1.1, q3.1.1.1.2, q3.1.1.2, p, s, t, u, v, w, y, z, A, B, C, D, G, H, I, J, K, M, N, ()), ()))
def b94_4 (k : Nat) : Xx (((Y1_3 × Unit) × Unit × Int × (Int × Int × Int × Int × Int × (List Int) × (List Int) × Int × Y1_17 × Int × Unit) × (Int × Y1_17 × Unit) × Y1_17 × Int × Int × Unit) → Option Y1_32) := iV (iN (iN (iL (iL (iL (iL (iL (iL (iL (iL (iL (iL (iL (iL (iL (iL (iL (iL (iL (iL (iL (iL (iL (iL (iL (iL (iL (iL (iL (iL (iL (iL iE)))))))))))))))))))))))))))))) iE) (iU (iL (iN (iL (iL (iL (iL (iL (iL (iL (iL (iL (iL iE)))))))))) (iN (iL (iL iE)) (iL (iL (iL iE)))))))) (l94_4 k)
def L94_4 (k a : Nat) (b c : Int) (e : List Y1_7) (f : List (PN Int 5)) (h i l : Bool) (m : List Y1_2) (n : List Int) (o : List Bool) (p : List Y1_6) (s : List Int) (t : List Bool) (u v w y : Int) (z A B : List Y1_12) (C D G H I : Int) (J : List (PN Int 6)) (K M N O P x Q T U V : Int) (W X : List Int) (Z : Int) (a1 : Y1_25) (b1 c1 : Int) (e1 f1 : Y1_25) (h1 i1 : Int) : Option Y1_32 := iter c94_L4 (b94_4 k) a (((b, c, e, f, h, i, l, m, n, o, p, s, t, u, v, w, y, z, A, B, C, D, G, H, I, J, K, M, N, O, ()), ()), (), P, (x, Q, T, U, V, W, X, Z, a1, b1, ()), (c1, e1, ()), f1, h1, i1, ())
def S94 (k : Nat) (a t : Int) (u : List Y1_7) (v : List (PN Int 5)) (w y z : Bool) (A : List Y1_2) (B : List Int) (C : List Bool) (D : List Y1_6) (G : List Int) (H : List Bool) (I J K M : Int) (N O P : List Y1_12) (Q T U V W : Int) (X : List (PN Int 6)) (Z a1 b1 c1 : Int) : Option Y1_32 :=
 (S127 k a t u v w y z A B C D G H I J K M N O P Q T U V W X Z a1 b1 c1 3).bind fun ((b, (c, (e, f), (h, i), (l, m), n, o), p, _), s, _) =>
 (bif !p then
  some ((), s, ())
 else
  (S132 k n s.2.2.2.2.2.2.2.2.2.2.2.2.2.2.2.2.2.2.2.2.2.2.2.2.1).bind fun q1 =>
  K30 (L94_4 k k) s b c e f h i l m n.1 n.2 o q1.1.1.1 q1.1.1.2 q1.1.2.1 (q1.1.2.1.length : Int) 0)
def F94 : Fn := ⟨[u1_0], [], fun k ((a, b, c, e, f, h, i, l, m, n, o, p, s, t, u, v, w, y, z, A, B, C, D, G, H, I, J, K, M, N, _), _) => S94 k a b c e f h i l m n o p s t u v w y z A B C D G H I J K M N⟩
theorem ok94 : O 94 F94 := okF (Om ok127 <| Om ok129 <| Om ok130 <| Om ok132 Oz) [] (fun k => (.loop 4 c94_L4 (b94_4 k) (fun g => .nil) .nil)) Tryz.func94 rfl
def S169 (k : Nat) (a : Int × Int) (b : Int) : Option Y1_50 :=
 some ((a.1 == b, ()), ())
def F169 : Fn := ⟨[.val ⟨true, Y1_24, false⟩, .pv (.ref (.int .i64))], [rB], fun k x => S169 k x.1 x.2.1⟩
theorem ok169 : O 169 F169 := okF Oz [] On Tryz.func169 rfl
abbrev c193_L2 : Cut := ⟨[0, 1, 7, 8], [.cell (.sl 221 Y1_24), .clo 169 [.ref (.int .i64)], cI, cI], [], 19, []⟩
def l193_2 (k : Nat) (g2 : Y1_17 → Int → Int → Int → Option Y1_22) (a : Y1_25) (b c e : Int) : Option Y1_22 :=
 (bif decide (e < c) then
  ix a e <|
  (S169 k (rd a e (0, 0)) b).bind fun q0 =>
  (bif q0.1.1 then
   some ((e, ()), ())
  else
   g2 a b c (IntKind.i64.wrap (e + 1)))
 else
  some (((-1), ()), ()))
def b193_2 (k : Nat) : Xx (((Unit) × Y1_17 × (Int × Unit) × Int × Int × Unit) → Option Y1_22) := iV (iU (iL (iN (iL iE) (iL (iL iE))))) (l193_2 k)
def L193_2 (k a : Nat) (b : Y1_25) (c e f : Int) : Option Y1_22 := iter c193_L2 (b193_2 k) a ((), b, (c, ()), e, f, ())
def S193 (k : Nat) (a : Y1_25) (b : Int) : Option Y1_22 :=
 L193_2 k k a b (a.length : Int) 0
def F193 : Fn := ⟨[u1_8, .pv (.clo 169 [.ref (.int .i64)])], [rI], fun k x => S193 k x.1 x.2.1.1⟩
theorem ok193 : O 193 F193 := okF (Om ok169 Oz) [] (fun k => (.loop 2 c193_L2 (b193_2 k) (fun g => .nil) .nil)) Tryz.func193 rfl
def S168 (k : Nat) (a : Y1_25) (b : Int) : Option Y1_50 :=
 (S193 k a b).bind fun q0 =>
 some ((decide (q0.1.1 ≥ 0), ()), ())
def F168 : Fn := ⟨[u1_8, .pv (.clo 169 [.ref (.int .i64)])], [rB], fun k x => S168 k x.1 x.2.1.1⟩
theorem ok168 : O 168 F168 := okF (Om ok193 Oz) [] On Tryz.func168 rfl
def S133 (k : Nat) (a : Int × List (Int × Int)) (b c : Int) : Option ((Y1_31 × Int × Bool × Unit) × Unit) :=
 (S167 k a.2).bind fun q0 =>
 (bif decide (b < 1) then
  some (((a.1, q0.1.1), 0, false, ()), ())
 else
  (bif c == 0 then
   some (((a.1, q0.1.1), 0, false, ()), ())
  else
   (bif (iand .u32 a.1 c) != 0 then
    some (((iandn .u32 a.1 (iand .u32 a.1 c), q0.1.1), iand .u32 a.1 c, true, ()), ())
   else
    (bif decide ((a.2.length : Int) ≥ 4) then
     some (((a.1, q0.1.1), 0, false, ()), ())
    else
     (S168 k a.2 b).bind fun q1 =>
     (bif q1.1.1 then
      some (((a.1, q0.1.1), 0, false, ()), ())
     else
      ap q0.1.1 ([(b, c)] : List (Int × Int)) 16 fun r2 =>
      some (((a.1, r2), 0, true, ()), ()))))))
def F133 : Fn := ⟨[u1_12, pI, .val ⟨false, (.int .u32), false⟩], [u1_17, .val ⟨false, (.int .u32), true⟩, rB], fun k (a, b, c, _) => S133 k a b c⟩
theorem ok133 : O 133 F133 := okF (Om ok167 <| Om ok168 Oz) [] On Tryz.func133 rfl
def S95 (k : Nat) (a o : Int) (p : List Y1_7) (s : List (PN Int 5)) (t u v : Bool) (w : List Y1_2) (y : List Int) (z : List Bool) (A : List Y1_6) (B : List Int) (C : List Bool) (D G H I : Int) (J K M : List Y1_12) (N O P Q T : Int) (U : List (PN Int 6)) (V W X Z : Int) : Option Y1_32 :=
 (S127 k a o p s t u v w y z A B C D G H I J K M N O P Q T U V W X Z 3).bind fun ((b, (c, e, f, h, i, l), m, _), n, _) =>
 (bif !m then
  some ((), n, ())
 else
  (S133 k i n.2.2.2.2.2.2.2.2.2.2.2.2.2.2.2.2.2.2.2.2.2.2.1 n.2.2.2.2.2.2.2.2.2.2.2.2.2.2.2.2.2.2.2.2.2.2.2.2.1).bind fun q1 =>
  (bif !q1.1.2.2.1 then
   some ((), (n.1, n.2.1, n.2.2.1, n.2.2.2.1, n.2.2.2.2.1, n.2.2.2.2.2.1, n.2.2.2.2.2.2.1, n.2.2.2.2.2.2.2.1, n.2.2.2.2.2.2.2.2.1, n.2.2.2.2.2.2.2.2.2.1, n.2.2.2.2.2.2.2.2.2.2.1, n.2.2.2.2.2.2.2.2.2.2.2.1, n.2.2.2.2.2.2.2.2.2.2.2.2.1, n.2.2.2.2.2.2.2.2.2.2.2.2.2.1, n.2.2.2.2.2.2.2.2.2.2.2.2.2.2.1, n.2.2.2.2.2.2.2.2.2.2.2.2.2.2.2.1, n.2.2.2.2.2.2.2.2.2.2.2.2.2.2.2.2.1, n.2.2.2.2.2.2.2.2.2.2.2.2.2.2.2.2.2.1, n.2.2.2.2.2.2.2.2.2.2.2.2.2.2.2.2.2.2.1, n.2.2.2.2.2.2.2.2.2.2.2.2.2.2.2.2.2.2.2.1, n.2.2.2.2.2.2.2.2.2.2.2.2.2.2.2.2.2.2.2.2.1, n.2.2.2.2.2.2.2.2.2.2.2.2.2.2.2.2.2.2.2.2.2.1, n.2.2.2.2.2.2.2.2.2.2.2.2.2.2.2.2.2.2.2.2.2.2.1, n.2.2.2.2.2.2.2.2.2.2.2.2.2.2.2.2.2.2.2.2.2.2.2.1, n.2.2.2.2.2.2.2.2.2.2.2.2.2.2.2.2.2.2.2.2.2.2.2.2.1, n.2.2.2.2.2.2.2.2.2.2.2.2.2.2.2.2.2.2.2.2.2.2.2.2.2.1, 1, n.2.2.2.2.2.2.2.2.2.2.2.2.2.2.2.2.2.2.2.2.2.2.2.2.2.2.2.1, n.2.2.2.2.2.2.2.2.2.2.2.2.2.2.2.2.2.2.2.2.2.2.2.2.2.2.2.2.1, n.2.2.2.2.2.2.2.2.2.2.2.2.2.2.2.2.2.2.2.2.2.2.2.2.2.2.2.2.2.1, ()), ())
  else
   (bif q1.1.2.1 == 0 then
    (S130 k ((n.2.2.2.2.2.2.2.2.1, n.2.2.2.2.2.2.2.2.2.1), n.2.2.2.2.2.2.2.2.2.2.1) b (c, e, f, h, q1.1.1, l)).bind fun q2 =>
    some ((), (n.1, n.2.1, n.2.2.1, n.2.2.2.1, n.2.2.2.2.1, n.2.2.2.2.2.1, n.2.2.2.2.2.2.1, n.2.2.2.2.2.2.2.1, q2.1.1.1.1, q2.1.1.1.2, q2.1.1.2, n.2.2.2.2.2.2.2.2.2.2.2.1, n.2.2.2.2.2.2.2.2.2.2.2.2.1, n.2.2.2.2.2.2.2.2.2.2.2.2.2.1, n.2.2.2.2.2.2.2.2.2.2.2.2.2.2.1, n.2.2.2.2.2.2.2.2.2.2.2.2.2.2.2.1, n.2.2.2.2.2.2.2.2.2.2.2.2.2.2.2.2.1, n.2.2.2.2.2.2.2.2.2.2.2.2.2.2.2.2.2.1, n.2.2.2.2.2.2.2.2.2.2.2.2.2.2.2.2.2.2.1, n.2.2.2.2.2.2.2.2.2.2.2.2.2.2.2.2.2.2.2.1, n.2.2.2.2.2.2.2.2.2.2.2.2.2.2.2.2.2.2.2.2.1, n.2.2.2.2.2.2.2.2.2.2.2.2.2.2.2.2.2.2.2.2.2.1, n.2.2.2.2.2.2.2.2.2.2.2.2.2.2.2.2.2.2.2.2.2.2.1, n.2.2.2.2.2.2.2.2.2.2.2.2.2.2.2.2.2.2.2.2.2.2.2.1, n.2.2.2.2.2.2.2.2.2.2.2.2.2.2.2.2.2.2.2.2.2.2.2.2.1, n.2.2.2.2.2.2.2.2.2.2.2.2.2.2.2.2.2.2.2.2.2.2.2.2.2.1, 16, n.2.2.2.2.2.2.2.2.2.2.2.2.2.2.2.2.2.2.2.2.2.2.2.2.2.2.2.1, n.2.2.2.2.2.2.2.2.2.2.2.2.2.2.2.2.2.2.2.2.2.2.2.2.2.2.2.2.1, IntKind.i64.wrap q1.1.2.1, ()), ())
   else
    (S130 k ((n.2.2.2.2.2.2.2.2.1, n.2.2.2.2.2.2.2.2.2.1), n.2.2.2.2.2.2.2.2.2.2.1) b (c, e, f, h, q1.1.1, l)).bind fun q3 =>
    some ((), (n.1, n.2.1, n.2.2.1, n.2.2.2.1, n.2.2.2.2.1, n.2.2.2.2.2.1, n.2.2.2.2.2.2.1, n.2.2.2.2.2.2.2.1, q3.1.1.1.1, q3.1.1.1.2, q3.1.1.2, n.2.2.2.2.2.2.2.2.2.2.2.1, n.2.2.2.2.2.2.2.2.2.2.2.2.1, n.2.2.2.2.2.2.2.2.2.2.2.2.2.1, n.2.2.2.2.2.2.2.2.2.2.2.2.2.2.1, n.2.2.2.2.2.2.2.2.2.2.2.2.2.2.2.1, n.2.2.2.2.2.2.2.2.2.2.2.2.2.2.2.2.1, n.2.2.2.2.2.2.2.2.2.2.2.2.2.2.2.2.2.1, n.2.2.2.2.2.2.2.2.2.2.2.2.2.2.2.2.2.2.1, n.2.2.2.2.2.2.2.2.2.2.2.2.2.2.2.2.2.2.2.1, n.2.2.2.2.2.2.2.2.2.2.2.2.2.2.2.2.2.2.2.2.1, n.2.2.2.2.2.2.2.2.2.2.2.2.2.2.2.2.2.2.2.2.2.1, n.2.2.2.2.2.2.2.2.2.2.2.2.2.2.2.2.2.2.2.2.2.2.1, n.2.2.2.2.2.2.2.2.2.2.2.2.2.2.2.2.2.2.2.2.2.2.2.1, n.2.2.2.2.2.2.2.2.2.2.2.2.2.2.2.2.2.2.2.2.2.2.2.2.1, n.2.2.2.2.2.2.2.2.2.2.2.2.2.2.2.2.2.2.2.2.2.2.2.2.2.1, n.2.2.2.2.2.2.2.2.2.2.2.2.2.2.2.2.2.2.2.2.2.2.2.2.2.2.1, n.2.2.2.2.2.2.2.2.2.2.2.2.2.2.2.2.2.2.2.2.2.2.2.2.2.2.2.1, n.2.2.2.2.2.2.2.2.2.2.2.2.2.2.2.2.2.2.2.2.2.2.2.2.2.2.2.2.1, IntKind.i64.wrap q1.1.2.1, ()), ()))))
def F95 : Fn := ⟨[u1_0], [], fun k ((a, b, c, e, f, h, i, l, m, n, o, p, s, t, u, v, w, y, z, A, B, C, D, G, H, I, J, K, M, N, _), _) => S95 k a b c e f h i l m n o p s t u v w y z A B C D G H I J K M N⟩
theorem ok95 : O 95 F95 := okF (Om ok127 <| Om ok130 <| Om ok133 Oz) [] On Tryz.func95 rfl
def S170 (k : Nat) (a : (List Int) × List Bool) (b : Int × Int) : Option ((Y1_35 × Bool × Unit) × Unit) :=
 (S188 k a).bind fun q0 =>
 (S191 k q0.1.1 b).bind fun q1 =>
 (bif !q1.1.1 then
  some ((q0.1.1, false, ()), ())
 else
  ix q0.1.1.2 b.1 <|
  some (((q0.1.1.1, upd q0.1.1.2 b.1 false), true, ()), ()))
def F170 : Fn := ⟨[u1_6, .val ⟨true, Y1_15, false⟩], [u1_7, rB], fun k x => S170 k x.1 x.2.1⟩
theorem ok170 : O 170 F170 := okF (Om ok188 <| Om ok191 Oz) [] On Tryz.func170 rfl
def S194 (k : Nat) (a : (List Int) × List Int) : Option ((((List Int) × List Int) × (List Int) × Unit) × Unit) :=
 (S149 k a.2).bind fun q0 =>
 some ((([], []), q0.1.1, ()), ())
def F194 : Fn := ⟨[u1_4], [.val ⟨true, (.pair (.sl 2 (.int .i64)) Y1_13), true⟩, u1_13], fun k x => S194 k x.1⟩
theorem ok194 : O 194 F194 := okF (Om ok149 Oz) [] On Tryz.func194 rfl
abbrev c195_L2 : Cut := ⟨[2, 3, 7, 8, 9], [.box 175 [.cell (.int .u32), .nil], .own 3 (.int .i64), .cell (.sl 221 Y1_24), cI, cI], [], 21, []⟩
def l195_2 (k : Nat) (g2 : Int → (List Int) → Y1_17 → Int → Int → Option Y1_40) (x : Int) (a : List Int) (b : Y1_25) (c e : Int) : Option Y1_40 :=
 (bif decide (e < c) then
  ix b e <|
  ap a ([(rd b e (0, 0)).1] : List Int) 8 fun r0 =>
  g2 x r0 b c (IntKind.i64.wrap (e + 1))
 else
  some (((x, []), a, ()), ()))
def b195_2 (k : Nat) : Xx (((Unit) × (Int × Unit × Unit) × (List Int) × Y1_17 × Int × Int × Unit) → Option Y1_40) := iV (iU (iN (iL (iU iE)) (iL (iL (iL (iL iE)))))) (l195_2 k)
def L195_2 (k a : Nat) (x : Int) (b : List Int) (c : Y1_25) (e f : Int) : Option Y1_40 := iter c195_L2 (b195_2 k) a ((), (x, (), ()), b, c, e, f, ())
def S195 (k : Nat) (a : Int × List (Int × Int)) : Option Y1_40 :=
 L195_2 k k 0 ([] : List Int) a.2 (a.2.length : Int) 0
def F195 : Fn := ⟨[u1_12], [u1_17, u1_13], fun k x => S195 k x.1⟩
theorem ok195 : O 195 F195 := okF Oz [(3, 2)] (fun k => (.loop 2 c195_L2 (b195_2 k) (fun g => .nil) .nil)) Tryz.func195 rfl
def S217 (k : Nat) (a : Int) : Option Y1_30 :=
 (bif decide (a < 0) then
  none
 else
  (bif decide ((IntKind.i64.wrap (a - 0)) > 0) then
   az ([] : List Int) (IntKind.i64.wrap (a - 0)) 8 0 fun r0 =>
   sx r0 0 0 <|
   some ((r0.take 0, ()), ())
  else
   some (([], ()), ())))
def F217 : Fn := ⟨[.pv (.nil), pI], [u1_13], fun k x => S217 k x.2.1⟩
theorem ok217 : O 217 F217 := okF Oz [(25, 1)] On Tryz.func217 rfl
abbrev c196_L11 : Cut := ⟨[6, 25, 26, 27], [.own 3 (.int .i64), .cell (.sl 57 Y1_13), cI, cI], [], 36, []⟩
def l196_11 (k : Nat) (g11 : (List Int) → Y1_36 → Int → Int → Option Y1_30) (a : List Int) (b : List (List Int)) (c e : Int) : Option Y1_30 :=
 (bif decide (e < c) then
  ix b e <|
  ap a (rd b e []) 8 fun r1 =>
  g11 r1 b c (IntKind.i64.wrap (e + 1))
 else
  some ((a, ()), ()))
def b196_11 (k : Nat) : Xx (((Unit) × (List Int) × Y1_36 × Int × Int × Unit) → Option Y1_30) := iV (iU (iL (iL (iL (iL iE))))) (l196_11 k)
def L196_11 (k a : Nat) (b : List Int) (c : List (List Int)) (e f : Int) : Option Y1_30 := iter c196_L11 (b196_11 k) a ((), b, c, e, f, ())
abbrev c196_L3 : Cut := ⟨[0, 3, 9, 10, 11], [.cell (.sl 57 Y1_13), cI, .cell (.sl 57 Y1_13), cI, cI], [], 36, []⟩
def l196_3 (k : Nat) (g3 : Y1_36 → Int → Y1_36 → Int → Int → Option Y1_30) (a : List (List Int)) (b : Int) (c : List (List Int)) (e f : Int) : Option Y1_30 :=
 (bif decide (f < e) then
  ix c f <|
  (bif decide ((IntKind.i64.wrap (b + ((rd c f []).length : Int))) < 0) then
   none
  else
   g3 a (IntKind.i64.wrap (b + ((rd c f []).length : Int))) c e (IntKind.i64.wrap (f + 1)))
 else
  (S217 k b).bind fun q0 =>
  L196_11 k k q0.1.1 a (a.length : Int) 0)
def b196_3 (k : Nat) : Xx (((Unit) × Y1_36 × Int × Y1_36 × Int × Int × Unit) → Option Y1_30) := iV (iU (iL (iL (iL (iL (iL iE)))))) (l196_3 k)
def L196_3 (k a : Nat) (b : List (List Int)) (c : Int) (e : List (List Int)) (f h : Int) : Option Y1_30 := iter c196_L3 (b196_3 k) a ((), b, c, e, f, h, ())
def S196 (k : Nat) (a : List (List Int)) : Option Y1_30 :=
 L196_3 k k a 0 a (a.length : Int) 0
def F196 : Fn := ⟨[.val ⟨false, (.sl 57 Y1_13), false⟩], [u1_13], fun k x => S196 k x.1⟩
theorem ok196 : O 196 F196 := okF (Om ok217 Oz) [] (fun k => (.loop 11 c196_L11 (b196_11 k) (fun g => .nil) (.loop 3 c196_L3 (b196_3 k) (fun g => .nil) .nil))) Tryz.func196 rfl
def S171 (k : Nat) (x : Int × (Int × Int) × (Int × Int) × ((List Int) × List Int) × Y1_31 × Int) : Option Y1_30 :=
 (S194 k x.2.2.2.1).bind fun q0 =>
 (S195 k x.2.2.2.2.1).bind fun q1 =>
 (S196 k ([q0.1.2.1, q1.1.2.1] : List (List Int))).bind fun q2 =>
 some ((q2.1.1, ()), ())
def F171 : Fn := ⟨[.val ⟨true, Y1_5, false⟩], [u1_13], fun k x => S171 k x.1⟩
theorem ok171 : O 171 F171 := okF (Om ok194 <| Om ok195 <| Om ok196 Oz) [] On Tryz.func171 rfl
def S134 (k : Nat) (a : Y1_35 × List Y1_6) (b : Int × Int) : Option (((Y1_35 × List Y1_6) × (List Int) × Bool × Unit) × Unit) :=
 (S104 k a).bind fun q0 =>
 (S163 k a b).bind fun q1 =>
 (bif !q1.1.2.1 then
  some ((q0.1.1, [], false, ()), ())
 else
  ix a.2 q1.1.1 <|
  (bif (rd a.2 q1.1.1 (0, (0, 0), (0, 0), ([], []), (0, []), 0)).1 == 1 then
   some ((q0.1.1, [], false, ()), ())
  else
   (S170 k q0.1.1.1 b).bind fun q2 =>
   ix q0.1.1.2 q1.1.1 <|
   ix a.2 q1.1.1 <|
   (S171 k (rd a.2 q1.1.1 (0, (0, 0), (0, 0), ([], []), (0, []), 0))).bind fun q3 =>
   some (((q2.1.1, upd q0.1.1.2 q1.1.1 (0, (0, 0), (0, 0), ([], []), (0, []), 0)), q3.1.1, true, ()), ())))
def F134 : Fn := ⟨[u1_14, .val ⟨true, Y1_15, false⟩], [u1_18, u1_13, rB], fun k x => S134 k x.1 x.2.1⟩
theorem ok134 : O 134 F134 := okF (Om ok104 <| Om ok163 <| Om ok170 <| Om ok171 Oz) [] On Tryz.func134 rfl
def S129a (k : Nat) (a b : Int) (c : List Y1_7) (e : List (PN Int 5)) (f h i : Bool) (l : List Y1_2) (m : List Int) (n : List Bool) (o : List Y1_6) (p : List Int) (s : List Bool) (t u v w : Int) (y z A : List Y1_12) (B C D G H : Int) (I : List (PN Int 6)) (J K M N O P Q : Int) : Option Y1_32 :=
 ap I ([(a, 12, 0, O, P, Q)] : List (PN Int 6)) 48 fun r0 =>
 some ((), (a, b, c, e, f, h, i, l, m, n, o, p, s, t, u, v, w, y, z, A, B, C, D, G, H, r0, J, K, M, N, ()), ())
def F129a : Fn := ⟨[.mbox 160 [cI, cI, .cell (.sl 30 Y1_4), .cell (.sl 43 Y1_28), .cell .bool, .cell .bool, .cell .bool, .cell Y1_45, .own 3 (.int .i64), .own 4 .bool, .own 177 Y1_5, .cell Y1_13, .cell Y1_41, cI, cI, cI, cI, .cell Y1_14, .cell Y1_14, .cell Y1_14, cI, cI, cI, cI, .cell (.int .u32), .own 73 Y1_26, cI, cI, cI, cI], pI, pI, pI], [], fun k ((a, b, c, e, f, h, i, l, m, n, o, p, s, t, u, v, w, y, z, A, B, C, D, G, H, I, J, K, M, N, _), O, P, Q, _) => S129a k a b c e f h i l m n o p s t u v w y z A B C D G H I J K M N O P Q⟩
theorem ok129a : O 129 F129a := okF Oz [] On Tryz.func129 rfl
abbrev c96_L5 : Cut := ⟨[0, 33, 34, 35], [.pin false 0, .own 3 (.int .i64), cI, cI], [.mbox 160 [cI, cI, .cell (.sl 30 Y1_4), .cell (.sl 43 Y1_28), .cell .bool, .cell .bool, .cell .bool, .cell Y1_45, .own 3 (.int .i64), .own 4 .bool, .own 177 Y1_5, .cell Y1_13, .cell Y1_41, cI, cI, cI, cI, .cell Y1_14, .cell Y1_14, .cell Y1_14, cI, cI, cI, cI, .cell (.int .u32), .own 73 Y1_26, cI, cI, cI, cI]], 43, []⟩
def l96_5 (k : Nat) (g5 : Int → Int → (List Y1_7) → (List (PN Int 5)) → Bool → Bool → Bool → (List Y1_2) → (List Int) → (List Bool) → (List Y1_6) → (List Int) → (List Bool) → Int → Int → Int → Int → (List Y1_12) → (List Y1_12) → (List Y1_12) → Int → Int → Int → Int → Int → (List (PN Int 6)) → Int → Int → Int → Int → (List Int) → Int → Int → Option Y1_32) (a b : Int) (c : List Y1_7) (e : List (PN Int 5)) (f h i : Bool) (l : List Y1_2) (m : List Int) (n : List Bool) (o : List Y1_6) (p : List Int) (s : List Bool) (t u v w : Int) (y z A : List Y1_12) (B C D G H : Int) (I : List (PN Int 6)) (J K M N : Int) (O : List Int) (P Q : Int) : Option Y1_32 :=
 (bif decide (Q < P) then
  ix O Q <|
  (S129a k a b c e f h i l m n o p s t u v w y z A B C D G H I J K M N (rd O Q 0) 0 15).bind fun q1 =>
  K30 (g5) q1.2.1 O P (IntKind.i64.wrap (Q + 1))
 else
  some ((), (a, b, c, e, f, h, i, l, m, n, o, p, s, t, u, v, w, y, z, A, B, C, D, G, H, I, J, K, M, N, ()), ()))
def b96_5 (k : Nat) : Xx (((Y1_3 × Unit) × Unit × (List Int) × Int × Int × Unit) → Option Y1_32) := iV (iN (iN (iL (iL (iL (iL (iL (iL (iL (iL (iL (iL (iL (iL (iL (iL (iL (iL (iL (iL (iL (iL (iL (iL (iL (iL (iL (iL (iL (iL (iL (iL iE)))))))))))))))))))))))))))))) iE) (iU (iL (iL (iL iE))))) (l96_5 k)
def L96_5 (k a : Nat) (b c : Int) (e : List Y1_7) (f : List (PN Int 5)) (h i l : Bool) (m : List Y1_2) (n : List Int) (o : List Bool) (p : List Y1_6) (s : List Int) (t : List Bool) (u v w y : Int) (z A B : List Y1_12) (C D G H I : Int) (J : List (PN Int 6)) (K M N O : Int) (P : List Int) (Q T : Int) : Option Y1_32 := iter c96_L5 (b96_5 k) a (((b, c, e, f, h, i, l, m, n, o, p, s, t, u, v, w, y, z, A, B, C, D, G, H, I, J, K, M, N, O, ()), ()), (), P, Q, T, ())
def S96 (k : Nat) (a b : Int) (c : List Y1_7) (e : List (PN Int 5)) (f h i : Bool) (l : List Y1_2) (m : List Int) (n : List Bool) (o : List Y1_6) (p : List Int) (s : List Bool) (t u v w : Int) (y z A : List Y1_12) (B C D G H : Int) (I : List (PN Int 6)) (J K M N : Int) : Option Y1_32 :=
 (S134 k ((m, n), o) (B, C)).bind fun q0 =>
 (bif !q0.1.2.2.1 then
  some ((), (a, b, c, e, f, h, i, l, m, n, o, p, s, t, u, v, w, y, z, A, B, C, D, G, H, I, 3, K, M, N, ()), ())
 else
  L96_5 k k a b c e f h i l q0.1.1.1.1 q0.1.1.1.2 q0.1.1.2 p s t u v w y z A B C D G H I J K M N q0.1.2.1 (q0.1.2.1.length : Int) 0)
def F96 : Fn := ⟨[u1_0], [], fun k ((a, b, c, e, f, h, i, l, m, n, o, p, s, t, u, v, w, y, z, A, B, C, D, G, H, I, J, K, M, N, _), _) => S96 k a b c e f h i l m n o p s t u v w y z A B C D G H I J K M N⟩
theorem ok96 : O 96 F96 := okF (Om ok129a <| Om ok134 Oz) [] (fun k => (.loop 5 c96_L5 (b96_5 k) (fun g => .nil) .nil)) Tryz.func96 rfl
def S97 (k : Nat) (a b : Int) (c : List Y1_7) (e : List (PN Int 5)) (f h i : Bool) (l : List Y1_2) (m : List Int) (n : List Bool) (o : List Y1_6) (p : List Int) (s : List Bool) (t u v w : Int) (y z A : List Y1_12) (B C D G H : Int) (I : List (PN Int 6)) (J K M N : Int) : Option Y1_32 :=
 some ((), (a, b, c, e, f, h, i, l, m, n, o, p, s, t, u, v, w, y, z, A, B, C, D, G, H, I, 1, K, M, N, ()), ())
def F97 : Fn := ⟨[u1_0], [], fun k ((a, b, c, e, f, h, i, l, m, n, o, p, s, t, u, v, w, y, z, A, B, C, D, G, H, I, J, K, M, N, _), _) => S97 k a b c e f h i l m n o p s t u v w y z A B C D G H I J K M N⟩
theorem ok97 : O 97 F97 := okF Oz [] On Tryz.func97 rfl
def S57 (k : Nat) (c : Y1_49) (m9 : Int × Y1_7 × (Int × Int) × Int × Int × Int) : Option ((Y1_47 × (List (PN Int 6)) × (Int × (Int × Int) × Int) × Unit) × Unit) :=
 (bif m9.1 == 1 then
  (S88 k c.1 c.2.1 c.2.2.1 c.2.2.2.1 c.2.2.2.2.1 c.2.2.2.2.2.1 c.2.2.2.2.2.2.1 c.2.2.2.2.2.2.2.1 c.2.2.2.2.2.2.2.2.1.1.1 c.2.2.2.2.2.2.2.2.1.1.2 c.2.2.2.2.2.2.2.2.1.2 c.2.2.2.2.2.2.2.2.2.1 c.2.2.2.2.2.2.2.2.2.2 m9.1 m9.2.1.1 m9.2.1.2.1 m9.2.1.2.2.1 m9.2.1.2.2.2.1 m9.2.1.2.2.2.2.1 m9.2.1.2.2.2.2.2 m9.2.2.1.1 m9.2.2.1.2 m9.2.2.2.1 m9.2.2.2.2.1 m9.2.2.2.2.2 ([] : List (PN Int 6)) 0 0 0 0).bind fun (_, (a, b, e, f, h, i, l, m, n, o, p, s, t, _, _, _, _, _, _, _, _, _, _, _, _, u, v, w, y, z, _), _) =>
  (S98 k (a, b, e, f, h, i, l, m, ((n, o), p), s, t)).bind fun q1 =>
  some ((q1.1.1, u, (v, (w, y), z), ()), ())
 else
  (bif m9.1 == 2 then
   (S89 k c.1 c.2.1 c.2.2.1 c.2.2.2.1 c.2.2.2.2.1 c.2.2.2.2.2.1 c.2.2.2.2.2.2.1 c.2.2.2.2.2.2.2.1 c.2.2.2.2.2.2.2.2.1.1.1 c.2.2.2.2.2.2.2.2.1.1.2 c.2.2.2.2.2.2.2.2.1.2 c.2.2.2.2.2.2.2.2.2.1 c.2.2.2.2.2.2.2.2.2.2 m9.1 m9.2.1.1 m9.2.1.2.1 m9.2.1.2.2.1 m9.2.1.2.2.2.1 m9.2.1.2.2.2.2.1 m9.2.1.2.2.2.2.2 m9.2.2.1.1 m9.2.2.1.2 m9.2.2.2.1 m9.2.2.2.2.1 m9.2.2.2.2.2 ([] : List (PN Int 6)) 0 0 0 0).bind fun (_, (A, B, C, D, G, H, I, J, K, M, N, O, P, _, _, _, _, _, _, _, _, _, _, _, _, Q, T, U, V, W, _), _) =>
   (S98 k (A, B, C, D, G, H, I, J, ((K, M), N), O, P)).bind fun q3 =>
   some ((q3.1.1, Q, (T, (U, V), W), ()), ())
  else
   (bif m9.1 == 3 then
    (S89 k c.1 c.2.1 c.2.2.1 c.2.2.2.1 c.2.2.2.2.1 c.2.2.2.2.2.1 c.2.2.2.2.2.2.1 c.2.2.2.2.2.2.2.1 c.2.2.2.2.2.2.2.2.1.1.1 c.2.2.2.2.2.2.2.2.1.1.2 c.2.2.2.2.2.2.2.2.1.2 c.2.2.2.2.2.2.2.2.2.1 c.2.2.2.2.2.2.2.2.2.2 m9.1 m9.2.1.1 m9.2.1.2.1 m9.2.1.2.2.1 m9.2.1.2.2.2.1 m9.2.1.2.2.2.2.1 m9.2.1.2.2.2.2.2 m9.2.2.1.1 m9.2.2.1.2 m9.2.2.2.1 m9.2.2.2.2.1 m9.2.2.2.2.2 ([] : List (PN Int 6)) 0 0 0 0).bind fun (_, (X, Z, a1, b1, c1, e1, f1, h1, i1, l1, m1, n1, o1, _, _, _, _, _, _, _, _, _, _, _, _, p1, s1, t1, u1, v1, _), _) =>
    (S98 k (X, Z, a1, b1, c1, e1, f1, h1, ((i1, l1), m1), n1, o1)).bind fun q5 =>
    some ((q5.1.1, p1, (s1, (t1, u1), v1), ()), ())
   else
    (bif m9.1 == 4 then
     (S89 k c.1 c.2.1 c.2.2.1 c.2.2.2.1 c.2.2.2.2.1 c.2.2.2.2.2.1 c.2.2.2.2.2.2.1 c.2.2.2.2.2.2.2.1 c.2.2.2.2.2.2.2.2.1.1.1 c.2.2.2.2.2.2.2.2.1.1.2 c.2.2.2.2.2.2.2.2.1.2 c.2.2.2.2.2.2.2.2.2.1 c.2.2.2.2.2.2.2.2.2.2 m9.1 m9.2.1.1 m9.2.1.2.1 m9.2.1.2.2.1 m9.2.1.2.2.2.1 m9.2.1.2.2.2.2.1 m9.2.1.2.2.2.2.2 m9.2.2.1.1 m9.2.2.1.2 m9.2.2.2.1 m9.2.2.2.2.1 m9.2.2.2.2.2 ([] : List (PN Int 6)) 0 0 0 0).bind fun (_, (w1, y1, z1, a2, b2, c2, e2, f2, h2, i2, l2, m2, n2, _, _, _, _, _, _, _, _, _, _, _, _, o2, p2, s2, t2, u2, _), _) =>
     (S98 k (w1, y1, z1, a2, b2, c2, e2, f2, ((h2, i2), l2), m2, n2)).bind fun q7 =>
     some ((q7.1.1, o2, (p2, (s2, t2), u2), ()), ())
    else
     (bif m9.1 == 5 then
      (S90 k c.1 c.2.1 c.2.2.1 c.2.2.2.1 c.2.2.2.2.1 c.2.2.2.2.2.1 c.2.2.2.2.2.2.1 c.2.2.2.2.2.2.2.1 c.2.2.2.2.2.2.2.2.1.1.1 c.2.2.2.2.2.2.2.2.1.1.2 c.2.2.2.2.2.2.2.2.1.2 c.2.2.2.2.2.2.2.2.2.1 c.2.2.2.2.2.2.2.2.2.2 m9.1 m9.2.1.1 m9.2.1.2.1 m9.2.1.2.2.1 m9.2.1.2.2.2.1 m9.2.1.2.2.2.2.1 m9.2.1.2.2.2.2.2 m9.2.2.1.1 m9.2.2.1.2 m9.2.2.2.1 m9.2.2.2.2.1 m9.2.2.2.2.2 ([] : List (PN Int 6)) 0 0 0 0).bind fun (_, (v2, w2, y2, z2, a3, b3, c3, e3, f3, h3, i3, l3, m3, _, _, _, _, _, _, _, _, _, _, _, _, n3, o3, p3, s3, t3, _), _) =>
      (S98 k (v2, w2, y2, z2, a3, b3, c3, e3, ((f3, h3), i3), l3, m3)).bind fun q9 =>
      some ((q9.1.1, n3, (o3, (p3, s3), t3), ()), ())
     else
      (bif m9.1 == 6 then
       (S91 k c.1 c.2.1 c.2.2.1 c.2.2.2.1 c.2.2.2.2.1 c.2.2.2.2.2.1 c.2.2.2.2.2.2.1 c.2.2.2.2.2.2.2.1 c.2.2.2.2.2.2.2.2.1.1.1 c.2.2.2.2.2.2.2.2.1.1.2 c.2.2.2.2.2.2.2.2.1.2 c.2.2.2.2.2.2.2.2.2.1 c.2.2.2.2.2.2.2.2.2.2 m9.1 m9.2.1.1 m9.2.1.2.1 m9.2.1.2.2.1 m9.2.1.2.2.2.1 m9.2.1.2.2.2.2.1 m9.2.1.2.2.2.2.2 m9.2.2.1.1 m9.2.2.1.2 m9.2.2.2.1 m9.2.2.2.2.1 m9.2.2.2.2.2 ([] : List (PN Int 6)) 0 0 0 0).bind fun (_, (u3, v3, w3, y3, z3, a4, b4, c4, e4, f4, h4, i4, l4, _, _, _, _, _, _, _, _, _, _, _, _, m4, n4, o4, p4, s4, _), _) =>
       (S98 k (u3, v3, w3, y3, z3, a4, b4, c4, ((e4, f4), h4), i4, l4)).bind fun q11 =>
       some ((q11.1.1, m4, (n4, (o4, p4), s4), ()), ())
      else
       (bif m9.1 == 7 then
        (S92 k c.1 c.2.1 c.2.2.1 c.2.2.2.1 c.2.2.2.2.1 c.2.2.2.2.2.1 c.2.2.2.2.2.2.1 c.2.2.2.2.2.2.2.1 c.2.2.2.2.2.2.2.2.1.1.1 c.2.2.2.2.2.2.2.2.1.1.2 c.2.2.2.2.2.2.2.2.1.2 c.2.2.2.2.2.2.2.2.2.1 c.2.2.2.2.2.2.2.2.2.2 m9.1 m9.2.1.1 m9.2.1.2.1 m9.2.1.2.2.1 m9.2.1.2.2.2.1 m9.2.1.2.2.2.2.1 m9.2.1.2.2.2.2.2 m9.2.2.1.1 m9.2.2.1.2 m9.2.2.2.1 m9.2.2.2.2.1 m9.2.2.2.2.2 ([] : List (PN Int 6)) 0 0 0 0).bind fun (_, (t4, u4, v4, w4, y4, z4, a5, b5, c5, e5, f5, h5, i5, _, _, _, _, _, _, _, _, _, _, _, _, l5, m5, n5, o5, p5, _), _) =>
        (S98 k (t4, u4, v4, w4, y4, z4, a5, b5, ((c5, e5), f5), h5, i5)).bind fun q13 =>
        some ((q13.1.1, l5, (m5, (n5, o5), p5), ()), ())
       else
        (bif m9.1 == 8 then
         (S93 k c.1 c.2.1 c.2.2.1 c.2.2.2.1 c.2.2.2.2.1 c.2.2.2.2.2.1 c.2.2.2.2.2.2.1 c.2.2.2.2.2.2.2.1 c.2.2.2.2.2.2.2.2.1.1.1 c.2.2.2.2.2.2.2.2.1.1.2 c.2.2.2.2.2.2.2.2.1.2 c.2.2.2.2.2.2.2.2.2.1 c.2.2.2.2.2.2.2.2.2.2 m9.1 m9.2.1.1 m9.2.1.2.1 m9.2.1.2.2.1 m9.2.1.2.2.2.1 m9.2.1.2.2.2.2.1 m9.2.1.2.2.2.2.2 m9.2.2.1.1 m9.2.2.1.2 m9.2.2.2.1 m9.2.2.2.2.1 m9.2.2.2.2.2 ([] : List (PN Int 6)) 0 0 0 0).bind fun (_, (s5, t5, u5, v5, w5, y5, z5, a6, b6, c6, e6, f6, h6, _, _, _, _, _, _, _, _, _, _, _, _, i6, l6, m6, n6, o6, _), _) =>
         (S98 k (s5, t5, u5, v5, w5, y5, z5, a6, ((b6, c6), e6), f6, h6)).bind fun q15 =>
         some ((q15.1.1, i6, (l6, (m6, n6), o6), ()), ())
        else
         (bif m9.1 == 9 then
          (S94 k c.1 c.2.1 c.2.2.1 c.2.2.2.1 c.2.2.2.2.1 c.2.2.2.2.2.1 c.2.2.2.2.2.2.1 c.2.2.2.2.2.2.2.1 c.2.2.2.2.2.2.2.2.1.1.1 c.2.2.2.2.2.2.2.2.1.1.2 c.2.2.2.2.2.2.2.2.1.2 c.2.2.2.2.2.2.2.2.2.1 c.2.2.2.2.2.2.2.2.2.2 m9.1 m9.2.1.1 m9.2.1.2.1 m9.2.1.2.2.1 m9.2.1.2.2.2.1 m9.2.1.2.2.2.2.1 m9.2.1.2.2.2.2.2 m9.2.2.1.1 m9.2.2.1.2 m9.2.2.2.1 m9.2.2.2.2.1 m9.2.2.2.2.2 ([] : List (PN Int 6)) 0 0 0 0).bind fun (_, (p6, s6, t6, u6, v6, w6, y6, z6, a7, b7, c7, e7, f7, _, _, _, _, _, _, _, _, _, _, _, _, h7, i7, l7, m7, n7, _), _) =>
          (S98 k (p6, s6, t6, u6, v6, w6, y6, z6, ((a7, b7), c7), e7, f7)).bind fun q17 =>
          some ((q17.1.1, h7, (i7, (l7, m7), n7), ()), ())
         else
          (bif m9.1 == 10 then
           (S95 k c.1 c.2.1 c.2.2.1 c.2.2.2.1 c.2.2.2.2.1 c.2.2.2.2.2.1 c.2.2.2.2.2.2.1 c.2.2.2.2.2.2.2.1 c.2.2.2.2.2.2.2.2.1.1.1 c.2.2.2.2.2.2.2.2.1.1.2 c.2.2.2.2.2.2.2.2.1.2 c.2.2.2.2.2.2.2.2.2.1 c.2.2.2.2.2.2.2.2.2.2 m9.1 m9.2.1.1 m9.2.1.2.1 m9.2.1.2.2.1 m9.2.1.2.2.2.1 m9.2.1.2.2.2.2.1 m9.2.1.2.2.2.2.2 m9.2.2.1.1 m9.2.2.1.2 m9.2.2.2.1 m9.2.2.2.2.1 m9.2.2.2.2.2 ([] : List (PN Int 6)) 0 0 0 0).bind fun (_, (o7, p7, s7, t7, u7, v7, w7, y7, z7, a8, b8, c8, e8, _, _, _, _, _, _, _, _, _, _, _, _, f8, h8, i8, l8, m8, _), _) =>
           (S98 k (o7, p7, s7, t7, u7, v7, w7, y7, ((z7, a8), b8), c8, e8)).bind fun q19 =>
           some ((q19.1.1, f8, (h8, (i8, l8), m8), ()), ())
          else
           (bif m9.1 == 11 then
            (S96 k c.1 c.2.1 c.2.2.1 c.2.2.2.1 c.2.2.2.2.1 c.2.2.2.2.2.1 c.2.2.2.2.2.2.1 c.2.2.2.2.2.2.2.1 c.2.2.2.2.2.2.2.2.1.1.1 c.2.2.2.2.2.2.2.2.1.1.2 c.2.2.2.2.2.2.2.2.1.2 c.2.2.2.2.2.2.2.2.2.1 c.2.2.2.2.2.2.2.2.2.2 m9.1 m9.2.1.1 m9.2.1.2.1 m9.2.1.2.2.1 m9.2.1.2.2.2.1 m9.2.1.2.2.2.2.1 m9.2.1.2.2.2.2.2 m9.2.2.1.1 m9.2.2.1.2 m9.2.2.2.1 m9.2.2.2.2.1 m9.2.2.2.2.2 ([] : List (PN Int 6)) 0 0 0 0).bind fun (_, (n8, o8, p8, s8, t8, u8, v8, w8, y8, z8, a9, b9, c9, _, _, _, _, _, _, _, _, _, _, _, _, e9, f9, h9, i9, l9, _), _) =>
            (S98 k (n8, o8, p8, s8, t8, u8, v8, w8, ((y8, z8), a9), b9, c9)).bind fun q21 =>
            some ((q21.1.1, e9, (f9, (h9, i9), l9), ()), ())
           else
            (S97 k c.1 c.2.1 c.2.2.1 c.2.2.2.1 c.2.2.2.2.1 c.2.2.2.2.2.1 c.2.2.2.2.2.2.1 c.2.2.2.2.2.2.2.1 c.2.2.2.2.2.2.2.2.1.1.1 c.2.2.2.2.2.2.2.2.1.1.2 c.2.2.2.2.2.2.2.2.1.2 c.2.2.2.2.2.2.2.2.2.1 c.2.2.2.2.2.2.2.2.2.2 m9.1 m9.2.1.1 m9.2.1.2.1 m9.2.1.2.2.1 m9.2.1.2.2.2.1 m9.2.1.2.2.2.2.1 m9.2.1.2.2.2.2.2 m9.2.2.1.1 m9.2.2.1.2 m9.2.2.2.1 m9.2.2.2.2.1 m9.2.2.2.2.2 ([] : List (PN Int 6)) 0 0 0 0).bind fun q22 =>
            (S98 k (q22.2.1.1, q22.2.1.2.1, q22.2.1.2.2.1, q22.2.1.2.2.2.1, q22.2.1.2.2.2.2.1, q22.2.1.2.2.2.2.2.1, q22.2.1.2.2.2.2.2.2.1, q22.2.1.2.2.2.2.2.2.2.1, ((q22.2.1.2.2.2.2.2.2.2.2.1, q22.2.1.2.2.2.2.2.2.2.2.2.1), q22.2.1.2.2.2.2.2.2.2.2.2.2.1), q22.2.1.2.2.2.2.2.2.2.2.2.2.2.1, q22.2.1.2.2.2.2.2.2.2.2.2.2.2.2.1)).bind fun q23 =>
            some ((q23.1.1, q22.2.1.2.2.2.2.2.2.2.2.2.2.2.2.2.2.2.2.2.2.2.2.2.2.2.2.2.1, (q22.2.1.2.2.2.2.2.2.2.2.2.2.2.2.2.2.2.2.2.2.2.2.2.2.2.2.2.2.1, (q22.2.1.2.2.2.2.2.2.2.2.2.2.2.2.2.2.2.2.2.2.2.2.2.2.2.2.2.2.2.1, q22.2.1.2.2.2.2.2.2.2.2.2.2.2.2.2.2.2.2.2.2.2.2.2.2.2.2.2.2.2.2.1), q22.2.1.2.2.2.2.2.2.2.2.2.2.2.2.2.2.2.2.2.2.2.2.2.2.2.2.2.2.2.2.2.1), ()), ()))))))))))))
def F57 : Fn := ⟨[.val ⟨true, Y1_18, false⟩, .val ⟨true, (.pair (.int .i64) (.pair Y1_4 (.pair Y1_15 (.pair (.int .i64) Y1_24)))), false⟩], [.val ⟨true, Y1_18, true⟩, u1_9, .val ⟨true, (.pair (.int .i64) (.pair Y1_15 (.int .i64))), true⟩], fun k x => S57 k x.1 x.2.1⟩
theorem ok57 : O 57 F57 := okF (Om ok88 <| Om ok89 <| Om ok90 <| Om ok91 <| Om ok92 <| Om ok93 <| Om ok94 <| Om ok95 <| Om ok96 <| Om ok97 <| Om ok98 Oz) [(14, 2)] On Tryz.func57 rfl
def S140 (k : Nat) (a b : Int) (c : List Y1_7) (e : List (PN Int 5)) (f h i : Bool) (l : List Y1_2) (m : List Int) (n : List Bool) (o : List Y1_6) (p : List Int) (s : List Bool) (t : List (PN Int 6)) (u : PN Int 6) : Option Y1_16 :=
 ap t ([(a, u.2)] : List (PN Int 6)) 48 fun r0 =>
 some ((), (a, b, c, e, f, h, i, l, m, n, o, p, s, r0, ()), ())
def F140 : Fn := ⟨[u1_2, .val ⟨true, Y1_26, false⟩], [], fun k ((a, b, c, e, f, h, i, l, m, n, o, p, s, t, _), u, _) => S140 k a b c e f h i l m n o p s t u⟩
theorem ok140 : O 140 F140 := okF Oz [] On Tryz.func140 rfl
def S197 (k : Nat) (a : Y1_25) : Option Y1_51 := cloneSem 16 170 Y1_15 k (a, ())
def F197 : Fn := ⟨clonePs 170 Y1_15, cloneRs 170 Y1_15, cloneSem 16 170 Y1_15⟩
theorem ok197 : O 197 F197 := clone_ok E0_ok mix Tryz.func197 rfl (by kernel_rfl) (by kernel_rfl) (fun k => by kernel_rfl) (fun k xs => by kernel_rfl) (fun k xs => by kernel_rfl)
def S212 (k : Nat) (a : Y1_25) (b : Int) : Option Y1_50 :=
 (bif decide (b ≥ 0) then
  some ((decide (b < (a.length : Int)), ()), ())
 else
  some ((false, ()), ()))
def F212 : Fn := ⟨[u1_11, pI], [rB], fun k x => S212 k x.1 x.2.1⟩
theorem ok212 : O 212 F212 := okF Oz [] On Tryz.func212 rfl
def S198 (k : Nat) (a : Y1_25) (b c : Int) : Option Y1_50 :=
 (S212 k a b).bind fun q0 =>
 (bif q0.1.1 then
  (bif decide (c ≥ 0) then
   ix a b <|
   some (((rd a b (0, 0)).2 == (IntKind.i64.wrap (c + 1)), ()), ())
  else
   some ((false, ()), ()))
 else
  some ((false, ()), ()))
def F198 : Fn := ⟨[u1_11, pI, pI], [rB], fun k (a, b, c, _) => S198 k a b c⟩
theorem ok198 : O 198 F198 := okF (Om ok212 Oz) [] On Tryz.func198 rfl
abbrev c176_L3 : Cut := ⟨[0, 1, 5, 10, 11], [.cell Y1_37, cI, .own 170 Y1_15, cI, cI], [], 24, []⟩
def l176_3 (k : Nat) (g3 : Y1_17 → Int → Y1_17 → Int → Int → Option Y1_51) (a : Y1_25) (b : Int) (c : Y1_25) (e f : Int) : Option Y1_51 :=
 (bif decide (f < e) then
  (S198 k a f b).bind fun q1 =>
  (bif q1.1.1 then
   ix c f <|
   g3 a b (upd c f ((rd c f (0, 0)).1, 0)) e (IntKind.i64.wrap (f + 1))
  else
   g3 a b c e (IntKind.i64.wrap (f + 1)))
 else
  some ((c, ()), ()))
def b176_3 (k : Nat) : Xx (((Unit) × Y1_17 × Int × Y1_17 × Int × Int × Unit) → Option Y1_51) := iV (iU (iL (iL (iL (iL (iL iE)))))) (l176_3 k)
def L176_3 (k a : Nat) (b : Y1_25) (c : Int) (e : Y1_25) (f h : Int) : Option Y1_51 := iter c176_L3 (b176_3 k) a ((), b, c, e, f, h, ())
def S176 (k : Nat) (a : Y1_25) (b : Int) : Option Y1_51 :=
 (S197 k a).bind fun q0 =>
 L176_3 k k a b q0.1.1 (q0.1.1.length : Int) 0
def F176 : Fn := ⟨[u1_11, pI], [u1_15], fun k x => S176 k x.1 x.2.1⟩
theorem ok176 : O 176 F176 := okF (Om ok197 <| Om ok198 Oz) [] (fun k => (.loop 3 c176_L3 (b176_3 k) (fun g => .nil) .nil)) Tryz.func176 rfl
abbrev c162a_L1 : Cut := ⟨[0, 1, 11, 12, 13], [.pin false 0, .cell Y1_37, .own 3 (.int .i64), cI, cI], [.mbox 166 [cI, cI, .own 30 Y1_4, .own 43 Y1_28, .cell .bool, .cell .bool, .cell .bool, .cell Y1_45, .own 3 (.int .i64), .own 4 .bool, .own 177 Y1_5, .own 3 (.int .i64), .own 4 .bool, .own 73 Y1_26]], 55, []⟩
def l162a_1 (k : Nat) (g1 : Y1_33) (a b : Int) (c : List Y1_7) (e : List (PN Int 5)) (f h i : Bool) (l : List Y1_2) (m : List Int) (n : List Bool) (o : List Y1_6) (p : List Int) (s : List Bool) (t : List (PN Int 6)) (u : Y1_25) (v : List Int) (w y : Int) : Option Y1_16 :=
 (bif decide (y < w) then
  ix v y <|
  ix o (rd v y 0) <|
  (bif decide (y < (u.length : Int)) then
   ix u y <|
   (bif !(beqD Y1_15 (rd o (rd v y 0) (0, (0, 0), (0, 0), ([], []), (0, []), 0)).2.2.1 (rd u y (0, 0))) then
    ix u y <|
    (S130 k ((m, n), o) (rd v y 0) ((rd o (rd v y 0) (0, (0, 0), (0, 0), ([], []), (0, []), 0)).1, (rd o (rd v y 0) (0, (0, 0), (0, 0), ([], []), (0, []), 0)).2.1, rd u y (0, 0), (rd o (rd v y 0) (0, (0, 0), (0, 0), ([], []), (0, []), 0)).2.2.2)).bind fun q1 =>
    g1 a b c e f h i l q1.1.1.1.1 q1.1.1.1.2 q1.1.1.2 p s t u v w (IntKind.i64.wrap (y + 1))
   else
    g1 a b c e f h i l m n o p s t u v w (IntKind.i64.wrap (y + 1)))
  else
   g1 a b c e f h i l m n o p s t u v w (IntKind.i64.wrap (y + 1)))
 else
  some ((), (a, b, c, e, f, h, i, l, m, n, o, p, s, t, ()), ()))
def b162a_1 (k : Nat) : Xx ((Y1_52 × Unit × Y1_17 × (List Int) × Int × Int × Unit) → Option Y1_16) := iV (iN (iN (iL (iL (iL (iL (iL (iL (iL (iL (iL (iL (iL (iL (iL (iL iE)))))))))))))) iE) (iU (iL (iL (iL (iL iE)))))) (l162a_1 k)
def L162a_1 (k a : Nat) (b c : Int) (e : List Y1_7) (f : List (PN Int 5)) (h i l : Bool) (m : List Y1_2) (n : List Int) (o : List Bool) (p : List Y1_6) (s : List Int) (t : List Bool) (u : List (PN Int 6)) (v : Y1_25) (w : List Int) (y z : Int) : Option Y1_16 := iter c162a_L1 (b162a_1 k) a (((b, c, e, f, h, i, l, m, n, o, p, s, t, u, ()), ()), (), v, w, y, z, ())
def S162a (k : Nat) (a b : Int) (c : List Y1_7) (e : List (PN Int 5)) (f h i : Bool) (l : List Y1_2) (m : List Int) (n : List Bool) (o : List Y1_6) (p : List Int) (s : List Bool) (t : List (PN Int 6)) (u : Y1_25) : Option Y1_16 :=
 (S144 k ((m, n), o)).bind fun q0 =>
 L162a_1 k k a b c e f h i l m n o p s t u q0.1.1 (q0.1.1.length : Int) 0
def F162a : Fn := ⟨[u1_2, u1_11], [], fun k ((a, b, c, e, f, h, i, l, m, n, o, p, s, t, _), u, _) => S162a k a b c e f h i l m n o p s t u⟩
theorem ok162a : O 162 F162a := okF (Om ok130 <| Om ok144 Oz) [] (fun k => (.loop 1 c162a_L1 (b162a_1 k) (fun g => .nil) .nil)) Tryz.func162 rfl
def S199 (k : Nat) (a : (List Int) × List Bool) (b : Int) : Option Y1_50 :=
 (bif decide (b ≥ 0) then
  some ((decide (b < (mn (a.1.length : Int) (a.2.length : Int))), ()), ())
 else
  some ((false, ()), ()))
def F199 : Fn := ⟨[u1_6, pI], [rB], fun k x => S199 k x.1 x.2.1⟩
theorem ok199 : O 199 F199 := okF Oz [] On Tryz.func199 rfl
def S200 (k : Nat) (a : List Bool) (b : Bool) : Option Y1_50 :=
 (S189 k a b).bind fun q0 =>
 some ((decide (q0.1.1 ≥ 0), ()), ())
def F200 : Fn := ⟨[.val ⟨false, Y1_41, false⟩, .val ⟨false, .bool, false⟩], [rB], fun k x => S200 k x.1 x.2.1⟩
theorem ok200 : O 200 F200 := okF (Om ok189 Oz) [] On Tryz.func200 rfl
def S177 (k : Nat) (a : (List Int) × List Bool) (b : Int) : Option ((Y1_35 × Bool × Bool × Unit) × Unit) :=
 (S175 k a).bind fun q0 =>
 (S199 k a b).bind fun q1 =>
 (bif !q1.1.1 then
  some ((q0.1.1, false, false, ()), ())
 else
  ix q0.1.1.1 b <|
  ix q0.1.1.1 b <|
  ix (upd q0.1.1.1 b (IntKind.i64.wrap ((rd q0.1.1.1 b 0) + 1))) b <|
  (bif (rd (upd q0.1.1.1 b (IntKind.i64.wrap ((rd q0.1.1.1 b 0) + 1))) b 0) != 2 then
   some (((upd q0.1.1.1 b (IntKind.i64.wrap ((rd q0.1.1.1 b 0) + 1)), q0.1.1.2), false, false, ()), ())
  else
   ix q0.1.1.2 b <|
   (bif rd q0.1.1.2 b false then
    some (((upd q0.1.1.1 b (IntKind.i64.wrap ((rd q0.1.1.1 b 0) + 1)), q0.1.1.2), false, false, ()), ())
   else
    ix q0.1.1.2 b <|
    (S200 k (upd q0.1.1.2 b true) false).bind fun q2 =>
    some (((upd q0.1.1.1 b (IntKind.i64.wrap ((rd q0.1.1.1 b 0) + 1)), upd q0.1.1.2 b true), true, !q2.1.1, ()), ()))))
def F177 : Fn := ⟨[u1_6, pI], [u1_7, rB, rB], fun k x => S177 k x.1 x.2.1⟩
theorem ok177 : O 177 F177 := okF (Om ok175 <| Om ok199 <| Om ok200 Oz) [] On Tryz.func177 rfl
abbrev c141_J7 : Cut := ⟨[0, 6], [.pin false 0, .cell .bool], [.mbox 166 [cI, cI, .own 30 Y1_4, .own 43 Y1_28, .cell .bool, .cell .bool, .cell .bool, .cell Y1_45, .own 3 (.int .i64), .own 4 .bool, .own 177 Y1_5, .own 3 (.int .i64), .own 4 .bool, .own 73 Y1_26]], 55, []⟩
def j141_7 (k : Nat) (t u : Int) (v : List Y1_7) (w : List (PN Int 5)) (y z A : Bool) (B : List Y1_2) (C : List Int) (D : List Bool) (G : List Y1_6) (H : List Int) (I : List Bool) (J : List (PN Int 6)) (K : Bool) : Option Y1_16 :=
 (bif K then
  (S140 k t u v w y z A B C D G H I J (0, 10, 0, 0, 0, 0)).bind fun (_, (a, b, c, e, f, _, h, i, l, m, n, o, p, s, _), _) =>
  some ((), (a, b, c, e, f, true, h, i, l, m, n, o, p, s, ()), ())
 else
  some ((), (t, u, v, w, y, z, A, B, C, D, G, H, I, J, ()), ()))
def S141 (k : Nat) (a b : Int) (c : List Y1_7) (e : List (PN Int 5)) (f h i : Bool) (l : List Y1_2) (m : List Int) (n : List Bool) (o : List Y1_6) (p : List Int) (s : List Bool) (t : List (PN Int 6)) (u : Y1_23) : Option Y1_16 :=
 (S140 k a b c e f h i l m n o p s t (0, 5, u.1, 0, 0, 0)).bind fun q0 =>
 (S146 k (q0.2.1.1, q0.2.1.2.1, q0.2.1.2.2.1, q0.2.1.2.2.2.1, q0.2.1.2.2.2.2.1, q0.2.1.2.2.2.2.2.1, q0.2.1.2.2.2.2.2.2.1, q0.2.1.2.2.2.2.2.2.2.1, ((q0.2.1.2.2.2.2.2.2.2.2.1, q0.2.1.2.2.2.2.2.2.2.2.2.1), q0.2.1.2.2.2.2.2.2.2.2.2.2.1), q0.2.1.2.2.2.2.2.2.2.2.2.2.2.1, q0.2.1.2.2.2.2.2.2.2.2.2.2.2.2.1)).bind fun q1 =>
 (S176 k q1.1.1 u.1).bind fun q2 =>
 (K14 (S162a k) q0.2.1 q2.1.1).bind fun q3 =>
 (S177 k (q3.2.1.2.2.2.2.2.2.2.2.2.2.2.1, q3.2.1.2.2.2.2.2.2.2.2.2.2.2.2.1) u.1).bind fun q4 =>
 (bif q4.1.2.1 then
  (K11 (S140 k) q3.2.1 q4.1.1.1 q4.1.1.2 q3.2.1.2.2.2.2.2.2.2.2.2.2.2.2.2.1 (0, 9, u.1, 0, 0, 0)).bind fun q5 =>
  K14 (j141_7 k) q5.2.1 q4.1.2.2.1
 else
  K11 (j141_7 k) q3.2.1 q4.1.1.1 q4.1.1.2 q3.2.1.2.2.2.2.2.2.2.2.2.2.2.2.2.1 q4.1.2.2.1)
def F141 : Fn := ⟨[u1_2, u1_19], [], fun k ((a, b, c, e, f, h, i, l, m, n, o, p, s, t, _), u, _) => S141 k a b c e f h i l m n o p s t u⟩
theorem ok141 : O 141 F141 := okF (Om ok140 <| Om ok146 <| Om ok162a <| Om ok176 <| Om ok177 Oz) [] (fun k => (.join 7 c141_J7 (fun (((a, b, c, e, f, h, i, l, m, n, o, p, s, t, _), _), _, u, _) => j141_7 k a b c e f h i l m n o p s t u) .nil)) Tryz.func141 rfl
abbrev c100_L2 : Cut := ⟨[0, 2, 9, 10, 11], [.pin false 0, .own 184 Y1_1, .cell Y1_45, cI, cI], [.mbox 166 [cI, cI, .own 30 Y1_4, .own 43 Y1_28, .cell .bool, .cell .bool, .cell .bool, .cell Y1_45, .own 3 (.int .i64), .own 4 .bool, .own 177 Y1_5, .own 3 (.int .i64), .own 4 .bool, .own 73 Y1_26]], 57, []⟩
def l100_2 (k : Nat) (g2 : Int → Int → (List Y1_7) → (List (PN Int 5)) → Bool → Bool → Bool → (List Y1_2) → (List Int) → (List Bool) → (List Y1_6) → (List Int) → (List Bool) → (List (PN Int 6)) → (List Y1_2) → (List Y1_2) → Int → Int → Option Y1_16) (a b : Int) (c : List Y1_7) (e : List (PN Int 5)) (f h i : Bool) (l : List Y1_2) (m : List Int) (n : List Bool) (o : List Y1_6) (p : List Int) (s : List Bool) (t : List (PN Int 6)) (u v : List Y1_2) (w y : Int) : Option Y1_16 :=
 (bif decide (y < w) then
  ix v y <|
  ix c (rd v y (0, 0, 0, 0, (0, prep (α := Int) 8 0, [], false), (0, prep (α := Int) 8 0, [], false), [], false)).1 <|
  (bif (IntKind.i64.wrap (a - (rd v y (0, 0, 0, 0, (0, prep (α := Int) 8 0, [], false), (0, prep (α := Int) 8 0, [], false), [], false)).2.1)) != (rd c (rd v y (0, 0, 0, 0, (0, prep (α := Int) 8 0, [], false), (0, prep (α := Int) 8 0, [], false), [], false)).1 (0, 0, 0, [], [], [])).2.2.1 then
   ap u ([rd v y (0, 0, 0, 0, (0, prep (α := Int) 8 0, [], false), (0, prep (α := Int) 8 0, [], false), [], false)] : List Y1_2) 272 fun r0 =>
   g2 a b c e f h i l m n o p s t r0 v w (IntKind.i64.wrap (y + 1))
  else
   (bif (rd v y (0, 0, 0, 0, (0, prep (α := Int) 8 0, [], false), (0, prep (α := Int) 8 0, [], false), [], false)).2.2.2.1 == 2 then
    (S140 k a b c e f h i l m n o p s t (0, 13, (rd v y (0, 0, 0, 0, (0, prep (α := Int) 8 0, [], false), (0, prep (α := Int) 8 0, [], false), [], false)).1, 0, 0, 0)).bind fun q1 =>
    K14 (g2) q1.2.1 u v w (IntKind.i64.wrap (y + 1))
   else
    (S141 k a b c e f h i l m n o p s t (rd v y (0, 0, 0, 0, (0, prep (α := Int) 8 0, [], false), (0, prep (α := Int) 8 0, [], false), [], false))).bind fun q2 =>
    K14 (g2) q2.2.1 u v w (IntKind.i64.wrap (y + 1))))
 else
  some ((), (a, b, c, e, f, h, i, u, m, n, o, p, s, t, ()), ()))
def b100_2 (k : Nat) : Xx ((Y1_52 × Unit × (List Y1_2) × (List Y1_2) × Int × Int × Unit) → Option Y1_16) := iV (iN (iN (iL (iL (iL (iL (iL (iL (iL (iL (iL (iL (iL (iL (iL (iL iE)))))))))))))) iE) (iU (iL (iL (iL (iL iE)))))) (l100_2 k)
def L100_2 (k a : Nat) (b c : Int) (e : List Y1_7) (f : List (PN Int 5)) (h i l : Bool) (m : List Y1_2) (n : List Int) (o : List Bool) (p : List Y1_6) (s : List Int) (t : List Bool) (u : List (PN Int 6)) (v w : List Y1_2) (y z : Int) : Option Y1_16 := iter c100_L2 (b100_2 k) a (((b, c, e, f, h, i, l, m, n, o, p, s, t, u, ()), ()), (), v, w, y, z, ())
def S100 (k : Nat) (a b : Int) (c : List Y1_7) (e : List (PN Int 5)) (f h i : Bool) (l : List Y1_2) (m : List Int) (n : List Bool) (o : List Y1_6) (p : List Int) (s : List Bool) (t : List (PN Int 6)) : Option Y1_16 :=
 L100_2 k k a b c e f h i l m n o p s t ([] : List Y1_2) l (l.length : Int) 0
def F100 : Fn := ⟨[u1_1], [], fun k ((a, b, c, e, f, h, i, l, m, n, o, p, s, t, _), _) => S100 k a b c e f h i l m n o p s t⟩
theorem ok100 : O 100 F100 := okF (Om ok140 <| Om ok141 Oz) [(2, 2)] (fun k => (.loop 2 c100_L2 (b100_2 k) (fun g => .nil) .nil)) Tryz.func100 rfl
abbrev c101_L1 : Cut := ⟨[0, 9, 10], [.pin false 0, cI, cI], [.mbox 166 [cI, cI, .own 30 Y1_4, .own 43 Y1_28, .cell .bool, .cell .bool, .cell .bool, .own 184 Y1_1, .own 3 (.int .i64), .own 4 .bool, .own 177 Y1_5, .own 3 (.int .i64), .own 4 .bool, .own 73 Y1_26]], 48, [(8, 3)]⟩
def l101_1 (k : Nat) (g1 : Int → Int → (List Y1_7) → (List (PN Int 5)) → Bool → Bool → Bool → (List Y1_2) → (List Int) → (List Bool) → (List Y1_6) → (List Int) → (List Bool) → (List (PN Int 6)) → Int → Int → Option Y1_16) (a b : Int) (c : List Y1_7) (e : List (PN Int 5)) (f h i : Bool) (l : List Y1_2) (m : List Int) (n : List Bool) (o : List Y1_6) (p : List Int) (s : List Bool) (t : List (PN Int 6)) (u v : Int) : Option Y1_16 :=
 (bif decide (v < u) then
  ix l v <|
  (bif (rd l v (0, 0, 0, 0, (0, prep (α := Int) 8 0, [], false), (0, prep (α := Int) 8 0, [], false), [], false)).2.2.2.1 != 2 then
   ix e (rd l v (0, 0, 0, 0, (0, prep (α := Int) 8 0, [], false), (0, prep (α := Int) 8 0, [], false), [], false)).1 <|
   (bif decide ((IntKind.i64.wrap (a - (rd l v (0, 0, 0, 0, (0, prep (α := Int) 8 0, [], false), (0, prep (α := Int) 8 0, [], false), [], false)).2.1)) ≥ (rd e (rd l v (0, 0, 0, 0, (0, prep (α := Int) 8 0, [], false), (0, prep (α := Int) 8 0, [], false), [], false)).1 (prep (α := Int) 5 0)).2.2.2.2) then
    ix l v <|
    let r0 : List Y1_2 := upd l v ((rd l v (0, 0, 0, 0, (0, prep (α := Int) 8 0, [], false), (0, prep (α := Int) 8 0, [], false), [], false)).1, (rd l v (0, 0, 0, 0, (0, prep (α := Int) 8 0, [], false), (0, prep (α := Int) 8 0, [], false), [], false)).2.1, (rd l v (0, 0, 0, 0, (0, prep (α := Int) 8 0, [], false), (0, prep (α := Int) 8 0, [], false), [], false)).2.2.1, (rd l v (0, 0, 0, 0, (0, prep (α := Int) 8 0, [], false), (0, prep (α := Int) 8 0, [], false), [], false)).2.2.2.1, (rd l v (0, 0, 0, 0, (0, prep (α := Int) 8 0, [], false), (0, prep (α := Int) 8 0, [], false), [], false)).2.2.2.2.1, (rd l v (0, 0, 0, 0, (0, prep (α := Int) 8 0, [], false), (0, prep (α := Int) 8 0, [], false), [], false)).2.2.2.2.2.1, (rd l v (0, 0, 0, 0, (0, prep (α := Int) 8 0, [], false), (0, prep (α := Int) 8 0, [], false), [], false)).2.2.2.2.2.2.1, true)
    g1 a b c e f h i r0 m n o p s t u (IntKind.i64.wrap (v + 1))
   else
    g1 a b c e f h i l m n o p s t u (IntKind.i64.wrap (v + 1)))
  else
   g1 a b c e f h i l m n o p s t u (IntKind.i64.wrap (v + 1)))
 else
  some ((), (a, b, c, e, f, h, i, l, m, n, o, p, s, t, ()), ()))
def b101_1 (k : Nat) : Xx ((Y1_52 × Unit × Int × Int × Unit) → Option Y1_16) := iV (iN (iN (iL (iL (iL (iL (iL (iL (iL (iL (iL (iL (iL (iL (iL (iL iE)))))))))))))) iE) (iU (iL (iL iE)))) (l101_1 k)
def L101_1 (k a : Nat) (b c : Int) (e : List Y1_7) (f : List (PN Int 5)) (h i l : Bool) (m : List Y1_2) (n : List Int) (o : List Bool) (p : List Y1_6) (s : List Int) (t : List Bool) (u : List (PN Int 6)) (v w : Int) : Option Y1_16 := iter c101_L1 (b101_1 k) a (((b, c, e, f, h, i, l, m, n, o, p, s, t, u, ()), ()), (), v, w, ())
def S101 (k : Nat) (a b : Int) (c : List Y1_7) (e : List (PN Int 5)) (f h i : Bool) (l : List Y1_2) (m : List Int) (n : List Bool) (o : List Y1_6) (p : List Int) (s : List Bool) (t : List (PN Int 6)) : Option Y1_16 :=
 L101_1 k k a b c e f h i l m n o p s t (l.length : Int) 0
def F101 : Fn := ⟨[u1_1], [], fun k ((a, b, c, e, f, h, i, l, m, n, o, p, s, t, _), _) => S101 k a b c e f h i l m n o p s t⟩
theorem ok101 : O 101 F101 := okF Oz [] (fun k => (.loop 1 c101_L1 (b101_1 k) (fun g => .nil) .nil)) Tryz.func101 rfl
abbrev c142_J9 : Cut := ⟨[1, 2, 3, 4, 5, 6, 7, 11, 12, 13], [.box 63 [.cell Y1_13, .cell Y1_41, .cell (.sl 177 Y1_5)], .box 63 [.own 3 (.int .i64), .own 4 .bool, .own 177 Y1_5], .own 3 (.int .i64), .own 57 Y1_13, cI, .box 177 [cI, cI, cI, cI, cI, .cell (.sl 2 (.int .i64)), .cell Y1_13, .cell (.int .u32), .cell (.sl 221 Y1_24), .cell (.int .u32)], .box 177 [cI, cI, cI, cI, cI, .own 2 (.int .i64), .own 3 (.int .i64), .cell (.int .u32), .own 221 Y1_24, .cell (.int .u32)], .cell (.sl 177 Y1_5), cI, cI], [], 61, []⟩
def j142_9 (k : Nat) (g3 : Y1_29) (a : List Int) (b : List Bool) (c : List Y1_6) (e : List Int) (f : List Bool) (h : List Y1_6) (i : List Int) (l : List (List Int)) (m x n o p s : Int) (t u : List Int) (v : Int) (w : Y1_25) (y z A B C D : Int) (G H : List Int) (I : Int) (J : Y1_25) (K : Int) (M : List Y1_6) (N O : Int) : Option Y1_19 :=
 (S159 k (z, (A, B), (C, D), (G, H), (I, J), K)).bind fun q4 =>
 ix h m <|
 ap i ([m] : List Int) 8 fun r5 =>
 (S171 k (x, (n, o), (p, s), (t, u), (v, w), y)).bind fun q6 =>
 ap l ([q6.1.1] : List (List Int)) 24 fun r7 =>
 g3 a b c e f (upd h m q4.1.1) r5 r7 M N (IntKind.i64.wrap (O + 1))
abbrev c142_L3 : Cut := ⟨[1, 2, 3, 4, 11, 12, 13], [.box 63 [.cell Y1_13, .cell Y1_41, .cell (.sl 177 Y1_5)], .box 63 [.own 3 (.int .i64), .own 4 .bool, .own 177 Y1_5], .own 3 (.int .i64), .own 57 Y1_13, .cell (.sl 177 Y1_5), cI, cI], [], 61, []⟩
def l142_3 (k : Nat) (g3 : Y1_29) (o : List Int) (p : List Bool) (s : List Y1_6) (t : List Int) (u : List Bool) (v : List Y1_6) (w : List Int) (y : List (List Int)) (z : List Y1_6) (A B : Int) : Option Y1_19 :=
 (bif decide (B < A) then
  ix z B <|
  (S105 k ((o, p), s) B).bind fun q1 =>
  (bif !q1.1.1 then
   g3 o p s t u v w y z A (IntKind.i64.wrap (B + 1))
  else
   (S165 k (rd z B (0, (0, 0), (0, 0), ([], []), (0, []), 0))).bind fun q2 =>
   (bif (rd z B (0, (0, 0), (0, 0), ([], []), (0, []), 0)).2.2.2.2.2 == q2.1.1 then
    g3 o p s t u v w y z A (IntKind.i64.wrap (B + 1))
   else
    (S160 k (rd z B (0, (0, 0), (0, 0), ([], []), (0, []), 0)).1 (rd z B (0, (0, 0), (0, 0), ([], []), (0, []), 0)).2.1).bind fun (((a, (b, c), (e, f), (h, i), (l, m), n), _), _) =>
    (bif (rd z B (0, (0, 0), (0, 0), ([], []), (0, []), 0)).1 == 1 then
     j142_9 k g3 o p s t u v w y B (rd z B (0, (0, 0), (0, 0), ([], []), (0, []), 0)).1 (rd z B (0, (0, 0), (0, 0), ([], []), (0, []), 0)).2.1.1 (rd z B (0, (0, 0), (0, 0), ([], []), (0, []), 0)).2.1.2 (rd z B (0, (0, 0), (0, 0), ([], []), (0, []), 0)).2.2.1.1 (rd z B (0, (0, 0), (0, 0), ([], []), (0, []), 0)).2.2.1.2 (rd z B (0, (0, 0), (0, 0), ([], []), (0, []), 0)).2.2.2.1.1 (rd z B (0, (0, 0), (0, 0), ([], []), (0, []), 0)).2.2.2.1.2 (rd z B (0, (0, 0), (0, 0), ([], []), (0, []), 0)).2.2.2.2.1.1 (rd z B (0, (0, 0), (0, 0), ([], []), (0, []), 0)).2.2.2.2.1.2 (rd z B (0, (0, 0), (0, 0), ([], []), (0, []), 0)).2.2.2.2.2 a b c (rd z B (0, (0, 0), (0, 0), ([], []), (0, []), 0)).2.2.1.1 f h i l m n z A B
    else
     j142_9 k g3 o p s t u v w y B (rd z B (0, (0, 0), (0, 0), ([], []), (0, []), 0)).1 (rd z B (0, (0, 0), (0, 0), ([], []), (0, []), 0)).2.1.1 (rd z B (0, (0, 0), (0, 0), ([], []), (0, []), 0)).2.1.2 (rd z B (0, (0, 0), (0, 0), ([], []), (0, []), 0)).2.2.1.1 (rd z B (0, (0, 0), (0, 0), ([], []), (0, []), 0)).2.2.1.2 (rd z B (0, (0, 0), (0, 0), ([], []), (0, []), 0)).2.2.2.1.1 (rd z B (0, (0, 0), (0, 0), ([], []), (0, []), 0)).2.2.2.1.2 (rd z B (0, (0, 0), (0, 0), ([], []), (0, []), 0)).2.2.2.2.1.1 (rd z B (0, (0, 0), (0, 0), ([], []), (0, []), 0)).2.2.2.2.1.2 (rd z B (0, (0, 0), (0, 0), ([], []), (0, []), 0)).2.2.2.2.2 a b c e f h i l m n z A B)))
 else
  some ((((t, u), v), w, y, ()), ()))
def b142_3 (k : Nat) : Xx (((Unit) × Y1_48 × Y1_48 × (List Int) × Y1_36 × (List Y1_6) × Int × Int × Unit) → Option Y1_19) := iV (iU (iN (iL (iL (iL iE))) (iN (iL (iL (iL iE))) (iL (iL (iL (iL (iL iE)))))))) (l142_3 k)
def L142_3 (k a : Nat) (b : List Int) (c : List Bool) (e : List Y1_6) (f : List Int) (h : List Bool) (i : List Y1_6) (l : List Int) (m : List (List Int)) (n : List Y1_6) (o p : Int) : Option Y1_19 := iter c142_L3 (b142_3 k) a ((), (b, c, e, ()), (f, h, i, ()), l, m, n, o, p, ())
def S142 (k : Nat) (a : Y1_35 × List Y1_6) : Option Y1_19 :=
 (S104 k a).bind fun q0 =>
 L142_3 k k a.1.1 a.1.2 a.2 q0.1.1.1.1 q0.1.1.1.2 q0.1.1.2 ([] : List Int) ([] : List (List Int)) a.2 (a.2.length : Int) 0
def F142 : Fn := ⟨[u1_14], [u1_18, u1_13, .val ⟨false, (.sl 57 Y1_13), true⟩], fun k x => S142 k x.1⟩
theorem ok142 : O 142 F142 := okF (Om ok104 <| Om ok105 <| Om ok159 <| Om ok160 <| Om ok165 <| Om ok171 Oz) [(3, 2), (4, 2)] (fun k => (.loop 3 c142_L3 (b142_3 k) (fun g => (fun (g3 : Y1_29) => (.join 9 c142_J9 (fun (_, (a, b, c, _), (e, f, h, _), i, l, m, (n, o, p, s, t, u, v, w, y, z, _), (A, B, C, D, G, H, I, J, K, M, _), N, O, P, _) => j142_9 k g3 a b c e f h i l m n o p s t u v w y z A B C D G H I J K M N O P) .nil)) (fun t1 t2 t3 out out1 out2 places who t11 t12 t13 => g ((), (t1, t2, t3, ()), (out, out1, out2, ()), places, who, t11, t12, t13, ()))) .nil)) Tryz.func142 rfl
def S140a (k : Nat) (a b : Int) (c : List Y1_7) (e : List (PN Int 5)) (f h i : Bool) (l : List Y1_2) (m : List Int) (n : List Bool) (o : List Y1_6) (p : List Int) (s : List Bool) (t : List (PN Int 6)) (u : PN Int 6) : Option Y1_16 :=
 ap t ([(a, u.2)] : List (PN Int 6)) 48 fun r0 =>
 some ((), (a, b, c, e, f, h, i, l, m, n, o, p, s, r0, ()), ())
def F140a : Fn := ⟨[u1_1, .val ⟨true, Y1_26, false⟩], [], fun k ((a, b, c, e, f, h, i, l, m, n, o, p, s, t, _), u, _) => S140a k a b c e f h i l m n o p s t u⟩
theorem ok140a : O 140 F140a := okF Oz [] On Tryz.func140 rfl
abbrev c102_L14 : Cut := ⟨[0, 4, 9, 27, 28, 29, 67, 68], [.pin false 0, .own 57 Y1_13, cI, .own 3 (.int .i64), cI, cI, cI, cI], [.mbox 166 [cI, cI, .own 30 Y1_4, .own 43 Y1_28, .cell .bool, .cell .bool, .cell .bool, .own 184 Y1_1, .own 3 (.int .i64), .own 4 .bool, .own 177 Y1_5, .own 3 (.int .i64), .own 4 .bool, .own 73 Y1_26]], 85, [(66, 3)]⟩
def l102_14 (k : Nat) (g3 : Y1_9) (g14 : Int → Int → (List Y1_7) → (List (PN Int 5)) → Bool → Bool → Bool → (List Y1_2) → (List Int) → (List Bool) → (List Y1_6) → (List Int) → (List Bool) → (List (PN Int 6)) → Y1_36 → Int → (List Int) → Int → Int → Int → Int → Option Y1_16) (a b : Int) (c : List Y1_7) (e : List (PN Int 5)) (f h i : Bool) (l : List Y1_2) (m : List Int) (n : List Bool) (o : List Y1_6) (p : List Int) (s : List Bool) (t : List (PN Int 6)) (u : List (List Int)) (v : Int) (w : List Int) (y z A B : Int) : Option Y1_16 :=
 (bif decide (B < A) then
  ix l B <|
  (S138 k (rd l B (0, 0, 0, 0, (0, prep (α := Int) 8 0, [], false), (0, prep (α := Int) 8 0, [], false), [], false)) v).bind fun q5 =>
  ix l B <|
  g14 a b c e f h i (upd l B q5.1.1) m n o p s t u v w y z A (IntKind.i64.wrap (B + 1))
 else
  g3 a b c e f h i l m n o p s t u w y (IntKind.i64.wrap (z + 1)))
def b102_14 (k : Nat) (g3 : Y1_9) : Xx ((Y1_52 × Unit × Y1_36 × Int × (List Int) × Int × Int × Int × Int × Unit) → Option Y1_16) := iV (iN (iN (iL (iL (iL (iL (iL (iL (iL (iL (iL (iL (iL (iL (iL (iL iE)))))))))))))) iE) (iU (iL (iL (iL (iL (iL (iL (iL iE))))))))) (l102_14 k g3)
def L102_14 (k : Nat) (g3 : Y1_9) (a : Nat) (b c : Int) (e : List Y1_7) (f : List (PN Int 5)) (h i l : Bool) (m : List Y1_2) (n : List Int) (o : List Bool) (p : List Y1_6) (s : List Int) (t : List Bool) (u : List (PN Int 6)) (v : List (List Int)) (w : Int) (y : List Int) (z A B C : Int) : Option Y1_16 := iter c102_L14 (b102_14 k g3) a (((b, c, e, f, h, i, l, m, n, o, p, s, t, u, ()), ()), (), v, w, y, z, A, B, C, ())
abbrev c102_L7 : Cut := ⟨[0, 4, 6, 27, 28, 29, 41, 42, 43], [.pin false 0, .own 57 Y1_13, cI, .own 3 (.int .i64), cI, cI, .cell Y1_13, cI, cI], [.mbox 166 [cI, cI, .own 30 Y1_4, .own 43 Y1_28, .cell .bool, .cell .bool, .cell .bool, .own 184 Y1_1, .own 3 (.int .i64), .own 4 .bool, .own 177 Y1_5, .own 3 (.int .i64), .own 4 .bool, .own 73 Y1_26]], 85, []⟩
def l102_7 (k : Nat) (g3 : Y1_9) (g7 : Int → Int → (List Y1_7) → (List (PN Int 5)) → Bool → Bool → Bool → (List Y1_2) → (List Int) → (List Bool) → (List Y1_6) → (List Int) → (List Bool) → (List (PN Int 6)) → Y1_36 → Int → (List Int) → Int → Int → (List Int) → Int → Int → Option Y1_16) (a b : Int) (c : List Y1_7) (e : List (PN Int 5)) (f h i : Bool) (l : List Y1_2) (m : List Int) (n : List Bool) (o : List Y1_6) (p : List Int) (s : List Bool) (t : List (PN Int 6)) (u : List (List Int)) (v : Int) (w : List Int) (y z : Int) (A : List Int) (B C : Int) : Option Y1_16 :=
 (bif decide (C < B) then
  ix A C <|
  (S140a k a b c e f h i l m n o p s t (0, 12, 0, rd A C 0, 0, 15)).bind fun q2 =>
  K14 (g7) q2.2.1 u v w y z A B (IntKind.i64.wrap (C + 1))
 else
  (S144 k ((m, n), o)).bind fun q3 =>
  (S143 k q3.1.1 v).bind fun q4 =>
  (bif decide (q4.1.1 ≥ 0) then
   L102_14 k g3 k a b c e f h i l m n o p s t u q4.1.1 w y z (l.length : Int) 0
  else
   g3 a b c e f h i l m n o p s t u w y (IntKind.i64.wrap (z + 1))))
def b102_7 (k : Nat) (g3 : Y1_9) : Xx ((Y1_52 × Unit × Y1_36 × Int × (List Int) × Int × Int × (List Int) × Int × Int × Unit) → Option Y1_16) := iV (iN (iN (iL (iL (iL (iL (iL (iL (iL (iL (iL (iL (iL (iL (iL (iL iE)))))))))))))) iE) (iU (iL (iL (iL (iL (iL (iL (iL (iL iE)))))))))) (l102_7 k g3)
def L102_7 (k : Nat) (g3 : Y1_9) (a : Nat) (b c : Int) (e : List Y1_7) (f : List (PN Int 5)) (h i l : Bool) (m : List Y1_2) (n : List Int) (o : List Bool) (p : List Y1_6) (s : List Int) (t : List Bool) (u : List (PN Int 6)) (v : List (List Int)) (w : Int) (y : List Int) (z A : Int) (B : List Int) (C D : Int) : Option Y1_16 := iter c102_L7 (b102_7 k g3) a (((b, c, e, f, h, i, l, m, n, o, p, s, t, u, ()), ()), (), v, w, y, z, A, B, C, D, ())
abbrev c102_L3 : Cut := ⟨[0, 4, 27, 28, 29], [.pin false 0, .own 57 Y1_13, .own 3 (.int .i64), cI, cI], [.mbox 166 [cI, cI, .own 30 Y1_4, .own 43 Y1_28, .cell .bool, .cell .bool, .cell .bool, .own 184 Y1_1, .own 3 (.int .i64), .own 4 .bool, .own 177 Y1_5, .own 3 (.int .i64), .own 4 .bool, .own 73 Y1_26]], 85, []⟩
def l102_3 (k : Nat) (g3 : Y1_9) (a b : Int) (c : List Y1_7) (e : List (PN Int 5)) (f h i : Bool) (l : List Y1_2) (m : List Int) (n : List Bool) (o : List Y1_6) (p : List Int) (s : List Bool) (t : List (PN Int 6)) (u : List (List Int)) (v : List Int) (w y : Int) : Option Y1_16 :=
 (bif decide (y < w) then
  ix v y <|
  (S140a k a b c e f h i l m n o p s t (0, 11, 0, rd v y 0, 0, 0)).bind fun q1 =>
  ix u y <|
  K14 (L102_7 k g3 k) q1.2.1 u (rd v y 0) v w y (rd u y []) ((rd u y []).length : Int) 0
 else
  some ((), (a, b, c, e, f, h, i, l, m, n, o, p, s, t, ()), ()))
def b102_3 (k : Nat) : Xx ((Y1_52 × Unit × Y1_36 × (List Int) × Int × Int × Unit) → Option Y1_16) := iV (iN (iN (iL (iL (iL (iL (iL (iL (iL (iL (iL (iL (iL (iL (iL (iL iE)))))))))))))) iE) (iU (iL (iL (iL (iL iE)))))) (l102_3 k)
def L102_3 (k a : Nat) (b c : Int) (e : List Y1_7) (f : List (PN Int 5)) (h i l : Bool) (m : List Y1_2) (n : List Int) (o : List Bool) (p : List Y1_6) (s : List Int) (t : List Bool) (u : List (PN Int 6)) (v : List (List Int)) (w : List Int) (y z : Int) : Option Y1_16 := iter c102_L3 (b102_3 k) a (((b, c, e, f, h, i, l, m, n, o, p, s, t, u, ()), ()), (), v, w, y, z, ())
def S102 (k : Nat) (a b : Int) (c : List Y1_7) (e : List (PN Int 5)) (f h i : Bool) (l : List Y1_2) (m : List Int) (n : List Bool) (o : List Y1_6) (p : List Int) (s : List Bool) (t : List (PN Int 6)) : Option Y1_16 :=
 (S142 k ((m, n), o)).bind fun q0 =>
 L102_3 k k a b c e f h i l q0.1.1.1.1 q0.1.1.1.2 q0.1.1.2 p s t q0.1.2.2.1 q0.1.2.1 (q0.1.2.1.length : Int) 0
def F102 : Fn := ⟨[u1_1], [], fun k ((a, b, c, e, f, h, i, l, m, n, o, p, s, t, _), _) => S102 k a b c e f h i l m n o p s t⟩
theorem ok102 : O 102 F102 := okF (Om ok138 <| Om ok140a <| Om ok142 <| Om ok143 <| Om ok144 Oz) [] (fun k => (.loop 3 c102_L3 (b102_3 k) (fun g => (fun (g3 : Y1_9) => (.loop 14 c102_L14 (b102_14 k g3) (fun g => .nil) (.loop 7 c102_L7 (b102_7 k g3) (fun g => .nil) .nil))) (fun t14 t15 t16 t17 t18 t19 t20 t21 t22 t23 t24 t25 t26 t27 who t27_1 t28 t29 => g (((t14, t15, t16, t17, t18, t19, t20, t21, t22, t23, t24, t25, t26, t27, ()), ()), (), who, t27_1, t28, t29, ()))) .nil)) Tryz.func102 rfl
abbrev c202_L3 : Cut := ⟨[0, 2, 6, 7, 8, 12, 13, 14], [.cell Y1_37, cI, cI, .cell .bool, .mp 322 true (.int .i64) false .bool, .cell Y1_13, cI, cI], [], 51, []⟩
def l202_3 (k : Nat) (g3 : Y1_17 → Int → Int → Bool → (List (Int × Bool)) → (List Int) → Int → Int → Option Y1_21) (a : Y1_25) (b c : Int) (e : Bool) (f : List (Int × Bool)) (h : List Int) (i l : Int) : Option Y1_21 :=
 (bif decide (l < i) then
  ix h l <|
  (S198 k a (rd h l 0) b).bind fun q0 =>
  (bif !q0.1.1 then
   g3 a b c e f h i (IntKind.i64.wrap (l + 1))
  else
   (bif mget (.int .i64) .bool (rd h l 0) f false then
    g3 a b c e f h i (IntKind.i64.wrap (l + 1))
   else
    (bif !e then
     ix a (rd h l 0) <|
     g3 a b (rd a (rd h l 0) (0, 0)).1 true (updD (.int .i64) .bool (rd h l 0) true f) h i (IntKind.i64.wrap (l + 1))
    else
     ix a (rd h l 0) <|
     (bif decide ((rd a (rd h l 0) (0, 0)).1 < c) then
      ix a (rd h l 0) <|
      g3 a b (rd a (rd h l 0) (0, 0)).1 true (updD (.int .i64) .bool (rd h l 0) true f) h i (IntKind.i64.wrap (l + 1))
     else
      g3 a b c e (updD (.int .i64) .bool (rd h l 0) true f) h i (IntKind.i64.wrap (l + 1))))))
 else
  some ((c, e, ()), ()))
def b202_3 (k : Nat) : Xx (((Unit) × Y1_17 × Int × Int × Bool × (List (Int × Bool)) × (List Int) × Int × Int × Unit) → Option Y1_21) := iV (iU (iL (iL (iL (iL (iL (iL (iL (iL iE))))))))) (l202_3 k)
def L202_3 (k a : Nat) (b : Y1_25) (c e : Int) (f : Bool) (h : List (Int × Bool)) (i : List Int) (l m : Int) : Option Y1_21 := iter c202_L3 (b202_3 k) a ((), b, c, e, f, h, i, l, m, ())
def S202 (k : Nat) (a : Y1_25) (b : List Int) (c : Int) : Option Y1_21 :=
 L202_3 k k a c 0 false ([] : List (Int × Bool)) b (b.length : Int) 0
def F202 : Fn := ⟨[u1_11, u1_10, pI], [rI, rB], fun k (a, b, c, _) => S202 k a b c⟩
theorem ok202 : O 202 F202 := okF (Om ok198 Oz) [] (fun k => (.loop 3 c202_L3 (b202_3 k) (fun g => .nil) .nil)) Tryz.func202 rfl
def S218 (k : Nat) (a : Y1_23) (b : Int) : Option Y1_22 :=
 (bif a.2.2.2.1 == 2 then
  some ((IntKind.i64.wrap ((IntKind.i64.wrap (b + b)) + a.1), ()), ())
 else
  (bif a.2.2.2.2.2.2.2 then
   some ((a.1, ()), ())
  else
   some ((IntKind.i64.wrap (b + a.1), ()), ())))
def F218 : Fn := ⟨[u1_19, pI], [rI], fun k x => S218 k x.1 x.2.1⟩
theorem ok218 : O 218 F218 := okF Oz [] On Tryz.func218 rfl
def S201 (k : Nat) (a : Y1_23) (b : Int) (c : Y1_25) : Option Y1_22 :=
 (S202 k c a.2.2.2.2.2.2.1 a.1).bind fun q0 =>
 (bif q0.1.2.1 then
  (S218 k a b).bind fun q1 =>
  some ((mn q1.1.1 q0.1.1, ()), ())
 else
  (S218 k a b).bind fun q2 =>
  some ((q2.1.1, ()), ()))
def F201 : Fn := ⟨[u1_19, pI, u1_11], [rI], fun k (a, b, c, _) => S201 k a b c⟩
theorem ok201 : O 201 F201 := okF (Om ok202 <| Om ok218 Oz) [] On Tryz.func201 rfl
def S178 (k : Nat) (a : Y1_23) (b : Int) (c : Y1_25) : Option ((Y1_20 × Unit) × Unit) :=
 (S201 k a b c).bind fun q0 =>
 (S202 k c a.2.2.2.2.2.2.1 a.1).bind fun q1 =>
 (bif q1.1.2.1 then
  some (((q0.1.1, 0, a.1), ()), ())
 else
  some (((q0.1.1, 1, a.1), ()), ()))
def F178 : Fn := ⟨[u1_19, pI, u1_11], [.val ⟨true, Y1_8, true⟩], fun k (a, b, c, _) => S178 k a b c⟩
theorem ok178 : O 178 F178 := okF (Om ok201 <| Om ok202 Oz) [] On Tryz.func178 rfl
def S220 (k : Nat) (x : Int) : Option Y1_50 :=
 some ((x != x, ()), ())
def F220 : Fn := ⟨[pI], [rB], fun k x => S220 k x.1⟩
theorem ok220 : O 220 F220 := okF Oz [] On Tryz.func220 rfl
def S206 (k : Nat) (x a : Int) : Option Y1_22 :=
 (S220 k x).bind fun q0 =>
 (S220 k a).bind fun q1 =>
 (bif q0.1.1 then
  (bif q1.1.1 then
   some ((0, ()), ())
  else
   some (((-1), ()), ()))
 else
  (bif q1.1.1 then
   some ((1, ()), ())
  else
   (bif decide (x < a) then
    some (((-1), ()), ())
   else
    (bif decide (x > a) then
     some ((1, ()), ())
    else
     some ((0, ()), ())))))
def F206 : Fn := ⟨[pI, pI], [rI], fun k x => S206 k x.1 x.2.1⟩
theorem ok206 : O 206 F206 := okF (Om ok220 Oz) [] On Tryz.func206 rfl
abbrev c205_L3 : Cut := ⟨[3, 6, 7, 8], [cI, .cell Y1_13, cI, cI], [], 18, []⟩
def l205_3 (k : Nat) (g3 : Int → (List Int) → Int → Int → Option Y1_22) (a : Int) (b : List Int) (c e : Int) : Option Y1_22 :=
 (bif decide (e < c) then
  ix b e <|
  (bif (rd b e 0) != a then
   some ((rd b e 0, ()), ())
  else
   g3 a b c (IntKind.i64.wrap (e + 1)))
 else
  some ((a, ()), ()))
def b205_3 (k : Nat) : Xx (((Unit) × Int × (List Int) × Int × Int × Unit) → Option Y1_22) := iV (iU (iL (iL (iL (iL iE))))) (l205_3 k)
def L205_3 (k a : Nat) (b : Int) (c : List Int) (e f : Int) : Option Y1_22 := iter c205_L3 (b205_3 k) a ((), b, c, e, f, ())
def S205 (k : Nat) (a : List Int) : Option Y1_22 :=
 L205_3 k k 0 a (a.length : Int) 0
def F205 : Fn := ⟨[u1_10], [rI], fun k x => S205 k x.1⟩
theorem ok205 : O 205 F205 := okF Oz [] (fun k => (.loop 3 c205_L3 (b205_3 k) (fun g => .nil) .nil)) Tryz.func205 rfl
def S180 (k : Nat) (a b : Int × Int × Int) : Option Y1_22 :=
 (S206 k a.1 b.1).bind fun q0 =>
 (S206 k a.2.1 b.2.1).bind fun q1 =>
 (S206 k a.2.2 b.2.2).bind fun q2 =>
 (S205 k ([q0.1.1, q1.1.1, q2.1.1] : List Int)).bind fun q3 =>
 some ((q3.1.1, ()), ())
def F180 : Fn := ⟨[.val ⟨true, Y1_8, false⟩, .val ⟨true, Y1_8, false⟩], [rI], fun k x => S180 k x.1 x.2.1⟩
theorem ok180 : O 180 F180 := okF (Om ok205 <| Om ok206 Oz) [] On Tryz.func180 rfl
def S219 (k : Nat) (a : Int) : Option Y1_22 :=
 (bif decide (a < 0) then
  some ((0, ()), ())
 else
  (bif decide (a ≥ 64) then
   some ((0, ()), ())
  else
   nneg a <|
   some ((ishl .u64 1 a, ()), ())))
def F219 : Fn := ⟨[pI], [.val ⟨false, (.int .u64), true⟩], fun k x => S219 k x.1⟩
theorem ok219 : O 219 F219 := okF Oz [] On Tryz.func219 rfl
def S203 (k : Nat) (a b : Int) : Option Y1_22 :=
 (S219 k b).bind fun q0 =>
 some ((ior .u64 a q0.1.1, ()), ())
def F203 : Fn := ⟨[.val ⟨false, (.int .u64), false⟩, pI], [.val ⟨false, (.int .u64), true⟩], fun k x => S203 k x.1 x.2.1⟩
theorem ok203 : O 203 F203 := okF (Om ok219 Oz) [] On Tryz.func203 rfl
abbrev c204_L4 : Cut := ⟨[0, 2, 4], [.cell (.int .u64), cI, cI], [], 23, []⟩
def l204_4 (k : Nat) (g4 : Int → Int → Int → Option Y1_21) (a b c : Int) : Option Y1_21 :=
 (bif decide (c > 0) then
  nneg (IntKind.i64.wrap (64 - c)) <|
  (bif (ishl .u64 a (IntKind.i64.wrap (64 - c))) == 0 then
   nneg c <|
   g4 (ishr .u64 a c) (IntKind.i64.wrap (b + c)) (IntKind.i64.wrap (Int.tdiv c 2))
  else
   g4 a b (IntKind.i64.wrap (Int.tdiv c 2)))
 else
  some ((b, true, ()), ()))
def b204_4 (k : Nat) : Xx (((Unit) × Int × Int × Int × Unit) → Option Y1_21) := iV (iU (iL (iL (iL iE)))) (l204_4 k)
def L204_4 (k a : Nat) (b c e : Int) : Option Y1_21 := iter c204_L4 (b204_4 k) a ((), b, c, e, ())
def S204 (k : Nat) (a : Int) : Option Y1_21 :=
 (bif a == 0 then
  some ((0, false, ()), ())
 else
  L204_4 k k a 0 32)
def F204 : Fn := ⟨[.val ⟨false, (.int .u64), false⟩], [rI, rB], fun k x => S204 k x.1⟩
theorem ok204 : O 204 F204 := okF Oz [] (fun k => (.loop 4 c204_L4 (b204_4 k) (fun g => .nil) .nil)) Tryz.func204 rfl
abbrev c179_L3 : Cut := ⟨[3, 4, 13, 14, 15], [.box 278 [cI, cI, cI], .cell (.int .u64), .cell (.sl 278 Y1_8), cI, cI], [], 42, []⟩
def l179_3 (k : Nat) (g3 : Int → Int → Int → Int → Y1_53 → Int → Int → Option Y1_22) (a b c e : Int) (f : List Y1_20) (h i : Int) : Option Y1_22 :=
 (bif decide (i < h) then
  ix f i <|
  (S180 k (rd f i (0, 0, 0)) (a, b, c)).bind fun q0 =>
  (bif decide (q0.1.1 < 0) then
   (S203 k 0 i).bind fun q1 =>
   g3 (rd f i (0, 0, 0)).1 (rd f i (0, 0, 0)).2.1 (rd f i (0, 0, 0)).2.2 q1.1.1 f h (IntKind.i64.wrap (i + 1))
  else
   (bif q0.1.1 == 0 then
    (S203 k e i).bind fun q2 =>
    g3 a b c q2.1.1 f h (IntKind.i64.wrap (i + 1))
   else
    g3 a b c e f h (IntKind.i64.wrap (i + 1))))
 else
  (S204 k e).bind fun q3 =>
  some ((q3.1.1, ()), ()))
def b179_3 (k : Nat) : Xx (((Unit) × (Int × Int × Int × Unit) × Int × Y1_53 × Int × Int × Unit) → Option Y1_22) := iV (iU (iN (iL (iL (iL iE))) (iL (iL (iL (iL iE)))))) (l179_3 k)
def L179_3 (k a : Nat) (b c e f : Int) (h : List Y1_20) (i l : Int) : Option Y1_22 := iter c179_L3 (b179_3 k) a ((), (b, c, e, ()), f, h, i, l, ())
def S179 (k : Nat) (a : List Y1_20) : Option Y1_22 :=
 ix a 0 <|
 L179_3 k k (rd a 0 (0, 0, 0)).1 (rd a 0 (0, 0, 0)).2.1 (rd a 0 (0, 0, 0)).2.2 0 a (a.length : Int) 0
def F179 : Fn := ⟨[.val ⟨false, (.sl 278 Y1_8), false⟩], [rI], fun k x => S179 k x.1⟩
theorem ok179 : O 179 F179 := okF (Om ok180 <| Om ok203 <| Om ok204 Oz) [] (fun k => (.loop 3 c179_L3 (b179_3 k) (fun g => .nil) .nil)) Tryz.func179 rfl
abbrev c145_L8 : Cut := ⟨[6, 7, 8, 11], [cI, .cell .bool, .own 278 Y1_8, cI], [], 63, []⟩
def l145_8 (k : Nat) (g8 : Int → Bool → Y1_53 → Int → Option Y1_21) (a : Int) (b : Bool) (c : List Y1_20) (e : Int) : Option Y1_21 :=
 (bif decide (e < (c.length : Int)) then
  sx c e (mn (IntKind.i64.wrap (e + 64)) (c.length : Int)) <|
  (S179 k (sub c e (mn (IntKind.i64.wrap (e + 64)) (c.length : Int)))).bind fun q2 =>
  (bif !b then
   g8 (IntKind.i64.wrap (e + q2.1.1)) true c (IntKind.i64.wrap (e + 64))
  else
   ix c (IntKind.i64.wrap (e + q2.1.1)) <|
   ix c a <|
   (S180 k (rd c (IntKind.i64.wrap (e + q2.1.1)) (0, 0, 0)) (rd c a (0, 0, 0))).bind fun q3 =>
   (bif decide (q3.1.1 < 0) then
    g8 (IntKind.i64.wrap (e + q2.1.1)) true c (IntKind.i64.wrap (e + 64))
   else
    g8 a b c (IntKind.i64.wrap (e + 64))))
 else
  some ((a, b, ()), ()))
def b145_8 (k : Nat) : Xx (((Unit) × Int × Bool × Y1_53 × Int × Unit) → Option Y1_21) := iV (iU (iL (iL (iL (iL iE))))) (l145_8 k)
def L145_8 (k a : Nat) (b : Int) (c : Bool) (e : List Y1_20) (f : Int) : Option Y1_21 := iter c145_L8 (b145_8 k) a ((), b, c, e, f, ())
abbrev c145_L3 : Cut := ⟨[1, 2, 6, 7, 8, 14, 15, 16], [cI, .cell Y1_37, cI, .cell .bool, .own 278 Y1_8, .cell Y1_45, cI, cI], [], 63, []⟩
def l145_3 (k : Nat) (g3 : Int → Y1_17 → Int → Bool → Y1_53 → (List Y1_2) → Int → Int → Option Y1_21) (a : Int) (b : Y1_25) (c : Int) (e : Bool) (f : List Y1_20) (h : List Y1_2) (i l : Int) : Option Y1_21 :=
 (bif decide (l < i) then
  ix h l <|
  (S178 k (rd h l (0, 0, 0, 0, (0, prep (α := Int) 8 0, [], false), (0, prep (α := Int) 8 0, [], false), [], false)) a b).bind fun q0 =>
  ap f ([q0.1.1] : List Y1_20) 24 fun r1 =>
  g3 a b c e r1 h i (IntKind.i64.wrap (l + 1))
 else
  L145_8 k k c e f 0)
def b145_3 (k : Nat) : Xx (((Unit) × Int × Y1_17 × Int × Bool × Y1_53 × (List Y1_2) × Int × Int × Unit) → Option Y1_21) := iV (iU (iL (iL (iL (iL (iL (iL (iL (iL iE))))))))) (l145_3 k)
def L145_3 (k a : Nat) (b : Int) (c : Y1_25) (e : Int) (f : Bool) (h : List Y1_20) (i : List Y1_2) (l m : Int) : Option Y1_21 := iter c145_L3 (b145_3 k) a ((), b, c, e, f, h, i, l, m, ())
def S145 (k : Nat) (a : List Y1_2) (b : Int) (c : Y1_25) : Option Y1_21 :=
 L145_3 k k b c 0 false ([] : List Y1_20) a (a.length : Int) 0
def F145 : Fn := ⟨[.val ⟨false, Y1_45, false⟩, pI, u1_11], [rI, rB], fun k (a, b, c, _) => S145 k a b c⟩
theorem ok145 : O 145 F145 := okF (Om ok178 <| Om ok179 <| Om ok180 Oz) [(8, 2)] (fun k => (.loop 8 c145_L8 (b145_8 k) (fun g => .nil) (.loop 3 c145_L3 (b145_3 k) (fun g => .nil) .nil))) Tryz.func145 rfl
def S210 (k : Nat) (a : Int × (PN Int 8) × Y1_53 × Bool) : Option Y1_46 :=
 (S172 k a.2.2.1).bind fun q0 =>
 some (((a.1, a.2.1, q0.1.1, a.2.2.2), ()), ())
def F210 : Fn := ⟨[u1_16], [u1_20], fun k x => S210 k x.1⟩
theorem ok210 : O 210 F210 := okF (Om ok172 Oz) [] On Tryz.func210 rfl
def S207 (k : Nat) (a : Y1_23) : Option ((Y1_2 × Unit) × Unit) :=
 (S210 k a.2.2.2.2.1).bind fun q0 =>
 (S210 k a.2.2.2.2.2.1).bind fun q1 =>
 (S149 k a.2.2.2.2.2.2.1).bind fun q2 =>
 some (((a.1, a.2.1, a.2.2.1, a.2.2.2.1, q0.1.1, q1.1.1, q2.1.1, a.2.2.2.2.2.2.2), ()), ())
def F207 : Fn := ⟨[u1_19], [u1_22], fun k x => S207 k x.1⟩
theorem ok207 : O 207 F207 := okF (Om ok149 <| Om ok210 Oz) [] On Tryz.func207 rfl
def S214 (k : Nat) (i : Y1_39) (l : Y1_23) : Option ((Y1_2 × Unit) × Unit) :=
 (S207 k l).bind fun (((a, b, c, e, _, f, _, h), _), _) =>
 (bif l.2.2.2.1 == 0 then
  (bif decide ((i.2.2.2.2.1.length : Int) > 0) then
   (S156 k l.2.2.1).bind fun q1 =>
   (S156 k l.2.2.1).bind fun q2 =>
   some (((a, b, c, 1, q1.1.1, q2.1.1, [], h), ()), ())
  else
   (S210 k l.2.2.2.2.2.1).bind fun q3 =>
   some (((a, b, c, e, q3.1.1, f, [], h), ()), ()))
 else
  (S210 k l.2.2.2.2.2.1).bind fun q4 =>
  some (((a, b, c, e, q4.1.1, f, [], h), ()), ()))
def F214 : Fn := ⟨[u1_21, u1_19], [u1_22], fun k x => S214 k x.1 x.2.1⟩
theorem ok214 : O 214 F214 := okF (Om ok156 <| Om ok207 <| Om ok210 Oz) [] On Tryz.func214 rfl
def S185 (k : Nat) (a : Y1_39) (b : Y1_23) (c : Y1_25) : Option ((Y1_2 × Y1_17 × Int × Unit) × Unit) :=
 (S214 k a b).bind fun q0 =>
 (S176 k c b.1).bind fun q1 =>
 (bif b.2.2.2.1 == 2 then
  (S138 k b (-1)).bind fun q2 =>
  some ((q2.1.1, q1.1.1, 13, ()), ())
 else
  (bif q0.1.1.2.2.2.1 != b.2.2.2.1 then
   some ((q0.1.1, q1.1.1, 7, ()), ())
  else
   some ((q0.1.1, q1.1.1, 6, ()), ())))
def F185 : Fn := ⟨[u1_21, u1_19, u1_11], [u1_22, u1_15, rI], fun k (a, b, c, _) => S185 k a b c⟩
theorem ok185 : O 185 F185 := okF (Om ok138 <| Om ok176 <| Om ok214 Oz) [] On Tryz.func185 rfl
abbrev c162b_L1 : Cut := ⟨[0, 1, 11, 12, 13], [.pin false 0, .cell Y1_37, .own 3 (.int .i64), cI, cI], [.mbox 166 [cI, cI, .own 30 Y1_4, .own 43 Y1_28, .cell .bool, .cell .bool, .cell .bool, .own 184 Y1_1, .own 3 (.int .i64), .own 4 .bool, .own 177 Y1_5, .own 3 (.int .i64), .own 4 .bool, .own 73 Y1_26]], 55, []⟩
def l162b_1 (k : Nat) (g1 : Y1_33) (a b : Int) (c : List Y1_7) (e : List (PN Int 5)) (f h i : Bool) (l : List Y1_2) (m : List Int) (n : List Bool) (o : List Y1_6) (p : List Int) (s : List Bool) (t : List (PN Int 6)) (u : Y1_25) (v : List Int) (w y : Int) : Option Y1_16 :=
 (bif decide (y < w) then
  ix v y <|
  ix o (rd v y 0) <|
  (bif decide (y < (u.length : Int)) then
   ix u y <|
   (bif !(beqD Y1_15 (rd o (rd v y 0) (0, (0, 0), (0, 0), ([], []), (0, []), 0)).2.2.1 (rd u y (0, 0))) then
    ix u y <|
    (S130 k ((m, n), o) (rd v y 0) ((rd o (rd v y 0) (0, (0, 0), (0, 0), ([], []), (0, []), 0)).1, (rd o (rd v y 0) (0, (0, 0), (0, 0), ([], []), (0, []), 0)).2.1, rd u y (0, 0), (rd o (rd v y 0) (0, (0, 0), (0, 0), ([], []), (0, []), 0)).2.2.2)).bind fun q1 =>
    g1 a b c e f h i l q1.1.1.1.1 q1.1.1.1.2 q1.1.1.2 p s t u v w (IntKind.i64.wrap (y + 1))
   else
    g1 a b c e f h i l m n o p s t u v w (IntKind.i64.wrap (y + 1)))
  else
   g1 a b c e f h i l m n o p s t u v w (IntKind.i64.wrap (y + 1)))
 else
  some ((), (a, b, c, e, f, h, i, l, m, n, o, p, s, t, ()), ()))
def b162b_1 (k : Nat) : Xx ((Y1_52 × Unit × Y1_17 × (List Int) × Int × Int × Unit) → Option Y1_16) := iV (iN (iN (iL (iL (iL (iL (iL (iL (iL (iL (iL (iL (iL (iL (iL (iL iE)))))))))))))) iE) (iU (iL (iL (iL (iL iE)))))) (l162b_1 k)
def L162b_1 (k a : Nat) (b c : Int) (e : List Y1_7) (f : List (PN Int 5)) (h i l : Bool) (m : List Y1_2) (n : List Int) (o : List Bool) (p : List Y1_6) (s : List Int) (t : List Bool) (u : List (PN Int 6)) (v : Y1_25) (w : List Int) (y z : Int) : Option Y1_16 := iter c162b_L1 (b162b_1 k) a (((b, c, e, f, h, i, l, m, n, o, p, s, t, u, ()), ()), (), v, w, y, z, ())
def S162b (k : Nat) (a b : Int) (c : List Y1_7) (e : List (PN Int 5)) (f h i : Bool) (l : List Y1_2) (m : List Int) (n : List Bool) (o : List Y1_6) (p : List Int) (s : List Bool) (t : List (PN Int 6)) (u : Y1_25) : Option Y1_16 :=
 (S144 k ((m, n), o)).bind fun q0 =>
 L162b_1 k k a b c e f h i l m n o p s t u q0.1.1 (q0.1.1.length : Int) 0
def F162b : Fn := ⟨[u1_1, u1_11], [], fun k ((a, b, c, e, f, h, i, l, m, n, o, p, s, t, _), u, _) => S162b k a b c e f h i l m n o p s t u⟩
theorem ok162b : O 162 F162b := okF (Om ok130 <| Om ok144 Oz) [] (fun k => (.loop 1 c162b_L1 (b162b_1 k) (fun g => .nil) .nil)) Tryz.func162 rfl
def S148 (k : Nat) (t P : Int) (Q : List Y1_7) (T : List (PN Int 5)) (U V W : Bool) (X : List Y1_2) (Z : List Int) (a1 : List Bool) (b1 : List Y1_6) (c1 : List Int) (e1 : List Bool) (f1 : List (PN Int 6)) (h1 i1 l1 m1 n1 o1 p1 s1 t1 u1 v1 w1 y1 : Int) (z1 : List Y1_20) (a2 : Bool) (b2 c2 e2 f2 h2 i2 l2 m2 n2 : Int) (o2 : List Y1_20) (p2 : Bool) (s2 : List Int) (t2 : Bool) : Option Y1_44 :=
 ix Q h1 <|
 (S146 k (t, P, Q, T, U, V, W, X, ((Z, a1), b1), c1, e1)).bind fun q0 =>
 (S185 k (rd Q h1 (0, 0, 0, [], [], [])) (h1, i1, l1, m1, (n1, (o1, p1, s1, t1, u1, v1, w1, y1), z1, a2), (b2, (c2, e2, f2, h2, i2, l2, m2, n2), o2, p2), s2, t2) q0.1.1).bind fun (((a, b, c, e, (f, (h, i, l, m, n, o, p, s), u, v), (w, (y, z, A, B, C, D, G, H), I, J), K, M), N, O, _), _) =>
 (S162b k t P Q T U V W X Z a1 b1 c1 e1 f1 N).bind fun q2 =>
 (K14 (S140a k) q2.2.1 (0, O, a, 0, 0, 0)).bind fun q3 =>
 some ((O == 13, ()), q3.2.1, (a, b, c, e, f, h, i, l, m, n, o, p, s, u, v, w, y, z, A, B, C, D, G, H, I, J, K, M, ()), ())
def F148 : Fn := ⟨[u1_1, u1_3], [rB], fun k ((a, b, c, e, f, h, i, l, m, n, o, p, s, t, _), (u, v, w, y, z, A, B, C, D, G, H, I, J, K, M, N, O, P, Q, T, U, V, W, X, Z, a1, b1, c1, _), _) => S148 k a b c e f h i l m n o p s t u v w y z A B C D G H I J K M N O P Q T U V W X Z a1 b1 c1⟩
theorem ok148 : O 148 F148 := okF (Om ok140a <| Om ok146 <| Om ok162b <| Om ok185 Oz) [] On Tryz.func148 rfl
def S209 (k : Nat) (a : Y1_39) (b : Y1_23) : Option (((List Y1_12) × Unit) × Unit) :=
 (S38 k (mget (.int .i64) Y1_14 b.2.2.2.1 (updD (.int .i64) Y1_14 2 a.2.2.2.2.2 (updD (.int .i64) Y1_14 1 a.2.2.2.2.1 (updD (.int .i64) Y1_14 0 a.2.2.2.1 ([] : List (Int × List Y1_12))))) [])).bind fun q0 =>
 some ((q0.1.1, ()), ())
def F209 : Fn := ⟨[u1_21, u1_19], [.val ⟨false, Y1_14, true⟩], fun k x => S209 k x.1 x.2.1⟩
theorem ok209 : O 209 F209 := okF (Om ok38 Oz) [] On Tryz.func209 rfl
def S221 (k : Nat) (a : Int × (PN Int 8) × Y1_53 × Bool) : Option Y1_46 :=
 (S172 k a.2.2.1).bind fun q0 =>
 some (((a.1, a.2.1, q0.1.1, a.2.2.2), ()), ())
def F221 : Fn := ⟨[u1_16], [u1_20], fun k x => S221 k x.1⟩
theorem ok221 : O 221 F221 := okF (Om ok172 Oz) [] On Tryz.func221 rfl
def S222 (k : Nat) (a b : Int) : Option Y1_22 :=
 (bif decide (b ≤ (-64)) then
  some ((a, ()), ())
 else
  (bif decide (b ≥ 64) then
   some ((a, ()), ())
  else
   (bif decide (b < 0) then
    nneg (IntKind.i64.wrap (0 - b)) <|
    some ((ishr .i64 a (IntKind.i64.wrap (0 - b)), ()), ())
   else
    nneg b <|
    some ((IntKind.i64.wrap (ishl .u64 (IntKind.u64.wrap a) b), ()), ()))))
def F222 : Fn := ⟨[pI, pI], [rI], fun k x => S222 k x.1 x.2.1⟩
theorem ok222 : O 222 F222 := okF Oz [] On Tryz.func222 rfl
def S223 (k : Nat) (a b : Int) : Option Y1_22 :=
 (bif decide (b < 1) then
  some ((a, ()), ())
 else
  (bif decide (b > 64) then
   some ((a, ()), ())
  else
   nneg (IntKind.i64.wrap (64 - b)) <|
   nneg (IntKind.i64.wrap (64 - b)) <|
   some ((ishr .i64 (ishl .i64 a (IntKind.i64.wrap (64 - b))) (IntKind.i64.wrap (64 - b)), ()), ())))
def F223 : Fn := ⟨[pI, pI], [rI], fun k x => S223 k x.1 x.2.1⟩
theorem ok223 : O 223 F223 := okF Oz [] On Tryz.func223 rfl
abbrev c224_L2 : Cut := ⟨[1, 2, 3], [.box 182 [cI, cI, cI, cI, cI, cI, cI, cI, cI, .own 270 Y1_8, .cell .bool], .box 182 [cI, cI, cI, cI, cI, cI, cI, cI, cI, .nil, .cell .bool], cI], [], 55, []⟩
def l224_2 (k : Nat) (g2 : Int → Int → Int → Int → Int → Int → Int → Int → Int → Y1_53 → Bool → Int → Int → Int → Int → Int → Int → Int → Int → Int → Bool → Int → Option Y1_46) (a b c e f h i l m : Int) (n : List Y1_20) (o : Bool) (p s t u v w y z A : Int) (B : Bool) (C : Int) : Option Y1_46 :=
 (bif decide (C > 0) then
  ix n (IntKind.i64.wrap (C - 1)) <|
  (bif decide ((rd n (IntKind.i64.wrap (C - 1)) (0, 0, 0)).2.1 < a) then
   ix n (IntKind.i64.wrap (C - 1)) <|
   (bif decide ((rd n (IntKind.i64.wrap (C - 1)) (0, 0, 0)).2.2 > 0) then
    some ((((rd n (IntKind.i64.wrap (C - 1)) (0, 0, 0)).1, (b, c, e, f, h, i, l, m), upd n (IntKind.i64.wrap (C - 1)) ((rd n (IntKind.i64.wrap (C - 1)) (0, 0, 0)).1, (rd n (IntKind.i64.wrap (C - 1)) (0, 0, 0)).2.1, IntKind.i64.wrap ((rd n (IntKind.i64.wrap (C - 1)) (0, 0, 0)).2.2 - 1)), o), ()), ())
   else
    sx n 0 (IntKind.i64.wrap (C - 1)) <|
    g2 a b c e f h i l m (n.take (IntKind.i64.wrap (C - 1)).toNat) o p s t u v w y z A B ((n.take (IntKind.i64.wrap (C - 1)).toNat).length : Int))
  else
   some (((a, (b, c, e, f, h, i, l, m), n, o), ()), ()))
 else
  some (((a, (b, c, e, f, h, i, l, m), n, o), ()), ()))
def b224_2 (k : Nat) : Xx (((Unit) × (Int × Int × Int × Int × Int × Int × Int × Int × Int × Y1_53 × Bool × Unit) × (Int × Int × Int × Int × Int × Int × Int × Int × Int × Unit × Bool × Unit) × Int × Unit) → Option Y1_46) := iV (iU (iN (iL (iL (iL (iL (iL (iL (iL (iL (iL (iL (iL iE))))))))))) (iN (iL (iL (iL (iL (iL (iL (iL (iL (iL (iU (iL iE))))))))))) (iL iE)))) (l224_2 k)
def L224_2 (k a : Nat) (b c e f h i l m n : Int) (o : List Y1_20) (p : Bool) (s t u v w y z A B : Int) (C : Bool) (D : Int) : Option Y1_46 := iter c224_L2 (b224_2 k) a ((), (b, c, e, f, h, i, l, m, n, o, p, ()), (s, t, u, v, w, y, z, A, B, (), C, ()), D, ())
def S224 (k : Nat) (a b c e f h i l m : Int) (n : List Y1_20) (o : Bool) : Option Y1_46 :=
 L224_2 k k a b c e f h i l m n o 0 0 0 0 0 0 0 0 0 false (n.length : Int)
def F224 : Fn := ⟨[.gv (.agg [cI, cI, cI, cI, cI, cI, cI, cI, cI, .own 270 Y1_8, .cell .bool])], [u1_20], fun k ((a, b, c, e, f, h, i, l, m, n, o, _), _) => S224 k a b c e f h i l m n o⟩
theorem ok224 : O 224 F224 := okF Oz [(52, 1)] (fun k => (.loop 2 c224_L2 (b224_2 k) (fun g => .nil) .nil)) Tryz.func224 rfl
def S208 (k : Nat) (f : List Y1_12) (h : Int × (PN Int 8) × Y1_53 × Bool) : Option ((Y1_11 × Y1_12 × Bool × Unit) × Unit) :=
 (bif h.2.2.2 then
  (S221 k h).bind fun q0 =>
  some ((q0.1.1, (0, 0, 0, 0), false, ()), ())
 else
  (bif decide (h.1 < 0) then
   (S221 k h).bind fun q1 =>
   some ((q1.1.1, (0, 0, 0, 0), false, ()), ())
  else
   (bif decide (h.1 ≥ (f.length : Int)) then
    (S221 k h).bind fun q2 =>
    some ((q2.1.1, (0, 0, 0, 0), false, ()), ())
   else
    ix f h.1 <|
    (S64 k (rd f h.1 (0, 0, 0, 0))).bind fun q3 =>
    (bif !q3.1.1 then
     (S221 k h).bind fun q4 =>
     some ((q4.1.1, (0, 0, 0, 0), false, ()), ())
    else
     (S221 k h).bind fun (((a, b, c, e), _), _) =>
     ix f a <|
     ax 8 (rd f a (0, 0, 0, 0)).2.1 <|
     ax 8 (Int.tmod (rd f a (0, 0, 0, 0)).2.2.1 8) <|
     (bif (rd f a (0, 0, 0, 0)).1 == 0 then
      (S224 k a b.1 b.2.1 b.2.2.1 b.2.2.2.1 b.2.2.2.2.1 b.2.2.2.2.2.1 b.2.2.2.2.2.2.1 b.2.2.2.2.2.2.2 c true).bind fun q6 =>
      some ((q6.1.1, rd f a (0, 0, 0, 0), true, ()), ())
     else
      (bif (rd f a (0, 0, 0, 0)).1 == 1 then
       (S224 k (IntKind.i64.wrap (a + 1)) (aset (α := Int) 8 b (rd f a (0, 0, 0, 0)).2.1 (rd f a (0, 0, 0, 0)).2.2.2).1 (aset (α := Int) 8 b (rd f a (0, 0, 0, 0)).2.1 (rd f a (0, 0, 0, 0)).2.2.2).2.1 (aset (α := Int) 8 b (rd f a (0, 0, 0, 0)).2.1 (rd f a (0, 0, 0, 0)).2.2.2).2.2.1 (aset (α := Int) 8 b (rd f a (0, 0, 0, 0)).2.1 (rd f a (0, 0, 0, 0)).2.2.2).2.2.2.1 (aset (α := Int) 8 b (rd f a (0, 0, 0, 0)).2.1 (rd f a (0, 0, 0, 0)).2.2.2).2.2.2.2.1 (aset (α := Int) 8 b (rd f a (0, 0, 0, 0)).2.1 (rd f a (0, 0, 0, 0)).2.2.2).2.2.2.2.2.1 (aset (α := Int) 8 b (rd f a (0, 0, 0, 0)).2.1 (rd f a (0, 0, 0, 0)).2.2.2).2.2.2.2.2.2.1 (aset (α := Int) 8 b (rd f a (0, 0, 0, 0)).2.1 (rd f a (0, 0, 0, 0)).2.2.2).2.2.2.2.2.2.2 c e).bind fun q7 =>
       some ((q7.1.1, rd f a (0, 0, 0, 0), true, ()), ())
      else
       (bif (rd f a (0, 0, 0, 0)).1 == 2 then
        (S224 k (IntKind.i64.wrap (a + 1)) (aset (α := Int) 8 b (rd f a (0, 0, 0, 0)).2.1 (IntKind.i64.wrap (IntKind.u64.wrap ((IntKind.u64.wrap (aget (α := Int) 8 b (rd f a (0, 0, 0, 0)).2.1 0)) + (IntKind.u64.wrap (aget (α := Int) 8 b (Int.tmod (rd f a (0, 0, 0, 0)).2.2.1 8) 0)))))).1 (aset (α := Int) 8 b (rd f a (0, 0, 0, 0)).2.1 (IntKind.i64.wrap (IntKind.u64.wrap ((IntKind.u64.wrap (aget (α := Int) 8 b (rd f a (0, 0, 0, 0)).2.1 0)) + (IntKind.u64.wrap (aget (α := Int) 8 b (Int.tmod (rd f a (0, 0, 0, 0)).2.2.1 8) 0)))))).2.1 (aset (α := Int) 8 b (rd f a (0, 0, 0, 0)).2.1 (IntKind.i64.wrap (IntKind.u64.wrap ((IntKind.u64.wrap (aget (α := Int) 8 b (rd f a (0, 0, 0, 0)).2.1 0)) + (IntKind.u64.wrap (aget (α := Int) 8 b (Int.tmod (rd f a (0, 0, 0, 0)).2.2.1 8) 0)))))).2.2.1 (aset (α := Int) 8 b (rd f a (0, 0, 0, 0)).2.1 (IntKind.i64.wrap (IntKind.u64.wrap ((IntKind.u64.wrap (aget (α := Int) 8 b (rd f a (0, 0, 0, 0)).2.1 0)) + (IntKind.u64.wrap (aget (α := Int) 8 b (Int.tmod (rd f a (0, 0, 0, 0)).2.2.1 8) 0)))))).2.2.2.1 (aset (α := Int) 8 b (rd f a (0, 0, 0, 0)).2.1 (IntKind.i64.wrap (IntKind.u64.wrap ((IntKind.u64.wrap (aget (α := Int) 8 b (rd f a (0, 0, 0, 0)).2.1 0)) + (IntKind.u64.wrap (aget (α := Int) 8 b (Int.tmod (rd f a (0, 0, 0, 0)).2.2.1 8) 0)))))).2.2.2.2.1 (aset (α := Int) 8 b (rd f a (0, 0, 0, 0)).2.1 (IntKind.i64.wrap (IntKind.u64.wrap ((IntKind.u64.wrap (aget (α := Int) 8 b (rd f a (0, 0, 0, 0)).2.1 0)) + (IntKind.u64.wrap (aget (α := Int) 8 b (Int.tmod (rd f a (0, 0, 0, 0)).2.2.1 8) 0)))))).2.2.2.2.2.1 (aset (α := Int) 8 b (rd f a (0, 0, 0, 0)).2.1 (IntKind.i64.wrap (IntKind.u64.wrap ((IntKind.u64.wrap (aget (α := Int) 8 b (rd f a (0, 0, 0, 0)).2.1 0)) + (IntKind.u64.wrap (aget (α := Int) 8 b (Int.tmod (rd f a (0, 0, 0, 0)).2.2.1 8) 0)))))).2.2.2.2.2.2.1 (aset (α := Int) 8 b (rd f a (0, 0, 0, 0)).2.1 (IntKind.i64.wrap (IntKind.u64.wrap ((IntKind.u64.wrap (aget (α := Int) 8 b (rd f a (0, 0, 0, 0)).2.1 0)) + (IntKind.u64.wrap (aget (α := Int) 8 b (Int.tmod (rd f a (0, 0, 0, 0)).2.2.1 8) 0)))))).2.2.2.2.2.2.2 c e).bind fun q8 =>
        some ((q8.1.1, rd f a (0, 0, 0, 0), true, ()), ())
       else
        (bif (rd f a (0, 0, 0, 0)).1 == 3 then
         (S224 k (IntKind.i64.wrap (a + 1)) (aset (α := Int) 8 b (rd f a (0, 0, 0, 0)).2.1 (IntKind.i64.wrap (IntKind.u64.wrap ((IntKind.u64.wrap (aget (α := Int) 8 b (rd f a (0, 0, 0, 0)).2.1 0)) - (IntKind.u64.wrap (aget (α := Int) 8 b (Int.tmod (rd f a (0, 0, 0, 0)).2.2.1 8) 0)))))).1 (aset (α := Int) 8 b (rd f a (0, 0, 0, 0)).2.1 (IntKind.i64.wrap (IntKind.u64.wrap ((IntKind.u64.wrap (aget (α := Int) 8 b (rd f a (0, 0, 0, 0)).2.1 0)) - (IntKind.u64.wrap (aget (α := Int) 8 b (Int.tmod (rd f a (0, 0, 0, 0)).2.2.1 8) 0)))))).2.1 (aset (α := Int) 8 b (rd f a (0, 0, 0, 0)).2.1 (IntKind.i64.wrap (IntKind.u64.wrap ((IntKind.u64.wrap (aget (α := Int) 8 b (rd f a (0, 0, 0, 0)).2.1 0)) - (IntKind.u64.wrap (aget (α := Int) 8 b (Int.tmod (rd f a (0, 0, 0, 0)).2.2.1 8) 0)))))).2.2.1 (aset (α := Int) 8 b (rd f a (0, 0, 0, 0)).2.1 (IntKind.i64.wrap (IntKind.u64.wrap ((IntKind.u64.wrap (aget (α := Int) 8 b (rd f a (0, 0, 0, 0)).2.1 0)) - (IntKind.u64.wrap (aget (α := Int) 8 b (Int.tmod (rd f a (0, 0, 0, 0)).2.2.1 8) 0)))))).2.2.2.1 (aset (α := Int) 8 b (rd f a (0, 0, 0, 0)).2.1 (IntKind.i64.wrap (IntKind.u64.wrap ((IntKind.u64.wrap (aget (α := Int) 8 b (rd f a (0, 0, 0, 0)).2.1 0)) - (IntKind.u64.wrap (aget (α := Int) 8 b (Int.tmod (rd f a (0, 0, 0, 0)).2.2.1 8) 0)))))).2.2.2.2.1 (aset (α := Int) 8 b (rd f a (0, 0, 0, 0)).2.1 (IntKind.i64.wrap (IntKind.u64.wrap ((IntKind.u64.wrap (aget (α := Int) 8 b (rd f a (0, 0, 0, 0)).2.1 0)) - (IntKind.u64.wrap (aget (α := Int) 8 b (Int.tmod (rd f a (0, 0, 0, 0)).2.2.1 8) 0)))))).2.2.2.2.2.1 (aset (α := Int) 8 b (rd f a (0, 0, 0, 0)).2.1 (IntKind.i64.wrap (IntKind.u64.wrap ((IntKind.u64.wrap (aget (α := Int) 8 b (rd f a (0, 0, 0, 0)).2.1 0)) - (IntKind.u64.wrap (aget (α := Int) 8 b (Int.tmod (rd f a (0, 0, 0, 0)).2.2.1 8) 0)))))).2.2.2.2.2.2.1 (aset (α := Int) 8 b (rd f a (0, 0, 0, 0)).2.1 (IntKind.i64.wrap (IntKind.u64.wrap ((IntKind.u64.wrap (aget (α := Int) 8 b (rd f a (0, 0, 0, 0)).2.1 0)) - (IntKind.u64.wrap (aget (α := Int) 8 b (Int.tmod (rd f a (0, 0, 0, 0)).2.2.1 8) 0)))))).2.2.2.2.2.2.2 c e).bind fun q9 =>
         some ((q9.1.1, rd f a (0, 0, 0, 0), true, ()), ())
        else
         (bif (rd f a (0, 0, 0, 0)).1 == 4 then
          (S224 k (IntKind.i64.wrap (a + 1)) (aset (α := Int) 8 b (rd f a (0, 0, 0, 0)).2.1 (IntKind.i64.wrap (IntKind.u64.wrap ((IntKind.u64.wrap (aget (α := Int) 8 b (rd f a (0, 0, 0, 0)).2.1 0)) * (IntKind.u64.wrap (aget (α := Int) 8 b (Int.tmod (rd f a (0, 0, 0, 0)).2.2.1 8) 0)))))).1 (aset (α := Int) 8 b (rd f a (0, 0, 0, 0)).2.1 (IntKind.i64.wrap (IntKind.u64.wrap ((IntKind.u64.wrap (aget (α := Int) 8 b (rd f a (0, 0, 0, 0)).2.1 0)) * (IntKind.u64.wrap (aget (α := Int) 8 b (Int.tmod (rd f a (0, 0, 0, 0)).2.2.1 8) 0)))))).2.1 (aset (α := Int) 8 b (rd f a (0, 0, 0, 0)).2.1 (IntKind.i64.wrap (IntKind.u64.wrap ((IntKind.u64.wrap (aget (α := Int) 8 b (rd f a (0, 0, 0, 0)).2.1 0)) * (IntKind.u64.wrap (aget (α := Int) 8 b (Int.tmod (rd f a (0, 0, 0, 0)).2.2.1 8) 0)))))).2.2.1 (aset (α := Int) 8 b (rd f a (0, 0, 0, 0)).2.1 (IntKind.i64.wrap (IntKind.u64.wrap ((IntKind.u64.wrap (aget (α := Int) 8 b (rd f a (0, 0, 0, 0)).2.1 0)) * (IntKind.u64.wrap (aget (α := Int) 8 b (Int.tmod (rd f a (0, 0, 0, 0)).2.2.1 8) 0)))))).2.2.2.1 (aset (α := Int) 8 b (rd f a (0, 0, 0, 0)).2.1 (IntKind.i64.wrap (IntKind.u64.wrap ((IntKind.u64.wrap (aget (α := Int) 8 b (rd f a (0, 0, 0, 0)).2.1 0)) * (IntKind.u64.wrap (aget (α := Int) 8 b (Int.tmod (rd f a (0, 0, 0, 0)).2.2.1 8) 0)))))).2.2.2.2.1 (aset (α := Int) 8 b (rd f a (0, 0, 0, 0)).2.1 (IntKind.i64.wrap (IntKind.u64.wrap ((IntKind.u64.wrap (aget (α := Int) 8 b (rd f a (0, 0, 0, 0)).2.1 0)) * (IntKind.u64.wrap (aget (α := Int) 8 b (Int.tmod (rd f a (0, 0, 0, 0)).2.2.1 8) 0)))))).2.2.2.2.2.1 (aset (α := Int) 8 b (rd f a (0, 0, 0, 0)).2.1 (IntKind.i64.wrap (IntKind.u64.wrap ((IntKind.u64.wrap (aget (α := Int) 8 b (rd f a (0, 0, 0, 0)).2.1 0)) * (IntKind.u64.wrap (aget (α := Int) 8 b (Int.tmod (rd f a (0, 0, 0, 0)).2.2.1 8) 0)))))).2.2.2.2.2.2.1 (aset (α := Int) 8 b (rd f a (0, 0, 0, 0)).2.1 (IntKind.i64.wrap (IntKind.u64.wrap ((IntKind.u64.wrap (aget (α := Int) 8 b (rd f a (0, 0, 0, 0)).2.1 0)) * (IntKind.u64.wrap (aget (α := Int) 8 b (Int.tmod (rd f a (0, 0, 0, 0)).2.2.1 8) 0)))))).2.2.2.2.2.2.2 c e).bind fun q10 =>
          some ((q10.1.1, rd f a (0, 0, 0, 0), true, ()), ())
         else
          (bif (rd f a (0, 0, 0, 0)).1 == 5 then
           (S222 k (aget (α := Int) 8 b (rd f a (0, 0, 0, 0)).2.1 0) (rd f a (0, 0, 0, 0)).2.2.2).bind fun q11 =>
           (S224 k (IntKind.i64.wrap (a + 1)) (aset (α := Int) 8 b (rd f a (0, 0, 0, 0)).2.1 q11.1.1).1 (aset (α := Int) 8 b (rd f a (0, 0, 0, 0)).2.1 q11.1.1).2.1 (aset (α := Int) 8 b (rd f a (0, 0, 0, 0)).2.1 q11.1.1).2.2.1 (aset (α := Int) 8 b (rd f a (0, 0, 0, 0)).2.1 q11.1.1).2.2.2.1 (aset (α := Int) 8 b (rd f a (0, 0, 0, 0)).2.1 q11.1.1).2.2.2.2.1 (aset (α := Int) 8 b (rd f a (0, 0, 0, 0)).2.1 q11.1.1).2.2.2.2.2.1 (aset (α := Int) 8 b (rd f a (0, 0, 0, 0)).2.1 q11.1.1).2.2.2.2.2.2.1 (aset (α := Int) 8 b (rd f a (0, 0, 0, 0)).2.1 q11.1.1).2.2.2.2.2.2.2 c e).bind fun q12 =>
           some ((q12.1.1, rd f a (0, 0, 0, 0), true, ()), ())
          else
           (bif (rd f a (0, 0, 0, 0)).1 == 6 then
            (S223 k (aget (α := Int) 8 b (rd f a (0, 0, 0, 0)).2.1 0) (rd f a (0, 0, 0, 0)).2.2.2).bind fun q13 =>
            (S224 k (IntKind.i64.wrap (a + 1)) (aset (α := Int) 8 b (rd f a (0, 0, 0, 0)).2.1 q13.1.1).1 (aset (α := Int) 8 b (rd f a (0, 0, 0, 0)).2.1 q13.1.1).2.1 (aset (α := Int) 8 b (rd f a (0, 0, 0, 0)).2.1 q13.1.1).2.2.1 (aset (α := Int) 8 b (rd f a (0, 0, 0, 0)).2.1 q13.1.1).2.2.2.1 (aset (α := Int) 8 b (rd f a (0, 0, 0, 0)).2.1 q13.1.1).2.2.2.2.1 (aset (α := Int) 8 b (rd f a (0, 0, 0, 0)).2.1 q13.1.1).2.2.2.2.2.1 (aset (α := Int) 8 b (rd f a (0, 0, 0, 0)).2.1 q13.1.1).2.2.2.2.2.2.1 (aset (α := Int) 8 b (rd f a (0, 0, 0, 0)).2.1 q13.1.1).2.2.2.2.2.2.2 c e).bind fun q14 =>
            some ((q14.1.1, rd f a (0, 0, 0, 0), true, ()), ())
           else
            (bif (rd f a (0, 0, 0, 0)).1 == 7 then
             (bif (aget (α := Int) 8 b (rd f a (0, 0, 0, 0)).2.1 0) == 0 then
              (S224 k (IntKind.i64.wrap ((IntKind.i64.wrap (a + 1)) + (rd f a (0, 0, 0, 0)).2.2.2)) b.1 b.2.1 b.2.2.1 b.2.2.2.1 b.2.2.2.2.1 b.2.2.2.2.2.1 b.2.2.2.2.2.2.1 b.2.2.2.2.2.2.2 c e).bind fun q15 =>
              some ((q15.1.1, rd f a (0, 0, 0, 0), true, ()), ())
             else
              (S224 k (IntKind.i64.wrap (a + 1)) b.1 b.2.1 b.2.2.1 b.2.2.2.1 b.2.2.2.2.1 b.2.2.2.2.2.1 b.2.2.2.2.2.2.1 b.2.2.2.2.2.2.2 c e).bind fun q16 =>
              some ((q16.1.1, rd f a (0, 0, 0, 0), true, ()), ()))
            else
             (bif (rd f a (0, 0, 0, 0)).1 == 8 then
              ap c ([(IntKind.i64.wrap (a + 1), IntKind.i64.wrap (a + (rd f a (0, 0, 0, 0)).2.2.1), IntKind.i64.wrap ((rd f a (0, 0, 0, 0)).2.2.2 - 1))] : List Y1_20) 24 fun r17 =>
              (S224 k (IntKind.i64.wrap (a + 1)) b.1 b.2.1 b.2.2.1 b.2.2.2.1 b.2.2.2.2.1 b.2.2.2.2.2.1 b.2.2.2.2.2.2.1 b.2.2.2.2.2.2.2 r17 e).bind fun q18 =>
              some ((q18.1.1, rd f a (0, 0, 0, 0), true, ()), ())
             else
              (S224 k (IntKind.i64.wrap (a + 1)) b.1 b.2.1 b.2.2.1 b.2.2.2.1 b.2.2.2.2.1 b.2.2.2.2.2.1 b.2.2.2.2.2.2.1 b.2.2.2.2.2.2.2 c e).bind fun q19 =>
              some ((q19.1.1, rd f a (0, 0, 0, 0), true, ()), ()))))))))))))))
def F208 : Fn := ⟨[.val ⟨false, Y1_14, false⟩, u1_16], [u1_20, u1_5, rB], fun k x => S208 k x.1 x.2.1⟩
theorem ok208 : O 208 F208 := okF (Om ok64 <| Om ok221 <| Om ok222 <| Om ok223 <| Om ok224 Oz) [] On Tryz.func208 rfl
section
variable (w : World) {g n c i j : Nat}
theorem delF211_t : Tryz.prog.underlying 57 = some (.slice 3) ∧ Tryz.prog.underlying 3 = some (.int .i64) ∧ Tryz.prog.underlying 4 = some .bool ∧ Tryz.prog.follows .mixedOrders = true ∧ (∀ w, (Go.sizeOf 3).run Tryz.prog w = .ok 1 w) ∧ Tryz.f211.ntmps = 33 := ⟨by kernel_rfl, by kernel_rfl, by kernel_rfl, by kernel_rfl, fun w => by kernel_rfl, rfl⟩
theorem delF211_none {v : Value} (hv : (∃ A n c, v = .slice A n c ∧ i ≤ n ∧ n ≤ c ∧ c ≤ 9223372036854775807)) : Calls Tryz.prog 211 #[v, .int .i64 i, .int .i64 i] w fun e w' => e = .returned v ∧ w' = w := by
 obtain ⟨t24, t3, t4, mixed, z36, hnt⟩ := delF211_t
 have u24 := run_underlying t24; have u3 := run_underlying t3; have u4 := run_underlying t4
 obtain ⟨A, n, c, rfl, hi, hnc, hc63⟩ := hv
 have hi0 : (i : Int) ≤ (n : Int) := by omega
 have hi1 : (0 : Int) ≤ (i : Int) := by omega
 cases A <;> (go_enter Tryz.func211, hnt; go_wp2 <;> (go_ret; exact ⟨rfl, rfl⟩))
theorem delF211_some {w' w'' : World} (hlt : i < j) (hj : j ≤ n) (hnc : n ≤ c) (hc63 : c ≤ 9223372036854775807)
  (hap : ∀ ty A, (c ≠ j → A = (⟨g, j * 1, none⟩ : Addr)) → (Builtin.append_ #[57, 57] ty #[.slice (some ⟨g, 0, none⟩) i c, .slice (some A) (n - j) (c - j)]).run Tryz.prog w.drew = .ok (.slice (some ⟨g, 0, none⟩) (i + (n - j)) c) w')
  (hcl : ∀ ty dc, (Builtin.clear_ #[57] ty #[.slice (some ⟨g, (i + (n - j)) * 1, none⟩) (n - (i + (n - j))) dc]).run Tryz.prog w' = .ok (.tuple #[]) w'') :
  Calls Tryz.prog 211 #[.slice (some ⟨g, 0, none⟩) n c, .int .i64 i, .int .i64 j] w fun e w1 => e = .returned (.slice (some ⟨g, 0, none⟩) (i + (n - j)) c) ∧ w1 = w'' := by
 obtain ⟨t24, t3, t4, mixed, z36, hnt⟩ := delF211_t
 have u24 := run_underlying t24; have u3 := run_underlying t3; have u4 := run_underlying t4
 have hi0 : (i : Int) ≤ (n : Int) := by omega
 have hj0 : (j : Int) ≤ (n : Int) := by omega
 have hij : (i : Int) ≤ (j : Int) := by omega
 have hne : ¬ ((i : Int) = (j : Int)) := by omega
 have hic : i ≤ c := by omega
 have hjc : j ≤ c := by omega
 have hln : i + (n - j) ≤ n := by omega
 have hlc : i + (n - j) ≤ c := by omega
 have hci : ¬ (c = i + (n - j)) := by omega
 obtain ⟨A, hA, hA'⟩ : ∃ A : Addr, (if c = j then some (⟨g, 0, none⟩ : Addr) else some ⟨g, j * 1, none⟩) = some A ∧ (c ≠ j → A = (⟨g, j * 1, none⟩ : Addr)) := by
  by_cases h : c = j
  · exact ⟨_, if_pos h, fun q => absurd h q⟩
  · exact ⟨_, if_neg h, fun _ => rfl⟩
 try simp only [Nat.mul_one] at hA hcl
 go_enter Tryz.func211, hnt
 go_wp2_with fail
 go_region_law_o (refine append_step rfl rfl _ _ (by simp [Act.eval, Act.put]) (by simp [Act.eval, Act.put, hA]) (hap _ _ hA') ?_)
 go_wp2_with (at_builtin; refine clear_list rfl rfl _ rfl (hcl _ _) ?_)
 go_ret
 exact ⟨rfl, rfl⟩
end
abbrev P211 : List PT := delPs 3 (.int .i64)
abbrev R211 : List RT := delRs 3 (.int .i64)
def S211 (k : Nat) (a : List Int) (i j : Int) : Option Y1_30 := delSem 3 (.int .i64) k (a, i, j, ())
def F211 : Fn := ⟨P211, R211, delSem 3 (.int .i64)⟩
def E211 : Env := tab.env (fun _ => none) (fun _ => 0)
theorem E211_ok : EnvOK Tryz.prog E211 := envOK_of tabOK _ _ (fun f F h => by cases h)
theorem ok211 : O 211 F211 := by
 obtain ⟨i0, z, a1, a2, a3, a4, a5⟩ := (E211_ok.ty 3 ((.int .i64)) (by kernel_rfl)).info
 have b2 : Ty.sz ((.int .i64)) = 1 := rfl
 have hz : z.cells.size = 1 := by rw [← Array.length_toList, a5, zeroV_len, b2]
 obtain ⟨t24, t3, t4, mixed, z36, hnt⟩ := delF211_t
 refine del_ok Tryz.func211 rfl (by kernel_rfl) ?_
 rw [b2]
 exact del_all (S := 57) (z := z) t24 a1 a4 (by rw [a2, b2]) hz (fun v hv => zeroV_one ((.int .i64)) v (by rw [← a5]; exact hv)) (by decide) (fun w i v h => delF211_none w h) (fun w g n c i j w' w'' h1 h2 h3 h4 h5 h6 => delF211_some w h1 h2 h3 h4 h5 h6)
abbrev c181_L13 : Cut := ⟨[4, 5, 8], [.box 184 [cI, cI, cI, cI, cI, cI, cI, cI, cI, cI, cI, cI, cI, .own 270 Y1_8, .cell .bool, cI, cI, cI, cI, cI, cI, cI, cI, cI, .own 270 Y1_8, .cell .bool, .own 3 (.int .i64), .cell .bool], .box 46 [cI, cI, cI, cI], cI], [], 70, []⟩
def l181_13 (k : Nat) (g13 : Int → Int → Int → Int → Int → Int → Int → Int → Int → Int → Int → Int → Int → Y1_53 → Bool → Int → Int → Int → Int → Int → Int → Int → Int → Int → Y1_53 → Bool → (List Int) → Bool → Int → Int → Int → Int → Int → Option Y1_38) (x a b c e f h i l m n o p : Int) (s : List Y1_20) (t : Bool) (u v w y z A B C D : Int) (G : List Y1_20) (H : Bool) (I : List Int) (J : Bool) (K M N O P : Int) : Option Y1_38 :=
 (bif decide (P ≥ 0) then
  ix I P <|
  (bif (rd I P 0) == M then
   (S211 k I P (IntKind.i64.wrap (P + 1))).bind fun q5 =>
   some (((x, a, b, c, (e, (f, h, i, l, m, n, o, p), s, t), (u, (v, w, y, z, A, B, C, D), G, H), q5.1.1, J), (K, M, N, O), true, ()), ())
  else
   g13 x a b c e f h i l m n o p s t u v w y z A B C D G H I J K M N O (IntKind.i64.wrap (P - 1)))
 else
  some (((x, a, b, c, (e, (f, h, i, l, m, n, o, p), s, t), (u, (v, w, y, z, A, B, C, D), G, H), I, J), (K, M, N, O), true, ()), ()))
def b181_13 (k : Nat) : Xx (((Unit) × Y1_10 × (Int × Int × Int × Int × Unit) × Int × Unit) → Option Y1_38) := iV (iU (iN (iL (iL (iL (iL (iL (iL (iL (iL (iL (iL (iL (iL (iL (iL (iL (iL (iL (iL (iL (iL (iL (iL (iL (iL (iL (iL (iL (iL iE)))))))))))))))))))))))))))) (iN (iL (iL (iL (iL iE)))) (iL iE)))) (l181_13 k)
def L181_13 (k a : Nat) (x b c e f h i l m n o p s : Int) (t : List Y1_20) (u : Bool) (v w y z A B C D G : Int) (H : List Y1_20) (I : Bool) (J : List Int) (K : Bool) (M N O P Q : Int) : Option Y1_38 := iter c181_L13 (b181_13 k) a ((), (x, b, c, e, f, h, i, l, m, n, o, p, s, t, u, v, w, y, z, A, B, C, D, G, H, I, J, K, ()), (M, N, O, P, ()), Q, ())
def S181 (k : Nat) (f : Y1_39) (h : Y1_23) : Option Y1_38 :=
 (S207 k h).bind fun ((a, _), _) =>
 (S209 k f h).bind fun q1 =>
 (S208 k q1.1.1 h.2.2.2.2.1).bind fun ((b, c, e, _), _) =>
 (bif !e then
  some ((a, (0, 0, 0, 0), false, ()), ())
 else
  (bif c.1 == 11 then
   (S210 k b).bind fun q3 =>
   some (((a.1, a.2.1, a.2.2.1, a.2.2.2.1, b, q3.1.1, a.2.2.2.2.2.2), c, true, ()), ())
  else
   (bif c.1 == 9 then
    ap a.2.2.2.2.2.2.1 ([c.2.1] : List Int) 8 fun r4 =>
    some (((a.1, a.2.1, a.2.2.1, a.2.2.2.1, b, a.2.2.2.2.2.1, r4, a.2.2.2.2.2.2.2), c, true, ()), ())
   else
    (bif c.1 == 10 then
     L181_13 k k a.1 a.2.1 a.2.2.1 a.2.2.2.1 b.1 b.2.1.1 b.2.1.2.1 b.2.1.2.2.1 b.2.1.2.2.2.1 b.2.1.2.2.2.2.1 b.2.1.2.2.2.2.2.1 b.2.1.2.2.2.2.2.2.1 b.2.1.2.2.2.2.2.2.2 b.2.2.1 b.2.2.2 a.2.2.2.2.2.1.1 a.2.2.2.2.2.1.2.1.1 a.2.2.2.2.2.1.2.1.2.1 a.2.2.2.2.2.1.2.1.2.2.1 a.2.2.2.2.2.1.2.1.2.2.2.1 a.2.2.2.2.2.1.2.1.2.2.2.2.1 a.2.2.2.2.2.1.2.1.2.2.2.2.2.1 a.2.2.2.2.2.1.2.1.2.2.2.2.2.2.1 a.2.2.2.2.2.1.2.1.2.2.2.2.2.2.2 a.2.2.2.2.2.1.2.2.1 a.2.2.2.2.2.1.2.2.2 a.2.2.2.2.2.2.1 a.2.2.2.2.2.2.2 c.1 c.2.1 c.2.2.1 c.2.2.2 (IntKind.i64.wrap ((a.2.2.2.2.2.2.1.length : Int) - 1))
    else
     some (((a.1, a.2.1, a.2.2.1, a.2.2.2.1, b, a.2.2.2.2.2), c, true, ()), ())))))
def F181 : Fn := ⟨[u1_21, u1_19], [u1_22, u1_5, rB], fun k x => S181 k x.1 x.2.1⟩
theorem ok181 : O 181 F181 := okF (Om ok207 <| Om ok208 <| Om ok209 <| Om ok210 <| Om ok211 Oz) [] (fun k => (.loop 13 c181_L13 (b181_13 k) (fun g => .nil) .nil)) Tryz.func181 rfl
def S182 (k : Nat) (a : Y1_25) (b c : Int) : Option ((Y1_17 × Bool × Unit) × Unit) :=
 (S197 k a).bind fun q0 =>
 (S212 k a b).bind fun q1 =>
 (bif !q1.1.1 then
  some ((q0.1.1, false, ()), ())
 else
  ix a b <|
  (bif (rd a b (0, 0)).2 != 0 then
   some ((q0.1.1, false, ()), ())
  else
   ix q0.1.1 b <|
   some ((upd q0.1.1 b ((rd q0.1.1 b (0, 0)).1, IntKind.i64.wrap (c + 1)), true, ()), ())))
def F182 : Fn := ⟨[u1_11, pI, pI], [u1_15, rB], fun k (a, b, c, _) => S182 k a b c⟩
theorem ok182 : O 182 F182 := okF (Om ok197 <| Om ok212 Oz) [] On Tryz.func182 rfl
def S183 (k : Nat) (a : Y1_25) (b c : Int) : Option ((Y1_17 × Bool × Unit) × Unit) :=
 (S197 k a).bind fun q0 =>
 (S198 k a b c).bind fun q1 =>
 (bif !q1.1.1 then
  some ((q0.1.1, false, ()), ())
 else
  ix q0.1.1 b <|
  some ((upd q0.1.1 b ((rd q0.1.1 b (0, 0)).1, 0), true, ()), ()))
def F183 : Fn := ⟨[u1_11, pI, pI], [u1_15, rB], fun k (a, b, c, _) => S183 k a b c⟩
theorem ok183 : O 183 F183 := okF (Om ok197 <| Om ok198 Oz) [] On Tryz.func183 rfl
def S213 (k : Nat) (a : Y1_23) : Option ((Y1_2 × Unit) × Unit) :=
 (S207 k a).bind fun q0 =>
 (S156 k a.2.2.2.2.1.2.1.1).bind fun q1 =>
 (S156 k a.2.2.2.2.1.2.1.1).bind fun q2 =>
 some (((q0.1.1.1, q0.1.1.2.1, q0.1.1.2.2.1, 2, q1.1.1, q2.1.1, [], false), ()), ())
def F213 : Fn := ⟨[u1_19], [u1_22], fun k x => S213 k x.1⟩
theorem ok213 : O 213 F213 := okF (Om ok156 <| Om ok207 Oz) [] On Tryz.func213 rfl
abbrev c184_J8 : Cut := ⟨[0, 1], [.pin false 0, .pin false 1], [.mbox 166 [cI, cI, .own 30 Y1_4, .own 43 Y1_28, .cell .bool, .cell .bool, .cell .bool, .own 184 Y1_1, .own 3 (.int .i64), .own 4 .bool, .own 177 Y1_5, .own 3 (.int .i64), .own 4 .bool, .own 73 Y1_26], .mbox 184 [cI, cI, cI, cI, cI, cI, cI, cI, cI, cI, cI, cI, cI, .own 270 Y1_8, .cell .bool, cI, cI, cI, cI, cI, cI, cI, cI, cI, .own 270 Y1_8, .cell .bool, .own 3 (.int .i64), .cell .bool]], 95, []⟩
def j184_8 (k : Nat) (M N : Int) (O : List Y1_7) (P : List (PN Int 5)) (Q T U : Bool) (V : List Y1_2) (W : List Int) (X : List Bool) (Z : List Y1_6) (a1 : List Int) (b1 : List Bool) (c1 : List (PN Int 6)) (e1 f1 h1 i1 l1 m1 n1 o1 p1 s1 t1 u1 v1 : Int) (w1 : List Y1_20) (y1 : Bool) (z1 a2 b2 c2 e2 f2 h2 i2 l2 : Int) (m2 : List Y1_20) (n2 : Bool) (o2 : List Int) (p2 : Bool) : Option Y1_44 :=
 (S139 k (a1, b1) e1).bind fun q3 =>
 (S213 k (e1, f1, h1, i1, (l1, (m1, n1, o1, p1, s1, t1, u1, v1), w1, y1), (z1, (a2, b2, c2, e2, f2, h2, i2, l2), m2, n2), o2, p2)).bind fun (((a, b, c, e, (f, (h, i, l, m, n, o, p, s), t, u), (v, (w, y, z, A, B, C, D, G), H, I), J, K), _), _) =>
 ix O a <|
 some ((((rd O a (0, 0, 0, [], [], [])).2.2.2.2.2.length : Int) == 0, ()), (M, N, O, P, Q, T, U, V, W, X, Z, q3.1.1.1, q3.1.1.2, c1, ()), (a, b, c, e, f, h, i, l, m, n, o, p, s, t, u, v, w, y, z, A, B, C, D, G, H, I, J, K, ()), ())
def S184 (k : Nat) (a b : Int) (c : List Y1_7) (e : List (PN Int 5)) (f h i : Bool) (l : List Y1_2) (m : List Int) (n : List Bool) (o : List Y1_6) (p : List Int) (s : List Bool) (t : List (PN Int 6)) (u v w y z A B C D G H I J : Int) (K : List Y1_20) (M : Bool) (N O P Q T U V W X : Int) (Z : List Y1_20) (a1 : Bool) (b1 : List Int) (c1 : Bool) : Option Y1_44 :=
 (bif y == 2 then
  (S140a k a b c e f h i l m n o p s t (0, 4, u, 0, A, 0)).bind fun q0 =>
  some ((true, ()), q0.2.1, (u, v, w, y, z, A, B, C, D, G, H, I, J, K, M, N, O, P, Q, T, U, V, W, X, Z, a1, b1, c1, ()), ())
 else
  (S140a k a b c e f h i l m n o p s t (0, 3, u, 0, A, 0)).bind fun q1 =>
  (bif y == 0 then
   ix q1.2.1.2.2.1 u <|
   (bif decide (((rd q1.2.1.2.2.1 u (0, 0, 0, [], [], [])).2.2.2.2.1.length : Int) > 0) then
    (K14 (S140a k) q1.2.1 (0, 8, u, 0, 0, 0)).bind fun q2 =>
    K14 (j184_8 k) q2.2.1 u v w y z A B C D G H I J K M N O P Q T U V W X Z a1 b1 c1
   else
    K14 (j184_8 k) q1.2.1 u v w y z A B C D G H I J K M N O P Q T U V W X Z a1 b1 c1)
  else
   K14 (j184_8 k) q1.2.1 u v w y z A B C D G H I J K M N O P Q T U V W X Z a1 b1 c1))
def F184 : Fn := ⟨[u1_1, .mbox 184 [cI, cI, cI, cI, cI, cI, cI, cI, cI, cI, cI, cI, cI, .own 270 Y1_8, .cell .bool, cI, cI, cI, cI, cI, cI, cI, cI, cI, .own 270 Y1_8, .cell .bool, .own 3 (.int .i64), .cell .bool]], [rB], fun k ((a, b, c, e, f, h, i, l, m, n, o, p, s, t, _), (u, v, w, y, z, A, B, C, D, G, H, I, J, K, M, N, O, P, Q, T, U, V, W, X, Z, a1, b1, c1, _), _) => S184 k a b c e f h i l m n o p s t u v w y z A B C D G H I J K M N O P Q T U V W X Z a1 b1 c1⟩
theorem ok184 : O 184 F184 := okF (Om ok139 <| Om ok140a <| Om ok213 Oz) [] (fun k => (.join 8 c184_J8 (fun (((a, b, c, e, f, h, i, l, m, n, o, p, s, t, _), (u, v, w, y, z, A, B, C, D, G, H, I, J, K, M, N, O, P, Q, T, U, V, W, X, Z, a1, b1, c1, _), _), _) => j184_8 k a b c e f h i l m n o p s t u v w y z A B C D G H I J K M N O P Q T U V W X Z a1 b1 c1) .nil)) Tryz.func184 rfl
abbrev c147_J12 : Cut := ⟨[0, 1], [.pin false 0, .pin false 1], [.mbox 166 [cI, cI, .own 30 Y1_4, .own 43 Y1_28, .cell .bool, .cell .bool, .cell .bool, .own 184 Y1_1, .own 3 (.int .i64), .own 4 .bool, .own 177 Y1_5, .own 3 (.int .i64), .own 4 .bool, .own 73 Y1_26], .mbox 184 [cI, cI, cI, cI, cI, cI, cI, cI, cI, cI, cI, cI, cI, .own 270 Y1_8, .cell .bool, cI, cI, cI, cI, cI, cI, cI, cI, cI, .own 270 Y1_8, .cell .bool, .own 3 (.int .i64), .cell .bool]], 92, []⟩
def j147_12 (k : Nat) (a b : Int) (c : List Y1_7) (e : List (PN Int 5)) (f h i : Bool) (l : List Y1_2) (m : List Int) (n : List Bool) (o : List Y1_6) (p : List Int) (s : List Bool) (t : List (PN Int 6)) (u v w y z A B C D G H I J : Int) (K : List Y1_20) (M : Bool) (N O P Q T U V W X : Int) (Z : List Y1_20) (a1 : Bool) (b1 : List Int) (c1 : Bool) : Option Y1_44 :=
 (bif M then
  (S184 k a b c e f h i l m n o p s t u v w y z A B C D G H I J K M N O P Q T U V W X Z a1 b1 c1).bind fun q7 =>
  some ((q7.1.1, ()), q7.2.1, q7.2.2.1, ())
 else
  some ((false, ()), (a, b, c, e, f, h, i, l, m, n, o, p, s, t, ()), (u, v, w, y, z, A, B, C, D, G, H, I, J, K, M, N, O, P, Q, T, U, V, W, X, Z, a1, b1, c1, ()), ()))
def S147 (k : Nat) (t Q : Int) (T : List Y1_7) (U : List (PN Int 5)) (V W X : Bool) (Z : List Y1_2) (a1 : List Int) (b1 : List Bool) (c1 : List Y1_6) (e1 : List Int) (f1 : List Bool) (h1 : List (PN Int 6)) (i1 l1 m1 n1 o1 p1 s1 t1 u1 v1 w1 y1 z1 : Int) (a2 : List Y1_20) (b2 : Bool) (c2 e2 f2 h2 i2 l2 m2 n2 o2 : Int) (p2 : List Y1_20) (s2 : Bool) (t2 : List Int) (u2 : Bool) : Option Y1_44 :=
 ix T i1 <|
 (S181 k (rd T i1 (0, 0, 0, [], [], [])) (i1, l1, m1, n1, (o1, (p1, s1, t1, u1, v1, w1, y1, z1), a2, b2), (c2, (e2, f2, h2, i2, l2, m2, n2, o2), p2, s2), t2, u2)).bind fun (((a, b, c, e, (f, (h, i, l, m, n, o, p, s), u, v), (w, (y, z, A, B, C, D, G, H), I, J), K, M), (N, O, _), P, _), _) =>
 (bif !P then
  some ((false, ()), (t, Q, T, U, V, W, X, Z, a1, b1, c1, e1, f1, h1, ()), (i1, l1, m1, n1, o1, p1, s1, t1, u1, v1, w1, y1, z1, a2, b2, c2, e2, f2, h2, i2, l2, m2, n2, o2, p2, s2, t2, u2, ()), ())
 else
  (bif N == 9 then
   (S146 k (t, Q, T, U, V, W, X, Z, ((a1, b1), c1), e1, f1)).bind fun q1 =>
   (S182 k q1.1.1 O a).bind fun q2 =>
   (S162b k t Q T U V W X Z a1 b1 c1 e1 f1 h1 q2.1.1).bind fun q3 =>
   K14 (j147_12 k) q3.2.1 a b c e f h i l m n o p s u v w y z A B C D G H I J K M
  else
   (bif N == 10 then
    (S146 k (t, Q, T, U, V, W, X, Z, ((a1, b1), c1), e1, f1)).bind fun q4 =>
    (S183 k q4.1.1 O a).bind fun q5 =>
    (S162b k t Q T U V W X Z a1 b1 c1 e1 f1 h1 q5.1.1).bind fun q6 =>
    K14 (j147_12 k) q6.2.1 a b c e f h i l m n o p s u v w y z A B C D G H I J K M
   else
    j147_12 k t Q T U V W X Z a1 b1 c1 e1 f1 h1 a b c e f h i l m n o p s u v w y z A B C D G H I J K M)))
def F147 : Fn := ⟨[u1_1, u1_3], [rB], fun k ((a, b, c, e, f, h, i, l, m, n, o, p, s, t, _), (u, v, w, y, z, A, B, C, D, G, H, I, J, K, M, N, O, P, Q, T, U, V, W, X, Z, a1, b1, c1, _), _) => S147 k a b c e f h i l m n o p s t u v w y z A B C D G H I J K M N O P Q T U V W X Z a1 b1 c1⟩
theorem ok147 : O 147 F147 := okF (Om ok146 <| Om ok162b <| Om ok181 <| Om ok182 <| Om ok183 <| Om ok184 Oz) [] (fun k => (.join 12 c147_J12 (fun (((a, b, c, e, f, h, i, l, m, n, o, p, s, t, _), (u, v, w, y, z, A, B, C, D, G, H, I, J, K, M, N, O, P, Q, T, U, V, W, X, Z, a1, b1, c1, _), _), _) => j147_12 k a b c e f h i l m n o p s t u v w y z A B C D G H I J K M N O P Q T U V W X Z a1 b1 c1) .nil)) Tryz.func147 rfl
def S103 (k : Nat) (t t1 : Int) (t2 : List Y1_7) (t3 : List (PN Int 5)) (v3 w3 y3 : Bool) (z3 : List Y1_2) (a4 : List Int) (b4 : List Bool) (c4 : List Y1_6) (e4 : List Int) (f4 : List Bool) (h4 : List (PN Int 6)) : Option Y1_16 :=
 (S146 k (t, t1, t2, t3, v3, w3, y3, z3, ((a4, b4), c4), e4, f4)).bind fun q0 =>
 (S145 k z3 (t2.length : Int) q0.1.1).bind fun ((a, b, _), _) =>
 (bif w3 then
  some ((), (t, t1, t2, t3, v3, w3, y3, z3, a4, b4, c4, e4, f4, h4, ()), ())
 else
  (bif !b then
   some ((), (t, t1, t2, t3, v3, w3, y3, z3, a4, b4, c4, e4, f4, h4, ()), ())
  else
   ix z3 a <|
   (S140a k t t1 t2 t3 v3 w3 y3 z3 a4 b4 c4 e4 f4 h4 (0, 2, (rd z3 a (0, 0, 0, 0, (0, prep (α := Int) 8 0, [], false), (0, prep (α := Int) 8 0, [], false), [], false)).1, 0, 0, 0)).bind fun q2 =>
   (bif q2.2.1.2.2.2.2.2.2.1 then
    (K14 (S148 k) q2.2.1 (rd z3 a (0, 0, 0, 0, (0, prep (α := Int) 8 0, [], false), (0, prep (α := Int) 8 0, [], false), [], false)).1 (rd z3 a (0, 0, 0, 0, (0, prep (α := Int) 8 0, [], false), (0, prep (α := Int) 8 0, [], false), [], false)).2.1 (rd z3 a (0, 0, 0, 0, (0, prep (α := Int) 8 0, [], false), (0, prep (α := Int) 8 0, [], false), [], false)).2.2.1 (rd z3 a (0, 0, 0, 0, (0, prep (α := Int) 8 0, [], false), (0, prep (α := Int) 8 0, [], false), [], false)).2.2.2.1 (rd z3 a (0, 0, 0, 0, (0, prep (α := Int) 8 0, [], false), (0, prep (α := Int) 8 0, [], false), [], false)).2.2.2.2.1.1 (rd z3 a (0, 0, 0, 0, (0, prep (α := Int) 8 0, [], false), (0, prep (α := Int) 8 0, [], false), [], false)).2.2.2.2.1.2.1.1 (rd z3 a (0, 0, 0, 0, (0, prep (α := Int) 8 0, [], false), (0, prep (α := Int) 8 0, [], false), [], false)).2.2.2.2.1.2.1.2.1 (rd z3 a (0, 0, 0, 0, (0, prep (α := Int) 8 0, [], false), (0, prep (α := Int) 8 0, [], false), [], false)).2.2.2.2.1.2.1.2.2.1 (rd z3 a (0, 0, 0, 0, (0, prep (α := Int) 8 0, [], false), (0, prep (α := Int) 8 0, [], false), [], false)).2.2.2.2.1.2.1.2.2.2.1 (rd z3 a (0, 0, 0, 0, (0, prep (α := Int) 8 0, [], false), (0, prep (α := Int) 8 0, [], false), [], false)).2.2.2.2.1.2.1.2.2.2.2.1 (rd z3 a (0, 0, 0, 0, (0, prep (α := Int) 8 0, [], false), (0, prep (α := Int) 8 0, [], false), [], false)).2.2.2.2.1.2.1.2.2.2.2.2.1 (rd z3 a (0, 0, 0, 0, (0, prep (α := Int) 8 0, [], false), (0, prep (α := Int) 8 0, [], false), [], false)).2.2.2.2.1.2.1.2.2.2.2.2.2.1 (rd z3 a (0, 0, 0, 0, (0, prep (α := Int) 8 0, [], false), (0, prep (α := Int) 8 0, [], false), [], false)).2.2.2.2.1.2.1.2.2.2.2.2.2.2 (rd z3 a (0, 0, 0, 0, (0, prep (α := Int) 8 0, [], false), (0, prep (α := Int) 8 0, [], false), [], false)).2.2.2.2.1.2.2.1 (rd z3 a (0, 0, 0, 0, (0, prep (α := Int) 8 0, [], false), (0, prep (α := Int) 8 0, [], false), [], false)).2.2.2.2.1.2.2.2 (rd z3 a (0, 0, 0, 0, (0, prep (α := Int) 8 0, [], false), (0, prep (α := Int) 8 0, [], false), [], false)).2.2.2.2.2.1.1 (rd z3 a (0, 0, 0, 0, (0, prep (α := Int) 8 0, [], false), (0, prep (α := Int) 8 0, [], false), [], false)).2.2.2.2.2.1.2.1.1 (rd z3 a (0, 0, 0, 0, (0, prep (α := Int) 8 0, [], false), (0, prep (α := Int) 8 0, [], false), [], false)).2.2.2.2.2.1.2.1.2.1 (rd z3 a (0, 0, 0, 0, (0, prep (α := Int) 8 0, [], false), (0, prep (α := Int) 8 0, [], false), [], false)).2.2.2.2.2.1.2.1.2.2.1 (rd z3 a (0, 0, 0, 0, (0, prep (α := Int) 8 0, [], false), (0, prep (α := Int) 8 0, [], false), [], false)).2.2.2.2.2.1.2.1.2.2.2.1 (rd z3 a (0, 0, 0, 0, (0, prep (α := Int) 8 0, [], false), (0, prep (α := Int) 8 0, [], false), [], false)).2.2.2.2.2.1.2.1.2.2.2.2.1 (rd z3 a (0, 0, 0, 0, (0, prep (α := Int) 8 0, [], false), (0, prep (α := Int) 8 0, [], false), [], false)).2.2.2.2.2.1.2.1.2.2.2.2.2.1 (rd z3 a (0, 0, 0, 0, (0, prep (α := Int) 8 0, [], false), (0, prep (α := Int) 8 0, [], false), [], false)).2.2.2.2.2.1.2.1.2.2.2.2.2.2.1 (rd z3 a (0, 0, 0, 0, (0, prep (α := Int) 8 0, [], false), (0, prep (α := Int) 8 0, [], false), [], false)).2.2.2.2.2.1.2.1.2.2.2.2.2.2.2 (rd z3 a (0, 0, 0, 0, (0, prep (α := Int) 8 0, [], false), (0, prep (α := Int) 8 0, [], false), [], false)).2.2.2.2.2.1.2.2.1 (rd z3 a (0, 0, 0, 0, (0, prep (α := Int) 8 0, [], false), (0, prep (α := Int) 8 0, [], false), [], false)).2.2.2.2.2.1.2.2.2 (rd z3 a (0, 0, 0, 0, (0, prep (α := Int) 8 0, [], false), (0, prep (α := Int) 8 0, [], false), [], false)).2.2.2.2.2.2.1 (rd z3 a (0, 0, 0, 0, (0, prep (α := Int) 8 0, [], false), (0, prep (α := Int) 8 0, [], false), [], false)).2.2.2.2.2.2.2).bind fun ((c, _), (e, f, h, i, l, m, n, o, p, s, u, v, w, y, _), (z, A, B, C, D, G, H, I, J, K, M, N, O, P, Q, T, U, V, W, X, Z, a1, b1, c1, e1, f1, h1, i1, _), _) =>
    ix o a <|
    let r4 : List Y1_2 := upd o a (z, A, B, C, (D, (G, H, I, J, K, M, N, O), P, Q), (T, (U, V, W, X, Z, a1, b1, c1), e1, f1), h1, i1)
    (bif c then
     (S107 k r4 a (IntKind.i64.wrap (a + 1))).bind fun q5 =>
     some ((), (e, f, h, i, l, m, n, q5.1.1, p, s, u, v, w, y, ()), ())
    else
     some ((), (e, f, h, i, l, m, n, r4, p, s, u, v, w, y, ()), ()))
   else
    (K14 (S147 k) q2.2.1 (rd z3 a (0, 0, 0, 0, (0, prep (α := Int) 8 0, [], false), (0, prep (α := Int) 8 0, [], false), [], false)).1 (rd z3 a (0, 0, 0, 0, (0, prep (α := Int) 8 0, [], false), (0, prep (α := Int) 8 0, [], false), [], false)).2.1 (rd z3 a (0, 0, 0, 0, (0, prep (α := Int) 8 0, [], false), (0, prep (α := Int) 8 0, [], false), [], false)).2.2.1 (rd z3 a (0, 0, 0, 0, (0, prep (α := Int) 8 0, [], false), (0, prep (α := Int) 8 0, [], false), [], false)).2.2.2.1 (rd z3 a (0, 0, 0, 0, (0, prep (α := Int) 8 0, [], false), (0, prep (α := Int) 8 0, [], false), [], false)).2.2.2.2.1.1 (rd z3 a (0, 0, 0, 0, (0, prep (α := Int) 8 0, [], false), (0, prep (α := Int) 8 0, [], false), [], false)).2.2.2.2.1.2.1.1 (rd z3 a (0, 0, 0, 0, (0, prep (α := Int) 8 0, [], false), (0, prep (α := Int) 8 0, [], false), [], false)).2.2.2.2.1.2.1.2.1 (rd z3 a (0, 0, 0, 0, (0, prep (α := Int) 8 0, [], false), (0, prep (α := Int) 8 0, [], false), [], false)).2.2.2.2.1.2.1.2.2.1 (rd z3 a (0, 0, 0, 0, (0, prep (α := Int) 8 0, [], false), (0, prep (α := Int) 8 0, [], false), [], false)).2.2.2.2.1.2.1.2.2.2.1 (rd z3 a (0, 0, 0, 0, (0, prep (α := Int) 8 0, [], false), (0, prep (α := Int) 8 0, [], false), [], false)).2.2.2.2.1.2.1.2.2.2.2.1 (rd z3 a (0, 0, 0, 0, (0, prep (α := Int) 8 0, [], false), (0, prep (α := Int) 8 0, [], false), [], false)).2.2.2.2.1.2.1.2.2.2.2.2.1 (rd z3 a (0, 0, 0, 0, (0, prep (α := Int) 8 0, [], false), (0, prep (α := Int) 8 0, [], false), [], false)).2.2.2.2.1.2.1.2.2.2.2.2.2.1 (rd z3 a (0, 0, 0, 0, (0, prep (α := Int) 8 0, [], false), (0, prep (α := Int) 8 0, [], false), [], false)).2.2.2.2.1.2.1.2.2.2.2.2.2.2 (rd z3 a (0, 0, 0, 0, (0, prep (α := Int) 8 0, [], false), (0, prep (α := Int) 8 0, [], false), [], false)).2.2.2.2.1.2.2.1 (rd z3 a (0, 0, 0, 0, (0, prep (α := Int) 8 0, [], false), (0, prep (α := Int) 8 0, [], false), [], false)).2.2.2.2.1.2.2.2 (rd z3 a (0, 0, 0, 0, (0, prep (α := Int) 8 0, [], false), (0, prep (α := Int) 8 0, [], false), [], false)).2.2.2.2.2.1.1 (rd z3 a (0, 0, 0, 0, (0, prep (α := Int) 8 0, [], false), (0, prep (α := Int) 8 0, [], false), [], false)).2.2.2.2.2.1.2.1.1 (rd z3 a (0, 0, 0, 0, (0, prep (α := Int) 8 0, [], false), (0, prep (α := Int) 8 0, [], false), [], false)).2.2.2.2.2.1.2.1.2.1 (rd z3 a (0, 0, 0, 0, (0, prep (α := Int) 8 0, [], false), (0, prep (α := Int) 8 0, [], false), [], false)).2.2.2.2.2.1.2.1.2.2.1 (rd z3 a (0, 0, 0, 0, (0, prep (α := Int) 8 0, [], false), (0, prep (α := Int) 8 0, [], false), [], false)).2.2.2.2.2.1.2.1.2.2.2.1 (rd z3 a (0, 0, 0, 0, (0, prep (α := Int) 8 0, [], false), (0, prep (α := Int) 8 0, [], false), [], false)).2.2.2.2.2.1.2.1.2.2.2.2.1 (rd z3 a (0, 0, 0, 0, (0, prep (α := Int) 8 0, [], false), (0, prep (α := Int) 8 0, [], false), [], false)).2.2.2.2.2.1.2.1.2.2.2.2.2.1 (rd z3 a (0, 0, 0, 0, (0, prep (α := Int) 8 0, [], false), (0, prep (α := Int) 8 0, [], false), [], false)).2.2.2.2.2.1.2.1.2.2.2.2.2.2.1 (rd z3 a (0, 0, 0, 0, (0, prep (α := Int) 8 0, [], false), (0, prep (α := Int) 8 0, [], false), [], false)).2.2.2.2.2.1.2.1.2.2.2.2.2.2.2 (rd z3 a (0, 0, 0, 0, (0, prep (α := Int) 8 0, [], false), (0, prep (α := Int) 8 0, [], false), [], false)).2.2.2.2.2.1.2.2.1 (rd z3 a (0, 0, 0, 0, (0, prep (α := Int) 8 0, [], false), (0, prep (α := Int) 8 0, [], false), [], false)).2.2.2.2.2.1.2.2.2 (rd z3 a (0, 0, 0, 0, (0, prep (α := Int) 8 0, [], false), (0, prep (α := Int) 8 0, [], false), [], false)).2.2.2.2.2.2.1 (rd z3 a (0, 0, 0, 0, (0, prep (α := Int) 8 0, [], false), (0, prep (α := Int) 8 0, [], false), [], false)).2.2.2.2.2.2.2).bind fun ((l1, _), (m1, n1, o1, p1, s1, u1, v1, w1, y1, z1, a2, b2, c2, e2, _), (f2, h2, i2, l2, m2, n2, o2, p2, s2, u2, v2, w2, y2, z2, a3, b3, c3, e3, f3, h3, i3, l3, m3, n3, o3, p3, s3, u3, _), _) =>
    ix w1 a <|
    let r7 : List Y1_2 := upd w1 a (f2, h2, i2, l2, (m2, (n2, o2, p2, s2, u2, v2, w2, y2), z2, a3), (b3, (c3, e3, f3, h3, i3, l3, m3, n3), o3, p3), s3, u3)
    (bif l1 then
     (S107 k r7 a (IntKind.i64.wrap (a + 1))).bind fun q8 =>
     some ((), (m1, n1, o1, p1, s1, u1, v1, q8.1.1, y1, z1, a2, b2, c2, e2, ()), ())
    else
     some ((), (m1, n1, o1, p1, s1, u1, v1, r7, y1, z1, a2, b2, c2, e2, ()), ())))))
def F103 : Fn := ⟨[u1_1], [], fun k ((a, b, c, e, f, h, i, l, m, n, o, p, s, t, _), _) => S103 k a b c e f h i l m n o p s t⟩
theorem ok103 : O 103 F103 := okF (Om ok107 <| Om ok140a <| Om ok145 <| Om ok146 <| Om ok147 <| Om ok148 Oz) [] On Tryz.func103 rfl
def S58 (k : Nat) (C : Y1_49) : Option ((Y1_47 × (List (PN Int 6)) × Unit) × Unit) :=
 (S99 k C).bind fun (((a, b, c, e, f, h, i, l), _), _) =>
 (bif f then
  (bif !h then
   (S100 k a b c e f h i l.1 l.2.1.1.1 l.2.1.1.2 l.2.1.2 l.2.2.1 l.2.2.2 ([] : List (PN Int 6))).bind fun q1 =>
   (K14 (S101 k) q1.2.1).bind fun q2 =>
   (K14 (S102 k) q2.2.1).bind fun q3 =>
   (K14 (S103 k) q3.2.1).bind fun (_, (m, n, o, p, s, t, _, u, v, w, y, z, A, B, _), _) =>
   some (((IntKind.i64.wrap (m + 1), n, o, p, s, t, false, u, ((v, w), y), z, A), B, ()), ())
  else
   some (((IntKind.i64.wrap (a + 1), b, c, e, f, h, false, l), ([] : List (PN Int 6)), ()), ()))
 else
  some (((IntKind.i64.wrap (a + 1), b, c, e, f, h, false, l), ([] : List (PN Int 6)), ()), ()))
def F58 : Fn := ⟨[.val ⟨true, Y1_18, false⟩], [.val ⟨true, Y1_18, true⟩, u1_9], fun k x => S58 k x.1⟩
theorem ok58 : O 58 F58 := okF (Om ok99 <| Om ok100 <| Om ok101 <| Om ok102 <| Om ok103 Oz) [(8, 2)] On Tryz.func58 rfl
def S59 (k : Nat) (a : Y1_35 × List Y1_6) (b : Int) : Option (((Y1_35 × List Y1_6) × Bool × Unit) × Unit) :=
 (S104 k a).bind fun q0 =>
 (S105 k a b).bind fun q1 =>
 (bif !q1.1.1 then
  some ((q0.1.1, false, ()), ())
 else
  ix q0.1.1.2 b <|
  ix q0.1.1.2 b <|
  some (((q0.1.1.1, upd q0.1.1.2 b ((rd q0.1.1.2 b (0, (0, 0), (0, 0), ([], []), (0, []), 0)).1, (rd q0.1.1.2 b (0, (0, 0), (0, 0), ([], []), (0, []), 0)).2.1, (rd q0.1.1.2 b (0, (0, 0), (0, 0), ([], []), (0, []), 0)).2.2.1, (rd q0.1.1.2 b (0, (0, 0), (0, 0), ([], []), (0, []), 0)).2.2.2.1, (rd q0.1.1.2 b (0, (0, 0), (0, 0), ([], []), (0, []), 0)).2.2.2.2.1, inot .u32 (rd q0.1.1.2 b (0, (0, 0), (0, 0), ([], []), (0, []), 0)).2.2.2.2.2)), true, ()), ()))
def F59 : Fn := ⟨[u1_14, pI], [u1_18, rB], fun k x => S59 k x.1 x.2.1⟩
theorem ok59 : O 59 F59 := okF (Om ok104 <| Om ok105 Oz) [] On Tryz.func59 rfl
end
end Go.Proofs.YteflacbgobpmcaaGreat.Ab
