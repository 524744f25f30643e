import Derived.Test.YtmmagcjlfcicfaaGreatAbW0
/- Contracts, printed by this session's own program gen.py. -/
set_option linter.unusedVariables false
set_option linter.unusedSimpArgs false
set_option maxRecDepth 100000
namespace Go.Proofs.YtmmagcjlfcicfaaGreat.Ab
open Go.RowKit
abbrev Y1_0 : Type := Int × Int × (List (Int × Int × Int × (List (Int × Int × Int × Int)) × (List (Int × Int × Int × Int)) × List (Int × Int × Int × Int))) × (List (PN Int 5)) × Bool × Bool × Bool × (List (Int × Int × Int × Int × (Int × (PN Int 8) × (List (Int × Int × Int)) × Bool) × (Int × (PN Int 8) × (List (Int × Int × Int)) × Bool) × (List Int) × Bool)) × (List Int) × (List Bool) × (List (Int × (Int × Int) × (Int × Int) × ((List Int) × List Int) × (Int × List (Int × Int)) × Int)) × (List Int) × (List Bool) × (List (PN Int 6)) × Unit
abbrev Y1_1 : Ty := .pair (.int .i64) (.pair (.int .i64) (.pair (.int .i64) (.pair (.int .i64) (.pair (.pair (.int .i64) (.pair (arrT 8 (.int .i64)) (.pair (.sl 233 (.pair (.int .i64) (.pair (.int .i64) (.int .i64)))) .bool))) (.pair (.pair (.int .i64) (.pair (arrT 8 (.int .i64)) (.pair (.sl 233 (.pair (.int .i64) (.pair (.int .i64) (.int .i64)))) .bool))) (.pair (.sl 3 (.int .i64)) .bool))))))
abbrev Y1_2 : Type := Int × Int × Int × Int × (Int × (PN Int 8) × (List (Int × Int × Int)) × Bool) × (Int × (PN Int 8) × (List (Int × Int × Int)) × Bool) × (List Int) × Bool
abbrev Y1_3 : Ty := .pair (.int .i64) (.pair (.int .i64) (.pair (.int .i64) (.pair (.sl 87 (.pair (.int .i64) (.pair (.int .i64) (.pair (.int .i64) (.int .i64))))) (.pair (.sl 87 (.pair (.int .i64) (.pair (.int .i64) (.pair (.int .i64) (.int .i64))))) (.sl 87 (.pair (.int .i64) (.pair (.int .i64) (.pair (.int .i64) (.int .i64)))))))))
abbrev Y1_4 : Type := Int × Int × Int × (List (Int × Int × Int × Int)) × (List (Int × Int × Int × Int)) × List (Int × Int × Int × Int)
abbrev Y1_5 : Type := Int × (Int × Int) × (Int × Int) × ((List Int) × List Int) × (Int × List (Int × Int)) × Int
abbrev Y1_6 : Ty := .pair (.int .i64) (.pair (.pair (.int .i64) (.int .i64)) (.pair (.pair (.int .i64) (.int .i64)) (.pair (.pair (.sl 2 (.int .i64)) (.sl 3 (.int .i64))) (.pair (.pair (.int .u32) (.sl 297 (.pair (.int .i64) (.int .u32)))) (.int .u32)))))
abbrev Y1_7 : Ty := .pair (.int .i64) (.pair (.int .i64) (.int .i64))
abbrev Y1_8 : Type := Int × Int × Int × Int
abbrev Y1_9 : Type := Int → Int → (List Y1_4) → (List (PN Int 5)) → Bool → Bool → Bool → (List Y1_2) → (List Int) → (List Bool) → (List Y1_5) → (List Int) → (List Bool) → (List (PN Int 6)) → (List (List Int)) → (List Int) → Int → Int → Option ((Unit) × Y1_0 × Unit)
abbrev Y1_10 : Type := Int × (PN Int 8) × (List (Int × Int × Int)) × Bool
abbrev Y1_11 : Type := Int × Int × Int × Int × Int × Int × Int × Int × Int × Int × Int × Int × Int × (List (Int × Int × Int)) × Bool × Int × Int × Int × Int × Int × Int × Int × Int × Int × (List (Int × Int × Int)) × Bool × (List Int) × Bool × Unit
abbrev Y1_12 : Type := Int → Int → Int → Int → Int → (List Y1_8) → (List Y1_8) → Int → Int → (List Y1_4) → (List (PN Int 5)) → Bool → Bool → Bool → (List Y1_2) → (List Int) → (List Bool) → (List Y1_5) → (List Int) → (List Bool) → Int → Int → Int → Option ((Bool × Unit) × Unit)
abbrev Y1_13 : Type := ((List Y1_8) × Unit) × ((List Int) × Int × Unit) × Unit
abbrev Y1_14 : Type := Int × Int × Int
abbrev Y1_15 : Ty := .pair (.int .i64) (.pair (arrT 8 (.int .i64)) (.pair (.sl 233 Y1_7) .bool))
abbrev Y1_16 : Type := (Int × Unit) × Unit
abbrev Y1_17 : Type := (Int × Bool × Unit) × Unit
abbrev Y1_18 : Ty := .pair (.int .i64) Y1_7
abbrev Y1_19 : Type := Int × Int × (List Y1_4) × (List (PN Int 5)) × Bool × Bool × Bool × (List Y1_2) × (List Int) × (List Bool) × (List Y1_5) × (List Int) × (List Bool) × Unit
abbrev Y1_20 : Type := Int × Int × Int × Int × Y1_10 × Y1_10 × (List Int) × Bool
abbrev Y1_21 : Ty := .sl 114 (.pair (.int .i64) (.int .i64))
abbrev Y1_22 : Type := Int × Int × Int × Int × Int × Int × Int × Int × Int × (List Y1_14) × Bool × Unit
abbrev Y1_23 : Type := (Unit) × Y1_0 × Unit
abbrev Y1_24 : Type := (Bool × Unit) × Unit
abbrev Y1_25 : Ty := .pair (.int .i64) (.pair (.int .i64) (.pair (.sl 77 Y1_3) (.pair (.sl 96 (arrT 5 (.int .i64))) (.pair .bool (.pair .bool (.pair .bool (.pair (.sl 94 Y1_1) (.pair (.pair (.pair (.sl 3 (.int .i64)) (.sl 4 .bool)) (.sl 124 Y1_6)) (.pair (.sl 3 (.int .i64)) (.sl 4 .bool))))))))))
abbrev Y1_26 : Type := Int × Int × Int × Int × Int × Int × Int × Int × Int × Unit × Bool × Unit
abbrev Y1_27 : Type := (Y1_10 × Y1_8 × Bool × Unit) × Unit
abbrev Y1_28 : Type := (List Int) × Int × Unit
abbrev Y1_29 : Ty := arrT 5 (.int .i64)
abbrev Y1_30 : Ty := arrT 6 (.int .i64)
abbrev Y1_31 : Type := (List Int) → Int → Int → (List Y1_8) → Int → Option Y1_13
abbrev Y1_32 : Type := List (Int × Int)
abbrev Y1_33 : Type := Int × Int × Int × (List Y1_8) × (List Y1_8) × Unit × Unit
abbrev Y1_34 : Type := (Y1_2 × Y1_8 × Bool × Unit) × Unit
abbrev Y1_35 : Type := List (Int × Int)
abbrev Y1_36 : Type := Int × Int × Int × (List Y1_8) × (List Y1_8) × List Y1_8
abbrev Y1_37 : Type := (Int × Int × Bool × Unit) × Unit
abbrev Y1_38 : Type := (Y1_10 × Unit) × Unit
abbrev Y1_39 : Type := (Bool × Unit) × Y1_0 × Y1_11 × Unit
abbrev Y1_40 : Type := Int × Int × Int × Int × Unit
abbrev Y1_41 : Ty := .sl 87 Y1_18
abbrev Y1_42 : Ty := .sl 5 (.int .u8)
abbrev Y1_43 : Ty := .sl 3 (.int .i64)
abbrev Y1_44 : Type := Int × (PN Int 8) × (List Y1_14) × Bool
noncomputable section
abbrev c58_L14 : Cut := ⟨[0, 4, 9, 27, 28, 29, 67, 68], [.pin false 0, .own 27 Y1_43, cI, .own 3 (.int .i64), cI, cI, cI, cI], [.mbox 150 [cI, cI, .own 77 Y1_3, .own 96 Y1_29, .cell .bool, .cell .bool, .cell .bool, .own 94 Y1_1, .own 3 (.int .i64), .own 4 .bool, .own 124 Y1_6, .own 3 (.int .i64), .own 4 .bool, .own 82 Y1_30]], 85, [(66, 3)]⟩
def l58_14 (k : Nat) (g3 : Y1_9) (g14 : Int → Int → (List Y1_4) → (List (PN Int 5)) → Bool → Bool → Bool → (List Y1_2) → (List Int) → (List Bool) → (List Y1_5) → (List Int) → (List Bool) → (List (PN Int 6)) → (List (List Int)) → Int → (List Int) → Int → Int → Int → Int → Option Y1_23) (a b : Int) (c : List Y1_4) (e : List (PN Int 5)) (f h i : Bool) (l : List Y1_2) (m : List Int) (n : List Bool) (o : List Y1_5) (p : List Int) (s : List Bool) (t : List (PN Int 6)) (u : List (List Int)) (v : Int) (w : List Int) (y z A B : Int) : Option Y1_23 :=
 (bif decide (B < A) then
  ix l B <|
  (S81 k (rd l B (0, 0, 0, 0, (0, prep (α := Int) 8 0, [], false), (0, prep (α := Int) 8 0, [], false), [], false)) v).bind fun q5 =>
  ix l B <|
  g14 a b c e f h i (upd l B q5.1.1) m n o p s t u v w y z A (IntKind.i64.wrap (B + 1))
 else
  g3 a b c e f h i l m n o p s t u w y (IntKind.i64.wrap (z + 1)))
def b58_14 (k : Nat) (g3 : Y1_9) (g : ((Y1_0 × Unit) × Unit × (List (List Int)) × Int × (List Int) × Int × Int × Int × Int × Unit) → Option Y1_23) (d : (Y1_0 × Unit) × Unit × (List (List Int)) × Int × (List Int) × Int × Int × Int × Int × Unit) : Option Y1_23 := l58_14 k g3 (fun a b c e f h i l m n o p s t u v w y z A B => g (((a, b, c, e, f, h, i, l, m, n, o, p, s, t, ()), ()), (), u, v, w, y, z, A, B, ())) d.1.1.1 d.1.1.2.1 d.1.1.2.2.1 d.1.1.2.2.2.1 d.1.1.2.2.2.2.1 d.1.1.2.2.2.2.2.1 d.1.1.2.2.2.2.2.2.1 d.1.1.2.2.2.2.2.2.2.1 d.1.1.2.2.2.2.2.2.2.2.1 d.1.1.2.2.2.2.2.2.2.2.2.1 d.1.1.2.2.2.2.2.2.2.2.2.2.1 d.1.1.2.2.2.2.2.2.2.2.2.2.2.1 d.1.1.2.2.2.2.2.2.2.2.2.2.2.2.1 d.1.1.2.2.2.2.2.2.2.2.2.2.2.2.2.1 d.2.2.1 d.2.2.2.1 d.2.2.2.2.1 d.2.2.2.2.2.1 d.2.2.2.2.2.2.1 d.2.2.2.2.2.2.2.1 d.2.2.2.2.2.2.2.2.1
def L58_14 (k : Nat) (g3 : Y1_9) (a : Nat) (b c : Int) (e : List Y1_4) (f : List (PN Int 5)) (h i l : Bool) (m : List Y1_2) (n : List Int) (o : List Bool) (p : List Y1_5) (s : List Int) (t : List Bool) (u : List (PN Int 6)) (v : List (List Int)) (w : Int) (y : List Int) (z A B C : Int) : Option Y1_23 := iter (R := (Unit) × Y1_0 × Unit) c58_L14 (b58_14 k g3) a (((b, c, e, f, h, i, l, m, n, o, p, s, t, u, ()), ()), (), v, w, y, z, A, B, C, ())
theorem L58_14_s (k g3 a b c e f h i l m n o p s t u v w y z A B C) : L58_14 k g3 (a + 1) b c e f h i l m n o p s t u v w y z A B C = l58_14 k g3 (L58_14 k g3 a) b c e f h i l m n o p s t u v w y z A B C := iter_succ _ _ _ _
abbrev c58_L7 : Cut := ⟨[0, 4, 6, 27, 28, 29, 41, 42, 43], [.pin false 0, .own 27 Y1_43, cI, .own 3 (.int .i64), cI, cI, .cell Y1_43, cI, cI], [.mbox 150 [cI, cI, .own 77 Y1_3, .own 96 Y1_29, .cell .bool, .cell .bool, .cell .bool, .own 94 Y1_1, .own 3 (.int .i64), .own 4 .bool, .own 124 Y1_6, .own 3 (.int .i64), .own 4 .bool, .own 82 Y1_30]], 85, []⟩
def l58_7 (k : Nat) (g3 : Y1_9) (g7 : Int → Int → (List Y1_4) → (List (PN Int 5)) → Bool → Bool → Bool → (List Y1_2) → (List Int) → (List Bool) → (List Y1_5) → (List Int) → (List Bool) → (List (PN Int 6)) → (List (List Int)) → Int → (List Int) → Int → Int → (List Int) → Int → Int → Option Y1_23) (a b : Int) (c : List Y1_4) (e : List (PN Int 5)) (f h i : Bool) (l : List Y1_2) (m : List Int) (n : List Bool) (o : List Y1_5) (p : List Int) (s : List Bool) (t : List (PN Int 6)) (u : List (List Int)) (v : Int) (w : List Int) (y z : Int) (A : List Int) (B C : Int) : Option Y1_23 :=
 (bif decide (C < B) then
  ix A C <|
  (S100a k a b c e f h i l m n o p s t (0, 12, 0, rd A C 0, 0, 15)).bind fun q2 =>
  g7 q2.2.1.1 q2.2.1.2.1 q2.2.1.2.2.1 q2.2.1.2.2.2.1 q2.2.1.2.2.2.2.1 q2.2.1.2.2.2.2.2.1 q2.2.1.2.2.2.2.2.2.1 q2.2.1.2.2.2.2.2.2.2.1 q2.2.1.2.2.2.2.2.2.2.2.1 q2.2.1.2.2.2.2.2.2.2.2.2.1 q2.2.1.2.2.2.2.2.2.2.2.2.2.1 q2.2.1.2.2.2.2.2.2.2.2.2.2.2.1 q2.2.1.2.2.2.2.2.2.2.2.2.2.2.2.1 q2.2.1.2.2.2.2.2.2.2.2.2.2.2.2.2.1 u v w y z A B (IntKind.i64.wrap (C + 1))
 else
  (S73 k ((m, n), o)).bind fun q3 =>
  (S103 k q3.1.1 v).bind fun q4 =>
  (bif decide (q4.1.1 ≥ 0) then
   L58_14 k g3 k a b c e f h i l m n o p s t u q4.1.1 w y z (l.length : Int) 0
  else
   g3 a b c e f h i l m n o p s t u w y (IntKind.i64.wrap (z + 1))))
def b58_7 (k : Nat) (g3 : Y1_9) (g : ((Y1_0 × Unit) × Unit × (List (List Int)) × Int × (List Int) × Int × Int × (List Int) × Int × Int × Unit) → Option Y1_23) (d : (Y1_0 × Unit) × Unit × (List (List Int)) × Int × (List Int) × Int × Int × (List Int) × Int × Int × Unit) : Option Y1_23 := l58_7 k g3 (fun a b c e f h i l m n o p s t u v w y z A B C => g (((a, b, c, e, f, h, i, l, m, n, o, p, s, t, ()), ()), (), u, v, w, y, z, A, B, C, ())) d.1.1.1 d.1.1.2.1 d.1.1.2.2.1 d.1.1.2.2.2.1 d.1.1.2.2.2.2.1 d.1.1.2.2.2.2.2.1 d.1.1.2.2.2.2.2.2.1 d.1.1.2.2.2.2.2.2.2.1 d.1.1.2.2.2.2.2.2.2.2.1 d.1.1.2.2.2.2.2.2.2.2.2.1 d.1.1.2.2.2.2.2.2.2.2.2.2.1 d.1.1.2.2.2.2.2.2.2.2.2.2.2.1 d.1.1.2.2.2.2.2.2.2.2.2.2.2.2.1 d.1.1.2.2.2.2.2.2.2.2.2.2.2.2.2.1 d.2.2.1 d.2.2.2.1 d.2.2.2.2.1 d.2.2.2.2.2.1 d.2.2.2.2.2.2.1 d.2.2.2.2.2.2.2.1 d.2.2.2.2.2.2.2.2.1 d.2.2.2.2.2.2.2.2.2.1
def L58_7 (k : Nat) (g3 : Y1_9) (a : Nat) (b c : Int) (e : List Y1_4) (f : List (PN Int 5)) (h i l : Bool) (m : List Y1_2) (n : List Int) (o : List Bool) (p : List Y1_5) (s : List Int) (t : List Bool) (u : List (PN Int 6)) (v : List (List Int)) (w : Int) (y : List Int) (z A : Int) (B : List Int) (C D : Int) : Option Y1_23 := iter (R := (Unit) × Y1_0 × Unit) c58_L7 (b58_7 k g3) a (((b, c, e, f, h, i, l, m, n, o, p, s, t, u, ()), ()), (), v, w, y, z, A, B, C, D, ())
theorem L58_7_s (k g3 a b c e f h i l m n o p s t u v w y z A B C D) : L58_7 k g3 (a + 1) b c e f h i l m n o p s t u v w y z A B C D = l58_7 k g3 (L58_7 k g3 a) b c e f h i l m n o p s t u v w y z A B C D := iter_succ _ _ _ _
abbrev c58_L3 : Cut := ⟨[0, 4, 27, 28, 29], [.pin false 0, .own 27 Y1_43, .own 3 (.int .i64), cI, cI], [.mbox 150 [cI, cI, .own 77 Y1_3, .own 96 Y1_29, .cell .bool, .cell .bool, .cell .bool, .own 94 Y1_1, .own 3 (.int .i64), .own 4 .bool, .own 124 Y1_6, .own 3 (.int .i64), .own 4 .bool, .own 82 Y1_30]], 85, []⟩
def l58_3 (k : Nat) (g3 : Y1_9) (a b : Int) (c : List Y1_4) (e : List (PN Int 5)) (f h i : Bool) (l : List Y1_2) (m : List Int) (n : List Bool) (o : List Y1_5) (p : List Int) (s : List Bool) (t : List (PN Int 6)) (u : List (List Int)) (v : List Int) (w y : Int) : Option Y1_23 :=
 (bif decide (y < w) then
  ix v y <|
  (S100a k a b c e f h i l m n o p s t (0, 11, 0, rd v y 0, 0, 0)).bind fun q1 =>
  ix u y <|
  L58_7 k g3 k q1.2.1.1 q1.2.1.2.1 q1.2.1.2.2.1 q1.2.1.2.2.2.1 q1.2.1.2.2.2.2.1 q1.2.1.2.2.2.2.2.1 q1.2.1.2.2.2.2.2.2.1 q1.2.1.2.2.2.2.2.2.2.1 q1.2.1.2.2.2.2.2.2.2.2.1 q1.2.1.2.2.2.2.2.2.2.2.2.1 q1.2.1.2.2.2.2.2.2.2.2.2.2.1 q1.2.1.2.2.2.2.2.2.2.2.2.2.2.1 q1.2.1.2.2.2.2.2.2.2.2.2.2.2.2.1 q1.2.1.2.2.2.2.2.2.2.2.2.2.2.2.2.1 u (rd v y 0) v w y (rd u y []) ((rd u y []).length : Int) 0
 else
  some ((), (a, b, c, e, f, h, i, l, m, n, o, p, s, t, ()), ()))
def b58_3 (k : Nat) (g : ((Y1_0 × Unit) × Unit × (List (List Int)) × (List Int) × Int × Int × Unit) → Option Y1_23) (d : (Y1_0 × Unit) × Unit × (List (List Int)) × (List Int) × Int × Int × Unit) : Option Y1_23 := l58_3 k (fun a b c e f h i l m n o p s t u v w y => g (((a, b, c, e, f, h, i, l, m, n, o, p, s, t, ()), ()), (), u, v, w, y, ())) d.1.1.1 d.1.1.2.1 d.1.1.2.2.1 d.1.1.2.2.2.1 d.1.1.2.2.2.2.1 d.1.1.2.2.2.2.2.1 d.1.1.2.2.2.2.2.2.1 d.1.1.2.2.2.2.2.2.2.1 d.1.1.2.2.2.2.2.2.2.2.1 d.1.1.2.2.2.2.2.2.2.2.2.1 d.1.1.2.2.2.2.2.2.2.2.2.2.1 d.1.1.2.2.2.2.2.2.2.2.2.2.2.1 d.1.1.2.2.2.2.2.2.2.2.2.2.2.2.1 d.1.1.2.2.2.2.2.2.2.2.2.2.2.2.2.1 d.2.2.1 d.2.2.2.1 d.2.2.2.2.1 d.2.2.2.2.2.1
def L58_3 (k a : Nat) (b c : Int) (e : List Y1_4) (f : List (PN Int 5)) (h i l : Bool) (m : List Y1_2) (n : List Int) (o : List Bool) (p : List Y1_5) (s : List Int) (t : List Bool) (u : List (PN Int 6)) (v : List (List Int)) (w : List Int) (y z : Int) : Option Y1_23 := iter (R := (Unit) × Y1_0 × Unit) c58_L3 (b58_3 k) a (((b, c, e, f, h, i, l, m, n, o, p, s, t, u, ()), ()), (), v, w, y, z, ())
theorem L58_3_s (k a b c e f h i l m n o p s t u v w y z) : L58_3 k (a + 1) b c e f h i l m n o p s t u v w y z = l58_3 k (L58_3 k a) b c e f h i l m n o p s t u v w y z := iter_succ _ _ _ _
def S58 (k : Nat) (a b : Int) (c : List Y1_4) (e : List (PN Int 5)) (f h i : Bool) (l : List Y1_2) (m : List Int) (n : List Bool) (o : List Y1_5) (p : List Int) (s : List Bool) (t : List (PN Int 6)) : Option Y1_23 :=
 (S102 k ((m, n), o)).bind fun q0 =>
 L58_3 k k a b c e f h i l q0.1.1.1.1 q0.1.1.1.2 q0.1.1.2 p s t q0.1.2.2.1 q0.1.2.1 (q0.1.2.1.length : Int) 0
def F58 : Fn := ⟨[.mbox 150 [cI, cI, .own 77 Y1_3, .own 96 Y1_29, .cell .bool, .cell .bool, .cell .bool, .own 94 Y1_1, .own 3 (.int .i64), .own 4 .bool, .own 124 Y1_6, .own 3 (.int .i64), .own 4 .bool, .own 82 Y1_30]], [], fun k x => S58 k x.1.1 x.1.2.1 x.1.2.2.1 x.1.2.2.2.1 x.1.2.2.2.2.1 x.1.2.2.2.2.2.1 x.1.2.2.2.2.2.2.1 x.1.2.2.2.2.2.2.2.1 x.1.2.2.2.2.2.2.2.2.1 x.1.2.2.2.2.2.2.2.2.2.1 x.1.2.2.2.2.2.2.2.2.2.2.1 x.1.2.2.2.2.2.2.2.2.2.2.2.1 x.1.2.2.2.2.2.2.2.2.2.2.2.2.1 x.1.2.2.2.2.2.2.2.2.2.2.2.2.2.1⟩
theorem ok58 : FnOK Tryz.prog 58 F58 := okF [(73, F73), (81, F81), (100, F100a), (102, F102), (103, F103)] [] (fun k => (.loop 3 c58_L3 (b58_3 k) (fun g => (fun (g3 : Y1_9) => (.loop 14 c58_L14 (b58_14 k g3) (fun g => .nil) (.loop 7 c58_L7 (b58_7 k g3) (fun g => .nil) .nil))) (fun t14 t15 t16 t17 t18 t19 t20 t21 t22 t23 t24 t25 t26 t27 who t27_1 t28 t29 => g (((t14, t15, t16, t17, t18, t19, t20, t21, t22, t23, t24, t25, t26, t27, ()), ()), (), who, t27_1, t28, t29, ()))) .nil)) ⟨ok73, ok81, ok100a, ok102, ok103, trivial⟩ Tryz.func58 rfl
abbrev c202_L3 : Cut := ⟨[0, 2, 6, 7, 8, 12, 13, 14], [.cell Y1_21, cI, cI, .cell .bool, .mp 330 true (.int .i64) false .bool, .cell Y1_43, cI, cI], [], 51, []⟩
def l202_3 (k : Nat) (g3 : Y1_32 → Int → Int → Bool → (List (Int × Bool)) → (List Int) → Int → Int → Option Y1_17) (a : Y1_35) (b c : Int) (e : Bool) (f : List (Int × Bool)) (h : List Int) (i l : Int) : Option Y1_17 :=
 (bif decide (l < i) then
  ix h l <|
  (S195 k a (rd h l 0) b).bind fun q0 =>
  (bif !q0.1.1 then
   g3 a b c e f h i (IntKind.i64.wrap (l + 1))
  else
   (bif mget (.int .i64) .bool (rd h l 0) f false then
    g3 a b c e f h i (IntKind.i64.wrap (l + 1))
   else
    (bif !e then
     ix a (rd h l 0) <|
     g3 a b (rd a (rd h l 0) (0, 0)).1 true (updD (.int .i64) .bool (rd h l 0) true f) h i (IntKind.i64.wrap (l + 1))
    else
     ix a (rd h l 0) <|
     (bif decide ((rd a (rd h l 0) (0, 0)).1 < c) then
      ix a (rd h l 0) <|
      g3 a b (rd a (rd h l 0) (0, 0)).1 true (updD (.int .i64) .bool (rd h l 0) true f) h i (IntKind.i64.wrap (l + 1))
     else
      g3 a b c e (updD (.int .i64) .bool (rd h l 0) true f) h i (IntKind.i64.wrap (l + 1))))))
 else
  some ((c, e, ()), ()))
def b202_3 (k : Nat) (g : ((Unit) × Y1_32 × Int × Int × Bool × (List (Int × Bool)) × (List Int) × Int × Int × Unit) → Option Y1_17) (d : (Unit) × Y1_32 × Int × Int × Bool × (List (Int × Bool)) × (List Int) × Int × Int × Unit) : Option Y1_17 := l202_3 k (fun a b c e f h i l => g ((), a, b, c, e, f, h, i, l, ())) d.2.1 d.2.2.1 d.2.2.2.1 d.2.2.2.2.1 d.2.2.2.2.2.1 d.2.2.2.2.2.2.1 d.2.2.2.2.2.2.2.1 d.2.2.2.2.2.2.2.2.1
def L202_3 (k a : Nat) (b : Y1_35) (c e : Int) (f : Bool) (h : List (Int × Bool)) (i : List Int) (l m : Int) : Option Y1_17 := iter (R := (Int × Bool × Unit) × Unit) c202_L3 (b202_3 k) a ((), b, c, e, f, h, i, l, m, ())
theorem L202_3_s (k a b c e f h i l m) : L202_3 k (a + 1) b c e f h i l m = l202_3 k (L202_3 k a) b c e f h i l m := iter_succ _ _ _ _
def S202 (k : Nat) (a : Y1_35) (b : List Int) (c : Int) : Option Y1_17 :=
 L202_3 k k a c 0 false ([] : List (Int × Bool)) b (b.length : Int) 0
def F202 : Fn := ⟨[.val ⟨false, Y1_21, false⟩, .val ⟨false, Y1_43, false⟩, .val ⟨false, (.int .i64), false⟩], [.val ⟨false, (.int .i64), true⟩, .val ⟨false, .bool, true⟩], fun k x => S202 k x.1 x.2.1 x.2.2.1⟩
theorem ok202 : FnOK Tryz.prog 202 F202 := okF [(195, F195)] [] (fun k => (.loop 3 c202_L3 (b202_3 k) (fun g => .nil) .nil)) ⟨ok195, trivial⟩ Tryz.func202 rfl
def S225 (k : Nat) (a : Y1_20) (b : Int) : Option Y1_16 :=
 (bif a.2.2.2.1 == 2 then
  some ((IntKind.i64.wrap ((IntKind.i64.wrap (b + b)) + a.1), ()), ())
 else
  (bif a.2.2.2.2.2.2.2 then
   some ((a.1, ()), ())
  else
   some ((IntKind.i64.wrap (b + a.1), ()), ())))
def F225 : Fn := ⟨[.val ⟨true, Y1_1, false⟩, .val ⟨false, (.int .i64), false⟩], [.val ⟨false, (.int .i64), true⟩], fun k x => S225 k x.1 x.2.1⟩
theorem ok225 : FnOK Tryz.prog 225 F225 := okF [] [] (fun k => .nil) trivial Tryz.func225 rfl
def S201 (k : Nat) (a : Y1_20) (b : Int) (c : Y1_35) : Option Y1_16 :=
 (S202 k c a.2.2.2.2.2.2.1 a.1).bind fun q0 =>
 (bif q0.1.2.1 then
  (S225 k a b).bind fun q1 =>
  some ((mn q1.1.1 q0.1.1, ()), ())
 else
  (S225 k a b).bind fun q2 =>
  some ((q2.1.1, ()), ()))
def F201 : Fn := ⟨[.val ⟨true, Y1_1, false⟩, .val ⟨false, (.int .i64), false⟩, .val ⟨false, Y1_21, false⟩], [.val ⟨false, (.int .i64), true⟩], fun k x => S201 k x.1 x.2.1 x.2.2.1⟩
theorem ok201 : FnOK Tryz.prog 201 F201 := okF [(202, F202), (225, F225)] [] (fun k => .nil) ⟨ok202, ok225, trivial⟩ Tryz.func201 rfl
def S158 (k : Nat) (a : Y1_20) (b : Int) (c : Y1_35) : Option ((Y1_14 × Unit) × Unit) :=
 (S201 k a b c).bind fun q0 =>
 (S202 k c a.2.2.2.2.2.2.1 a.1).bind fun q1 =>
 (bif q1.1.2.1 then
  some (((q0.1.1, 0, a.1), ()), ())
 else
  some (((q0.1.1, 1, a.1), ()), ()))
def F158 : Fn := ⟨[.val ⟨true, Y1_1, false⟩, .val ⟨false, (.int .i64), false⟩, .val ⟨false, Y1_21, false⟩], [.val ⟨true, Y1_7, true⟩], fun k x => S158 k x.1 x.2.1 x.2.2.1⟩
theorem ok158 : FnOK Tryz.prog 158 F158 := okF [(201, F201), (202, F202)] [] (fun k => .nil) ⟨ok201, ok202, trivial⟩ Tryz.func158 rfl
def S227 (k : Nat) (x : Int) : Option Y1_24 :=
 some ((x != x, ()), ())
def F227 : Fn := ⟨[.val ⟨false, (.int .i64), false⟩], [.val ⟨false, .bool, true⟩], fun k x => S227 k x.1⟩
theorem ok227 : FnOK Tryz.prog 227 F227 := okF [] [] (fun k => .nil) trivial Tryz.func227 rfl
def S206 (k : Nat) (x a : Int) : Option Y1_16 :=
 (S227 k x).bind fun q0 =>
 (S227 k a).bind fun q1 =>
 (bif q0.1.1 then
  (bif q1.1.1 then
   some ((0, ()), ())
  else
   some (((-1), ()), ()))
 else
  (bif q1.1.1 then
   some ((1, ()), ())
  else
   (bif decide (x < a) then
    some (((-1), ()), ())
   else
    (bif decide (x > a) then
     some ((1, ()), ())
    else
     some ((0, ()), ())))))
def F206 : Fn := ⟨[.val ⟨false, (.int .i64), false⟩, .val ⟨false, (.int .i64), false⟩], [.val ⟨false, (.int .i64), true⟩], fun k x => S206 k x.1 x.2.1⟩
theorem ok206 : FnOK Tryz.prog 206 F206 := okF [(227, F227)] [] (fun k => .nil) ⟨ok227, trivial⟩ Tryz.func206 rfl
abbrev c205_L3 : Cut := ⟨[3, 6, 7, 8], [cI, .cell Y1_43, cI, cI], [], 18, []⟩
def l205_3 (k : Nat) (g3 : Int → (List Int) → Int → Int → Option Y1_16) (a : Int) (b : List Int) (c e : Int) : Option Y1_16 :=
 (bif decide (e < c) then
  ix b e <|
  (bif (rd b e 0) != a then
   some ((rd b e 0, ()), ())
  else
   g3 a b c (IntKind.i64.wrap (e + 1)))
 else
  some ((a, ()), ()))
def b205_3 (k : Nat) (g : ((Unit) × Int × (List Int) × Int × Int × Unit) → Option Y1_16) (d : (Unit) × Int × (List Int) × Int × Int × Unit) : Option Y1_16 := l205_3 k (fun a b c e => g ((), a, b, c, e, ())) d.2.1 d.2.2.1 d.2.2.2.1 d.2.2.2.2.1
def L205_3 (k a : Nat) (b : Int) (c : List Int) (e f : Int) : Option Y1_16 := iter (R := (Int × Unit) × Unit) c205_L3 (b205_3 k) a ((), b, c, e, f, ())
theorem L205_3_s (k a b c e f) : L205_3 k (a + 1) b c e f = l205_3 k (L205_3 k a) b c e f := iter_succ _ _ _ _
def S205 (k : Nat) (a : List Int) : Option Y1_16 :=
 L205_3 k k 0 a (a.length : Int) 0
def F205 : Fn := ⟨[.val ⟨false, Y1_43, false⟩], [.val ⟨false, (.int .i64), true⟩], fun k x => S205 k x.1⟩
theorem ok205 : FnOK Tryz.prog 205 F205 := okF [] [] (fun k => (.loop 3 c205_L3 (b205_3 k) (fun g => .nil) .nil)) trivial Tryz.func205 rfl
def S160 (k : Nat) (a b : Int × Int × Int) : Option Y1_16 :=
 (S206 k a.1 b.1).bind fun q0 =>
 (S206 k a.2.1 b.2.1).bind fun q1 =>
 (S206 k a.2.2 b.2.2).bind fun q2 =>
 (S205 k ([q0.1.1, q1.1.1, q2.1.1] : List Int)).bind fun q3 =>
 some ((q3.1.1, ()), ())
def F160 : Fn := ⟨[.val ⟨true, Y1_7, false⟩, .val ⟨true, Y1_7, false⟩], [.val ⟨false, (.int .i64), true⟩], fun k x => S160 k x.1 x.2.1⟩
theorem ok160 : FnOK Tryz.prog 160 F160 := okF [(205, F205), (206, F206)] [] (fun k => .nil) ⟨ok205, ok206, trivial⟩ Tryz.func160 rfl
def S226 (k : Nat) (a : Int) : Option Y1_16 :=
 (bif decide (a < 0) then
  some ((0, ()), ())
 else
  (bif decide (a ≥ 64) then
   some ((0, ()), ())
  else
   nneg a <|
   some ((ishl .u64 1 a, ()), ())))
def F226 : Fn := ⟨[.val ⟨false, (.int .i64), false⟩], [.val ⟨false, (.int .u64), true⟩], fun k x => S226 k x.1⟩
theorem ok226 : FnOK Tryz.prog 226 F226 := okF [] [] (fun k => .nil) trivial Tryz.func226 rfl
def S203 (k : Nat) (a b : Int) : Option Y1_16 :=
 (S226 k b).bind fun q0 =>
 some ((ior .u64 a q0.1.1, ()), ())
def F203 : Fn := ⟨[.val ⟨false, (.int .u64), false⟩, .val ⟨false, (.int .i64), false⟩], [.val ⟨false, (.int .u64), true⟩], fun k x => S203 k x.1 x.2.1⟩
theorem ok203 : FnOK Tryz.prog 203 F203 := okF [(226, F226)] [] (fun k => .nil) ⟨ok226, trivial⟩ Tryz.func203 rfl
abbrev c204_L4 : Cut := ⟨[0, 2, 4], [.cell (.int .u64), cI, cI], [], 23, []⟩
def l204_4 (k : Nat) (g4 : Int → Int → Int → Option Y1_17) (a b c : Int) : Option Y1_17 :=
 (bif decide (c > 0) then
  nneg (IntKind.i64.wrap (64 - c)) <|
  (bif (ishl .u64 a (IntKind.i64.wrap (64 - c))) == 0 then
   nneg c <|
   g4 (ishr .u64 a c) (IntKind.i64.wrap (b + c)) (IntKind.i64.wrap (Int.tdiv c 2))
  else
   g4 a b (IntKind.i64.wrap (Int.tdiv c 2)))
 else
  some ((b, true, ()), ()))
def b204_4 (k : Nat) (g : ((Unit) × Int × Int × Int × Unit) → Option Y1_17) (d : (Unit) × Int × Int × Int × Unit) : Option Y1_17 := l204_4 k (fun a b c => g ((), a, b, c, ())) d.2.1 d.2.2.1 d.2.2.2.1
def L204_4 (k a : Nat) (b c e : Int) : Option Y1_17 := iter (R := (Int × Bool × Unit) × Unit) c204_L4 (b204_4 k) a ((), b, c, e, ())
theorem L204_4_s (k a b c e) : L204_4 k (a + 1) b c e = l204_4 k (L204_4 k a) b c e := iter_succ _ _ _ _
def S204 (k : Nat) (a : Int) : Option Y1_17 :=
 (bif a == 0 then
  some ((0, false, ()), ())
 else
  L204_4 k k a 0 32)
def F204 : Fn := ⟨[.val ⟨false, (.int .u64), false⟩], [.val ⟨false, (.int .i64), true⟩, .val ⟨false, .bool, true⟩], fun k x => S204 k x.1⟩
theorem ok204 : FnOK Tryz.prog 204 F204 := okF [] [] (fun k => (.loop 4 c204_L4 (b204_4 k) (fun g => .nil) .nil)) trivial Tryz.func204 rfl
abbrev c159_L3 : Cut := ⟨[3, 4, 13, 14, 15], [.box 261 [cI, cI, cI], .cell (.int .u64), .cell (.sl 261 Y1_7), cI, cI], [], 42, []⟩
def l159_3 (k : Nat) (g3 : Int → Int → Int → Int → (List Y1_14) → Int → Int → Option Y1_16) (a b c e : Int) (f : List Y1_14) (h i : Int) : Option Y1_16 :=
 (bif decide (i < h) then
  ix f i <|
  (S160 k (rd f i (0, 0, 0)) (a, b, c)).bind fun q0 =>
  (bif decide (q0.1.1 < 0) then
   (S203 k 0 i).bind fun q1 =>
   g3 (rd f i (0, 0, 0)).1 (rd f i (0, 0, 0)).2.1 (rd f i (0, 0, 0)).2.2 q1.1.1 f h (IntKind.i64.wrap (i + 1))
  else
   (bif q0.1.1 == 0 then
    (S203 k e i).bind fun q2 =>
    g3 a b c q2.1.1 f h (IntKind.i64.wrap (i + 1))
   else
    g3 a b c e f h (IntKind.i64.wrap (i + 1))))
 else
  (S204 k e).bind fun q3 =>
  some ((q3.1.1, ()), ()))
def b159_3 (k : Nat) (g : ((Unit) × (Int × Int × Int × Unit) × Int × (List Y1_14) × Int × Int × Unit) → Option Y1_16) (d : (Unit) × (Int × Int × Int × Unit) × Int × (List Y1_14) × Int × Int × Unit) : Option Y1_16 := l159_3 k (fun a b c e f h i => g ((), (a, b, c, ()), e, f, h, i, ())) d.2.1.1 d.2.1.2.1 d.2.1.2.2.1 d.2.2.1 d.2.2.2.1 d.2.2.2.2.1 d.2.2.2.2.2.1
def L159_3 (k a : Nat) (b c e f : Int) (h : List Y1_14) (i l : Int) : Option Y1_16 := iter (R := (Int × Unit) × Unit) c159_L3 (b159_3 k) a ((), (b, c, e, ()), f, h, i, l, ())
theorem L159_3_s (k a b c e f h i l) : L159_3 k (a + 1) b c e f h i l = l159_3 k (L159_3 k a) b c e f h i l := iter_succ _ _ _ _
def S159 (k : Nat) (a : List Y1_14) : Option Y1_16 :=
 ix a 0 <|
 L159_3 k k (rd a 0 (0, 0, 0)).1 (rd a 0 (0, 0, 0)).2.1 (rd a 0 (0, 0, 0)).2.2 0 a (a.length : Int) 0
def F159 : Fn := ⟨[.val ⟨false, (.sl 261 Y1_7), false⟩], [.val ⟨false, (.int .i64), true⟩], fun k x => S159 k x.1⟩
theorem ok159 : FnOK Tryz.prog 159 F159 := okF [(160, F160), (203, F203), (204, F204)] [] (fun k => (.loop 3 c159_L3 (b159_3 k) (fun g => .nil) .nil)) ⟨ok160, ok203, ok204, trivial⟩ Tryz.func159 rfl
abbrev c104_L8 : Cut := ⟨[6, 7, 8, 11], [cI, .cell .bool, .own 261 Y1_7, cI], [], 63, []⟩
def l104_8 (k : Nat) (g8 : Int → Bool → (List Y1_14) → Int → Option Y1_17) (a : Int) (b : Bool) (c : List Y1_14) (e : Int) : Option Y1_17 :=
 (bif decide (e < (c.length : Int)) then
  sx c e (mn (IntKind.i64.wrap (e + 64)) (c.length : Int)) <|
  (S159 k (sub c e (mn (IntKind.i64.wrap (e + 64)) (c.length : Int)))).bind fun q2 =>
  (bif !b then
   g8 (IntKind.i64.wrap (e + q2.1.1)) true c (IntKind.i64.wrap (e + 64))
  else
   ix c (IntKind.i64.wrap (e + q2.1.1)) <|
   ix c a <|
   (S160 k (rd c (IntKind.i64.wrap (e + q2.1.1)) (0, 0, 0)) (rd c a (0, 0, 0))).bind fun q3 =>
   (bif decide (q3.1.1 < 0) then
    g8 (IntKind.i64.wrap (e + q2.1.1)) true c (IntKind.i64.wrap (e + 64))
   else
    g8 a b c (IntKind.i64.wrap (e + 64))))
 else
  some ((a, b, ()), ()))
def b104_8 (k : Nat) (g : ((Unit) × Int × Bool × (List Y1_14) × Int × Unit) → Option Y1_17) (d : (Unit) × Int × Bool × (List Y1_14) × Int × Unit) : Option Y1_17 := l104_8 k (fun a b c e => g ((), a, b, c, e, ())) d.2.1 d.2.2.1 d.2.2.2.1 d.2.2.2.2.1
def L104_8 (k a : Nat) (b : Int) (c : Bool) (e : List Y1_14) (f : Int) : Option Y1_17 := iter (R := (Int × Bool × Unit) × Unit) c104_L8 (b104_8 k) a ((), b, c, e, f, ())
theorem L104_8_s (k a b c e f) : L104_8 k (a + 1) b c e f = l104_8 k (L104_8 k a) b c e f := iter_succ _ _ _ _
abbrev c104_L3 : Cut := ⟨[1, 2, 6, 7, 8, 14, 15, 16], [cI, .cell Y1_21, cI, .cell .bool, .own 261 Y1_7, .cell (.sl 94 Y1_1), cI, cI], [], 63, []⟩
def l104_3 (k : Nat) (g3 : Int → Y1_32 → Int → Bool → (List Y1_14) → (List Y1_2) → Int → Int → Option Y1_17) (a : Int) (b : Y1_35) (c : Int) (e : Bool) (f : List Y1_14) (h : List Y1_2) (i l : Int) : Option Y1_17 :=
 (bif decide (l < i) then
  ix h l <|
  (S158 k (rd h l (0, 0, 0, 0, (0, prep (α := Int) 8 0, [], false), (0, prep (α := Int) 8 0, [], false), [], false)) a b).bind fun q0 =>
  ap f ([q0.1.1] : List Y1_14) 24 fun r1 =>
  g3 a b c e r1 h i (IntKind.i64.wrap (l + 1))
 else
  L104_8 k k c e f 0)
def b104_3 (k : Nat) (g : ((Unit) × Int × Y1_32 × Int × Bool × (List Y1_14) × (List Y1_2) × Int × Int × Unit) → Option Y1_17) (d : (Unit) × Int × Y1_32 × Int × Bool × (List Y1_14) × (List Y1_2) × Int × Int × Unit) : Option Y1_17 := l104_3 k (fun a b c e f h i l => g ((), a, b, c, e, f, h, i, l, ())) d.2.1 d.2.2.1 d.2.2.2.1 d.2.2.2.2.1 d.2.2.2.2.2.1 d.2.2.2.2.2.2.1 d.2.2.2.2.2.2.2.1 d.2.2.2.2.2.2.2.2.1
def L104_3 (k a : Nat) (b : Int) (c : Y1_35) (e : Int) (f : Bool) (h : List Y1_14) (i : List Y1_2) (l m : Int) : Option Y1_17 := iter (R := (Int × Bool × Unit) × Unit) c104_L3 (b104_3 k) a ((), b, c, e, f, h, i, l, m, ())
theorem L104_3_s (k a b c e f h i l m) : L104_3 k (a + 1) b c e f h i l m = l104_3 k (L104_3 k a) b c e f h i l m := iter_succ _ _ _ _
def S104 (k : Nat) (a : List Y1_2) (b : Int) (c : Y1_35) : Option Y1_17 :=
 L104_3 k k b c 0 false ([] : List Y1_14) a (a.length : Int) 0
def F104 : Fn := ⟨[.val ⟨false, (.sl 94 Y1_1), false⟩, .val ⟨false, (.int .i64), false⟩, .val ⟨false, Y1_21, false⟩], [.val ⟨false, (.int .i64), true⟩, .val ⟨false, .bool, true⟩], fun k x => S104 k x.1 x.2.1 x.2.2.1⟩
theorem ok104 : FnOK Tryz.prog 104 F104 := okF [(158, F158), (159, F159), (160, F160)] [(8, 2)] (fun k => (.loop 8 c104_L8 (b104_8 k) (fun g => .nil) (.loop 3 c104_L3 (b104_3 k) (fun g => .nil) .nil))) ⟨ok158, ok159, ok160, trivial⟩ Tryz.func104 rfl
def S210 (k : Nat) (a : Y1_44) : Option Y1_38 :=
 (S138 k a.2.2.1).bind fun q0 =>
 some (((a.1, a.2.1, q0.1.1, a.2.2.2), ()), ())
def F210 : Fn := ⟨[.val ⟨true, Y1_15, false⟩], [.val ⟨true, Y1_15, true⟩], fun k x => S210 k x.1⟩
theorem ok210 : FnOK Tryz.prog 210 F210 := okF [(138, F138)] [] (fun k => .nil) ⟨ok138, trivial⟩ Tryz.func210 rfl
def S207 (k : Nat) (a : Y1_20) : Option ((Y1_2 × Unit) × Unit) :=
 (S210 k a.2.2.2.2.1).bind fun q0 =>
 (S210 k a.2.2.2.2.2.1).bind fun q1 =>
 (S140 k a.2.2.2.2.2.2.1).bind fun q2 =>
 some (((a.1, a.2.1, a.2.2.1, a.2.2.2.1, q0.1.1, q1.1.1, q2.1.1, a.2.2.2.2.2.2.2), ()), ())
def F207 : Fn := ⟨[.val ⟨true, Y1_1, false⟩], [.val ⟨true, Y1_1, true⟩], fun k x => S207 k x.1⟩
theorem ok207 : FnOK Tryz.prog 207 F207 := okF [(140, F140), (210, F210)] [] (fun k => .nil) ⟨ok140, ok210, trivial⟩ Tryz.func207 rfl
def S214 (k : Nat) (a : Y1_36) (b : Y1_20) : Option ((Y1_2 × Unit) × Unit) :=
 (S207 k b).bind fun q0 =>
 (bif b.2.2.2.1 == 0 then
  (bif decide ((a.2.2.2.2.1.length : Int) > 0) then
   (S99 k b.2.2.1).bind fun q1 =>
   (S99 k b.2.2.1).bind fun q2 =>
   some (((q0.1.1.1, q0.1.1.2.1, q0.1.1.2.2.1, 1, q1.1.1, q2.1.1, [], q0.1.1.2.2.2.2.2.2.2), ()), ())
  else
   (S210 k b.2.2.2.2.2.1).bind fun q3 =>
   some (((q0.1.1.1, q0.1.1.2.1, q0.1.1.2.2.1, q0.1.1.2.2.2.1, q3.1.1, q0.1.1.2.2.2.2.2.1, [], q0.1.1.2.2.2.2.2.2.2), ()), ()))
 else
  (S210 k b.2.2.2.2.2.1).bind fun q4 =>
  some (((q0.1.1.1, q0.1.1.2.1, q0.1.1.2.2.1, q0.1.1.2.2.2.1, q4.1.1, q0.1.1.2.2.2.2.2.1, [], q0.1.1.2.2.2.2.2.2.2), ()), ()))
def F214 : Fn := ⟨[.val ⟨true, Y1_3, false⟩, .val ⟨true, Y1_1, false⟩], [.val ⟨true, Y1_1, true⟩], fun k x => S214 k x.1 x.2.1⟩
theorem ok214 : FnOK Tryz.prog 214 F214 := okF [(99, F99), (207, F207), (210, F210)] [] (fun k => .nil) ⟨ok99, ok207, ok210, trivial⟩ Tryz.func214 rfl
def S165 (k : Nat) (a : Y1_36) (b : Y1_20) (c : Y1_35) : Option ((Y1_2 × Y1_32 × Int × Unit) × Unit) :=
 (S214 k a b).bind fun q0 =>
 (S154 k c b.1).bind fun q1 =>
 (bif b.2.2.2.1 == 2 then
  (S81 k b (-1)).bind fun q2 =>
  some ((q2.1.1, q1.1.1, 13, ()), ())
 else
  (bif q0.1.1.2.2.2.1 != b.2.2.2.1 then
   some ((q0.1.1, q1.1.1, 7, ()), ())
  else
   some ((q0.1.1, q1.1.1, 6, ()), ())))
def F165 : Fn := ⟨[.val ⟨true, Y1_3, false⟩, .val ⟨true, Y1_1, false⟩, .val ⟨false, Y1_21, false⟩], [.val ⟨true, Y1_1, true⟩, .val ⟨false, Y1_21, true⟩, .val ⟨false, (.int .i64), true⟩], fun k x => S165 k x.1 x.2.1 x.2.2.1⟩
theorem ok165 : FnOK Tryz.prog 165 F165 := okF [(81, F81), (154, F154), (214, F214)] [] (fun k => .nil) ⟨ok81, ok154, ok214, trivial⟩ Tryz.func165 rfl
abbrev c39b_L1 : Cut := ⟨[0, 1, 11, 12, 13], [.pin false 0, .cell Y1_21, .own 3 (.int .i64), cI, cI], [.mbox 150 [cI, cI, .own 77 Y1_3, .own 96 Y1_29, .cell .bool, .cell .bool, .cell .bool, .own 94 Y1_1, .own 3 (.int .i64), .own 4 .bool, .own 124 Y1_6, .own 3 (.int .i64), .own 4 .bool, .own 82 Y1_30]], 55, []⟩
def l39b_1 (k : Nat) (g1 : Int → Int → (List Y1_4) → (List (PN Int 5)) → Bool → Bool → Bool → (List Y1_2) → (List Int) → (List Bool) → (List Y1_5) → (List Int) → (List Bool) → (List (PN Int 6)) → Y1_32 → (List Int) → Int → Int → Option Y1_23) (a b : Int) (c : List Y1_4) (e : List (PN Int 5)) (f h i : Bool) (l : List Y1_2) (m : List Int) (n : List Bool) (o : List Y1_5) (p : List Int) (s : List Bool) (t : List (PN Int 6)) (u : Y1_35) (v : List Int) (w y : Int) : Option Y1_23 :=
 (bif decide (y < w) then
  ix v y <|
  ix o (rd v y 0) <|
  (bif decide (y < (u.length : Int)) then
   ix u y <|
   (bif !(beqD (.pair (.int .i64) (.int .i64)) (rd o (rd v y 0) (0, (0, 0), (0, 0), ([], []), (0, []), 0)).2.2.1 (rd u y (0, 0))) then
    ix u y <|
    (S82 k ((m, n), o) (rd v y 0) ((rd o (rd v y 0) (0, (0, 0), (0, 0), ([], []), (0, []), 0)).1, (rd o (rd v y 0) (0, (0, 0), (0, 0), ([], []), (0, []), 0)).2.1, rd u y (0, 0), (rd o (rd v y 0) (0, (0, 0), (0, 0), ([], []), (0, []), 0)).2.2.2)).bind fun q1 =>
    g1 a b c e f h i l q1.1.1.1.1 q1.1.1.1.2 q1.1.1.2 p s t u v w (IntKind.i64.wrap (y + 1))
   else
    g1 a b c e f h i l m n o p s t u v w (IntKind.i64.wrap (y + 1)))
  else
   g1 a b c e f h i l m n o p s t u v w (IntKind.i64.wrap (y + 1)))
 else
  some ((), (a, b, c, e, f, h, i, l, m, n, o, p, s, t, ()), ()))
def b39b_1 (k : Nat) (g : ((Y1_0 × Unit) × Unit × Y1_32 × (List Int) × Int × Int × Unit) → Option Y1_23) (d : (Y1_0 × Unit) × Unit × Y1_32 × (List Int) × Int × Int × Unit) : Option Y1_23 := l39b_1 k (fun a b c e f h i l m n o p s t u v w y => g (((a, b, c, e, f, h, i, l, m, n, o, p, s, t, ()), ()), (), u, v, w, y, ())) d.1.1.1 d.1.1.2.1 d.1.1.2.2.1 d.1.1.2.2.2.1 d.1.1.2.2.2.2.1 d.1.1.2.2.2.2.2.1 d.1.1.2.2.2.2.2.2.1 d.1.1.2.2.2.2.2.2.2.1 d.1.1.2.2.2.2.2.2.2.2.1 d.1.1.2.2.2.2.2.2.2.2.2.1 d.1.1.2.2.2.2.2.2.2.2.2.2.1 d.1.1.2.2.2.2.2.2.2.2.2.2.2.1 d.1.1.2.2.2.2.2.2.2.2.2.2.2.2.1 d.1.1.2.2.2.2.2.2.2.2.2.2.2.2.2.1 d.2.2.1 d.2.2.2.1 d.2.2.2.2.1 d.2.2.2.2.2.1
def L39b_1 (k a : Nat) (b c : Int) (e : List Y1_4) (f : List (PN Int 5)) (h i l : Bool) (m : List Y1_2) (n : List Int) (o : List Bool) (p : List Y1_5) (s : List Int) (t : List Bool) (u : List (PN Int 6)) (v : Y1_35) (w : List Int) (y z : Int) : Option Y1_23 := iter (R := (Unit) × Y1_0 × Unit) c39b_L1 (b39b_1 k) a (((b, c, e, f, h, i, l, m, n, o, p, s, t, u, ()), ()), (), v, w, y, z, ())
theorem L39b_1_s (k a b c e f h i l m n o p s t u v w y z) : L39b_1 k (a + 1) b c e f h i l m n o p s t u v w y z = l39b_1 k (L39b_1 k a) b c e f h i l m n o p s t u v w y z := iter_succ _ _ _ _
def S39b (k : Nat) (a b : Int) (c : List Y1_4) (e : List (PN Int 5)) (f h i : Bool) (l : List Y1_2) (m : List Int) (n : List Bool) (o : List Y1_5) (p : List Int) (s : List Bool) (t : List (PN Int 6)) (u : Y1_35) : Option Y1_23 :=
 (S73 k ((m, n), o)).bind fun q0 =>
 L39b_1 k k a b c e f h i l m n o p s t u q0.1.1 (q0.1.1.length : Int) 0
def F39b : Fn := ⟨[.mbox 150 [cI, cI, .own 77 Y1_3, .own 96 Y1_29, .cell .bool, .cell .bool, .cell .bool, .own 94 Y1_1, .own 3 (.int .i64), .own 4 .bool, .own 124 Y1_6, .own 3 (.int .i64), .own 4 .bool, .own 82 Y1_30], .val ⟨false, Y1_21, false⟩], [], fun k x => S39b k x.1.1 x.1.2.1 x.1.2.2.1 x.1.2.2.2.1 x.1.2.2.2.2.1 x.1.2.2.2.2.2.1 x.1.2.2.2.2.2.2.1 x.1.2.2.2.2.2.2.2.1 x.1.2.2.2.2.2.2.2.2.1 x.1.2.2.2.2.2.2.2.2.2.1 x.1.2.2.2.2.2.2.2.2.2.2.1 x.1.2.2.2.2.2.2.2.2.2.2.2.1 x.1.2.2.2.2.2.2.2.2.2.2.2.2.1 x.1.2.2.2.2.2.2.2.2.2.2.2.2.2.1 x.2.1⟩
theorem ok39b : FnOK Tryz.prog 39 F39b := okF [(73, F73), (82, F82)] [] (fun k => (.loop 1 c39b_L1 (b39b_1 k) (fun g => .nil) .nil)) ⟨ok73, ok82, trivial⟩ Tryz.func39 rfl
def S106 (k : Nat) (a b : Int) (c : List Y1_4) (e : List (PN Int 5)) (f h i : Bool) (l : List Y1_2) (m : List Int) (n : List Bool) (o : List Y1_5) (p : List Int) (s : List Bool) (t : List (PN Int 6)) (u v w y z A B C D G H I J : Int) (K : List Y1_14) (M : Bool) (N O P Q T U V W X : Int) (Z : List Y1_14) (a1 : Bool) (b1 : List Int) (c1 : Bool) : Option Y1_39 :=
 ix c u <|
 (S30 k (a, b, c, e, f, h, i, l, ((m, n), o), p, s)).bind fun q0 =>
 (S165 k (rd c u (0, 0, 0, [], [], [])) (u, v, w, y, (z, (A, B, C, D, G, H, I, J), K, M), (N, (O, P, Q, T, U, V, W, X), Z, a1), b1, c1) q0.1.1).bind fun q1 =>
 (S39b k a b c e f h i l m n o p s t q1.1.2.1).bind fun q2 =>
 (S100a k q2.2.1.1 q2.2.1.2.1 q2.2.1.2.2.1 q2.2.1.2.2.2.1 q2.2.1.2.2.2.2.1 q2.2.1.2.2.2.2.2.1 q2.2.1.2.2.2.2.2.2.1 q2.2.1.2.2.2.2.2.2.2.1 q2.2.1.2.2.2.2.2.2.2.2.1 q2.2.1.2.2.2.2.2.2.2.2.2.1 q2.2.1.2.2.2.2.2.2.2.2.2.2.1 q2.2.1.2.2.2.2.2.2.2.2.2.2.2.1 q2.2.1.2.2.2.2.2.2.2.2.2.2.2.2.1 q2.2.1.2.2.2.2.2.2.2.2.2.2.2.2.2.1 (0, q1.1.2.2.1, q1.1.1.1, 0, 0, 0)).bind fun q3 =>
 some ((q1.1.2.2.1 == 13, ()), q3.2.1, (q1.1.1.1, q1.1.1.2.1, q1.1.1.2.2.1, q1.1.1.2.2.2.1, q1.1.1.2.2.2.2.1.1, q1.1.1.2.2.2.2.1.2.1.1, q1.1.1.2.2.2.2.1.2.1.2.1, q1.1.1.2.2.2.2.1.2.1.2.2.1, q1.1.1.2.2.2.2.1.2.1.2.2.2.1, q1.1.1.2.2.2.2.1.2.1.2.2.2.2.1, q1.1.1.2.2.2.2.1.2.1.2.2.2.2.2.1, q1.1.1.2.2.2.2.1.2.1.2.2.2.2.2.2.1, q1.1.1.2.2.2.2.1.2.1.2.2.2.2.2.2.2, q1.1.1.2.2.2.2.1.2.2.1, q1.1.1.2.2.2.2.1.2.2.2, q1.1.1.2.2.2.2.2.1.1, q1.1.1.2.2.2.2.2.1.2.1.1, q1.1.1.2.2.2.2.2.1.2.1.2.1, q1.1.1.2.2.2.2.2.1.2.1.2.2.1, q1.1.1.2.2.2.2.2.1.2.1.2.2.2.1, q1.1.1.2.2.2.2.2.1.2.1.2.2.2.2.1, q1.1.1.2.2.2.2.2.1.2.1.2.2.2.2.2.1, q1.1.1.2.2.2.2.2.1.2.1.2.2.2.2.2.2.1, q1.1.1.2.2.2.2.2.1.2.1.2.2.2.2.2.2.2, q1.1.1.2.2.2.2.2.1.2.2.1, q1.1.1.2.2.2.2.2.1.2.2.2, q1.1.1.2.2.2.2.2.2.1, q1.1.1.2.2.2.2.2.2.2, ()), ())
def F106 : Fn := ⟨[.mbox 150 [cI, cI, .own 77 Y1_3, .own 96 Y1_29, .cell .bool, .cell .bool, .cell .bool, .own 94 Y1_1, .own 3 (.int .i64), .own 4 .bool, .own 124 Y1_6, .own 3 (.int .i64), .own 4 .bool, .own 82 Y1_30], .mbox 94 [cI, cI, cI, cI, cI, cI, cI, cI, cI, cI, cI, cI, cI, .cell (.sl 233 Y1_7), .cell .bool, cI, cI, cI, cI, cI, cI, cI, cI, cI, .cell (.sl 233 Y1_7), .cell .bool, .cell Y1_43, .cell .bool]], [.val ⟨false, .bool, true⟩], fun k x => S106 k x.1.1 x.1.2.1 x.1.2.2.1 x.1.2.2.2.1 x.1.2.2.2.2.1 x.1.2.2.2.2.2.1 x.1.2.2.2.2.2.2.1 x.1.2.2.2.2.2.2.2.1 x.1.2.2.2.2.2.2.2.2.1 x.1.2.2.2.2.2.2.2.2.2.1 x.1.2.2.2.2.2.2.2.2.2.2.1 x.1.2.2.2.2.2.2.2.2.2.2.2.1 x.1.2.2.2.2.2.2.2.2.2.2.2.2.1 x.1.2.2.2.2.2.2.2.2.2.2.2.2.2.1 x.2.1.1 x.2.1.2.1 x.2.1.2.2.1 x.2.1.2.2.2.1 x.2.1.2.2.2.2.1 x.2.1.2.2.2.2.2.1 x.2.1.2.2.2.2.2.2.1 x.2.1.2.2.2.2.2.2.2.1 x.2.1.2.2.2.2.2.2.2.2.1 x.2.1.2.2.2.2.2.2.2.2.2.1 x.2.1.2.2.2.2.2.2.2.2.2.2.1 x.2.1.2.2.2.2.2.2.2.2.2.2.2.1 x.2.1.2.2.2.2.2.2.2.2.2.2.2.2.1 x.2.1.2.2.2.2.2.2.2.2.2.2.2.2.2.1 x.2.1.2.2.2.2.2.2.2.2.2.2.2.2.2.2.1 x.2.1.2.2.2.2.2.2.2.2.2.2.2.2.2.2.2.1 x.2.1.2.2.2.2.2.2.2.2.2.2.2.2.2.2.2.2.1 x.2.1.2.2.2.2.2.2.2.2.2.2.2.2.2.2.2.2.2.1 x.2.1.2.2.2.2.2.2.2.2.2.2.2.2.2.2.2.2.2.2.1 x.2.1.2.2.2.2.2.2.2.2.2.2.2.2.2.2.2.2.2.2.2.1 x.2.1.2.2.2.2.2.2.2.2.2.2.2.2.2.2.2.2.2.2.2.2.1 x.2.1.2.2.2.2.2.2.2.2.2.2.2.2.2.2.2.2.2.2.2.2.2.1 x.2.1.2.2.2.2.2.2.2.2.2.2.2.2.2.2.2.2.2.2.2.2.2.2.1 x.2.1.2.2.2.2.2.2.2.2.2.2.2.2.2.2.2.2.2.2.2.2.2.2.2.1 x.2.1.2.2.2.2.2.2.2.2.2.2.2.2.2.2.2.2.2.2.2.2.2.2.2.2.1 x.2.1.2.2.2.2.2.2.2.2.2.2.2.2.2.2.2.2.2.2.2.2.2.2.2.2.2.1 x.2.1.2.2.2.2.2.2.2.2.2.2.2.2.2.2.2.2.2.2.2.2.2.2.2.2.2.2.1 x.2.1.2.2.2.2.2.2.2.2.2.2.2.2.2.2.2.2.2.2.2.2.2.2.2.2.2.2.2.1⟩
theorem ok106 : FnOK Tryz.prog 106 F106 := okF [(30, F30), (39, F39b), (100, F100a), (165, F165)] [] (fun k => .nil) ⟨ok30, ok39b, ok100a, ok165, trivial⟩ Tryz.func106 rfl
def S209 (k : Nat) (a : Y1_36) (b : Y1_20) : Option (((List Y1_8) × Unit) × Unit) :=
 (S80 k (mget (.int .i64) Y1_41 b.2.2.2.1 (updD (.int .i64) Y1_41 2 a.2.2.2.2.2 (updD (.int .i64) Y1_41 1 a.2.2.2.2.1 (updD (.int .i64) Y1_41 0 a.2.2.2.1 ([] : List (Int × List Y1_8))))) [])).bind fun q0 =>
 some ((q0.1.1, ()), ())
def F209 : Fn := ⟨[.val ⟨true, Y1_3, false⟩, .val ⟨true, Y1_1, false⟩], [.val ⟨false, Y1_41, true⟩], fun k x => S209 k x.1 x.2.1⟩
theorem ok209 : FnOK Tryz.prog 209 F209 := okF [(80, F80)] [] (fun k => .nil) ⟨ok80, trivial⟩ Tryz.func209 rfl
def S229 (k : Nat) (a : Y1_44) : Option Y1_38 :=
 (S138 k a.2.2.1).bind fun q0 =>
 some (((a.1, a.2.1, q0.1.1, a.2.2.2), ()), ())
def F229 : Fn := ⟨[.val ⟨true, Y1_15, false⟩], [.val ⟨true, Y1_15, true⟩], fun k x => S229 k x.1⟩
theorem ok229 : FnOK Tryz.prog 229 F229 := okF [(138, F138)] [] (fun k => .nil) ⟨ok138, trivial⟩ Tryz.func229 rfl
def S234 (k : Nat) (a : Int) : Option Y1_24 :=
 (bif decide (a ≥ 0) then
  some ((decide (a < 8), ()), ())
 else
  some ((false, ()), ()))
def F234 : Fn := ⟨[.val ⟨false, (.int .i64), false⟩], [.val ⟨false, .bool, true⟩], fun k x => S234 k x.1⟩
theorem ok234 : FnOK Tryz.prog 234 F234 := okF [] [] (fun k => .nil) trivial Tryz.func234 rfl
def S235 (k : Nat) (a b c : Int) : Option Y1_24 :=
 (bif decide (a ≥ b) then
  some ((decide (a ≤ c), ()), ())
 else
  some ((false, ()), ()))
def F235 : Fn := ⟨[.val ⟨false, (.int .i64), false⟩, .val ⟨false, (.int .i64), false⟩, .val ⟨false, (.int .i64), false⟩], [.val ⟨false, .bool, true⟩], fun k x => S235 k x.1 x.2.1 x.2.2.1⟩
theorem ok235 : FnOK Tryz.prog 235 F235 := okF [] [] (fun k => .nil) trivial Tryz.func235 rfl
def S228 (k : Nat) (a : Int × Int × Int × Int) : Option Y1_24 :=
 (bif a.1 == 0 then
  (bif a.2.1 == 0 then
   (bif a.2.2.1 == 0 then
    some ((a.2.2.2 == 0, ()), ())
   else
    some ((false, ()), ()))
  else
   some ((false, ()), ()))
 else
  (bif a.1 == 11 then
   (bif a.2.1 == 0 then
    (bif a.2.2.1 == 0 then
     some ((a.2.2.2 == 0, ()), ())
    else
     some ((false, ()), ()))
   else
    some ((false, ()), ()))
  else
   (bif a.1 == 1 then
    (S234 k a.2.1).bind fun q0 =>
    (bif q0.1.1 then
     (bif a.2.2.1 == 0 then
      (S235 k a.2.2.2 (-2147483648) 2147483647).bind fun q1 =>
      some ((q1.1.1, ()), ())
     else
      some ((false, ()), ()))
    else
     some ((false, ()), ()))
   else
    (bif a.1 == 2 then
     (S234 k a.2.1).bind fun q2 =>
     (bif q2.1.1 then
      (S234 k a.2.2.1).bind fun q3 =>
      (bif q3.1.1 then
       some ((a.2.2.2 == 0, ()), ())
      else
       some ((false, ()), ()))
     else
      some ((false, ()), ()))
    else
     (bif a.1 == 3 then
      (S234 k a.2.1).bind fun q4 =>
      (bif q4.1.1 then
       (S234 k a.2.2.1).bind fun q5 =>
       (bif q5.1.1 then
        some ((a.2.2.2 == 0, ()), ())
       else
        some ((false, ()), ()))
      else
       some ((false, ()), ()))
     else
      (bif a.1 == 4 then
       (S234 k a.2.1).bind fun q6 =>
       (bif q6.1.1 then
        (S234 k a.2.2.1).bind fun q7 =>
        (bif q7.1.1 then
         some ((a.2.2.2 == 0, ()), ())
        else
         some ((false, ()), ()))
       else
        some ((false, ()), ()))
      else
       (bif a.1 == 5 then
        (S234 k a.2.1).bind fun q8 =>
        (bif q8.1.1 then
         (bif a.2.2.1 == 0 then
          (S235 k a.2.2.2 (-63) 63).bind fun q9 =>
          some ((q9.1.1, ()), ())
         else
          some ((false, ()), ()))
        else
         some ((false, ()), ()))
       else
        (bif a.1 == 6 then
         (S234 k a.2.1).bind fun q10 =>
         (bif q10.1.1 then
          (bif a.2.2.1 == 0 then
           (S235 k a.2.2.2 1 64).bind fun q11 =>
           some ((q11.1.1, ()), ())
          else
           some ((false, ()), ()))
         else
          some ((false, ()), ()))
        else
         (bif a.1 == 7 then
          (S234 k a.2.1).bind fun q12 =>
          (bif q12.1.1 then
           (bif a.2.2.1 == 0 then
            (S235 k a.2.2.2 1 24).bind fun q13 =>
            some ((q13.1.1, ()), ())
           else
            some ((false, ()), ()))
          else
           some ((false, ()), ()))
         else
          (bif a.1 == 8 then
           (bif a.2.1 == 0 then
            (S235 k a.2.2.1 1 24).bind fun q14 =>
            (bif q14.1.1 then
             (S235 k a.2.2.2 1 20).bind fun q15 =>
             some ((q15.1.1, ()), ())
            else
             some ((false, ()), ()))
           else
            some ((false, ()), ()))
          else
           (bif a.1 == 9 then
            (S235 k a.2.1 0 3).bind fun q16 =>
            (bif q16.1.1 then
             (bif a.2.2.1 == 0 then
              some ((a.2.2.2 == 0, ()), ())
             else
              some ((false, ()), ()))
            else
             some ((false, ()), ()))
           else
            (bif a.1 == 10 then
             (S235 k a.2.1 0 3).bind fun q17 =>
             (bif q17.1.1 then
              (bif a.2.2.1 == 0 then
               some ((a.2.2.2 == 0, ()), ())
              else
               some ((false, ()), ()))
             else
              some ((false, ()), ()))
            else
             some ((false, ()), ())))))))))))))
def F228 : Fn := ⟨[.val ⟨true, Y1_18, false⟩], [.val ⟨false, .bool, true⟩], fun k x => S228 k x.1⟩
theorem ok228 : FnOK Tryz.prog 228 F228 := okF [(234, F234), (235, F235)] [] (fun k => .nil) ⟨ok234, ok235, trivial⟩ Tryz.func228 rfl
def S230 (k : Nat) (a b : Int) : Option Y1_16 :=
 (bif decide (b ≤ (-64)) then
  some ((a, ()), ())
 else
  (bif decide (b ≥ 64) then
   some ((a, ()), ())
  else
   (bif decide (b < 0) then
    nneg (IntKind.i64.wrap (0 - b)) <|
    some ((ishr .i64 a (IntKind.i64.wrap (0 - b)), ()), ())
   else
    nneg b <|
    some ((IntKind.i64.wrap (ishl .u64 (IntKind.u64.wrap a) b), ()), ()))))
def F230 : Fn := ⟨[.val ⟨false, (.int .i64), false⟩, .val ⟨false, (.int .i64), false⟩], [.val ⟨false, (.int .i64), true⟩], fun k x => S230 k x.1 x.2.1⟩
theorem ok230 : FnOK Tryz.prog 230 F230 := okF [] [] (fun k => .nil) trivial Tryz.func230 rfl
def S231 (k : Nat) (a b : Int) : Option Y1_16 :=
 (bif decide (b < 1) then
  some ((a, ()), ())
 else
  (bif decide (b > 64) then
   some ((a, ()), ())
  else
   nneg (IntKind.i64.wrap (64 - b)) <|
   nneg (IntKind.i64.wrap (64 - b)) <|
   some ((ishr .i64 (ishl .i64 a (IntKind.i64.wrap (64 - b))) (IntKind.i64.wrap (64 - b)), ()), ())))
def F231 : Fn := ⟨[.val ⟨false, (.int .i64), false⟩, .val ⟨false, (.int .i64), false⟩], [.val ⟨false, (.int .i64), true⟩], fun k x => S231 k x.1 x.2.1⟩
theorem ok231 : FnOK Tryz.prog 231 F231 := okF [] [] (fun k => .nil) trivial Tryz.func231 rfl
abbrev c232_L2 : Cut := ⟨[1, 2, 3], [.box 92 [cI, cI, cI, cI, cI, cI, cI, cI, cI, .own 233 Y1_7, .cell .bool], .box 92 [cI, cI, cI, cI, cI, cI, cI, cI, cI, .nil, .cell .bool], cI], [], 55, []⟩
def l232_2 (k : Nat) (g2 : Int → Int → Int → Int → Int → Int → Int → Int → Int → (List Y1_14) → Bool → Int → Int → Int → Int → Int → Int → Int → Int → Int → Bool → Int → Option Y1_38) (a b c e f h i l m : Int) (n : List Y1_14) (o : Bool) (p s t u v w y z A : Int) (B : Bool) (C : Int) : Option Y1_38 :=
 (bif decide (C > 0) then
  ix n (IntKind.i64.wrap (C - 1)) <|
  (bif decide ((rd n (IntKind.i64.wrap (C - 1)) (0, 0, 0)).2.1 < a) then
   ix n (IntKind.i64.wrap (C - 1)) <|
   (bif decide ((rd n (IntKind.i64.wrap (C - 1)) (0, 0, 0)).2.2 > 0) then
    some ((((rd n (IntKind.i64.wrap (C - 1)) (0, 0, 0)).1, (b, c, e, f, h, i, l, m), upd n (IntKind.i64.wrap (C - 1)) ((rd n (IntKind.i64.wrap (C - 1)) (0, 0, 0)).1, (rd n (IntKind.i64.wrap (C - 1)) (0, 0, 0)).2.1, IntKind.i64.wrap ((rd n (IntKind.i64.wrap (C - 1)) (0, 0, 0)).2.2 - 1)), o), ()), ())
   else
    sx n 0 (IntKind.i64.wrap (C - 1)) <|
    g2 a b c e f h i l m (n.take (IntKind.i64.wrap (C - 1)).toNat) o p s t u v w y z A B ((n.take (IntKind.i64.wrap (C - 1)).toNat).length : Int))
  else
   some (((a, (b, c, e, f, h, i, l, m), n, o), ()), ()))
 else
  some (((a, (b, c, e, f, h, i, l, m), n, o), ()), ()))
def b232_2 (k : Nat) (g : ((Unit) × Y1_22 × Y1_26 × Int × Unit) → Option Y1_38) (d : (Unit) × Y1_22 × Y1_26 × Int × Unit) : Option Y1_38 := l232_2 k (fun a b c e f h i l m n o p s t u v w y z A B C => g ((), (a, b, c, e, f, h, i, l, m, n, o, ()), (p, s, t, u, v, w, y, z, A, (), B, ()), C, ())) d.2.1.1 d.2.1.2.1 d.2.1.2.2.1 d.2.1.2.2.2.1 d.2.1.2.2.2.2.1 d.2.1.2.2.2.2.2.1 d.2.1.2.2.2.2.2.2.1 d.2.1.2.2.2.2.2.2.2.1 d.2.1.2.2.2.2.2.2.2.2.1 d.2.1.2.2.2.2.2.2.2.2.2.1 d.2.1.2.2.2.2.2.2.2.2.2.2.1 d.2.2.1.1 d.2.2.1.2.1 d.2.2.1.2.2.1 d.2.2.1.2.2.2.1 d.2.2.1.2.2.2.2.1 d.2.2.1.2.2.2.2.2.1 d.2.2.1.2.2.2.2.2.2.1 d.2.2.1.2.2.2.2.2.2.2.1 d.2.2.1.2.2.2.2.2.2.2.2.1 d.2.2.1.2.2.2.2.2.2.2.2.2.2.1 d.2.2.2.1
def L232_2 (k a : Nat) (b c e f h i l m n : Int) (o : List Y1_14) (p : Bool) (s t u v w y z A B : Int) (C : Bool) (D : Int) : Option Y1_38 := iter (R := (Y1_10 × Unit) × Unit) c232_L2 (b232_2 k) a ((), (b, c, e, f, h, i, l, m, n, o, p, ()), (s, t, u, v, w, y, z, A, B, (), C, ()), D, ())
theorem L232_2_s (k a b c e f h i l m n o p s t u v w y z A B C D) : L232_2 k (a + 1) b c e f h i l m n o p s t u v w y z A B C D = l232_2 k (L232_2 k a) b c e f h i l m n o p s t u v w y z A B C D := iter_succ _ _ _ _
def S232 (k : Nat) (a b c e f h i l m : Int) (n : List Y1_14) (o : Bool) : Option Y1_38 :=
 L232_2 k k a b c e f h i l m n o 0 0 0 0 0 0 0 0 0 false (n.length : Int)
def F232 : Fn := ⟨[.gv (.agg [cI, cI, cI, cI, cI, cI, cI, cI, cI, .own 233 Y1_7, .cell .bool])], [.val ⟨true, Y1_15, true⟩], fun k x => S232 k x.1.1 x.1.2.1 x.1.2.2.1 x.1.2.2.2.1 x.1.2.2.2.2.1 x.1.2.2.2.2.2.1 x.1.2.2.2.2.2.2.1 x.1.2.2.2.2.2.2.2.1 x.1.2.2.2.2.2.2.2.2.1 x.1.2.2.2.2.2.2.2.2.2.1 x.1.2.2.2.2.2.2.2.2.2.2.1⟩
theorem ok232 : FnOK Tryz.prog 232 F232 := okF [] [(52, 1)] (fun k => (.loop 2 c232_L2 (b232_2 k) (fun g => .nil) .nil)) trivial Tryz.func232 rfl
def S208 (k : Nat) (a : List Y1_8) (b : Y1_44) : Option Y1_27 :=
 (bif b.2.2.2 then
  (S229 k b).bind fun q0 =>
  some ((q0.1.1, (0, 0, 0, 0), false, ()), ())
 else
  (bif decide (b.1 < 0) then
   (S229 k b).bind fun q1 =>
   some ((q1.1.1, (0, 0, 0, 0), false, ()), ())
  else
   (bif decide (b.1 ≥ (a.length : Int)) then
    (S229 k b).bind fun q2 =>
    some ((q2.1.1, (0, 0, 0, 0), false, ()), ())
   else
    ix a b.1 <|
    (S228 k (rd a b.1 (0, 0, 0, 0))).bind fun q3 =>
    (bif !q3.1.1 then
     (S229 k b).bind fun q4 =>
     some ((q4.1.1, (0, 0, 0, 0), false, ()), ())
    else
     (S229 k b).bind fun q5 =>
     ix a q5.1.1.1 <|
     ax 8 (rd a q5.1.1.1 (0, 0, 0, 0)).2.1 <|
     ax 8 (Int.tmod (rd a q5.1.1.1 (0, 0, 0, 0)).2.2.1 8) <|
     (bif (rd a q5.1.1.1 (0, 0, 0, 0)).1 == 0 then
      (S232 k q5.1.1.1 q5.1.1.2.1.1 q5.1.1.2.1.2.1 q5.1.1.2.1.2.2.1 q5.1.1.2.1.2.2.2.1 q5.1.1.2.1.2.2.2.2.1 q5.1.1.2.1.2.2.2.2.2.1 q5.1.1.2.1.2.2.2.2.2.2.1 q5.1.1.2.1.2.2.2.2.2.2.2 q5.1.1.2.2.1 true).bind fun q6 =>
      some ((q6.1.1, rd a q5.1.1.1 (0, 0, 0, 0), true, ()), ())
     else
      (bif (rd a q5.1.1.1 (0, 0, 0, 0)).1 == 1 then
       (S232 k (IntKind.i64.wrap (q5.1.1.1 + 1)) (aset (α := Int) 8 q5.1.1.2.1 (rd a q5.1.1.1 (0, 0, 0, 0)).2.1 (rd a q5.1.1.1 (0, 0, 0, 0)).2.2.2).1 (aset (α := Int) 8 q5.1.1.2.1 (rd a q5.1.1.1 (0, 0, 0, 0)).2.1 (rd a q5.1.1.1 (0, 0, 0, 0)).2.2.2).2.1 (aset (α := Int) 8 q5.1.1.2.1 (rd a q5.1.1.1 (0, 0, 0, 0)).2.1 (rd a q5.1.1.1 (0, 0, 0, 0)).2.2.2).2.2.1 (aset (α := Int) 8 q5.1.1.2.1 (rd a q5.1.1.1 (0, 0, 0, 0)).2.1 (rd a q5.1.1.1 (0, 0, 0, 0)).2.2.2).2.2.2.1 (aset (α := Int) 8 q5.1.1.2.1 (rd a q5.1.1.1 (0, 0, 0, 0)).2.1 (rd a q5.1.1.1 (0, 0, 0, 0)).2.2.2).2.2.2.2.1 (aset (α := Int) 8 q5.1.1.2.1 (rd a q5.1.1.1 (0, 0, 0, 0)).2.1 (rd a q5.1.1.1 (0, 0, 0, 0)).2.2.2).2.2.2.2.2.1 (aset (α := Int) 8 q5.1.1.2.1 (rd a q5.1.1.1 (0, 0, 0, 0)).2.1 (rd a q5.1.1.1 (0, 0, 0, 0)).2.2.2).2.2.2.2.2.2.1 (aset (α := Int) 8 q5.1.1.2.1 (rd a q5.1.1.1 (0, 0, 0, 0)).2.1 (rd a q5.1.1.1 (0, 0, 0, 0)).2.2.2).2.2.2.2.2.2.2 q5.1.1.2.2.1 q5.1.1.2.2.2).bind fun q7 =>
       some ((q7.1.1, rd a q5.1.1.1 (0, 0, 0, 0), true, ()), ())
      else
       (bif (rd a q5.1.1.1 (0, 0, 0, 0)).1 == 2 then
        (S232 k (IntKind.i64.wrap (q5.1.1.1 + 1)) (aset (α := Int) 8 q5.1.1.2.1 (rd a q5.1.1.1 (0, 0, 0, 0)).2.1 (IntKind.i64.wrap (IntKind.u64.wrap ((IntKind.u64.wrap (aget (α := Int) 8 q5.1.1.2.1 (rd a q5.1.1.1 (0, 0, 0, 0)).2.1 0)) + (IntKind.u64.wrap (aget (α := Int) 8 q5.1.1.2.1 (Int.tmod (rd a q5.1.1.1 (0, 0, 0, 0)).2.2.1 8) 0)))))).1 (aset (α := Int) 8 q5.1.1.2.1 (rd a q5.1.1.1 (0, 0, 0, 0)).2.1 (IntKind.i64.wrap (IntKind.u64.wrap ((IntKind.u64.wrap (aget (α := Int) 8 q5.1.1.2.1 (rd a q5.1.1.1 (0, 0, 0, 0)).2.1 0)) + (IntKind.u64.wrap (aget (α := Int) 8 q5.1.1.2.1 (Int.tmod (rd a q5.1.1.1 (0, 0, 0, 0)).2.2.1 8) 0)))))).2.1 (aset (α := Int) 8 q5.1.1.2.1 (rd a q5.1.1.1 (0, 0, 0, 0)).2.1 (IntKind.i64.wrap (IntKind.u64.wrap ((IntKind.u64.wrap (aget (α := Int) 8 q5.1.1.2.1 (rd a q5.1.1.1 (0, 0, 0, 0)).2.1 0)) + (IntKind.u64.wrap (aget (α := Int) 8 q5.1.1.2.1 (Int.tmod (rd a q5.1.1.1 (0, 0, 0, 0)).2.2.1 8) 0)))))).2.2.1 (aset (α := Int) 8 q5.1.1.2.1 (rd a q5.1.1.1 (0, 0, 0, 0)).2.1 (IntKind.i64.wrap (IntKind.u64.wrap ((IntKind.u64.wrap (aget (α := Int) 8 q5.1.1.2.1 (rd a q5.1.1.1 (0, 0, 0, 0)).2.1 0)) + (IntKind.u64.wrap (aget (α := Int) 8 q5.1.1.2.1 (Int.tmod (rd a q5.1.1.1 (0, 0, 0, 0)).2.2.1 8) 0)))))).2.2.2.1 (aset (α := Int) 8 q5.1.1.2.1 (rd a q5.1.1.1 (0, 0, 0, 0)).2.1 (IntKind.i64.wrap (IntKind.u64.wrap ((IntKind.u64.wrap (aget (α := Int) 8 q5.1.1.2.1 (rd a q5.1.1.1 (0, 0, 0, 0)).2.1 0)) + (IntKind.u64.wrap (aget (α := Int) 8 q5.1.1.2.1 (Int.tmod (rd a q5.1.1.1 (0, 0, 0, 0)).2.2.1 8) 0)))))).2.2.2.2.1 (aset (α := Int) 8 q5.1.1.2.1 (rd a q5.1.1.1 (0, 0, 0, 0)).2.1 (IntKind.i64.wrap (IntKind.u64.wrap ((IntKind.u64.wrap (aget (α := Int) 8 q5.1.1.2.1 (rd a q5.1.1.1 (0, 0, 0, 0)).2.1 0)) + (IntKind.u64.wrap (aget (α := Int) 8 q5.1.1.2.1 (Int.tmod (rd a q5.1.1.1 (0, 0, 0, 0)).2.2.1 8) 0)))))).2.2.2.2.2.1 (aset (α := Int) 8 q5.1.1.2.1 (rd a q5.1.1.1 (0, 0, 0, 0)).2.1 (IntKind.i64.wrap (IntKind.u64.wrap ((IntKind.u64.wrap (aget (α := Int) 8 q5.1.1.2.1 (rd a q5.1.1.1 (0, 0, 0, 0)).2.1 0)) + (IntKind.u64.wrap (aget (α := Int) 8 q5.1.1.2.1 (Int.tmod (rd a q5.1.1.1 (0, 0, 0, 0)).2.2.1 8) 0)))))).2.2.2.2.2.2.1 (aset (α := Int) 8 q5.1.1.2.1 (rd a q5.1.1.1 (0, 0, 0, 0)).2.1 (IntKind.i64.wrap (IntKind.u64.wrap ((IntKind.u64.wrap (aget (α := Int) 8 q5.1.1.2.1 (rd a q5.1.1.1 (0, 0, 0, 0)).2.1 0)) + (IntKind.u64.wrap (aget (α := Int) 8 q5.1.1.2.1 (Int.tmod (rd a q5.1.1.1 (0, 0, 0, 0)).2.2.1 8) 0)))))).2.2.2.2.2.2.2 q5.1.1.2.2.1 q5.1.1.2.2.2).bind fun q8 =>
        some ((q8.1.1, rd a q5.1.1.1 (0, 0, 0, 0), true, ()), ())
       else
        (bif (rd a q5.1.1.1 (0, 0, 0, 0)).1 == 3 then
         (S232 k (IntKind.i64.wrap (q5.1.1.1 + 1)) (aset (α := Int) 8 q5.1.1.2.1 (rd a q5.1.1.1 (0, 0, 0, 0)).2.1 (IntKind.i64.wrap (IntKind.u64.wrap ((IntKind.u64.wrap (aget (α := Int) 8 q5.1.1.2.1 (rd a q5.1.1.1 (0, 0, 0, 0)).2.1 0)) - (IntKind.u64.wrap (aget (α := Int) 8 q5.1.1.2.1 (Int.tmod (rd a q5.1.1.1 (0, 0, 0, 0)).2.2.1 8) 0)))))).1 (aset (α := Int) 8 q5.1.1.2.1 (rd a q5.1.1.1 (0, 0, 0, 0)).2.1 (IntKind.i64.wrap (IntKind.u64.wrap ((IntKind.u64.wrap (aget (α := Int) 8 q5.1.1.2.1 (rd a q5.1.1.1 (0, 0, 0, 0)).2.1 0)) - (IntKind.u64.wrap (aget (α := Int) 8 q5.1.1.2.1 (Int.tmod (rd a q5.1.1.1 (0, 0, 0, 0)).2.2.1 8) 0)))))).2.1 (aset (α := Int) 8 q5.1.1.2.1 (rd a q5.1.1.1 (0, 0, 0, 0)).2.1 (IntKind.i64.wrap (IntKind.u64.wrap ((IntKind.u64.wrap (aget (α := Int) 8 q5.1.1.2.1 (rd a q5.1.1.1 (0, 0, 0, 0)).2.1 0)) - (IntKind.u64.wrap (aget (α := Int) 8 q5.1.1.2.1 (Int.tmod (rd a q5.1.1.1 (0, 0, 0, 0)).2.2.1 8) 0)))))).2.2.1 (aset (α := Int) 8 q5.1.1.2.1 (rd a q5.1.1.1 (0, 0, 0, 0)).2.1 (IntKind.i64.wrap (IntKind.u64.wrap ((IntKind.u64.wrap (aget (α := Int) 8 q5.1.1.2.1 (rd a q5.1.1.1 (0, 0, 0, 0)).2.1 0)) - (IntKind.u64.wrap (aget (α := Int) 8 q5.1.1.2.1 (Int.tmod (rd a q5.1.1.1 (0, 0, 0, 0)).2.2.1 8) 0)))))).2.2.2.1 (aset (α := Int) 8 q5.1.1.2.1 (rd a q5.1.1.1 (0, 0, 0, 0)).2.1 (IntKind.i64.wrap (IntKind.u64.wrap ((IntKind.u64.wrap (aget (α := Int) 8 q5.1.1.2.1 (rd a q5.1.1.1 (0, 0, 0, 0)).2.1 0)) - (IntKind.u64.wrap (aget (α := Int) 8 q5.1.1.2.1 (Int.tmod (rd a q5.1.1.1 (0, 0, 0, 0)).2.2.1 8) 0)))))).2.2.2.2.1 (aset (α := Int) 8 q5.1.1.2.1 (rd a q5.1.1.1 (0, 0, 0, 0)).2.1 (IntKind.i64.wrap (IntKind.u64.wrap ((IntKind.u64.wrap (aget (α := Int) 8 q5.1.1.2.1 (rd a q5.1.1.1 (0, 0, 0, 0)).2.1 0)) - (IntKind.u64.wrap (aget (α := Int) 8 q5.1.1.2.1 (Int.tmod (rd a q5.1.1.1 (0, 0, 0, 0)).2.2.1 8) 0)))))).2.2.2.2.2.1 (aset (α := Int) 8 q5.1.1.2.1 (rd a q5.1.1.1 (0, 0, 0, 0)).2.1 (IntKind.i64.wrap (IntKind.u64.wrap ((IntKind.u64.wrap (aget (α := Int) 8 q5.1.1.2.1 (rd a q5.1.1.1 (0, 0, 0, 0)).2.1 0)) - (IntKind.u64.wrap (aget (α := Int) 8 q5.1.1.2.1 (Int.tmod (rd a q5.1.1.1 (0, 0, 0, 0)).2.2.1 8) 0)))))).2.2.2.2.2.2.1 (aset (α := Int) 8 q5.1.1.2.1 (rd a q5.1.1.1 (0, 0, 0, 0)).2.1 (IntKind.i64.wrap (IntKind.u64.wrap ((IntKind.u64.wrap (aget (α := Int) 8 q5.1.1.2.1 (rd a q5.1.1.1 (0, 0, 0, 0)).2.1 0)) - (IntKind.u64.wrap (aget (α := Int) 8 q5.1.1.2.1 (Int.tmod (rd a q5.1.1.1 (0, 0, 0, 0)).2.2.1 8) 0)))))).2.2.2.2.2.2.2 q5.1.1.2.2.1 q5.1.1.2.2.2).bind fun q9 =>
         some ((q9.1.1, rd a q5.1.1.1 (0, 0, 0, 0), true, ()), ())
        else
         (bif (rd a q5.1.1.1 (0, 0, 0, 0)).1 == 4 then
          (S232 k (IntKind.i64.wrap (q5.1.1.1 + 1)) (aset (α := Int) 8 q5.1.1.2.1 (rd a q5.1.1.1 (0, 0, 0, 0)).2.1 (IntKind.i64.wrap (IntKind.u64.wrap ((IntKind.u64.wrap (aget (α := Int) 8 q5.1.1.2.1 (rd a q5.1.1.1 (0, 0, 0, 0)).2.1 0)) * (IntKind.u64.wrap (aget (α := Int) 8 q5.1.1.2.1 (Int.tmod (rd a q5.1.1.1 (0, 0, 0, 0)).2.2.1 8) 0)))))).1 (aset (α := Int) 8 q5.1.1.2.1 (rd a q5.1.1.1 (0, 0, 0, 0)).2.1 (IntKind.i64.wrap (IntKind.u64.wrap ((IntKind.u64.wrap (aget (α := Int) 8 q5.1.1.2.1 (rd a q5.1.1.1 (0, 0, 0, 0)).2.1 0)) * (IntKind.u64.wrap (aget (α := Int) 8 q5.1.1.2.1 (Int.tmod (rd a q5.1.1.1 (0, 0, 0, 0)).2.2.1 8) 0)))))).2.1 (aset (α := Int) 8 q5.1.1.2.1 (rd a q5.1.1.1 (0, 0, 0, 0)).2.1 (IntKind.i64.wrap (IntKind.u64.wrap ((IntKind.u64.wrap (aget (α := Int) 8 q5.1.1.2.1 (rd a q5.1.1.1 (0, 0, 0, 0)).2.1 0)) * (IntKind.u64.wrap (aget (α := Int) 8 q5.1.1.2.1 (Int.tmod (rd a q5.1.1.1 (0, 0, 0, 0)).2.2.1 8) 0)))))).2.2.1 (aset (α := Int) 8 q5.1.1.2.1 (rd a q5.1.1.1 (0, 0, 0, 0)).2.1 (IntKind.i64.wrap (IntKind.u64.wrap ((IntKind.u64.wrap (aget (α := Int) 8 q5.1.1.2.1 (rd a q5.1.1.1 (0, 0, 0, 0)).2.1 0)) * (IntKind.u64.wrap (aget (α := Int) 8 q5.1.1.2.1 (Int.tmod (rd a q5.1.1.1 (0, 0, 0, 0)).2.2.1 8) 0)))))).2.2.2.1 (aset (α := Int) 8 q5.1.1.2.1 (rd a q5.1.1.1 (0, 0, 0, 0)).2.1 (IntKind.i64.wrap (IntKind.u64.wrap ((IntKind.u64.wrap (aget (α := Int) 8 q5.1.1.2.1 (rd a q5.1.1.1 (0, 0, 0, 0)).2.1 0)) * (IntKind.u64.wrap (aget (α := Int) 8 q5.1.1.2.1 (Int.tmod (rd a q5.1.1.1 (0, 0, 0, 0)).2.2.1 8) 0)))))).2.2.2.2.1 (aset (α := Int) 8 q5.1.1.2.1 (rd a q5.1.1.1 (0, 0, 0, 0)).2.1 (IntKind.i64.wrap (IntKind.u64.wrap ((IntKind.u64.wrap (aget (α := Int) 8 q5.1.1.2.1 (rd a q5.1.1.1 (0, 0, 0, 0)).2.1 0)) * (IntKind.u64.wrap (aget (α := Int) 8 q5.1.1.2.1 (Int.tmod (rd a q5.1.1.1 (0, 0, 0, 0)).2.2.1 8) 0)))))).2.2.2.2.2.1 (aset (α := Int) 8 q5.1.1.2.1 (rd a q5.1.1.1 (0, 0, 0, 0)).2.1 (IntKind.i64.wrap (IntKind.u64.wrap ((IntKind.u64.wrap (aget (α := Int) 8 q5.1.1.2.1 (rd a q5.1.1.1 (0, 0, 0, 0)).2.1 0)) * (IntKind.u64.wrap (aget (α := Int) 8 q5.1.1.2.1 (Int.tmod (rd a q5.1.1.1 (0, 0, 0, 0)).2.2.1 8) 0)))))).2.2.2.2.2.2.1 (aset (α := Int) 8 q5.1.1.2.1 (rd a q5.1.1.1 (0, 0, 0, 0)).2.1 (IntKind.i64.wrap (IntKind.u64.wrap ((IntKind.u64.wrap (aget (α := Int) 8 q5.1.1.2.1 (rd a q5.1.1.1 (0, 0, 0, 0)).2.1 0)) * (IntKind.u64.wrap (aget (α := Int) 8 q5.1.1.2.1 (Int.tmod (rd a q5.1.1.1 (0, 0, 0, 0)).2.2.1 8) 0)))))).2.2.2.2.2.2.2 q5.1.1.2.2.1 q5.1.1.2.2.2).bind fun q10 =>
          some ((q10.1.1, rd a q5.1.1.1 (0, 0, 0, 0), true, ()), ())
         else
          (bif (rd a q5.1.1.1 (0, 0, 0, 0)).1 == 5 then
           (S230 k (aget (α := Int) 8 q5.1.1.2.1 (rd a q5.1.1.1 (0, 0, 0, 0)).2.1 0) (rd a q5.1.1.1 (0, 0, 0, 0)).2.2.2).bind fun q11 =>
           (S232 k (IntKind.i64.wrap (q5.1.1.1 + 1)) (aset (α := Int) 8 q5.1.1.2.1 (rd a q5.1.1.1 (0, 0, 0, 0)).2.1 q11.1.1).1 (aset (α := Int) 8 q5.1.1.2.1 (rd a q5.1.1.1 (0, 0, 0, 0)).2.1 q11.1.1).2.1 (aset (α := Int) 8 q5.1.1.2.1 (rd a q5.1.1.1 (0, 0, 0, 0)).2.1 q11.1.1).2.2.1 (aset (α := Int) 8 q5.1.1.2.1 (rd a q5.1.1.1 (0, 0, 0, 0)).2.1 q11.1.1).2.2.2.1 (aset (α := Int) 8 q5.1.1.2.1 (rd a q5.1.1.1 (0, 0, 0, 0)).2.1 q11.1.1).2.2.2.2.1 (aset (α := Int) 8 q5.1.1.2.1 (rd a q5.1.1.1 (0, 0, 0, 0)).2.1 q11.1.1).2.2.2.2.2.1 (aset (α := Int) 8 q5.1.1.2.1 (rd a q5.1.1.1 (0, 0, 0, 0)).2.1 q11.1.1).2.2.2.2.2.2.1 (aset (α := Int) 8 q5.1.1.2.1 (rd a q5.1.1.1 (0, 0, 0, 0)).2.1 q11.1.1).2.2.2.2.2.2.2 q5.1.1.2.2.1 q5.1.1.2.2.2).bind fun q12 =>
           some ((q12.1.1, rd a q5.1.1.1 (0, 0, 0, 0), true, ()), ())
          else
           (bif (rd a q5.1.1.1 (0, 0, 0, 0)).1 == 6 then
            (S231 k (aget (α := Int) 8 q5.1.1.2.1 (rd a q5.1.1.1 (0, 0, 0, 0)).2.1 0) (rd a q5.1.1.1 (0, 0, 0, 0)).2.2.2).bind fun q13 =>
            (S232 k (IntKind.i64.wrap (q5.1.1.1 + 1)) (aset (α := Int) 8 q5.1.1.2.1 (rd a q5.1.1.1 (0, 0, 0, 0)).2.1 q13.1.1).1 (aset (α := Int) 8 q5.1.1.2.1 (rd a q5.1.1.1 (0, 0, 0, 0)).2.1 q13.1.1).2.1 (aset (α := Int) 8 q5.1.1.2.1 (rd a q5.1.1.1 (0, 0, 0, 0)).2.1 q13.1.1).2.2.1 (aset (α := Int) 8 q5.1.1.2.1 (rd a q5.1.1.1 (0, 0, 0, 0)).2.1 q13.1.1).2.2.2.1 (aset (α := Int) 8 q5.1.1.2.1 (rd a q5.1.1.1 (0, 0, 0, 0)).2.1 q13.1.1).2.2.2.2.1 (aset (α := Int) 8 q5.1.1.2.1 (rd a q5.1.1.1 (0, 0, 0, 0)).2.1 q13.1.1).2.2.2.2.2.1 (aset (α := Int) 8 q5.1.1.2.1 (rd a q5.1.1.1 (0, 0, 0, 0)).2.1 q13.1.1).2.2.2.2.2.2.1 (aset (α := Int) 8 q5.1.1.2.1 (rd a q5.1.1.1 (0, 0, 0, 0)).2.1 q13.1.1).2.2.2.2.2.2.2 q5.1.1.2.2.1 q5.1.1.2.2.2).bind fun q14 =>
            some ((q14.1.1, rd a q5.1.1.1 (0, 0, 0, 0), true, ()), ())
           else
            (bif (rd a q5.1.1.1 (0, 0, 0, 0)).1 == 7 then
             (bif (aget (α := Int) 8 q5.1.1.2.1 (rd a q5.1.1.1 (0, 0, 0, 0)).2.1 0) == 0 then
              (S232 k (IntKind.i64.wrap ((IntKind.i64.wrap (q5.1.1.1 + 1)) + (rd a q5.1.1.1 (0, 0, 0, 0)).2.2.2)) q5.1.1.2.1.1 q5.1.1.2.1.2.1 q5.1.1.2.1.2.2.1 q5.1.1.2.1.2.2.2.1 q5.1.1.2.1.2.2.2.2.1 q5.1.1.2.1.2.2.2.2.2.1 q5.1.1.2.1.2.2.2.2.2.2.1 q5.1.1.2.1.2.2.2.2.2.2.2 q5.1.1.2.2.1 q5.1.1.2.2.2).bind fun q15 =>
              some ((q15.1.1, rd a q5.1.1.1 (0, 0, 0, 0), true, ()), ())
             else
              (S232 k (IntKind.i64.wrap (q5.1.1.1 + 1)) q5.1.1.2.1.1 q5.1.1.2.1.2.1 q5.1.1.2.1.2.2.1 q5.1.1.2.1.2.2.2.1 q5.1.1.2.1.2.2.2.2.1 q5.1.1.2.1.2.2.2.2.2.1 q5.1.1.2.1.2.2.2.2.2.2.1 q5.1.1.2.1.2.2.2.2.2.2.2 q5.1.1.2.2.1 q5.1.1.2.2.2).bind fun q16 =>
              some ((q16.1.1, rd a q5.1.1.1 (0, 0, 0, 0), true, ()), ()))
            else
             (bif (rd a q5.1.1.1 (0, 0, 0, 0)).1 == 8 then
              ap q5.1.1.2.2.1 ([(IntKind.i64.wrap (q5.1.1.1 + 1), IntKind.i64.wrap (q5.1.1.1 + (rd a q5.1.1.1 (0, 0, 0, 0)).2.2.1), IntKind.i64.wrap ((rd a q5.1.1.1 (0, 0, 0, 0)).2.2.2 - 1))] : List Y1_14) 24 fun r17 =>
              (S232 k (IntKind.i64.wrap (q5.1.1.1 + 1)) q5.1.1.2.1.1 q5.1.1.2.1.2.1 q5.1.1.2.1.2.2.1 q5.1.1.2.1.2.2.2.1 q5.1.1.2.1.2.2.2.2.1 q5.1.1.2.1.2.2.2.2.2.1 q5.1.1.2.1.2.2.2.2.2.2.1 q5.1.1.2.1.2.2.2.2.2.2.2 r17 q5.1.1.2.2.2).bind fun q18 =>
              some ((q18.1.1, rd a q5.1.1.1 (0, 0, 0, 0), true, ()), ())
             else
              (S232 k (IntKind.i64.wrap (q5.1.1.1 + 1)) q5.1.1.2.1.1 q5.1.1.2.1.2.1 q5.1.1.2.1.2.2.1 q5.1.1.2.1.2.2.2.1 q5.1.1.2.1.2.2.2.2.1 q5.1.1.2.1.2.2.2.2.2.1 q5.1.1.2.1.2.2.2.2.2.2.1 q5.1.1.2.1.2.2.2.2.2.2.2 q5.1.1.2.2.1 q5.1.1.2.2.2).bind fun q19 =>
              some ((q19.1.1, rd a q5.1.1.1 (0, 0, 0, 0), true, ()), ()))))))))))))))
def F208 : Fn := ⟨[.val ⟨false, Y1_41, false⟩, .val ⟨true, Y1_15, false⟩], [.val ⟨true, Y1_15, true⟩, .val ⟨true, Y1_18, true⟩, .val ⟨false, .bool, true⟩], fun k x => S208 k x.1 x.2.1⟩
theorem ok208 : FnOK Tryz.prog 208 F208 := okF [(228, F228), (229, F229), (230, F230), (231, F231), (232, F232)] [] (fun k => .nil) ⟨ok228, ok229, ok230, ok231, ok232, trivial⟩ Tryz.func208 rfl
section
variable (w : World) {g n c i j : Nat}
theorem delF211_t : Tryz.prog.underlying 27 = some (.slice 3) ∧ Tryz.prog.underlying 3 = some (.int .i64) ∧ Tryz.prog.underlying 4 = some .bool ∧ Tryz.prog.follows .mixedOrders = true ∧ (∀ w, (Go.sizeOf 3).run Tryz.prog w = .ok 1 w) ∧ Tryz.f211.ntmps = 33 := ⟨by kernel_rfl, by kernel_rfl, by kernel_rfl, by kernel_rfl, fun w => by kernel_rfl, rfl⟩
theorem delF211_none {v : Value} (hv : (∃ A n c, v = .slice A n c ∧ i ≤ n ∧ n ≤ c ∧ c ≤ 9223372036854775807)) : Calls Tryz.prog 211 #[v, .int .i64 i, .int .i64 i] w fun e w' => e = .returned v ∧ w' = w := by
 obtain ⟨t24, t3, t4, mixed, z36, hnt⟩ := delF211_t
 have u24 := run_underlying t24; have u3 := run_underlying t3; have u4 := run_underlying t4
 obtain ⟨A, n, c, rfl, hi, hnc, hc63⟩ := hv
 have hi0 : (i : Int) ≤ (n : Int) := by omega
 have hi1 : (0 : Int) ≤ (i : Int) := by omega
 cases A <;> (go_enter Tryz.func211, hnt; go_wp2 <;> (go_ret; exact ⟨rfl, rfl⟩))
theorem delF211_some {w' w'' : World} (hlt : i < j) (hj : j ≤ n) (hnc : n ≤ c) (hc63 : c ≤ 9223372036854775807)
  (hap : ∀ ty A, (c ≠ j → A = (⟨g, j * 1, none⟩ : Addr)) → (Builtin.append_ #[27, 27] ty #[.slice (some ⟨g, 0, none⟩) i c, .slice (some A) (n - j) (c - j)]).run Tryz.prog w.drew = .ok (.slice (some ⟨g, 0, none⟩) (i + (n - j)) c) w')
  (hcl : ∀ ty dc, (Builtin.clear_ #[27] ty #[.slice (some ⟨g, (i + (n - j)) * 1, none⟩) (n - (i + (n - j))) dc]).run Tryz.prog w' = .ok (.tuple #[]) w'') :
  Calls Tryz.prog 211 #[.slice (some ⟨g, 0, none⟩) n c, .int .i64 i, .int .i64 j] w fun e w1 => e = .returned (.slice (some ⟨g, 0, none⟩) (i + (n - j)) c) ∧ w1 = w'' := by
 obtain ⟨t24, t3, t4, mixed, z36, hnt⟩ := delF211_t
 have u24 := run_underlying t24; have u3 := run_underlying t3; have u4 := run_underlying t4
 have hi0 : (i : Int) ≤ (n : Int) := by omega
 have hj0 : (j : Int) ≤ (n : Int) := by omega
 have hij : (i : Int) ≤ (j : Int) := by omega
 have hne : ¬ ((i : Int) = (j : Int)) := by omega
 have hic : i ≤ c := by omega
 have hjc : j ≤ c := by omega
 have hln : i + (n - j) ≤ n := by omega
 have hlc : i + (n - j) ≤ c := by omega
 have hci : ¬ (c = i + (n - j)) := by omega
 obtain ⟨A, hA, hA'⟩ : ∃ A : Addr, (if c = j then some (⟨g, 0, none⟩ : Addr) else some ⟨g, j * 1, none⟩) = some A ∧ (c ≠ j → A = (⟨g, j * 1, none⟩ : Addr)) := by
  by_cases h : c = j
  · exact ⟨_, if_pos h, fun q => absurd h q⟩
  · exact ⟨_, if_neg h, fun _ => rfl⟩
 try simp only [Nat.mul_one] at hA hcl
 go_enter Tryz.func211, hnt
 go_wp2_with fail
 go_region_law_o (refine append_step rfl rfl _ _ (by simp [Act.eval, Act.put]) (by simp [Act.eval, Act.put, hA]) (hap _ _ hA') ?_)
 go_wp2_with (at_builtin; refine clear_list rfl rfl _ rfl (hcl _ _) ?_)
 go_ret
 exact ⟨rfl, rfl⟩
end
abbrev P211 : List PT := delPs 3 (.int .i64)
abbrev R211 : List RT := delRs 3 (.int .i64)
def S211 (k : Nat) (a : List Int) (i j : Int) : Option (((List Int) × Unit) × Unit) := delSem 3 (.int .i64) k (a, i, j, ())
def F211 : Fn := ⟨P211, R211, delSem 3 (.int .i64)⟩
def E211 : Env := tab.env (fun _ => none) (fun _ => 0)
theorem E211_ok : EnvOK Tryz.prog E211 := envOK_of tabOK _ _ (fun f F h => by cases h)
theorem ok211 : FnOK Tryz.prog 211 F211 := by
 obtain ⟨i0, z, a1, a2, a3, a4, a5⟩ := (E211_ok.ty 3 ((.int .i64)) (by kernel_rfl)).info
 have b2 : Ty.sz ((.int .i64)) = 1 := rfl
 have hz : z.cells.size = 1 := by rw [← Array.length_toList, a5, zeroV_len, b2]
 obtain ⟨t24, t3, t4, mixed, z36, hnt⟩ := delF211_t
 refine del_ok Tryz.func211 rfl (by kernel_rfl) ?_
 rw [b2]
 exact del_all (S := 27) (z := z) t24 a1 a4 (by rw [a2, b2]) hz (fun v hv => zeroV_one ((.int .i64)) v (by rw [← a5]; exact hv)) (by decide) (fun w i v h => delF211_none w h) (fun w g n c i j w' w'' h1 h2 h3 h4 h5 h6 => delF211_some w h1 h2 h3 h4 h5 h6)
abbrev c161_L13 : Cut := ⟨[4, 5, 8], [.box 94 [cI, cI, cI, cI, cI, cI, cI, cI, cI, cI, cI, cI, cI, .own 233 Y1_7, .cell .bool, cI, cI, cI, cI, cI, cI, cI, cI, cI, .own 233 Y1_7, .cell .bool, .own 3 (.int .i64), .cell .bool], .box 87 [cI, cI, cI, cI], cI], [], 70, []⟩
def l161_13 (k : Nat) (g13 : Int → Int → Int → Int → Int → Int → Int → Int → Int → Int → Int → Int → Int → (List Y1_14) → Bool → Int → Int → Int → Int → Int → Int → Int → Int → Int → (List Y1_14) → Bool → (List Int) → Bool → Int → Int → Int → Int → Int → Option Y1_34) (x a b c e f h i l m n o p : Int) (s : List Y1_14) (t : Bool) (u v w y z A B C D : Int) (G : List Y1_14) (H : Bool) (I : List Int) (J : Bool) (K M N O P : Int) : Option Y1_34 :=
 (bif decide (P ≥ 0) then
  ix I P <|
  (bif (rd I P 0) == M then
   (S211 k I P (IntKind.i64.wrap (P + 1))).bind fun q5 =>
   some (((x, a, b, c, (e, (f, h, i, l, m, n, o, p), s, t), (u, (v, w, y, z, A, B, C, D), G, H), q5.1.1, J), (K, M, N, O), true, ()), ())
  else
   g13 x a b c e f h i l m n o p s t u v w y z A B C D G H I J K M N O (IntKind.i64.wrap (P - 1)))
 else
  some (((x, a, b, c, (e, (f, h, i, l, m, n, o, p), s, t), (u, (v, w, y, z, A, B, C, D), G, H), I, J), (K, M, N, O), true, ()), ()))
def b161_13 (k : Nat) (g : ((Unit) × Y1_11 × Y1_40 × Int × Unit) → Option Y1_34) (d : (Unit) × Y1_11 × Y1_40 × Int × Unit) : Option Y1_34 := l161_13 k (fun x a b c e f h i l m n o p s t u v w y z A B C D G H I J K M N O P => g ((), (x, a, b, c, e, f, h, i, l, m, n, o, p, s, t, u, v, w, y, z, A, B, C, D, G, H, I, J, ()), (K, M, N, O, ()), P, ())) d.2.1.1 d.2.1.2.1 d.2.1.2.2.1 d.2.1.2.2.2.1 d.2.1.2.2.2.2.1 d.2.1.2.2.2.2.2.1 d.2.1.2.2.2.2.2.2.1 d.2.1.2.2.2.2.2.2.2.1 d.2.1.2.2.2.2.2.2.2.2.1 d.2.1.2.2.2.2.2.2.2.2.2.1 d.2.1.2.2.2.2.2.2.2.2.2.2.1 d.2.1.2.2.2.2.2.2.2.2.2.2.2.1 d.2.1.2.2.2.2.2.2.2.2.2.2.2.2.1 d.2.1.2.2.2.2.2.2.2.2.2.2.2.2.2.1 d.2.1.2.2.2.2.2.2.2.2.2.2.2.2.2.2.1 d.2.1.2.2.2.2.2.2.2.2.2.2.2.2.2.2.2.1 d.2.1.2.2.2.2.2.2.2.2.2.2.2.2.2.2.2.2.1 d.2.1.2.2.2.2.2.2.2.2.2.2.2.2.2.2.2.2.2.1 d.2.1.2.2.2.2.2.2.2.2.2.2.2.2.2.2.2.2.2.2.1 d.2.1.2.2.2.2.2.2.2.2.2.2.2.2.2.2.2.2.2.2.2.1 d.2.1.2.2.2.2.2.2.2.2.2.2.2.2.2.2.2.2.2.2.2.2.1 d.2.1.2.2.2.2.2.2.2.2.2.2.2.2.2.2.2.2.2.2.2.2.2.1 d.2.1.2.2.2.2.2.2.2.2.2.2.2.2.2.2.2.2.2.2.2.2.2.2.1 d.2.1.2.2.2.2.2.2.2.2.2.2.2.2.2.2.2.2.2.2.2.2.2.2.2.1 d.2.1.2.2.2.2.2.2.2.2.2.2.2.2.2.2.2.2.2.2.2.2.2.2.2.2.1 d.2.1.2.2.2.2.2.2.2.2.2.2.2.2.2.2.2.2.2.2.2.2.2.2.2.2.2.1 d.2.1.2.2.2.2.2.2.2.2.2.2.2.2.2.2.2.2.2.2.2.2.2.2.2.2.2.2.1 d.2.1.2.2.2.2.2.2.2.2.2.2.2.2.2.2.2.2.2.2.2.2.2.2.2.2.2.2.2.1 d.2.2.1.1 d.2.2.1.2.1 d.2.2.1.2.2.1 d.2.2.1.2.2.2.1 d.2.2.2.1
def L161_13 (k a : Nat) (x b c e f h i l m n o p s : Int) (t : List Y1_14) (u : Bool) (v w y z A B C D G : Int) (H : List Y1_14) (I : Bool) (J : List Int) (K : Bool) (M N O P Q : Int) : Option Y1_34 := iter (R := (Y1_2 × Y1_8 × Bool × Unit) × Unit) c161_L13 (b161_13 k) a ((), (x, b, c, e, f, h, i, l, m, n, o, p, s, t, u, v, w, y, z, A, B, C, D, G, H, I, J, K, ()), (M, N, O, P, ()), Q, ())
theorem L161_13_s (k a x b c e f h i l m n o p s t u v w y z A B C D G H I J K M N O P Q) : L161_13 k (a + 1) x b c e f h i l m n o p s t u v w y z A B C D G H I J K M N O P Q = l161_13 k (L161_13 k a) x b c e f h i l m n o p s t u v w y z A B C D G H I J K M N O P Q := iter_succ _ _ _ _
def S161 (k : Nat) (a : Y1_36) (b : Y1_20) : Option Y1_34 :=
 (S207 k b).bind fun q0 =>
 (S209 k a b).bind fun q1 =>
 (S208 k q1.1.1 b.2.2.2.2.1).bind fun q2 =>
 (bif !q2.1.2.2.1 then
  some ((q0.1.1, (0, 0, 0, 0), false, ()), ())
 else
  (bif q2.1.2.1.1 == 11 then
   (S210 k q2.1.1).bind fun q3 =>
   some (((q0.1.1.1, q0.1.1.2.1, q0.1.1.2.2.1, q0.1.1.2.2.2.1, q2.1.1, q3.1.1, q0.1.1.2.2.2.2.2.2), q2.1.2.1, true, ()), ())
  else
   (bif q2.1.2.1.1 == 9 then
    ap q0.1.1.2.2.2.2.2.2.1 ([q2.1.2.1.2.1] : List Int) 8 fun r4 =>
    some (((q0.1.1.1, q0.1.1.2.1, q0.1.1.2.2.1, q0.1.1.2.2.2.1, q2.1.1, q0.1.1.2.2.2.2.2.1, r4, q0.1.1.2.2.2.2.2.2.2), q2.1.2.1, true, ()), ())
   else
    (bif q2.1.2.1.1 == 10 then
     L161_13 k k q0.1.1.1 q0.1.1.2.1 q0.1.1.2.2.1 q0.1.1.2.2.2.1 q2.1.1.1 q2.1.1.2.1.1 q2.1.1.2.1.2.1 q2.1.1.2.1.2.2.1 q2.1.1.2.1.2.2.2.1 q2.1.1.2.1.2.2.2.2.1 q2.1.1.2.1.2.2.2.2.2.1 q2.1.1.2.1.2.2.2.2.2.2.1 q2.1.1.2.1.2.2.2.2.2.2.2 q2.1.1.2.2.1 q2.1.1.2.2.2 q0.1.1.2.2.2.2.2.1.1 q0.1.1.2.2.2.2.2.1.2.1.1 q0.1.1.2.2.2.2.2.1.2.1.2.1 q0.1.1.2.2.2.2.2.1.2.1.2.2.1 q0.1.1.2.2.2.2.2.1.2.1.2.2.2.1 q0.1.1.2.2.2.2.2.1.2.1.2.2.2.2.1 q0.1.1.2.2.2.2.2.1.2.1.2.2.2.2.2.1 q0.1.1.2.2.2.2.2.1.2.1.2.2.2.2.2.2.1 q0.1.1.2.2.2.2.2.1.2.1.2.2.2.2.2.2.2 q0.1.1.2.2.2.2.2.1.2.2.1 q0.1.1.2.2.2.2.2.1.2.2.2 q0.1.1.2.2.2.2.2.2.1 q0.1.1.2.2.2.2.2.2.2 q2.1.2.1.1 q2.1.2.1.2.1 q2.1.2.1.2.2.1 q2.1.2.1.2.2.2 (IntKind.i64.wrap ((q0.1.1.2.2.2.2.2.2.1.length : Int) - 1))
    else
     some (((q0.1.1.1, q0.1.1.2.1, q0.1.1.2.2.1, q0.1.1.2.2.2.1, q2.1.1, q0.1.1.2.2.2.2.2), q2.1.2.1, true, ()), ())))))
def F161 : Fn := ⟨[.val ⟨true, Y1_3, false⟩, .val ⟨true, Y1_1, false⟩], [.val ⟨true, Y1_1, true⟩, .val ⟨true, Y1_18, true⟩, .val ⟨false, .bool, true⟩], fun k x => S161 k x.1 x.2.1⟩
theorem ok161 : FnOK Tryz.prog 161 F161 := okF [(207, F207), (208, F208), (209, F209), (210, F210), (211, F211)] [] (fun k => (.loop 13 c161_L13 (b161_13 k) (fun g => .nil) .nil)) ⟨ok207, ok208, ok209, ok210, ok211, trivial⟩ Tryz.func161 rfl
def S162 (k : Nat) (a : Y1_35) (b c : Int) : Option ((Y1_32 × Bool × Unit) × Unit) :=
 (S194 k a).bind fun q0 =>
 (S212 k a b).bind fun q1 =>
 (bif !q1.1.1 then
  some ((q0.1.1, false, ()), ())
 else
  ix a b <|
  (bif (rd a b (0, 0)).2 != 0 then
   some ((q0.1.1, false, ()), ())
  else
   ix q0.1.1 b <|
   some ((upd q0.1.1 b ((rd q0.1.1 b (0, 0)).1, IntKind.i64.wrap (c + 1)), true, ()), ())))
def F162 : Fn := ⟨[.val ⟨false, Y1_21, false⟩, .val ⟨false, (.int .i64), false⟩, .val ⟨false, (.int .i64), false⟩], [.val ⟨false, Y1_21, true⟩, .val ⟨false, .bool, true⟩], fun k x => S162 k x.1 x.2.1 x.2.2.1⟩
theorem ok162 : FnOK Tryz.prog 162 F162 := okF [(194, F194), (212, F212)] [] (fun k => .nil) ⟨ok194, ok212, trivial⟩ Tryz.func162 rfl
def S163 (k : Nat) (a : Y1_35) (b c : Int) : Option ((Y1_32 × Bool × Unit) × Unit) :=
 (S194 k a).bind fun q0 =>
 (S195 k a b c).bind fun q1 =>
 (bif !q1.1.1 then
  some ((q0.1.1, false, ()), ())
 else
  ix q0.1.1 b <|
  some ((upd q0.1.1 b ((rd q0.1.1 b (0, 0)).1, 0), true, ()), ()))
def F163 : Fn := ⟨[.val ⟨false, Y1_21, false⟩, .val ⟨false, (.int .i64), false⟩, .val ⟨false, (.int .i64), false⟩], [.val ⟨false, Y1_21, true⟩, .val ⟨false, .bool, true⟩], fun k x => S163 k x.1 x.2.1 x.2.2.1⟩
theorem ok163 : FnOK Tryz.prog 163 F163 := okF [(194, F194), (195, F195)] [] (fun k => .nil) ⟨ok194, ok195, trivial⟩ Tryz.func163 rfl
def S213 (k : Nat) (a : Y1_20) : Option ((Y1_2 × Unit) × Unit) :=
 (S207 k a).bind fun q0 =>
 (S99 k a.2.2.2.2.1.2.1.1).bind fun q1 =>
 (S99 k a.2.2.2.2.1.2.1.1).bind fun q2 =>
 some (((q0.1.1.1, q0.1.1.2.1, q0.1.1.2.2.1, 2, q1.1.1, q2.1.1, [], false), ()), ())
def F213 : Fn := ⟨[.val ⟨true, Y1_1, false⟩], [.val ⟨true, Y1_1, true⟩], fun k x => S213 k x.1⟩
theorem ok213 : FnOK Tryz.prog 213 F213 := okF [(99, F99), (207, F207)] [] (fun k => .nil) ⟨ok99, ok207, trivial⟩ Tryz.func213 rfl
abbrev c164_J8 : Cut := ⟨[0, 1], [.pin false 0, .pin false 1], [.mbox 150 [cI, cI, .own 77 Y1_3, .own 96 Y1_29, .cell .bool, .cell .bool, .cell .bool, .own 94 Y1_1, .own 3 (.int .i64), .own 4 .bool, .own 124 Y1_6, .own 3 (.int .i64), .own 4 .bool, .own 82 Y1_30], .mbox 94 [cI, cI, cI, cI, cI, cI, cI, cI, cI, cI, cI, cI, cI, .own 233 Y1_7, .cell .bool, cI, cI, cI, cI, cI, cI, cI, cI, cI, .own 233 Y1_7, .cell .bool, .own 3 (.int .i64), .cell .bool]], 95, []⟩
def j164_8 (k : Nat) (a b : Int) (c : List Y1_4) (e : List (PN Int 5)) (f h i : Bool) (l : List Y1_2) (m : List Int) (n : List Bool) (o : List Y1_5) (p : List Int) (s : List Bool) (t : List (PN Int 6)) (u v w y z A B C D G H I J : Int) (K : List Y1_14) (M : Bool) (N O P Q T U V W X : Int) (Z : List Y1_14) (a1 : Bool) (b1 : List Int) (c1 : Bool) : Option Y1_39 :=
 (S83 k (p, s) u).bind fun q3 =>
 (S213 k (u, v, w, y, (z, (A, B, C, D, G, H, I, J), K, M), (N, (O, P, Q, T, U, V, W, X), Z, a1), b1, c1)).bind fun q4 =>
 ix c q4.1.1.1 <|
 some ((((rd c q4.1.1.1 (0, 0, 0, [], [], [])).2.2.2.2.2.length : Int) == 0, ()), (a, b, c, e, f, h, i, l, m, n, o, q3.1.1.1, q3.1.1.2, t, ()), (q4.1.1.1, q4.1.1.2.1, q4.1.1.2.2.1, q4.1.1.2.2.2.1, q4.1.1.2.2.2.2.1.1, q4.1.1.2.2.2.2.1.2.1.1, q4.1.1.2.2.2.2.1.2.1.2.1, q4.1.1.2.2.2.2.1.2.1.2.2.1, q4.1.1.2.2.2.2.1.2.1.2.2.2.1, q4.1.1.2.2.2.2.1.2.1.2.2.2.2.1, q4.1.1.2.2.2.2.1.2.1.2.2.2.2.2.1, q4.1.1.2.2.2.2.1.2.1.2.2.2.2.2.2.1, q4.1.1.2.2.2.2.1.2.1.2.2.2.2.2.2.2, q4.1.1.2.2.2.2.1.2.2.1, q4.1.1.2.2.2.2.1.2.2.2, q4.1.1.2.2.2.2.2.1.1, q4.1.1.2.2.2.2.2.1.2.1.1, q4.1.1.2.2.2.2.2.1.2.1.2.1, q4.1.1.2.2.2.2.2.1.2.1.2.2.1, q4.1.1.2.2.2.2.2.1.2.1.2.2.2.1, q4.1.1.2.2.2.2.2.1.2.1.2.2.2.2.1, q4.1.1.2.2.2.2.2.1.2.1.2.2.2.2.2.1, q4.1.1.2.2.2.2.2.1.2.1.2.2.2.2.2.2.1, q4.1.1.2.2.2.2.2.1.2.1.2.2.2.2.2.2.2, q4.1.1.2.2.2.2.2.1.2.2.1, q4.1.1.2.2.2.2.2.1.2.2.2, q4.1.1.2.2.2.2.2.2.1, q4.1.1.2.2.2.2.2.2.2, ()), ())
def S164 (k : Nat) (a b : Int) (c : List Y1_4) (e : List (PN Int 5)) (f h i : Bool) (l : List Y1_2) (m : List Int) (n : List Bool) (o : List Y1_5) (p : List Int) (s : List Bool) (t : List (PN Int 6)) (u v w y z A B C D G H I J : Int) (K : List Y1_14) (M : Bool) (N O P Q T U V W X : Int) (Z : List Y1_14) (a1 : Bool) (b1 : List Int) (c1 : Bool) : Option Y1_39 :=
 (bif y == 2 then
  (S100a k a b c e f h i l m n o p s t (0, 4, u, 0, A, 0)).bind fun q0 =>
  some ((true, ()), q0.2.1, (u, v, w, y, z, A, B, C, D, G, H, I, J, K, M, N, O, P, Q, T, U, V, W, X, Z, a1, b1, c1, ()), ())
 else
  (S100a k a b c e f h i l m n o p s t (0, 3, u, 0, A, 0)).bind fun q1 =>
  (bif y == 0 then
   ix q1.2.1.2.2.1 u <|
   (bif decide (((rd q1.2.1.2.2.1 u (0, 0, 0, [], [], [])).2.2.2.2.1.length : Int) > 0) then
    (S100a k q1.2.1.1 q1.2.1.2.1 q1.2.1.2.2.1 q1.2.1.2.2.2.1 q1.2.1.2.2.2.2.1 q1.2.1.2.2.2.2.2.1 q1.2.1.2.2.2.2.2.2.1 q1.2.1.2.2.2.2.2.2.2.1 q1.2.1.2.2.2.2.2.2.2.2.1 q1.2.1.2.2.2.2.2.2.2.2.2.1 q1.2.1.2.2.2.2.2.2.2.2.2.2.1 q1.2.1.2.2.2.2.2.2.2.2.2.2.2.1 q1.2.1.2.2.2.2.2.2.2.2.2.2.2.2.1 q1.2.1.2.2.2.2.2.2.2.2.2.2.2.2.2.1 (0, 8, u, 0, 0, 0)).bind fun q2 =>
    j164_8 k q2.2.1.1 q2.2.1.2.1 q2.2.1.2.2.1 q2.2.1.2.2.2.1 q2.2.1.2.2.2.2.1 q2.2.1.2.2.2.2.2.1 q2.2.1.2.2.2.2.2.2.1 q2.2.1.2.2.2.2.2.2.2.1 q2.2.1.2.2.2.2.2.2.2.2.1 q2.2.1.2.2.2.2.2.2.2.2.2.1 q2.2.1.2.2.2.2.2.2.2.2.2.2.1 q2.2.1.2.2.2.2.2.2.2.2.2.2.2.1 q2.2.1.2.2.2.2.2.2.2.2.2.2.2.2.1 q2.2.1.2.2.2.2.2.2.2.2.2.2.2.2.2.1 u v w y z A B C D G H I J K M N O P Q T U V W X Z a1 b1 c1
   else
    j164_8 k q1.2.1.1 q1.2.1.2.1 q1.2.1.2.2.1 q1.2.1.2.2.2.1 q1.2.1.2.2.2.2.1 q1.2.1.2.2.2.2.2.1 q1.2.1.2.2.2.2.2.2.1 q1.2.1.2.2.2.2.2.2.2.1 q1.2.1.2.2.2.2.2.2.2.2.1 q1.2.1.2.2.2.2.2.2.2.2.2.1 q1.2.1.2.2.2.2.2.2.2.2.2.2.1 q1.2.1.2.2.2.2.2.2.2.2.2.2.2.1 q1.2.1.2.2.2.2.2.2.2.2.2.2.2.2.1 q1.2.1.2.2.2.2.2.2.2.2.2.2.2.2.2.1 u v w y z A B C D G H I J K M N O P Q T U V W X Z a1 b1 c1)
  else
   j164_8 k q1.2.1.1 q1.2.1.2.1 q1.2.1.2.2.1 q1.2.1.2.2.2.1 q1.2.1.2.2.2.2.1 q1.2.1.2.2.2.2.2.1 q1.2.1.2.2.2.2.2.2.1 q1.2.1.2.2.2.2.2.2.2.1 q1.2.1.2.2.2.2.2.2.2.2.1 q1.2.1.2.2.2.2.2.2.2.2.2.1 q1.2.1.2.2.2.2.2.2.2.2.2.2.1 q1.2.1.2.2.2.2.2.2.2.2.2.2.2.1 q1.2.1.2.2.2.2.2.2.2.2.2.2.2.2.1 q1.2.1.2.2.2.2.2.2.2.2.2.2.2.2.2.1 u v w y z A B C D G H I J K M N O P Q T U V W X Z a1 b1 c1))
def F164 : Fn := ⟨[.mbox 150 [cI, cI, .own 77 Y1_3, .own 96 Y1_29, .cell .bool, .cell .bool, .cell .bool, .own 94 Y1_1, .own 3 (.int .i64), .own 4 .bool, .own 124 Y1_6, .own 3 (.int .i64), .own 4 .bool, .own 82 Y1_30], .mbox 94 [cI, cI, cI, cI, cI, cI, cI, cI, cI, cI, cI, cI, cI, .own 233 Y1_7, .cell .bool, cI, cI, cI, cI, cI, cI, cI, cI, cI, .own 233 Y1_7, .cell .bool, .own 3 (.int .i64), .cell .bool]], [.val ⟨false, .bool, true⟩], fun k x => S164 k x.1.1 x.1.2.1 x.1.2.2.1 x.1.2.2.2.1 x.1.2.2.2.2.1 x.1.2.2.2.2.2.1 x.1.2.2.2.2.2.2.1 x.1.2.2.2.2.2.2.2.1 x.1.2.2.2.2.2.2.2.2.1 x.1.2.2.2.2.2.2.2.2.2.1 x.1.2.2.2.2.2.2.2.2.2.2.1 x.1.2.2.2.2.2.2.2.2.2.2.2.1 x.1.2.2.2.2.2.2.2.2.2.2.2.2.1 x.1.2.2.2.2.2.2.2.2.2.2.2.2.2.1 x.2.1.1 x.2.1.2.1 x.2.1.2.2.1 x.2.1.2.2.2.1 x.2.1.2.2.2.2.1 x.2.1.2.2.2.2.2.1 x.2.1.2.2.2.2.2.2.1 x.2.1.2.2.2.2.2.2.2.1 x.2.1.2.2.2.2.2.2.2.2.1 x.2.1.2.2.2.2.2.2.2.2.2.1 x.2.1.2.2.2.2.2.2.2.2.2.2.1 x.2.1.2.2.2.2.2.2.2.2.2.2.2.1 x.2.1.2.2.2.2.2.2.2.2.2.2.2.2.1 x.2.1.2.2.2.2.2.2.2.2.2.2.2.2.2.1 x.2.1.2.2.2.2.2.2.2.2.2.2.2.2.2.2.1 x.2.1.2.2.2.2.2.2.2.2.2.2.2.2.2.2.2.1 x.2.1.2.2.2.2.2.2.2.2.2.2.2.2.2.2.2.2.1 x.2.1.2.2.2.2.2.2.2.2.2.2.2.2.2.2.2.2.2.1 x.2.1.2.2.2.2.2.2.2.2.2.2.2.2.2.2.2.2.2.2.1 x.2.1.2.2.2.2.2.2.2.2.2.2.2.2.2.2.2.2.2.2.2.1 x.2.1.2.2.2.2.2.2.2.2.2.2.2.2.2.2.2.2.2.2.2.2.1 x.2.1.2.2.2.2.2.2.2.2.2.2.2.2.2.2.2.2.2.2.2.2.2.1 x.2.1.2.2.2.2.2.2.2.2.2.2.2.2.2.2.2.2.2.2.2.2.2.2.1 x.2.1.2.2.2.2.2.2.2.2.2.2.2.2.2.2.2.2.2.2.2.2.2.2.2.1 x.2.1.2.2.2.2.2.2.2.2.2.2.2.2.2.2.2.2.2.2.2.2.2.2.2.2.1 x.2.1.2.2.2.2.2.2.2.2.2.2.2.2.2.2.2.2.2.2.2.2.2.2.2.2.2.1 x.2.1.2.2.2.2.2.2.2.2.2.2.2.2.2.2.2.2.2.2.2.2.2.2.2.2.2.2.1 x.2.1.2.2.2.2.2.2.2.2.2.2.2.2.2.2.2.2.2.2.2.2.2.2.2.2.2.2.2.1⟩
theorem ok164 : FnOK Tryz.prog 164 F164 := okF [(83, F83), (100, F100a), (213, F213)] [] (fun k => (.join 8 c164_J8 (fun d => j164_8 k d.1.1.1 d.1.1.2.1 d.1.1.2.2.1 d.1.1.2.2.2.1 d.1.1.2.2.2.2.1 d.1.1.2.2.2.2.2.1 d.1.1.2.2.2.2.2.2.1 d.1.1.2.2.2.2.2.2.2.1 d.1.1.2.2.2.2.2.2.2.2.1 d.1.1.2.2.2.2.2.2.2.2.2.1 d.1.1.2.2.2.2.2.2.2.2.2.2.1 d.1.1.2.2.2.2.2.2.2.2.2.2.2.1 d.1.1.2.2.2.2.2.2.2.2.2.2.2.2.1 d.1.1.2.2.2.2.2.2.2.2.2.2.2.2.2.1 d.1.2.1.1 d.1.2.1.2.1 d.1.2.1.2.2.1 d.1.2.1.2.2.2.1 d.1.2.1.2.2.2.2.1 d.1.2.1.2.2.2.2.2.1 d.1.2.1.2.2.2.2.2.2.1 d.1.2.1.2.2.2.2.2.2.2.1 d.1.2.1.2.2.2.2.2.2.2.2.1 d.1.2.1.2.2.2.2.2.2.2.2.2.1 d.1.2.1.2.2.2.2.2.2.2.2.2.2.1 d.1.2.1.2.2.2.2.2.2.2.2.2.2.2.1 d.1.2.1.2.2.2.2.2.2.2.2.2.2.2.2.1 d.1.2.1.2.2.2.2.2.2.2.2.2.2.2.2.2.1 d.1.2.1.2.2.2.2.2.2.2.2.2.2.2.2.2.2.1 d.1.2.1.2.2.2.2.2.2.2.2.2.2.2.2.2.2.2.1 d.1.2.1.2.2.2.2.2.2.2.2.2.2.2.2.2.2.2.2.1 d.1.2.1.2.2.2.2.2.2.2.2.2.2.2.2.2.2.2.2.2.1 d.1.2.1.2.2.2.2.2.2.2.2.2.2.2.2.2.2.2.2.2.2.1 d.1.2.1.2.2.2.2.2.2.2.2.2.2.2.2.2.2.2.2.2.2.2.1 d.1.2.1.2.2.2.2.2.2.2.2.2.2.2.2.2.2.2.2.2.2.2.2.1 d.1.2.1.2.2.2.2.2.2.2.2.2.2.2.2.2.2.2.2.2.2.2.2.2.1 d.1.2.1.2.2.2.2.2.2.2.2.2.2.2.2.2.2.2.2.2.2.2.2.2.2.1 d.1.2.1.2.2.2.2.2.2.2.2.2.2.2.2.2.2.2.2.2.2.2.2.2.2.2.1 d.1.2.1.2.2.2.2.2.2.2.2.2.2.2.2.2.2.2.2.2.2.2.2.2.2.2.2.1 d.1.2.1.2.2.2.2.2.2.2.2.2.2.2.2.2.2.2.2.2.2.2.2.2.2.2.2.2.1 d.1.2.1.2.2.2.2.2.2.2.2.2.2.2.2.2.2.2.2.2.2.2.2.2.2.2.2.2.2.1 d.1.2.1.2.2.2.2.2.2.2.2.2.2.2.2.2.2.2.2.2.2.2.2.2.2.2.2.2.2.2.1) .nil)) ⟨ok83, ok100a, ok213, trivial⟩ Tryz.func164 rfl
abbrev c105_J12 : Cut := ⟨[0, 1], [.pin false 0, .pin false 1], [.mbox 150 [cI, cI, .own 77 Y1_3, .own 96 Y1_29, .cell .bool, .cell .bool, .cell .bool, .own 94 Y1_1, .own 3 (.int .i64), .own 4 .bool, .own 124 Y1_6, .own 3 (.int .i64), .own 4 .bool, .own 82 Y1_30], .mbox 94 [cI, cI, cI, cI, cI, cI, cI, cI, cI, cI, cI, cI, cI, .own 233 Y1_7, .cell .bool, cI, cI, cI, cI, cI, cI, cI, cI, cI, .own 233 Y1_7, .cell .bool, .own 3 (.int .i64), .cell .bool]], 92, []⟩
def j105_12 (k : Nat) (a b : Int) (c : List Y1_4) (e : List (PN Int 5)) (f h i : Bool) (l : List Y1_2) (m : List Int) (n : List Bool) (o : List Y1_5) (p : List Int) (s : List Bool) (t : List (PN Int 6)) (u v w y z A B C D G H I J : Int) (K : List Y1_14) (M : Bool) (N O P Q T U V W X : Int) (Z : List Y1_14) (a1 : Bool) (b1 : List Int) (c1 : Bool) : Option Y1_39 :=
 (bif M then
  (S164 k a b c e f h i l m n o p s t u v w y z A B C D G H I J K M N O P Q T U V W X Z a1 b1 c1).bind fun q7 =>
  some ((q7.1.1, ()), q7.2.1, q7.2.2.1, ())
 else
  some ((false, ()), (a, b, c, e, f, h, i, l, m, n, o, p, s, t, ()), (u, v, w, y, z, A, B, C, D, G, H, I, J, K, M, N, O, P, Q, T, U, V, W, X, Z, a1, b1, c1, ()), ()))
def S105 (k : Nat) (a b : Int) (c : List Y1_4) (e : List (PN Int 5)) (f h i : Bool) (l : List Y1_2) (m : List Int) (n : List Bool) (o : List Y1_5) (p : List Int) (s : List Bool) (t : List (PN Int 6)) (u v w y z A B C D G H I J : Int) (K : List Y1_14) (M : Bool) (N O P Q T U V W X : Int) (Z : List Y1_14) (a1 : Bool) (b1 : List Int) (c1 : Bool) : Option Y1_39 :=
 ix c u <|
 (S161 k (rd c u (0, 0, 0, [], [], [])) (u, v, w, y, (z, (A, B, C, D, G, H, I, J), K, M), (N, (O, P, Q, T, U, V, W, X), Z, a1), b1, c1)).bind fun q0 =>
 (bif !q0.1.2.2.1 then
  some ((false, ()), (a, b, c, e, f, h, i, l, m, n, o, p, s, t, ()), (u, v, w, y, z, A, B, C, D, G, H, I, J, K, M, N, O, P, Q, T, U, V, W, X, Z, a1, b1, c1, ()), ())
 else
  (bif q0.1.2.1.1 == 9 then
   (S30 k (a, b, c, e, f, h, i, l, ((m, n), o), p, s)).bind fun q1 =>
   (S162 k q1.1.1 q0.1.2.1.2.1 q0.1.1.1).bind fun q2 =>
   (S39b k a b c e f h i l m n o p s t q2.1.1).bind fun q3 =>
   j105_12 k q3.2.1.1 q3.2.1.2.1 q3.2.1.2.2.1 q3.2.1.2.2.2.1 q3.2.1.2.2.2.2.1 q3.2.1.2.2.2.2.2.1 q3.2.1.2.2.2.2.2.2.1 q3.2.1.2.2.2.2.2.2.2.1 q3.2.1.2.2.2.2.2.2.2.2.1 q3.2.1.2.2.2.2.2.2.2.2.2.1 q3.2.1.2.2.2.2.2.2.2.2.2.2.1 q3.2.1.2.2.2.2.2.2.2.2.2.2.2.1 q3.2.1.2.2.2.2.2.2.2.2.2.2.2.2.1 q3.2.1.2.2.2.2.2.2.2.2.2.2.2.2.2.1 q0.1.1.1 q0.1.1.2.1 q0.1.1.2.2.1 q0.1.1.2.2.2.1 q0.1.1.2.2.2.2.1.1 q0.1.1.2.2.2.2.1.2.1.1 q0.1.1.2.2.2.2.1.2.1.2.1 q0.1.1.2.2.2.2.1.2.1.2.2.1 q0.1.1.2.2.2.2.1.2.1.2.2.2.1 q0.1.1.2.2.2.2.1.2.1.2.2.2.2.1 q0.1.1.2.2.2.2.1.2.1.2.2.2.2.2.1 q0.1.1.2.2.2.2.1.2.1.2.2.2.2.2.2.1 q0.1.1.2.2.2.2.1.2.1.2.2.2.2.2.2.2 q0.1.1.2.2.2.2.1.2.2.1 q0.1.1.2.2.2.2.1.2.2.2 q0.1.1.2.2.2.2.2.1.1 q0.1.1.2.2.2.2.2.1.2.1.1 q0.1.1.2.2.2.2.2.1.2.1.2.1 q0.1.1.2.2.2.2.2.1.2.1.2.2.1 q0.1.1.2.2.2.2.2.1.2.1.2.2.2.1 q0.1.1.2.2.2.2.2.1.2.1.2.2.2.2.1 q0.1.1.2.2.2.2.2.1.2.1.2.2.2.2.2.1 q0.1.1.2.2.2.2.2.1.2.1.2.2.2.2.2.2.1 q0.1.1.2.2.2.2.2.1.2.1.2.2.2.2.2.2.2 q0.1.1.2.2.2.2.2.1.2.2.1 q0.1.1.2.2.2.2.2.1.2.2.2 q0.1.1.2.2.2.2.2.2.1 q0.1.1.2.2.2.2.2.2.2
  else
   (bif q0.1.2.1.1 == 10 then
    (S30 k (a, b, c, e, f, h, i, l, ((m, n), o), p, s)).bind fun q4 =>
    (S163 k q4.1.1 q0.1.2.1.2.1 q0.1.1.1).bind fun q5 =>
    (S39b k a b c e f h i l m n o p s t q5.1.1).bind fun q6 =>
    j105_12 k q6.2.1.1 q6.2.1.2.1 q6.2.1.2.2.1 q6.2.1.2.2.2.1 q6.2.1.2.2.2.2.1 q6.2.1.2.2.2.2.2.1 q6.2.1.2.2.2.2.2.2.1 q6.2.1.2.2.2.2.2.2.2.1 q6.2.1.2.2.2.2.2.2.2.2.1 q6.2.1.2.2.2.2.2.2.2.2.2.1 q6.2.1.2.2.2.2.2.2.2.2.2.2.1 q6.2.1.2.2.2.2.2.2.2.2.2.2.2.1 q6.2.1.2.2.2.2.2.2.2.2.2.2.2.2.1 q6.2.1.2.2.2.2.2.2.2.2.2.2.2.2.2.1 q0.1.1.1 q0.1.1.2.1 q0.1.1.2.2.1 q0.1.1.2.2.2.1 q0.1.1.2.2.2.2.1.1 q0.1.1.2.2.2.2.1.2.1.1 q0.1.1.2.2.2.2.1.2.1.2.1 q0.1.1.2.2.2.2.1.2.1.2.2.1 q0.1.1.2.2.2.2.1.2.1.2.2.2.1 q0.1.1.2.2.2.2.1.2.1.2.2.2.2.1 q0.1.1.2.2.2.2.1.2.1.2.2.2.2.2.1 q0.1.1.2.2.2.2.1.2.1.2.2.2.2.2.2.1 q0.1.1.2.2.2.2.1.2.1.2.2.2.2.2.2.2 q0.1.1.2.2.2.2.1.2.2.1 q0.1.1.2.2.2.2.1.2.2.2 q0.1.1.2.2.2.2.2.1.1 q0.1.1.2.2.2.2.2.1.2.1.1 q0.1.1.2.2.2.2.2.1.2.1.2.1 q0.1.1.2.2.2.2.2.1.2.1.2.2.1 q0.1.1.2.2.2.2.2.1.2.1.2.2.2.1 q0.1.1.2.2.2.2.2.1.2.1.2.2.2.2.1 q0.1.1.2.2.2.2.2.1.2.1.2.2.2.2.2.1 q0.1.1.2.2.2.2.2.1.2.1.2.2.2.2.2.2.1 q0.1.1.2.2.2.2.2.1.2.1.2.2.2.2.2.2.2 q0.1.1.2.2.2.2.2.1.2.2.1 q0.1.1.2.2.2.2.2.1.2.2.2 q0.1.1.2.2.2.2.2.2.1 q0.1.1.2.2.2.2.2.2.2
   else
    j105_12 k a b c e f h i l m n o p s t q0.1.1.1 q0.1.1.2.1 q0.1.1.2.2.1 q0.1.1.2.2.2.1 q0.1.1.2.2.2.2.1.1 q0.1.1.2.2.2.2.1.2.1.1 q0.1.1.2.2.2.2.1.2.1.2.1 q0.1.1.2.2.2.2.1.2.1.2.2.1 q0.1.1.2.2.2.2.1.2.1.2.2.2.1 q0.1.1.2.2.2.2.1.2.1.2.2.2.2.1 q0.1.1.2.2.2.2.1.2.1.2.2.2.2.2.1 q0.1.1.2.2.2.2.1.2.1.2.2.2.2.2.2.1 q0.1.1.2.2.2.2.1.2.1.2.2.2.2.2.2.2 q0.1.1.2.2.2.2.1.2.2.1 q0.1.1.2.2.2.2.1.2.2.2 q0.1.1.2.2.2.2.2.1.1 q0.1.1.2.2.2.2.2.1.2.1.1 q0.1.1.2.2.2.2.2.1.2.1.2.1 q0.1.1.2.2.2.2.2.1.2.1.2.2.1 q0.1.1.2.2.2.2.2.1.2.1.2.2.2.1 q0.1.1.2.2.2.2.2.1.2.1.2.2.2.2.1 q0.1.1.2.2.2.2.2.1.2.1.2.2.2.2.2.1 q0.1.1.2.2.2.2.2.1.2.1.2.2.2.2.2.2.1 q0.1.1.2.2.2.2.2.1.2.1.2.2.2.2.2.2.2 q0.1.1.2.2.2.2.2.1.2.2.1 q0.1.1.2.2.2.2.2.1.2.2.2 q0.1.1.2.2.2.2.2.2.1 q0.1.1.2.2.2.2.2.2.2)))
def F105 : Fn := ⟨[.mbox 150 [cI, cI, .own 77 Y1_3, .own 96 Y1_29, .cell .bool, .cell .bool, .cell .bool, .own 94 Y1_1, .own 3 (.int .i64), .own 4 .bool, .own 124 Y1_6, .own 3 (.int .i64), .own 4 .bool, .own 82 Y1_30], .mbox 94 [cI, cI, cI, cI, cI, cI, cI, cI, cI, cI, cI, cI, cI, .cell (.sl 233 Y1_7), .cell .bool, cI, cI, cI, cI, cI, cI, cI, cI, cI, .cell (.sl 233 Y1_7), .cell .bool, .cell Y1_43, .cell .bool]], [.val ⟨false, .bool, true⟩], fun k x => S105 k x.1.1 x.1.2.1 x.1.2.2.1 x.1.2.2.2.1 x.1.2.2.2.2.1 x.1.2.2.2.2.2.1 x.1.2.2.2.2.2.2.1 x.1.2.2.2.2.2.2.2.1 x.1.2.2.2.2.2.2.2.2.1 x.1.2.2.2.2.2.2.2.2.2.1 x.1.2.2.2.2.2.2.2.2.2.2.1 x.1.2.2.2.2.2.2.2.2.2.2.2.1 x.1.2.2.2.2.2.2.2.2.2.2.2.2.1 x.1.2.2.2.2.2.2.2.2.2.2.2.2.2.1 x.2.1.1 x.2.1.2.1 x.2.1.2.2.1 x.2.1.2.2.2.1 x.2.1.2.2.2.2.1 x.2.1.2.2.2.2.2.1 x.2.1.2.2.2.2.2.2.1 x.2.1.2.2.2.2.2.2.2.1 x.2.1.2.2.2.2.2.2.2.2.1 x.2.1.2.2.2.2.2.2.2.2.2.1 x.2.1.2.2.2.2.2.2.2.2.2.2.1 x.2.1.2.2.2.2.2.2.2.2.2.2.2.1 x.2.1.2.2.2.2.2.2.2.2.2.2.2.2.1 x.2.1.2.2.2.2.2.2.2.2.2.2.2.2.2.1 x.2.1.2.2.2.2.2.2.2.2.2.2.2.2.2.2.1 x.2.1.2.2.2.2.2.2.2.2.2.2.2.2.2.2.2.1 x.2.1.2.2.2.2.2.2.2.2.2.2.2.2.2.2.2.2.1 x.2.1.2.2.2.2.2.2.2.2.2.2.2.2.2.2.2.2.2.1 x.2.1.2.2.2.2.2.2.2.2.2.2.2.2.2.2.2.2.2.2.1 x.2.1.2.2.2.2.2.2.2.2.2.2.2.2.2.2.2.2.2.2.2.1 x.2.1.2.2.2.2.2.2.2.2.2.2.2.2.2.2.2.2.2.2.2.2.1 x.2.1.2.2.2.2.2.2.2.2.2.2.2.2.2.2.2.2.2.2.2.2.2.1 x.2.1.2.2.2.2.2.2.2.2.2.2.2.2.2.2.2.2.2.2.2.2.2.2.1 x.2.1.2.2.2.2.2.2.2.2.2.2.2.2.2.2.2.2.2.2.2.2.2.2.2.1 x.2.1.2.2.2.2.2.2.2.2.2.2.2.2.2.2.2.2.2.2.2.2.2.2.2.2.1 x.2.1.2.2.2.2.2.2.2.2.2.2.2.2.2.2.2.2.2.2.2.2.2.2.2.2.2.1 x.2.1.2.2.2.2.2.2.2.2.2.2.2.2.2.2.2.2.2.2.2.2.2.2.2.2.2.2.1 x.2.1.2.2.2.2.2.2.2.2.2.2.2.2.2.2.2.2.2.2.2.2.2.2.2.2.2.2.2.1⟩
theorem ok105 : FnOK Tryz.prog 105 F105 := okF [(30, F30), (39, F39b), (161, F161), (162, F162), (163, F163), (164, F164)] [] (fun k => (.join 12 c105_J12 (fun d => j105_12 k d.1.1.1 d.1.1.2.1 d.1.1.2.2.1 d.1.1.2.2.2.1 d.1.1.2.2.2.2.1 d.1.1.2.2.2.2.2.1 d.1.1.2.2.2.2.2.2.1 d.1.1.2.2.2.2.2.2.2.1 d.1.1.2.2.2.2.2.2.2.2.1 d.1.1.2.2.2.2.2.2.2.2.2.1 d.1.1.2.2.2.2.2.2.2.2.2.2.1 d.1.1.2.2.2.2.2.2.2.2.2.2.2.1 d.1.1.2.2.2.2.2.2.2.2.2.2.2.2.1 d.1.1.2.2.2.2.2.2.2.2.2.2.2.2.2.1 d.1.2.1.1 d.1.2.1.2.1 d.1.2.1.2.2.1 d.1.2.1.2.2.2.1 d.1.2.1.2.2.2.2.1 d.1.2.1.2.2.2.2.2.1 d.1.2.1.2.2.2.2.2.2.1 d.1.2.1.2.2.2.2.2.2.2.1 d.1.2.1.2.2.2.2.2.2.2.2.1 d.1.2.1.2.2.2.2.2.2.2.2.2.1 d.1.2.1.2.2.2.2.2.2.2.2.2.2.1 d.1.2.1.2.2.2.2.2.2.2.2.2.2.2.1 d.1.2.1.2.2.2.2.2.2.2.2.2.2.2.2.1 d.1.2.1.2.2.2.2.2.2.2.2.2.2.2.2.2.1 d.1.2.1.2.2.2.2.2.2.2.2.2.2.2.2.2.2.1 d.1.2.1.2.2.2.2.2.2.2.2.2.2.2.2.2.2.2.1 d.1.2.1.2.2.2.2.2.2.2.2.2.2.2.2.2.2.2.2.1 d.1.2.1.2.2.2.2.2.2.2.2.2.2.2.2.2.2.2.2.2.1 d.1.2.1.2.2.2.2.2.2.2.2.2.2.2.2.2.2.2.2.2.2.1 d.1.2.1.2.2.2.2.2.2.2.2.2.2.2.2.2.2.2.2.2.2.2.1 d.1.2.1.2.2.2.2.2.2.2.2.2.2.2.2.2.2.2.2.2.2.2.2.1 d.1.2.1.2.2.2.2.2.2.2.2.2.2.2.2.2.2.2.2.2.2.2.2.2.1 d.1.2.1.2.2.2.2.2.2.2.2.2.2.2.2.2.2.2.2.2.2.2.2.2.2.1 d.1.2.1.2.2.2.2.2.2.2.2.2.2.2.2.2.2.2.2.2.2.2.2.2.2.2.1 d.1.2.1.2.2.2.2.2.2.2.2.2.2.2.2.2.2.2.2.2.2.2.2.2.2.2.2.1 d.1.2.1.2.2.2.2.2.2.2.2.2.2.2.2.2.2.2.2.2.2.2.2.2.2.2.2.2.1 d.1.2.1.2.2.2.2.2.2.2.2.2.2.2.2.2.2.2.2.2.2.2.2.2.2.2.2.2.2.1 d.1.2.1.2.2.2.2.2.2.2.2.2.2.2.2.2.2.2.2.2.2.2.2.2.2.2.2.2.2.2.1) .nil)) ⟨ok30, ok39b, ok161, ok162, ok163, ok164, trivial⟩ Tryz.func105 rfl
def S59 (k : Nat) (a b : Int) (c : List Y1_4) (e : List (PN Int 5)) (f h i : Bool) (l : List Y1_2) (m : List Int) (n : List Bool) (o : List Y1_5) (p : List Int) (s : List Bool) (t : List (PN Int 6)) : Option Y1_23 :=
 (S30 k (a, b, c, e, f, h, i, l, ((m, n), o), p, s)).bind fun q0 =>
 (S104 k l (c.length : Int) q0.1.1).bind fun q1 =>
 (bif h then
  some ((), (a, b, c, e, f, h, i, l, m, n, o, p, s, t, ()), ())
 else
  (bif !q1.1.2.1 then
   some ((), (a, b, c, e, f, h, i, l, m, n, o, p, s, t, ()), ())
  else
   ix l q1.1.1 <|
   (S100a k a b c e f h i l m n o p s t (0, 2, (rd l q1.1.1 (0, 0, 0, 0, (0, prep (α := Int) 8 0, [], false), (0, prep (α := Int) 8 0, [], false), [], false)).1, 0, 0, 0)).bind fun q2 =>
   (bif q2.2.1.2.2.2.2.2.2.1 then
    (S106 k q2.2.1.1 q2.2.1.2.1 q2.2.1.2.2.1 q2.2.1.2.2.2.1 q2.2.1.2.2.2.2.1 q2.2.1.2.2.2.2.2.1 q2.2.1.2.2.2.2.2.2.1 q2.2.1.2.2.2.2.2.2.2.1 q2.2.1.2.2.2.2.2.2.2.2.1 q2.2.1.2.2.2.2.2.2.2.2.2.1 q2.2.1.2.2.2.2.2.2.2.2.2.2.1 q2.2.1.2.2.2.2.2.2.2.2.2.2.2.1 q2.2.1.2.2.2.2.2.2.2.2.2.2.2.2.1 q2.2.1.2.2.2.2.2.2.2.2.2.2.2.2.2.1 (rd l q1.1.1 (0, 0, 0, 0, (0, prep (α := Int) 8 0, [], false), (0, prep (α := Int) 8 0, [], false), [], false)).1 (rd l q1.1.1 (0, 0, 0, 0, (0, prep (α := Int) 8 0, [], false), (0, prep (α := Int) 8 0, [], false), [], false)).2.1 (rd l q1.1.1 (0, 0, 0, 0, (0, prep (α := Int) 8 0, [], false), (0, prep (α := Int) 8 0, [], false), [], false)).2.2.1 (rd l q1.1.1 (0, 0, 0, 0, (0, prep (α := Int) 8 0, [], false), (0, prep (α := Int) 8 0, [], false), [], false)).2.2.2.1 (rd l q1.1.1 (0, 0, 0, 0, (0, prep (α := Int) 8 0, [], false), (0, prep (α := Int) 8 0, [], false), [], false)).2.2.2.2.1.1 (rd l q1.1.1 (0, 0, 0, 0, (0, prep (α := Int) 8 0, [], false), (0, prep (α := Int) 8 0, [], false), [], false)).2.2.2.2.1.2.1.1 (rd l q1.1.1 (0, 0, 0, 0, (0, prep (α := Int) 8 0, [], false), (0, prep (α := Int) 8 0, [], false), [], false)).2.2.2.2.1.2.1.2.1 (rd l q1.1.1 (0, 0, 0, 0, (0, prep (α := Int) 8 0, [], false), (0, prep (α := Int) 8 0, [], false), [], false)).2.2.2.2.1.2.1.2.2.1 (rd l q1.1.1 (0, 0, 0, 0, (0, prep (α := Int) 8 0, [], false), (0, prep (α := Int) 8 0, [], false), [], false)).2.2.2.2.1.2.1.2.2.2.1 (rd l q1.1.1 (0, 0, 0, 0, (0, prep (α := Int) 8 0, [], false), (0, prep (α := Int) 8 0, [], false), [], false)).2.2.2.2.1.2.1.2.2.2.2.1 (rd l q1.1.1 (0, 0, 0, 0, (0, prep (α := Int) 8 0, [], false), (0, prep (α := Int) 8 0, [], false), [], false)).2.2.2.2.1.2.1.2.2.2.2.2.1 (rd l q1.1.1 (0, 0, 0, 0, (0, prep (α := Int) 8 0, [], false), (0, prep (α := Int) 8 0, [], false), [], false)).2.2.2.2.1.2.1.2.2.2.2.2.2.1 (rd l q1.1.1 (0, 0, 0, 0, (0, prep (α := Int) 8 0, [], false), (0, prep (α := Int) 8 0, [], false), [], false)).2.2.2.2.1.2.1.2.2.2.2.2.2.2 (rd l q1.1.1 (0, 0, 0, 0, (0, prep (α := Int) 8 0, [], false), (0, prep (α := Int) 8 0, [], false), [], false)).2.2.2.2.1.2.2.1 (rd l q1.1.1 (0, 0, 0, 0, (0, prep (α := Int) 8 0, [], false), (0, prep (α := Int) 8 0, [], false), [], false)).2.2.2.2.1.2.2.2 (rd l q1.1.1 (0, 0, 0, 0, (0, prep (α := Int) 8 0, [], false), (0, prep (α := Int) 8 0, [], false), [], false)).2.2.2.2.2.1.1 (rd l q1.1.1 (0, 0, 0, 0, (0, prep (α := Int) 8 0, [], false), (0, prep (α := Int) 8 0, [], false), [], false)).2.2.2.2.2.1.2.1.1 (rd l q1.1.1 (0, 0, 0, 0, (0, prep (α := Int) 8 0, [], false), (0, prep (α := Int) 8 0, [], false), [], false)).2.2.2.2.2.1.2.1.2.1 (rd l q1.1.1 (0, 0, 0, 0, (0, prep (α := Int) 8 0, [], false), (0, prep (α := Int) 8 0, [], false), [], false)).2.2.2.2.2.1.2.1.2.2.1 (rd l q1.1.1 (0, 0, 0, 0, (0, prep (α := Int) 8 0, [], false), (0, prep (α := Int) 8 0, [], false), [], false)).2.2.2.2.2.1.2.1.2.2.2.1 (rd l q1.1.1 (0, 0, 0, 0, (0, prep (α := Int) 8 0, [], false), (0, prep (α := Int) 8 0, [], false), [], false)).2.2.2.2.2.1.2.1.2.2.2.2.1 (rd l q1.1.1 (0, 0, 0, 0, (0, prep (α := Int) 8 0, [], false), (0, prep (α := Int) 8 0, [], false), [], false)).2.2.2.2.2.1.2.1.2.2.2.2.2.1 (rd l q1.1.1 (0, 0, 0, 0, (0, prep (α := Int) 8 0, [], false), (0, prep (α := Int) 8 0, [], false), [], false)).2.2.2.2.2.1.2.1.2.2.2.2.2.2.1 (rd l q1.1.1 (0, 0, 0, 0, (0, prep (α := Int) 8 0, [], false), (0, prep (α := Int) 8 0, [], false), [], false)).2.2.2.2.2.1.2.1.2.2.2.2.2.2.2 (rd l q1.1.1 (0, 0, 0, 0, (0, prep (α := Int) 8 0, [], false), (0, prep (α := Int) 8 0, [], false), [], false)).2.2.2.2.2.1.2.2.1 (rd l q1.1.1 (0, 0, 0, 0, (0, prep (α := Int) 8 0, [], false), (0, prep (α := Int) 8 0, [], false), [], false)).2.2.2.2.2.1.2.2.2 (rd l q1.1.1 (0, 0, 0, 0, (0, prep (α := Int) 8 0, [], false), (0, prep (α := Int) 8 0, [], false), [], false)).2.2.2.2.2.2.1 (rd l q1.1.1 (0, 0, 0, 0, (0, prep (α := Int) 8 0, [], false), (0, prep (α := Int) 8 0, [], false), [], false)).2.2.2.2.2.2.2).bind fun q3 =>
    ix q3.2.1.2.2.2.2.2.2.2.1 q1.1.1 <|
    let r4 : List Y1_2 := upd q3.2.1.2.2.2.2.2.2.2.1 q1.1.1 (q3.2.2.1.1, q3.2.2.1.2.1, q3.2.2.1.2.2.1, q3.2.2.1.2.2.2.1, (q3.2.2.1.2.2.2.2.1, (q3.2.2.1.2.2.2.2.2.1, q3.2.2.1.2.2.2.2.2.2.1, q3.2.2.1.2.2.2.2.2.2.2.1, q3.2.2.1.2.2.2.2.2.2.2.2.1, q3.2.2.1.2.2.2.2.2.2.2.2.2.1, q3.2.2.1.2.2.2.2.2.2.2.2.2.2.1, q3.2.2.1.2.2.2.2.2.2.2.2.2.2.2.1, q3.2.2.1.2.2.2.2.2.2.2.2.2.2.2.2.1), q3.2.2.1.2.2.2.2.2.2.2.2.2.2.2.2.2.1, q3.2.2.1.2.2.2.2.2.2.2.2.2.2.2.2.2.2.1), (q3.2.2.1.2.2.2.2.2.2.2.2.2.2.2.2.2.2.2.1, (q3.2.2.1.2.2.2.2.2.2.2.2.2.2.2.2.2.2.2.2.1, q3.2.2.1.2.2.2.2.2.2.2.2.2.2.2.2.2.2.2.2.2.1, q3.2.2.1.2.2.2.2.2.2.2.2.2.2.2.2.2.2.2.2.2.2.1, q3.2.2.1.2.2.2.2.2.2.2.2.2.2.2.2.2.2.2.2.2.2.2.1, q3.2.2.1.2.2.2.2.2.2.2.2.2.2.2.2.2.2.2.2.2.2.2.2.1, q3.2.2.1.2.2.2.2.2.2.2.2.2.2.2.2.2.2.2.2.2.2.2.2.2.1, q3.2.2.1.2.2.2.2.2.2.2.2.2.2.2.2.2.2.2.2.2.2.2.2.2.2.1, q3.2.2.1.2.2.2.2.2.2.2.2.2.2.2.2.2.2.2.2.2.2.2.2.2.2.2.1), q3.2.2.1.2.2.2.2.2.2.2.2.2.2.2.2.2.2.2.2.2.2.2.2.2.2.2.2.1, q3.2.2.1.2.2.2.2.2.2.2.2.2.2.2.2.2.2.2.2.2.2.2.2.2.2.2.2.2.1), q3.2.2.1.2.2.2.2.2.2.2.2.2.2.2.2.2.2.2.2.2.2.2.2.2.2.2.2.2.2.1, q3.2.2.1.2.2.2.2.2.2.2.2.2.2.2.2.2.2.2.2.2.2.2.2.2.2.2.2.2.2.2.1)
    (bif q3.1.1 then
     (S50 k r4 q1.1.1 (IntKind.i64.wrap (q1.1.1 + 1))).bind fun q5 =>
     some ((), (q3.2.1.1, q3.2.1.2.1, q3.2.1.2.2.1, q3.2.1.2.2.2.1, q3.2.1.2.2.2.2.1, q3.2.1.2.2.2.2.2.1, q3.2.1.2.2.2.2.2.2.1, q5.1.1, q3.2.1.2.2.2.2.2.2.2.2.1, q3.2.1.2.2.2.2.2.2.2.2.2.1, q3.2.1.2.2.2.2.2.2.2.2.2.2.1, q3.2.1.2.2.2.2.2.2.2.2.2.2.2.1, q3.2.1.2.2.2.2.2.2.2.2.2.2.2.2.1, q3.2.1.2.2.2.2.2.2.2.2.2.2.2.2.2.1, ()), ())
    else
     some ((), (q3.2.1.1, q3.2.1.2.1, q3.2.1.2.2.1, q3.2.1.2.2.2.1, q3.2.1.2.2.2.2.1, q3.2.1.2.2.2.2.2.1, q3.2.1.2.2.2.2.2.2.1, r4, q3.2.1.2.2.2.2.2.2.2.2.1, q3.2.1.2.2.2.2.2.2.2.2.2.1, q3.2.1.2.2.2.2.2.2.2.2.2.2.1, q3.2.1.2.2.2.2.2.2.2.2.2.2.2.1, q3.2.1.2.2.2.2.2.2.2.2.2.2.2.2.1, q3.2.1.2.2.2.2.2.2.2.2.2.2.2.2.2.1, ()), ()))
   else
    (S105 k q2.2.1.1 q2.2.1.2.1 q2.2.1.2.2.1 q2.2.1.2.2.2.1 q2.2.1.2.2.2.2.1 q2.2.1.2.2.2.2.2.1 q2.2.1.2.2.2.2.2.2.1 q2.2.1.2.2.2.2.2.2.2.1 q2.2.1.2.2.2.2.2.2.2.2.1 q2.2.1.2.2.2.2.2.2.2.2.2.1 q2.2.1.2.2.2.2.2.2.2.2.2.2.1 q2.2.1.2.2.2.2.2.2.2.2.2.2.2.1 q2.2.1.2.2.2.2.2.2.2.2.2.2.2.2.1 q2.2.1.2.2.2.2.2.2.2.2.2.2.2.2.2.1 (rd l q1.1.1 (0, 0, 0, 0, (0, prep (α := Int) 8 0, [], false), (0, prep (α := Int) 8 0, [], false), [], false)).1 (rd l q1.1.1 (0, 0, 0, 0, (0, prep (α := Int) 8 0, [], false), (0, prep (α := Int) 8 0, [], false), [], false)).2.1 (rd l q1.1.1 (0, 0, 0, 0, (0, prep (α := Int) 8 0, [], false), (0, prep (α := Int) 8 0, [], false), [], false)).2.2.1 (rd l q1.1.1 (0, 0, 0, 0, (0, prep (α := Int) 8 0, [], false), (0, prep (α := Int) 8 0, [], false), [], false)).2.2.2.1 (rd l q1.1.1 (0, 0, 0, 0, (0, prep (α := Int) 8 0, [], false), (0, prep (α := Int) 8 0, [], false), [], false)).2.2.2.2.1.1 (rd l q1.1.1 (0, 0, 0, 0, (0, prep (α := Int) 8 0, [], false), (0, prep (α := Int) 8 0, [], false), [], false)).2.2.2.2.1.2.1.1 (rd l q1.1.1 (0, 0, 0, 0, (0, prep (α := Int) 8 0, [], false), (0, prep (α := Int) 8 0, [], false), [], false)).2.2.2.2.1.2.1.2.1 (rd l q1.1.1 (0, 0, 0, 0, (0, prep (α := Int) 8 0, [], false), (0, prep (α := Int) 8 0, [], false), [], false)).2.2.2.2.1.2.1.2.2.1 (rd l q1.1.1 (0, 0, 0, 0, (0, prep (α := Int) 8 0, [], false), (0, prep (α := Int) 8 0, [], false), [], false)).2.2.2.2.1.2.1.2.2.2.1 (rd l q1.1.1 (0, 0, 0, 0, (0, prep (α := Int) 8 0, [], false), (0, prep (α := Int) 8 0, [], false), [], false)).2.2.2.2.1.2.1.2.2.2.2.1 (rd l q1.1.1 (0, 0, 0, 0, (0, prep (α := Int) 8 0, [], false), (0, prep (α := Int) 8 0, [], false), [], false)).2.2.2.2.1.2.1.2.2.2.2.2.1 (rd l q1.1.1 (0, 0, 0, 0, (0, prep (α := Int) 8 0, [], false), (0, prep (α := Int) 8 0, [], false), [], false)).2.2.2.2.1.2.1.2.2.2.2.2.2.1 (rd l q1.1.1 (0, 0, 0, 0, (0, prep (α := Int) 8 0, [], false), (0, prep (α := Int) 8 0, [], false), [], false)).2.2.2.2.1.2.1.2.2.2.2.2.2.2 (rd l q1.1.1 (0, 0, 0, 0, (0, prep (α := Int) 8 0, [], false), (0, prep (α := Int) 8 0, [], false), [], false)).2.2.2.2.1.2.2.1 (rd l q1.1.1 (0, 0, 0, 0, (0, prep (α := Int) 8 0, [], false), (0, prep (α := Int) 8 0, [], false), [], false)).2.2.2.2.1.2.2.2 (rd l q1.1.1 (0, 0, 0, 0, (0, prep (α := Int) 8 0, [], false), (0, prep (α := Int) 8 0, [], false), [], false)).2.2.2.2.2.1.1 (rd l q1.1.1 (0, 0, 0, 0, (0, prep (α := Int) 8 0, [], false), (0, prep (α := Int) 8 0, [], false), [], false)).2.2.2.2.2.1.2.1.1 (rd l q1.1.1 (0, 0, 0, 0, (0, prep (α := Int) 8 0, [], false), (0, prep (α := Int) 8 0, [], false), [], false)).2.2.2.2.2.1.2.1.2.1 (rd l q1.1.1 (0, 0, 0, 0, (0, prep (α := Int) 8 0, [], false), (0, prep (α := Int) 8 0, [], false), [], false)).2.2.2.2.2.1.2.1.2.2.1 (rd l q1.1.1 (0, 0, 0, 0, (0, prep (α := Int) 8 0, [], false), (0, prep (α := Int) 8 0, [], false), [], false)).2.2.2.2.2.1.2.1.2.2.2.1 (rd l q1.1.1 (0, 0, 0, 0, (0, prep (α := Int) 8 0, [], false), (0, prep (α := Int) 8 0, [], false), [], false)).2.2.2.2.2.1.2.1.2.2.2.2.1 (rd l q1.1.1 (0, 0, 0, 0, (0, prep (α := Int) 8 0, [], false), (0, prep (α := Int) 8 0, [], false), [], false)).2.2.2.2.2.1.2.1.2.2.2.2.2.1 (rd l q1.1.1 (0, 0, 0, 0, (0, prep (α := Int) 8 0, [], false), (0, prep (α := Int) 8 0, [], false), [], false)).2.2.2.2.2.1.2.1.2.2.2.2.2.2.1 (rd l q1.1.1 (0, 0, 0, 0, (0, prep (α := Int) 8 0, [], false), (0, prep (α := Int) 8 0, [], false), [], false)).2.2.2.2.2.1.2.1.2.2.2.2.2.2.2 (rd l q1.1.1 (0, 0, 0, 0, (0, prep (α := Int) 8 0, [], false), (0, prep (α := Int) 8 0, [], false), [], false)).2.2.2.2.2.1.2.2.1 (rd l q1.1.1 (0, 0, 0, 0, (0, prep (α := Int) 8 0, [], false), (0, prep (α := Int) 8 0, [], false), [], false)).2.2.2.2.2.1.2.2.2 (rd l q1.1.1 (0, 0, 0, 0, (0, prep (α := Int) 8 0, [], false), (0, prep (α := Int) 8 0, [], false), [], false)).2.2.2.2.2.2.1 (rd l q1.1.1 (0, 0, 0, 0, (0, prep (α := Int) 8 0, [], false), (0, prep (α := Int) 8 0, [], false), [], false)).2.2.2.2.2.2.2).bind fun q6 =>
    ix q6.2.1.2.2.2.2.2.2.2.1 q1.1.1 <|
    let r7 : List Y1_2 := upd q6.2.1.2.2.2.2.2.2.2.1 q1.1.1 (q6.2.2.1.1, q6.2.2.1.2.1, q6.2.2.1.2.2.1, q6.2.2.1.2.2.2.1, (q6.2.2.1.2.2.2.2.1, (q6.2.2.1.2.2.2.2.2.1, q6.2.2.1.2.2.2.2.2.2.1, q6.2.2.1.2.2.2.2.2.2.2.1, q6.2.2.1.2.2.2.2.2.2.2.2.1, q6.2.2.1.2.2.2.2.2.2.2.2.2.1, q6.2.2.1.2.2.2.2.2.2.2.2.2.2.1, q6.2.2.1.2.2.2.2.2.2.2.2.2.2.2.1, q6.2.2.1.2.2.2.2.2.2.2.2.2.2.2.2.1), q6.2.2.1.2.2.2.2.2.2.2.2.2.2.2.2.2.1, q6.2.2.1.2.2.2.2.2.2.2.2.2.2.2.2.2.2.1), (q6.2.2.1.2.2.2.2.2.2.2.2.2.2.2.2.2.2.2.1, (q6.2.2.1.2.2.2.2.2.2.2.2.2.2.2.2.2.2.2.2.1, q6.2.2.1.2.2.2.2.2.2.2.2.2.2.2.2.2.2.2.2.2.1, q6.2.2.1.2.2.2.2.2.2.2.2.2.2.2.2.2.2.2.2.2.2.1, q6.2.2.1.2.2.2.2.2.2.2.2.2.2.2.2.2.2.2.2.2.2.2.1, q6.2.2.1.2.2.2.2.2.2.2.2.2.2.2.2.2.2.2.2.2.2.2.2.1, q6.2.2.1.2.2.2.2.2.2.2.2.2.2.2.2.2.2.2.2.2.2.2.2.2.1, q6.2.2.1.2.2.2.2.2.2.2.2.2.2.2.2.2.2.2.2.2.2.2.2.2.2.1, q6.2.2.1.2.2.2.2.2.2.2.2.2.2.2.2.2.2.2.2.2.2.2.2.2.2.2.1), q6.2.2.1.2.2.2.2.2.2.2.2.2.2.2.2.2.2.2.2.2.2.2.2.2.2.2.2.1, q6.2.2.1.2.2.2.2.2.2.2.2.2.2.2.2.2.2.2.2.2.2.2.2.2.2.2.2.2.1), q6.2.2.1.2.2.2.2.2.2.2.2.2.2.2.2.2.2.2.2.2.2.2.2.2.2.2.2.2.2.1, q6.2.2.1.2.2.2.2.2.2.2.2.2.2.2.2.2.2.2.2.2.2.2.2.2.2.2.2.2.2.2.1)
    (bif q6.1.1 then
     (S50 k r7 q1.1.1 (IntKind.i64.wrap (q1.1.1 + 1))).bind fun q8 =>
     some ((), (q6.2.1.1, q6.2.1.2.1, q6.2.1.2.2.1, q6.2.1.2.2.2.1, q6.2.1.2.2.2.2.1, q6.2.1.2.2.2.2.2.1, q6.2.1.2.2.2.2.2.2.1, q8.1.1, q6.2.1.2.2.2.2.2.2.2.2.1, q6.2.1.2.2.2.2.2.2.2.2.2.1, q6.2.1.2.2.2.2.2.2.2.2.2.2.1, q6.2.1.2.2.2.2.2.2.2.2.2.2.2.1, q6.2.1.2.2.2.2.2.2.2.2.2.2.2.2.1, q6.2.1.2.2.2.2.2.2.2.2.2.2.2.2.2.1, ()), ())
    else
     some ((), (q6.2.1.1, q6.2.1.2.1, q6.2.1.2.2.1, q6.2.1.2.2.2.1, q6.2.1.2.2.2.2.1, q6.2.1.2.2.2.2.2.1, q6.2.1.2.2.2.2.2.2.1, r7, q6.2.1.2.2.2.2.2.2.2.2.1, q6.2.1.2.2.2.2.2.2.2.2.2.1, q6.2.1.2.2.2.2.2.2.2.2.2.2.1, q6.2.1.2.2.2.2.2.2.2.2.2.2.2.1, q6.2.1.2.2.2.2.2.2.2.2.2.2.2.2.1, q6.2.1.2.2.2.2.2.2.2.2.2.2.2.2.2.1, ()), ())))))
def F59 : Fn := ⟨[.mbox 150 [cI, cI, .own 77 Y1_3, .own 96 Y1_29, .cell .bool, .cell .bool, .cell .bool, .own 94 Y1_1, .own 3 (.int .i64), .own 4 .bool, .own 124 Y1_6, .own 3 (.int .i64), .own 4 .bool, .own 82 Y1_30]], [], fun k x => S59 k x.1.1 x.1.2.1 x.1.2.2.1 x.1.2.2.2.1 x.1.2.2.2.2.1 x.1.2.2.2.2.2.1 x.1.2.2.2.2.2.2.1 x.1.2.2.2.2.2.2.2.1 x.1.2.2.2.2.2.2.2.2.1 x.1.2.2.2.2.2.2.2.2.2.1 x.1.2.2.2.2.2.2.2.2.2.2.1 x.1.2.2.2.2.2.2.2.2.2.2.2.1 x.1.2.2.2.2.2.2.2.2.2.2.2.2.1 x.1.2.2.2.2.2.2.2.2.2.2.2.2.2.1⟩
theorem ok59 : FnOK Tryz.prog 59 F59 := okF [(30, F30), (50, F50), (100, F100a), (104, F104), (105, F105), (106, F106)] [] (fun k => .nil) ⟨ok30, ok50, ok100a, ok104, ok105, ok106, trivial⟩ Tryz.func59 rfl
def S23 (k : Nat) (a : Int × Int × (List Y1_4) × (List (PN Int 5)) × Bool × Bool × Bool × (List Y1_2) × (((List Int) × List Bool) × List Y1_5) × (List Int) × List Bool) : Option (((Int × Int × (List Y1_4) × (List (PN Int 5)) × Bool × Bool × Bool × (List Y1_2) × (((List Int) × List Bool) × List Y1_5) × (List Int) × List Bool) × (List (PN Int 6)) × Unit) × Unit) :=
 (S34 k a).bind fun q0 =>
 (bif q0.1.1.2.2.2.2.1 then
  (bif !q0.1.1.2.2.2.2.2.1 then
   (S56 k q0.1.1.1 q0.1.1.2.1 q0.1.1.2.2.1 q0.1.1.2.2.2.1 q0.1.1.2.2.2.2.1 q0.1.1.2.2.2.2.2.1 q0.1.1.2.2.2.2.2.2.1 q0.1.1.2.2.2.2.2.2.2.1 q0.1.1.2.2.2.2.2.2.2.2.1.1.1 q0.1.1.2.2.2.2.2.2.2.2.1.1.2 q0.1.1.2.2.2.2.2.2.2.2.1.2 q0.1.1.2.2.2.2.2.2.2.2.2.1 q0.1.1.2.2.2.2.2.2.2.2.2.2 ([] : List (PN Int 6))).bind fun q1 =>
   (S57 k q1.2.1.1 q1.2.1.2.1 q1.2.1.2.2.1 q1.2.1.2.2.2.1 q1.2.1.2.2.2.2.1 q1.2.1.2.2.2.2.2.1 q1.2.1.2.2.2.2.2.2.1 q1.2.1.2.2.2.2.2.2.2.1 q1.2.1.2.2.2.2.2.2.2.2.1 q1.2.1.2.2.2.2.2.2.2.2.2.1 q1.2.1.2.2.2.2.2.2.2.2.2.2.1 q1.2.1.2.2.2.2.2.2.2.2.2.2.2.1 q1.2.1.2.2.2.2.2.2.2.2.2.2.2.2.1 q1.2.1.2.2.2.2.2.2.2.2.2.2.2.2.2.1).bind fun q2 =>
   (S58 k q2.2.1.1 q2.2.1.2.1 q2.2.1.2.2.1 q2.2.1.2.2.2.1 q2.2.1.2.2.2.2.1 q2.2.1.2.2.2.2.2.1 q2.2.1.2.2.2.2.2.2.1 q2.2.1.2.2.2.2.2.2.2.1 q2.2.1.2.2.2.2.2.2.2.2.1 q2.2.1.2.2.2.2.2.2.2.2.2.1 q2.2.1.2.2.2.2.2.2.2.2.2.2.1 q2.2.1.2.2.2.2.2.2.2.2.2.2.2.1 q2.2.1.2.2.2.2.2.2.2.2.2.2.2.2.1 q2.2.1.2.2.2.2.2.2.2.2.2.2.2.2.2.1).bind fun q3 =>
   (S59 k q3.2.1.1 q3.2.1.2.1 q3.2.1.2.2.1 q3.2.1.2.2.2.1 q3.2.1.2.2.2.2.1 q3.2.1.2.2.2.2.2.1 q3.2.1.2.2.2.2.2.2.1 q3.2.1.2.2.2.2.2.2.2.1 q3.2.1.2.2.2.2.2.2.2.2.1 q3.2.1.2.2.2.2.2.2.2.2.2.1 q3.2.1.2.2.2.2.2.2.2.2.2.2.1 q3.2.1.2.2.2.2.2.2.2.2.2.2.2.1 q3.2.1.2.2.2.2.2.2.2.2.2.2.2.2.1 q3.2.1.2.2.2.2.2.2.2.2.2.2.2.2.2.1).bind fun q4 =>
   some (((IntKind.i64.wrap (q4.2.1.1 + 1), q4.2.1.2.1, q4.2.1.2.2.1, q4.2.1.2.2.2.1, q4.2.1.2.2.2.2.1, q4.2.1.2.2.2.2.2.1, false, q4.2.1.2.2.2.2.2.2.2.1, ((q4.2.1.2.2.2.2.2.2.2.2.1, q4.2.1.2.2.2.2.2.2.2.2.2.1), q4.2.1.2.2.2.2.2.2.2.2.2.2.1), q4.2.1.2.2.2.2.2.2.2.2.2.2.2.1, q4.2.1.2.2.2.2.2.2.2.2.2.2.2.2.1), q4.2.1.2.2.2.2.2.2.2.2.2.2.2.2.2.1, ()), ())
  else
   some (((IntKind.i64.wrap (q0.1.1.1 + 1), q0.1.1.2.1, q0.1.1.2.2.1, q0.1.1.2.2.2.1, q0.1.1.2.2.2.2.1, q0.1.1.2.2.2.2.2.1, false, q0.1.1.2.2.2.2.2.2.2), ([] : List (PN Int 6)), ()), ()))
 else
  some (((IntKind.i64.wrap (q0.1.1.1 + 1), q0.1.1.2.1, q0.1.1.2.2.1, q0.1.1.2.2.2.1, q0.1.1.2.2.2.2.1, q0.1.1.2.2.2.2.2.1, false, q0.1.1.2.2.2.2.2.2.2), ([] : List (PN Int 6)), ()), ()))
def F23 : Fn := ⟨[.val ⟨true, Y1_25, false⟩], [.val ⟨true, Y1_25, true⟩, .val ⟨false, (.sl 82 Y1_30), true⟩], fun k x => S23 k x.1⟩
theorem ok23 : FnOK Tryz.prog 23 F23 := okF [(34, F34), (56, F56), (57, F57), (58, F58), (59, F59)] [(8, 2)] (fun k => .nil) ⟨ok34, ok56, ok57, ok58, ok59, trivial⟩ Tryz.func23 rfl
def S9 (k : Nat) : Option Y1_24 :=
 (S25 k 50).bind fun q0 =>
 (S28 k [] (1, 20, 20, ([(0, 0, 0, 0)] : List Y1_8), [], []) 50).bind fun q1 =>
 (S12 k (q0.1.1.1, q0.1.1.2.1, q1.1.1, q1.1.2.1, q0.1.1.2.2.2.2)).bind fun q2 =>
 mk 1 1 8 <|
 mk 1 1 1 <|
 (S20 k (q2.1.1.1, q2.1.1.2.1, q2.1.1.2.2.1, q2.1.1.2.2.2.1, q2.1.1.2.2.2.2.1, q2.1.1.2.2.2.2.2.1, q2.1.1.2.2.2.2.2.2.1, q2.1.1.2.2.2.2.2.2.2.1, q2.1.1.2.2.2.2.2.2.2.2.1, List.replicate 1 (0 : Int), List.replicate 1 (false : Bool)) 0 7).bind fun q3 =>
 (S23 k q3.1.1).bind fun q4 =>
 (S25 k 0).bind fun q5 =>
 (bif q0.1.2.1 then
  (bif q1.1.2.2.1 == 0 then
   (bif q2.1.2.1 == 0 then
    (bif q3.1.2.2.1 == 0 then
     (bif (q3.1.2.1.length : Int) == 1 then
      (bif (q3.1.1.2.2.2.2.2.2.2.1.length : Int) == 1 then
       (bif q4.1.1.1 == 1 then
        (bif (q4.1.1.2.2.2.2.2.2.2.1.length : Int) == 0 then
         (bif (q4.1.2.1.length : Int) == 2 then
          ix q4.1.2.1 1 <|
          (bif beqD Y1_30 (rd q4.1.2.1 1 (prep (α := Int) 6 0)) (0, 3, 0, 0, 7, 0) then
           (bif !q5.1.2.1 then
            (S30 k q4.1.1).bind fun q6 =>
            some (((q6.1.1.length : Int) == 0, ()), ())
           else
            some ((false, ()), ()))
          else
           some ((false, ()), ()))
         else
          some ((false, ()), ()))
        else
         some ((false, ()), ()))
       else
        some ((false, ()), ()))
      else
       some ((false, ()), ()))
     else
      some ((false, ()), ()))
    else
     some ((false, ()), ()))
   else
    some ((false, ()), ()))
  else
   some ((false, ()), ()))
 else
  some ((false, ()), ()))
def F9 : Fn := ⟨[], [.val ⟨false, .bool, true⟩], fun k x => S9 k ⟩
theorem ok9 : FnOK Tryz.prog 9 F9 := okF [(12, F12), (20, F20), (23, F23), (25, F25), (28, F28), (30, F30)] [] (fun k => .nil) ⟨ok12, ok20, ok23, ok25, ok28, ok30, trivial⟩ Tryz.func9 rfl
def S17 (k : Nat) (a : List Int) : Option ((Y1_28 × Unit) × Unit) :=
 some (((a, 0, ()), ()), ())
def F17 : Fn := ⟨[.val ⟨false, Y1_42, false⟩], [.pv (.box 140 [.cell Y1_42, cI])], fun k x => S17 k x.1⟩
theorem ok17 : FnOK Tryz.prog 17 F17 := okF [] [] (fun k => .nil) trivial Tryz.func17 rfl
def S19 (k : Nat) (a : List Int) (b c : Int) : Option ((Int × Unit) × Y1_28 × Unit) :=
 (bif decide (b ≥ (a.length : Int)) then
  some ((0, ()), (a, b, ()), ())
 else
  ix a (IntKind.i64.wrap ((IntKind.i64.wrap (b + 1)) - 1)) <|
  nz c <|
  some ((Int.tmod (IntKind.i64.wrap (rd a (IntKind.i64.wrap ((IntKind.i64.wrap (b + 1)) - 1)) 0)) c, ()), (a, IntKind.i64.wrap (b + 1), ()), ()))
def F19 : Fn := ⟨[.mbox 140 [.cell Y1_42, cI], .val ⟨false, (.int .i64), false⟩], [.val ⟨false, (.int .i64), true⟩], fun k x => S19 k x.1.1 x.1.2.1 x.2.1⟩
theorem ok19 : FnOK Tryz.prog 19 F19 := okF [] [] (fun k => .nil) trivial Tryz.func19 rfl
def S171 (k : Nat) (a : List Int) (b : Int) : Option ((Y1_8 × Unit) × Y1_28 × Unit) :=
 (S19 k a b 3).bind fun q0 =>
 (S19 k q0.2.1.1 q0.2.1.2.1 3).bind fun q1 =>
 (S19 k q1.2.1.1 q1.2.1.2.1 6).bind fun q2 =>
 (bif q2.1.1 == 0 then
  (S19 k q2.2.1.1 q2.2.1.2.1 9).bind fun q3 =>
  some (((1, q0.1.1, 0, IntKind.i64.wrap (q3.1.1 - 4)), ()), q3.2.1, ())
 else
  (bif q2.1.1 == 1 then
   some (((2, q0.1.1, q1.1.1, 0), ()), q2.2.1, ())
  else
   (bif q2.1.1 == 2 then
    some (((3, q0.1.1, q1.1.1, 0), ()), q2.2.1, ())
   else
    (bif q2.1.1 == 3 then
     some (((4, q0.1.1, q1.1.1, 0), ()), q2.2.1, ())
    else
     (bif q2.1.1 == 4 then
      (S19 k q2.2.1.1 q2.2.1.2.1 7).bind fun q4 =>
      some (((5, q0.1.1, 0, IntKind.i64.wrap (q4.1.1 - 3)), ()), q4.2.1, ())
     else
      (S19 k q2.2.1.1 q2.2.1.2.1 64).bind fun q5 =>
      some (((6, q0.1.1, 0, IntKind.i64.wrap (1 + q5.1.1)), ()), q5.2.1, ()))))))
def F171 : Fn := ⟨[.mbox 140 [.cell Y1_42, cI]], [.val ⟨true, Y1_18, true⟩], fun k x => S171 k x.1.1 x.1.2.1⟩
theorem ok171 : FnOK Tryz.prog 171 F171 := okF [(19, F19)] [] (fun k => .nil) ⟨ok19, trivial⟩ Tryz.func171 rfl
abbrev c120_L3 : Cut := ⟨[0, 2, 7, 8], [.pin false 0, cI, .own 87 Y1_18, cI], [.mbox 140 [.cell Y1_42, cI]], 47, []⟩
def l120_3 (k : Nat) (g3 : Y1_31) (a : List Int) (b c : Int) (e : List Y1_8) (f : Int) : Option Y1_13 :=
 (bif decide (f > 0) then
  (bif decide (c > 0) then
   (S19 k a b 4).bind fun q1 =>
   (bif q1.1.1 == 0 then
    (S19 k q1.2.1.1 q1.2.1.2.1 c).bind fun q2 =>
    ap e ([(9, q2.1.1, 0, 0)] : List Y1_8) 32 fun r3 =>
    (S171 k q2.2.1.1 q2.2.1.2.1).bind fun q4 =>
    ap r3 ([q4.1.1] : List Y1_8) 32 fun r5 =>
    ap r5 ([(10, q2.1.1, 0, 0)] : List Y1_8) 32 fun r6 =>
    g3 q4.2.1.1 q4.2.1.2.1 c r6 (IntKind.i64.wrap (f - 1))
   else
    (S171 k q1.2.1.1 q1.2.1.2.1).bind fun q7 =>
    ap e ([q7.1.1] : List Y1_8) 32 fun r8 =>
    g3 q7.2.1.1 q7.2.1.2.1 c r8 (IntKind.i64.wrap (f - 1)))
  else
   (S171 k a b).bind fun q9 =>
   ap e ([q9.1.1] : List Y1_8) 32 fun r10 =>
   g3 q9.2.1.1 q9.2.1.2.1 c r10 (IntKind.i64.wrap (f - 1)))
 else
  some ((e, ()), (a, b, ()), ()))
def b120_3 (k : Nat) (g : ((Y1_28 × Unit) × Unit × Int × (List Y1_8) × Int × Unit) → Option Y1_13) (d : (Y1_28 × Unit) × Unit × Int × (List Y1_8) × Int × Unit) : Option Y1_13 := l120_3 k (fun a b c e f => g (((a, b, ()), ()), (), c, e, f, ())) d.1.1.1 d.1.1.2.1 d.2.2.1 d.2.2.2.1 d.2.2.2.2.1
def L120_3 (k a : Nat) (b : List Int) (c e : Int) (f : List Y1_8) (h : Int) : Option Y1_13 := iter (R := ((List Y1_8) × Unit) × Y1_28 × Unit) c120_L3 (b120_3 k) a (((b, c, ()), ()), (), e, f, h, ())
theorem L120_3_s (k a b c e f h) : L120_3 k (a + 1) b c e f h = l120_3 k (L120_3 k a) b c e f h := iter_succ _ _ _ _
def S120 (k : Nat) (a : List Int) (b c e : Int) : Option Y1_13 :=
 (S19 k a b c).bind fun q0 =>
 L120_3 k k q0.2.1.1 q0.2.1.2.1 e ([] : List Y1_8) (IntKind.i64.wrap (q0.1.1 + 1))
def F120 : Fn := ⟨[.mbox 140 [.cell Y1_42, cI], .val ⟨false, (.int .i64), false⟩, .val ⟨false, (.int .i64), false⟩], [.val ⟨false, Y1_41, true⟩], fun k x => S120 k x.1.1 x.1.2.1 x.2.1 x.2.2.1⟩
theorem ok120 : FnOK Tryz.prog 120 F120 := okF [(19, F19), (171, F171)] [(7, 2)] (fun k => (.loop 3 c120_L3 (b120_3 k) (fun g => .nil) .nil)) ⟨ok19, ok171, trivial⟩ Tryz.func120 rfl
abbrev c67_J16 : Cut := ⟨[0, 1, 5, 6, 7], [.pin false 0, cI, .own 87 Y1_18, cI, .own 87 Y1_18], [.mbox 140 [.cell Y1_42, cI]], 66, []⟩
def j67_16 (k : Nat) (g3 : Y1_31) (a : List Int) (b c : Int) (e : List Y1_8) (f : Int) (x : List Y1_8) : Option Y1_13 :=
 (bif decide ((IntKind.i64.wrap ((e.length : Int) + (x.length : Int))) < 23) then
  ap e x 32 fun r9 =>
  g3 a b c r9 (IntKind.i64.wrap (f - 1))
 else
  g3 a b c e (IntKind.i64.wrap (f - 1)))
abbrev c67_L3 : Cut := ⟨[0, 1, 5, 6], [.pin false 0, cI, .own 87 Y1_18, cI], [.mbox 140 [.cell Y1_42, cI]], 66, []⟩
def l67_3 (k : Nat) (g3 : Y1_31) (a : List Int) (b c : Int) (e : List Y1_8) (f : Int) : Option Y1_13 :=
 (bif decide (f > 0) then
  (S19 k a b 5).bind fun q1 =>
  (bif q1.1.1 == 0 then
   (S120 k q1.2.1.1 q1.2.1.2.1 2 c).bind fun q2 =>
   (S19 k q2.2.1.1 q2.2.1.2.1 3).bind fun q3 =>
   ap ([(8, 0, (q2.1.1.length : Int), IntKind.i64.wrap (1 + q3.1.1))] : List Y1_8) q2.1.1 32 fun r4 =>
   j67_16 k g3 q3.2.1.1 q3.2.1.2.1 c e f r4
  else
   (bif q1.1.1 == 1 then
    (S120 k q1.2.1.1 q1.2.1.2.1 2 c).bind fun q5 =>
    (S19 k q5.2.1.1 q5.2.1.2.1 3).bind fun q6 =>
    ap ([(7, q6.1.1, 0, (q5.1.1.length : Int))] : List Y1_8) q5.1.1 32 fun r7 =>
    j67_16 k g3 q6.2.1.1 q6.2.1.2.1 c e f r7
   else
    (bif q1.1.1 == 2 then
     j67_16 k g3 q1.2.1.1 q1.2.1.2.1 c e f ([(11, 0, 0, 0)] : List Y1_8)
    else
     (S120 k q1.2.1.1 q1.2.1.2.1 2 c).bind fun q8 =>
     j67_16 k g3 q8.2.1.1 q8.2.1.2.1 c e f q8.1.1)))
 else
  ap e ([(0, 0, 0, 0)] : List Y1_8) 32 fun r10 =>
  some ((r10, ()), (a, b, ()), ()))
def b67_3 (k : Nat) (g : ((Y1_28 × Unit) × Unit × Int × (List Y1_8) × Int × Unit) → Option Y1_13) (d : (Y1_28 × Unit) × Unit × Int × (List Y1_8) × Int × Unit) : Option Y1_13 := l67_3 k (fun a b c e f => g (((a, b, ()), ()), (), c, e, f, ())) d.1.1.1 d.1.1.2.1 d.2.2.1 d.2.2.2.1 d.2.2.2.2.1
def L67_3 (k a : Nat) (b : List Int) (c e : Int) (f : List Y1_8) (h : Int) : Option Y1_13 := iter (R := ((List Y1_8) × Unit) × Y1_28 × Unit) c67_L3 (b67_3 k) a (((b, c, ()), ()), (), e, f, h, ())
theorem L67_3_s (k a b c e f h) : L67_3 k (a + 1) b c e f h = l67_3 k (L67_3 k a) b c e f h := iter_succ _ _ _ _
def S67 (k : Nat) (a : List Int) (b c : Int) : Option Y1_13 :=
 (S19 k a b 4).bind fun q0 =>
 L67_3 k k q0.2.1.1 q0.2.1.2.1 c ([] : List Y1_8) (IntKind.i64.wrap (q0.1.1 + 1))
def F67 : Fn := ⟨[.mbox 140 [.cell Y1_42, cI], .val ⟨false, (.int .i64), false⟩], [.val ⟨false, Y1_41, true⟩], fun k x => S67 k x.1.1 x.1.2.1 x.2.1⟩
theorem ok67 : FnOK Tryz.prog 67 F67 := okF [(19, F19), (120, F120)] [(5, 2)] (fun k => (.loop 3 c67_L3 (b67_3 k) (fun g => (fun (g3 : Y1_31) => (.join 16 c67_J16 (fun d => j67_16 k g3 d.1.1.1 d.1.1.2.1 d.2.2.1 d.2.2.2.1 d.2.2.2.2.1 d.2.2.2.2.2.1) .nil)) (fun p2 p3 locks1 l_ i => g (((p2, p3, ()), ()), (), locks1, l_, i, ()))) .nil)) ⟨ok19, ok120, trivial⟩ Tryz.func67 rfl
abbrev c27_J6 : Cut := ⟨[0, 6, 7], [.pin false 0, .box 77 [cI, cI, cI, .nil, .nil, .nil], .box 77 [cI, cI, cI, .own 87 Y1_18, .cell Y1_41, .own 87 Y1_18]], [.mbox 140 [.cell Y1_42, cI]], 41, []⟩
def j27_6 (k : Nat) (a : List Int) (b c e f h i l : Int) (m n o : List Y1_8) : Option ((Y1_4 × Unit) × Y1_28 × Unit) :=
 (S19 k a b 3).bind fun q5 =>
 (bif q5.1.1 == 0 then
  (S67 k q5.2.1.1 q5.2.1.2.1 0).bind fun q6 =>
  some (((h, i, l, m, n, q6.1.1), ()), q6.2.1, ())
 else
  some (((h, i, l, m, n, o), ()), q5.2.1, ()))
def S27 (k : Nat) (a : List Int) (b c e : Int) : Option ((Y1_4 × Unit) × Y1_28 × Unit) :=
 (S67 k a b e).bind fun q0 =>
 (S19 k q0.2.1.1 q0.2.1.2.1 12).bind fun q1 =>
 (S19 k q1.2.1.1 q1.2.1.2.1 10).bind fun q2 =>
 (S19 k q2.2.1.1 q2.2.1.2.1 3).bind fun q3 =>
 (bif q3.1.1 == 0 then
  (S19 k q3.2.1.1 q3.2.1.2.1 2).bind fun q4 =>
  sx ([(1, 0, 0, 99), (0, 0, 0, 0)] : List Y1_8) q4.1.1 (([(1, 0, 0, 99), (0, 0, 0, 0)] : List Y1_8).length : Int) <|
  j27_6 k q4.2.1.1 q4.2.1.2.1 0 0 0 c (IntKind.i64.wrap (20 + (IntKind.i64.wrap (10 * q1.1.1)))) (IntKind.i64.wrap ((IntKind.i64.wrap (20 + (IntKind.i64.wrap (10 * q1.1.1)))) - q2.1.1)) q0.1.1 (sub ([(1, 0, 0, 99), (0, 0, 0, 0)] : List Y1_8) q4.1.1 (([(1, 0, 0, 99), (0, 0, 0, 0)] : List Y1_8).length : Int)) ([] : List Y1_8)
 else
  j27_6 k q3.2.1.1 q3.2.1.2.1 0 0 0 c (IntKind.i64.wrap (20 + (IntKind.i64.wrap (10 * q1.1.1)))) (IntKind.i64.wrap ((IntKind.i64.wrap (20 + (IntKind.i64.wrap (10 * q1.1.1)))) - q2.1.1)) q0.1.1 ([] : List Y1_8) ([] : List Y1_8))
def F27 : Fn := ⟨[.mbox 140 [.cell Y1_42, cI], .val ⟨false, (.int .i64), false⟩, .val ⟨false, (.int .i64), false⟩], [.val ⟨true, Y1_3, false⟩], fun k x => S27 k x.1.1 x.1.2.1 x.2.1 x.2.2.1⟩
theorem ok27 : FnOK Tryz.prog 27 F27 := okF [(19, F19), (67, F67)] [(12, 2)] (fun k => (.join 6 c27_J6 (fun d => j27_6 k d.1.1.1 d.1.1.2.1 d.2.2.1.1 d.2.2.1.2.1 d.2.2.1.2.2.1 d.2.2.2.1.1 d.2.2.2.1.2.1 d.2.2.2.1.2.2.1 d.2.2.2.1.2.2.2.1 d.2.2.2.1.2.2.2.2.1 d.2.2.2.1.2.2.2.2.2.1) .nil)) ⟨ok19, ok67, trivial⟩ Tryz.func27 rfl
def S71 (k : Nat) (a : Int) : Option Y1_38 :=
 some (((0, (a, 0, 0, 0, 0, 0, 0, 0), [], false), ()), ())
def F71 : Fn := ⟨[.val ⟨false, (.int .i64), false⟩], [.val ⟨true, Y1_15, true⟩], fun k x => S71 k x.1⟩
theorem ok71 : FnOK Tryz.prog 71 F71 := okF [] [] (fun k => .nil) trivial Tryz.func71 rfl
abbrev c130_L6 : Cut := ⟨[0, 1], [cI, cI], [], 35, []⟩
def l130_6 (k : Nat) (g6 : Int → Int → Option Y1_16) (a b : Int) : Option Y1_16 :=
 (bif decide (b < 0) then
  (bif decide (a < 0) then
   (bif (Int.tmod a 2) != 0 then
    g6 (IntKind.i64.wrap ((IntKind.i64.wrap (Int.tdiv a 2)) - 1)) (IntKind.i64.wrap (b + 1))
   else
    g6 (IntKind.i64.wrap (Int.tdiv a 2)) (IntKind.i64.wrap (b + 1)))
  else
   g6 (IntKind.i64.wrap (Int.tdiv a 2)) (IntKind.i64.wrap (b + 1)))
 else
  some ((a, ()), ()))
def b130_6 (k : Nat) (g : ((Unit) × Int × Int × Unit) → Option Y1_16) (d : (Unit) × Int × Int × Unit) : Option Y1_16 := l130_6 k (fun a b => g ((), a, b, ())) d.2.1 d.2.2.1
def L130_6 (k a : Nat) (b c : Int) : Option Y1_16 := iter (R := (Int × Unit) × Unit) c130_L6 (b130_6 k) a ((), b, c, ())
theorem L130_6_s (k a b c) : L130_6 k (a + 1) b c = l130_6 k (L130_6 k a) b c := iter_succ _ _ _ _
abbrev c130_L3 : Cut := ⟨[0, 1], [cI, cI], [], 35, []⟩
def l130_3 (k : Nat) (g3 : Int → Int → Option Y1_16) (a b : Int) : Option Y1_16 :=
 (bif decide (b > 0) then
  g3 (IntKind.i64.wrap (a * 2)) (IntKind.i64.wrap (b - 1))
 else
  L130_6 k k a b)
def b130_3 (k : Nat) (g : ((Unit) × Int × Int × Unit) → Option Y1_16) (d : (Unit) × Int × Int × Unit) : Option Y1_16 := l130_3 k (fun a b => g ((), a, b, ())) d.2.1 d.2.2.1
def L130_3 (k a : Nat) (b c : Int) : Option Y1_16 := iter (R := (Int × Unit) × Unit) c130_L3 (b130_3 k) a ((), b, c, ())
theorem L130_3_s (k a b c) : L130_3 k (a + 1) b c = l130_3 k (L130_3 k a) b c := iter_succ _ _ _ _
def S130 (k : Nat) (a b : Int) : Option Y1_16 :=
 (bif decide (b < (-63)) then
  some ((a, ()), ())
 else
  (bif decide (b > 63) then
   some ((a, ()), ())
  else
   L130_3 k k a b))
def F130 : Fn := ⟨[.val ⟨false, (.int .i64), false⟩, .val ⟨false, (.int .i64), false⟩], [.val ⟨false, (.int .i64), true⟩], fun k x => S130 k x.1 x.2.1⟩
theorem ok130 : FnOK Tryz.prog 130 F130 := okF [] [] (fun k => (.loop 6 c130_L6 (b130_6 k) (fun g => .nil) (.loop 3 c130_L3 (b130_3 k) (fun g => .nil) .nil))) trivial Tryz.func130 rfl
abbrev c178_L2 : Cut := ⟨[0, 3], [cI, .cell (.int .u64)], [], 11, []⟩
def l178_2 (k : Nat) (g2 : Int → Int → Option Y1_16) (a b : Int) : Option Y1_16 :=
 (bif decide (a > 0) then
  g2 (IntKind.i64.wrap (a - 1)) (IntKind.u64.wrap (2 * b))
 else
  some ((b, ()), ()))
def b178_2 (k : Nat) (g : ((Unit) × Int × Int × Unit) → Option Y1_16) (d : (Unit) × Int × Int × Unit) : Option Y1_16 := l178_2 k (fun a b => g ((), a, b, ())) d.2.1 d.2.2.1
def L178_2 (k a : Nat) (b c : Int) : Option Y1_16 := iter (R := (Int × Unit) × Unit) c178_L2 (b178_2 k) a ((), b, c, ())
theorem L178_2_s (k a b c) : L178_2 k (a + 1) b c = l178_2 k (L178_2 k a) b c := iter_succ _ _ _ _
def S178 (k : Nat) (a : Int) : Option Y1_16 :=
 L178_2 k k a 1
def F178 : Fn := ⟨[.val ⟨false, (.int .i64), false⟩], [.val ⟨false, (.int .u64), true⟩], fun k x => S178 k x.1⟩
theorem ok178 : FnOK Tryz.prog 178 F178 := okF [] [] (fun k => (.loop 2 c178_L2 (b178_2 k) (fun g => .nil) .nil)) trivial Tryz.func178 rfl
def S131 (k : Nat) (a b : Int) : Option Y1_16 :=
 (bif decide (b < 1) then
  some ((a, ()), ())
 else
  (bif decide (b > 63) then
   some ((a, ()), ())
  else
   (S178 k b).bind fun q0 =>
   nz q0.1.1 <|
   (S178 k (IntKind.i64.wrap (b - 1))).bind fun q1 =>
   (bif decide ((Int.tmod (IntKind.u64.wrap a) q0.1.1) ≥ q1.1.1) then
    (S178 k b).bind fun q2 =>
    some ((IntKind.i64.wrap (0 - (IntKind.i64.wrap (IntKind.u64.wrap (q2.1.1 - (Int.tmod (IntKind.u64.wrap a) q0.1.1))))), ()), ())
   else
    some ((IntKind.i64.wrap (Int.tmod (IntKind.u64.wrap a) q0.1.1), ()), ()))))
def F131 : Fn := ⟨[.val ⟨false, (.int .i64), false⟩, .val ⟨false, (.int .i64), false⟩], [.val ⟨false, (.int .i64), true⟩], fun k x => S131 k x.1 x.2.1⟩
theorem ok131 : FnOK Tryz.prog 131 F131 := okF [(178, F178)] [] (fun k => .nil) ⟨ok178, trivial⟩ Tryz.func131 rfl
abbrev c72_L28 : Cut := ⟨[3, 4, 5, 7], [.box 92 [cI, cI, cI, cI, cI, cI, cI, cI, cI, .own 233 Y1_7, .cell .bool], .box 92 [cI, cI, cI, cI, cI, cI, cI, cI, cI, .nil, .cell .bool], .box 87 [cI, cI, cI, cI], .box 87 [cI, cI, cI, cI]], [], 225, []⟩
def l72_28 (k : Nat) (g28 : Int → Int → Int → Int → Int → Int → Int → Int → Int → (List Y1_14) → Bool → Int → Int → Int → Int → Int → Int → Int → Int → Int → Bool → Int → Int → Int → Int → Int → Int → Int → Int → Option Y1_27) (a b c e f h i l m : Int) (n : List Y1_14) (o : Bool) (p s t u v w y z A : Int) (B : Bool) (C D G H I J K M : Int) : Option Y1_27 :=
 (bif decide ((n.length : Int) > 0) then
  ix n (IntKind.i64.wrap ((n.length : Int) - 1)) <|
  (bif decide ((rd n (IntKind.i64.wrap ((n.length : Int) - 1)) (0, 0, 0)).2.1 < a) then
   ix n (IntKind.i64.wrap ((n.length : Int) - 1)) <|
   sx n 0 (IntKind.i64.wrap ((n.length : Int) - 1)) <|
   (bif decide ((rd n (IntKind.i64.wrap ((n.length : Int) - 1)) (0, 0, 0)).2.2 > 0) then
    ap (n.take (IntKind.i64.wrap ((n.length : Int) - 1)).toNat) ([((rd n (IntKind.i64.wrap ((n.length : Int) - 1)) (0, 0, 0)).1, (rd n (IntKind.i64.wrap ((n.length : Int) - 1)) (0, 0, 0)).2.1, IntKind.i64.wrap ((rd n (IntKind.i64.wrap ((n.length : Int) - 1)) (0, 0, 0)).2.2 - 1))] : List Y1_14) 24 fun r2 =>
    some ((((rd n (IntKind.i64.wrap ((n.length : Int) - 1)) (0, 0, 0)).1, (b, c, e, f, h, i, l, m), r2, o), (I, J, K, M), true, ()), ())
   else
    g28 a b c e f h i l m (n.take (IntKind.i64.wrap ((n.length : Int) - 1)).toNat) o p s t u v w y z A B C D G H I J K M)
  else
   some (((a, (b, c, e, f, h, i, l, m), n, o), (I, J, K, M), true, ()), ()))
 else
  some (((a, (b, c, e, f, h, i, l, m), n, o), (I, J, K, M), true, ()), ()))
def b72_28 (k : Nat) (g : ((Unit) × Y1_22 × Y1_26 × Y1_40 × Y1_40 × Unit) → Option Y1_27) (d : (Unit) × Y1_22 × Y1_26 × Y1_40 × Y1_40 × Unit) : Option Y1_27 := l72_28 k (fun a b c e f h i l m n o p s t u v w y z A B C D G H I J K M => g ((), (a, b, c, e, f, h, i, l, m, n, o, ()), (p, s, t, u, v, w, y, z, A, (), B, ()), (C, D, G, H, ()), (I, J, K, M, ()), ())) d.2.1.1 d.2.1.2.1 d.2.1.2.2.1 d.2.1.2.2.2.1 d.2.1.2.2.2.2.1 d.2.1.2.2.2.2.2.1 d.2.1.2.2.2.2.2.2.1 d.2.1.2.2.2.2.2.2.2.1 d.2.1.2.2.2.2.2.2.2.2.1 d.2.1.2.2.2.2.2.2.2.2.2.1 d.2.1.2.2.2.2.2.2.2.2.2.2.1 d.2.2.1.1 d.2.2.1.2.1 d.2.2.1.2.2.1 d.2.2.1.2.2.2.1 d.2.2.1.2.2.2.2.1 d.2.2.1.2.2.2.2.2.1 d.2.2.1.2.2.2.2.2.2.1 d.2.2.1.2.2.2.2.2.2.2.1 d.2.2.1.2.2.2.2.2.2.2.2.1 d.2.2.1.2.2.2.2.2.2.2.2.2.2.1 d.2.2.2.1.1 d.2.2.2.1.2.1 d.2.2.2.1.2.2.1 d.2.2.2.1.2.2.2.1 d.2.2.2.2.1.1 d.2.2.2.2.1.2.1 d.2.2.2.2.1.2.2.1 d.2.2.2.2.1.2.2.2.1
def L72_28 (k a : Nat) (b c e f h i l m n : Int) (o : List Y1_14) (p : Bool) (s t u v w y z A B : Int) (C : Bool) (D G H I J K M N : Int) : Option Y1_27 := iter (R := (Y1_10 × Y1_8 × Bool × Unit) × Unit) c72_L28 (b72_28 k) a ((), (b, c, e, f, h, i, l, m, n, o, p, ()), (s, t, u, v, w, y, z, A, B, (), C, ()), (D, G, H, I, ()), (J, K, M, N, ()), ())
theorem L72_28_s (k a b c e f h i l m n o p s t u v w y z A B C D G H I J K M N) : L72_28 k (a + 1) b c e f h i l m n o p s t u v w y z A B C D G H I J K M N = l72_28 k (L72_28 k a) b c e f h i l m n o p s t u v w y z A B C D G H I J K M N := iter_succ _ _ _ _
def S72 (k : Nat) (a : List Y1_8) (b : Y1_44) : Option Y1_27 :=
 ap ([] : List Y1_14) b.2.2.1 24 fun r0 =>
 (bif b.2.2.2 then
  some (((b.1, b.2.1, r0, b.2.2.2), (0, 0, 0, 0), false, ()), ())
 else
  (bif decide (b.1 < 0) then
   some (((b.1, b.2.1, r0, b.2.2.2), (0, 0, 0, 0), false, ()), ())
  else
   (bif decide (b.1 ≥ (a.length : Int)) then
    some (((b.1, b.2.1, r0, b.2.2.2), (0, 0, 0, 0), false, ()), ())
   else
    ix a b.1 <|
    (S129 k (rd a b.1 (0, 0, 0, 0))).bind fun q1 =>
    (bif !q1.1.1 then
     some (((b.1, b.2.1, r0, b.2.2.2), (0, 0, 0, 0), false, ()), ())
    else
     ix a b.1 <|
     (bif (rd a b.1 (0, 0, 0, 0)).1 == 0 then
      L72_28 k k b.1 b.2.1.1 b.2.1.2.1 b.2.1.2.2.1 b.2.1.2.2.2.1 b.2.1.2.2.2.2.1 b.2.1.2.2.2.2.2.1 b.2.1.2.2.2.2.2.2.1 b.2.1.2.2.2.2.2.2.2 r0 true 0 0 0 0 0 0 0 0 0 false 0 0 0 0 (rd a b.1 (0, 0, 0, 0)).1 (rd a b.1 (0, 0, 0, 0)).2.1 (rd a b.1 (0, 0, 0, 0)).2.2.1 (rd a b.1 (0, 0, 0, 0)).2.2.2
     else
      (bif (rd a b.1 (0, 0, 0, 0)).1 == 1 then
       ax 8 (rd a b.1 (0, 0, 0, 0)).2.1 <|
       L72_28 k k (IntKind.i64.wrap (b.1 + 1)) (aset (α := Int) 8 b.2.1 (rd a b.1 (0, 0, 0, 0)).2.1 (rd a b.1 (0, 0, 0, 0)).2.2.2).1 (aset (α := Int) 8 b.2.1 (rd a b.1 (0, 0, 0, 0)).2.1 (rd a b.1 (0, 0, 0, 0)).2.2.2).2.1 (aset (α := Int) 8 b.2.1 (rd a b.1 (0, 0, 0, 0)).2.1 (rd a b.1 (0, 0, 0, 0)).2.2.2).2.2.1 (aset (α := Int) 8 b.2.1 (rd a b.1 (0, 0, 0, 0)).2.1 (rd a b.1 (0, 0, 0, 0)).2.2.2).2.2.2.1 (aset (α := Int) 8 b.2.1 (rd a b.1 (0, 0, 0, 0)).2.1 (rd a b.1 (0, 0, 0, 0)).2.2.2).2.2.2.2.1 (aset (α := Int) 8 b.2.1 (rd a b.1 (0, 0, 0, 0)).2.1 (rd a b.1 (0, 0, 0, 0)).2.2.2).2.2.2.2.2.1 (aset (α := Int) 8 b.2.1 (rd a b.1 (0, 0, 0, 0)).2.1 (rd a b.1 (0, 0, 0, 0)).2.2.2).2.2.2.2.2.2.1 (aset (α := Int) 8 b.2.1 (rd a b.1 (0, 0, 0, 0)).2.1 (rd a b.1 (0, 0, 0, 0)).2.2.2).2.2.2.2.2.2.2 r0 b.2.2.2 0 0 0 0 0 0 0 0 0 false 0 0 0 0 (rd a b.1 (0, 0, 0, 0)).1 (rd a b.1 (0, 0, 0, 0)).2.1 (rd a b.1 (0, 0, 0, 0)).2.2.1 (rd a b.1 (0, 0, 0, 0)).2.2.2
      else
       (bif (rd a b.1 (0, 0, 0, 0)).1 == 2 then
        ax 8 (rd a b.1 (0, 0, 0, 0)).2.1 <|
        ax 8 (rd a b.1 (0, 0, 0, 0)).2.2.1 <|
        ax 8 (rd a b.1 (0, 0, 0, 0)).2.1 <|
        L72_28 k k (IntKind.i64.wrap (b.1 + 1)) (aset (α := Int) 8 b.2.1 (rd a b.1 (0, 0, 0, 0)).2.1 (IntKind.i64.wrap ((aget (α := Int) 8 b.2.1 (rd a b.1 (0, 0, 0, 0)).2.1 0) + (aget (α := Int) 8 b.2.1 (rd a b.1 (0, 0, 0, 0)).2.2.1 0)))).1 (aset (α := Int) 8 b.2.1 (rd a b.1 (0, 0, 0, 0)).2.1 (IntKind.i64.wrap ((aget (α := Int) 8 b.2.1 (rd a b.1 (0, 0, 0, 0)).2.1 0) + (aget (α := Int) 8 b.2.1 (rd a b.1 (0, 0, 0, 0)).2.2.1 0)))).2.1 (aset (α := Int) 8 b.2.1 (rd a b.1 (0, 0, 0, 0)).2.1 (IntKind.i64.wrap ((aget (α := Int) 8 b.2.1 (rd a b.1 (0, 0, 0, 0)).2.1 0) + (aget (α := Int) 8 b.2.1 (rd a b.1 (0, 0, 0, 0)).2.2.1 0)))).2.2.1 (aset (α := Int) 8 b.2.1 (rd a b.1 (0, 0, 0, 0)).2.1 (IntKind.i64.wrap ((aget (α := Int) 8 b.2.1 (rd a b.1 (0, 0, 0, 0)).2.1 0) + (aget (α := Int) 8 b.2.1 (rd a b.1 (0, 0, 0, 0)).2.2.1 0)))).2.2.2.1 (aset (α := Int) 8 b.2.1 (rd a b.1 (0, 0, 0, 0)).2.1 (IntKind.i64.wrap ((aget (α := Int) 8 b.2.1 (rd a b.1 (0, 0, 0, 0)).2.1 0) + (aget (α := Int) 8 b.2.1 (rd a b.1 (0, 0, 0, 0)).2.2.1 0)))).2.2.2.2.1 (aset (α := Int) 8 b.2.1 (rd a b.1 (0, 0, 0, 0)).2.1 (IntKind.i64.wrap ((aget (α := Int) 8 b.2.1 (rd a b.1 (0, 0, 0, 0)).2.1 0) + (aget (α := Int) 8 b.2.1 (rd a b.1 (0, 0, 0, 0)).2.2.1 0)))).2.2.2.2.2.1 (aset (α := Int) 8 b.2.1 (rd a b.1 (0, 0, 0, 0)).2.1 (IntKind.i64.wrap ((aget (α := Int) 8 b.2.1 (rd a b.1 (0, 0, 0, 0)).2.1 0) + (aget (α := Int) 8 b.2.1 (rd a b.1 (0, 0, 0, 0)).2.2.1 0)))).2.2.2.2.2.2.1 (aset (α := Int) 8 b.2.1 (rd a b.1 (0, 0, 0, 0)).2.1 (IntKind.i64.wrap ((aget (α := Int) 8 b.2.1 (rd a b.1 (0, 0, 0, 0)).2.1 0) + (aget (α := Int) 8 b.2.1 (rd a b.1 (0, 0, 0, 0)).2.2.1 0)))).2.2.2.2.2.2.2 r0 b.2.2.2 0 0 0 0 0 0 0 0 0 false 0 0 0 0 (rd a b.1 (0, 0, 0, 0)).1 (rd a b.1 (0, 0, 0, 0)).2.1 (rd a b.1 (0, 0, 0, 0)).2.2.1 (rd a b.1 (0, 0, 0, 0)).2.2.2
       else
        (bif (rd a b.1 (0, 0, 0, 0)).1 == 3 then
         ax 8 (rd a b.1 (0, 0, 0, 0)).2.1 <|
         ax 8 (rd a b.1 (0, 0, 0, 0)).2.2.1 <|
         ax 8 (rd a b.1 (0, 0, 0, 0)).2.1 <|
         L72_28 k k (IntKind.i64.wrap (b.1 + 1)) (aset (α := Int) 8 b.2.1 (rd a b.1 (0, 0, 0, 0)).2.1 (IntKind.i64.wrap ((aget (α := Int) 8 b.2.1 (rd a b.1 (0, 0, 0, 0)).2.1 0) - (aget (α := Int) 8 b.2.1 (rd a b.1 (0, 0, 0, 0)).2.2.1 0)))).1 (aset (α := Int) 8 b.2.1 (rd a b.1 (0, 0, 0, 0)).2.1 (IntKind.i64.wrap ((aget (α := Int) 8 b.2.1 (rd a b.1 (0, 0, 0, 0)).2.1 0) - (aget (α := Int) 8 b.2.1 (rd a b.1 (0, 0, 0, 0)).2.2.1 0)))).2.1 (aset (α := Int) 8 b.2.1 (rd a b.1 (0, 0, 0, 0)).2.1 (IntKind.i64.wrap ((aget (α := Int) 8 b.2.1 (rd a b.1 (0, 0, 0, 0)).2.1 0) - (aget (α := Int) 8 b.2.1 (rd a b.1 (0, 0, 0, 0)).2.2.1 0)))).2.2.1 (aset (α := Int) 8 b.2.1 (rd a b.1 (0, 0, 0, 0)).2.1 (IntKind.i64.wrap ((aget (α := Int) 8 b.2.1 (rd a b.1 (0, 0, 0, 0)).2.1 0) - (aget (α := Int) 8 b.2.1 (rd a b.1 (0, 0, 0, 0)).2.2.1 0)))).2.2.2.1 (aset (α := Int) 8 b.2.1 (rd a b.1 (0, 0, 0, 0)).2.1 (IntKind.i64.wrap ((aget (α := Int) 8 b.2.1 (rd a b.1 (0, 0, 0, 0)).2.1 0) - (aget (α := Int) 8 b.2.1 (rd a b.1 (0, 0, 0, 0)).2.2.1 0)))).2.2.2.2.1 (aset (α := Int) 8 b.2.1 (rd a b.1 (0, 0, 0, 0)).2.1 (IntKind.i64.wrap ((aget (α := Int) 8 b.2.1 (rd a b.1 (0, 0, 0, 0)).2.1 0) - (aget (α := Int) 8 b.2.1 (rd a b.1 (0, 0, 0, 0)).2.2.1 0)))).2.2.2.2.2.1 (aset (α := Int) 8 b.2.1 (rd a b.1 (0, 0, 0, 0)).2.1 (IntKind.i64.wrap ((aget (α := Int) 8 b.2.1 (rd a b.1 (0, 0, 0, 0)).2.1 0) - (aget (α := Int) 8 b.2.1 (rd a b.1 (0, 0, 0, 0)).2.2.1 0)))).2.2.2.2.2.2.1 (aset (α := Int) 8 b.2.1 (rd a b.1 (0, 0, 0, 0)).2.1 (IntKind.i64.wrap ((aget (α := Int) 8 b.2.1 (rd a b.1 (0, 0, 0, 0)).2.1 0) - (aget (α := Int) 8 b.2.1 (rd a b.1 (0, 0, 0, 0)).2.2.1 0)))).2.2.2.2.2.2.2 r0 b.2.2.2 0 0 0 0 0 0 0 0 0 false 0 0 0 0 (rd a b.1 (0, 0, 0, 0)).1 (rd a b.1 (0, 0, 0, 0)).2.1 (rd a b.1 (0, 0, 0, 0)).2.2.1 (rd a b.1 (0, 0, 0, 0)).2.2.2
        else
         (bif (rd a b.1 (0, 0, 0, 0)).1 == 4 then
          ax 8 (rd a b.1 (0, 0, 0, 0)).2.1 <|
          ax 8 (rd a b.1 (0, 0, 0, 0)).2.2.1 <|
          ax 8 (rd a b.1 (0, 0, 0, 0)).2.1 <|
          L72_28 k k (IntKind.i64.wrap (b.1 + 1)) (aset (α := Int) 8 b.2.1 (rd a b.1 (0, 0, 0, 0)).2.1 (IntKind.i64.wrap ((aget (α := Int) 8 b.2.1 (rd a b.1 (0, 0, 0, 0)).2.1 0) * (aget (α := Int) 8 b.2.1 (rd a b.1 (0, 0, 0, 0)).2.2.1 0)))).1 (aset (α := Int) 8 b.2.1 (rd a b.1 (0, 0, 0, 0)).2.1 (IntKind.i64.wrap ((aget (α := Int) 8 b.2.1 (rd a b.1 (0, 0, 0, 0)).2.1 0) * (aget (α := Int) 8 b.2.1 (rd a b.1 (0, 0, 0, 0)).2.2.1 0)))).2.1 (aset (α := Int) 8 b.2.1 (rd a b.1 (0, 0, 0, 0)).2.1 (IntKind.i64.wrap ((aget (α := Int) 8 b.2.1 (rd a b.1 (0, 0, 0, 0)).2.1 0) * (aget (α := Int) 8 b.2.1 (rd a b.1 (0, 0, 0, 0)).2.2.1 0)))).2.2.1 (aset (α := Int) 8 b.2.1 (rd a b.1 (0, 0, 0, 0)).2.1 (IntKind.i64.wrap ((aget (α := Int) 8 b.2.1 (rd a b.1 (0, 0, 0, 0)).2.1 0) * (aget (α := Int) 8 b.2.1 (rd a b.1 (0, 0, 0, 0)).2.2.1 0)))).2.2.2.1 (aset (α := Int) 8 b.2.1 (rd a b.1 (0, 0, 0, 0)).2.1 (IntKind.i64.wrap ((aget (α := Int) 8 b.2.1 (rd a b.1 (0, 0, 0, 0)).2.1 0) * (aget (α := Int) 8 b.2.1 (rd a b.1 (0, 0, 0, 0)).2.2.1 0)))).2.2.2.2.1 (aset (α := Int) 8 b.2.1 (rd a b.1 (0, 0, 0, 0)).2.1 (IntKind.i64.wrap ((aget (α := Int) 8 b.2.1 (rd a b.1 (0, 0, 0, 0)).2.1 0) * (aget (α := Int) 8 b.2.1 (rd a b.1 (0, 0, 0, 0)).2.2.1 0)))).2.2.2.2.2.1 (aset (α := Int) 8 b.2.1 (rd a b.1 (0, 0, 0, 0)).2.1 (IntKind.i64.wrap ((aget (α := Int) 8 b.2.1 (rd a b.1 (0, 0, 0, 0)).2.1 0) * (aget (α := Int) 8 b.2.1 (rd a b.1 (0, 0, 0, 0)).2.2.1 0)))).2.2.2.2.2.2.1 (aset (α := Int) 8 b.2.1 (rd a b.1 (0, 0, 0, 0)).2.1 (IntKind.i64.wrap ((aget (α := Int) 8 b.2.1 (rd a b.1 (0, 0, 0, 0)).2.1 0) * (aget (α := Int) 8 b.2.1 (rd a b.1 (0, 0, 0, 0)).2.2.1 0)))).2.2.2.2.2.2.2 r0 b.2.2.2 0 0 0 0 0 0 0 0 0 false 0 0 0 0 (rd a b.1 (0, 0, 0, 0)).1 (rd a b.1 (0, 0, 0, 0)).2.1 (rd a b.1 (0, 0, 0, 0)).2.2.1 (rd a b.1 (0, 0, 0, 0)).2.2.2
         else
          (bif (rd a b.1 (0, 0, 0, 0)).1 == 5 then
           ax 8 (rd a b.1 (0, 0, 0, 0)).2.1 <|
           (S130 k (aget (α := Int) 8 b.2.1 (rd a b.1 (0, 0, 0, 0)).2.1 0) (rd a b.1 (0, 0, 0, 0)).2.2.2).bind fun q3 =>
           ax 8 (rd a b.1 (0, 0, 0, 0)).2.1 <|
           L72_28 k k (IntKind.i64.wrap (b.1 + 1)) (aset (α := Int) 8 b.2.1 (rd a b.1 (0, 0, 0, 0)).2.1 q3.1.1).1 (aset (α := Int) 8 b.2.1 (rd a b.1 (0, 0, 0, 0)).2.1 q3.1.1).2.1 (aset (α := Int) 8 b.2.1 (rd a b.1 (0, 0, 0, 0)).2.1 q3.1.1).2.2.1 (aset (α := Int) 8 b.2.1 (rd a b.1 (0, 0, 0, 0)).2.1 q3.1.1).2.2.2.1 (aset (α := Int) 8 b.2.1 (rd a b.1 (0, 0, 0, 0)).2.1 q3.1.1).2.2.2.2.1 (aset (α := Int) 8 b.2.1 (rd a b.1 (0, 0, 0, 0)).2.1 q3.1.1).2.2.2.2.2.1 (aset (α := Int) 8 b.2.1 (rd a b.1 (0, 0, 0, 0)).2.1 q3.1.1).2.2.2.2.2.2.1 (aset (α := Int) 8 b.2.1 (rd a b.1 (0, 0, 0, 0)).2.1 q3.1.1).2.2.2.2.2.2.2 r0 b.2.2.2 0 0 0 0 0 0 0 0 0 false 0 0 0 0 (rd a b.1 (0, 0, 0, 0)).1 (rd a b.1 (0, 0, 0, 0)).2.1 (rd a b.1 (0, 0, 0, 0)).2.2.1 (rd a b.1 (0, 0, 0, 0)).2.2.2
          else
           (bif (rd a b.1 (0, 0, 0, 0)).1 == 6 then
            ax 8 (rd a b.1 (0, 0, 0, 0)).2.1 <|
            (S131 k (aget (α := Int) 8 b.2.1 (rd a b.1 (0, 0, 0, 0)).2.1 0) (rd a b.1 (0, 0, 0, 0)).2.2.2).bind fun q4 =>
            ax 8 (rd a b.1 (0, 0, 0, 0)).2.1 <|
            L72_28 k k (IntKind.i64.wrap (b.1 + 1)) (aset (α := Int) 8 b.2.1 (rd a b.1 (0, 0, 0, 0)).2.1 q4.1.1).1 (aset (α := Int) 8 b.2.1 (rd a b.1 (0, 0, 0, 0)).2.1 q4.1.1).2.1 (aset (α := Int) 8 b.2.1 (rd a b.1 (0, 0, 0, 0)).2.1 q4.1.1).2.2.1 (aset (α := Int) 8 b.2.1 (rd a b.1 (0, 0, 0, 0)).2.1 q4.1.1).2.2.2.1 (aset (α := Int) 8 b.2.1 (rd a b.1 (0, 0, 0, 0)).2.1 q4.1.1).2.2.2.2.1 (aset (α := Int) 8 b.2.1 (rd a b.1 (0, 0, 0, 0)).2.1 q4.1.1).2.2.2.2.2.1 (aset (α := Int) 8 b.2.1 (rd a b.1 (0, 0, 0, 0)).2.1 q4.1.1).2.2.2.2.2.2.1 (aset (α := Int) 8 b.2.1 (rd a b.1 (0, 0, 0, 0)).2.1 q4.1.1).2.2.2.2.2.2.2 r0 b.2.2.2 0 0 0 0 0 0 0 0 0 false 0 0 0 0 (rd a b.1 (0, 0, 0, 0)).1 (rd a b.1 (0, 0, 0, 0)).2.1 (rd a b.1 (0, 0, 0, 0)).2.2.1 (rd a b.1 (0, 0, 0, 0)).2.2.2
           else
            (bif (rd a b.1 (0, 0, 0, 0)).1 == 7 then
             ax 8 (rd a b.1 (0, 0, 0, 0)).2.1 <|
             (bif (aget (α := Int) 8 b.2.1 (rd a b.1 (0, 0, 0, 0)).2.1 0) == 0 then
              L72_28 k k (IntKind.i64.wrap ((IntKind.i64.wrap (b.1 + 1)) + (rd a b.1 (0, 0, 0, 0)).2.2.2)) b.2.1.1 b.2.1.2.1 b.2.1.2.2.1 b.2.1.2.2.2.1 b.2.1.2.2.2.2.1 b.2.1.2.2.2.2.2.1 b.2.1.2.2.2.2.2.2.1 b.2.1.2.2.2.2.2.2.2 r0 b.2.2.2 0 0 0 0 0 0 0 0 0 false 0 0 0 0 (rd a b.1 (0, 0, 0, 0)).1 (rd a b.1 (0, 0, 0, 0)).2.1 (rd a b.1 (0, 0, 0, 0)).2.2.1 (rd a b.1 (0, 0, 0, 0)).2.2.2
             else
              L72_28 k k (IntKind.i64.wrap (b.1 + 1)) b.2.1.1 b.2.1.2.1 b.2.1.2.2.1 b.2.1.2.2.2.1 b.2.1.2.2.2.2.1 b.2.1.2.2.2.2.2.1 b.2.1.2.2.2.2.2.2.1 b.2.1.2.2.2.2.2.2.2 r0 b.2.2.2 0 0 0 0 0 0 0 0 0 false 0 0 0 0 (rd a b.1 (0, 0, 0, 0)).1 (rd a b.1 (0, 0, 0, 0)).2.1 (rd a b.1 (0, 0, 0, 0)).2.2.1 (rd a b.1 (0, 0, 0, 0)).2.2.2)
            else
             (bif (rd a b.1 (0, 0, 0, 0)).1 == 8 then
              ap r0 ([(IntKind.i64.wrap (b.1 + 1), IntKind.i64.wrap (b.1 + (rd a b.1 (0, 0, 0, 0)).2.2.1), IntKind.i64.wrap ((rd a b.1 (0, 0, 0, 0)).2.2.2 - 1))] : List Y1_14) 24 fun r5 =>
              L72_28 k k (IntKind.i64.wrap (b.1 + 1)) b.2.1.1 b.2.1.2.1 b.2.1.2.2.1 b.2.1.2.2.2.1 b.2.1.2.2.2.2.1 b.2.1.2.2.2.2.2.1 b.2.1.2.2.2.2.2.2.1 b.2.1.2.2.2.2.2.2.2 r5 b.2.2.2 0 0 0 0 0 0 0 0 0 false 0 0 0 0 (rd a b.1 (0, 0, 0, 0)).1 (rd a b.1 (0, 0, 0, 0)).2.1 (rd a b.1 (0, 0, 0, 0)).2.2.1 (rd a b.1 (0, 0, 0, 0)).2.2.2
             else
              L72_28 k k (IntKind.i64.wrap (b.1 + 1)) b.2.1.1 b.2.1.2.1 b.2.1.2.2.1 b.2.1.2.2.2.1 b.2.1.2.2.2.2.1 b.2.1.2.2.2.2.2.1 b.2.1.2.2.2.2.2.2.1 b.2.1.2.2.2.2.2.2.2 r0 b.2.2.2 0 0 0 0 0 0 0 0 0 false 0 0 0 0 (rd a b.1 (0, 0, 0, 0)).1 (rd a b.1 (0, 0, 0, 0)).2.1 (rd a b.1 (0, 0, 0, 0)).2.2.1 (rd a b.1 (0, 0, 0, 0)).2.2.2)))))))))))))
def F72 : Fn := ⟨[.val ⟨false, Y1_41, false⟩, .val ⟨true, Y1_15, false⟩], [.val ⟨true, Y1_15, true⟩, .val ⟨true, Y1_18, true⟩, .val ⟨false, .bool, true⟩], fun k x => S72 k x.1 x.2.1⟩
theorem ok72 : FnOK Tryz.prog 72 F72 := okF [(129, F129), (130, F130), (131, F131)] [(205, 1)] (fun k => (.loop 28 c72_L28 (b72_28 k) (fun g => .nil) .nil)) ⟨ok129, ok130, ok131, trivial⟩ Tryz.func72 rfl
abbrev c29_L6 : Cut := ⟨[0, 7, 9, 10], [.cell Y1_41, .box 161 [cI, cI, .own 230 (.pair (.int .i64) (.int .i64))], .box 92 [cI, cI, cI, cI, cI, cI, cI, cI, cI, .own 233 Y1_7, .cell .bool], cI], [], 42, []⟩
def l29_6 (k : Nat) (g6 : (List Y1_8) → Int → Int → Y1_32 → Int → Int → Int → Int → Int → Int → Int → Int → Int → (List Y1_14) → Bool → Int → Option Y1_37) (a : List Y1_8) (b c : Int) (e : Y1_35) (f h i l m n o p s : Int) (t : List Y1_14) (u : Bool) (v : Int) : Option Y1_37 :=
 (bif !u then
  (bif decide (v ≤ b) then
   (S72 k a (f, (h, i, l, m, n, o, p, s), t, u)).bind fun q2 =>
   g6 a b c e q2.1.1.1 q2.1.1.2.1.1 q2.1.1.2.1.2.1 q2.1.1.2.1.2.2.1 q2.1.1.2.1.2.2.2.1 q2.1.1.2.1.2.2.2.2.1 q2.1.1.2.1.2.2.2.2.2.1 q2.1.1.2.1.2.2.2.2.2.2.1 q2.1.1.2.1.2.2.2.2.2.2.2 q2.1.1.2.2.1 q2.1.1.2.2.2 (IntKind.i64.wrap (v + 1))
  else
   some ((h, v, true, ()), ()))
 else
  some ((h, v, true, ()), ()))
def b29_6 (k : Nat) (g : ((Unit) × (List Y1_8) × (Int × Int × Y1_32 × Unit) × Y1_22 × Int × Unit) → Option Y1_37) (d : (Unit) × (List Y1_8) × (Int × Int × Y1_32 × Unit) × Y1_22 × Int × Unit) : Option Y1_37 := l29_6 k (fun a b c e f h i l m n o p s t u v => g ((), a, (b, c, e, ()), (f, h, i, l, m, n, o, p, s, t, u, ()), v, ())) d.2.1 d.2.2.1.1 d.2.2.1.2.1 d.2.2.1.2.2.1 d.2.2.2.1.1 d.2.2.2.1.2.1 d.2.2.2.1.2.2.1 d.2.2.2.1.2.2.2.1 d.2.2.2.1.2.2.2.2.1 d.2.2.2.1.2.2.2.2.2.1 d.2.2.2.1.2.2.2.2.2.2.1 d.2.2.2.1.2.2.2.2.2.2.2.1 d.2.2.2.1.2.2.2.2.2.2.2.2.1 d.2.2.2.1.2.2.2.2.2.2.2.2.2.1 d.2.2.2.1.2.2.2.2.2.2.2.2.2.2.1 d.2.2.2.2.1
def L29_6 (k a : Nat) (b : List Y1_8) (c e : Int) (f : Y1_35) (h i l m n o p s t : Int) (u : List Y1_14) (v : Bool) (w : Int) : Option Y1_37 := iter (R := (Int × Int × Bool × Unit) × Unit) c29_L6 (b29_6 k) a ((), b, (c, e, f, ()), (h, i, l, m, n, o, p, s, t, u, v, ()), w, ())
theorem L29_6_s (k a b c e f h i l m n o p s t u v w) : L29_6 k (a + 1) b c e f h i l m n o p s t u v w = l29_6 k (L29_6 k a) b c e f h i l m n o p s t u v w := iter_succ _ _ _ _
def S29 (k : Nat) (a : List Y1_8) (b : Int) : Option Y1_37 :=
 (S70 k a).bind fun q0 =>
 (bif !q0.1.2.1 then
  some ((0, 0, false, ()), ())
 else
  (S71 k b).bind fun q1 =>
  L29_6 k k a q0.1.1.1 q0.1.1.2.1 q0.1.1.2.2 q1.1.1.1 q1.1.1.2.1.1 q1.1.1.2.1.2.1 q1.1.1.2.1.2.2.1 q1.1.1.2.1.2.2.2.1 q1.1.1.2.1.2.2.2.2.1 q1.1.1.2.1.2.2.2.2.2.1 q1.1.1.2.1.2.2.2.2.2.2.1 q1.1.1.2.1.2.2.2.2.2.2.2 q1.1.1.2.2.1 q1.1.1.2.2.2 0)
def F29 : Fn := ⟨[.val ⟨false, Y1_41, false⟩, .val ⟨false, (.int .i64), false⟩], [.val ⟨false, (.int .i64), true⟩, .val ⟨false, (.int .i64), true⟩, .val ⟨false, .bool, true⟩], fun k x => S29 k x.1 x.2.1⟩
theorem ok29 : FnOK Tryz.prog 29 F29 := okF [(70, F70), (71, F71), (72, F72)] [] (fun k => (.loop 6 c29_L6 (b29_6 k) (fun g => .nil) .nil)) ⟨ok70, ok71, ok72, trivial⟩ Tryz.func29 rfl
abbrev c7_L30 : Cut := ⟨[1, 2, 7, 11, 13, 14, 15, 17, 18], [cI, .cell (.int .u8), .box 77 [cI, cI, cI, .cell Y1_41, .cell Y1_41, .nil], .box 37 [cI, cI, .own 77 Y1_3, .own 96 Y1_29, .cell .bool, .cell .bool, .cell .bool, .own 94 Y1_1, .own 3 (.int .i64), .own 4 .bool, .own 124 Y1_6, .own 3 (.int .i64), .own 4 .bool], cI, cI, cI, .own 82 Y1_30, cI], [], 150, []⟩
def l7_30 (k : Nat) (g21 : Y1_12) (g30 : Int → Int → Int → Int → Int → (List Y1_8) → (List Y1_8) → Int → Int → (List Y1_4) → (List (PN Int 5)) → Bool → Bool → Bool → (List Y1_2) → (List Int) → (List Bool) → (List Y1_5) → (List Int) → (List Bool) → Int → Int → Int → (List (PN Int 6)) → Int → Option Y1_24) (a b c e f : Int) (h i : List Y1_8) (l m : Int) (n : List Y1_4) (o : List (PN Int 5)) (p s t : Bool) (u : List Y1_2) (v : List Int) (w : List Bool) (y : List Y1_5) (z : List Int) (A : List Bool) (B C D : Int) (G : List (PN Int 6)) (H : Int) : Option Y1_24 :=
 (bif decide (H < (G.length : Int)) then
  ix G H <|
  (bif (rd G H (prep (α := Int) 6 0)).2.1 == 3 then
   g30 a b c e f h i l m n o p s t u v w y z A (IntKind.i64.wrap (B + 1)) C D G (IntKind.i64.wrap (H + 1))
  else
   (bif (rd G H (prep (α := Int) 6 0)).2.1 == 6 then
    g30 a b c e f h i l m n o p s t u v w y z A B (IntKind.i64.wrap (C + 1)) D G (IntKind.i64.wrap (H + 1))
   else
    (bif (rd G H (prep (α := Int) 6 0)).2.1 == 7 then
     g30 a b c e f h i l m n o p s t u v w y z A B (IntKind.i64.wrap (C + 1)) D G (IntKind.i64.wrap (H + 1))
    else
     (bif (rd G H (prep (α := Int) 6 0)).2.1 == 5 then
      some ((false, ()), ())
     else
      g30 a b c e f h i l m n o p s t u v w y z A B C D G (IntKind.i64.wrap (H + 1))))))
 else
  g21 a b c e f h i l m n o p s t u v w y z A B C (IntKind.i64.wrap (D + 1)))
def b7_30 (k : Nat) (g21 : Y1_12) (g : ((Unit) × Int × Int × Y1_33 × Y1_19 × Int × Int × Int × (List (PN Int 6)) × Int × Unit) → Option Y1_24) (d : (Unit) × Int × Int × Y1_33 × Y1_19 × Int × Int × Int × (List (PN Int 6)) × Int × Unit) : Option Y1_24 := l7_30 k g21 (fun a b c e f h i l m n o p s t u v w y z A B C D G H => g ((), a, b, (c, e, f, h, i, (), ()), (l, m, n, o, p, s, t, u, v, w, y, z, A, ()), B, C, D, G, H, ())) d.2.1 d.2.2.1 d.2.2.2.1.1 d.2.2.2.1.2.1 d.2.2.2.1.2.2.1 d.2.2.2.1.2.2.2.1 d.2.2.2.1.2.2.2.2.1 d.2.2.2.2.1.1 d.2.2.2.2.1.2.1 d.2.2.2.2.1.2.2.1 d.2.2.2.2.1.2.2.2.1 d.2.2.2.2.1.2.2.2.2.1 d.2.2.2.2.1.2.2.2.2.2.1 d.2.2.2.2.1.2.2.2.2.2.2.1 d.2.2.2.2.1.2.2.2.2.2.2.2.1 d.2.2.2.2.1.2.2.2.2.2.2.2.2.1 d.2.2.2.2.1.2.2.2.2.2.2.2.2.2.1 d.2.2.2.2.1.2.2.2.2.2.2.2.2.2.2.1 d.2.2.2.2.1.2.2.2.2.2.2.2.2.2.2.2.1 d.2.2.2.2.1.2.2.2.2.2.2.2.2.2.2.2.2.1 d.2.2.2.2.2.1 d.2.2.2.2.2.2.1 d.2.2.2.2.2.2.2.1 d.2.2.2.2.2.2.2.2.1 d.2.2.2.2.2.2.2.2.2.1
def L7_30 (k : Nat) (g21 : Y1_12) (a : Nat) (b c e f h : Int) (i l : List Y1_8) (m n : Int) (o : List Y1_4) (p : List (PN Int 5)) (s t u : Bool) (v : List Y1_2) (w : List Int) (y : List Bool) (z : List Y1_5) (A : List Int) (B : List Bool) (C D G : Int) (H : List (PN Int 6)) (I : Int) : Option Y1_24 := iter (R := (Bool × Unit) × Unit) c7_L30 (b7_30 k g21) a ((), b, c, (e, f, h, i, l, (), ()), (m, n, o, p, s, t, u, v, w, y, z, A, B, ()), C, D, G, H, I, ())
theorem L7_30_s (k g21 a b c e f h i l m n o p s t u v w y z A B C D G H I) : L7_30 k g21 (a + 1) b c e f h i l m n o p s t u v w y z A B C D G H I = l7_30 k g21 (L7_30 k g21 a) b c e f h i l m n o p s t u v w y z A B C D G H I := iter_succ _ _ _ _
abbrev c7_J25 : Cut := ⟨[1, 2, 7, 11, 13, 14, 15], [cI, .cell (.int .u8), .box 77 [cI, cI, cI, .cell Y1_41, .cell Y1_41, .nil], .box 37 [cI, cI, .own 77 Y1_3, .own 96 Y1_29, .cell .bool, .cell .bool, .cell .bool, .own 94 Y1_1, .own 3 (.int .i64), .own 4 .bool, .own 124 Y1_6, .own 3 (.int .i64), .own 4 .bool], cI, cI, cI], [], 150, []⟩
def j7_25 (k : Nat) (g21 : Y1_12) (a b c e f : Int) (h i : List Y1_8) (l m : Int) (n : List Y1_4) (o : List (PN Int 5)) (p s t : Bool) (u : List Y1_2) (v : List Int) (w : List Bool) (y : List Y1_5) (z : List Int) (A : List Bool) (B C D : Int) : Option Y1_24 :=
 (S23 k (l, m, n, o, p, s, t, u, ((v, w), y), z, A)).bind fun q7 =>
 (bif q7.1.1.2.2.2.2.2.2.1 then
  some ((false, ()), ())
 else
  L7_30 k g21 k a b c e f h i q7.1.1.1 q7.1.1.2.1 q7.1.1.2.2.1 q7.1.1.2.2.2.1 q7.1.1.2.2.2.2.1 q7.1.1.2.2.2.2.2.1 q7.1.1.2.2.2.2.2.2.1 q7.1.1.2.2.2.2.2.2.2.1 q7.1.1.2.2.2.2.2.2.2.2.1.1.1 q7.1.1.2.2.2.2.2.2.2.2.1.1.2 q7.1.1.2.2.2.2.2.2.2.2.1.2 q7.1.1.2.2.2.2.2.2.2.2.2.1 q7.1.1.2.2.2.2.2.2.2.2.2.2 B C D q7.1.2.1 0)
abbrev c7_J42 : Cut := ⟨[13, 14, 22], [cI, cI, .cell .bool], [], 150, []⟩
def j7_42 (k : Nat) (a b : Int) (c : Bool) : Option Y1_24 :=
 (bif a == 1 then
  (bif decide (b ≤ 1) then
   some (((b == 1) == c, ()), ())
  else
   some ((false, ()), ()))
 else
  some ((false, ()), ()))
abbrev c7_L21 : Cut := ⟨[1, 2, 7, 11, 13, 14, 15], [cI, .cell (.int .u8), .box 77 [cI, cI, cI, .cell Y1_41, .cell Y1_41, .nil], .box 37 [cI, cI, .own 77 Y1_3, .own 96 Y1_29, .cell .bool, .cell .bool, .cell .bool, .own 94 Y1_1, .own 3 (.int .i64), .own 4 .bool, .own 124 Y1_6, .own 3 (.int .i64), .own 4 .bool], cI, cI, cI], [], 150, []⟩
def l7_21 (k : Nat) (g21 : Y1_12) (a b c e f : Int) (h i : List Y1_8) (l m : Int) (n : List Y1_4) (o : List (PN Int 5)) (p s t : Bool) (u : List Y1_2) (v : List Int) (w : List Bool) (y : List Y1_5) (z : List Int) (A : List Bool) (B C D : Int) : Option Y1_24 :=
 (bif decide (D < f) then
  (bif D == (IntKind.i64.wrap (Int.tmod b 60)) then
   j7_25 k g21 a b c e f h i l m n o p s true u v w y z A B C D
  else
   j7_25 k g21 a b c e f h i l m n o p s t u v w y z A B C D)
 else
  (S29 k h a).bind fun q8 =>
  (bif decide ((IntKind.i64.wrap (Int.tmod b 60)) < q8.1.2.1) then
   j7_42 k B C (decide ((IntKind.i64.wrap (Int.tmod b 60)) < f))
  else
   j7_42 k B C false))
def b7_21 (k : Nat) (g : ((Unit) × Int × Int × Y1_33 × Y1_19 × Int × Int × Int × Unit) → Option Y1_24) (d : (Unit) × Int × Int × Y1_33 × Y1_19 × Int × Int × Int × Unit) : Option Y1_24 := l7_21 k (fun a b c e f h i l m n o p s t u v w y z A B C D => g ((), a, b, (c, e, f, h, i, (), ()), (l, m, n, o, p, s, t, u, v, w, y, z, A, ()), B, C, D, ())) d.2.1 d.2.2.1 d.2.2.2.1.1 d.2.2.2.1.2.1 d.2.2.2.1.2.2.1 d.2.2.2.1.2.2.2.1 d.2.2.2.1.2.2.2.2.1 d.2.2.2.2.1.1 d.2.2.2.2.1.2.1 d.2.2.2.2.1.2.2.1 d.2.2.2.2.1.2.2.2.1 d.2.2.2.2.1.2.2.2.2.1 d.2.2.2.2.1.2.2.2.2.2.1 d.2.2.2.2.1.2.2.2.2.2.2.1 d.2.2.2.2.1.2.2.2.2.2.2.2.1 d.2.2.2.2.1.2.2.2.2.2.2.2.2.1 d.2.2.2.2.1.2.2.2.2.2.2.2.2.2.1 d.2.2.2.2.1.2.2.2.2.2.2.2.2.2.2.1 d.2.2.2.2.1.2.2.2.2.2.2.2.2.2.2.2.1 d.2.2.2.2.1.2.2.2.2.2.2.2.2.2.2.2.2.1 d.2.2.2.2.2.1 d.2.2.2.2.2.2.1 d.2.2.2.2.2.2.2.1
def L7_21 (k a : Nat) (b c e f h : Int) (i l : List Y1_8) (m n : Int) (o : List Y1_4) (p : List (PN Int 5)) (s t u : Bool) (v : List Y1_2) (w : List Int) (y : List Bool) (z : List Y1_5) (A : List Int) (B : List Bool) (C D G : Int) : Option Y1_24 := iter (R := (Bool × Unit) × Unit) c7_L21 (b7_21 k) a ((), b, c, (e, f, h, i, l, (), ()), (m, n, o, p, s, t, u, v, w, y, z, A, B, ()), C, D, G, ())
theorem L7_21_s (k a b c e f h i l m n o p s t u v w y z A B C D G) : L7_21 k (a + 1) b c e f h i l m n o p s t u v w y z A B C D G = l7_21 k (L7_21 k a) b c e f h i l m n o p s t u v w y z A B C D G := iter_succ _ _ _ _
def S7 (k : Nat) (a : List Int) (b c : Int) : Option Y1_24 :=
 (S9 k).bind fun q0 =>
 (bif !q0.1.1 then
  some ((false, ()), ())
 else
  (bif decide ((a.length : Int) > 150) then
   some ((true, ()), ())
  else
   (S17 k a).bind fun q1 =>
   (S27 k q1.1.1.1 q1.1.1.2.1 1 0).bind fun q2 =>
   (S28 k [] (q2.1.1.1, q2.1.1.2.1, q2.1.1.2.2.1, q2.1.1.2.2.2.1, q2.1.1.2.2.2.2.1, []) 5000).bind fun q3 =>
   (S25 k 5000).bind fun q4 =>
   (bif !q4.1.2.1 then
    some ((q4.1.2.1, ()), ())
   else
    (bif q3.1.2.2.1 != 0 then
     some ((q4.1.2.1, ()), ())
    else
     (S12 k (q4.1.1.1, q4.1.1.2.1, q3.1.1, q3.1.2.1, q4.1.1.2.2.2.2)).bind fun q5 =>
     (bif q5.1.2.1 != 0 then
      some ((false, ()), ())
     else
      mk 1 1 8 <|
      mk 1 1 1 <|
      (S20 k (q5.1.1.1, q5.1.1.2.1, q5.1.1.2.2.1, q5.1.1.2.2.2.1, q5.1.1.2.2.2.2.1, q5.1.1.2.2.2.2.2.1, q5.1.1.2.2.2.2.2.2.1, q5.1.1.2.2.2.2.2.2.2.1, q5.1.1.2.2.2.2.2.2.2.2.1, List.replicate 1 (0 : Int), List.replicate 1 (false : Bool)) 0 b).bind fun q6 =>
      (bif q6.1.2.2.1 != 0 then
       some ((false, ()), ())
      else
       L7_21 k k b c q2.1.1.1 q2.1.1.2.1 q2.1.1.2.2.1 q2.1.1.2.2.2.1 q2.1.1.2.2.2.2.1 q6.1.1.1 q6.1.1.2.1 q6.1.1.2.2.1 q6.1.1.2.2.2.1 q6.1.1.2.2.2.2.1 q6.1.1.2.2.2.2.2.1 q6.1.1.2.2.2.2.2.2.1 q6.1.1.2.2.2.2.2.2.2.1 q6.1.1.2.2.2.2.2.2.2.2.1.1.1 q6.1.1.2.2.2.2.2.2.2.2.1.1.2 q6.1.1.2.2.2.2.2.2.2.2.1.2 q6.1.1.2.2.2.2.2.2.2.2.2.1 q6.1.1.2.2.2.2.2.2.2.2.2.2 0 0 0))))))
def F7 : Fn := ⟨[.val ⟨false, Y1_42, false⟩, .val ⟨false, (.int .i64), false⟩, .val ⟨false, (.int .u8), false⟩], [.val ⟨false, .bool, true⟩], fun k x => S7 k x.1 x.2.1 x.2.2.1⟩
theorem ok7 : FnOK Tryz.prog 7 F7 := okF [(9, F9), (12, F12), (17, F17), (20, F20), (23, F23), (25, F25), (27, F27), (28, F28), (29, F29)] [] (fun k => (.join 42 c7_J42 (fun d => j7_42 k d.2.1 d.2.2.1 d.2.2.2.1) (.loop 21 c7_L21 (b7_21 k) (fun g => (fun (g21 : Y1_12) => (.loop 30 c7_L30 (b7_30 k g21) (fun g => .nil) (.join 25 c7_J25 (fun d => j7_25 k g21 d.2.1 d.2.2.1 d.2.2.2.1.1 d.2.2.2.1.2.1 d.2.2.2.1.2.2.1 d.2.2.2.1.2.2.2.1 d.2.2.2.1.2.2.2.2.1 d.2.2.2.2.1.1 d.2.2.2.2.1.2.1 d.2.2.2.2.1.2.2.1 d.2.2.2.2.1.2.2.2.1 d.2.2.2.2.1.2.2.2.2.1 d.2.2.2.2.1.2.2.2.2.2.1 d.2.2.2.2.1.2.2.2.2.2.2.1 d.2.2.2.2.1.2.2.2.2.2.2.2.1 d.2.2.2.2.1.2.2.2.2.2.2.2.2.1 d.2.2.2.2.1.2.2.2.2.2.2.2.2.2.1 d.2.2.2.2.1.2.2.2.2.2.2.2.2.2.2.1 d.2.2.2.2.1.2.2.2.2.2.2.2.2.2.2.2.1 d.2.2.2.2.1.2.2.2.2.2.2.2.2.2.2.2.2.1 d.2.2.2.2.2.1 d.2.2.2.2.2.2.1 d.2.2.2.2.2.2.2.1) .nil))) (fun in_1 when1 t t1 t2 t3 t4 k_ k_1 k_2 k_3 k_4 k_5 k_6 k_7 k_8 k_9 k_10 k_11 k_12 done lost i => g ((), in_1, when1, (t, t1, t2, t3, t4, (), ()), (k_, k_1, k_2, k_3, k_4, k_5, k_6, k_7, k_8, k_9, k_10, k_11, k_12, ()), done, lost, i, ()))) .nil))) ⟨ok9, ok12, ok17, ok20, ok23, ok25, ok27, ok28, ok29, trivial⟩ Tryz.func7 rfl
end
end Go.Proofs.YtmmagcjlfcicfaaGreat.Ab
