import Derived.Test.YtfbkmdemekjdgaaGreatAbV1
/- Contracts, printed by this session's own program gen.py. -/
set_option linter.unusedVariables false
set_option linter.unusedSimpArgs false
set_option maxRecDepth 100000
namespace Go.Proofs.YtfbkmdemekjdgaaGreat.Ab
open Go.RowKit
abbrev Y2_0 : Type := Int × Int × Int × (List (Int × Int × Int × Int)) × (List (Int × Int × Int × Int)) × List (Int × Int × Int × Int)
abbrev Y2_1 : Type := Int × Int × Int × Int × (Int × (PN Int 8) × (List (Int × Int × Int)) × Bool) × (Int × (PN Int 8) × (List (Int × Int × Int)) × Bool) × (List Int) × Bool
abbrev Y2_2 : Ty := .pair (.int .i64) (.pair (.int .i64) (.pair (.int .i64) (.pair (.sl 24 (.pair (.int .i64) (.pair (.int .i64) (.pair (.int .i64) (.int .i64))))) (.pair (.sl 24 (.pair (.int .i64) (.pair (.int .i64) (.pair (.int .i64) (.int .i64))))) (.sl 24 (.pair (.int .i64) (.pair (.int .i64) (.pair (.int .i64) (.int .i64)))))))))
abbrev Y2_3 : Type := Int × (Int × Int) × (Int × Int) × ((List Int) × List Int) × (Int × List (Int × Int)) × Int
abbrev Y2_4 : Ty := .pair (.int .i64) (.pair (.int .i64) (.pair (.int .i64) (.pair (.int .i64) (.pair (.pair (.int .i64) (.pair (arrT 8 (.int .i64)) (.pair (.sl 189 (.pair (.int .i64) (.pair (.int .i64) (.int .i64)))) .bool))) (.pair (.pair (.int .i64) (.pair (arrT 8 (.int .i64)) (.pair (.sl 189 (.pair (.int .i64) (.pair (.int .i64) (.int .i64)))) .bool))) (.pair (.sl 3 (.int .i64)) .bool))))))
abbrev Y2_5 : Type := (Int × Int × (List Y2_0) × (List (PN Int 5)) × Bool × Bool × Bool × (List Y2_1) × (((List Int) × List Bool) × List Y2_3) × (List Int) × List Bool) × (List (PN Int 6)) × (List (Int × (Int × Int) × Int)) × Bool × Unit
abbrev Y2_6 : Type := Int × Int × (List Y2_0) × (List (PN Int 5)) × Bool × Bool × Bool × (List Y2_1) × (List Int) × (List Bool) × (List Y2_3) × (List Int) × (List Bool) × Unit
abbrev Y2_7 : Ty := .pair (.int .i64) (.pair (.pair (.int .i64) (.int .i64)) (.pair (.pair (.int .i64) (.int .i64)) (.pair (.pair (.sl 2 (.int .i64)) (.sl 3 (.int .i64))) (.pair (.pair (.int .u32) (.sl 126 (.pair (.int .i64) (.int .u32)))) (.int .u32)))))
abbrev Y2_8 : Type := Int × (Int × Y2_0 × (Int × Int) × Int × Int × Int) × Int × Int
abbrev Y2_9 : Ty := .pair (.int .i64) (.pair (.pair (.int .i64) (.pair Y2_2 (.pair (.pair (.int .i64) (.int .i64)) (.pair (.int .i64) (.pair (.int .i64) (.int .u32)))))) (.pair (.int .i64) (.int .i64)))
abbrev Y2_10 : Type := (Bool × Unit) × Unit
abbrev Y2_11 : Type := Int × (Int × Int) × Int
noncomputable section
abbrev c8_L5 : Cut := ⟨[4, 5, 6, 21, 22, 23], [.box 51 [cI, cI, .own 27 Y2_2, .own 134 (arrT 5 (.int .i64)), .cell .bool, .cell .bool, .cell .bool, .own 103 Y2_4, .own 3 (.int .i64), .own 4 .bool, .own 95 Y2_7, .own 3 (.int .i64), .own 4 .bool], .own 58 (arrT 6 (.int .i64)), .own 60 (.pair (.int .i64) (.pair (.pair (.int .i64) (.int .i64)) (.int .i64))), .cell (.sl 34 Y2_9), cI, cI], [], 46, []⟩
def l8_5 (k : Nat) (g5 : Int → Int → (List Y2_0) → (List (PN Int 5)) → Bool → Bool → Bool → (List Y2_1) → (List Int) → (List Bool) → (List Y2_3) → (List Int) → (List Bool) → (List (PN Int 6)) → (List Y2_11) → (List Y2_8) → Int → Int → Option (Y2_5 × Unit)) (a b : Int) (c : List Y2_0) (e : List (PN Int 5)) (f h i : Bool) (l : List Y2_1) (m : List Int) (n : List Bool) (o : List Y2_3) (p : List Int) (s : List Bool) (t : List (PN Int 6)) (u : List Y2_11) (v : List Y2_8) (w y : Int) : Option (Y2_5 × Unit) :=
 (bif decide (y < w) then
  ix v y <|
  (S9 k (a, b, c, e, f, h, i, l, ((m, n), o), p, s) (rd v y (0, (0, (0, 0, 0, [], [], []), (0, 0), 0, 0, 0), 0, 0))).bind fun q1 =>
  ap t q1.1.2.1 48 fun r2 =>
  ap u ([q1.1.2.2.1] : List Y2_11) 32 fun r3 =>
  g5 q1.1.1.1 q1.1.1.2.1 q1.1.1.2.2.1 q1.1.1.2.2.2.1 q1.1.1.2.2.2.2.1 q1.1.1.2.2.2.2.2.1 q1.1.1.2.2.2.2.2.2.1 q1.1.1.2.2.2.2.2.2.2.1 q1.1.1.2.2.2.2.2.2.2.2.1.1.1 q1.1.1.2.2.2.2.2.2.2.2.1.1.2 q1.1.1.2.2.2.2.2.2.2.2.1.2 q1.1.1.2.2.2.2.2.2.2.2.2.1 q1.1.1.2.2.2.2.2.2.2.2.2.2 r2 r3 v w (IntKind.i64.wrap (y + 1))
 else
  some (((a, b, c, e, f, h, i, l, ((m, n), o), p, s), t, u, true, ()), ()))
def b8_5 (k : Nat) (g : ((Unit) × Y2_6 × (List (PN Int 6)) × (List Y2_11) × (List Y2_8) × Int × Int × Unit) → Option (Y2_5 × Unit)) (d : (Unit) × Y2_6 × (List (PN Int 6)) × (List Y2_11) × (List Y2_8) × Int × Int × Unit) : Option (Y2_5 × Unit) := l8_5 k (fun a b c e f h i l m n o p s t u v w y => g ((), (a, b, c, e, f, h, i, l, m, n, o, p, s, ()), t, u, v, w, y, ())) d.2.1.1 d.2.1.2.1 d.2.1.2.2.1 d.2.1.2.2.2.1 d.2.1.2.2.2.2.1 d.2.1.2.2.2.2.2.1 d.2.1.2.2.2.2.2.2.1 d.2.1.2.2.2.2.2.2.2.1 d.2.1.2.2.2.2.2.2.2.2.1 d.2.1.2.2.2.2.2.2.2.2.2.1 d.2.1.2.2.2.2.2.2.2.2.2.2.1 d.2.1.2.2.2.2.2.2.2.2.2.2.2.1 d.2.1.2.2.2.2.2.2.2.2.2.2.2.2.1 d.2.2.1 d.2.2.2.1 d.2.2.2.2.1 d.2.2.2.2.2.1 d.2.2.2.2.2.2.1
def L8_5 (k a : Nat) (b c : Int) (e : List Y2_0) (f : List (PN Int 5)) (h i l : Bool) (m : List Y2_1) (n : List Int) (o : List Bool) (p : List Y2_3) (s : List Int) (t : List Bool) (u : List (PN Int 6)) (v : List Y2_11) (w : List Y2_8) (y z : Int) : Option (Y2_5 × Unit) := iter (R := Y2_5 × Unit) c8_L5 (b8_5 k) a ((), (b, c, e, f, h, i, l, m, n, o, p, s, t, ()), u, v, w, y, z, ())
theorem L8_5_s (k a b c e f h i l m n o p s t u v w y z) : L8_5 k (a + 1) b c e f h i l m n o p s t u v w y z = l8_5 k (L8_5 k a) b c e f h i l m n o p s t u v w y z := iter_succ _ _ _ _
def S8 (k : Nat) (a : Int) (b : List Y2_8) : Option (Y2_5 × Unit) :=
 (S10 k a).bind fun q0 =>
 (bif !q0.1.2.1 then
  some (((0, 0, [], [], false, false, false, [], (([], []), []), [], []), ([] : List (PN Int 6)), ([] : List Y2_11), false, ()), ())
 else
  L8_5 k k q0.1.1.1 q0.1.1.2.1 q0.1.1.2.2.1 q0.1.1.2.2.2.1 q0.1.1.2.2.2.2.1 q0.1.1.2.2.2.2.2.1 q0.1.1.2.2.2.2.2.2.1 q0.1.1.2.2.2.2.2.2.2.1 q0.1.1.2.2.2.2.2.2.2.2.1.1.1 q0.1.1.2.2.2.2.2.2.2.2.1.1.2 q0.1.1.2.2.2.2.2.2.2.2.1.2 q0.1.1.2.2.2.2.2.2.2.2.2.1 q0.1.1.2.2.2.2.2.2.2.2.2.2 ([] : List (PN Int 6)) ([] : List Y2_11) b (b.length : Int) 0)
def F8 : Fn := ⟨[.val ⟨false, (.int .i64), false⟩, .val ⟨false, (.sl 34 Y2_9), false⟩], [.val ⟨true, (.pair (.int .i64) (.pair (.int .i64) (.pair (.sl 27 Y2_2) (.pair (.sl 134 (arrT 5 (.int .i64))) (.pair .bool (.pair .bool (.pair .bool (.pair (.sl 103 Y2_4) (.pair (.pair (.pair (.sl 3 (.int .i64)) (.sl 4 .bool)) (.sl 95 Y2_7)) (.pair (.sl 3 (.int .i64)) (.sl 4 .bool))))))))))), true⟩, .val ⟨false, (.sl 58 (arrT 6 (.int .i64))), true⟩, .val ⟨false, (.sl 60 (.pair (.int .i64) (.pair (.pair (.int .i64) (.int .i64)) (.int .i64)))), true⟩, .val ⟨false, .bool, true⟩], fun k x => S8 k x.1 x.2.1⟩
theorem ok8 : FnOK Tryz.prog 8 F8 := okF [(9, F9), (10, F10)] [(5, 2), (6, 2)] (fun k => (.loop 5 c8_L5 (b8_5 k) (fun g => .nil) .nil)) ⟨ok9, ok10, trivial⟩ Tryz.func8 rfl
def S5 (k : Nat) : Option Y2_10 :=
 (S8 k 10 ([(2, (0, (0, 0, 0, [], [], []), (0, 0), 0, 0, 0), 0, 0), (5, (0, (0, 0, 0, [], [], []), (0, 0), 0, 0, 0), 0, 3), (9, (0, (0, 0, 0, [], [], []), (0, 0), 0, 0, 0), 0, 0)] : List Y2_8)).bind fun q0 =>
 (S8 k 0 []).bind fun q1 =>
 (S9 k q0.1.1 (3, (0, (0, 0, 0, [], [], []), (0, 0), 0, 0, 0), 0, 0)).bind fun q2 =>
 (bif q0.1.2.2.2.1 then
  (bif q0.1.1.1 == 4 then
   (bif (q0.1.2.1.length : Int) == 0 then
    (bif (q0.1.2.2.1.length : Int) == 3 then
     ix q0.1.2.2.1 2 <|
     (bif (rd q0.1.2.2.1 2 (0, (0, 0), 0)).1 == 1 then
      (bif !q1.1.2.2.2.1 then
       (bif q2.1.1.2.2.2.2.2.2.1 then
        some ((q2.1.2.2.1.1 == 0, ()), ())
       else
        some ((false, ()), ()))
      else
       some ((false, ()), ()))
     else
      some ((false, ()), ()))
    else
     some ((false, ()), ()))
   else
    some ((false, ()), ()))
  else
   some ((false, ()), ()))
 else
  some ((false, ()), ()))
def F5 : Fn := ⟨[], [.val ⟨false, .bool, true⟩], fun k x => S5 k ⟩
theorem ok5 : FnOK Tryz.prog 5 F5 := okF [(8, F8), (9, F9)] [] (fun k => .nil) ⟨ok8, ok9, trivial⟩ Tryz.func5 rfl
def S7 (k : Nat) (a : Int × Y2_0 × (Int × Int) × Int × Int × Int) : Option ((Y2_8 × Unit) × Unit) :=
 some (((1, a, 0, 0), ()), ())
def F7 : Fn := ⟨[.val ⟨true, (.pair (.int .i64) (.pair Y2_2 (.pair (.pair (.int .i64) (.int .i64)) (.pair (.int .i64) (.pair (.int .i64) (.int .u32)))))), false⟩], [.val ⟨true, Y2_9, false⟩], fun k x => S7 k x.1⟩
theorem ok7 : FnOK Tryz.prog 7 F7 := okF [] [] (fun k => .nil) trivial Tryz.func7 rfl
def S6 (k : Nat) (a : Int) : Option ((Y2_8 × Unit) × Unit) :=
 (S7 k (6, (0, 0, 0, [], [], []), (0, 0), a, 5, 0)).bind fun q0 =>
 some ((q0.1.1, ()), ())
def F6 : Fn := ⟨[.val ⟨false, (.int .i64), false⟩], [.val ⟨true, Y2_9, false⟩], fun k x => S6 k x.1⟩
theorem ok6 : FnOK Tryz.prog 6 F6 := okF [(7, F7)] [] (fun k => .nil) ⟨ok7, trivial⟩ Tryz.func6 rfl
abbrev c3_L29 : Cut := ⟨[9, 12, 13, 14, 16, 18, 19], [.box 51 [cI, cI, .own 27 Y2_2, .own 134 (arrT 5 (.int .i64)), .cell .bool, .cell .bool, .cell .bool, .own 103 Y2_4, .own 3 (.int .i64), .own 4 .bool, .own 95 Y2_7, .own 3 (.int .i64), .own 4 .bool], .cell .bool, .own 3 (.int .i64), cI, .own 3 (.int .i64), .own 3 (.int .i64), cI], [], 163, []⟩
def l3_29 (k : Nat) (g29 : Int → Int → (List Y2_0) → (List (PN Int 5)) → Bool → Bool → Bool → (List Y2_1) → (List Int) → (List Bool) → (List Y2_3) → (List Int) → (List Bool) → Bool → (List Int) → Int → (List Int) → (List Int) → Int → Option Y2_10) (a b : Int) (c : List Y2_0) (e : List (PN Int 5)) (f h i : Bool) (l : List Y2_1) (m : List Int) (n : List Bool) (o : List Y2_3) (p : List Int) (s : List Bool) (t : Bool) (u : List Int) (v : Int) (w y : List Int) (z : Int) : Option Y2_10 :=
 (bif decide (z < (y.length : Int)) then
  ix w z <|
  ix y z <|
  (bif (rd w z 0) != (rd y z 0) then
   some ((false, ()), ())
  else
   g29 a b c e f h i l m n o p s t u v w y (IntKind.i64.wrap (z + 1)))
 else
  (bif t then
   (bif v == (u.length : Int) then
    (bif a == 9 then
     some (((l.length : Int) == 0, ()), ())
    else
     some ((false, ()), ()))
   else
    some ((false, ()), ()))
  else
   some ((false, ()), ())))
def b3_29 (k : Nat) (g : ((Unit) × Y2_6 × Bool × (List Int) × Int × (List Int) × (List Int) × Int × Unit) → Option Y2_10) (d : (Unit) × Y2_6 × Bool × (List Int) × Int × (List Int) × (List Int) × Int × Unit) : Option Y2_10 := l3_29 k (fun a b c e f h i l m n o p s t u v w y z => g ((), (a, b, c, e, f, h, i, l, m, n, o, p, s, ()), t, u, v, w, y, z, ())) d.2.1.1 d.2.1.2.1 d.2.1.2.2.1 d.2.1.2.2.2.1 d.2.1.2.2.2.2.1 d.2.1.2.2.2.2.2.1 d.2.1.2.2.2.2.2.2.1 d.2.1.2.2.2.2.2.2.2.1 d.2.1.2.2.2.2.2.2.2.2.1 d.2.1.2.2.2.2.2.2.2.2.2.1 d.2.1.2.2.2.2.2.2.2.2.2.2.1 d.2.1.2.2.2.2.2.2.2.2.2.2.2.1 d.2.1.2.2.2.2.2.2.2.2.2.2.2.2.1 d.2.2.1 d.2.2.2.1 d.2.2.2.2.1 d.2.2.2.2.2.1 d.2.2.2.2.2.2.1 d.2.2.2.2.2.2.2.1
def L3_29 (k a : Nat) (b c : Int) (e : List Y2_0) (f : List (PN Int 5)) (h i l : Bool) (m : List Y2_1) (n : List Int) (o : List Bool) (p : List Y2_3) (s : List Int) (t : List Bool) (u : Bool) (v : List Int) (w : Int) (y z : List Int) (A : Int) : Option Y2_10 := iter (R := (Bool × Unit) × Unit) c3_L29 (b3_29 k) a ((), (b, c, e, f, h, i, l, m, n, o, p, s, t, ()), u, v, w, y, z, A, ())
theorem L3_29_s (k a b c e f h i l m n o p s t u v w y z A) : L3_29 k (a + 1) b c e f h i l m n o p s t u v w y z A = l3_29 k (L3_29 k a) b c e f h i l m n o p s t u v w y z A := iter_succ _ _ _ _
abbrev c3_L21 : Cut := ⟨[9, 10, 12, 13, 14, 16, 17], [.box 51 [cI, cI, .own 27 Y2_2, .own 134 (arrT 5 (.int .i64)), .cell .bool, .cell .bool, .cell .bool, .own 103 Y2_4, .own 3 (.int .i64), .own 4 .bool, .own 95 Y2_7, .own 3 (.int .i64), .own 4 .bool], .own 58 (arrT 6 (.int .i64)), .cell .bool, .own 3 (.int .i64), cI, .own 3 (.int .i64), cI], [], 163, []⟩
def l3_21 (k : Nat) (g21 : Int → Int → (List Y2_0) → (List (PN Int 5)) → Bool → Bool → Bool → (List Y2_1) → (List Int) → (List Bool) → (List Y2_3) → (List Int) → (List Bool) → (List (PN Int 6)) → Bool → (List Int) → Int → (List Int) → Int → Option Y2_10) (a b : Int) (c : List Y2_0) (e : List (PN Int 5)) (f h i : Bool) (l : List Y2_1) (m : List Int) (n : List Bool) (o : List Y2_3) (p : List Int) (s : List Bool) (t : List (PN Int 6)) (u : Bool) (v : List Int) (w : Int) (y : List Int) (z : Int) : Option Y2_10 :=
 (bif decide (z < (t.length : Int)) then
  ix t z <|
  (bif (rd t z (prep (α := Int) 6 0)).2.1 != 2 then
   ix t z <|
   ap y ([(rd t z (prep (α := Int) 6 0)).2.1] : List Int) 8 fun r8 =>
   g21 a b c e f h i l m n o p s t u v w r8 (IntKind.i64.wrap (z + 1))
  else
   g21 a b c e f h i l m n o p s t u v w y (IntKind.i64.wrap (z + 1)))
 else
  (bif (y.length : Int) != (([1, 1, 6, 3, 3, 4] : List Int).length : Int) then
   some ((false, ()), ())
  else
   L3_29 k k a b c e f h i l m n o p s u v w y ([1, 1, 6, 3, 3, 4] : List Int) 0))
def b3_21 (k : Nat) (g : ((Unit) × Y2_6 × (List (PN Int 6)) × Bool × (List Int) × Int × (List Int) × Int × Unit) → Option Y2_10) (d : (Unit) × Y2_6 × (List (PN Int 6)) × Bool × (List Int) × Int × (List Int) × Int × Unit) : Option Y2_10 := l3_21 k (fun a b c e f h i l m n o p s t u v w y z => g ((), (a, b, c, e, f, h, i, l, m, n, o, p, s, ()), t, u, v, w, y, z, ())) d.2.1.1 d.2.1.2.1 d.2.1.2.2.1 d.2.1.2.2.2.1 d.2.1.2.2.2.2.1 d.2.1.2.2.2.2.2.1 d.2.1.2.2.2.2.2.2.1 d.2.1.2.2.2.2.2.2.2.1 d.2.1.2.2.2.2.2.2.2.2.1 d.2.1.2.2.2.2.2.2.2.2.2.1 d.2.1.2.2.2.2.2.2.2.2.2.2.1 d.2.1.2.2.2.2.2.2.2.2.2.2.2.1 d.2.1.2.2.2.2.2.2.2.2.2.2.2.2.1 d.2.2.1 d.2.2.2.1 d.2.2.2.2.1 d.2.2.2.2.2.1 d.2.2.2.2.2.2.1 d.2.2.2.2.2.2.2.1
def L3_21 (k a : Nat) (b c : Int) (e : List Y2_0) (f : List (PN Int 5)) (h i l : Bool) (m : List Y2_1) (n : List Int) (o : List Bool) (p : List Y2_3) (s : List Int) (t : List Bool) (u : List (PN Int 6)) (v : Bool) (w : List Int) (y : Int) (z : List Int) (A : Int) : Option Y2_10 := iter (R := (Bool × Unit) × Unit) c3_L21 (b3_21 k) a ((), (b, c, e, f, h, i, l, m, n, o, p, s, t, ()), u, v, w, y, z, A, ())
theorem L3_21_s (k a b c e f h i l m n o p s t u v w y z A) : L3_21 k (a + 1) b c e f h i l m n o p s t u v w y z A = l3_21 k (L3_21 k a) b c e f h i l m n o p s t u v w y z A := iter_succ _ _ _ _
abbrev c3_L13 : Cut := ⟨[9, 10, 12, 13, 14, 15], [.box 51 [cI, cI, .own 27 Y2_2, .own 134 (arrT 5 (.int .i64)), .cell .bool, .cell .bool, .cell .bool, .own 103 Y2_4, .own 3 (.int .i64), .own 4 .bool, .own 95 Y2_7, .own 3 (.int .i64), .own 4 .bool], .own 58 (arrT 6 (.int .i64)), .cell .bool, .own 3 (.int .i64), cI, cI], [], 163, []⟩
def l3_13 (k : Nat) (g13 : Int → Int → (List Y2_0) → (List (PN Int 5)) → Bool → Bool → Bool → (List Y2_1) → (List Int) → (List Bool) → (List Y2_3) → (List Int) → (List Bool) → (List (PN Int 6)) → Bool → (List Int) → Int → Int → Option Y2_10) (a b : Int) (c : List Y2_0) (e : List (PN Int 5)) (f h i : Bool) (l : List Y2_1) (m : List Int) (n : List Bool) (o : List Y2_3) (p : List Int) (s : List Bool) (t : List (PN Int 6)) (u : Bool) (v : List Int) (w y : Int) : Option Y2_10 :=
 (bif decide (y < (t.length : Int)) then
  ix t y <|
  (bif (rd t y (prep (α := Int) 6 0)).2.1 != 2 then
   g13 a b c e f h i l m n o p s t u v w (IntKind.i64.wrap (y + 1))
  else
   (bif decide (w ≥ (v.length : Int)) then
    some ((false, ()), ())
   else
    ix t y <|
    (bif (rd t y (prep (α := Int) 6 0)).1 != w then
     some ((false, ()), ())
    else
     ix t y <|
     ix v w <|
     (bif (rd t y (prep (α := Int) 6 0)).2.2.1 != (rd v w 0) then
      some ((false, ()), ())
     else
      g13 a b c e f h i l m n o p s t u v (IntKind.i64.wrap (w + 1)) (IntKind.i64.wrap (y + 1))))))
 else
  L3_21 k k a b c e f h i l m n o p s t u v w ([] : List Int) 0)
def b3_13 (k : Nat) (g : ((Unit) × Y2_6 × (List (PN Int 6)) × Bool × (List Int) × Int × Int × Unit) → Option Y2_10) (d : (Unit) × Y2_6 × (List (PN Int 6)) × Bool × (List Int) × Int × Int × Unit) : Option Y2_10 := l3_13 k (fun a b c e f h i l m n o p s t u v w y => g ((), (a, b, c, e, f, h, i, l, m, n, o, p, s, ()), t, u, v, w, y, ())) d.2.1.1 d.2.1.2.1 d.2.1.2.2.1 d.2.1.2.2.2.1 d.2.1.2.2.2.2.1 d.2.1.2.2.2.2.2.1 d.2.1.2.2.2.2.2.2.1 d.2.1.2.2.2.2.2.2.2.1 d.2.1.2.2.2.2.2.2.2.2.1 d.2.1.2.2.2.2.2.2.2.2.2.1 d.2.1.2.2.2.2.2.2.2.2.2.2.1 d.2.1.2.2.2.2.2.2.2.2.2.2.2.1 d.2.1.2.2.2.2.2.2.2.2.2.2.2.2.1 d.2.2.1 d.2.2.2.1 d.2.2.2.2.1 d.2.2.2.2.2.1 d.2.2.2.2.2.2.1
def L3_13 (k a : Nat) (b c : Int) (e : List Y2_0) (f : List (PN Int 5)) (h i l : Bool) (m : List Y2_1) (n : List Int) (o : List Bool) (p : List Y2_3) (s : List Int) (t : List Bool) (u : List (PN Int 6)) (v : Bool) (w : List Int) (y z : Int) : Option Y2_10 := iter (R := (Bool × Unit) × Unit) c3_L13 (b3_13 k) a ((), (b, c, e, f, h, i, l, m, n, o, p, s, t, ()), u, v, w, y, z, ())
theorem L3_13_s (k a b c e f h i l m n o p s t u v w y z) : L3_13 k (a + 1) b c e f h i l m n o p s t u v w y z = l3_13 k (L3_13 k a) b c e f h i l m n o p s t u v w y z := iter_succ _ _ _ _
def S3 (k : Nat) : Option Y2_10 :=
 (S5 k).bind fun q0 =>
 (bif !q0.1.1 then
  some ((false, ()), ())
 else
  (S6 k 0).bind fun q1 =>
  (S7 k (2, (0, 0, 0, [], [], []), (0, 0), 0, 0, 0)).bind fun q2 =>
  (S7 k (1, (0, 50, 50, ([(9, 0, 0, 0), (10, 0, 0, 0), (0, 0, 0, 0)] : List (Int × Int × Int × Int)), [], []), (0, 0), 0, 0, 0)).bind fun q3 =>
  (S7 k (1, (1, 50, 50, ([(9, 0, 0, 0), (1, 1, 0, 0), (10, 0, 0, 0), (0, 0, 0, 0)] : List (Int × Int × Int × Int)), [], ([(0, 0, 0, 0)] : List (Int × Int × Int × Int))), (0, 0), 0, 0, 0)).bind fun q4 =>
  (S7 k (5, (0, 0, 0, [], [], []), (0, 0), 0, 0, 0)).bind fun q5 =>
  (S6 k 1).bind fun q6 =>
  (S8 k 100 ([q2.1.1, q3.1.1, q4.1.1, q5.1.1, q6.1.1, (2, (0, (0, 0, 0, [], [], []), (0, 0), 0, 0, 0), 0, 0), q1.1.1, (5, (0, (0, 0, 0, [], [], []), (0, 0), 0, 0, 0), 0, 2), (3, (0, (0, 0, 0, [], [], []), (0, 0), 0, 0, 0), 0, 0), (5, (0, (0, 0, 0, [], [], []), (0, 0), 0, 0, 0), 0, 6)] : List Y2_8)).bind fun q7 =>
  L3_13 k k q7.1.1.1 q7.1.1.2.1 q7.1.1.2.2.1 q7.1.1.2.2.2.1 q7.1.1.2.2.2.2.1 q7.1.1.2.2.2.2.2.1 q7.1.1.2.2.2.2.2.2.1 q7.1.1.2.2.2.2.2.2.2.1 q7.1.1.2.2.2.2.2.2.2.2.1.1.1 q7.1.1.2.2.2.2.2.2.2.2.1.1.2 q7.1.1.2.2.2.2.2.2.2.2.1.2 q7.1.1.2.2.2.2.2.2.2.2.2.1 q7.1.1.2.2.2.2.2.2.2.2.2.2 q7.1.2.1 q7.1.2.2.2.1 ([1, 1, 1, 0, 0, 0, 0, 1, 1] : List Int) 0 0)
def F3 : Fn := ⟨[], [.val ⟨false, .bool, true⟩], fun k x => S3 k ⟩
theorem ok3 : FnOK Tryz.prog 3 F3 := okF [(5, F5), (6, F6), (7, F7), (8, F8)] [(16, 2)] (fun k => (.loop 29 c3_L29 (b3_29 k) (fun g => .nil) (.loop 21 c3_L21 (b3_21 k) (fun g => .nil) (.loop 13 c3_L13 (b3_13 k) (fun g => .nil) .nil)))) ⟨ok5, ok6, ok7, ok8, trivial⟩ Tryz.func3 rfl
end
end Go.Proofs.YtfbkmdemekjdgaaGreat.Ab
