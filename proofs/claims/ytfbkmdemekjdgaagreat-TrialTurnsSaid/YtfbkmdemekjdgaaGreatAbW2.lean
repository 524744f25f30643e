import Derived.Test.YtfbkmdemekjdgaaGreatAbW1
/- Contracts, printed by this session's own program gen.py. -/
set_option linter.unusedVariables false
set_option linter.unusedSimpArgs false
set_option maxRecDepth 100000
namespace Go.Proofs.YtfbkmdemekjdgaaGreat.Ab
open Go.RowKit
abbrev Y2_0 : Type := (Int × Int × (List (Int × Int × Int × (List (Int × Int × Int × Int)) × (List (Int × Int × Int × Int)) × List (Int × Int × Int × Int))) × (List (PN Int 5)) × Bool × Bool × Bool × (List (Int × Int × Int × Int × (Int × (PN Int 8) × (List (Int × Int × Int)) × Bool) × (Int × (PN Int 8) × (List (Int × Int × Int)) × Bool) × (List Int) × Bool)) × (((List Int) × List Bool) × List (Int × (Int × Int) × (Int × Int) × ((List Int) × List Int) × (Int × List (Int × Int)) × Int)) × (List Int) × List Bool) × (List (PN Int 6)) × (List (Int × (Int × Int) × Int)) × Bool × Unit
abbrev Y2_1 : Ty := .pair (.int .i64) (.pair (.int .i64) (.pair (.int .i64) (.pair (.sl 24 (.pair (.int .i64) (.pair (.int .i64) (.pair (.int .i64) (.int .i64))))) (.pair (.sl 24 (.pair (.int .i64) (.pair (.int .i64) (.pair (.int .i64) (.int .i64))))) (.sl 24 (.pair (.int .i64) (.pair (.int .i64) (.pair (.int .i64) (.int .i64)))))))))
abbrev Y2_2 : Type := Int × Int × Int × (List (Int × Int × Int × Int)) × (List (Int × Int × Int × Int)) × List (Int × Int × Int × Int)
abbrev Y2_3 : Type := Int × Int × Int × Int × (Int × (PN Int 8) × (List (Int × Int × Int)) × Bool) × (Int × (PN Int 8) × (List (Int × Int × Int)) × Bool) × (List Int) × Bool
abbrev Y2_4 : Ty := .pair (.int .i64) (.pair (.int .i64) (.pair (.int .i64) (.pair (.int .i64) (.pair (.pair (.int .i64) (.pair (arrT 8 (.int .i64)) (.pair (.sl 189 (.pair (.int .i64) (.pair (.int .i64) (.int .i64)))) .bool))) (.pair (.pair (.int .i64) (.pair (arrT 8 (.int .i64)) (.pair (.sl 189 (.pair (.int .i64) (.pair (.int .i64) (.int .i64)))) .bool))) (.pair (.sl 3 (.int .i64)) .bool))))))
abbrev Y2_5 : Type := Int × (Int × Y2_2 × (Int × Int) × Int × Int × Int) × Int × Int
abbrev Y2_6 : Type := Int × (Int × Int) × (Int × Int) × ((List Int) × List Int) × (Int × List (Int × Int)) × Int
abbrev Y2_7 : Ty := .pair (.int .i64) (.pair (.pair (.int .i64) (.int .i64)) (.pair (.pair (.int .i64) (.int .i64)) (.pair (.pair (.sl 2 (.int .i64)) (.sl 3 (.int .i64))) (.pair (.pair (.int .u32) (.sl 126 (.pair (.int .i64) (.int .u32)))) (.int .u32)))))
abbrev Y2_8 : Ty := .pair (.int .i64) (.pair (.pair (.int .i64) (.pair Y2_1 (.pair (.pair (.int .i64) (.int .i64)) (.pair (.int .i64) (.pair (.int .i64) (.int .u32)))))) (.pair (.int .i64) (.int .i64)))
abbrev Y2_9 : Type := Int × Int × (List Y2_2) × (List (PN Int 5)) × Bool × Bool × Bool × (List Y2_3) × (List Int) × (List Bool) × (List Y2_6) × (List Int) × (List Bool) × Unit
abbrev Y2_10 : Type := Int × (Int × Int) × Int
noncomputable section
abbrev c8_L5 : Cut := ⟨[4, 5, 6, 21, 22, 23], [.box 51 [cI, cI, .own 27 Y2_1, .own 134 (arrT 5 (.int .i64)), .cell .bool, .cell .bool, .cell .bool, .own 103 Y2_4, .own 3 (.int .i64), .own 4 .bool, .own 95 Y2_7, .own 3 (.int .i64), .own 4 .bool], .own 58 (arrT 6 (.int .i64)), .own 60 (.pair (.int .i64) (.pair (.pair (.int .i64) (.int .i64)) (.int .i64))), .cell (.sl 34 Y2_8), cI, cI], [], 46, []⟩
def l8_5 (k : Nat) (g5 : Int → Int → (List Y2_2) → (List (PN Int 5)) → Bool → Bool → Bool → (List Y2_3) → (List Int) → (List Bool) → (List Y2_6) → (List Int) → (List Bool) → (List (PN Int 6)) → (List Y2_10) → (List Y2_5) → Int → Int → Option (Y2_0 × Unit)) (a b : Int) (c : List Y2_2) (e : List (PN Int 5)) (f h i : Bool) (l : List Y2_3) (m : List Int) (n : List Bool) (o : List Y2_6) (p : List Int) (s : List Bool) (t : List (PN Int 6)) (u : List Y2_10) (v : List Y2_5) (w y : Int) : Option (Y2_0 × Unit) :=
 (bif decide (y < w) then
  ix v y <|
  (S9 k (a, b, c, e, f, h, i, l, ((m, n), o), p, s) (rd v y (0, (0, (0, 0, 0, [], [], []), (0, 0), 0, 0, 0), 0, 0))).bind fun q1 =>
  ap t q1.1.2.1 48 fun r2 =>
  ap u ([q1.1.2.2.1] : List Y2_10) 32 fun r3 =>
  g5 q1.1.1.1 q1.1.1.2.1 q1.1.1.2.2.1 q1.1.1.2.2.2.1 q1.1.1.2.2.2.2.1 q1.1.1.2.2.2.2.2.1 q1.1.1.2.2.2.2.2.2.1 q1.1.1.2.2.2.2.2.2.2.1 q1.1.1.2.2.2.2.2.2.2.2.1.1.1 q1.1.1.2.2.2.2.2.2.2.2.1.1.2 q1.1.1.2.2.2.2.2.2.2.2.1.2 q1.1.1.2.2.2.2.2.2.2.2.2.1 q1.1.1.2.2.2.2.2.2.2.2.2.2 r2 r3 v w (IntKind.i64.wrap (y + 1))
 else
  some (((a, b, c, e, f, h, i, l, ((m, n), o), p, s), t, u, true, ()), ()))
def b8_5 (k : Nat) (g : ((Unit) × Y2_9 × (List (PN Int 6)) × (List Y2_10) × (List Y2_5) × Int × Int × Unit) → Option (Y2_0 × Unit)) : ((Unit) × Y2_9 × (List (PN Int 6)) × (List Y2_10) × (List Y2_5) × Int × Int × Unit) → Option (Y2_0 × Unit) := fun (_, (a, b, c, e, f, h, i, l, m, n, o, p, s, _), t, u, v, w, y, _) => l8_5 k (fun a b c e f h i l m n o p s t u v w y => g ((), (a, b, c, e, f, h, i, l, m, n, o, p, s, ()), t, u, v, w, y, ())) a b c e f h i l m n o p s t u v w y
def L8_5 (k a : Nat) (b c : Int) (e : List Y2_2) (f : List (PN Int 5)) (h i l : Bool) (m : List Y2_3) (n : List Int) (o : List Bool) (p : List Y2_6) (s : List Int) (t : List Bool) (u : List (PN Int 6)) (v : List Y2_10) (w : List Y2_5) (y z : Int) : Option (Y2_0 × Unit) := iter (R := Y2_0 × Unit) c8_L5 (b8_5 k) a ((), (b, c, e, f, h, i, l, m, n, o, p, s, t, ()), u, v, w, y, z, ())
theorem L8_5_s (k a b c e f h i l m n o p s t u v w y z) : L8_5 k (a + 1) b c e f h i l m n o p s t u v w y z = l8_5 k (L8_5 k a) b c e f h i l m n o p s t u v w y z := iter_succ _ _ _ _
def S8 (k : Nat) (a : Int) (b : List Y2_5) : Option (Y2_0 × Unit) :=
 (S10 k a).bind fun q0 =>
 (bif !q0.1.2.1 then
  some (((0, 0, [], [], false, false, false, [], (([], []), []), [], []), ([] : List (PN Int 6)), ([] : List Y2_10), false, ()), ())
 else
  L8_5 k k q0.1.1.1 q0.1.1.2.1 q0.1.1.2.2.1 q0.1.1.2.2.2.1 q0.1.1.2.2.2.2.1 q0.1.1.2.2.2.2.2.1 q0.1.1.2.2.2.2.2.2.1 q0.1.1.2.2.2.2.2.2.2.1 q0.1.1.2.2.2.2.2.2.2.2.1.1.1 q0.1.1.2.2.2.2.2.2.2.2.1.1.2 q0.1.1.2.2.2.2.2.2.2.2.1.2 q0.1.1.2.2.2.2.2.2.2.2.2.1 q0.1.1.2.2.2.2.2.2.2.2.2.2 ([] : List (PN Int 6)) ([] : List Y2_10) b (b.length : Int) 0)
def F8 : Fn := ⟨[.val ⟨false, (.int .i64), false⟩, .val ⟨false, (.sl 34 Y2_8), false⟩], [.val ⟨true, (.pair (.int .i64) (.pair (.int .i64) (.pair (.sl 27 Y2_1) (.pair (.sl 134 (arrT 5 (.int .i64))) (.pair .bool (.pair .bool (.pair .bool (.pair (.sl 103 Y2_4) (.pair (.pair (.pair (.sl 3 (.int .i64)) (.sl 4 .bool)) (.sl 95 Y2_7)) (.pair (.sl 3 (.int .i64)) (.sl 4 .bool))))))))))), true⟩, .val ⟨false, (.sl 58 (arrT 6 (.int .i64))), true⟩, .val ⟨false, (.sl 60 (.pair (.int .i64) (.pair (.pair (.int .i64) (.int .i64)) (.int .i64)))), true⟩, .val ⟨false, .bool, true⟩], fun k x => S8 k x.1 x.2.1⟩
theorem ok8 : FnOK Tryz.prog 8 F8 := okF [(9, F9), (10, F10)] [(5, 2), (6, 2)] (fun k => (.loop 5 c8_L5 (b8_5 k) (fun g => .nil) .nil)) ⟨ok9, ok10, trivial⟩ Tryz.func8 rfl
def S5 (k : Nat) : Option ((Bool × Unit) × Unit) :=
 (S8 k 10 ([(2, (0, (0, 0, 0, [], [], []), (0, 0), 0, 0, 0), 0, 0), (5, (0, (0, 0, 0, [], [], []), (0, 0), 0, 0, 0), 0, 3), (9, (0, (0, 0, 0, [], [], []), (0, 0), 0, 0, 0), 0, 0)] : List Y2_5)).bind fun q0 =>
 (S8 k 0 []).bind fun q1 =>
 (S9 k q0.1.1 (3, (0, (0, 0, 0, [], [], []), (0, 0), 0, 0, 0), 0, 0)).bind fun q2 =>
 (bif q0.1.2.2.2.1 then
  (bif q0.1.1.1 == 4 then
   (bif (q0.1.2.1.length : Int) == 0 then
    (bif (q0.1.2.2.1.length : Int) == 3 then
     ix q0.1.2.2.1 2 <|
     (bif (rd q0.1.2.2.1 2 (0, (0, 0), 0)).1 == 1 then
      (bif !q1.1.2.2.2.1 then
       (bif q2.1.1.2.2.2.2.2.2.1 then
        some ((q2.1.2.2.1.1 == 0, ()), ())
       else
        some ((false, ()), ()))
      else
       some ((false, ()), ()))
     else
      some ((false, ()), ()))
    else
     some ((false, ()), ()))
   else
    some ((false, ()), ()))
  else
   some ((false, ()), ()))
 else
  some ((false, ()), ()))
def F5 : Fn := ⟨[], [.val ⟨false, .bool, true⟩], fun k x => S5 k ⟩
theorem ok5 : FnOK Tryz.prog 5 F5 := okF [(8, F8), (9, F9)] [] (fun k => .nil) ⟨ok8, ok9, trivial⟩ Tryz.func5 rfl
def S7 (k : Nat) (a : Int × Y2_2 × (Int × Int) × Int × Int × Int) : Option ((Y2_5 × Unit) × Unit) :=
 some (((1, a, 0, 0), ()), ())
def F7 : Fn := ⟨[.val ⟨true, (.pair (.int .i64) (.pair Y2_1 (.pair (.pair (.int .i64) (.int .i64)) (.pair (.int .i64) (.pair (.int .i64) (.int .u32)))))), false⟩], [.val ⟨true, Y2_8, false⟩], fun k x => S7 k x.1⟩
theorem ok7 : FnOK Tryz.prog 7 F7 := okF [] [] (fun k => .nil) trivial Tryz.func7 rfl
abbrev c4_J15 : Cut := ⟨[7, 9, 13, 14, 16, 18, 20, 22], [cI, .box 51 [cI, cI, .own 27 Y2_1, .own 134 (arrT 5 (.int .i64)), .cell .bool, .cell .bool, .cell .bool, .own 103 Y2_4, .own 3 (.int .i64), .own 4 .bool, .own 95 Y2_7, .own 3 (.int .i64), .own 4 .bool], .box 29 [cI, cI], .box 29 [cI, cI], .box 60 [cI, cI, cI, cI], .box 60 [cI, cI, cI, cI], .box 60 [cI, cI, cI, cI], .box 60 [cI, cI, cI, cI]], [], 219, []⟩
def j4_15 (k : Nat) (a b c : Int) (e : List Y2_2) (f : List (PN Int 5)) (h i l : Bool) (m : List Y2_3) (n : List Int) (o : List Bool) (p : List Y2_6) (s : List Int) (t : List Bool) (u v w y z A B C D G H I d J K M N O P Q : Int) : Option ((Bool × Unit) × Unit) :=
 (S9 k (b, c, e, f, h, i, l, m, ((n, o), p), s, t) (2, (0, (0, 0, 0, [], [], []), (0, 0), 0, 0, 0), 0, 0)).bind fun q13 =>
 (S7 k (8, (0, 0, 0, [], [], []), (u, v), a, 0, 0)).bind fun q14 =>
 (S9 k q13.1.1 q14.1.1).bind fun q15 =>
 (S7 k (9, (0, 0, 0, [], [], []), (w, y), 0, 0, 2)).bind fun q16 =>
 (S9 k q15.1.1 q16.1.1).bind fun q17 =>
 (S9 k q15.1.1 (2, (0, (0, 0, 0, [], [], []), (0, 0), 0, 0, 0), 0, 0)).bind fun q18 =>
 (bif z == 0 then
  (bif D == 16 then
   (bif d == 0 then
    (bif N == 0 then
     (bif (q13.1.2.1.length : Int) == 3 then
      ix q13.1.2.1 0 <|
      (bif beqD (arrT 6 (.int .i64)) (rd q13.1.2.1 0 (prep (α := Int) 6 0)) (0, 11, 0, u, 0, 0) then
       ix q13.1.2.1 1 <|
       (bif beqD (arrT 6 (.int .i64)) (rd q13.1.2.1 1 (prep (α := Int) 6 0)) (0, 11, 0, w, 0, 0) then
        ix q13.1.2.1 2 <|
        (bif beqD (arrT 6 (.int .i64)) (rd q13.1.2.1 2 (prep (α := Int) 6 0)) (0, 12, 0, a, 0, 15) then
         (bif q15.1.2.2.1.1 == 16 then
          (bif q17.1.2.2.1.1 == 0 then
           (bif (q17.1.2.1.length : Int) == 0 then
            some (((q18.1.2.1.length : Int) == 0, ()), ())
           else
            some ((false, ()), ()))
          else
           some ((false, ()), ()))
         else
          some ((false, ()), ()))
        else
         some ((false, ()), ()))
       else
        some ((false, ()), ()))
      else
       some ((false, ()), ()))
     else
      some ((false, ()), ()))
    else
     some ((false, ()), ()))
   else
    some ((false, ()), ()))
  else
   some ((false, ()), ()))
 else
  some ((false, ()), ()))
def S4 (k : Nat) (a b c : Int) : Option ((Bool × Unit) × Unit) :=
 (S5 k).bind fun q0 =>
 (bif !q0.1.1 then
  some ((false, ()), ())
 else
  (S7 k (3, (0, 0, 0, [], [], []), (0, 0), 0, 0, 0)).bind fun q1 =>
  (S7 k (4, (0, 0, 0, [], [], []), (0, 0), 0, 0, 0)).bind fun q2 =>
  (S7 k (5, (0, 0, 0, [], [], []), (0, 0), 0, 0, 0)).bind fun q3 =>
  (S8 k 10 ([q1.1.1, q2.1.1, q3.1.1] : List Y2_5)).bind fun q4 =>
  (bif !q4.1.2.2.2.1 then
   some ((false, ()), ())
  else
   (bif (q4.1.2.2.1.length : Int) != 3 then
    some ((false, ()), ())
   else
    ix q4.1.2.2.1 0 <|
    ix q4.1.2.2.1 1 <|
    (S7 k (7, (0, 0, 0, [], [], []), (rd q4.1.2.2.1 0 (0, (0, 0), 0)).2.1, 0, a, 0)).bind fun q5 =>
    (S9 k q4.1.1 q5.1.1).bind fun q6 =>
    (S7 k (10, (0, 0, 0, [], [], []), (rd q4.1.2.2.1 1 (0, (0, 0), 0)).2.1, IntKind.i64.wrap (1 + (IntKind.i64.wrap b)), 0, 2)).bind fun q7 =>
    (S9 k q6.1.1 q7.1.1).bind fun q8 =>
    (S9 k q8.1.1 (4, (0, (0, 0, 0, [], [], []), (0, 0), 0, 0, 0), (rd q4.1.2.2.1 0 (0, (0, 0), 0)).2.1.1, 0)).bind fun q9 =>
    (S9 k q9.1.1 (4, (0, (0, 0, 0, [], [], []), (0, 0), 0, 0, 0), (rd q4.1.2.2.1 1 (0, (0, 0), 0)).2.1.1, 0)).bind fun q10 =>
    (bif (Int.tmod c 2) == 1 then
     (S7 k (7, (0, 0, 0, [], [], []), (rd q4.1.2.2.1 0 (0, (0, 0), 0)).2.1, 0, 8, 0)).bind fun q11 =>
     (S9 k q10.1.1 q11.1.1).bind fun q12 =>
     j4_15 k (IntKind.i64.wrap (1 + (IntKind.i64.wrap b))) q12.1.1.1 q12.1.1.2.1 q12.1.1.2.2.1 q12.1.1.2.2.2.1 q12.1.1.2.2.2.2.1 q12.1.1.2.2.2.2.2.1 q12.1.1.2.2.2.2.2.2.1 q12.1.1.2.2.2.2.2.2.2.1 q12.1.1.2.2.2.2.2.2.2.2.1.1.1 q12.1.1.2.2.2.2.2.2.2.2.1.1.2 q12.1.1.2.2.2.2.2.2.2.2.1.2 q12.1.1.2.2.2.2.2.2.2.2.2.1 q12.1.1.2.2.2.2.2.2.2.2.2.2 (rd q4.1.2.2.1 0 (0, (0, 0), 0)).2.1.1 (rd q4.1.2.2.1 0 (0, (0, 0), 0)).2.1.2 (rd q4.1.2.2.1 1 (0, (0, 0), 0)).2.1.1 (rd q4.1.2.2.1 1 (0, (0, 0), 0)).2.1.2 q6.1.2.2.1.1 q6.1.2.2.1.2.1.1 q6.1.2.2.1.2.1.2 q6.1.2.2.1.2.2 q8.1.2.2.1.1 q8.1.2.2.1.2.1.1 q8.1.2.2.1.2.1.2 q8.1.2.2.1.2.2 q9.1.2.2.1.1 q9.1.2.2.1.2.1.1 q9.1.2.2.1.2.1.2 q9.1.2.2.1.2.2 q10.1.2.2.1.1 q10.1.2.2.1.2.1.1 q10.1.2.2.1.2.1.2 q10.1.2.2.1.2.2
    else
     j4_15 k (IntKind.i64.wrap (1 + (IntKind.i64.wrap b))) q10.1.1.1 q10.1.1.2.1 q10.1.1.2.2.1 q10.1.1.2.2.2.1 q10.1.1.2.2.2.2.1 q10.1.1.2.2.2.2.2.1 q10.1.1.2.2.2.2.2.2.1 q10.1.1.2.2.2.2.2.2.2.1 q10.1.1.2.2.2.2.2.2.2.2.1.1.1 q10.1.1.2.2.2.2.2.2.2.2.1.1.2 q10.1.1.2.2.2.2.2.2.2.2.1.2 q10.1.1.2.2.2.2.2.2.2.2.2.1 q10.1.1.2.2.2.2.2.2.2.2.2.2 (rd q4.1.2.2.1 0 (0, (0, 0), 0)).2.1.1 (rd q4.1.2.2.1 0 (0, (0, 0), 0)).2.1.2 (rd q4.1.2.2.1 1 (0, (0, 0), 0)).2.1.1 (rd q4.1.2.2.1 1 (0, (0, 0), 0)).2.1.2 q6.1.2.2.1.1 q6.1.2.2.1.2.1.1 q6.1.2.2.1.2.1.2 q6.1.2.2.1.2.2 q8.1.2.2.1.1 q8.1.2.2.1.2.1.1 q8.1.2.2.1.2.1.2 q8.1.2.2.1.2.2 q9.1.2.2.1.1 q9.1.2.2.1.2.1.1 q9.1.2.2.1.2.1.2 q9.1.2.2.1.2.2 q10.1.2.2.1.1 q10.1.2.2.1.2.1.1 q10.1.2.2.1.2.1.2 q10.1.2.2.1.2.2))))
def F4 : Fn := ⟨[.val ⟨false, (.int .i64), false⟩, .val ⟨false, (.int .u8), false⟩, .val ⟨false, (.int .u8), false⟩], [.val ⟨false, .bool, true⟩], fun k (a, b, c, _) => S4 k a b c⟩
theorem ok4 : FnOK Tryz.prog 4 F4 := okF [(5, F5), (7, F7), (8, F8), (9, F9)] [] (fun k => (.join 15 c4_J15 (fun d => j4_15 k d.2.1 d.2.2.1.1 d.2.2.1.2.1 d.2.2.1.2.2.1 d.2.2.1.2.2.2.1 d.2.2.1.2.2.2.2.1 d.2.2.1.2.2.2.2.2.1 d.2.2.1.2.2.2.2.2.2.1 d.2.2.1.2.2.2.2.2.2.2.1 d.2.2.1.2.2.2.2.2.2.2.2.1 d.2.2.1.2.2.2.2.2.2.2.2.2.1 d.2.2.1.2.2.2.2.2.2.2.2.2.2.1 d.2.2.1.2.2.2.2.2.2.2.2.2.2.2.1 d.2.2.1.2.2.2.2.2.2.2.2.2.2.2.2.1 d.2.2.2.1.1 d.2.2.2.1.2.1 d.2.2.2.2.1.1 d.2.2.2.2.1.2.1 d.2.2.2.2.2.1.1 d.2.2.2.2.2.1.2.1 d.2.2.2.2.2.1.2.2.1 d.2.2.2.2.2.1.2.2.2.1 d.2.2.2.2.2.2.1.1 d.2.2.2.2.2.2.1.2.1 d.2.2.2.2.2.2.1.2.2.1 d.2.2.2.2.2.2.1.2.2.2.1 d.2.2.2.2.2.2.2.1.1 d.2.2.2.2.2.2.2.1.2.1 d.2.2.2.2.2.2.2.1.2.2.1 d.2.2.2.2.2.2.2.1.2.2.2.1 d.2.2.2.2.2.2.2.2.1.1 d.2.2.2.2.2.2.2.2.1.2.1 d.2.2.2.2.2.2.2.2.1.2.2.1 d.2.2.2.2.2.2.2.2.1.2.2.2.1) .nil)) ⟨ok5, ok7, ok8, ok9, trivial⟩ Tryz.func4 rfl
end
end Go.Proofs.YtfbkmdemekjdgaaGreat.Ab
