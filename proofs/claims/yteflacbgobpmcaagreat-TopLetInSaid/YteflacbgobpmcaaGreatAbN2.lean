import Derived.Test.YteflacbgobpmcaaGreatAbN1
/- Contracts, printed by this session's own program gen.py. -/
set_option linter.unusedVariables false
set_option linter.unusedSimpArgs false
set_option maxRecDepth 100000
namespace Go.Proofs.YteflacbgobpmcaaGreat.Ab
open Go.RowKit
abbrev Y2_0 : Type := Int × Int × Int × (List (Int × Int × Int × Int)) × (List (Int × Int × Int × Int)) × List (Int × Int × Int × Int)
abbrev Y2_1 : Ty := .pair (.int .i64) (.pair (.int .i64) (.pair (.int .i64) (.pair (.sl 46 (.pair (.int .i64) (.pair (.int .i64) (.pair (.int .i64) (.int .i64))))) (.pair (.sl 46 (.pair (.int .i64) (.pair (.int .i64) (.pair (.int .i64) (.int .i64))))) (.sl 46 (.pair (.int .i64) (.pair (.int .i64) (.pair (.int .i64) (.int .i64)))))))))
abbrev Y2_2 : Type := Int × Int × (List Y2_0) × (List (PN Int 5)) × Bool × Bool × Bool × (List (Int × Int × Int × Int × (Int × (PN Int 8) × (List (Int × Int × Int)) × Bool) × (Int × (PN Int 8) × (List (Int × Int × Int)) × Bool) × (List Int) × Bool)) × (((List Int) × List Bool) × List (Int × (Int × Int) × (Int × Int) × ((List Int) × List Int) × (Int × List (Int × Int)) × Int)) × (List Int) × List Bool
abbrev Y2_3 : Type := Int × Int × Int × Int
abbrev Y2_4 : Ty := .pair (.int .i64) (.pair (.int .i64) (.pair (.int .i64) (.int .i64)))
abbrev Y2_5 : Type := Int × Int × Int × Bool
abbrev Y2_6 : Ty := .pair (.int .i64) (.pair (.int .i64) (.pair (.sl 30 Y2_1) (.pair (.sl 43 (arrT 5 (.int .i64))) (.pair .bool (.pair .bool (.pair .bool (.pair (.sl 184 (.pair (.int .i64) (.pair (.int .i64) (.pair (.int .i64) (.pair (.int .i64) (.pair (.pair (.int .i64) (.pair (arrT 8 (.int .i64)) (.pair (.sl 270 (.pair (.int .i64) (.pair (.int .i64) (.int .i64)))) .bool))) (.pair (.pair (.int .i64) (.pair (arrT 8 (.int .i64)) (.pair (.sl 270 (.pair (.int .i64) (.pair (.int .i64) (.int .i64)))) .bool))) (.pair (.sl 3 (.int .i64)) .bool)))))))) (.pair (.pair (.pair (.sl 3 (.int .i64)) (.sl 4 .bool)) (.sl 177 (.pair (.int .i64) (.pair (.pair (.int .i64) (.int .i64)) (.pair (.pair (.int .i64) (.int .i64)) (.pair (.pair (.sl 2 (.int .i64)) (.sl 3 (.int .i64))) (.pair (.pair (.int .u32) (.sl 221 (.pair (.int .i64) (.int .u32)))) (.int .u32)))))))) (.pair (.sl 3 (.int .i64)) (.sl 4 .bool))))))))))
abbrev Y2_7 : Type := Int × Int × Int × Int × (Int × (PN Int 8) × (List (Int × Int × Int)) × Bool) × (Int × (PN Int 8) × (List (Int × Int × Int)) × Bool) × (List Int) × Bool
abbrev Y2_8 : Type := (Bool × Unit) × Unit
abbrev Y2_9 : Type := Int × (Int × Int) × (Int × Int) × ((List Int) × List Int) × (Int × List (Int × Int)) × Int
abbrev Y2_10 : Type := (List Y2_3) → Int → Int → Int → Int → (List (Int × Int)) → (List Int) → (List Int) → Int → Int → Option (((Int × Int × List (Int × Int)) × Bool × Unit) × Unit)
abbrev Y2_11 : Type := ((List Y2_3) × Unit) × ((List Int) × Int × Unit) × Unit
abbrev Y2_12 : Ty := .pair (.int .i64) (.pair (.int .i64) (.pair (.int .i64) .bool))
abbrev Y2_13 : Type := (List Y2_3) → (List Int) → (List Int) → (List Y2_5) → Int → Option (((List Int) × Bool × Unit) × Unit)
abbrev Y2_14 : Type := (Int × Unit) × Unit
abbrev Y2_15 : Type := Int → (List Int) → Int → (List Y2_0) → Int → Int → Option Y2_8
abbrev Y2_16 : Ty := .pair (.int .i64) (.int .i64)
abbrev Y2_17 : Type := ((Int × Int × List (Int × Int)) × Bool × Unit) × Unit
abbrev Y2_18 : Type := Int × Int × (List Y2_0) × (List (PN Int 5)) × Bool × Bool × Bool × (List Y2_7) × (List Int) × (List Bool) × (List Y2_9) × (List Int) × (List Bool) × Unit
abbrev Y2_19 : Type := Int × (Int × Int) × Int
abbrev Y2_20 : Type := ((List Int) × Bool × Unit) × Unit
abbrev Y2_21 : Type := Int × (Int × Y2_0 × (Int × Int) × Int × Int × Int) × Int × Int
abbrev Y2_22 : Type := (List Y2_3) → (List Int) → (List Y2_5) → Int → Option (((List Int) × Unit) × Unit)
abbrev Y2_23 : Type := (List Int) × Int × Unit
abbrev Y2_24 : Ty := .pair (.int .i64) (.pair (.int .i64) (.pair (.int .i64) (.pair (.int .i64) (.pair (.pair (.int .i64) (.pair (arrT 8 (.int .i64)) (.pair (.sl 270 (.pair (.int .i64) Y2_16)) .bool))) (.pair (.pair (.int .i64) (.pair (arrT 8 (.int .i64)) (.pair (.sl 270 (.pair (.int .i64) Y2_16)) .bool))) (.pair (.sl 3 (.int .i64)) .bool))))))
abbrev Y2_25 : Type := Y2_2 × (List (PN Int 6)) × (List Y2_19) × Bool × Unit
abbrev Y2_26 : Type := (List Y2_3) → (List Y2_5) → Int → Option Y2_8
abbrev Y2_27 : Type := (((List Int) × Int × Int × List Int) × Unit) × Unit
abbrev Y2_28 : Ty := .pair (.int .i64) (.pair (.pair (.int .i64) (.pair Y2_1 (.pair Y2_16 (.pair (.int .i64) (.pair (.int .i64) (.int .u32)))))) Y2_16)
abbrev Y2_29 : Type := (Y2_2 × (List (PN Int 6)) × Y2_19 × Unit) × Unit
abbrev Y2_30 : Type := (List Y2_3) → (List Y2_5) → (List Int) → Int → Option Y2_8
abbrev Y2_31 : Ty := .sl 46 Y2_4
abbrev Y2_32 : Type := (Int × Bool × Unit) × Unit
abbrev Y2_33 : Type := ((List Int) × Unit) × Unit
abbrev Y2_34 : Type := Int × Int × Int × (List Y2_3) × (List Y2_3) × List Y2_3
abbrev Y2_35 : Type := (List Int) × Int × Int × (List Int) × Unit
abbrev Y2_36 : Ty := .sl 5 (.int .u8)
abbrev Y2_37 : Type := Int × Int × (List (Int × Int)) × Unit
abbrev Y2_38 : Type := (List Y2_0) → Int → Int → Int → Option Y2_14
abbrev Y2_39 : Type := (List Int) → Int → Int → (List Y2_3) → Int → Option Y2_11
abbrev Y2_40 : Ty := .pair (.int .i64) (.pair Y2_16 (.pair Y2_16 (.pair (.pair (.sl 2 (.int .i64)) (.sl 3 (.int .i64))) (.pair (.pair (.int .u32) (.sl 221 (.pair (.int .i64) (.int .u32)))) (.int .u32)))))
abbrev Y2_41 : Type := ((List Y2_0) × Bool × Unit) × Unit
abbrev Y2_42 : Type := (List Y2_3) → (List Y2_5) → Int → Int → Option Y2_8
abbrev Y2_43 : Type := (List Y2_0) → Int → Int → Option Y2_14
abbrev Y2_44 : Ty := .sl 30 Y2_1
abbrev Y2_45 : Type := ((List Y2_5) × Unit) × Unit
abbrev Y2_46 : Ty := .sl 2 (.int .i64)
abbrev Y2_47 : Type := Int × Int × Unit × Unit × Bool × Bool × Bool × Unit × Unit × Unit × Unit × Unit × Unit × Unit
abbrev u2_0 : RT := .val ⟨false, (.sl 73 (arrT 6 (.int .i64))), true⟩
abbrev u2_1 : PT := .mbox 77 [.cell Y2_36, cI]
abbrev u2_2 : PT := .val ⟨false, Y2_31, false⟩
abbrev u2_3 : PT := .val ⟨false, Y2_44, false⟩
abbrev u2_4 : PT := .val ⟨true, Y2_1, false⟩
noncomputable section
abbrev c32_L21 : Cut := ⟨[2, 4, 6, 7, 8, 65, 66], [.box 67 [cI, cI, .cell Y2_44, .cell (.sl 43 (arrT 5 (.int .i64))), .cell .bool, .cell .bool, .cell .bool, .cell (.sl 184 Y2_24), .cell (.sl 3 (.int .i64)), .cell (.sl 4 .bool), .cell (.sl 177 Y2_40), .cell (.sl 3 (.int .i64)), .cell (.sl 4 .bool)], .box 67 [cI, cI, .nil, .nil, .cell .bool, .cell .bool, .cell .bool, .nil, .nil, .nil, .nil, .nil, .nil], .box 75 [cI, cI, cI, cI], .box 75 [cI, cI, cI, cI], .own 73 (arrT 6 (.int .i64)), cI, cI], [], 87, []⟩
def l32_21 (k : Nat) (g21 : Int → Int → (List Y2_0) → (List (PN Int 5)) → Bool → Bool → Bool → (List Y2_7) → (List Int) → (List Bool) → (List Y2_9) → (List Int) → (List Bool) → Int → Int → Bool → Bool → Bool → Int → Int → Int → Int → Int → Int → Int → Int → (List (PN Int 6)) → Int → Int → Option Y2_29) (u v : Int) (w : List Y2_0) (y : List (PN Int 5)) (z A B : Bool) (C : List Y2_7) (D : List Int) (G : List Bool) (H : List Y2_9) (I : List Int) (J : List Bool) (K M : Int) (N O P : Bool) (Q T U V W X Z a1 : Int) (b1 : List (PN Int 6)) (c1 e1 : Int) : Option Y2_29 :=
 (bif decide (e1 < c1) then
  (S58 k (u, v, w, y, z, A, B, C, ((D, G), H), I, J)).bind fun (((a, b, c, e, f, h, i, l, ((m, n), o), p, s), t, _), _) =>
  ap b1 t 48 fun r9 =>
  g21 a b c e f h i l m n o p s K M N O P Q T U V W X Z a1 r9 c1 (IntKind.i64.wrap (e1 + 1))
 else
  (S60 k (u, v, w, y, z, A, B, C, ((D, G), H), I, J) (-1) 0).bind fun q10 =>
  some ((q10.1.1, b1, (W, (X, Z), a1), ()), ()))
def b32_21 (k : Nat) : Xx (((Unit) × Y2_18 × Y2_47 × (Int × Int × Int × Int × Unit) × (Int × Int × Int × Int × Unit) × (List (PN Int 6)) × Int × Int × Unit) → Option Y2_29) := iV (iU (iN (iL (iL (iL (iL (iL (iL (iL (iL (iL (iL (iL (iL (iL iE))))))))))))) (iN (iL (iL (iU (iU (iL (iL (iL (iU (iU (iU (iU (iU (iU iE))))))))))))) (iN (iL (iL (iL (iL iE)))) (iN (iL (iL (iL (iL iE)))) (iL (iL (iL iE)))))))) (l32_21 k)
def L32_21 (k a : Nat) (b c : Int) (e : List Y2_0) (f : List (PN Int 5)) (h i l : Bool) (m : List Y2_7) (n : List Int) (o : List Bool) (p : List Y2_9) (s : List Int) (t : List Bool) (u v : Int) (w y z : Bool) (A B C D G H I J : Int) (K : List (PN Int 6)) (M N : Int) : Option Y2_29 := iter c32_L21 (b32_21 k) a ((), (b, c, e, f, h, i, l, m, n, o, p, s, t, ()), (u, v, (), (), w, y, z, (), (), (), (), (), (), ()), (A, B, C, D, ()), (G, H, I, J, ()), K, M, N, ())
def S32 (k : Nat) (a : Int × Int × (List Y2_0) × (List (PN Int 5)) × Bool × Bool × Bool × (List Y2_7) × (((List Int) × List Bool) × List Y2_9) × (List Int) × List Bool) (b : Int × (Int × Y2_0 × (Int × Int) × Int × Int × Int) × Int × Int) : Option Y2_29 :=
 (bif b.1 == 1 then
  (S57 k a b.2.1).bind fun q0 =>
  some (q0.1, ())
 else
  (bif b.1 == 2 then
   (S58 k a).bind fun q1 =>
   some ((q1.1.1, q1.1.2.1, (0, (0, 0), 0), ()), ())
  else
   (bif b.1 == 3 then
    (S60 k (a.1, a.2.1, a.2.2.1, a.2.2.2.1, a.2.2.2.2.1, a.2.2.2.2.2.1, true, a.2.2.2.2.2.2.2) (-1) 0).bind fun q2 =>
    some ((q2.1.1, ([] : List (PN Int 6)), (0, (0, 0), 0), ()), ())
   else
    (bif b.1 == 4 then
     (S59 k a.2.2.2.2.2.2.2.2.1 b.2.2.1).bind fun q3 =>
     (bif !q3.1.2.1 then
      (S60 k a (-1) 0).bind fun q4 =>
      some ((q4.1.1, ([] : List (PN Int 6)), (3, (0, 0), 0), ()), ())
     else
      (S60 k (a.1, a.2.1, a.2.2.1, a.2.2.2.1, a.2.2.2.2.1, a.2.2.2.2.2.1, a.2.2.2.2.2.2.1, a.2.2.2.2.2.2.2.1, q3.1.1, a.2.2.2.2.2.2.2.2.2) (-1) 0).bind fun q5 =>
      some ((q5.1.1, ([] : List (PN Int 6)), (0, (0, 0), 0), ()), ()))
    else
     (bif b.1 == 5 then
      (bif decide (b.2.2.2 < 0) then
       (S60 k a (-1) 0).bind fun q6 =>
       some ((q6.1.1, ([] : List (PN Int 6)), (1, (0, 0), 0), ()), ())
      else
       (bif decide (b.2.2.2 > 10000) then
        (S60 k a (-1) 0).bind fun q7 =>
        some ((q7.1.1, ([] : List (PN Int 6)), (1, (0, 0), 0), ()), ())
       else
        L32_21 k k a.1 a.2.1 a.2.2.1 a.2.2.2.1 a.2.2.2.2.1 a.2.2.2.2.2.1 a.2.2.2.2.2.2.1 a.2.2.2.2.2.2.2.1 a.2.2.2.2.2.2.2.2.1.1.1 a.2.2.2.2.2.2.2.2.1.1.2 a.2.2.2.2.2.2.2.2.1.2 a.2.2.2.2.2.2.2.2.2.1 a.2.2.2.2.2.2.2.2.2.2 0 0 false false false 0 0 0 0 0 0 0 0 ([] : List (PN Int 6)) b.2.2.2 0))
     else
      (S60 k a (-1) 0).bind fun q11 =>
      some ((q11.1.1, ([] : List (PN Int 6)), (1, (0, 0), 0), ()), ()))))))
def F32 : Fn := ⟨[.val ⟨true, Y2_6, false⟩, .val ⟨true, Y2_28, false⟩], [.val ⟨true, Y2_6, true⟩, u2_0, .val ⟨true, (.pair (.int .i64) (.pair Y2_16 (.int .i64))), true⟩], fun k x => S32 k x.1 x.2.1⟩
theorem ok32 : O 32 F32 := okF (Om ok57 <| Om ok58 <| Om ok59 <| Om ok60 Oz) [(8, 2)] (fun k => (.loop 21 c32_L21 (b32_21 k) (fun g => .nil) .nil)) Tryz.func32 rfl
abbrev c14_L5 : Cut := ⟨[4, 5, 6, 21, 22, 23], [.box 67 [cI, cI, .own 30 Y2_1, .own 43 (arrT 5 (.int .i64)), .cell .bool, .cell .bool, .cell .bool, .own 184 Y2_24, .own 3 (.int .i64), .own 4 .bool, .own 177 Y2_40, .own 3 (.int .i64), .own 4 .bool], .own 73 (arrT 6 (.int .i64)), .own 75 (.pair (.int .i64) (.pair Y2_16 (.int .i64))), .cell (.sl 53 Y2_28), cI, cI], [], 46, []⟩
def l14_5 (k : Nat) (g5 : Int → Int → (List Y2_0) → (List (PN Int 5)) → Bool → Bool → Bool → (List Y2_7) → (List Int) → (List Bool) → (List Y2_9) → (List Int) → (List Bool) → (List (PN Int 6)) → (List Y2_19) → (List Y2_21) → Int → Int → Option (Y2_25 × Unit)) (v w : Int) (y : List Y2_0) (z : List (PN Int 5)) (A B C : Bool) (D : List Y2_7) (G : List Int) (H : List Bool) (I : List Y2_9) (J : List Int) (K : List Bool) (M : List (PN Int 6)) (N : List Y2_19) (O : List Y2_21) (P Q : Int) : Option (Y2_25 × Unit) :=
 (bif decide (Q < P) then
  ix O Q <|
  (S32 k (v, w, y, z, A, B, C, D, ((G, H), I), J, K) (rd O Q (0, (0, (0, 0, 0, [], [], []), (0, 0), 0, 0, 0), 0, 0))).bind fun (((a, b, c, e, f, h, i, l, ((m, n), o), p, s), t, u, _), _) =>
  ap M t 48 fun r2 =>
  ap N ([u] : List Y2_19) 32 fun r3 =>
  g5 a b c e f h i l m n o p s r2 r3 O P (IntKind.i64.wrap (Q + 1))
 else
  some (((v, w, y, z, A, B, C, D, ((G, H), I), J, K), M, N, true, ()), ()))
def b14_5 (k : Nat) : Xx (((Unit) × Y2_18 × (List (PN Int 6)) × (List Y2_19) × (List Y2_21) × Int × Int × Unit) → Option (Y2_25 × Unit)) := iV (iU (iN (iL (iL (iL (iL (iL (iL (iL (iL (iL (iL (iL (iL (iL iE))))))))))))) (iL (iL (iL (iL (iL iE))))))) (l14_5 k)
def L14_5 (k a : Nat) (b c : Int) (e : List Y2_0) (f : List (PN Int 5)) (h i l : Bool) (m : List Y2_7) (n : List Int) (o : List Bool) (p : List Y2_9) (s : List Int) (t : List Bool) (u : List (PN Int 6)) (v : List Y2_19) (w : List Y2_21) (y z : Int) : Option (Y2_25 × Unit) := iter c14_L5 (b14_5 k) a ((), (b, c, e, f, h, i, l, m, n, o, p, s, t, ()), u, v, w, y, z, ())
def S14 (k : Nat) (u : Int) (v : List Y2_21) : Option (Y2_25 × Unit) :=
 (S31 k u).bind fun (((a, b, c, e, f, h, i, l, ((m, n), o), p, s), t, _), _) =>
 (bif !t then
  some (((0, 0, [], [], false, false, false, [], (([], []), []), [], []), ([] : List (PN Int 6)), ([] : List Y2_19), false, ()), ())
 else
  L14_5 k k a b c e f h i l m n o p s ([] : List (PN Int 6)) ([] : List Y2_19) v (v.length : Int) 0)
def F14 : Fn := ⟨[pI, .val ⟨false, (.sl 53 Y2_28), false⟩], [.val ⟨true, Y2_6, true⟩, u2_0, .val ⟨false, (.sl 75 (.pair (.int .i64) (.pair Y2_16 (.int .i64)))), true⟩, rB], fun k x => S14 k x.1 x.2.1⟩
theorem ok14 : O 14 F14 := okF (Om ok31 <| Om ok32 Oz) [(5, 2), (6, 2)] (fun k => (.loop 5 c14_L5 (b14_5 k) (fun g => .nil) .nil)) Tryz.func14 rfl
def S4 (k : Nat) : Option Y2_8 :=
 (S13 k (1, (1, 20, 20, ([(0, 0, 0, 0)] : List Y2_3), [], []), (0, 0), 0, 0, 0)).bind fun q0 =>
 (S13 k (5, (0, 0, 0, [], [], []), (0, 0), 0, 0, 0)).bind fun q1 =>
 (S13 k (6, (0, 0, 0, [], [], []), (0, 0), 0, 7, 0)).bind fun q2 =>
 (S14 k 30 ([q0.1.1, q1.1.1, q2.1.1, (2, (0, (0, 0, 0, [], [], []), (0, 0), 0, 0, 0), 0, 0)] : List Y2_21)).bind fun q3 =>
 (bif q3.1.2.2.2.1 then
  (bif q3.1.1.1 == 1 then
   (bif (q3.1.2.1.length : Int) == 3 then
    ix q3.1.2.1 2 <|
    (bif (rd q3.1.2.1 2 (prep (α := Int) 6 0)).2.1 == 3 then
     ix q3.1.2.1 2 <|
     (bif (rd q3.1.2.1 2 (prep (α := Int) 6 0)).2.2.2.2.1 == 7 then
      (bif (q3.1.2.2.1.length : Int) == 4 then
       ix q3.1.2.2.1 0 <|
       some (((rd q3.1.2.2.1 0 (0, (0, 0), 0)).1 == 0, ()), ())
      else
       some ((false, ()), ()))
     else
      some ((false, ()), ()))
    else
     some ((false, ()), ()))
   else
    some ((false, ()), ()))
  else
   some ((false, ()), ()))
 else
  some ((false, ()), ()))
def F4 : Fn := ⟨[], [rB], fun k x => S4 k ⟩
theorem ok4 : O 4 F4 := okF (Om ok13 <| Om ok14 Oz) [] On Tryz.func4 rfl
def S5 (k : Nat) (a : List Int) : Option ((Y2_23 × Unit) × Unit) :=
 some (((a, 0, ()), ()), ())
def F5 : Fn := ⟨[.val ⟨false, Y2_36, false⟩], [.pv (.box 77 [.cell Y2_36, cI])], fun k x => S5 k x.1⟩
theorem ok5 : O 5 F5 := okF Oz [] On Tryz.func5 rfl
def S6 (k : Nat) (a : List Int) (b c : Int) : Option ((Int × Unit) × Y2_23 × Unit) :=
 (bif decide (b ≥ (a.length : Int)) then
  some ((0, ()), (a, b, ()), ())
 else
  ix a (IntKind.i64.wrap ((IntKind.i64.wrap (b + 1)) - 1)) <|
  nz c <|
  some ((Int.tmod (IntKind.i64.wrap (rd a (IntKind.i64.wrap ((IntKind.i64.wrap (b + 1)) - 1)) 0)) c, ()), (a, IntKind.i64.wrap (b + 1), ()), ()))
def F6 : Fn := ⟨[u2_1, pI], [rI], fun k ((a, b, _), c, _) => S6 k a b c⟩
theorem ok6 : O 6 F6 := okF Oz [] On Tryz.func6 rfl
def S61 (k : Nat) (a : List Int) (b : Int) : Option ((Y2_3 × Unit) × Y2_23 × Unit) :=
 (S6 k a b 3).bind fun q0 =>
 (S6 k q0.2.1.1 q0.2.1.2.1 3).bind fun q1 =>
 (S6 k q1.2.1.1 q1.2.1.2.1 6).bind fun q2 =>
 (bif q2.1.1 == 0 then
  (S6 k q2.2.1.1 q2.2.1.2.1 9).bind fun q3 =>
  some (((1, q0.1.1, 0, IntKind.i64.wrap (q3.1.1 - 4)), ()), q3.2.1, ())
 else
  (bif q2.1.1 == 1 then
   some (((2, q0.1.1, q1.1.1, 0), ()), q2.2.1, ())
  else
   (bif q2.1.1 == 2 then
    some (((3, q0.1.1, q1.1.1, 0), ()), q2.2.1, ())
   else
    (bif q2.1.1 == 3 then
     some (((4, q0.1.1, q1.1.1, 0), ()), q2.2.1, ())
    else
     (bif q2.1.1 == 4 then
      (S6 k q2.2.1.1 q2.2.1.2.1 7).bind fun q4 =>
      some (((5, q0.1.1, 0, IntKind.i64.wrap (q4.1.1 - 3)), ()), q4.2.1, ())
     else
      (S6 k q2.2.1.1 q2.2.1.2.1 64).bind fun q5 =>
      some (((6, q0.1.1, 0, IntKind.i64.wrap (1 + q5.1.1)), ()), q5.2.1, ()))))))
def F61 : Fn := ⟨[u2_1], [.val ⟨true, Y2_4, true⟩], fun k x => S61 k x.1.1 x.1.2.1⟩
theorem ok61 : O 61 F61 := okF (Om ok6 Oz) [] On Tryz.func61 rfl
abbrev c33_L3 : Cut := ⟨[0, 2, 7, 8], [.pin false 0, cI, .own 46 Y2_4, cI], [.mbox 77 [.cell Y2_36, cI]], 47, []⟩
def l33_3 (k : Nat) (g3 : Y2_39) (a : List Int) (b c : Int) (e : List Y2_3) (f : Int) : Option Y2_11 :=
 (bif decide (f > 0) then
  (bif decide (c > 0) then
   (S6 k a b 4).bind fun q1 =>
   (bif q1.1.1 == 0 then
    (S6 k q1.2.1.1 q1.2.1.2.1 c).bind fun q2 =>
    ap e ([(9, q2.1.1, 0, 0)] : List Y2_3) 32 fun r3 =>
    (S61 k q2.2.1.1 q2.2.1.2.1).bind fun q4 =>
    ap r3 ([q4.1.1] : List Y2_3) 32 fun r5 =>
    ap r5 ([(10, q2.1.1, 0, 0)] : List Y2_3) 32 fun r6 =>
    g3 q4.2.1.1 q4.2.1.2.1 c r6 (IntKind.i64.wrap (f - 1))
   else
    (S61 k q1.2.1.1 q1.2.1.2.1).bind fun q7 =>
    ap e ([q7.1.1] : List Y2_3) 32 fun r8 =>
    g3 q7.2.1.1 q7.2.1.2.1 c r8 (IntKind.i64.wrap (f - 1)))
  else
   (S61 k a b).bind fun q9 =>
   ap e ([q9.1.1] : List Y2_3) 32 fun r10 =>
   g3 q9.2.1.1 q9.2.1.2.1 c r10 (IntKind.i64.wrap (f - 1)))
 else
  some ((e, ()), (a, b, ()), ()))
def b33_3 (k : Nat) : Xx (((Y2_23 × Unit) × Unit × Int × (List Y2_3) × Int × Unit) → Option Y2_11) := iV (iN (iN (iL (iL iE)) iE) (iU (iL (iL (iL iE))))) (l33_3 k)
def L33_3 (k a : Nat) (b : List Int) (c e : Int) (f : List Y2_3) (h : Int) : Option Y2_11 := iter c33_L3 (b33_3 k) a (((b, c, ()), ()), (), e, f, h, ())
theorem L33_3_s (k a b c e f h) : L33_3 k (a + 1) b c e f h = l33_3 k (L33_3 k a) b c e f h := iter_succ _ _ _ _
def S33 (k : Nat) (a : List Int) (b c e : Int) : Option Y2_11 :=
 (S6 k a b c).bind fun q0 =>
 L33_3 k k q0.2.1.1 q0.2.1.2.1 e ([] : List Y2_3) (IntKind.i64.wrap (q0.1.1 + 1))
def F33 : Fn := ⟨[u2_1, pI, pI], [.val ⟨false, Y2_31, true⟩], fun k ((a, b, _), c, e, _) => S33 k a b c e⟩
theorem ok33 : O 33 F33 := okF (Om ok6 <| Om ok61 Oz) [(7, 2)] (fun k => (.loop 3 c33_L3 (b33_3 k) (fun g => .nil) .nil)) Tryz.func33 rfl
abbrev c15_J16 : Cut := ⟨[0, 1, 5, 6, 7], [.pin false 0, cI, .own 46 Y2_4, cI, .own 46 Y2_4], [.mbox 77 [.cell Y2_36, cI]], 66, []⟩
def j15_16 (k : Nat) (g3 : Y2_39) (a : List Int) (b c : Int) (e : List Y2_3) (f : Int) (x : List Y2_3) : Option Y2_11 :=
 (bif decide ((IntKind.i64.wrap ((e.length : Int) + (x.length : Int))) < 23) then
  ap e x 32 fun r9 =>
  g3 a b c r9 (IntKind.i64.wrap (f - 1))
 else
  g3 a b c e (IntKind.i64.wrap (f - 1)))
abbrev c15_L3 : Cut := ⟨[0, 1, 5, 6], [.pin false 0, cI, .own 46 Y2_4, cI], [.mbox 77 [.cell Y2_36, cI]], 66, []⟩
def l15_3 (k : Nat) (g3 : Y2_39) (a : List Int) (b c : Int) (e : List Y2_3) (f : Int) : Option Y2_11 :=
 (bif decide (f > 0) then
  (S6 k a b 5).bind fun q1 =>
  (bif q1.1.1 == 0 then
   (S33 k q1.2.1.1 q1.2.1.2.1 2 c).bind fun q2 =>
   (S6 k q2.2.1.1 q2.2.1.2.1 3).bind fun q3 =>
   ap ([(8, 0, (q2.1.1.length : Int), IntKind.i64.wrap (1 + q3.1.1))] : List Y2_3) q2.1.1 32 fun r4 =>
   j15_16 k g3 q3.2.1.1 q3.2.1.2.1 c e f r4
  else
   (bif q1.1.1 == 1 then
    (S33 k q1.2.1.1 q1.2.1.2.1 2 c).bind fun q5 =>
    (S6 k q5.2.1.1 q5.2.1.2.1 3).bind fun q6 =>
    ap ([(7, q6.1.1, 0, (q5.1.1.length : Int))] : List Y2_3) q5.1.1 32 fun r7 =>
    j15_16 k g3 q6.2.1.1 q6.2.1.2.1 c e f r7
   else
    (bif q1.1.1 == 2 then
     j15_16 k g3 q1.2.1.1 q1.2.1.2.1 c e f ([(11, 0, 0, 0)] : List Y2_3)
    else
     (S33 k q1.2.1.1 q1.2.1.2.1 2 c).bind fun q8 =>
     j15_16 k g3 q8.2.1.1 q8.2.1.2.1 c e f q8.1.1)))
 else
  ap e ([(0, 0, 0, 0)] : List Y2_3) 32 fun r10 =>
  some ((r10, ()), (a, b, ()), ()))
def b15_3 (k : Nat) : Xx (((Y2_23 × Unit) × Unit × Int × (List Y2_3) × Int × Unit) → Option Y2_11) := iV (iN (iN (iL (iL iE)) iE) (iU (iL (iL (iL iE))))) (l15_3 k)
def L15_3 (k a : Nat) (b : List Int) (c e : Int) (f : List Y2_3) (h : Int) : Option Y2_11 := iter c15_L3 (b15_3 k) a (((b, c, ()), ()), (), e, f, h, ())
theorem L15_3_s (k a b c e f h) : L15_3 k (a + 1) b c e f h = l15_3 k (L15_3 k a) b c e f h := iter_succ _ _ _ _
def S15 (k : Nat) (a : List Int) (b c : Int) : Option Y2_11 :=
 (S6 k a b 4).bind fun q0 =>
 L15_3 k k q0.2.1.1 q0.2.1.2.1 c ([] : List Y2_3) (IntKind.i64.wrap (q0.1.1 + 1))
def F15 : Fn := ⟨[u2_1, pI], [.val ⟨false, Y2_31, true⟩], fun k ((a, b, _), c, _) => S15 k a b c⟩
theorem ok15 : O 15 F15 := okF (Om ok6 <| Om ok33 Oz) [(5, 2)] (fun k => (.loop 3 c15_L3 (b15_3 k) (fun g => (fun (g3 : Y2_39) => (.join 16 c15_J16 (fun (((a, b, _), _), _, c, e, f, h, _) => j15_16 k g3 a b c e f h) .nil)) (fun p2 p3 locks1 l_ i => g (((p2, p3, ()), ()), (), locks1, l_, i, ()))) .nil)) Tryz.func15 rfl
abbrev c7_J6 : Cut := ⟨[0, 6, 7], [.pin false 0, .box 30 [cI, cI, cI, .nil, .nil, .nil], .box 30 [cI, cI, cI, .own 46 Y2_4, .cell Y2_31, .own 46 Y2_4]], [.mbox 77 [.cell Y2_36, cI]], 41, []⟩
def j7_6 (k : Nat) (a : List Int) (b c e f h i l : Int) (m n o : List Y2_3) : Option ((Y2_0 × Unit) × Y2_23 × Unit) :=
 (S6 k a b 3).bind fun q5 =>
 (bif q5.1.1 == 0 then
  (S15 k q5.2.1.1 q5.2.1.2.1 0).bind fun q6 =>
  some (((h, i, l, m, n, q6.1.1), ()), q6.2.1, ())
 else
  some (((h, i, l, m, n, o), ()), q5.2.1, ()))
def S7 (k : Nat) (a : List Int) (b c e : Int) : Option ((Y2_0 × Unit) × Y2_23 × Unit) :=
 (S15 k a b e).bind fun q0 =>
 (S6 k q0.2.1.1 q0.2.1.2.1 12).bind fun q1 =>
 (S6 k q1.2.1.1 q1.2.1.2.1 10).bind fun q2 =>
 (S6 k q2.2.1.1 q2.2.1.2.1 3).bind fun q3 =>
 (bif q3.1.1 == 0 then
  (S6 k q3.2.1.1 q3.2.1.2.1 2).bind fun q4 =>
  sx ([(1, 0, 0, 99), (0, 0, 0, 0)] : List Y2_3) q4.1.1 (([(1, 0, 0, 99), (0, 0, 0, 0)] : List Y2_3).length : Int) <|
  j7_6 k q4.2.1.1 q4.2.1.2.1 0 0 0 c (IntKind.i64.wrap (20 + (IntKind.i64.wrap (10 * q1.1.1)))) (IntKind.i64.wrap ((IntKind.i64.wrap (20 + (IntKind.i64.wrap (10 * q1.1.1)))) - q2.1.1)) q0.1.1 (sub ([(1, 0, 0, 99), (0, 0, 0, 0)] : List Y2_3) q4.1.1 (([(1, 0, 0, 99), (0, 0, 0, 0)] : List Y2_3).length : Int)) ([] : List Y2_3)
 else
  j7_6 k q3.2.1.1 q3.2.1.2.1 0 0 0 c (IntKind.i64.wrap (20 + (IntKind.i64.wrap (10 * q1.1.1)))) (IntKind.i64.wrap ((IntKind.i64.wrap (20 + (IntKind.i64.wrap (10 * q1.1.1)))) - q2.1.1)) q0.1.1 ([] : List Y2_3) ([] : List Y2_3))
def F7 : Fn := ⟨[u2_1, pI, pI], [.val ⟨true, Y2_1, false⟩], fun k ((a, b, _), c, e, _) => S7 k a b c e⟩
theorem ok7 : O 7 F7 := okF (Om ok6 <| Om ok15 Oz) [(12, 2)] (fun k => (.join 6 c7_J6 (fun (((a, b, _), _), _, (c, e, f, _), (h, i, l, m, n, o, _), _) => j7_6 k a b c e f h i l m n o) .nil)) Tryz.func7 rfl
def S157 (k : Nat) (a b : Int) : Option Y2_8 :=
 (bif decide (b ≥ 0) then
  some ((decide (b < a), ()), ())
 else
  some ((false, ()), ()))
def F157 : Fn := ⟨[.val ⟨true, (.int .i64), false⟩, pI], [rB], fun k x => S157 k x.1 x.2.1⟩
theorem ok157 : O 157 F157 := okF Oz [] On Tryz.func157 rfl
def S120 (k : Nat) (a : Int × Int × Int × Int) : Option Y2_8 :=
 (bif a.1 == 0 then
  (bif a.2.1 == 0 then
   (bif a.2.2.1 == 0 then
    some ((a.2.2.2 == 0, ()), ())
   else
    some ((false, ()), ()))
  else
   some ((false, ()), ()))
 else
  (bif a.1 == 11 then
   (bif a.2.1 == 0 then
    (bif a.2.2.1 == 0 then
     some ((a.2.2.2 == 0, ()), ())
    else
     some ((false, ()), ()))
   else
    some ((false, ()), ()))
  else
   (bif a.1 == 1 then
    (S157 k 8 a.2.1).bind fun q0 =>
    (bif q0.1.1 then
     (bif a.2.2.1 == 0 then
      (bif decide (a.2.2.2 ≥ (-2147483648)) then
       some ((decide (a.2.2.2 < 2147483648), ()), ())
      else
       some ((false, ()), ()))
     else
      some ((false, ()), ()))
    else
     some ((false, ()), ()))
   else
    (bif a.1 == 2 then
     (S157 k 8 a.2.1).bind fun q1 =>
     (bif q1.1.1 then
      (S157 k 8 a.2.2.1).bind fun q2 =>
      (bif q2.1.1 then
       some ((a.2.2.2 == 0, ()), ())
      else
       some ((false, ()), ()))
     else
      some ((false, ()), ()))
    else
     (bif a.1 == 3 then
      (S157 k 8 a.2.1).bind fun q3 =>
      (bif q3.1.1 then
       (S157 k 8 a.2.2.1).bind fun q4 =>
       (bif q4.1.1 then
        some ((a.2.2.2 == 0, ()), ())
       else
        some ((false, ()), ()))
      else
       some ((false, ()), ()))
     else
      (bif a.1 == 4 then
       (S157 k 8 a.2.1).bind fun q5 =>
       (bif q5.1.1 then
        (S157 k 8 a.2.2.1).bind fun q6 =>
        (bif q6.1.1 then
         some ((a.2.2.2 == 0, ()), ())
        else
         some ((false, ()), ()))
       else
        some ((false, ()), ()))
      else
       (bif a.1 == 5 then
        (S157 k 8 a.2.1).bind fun q7 =>
        (bif q7.1.1 then
         (bif a.2.2.1 == 0 then
          (bif decide (a.2.2.2 ≥ (-63)) then
           some ((decide (a.2.2.2 ≤ 63), ()), ())
          else
           some ((false, ()), ()))
         else
          some ((false, ()), ()))
        else
         some ((false, ()), ()))
       else
        (bif a.1 == 6 then
         (S157 k 8 a.2.1).bind fun q8 =>
         (bif q8.1.1 then
          (bif a.2.2.1 == 0 then
           (bif decide (a.2.2.2 ≥ 1) then
            some ((decide (a.2.2.2 ≤ 64), ()), ())
           else
            some ((false, ()), ()))
          else
           some ((false, ()), ()))
         else
          some ((false, ()), ()))
        else
         (bif a.1 == 7 then
          (S157 k 8 a.2.1).bind fun q9 =>
          (bif q9.1.1 then
           (bif a.2.2.1 == 0 then
            (bif decide (a.2.2.2 ≥ 1) then
             some ((decide (a.2.2.2 ≤ 24), ()), ())
            else
             some ((false, ()), ()))
           else
            some ((false, ()), ()))
          else
           some ((false, ()), ()))
         else
          (bif a.1 == 8 then
           (bif a.2.1 == 0 then
            (bif decide (a.2.2.1 ≥ 1) then
             (bif decide (a.2.2.1 ≤ 24) then
              (bif decide (a.2.2.2 ≥ 1) then
               some ((decide (a.2.2.2 ≤ 20), ()), ())
              else
               some ((false, ()), ()))
             else
              some ((false, ()), ()))
            else
             some ((false, ()), ()))
           else
            some ((false, ()), ()))
          else
           (bif a.1 == 9 then
            (bif decide (a.2.1 ≥ 0) then
             (bif decide (a.2.1 < 4) then
              (bif a.2.2.1 == 0 then
               some ((a.2.2.2 == 0, ()), ())
              else
               some ((false, ()), ()))
             else
              some ((false, ()), ()))
            else
             some ((false, ()), ()))
           else
            (bif a.1 == 10 then
             (bif decide (a.2.1 ≥ 0) then
              (bif decide (a.2.1 < 4) then
               (bif a.2.2.1 == 0 then
                some ((a.2.2.2 == 0, ()), ())
               else
                some ((false, ()), ()))
              else
               some ((false, ()), ()))
             else
              some ((false, ()), ()))
            else
             some ((false, ()), ())))))))))))))
def F120 : Fn := ⟨[.val ⟨true, Y2_4, false⟩], [rB], fun k x => S120 k x.1⟩
theorem ok120 : O 120 F120 := okF (Om ok157 Oz) [] On Tryz.func120 rfl
abbrev c121_L3 : Cut := ⟨[0, 3, 4], [.cell Y2_31, .own 200 Y2_12, cI], [], 49, []⟩
def l121_3 (k : Nat) (g3 : (List Y2_3) → (List Y2_5) → Int → Option Y2_45) (a : List Y2_3) (b : List Y2_5) (c : Int) : Option Y2_45 :=
 (bif decide (c < (a.length : Int)) then
  ix a c <|
  (bif (rd a c (0, 0, 0, 0)).1 == 7 then
   ix a c <|
   ap b ([(IntKind.i64.wrap (c + 1), IntKind.i64.wrap (c + (rd a c (0, 0, 0, 0)).2.2.2), c, false)] : List Y2_5) 32 fun r0 =>
   g3 a r0 (IntKind.i64.wrap (c + 1))
  else
   (bif (rd a c (0, 0, 0, 0)).1 == 8 then
    ix a c <|
    ap b ([(IntKind.i64.wrap (c + 1), IntKind.i64.wrap (c + (rd a c (0, 0, 0, 0)).2.2.1), c, true)] : List Y2_5) 32 fun r1 =>
    g3 a r1 (IntKind.i64.wrap (c + 1))
   else
    g3 a b (IntKind.i64.wrap (c + 1))))
 else
  some ((b, ()), ()))
def b121_3 (k : Nat) : Xx (((Unit) × (List Y2_3) × (List Y2_5) × Int × Unit) → Option Y2_45) := iV (iU (iL (iL (iL iE)))) (l121_3 k)
def L121_3 (k a : Nat) (b : List Y2_3) (c : List Y2_5) (e : Int) : Option Y2_45 := iter c121_L3 (b121_3 k) a ((), b, c, e, ())
theorem L121_3_s (k a b c e) : L121_3 k (a + 1) b c e = l121_3 k (L121_3 k a) b c e := iter_succ _ _ _ _
def S121 (k : Nat) (a : List Y2_3) : Option Y2_45 :=
 L121_3 k k a ([] : List Y2_5) 0
def F121 : Fn := ⟨[u2_2], [.val ⟨false, (.sl 200 Y2_12), true⟩], fun k x => S121 k x.1⟩
theorem ok121 : O 121 F121 := okF Oz [(3, 2)] (fun k => (.loop 3 c121_L3 (b121_3 k) (fun g => .nil) .nil)) Tryz.func121 rfl
def S122 (k : Nat) (a : Int × Int × Int × Bool) (b : Int) : Option Y2_8 :=
 (bif decide (a.1 ≤ b) then
  some ((decide (b ≤ a.2.1), ()), ())
 else
  some ((false, ()), ()))
def F122 : Fn := ⟨[.val ⟨true, Y2_12, false⟩, pI], [rB], fun k x => S122 k x.1 x.2.1⟩
theorem ok122 : O 122 F122 := okF Oz [] On Tryz.func122 rfl
abbrev c76_L10 : Cut := ⟨[0, 4, 5, 6, 7, 8], [.cell Y2_31, .own 3 (.int .i64), .own 3 (.int .i64), .own 200 Y2_12, cI, cI], [], 117, []⟩
def l76_10 (k : Nat) (g5 : Y2_13) (g10 : (List Y2_3) → (List Int) → (List Int) → (List Y2_5) → Int → Int → Option Y2_20) (a : List Y2_3) (b c : List Int) (e : List Y2_5) (f h : Int) : Option Y2_20 :=
 (bif decide (h < (c.length : Int)) then
  ix c h <|
  ix a (rd c h 0) <|
  ix a f <|
  (bif (rd a (rd c h 0) (0, 0, 0, 0)).2.1 == (rd a f (0, 0, 0, 0)).2.1 then
   some (([], false, ()), ())
  else
   g10 a b c e f (IntKind.i64.wrap (h + 1)))
 else
  ap c ([f] : List Int) 8 fun r1 =>
  (bif decide ((r1.length : Int) > 2) then
   some (([], false, ()), ())
  else
   g5 a b r1 e (IntKind.i64.wrap (f + 1))))
def b76_10 (k : Nat) (g5 : Y2_13) : Xx (((Unit) × (List Y2_3) × (List Int) × (List Int) × (List Y2_5) × Int × Int × Unit) → Option Y2_20) := iV (iU (iL (iL (iL (iL (iL (iL iE))))))) (l76_10 k g5)
def L76_10 (k : Nat) (g5 : Y2_13) (a : Nat) (b : List Y2_3) (c e : List Int) (f : List Y2_5) (h i : Int) : Option Y2_20 := iter c76_L10 (b76_10 k g5) a ((), b, c, e, f, h, i, ())
theorem L76_10_s (k g5 a b c e f h i) : L76_10 k g5 (a + 1) b c e f h i = l76_10 k g5 (L76_10 k g5 a) b c e f h i := iter_succ _ _ _ _
abbrev c76_L23 : Cut := ⟨[0, 4, 5, 6, 7, 9, 10], [.cell Y2_31, .own 3 (.int .i64), .own 3 (.int .i64), .own 200 Y2_12, cI, cI, cI], [], 117, []⟩
def l76_23 (k : Nat) (g5 : Y2_13) (g23 : (List Y2_3) → (List Int) → (List Int) → (List Y2_5) → Int → Int → Int → Option Y2_20) (a : List Y2_3) (b c : List Int) (e : List Y2_5) (f h i : Int) : Option Y2_20 :=
 (bif decide (i < (e.length : Int)) then
  ix e i <|
  (S122 k (rd e i (0, 0, 0, false)) h).bind fun q2 =>
  ix e i <|
  (S122 k (rd e i (0, 0, 0, false)) f).bind fun q3 =>
  (bif !(q2.1.1 == q3.1.1) then
   some (([], false, ()), ())
  else
   g23 a b c e f h (IntKind.i64.wrap (i + 1)))
 else
  ix b h <|
  g5 a (upd b h f) c e (IntKind.i64.wrap (f + 1)))
def b76_23 (k : Nat) (g5 : Y2_13) : Xx (((Unit) × (List Y2_3) × (List Int) × (List Int) × (List Y2_5) × Int × Int × Int × Unit) → Option Y2_20) := iV (iU (iL (iL (iL (iL (iL (iL (iL iE)))))))) (l76_23 k g5)
def L76_23 (k : Nat) (g5 : Y2_13) (a : Nat) (b : List Y2_3) (c e : List Int) (f : List Y2_5) (h i l : Int) : Option Y2_20 := iter c76_L23 (b76_23 k g5) a ((), b, c, e, f, h, i, l, ())
theorem L76_23_s (k g5 a b c e f h i l) : L76_23 k g5 (a + 1) b c e f h i l = l76_23 k g5 (L76_23 k g5 a) b c e f h i l := iter_succ _ _ _ _
abbrev c76_L5 : Cut := ⟨[0, 4, 5, 6, 7], [.cell Y2_31, .own 3 (.int .i64), .own 3 (.int .i64), .own 200 Y2_12, cI], [], 117, []⟩
def l76_5 (k : Nat) (g5 : Y2_13) (a : List Y2_3) (b c : List Int) (e : List Y2_5) (f : Int) : Option Y2_20 :=
 (bif decide (f < (a.length : Int)) then
  ix a f <|
  (bif (rd a f (0, 0, 0, 0)).1 == 9 then
   L76_10 k g5 k a b c e f 0
  else
   (bif (rd a f (0, 0, 0, 0)).1 == 10 then
    (bif (c.length : Int) == 0 then
     some (([], false, ()), ())
    else
     ix c (IntKind.i64.wrap ((c.length : Int) - 1)) <|
     ix a (rd c (IntKind.i64.wrap ((c.length : Int) - 1)) 0) <|
     ix a f <|
     (bif (rd a (rd c (IntKind.i64.wrap ((c.length : Int) - 1)) 0) (0, 0, 0, 0)).2.1 != (rd a f (0, 0, 0, 0)).2.1 then
      some (([], false, ()), ())
     else
      ix c (IntKind.i64.wrap ((c.length : Int) - 1)) <|
      sx c 0 (IntKind.i64.wrap ((c.length : Int) - 1)) <|
      L76_23 k g5 k a b (c.take (IntKind.i64.wrap ((c.length : Int) - 1)).toNat) e f (rd c (IntKind.i64.wrap ((c.length : Int) - 1)) 0) 0))
   else
    g5 a b c e (IntKind.i64.wrap (f + 1))))
 else
  (bif decide ((c.length : Int) > 0) then
   some (([], false, ()), ())
  else
   some ((b, true, ()), ())))
def b76_5 (k : Nat) : Xx (((Unit) × (List Y2_3) × (List Int) × (List Int) × (List Y2_5) × Int × Unit) → Option Y2_20) := iV (iU (iL (iL (iL (iL (iL iE)))))) (l76_5 k)
def L76_5 (k a : Nat) (b : List Y2_3) (c e : List Int) (f : List Y2_5) (h : Int) : Option Y2_20 := iter c76_L5 (b76_5 k) a ((), b, c, e, f, h, ())
theorem L76_5_s (k a b c e f h) : L76_5 k (a + 1) b c e f h = l76_5 k (L76_5 k a) b c e f h := iter_succ _ _ _ _
def S76 (k : Nat) (a : List Y2_3) : Option Y2_20 :=
 mk (a.length : Int) (a.length : Int) 8 <|
 (S121 k a).bind fun q0 =>
 L76_5 k k a (List.replicate (a.length : Int).toNat (0 : Int)) ([] : List Int) q0.1.1 0
def F76 : Fn := ⟨[u2_2], [.val ⟨false, (.sl 3 (.int .i64)), true⟩, rB], fun k x => S76 k x.1⟩
theorem ok76 : O 76 F76 := okF (Om ok121 <| Om ok122 Oz) [(5, 2), (89, 1)] (fun k => (.loop 5 c76_L5 (b76_5 k) (fun g => (fun (g5 : Y2_13) => (.loop 10 c76_L10 (b76_10 k g5) (fun g => .nil) (.loop 23 c76_L23 (b76_23 k g5) (fun g => .nil) .nil))) (fun l_1 out open_ a i => g ((), l_1, out, open_, a, i, ()))) .nil)) Tryz.func76 rfl
abbrev c123_L3 : Cut := ⟨[0, 1, 2, 7, 8], [.cell Y2_31, .cell (.sl 3 (.int .i64)), cI, cI, cI], [], 37, []⟩
def l123_3 (k : Nat) (g3 : (List Y2_3) → (List Int) → Int → Int → Int → Option Y2_14) (a : List Y2_3) (b : List Int) (c e f : Int) : Option Y2_14 :=
 (bif decide (f < (a.length : Int)) then
  ix a f <|
  (bif (rd a f (0, 0, 0, 0)).1 == 9 then
   (bif decide (f < c) then
    ix b f <|
    (bif decide (c < (rd b f 0)) then
     g3 a b c (IntKind.i64.wrap (e + 1)) (IntKind.i64.wrap (f + 1))
    else
     g3 a b c e (IntKind.i64.wrap (f + 1)))
   else
    g3 a b c e (IntKind.i64.wrap (f + 1)))
  else
   g3 a b c e (IntKind.i64.wrap (f + 1)))
 else
  some ((e, ()), ()))
def b123_3 (k : Nat) : Xx (((Unit) × (List Y2_3) × (List Int) × Int × Int × Int × Unit) → Option Y2_14) := iV (iU (iL (iL (iL (iL (iL iE)))))) (l123_3 k)
def L123_3 (k a : Nat) (b : List Y2_3) (c : List Int) (e f h : Int) : Option Y2_14 := iter c123_L3 (b123_3 k) a ((), b, c, e, f, h, ())
theorem L123_3_s (k a b c e f h) : L123_3 k (a + 1) b c e f h = l123_3 k (L123_3 k a) b c e f h := iter_succ _ _ _ _
def S123 (k : Nat) (a : List Y2_3) (b : List Int) (c : Int) : Option Y2_14 :=
 L123_3 k k a b c 0 0
def F123 : Fn := ⟨[u2_2, .val ⟨false, (.sl 3 (.int .i64)), false⟩, pI], [rI], fun k (a, b, c, _) => S123 k a b c⟩
theorem ok123 : O 123 F123 := okF Oz [] (fun k => (.loop 3 c123_L3 (b123_3 k) (fun g => .nil) .nil)) Tryz.func123 rfl
abbrev c74_J20 : Cut := ⟨[0, 4, 5, 6, 7, 8], [.cell Y2_31, .own 200 Y2_12, cI, cI, .cell .bool, .cell .bool], [], 235, []⟩
def j74_20 (k : Nat) (g10 : Y2_26) (g15 : Y2_42) (a : List Y2_3) (b : List Y2_5) (c e : Int) (f h : Bool) : Option Y2_8 :=
 (bif !f then
  (bif !h then
   some ((false, ()), ())
  else
   ix b c <|
   ix b e <|
   (S122 k (rd b c (0, 0, 0, false)) (rd b e (0, 0, 0, false)).2.2.1).bind fun q2 =>
   (bif q2.1.1 then
    ix b e <|
    ix b c <|
    (bif decide ((rd b e (0, 0, 0, false)).2.1 > (rd b c (0, 0, 0, false)).2.1) then
     some ((false, ()), ())
    else
     g15 a b c (IntKind.i64.wrap (e + 1)))
   else
    g15 a b c (IntKind.i64.wrap (e + 1))))
 else
  ix b c <|
  ix b e <|
  (S122 k (rd b c (0, 0, 0, false)) (rd b e (0, 0, 0, false)).2.2.1).bind fun q3 =>
  (bif q3.1.1 then
   ix b e <|
   ix b c <|
   (bif decide ((rd b e (0, 0, 0, false)).2.1 > (rd b c (0, 0, 0, false)).2.1) then
    some ((false, ()), ())
   else
    g15 a b c (IntKind.i64.wrap (e + 1)))
  else
   g15 a b c (IntKind.i64.wrap (e + 1))))
abbrev c74_J19 : Cut := ⟨[0, 4, 5, 6, 7], [.cell Y2_31, .own 200 Y2_12, cI, cI, .cell .bool], [], 235, []⟩
def j74_19 (k : Nat) (g10 : Y2_26) (g15 : Y2_42) (a : List Y2_3) (b : List Y2_5) (c e : Int) (f : Bool) : Option Y2_8 :=
 ix b c <|
 ix b e <|
 (bif decide ((rd b c (0, 0, 0, false)).1 ≤ (rd b e (0, 0, 0, false)).1) then
  ix b e <|
  ix b c <|
  (bif decide ((rd b e (0, 0, 0, false)).2.1 ≤ (rd b c (0, 0, 0, false)).2.1) then
   j74_20 k g10 g15 a b c e f true
  else
   ix b e <|
   ix b c <|
   (bif decide ((rd b e (0, 0, 0, false)).1 ≤ (rd b c (0, 0, 0, false)).1) then
    ix b c <|
    ix b e <|
    j74_20 k g10 g15 a b c e f (decide ((rd b c (0, 0, 0, false)).2.1 ≤ (rd b e (0, 0, 0, false)).2.1))
   else
    j74_20 k g10 g15 a b c e f false))
 else
  ix b e <|
  ix b c <|
  (bif decide ((rd b e (0, 0, 0, false)).1 ≤ (rd b c (0, 0, 0, false)).1) then
   ix b c <|
   ix b e <|
   j74_20 k g10 g15 a b c e f (decide ((rd b c (0, 0, 0, false)).2.1 ≤ (rd b e (0, 0, 0, false)).2.1))
  else
   j74_20 k g10 g15 a b c e f false))
abbrev c74_L15 : Cut := ⟨[0, 4, 5, 6], [.cell Y2_31, .own 200 Y2_12, cI, cI], [], 235, []⟩
def l74_15 (k : Nat) (g10 : Y2_26) (g15 : Y2_42) (a : List Y2_3) (b : List Y2_5) (c e : Int) : Option Y2_8 :=
 (bif decide (e < (b.length : Int)) then
  (bif c == e then
   g15 a b c (IntKind.i64.wrap (e + 1))
  else
   ix b c <|
   ix b e <|
   (bif decide ((rd b c (0, 0, 0, false)).2.1 < (rd b e (0, 0, 0, false)).1) then
    j74_19 k g10 g15 a b c e true
   else
    ix b e <|
    ix b c <|
    j74_19 k g10 g15 a b c e (decide ((rd b e (0, 0, 0, false)).2.1 < (rd b c (0, 0, 0, false)).1))))
 else
  g10 a b (IntKind.i64.wrap (c + 1)))
def b74_15 (k : Nat) (g10 : Y2_26) : Xx (((Unit) × (List Y2_3) × (List Y2_5) × Int × Int × Unit) → Option Y2_8) := iV (iU (iL (iL (iL (iL iE))))) (l74_15 k g10)
def L74_15 (k : Nat) (g10 : Y2_26) (a : Nat) (b : List Y2_3) (c : List Y2_5) (e f : Int) : Option Y2_8 := iter c74_L15 (b74_15 k g10) a ((), b, c, e, f, ())
theorem L74_15_s (k g10 a b c e f) : L74_15 k g10 (a + 1) b c e f = l74_15 k g10 (L74_15 k g10 a) b c e f := iter_succ _ _ _ _
abbrev c74_L30 : Cut := ⟨[0, 4, 9, 11, 12, 13, 14], [.cell Y2_31, .own 200 Y2_12, .own 3 (.int .i64), cI, cI, cI, cI], [], 235, []⟩
def l74_30 (k : Nat) (g26 : Y2_30) (g30 : (List Y2_3) → (List Y2_5) → (List Int) → Int → Int → Int → Int → Option Y2_8) (a : List Y2_3) (b : List Y2_5) (c : List Int) (e f h i : Int) : Option Y2_8 :=
 (bif decide (i < (b.length : Int)) then
  ix b i <|
  (S122 k (rd b i (0, 0, 0, false)) e).bind fun q5 =>
  (bif q5.1.1 then
   ix b i <|
   (bif (rd b i (0, 0, 0, false)).2.2.2 then
    g30 a b c e (IntKind.i64.wrap (f + 1)) (IntKind.i64.wrap (h + 1)) (IntKind.i64.wrap (i + 1))
   else
    g30 a b c e f (IntKind.i64.wrap (h + 1)) (IntKind.i64.wrap (i + 1)))
  else
   g30 a b c e f h (IntKind.i64.wrap (i + 1)))
 else
  (bif decide (f > 2) then
   some ((false, ()), ())
  else
   ix a e <|
   (bif (rd a e (0, 0, 0, 0)).1 == 11 then
    (bif decide (h > 0) then
     some ((false, ()), ())
    else
     (S123 k a c e).bind fun q6 =>
     (bif decide (q6.1.1 > 0) then
      some ((false, ()), ())
     else
      g26 a b c (IntKind.i64.wrap (e + 1))))
   else
    g26 a b c (IntKind.i64.wrap (e + 1)))))
def b74_30 (k : Nat) (g26 : Y2_30) : Xx (((Unit) × (List Y2_3) × (List Y2_5) × (List Int) × Int × Int × Int × Int × Unit) → Option Y2_8) := iV (iU (iL (iL (iL (iL (iL (iL (iL iE)))))))) (l74_30 k g26)
def L74_30 (k : Nat) (g26 : Y2_30) (a : Nat) (b : List Y2_3) (c : List Y2_5) (e : List Int) (f h i l : Int) : Option Y2_8 := iter c74_L30 (b74_30 k g26) a ((), b, c, e, f, h, i, l, ())
theorem L74_30_s (k g26 a b c e f h i l) : L74_30 k g26 (a + 1) b c e f h i l = l74_30 k g26 (L74_30 k g26 a) b c e f h i l := iter_succ _ _ _ _
abbrev c74_L26 : Cut := ⟨[0, 4, 9, 11], [.cell Y2_31, .own 200 Y2_12, .own 3 (.int .i64), cI], [], 235, []⟩
def l74_26 (k : Nat) (g26 : Y2_30) (a : List Y2_3) (b : List Y2_5) (c : List Int) (e : Int) : Option Y2_8 :=
 (bif decide (e < (a.length : Int)) then
  L74_30 k g26 k a b c e 0 0 0
 else
  some ((true, ()), ()))
def b74_26 (k : Nat) : Xx (((Unit) × (List Y2_3) × (List Y2_5) × (List Int) × Int × Unit) → Option Y2_8) := iV (iU (iL (iL (iL (iL iE))))) (l74_26 k)
def L74_26 (k a : Nat) (b : List Y2_3) (c : List Y2_5) (e : List Int) (f : Int) : Option Y2_8 := iter c74_L26 (b74_26 k) a ((), b, c, e, f, ())
theorem L74_26_s (k a b c e f) : L74_26 k (a + 1) b c e f = l74_26 k (L74_26 k a) b c e f := iter_succ _ _ _ _
abbrev c74_L10 : Cut := ⟨[0, 4, 5], [.cell Y2_31, .own 200 Y2_12, cI], [], 235, []⟩
def l74_10 (k : Nat) (g10 : Y2_26) (a : List Y2_3) (b : List Y2_5) (c : Int) : Option Y2_8 :=
 (bif decide (c < (b.length : Int)) then
  ix b c <|
  (bif decide ((rd b c (0, 0, 0, false)).2.1 ≥ (IntKind.i64.wrap ((a.length : Int) - 1))) then
   some ((false, ()), ())
  else
   L74_15 k g10 k a b c 0)
 else
  (S76 k a).bind fun q4 =>
  (bif !q4.1.2.1 then
   some ((false, ()), ())
  else
   L74_26 k k a b q4.1.1 0))
def b74_10 (k : Nat) : Xx (((Unit) × (List Y2_3) × (List Y2_5) × Int × Unit) → Option Y2_8) := iV (iU (iL (iL (iL iE)))) (l74_10 k)
def L74_10 (k a : Nat) (b : List Y2_3) (c : List Y2_5) (e : Int) : Option Y2_8 := iter c74_L10 (b74_10 k) a ((), b, c, e, ())
theorem L74_10_s (k a b c e) : L74_10 k (a + 1) b c e = l74_10 k (L74_10 k a) b c e := iter_succ _ _ _ _
abbrev c74_L4 : Cut := ⟨[0, 3], [.cell Y2_31, cI], [], 235, []⟩
def l74_4 (k : Nat) (g4 : (List Y2_3) → Int → Option Y2_8) (a : List Y2_3) (b : Int) : Option Y2_8 :=
 (bif decide (b < (a.length : Int)) then
  ix a b <|
  (S120 k (rd a b (0, 0, 0, 0))).bind fun q0 =>
  (bif !q0.1.1 then
   some ((false, ()), ())
  else
   ix a b <|
   (bif !(((rd a b (0, 0, 0, 0)).1 == 0) == (b == (IntKind.i64.wrap ((a.length : Int) - 1)))) then
    some ((false, ()), ())
   else
    g4 a (IntKind.i64.wrap (b + 1))))
 else
  (S121 k a).bind fun q1 =>
  L74_10 k k a q1.1.1 0)
def b74_4 (k : Nat) : Xx (((Unit) × (List Y2_3) × Int × Unit) → Option Y2_8) := iV (iU (iL (iL iE))) (l74_4 k)
def L74_4 (k a : Nat) (b : List Y2_3) (c : Int) : Option Y2_8 := iter c74_L4 (b74_4 k) a ((), b, c, ())
theorem L74_4_s (k a b c) : L74_4 k (a + 1) b c = l74_4 k (L74_4 k a) b c := iter_succ _ _ _ _
def S74 (k : Nat) (a : List Y2_3) : Option Y2_8 :=
 (bif decide ((a.length : Int) < 1) then
  some ((false, ()), ())
 else
  (bif decide ((a.length : Int) > 24) then
   some ((false, ()), ())
  else
   L74_4 k k a 0))
def F74 : Fn := ⟨[u2_2], [rB], fun k x => S74 k x.1⟩
theorem ok74 : O 74 F74 := okF (Om ok76 <| Om ok120 <| Om ok121 <| Om ok122 <| Om ok123 Oz) [] (fun k => (.loop 26 c74_L26 (b74_26 k) (fun g => (fun (g26 : Y2_30) => (.loop 30 c74_L30 (b74_30 k g26) (fun g => .nil) .nil)) (fun l_6 a4 pairs i5 => g ((), l_6, a4, pairs, i5, ()))) (.loop 10 c74_L10 (b74_10 k) (fun g => (fun (g10 : Y2_26) => (.loop 15 c74_L15 (b74_15 k g10) (fun g => (fun (g15 : Y2_42) => (.join 20 c74_J20 (fun (_, a, b, c, e, f, h, _) => j74_20 k g10 g15 a b c e f h) (.join 19 c74_J19 (fun (_, a, b, c, e, f, _) => j74_19 k g10 g15 a b c e f) .nil))) (fun l_3 a1 i2 k_ => g ((), l_3, a1, i2, k_, ()))) .nil)) (fun l_2 a i1 => g ((), l_2, a, i1, ()))) (.loop 4 c74_L4 (b74_4 k) (fun g => .nil) .nil)))) Tryz.func74 rfl
abbrev c75_L8 : Cut := ⟨[0, 3, 4, 5, 6], [.cell Y2_31, .own 2 (.int .i64), .own 200 Y2_12, cI, cI], [], 58, []⟩
def l75_8 (k : Nat) (g4 : Y2_22) (g8 : (List Y2_3) → (List Int) → (List Y2_5) → Int → Int → Option Y2_33) (a : List Y2_3) (b : List Int) (c : List Y2_5) (e f : Int) : Option Y2_33 :=
 (bif decide (f < (c.length : Int)) then
  ix c f <|
  (bif (rd c f (0, 0, 0, false)).2.2.2 then
   ix c f <|
   (S122 k (rd c f (0, 0, 0, false)) e).bind fun q1 =>
   (bif q1.1.1 then
    ix b e <|
    ix c f <|
    ix a (rd c f (0, 0, 0, false)).2.2.1 <|
    ix b e <|
    g8 a (upd b e (IntKind.i64.wrap ((rd b e 0) * (rd a (rd c f (0, 0, 0, false)).2.2.1 (0, 0, 0, 0)).2.2.2))) c e (IntKind.i64.wrap (f + 1))
   else
    g8 a b c e (IntKind.i64.wrap (f + 1)))
  else
   g8 a b c e (IntKind.i64.wrap (f + 1)))
 else
  g4 a b c (IntKind.i64.wrap (e + 1)))
def b75_8 (k : Nat) (g4 : Y2_22) : Xx (((Unit) × (List Y2_3) × (List Int) × (List Y2_5) × Int × Int × Unit) → Option Y2_33) := iV (iU (iL (iL (iL (iL (iL iE)))))) (l75_8 k g4)
def L75_8 (k : Nat) (g4 : Y2_22) (a : Nat) (b : List Y2_3) (c : List Int) (e : List Y2_5) (f h : Int) : Option Y2_33 := iter c75_L8 (b75_8 k g4) a ((), b, c, e, f, h, ())
theorem L75_8_s (k g4 a b c e f h) : L75_8 k g4 (a + 1) b c e f h = l75_8 k g4 (L75_8 k g4 a) b c e f h := iter_succ _ _ _ _
abbrev c75_L4 : Cut := ⟨[0, 3, 4, 5], [.cell Y2_31, .own 2 (.int .i64), .own 200 Y2_12, cI], [], 58, []⟩
def l75_4 (k : Nat) (g4 : Y2_22) (a : List Y2_3) (b : List Int) (c : List Y2_5) (e : Int) : Option Y2_33 :=
 (bif decide (e < (a.length : Int)) then
  ix b e <|
  L75_8 k g4 k a (upd b e 1) c e 0
 else
  some ((b, ()), ()))
def b75_4 (k : Nat) : Xx (((Unit) × (List Y2_3) × (List Int) × (List Y2_5) × Int × Unit) → Option Y2_33) := iV (iU (iL (iL (iL (iL iE))))) (l75_4 k)
def L75_4 (k a : Nat) (b : List Y2_3) (c : List Int) (e : List Y2_5) (f : Int) : Option Y2_33 := iter c75_L4 (b75_4 k) a ((), b, c, e, f, ())
theorem L75_4_s (k a b c e f) : L75_4 k (a + 1) b c e f = l75_4 k (L75_4 k a) b c e f := iter_succ _ _ _ _
def S75 (k : Nat) (a : List Y2_3) : Option Y2_33 :=
 mk (a.length : Int) (a.length : Int) 8 <|
 (S121 k a).bind fun q0 =>
 L75_4 k k a (List.replicate (a.length : Int).toNat (0 : Int)) q0.1.1 0
def F75 : Fn := ⟨[u2_2], [.val ⟨false, Y2_46, true⟩], fun k x => S75 k x.1⟩
theorem ok75 : O 75 F75 := okF (Om ok121 <| Om ok122 Oz) [] (fun k => (.loop 4 c75_L4 (b75_4 k) (fun g => (fun (g4 : Y2_22) => (.loop 8 c75_L8 (b75_8 k g4) (fun g => .nil) .nil)) (fun l_1 out a i => g ((), l_1, out, a, i, ()))) .nil)) Tryz.func75 rfl
abbrev c41_L16 : Cut := ⟨[0, 2, 4, 5, 6, 8, 9, 10, 11], [.cell Y2_31, .box 114 [cI, cI, .nil], .box 114 [cI, cI, .own 120 Y2_16], .own 2 (.int .i64), .own 3 (.int .i64), cI, cI, cI, cI], [], 103, []⟩
def l41_16 (k : Nat) (g8 : Y2_10) (g16 : (List Y2_3) → Int → Int → Int → Int → (List (Int × Int)) → (List Int) → (List Int) → Int → Int → Int → Int → Option Y2_17) (a : List Y2_3) (b c e f : Int) (h : List (Int × Int)) (i l : List Int) (m n o p : Int) : Option Y2_17 :=
 ix l n <|
 (bif decide (p ≤ (rd l n 0)) then
  ix i p <|
  g16 a b c e f h i l m n (IntKind.i64.wrap (o + (rd i p 0))) (IntKind.i64.wrap (p + 1))
 else
  ix a n <|
  ix i n <|
  nz (rd i n 0) <|
  ap h ([((rd a n (0, 0, 0, 0)).2.1, IntKind.i64.wrap (Int.tdiv o (rd i n 0)))] : List (Int × Int)) 16 fun r3 =>
  g8 a b c e f r3 i l m (IntKind.i64.wrap (n + 1)))
def b41_16 (k : Nat) (g8 : Y2_10) : Xx (((Unit) × (List Y2_3) × (Int × Int × Unit × Unit) × Y2_37 × (List Int) × (List Int) × Int × Int × Int × Int × Unit) → Option Y2_17) := iV (iU (iL (iN (iL (iL (iU iE))) (iN (iL (iL (iL iE))) (iL (iL (iL (iL (iL (iL iE)))))))))) (l41_16 k g8)
def L41_16 (k : Nat) (g8 : Y2_10) (a : Nat) (b : List Y2_3) (c e f h : Int) (i : List (Int × Int)) (l m : List Int) (n o p s : Int) : Option Y2_17 := iter c41_L16 (b41_16 k g8) a ((), b, (c, e, (), ()), (f, h, i, ()), l, m, n, o, p, s, ())
theorem L41_16_s (k g8 a b c e f h i l m n o p s) : L41_16 k g8 (a + 1) b c e f h i l m n o p s = l41_16 k g8 (L41_16 k g8 a) b c e f h i l m n o p s := iter_succ _ _ _ _
abbrev c41_J13 : Cut := ⟨[0, 2, 4, 5, 6, 8, 9], [.cell Y2_31, .box 114 [cI, cI, .nil], .box 114 [cI, cI, .own 120 Y2_16], .own 2 (.int .i64), .own 3 (.int .i64), cI, cI], [], 103, []⟩
def j41_13 (k : Nat) (g8 : Y2_10) (a : List Y2_3) (b c e f : Int) (h : List (Int × Int)) (i l : List Int) (m n : Int) : Option Y2_17 :=
 ix a n <|
 (bif (rd a n (0, 0, 0, 0)).1 == 9 then
  L41_16 k g8 k a b c e f h i l m n 0 (IntKind.i64.wrap (n + 1))
 else
  g8 a b c e f h i l m (IntKind.i64.wrap (n + 1)))
abbrev c41_L8 : Cut := ⟨[0, 2, 4, 5, 6, 8, 9], [.cell Y2_31, .box 114 [cI, cI, .nil], .box 114 [cI, cI, .own 120 Y2_16], .own 2 (.int .i64), .own 3 (.int .i64), cI, cI], [], 103, []⟩
def l41_8 (k : Nat) (g8 : Y2_10) (a : List Y2_3) (b c e f : Int) (h : List (Int × Int)) (i l : List Int) (m n : Int) : Option Y2_17 :=
 (bif decide (n < (a.length : Int)) then
  ix i n <|
  ix i n <|
  ix a n <|
  (bif (rd a n (0, 0, 0, 0)).1 == 11 then
   j41_13 k g8 a b c (IntKind.i64.wrap (e + (rd i n 0))) (mx f (IntKind.i64.wrap (m + (rd i n 0)))) h i l 0 n
  else
   ix a n <|
   (bif (rd a n (0, 0, 0, 0)).1 == 0 then
    j41_13 k g8 a b c (IntKind.i64.wrap (e + (rd i n 0))) (mx f (IntKind.i64.wrap (m + (rd i n 0)))) h i l 0 n
   else
    j41_13 k g8 a b c (IntKind.i64.wrap (e + (rd i n 0))) f h i l (IntKind.i64.wrap (m + (rd i n 0))) n))
 else
  some (((e, f, h), true, ()), ()))
def b41_8 (k : Nat) : Xx (((Unit) × (List Y2_3) × (Int × Int × Unit × Unit) × Y2_37 × (List Int) × (List Int) × Int × Int × Unit) → Option Y2_17) := iV (iU (iL (iN (iL (iL (iU iE))) (iN (iL (iL (iL iE))) (iL (iL (iL (iL iE)))))))) (l41_8 k)
def L41_8 (k a : Nat) (b : List Y2_3) (c e f h : Int) (i : List (Int × Int)) (l m : List Int) (n o : Int) : Option Y2_17 := iter c41_L8 (b41_8 k) a ((), b, (c, e, (), ()), (f, h, i, ()), l, m, n, o, ())
theorem L41_8_s (k a b c e f h i l m n o) : L41_8 k (a + 1) b c e f h i l m n o = l41_8 k (L41_8 k a) b c e f h i l m n o := iter_succ _ _ _ _
def S41 (k : Nat) (a : List Y2_3) : Option Y2_17 :=
 (S74 k a).bind fun q0 =>
 (bif !q0.1.1 then
  some (((0, 0, []), false, ()), ())
 else
  (S75 k a).bind fun q1 =>
  (S76 k a).bind fun q2 =>
  L41_8 k k a 0 0 0 0 ([] : List (Int × Int)) q1.1.1 q2.1.1 0 0)
def F41 : Fn := ⟨[u2_2], [.val ⟨true, (.pair (.int .i64) (.pair (.int .i64) (.sl 120 Y2_16))), true⟩, rB], fun k x => S41 k x.1⟩
theorem ok41 : O 41 F41 := okF (Om ok74 <| Om ok75 <| Om ok76 Oz) [(16, 2)] (fun k => (.loop 8 c41_L8 (b41_8 k) (fun g => (fun (g8 : Y2_10) => (.loop 16 c41_L16 (b41_16 k g8) (fun g => .nil) (.join 13 c41_J13 (fun (_, a, (b, c, _), (e, f, h, _), i, l, m, n, _) => j41_13 k g8 a b c e f h i l m n) .nil))) (fun l_1 t2 t2_1 c c1 c2 t pairs piece i => g ((), l_1, (t2, t2_1, (), ()), (c, c1, c2, ()), t, pairs, piece, i, ()))) .nil)) Tryz.func41 rfl
abbrev c42_L2 : Cut := ⟨[0, 3], [.cell Y2_31, cI], [], 16, []⟩
def l42_2 (k : Nat) (g2 : (List Y2_3) → Int → Option Y2_8) (a : List Y2_3) (b : Int) : Option Y2_8 :=
 (bif decide (b < (a.length : Int)) then
  ix a b <|
  (bif (rd a b (0, 0, 0, 0)).1 == 9 then
   some ((true, ()), ())
  else
   g2 a (IntKind.i64.wrap (b + 1)))
 else
  some ((false, ()), ()))
def b42_2 (k : Nat) : Xx (((Unit) × (List Y2_3) × Int × Unit) → Option Y2_8) := iV (iU (iL (iL iE))) (l42_2 k)
def L42_2 (k a : Nat) (b : List Y2_3) (c : Int) : Option Y2_8 := iter c42_L2 (b42_2 k) a ((), b, c, ())
theorem L42_2_s (k a b c) : L42_2 k (a + 1) b c = l42_2 k (L42_2 k a) b c := iter_succ _ _ _ _
def S42 (k : Nat) (a : List Y2_3) : Option Y2_8 :=
 L42_2 k k a 0
def F42 : Fn := ⟨[u2_2], [rB], fun k x => S42 k x.1⟩
theorem ok42 : O 42 F42 := okF Oz [] (fun k => (.loop 2 c42_L2 (b42_2 k) (fun g => .nil) .nil)) Tryz.func42 rfl
def S22 (k : Nat) (a : Y2_34) : Option Y2_14 :=
 (S41 k a.2.2.2.1).bind fun q0 =>
 (S41 k a.2.2.2.2.1).bind fun q1 =>
 (S41 k a.2.2.2.2.2).bind fun q2 =>
 (bif decide (a.1 < 0) then
  some ((1, ()), ())
 else
  (bif decide (a.1 > 63) then
   some ((1, ()), ())
  else
   (bif decide (a.2.1 < 1) then
    some ((9, ()), ())
   else
    (bif decide (a.2.1 > 16384) then
     some ((9, ()), ())
    else
     (bif decide (a.2.2.1 < 1) then
      some ((9, ()), ())
     else
      (bif decide (a.2.2.1 > a.2.1) then
       some ((9, ()), ())
      else
       (bif !q0.1.2.1 then
        some ((2, ()), ())
       else
        (bif decide ((a.2.2.2.2.1.length : Int) > 0) then
         (bif !q1.1.2.1 then
          some ((2, ()), ())
         else
          (bif decide ((a.2.2.2.2.2.length : Int) > 0) then
           (bif !q2.1.2.1 then
            some ((2, ()), ())
           else
            (S42 k a.2.2.2.2.2).bind fun q3 =>
            (bif q3.1.1 then
             some ((2, ()), ())
            else
             (bif decide (q0.1.1.1 > a.2.2.1) then
              some ((10, ()), ())
             else
              (bif decide ((a.2.2.2.2.1.length : Int) > 0) then
               (bif decide (q1.1.1.1 > q0.1.1.1) then
                some ((12, ()), ())
               else
                some ((0, ()), ()))
              else
               some ((0, ()), ())))))
          else
           (bif decide (q0.1.1.1 > a.2.2.1) then
            some ((10, ()), ())
           else
            (bif decide ((a.2.2.2.2.1.length : Int) > 0) then
             (bif decide (q1.1.1.1 > q0.1.1.1) then
              some ((12, ()), ())
             else
              some ((0, ()), ()))
            else
             some ((0, ()), ())))))
        else
         (bif decide ((a.2.2.2.2.2.length : Int) > 0) then
          (bif !q2.1.2.1 then
           some ((2, ()), ())
          else
           (S42 k a.2.2.2.2.2).bind fun q4 =>
           (bif q4.1.1 then
            some ((2, ()), ())
           else
            (bif decide (q0.1.1.1 > a.2.2.1) then
             some ((10, ()), ())
            else
             (bif decide ((a.2.2.2.2.1.length : Int) > 0) then
              (bif decide (q1.1.1.1 > q0.1.1.1) then
               some ((12, ()), ())
              else
               some ((0, ()), ()))
             else
              some ((0, ()), ())))))
         else
          (bif decide (q0.1.1.1 > a.2.2.1) then
           some ((10, ()), ())
          else
           (bif decide ((a.2.2.2.2.1.length : Int) > 0) then
            (bif decide (q1.1.1.1 > q0.1.1.1) then
             some ((12, ()), ())
            else
             some ((0, ()), ()))
           else
            some ((0, ()), ()))))))))))))
def F22 : Fn := ⟨[u2_4], [rI], fun k x => S22 k x.1⟩
theorem ok22 : O 22 F22 := okF (Om ok41 <| Om ok42 Oz) [] On Tryz.func22 rfl
abbrev c9_L3 : Cut := ⟨[0, 3, 6, 7], [.cell Y2_44, .box 30 [cI, cI, cI, .cell Y2_31, .cell Y2_31, .cell Y2_31], cI, cI], [], 52, []⟩
def l9_3 (k : Nat) (g3 : (List Y2_0) → Int → Int → Int → (List Y2_3) → (List Y2_3) → (List Y2_3) → Int → Int → Option Y2_41) (a : List Y2_0) (b c e : Int) (f h i : List Y2_3) (l m : Int) : Option Y2_41 :=
 (bif decide (m < (a.length : Int)) then
  ix a m <|
  (bif (rd a m (0, 0, 0, [], [], [])).1 == b then
   some (([], false, ()), ())
  else
   ix a m <|
   (bif decide ((rd a m (0, 0, 0, [], [], [])).1 < b) then
    g3 a b c e f h i (IntKind.i64.wrap (m + 1)) (IntKind.i64.wrap (m + 1))
   else
    g3 a b c e f h i l (IntKind.i64.wrap (m + 1))))
 else
  sx a 0 l <|
  ap ([] : List Y2_0) (sub a 0 l) 96 fun r0 =>
  ap r0 ([(b, c, e, f, h, i)] : List Y2_0) 96 fun r1 =>
  sx a l (a.length : Int) <|
  ap r1 (sub a l (a.length : Int)) 96 fun r2 =>
  (S22 k (b, c, e, f, h, i)).bind fun q3 =>
  (bif q3.1.1 == 0 then
   some ((r2, decide ((a.length : Int) < 8), ()), ())
  else
   some ((r2, false, ()), ())))
def b9_3 (k : Nat) : Xx (((Unit) × (List Y2_0) × (Int × Int × Int × (List Y2_3) × (List Y2_3) × (List Y2_3) × Unit) × Int × Int × Unit) → Option Y2_41) := iV (iU (iL (iN (iL (iL (iL (iL (iL (iL iE)))))) (iL (iL iE))))) (l9_3 k)
def L9_3 (k a : Nat) (b : List Y2_0) (c e f : Int) (h i l : List Y2_3) (m n : Int) : Option Y2_41 := iter c9_L3 (b9_3 k) a ((), b, (c, e, f, h, i, l, ()), m, n, ())
theorem L9_3_s (k a b c e f h i l m n) : L9_3 k (a + 1) b c e f h i l m n = l9_3 k (L9_3 k a) b c e f h i l m n := iter_succ _ _ _ _
def S9 (k : Nat) (a : List Y2_0) (b : Y2_34) : Option Y2_41 :=
 L9_3 k k a b.1 b.2.1 b.2.2.1 b.2.2.2.1 b.2.2.2.2.1 b.2.2.2.2.2 0 0
def F9 : Fn := ⟨[u2_3, u2_4], [.val ⟨false, Y2_44, true⟩, rB], fun k x => S9 k x.1 x.2.1⟩
theorem ok9 : O 9 F9 := okF (Om ok22 Oz) [] (fun k => (.loop 3 c9_L3 (b9_3 k) (fun g => .nil) .nil)) Tryz.func9 rfl
abbrev c44_J8 : Cut := ⟨[5, 7, 9], [.box 114 [cI, cI, .own 120 Y2_16], .box 114 [cI, cI, .own 120 Y2_16], cI], [], 43, []⟩
def j44_8 (k : Nat) (a b : Int) (c : List (Int × Int)) (e f : Int) (h : List (Int × Int)) (i : Int) : Option (Y2_37 × Unit) :=
 ap ([] : List (Int × Int)) c 16 fun r3 =>
 ap r3 h 16 fun r4 =>
 some ((a, i, r4, ()), ())
def S44 (k : Nat) (a : Y2_34) : Option (Y2_37 × Unit) :=
 (S22 k a).bind fun q0 =>
 (bif q0.1.1 != 0 then
  some ((0, 0, [], ()), ())
 else
  (S41 k a.2.2.2.1).bind fun q1 =>
  (S41 k a.2.2.2.2.1).bind fun q2 =>
  (bif decide ((a.2.2.2.2.1.length : Int) > 0) then
   j44_8 k q1.1.1.1 q1.1.1.2.1 q1.1.1.2.2 q2.1.1.1 q2.1.1.2.1 q2.1.1.2.2 q2.1.1.1
  else
   j44_8 k q1.1.1.1 q1.1.1.2.1 q1.1.1.2.2 q2.1.1.1 q2.1.1.2.1 q2.1.1.2.2 q1.1.1.2.1))
def F44 : Fn := ⟨[u2_4], [rI, rI, .val ⟨false, (.sl 120 Y2_16), true⟩], fun k x => S44 k x.1⟩
theorem ok44 : O 44 F44 := okF (Om ok22 <| Om ok41 Oz) [] (fun k => (.join 8 c44_J8 (fun (_, (a, b, c, _), (e, f, h, _), i, _) => j44_8 k a b c e f h i) .nil)) Tryz.func44 rfl
abbrev c77_L6 : Cut := ⟨[0, 1, 5, 6, 7], [.cell Y2_44, cI, cI, .own 46 Y2_4, cI], [], 49, []⟩
def l77_6 (k : Nat) (g2 : Y2_43) (g6 : (List Y2_0) → Int → Int → (List Y2_3) → Int → Option Y2_14) (a : List Y2_0) (b c : Int) (e : List Y2_3) (f : Int) : Option Y2_14 :=
 (bif decide (f < (e.length : Int)) then
  ix e f <|
  (bif (rd e f (0, 0, 0, 0)).1 == 9 then
   ix e f <|
   (bif (rd e f (0, 0, 0, 0)).2.1 == b then
    some ((c, ()), ())
   else
    g6 a b c e (IntKind.i64.wrap (f + 1)))
  else
   g6 a b c e (IntKind.i64.wrap (f + 1)))
 else
  g2 a b (IntKind.i64.wrap (c + 1)))
def b77_6 (k : Nat) (g2 : Y2_43) : Xx (((Unit) × (List Y2_0) × Int × Int × (List Y2_3) × Int × Unit) → Option Y2_14) := iV (iU (iL (iL (iL (iL (iL iE)))))) (l77_6 k g2)
def L77_6 (k : Nat) (g2 : Y2_43) (a : Nat) (b : List Y2_0) (c e : Int) (f : List Y2_3) (h : Int) : Option Y2_14 := iter c77_L6 (b77_6 k g2) a ((), b, c, e, f, h, ())
theorem L77_6_s (k g2 a b c e f h) : L77_6 k g2 (a + 1) b c e f h = l77_6 k g2 (L77_6 k g2 a) b c e f h := iter_succ _ _ _ _
abbrev c77_L2 : Cut := ⟨[0, 1, 5], [.cell Y2_44, cI, cI], [], 49, []⟩
def l77_2 (k : Nat) (g2 : Y2_43) (a : List Y2_0) (b c : Int) : Option Y2_14 :=
 (bif decide (c < (a.length : Int)) then
  ix a c <|
  ap ([] : List Y2_3) (rd a c (0, 0, 0, [], [], [])).2.2.2.1 32 fun r0 =>
  ix a c <|
  ap r0 (rd a c (0, 0, 0, [], [], [])).2.2.2.2.1 32 fun r1 =>
  L77_6 k g2 k a b c r1 0
 else
  some ((8, ()), ()))
def b77_2 (k : Nat) : Xx (((Unit) × (List Y2_0) × Int × Int × Unit) → Option Y2_14) := iV (iU (iL (iL (iL iE)))) (l77_2 k)
def L77_2 (k a : Nat) (b : List Y2_0) (c e : Int) : Option Y2_14 := iter c77_L2 (b77_2 k) a ((), b, c, e, ())
theorem L77_2_s (k a b c e) : L77_2 k (a + 1) b c e = l77_2 k (L77_2 k a) b c e := iter_succ _ _ _ _
def S77 (k : Nat) (a : List Y2_0) (b : Int) : Option Y2_14 :=
 L77_2 k k a b 0
def F77 : Fn := ⟨[u2_3, pI], [rI], fun k x => S77 k x.1 x.2.1⟩
theorem ok77 : O 77 F77 := okF Oz [] (fun k => (.loop 2 c77_L2 (b77_2 k) (fun g => (fun (g2 : Y2_43) => (.loop 6 c77_L6 (b77_6 k g2) (fun g => .nil) .nil)) (fun l_1 s1 i => g ((), l_1, s1, i, ()))) .nil)) Tryz.func77 rfl
abbrev c43_L8 : Cut := ⟨[0, 1, 5, 6, 9, 10], [.cell Y2_44, cI, cI, cI, .own 120 Y2_16, cI], [], 52, []⟩
def l43_8 (k : Nat) (g3 : Y2_38) (g8 : (List Y2_0) → Int → Int → Int → (List (Int × Int)) → Int → Option Y2_14) (a : List Y2_0) (b c e : Int) (f : List (Int × Int)) (h : Int) : Option Y2_14 :=
 (bif decide (h < (f.length : Int)) then
  ix f h <|
  (S77 k a (rd f h (0, 0)).1).bind fun q1 =>
  (bif decide (q1.1.1 ≤ b) then
   ix f h <|
   g8 a b (mx c (rd f h (0, 0)).2) e f (IntKind.i64.wrap (h + 1))
  else
   g8 a b c e f (IntKind.i64.wrap (h + 1)))
 else
  g3 a b c (IntKind.i64.wrap (e + 1)))
def b43_8 (k : Nat) (g3 : Y2_38) : Xx (((Unit) × (List Y2_0) × Int × Int × Int × (List (Int × Int)) × Int × Unit) → Option Y2_14) := iV (iU (iL (iL (iL (iL (iL (iL iE))))))) (l43_8 k g3)
def L43_8 (k : Nat) (g3 : Y2_38) (a : Nat) (b : List Y2_0) (c e f : Int) (h : List (Int × Int)) (i : Int) : Option Y2_14 := iter c43_L8 (b43_8 k g3) a ((), b, c, e, f, h, i, ())
theorem L43_8_s (k g3 a b c e f h i) : L43_8 k g3 (a + 1) b c e f h i = l43_8 k g3 (L43_8 k g3 a) b c e f h i := iter_succ _ _ _ _
abbrev c43_L3 : Cut := ⟨[0, 1, 5, 6], [.cell Y2_44, cI, cI, cI], [], 52, []⟩
def l43_3 (k : Nat) (g3 : Y2_38) (a : List Y2_0) (b c e : Int) : Option Y2_14 :=
 (bif decide (e < (a.length : Int)) then
  (bif e == b then
   g3 a b c (IntKind.i64.wrap (e + 1))
  else
   ix a e <|
   (S44 k (rd a e (0, 0, 0, [], [], []))).bind fun q0 =>
   L43_8 k g3 k a b c e q0.1.2.2.1 0)
 else
  some ((c, ()), ()))
def b43_3 (k : Nat) : Xx (((Unit) × (List Y2_0) × Int × Int × Int × Unit) → Option Y2_14) := iV (iU (iL (iL (iL (iL iE))))) (l43_3 k)
def L43_3 (k a : Nat) (b : List Y2_0) (c e f : Int) : Option Y2_14 := iter c43_L3 (b43_3 k) a ((), b, c, e, f, ())
theorem L43_3_s (k a b c e f) : L43_3 k (a + 1) b c e f = l43_3 k (L43_3 k a) b c e f := iter_succ _ _ _ _
def S43 (k : Nat) (a : List Y2_0) (b : Int) : Option Y2_14 :=
 L43_3 k k a b 0 0
def F43 : Fn := ⟨[u2_3, pI], [rI], fun k x => S43 k x.1 x.2.1⟩
theorem ok43 : O 43 F43 := okF (Om ok44 <| Om ok77 Oz) [] (fun k => (.loop 3 c43_L3 (b43_3 k) (fun g => (fun (g3 : Y2_38) => (.loop 8 c43_L8 (b43_8 k g3) (fun g => .nil) .nil)) (fun l_1 i1 most k_ => g ((), l_1, i1, most, k_, ()))) .nil)) Tryz.func43 rfl
abbrev c23_L3 : Cut := ⟨[0, 1, 4, 5, 6], [.cell Y2_44, cI, .box 90 [.nil, cI, cI, .nil], .box 90 [.own 2 (.int .i64), cI, cI, .own 2 (.int .i64)], cI], [], 50, []⟩
def l23_3 (k : Nat) (g3 : (List Y2_0) → Int → Int → Int → (List Int) → Int → Int → (List Int) → Int → Option Y2_27) (a : List Y2_0) (b c e : Int) (x : List Int) (f h : Int) (i : List Int) (l : Int) : Option Y2_27 :=
 (bif decide (l ≤ b) then
  ix a l <|
  (S44 k (rd a l (0, 0, 0, [], [], []))).bind fun q1 =>
  ap x ([q1.1.1] : List Int) 8 fun r2 =>
  ix a l <|
  ap i ([(rd a l (0, 0, 0, [], [], [])).2.1] : List Int) 8 fun r3 =>
  g3 a b c e r2 (mx f q1.1.2.1) h r3 (IntKind.i64.wrap (l + 1))
 else
  some (((x, f, h, i), ()), ()))
def b23_3 (k : Nat) : Xx (((Unit) × (List Y2_0) × Int × (Unit × Int × Int × Unit × Unit) × Y2_35 × Int × Unit) → Option Y2_27) := iV (iU (iL (iL (iN (iU (iL (iL (iU iE)))) (iN (iL (iL (iL (iL iE)))) (iL iE)))))) (l23_3 k)
def L23_3 (k a : Nat) (b : List Y2_0) (c e f : Int) (x : List Int) (h i : Int) (l : List Int) (m : Int) : Option Y2_27 := iter c23_L3 (b23_3 k) a ((), b, c, ((), e, f, (), ()), (x, h, i, l, ()), m, ())
theorem L23_3_s (k a b c e f x h i l m) : L23_3 k (a + 1) b c e f x h i l m = l23_3 k (L23_3 k a) b c e f x h i l m := iter_succ _ _ _ _
def S23 (k : Nat) (a : List Y2_0) (b : Int) : Option Y2_27 :=
 (S43 k a b).bind fun q0 =>
 L23_3 k k a b 0 0 ([] : List Int) 0 q0.1.1 ([] : List Int) 0
def F23 : Fn := ⟨[u2_3, pI], [.val ⟨true, (.pair Y2_46 (.pair (.int .i64) (.pair (.int .i64) Y2_46))), true⟩], fun k x => S23 k x.1 x.2.1⟩
theorem ok23 : O 23 F23 := okF (Om ok43 <| Om ok44 Oz) [(13, 2)] (fun k => (.loop 3 c23_L3 (b23_3 k) (fun g => .nil) .nil)) Tryz.func23 rfl
def S45 (k : Nat) (a b : Int) : Option Y2_32 :=
 (bif decide (a > (IntKind.i64.wrap (9223372036854775807 - b))) then
  some ((0, false, ()), ())
 else
  some ((IntKind.i64.wrap (a + b), true, ()), ()))
def F45 : Fn := ⟨[pI, pI], [rI, rB], fun k x => S45 k x.1 x.2.1⟩
theorem ok45 : O 45 F45 := okF Oz [] On Tryz.func45 rfl
def S46 (k : Nat) (a b : Int) : Option Y2_32 :=
 (bif decide (b < 1) then
  some ((0, false, ()), ())
 else
  (bif decide (a < 0) then
   some ((0, false, ()), ())
  else
   nz b <|
   nz b <|
   (bif decide ((Int.tmod a b) > 0) then
    some ((IntKind.i64.wrap ((IntKind.i64.wrap (Int.tdiv a b)) + 1), true, ()), ())
   else
    some ((IntKind.i64.wrap (Int.tdiv a b), true, ()), ()))))
def F46 : Fn := ⟨[pI, pI], [rI, rB], fun k x => S46 k x.1 x.2.1⟩
theorem ok46 : O 46 F46 := okF Oz [] On Tryz.func46 rfl
def S47 (k : Nat) (a b : Int) : Option Y2_32 :=
 (bif decide (a > 0) then
  nz a <|
  (bif decide (b > (IntKind.i64.wrap (Int.tdiv 9223372036854775807 a))) then
   some ((0, false, ()), ())
  else
   some ((IntKind.i64.wrap (a * b), true, ()), ()))
 else
  some ((IntKind.i64.wrap (a * b), true, ()), ()))
def F47 : Fn := ⟨[pI, pI], [rI, rB], fun k x => S47 k x.1 x.2.1⟩
theorem ok47 : O 47 F47 := okF Oz [] On Tryz.func47 rfl
abbrev c24_L9 : Cut := ⟨[2, 3, 8, 9, 10, 15], [cI, .box 90 [.cell Y2_46, cI, cI, .cell Y2_46], cI, cI, .cell .bool, cI], [], 94, []⟩
def l24_9 (k : Nat) (g9 : Int → (List Int) → Int → Int → (List Int) → Int → Int → Bool → Int → Option Y2_32) (a : Int) (b : List Int) (c e : Int) (f : List Int) (h i : Int) (l : Bool) (m : Int) : Option Y2_32 :=
 (bif decide (m < h) then
  (bif l then
   ix f m <|
   (S46 k a (rd f m 0)).bind fun q4 =>
   ix b m <|
   (S47 k q4.1.1 (rd b m 0)).bind fun q5 =>
   (bif q5.1.2.1 then
    (S45 k i q5.1.1).bind fun q6 =>
    g9 a b c e f h q6.1.1 q6.1.2.1 (IntKind.i64.wrap (m + 1))
   else
    g9 a b c e f h i q5.1.2.1 (IntKind.i64.wrap (m + 1)))
  else
   some ((i, l, ()), ()))
 else
  some ((i, l, ()), ()))
def b24_9 (k : Nat) : Xx (((Unit) × Int × Y2_35 × Int × Int × Bool × Int × Unit) → Option Y2_32) := iV (iU (iL (iN (iL (iL (iL (iL iE)))) (iL (iL (iL (iL iE))))))) (l24_9 k)
def L24_9 (k a : Nat) (b : Int) (c : List Int) (e f : Int) (h : List Int) (i l : Int) (m : Bool) (n : Int) : Option Y2_32 := iter c24_L9 (b24_9 k) a ((), b, (c, e, f, h, ()), i, l, m, n, ())
theorem L24_9_s (k a b c e f h i l m n) : L24_9 k (a + 1) b c e f h i l m n = l24_9 k (L24_9 k a) b c e f h i l m n := iter_succ _ _ _ _
abbrev c24_J6 : Cut := ⟨[2, 3, 8, 9, 10, 13], [cI, .box 90 [.cell Y2_46, cI, cI, .cell Y2_46], cI, cI, .cell .bool, cI], [], 94, []⟩
def j24_6 (k : Nat) (a : Int) (b : List Int) (c e : Int) (f : List Int) (h i : Int) (l : Bool) (m : Int) : Option Y2_32 :=
 (bif l then
  (S45 k i m).bind fun q3 =>
  L24_9 k k a b c e f h q3.1.1 q3.1.2.1 0
 else
  L24_9 k k a b c e f h i l 0)
def S24 (k : Nat) (x : (List Int) × Int × Int × List Int) (a b : Int) : Option Y2_32 :=
 ix x.1 (IntKind.i64.wrap ((x.1.length : Int) - 1)) <|
 (S45 k (rd x.1 (IntKind.i64.wrap ((x.1.length : Int) - 1)) 0) x.2.2.1).bind fun q0 =>
 (S46 k b a).bind fun q1 =>
 (S47 k q1.1.1 x.2.1).bind fun q2 =>
 (bif q0.1.2.1 then
  j24_6 k b x.1 x.2.1 x.2.2.1 x.2.2.2 (IntKind.i64.wrap ((x.1.length : Int) - 1)) q0.1.1 q2.1.2.1 q2.1.1
 else
  j24_6 k b x.1 x.2.1 x.2.2.1 x.2.2.2 (IntKind.i64.wrap ((x.1.length : Int) - 1)) q0.1.1 false q2.1.1)
def F24 : Fn := ⟨[.val ⟨true, (.pair Y2_46 (.pair (.int .i64) (.pair (.int .i64) Y2_46))), false⟩, pI, pI], [rI, rB], fun k (a, b, c, _) => S24 k a b c⟩
theorem ok24 : O 24 F24 := okF (Om ok45 <| Om ok46 <| Om ok47 Oz) [] (fun k => (.loop 9 c24_L9 (b24_9 k) (fun g => .nil) (.join 6 c24_J6 (fun (_, a, (b, c, e, f, _), h, i, l, m, _) => j24_6 k a b c e f h i l m) .nil))) Tryz.func24 rfl
abbrev c10_L3 : Cut := ⟨[0, 1, 2, 7, 8], [.cell Y2_44, cI, cI, .box 90 [.own 2 (.int .i64), cI, cI, .own 2 (.int .i64)], cI], [], 37, []⟩
def l10_3 (k : Nat) (g3 : (List Y2_0) → Int → Int → (List Int) → Int → Int → (List Int) → Int → Option Y2_14) (a : List Y2_0) (b c : Int) (e : List Int) (f h : Int) (i : List Int) (x : Int) : Option Y2_14 :=
 ix a b <|
 (bif decide (x ≤ (rd a b (0, 0, 0, [], [], [])).2.2.1) then
  (S24 k (e, f, h, i) c x).bind fun q1 =>
  (bif q1.1.2.1 then
   (bif q1.1.1 == x then
    some ((x, ()), ())
   else
    g3 a b c e f h i (IntKind.i64.wrap (x + 1)))
  else
   g3 a b c e f h i (IntKind.i64.wrap (x + 1)))
 else
  some ((0, ()), ()))
def b10_3 (k : Nat) : Xx (((Unit) × (List Y2_0) × Int × Int × Y2_35 × Int × Unit) → Option Y2_14) := iV (iU (iL (iL (iL (iN (iL (iL (iL (iL iE)))) (iL iE)))))) (l10_3 k)
def L10_3 (k a : Nat) (b : List Y2_0) (c e : Int) (f : List Int) (h i : Int) (l : List Int) (x : Int) : Option Y2_14 := iter c10_L3 (b10_3 k) a ((), b, c, e, (f, h, i, l, ()), x, ())
theorem L10_3_s (k a b c e f h i l x) : L10_3 k (a + 1) b c e f h i l x = l10_3 k (L10_3 k a) b c e f h i l x := iter_succ _ _ _ _
def S10 (k : Nat) (a : List Y2_0) (b c : Int) : Option Y2_14 :=
 (S23 k a b).bind fun q0 =>
 L10_3 k k a b c q0.1.1.1 q0.1.1.2.1 q0.1.1.2.2.1 q0.1.1.2.2.2 1
def F10 : Fn := ⟨[u2_3, pI, pI], [rI], fun k (a, b, c, _) => S10 k a b c⟩
theorem ok10 : O 10 F10 := okF (Om ok23 <| Om ok24 Oz) [] (fun k => (.loop 3 c10_L3 (b10_3 k) (fun g => .nil) .nil)) Tryz.func10 rfl
abbrev c48_L4 : Cut := ⟨[0, 1, 5], [.cell Y2_31, .cell Y2_31, cI], [], 26, []⟩
def l48_4 (k : Nat) (g4 : (List Y2_3) → (List Y2_3) → Int → Option Y2_8) (a b : List Y2_3) (c : Int) : Option Y2_8 :=
 (bif decide (c < (a.length : Int)) then
  ix a c <|
  ix b c <|
  (bif !(beqD Y2_4 (rd a c (0, 0, 0, 0)) (rd b c (0, 0, 0, 0))) then
   some ((false, ()), ())
  else
   g4 a b (IntKind.i64.wrap (c + 1)))
 else
  some ((true, ()), ()))
def b48_4 (k : Nat) : Xx (((Unit) × (List Y2_3) × (List Y2_3) × Int × Unit) → Option Y2_8) := iV (iU (iL (iL (iL iE)))) (l48_4 k)
def L48_4 (k a : Nat) (b c : List Y2_3) (e : Int) : Option Y2_8 := iter c48_L4 (b48_4 k) a ((), b, c, e, ())
theorem L48_4_s (k a b c e) : L48_4 k (a + 1) b c e = l48_4 k (L48_4 k a) b c e := iter_succ _ _ _ _
def S48 (k : Nat) (a b : List Y2_3) : Option Y2_8 :=
 (bif (a.length : Int) != (b.length : Int) then
  some ((false, ()), ())
 else
  L48_4 k k a b 0)
def F48 : Fn := ⟨[u2_2, u2_2], [rB], fun k x => S48 k x.1 x.2.1⟩
theorem ok48 : O 48 F48 := okF Oz [] (fun k => (.loop 4 c48_L4 (b48_4 k) (fun g => .nil) .nil)) Tryz.func48 rfl
def S25 (k : Nat) (a b : Y2_34) : Option Y2_8 :=
 (bif a.1 == b.1 then
  (bif a.2.1 == b.2.1 then
   (bif a.2.2.1 == b.2.2.1 then
    (S48 k a.2.2.2.1 b.2.2.2.1).bind fun q0 =>
    (bif q0.1.1 then
     (S48 k a.2.2.2.2.1 b.2.2.2.2.1).bind fun q1 =>
     (bif q1.1.1 then
      (S48 k a.2.2.2.2.2 b.2.2.2.2.2).bind fun q2 =>
      some ((q2.1.1, ()), ())
     else
      some ((false, ()), ()))
    else
     some ((false, ()), ()))
   else
    some ((false, ()), ()))
  else
   some ((false, ()), ()))
 else
  some ((false, ()), ()))
def F25 : Fn := ⟨[u2_4, u2_4], [rB], fun k x => S25 k x.1 x.2.1⟩
theorem ok25 : O 25 F25 := okF (Om ok48 Oz) [] On Tryz.func25 rfl
abbrev c11_L4 : Cut := ⟨[0, 1, 5], [.cell Y2_44, .cell Y2_44, cI], [], 27, []⟩
def l11_4 (k : Nat) (g4 : (List Y2_0) → (List Y2_0) → Int → Option Y2_8) (a b : List Y2_0) (c : Int) : Option Y2_8 :=
 (bif decide (c < (a.length : Int)) then
  ix a c <|
  ix b c <|
  (S25 k (rd a c (0, 0, 0, [], [], [])) (rd b c (0, 0, 0, [], [], []))).bind fun q0 =>
  (bif !q0.1.1 then
   some ((false, ()), ())
  else
   g4 a b (IntKind.i64.wrap (c + 1)))
 else
  some ((true, ()), ()))
def b11_4 (k : Nat) : Xx (((Unit) × (List Y2_0) × (List Y2_0) × Int × Unit) → Option Y2_8) := iV (iU (iL (iL (iL iE)))) (l11_4 k)
def L11_4 (k a : Nat) (b c : List Y2_0) (e : Int) : Option Y2_8 := iter c11_L4 (b11_4 k) a ((), b, c, e, ())
theorem L11_4_s (k a b c e) : L11_4 k (a + 1) b c e = l11_4 k (L11_4 k a) b c e := iter_succ _ _ _ _
def S11 (k : Nat) (a b : List Y2_0) : Option Y2_8 :=
 (bif (a.length : Int) != (b.length : Int) then
  some ((false, ()), ())
 else
  L11_4 k k a b 0)
def F11 : Fn := ⟨[u2_3, u2_3], [rB], fun k x => S11 k x.1 x.2.1⟩
theorem ok11 : O 11 F11 := okF (Om ok25 Oz) [] (fun k => (.loop 4 c11_L4 (b11_4 k) (fun g => .nil) .nil)) Tryz.func11 rfl
abbrev c3_L28 : Cut := ⟨[1, 5, 7, 8, 11, 13, 17], [.cell (.int .u8), .box 77 [.cell Y2_36, cI], cI, cI, .own 43 (arrT 5 (.int .i64)), .own 30 Y2_1, cI], [], 174, []⟩
def l3_28 (k : Nat) (g9 : Y2_15) (g28 : Int → (List Int) → Int → Int → Int → (List (PN Int 5)) → (List Y2_0) → Int → Option Y2_8) (a : Int) (b : List Int) (c e f : Int) (h : List (PN Int 5)) (i : List Y2_0) (l : Int) : Option Y2_8 :=
 (bif decide (l < (i.length : Int)) then
  (S12 k i l (IntKind.i64.wrap (1 + (IntKind.i64.wrap a)))).bind fun q10 =>
  (bif q10.1.2.2.1 != 0 then
   some ((false, ()), ())
  else
   ix h l <|
   (bif (rd h l (prep (α := Int) 5 0)).2.2.2.1 != q10.1.1 then
    some ((false, ()), ())
   else
    (S10 k i l (IntKind.i64.wrap (1 + (IntKind.i64.wrap a)))).bind fun q11 =>
    (bif q10.1.1 != q11.1.1 then
     some ((false, ()), ())
    else
     ix h l <|
     ix i l <|
     (bif (rd h l (prep (α := Int) 5 0)).2.2.2.2 != (IntKind.i64.wrap ((rd i l (0, 0, 0, [], [], [])).2.2.1 - q10.1.1)) then
      some ((false, ()), ())
     else
      ix h l <|
      (bif decide ((rd h l (prep (α := Int) 5 0)).2.2.2.2 < 0) then
       some ((false, ()), ())
      else
       g28 a b c e f h i (IntKind.i64.wrap (l + 1)))))))
 else
  g9 a b c i e (IntKind.i64.wrap (f - 1)))
def b3_28 (k : Nat) (g9 : Y2_15) : Xx (((Unit) × Int × Y2_23 × Int × Int × (List (PN Int 5)) × (List Y2_0) × Int × Unit) → Option Y2_8) := iV (iU (iL (iN (iL (iL iE)) (iL (iL (iL (iL (iL iE)))))))) (l3_28 k g9)
def L3_28 (k : Nat) (g9 : Y2_15) (a : Nat) (b : Int) (c : List Int) (e f h : Int) (i : List (PN Int 5)) (l : List Y2_0) (m : Int) : Option Y2_8 := iter c3_L28 (b3_28 k g9) a ((), b, (c, e, ()), f, h, i, l, m, ())
theorem L3_28_s (k g9 a b c e f h i l m) : L3_28 k g9 (a + 1) b c e f h i l m = l3_28 k g9 (L3_28 k g9 a) b c e f h i l m := iter_succ _ _ _ _
abbrev c3_J24 : Cut := ⟨[1, 5, 6, 7, 8, 10, 11, 13, 15], [.cell (.int .u8), .box 77 [.cell Y2_36, cI], .cell Y2_44, cI, cI, .own 30 Y2_1, .own 43 (arrT 5 (.int .i64)), .own 30 Y2_1, .cell .bool], [], 174, []⟩
def j3_24 (k : Nat) (g9 : Y2_15) (a : Int) (b : List Int) (c : Int) (e : List Y2_0) (f h : Int) (i : List Y2_0) (l : List (PN Int 5)) (m : List Y2_0) (n : Bool) : Option Y2_8 :=
 (bif !n then
  g9 a b c e f (IntKind.i64.wrap (h - 1))
 else
  (S11 k i m).bind fun q9 =>
  (bif !q9.1.1 then
   some ((false, ()), ())
  else
   (bif (l.length : Int) != (m.length : Int) then
    some ((false, ()), ())
   else
    L3_28 k g9 k a b c f h l m 0)))
abbrev c3_J22 : Cut := ⟨[1, 5, 6, 7, 8, 10, 11, 12, 13, 15], [.cell (.int .u8), .box 77 [.cell Y2_36, cI], .cell Y2_44, cI, cI, .own 30 Y2_1, .own 43 (arrT 5 (.int .i64)), cI, .own 30 Y2_1, .cell .bool], [], 174, []⟩
def j3_22 (k : Nat) (g9 : Y2_15) (a : Int) (b : List Int) (c : Int) (e : List Y2_0) (f h : Int) (i : List Y2_0) (l : List (PN Int 5)) (m : Int) (n : List Y2_0) (o : Bool) : Option Y2_8 :=
 (bif !(o == (m == 0)) then
  some ((false, ()), ())
 else
  (bif !o then
   (bif m != 14 then
    some ((false, ()), ())
   else
    j3_24 k g9 a b c e f h i l n o)
  else
   j3_24 k g9 a b c e f h i l n o))
abbrev c3_L19 : Cut := ⟨[1, 5, 6, 7, 8, 10, 11, 12, 13, 15, 16], [.cell (.int .u8), .box 77 [.cell Y2_36, cI], .cell Y2_44, cI, cI, .own 30 Y2_1, .own 43 (arrT 5 (.int .i64)), cI, .own 30 Y2_1, .cell .bool, cI], [], 174, []⟩
def l3_19 (k : Nat) (g9 : Y2_15) (g19 : Int → (List Int) → Int → (List Y2_0) → Int → Int → (List Y2_0) → (List (PN Int 5)) → Int → (List Y2_0) → Bool → Int → Option Y2_8) (a : Int) (b : List Int) (c : Int) (e : List Y2_0) (f h : Int) (x : List Y2_0) (i : List (PN Int 5)) (l : Int) (m : List Y2_0) (n : Bool) (o : Int) : Option Y2_8 :=
 (bif decide (o < (m.length : Int)) then
  (bif n then
   (S10 k m o (IntKind.i64.wrap (1 + (IntKind.i64.wrap a)))).bind fun q8 =>
   g19 a b c e f h x i l m (decide (q8.1.1 > 0)) (IntKind.i64.wrap (o + 1))
  else
   j3_22 k g9 a b c e f h x i l m n)
 else
  j3_22 k g9 a b c e f h x i l m n)
def b3_19 (k : Nat) (g9 : Y2_15) : Xx (((Unit) × Int × Y2_23 × (List Y2_0) × Int × Int × (List Y2_0) × (List (PN Int 5)) × Int × (List Y2_0) × Bool × Int × Unit) → Option Y2_8) := iV (iU (iL (iN (iL (iL iE)) (iL (iL (iL (iL (iL (iL (iL (iL (iL iE)))))))))))) (l3_19 k g9)
def L3_19 (k : Nat) (g9 : Y2_15) (a : Nat) (b : Int) (c : List Int) (e : Int) (f : List Y2_0) (h i : Int) (x : List Y2_0) (l : List (PN Int 5)) (m : Int) (n : List Y2_0) (o : Bool) (p : Int) : Option Y2_8 := iter c3_L19 (b3_19 k g9) a ((), b, (c, e, ()), f, h, i, x, l, m, n, o, p, ())
theorem L3_19_s (k g9 a b c e f h i x l m n o p) : L3_19 k g9 (a + 1) b c e f h i x l m n o p = l3_19 k g9 (L3_19 k g9 a) b c e f h i x l m n o p := iter_succ _ _ _ _
abbrev c3_L9 : Cut := ⟨[1, 5, 6, 7, 8], [.cell (.int .u8), .box 77 [.cell Y2_36, cI], .cell Y2_44, cI, cI], [], 174, []⟩
def l3_9 (k : Nat) (g9 : Y2_15) (a : Int) (b : List Int) (c : Int) (e : List Y2_0) (f h : Int) : Option Y2_8 :=
 (bif decide (h > 0) then
  (S6 k b c 40).bind fun q4 =>
  (S7 k q4.2.1.1 q4.2.1.2.1 q4.1.1 f).bind fun q5 =>
  (S8 k e q5.1.1 (IntKind.i64.wrap (1 + (IntKind.i64.wrap a)))).bind fun q6 =>
  (S9 k e q5.1.1).bind fun q7 =>
  (bif !q7.1.2.1 then
   (bif q6.1.2.2.1 == 0 then
    some ((false, ()), ())
   else
    (bif decide ((q6.1.1.length : Int) > 0) then
     some ((false, ()), ())
    else
     (bif decide ((q6.1.2.1.length : Int) > 0) then
      some ((false, ()), ())
     else
      g9 a q5.2.1.1 q5.2.1.2.1 e f (IntKind.i64.wrap (h - 1)))))
  else
   L3_19 k g9 k a q5.2.1.1 q5.2.1.2.1 e f h q6.1.1 q6.1.2.1 q6.1.2.2.1 q7.1.1 true 0)
 else
  some ((true, ()), ()))
def b3_9 (k : Nat) : Xx (((Unit) × Int × Y2_23 × (List Y2_0) × Int × Int × Unit) → Option Y2_8) := iV (iU (iL (iN (iL (iL iE)) (iL (iL (iL iE)))))) (l3_9 k)
def L3_9 (k a : Nat) (b : Int) (c : List Int) (e : Int) (f : List Y2_0) (h i : Int) : Option Y2_8 := iter c3_L9 (b3_9 k) a ((), b, (c, e, ()), f, h, i, ())
theorem L3_9_s (k a b c e f h i) : L3_9 k (a + 1) b c e f h i = l3_9 k (L3_9 k a) b c e f h i := iter_succ _ _ _ _
def S3 (k : Nat) (a : List Int) (b : Int) : Option Y2_8 :=
 (S4 k).bind fun q0 =>
 (bif !q0.1.1 then
  some ((false, ()), ())
 else
  (bif decide ((a.length : Int) > 250) then
   some ((true, ()), ())
  else
   (S5 k a).bind fun q1 =>
   (S6 k q1.1.1.1 q1.1.1.2.1 4).bind fun q2 =>
   (S6 k q2.2.1.1 q2.2.1.2.1 6).bind fun q3 =>
   L3_9 k k b q3.2.1.1 q3.2.1.2.1 ([] : List Y2_0) q2.1.1 (IntKind.i64.wrap (q3.1.1 + 1))))
def F3 : Fn := ⟨[.val ⟨false, Y2_36, false⟩, .val ⟨false, (.int .u8), false⟩], [rB], fun k x => S3 k x.1 x.2.1⟩
theorem ok3 : O 3 F3 := okF (Om ok4 <| Om ok5 <| Om ok6 <| Om ok7 <| Om ok8 <| Om ok9 <| Om ok10 <| Om ok11 <| Om ok12 Oz) [(6, 2)] (fun k => (.loop 9 c3_L9 (b3_9 k) (fun g => (fun (g9 : Y2_15) => (.loop 19 c3_L19 (b3_19 k g9) (fun g => .nil) (.loop 28 c3_L28 (b3_28 k g9) (fun g => .nil) (.join 24 c3_J24 (fun (_, a, (b, c, _), e, f, h, i, l, m, n, _) => j3_24 k g9 a b c e f h i l m n) (.join 22 c3_J22 (fun (_, a, (b, c, _), e, f, h, i, l, m, n, o, _) => j3_22 k g9 a b c e f h i l m n o) .nil))))) (fun apart1 p p1 l_ locks i => g ((), apart1, (p, p1, ()), l_, locks, i, ()))) .nil)) Tryz.func3 rfl
end
end Go.Proofs.YteflacbgobpmcaaGreat.Ab
