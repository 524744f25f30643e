import Derived.Test.YtmmagcjlfcicfaaGreatAbV11
/- Contracts, printed by this session's own program gen.py. -/
set_option linter.unusedVariables false
set_option linter.unusedSimpArgs false
set_option maxRecDepth 100000
namespace Go.Proofs.YtmmagcjlfcicfaaGreat.Ab
open Go.RowKit
abbrev Y12_0 : Type := Int → Int → Int → Int → (List (Int × Int × Int × (List (Int × Int × Int × Int)) × (List (Int × Int × Int × Int)) × List (Int × Int × Int × Int))) → (List (PN Int 5)) → Bool → Bool → Bool → (List (Int × Int × Int × Int × (Int × (PN Int 8) × (List (Int × Int × Int)) × Bool) × (Int × (PN Int 8) × (List (Int × Int × Int)) × Bool) × (List Int) × Bool)) → (List Int) → (List Bool) → (List (Int × (Int × Int) × (Int × Int) × ((List Int) × List Int) × (Int × List (Int × Int)) × Int)) → (List Int) → (List Bool) → Int → Option ((Bool × Unit) × Unit)
abbrev Y12_1 : Type := Int × Int × (List (Int × Int × Int × (List (Int × Int × Int × Int)) × (List (Int × Int × Int × Int)) × List (Int × Int × Int × Int))) × (List (PN Int 5)) × Bool × Bool × Bool × (List (Int × Int × Int × Int × (Int × (PN Int 8) × (List (Int × Int × Int)) × Bool) × (Int × (PN Int 8) × (List (Int × Int × Int)) × Bool) × (List Int) × Bool)) × (List Int) × (List Bool) × (List (Int × (Int × Int) × (Int × Int) × ((List Int) × List Int) × (Int × List (Int × Int)) × Int)) × (List Int) × (List Bool) × Unit
abbrev Y12_2 : Type := Int × Int × Int × Int × (Int × (PN Int 8) × (List (Int × Int × Int)) × Bool) × (Int × (PN Int 8) × (List (Int × Int × Int)) × Bool) × (List Int) × Bool
abbrev Y12_3 : Type := Int × Int × Int × (List (Int × Int × Int × Int)) × (List (Int × Int × Int × Int)) × List (Int × Int × Int × Int)
abbrev Y12_4 : Type := Int × (Int × Int) × (Int × Int) × ((List Int) × List Int) × (Int × List (Int × Int)) × Int
abbrev Y12_5 : Ty := .pair (.int .i64) (.pair (.int .i64) (.int .i64))
abbrev Y12_6 : Ty := .pair (.int .i64) (.pair (.int .i64) (.pair (.int .i64) (.pair (.int .i64) (.pair (.pair (.int .i64) (.pair (arrT 8 (.int .i64)) (.pair (.sl 233 Y12_5) .bool))) (.pair (.pair (.int .i64) (.pair (arrT 8 (.int .i64)) (.pair (.sl 233 Y12_5) .bool))) (.pair (.sl 3 (.int .i64)) .bool))))))
abbrev Y12_7 : Type := (Bool × Unit) × Unit
abbrev Y12_8 : Ty := .pair (.int .i64) (.pair (.pair (.int .i64) (.int .i64)) (.pair (.pair (.int .i64) (.int .i64)) (.pair (.pair (.sl 2 (.int .i64)) (.sl 3 (.int .i64))) (.pair (.pair (.int .u32) (.sl 297 (.pair (.int .i64) (.int .u32)))) (.int .u32)))))
abbrev Y12_9 : Ty := .pair (.int .i64) (.pair (.int .i64) (.pair (.int .i64) (.pair (.sl 87 (.pair (.int .i64) Y12_5)) (.pair (.sl 87 (.pair (.int .i64) Y12_5)) (.sl 87 (.pair (.int .i64) Y12_5))))))
abbrev Y12_10 : Type := Int × Int × Int × Int
noncomputable abbrev P6 : List PT := [.val ⟨false, (.int .u8), false⟩, .val ⟨false, (.int .u8), false⟩, .val ⟨false, (.int .u8), false⟩]
noncomputable abbrev R6 : List RT := [.val ⟨false, .bool, true⟩]
noncomputable abbrev c6_L31 : Cut := ⟨[2, 10, 15, 17, 21, 22], [.cell (.int .u8), .cell (.int .i64), .box 37 [.cell (.int .i64), .cell (.int .i64), .own 77 Y12_9, .own 96 (arrT 5 (.int .i64)), .cell .bool, .cell .bool, .cell .bool, .own 94 Y12_6, .own 3 (.int .i64), .own 4 .bool, .own 124 Y12_8, .own 3 (.int .i64), .own 4 .bool], .cell (.int .i64), .cell (.int .i64), .cell (.int .i64)], [], 184, []⟩
noncomputable def l6_31 (k : Nat) (g21 : Y12_0) (g31 : Int → Int → Int → Int → (List Y12_3) → (List (PN Int 5)) → Bool → Bool → Bool → (List Y12_2) → (List Int) → (List Bool) → (List Y12_4) → (List Int) → (List Bool) → Int → Int → Int → Option Y12_7) (goes3 : Int) (e1 : Int) (k_13 : Int) (k_14 : Int) (k_15 : List Y12_3) (k_16 : List (PN Int 5)) (k_17 : Bool) (k_18 : Bool) (k_19 : Bool) (k_20 : List Y12_2) (k_21 : List Int) (k_22 : List Bool) (k_23 : List Y12_4) (k_24 : List Int) (k_25 : List Bool) (g_1 : Int) (at_ : Int) (i1 : Int) : Option Y12_7 :=
 (bif decide (i1 ≤ e1) then
  (S23 k (k_13, k_14, k_15, k_16, k_17, k_18, true, k_20, ((k_21, k_22), k_23), k_24, k_25)).bind fun q5 =>
  (bif q5.1.1.1 != (IntKind.i64.wrap (k_13 + 1)) then
   some ((false, ()), ())
  else
   (bif decide (i1 < e1) then
    (bif (q5.1.2.1.length : Int) != 2 then
     some ((false, ()), ())
    else
     ix q5.1.2.1 0 <|
     (bif (rd q5.1.2.1 0 (prep (α := Int) 6 0)).2.1 != 2 then
      some ((false, ()), ())
     else
      ix q5.1.2.1 1 <|
      (bif (rd q5.1.2.1 1 (prep (α := Int) 6 0)).2.1 != 6 then
       some ((false, ()), ())
      else
       g31 goes3 e1 q5.1.1.1 q5.1.1.2.1 q5.1.1.2.2.1 q5.1.1.2.2.2.1 q5.1.1.2.2.2.2.1 q5.1.1.2.2.2.2.2.1 q5.1.1.2.2.2.2.2.2.1 q5.1.1.2.2.2.2.2.2.2.1 q5.1.1.2.2.2.2.2.2.2.2.1.1.1 q5.1.1.2.2.2.2.2.2.2.2.1.1.2 q5.1.1.2.2.2.2.2.2.2.2.1.2 q5.1.1.2.2.2.2.2.2.2.2.2.1 q5.1.1.2.2.2.2.2.2.2.2.2.2 g_1 at_ (IntKind.i64.wrap (i1 + 1)))))
   else
    (bif (q5.1.2.1.length : Int) != (IntKind.i64.wrap (1 + (IntKind.i64.wrap (2 * g_1)))) then
     some ((false, ()), ())
    else
     ix q5.1.2.1 0 <|
     (bif !(beqD (arrT 6 (.int .i64)) (rd q5.1.2.1 0 (prep (α := Int) 6 0)) (IntKind.i64.wrap (at_ + e1), 5, 0, 0, 0, 0)) then
      some ((false, ()), ())
     else
      (bif g_1 == 1 then
       ix q5.1.2.1 1 <|
       (bif (rd q5.1.2.1 1 (prep (α := Int) 6 0)).2.1 != 9 then
        some ((false, ()), ())
       else
        ix q5.1.2.1 2 <|
        (bif (rd q5.1.2.1 2 (prep (α := Int) 6 0)).2.1 != 10 then
         some ((false, ()), ())
        else
         g31 goes3 e1 q5.1.1.1 q5.1.1.2.1 q5.1.1.2.2.1 q5.1.1.2.2.2.1 q5.1.1.2.2.2.2.1 q5.1.1.2.2.2.2.2.1 q5.1.1.2.2.2.2.2.2.1 q5.1.1.2.2.2.2.2.2.2.1 q5.1.1.2.2.2.2.2.2.2.2.1.1.1 q5.1.1.2.2.2.2.2.2.2.2.1.1.2 q5.1.1.2.2.2.2.2.2.2.2.1.2 q5.1.1.2.2.2.2.2.2.2.2.2.1 q5.1.1.2.2.2.2.2.2.2.2.2.2 g_1 at_ (IntKind.i64.wrap (i1 + 1))))
      else
       g31 goes3 e1 q5.1.1.1 q5.1.1.2.1 q5.1.1.2.2.1 q5.1.1.2.2.2.1 q5.1.1.2.2.2.2.1 q5.1.1.2.2.2.2.2.1 q5.1.1.2.2.2.2.2.2.1 q5.1.1.2.2.2.2.2.2.2.1 q5.1.1.2.2.2.2.2.2.2.2.1.1.1 q5.1.1.2.2.2.2.2.2.2.2.1.1.2 q5.1.1.2.2.2.2.2.2.2.2.1.2 q5.1.1.2.2.2.2.2.2.2.2.2.1 q5.1.1.2.2.2.2.2.2.2.2.2.2 g_1 at_ (IntKind.i64.wrap (i1 + 1)))))))
 else
  g21 goes3 e1 k_13 k_14 k_15 k_16 k_17 k_18 k_19 k_20 k_21 k_22 k_23 k_24 k_25 (IntKind.i64.wrap (g_1 + 1)))
noncomputable def b6_31 (k : Nat) (g21 : Y12_0) (g : ((Unit) × Int × Int × Y12_1 × Int × Int × Int × Unit) → Option Y12_7) (d : (Unit) × Int × Int × Y12_1 × Int × Int × Int × Unit) : Option Y12_7 := l6_31 k g21 (fun goes3 e1 k_13 k_14 k_15 k_16 k_17 k_18 k_19 k_20 k_21 k_22 k_23 k_24 k_25 g_1 at_ i1 => g ((), goes3, e1, (k_13, k_14, k_15, k_16, k_17, k_18, k_19, k_20, k_21, k_22, k_23, k_24, k_25, ()), g_1, at_, i1, ())) d.2.1 d.2.2.1 d.2.2.2.1.1 d.2.2.2.1.2.1 d.2.2.2.1.2.2.1 d.2.2.2.1.2.2.2.1 d.2.2.2.1.2.2.2.2.1 d.2.2.2.1.2.2.2.2.2.1 d.2.2.2.1.2.2.2.2.2.2.1 d.2.2.2.1.2.2.2.2.2.2.2.1 d.2.2.2.1.2.2.2.2.2.2.2.2.1 d.2.2.2.1.2.2.2.2.2.2.2.2.2.1 d.2.2.2.1.2.2.2.2.2.2.2.2.2.2.1 d.2.2.2.1.2.2.2.2.2.2.2.2.2.2.2.1 d.2.2.2.1.2.2.2.2.2.2.2.2.2.2.2.2.1 d.2.2.2.2.1 d.2.2.2.2.2.1 d.2.2.2.2.2.2.1
noncomputable def L6_31 (k : Nat) (g21 : Y12_0) (j : Nat) (goes3 : Int) (e1 : Int) (k_13 : Int) (k_14 : Int) (k_15 : List Y12_3) (k_16 : List (PN Int 5)) (k_17 : Bool) (k_18 : Bool) (k_19 : Bool) (k_20 : List Y12_2) (k_21 : List Int) (k_22 : List Bool) (k_23 : List Y12_4) (k_24 : List Int) (k_25 : List Bool) (g_1 : Int) (at_ : Int) (i1 : Int) : Option Y12_7 := iter (R := (Bool × Unit) × Unit) c6_L31 (b6_31 k g21) j ((), goes3, e1, (k_13, k_14, k_15, k_16, k_17, k_18, k_19, k_20, k_21, k_22, k_23, k_24, k_25, ()), g_1, at_, i1, ())
theorem L6_31_s (k : Nat) (g21 : Y12_0) (j : Nat) (goes3 : Int) (e1 : Int) (k_13 : Int) (k_14 : Int) (k_15 : List Y12_3) (k_16 : List (PN Int 5)) (k_17 : Bool) (k_18 : Bool) (k_19 : Bool) (k_20 : List Y12_2) (k_21 : List Int) (k_22 : List Bool) (k_23 : List Y12_4) (k_24 : List Int) (k_25 : List Bool) (g_1 : Int) (at_ : Int) (i1 : Int) : L6_31 k g21 (j + 1) goes3 e1 k_13 k_14 k_15 k_16 k_17 k_18 k_19 k_20 k_21 k_22 k_23 k_24 k_25 g_1 at_ i1 = l6_31 k g21 (L6_31 k g21 j) goes3 e1 k_13 k_14 k_15 k_16 k_17 k_18 k_19 k_20 k_21 k_22 k_23 k_24 k_25 g_1 at_ i1 := iter_succ _ _ _ _
noncomputable abbrev c6_L21 : Cut := ⟨[2, 10, 15, 17], [.cell (.int .u8), .cell (.int .i64), .box 37 [.cell (.int .i64), .cell (.int .i64), .cell (.sl 77 Y12_9), .cell (.sl 96 (arrT 5 (.int .i64))), .cell .bool, .cell .bool, .cell .bool, .cell (.sl 94 Y12_6), .cell (.sl 3 (.int .i64)), .cell (.sl 4 .bool), .cell (.sl 124 Y12_8), .own 3 (.int .i64), .own 4 .bool], .cell (.int .i64)], [], 184, []⟩
noncomputable def l6_21 (k : Nat) (g21 : Y12_0) (goes2 : Int) (e : Int) (k_ : Int) (k_1 : Int) (k_2 : List Y12_3) (k_3 : List (PN Int 5)) (k_4 : Bool) (k_5 : Bool) (k_6 : Bool) (k_7 : List Y12_2) (k_8 : List Int) (k_9 : List Bool) (k_10 : List Y12_4) (k_11 : List Int) (k_12 : List Bool) (g_ : Int) : Option Y12_7 :=
 (bif decide (g_ < (IntKind.i64.wrap (Int.tmod goes2 5))) then
  (S20 k (k_, k_1, k_2, k_3, k_4, k_5, k_6, k_7, ((k_8, k_9), k_10), k_11, k_12) 0 3).bind fun q4 =>
  (bif decide (g_ ≥ 2) then
   (bif q4.1.2.2.1 == 17 then
    some ((k_5, ()), ())
   else
    some ((false, ()), ()))
  else
   (bif q4.1.2.2.1 != 0 then
    some ((false, ()), ())
   else
    L6_31 k g21 k goes2 e q4.1.1.1 q4.1.1.2.1 q4.1.1.2.2.1 q4.1.1.2.2.2.1 q4.1.1.2.2.2.2.1 q4.1.1.2.2.2.2.2.1 q4.1.1.2.2.2.2.2.2.1 q4.1.1.2.2.2.2.2.2.2.1 q4.1.1.2.2.2.2.2.2.2.2.1.1.1 q4.1.1.2.2.2.2.2.2.2.2.1.1.2 q4.1.1.2.2.2.2.2.2.2.2.1.2 q4.1.1.2.2.2.2.2.2.2.2.2.1 q4.1.1.2.2.2.2.2.2.2.2.2.2 g_ q4.1.1.1 0))
 else
  some ((true, ()), ()))
noncomputable def b6_21 (k : Nat) (g : ((Unit) × Int × Int × Y12_1 × Int × Unit) → Option Y12_7) (d : (Unit) × Int × Int × Y12_1 × Int × Unit) : Option Y12_7 := l6_21 k (fun goes2 e k_ k_1 k_2 k_3 k_4 k_5 k_6 k_7 k_8 k_9 k_10 k_11 k_12 g_ => g ((), goes2, e, (k_, k_1, k_2, k_3, k_4, k_5, k_6, k_7, k_8, k_9, k_10, k_11, k_12, ()), g_, ())) d.2.1 d.2.2.1 d.2.2.2.1.1 d.2.2.2.1.2.1 d.2.2.2.1.2.2.1 d.2.2.2.1.2.2.2.1 d.2.2.2.1.2.2.2.2.1 d.2.2.2.1.2.2.2.2.2.1 d.2.2.2.1.2.2.2.2.2.2.1 d.2.2.2.1.2.2.2.2.2.2.2.1 d.2.2.2.1.2.2.2.2.2.2.2.2.1 d.2.2.2.1.2.2.2.2.2.2.2.2.2.1 d.2.2.2.1.2.2.2.2.2.2.2.2.2.2.1 d.2.2.2.1.2.2.2.2.2.2.2.2.2.2.2.1 d.2.2.2.1.2.2.2.2.2.2.2.2.2.2.2.2.1 d.2.2.2.2.1
noncomputable def L6_21 (k : Nat) (j : Nat) (goes2 : Int) (e : Int) (k_ : Int) (k_1 : Int) (k_2 : List Y12_3) (k_3 : List (PN Int 5)) (k_4 : Bool) (k_5 : Bool) (k_6 : Bool) (k_7 : List Y12_2) (k_8 : List Int) (k_9 : List Bool) (k_10 : List Y12_4) (k_11 : List Int) (k_12 : List Bool) (g_ : Int) : Option Y12_7 := iter (R := (Bool × Unit) × Unit) c6_L21 (b6_21 k) j ((), goes2, e, (k_, k_1, k_2, k_3, k_4, k_5, k_6, k_7, k_8, k_9, k_10, k_11, k_12, ()), g_, ())
theorem L6_21_s (k : Nat) (j : Nat) (goes2 : Int) (e : Int) (k_ : Int) (k_1 : Int) (k_2 : List Y12_3) (k_3 : List (PN Int 5)) (k_4 : Bool) (k_5 : Bool) (k_6 : Bool) (k_7 : List Y12_2) (k_8 : List Int) (k_9 : List Bool) (k_10 : List Y12_4) (k_11 : List Int) (k_12 : List Bool) (g_ : Int) : L6_21 k (j + 1) goes2 e k_ k_1 k_2 k_3 k_4 k_5 k_6 k_7 k_8 k_9 k_10 k_11 k_12 g_ = l6_21 k (L6_21 k j) goes2 e k_ k_1 k_2 k_3 k_4 k_5 k_6 k_7 k_8 k_9 k_10 k_11 k_12 g_ := iter_succ _ _ _ _
noncomputable abbrev c6_L6 : Cut := ⟨[1, 2, 7, 8, 9], [.cell (.int .u8), .cell (.int .u8), .cell (.int .i64), .own 87 (.pair (.int .i64) Y12_5), .cell (.int .i64)], [], 184, []⟩
noncomputable def l6_6 (k : Nat) (g6 : Int → Int → Int → (List Y12_10) → Int → Option Y12_7) (end_1 : Int) (goes1 : Int) (c : Int) (code : List Y12_10) (i : Int) : Option Y12_7 :=
 (bif decide (i < (IntKind.i64.wrap (c - 1))) then
  ix code i <|
  g6 end_1 goes1 c (upd code i (1, (rd code i (0, 0, 0, 0)).2)) (IntKind.i64.wrap (i + 1))
 else
  (S28 k [] (1, IntKind.i64.wrap ((IntKind.i64.wrap (2 * c)) + (IntKind.i64.wrap (Int.tmod end_1 9))), IntKind.i64.wrap ((IntKind.i64.wrap (2 * c)) + (IntKind.i64.wrap (Int.tmod end_1 9))), code, [], []) 10000).bind fun q1 =>
  (S25 k 10000).bind fun q2 =>
  (bif !q2.1.2.1 then
   some ((false, ()), ())
  else
   (bif q1.1.2.2.1 != 0 then
    some ((false, ()), ())
   else
    (S12 k (q2.1.1.1, q2.1.1.2.1, q1.1.1, q1.1.2.1, q2.1.1.2.2.2.2)).bind fun q3 =>
    (bif q3.1.2.1 != 0 then
     some ((false, ()), ())
    else
     mk 1 1 8 <|
     mk 1 1 1 <|
     L6_21 k k goes1 (IntKind.i64.wrap ((IntKind.i64.wrap (2 * c)) + (IntKind.i64.wrap (Int.tmod end_1 9)))) q3.1.1.1 q3.1.1.2.1 q3.1.1.2.2.1 q3.1.1.2.2.2.1 q3.1.1.2.2.2.2.1 q3.1.1.2.2.2.2.2.1 q3.1.1.2.2.2.2.2.2.1 q3.1.1.2.2.2.2.2.2.2.1 q3.1.1.2.2.2.2.2.2.2.2.1.1.1 q3.1.1.2.2.2.2.2.2.2.2.1.1.2 q3.1.1.2.2.2.2.2.2.2.2.1.2 (List.replicate 1 (0 : Int)) (List.replicate 1 (false : Bool)) 0))))
noncomputable def b6_6 (k : Nat) (g : ((Unit) × Int × Int × Int × (List Y12_10) × Int × Unit) → Option Y12_7) (d : (Unit) × Int × Int × Int × (List Y12_10) × Int × Unit) : Option Y12_7 := l6_6 k (fun end_1 goes1 c code i => g ((), end_1, goes1, c, code, i, ())) d.2.1 d.2.2.1 d.2.2.2.1 d.2.2.2.2.1 d.2.2.2.2.2.1
noncomputable def L6_6 (k : Nat) (j : Nat) (end_1 : Int) (goes1 : Int) (c : Int) (code : List Y12_10) (i : Int) : Option Y12_7 := iter (R := (Bool × Unit) × Unit) c6_L6 (b6_6 k) j ((), end_1, goes1, c, code, i, ())
theorem L6_6_s (k : Nat) (j : Nat) (end_1 : Int) (goes1 : Int) (c : Int) (code : List Y12_10) (i : Int) : L6_6 k (j + 1) end_1 goes1 c code i = l6_6 k (L6_6 k j) end_1 goes1 c code i := iter_succ _ _ _ _
noncomputable def S6 (k : Nat) (n : Int) (end_ : Int) (goes : Int) : Option Y12_7 :=
 (S9 k).bind fun q0 =>
 (bif !q0.1.1 then
  some ((false, ()), ())
 else
  mk (IntKind.i64.wrap (2 + (IntKind.i64.wrap (Int.tmod n 5)))) (IntKind.i64.wrap (2 + (IntKind.i64.wrap (Int.tmod n 5)))) 32 <|
  L6_6 k k end_ goes (IntKind.i64.wrap (2 + (IntKind.i64.wrap (Int.tmod n 5)))) (List.replicate (IntKind.i64.wrap (2 + (IntKind.i64.wrap (Int.tmod n 5)))).toNat ((0, 0, 0, 0) : Int × Int × Int × Int)) 0)
noncomputable def E6 : Env := tab.env (lk [(9, F9), (12, F12), (20, F20), (23, F23), (25, F25), (28, F28)]) (hintL [])
theorem E6_ok : EnvOK Tryz.prog E6 := envOK_of tabOK _ _ (allFn_lk (l := [(9, F9), (12, F12), (20, F20), (23, F23), (25, F25), (28, F28)]) ⟨ok9, ok12, ok20, ok23, ok25, ok28, trivial⟩)
noncomputable def B6 (k : Nat) : Tbl (RD R6 × MD P6) := (.loop 21 c6_L21 (b6_21 k) (fun g => (fun (g21 : Y12_0) => (.loop 31 c6_L31 (b6_31 k g21) (fun g => .nil) .nil)) (fun goes2 e k_ k_1 k_2 k_3 k_4 k_5 k_6 k_7 k_8 k_9 k_10 k_11 k_12 g_ => g ((), goes2, e, (k_, k_1, k_2, k_3, k_4, k_5, k_6, k_7, k_8, k_9, k_10, k_11, k_12, ()), g_, ()))) (.loop 6 c6_L6 (b6_6 k) (fun g => .nil) .nil))
noncomputable def F6 : Fn := ⟨P6, R6, fun k x => S6 k x.1 x.2.1 x.2.2.1⟩
theorem ok6 : FnOK Tryz.prog 6 F6 := evalF_ok (E := E6) (T := B6) E6_ok mix Tryz.func6 rfl (by kernel_rfl) (by kernel_rfl) (fun k => by kernel_rfl) (fun k x => by kernel_rfl)
end Go.Proofs.YtmmagcjlfcicfaaGreat.Ab
