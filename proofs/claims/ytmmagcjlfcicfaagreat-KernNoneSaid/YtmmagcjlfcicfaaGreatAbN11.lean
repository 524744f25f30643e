import Derived.Test.YtmmagcjlfcicfaaGreatAbN10
/- Contracts, printed by this session's own program gen.py. -/
set_option linter.unusedVariables false
set_option linter.unusedSimpArgs false
set_option maxRecDepth 100000
namespace Go.Proofs.YtmmagcjlfcicfaaGreat.Ab
open Go.RowKit
abbrev Y11_0 : Type := Int × (Int × Int) × (Int × Int) × ((List Int) × List Int) × (Int × List (Int × Int)) × Int
abbrev Y11_1 : Ty := .pair (.int .i64) (.pair (.pair (.int .i64) (.int .i64)) (.pair (.pair (.int .i64) (.int .i64)) (.pair (.pair (.sl 2 (.int .i64)) (.sl 3 (.int .i64))) (.pair (.pair (.int .u32) (.sl 297 (.pair (.int .i64) (.int .u32)))) (.int .u32)))))
abbrev Y11_2 : Ty := .pair (.int .i64) (.pair (.int .i64) (.pair (.int .i64) (.pair (.int .i64) (.pair (.pair (.int .i64) (.pair (arrT 8 (.int .i64)) (.pair (.sl 233 (.pair (.int .i64) (.pair (.int .i64) (.int .i64)))) .bool))) (.pair (.pair (.int .i64) (.pair (arrT 8 (.int .i64)) (.pair (.sl 233 (.pair (.int .i64) (.pair (.int .i64) (.int .i64)))) .bool))) (.pair (.sl 3 (.int .i64)) .bool))))))
abbrev Y11_3 : Ty := .pair (.int .i64) (.pair (.int .i64) (.pair (.int .i64) (.pair (.sl 87 (.pair (.int .i64) (.pair (.int .i64) (.pair (.int .i64) (.int .i64))))) (.pair (.sl 87 (.pair (.int .i64) (.pair (.int .i64) (.pair (.int .i64) (.int .i64))))) (.sl 87 (.pair (.int .i64) (.pair (.int .i64) (.pair (.int .i64) (.int .i64)))))))))
abbrev Y11_4 : Type := Int × Int × Int × Int × (Int × (PN Int 8) × (List (Int × Int × Int)) × Bool) × (Int × (PN Int 8) × (List (Int × Int × Int)) × Bool) × (List Int) × Bool
abbrev Y11_5 : Type := Int × Int × Int × (List (Int × Int × Int × Int)) × (List (Int × Int × Int × Int)) × List (Int × Int × Int × Int)
abbrev Y11_6 : Ty := .pair (.int .i64) (.pair (.int .i64) (.pair (.sl 77 Y11_3) (.pair (.sl 96 (arrT 5 (.int .i64))) (.pair .bool (.pair .bool (.pair .bool (.pair (.sl 94 Y11_2) (.pair (.pair (.pair (.sl 3 (.int .i64)) (.sl 4 .bool)) (.sl 124 Y11_1)) (.pair (.sl 3 (.int .i64)) (.sl 4 .bool))))))))))
abbrev Y11_7 : Type := (Bool × Unit) × (Int × Int × (List Y11_5) × (List (PN Int 5)) × Bool × Bool × Bool × (List Y11_4) × (List Int) × (List Bool) × (List Y11_0) × (List Int) × (List Bool) × (List (PN Int 6)) × Unit) × (Int × Int × Int × Int × Int × Int × Int × Int × Int × Int × Int × Int × Int × (List (Int × Int × Int)) × Bool × Int × Int × Int × Int × Int × Int × Int × Int × Int × (List (Int × Int × Int)) × Bool × (List Int) × Bool × Unit) × Unit
abbrev Y11_8 : Type := ((List Int) × List Bool) × List Y11_0
abbrev Y11_9 : Ty := .pair (.int .i64) (.pair (.int .i64) (.pair (.sl 77 Y11_3) (.pair (.sl 96 (arrT 5 (.int .i64))) (.pair .bool (.pair .bool (.pair .bool (.pair (.sl 94 Y11_2) (.pair (.pair (.pair (.sl 3 (.int .i64)) (.sl 4 .bool)) (.sl 122 Y11_1)) (.pair (.sl 3 (.int .i64)) (.sl 4 .bool))))))))))
abbrev Y11_10 : Type := Int × Int × (List Y11_5) × (List (PN Int 5)) × Bool × Bool × Bool × (List Y11_4) × Y11_8 × (List Int) × List Bool
abbrev Y11_11 : Ty := .pair (.int .i64) (.pair (.int .i64) (.int .i64))
abbrev Y11_12 : Type := (List Int) × (List Bool) × (List Y11_0) × Unit
abbrev Y11_13 : Type := Int × Int × (List Y11_5) × (List (PN Int 5)) × Bool × Bool × Bool × (List Y11_4) × Y11_8 × (List Int) × List Bool
abbrev Y11_14 : Type := (Y11_8 × Unit) × Unit
abbrev Y11_15 : Ty := .pair (.sl 3 (.int .i64)) (.sl 4 .bool)
noncomputable abbrev P105 : List PT := [.mbox 150 [.cell (.int .i64), .cell (.int .i64), .own 77 Y11_3, .own 96 (arrT 5 (.int .i64)), .cell .bool, .cell .bool, .cell .bool, .own 94 Y11_2, .own 3 (.int .i64), .own 4 .bool, .own 124 Y11_1, .own 3 (.int .i64), .own 4 .bool, .own 82 (arrT 6 (.int .i64))], .mbox 94 [.cell (.int .i64), .cell (.int .i64), .cell (.int .i64), .cell (.int .i64), .cell (.int .i64), .cell (.int .i64), .cell (.int .i64), .cell (.int .i64), .cell (.int .i64), .cell (.int .i64), .cell (.int .i64), .cell (.int .i64), .cell (.int .i64), .cell (.sl 233 Y11_11), .cell .bool, .cell (.int .i64), .cell (.int .i64), .cell (.int .i64), .cell (.int .i64), .cell (.int .i64), .cell (.int .i64), .cell (.int .i64), .cell (.int .i64), .cell (.int .i64), .cell (.sl 233 Y11_11), .cell .bool, .cell (.sl 3 (.int .i64)), .cell .bool]]
noncomputable abbrev R105 : List RT := [.val ⟨false, .bool, true⟩]
noncomputable abbrev c105_J12 : Cut := ⟨[0, 1], [.pin false 0, .pin false 1], [.mbox 150 [.cell (.int .i64), .cell (.int .i64), .own 77 Y11_3, .own 96 (arrT 5 (.int .i64)), .cell .bool, .cell .bool, .cell .bool, .own 94 Y11_2, .own 3 (.int .i64), .own 4 .bool, .own 124 Y11_1, .own 3 (.int .i64), .own 4 .bool, .own 82 (arrT 6 (.int .i64))], .mbox 94 [.cell (.int .i64), .cell (.int .i64), .cell (.int .i64), .cell (.int .i64), .cell (.int .i64), .cell (.int .i64), .cell (.int .i64), .cell (.int .i64), .cell (.int .i64), .cell (.int .i64), .cell (.int .i64), .cell (.int .i64), .cell (.int .i64), .own 233 Y11_11, .cell .bool, .cell (.int .i64), .cell (.int .i64), .cell (.int .i64), .cell (.int .i64), .cell (.int .i64), .cell (.int .i64), .cell (.int .i64), .cell (.int .i64), .cell (.int .i64), .own 233 Y11_11, .cell .bool, .own 3 (.int .i64), .cell .bool]], 92, []⟩
noncomputable def j105_12 (k : Nat) (t14 : Int) (t15 : Int) (t16 : List Y11_5) (t17 : List (PN Int 5)) (t18 : Bool) (t19 : Bool) (t20 : Bool) (t21 : List Y11_4) (t22 : List Int) (t23 : List Bool) (t24 : List Y11_0) (t25 : List Int) (t26 : List Bool) (t27 : List (PN Int 6)) (j_28 : Int) (j_29 : Int) (j_30 : Int) (j_31 : Int) (j_32 : Int) (j_33 : Int) (j_34 : Int) (j_35 : Int) (j_36 : Int) (j_37 : Int) (j_38 : Int) (j_39 : Int) (j_40 : Int) (j_41 : List (Int × Int × Int)) (j_42 : Bool) (j_43 : Int) (j_44 : Int) (j_45 : Int) (j_46 : Int) (j_47 : Int) (j_48 : Int) (j_49 : Int) (j_50 : Int) (j_51 : Int) (j_52 : List (Int × Int × Int)) (j_53 : Bool) (j_54 : List Int) (j_55 : Bool) : Option Y11_7 :=
 (bif j_42 then
  (S164 k t14 t15 t16 t17 t18 t19 t20 t21 t22 t23 t24 t25 t26 t27 j_28 j_29 j_30 j_31 j_32 j_33 j_34 j_35 j_36 j_37 j_38 j_39 j_40 j_41 j_42 j_43 j_44 j_45 j_46 j_47 j_48 j_49 j_50 j_51 j_52 j_53 j_54 j_55).bind fun q7 =>
  some ((q7.1.1, ()), (q7.2.1.1, q7.2.1.2.1, q7.2.1.2.2.1, q7.2.1.2.2.2.1, q7.2.1.2.2.2.2.1, q7.2.1.2.2.2.2.2.1, q7.2.1.2.2.2.2.2.2.1, q7.2.1.2.2.2.2.2.2.2.1, q7.2.1.2.2.2.2.2.2.2.2.1, q7.2.1.2.2.2.2.2.2.2.2.2.1, q7.2.1.2.2.2.2.2.2.2.2.2.2.1, q7.2.1.2.2.2.2.2.2.2.2.2.2.2.1, q7.2.1.2.2.2.2.2.2.2.2.2.2.2.2.1, q7.2.1.2.2.2.2.2.2.2.2.2.2.2.2.2.1, ()), (q7.2.2.1.1, q7.2.2.1.2.1, q7.2.2.1.2.2.1, q7.2.2.1.2.2.2.1, q7.2.2.1.2.2.2.2.1, q7.2.2.1.2.2.2.2.2.1, q7.2.2.1.2.2.2.2.2.2.1, q7.2.2.1.2.2.2.2.2.2.2.1, q7.2.2.1.2.2.2.2.2.2.2.2.1, q7.2.2.1.2.2.2.2.2.2.2.2.2.1, q7.2.2.1.2.2.2.2.2.2.2.2.2.2.1, q7.2.2.1.2.2.2.2.2.2.2.2.2.2.2.1, q7.2.2.1.2.2.2.2.2.2.2.2.2.2.2.2.1, q7.2.2.1.2.2.2.2.2.2.2.2.2.2.2.2.2.1, q7.2.2.1.2.2.2.2.2.2.2.2.2.2.2.2.2.2.1, q7.2.2.1.2.2.2.2.2.2.2.2.2.2.2.2.2.2.2.1, q7.2.2.1.2.2.2.2.2.2.2.2.2.2.2.2.2.2.2.2.1, q7.2.2.1.2.2.2.2.2.2.2.2.2.2.2.2.2.2.2.2.2.1, q7.2.2.1.2.2.2.2.2.2.2.2.2.2.2.2.2.2.2.2.2.2.1, q7.2.2.1.2.2.2.2.2.2.2.2.2.2.2.2.2.2.2.2.2.2.2.1, q7.2.2.1.2.2.2.2.2.2.2.2.2.2.2.2.2.2.2.2.2.2.2.2.1, q7.2.2.1.2.2.2.2.2.2.2.2.2.2.2.2.2.2.2.2.2.2.2.2.2.1, q7.2.2.1.2.2.2.2.2.2.2.2.2.2.2.2.2.2.2.2.2.2.2.2.2.2.1, q7.2.2.1.2.2.2.2.2.2.2.2.2.2.2.2.2.2.2.2.2.2.2.2.2.2.2.1, q7.2.2.1.2.2.2.2.2.2.2.2.2.2.2.2.2.2.2.2.2.2.2.2.2.2.2.2.1, q7.2.2.1.2.2.2.2.2.2.2.2.2.2.2.2.2.2.2.2.2.2.2.2.2.2.2.2.2.1, q7.2.2.1.2.2.2.2.2.2.2.2.2.2.2.2.2.2.2.2.2.2.2.2.2.2.2.2.2.2.1, q7.2.2.1.2.2.2.2.2.2.2.2.2.2.2.2.2.2.2.2.2.2.2.2.2.2.2.2.2.2.2.1, ()), ())
 else
  some ((false, ()), (t14, t15, t16, t17, t18, t19, t20, t21, t22, t23, t24, t25, t26, t27, ()), (j_28, j_29, j_30, j_31, j_32, j_33, j_34, j_35, j_36, j_37, j_38, j_39, j_40, j_41, j_42, j_43, j_44, j_45, j_46, j_47, j_48, j_49, j_50, j_51, j_52, j_53, j_54, j_55, ()), ()))
noncomputable def S105 (k : Nat) (t : Int) (t1 : Int) (t2 : List Y11_5) (t3 : List (PN Int 5)) (t4 : Bool) (t5 : Bool) (t6 : Bool) (t7 : List Y11_4) (t8 : List Int) (t9 : List Bool) (t10 : List Y11_0) (t11 : List Int) (t12 : List Bool) (t13 : List (PN Int 6)) (j_ : Int) (j_1 : Int) (j_2 : Int) (j_3 : Int) (j_4 : Int) (j_5 : Int) (j_6 : Int) (j_7 : Int) (j_8 : Int) (j_9 : Int) (j_10 : Int) (j_11 : Int) (j_12 : Int) (j_13 : List (Int × Int × Int)) (j_14 : Bool) (j_15 : Int) (j_16 : Int) (j_17 : Int) (j_18 : Int) (j_19 : Int) (j_20 : Int) (j_21 : Int) (j_22 : Int) (j_23 : Int) (j_24 : List (Int × Int × Int)) (j_25 : Bool) (j_26 : List Int) (j_27 : Bool) : Option Y11_7 :=
 ix t2 j_ <|
 (S161 k (rd t2 j_ (0, 0, 0, [], [], [])) (j_, j_1, j_2, j_3, (j_4, (j_5, j_6, j_7, j_8, j_9, j_10, j_11, j_12), j_13, j_14), (j_15, (j_16, j_17, j_18, j_19, j_20, j_21, j_22, j_23), j_24, j_25), j_26, j_27)).bind fun q0 =>
 (bif !q0.1.2.2.1 then
  some ((false, ()), (t, t1, t2, t3, t4, t5, t6, t7, t8, t9, t10, t11, t12, t13, ()), (j_, j_1, j_2, j_3, j_4, j_5, j_6, j_7, j_8, j_9, j_10, j_11, j_12, j_13, j_14, j_15, j_16, j_17, j_18, j_19, j_20, j_21, j_22, j_23, j_24, j_25, j_26, j_27, ()), ())
 else
  (bif q0.1.2.1.1 == 9 then
   (S30 k (t, t1, t2, t3, t4, t5, t6, t7, ((t8, t9), t10), t11, t12)).bind fun q1 =>
   (S162 k q1.1.1 q0.1.2.1.2.1 q0.1.1.1).bind fun q2 =>
   (S39b k t t1 t2 t3 t4 t5 t6 t7 t8 t9 t10 t11 t12 t13 q2.1.1).bind fun q3 =>
   j105_12 k q3.2.1.1 q3.2.1.2.1 q3.2.1.2.2.1 q3.2.1.2.2.2.1 q3.2.1.2.2.2.2.1 q3.2.1.2.2.2.2.2.1 q3.2.1.2.2.2.2.2.2.1 q3.2.1.2.2.2.2.2.2.2.1 q3.2.1.2.2.2.2.2.2.2.2.1 q3.2.1.2.2.2.2.2.2.2.2.2.1 q3.2.1.2.2.2.2.2.2.2.2.2.2.1 q3.2.1.2.2.2.2.2.2.2.2.2.2.2.1 q3.2.1.2.2.2.2.2.2.2.2.2.2.2.2.1 q3.2.1.2.2.2.2.2.2.2.2.2.2.2.2.2.1 q0.1.1.1 q0.1.1.2.1 q0.1.1.2.2.1 q0.1.1.2.2.2.1 q0.1.1.2.2.2.2.1.1 q0.1.1.2.2.2.2.1.2.1.1 q0.1.1.2.2.2.2.1.2.1.2.1 q0.1.1.2.2.2.2.1.2.1.2.2.1 q0.1.1.2.2.2.2.1.2.1.2.2.2.1 q0.1.1.2.2.2.2.1.2.1.2.2.2.2.1 q0.1.1.2.2.2.2.1.2.1.2.2.2.2.2.1 q0.1.1.2.2.2.2.1.2.1.2.2.2.2.2.2.1 q0.1.1.2.2.2.2.1.2.1.2.2.2.2.2.2.2 q0.1.1.2.2.2.2.1.2.2.1 q0.1.1.2.2.2.2.1.2.2.2 q0.1.1.2.2.2.2.2.1.1 q0.1.1.2.2.2.2.2.1.2.1.1 q0.1.1.2.2.2.2.2.1.2.1.2.1 q0.1.1.2.2.2.2.2.1.2.1.2.2.1 q0.1.1.2.2.2.2.2.1.2.1.2.2.2.1 q0.1.1.2.2.2.2.2.1.2.1.2.2.2.2.1 q0.1.1.2.2.2.2.2.1.2.1.2.2.2.2.2.1 q0.1.1.2.2.2.2.2.1.2.1.2.2.2.2.2.2.1 q0.1.1.2.2.2.2.2.1.2.1.2.2.2.2.2.2.2 q0.1.1.2.2.2.2.2.1.2.2.1 q0.1.1.2.2.2.2.2.1.2.2.2 q0.1.1.2.2.2.2.2.2.1 q0.1.1.2.2.2.2.2.2.2
  else
   (bif q0.1.2.1.1 == 10 then
    (S30 k (t, t1, t2, t3, t4, t5, t6, t7, ((t8, t9), t10), t11, t12)).bind fun q4 =>
    (S163 k q4.1.1 q0.1.2.1.2.1 q0.1.1.1).bind fun q5 =>
    (S39b k t t1 t2 t3 t4 t5 t6 t7 t8 t9 t10 t11 t12 t13 q5.1.1).bind fun q6 =>
    j105_12 k q6.2.1.1 q6.2.1.2.1 q6.2.1.2.2.1 q6.2.1.2.2.2.1 q6.2.1.2.2.2.2.1 q6.2.1.2.2.2.2.2.1 q6.2.1.2.2.2.2.2.2.1 q6.2.1.2.2.2.2.2.2.2.1 q6.2.1.2.2.2.2.2.2.2.2.1 q6.2.1.2.2.2.2.2.2.2.2.2.1 q6.2.1.2.2.2.2.2.2.2.2.2.2.1 q6.2.1.2.2.2.2.2.2.2.2.2.2.2.1 q6.2.1.2.2.2.2.2.2.2.2.2.2.2.2.1 q6.2.1.2.2.2.2.2.2.2.2.2.2.2.2.2.1 q0.1.1.1 q0.1.1.2.1 q0.1.1.2.2.1 q0.1.1.2.2.2.1 q0.1.1.2.2.2.2.1.1 q0.1.1.2.2.2.2.1.2.1.1 q0.1.1.2.2.2.2.1.2.1.2.1 q0.1.1.2.2.2.2.1.2.1.2.2.1 q0.1.1.2.2.2.2.1.2.1.2.2.2.1 q0.1.1.2.2.2.2.1.2.1.2.2.2.2.1 q0.1.1.2.2.2.2.1.2.1.2.2.2.2.2.1 q0.1.1.2.2.2.2.1.2.1.2.2.2.2.2.2.1 q0.1.1.2.2.2.2.1.2.1.2.2.2.2.2.2.2 q0.1.1.2.2.2.2.1.2.2.1 q0.1.1.2.2.2.2.1.2.2.2 q0.1.1.2.2.2.2.2.1.1 q0.1.1.2.2.2.2.2.1.2.1.1 q0.1.1.2.2.2.2.2.1.2.1.2.1 q0.1.1.2.2.2.2.2.1.2.1.2.2.1 q0.1.1.2.2.2.2.2.1.2.1.2.2.2.1 q0.1.1.2.2.2.2.2.1.2.1.2.2.2.2.1 q0.1.1.2.2.2.2.2.1.2.1.2.2.2.2.2.1 q0.1.1.2.2.2.2.2.1.2.1.2.2.2.2.2.2.1 q0.1.1.2.2.2.2.2.1.2.1.2.2.2.2.2.2.2 q0.1.1.2.2.2.2.2.1.2.2.1 q0.1.1.2.2.2.2.2.1.2.2.2 q0.1.1.2.2.2.2.2.2.1 q0.1.1.2.2.2.2.2.2.2
   else
    j105_12 k t t1 t2 t3 t4 t5 t6 t7 t8 t9 t10 t11 t12 t13 q0.1.1.1 q0.1.1.2.1 q0.1.1.2.2.1 q0.1.1.2.2.2.1 q0.1.1.2.2.2.2.1.1 q0.1.1.2.2.2.2.1.2.1.1 q0.1.1.2.2.2.2.1.2.1.2.1 q0.1.1.2.2.2.2.1.2.1.2.2.1 q0.1.1.2.2.2.2.1.2.1.2.2.2.1 q0.1.1.2.2.2.2.1.2.1.2.2.2.2.1 q0.1.1.2.2.2.2.1.2.1.2.2.2.2.2.1 q0.1.1.2.2.2.2.1.2.1.2.2.2.2.2.2.1 q0.1.1.2.2.2.2.1.2.1.2.2.2.2.2.2.2 q0.1.1.2.2.2.2.1.2.2.1 q0.1.1.2.2.2.2.1.2.2.2 q0.1.1.2.2.2.2.2.1.1 q0.1.1.2.2.2.2.2.1.2.1.1 q0.1.1.2.2.2.2.2.1.2.1.2.1 q0.1.1.2.2.2.2.2.1.2.1.2.2.1 q0.1.1.2.2.2.2.2.1.2.1.2.2.2.1 q0.1.1.2.2.2.2.2.1.2.1.2.2.2.2.1 q0.1.1.2.2.2.2.2.1.2.1.2.2.2.2.2.1 q0.1.1.2.2.2.2.2.1.2.1.2.2.2.2.2.2.1 q0.1.1.2.2.2.2.2.1.2.1.2.2.2.2.2.2.2 q0.1.1.2.2.2.2.2.1.2.2.1 q0.1.1.2.2.2.2.2.1.2.2.2 q0.1.1.2.2.2.2.2.2.1 q0.1.1.2.2.2.2.2.2.2)))
noncomputable def E105 : Env := tab.env (lk [(30, F30), (39, F39b), (161, F161), (162, F162), (163, F163), (164, F164)]) (hintL [])
theorem E105_ok : EnvOK Tryz.prog E105 := envOK_of tabOK _ _ (allFn_lk (l := [(30, F30), (39, F39b), (161, F161), (162, F162), (163, F163), (164, F164)]) ⟨ok30, ok39b, ok161, ok162, ok163, ok164, trivial⟩)
noncomputable def B105 (k : Nat) : Tbl (RD R105 × MD P105) := (.join 12 c105_J12 (fun d => j105_12 k d.1.1.1 d.1.1.2.1 d.1.1.2.2.1 d.1.1.2.2.2.1 d.1.1.2.2.2.2.1 d.1.1.2.2.2.2.2.1 d.1.1.2.2.2.2.2.2.1 d.1.1.2.2.2.2.2.2.2.1 d.1.1.2.2.2.2.2.2.2.2.1 d.1.1.2.2.2.2.2.2.2.2.2.1 d.1.1.2.2.2.2.2.2.2.2.2.2.1 d.1.1.2.2.2.2.2.2.2.2.2.2.2.1 d.1.1.2.2.2.2.2.2.2.2.2.2.2.2.1 d.1.1.2.2.2.2.2.2.2.2.2.2.2.2.2.1 d.1.2.1.1 d.1.2.1.2.1 d.1.2.1.2.2.1 d.1.2.1.2.2.2.1 d.1.2.1.2.2.2.2.1 d.1.2.1.2.2.2.2.2.1 d.1.2.1.2.2.2.2.2.2.1 d.1.2.1.2.2.2.2.2.2.2.1 d.1.2.1.2.2.2.2.2.2.2.2.1 d.1.2.1.2.2.2.2.2.2.2.2.2.1 d.1.2.1.2.2.2.2.2.2.2.2.2.2.1 d.1.2.1.2.2.2.2.2.2.2.2.2.2.2.1 d.1.2.1.2.2.2.2.2.2.2.2.2.2.2.2.1 d.1.2.1.2.2.2.2.2.2.2.2.2.2.2.2.2.1 d.1.2.1.2.2.2.2.2.2.2.2.2.2.2.2.2.2.1 d.1.2.1.2.2.2.2.2.2.2.2.2.2.2.2.2.2.2.1 d.1.2.1.2.2.2.2.2.2.2.2.2.2.2.2.2.2.2.2.1 d.1.2.1.2.2.2.2.2.2.2.2.2.2.2.2.2.2.2.2.2.1 d.1.2.1.2.2.2.2.2.2.2.2.2.2.2.2.2.2.2.2.2.2.1 d.1.2.1.2.2.2.2.2.2.2.2.2.2.2.2.2.2.2.2.2.2.2.1 d.1.2.1.2.2.2.2.2.2.2.2.2.2.2.2.2.2.2.2.2.2.2.2.1 d.1.2.1.2.2.2.2.2.2.2.2.2.2.2.2.2.2.2.2.2.2.2.2.2.1 d.1.2.1.2.2.2.2.2.2.2.2.2.2.2.2.2.2.2.2.2.2.2.2.2.2.1 d.1.2.1.2.2.2.2.2.2.2.2.2.2.2.2.2.2.2.2.2.2.2.2.2.2.2.1 d.1.2.1.2.2.2.2.2.2.2.2.2.2.2.2.2.2.2.2.2.2.2.2.2.2.2.2.1 d.1.2.1.2.2.2.2.2.2.2.2.2.2.2.2.2.2.2.2.2.2.2.2.2.2.2.2.2.1 d.1.2.1.2.2.2.2.2.2.2.2.2.2.2.2.2.2.2.2.2.2.2.2.2.2.2.2.2.2.1 d.1.2.1.2.2.2.2.2.2.2.2.2.2.2.2.2.2.2.2.2.2.2.2.2.2.2.2.2.2.2.1) .nil)
noncomputable def F105 : Fn := ⟨P105, R105, fun k x => S105 k x.1.1 x.1.2.1 x.1.2.2.1 x.1.2.2.2.1 x.1.2.2.2.2.1 x.1.2.2.2.2.2.1 x.1.2.2.2.2.2.2.1 x.1.2.2.2.2.2.2.2.1 x.1.2.2.2.2.2.2.2.2.1 x.1.2.2.2.2.2.2.2.2.2.1 x.1.2.2.2.2.2.2.2.2.2.2.1 x.1.2.2.2.2.2.2.2.2.2.2.2.1 x.1.2.2.2.2.2.2.2.2.2.2.2.2.1 x.1.2.2.2.2.2.2.2.2.2.2.2.2.2.1 x.2.1.1 x.2.1.2.1 x.2.1.2.2.1 x.2.1.2.2.2.1 x.2.1.2.2.2.2.1 x.2.1.2.2.2.2.2.1 x.2.1.2.2.2.2.2.2.1 x.2.1.2.2.2.2.2.2.2.1 x.2.1.2.2.2.2.2.2.2.2.1 x.2.1.2.2.2.2.2.2.2.2.2.1 x.2.1.2.2.2.2.2.2.2.2.2.2.1 x.2.1.2.2.2.2.2.2.2.2.2.2.2.1 x.2.1.2.2.2.2.2.2.2.2.2.2.2.2.1 x.2.1.2.2.2.2.2.2.2.2.2.2.2.2.2.1 x.2.1.2.2.2.2.2.2.2.2.2.2.2.2.2.2.1 x.2.1.2.2.2.2.2.2.2.2.2.2.2.2.2.2.2.1 x.2.1.2.2.2.2.2.2.2.2.2.2.2.2.2.2.2.2.1 x.2.1.2.2.2.2.2.2.2.2.2.2.2.2.2.2.2.2.2.1 x.2.1.2.2.2.2.2.2.2.2.2.2.2.2.2.2.2.2.2.2.1 x.2.1.2.2.2.2.2.2.2.2.2.2.2.2.2.2.2.2.2.2.2.1 x.2.1.2.2.2.2.2.2.2.2.2.2.2.2.2.2.2.2.2.2.2.2.1 x.2.1.2.2.2.2.2.2.2.2.2.2.2.2.2.2.2.2.2.2.2.2.2.1 x.2.1.2.2.2.2.2.2.2.2.2.2.2.2.2.2.2.2.2.2.2.2.2.2.1 x.2.1.2.2.2.2.2.2.2.2.2.2.2.2.2.2.2.2.2.2.2.2.2.2.2.1 x.2.1.2.2.2.2.2.2.2.2.2.2.2.2.2.2.2.2.2.2.2.2.2.2.2.2.1 x.2.1.2.2.2.2.2.2.2.2.2.2.2.2.2.2.2.2.2.2.2.2.2.2.2.2.2.1 x.2.1.2.2.2.2.2.2.2.2.2.2.2.2.2.2.2.2.2.2.2.2.2.2.2.2.2.2.1 x.2.1.2.2.2.2.2.2.2.2.2.2.2.2.2.2.2.2.2.2.2.2.2.2.2.2.2.2.2.1⟩
theorem ok105 : FnOK Tryz.prog 105 F105 := evalF_ok (E := E105) (T := B105) E105_ok mix Tryz.func105 rfl (by kernel_rfl) (by kernel_rfl) (fun k => by kernel_rfl) (fun k x => by kernel_rfl)
noncomputable abbrev P59 : List PT := [.mbox 150 [.cell (.int .i64), .cell (.int .i64), .own 77 Y11_3, .own 96 (arrT 5 (.int .i64)), .cell .bool, .cell .bool, .cell .bool, .own 94 Y11_2, .own 3 (.int .i64), .own 4 .bool, .own 124 Y11_1, .own 3 (.int .i64), .own 4 .bool, .own 82 (arrT 6 (.int .i64))]]
noncomputable abbrev R59 : List RT := []
noncomputable def S59 (k : Nat) (t : Int) (t1 : Int) (t2 : List Y11_5) (t3 : List (PN Int 5)) (t4 : Bool) (t5 : Bool) (t6 : Bool) (t7 : List Y11_4) (t8 : List Int) (t9 : List Bool) (t10 : List Y11_0) (t11 : List Int) (t12 : List Bool) (t13 : List (PN Int 6)) : Option ((Unit) × (Int × Int × (List Y11_5) × (List (PN Int 5)) × Bool × Bool × Bool × (List Y11_4) × (List Int) × (List Bool) × (List Y11_0) × (List Int) × (List Bool) × (List (PN Int 6)) × Unit) × Unit) :=
 (S30 k (t, t1, t2, t3, t4, t5, t6, t7, ((t8, t9), t10), t11, t12)).bind fun q0 =>
 (S104 k t7 (t2.length : Int) q0.1.1).bind fun q1 =>
 (bif t5 then
  some ((), (t, t1, t2, t3, t4, t5, t6, t7, t8, t9, t10, t11, t12, t13, ()), ())
 else
  (bif !q1.1.2.1 then
   some ((), (t, t1, t2, t3, t4, t5, t6, t7, t8, t9, t10, t11, t12, t13, ()), ())
  else
   ix t7 q1.1.1 <|
   (S100a k t t1 t2 t3 t4 t5 t6 t7 t8 t9 t10 t11 t12 t13 (0, 2, (rd t7 q1.1.1 (0, 0, 0, 0, (0, prep (α := Int) 8 0, [], false), (0, prep (α := Int) 8 0, [], false), [], false)).1, 0, 0, 0)).bind fun q2 =>
   (bif q2.2.1.2.2.2.2.2.2.1 then
    (S106 k q2.2.1.1 q2.2.1.2.1 q2.2.1.2.2.1 q2.2.1.2.2.2.1 q2.2.1.2.2.2.2.1 q2.2.1.2.2.2.2.2.1 q2.2.1.2.2.2.2.2.2.1 q2.2.1.2.2.2.2.2.2.2.1 q2.2.1.2.2.2.2.2.2.2.2.1 q2.2.1.2.2.2.2.2.2.2.2.2.1 q2.2.1.2.2.2.2.2.2.2.2.2.2.1 q2.2.1.2.2.2.2.2.2.2.2.2.2.2.1 q2.2.1.2.2.2.2.2.2.2.2.2.2.2.2.1 q2.2.1.2.2.2.2.2.2.2.2.2.2.2.2.2.1 (rd t7 q1.1.1 (0, 0, 0, 0, (0, prep (α := Int) 8 0, [], false), (0, prep (α := Int) 8 0, [], false), [], false)).1 (rd t7 q1.1.1 (0, 0, 0, 0, (0, prep (α := Int) 8 0, [], false), (0, prep (α := Int) 8 0, [], false), [], false)).2.1 (rd t7 q1.1.1 (0, 0, 0, 0, (0, prep (α := Int) 8 0, [], false), (0, prep (α := Int) 8 0, [], false), [], false)).2.2.1 (rd t7 q1.1.1 (0, 0, 0, 0, (0, prep (α := Int) 8 0, [], false), (0, prep (α := Int) 8 0, [], false), [], false)).2.2.2.1 (rd t7 q1.1.1 (0, 0, 0, 0, (0, prep (α := Int) 8 0, [], false), (0, prep (α := Int) 8 0, [], false), [], false)).2.2.2.2.1.1 (rd t7 q1.1.1 (0, 0, 0, 0, (0, prep (α := Int) 8 0, [], false), (0, prep (α := Int) 8 0, [], false), [], false)).2.2.2.2.1.2.1.1 (rd t7 q1.1.1 (0, 0, 0, 0, (0, prep (α := Int) 8 0, [], false), (0, prep (α := Int) 8 0, [], false), [], false)).2.2.2.2.1.2.1.2.1 (rd t7 q1.1.1 (0, 0, 0, 0, (0, prep (α := Int) 8 0, [], false), (0, prep (α := Int) 8 0, [], false), [], false)).2.2.2.2.1.2.1.2.2.1 (rd t7 q1.1.1 (0, 0, 0, 0, (0, prep (α := Int) 8 0, [], false), (0, prep (α := Int) 8 0, [], false), [], false)).2.2.2.2.1.2.1.2.2.2.1 (rd t7 q1.1.1 (0, 0, 0, 0, (0, prep (α := Int) 8 0, [], false), (0, prep (α := Int) 8 0, [], false), [], false)).2.2.2.2.1.2.1.2.2.2.2.1 (rd t7 q1.1.1 (0, 0, 0, 0, (0, prep (α := Int) 8 0, [], false), (0, prep (α := Int) 8 0, [], false), [], false)).2.2.2.2.1.2.1.2.2.2.2.2.1 (rd t7 q1.1.1 (0, 0, 0, 0, (0, prep (α := Int) 8 0, [], false), (0, prep (α := Int) 8 0, [], false), [], false)).2.2.2.2.1.2.1.2.2.2.2.2.2.1 (rd t7 q1.1.1 (0, 0, 0, 0, (0, prep (α := Int) 8 0, [], false), (0, prep (α := Int) 8 0, [], false), [], false)).2.2.2.2.1.2.1.2.2.2.2.2.2.2 (rd t7 q1.1.1 (0, 0, 0, 0, (0, prep (α := Int) 8 0, [], false), (0, prep (α := Int) 8 0, [], false), [], false)).2.2.2.2.1.2.2.1 (rd t7 q1.1.1 (0, 0, 0, 0, (0, prep (α := Int) 8 0, [], false), (0, prep (α := Int) 8 0, [], false), [], false)).2.2.2.2.1.2.2.2 (rd t7 q1.1.1 (0, 0, 0, 0, (0, prep (α := Int) 8 0, [], false), (0, prep (α := Int) 8 0, [], false), [], false)).2.2.2.2.2.1.1 (rd t7 q1.1.1 (0, 0, 0, 0, (0, prep (α := Int) 8 0, [], false), (0, prep (α := Int) 8 0, [], false), [], false)).2.2.2.2.2.1.2.1.1 (rd t7 q1.1.1 (0, 0, 0, 0, (0, prep (α := Int) 8 0, [], false), (0, prep (α := Int) 8 0, [], false), [], false)).2.2.2.2.2.1.2.1.2.1 (rd t7 q1.1.1 (0, 0, 0, 0, (0, prep (α := Int) 8 0, [], false), (0, prep (α := Int) 8 0, [], false), [], false)).2.2.2.2.2.1.2.1.2.2.1 (rd t7 q1.1.1 (0, 0, 0, 0, (0, prep (α := Int) 8 0, [], false), (0, prep (α := Int) 8 0, [], false), [], false)).2.2.2.2.2.1.2.1.2.2.2.1 (rd t7 q1.1.1 (0, 0, 0, 0, (0, prep (α := Int) 8 0, [], false), (0, prep (α := Int) 8 0, [], false), [], false)).2.2.2.2.2.1.2.1.2.2.2.2.1 (rd t7 q1.1.1 (0, 0, 0, 0, (0, prep (α := Int) 8 0, [], false), (0, prep (α := Int) 8 0, [], false), [], false)).2.2.2.2.2.1.2.1.2.2.2.2.2.1 (rd t7 q1.1.1 (0, 0, 0, 0, (0, prep (α := Int) 8 0, [], false), (0, prep (α := Int) 8 0, [], false), [], false)).2.2.2.2.2.1.2.1.2.2.2.2.2.2.1 (rd t7 q1.1.1 (0, 0, 0, 0, (0, prep (α := Int) 8 0, [], false), (0, prep (α := Int) 8 0, [], false), [], false)).2.2.2.2.2.1.2.1.2.2.2.2.2.2.2 (rd t7 q1.1.1 (0, 0, 0, 0, (0, prep (α := Int) 8 0, [], false), (0, prep (α := Int) 8 0, [], false), [], false)).2.2.2.2.2.1.2.2.1 (rd t7 q1.1.1 (0, 0, 0, 0, (0, prep (α := Int) 8 0, [], false), (0, prep (α := Int) 8 0, [], false), [], false)).2.2.2.2.2.1.2.2.2 (rd t7 q1.1.1 (0, 0, 0, 0, (0, prep (α := Int) 8 0, [], false), (0, prep (α := Int) 8 0, [], false), [], false)).2.2.2.2.2.2.1 (rd t7 q1.1.1 (0, 0, 0, 0, (0, prep (α := Int) 8 0, [], false), (0, prep (α := Int) 8 0, [], false), [], false)).2.2.2.2.2.2.2).bind fun q3 =>
    ix q3.2.1.2.2.2.2.2.2.2.1 q1.1.1 <|
    let r4 : List Y11_4 := upd q3.2.1.2.2.2.2.2.2.2.1 q1.1.1 (q3.2.2.1.1, q3.2.2.1.2.1, q3.2.2.1.2.2.1, q3.2.2.1.2.2.2.1, (q3.2.2.1.2.2.2.2.1, (q3.2.2.1.2.2.2.2.2.1, q3.2.2.1.2.2.2.2.2.2.1, q3.2.2.1.2.2.2.2.2.2.2.1, q3.2.2.1.2.2.2.2.2.2.2.2.1, q3.2.2.1.2.2.2.2.2.2.2.2.2.1, q3.2.2.1.2.2.2.2.2.2.2.2.2.2.1, q3.2.2.1.2.2.2.2.2.2.2.2.2.2.2.1, q3.2.2.1.2.2.2.2.2.2.2.2.2.2.2.2.1), q3.2.2.1.2.2.2.2.2.2.2.2.2.2.2.2.2.1, q3.2.2.1.2.2.2.2.2.2.2.2.2.2.2.2.2.2.1), (q3.2.2.1.2.2.2.2.2.2.2.2.2.2.2.2.2.2.2.1, (q3.2.2.1.2.2.2.2.2.2.2.2.2.2.2.2.2.2.2.2.1, q3.2.2.1.2.2.2.2.2.2.2.2.2.2.2.2.2.2.2.2.2.1, q3.2.2.1.2.2.2.2.2.2.2.2.2.2.2.2.2.2.2.2.2.2.1, q3.2.2.1.2.2.2.2.2.2.2.2.2.2.2.2.2.2.2.2.2.2.2.1, q3.2.2.1.2.2.2.2.2.2.2.2.2.2.2.2.2.2.2.2.2.2.2.2.1, q3.2.2.1.2.2.2.2.2.2.2.2.2.2.2.2.2.2.2.2.2.2.2.2.2.1, q3.2.2.1.2.2.2.2.2.2.2.2.2.2.2.2.2.2.2.2.2.2.2.2.2.2.1, q3.2.2.1.2.2.2.2.2.2.2.2.2.2.2.2.2.2.2.2.2.2.2.2.2.2.2.1), q3.2.2.1.2.2.2.2.2.2.2.2.2.2.2.2.2.2.2.2.2.2.2.2.2.2.2.2.1, q3.2.2.1.2.2.2.2.2.2.2.2.2.2.2.2.2.2.2.2.2.2.2.2.2.2.2.2.2.1), q3.2.2.1.2.2.2.2.2.2.2.2.2.2.2.2.2.2.2.2.2.2.2.2.2.2.2.2.2.2.1, q3.2.2.1.2.2.2.2.2.2.2.2.2.2.2.2.2.2.2.2.2.2.2.2.2.2.2.2.2.2.2.1)
    (bif q3.1.1 then
     (S50 k r4 q1.1.1 (IntKind.i64.wrap (q1.1.1 + 1))).bind fun q5 =>
     some ((), (q3.2.1.1, q3.2.1.2.1, q3.2.1.2.2.1, q3.2.1.2.2.2.1, q3.2.1.2.2.2.2.1, q3.2.1.2.2.2.2.2.1, q3.2.1.2.2.2.2.2.2.1, q5.1.1, q3.2.1.2.2.2.2.2.2.2.2.1, q3.2.1.2.2.2.2.2.2.2.2.2.1, q3.2.1.2.2.2.2.2.2.2.2.2.2.1, q3.2.1.2.2.2.2.2.2.2.2.2.2.2.1, q3.2.1.2.2.2.2.2.2.2.2.2.2.2.2.1, q3.2.1.2.2.2.2.2.2.2.2.2.2.2.2.2.1, ()), ())
    else
     some ((), (q3.2.1.1, q3.2.1.2.1, q3.2.1.2.2.1, q3.2.1.2.2.2.1, q3.2.1.2.2.2.2.1, q3.2.1.2.2.2.2.2.1, q3.2.1.2.2.2.2.2.2.1, r4, q3.2.1.2.2.2.2.2.2.2.2.1, q3.2.1.2.2.2.2.2.2.2.2.2.1, q3.2.1.2.2.2.2.2.2.2.2.2.2.1, q3.2.1.2.2.2.2.2.2.2.2.2.2.2.1, q3.2.1.2.2.2.2.2.2.2.2.2.2.2.2.1, q3.2.1.2.2.2.2.2.2.2.2.2.2.2.2.2.1, ()), ()))
   else
    (S105 k q2.2.1.1 q2.2.1.2.1 q2.2.1.2.2.1 q2.2.1.2.2.2.1 q2.2.1.2.2.2.2.1 q2.2.1.2.2.2.2.2.1 q2.2.1.2.2.2.2.2.2.1 q2.2.1.2.2.2.2.2.2.2.1 q2.2.1.2.2.2.2.2.2.2.2.1 q2.2.1.2.2.2.2.2.2.2.2.2.1 q2.2.1.2.2.2.2.2.2.2.2.2.2.1 q2.2.1.2.2.2.2.2.2.2.2.2.2.2.1 q2.2.1.2.2.2.2.2.2.2.2.2.2.2.2.1 q2.2.1.2.2.2.2.2.2.2.2.2.2.2.2.2.1 (rd t7 q1.1.1 (0, 0, 0, 0, (0, prep (α := Int) 8 0, [], false), (0, prep (α := Int) 8 0, [], false), [], false)).1 (rd t7 q1.1.1 (0, 0, 0, 0, (0, prep (α := Int) 8 0, [], false), (0, prep (α := Int) 8 0, [], false), [], false)).2.1 (rd t7 q1.1.1 (0, 0, 0, 0, (0, prep (α := Int) 8 0, [], false), (0, prep (α := Int) 8 0, [], false), [], false)).2.2.1 (rd t7 q1.1.1 (0, 0, 0, 0, (0, prep (α := Int) 8 0, [], false), (0, prep (α := Int) 8 0, [], false), [], false)).2.2.2.1 (rd t7 q1.1.1 (0, 0, 0, 0, (0, prep (α := Int) 8 0, [], false), (0, prep (α := Int) 8 0, [], false), [], false)).2.2.2.2.1.1 (rd t7 q1.1.1 (0, 0, 0, 0, (0, prep (α := Int) 8 0, [], false), (0, prep (α := Int) 8 0, [], false), [], false)).2.2.2.2.1.2.1.1 (rd t7 q1.1.1 (0, 0, 0, 0, (0, prep (α := Int) 8 0, [], false), (0, prep (α := Int) 8 0, [], false), [], false)).2.2.2.2.1.2.1.2.1 (rd t7 q1.1.1 (0, 0, 0, 0, (0, prep (α := Int) 8 0, [], false), (0, prep (α := Int) 8 0, [], false), [], false)).2.2.2.2.1.2.1.2.2.1 (rd t7 q1.1.1 (0, 0, 0, 0, (0, prep (α := Int) 8 0, [], false), (0, prep (α := Int) 8 0, [], false), [], false)).2.2.2.2.1.2.1.2.2.2.1 (rd t7 q1.1.1 (0, 0, 0, 0, (0, prep (α := Int) 8 0, [], false), (0, prep (α := Int) 8 0, [], false), [], false)).2.2.2.2.1.2.1.2.2.2.2.1 (rd t7 q1.1.1 (0, 0, 0, 0, (0, prep (α := Int) 8 0, [], false), (0, prep (α := Int) 8 0, [], false), [], false)).2.2.2.2.1.2.1.2.2.2.2.2.1 (rd t7 q1.1.1 (0, 0, 0, 0, (0, prep (α := Int) 8 0, [], false), (0, prep (α := Int) 8 0, [], false), [], false)).2.2.2.2.1.2.1.2.2.2.2.2.2.1 (rd t7 q1.1.1 (0, 0, 0, 0, (0, prep (α := Int) 8 0, [], false), (0, prep (α := Int) 8 0, [], false), [], false)).2.2.2.2.1.2.1.2.2.2.2.2.2.2 (rd t7 q1.1.1 (0, 0, 0, 0, (0, prep (α := Int) 8 0, [], false), (0, prep (α := Int) 8 0, [], false), [], false)).2.2.2.2.1.2.2.1 (rd t7 q1.1.1 (0, 0, 0, 0, (0, prep (α := Int) 8 0, [], false), (0, prep (α := Int) 8 0, [], false), [], false)).2.2.2.2.1.2.2.2 (rd t7 q1.1.1 (0, 0, 0, 0, (0, prep (α := Int) 8 0, [], false), (0, prep (α := Int) 8 0, [], false), [], false)).2.2.2.2.2.1.1 (rd t7 q1.1.1 (0, 0, 0, 0, (0, prep (α := Int) 8 0, [], false), (0, prep (α := Int) 8 0, [], false), [], false)).2.2.2.2.2.1.2.1.1 (rd t7 q1.1.1 (0, 0, 0, 0, (0, prep (α := Int) 8 0, [], false), (0, prep (α := Int) 8 0, [], false), [], false)).2.2.2.2.2.1.2.1.2.1 (rd t7 q1.1.1 (0, 0, 0, 0, (0, prep (α := Int) 8 0, [], false), (0, prep (α := Int) 8 0, [], false), [], false)).2.2.2.2.2.1.2.1.2.2.1 (rd t7 q1.1.1 (0, 0, 0, 0, (0, prep (α := Int) 8 0, [], false), (0, prep (α := Int) 8 0, [], false), [], false)).2.2.2.2.2.1.2.1.2.2.2.1 (rd t7 q1.1.1 (0, 0, 0, 0, (0, prep (α := Int) 8 0, [], false), (0, prep (α := Int) 8 0, [], false), [], false)).2.2.2.2.2.1.2.1.2.2.2.2.1 (rd t7 q1.1.1 (0, 0, 0, 0, (0, prep (α := Int) 8 0, [], false), (0, prep (α := Int) 8 0, [], false), [], false)).2.2.2.2.2.1.2.1.2.2.2.2.2.1 (rd t7 q1.1.1 (0, 0, 0, 0, (0, prep (α := Int) 8 0, [], false), (0, prep (α := Int) 8 0, [], false), [], false)).2.2.2.2.2.1.2.1.2.2.2.2.2.2.1 (rd t7 q1.1.1 (0, 0, 0, 0, (0, prep (α := Int) 8 0, [], false), (0, prep (α := Int) 8 0, [], false), [], false)).2.2.2.2.2.1.2.1.2.2.2.2.2.2.2 (rd t7 q1.1.1 (0, 0, 0, 0, (0, prep (α := Int) 8 0, [], false), (0, prep (α := Int) 8 0, [], false), [], false)).2.2.2.2.2.1.2.2.1 (rd t7 q1.1.1 (0, 0, 0, 0, (0, prep (α := Int) 8 0, [], false), (0, prep (α := Int) 8 0, [], false), [], false)).2.2.2.2.2.1.2.2.2 (rd t7 q1.1.1 (0, 0, 0, 0, (0, prep (α := Int) 8 0, [], false), (0, prep (α := Int) 8 0, [], false), [], false)).2.2.2.2.2.2.1 (rd t7 q1.1.1 (0, 0, 0, 0, (0, prep (α := Int) 8 0, [], false), (0, prep (α := Int) 8 0, [], false), [], false)).2.2.2.2.2.2.2).bind fun q6 =>
    ix q6.2.1.2.2.2.2.2.2.2.1 q1.1.1 <|
    let r7 : List Y11_4 := upd q6.2.1.2.2.2.2.2.2.2.1 q1.1.1 (q6.2.2.1.1, q6.2.2.1.2.1, q6.2.2.1.2.2.1, q6.2.2.1.2.2.2.1, (q6.2.2.1.2.2.2.2.1, (q6.2.2.1.2.2.2.2.2.1, q6.2.2.1.2.2.2.2.2.2.1, q6.2.2.1.2.2.2.2.2.2.2.1, q6.2.2.1.2.2.2.2.2.2.2.2.1, q6.2.2.1.2.2.2.2.2.2.2.2.2.1, q6.2.2.1.2.2.2.2.2.2.2.2.2.2.1, q6.2.2.1.2.2.2.2.2.2.2.2.2.2.2.1, q6.2.2.1.2.2.2.2.2.2.2.2.2.2.2.2.1), q6.2.2.1.2.2.2.2.2.2.2.2.2.2.2.2.2.1, q6.2.2.1.2.2.2.2.2.2.2.2.2.2.2.2.2.2.1), (q6.2.2.1.2.2.2.2.2.2.2.2.2.2.2.2.2.2.2.1, (q6.2.2.1.2.2.2.2.2.2.2.2.2.2.2.2.2.2.2.2.1, q6.2.2.1.2.2.2.2.2.2.2.2.2.2.2.2.2.2.2.2.2.1, q6.2.2.1.2.2.2.2.2.2.2.2.2.2.2.2.2.2.2.2.2.2.1, q6.2.2.1.2.2.2.2.2.2.2.2.2.2.2.2.2.2.2.2.2.2.2.1, q6.2.2.1.2.2.2.2.2.2.2.2.2.2.2.2.2.2.2.2.2.2.2.2.1, q6.2.2.1.2.2.2.2.2.2.2.2.2.2.2.2.2.2.2.2.2.2.2.2.2.1, q6.2.2.1.2.2.2.2.2.2.2.2.2.2.2.2.2.2.2.2.2.2.2.2.2.2.1, q6.2.2.1.2.2.2.2.2.2.2.2.2.2.2.2.2.2.2.2.2.2.2.2.2.2.2.1), q6.2.2.1.2.2.2.2.2.2.2.2.2.2.2.2.2.2.2.2.2.2.2.2.2.2.2.2.1, q6.2.2.1.2.2.2.2.2.2.2.2.2.2.2.2.2.2.2.2.2.2.2.2.2.2.2.2.2.1), q6.2.2.1.2.2.2.2.2.2.2.2.2.2.2.2.2.2.2.2.2.2.2.2.2.2.2.2.2.2.1, q6.2.2.1.2.2.2.2.2.2.2.2.2.2.2.2.2.2.2.2.2.2.2.2.2.2.2.2.2.2.2.1)
    (bif q6.1.1 then
     (S50 k r7 q1.1.1 (IntKind.i64.wrap (q1.1.1 + 1))).bind fun q8 =>
     some ((), (q6.2.1.1, q6.2.1.2.1, q6.2.1.2.2.1, q6.2.1.2.2.2.1, q6.2.1.2.2.2.2.1, q6.2.1.2.2.2.2.2.1, q6.2.1.2.2.2.2.2.2.1, q8.1.1, q6.2.1.2.2.2.2.2.2.2.2.1, q6.2.1.2.2.2.2.2.2.2.2.2.1, q6.2.1.2.2.2.2.2.2.2.2.2.2.1, q6.2.1.2.2.2.2.2.2.2.2.2.2.2.1, q6.2.1.2.2.2.2.2.2.2.2.2.2.2.2.1, q6.2.1.2.2.2.2.2.2.2.2.2.2.2.2.2.1, ()), ())
    else
     some ((), (q6.2.1.1, q6.2.1.2.1, q6.2.1.2.2.1, q6.2.1.2.2.2.1, q6.2.1.2.2.2.2.1, q6.2.1.2.2.2.2.2.1, q6.2.1.2.2.2.2.2.2.1, r7, q6.2.1.2.2.2.2.2.2.2.2.1, q6.2.1.2.2.2.2.2.2.2.2.2.1, q6.2.1.2.2.2.2.2.2.2.2.2.2.1, q6.2.1.2.2.2.2.2.2.2.2.2.2.2.1, q6.2.1.2.2.2.2.2.2.2.2.2.2.2.2.1, q6.2.1.2.2.2.2.2.2.2.2.2.2.2.2.2.1, ()), ())))))
noncomputable def E59 : Env := tab.env (lk [(30, F30), (50, F50), (100, F100a), (104, F104), (105, F105), (106, F106)]) (hintL [])
theorem E59_ok : EnvOK Tryz.prog E59 := envOK_of tabOK _ _ (allFn_lk (l := [(30, F30), (50, F50), (100, F100a), (104, F104), (105, F105), (106, F106)]) ⟨ok30, ok50, ok100a, ok104, ok105, ok106, trivial⟩)
noncomputable def B59 (k : Nat) : Tbl (RD R59 × MD P59) := .nil
noncomputable def F59 : Fn := ⟨P59, R59, fun k x => S59 k x.1.1 x.1.2.1 x.1.2.2.1 x.1.2.2.2.1 x.1.2.2.2.2.1 x.1.2.2.2.2.2.1 x.1.2.2.2.2.2.2.1 x.1.2.2.2.2.2.2.2.1 x.1.2.2.2.2.2.2.2.2.1 x.1.2.2.2.2.2.2.2.2.2.1 x.1.2.2.2.2.2.2.2.2.2.2.1 x.1.2.2.2.2.2.2.2.2.2.2.2.1 x.1.2.2.2.2.2.2.2.2.2.2.2.2.1 x.1.2.2.2.2.2.2.2.2.2.2.2.2.2.1⟩
theorem ok59 : FnOK Tryz.prog 59 F59 := evalF_ok (E := E59) (T := B59) E59_ok mix Tryz.func59 rfl (by kernel_rfl) (by kernel_rfl) (fun k => by kernel_rfl) (fun k x => by kernel_rfl)
noncomputable abbrev P23 : List PT := [.val ⟨true, Y11_6, false⟩]
noncomputable abbrev R23 : List RT := [.val ⟨true, Y11_6, true⟩, .val ⟨false, (.sl 82 (arrT 6 (.int .i64))), true⟩]
noncomputable def S23 (k : Nat) (k_ : Y11_13) : Option ((Y11_10 × (List (PN Int 6)) × Unit) × Unit) :=
 (S34 k k_).bind fun q0 =>
 (bif q0.1.1.2.2.2.2.1 then
  (bif !q0.1.1.2.2.2.2.2.1 then
   (S56 k q0.1.1.1 q0.1.1.2.1 q0.1.1.2.2.1 q0.1.1.2.2.2.1 q0.1.1.2.2.2.2.1 q0.1.1.2.2.2.2.2.1 q0.1.1.2.2.2.2.2.2.1 q0.1.1.2.2.2.2.2.2.2.1 q0.1.1.2.2.2.2.2.2.2.2.1.1.1 q0.1.1.2.2.2.2.2.2.2.2.1.1.2 q0.1.1.2.2.2.2.2.2.2.2.1.2 q0.1.1.2.2.2.2.2.2.2.2.2.1 q0.1.1.2.2.2.2.2.2.2.2.2.2 ([] : List (PN Int 6))).bind fun q1 =>
   (S57 k q1.2.1.1 q1.2.1.2.1 q1.2.1.2.2.1 q1.2.1.2.2.2.1 q1.2.1.2.2.2.2.1 q1.2.1.2.2.2.2.2.1 q1.2.1.2.2.2.2.2.2.1 q1.2.1.2.2.2.2.2.2.2.1 q1.2.1.2.2.2.2.2.2.2.2.1 q1.2.1.2.2.2.2.2.2.2.2.2.1 q1.2.1.2.2.2.2.2.2.2.2.2.2.1 q1.2.1.2.2.2.2.2.2.2.2.2.2.2.1 q1.2.1.2.2.2.2.2.2.2.2.2.2.2.2.1 q1.2.1.2.2.2.2.2.2.2.2.2.2.2.2.2.1).bind fun q2 =>
   (S58 k q2.2.1.1 q2.2.1.2.1 q2.2.1.2.2.1 q2.2.1.2.2.2.1 q2.2.1.2.2.2.2.1 q2.2.1.2.2.2.2.2.1 q2.2.1.2.2.2.2.2.2.1 q2.2.1.2.2.2.2.2.2.2.1 q2.2.1.2.2.2.2.2.2.2.2.1 q2.2.1.2.2.2.2.2.2.2.2.2.1 q2.2.1.2.2.2.2.2.2.2.2.2.2.1 q2.2.1.2.2.2.2.2.2.2.2.2.2.2.1 q2.2.1.2.2.2.2.2.2.2.2.2.2.2.2.1 q2.2.1.2.2.2.2.2.2.2.2.2.2.2.2.2.1).bind fun q3 =>
   (S59 k q3.2.1.1 q3.2.1.2.1 q3.2.1.2.2.1 q3.2.1.2.2.2.1 q3.2.1.2.2.2.2.1 q3.2.1.2.2.2.2.2.1 q3.2.1.2.2.2.2.2.2.1 q3.2.1.2.2.2.2.2.2.2.1 q3.2.1.2.2.2.2.2.2.2.2.1 q3.2.1.2.2.2.2.2.2.2.2.2.1 q3.2.1.2.2.2.2.2.2.2.2.2.2.1 q3.2.1.2.2.2.2.2.2.2.2.2.2.2.1 q3.2.1.2.2.2.2.2.2.2.2.2.2.2.2.1 q3.2.1.2.2.2.2.2.2.2.2.2.2.2.2.2.1).bind fun q4 =>
   some (((IntKind.i64.wrap (q4.2.1.1 + 1), q4.2.1.2.1, q4.2.1.2.2.1, q4.2.1.2.2.2.1, q4.2.1.2.2.2.2.1, q4.2.1.2.2.2.2.2.1, false, q4.2.1.2.2.2.2.2.2.2.1, ((q4.2.1.2.2.2.2.2.2.2.2.1, q4.2.1.2.2.2.2.2.2.2.2.2.1), q4.2.1.2.2.2.2.2.2.2.2.2.2.1), q4.2.1.2.2.2.2.2.2.2.2.2.2.2.1, q4.2.1.2.2.2.2.2.2.2.2.2.2.2.2.1), q4.2.1.2.2.2.2.2.2.2.2.2.2.2.2.2.1, ()), ())
  else
   some (((IntKind.i64.wrap (q0.1.1.1 + 1), q0.1.1.2.1, q0.1.1.2.2.1, q0.1.1.2.2.2.1, q0.1.1.2.2.2.2.1, q0.1.1.2.2.2.2.2.1, false, q0.1.1.2.2.2.2.2.2.2), ([] : List (PN Int 6)), ()), ()))
 else
  some (((IntKind.i64.wrap (q0.1.1.1 + 1), q0.1.1.2.1, q0.1.1.2.2.1, q0.1.1.2.2.2.1, q0.1.1.2.2.2.2.1, q0.1.1.2.2.2.2.2.1, false, q0.1.1.2.2.2.2.2.2.2), ([] : List (PN Int 6)), ()), ()))
noncomputable def E23 : Env := tab.env (lk [(34, F34), (56, F56), (57, F57), (58, F58), (59, F59)]) (hintL [(8, 2)])
theorem E23_ok : EnvOK Tryz.prog E23 := envOK_of tabOK _ _ (allFn_lk (l := [(34, F34), (56, F56), (57, F57), (58, F58), (59, F59)]) ⟨ok34, ok56, ok57, ok58, ok59, trivial⟩)
noncomputable def B23 (k : Nat) : Tbl (RD R23 × MD P23) := .nil
noncomputable def F23 : Fn := ⟨P23, R23, fun k x => S23 k x.1⟩
theorem ok23 : FnOK Tryz.prog 23 F23 := evalF_ok (E := E23) (T := B23) E23_ok mix Tryz.func23 rfl (by kernel_rfl) (by kernel_rfl) (fun k => by kernel_rfl) (fun k x => by kernel_rfl)
noncomputable abbrev P9 : List PT := []
noncomputable abbrev R9 : List RT := [.val ⟨false, .bool, true⟩]
noncomputable def S9 (k : Nat) : Option ((Bool × Unit) × Unit) :=
 (S25 k 50).bind fun q0 =>
 (S28 k [] (1, 20, 20, ([(0, 0, 0, 0)] : List (Int × Int × Int × Int)), [], []) 50).bind fun q1 =>
 (S12 k (q0.1.1.1, q0.1.1.2.1, q1.1.1, q1.1.2.1, q0.1.1.2.2.2.2)).bind fun q2 =>
 mk 1 1 8 <|
 mk 1 1 1 <|
 (S20 k (q2.1.1.1, q2.1.1.2.1, q2.1.1.2.2.1, q2.1.1.2.2.2.1, q2.1.1.2.2.2.2.1, q2.1.1.2.2.2.2.2.1, q2.1.1.2.2.2.2.2.2.1, q2.1.1.2.2.2.2.2.2.2.1, q2.1.1.2.2.2.2.2.2.2.2.1, List.replicate 1 (0 : Int), List.replicate 1 (false : Bool)) 0 7).bind fun q3 =>
 (S23 k q3.1.1).bind fun q4 =>
 (S25 k 0).bind fun q5 =>
 (bif q0.1.2.1 then
  (bif q1.1.2.2.1 == 0 then
   (bif q2.1.2.1 == 0 then
    (bif q3.1.2.2.1 == 0 then
     (bif (q3.1.2.1.length : Int) == 1 then
      (bif (q3.1.1.2.2.2.2.2.2.2.1.length : Int) == 1 then
       (bif q4.1.1.1 == 1 then
        (bif (q4.1.1.2.2.2.2.2.2.2.1.length : Int) == 0 then
         (bif (q4.1.2.1.length : Int) == 2 then
          ix q4.1.2.1 1 <|
          (bif beqD (arrT 6 (.int .i64)) (rd q4.1.2.1 1 (prep (α := Int) 6 0)) (0, 3, 0, 0, 7, 0) then
           (bif !q5.1.2.1 then
            (S30 k q4.1.1).bind fun q6 =>
            some (((q6.1.1.length : Int) == 0, ()), ())
           else
            some ((false, ()), ()))
          else
           some ((false, ()), ()))
         else
          some ((false, ()), ()))
        else
         some ((false, ()), ()))
       else
        some ((false, ()), ()))
      else
       some ((false, ()), ()))
     else
      some ((false, ()), ()))
    else
     some ((false, ()), ()))
   else
    some ((false, ()), ()))
  else
   some ((false, ()), ()))
 else
  some ((false, ()), ()))
noncomputable def E9 : Env := tab.env (lk [(12, F12), (20, F20), (23, F23), (25, F25), (28, F28), (30, F30)]) (hintL [])
theorem E9_ok : EnvOK Tryz.prog E9 := envOK_of tabOK _ _ (allFn_lk (l := [(12, F12), (20, F20), (23, F23), (25, F25), (28, F28), (30, F30)]) ⟨ok12, ok20, ok23, ok25, ok28, ok30, trivial⟩)
noncomputable def B9 (k : Nat) : Tbl (RD R9 × MD P9) := .nil
noncomputable def F9 : Fn := ⟨P9, R9, fun k x => S9 k ⟩
theorem ok9 : FnOK Tryz.prog 9 F9 := evalF_ok (E := E9) (T := B9) E9_ok mix Tryz.func9 rfl (by kernel_rfl) (by kernel_rfl) (fun k => by kernel_rfl) (fun k x => by kernel_rfl)
noncomputable abbrev P119 : List PT := [.val ⟨false, (.int .i64), false⟩]
noncomputable abbrev R119 : List RT := [.val ⟨true, Y11_15, true⟩]
noncomputable def S119 (k : Nat) (n : Int) : Option ((((List Int) × List Bool) × Unit) × Unit) :=
 mk (mn (mx n 0) 64) (mn (mx n 0) 64) 8 <|
 mk (mn (mx n 0) 64) (mn (mx n 0) 64) 1 <|
 some (((List.replicate (mn (mx n 0) 64).toNat (0 : Int), List.replicate (mn (mx n 0) 64).toNat (false : Bool)), ()), ())
noncomputable def E119 : Env := tab.env (lk []) (hintL [])
theorem E119_ok : EnvOK Tryz.prog E119 := envOK_of tabOK _ _ (fun f F h => by cases h)
noncomputable def B119 (k : Nat) : Tbl (RD R119 × MD P119) := .nil
noncomputable def F119 : Fn := ⟨P119, R119, fun k x => S119 k x.1⟩
theorem ok119 : FnOK Tryz.prog 119 F119 := evalF_ok (E := E119) (T := B119) E119_ok mix Tryz.func119 rfl (by kernel_rfl) (by kernel_rfl) (fun k => by kernel_rfl) (fun k x => by kernel_rfl)
noncomputable abbrev P66 : List PT := []
noncomputable abbrev R66 : List RT := [.val ⟨true, (.pair Y11_15 (.sl 122 Y11_1)), true⟩]
noncomputable def S66 (k : Nat) : Option Y11_14 :=
 (S119 k 12).bind fun q0 =>
 mk 12 12 128 <|
 some (((q0.1.1, List.replicate 12 ((0, (0, 0), (0, 0), ([], []), (0, []), 0) : Int × (Int × Int) × (Int × Int) × ((List Int) × List Int) × (Int × List (Int × Int)) × Int)), ()), ())
noncomputable def E66 : Env := tab.env (lk [(119, F119)]) (hintL [])
theorem E66_ok : EnvOK Tryz.prog E66 := envOK_of tabOK _ _ (allFn_lk (l := [(119, F119)]) ⟨ok119, trivial⟩)
noncomputable def B66 (k : Nat) : Tbl (RD R66 × MD P66) := .nil
noncomputable def F66 : Fn := ⟨P66, R66, fun k x => S66 k ⟩
theorem ok66 : FnOK Tryz.prog 66 F66 := evalF_ok (E := E66) (T := B66) E66_ok mix Tryz.func66 rfl (by kernel_rfl) (by kernel_rfl) (fun k => by kernel_rfl) (fun k x => by kernel_rfl)
noncomputable abbrev P26 : List PT := [.val ⟨false, (.int .i64), false⟩]
noncomputable abbrev R26 : List RT := [.val ⟨true, Y11_9, true⟩, .val ⟨false, .bool, true⟩]
noncomputable def S26 (k : Nat) (apart : Int) : Option ((Y11_10 × Bool × Unit) × Unit) :=
 (bif decide (apart < 1) then
  some (((0, 0, [], [], false, false, false, [], (([], []), []), [], []), false, ()), ())
 else
  (bif decide (apart > 4611686018427387904) then
   some (((0, 0, [], [], false, false, false, [], (([], []), []), [], []), false, ()), ())
  else
   (S66 k).bind fun q0 =>
   some (((0, apart, [], [], false, false, false, [], q0.1.1, [], []), true, ()), ())))
noncomputable def E26 : Env := tab.env (lk [(66, F66)]) (hintL [])
theorem E26_ok : EnvOK Tryz.prog E26 := envOK_of tabOK _ _ (allFn_lk (l := [(66, F66)]) ⟨ok66, trivial⟩)
noncomputable def B26 (k : Nat) : Tbl (RD R26 × MD P26) := .nil
noncomputable def F26 : Fn := ⟨P26, R26, fun k x => S26 k x.1⟩
theorem ok26 : FnOK Tryz.prog 26 F26 := evalF_ok (E := E26) (T := B26) E26_ok mix Tryz.func26 rfl (by kernel_rfl) (by kernel_rfl) (fun k => by kernel_rfl) (fun k x => by kernel_rfl)
noncomputable abbrev P33 : List PT := [.val ⟨true, Y11_1, false⟩]
noncomputable abbrev R33 : List RT := [.val ⟨true, Y11_1, false⟩]
noncomputable def S33 (k : Nat) (x : Int × (Int × Int) × (Int × Int) × ((List Int) × List Int) × (Int × List (Int × Int)) × Int) : Option ((Y11_0 × Unit) × Unit) :=
 some ((x, ()), ())
noncomputable def E33 : Env := tab.env (lk []) (hintL [])
theorem E33_ok : EnvOK Tryz.prog E33 := envOK_of tabOK _ _ (fun f F h => by cases h)
noncomputable def B33 (k : Nat) : Tbl (RD R33 × MD P33) := .nil
noncomputable def F33 : Fn := ⟨P33, R33, fun k x => S33 k x.1⟩
theorem ok33 : FnOK Tryz.prog 33 F33 := evalF_ok (E := E33) (T := B33) E33_ok mix Tryz.func33 rfl (by kernel_rfl) (by kernel_rfl) (fun k => by kernel_rfl) (fun k x => by kernel_rfl)
noncomputable abbrev P11 : List PT := [.val ⟨true, (.pair Y11_15 (.sl 124 Y11_1)), false⟩]
noncomputable abbrev R11 : List RT := [.val ⟨true, (.pair Y11_15 (.sl 122 Y11_1)), false⟩]
noncomputable abbrev c11_L3 : Cut := ⟨[1, 2, 3, 4], [.box 33 [.cell (.sl 3 (.int .i64)), .cell (.sl 4 .bool), .cell (.sl 124 Y11_1)], .box 41 [.nil, .nil, .nil], .box 41 [.cell (.sl 3 (.int .i64)), .cell (.sl 4 .bool), .own 122 Y11_1], .cell (.int .i64)], [], 32, []⟩
noncomputable def l11_3 (k : Nat) (g3 : (List Int) → (List Bool) → (List Y11_0) → (List Int) → (List Bool) → (List Y11_0) → Int → Option Y11_14) (t1 : List Int) (t2 : List Bool) (t3 : List Y11_0) (x : List Int) (x1 : List Bool) (x2 : List Y11_0) (i : Int) : Option Y11_14 :=
 (bif decide (i < (t3.length : Int)) then
  ix t3 i <|
  (S33 k (rd t3 i (0, (0, 0), (0, 0), ([], []), (0, []), 0))).bind fun q0 =>
  ap x2 ([q0.1.1] : List Y11_0) 128 fun r1 =>
  g3 t1 t2 t3 x x1 r1 (IntKind.i64.wrap (i + 1))
 else
  some ((((x, x1), x2), ()), ()))
noncomputable def b11_3 (k : Nat) (g : ((Unit) × Y11_12 × (Unit × Unit × Unit × Unit) × Y11_12 × Int × Unit) → Option Y11_14) (d : (Unit) × Y11_12 × (Unit × Unit × Unit × Unit) × Y11_12 × Int × Unit) : Option Y11_14 := l11_3 k (fun t1 t2 t3 x x1 x2 i => g ((), (t1, t2, t3, ()), ((), (), (), ()), (x, x1, x2, ()), i, ())) d.2.1.1 d.2.1.2.1 d.2.1.2.2.1 d.2.2.2.1.1 d.2.2.2.1.2.1 d.2.2.2.1.2.2.1 d.2.2.2.2.1
noncomputable def L11_3 (k : Nat) (j : Nat) (t1 : List Int) (t2 : List Bool) (t3 : List Y11_0) (x : List Int) (x1 : List Bool) (x2 : List Y11_0) (i : Int) : Option Y11_14 := iter (R := (Y11_8 × Unit) × Unit) c11_L3 (b11_3 k) j ((), (t1, t2, t3, ()), ((), (), (), ()), (x, x1, x2, ()), i, ())
theorem L11_3_s (k : Nat) (j : Nat) (t1 : List Int) (t2 : List Bool) (t3 : List Y11_0) (x : List Int) (x1 : List Bool) (x2 : List Y11_0) (i : Int) : L11_3 k (j + 1) t1 t2 t3 x x1 x2 i = l11_3 k (L11_3 k j) t1 t2 t3 x x1 x2 i := iter_succ _ _ _ _
noncomputable def S11 (k : Nat) (t : ((List Int) × List Bool) × List Y11_0) : Option Y11_14 :=
 L11_3 k k t.1.1 t.1.2 t.2 t.1.1 t.1.2 ([] : List Y11_0) 0
noncomputable def E11 : Env := tab.env (lk [(33, F33)]) (hintL [(12, 2)])
theorem E11_ok : EnvOK Tryz.prog E11 := envOK_of tabOK _ _ (allFn_lk (l := [(33, F33)]) ⟨ok33, trivial⟩)
noncomputable def B11 (k : Nat) : Tbl (RD R11 × MD P11) := (.loop 3 c11_L3 (b11_3 k) (fun g => .nil) .nil)
noncomputable def F11 : Fn := ⟨P11, R11, fun k x => S11 k x.1⟩
theorem ok11 : FnOK Tryz.prog 11 F11 := evalF_ok (E := E11) (T := B11) E11_ok mix Tryz.func11 rfl (by kernel_rfl) (by kernel_rfl) (fun k => by kernel_rfl) (fun k x => by kernel_rfl)
noncomputable abbrev P15 : List PT := [.val ⟨true, Y11_6, false⟩]
noncomputable abbrev R15 : List RT := [.val ⟨true, Y11_9, false⟩]
noncomputable def S15 (k : Nat) (k_ : Y11_13) : Option ((Y11_10 × Unit) × Unit) :=
 (S11 k k_.2.2.2.2.2.2.2.2.1).bind fun q0 =>
 some (((k_.1, k_.2.1, k_.2.2.1, k_.2.2.2.1, k_.2.2.2.2.1, k_.2.2.2.2.2.1, k_.2.2.2.2.2.2.1, k_.2.2.2.2.2.2.2.1, q0.1.1, k_.2.2.2.2.2.2.2.2.2), ()), ())
noncomputable def E15 : Env := tab.env (lk [(11, F11)]) (hintL [])
theorem E15_ok : EnvOK Tryz.prog E15 := envOK_of tabOK _ _ (allFn_lk (l := [(11, F11)]) ⟨ok11, trivial⟩)
noncomputable def B15 (k : Nat) : Tbl (RD R15 × MD P15) := .nil
noncomputable def F15 : Fn := ⟨P15, R15, fun k x => S15 k x.1⟩
theorem ok15 : FnOK Tryz.prog 15 F15 := evalF_ok (E := E15) (T := B15) E15_ok mix Tryz.func15 rfl (by kernel_rfl) (by kernel_rfl) (fun k => by kernel_rfl) (fun k x => by kernel_rfl)
end Go.Proofs.YtmmagcjlfcicfaaGreat.Ab
