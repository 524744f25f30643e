import Derived.Test.YtmmagcjlfcicfaaGreatAbV7
/- Contracts, printed by this session's own program gen.py. -/
set_option linter.unusedVariables false
set_option linter.unusedSimpArgs false
set_option maxRecDepth 100000
namespace Go.Proofs.YtmmagcjlfcicfaaGreat.Ab
open Go.RowKit
abbrev Y8_0 : Type := Int × Int × (List (Int × Int × Int × (List (Int × Int × Int × Int)) × (List (Int × Int × Int × Int)) × List (Int × Int × Int × Int))) × (List (PN Int 5)) × Bool × Bool × Bool × (List (Int × Int × Int × Int × (Int × (PN Int 8) × (List (Int × Int × Int)) × Bool) × (Int × (PN Int 8) × (List (Int × Int × Int)) × Bool) × (List Int) × Bool)) × (List Int) × (List Bool) × (List (Int × (Int × Int) × (Int × Int) × ((List Int) × List Int) × (Int × List (Int × Int)) × Int)) × (List Int) × (List Bool) × (List (PN Int 6)) × Unit
abbrev Y8_1 : Type := Int → Int → (List (Int × Int × Int × (List (Int × Int × Int × Int)) × (List (Int × Int × Int × Int)) × List (Int × Int × Int × Int))) → (List (PN Int 5)) → Bool → Bool → Bool → (List (Int × Int × Int × Int × (Int × (PN Int 8) × (List (Int × Int × Int)) × Bool) × (Int × (PN Int 8) × (List (Int × Int × Int)) × Bool) × (List Int) × Bool)) → (List Int) → (List Bool) → (List (Int × (Int × Int) × (Int × Int) × ((List Int) × List Int) × (Int × List (Int × Int)) × Int)) → (List Int) → (List Bool) → (List (PN Int 6)) → (List (List Int)) → (List Int) → Int → Int → Option ((Unit) × Y8_0 × Unit)
abbrev Y8_2 : Ty := .pair (.int .i64) (.pair (.int .i64) (.pair (.int .i64) (.pair (.int .i64) (.pair (.pair (.int .i64) (.pair (arrT 8 (.int .i64)) (.pair (.sl 233 (.pair (.int .i64) (.pair (.int .i64) (.int .i64)))) .bool))) (.pair (.pair (.int .i64) (.pair (arrT 8 (.int .i64)) (.pair (.sl 233 (.pair (.int .i64) (.pair (.int .i64) (.int .i64)))) .bool))) (.pair (.sl 3 (.int .i64)) .bool))))))
abbrev Y8_3 : Type := Int × Int × Int × Int × (Int × (PN Int 8) × (List (Int × Int × Int)) × Bool) × (Int × (PN Int 8) × (List (Int × Int × Int)) × Bool) × (List Int) × Bool
abbrev Y8_4 : Type := Int × Int × Int × (List (Int × Int × Int × Int)) × (List (Int × Int × Int × Int)) × List (Int × Int × Int × Int)
abbrev Y8_5 : Type := Int × (Int × Int) × (Int × Int) × ((List Int) × List Int) × (Int × List (Int × Int)) × Int
abbrev Y8_6 : Ty := .pair (.int .i64) (.pair (.int .i64) (.pair (.int .i64) (.pair (.sl 87 (.pair (.int .i64) (.pair (.int .i64) (.pair (.int .i64) (.int .i64))))) (.pair (.sl 87 (.pair (.int .i64) (.pair (.int .i64) (.pair (.int .i64) (.int .i64))))) (.sl 87 (.pair (.int .i64) (.pair (.int .i64) (.pair (.int .i64) (.int .i64)))))))))
abbrev Y8_7 : Ty := .pair (.int .i64) (.pair (.pair (.int .i64) (.int .i64)) (.pair (.pair (.int .i64) (.int .i64)) (.pair (.pair (.sl 2 (.int .i64)) (.sl 3 (.int .i64))) (.pair (.pair (.int .u32) (.sl 297 (.pair (.int .i64) (.int .u32)))) (.int .u32)))))
abbrev Y8_8 : Type := Int × Int × Int × Int × (Int × (PN Int 8) × (List (Int × Int × Int)) × Bool) × (Int × (PN Int 8) × (List (Int × Int × Int)) × Bool) × (List Int) × Bool
abbrev Y8_9 : Type := (Unit) × Y8_0 × Unit
abbrev Y8_10 : Type := (Int × Unit) × Unit
abbrev Y8_11 : Ty := .pair (.int .i64) (.int .i64)
abbrev Y8_12 : Type := (Int × Bool × Unit) × Unit
noncomputable abbrev P58 : List PT := [.mbox 150 [.cell (.int .i64), .cell (.int .i64), .own 77 Y8_6, .own 96 (arrT 5 (.int .i64)), .cell .bool, .cell .bool, .cell .bool, .own 94 Y8_2, .own 3 (.int .i64), .own 4 .bool, .own 124 Y8_7, .own 3 (.int .i64), .own 4 .bool, .own 82 (arrT 6 (.int .i64))]]
noncomputable abbrev R58 : List RT := []
noncomputable abbrev c58_L14 : Cut := ⟨[0, 4, 9, 27, 28, 29, 67, 68], [.pin false 0, .own 27 (.sl 3 (.int .i64)), .cell (.int .i64), .own 3 (.int .i64), .cell (.int .i64), .cell (.int .i64), .cell (.int .i64), .cell (.int .i64)], [.mbox 150 [.cell (.int .i64), .cell (.int .i64), .own 77 Y8_6, .own 96 (arrT 5 (.int .i64)), .cell .bool, .cell .bool, .cell .bool, .own 94 Y8_2, .own 3 (.int .i64), .own 4 .bool, .own 124 Y8_7, .own 3 (.int .i64), .own 4 .bool, .own 82 (arrT 6 (.int .i64))]], 85, [(66, 3)]⟩
noncomputable def l58_14 (k : Nat) (g3 : Y8_1) (g14 : Int → Int → (List Y8_4) → (List (PN Int 5)) → Bool → Bool → Bool → (List Y8_3) → (List Int) → (List Bool) → (List Y8_5) → (List Int) → (List Bool) → (List (PN Int 6)) → (List (List Int)) → Int → (List Int) → Int → Int → Int → Int → Option Y8_9) (t44 : Int) (t45 : Int) (t46 : List Y8_4) (t47 : List (PN Int 5)) (t48 : Bool) (t49 : Bool) (t50 : Bool) (t51 : List Y8_3) (t52 : List Int) (t53 : List Bool) (t54 : List Y8_5) (t55 : List Int) (t56 : List Bool) (t57 : List (PN Int 6)) (who2 : List (List Int)) (s : Int) (t27_3 : List Int) (t28_2 : Int) (t29_2 : Int) (t67 : Int) (t68 : Int) : Option Y8_9 :=
 (bif decide (t68 < t67) then
  ix t51 t68 <|
  (S81 k (rd t51 t68 (0, 0, 0, 0, (0, prep (α := Int) 8 0, [], false), (0, prep (α := Int) 8 0, [], false), [], false)) s).bind fun q5 =>
  ix t51 t68 <|
  g14 t44 t45 t46 t47 t48 t49 t50 (upd t51 t68 q5.1.1) t52 t53 t54 t55 t56 t57 who2 s t27_3 t28_2 t29_2 t67 (IntKind.i64.wrap (t68 + 1))
 else
  g3 t44 t45 t46 t47 t48 t49 t50 t51 t52 t53 t54 t55 t56 t57 who2 t27_3 t28_2 (IntKind.i64.wrap (t29_2 + 1)))
noncomputable def b58_14 (k : Nat) (g3 : Y8_1) (g : ((Y8_0 × Unit) × Unit × (List (List Int)) × Int × (List Int) × Int × Int × Int × Int × Unit) → Option Y8_9) (d : (Y8_0 × Unit) × Unit × (List (List Int)) × Int × (List Int) × Int × Int × Int × Int × Unit) : Option Y8_9 := l58_14 k g3 (fun t44 t45 t46 t47 t48 t49 t50 t51 t52 t53 t54 t55 t56 t57 who2 s t27_3 t28_2 t29_2 t67 t68 => g (((t44, t45, t46, t47, t48, t49, t50, t51, t52, t53, t54, t55, t56, t57, ()), ()), (), who2, s, t27_3, t28_2, t29_2, t67, t68, ())) d.1.1.1 d.1.1.2.1 d.1.1.2.2.1 d.1.1.2.2.2.1 d.1.1.2.2.2.2.1 d.1.1.2.2.2.2.2.1 d.1.1.2.2.2.2.2.2.1 d.1.1.2.2.2.2.2.2.2.1 d.1.1.2.2.2.2.2.2.2.2.1 d.1.1.2.2.2.2.2.2.2.2.2.1 d.1.1.2.2.2.2.2.2.2.2.2.2.1 d.1.1.2.2.2.2.2.2.2.2.2.2.2.1 d.1.1.2.2.2.2.2.2.2.2.2.2.2.2.1 d.1.1.2.2.2.2.2.2.2.2.2.2.2.2.2.1 d.2.2.1 d.2.2.2.1 d.2.2.2.2.1 d.2.2.2.2.2.1 d.2.2.2.2.2.2.1 d.2.2.2.2.2.2.2.1 d.2.2.2.2.2.2.2.2.1
noncomputable def L58_14 (k : Nat) (g3 : Y8_1) (j : Nat) (t44 : Int) (t45 : Int) (t46 : List Y8_4) (t47 : List (PN Int 5)) (t48 : Bool) (t49 : Bool) (t50 : Bool) (t51 : List Y8_3) (t52 : List Int) (t53 : List Bool) (t54 : List Y8_5) (t55 : List Int) (t56 : List Bool) (t57 : List (PN Int 6)) (who2 : List (List Int)) (s : Int) (t27_3 : List Int) (t28_2 : Int) (t29_2 : Int) (t67 : Int) (t68 : Int) : Option Y8_9 := iter (R := (Unit) × Y8_0 × Unit) c58_L14 (b58_14 k g3) j (((t44, t45, t46, t47, t48, t49, t50, t51, t52, t53, t54, t55, t56, t57, ()), ()), (), who2, s, t27_3, t28_2, t29_2, t67, t68, ())
theorem L58_14_s (k : Nat) (g3 : Y8_1) (j : Nat) (t44 : Int) (t45 : Int) (t46 : List Y8_4) (t47 : List (PN Int 5)) (t48 : Bool) (t49 : Bool) (t50 : Bool) (t51 : List Y8_3) (t52 : List Int) (t53 : List Bool) (t54 : List Y8_5) (t55 : List Int) (t56 : List Bool) (t57 : List (PN Int 6)) (who2 : List (List Int)) (s : Int) (t27_3 : List Int) (t28_2 : Int) (t29_2 : Int) (t67 : Int) (t68 : Int) : L58_14 k g3 (j + 1) t44 t45 t46 t47 t48 t49 t50 t51 t52 t53 t54 t55 t56 t57 who2 s t27_3 t28_2 t29_2 t67 t68 = l58_14 k g3 (L58_14 k g3 j) t44 t45 t46 t47 t48 t49 t50 t51 t52 t53 t54 t55 t56 t57 who2 s t27_3 t28_2 t29_2 t67 t68 := iter_succ _ _ _ _
noncomputable abbrev c58_L7 : Cut := ⟨[0, 4, 6, 27, 28, 29, 41, 42, 43], [.pin false 0, .own 27 (.sl 3 (.int .i64)), .cell (.int .i64), .own 3 (.int .i64), .cell (.int .i64), .cell (.int .i64), .cell (.sl 3 (.int .i64)), .cell (.int .i64), .cell (.int .i64)], [.mbox 150 [.cell (.int .i64), .cell (.int .i64), .own 77 Y8_6, .own 96 (arrT 5 (.int .i64)), .cell .bool, .cell .bool, .cell .bool, .own 94 Y8_2, .own 3 (.int .i64), .own 4 .bool, .own 124 Y8_7, .own 3 (.int .i64), .own 4 .bool, .own 82 (arrT 6 (.int .i64))]], 85, []⟩
noncomputable def l58_7 (k : Nat) (g3 : Y8_1) (g7 : Int → Int → (List Y8_4) → (List (PN Int 5)) → Bool → Bool → Bool → (List Y8_3) → (List Int) → (List Bool) → (List Y8_5) → (List Int) → (List Bool) → (List (PN Int 6)) → (List (List Int)) → Int → (List Int) → Int → Int → (List Int) → Int → Int → Option Y8_9) (t30 : Int) (t31 : Int) (t32 : List Y8_4) (t33 : List (PN Int 5)) (t34 : Bool) (t35 : Bool) (t36 : Bool) (t37 : List Y8_3) (t38 : List Int) (t39 : List Bool) (t40 : List Y8_5) (t41 : List Int) (t42 : List Bool) (t43 : List (PN Int 6)) (who1 : List (List Int)) (at_ : Int) (t27_2 : List Int) (t28_1 : Int) (t29_1 : Int) (t41_1 : List Int) (t42_1 : Int) (t43_1 : Int) : Option Y8_9 :=
 (bif decide (t43_1 < t42_1) then
  ix t41_1 t43_1 <|
  (S100a k t30 t31 t32 t33 t34 t35 t36 t37 t38 t39 t40 t41 t42 t43 (0, 12, 0, rd t41_1 t43_1 0, 0, 15)).bind fun q2 =>
  g7 q2.2.1.1 q2.2.1.2.1 q2.2.1.2.2.1 q2.2.1.2.2.2.1 q2.2.1.2.2.2.2.1 q2.2.1.2.2.2.2.2.1 q2.2.1.2.2.2.2.2.2.1 q2.2.1.2.2.2.2.2.2.2.1 q2.2.1.2.2.2.2.2.2.2.2.1 q2.2.1.2.2.2.2.2.2.2.2.2.1 q2.2.1.2.2.2.2.2.2.2.2.2.2.1 q2.2.1.2.2.2.2.2.2.2.2.2.2.2.1 q2.2.1.2.2.2.2.2.2.2.2.2.2.2.2.1 q2.2.1.2.2.2.2.2.2.2.2.2.2.2.2.2.1 who1 at_ t27_2 t28_1 t29_1 t41_1 t42_1 (IntKind.i64.wrap (t43_1 + 1))
 else
  (S73 k ((t38, t39), t40)).bind fun q3 =>
  (S103 k q3.1.1 at_).bind fun q4 =>
  (bif decide (q4.1.1 ≥ 0) then
   L58_14 k g3 k t30 t31 t32 t33 t34 t35 t36 t37 t38 t39 t40 t41 t42 t43 who1 q4.1.1 t27_2 t28_1 t29_1 (t37.length : Int) 0
  else
   g3 t30 t31 t32 t33 t34 t35 t36 t37 t38 t39 t40 t41 t42 t43 who1 t27_2 t28_1 (IntKind.i64.wrap (t29_1 + 1))))
noncomputable def b58_7 (k : Nat) (g3 : Y8_1) (g : ((Y8_0 × Unit) × Unit × (List (List Int)) × Int × (List Int) × Int × Int × (List Int) × Int × Int × Unit) → Option Y8_9) (d : (Y8_0 × Unit) × Unit × (List (List Int)) × Int × (List Int) × Int × Int × (List Int) × Int × Int × Unit) : Option Y8_9 := l58_7 k g3 (fun t30 t31 t32 t33 t34 t35 t36 t37 t38 t39 t40 t41 t42 t43 who1 at_ t27_2 t28_1 t29_1 t41_1 t42_1 t43_1 => g (((t30, t31, t32, t33, t34, t35, t36, t37, t38, t39, t40, t41, t42, t43, ()), ()), (), who1, at_, t27_2, t28_1, t29_1, t41_1, t42_1, t43_1, ())) d.1.1.1 d.1.1.2.1 d.1.1.2.2.1 d.1.1.2.2.2.1 d.1.1.2.2.2.2.1 d.1.1.2.2.2.2.2.1 d.1.1.2.2.2.2.2.2.1 d.1.1.2.2.2.2.2.2.2.1 d.1.1.2.2.2.2.2.2.2.2.1 d.1.1.2.2.2.2.2.2.2.2.2.1 d.1.1.2.2.2.2.2.2.2.2.2.2.1 d.1.1.2.2.2.2.2.2.2.2.2.2.2.1 d.1.1.2.2.2.2.2.2.2.2.2.2.2.2.1 d.1.1.2.2.2.2.2.2.2.2.2.2.2.2.2.1 d.2.2.1 d.2.2.2.1 d.2.2.2.2.1 d.2.2.2.2.2.1 d.2.2.2.2.2.2.1 d.2.2.2.2.2.2.2.1 d.2.2.2.2.2.2.2.2.1 d.2.2.2.2.2.2.2.2.2.1
noncomputable def L58_7 (k : Nat) (g3 : Y8_1) (j : Nat) (t30 : Int) (t31 : Int) (t32 : List Y8_4) (t33 : List (PN Int 5)) (t34 : Bool) (t35 : Bool) (t36 : Bool) (t37 : List Y8_3) (t38 : List Int) (t39 : List Bool) (t40 : List Y8_5) (t41 : List Int) (t42 : List Bool) (t43 : List (PN Int 6)) (who1 : List (List Int)) (at_ : Int) (t27_2 : List Int) (t28_1 : Int) (t29_1 : Int) (t41_1 : List Int) (t42_1 : Int) (t43_1 : Int) : Option Y8_9 := iter (R := (Unit) × Y8_0 × Unit) c58_L7 (b58_7 k g3) j (((t30, t31, t32, t33, t34, t35, t36, t37, t38, t39, t40, t41, t42, t43, ()), ()), (), who1, at_, t27_2, t28_1, t29_1, t41_1, t42_1, t43_1, ())
theorem L58_7_s (k : Nat) (g3 : Y8_1) (j : Nat) (t30 : Int) (t31 : Int) (t32 : List Y8_4) (t33 : List (PN Int 5)) (t34 : Bool) (t35 : Bool) (t36 : Bool) (t37 : List Y8_3) (t38 : List Int) (t39 : List Bool) (t40 : List Y8_5) (t41 : List Int) (t42 : List Bool) (t43 : List (PN Int 6)) (who1 : List (List Int)) (at_ : Int) (t27_2 : List Int) (t28_1 : Int) (t29_1 : Int) (t41_1 : List Int) (t42_1 : Int) (t43_1 : Int) : L58_7 k g3 (j + 1) t30 t31 t32 t33 t34 t35 t36 t37 t38 t39 t40 t41 t42 t43 who1 at_ t27_2 t28_1 t29_1 t41_1 t42_1 t43_1 = l58_7 k g3 (L58_7 k g3 j) t30 t31 t32 t33 t34 t35 t36 t37 t38 t39 t40 t41 t42 t43 who1 at_ t27_2 t28_1 t29_1 t41_1 t42_1 t43_1 := iter_succ _ _ _ _
noncomputable abbrev c58_L3 : Cut := ⟨[0, 4, 27, 28, 29], [.pin false 0, .own 27 (.sl 3 (.int .i64)), .own 3 (.int .i64), .cell (.int .i64), .cell (.int .i64)], [.mbox 150 [.cell (.int .i64), .cell (.int .i64), .own 77 Y8_6, .own 96 (arrT 5 (.int .i64)), .cell .bool, .cell .bool, .cell .bool, .own 94 Y8_2, .own 3 (.int .i64), .own 4 .bool, .own 124 Y8_7, .own 3 (.int .i64), .own 4 .bool, .own 82 (arrT 6 (.int .i64))]], 85, []⟩
noncomputable def l58_3 (k : Nat) (g3 : Y8_1) (t14 : Int) (t15 : Int) (t16 : List Y8_4) (t17 : List (PN Int 5)) (t18 : Bool) (t19 : Bool) (t20 : Bool) (t21 : List Y8_3) (t22 : List Int) (t23 : List Bool) (t24 : List Y8_5) (t25 : List Int) (t26 : List Bool) (t27 : List (PN Int 6)) (who : List (List Int)) (t27_1 : List Int) (t28 : Int) (t29 : Int) : Option Y8_9 :=
 (bif decide (t29 < t28) then
  ix t27_1 t29 <|
  (S100a k t14 t15 t16 t17 t18 t19 t20 t21 t22 t23 t24 t25 t26 t27 (0, 11, 0, rd t27_1 t29 0, 0, 0)).bind fun q1 =>
  ix who t29 <|
  L58_7 k g3 k q1.2.1.1 q1.2.1.2.1 q1.2.1.2.2.1 q1.2.1.2.2.2.1 q1.2.1.2.2.2.2.1 q1.2.1.2.2.2.2.2.1 q1.2.1.2.2.2.2.2.2.1 q1.2.1.2.2.2.2.2.2.2.1 q1.2.1.2.2.2.2.2.2.2.2.1 q1.2.1.2.2.2.2.2.2.2.2.2.1 q1.2.1.2.2.2.2.2.2.2.2.2.2.1 q1.2.1.2.2.2.2.2.2.2.2.2.2.2.1 q1.2.1.2.2.2.2.2.2.2.2.2.2.2.2.1 q1.2.1.2.2.2.2.2.2.2.2.2.2.2.2.2.1 who (rd t27_1 t29 0) t27_1 t28 t29 (rd who t29 []) ((rd who t29 []).length : Int) 0
 else
  some ((), (t14, t15, t16, t17, t18, t19, t20, t21, t22, t23, t24, t25, t26, t27, ()), ()))
noncomputable def b58_3 (k : Nat) (g : ((Y8_0 × Unit) × Unit × (List (List Int)) × (List Int) × Int × Int × Unit) → Option Y8_9) (d : (Y8_0 × Unit) × Unit × (List (List Int)) × (List Int) × Int × Int × Unit) : Option Y8_9 := l58_3 k (fun t14 t15 t16 t17 t18 t19 t20 t21 t22 t23 t24 t25 t26 t27 who t27_1 t28 t29 => g (((t14, t15, t16, t17, t18, t19, t20, t21, t22, t23, t24, t25, t26, t27, ()), ()), (), who, t27_1, t28, t29, ())) d.1.1.1 d.1.1.2.1 d.1.1.2.2.1 d.1.1.2.2.2.1 d.1.1.2.2.2.2.1 d.1.1.2.2.2.2.2.1 d.1.1.2.2.2.2.2.2.1 d.1.1.2.2.2.2.2.2.2.1 d.1.1.2.2.2.2.2.2.2.2.1 d.1.1.2.2.2.2.2.2.2.2.2.1 d.1.1.2.2.2.2.2.2.2.2.2.2.1 d.1.1.2.2.2.2.2.2.2.2.2.2.2.1 d.1.1.2.2.2.2.2.2.2.2.2.2.2.2.1 d.1.1.2.2.2.2.2.2.2.2.2.2.2.2.2.1 d.2.2.1 d.2.2.2.1 d.2.2.2.2.1 d.2.2.2.2.2.1
noncomputable def L58_3 (k : Nat) (j : Nat) (t14 : Int) (t15 : Int) (t16 : List Y8_4) (t17 : List (PN Int 5)) (t18 : Bool) (t19 : Bool) (t20 : Bool) (t21 : List Y8_3) (t22 : List Int) (t23 : List Bool) (t24 : List Y8_5) (t25 : List Int) (t26 : List Bool) (t27 : List (PN Int 6)) (who : List (List Int)) (t27_1 : List Int) (t28 : Int) (t29 : Int) : Option Y8_9 := iter (R := (Unit) × Y8_0 × Unit) c58_L3 (b58_3 k) j (((t14, t15, t16, t17, t18, t19, t20, t21, t22, t23, t24, t25, t26, t27, ()), ()), (), who, t27_1, t28, t29, ())
theorem L58_3_s (k : Nat) (j : Nat) (t14 : Int) (t15 : Int) (t16 : List Y8_4) (t17 : List (PN Int 5)) (t18 : Bool) (t19 : Bool) (t20 : Bool) (t21 : List Y8_3) (t22 : List Int) (t23 : List Bool) (t24 : List Y8_5) (t25 : List Int) (t26 : List Bool) (t27 : List (PN Int 6)) (who : List (List Int)) (t27_1 : List Int) (t28 : Int) (t29 : Int) : L58_3 k (j + 1) t14 t15 t16 t17 t18 t19 t20 t21 t22 t23 t24 t25 t26 t27 who t27_1 t28 t29 = l58_3 k (L58_3 k j) t14 t15 t16 t17 t18 t19 t20 t21 t22 t23 t24 t25 t26 t27 who t27_1 t28 t29 := iter_succ _ _ _ _
noncomputable def S58 (k : Nat) (t : Int) (t1 : Int) (t2 : List Y8_4) (t3 : List (PN Int 5)) (t4 : Bool) (t5 : Bool) (t6 : Bool) (t7 : List Y8_3) (t8 : List Int) (t9 : List Bool) (t10 : List Y8_5) (t11 : List Int) (t12 : List Bool) (t13 : List (PN Int 6)) : Option Y8_9 :=
 (S102 k ((t8, t9), t10)).bind fun q0 =>
 L58_3 k k t t1 t2 t3 t4 t5 t6 t7 q0.1.1.1.1 q0.1.1.1.2 q0.1.1.2 t11 t12 t13 q0.1.2.2.1 q0.1.2.1 (q0.1.2.1.length : Int) 0
noncomputable def E58 : Env := tab.env (lk [(73, F73), (81, F81), (100, F100a), (102, F102), (103, F103)]) (hintL [])
theorem E58_ok : EnvOK Tryz.prog E58 := envOK_of tabOK _ _ (allFn_lk (l := [(73, F73), (81, F81), (100, F100a), (102, F102), (103, F103)]) ⟨ok73, ok81, ok100a, ok102, ok103, trivial⟩)
noncomputable def B58 (k : Nat) : Tbl (RD R58 × MD P58) := (.loop 3 c58_L3 (b58_3 k) (fun g => (fun (g3 : Y8_1) => (.loop 14 c58_L14 (b58_14 k g3) (fun g => .nil) (.loop 7 c58_L7 (b58_7 k g3) (fun g => .nil) .nil))) (fun t14 t15 t16 t17 t18 t19 t20 t21 t22 t23 t24 t25 t26 t27 who t27_1 t28 t29 => g (((t14, t15, t16, t17, t18, t19, t20, t21, t22, t23, t24, t25, t26, t27, ()), ()), (), who, t27_1, t28, t29, ()))) .nil)
noncomputable def F58 : Fn := ⟨P58, R58, fun k x => S58 k x.1.1 x.1.2.1 x.1.2.2.1 x.1.2.2.2.1 x.1.2.2.2.2.1 x.1.2.2.2.2.2.1 x.1.2.2.2.2.2.2.1 x.1.2.2.2.2.2.2.2.1 x.1.2.2.2.2.2.2.2.2.1 x.1.2.2.2.2.2.2.2.2.2.1 x.1.2.2.2.2.2.2.2.2.2.2.1 x.1.2.2.2.2.2.2.2.2.2.2.2.1 x.1.2.2.2.2.2.2.2.2.2.2.2.2.1 x.1.2.2.2.2.2.2.2.2.2.2.2.2.2.1⟩
theorem ok58 : FnOK Tryz.prog 58 F58 := evalF_ok (E := E58) (T := B58) E58_ok mix Tryz.func58 rfl (by kernel_rfl) (by kernel_rfl) (fun k => by kernel_rfl) (fun k x => by kernel_rfl)
noncomputable abbrev P202 : List PT := [.val ⟨false, (.sl 114 Y8_11), false⟩, .val ⟨false, (.sl 3 (.int .i64)), false⟩, .val ⟨false, (.int .i64), false⟩]
noncomputable abbrev R202 : List RT := [.val ⟨false, (.int .i64), true⟩, .val ⟨false, .bool, true⟩]
noncomputable abbrev c202_L3 : Cut := ⟨[0, 2, 6, 7, 8, 12, 13, 14], [.cell (.sl 114 Y8_11), .cell (.int .i64), .cell (.int .i64), .cell .bool, .mp 330 true (.int .i64) false .bool, .cell (.sl 3 (.int .i64)), .cell (.int .i64), .cell (.int .i64)], [], 51, []⟩
noncomputable def l202_3 (k : Nat) (g3 : (List (Int × Int)) → Int → Int → Bool → (List (Int × Bool)) → (List Int) → Int → Int → Option Y8_12) (l_1 : List (Int × Int)) (task1 : Int) (low : Int) (ok : Bool) (seen : List (Int × Bool)) (t12 : List Int) (t13 : Int) (t14 : Int) : Option Y8_12 :=
 (bif decide (t14 < t13) then
  ix t12 t14 <|
  (S195 k l_1 (rd t12 t14 0) task1).bind fun q0 =>
  (bif !q0.1.1 then
   g3 l_1 task1 low ok seen t12 t13 (IntKind.i64.wrap (t14 + 1))
  else
   (bif mget (.int .i64) .bool (rd t12 t14 0) seen false then
    g3 l_1 task1 low ok seen t12 t13 (IntKind.i64.wrap (t14 + 1))
   else
    (bif !ok then
     ix l_1 (rd t12 t14 0) <|
     g3 l_1 task1 (rd l_1 (rd t12 t14 0) (0, 0)).1 true (updD (.int .i64) .bool (rd t12 t14 0) true seen) t12 t13 (IntKind.i64.wrap (t14 + 1))
    else
     ix l_1 (rd t12 t14 0) <|
     (bif decide ((rd l_1 (rd t12 t14 0) (0, 0)).1 < low) then
      ix l_1 (rd t12 t14 0) <|
      g3 l_1 task1 (rd l_1 (rd t12 t14 0) (0, 0)).1 true (updD (.int .i64) .bool (rd t12 t14 0) true seen) t12 t13 (IntKind.i64.wrap (t14 + 1))
     else
      g3 l_1 task1 low ok (updD (.int .i64) .bool (rd t12 t14 0) true seen) t12 t13 (IntKind.i64.wrap (t14 + 1))))))
 else
  some ((low, ok, ()), ()))
noncomputable def b202_3 (k : Nat) (g : ((Unit) × (List (Int × Int)) × Int × Int × Bool × (List (Int × Bool)) × (List Int) × Int × Int × Unit) → Option Y8_12) (d : (Unit) × (List (Int × Int)) × Int × Int × Bool × (List (Int × Bool)) × (List Int) × Int × Int × Unit) : Option Y8_12 := l202_3 k (fun l_1 task1 low ok seen t12 t13 t14 => g ((), l_1, task1, low, ok, seen, t12, t13, t14, ())) d.2.1 d.2.2.1 d.2.2.2.1 d.2.2.2.2.1 d.2.2.2.2.2.1 d.2.2.2.2.2.2.1 d.2.2.2.2.2.2.2.1 d.2.2.2.2.2.2.2.2.1
noncomputable def L202_3 (k : Nat) (j : Nat) (l_1 : List (Int × Int)) (task1 : Int) (low : Int) (ok : Bool) (seen : List (Int × Bool)) (t12 : List Int) (t13 : Int) (t14 : Int) : Option Y8_12 := iter (R := (Int × Bool × Unit) × Unit) c202_L3 (b202_3 k) j ((), l_1, task1, low, ok, seen, t12, t13, t14, ())
theorem L202_3_s (k : Nat) (j : Nat) (l_1 : List (Int × Int)) (task1 : Int) (low : Int) (ok : Bool) (seen : List (Int × Bool)) (t12 : List Int) (t13 : Int) (t14 : Int) : L202_3 k (j + 1) l_1 task1 low ok seen t12 t13 t14 = l202_3 k (L202_3 k j) l_1 task1 low ok seen t12 t13 t14 := iter_succ _ _ _ _
noncomputable def S202 (k : Nat) (l_ : List (Int × Int)) (held : List Int) (task : Int) : Option Y8_12 :=
 L202_3 k k l_ task 0 false ([] : List (Int × Bool)) held (held.length : Int) 0
noncomputable def E202 : Env := tab.env (lk [(195, F195)]) (hintL [])
theorem E202_ok : EnvOK Tryz.prog E202 := envOK_of tabOK _ _ (allFn_lk (l := [(195, F195)]) ⟨ok195, trivial⟩)
noncomputable def B202 (k : Nat) : Tbl (RD R202 × MD P202) := (.loop 3 c202_L3 (b202_3 k) (fun g => .nil) .nil)
noncomputable def F202 : Fn := ⟨P202, R202, fun k x => S202 k x.1 x.2.1 x.2.2.1⟩
theorem ok202 : FnOK Tryz.prog 202 F202 := evalF_ok (E := E202) (T := B202) E202_ok mix Tryz.func202 rfl (by kernel_rfl) (by kernel_rfl) (fun k => by kernel_rfl) (fun k x => by kernel_rfl)
noncomputable abbrev P225 : List PT := [.val ⟨true, Y8_2, false⟩, .val ⟨false, (.int .i64), false⟩]
noncomputable abbrev R225 : List RT := [.val ⟨false, (.int .i64), true⟩]
noncomputable def S225 (k : Nat) (j_ : Y8_8) (n : Int) : Option Y8_10 :=
 (bif j_.2.2.2.1 == 2 then
  some ((IntKind.i64.wrap ((IntKind.i64.wrap (n + n)) + j_.1), ()), ())
 else
  (bif j_.2.2.2.2.2.2.2 then
   some ((j_.1, ()), ())
  else
   some ((IntKind.i64.wrap (n + j_.1), ()), ())))
noncomputable def E225 : Env := tab.env (lk []) (hintL [])
theorem E225_ok : EnvOK Tryz.prog E225 := envOK_of tabOK _ _ (fun f F h => by cases h)
noncomputable def B225 (k : Nat) : Tbl (RD R225 × MD P225) := .nil
noncomputable def F225 : Fn := ⟨P225, R225, fun k x => S225 k x.1 x.2.1⟩
theorem ok225 : FnOK Tryz.prog 225 F225 := evalF_ok (E := E225) (T := B225) E225_ok mix Tryz.func225 rfl (by kernel_rfl) (by kernel_rfl) (fun k => by kernel_rfl) (fun k x => by kernel_rfl)
noncomputable abbrev P201 : List PT := [.val ⟨true, Y8_2, false⟩, .val ⟨false, (.int .i64), false⟩, .val ⟨false, (.sl 114 Y8_11), false⟩]
noncomputable abbrev R201 : List RT := [.val ⟨false, (.int .i64), true⟩]
noncomputable def S201 (k : Nat) (j_ : Y8_8) (n : Int) (l_ : List (Int × Int)) : Option Y8_10 :=
 (S202 k l_ j_.2.2.2.2.2.2.1 j_.1).bind fun q0 =>
 (bif q0.1.2.1 then
  (S225 k j_ n).bind fun q1 =>
  some ((mn q1.1.1 q0.1.1, ()), ())
 else
  (S225 k j_ n).bind fun q2 =>
  some ((q2.1.1, ()), ()))
noncomputable def E201 : Env := tab.env (lk [(202, F202), (225, F225)]) (hintL [])
theorem E201_ok : EnvOK Tryz.prog E201 := envOK_of tabOK _ _ (allFn_lk (l := [(202, F202), (225, F225)]) ⟨ok202, ok225, trivial⟩)
noncomputable def B201 (k : Nat) : Tbl (RD R201 × MD P201) := .nil
noncomputable def F201 : Fn := ⟨P201, R201, fun k x => S201 k x.1 x.2.1 x.2.2.1⟩
theorem ok201 : FnOK Tryz.prog 201 F201 := evalF_ok (E := E201) (T := B201) E201_ok mix Tryz.func201 rfl (by kernel_rfl) (by kernel_rfl) (fun k => by kernel_rfl) (fun k x => by kernel_rfl)
noncomputable abbrev P158 : List PT := [.val ⟨true, Y8_2, false⟩, .val ⟨false, (.int .i64), false⟩, .val ⟨false, (.sl 114 Y8_11), false⟩]
noncomputable abbrev R158 : List RT := [.val ⟨true, (.pair (.int .i64) Y8_11), true⟩]
noncomputable def S158 (k : Nat) (j_ : Y8_8) (n : Int) (s : List (Int × Int)) : Option (((Int × Int × Int) × Unit) × Unit) :=
 (S201 k j_ n s).bind fun q0 =>
 (S202 k s j_.2.2.2.2.2.2.1 j_.1).bind fun q1 =>
 (bif q1.1.2.1 then
  some (((q0.1.1, 0, j_.1), ()), ())
 else
  some (((q0.1.1, 1, j_.1), ()), ()))
noncomputable def E158 : Env := tab.env (lk [(201, F201), (202, F202)]) (hintL [])
theorem E158_ok : EnvOK Tryz.prog E158 := envOK_of tabOK _ _ (allFn_lk (l := [(201, F201), (202, F202)]) ⟨ok201, ok202, trivial⟩)
noncomputable def B158 (k : Nat) : Tbl (RD R158 × MD P158) := .nil
noncomputable def F158 : Fn := ⟨P158, R158, fun k x => S158 k x.1 x.2.1 x.2.2.1⟩
theorem ok158 : FnOK Tryz.prog 158 F158 := evalF_ok (E := E158) (T := B158) E158_ok mix Tryz.func158 rfl (by kernel_rfl) (by kernel_rfl) (fun k => by kernel_rfl) (fun k x => by kernel_rfl)
noncomputable abbrev P227 : List PT := [.val ⟨false, (.int .i64), false⟩]
noncomputable abbrev R227 : List RT := [.val ⟨false, .bool, true⟩]
noncomputable def S227 (k : Nat) (x : Int) : Option ((Bool × Unit) × Unit) :=
 some ((x != x, ()), ())
noncomputable def E227 : Env := tab.env (lk []) (hintL [])
theorem E227_ok : EnvOK Tryz.prog E227 := envOK_of tabOK _ _ (fun f F h => by cases h)
noncomputable def B227 (k : Nat) : Tbl (RD R227 × MD P227) := .nil
noncomputable def F227 : Fn := ⟨P227, R227, fun k x => S227 k x.1⟩
theorem ok227 : FnOK Tryz.prog 227 F227 := evalF_ok (E := E227) (T := B227) E227_ok mix Tryz.func227 rfl (by kernel_rfl) (by kernel_rfl) (fun k => by kernel_rfl) (fun k x => by kernel_rfl)
noncomputable abbrev P206 : List PT := [.val ⟨false, (.int .i64), false⟩, .val ⟨false, (.int .i64), false⟩]
noncomputable abbrev R206 : List RT := [.val ⟨false, (.int .i64), true⟩]
noncomputable def S206 (k : Nat) (x : Int) (y : Int) : Option Y8_10 :=
 (S227 k x).bind fun q0 =>
 (S227 k y).bind fun q1 =>
 (bif q0.1.1 then
  (bif q1.1.1 then
   some ((0, ()), ())
  else
   some (((-1), ()), ()))
 else
  (bif q1.1.1 then
   some ((1, ()), ())
  else
   (bif decide (x < y) then
    some (((-1), ()), ())
   else
    (bif decide (x > y) then
     some ((1, ()), ())
    else
     some ((0, ()), ())))))
noncomputable def E206 : Env := tab.env (lk [(227, F227)]) (hintL [])
theorem E206_ok : EnvOK Tryz.prog E206 := envOK_of tabOK _ _ (allFn_lk (l := [(227, F227)]) ⟨ok227, trivial⟩)
noncomputable def B206 (k : Nat) : Tbl (RD R206 × MD P206) := .nil
noncomputable def F206 : Fn := ⟨P206, R206, fun k x => S206 k x.1 x.2.1⟩
theorem ok206 : FnOK Tryz.prog 206 F206 := evalF_ok (E := E206) (T := B206) E206_ok mix Tryz.func206 rfl (by kernel_rfl) (by kernel_rfl) (fun k => by kernel_rfl) (fun k x => by kernel_rfl)
noncomputable abbrev P205 : List PT := [.val ⟨false, (.sl 3 (.int .i64)), false⟩]
noncomputable abbrev R205 : List RT := [.val ⟨false, (.int .i64), true⟩]
noncomputable abbrev c205_L3 : Cut := ⟨[3, 6, 7, 8], [.cell (.int .i64), .cell (.sl 3 (.int .i64)), .cell (.int .i64), .cell (.int .i64)], [], 18, []⟩
noncomputable def l205_3 (k : Nat) (g3 : Int → (List Int) → Int → Int → Option Y8_10) (zero : Int) (t6 : List Int) (t7 : Int) (t8 : Int) : Option Y8_10 :=
 (bif decide (t8 < t7) then
  ix t6 t8 <|
  (bif (rd t6 t8 0) != zero then
   some ((rd t6 t8 0, ()), ())
  else
   g3 zero t6 t7 (IntKind.i64.wrap (t8 + 1)))
 else
  some ((zero, ()), ()))
noncomputable def b205_3 (k : Nat) (g : ((Unit) × Int × (List Int) × Int × Int × Unit) → Option Y8_10) (d : (Unit) × Int × (List Int) × Int × Int × Unit) : Option Y8_10 := l205_3 k (fun zero t6 t7 t8 => g ((), zero, t6, t7, t8, ())) d.2.1 d.2.2.1 d.2.2.2.1 d.2.2.2.2.1
noncomputable def L205_3 (k : Nat) (j : Nat) (zero : Int) (t6 : List Int) (t7 : Int) (t8 : Int) : Option Y8_10 := iter (R := (Int × Unit) × Unit) c205_L3 (b205_3 k) j ((), zero, t6, t7, t8, ())
theorem L205_3_s (k : Nat) (j : Nat) (zero : Int) (t6 : List Int) (t7 : Int) (t8 : Int) : L205_3 k (j + 1) zero t6 t7 t8 = l205_3 k (L205_3 k j) zero t6 t7 t8 := iter_succ _ _ _ _
noncomputable def S205 (k : Nat) (vals : List Int) : Option Y8_10 :=
 L205_3 k k 0 vals (vals.length : Int) 0
noncomputable def E205 : Env := tab.env (lk []) (hintL [])
theorem E205_ok : EnvOK Tryz.prog E205 := envOK_of tabOK _ _ (fun f F h => by cases h)
noncomputable def B205 (k : Nat) : Tbl (RD R205 × MD P205) := (.loop 3 c205_L3 (b205_3 k) (fun g => .nil) .nil)
noncomputable def F205 : Fn := ⟨P205, R205, fun k x => S205 k x.1⟩
theorem ok205 : FnOK Tryz.prog 205 F205 := evalF_ok (E := E205) (T := B205) E205_ok mix Tryz.func205 rfl (by kernel_rfl) (by kernel_rfl) (fun k => by kernel_rfl) (fun k x => by kernel_rfl)
noncomputable abbrev P160 : List PT := [.val ⟨true, (.pair (.int .i64) Y8_11), false⟩, .val ⟨true, (.pair (.int .i64) Y8_11), false⟩]
noncomputable abbrev R160 : List RT := [.val ⟨false, (.int .i64), true⟩]
noncomputable def S160 (k : Nat) (p : Int × Int × Int) (q_ : Int × Int × Int) : Option Y8_10 :=
 (S206 k p.1 q_.1).bind fun q0 =>
 (S206 k p.2.1 q_.2.1).bind fun q1 =>
 (S206 k p.2.2 q_.2.2).bind fun q2 =>
 (S205 k ([q0.1.1, q1.1.1, q2.1.1] : List Int)).bind fun q3 =>
 some ((q3.1.1, ()), ())
noncomputable def E160 : Env := tab.env (lk [(205, F205), (206, F206)]) (hintL [])
theorem E160_ok : EnvOK Tryz.prog E160 := envOK_of tabOK _ _ (allFn_lk (l := [(205, F205), (206, F206)]) ⟨ok205, ok206, trivial⟩)
noncomputable def B160 (k : Nat) : Tbl (RD R160 × MD P160) := .nil
noncomputable def F160 : Fn := ⟨P160, R160, fun k x => S160 k x.1 x.2.1⟩
theorem ok160 : FnOK Tryz.prog 160 F160 := evalF_ok (E := E160) (T := B160) E160_ok mix Tryz.func160 rfl (by kernel_rfl) (by kernel_rfl) (fun k => by kernel_rfl) (fun k x => by kernel_rfl)
end Go.Proofs.YtmmagcjlfcicfaaGreat.Ab
