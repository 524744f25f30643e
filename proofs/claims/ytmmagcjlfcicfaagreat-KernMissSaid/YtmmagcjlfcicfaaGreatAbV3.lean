import Derived.Test.YtmmagcjlfcicfaaGreatAbV2
/- Contracts, printed by this session's own program gen.py. -/
set_option linter.unusedVariables false
set_option linter.unusedSimpArgs false
set_option maxRecDepth 100000
namespace Go.Proofs.YtmmagcjlfcicfaaGreat.Ab
open Go.RowKit
abbrev Y3_0 : Type := (Int × Int × (List (Int × Int × Int × (List (Int × Int × Int × Int)) × (List (Int × Int × Int × Int)) × List (Int × Int × Int × Int))) × (List (PN Int 5)) × Bool × Bool × Bool × (List (Int × Int × Int × Int × (Int × (PN Int 8) × (List (Int × Int × Int)) × Bool) × (Int × (PN Int 8) × (List (Int × Int × Int)) × Bool) × (List Int) × Bool)) × (((List Int) × List Bool) × List (Int × (Int × Int) × (Int × Int) × ((List Int) × List Int) × (Int × List (Int × Int)) × Int)) × (List Int) × List Bool) × Unit
abbrev Y3_1 : Type := Int × Int × Int × (List (Int × Int × Int × Int)) × (List (Int × Int × Int × Int)) × List (Int × Int × Int × Int)
abbrev Y3_2 : Type := Int × Int × Int × Int × (Int × (PN Int 8) × (List (Int × Int × Int)) × Bool) × (Int × (PN Int 8) × (List (Int × Int × Int)) × Bool) × (List Int) × Bool
abbrev Y3_3 : Ty := .sl 87 (.pair (.int .i64) (.pair (.int .i64) (.pair (.int .i64) (.int .i64))))
abbrev Y3_4 : Type := Int × (Int × Int) × (Int × Int) × ((List Int) × List Int) × (Int × List (Int × Int)) × Int
abbrev Y3_5 : Ty := .pair (.int .i64) (.pair (.int .i64) (.pair (.sl 77 (.pair (.int .i64) (.pair (.int .i64) (.pair (.int .i64) (.pair Y3_3 (.pair Y3_3 Y3_3)))))) (.pair (.sl 96 (arrT 5 (.int .i64))) (.pair .bool (.pair .bool (.pair .bool (.pair (.sl 94 (.pair (.int .i64) (.pair (.int .i64) (.pair (.int .i64) (.pair (.int .i64) (.pair (.pair (.int .i64) (.pair (arrT 8 (.int .i64)) (.pair (.sl 233 (.pair (.int .i64) (.pair (.int .i64) (.int .i64)))) .bool))) (.pair (.pair (.int .i64) (.pair (arrT 8 (.int .i64)) (.pair (.sl 233 (.pair (.int .i64) (.pair (.int .i64) (.int .i64)))) .bool))) (.pair (.sl 3 (.int .i64)) .bool)))))))) (.pair (.pair (.pair (.sl 3 (.int .i64)) (.sl 4 .bool)) (.sl 124 (.pair (.int .i64) (.pair (.pair (.int .i64) (.int .i64)) (.pair (.pair (.int .i64) (.int .i64)) (.pair (.pair (.sl 2 (.int .i64)) (.sl 3 (.int .i64))) (.pair (.pair (.int .u32) (.sl 297 (.pair (.int .i64) (.int .u32)))) (.int .u32)))))))) (.pair (.sl 3 (.int .i64)) (.sl 4 .bool))))))))))
abbrev Y3_6 : Type := List (Int × Int × Int × Int)
abbrev Y3_7 : Ty := .sl 124 (.pair (.int .i64) (.pair (.pair (.int .i64) (.int .i64)) (.pair (.pair (.int .i64) (.int .i64)) (.pair (.pair (.sl 2 (.int .i64)) (.sl 3 (.int .i64))) (.pair (.pair (.int .u32) (.sl 297 (.pair (.int .i64) (.int .u32)))) (.int .u32))))))
abbrev Y3_8 : Type := Int × Int × (List Y3_1) × (List (PN Int 5)) × Bool × Bool × Bool × (List Y3_2) × (List Int) × (List Bool) × (List Y3_4) × (List Int) × (List Bool) × Unit
abbrev Y3_9 : Ty := .pair (.int .i64) (.pair (.int .i64) (.pair (.int .i64) (.pair (.int .i64) (.pair (.pair (.int .i64) (.pair (arrT 8 (.int .i64)) (.pair (.sl 233 (.pair (.int .i64) (.pair (.int .i64) (.int .i64)))) .bool))) (.pair (.pair (.int .i64) (.pair (arrT 8 (.int .i64)) (.pair (.sl 233 (.pair (.int .i64) (.pair (.int .i64) (.int .i64)))) .bool))) (.pair (.sl 3 (.int .i64)) .bool))))))
abbrev Y3_10 : Ty := .pair (.int .i64) (.pair (.int .i64) (.pair (.int .i64) (.pair Y3_3 (.pair Y3_3 Y3_3))))
abbrev Y3_11 : Type := Int × Int × Unit × Unit × Bool × Bool × Bool × Unit × Unit × Unit × Unit × Unit × Unit × Unit
abbrev Y3_12 : Type := List (Int × Int × Int × Int)
abbrev Y3_13 : Type := (Int × Unit) × Unit
abbrev Y3_14 : Type := Int → Int → (List Y3_1) → (List (PN Int 5)) → Bool → Bool → Bool → (List Y3_2) → (List Int) → (List Bool) → (List Y3_4) → (List Int) → (List Bool) → Int → Int → Bool → Bool → Bool → Int → Int → Option (Y3_0 × Unit)
abbrev Y3_15 : Ty := .pair (.int .i64) (.int .i64)
abbrev Y3_16 : Type := (Y3_6 × Unit) × Unit
abbrev Y3_17 : Type := (List (Int × Int)) × Unit
abbrev Y3_18 : Type := Int × Int × (List Y3_1) × (List (PN Int 5)) × Bool × Bool × Bool × (List Y3_2) × (((List Int) × List Bool) × List Y3_4) × (List Int) × List Bool
abbrev Y3_19 : Type := ((List Int) × Unit) × Unit
noncomputable abbrev P34 : List PT := [.val ⟨true, Y3_5, false⟩]
noncomputable abbrev R34 : List RT := [.val ⟨true, Y3_5, true⟩]
noncomputable abbrev c34_L8 : Cut := ⟨[1, 2, 54, 55], [.box 37 [.cell (.int .i64), .cell (.int .i64), .own 77 Y3_10, .own 96 (arrT 5 (.int .i64)), .cell .bool, .cell .bool, .cell .bool, .own 94 Y3_9, .cell (.sl 3 (.int .i64)), .cell (.sl 4 .bool), .cell Y3_7, .cell (.sl 3 (.int .i64)), .cell (.sl 4 .bool)], .box 37 [.cell (.int .i64), .cell (.int .i64), .nil, .nil, .cell .bool, .cell .bool, .cell .bool, .nil, .nil, .nil, .nil, .nil, .nil], .cell (.int .i64), .cell (.int .i64)], [], 77, [(53, 3)]⟩
noncomputable def l34_8 (k : Nat) (g8 : Y3_14) (k_14 : Int) (k_15 : Int) (k_16 : List Y3_1) (k_17 : List (PN Int 5)) (k_18 : Bool) (k_19 : Bool) (k_20 : Bool) (k_21 : List Y3_2) (k_22 : List Int) (k_23 : List Bool) (k_24 : List Y3_4) (k_25 : List Int) (k_26 : List Bool) (t2_5 : Int) (t2_6 : Int) (t2_7 : Bool) (t2_8 : Bool) (t2_9 : Bool) (t54 : Int) (t55 : Int) : Option (Y3_0 × Unit) :=
 (bif decide (t55 < t54) then
  ix k_21 t55 <|
  (S81 k (rd k_21 t55 (0, 0, 0, 0, (0, prep (α := Int) 8 0, [], false), (0, prep (α := Int) 8 0, [], false), [], false)) (-1)).bind fun q7 =>
  ix k_21 t55 <|
  g8 k_14 k_15 k_16 k_17 k_18 k_19 k_20 (upd k_21 t55 q7.1.1) k_22 k_23 k_24 k_25 k_26 t2_5 t2_6 t2_7 t2_8 t2_9 t54 (IntKind.i64.wrap (t55 + 1))
 else
  (S82 k ((k_22, k_23), k_24) (-1) (0, (0, 0), (0, 0), ([], []), (0, []), 0)).bind fun q8 =>
  (S83 k (k_25, k_26) (-1)).bind fun q9 =>
  some (((k_14, k_15, k_16, k_17, k_18, k_19, k_20, k_21, q8.1.1, q9.1.1), ()), ()))
noncomputable def b34_8 (k : Nat) (g : ((Unit) × Y3_8 × Y3_11 × Int × Int × Unit) → Option (Y3_0 × Unit)) (d : (Unit) × Y3_8 × Y3_11 × Int × Int × Unit) : Option (Y3_0 × Unit) := l34_8 k (fun k_14 k_15 k_16 k_17 k_18 k_19 k_20 k_21 k_22 k_23 k_24 k_25 k_26 t2_5 t2_6 t2_7 t2_8 t2_9 t54 t55 => g ((), (k_14, k_15, k_16, k_17, k_18, k_19, k_20, k_21, k_22, k_23, k_24, k_25, k_26, ()), (t2_5, t2_6, (), (), t2_7, t2_8, t2_9, (), (), (), (), (), (), ()), t54, t55, ())) d.2.1.1 d.2.1.2.1 d.2.1.2.2.1 d.2.1.2.2.2.1 d.2.1.2.2.2.2.1 d.2.1.2.2.2.2.2.1 d.2.1.2.2.2.2.2.2.1 d.2.1.2.2.2.2.2.2.2.1 d.2.1.2.2.2.2.2.2.2.2.1 d.2.1.2.2.2.2.2.2.2.2.2.1 d.2.1.2.2.2.2.2.2.2.2.2.2.1 d.2.1.2.2.2.2.2.2.2.2.2.2.2.1 d.2.1.2.2.2.2.2.2.2.2.2.2.2.2.1 d.2.2.1.1 d.2.2.1.2.1 d.2.2.1.2.2.2.2.1 d.2.2.1.2.2.2.2.2.1 d.2.2.1.2.2.2.2.2.2.1 d.2.2.2.1 d.2.2.2.2.1
noncomputable def L34_8 (k : Nat) (j : Nat) (k_14 : Int) (k_15 : Int) (k_16 : List Y3_1) (k_17 : List (PN Int 5)) (k_18 : Bool) (k_19 : Bool) (k_20 : Bool) (k_21 : List Y3_2) (k_22 : List Int) (k_23 : List Bool) (k_24 : List Y3_4) (k_25 : List Int) (k_26 : List Bool) (t2_5 : Int) (t2_6 : Int) (t2_7 : Bool) (t2_8 : Bool) (t2_9 : Bool) (t54 : Int) (t55 : Int) : Option (Y3_0 × Unit) := iter (R := Y3_0 × Unit) c34_L8 (b34_8 k) j ((), (k_14, k_15, k_16, k_17, k_18, k_19, k_20, k_21, k_22, k_23, k_24, k_25, k_26, ()), (t2_5, t2_6, (), (), t2_7, t2_8, t2_9, (), (), (), (), (), (), ()), t54, t55, ())
theorem L34_8_s (k : Nat) (j : Nat) (k_14 : Int) (k_15 : Int) (k_16 : List Y3_1) (k_17 : List (PN Int 5)) (k_18 : Bool) (k_19 : Bool) (k_20 : Bool) (k_21 : List Y3_2) (k_22 : List Int) (k_23 : List Bool) (k_24 : List Y3_4) (k_25 : List Int) (k_26 : List Bool) (t2_5 : Int) (t2_6 : Int) (t2_7 : Bool) (t2_8 : Bool) (t2_9 : Bool) (t54 : Int) (t55 : Int) : L34_8 k (j + 1) k_14 k_15 k_16 k_17 k_18 k_19 k_20 k_21 k_22 k_23 k_24 k_25 k_26 t2_5 t2_6 t2_7 t2_8 t2_9 t54 t55 = l34_8 k (L34_8 k j) k_14 k_15 k_16 k_17 k_18 k_19 k_20 k_21 k_22 k_23 k_24 k_25 k_26 t2_5 t2_6 t2_7 t2_8 t2_9 t54 t55 := iter_succ _ _ _ _
noncomputable abbrev c34_L3 : Cut := ⟨[1, 2, 21, 22], [.box 37 [.cell (.int .i64), .cell (.int .i64), .own 77 Y3_10, .own 96 (arrT 5 (.int .i64)), .cell .bool, .cell .bool, .cell .bool, .own 94 Y3_9, .cell (.sl 3 (.int .i64)), .cell (.sl 4 .bool), .cell Y3_7, .cell (.sl 3 (.int .i64)), .cell (.sl 4 .bool)], .box 37 [.cell (.int .i64), .cell (.int .i64), .nil, .nil, .cell .bool, .cell .bool, .cell .bool, .nil, .nil, .nil, .nil, .nil, .nil], .cell (.int .i64), .cell (.int .i64)], [], 77, [(20, 1)]⟩
noncomputable def l34_3 (k : Nat) (g3 : Y3_14) (k_1 : Int) (k_2 : Int) (k_3 : List Y3_1) (k_4 : List (PN Int 5)) (k_5 : Bool) (k_6 : Bool) (k_7 : Bool) (k_8 : List Y3_2) (k_9 : List Int) (k_10 : List Bool) (k_11 : List Y3_4) (k_12 : List Int) (k_13 : List Bool) (t2 : Int) (t2_1 : Int) (t2_2 : Bool) (t2_3 : Bool) (t2_4 : Bool) (t21 : Int) (t22 : Int) : Option (Y3_0 × Unit) :=
 (bif decide (t22 < t21) then
  ix k_3 t22 <|
  (S80 k (rd k_3 t22 (0, 0, 0, [], [], [])).2.2.2.1).bind fun q3 =>
  (S80 k (rd k_3 t22 (0, 0, 0, [], [], [])).2.2.2.2.1).bind fun q4 =>
  (S80 k (rd k_3 t22 (0, 0, 0, [], [], [])).2.2.2.2.2).bind fun q5 =>
  ix k_3 t22 <|
  ix (upd k_3 t22 ((rd k_3 t22 (0, 0, 0, [], [], [])).1, (rd k_3 t22 (0, 0, 0, [], [], [])).2.1, (rd k_3 t22 (0, 0, 0, [], [], [])).2.2.1, q3.1.1, (rd k_3 t22 (0, 0, 0, [], [], [])).2.2.2.2)) t22 <|
  let r6 : List Y3_1 := upd (upd k_3 t22 ((rd k_3 t22 (0, 0, 0, [], [], [])).1, (rd k_3 t22 (0, 0, 0, [], [], [])).2.1, (rd k_3 t22 (0, 0, 0, [], [], [])).2.2.1, q3.1.1, (rd k_3 t22 (0, 0, 0, [], [], [])).2.2.2.2)) t22 ((rd (upd k_3 t22 ((rd k_3 t22 (0, 0, 0, [], [], [])).1, (rd k_3 t22 (0, 0, 0, [], [], [])).2.1, (rd k_3 t22 (0, 0, 0, [], [], [])).2.2.1, q3.1.1, (rd k_3 t22 (0, 0, 0, [], [], [])).2.2.2.2)) t22 (0, 0, 0, [], [], [])).1, (rd (upd k_3 t22 ((rd k_3 t22 (0, 0, 0, [], [], [])).1, (rd k_3 t22 (0, 0, 0, [], [], [])).2.1, (rd k_3 t22 (0, 0, 0, [], [], [])).2.2.1, q3.1.1, (rd k_3 t22 (0, 0, 0, [], [], [])).2.2.2.2)) t22 (0, 0, 0, [], [], [])).2.1, (rd (upd k_3 t22 ((rd k_3 t22 (0, 0, 0, [], [], [])).1, (rd k_3 t22 (0, 0, 0, [], [], [])).2.1, (rd k_3 t22 (0, 0, 0, [], [], [])).2.2.1, q3.1.1, (rd k_3 t22 (0, 0, 0, [], [], [])).2.2.2.2)) t22 (0, 0, 0, [], [], [])).2.2.1, (rd (upd k_3 t22 ((rd k_3 t22 (0, 0, 0, [], [], [])).1, (rd k_3 t22 (0, 0, 0, [], [], [])).2.1, (rd k_3 t22 (0, 0, 0, [], [], [])).2.2.1, q3.1.1, (rd k_3 t22 (0, 0, 0, [], [], [])).2.2.2.2)) t22 (0, 0, 0, [], [], [])).2.2.2.1, q4.1.1, (rd (upd k_3 t22 ((rd k_3 t22 (0, 0, 0, [], [], [])).1, (rd k_3 t22 (0, 0, 0, [], [], [])).2.1, (rd k_3 t22 (0, 0, 0, [], [], [])).2.2.1, q3.1.1, (rd k_3 t22 (0, 0, 0, [], [], [])).2.2.2.2)) t22 (0, 0, 0, [], [], [])).2.2.2.2.2)
  ix r6 t22 <|
  g3 k_1 k_2 (upd r6 t22 ((rd r6 t22 (0, 0, 0, [], [], [])).1, (rd r6 t22 (0, 0, 0, [], [], [])).2.1, (rd r6 t22 (0, 0, 0, [], [], [])).2.2.1, (rd r6 t22 (0, 0, 0, [], [], [])).2.2.2.1, (rd r6 t22 (0, 0, 0, [], [], [])).2.2.2.2.1, q5.1.1)) k_4 k_5 k_6 k_7 k_8 k_9 k_10 k_11 k_12 k_13 t2 t2_1 t2_2 t2_3 t2_4 t21 (IntKind.i64.wrap (t22 + 1))
 else
  L34_8 k k k_1 k_2 k_3 k_4 k_5 k_6 k_7 k_8 k_9 k_10 k_11 k_12 k_13 t2 t2_1 t2_2 t2_3 t2_4 (k_8.length : Int) 0)
noncomputable def b34_3 (k : Nat) (g : ((Unit) × Y3_8 × Y3_11 × Int × Int × Unit) → Option (Y3_0 × Unit)) (d : (Unit) × Y3_8 × Y3_11 × Int × Int × Unit) : Option (Y3_0 × Unit) := l34_3 k (fun k_1 k_2 k_3 k_4 k_5 k_6 k_7 k_8 k_9 k_10 k_11 k_12 k_13 t2 t2_1 t2_2 t2_3 t2_4 t21 t22 => g ((), (k_1, k_2, k_3, k_4, k_5, k_6, k_7, k_8, k_9, k_10, k_11, k_12, k_13, ()), (t2, t2_1, (), (), t2_2, t2_3, t2_4, (), (), (), (), (), (), ()), t21, t22, ())) d.2.1.1 d.2.1.2.1 d.2.1.2.2.1 d.2.1.2.2.2.1 d.2.1.2.2.2.2.1 d.2.1.2.2.2.2.2.1 d.2.1.2.2.2.2.2.2.1 d.2.1.2.2.2.2.2.2.2.1 d.2.1.2.2.2.2.2.2.2.2.1 d.2.1.2.2.2.2.2.2.2.2.2.1 d.2.1.2.2.2.2.2.2.2.2.2.2.1 d.2.1.2.2.2.2.2.2.2.2.2.2.2.1 d.2.1.2.2.2.2.2.2.2.2.2.2.2.2.1 d.2.2.1.1 d.2.2.1.2.1 d.2.2.1.2.2.2.2.1 d.2.2.1.2.2.2.2.2.1 d.2.2.1.2.2.2.2.2.2.1 d.2.2.2.1 d.2.2.2.2.1
noncomputable def L34_3 (k : Nat) (j : Nat) (k_1 : Int) (k_2 : Int) (k_3 : List Y3_1) (k_4 : List (PN Int 5)) (k_5 : Bool) (k_6 : Bool) (k_7 : Bool) (k_8 : List Y3_2) (k_9 : List Int) (k_10 : List Bool) (k_11 : List Y3_4) (k_12 : List Int) (k_13 : List Bool) (t2 : Int) (t2_1 : Int) (t2_2 : Bool) (t2_3 : Bool) (t2_4 : Bool) (t21 : Int) (t22 : Int) : Option (Y3_0 × Unit) := iter (R := Y3_0 × Unit) c34_L3 (b34_3 k) j ((), (k_1, k_2, k_3, k_4, k_5, k_6, k_7, k_8, k_9, k_10, k_11, k_12, k_13, ()), (t2, t2_1, (), (), t2_2, t2_3, t2_4, (), (), (), (), (), (), ()), t21, t22, ())
theorem L34_3_s (k : Nat) (j : Nat) (k_1 : Int) (k_2 : Int) (k_3 : List Y3_1) (k_4 : List (PN Int 5)) (k_5 : Bool) (k_6 : Bool) (k_7 : Bool) (k_8 : List Y3_2) (k_9 : List Int) (k_10 : List Bool) (k_11 : List Y3_4) (k_12 : List Int) (k_13 : List Bool) (t2 : Int) (t2_1 : Int) (t2_2 : Bool) (t2_3 : Bool) (t2_4 : Bool) (t21 : Int) (t22 : Int) : L34_3 k (j + 1) k_1 k_2 k_3 k_4 k_5 k_6 k_7 k_8 k_9 k_10 k_11 k_12 k_13 t2 t2_1 t2_2 t2_3 t2_4 t21 t22 = l34_3 k (L34_3 k j) k_1 k_2 k_3 k_4 k_5 k_6 k_7 k_8 k_9 k_10 k_11 k_12 k_13 t2 t2_1 t2_2 t2_3 t2_4 t21 t22 := iter_succ _ _ _ _
noncomputable def S34 (k : Nat) (k_ : Y3_18) : Option (Y3_0 × Unit) :=
 (S77 k k_.2.2.1).bind fun q0 =>
 (S78 k k_.2.2.2.1).bind fun q1 =>
 (S79 k k_.2.2.2.2.2.2.2.1).bind fun q2 =>
 L34_3 k k k_.1 k_.2.1 q0.1.1 q1.1.1 k_.2.2.2.2.1 k_.2.2.2.2.2.1 k_.2.2.2.2.2.2.1 q2.1.1 k_.2.2.2.2.2.2.2.2.1.1.1 k_.2.2.2.2.2.2.2.2.1.1.2 k_.2.2.2.2.2.2.2.2.1.2 k_.2.2.2.2.2.2.2.2.2.1 k_.2.2.2.2.2.2.2.2.2.2 0 0 false false false (q0.1.1.length : Int) 0
noncomputable def E34 : Env := tab.env (lk [(77, F77), (78, F78), (79, F79), (80, F80), (81, F81), (82, F82), (83, F83)]) (hintL [])
theorem E34_ok : EnvOK Tryz.prog E34 := envOK_of tabOK _ _ (allFn_lk (l := [(77, F77), (78, F78), (79, F79), (80, F80), (81, F81), (82, F82), (83, F83)]) ⟨ok77, ok78, ok79, ok80, ok81, ok82, ok83, trivial⟩)
noncomputable def B34 (k : Nat) : Tbl (RD R34 × MD P34) := (.loop 8 c34_L8 (b34_8 k) (fun g => .nil) (.loop 3 c34_L3 (b34_3 k) (fun g => .nil) .nil))
noncomputable def F34 : Fn := ⟨P34, R34, fun k x => S34 k x.1⟩
theorem ok34 : FnOK Tryz.prog 34 F34 := evalF_ok (E := E34) (T := B34) E34_ok mix Tryz.func34 rfl (by kernel_rfl) (by kernel_rfl) (fun k => by kernel_rfl) (fun k x => by kernel_rfl)
noncomputable abbrev P73 : List PT := [.val ⟨true, (.pair (.pair (.sl 3 (.int .i64)) (.sl 4 .bool)) Y3_7), false⟩]
noncomputable abbrev R73 : List RT := [.val ⟨false, (.sl 3 (.int .i64)), true⟩]
noncomputable abbrev c73_L2 : Cut := ⟨[2, 6, 7, 8], [.own 3 (.int .i64), .cell Y3_7, .cell (.int .i64), .cell (.int .i64)], [], 22, []⟩
noncomputable def l73_2 (k : Nat) (g2 : (List Int) → (List Y3_4) → Int → Int → Option Y3_19) (out : List Int) (t6 : List Y3_4) (t7 : Int) (t8 : Int) : Option Y3_19 :=
 (bif decide (t8 < t7) then
  ix t6 t8 <|
  (bif (rd t6 t8 (0, (0, 0), (0, 0), ([], []), (0, []), 0)).1 == 1 then
   ap out ([t8] : List Int) 8 fun r0 =>
   g2 r0 t6 t7 (IntKind.i64.wrap (t8 + 1))
  else
   g2 out t6 t7 (IntKind.i64.wrap (t8 + 1)))
 else
  some ((out, ()), ()))
noncomputable def b73_2 (k : Nat) (g : ((Unit) × (List Int) × (List Y3_4) × Int × Int × Unit) → Option Y3_19) (d : (Unit) × (List Int) × (List Y3_4) × Int × Int × Unit) : Option Y3_19 := l73_2 k (fun out t6 t7 t8 => g ((), out, t6, t7, t8, ())) d.2.1 d.2.2.1 d.2.2.2.1 d.2.2.2.2.1
noncomputable def L73_2 (k : Nat) (j : Nat) (out : List Int) (t6 : List Y3_4) (t7 : Int) (t8 : Int) : Option Y3_19 := iter (R := ((List Int) × Unit) × Unit) c73_L2 (b73_2 k) j ((), out, t6, t7, t8, ())
theorem L73_2_s (k : Nat) (j : Nat) (out : List Int) (t6 : List Y3_4) (t7 : Int) (t8 : Int) : L73_2 k (j + 1) out t6 t7 t8 = l73_2 k (L73_2 k j) out t6 t7 t8 := iter_succ _ _ _ _
noncomputable def S73 (k : Nat) (t : ((List Int) × List Bool) × List Y3_4) : Option Y3_19 :=
 L73_2 k k ([] : List Int) t.2 (t.2.length : Int) 0
noncomputable def E73 : Env := tab.env (lk []) (hintL [(2, 2)])
theorem E73_ok : EnvOK Tryz.prog E73 := envOK_of tabOK _ _ (fun f F h => by cases h)
noncomputable def B73 (k : Nat) : Tbl (RD R73 × MD P73) := (.loop 2 c73_L2 (b73_2 k) (fun g => .nil) .nil)
noncomputable def F73 : Fn := ⟨P73, R73, fun k x => S73 k x.1⟩
theorem ok73 : FnOK Tryz.prog 73 F73 := evalF_ok (E := E73) (T := B73) E73_ok mix Tryz.func73 rfl (by kernel_rfl) (by kernel_rfl) (fun k => by kernel_rfl) (fun k x => by kernel_rfl)
noncomputable abbrev P30 : List PT := [.val ⟨true, Y3_5, false⟩]
noncomputable abbrev R30 : List RT := [.val ⟨false, (.sl 114 Y3_15), true⟩]
noncomputable abbrev c30_L2 : Cut := ⟨[1, 2, 7, 8, 9], [.box 37 [.cell (.int .i64), .cell (.int .i64), .cell (.sl 77 Y3_10), .cell (.sl 96 (arrT 5 (.int .i64))), .cell .bool, .cell .bool, .cell .bool, .cell (.sl 94 Y3_9), .cell (.sl 3 (.int .i64)), .cell (.sl 4 .bool), .cell Y3_7, .cell (.sl 3 (.int .i64)), .cell (.sl 4 .bool)], .own 114 Y3_15, .own 3 (.int .i64), .cell (.int .i64), .cell (.int .i64)], [], 25, []⟩
noncomputable def l30_2 (k : Nat) (g2 : Int → Int → (List Y3_1) → (List (PN Int 5)) → Bool → Bool → Bool → (List Y3_2) → (List Int) → (List Bool) → (List Y3_4) → (List Int) → (List Bool) → (List (Int × Int)) → (List Int) → Int → Int → Option (Y3_17 × Unit)) (k_1 : Int) (k_2 : Int) (k_3 : List Y3_1) (k_4 : List (PN Int 5)) (k_5 : Bool) (k_6 : Bool) (k_7 : Bool) (k_8 : List Y3_2) (k_9 : List Int) (k_10 : List Bool) (k_11 : List Y3_4) (k_12 : List Int) (k_13 : List Bool) (out : List (Int × Int)) (t7 : List Int) (t8 : Int) (t9 : Int) : Option (Y3_17 × Unit) :=
 (bif decide (t9 < t8) then
  ix t7 t9 <|
  ix k_11 (rd t7 t9 0) <|
  ap out ([(rd k_11 (rd t7 t9 0) (0, (0, 0), (0, 0), ([], []), (0, []), 0)).2.2.1] : List (Int × Int)) 16 fun r1 =>
  g2 k_1 k_2 k_3 k_4 k_5 k_6 k_7 k_8 k_9 k_10 k_11 k_12 k_13 r1 t7 t8 (IntKind.i64.wrap (t9 + 1))
 else
  some ((out, ()), ()))
noncomputable def b30_2 (k : Nat) (g : ((Unit) × Y3_8 × (List (Int × Int)) × (List Int) × Int × Int × Unit) → Option (Y3_17 × Unit)) (d : (Unit) × Y3_8 × (List (Int × Int)) × (List Int) × Int × Int × Unit) : Option (Y3_17 × Unit) := l30_2 k (fun k_1 k_2 k_3 k_4 k_5 k_6 k_7 k_8 k_9 k_10 k_11 k_12 k_13 out t7 t8 t9 => g ((), (k_1, k_2, k_3, k_4, k_5, k_6, k_7, k_8, k_9, k_10, k_11, k_12, k_13, ()), out, t7, t8, t9, ())) d.2.1.1 d.2.1.2.1 d.2.1.2.2.1 d.2.1.2.2.2.1 d.2.1.2.2.2.2.1 d.2.1.2.2.2.2.2.1 d.2.1.2.2.2.2.2.2.1 d.2.1.2.2.2.2.2.2.2.1 d.2.1.2.2.2.2.2.2.2.2.1 d.2.1.2.2.2.2.2.2.2.2.2.1 d.2.1.2.2.2.2.2.2.2.2.2.2.1 d.2.1.2.2.2.2.2.2.2.2.2.2.2.1 d.2.1.2.2.2.2.2.2.2.2.2.2.2.2.1 d.2.2.1 d.2.2.2.1 d.2.2.2.2.1 d.2.2.2.2.2.1
noncomputable def L30_2 (k : Nat) (j : Nat) (k_1 : Int) (k_2 : Int) (k_3 : List Y3_1) (k_4 : List (PN Int 5)) (k_5 : Bool) (k_6 : Bool) (k_7 : Bool) (k_8 : List Y3_2) (k_9 : List Int) (k_10 : List Bool) (k_11 : List Y3_4) (k_12 : List Int) (k_13 : List Bool) (out : List (Int × Int)) (t7 : List Int) (t8 : Int) (t9 : Int) : Option (Y3_17 × Unit) := iter (R := Y3_17 × Unit) c30_L2 (b30_2 k) j ((), (k_1, k_2, k_3, k_4, k_5, k_6, k_7, k_8, k_9, k_10, k_11, k_12, k_13, ()), out, t7, t8, t9, ())
theorem L30_2_s (k : Nat) (j : Nat) (k_1 : Int) (k_2 : Int) (k_3 : List Y3_1) (k_4 : List (PN Int 5)) (k_5 : Bool) (k_6 : Bool) (k_7 : Bool) (k_8 : List Y3_2) (k_9 : List Int) (k_10 : List Bool) (k_11 : List Y3_4) (k_12 : List Int) (k_13 : List Bool) (out : List (Int × Int)) (t7 : List Int) (t8 : Int) (t9 : Int) : L30_2 k (j + 1) k_1 k_2 k_3 k_4 k_5 k_6 k_7 k_8 k_9 k_10 k_11 k_12 k_13 out t7 t8 t9 = l30_2 k (L30_2 k j) k_1 k_2 k_3 k_4 k_5 k_6 k_7 k_8 k_9 k_10 k_11 k_12 k_13 out t7 t8 t9 := iter_succ _ _ _ _
noncomputable def S30 (k : Nat) (k_ : Y3_18) : Option (Y3_17 × Unit) :=
 (S73 k k_.2.2.2.2.2.2.2.2.1).bind fun q0 =>
 L30_2 k k k_.1 k_.2.1 k_.2.2.1 k_.2.2.2.1 k_.2.2.2.2.1 k_.2.2.2.2.2.1 k_.2.2.2.2.2.2.1 k_.2.2.2.2.2.2.2.1 k_.2.2.2.2.2.2.2.2.1.1.1 k_.2.2.2.2.2.2.2.2.1.1.2 k_.2.2.2.2.2.2.2.2.1.2 k_.2.2.2.2.2.2.2.2.2.1 k_.2.2.2.2.2.2.2.2.2.2 ([] : List (Int × Int)) q0.1.1 (q0.1.1.length : Int) 0
noncomputable def E30 : Env := tab.env (lk [(73, F73)]) (hintL [(2, 2)])
theorem E30_ok : EnvOK Tryz.prog E30 := envOK_of tabOK _ _ (allFn_lk (l := [(73, F73)]) ⟨ok73, trivial⟩)
noncomputable def B30 (k : Nat) : Tbl (RD R30 × MD P30) := (.loop 2 c30_L2 (b30_2 k) (fun g => .nil) .nil)
noncomputable def F30 : Fn := ⟨P30, R30, fun k x => S30 k x.1⟩
theorem ok30 : FnOK Tryz.prog 30 F30 := evalF_ok (E := E30) (T := B30) E30_ok mix Tryz.func30 rfl (by kernel_rfl) (by kernel_rfl) (fun k => by kernel_rfl) (fun k x => by kernel_rfl)
noncomputable abbrev P85 : List PT := [.pv (.nil), .val ⟨false, (.int .i64), false⟩]
noncomputable abbrev R85 : List RT := [.val ⟨false, Y3_3, true⟩]
noncomputable def S85 (k : Nat) (n : Int) : Option Y3_16 :=
 (bif decide (n < 0) then
  none
 else
  (bif decide ((IntKind.i64.wrap (n - 0)) > 0) then
   az ([] : List (Int × Int × Int × Int)) (IntKind.i64.wrap (n - 0)) 32 (0, 0, 0, 0) fun r0 =>
   sx r0 0 0 <|
   some ((r0.take 0, ()), ())
  else
   some (([], ()), ())))
noncomputable def E85 : Env := tab.env (lk []) (hintL [(25, 1)])
theorem E85_ok : EnvOK Tryz.prog E85 := envOK_of tabOK _ _ (fun f F h => by cases h)
noncomputable def B85 (k : Nat) : Tbl (RD R85 × MD P85) := .nil
noncomputable def F85 : Fn := ⟨P85, R85, fun k x => S85 k x.2.1⟩
theorem ok85 : FnOK Tryz.prog 85 F85 := evalF_ok (E := E85) (T := B85) E85_ok mix Tryz.func85 rfl (by kernel_rfl) (by kernel_rfl) (fun k => by kernel_rfl) (fun k x => by kernel_rfl)
noncomputable abbrev P36 : List PT := [.val ⟨false, (.sl 75 Y3_3), false⟩]
noncomputable abbrev R36 : List RT := [.val ⟨false, Y3_3, true⟩]
noncomputable abbrev c36_L11 : Cut := ⟨[6, 25, 26, 27], [.own 87 (.pair (.int .i64) (.pair (.int .i64) Y3_15)), .cell (.sl 75 Y3_3), .cell (.int .i64), .cell (.int .i64)], [], 36, []⟩
noncomputable def l36_11 (k : Nat) (g11 : Y3_6 → (List Y3_6) → Int → Int → Option Y3_16) (newslice : Y3_12) (t25 : List Y3_6) (t26 : Int) (t27 : Int) : Option Y3_16 :=
 (bif decide (t27 < t26) then
  ix t25 t27 <|
  ap newslice (rd t25 t27 []) 32 fun r1 =>
  g11 r1 t25 t26 (IntKind.i64.wrap (t27 + 1))
 else
  some ((newslice, ()), ()))
noncomputable def b36_11 (k : Nat) (g : ((Unit) × Y3_6 × (List Y3_6) × Int × Int × Unit) → Option Y3_16) (d : (Unit) × Y3_6 × (List Y3_6) × Int × Int × Unit) : Option Y3_16 := l36_11 k (fun newslice t25 t26 t27 => g ((), newslice, t25, t26, t27, ())) d.2.1 d.2.2.1 d.2.2.2.1 d.2.2.2.2.1
noncomputable def L36_11 (k : Nat) (j : Nat) (newslice : Y3_12) (t25 : List Y3_6) (t26 : Int) (t27 : Int) : Option Y3_16 := iter (R := (Y3_6 × Unit) × Unit) c36_L11 (b36_11 k) j ((), newslice, t25, t26, t27, ())
theorem L36_11_s (k : Nat) (j : Nat) (newslice : Y3_12) (t25 : List Y3_6) (t26 : Int) (t27 : Int) : L36_11 k (j + 1) newslice t25 t26 t27 = l36_11 k (L36_11 k j) newslice t25 t26 t27 := iter_succ _ _ _ _
noncomputable abbrev c36_L3 : Cut := ⟨[0, 3, 9, 10, 11], [.cell (.sl 75 Y3_3), .cell (.int .i64), .cell (.sl 75 Y3_3), .cell (.int .i64), .cell (.int .i64)], [], 36, []⟩
noncomputable def l36_3 (k : Nat) (g3 : (List Y3_6) → Int → (List Y3_6) → Int → Int → Option Y3_16) (slices1 : List Y3_6) (size : Int) (t9 : List Y3_6) (t10 : Int) (t11 : Int) : Option Y3_16 :=
 (bif decide (t11 < t10) then
  ix t9 t11 <|
  (bif decide ((IntKind.i64.wrap (size + ((rd t9 t11 []).length : Int))) < 0) then
   none
  else
   g3 slices1 (IntKind.i64.wrap (size + ((rd t9 t11 []).length : Int))) t9 t10 (IntKind.i64.wrap (t11 + 1)))
 else
  (S85 k size).bind fun q0 =>
  L36_11 k k q0.1.1 slices1 (slices1.length : Int) 0)
noncomputable def b36_3 (k : Nat) (g : ((Unit) × (List Y3_6) × Int × (List Y3_6) × Int × Int × Unit) → Option Y3_16) (d : (Unit) × (List Y3_6) × Int × (List Y3_6) × Int × Int × Unit) : Option Y3_16 := l36_3 k (fun slices1 size t9 t10 t11 => g ((), slices1, size, t9, t10, t11, ())) d.2.1 d.2.2.1 d.2.2.2.1 d.2.2.2.2.1 d.2.2.2.2.2.1
noncomputable def L36_3 (k : Nat) (j : Nat) (slices1 : List Y3_6) (size : Int) (t9 : List Y3_6) (t10 : Int) (t11 : Int) : Option Y3_16 := iter (R := (Y3_6 × Unit) × Unit) c36_L3 (b36_3 k) j ((), slices1, size, t9, t10, t11, ())
theorem L36_3_s (k : Nat) (j : Nat) (slices1 : List Y3_6) (size : Int) (t9 : List Y3_6) (t10 : Int) (t11 : Int) : L36_3 k (j + 1) slices1 size t9 t10 t11 = l36_3 k (L36_3 k j) slices1 size t9 t10 t11 := iter_succ _ _ _ _
noncomputable def S36 (k : Nat) (slices : List Y3_6) : Option Y3_16 :=
 L36_3 k k slices 0 slices (slices.length : Int) 0
noncomputable def E36 : Env := tab.env (lk [(85, F85)]) (hintL [])
theorem E36_ok : EnvOK Tryz.prog E36 := envOK_of tabOK _ _ (allFn_lk (l := [(85, F85)]) ⟨ok85, trivial⟩)
noncomputable def B36 (k : Nat) : Tbl (RD R36 × MD P36) := (.loop 11 c36_L11 (b36_11 k) (fun g => .nil) (.loop 3 c36_L3 (b36_3 k) (fun g => .nil) .nil))
noncomputable def F36 : Fn := ⟨P36, R36, fun k x => S36 k x.1⟩
theorem ok36 : FnOK Tryz.prog 36 F36 := evalF_ok (E := E36) (T := B36) E36_ok mix Tryz.func36 rfl (by kernel_rfl) (by kernel_rfl) (fun k => by kernel_rfl) (fun k x => by kernel_rfl)
noncomputable abbrev P37 : List PT := [.val ⟨true, (.pair (.int .i64) (.pair (.int .i64) Y3_15)), false⟩, .pv (.ref (.sl 114 Y3_15))]
noncomputable abbrev R37 : List RT := [.val ⟨false, .bool, true⟩]
noncomputable def S37 (k : Nat) (i : Int × Int × Int × Int) (x1 : List (Int × Int)) : Option ((Bool × Unit) × Unit) :=
 (bif i.1 == 9 then
  some ((decide (i.2.1 ≥ (x1.length : Int)), ()), ())
 else
  some ((false, ()), ()))
noncomputable def E37 : Env := tab.env (lk []) (hintL [])
theorem E37_ok : EnvOK Tryz.prog E37 := envOK_of tabOK _ _ (fun f F h => by cases h)
noncomputable def B37 (k : Nat) : Tbl (RD R37 × MD P37) := .nil
noncomputable def F37 : Fn := ⟨P37, R37, fun k x => S37 k x.1 x.2.1⟩
theorem ok37 : FnOK Tryz.prog 37 F37 := evalF_ok (E := E37) (T := B37) E37_ok mix Tryz.func37 rfl (by kernel_rfl) (by kernel_rfl) (fun k => by kernel_rfl) (fun k x => by kernel_rfl)
noncomputable abbrev P84 : List PT := [.val ⟨false, Y3_3, false⟩, .pv (.clo 37 [.ref (.sl 114 Y3_15)])]
noncomputable abbrev R84 : List RT := [.val ⟨false, (.int .i64), true⟩]
noncomputable abbrev c84_L2 : Cut := ⟨[0, 1, 7, 8], [.cell Y3_3, .clo 37 [.ref (.sl 114 Y3_15)], .cell (.int .i64), .cell (.int .i64)], [], 19, []⟩
noncomputable def l84_2 (k : Nat) (g2 : Y3_6 → (List (Int × Int)) → Int → Int → Option Y3_13) (s1 : Y3_12) (f1 : List (Int × Int)) (t7 : Int) (t8 : Int) : Option Y3_13 :=
 (bif decide (t8 < t7) then
  ix s1 t8 <|
  (S37 k (rd s1 t8 (0, 0, 0, 0)) f1).bind fun q0 =>
  (bif q0.1.1 then
   some ((t8, ()), ())
  else
   g2 s1 f1 t7 (IntKind.i64.wrap (t8 + 1)))
 else
  some (((-1), ()), ()))
noncomputable def b84_2 (k : Nat) (g : ((Unit) × Y3_6 × Y3_17 × Int × Int × Unit) → Option Y3_13) (d : (Unit) × Y3_6 × Y3_17 × Int × Int × Unit) : Option Y3_13 := l84_2 k (fun s1 f1 t7 t8 => g ((), s1, (f1, ()), t7, t8, ())) d.2.1 d.2.2.1.1 d.2.2.2.1 d.2.2.2.2.1
noncomputable def L84_2 (k : Nat) (j : Nat) (s1 : Y3_12) (f1 : List (Int × Int)) (t7 : Int) (t8 : Int) : Option Y3_13 := iter (R := (Int × Unit) × Unit) c84_L2 (b84_2 k) j ((), s1, (f1, ()), t7, t8, ())
theorem L84_2_s (k : Nat) (j : Nat) (s1 : Y3_12) (f1 : List (Int × Int)) (t7 : Int) (t8 : Int) : L84_2 k (j + 1) s1 f1 t7 t8 = l84_2 k (L84_2 k j) s1 f1 t7 t8 := iter_succ _ _ _ _
noncomputable def S84 (k : Nat) (s : Y3_12) (f : List (Int × Int)) : Option Y3_13 :=
 L84_2 k k s f (s.length : Int) 0
noncomputable def E84 : Env := tab.env (lk [(37, F37)]) (hintL [])
theorem E84_ok : EnvOK Tryz.prog E84 := envOK_of tabOK _ _ (allFn_lk (l := [(37, F37)]) ⟨ok37, trivial⟩)
noncomputable def B84 (k : Nat) : Tbl (RD R84 × MD P84) := (.loop 2 c84_L2 (b84_2 k) (fun g => .nil) .nil)
noncomputable def F84 : Fn := ⟨P84, R84, fun k x => S84 k x.1 x.2.1.1⟩
theorem ok84 : FnOK Tryz.prog 84 F84 := evalF_ok (E := E84) (T := B84) E84_ok mix Tryz.func84 rfl (by kernel_rfl) (by kernel_rfl) (fun k => by kernel_rfl) (fun k x => by kernel_rfl)
noncomputable abbrev P35 : List PT := [.val ⟨false, Y3_3, false⟩, .pv (.clo 37 [.ref (.sl 114 Y3_15)])]
noncomputable abbrev R35 : List RT := [.val ⟨false, .bool, true⟩]
noncomputable def S35 (k : Nat) (s : Y3_12) (f : List (Int × Int)) : Option ((Bool × Unit) × Unit) :=
 (S84 k s f).bind fun q0 =>
 some ((decide (q0.1.1 ≥ 0), ()), ())
noncomputable def E35 : Env := tab.env (lk [(84, F84)]) (hintL [])
theorem E35_ok : EnvOK Tryz.prog E35 := envOK_of tabOK _ _ (allFn_lk (l := [(84, F84)]) ⟨ok84, trivial⟩)
noncomputable def B35 (k : Nat) : Tbl (RD R35 × MD P35) := .nil
noncomputable def F35 : Fn := ⟨P35, R35, fun k x => S35 k x.1 x.2.1.1⟩
theorem ok35 : FnOK Tryz.prog 35 F35 := evalF_ok (E := E35) (T := B35) E35_ok mix Tryz.func35 rfl (by kernel_rfl) (by kernel_rfl) (fun k => by kernel_rfl) (fun k x => by kernel_rfl)
noncomputable abbrev P88 : List PT := [.val ⟨true, (.pair (.int .i64) (.pair (.int .i64) Y3_15)), false⟩, .pv (.ref (.int .i64))]
noncomputable abbrev R88 : List RT := [.val ⟨false, .bool, true⟩]
noncomputable def S88 (k : Nat) (i : Int × Int × Int × Int) (x1 : Int) : Option ((Bool × Unit) × Unit) :=
 (bif i.1 == 9 then
  some ((i.2.1 == x1, ()), ())
 else
  some ((false, ()), ()))
noncomputable def E88 : Env := tab.env (lk []) (hintL [])
theorem E88_ok : EnvOK Tryz.prog E88 := envOK_of tabOK _ _ (fun f F h => by cases h)
noncomputable def B88 (k : Nat) : Tbl (RD R88 × MD P88) := .nil
noncomputable def F88 : Fn := ⟨P88, R88, fun k x => S88 k x.1 x.2.1⟩
theorem ok88 : FnOK Tryz.prog 88 F88 := evalF_ok (E := E88) (T := B88) E88_ok mix Tryz.func88 rfl (by kernel_rfl) (by kernel_rfl) (fun k => by kernel_rfl) (fun k x => by kernel_rfl)
noncomputable abbrev P84a : List PT := [.val ⟨false, Y3_3, false⟩, .pv (.clo 88 [.ref (.int .i64)])]
noncomputable abbrev R84a : List RT := [.val ⟨false, (.int .i64), true⟩]
noncomputable abbrev c84a_L2 : Cut := ⟨[0, 1, 7, 8], [.cell Y3_3, .clo 88 [.ref (.int .i64)], .cell (.int .i64), .cell (.int .i64)], [], 19, []⟩
noncomputable def l84a_2 (k : Nat) (g2 : Y3_6 → Int → Int → Int → Option Y3_13) (s1 : Y3_12) (f1 : Int) (t7 : Int) (t8 : Int) : Option Y3_13 :=
 (bif decide (t8 < t7) then
  ix s1 t8 <|
  (S88 k (rd s1 t8 (0, 0, 0, 0)) f1).bind fun q0 =>
  (bif q0.1.1 then
   some ((t8, ()), ())
  else
   g2 s1 f1 t7 (IntKind.i64.wrap (t8 + 1)))
 else
  some (((-1), ()), ()))
noncomputable def b84a_2 (k : Nat) (g : ((Unit) × Y3_6 × (Int × Unit) × Int × Int × Unit) → Option Y3_13) (d : (Unit) × Y3_6 × (Int × Unit) × Int × Int × Unit) : Option Y3_13 := l84a_2 k (fun s1 f1 t7 t8 => g ((), s1, (f1, ()), t7, t8, ())) d.2.1 d.2.2.1.1 d.2.2.2.1 d.2.2.2.2.1
noncomputable def L84a_2 (k : Nat) (j : Nat) (s1 : Y3_12) (f1 : Int) (t7 : Int) (t8 : Int) : Option Y3_13 := iter (R := (Int × Unit) × Unit) c84a_L2 (b84a_2 k) j ((), s1, (f1, ()), t7, t8, ())
theorem L84a_2_s (k : Nat) (j : Nat) (s1 : Y3_12) (f1 : Int) (t7 : Int) (t8 : Int) : L84a_2 k (j + 1) s1 f1 t7 t8 = l84a_2 k (L84a_2 k j) s1 f1 t7 t8 := iter_succ _ _ _ _
noncomputable def S84a (k : Nat) (s : Y3_12) (f : Int) : Option Y3_13 :=
 L84a_2 k k s f (s.length : Int) 0
noncomputable def E84a : Env := tab.env (lk [(88, F88)]) (hintL [])
theorem E84a_ok : EnvOK Tryz.prog E84a := envOK_of tabOK _ _ (allFn_lk (l := [(88, F88)]) ⟨ok88, trivial⟩)
noncomputable def B84a (k : Nat) : Tbl (RD R84a × MD P84a) := (.loop 2 c84a_L2 (b84a_2 k) (fun g => .nil) .nil)
noncomputable def F84a : Fn := ⟨P84a, R84a, fun k x => S84a k x.1 x.2.1.1⟩
theorem ok84a : FnOK Tryz.prog 84 F84a := evalF_ok (E := E84a) (T := B84a) E84a_ok mix Tryz.func84 rfl (by kernel_rfl) (by kernel_rfl) (fun k => by kernel_rfl) (fun k x => by kernel_rfl)
noncomputable abbrev P35a : List PT := [.val ⟨false, Y3_3, false⟩, .pv (.clo 88 [.ref (.int .i64)])]
noncomputable abbrev R35a : List RT := [.val ⟨false, .bool, true⟩]
noncomputable def S35a (k : Nat) (s : Y3_12) (f : Int) : Option ((Bool × Unit) × Unit) :=
 (S84a k s f).bind fun q0 =>
 some ((decide (q0.1.1 ≥ 0), ()), ())
noncomputable def E35a : Env := tab.env (lk [(84, F84a)]) (hintL [])
theorem E35a_ok : EnvOK Tryz.prog E35a := envOK_of tabOK _ _ (allFn_lk (l := [(84, F84a)]) ⟨ok84a, trivial⟩)
noncomputable def B35a (k : Nat) : Tbl (RD R35a × MD P35a) := .nil
noncomputable def F35a : Fn := ⟨P35a, R35a, fun k x => S35a k x.1 x.2.1.1⟩
theorem ok35a : FnOK Tryz.prog 35 F35a := evalF_ok (E := E35a) (T := B35a) E35a_ok mix Tryz.func35 rfl (by kernel_rfl) (by kernel_rfl) (fun k => by kernel_rfl) (fun k x => by kernel_rfl)
noncomputable abbrev P87 : List PT := [.val ⟨true, Y3_10, false⟩, .pv (.ref (.int .i64))]
noncomputable abbrev R87 : List RT := [.val ⟨false, .bool, true⟩]
noncomputable def S87 (k : Nat) (t : Int × Int × Int × Y3_6 × Y3_6 × List (Int × Int × Int × Int)) (x1 : Int) : Option ((Bool × Unit) × Unit) :=
 (S36 k ([t.2.2.2.1, t.2.2.2.2.1] : List Y3_6)).bind fun q0 =>
 (S35a k q0.1.1 x1).bind fun q1 =>
 some ((q1.1.1, ()), ())
noncomputable def E87 : Env := tab.env (lk [(35, F35a), (36, F36)]) (hintL [])
theorem E87_ok : EnvOK Tryz.prog E87 := envOK_of tabOK _ _ (allFn_lk (l := [(35, F35a), (36, F36)]) ⟨ok35a, ok36, trivial⟩)
noncomputable def B87 (k : Nat) : Tbl (RD R87 × MD P87) := .nil
noncomputable def F87 : Fn := ⟨P87, R87, fun k x => S87 k x.1 x.2.1⟩
theorem ok87 : FnOK Tryz.prog 87 F87 := evalF_ok (E := E87) (T := B87) E87_ok mix Tryz.func87 rfl (by kernel_rfl) (by kernel_rfl) (fun k => by kernel_rfl) (fun k x => by kernel_rfl)
noncomputable abbrev P86 : List PT := [.val ⟨false, (.sl 77 Y3_10), false⟩, .pv (.clo 87 [.ref (.int .i64)])]
noncomputable abbrev R86 : List RT := [.val ⟨false, (.int .i64), true⟩]
noncomputable abbrev c86_L2 : Cut := ⟨[0, 1, 7, 8], [.cell (.sl 77 Y3_10), .clo 87 [.ref (.int .i64)], .cell (.int .i64), .cell (.int .i64)], [], 19, []⟩
noncomputable def l86_2 (k : Nat) (g2 : (List Y3_1) → Int → Int → Int → Option Y3_13) (s1 : List Y3_1) (f1 : Int) (t7 : Int) (t8 : Int) : Option Y3_13 :=
 (bif decide (t8 < t7) then
  ix s1 t8 <|
  (S87 k (rd s1 t8 (0, 0, 0, [], [], [])) f1).bind fun q0 =>
  (bif q0.1.1 then
   some ((t8, ()), ())
  else
   g2 s1 f1 t7 (IntKind.i64.wrap (t8 + 1)))
 else
  some (((-1), ()), ()))
noncomputable def b86_2 (k : Nat) (g : ((Unit) × (List Y3_1) × (Int × Unit) × Int × Int × Unit) → Option Y3_13) (d : (Unit) × (List Y3_1) × (Int × Unit) × Int × Int × Unit) : Option Y3_13 := l86_2 k (fun s1 f1 t7 t8 => g ((), s1, (f1, ()), t7, t8, ())) d.2.1 d.2.2.1.1 d.2.2.2.1 d.2.2.2.2.1
noncomputable def L86_2 (k : Nat) (j : Nat) (s1 : List Y3_1) (f1 : Int) (t7 : Int) (t8 : Int) : Option Y3_13 := iter (R := (Int × Unit) × Unit) c86_L2 (b86_2 k) j ((), s1, (f1, ()), t7, t8, ())
theorem L86_2_s (k : Nat) (j : Nat) (s1 : List Y3_1) (f1 : Int) (t7 : Int) (t8 : Int) : L86_2 k (j + 1) s1 f1 t7 t8 = l86_2 k (L86_2 k j) s1 f1 t7 t8 := iter_succ _ _ _ _
noncomputable def S86 (k : Nat) (s : List Y3_1) (f : Int) : Option Y3_13 :=
 L86_2 k k s f (s.length : Int) 0
noncomputable def E86 : Env := tab.env (lk [(87, F87)]) (hintL [])
theorem E86_ok : EnvOK Tryz.prog E86 := envOK_of tabOK _ _ (allFn_lk (l := [(87, F87)]) ⟨ok87, trivial⟩)
noncomputable def B86 (k : Nat) : Tbl (RD R86 × MD P86) := (.loop 2 c86_L2 (b86_2 k) (fun g => .nil) .nil)
noncomputable def F86 : Fn := ⟨P86, R86, fun k x => S86 k x.1 x.2.1.1⟩
theorem ok86 : FnOK Tryz.prog 86 F86 := evalF_ok (E := E86) (T := B86) E86_ok mix Tryz.func86 rfl (by kernel_rfl) (by kernel_rfl) (fun k => by kernel_rfl) (fun k x => by kernel_rfl)
end Go.Proofs.YtmmagcjlfcicfaaGreat.Ab
