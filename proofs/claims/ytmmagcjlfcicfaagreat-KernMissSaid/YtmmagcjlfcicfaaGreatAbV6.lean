import Derived.Test.YtmmagcjlfcicfaaGreatAbV5
/- Contracts, printed by this session's own program gen.py. -/
set_option linter.unusedVariables false
set_option linter.unusedSimpArgs false
set_option maxRecDepth 100000
namespace Go.Proofs.YtmmagcjlfcicfaaGreat.Ab
open Go.RowKit
abbrev Y6_0 : Type := Int × Int × (List (Int × Int × Int × (List (Int × Int × Int × Int)) × (List (Int × Int × Int × Int)) × List (Int × Int × Int × Int))) × (List (PN Int 5)) × Bool × Bool × Bool × (List (Int × Int × Int × Int × (Int × (PN Int 8) × (List (Int × Int × Int)) × Bool) × (Int × (PN Int 8) × (List (Int × Int × Int)) × Bool) × (List Int) × Bool)) × (List Int) × (List Bool) × (List (Int × (Int × Int) × (Int × Int) × ((List Int) × List Int) × (Int × List (Int × Int)) × Int)) × (List Int) × (List Bool) × (List (PN Int 6)) × Unit
abbrev Y6_1 : Type := Int × Int × Int × Int × (Int × (PN Int 8) × (List (Int × Int × Int)) × Bool) × (Int × (PN Int 8) × (List (Int × Int × Int)) × Bool) × (List Int) × Bool
abbrev Y6_2 : Ty := .pair (.int .i64) (.pair (.int .i64) (.pair (.int .i64) (.pair (.int .i64) (.pair (.pair (.int .i64) (.pair (arrT 8 (.int .i64)) (.pair (.sl 233 (.pair (.int .i64) (.pair (.int .i64) (.int .i64)))) .bool))) (.pair (.pair (.int .i64) (.pair (arrT 8 (.int .i64)) (.pair (.sl 233 (.pair (.int .i64) (.pair (.int .i64) (.int .i64)))) .bool))) (.pair (.sl 3 (.int .i64)) .bool))))))
abbrev Y6_3 : Ty := .pair (.int .i64) (.pair (.pair (.int .i64) (.int .i64)) (.pair (.pair (.int .i64) (.int .i64)) (.pair (.pair (.sl 2 (.int .i64)) (.sl 3 (.int .i64))) (.pair (.pair (.int .u32) (.sl 297 (.pair (.int .i64) (.int .u32)))) (.int .u32)))))
abbrev Y6_4 : Ty := .pair (.int .i64) (.pair (.int .i64) (.pair (.int .i64) (.pair (.sl 87 (.pair (.int .i64) (.pair (.int .i64) (.pair (.int .i64) (.int .i64))))) (.pair (.sl 87 (.pair (.int .i64) (.pair (.int .i64) (.pair (.int .i64) (.int .i64))))) (.sl 87 (.pair (.int .i64) (.pair (.int .i64) (.pair (.int .i64) (.int .i64)))))))))
abbrev Y6_5 : Type := Int × Int × Int × (List (Int × Int × Int × Int)) × (List (Int × Int × Int × Int)) × List (Int × Int × Int × Int)
abbrev Y6_6 : Type := Int × (Int × Int) × (Int × Int) × ((List Int) × List Int) × (Int × List (Int × Int)) × Int
abbrev Y6_7 : Type := ((List Int) × Unit) × Unit
abbrev Y6_8 : Type := ((Int × List (Int × Int)) × (List Int) × Unit) × Unit
abbrev Y6_9 : Type := (Unit) × Y6_0 × Unit
abbrev Y6_10 : Ty := .sl 3 (.int .i64)
noncomputable abbrev P101 : List PT := [.mbox 150 [.cell (.int .i64), .cell (.int .i64), .own 77 Y6_4, .own 96 (arrT 5 (.int .i64)), .cell .bool, .cell .bool, .cell .bool, .cell (.sl 94 Y6_2), .own 3 (.int .i64), .own 4 .bool, .own 124 Y6_3, .own 3 (.int .i64), .own 4 .bool, .own 82 (arrT 6 (.int .i64))], .val ⟨true, Y6_2, false⟩]
noncomputable abbrev R101 : List RT := []
noncomputable abbrev c101_J7 : Cut := ⟨[0, 6], [.pin false 0, .cell .bool], [.mbox 150 [.cell (.int .i64), .cell (.int .i64), .own 77 Y6_4, .own 96 (arrT 5 (.int .i64)), .cell .bool, .cell .bool, .cell .bool, .cell (.sl 94 Y6_2), .own 3 (.int .i64), .own 4 .bool, .own 124 Y6_3, .own 3 (.int .i64), .own 4 .bool, .own 82 (arrT 6 (.int .i64))]], 55, []⟩
noncomputable def j101_7 (k : Nat) (t14 : Int) (t15 : Int) (t16 : List Y6_5) (t17 : List (PN Int 5)) (t18 : Bool) (t19 : Bool) (t20 : Bool) (t21 : List Y6_1) (t22 : List Int) (t23 : List Bool) (t24 : List Y6_6) (t25 : List Int) (t26 : List Bool) (t27 : List (PN Int 6)) (halted : Bool) : Option Y6_9 :=
 (bif halted then
  (S100 k t14 t15 t16 t17 t18 t19 t20 t21 t22 t23 t24 t25 t26 t27 (0, 10, 0, 0, 0, 0)).bind fun q6 =>
  some ((), (q6.2.1.1, q6.2.1.2.1, q6.2.1.2.2.1, q6.2.1.2.2.2.1, q6.2.1.2.2.2.2.1, true, q6.2.1.2.2.2.2.2.2.1, q6.2.1.2.2.2.2.2.2.2.1, q6.2.1.2.2.2.2.2.2.2.2.1, q6.2.1.2.2.2.2.2.2.2.2.2.1, q6.2.1.2.2.2.2.2.2.2.2.2.2.1, q6.2.1.2.2.2.2.2.2.2.2.2.2.2.1, q6.2.1.2.2.2.2.2.2.2.2.2.2.2.2.1, q6.2.1.2.2.2.2.2.2.2.2.2.2.2.2.2.1, ()), ())
 else
  some ((), (t14, t15, t16, t17, t18, t19, t20, t21, t22, t23, t24, t25, t26, t27, ()), ()))
noncomputable def S101 (k : Nat) (t : Int) (t1 : Int) (t2 : List Y6_5) (t3 : List (PN Int 5)) (t4 : Bool) (t5 : Bool) (t6 : Bool) (t7 : List Y6_1) (t8 : List Int) (t9 : List Bool) (t10 : List Y6_6) (t11 : List Int) (t12 : List Bool) (t13 : List (PN Int 6)) (j_ : Int × Int × Int × Int × (Int × (PN Int 8) × (List (Int × Int × Int)) × Bool) × (Int × (PN Int 8) × (List (Int × Int × Int)) × Bool) × (List Int) × Bool) : Option Y6_9 :=
 (S100 k t t1 t2 t3 t4 t5 t6 t7 t8 t9 t10 t11 t12 t13 (0, 5, j_.1, 0, 0, 0)).bind fun q0 =>
 (S30 k (q0.2.1.1, q0.2.1.2.1, q0.2.1.2.2.1, q0.2.1.2.2.2.1, q0.2.1.2.2.2.2.1, q0.2.1.2.2.2.2.2.1, q0.2.1.2.2.2.2.2.2.1, q0.2.1.2.2.2.2.2.2.2.1, ((q0.2.1.2.2.2.2.2.2.2.2.1, q0.2.1.2.2.2.2.2.2.2.2.2.1), q0.2.1.2.2.2.2.2.2.2.2.2.2.1), q0.2.1.2.2.2.2.2.2.2.2.2.2.2.1, q0.2.1.2.2.2.2.2.2.2.2.2.2.2.2.1)).bind fun q1 =>
 (S154 k q1.1.1 j_.1).bind fun q2 =>
 (S39a k q0.2.1.1 q0.2.1.2.1 q0.2.1.2.2.1 q0.2.1.2.2.2.1 q0.2.1.2.2.2.2.1 q0.2.1.2.2.2.2.2.1 q0.2.1.2.2.2.2.2.2.1 q0.2.1.2.2.2.2.2.2.2.1 q0.2.1.2.2.2.2.2.2.2.2.1 q0.2.1.2.2.2.2.2.2.2.2.2.1 q0.2.1.2.2.2.2.2.2.2.2.2.2.1 q0.2.1.2.2.2.2.2.2.2.2.2.2.2.1 q0.2.1.2.2.2.2.2.2.2.2.2.2.2.2.1 q0.2.1.2.2.2.2.2.2.2.2.2.2.2.2.2.1 q2.1.1).bind fun q3 =>
 (S155 k (q3.2.1.2.2.2.2.2.2.2.2.2.2.2.1, q3.2.1.2.2.2.2.2.2.2.2.2.2.2.2.1) j_.1).bind fun q4 =>
 (bif q4.1.2.1 then
  (S100 k q3.2.1.1 q3.2.1.2.1 q3.2.1.2.2.1 q3.2.1.2.2.2.1 q3.2.1.2.2.2.2.1 q3.2.1.2.2.2.2.2.1 q3.2.1.2.2.2.2.2.2.1 q3.2.1.2.2.2.2.2.2.2.1 q3.2.1.2.2.2.2.2.2.2.2.1 q3.2.1.2.2.2.2.2.2.2.2.2.1 q3.2.1.2.2.2.2.2.2.2.2.2.2.1 q4.1.1.1 q4.1.1.2 q3.2.1.2.2.2.2.2.2.2.2.2.2.2.2.2.1 (0, 9, j_.1, 0, 0, 0)).bind fun q5 =>
  j101_7 k q5.2.1.1 q5.2.1.2.1 q5.2.1.2.2.1 q5.2.1.2.2.2.1 q5.2.1.2.2.2.2.1 q5.2.1.2.2.2.2.2.1 q5.2.1.2.2.2.2.2.2.1 q5.2.1.2.2.2.2.2.2.2.1 q5.2.1.2.2.2.2.2.2.2.2.1 q5.2.1.2.2.2.2.2.2.2.2.2.1 q5.2.1.2.2.2.2.2.2.2.2.2.2.1 q5.2.1.2.2.2.2.2.2.2.2.2.2.2.1 q5.2.1.2.2.2.2.2.2.2.2.2.2.2.2.1 q5.2.1.2.2.2.2.2.2.2.2.2.2.2.2.2.1 q4.1.2.2.1
 else
  j101_7 k q3.2.1.1 q3.2.1.2.1 q3.2.1.2.2.1 q3.2.1.2.2.2.1 q3.2.1.2.2.2.2.1 q3.2.1.2.2.2.2.2.1 q3.2.1.2.2.2.2.2.2.1 q3.2.1.2.2.2.2.2.2.2.1 q3.2.1.2.2.2.2.2.2.2.2.1 q3.2.1.2.2.2.2.2.2.2.2.2.1 q3.2.1.2.2.2.2.2.2.2.2.2.2.1 q4.1.1.1 q4.1.1.2 q3.2.1.2.2.2.2.2.2.2.2.2.2.2.2.2.1 q4.1.2.2.1)
noncomputable def E101 : Env := tab.env (lk [(30, F30), (39, F39a), (100, F100), (154, F154), (155, F155)]) (hintL [])
theorem E101_ok : EnvOK Tryz.prog E101 := envOK_of tabOK _ _ (allFn_lk (l := [(30, F30), (39, F39a), (100, F100), (154, F154), (155, F155)]) ⟨ok30, ok39a, ok100, ok154, ok155, trivial⟩)
noncomputable def B101 (k : Nat) : Tbl (RD R101 × MD P101) := (.join 7 c101_J7 (fun d => j101_7 k d.1.1.1 d.1.1.2.1 d.1.1.2.2.1 d.1.1.2.2.2.1 d.1.1.2.2.2.2.1 d.1.1.2.2.2.2.2.1 d.1.1.2.2.2.2.2.2.1 d.1.1.2.2.2.2.2.2.2.1 d.1.1.2.2.2.2.2.2.2.2.1 d.1.1.2.2.2.2.2.2.2.2.2.1 d.1.1.2.2.2.2.2.2.2.2.2.2.1 d.1.1.2.2.2.2.2.2.2.2.2.2.2.1 d.1.1.2.2.2.2.2.2.2.2.2.2.2.2.1 d.1.1.2.2.2.2.2.2.2.2.2.2.2.2.2.1 d.2.2.1) .nil)
noncomputable def F101 : Fn := ⟨P101, R101, fun k x => S101 k x.1.1 x.1.2.1 x.1.2.2.1 x.1.2.2.2.1 x.1.2.2.2.2.1 x.1.2.2.2.2.2.1 x.1.2.2.2.2.2.2.1 x.1.2.2.2.2.2.2.2.1 x.1.2.2.2.2.2.2.2.2.1 x.1.2.2.2.2.2.2.2.2.2.1 x.1.2.2.2.2.2.2.2.2.2.2.1 x.1.2.2.2.2.2.2.2.2.2.2.2.1 x.1.2.2.2.2.2.2.2.2.2.2.2.2.1 x.1.2.2.2.2.2.2.2.2.2.2.2.2.2.1 x.2.1⟩
theorem ok101 : FnOK Tryz.prog 101 F101 := evalF_ok (E := E101) (T := B101) E101_ok mix Tryz.func101 rfl (by kernel_rfl) (by kernel_rfl) (fun k => by kernel_rfl) (fun k x => by kernel_rfl)
noncomputable abbrev P56 : List PT := [.mbox 150 [.cell (.int .i64), .cell (.int .i64), .own 77 Y6_4, .own 96 (arrT 5 (.int .i64)), .cell .bool, .cell .bool, .cell .bool, .own 94 Y6_2, .own 3 (.int .i64), .own 4 .bool, .own 124 Y6_3, .own 3 (.int .i64), .own 4 .bool, .own 82 (arrT 6 (.int .i64))]]
noncomputable abbrev R56 : List RT := []
noncomputable abbrev c56_L2 : Cut := ⟨[0, 2, 9, 10, 11], [.pin false 0, .own 94 Y6_2, .cell (.sl 94 Y6_2), .cell (.int .i64), .cell (.int .i64)], [.mbox 150 [.cell (.int .i64), .cell (.int .i64), .own 77 Y6_4, .own 96 (arrT 5 (.int .i64)), .cell .bool, .cell .bool, .cell .bool, .cell (.sl 94 Y6_2), .own 3 (.int .i64), .own 4 .bool, .own 124 Y6_3, .own 3 (.int .i64), .own 4 .bool, .own 82 (arrT 6 (.int .i64))]], 57, []⟩
noncomputable def l56_2 (k : Nat) (g2 : Int → Int → (List Y6_5) → (List (PN Int 5)) → Bool → Bool → Bool → (List Y6_1) → (List Int) → (List Bool) → (List Y6_6) → (List Int) → (List Bool) → (List (PN Int 6)) → (List Y6_1) → (List Y6_1) → Int → Int → Option Y6_9) (t14 : Int) (t15 : Int) (t16 : List Y6_5) (t17 : List (PN Int 5)) (t18 : Bool) (t19 : Bool) (t20 : Bool) (t21 : List Y6_1) (t22 : List Int) (t23 : List Bool) (t24 : List Y6_6) (t25 : List Int) (t26 : List Bool) (t27 : List (PN Int 6)) (left : List Y6_1) (t9_1 : List Y6_1) (t10_1 : Int) (t11_1 : Int) : Option Y6_9 :=
 (bif decide (t11_1 < t10_1) then
  ix t9_1 t11_1 <|
  ix t16 (rd t9_1 t11_1 (0, 0, 0, 0, (0, prep (α := Int) 8 0, [], false), (0, prep (α := Int) 8 0, [], false), [], false)).1 <|
  (bif (IntKind.i64.wrap (t14 - (rd t9_1 t11_1 (0, 0, 0, 0, (0, prep (α := Int) 8 0, [], false), (0, prep (α := Int) 8 0, [], false), [], false)).2.1)) != (rd t16 (rd t9_1 t11_1 (0, 0, 0, 0, (0, prep (α := Int) 8 0, [], false), (0, prep (α := Int) 8 0, [], false), [], false)).1 (0, 0, 0, [], [], [])).2.2.1 then
   ap left ([rd t9_1 t11_1 (0, 0, 0, 0, (0, prep (α := Int) 8 0, [], false), (0, prep (α := Int) 8 0, [], false), [], false)] : List Y6_1) 272 fun r0 =>
   g2 t14 t15 t16 t17 t18 t19 t20 t21 t22 t23 t24 t25 t26 t27 r0 t9_1 t10_1 (IntKind.i64.wrap (t11_1 + 1))
  else
   (bif (rd t9_1 t11_1 (0, 0, 0, 0, (0, prep (α := Int) 8 0, [], false), (0, prep (α := Int) 8 0, [], false), [], false)).2.2.2.1 == 2 then
    (S100 k t14 t15 t16 t17 t18 t19 t20 t21 t22 t23 t24 t25 t26 t27 (0, 13, (rd t9_1 t11_1 (0, 0, 0, 0, (0, prep (α := Int) 8 0, [], false), (0, prep (α := Int) 8 0, [], false), [], false)).1, 0, 0, 0)).bind fun q1 =>
    g2 q1.2.1.1 q1.2.1.2.1 q1.2.1.2.2.1 q1.2.1.2.2.2.1 q1.2.1.2.2.2.2.1 q1.2.1.2.2.2.2.2.1 q1.2.1.2.2.2.2.2.2.1 q1.2.1.2.2.2.2.2.2.2.1 q1.2.1.2.2.2.2.2.2.2.2.1 q1.2.1.2.2.2.2.2.2.2.2.2.1 q1.2.1.2.2.2.2.2.2.2.2.2.2.1 q1.2.1.2.2.2.2.2.2.2.2.2.2.2.1 q1.2.1.2.2.2.2.2.2.2.2.2.2.2.2.1 q1.2.1.2.2.2.2.2.2.2.2.2.2.2.2.2.1 left t9_1 t10_1 (IntKind.i64.wrap (t11_1 + 1))
   else
    (S101 k t14 t15 t16 t17 t18 t19 t20 t21 t22 t23 t24 t25 t26 t27 (rd t9_1 t11_1 (0, 0, 0, 0, (0, prep (α := Int) 8 0, [], false), (0, prep (α := Int) 8 0, [], false), [], false))).bind fun q2 =>
    g2 q2.2.1.1 q2.2.1.2.1 q2.2.1.2.2.1 q2.2.1.2.2.2.1 q2.2.1.2.2.2.2.1 q2.2.1.2.2.2.2.2.1 q2.2.1.2.2.2.2.2.2.1 q2.2.1.2.2.2.2.2.2.2.1 q2.2.1.2.2.2.2.2.2.2.2.1 q2.2.1.2.2.2.2.2.2.2.2.2.1 q2.2.1.2.2.2.2.2.2.2.2.2.2.1 q2.2.1.2.2.2.2.2.2.2.2.2.2.2.1 q2.2.1.2.2.2.2.2.2.2.2.2.2.2.2.1 q2.2.1.2.2.2.2.2.2.2.2.2.2.2.2.2.1 left t9_1 t10_1 (IntKind.i64.wrap (t11_1 + 1))))
 else
  some ((), (t14, t15, t16, t17, t18, t19, t20, left, t22, t23, t24, t25, t26, t27, ()), ()))
noncomputable def b56_2 (k : Nat) (g : ((Y6_0 × Unit) × Unit × (List Y6_1) × (List Y6_1) × Int × Int × Unit) → Option Y6_9) (d : (Y6_0 × Unit) × Unit × (List Y6_1) × (List Y6_1) × Int × Int × Unit) : Option Y6_9 := l56_2 k (fun t14 t15 t16 t17 t18 t19 t20 t21 t22 t23 t24 t25 t26 t27 left t9_1 t10_1 t11_1 => g (((t14, t15, t16, t17, t18, t19, t20, t21, t22, t23, t24, t25, t26, t27, ()), ()), (), left, t9_1, t10_1, t11_1, ())) d.1.1.1 d.1.1.2.1 d.1.1.2.2.1 d.1.1.2.2.2.1 d.1.1.2.2.2.2.1 d.1.1.2.2.2.2.2.1 d.1.1.2.2.2.2.2.2.1 d.1.1.2.2.2.2.2.2.2.1 d.1.1.2.2.2.2.2.2.2.2.1 d.1.1.2.2.2.2.2.2.2.2.2.1 d.1.1.2.2.2.2.2.2.2.2.2.2.1 d.1.1.2.2.2.2.2.2.2.2.2.2.2.1 d.1.1.2.2.2.2.2.2.2.2.2.2.2.2.1 d.1.1.2.2.2.2.2.2.2.2.2.2.2.2.2.1 d.2.2.1 d.2.2.2.1 d.2.2.2.2.1 d.2.2.2.2.2.1
noncomputable def L56_2 (k : Nat) (j : Nat) (t14 : Int) (t15 : Int) (t16 : List Y6_5) (t17 : List (PN Int 5)) (t18 : Bool) (t19 : Bool) (t20 : Bool) (t21 : List Y6_1) (t22 : List Int) (t23 : List Bool) (t24 : List Y6_6) (t25 : List Int) (t26 : List Bool) (t27 : List (PN Int 6)) (left : List Y6_1) (t9_1 : List Y6_1) (t10_1 : Int) (t11_1 : Int) : Option Y6_9 := iter (R := (Unit) × Y6_0 × Unit) c56_L2 (b56_2 k) j (((t14, t15, t16, t17, t18, t19, t20, t21, t22, t23, t24, t25, t26, t27, ()), ()), (), left, t9_1, t10_1, t11_1, ())
theorem L56_2_s (k : Nat) (j : Nat) (t14 : Int) (t15 : Int) (t16 : List Y6_5) (t17 : List (PN Int 5)) (t18 : Bool) (t19 : Bool) (t20 : Bool) (t21 : List Y6_1) (t22 : List Int) (t23 : List Bool) (t24 : List Y6_6) (t25 : List Int) (t26 : List Bool) (t27 : List (PN Int 6)) (left : List Y6_1) (t9_1 : List Y6_1) (t10_1 : Int) (t11_1 : Int) : L56_2 k (j + 1) t14 t15 t16 t17 t18 t19 t20 t21 t22 t23 t24 t25 t26 t27 left t9_1 t10_1 t11_1 = l56_2 k (L56_2 k j) t14 t15 t16 t17 t18 t19 t20 t21 t22 t23 t24 t25 t26 t27 left t9_1 t10_1 t11_1 := iter_succ _ _ _ _
noncomputable def S56 (k : Nat) (t : Int) (t1 : Int) (t2 : List Y6_5) (t3 : List (PN Int 5)) (t4 : Bool) (t5 : Bool) (t6 : Bool) (t7 : List Y6_1) (t8 : List Int) (t9 : List Bool) (t10 : List Y6_6) (t11 : List Int) (t12 : List Bool) (t13 : List (PN Int 6)) : Option Y6_9 :=
 L56_2 k k t t1 t2 t3 t4 t5 t6 t7 t8 t9 t10 t11 t12 t13 ([] : List Y6_1) t7 (t7.length : Int) 0
noncomputable def E56 : Env := tab.env (lk [(100, F100), (101, F101)]) (hintL [(2, 2)])
theorem E56_ok : EnvOK Tryz.prog E56 := envOK_of tabOK _ _ (allFn_lk (l := [(100, F100), (101, F101)]) ⟨ok100, ok101, trivial⟩)
noncomputable def B56 (k : Nat) : Tbl (RD R56 × MD P56) := (.loop 2 c56_L2 (b56_2 k) (fun g => .nil) .nil)
noncomputable def F56 : Fn := ⟨P56, R56, fun k x => S56 k x.1.1 x.1.2.1 x.1.2.2.1 x.1.2.2.2.1 x.1.2.2.2.2.1 x.1.2.2.2.2.2.1 x.1.2.2.2.2.2.2.1 x.1.2.2.2.2.2.2.2.1 x.1.2.2.2.2.2.2.2.2.1 x.1.2.2.2.2.2.2.2.2.2.1 x.1.2.2.2.2.2.2.2.2.2.2.1 x.1.2.2.2.2.2.2.2.2.2.2.2.1 x.1.2.2.2.2.2.2.2.2.2.2.2.2.1 x.1.2.2.2.2.2.2.2.2.2.2.2.2.2.1⟩
theorem ok56 : FnOK Tryz.prog 56 F56 := evalF_ok (E := E56) (T := B56) E56_ok mix Tryz.func56 rfl (by kernel_rfl) (by kernel_rfl) (fun k => by kernel_rfl) (fun k x => by kernel_rfl)
noncomputable abbrev P57 : List PT := [.mbox 150 [.cell (.int .i64), .cell (.int .i64), .own 77 Y6_4, .own 96 (arrT 5 (.int .i64)), .cell .bool, .cell .bool, .cell .bool, .own 94 Y6_2, .own 3 (.int .i64), .own 4 .bool, .own 124 Y6_3, .own 3 (.int .i64), .own 4 .bool, .own 82 (arrT 6 (.int .i64))]]
noncomputable abbrev R57 : List RT := []
noncomputable abbrev c57_L1 : Cut := ⟨[0, 9, 10], [.pin false 0, .cell (.int .i64), .cell (.int .i64)], [.mbox 150 [.cell (.int .i64), .cell (.int .i64), .own 77 Y6_4, .own 96 (arrT 5 (.int .i64)), .cell .bool, .cell .bool, .cell .bool, .own 94 Y6_2, .own 3 (.int .i64), .own 4 .bool, .own 124 Y6_3, .own 3 (.int .i64), .own 4 .bool, .own 82 (arrT 6 (.int .i64))]], 48, [(8, 3)]⟩
noncomputable def l57_1 (k : Nat) (g1 : Int → Int → (List Y6_5) → (List (PN Int 5)) → Bool → Bool → Bool → (List Y6_1) → (List Int) → (List Bool) → (List Y6_6) → (List Int) → (List Bool) → (List (PN Int 6)) → Int → Int → Option Y6_9) (t14 : Int) (t15 : Int) (t16 : List Y6_5) (t17 : List (PN Int 5)) (t18 : Bool) (t19 : Bool) (t20 : Bool) (t21 : List Y6_1) (t22 : List Int) (t23 : List Bool) (t24 : List Y6_6) (t25 : List Int) (t26 : List Bool) (t27 : List (PN Int 6)) (t9_1 : Int) (t10_1 : Int) : Option Y6_9 :=
 (bif decide (t10_1 < t9_1) then
  ix t21 t10_1 <|
  (bif (rd t21 t10_1 (0, 0, 0, 0, (0, prep (α := Int) 8 0, [], false), (0, prep (α := Int) 8 0, [], false), [], false)).2.2.2.1 != 2 then
   ix t17 (rd t21 t10_1 (0, 0, 0, 0, (0, prep (α := Int) 8 0, [], false), (0, prep (α := Int) 8 0, [], false), [], false)).1 <|
   (bif decide ((IntKind.i64.wrap (t14 - (rd t21 t10_1 (0, 0, 0, 0, (0, prep (α := Int) 8 0, [], false), (0, prep (α := Int) 8 0, [], false), [], false)).2.1)) ≥ (rd t17 (rd t21 t10_1 (0, 0, 0, 0, (0, prep (α := Int) 8 0, [], false), (0, prep (α := Int) 8 0, [], false), [], false)).1 (prep (α := Int) 5 0)).2.2.2.2) then
    ix t21 t10_1 <|
    let r0 : List Y6_1 := upd t21 t10_1 ((rd t21 t10_1 (0, 0, 0, 0, (0, prep (α := Int) 8 0, [], false), (0, prep (α := Int) 8 0, [], false), [], false)).1, (rd t21 t10_1 (0, 0, 0, 0, (0, prep (α := Int) 8 0, [], false), (0, prep (α := Int) 8 0, [], false), [], false)).2.1, (rd t21 t10_1 (0, 0, 0, 0, (0, prep (α := Int) 8 0, [], false), (0, prep (α := Int) 8 0, [], false), [], false)).2.2.1, (rd t21 t10_1 (0, 0, 0, 0, (0, prep (α := Int) 8 0, [], false), (0, prep (α := Int) 8 0, [], false), [], false)).2.2.2.1, (rd t21 t10_1 (0, 0, 0, 0, (0, prep (α := Int) 8 0, [], false), (0, prep (α := Int) 8 0, [], false), [], false)).2.2.2.2.1, (rd t21 t10_1 (0, 0, 0, 0, (0, prep (α := Int) 8 0, [], false), (0, prep (α := Int) 8 0, [], false), [], false)).2.2.2.2.2.1, (rd t21 t10_1 (0, 0, 0, 0, (0, prep (α := Int) 8 0, [], false), (0, prep (α := Int) 8 0, [], false), [], false)).2.2.2.2.2.2.1, true)
    g1 t14 t15 t16 t17 t18 t19 t20 r0 t22 t23 t24 t25 t26 t27 t9_1 (IntKind.i64.wrap (t10_1 + 1))
   else
    g1 t14 t15 t16 t17 t18 t19 t20 t21 t22 t23 t24 t25 t26 t27 t9_1 (IntKind.i64.wrap (t10_1 + 1)))
  else
   g1 t14 t15 t16 t17 t18 t19 t20 t21 t22 t23 t24 t25 t26 t27 t9_1 (IntKind.i64.wrap (t10_1 + 1)))
 else
  some ((), (t14, t15, t16, t17, t18, t19, t20, t21, t22, t23, t24, t25, t26, t27, ()), ()))
noncomputable def b57_1 (k : Nat) (g : ((Y6_0 × Unit) × Unit × Int × Int × Unit) → Option Y6_9) (d : (Y6_0 × Unit) × Unit × Int × Int × Unit) : Option Y6_9 := l57_1 k (fun t14 t15 t16 t17 t18 t19 t20 t21 t22 t23 t24 t25 t26 t27 t9_1 t10_1 => g (((t14, t15, t16, t17, t18, t19, t20, t21, t22, t23, t24, t25, t26, t27, ()), ()), (), t9_1, t10_1, ())) d.1.1.1 d.1.1.2.1 d.1.1.2.2.1 d.1.1.2.2.2.1 d.1.1.2.2.2.2.1 d.1.1.2.2.2.2.2.1 d.1.1.2.2.2.2.2.2.1 d.1.1.2.2.2.2.2.2.2.1 d.1.1.2.2.2.2.2.2.2.2.1 d.1.1.2.2.2.2.2.2.2.2.2.1 d.1.1.2.2.2.2.2.2.2.2.2.2.1 d.1.1.2.2.2.2.2.2.2.2.2.2.2.1 d.1.1.2.2.2.2.2.2.2.2.2.2.2.2.1 d.1.1.2.2.2.2.2.2.2.2.2.2.2.2.2.1 d.2.2.1 d.2.2.2.1
noncomputable def L57_1 (k : Nat) (j : Nat) (t14 : Int) (t15 : Int) (t16 : List Y6_5) (t17 : List (PN Int 5)) (t18 : Bool) (t19 : Bool) (t20 : Bool) (t21 : List Y6_1) (t22 : List Int) (t23 : List Bool) (t24 : List Y6_6) (t25 : List Int) (t26 : List Bool) (t27 : List (PN Int 6)) (t9_1 : Int) (t10_1 : Int) : Option Y6_9 := iter (R := (Unit) × Y6_0 × Unit) c57_L1 (b57_1 k) j (((t14, t15, t16, t17, t18, t19, t20, t21, t22, t23, t24, t25, t26, t27, ()), ()), (), t9_1, t10_1, ())
theorem L57_1_s (k : Nat) (j : Nat) (t14 : Int) (t15 : Int) (t16 : List Y6_5) (t17 : List (PN Int 5)) (t18 : Bool) (t19 : Bool) (t20 : Bool) (t21 : List Y6_1) (t22 : List Int) (t23 : List Bool) (t24 : List Y6_6) (t25 : List Int) (t26 : List Bool) (t27 : List (PN Int 6)) (t9_1 : Int) (t10_1 : Int) : L57_1 k (j + 1) t14 t15 t16 t17 t18 t19 t20 t21 t22 t23 t24 t25 t26 t27 t9_1 t10_1 = l57_1 k (L57_1 k j) t14 t15 t16 t17 t18 t19 t20 t21 t22 t23 t24 t25 t26 t27 t9_1 t10_1 := iter_succ _ _ _ _
noncomputable def S57 (k : Nat) (t : Int) (t1 : Int) (t2 : List Y6_5) (t3 : List (PN Int 5)) (t4 : Bool) (t5 : Bool) (t6 : Bool) (t7 : List Y6_1) (t8 : List Int) (t9 : List Bool) (t10 : List Y6_6) (t11 : List Int) (t12 : List Bool) (t13 : List (PN Int 6)) : Option Y6_9 :=
 L57_1 k k t t1 t2 t3 t4 t5 t6 t7 t8 t9 t10 t11 t12 t13 (t7.length : Int) 0
noncomputable def E57 : Env := tab.env (lk []) (hintL [])
theorem E57_ok : EnvOK Tryz.prog E57 := envOK_of tabOK _ _ (fun f F h => by cases h)
noncomputable def B57 (k : Nat) : Tbl (RD R57 × MD P57) := (.loop 1 c57_L1 (b57_1 k) (fun g => .nil) .nil)
noncomputable def F57 : Fn := ⟨P57, R57, fun k x => S57 k x.1.1 x.1.2.1 x.1.2.2.1 x.1.2.2.2.1 x.1.2.2.2.2.1 x.1.2.2.2.2.2.1 x.1.2.2.2.2.2.2.1 x.1.2.2.2.2.2.2.2.1 x.1.2.2.2.2.2.2.2.2.1 x.1.2.2.2.2.2.2.2.2.2.1 x.1.2.2.2.2.2.2.2.2.2.2.1 x.1.2.2.2.2.2.2.2.2.2.2.2.1 x.1.2.2.2.2.2.2.2.2.2.2.2.2.1 x.1.2.2.2.2.2.2.2.2.2.2.2.2.2.1⟩
theorem ok57 : FnOK Tryz.prog 57 F57 := evalF_ok (E := E57) (T := B57) E57_ok mix Tryz.func57 rfl (by kernel_rfl) (by kernel_rfl) (fun k => by kernel_rfl) (fun k x => by kernel_rfl)
noncomputable abbrev P156 : List PT := [.val ⟨false, (.int .i64), false⟩, .val ⟨true, (.pair (.int .i64) (.int .i64)), false⟩]
noncomputable abbrev R156 : List RT := [.val ⟨true, Y6_3, true⟩]
noncomputable def S156 (k : Nat) (kind : Int) (h : Int × Int) : Option ((Y6_6 × Unit) × Unit) :=
 (bif kind == 1 then
  some (((kind, h, (8, 0), ([], []), (0, []), 0), ()), ())
 else
  some (((kind, h, (0, 0), ([], []), (0, []), 0), ()), ()))
noncomputable def E156 : Env := tab.env (lk []) (hintL [])
theorem E156_ok : EnvOK Tryz.prog E156 := envOK_of tabOK _ _ (fun f F h => by cases h)
noncomputable def B156 (k : Nat) : Tbl (RD R156 × MD P156) := .nil
noncomputable def F156 : Fn := ⟨P156, R156, fun k x => S156 k x.1 x.2.1⟩
theorem ok156 : FnOK Tryz.prog 156 F156 := evalF_ok (E := E156) (T := B156) E156_ok mix Tryz.func156 rfl (by kernel_rfl) (by kernel_rfl) (fun k => by kernel_rfl) (fun k x => by kernel_rfl)
noncomputable abbrev P198 : List PT := [.val ⟨true, (.pair (.sl 2 (.int .i64)) Y6_10), false⟩]
noncomputable abbrev R198 : List RT := [.val ⟨true, (.pair (.sl 2 (.int .i64)) Y6_10), true⟩, .val ⟨false, Y6_10, true⟩]
noncomputable def S198 (k : Nat) (b : (List Int) × List Int) : Option ((((List Int) × List Int) × (List Int) × Unit) × Unit) :=
 (S140 k b.2).bind fun q0 =>
 some ((([], []), q0.1.1, ()), ())
noncomputable def E198 : Env := tab.env (lk [(140, F140)]) (hintL [])
theorem E198_ok : EnvOK Tryz.prog E198 := envOK_of tabOK _ _ (allFn_lk (l := [(140, F140)]) ⟨ok140, trivial⟩)
noncomputable def B198 (k : Nat) : Tbl (RD R198 × MD P198) := .nil
noncomputable def F198 : Fn := ⟨P198, R198, fun k x => S198 k x.1⟩
theorem ok198 : FnOK Tryz.prog 198 F198 := evalF_ok (E := E198) (T := B198) E198_ok mix Tryz.func198 rfl (by kernel_rfl) (by kernel_rfl) (fun k => by kernel_rfl) (fun k x => by kernel_rfl)
noncomputable abbrev P199 : List PT := [.val ⟨true, (.pair (.int .u32) (.sl 297 (.pair (.int .i64) (.int .u32)))), false⟩]
noncomputable abbrev R199 : List RT := [.val ⟨true, (.pair (.int .u32) (.sl 297 (.pair (.int .i64) (.int .u32)))), true⟩, .val ⟨false, Y6_10, true⟩]
noncomputable abbrev c199_L2 : Cut := ⟨[2, 3, 7, 8, 9], [.box 120 [.cell (.int .u32), .nil], .own 3 (.int .i64), .cell (.sl 297 (.pair (.int .i64) (.int .u32))), .cell (.int .i64), .cell (.int .i64)], [], 21, []⟩
noncomputable def l199_2 (k : Nat) (g2 : Int → (List Int) → (List (Int × Int)) → Int → Int → Option Y6_8) (x : Int) (who : List Int) (t7 : List (Int × Int)) (t8 : Int) (t9 : Int) : Option Y6_8 :=
 (bif decide (t9 < t8) then
  ix t7 t9 <|
  ap who ([(rd t7 t9 (0, 0)).1] : List Int) 8 fun r0 =>
  g2 x r0 t7 t8 (IntKind.i64.wrap (t9 + 1))
 else
  some (((x, []), who, ()), ()))
noncomputable def b199_2 (k : Nat) (g : ((Unit) × (Int × Unit × Unit) × (List Int) × (List (Int × Int)) × Int × Int × Unit) → Option Y6_8) (d : (Unit) × (Int × Unit × Unit) × (List Int) × (List (Int × Int)) × Int × Int × Unit) : Option Y6_8 := l199_2 k (fun x who t7 t8 t9 => g ((), (x, (), ()), who, t7, t8, t9, ())) d.2.1.1 d.2.2.1 d.2.2.2.1 d.2.2.2.2.1 d.2.2.2.2.2.1
noncomputable def L199_2 (k : Nat) (j : Nat) (x : Int) (who : List Int) (t7 : List (Int × Int)) (t8 : Int) (t9 : Int) : Option Y6_8 := iter (R := ((Int × List (Int × Int)) × (List Int) × Unit) × Unit) c199_L2 (b199_2 k) j ((), (x, (), ()), who, t7, t8, t9, ())
theorem L199_2_s (k : Nat) (j : Nat) (x : Int) (who : List Int) (t7 : List (Int × Int)) (t8 : Int) (t9 : Int) : L199_2 k (j + 1) x who t7 t8 t9 = l199_2 k (L199_2 k j) x who t7 t8 t9 := iter_succ _ _ _ _
noncomputable def S199 (k : Nat) (f : Int × List (Int × Int)) : Option Y6_8 :=
 L199_2 k k 0 ([] : List Int) f.2 (f.2.length : Int) 0
noncomputable def E199 : Env := tab.env (lk []) (hintL [(3, 2)])
theorem E199_ok : EnvOK Tryz.prog E199 := envOK_of tabOK _ _ (fun f F h => by cases h)
noncomputable def B199 (k : Nat) : Tbl (RD R199 × MD P199) := (.loop 2 c199_L2 (b199_2 k) (fun g => .nil) .nil)
noncomputable def F199 : Fn := ⟨P199, R199, fun k x => S199 k x.1⟩
theorem ok199 : FnOK Tryz.prog 199 F199 := evalF_ok (E := E199) (T := B199) E199_ok mix Tryz.func199 rfl (by kernel_rfl) (by kernel_rfl) (fun k => by kernel_rfl) (fun k x => by kernel_rfl)
noncomputable abbrev P224 : List PT := [.pv (.nil), .val ⟨false, (.int .i64), false⟩]
noncomputable abbrev R224 : List RT := [.val ⟨false, Y6_10, true⟩]
noncomputable def S224 (k : Nat) (n : Int) : Option Y6_7 :=
 (bif decide (n < 0) then
  none
 else
  (bif decide ((IntKind.i64.wrap (n - 0)) > 0) then
   az ([] : List Int) (IntKind.i64.wrap (n - 0)) 8 0 fun r0 =>
   sx r0 0 0 <|
   some ((r0.take 0, ()), ())
  else
   some (([], ()), ())))
noncomputable def E224 : Env := tab.env (lk []) (hintL [(25, 1)])
theorem E224_ok : EnvOK Tryz.prog E224 := envOK_of tabOK _ _ (fun f F h => by cases h)
noncomputable def B224 (k : Nat) : Tbl (RD R224 × MD P224) := .nil
noncomputable def F224 : Fn := ⟨P224, R224, fun k x => S224 k x.2.1⟩
theorem ok224 : FnOK Tryz.prog 224 F224 := evalF_ok (E := E224) (T := B224) E224_ok mix Tryz.func224 rfl (by kernel_rfl) (by kernel_rfl) (fun k => by kernel_rfl) (fun k x => by kernel_rfl)
noncomputable abbrev P200 : List PT := [.val ⟨false, (.sl 27 Y6_10), false⟩]
noncomputable abbrev R200 : List RT := [.val ⟨false, Y6_10, true⟩]
noncomputable abbrev c200_L11 : Cut := ⟨[6, 25, 26, 27], [.own 3 (.int .i64), .cell (.sl 27 Y6_10), .cell (.int .i64), .cell (.int .i64)], [], 36, []⟩
noncomputable def l200_11 (k : Nat) (g11 : (List Int) → (List (List Int)) → Int → Int → Option Y6_7) (newslice : List Int) (t25 : List (List Int)) (t26 : Int) (t27 : Int) : Option Y6_7 :=
 (bif decide (t27 < t26) then
  ix t25 t27 <|
  ap newslice (rd t25 t27 []) 8 fun r1 =>
  g11 r1 t25 t26 (IntKind.i64.wrap (t27 + 1))
 else
  some ((newslice, ()), ()))
noncomputable def b200_11 (k : Nat) (g : ((Unit) × (List Int) × (List (List Int)) × Int × Int × Unit) → Option Y6_7) (d : (Unit) × (List Int) × (List (List Int)) × Int × Int × Unit) : Option Y6_7 := l200_11 k (fun newslice t25 t26 t27 => g ((), newslice, t25, t26, t27, ())) d.2.1 d.2.2.1 d.2.2.2.1 d.2.2.2.2.1
noncomputable def L200_11 (k : Nat) (j : Nat) (newslice : List Int) (t25 : List (List Int)) (t26 : Int) (t27 : Int) : Option Y6_7 := iter (R := ((List Int) × Unit) × Unit) c200_L11 (b200_11 k) j ((), newslice, t25, t26, t27, ())
theorem L200_11_s (k : Nat) (j : Nat) (newslice : List Int) (t25 : List (List Int)) (t26 : Int) (t27 : Int) : L200_11 k (j + 1) newslice t25 t26 t27 = l200_11 k (L200_11 k j) newslice t25 t26 t27 := iter_succ _ _ _ _
noncomputable abbrev c200_L3 : Cut := ⟨[0, 3, 9, 10, 11], [.cell (.sl 27 Y6_10), .cell (.int .i64), .cell (.sl 27 Y6_10), .cell (.int .i64), .cell (.int .i64)], [], 36, []⟩
noncomputable def l200_3 (k : Nat) (g3 : (List (List Int)) → Int → (List (List Int)) → Int → Int → Option Y6_7) (slices1 : List (List Int)) (size : Int) (t9 : List (List Int)) (t10 : Int) (t11 : Int) : Option Y6_7 :=
 (bif decide (t11 < t10) then
  ix t9 t11 <|
  (bif decide ((IntKind.i64.wrap (size + ((rd t9 t11 []).length : Int))) < 0) then
   none
  else
   g3 slices1 (IntKind.i64.wrap (size + ((rd t9 t11 []).length : Int))) t9 t10 (IntKind.i64.wrap (t11 + 1)))
 else
  (S224 k size).bind fun q0 =>
  L200_11 k k q0.1.1 slices1 (slices1.length : Int) 0)
noncomputable def b200_3 (k : Nat) (g : ((Unit) × (List (List Int)) × Int × (List (List Int)) × Int × Int × Unit) → Option Y6_7) (d : (Unit) × (List (List Int)) × Int × (List (List Int)) × Int × Int × Unit) : Option Y6_7 := l200_3 k (fun slices1 size t9 t10 t11 => g ((), slices1, size, t9, t10, t11, ())) d.2.1 d.2.2.1 d.2.2.2.1 d.2.2.2.2.1 d.2.2.2.2.2.1
noncomputable def L200_3 (k : Nat) (j : Nat) (slices1 : List (List Int)) (size : Int) (t9 : List (List Int)) (t10 : Int) (t11 : Int) : Option Y6_7 := iter (R := ((List Int) × Unit) × Unit) c200_L3 (b200_3 k) j ((), slices1, size, t9, t10, t11, ())
theorem L200_3_s (k : Nat) (j : Nat) (slices1 : List (List Int)) (size : Int) (t9 : List (List Int)) (t10 : Int) (t11 : Int) : L200_3 k (j + 1) slices1 size t9 t10 t11 = l200_3 k (L200_3 k j) slices1 size t9 t10 t11 := iter_succ _ _ _ _
noncomputable def S200 (k : Nat) (slices : List (List Int)) : Option Y6_7 :=
 L200_3 k k slices 0 slices (slices.length : Int) 0
noncomputable def E200 : Env := tab.env (lk [(224, F224)]) (hintL [])
theorem E200_ok : EnvOK Tryz.prog E200 := envOK_of tabOK _ _ (allFn_lk (l := [(224, F224)]) ⟨ok224, trivial⟩)
noncomputable def B200 (k : Nat) : Tbl (RD R200 × MD P200) := (.loop 11 c200_L11 (b200_11 k) (fun g => .nil) (.loop 3 c200_L3 (b200_3 k) (fun g => .nil) .nil))
noncomputable def F200 : Fn := ⟨P200, R200, fun k x => S200 k x.1⟩
theorem ok200 : FnOK Tryz.prog 200 F200 := evalF_ok (E := E200) (T := B200) E200_ok mix Tryz.func200 rfl (by kernel_rfl) (by kernel_rfl) (fun k => by kernel_rfl) (fun k x => by kernel_rfl)
noncomputable abbrev P157 : List PT := [.val ⟨true, Y6_3, false⟩]
noncomputable abbrev R157 : List RT := [.val ⟨false, Y6_10, true⟩]
noncomputable def S157 (k : Nat) (x : Int × (Int × Int) × (Int × Int) × ((List Int) × List Int) × (Int × List (Int × Int)) × Int) : Option Y6_7 :=
 (S198 k x.2.2.2.1).bind fun q0 =>
 (S199 k x.2.2.2.2.1).bind fun q1 =>
 (S200 k ([q0.1.2.1, q1.1.2.1] : List (List Int))).bind fun q2 =>
 some ((q2.1.1, ()), ())
noncomputable def E157 : Env := tab.env (lk [(198, F198), (199, F199), (200, F200)]) (hintL [])
theorem E157_ok : EnvOK Tryz.prog E157 := envOK_of tabOK _ _ (allFn_lk (l := [(198, F198), (199, F199), (200, F200)]) ⟨ok198, ok199, ok200, trivial⟩)
noncomputable def B157 (k : Nat) : Tbl (RD R157 × MD P157) := .nil
noncomputable def F157 : Fn := ⟨P157, R157, fun k x => S157 k x.1⟩
theorem ok157 : FnOK Tryz.prog 157 F157 := evalF_ok (E := E157) (T := B157) E157_ok mix Tryz.func157 rfl (by kernel_rfl) (by kernel_rfl) (fun k => by kernel_rfl) (fun k x => by kernel_rfl)
end Go.Proofs.YtmmagcjlfcicfaaGreat.Ab
