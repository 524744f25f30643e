import Derived.Test.YtnlfdfjkgaanjaaAbV0
/- Contracts, printed by this session's own program gen.py. -/
set_option linter.unusedVariables false
set_option linter.unusedSimpArgs false
set_option maxRecDepth 100000
namespace Go.Proofs.Ytnlfdfjkgaanjaa.Ab
open Go.RowKit Go.Proofs.YtnlfdfjkgaanjaaW.PrintWords
abbrev Y1_0 : Type := Int × (Int × Int) × (Int × Int) × ((List Int) × List Int) × (Int × List (Int × Int)) × Int
abbrev Y1_1 : Ty := .pair (.int .i64) (.pair (.pair (.int .i64) (.int .i64)) (.pair (.pair (.int .i64) (.int .i64)) (.pair (.pair (.sl 2 (.int .i64)) (.sl 3 (.int .i64))) (.pair (.pair (.int .u32) (.sl 163 (.pair (.int .i64) (.int .u32)))) (.int .u32)))))
abbrev Y1_2 : Type := (List (Int × Int)) → (List Int) → (List Bool) → (List Y1_0) → (List (Int × Int)) → (List Bool) → (List Int) → Int → Option ((Bool × Unit) × Unit)
abbrev Y1_3 : Type := ((((List Int) × List Bool) × List Y1_0) × (List Int) × (List (List Int)) × Unit) × Unit
abbrev Y1_4 : Type := (List Int) × (List Bool) × (List Y1_0) × Unit
abbrev Y1_5 : Type := (List Int) → (List Bool) → (List Y1_0) → (List Int) → (List Bool) → (List Y1_0) → (List Int) → (List (List Int)) → (List Y1_0) → Int → Int → Option Y1_3
abbrev Y1_6 : Type := (Bool × Unit) × Unit
abbrev Y1_7 : Ty := .pair (.pair (.sl 3 (.int .i64)) (.sl 4 .bool)) (.sl 65 Y1_1)
abbrev Y1_8 : Type := List (Int × Int)
abbrev Y1_9 : Type := List (Int × Int)
abbrev Y1_10 : Ty := .pair (.int .i64) (.int .i64)
abbrev Y1_11 : Ty := .sl 3 (.int .i64)
abbrev Y1_12 : Type := ((List Int) × Unit) × Unit
abbrev Y1_13 : Ty := .sl 75 (.pair (.int .u8) (.int .u8))
noncomputable abbrev P28 : List PT := [.val ⟨true, Y1_7, false⟩]
noncomputable abbrev R28 : List RT := [.val ⟨true, Y1_7, true⟩, .val ⟨false, Y1_11, true⟩, .val ⟨false, (.sl 44 Y1_11), true⟩]
noncomputable abbrev c28_J9 : Cut := ⟨[1, 2, 3, 4, 5, 6, 7, 11, 12, 13], [.box 50 [.cell Y1_11, .cell (.sl 4 .bool), .cell (.sl 65 Y1_1)], .box 50 [.own 3 (.int .i64), .own 4 .bool, .own 65 Y1_1], .own 3 (.int .i64), .own 44 Y1_11, .cell (.int .i64), .box 65 [.cell (.int .i64), .cell (.int .i64), .cell (.int .i64), .cell (.int .i64), .cell (.int .i64), .cell (.sl 2 (.int .i64)), .cell Y1_11, .cell (.int .u32), .cell (.sl 163 (.pair (.int .i64) (.int .u32))), .cell (.int .u32)], .box 65 [.cell (.int .i64), .cell (.int .i64), .cell (.int .i64), .cell (.int .i64), .cell (.int .i64), .own 2 (.int .i64), .own 3 (.int .i64), .cell (.int .u32), .own 163 (.pair (.int .i64) (.int .u32)), .cell (.int .u32)], .cell (.sl 65 Y1_1), .cell (.int .i64), .cell (.int .i64)], [], 61⟩
noncomputable def j28_9 (k : Nat) (g3 : Y1_5) (t4 : List Int) (t5 : List Bool) (t6 : List Y1_0) (out3 : List Int) (out4 : List Bool) (out5 : List Y1_0) (places1 : List Int) (who1 : List (List Int)) (at_ : Int) (x : Int) (x1 : Int) (x2 : Int) (x3 : Int) (x4 : Int) (x5 : List Int) (x6 : List Int) (x7 : Int) (x8 : Y1_8) (x9 : Int) (y : Int) (y1 : Int) (y2 : Int) (y3 : Int) (y4 : Int) (y5 : List Int) (y6 : List Int) (y7 : Int) (y8 : Y1_8) (y9 : Int) (t11_1 : List Y1_0) (t12_1 : Int) (t13_1 : Int) : Option Y1_3 :=
 (S47 k (y, (y1, y2), (y3, y4), (y5, y6), (y7, y8), y9)).bind fun q4 =>
 ix out5 at_ <|
 ap places1 ([at_] : List Int) 8 fun r5 =>
 (S50 k (x, (x1, x2), (x3, x4), (x5, x6), (x7, x8), x9)).bind fun q6 =>
 ap who1 ([q6.1.1] : List (List Int)) 24 fun r7 =>
 g3 t4 t5 t6 out3 out4 (upd out5 at_ q4.1.1) r5 r7 t11_1 t12_1 (IntKind.i64.wrap (t13_1 + 1))
noncomputable abbrev c28_L3 : Cut := ⟨[1, 2, 3, 4, 11, 12, 13], [.box 50 [.cell Y1_11, .cell (.sl 4 .bool), .cell (.sl 65 Y1_1)], .box 50 [.own 3 (.int .i64), .own 4 .bool, .own 65 Y1_1], .own 3 (.int .i64), .own 44 Y1_11, .cell (.sl 65 Y1_1), .cell (.int .i64), .cell (.int .i64)], [], 61⟩
noncomputable def l28_3 (k : Nat) (g3 : Y1_5) (t1 : List Int) (t2 : List Bool) (t3 : List Y1_0) (out : List Int) (out1 : List Bool) (out2 : List Y1_0) (places : List Int) (who : List (List Int)) (t11 : List Y1_0) (t12 : Int) (t13 : Int) : Option Y1_3 :=
 (bif decide (t13 < t12) then
  ix t11 t13 <|
  (S52 k ((t1, t2), t3) t13).bind fun q1 =>
  (bif !q1.1.1 then
   g3 t1 t2 t3 out out1 out2 places who t11 t12 (IntKind.i64.wrap (t13 + 1))
  else
   (S54 k (rd t11 t13 (0, (0, 0), (0, 0), ([], []), (0, []), 0))).bind fun q2 =>
   (bif (rd t11 t13 (0, (0, 0), (0, 0), ([], []), (0, []), 0)).2.2.2.2.2 == q2.1.1 then
    g3 t1 t2 t3 out out1 out2 places who t11 t12 (IntKind.i64.wrap (t13 + 1))
   else
    (S48 k (rd t11 t13 (0, (0, 0), (0, 0), ([], []), (0, []), 0)).1 (rd t11 t13 (0, (0, 0), (0, 0), ([], []), (0, []), 0)).2.1).bind fun q3 =>
    (bif (rd t11 t13 (0, (0, 0), (0, 0), ([], []), (0, []), 0)).1 == 1 then
     j28_9 k g3 t1 t2 t3 out out1 out2 places who t13 (rd t11 t13 (0, (0, 0), (0, 0), ([], []), (0, []), 0)).1 (rd t11 t13 (0, (0, 0), (0, 0), ([], []), (0, []), 0)).2.1.1 (rd t11 t13 (0, (0, 0), (0, 0), ([], []), (0, []), 0)).2.1.2 (rd t11 t13 (0, (0, 0), (0, 0), ([], []), (0, []), 0)).2.2.1.1 (rd t11 t13 (0, (0, 0), (0, 0), ([], []), (0, []), 0)).2.2.1.2 (rd t11 t13 (0, (0, 0), (0, 0), ([], []), (0, []), 0)).2.2.2.1.1 (rd t11 t13 (0, (0, 0), (0, 0), ([], []), (0, []), 0)).2.2.2.1.2 (rd t11 t13 (0, (0, 0), (0, 0), ([], []), (0, []), 0)).2.2.2.2.1.1 (rd t11 t13 (0, (0, 0), (0, 0), ([], []), (0, []), 0)).2.2.2.2.1.2 (rd t11 t13 (0, (0, 0), (0, 0), ([], []), (0, []), 0)).2.2.2.2.2 q3.1.1.1 q3.1.1.2.1.1 q3.1.1.2.1.2 (rd t11 t13 (0, (0, 0), (0, 0), ([], []), (0, []), 0)).2.2.1.1 q3.1.1.2.2.1.2 q3.1.1.2.2.2.1.1 q3.1.1.2.2.2.1.2 q3.1.1.2.2.2.2.1.1 q3.1.1.2.2.2.2.1.2 q3.1.1.2.2.2.2.2 t11 t12 t13
    else
     j28_9 k g3 t1 t2 t3 out out1 out2 places who t13 (rd t11 t13 (0, (0, 0), (0, 0), ([], []), (0, []), 0)).1 (rd t11 t13 (0, (0, 0), (0, 0), ([], []), (0, []), 0)).2.1.1 (rd t11 t13 (0, (0, 0), (0, 0), ([], []), (0, []), 0)).2.1.2 (rd t11 t13 (0, (0, 0), (0, 0), ([], []), (0, []), 0)).2.2.1.1 (rd t11 t13 (0, (0, 0), (0, 0), ([], []), (0, []), 0)).2.2.1.2 (rd t11 t13 (0, (0, 0), (0, 0), ([], []), (0, []), 0)).2.2.2.1.1 (rd t11 t13 (0, (0, 0), (0, 0), ([], []), (0, []), 0)).2.2.2.1.2 (rd t11 t13 (0, (0, 0), (0, 0), ([], []), (0, []), 0)).2.2.2.2.1.1 (rd t11 t13 (0, (0, 0), (0, 0), ([], []), (0, []), 0)).2.2.2.2.1.2 (rd t11 t13 (0, (0, 0), (0, 0), ([], []), (0, []), 0)).2.2.2.2.2 q3.1.1.1 q3.1.1.2.1.1 q3.1.1.2.1.2 q3.1.1.2.2.1.1 q3.1.1.2.2.1.2 q3.1.1.2.2.2.1.1 q3.1.1.2.2.2.1.2 q3.1.1.2.2.2.2.1.1 q3.1.1.2.2.2.2.1.2 q3.1.1.2.2.2.2.2 t11 t12 t13)))
 else
  some ((((out, out1), out2), places, who, ()), ()))
noncomputable def b28_3 (k : Nat) (g : ((Unit) × Y1_4 × Y1_4 × (List Int) × (List (List Int)) × (List Y1_0) × Int × Int × Unit) → Option Y1_3) (d : (Unit) × Y1_4 × Y1_4 × (List Int) × (List (List Int)) × (List Y1_0) × Int × Int × Unit) : Option Y1_3 := l28_3 k (fun t1 t2 t3 out out1 out2 places who t11 t12 t13 => g ((), (t1, t2, t3, ()), (out, out1, out2, ()), places, who, t11, t12, t13, ())) d.2.1.1 d.2.1.2.1 d.2.1.2.2.1 d.2.2.1.1 d.2.2.1.2.1 d.2.2.1.2.2.1 d.2.2.2.1 d.2.2.2.2.1 d.2.2.2.2.2.1 d.2.2.2.2.2.2.1 d.2.2.2.2.2.2.2.1
noncomputable def L28_3 (k : Nat) (j : Nat) (t1 : List Int) (t2 : List Bool) (t3 : List Y1_0) (out : List Int) (out1 : List Bool) (out2 : List Y1_0) (places : List Int) (who : List (List Int)) (t11 : List Y1_0) (t12 : Int) (t13 : Int) : Option Y1_3 := iter (R := ((((List Int) × List Bool) × List Y1_0) × (List Int) × (List (List Int)) × Unit) × Unit) c28_L3 (b28_3 k) j ((), (t1, t2, t3, ()), (out, out1, out2, ()), places, who, t11, t12, t13, ())
theorem L28_3_s (k : Nat) (j : Nat) (t1 : List Int) (t2 : List Bool) (t3 : List Y1_0) (out : List Int) (out1 : List Bool) (out2 : List Y1_0) (places : List Int) (who : List (List Int)) (t11 : List Y1_0) (t12 : Int) (t13 : Int) : L28_3 k (j + 1) t1 t2 t3 out out1 out2 places who t11 t12 t13 = l28_3 k (L28_3 k j) t1 t2 t3 out out1 out2 places who t11 t12 t13 := iter_succ _ _ _ _
noncomputable def S28 (k : Nat) (t : ((List Int) × List Bool) × List Y1_0) : Option Y1_3 :=
 (S45 k t).bind fun q0 =>
 L28_3 k k t.1.1 t.1.2 t.2 q0.1.1.1.1 q0.1.1.1.2 q0.1.1.2 ([] : List Int) ([] : List (List Int)) t.2 (t.2.length : Int) 0
noncomputable def E28 : Env := tab.env (lk [(45, F45), (47, F47), (48, F48), (50, F50), (52, F52), (54, F54)]) (hintL [(3, 2), (4, 2)])
theorem E28_ok : EnvOK Try.prog E28 := envOK_of tabOK _ _ (allFn_lk (l := [(45, F45), (47, F47), (48, F48), (50, F50), (52, F52), (54, F54)]) ⟨ok45, ok47, ok48, ok50, ok52, ok54, trivial⟩)
noncomputable def B28 (k : Nat) : Tbl (RD R28 × MD P28) := (.loop 3 c28_L3 (b28_3 k) (fun g => (fun (g3 : Y1_5) => (.join 9 c28_J9 (fun d => j28_9 k g3 d.2.1.1 d.2.1.2.1 d.2.1.2.2.1 d.2.2.1.1 d.2.2.1.2.1 d.2.2.1.2.2.1 d.2.2.2.1 d.2.2.2.2.1 d.2.2.2.2.2.1 d.2.2.2.2.2.2.1.1 d.2.2.2.2.2.2.1.2.1 d.2.2.2.2.2.2.1.2.2.1 d.2.2.2.2.2.2.1.2.2.2.1 d.2.2.2.2.2.2.1.2.2.2.2.1 d.2.2.2.2.2.2.1.2.2.2.2.2.1 d.2.2.2.2.2.2.1.2.2.2.2.2.2.1 d.2.2.2.2.2.2.1.2.2.2.2.2.2.2.1 d.2.2.2.2.2.2.1.2.2.2.2.2.2.2.2.1 d.2.2.2.2.2.2.1.2.2.2.2.2.2.2.2.2.1 d.2.2.2.2.2.2.2.1.1 d.2.2.2.2.2.2.2.1.2.1 d.2.2.2.2.2.2.2.1.2.2.1 d.2.2.2.2.2.2.2.1.2.2.2.1 d.2.2.2.2.2.2.2.1.2.2.2.2.1 d.2.2.2.2.2.2.2.1.2.2.2.2.2.1 d.2.2.2.2.2.2.2.1.2.2.2.2.2.2.1 d.2.2.2.2.2.2.2.1.2.2.2.2.2.2.2.1 d.2.2.2.2.2.2.2.1.2.2.2.2.2.2.2.2.1 d.2.2.2.2.2.2.2.1.2.2.2.2.2.2.2.2.2.1 d.2.2.2.2.2.2.2.2.1 d.2.2.2.2.2.2.2.2.2.1 d.2.2.2.2.2.2.2.2.2.2.1) .nil)) (fun t1 t2 t3 out out1 out2 places who t11 t12 t13 => g ((), (t1, t2, t3, ()), (out, out1, out2, ()), places, who, t11, t12, t13, ()))) .nil)
noncomputable def F28 : Fn := ⟨P28, R28, fun k x => S28 k x.1⟩
theorem ok28 : FnOK Try.prog 28 F28 := evalF_ok (E := E28) (T := B28) E28_ok mix Try.func28 rfl (by kernel_rfl) (by kernel_rfl) (fun k => by kernel_rfl) (fun k x => by kernel_rfl)
noncomputable abbrev P49 : List PT := [.val ⟨true, (.pair Y1_11 (.sl 4 .bool)), false⟩, .val ⟨true, Y1_10, false⟩]
noncomputable abbrev R49 : List RT := [.val ⟨true, (.pair Y1_11 (.sl 4 .bool)), true⟩, .val ⟨false, .bool, true⟩]
noncomputable def S49 (k : Nat) (s : (List Int) × List Bool) (h : Int × Int) : Option ((((List Int) × List Bool) × Bool × Unit) × Unit) :=
 (S80 k s).bind fun q0 =>
 (S51 k q0.1.1 h).bind fun q1 =>
 (bif !q1.1.1 then
  some ((q0.1.1, false, ()), ())
 else
  ix q0.1.1.2 h.1 <|
  some (((q0.1.1.1, upd q0.1.1.2 h.1 false), true, ()), ()))
noncomputable def E49 : Env := tab.env (lk [(51, F51), (80, F80)]) (hintL [])
theorem E49_ok : EnvOK Try.prog E49 := envOK_of tabOK _ _ (allFn_lk (l := [(51, F51), (80, F80)]) ⟨ok51, ok80, trivial⟩)
noncomputable def B49 (k : Nat) : Tbl (RD R49 × MD P49) := .nil
noncomputable def F49 : Fn := ⟨P49, R49, fun k x => S49 k x.1 x.2.1⟩
theorem ok49 : FnOK Try.prog 49 F49 := evalF_ok (E := E49) (T := B49) E49_ok mix Try.func49 rfl (by kernel_rfl) (by kernel_rfl) (fun k => by kernel_rfl) (fun k x => by kernel_rfl)
noncomputable abbrev P22 : List PT := [.val ⟨true, Y1_7, false⟩, .val ⟨true, Y1_10, false⟩]
noncomputable abbrev R22 : List RT := [.val ⟨true, Y1_7, true⟩, .val ⟨false, Y1_11, true⟩, .val ⟨false, .bool, true⟩]
noncomputable def S22 (k : Nat) (t : ((List Int) × List Bool) × List Y1_0) (h : Int × Int) : Option (((((List Int) × List Bool) × List Y1_0) × (List Int) × Bool × Unit) × Unit) :=
 (S45 k t).bind fun q0 =>
 (S23 k t h).bind fun q1 =>
 (bif !q1.1.2.1 then
  some ((q0.1.1, [], false, ()), ())
 else
  ix t.2 q1.1.1 <|
  (bif (rd t.2 q1.1.1 (0, (0, 0), (0, 0), ([], []), (0, []), 0)).1 == 1 then
   some ((q0.1.1, [], false, ()), ())
  else
   (S49 k q0.1.1.1 h).bind fun q2 =>
   ix q0.1.1.2 q1.1.1 <|
   ix t.2 q1.1.1 <|
   (S50 k (rd t.2 q1.1.1 (0, (0, 0), (0, 0), ([], []), (0, []), 0))).bind fun q3 =>
   some (((q2.1.1, upd q0.1.1.2 q1.1.1 (0, (0, 0), (0, 0), ([], []), (0, []), 0)), q3.1.1, true, ()), ())))
noncomputable def E22 : Env := tab.env (lk [(23, F23), (45, F45), (49, F49), (50, F50)]) (hintL [])
theorem E22_ok : EnvOK Try.prog E22 := envOK_of tabOK _ _ (allFn_lk (l := [(23, F23), (45, F45), (49, F49), (50, F50)]) ⟨ok23, ok45, ok49, ok50, trivial⟩)
noncomputable def B22 (k : Nat) : Tbl (RD R22 × MD P22) := .nil
noncomputable def F22 : Fn := ⟨P22, R22, fun k x => S22 k x.1 x.2.1⟩
theorem ok22 : FnOK Try.prog 22 F22 := evalF_ok (E := E22) (T := B22) E22_ok mix Try.func22 rfl (by kernel_rfl) (by kernel_rfl) (fun k => by kernel_rfl) (fun k x => by kernel_rfl)
noncomputable abbrev P25 : List PT := [.val ⟨true, Y1_7, false⟩]
noncomputable abbrev R25 : List RT := [.val ⟨false, Y1_11, true⟩]
noncomputable abbrev c25_L2 : Cut := ⟨[2, 6, 7, 8], [.own 3 (.int .i64), .cell (.sl 65 Y1_1), .cell (.int .i64), .cell (.int .i64)], [], 22⟩
noncomputable def l25_2 (k : Nat) (g2 : (List Int) → (List Y1_0) → Int → Int → Option Y1_12) (out : List Int) (t6 : List Y1_0) (t7 : Int) (t8 : Int) : Option Y1_12 :=
 (bif decide (t8 < t7) then
  ix t6 t8 <|
  (bif (rd t6 t8 (0, (0, 0), (0, 0), ([], []), (0, []), 0)).1 == 1 then
   ap out ([t8] : List Int) 8 fun r0 =>
   g2 r0 t6 t7 (IntKind.i64.wrap (t8 + 1))
  else
   g2 out t6 t7 (IntKind.i64.wrap (t8 + 1)))
 else
  some ((out, ()), ()))
noncomputable def b25_2 (k : Nat) (g : ((Unit) × (List Int) × (List Y1_0) × Int × Int × Unit) → Option Y1_12) (d : (Unit) × (List Int) × (List Y1_0) × Int × Int × Unit) : Option Y1_12 := l25_2 k (fun out t6 t7 t8 => g ((), out, t6, t7, t8, ())) d.2.1 d.2.2.1 d.2.2.2.1 d.2.2.2.2.1
noncomputable def L25_2 (k : Nat) (j : Nat) (out : List Int) (t6 : List Y1_0) (t7 : Int) (t8 : Int) : Option Y1_12 := iter (R := ((List Int) × Unit) × Unit) c25_L2 (b25_2 k) j ((), out, t6, t7, t8, ())
theorem L25_2_s (k : Nat) (j : Nat) (out : List Int) (t6 : List Y1_0) (t7 : Int) (t8 : Int) : L25_2 k (j + 1) out t6 t7 t8 = l25_2 k (L25_2 k j) out t6 t7 t8 := iter_succ _ _ _ _
noncomputable def S25 (k : Nat) (t : ((List Int) × List Bool) × List Y1_0) : Option Y1_12 :=
 L25_2 k k ([] : List Int) t.2 (t.2.length : Int) 0
noncomputable def E25 : Env := tab.env (lk []) (hintL [(2, 2)])
theorem E25_ok : EnvOK Try.prog E25 := envOK_of tabOK _ _ (fun f F h => by cases h)
noncomputable def B25 (k : Nat) : Tbl (RD R25 × MD P25) := (.loop 2 c25_L2 (b25_2 k) (fun g => .nil) .nil)
noncomputable def F25 : Fn := ⟨P25, R25, fun k x => S25 k x.1⟩
theorem ok25 : FnOK Try.prog 25 F25 := evalF_ok (E := E25) (T := B25) E25_ok mix Try.func25 rfl (by kernel_rfl) (by kernel_rfl) (fun k => by kernel_rfl) (fun k x => by kernel_rfl)
noncomputable abbrev P19 : List PT := []
noncomputable abbrev R19 : List RT := [.val ⟨false, .bool, true⟩]
noncomputable def S19 (k : Nat) : Option Y1_6 :=
 (S20 k).bind fun q0 =>
 (S21 k q0.1.1 2).bind fun q1 =>
 (S23 k q1.1.1 q1.1.2.1).bind fun q2 =>
 (S24 k q1.1.1 0).bind fun q3 =>
 (S28 k q3.1.1).bind fun q4 =>
 (S22 k q4.1.1 q1.1.2.1).bind fun q5 =>
 (S22 k q5.1.1 q1.1.2.1).bind fun q6 =>
 (bif q1.1.2.2.1 then
  (bif beqD Y1_10 q1.1.2.1 (0, 1) then
   (bif q2.1.2.1 then
    (bif q2.1.1 == 0 then
     (bif q3.1.2.1 then
      (bif (q4.1.2.1.length : Int) == 1 then
       ix q4.1.2.1 0 <|
       (bif (rd q4.1.2.1 0 0) == 0 then
        (bif (q4.1.2.2.1.length : Int) == 1 then
         (bif q5.1.2.2.1 then
          (bif !q6.1.2.2.1 then
           (bif (q4.1.1.2.length : Int) == 12 then
            ix q4.1.1.2 0 <|
            (bif (rd q4.1.1.2 0 (0, (0, 0), (0, 0), ([], []), (0, []), 0)).1 == 2 then
             (S25 k q1.1.1).bind fun q7 =>
             some (((q7.1.1.length : Int) == 0, ()), ())
            else
             some ((false, ()), ()))
           else
            some ((false, ()), ()))
          else
           some ((false, ()), ()))
         else
          some ((false, ()), ()))
        else
         some ((false, ()), ()))
       else
        some ((false, ()), ()))
      else
       some ((false, ()), ()))
     else
      some ((false, ()), ()))
    else
     some ((false, ()), ()))
   else
    some ((false, ()), ()))
  else
   some ((false, ()), ()))
 else
  some ((false, ()), ()))
noncomputable def E19 : Env := tab.env (lk [(20, F20), (21, F21), (22, F22), (23, F23), (24, F24), (25, F25), (28, F28)]) (hintL [])
theorem E19_ok : EnvOK Try.prog E19 := envOK_of tabOK _ _ (allFn_lk (l := [(20, F20), (21, F21), (22, F22), (23, F23), (24, F24), (25, F25), (28, F28)]) ⟨ok20, ok21, ok22, ok23, ok24, ok25, ok28, trivial⟩)
noncomputable def B19 (k : Nat) : Tbl (RD R19 × MD P19) := .nil
noncomputable def F19 : Fn := ⟨P19, R19, fun k x => S19 k ⟩
theorem ok19 : FnOK Try.prog 19 F19 := evalF_ok (E := E19) (T := B19) E19_ok mix Try.func19 rfl (by kernel_rfl) (by kernel_rfl) (fun k => by kernel_rfl) (fun k x => by kernel_rfl)
noncomputable abbrev P9 : List PT := [.val ⟨false, Y1_13, false⟩]
noncomputable abbrev R9 : List RT := [.val ⟨false, .bool, true⟩]
noncomputable abbrev c9_L29 : Cut := ⟨[0, 3, 4, 5, 6, 7, 17], [.cell Y1_13, .box 50 [.own 3 (.int .i64), .own 4 .bool, .own 65 Y1_1], .own 53 Y1_10, .own 4 .bool, .own 3 (.int .i64), .cell (.int .i64), .cell (.int .i64)], [], 170⟩
noncomputable def l9_29 (k : Nat) (g10 : Y1_2) (g29 : Y1_9 → (List Int) → (List Bool) → (List Y1_0) → Y1_9 → (List Bool) → (List Int) → Int → Int → Option Y1_6) (l_3 : Y1_8) (t6 : List Int) (t7 : List Bool) (t8 : List Y1_0) (told2 : Y1_8) (has2 : List Bool) (kind2 : List Int) (i2 : Int) (k_1 : Int) : Option Y1_6 :=
 (bif decide (k_1 < (told2.length : Int)) then
  ix told2 k_1 <|
  (S23 k ((t6, t7), t8) (rd told2 k_1 (0, 0))).bind fun q6 =>
  ix has2 k_1 <|
  (bif !(q6.1.2.1 == (rd has2 k_1 false)) then
   some ((false, ()), ())
  else
   (bif q6.1.2.1 then
    ix told2 k_1 <|
    (bif q6.1.1 != (rd told2 k_1 (0, 0)).1 then
     some ((false, ()), ())
    else
     (bif decide (q6.1.1 < 0) then
      some ((false, ()), ())
     else
      (bif decide (q6.1.1 ≥ (t8.length : Int)) then
       some ((false, ()), ())
      else
       ix t8 q6.1.1 <|
       ix kind2 k_1 <|
       (bif (rd t8 q6.1.1 (0, (0, 0), (0, 0), ([], []), (0, []), 0)).1 != (rd kind2 k_1 0) then
        some ((false, ()), ())
       else
        g29 l_3 t6 t7 t8 told2 has2 kind2 i2 (IntKind.i64.wrap (k_1 + 1))))))
   else
    g29 l_3 t6 t7 t8 told2 has2 kind2 i2 (IntKind.i64.wrap (k_1 + 1))))
 else
  g10 l_3 t6 t7 t8 told2 has2 kind2 (IntKind.i64.wrap (i2 + 1)))
noncomputable def b9_29 (k : Nat) (g10 : Y1_2) (g : ((Unit) × Y1_9 × Y1_4 × Y1_9 × (List Bool) × (List Int) × Int × Int × Unit) → Option Y1_6) (d : (Unit) × Y1_9 × Y1_4 × Y1_9 × (List Bool) × (List Int) × Int × Int × Unit) : Option Y1_6 := l9_29 k g10 (fun l_3 t6 t7 t8 told2 has2 kind2 i2 k_1 => g ((), l_3, (t6, t7, t8, ()), told2, has2, kind2, i2, k_1, ())) d.2.1 d.2.2.1.1 d.2.2.1.2.1 d.2.2.1.2.2.1 d.2.2.2.1 d.2.2.2.2.1 d.2.2.2.2.2.1 d.2.2.2.2.2.2.1 d.2.2.2.2.2.2.2.1
noncomputable def L9_29 (k : Nat) (g10 : Y1_2) (j : Nat) (l_3 : Y1_8) (t6 : List Int) (t7 : List Bool) (t8 : List Y1_0) (told2 : Y1_8) (has2 : List Bool) (kind2 : List Int) (i2 : Int) (k_1 : Int) : Option Y1_6 := iter (R := (Bool × Unit) × Unit) c9_L29 (b9_29 k g10) j ((), l_3, (t6, t7, t8, ()), told2, has2, kind2, i2, k_1, ())
theorem L9_29_s (k : Nat) (g10 : Y1_2) (j : Nat) (l_3 : Y1_8) (t6 : List Int) (t7 : List Bool) (t8 : List Y1_0) (told2 : Y1_8) (has2 : List Bool) (kind2 : List Int) (i2 : Int) (k_1 : Int) : L9_29 k g10 (j + 1) l_3 t6 t7 t8 told2 has2 kind2 i2 k_1 = l9_29 k g10 (L9_29 k g10 j) l_3 t6 t7 t8 told2 has2 kind2 i2 k_1 := iter_succ _ _ _ _
noncomputable abbrev c9_L17 : Cut := ⟨[0, 3, 4, 5, 6, 7, 8, 9, 10, 12], [.cell Y1_13, .box 50 [.cell Y1_11, .cell (.sl 4 .bool), .cell (.sl 65 Y1_1)], .own 53 Y1_10, .own 4 .bool, .own 3 (.int .i64), .cell (.int .i64), .cell (.int .i64), .box 50 [.own 3 (.int .i64), .own 4 .bool, .own 65 Y1_1], .box 53 [.cell (.int .i64), .cell (.int .i64)], .cell (.int .i64)], [], 170⟩
noncomputable def l9_17 (k : Nat) (g10 : Y1_2) (g17 : Y1_9 → (List Int) → (List Bool) → (List Y1_0) → Y1_9 → (List Bool) → (List Int) → Int → Int → (List Int) → (List Bool) → (List Y1_0) → Int → Int → Int → Option Y1_6) (l_2 : Y1_8) (t3 : List Int) (t4 : List Bool) (t5 : List Y1_0) (told1 : Y1_8) (has1 : List Bool) (kind1 : List Int) (i1 : Int) (k_ : Int) (x : List Int) (x1 : List Bool) (x2 : List Y1_0) (h : Int) (h1 : Int) (m : Int) : Option Y1_6 :=
 (bif decide (m < (told1.length : Int)) then
  ix told1 m <|
  (bif beqD Y1_10 (rd told1 m (0, 0)) (h, h1) then
   some ((false, ()), ())
  else
   g17 l_2 t3 t4 t5 told1 has1 kind1 i1 k_ x x1 x2 h h1 (IntKind.i64.wrap (m + 1)))
 else
  ap told1 ([(h, h1)] : List (Int × Int)) 16 fun r3 =>
  ap has1 ([true] : List Bool) 1 fun r4 =>
  ap kind1 ([k_] : List Int) 8 fun r5 =>
  L9_29 k g10 k l_2 x x1 x2 r3 r4 r5 i1 0)
noncomputable def b9_17 (k : Nat) (g10 : Y1_2) (g : ((Unit) × Y1_9 × Y1_4 × Y1_9 × (List Bool) × (List Int) × Int × Int × Y1_4 × (Int × Int × Unit) × Int × Unit) → Option Y1_6) (d : (Unit) × Y1_9 × Y1_4 × Y1_9 × (List Bool) × (List Int) × Int × Int × Y1_4 × (Int × Int × Unit) × Int × Unit) : Option Y1_6 := l9_17 k g10 (fun l_2 t3 t4 t5 told1 has1 kind1 i1 k_ x x1 x2 h h1 m => g ((), l_2, (t3, t4, t5, ()), told1, has1, kind1, i1, k_, (x, x1, x2, ()), (h, h1, ()), m, ())) d.2.1 d.2.2.1.1 d.2.2.1.2.1 d.2.2.1.2.2.1 d.2.2.2.1 d.2.2.2.2.1 d.2.2.2.2.2.1 d.2.2.2.2.2.2.1 d.2.2.2.2.2.2.2.1 d.2.2.2.2.2.2.2.2.1.1 d.2.2.2.2.2.2.2.2.1.2.1 d.2.2.2.2.2.2.2.2.1.2.2.1 d.2.2.2.2.2.2.2.2.2.1.1 d.2.2.2.2.2.2.2.2.2.1.2.1 d.2.2.2.2.2.2.2.2.2.2.1
noncomputable def L9_17 (k : Nat) (g10 : Y1_2) (j : Nat) (l_2 : Y1_8) (t3 : List Int) (t4 : List Bool) (t5 : List Y1_0) (told1 : Y1_8) (has1 : List Bool) (kind1 : List Int) (i1 : Int) (k_ : Int) (x : List Int) (x1 : List Bool) (x2 : List Y1_0) (h : Int) (h1 : Int) (m : Int) : Option Y1_6 := iter (R := (Bool × Unit) × Unit) c9_L17 (b9_17 k g10) j ((), l_2, (t3, t4, t5, ()), told1, has1, kind1, i1, k_, (x, x1, x2, ()), (h, h1, ()), m, ())
theorem L9_17_s (k : Nat) (g10 : Y1_2) (j : Nat) (l_2 : Y1_8) (t3 : List Int) (t4 : List Bool) (t5 : List Y1_0) (told1 : Y1_8) (has1 : List Bool) (kind1 : List Int) (i1 : Int) (k_ : Int) (x : List Int) (x1 : List Bool) (x2 : List Y1_0) (h : Int) (h1 : Int) (m : Int) : L9_17 k g10 (j + 1) l_2 t3 t4 t5 told1 has1 kind1 i1 k_ x x1 x2 h h1 m = l9_17 k g10 (L9_17 k g10 j) l_2 t3 t4 t5 told1 has1 kind1 i1 k_ x x1 x2 h h1 m := iter_succ _ _ _ _
noncomputable abbrev c9_L10 : Cut := ⟨[0, 3, 4, 5, 6, 7], [.cell Y1_13, .box 50 [.own 3 (.int .i64), .own 4 .bool, .own 65 Y1_1], .own 53 Y1_10, .own 4 .bool, .own 3 (.int .i64), .cell (.int .i64)], [], 170⟩
noncomputable def l9_10 (k : Nat) (g10 : Y1_2) (l_1 : Y1_8) (t : List Int) (t1 : List Bool) (t2 : List Y1_0) (told : Y1_8) (has : List Bool) (kind : List Int) (i : Int) : Option Y1_6 :=
 (bif decide (i < (l_1.length : Int)) then
  ix l_1 i <|
  (bif (Int.tmod (rd l_1 i (0, 0)).1 2) == 0 then
   ix l_1 i <|
   (S21 k ((t, t1), t2) (IntKind.i64.wrap (2 + (IntKind.i64.wrap (Int.tmod (rd l_1 i (0, 0)).2 2))))).bind fun q2 =>
   (bif q2.1.2.2.1 then
    L9_17 k g10 k l_1 t t1 t2 told has kind i (IntKind.i64.wrap (2 + (IntKind.i64.wrap (Int.tmod (rd l_1 i (0, 0)).2 2)))) q2.1.1.1.1 q2.1.1.1.2 q2.1.1.2 q2.1.2.1.1 q2.1.2.1.2 0
   else
    L9_29 k g10 k l_1 q2.1.1.1.1 q2.1.1.1.2 q2.1.1.2 told has kind i 0)
  else
   (bif (told.length : Int) == 0 then
    ix l_1 i <|
    (S21 k ((t, t1), t2) (IntKind.i64.wrap (2 + (IntKind.i64.wrap (Int.tmod (rd l_1 i (0, 0)).2 2))))).bind fun q7 =>
    (bif q7.1.2.2.1 then
     L9_17 k g10 k l_1 t t1 t2 told has kind i (IntKind.i64.wrap (2 + (IntKind.i64.wrap (Int.tmod (rd l_1 i (0, 0)).2 2)))) q7.1.1.1.1 q7.1.1.1.2 q7.1.1.2 q7.1.2.1.1 q7.1.2.1.2 0
    else
     L9_29 k g10 k l_1 q7.1.1.1.1 q7.1.1.1.2 q7.1.1.2 told has kind i 0)
   else
    ix l_1 i <|
    nz (told.length : Int) <|
    ix told (Int.tmod (IntKind.i64.wrap (rd l_1 i (0, 0)).2) (told.length : Int)) <|
    (S22 k ((t, t1), t2) (rd told (Int.tmod (IntKind.i64.wrap (rd l_1 i (0, 0)).2) (told.length : Int)) (0, 0))).bind fun q8 =>
    ix has (Int.tmod (IntKind.i64.wrap (rd l_1 i (0, 0)).2) (told.length : Int)) <|
    (bif !(q8.1.2.2.1 == (rd has (Int.tmod (IntKind.i64.wrap (rd l_1 i (0, 0)).2) (told.length : Int)) false)) then
     some ((false, ()), ())
    else
     ix has (Int.tmod (IntKind.i64.wrap (rd l_1 i (0, 0)).2) (told.length : Int)) <|
     L9_29 k g10 k l_1 q8.1.1.1.1 q8.1.1.1.2 q8.1.1.2 told (upd has (Int.tmod (IntKind.i64.wrap (rd l_1 i (0, 0)).2) (told.length : Int)) false) kind i 0)))
 else
  some ((true, ()), ()))
noncomputable def b9_10 (k : Nat) (g : ((Unit) × Y1_9 × Y1_4 × Y1_9 × (List Bool) × (List Int) × Int × Unit) → Option Y1_6) (d : (Unit) × Y1_9 × Y1_4 × Y1_9 × (List Bool) × (List Int) × Int × Unit) : Option Y1_6 := l9_10 k (fun l_1 t t1 t2 told has kind i => g ((), l_1, (t, t1, t2, ()), told, has, kind, i, ())) d.2.1 d.2.2.1.1 d.2.2.1.2.1 d.2.2.1.2.2.1 d.2.2.2.1 d.2.2.2.2.1 d.2.2.2.2.2.1 d.2.2.2.2.2.2.1
noncomputable def L9_10 (k : Nat) (j : Nat) (l_1 : Y1_8) (t : List Int) (t1 : List Bool) (t2 : List Y1_0) (told : Y1_8) (has : List Bool) (kind : List Int) (i : Int) : Option Y1_6 := iter (R := (Bool × Unit) × Unit) c9_L10 (b9_10 k) j ((), l_1, (t, t1, t2, ()), told, has, kind, i, ())
theorem L9_10_s (k : Nat) (j : Nat) (l_1 : Y1_8) (t : List Int) (t1 : List Bool) (t2 : List Y1_0) (told : Y1_8) (has : List Bool) (kind : List Int) (i : Int) : L9_10 k (j + 1) l_1 t t1 t2 told has kind i = l9_10 k (L9_10 k j) l_1 t t1 t2 told has kind i := iter_succ _ _ _ _
noncomputable def S9 (k : Nat) (l_ : Y1_8) : Option Y1_6 :=
 (S19 k).bind fun q0 =>
 (bif !q0.1.1 then
  some ((false, ()), ())
 else
  (bif decide ((l_.length : Int) > 60) then
   some ((true, ()), ())
  else
   (S20 k).bind fun q1 =>
   L9_10 k k l_ q1.1.1.1.1 q1.1.1.1.2 q1.1.1.2 ([] : List (Int × Int)) ([] : List Bool) ([] : List Int) 0))
noncomputable def E9 : Env := tab.env (lk [(19, F19), (20, F20), (21, F21), (22, F22), (23, F23)]) (hintL [(4, 2), (5, 2), (6, 2)])
theorem E9_ok : EnvOK Try.prog E9 := envOK_of tabOK _ _ (allFn_lk (l := [(19, F19), (20, F20), (21, F21), (22, F22), (23, F23)]) ⟨ok19, ok20, ok21, ok22, ok23, trivial⟩)
noncomputable def B9 (k : Nat) : Tbl (RD R9 × MD P9) := (.loop 10 c9_L10 (b9_10 k) (fun g => (fun (g10 : Y1_2) => (.loop 29 c9_L29 (b9_29 k g10) (fun g => .nil) (.loop 17 c9_L17 (b9_17 k g10) (fun g => .nil) .nil))) (fun l_1 t t1 t2 told has kind i => g ((), l_1, (t, t1, t2, ()), told, has, kind, i, ()))) .nil)
noncomputable def F9 : Fn := ⟨P9, R9, fun k x => S9 k x.1⟩
theorem ok9 : FnOK Try.prog 9 F9 := evalF_ok (E := E9) (T := B9) E9_ok mix Try.func9 rfl (by kernel_rfl) (by kernel_rfl) (fun k => by kernel_rfl) (fun k x => by kernel_rfl)
end Go.Proofs.Ytnlfdfjkgaanjaa.Ab
