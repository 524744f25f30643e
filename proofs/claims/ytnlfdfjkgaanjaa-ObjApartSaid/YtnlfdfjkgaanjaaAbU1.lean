import Derived.Test.YtnlfdfjkgaanjaaAbU0
/- Contracts, printed by this session's own program gen.py. -/
set_option linter.unusedVariables false
set_option linter.unusedSimpArgs false
set_option maxRecDepth 100000
namespace Go.Proofs.Ytnlfdfjkgaanjaa.Ab
open Go.RowKit Go.Proofs.YtnlfdfjkgaanjaaW.PrintWords
abbrev Y1_0 : Type := Int × (Int × Int) × (Int × Int) × ((List Int) × List Int) × (Int × List (Int × Int)) × Int
abbrev Y1_1 : Ty := .pair (.int .i64) (.pair (.pair (.int .i64) (.int .i64)) (.pair (.pair (.int .i64) (.int .i64)) (.pair (.pair (.sl 2 (.int .i64)) (.sl 3 (.int .i64))) (.pair (.pair (.int .u32) (.sl 163 (.pair (.int .i64) (.int .u32)))) (.int .u32)))))
abbrev Y1_2 : Type := ((((List Int) × List Bool) × List Y1_0) × (List Int) × (List (List Int)) × Unit) × Unit
abbrev Y1_3 : Ty := .pair (.pair (.sl 3 (.int .i64)) (.sl 4 .bool)) (.sl 65 Y1_1)
abbrev Y1_4 : Type := (Bool × Unit) × Unit
abbrev Y1_5 : Type := (List Int) → (List Bool) → (List Y1_0) → (List Int) → (List Bool) → (List Y1_0) → (List Int) → (List (List Int)) → (List Y1_0) → Int → Int → Option Y1_2
abbrev Y1_6 : Type := ((((List Int) × List Bool) × List Y1_0) × Unit) × Unit
abbrev Y1_7 : Type := (List Int) × (List Bool) × (List Y1_0) × Unit
abbrev Y1_8 : Type := Int × (Int × Int) × (Int × Int) × ((List Int) × List Int) × (Int × List (Int × Int)) × Int
abbrev Y1_9 : Ty := .sl 3 (.int .i64)
abbrev Y1_10 : Ty := .sl 163 (.pair (.int .i64) (.int .u32))
abbrev Y1_11 : Type := (List Int) × (List Int) × Unit
abbrev Y1_12 : Type := (List Int) × List Bool
abbrev Y1_13 : Type := ((List Int) × Unit) × Unit
abbrev Y1_14 : Ty := .pair (.int .i64) (.int .i64)
abbrev Y1_15 : Type := List (Int × Int)
noncomputable abbrev P28 : List PT := [.val ⟨true, Y1_3, false⟩]
noncomputable abbrev R28 : List RT := [.val ⟨true, Y1_3, true⟩, .val ⟨false, Y1_9, true⟩, .val ⟨false, (.sl 44 Y1_9), true⟩]
noncomputable abbrev c28_J9 : Cut := ⟨[1, 2, 3, 4, 5, 6, 7, 11, 12, 13], [.box 50 [.cell Y1_9, .cell (.sl 4 .bool), .cell (.sl 65 Y1_1)], .box 50 [.own 3 (.int .i64), .own 4 .bool, .own 65 Y1_1], .own 3 (.int .i64), .own 44 Y1_9, .cell (.int .i64), .box 65 [.cell (.int .i64), .cell (.int .i64), .cell (.int .i64), .cell (.int .i64), .cell (.int .i64), .cell (.sl 2 (.int .i64)), .cell Y1_9, .cell (.int .u32), .cell Y1_10, .cell (.int .u32)], .box 65 [.cell (.int .i64), .cell (.int .i64), .cell (.int .i64), .cell (.int .i64), .cell (.int .i64), .own 2 (.int .i64), .own 3 (.int .i64), .cell (.int .u32), .own 163 (.pair (.int .i64) (.int .u32)), .cell (.int .u32)], .cell (.sl 65 Y1_1), .cell (.int .i64), .cell (.int .i64)], [], 61⟩
noncomputable def j28_9 (k : Nat) (g3 : Y1_5) (t4 : List Int) (t5 : List Bool) (t6 : List Y1_0) (out3 : List Int) (out4 : List Bool) (out5 : List Y1_0) (places1 : List Int) (who1 : List (List Int)) (at_ : Int) (x : Int) (x1 : Int) (x2 : Int) (x3 : Int) (x4 : Int) (x5 : List Int) (x6 : List Int) (x7 : Int) (x8 : Y1_15) (x9 : Int) (y : Int) (y1 : Int) (y2 : Int) (y3 : Int) (y4 : Int) (y5 : List Int) (y6 : List Int) (y7 : Int) (y8 : Y1_15) (y9 : Int) (t11_1 : List Y1_0) (t12_1 : Int) (t13_1 : Int) : Option Y1_2 :=
 (S47 k (y, (y1, y2), (y3, y4), (y5, y6), (y7, y8), y9)).bind fun q4 =>
 ix out5 at_ <|
 ap places1 ([at_] : List Int) 8 fun r5 =>
 (S50 k (x, (x1, x2), (x3, x4), (x5, x6), (x7, x8), x9)).bind fun q6 =>
 ap who1 ([q6.1.1] : List (List Int)) 24 fun r7 =>
 g3 t4 t5 t6 out3 out4 (upd out5 at_ q4.1.1) r5 r7 t11_1 t12_1 (IntKind.i64.wrap (t13_1 + 1))
noncomputable abbrev c28_L3 : Cut := ⟨[1, 2, 3, 4, 11, 12, 13], [.box 50 [.cell Y1_9, .cell (.sl 4 .bool), .cell (.sl 65 Y1_1)], .box 50 [.own 3 (.int .i64), .own 4 .bool, .own 65 Y1_1], .own 3 (.int .i64), .own 44 Y1_9, .cell (.sl 65 Y1_1), .cell (.int .i64), .cell (.int .i64)], [], 61⟩
noncomputable def l28_3 (k : Nat) (g3 : Y1_5) (t1 : List Int) (t2 : List Bool) (t3 : List Y1_0) (out : List Int) (out1 : List Bool) (out2 : List Y1_0) (places : List Int) (who : List (List Int)) (t11 : List Y1_0) (t12 : Int) (t13 : Int) : Option Y1_2 :=
 (bif decide (t13 < t12) then
  ix t11 t13 <|
  (S52 k ((t1, t2), t3) t13).bind fun q1 =>
  (bif !q1.1.1 then
   g3 t1 t2 t3 out out1 out2 places who t11 t12 (IntKind.i64.wrap (t13 + 1))
  else
   (S54 k (rd t11 t13 (0, (0, 0), (0, 0), ([], []), (0, []), 0))).bind fun q2 =>
   (bif (rd t11 t13 (0, (0, 0), (0, 0), ([], []), (0, []), 0)).2.2.2.2.2 == q2.1.1 then
    g3 t1 t2 t3 out out1 out2 places who t11 t12 (IntKind.i64.wrap (t13 + 1))
   else
    (S48 k (rd t11 t13 (0, (0, 0), (0, 0), ([], []), (0, []), 0)).1 (rd t11 t13 (0, (0, 0), (0, 0), ([], []), (0, []), 0)).2.1).bind fun q3 =>
    (bif (rd t11 t13 (0, (0, 0), (0, 0), ([], []), (0, []), 0)).1 == 1 then
     j28_9 k g3 t1 t2 t3 out out1 out2 places who t13 (rd t11 t13 (0, (0, 0), (0, 0), ([], []), (0, []), 0)).1 (rd t11 t13 (0, (0, 0), (0, 0), ([], []), (0, []), 0)).2.1.1 (rd t11 t13 (0, (0, 0), (0, 0), ([], []), (0, []), 0)).2.1.2 (rd t11 t13 (0, (0, 0), (0, 0), ([], []), (0, []), 0)).2.2.1.1 (rd t11 t13 (0, (0, 0), (0, 0), ([], []), (0, []), 0)).2.2.1.2 (rd t11 t13 (0, (0, 0), (0, 0), ([], []), (0, []), 0)).2.2.2.1.1 (rd t11 t13 (0, (0, 0), (0, 0), ([], []), (0, []), 0)).2.2.2.1.2 (rd t11 t13 (0, (0, 0), (0, 0), ([], []), (0, []), 0)).2.2.2.2.1.1 (rd t11 t13 (0, (0, 0), (0, 0), ([], []), (0, []), 0)).2.2.2.2.1.2 (rd t11 t13 (0, (0, 0), (0, 0), ([], []), (0, []), 0)).2.2.2.2.2 q3.1.1.1 q3.1.1.2.1.1 q3.1.1.2.1.2 (rd t11 t13 (0, (0, 0), (0, 0), ([], []), (0, []), 0)).2.2.1.1 q3.1.1.2.2.1.2 q3.1.1.2.2.2.1.1 q3.1.1.2.2.2.1.2 q3.1.1.2.2.2.2.1.1 q3.1.1.2.2.2.2.1.2 q3.1.1.2.2.2.2.2 t11 t12 t13
    else
     j28_9 k g3 t1 t2 t3 out out1 out2 places who t13 (rd t11 t13 (0, (0, 0), (0, 0), ([], []), (0, []), 0)).1 (rd t11 t13 (0, (0, 0), (0, 0), ([], []), (0, []), 0)).2.1.1 (rd t11 t13 (0, (0, 0), (0, 0), ([], []), (0, []), 0)).2.1.2 (rd t11 t13 (0, (0, 0), (0, 0), ([], []), (0, []), 0)).2.2.1.1 (rd t11 t13 (0, (0, 0), (0, 0), ([], []), (0, []), 0)).2.2.1.2 (rd t11 t13 (0, (0, 0), (0, 0), ([], []), (0, []), 0)).2.2.2.1.1 (rd t11 t13 (0, (0, 0), (0, 0), ([], []), (0, []), 0)).2.2.2.1.2 (rd t11 t13 (0, (0, 0), (0, 0), ([], []), (0, []), 0)).2.2.2.2.1.1 (rd t11 t13 (0, (0, 0), (0, 0), ([], []), (0, []), 0)).2.2.2.2.1.2 (rd t11 t13 (0, (0, 0), (0, 0), ([], []), (0, []), 0)).2.2.2.2.2 q3.1.1.1 q3.1.1.2.1.1 q3.1.1.2.1.2 q3.1.1.2.2.1.1 q3.1.1.2.2.1.2 q3.1.1.2.2.2.1.1 q3.1.1.2.2.2.1.2 q3.1.1.2.2.2.2.1.1 q3.1.1.2.2.2.2.1.2 q3.1.1.2.2.2.2.2 t11 t12 t13)))
 else
  some ((((out, out1), out2), places, who, ()), ()))
noncomputable def b28_3 (k : Nat) (g : ((Unit) × Y1_7 × Y1_7 × (List Int) × (List (List Int)) × (List Y1_0) × Int × Int × Unit) → Option Y1_2) (d : (Unit) × Y1_7 × Y1_7 × (List Int) × (List (List Int)) × (List Y1_0) × Int × Int × Unit) : Option Y1_2 := l28_3 k (fun t1 t2 t3 out out1 out2 places who t11 t12 t13 => g ((), (t1, t2, t3, ()), (out, out1, out2, ()), places, who, t11, t12, t13, ())) d.2.1.1 d.2.1.2.1 d.2.1.2.2.1 d.2.2.1.1 d.2.2.1.2.1 d.2.2.1.2.2.1 d.2.2.2.1 d.2.2.2.2.1 d.2.2.2.2.2.1 d.2.2.2.2.2.2.1 d.2.2.2.2.2.2.2.1
noncomputable def L28_3 (k : Nat) (j : Nat) (t1 : List Int) (t2 : List Bool) (t3 : List Y1_0) (out : List Int) (out1 : List Bool) (out2 : List Y1_0) (places : List Int) (who : List (List Int)) (t11 : List Y1_0) (t12 : Int) (t13 : Int) : Option Y1_2 := iter (R := ((Y1_12 × List Y1_0) × (List Int) × (List (List Int)) × Unit) × Unit) c28_L3 (b28_3 k) j ((), (t1, t2, t3, ()), (out, out1, out2, ()), places, who, t11, t12, t13, ())
theorem L28_3_s (k : Nat) (j : Nat) (t1 : List Int) (t2 : List Bool) (t3 : List Y1_0) (out : List Int) (out1 : List Bool) (out2 : List Y1_0) (places : List Int) (who : List (List Int)) (t11 : List Y1_0) (t12 : Int) (t13 : Int) : L28_3 k (j + 1) t1 t2 t3 out out1 out2 places who t11 t12 t13 = l28_3 k (L28_3 k j) t1 t2 t3 out out1 out2 places who t11 t12 t13 := iter_succ _ _ _ _
noncomputable def S28 (k : Nat) (t : Y1_12 × List Y1_0) : Option Y1_2 :=
 (S45 k t).bind fun q0 =>
 L28_3 k k t.1.1 t.1.2 t.2 q0.1.1.1.1 q0.1.1.1.2 q0.1.1.2 ([] : List Int) ([] : List (List Int)) t.2 (t.2.length : Int) 0
noncomputable def E28 : Env := tab.env (lk [(45, F45), (47, F47), (48, F48), (50, F50), (52, F52), (54, F54)]) (hintL [(3, 2), (4, 2)])
theorem E28_ok : EnvOK Try.prog E28 := envOK_of tabOK _ _ (allFn_lk (l := [(45, F45), (47, F47), (48, F48), (50, F50), (52, F52), (54, F54)]) ⟨ok45, ok47, ok48, ok50, ok52, ok54, trivial⟩)
noncomputable def B28 (k : Nat) : Tbl (RD R28 × MD P28) := (.loop 3 c28_L3 (b28_3 k) (fun g => (fun (g3 : Y1_5) => (.join 9 c28_J9 (fun d => j28_9 k g3 d.2.1.1 d.2.1.2.1 d.2.1.2.2.1 d.2.2.1.1 d.2.2.1.2.1 d.2.2.1.2.2.1 d.2.2.2.1 d.2.2.2.2.1 d.2.2.2.2.2.1 d.2.2.2.2.2.2.1.1 d.2.2.2.2.2.2.1.2.1 d.2.2.2.2.2.2.1.2.2.1 d.2.2.2.2.2.2.1.2.2.2.1 d.2.2.2.2.2.2.1.2.2.2.2.1 d.2.2.2.2.2.2.1.2.2.2.2.2.1 d.2.2.2.2.2.2.1.2.2.2.2.2.2.1 d.2.2.2.2.2.2.1.2.2.2.2.2.2.2.1 d.2.2.2.2.2.2.1.2.2.2.2.2.2.2.2.1 d.2.2.2.2.2.2.1.2.2.2.2.2.2.2.2.2.1 d.2.2.2.2.2.2.2.1.1 d.2.2.2.2.2.2.2.1.2.1 d.2.2.2.2.2.2.2.1.2.2.1 d.2.2.2.2.2.2.2.1.2.2.2.1 d.2.2.2.2.2.2.2.1.2.2.2.2.1 d.2.2.2.2.2.2.2.1.2.2.2.2.2.1 d.2.2.2.2.2.2.2.1.2.2.2.2.2.2.1 d.2.2.2.2.2.2.2.1.2.2.2.2.2.2.2.1 d.2.2.2.2.2.2.2.1.2.2.2.2.2.2.2.2.1 d.2.2.2.2.2.2.2.1.2.2.2.2.2.2.2.2.2.1 d.2.2.2.2.2.2.2.2.1 d.2.2.2.2.2.2.2.2.2.1 d.2.2.2.2.2.2.2.2.2.2.1) .nil)) (fun t1 t2 t3 out out1 out2 places who t11 t12 t13 => g ((), (t1, t2, t3, ()), (out, out1, out2, ()), places, who, t11, t12, t13, ()))) .nil)
noncomputable def F28 : Fn := ⟨P28, R28, fun k x => S28 k x.1⟩
theorem ok28 : FnOK Try.prog 28 F28 := evalF_ok (E := E28) (T := B28) E28_ok mix Try.func28 rfl (by kernel_rfl) (by kernel_rfl) (fun k => by kernel_rfl) (fun k x => by kernel_rfl)
noncomputable abbrev P49 : List PT := [.val ⟨true, (.pair Y1_9 (.sl 4 .bool)), false⟩, .val ⟨true, Y1_14, false⟩]
noncomputable abbrev R49 : List RT := [.val ⟨true, (.pair Y1_9 (.sl 4 .bool)), true⟩, .val ⟨false, .bool, true⟩]
noncomputable def S49 (k : Nat) (s : (List Int) × List Bool) (h : Int × Int) : Option ((Y1_12 × Bool × Unit) × Unit) :=
 (S80 k s).bind fun q0 =>
 (S51 k q0.1.1 h).bind fun q1 =>
 (bif !q1.1.1 then
  some ((q0.1.1, false, ()), ())
 else
  ix q0.1.1.2 h.1 <|
  some (((q0.1.1.1, upd q0.1.1.2 h.1 false), true, ()), ()))
noncomputable def E49 : Env := tab.env (lk [(51, F51), (80, F80)]) (hintL [])
theorem E49_ok : EnvOK Try.prog E49 := envOK_of tabOK _ _ (allFn_lk (l := [(51, F51), (80, F80)]) ⟨ok51, ok80, trivial⟩)
noncomputable def B49 (k : Nat) : Tbl (RD R49 × MD P49) := .nil
noncomputable def F49 : Fn := ⟨P49, R49, fun k x => S49 k x.1 x.2.1⟩
theorem ok49 : FnOK Try.prog 49 F49 := evalF_ok (E := E49) (T := B49) E49_ok mix Try.func49 rfl (by kernel_rfl) (by kernel_rfl) (fun k => by kernel_rfl) (fun k x => by kernel_rfl)
noncomputable abbrev P22 : List PT := [.val ⟨true, Y1_3, false⟩, .val ⟨true, Y1_14, false⟩]
noncomputable abbrev R22 : List RT := [.val ⟨true, Y1_3, true⟩, .val ⟨false, Y1_9, true⟩, .val ⟨false, .bool, true⟩]
noncomputable def S22 (k : Nat) (t : Y1_12 × List Y1_0) (h : Int × Int) : Option (((Y1_12 × List Y1_0) × (List Int) × Bool × Unit) × Unit) :=
 (S45 k t).bind fun q0 =>
 (S23 k t h).bind fun q1 =>
 (bif !q1.1.2.1 then
  some ((q0.1.1, [], false, ()), ())
 else
  ix t.2 q1.1.1 <|
  (bif (rd t.2 q1.1.1 (0, (0, 0), (0, 0), ([], []), (0, []), 0)).1 == 1 then
   some ((q0.1.1, [], false, ()), ())
  else
   (S49 k q0.1.1.1 h).bind fun q2 =>
   ix q0.1.1.2 q1.1.1 <|
   ix t.2 q1.1.1 <|
   (S50 k (rd t.2 q1.1.1 (0, (0, 0), (0, 0), ([], []), (0, []), 0))).bind fun q3 =>
   some (((q2.1.1, upd q0.1.1.2 q1.1.1 (0, (0, 0), (0, 0), ([], []), (0, []), 0)), q3.1.1, true, ()), ())))
noncomputable def E22 : Env := tab.env (lk [(23, F23), (45, F45), (49, F49), (50, F50)]) (hintL [])
theorem E22_ok : EnvOK Try.prog E22 := envOK_of tabOK _ _ (allFn_lk (l := [(23, F23), (45, F45), (49, F49), (50, F50)]) ⟨ok23, ok45, ok49, ok50, trivial⟩)
noncomputable def B22 (k : Nat) : Tbl (RD R22 × MD P22) := .nil
noncomputable def F22 : Fn := ⟨P22, R22, fun k x => S22 k x.1 x.2.1⟩
theorem ok22 : FnOK Try.prog 22 F22 := evalF_ok (E := E22) (T := B22) E22_ok mix Try.func22 rfl (by kernel_rfl) (by kernel_rfl) (fun k => by kernel_rfl) (fun k x => by kernel_rfl)
noncomputable abbrev P25 : List PT := [.val ⟨true, Y1_3, false⟩]
noncomputable abbrev R25 : List RT := [.val ⟨false, Y1_9, true⟩]
noncomputable abbrev c25_L2 : Cut := ⟨[2, 6, 7, 8], [.own 3 (.int .i64), .cell (.sl 65 Y1_1), .cell (.int .i64), .cell (.int .i64)], [], 22⟩
noncomputable def l25_2 (k : Nat) (g2 : (List Int) → (List Y1_0) → Int → Int → Option Y1_13) (out : List Int) (t6 : List Y1_0) (t7 : Int) (t8 : Int) : Option Y1_13 :=
 (bif decide (t8 < t7) then
  ix t6 t8 <|
  (bif (rd t6 t8 (0, (0, 0), (0, 0), ([], []), (0, []), 0)).1 == 1 then
   ap out ([t8] : List Int) 8 fun r0 =>
   g2 r0 t6 t7 (IntKind.i64.wrap (t8 + 1))
  else
   g2 out t6 t7 (IntKind.i64.wrap (t8 + 1)))
 else
  some ((out, ()), ()))
noncomputable def b25_2 (k : Nat) (g : ((Unit) × (List Int) × (List Y1_0) × Int × Int × Unit) → Option Y1_13) (d : (Unit) × (List Int) × (List Y1_0) × Int × Int × Unit) : Option Y1_13 := l25_2 k (fun out t6 t7 t8 => g ((), out, t6, t7, t8, ())) d.2.1 d.2.2.1 d.2.2.2.1 d.2.2.2.2.1
noncomputable def L25_2 (k : Nat) (j : Nat) (out : List Int) (t6 : List Y1_0) (t7 : Int) (t8 : Int) : Option Y1_13 := iter (R := ((List Int) × Unit) × Unit) c25_L2 (b25_2 k) j ((), out, t6, t7, t8, ())
theorem L25_2_s (k : Nat) (j : Nat) (out : List Int) (t6 : List Y1_0) (t7 : Int) (t8 : Int) : L25_2 k (j + 1) out t6 t7 t8 = l25_2 k (L25_2 k j) out t6 t7 t8 := iter_succ _ _ _ _
noncomputable def S25 (k : Nat) (t : Y1_12 × List Y1_0) : Option Y1_13 :=
 L25_2 k k ([] : List Int) t.2 (t.2.length : Int) 0
noncomputable def E25 : Env := tab.env (lk []) (hintL [(2, 2)])
theorem E25_ok : EnvOK Try.prog E25 := envOK_of tabOK _ _ (fun f F h => by cases h)
noncomputable def B25 (k : Nat) : Tbl (RD R25 × MD P25) := (.loop 2 c25_L2 (b25_2 k) (fun g => .nil) .nil)
noncomputable def F25 : Fn := ⟨P25, R25, fun k x => S25 k x.1⟩
theorem ok25 : FnOK Try.prog 25 F25 := evalF_ok (E := E25) (T := B25) E25_ok mix Try.func25 rfl (by kernel_rfl) (by kernel_rfl) (fun k => by kernel_rfl) (fun k x => by kernel_rfl)
noncomputable abbrev P19 : List PT := []
noncomputable abbrev R19 : List RT := [.val ⟨false, .bool, true⟩]
noncomputable def S19 (k : Nat) : Option Y1_4 :=
 (S20 k).bind fun q0 =>
 (S21 k q0.1.1 2).bind fun q1 =>
 (S23 k q1.1.1 q1.1.2.1).bind fun q2 =>
 (S24 k q1.1.1 0).bind fun q3 =>
 (S28 k q3.1.1).bind fun q4 =>
 (S22 k q4.1.1 q1.1.2.1).bind fun q5 =>
 (S22 k q5.1.1 q1.1.2.1).bind fun q6 =>
 (bif q1.1.2.2.1 then
  (bif beqD Y1_14 q1.1.2.1 (0, 1) then
   (bif q2.1.2.1 then
    (bif q2.1.1 == 0 then
     (bif q3.1.2.1 then
      (bif (q4.1.2.1.length : Int) == 1 then
       ix q4.1.2.1 0 <|
       (bif (rd q4.1.2.1 0 0) == 0 then
        (bif (q4.1.2.2.1.length : Int) == 1 then
         (bif q5.1.2.2.1 then
          (bif !q6.1.2.2.1 then
           (bif (q4.1.1.2.length : Int) == 12 then
            ix q4.1.1.2 0 <|
            (bif (rd q4.1.1.2 0 (0, (0, 0), (0, 0), ([], []), (0, []), 0)).1 == 2 then
             (S25 k q1.1.1).bind fun q7 =>
             some (((q7.1.1.length : Int) == 0, ()), ())
            else
             some ((false, ()), ()))
           else
            some ((false, ()), ()))
          else
           some ((false, ()), ()))
         else
          some ((false, ()), ()))
        else
         some ((false, ()), ()))
       else
        some ((false, ()), ()))
      else
       some ((false, ()), ()))
     else
      some ((false, ()), ()))
    else
     some ((false, ()), ()))
   else
    some ((false, ()), ()))
  else
   some ((false, ()), ()))
 else
  some ((false, ()), ()))
noncomputable def E19 : Env := tab.env (lk [(20, F20), (21, F21), (22, F22), (23, F23), (24, F24), (25, F25), (28, F28)]) (hintL [])
theorem E19_ok : EnvOK Try.prog E19 := envOK_of tabOK _ _ (allFn_lk (l := [(20, F20), (21, F21), (22, F22), (23, F23), (24, F24), (25, F25), (28, F28)]) ⟨ok20, ok21, ok22, ok23, ok24, ok25, ok28, trivial⟩)
noncomputable def B19 (k : Nat) : Tbl (RD R19 × MD P19) := .nil
noncomputable def F19 : Fn := ⟨P19, R19, fun k x => S19 k ⟩
theorem ok19 : FnOK Try.prog 19 F19 := evalF_ok (E := E19) (T := B19) E19_ok mix Try.func19 rfl (by kernel_rfl) (by kernel_rfl) (fun k => by kernel_rfl) (fun k x => by kernel_rfl)
noncomputable abbrev P26 : List PT := [.val ⟨true, Y1_3, false⟩, .val ⟨false, (.int .i64), false⟩, .val ⟨true, Y1_1, false⟩]
noncomputable abbrev R26 : List RT := [.val ⟨true, Y1_3, true⟩]
noncomputable def S26 (k : Nat) (t : Y1_12 × List Y1_0) (at_ : Int) (x : Y1_8) : Option Y1_6 :=
 (S45 k t).bind fun q0 =>
 (S52 k t at_).bind fun q1 =>
 (bif !q1.1.1 then
  some ((q0.1.1, ()), ())
 else
  ix t.2 at_ <|
  (S53 k ((rd t.2 at_ (0, (0, 0), (0, 0), ([], []), (0, []), 0)).1, (rd t.2 at_ (0, (0, 0), (0, 0), ([], []), (0, []), 0)).2.1, x.2.2)).bind fun q2 =>
  (S47 k q2.1.1).bind fun q3 =>
  (S54 k (rd t.2 at_ (0, (0, 0), (0, 0), ([], []), (0, []), 0))).bind fun q4 =>
  (bif (rd t.2 at_ (0, (0, 0), (0, 0), ([], []), (0, []), 0)).2.2.2.2.2 != q4.1.1 then
   ix q0.1.1.2 at_ <|
   some (((q0.1.1.1, upd q0.1.1.2 at_ (q3.1.1.1, q3.1.1.2.1, q3.1.1.2.2.1, q3.1.1.2.2.2.1, q3.1.1.2.2.2.2.1, inot .u32 q3.1.1.2.2.2.2.2)), ()), ())
  else
   ix q0.1.1.2 at_ <|
   some (((q0.1.1.1, upd q0.1.1.2 at_ q3.1.1), ()), ())))
noncomputable def E26 : Env := tab.env (lk [(45, F45), (47, F47), (52, F52), (53, F53), (54, F54)]) (hintL [])
theorem E26_ok : EnvOK Try.prog E26 := envOK_of tabOK _ _ (allFn_lk (l := [(45, F45), (47, F47), (52, F52), (53, F53), (54, F54)]) ⟨ok45, ok47, ok52, ok53, ok54, trivial⟩)
noncomputable def B26 (k : Nat) : Tbl (RD R26 × MD P26) := .nil
noncomputable def F26 : Fn := ⟨P26, R26, fun k x => S26 k x.1 x.2.1 x.2.2.1⟩
theorem ok26 : FnOK Try.prog 26 F26 := evalF_ok (E := E26) (T := B26) E26_ok mix Try.func26 rfl (by kernel_rfl) (by kernel_rfl) (fun k => by kernel_rfl) (fun k x => by kernel_rfl)
noncomputable abbrev P55 : List PT := [.val ⟨true, Y1_1, false⟩]
noncomputable abbrev R55 : List RT := [.val ⟨true, Y1_1, false⟩]
noncomputable def S55 (k : Nat) (x : Y1_8) : Option ((Y1_0 × Unit) × Unit) :=
 some ((x, ()), ())
noncomputable def E55 : Env := tab.env (lk []) (hintL [])
theorem E55_ok : EnvOK Try.prog E55 := envOK_of tabOK _ _ (fun f F h => by cases h)
noncomputable def B55 (k : Nat) : Tbl (RD R55 × MD P55) := .nil
noncomputable def F55 : Fn := ⟨P55, R55, fun k x => S55 k x.1⟩
theorem ok55 : FnOK Try.prog 55 F55 := evalF_ok (E := E55) (T := B55) E55_ok mix Try.func55 rfl (by kernel_rfl) (by kernel_rfl) (fun k => by kernel_rfl) (fun k x => by kernel_rfl)
noncomputable abbrev P27 : List PT := [.val ⟨true, Y1_3, false⟩]
noncomputable abbrev R27 : List RT := [.val ⟨true, (.pair (.pair Y1_9 (.sl 4 .bool)) (.sl 87 Y1_1)), false⟩]
noncomputable abbrev c27_L3 : Cut := ⟨[1, 2, 3, 4], [.box 50 [.cell Y1_9, .cell (.sl 4 .bool), .cell (.sl 65 Y1_1)], .box 82 [.nil, .nil, .nil], .box 82 [.cell Y1_9, .cell (.sl 4 .bool), .own 87 Y1_1], .cell (.int .i64)], [], 32⟩
noncomputable def l27_3 (k : Nat) (g3 : (List Int) → (List Bool) → (List Y1_0) → (List Int) → (List Bool) → (List Y1_0) → Int → Option Y1_6) (t1 : List Int) (t2 : List Bool) (t3 : List Y1_0) (x : List Int) (x1 : List Bool) (x2 : List Y1_0) (i : Int) : Option Y1_6 :=
 (bif decide (i < (t3.length : Int)) then
  ix t3 i <|
  (S55 k (rd t3 i (0, (0, 0), (0, 0), ([], []), (0, []), 0))).bind fun q0 =>
  ap x2 ([q0.1.1] : List Y1_0) 128 fun r1 =>
  g3 t1 t2 t3 x x1 r1 (IntKind.i64.wrap (i + 1))
 else
  some ((((x, x1), x2), ()), ()))
noncomputable def b27_3 (k : Nat) (g : ((Unit) × Y1_7 × (Unit × Unit × Unit × Unit) × Y1_7 × Int × Unit) → Option Y1_6) (d : (Unit) × Y1_7 × (Unit × Unit × Unit × Unit) × Y1_7 × Int × Unit) : Option Y1_6 := l27_3 k (fun t1 t2 t3 x x1 x2 i => g ((), (t1, t2, t3, ()), ((), (), (), ()), (x, x1, x2, ()), i, ())) d.2.1.1 d.2.1.2.1 d.2.1.2.2.1 d.2.2.2.1.1 d.2.2.2.1.2.1 d.2.2.2.1.2.2.1 d.2.2.2.2.1
noncomputable def L27_3 (k : Nat) (j : Nat) (t1 : List Int) (t2 : List Bool) (t3 : List Y1_0) (x : List Int) (x1 : List Bool) (x2 : List Y1_0) (i : Int) : Option Y1_6 := iter (R := ((Y1_12 × List Y1_0) × Unit) × Unit) c27_L3 (b27_3 k) j ((), (t1, t2, t3, ()), ((), (), (), ()), (x, x1, x2, ()), i, ())
theorem L27_3_s (k : Nat) (j : Nat) (t1 : List Int) (t2 : List Bool) (t3 : List Y1_0) (x : List Int) (x1 : List Bool) (x2 : List Y1_0) (i : Int) : L27_3 k (j + 1) t1 t2 t3 x x1 x2 i = l27_3 k (L27_3 k j) t1 t2 t3 x x1 x2 i := iter_succ _ _ _ _
noncomputable def S27 (k : Nat) (t : Y1_12 × List Y1_0) : Option Y1_6 :=
 L27_3 k k t.1.1 t.1.2 t.2 t.1.1 t.1.2 ([] : List Y1_0) 0
noncomputable def E27 : Env := tab.env (lk [(55, F55)]) (hintL [(12, 2)])
theorem E27_ok : EnvOK Try.prog E27 := envOK_of tabOK _ _ (allFn_lk (l := [(55, F55)]) ⟨ok55, trivial⟩)
noncomputable def B27 (k : Nat) : Tbl (RD R27 × MD P27) := (.loop 3 c27_L3 (b27_3 k) (fun g => .nil) .nil)
noncomputable def F27 : Fn := ⟨P27, R27, fun k x => S27 k x.1⟩
theorem ok27 : FnOK Try.prog 27 F27 := evalF_ok (E := E27) (T := B27) E27_ok mix Try.func27 rfl (by kernel_rfl) (by kernel_rfl) (fun k => by kernel_rfl) (fun k x => by kernel_rfl)
noncomputable abbrev P31 : List PT := [.val ⟨true, (.pair (.sl 2 (.int .i64)) Y1_9), false⟩, .val ⟨true, (.pair (.sl 2 (.int .i64)) Y1_9), false⟩]
noncomputable abbrev R31 : List RT := [.val ⟨false, .bool, true⟩]
noncomputable abbrev c31_L9 : Cut := ⟨[2, 3, 6], [.box 59 [.cell (.sl 2 (.int .i64)), .cell Y1_9], .box 59 [.cell (.sl 2 (.int .i64)), .cell Y1_9], .cell (.int .i64)], [], 59⟩
noncomputable def l31_9 (k : Nat) (g9 : (List Int) → (List Int) → (List Int) → (List Int) → Int → Option Y1_4) (a3 : List Int) (a4 : List Int) (b3 : List Int) (b4 : List Int) (i1 : Int) : Option Y1_4 :=
 (bif decide (i1 < (a4.length : Int)) then
  ix a4 i1 <|
  ix b4 i1 <|
  (bif (rd a4 i1 0) != (rd b4 i1 0) then
   some ((false, ()), ())
  else
   g9 a3 a4 b3 b4 (IntKind.i64.wrap (i1 + 1)))
 else
  some ((true, ()), ()))
noncomputable def b31_9 (k : Nat) (g : ((Unit) × Y1_11 × Y1_11 × Int × Unit) → Option Y1_4) (d : (Unit) × Y1_11 × Y1_11 × Int × Unit) : Option Y1_4 := l31_9 k (fun a3 a4 b3 b4 i1 => g ((), (a3, a4, ()), (b3, b4, ()), i1, ())) d.2.1.1 d.2.1.2.1 d.2.2.1.1 d.2.2.1.2.1 d.2.2.2.1
noncomputable def L31_9 (k : Nat) (j : Nat) (a3 : List Int) (a4 : List Int) (b3 : List Int) (b4 : List Int) (i1 : Int) : Option Y1_4 := iter (R := (Bool × Unit) × Unit) c31_L9 (b31_9 k) j ((), (a3, a4, ()), (b3, b4, ()), i1, ())
theorem L31_9_s (k : Nat) (j : Nat) (a3 : List Int) (a4 : List Int) (b3 : List Int) (b4 : List Int) (i1 : Int) : L31_9 k (j + 1) a3 a4 b3 b4 i1 = l31_9 k (L31_9 k j) a3 a4 b3 b4 i1 := iter_succ _ _ _ _
noncomputable abbrev c31_L4 : Cut := ⟨[2, 3, 5], [.box 59 [.cell (.sl 2 (.int .i64)), .cell Y1_9], .box 59 [.cell (.sl 2 (.int .i64)), .cell Y1_9], .cell (.int .i64)], [], 59⟩
noncomputable def l31_4 (k : Nat) (g4 : (List Int) → (List Int) → (List Int) → (List Int) → Int → Option Y1_4) (a1 : List Int) (a2 : List Int) (b1 : List Int) (b2 : List Int) (i : Int) : Option Y1_4 :=
 (bif decide (i < (a1.length : Int)) then
  ix a1 i <|
  ix b1 i <|
  (bif (rd a1 i 0) != (rd b1 i 0) then
   some ((false, ()), ())
  else
   g4 a1 a2 b1 b2 (IntKind.i64.wrap (i + 1)))
 else
  L31_9 k k a1 a2 b1 b2 0)
noncomputable def b31_4 (k : Nat) (g : ((Unit) × Y1_11 × Y1_11 × Int × Unit) → Option Y1_4) (d : (Unit) × Y1_11 × Y1_11 × Int × Unit) : Option Y1_4 := l31_4 k (fun a1 a2 b1 b2 i => g ((), (a1, a2, ()), (b1, b2, ()), i, ())) d.2.1.1 d.2.1.2.1 d.2.2.1.1 d.2.2.1.2.1 d.2.2.2.1
noncomputable def L31_4 (k : Nat) (j : Nat) (a1 : List Int) (a2 : List Int) (b1 : List Int) (b2 : List Int) (i : Int) : Option Y1_4 := iter (R := (Bool × Unit) × Unit) c31_L4 (b31_4 k) j ((), (a1, a2, ()), (b1, b2, ()), i, ())
theorem L31_4_s (k : Nat) (j : Nat) (a1 : List Int) (a2 : List Int) (b1 : List Int) (b2 : List Int) (i : Int) : L31_4 k (j + 1) a1 a2 b1 b2 i = l31_4 k (L31_4 k j) a1 a2 b1 b2 i := iter_succ _ _ _ _
noncomputable def S31 (k : Nat) (a : (List Int) × List Int) (b : (List Int) × List Int) : Option Y1_4 :=
 (bif (a.1.length : Int) != (b.1.length : Int) then
  some ((false, ()), ())
 else
  (bif (a.2.length : Int) != (b.2.length : Int) then
   some ((false, ()), ())
  else
   L31_4 k k a.1 a.2 b.1 b.2 0))
noncomputable def E31 : Env := tab.env (lk []) (hintL [])
theorem E31_ok : EnvOK Try.prog E31 := envOK_of tabOK _ _ (fun f F h => by cases h)
noncomputable def B31 (k : Nat) : Tbl (RD R31 × MD P31) := (.loop 9 c31_L9 (b31_9 k) (fun g => .nil) (.loop 4 c31_L4 (b31_4 k) (fun g => .nil) .nil))
noncomputable def F31 : Fn := ⟨P31, R31, fun k x => S31 k x.1 x.2.1⟩
theorem ok31 : FnOK Try.prog 31 F31 := evalF_ok (E := E31) (T := B31) E31_ok mix Try.func31 rfl (by kernel_rfl) (by kernel_rfl) (fun k => by kernel_rfl) (fun k x => by kernel_rfl)
noncomputable abbrev P57 : List PT := [.val ⟨false, Y1_10, false⟩, .val ⟨false, Y1_10, false⟩]
noncomputable abbrev R57 : List RT := [.val ⟨false, .bool, true⟩]
noncomputable abbrev c57_L4 : Cut := ⟨[0, 1, 5], [.cell Y1_10, .cell Y1_10, .cell (.int .i64)], [], 26⟩
noncomputable def l57_4 (k : Nat) (g4 : (List (Int × Int)) → (List (Int × Int)) → Int → Option Y1_4) (a1 : Y1_15) (b1 : Y1_15) (i : Int) : Option Y1_4 :=
 (bif decide (i < (a1.length : Int)) then
  ix a1 i <|
  ix b1 i <|
  (bif !(beqD (.pair (.int .i64) (.int .u32)) (rd a1 i (0, 0)) (rd b1 i (0, 0))) then
   some ((false, ()), ())
  else
   g4 a1 b1 (IntKind.i64.wrap (i + 1)))
 else
  some ((true, ()), ()))
noncomputable def b57_4 (k : Nat) (g : ((Unit) × (List (Int × Int)) × (List (Int × Int)) × Int × Unit) → Option Y1_4) (d : (Unit) × (List (Int × Int)) × (List (Int × Int)) × Int × Unit) : Option Y1_4 := l57_4 k (fun a1 b1 i => g ((), a1, b1, i, ())) d.2.1 d.2.2.1 d.2.2.2.1
noncomputable def L57_4 (k : Nat) (j : Nat) (a1 : Y1_15) (b1 : Y1_15) (i : Int) : Option Y1_4 := iter (R := (Bool × Unit) × Unit) c57_L4 (b57_4 k) j ((), a1, b1, i, ())
theorem L57_4_s (k : Nat) (j : Nat) (a1 : Y1_15) (b1 : Y1_15) (i : Int) : L57_4 k (j + 1) a1 b1 i = l57_4 k (L57_4 k j) a1 b1 i := iter_succ _ _ _ _
noncomputable def S57 (k : Nat) (a : Y1_15) (b : Y1_15) : Option Y1_4 :=
 (bif (a.length : Int) != (b.length : Int) then
  some ((false, ()), ())
 else
  L57_4 k k a b 0)
noncomputable def E57 : Env := tab.env (lk []) (hintL [])
theorem E57_ok : EnvOK Try.prog E57 := envOK_of tabOK _ _ (fun f F h => by cases h)
noncomputable def B57 (k : Nat) : Tbl (RD R57 × MD P57) := (.loop 4 c57_L4 (b57_4 k) (fun g => .nil) .nil)
noncomputable def F57 : Fn := ⟨P57, R57, fun k x => S57 k x.1 x.2.1⟩
theorem ok57 : FnOK Try.prog 57 F57 := evalF_ok (E := E57) (T := B57) E57_ok mix Try.func57 rfl (by kernel_rfl) (by kernel_rfl) (fun k => by kernel_rfl) (fun k x => by kernel_rfl)
noncomputable abbrev P32 : List PT := [.val ⟨true, (.pair (.int .u32) Y1_10), false⟩, .val ⟨true, (.pair (.int .u32) Y1_10), false⟩]
noncomputable abbrev R32 : List RT := [.val ⟨false, .bool, true⟩]
noncomputable def S32 (k : Nat) (a : Int × List (Int × Int)) (b : Int × List (Int × Int)) : Option Y1_4 :=
 (bif a.1 == b.1 then
  (S57 k a.2 b.2).bind fun q0 =>
  some ((q0.1.1, ()), ())
 else
  some ((false, ()), ()))
noncomputable def E32 : Env := tab.env (lk [(57, F57)]) (hintL [])
theorem E32_ok : EnvOK Try.prog E32 := envOK_of tabOK _ _ (allFn_lk (l := [(57, F57)]) ⟨ok57, trivial⟩)
noncomputable def B32 (k : Nat) : Tbl (RD R32 × MD P32) := .nil
noncomputable def F32 : Fn := ⟨P32, R32, fun k x => S32 k x.1 x.2.1⟩
theorem ok32 : FnOK Try.prog 32 F32 := evalF_ok (E := E32) (T := B32) E32_ok mix Try.func32 rfl (by kernel_rfl) (by kernel_rfl) (fun k => by kernel_rfl) (fun k x => by kernel_rfl)
noncomputable abbrev P29 : List PT := [.val ⟨true, Y1_1, false⟩, .val ⟨true, Y1_1, false⟩]
noncomputable abbrev R29 : List RT := [.val ⟨false, .bool, true⟩]
noncomputable def S29 (k : Nat) (a : Y1_8) (b : Y1_8) : Option Y1_4 :=
 (bif a.1 == b.1 then
  (bif beqD Y1_14 a.2.1 b.2.1 then
   (bif beqD Y1_14 a.2.2.1 b.2.2.1 then
    (bif a.2.2.2.2.2 == b.2.2.2.2.2 then
     (S31 k a.2.2.2.1 b.2.2.2.1).bind fun q0 =>
     (bif q0.1.1 then
      (S32 k a.2.2.2.2.1 b.2.2.2.2.1).bind fun q1 =>
      some ((q1.1.1, ()), ())
     else
      some ((false, ()), ()))
    else
     some ((false, ()), ()))
   else
    some ((false, ()), ()))
  else
   some ((false, ()), ()))
 else
  some ((false, ()), ()))
noncomputable def E29 : Env := tab.env (lk [(31, F31), (32, F32)]) (hintL [])
theorem E29_ok : EnvOK Try.prog E29 := envOK_of tabOK _ _ (allFn_lk (l := [(31, F31), (32, F32)]) ⟨ok31, ok32, trivial⟩)
noncomputable def B29 (k : Nat) : Tbl (RD R29 × MD P29) := .nil
noncomputable def F29 : Fn := ⟨P29, R29, fun k x => S29 k x.1 x.2.1⟩
theorem ok29 : FnOK Try.prog 29 F29 := evalF_ok (E := E29) (T := B29) E29_ok mix Try.func29 rfl (by kernel_rfl) (by kernel_rfl) (fun k => by kernel_rfl) (fun k x => by kernel_rfl)
end Go.Proofs.Ytnlfdfjkgaanjaa.Ab
