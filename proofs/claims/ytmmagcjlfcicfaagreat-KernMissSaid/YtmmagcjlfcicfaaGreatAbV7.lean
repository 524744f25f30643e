import Derived.Test.YtmmagcjlfcicfaaGreatAbV6
/- Contracts, printed by this session's own program gen.py. -/
set_option linter.unusedVariables false
set_option linter.unusedSimpArgs false
set_option maxRecDepth 100000
namespace Go.Proofs.YtmmagcjlfcicfaaGreat.Ab
open Go.RowKit
abbrev Y7_0 : Type := Int × (Int × Int) × (Int × Int) × ((List Int) × List Int) × (Int × List (Int × Int)) × Int
abbrev Y7_1 : Ty := .pair (.int .i64) (.pair (.pair (.int .i64) (.int .i64)) (.pair (.pair (.int .i64) (.int .i64)) (.pair (.pair (.sl 2 (.int .i64)) (.sl 3 (.int .i64))) (.pair (.pair (.int .u32) (.sl 297 (.pair (.int .i64) (.int .u32)))) (.int .u32)))))
abbrev Y7_2 : Type := ((((List Int) × List Bool) × List Y7_0) × (List Int) × (List (List Int)) × Unit) × Unit
abbrev Y7_3 : Type := (List Int) → (List Bool) → (List Y7_0) → (List Int) → (List Bool) → (List Y7_0) → (List Int) → (List (List Int)) → (List Y7_0) → Int → Int → Option Y7_2
abbrev Y7_4 : Ty := .pair (.int .i64) (.pair (.int .i64) (.int .i64))
abbrev Y7_5 : Type := Int × Int × Int × Int × (Int × (PN Int 8) × (List (Int × Int × Int)) × Bool) × (Int × (PN Int 8) × (List (Int × Int × Int)) × Bool) × (List Int) × Bool
abbrev Y7_6 : Ty := .sl 3 (.int .i64)
abbrev Y7_7 : Type := (List Int) × (List Bool) × (List Y7_0) × Unit
abbrev Y7_8 : Type := Int × Int × Int × (List (Int × Int × Int × Int)) × (List (Int × Int × Int × Int)) × List (Int × Int × Int × Int)
noncomputable abbrev P102 : List PT := [.val ⟨true, (.pair (.pair Y7_6 (.sl 4 .bool)) (.sl 124 Y7_1)), false⟩]
noncomputable abbrev R102 : List RT := [.val ⟨true, (.pair (.pair Y7_6 (.sl 4 .bool)) (.sl 124 Y7_1)), true⟩, .val ⟨false, Y7_6, true⟩, .val ⟨false, (.sl 27 Y7_6), true⟩]
noncomputable abbrev c102_J9 : Cut := ⟨[1, 2, 3, 4, 5, 6, 7, 11, 12, 13], [.box 33 [.cell Y7_6, .cell (.sl 4 .bool), .cell (.sl 124 Y7_1)], .box 33 [.own 3 (.int .i64), .own 4 .bool, .own 124 Y7_1], .own 3 (.int .i64), .own 27 Y7_6, .cell (.int .i64), .box 124 [.cell (.int .i64), .cell (.int .i64), .cell (.int .i64), .cell (.int .i64), .cell (.int .i64), .cell (.sl 2 (.int .i64)), .cell Y7_6, .cell (.int .u32), .cell (.sl 297 (.pair (.int .i64) (.int .u32))), .cell (.int .u32)], .box 124 [.cell (.int .i64), .cell (.int .i64), .cell (.int .i64), .cell (.int .i64), .cell (.int .i64), .own 2 (.int .i64), .own 3 (.int .i64), .cell (.int .u32), .own 297 (.pair (.int .i64) (.int .u32)), .cell (.int .u32)], .cell (.sl 124 Y7_1), .cell (.int .i64), .cell (.int .i64)], [], 61, []⟩
noncomputable def j102_9 (k : Nat) (g3 : Y7_3) (t4 : List Int) (t5 : List Bool) (t6 : List Y7_0) (out3 : List Int) (out4 : List Bool) (out5 : List Y7_0) (places1 : List Int) (who1 : List (List Int)) (at_ : Int) (x : Int) (x1 : Int) (x2 : Int) (x3 : Int) (x4 : Int) (x5 : List Int) (x6 : List Int) (x7 : Int) (x8 : List (Int × Int)) (x9 : Int) (y : Int) (y1 : Int) (y2 : Int) (y3 : Int) (y4 : Int) (y5 : List Int) (y6 : List Int) (y7 : Int) (y8 : List (Int × Int)) (y9 : Int) (t11_1 : List Y7_0) (t12_1 : Int) (t13_1 : Int) : Option Y7_2 :=
 (S144 k (y, (y1, y2), (y3, y4), (y5, y6), (y7, y8), y9)).bind fun q4 =>
 ix out5 at_ <|
 ap places1 ([at_] : List Int) 8 fun r5 =>
 (S157 k (x, (x1, x2), (x3, x4), (x5, x6), (x7, x8), x9)).bind fun q6 =>
 ap who1 ([q6.1.1] : List (List Int)) 24 fun r7 =>
 g3 t4 t5 t6 out3 out4 (upd out5 at_ q4.1.1) r5 r7 t11_1 t12_1 (IntKind.i64.wrap (t13_1 + 1))
noncomputable abbrev c102_L3 : Cut := ⟨[1, 2, 3, 4, 11, 12, 13], [.box 33 [.cell Y7_6, .cell (.sl 4 .bool), .cell (.sl 124 Y7_1)], .box 33 [.own 3 (.int .i64), .own 4 .bool, .own 124 Y7_1], .own 3 (.int .i64), .own 27 Y7_6, .cell (.sl 124 Y7_1), .cell (.int .i64), .cell (.int .i64)], [], 61, []⟩
noncomputable def l102_3 (k : Nat) (g3 : Y7_3) (t1 : List Int) (t2 : List Bool) (t3 : List Y7_0) (out : List Int) (out1 : List Bool) (out2 : List Y7_0) (places : List Int) (who : List (List Int)) (t11 : List Y7_0) (t12 : Int) (t13 : Int) : Option Y7_2 :=
 (bif decide (t13 < t12) then
  ix t11 t13 <|
  (S143 k ((t1, t2), t3) t13).bind fun q1 =>
  (bif !q1.1.1 then
   g3 t1 t2 t3 out out1 out2 places who t11 t12 (IntKind.i64.wrap (t13 + 1))
  else
   (S146 k (rd t11 t13 (0, (0, 0), (0, 0), ([], []), (0, []), 0))).bind fun q2 =>
   (bif (rd t11 t13 (0, (0, 0), (0, 0), ([], []), (0, []), 0)).2.2.2.2.2 == q2.1.1 then
    g3 t1 t2 t3 out out1 out2 places who t11 t12 (IntKind.i64.wrap (t13 + 1))
   else
    (S156 k (rd t11 t13 (0, (0, 0), (0, 0), ([], []), (0, []), 0)).1 (rd t11 t13 (0, (0, 0), (0, 0), ([], []), (0, []), 0)).2.1).bind fun q3 =>
    (bif (rd t11 t13 (0, (0, 0), (0, 0), ([], []), (0, []), 0)).1 == 1 then
     j102_9 k g3 t1 t2 t3 out out1 out2 places who t13 (rd t11 t13 (0, (0, 0), (0, 0), ([], []), (0, []), 0)).1 (rd t11 t13 (0, (0, 0), (0, 0), ([], []), (0, []), 0)).2.1.1 (rd t11 t13 (0, (0, 0), (0, 0), ([], []), (0, []), 0)).2.1.2 (rd t11 t13 (0, (0, 0), (0, 0), ([], []), (0, []), 0)).2.2.1.1 (rd t11 t13 (0, (0, 0), (0, 0), ([], []), (0, []), 0)).2.2.1.2 (rd t11 t13 (0, (0, 0), (0, 0), ([], []), (0, []), 0)).2.2.2.1.1 (rd t11 t13 (0, (0, 0), (0, 0), ([], []), (0, []), 0)).2.2.2.1.2 (rd t11 t13 (0, (0, 0), (0, 0), ([], []), (0, []), 0)).2.2.2.2.1.1 (rd t11 t13 (0, (0, 0), (0, 0), ([], []), (0, []), 0)).2.2.2.2.1.2 (rd t11 t13 (0, (0, 0), (0, 0), ([], []), (0, []), 0)).2.2.2.2.2 q3.1.1.1 q3.1.1.2.1.1 q3.1.1.2.1.2 (rd t11 t13 (0, (0, 0), (0, 0), ([], []), (0, []), 0)).2.2.1.1 q3.1.1.2.2.1.2 q3.1.1.2.2.2.1.1 q3.1.1.2.2.2.1.2 q3.1.1.2.2.2.2.1.1 q3.1.1.2.2.2.2.1.2 q3.1.1.2.2.2.2.2 t11 t12 t13
    else
     j102_9 k g3 t1 t2 t3 out out1 out2 places who t13 (rd t11 t13 (0, (0, 0), (0, 0), ([], []), (0, []), 0)).1 (rd t11 t13 (0, (0, 0), (0, 0), ([], []), (0, []), 0)).2.1.1 (rd t11 t13 (0, (0, 0), (0, 0), ([], []), (0, []), 0)).2.1.2 (rd t11 t13 (0, (0, 0), (0, 0), ([], []), (0, []), 0)).2.2.1.1 (rd t11 t13 (0, (0, 0), (0, 0), ([], []), (0, []), 0)).2.2.1.2 (rd t11 t13 (0, (0, 0), (0, 0), ([], []), (0, []), 0)).2.2.2.1.1 (rd t11 t13 (0, (0, 0), (0, 0), ([], []), (0, []), 0)).2.2.2.1.2 (rd t11 t13 (0, (0, 0), (0, 0), ([], []), (0, []), 0)).2.2.2.2.1.1 (rd t11 t13 (0, (0, 0), (0, 0), ([], []), (0, []), 0)).2.2.2.2.1.2 (rd t11 t13 (0, (0, 0), (0, 0), ([], []), (0, []), 0)).2.2.2.2.2 q3.1.1.1 q3.1.1.2.1.1 q3.1.1.2.1.2 q3.1.1.2.2.1.1 q3.1.1.2.2.1.2 q3.1.1.2.2.2.1.1 q3.1.1.2.2.2.1.2 q3.1.1.2.2.2.2.1.1 q3.1.1.2.2.2.2.1.2 q3.1.1.2.2.2.2.2 t11 t12 t13)))
 else
  some ((((out, out1), out2), places, who, ()), ()))
noncomputable def b102_3 (k : Nat) (g : ((Unit) × Y7_7 × Y7_7 × (List Int) × (List (List Int)) × (List Y7_0) × Int × Int × Unit) → Option Y7_2) (d : (Unit) × Y7_7 × Y7_7 × (List Int) × (List (List Int)) × (List Y7_0) × Int × Int × Unit) : Option Y7_2 := l102_3 k (fun t1 t2 t3 out out1 out2 places who t11 t12 t13 => g ((), (t1, t2, t3, ()), (out, out1, out2, ()), places, who, t11, t12, t13, ())) d.2.1.1 d.2.1.2.1 d.2.1.2.2.1 d.2.2.1.1 d.2.2.1.2.1 d.2.2.1.2.2.1 d.2.2.2.1 d.2.2.2.2.1 d.2.2.2.2.2.1 d.2.2.2.2.2.2.1 d.2.2.2.2.2.2.2.1
noncomputable def L102_3 (k : Nat) (j : Nat) (t1 : List Int) (t2 : List Bool) (t3 : List Y7_0) (out : List Int) (out1 : List Bool) (out2 : List Y7_0) (places : List Int) (who : List (List Int)) (t11 : List Y7_0) (t12 : Int) (t13 : Int) : Option Y7_2 := iter (R := ((((List Int) × List Bool) × List Y7_0) × (List Int) × (List (List Int)) × Unit) × Unit) c102_L3 (b102_3 k) j ((), (t1, t2, t3, ()), (out, out1, out2, ()), places, who, t11, t12, t13, ())
theorem L102_3_s (k : Nat) (j : Nat) (t1 : List Int) (t2 : List Bool) (t3 : List Y7_0) (out : List Int) (out1 : List Bool) (out2 : List Y7_0) (places : List Int) (who : List (List Int)) (t11 : List Y7_0) (t12 : Int) (t13 : Int) : L102_3 k (j + 1) t1 t2 t3 out out1 out2 places who t11 t12 t13 = l102_3 k (L102_3 k j) t1 t2 t3 out out1 out2 places who t11 t12 t13 := iter_succ _ _ _ _
noncomputable def S102 (k : Nat) (t : ((List Int) × List Bool) × List Y7_0) : Option Y7_2 :=
 (S142 k t).bind fun q0 =>
 L102_3 k k t.1.1 t.1.2 t.2 q0.1.1.1.1 q0.1.1.1.2 q0.1.1.2 ([] : List Int) ([] : List (List Int)) t.2 (t.2.length : Int) 0
noncomputable def E102 : Env := tab.env (lk [(142, F142), (143, F143), (144, F144), (146, F146), (156, F156), (157, F157)]) (hintL [(3, 2), (4, 2)])
theorem E102_ok : EnvOK Tryz.prog E102 := envOK_of tabOK _ _ (allFn_lk (l := [(142, F142), (143, F143), (144, F144), (146, F146), (156, F156), (157, F157)]) ⟨ok142, ok143, ok144, ok146, ok156, ok157, trivial⟩)
noncomputable def B102 (k : Nat) : Tbl (RD R102 × MD P102) := (.loop 3 c102_L3 (b102_3 k) (fun g => (fun (g3 : Y7_3) => (.join 9 c102_J9 (fun d => j102_9 k g3 d.2.1.1 d.2.1.2.1 d.2.1.2.2.1 d.2.2.1.1 d.2.2.1.2.1 d.2.2.1.2.2.1 d.2.2.2.1 d.2.2.2.2.1 d.2.2.2.2.2.1 d.2.2.2.2.2.2.1.1 d.2.2.2.2.2.2.1.2.1 d.2.2.2.2.2.2.1.2.2.1 d.2.2.2.2.2.2.1.2.2.2.1 d.2.2.2.2.2.2.1.2.2.2.2.1 d.2.2.2.2.2.2.1.2.2.2.2.2.1 d.2.2.2.2.2.2.1.2.2.2.2.2.2.1 d.2.2.2.2.2.2.1.2.2.2.2.2.2.2.1 d.2.2.2.2.2.2.1.2.2.2.2.2.2.2.2.1 d.2.2.2.2.2.2.1.2.2.2.2.2.2.2.2.2.1 d.2.2.2.2.2.2.2.1.1 d.2.2.2.2.2.2.2.1.2.1 d.2.2.2.2.2.2.2.1.2.2.1 d.2.2.2.2.2.2.2.1.2.2.2.1 d.2.2.2.2.2.2.2.1.2.2.2.2.1 d.2.2.2.2.2.2.2.1.2.2.2.2.2.1 d.2.2.2.2.2.2.2.1.2.2.2.2.2.2.1 d.2.2.2.2.2.2.2.1.2.2.2.2.2.2.2.1 d.2.2.2.2.2.2.2.1.2.2.2.2.2.2.2.2.1 d.2.2.2.2.2.2.2.1.2.2.2.2.2.2.2.2.2.1 d.2.2.2.2.2.2.2.2.1 d.2.2.2.2.2.2.2.2.2.1 d.2.2.2.2.2.2.2.2.2.2.1) .nil)) (fun t1 t2 t3 out out1 out2 places who t11 t12 t13 => g ((), (t1, t2, t3, ()), (out, out1, out2, ()), places, who, t11, t12, t13, ()))) .nil)
noncomputable def F102 : Fn := ⟨P102, R102, fun k x => S102 k x.1⟩
theorem ok102 : FnOK Tryz.prog 102 F102 := evalF_ok (E := E102) (T := B102) E102_ok mix Tryz.func102 rfl (by kernel_rfl) (by kernel_rfl) (fun k => by kernel_rfl) (fun k x => by kernel_rfl)
noncomputable abbrev P100a : List PT := [.mbox 150 [.cell (.int .i64), .cell (.int .i64), .own 77 (.pair (.int .i64) (.pair (.int .i64) (.pair (.int .i64) (.pair (.sl 87 (.pair (.int .i64) Y7_4)) (.pair (.sl 87 (.pair (.int .i64) Y7_4)) (.sl 87 (.pair (.int .i64) Y7_4))))))), .own 96 (arrT 5 (.int .i64)), .cell .bool, .cell .bool, .cell .bool, .own 94 (.pair (.int .i64) (.pair (.int .i64) (.pair (.int .i64) (.pair (.int .i64) (.pair (.pair (.int .i64) (.pair (arrT 8 (.int .i64)) (.pair (.sl 233 Y7_4) .bool))) (.pair (.pair (.int .i64) (.pair (arrT 8 (.int .i64)) (.pair (.sl 233 Y7_4) .bool))) (.pair Y7_6 .bool))))))), .own 3 (.int .i64), .own 4 .bool, .own 124 Y7_1, .own 3 (.int .i64), .own 4 .bool, .own 82 (arrT 6 (.int .i64))], .val ⟨true, (arrT 6 (.int .i64)), false⟩]
noncomputable abbrev R100a : List RT := []
noncomputable def S100a (k : Nat) (t : Int) (t1 : Int) (t2 : List Y7_8) (t3 : List (PN Int 5)) (t4 : Bool) (t5 : Bool) (t6 : Bool) (t7 : List Y7_5) (t8 : List Int) (t9 : List Bool) (t10 : List Y7_0) (t11 : List Int) (t12 : List Bool) (t13 : List (PN Int 6)) (e : PN Int 6) : Option ((Unit) × (Int × Int × (List Y7_8) × (List (PN Int 5)) × Bool × Bool × Bool × (List Y7_5) × (List Int) × (List Bool) × (List Y7_0) × (List Int) × (List Bool) × (List (PN Int 6)) × Unit) × Unit) :=
 ap t13 ([(t, e.2)] : List (PN Int 6)) 48 fun r0 =>
 some ((), (t, t1, t2, t3, t4, t5, t6, t7, t8, t9, t10, t11, t12, r0, ()), ())
noncomputable def E100a : Env := tab.env (lk []) (hintL [])
theorem E100a_ok : EnvOK Tryz.prog E100a := envOK_of tabOK _ _ (fun f F h => by cases h)
noncomputable def B100a (k : Nat) : Tbl (RD R100a × MD P100a) := .nil
noncomputable def F100a : Fn := ⟨P100a, R100a, fun k x => S100a k x.1.1 x.1.2.1 x.1.2.2.1 x.1.2.2.2.1 x.1.2.2.2.2.1 x.1.2.2.2.2.2.1 x.1.2.2.2.2.2.2.1 x.1.2.2.2.2.2.2.2.1 x.1.2.2.2.2.2.2.2.2.1 x.1.2.2.2.2.2.2.2.2.2.1 x.1.2.2.2.2.2.2.2.2.2.2.1 x.1.2.2.2.2.2.2.2.2.2.2.2.1 x.1.2.2.2.2.2.2.2.2.2.2.2.2.1 x.1.2.2.2.2.2.2.2.2.2.2.2.2.2.1 x.2.1⟩
theorem ok100a : FnOK Tryz.prog 100 F100a := evalF_ok (E := E100a) (T := B100a) E100a_ok mix Tryz.func100 rfl (by kernel_rfl) (by kernel_rfl) (fun k => by kernel_rfl) (fun k x => by kernel_rfl)
noncomputable abbrev P103 : List PT := [.val ⟨false, Y7_6, false⟩, .val ⟨false, (.int .i64), false⟩]
noncomputable abbrev R103 : List RT := [.val ⟨false, (.int .i64), true⟩]
noncomputable abbrev c103_L2 : Cut := ⟨[0, 1, 7, 8], [.cell Y7_6, .cell (.int .i64), .cell (.int .i64), .cell (.int .i64)], [], 19, []⟩
noncomputable def l103_2 (k : Nat) (g2 : (List Int) → Int → Int → Int → Option ((Int × Unit) × Unit)) (s1 : List Int) (v1 : Int) (t7 : Int) (t8 : Int) : Option ((Int × Unit) × Unit) :=
 (bif decide (t8 < t7) then
  ix s1 t8 <|
  (bif v1 == (rd s1 t8 0) then
   some ((t8, ()), ())
  else
   g2 s1 v1 t7 (IntKind.i64.wrap (t8 + 1)))
 else
  some (((-1), ()), ()))
noncomputable def b103_2 (k : Nat) (g : ((Unit) × (List Int) × Int × Int × Int × Unit) → Option ((Int × Unit) × Unit)) (d : (Unit) × (List Int) × Int × Int × Int × Unit) : Option ((Int × Unit) × Unit) := l103_2 k (fun s1 v1 t7 t8 => g ((), s1, v1, t7, t8, ())) d.2.1 d.2.2.1 d.2.2.2.1 d.2.2.2.2.1
noncomputable def L103_2 (k : Nat) (j : Nat) (s1 : List Int) (v1 : Int) (t7 : Int) (t8 : Int) : Option ((Int × Unit) × Unit) := iter (R := (Int × Unit) × Unit) c103_L2 (b103_2 k) j ((), s1, v1, t7, t8, ())
theorem L103_2_s (k : Nat) (j : Nat) (s1 : List Int) (v1 : Int) (t7 : Int) (t8 : Int) : L103_2 k (j + 1) s1 v1 t7 t8 = l103_2 k (L103_2 k j) s1 v1 t7 t8 := iter_succ _ _ _ _
noncomputable def S103 (k : Nat) (s : List Int) (v : Int) : Option ((Int × Unit) × Unit) :=
 L103_2 k k s v (s.length : Int) 0
noncomputable def E103 : Env := tab.env (lk []) (hintL [])
theorem E103_ok : EnvOK Tryz.prog E103 := envOK_of tabOK _ _ (fun f F h => by cases h)
noncomputable def B103 (k : Nat) : Tbl (RD R103 × MD P103) := (.loop 2 c103_L2 (b103_2 k) (fun g => .nil) .nil)
noncomputable def F103 : Fn := ⟨P103, R103, fun k x => S103 k x.1 x.2.1⟩
theorem ok103 : FnOK Tryz.prog 103 F103 := evalF_ok (E := E103) (T := B103) E103_ok mix Tryz.func103 rfl (by kernel_rfl) (by kernel_rfl) (fun k => by kernel_rfl) (fun k x => by kernel_rfl)
end Go.Proofs.YtmmagcjlfcicfaaGreat.Ab
