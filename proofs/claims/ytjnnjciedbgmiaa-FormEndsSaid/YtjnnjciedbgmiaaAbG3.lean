import Derived.Test.YtjnnjciedbgmiaaAbG2
/- Contracts, printed by this session's own program gen.py. -/
set_option linter.unusedVariables false
set_option linter.unusedSimpArgs false
set_option maxRecDepth 100000
namespace Go.Proofs.Ytjnnjciedbgmiaa.Ab
open Go.RowKit Go.Proofs.YtjnnjciedbgmiaaW.PrintWords
/-! ### 22: 22 foliot/foliotref1.Step -/
noncomputable abbrev P22 : List PT := [.val ⟨false, (.sl 41 (.pair (.int .i64) (.pair (.int .i64) (.pair (.int .i64) (.int .i64))))), false⟩, .val ⟨true, (.pair (.int .i64) (.pair (arrT 8 (.int .i64)) (.pair (.sl 82 (.pair (.int .i64) (.pair (.int .i64) (.int .i64)))) .bool))), false⟩]
noncomputable abbrev R22 : List RT := [.val ⟨true, (.pair (.int .i64) (.pair (arrT 8 (.int .i64)) (.pair (.sl 82 (.pair (.int .i64) (.pair (.int .i64) (.int .i64)))) .bool))), true⟩, .val ⟨true, (.pair (.int .i64) (.pair (.int .i64) (.pair (.int .i64) (.int .i64)))), true⟩, .val ⟨false, .bool, true⟩]
noncomputable abbrev c22_L28 : Cut := ⟨[3, 4, 5, 7], [.box 38 [.cell (.int .i64), .cell (.int .i64), .cell (.int .i64), .cell (.int .i64), .cell (.int .i64), .cell (.int .i64), .cell (.int .i64), .cell (.int .i64), .cell (.int .i64), .own 82 (.pair (.int .i64) (.pair (.int .i64) (.int .i64))), .cell .bool], .box 38 [.cell (.int .i64), .cell (.int .i64), .cell (.int .i64), .cell (.int .i64), .cell (.int .i64), .cell (.int .i64), .cell (.int .i64), .cell (.int .i64), .cell (.int .i64), .nil, .cell .bool], .box 41 [.cell (.int .i64), .cell (.int .i64), .cell (.int .i64), .cell (.int .i64)], .box 41 [.cell (.int .i64), .cell (.int .i64), .cell (.int .i64), .cell (.int .i64)]], [], 225⟩
noncomputable def l22_28 (k : Nat) (g28 : Int → Int → Int → Int → Int → Int → Int → Int → Int → (List (Int × Int × Int)) → Bool → Int → Int → Int → Int → Int → Int → Int → Int → Int → Bool → Int → Int → Int → Int → Int → Int → Int → Int → Option (((Int × (PN Int 8) × (List (Int × Int × Int)) × Bool) × (Int × Int × Int × Int) × Bool × Unit) × Unit)) (m1 : Int) (m2 : Int) (m3 : Int) (m4 : Int) (m5 : Int) (m6 : Int) (m7 : Int) (m8 : Int) (m9 : Int) (m10 : List (Int × Int × Int)) (m11 : Bool) (t4 : Int) (t4_1 : Int) (t4_2 : Int) (t4_3 : Int) (t4_4 : Int) (t4_5 : Int) (t4_6 : Int) (t4_7 : Int) (t4_8 : Int) (t4_9 : Bool) (t5 : Int) (t5_1 : Int) (t5_2 : Int) (t5_3 : Int) (i : Int) (i1 : Int) (i2 : Int) (i3 : Int) : Option (((Int × (PN Int 8) × (List (Int × Int × Int)) × Bool) × (Int × Int × Int × Int) × Bool × Unit) × Unit) :=
  (bif decide ((m10.length : Int) > 0) then
    ix m10 (IntKind.i64.wrap ((m10.length : Int) - 1)) <|
    (bif decide ((rd m10 (IntKind.i64.wrap ((m10.length : Int) - 1)) (0, 0, 0)).2.1 < m1) then
      ix m10 (IntKind.i64.wrap ((m10.length : Int) - 1)) <|
      sx m10 0 (IntKind.i64.wrap ((m10.length : Int) - 1)) <|
      (bif decide ((rd m10 (IntKind.i64.wrap ((m10.length : Int) - 1)) (0, 0, 0)).2.2 > 0) then
        ap (m10.take (IntKind.i64.wrap ((m10.length : Int) - 1)).toNat) ([((rd m10 (IntKind.i64.wrap ((m10.length : Int) - 1)) (0, 0, 0)).1, (rd m10 (IntKind.i64.wrap ((m10.length : Int) - 1)) (0, 0, 0)).2.1, IntKind.i64.wrap ((rd m10 (IntKind.i64.wrap ((m10.length : Int) - 1)) (0, 0, 0)).2.2 - 1))] : List (Int × Int × Int)) 24 fun r2 =>
        some ((((rd m10 (IntKind.i64.wrap ((m10.length : Int) - 1)) (0, 0, 0)).1, (m2, m3, m4, m5, m6, m7, m8, m9), r2, m11), (i, i1, i2, i3), true, ()), ())
      else
        g28 m1 m2 m3 m4 m5 m6 m7 m8 m9 (m10.take (IntKind.i64.wrap ((m10.length : Int) - 1)).toNat) m11 t4 t4_1 t4_2 t4_3 t4_4 t4_5 t4_6 t4_7 t4_8 t4_9 t5 t5_1 t5_2 t5_3 i i1 i2 i3)
    else
      some (((m1, (m2, m3, m4, m5, m6, m7, m8, m9), m10, m11), (i, i1, i2, i3), true, ()), ()))
  else
    some (((m1, (m2, m3, m4, m5, m6, m7, m8, m9), m10, m11), (i, i1, i2, i3), true, ()), ()))
noncomputable def b22_28 (k : Nat) (g : ((Unit) × (Int × Int × Int × Int × Int × Int × Int × Int × Int × (List (Int × Int × Int)) × Bool × Unit) × (Int × Int × Int × Int × Int × Int × Int × Int × Int × Unit × Bool × Unit) × (Int × Int × Int × Int × Unit) × (Int × Int × Int × Int × Unit) × Unit) → Option (((Int × (PN Int 8) × (List (Int × Int × Int)) × Bool) × (Int × Int × Int × Int) × Bool × Unit) × Unit)) (d : (Unit) × (Int × Int × Int × Int × Int × Int × Int × Int × Int × (List (Int × Int × Int)) × Bool × Unit) × (Int × Int × Int × Int × Int × Int × Int × Int × Int × Unit × Bool × Unit) × (Int × Int × Int × Int × Unit) × (Int × Int × Int × Int × Unit) × Unit) : Option (((Int × (PN Int 8) × (List (Int × Int × Int)) × Bool) × (Int × Int × Int × Int) × Bool × Unit) × Unit) := l22_28 k (fun m1 m2 m3 m4 m5 m6 m7 m8 m9 m10 m11 t4 t4_1 t4_2 t4_3 t4_4 t4_5 t4_6 t4_7 t4_8 t4_9 t5 t5_1 t5_2 t5_3 i i1 i2 i3 => g ((), (m1, m2, m3, m4, m5, m6, m7, m8, m9, m10, m11, ()), (t4, t4_1, t4_2, t4_3, t4_4, t4_5, t4_6, t4_7, t4_8, (), t4_9, ()), (t5, t5_1, t5_2, t5_3, ()), (i, i1, i2, i3, ()), ())) d.2.1.1 d.2.1.2.1 d.2.1.2.2.1 d.2.1.2.2.2.1 d.2.1.2.2.2.2.1 d.2.1.2.2.2.2.2.1 d.2.1.2.2.2.2.2.2.1 d.2.1.2.2.2.2.2.2.2.1 d.2.1.2.2.2.2.2.2.2.2.1 d.2.1.2.2.2.2.2.2.2.2.2.1 d.2.1.2.2.2.2.2.2.2.2.2.2.1 d.2.2.1.1 d.2.2.1.2.1 d.2.2.1.2.2.1 d.2.2.1.2.2.2.1 d.2.2.1.2.2.2.2.1 d.2.2.1.2.2.2.2.2.1 d.2.2.1.2.2.2.2.2.2.1 d.2.2.1.2.2.2.2.2.2.2.1 d.2.2.1.2.2.2.2.2.2.2.2.1 d.2.2.1.2.2.2.2.2.2.2.2.2.2.1 d.2.2.2.1.1 d.2.2.2.1.2.1 d.2.2.2.1.2.2.1 d.2.2.2.1.2.2.2.1 d.2.2.2.2.1.1 d.2.2.2.2.1.2.1 d.2.2.2.2.1.2.2.1 d.2.2.2.2.1.2.2.2.1
noncomputable def L22_28 (k : Nat) (j : Nat) (m1 : Int) (m2 : Int) (m3 : Int) (m4 : Int) (m5 : Int) (m6 : Int) (m7 : Int) (m8 : Int) (m9 : Int) (m10 : List (Int × Int × Int)) (m11 : Bool) (t4 : Int) (t4_1 : Int) (t4_2 : Int) (t4_3 : Int) (t4_4 : Int) (t4_5 : Int) (t4_6 : Int) (t4_7 : Int) (t4_8 : Int) (t4_9 : Bool) (t5 : Int) (t5_1 : Int) (t5_2 : Int) (t5_3 : Int) (i : Int) (i1 : Int) (i2 : Int) (i3 : Int) : Option (((Int × (PN Int 8) × (List (Int × Int × Int)) × Bool) × (Int × Int × Int × Int) × Bool × Unit) × Unit) := iter (R := ((Int × (PN Int 8) × (List (Int × Int × Int)) × Bool) × (Int × Int × Int × Int) × Bool × Unit) × Unit) c22_L28 (b22_28 k) j ((), (m1, m2, m3, m4, m5, m6, m7, m8, m9, m10, m11, ()), (t4, t4_1, t4_2, t4_3, t4_4, t4_5, t4_6, t4_7, t4_8, (), t4_9, ()), (t5, t5_1, t5_2, t5_3, ()), (i, i1, i2, i3, ()), ())
theorem L22_28_s (k : Nat) (j : Nat) (m1 : Int) (m2 : Int) (m3 : Int) (m4 : Int) (m5 : Int) (m6 : Int) (m7 : Int) (m8 : Int) (m9 : Int) (m10 : List (Int × Int × Int)) (m11 : Bool) (t4 : Int) (t4_1 : Int) (t4_2 : Int) (t4_3 : Int) (t4_4 : Int) (t4_5 : Int) (t4_6 : Int) (t4_7 : Int) (t4_8 : Int) (t4_9 : Bool) (t5 : Int) (t5_1 : Int) (t5_2 : Int) (t5_3 : Int) (i : Int) (i1 : Int) (i2 : Int) (i3 : Int) : L22_28 k (j + 1) m1 m2 m3 m4 m5 m6 m7 m8 m9 m10 m11 t4 t4_1 t4_2 t4_3 t4_4 t4_5 t4_6 t4_7 t4_8 t4_9 t5 t5_1 t5_2 t5_3 i i1 i2 i3 = l22_28 k (L22_28 k j) m1 m2 m3 m4 m5 m6 m7 m8 m9 m10 m11 t4 t4_1 t4_2 t4_3 t4_4 t4_5 t4_6 t4_7 t4_8 t4_9 t5 t5_1 t5_2 t5_3 i i1 i2 i3 := iter_succ _ _ _ _
noncomputable def S22 (k : Nat) (l_ : List (Int × Int × Int × Int)) (m : Int × (PN Int 8) × (List (Int × Int × Int)) × Bool) : Option (((Int × (PN Int 8) × (List (Int × Int × Int)) × Bool) × (Int × Int × Int × Int) × Bool × Unit) × Unit) :=
  ap ([] : List (Int × Int × Int)) m.2.2.1 24 fun r0 =>
  (bif m.2.2.2 then
    some (((m.1, m.2.1, r0, m.2.2.2), (0, 0, 0, 0), false, ()), ())
  else
    (bif decide (m.1 < 0) then
      some (((m.1, m.2.1, r0, m.2.2.2), (0, 0, 0, 0), false, ()), ())
    else
      (bif decide (m.1 ≥ (l_.length : Int)) then
        some (((m.1, m.2.1, r0, m.2.2.2), (0, 0, 0, 0), false, ()), ())
      else
        ix l_ m.1 <|
        (S32 k (rd l_ m.1 (0, 0, 0, 0))).bind fun q1 =>
        (bif !q1.1.1 then
          some (((m.1, m.2.1, r0, m.2.2.2), (0, 0, 0, 0), false, ()), ())
        else
          ix l_ m.1 <|
          (bif (rd l_ m.1 (0, 0, 0, 0)).1 == 0 then
            L22_28 k k m.1 m.2.1.1 m.2.1.2.1 m.2.1.2.2.1 m.2.1.2.2.2.1 m.2.1.2.2.2.2.1 m.2.1.2.2.2.2.2.1 m.2.1.2.2.2.2.2.2.1 m.2.1.2.2.2.2.2.2.2 r0 true 0 0 0 0 0 0 0 0 0 false 0 0 0 0 (rd l_ m.1 (0, 0, 0, 0)).1 (rd l_ m.1 (0, 0, 0, 0)).2.1 (rd l_ m.1 (0, 0, 0, 0)).2.2.1 (rd l_ m.1 (0, 0, 0, 0)).2.2.2
          else
            (bif (rd l_ m.1 (0, 0, 0, 0)).1 == 1 then
              ax 8 (rd l_ m.1 (0, 0, 0, 0)).2.1 <|
              L22_28 k k (IntKind.i64.wrap (m.1 + 1)) (aset (α := Int) 8 m.2.1 (rd l_ m.1 (0, 0, 0, 0)).2.1 (rd l_ m.1 (0, 0, 0, 0)).2.2.2).1 (aset (α := Int) 8 m.2.1 (rd l_ m.1 (0, 0, 0, 0)).2.1 (rd l_ m.1 (0, 0, 0, 0)).2.2.2).2.1 (aset (α := Int) 8 m.2.1 (rd l_ m.1 (0, 0, 0, 0)).2.1 (rd l_ m.1 (0, 0, 0, 0)).2.2.2).2.2.1 (aset (α := Int) 8 m.2.1 (rd l_ m.1 (0, 0, 0, 0)).2.1 (rd l_ m.1 (0, 0, 0, 0)).2.2.2).2.2.2.1 (aset (α := Int) 8 m.2.1 (rd l_ m.1 (0, 0, 0, 0)).2.1 (rd l_ m.1 (0, 0, 0, 0)).2.2.2).2.2.2.2.1 (aset (α := Int) 8 m.2.1 (rd l_ m.1 (0, 0, 0, 0)).2.1 (rd l_ m.1 (0, 0, 0, 0)).2.2.2).2.2.2.2.2.1 (aset (α := Int) 8 m.2.1 (rd l_ m.1 (0, 0, 0, 0)).2.1 (rd l_ m.1 (0, 0, 0, 0)).2.2.2).2.2.2.2.2.2.1 (aset (α := Int) 8 m.2.1 (rd l_ m.1 (0, 0, 0, 0)).2.1 (rd l_ m.1 (0, 0, 0, 0)).2.2.2).2.2.2.2.2.2.2 r0 m.2.2.2 0 0 0 0 0 0 0 0 0 false 0 0 0 0 (rd l_ m.1 (0, 0, 0, 0)).1 (rd l_ m.1 (0, 0, 0, 0)).2.1 (rd l_ m.1 (0, 0, 0, 0)).2.2.1 (rd l_ m.1 (0, 0, 0, 0)).2.2.2
            else
              (bif (rd l_ m.1 (0, 0, 0, 0)).1 == 2 then
                ax 8 (rd l_ m.1 (0, 0, 0, 0)).2.1 <|
                ax 8 (rd l_ m.1 (0, 0, 0, 0)).2.2.1 <|
                ax 8 (rd l_ m.1 (0, 0, 0, 0)).2.1 <|
                L22_28 k k (IntKind.i64.wrap (m.1 + 1)) (aset (α := Int) 8 m.2.1 (rd l_ m.1 (0, 0, 0, 0)).2.1 (IntKind.i64.wrap ((aget (α := Int) 8 m.2.1 (rd l_ m.1 (0, 0, 0, 0)).2.1 0) + (aget (α := Int) 8 m.2.1 (rd l_ m.1 (0, 0, 0, 0)).2.2.1 0)))).1 (aset (α := Int) 8 m.2.1 (rd l_ m.1 (0, 0, 0, 0)).2.1 (IntKind.i64.wrap ((aget (α := Int) 8 m.2.1 (rd l_ m.1 (0, 0, 0, 0)).2.1 0) + (aget (α := Int) 8 m.2.1 (rd l_ m.1 (0, 0, 0, 0)).2.2.1 0)))).2.1 (aset (α := Int) 8 m.2.1 (rd l_ m.1 (0, 0, 0, 0)).2.1 (IntKind.i64.wrap ((aget (α := Int) 8 m.2.1 (rd l_ m.1 (0, 0, 0, 0)).2.1 0) + (aget (α := Int) 8 m.2.1 (rd l_ m.1 (0, 0, 0, 0)).2.2.1 0)))).2.2.1 (aset (α := Int) 8 m.2.1 (rd l_ m.1 (0, 0, 0, 0)).2.1 (IntKind.i64.wrap ((aget (α := Int) 8 m.2.1 (rd l_ m.1 (0, 0, 0, 0)).2.1 0) + (aget (α := Int) 8 m.2.1 (rd l_ m.1 (0, 0, 0, 0)).2.2.1 0)))).2.2.2.1 (aset (α := Int) 8 m.2.1 (rd l_ m.1 (0, 0, 0, 0)).2.1 (IntKind.i64.wrap ((aget (α := Int) 8 m.2.1 (rd l_ m.1 (0, 0, 0, 0)).2.1 0) + (aget (α := Int) 8 m.2.1 (rd l_ m.1 (0, 0, 0, 0)).2.2.1 0)))).2.2.2.2.1 (aset (α := Int) 8 m.2.1 (rd l_ m.1 (0, 0, 0, 0)).2.1 (IntKind.i64.wrap ((aget (α := Int) 8 m.2.1 (rd l_ m.1 (0, 0, 0, 0)).2.1 0) + (aget (α := Int) 8 m.2.1 (rd l_ m.1 (0, 0, 0, 0)).2.2.1 0)))).2.2.2.2.2.1 (aset (α := Int) 8 m.2.1 (rd l_ m.1 (0, 0, 0, 0)).2.1 (IntKind.i64.wrap ((aget (α := Int) 8 m.2.1 (rd l_ m.1 (0, 0, 0, 0)).2.1 0) + (aget (α := Int) 8 m.2.1 (rd l_ m.1 (0, 0, 0, 0)).2.2.1 0)))).2.2.2.2.2.2.1 (aset (α := Int) 8 m.2.1 (rd l_ m.1 (0, 0, 0, 0)).2.1 (IntKind.i64.wrap ((aget (α := Int) 8 m.2.1 (rd l_ m.1 (0, 0, 0, 0)).2.1 0) + (aget (α := Int) 8 m.2.1 (rd l_ m.1 (0, 0, 0, 0)).2.2.1 0)))).2.2.2.2.2.2.2 r0 m.2.2.2 0 0 0 0 0 0 0 0 0 false 0 0 0 0 (rd l_ m.1 (0, 0, 0, 0)).1 (rd l_ m.1 (0, 0, 0, 0)).2.1 (rd l_ m.1 (0, 0, 0, 0)).2.2.1 (rd l_ m.1 (0, 0, 0, 0)).2.2.2
              else
                (bif (rd l_ m.1 (0, 0, 0, 0)).1 == 3 then
                  ax 8 (rd l_ m.1 (0, 0, 0, 0)).2.1 <|
                  ax 8 (rd l_ m.1 (0, 0, 0, 0)).2.2.1 <|
                  ax 8 (rd l_ m.1 (0, 0, 0, 0)).2.1 <|
                  L22_28 k k (IntKind.i64.wrap (m.1 + 1)) (aset (α := Int) 8 m.2.1 (rd l_ m.1 (0, 0, 0, 0)).2.1 (IntKind.i64.wrap ((aget (α := Int) 8 m.2.1 (rd l_ m.1 (0, 0, 0, 0)).2.1 0) - (aget (α := Int) 8 m.2.1 (rd l_ m.1 (0, 0, 0, 0)).2.2.1 0)))).1 (aset (α := Int) 8 m.2.1 (rd l_ m.1 (0, 0, 0, 0)).2.1 (IntKind.i64.wrap ((aget (α := Int) 8 m.2.1 (rd l_ m.1 (0, 0, 0, 0)).2.1 0) - (aget (α := Int) 8 m.2.1 (rd l_ m.1 (0, 0, 0, 0)).2.2.1 0)))).2.1 (aset (α := Int) 8 m.2.1 (rd l_ m.1 (0, 0, 0, 0)).2.1 (IntKind.i64.wrap ((aget (α := Int) 8 m.2.1 (rd l_ m.1 (0, 0, 0, 0)).2.1 0) - (aget (α := Int) 8 m.2.1 (rd l_ m.1 (0, 0, 0, 0)).2.2.1 0)))).2.2.1 (aset (α := Int) 8 m.2.1 (rd l_ m.1 (0, 0, 0, 0)).2.1 (IntKind.i64.wrap ((aget (α := Int) 8 m.2.1 (rd l_ m.1 (0, 0, 0, 0)).2.1 0) - (aget (α := Int) 8 m.2.1 (rd l_ m.1 (0, 0, 0, 0)).2.2.1 0)))).2.2.2.1 (aset (α := Int) 8 m.2.1 (rd l_ m.1 (0, 0, 0, 0)).2.1 (IntKind.i64.wrap ((aget (α := Int) 8 m.2.1 (rd l_ m.1 (0, 0, 0, 0)).2.1 0) - (aget (α := Int) 8 m.2.1 (rd l_ m.1 (0, 0, 0, 0)).2.2.1 0)))).2.2.2.2.1 (aset (α := Int) 8 m.2.1 (rd l_ m.1 (0, 0, 0, 0)).2.1 (IntKind.i64.wrap ((aget (α := Int) 8 m.2.1 (rd l_ m.1 (0, 0, 0, 0)).2.1 0) - (aget (α := Int) 8 m.2.1 (rd l_ m.1 (0, 0, 0, 0)).2.2.1 0)))).2.2.2.2.2.1 (aset (α := Int) 8 m.2.1 (rd l_ m.1 (0, 0, 0, 0)).2.1 (IntKind.i64.wrap ((aget (α := Int) 8 m.2.1 (rd l_ m.1 (0, 0, 0, 0)).2.1 0) - (aget (α := Int) 8 m.2.1 (rd l_ m.1 (0, 0, 0, 0)).2.2.1 0)))).2.2.2.2.2.2.1 (aset (α := Int) 8 m.2.1 (rd l_ m.1 (0, 0, 0, 0)).2.1 (IntKind.i64.wrap ((aget (α := Int) 8 m.2.1 (rd l_ m.1 (0, 0, 0, 0)).2.1 0) - (aget (α := Int) 8 m.2.1 (rd l_ m.1 (0, 0, 0, 0)).2.2.1 0)))).2.2.2.2.2.2.2 r0 m.2.2.2 0 0 0 0 0 0 0 0 0 false 0 0 0 0 (rd l_ m.1 (0, 0, 0, 0)).1 (rd l_ m.1 (0, 0, 0, 0)).2.1 (rd l_ m.1 (0, 0, 0, 0)).2.2.1 (rd l_ m.1 (0, 0, 0, 0)).2.2.2
                else
                  (bif (rd l_ m.1 (0, 0, 0, 0)).1 == 4 then
                    ax 8 (rd l_ m.1 (0, 0, 0, 0)).2.1 <|
                    ax 8 (rd l_ m.1 (0, 0, 0, 0)).2.2.1 <|
                    ax 8 (rd l_ m.1 (0, 0, 0, 0)).2.1 <|
                    L22_28 k k (IntKind.i64.wrap (m.1 + 1)) (aset (α := Int) 8 m.2.1 (rd l_ m.1 (0, 0, 0, 0)).2.1 (IntKind.i64.wrap ((aget (α := Int) 8 m.2.1 (rd l_ m.1 (0, 0, 0, 0)).2.1 0) * (aget (α := Int) 8 m.2.1 (rd l_ m.1 (0, 0, 0, 0)).2.2.1 0)))).1 (aset (α := Int) 8 m.2.1 (rd l_ m.1 (0, 0, 0, 0)).2.1 (IntKind.i64.wrap ((aget (α := Int) 8 m.2.1 (rd l_ m.1 (0, 0, 0, 0)).2.1 0) * (aget (α := Int) 8 m.2.1 (rd l_ m.1 (0, 0, 0, 0)).2.2.1 0)))).2.1 (aset (α := Int) 8 m.2.1 (rd l_ m.1 (0, 0, 0, 0)).2.1 (IntKind.i64.wrap ((aget (α := Int) 8 m.2.1 (rd l_ m.1 (0, 0, 0, 0)).2.1 0) * (aget (α := Int) 8 m.2.1 (rd l_ m.1 (0, 0, 0, 0)).2.2.1 0)))).2.2.1 (aset (α := Int) 8 m.2.1 (rd l_ m.1 (0, 0, 0, 0)).2.1 (IntKind.i64.wrap ((aget (α := Int) 8 m.2.1 (rd l_ m.1 (0, 0, 0, 0)).2.1 0) * (aget (α := Int) 8 m.2.1 (rd l_ m.1 (0, 0, 0, 0)).2.2.1 0)))).2.2.2.1 (aset (α := Int) 8 m.2.1 (rd l_ m.1 (0, 0, 0, 0)).2.1 (IntKind.i64.wrap ((aget (α := Int) 8 m.2.1 (rd l_ m.1 (0, 0, 0, 0)).2.1 0) * (aget (α := Int) 8 m.2.1 (rd l_ m.1 (0, 0, 0, 0)).2.2.1 0)))).2.2.2.2.1 (aset (α := Int) 8 m.2.1 (rd l_ m.1 (0, 0, 0, 0)).2.1 (IntKind.i64.wrap ((aget (α := Int) 8 m.2.1 (rd l_ m.1 (0, 0, 0, 0)).2.1 0) * (aget (α := Int) 8 m.2.1 (rd l_ m.1 (0, 0, 0, 0)).2.2.1 0)))).2.2.2.2.2.1 (aset (α := Int) 8 m.2.1 (rd l_ m.1 (0, 0, 0, 0)).2.1 (IntKind.i64.wrap ((aget (α := Int) 8 m.2.1 (rd l_ m.1 (0, 0, 0, 0)).2.1 0) * (aget (α := Int) 8 m.2.1 (rd l_ m.1 (0, 0, 0, 0)).2.2.1 0)))).2.2.2.2.2.2.1 (aset (α := Int) 8 m.2.1 (rd l_ m.1 (0, 0, 0, 0)).2.1 (IntKind.i64.wrap ((aget (α := Int) 8 m.2.1 (rd l_ m.1 (0, 0, 0, 0)).2.1 0) * (aget (α := Int) 8 m.2.1 (rd l_ m.1 (0, 0, 0, 0)).2.2.1 0)))).2.2.2.2.2.2.2 r0 m.2.2.2 0 0 0 0 0 0 0 0 0 false 0 0 0 0 (rd l_ m.1 (0, 0, 0, 0)).1 (rd l_ m.1 (0, 0, 0, 0)).2.1 (rd l_ m.1 (0, 0, 0, 0)).2.2.1 (rd l_ m.1 (0, 0, 0, 0)).2.2.2
                  else
                    (bif (rd l_ m.1 (0, 0, 0, 0)).1 == 5 then
                      ax 8 (rd l_ m.1 (0, 0, 0, 0)).2.1 <|
                      (S46 k (aget (α := Int) 8 m.2.1 (rd l_ m.1 (0, 0, 0, 0)).2.1 0) (rd l_ m.1 (0, 0, 0, 0)).2.2.2).bind fun q3 =>
                      ax 8 (rd l_ m.1 (0, 0, 0, 0)).2.1 <|
                      L22_28 k k (IntKind.i64.wrap (m.1 + 1)) (aset (α := Int) 8 m.2.1 (rd l_ m.1 (0, 0, 0, 0)).2.1 q3.1.1).1 (aset (α := Int) 8 m.2.1 (rd l_ m.1 (0, 0, 0, 0)).2.1 q3.1.1).2.1 (aset (α := Int) 8 m.2.1 (rd l_ m.1 (0, 0, 0, 0)).2.1 q3.1.1).2.2.1 (aset (α := Int) 8 m.2.1 (rd l_ m.1 (0, 0, 0, 0)).2.1 q3.1.1).2.2.2.1 (aset (α := Int) 8 m.2.1 (rd l_ m.1 (0, 0, 0, 0)).2.1 q3.1.1).2.2.2.2.1 (aset (α := Int) 8 m.2.1 (rd l_ m.1 (0, 0, 0, 0)).2.1 q3.1.1).2.2.2.2.2.1 (aset (α := Int) 8 m.2.1 (rd l_ m.1 (0, 0, 0, 0)).2.1 q3.1.1).2.2.2.2.2.2.1 (aset (α := Int) 8 m.2.1 (rd l_ m.1 (0, 0, 0, 0)).2.1 q3.1.1).2.2.2.2.2.2.2 r0 m.2.2.2 0 0 0 0 0 0 0 0 0 false 0 0 0 0 (rd l_ m.1 (0, 0, 0, 0)).1 (rd l_ m.1 (0, 0, 0, 0)).2.1 (rd l_ m.1 (0, 0, 0, 0)).2.2.1 (rd l_ m.1 (0, 0, 0, 0)).2.2.2
                    else
                      (bif (rd l_ m.1 (0, 0, 0, 0)).1 == 6 then
                        ax 8 (rd l_ m.1 (0, 0, 0, 0)).2.1 <|
                        (S47 k (aget (α := Int) 8 m.2.1 (rd l_ m.1 (0, 0, 0, 0)).2.1 0) (rd l_ m.1 (0, 0, 0, 0)).2.2.2).bind fun q4 =>
                        ax 8 (rd l_ m.1 (0, 0, 0, 0)).2.1 <|
                        L22_28 k k (IntKind.i64.wrap (m.1 + 1)) (aset (α := Int) 8 m.2.1 (rd l_ m.1 (0, 0, 0, 0)).2.1 q4.1.1).1 (aset (α := Int) 8 m.2.1 (rd l_ m.1 (0, 0, 0, 0)).2.1 q4.1.1).2.1 (aset (α := Int) 8 m.2.1 (rd l_ m.1 (0, 0, 0, 0)).2.1 q4.1.1).2.2.1 (aset (α := Int) 8 m.2.1 (rd l_ m.1 (0, 0, 0, 0)).2.1 q4.1.1).2.2.2.1 (aset (α := Int) 8 m.2.1 (rd l_ m.1 (0, 0, 0, 0)).2.1 q4.1.1).2.2.2.2.1 (aset (α := Int) 8 m.2.1 (rd l_ m.1 (0, 0, 0, 0)).2.1 q4.1.1).2.2.2.2.2.1 (aset (α := Int) 8 m.2.1 (rd l_ m.1 (0, 0, 0, 0)).2.1 q4.1.1).2.2.2.2.2.2.1 (aset (α := Int) 8 m.2.1 (rd l_ m.1 (0, 0, 0, 0)).2.1 q4.1.1).2.2.2.2.2.2.2 r0 m.2.2.2 0 0 0 0 0 0 0 0 0 false 0 0 0 0 (rd l_ m.1 (0, 0, 0, 0)).1 (rd l_ m.1 (0, 0, 0, 0)).2.1 (rd l_ m.1 (0, 0, 0, 0)).2.2.1 (rd l_ m.1 (0, 0, 0, 0)).2.2.2
                      else
                        (bif (rd l_ m.1 (0, 0, 0, 0)).1 == 7 then
                          ax 8 (rd l_ m.1 (0, 0, 0, 0)).2.1 <|
                          (bif (aget (α := Int) 8 m.2.1 (rd l_ m.1 (0, 0, 0, 0)).2.1 0) == 0 then
                            L22_28 k k (IntKind.i64.wrap ((IntKind.i64.wrap (m.1 + 1)) + (rd l_ m.1 (0, 0, 0, 0)).2.2.2)) m.2.1.1 m.2.1.2.1 m.2.1.2.2.1 m.2.1.2.2.2.1 m.2.1.2.2.2.2.1 m.2.1.2.2.2.2.2.1 m.2.1.2.2.2.2.2.2.1 m.2.1.2.2.2.2.2.2.2 r0 m.2.2.2 0 0 0 0 0 0 0 0 0 false 0 0 0 0 (rd l_ m.1 (0, 0, 0, 0)).1 (rd l_ m.1 (0, 0, 0, 0)).2.1 (rd l_ m.1 (0, 0, 0, 0)).2.2.1 (rd l_ m.1 (0, 0, 0, 0)).2.2.2
                          else
                            L22_28 k k (IntKind.i64.wrap (m.1 + 1)) m.2.1.1 m.2.1.2.1 m.2.1.2.2.1 m.2.1.2.2.2.1 m.2.1.2.2.2.2.1 m.2.1.2.2.2.2.2.1 m.2.1.2.2.2.2.2.2.1 m.2.1.2.2.2.2.2.2.2 r0 m.2.2.2 0 0 0 0 0 0 0 0 0 false 0 0 0 0 (rd l_ m.1 (0, 0, 0, 0)).1 (rd l_ m.1 (0, 0, 0, 0)).2.1 (rd l_ m.1 (0, 0, 0, 0)).2.2.1 (rd l_ m.1 (0, 0, 0, 0)).2.2.2)
                        else
                          (bif (rd l_ m.1 (0, 0, 0, 0)).1 == 8 then
                            ap r0 ([(IntKind.i64.wrap (m.1 + 1), IntKind.i64.wrap (m.1 + (rd l_ m.1 (0, 0, 0, 0)).2.2.1), IntKind.i64.wrap ((rd l_ m.1 (0, 0, 0, 0)).2.2.2 - 1))] : List (Int × Int × Int)) 24 fun r5 =>
                            L22_28 k k (IntKind.i64.wrap (m.1 + 1)) m.2.1.1 m.2.1.2.1 m.2.1.2.2.1 m.2.1.2.2.2.1 m.2.1.2.2.2.2.1 m.2.1.2.2.2.2.2.1 m.2.1.2.2.2.2.2.2.1 m.2.1.2.2.2.2.2.2.2 r5 m.2.2.2 0 0 0 0 0 0 0 0 0 false 0 0 0 0 (rd l_ m.1 (0, 0, 0, 0)).1 (rd l_ m.1 (0, 0, 0, 0)).2.1 (rd l_ m.1 (0, 0, 0, 0)).2.2.1 (rd l_ m.1 (0, 0, 0, 0)).2.2.2
                          else
                            L22_28 k k (IntKind.i64.wrap (m.1 + 1)) m.2.1.1 m.2.1.2.1 m.2.1.2.2.1 m.2.1.2.2.2.1 m.2.1.2.2.2.2.1 m.2.1.2.2.2.2.2.1 m.2.1.2.2.2.2.2.2.1 m.2.1.2.2.2.2.2.2.2 r0 m.2.2.2 0 0 0 0 0 0 0 0 0 false 0 0 0 0 (rd l_ m.1 (0, 0, 0, 0)).1 (rd l_ m.1 (0, 0, 0, 0)).2.1 (rd l_ m.1 (0, 0, 0, 0)).2.2.1 (rd l_ m.1 (0, 0, 0, 0)).2.2.2)))))))))))))
noncomputable def E22 : Env := tab.env (lk [(32, F32), (46, F46), (47, F47)]) (hintL [(205, 1)])
theorem E22_ok : EnvOK Try.prog E22 := envOK_of tabOK _ _ (allFn_lk (l := [(32, F32), (46, F46), (47, F47)]) ⟨ok32, ok46, ok47, trivial⟩)
noncomputable def B22 (k : Nat) : Tbl (RD R22 × MD P22) := (.loop 28 c22_L28 (b22_28 k) (fun g => .nil) .nil)
noncomputable def F22 : Fn := ⟨P22, R22, fun k x => S22 k x.1 x.2.1⟩
theorem ok22 : FnOK Try.prog 22 F22 := evalF_ok (E := E22) (T := B22) E22_ok mix Try.func22 rfl (by kernel_rfl) (by kernel_rfl) (fun k => by kernel_rfl) (fun k x => by kernel_rfl)
/-! ### 4: 4 foliot/foliotlaw6.FormEnds -/
noncomputable abbrev P4 : List PT := [.val ⟨false, (.sl 5 (.int .u8)), false⟩, .val ⟨false, (.int .i64), false⟩]
noncomputable abbrev R4 : List RT := [.val ⟨false, .bool, true⟩]
noncomputable abbrev c4_L14 : Cut := ⟨[1, 5, 6, 7, 8, 9, 10], [.cell (.int .i64), .own 22 (.sl 41 (.pair (.int .i64) (.pair (.int .i64) (.pair (.int .i64) (.int .i64))))), .cell (.int .i64), .cell (.sl 41 (.pair (.int .i64) (.pair (.int .i64) (.pair (.int .i64) (.int .i64))))), .box 38 [.cell (.int .i64), .cell (.int .i64), .cell (.int .i64), .cell (.int .i64), .cell (.int .i64), .cell (.int .i64), .cell (.int .i64), .cell (.int .i64), .cell (.int .i64), .own 82 (.pair (.int .i64) (.pair (.int .i64) (.int .i64))), .cell .bool], .own 3 (.int .i64), .cell (.int .i64)], [], 121⟩
noncomputable def l4_14 (k : Nat) (g7 : Int → (List (List (Int × Int × Int × Int))) → Int → Option ((Bool × Unit) × Unit)) (g14 : Int → (List (List (Int × Int × Int × Int))) → Int → (List (Int × Int × Int × Int)) → Int → Int → Int → Int → Int → Int → Int → Int → Int → (List (Int × Int × Int)) → Bool → (List Int) → Int → Option ((Bool × Unit) × Unit)) (in_2 : Int) (lots1 : List (List (Int × Int × Int × Int))) (k_1 : Int) (l_ : List (Int × Int × Int × Int)) (m : Int) (m1 : Int) (m2 : Int) (m3 : Int) (m4 : Int) (m5 : Int) (m6 : Int) (m7 : Int) (m8 : Int) (m9 : List (Int × Int × Int)) (m10 : Bool) (held : List Int) (n : Int) : Option ((Bool × Unit) × Unit) :=
  (bif !m10 then
    (S22 k l_ (m, (m1, m2, m3, m4, m5, m6, m7, m8), m9, m10)).bind fun q7 =>
    (bif !q7.1.2.2.1 then
      some ((false, ()), ())
    else
      (bif decide (n > 20000) then
        some ((false, ()), ())
      else
        (bif q7.1.2.1.1 == 9 then
          (bif decide ((held.length : Int) > 1) then
            some ((false, ()), ())
          else
            (bif (held.length : Int) == 1 then
              ix held 0 <|
              (bif (rd held 0 0) == q7.1.2.1.2.1 then
                some ((false, ()), ())
              else
                ap held ([q7.1.2.1.2.1] : List Int) 8 fun r8 =>
                g14 in_2 lots1 k_1 l_ q7.1.1.1 q7.1.1.2.1.1 q7.1.1.2.1.2.1 q7.1.1.2.1.2.2.1 q7.1.1.2.1.2.2.2.1 q7.1.1.2.1.2.2.2.2.1 q7.1.1.2.1.2.2.2.2.2.1 q7.1.1.2.1.2.2.2.2.2.2.1 q7.1.1.2.1.2.2.2.2.2.2.2 q7.1.1.2.2.1 q7.1.1.2.2.2 r8 (IntKind.i64.wrap (n + 1)))
            else
              ap held ([q7.1.2.1.2.1] : List Int) 8 fun r9 =>
              g14 in_2 lots1 k_1 l_ q7.1.1.1 q7.1.1.2.1.1 q7.1.1.2.1.2.1 q7.1.1.2.1.2.2.1 q7.1.1.2.1.2.2.2.1 q7.1.1.2.1.2.2.2.2.1 q7.1.1.2.1.2.2.2.2.2.1 q7.1.1.2.1.2.2.2.2.2.2.1 q7.1.1.2.1.2.2.2.2.2.2.2 q7.1.1.2.2.1 q7.1.1.2.2.2 r9 (IntKind.i64.wrap (n + 1))))
        else
          (bif q7.1.2.1.1 == 10 then
            (bif (held.length : Int) == 0 then
              some ((false, ()), ())
            else
              ix held (IntKind.i64.wrap ((held.length : Int) - 1)) <|
              (bif (rd held (IntKind.i64.wrap ((held.length : Int) - 1)) 0) != q7.1.2.1.2.1 then
                some ((false, ()), ())
              else
                sx held 0 (IntKind.i64.wrap ((held.length : Int) - 1)) <|
                g14 in_2 lots1 k_1 l_ q7.1.1.1 q7.1.1.2.1.1 q7.1.1.2.1.2.1 q7.1.1.2.1.2.2.1 q7.1.1.2.1.2.2.2.1 q7.1.1.2.1.2.2.2.2.1 q7.1.1.2.1.2.2.2.2.2.1 q7.1.1.2.1.2.2.2.2.2.2.1 q7.1.1.2.1.2.2.2.2.2.2.2 q7.1.1.2.2.1 q7.1.1.2.2.2 (held.take (IntKind.i64.wrap ((held.length : Int) - 1)).toNat) (IntKind.i64.wrap (n + 1))))
          else
            (bif q7.1.2.1.1 == 11 then
              (bif decide ((held.length : Int) > 0) then
                some ((false, ()), ())
              else
                (bif q7.1.2.1.1 == 11 then
                  (bif decide ((q7.1.1.2.2.1.length : Int) > 0) then
                    some ((false, ()), ())
                  else
                    g14 in_2 lots1 k_1 l_ q7.1.1.1 q7.1.1.2.1.1 q7.1.1.2.1.2.1 q7.1.1.2.1.2.2.1 q7.1.1.2.1.2.2.2.1 q7.1.1.2.1.2.2.2.2.1 q7.1.1.2.1.2.2.2.2.2.1 q7.1.1.2.1.2.2.2.2.2.2.1 q7.1.1.2.1.2.2.2.2.2.2.2 q7.1.1.2.2.1 q7.1.1.2.2.2 held (IntKind.i64.wrap (n + 1)))
                else
                  g14 in_2 lots1 k_1 l_ q7.1.1.1 q7.1.1.2.1.1 q7.1.1.2.1.2.1 q7.1.1.2.1.2.2.1 q7.1.1.2.1.2.2.2.1 q7.1.1.2.1.2.2.2.2.1 q7.1.1.2.1.2.2.2.2.2.1 q7.1.1.2.1.2.2.2.2.2.2.1 q7.1.1.2.1.2.2.2.2.2.2.2 q7.1.1.2.2.1 q7.1.1.2.2.2 held (IntKind.i64.wrap (n + 1))))
            else
              (bif q7.1.2.1.1 == 0 then
                (bif decide ((held.length : Int) > 0) then
                  some ((false, ()), ())
                else
                  (bif q7.1.2.1.1 == 11 then
                    (bif decide ((q7.1.1.2.2.1.length : Int) > 0) then
                      some ((false, ()), ())
                    else
                      g14 in_2 lots1 k_1 l_ q7.1.1.1 q7.1.1.2.1.1 q7.1.1.2.1.2.1 q7.1.1.2.1.2.2.1 q7.1.1.2.1.2.2.2.1 q7.1.1.2.1.2.2.2.2.1 q7.1.1.2.1.2.2.2.2.2.1 q7.1.1.2.1.2.2.2.2.2.2.1 q7.1.1.2.1.2.2.2.2.2.2.2 q7.1.1.2.2.1 q7.1.1.2.2.2 held (IntKind.i64.wrap (n + 1)))
                  else
                    g14 in_2 lots1 k_1 l_ q7.1.1.1 q7.1.1.2.1.1 q7.1.1.2.1.2.1 q7.1.1.2.1.2.2.1 q7.1.1.2.1.2.2.2.1 q7.1.1.2.1.2.2.2.2.1 q7.1.1.2.1.2.2.2.2.2.1 q7.1.1.2.1.2.2.2.2.2.2.1 q7.1.1.2.1.2.2.2.2.2.2.2 q7.1.1.2.2.1 q7.1.1.2.2.2 held (IntKind.i64.wrap (n + 1))))
              else
                g14 in_2 lots1 k_1 l_ q7.1.1.1 q7.1.1.2.1.1 q7.1.1.2.1.2.1 q7.1.1.2.1.2.2.1 q7.1.1.2.1.2.2.2.1 q7.1.1.2.1.2.2.2.2.1 q7.1.1.2.1.2.2.2.2.2.1 q7.1.1.2.1.2.2.2.2.2.2.1 q7.1.1.2.1.2.2.2.2.2.2.2 q7.1.1.2.2.1 q7.1.1.2.2.2 held (IntKind.i64.wrap (n + 1))))))))
  else
    g7 in_2 lots1 (IntKind.i64.wrap (k_1 + 1)))
noncomputable def b4_14 (k : Nat) (g7 : Int → (List (List (Int × Int × Int × Int))) → Int → Option ((Bool × Unit) × Unit)) (g : ((Unit) × Int × (List (List (Int × Int × Int × Int))) × Int × (List (Int × Int × Int × Int)) × (Int × Int × Int × Int × Int × Int × Int × Int × Int × (List (Int × Int × Int)) × Bool × Unit) × (List Int) × Int × Unit) → Option ((Bool × Unit) × Unit)) (d : (Unit) × Int × (List (List (Int × Int × Int × Int))) × Int × (List (Int × Int × Int × Int)) × (Int × Int × Int × Int × Int × Int × Int × Int × Int × (List (Int × Int × Int)) × Bool × Unit) × (List Int) × Int × Unit) : Option ((Bool × Unit) × Unit) := l4_14 k g7 (fun in_2 lots1 k_1 l_ m m1 m2 m3 m4 m5 m6 m7 m8 m9 m10 held n => g ((), in_2, lots1, k_1, l_, (m, m1, m2, m3, m4, m5, m6, m7, m8, m9, m10, ()), held, n, ())) d.2.1 d.2.2.1 d.2.2.2.1 d.2.2.2.2.1 d.2.2.2.2.2.1.1 d.2.2.2.2.2.1.2.1 d.2.2.2.2.2.1.2.2.1 d.2.2.2.2.2.1.2.2.2.1 d.2.2.2.2.2.1.2.2.2.2.1 d.2.2.2.2.2.1.2.2.2.2.2.1 d.2.2.2.2.2.1.2.2.2.2.2.2.1 d.2.2.2.2.2.1.2.2.2.2.2.2.2.1 d.2.2.2.2.2.1.2.2.2.2.2.2.2.2.1 d.2.2.2.2.2.1.2.2.2.2.2.2.2.2.2.1 d.2.2.2.2.2.1.2.2.2.2.2.2.2.2.2.2.1 d.2.2.2.2.2.2.1 d.2.2.2.2.2.2.2.1
noncomputable def L4_14 (k : Nat) (g7 : Int → (List (List (Int × Int × Int × Int))) → Int → Option ((Bool × Unit) × Unit)) (j : Nat) (in_2 : Int) (lots1 : List (List (Int × Int × Int × Int))) (k_1 : Int) (l_ : List (Int × Int × Int × Int)) (m : Int) (m1 : Int) (m2 : Int) (m3 : Int) (m4 : Int) (m5 : Int) (m6 : Int) (m7 : Int) (m8 : Int) (m9 : List (Int × Int × Int)) (m10 : Bool) (held : List Int) (n : Int) : Option ((Bool × Unit) × Unit) := iter (R := (Bool × Unit) × Unit) c4_L14 (b4_14 k g7) j ((), in_2, lots1, k_1, l_, (m, m1, m2, m3, m4, m5, m6, m7, m8, m9, m10, ()), held, n, ())
theorem L4_14_s (k : Nat) (g7 : Int → (List (List (Int × Int × Int × Int))) → Int → Option ((Bool × Unit) × Unit)) (j : Nat) (in_2 : Int) (lots1 : List (List (Int × Int × Int × Int))) (k_1 : Int) (l_ : List (Int × Int × Int × Int)) (m : Int) (m1 : Int) (m2 : Int) (m3 : Int) (m4 : Int) (m5 : Int) (m6 : Int) (m7 : Int) (m8 : Int) (m9 : List (Int × Int × Int)) (m10 : Bool) (held : List Int) (n : Int) : L4_14 k g7 (j + 1) in_2 lots1 k_1 l_ m m1 m2 m3 m4 m5 m6 m7 m8 m9 m10 held n = l4_14 k g7 (L4_14 k g7 j) in_2 lots1 k_1 l_ m m1 m2 m3 m4 m5 m6 m7 m8 m9 m10 held n := iter_succ _ _ _ _
noncomputable abbrev c4_L7 : Cut := ⟨[1, 5, 6], [.cell (.int .i64), .own 22 (.sl 41 (.pair (.int .i64) (.pair (.int .i64) (.pair (.int .i64) (.int .i64))))), .cell (.int .i64)], [], 121⟩
noncomputable def l4_7 (k : Nat) (g7 : Int → (List (List (Int × Int × Int × Int))) → Int → Option ((Bool × Unit) × Unit)) (in_1 : Int) (lots : List (List (Int × Int × Int × Int))) (k_ : Int) : Option ((Bool × Unit) × Unit) :=
  (bif decide (k_ < 2) then
    ix lots k_ <|
    (S18 k (rd lots k_ [])).bind fun q5 =>
    (bif !q5.1.1 then
      g7 in_1 lots (IntKind.i64.wrap (k_ + 1))
    else
      (S21 k in_1).bind fun q6 =>
      L4_14 k g7 k in_1 lots k_ (rd lots k_ []) q6.1.1.1 q6.1.1.2.1.1 q6.1.1.2.1.2.1 q6.1.1.2.1.2.2.1 q6.1.1.2.1.2.2.2.1 q6.1.1.2.1.2.2.2.2.1 q6.1.1.2.1.2.2.2.2.2.1 q6.1.1.2.1.2.2.2.2.2.2.1 q6.1.1.2.1.2.2.2.2.2.2.2 q6.1.1.2.2.1 q6.1.1.2.2.2 ([] : List Int) 0)
  else
    some ((true, ()), ()))
noncomputable def b4_7 (k : Nat) (g : ((Unit) × Int × (List (List (Int × Int × Int × Int))) × Int × Unit) → Option ((Bool × Unit) × Unit)) (d : (Unit) × Int × (List (List (Int × Int × Int × Int))) × Int × Unit) : Option ((Bool × Unit) × Unit) := l4_7 k (fun in_1 lots k_ => g ((), in_1, lots, k_, ())) d.2.1 d.2.2.1 d.2.2.2.1
noncomputable def L4_7 (k : Nat) (j : Nat) (in_1 : Int) (lots : List (List (Int × Int × Int × Int))) (k_ : Int) : Option ((Bool × Unit) × Unit) := iter (R := (Bool × Unit) × Unit) c4_L7 (b4_7 k) j ((), in_1, lots, k_, ())
theorem L4_7_s (k : Nat) (j : Nat) (in_1 : Int) (lots : List (List (Int × Int × Int × Int))) (k_ : Int) : L4_7 k (j + 1) in_1 lots k_ = l4_7 k (L4_7 k j) in_1 lots k_ := iter_succ _ _ _ _
noncomputable def S4 (k : Nat) (picks : List Int) (in_ : Int) : Option ((Bool × Unit) × Unit) :=
  (S13 k).bind fun q0 =>
  (bif !q0.1.1 then
    some ((false, ()), ())
  else
    (bif decide ((picks.length : Int) > 80) then
      some ((true, ()), ())
    else
      (S14 k picks).bind fun q1 =>
      (S15 k q1.1.1.1 q1.1.1.2.1 3).bind fun q2 =>
      (S14 k picks).bind fun q3 =>
      (S16 k q3.1.1.1 q3.1.1.2.1).bind fun q4 =>
      L4_7 k k in_ ([q2.1.1, q4.1.1] : List (List (Int × Int × Int × Int))) 0))
noncomputable def E4 : Env := tab.env (lk [(13, F13), (14, F14), (15, F15), (16, F16), (18, F18), (21, F21), (22, F22)]) (hintL [(9, 2), (102, 1)])
theorem E4_ok : EnvOK Try.prog E4 := envOK_of tabOK _ _ (allFn_lk (l := [(13, F13), (14, F14), (15, F15), (16, F16), (18, F18), (21, F21), (22, F22)]) ⟨ok13, ok14, ok15, ok16, ok18, ok21, ok22, trivial⟩)
noncomputable def B4 (k : Nat) : Tbl (RD R4 × MD P4) := (.loop 7 c4_L7 (b4_7 k) (fun g => (fun (g7 : Int → (List (List (Int × Int × Int × Int))) → Int → Option ((Bool × Unit) × Unit)) => (.loop 14 c4_L14 (b4_14 k g7) (fun g => .nil) .nil)) (fun in_1 lots k_ => g ((), in_1, lots, k_, ()))) .nil)
noncomputable def F4 : Fn := ⟨P4, R4, fun k x => S4 k x.1 x.2.1⟩
theorem ok4 : FnOK Try.prog 4 F4 := evalF_ok (E := E4) (T := B4) E4_ok mix Try.func4 rfl (by kernel_rfl) (by kernel_rfl) (fun k => by kernel_rfl) (fun k x => by kernel_rfl)
end Go.Proofs.Ytjnnjciedbgmiaa.Ab
