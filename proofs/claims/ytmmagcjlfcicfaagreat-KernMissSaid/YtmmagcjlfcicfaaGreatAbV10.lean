import Derived.Test.YtmmagcjlfcicfaaGreatAbV9
/- Contracts, printed by this session's own program gen.py. -/
set_option linter.unusedVariables false
set_option linter.unusedSimpArgs false
set_option maxRecDepth 100000
namespace Go.Proofs.YtmmagcjlfcicfaaGreat.Ab
open Go.RowKit
abbrev Y10_0 : Ty := .pair (.int .i64) (.pair (.int .i64) (.pair (.int .i64) (.pair (.int .i64) (.pair (.pair (.int .i64) (.pair (arrT 8 (.int .i64)) (.pair (.sl 233 (.pair (.int .i64) (.pair (.int .i64) (.int .i64)))) .bool))) (.pair (.pair (.int .i64) (.pair (arrT 8 (.int .i64)) (.pair (.sl 233 (.pair (.int .i64) (.pair (.int .i64) (.int .i64)))) .bool))) (.pair (.sl 3 (.int .i64)) .bool))))))
abbrev Y10_1 : Type := Int × Int × Int × Int × (Int × (PN Int 8) × (List (Int × Int × Int)) × Bool) × (Int × (PN Int 8) × (List (Int × Int × Int)) × Bool) × (List Int) × Bool
abbrev Y10_2 : Ty := .pair (.int .i64) (.pair (.int .i64) (.int .i64))
abbrev Y10_3 : Type := Int × Int × Int × Int × Int × Int × Int × Int × Int × Int × Int × Int × Int × (List (Int × Int × Int)) × Bool × Int × Int × Int × Int × Int × Int × Int × Int × Int × (List (Int × Int × Int)) × Bool × (List Int) × Bool × Unit
abbrev Y10_4 : Type := Int × (PN Int 8) × (List (Int × Int × Int)) × Bool
abbrev Y10_5 : Type := Int × Int × Int × Int
abbrev Y10_6 : Type := (Bool × Unit) × (Int × Int × (List (Int × Int × Int × (List Y10_5) × (List Y10_5) × List Y10_5)) × (List (PN Int 5)) × Bool × Bool × Bool × (List Y10_1) × (List Int) × (List Bool) × (List (Int × (Int × Int) × (Int × Int) × ((List Int) × List Int) × (Int × List (Int × Int)) × Int)) × (List Int) × (List Bool) × (List (PN Int 6)) × Unit) × Y10_3 × Unit
abbrev Y10_7 : Ty := .pair (.int .i64) (.pair (.int .i64) (.pair (.int .i64) (.pair (.sl 87 (.pair (.int .i64) Y10_2)) (.pair (.sl 87 (.pair (.int .i64) Y10_2)) (.sl 87 (.pair (.int .i64) Y10_2))))))
abbrev Y10_8 : Type := Int × Int × Int
abbrev Y10_9 : Ty := .pair (.int .i64) (.pair (.pair (.int .i64) (.int .i64)) (.pair (.pair (.int .i64) (.int .i64)) (.pair (.pair (.sl 2 (.int .i64)) (.sl 3 (.int .i64))) (.pair (.pair (.int .u32) (.sl 297 (.pair (.int .i64) (.int .u32)))) (.int .u32)))))
abbrev Y10_10 : Type := (Y10_1 × Y10_5 × Bool × Unit) × Unit
abbrev Y10_11 : Ty := .pair (.int .i64) (.pair (arrT 8 (.int .i64)) (.pair (.sl 233 Y10_2) .bool))
abbrev Y10_12 : Ty := .sl 114 (.pair (.int .i64) (.int .i64))
abbrev Y10_13 : Type := List (Int × (Int × Int) × (Int × Int) × ((List Int) × List Int) × (Int × List (Int × Int)) × Int)
noncomputable abbrev P232 : List PT := [.gv (.agg [.cell (.int .i64), .cell (.int .i64), .cell (.int .i64), .cell (.int .i64), .cell (.int .i64), .cell (.int .i64), .cell (.int .i64), .cell (.int .i64), .cell (.int .i64), .own 233 Y10_2, .cell .bool])]
noncomputable abbrev R232 : List RT := [.val ⟨true, Y10_11, true⟩]
noncomputable abbrev c232_L2 : Cut := ⟨[1, 2, 3], [.box 92 [.cell (.int .i64), .cell (.int .i64), .cell (.int .i64), .cell (.int .i64), .cell (.int .i64), .cell (.int .i64), .cell (.int .i64), .cell (.int .i64), .cell (.int .i64), .own 233 Y10_2, .cell .bool], .box 92 [.cell (.int .i64), .cell (.int .i64), .cell (.int .i64), .cell (.int .i64), .cell (.int .i64), .cell (.int .i64), .cell (.int .i64), .cell (.int .i64), .cell (.int .i64), .nil, .cell .bool], .cell (.int .i64)], [], 55, []⟩
noncomputable def l232_2 (k : Nat) (g2 : Int → Int → Int → Int → Int → Int → Int → Int → Int → (List Y10_8) → Bool → Int → Int → Int → Int → Int → Int → Int → Int → Int → Bool → Int → Option ((Y10_4 × Unit) × Unit)) (m11 : Int) (m12 : Int) (m13 : Int) (m14 : Int) (m15 : Int) (m16 : Int) (m17 : Int) (m18 : Int) (m19 : Int) (m20 : List Y10_8) (m21 : Bool) (t2 : Int) (t2_1 : Int) (t2_2 : Int) (t2_3 : Int) (t2_4 : Int) (t2_5 : Int) (t2_6 : Int) (t2_7 : Int) (t2_8 : Int) (t2_9 : Bool) (n : Int) : Option ((Y10_4 × Unit) × Unit) :=
 (bif decide (n > 0) then
  ix m20 (IntKind.i64.wrap (n - 1)) <|
  (bif decide ((rd m20 (IntKind.i64.wrap (n - 1)) (0, 0, 0)).2.1 < m11) then
   ix m20 (IntKind.i64.wrap (n - 1)) <|
   (bif decide ((rd m20 (IntKind.i64.wrap (n - 1)) (0, 0, 0)).2.2 > 0) then
    some ((((rd m20 (IntKind.i64.wrap (n - 1)) (0, 0, 0)).1, (m12, m13, m14, m15, m16, m17, m18, m19), upd m20 (IntKind.i64.wrap (n - 1)) ((rd m20 (IntKind.i64.wrap (n - 1)) (0, 0, 0)).1, (rd m20 (IntKind.i64.wrap (n - 1)) (0, 0, 0)).2.1, IntKind.i64.wrap ((rd m20 (IntKind.i64.wrap (n - 1)) (0, 0, 0)).2.2 - 1)), m21), ()), ())
   else
    sx m20 0 (IntKind.i64.wrap (n - 1)) <|
    g2 m11 m12 m13 m14 m15 m16 m17 m18 m19 (m20.take (IntKind.i64.wrap (n - 1)).toNat) m21 t2 t2_1 t2_2 t2_3 t2_4 t2_5 t2_6 t2_7 t2_8 t2_9 ((m20.take (IntKind.i64.wrap (n - 1)).toNat).length : Int))
  else
   some (((m11, (m12, m13, m14, m15, m16, m17, m18, m19), m20, m21), ()), ()))
 else
  some (((m11, (m12, m13, m14, m15, m16, m17, m18, m19), m20, m21), ()), ()))
noncomputable def b232_2 (k : Nat) (g : ((Unit) × (Int × Int × Int × Int × Int × Int × Int × Int × Int × (List Y10_8) × Bool × Unit) × (Int × Int × Int × Int × Int × Int × Int × Int × Int × Unit × Bool × Unit) × Int × Unit) → Option ((Y10_4 × Unit) × Unit)) (d : (Unit) × (Int × Int × Int × Int × Int × Int × Int × Int × Int × (List Y10_8) × Bool × Unit) × (Int × Int × Int × Int × Int × Int × Int × Int × Int × Unit × Bool × Unit) × Int × Unit) : Option ((Y10_4 × Unit) × Unit) := l232_2 k (fun m11 m12 m13 m14 m15 m16 m17 m18 m19 m20 m21 t2 t2_1 t2_2 t2_3 t2_4 t2_5 t2_6 t2_7 t2_8 t2_9 n => g ((), (m11, m12, m13, m14, m15, m16, m17, m18, m19, m20, m21, ()), (t2, t2_1, t2_2, t2_3, t2_4, t2_5, t2_6, t2_7, t2_8, (), t2_9, ()), n, ())) d.2.1.1 d.2.1.2.1 d.2.1.2.2.1 d.2.1.2.2.2.1 d.2.1.2.2.2.2.1 d.2.1.2.2.2.2.2.1 d.2.1.2.2.2.2.2.2.1 d.2.1.2.2.2.2.2.2.2.1 d.2.1.2.2.2.2.2.2.2.2.1 d.2.1.2.2.2.2.2.2.2.2.2.1 d.2.1.2.2.2.2.2.2.2.2.2.2.1 d.2.2.1.1 d.2.2.1.2.1 d.2.2.1.2.2.1 d.2.2.1.2.2.2.1 d.2.2.1.2.2.2.2.1 d.2.2.1.2.2.2.2.2.1 d.2.2.1.2.2.2.2.2.2.1 d.2.2.1.2.2.2.2.2.2.2.1 d.2.2.1.2.2.2.2.2.2.2.2.1 d.2.2.1.2.2.2.2.2.2.2.2.2.2.1 d.2.2.2.1
noncomputable def L232_2 (k : Nat) (j : Nat) (m11 : Int) (m12 : Int) (m13 : Int) (m14 : Int) (m15 : Int) (m16 : Int) (m17 : Int) (m18 : Int) (m19 : Int) (m20 : List Y10_8) (m21 : Bool) (t2 : Int) (t2_1 : Int) (t2_2 : Int) (t2_3 : Int) (t2_4 : Int) (t2_5 : Int) (t2_6 : Int) (t2_7 : Int) (t2_8 : Int) (t2_9 : Bool) (n : Int) : Option ((Y10_4 × Unit) × Unit) := iter (R := (Y10_4 × Unit) × Unit) c232_L2 (b232_2 k) j ((), (m11, m12, m13, m14, m15, m16, m17, m18, m19, m20, m21, ()), (t2, t2_1, t2_2, t2_3, t2_4, t2_5, t2_6, t2_7, t2_8, (), t2_9, ()), n, ())
theorem L232_2_s (k : Nat) (j : Nat) (m11 : Int) (m12 : Int) (m13 : Int) (m14 : Int) (m15 : Int) (m16 : Int) (m17 : Int) (m18 : Int) (m19 : Int) (m20 : List Y10_8) (m21 : Bool) (t2 : Int) (t2_1 : Int) (t2_2 : Int) (t2_3 : Int) (t2_4 : Int) (t2_5 : Int) (t2_6 : Int) (t2_7 : Int) (t2_8 : Int) (t2_9 : Bool) (n : Int) : L232_2 k (j + 1) m11 m12 m13 m14 m15 m16 m17 m18 m19 m20 m21 t2 t2_1 t2_2 t2_3 t2_4 t2_5 t2_6 t2_7 t2_8 t2_9 n = l232_2 k (L232_2 k j) m11 m12 m13 m14 m15 m16 m17 m18 m19 m20 m21 t2 t2_1 t2_2 t2_3 t2_4 t2_5 t2_6 t2_7 t2_8 t2_9 n := iter_succ _ _ _ _
noncomputable def S232 (k : Nat) (m : Int) (m1 : Int) (m2 : Int) (m3 : Int) (m4 : Int) (m5 : Int) (m6 : Int) (m7 : Int) (m8 : Int) (m9 : List Y10_8) (m10 : Bool) : Option ((Y10_4 × Unit) × Unit) :=
 L232_2 k k m m1 m2 m3 m4 m5 m6 m7 m8 m9 m10 0 0 0 0 0 0 0 0 0 false (m9.length : Int)
noncomputable def E232 : Env := tab.env (lk []) (hintL [(52, 1)])
theorem E232_ok : EnvOK Tryz.prog E232 := envOK_of tabOK _ _ (fun f F h => by cases h)
noncomputable def B232 (k : Nat) : Tbl (RD R232 × MD P232) := (.loop 2 c232_L2 (b232_2 k) (fun g => .nil) .nil)
noncomputable def F232 : Fn := ⟨P232, R232, fun k x => S232 k x.1.1 x.1.2.1 x.1.2.2.1 x.1.2.2.2.1 x.1.2.2.2.2.1 x.1.2.2.2.2.2.1 x.1.2.2.2.2.2.2.1 x.1.2.2.2.2.2.2.2.1 x.1.2.2.2.2.2.2.2.2.1 x.1.2.2.2.2.2.2.2.2.2.1 x.1.2.2.2.2.2.2.2.2.2.2.1⟩
theorem ok232 : FnOK Tryz.prog 232 F232 := evalF_ok (E := E232) (T := B232) E232_ok mix Tryz.func232 rfl (by kernel_rfl) (by kernel_rfl) (fun k => by kernel_rfl) (fun k x => by kernel_rfl)
noncomputable abbrev P208 : List PT := [.val ⟨false, (.sl 87 (.pair (.int .i64) Y10_2)), false⟩, .val ⟨true, Y10_11, false⟩]
noncomputable abbrev R208 : List RT := [.val ⟨true, Y10_11, true⟩, .val ⟨true, (.pair (.int .i64) Y10_2), true⟩, .val ⟨false, .bool, true⟩]
noncomputable def S208 (k : Nat) (l_ : List Y10_5) (m : Int × (PN Int 8) × (List Y10_8) × Bool) : Option ((Y10_4 × Y10_5 × Bool × Unit) × Unit) :=
 (bif m.2.2.2 then
  (S229 k m).bind fun q0 =>
  some ((q0.1.1, (0, 0, 0, 0), false, ()), ())
 else
  (bif decide (m.1 < 0) then
   (S229 k m).bind fun q1 =>
   some ((q1.1.1, (0, 0, 0, 0), false, ()), ())
  else
   (bif decide (m.1 ≥ (l_.length : Int)) then
    (S229 k m).bind fun q2 =>
    some ((q2.1.1, (0, 0, 0, 0), false, ()), ())
   else
    ix l_ m.1 <|
    (S228 k (rd l_ m.1 (0, 0, 0, 0))).bind fun q3 =>
    (bif !q3.1.1 then
     (S229 k m).bind fun q4 =>
     some ((q4.1.1, (0, 0, 0, 0), false, ()), ())
    else
     (S229 k m).bind fun q5 =>
     ix l_ q5.1.1.1 <|
     ax 8 (rd l_ q5.1.1.1 (0, 0, 0, 0)).2.1 <|
     ax 8 (Int.tmod (rd l_ q5.1.1.1 (0, 0, 0, 0)).2.2.1 8) <|
     (bif (rd l_ q5.1.1.1 (0, 0, 0, 0)).1 == 0 then
      (S232 k q5.1.1.1 q5.1.1.2.1.1 q5.1.1.2.1.2.1 q5.1.1.2.1.2.2.1 q5.1.1.2.1.2.2.2.1 q5.1.1.2.1.2.2.2.2.1 q5.1.1.2.1.2.2.2.2.2.1 q5.1.1.2.1.2.2.2.2.2.2.1 q5.1.1.2.1.2.2.2.2.2.2.2 q5.1.1.2.2.1 true).bind fun q6 =>
      some ((q6.1.1, rd l_ q5.1.1.1 (0, 0, 0, 0), true, ()), ())
     else
      (bif (rd l_ q5.1.1.1 (0, 0, 0, 0)).1 == 1 then
       (S232 k (IntKind.i64.wrap (q5.1.1.1 + 1)) (aset (α := Int) 8 q5.1.1.2.1 (rd l_ q5.1.1.1 (0, 0, 0, 0)).2.1 (rd l_ q5.1.1.1 (0, 0, 0, 0)).2.2.2).1 (aset (α := Int) 8 q5.1.1.2.1 (rd l_ q5.1.1.1 (0, 0, 0, 0)).2.1 (rd l_ q5.1.1.1 (0, 0, 0, 0)).2.2.2).2.1 (aset (α := Int) 8 q5.1.1.2.1 (rd l_ q5.1.1.1 (0, 0, 0, 0)).2.1 (rd l_ q5.1.1.1 (0, 0, 0, 0)).2.2.2).2.2.1 (aset (α := Int) 8 q5.1.1.2.1 (rd l_ q5.1.1.1 (0, 0, 0, 0)).2.1 (rd l_ q5.1.1.1 (0, 0, 0, 0)).2.2.2).2.2.2.1 (aset (α := Int) 8 q5.1.1.2.1 (rd l_ q5.1.1.1 (0, 0, 0, 0)).2.1 (rd l_ q5.1.1.1 (0, 0, 0, 0)).2.2.2).2.2.2.2.1 (aset (α := Int) 8 q5.1.1.2.1 (rd l_ q5.1.1.1 (0, 0, 0, 0)).2.1 (rd l_ q5.1.1.1 (0, 0, 0, 0)).2.2.2).2.2.2.2.2.1 (aset (α := Int) 8 q5.1.1.2.1 (rd l_ q5.1.1.1 (0, 0, 0, 0)).2.1 (rd l_ q5.1.1.1 (0, 0, 0, 0)).2.2.2).2.2.2.2.2.2.1 (aset (α := Int) 8 q5.1.1.2.1 (rd l_ q5.1.1.1 (0, 0, 0, 0)).2.1 (rd l_ q5.1.1.1 (0, 0, 0, 0)).2.2.2).2.2.2.2.2.2.2 q5.1.1.2.2.1 q5.1.1.2.2.2).bind fun q7 =>
       some ((q7.1.1, rd l_ q5.1.1.1 (0, 0, 0, 0), true, ()), ())
      else
       (bif (rd l_ q5.1.1.1 (0, 0, 0, 0)).1 == 2 then
        (S232 k (IntKind.i64.wrap (q5.1.1.1 + 1)) (aset (α := Int) 8 q5.1.1.2.1 (rd l_ q5.1.1.1 (0, 0, 0, 0)).2.1 (IntKind.i64.wrap (IntKind.u64.wrap ((IntKind.u64.wrap (aget (α := Int) 8 q5.1.1.2.1 (rd l_ q5.1.1.1 (0, 0, 0, 0)).2.1 0)) + (IntKind.u64.wrap (aget (α := Int) 8 q5.1.1.2.1 (Int.tmod (rd l_ q5.1.1.1 (0, 0, 0, 0)).2.2.1 8) 0)))))).1 (aset (α := Int) 8 q5.1.1.2.1 (rd l_ q5.1.1.1 (0, 0, 0, 0)).2.1 (IntKind.i64.wrap (IntKind.u64.wrap ((IntKind.u64.wrap (aget (α := Int) 8 q5.1.1.2.1 (rd l_ q5.1.1.1 (0, 0, 0, 0)).2.1 0)) + (IntKind.u64.wrap (aget (α := Int) 8 q5.1.1.2.1 (Int.tmod (rd l_ q5.1.1.1 (0, 0, 0, 0)).2.2.1 8) 0)))))).2.1 (aset (α := Int) 8 q5.1.1.2.1 (rd l_ q5.1.1.1 (0, 0, 0, 0)).2.1 (IntKind.i64.wrap (IntKind.u64.wrap ((IntKind.u64.wrap (aget (α := Int) 8 q5.1.1.2.1 (rd l_ q5.1.1.1 (0, 0, 0, 0)).2.1 0)) + (IntKind.u64.wrap (aget (α := Int) 8 q5.1.1.2.1 (Int.tmod (rd l_ q5.1.1.1 (0, 0, 0, 0)).2.2.1 8) 0)))))).2.2.1 (aset (α := Int) 8 q5.1.1.2.1 (rd l_ q5.1.1.1 (0, 0, 0, 0)).2.1 (IntKind.i64.wrap (IntKind.u64.wrap ((IntKind.u64.wrap (aget (α := Int) 8 q5.1.1.2.1 (rd l_ q5.1.1.1 (0, 0, 0, 0)).2.1 0)) + (IntKind.u64.wrap (aget (α := Int) 8 q5.1.1.2.1 (Int.tmod (rd l_ q5.1.1.1 (0, 0, 0, 0)).2.2.1 8) 0)))))).2.2.2.1 (aset (α := Int) 8 q5.1.1.2.1 (rd l_ q5.1.1.1 (0, 0, 0, 0)).2.1 (IntKind.i64.wrap (IntKind.u64.wrap ((IntKind.u64.wrap (aget (α := Int) 8 q5.1.1.2.1 (rd l_ q5.1.1.1 (0, 0, 0, 0)).2.1 0)) + (IntKind.u64.wrap (aget (α := Int) 8 q5.1.1.2.1 (Int.tmod (rd l_ q5.1.1.1 (0, 0, 0, 0)).2.2.1 8) 0)))))).2.2.2.2.1 (aset (α := Int) 8 q5.1.1.2.1 (rd l_ q5.1.1.1 (0, 0, 0, 0)).2.1 (IntKind.i64.wrap (IntKind.u64.wrap ((IntKind.u64.wrap (aget (α := Int) 8 q5.1.1.2.1 (rd l_ q5.1.1.1 (0, 0, 0, 0)).2.1 0)) + (IntKind.u64.wrap (aget (α := Int) 8 q5.1.1.2.1 (Int.tmod (rd l_ q5.1.1.1 (0, 0, 0, 0)).2.2.1 8) 0)))))).2.2.2.2.2.1 (aset (α := Int) 8 q5.1.1.2.1 (rd l_ q5.1.1.1 (0, 0, 0, 0)).2.1 (IntKind.i64.wrap (IntKind.u64.wrap ((IntKind.u64.wrap (aget (α := Int) 8 q5.1.1.2.1 (rd l_ q5.1.1.1 (0, 0, 0, 0)).2.1 0)) + (IntKind.u64.wrap (aget (α := Int) 8 q5.1.1.2.1 (Int.tmod (rd l_ q5.1.1.1 (0, 0, 0, 0)).2.2.1 8) 0)))))).2.2.2.2.2.2.1 (aset (α := Int) 8 q5.1.1.2.1 (rd l_ q5.1.1.1 (0, 0, 0, 0)).2.1 (IntKind.i64.wrap (IntKind.u64.wrap ((IntKind.u64.wrap (aget (α := Int) 8 q5.1.1.2.1 (rd l_ q5.1.1.1 (0, 0, 0, 0)).2.1 0)) + (IntKind.u64.wrap (aget (α := Int) 8 q5.1.1.2.1 (Int.tmod (rd l_ q5.1.1.1 (0, 0, 0, 0)).2.2.1 8) 0)))))).2.2.2.2.2.2.2 q5.1.1.2.2.1 q5.1.1.2.2.2).bind fun q8 =>
        some ((q8.1.1, rd l_ q5.1.1.1 (0, 0, 0, 0), true, ()), ())
       else
        (bif (rd l_ q5.1.1.1 (0, 0, 0, 0)).1 == 3 then
         (S232 k (IntKind.i64.wrap (q5.1.1.1 + 1)) (aset (α := Int) 8 q5.1.1.2.1 (rd l_ q5.1.1.1 (0, 0, 0, 0)).2.1 (IntKind.i64.wrap (IntKind.u64.wrap ((IntKind.u64.wrap (aget (α := Int) 8 q5.1.1.2.1 (rd l_ q5.1.1.1 (0, 0, 0, 0)).2.1 0)) - (IntKind.u64.wrap (aget (α := Int) 8 q5.1.1.2.1 (Int.tmod (rd l_ q5.1.1.1 (0, 0, 0, 0)).2.2.1 8) 0)))))).1 (aset (α := Int) 8 q5.1.1.2.1 (rd l_ q5.1.1.1 (0, 0, 0, 0)).2.1 (IntKind.i64.wrap (IntKind.u64.wrap ((IntKind.u64.wrap (aget (α := Int) 8 q5.1.1.2.1 (rd l_ q5.1.1.1 (0, 0, 0, 0)).2.1 0)) - (IntKind.u64.wrap (aget (α := Int) 8 q5.1.1.2.1 (Int.tmod (rd l_ q5.1.1.1 (0, 0, 0, 0)).2.2.1 8) 0)))))).2.1 (aset (α := Int) 8 q5.1.1.2.1 (rd l_ q5.1.1.1 (0, 0, 0, 0)).2.1 (IntKind.i64.wrap (IntKind.u64.wrap ((IntKind.u64.wrap (aget (α := Int) 8 q5.1.1.2.1 (rd l_ q5.1.1.1 (0, 0, 0, 0)).2.1 0)) - (IntKind.u64.wrap (aget (α := Int) 8 q5.1.1.2.1 (Int.tmod (rd l_ q5.1.1.1 (0, 0, 0, 0)).2.2.1 8) 0)))))).2.2.1 (aset (α := Int) 8 q5.1.1.2.1 (rd l_ q5.1.1.1 (0, 0, 0, 0)).2.1 (IntKind.i64.wrap (IntKind.u64.wrap ((IntKind.u64.wrap (aget (α := Int) 8 q5.1.1.2.1 (rd l_ q5.1.1.1 (0, 0, 0, 0)).2.1 0)) - (IntKind.u64.wrap (aget (α := Int) 8 q5.1.1.2.1 (Int.tmod (rd l_ q5.1.1.1 (0, 0, 0, 0)).2.2.1 8) 0)))))).2.2.2.1 (aset (α := Int) 8 q5.1.1.2.1 (rd l_ q5.1.1.1 (0, 0, 0, 0)).2.1 (IntKind.i64.wrap (IntKind.u64.wrap ((IntKind.u64.wrap (aget (α := Int) 8 q5.1.1.2.1 (rd l_ q5.1.1.1 (0, 0, 0, 0)).2.1 0)) - (IntKind.u64.wrap (aget (α := Int) 8 q5.1.1.2.1 (Int.tmod (rd l_ q5.1.1.1 (0, 0, 0, 0)).2.2.1 8) 0)))))).2.2.2.2.1 (aset (α := Int) 8 q5.1.1.2.1 (rd l_ q5.1.1.1 (0, 0, 0, 0)).2.1 (IntKind.i64.wrap (IntKind.u64.wrap ((IntKind.u64.wrap (aget (α := Int) 8 q5.1.1.2.1 (rd l_ q5.1.1.1 (0, 0, 0, 0)).2.1 0)) - (IntKind.u64.wrap (aget (α := Int) 8 q5.1.1.2.1 (Int.tmod (rd l_ q5.1.1.1 (0, 0, 0, 0)).2.2.1 8) 0)))))).2.2.2.2.2.1 (aset (α := Int) 8 q5.1.1.2.1 (rd l_ q5.1.1.1 (0, 0, 0, 0)).2.1 (IntKind.i64.wrap (IntKind.u64.wrap ((IntKind.u64.wrap (aget (α := Int) 8 q5.1.1.2.1 (rd l_ q5.1.1.1 (0, 0, 0, 0)).2.1 0)) - (IntKind.u64.wrap (aget (α := Int) 8 q5.1.1.2.1 (Int.tmod (rd l_ q5.1.1.1 (0, 0, 0, 0)).2.2.1 8) 0)))))).2.2.2.2.2.2.1 (aset (α := Int) 8 q5.1.1.2.1 (rd l_ q5.1.1.1 (0, 0, 0, 0)).2.1 (IntKind.i64.wrap (IntKind.u64.wrap ((IntKind.u64.wrap (aget (α := Int) 8 q5.1.1.2.1 (rd l_ q5.1.1.1 (0, 0, 0, 0)).2.1 0)) - (IntKind.u64.wrap (aget (α := Int) 8 q5.1.1.2.1 (Int.tmod (rd l_ q5.1.1.1 (0, 0, 0, 0)).2.2.1 8) 0)))))).2.2.2.2.2.2.2 q5.1.1.2.2.1 q5.1.1.2.2.2).bind fun q9 =>
         some ((q9.1.1, rd l_ q5.1.1.1 (0, 0, 0, 0), true, ()), ())
        else
         (bif (rd l_ q5.1.1.1 (0, 0, 0, 0)).1 == 4 then
          (S232 k (IntKind.i64.wrap (q5.1.1.1 + 1)) (aset (α := Int) 8 q5.1.1.2.1 (rd l_ q5.1.1.1 (0, 0, 0, 0)).2.1 (IntKind.i64.wrap (IntKind.u64.wrap ((IntKind.u64.wrap (aget (α := Int) 8 q5.1.1.2.1 (rd l_ q5.1.1.1 (0, 0, 0, 0)).2.1 0)) * (IntKind.u64.wrap (aget (α := Int) 8 q5.1.1.2.1 (Int.tmod (rd l_ q5.1.1.1 (0, 0, 0, 0)).2.2.1 8) 0)))))).1 (aset (α := Int) 8 q5.1.1.2.1 (rd l_ q5.1.1.1 (0, 0, 0, 0)).2.1 (IntKind.i64.wrap (IntKind.u64.wrap ((IntKind.u64.wrap (aget (α := Int) 8 q5.1.1.2.1 (rd l_ q5.1.1.1 (0, 0, 0, 0)).2.1 0)) * (IntKind.u64.wrap (aget (α := Int) 8 q5.1.1.2.1 (Int.tmod (rd l_ q5.1.1.1 (0, 0, 0, 0)).2.2.1 8) 0)))))).2.1 (aset (α := Int) 8 q5.1.1.2.1 (rd l_ q5.1.1.1 (0, 0, 0, 0)).2.1 (IntKind.i64.wrap (IntKind.u64.wrap ((IntKind.u64.wrap (aget (α := Int) 8 q5.1.1.2.1 (rd l_ q5.1.1.1 (0, 0, 0, 0)).2.1 0)) * (IntKind.u64.wrap (aget (α := Int) 8 q5.1.1.2.1 (Int.tmod (rd l_ q5.1.1.1 (0, 0, 0, 0)).2.2.1 8) 0)))))).2.2.1 (aset (α := Int) 8 q5.1.1.2.1 (rd l_ q5.1.1.1 (0, 0, 0, 0)).2.1 (IntKind.i64.wrap (IntKind.u64.wrap ((IntKind.u64.wrap (aget (α := Int) 8 q5.1.1.2.1 (rd l_ q5.1.1.1 (0, 0, 0, 0)).2.1 0)) * (IntKind.u64.wrap (aget (α := Int) 8 q5.1.1.2.1 (Int.tmod (rd l_ q5.1.1.1 (0, 0, 0, 0)).2.2.1 8) 0)))))).2.2.2.1 (aset (α := Int) 8 q5.1.1.2.1 (rd l_ q5.1.1.1 (0, 0, 0, 0)).2.1 (IntKind.i64.wrap (IntKind.u64.wrap ((IntKind.u64.wrap (aget (α := Int) 8 q5.1.1.2.1 (rd l_ q5.1.1.1 (0, 0, 0, 0)).2.1 0)) * (IntKind.u64.wrap (aget (α := Int) 8 q5.1.1.2.1 (Int.tmod (rd l_ q5.1.1.1 (0, 0, 0, 0)).2.2.1 8) 0)))))).2.2.2.2.1 (aset (α := Int) 8 q5.1.1.2.1 (rd l_ q5.1.1.1 (0, 0, 0, 0)).2.1 (IntKind.i64.wrap (IntKind.u64.wrap ((IntKind.u64.wrap (aget (α := Int) 8 q5.1.1.2.1 (rd l_ q5.1.1.1 (0, 0, 0, 0)).2.1 0)) * (IntKind.u64.wrap (aget (α := Int) 8 q5.1.1.2.1 (Int.tmod (rd l_ q5.1.1.1 (0, 0, 0, 0)).2.2.1 8) 0)))))).2.2.2.2.2.1 (aset (α := Int) 8 q5.1.1.2.1 (rd l_ q5.1.1.1 (0, 0, 0, 0)).2.1 (IntKind.i64.wrap (IntKind.u64.wrap ((IntKind.u64.wrap (aget (α := Int) 8 q5.1.1.2.1 (rd l_ q5.1.1.1 (0, 0, 0, 0)).2.1 0)) * (IntKind.u64.wrap (aget (α := Int) 8 q5.1.1.2.1 (Int.tmod (rd l_ q5.1.1.1 (0, 0, 0, 0)).2.2.1 8) 0)))))).2.2.2.2.2.2.1 (aset (α := Int) 8 q5.1.1.2.1 (rd l_ q5.1.1.1 (0, 0, 0, 0)).2.1 (IntKind.i64.wrap (IntKind.u64.wrap ((IntKind.u64.wrap (aget (α := Int) 8 q5.1.1.2.1 (rd l_ q5.1.1.1 (0, 0, 0, 0)).2.1 0)) * (IntKind.u64.wrap (aget (α := Int) 8 q5.1.1.2.1 (Int.tmod (rd l_ q5.1.1.1 (0, 0, 0, 0)).2.2.1 8) 0)))))).2.2.2.2.2.2.2 q5.1.1.2.2.1 q5.1.1.2.2.2).bind fun q10 =>
          some ((q10.1.1, rd l_ q5.1.1.1 (0, 0, 0, 0), true, ()), ())
         else
          (bif (rd l_ q5.1.1.1 (0, 0, 0, 0)).1 == 5 then
           (S230 k (aget (α := Int) 8 q5.1.1.2.1 (rd l_ q5.1.1.1 (0, 0, 0, 0)).2.1 0) (rd l_ q5.1.1.1 (0, 0, 0, 0)).2.2.2).bind fun q11 =>
           (S232 k (IntKind.i64.wrap (q5.1.1.1 + 1)) (aset (α := Int) 8 q5.1.1.2.1 (rd l_ q5.1.1.1 (0, 0, 0, 0)).2.1 q11.1.1).1 (aset (α := Int) 8 q5.1.1.2.1 (rd l_ q5.1.1.1 (0, 0, 0, 0)).2.1 q11.1.1).2.1 (aset (α := Int) 8 q5.1.1.2.1 (rd l_ q5.1.1.1 (0, 0, 0, 0)).2.1 q11.1.1).2.2.1 (aset (α := Int) 8 q5.1.1.2.1 (rd l_ q5.1.1.1 (0, 0, 0, 0)).2.1 q11.1.1).2.2.2.1 (aset (α := Int) 8 q5.1.1.2.1 (rd l_ q5.1.1.1 (0, 0, 0, 0)).2.1 q11.1.1).2.2.2.2.1 (aset (α := Int) 8 q5.1.1.2.1 (rd l_ q5.1.1.1 (0, 0, 0, 0)).2.1 q11.1.1).2.2.2.2.2.1 (aset (α := Int) 8 q5.1.1.2.1 (rd l_ q5.1.1.1 (0, 0, 0, 0)).2.1 q11.1.1).2.2.2.2.2.2.1 (aset (α := Int) 8 q5.1.1.2.1 (rd l_ q5.1.1.1 (0, 0, 0, 0)).2.1 q11.1.1).2.2.2.2.2.2.2 q5.1.1.2.2.1 q5.1.1.2.2.2).bind fun q12 =>
           some ((q12.1.1, rd l_ q5.1.1.1 (0, 0, 0, 0), true, ()), ())
          else
           (bif (rd l_ q5.1.1.1 (0, 0, 0, 0)).1 == 6 then
            (S231 k (aget (α := Int) 8 q5.1.1.2.1 (rd l_ q5.1.1.1 (0, 0, 0, 0)).2.1 0) (rd l_ q5.1.1.1 (0, 0, 0, 0)).2.2.2).bind fun q13 =>
            (S232 k (IntKind.i64.wrap (q5.1.1.1 + 1)) (aset (α := Int) 8 q5.1.1.2.1 (rd l_ q5.1.1.1 (0, 0, 0, 0)).2.1 q13.1.1).1 (aset (α := Int) 8 q5.1.1.2.1 (rd l_ q5.1.1.1 (0, 0, 0, 0)).2.1 q13.1.1).2.1 (aset (α := Int) 8 q5.1.1.2.1 (rd l_ q5.1.1.1 (0, 0, 0, 0)).2.1 q13.1.1).2.2.1 (aset (α := Int) 8 q5.1.1.2.1 (rd l_ q5.1.1.1 (0, 0, 0, 0)).2.1 q13.1.1).2.2.2.1 (aset (α := Int) 8 q5.1.1.2.1 (rd l_ q5.1.1.1 (0, 0, 0, 0)).2.1 q13.1.1).2.2.2.2.1 (aset (α := Int) 8 q5.1.1.2.1 (rd l_ q5.1.1.1 (0, 0, 0, 0)).2.1 q13.1.1).2.2.2.2.2.1 (aset (α := Int) 8 q5.1.1.2.1 (rd l_ q5.1.1.1 (0, 0, 0, 0)).2.1 q13.1.1).2.2.2.2.2.2.1 (aset (α := Int) 8 q5.1.1.2.1 (rd l_ q5.1.1.1 (0, 0, 0, 0)).2.1 q13.1.1).2.2.2.2.2.2.2 q5.1.1.2.2.1 q5.1.1.2.2.2).bind fun q14 =>
            some ((q14.1.1, rd l_ q5.1.1.1 (0, 0, 0, 0), true, ()), ())
           else
            (bif (rd l_ q5.1.1.1 (0, 0, 0, 0)).1 == 7 then
             (bif (aget (α := Int) 8 q5.1.1.2.1 (rd l_ q5.1.1.1 (0, 0, 0, 0)).2.1 0) == 0 then
              (S232 k (IntKind.i64.wrap ((IntKind.i64.wrap (q5.1.1.1 + 1)) + (rd l_ q5.1.1.1 (0, 0, 0, 0)).2.2.2)) q5.1.1.2.1.1 q5.1.1.2.1.2.1 q5.1.1.2.1.2.2.1 q5.1.1.2.1.2.2.2.1 q5.1.1.2.1.2.2.2.2.1 q5.1.1.2.1.2.2.2.2.2.1 q5.1.1.2.1.2.2.2.2.2.2.1 q5.1.1.2.1.2.2.2.2.2.2.2 q5.1.1.2.2.1 q5.1.1.2.2.2).bind fun q15 =>
              some ((q15.1.1, rd l_ q5.1.1.1 (0, 0, 0, 0), true, ()), ())
             else
              (S232 k (IntKind.i64.wrap (q5.1.1.1 + 1)) q5.1.1.2.1.1 q5.1.1.2.1.2.1 q5.1.1.2.1.2.2.1 q5.1.1.2.1.2.2.2.1 q5.1.1.2.1.2.2.2.2.1 q5.1.1.2.1.2.2.2.2.2.1 q5.1.1.2.1.2.2.2.2.2.2.1 q5.1.1.2.1.2.2.2.2.2.2.2 q5.1.1.2.2.1 q5.1.1.2.2.2).bind fun q16 =>
              some ((q16.1.1, rd l_ q5.1.1.1 (0, 0, 0, 0), true, ()), ()))
            else
             (bif (rd l_ q5.1.1.1 (0, 0, 0, 0)).1 == 8 then
              ap q5.1.1.2.2.1 ([(IntKind.i64.wrap (q5.1.1.1 + 1), IntKind.i64.wrap (q5.1.1.1 + (rd l_ q5.1.1.1 (0, 0, 0, 0)).2.2.1), IntKind.i64.wrap ((rd l_ q5.1.1.1 (0, 0, 0, 0)).2.2.2 - 1))] : List Y10_8) 24 fun r17 =>
              (S232 k (IntKind.i64.wrap (q5.1.1.1 + 1)) q5.1.1.2.1.1 q5.1.1.2.1.2.1 q5.1.1.2.1.2.2.1 q5.1.1.2.1.2.2.2.1 q5.1.1.2.1.2.2.2.2.1 q5.1.1.2.1.2.2.2.2.2.1 q5.1.1.2.1.2.2.2.2.2.2.1 q5.1.1.2.1.2.2.2.2.2.2.2 r17 q5.1.1.2.2.2).bind fun q18 =>
              some ((q18.1.1, rd l_ q5.1.1.1 (0, 0, 0, 0), true, ()), ())
             else
              (S232 k (IntKind.i64.wrap (q5.1.1.1 + 1)) q5.1.1.2.1.1 q5.1.1.2.1.2.1 q5.1.1.2.1.2.2.1 q5.1.1.2.1.2.2.2.1 q5.1.1.2.1.2.2.2.2.1 q5.1.1.2.1.2.2.2.2.2.1 q5.1.1.2.1.2.2.2.2.2.2.1 q5.1.1.2.1.2.2.2.2.2.2.2 q5.1.1.2.2.1 q5.1.1.2.2.2).bind fun q19 =>
              some ((q19.1.1, rd l_ q5.1.1.1 (0, 0, 0, 0), true, ()), ()))))))))))))))
noncomputable def E208 : Env := tab.env (lk [(228, F228), (229, F229), (230, F230), (231, F231), (232, F232)]) (hintL [])
theorem E208_ok : EnvOK Tryz.prog E208 := envOK_of tabOK _ _ (allFn_lk (l := [(228, F228), (229, F229), (230, F230), (231, F231), (232, F232)]) ⟨ok228, ok229, ok230, ok231, ok232, trivial⟩)
noncomputable def B208 (k : Nat) : Tbl (RD R208 × MD P208) := .nil
noncomputable def F208 : Fn := ⟨P208, R208, fun k x => S208 k x.1 x.2.1⟩
theorem ok208 : FnOK Tryz.prog 208 F208 := evalF_ok (E := E208) (T := B208) E208_ok mix Tryz.func208 rfl (by kernel_rfl) (by kernel_rfl) (fun k => by kernel_rfl) (fun k x => by kernel_rfl)
section
variable (w : World) {g n c i j : Nat}
theorem delF211_t : Tryz.prog.underlying 27 = some (.slice 3) ∧ Tryz.prog.underlying 3 = some (.int .i64) ∧ Tryz.prog.underlying 4 = some .bool ∧ Tryz.prog.follows .mixedOrders = true ∧ (∀ w, (Go.sizeOf 3).run Tryz.prog w = .ok 1 w) ∧ Tryz.f211.ntmps = 33 := ⟨by kernel_rfl, by kernel_rfl, by kernel_rfl, by kernel_rfl, fun w => by kernel_rfl, rfl⟩
theorem delF211_none {v : Value} (hv : (∃ A n c, v = .slice A n c ∧ i ≤ n ∧ n ≤ c ∧ c ≤ 9223372036854775807)) : Calls Tryz.prog 211 #[v, .int .i64 i, .int .i64 i] w fun e w' => e = .returned v ∧ w' = w := by
 obtain ⟨t24, t3, t4, mixed, z36, hnt⟩ := delF211_t
 have u24 := run_underlying t24; have u3 := run_underlying t3; have u4 := run_underlying t4
 obtain ⟨A, n, c, rfl, hi, hnc, hc63⟩ := hv
 have hi0 : (i : Int) ≤ (n : Int) := by omega
 have hi1 : (0 : Int) ≤ (i : Int) := by omega
 cases A <;> (go_enter Tryz.func211, hnt; go_wp2 <;> (go_ret; exact ⟨rfl, rfl⟩))
theorem delF211_some {w' w'' : World} (hlt : i < j) (hj : j ≤ n) (hnc : n ≤ c) (hc63 : c ≤ 9223372036854775807)
  (hap : ∀ ty A, (c ≠ j → A = (⟨g, j * 1, none⟩ : Addr)) → (Builtin.append_ #[27, 27] ty #[.slice (some ⟨g, 0, none⟩) i c, .slice (some A) (n - j) (c - j)]).run Tryz.prog w.drew = .ok (.slice (some ⟨g, 0, none⟩) (i + (n - j)) c) w')
  (hcl : ∀ ty dc, (Builtin.clear_ #[27] ty #[.slice (some ⟨g, (i + (n - j)) * 1, none⟩) (n - (i + (n - j))) dc]).run Tryz.prog w' = .ok (.tuple #[]) w'') :
  Calls Tryz.prog 211 #[.slice (some ⟨g, 0, none⟩) n c, .int .i64 i, .int .i64 j] w fun e w1 => e = .returned (.slice (some ⟨g, 0, none⟩) (i + (n - j)) c) ∧ w1 = w'' := by
 obtain ⟨t24, t3, t4, mixed, z36, hnt⟩ := delF211_t
 have u24 := run_underlying t24; have u3 := run_underlying t3; have u4 := run_underlying t4
 have hi0 : (i : Int) ≤ (n : Int) := by omega
 have hj0 : (j : Int) ≤ (n : Int) := by omega
 have hij : (i : Int) ≤ (j : Int) := by omega
 have hne : ¬ ((i : Int) = (j : Int)) := by omega
 have hic : i ≤ c := by omega
 have hjc : j ≤ c := by omega
 have hln : i + (n - j) ≤ n := by omega
 have hlc : i + (n - j) ≤ c := by omega
 have hci : ¬ (c = i + (n - j)) := by omega
 obtain ⟨A, hA, hA'⟩ : ∃ A : Addr, (if c = j then some (⟨g, 0, none⟩ : Addr) else some ⟨g, j * 1, none⟩) = some A ∧ (c ≠ j → A = (⟨g, j * 1, none⟩ : Addr)) := by
  by_cases h : c = j
  · exact ⟨_, if_pos h, fun q => absurd h q⟩
  · exact ⟨_, if_neg h, fun _ => rfl⟩
 try simp only [Nat.mul_one] at hA hcl
 go_enter Tryz.func211, hnt
 go_wp2_with fail
 go_region_law_o (refine append_step rfl rfl _ _ (by simp [Act.eval, Act.put]) (by simp [Act.eval, Act.put, hA]) (hap _ _ hA') ?_)
 go_wp2_with (at_builtin; refine clear_list rfl rfl _ rfl (hcl _ _) ?_)
 go_ret
 exact ⟨rfl, rfl⟩
end
noncomputable abbrev P211 : List PT := delPs 3 (.int .i64)
noncomputable abbrev R211 : List RT := delRs 3 (.int .i64)
noncomputable def S211 (k : Nat) (xs : List Int) (i j : Int) : Option (((List Int) × Unit) × Unit) := delSem 3 (.int .i64) k (xs, i, j, ())
noncomputable def F211 : Fn := ⟨P211, R211, delSem 3 (.int .i64)⟩
noncomputable def E211 : Env := tab.env (fun _ => none) (fun _ => 0)
theorem E211_ok : EnvOK Tryz.prog E211 := envOK_of tabOK _ _ (fun f F h => by cases h)
theorem ok211 : FnOK Tryz.prog 211 F211 := by
 obtain ⟨i0, z, a1, a2, a3, a4, a5⟩ := (E211_ok.ty 3 ((.int .i64)) (by kernel_rfl)).info
 have b2 : Ty.sz ((.int .i64)) = 1 := rfl
 have hz : z.cells.size = 1 := by rw [← Array.length_toList, a5, zeroV_len, b2]
 obtain ⟨t24, t3, t4, mixed, z36, hnt⟩ := delF211_t
 refine del_ok Tryz.func211 rfl (by kernel_rfl) ?_
 rw [b2]
 exact del_all (S := 27) (z := z) t24 a1 a4 (by rw [a2, b2]) hz (fun v hv => zeroV_one ((.int .i64)) v (by rw [← a5]; exact hv)) (by decide) (fun w i v h => delF211_none w h) (fun w g n c i j w' w'' h1 h2 h3 h4 h5 h6 => delF211_some w h1 h2 h3 h4 h5 h6)
noncomputable abbrev P161 : List PT := [.val ⟨true, Y10_7, false⟩, .val ⟨true, Y10_0, false⟩]
noncomputable abbrev R161 : List RT := [.val ⟨true, Y10_0, true⟩, .val ⟨true, (.pair (.int .i64) Y10_2), true⟩, .val ⟨false, .bool, true⟩]
noncomputable abbrev c161_L13 : Cut := ⟨[4, 5, 8], [.box 94 [.cell (.int .i64), .cell (.int .i64), .cell (.int .i64), .cell (.int .i64), .cell (.int .i64), .cell (.int .i64), .cell (.int .i64), .cell (.int .i64), .cell (.int .i64), .cell (.int .i64), .cell (.int .i64), .cell (.int .i64), .cell (.int .i64), .own 233 Y10_2, .cell .bool, .cell (.int .i64), .cell (.int .i64), .cell (.int .i64), .cell (.int .i64), .cell (.int .i64), .cell (.int .i64), .cell (.int .i64), .cell (.int .i64), .cell (.int .i64), .own 233 Y10_2, .cell .bool, .own 3 (.int .i64), .cell .bool], .box 87 [.cell (.int .i64), .cell (.int .i64), .cell (.int .i64), .cell (.int .i64)], .cell (.int .i64)], [], 70, []⟩
noncomputable def l161_13 (k : Nat) (g13 : Int → Int → Int → Int → Int → Int → Int → Int → Int → Int → Int → Int → Int → (List Y10_8) → Bool → Int → Int → Int → Int → Int → Int → Int → Int → Int → (List Y10_8) → Bool → (List Int) → Bool → Int → Int → Int → Int → Int → Option Y10_10) (x : Int) (x1 : Int) (x2 : Int) (x3 : Int) (x4 : Int) (x5 : Int) (x6 : Int) (x7 : Int) (x8 : Int) (x9 : Int) (x10 : Int) (x11 : Int) (x12 : Int) (x13 : List Y10_8) (x14 : Bool) (x15 : Int) (x16 : Int) (x17 : Int) (x18 : Int) (x19 : Int) (x20 : Int) (x21 : Int) (x22 : Int) (x23 : Int) (x24 : List Y10_8) (x25 : Bool) (x26 : List Int) (x27 : Bool) (what : Int) (what1 : Int) (what2 : Int) (what3 : Int) (i : Int) : Option Y10_10 :=
 (bif decide (i ≥ 0) then
  ix x26 i <|
  (bif (rd x26 i 0) == what1 then
   (S211 k x26 i (IntKind.i64.wrap (i + 1))).bind fun q5 =>
   some (((x, x1, x2, x3, (x4, (x5, x6, x7, x8, x9, x10, x11, x12), x13, x14), (x15, (x16, x17, x18, x19, x20, x21, x22, x23), x24, x25), q5.1.1, x27), (what, what1, what2, what3), true, ()), ())
  else
   g13 x x1 x2 x3 x4 x5 x6 x7 x8 x9 x10 x11 x12 x13 x14 x15 x16 x17 x18 x19 x20 x21 x22 x23 x24 x25 x26 x27 what what1 what2 what3 (IntKind.i64.wrap (i - 1)))
 else
  some (((x, x1, x2, x3, (x4, (x5, x6, x7, x8, x9, x10, x11, x12), x13, x14), (x15, (x16, x17, x18, x19, x20, x21, x22, x23), x24, x25), x26, x27), (what, what1, what2, what3), true, ()), ()))
noncomputable def b161_13 (k : Nat) (g : ((Unit) × Y10_3 × (Int × Int × Int × Int × Unit) × Int × Unit) → Option Y10_10) (d : (Unit) × Y10_3 × (Int × Int × Int × Int × Unit) × Int × Unit) : Option Y10_10 := l161_13 k (fun x x1 x2 x3 x4 x5 x6 x7 x8 x9 x10 x11 x12 x13 x14 x15 x16 x17 x18 x19 x20 x21 x22 x23 x24 x25 x26 x27 what what1 what2 what3 i => g ((), (x, x1, x2, x3, x4, x5, x6, x7, x8, x9, x10, x11, x12, x13, x14, x15, x16, x17, x18, x19, x20, x21, x22, x23, x24, x25, x26, x27, ()), (what, what1, what2, what3, ()), i, ())) d.2.1.1 d.2.1.2.1 d.2.1.2.2.1 d.2.1.2.2.2.1 d.2.1.2.2.2.2.1 d.2.1.2.2.2.2.2.1 d.2.1.2.2.2.2.2.2.1 d.2.1.2.2.2.2.2.2.2.1 d.2.1.2.2.2.2.2.2.2.2.1 d.2.1.2.2.2.2.2.2.2.2.2.1 d.2.1.2.2.2.2.2.2.2.2.2.2.1 d.2.1.2.2.2.2.2.2.2.2.2.2.2.1 d.2.1.2.2.2.2.2.2.2.2.2.2.2.2.1 d.2.1.2.2.2.2.2.2.2.2.2.2.2.2.2.1 d.2.1.2.2.2.2.2.2.2.2.2.2.2.2.2.2.1 d.2.1.2.2.2.2.2.2.2.2.2.2.2.2.2.2.2.1 d.2.1.2.2.2.2.2.2.2.2.2.2.2.2.2.2.2.2.1 d.2.1.2.2.2.2.2.2.2.2.2.2.2.2.2.2.2.2.2.1 d.2.1.2.2.2.2.2.2.2.2.2.2.2.2.2.2.2.2.2.2.1 d.2.1.2.2.2.2.2.2.2.2.2.2.2.2.2.2.2.2.2.2.2.1 d.2.1.2.2.2.2.2.2.2.2.2.2.2.2.2.2.2.2.2.2.2.2.1 d.2.1.2.2.2.2.2.2.2.2.2.2.2.2.2.2.2.2.2.2.2.2.2.1 d.2.1.2.2.2.2.2.2.2.2.2.2.2.2.2.2.2.2.2.2.2.2.2.2.1 d.2.1.2.2.2.2.2.2.2.2.2.2.2.2.2.2.2.2.2.2.2.2.2.2.2.1 d.2.1.2.2.2.2.2.2.2.2.2.2.2.2.2.2.2.2.2.2.2.2.2.2.2.2.1 d.2.1.2.2.2.2.2.2.2.2.2.2.2.2.2.2.2.2.2.2.2.2.2.2.2.2.2.1 d.2.1.2.2.2.2.2.2.2.2.2.2.2.2.2.2.2.2.2.2.2.2.2.2.2.2.2.2.1 d.2.1.2.2.2.2.2.2.2.2.2.2.2.2.2.2.2.2.2.2.2.2.2.2.2.2.2.2.2.1 d.2.2.1.1 d.2.2.1.2.1 d.2.2.1.2.2.1 d.2.2.1.2.2.2.1 d.2.2.2.1
noncomputable def L161_13 (k : Nat) (j : Nat) (x : Int) (x1 : Int) (x2 : Int) (x3 : Int) (x4 : Int) (x5 : Int) (x6 : Int) (x7 : Int) (x8 : Int) (x9 : Int) (x10 : Int) (x11 : Int) (x12 : Int) (x13 : List Y10_8) (x14 : Bool) (x15 : Int) (x16 : Int) (x17 : Int) (x18 : Int) (x19 : Int) (x20 : Int) (x21 : Int) (x22 : Int) (x23 : Int) (x24 : List Y10_8) (x25 : Bool) (x26 : List Int) (x27 : Bool) (what : Int) (what1 : Int) (what2 : Int) (what3 : Int) (i : Int) : Option Y10_10 := iter (R := (Y10_1 × Y10_5 × Bool × Unit) × Unit) c161_L13 (b161_13 k) j ((), (x, x1, x2, x3, x4, x5, x6, x7, x8, x9, x10, x11, x12, x13, x14, x15, x16, x17, x18, x19, x20, x21, x22, x23, x24, x25, x26, x27, ()), (what, what1, what2, what3, ()), i, ())
theorem L161_13_s (k : Nat) (j : Nat) (x : Int) (x1 : Int) (x2 : Int) (x3 : Int) (x4 : Int) (x5 : Int) (x6 : Int) (x7 : Int) (x8 : Int) (x9 : Int) (x10 : Int) (x11 : Int) (x12 : Int) (x13 : List Y10_8) (x14 : Bool) (x15 : Int) (x16 : Int) (x17 : Int) (x18 : Int) (x19 : Int) (x20 : Int) (x21 : Int) (x22 : Int) (x23 : Int) (x24 : List Y10_8) (x25 : Bool) (x26 : List Int) (x27 : Bool) (what : Int) (what1 : Int) (what2 : Int) (what3 : Int) (i : Int) : L161_13 k (j + 1) x x1 x2 x3 x4 x5 x6 x7 x8 x9 x10 x11 x12 x13 x14 x15 x16 x17 x18 x19 x20 x21 x22 x23 x24 x25 x26 x27 what what1 what2 what3 i = l161_13 k (L161_13 k j) x x1 x2 x3 x4 x5 x6 x7 x8 x9 x10 x11 x12 x13 x14 x15 x16 x17 x18 x19 x20 x21 x22 x23 x24 x25 x26 x27 what what1 what2 what3 i := iter_succ _ _ _ _
noncomputable def S161 (k : Nat) (t : Int × Int × Int × (List Y10_5) × (List Y10_5) × List Y10_5) (j_ : Int × Int × Int × Int × Y10_4 × Y10_4 × (List Int) × Bool) : Option Y10_10 :=
 (S207 k j_).bind fun q0 =>
 (S209 k t j_).bind fun q1 =>
 (S208 k q1.1.1 j_.2.2.2.2.1).bind fun q2 =>
 (bif !q2.1.2.2.1 then
  some ((q0.1.1, (0, 0, 0, 0), false, ()), ())
 else
  (bif q2.1.2.1.1 == 11 then
   (S210 k q2.1.1).bind fun q3 =>
   some (((q0.1.1.1, q0.1.1.2.1, q0.1.1.2.2.1, q0.1.1.2.2.2.1, q2.1.1, q3.1.1, q0.1.1.2.2.2.2.2.2), q2.1.2.1, true, ()), ())
  else
   (bif q2.1.2.1.1 == 9 then
    ap q0.1.1.2.2.2.2.2.2.1 ([q2.1.2.1.2.1] : List Int) 8 fun r4 =>
    some (((q0.1.1.1, q0.1.1.2.1, q0.1.1.2.2.1, q0.1.1.2.2.2.1, q2.1.1, q0.1.1.2.2.2.2.2.1, r4, q0.1.1.2.2.2.2.2.2.2), q2.1.2.1, true, ()), ())
   else
    (bif q2.1.2.1.1 == 10 then
     L161_13 k k q0.1.1.1 q0.1.1.2.1 q0.1.1.2.2.1 q0.1.1.2.2.2.1 q2.1.1.1 q2.1.1.2.1.1 q2.1.1.2.1.2.1 q2.1.1.2.1.2.2.1 q2.1.1.2.1.2.2.2.1 q2.1.1.2.1.2.2.2.2.1 q2.1.1.2.1.2.2.2.2.2.1 q2.1.1.2.1.2.2.2.2.2.2.1 q2.1.1.2.1.2.2.2.2.2.2.2 q2.1.1.2.2.1 q2.1.1.2.2.2 q0.1.1.2.2.2.2.2.1.1 q0.1.1.2.2.2.2.2.1.2.1.1 q0.1.1.2.2.2.2.2.1.2.1.2.1 q0.1.1.2.2.2.2.2.1.2.1.2.2.1 q0.1.1.2.2.2.2.2.1.2.1.2.2.2.1 q0.1.1.2.2.2.2.2.1.2.1.2.2.2.2.1 q0.1.1.2.2.2.2.2.1.2.1.2.2.2.2.2.1 q0.1.1.2.2.2.2.2.1.2.1.2.2.2.2.2.2.1 q0.1.1.2.2.2.2.2.1.2.1.2.2.2.2.2.2.2 q0.1.1.2.2.2.2.2.1.2.2.1 q0.1.1.2.2.2.2.2.1.2.2.2 q0.1.1.2.2.2.2.2.2.1 q0.1.1.2.2.2.2.2.2.2 q2.1.2.1.1 q2.1.2.1.2.1 q2.1.2.1.2.2.1 q2.1.2.1.2.2.2 (IntKind.i64.wrap ((q0.1.1.2.2.2.2.2.2.1.length : Int) - 1))
    else
     some (((q0.1.1.1, q0.1.1.2.1, q0.1.1.2.2.1, q0.1.1.2.2.2.1, q2.1.1, q0.1.1.2.2.2.2.2), q2.1.2.1, true, ()), ())))))
noncomputable def E161 : Env := tab.env (lk [(207, F207), (208, F208), (209, F209), (210, F210), (211, F211)]) (hintL [])
theorem E161_ok : EnvOK Tryz.prog E161 := envOK_of tabOK _ _ (allFn_lk (l := [(207, F207), (208, F208), (209, F209), (210, F210), (211, F211)]) ⟨ok207, ok208, ok209, ok210, ok211, trivial⟩)
noncomputable def B161 (k : Nat) : Tbl (RD R161 × MD P161) := (.loop 13 c161_L13 (b161_13 k) (fun g => .nil) .nil)
noncomputable def F161 : Fn := ⟨P161, R161, fun k x => S161 k x.1 x.2.1⟩
theorem ok161 : FnOK Tryz.prog 161 F161 := evalF_ok (E := E161) (T := B161) E161_ok mix Tryz.func161 rfl (by kernel_rfl) (by kernel_rfl) (fun k => by kernel_rfl) (fun k x => by kernel_rfl)
noncomputable abbrev P162 : List PT := [.val ⟨false, Y10_12, false⟩, .val ⟨false, (.int .i64), false⟩, .val ⟨false, (.int .i64), false⟩]
noncomputable abbrev R162 : List RT := [.val ⟨false, Y10_12, true⟩, .val ⟨false, .bool, true⟩]
noncomputable def S162 (k : Nat) (l_ : List (Int × Int)) (s : Int) (task : Int) : Option (((List (Int × Int)) × Bool × Unit) × Unit) :=
 (S194 k l_).bind fun q0 =>
 (S212 k l_ s).bind fun q1 =>
 (bif !q1.1.1 then
  some ((q0.1.1, false, ()), ())
 else
  ix l_ s <|
  (bif (rd l_ s (0, 0)).2 != 0 then
   some ((q0.1.1, false, ()), ())
  else
   ix q0.1.1 s <|
   some ((upd q0.1.1 s ((rd q0.1.1 s (0, 0)).1, IntKind.i64.wrap (task + 1)), true, ()), ())))
noncomputable def E162 : Env := tab.env (lk [(194, F194), (212, F212)]) (hintL [])
theorem E162_ok : EnvOK Tryz.prog E162 := envOK_of tabOK _ _ (allFn_lk (l := [(194, F194), (212, F212)]) ⟨ok194, ok212, trivial⟩)
noncomputable def B162 (k : Nat) : Tbl (RD R162 × MD P162) := .nil
noncomputable def F162 : Fn := ⟨P162, R162, fun k x => S162 k x.1 x.2.1 x.2.2.1⟩
theorem ok162 : FnOK Tryz.prog 162 F162 := evalF_ok (E := E162) (T := B162) E162_ok mix Tryz.func162 rfl (by kernel_rfl) (by kernel_rfl) (fun k => by kernel_rfl) (fun k x => by kernel_rfl)
noncomputable abbrev P163 : List PT := [.val ⟨false, Y10_12, false⟩, .val ⟨false, (.int .i64), false⟩, .val ⟨false, (.int .i64), false⟩]
noncomputable abbrev R163 : List RT := [.val ⟨false, Y10_12, true⟩, .val ⟨false, .bool, true⟩]
noncomputable def S163 (k : Nat) (l_ : List (Int × Int)) (s : Int) (task : Int) : Option (((List (Int × Int)) × Bool × Unit) × Unit) :=
 (S194 k l_).bind fun q0 =>
 (S195 k l_ s task).bind fun q1 =>
 (bif !q1.1.1 then
  some ((q0.1.1, false, ()), ())
 else
  ix q0.1.1 s <|
  some ((upd q0.1.1 s ((rd q0.1.1 s (0, 0)).1, 0), true, ()), ()))
noncomputable def E163 : Env := tab.env (lk [(194, F194), (195, F195)]) (hintL [])
theorem E163_ok : EnvOK Tryz.prog E163 := envOK_of tabOK _ _ (allFn_lk (l := [(194, F194), (195, F195)]) ⟨ok194, ok195, trivial⟩)
noncomputable def B163 (k : Nat) : Tbl (RD R163 × MD P163) := .nil
noncomputable def F163 : Fn := ⟨P163, R163, fun k x => S163 k x.1 x.2.1 x.2.2.1⟩
theorem ok163 : FnOK Tryz.prog 163 F163 := evalF_ok (E := E163) (T := B163) E163_ok mix Tryz.func163 rfl (by kernel_rfl) (by kernel_rfl) (fun k => by kernel_rfl) (fun k x => by kernel_rfl)
noncomputable abbrev P213 : List PT := [.val ⟨true, Y10_0, false⟩]
noncomputable abbrev R213 : List RT := [.val ⟨true, Y10_0, true⟩]
noncomputable def S213 (k : Nat) (j_ : Int × Int × Int × Int × Y10_4 × Y10_4 × (List Int) × Bool) : Option ((Y10_1 × Unit) × Unit) :=
 (S207 k j_).bind fun q0 =>
 (S99 k j_.2.2.2.2.1.2.1.1).bind fun q1 =>
 (S99 k j_.2.2.2.2.1.2.1.1).bind fun q2 =>
 some (((q0.1.1.1, q0.1.1.2.1, q0.1.1.2.2.1, 2, q1.1.1, q2.1.1, [], false), ()), ())
noncomputable def E213 : Env := tab.env (lk [(99, F99), (207, F207)]) (hintL [])
theorem E213_ok : EnvOK Tryz.prog E213 := envOK_of tabOK _ _ (allFn_lk (l := [(99, F99), (207, F207)]) ⟨ok99, ok207, trivial⟩)
noncomputable def B213 (k : Nat) : Tbl (RD R213 × MD P213) := .nil
noncomputable def F213 : Fn := ⟨P213, R213, fun k x => S213 k x.1⟩
theorem ok213 : FnOK Tryz.prog 213 F213 := evalF_ok (E := E213) (T := B213) E213_ok mix Tryz.func213 rfl (by kernel_rfl) (by kernel_rfl) (fun k => by kernel_rfl) (fun k x => by kernel_rfl)
noncomputable abbrev P164 : List PT := [.mbox 150 [.cell (.int .i64), .cell (.int .i64), .own 77 Y10_7, .own 96 (arrT 5 (.int .i64)), .cell .bool, .cell .bool, .cell .bool, .own 94 Y10_0, .own 3 (.int .i64), .own 4 .bool, .own 124 Y10_9, .own 3 (.int .i64), .own 4 .bool, .own 82 (arrT 6 (.int .i64))], .mbox 94 [.cell (.int .i64), .cell (.int .i64), .cell (.int .i64), .cell (.int .i64), .cell (.int .i64), .cell (.int .i64), .cell (.int .i64), .cell (.int .i64), .cell (.int .i64), .cell (.int .i64), .cell (.int .i64), .cell (.int .i64), .cell (.int .i64), .own 233 Y10_2, .cell .bool, .cell (.int .i64), .cell (.int .i64), .cell (.int .i64), .cell (.int .i64), .cell (.int .i64), .cell (.int .i64), .cell (.int .i64), .cell (.int .i64), .cell (.int .i64), .own 233 Y10_2, .cell .bool, .own 3 (.int .i64), .cell .bool]]
noncomputable abbrev R164 : List RT := [.val ⟨false, .bool, true⟩]
noncomputable abbrev c164_J8 : Cut := ⟨[0, 1], [.pin false 0, .pin false 1], [.mbox 150 [.cell (.int .i64), .cell (.int .i64), .own 77 Y10_7, .own 96 (arrT 5 (.int .i64)), .cell .bool, .cell .bool, .cell .bool, .own 94 Y10_0, .own 3 (.int .i64), .own 4 .bool, .own 124 Y10_9, .own 3 (.int .i64), .own 4 .bool, .own 82 (arrT 6 (.int .i64))], .mbox 94 [.cell (.int .i64), .cell (.int .i64), .cell (.int .i64), .cell (.int .i64), .cell (.int .i64), .cell (.int .i64), .cell (.int .i64), .cell (.int .i64), .cell (.int .i64), .cell (.int .i64), .cell (.int .i64), .cell (.int .i64), .cell (.int .i64), .own 233 Y10_2, .cell .bool, .cell (.int .i64), .cell (.int .i64), .cell (.int .i64), .cell (.int .i64), .cell (.int .i64), .cell (.int .i64), .cell (.int .i64), .cell (.int .i64), .cell (.int .i64), .own 233 Y10_2, .cell .bool, .own 3 (.int .i64), .cell .bool]], 95, []⟩
noncomputable def j164_8 (k : Nat) (t14 : Int) (t15 : Int) (t16 : List (Int × Int × Int × (List Y10_5) × (List Y10_5) × List Y10_5)) (t17 : List (PN Int 5)) (t18 : Bool) (t19 : Bool) (t20 : Bool) (t21 : List Y10_1) (t22 : List Int) (t23 : List Bool) (t24 : Y10_13) (t25 : List Int) (t26 : List Bool) (t27 : List (PN Int 6)) (j_28 : Int) (j_29 : Int) (j_30 : Int) (j_31 : Int) (j_32 : Int) (j_33 : Int) (j_34 : Int) (j_35 : Int) (j_36 : Int) (j_37 : Int) (j_38 : Int) (j_39 : Int) (j_40 : Int) (j_41 : List Y10_8) (j_42 : Bool) (j_43 : Int) (j_44 : Int) (j_45 : Int) (j_46 : Int) (j_47 : Int) (j_48 : Int) (j_49 : Int) (j_50 : Int) (j_51 : Int) (j_52 : List Y10_8) (j_53 : Bool) (j_54 : List Int) (j_55 : Bool) : Option Y10_6 :=
 (S83 k (t25, t26) j_28).bind fun q3 =>
 (S213 k (j_28, j_29, j_30, j_31, (j_32, (j_33, j_34, j_35, j_36, j_37, j_38, j_39, j_40), j_41, j_42), (j_43, (j_44, j_45, j_46, j_47, j_48, j_49, j_50, j_51), j_52, j_53), j_54, j_55)).bind fun q4 =>
 ix t16 q4.1.1.1 <|
 some ((((rd t16 q4.1.1.1 (0, 0, 0, [], [], [])).2.2.2.2.2.length : Int) == 0, ()), (t14, t15, t16, t17, t18, t19, t20, t21, t22, t23, t24, q3.1.1.1, q3.1.1.2, t27, ()), (q4.1.1.1, q4.1.1.2.1, q4.1.1.2.2.1, q4.1.1.2.2.2.1, q4.1.1.2.2.2.2.1.1, q4.1.1.2.2.2.2.1.2.1.1, q4.1.1.2.2.2.2.1.2.1.2.1, q4.1.1.2.2.2.2.1.2.1.2.2.1, q4.1.1.2.2.2.2.1.2.1.2.2.2.1, q4.1.1.2.2.2.2.1.2.1.2.2.2.2.1, q4.1.1.2.2.2.2.1.2.1.2.2.2.2.2.1, q4.1.1.2.2.2.2.1.2.1.2.2.2.2.2.2.1, q4.1.1.2.2.2.2.1.2.1.2.2.2.2.2.2.2, q4.1.1.2.2.2.2.1.2.2.1, q4.1.1.2.2.2.2.1.2.2.2, q4.1.1.2.2.2.2.2.1.1, q4.1.1.2.2.2.2.2.1.2.1.1, q4.1.1.2.2.2.2.2.1.2.1.2.1, q4.1.1.2.2.2.2.2.1.2.1.2.2.1, q4.1.1.2.2.2.2.2.1.2.1.2.2.2.1, q4.1.1.2.2.2.2.2.1.2.1.2.2.2.2.1, q4.1.1.2.2.2.2.2.1.2.1.2.2.2.2.2.1, q4.1.1.2.2.2.2.2.1.2.1.2.2.2.2.2.2.1, q4.1.1.2.2.2.2.2.1.2.1.2.2.2.2.2.2.2, q4.1.1.2.2.2.2.2.1.2.2.1, q4.1.1.2.2.2.2.2.1.2.2.2, q4.1.1.2.2.2.2.2.2.1, q4.1.1.2.2.2.2.2.2.2, ()), ())
noncomputable def S164 (k : Nat) (t : Int) (t1 : Int) (t2 : List (Int × Int × Int × (List Y10_5) × (List Y10_5) × List Y10_5)) (t3 : List (PN Int 5)) (t4 : Bool) (t5 : Bool) (t6 : Bool) (t7 : List Y10_1) (t8 : List Int) (t9 : List Bool) (t10 : Y10_13) (t11 : List Int) (t12 : List Bool) (t13 : List (PN Int 6)) (j_ : Int) (j_1 : Int) (j_2 : Int) (j_3 : Int) (j_4 : Int) (j_5 : Int) (j_6 : Int) (j_7 : Int) (j_8 : Int) (j_9 : Int) (j_10 : Int) (j_11 : Int) (j_12 : Int) (j_13 : List Y10_8) (j_14 : Bool) (j_15 : Int) (j_16 : Int) (j_17 : Int) (j_18 : Int) (j_19 : Int) (j_20 : Int) (j_21 : Int) (j_22 : Int) (j_23 : Int) (j_24 : List Y10_8) (j_25 : Bool) (j_26 : List Int) (j_27 : Bool) : Option Y10_6 :=
 (bif j_3 == 2 then
  (S100a k t t1 t2 t3 t4 t5 t6 t7 t8 t9 t10 t11 t12 t13 (0, 4, j_, 0, j_5, 0)).bind fun q0 =>
  some ((true, ()), (q0.2.1.1, q0.2.1.2.1, q0.2.1.2.2.1, q0.2.1.2.2.2.1, q0.2.1.2.2.2.2.1, q0.2.1.2.2.2.2.2.1, q0.2.1.2.2.2.2.2.2.1, q0.2.1.2.2.2.2.2.2.2.1, q0.2.1.2.2.2.2.2.2.2.2.1, q0.2.1.2.2.2.2.2.2.2.2.2.1, q0.2.1.2.2.2.2.2.2.2.2.2.2.1, q0.2.1.2.2.2.2.2.2.2.2.2.2.2.1, q0.2.1.2.2.2.2.2.2.2.2.2.2.2.2.1, q0.2.1.2.2.2.2.2.2.2.2.2.2.2.2.2.1, ()), (j_, j_1, j_2, j_3, j_4, j_5, j_6, j_7, j_8, j_9, j_10, j_11, j_12, j_13, j_14, j_15, j_16, j_17, j_18, j_19, j_20, j_21, j_22, j_23, j_24, j_25, j_26, j_27, ()), ())
 else
  (S100a k t t1 t2 t3 t4 t5 t6 t7 t8 t9 t10 t11 t12 t13 (0, 3, j_, 0, j_5, 0)).bind fun q1 =>
  (bif j_3 == 0 then
   ix q1.2.1.2.2.1 j_ <|
   (bif decide (((rd q1.2.1.2.2.1 j_ (0, 0, 0, [], [], [])).2.2.2.2.1.length : Int) > 0) then
    (S100a k q1.2.1.1 q1.2.1.2.1 q1.2.1.2.2.1 q1.2.1.2.2.2.1 q1.2.1.2.2.2.2.1 q1.2.1.2.2.2.2.2.1 q1.2.1.2.2.2.2.2.2.1 q1.2.1.2.2.2.2.2.2.2.1 q1.2.1.2.2.2.2.2.2.2.2.1 q1.2.1.2.2.2.2.2.2.2.2.2.1 q1.2.1.2.2.2.2.2.2.2.2.2.2.1 q1.2.1.2.2.2.2.2.2.2.2.2.2.2.1 q1.2.1.2.2.2.2.2.2.2.2.2.2.2.2.1 q1.2.1.2.2.2.2.2.2.2.2.2.2.2.2.2.1 (0, 8, j_, 0, 0, 0)).bind fun q2 =>
    j164_8 k q2.2.1.1 q2.2.1.2.1 q2.2.1.2.2.1 q2.2.1.2.2.2.1 q2.2.1.2.2.2.2.1 q2.2.1.2.2.2.2.2.1 q2.2.1.2.2.2.2.2.2.1 q2.2.1.2.2.2.2.2.2.2.1 q2.2.1.2.2.2.2.2.2.2.2.1 q2.2.1.2.2.2.2.2.2.2.2.2.1 q2.2.1.2.2.2.2.2.2.2.2.2.2.1 q2.2.1.2.2.2.2.2.2.2.2.2.2.2.1 q2.2.1.2.2.2.2.2.2.2.2.2.2.2.2.1 q2.2.1.2.2.2.2.2.2.2.2.2.2.2.2.2.1 j_ j_1 j_2 j_3 j_4 j_5 j_6 j_7 j_8 j_9 j_10 j_11 j_12 j_13 j_14 j_15 j_16 j_17 j_18 j_19 j_20 j_21 j_22 j_23 j_24 j_25 j_26 j_27
   else
    j164_8 k q1.2.1.1 q1.2.1.2.1 q1.2.1.2.2.1 q1.2.1.2.2.2.1 q1.2.1.2.2.2.2.1 q1.2.1.2.2.2.2.2.1 q1.2.1.2.2.2.2.2.2.1 q1.2.1.2.2.2.2.2.2.2.1 q1.2.1.2.2.2.2.2.2.2.2.1 q1.2.1.2.2.2.2.2.2.2.2.2.1 q1.2.1.2.2.2.2.2.2.2.2.2.2.1 q1.2.1.2.2.2.2.2.2.2.2.2.2.2.1 q1.2.1.2.2.2.2.2.2.2.2.2.2.2.2.1 q1.2.1.2.2.2.2.2.2.2.2.2.2.2.2.2.1 j_ j_1 j_2 j_3 j_4 j_5 j_6 j_7 j_8 j_9 j_10 j_11 j_12 j_13 j_14 j_15 j_16 j_17 j_18 j_19 j_20 j_21 j_22 j_23 j_24 j_25 j_26 j_27)
  else
   j164_8 k q1.2.1.1 q1.2.1.2.1 q1.2.1.2.2.1 q1.2.1.2.2.2.1 q1.2.1.2.2.2.2.1 q1.2.1.2.2.2.2.2.1 q1.2.1.2.2.2.2.2.2.1 q1.2.1.2.2.2.2.2.2.2.1 q1.2.1.2.2.2.2.2.2.2.2.1 q1.2.1.2.2.2.2.2.2.2.2.2.1 q1.2.1.2.2.2.2.2.2.2.2.2.2.1 q1.2.1.2.2.2.2.2.2.2.2.2.2.2.1 q1.2.1.2.2.2.2.2.2.2.2.2.2.2.2.1 q1.2.1.2.2.2.2.2.2.2.2.2.2.2.2.2.1 j_ j_1 j_2 j_3 j_4 j_5 j_6 j_7 j_8 j_9 j_10 j_11 j_12 j_13 j_14 j_15 j_16 j_17 j_18 j_19 j_20 j_21 j_22 j_23 j_24 j_25 j_26 j_27))
noncomputable def E164 : Env := tab.env (lk [(83, F83), (100, F100a), (213, F213)]) (hintL [])
theorem E164_ok : EnvOK Tryz.prog E164 := envOK_of tabOK _ _ (allFn_lk (l := [(83, F83), (100, F100a), (213, F213)]) ⟨ok83, ok100a, ok213, trivial⟩)
noncomputable def B164 (k : Nat) : Tbl (RD R164 × MD P164) := (.join 8 c164_J8 (fun d => j164_8 k d.1.1.1 d.1.1.2.1 d.1.1.2.2.1 d.1.1.2.2.2.1 d.1.1.2.2.2.2.1 d.1.1.2.2.2.2.2.1 d.1.1.2.2.2.2.2.2.1 d.1.1.2.2.2.2.2.2.2.1 d.1.1.2.2.2.2.2.2.2.2.1 d.1.1.2.2.2.2.2.2.2.2.2.1 d.1.1.2.2.2.2.2.2.2.2.2.2.1 d.1.1.2.2.2.2.2.2.2.2.2.2.2.1 d.1.1.2.2.2.2.2.2.2.2.2.2.2.2.1 d.1.1.2.2.2.2.2.2.2.2.2.2.2.2.2.1 d.1.2.1.1 d.1.2.1.2.1 d.1.2.1.2.2.1 d.1.2.1.2.2.2.1 d.1.2.1.2.2.2.2.1 d.1.2.1.2.2.2.2.2.1 d.1.2.1.2.2.2.2.2.2.1 d.1.2.1.2.2.2.2.2.2.2.1 d.1.2.1.2.2.2.2.2.2.2.2.1 d.1.2.1.2.2.2.2.2.2.2.2.2.1 d.1.2.1.2.2.2.2.2.2.2.2.2.2.1 d.1.2.1.2.2.2.2.2.2.2.2.2.2.2.1 d.1.2.1.2.2.2.2.2.2.2.2.2.2.2.2.1 d.1.2.1.2.2.2.2.2.2.2.2.2.2.2.2.2.1 d.1.2.1.2.2.2.2.2.2.2.2.2.2.2.2.2.2.1 d.1.2.1.2.2.2.2.2.2.2.2.2.2.2.2.2.2.2.1 d.1.2.1.2.2.2.2.2.2.2.2.2.2.2.2.2.2.2.2.1 d.1.2.1.2.2.2.2.2.2.2.2.2.2.2.2.2.2.2.2.2.1 d.1.2.1.2.2.2.2.2.2.2.2.2.2.2.2.2.2.2.2.2.2.1 d.1.2.1.2.2.2.2.2.2.2.2.2.2.2.2.2.2.2.2.2.2.2.1 d.1.2.1.2.2.2.2.2.2.2.2.2.2.2.2.2.2.2.2.2.2.2.2.1 d.1.2.1.2.2.2.2.2.2.2.2.2.2.2.2.2.2.2.2.2.2.2.2.2.1 d.1.2.1.2.2.2.2.2.2.2.2.2.2.2.2.2.2.2.2.2.2.2.2.2.2.1 d.1.2.1.2.2.2.2.2.2.2.2.2.2.2.2.2.2.2.2.2.2.2.2.2.2.2.1 d.1.2.1.2.2.2.2.2.2.2.2.2.2.2.2.2.2.2.2.2.2.2.2.2.2.2.2.1 d.1.2.1.2.2.2.2.2.2.2.2.2.2.2.2.2.2.2.2.2.2.2.2.2.2.2.2.2.1 d.1.2.1.2.2.2.2.2.2.2.2.2.2.2.2.2.2.2.2.2.2.2.2.2.2.2.2.2.2.1 d.1.2.1.2.2.2.2.2.2.2.2.2.2.2.2.2.2.2.2.2.2.2.2.2.2.2.2.2.2.2.1) .nil)
noncomputable def F164 : Fn := ⟨P164, R164, fun k x => S164 k x.1.1 x.1.2.1 x.1.2.2.1 x.1.2.2.2.1 x.1.2.2.2.2.1 x.1.2.2.2.2.2.1 x.1.2.2.2.2.2.2.1 x.1.2.2.2.2.2.2.2.1 x.1.2.2.2.2.2.2.2.2.1 x.1.2.2.2.2.2.2.2.2.2.1 x.1.2.2.2.2.2.2.2.2.2.2.1 x.1.2.2.2.2.2.2.2.2.2.2.2.1 x.1.2.2.2.2.2.2.2.2.2.2.2.2.1 x.1.2.2.2.2.2.2.2.2.2.2.2.2.2.1 x.2.1.1 x.2.1.2.1 x.2.1.2.2.1 x.2.1.2.2.2.1 x.2.1.2.2.2.2.1 x.2.1.2.2.2.2.2.1 x.2.1.2.2.2.2.2.2.1 x.2.1.2.2.2.2.2.2.2.1 x.2.1.2.2.2.2.2.2.2.2.1 x.2.1.2.2.2.2.2.2.2.2.2.1 x.2.1.2.2.2.2.2.2.2.2.2.2.1 x.2.1.2.2.2.2.2.2.2.2.2.2.2.1 x.2.1.2.2.2.2.2.2.2.2.2.2.2.2.1 x.2.1.2.2.2.2.2.2.2.2.2.2.2.2.2.1 x.2.1.2.2.2.2.2.2.2.2.2.2.2.2.2.2.1 x.2.1.2.2.2.2.2.2.2.2.2.2.2.2.2.2.2.1 x.2.1.2.2.2.2.2.2.2.2.2.2.2.2.2.2.2.2.1 x.2.1.2.2.2.2.2.2.2.2.2.2.2.2.2.2.2.2.2.1 x.2.1.2.2.2.2.2.2.2.2.2.2.2.2.2.2.2.2.2.2.1 x.2.1.2.2.2.2.2.2.2.2.2.2.2.2.2.2.2.2.2.2.2.1 x.2.1.2.2.2.2.2.2.2.2.2.2.2.2.2.2.2.2.2.2.2.2.1 x.2.1.2.2.2.2.2.2.2.2.2.2.2.2.2.2.2.2.2.2.2.2.2.1 x.2.1.2.2.2.2.2.2.2.2.2.2.2.2.2.2.2.2.2.2.2.2.2.2.1 x.2.1.2.2.2.2.2.2.2.2.2.2.2.2.2.2.2.2.2.2.2.2.2.2.2.1 x.2.1.2.2.2.2.2.2.2.2.2.2.2.2.2.2.2.2.2.2.2.2.2.2.2.2.1 x.2.1.2.2.2.2.2.2.2.2.2.2.2.2.2.2.2.2.2.2.2.2.2.2.2.2.2.1 x.2.1.2.2.2.2.2.2.2.2.2.2.2.2.2.2.2.2.2.2.2.2.2.2.2.2.2.2.1 x.2.1.2.2.2.2.2.2.2.2.2.2.2.2.2.2.2.2.2.2.2.2.2.2.2.2.2.2.2.1⟩
theorem ok164 : FnOK Tryz.prog 164 F164 := evalF_ok (E := E164) (T := B164) E164_ok mix Tryz.func164 rfl (by kernel_rfl) (by kernel_rfl) (fun k => by kernel_rfl) (fun k x => by kernel_rfl)
end Go.Proofs.YtmmagcjlfcicfaaGreat.Ab
