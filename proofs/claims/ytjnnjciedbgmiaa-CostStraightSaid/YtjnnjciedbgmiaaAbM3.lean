import Derived.Test.YtjnnjciedbgmiaaAbM2
/- Contracts, printed by this session's own program gen.py. -/
set_option linter.unusedVariables false
set_option linter.unusedSimpArgs false
set_option maxRecDepth 100000
namespace Go.Proofs.Ytjnnjciedbgmiaa.Ab
open Go.RowKit Go.Proofs.YtjnnjciedbgmiaaW.PrintWords
abbrev Y3_0 : Type := (Int × (PN Int 8) × (List (Int × Int × Int)) × Bool) × (Int × Int × Int × Int) × Bool × Unit
abbrev Y3_1 : Ty := .pair (.int .i64) (.pair (.int .i64) (.int .i64))
abbrev Y3_2 : Type := Int × Int × Int × Int × Int × Int × Int × Int × Int × (List (Int × Int × Int)) × Bool × Unit
abbrev Y3_3 : Type := Int × Int × Int × Int
abbrev Y3_4 : Type := (Int × Int × Bool × Unit) × Unit
abbrev Y3_5 : Type := Int × Int × Int
abbrev Y3_6 : Type := (Int × Unit) × Unit
noncomputable abbrev P60 : List PT := [.val ⟨false, (.int .i64), false⟩]
noncomputable abbrev R60 : List RT := [.val ⟨false, (.int .u64), true⟩]
noncomputable abbrev c60_L2 : Cut := ⟨[0, 3], [.cell (.int .i64), .cell (.int .u64)], [], 11⟩
noncomputable def l60_2 (k : Nat) (g2 : Int → Int → Option Y3_6) (i1 : Int) (v : Int) : Option Y3_6 :=
 (bif decide (i1 > 0) then
  g2 (IntKind.i64.wrap (i1 - 1)) (IntKind.u64.wrap (2 * v))
 else
  some ((v, ()), ()))
noncomputable def b60_2 (k : Nat) (g : ((Unit) × Int × Int × Unit) → Option Y3_6) (d : (Unit) × Int × Int × Unit) : Option Y3_6 := l60_2 k (fun i1 v => g ((), i1, v, ())) d.2.1 d.2.2.1
noncomputable def L60_2 (k : Nat) (j : Nat) (i1 : Int) (v : Int) : Option Y3_6 := iter (R := (Int × Unit) × Unit) c60_L2 (b60_2 k) j ((), i1, v, ())
theorem L60_2_s (k : Nat) (j : Nat) (i1 : Int) (v : Int) : L60_2 k (j + 1) i1 v = l60_2 k (L60_2 k j) i1 v := iter_succ _ _ _ _
noncomputable def S60 (k : Nat) (i : Int) : Option Y3_6 :=
 L60_2 k k i 1
noncomputable def E60 : Env := tab.env (lk []) (hintL [])
theorem E60_ok : EnvOK Try.prog E60 := envOK_of tabOK _ _ (fun f F h => by cases h)
noncomputable def B60 (k : Nat) : Tbl (RD R60 × MD P60) := (.loop 2 c60_L2 (b60_2 k) (fun g => .nil) .nil)
noncomputable def F60 : Fn := ⟨P60, R60, fun k x => S60 k x.1⟩
theorem ok60 : FnOK Try.prog 60 F60 := evalF_ok (E := E60) (T := B60) E60_ok mix Try.func60 rfl (by kernel_rfl) (by kernel_rfl) (fun k => by kernel_rfl) (fun k x => by kernel_rfl)
noncomputable abbrev P47 : List PT := [.val ⟨false, (.int .i64), false⟩, .val ⟨false, (.int .i64), false⟩]
noncomputable abbrev R47 : List RT := [.val ⟨false, (.int .i64), true⟩]
noncomputable def S47 (k : Nat) (v : Int) (n : Int) : Option Y3_6 :=
 (bif decide (n < 1) then
  some ((v, ()), ())
 else
  (bif decide (n > 63) then
   some ((v, ()), ())
  else
   (S60 k n).bind fun q0 =>
   nz q0.1.1 <|
   (S60 k (IntKind.i64.wrap (n - 1))).bind fun q1 =>
   (bif decide ((Int.tmod (IntKind.u64.wrap v) q0.1.1) ≥ q1.1.1) then
    (S60 k n).bind fun q2 =>
    some ((IntKind.i64.wrap (0 - (IntKind.i64.wrap (IntKind.u64.wrap (q2.1.1 - (Int.tmod (IntKind.u64.wrap v) q0.1.1))))), ()), ())
   else
    some ((IntKind.i64.wrap (Int.tmod (IntKind.u64.wrap v) q0.1.1), ()), ()))))
noncomputable def E47 : Env := tab.env (lk [(60, F60)]) (hintL [])
theorem E47_ok : EnvOK Try.prog E47 := envOK_of tabOK _ _ (allFn_lk (l := [(60, F60)]) ⟨ok60, trivial⟩)
noncomputable def B47 (k : Nat) : Tbl (RD R47 × MD P47) := .nil
noncomputable def F47 : Fn := ⟨P47, R47, fun k x => S47 k x.1 x.2.1⟩
theorem ok47 : FnOK Try.prog 47 F47 := evalF_ok (E := E47) (T := B47) E47_ok mix Try.func47 rfl (by kernel_rfl) (by kernel_rfl) (fun k => by kernel_rfl) (fun k x => by kernel_rfl)
noncomputable abbrev P22 : List PT := [.val ⟨false, (.sl 41 (.pair (.int .i64) Y3_1)), false⟩, .val ⟨true, (.pair (.int .i64) (.pair (arrT 8 (.int .i64)) (.pair (.sl 82 Y3_1) .bool))), false⟩]
noncomputable abbrev R22 : List RT := [.val ⟨true, (.pair (.int .i64) (.pair (arrT 8 (.int .i64)) (.pair (.sl 82 Y3_1) .bool))), true⟩, .val ⟨true, (.pair (.int .i64) Y3_1), true⟩, .val ⟨false, .bool, true⟩]
noncomputable abbrev c22_L28 : Cut := ⟨[3, 4, 5, 7], [.box 38 [.cell (.int .i64), .cell (.int .i64), .cell (.int .i64), .cell (.int .i64), .cell (.int .i64), .cell (.int .i64), .cell (.int .i64), .cell (.int .i64), .cell (.int .i64), .own 82 Y3_1, .cell .bool], .box 38 [.cell (.int .i64), .cell (.int .i64), .cell (.int .i64), .cell (.int .i64), .cell (.int .i64), .cell (.int .i64), .cell (.int .i64), .cell (.int .i64), .cell (.int .i64), .nil, .cell .bool], .box 41 [.cell (.int .i64), .cell (.int .i64), .cell (.int .i64), .cell (.int .i64)], .box 41 [.cell (.int .i64), .cell (.int .i64), .cell (.int .i64), .cell (.int .i64)]], [], 225⟩
noncomputable def l22_28 (k : Nat) (g28 : Int → Int → Int → Int → Int → Int → Int → Int → Int → (List Y3_5) → Bool → Int → Int → Int → Int → Int → Int → Int → Int → Int → Bool → Int → Int → Int → Int → Int → Int → Int → Int → Option (Y3_0 × Unit)) (m1 : Int) (m2 : Int) (m3 : Int) (m4 : Int) (m5 : Int) (m6 : Int) (m7 : Int) (m8 : Int) (m9 : Int) (m10 : List Y3_5) (m11 : Bool) (t4 : Int) (t4_1 : Int) (t4_2 : Int) (t4_3 : Int) (t4_4 : Int) (t4_5 : Int) (t4_6 : Int) (t4_7 : Int) (t4_8 : Int) (t4_9 : Bool) (t5 : Int) (t5_1 : Int) (t5_2 : Int) (t5_3 : Int) (i : Int) (i1 : Int) (i2 : Int) (i3 : Int) : Option (Y3_0 × Unit) :=
 (bif decide ((m10.length : Int) > 0) then
  ix m10 (IntKind.i64.wrap ((m10.length : Int) - 1)) <|
  (bif decide ((rd m10 (IntKind.i64.wrap ((m10.length : Int) - 1)) (0, 0, 0)).2.1 < m1) then
   ix m10 (IntKind.i64.wrap ((m10.length : Int) - 1)) <|
   sx m10 0 (IntKind.i64.wrap ((m10.length : Int) - 1)) <|
   (bif decide ((rd m10 (IntKind.i64.wrap ((m10.length : Int) - 1)) (0, 0, 0)).2.2 > 0) then
    ap (m10.take (IntKind.i64.wrap ((m10.length : Int) - 1)).toNat) ([((rd m10 (IntKind.i64.wrap ((m10.length : Int) - 1)) (0, 0, 0)).1, (rd m10 (IntKind.i64.wrap ((m10.length : Int) - 1)) (0, 0, 0)).2.1, IntKind.i64.wrap ((rd m10 (IntKind.i64.wrap ((m10.length : Int) - 1)) (0, 0, 0)).2.2 - 1))] : List Y3_5) 24 fun r2 =>
    some ((((rd m10 (IntKind.i64.wrap ((m10.length : Int) - 1)) (0, 0, 0)).1, (m2, m3, m4, m5, m6, m7, m8, m9), r2, m11), (i, i1, i2, i3), true, ()), ())
   else
    g28 m1 m2 m3 m4 m5 m6 m7 m8 m9 (m10.take (IntKind.i64.wrap ((m10.length : Int) - 1)).toNat) m11 t4 t4_1 t4_2 t4_3 t4_4 t4_5 t4_6 t4_7 t4_8 t4_9 t5 t5_1 t5_2 t5_3 i i1 i2 i3)
  else
   some (((m1, (m2, m3, m4, m5, m6, m7, m8, m9), m10, m11), (i, i1, i2, i3), true, ()), ()))
 else
  some (((m1, (m2, m3, m4, m5, m6, m7, m8, m9), m10, m11), (i, i1, i2, i3), true, ()), ()))
noncomputable def b22_28 (k : Nat) (g : ((Unit) × Y3_2 × (Int × Int × Int × Int × Int × Int × Int × Int × Int × Unit × Bool × Unit) × (Int × Int × Int × Int × Unit) × (Int × Int × Int × Int × Unit) × Unit) → Option (Y3_0 × Unit)) (d : (Unit) × Y3_2 × (Int × Int × Int × Int × Int × Int × Int × Int × Int × Unit × Bool × Unit) × (Int × Int × Int × Int × Unit) × (Int × Int × Int × Int × Unit) × Unit) : Option (Y3_0 × Unit) := l22_28 k (fun m1 m2 m3 m4 m5 m6 m7 m8 m9 m10 m11 t4 t4_1 t4_2 t4_3 t4_4 t4_5 t4_6 t4_7 t4_8 t4_9 t5 t5_1 t5_2 t5_3 i i1 i2 i3 => g ((), (m1, m2, m3, m4, m5, m6, m7, m8, m9, m10, m11, ()), (t4, t4_1, t4_2, t4_3, t4_4, t4_5, t4_6, t4_7, t4_8, (), t4_9, ()), (t5, t5_1, t5_2, t5_3, ()), (i, i1, i2, i3, ()), ())) d.2.1.1 d.2.1.2.1 d.2.1.2.2.1 d.2.1.2.2.2.1 d.2.1.2.2.2.2.1 d.2.1.2.2.2.2.2.1 d.2.1.2.2.2.2.2.2.1 d.2.1.2.2.2.2.2.2.2.1 d.2.1.2.2.2.2.2.2.2.2.1 d.2.1.2.2.2.2.2.2.2.2.2.1 d.2.1.2.2.2.2.2.2.2.2.2.2.1 d.2.2.1.1 d.2.2.1.2.1 d.2.2.1.2.2.1 d.2.2.1.2.2.2.1 d.2.2.1.2.2.2.2.1 d.2.2.1.2.2.2.2.2.1 d.2.2.1.2.2.2.2.2.2.1 d.2.2.1.2.2.2.2.2.2.2.1 d.2.2.1.2.2.2.2.2.2.2.2.1 d.2.2.1.2.2.2.2.2.2.2.2.2.2.1 d.2.2.2.1.1 d.2.2.2.1.2.1 d.2.2.2.1.2.2.1 d.2.2.2.1.2.2.2.1 d.2.2.2.2.1.1 d.2.2.2.2.1.2.1 d.2.2.2.2.1.2.2.1 d.2.2.2.2.1.2.2.2.1
noncomputable def L22_28 (k : Nat) (j : Nat) (m1 : Int) (m2 : Int) (m3 : Int) (m4 : Int) (m5 : Int) (m6 : Int) (m7 : Int) (m8 : Int) (m9 : Int) (m10 : List Y3_5) (m11 : Bool) (t4 : Int) (t4_1 : Int) (t4_2 : Int) (t4_3 : Int) (t4_4 : Int) (t4_5 : Int) (t4_6 : Int) (t4_7 : Int) (t4_8 : Int) (t4_9 : Bool) (t5 : Int) (t5_1 : Int) (t5_2 : Int) (t5_3 : Int) (i : Int) (i1 : Int) (i2 : Int) (i3 : Int) : Option (Y3_0 × Unit) := iter (R := Y3_0 × Unit) c22_L28 (b22_28 k) j ((), (m1, m2, m3, m4, m5, m6, m7, m8, m9, m10, m11, ()), (t4, t4_1, t4_2, t4_3, t4_4, t4_5, t4_6, t4_7, t4_8, (), t4_9, ()), (t5, t5_1, t5_2, t5_3, ()), (i, i1, i2, i3, ()), ())
theorem L22_28_s (k : Nat) (j : Nat) (m1 : Int) (m2 : Int) (m3 : Int) (m4 : Int) (m5 : Int) (m6 : Int) (m7 : Int) (m8 : Int) (m9 : Int) (m10 : List Y3_5) (m11 : Bool) (t4 : Int) (t4_1 : Int) (t4_2 : Int) (t4_3 : Int) (t4_4 : Int) (t4_5 : Int) (t4_6 : Int) (t4_7 : Int) (t4_8 : Int) (t4_9 : Bool) (t5 : Int) (t5_1 : Int) (t5_2 : Int) (t5_3 : Int) (i : Int) (i1 : Int) (i2 : Int) (i3 : Int) : L22_28 k (j + 1) m1 m2 m3 m4 m5 m6 m7 m8 m9 m10 m11 t4 t4_1 t4_2 t4_3 t4_4 t4_5 t4_6 t4_7 t4_8 t4_9 t5 t5_1 t5_2 t5_3 i i1 i2 i3 = l22_28 k (L22_28 k j) m1 m2 m3 m4 m5 m6 m7 m8 m9 m10 m11 t4 t4_1 t4_2 t4_3 t4_4 t4_5 t4_6 t4_7 t4_8 t4_9 t5 t5_1 t5_2 t5_3 i i1 i2 i3 := iter_succ _ _ _ _
noncomputable def S22 (k : Nat) (l_ : List Y3_3) (m : Int × (PN Int 8) × (List Y3_5) × Bool) : Option (Y3_0 × Unit) :=
 ap ([] : List Y3_5) m.2.2.1 24 fun r0 =>
 (bif m.2.2.2 then
  some (((m.1, m.2.1, r0, m.2.2.2), (0, 0, 0, 0), false, ()), ())
 else
  (bif decide (m.1 < 0) then
   some (((m.1, m.2.1, r0, m.2.2.2), (0, 0, 0, 0), false, ()), ())
  else
   (bif decide (m.1 ≥ (l_.length : Int)) then
    some (((m.1, m.2.1, r0, m.2.2.2), (0, 0, 0, 0), false, ()), ())
   else
    ix l_ m.1 <|
    (S32 k (rd l_ m.1 (0, 0, 0, 0))).bind fun q1 =>
    (bif !q1.1.1 then
     some (((m.1, m.2.1, r0, m.2.2.2), (0, 0, 0, 0), false, ()), ())
    else
     ix l_ m.1 <|
     (bif (rd l_ m.1 (0, 0, 0, 0)).1 == 0 then
      L22_28 k k m.1 m.2.1.1 m.2.1.2.1 m.2.1.2.2.1 m.2.1.2.2.2.1 m.2.1.2.2.2.2.1 m.2.1.2.2.2.2.2.1 m.2.1.2.2.2.2.2.2.1 m.2.1.2.2.2.2.2.2.2 r0 true 0 0 0 0 0 0 0 0 0 false 0 0 0 0 (rd l_ m.1 (0, 0, 0, 0)).1 (rd l_ m.1 (0, 0, 0, 0)).2.1 (rd l_ m.1 (0, 0, 0, 0)).2.2.1 (rd l_ m.1 (0, 0, 0, 0)).2.2.2
     else
      (bif (rd l_ m.1 (0, 0, 0, 0)).1 == 1 then
       ax 8 (rd l_ m.1 (0, 0, 0, 0)).2.1 <|
       L22_28 k k (IntKind.i64.wrap (m.1 + 1)) (aset (α := Int) 8 m.2.1 (rd l_ m.1 (0, 0, 0, 0)).2.1 (rd l_ m.1 (0, 0, 0, 0)).2.2.2).1 (aset (α := Int) 8 m.2.1 (rd l_ m.1 (0, 0, 0, 0)).2.1 (rd l_ m.1 (0, 0, 0, 0)).2.2.2).2.1 (aset (α := Int) 8 m.2.1 (rd l_ m.1 (0, 0, 0, 0)).2.1 (rd l_ m.1 (0, 0, 0, 0)).2.2.2).2.2.1 (aset (α := Int) 8 m.2.1 (rd l_ m.1 (0, 0, 0, 0)).2.1 (rd l_ m.1 (0, 0, 0, 0)).2.2.2).2.2.2.1 (aset (α := Int) 8 m.2.1 (rd l_ m.1 (0, 0, 0, 0)).2.1 (rd l_ m.1 (0, 0, 0, 0)).2.2.2).2.2.2.2.1 (aset (α := Int) 8 m.2.1 (rd l_ m.1 (0, 0, 0, 0)).2.1 (rd l_ m.1 (0, 0, 0, 0)).2.2.2).2.2.2.2.2.1 (aset (α := Int) 8 m.2.1 (rd l_ m.1 (0, 0, 0, 0)).2.1 (rd l_ m.1 (0, 0, 0, 0)).2.2.2).2.2.2.2.2.2.1 (aset (α := Int) 8 m.2.1 (rd l_ m.1 (0, 0, 0, 0)).2.1 (rd l_ m.1 (0, 0, 0, 0)).2.2.2).2.2.2.2.2.2.2 r0 m.2.2.2 0 0 0 0 0 0 0 0 0 false 0 0 0 0 (rd l_ m.1 (0, 0, 0, 0)).1 (rd l_ m.1 (0, 0, 0, 0)).2.1 (rd l_ m.1 (0, 0, 0, 0)).2.2.1 (rd l_ m.1 (0, 0, 0, 0)).2.2.2
      else
       (bif (rd l_ m.1 (0, 0, 0, 0)).1 == 2 then
        ax 8 (rd l_ m.1 (0, 0, 0, 0)).2.1 <|
        ax 8 (rd l_ m.1 (0, 0, 0, 0)).2.2.1 <|
        ax 8 (rd l_ m.1 (0, 0, 0, 0)).2.1 <|
        L22_28 k k (IntKind.i64.wrap (m.1 + 1)) (aset (α := Int) 8 m.2.1 (rd l_ m.1 (0, 0, 0, 0)).2.1 (IntKind.i64.wrap ((aget (α := Int) 8 m.2.1 (rd l_ m.1 (0, 0, 0, 0)).2.1 0) + (aget (α := Int) 8 m.2.1 (rd l_ m.1 (0, 0, 0, 0)).2.2.1 0)))).1 (aset (α := Int) 8 m.2.1 (rd l_ m.1 (0, 0, 0, 0)).2.1 (IntKind.i64.wrap ((aget (α := Int) 8 m.2.1 (rd l_ m.1 (0, 0, 0, 0)).2.1 0) + (aget (α := Int) 8 m.2.1 (rd l_ m.1 (0, 0, 0, 0)).2.2.1 0)))).2.1 (aset (α := Int) 8 m.2.1 (rd l_ m.1 (0, 0, 0, 0)).2.1 (IntKind.i64.wrap ((aget (α := Int) 8 m.2.1 (rd l_ m.1 (0, 0, 0, 0)).2.1 0) + (aget (α := Int) 8 m.2.1 (rd l_ m.1 (0, 0, 0, 0)).2.2.1 0)))).2.2.1 (aset (α := Int) 8 m.2.1 (rd l_ m.1 (0, 0, 0, 0)).2.1 (IntKind.i64.wrap ((aget (α := Int) 8 m.2.1 (rd l_ m.1 (0, 0, 0, 0)).2.1 0) + (aget (α := Int) 8 m.2.1 (rd l_ m.1 (0, 0, 0, 0)).2.2.1 0)))).2.2.2.1 (aset (α := Int) 8 m.2.1 (rd l_ m.1 (0, 0, 0, 0)).2.1 (IntKind.i64.wrap ((aget (α := Int) 8 m.2.1 (rd l_ m.1 (0, 0, 0, 0)).2.1 0) + (aget (α := Int) 8 m.2.1 (rd l_ m.1 (0, 0, 0, 0)).2.2.1 0)))).2.2.2.2.1 (aset (α := Int) 8 m.2.1 (rd l_ m.1 (0, 0, 0, 0)).2.1 (IntKind.i64.wrap ((aget (α := Int) 8 m.2.1 (rd l_ m.1 (0, 0, 0, 0)).2.1 0) + (aget (α := Int) 8 m.2.1 (rd l_ m.1 (0, 0, 0, 0)).2.2.1 0)))).2.2.2.2.2.1 (aset (α := Int) 8 m.2.1 (rd l_ m.1 (0, 0, 0, 0)).2.1 (IntKind.i64.wrap ((aget (α := Int) 8 m.2.1 (rd l_ m.1 (0, 0, 0, 0)).2.1 0) + (aget (α := Int) 8 m.2.1 (rd l_ m.1 (0, 0, 0, 0)).2.2.1 0)))).2.2.2.2.2.2.1 (aset (α := Int) 8 m.2.1 (rd l_ m.1 (0, 0, 0, 0)).2.1 (IntKind.i64.wrap ((aget (α := Int) 8 m.2.1 (rd l_ m.1 (0, 0, 0, 0)).2.1 0) + (aget (α := Int) 8 m.2.1 (rd l_ m.1 (0, 0, 0, 0)).2.2.1 0)))).2.2.2.2.2.2.2 r0 m.2.2.2 0 0 0 0 0 0 0 0 0 false 0 0 0 0 (rd l_ m.1 (0, 0, 0, 0)).1 (rd l_ m.1 (0, 0, 0, 0)).2.1 (rd l_ m.1 (0, 0, 0, 0)).2.2.1 (rd l_ m.1 (0, 0, 0, 0)).2.2.2
       else
        (bif (rd l_ m.1 (0, 0, 0, 0)).1 == 3 then
         ax 8 (rd l_ m.1 (0, 0, 0, 0)).2.1 <|
         ax 8 (rd l_ m.1 (0, 0, 0, 0)).2.2.1 <|
         ax 8 (rd l_ m.1 (0, 0, 0, 0)).2.1 <|
         L22_28 k k (IntKind.i64.wrap (m.1 + 1)) (aset (α := Int) 8 m.2.1 (rd l_ m.1 (0, 0, 0, 0)).2.1 (IntKind.i64.wrap ((aget (α := Int) 8 m.2.1 (rd l_ m.1 (0, 0, 0, 0)).2.1 0) - (aget (α := Int) 8 m.2.1 (rd l_ m.1 (0, 0, 0, 0)).2.2.1 0)))).1 (aset (α := Int) 8 m.2.1 (rd l_ m.1 (0, 0, 0, 0)).2.1 (IntKind.i64.wrap ((aget (α := Int) 8 m.2.1 (rd l_ m.1 (0, 0, 0, 0)).2.1 0) - (aget (α := Int) 8 m.2.1 (rd l_ m.1 (0, 0, 0, 0)).2.2.1 0)))).2.1 (aset (α := Int) 8 m.2.1 (rd l_ m.1 (0, 0, 0, 0)).2.1 (IntKind.i64.wrap ((aget (α := Int) 8 m.2.1 (rd l_ m.1 (0, 0, 0, 0)).2.1 0) - (aget (α := Int) 8 m.2.1 (rd l_ m.1 (0, 0, 0, 0)).2.2.1 0)))).2.2.1 (aset (α := Int) 8 m.2.1 (rd l_ m.1 (0, 0, 0, 0)).2.1 (IntKind.i64.wrap ((aget (α := Int) 8 m.2.1 (rd l_ m.1 (0, 0, 0, 0)).2.1 0) - (aget (α := Int) 8 m.2.1 (rd l_ m.1 (0, 0, 0, 0)).2.2.1 0)))).2.2.2.1 (aset (α := Int) 8 m.2.1 (rd l_ m.1 (0, 0, 0, 0)).2.1 (IntKind.i64.wrap ((aget (α := Int) 8 m.2.1 (rd l_ m.1 (0, 0, 0, 0)).2.1 0) - (aget (α := Int) 8 m.2.1 (rd l_ m.1 (0, 0, 0, 0)).2.2.1 0)))).2.2.2.2.1 (aset (α := Int) 8 m.2.1 (rd l_ m.1 (0, 0, 0, 0)).2.1 (IntKind.i64.wrap ((aget (α := Int) 8 m.2.1 (rd l_ m.1 (0, 0, 0, 0)).2.1 0) - (aget (α := Int) 8 m.2.1 (rd l_ m.1 (0, 0, 0, 0)).2.2.1 0)))).2.2.2.2.2.1 (aset (α := Int) 8 m.2.1 (rd l_ m.1 (0, 0, 0, 0)).2.1 (IntKind.i64.wrap ((aget (α := Int) 8 m.2.1 (rd l_ m.1 (0, 0, 0, 0)).2.1 0) - (aget (α := Int) 8 m.2.1 (rd l_ m.1 (0, 0, 0, 0)).2.2.1 0)))).2.2.2.2.2.2.1 (aset (α := Int) 8 m.2.1 (rd l_ m.1 (0, 0, 0, 0)).2.1 (IntKind.i64.wrap ((aget (α := Int) 8 m.2.1 (rd l_ m.1 (0, 0, 0, 0)).2.1 0) - (aget (α := Int) 8 m.2.1 (rd l_ m.1 (0, 0, 0, 0)).2.2.1 0)))).2.2.2.2.2.2.2 r0 m.2.2.2 0 0 0 0 0 0 0 0 0 false 0 0 0 0 (rd l_ m.1 (0, 0, 0, 0)).1 (rd l_ m.1 (0, 0, 0, 0)).2.1 (rd l_ m.1 (0, 0, 0, 0)).2.2.1 (rd l_ m.1 (0, 0, 0, 0)).2.2.2
        else
         (bif (rd l_ m.1 (0, 0, 0, 0)).1 == 4 then
          ax 8 (rd l_ m.1 (0, 0, 0, 0)).2.1 <|
          ax 8 (rd l_ m.1 (0, 0, 0, 0)).2.2.1 <|
          ax 8 (rd l_ m.1 (0, 0, 0, 0)).2.1 <|
          L22_28 k k (IntKind.i64.wrap (m.1 + 1)) (aset (α := Int) 8 m.2.1 (rd l_ m.1 (0, 0, 0, 0)).2.1 (IntKind.i64.wrap ((aget (α := Int) 8 m.2.1 (rd l_ m.1 (0, 0, 0, 0)).2.1 0) * (aget (α := Int) 8 m.2.1 (rd l_ m.1 (0, 0, 0, 0)).2.2.1 0)))).1 (aset (α := Int) 8 m.2.1 (rd l_ m.1 (0, 0, 0, 0)).2.1 (IntKind.i64.wrap ((aget (α := Int) 8 m.2.1 (rd l_ m.1 (0, 0, 0, 0)).2.1 0) * (aget (α := Int) 8 m.2.1 (rd l_ m.1 (0, 0, 0, 0)).2.2.1 0)))).2.1 (aset (α := Int) 8 m.2.1 (rd l_ m.1 (0, 0, 0, 0)).2.1 (IntKind.i64.wrap ((aget (α := Int) 8 m.2.1 (rd l_ m.1 (0, 0, 0, 0)).2.1 0) * (aget (α := Int) 8 m.2.1 (rd l_ m.1 (0, 0, 0, 0)).2.2.1 0)))).2.2.1 (aset (α := Int) 8 m.2.1 (rd l_ m.1 (0, 0, 0, 0)).2.1 (IntKind.i64.wrap ((aget (α := Int) 8 m.2.1 (rd l_ m.1 (0, 0, 0, 0)).2.1 0) * (aget (α := Int) 8 m.2.1 (rd l_ m.1 (0, 0, 0, 0)).2.2.1 0)))).2.2.2.1 (aset (α := Int) 8 m.2.1 (rd l_ m.1 (0, 0, 0, 0)).2.1 (IntKind.i64.wrap ((aget (α := Int) 8 m.2.1 (rd l_ m.1 (0, 0, 0, 0)).2.1 0) * (aget (α := Int) 8 m.2.1 (rd l_ m.1 (0, 0, 0, 0)).2.2.1 0)))).2.2.2.2.1 (aset (α := Int) 8 m.2.1 (rd l_ m.1 (0, 0, 0, 0)).2.1 (IntKind.i64.wrap ((aget (α := Int) 8 m.2.1 (rd l_ m.1 (0, 0, 0, 0)).2.1 0) * (aget (α := Int) 8 m.2.1 (rd l_ m.1 (0, 0, 0, 0)).2.2.1 0)))).2.2.2.2.2.1 (aset (α := Int) 8 m.2.1 (rd l_ m.1 (0, 0, 0, 0)).2.1 (IntKind.i64.wrap ((aget (α := Int) 8 m.2.1 (rd l_ m.1 (0, 0, 0, 0)).2.1 0) * (aget (α := Int) 8 m.2.1 (rd l_ m.1 (0, 0, 0, 0)).2.2.1 0)))).2.2.2.2.2.2.1 (aset (α := Int) 8 m.2.1 (rd l_ m.1 (0, 0, 0, 0)).2.1 (IntKind.i64.wrap ((aget (α := Int) 8 m.2.1 (rd l_ m.1 (0, 0, 0, 0)).2.1 0) * (aget (α := Int) 8 m.2.1 (rd l_ m.1 (0, 0, 0, 0)).2.2.1 0)))).2.2.2.2.2.2.2 r0 m.2.2.2 0 0 0 0 0 0 0 0 0 false 0 0 0 0 (rd l_ m.1 (0, 0, 0, 0)).1 (rd l_ m.1 (0, 0, 0, 0)).2.1 (rd l_ m.1 (0, 0, 0, 0)).2.2.1 (rd l_ m.1 (0, 0, 0, 0)).2.2.2
         else
          (bif (rd l_ m.1 (0, 0, 0, 0)).1 == 5 then
           ax 8 (rd l_ m.1 (0, 0, 0, 0)).2.1 <|
           (S46 k (aget (α := Int) 8 m.2.1 (rd l_ m.1 (0, 0, 0, 0)).2.1 0) (rd l_ m.1 (0, 0, 0, 0)).2.2.2).bind fun q3 =>
           ax 8 (rd l_ m.1 (0, 0, 0, 0)).2.1 <|
           L22_28 k k (IntKind.i64.wrap (m.1 + 1)) (aset (α := Int) 8 m.2.1 (rd l_ m.1 (0, 0, 0, 0)).2.1 q3.1.1).1 (aset (α := Int) 8 m.2.1 (rd l_ m.1 (0, 0, 0, 0)).2.1 q3.1.1).2.1 (aset (α := Int) 8 m.2.1 (rd l_ m.1 (0, 0, 0, 0)).2.1 q3.1.1).2.2.1 (aset (α := Int) 8 m.2.1 (rd l_ m.1 (0, 0, 0, 0)).2.1 q3.1.1).2.2.2.1 (aset (α := Int) 8 m.2.1 (rd l_ m.1 (0, 0, 0, 0)).2.1 q3.1.1).2.2.2.2.1 (aset (α := Int) 8 m.2.1 (rd l_ m.1 (0, 0, 0, 0)).2.1 q3.1.1).2.2.2.2.2.1 (aset (α := Int) 8 m.2.1 (rd l_ m.1 (0, 0, 0, 0)).2.1 q3.1.1).2.2.2.2.2.2.1 (aset (α := Int) 8 m.2.1 (rd l_ m.1 (0, 0, 0, 0)).2.1 q3.1.1).2.2.2.2.2.2.2 r0 m.2.2.2 0 0 0 0 0 0 0 0 0 false 0 0 0 0 (rd l_ m.1 (0, 0, 0, 0)).1 (rd l_ m.1 (0, 0, 0, 0)).2.1 (rd l_ m.1 (0, 0, 0, 0)).2.2.1 (rd l_ m.1 (0, 0, 0, 0)).2.2.2
          else
           (bif (rd l_ m.1 (0, 0, 0, 0)).1 == 6 then
            ax 8 (rd l_ m.1 (0, 0, 0, 0)).2.1 <|
            (S47 k (aget (α := Int) 8 m.2.1 (rd l_ m.1 (0, 0, 0, 0)).2.1 0) (rd l_ m.1 (0, 0, 0, 0)).2.2.2).bind fun q4 =>
            ax 8 (rd l_ m.1 (0, 0, 0, 0)).2.1 <|
            L22_28 k k (IntKind.i64.wrap (m.1 + 1)) (aset (α := Int) 8 m.2.1 (rd l_ m.1 (0, 0, 0, 0)).2.1 q4.1.1).1 (aset (α := Int) 8 m.2.1 (rd l_ m.1 (0, 0, 0, 0)).2.1 q4.1.1).2.1 (aset (α := Int) 8 m.2.1 (rd l_ m.1 (0, 0, 0, 0)).2.1 q4.1.1).2.2.1 (aset (α := Int) 8 m.2.1 (rd l_ m.1 (0, 0, 0, 0)).2.1 q4.1.1).2.2.2.1 (aset (α := Int) 8 m.2.1 (rd l_ m.1 (0, 0, 0, 0)).2.1 q4.1.1).2.2.2.2.1 (aset (α := Int) 8 m.2.1 (rd l_ m.1 (0, 0, 0, 0)).2.1 q4.1.1).2.2.2.2.2.1 (aset (α := Int) 8 m.2.1 (rd l_ m.1 (0, 0, 0, 0)).2.1 q4.1.1).2.2.2.2.2.2.1 (aset (α := Int) 8 m.2.1 (rd l_ m.1 (0, 0, 0, 0)).2.1 q4.1.1).2.2.2.2.2.2.2 r0 m.2.2.2 0 0 0 0 0 0 0 0 0 false 0 0 0 0 (rd l_ m.1 (0, 0, 0, 0)).1 (rd l_ m.1 (0, 0, 0, 0)).2.1 (rd l_ m.1 (0, 0, 0, 0)).2.2.1 (rd l_ m.1 (0, 0, 0, 0)).2.2.2
           else
            (bif (rd l_ m.1 (0, 0, 0, 0)).1 == 7 then
             ax 8 (rd l_ m.1 (0, 0, 0, 0)).2.1 <|
             (bif (aget (α := Int) 8 m.2.1 (rd l_ m.1 (0, 0, 0, 0)).2.1 0) == 0 then
              L22_28 k k (IntKind.i64.wrap ((IntKind.i64.wrap (m.1 + 1)) + (rd l_ m.1 (0, 0, 0, 0)).2.2.2)) m.2.1.1 m.2.1.2.1 m.2.1.2.2.1 m.2.1.2.2.2.1 m.2.1.2.2.2.2.1 m.2.1.2.2.2.2.2.1 m.2.1.2.2.2.2.2.2.1 m.2.1.2.2.2.2.2.2.2 r0 m.2.2.2 0 0 0 0 0 0 0 0 0 false 0 0 0 0 (rd l_ m.1 (0, 0, 0, 0)).1 (rd l_ m.1 (0, 0, 0, 0)).2.1 (rd l_ m.1 (0, 0, 0, 0)).2.2.1 (rd l_ m.1 (0, 0, 0, 0)).2.2.2
             else
              L22_28 k k (IntKind.i64.wrap (m.1 + 1)) m.2.1.1 m.2.1.2.1 m.2.1.2.2.1 m.2.1.2.2.2.1 m.2.1.2.2.2.2.1 m.2.1.2.2.2.2.2.1 m.2.1.2.2.2.2.2.2.1 m.2.1.2.2.2.2.2.2.2 r0 m.2.2.2 0 0 0 0 0 0 0 0 0 false 0 0 0 0 (rd l_ m.1 (0, 0, 0, 0)).1 (rd l_ m.1 (0, 0, 0, 0)).2.1 (rd l_ m.1 (0, 0, 0, 0)).2.2.1 (rd l_ m.1 (0, 0, 0, 0)).2.2.2)
            else
             (bif (rd l_ m.1 (0, 0, 0, 0)).1 == 8 then
              ap r0 ([(IntKind.i64.wrap (m.1 + 1), IntKind.i64.wrap (m.1 + (rd l_ m.1 (0, 0, 0, 0)).2.2.1), IntKind.i64.wrap ((rd l_ m.1 (0, 0, 0, 0)).2.2.2 - 1))] : List Y3_5) 24 fun r5 =>
              L22_28 k k (IntKind.i64.wrap (m.1 + 1)) m.2.1.1 m.2.1.2.1 m.2.1.2.2.1 m.2.1.2.2.2.1 m.2.1.2.2.2.2.1 m.2.1.2.2.2.2.2.1 m.2.1.2.2.2.2.2.2.1 m.2.1.2.2.2.2.2.2.2 r5 m.2.2.2 0 0 0 0 0 0 0 0 0 false 0 0 0 0 (rd l_ m.1 (0, 0, 0, 0)).1 (rd l_ m.1 (0, 0, 0, 0)).2.1 (rd l_ m.1 (0, 0, 0, 0)).2.2.1 (rd l_ m.1 (0, 0, 0, 0)).2.2.2
             else
              L22_28 k k (IntKind.i64.wrap (m.1 + 1)) m.2.1.1 m.2.1.2.1 m.2.1.2.2.1 m.2.1.2.2.2.1 m.2.1.2.2.2.2.1 m.2.1.2.2.2.2.2.1 m.2.1.2.2.2.2.2.2.1 m.2.1.2.2.2.2.2.2.2 r0 m.2.2.2 0 0 0 0 0 0 0 0 0 false 0 0 0 0 (rd l_ m.1 (0, 0, 0, 0)).1 (rd l_ m.1 (0, 0, 0, 0)).2.1 (rd l_ m.1 (0, 0, 0, 0)).2.2.1 (rd l_ m.1 (0, 0, 0, 0)).2.2.2)))))))))))))
noncomputable def E22 : Env := tab.env (lk [(32, F32), (46, F46), (47, F47)]) (hintL [(205, 1)])
theorem E22_ok : EnvOK Try.prog E22 := envOK_of tabOK _ _ (allFn_lk (l := [(32, F32), (46, F46), (47, F47)]) ⟨ok32, ok46, ok47, trivial⟩)
noncomputable def B22 (k : Nat) : Tbl (RD R22 × MD P22) := (.loop 28 c22_L28 (b22_28 k) (fun g => .nil) .nil)
noncomputable def F22 : Fn := ⟨P22, R22, fun k x => S22 k x.1 x.2.1⟩
theorem ok22 : FnOK Try.prog 22 F22 := evalF_ok (E := E22) (T := B22) E22_ok mix Try.func22 rfl (by kernel_rfl) (by kernel_rfl) (fun k => by kernel_rfl) (fun k x => by kernel_rfl)
noncomputable abbrev P28 : List PT := [.val ⟨false, (.sl 41 (.pair (.int .i64) Y3_1)), false⟩, .val ⟨false, (.int .i64), false⟩]
noncomputable abbrev R28 : List RT := [.val ⟨false, (.int .i64), true⟩, .val ⟨false, (.int .i64), true⟩, .val ⟨false, .bool, true⟩]
noncomputable abbrev c28_L6 : Cut := ⟨[0, 7, 9, 10], [.cell (.sl 41 (.pair (.int .i64) Y3_1)), .box 50 [.cell (.int .i64), .cell (.int .i64), .own 54 (.pair (.int .i64) (.int .i64))], .box 38 [.cell (.int .i64), .cell (.int .i64), .cell (.int .i64), .cell (.int .i64), .cell (.int .i64), .cell (.int .i64), .cell (.int .i64), .cell (.int .i64), .cell (.int .i64), .own 82 Y3_1, .cell .bool], .cell (.int .i64)], [], 42⟩
noncomputable def l28_6 (k : Nat) (g6 : (List Y3_3) → Int → Int → (List (Int × Int)) → Int → Int → Int → Int → Int → Int → Int → Int → Int → (List Y3_5) → Bool → Int → Option Y3_4) (l_1 : List Y3_3) (c : Int) (c1 : Int) (c2 : List (Int × Int)) (m : Int) (m1 : Int) (m2 : Int) (m3 : Int) (m4 : Int) (m5 : Int) (m6 : Int) (m7 : Int) (m8 : Int) (m9 : List Y3_5) (m10 : Bool) (n : Int) : Option Y3_4 :=
 (bif !m10 then
  (bif decide (n ≤ c) then
   (S22 k l_1 (m, (m1, m2, m3, m4, m5, m6, m7, m8), m9, m10)).bind fun q2 =>
   g6 l_1 c c1 c2 q2.1.1.1 q2.1.1.2.1.1 q2.1.1.2.1.2.1 q2.1.1.2.1.2.2.1 q2.1.1.2.1.2.2.2.1 q2.1.1.2.1.2.2.2.2.1 q2.1.1.2.1.2.2.2.2.2.1 q2.1.1.2.1.2.2.2.2.2.2.1 q2.1.1.2.1.2.2.2.2.2.2.2 q2.1.1.2.2.1 q2.1.1.2.2.2 (IntKind.i64.wrap (n + 1))
  else
   some ((m1, n, true, ()), ()))
 else
  some ((m1, n, true, ()), ()))
noncomputable def b28_6 (k : Nat) (g : ((Unit) × (List Y3_3) × (Int × Int × (List (Int × Int)) × Unit) × Y3_2 × Int × Unit) → Option Y3_4) (d : (Unit) × (List Y3_3) × (Int × Int × (List (Int × Int)) × Unit) × Y3_2 × Int × Unit) : Option Y3_4 := l28_6 k (fun l_1 c c1 c2 m m1 m2 m3 m4 m5 m6 m7 m8 m9 m10 n => g ((), l_1, (c, c1, c2, ()), (m, m1, m2, m3, m4, m5, m6, m7, m8, m9, m10, ()), n, ())) d.2.1 d.2.2.1.1 d.2.2.1.2.1 d.2.2.1.2.2.1 d.2.2.2.1.1 d.2.2.2.1.2.1 d.2.2.2.1.2.2.1 d.2.2.2.1.2.2.2.1 d.2.2.2.1.2.2.2.2.1 d.2.2.2.1.2.2.2.2.2.1 d.2.2.2.1.2.2.2.2.2.2.1 d.2.2.2.1.2.2.2.2.2.2.2.1 d.2.2.2.1.2.2.2.2.2.2.2.2.1 d.2.2.2.1.2.2.2.2.2.2.2.2.2.1 d.2.2.2.1.2.2.2.2.2.2.2.2.2.2.1 d.2.2.2.2.1
noncomputable def L28_6 (k : Nat) (j : Nat) (l_1 : List Y3_3) (c : Int) (c1 : Int) (c2 : List (Int × Int)) (m : Int) (m1 : Int) (m2 : Int) (m3 : Int) (m4 : Int) (m5 : Int) (m6 : Int) (m7 : Int) (m8 : Int) (m9 : List Y3_5) (m10 : Bool) (n : Int) : Option Y3_4 := iter (R := (Int × Int × Bool × Unit) × Unit) c28_L6 (b28_6 k) j ((), l_1, (c, c1, c2, ()), (m, m1, m2, m3, m4, m5, m6, m7, m8, m9, m10, ()), n, ())
theorem L28_6_s (k : Nat) (j : Nat) (l_1 : List Y3_3) (c : Int) (c1 : Int) (c2 : List (Int × Int)) (m : Int) (m1 : Int) (m2 : Int) (m3 : Int) (m4 : Int) (m5 : Int) (m6 : Int) (m7 : Int) (m8 : Int) (m9 : List Y3_5) (m10 : Bool) (n : Int) : L28_6 k (j + 1) l_1 c c1 c2 m m1 m2 m3 m4 m5 m6 m7 m8 m9 m10 n = l28_6 k (L28_6 k j) l_1 c c1 c2 m m1 m2 m3 m4 m5 m6 m7 m8 m9 m10 n := iter_succ _ _ _ _
noncomputable def S28 (k : Nat) (l_ : List Y3_3) (in_ : Int) : Option Y3_4 :=
 (S27 k l_).bind fun q0 =>
 (bif !q0.1.2.1 then
  some ((0, 0, false, ()), ())
 else
  (S21 k in_).bind fun q1 =>
  L28_6 k k l_ q0.1.1.1 q0.1.1.2.1 q0.1.1.2.2 q1.1.1.1 q1.1.1.2.1.1 q1.1.1.2.1.2.1 q1.1.1.2.1.2.2.1 q1.1.1.2.1.2.2.2.1 q1.1.1.2.1.2.2.2.2.1 q1.1.1.2.1.2.2.2.2.2.1 q1.1.1.2.1.2.2.2.2.2.2.1 q1.1.1.2.1.2.2.2.2.2.2.2 q1.1.1.2.2.1 q1.1.1.2.2.2 0)
noncomputable def E28 : Env := tab.env (lk [(21, F21), (22, F22), (27, F27)]) (hintL [])
theorem E28_ok : EnvOK Try.prog E28 := envOK_of tabOK _ _ (allFn_lk (l := [(21, F21), (22, F22), (27, F27)]) ⟨ok21, ok22, ok27, trivial⟩)
noncomputable def B28 (k : Nat) : Tbl (RD R28 × MD P28) := (.loop 6 c28_L6 (b28_6 k) (fun g => .nil) .nil)
noncomputable def F28 : Fn := ⟨P28, R28, fun k x => S28 k x.1 x.2.1⟩
theorem ok28 : FnOK Try.prog 28 F28 := evalF_ok (E := E28) (T := B28) E28_ok mix Try.func28 rfl (by kernel_rfl) (by kernel_rfl) (fun k => by kernel_rfl) (fun k x => by kernel_rfl)
noncomputable abbrev P10 : List PT := [.val ⟨false, (.sl 5 (.int .u8)), false⟩, .val ⟨false, (.int .i64), false⟩]
noncomputable abbrev R10 : List RT := [.val ⟨false, .bool, true⟩]
noncomputable abbrev c10_L7 : Cut := ⟨[1, 5, 6], [.cell (.int .i64), .own 41 (.pair (.int .i64) Y3_1), .cell (.int .i64)], [], 70⟩
noncomputable def l10_7 (k : Nat) (g7 : Int → (List Y3_3) → Int → Option ((Bool × Unit) × Unit)) (in_1 : Int) (l_ : List Y3_3) (i : Int) : Option ((Bool × Unit) × Unit) :=
 (bif decide (i < (l_.length : Int)) then
  ix l_ i <|
  (bif (rd l_ i (0, 0, 0, 0)).1 == 7 then
   ix l_ i <|
   g7 in_1 (upd l_ i (1, 2, 0, 0)) (IntKind.i64.wrap (i + 1))
  else
   g7 in_1 l_ (IntKind.i64.wrap (i + 1)))
 else
  (S26 k l_).bind fun q3 =>
  (S28 k l_ in_1).bind fun q4 =>
  (bif q3.1.2.1 then
   (bif q4.1.2.2.1 then
    (bif q4.1.2.1 == q3.1.1.1 then
     (bif decide (q3.1.1.2.1 ≤ q3.1.1.1) then
      some ((decide (q3.1.1.2.1 ≥ 1), ()), ())
     else
      some ((false, ()), ()))
    else
     some ((false, ()), ()))
   else
    some ((false, ()), ()))
  else
   some ((false, ()), ())))
noncomputable def b10_7 (k : Nat) (g : ((Unit) × Int × (List Y3_3) × Int × Unit) → Option ((Bool × Unit) × Unit)) (d : (Unit) × Int × (List Y3_3) × Int × Unit) : Option ((Bool × Unit) × Unit) := l10_7 k (fun in_1 l_ i => g ((), in_1, l_, i, ())) d.2.1 d.2.2.1 d.2.2.2.1
noncomputable def L10_7 (k : Nat) (j : Nat) (in_1 : Int) (l_ : List Y3_3) (i : Int) : Option ((Bool × Unit) × Unit) := iter (R := (Bool × Unit) × Unit) c10_L7 (b10_7 k) j ((), in_1, l_, i, ())
theorem L10_7_s (k : Nat) (j : Nat) (in_1 : Int) (l_ : List Y3_3) (i : Int) : L10_7 k (j + 1) in_1 l_ i = l10_7 k (L10_7 k j) in_1 l_ i := iter_succ _ _ _ _
noncomputable def S10 (k : Nat) (picks : List Int) (in_ : Int) : Option ((Bool × Unit) × Unit) :=
 (S25 k).bind fun q0 =>
 (bif !q0.1.1 then
  some ((false, ()), ())
 else
  (bif decide ((picks.length : Int) > 80) then
   some ((true, ()), ())
  else
   (S14 k picks).bind fun q1 =>
   (S15 k q1.1.1.1 q1.1.1.2.1 3).bind fun q2 =>
   L10_7 k k in_ q2.1.1 0))
noncomputable def E10 : Env := tab.env (lk [(14, F14), (15, F15), (25, F25), (26, F26), (28, F28)]) (hintL [])
theorem E10_ok : EnvOK Try.prog E10 := envOK_of tabOK _ _ (allFn_lk (l := [(14, F14), (15, F15), (25, F25), (26, F26), (28, F28)]) ⟨ok14, ok15, ok25, ok26, ok28, trivial⟩)
noncomputable def B10 (k : Nat) : Tbl (RD R10 × MD P10) := (.loop 7 c10_L7 (b10_7 k) (fun g => .nil) .nil)
noncomputable def F10 : Fn := ⟨P10, R10, fun k x => S10 k x.1 x.2.1⟩
theorem ok10 : FnOK Try.prog 10 F10 := evalF_ok (E := E10) (T := B10) E10_ok mix Try.func10 rfl (by kernel_rfl) (by kernel_rfl) (fun k => by kernel_rfl) (fun k x => by kernel_rfl)
end Go.Proofs.Ytjnnjciedbgmiaa.Ab
