import Derived.Test.YtjnnjciedbgmiaaAbL1
/- Contracts, printed by this session's own program gen.py. -/
set_option linter.unusedVariables false
set_option linter.unusedSimpArgs false
set_option maxRecDepth 100000
namespace Go.Proofs.Ytjnnjciedbgmiaa.Ab
open Go.RowKit Go.Proofs.YtjnnjciedbgmiaaW.PrintWords
abbrev Y2_0 : Type := (List (Int × Int × Int × Int)) → Int → Int → (List (Int × Int)) → Int → Int → Int → Int → Int → Int → Int → Int → Int → (List (Int × Int × Int)) → Bool → Int → Int → Int → Int → Int → Int → Option ((Bool × Unit) × Unit)
abbrev Y2_1 : Type := Int × Int × Int × Int × Int × Int × Int × Int × Int × (List (Int × Int × Int)) × Bool × Unit
abbrev Y2_2 : Type := (Int × (PN Int 8) × (List (Int × Int × Int)) × Bool) × (Int × Int × Int × Int) × Bool × Unit
abbrev Y2_3 : Ty := .pair (.int .i64) (.pair (.int .i64) (.int .i64))
abbrev Y2_4 : Type := Int × Int × Int × Int × Unit
abbrev Y2_5 : Type := Int × Int × Int × Int
abbrev Y2_6 : Type := Int × Int × Int
abbrev Y2_7 : Type := (Int × Unit) × Unit
abbrev Y2_8 : Type := (Bool × Unit) × Unit
abbrev Y2_9 : Type := Int × Int × (List (Int × Int)) × Unit
/-! ### 32: 32 foliot/foliotref1.MayInst -/
noncomputable abbrev P32 : List PT := [.val ⟨true, (.pair (.int .i64) Y2_3), false⟩]
noncomputable abbrev R32 : List RT := [.val ⟨false, .bool, true⟩]
noncomputable def S32 (k : Nat) (i : Int × Int × Int × Int) : Option Y2_8 :=
  (bif i.1 == 0 then
    (bif i.2.1 == 0 then
      (bif i.2.2.1 == 0 then
        some ((i.2.2.2 == 0, ()), ())
      else
        some ((false, ()), ()))
    else
      some ((false, ()), ()))
  else
    (bif i.1 == 11 then
      (bif i.2.1 == 0 then
        (bif i.2.2.1 == 0 then
          some ((i.2.2.2 == 0, ()), ())
        else
          some ((false, ()), ()))
      else
        some ((false, ()), ()))
    else
      (bif i.1 == 1 then
        (S51 k 8 i.2.1).bind fun q0 =>
        (bif q0.1.1 then
          (bif i.2.2.1 == 0 then
            (bif decide (i.2.2.2 ≥ (-2147483648)) then
              some ((decide (i.2.2.2 < 2147483648), ()), ())
            else
              some ((false, ()), ()))
          else
            some ((false, ()), ()))
        else
          some ((false, ()), ()))
      else
        (bif i.1 == 2 then
          (S51 k 8 i.2.1).bind fun q1 =>
          (bif q1.1.1 then
            (S51 k 8 i.2.2.1).bind fun q2 =>
            (bif q2.1.1 then
              some ((i.2.2.2 == 0, ()), ())
            else
              some ((false, ()), ()))
          else
            some ((false, ()), ()))
        else
          (bif i.1 == 3 then
            (S51 k 8 i.2.1).bind fun q3 =>
            (bif q3.1.1 then
              (S51 k 8 i.2.2.1).bind fun q4 =>
              (bif q4.1.1 then
                some ((i.2.2.2 == 0, ()), ())
              else
                some ((false, ()), ()))
            else
              some ((false, ()), ()))
          else
            (bif i.1 == 4 then
              (S51 k 8 i.2.1).bind fun q5 =>
              (bif q5.1.1 then
                (S51 k 8 i.2.2.1).bind fun q6 =>
                (bif q6.1.1 then
                  some ((i.2.2.2 == 0, ()), ())
                else
                  some ((false, ()), ()))
              else
                some ((false, ()), ()))
            else
              (bif i.1 == 5 then
                (S51 k 8 i.2.1).bind fun q7 =>
                (bif q7.1.1 then
                  (bif i.2.2.1 == 0 then
                    (bif decide (i.2.2.2 ≥ (-63)) then
                      some ((decide (i.2.2.2 ≤ 63), ()), ())
                    else
                      some ((false, ()), ()))
                  else
                    some ((false, ()), ()))
                else
                  some ((false, ()), ()))
              else
                (bif i.1 == 6 then
                  (S51 k 8 i.2.1).bind fun q8 =>
                  (bif q8.1.1 then
                    (bif i.2.2.1 == 0 then
                      (bif decide (i.2.2.2 ≥ 1) then
                        some ((decide (i.2.2.2 ≤ 64), ()), ())
                      else
                        some ((false, ()), ()))
                    else
                      some ((false, ()), ()))
                  else
                    some ((false, ()), ()))
                else
                  (bif i.1 == 7 then
                    (S51 k 8 i.2.1).bind fun q9 =>
                    (bif q9.1.1 then
                      (bif i.2.2.1 == 0 then
                        (bif decide (i.2.2.2 ≥ 1) then
                          some ((decide (i.2.2.2 ≤ 24), ()), ())
                        else
                          some ((false, ()), ()))
                      else
                        some ((false, ()), ()))
                    else
                      some ((false, ()), ()))
                  else
                    (bif i.1 == 8 then
                      (bif i.2.1 == 0 then
                        (bif decide (i.2.2.1 ≥ 1) then
                          (bif decide (i.2.2.1 ≤ 24) then
                            (bif decide (i.2.2.2 ≥ 1) then
                              some ((decide (i.2.2.2 ≤ 20), ()), ())
                            else
                              some ((false, ()), ()))
                          else
                            some ((false, ()), ()))
                        else
                          some ((false, ()), ()))
                      else
                        some ((false, ()), ()))
                    else
                      (bif i.1 == 9 then
                        (bif decide (i.2.1 ≥ 0) then
                          (bif decide (i.2.1 < 4) then
                            (bif i.2.2.1 == 0 then
                              some ((i.2.2.2 == 0, ()), ())
                            else
                              some ((false, ()), ()))
                          else
                            some ((false, ()), ()))
                        else
                          some ((false, ()), ()))
                      else
                        (bif i.1 == 10 then
                          (bif decide (i.2.1 ≥ 0) then
                            (bif decide (i.2.1 < 4) then
                              (bif i.2.2.1 == 0 then
                                some ((i.2.2.2 == 0, ()), ())
                              else
                                some ((false, ()), ()))
                            else
                              some ((false, ()), ()))
                          else
                            some ((false, ()), ()))
                        else
                          some ((false, ()), ())))))))))))))
noncomputable def E32 : Env := tab.env (lk [(51, F51)]) (hintL [])
theorem E32_ok : EnvOK Try.prog E32 := envOK_of tabOK _ _ (allFn_lk (l := [(51, F51)]) ⟨ok51, trivial⟩)
noncomputable def B32 (k : Nat) : Tbl (RD R32 × MD P32) := .nil
noncomputable def F32 : Fn := ⟨P32, R32, fun k x => S32 k x.1⟩
theorem ok32 : FnOK Try.prog 32 F32 := evalF_ok (E := E32) (T := B32) E32_ok mix Try.func32 rfl (by kernel_rfl) (by kernel_rfl) (fun k => by kernel_rfl) (fun k x => by kernel_rfl)
/-! ### 46: 46 foliot/foliotref1.Shift -/
noncomputable abbrev P46 : List PT := [.val ⟨false, (.int .i64), false⟩, .val ⟨false, (.int .i64), false⟩]
noncomputable abbrev R46 : List RT := [.val ⟨false, (.int .i64), true⟩]
noncomputable abbrev c46_L6 : Cut := ⟨[0, 1], [.cell (.int .i64), .cell (.int .i64)], [], 35⟩
noncomputable def l46_6 (k : Nat) (g6 : Int → Int → Option Y2_7) (v2 : Int) (n2 : Int) : Option Y2_7 :=
  (bif decide (n2 < 0) then
    (bif decide (v2 < 0) then
      (bif (Int.tmod v2 2) != 0 then
        g6 (IntKind.i64.wrap ((IntKind.i64.wrap (Int.tdiv v2 2)) - 1)) (IntKind.i64.wrap (n2 + 1))
      else
        g6 (IntKind.i64.wrap (Int.tdiv v2 2)) (IntKind.i64.wrap (n2 + 1)))
    else
      g6 (IntKind.i64.wrap (Int.tdiv v2 2)) (IntKind.i64.wrap (n2 + 1)))
  else
    some ((v2, ()), ()))
noncomputable def b46_6 (k : Nat) (g : ((Unit) × Int × Int × Unit) → Option Y2_7) (d : (Unit) × Int × Int × Unit) : Option Y2_7 := l46_6 k (fun v2 n2 => g ((), v2, n2, ())) d.2.1 d.2.2.1
noncomputable def L46_6 (k : Nat) (j : Nat) (v2 : Int) (n2 : Int) : Option Y2_7 := iter (R := (Int × Unit) × Unit) c46_L6 (b46_6 k) j ((), v2, n2, ())
theorem L46_6_s (k : Nat) (j : Nat) (v2 : Int) (n2 : Int) : L46_6 k (j + 1) v2 n2 = l46_6 k (L46_6 k j) v2 n2 := iter_succ _ _ _ _
noncomputable abbrev c46_L3 : Cut := ⟨[0, 1], [.cell (.int .i64), .cell (.int .i64)], [], 35⟩
noncomputable def l46_3 (k : Nat) (g3 : Int → Int → Option Y2_7) (v1 : Int) (n1 : Int) : Option Y2_7 :=
  (bif decide (n1 > 0) then
    g3 (IntKind.i64.wrap (v1 * 2)) (IntKind.i64.wrap (n1 - 1))
  else
    L46_6 k k v1 n1)
noncomputable def b46_3 (k : Nat) (g : ((Unit) × Int × Int × Unit) → Option Y2_7) (d : (Unit) × Int × Int × Unit) : Option Y2_7 := l46_3 k (fun v1 n1 => g ((), v1, n1, ())) d.2.1 d.2.2.1
noncomputable def L46_3 (k : Nat) (j : Nat) (v1 : Int) (n1 : Int) : Option Y2_7 := iter (R := (Int × Unit) × Unit) c46_L3 (b46_3 k) j ((), v1, n1, ())
theorem L46_3_s (k : Nat) (j : Nat) (v1 : Int) (n1 : Int) : L46_3 k (j + 1) v1 n1 = l46_3 k (L46_3 k j) v1 n1 := iter_succ _ _ _ _
noncomputable def S46 (k : Nat) (v : Int) (n : Int) : Option Y2_7 :=
  (bif decide (n < (-63)) then
    some ((v, ()), ())
  else
    (bif decide (n > 63) then
      some ((v, ()), ())
    else
      L46_3 k k v n))
noncomputable def E46 : Env := tab.env (lk []) (hintL [])
theorem E46_ok : EnvOK Try.prog E46 := envOK_of tabOK _ _ (fun f F h => by cases h)
noncomputable def B46 (k : Nat) : Tbl (RD R46 × MD P46) := (.loop 6 c46_L6 (b46_6 k) (fun g => .nil) (.loop 3 c46_L3 (b46_3 k) (fun g => .nil) .nil))
noncomputable def F46 : Fn := ⟨P46, R46, fun k x => S46 k x.1 x.2.1⟩
theorem ok46 : FnOK Try.prog 46 F46 := evalF_ok (E := E46) (T := B46) E46_ok mix Try.func46 rfl (by kernel_rfl) (by kernel_rfl) (fun k => by kernel_rfl) (fun k x => by kernel_rfl)
/-! ### 60: 60 foliot/foliotref1.bit -/
noncomputable abbrev P60 : List PT := [.val ⟨false, (.int .i64), false⟩]
noncomputable abbrev R60 : List RT := [.val ⟨false, (.int .u64), true⟩]
noncomputable abbrev c60_L2 : Cut := ⟨[0, 3], [.cell (.int .i64), .cell (.int .u64)], [], 11⟩
noncomputable def l60_2 (k : Nat) (g2 : Int → Int → Option Y2_7) (i1 : Int) (v : Int) : Option Y2_7 :=
  (bif decide (i1 > 0) then
    g2 (IntKind.i64.wrap (i1 - 1)) (IntKind.u64.wrap (2 * v))
  else
    some ((v, ()), ()))
noncomputable def b60_2 (k : Nat) (g : ((Unit) × Int × Int × Unit) → Option Y2_7) (d : (Unit) × Int × Int × Unit) : Option Y2_7 := l60_2 k (fun i1 v => g ((), i1, v, ())) d.2.1 d.2.2.1
noncomputable def L60_2 (k : Nat) (j : Nat) (i1 : Int) (v : Int) : Option Y2_7 := iter (R := (Int × Unit) × Unit) c60_L2 (b60_2 k) j ((), i1, v, ())
theorem L60_2_s (k : Nat) (j : Nat) (i1 : Int) (v : Int) : L60_2 k (j + 1) i1 v = l60_2 k (L60_2 k j) i1 v := iter_succ _ _ _ _
noncomputable def S60 (k : Nat) (i : Int) : Option Y2_7 :=
  L60_2 k k i 1
noncomputable def E60 : Env := tab.env (lk []) (hintL [])
theorem E60_ok : EnvOK Try.prog E60 := envOK_of tabOK _ _ (fun f F h => by cases h)
noncomputable def B60 (k : Nat) : Tbl (RD R60 × MD P60) := (.loop 2 c60_L2 (b60_2 k) (fun g => .nil) .nil)
noncomputable def F60 : Fn := ⟨P60, R60, fun k x => S60 k x.1⟩
theorem ok60 : FnOK Try.prog 60 F60 := evalF_ok (E := E60) (T := B60) E60_ok mix Try.func60 rfl (by kernel_rfl) (by kernel_rfl) (fun k => by kernel_rfl) (fun k x => by kernel_rfl)
/-! ### 47: 47 foliot/foliotref1.Narrow -/
noncomputable abbrev P47 : List PT := [.val ⟨false, (.int .i64), false⟩, .val ⟨false, (.int .i64), false⟩]
noncomputable abbrev R47 : List RT := [.val ⟨false, (.int .i64), true⟩]
noncomputable def S47 (k : Nat) (v : Int) (n : Int) : Option Y2_7 :=
  (bif decide (n < 1) then
    some ((v, ()), ())
  else
    (bif decide (n > 63) then
      some ((v, ()), ())
    else
      (S60 k n).bind fun q0 =>
      nz q0.1.1 <|
      (S60 k (IntKind.i64.wrap (n - 1))).bind fun q1 =>
      (bif decide ((Int.tmod (IntKind.u64.wrap v) q0.1.1) ≥ q1.1.1) then
        (S60 k n).bind fun q2 =>
        some ((IntKind.i64.wrap (0 - (IntKind.i64.wrap (IntKind.u64.wrap (q2.1.1 - (Int.tmod (IntKind.u64.wrap v) q0.1.1))))), ()), ())
      else
        some ((IntKind.i64.wrap (Int.tmod (IntKind.u64.wrap v) q0.1.1), ()), ()))))
noncomputable def E47 : Env := tab.env (lk [(60, F60)]) (hintL [])
theorem E47_ok : EnvOK Try.prog E47 := envOK_of tabOK _ _ (allFn_lk (l := [(60, F60)]) ⟨ok60, trivial⟩)
noncomputable def B47 (k : Nat) : Tbl (RD R47 × MD P47) := .nil
noncomputable def F47 : Fn := ⟨P47, R47, fun k x => S47 k x.1 x.2.1⟩
theorem ok47 : FnOK Try.prog 47 F47 := evalF_ok (E := E47) (T := B47) E47_ok mix Try.func47 rfl (by kernel_rfl) (by kernel_rfl) (fun k => by kernel_rfl) (fun k x => by kernel_rfl)
/-! ### 22: 22 foliot/foliotref1.Step -/
noncomputable abbrev P22 : List PT := [.val ⟨false, (.sl 41 (.pair (.int .i64) Y2_3)), false⟩, .val ⟨true, (.pair (.int .i64) (.pair (arrT 8 (.int .i64)) (.pair (.sl 82 Y2_3) .bool))), false⟩]
noncomputable abbrev R22 : List RT := [.val ⟨true, (.pair (.int .i64) (.pair (arrT 8 (.int .i64)) (.pair (.sl 82 Y2_3) .bool))), true⟩, .val ⟨true, (.pair (.int .i64) Y2_3), true⟩, .val ⟨false, .bool, true⟩]
noncomputable abbrev c22_L28 : Cut := ⟨[3, 4, 5, 7], [.box 38 [.cell (.int .i64), .cell (.int .i64), .cell (.int .i64), .cell (.int .i64), .cell (.int .i64), .cell (.int .i64), .cell (.int .i64), .cell (.int .i64), .cell (.int .i64), .own 82 Y2_3, .cell .bool], .box 38 [.cell (.int .i64), .cell (.int .i64), .cell (.int .i64), .cell (.int .i64), .cell (.int .i64), .cell (.int .i64), .cell (.int .i64), .cell (.int .i64), .cell (.int .i64), .nil, .cell .bool], .box 41 [.cell (.int .i64), .cell (.int .i64), .cell (.int .i64), .cell (.int .i64)], .box 41 [.cell (.int .i64), .cell (.int .i64), .cell (.int .i64), .cell (.int .i64)]], [], 225⟩
noncomputable def l22_28 (k : Nat) (g28 : Int → Int → Int → Int → Int → Int → Int → Int → Int → (List Y2_6) → Bool → Int → Int → Int → Int → Int → Int → Int → Int → Int → Bool → Int → Int → Int → Int → Int → Int → Int → Int → Option (Y2_2 × Unit)) (m1 : Int) (m2 : Int) (m3 : Int) (m4 : Int) (m5 : Int) (m6 : Int) (m7 : Int) (m8 : Int) (m9 : Int) (m10 : List Y2_6) (m11 : Bool) (t4 : Int) (t4_1 : Int) (t4_2 : Int) (t4_3 : Int) (t4_4 : Int) (t4_5 : Int) (t4_6 : Int) (t4_7 : Int) (t4_8 : Int) (t4_9 : Bool) (t5 : Int) (t5_1 : Int) (t5_2 : Int) (t5_3 : Int) (i : Int) (i1 : Int) (i2 : Int) (i3 : Int) : Option (Y2_2 × Unit) :=
  (bif decide ((m10.length : Int) > 0) then
    ix m10 (IntKind.i64.wrap ((m10.length : Int) - 1)) <|
    (bif decide ((rd m10 (IntKind.i64.wrap ((m10.length : Int) - 1)) (0, 0, 0)).2.1 < m1) then
      ix m10 (IntKind.i64.wrap ((m10.length : Int) - 1)) <|
      sx m10 0 (IntKind.i64.wrap ((m10.length : Int) - 1)) <|
      (bif decide ((rd m10 (IntKind.i64.wrap ((m10.length : Int) - 1)) (0, 0, 0)).2.2 > 0) then
        ap (m10.take (IntKind.i64.wrap ((m10.length : Int) - 1)).toNat) ([((rd m10 (IntKind.i64.wrap ((m10.length : Int) - 1)) (0, 0, 0)).1, (rd m10 (IntKind.i64.wrap ((m10.length : Int) - 1)) (0, 0, 0)).2.1, IntKind.i64.wrap ((rd m10 (IntKind.i64.wrap ((m10.length : Int) - 1)) (0, 0, 0)).2.2 - 1))] : List Y2_6) 24 fun r2 =>
        some ((((rd m10 (IntKind.i64.wrap ((m10.length : Int) - 1)) (0, 0, 0)).1, (m2, m3, m4, m5, m6, m7, m8, m9), r2, m11), (i, i1, i2, i3), true, ()), ())
      else
        g28 m1 m2 m3 m4 m5 m6 m7 m8 m9 (m10.take (IntKind.i64.wrap ((m10.length : Int) - 1)).toNat) m11 t4 t4_1 t4_2 t4_3 t4_4 t4_5 t4_6 t4_7 t4_8 t4_9 t5 t5_1 t5_2 t5_3 i i1 i2 i3)
    else
      some (((m1, (m2, m3, m4, m5, m6, m7, m8, m9), m10, m11), (i, i1, i2, i3), true, ()), ()))
  else
    some (((m1, (m2, m3, m4, m5, m6, m7, m8, m9), m10, m11), (i, i1, i2, i3), true, ()), ()))
noncomputable def b22_28 (k : Nat) (g : ((Unit) × Y2_1 × (Int × Int × Int × Int × Int × Int × Int × Int × Int × Unit × Bool × Unit) × Y2_4 × Y2_4 × Unit) → Option (Y2_2 × Unit)) (d : (Unit) × Y2_1 × (Int × Int × Int × Int × Int × Int × Int × Int × Int × Unit × Bool × Unit) × Y2_4 × Y2_4 × Unit) : Option (Y2_2 × Unit) := l22_28 k (fun m1 m2 m3 m4 m5 m6 m7 m8 m9 m10 m11 t4 t4_1 t4_2 t4_3 t4_4 t4_5 t4_6 t4_7 t4_8 t4_9 t5 t5_1 t5_2 t5_3 i i1 i2 i3 => g ((), (m1, m2, m3, m4, m5, m6, m7, m8, m9, m10, m11, ()), (t4, t4_1, t4_2, t4_3, t4_4, t4_5, t4_6, t4_7, t4_8, (), t4_9, ()), (t5, t5_1, t5_2, t5_3, ()), (i, i1, i2, i3, ()), ())) d.2.1.1 d.2.1.2.1 d.2.1.2.2.1 d.2.1.2.2.2.1 d.2.1.2.2.2.2.1 d.2.1.2.2.2.2.2.1 d.2.1.2.2.2.2.2.2.1 d.2.1.2.2.2.2.2.2.2.1 d.2.1.2.2.2.2.2.2.2.2.1 d.2.1.2.2.2.2.2.2.2.2.2.1 d.2.1.2.2.2.2.2.2.2.2.2.2.1 d.2.2.1.1 d.2.2.1.2.1 d.2.2.1.2.2.1 d.2.2.1.2.2.2.1 d.2.2.1.2.2.2.2.1 d.2.2.1.2.2.2.2.2.1 d.2.2.1.2.2.2.2.2.2.1 d.2.2.1.2.2.2.2.2.2.2.1 d.2.2.1.2.2.2.2.2.2.2.2.1 d.2.2.1.2.2.2.2.2.2.2.2.2.2.1 d.2.2.2.1.1 d.2.2.2.1.2.1 d.2.2.2.1.2.2.1 d.2.2.2.1.2.2.2.1 d.2.2.2.2.1.1 d.2.2.2.2.1.2.1 d.2.2.2.2.1.2.2.1 d.2.2.2.2.1.2.2.2.1
noncomputable def L22_28 (k : Nat) (j : Nat) (m1 : Int) (m2 : Int) (m3 : Int) (m4 : Int) (m5 : Int) (m6 : Int) (m7 : Int) (m8 : Int) (m9 : Int) (m10 : List Y2_6) (m11 : Bool) (t4 : Int) (t4_1 : Int) (t4_2 : Int) (t4_3 : Int) (t4_4 : Int) (t4_5 : Int) (t4_6 : Int) (t4_7 : Int) (t4_8 : Int) (t4_9 : Bool) (t5 : Int) (t5_1 : Int) (t5_2 : Int) (t5_3 : Int) (i : Int) (i1 : Int) (i2 : Int) (i3 : Int) : Option (Y2_2 × Unit) := iter (R := Y2_2 × Unit) c22_L28 (b22_28 k) j ((), (m1, m2, m3, m4, m5, m6, m7, m8, m9, m10, m11, ()), (t4, t4_1, t4_2, t4_3, t4_4, t4_5, t4_6, t4_7, t4_8, (), t4_9, ()), (t5, t5_1, t5_2, t5_3, ()), (i, i1, i2, i3, ()), ())
theorem L22_28_s (k : Nat) (j : Nat) (m1 : Int) (m2 : Int) (m3 : Int) (m4 : Int) (m5 : Int) (m6 : Int) (m7 : Int) (m8 : Int) (m9 : Int) (m10 : List Y2_6) (m11 : Bool) (t4 : Int) (t4_1 : Int) (t4_2 : Int) (t4_3 : Int) (t4_4 : Int) (t4_5 : Int) (t4_6 : Int) (t4_7 : Int) (t4_8 : Int) (t4_9 : Bool) (t5 : Int) (t5_1 : Int) (t5_2 : Int) (t5_3 : Int) (i : Int) (i1 : Int) (i2 : Int) (i3 : Int) : L22_28 k (j + 1) m1 m2 m3 m4 m5 m6 m7 m8 m9 m10 m11 t4 t4_1 t4_2 t4_3 t4_4 t4_5 t4_6 t4_7 t4_8 t4_9 t5 t5_1 t5_2 t5_3 i i1 i2 i3 = l22_28 k (L22_28 k j) m1 m2 m3 m4 m5 m6 m7 m8 m9 m10 m11 t4 t4_1 t4_2 t4_3 t4_4 t4_5 t4_6 t4_7 t4_8 t4_9 t5 t5_1 t5_2 t5_3 i i1 i2 i3 := iter_succ _ _ _ _
noncomputable def S22 (k : Nat) (l_ : List Y2_5) (m : Int × (PN Int 8) × (List Y2_6) × Bool) : Option (Y2_2 × Unit) :=
  ap ([] : List Y2_6) m.2.2.1 24 fun r0 =>
  (bif m.2.2.2 then
    some (((m.1, m.2.1, r0, m.2.2.2), (0, 0, 0, 0), false, ()), ())
  else
    (bif decide (m.1 < 0) then
      some (((m.1, m.2.1, r0, m.2.2.2), (0, 0, 0, 0), false, ()), ())
    else
      (bif decide (m.1 ≥ (l_.length : Int)) then
        some (((m.1, m.2.1, r0, m.2.2.2), (0, 0, 0, 0), false, ()), ())
      else
        ix l_ m.1 <|
        (S32 k (rd l_ m.1 (0, 0, 0, 0))).bind fun q1 =>
        (bif !q1.1.1 then
          some (((m.1, m.2.1, r0, m.2.2.2), (0, 0, 0, 0), false, ()), ())
        else
          ix l_ m.1 <|
          (bif (rd l_ m.1 (0, 0, 0, 0)).1 == 0 then
            L22_28 k k m.1 m.2.1.1 m.2.1.2.1 m.2.1.2.2.1 m.2.1.2.2.2.1 m.2.1.2.2.2.2.1 m.2.1.2.2.2.2.2.1 m.2.1.2.2.2.2.2.2.1 m.2.1.2.2.2.2.2.2.2 r0 true 0 0 0 0 0 0 0 0 0 false 0 0 0 0 (rd l_ m.1 (0, 0, 0, 0)).1 (rd l_ m.1 (0, 0, 0, 0)).2.1 (rd l_ m.1 (0, 0, 0, 0)).2.2.1 (rd l_ m.1 (0, 0, 0, 0)).2.2.2
          else
            (bif (rd l_ m.1 (0, 0, 0, 0)).1 == 1 then
              ax 8 (rd l_ m.1 (0, 0, 0, 0)).2.1 <|
              L22_28 k k (IntKind.i64.wrap (m.1 + 1)) (aset (α := Int) 8 m.2.1 (rd l_ m.1 (0, 0, 0, 0)).2.1 (rd l_ m.1 (0, 0, 0, 0)).2.2.2).1 (aset (α := Int) 8 m.2.1 (rd l_ m.1 (0, 0, 0, 0)).2.1 (rd l_ m.1 (0, 0, 0, 0)).2.2.2).2.1 (aset (α := Int) 8 m.2.1 (rd l_ m.1 (0, 0, 0, 0)).2.1 (rd l_ m.1 (0, 0, 0, 0)).2.2.2).2.2.1 (aset (α := Int) 8 m.2.1 (rd l_ m.1 (0, 0, 0, 0)).2.1 (rd l_ m.1 (0, 0, 0, 0)).2.2.2).2.2.2.1 (aset (α := Int) 8 m.2.1 (rd l_ m.1 (0, 0, 0, 0)).2.1 (rd l_ m.1 (0, 0, 0, 0)).2.2.2).2.2.2.2.1 (aset (α := Int) 8 m.2.1 (rd l_ m.1 (0, 0, 0, 0)).2.1 (rd l_ m.1 (0, 0, 0, 0)).2.2.2).2.2.2.2.2.1 (aset (α := Int) 8 m.2.1 (rd l_ m.1 (0, 0, 0, 0)).2.1 (rd l_ m.1 (0, 0, 0, 0)).2.2.2).2.2.2.2.2.2.1 (aset (α := Int) 8 m.2.1 (rd l_ m.1 (0, 0, 0, 0)).2.1 (rd l_ m.1 (0, 0, 0, 0)).2.2.2).2.2.2.2.2.2.2 r0 m.2.2.2 0 0 0 0 0 0 0 0 0 false 0 0 0 0 (rd l_ m.1 (0, 0, 0, 0)).1 (rd l_ m.1 (0, 0, 0, 0)).2.1 (rd l_ m.1 (0, 0, 0, 0)).2.2.1 (rd l_ m.1 (0, 0, 0, 0)).2.2.2
            else
              (bif (rd l_ m.1 (0, 0, 0, 0)).1 == 2 then
                ax 8 (rd l_ m.1 (0, 0, 0, 0)).2.1 <|
                ax 8 (rd l_ m.1 (0, 0, 0, 0)).2.2.1 <|
                ax 8 (rd l_ m.1 (0, 0, 0, 0)).2.1 <|
                L22_28 k k (IntKind.i64.wrap (m.1 + 1)) (aset (α := Int) 8 m.2.1 (rd l_ m.1 (0, 0, 0, 0)).2.1 (IntKind.i64.wrap ((aget (α := Int) 8 m.2.1 (rd l_ m.1 (0, 0, 0, 0)).2.1 0) + (aget (α := Int) 8 m.2.1 (rd l_ m.1 (0, 0, 0, 0)).2.2.1 0)))).1 (aset (α := Int) 8 m.2.1 (rd l_ m.1 (0, 0, 0, 0)).2.1 (IntKind.i64.wrap ((aget (α := Int) 8 m.2.1 (rd l_ m.1 (0, 0, 0, 0)).2.1 0) + (aget (α := Int) 8 m.2.1 (rd l_ m.1 (0, 0, 0, 0)).2.2.1 0)))).2.1 (aset (α := Int) 8 m.2.1 (rd l_ m.1 (0, 0, 0, 0)).2.1 (IntKind.i64.wrap ((aget (α := Int) 8 m.2.1 (rd l_ m.1 (0, 0, 0, 0)).2.1 0) + (aget (α := Int) 8 m.2.1 (rd l_ m.1 (0, 0, 0, 0)).2.2.1 0)))).2.2.1 (aset (α := Int) 8 m.2.1 (rd l_ m.1 (0, 0, 0, 0)).2.1 (IntKind.i64.wrap ((aget (α := Int) 8 m.2.1 (rd l_ m.1 (0, 0, 0, 0)).2.1 0) + (aget (α := Int) 8 m.2.1 (rd l_ m.1 (0, 0, 0, 0)).2.2.1 0)))).2.2.2.1 (aset (α := Int) 8 m.2.1 (rd l_ m.1 (0, 0, 0, 0)).2.1 (IntKind.i64.wrap ((aget (α := Int) 8 m.2.1 (rd l_ m.1 (0, 0, 0, 0)).2.1 0) + (aget (α := Int) 8 m.2.1 (rd l_ m.1 (0, 0, 0, 0)).2.2.1 0)))).2.2.2.2.1 (aset (α := Int) 8 m.2.1 (rd l_ m.1 (0, 0, 0, 0)).2.1 (IntKind.i64.wrap ((aget (α := Int) 8 m.2.1 (rd l_ m.1 (0, 0, 0, 0)).2.1 0) + (aget (α := Int) 8 m.2.1 (rd l_ m.1 (0, 0, 0, 0)).2.2.1 0)))).2.2.2.2.2.1 (aset (α := Int) 8 m.2.1 (rd l_ m.1 (0, 0, 0, 0)).2.1 (IntKind.i64.wrap ((aget (α := Int) 8 m.2.1 (rd l_ m.1 (0, 0, 0, 0)).2.1 0) + (aget (α := Int) 8 m.2.1 (rd l_ m.1 (0, 0, 0, 0)).2.2.1 0)))).2.2.2.2.2.2.1 (aset (α := Int) 8 m.2.1 (rd l_ m.1 (0, 0, 0, 0)).2.1 (IntKind.i64.wrap ((aget (α := Int) 8 m.2.1 (rd l_ m.1 (0, 0, 0, 0)).2.1 0) + (aget (α := Int) 8 m.2.1 (rd l_ m.1 (0, 0, 0, 0)).2.2.1 0)))).2.2.2.2.2.2.2 r0 m.2.2.2 0 0 0 0 0 0 0 0 0 false 0 0 0 0 (rd l_ m.1 (0, 0, 0, 0)).1 (rd l_ m.1 (0, 0, 0, 0)).2.1 (rd l_ m.1 (0, 0, 0, 0)).2.2.1 (rd l_ m.1 (0, 0, 0, 0)).2.2.2
              else
                (bif (rd l_ m.1 (0, 0, 0, 0)).1 == 3 then
                  ax 8 (rd l_ m.1 (0, 0, 0, 0)).2.1 <|
                  ax 8 (rd l_ m.1 (0, 0, 0, 0)).2.2.1 <|
                  ax 8 (rd l_ m.1 (0, 0, 0, 0)).2.1 <|
                  L22_28 k k (IntKind.i64.wrap (m.1 + 1)) (aset (α := Int) 8 m.2.1 (rd l_ m.1 (0, 0, 0, 0)).2.1 (IntKind.i64.wrap ((aget (α := Int) 8 m.2.1 (rd l_ m.1 (0, 0, 0, 0)).2.1 0) - (aget (α := Int) 8 m.2.1 (rd l_ m.1 (0, 0, 0, 0)).2.2.1 0)))).1 (aset (α := Int) 8 m.2.1 (rd l_ m.1 (0, 0, 0, 0)).2.1 (IntKind.i64.wrap ((aget (α := Int) 8 m.2.1 (rd l_ m.1 (0, 0, 0, 0)).2.1 0) - (aget (α := Int) 8 m.2.1 (rd l_ m.1 (0, 0, 0, 0)).2.2.1 0)))).2.1 (aset (α := Int) 8 m.2.1 (rd l_ m.1 (0, 0, 0, 0)).2.1 (IntKind.i64.wrap ((aget (α := Int) 8 m.2.1 (rd l_ m.1 (0, 0, 0, 0)).2.1 0) - (aget (α := Int) 8 m.2.1 (rd l_ m.1 (0, 0, 0, 0)).2.2.1 0)))).2.2.1 (aset (α := Int) 8 m.2.1 (rd l_ m.1 (0, 0, 0, 0)).2.1 (IntKind.i64.wrap ((aget (α := Int) 8 m.2.1 (rd l_ m.1 (0, 0, 0, 0)).2.1 0) - (aget (α := Int) 8 m.2.1 (rd l_ m.1 (0, 0, 0, 0)).2.2.1 0)))).2.2.2.1 (aset (α := Int) 8 m.2.1 (rd l_ m.1 (0, 0, 0, 0)).2.1 (IntKind.i64.wrap ((aget (α := Int) 8 m.2.1 (rd l_ m.1 (0, 0, 0, 0)).2.1 0) - (aget (α := Int) 8 m.2.1 (rd l_ m.1 (0, 0, 0, 0)).2.2.1 0)))).2.2.2.2.1 (aset (α := Int) 8 m.2.1 (rd l_ m.1 (0, 0, 0, 0)).2.1 (IntKind.i64.wrap ((aget (α := Int) 8 m.2.1 (rd l_ m.1 (0, 0, 0, 0)).2.1 0) - (aget (α := Int) 8 m.2.1 (rd l_ m.1 (0, 0, 0, 0)).2.2.1 0)))).2.2.2.2.2.1 (aset (α := Int) 8 m.2.1 (rd l_ m.1 (0, 0, 0, 0)).2.1 (IntKind.i64.wrap ((aget (α := Int) 8 m.2.1 (rd l_ m.1 (0, 0, 0, 0)).2.1 0) - (aget (α := Int) 8 m.2.1 (rd l_ m.1 (0, 0, 0, 0)).2.2.1 0)))).2.2.2.2.2.2.1 (aset (α := Int) 8 m.2.1 (rd l_ m.1 (0, 0, 0, 0)).2.1 (IntKind.i64.wrap ((aget (α := Int) 8 m.2.1 (rd l_ m.1 (0, 0, 0, 0)).2.1 0) - (aget (α := Int) 8 m.2.1 (rd l_ m.1 (0, 0, 0, 0)).2.2.1 0)))).2.2.2.2.2.2.2 r0 m.2.2.2 0 0 0 0 0 0 0 0 0 false 0 0 0 0 (rd l_ m.1 (0, 0, 0, 0)).1 (rd l_ m.1 (0, 0, 0, 0)).2.1 (rd l_ m.1 (0, 0, 0, 0)).2.2.1 (rd l_ m.1 (0, 0, 0, 0)).2.2.2
                else
                  (bif (rd l_ m.1 (0, 0, 0, 0)).1 == 4 then
                    ax 8 (rd l_ m.1 (0, 0, 0, 0)).2.1 <|
                    ax 8 (rd l_ m.1 (0, 0, 0, 0)).2.2.1 <|
                    ax 8 (rd l_ m.1 (0, 0, 0, 0)).2.1 <|
                    L22_28 k k (IntKind.i64.wrap (m.1 + 1)) (aset (α := Int) 8 m.2.1 (rd l_ m.1 (0, 0, 0, 0)).2.1 (IntKind.i64.wrap ((aget (α := Int) 8 m.2.1 (rd l_ m.1 (0, 0, 0, 0)).2.1 0) * (aget (α := Int) 8 m.2.1 (rd l_ m.1 (0, 0, 0, 0)).2.2.1 0)))).1 (aset (α := Int) 8 m.2.1 (rd l_ m.1 (0, 0, 0, 0)).2.1 (IntKind.i64.wrap ((aget (α := Int) 8 m.2.1 (rd l_ m.1 (0, 0, 0, 0)).2.1 0) * (aget (α := Int) 8 m.2.1 (rd l_ m.1 (0, 0, 0, 0)).2.2.1 0)))).2.1 (aset (α := Int) 8 m.2.1 (rd l_ m.1 (0, 0, 0, 0)).2.1 (IntKind.i64.wrap ((aget (α := Int) 8 m.2.1 (rd l_ m.1 (0, 0, 0, 0)).2.1 0) * (aget (α := Int) 8 m.2.1 (rd l_ m.1 (0, 0, 0, 0)).2.2.1 0)))).2.2.1 (aset (α := Int) 8 m.2.1 (rd l_ m.1 (0, 0, 0, 0)).2.1 (IntKind.i64.wrap ((aget (α := Int) 8 m.2.1 (rd l_ m.1 (0, 0, 0, 0)).2.1 0) * (aget (α := Int) 8 m.2.1 (rd l_ m.1 (0, 0, 0, 0)).2.2.1 0)))).2.2.2.1 (aset (α := Int) 8 m.2.1 (rd l_ m.1 (0, 0, 0, 0)).2.1 (IntKind.i64.wrap ((aget (α := Int) 8 m.2.1 (rd l_ m.1 (0, 0, 0, 0)).2.1 0) * (aget (α := Int) 8 m.2.1 (rd l_ m.1 (0, 0, 0, 0)).2.2.1 0)))).2.2.2.2.1 (aset (α := Int) 8 m.2.1 (rd l_ m.1 (0, 0, 0, 0)).2.1 (IntKind.i64.wrap ((aget (α := Int) 8 m.2.1 (rd l_ m.1 (0, 0, 0, 0)).2.1 0) * (aget (α := Int) 8 m.2.1 (rd l_ m.1 (0, 0, 0, 0)).2.2.1 0)))).2.2.2.2.2.1 (aset (α := Int) 8 m.2.1 (rd l_ m.1 (0, 0, 0, 0)).2.1 (IntKind.i64.wrap ((aget (α := Int) 8 m.2.1 (rd l_ m.1 (0, 0, 0, 0)).2.1 0) * (aget (α := Int) 8 m.2.1 (rd l_ m.1 (0, 0, 0, 0)).2.2.1 0)))).2.2.2.2.2.2.1 (aset (α := Int) 8 m.2.1 (rd l_ m.1 (0, 0, 0, 0)).2.1 (IntKind.i64.wrap ((aget (α := Int) 8 m.2.1 (rd l_ m.1 (0, 0, 0, 0)).2.1 0) * (aget (α := Int) 8 m.2.1 (rd l_ m.1 (0, 0, 0, 0)).2.2.1 0)))).2.2.2.2.2.2.2 r0 m.2.2.2 0 0 0 0 0 0 0 0 0 false 0 0 0 0 (rd l_ m.1 (0, 0, 0, 0)).1 (rd l_ m.1 (0, 0, 0, 0)).2.1 (rd l_ m.1 (0, 0, 0, 0)).2.2.1 (rd l_ m.1 (0, 0, 0, 0)).2.2.2
                  else
                    (bif (rd l_ m.1 (0, 0, 0, 0)).1 == 5 then
                      ax 8 (rd l_ m.1 (0, 0, 0, 0)).2.1 <|
                      (S46 k (aget (α := Int) 8 m.2.1 (rd l_ m.1 (0, 0, 0, 0)).2.1 0) (rd l_ m.1 (0, 0, 0, 0)).2.2.2).bind fun q3 =>
                      ax 8 (rd l_ m.1 (0, 0, 0, 0)).2.1 <|
                      L22_28 k k (IntKind.i64.wrap (m.1 + 1)) (aset (α := Int) 8 m.2.1 (rd l_ m.1 (0, 0, 0, 0)).2.1 q3.1.1).1 (aset (α := Int) 8 m.2.1 (rd l_ m.1 (0, 0, 0, 0)).2.1 q3.1.1).2.1 (aset (α := Int) 8 m.2.1 (rd l_ m.1 (0, 0, 0, 0)).2.1 q3.1.1).2.2.1 (aset (α := Int) 8 m.2.1 (rd l_ m.1 (0, 0, 0, 0)).2.1 q3.1.1).2.2.2.1 (aset (α := Int) 8 m.2.1 (rd l_ m.1 (0, 0, 0, 0)).2.1 q3.1.1).2.2.2.2.1 (aset (α := Int) 8 m.2.1 (rd l_ m.1 (0, 0, 0, 0)).2.1 q3.1.1).2.2.2.2.2.1 (aset (α := Int) 8 m.2.1 (rd l_ m.1 (0, 0, 0, 0)).2.1 q3.1.1).2.2.2.2.2.2.1 (aset (α := Int) 8 m.2.1 (rd l_ m.1 (0, 0, 0, 0)).2.1 q3.1.1).2.2.2.2.2.2.2 r0 m.2.2.2 0 0 0 0 0 0 0 0 0 false 0 0 0 0 (rd l_ m.1 (0, 0, 0, 0)).1 (rd l_ m.1 (0, 0, 0, 0)).2.1 (rd l_ m.1 (0, 0, 0, 0)).2.2.1 (rd l_ m.1 (0, 0, 0, 0)).2.2.2
                    else
                      (bif (rd l_ m.1 (0, 0, 0, 0)).1 == 6 then
                        ax 8 (rd l_ m.1 (0, 0, 0, 0)).2.1 <|
                        (S47 k (aget (α := Int) 8 m.2.1 (rd l_ m.1 (0, 0, 0, 0)).2.1 0) (rd l_ m.1 (0, 0, 0, 0)).2.2.2).bind fun q4 =>
                        ax 8 (rd l_ m.1 (0, 0, 0, 0)).2.1 <|
                        L22_28 k k (IntKind.i64.wrap (m.1 + 1)) (aset (α := Int) 8 m.2.1 (rd l_ m.1 (0, 0, 0, 0)).2.1 q4.1.1).1 (aset (α := Int) 8 m.2.1 (rd l_ m.1 (0, 0, 0, 0)).2.1 q4.1.1).2.1 (aset (α := Int) 8 m.2.1 (rd l_ m.1 (0, 0, 0, 0)).2.1 q4.1.1).2.2.1 (aset (α := Int) 8 m.2.1 (rd l_ m.1 (0, 0, 0, 0)).2.1 q4.1.1).2.2.2.1 (aset (α := Int) 8 m.2.1 (rd l_ m.1 (0, 0, 0, 0)).2.1 q4.1.1).2.2.2.2.1 (aset (α := Int) 8 m.2.1 (rd l_ m.1 (0, 0, 0, 0)).2.1 q4.1.1).2.2.2.2.2.1 (aset (α := Int) 8 m.2.1 (rd l_ m.1 (0, 0, 0, 0)).2.1 q4.1.1).2.2.2.2.2.2.1 (aset (α := Int) 8 m.2.1 (rd l_ m.1 (0, 0, 0, 0)).2.1 q4.1.1).2.2.2.2.2.2.2 r0 m.2.2.2 0 0 0 0 0 0 0 0 0 false 0 0 0 0 (rd l_ m.1 (0, 0, 0, 0)).1 (rd l_ m.1 (0, 0, 0, 0)).2.1 (rd l_ m.1 (0, 0, 0, 0)).2.2.1 (rd l_ m.1 (0, 0, 0, 0)).2.2.2
                      else
                        (bif (rd l_ m.1 (0, 0, 0, 0)).1 == 7 then
                          ax 8 (rd l_ m.1 (0, 0, 0, 0)).2.1 <|
                          (bif (aget (α := Int) 8 m.2.1 (rd l_ m.1 (0, 0, 0, 0)).2.1 0) == 0 then
                            L22_28 k k (IntKind.i64.wrap ((IntKind.i64.wrap (m.1 + 1)) + (rd l_ m.1 (0, 0, 0, 0)).2.2.2)) m.2.1.1 m.2.1.2.1 m.2.1.2.2.1 m.2.1.2.2.2.1 m.2.1.2.2.2.2.1 m.2.1.2.2.2.2.2.1 m.2.1.2.2.2.2.2.2.1 m.2.1.2.2.2.2.2.2.2 r0 m.2.2.2 0 0 0 0 0 0 0 0 0 false 0 0 0 0 (rd l_ m.1 (0, 0, 0, 0)).1 (rd l_ m.1 (0, 0, 0, 0)).2.1 (rd l_ m.1 (0, 0, 0, 0)).2.2.1 (rd l_ m.1 (0, 0, 0, 0)).2.2.2
                          else
                            L22_28 k k (IntKind.i64.wrap (m.1 + 1)) m.2.1.1 m.2.1.2.1 m.2.1.2.2.1 m.2.1.2.2.2.1 m.2.1.2.2.2.2.1 m.2.1.2.2.2.2.2.1 m.2.1.2.2.2.2.2.2.1 m.2.1.2.2.2.2.2.2.2 r0 m.2.2.2 0 0 0 0 0 0 0 0 0 false 0 0 0 0 (rd l_ m.1 (0, 0, 0, 0)).1 (rd l_ m.1 (0, 0, 0, 0)).2.1 (rd l_ m.1 (0, 0, 0, 0)).2.2.1 (rd l_ m.1 (0, 0, 0, 0)).2.2.2)
                        else
                          (bif (rd l_ m.1 (0, 0, 0, 0)).1 == 8 then
                            ap r0 ([(IntKind.i64.wrap (m.1 + 1), IntKind.i64.wrap (m.1 + (rd l_ m.1 (0, 0, 0, 0)).2.2.1), IntKind.i64.wrap ((rd l_ m.1 (0, 0, 0, 0)).2.2.2 - 1))] : List Y2_6) 24 fun r5 =>
                            L22_28 k k (IntKind.i64.wrap (m.1 + 1)) m.2.1.1 m.2.1.2.1 m.2.1.2.2.1 m.2.1.2.2.2.1 m.2.1.2.2.2.2.1 m.2.1.2.2.2.2.2.1 m.2.1.2.2.2.2.2.2.1 m.2.1.2.2.2.2.2.2.2 r5 m.2.2.2 0 0 0 0 0 0 0 0 0 false 0 0 0 0 (rd l_ m.1 (0, 0, 0, 0)).1 (rd l_ m.1 (0, 0, 0, 0)).2.1 (rd l_ m.1 (0, 0, 0, 0)).2.2.1 (rd l_ m.1 (0, 0, 0, 0)).2.2.2
                          else
                            L22_28 k k (IntKind.i64.wrap (m.1 + 1)) m.2.1.1 m.2.1.2.1 m.2.1.2.2.1 m.2.1.2.2.2.1 m.2.1.2.2.2.2.1 m.2.1.2.2.2.2.2.1 m.2.1.2.2.2.2.2.2.1 m.2.1.2.2.2.2.2.2.2 r0 m.2.2.2 0 0 0 0 0 0 0 0 0 false 0 0 0 0 (rd l_ m.1 (0, 0, 0, 0)).1 (rd l_ m.1 (0, 0, 0, 0)).2.1 (rd l_ m.1 (0, 0, 0, 0)).2.2.1 (rd l_ m.1 (0, 0, 0, 0)).2.2.2)))))))))))))
noncomputable def E22 : Env := tab.env (lk [(32, F32), (46, F46), (47, F47)]) (hintL [(205, 1)])
theorem E22_ok : EnvOK Try.prog E22 := envOK_of tabOK _ _ (allFn_lk (l := [(32, F32), (46, F46), (47, F47)]) ⟨ok32, ok46, ok47, trivial⟩)
noncomputable def B22 (k : Nat) : Tbl (RD R22 × MD P22) := (.loop 28 c22_L28 (b22_28 k) (fun g => .nil) .nil)
noncomputable def F22 : Fn := ⟨P22, R22, fun k x => S22 k x.1 x.2.1⟩
theorem ok22 : FnOK Try.prog 22 F22 := evalF_ok (E := E22) (T := B22) E22_ok mix Try.func22 rfl (by kernel_rfl) (by kernel_rfl) (fun k => by kernel_rfl) (fun k x => by kernel_rfl)
/-! ### 9: 9 foliot/foliotlaw7.CostHolds -/
noncomputable abbrev P9 : List PT := [.val ⟨false, (.sl 5 (.int .u8)), false⟩, .val ⟨false, (.int .i64), false⟩]
noncomputable abbrev R9 : List RT := [.val ⟨false, .bool, true⟩]
noncomputable abbrev c9_L31 : Cut := ⟨[5, 6, 8, 9, 10, 11, 12, 13, 16, 17], [.own 41 (.pair (.int .i64) Y2_3), .box 50 [.cell (.int .i64), .cell (.int .i64), .own 54 (.pair (.int .i64) (.int .i64))], .box 38 [.cell (.int .i64), .cell (.int .i64), .cell (.int .i64), .cell (.int .i64), .cell (.int .i64), .cell (.int .i64), .cell (.int .i64), .cell (.int .i64), .cell (.int .i64), .own 82 Y2_3, .cell .bool], .cell (.int .i64), .cell (.int .i64), .box 55 [.cell (.int .i64), .cell (.int .i64), .cell (.int .i64), .cell (.int .i64)], .box 38 [.cell (.int .i64), .cell (.int .i64), .cell (.int .i64), .cell (.int .i64), .cell (.int .i64), .cell (.int .i64), .cell (.int .i64), .cell (.int .i64), .cell (.int .i64), .own 82 Y2_3, .cell .bool], .box 41 [.cell (.int .i64), .cell (.int .i64), .cell (.int .i64), .cell (.int .i64)], .cell .bool, .cell (.int .i64)], [], 127⟩
noncomputable def l9_31 (k : Nat) (g12 : Y2_0) (g31 : (List Y2_5) → Int → Int → (List (Int × Int)) → Int → Int → Int → Int → Int → Int → Int → Int → Int → (List Y2_6) → Bool → Int → Int → Int → Int → Int → Int → Int → Int → Int → Int → Int → Int → Int → Int → Int → (List Y2_6) → Bool → Int → Int → Int → Int → Bool → Int → Option Y2_8) (l_2 : List Y2_5) (c6 : Int) (c7 : Int) (c8 : List (Int × Int)) (m22 : Int) (m23 : Int) (m24 : Int) (m25 : Int) (m26 : Int) (m27 : Int) (m28 : Int) (m29 : Int) (m30 : Int) (m31 : List Y2_6) (m32 : Bool) (all2 : Int) (piece2 : Int) (since8 : Int) (since9 : Int) (since10 : Int) (since11 : Int) (x11 : Int) (x12 : Int) (x13 : Int) (x14 : Int) (x15 : Int) (x16 : Int) (x17 : Int) (x18 : Int) (x19 : Int) (x20 : List Y2_6) (x21 : Bool) (i4 : Int) (i5 : Int) (i6 : Int) (i7 : Int) (fits : Bool) (k_ : Int) : Option Y2_8 :=
  (bif decide (k_ < (c8.length : Int)) then
    (bif fits then
      g31 l_2 c6 c7 c8 m22 m23 m24 m25 m26 m27 m28 m29 m30 m31 m32 all2 piece2 since8 since9 since10 since11 x11 x12 x13 x14 x15 x16 x17 x18 x19 x20 x21 i4 i5 i6 i7 true (IntKind.i64.wrap (k_ + 1))
    else
      ix c8 k_ <|
      (bif (rd c8 k_ (0, 0)).1 == i5 then
        ix c8 k_ <|
        ax 4 i5 <|
        g31 l_2 c6 c7 c8 m22 m23 m24 m25 m26 m27 m28 m29 m30 m31 m32 all2 piece2 since8 since9 since10 since11 x11 x12 x13 x14 x15 x16 x17 x18 x19 x20 x21 i4 i5 i6 i7 (decide ((rd c8 k_ (0, 0)).2 ≥ (IntKind.i64.wrap ((aget (α := Int) 4 (since8, since9, since10, since11) i5 0) - 1)))) (IntKind.i64.wrap (k_ + 1))
      else
        g31 l_2 c6 c7 c8 m22 m23 m24 m25 m26 m27 m28 m29 m30 m31 m32 all2 piece2 since8 since9 since10 since11 x11 x12 x13 x14 x15 x16 x17 x18 x19 x20 x21 i4 i5 i6 i7 false (IntKind.i64.wrap (k_ + 1))))
  else
    (bif !fits then
      some ((false, ()), ())
    else
      ax 4 i5 <|
      g12 l_2 c6 c7 c8 x11 x12 x13 x14 x15 x16 x17 x18 x19 x20 x21 all2 piece2 (aset (α := Int) 4 (since8, since9, since10, since11) i5 0).1 (aset (α := Int) 4 (since8, since9, since10, since11) i5 0).2.1 (aset (α := Int) 4 (since8, since9, since10, since11) i5 0).2.2.1 (aset (α := Int) 4 (since8, since9, since10, since11) i5 0).2.2.2))
noncomputable def b9_31 (k : Nat) (g12 : Y2_0) (g : ((Unit) × (List Y2_5) × Y2_9 × Y2_1 × Int × Int × Y2_4 × Y2_1 × Y2_4 × Bool × Int × Unit) → Option Y2_8) (d : (Unit) × (List Y2_5) × Y2_9 × Y2_1 × Int × Int × Y2_4 × Y2_1 × Y2_4 × Bool × Int × Unit) : Option Y2_8 := l9_31 k g12 (fun l_2 c6 c7 c8 m22 m23 m24 m25 m26 m27 m28 m29 m30 m31 m32 all2 piece2 since8 since9 since10 since11 x11 x12 x13 x14 x15 x16 x17 x18 x19 x20 x21 i4 i5 i6 i7 fits k_ => g ((), l_2, (c6, c7, c8, ()), (m22, m23, m24, m25, m26, m27, m28, m29, m30, m31, m32, ()), all2, piece2, (since8, since9, since10, since11, ()), (x11, x12, x13, x14, x15, x16, x17, x18, x19, x20, x21, ()), (i4, i5, i6, i7, ()), fits, k_, ())) d.2.1 d.2.2.1.1 d.2.2.1.2.1 d.2.2.1.2.2.1 d.2.2.2.1.1 d.2.2.2.1.2.1 d.2.2.2.1.2.2.1 d.2.2.2.1.2.2.2.1 d.2.2.2.1.2.2.2.2.1 d.2.2.2.1.2.2.2.2.2.1 d.2.2.2.1.2.2.2.2.2.2.1 d.2.2.2.1.2.2.2.2.2.2.2.1 d.2.2.2.1.2.2.2.2.2.2.2.2.1 d.2.2.2.1.2.2.2.2.2.2.2.2.2.1 d.2.2.2.1.2.2.2.2.2.2.2.2.2.2.1 d.2.2.2.2.1 d.2.2.2.2.2.1 d.2.2.2.2.2.2.1.1 d.2.2.2.2.2.2.1.2.1 d.2.2.2.2.2.2.1.2.2.1 d.2.2.2.2.2.2.1.2.2.2.1 d.2.2.2.2.2.2.2.1.1 d.2.2.2.2.2.2.2.1.2.1 d.2.2.2.2.2.2.2.1.2.2.1 d.2.2.2.2.2.2.2.1.2.2.2.1 d.2.2.2.2.2.2.2.1.2.2.2.2.1 d.2.2.2.2.2.2.2.1.2.2.2.2.2.1 d.2.2.2.2.2.2.2.1.2.2.2.2.2.2.1 d.2.2.2.2.2.2.2.1.2.2.2.2.2.2.2.1 d.2.2.2.2.2.2.2.1.2.2.2.2.2.2.2.2.1 d.2.2.2.2.2.2.2.1.2.2.2.2.2.2.2.2.2.1 d.2.2.2.2.2.2.2.1.2.2.2.2.2.2.2.2.2.2.1 d.2.2.2.2.2.2.2.2.1.1 d.2.2.2.2.2.2.2.2.1.2.1 d.2.2.2.2.2.2.2.2.1.2.2.1 d.2.2.2.2.2.2.2.2.1.2.2.2.1 d.2.2.2.2.2.2.2.2.2.1 d.2.2.2.2.2.2.2.2.2.2.1
noncomputable def L9_31 (k : Nat) (g12 : Y2_0) (j : Nat) (l_2 : List Y2_5) (c6 : Int) (c7 : Int) (c8 : List (Int × Int)) (m22 : Int) (m23 : Int) (m24 : Int) (m25 : Int) (m26 : Int) (m27 : Int) (m28 : Int) (m29 : Int) (m30 : Int) (m31 : List Y2_6) (m32 : Bool) (all2 : Int) (piece2 : Int) (since8 : Int) (since9 : Int) (since10 : Int) (since11 : Int) (x11 : Int) (x12 : Int) (x13 : Int) (x14 : Int) (x15 : Int) (x16 : Int) (x17 : Int) (x18 : Int) (x19 : Int) (x20 : List Y2_6) (x21 : Bool) (i4 : Int) (i5 : Int) (i6 : Int) (i7 : Int) (fits : Bool) (k_ : Int) : Option Y2_8 := iter (R := (Bool × Unit) × Unit) c9_L31 (b9_31 k g12) j ((), l_2, (c6, c7, c8, ()), (m22, m23, m24, m25, m26, m27, m28, m29, m30, m31, m32, ()), all2, piece2, (since8, since9, since10, since11, ()), (x11, x12, x13, x14, x15, x16, x17, x18, x19, x20, x21, ()), (i4, i5, i6, i7, ()), fits, k_, ())
theorem L9_31_s (k : Nat) (g12 : Y2_0) (j : Nat) (l_2 : List Y2_5) (c6 : Int) (c7 : Int) (c8 : List (Int × Int)) (m22 : Int) (m23 : Int) (m24 : Int) (m25 : Int) (m26 : Int) (m27 : Int) (m28 : Int) (m29 : Int) (m30 : Int) (m31 : List Y2_6) (m32 : Bool) (all2 : Int) (piece2 : Int) (since8 : Int) (since9 : Int) (since10 : Int) (since11 : Int) (x11 : Int) (x12 : Int) (x13 : Int) (x14 : Int) (x15 : Int) (x16 : Int) (x17 : Int) (x18 : Int) (x19 : Int) (x20 : List Y2_6) (x21 : Bool) (i4 : Int) (i5 : Int) (i6 : Int) (i7 : Int) (fits : Bool) (k_ : Int) : L9_31 k g12 (j + 1) l_2 c6 c7 c8 m22 m23 m24 m25 m26 m27 m28 m29 m30 m31 m32 all2 piece2 since8 since9 since10 since11 x11 x12 x13 x14 x15 x16 x17 x18 x19 x20 x21 i4 i5 i6 i7 fits k_ = l9_31 k g12 (L9_31 k g12 j) l_2 c6 c7 c8 m22 m23 m24 m25 m26 m27 m28 m29 m30 m31 m32 all2 piece2 since8 since9 since10 since11 x11 x12 x13 x14 x15 x16 x17 x18 x19 x20 x21 i4 i5 i6 i7 fits k_ := iter_succ _ _ _ _
noncomputable abbrev c9_L18 : Cut := ⟨[5, 6, 8, 9, 10, 11, 12, 13, 15], [.own 41 (.pair (.int .i64) Y2_3), .box 50 [.cell (.int .i64), .cell (.int .i64), .own 54 (.pair (.int .i64) (.int .i64))], .box 38 [.cell (.int .i64), .cell (.int .i64), .cell (.int .i64), .cell (.int .i64), .cell (.int .i64), .cell (.int .i64), .cell (.int .i64), .cell (.int .i64), .cell (.int .i64), .own 82 Y2_3, .cell .bool], .cell (.int .i64), .cell (.int .i64), .box 55 [.cell (.int .i64), .cell (.int .i64), .cell (.int .i64), .cell (.int .i64)], .box 38 [.cell (.int .i64), .cell (.int .i64), .cell (.int .i64), .cell (.int .i64), .cell (.int .i64), .cell (.int .i64), .cell (.int .i64), .cell (.int .i64), .cell (.int .i64), .own 82 Y2_3, .cell .bool], .box 41 [.cell (.int .i64), .cell (.int .i64), .cell (.int .i64), .cell (.int .i64)], .cell (.int .i64)], [], 127⟩
noncomputable def l9_18 (k : Nat) (g12 : Y2_0) (g18 : (List Y2_5) → Int → Int → (List (Int × Int)) → Int → Int → Int → Int → Int → Int → Int → Int → Int → (List Y2_6) → Bool → Int → Int → Int → Int → Int → Int → Int → Int → Int → Int → Int → Int → Int → Int → Int → (List Y2_6) → Bool → Int → Int → Int → Int → Int → Option Y2_8) (l_1 : List Y2_5) (c3 : Int) (c4 : Int) (c5 : List (Int × Int)) (m11 : Int) (m12 : Int) (m13 : Int) (m14 : Int) (m15 : Int) (m16 : Int) (m17 : Int) (m18 : Int) (m19 : Int) (m20 : List Y2_6) (m21 : Bool) (all1 : Int) (piece1 : Int) (since4 : Int) (since5 : Int) (since6 : Int) (since7 : Int) (x : Int) (x1 : Int) (x2 : Int) (x3 : Int) (x4 : Int) (x5 : Int) (x6 : Int) (x7 : Int) (x8 : Int) (x9 : List Y2_6) (x10 : Bool) (i : Int) (i1 : Int) (i2 : Int) (i3 : Int) (s : Int) : Option Y2_8 :=
  (bif decide (s < 4) then
    ax 4 s <|
    (bif decide ((aget (α := Int) 4 (since4, since5, since6, since7) s 0) > 0) then
      ax 4 s <|
      ax 4 s <|
      g18 l_1 c3 c4 c5 m11 m12 m13 m14 m15 m16 m17 m18 m19 m20 m21 all1 piece1 (aset (α := Int) 4 (since4, since5, since6, since7) s (IntKind.i64.wrap ((aget (α := Int) 4 (since4, since5, since6, since7) s 0) + 1))).1 (aset (α := Int) 4 (since4, since5, since6, since7) s (IntKind.i64.wrap ((aget (α := Int) 4 (since4, since5, since6, since7) s 0) + 1))).2.1 (aset (α := Int) 4 (since4, since5, since6, since7) s (IntKind.i64.wrap ((aget (α := Int) 4 (since4, since5, since6, since7) s 0) + 1))).2.2.1 (aset (α := Int) 4 (since4, since5, since6, since7) s (IntKind.i64.wrap ((aget (α := Int) 4 (since4, since5, since6, since7) s 0) + 1))).2.2.2 x x1 x2 x3 x4 x5 x6 x7 x8 x9 x10 i i1 i2 i3 (IntKind.i64.wrap (s + 1))
    else
      g18 l_1 c3 c4 c5 m11 m12 m13 m14 m15 m16 m17 m18 m19 m20 m21 all1 piece1 since4 since5 since6 since7 x x1 x2 x3 x4 x5 x6 x7 x8 x9 x10 i i1 i2 i3 (IntKind.i64.wrap (s + 1)))
  else
    (bif i == 11 then
      g12 l_1 c3 c4 c5 x x1 x2 x3 x4 x5 x6 x7 x8 x9 x10 all1 0 since4 since5 since6 since7
    else
      (bif i == 0 then
        g12 l_1 c3 c4 c5 x x1 x2 x3 x4 x5 x6 x7 x8 x9 x10 all1 0 since4 since5 since6 since7
      else
        (bif i == 9 then
          ax 4 i1 <|
          g12 l_1 c3 c4 c5 x x1 x2 x3 x4 x5 x6 x7 x8 x9 x10 all1 piece1 (aset (α := Int) 4 (since4, since5, since6, since7) i1 1).1 (aset (α := Int) 4 (since4, since5, since6, since7) i1 1).2.1 (aset (α := Int) 4 (since4, since5, since6, since7) i1 1).2.2.1 (aset (α := Int) 4 (since4, since5, since6, since7) i1 1).2.2.2
        else
          (bif i == 10 then
            L9_31 k g12 k l_1 c3 c4 c5 m11 m12 m13 m14 m15 m16 m17 m18 m19 m20 m21 all1 piece1 since4 since5 since6 since7 x x1 x2 x3 x4 x5 x6 x7 x8 x9 x10 i i1 i2 i3 false 0
          else
            g12 l_1 c3 c4 c5 x x1 x2 x3 x4 x5 x6 x7 x8 x9 x10 all1 piece1 since4 since5 since6 since7)))))
noncomputable def b9_18 (k : Nat) (g12 : Y2_0) (g : ((Unit) × (List Y2_5) × Y2_9 × Y2_1 × Int × Int × Y2_4 × Y2_1 × Y2_4 × Int × Unit) → Option Y2_8) (d : (Unit) × (List Y2_5) × Y2_9 × Y2_1 × Int × Int × Y2_4 × Y2_1 × Y2_4 × Int × Unit) : Option Y2_8 := l9_18 k g12 (fun l_1 c3 c4 c5 m11 m12 m13 m14 m15 m16 m17 m18 m19 m20 m21 all1 piece1 since4 since5 since6 since7 x x1 x2 x3 x4 x5 x6 x7 x8 x9 x10 i i1 i2 i3 s => g ((), l_1, (c3, c4, c5, ()), (m11, m12, m13, m14, m15, m16, m17, m18, m19, m20, m21, ()), all1, piece1, (since4, since5, since6, since7, ()), (x, x1, x2, x3, x4, x5, x6, x7, x8, x9, x10, ()), (i, i1, i2, i3, ()), s, ())) d.2.1 d.2.2.1.1 d.2.2.1.2.1 d.2.2.1.2.2.1 d.2.2.2.1.1 d.2.2.2.1.2.1 d.2.2.2.1.2.2.1 d.2.2.2.1.2.2.2.1 d.2.2.2.1.2.2.2.2.1 d.2.2.2.1.2.2.2.2.2.1 d.2.2.2.1.2.2.2.2.2.2.1 d.2.2.2.1.2.2.2.2.2.2.2.1 d.2.2.2.1.2.2.2.2.2.2.2.2.1 d.2.2.2.1.2.2.2.2.2.2.2.2.2.1 d.2.2.2.1.2.2.2.2.2.2.2.2.2.2.1 d.2.2.2.2.1 d.2.2.2.2.2.1 d.2.2.2.2.2.2.1.1 d.2.2.2.2.2.2.1.2.1 d.2.2.2.2.2.2.1.2.2.1 d.2.2.2.2.2.2.1.2.2.2.1 d.2.2.2.2.2.2.2.1.1 d.2.2.2.2.2.2.2.1.2.1 d.2.2.2.2.2.2.2.1.2.2.1 d.2.2.2.2.2.2.2.1.2.2.2.1 d.2.2.2.2.2.2.2.1.2.2.2.2.1 d.2.2.2.2.2.2.2.1.2.2.2.2.2.1 d.2.2.2.2.2.2.2.1.2.2.2.2.2.2.1 d.2.2.2.2.2.2.2.1.2.2.2.2.2.2.2.1 d.2.2.2.2.2.2.2.1.2.2.2.2.2.2.2.2.1 d.2.2.2.2.2.2.2.1.2.2.2.2.2.2.2.2.2.1 d.2.2.2.2.2.2.2.1.2.2.2.2.2.2.2.2.2.2.1 d.2.2.2.2.2.2.2.2.1.1 d.2.2.2.2.2.2.2.2.1.2.1 d.2.2.2.2.2.2.2.2.1.2.2.1 d.2.2.2.2.2.2.2.2.1.2.2.2.1 d.2.2.2.2.2.2.2.2.2.1
noncomputable def L9_18 (k : Nat) (g12 : Y2_0) (j : Nat) (l_1 : List Y2_5) (c3 : Int) (c4 : Int) (c5 : List (Int × Int)) (m11 : Int) (m12 : Int) (m13 : Int) (m14 : Int) (m15 : Int) (m16 : Int) (m17 : Int) (m18 : Int) (m19 : Int) (m20 : List Y2_6) (m21 : Bool) (all1 : Int) (piece1 : Int) (since4 : Int) (since5 : Int) (since6 : Int) (since7 : Int) (x : Int) (x1 : Int) (x2 : Int) (x3 : Int) (x4 : Int) (x5 : Int) (x6 : Int) (x7 : Int) (x8 : Int) (x9 : List Y2_6) (x10 : Bool) (i : Int) (i1 : Int) (i2 : Int) (i3 : Int) (s : Int) : Option Y2_8 := iter (R := (Bool × Unit) × Unit) c9_L18 (b9_18 k g12) j ((), l_1, (c3, c4, c5, ()), (m11, m12, m13, m14, m15, m16, m17, m18, m19, m20, m21, ()), all1, piece1, (since4, since5, since6, since7, ()), (x, x1, x2, x3, x4, x5, x6, x7, x8, x9, x10, ()), (i, i1, i2, i3, ()), s, ())
theorem L9_18_s (k : Nat) (g12 : Y2_0) (j : Nat) (l_1 : List Y2_5) (c3 : Int) (c4 : Int) (c5 : List (Int × Int)) (m11 : Int) (m12 : Int) (m13 : Int) (m14 : Int) (m15 : Int) (m16 : Int) (m17 : Int) (m18 : Int) (m19 : Int) (m20 : List Y2_6) (m21 : Bool) (all1 : Int) (piece1 : Int) (since4 : Int) (since5 : Int) (since6 : Int) (since7 : Int) (x : Int) (x1 : Int) (x2 : Int) (x3 : Int) (x4 : Int) (x5 : Int) (x6 : Int) (x7 : Int) (x8 : Int) (x9 : List Y2_6) (x10 : Bool) (i : Int) (i1 : Int) (i2 : Int) (i3 : Int) (s : Int) : L9_18 k g12 (j + 1) l_1 c3 c4 c5 m11 m12 m13 m14 m15 m16 m17 m18 m19 m20 m21 all1 piece1 since4 since5 since6 since7 x x1 x2 x3 x4 x5 x6 x7 x8 x9 x10 i i1 i2 i3 s = l9_18 k g12 (L9_18 k g12 j) l_1 c3 c4 c5 m11 m12 m13 m14 m15 m16 m17 m18 m19 m20 m21 all1 piece1 since4 since5 since6 since7 x x1 x2 x3 x4 x5 x6 x7 x8 x9 x10 i i1 i2 i3 s := iter_succ _ _ _ _
noncomputable abbrev c9_L12 : Cut := ⟨[5, 6, 8, 9, 10, 11], [.own 41 (.pair (.int .i64) Y2_3), .box 50 [.cell (.int .i64), .cell (.int .i64), .own 54 (.pair (.int .i64) (.int .i64))], .box 38 [.cell (.int .i64), .cell (.int .i64), .cell (.int .i64), .cell (.int .i64), .cell (.int .i64), .cell (.int .i64), .cell (.int .i64), .cell (.int .i64), .cell (.int .i64), .own 82 Y2_3, .cell .bool], .cell (.int .i64), .cell (.int .i64), .box 55 [.cell (.int .i64), .cell (.int .i64), .cell (.int .i64), .cell (.int .i64)]], [], 127⟩
noncomputable def l9_12 (k : Nat) (g12 : Y2_0) (l_ : List Y2_5) (c : Int) (c1 : Int) (c2 : List (Int × Int)) (m : Int) (m1 : Int) (m2 : Int) (m3 : Int) (m4 : Int) (m5 : Int) (m6 : Int) (m7 : Int) (m8 : Int) (m9 : List Y2_6) (m10 : Bool) (all : Int) (piece : Int) (since : Int) (since1 : Int) (since2 : Int) (since3 : Int) : Option Y2_8 :=
  (bif !m10 then
    (S22 k l_ (m, (m1, m2, m3, m4, m5, m6, m7, m8), m9, m10)).bind fun q5 =>
    (bif !q5.1.2.2.1 then
      some ((false, ()), ())
    else
      (bif decide ((IntKind.i64.wrap (all + 1)) > c) then
        some ((false, ()), ())
      else
        (bif decide ((IntKind.i64.wrap (piece + 1)) > c1) then
          some ((false, ()), ())
        else
          L9_18 k g12 k l_ c c1 c2 m m1 m2 m3 m4 m5 m6 m7 m8 m9 m10 (IntKind.i64.wrap (all + 1)) (IntKind.i64.wrap (piece + 1)) since since1 since2 since3 q5.1.1.1 q5.1.1.2.1.1 q5.1.1.2.1.2.1 q5.1.1.2.1.2.2.1 q5.1.1.2.1.2.2.2.1 q5.1.1.2.1.2.2.2.2.1 q5.1.1.2.1.2.2.2.2.2.1 q5.1.1.2.1.2.2.2.2.2.2.1 q5.1.1.2.1.2.2.2.2.2.2.2 q5.1.1.2.2.1 q5.1.1.2.2.2 q5.1.2.1.1 q5.1.2.1.2.1 q5.1.2.1.2.2.1 q5.1.2.1.2.2.2 0)))
  else
    some ((true, ()), ()))
noncomputable def b9_12 (k : Nat) (g : ((Unit) × (List Y2_5) × Y2_9 × Y2_1 × Int × Int × Y2_4 × Unit) → Option Y2_8) (d : (Unit) × (List Y2_5) × Y2_9 × Y2_1 × Int × Int × Y2_4 × Unit) : Option Y2_8 := l9_12 k (fun l_ c c1 c2 m m1 m2 m3 m4 m5 m6 m7 m8 m9 m10 all piece since since1 since2 since3 => g ((), l_, (c, c1, c2, ()), (m, m1, m2, m3, m4, m5, m6, m7, m8, m9, m10, ()), all, piece, (since, since1, since2, since3, ()), ())) d.2.1 d.2.2.1.1 d.2.2.1.2.1 d.2.2.1.2.2.1 d.2.2.2.1.1 d.2.2.2.1.2.1 d.2.2.2.1.2.2.1 d.2.2.2.1.2.2.2.1 d.2.2.2.1.2.2.2.2.1 d.2.2.2.1.2.2.2.2.2.1 d.2.2.2.1.2.2.2.2.2.2.1 d.2.2.2.1.2.2.2.2.2.2.2.1 d.2.2.2.1.2.2.2.2.2.2.2.2.1 d.2.2.2.1.2.2.2.2.2.2.2.2.2.1 d.2.2.2.1.2.2.2.2.2.2.2.2.2.2.1 d.2.2.2.2.1 d.2.2.2.2.2.1 d.2.2.2.2.2.2.1.1 d.2.2.2.2.2.2.1.2.1 d.2.2.2.2.2.2.1.2.2.1 d.2.2.2.2.2.2.1.2.2.2.1
noncomputable def L9_12 (k : Nat) (j : Nat) (l_ : List Y2_5) (c : Int) (c1 : Int) (c2 : List (Int × Int)) (m : Int) (m1 : Int) (m2 : Int) (m3 : Int) (m4 : Int) (m5 : Int) (m6 : Int) (m7 : Int) (m8 : Int) (m9 : List Y2_6) (m10 : Bool) (all : Int) (piece : Int) (since : Int) (since1 : Int) (since2 : Int) (since3 : Int) : Option Y2_8 := iter (R := (Bool × Unit) × Unit) c9_L12 (b9_12 k) j ((), l_, (c, c1, c2, ()), (m, m1, m2, m3, m4, m5, m6, m7, m8, m9, m10, ()), all, piece, (since, since1, since2, since3, ()), ())
theorem L9_12_s (k : Nat) (j : Nat) (l_ : List Y2_5) (c : Int) (c1 : Int) (c2 : List (Int × Int)) (m : Int) (m1 : Int) (m2 : Int) (m3 : Int) (m4 : Int) (m5 : Int) (m6 : Int) (m7 : Int) (m8 : Int) (m9 : List Y2_6) (m10 : Bool) (all : Int) (piece : Int) (since : Int) (since1 : Int) (since2 : Int) (since3 : Int) : L9_12 k (j + 1) l_ c c1 c2 m m1 m2 m3 m4 m5 m6 m7 m8 m9 m10 all piece since since1 since2 since3 = l9_12 k (L9_12 k j) l_ c c1 c2 m m1 m2 m3 m4 m5 m6 m7 m8 m9 m10 all piece since since1 since2 since3 := iter_succ _ _ _ _
noncomputable def S9 (k : Nat) (picks : List Int) (in_ : Int) : Option Y2_8 :=
  (S25 k).bind fun q0 =>
  (bif !q0.1.1 then
    some ((false, ()), ())
  else
    (bif decide ((picks.length : Int) > 80) then
      some ((true, ()), ())
    else
      (S14 k picks).bind fun q1 =>
      (S15 k q1.1.1.1 q1.1.1.2.1 3).bind fun q2 =>
      (S26 k q2.1.1).bind fun q3 =>
      (bif !q3.1.2.1 then
        some ((false, ()), ())
      else
        (S21 k in_).bind fun q4 =>
        L9_12 k k q2.1.1 q3.1.1.1 q3.1.1.2.1 q3.1.1.2.2 q4.1.1.1 q4.1.1.2.1.1 q4.1.1.2.1.2.1 q4.1.1.2.1.2.2.1 q4.1.1.2.1.2.2.2.1 q4.1.1.2.1.2.2.2.2.1 q4.1.1.2.1.2.2.2.2.2.1 q4.1.1.2.1.2.2.2.2.2.2.1 q4.1.1.2.1.2.2.2.2.2.2.2 q4.1.1.2.2.1 q4.1.1.2.2.2 0 0 0 0 0 0)))
noncomputable def E9 : Env := tab.env (lk [(14, F14), (15, F15), (21, F21), (22, F22), (25, F25), (26, F26)]) (hintL [])
theorem E9_ok : EnvOK Try.prog E9 := envOK_of tabOK _ _ (allFn_lk (l := [(14, F14), (15, F15), (21, F21), (22, F22), (25, F25), (26, F26)]) ⟨ok14, ok15, ok21, ok22, ok25, ok26, trivial⟩)
noncomputable def B9 (k : Nat) : Tbl (RD R9 × MD P9) := (.loop 12 c9_L12 (b9_12 k) (fun g => (fun (g12 : Y2_0) => (.loop 31 c9_L31 (b9_31 k g12) (fun g => .nil) (.loop 18 c9_L18 (b9_18 k g12) (fun g => .nil) .nil))) (fun l_ c c1 c2 m m1 m2 m3 m4 m5 m6 m7 m8 m9 m10 all piece since since1 since2 since3 => g ((), l_, (c, c1, c2, ()), (m, m1, m2, m3, m4, m5, m6, m7, m8, m9, m10, ()), all, piece, (since, since1, since2, since3, ()), ()))) .nil)
noncomputable def F9 : Fn := ⟨P9, R9, fun k x => S9 k x.1 x.2.1⟩
theorem ok9 : FnOK Try.prog 9 F9 := evalF_ok (E := E9) (T := B9) E9_ok mix Try.func9 rfl (by kernel_rfl) (by kernel_rfl) (fun k => by kernel_rfl) (fun k x => by kernel_rfl)
end Go.Proofs.Ytjnnjciedbgmiaa.Ab
