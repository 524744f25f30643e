import Derived.Test.YtnlfdfjkgaanjaaAbU1
/- Contracts, printed by this session's own program gen.py. -/
set_option linter.unusedVariables false
set_option linter.unusedSimpArgs false
set_option maxRecDepth 100000
namespace Go.Proofs.Ytnlfdfjkgaanjaa.Ab
open Go.RowKit Go.Proofs.YtnlfdfjkgaanjaaW.PrintWords
abbrev Y2_0 : Type := Int × (Int × Int) × (Int × Int) × ((List Int) × List Int) × (Int × List (Int × Int)) × Int
abbrev Y2_1 : Ty := .pair (.int .i64) (.pair (.pair (.int .i64) (.int .i64)) (.pair (.pair (.int .i64) (.int .i64)) (.pair (.pair (.sl 2 (.int .i64)) (.sl 3 (.int .i64))) (.pair (.pair (.int .u32) (.sl 163 (.pair (.int .i64) (.int .u32)))) (.int .u32)))))
abbrev Y2_2 : Type := (List Int) × (List Bool) × (List Y2_0) × Unit
abbrev Y2_3 : Type := (Bool × Unit) × Unit
abbrev Y2_4 : Type := Int → (List Int) → (List Bool) → (List Y2_0) → (List Int) → (List Bool) → (List Y2_0) → (List Int) → (List (List Int)) → (List Int) → (List Bool) → (List Y2_0) → Int → Int → Option Y2_3
abbrev Y2_5 : Type := Int → Int → (List Int) → (List Bool) → (List Y2_0) → (List Int) → (List Bool) → (List Y2_0) → Int → Option Y2_3
abbrev Y2_6 : Ty := .sl 3 (.int .i64)
noncomputable abbrev P10 : List PT := [.val ⟨false, (.sl 5 (.int .u8)), false⟩, .val ⟨false, (.int .u16), false⟩, .val ⟨false, (.int .u16), false⟩]
noncomputable abbrev R10 : List RT := [.val ⟨false, .bool, true⟩]
noncomputable abbrev c10_J21 : Cut := ⟨[1, 2, 7, 13, 14], [.cell (.int .u16), .cell (.int .u16), .box 50 [.cell Y2_6, .cell (.sl 4 .bool), .cell (.sl 65 Y2_1)], .box 82 [.cell Y2_6, .cell (.sl 4 .bool), .cell (.sl 87 Y2_1)], .cell (.int .i64)], [], 281⟩
noncomputable def j10_21 (k : Nat) (g17 : Y2_5) (turned4 : Int) (put4 : Int) (t9 : List Int) (t10 : List Bool) (t11 : List Y2_0) (was3 : List Int) (was4 : List Bool) (was5 : List Y2_0) (i3 : Int) : Option Y2_3 :=
 nneg i3 <|
 (bif (iand .u16 (ishr .u16 put4 i3) 1) == 1 then
  (S26 k ((t9, t10), t11) i3 (0, (0, 0), (3, 2), (([i3] : List Int), ([IntKind.i64.wrap (i3 + 1)] : List Int)), (5, []), 0)).bind fun q6 =>
  g17 turned4 put4 q6.1.1.1.1 q6.1.1.1.2 q6.1.1.2 was3 was4 was5 (IntKind.i64.wrap (i3 + 1))
 else
  g17 turned4 put4 t9 t10 t11 was3 was4 was5 (IntKind.i64.wrap (i3 + 1)))
noncomputable abbrev c10_J32 : Cut := ⟨[1, 13, 15, 16, 17, 18, 19, 20, 21], [.cell (.int .u16), .box 82 [.cell Y2_6, .cell (.sl 4 .bool), .cell (.sl 87 Y2_1)], .box 50 [.cell Y2_6, .cell (.sl 4 .bool), .cell (.sl 65 Y2_1)], .own 3 (.int .i64), .own 44 Y2_6, .box 82 [.cell Y2_6, .cell (.sl 4 .bool), .cell (.sl 87 Y2_1)], .cell (.int .i64), .cell (.int .i64), .cell .bool], [], 281⟩
noncomputable def j10_32 (k : Nat) (g29 : Y2_4) (turned6 : Int) (was9 : List Int) (was10 : List Bool) (was11 : List Y2_0) (u3 : List Int) (u4 : List Bool) (u5 : List Y2_0) (places1 : List Int) (who1 : List (List Int)) (now3 : List Int) (now4 : List Bool) (now5 : List Y2_0) (n1 : Int) (i5 : Int) (is_ : Bool) : Option Y2_3 :=
 (bif !is_ then
  ix now5 i5 <|
  ix was11 i5 <|
  (S29 k (rd now5 i5 (0, (0, 0), (0, 0), ([], []), (0, []), 0)) (rd was11 i5 (0, (0, 0), (0, 0), ([], []), (0, []), 0))).bind fun q9 =>
  (bif !q9.1.1 then
   some ((false, ()), ())
  else
   g29 turned6 was9 was10 was11 u3 u4 u5 places1 who1 now3 now4 now5 n1 (IntKind.i64.wrap (i5 + 1)))
 else
  (bif decide (n1 ≥ (places1.length : Int)) then
   some ((false, ()), ())
  else
   ix places1 n1 <|
   (bif (rd places1 n1 0) != i5 then
    some ((false, ()), ())
   else
    ix who1 n1 <|
    (bif ((rd who1 n1 []).length : Int) != 1 then
     some ((false, ()), ())
    else
     ix who1 n1 <|
     ix (rd who1 n1 []) 0 <|
     (bif (rd (rd who1 n1 []) 0 0) != (IntKind.i64.wrap (i5 + 1)) then
      some ((false, ()), ())
     else
      ix now5 i5 <|
      (bif (rd now5 i5 (0, (0, 0), (0, 0), ([], []), (0, []), 0)).2.2.1.2 != 0 then
       some ((false, ()), ())
      else
       ix now5 i5 <|
       ix was11 i5 <|
       (bif !(((rd now5 i5 (0, (0, 0), (0, 0), ([], []), (0, []), 0)).2.2.1.1 == 3) == ((rd was11 i5 (0, (0, 0), (0, 0), ([], []), (0, []), 0)).1 == 1)) then
        some ((false, ()), ())
       else
        ix now5 i5 <|
        (bif (rd now5 i5 (0, (0, 0), (0, 0), ([], []), (0, []), 0)).2.2.2.2.1.1 != 0 then
         some ((false, ()), ())
        else
         ix now5 i5 <|
         (bif ((rd now5 i5 (0, (0, 0), (0, 0), ([], []), (0, []), 0)).2.2.2.1.1.length : Int) != 0 then
          some ((false, ()), ())
         else
          ix now5 i5 <|
          ix was11 i5 <|
          (bif !(beqD (.pair (.int .i64) (.int .i64)) (rd now5 i5 (0, (0, 0), (0, 0), ([], []), (0, []), 0)).2.1 (rd was11 i5 (0, (0, 0), (0, 0), ([], []), (0, []), 0)).2.1) then
           some ((false, ()), ())
          else
           g29 turned6 was9 was10 was11 u3 u4 u5 places1 who1 now3 now4 now5 (IntKind.i64.wrap (n1 + 1)) (IntKind.i64.wrap (i5 + 1))))))))))))
noncomputable abbrev c10_J38 : Cut := ⟨[15, 16, 19], [.box 50 [.cell Y2_6, .cell (.sl 4 .bool), .cell (.sl 65 Y2_1)], .own 3 (.int .i64), .cell (.int .i64)], [], 281⟩
noncomputable def j10_38 (k : Nat) (u6 : List Int) (u7 : List Bool) (u8 : List Y2_0) (places2 : List Int) (n2 : Int) : Option Y2_3 :=
 (S28 k ((u6, u7), u8)).bind fun q10 =>
 (bif n2 == (places2.length : Int) then
  some (((q10.1.2.1.length : Int) == 0, ()), ())
 else
  some ((false, ()), ()))
noncomputable abbrev c10_L29 : Cut := ⟨[1, 13, 15, 16, 17, 18, 19, 20], [.cell (.int .u16), .box 82 [.cell Y2_6, .cell (.sl 4 .bool), .cell (.sl 87 Y2_1)], .box 50 [.cell Y2_6, .cell (.sl 4 .bool), .cell (.sl 65 Y2_1)], .own 3 (.int .i64), .own 44 Y2_6, .box 82 [.cell Y2_6, .cell (.sl 4 .bool), .cell (.sl 87 Y2_1)], .cell (.int .i64), .cell (.int .i64)], [], 281⟩
noncomputable def l10_29 (k : Nat) (g29 : Y2_4) (turned5 : Int) (was6 : List Int) (was7 : List Bool) (was8 : List Y2_0) (u : List Int) (u1 : List Bool) (u2 : List Y2_0) (places : List Int) (who : List (List Int)) (now : List Int) (now1 : List Bool) (now2 : List Y2_0) (n : Int) (i4 : Int) : Option Y2_3 :=
 (bif decide (i4 < (was8.length : Int)) then
  (bif decide (i4 < 12) then
   nneg i4 <|
   (bif (iand .u16 (ishr .u16 turned5 i4) 1) == 1 then
    ix was8 i4 <|
    j10_32 k g29 turned5 was6 was7 was8 u u1 u2 places who now now1 now2 n i4 ((rd was8 i4 (0, (0, 0), (0, 0), ([], []), (0, []), 0)).1 != 0)
   else
    j10_32 k g29 turned5 was6 was7 was8 u u1 u2 places who now now1 now2 n i4 false)
  else
   j10_38 k u u1 u2 places n)
 else
  j10_38 k u u1 u2 places n)
noncomputable def b10_29 (k : Nat) (g : ((Unit) × Int × Y2_2 × Y2_2 × (List Int) × (List (List Int)) × Y2_2 × Int × Int × Unit) → Option Y2_3) (d : (Unit) × Int × Y2_2 × Y2_2 × (List Int) × (List (List Int)) × Y2_2 × Int × Int × Unit) : Option Y2_3 := l10_29 k (fun turned5 was6 was7 was8 u u1 u2 places who now now1 now2 n i4 => g ((), turned5, (was6, was7, was8, ()), (u, u1, u2, ()), places, who, (now, now1, now2, ()), n, i4, ())) d.2.1 d.2.2.1.1 d.2.2.1.2.1 d.2.2.1.2.2.1 d.2.2.2.1.1 d.2.2.2.1.2.1 d.2.2.2.1.2.2.1 d.2.2.2.2.1 d.2.2.2.2.2.1 d.2.2.2.2.2.2.1.1 d.2.2.2.2.2.2.1.2.1 d.2.2.2.2.2.2.1.2.2.1 d.2.2.2.2.2.2.2.1 d.2.2.2.2.2.2.2.2.1
noncomputable def L10_29 (k : Nat) (j : Nat) (turned5 : Int) (was6 : List Int) (was7 : List Bool) (was8 : List Y2_0) (u : List Int) (u1 : List Bool) (u2 : List Y2_0) (places : List Int) (who : List (List Int)) (now : List Int) (now1 : List Bool) (now2 : List Y2_0) (n : Int) (i4 : Int) : Option Y2_3 := iter (R := (Bool × Unit) × Unit) c10_L29 (b10_29 k) j ((), turned5, (was6, was7, was8, ()), (u, u1, u2, ()), places, who, (now, now1, now2, ()), n, i4, ())
theorem L10_29_s (k : Nat) (j : Nat) (turned5 : Int) (was6 : List Int) (was7 : List Bool) (was8 : List Y2_0) (u : List Int) (u1 : List Bool) (u2 : List Y2_0) (places : List Int) (who : List (List Int)) (now : List Int) (now1 : List Bool) (now2 : List Y2_0) (n : Int) (i4 : Int) : L10_29 k (j + 1) turned5 was6 was7 was8 u u1 u2 places who now now1 now2 n i4 = l10_29 k (L10_29 k j) turned5 was6 was7 was8 u u1 u2 places who now now1 now2 n i4 := iter_succ _ _ _ _
noncomputable abbrev c10_L17 : Cut := ⟨[1, 2, 7, 13, 14], [.cell (.int .u16), .cell (.int .u16), .box 50 [.cell Y2_6, .cell (.sl 4 .bool), .cell (.sl 65 Y2_1)], .box 82 [.cell Y2_6, .cell (.sl 4 .bool), .cell (.sl 87 Y2_1)], .cell (.int .i64)], [], 281⟩
noncomputable def l10_17 (k : Nat) (g17 : Y2_5) (turned3 : Int) (put3 : Int) (t6 : List Int) (t7 : List Bool) (t8 : List Y2_0) (was : List Int) (was1 : List Bool) (was2 : List Y2_0) (i2 : Int) : Option Y2_3 :=
 (bif decide (i2 < 12) then
  nneg i2 <|
  (bif (iand .u16 (ishr .u16 turned3 i2) 1) == 1 then
   (S24 k ((t6, t7), t8) i2).bind fun q5 =>
   j10_21 k g17 turned3 put3 q5.1.1.1.1 q5.1.1.1.2 q5.1.1.2 was was1 was2 i2
  else
   j10_21 k g17 turned3 put3 t6 t7 t8 was was1 was2 i2)
 else
  (S28 k ((t6, t7), t8)).bind fun q7 =>
  (S27 k q7.1.1).bind fun q8 =>
  (bif (q8.1.1.2.length : Int) != (was2.length : Int) then
   some ((false, ()), ())
  else
   (bif (q7.1.2.1.length : Int) != (q7.1.2.2.1.length : Int) then
    some ((false, ()), ())
   else
    L10_29 k k turned3 was was1 was2 q7.1.1.1.1 q7.1.1.1.2 q7.1.1.2 q7.1.2.1 q7.1.2.2.1 q8.1.1.1.1 q8.1.1.1.2 q8.1.1.2 0 0)))
noncomputable def b10_17 (k : Nat) (g : ((Unit) × Int × Int × Y2_2 × Y2_2 × Int × Unit) → Option Y2_3) (d : (Unit) × Int × Int × Y2_2 × Y2_2 × Int × Unit) : Option Y2_3 := l10_17 k (fun turned3 put3 t6 t7 t8 was was1 was2 i2 => g ((), turned3, put3, (t6, t7, t8, ()), (was, was1, was2, ()), i2, ())) d.2.1 d.2.2.1 d.2.2.2.1.1 d.2.2.2.1.2.1 d.2.2.2.1.2.2.1 d.2.2.2.2.1.1 d.2.2.2.2.1.2.1 d.2.2.2.2.1.2.2.1 d.2.2.2.2.2.1
noncomputable def L10_17 (k : Nat) (j : Nat) (turned3 : Int) (put3 : Int) (t6 : List Int) (t7 : List Bool) (t8 : List Y2_0) (was : List Int) (was1 : List Bool) (was2 : List Y2_0) (i2 : Int) : Option Y2_3 := iter (R := (Bool × Unit) × Unit) c10_L17 (b10_17 k) j ((), turned3, put3, (t6, t7, t8, ()), (was, was1, was2, ()), i2, ())
theorem L10_17_s (k : Nat) (j : Nat) (turned3 : Int) (put3 : Int) (t6 : List Int) (t7 : List Bool) (t8 : List Y2_0) (was : List Int) (was1 : List Bool) (was2 : List Y2_0) (i2 : Int) : L10_17 k (j + 1) turned3 put3 t6 t7 t8 was was1 was2 i2 = l10_17 k (L10_17 k j) turned3 put3 t6 t7 t8 was was1 was2 i2 := iter_succ _ _ _ _
noncomputable abbrev c10_L12 : Cut := ⟨[1, 2, 7, 12], [.cell (.int .u16), .cell (.int .u16), .box 50 [.own 3 (.int .i64), .own 4 .bool, .own 65 Y2_1], .cell (.int .i64)], [], 281⟩
noncomputable def l10_12 (k : Nat) (g12 : Int → Int → (List Int) → (List Bool) → (List Y2_0) → Int → Option Y2_3) (turned2 : Int) (put2 : Int) (t3 : List Int) (t4 : List Bool) (t5 : List Y2_0) (i1 : Int) : Option Y2_3 :=
 (bif decide (i1 < (t5.length : Int)) then
  (bif decide (i1 < 12) then
   (S26 k ((t3, t4), t5) i1 (0, (0, 0), (3, 2), (([i1] : List Int), ([IntKind.i64.wrap (i1 + 1)] : List Int)), (5, []), 0)).bind fun q3 =>
   g12 turned2 put2 q3.1.1.1.1 q3.1.1.1.2 q3.1.1.2 (IntKind.i64.wrap (i1 + 1))
  else
   (S27 k ((t3, t4), t5)).bind fun q4 =>
   L10_17 k k turned2 put2 t3 t4 t5 q4.1.1.1.1 q4.1.1.1.2 q4.1.1.2 0)
 else
  (S27 k ((t3, t4), t5)).bind fun q11 =>
  L10_17 k k turned2 put2 t3 t4 t5 q11.1.1.1.1 q11.1.1.1.2 q11.1.1.2 0)
noncomputable def b10_12 (k : Nat) (g : ((Unit) × Int × Int × Y2_2 × Int × Unit) → Option Y2_3) (d : (Unit) × Int × Int × Y2_2 × Int × Unit) : Option Y2_3 := l10_12 k (fun turned2 put2 t3 t4 t5 i1 => g ((), turned2, put2, (t3, t4, t5, ()), i1, ())) d.2.1 d.2.2.1 d.2.2.2.1.1 d.2.2.2.1.2.1 d.2.2.2.1.2.2.1 d.2.2.2.2.1
noncomputable def L10_12 (k : Nat) (j : Nat) (turned2 : Int) (put2 : Int) (t3 : List Int) (t4 : List Bool) (t5 : List Y2_0) (i1 : Int) : Option Y2_3 := iter (R := (Bool × Unit) × Unit) c10_L12 (b10_12 k) j ((), turned2, put2, (t3, t4, t5, ()), i1, ())
theorem L10_12_s (k : Nat) (j : Nat) (turned2 : Int) (put2 : Int) (t3 : List Int) (t4 : List Bool) (t5 : List Y2_0) (i1 : Int) : L10_12 k (j + 1) turned2 put2 t3 t4 t5 i1 = l10_12 k (L10_12 k j) turned2 put2 t3 t4 t5 i1 := iter_succ _ _ _ _
noncomputable abbrev c10_L7 : Cut := ⟨[0, 1, 2, 7, 8], [.cell (.sl 5 (.int .u8)), .cell (.int .u16), .cell (.int .u16), .box 50 [.own 3 (.int .i64), .own 4 .bool, .own 65 Y2_1], .cell (.int .i64)], [], 281⟩
noncomputable def l10_7 (k : Nat) (g7 : (List Int) → Int → Int → (List Int) → (List Bool) → (List Y2_0) → Int → Option Y2_3) (kinds1 : List Int) (turned1 : Int) (put1 : Int) (t : List Int) (t1 : List Bool) (t2 : List Y2_0) (i : Int) : Option Y2_3 :=
 (bif decide (i < (kinds1.length : Int)) then
  ix kinds1 i <|
  (S21 k ((t, t1), t2) (IntKind.i64.wrap (1 + (IntKind.i64.wrap (Int.tmod (rd kinds1 i 0) 3))))).bind fun q2 =>
  g7 kinds1 turned1 put1 q2.1.1.1.1 q2.1.1.1.2 q2.1.1.2 (IntKind.i64.wrap (i + 1))
 else
  L10_12 k k turned1 put1 t t1 t2 0)
noncomputable def b10_7 (k : Nat) (g : ((Unit) × (List Int) × Int × Int × Y2_2 × Int × Unit) → Option Y2_3) (d : (Unit) × (List Int) × Int × Int × Y2_2 × Int × Unit) : Option Y2_3 := l10_7 k (fun kinds1 turned1 put1 t t1 t2 i => g ((), kinds1, turned1, put1, (t, t1, t2, ()), i, ())) d.2.1 d.2.2.1 d.2.2.2.1 d.2.2.2.2.1.1 d.2.2.2.2.1.2.1 d.2.2.2.2.1.2.2.1 d.2.2.2.2.2.1
noncomputable def L10_7 (k : Nat) (j : Nat) (kinds1 : List Int) (turned1 : Int) (put1 : Int) (t : List Int) (t1 : List Bool) (t2 : List Y2_0) (i : Int) : Option Y2_3 := iter (R := (Bool × Unit) × Unit) c10_L7 (b10_7 k) j ((), kinds1, turned1, put1, (t, t1, t2, ()), i, ())
theorem L10_7_s (k : Nat) (j : Nat) (kinds1 : List Int) (turned1 : Int) (put1 : Int) (t : List Int) (t1 : List Bool) (t2 : List Y2_0) (i : Int) : L10_7 k (j + 1) kinds1 turned1 put1 t t1 t2 i = l10_7 k (L10_7 k j) kinds1 turned1 put1 t t1 t2 i := iter_succ _ _ _ _
noncomputable def S10 (k : Nat) (kinds : List Int) (turned : Int) (put : Int) : Option Y2_3 :=
 (S19 k).bind fun q0 =>
 (bif !q0.1.1 then
  some ((false, ()), ())
 else
  (bif decide ((kinds.length : Int) > 12) then
   some ((true, ()), ())
  else
   (S20 k).bind fun q1 =>
   L10_7 k k kinds turned put q1.1.1.1.1 q1.1.1.1.2 q1.1.1.2 0))
noncomputable def E10 : Env := tab.env (lk [(19, F19), (20, F20), (21, F21), (24, F24), (26, F26), (27, F27), (28, F28), (29, F29)]) (hintL [])
theorem E10_ok : EnvOK Try.prog E10 := envOK_of tabOK _ _ (allFn_lk (l := [(19, F19), (20, F20), (21, F21), (24, F24), (26, F26), (27, F27), (28, F28), (29, F29)]) ⟨ok19, ok20, ok21, ok24, ok26, ok27, ok28, ok29, trivial⟩)
noncomputable def B10 (k : Nat) : Tbl (RD R10 × MD P10) := (.loop 29 c10_L29 (b10_29 k) (fun g => (fun (g29 : Y2_4) => (.join 32 c10_J32 (fun d => j10_32 k g29 d.2.1 d.2.2.1.1 d.2.2.1.2.1 d.2.2.1.2.2.1 d.2.2.2.1.1 d.2.2.2.1.2.1 d.2.2.2.1.2.2.1 d.2.2.2.2.1 d.2.2.2.2.2.1 d.2.2.2.2.2.2.1.1 d.2.2.2.2.2.2.1.2.1 d.2.2.2.2.2.2.1.2.2.1 d.2.2.2.2.2.2.2.1 d.2.2.2.2.2.2.2.2.1 d.2.2.2.2.2.2.2.2.2.1) .nil)) (fun turned5 was6 was7 was8 u u1 u2 places who now now1 now2 n i4 => g ((), turned5, (was6, was7, was8, ()), (u, u1, u2, ()), places, who, (now, now1, now2, ()), n, i4, ()))) (.join 38 c10_J38 (fun d => j10_38 k d.2.1.1 d.2.1.2.1 d.2.1.2.2.1 d.2.2.1 d.2.2.2.1) (.loop 17 c10_L17 (b10_17 k) (fun g => (fun (g17 : Y2_5) => (.join 21 c10_J21 (fun d => j10_21 k g17 d.2.1 d.2.2.1 d.2.2.2.1.1 d.2.2.2.1.2.1 d.2.2.2.1.2.2.1 d.2.2.2.2.1.1 d.2.2.2.2.1.2.1 d.2.2.2.2.1.2.2.1 d.2.2.2.2.2.1) .nil)) (fun turned3 put3 t6 t7 t8 was was1 was2 i2 => g ((), turned3, put3, (t6, t7, t8, ()), (was, was1, was2, ()), i2, ()))) (.loop 12 c10_L12 (b10_12 k) (fun g => .nil) (.loop 7 c10_L7 (b10_7 k) (fun g => .nil) .nil)))))
noncomputable def F10 : Fn := ⟨P10, R10, fun k x => S10 k x.1 x.2.1 x.2.2.1⟩
theorem ok10 : FnOK Try.prog 10 F10 := evalF_ok (E := E10) (T := B10) E10_ok mix Try.func10 rfl (by kernel_rfl) (by kernel_rfl) (fun k => by kernel_rfl) (fun k x => by kernel_rfl)
end Go.Proofs.Ytnlfdfjkgaanjaa.Ab
