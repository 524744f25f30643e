import Derived.Test.YthmicjldfdadjaaAbL1
/- Contracts, printed by this session's own program gen.py. -/
set_option linter.unusedVariables false
set_option linter.unusedSimpArgs false
set_option maxRecDepth 100000
namespace Go.Proofs.Ythmicjldfdadjaa.Ab
open Go.RowKit Go.Proofs.YthmicjldfdadjaaW.PrintWords
abbrev Y2_0 : Type := Int × Int × Int × (List (Int × Int × Int × Int)) × (List (Int × Int × Int × Int)) × List (Int × Int × Int × Int)
abbrev Y2_1 : Ty := .pair (.int .i64) (.pair (.int .i64) (.pair (.int .i64) (.pair (.sl 42 (.pair (.int .i64) (.pair (.int .i64) (.pair (.int .i64) (.int .i64))))) (.pair (.sl 42 (.pair (.int .i64) (.pair (.int .i64) (.pair (.int .i64) (.int .i64))))) (.sl 42 (.pair (.int .i64) (.pair (.int .i64) (.pair (.int .i64) (.int .i64)))))))))
abbrev Y2_2 : Type := Int × Int × Int × Int
abbrev Y2_3 : Ty := .pair (.int .i64) (.pair (.int .i64) (.pair (.int .i64) (.int .i64)))
abbrev Y2_4 : Type := ((List Y2_2) × Unit) × ((List Int) × Int × Unit) × Unit
abbrev Y2_5 : Type := List (Int × Int)
abbrev Y2_6 : Type := (List Y2_0) → Int → Int → Y2_5 → (List Y2_0) → Int → Int → Option ((Int × Unit) × Unit)
abbrev Y2_7 : Type := Int × Int × Int × Bool
abbrev Y2_8 : Type := (List Y2_0) → Int → Int → Y2_5 → (List Y2_0) → Int → Int → Y2_5 → Int → Int → Option ((Int × Unit) × Unit)
abbrev Y2_9 : Ty := .pair (.int .i64) (.int .i64)
abbrev Y2_10 : Type := (List Int) × Int × Unit
abbrev Y2_11 : Type := (Y2_5 × Unit) × Unit
abbrev Y2_12 : Type := (Int × Unit) × Unit
abbrev Y2_13 : Type := (List Int) → Int → Int → (List Y2_2) → Int → Option Y2_4
abbrev Y2_14 : Type := List (Int × Int)
abbrev Y2_15 : Type := ((List Y2_7) × Unit) × Unit
abbrev Y2_16 : Ty := .sl 5 (.int .u8)
abbrev Y2_17 : Ty := .pair (.int .i64) (.pair (.int .i64) (.pair (.int .i64) .bool))
noncomputable abbrev P36 : List PT := [.val ⟨false, (.sl 42 Y2_3), false⟩]
noncomputable abbrev R36 : List RT := [.val ⟨false, (.int .i64), true⟩]
noncomputable def S36 (k : Nat) (l_ : List Y2_2) : Option Y2_12 :=
 (S30 k l_).bind fun q0 =>
 some ((q0.1.1.1, ()), ())
noncomputable def E36 : Env := tab.env (lk [(30, F30)]) (hintL [])
theorem E36_ok : EnvOK Try.prog E36 := envOK_of tabOK _ _ (allFn_lk (l := [(30, F30)]) ⟨ok30, trivial⟩)
noncomputable def B36 (k : Nat) : Tbl (RD R36 × MD P36) := .nil
noncomputable def F36 : Fn := ⟨P36, R36, fun k x => S36 k x.1⟩
theorem ok36 : FnOK Try.prog 36 F36 := evalF_ok (E := E36) (T := B36) E36_ok mix Try.func36 rfl (by kernel_rfl) (by kernel_rfl) (fun k => by kernel_rfl) (fun k x => by kernel_rfl)
noncomputable abbrev P18 : List PT := [.val ⟨true, Y2_1, false⟩]
noncomputable abbrev R18 : List RT := [.val ⟨false, (.int .i64), true⟩]
noncomputable def S18 (k : Nat) (t : Int × Int × Int × (List Y2_2) × (List Y2_2) × List Y2_2) : Option Y2_12 :=
 (bif decide (t.1 < 0) then
  some ((1, ()), ())
 else
  (bif decide (t.1 > 63) then
   some ((1, ()), ())
  else
   (bif decide (t.2.1 < 1) then
    some ((9, ()), ())
   else
    (bif decide (t.2.1 > 16384) then
     some ((9, ()), ())
    else
     (bif decide (t.2.2.1 < 1) then
      some ((9, ()), ())
     else
      (bif decide (t.2.2.1 > t.2.1) then
       some ((9, ()), ())
      else
       (S33 k t.2.2.2.1).bind fun q0 =>
       (bif !q0.1.1 then
        some ((2, ()), ())
       else
        (S34 k t.2.2.2.2.1).bind fun q1 =>
        (bif !q1.1.1 then
         some ((2, ()), ())
        else
         (S34 k t.2.2.2.2.2).bind fun q2 =>
         (bif !q2.1.1 then
          some ((2, ()), ())
         else
          (S35 k t.2.2.2.2.2).bind fun q3 =>
          (bif q3.1.1 then
           some ((2, ()), ())
          else
           (S36 k t.2.2.2.1).bind fun q4 =>
           (bif decide (q4.1.1 > t.2.2.1) then
            some ((10, ()), ())
           else
            (S36 k t.2.2.2.2.1).bind fun q5 =>
            (S36 k t.2.2.2.1).bind fun q6 =>
            (bif decide (q5.1.1 > q6.1.1) then
             some ((12, ()), ())
            else
             some ((0, ()), ())))))))))))))
noncomputable def E18 : Env := tab.env (lk [(33, F33), (34, F34), (35, F35), (36, F36)]) (hintL [])
theorem E18_ok : EnvOK Try.prog E18 := envOK_of tabOK _ _ (allFn_lk (l := [(33, F33), (34, F34), (35, F35), (36, F36)]) ⟨ok33, ok34, ok35, ok36, trivial⟩)
noncomputable def B18 (k : Nat) : Tbl (RD R18 × MD P18) := .nil
noncomputable def F18 : Fn := ⟨P18, R18, fun k x => S18 k x.1⟩
theorem ok18 : FnOK Try.prog 18 F18 := evalF_ok (E := E18) (T := B18) E18_ok mix Try.func18 rfl (by kernel_rfl) (by kernel_rfl) (fun k => by kernel_rfl) (fun k x => by kernel_rfl)
noncomputable abbrev P49 : List PT := [.pv (.nil), .val ⟨false, (.int .i64), false⟩]
noncomputable abbrev R49 : List RT := [.val ⟨false, (.sl 39 Y2_9), true⟩]
noncomputable def S49 (k : Nat) (n : Int) : Option Y2_11 :=
 (bif decide (n < 0) then
  none
 else
  (bif decide ((IntKind.i64.wrap (n - 0)) > 0) then
   az ([] : List (Int × Int)) (IntKind.i64.wrap (n - 0)) 16 (0, 0) fun r0 =>
   sx r0 0 0 <|
   some ((r0.take 0, ()), ())
  else
   some (([], ()), ())))
noncomputable def E49 : Env := tab.env (lk []) (hintL [(25, 1)])
theorem E49_ok : EnvOK Try.prog E49 := envOK_of tabOK _ _ (fun f F h => by cases h)
noncomputable def B49 (k : Nat) : Tbl (RD R49 × MD P49) := .nil
noncomputable def F49 : Fn := ⟨P49, R49, fun k x => S49 k x.2.1⟩
theorem ok49 : FnOK Try.prog 49 F49 := evalF_ok (E := E49) (T := B49) E49_ok mix Try.func49 rfl (by kernel_rfl) (by kernel_rfl) (fun k => by kernel_rfl) (fun k x => by kernel_rfl)
noncomputable abbrev P31 : List PT := [.val ⟨false, (.sl 33 (.sl 39 Y2_9)), false⟩]
noncomputable abbrev R31 : List RT := [.val ⟨false, (.sl 39 Y2_9), true⟩]
noncomputable abbrev c31_L11 : Cut := ⟨[6, 25, 26, 27], [.own 39 Y2_9, .cell (.sl 33 (.sl 39 Y2_9)), .cell (.int .i64), .cell (.int .i64)], [], 36⟩
noncomputable def l31_11 (k : Nat) (g11 : Y2_5 → (List Y2_5) → Int → Int → Option Y2_11) (newslice : Y2_14) (t25 : List Y2_5) (t26 : Int) (t27 : Int) : Option Y2_11 :=
 (bif decide (t27 < t26) then
  ix t25 t27 <|
  ap newslice (rd t25 t27 []) 16 fun r1 =>
  g11 r1 t25 t26 (IntKind.i64.wrap (t27 + 1))
 else
  some ((newslice, ()), ()))
noncomputable def b31_11 (k : Nat) (g : ((Unit) × Y2_5 × (List Y2_5) × Int × Int × Unit) → Option Y2_11) (d : (Unit) × Y2_5 × (List Y2_5) × Int × Int × Unit) : Option Y2_11 := l31_11 k (fun newslice t25 t26 t27 => g ((), newslice, t25, t26, t27, ())) d.2.1 d.2.2.1 d.2.2.2.1 d.2.2.2.2.1
noncomputable def L31_11 (k : Nat) (j : Nat) (newslice : Y2_14) (t25 : List Y2_5) (t26 : Int) (t27 : Int) : Option Y2_11 := iter (R := (Y2_5 × Unit) × Unit) c31_L11 (b31_11 k) j ((), newslice, t25, t26, t27, ())
theorem L31_11_s (k : Nat) (j : Nat) (newslice : Y2_14) (t25 : List Y2_5) (t26 : Int) (t27 : Int) : L31_11 k (j + 1) newslice t25 t26 t27 = l31_11 k (L31_11 k j) newslice t25 t26 t27 := iter_succ _ _ _ _
noncomputable abbrev c31_L3 : Cut := ⟨[0, 3, 9, 10, 11], [.cell (.sl 33 (.sl 39 Y2_9)), .cell (.int .i64), .cell (.sl 33 (.sl 39 Y2_9)), .cell (.int .i64), .cell (.int .i64)], [], 36⟩
noncomputable def l31_3 (k : Nat) (g3 : (List Y2_5) → Int → (List Y2_5) → Int → Int → Option Y2_11) (slices1 : List Y2_5) (size : Int) (t9 : List Y2_5) (t10 : Int) (t11 : Int) : Option Y2_11 :=
 (bif decide (t11 < t10) then
  ix t9 t11 <|
  (bif decide ((IntKind.i64.wrap (size + ((rd t9 t11 []).length : Int))) < 0) then
   none
  else
   g3 slices1 (IntKind.i64.wrap (size + ((rd t9 t11 []).length : Int))) t9 t10 (IntKind.i64.wrap (t11 + 1)))
 else
  (S49 k size).bind fun q0 =>
  L31_11 k k q0.1.1 slices1 (slices1.length : Int) 0)
noncomputable def b31_3 (k : Nat) (g : ((Unit) × (List Y2_5) × Int × (List Y2_5) × Int × Int × Unit) → Option Y2_11) (d : (Unit) × (List Y2_5) × Int × (List Y2_5) × Int × Int × Unit) : Option Y2_11 := l31_3 k (fun slices1 size t9 t10 t11 => g ((), slices1, size, t9, t10, t11, ())) d.2.1 d.2.2.1 d.2.2.2.1 d.2.2.2.2.1 d.2.2.2.2.2.1
noncomputable def L31_3 (k : Nat) (j : Nat) (slices1 : List Y2_5) (size : Int) (t9 : List Y2_5) (t10 : Int) (t11 : Int) : Option Y2_11 := iter (R := (Y2_5 × Unit) × Unit) c31_L3 (b31_3 k) j ((), slices1, size, t9, t10, t11, ())
theorem L31_3_s (k : Nat) (j : Nat) (slices1 : List Y2_5) (size : Int) (t9 : List Y2_5) (t10 : Int) (t11 : Int) : L31_3 k (j + 1) slices1 size t9 t10 t11 = l31_3 k (L31_3 k j) slices1 size t9 t10 t11 := iter_succ _ _ _ _
noncomputable def S31 (k : Nat) (slices : List Y2_5) : Option Y2_11 :=
 L31_3 k k slices 0 slices (slices.length : Int) 0
noncomputable def E31 : Env := tab.env (lk [(49, F49)]) (hintL [])
theorem E31_ok : EnvOK Try.prog E31 := envOK_of tabOK _ _ (allFn_lk (l := [(49, F49)]) ⟨ok49, trivial⟩)
noncomputable def B31 (k : Nat) : Tbl (RD R31 × MD P31) := (.loop 11 c31_L11 (b31_11 k) (fun g => .nil) (.loop 3 c31_L3 (b31_3 k) (fun g => .nil) .nil))
noncomputable def F31 : Fn := ⟨P31, R31, fun k x => S31 k x.1⟩
theorem ok31 : FnOK Try.prog 31 F31 := evalF_ok (E := E31) (T := B31) E31_ok mix Try.func31 rfl (by kernel_rfl) (by kernel_rfl) (fun k => by kernel_rfl) (fun k x => by kernel_rfl)
noncomputable abbrev P16 : List PT := [.val ⟨true, Y2_1, false⟩]
noncomputable abbrev R16 : List RT := [.val ⟨false, (.int .i64), true⟩, .val ⟨false, (.int .i64), true⟩, .val ⟨false, (.sl 39 Y2_9), true⟩]
noncomputable def S16 (k : Nat) (t : Int × Int × Int × (List Y2_2) × (List Y2_2) × List Y2_2) : Option ((Int × Int × Y2_5 × Unit) × Unit) :=
 (S18 k t).bind fun q0 =>
 (bif q0.1.1 != 0 then
  some ((0, 0, [], ()), ())
 else
  (S30 k t.2.2.2.1).bind fun q1 =>
  (S30 k t.2.2.2.2.1).bind fun q2 =>
  (bif q2.1.2.1 then
   (S31 k ([q1.1.1.2.2, q2.1.1.2.2] : List Y2_5)).bind fun q3 =>
   some ((q1.1.1.1, q2.1.1.1, q3.1.1, ()), ())
  else
   (S31 k ([q1.1.1.2.2, q2.1.1.2.2] : List Y2_5)).bind fun q4 =>
   some ((q1.1.1.1, q1.1.1.2.1, q4.1.1, ()), ())))
noncomputable def E16 : Env := tab.env (lk [(18, F18), (30, F30), (31, F31)]) (hintL [])
theorem E16_ok : EnvOK Try.prog E16 := envOK_of tabOK _ _ (allFn_lk (l := [(18, F18), (30, F30), (31, F31)]) ⟨ok18, ok30, ok31, trivial⟩)
noncomputable def B16 (k : Nat) : Tbl (RD R16 × MD P16) := .nil
noncomputable def F16 : Fn := ⟨P16, R16, fun k x => S16 k x.1⟩
theorem ok16 : FnOK Try.prog 16 F16 := evalF_ok (E := E16) (T := B16) E16_ok mix Try.func16 rfl (by kernel_rfl) (by kernel_rfl) (fun k => by kernel_rfl) (fun k x => by kernel_rfl)
noncomputable abbrev P23 : List PT := [.val ⟨false, (.sl 24 Y2_1), false⟩, .val ⟨false, (.int .i64), false⟩]
noncomputable abbrev R23 : List RT := [.val ⟨false, (.int .i64), true⟩]
noncomputable abbrev c23_J13 : Cut := ⟨[0, 1, 4, 5, 12, 16, 17, 18, 32, 33, 34], [.cell (.sl 24 Y2_1), .cell (.int .i64), .cell (.int .i64), .mp 73 true (.int .i64) false (.int .i64), .box 39 [.cell (.int .i64), .cell (.int .i64)], .cell (.sl 24 Y2_1), .cell (.int .i64), .cell (.int .i64), .own 39 Y2_9, .cell (.int .i64), .cell (.int .i64)], [], 70⟩
noncomputable def j23_13 (k : Nat) (g3 : Y2_6) (g8 : Y2_8) (l_3 : List Y2_0) (i3 : Int) (most2 : Int) (ceils2 : Y2_14) (x : Int) (x1 : Int) (t16_2 : List Y2_0) (t17_2 : Int) (t18_2 : Int) (t32_1 : Y2_14) (t33_1 : Int) (t34_1 : Int) : Option Y2_12 :=
 (bif decide ((mget (.int .i64) (.int .i64) x ceils2 0) ≤ i3) then
  g8 l_3 i3 (mx most2 x1) ceils2 t16_2 t17_2 t18_2 t32_1 t33_1 (IntKind.i64.wrap (t34_1 + 1))
 else
  g8 l_3 i3 most2 ceils2 t16_2 t17_2 t18_2 t32_1 t33_1 (IntKind.i64.wrap (t34_1 + 1)))
noncomputable abbrev c23_L8 : Cut := ⟨[0, 1, 4, 5, 16, 17, 18, 32, 33, 34], [.cell (.sl 24 Y2_1), .cell (.int .i64), .cell (.int .i64), .mp 73 true (.int .i64) false (.int .i64), .cell (.sl 24 Y2_1), .cell (.int .i64), .cell (.int .i64), .own 39 Y2_9, .cell (.int .i64), .cell (.int .i64)], [], 70⟩
noncomputable def l23_8 (k : Nat) (g3 : Y2_6) (g8 : Y2_8) (l_2 : List Y2_0) (i2 : Int) (most1 : Int) (ceils1 : Y2_14) (t16_1 : List Y2_0) (t17_1 : Int) (t18_1 : Int) (t32 : Y2_14) (t33 : Int) (t34 : Int) : Option Y2_12 :=
 (bif decide (t34 < t33) then
  ix t32 t34 <|
  (bif !(mhas (.int .i64) (.int .i64) (rd t32 t34 (0, 0)).1 ceils1) then
   (S25 k l_2 (rd t32 t34 (0, 0)).1).bind fun q1 =>
   j23_13 k g3 g8 l_2 i2 most1 (updD (.int .i64) (.int .i64) (rd t32 t34 (0, 0)).1 q1.1.1 ceils1) (rd t32 t34 (0, 0)).1 (rd t32 t34 (0, 0)).2 t16_1 t17_1 t18_1 t32 t33 t34
  else
   j23_13 k g3 g8 l_2 i2 most1 ceils1 (rd t32 t34 (0, 0)).1 (rd t32 t34 (0, 0)).2 t16_1 t17_1 t18_1 t32 t33 t34)
 else
  g3 l_2 i2 most1 ceils1 t16_1 t17_1 (IntKind.i64.wrap (t18_1 + 1)))
noncomputable def b23_8 (k : Nat) (g3 : Y2_6) (g : ((Unit) × (List Y2_0) × Int × Int × Y2_5 × (List Y2_0) × Int × Int × Y2_5 × Int × Int × Unit) → Option Y2_12) (d : (Unit) × (List Y2_0) × Int × Int × Y2_5 × (List Y2_0) × Int × Int × Y2_5 × Int × Int × Unit) : Option Y2_12 := l23_8 k g3 (fun l_2 i2 most1 ceils1 t16_1 t17_1 t18_1 t32 t33 t34 => g ((), l_2, i2, most1, ceils1, t16_1, t17_1, t18_1, t32, t33, t34, ())) d.2.1 d.2.2.1 d.2.2.2.1 d.2.2.2.2.1 d.2.2.2.2.2.1 d.2.2.2.2.2.2.1 d.2.2.2.2.2.2.2.1 d.2.2.2.2.2.2.2.2.1 d.2.2.2.2.2.2.2.2.2.1 d.2.2.2.2.2.2.2.2.2.2.1
noncomputable def L23_8 (k : Nat) (g3 : Y2_6) (j : Nat) (l_2 : List Y2_0) (i2 : Int) (most1 : Int) (ceils1 : Y2_14) (t16_1 : List Y2_0) (t17_1 : Int) (t18_1 : Int) (t32 : Y2_14) (t33 : Int) (t34 : Int) : Option Y2_12 := iter (R := (Int × Unit) × Unit) c23_L8 (b23_8 k g3) j ((), l_2, i2, most1, ceils1, t16_1, t17_1, t18_1, t32, t33, t34, ())
theorem L23_8_s (k : Nat) (g3 : Y2_6) (j : Nat) (l_2 : List Y2_0) (i2 : Int) (most1 : Int) (ceils1 : Y2_14) (t16_1 : List Y2_0) (t17_1 : Int) (t18_1 : Int) (t32 : Y2_14) (t33 : Int) (t34 : Int) : L23_8 k g3 (j + 1) l_2 i2 most1 ceils1 t16_1 t17_1 t18_1 t32 t33 t34 = l23_8 k g3 (L23_8 k g3 j) l_2 i2 most1 ceils1 t16_1 t17_1 t18_1 t32 t33 t34 := iter_succ _ _ _ _
noncomputable abbrev c23_L3 : Cut := ⟨[0, 1, 4, 5, 16, 17, 18], [.cell (.sl 24 Y2_1), .cell (.int .i64), .cell (.int .i64), .mp 73 true (.int .i64) false (.int .i64), .cell (.sl 24 Y2_1), .cell (.int .i64), .cell (.int .i64)], [], 70⟩
noncomputable def l23_3 (k : Nat) (g3 : Y2_6) (l_1 : List Y2_0) (i1 : Int) (most : Int) (ceils : Y2_14) (t16 : List Y2_0) (t17 : Int) (t18 : Int) : Option Y2_12 :=
 (bif decide (t18 < t17) then
  ix t16 t18 <|
  (bif t18 == i1 then
   g3 l_1 i1 most ceils t16 t17 (IntKind.i64.wrap (t18 + 1))
  else
   (S16 k (rd t16 t18 (0, 0, 0, [], [], []))).bind fun q0 =>
   L23_8 k g3 k l_1 i1 most ceils t16 t17 t18 q0.1.2.2.1 (q0.1.2.2.1.length : Int) 0)
 else
  some ((most, ()), ()))
noncomputable def b23_3 (k : Nat) (g : ((Unit) × (List Y2_0) × Int × Int × Y2_5 × (List Y2_0) × Int × Int × Unit) → Option Y2_12) (d : (Unit) × (List Y2_0) × Int × Int × Y2_5 × (List Y2_0) × Int × Int × Unit) : Option Y2_12 := l23_3 k (fun l_1 i1 most ceils t16 t17 t18 => g ((), l_1, i1, most, ceils, t16, t17, t18, ())) d.2.1 d.2.2.1 d.2.2.2.1 d.2.2.2.2.1 d.2.2.2.2.2.1 d.2.2.2.2.2.2.1 d.2.2.2.2.2.2.2.1
noncomputable def L23_3 (k : Nat) (j : Nat) (l_1 : List Y2_0) (i1 : Int) (most : Int) (ceils : Y2_14) (t16 : List Y2_0) (t17 : Int) (t18 : Int) : Option Y2_12 := iter (R := (Int × Unit) × Unit) c23_L3 (b23_3 k) j ((), l_1, i1, most, ceils, t16, t17, t18, ())
theorem L23_3_s (k : Nat) (j : Nat) (l_1 : List Y2_0) (i1 : Int) (most : Int) (ceils : Y2_14) (t16 : List Y2_0) (t17 : Int) (t18 : Int) : L23_3 k (j + 1) l_1 i1 most ceils t16 t17 t18 = l23_3 k (L23_3 k j) l_1 i1 most ceils t16 t17 t18 := iter_succ _ _ _ _
noncomputable def S23 (k : Nat) (l_ : List Y2_0) (i : Int) : Option Y2_12 :=
 L23_3 k k l_ i 0 ([] : List (Int × Int)) l_ (l_.length : Int) 0
noncomputable def E23 : Env := tab.env (lk [(16, F16), (25, F25)]) (hintL [])
theorem E23_ok : EnvOK Try.prog E23 := envOK_of tabOK _ _ (allFn_lk (l := [(16, F16), (25, F25)]) ⟨ok16, ok25, trivial⟩)
noncomputable def B23 (k : Nat) : Tbl (RD R23 × MD P23) := (.loop 3 c23_L3 (b23_3 k) (fun g => (fun (g3 : Y2_6) => (.loop 8 c23_L8 (b23_8 k g3) (fun g => (fun (g8 : Y2_8) => (.join 13 c23_J13 (fun d => j23_13 k g3 g8 d.2.1 d.2.2.1 d.2.2.2.1 d.2.2.2.2.1 d.2.2.2.2.2.1.1 d.2.2.2.2.2.1.2.1 d.2.2.2.2.2.2.1 d.2.2.2.2.2.2.2.1 d.2.2.2.2.2.2.2.2.1 d.2.2.2.2.2.2.2.2.2.1 d.2.2.2.2.2.2.2.2.2.2.1 d.2.2.2.2.2.2.2.2.2.2.2.1) .nil)) (fun l_2 i2 most1 ceils1 t16_1 t17_1 t18_1 t32 t33 t34 => g ((), l_2, i2, most1, ceils1, t16_1, t17_1, t18_1, t32, t33, t34, ()))) .nil)) (fun l_1 i1 most ceils t16 t17 t18 => g ((), l_1, i1, most, ceils, t16, t17, t18, ()))) .nil)
noncomputable def F23 : Fn := ⟨P23, R23, fun k x => S23 k x.1 x.2.1⟩
theorem ok23 : FnOK Try.prog 23 F23 := evalF_ok (E := E23) (T := B23) E23_ok mix Try.func23 rfl (by kernel_rfl) (by kernel_rfl) (fun k => by kernel_rfl) (fun k x => by kernel_rfl)
noncomputable abbrev P21 : List PT := []
noncomputable abbrev R21 : List RT := [.val ⟨false, .bool, true⟩]
noncomputable def S21 (k : Nat) : Option ((Bool × Unit) × Unit) :=
 (S25 k ([(1, 9, 9, ([(9, 0, 0, 0), (10, 0, 0, 0), (0, 0, 0, 0)] : List Y2_2), [], []), (2, 9, 9, ([(9, 0, 0, 0), (1, 0, 0, 0), (10, 0, 0, 0), (0, 0, 0, 0)] : List Y2_2), [], [])] : List Y2_0) 0).bind fun q0 =>
 (bif q0.1.1 == 0 then
  (S25 k ([(1, 9, 9, ([(9, 0, 0, 0), (10, 0, 0, 0), (0, 0, 0, 0)] : List Y2_2), [], []), (2, 9, 9, ([(9, 0, 0, 0), (1, 0, 0, 0), (10, 0, 0, 0), (0, 0, 0, 0)] : List Y2_2), [], [])] : List Y2_0) 1).bind fun q1 =>
  (bif q1.1.1 == 8 then
   (S23 k ([(1, 9, 9, ([(9, 0, 0, 0), (10, 0, 0, 0), (0, 0, 0, 0)] : List Y2_2), [], []), (2, 9, 9, ([(9, 0, 0, 0), (1, 0, 0, 0), (10, 0, 0, 0), (0, 0, 0, 0)] : List Y2_2), [], [])] : List Y2_0) 0).bind fun q2 =>
   (bif q2.1.1 == 2 then
    (S23 k ([(1, 9, 9, ([(9, 0, 0, 0), (10, 0, 0, 0), (0, 0, 0, 0)] : List Y2_2), [], []), (2, 9, 9, ([(9, 0, 0, 0), (1, 0, 0, 0), (10, 0, 0, 0), (0, 0, 0, 0)] : List Y2_2), [], [])] : List Y2_0) 1).bind fun q3 =>
    some ((q3.1.1 == 1, ()), ())
   else
    some ((false, ()), ()))
  else
   some ((false, ()), ()))
 else
  some ((false, ()), ()))
noncomputable def E21 : Env := tab.env (lk [(23, F23), (25, F25)]) (hintL [])
theorem E21_ok : EnvOK Try.prog E21 := envOK_of tabOK _ _ (allFn_lk (l := [(23, F23), (25, F25)]) ⟨ok23, ok25, trivial⟩)
noncomputable def B21 (k : Nat) : Tbl (RD R21 × MD P21) := .nil
noncomputable def F21 : Fn := ⟨P21, R21, fun k x => S21 k ⟩
theorem ok21 : FnOK Try.prog 21 F21 := evalF_ok (E := E21) (T := B21) E21_ok mix Try.func21 rfl (by kernel_rfl) (by kernel_rfl) (fun k => by kernel_rfl) (fun k x => by kernel_rfl)
noncomputable abbrev P13 : List PT := [.val ⟨false, Y2_16, false⟩]
noncomputable abbrev R13 : List RT := [.pv (.box 55 [.cell Y2_16, .cell (.int .i64)])]
noncomputable def S13 (k : Nat) (l_ : List Int) : Option ((Y2_10 × Unit) × Unit) :=
 some (((l_, 0, ()), ()), ())
noncomputable def E13 : Env := tab.env (lk []) (hintL [])
theorem E13_ok : EnvOK Try.prog E13 := envOK_of tabOK _ _ (fun f F h => by cases h)
noncomputable def B13 (k : Nat) : Tbl (RD R13 × MD P13) := .nil
noncomputable def F13 : Fn := ⟨P13, R13, fun k x => S13 k x.1⟩
theorem ok13 : FnOK Try.prog 13 F13 := evalF_ok (E := E13) (T := B13) E13_ok mix Try.func13 rfl (by kernel_rfl) (by kernel_rfl) (fun k => by kernel_rfl) (fun k x => by kernel_rfl)
noncomputable abbrev P28 : List PT := [.mbox 55 [.cell Y2_16, .cell (.int .i64)], .val ⟨false, (.int .i64), false⟩]
noncomputable abbrev R28 : List RT := [.val ⟨false, (.int .i64), true⟩]
noncomputable def S28 (k : Nat) (p : List Int) (p1 : Int) (m : Int) : Option ((Int × Unit) × Y2_10 × Unit) :=
 (bif decide (p1 ≥ (p.length : Int)) then
  some ((0, ()), (p, p1, ()), ())
 else
  ix p (IntKind.i64.wrap ((IntKind.i64.wrap (p1 + 1)) - 1)) <|
  nz m <|
  some ((Int.tmod (IntKind.i64.wrap (rd p (IntKind.i64.wrap ((IntKind.i64.wrap (p1 + 1)) - 1)) 0)) m, ()), (p, IntKind.i64.wrap (p1 + 1), ()), ()))
noncomputable def E28 : Env := tab.env (lk []) (hintL [])
theorem E28_ok : EnvOK Try.prog E28 := envOK_of tabOK _ _ (fun f F h => by cases h)
noncomputable def B28 (k : Nat) : Tbl (RD R28 × MD P28) := .nil
noncomputable def F28 : Fn := ⟨P28, R28, fun k x => S28 k x.1.1 x.1.2.1 x.2.1⟩
theorem ok28 : FnOK Try.prog 28 F28 := evalF_ok (E := E28) (T := B28) E28_ok mix Try.func28 rfl (by kernel_rfl) (by kernel_rfl) (fun k => by kernel_rfl) (fun k x => by kernel_rfl)
noncomputable abbrev P29 : List PT := [.mbox 55 [.cell Y2_16, .cell (.int .i64)]]
noncomputable abbrev R29 : List RT := [.val ⟨true, Y2_3, true⟩]
noncomputable def S29 (k : Nat) (p : List Int) (p1 : Int) : Option ((Y2_2 × Unit) × Y2_10 × Unit) :=
 (S28 k p p1 3).bind fun q0 =>
 (S28 k q0.2.1.1 q0.2.1.2.1 3).bind fun q1 =>
 (S28 k q1.2.1.1 q1.2.1.2.1 6).bind fun q2 =>
 (bif q2.1.1 == 0 then
  (S28 k q2.2.1.1 q2.2.1.2.1 9).bind fun q3 =>
  some (((1, q0.1.1, 0, IntKind.i64.wrap (q3.1.1 - 4)), ()), (q3.2.1.1, q3.2.1.2.1, ()), ())
 else
  (bif q2.1.1 == 1 then
   some (((2, q0.1.1, q1.1.1, 0), ()), (q2.2.1.1, q2.2.1.2.1, ()), ())
  else
   (bif q2.1.1 == 2 then
    some (((3, q0.1.1, q1.1.1, 0), ()), (q2.2.1.1, q2.2.1.2.1, ()), ())
   else
    (bif q2.1.1 == 3 then
     some (((4, q0.1.1, q1.1.1, 0), ()), (q2.2.1.1, q2.2.1.2.1, ()), ())
    else
     (bif q2.1.1 == 4 then
      (S28 k q2.2.1.1 q2.2.1.2.1 7).bind fun q4 =>
      some (((5, q0.1.1, 0, IntKind.i64.wrap (q4.1.1 - 3)), ()), (q4.2.1.1, q4.2.1.2.1, ()), ())
     else
      (S28 k q2.2.1.1 q2.2.1.2.1 64).bind fun q5 =>
      some (((6, q0.1.1, 0, IntKind.i64.wrap (1 + q5.1.1)), ()), (q5.2.1.1, q5.2.1.2.1, ()), ()))))))
noncomputable def E29 : Env := tab.env (lk [(28, F28)]) (hintL [])
theorem E29_ok : EnvOK Try.prog E29 := envOK_of tabOK _ _ (allFn_lk (l := [(28, F28)]) ⟨ok28, trivial⟩)
noncomputable def B29 (k : Nat) : Tbl (RD R29 × MD P29) := .nil
noncomputable def F29 : Fn := ⟨P29, R29, fun k x => S29 k x.1.1 x.1.2.1⟩
theorem ok29 : FnOK Try.prog 29 F29 := evalF_ok (E := E29) (T := B29) E29_ok mix Try.func29 rfl (by kernel_rfl) (by kernel_rfl) (fun k => by kernel_rfl) (fun k x => by kernel_rfl)
noncomputable abbrev P45 : List PT := [.mbox 55 [.cell Y2_16, .cell (.int .i64)], .val ⟨false, (.int .i64), false⟩, .val ⟨false, (.int .i64), false⟩]
noncomputable abbrev R45 : List RT := [.val ⟨false, (.sl 42 Y2_3), true⟩]
noncomputable abbrev c45_L3 : Cut := ⟨[0, 2, 7, 8], [.pin false 0, .cell (.int .i64), .own 42 Y2_3, .cell (.int .i64)], [.mbox 55 [.cell Y2_16, .cell (.int .i64)]], 47⟩
noncomputable def l45_3 (k : Nat) (g3 : Y2_13) (p2 : List Int) (p3 : Int) (locks1 : Int) (l_ : List Y2_2) (i : Int) : Option Y2_4 :=
 (bif decide (i > 0) then
  (bif decide (locks1 > 0) then
   (S28 k p2 p3 4).bind fun q1 =>
   (bif q1.1.1 == 0 then
    (S28 k q1.2.1.1 q1.2.1.2.1 locks1).bind fun q2 =>
    ap l_ ([(9, q2.1.1, 0, 0)] : List Y2_2) 32 fun r3 =>
    (S29 k q2.2.1.1 q2.2.1.2.1).bind fun q4 =>
    ap r3 ([q4.1.1] : List Y2_2) 32 fun r5 =>
    ap r5 ([(10, q2.1.1, 0, 0)] : List Y2_2) 32 fun r6 =>
    g3 q4.2.1.1 q4.2.1.2.1 locks1 r6 (IntKind.i64.wrap (i - 1))
   else
    (S29 k q1.2.1.1 q1.2.1.2.1).bind fun q7 =>
    ap l_ ([q7.1.1] : List Y2_2) 32 fun r8 =>
    g3 q7.2.1.1 q7.2.1.2.1 locks1 r8 (IntKind.i64.wrap (i - 1)))
  else
   (S29 k p2 p3).bind fun q9 =>
   ap l_ ([q9.1.1] : List Y2_2) 32 fun r10 =>
   g3 q9.2.1.1 q9.2.1.2.1 locks1 r10 (IntKind.i64.wrap (i - 1)))
 else
  some ((l_, ()), (p2, p3, ()), ()))
noncomputable def b45_3 (k : Nat) (g : ((Y2_10 × Unit) × Unit × Int × (List Y2_2) × Int × Unit) → Option Y2_4) (d : (Y2_10 × Unit) × Unit × Int × (List Y2_2) × Int × Unit) : Option Y2_4 := l45_3 k (fun p2 p3 locks1 l_ i => g (((p2, p3, ()), ()), (), locks1, l_, i, ())) d.1.1.1 d.1.1.2.1 d.2.2.1 d.2.2.2.1 d.2.2.2.2.1
noncomputable def L45_3 (k : Nat) (j : Nat) (p2 : List Int) (p3 : Int) (locks1 : Int) (l_ : List Y2_2) (i : Int) : Option Y2_4 := iter (R := ((List Y2_2) × Unit) × Y2_10 × Unit) c45_L3 (b45_3 k) j (((p2, p3, ()), ()), (), locks1, l_, i, ())
theorem L45_3_s (k : Nat) (j : Nat) (p2 : List Int) (p3 : Int) (locks1 : Int) (l_ : List Y2_2) (i : Int) : L45_3 k (j + 1) p2 p3 locks1 l_ i = l45_3 k (L45_3 k j) p2 p3 locks1 l_ i := iter_succ _ _ _ _
noncomputable def S45 (k : Nat) (p : List Int) (p1 : Int) (most : Int) (locks : Int) : Option Y2_4 :=
 (S28 k p p1 most).bind fun q0 =>
 L45_3 k k q0.2.1.1 q0.2.1.2.1 locks ([] : List Y2_2) (IntKind.i64.wrap (q0.1.1 + 1))
noncomputable def E45 : Env := tab.env (lk [(28, F28), (29, F29)]) (hintL [(7, 2)])
theorem E45_ok : EnvOK Try.prog E45 := envOK_of tabOK _ _ (allFn_lk (l := [(28, F28), (29, F29)]) ⟨ok28, ok29, trivial⟩)
noncomputable def B45 (k : Nat) : Tbl (RD R45 × MD P45) := (.loop 3 c45_L3 (b45_3 k) (fun g => .nil) .nil)
noncomputable def F45 : Fn := ⟨P45, R45, fun k x => S45 k x.1.1 x.1.2.1 x.2.1 x.2.2.1⟩
theorem ok45 : FnOK Try.prog 45 F45 := evalF_ok (E := E45) (T := B45) E45_ok mix Try.func45 rfl (by kernel_rfl) (by kernel_rfl) (fun k => by kernel_rfl) (fun k x => by kernel_rfl)
noncomputable abbrev P27 : List PT := [.mbox 55 [.cell Y2_16, .cell (.int .i64)], .val ⟨false, (.int .i64), false⟩]
noncomputable abbrev R27 : List RT := [.val ⟨false, (.sl 42 Y2_3), true⟩]
noncomputable abbrev c27_J16 : Cut := ⟨[0, 1, 5, 6, 7], [.pin false 0, .cell (.int .i64), .own 42 Y2_3, .cell (.int .i64), .own 42 Y2_3], [.mbox 55 [.cell Y2_16, .cell (.int .i64)]], 66⟩
noncomputable def j27_16 (k : Nat) (g3 : Y2_13) (p4 : List Int) (p5 : Int) (locks2 : Int) (l_1 : List Y2_2) (i1 : Int) (x : List Y2_2) : Option Y2_4 :=
 (bif decide ((IntKind.i64.wrap ((l_1.length : Int) + (x.length : Int))) < 23) then
  ap l_1 x 32 fun r9 =>
  g3 p4 p5 locks2 r9 (IntKind.i64.wrap (i1 - 1))
 else
  g3 p4 p5 locks2 l_1 (IntKind.i64.wrap (i1 - 1)))
noncomputable abbrev c27_L3 : Cut := ⟨[0, 1, 5, 6], [.pin false 0, .cell (.int .i64), .own 42 Y2_3, .cell (.int .i64)], [.mbox 55 [.cell Y2_16, .cell (.int .i64)]], 66⟩
noncomputable def l27_3 (k : Nat) (g3 : Y2_13) (p2 : List Int) (p3 : Int) (locks1 : Int) (l_ : List Y2_2) (i : Int) : Option Y2_4 :=
 (bif decide (i > 0) then
  (S28 k p2 p3 5).bind fun q1 =>
  (bif q1.1.1 == 0 then
   (S45 k q1.2.1.1 q1.2.1.2.1 2 locks1).bind fun q2 =>
   (S28 k q2.2.1.1 q2.2.1.2.1 3).bind fun q3 =>
   ap ([(8, 0, (q2.1.1.length : Int), IntKind.i64.wrap (1 + q3.1.1))] : List Y2_2) q2.1.1 32 fun r4 =>
   j27_16 k g3 q3.2.1.1 q3.2.1.2.1 locks1 l_ i r4
  else
   (bif q1.1.1 == 1 then
    (S45 k q1.2.1.1 q1.2.1.2.1 2 locks1).bind fun q5 =>
    (S28 k q5.2.1.1 q5.2.1.2.1 3).bind fun q6 =>
    ap ([(7, q6.1.1, 0, (q5.1.1.length : Int))] : List Y2_2) q5.1.1 32 fun r7 =>
    j27_16 k g3 q6.2.1.1 q6.2.1.2.1 locks1 l_ i r7
   else
    (bif q1.1.1 == 2 then
     j27_16 k g3 q1.2.1.1 q1.2.1.2.1 locks1 l_ i ([(11, 0, 0, 0)] : List Y2_2)
    else
     (S45 k q1.2.1.1 q1.2.1.2.1 2 locks1).bind fun q8 =>
     j27_16 k g3 q8.2.1.1 q8.2.1.2.1 locks1 l_ i q8.1.1)))
 else
  ap l_ ([(0, 0, 0, 0)] : List Y2_2) 32 fun r10 =>
  some ((r10, ()), (p2, p3, ()), ()))
noncomputable def b27_3 (k : Nat) (g : ((Y2_10 × Unit) × Unit × Int × (List Y2_2) × Int × Unit) → Option Y2_4) (d : (Y2_10 × Unit) × Unit × Int × (List Y2_2) × Int × Unit) : Option Y2_4 := l27_3 k (fun p2 p3 locks1 l_ i => g (((p2, p3, ()), ()), (), locks1, l_, i, ())) d.1.1.1 d.1.1.2.1 d.2.2.1 d.2.2.2.1 d.2.2.2.2.1
noncomputable def L27_3 (k : Nat) (j : Nat) (p2 : List Int) (p3 : Int) (locks1 : Int) (l_ : List Y2_2) (i : Int) : Option Y2_4 := iter (R := ((List Y2_2) × Unit) × Y2_10 × Unit) c27_L3 (b27_3 k) j (((p2, p3, ()), ()), (), locks1, l_, i, ())
theorem L27_3_s (k : Nat) (j : Nat) (p2 : List Int) (p3 : Int) (locks1 : Int) (l_ : List Y2_2) (i : Int) : L27_3 k (j + 1) p2 p3 locks1 l_ i = l27_3 k (L27_3 k j) p2 p3 locks1 l_ i := iter_succ _ _ _ _
noncomputable def S27 (k : Nat) (p : List Int) (p1 : Int) (locks : Int) : Option Y2_4 :=
 (S28 k p p1 4).bind fun q0 =>
 L27_3 k k q0.2.1.1 q0.2.1.2.1 locks ([] : List Y2_2) (IntKind.i64.wrap (q0.1.1 + 1))
noncomputable def E27 : Env := tab.env (lk [(28, F28), (45, F45)]) (hintL [(5, 2)])
theorem E27_ok : EnvOK Try.prog E27 := envOK_of tabOK _ _ (allFn_lk (l := [(28, F28), (45, F45)]) ⟨ok28, ok45, trivial⟩)
noncomputable def B27 (k : Nat) : Tbl (RD R27 × MD P27) := (.loop 3 c27_L3 (b27_3 k) (fun g => (fun (g3 : Y2_13) => (.join 16 c27_J16 (fun d => j27_16 k g3 d.1.1.1 d.1.1.2.1 d.2.2.1 d.2.2.2.1 d.2.2.2.2.1 d.2.2.2.2.2.1) .nil)) (fun p2 p3 locks1 l_ i => g (((p2, p3, ()), ()), (), locks1, l_, i, ()))) .nil)
noncomputable def F27 : Fn := ⟨P27, R27, fun k x => S27 k x.1.1 x.1.2.1 x.2.1⟩
theorem ok27 : FnOK Try.prog 27 F27 := evalF_ok (E := E27) (T := B27) E27_ok mix Try.func27 rfl (by kernel_rfl) (by kernel_rfl) (fun k => by kernel_rfl) (fun k x => by kernel_rfl)
noncomputable abbrev P14 : List PT := [.mbox 55 [.cell Y2_16, .cell (.int .i64)], .val ⟨false, (.int .i64), false⟩, .val ⟨false, (.int .i64), false⟩]
noncomputable abbrev R14 : List RT := [.val ⟨true, Y2_1, false⟩]
noncomputable abbrev c14_J6 : Cut := ⟨[0, 6, 7], [.pin false 0, .box 24 [.cell (.int .i64), .cell (.int .i64), .cell (.int .i64), .nil, .nil, .nil], .box 24 [.cell (.int .i64), .cell (.int .i64), .cell (.int .i64), .own 42 Y2_3, .cell (.sl 42 Y2_3), .own 42 Y2_3]], [.mbox 55 [.cell Y2_16, .cell (.int .i64)]], 41⟩
noncomputable def j14_6 (k : Nat) (p2 : List Int) (p3 : Int) (t6 : Int) (t6_1 : Int) (t6_2 : Int) (t : Int) (t1 : Int) (t2 : Int) (t3 : List Y2_2) (t4 : List Y2_2) (t5 : List Y2_2) : Option ((Y2_0 × Unit) × Y2_10 × Unit) :=
 (S28 k p2 p3 3).bind fun q5 =>
 (bif q5.1.1 == 0 then
  (S27 k q5.2.1.1 q5.2.1.2.1 0).bind fun q6 =>
  some (((t, t1, t2, t3, t4, q6.1.1), ()), (q6.2.1.1, q6.2.1.2.1, ()), ())
 else
  some (((t, t1, t2, t3, t4, t5), ()), (q5.2.1.1, q5.2.1.2.1, ()), ()))
noncomputable def S14 (k : Nat) (p : List Int) (p1 : Int) (rank : Int) (locks : Int) : Option ((Y2_0 × Unit) × Y2_10 × Unit) :=
 (S27 k p p1 locks).bind fun q0 =>
 (S28 k q0.2.1.1 q0.2.1.2.1 12).bind fun q1 =>
 (S28 k q1.2.1.1 q1.2.1.2.1 10).bind fun q2 =>
 (S28 k q2.2.1.1 q2.2.1.2.1 3).bind fun q3 =>
 (bif q3.1.1 == 0 then
  (S28 k q3.2.1.1 q3.2.1.2.1 2).bind fun q4 =>
  sx ([(1, 0, 0, 99), (0, 0, 0, 0)] : List Y2_2) q4.1.1 (([(1, 0, 0, 99), (0, 0, 0, 0)] : List Y2_2).length : Int) <|
  j14_6 k q4.2.1.1 q4.2.1.2.1 0 0 0 rank (IntKind.i64.wrap (20 + (IntKind.i64.wrap (10 * q1.1.1)))) (IntKind.i64.wrap ((IntKind.i64.wrap (20 + (IntKind.i64.wrap (10 * q1.1.1)))) - q2.1.1)) q0.1.1 (sub ([(1, 0, 0, 99), (0, 0, 0, 0)] : List Y2_2) q4.1.1 (([(1, 0, 0, 99), (0, 0, 0, 0)] : List Y2_2).length : Int)) ([] : List Y2_2)
 else
  j14_6 k q3.2.1.1 q3.2.1.2.1 0 0 0 rank (IntKind.i64.wrap (20 + (IntKind.i64.wrap (10 * q1.1.1)))) (IntKind.i64.wrap ((IntKind.i64.wrap (20 + (IntKind.i64.wrap (10 * q1.1.1)))) - q2.1.1)) q0.1.1 ([] : List Y2_2) ([] : List Y2_2))
noncomputable def E14 : Env := tab.env (lk [(27, F27), (28, F28)]) (hintL [(12, 2)])
theorem E14_ok : EnvOK Try.prog E14 := envOK_of tabOK _ _ (allFn_lk (l := [(27, F27), (28, F28)]) ⟨ok27, ok28, trivial⟩)
noncomputable def B14 (k : Nat) : Tbl (RD R14 × MD P14) := (.join 6 c14_J6 (fun d => j14_6 k d.1.1.1 d.1.1.2.1 d.2.2.1.1 d.2.2.1.2.1 d.2.2.1.2.2.1 d.2.2.2.1.1 d.2.2.2.1.2.1 d.2.2.2.1.2.2.1 d.2.2.2.1.2.2.2.1 d.2.2.2.1.2.2.2.2.1 d.2.2.2.1.2.2.2.2.2.1) .nil)
noncomputable def F14 : Fn := ⟨P14, R14, fun k x => S14 k x.1.1 x.1.2.1 x.2.1 x.2.2.1⟩
theorem ok14 : FnOK Try.prog 14 F14 := evalF_ok (E := E14) (T := B14) E14_ok mix Try.func14 rfl (by kernel_rfl) (by kernel_rfl) (fun k => by kernel_rfl) (fun k x => by kernel_rfl)
noncomputable abbrev P80 : List PT := [.val ⟨true, (.int .i64), false⟩, .val ⟨false, (.int .i64), false⟩]
noncomputable abbrev R80 : List RT := [.val ⟨false, .bool, true⟩]
noncomputable def S80 (k : Nat) (f : Int) (a : Int) : Option ((Bool × Unit) × Unit) :=
 (bif decide (a ≥ 0) then
  some ((decide (a < f), ()), ())
 else
  some ((false, ()), ()))
noncomputable def E80 : Env := tab.env (lk []) (hintL [])
theorem E80_ok : EnvOK Try.prog E80 := envOK_of tabOK _ _ (fun f F h => by cases h)
noncomputable def B80 (k : Nat) : Tbl (RD R80 × MD P80) := .nil
noncomputable def F80 : Fn := ⟨P80, R80, fun k x => S80 k x.1 x.2.1⟩
theorem ok80 : FnOK Try.prog 80 F80 := evalF_ok (E := E80) (T := B80) E80_ok mix Try.func80 rfl (by kernel_rfl) (by kernel_rfl) (fun k => by kernel_rfl) (fun k x => by kernel_rfl)
noncomputable abbrev P62 : List PT := [.val ⟨true, Y2_3, false⟩]
noncomputable abbrev R62 : List RT := [.val ⟨false, .bool, true⟩]
noncomputable def S62 (k : Nat) (i : Int × Int × Int × Int) : Option ((Bool × Unit) × Unit) :=
 (bif i.1 == 0 then
  (bif i.2.1 == 0 then
   (bif i.2.2.1 == 0 then
    some ((i.2.2.2 == 0, ()), ())
   else
    some ((false, ()), ()))
  else
   some ((false, ()), ()))
 else
  (bif i.1 == 11 then
   (bif i.2.1 == 0 then
    (bif i.2.2.1 == 0 then
     some ((i.2.2.2 == 0, ()), ())
    else
     some ((false, ()), ()))
   else
    some ((false, ()), ()))
  else
   (bif i.1 == 1 then
    (S80 k 8 i.2.1).bind fun q0 =>
    (bif q0.1.1 then
     (bif i.2.2.1 == 0 then
      (bif decide (i.2.2.2 ≥ (-2147483648)) then
       some ((decide (i.2.2.2 < 2147483648), ()), ())
      else
       some ((false, ()), ()))
     else
      some ((false, ()), ()))
    else
     some ((false, ()), ()))
   else
    (bif i.1 == 2 then
     (S80 k 8 i.2.1).bind fun q1 =>
     (bif q1.1.1 then
      (S80 k 8 i.2.2.1).bind fun q2 =>
      (bif q2.1.1 then
       some ((i.2.2.2 == 0, ()), ())
      else
       some ((false, ()), ()))
     else
      some ((false, ()), ()))
    else
     (bif i.1 == 3 then
      (S80 k 8 i.2.1).bind fun q3 =>
      (bif q3.1.1 then
       (S80 k 8 i.2.2.1).bind fun q4 =>
       (bif q4.1.1 then
        some ((i.2.2.2 == 0, ()), ())
       else
        some ((false, ()), ()))
      else
       some ((false, ()), ()))
     else
      (bif i.1 == 4 then
       (S80 k 8 i.2.1).bind fun q5 =>
       (bif q5.1.1 then
        (S80 k 8 i.2.2.1).bind fun q6 =>
        (bif q6.1.1 then
         some ((i.2.2.2 == 0, ()), ())
        else
         some ((false, ()), ()))
       else
        some ((false, ()), ()))
      else
       (bif i.1 == 5 then
        (S80 k 8 i.2.1).bind fun q7 =>
        (bif q7.1.1 then
         (bif i.2.2.1 == 0 then
          (bif decide (i.2.2.2 ≥ (-63)) then
           some ((decide (i.2.2.2 ≤ 63), ()), ())
          else
           some ((false, ()), ()))
         else
          some ((false, ()), ()))
        else
         some ((false, ()), ()))
       else
        (bif i.1 == 6 then
         (S80 k 8 i.2.1).bind fun q8 =>
         (bif q8.1.1 then
          (bif i.2.2.1 == 0 then
           (bif decide (i.2.2.2 ≥ 1) then
            some ((decide (i.2.2.2 ≤ 64), ()), ())
           else
            some ((false, ()), ()))
          else
           some ((false, ()), ()))
         else
          some ((false, ()), ()))
        else
         (bif i.1 == 7 then
          (S80 k 8 i.2.1).bind fun q9 =>
          (bif q9.1.1 then
           (bif i.2.2.1 == 0 then
            (bif decide (i.2.2.2 ≥ 1) then
             some ((decide (i.2.2.2 ≤ 24), ()), ())
            else
             some ((false, ()), ()))
           else
            some ((false, ()), ()))
          else
           some ((false, ()), ()))
         else
          (bif i.1 == 8 then
           (bif i.2.1 == 0 then
            (bif decide (i.2.2.1 ≥ 1) then
             (bif decide (i.2.2.1 ≤ 24) then
              (bif decide (i.2.2.2 ≥ 1) then
               some ((decide (i.2.2.2 ≤ 20), ()), ())
              else
               some ((false, ()), ()))
             else
              some ((false, ()), ()))
            else
             some ((false, ()), ()))
           else
            some ((false, ()), ()))
          else
           (bif i.1 == 9 then
            (bif decide (i.2.1 ≥ 0) then
             (bif decide (i.2.1 < 4) then
              (bif i.2.2.1 == 0 then
               some ((i.2.2.2 == 0, ()), ())
              else
               some ((false, ()), ()))
             else
              some ((false, ()), ()))
            else
             some ((false, ()), ()))
           else
            (bif i.1 == 10 then
             (bif decide (i.2.1 ≥ 0) then
              (bif decide (i.2.1 < 4) then
               (bif i.2.2.1 == 0 then
                some ((i.2.2.2 == 0, ()), ())
               else
                some ((false, ()), ()))
              else
               some ((false, ()), ()))
             else
              some ((false, ()), ()))
            else
             some ((false, ()), ())))))))))))))
noncomputable def E62 : Env := tab.env (lk [(80, F80)]) (hintL [])
theorem E62_ok : EnvOK Try.prog E62 := envOK_of tabOK _ _ (allFn_lk (l := [(80, F80)]) ⟨ok80, trivial⟩)
noncomputable def B62 (k : Nat) : Tbl (RD R62 × MD P62) := .nil
noncomputable def F62 : Fn := ⟨P62, R62, fun k x => S62 k x.1⟩
theorem ok62 : FnOK Try.prog 62 F62 := evalF_ok (E := E62) (T := B62) E62_ok mix Try.func62 rfl (by kernel_rfl) (by kernel_rfl) (fun k => by kernel_rfl) (fun k x => by kernel_rfl)
noncomputable abbrev P69 : List PT := [.val ⟨false, (.sl 42 Y2_3), false⟩]
noncomputable abbrev R69 : List RT := [.val ⟨false, (.sl 105 Y2_17), true⟩]
noncomputable abbrev c69_L3 : Cut := ⟨[0, 3, 4], [.cell (.sl 42 Y2_3), .own 105 Y2_17, .cell (.int .i64)], [], 49⟩
noncomputable def l69_3 (k : Nat) (g3 : (List Y2_2) → (List Y2_7) → Int → Option Y2_15) (l_1 : List Y2_2) (out : List Y2_7) (i : Int) : Option Y2_15 :=
 (bif decide (i < (l_1.length : Int)) then
  ix l_1 i <|
  (bif (rd l_1 i (0, 0, 0, 0)).1 == 7 then
   ix l_1 i <|
   ap out ([(IntKind.i64.wrap (i + 1), IntKind.i64.wrap (i + (rd l_1 i (0, 0, 0, 0)).2.2.2), i, false)] : List Y2_7) 32 fun r0 =>
   g3 l_1 r0 (IntKind.i64.wrap (i + 1))
  else
   (bif (rd l_1 i (0, 0, 0, 0)).1 == 8 then
    ix l_1 i <|
    ap out ([(IntKind.i64.wrap (i + 1), IntKind.i64.wrap (i + (rd l_1 i (0, 0, 0, 0)).2.2.1), i, true)] : List Y2_7) 32 fun r1 =>
    g3 l_1 r1 (IntKind.i64.wrap (i + 1))
   else
    g3 l_1 out (IntKind.i64.wrap (i + 1))))
 else
  some ((out, ()), ()))
noncomputable def b69_3 (k : Nat) (g : ((Unit) × (List Y2_2) × (List Y2_7) × Int × Unit) → Option Y2_15) (d : (Unit) × (List Y2_2) × (List Y2_7) × Int × Unit) : Option Y2_15 := l69_3 k (fun l_1 out i => g ((), l_1, out, i, ())) d.2.1 d.2.2.1 d.2.2.2.1
noncomputable def L69_3 (k : Nat) (j : Nat) (l_1 : List Y2_2) (out : List Y2_7) (i : Int) : Option Y2_15 := iter (R := ((List Y2_7) × Unit) × Unit) c69_L3 (b69_3 k) j ((), l_1, out, i, ())
theorem L69_3_s (k : Nat) (j : Nat) (l_1 : List Y2_2) (out : List Y2_7) (i : Int) : L69_3 k (j + 1) l_1 out i = l69_3 k (L69_3 k j) l_1 out i := iter_succ _ _ _ _
noncomputable def S69 (k : Nat) (l_ : List Y2_2) : Option Y2_15 :=
 L69_3 k k l_ ([] : List Y2_7) 0
noncomputable def E69 : Env := tab.env (lk []) (hintL [(3, 2)])
theorem E69_ok : EnvOK Try.prog E69 := envOK_of tabOK _ _ (fun f F h => by cases h)
noncomputable def B69 (k : Nat) : Tbl (RD R69 × MD P69) := (.loop 3 c69_L3 (b69_3 k) (fun g => .nil) .nil)
noncomputable def F69 : Fn := ⟨P69, R69, fun k x => S69 k x.1⟩
theorem ok69 : FnOK Try.prog 69 F69 := evalF_ok (E := E69) (T := B69) E69_ok mix Try.func69 rfl (by kernel_rfl) (by kernel_rfl) (fun k => by kernel_rfl) (fun k x => by kernel_rfl)
noncomputable abbrev P70 : List PT := [.val ⟨true, Y2_17, false⟩, .val ⟨false, (.int .i64), false⟩]
noncomputable abbrev R70 : List RT := [.val ⟨false, .bool, true⟩]
noncomputable def S70 (k : Nat) (a : Int × Int × Int × Bool) (i : Int) : Option ((Bool × Unit) × Unit) :=
 (bif decide (a.1 ≤ i) then
  some ((decide (i ≤ a.2.1), ()), ())
 else
  some ((false, ()), ()))
noncomputable def E70 : Env := tab.env (lk []) (hintL [])
theorem E70_ok : EnvOK Try.prog E70 := envOK_of tabOK _ _ (fun f F h => by cases h)
noncomputable def B70 (k : Nat) : Tbl (RD R70 × MD P70) := .nil
noncomputable def F70 : Fn := ⟨P70, R70, fun k x => S70 k x.1 x.2.1⟩
theorem ok70 : FnOK Try.prog 70 F70 := evalF_ok (E := E70) (T := B70) E70_ok mix Try.func70 rfl (by kernel_rfl) (by kernel_rfl) (fun k => by kernel_rfl) (fun k x => by kernel_rfl)
end Go.Proofs.Ythmicjldfdadjaa.Ab
