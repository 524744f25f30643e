import Derived.Test.YtmmagcjlfcicfaaGreatAbV0
/- Contracts, printed by this session's own program gen.py. -/
set_option linter.unusedVariables false
set_option linter.unusedSimpArgs false
set_option maxRecDepth 100000
namespace Go.Proofs.YtmmagcjlfcicfaaGreat.Ab
open Go.RowKit
abbrev Y1_0 : Type := Int × Int × Int × (List (Int × Int × Int × Int)) × (List (Int × Int × Int × Int)) × List (Int × Int × Int × Int)
abbrev Y1_1 : Ty := .pair (.int .i64) (.pair (.int .i64) (.pair (.int .i64) (.pair (.sl 87 (.pair (.int .i64) (.pair (.int .i64) (.pair (.int .i64) (.int .i64))))) (.pair (.sl 87 (.pair (.int .i64) (.pair (.int .i64) (.pair (.int .i64) (.int .i64))))) (.sl 87 (.pair (.int .i64) (.pair (.int .i64) (.pair (.int .i64) (.int .i64)))))))))
abbrev Y1_2 : Type := (List (Int × Int × Int × Int)) → Int → Int → Int → Int → (List (Int × Int)) → (List Int) → (List Int) → Int → Int → Option (((Int × Int × List (Int × Int)) × Bool × Unit) × Unit)
abbrev Y1_3 : Type := Int × Int × Int × Int
abbrev Y1_4 : Type := ((Int × Int × List (Int × Int)) × Bool × Unit) × Unit
abbrev Y1_5 : Type := (Int × Unit) × Unit
abbrev Y1_6 : Ty := .pair (.int .i64) (.pair (.int .i64) (.pair (.int .i64) (.int .i64)))
abbrev Y1_7 : Type := (((List Int) × Int × Int × List Int) × Unit) × Unit
abbrev Y1_8 : Type := (List Y1_0) → Int → Int → Int → Option Y1_5
abbrev Y1_9 : Type := (Int × Bool × Unit) × Unit
abbrev Y1_10 : Type := (List Int) × Int × Int × (List Int) × Unit
abbrev Y1_11 : Type := (Bool × Unit) × Unit
abbrev Y1_12 : Type := ((List (PN Int 5)) × Int × Unit) × Unit
abbrev Y1_13 : Type := Int × Int × (List (Int × Int)) × Unit
abbrev Y1_14 : Type := (List Y1_0) → Int → Int → Option Y1_5
abbrev Y1_15 : Ty := .pair (.int .i64) (.int .i64)
abbrev Y1_16 : Type := (Int × Int × Int × Unit) × Unit
abbrev Y1_17 : Type := List (Int × Int)
noncomputable abbrev P70 : List PT := [.val ⟨false, (.sl 87 Y1_6), false⟩]
noncomputable abbrev R70 : List RT := [.val ⟨true, (.pair (.int .i64) (.pair (.int .i64) (.sl 230 Y1_15))), true⟩, .val ⟨false, .bool, true⟩]
noncomputable abbrev c70_L16 : Cut := ⟨[0, 2, 4, 5, 6, 8, 9, 10, 11], [.cell (.sl 87 Y1_6), .box 161 [.cell (.int .i64), .cell (.int .i64), .nil], .box 161 [.cell (.int .i64), .cell (.int .i64), .own 230 Y1_15], .own 2 (.int .i64), .own 3 (.int .i64), .cell (.int .i64), .cell (.int .i64), .cell (.int .i64), .cell (.int .i64)], [], 103, []⟩
noncomputable def l70_16 (k : Nat) (g8 : Y1_2) (g16 : (List Y1_3) → Int → Int → Int → Int → (List (Int × Int)) → (List Int) → (List Int) → Int → Int → Int → Int → Option Y1_4) (l_3 : List Y1_3) (t2_4 : Int) (t2_5 : Int) (c6 : Int) (c7 : Int) (c8 : Y1_17) (t3 : List Int) (pairs2 : List Int) (piece2 : Int) (i2 : Int) (n : Int) (k_ : Int) : Option Y1_4 :=
 ix pairs2 i2 <|
 (bif decide (k_ ≤ (rd pairs2 i2 0)) then
  ix t3 k_ <|
  g16 l_3 t2_4 t2_5 c6 c7 c8 t3 pairs2 piece2 i2 (IntKind.i64.wrap (n + (rd t3 k_ 0))) (IntKind.i64.wrap (k_ + 1))
 else
  ix l_3 i2 <|
  ix t3 i2 <|
  nz (rd t3 i2 0) <|
  ap c8 ([((rd l_3 i2 (0, 0, 0, 0)).2.1, IntKind.i64.wrap (Int.tdiv n (rd t3 i2 0)))] : List (Int × Int)) 16 fun r3 =>
  g8 l_3 t2_4 t2_5 c6 c7 r3 t3 pairs2 piece2 (IntKind.i64.wrap (i2 + 1)))
noncomputable def b70_16 (k : Nat) (g8 : Y1_2) (g : ((Unit) × (List Y1_3) × (Int × Int × Unit × Unit) × Y1_13 × (List Int) × (List Int) × Int × Int × Int × Int × Unit) → Option Y1_4) (d : (Unit) × (List Y1_3) × (Int × Int × Unit × Unit) × Y1_13 × (List Int) × (List Int) × Int × Int × Int × Int × Unit) : Option Y1_4 := l70_16 k g8 (fun l_3 t2_4 t2_5 c6 c7 c8 t3 pairs2 piece2 i2 n k_ => g ((), l_3, (t2_4, t2_5, (), ()), (c6, c7, c8, ()), t3, pairs2, piece2, i2, n, k_, ())) d.2.1 d.2.2.1.1 d.2.2.1.2.1 d.2.2.2.1.1 d.2.2.2.1.2.1 d.2.2.2.1.2.2.1 d.2.2.2.2.1 d.2.2.2.2.2.1 d.2.2.2.2.2.2.1 d.2.2.2.2.2.2.2.1 d.2.2.2.2.2.2.2.2.1 d.2.2.2.2.2.2.2.2.2.1
noncomputable def L70_16 (k : Nat) (g8 : Y1_2) (j : Nat) (l_3 : List Y1_3) (t2_4 : Int) (t2_5 : Int) (c6 : Int) (c7 : Int) (c8 : Y1_17) (t3 : List Int) (pairs2 : List Int) (piece2 : Int) (i2 : Int) (n : Int) (k_ : Int) : Option Y1_4 := iter (R := ((Int × Int × List (Int × Int)) × Bool × Unit) × Unit) c70_L16 (b70_16 k g8) j ((), l_3, (t2_4, t2_5, (), ()), (c6, c7, c8, ()), t3, pairs2, piece2, i2, n, k_, ())
theorem L70_16_s (k : Nat) (g8 : Y1_2) (j : Nat) (l_3 : List Y1_3) (t2_4 : Int) (t2_5 : Int) (c6 : Int) (c7 : Int) (c8 : Y1_17) (t3 : List Int) (pairs2 : List Int) (piece2 : Int) (i2 : Int) (n : Int) (k_ : Int) : L70_16 k g8 (j + 1) l_3 t2_4 t2_5 c6 c7 c8 t3 pairs2 piece2 i2 n k_ = l70_16 k g8 (L70_16 k g8 j) l_3 t2_4 t2_5 c6 c7 c8 t3 pairs2 piece2 i2 n k_ := iter_succ _ _ _ _
noncomputable abbrev c70_J13 : Cut := ⟨[0, 2, 4, 5, 6, 8, 9], [.cell (.sl 87 Y1_6), .box 161 [.cell (.int .i64), .cell (.int .i64), .nil], .box 161 [.cell (.int .i64), .cell (.int .i64), .own 230 Y1_15], .own 2 (.int .i64), .own 3 (.int .i64), .cell (.int .i64), .cell (.int .i64)], [], 103, []⟩
noncomputable def j70_13 (k : Nat) (g8 : Y1_2) (l_2 : List Y1_3) (t2_2 : Int) (t2_3 : Int) (c3 : Int) (c4 : Int) (c5 : Y1_17) (t1 : List Int) (pairs1 : List Int) (piece1 : Int) (i1 : Int) : Option Y1_4 :=
 ix l_2 i1 <|
 (bif (rd l_2 i1 (0, 0, 0, 0)).1 == 9 then
  L70_16 k g8 k l_2 t2_2 t2_3 c3 c4 c5 t1 pairs1 piece1 i1 0 (IntKind.i64.wrap (i1 + 1))
 else
  g8 l_2 t2_2 t2_3 c3 c4 c5 t1 pairs1 piece1 (IntKind.i64.wrap (i1 + 1)))
noncomputable abbrev c70_L8 : Cut := ⟨[0, 2, 4, 5, 6, 8, 9], [.cell (.sl 87 Y1_6), .box 161 [.cell (.int .i64), .cell (.int .i64), .nil], .box 161 [.cell (.int .i64), .cell (.int .i64), .own 230 Y1_15], .own 2 (.int .i64), .own 3 (.int .i64), .cell (.int .i64), .cell (.int .i64)], [], 103, []⟩
noncomputable def l70_8 (k : Nat) (g8 : Y1_2) (l_1 : List Y1_3) (t2 : Int) (t2_1 : Int) (c : Int) (c1 : Int) (c2 : Y1_17) (t : List Int) (pairs : List Int) (piece : Int) (i : Int) : Option Y1_4 :=
 (bif decide (i < (l_1.length : Int)) then
  ix t i <|
  ix t i <|
  ix l_1 i <|
  (bif (rd l_1 i (0, 0, 0, 0)).1 == 11 then
   j70_13 k g8 l_1 t2 t2_1 (IntKind.i64.wrap (c + (rd t i 0))) (mx c1 (IntKind.i64.wrap (piece + (rd t i 0)))) c2 t pairs 0 i
  else
   ix l_1 i <|
   (bif (rd l_1 i (0, 0, 0, 0)).1 == 0 then
    j70_13 k g8 l_1 t2 t2_1 (IntKind.i64.wrap (c + (rd t i 0))) (mx c1 (IntKind.i64.wrap (piece + (rd t i 0)))) c2 t pairs 0 i
   else
    j70_13 k g8 l_1 t2 t2_1 (IntKind.i64.wrap (c + (rd t i 0))) c1 c2 t pairs (IntKind.i64.wrap (piece + (rd t i 0))) i))
 else
  some (((c, c1, c2), true, ()), ()))
noncomputable def b70_8 (k : Nat) (g : ((Unit) × (List Y1_3) × (Int × Int × Unit × Unit) × Y1_13 × (List Int) × (List Int) × Int × Int × Unit) → Option Y1_4) (d : (Unit) × (List Y1_3) × (Int × Int × Unit × Unit) × Y1_13 × (List Int) × (List Int) × Int × Int × Unit) : Option Y1_4 := l70_8 k (fun l_1 t2 t2_1 c c1 c2 t pairs piece i => g ((), l_1, (t2, t2_1, (), ()), (c, c1, c2, ()), t, pairs, piece, i, ())) d.2.1 d.2.2.1.1 d.2.2.1.2.1 d.2.2.2.1.1 d.2.2.2.1.2.1 d.2.2.2.1.2.2.1 d.2.2.2.2.1 d.2.2.2.2.2.1 d.2.2.2.2.2.2.1 d.2.2.2.2.2.2.2.1
noncomputable def L70_8 (k : Nat) (j : Nat) (l_1 : List Y1_3) (t2 : Int) (t2_1 : Int) (c : Int) (c1 : Int) (c2 : Y1_17) (t : List Int) (pairs : List Int) (piece : Int) (i : Int) : Option Y1_4 := iter (R := ((Int × Int × List (Int × Int)) × Bool × Unit) × Unit) c70_L8 (b70_8 k) j ((), l_1, (t2, t2_1, (), ()), (c, c1, c2, ()), t, pairs, piece, i, ())
theorem L70_8_s (k : Nat) (j : Nat) (l_1 : List Y1_3) (t2 : Int) (t2_1 : Int) (c : Int) (c1 : Int) (c2 : Y1_17) (t : List Int) (pairs : List Int) (piece : Int) (i : Int) : L70_8 k (j + 1) l_1 t2 t2_1 c c1 c2 t pairs piece i = l70_8 k (L70_8 k j) l_1 t2 t2_1 c c1 c2 t pairs piece i := iter_succ _ _ _ _
noncomputable def S70 (k : Nat) (l_ : List Y1_3) : Option Y1_4 :=
 (S126 k l_).bind fun q0 =>
 (bif !q0.1.1 then
  some (((0, 0, []), false, ()), ())
 else
  (S127 k l_).bind fun q1 =>
  (S128 k l_).bind fun q2 =>
  L70_8 k k l_ 0 0 0 0 ([] : List (Int × Int)) q1.1.1 q2.1.1 0 0)
noncomputable def E70 : Env := tab.env (lk [(126, F126), (127, F127), (128, F128)]) (hintL [(16, 2)])
theorem E70_ok : EnvOK Tryz.prog E70 := envOK_of tabOK _ _ (allFn_lk (l := [(126, F126), (127, F127), (128, F128)]) ⟨ok126, ok127, ok128, trivial⟩)
noncomputable def B70 (k : Nat) : Tbl (RD R70 × MD P70) := (.loop 8 c70_L8 (b70_8 k) (fun g => (fun (g8 : Y1_2) => (.loop 16 c70_L16 (b70_16 k g8) (fun g => .nil) (.join 13 c70_J13 (fun d => j70_13 k g8 d.2.1 d.2.2.1.1 d.2.2.1.2.1 d.2.2.2.1.1 d.2.2.2.1.2.1 d.2.2.2.1.2.2.1 d.2.2.2.2.1 d.2.2.2.2.2.1 d.2.2.2.2.2.2.1 d.2.2.2.2.2.2.2.1) .nil))) (fun l_1 t2 t2_1 c c1 c2 t pairs piece i => g ((), l_1, (t2, t2_1, (), ()), (c, c1, c2, ()), t, pairs, piece, i, ()))) .nil)
noncomputable def F70 : Fn := ⟨P70, R70, fun k x => S70 k x.1⟩
theorem ok70 : FnOK Tryz.prog 70 F70 := evalF_ok (E := E70) (T := B70) E70_ok mix Tryz.func70 rfl (by kernel_rfl) (by kernel_rfl) (fun k => by kernel_rfl) (fun k x => by kernel_rfl)
noncomputable abbrev P121 : List PT := [.val ⟨false, (.sl 87 Y1_6), false⟩]
noncomputable abbrev R121 : List RT := [.val ⟨false, .bool, true⟩]
noncomputable abbrev c121_L2 : Cut := ⟨[0, 3], [.cell (.sl 87 Y1_6), .cell (.int .i64)], [], 16, []⟩
noncomputable def l121_2 (k : Nat) (g2 : (List Y1_3) → Int → Option Y1_11) (l_1 : List Y1_3) (i : Int) : Option Y1_11 :=
 (bif decide (i < (l_1.length : Int)) then
  ix l_1 i <|
  (bif (rd l_1 i (0, 0, 0, 0)).1 == 9 then
   some ((true, ()), ())
  else
   g2 l_1 (IntKind.i64.wrap (i + 1)))
 else
  some ((false, ()), ()))
noncomputable def b121_2 (k : Nat) (g : ((Unit) × (List Y1_3) × Int × Unit) → Option Y1_11) (d : (Unit) × (List Y1_3) × Int × Unit) : Option Y1_11 := l121_2 k (fun l_1 i => g ((), l_1, i, ())) d.2.1 d.2.2.1
noncomputable def L121_2 (k : Nat) (j : Nat) (l_1 : List Y1_3) (i : Int) : Option Y1_11 := iter (R := (Bool × Unit) × Unit) c121_L2 (b121_2 k) j ((), l_1, i, ())
theorem L121_2_s (k : Nat) (j : Nat) (l_1 : List Y1_3) (i : Int) : L121_2 k (j + 1) l_1 i = l121_2 k (L121_2 k j) l_1 i := iter_succ _ _ _ _
noncomputable def S121 (k : Nat) (l_ : List Y1_3) : Option Y1_11 :=
 L121_2 k k l_ 0
noncomputable def E121 : Env := tab.env (lk []) (hintL [])
theorem E121_ok : EnvOK Tryz.prog E121 := envOK_of tabOK _ _ (fun f F h => by cases h)
noncomputable def B121 (k : Nat) : Tbl (RD R121 × MD P121) := (.loop 2 c121_L2 (b121_2 k) (fun g => .nil) .nil)
noncomputable def F121 : Fn := ⟨P121, R121, fun k x => S121 k x.1⟩
theorem ok121 : FnOK Tryz.prog 121 F121 := evalF_ok (E := E121) (T := B121) E121_ok mix Tryz.func121 rfl (by kernel_rfl) (by kernel_rfl) (fun k => by kernel_rfl) (fun k x => by kernel_rfl)
noncomputable abbrev P68 : List PT := [.val ⟨true, Y1_1, false⟩]
noncomputable abbrev R68 : List RT := [.val ⟨false, (.int .i64), true⟩]
noncomputable def S68 (k : Nat) (t : Int × Int × Int × (List Y1_3) × (List Y1_3) × List Y1_3) : Option Y1_5 :=
 (S70 k t.2.2.2.1).bind fun q0 =>
 (S70 k t.2.2.2.2.1).bind fun q1 =>
 (S70 k t.2.2.2.2.2).bind fun q2 =>
 (bif decide (t.1 < 0) then
  some ((1, ()), ())
 else
  (bif decide (t.1 > 63) then
   some ((1, ()), ())
  else
   (bif decide (t.2.1 < 1) then
    some ((9, ()), ())
   else
    (bif decide (t.2.1 > 16384) then
     some ((9, ()), ())
    else
     (bif decide (t.2.2.1 < 1) then
      some ((9, ()), ())
     else
      (bif decide (t.2.2.1 > t.2.1) then
       some ((9, ()), ())
      else
       (bif !q0.1.2.1 then
        some ((2, ()), ())
       else
        (bif decide ((t.2.2.2.2.1.length : Int) > 0) then
         (bif !q1.1.2.1 then
          some ((2, ()), ())
         else
          (bif decide ((t.2.2.2.2.2.length : Int) > 0) then
           (bif !q2.1.2.1 then
            some ((2, ()), ())
           else
            (S121 k t.2.2.2.2.2).bind fun q3 =>
            (bif q3.1.1 then
             some ((2, ()), ())
            else
             (bif decide (q0.1.1.1 > t.2.2.1) then
              some ((10, ()), ())
             else
              (bif decide ((t.2.2.2.2.1.length : Int) > 0) then
               (bif decide (q1.1.1.1 > q0.1.1.1) then
                some ((12, ()), ())
               else
                some ((0, ()), ()))
              else
               some ((0, ()), ())))))
          else
           (bif decide (q0.1.1.1 > t.2.2.1) then
            some ((10, ()), ())
           else
            (bif decide ((t.2.2.2.2.1.length : Int) > 0) then
             (bif decide (q1.1.1.1 > q0.1.1.1) then
              some ((12, ()), ())
             else
              some ((0, ()), ()))
            else
             some ((0, ()), ())))))
        else
         (bif decide ((t.2.2.2.2.2.length : Int) > 0) then
          (bif !q2.1.2.1 then
           some ((2, ()), ())
          else
           (S121 k t.2.2.2.2.2).bind fun q4 =>
           (bif q4.1.1 then
            some ((2, ()), ())
           else
            (bif decide (q0.1.1.1 > t.2.2.1) then
             some ((10, ()), ())
            else
             (bif decide ((t.2.2.2.2.1.length : Int) > 0) then
              (bif decide (q1.1.1.1 > q0.1.1.1) then
               some ((12, ()), ())
              else
               some ((0, ()), ()))
             else
              some ((0, ()), ())))))
         else
          (bif decide (q0.1.1.1 > t.2.2.1) then
           some ((10, ()), ())
          else
           (bif decide ((t.2.2.2.2.1.length : Int) > 0) then
            (bif decide (q1.1.1.1 > q0.1.1.1) then
             some ((12, ()), ())
            else
             some ((0, ()), ()))
           else
            some ((0, ()), ()))))))))))))
noncomputable def E68 : Env := tab.env (lk [(70, F70), (121, F121)]) (hintL [])
theorem E68_ok : EnvOK Tryz.prog E68 := envOK_of tabOK _ _ (allFn_lk (l := [(70, F70), (121, F121)]) ⟨ok70, ok121, trivial⟩)
noncomputable def B68 (k : Nat) : Tbl (RD R68 × MD P68) := .nil
noncomputable def F68 : Fn := ⟨P68, R68, fun k x => S68 k x.1⟩
theorem ok68 : FnOK Tryz.prog 68 F68 := evalF_ok (E := E68) (T := B68) E68_ok mix Tryz.func68 rfl (by kernel_rfl) (by kernel_rfl) (fun k => by kernel_rfl) (fun k x => by kernel_rfl)
noncomputable abbrev P122 : List PT := [.val ⟨false, (.sl 77 Y1_1), false⟩]
noncomputable abbrev R122 : List RT := [.val ⟨false, .bool, true⟩]
noncomputable abbrev c122_L2 : Cut := ⟨[0, 3], [.cell (.sl 77 Y1_1), .cell (.int .i64)], [], 34, []⟩
noncomputable def l122_2 (k : Nat) (g2 : (List Y1_0) → Int → Option Y1_11) (l_1 : List Y1_0) (i : Int) : Option Y1_11 :=
 (bif decide (i < (l_1.length : Int)) then
  ix l_1 i <|
  (S68 k (rd l_1 i (0, 0, 0, [], [], []))).bind fun q0 =>
  (bif q0.1.1 != 0 then
   some ((false, ()), ())
  else
   (bif decide (i > 0) then
    ix l_1 i <|
    ix l_1 (IntKind.i64.wrap (i - 1)) <|
    (bif decide ((rd l_1 i (0, 0, 0, [], [], [])).1 ≤ (rd l_1 (IntKind.i64.wrap (i - 1)) (0, 0, 0, [], [], [])).1) then
     some ((false, ()), ())
    else
     g2 l_1 (IntKind.i64.wrap (i + 1)))
   else
    g2 l_1 (IntKind.i64.wrap (i + 1))))
 else
  some ((true, ()), ()))
noncomputable def b122_2 (k : Nat) (g : ((Unit) × (List Y1_0) × Int × Unit) → Option Y1_11) (d : (Unit) × (List Y1_0) × Int × Unit) : Option Y1_11 := l122_2 k (fun l_1 i => g ((), l_1, i, ())) d.2.1 d.2.2.1
noncomputable def L122_2 (k : Nat) (j : Nat) (l_1 : List Y1_0) (i : Int) : Option Y1_11 := iter (R := (Bool × Unit) × Unit) c122_L2 (b122_2 k) j ((), l_1, i, ())
theorem L122_2_s (k : Nat) (j : Nat) (l_1 : List Y1_0) (i : Int) : L122_2 k (j + 1) l_1 i = l122_2 k (L122_2 k j) l_1 i := iter_succ _ _ _ _
noncomputable def S122 (k : Nat) (l_ : List Y1_0) : Option Y1_11 :=
 L122_2 k k l_ 0
noncomputable def E122 : Env := tab.env (lk [(68, F68)]) (hintL [])
theorem E122_ok : EnvOK Tryz.prog E122 := envOK_of tabOK _ _ (allFn_lk (l := [(68, F68)]) ⟨ok68, trivial⟩)
noncomputable def B122 (k : Nat) : Tbl (RD R122 × MD P122) := (.loop 2 c122_L2 (b122_2 k) (fun g => .nil) .nil)
noncomputable def F122 : Fn := ⟨P122, R122, fun k x => S122 k x.1⟩
theorem ok122 : FnOK Tryz.prog 122 F122 := evalF_ok (E := E122) (T := B122) E122_ok mix Tryz.func122 rfl (by kernel_rfl) (by kernel_rfl) (fun k => by kernel_rfl) (fun k x => by kernel_rfl)
noncomputable abbrev P124 : List PT := [.val ⟨true, Y1_1, false⟩]
noncomputable abbrev R124 : List RT := [.val ⟨false, (.int .i64), true⟩, .val ⟨false, (.int .i64), true⟩, .val ⟨false, (.sl 230 Y1_15), true⟩]
noncomputable abbrev c124_J8 : Cut := ⟨[5, 7, 9], [.box 161 [.cell (.int .i64), .cell (.int .i64), .own 230 Y1_15], .box 161 [.cell (.int .i64), .cell (.int .i64), .own 230 Y1_15], .cell (.int .i64)], [], 43, []⟩
noncomputable def j124_8 (k : Nat) (main : Int) (main1 : Int) (main2 : Y1_17) (way : Int) (way1 : Int) (way2 : Y1_17) (lost : Int) : Option (Y1_13 × Unit) :=
 ap ([] : List (Int × Int)) main2 16 fun r3 =>
 ap r3 way2 16 fun r4 =>
 some ((main, lost, r4, ()), ())
noncomputable def S124 (k : Nat) (t : Int × Int × Int × (List Y1_3) × (List Y1_3) × List Y1_3) : Option (Y1_13 × Unit) :=
 (S68 k t).bind fun q0 =>
 (bif q0.1.1 != 0 then
  some ((0, 0, [], ()), ())
 else
  (S70 k t.2.2.2.1).bind fun q1 =>
  (S70 k t.2.2.2.2.1).bind fun q2 =>
  (bif decide ((t.2.2.2.2.1.length : Int) > 0) then
   j124_8 k q1.1.1.1 q1.1.1.2.1 q1.1.1.2.2 q2.1.1.1 q2.1.1.2.1 q2.1.1.2.2 q2.1.1.1
  else
   j124_8 k q1.1.1.1 q1.1.1.2.1 q1.1.1.2.2 q2.1.1.1 q2.1.1.2.1 q2.1.1.2.2 q1.1.1.2.1))
noncomputable def E124 : Env := tab.env (lk [(68, F68), (70, F70)]) (hintL [])
theorem E124_ok : EnvOK Tryz.prog E124 := envOK_of tabOK _ _ (allFn_lk (l := [(68, F68), (70, F70)]) ⟨ok68, ok70, trivial⟩)
noncomputable def B124 (k : Nat) : Tbl (RD R124 × MD P124) := (.join 8 c124_J8 (fun d => j124_8 k d.2.1.1 d.2.1.2.1 d.2.1.2.2.1 d.2.2.1.1 d.2.2.1.2.1 d.2.2.1.2.2.1 d.2.2.2.1) .nil)
noncomputable def F124 : Fn := ⟨P124, R124, fun k x => S124 k x.1⟩
theorem ok124 : FnOK Tryz.prog 124 F124 := evalF_ok (E := E124) (T := B124) E124_ok mix Tryz.func124 rfl (by kernel_rfl) (by kernel_rfl) (fun k => by kernel_rfl) (fun k x => by kernel_rfl)
noncomputable abbrev P41 : List PT := [.val ⟨false, (.sl 77 Y1_1), false⟩, .val ⟨false, (.int .i64), false⟩]
noncomputable abbrev R41 : List RT := [.val ⟨false, (.int .i64), true⟩]
noncomputable abbrev c41_L6 : Cut := ⟨[0, 1, 5, 6, 7], [.cell (.sl 77 Y1_1), .cell (.int .i64), .cell (.int .i64), .own 87 Y1_6, .cell (.int .i64)], [], 49, []⟩
noncomputable def l41_6 (k : Nat) (g2 : Y1_14) (g6 : (List Y1_0) → Int → Int → (List Y1_3) → Int → Option Y1_5) (l_2 : List Y1_0) (s2 : Int) (i1 : Int) (code : List Y1_3) (k_ : Int) : Option Y1_5 :=
 (bif decide (k_ < (code.length : Int)) then
  ix code k_ <|
  (bif (rd code k_ (0, 0, 0, 0)).1 == 9 then
   ix code k_ <|
   (bif (rd code k_ (0, 0, 0, 0)).2.1 == s2 then
    some ((i1, ()), ())
   else
    g6 l_2 s2 i1 code (IntKind.i64.wrap (k_ + 1)))
  else
   g6 l_2 s2 i1 code (IntKind.i64.wrap (k_ + 1)))
 else
  g2 l_2 s2 (IntKind.i64.wrap (i1 + 1)))
noncomputable def b41_6 (k : Nat) (g2 : Y1_14) (g : ((Unit) × (List Y1_0) × Int × Int × (List Y1_3) × Int × Unit) → Option Y1_5) (d : (Unit) × (List Y1_0) × Int × Int × (List Y1_3) × Int × Unit) : Option Y1_5 := l41_6 k g2 (fun l_2 s2 i1 code k_ => g ((), l_2, s2, i1, code, k_, ())) d.2.1 d.2.2.1 d.2.2.2.1 d.2.2.2.2.1 d.2.2.2.2.2.1
noncomputable def L41_6 (k : Nat) (g2 : Y1_14) (j : Nat) (l_2 : List Y1_0) (s2 : Int) (i1 : Int) (code : List Y1_3) (k_ : Int) : Option Y1_5 := iter (R := (Int × Unit) × Unit) c41_L6 (b41_6 k g2) j ((), l_2, s2, i1, code, k_, ())
theorem L41_6_s (k : Nat) (g2 : Y1_14) (j : Nat) (l_2 : List Y1_0) (s2 : Int) (i1 : Int) (code : List Y1_3) (k_ : Int) : L41_6 k g2 (j + 1) l_2 s2 i1 code k_ = l41_6 k g2 (L41_6 k g2 j) l_2 s2 i1 code k_ := iter_succ _ _ _ _
noncomputable abbrev c41_L2 : Cut := ⟨[0, 1, 5], [.cell (.sl 77 Y1_1), .cell (.int .i64), .cell (.int .i64)], [], 49, []⟩
noncomputable def l41_2 (k : Nat) (g2 : Y1_14) (l_1 : List Y1_0) (s1 : Int) (i : Int) : Option Y1_5 :=
 (bif decide (i < (l_1.length : Int)) then
  ix l_1 i <|
  ap ([] : List Y1_3) (rd l_1 i (0, 0, 0, [], [], [])).2.2.2.1 32 fun r0 =>
  ix l_1 i <|
  ap r0 (rd l_1 i (0, 0, 0, [], [], [])).2.2.2.2.1 32 fun r1 =>
  L41_6 k g2 k l_1 s1 i r1 0
 else
  some ((8, ()), ()))
noncomputable def b41_2 (k : Nat) (g : ((Unit) × (List Y1_0) × Int × Int × Unit) → Option Y1_5) (d : (Unit) × (List Y1_0) × Int × Int × Unit) : Option Y1_5 := l41_2 k (fun l_1 s1 i => g ((), l_1, s1, i, ())) d.2.1 d.2.2.1 d.2.2.2.1
noncomputable def L41_2 (k : Nat) (j : Nat) (l_1 : List Y1_0) (s1 : Int) (i : Int) : Option Y1_5 := iter (R := (Int × Unit) × Unit) c41_L2 (b41_2 k) j ((), l_1, s1, i, ())
theorem L41_2_s (k : Nat) (j : Nat) (l_1 : List Y1_0) (s1 : Int) (i : Int) : L41_2 k (j + 1) l_1 s1 i = l41_2 k (L41_2 k j) l_1 s1 i := iter_succ _ _ _ _
noncomputable def S41 (k : Nat) (l_ : List Y1_0) (s : Int) : Option Y1_5 :=
 L41_2 k k l_ s 0
noncomputable def E41 : Env := tab.env (lk []) (hintL [])
theorem E41_ok : EnvOK Tryz.prog E41 := envOK_of tabOK _ _ (fun f F h => by cases h)
noncomputable def B41 (k : Nat) : Tbl (RD R41 × MD P41) := (.loop 2 c41_L2 (b41_2 k) (fun g => (fun (g2 : Y1_14) => (.loop 6 c41_L6 (b41_6 k g2) (fun g => .nil) .nil)) (fun l_1 s1 i => g ((), l_1, s1, i, ()))) .nil)
noncomputable def F41 : Fn := ⟨P41, R41, fun k x => S41 k x.1 x.2.1⟩
theorem ok41 : FnOK Tryz.prog 41 F41 := evalF_ok (E := E41) (T := B41) E41_ok mix Tryz.func41 rfl (by kernel_rfl) (by kernel_rfl) (fun k => by kernel_rfl) (fun k x => by kernel_rfl)
noncomputable abbrev P125 : List PT := [.val ⟨false, (.sl 77 Y1_1), false⟩, .val ⟨false, (.int .i64), false⟩]
noncomputable abbrev R125 : List RT := [.val ⟨false, (.int .i64), true⟩]
noncomputable abbrev c125_L8 : Cut := ⟨[0, 1, 5, 6, 9, 10], [.cell (.sl 77 Y1_1), .cell (.int .i64), .cell (.int .i64), .cell (.int .i64), .own 230 Y1_15, .cell (.int .i64)], [], 52, []⟩
noncomputable def l125_8 (k : Nat) (g3 : Y1_8) (g8 : (List Y1_0) → Int → Int → Int → (List (Int × Int)) → Int → Option Y1_5) (l_2 : List Y1_0) (i2 : Int) (most1 : Int) (k_1 : Int) (spans : Y1_17) (n : Int) : Option Y1_5 :=
 (bif decide (n < (spans.length : Int)) then
  ix spans n <|
  (S41 k l_2 (rd spans n (0, 0)).1).bind fun q1 =>
  (bif decide (q1.1.1 ≤ i2) then
   ix spans n <|
   g8 l_2 i2 (mx most1 (rd spans n (0, 0)).2) k_1 spans (IntKind.i64.wrap (n + 1))
  else
   g8 l_2 i2 most1 k_1 spans (IntKind.i64.wrap (n + 1)))
 else
  g3 l_2 i2 most1 (IntKind.i64.wrap (k_1 + 1)))
noncomputable def b125_8 (k : Nat) (g3 : Y1_8) (g : ((Unit) × (List Y1_0) × Int × Int × Int × (List (Int × Int)) × Int × Unit) → Option Y1_5) (d : (Unit) × (List Y1_0) × Int × Int × Int × (List (Int × Int)) × Int × Unit) : Option Y1_5 := l125_8 k g3 (fun l_2 i2 most1 k_1 spans n => g ((), l_2, i2, most1, k_1, spans, n, ())) d.2.1 d.2.2.1 d.2.2.2.1 d.2.2.2.2.1 d.2.2.2.2.2.1 d.2.2.2.2.2.2.1
noncomputable def L125_8 (k : Nat) (g3 : Y1_8) (j : Nat) (l_2 : List Y1_0) (i2 : Int) (most1 : Int) (k_1 : Int) (spans : Y1_17) (n : Int) : Option Y1_5 := iter (R := (Int × Unit) × Unit) c125_L8 (b125_8 k g3) j ((), l_2, i2, most1, k_1, spans, n, ())
theorem L125_8_s (k : Nat) (g3 : Y1_8) (j : Nat) (l_2 : List Y1_0) (i2 : Int) (most1 : Int) (k_1 : Int) (spans : Y1_17) (n : Int) : L125_8 k g3 (j + 1) l_2 i2 most1 k_1 spans n = l125_8 k g3 (L125_8 k g3 j) l_2 i2 most1 k_1 spans n := iter_succ _ _ _ _
noncomputable abbrev c125_L3 : Cut := ⟨[0, 1, 5, 6], [.cell (.sl 77 Y1_1), .cell (.int .i64), .cell (.int .i64), .cell (.int .i64)], [], 52, []⟩
noncomputable def l125_3 (k : Nat) (g3 : Y1_8) (l_1 : List Y1_0) (i1 : Int) (most : Int) (k_ : Int) : Option Y1_5 :=
 (bif decide (k_ < (l_1.length : Int)) then
  (bif k_ == i1 then
   g3 l_1 i1 most (IntKind.i64.wrap (k_ + 1))
  else
   ix l_1 k_ <|
   (S124 k (rd l_1 k_ (0, 0, 0, [], [], []))).bind fun q0 =>
   L125_8 k g3 k l_1 i1 most k_ q0.1.2.2.1 0)
 else
  some ((most, ()), ()))
noncomputable def b125_3 (k : Nat) (g : ((Unit) × (List Y1_0) × Int × Int × Int × Unit) → Option Y1_5) (d : (Unit) × (List Y1_0) × Int × Int × Int × Unit) : Option Y1_5 := l125_3 k (fun l_1 i1 most k_ => g ((), l_1, i1, most, k_, ())) d.2.1 d.2.2.1 d.2.2.2.1 d.2.2.2.2.1
noncomputable def L125_3 (k : Nat) (j : Nat) (l_1 : List Y1_0) (i1 : Int) (most : Int) (k_ : Int) : Option Y1_5 := iter (R := (Int × Unit) × Unit) c125_L3 (b125_3 k) j ((), l_1, i1, most, k_, ())
theorem L125_3_s (k : Nat) (j : Nat) (l_1 : List Y1_0) (i1 : Int) (most : Int) (k_ : Int) : L125_3 k (j + 1) l_1 i1 most k_ = l125_3 k (L125_3 k j) l_1 i1 most k_ := iter_succ _ _ _ _
noncomputable def S125 (k : Nat) (l_ : List Y1_0) (i : Int) : Option Y1_5 :=
 L125_3 k k l_ i 0 0
noncomputable def E125 : Env := tab.env (lk [(41, F41), (124, F124)]) (hintL [])
theorem E125_ok : EnvOK Tryz.prog E125 := envOK_of tabOK _ _ (allFn_lk (l := [(41, F41), (124, F124)]) ⟨ok41, ok124, trivial⟩)
noncomputable def B125 (k : Nat) : Tbl (RD R125 × MD P125) := (.loop 3 c125_L3 (b125_3 k) (fun g => (fun (g3 : Y1_8) => (.loop 8 c125_L8 (b125_8 k g3) (fun g => .nil) .nil)) (fun l_1 i1 most k_ => g ((), l_1, i1, most, k_, ()))) .nil)
noncomputable def F125 : Fn := ⟨P125, R125, fun k x => S125 k x.1 x.2.1⟩
theorem ok125 : FnOK Tryz.prog 125 F125 := evalF_ok (E := E125) (T := B125) E125_ok mix Tryz.func125 rfl (by kernel_rfl) (by kernel_rfl) (fun k => by kernel_rfl) (fun k x => by kernel_rfl)
noncomputable abbrev P172 : List PT := [.val ⟨false, (.sl 77 Y1_1), false⟩, .val ⟨false, (.int .i64), false⟩]
noncomputable abbrev R172 : List RT := [.val ⟨true, (.pair (.sl 2 (.int .i64)) (.pair (.int .i64) (.pair (.int .i64) (.sl 2 (.int .i64))))), true⟩]
noncomputable abbrev c172_L3 : Cut := ⟨[0, 1, 4, 5, 6], [.cell (.sl 77 Y1_1), .cell (.int .i64), .box 272 [.nil, .cell (.int .i64), .cell (.int .i64), .nil], .box 272 [.own 2 (.int .i64), .cell (.int .i64), .cell (.int .i64), .own 2 (.int .i64)], .cell (.int .i64)], [], 50, []⟩
noncomputable def l172_3 (k : Nat) (g3 : (List Y1_0) → Int → Int → Int → (List Int) → Int → Int → (List Int) → Int → Option Y1_7) (l_1 : List Y1_0) (i1 : Int) (t4 : Int) (t4_1 : Int) (x : List Int) (x1 : Int) (x2 : Int) (x3 : List Int) (k_ : Int) : Option Y1_7 :=
 (bif decide (k_ ≤ i1) then
  ix l_1 k_ <|
  (S124 k (rd l_1 k_ (0, 0, 0, [], [], []))).bind fun q1 =>
  ap x ([q1.1.1] : List Int) 8 fun r2 =>
  ix l_1 k_ <|
  ap x3 ([(rd l_1 k_ (0, 0, 0, [], [], [])).2.1] : List Int) 8 fun r3 =>
  g3 l_1 i1 t4 t4_1 r2 (mx x1 q1.1.2.1) x2 r3 (IntKind.i64.wrap (k_ + 1))
 else
  some (((x, x1, x2, x3), ()), ()))
noncomputable def b172_3 (k : Nat) (g : ((Unit) × (List Y1_0) × Int × (Unit × Int × Int × Unit × Unit) × Y1_10 × Int × Unit) → Option Y1_7) (d : (Unit) × (List Y1_0) × Int × (Unit × Int × Int × Unit × Unit) × Y1_10 × Int × Unit) : Option Y1_7 := l172_3 k (fun l_1 i1 t4 t4_1 x x1 x2 x3 k_ => g ((), l_1, i1, ((), t4, t4_1, (), ()), (x, x1, x2, x3, ()), k_, ())) d.2.1 d.2.2.1 d.2.2.2.1.2.1 d.2.2.2.1.2.2.1 d.2.2.2.2.1.1 d.2.2.2.2.1.2.1 d.2.2.2.2.1.2.2.1 d.2.2.2.2.1.2.2.2.1 d.2.2.2.2.2.1
noncomputable def L172_3 (k : Nat) (j : Nat) (l_1 : List Y1_0) (i1 : Int) (t4 : Int) (t4_1 : Int) (x : List Int) (x1 : Int) (x2 : Int) (x3 : List Int) (k_ : Int) : Option Y1_7 := iter (R := (((List Int) × Int × Int × List Int) × Unit) × Unit) c172_L3 (b172_3 k) j ((), l_1, i1, ((), t4, t4_1, (), ()), (x, x1, x2, x3, ()), k_, ())
theorem L172_3_s (k : Nat) (j : Nat) (l_1 : List Y1_0) (i1 : Int) (t4 : Int) (t4_1 : Int) (x : List Int) (x1 : Int) (x2 : Int) (x3 : List Int) (k_ : Int) : L172_3 k (j + 1) l_1 i1 t4 t4_1 x x1 x2 x3 k_ = l172_3 k (L172_3 k j) l_1 i1 t4 t4_1 x x1 x2 x3 k_ := iter_succ _ _ _ _
noncomputable def S172 (k : Nat) (l_ : List Y1_0) (i : Int) : Option Y1_7 :=
 (S125 k l_ i).bind fun q0 =>
 L172_3 k k l_ i 0 0 ([] : List Int) 0 q0.1.1 ([] : List Int) 0
noncomputable def E172 : Env := tab.env (lk [(124, F124), (125, F125)]) (hintL [(13, 2)])
theorem E172_ok : EnvOK Tryz.prog E172 := envOK_of tabOK _ _ (allFn_lk (l := [(124, F124), (125, F125)]) ⟨ok124, ok125, trivial⟩)
noncomputable def B172 (k : Nat) : Tbl (RD R172 × MD P172) := (.loop 3 c172_L3 (b172_3 k) (fun g => .nil) .nil)
noncomputable def F172 : Fn := ⟨P172, R172, fun k x => S172 k x.1 x.2.1⟩
theorem ok172 : FnOK Tryz.prog 172 F172 := evalF_ok (E := E172) (T := B172) E172_ok mix Tryz.func172 rfl (by kernel_rfl) (by kernel_rfl) (fun k => by kernel_rfl) (fun k x => by kernel_rfl)
noncomputable abbrev P218 : List PT := [.val ⟨false, (.int .i64), false⟩, .val ⟨false, (.int .i64), false⟩]
noncomputable abbrev R218 : List RT := [.val ⟨false, (.int .i64), true⟩, .val ⟨false, .bool, true⟩]
noncomputable def S218 (k : Nat) (a : Int) (b : Int) : Option Y1_9 :=
 (bif decide (a > (IntKind.i64.wrap (9223372036854775807 - b))) then
  some ((0, false, ()), ())
 else
  some ((IntKind.i64.wrap (a + b), true, ()), ()))
noncomputable def E218 : Env := tab.env (lk []) (hintL [])
theorem E218_ok : EnvOK Tryz.prog E218 := envOK_of tabOK _ _ (fun f F h => by cases h)
noncomputable def B218 (k : Nat) : Tbl (RD R218 × MD P218) := .nil
noncomputable def F218 : Fn := ⟨P218, R218, fun k x => S218 k x.1 x.2.1⟩
theorem ok218 : FnOK Tryz.prog 218 F218 := evalF_ok (E := E218) (T := B218) E218_ok mix Tryz.func218 rfl (by kernel_rfl) (by kernel_rfl) (fun k => by kernel_rfl) (fun k x => by kernel_rfl)
noncomputable abbrev P219 : List PT := [.val ⟨false, (.int .i64), false⟩, .val ⟨false, (.int .i64), false⟩]
noncomputable abbrev R219 : List RT := [.val ⟨false, (.int .i64), true⟩, .val ⟨false, .bool, true⟩]
noncomputable def S219 (k : Nat) (a : Int) (b : Int) : Option Y1_9 :=
 (bif decide (b < 1) then
  some ((0, false, ()), ())
 else
  (bif decide (a < 0) then
   some ((0, false, ()), ())
  else
   nz b <|
   nz b <|
   (bif decide ((Int.tmod a b) > 0) then
    some ((IntKind.i64.wrap ((IntKind.i64.wrap (Int.tdiv a b)) + 1), true, ()), ())
   else
    some ((IntKind.i64.wrap (Int.tdiv a b), true, ()), ()))))
noncomputable def E219 : Env := tab.env (lk []) (hintL [])
theorem E219_ok : EnvOK Tryz.prog E219 := envOK_of tabOK _ _ (fun f F h => by cases h)
noncomputable def B219 (k : Nat) : Tbl (RD R219 × MD P219) := .nil
noncomputable def F219 : Fn := ⟨P219, R219, fun k x => S219 k x.1 x.2.1⟩
theorem ok219 : FnOK Tryz.prog 219 F219 := evalF_ok (E := E219) (T := B219) E219_ok mix Tryz.func219 rfl (by kernel_rfl) (by kernel_rfl) (fun k => by kernel_rfl) (fun k x => by kernel_rfl)
noncomputable abbrev P220 : List PT := [.val ⟨false, (.int .i64), false⟩, .val ⟨false, (.int .i64), false⟩]
noncomputable abbrev R220 : List RT := [.val ⟨false, (.int .i64), true⟩, .val ⟨false, .bool, true⟩]
noncomputable def S220 (k : Nat) (a : Int) (b : Int) : Option Y1_9 :=
 (bif decide (a > 0) then
  nz a <|
  (bif decide (b > (IntKind.i64.wrap (Int.tdiv 9223372036854775807 a))) then
   some ((0, false, ()), ())
  else
   some ((IntKind.i64.wrap (a * b), true, ()), ()))
 else
  some ((IntKind.i64.wrap (a * b), true, ()), ()))
noncomputable def E220 : Env := tab.env (lk []) (hintL [])
theorem E220_ok : EnvOK Tryz.prog E220 := envOK_of tabOK _ _ (fun f F h => by cases h)
noncomputable def B220 (k : Nat) : Tbl (RD R220 × MD P220) := .nil
noncomputable def F220 : Fn := ⟨P220, R220, fun k x => S220 k x.1 x.2.1⟩
theorem ok220 : FnOK Tryz.prog 220 F220 := evalF_ok (E := E220) (T := B220) E220_ok mix Tryz.func220 rfl (by kernel_rfl) (by kernel_rfl) (fun k => by kernel_rfl) (fun k x => by kernel_rfl)
noncomputable abbrev P173 : List PT := [.val ⟨true, (.pair (.sl 2 (.int .i64)) (.pair (.int .i64) (.pair (.int .i64) (.sl 2 (.int .i64))))), false⟩, .val ⟨false, (.int .i64), false⟩, .val ⟨false, (.int .i64), false⟩]
noncomputable abbrev R173 : List RT := [.val ⟨false, (.int .i64), true⟩, .val ⟨false, .bool, true⟩]
noncomputable abbrev c173_L9 : Cut := ⟨[2, 3, 8, 9, 10, 15], [.cell (.int .i64), .box 272 [.cell (.sl 2 (.int .i64)), .cell (.int .i64), .cell (.int .i64), .cell (.sl 2 (.int .i64))], .cell (.int .i64), .cell (.int .i64), .cell .bool, .cell (.int .i64)], [], 94, []⟩
noncomputable def l173_9 (k : Nat) (g9 : Int → (List Int) → Int → Int → (List Int) → Int → Int → Bool → Int → Option Y1_9) (r_2 : Int) (x5 : List Int) (x6 : Int) (x7 : Int) (x8 : List Int) (i1 : Int) (out1 : Int) (ok1 : Bool) (k_ : Int) : Option Y1_9 :=
 (bif decide (k_ < i1) then
  (bif ok1 then
   ix x8 k_ <|
   (S219 k r_2 (rd x8 k_ 0)).bind fun q4 =>
   ix x5 k_ <|
   (S220 k q4.1.1 (rd x5 k_ 0)).bind fun q5 =>
   (bif q5.1.2.1 then
    (S218 k out1 q5.1.1).bind fun q6 =>
    g9 r_2 x5 x6 x7 x8 i1 q6.1.1 q6.1.2.1 (IntKind.i64.wrap (k_ + 1))
   else
    g9 r_2 x5 x6 x7 x8 i1 out1 q5.1.2.1 (IntKind.i64.wrap (k_ + 1)))
  else
   some ((out1, ok1, ()), ()))
 else
  some ((out1, ok1, ()), ()))
noncomputable def b173_9 (k : Nat) (g : ((Unit) × Int × Y1_10 × Int × Int × Bool × Int × Unit) → Option Y1_9) (d : (Unit) × Int × Y1_10 × Int × Int × Bool × Int × Unit) : Option Y1_9 := l173_9 k (fun r_2 x5 x6 x7 x8 i1 out1 ok1 k_ => g ((), r_2, (x5, x6, x7, x8, ()), i1, out1, ok1, k_, ())) d.2.1 d.2.2.1.1 d.2.2.1.2.1 d.2.2.1.2.2.1 d.2.2.1.2.2.2.1 d.2.2.2.1 d.2.2.2.2.1 d.2.2.2.2.2.1 d.2.2.2.2.2.2.1
noncomputable def L173_9 (k : Nat) (j : Nat) (r_2 : Int) (x5 : List Int) (x6 : Int) (x7 : Int) (x8 : List Int) (i1 : Int) (out1 : Int) (ok1 : Bool) (k_ : Int) : Option Y1_9 := iter (R := (Int × Bool × Unit) × Unit) c173_L9 (b173_9 k) j ((), r_2, (x5, x6, x7, x8, ()), i1, out1, ok1, k_, ())
theorem L173_9_s (k : Nat) (j : Nat) (r_2 : Int) (x5 : List Int) (x6 : Int) (x7 : Int) (x8 : List Int) (i1 : Int) (out1 : Int) (ok1 : Bool) (k_ : Int) : L173_9 k (j + 1) r_2 x5 x6 x7 x8 i1 out1 ok1 k_ = l173_9 k (L173_9 k j) r_2 x5 x6 x7 x8 i1 out1 ok1 k_ := iter_succ _ _ _ _
noncomputable abbrev c173_J6 : Cut := ⟨[2, 3, 8, 9, 10, 13], [.cell (.int .i64), .box 272 [.cell (.sl 2 (.int .i64)), .cell (.int .i64), .cell (.int .i64), .cell (.sl 2 (.int .i64))], .cell (.int .i64), .cell (.int .i64), .cell .bool, .cell (.int .i64)], [], 94, []⟩
noncomputable def j173_6 (k : Nat) (r_1 : Int) (x1 : List Int) (x2 : Int) (x3 : Int) (x4 : List Int) (i : Int) (out : Int) (ok : Bool) (f : Int) : Option Y1_9 :=
 (bif ok then
  (S218 k out f).bind fun q3 =>
  L173_9 k k r_1 x1 x2 x3 x4 i q3.1.1 q3.1.2.1 0
 else
  L173_9 k k r_1 x1 x2 x3 x4 i out ok 0)
noncomputable def S173 (k : Nat) (x : (List Int) × Int × Int × List Int) (apart : Int) (r_ : Int) : Option Y1_9 :=
 ix x.1 (IntKind.i64.wrap ((x.1.length : Int) - 1)) <|
 (S218 k (rd x.1 (IntKind.i64.wrap ((x.1.length : Int) - 1)) 0) x.2.2.1).bind fun q0 =>
 (S219 k r_ apart).bind fun q1 =>
 (S220 k q1.1.1 x.2.1).bind fun q2 =>
 (bif q0.1.2.1 then
  j173_6 k r_ x.1 x.2.1 x.2.2.1 x.2.2.2 (IntKind.i64.wrap ((x.1.length : Int) - 1)) q0.1.1 q2.1.2.1 q2.1.1
 else
  j173_6 k r_ x.1 x.2.1 x.2.2.1 x.2.2.2 (IntKind.i64.wrap ((x.1.length : Int) - 1)) q0.1.1 false q2.1.1)
noncomputable def E173 : Env := tab.env (lk [(218, F218), (219, F219), (220, F220)]) (hintL [])
theorem E173_ok : EnvOK Tryz.prog E173 := envOK_of tabOK _ _ (allFn_lk (l := [(218, F218), (219, F219), (220, F220)]) ⟨ok218, ok219, ok220, trivial⟩)
noncomputable def B173 (k : Nat) : Tbl (RD R173 × MD P173) := (.loop 9 c173_L9 (b173_9 k) (fun g => .nil) (.join 6 c173_J6 (fun d => j173_6 k d.2.1 d.2.2.1.1 d.2.2.1.2.1 d.2.2.1.2.2.1 d.2.2.1.2.2.2.1 d.2.2.2.1 d.2.2.2.2.1 d.2.2.2.2.2.1 d.2.2.2.2.2.2.1) .nil))
noncomputable def F173 : Fn := ⟨P173, R173, fun k x => S173 k x.1 x.2.1 x.2.2.1⟩
theorem ok173 : FnOK Tryz.prog 173 F173 := evalF_ok (E := E173) (T := B173) E173_ok mix Tryz.func173 rfl (by kernel_rfl) (by kernel_rfl) (fun k => by kernel_rfl) (fun k x => by kernel_rfl)
noncomputable abbrev P123 : List PT := [.val ⟨false, (.sl 77 Y1_1), false⟩, .val ⟨false, (.int .i64), false⟩, .val ⟨false, (.int .i64), false⟩]
noncomputable abbrev R123 : List RT := [.val ⟨false, (.int .i64), true⟩, .val ⟨false, (.int .i64), true⟩, .val ⟨false, (.int .i64), true⟩]
noncomputable abbrev c123_L7 : Cut := ⟨[0, 1, 2, 9, 10, 11], [.cell (.sl 77 Y1_1), .cell (.int .i64), .cell (.int .i64), .box 272 [.own 2 (.int .i64), .cell (.int .i64), .cell (.int .i64), .own 2 (.int .i64)], .cell (.int .i64), .cell (.int .i64)], [], 66, []⟩
noncomputable def l123_7 (k : Nat) (g7 : (List Y1_0) → Int → Int → (List Int) → Int → Int → (List Int) → Int → Int → Option Y1_16) (l_1 : List Y1_0) (i1 : Int) (apart1 : Int) (x : List Int) (x1 : Int) (x2 : Int) (x3 : List Int) (r_ : Int) (n : Int) : Option Y1_16 :=
 (S173 k (x, x1, x2, x3) apart1 r_).bind fun q2 =>
 (bif !q2.1.2.1 then
  some ((0, 0, 13, ()), ())
 else
  ix l_1 i1 <|
  (bif decide (q2.1.1 > (rd l_1 i1 (0, 0, 0, [], [], [])).2.2.1) then
   some ((0, 0, 14, ()), ())
  else
   (bif q2.1.1 == r_ then
    some ((r_, n, 0, ()), ())
   else
    g7 l_1 i1 apart1 x x1 x2 x3 q2.1.1 (IntKind.i64.wrap (n + 1)))))
noncomputable def b123_7 (k : Nat) (g : ((Unit) × (List Y1_0) × Int × Int × Y1_10 × Int × Int × Unit) → Option Y1_16) (d : (Unit) × (List Y1_0) × Int × Int × Y1_10 × Int × Int × Unit) : Option Y1_16 := l123_7 k (fun l_1 i1 apart1 x x1 x2 x3 r_ n => g ((), l_1, i1, apart1, (x, x1, x2, x3, ()), r_, n, ())) d.2.1 d.2.2.1 d.2.2.2.1 d.2.2.2.2.1.1 d.2.2.2.2.1.2.1 d.2.2.2.2.1.2.2.1 d.2.2.2.2.1.2.2.2.1 d.2.2.2.2.2.1 d.2.2.2.2.2.2.1
noncomputable def L123_7 (k : Nat) (j : Nat) (l_1 : List Y1_0) (i1 : Int) (apart1 : Int) (x : List Int) (x1 : Int) (x2 : Int) (x3 : List Int) (r_ : Int) (n : Int) : Option Y1_16 := iter (R := (Int × Int × Int × Unit) × Unit) c123_L7 (b123_7 k) j ((), l_1, i1, apart1, (x, x1, x2, x3, ()), r_, n, ())
theorem L123_7_s (k : Nat) (j : Nat) (l_1 : List Y1_0) (i1 : Int) (apart1 : Int) (x : List Int) (x1 : Int) (x2 : Int) (x3 : List Int) (r_ : Int) (n : Int) : L123_7 k (j + 1) l_1 i1 apart1 x x1 x2 x3 r_ n = l123_7 k (L123_7 k j) l_1 i1 apart1 x x1 x2 x3 r_ n := iter_succ _ _ _ _
noncomputable def S123 (k : Nat) (l_ : List Y1_0) (i : Int) (apart : Int) : Option Y1_16 :=
 (S122 k l_).bind fun q0 =>
 (bif !q0.1.1 then
  some ((0, 0, 1, ()), ())
 else
  (bif decide (i < 0) then
   some ((0, 0, 1, ()), ())
  else
   (bif decide (i ≥ (l_.length : Int)) then
    some ((0, 0, 1, ()), ())
   else
    (bif decide (apart < 1) then
     some ((0, 0, 1, ()), ())
    else
     (S172 k l_ i).bind fun q1 =>
     ix q1.1.1.1 i <|
     L123_7 k k l_ i apart q1.1.1.1 q1.1.1.2.1 q1.1.1.2.2.1 q1.1.1.2.2.2 (IntKind.i64.wrap ((rd q1.1.1.1 i 0) + q1.1.1.2.2.1)) 1))))
noncomputable def E123 : Env := tab.env (lk [(122, F122), (172, F172), (173, F173)]) (hintL [])
theorem E123_ok : EnvOK Tryz.prog E123 := envOK_of tabOK _ _ (allFn_lk (l := [(122, F122), (172, F172), (173, F173)]) ⟨ok122, ok172, ok173, trivial⟩)
noncomputable def B123 (k : Nat) : Tbl (RD R123 × MD P123) := (.loop 7 c123_L7 (b123_7 k) (fun g => .nil) .nil)
noncomputable def F123 : Fn := ⟨P123, R123, fun k x => S123 k x.1 x.2.1 x.2.2.1⟩
theorem ok123 : FnOK Tryz.prog 123 F123 := evalF_ok (E := E123) (T := B123) E123_ok mix Tryz.func123 rfl (by kernel_rfl) (by kernel_rfl) (fun k => by kernel_rfl) (fun k x => by kernel_rfl)
noncomputable abbrev P69 : List PT := [.val ⟨false, (.sl 77 Y1_1), false⟩, .val ⟨false, (.int .i64), false⟩]
noncomputable abbrev R69 : List RT := [.val ⟨false, (.sl 96 (arrT 5 (.int .i64))), true⟩, .val ⟨false, (.int .i64), true⟩]
noncomputable abbrev c69_L5 : Cut := ⟨[0, 1, 6, 7], [.cell (.sl 77 Y1_1), .cell (.int .i64), .own 96 (arrT 5 (.int .i64)), .cell (.int .i64)], [], 65, []⟩
noncomputable def l69_5 (k : Nat) (g5 : (List Y1_0) → Int → (List (PN Int 5)) → Int → Option Y1_12) (l_1 : List Y1_0) (apart1 : Int) (out : List (PN Int 5)) (i : Int) : Option Y1_12 :=
 (bif decide (i < (l_1.length : Int)) then
  (S123 k l_1 i apart1).bind fun q1 =>
  (bif q1.1.2.2.1 != 0 then
   some (([], q1.1.2.2.1, ()), ())
  else
   ix l_1 i <|
   (S124 k (rd l_1 i (0, 0, 0, [], [], []))).bind fun q2 =>
   (S125 k l_1 i).bind fun q3 =>
   ix l_1 i <|
   ap out ([(q2.1.1, q2.1.2.1, q3.1.1, q1.1.1, IntKind.i64.wrap ((rd l_1 i (0, 0, 0, [], [], [])).2.2.1 - q1.1.1))] : List (PN Int 5)) 40 fun r4 =>
   g5 l_1 apart1 r4 (IntKind.i64.wrap (i + 1)))
 else
  some ((out, 0, ()), ()))
noncomputable def b69_5 (k : Nat) (g : ((Unit) × (List Y1_0) × Int × (List (PN Int 5)) × Int × Unit) → Option Y1_12) (d : (Unit) × (List Y1_0) × Int × (List (PN Int 5)) × Int × Unit) : Option Y1_12 := l69_5 k (fun l_1 apart1 out i => g ((), l_1, apart1, out, i, ())) d.2.1 d.2.2.1 d.2.2.2.1 d.2.2.2.2.1
noncomputable def L69_5 (k : Nat) (j : Nat) (l_1 : List Y1_0) (apart1 : Int) (out : List (PN Int 5)) (i : Int) : Option Y1_12 := iter (R := ((List (PN Int 5)) × Int × Unit) × Unit) c69_L5 (b69_5 k) j ((), l_1, apart1, out, i, ())
theorem L69_5_s (k : Nat) (j : Nat) (l_1 : List Y1_0) (apart1 : Int) (out : List (PN Int 5)) (i : Int) : L69_5 k (j + 1) l_1 apart1 out i = l69_5 k (L69_5 k j) l_1 apart1 out i := iter_succ _ _ _ _
noncomputable def S69 (k : Nat) (l_ : List Y1_0) (apart : Int) : Option Y1_12 :=
 (S122 k l_).bind fun q0 =>
 (bif !q0.1.1 then
  some (([], 1, ()), ())
 else
  (bif decide (apart < 1) then
   some (([], 1, ()), ())
  else
   L69_5 k k l_ apart ([] : List (PN Int 5)) 0))
noncomputable def E69 : Env := tab.env (lk [(122, F122), (123, F123), (124, F124), (125, F125)]) (hintL [(6, 2)])
theorem E69_ok : EnvOK Tryz.prog E69 := envOK_of tabOK _ _ (allFn_lk (l := [(122, F122), (123, F123), (124, F124), (125, F125)]) ⟨ok122, ok123, ok124, ok125, trivial⟩)
noncomputable def B69 (k : Nat) : Tbl (RD R69 × MD P69) := (.loop 5 c69_L5 (b69_5 k) (fun g => .nil) .nil)
noncomputable def F69 : Fn := ⟨P69, R69, fun k x => S69 k x.1 x.2.1⟩
theorem ok69 : FnOK Tryz.prog 69 F69 := evalF_ok (E := E69) (T := B69) E69_ok mix Tryz.func69 rfl (by kernel_rfl) (by kernel_rfl) (fun k => by kernel_rfl) (fun k x => by kernel_rfl)
end Go.Proofs.YtmmagcjlfcicfaaGreat.Ab
