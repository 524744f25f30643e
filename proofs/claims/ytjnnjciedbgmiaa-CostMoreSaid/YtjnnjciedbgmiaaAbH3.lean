import Derived.Test.YtjnnjciedbgmiaaAbH2
/- Contracts, printed by this session's own program gen.py. -/
set_option linter.unusedVariables false
set_option linter.unusedSimpArgs false
set_option maxRecDepth 100000
namespace Go.Proofs.Ytjnnjciedbgmiaa.Ab
open Go.RowKit Go.Proofs.YtjnnjciedbgmiaaW.PrintWords
abbrev Y3_0 : Type := (List (Int × Int × Int × Int)) → Int → Int → Int → Int → (List (Int × Int)) → (List Int) → (List Int) → Int → Int → Option (((Int × Int × List (Int × Int)) × Bool × Unit) × Unit)
abbrev Y3_1 : Type := Int × Int × Int × Int
abbrev Y3_2 : Type := ((Int × Int × List (Int × Int)) × Bool × Unit) × Unit
abbrev Y3_3 : Ty := .sl 41 (.pair (.int .i64) (.pair (.int .i64) (.pair (.int .i64) (.int .i64))))
abbrev Y3_4 : Type := (Bool × Unit) × Unit
abbrev Y3_5 : Type := Int × Int × (List (Int × Int)) × Unit
abbrev Y3_6 : Type := (List (List Y3_1)) → Int → Option Y3_4
abbrev Y3_7 : Ty := .pair (.int .i64) (.int .i64)
abbrev Y3_8 : Type := List (Int × Int)
/-! ### 27: 27 foliot/foliotref1.Cost -/
noncomputable abbrev P27 : List PT := [.val ⟨false, Y3_3, false⟩]
noncomputable abbrev R27 : List RT := [.val ⟨true, (.pair (.int .i64) (.pair (.int .i64) (.sl 54 Y3_7))), true⟩, .val ⟨false, .bool, true⟩]
noncomputable abbrev c27_L16 : Cut := ⟨[0, 2, 4, 5, 6, 8, 9, 10, 11], [.cell Y3_3, .box 50 [.cell (.int .i64), .cell (.int .i64), .nil], .box 50 [.cell (.int .i64), .cell (.int .i64), .own 54 Y3_7], .own 2 (.int .i64), .own 3 (.int .i64), .cell (.int .i64), .cell (.int .i64), .cell (.int .i64), .cell (.int .i64)], [], 103⟩
noncomputable def l27_16 (k : Nat) (g8 : Y3_0) (g16 : (List Y3_1) → Int → Int → Int → Int → (List (Int × Int)) → (List Int) → (List Int) → Int → Int → Int → Int → Option Y3_2) (l_3 : List Y3_1) (t2_4 : Int) (t2_5 : Int) (c6 : Int) (c7 : Int) (c8 : Y3_8) (t3 : List Int) (pairs2 : List Int) (piece2 : Int) (i2 : Int) (n : Int) (k_ : Int) : Option Y3_2 :=
  ix pairs2 i2 <|
  (bif decide (k_ ≤ (rd pairs2 i2 0)) then
    ix t3 k_ <|
    g16 l_3 t2_4 t2_5 c6 c7 c8 t3 pairs2 piece2 i2 (IntKind.i64.wrap (n + (rd t3 k_ 0))) (IntKind.i64.wrap (k_ + 1))
  else
    ix l_3 i2 <|
    ix t3 i2 <|
    nz (rd t3 i2 0) <|
    ap c8 ([((rd l_3 i2 (0, 0, 0, 0)).2.1, IntKind.i64.wrap (Int.tdiv n (rd t3 i2 0)))] : List (Int × Int)) 16 fun r3 =>
    g8 l_3 t2_4 t2_5 c6 c7 r3 t3 pairs2 piece2 (IntKind.i64.wrap (i2 + 1)))
noncomputable def b27_16 (k : Nat) (g8 : Y3_0) (g : ((Unit) × (List Y3_1) × (Int × Int × Unit × Unit) × Y3_5 × (List Int) × (List Int) × Int × Int × Int × Int × Unit) → Option Y3_2) (d : (Unit) × (List Y3_1) × (Int × Int × Unit × Unit) × Y3_5 × (List Int) × (List Int) × Int × Int × Int × Int × Unit) : Option Y3_2 := l27_16 k g8 (fun l_3 t2_4 t2_5 c6 c7 c8 t3 pairs2 piece2 i2 n k_ => g ((), l_3, (t2_4, t2_5, (), ()), (c6, c7, c8, ()), t3, pairs2, piece2, i2, n, k_, ())) d.2.1 d.2.2.1.1 d.2.2.1.2.1 d.2.2.2.1.1 d.2.2.2.1.2.1 d.2.2.2.1.2.2.1 d.2.2.2.2.1 d.2.2.2.2.2.1 d.2.2.2.2.2.2.1 d.2.2.2.2.2.2.2.1 d.2.2.2.2.2.2.2.2.1 d.2.2.2.2.2.2.2.2.2.1
noncomputable def L27_16 (k : Nat) (g8 : Y3_0) (j : Nat) (l_3 : List Y3_1) (t2_4 : Int) (t2_5 : Int) (c6 : Int) (c7 : Int) (c8 : Y3_8) (t3 : List Int) (pairs2 : List Int) (piece2 : Int) (i2 : Int) (n : Int) (k_ : Int) : Option Y3_2 := iter (R := ((Int × Int × List (Int × Int)) × Bool × Unit) × Unit) c27_L16 (b27_16 k g8) j ((), l_3, (t2_4, t2_5, (), ()), (c6, c7, c8, ()), t3, pairs2, piece2, i2, n, k_, ())
theorem L27_16_s (k : Nat) (g8 : Y3_0) (j : Nat) (l_3 : List Y3_1) (t2_4 : Int) (t2_5 : Int) (c6 : Int) (c7 : Int) (c8 : Y3_8) (t3 : List Int) (pairs2 : List Int) (piece2 : Int) (i2 : Int) (n : Int) (k_ : Int) : L27_16 k g8 (j + 1) l_3 t2_4 t2_5 c6 c7 c8 t3 pairs2 piece2 i2 n k_ = l27_16 k g8 (L27_16 k g8 j) l_3 t2_4 t2_5 c6 c7 c8 t3 pairs2 piece2 i2 n k_ := iter_succ _ _ _ _
noncomputable abbrev c27_J13 : Cut := ⟨[0, 2, 4, 5, 6, 8, 9], [.cell Y3_3, .box 50 [.cell (.int .i64), .cell (.int .i64), .nil], .box 50 [.cell (.int .i64), .cell (.int .i64), .own 54 Y3_7], .own 2 (.int .i64), .own 3 (.int .i64), .cell (.int .i64), .cell (.int .i64)], [], 103⟩
noncomputable def j27_13 (k : Nat) (g8 : Y3_0) (l_2 : List Y3_1) (t2_2 : Int) (t2_3 : Int) (c3 : Int) (c4 : Int) (c5 : Y3_8) (t1 : List Int) (pairs1 : List Int) (piece1 : Int) (i1 : Int) : Option Y3_2 :=
  ix l_2 i1 <|
  (bif (rd l_2 i1 (0, 0, 0, 0)).1 == 9 then
    L27_16 k g8 k l_2 t2_2 t2_3 c3 c4 c5 t1 pairs1 piece1 i1 0 (IntKind.i64.wrap (i1 + 1))
  else
    g8 l_2 t2_2 t2_3 c3 c4 c5 t1 pairs1 piece1 (IntKind.i64.wrap (i1 + 1)))
noncomputable abbrev c27_L8 : Cut := ⟨[0, 2, 4, 5, 6, 8, 9], [.cell Y3_3, .box 50 [.cell (.int .i64), .cell (.int .i64), .nil], .box 50 [.cell (.int .i64), .cell (.int .i64), .own 54 Y3_7], .own 2 (.int .i64), .own 3 (.int .i64), .cell (.int .i64), .cell (.int .i64)], [], 103⟩
noncomputable def l27_8 (k : Nat) (g8 : Y3_0) (l_1 : List Y3_1) (t2 : Int) (t2_1 : Int) (c : Int) (c1 : Int) (c2 : Y3_8) (t : List Int) (pairs : List Int) (piece : Int) (i : Int) : Option Y3_2 :=
  (bif decide (i < (l_1.length : Int)) then
    ix t i <|
    ix t i <|
    ix l_1 i <|
    (bif (rd l_1 i (0, 0, 0, 0)).1 == 11 then
      j27_13 k g8 l_1 t2 t2_1 (IntKind.i64.wrap (c + (rd t i 0))) (mx c1 (IntKind.i64.wrap (piece + (rd t i 0)))) c2 t pairs 0 i
    else
      ix l_1 i <|
      (bif (rd l_1 i (0, 0, 0, 0)).1 == 0 then
        j27_13 k g8 l_1 t2 t2_1 (IntKind.i64.wrap (c + (rd t i 0))) (mx c1 (IntKind.i64.wrap (piece + (rd t i 0)))) c2 t pairs 0 i
      else
        j27_13 k g8 l_1 t2 t2_1 (IntKind.i64.wrap (c + (rd t i 0))) c1 c2 t pairs (IntKind.i64.wrap (piece + (rd t i 0))) i))
  else
    some (((c, c1, c2), true, ()), ()))
noncomputable def b27_8 (k : Nat) (g : ((Unit) × (List Y3_1) × (Int × Int × Unit × Unit) × Y3_5 × (List Int) × (List Int) × Int × Int × Unit) → Option Y3_2) (d : (Unit) × (List Y3_1) × (Int × Int × Unit × Unit) × Y3_5 × (List Int) × (List Int) × Int × Int × Unit) : Option Y3_2 := l27_8 k (fun l_1 t2 t2_1 c c1 c2 t pairs piece i => g ((), l_1, (t2, t2_1, (), ()), (c, c1, c2, ()), t, pairs, piece, i, ())) d.2.1 d.2.2.1.1 d.2.2.1.2.1 d.2.2.2.1.1 d.2.2.2.1.2.1 d.2.2.2.1.2.2.1 d.2.2.2.2.1 d.2.2.2.2.2.1 d.2.2.2.2.2.2.1 d.2.2.2.2.2.2.2.1
noncomputable def L27_8 (k : Nat) (j : Nat) (l_1 : List Y3_1) (t2 : Int) (t2_1 : Int) (c : Int) (c1 : Int) (c2 : Y3_8) (t : List Int) (pairs : List Int) (piece : Int) (i : Int) : Option Y3_2 := iter (R := ((Int × Int × List (Int × Int)) × Bool × Unit) × Unit) c27_L8 (b27_8 k) j ((), l_1, (t2, t2_1, (), ()), (c, c1, c2, ()), t, pairs, piece, i, ())
theorem L27_8_s (k : Nat) (j : Nat) (l_1 : List Y3_1) (t2 : Int) (t2_1 : Int) (c : Int) (c1 : Int) (c2 : Y3_8) (t : List Int) (pairs : List Int) (piece : Int) (i : Int) : L27_8 k (j + 1) l_1 t2 t2_1 c c1 c2 t pairs piece i = l27_8 k (L27_8 k j) l_1 t2 t2_1 c c1 c2 t pairs piece i := iter_succ _ _ _ _
noncomputable def S27 (k : Nat) (l_ : List Y3_1) : Option Y3_2 :=
  (S17 k l_).bind fun q0 =>
  (bif !q0.1.1 then
    some (((0, 0, []), false, ()), ())
  else
    (S50 k l_).bind fun q1 =>
    (S20 k l_).bind fun q2 =>
    L27_8 k k l_ 0 0 0 0 ([] : List (Int × Int)) q1.1.1 q2.1.1 0 0)
noncomputable def E27 : Env := tab.env (lk [(17, F17), (20, F20), (50, F50)]) (hintL [(16, 2)])
theorem E27_ok : EnvOK Try.prog E27 := envOK_of tabOK _ _ (allFn_lk (l := [(17, F17), (20, F20), (50, F50)]) ⟨ok17, ok20, ok50, trivial⟩)
noncomputable def B27 (k : Nat) : Tbl (RD R27 × MD P27) := (.loop 8 c27_L8 (b27_8 k) (fun g => (fun (g8 : Y3_0) => (.loop 16 c27_L16 (b27_16 k g8) (fun g => .nil) (.join 13 c27_J13 (fun d => j27_13 k g8 d.2.1 d.2.2.1.1 d.2.2.1.2.1 d.2.2.2.1.1 d.2.2.2.1.2.1 d.2.2.2.1.2.2.1 d.2.2.2.2.1 d.2.2.2.2.2.1 d.2.2.2.2.2.2.1 d.2.2.2.2.2.2.2.1) .nil))) (fun l_1 t2 t2_1 c c1 c2 t pairs piece i => g ((), l_1, (t2, t2_1, (), ()), (c, c1, c2, ()), t, pairs, piece, i, ()))) .nil)
noncomputable def F27 : Fn := ⟨P27, R27, fun k x => S27 k x.1⟩
theorem ok27 : FnOK Try.prog 27 F27 := evalF_ok (E := E27) (T := B27) E27_ok mix Try.func27 rfl (by kernel_rfl) (by kernel_rfl) (fun k => by kernel_rfl) (fun k x => by kernel_rfl)
/-! ### 8: 8 foliot/foliotlaw7.CostAll -/
noncomputable abbrev P8 : List PT := [.val ⟨false, Y3_3, false⟩, .val ⟨false, (.sl 5 (.int .u8)), false⟩]
noncomputable abbrev R8 : List RT := [.val ⟨false, .bool, true⟩]
noncomputable abbrev c8_L14 : Cut := ⟨[5, 6, 7, 9, 11], [.own 22 Y3_3, .cell (.int .i64), .box 50 [.cell (.int .i64), .cell (.int .i64), .own 54 Y3_7], .box 50 [.cell (.int .i64), .cell (.int .i64), .own 54 Y3_7], .cell (.int .i64)], [], 94⟩
noncomputable def l8_14 (k : Nat) (g7 : Y3_6) (g14 : (List (List Y3_1)) → Int → Int → Int → (List (Int × Int)) → Int → Int → (List (Int × Int)) → Int → Option Y3_4) (both1 : List (List Y3_1)) (i1 : Int) (x : Int) (x1 : Int) (x2 : Y3_8) (y : Int) (y1 : Int) (y2 : Y3_8) (k_ : Int) : Option Y3_4 :=
  (bif decide (k_ < (y2.length : Int)) then
    ix x2 k_ <|
    ix y2 k_ <|
    (bif !(beqD Y3_7 (rd x2 k_ (0, 0)) (rd y2 k_ (0, 0))) then
      some ((false, ()), ())
    else
      g14 both1 i1 x x1 x2 y y1 y2 (IntKind.i64.wrap (k_ + 1)))
  else
    g7 both1 (IntKind.i64.wrap (i1 + 1)))
noncomputable def b8_14 (k : Nat) (g7 : Y3_6) (g : ((Unit) × (List (List Y3_1)) × Int × Y3_5 × Y3_5 × Int × Unit) → Option Y3_4) (d : (Unit) × (List (List Y3_1)) × Int × Y3_5 × Y3_5 × Int × Unit) : Option Y3_4 := l8_14 k g7 (fun both1 i1 x x1 x2 y y1 y2 k_ => g ((), both1, i1, (x, x1, x2, ()), (y, y1, y2, ()), k_, ())) d.2.1 d.2.2.1 d.2.2.2.1.1 d.2.2.2.1.2.1 d.2.2.2.1.2.2.1 d.2.2.2.2.1.1 d.2.2.2.2.1.2.1 d.2.2.2.2.1.2.2.1 d.2.2.2.2.2.1
noncomputable def L8_14 (k : Nat) (g7 : Y3_6) (j : Nat) (both1 : List (List Y3_1)) (i1 : Int) (x : Int) (x1 : Int) (x2 : Y3_8) (y : Int) (y1 : Int) (y2 : Y3_8) (k_ : Int) : Option Y3_4 := iter (R := (Bool × Unit) × Unit) c8_L14 (b8_14 k g7) j ((), both1, i1, (x, x1, x2, ()), (y, y1, y2, ()), k_, ())
theorem L8_14_s (k : Nat) (g7 : Y3_6) (j : Nat) (both1 : List (List Y3_1)) (i1 : Int) (x : Int) (x1 : Int) (x2 : Y3_8) (y : Int) (y1 : Int) (y2 : Y3_8) (k_ : Int) : L8_14 k g7 (j + 1) both1 i1 x x1 x2 y y1 y2 k_ = l8_14 k g7 (L8_14 k g7 j) both1 i1 x x1 x2 y y1 y2 k_ := iter_succ _ _ _ _
noncomputable abbrev c8_L7 : Cut := ⟨[5, 6], [.own 22 Y3_3, .cell (.int .i64)], [], 94⟩
noncomputable def l8_7 (k : Nat) (g7 : Y3_6) (both : List (List Y3_1)) (i : Int) : Option Y3_4 :=
  (bif decide (i < 3) then
    ix both i <|
    (S26 k (rd both i [])).bind fun q5 =>
    ix both i <|
    (S27 k (rd both i [])).bind fun q6 =>
    (bif !(q5.1.2.1 == q6.1.2.1) then
      some ((false, ()), ())
    else
      (bif q5.1.1.1 != q6.1.1.1 then
        some ((false, ()), ())
      else
        (bif q5.1.1.2.1 != q6.1.1.2.1 then
          some ((false, ()), ())
        else
          (bif (q5.1.1.2.2.length : Int) != (q6.1.1.2.2.length : Int) then
            some ((false, ()), ())
          else
            L8_14 k g7 k both i q5.1.1.1 q5.1.1.2.1 q5.1.1.2.2 q6.1.1.1 q6.1.1.2.1 q6.1.1.2.2 0))))
  else
    some ((true, ()), ()))
noncomputable def b8_7 (k : Nat) (g : ((Unit) × (List (List Y3_1)) × Int × Unit) → Option Y3_4) (d : (Unit) × (List (List Y3_1)) × Int × Unit) : Option Y3_4 := l8_7 k (fun both i => g ((), both, i, ())) d.2.1 d.2.2.1
noncomputable def L8_7 (k : Nat) (j : Nat) (both : List (List Y3_1)) (i : Int) : Option Y3_4 := iter (R := (Bool × Unit) × Unit) c8_L7 (b8_7 k) j ((), both, i, ())
theorem L8_7_s (k : Nat) (j : Nat) (both : List (List Y3_1)) (i : Int) : L8_7 k (j + 1) both i = l8_7 k (L8_7 k j) both i := iter_succ _ _ _ _
noncomputable def S8 (k : Nat) (l_ : List Y3_1) (picks : List Int) : Option Y3_4 :=
  (S25 k).bind fun q0 =>
  (bif !q0.1.1 then
    some ((false, ()), ())
  else
    (bif decide ((l_.length : Int) > 30) then
      some ((true, ()), ())
    else
      (bif decide ((picks.length : Int) > 80) then
        some ((true, ()), ())
      else
        (S14 k picks).bind fun q1 =>
        (S15 k q1.1.1.1 q1.1.1.2.1 3).bind fun q2 =>
        (S14 k picks).bind fun q3 =>
        (S16 k q3.1.1.1 q3.1.1.2.1).bind fun q4 =>
        L8_7 k k ([l_, q2.1.1, q4.1.1] : List (List Y3_1)) 0)))
noncomputable def E8 : Env := tab.env (lk [(14, F14), (15, F15), (16, F16), (25, F25), (26, F26), (27, F27)]) (hintL [])
theorem E8_ok : EnvOK Try.prog E8 := envOK_of tabOK _ _ (allFn_lk (l := [(14, F14), (15, F15), (16, F16), (25, F25), (26, F26), (27, F27)]) ⟨ok14, ok15, ok16, ok25, ok26, ok27, trivial⟩)
noncomputable def B8 (k : Nat) : Tbl (RD R8 × MD P8) := (.loop 7 c8_L7 (b8_7 k) (fun g => (fun (g7 : Y3_6) => (.loop 14 c8_L14 (b8_14 k g7) (fun g => .nil) .nil)) (fun both i => g ((), both, i, ()))) .nil)
noncomputable def F8 : Fn := ⟨P8, R8, fun k x => S8 k x.1 x.2.1⟩
theorem ok8 : FnOK Try.prog 8 F8 := evalF_ok (E := E8) (T := B8) E8_ok mix Try.func8 rfl (by kernel_rfl) (by kernel_rfl) (fun k => by kernel_rfl) (fun k x => by kernel_rfl)
/-! ### 12: 12 foliot/foliotlaw7.CostMore -/
noncomputable abbrev P12 : List PT := [.val ⟨false, (.sl 5 (.int .u8)), false⟩]
noncomputable abbrev R12 : List RT := [.val ⟨false, .bool, true⟩]
noncomputable def S12 (k : Nat) (picks : List Int) : Option Y3_4 :=
  (S25 k).bind fun q0 =>
  (bif !q0.1.1 then
    some ((false, ()), ())
  else
    (bif decide ((picks.length : Int) > 80) then
      some ((true, ()), ())
    else
      (S14 k picks).bind fun q1 =>
      (S15 k q1.1.1.1 q1.1.1.2.1 3).bind fun q2 =>
      (S26 k q2.1.1).bind fun q3 =>
      (bif decide ((q2.1.1.length : Int) ≥ 24) then
        some ((q3.1.2.1, ()), ())
      else
        ap ([(1, 0, 0, 0)] : List Y3_1) q2.1.1 32 fun r4 =>
        (S26 k r4).bind fun q5 =>
        ap ([(11, 0, 0, 0)] : List Y3_1) q2.1.1 32 fun r6 =>
        (S26 k r6).bind fun q7 =>
        (bif q3.1.2.1 then
          (bif q5.1.2.1 then
            (bif q7.1.2.1 then
              (bif q5.1.1.1 == (IntKind.i64.wrap (q3.1.1.1 + 1)) then
                (bif q7.1.1.1 == (IntKind.i64.wrap (q3.1.1.1 + 1)) then
                  (bif decide (q5.1.1.2.1 ≥ q3.1.1.2.1) then
                    (bif decide (q5.1.1.2.1 ≤ (IntKind.i64.wrap (q3.1.1.2.1 + 1))) then
                      (bif q7.1.1.2.1 == q3.1.1.2.1 then
                        (bif (q5.1.1.2.2.length : Int) == (q3.1.1.2.2.length : Int) then
                          some (((q7.1.1.2.2.length : Int) == (q3.1.1.2.2.length : Int), ()), ())
                        else
                          some ((false, ()), ()))
                      else
                        some ((false, ()), ()))
                    else
                      some ((false, ()), ()))
                  else
                    some ((false, ()), ()))
                else
                  some ((false, ()), ()))
              else
                some ((false, ()), ()))
            else
              some ((false, ()), ()))
          else
            some ((false, ()), ()))
        else
          some ((false, ()), ())))))
noncomputable def E12 : Env := tab.env (lk [(14, F14), (15, F15), (25, F25), (26, F26)]) (hintL [])
theorem E12_ok : EnvOK Try.prog E12 := envOK_of tabOK _ _ (allFn_lk (l := [(14, F14), (15, F15), (25, F25), (26, F26)]) ⟨ok14, ok15, ok25, ok26, trivial⟩)
noncomputable def B12 (k : Nat) : Tbl (RD R12 × MD P12) := .nil
noncomputable def F12 : Fn := ⟨P12, R12, fun k x => S12 k x.1⟩
theorem ok12 : FnOK Try.prog 12 F12 := evalF_ok (E := E12) (T := B12) E12_ok mix Try.func12 rfl (by kernel_rfl) (by kernel_rfl) (fun k => by kernel_rfl) (fun k x => by kernel_rfl)
end Go.Proofs.Ytjnnjciedbgmiaa.Ab
