import Derived.Test.YtnlfdfjkgaanjaaAbR2
/- Contracts, printed by this session's own program gen.py. -/
set_option linter.unusedVariables false
set_option linter.unusedSimpArgs false
set_option maxRecDepth 100000
namespace Go.Proofs.Ytnlfdfjkgaanjaa.Ab
open Go.RowKit Go.Proofs.YtnlfdfjkgaanjaaW.PrintWords
abbrev Y3_0 : Type := (List (Int × Int × Int × Int)) → Int → Int → Int → Int → (List (Int × Int)) → (List Int) → (List Int) → Int → Int → Option (((Int × Int × List (Int × Int)) × Bool × Unit) × Unit)
abbrev Y3_1 : Type := ((Int × Int × List (Int × Int)) × Bool × Unit) × Unit
abbrev Y3_2 : Type := Int × Int × Int × Int
abbrev Y3_3 : Ty := .pair (.int .i64) (.pair (.int .i64) (.pair (.int .i64) (.int .i64)))
abbrev Y3_4 : Type := Int × Int × (List (Int × Int)) × Unit
noncomputable abbrev P18 : List PT := [.val ⟨false, (.sl 34 Y3_3), false⟩]
noncomputable abbrev R18 : List RT := [.val ⟨true, (.pair (.int .i64) (.pair (.int .i64) (.sl 111 (.pair (.int .i64) (.int .i64))))), true⟩, .val ⟨false, .bool, true⟩]
noncomputable abbrev c18_L16 : Cut := ⟨[0, 2, 4, 5, 6, 8, 9, 10, 11], [.cell (.sl 34 Y3_3), .box 37 [.cell (.int .i64), .cell (.int .i64), .nil], .box 37 [.cell (.int .i64), .cell (.int .i64), .own 111 (.pair (.int .i64) (.int .i64))], .own 2 (.int .i64), .own 3 (.int .i64), .cell (.int .i64), .cell (.int .i64), .cell (.int .i64), .cell (.int .i64)], [], 103⟩
noncomputable def l18_16 (k : Nat) (g8 : Y3_0) (g16 : (List Y3_2) → Int → Int → Int → Int → (List (Int × Int)) → (List Int) → (List Int) → Int → Int → Int → Int → Option Y3_1) (l_3 : List Y3_2) (t2_4 : Int) (t2_5 : Int) (c6 : Int) (c7 : Int) (c8 : List (Int × Int)) (t3 : List Int) (pairs2 : List Int) (piece2 : Int) (i2 : Int) (n : Int) (k_ : Int) : Option Y3_1 :=
 ix pairs2 i2 <|
 (bif decide (k_ ≤ (rd pairs2 i2 0)) then
  ix t3 k_ <|
  g16 l_3 t2_4 t2_5 c6 c7 c8 t3 pairs2 piece2 i2 (IntKind.i64.wrap (n + (rd t3 k_ 0))) (IntKind.i64.wrap (k_ + 1))
 else
  ix l_3 i2 <|
  ix t3 i2 <|
  nz (rd t3 i2 0) <|
  ap c8 ([((rd l_3 i2 (0, 0, 0, 0)).2.1, IntKind.i64.wrap (Int.tdiv n (rd t3 i2 0)))] : List (Int × Int)) 16 fun r3 =>
  g8 l_3 t2_4 t2_5 c6 c7 r3 t3 pairs2 piece2 (IntKind.i64.wrap (i2 + 1)))
noncomputable def b18_16 (k : Nat) (g8 : Y3_0) (g : ((Unit) × (List Y3_2) × (Int × Int × Unit × Unit) × Y3_4 × (List Int) × (List Int) × Int × Int × Int × Int × Unit) → Option Y3_1) (d : (Unit) × (List Y3_2) × (Int × Int × Unit × Unit) × Y3_4 × (List Int) × (List Int) × Int × Int × Int × Int × Unit) : Option Y3_1 := l18_16 k g8 (fun l_3 t2_4 t2_5 c6 c7 c8 t3 pairs2 piece2 i2 n k_ => g ((), l_3, (t2_4, t2_5, (), ()), (c6, c7, c8, ()), t3, pairs2, piece2, i2, n, k_, ())) d.2.1 d.2.2.1.1 d.2.2.1.2.1 d.2.2.2.1.1 d.2.2.2.1.2.1 d.2.2.2.1.2.2.1 d.2.2.2.2.1 d.2.2.2.2.2.1 d.2.2.2.2.2.2.1 d.2.2.2.2.2.2.2.1 d.2.2.2.2.2.2.2.2.1 d.2.2.2.2.2.2.2.2.2.1
noncomputable def L18_16 (k : Nat) (g8 : Y3_0) (j : Nat) (l_3 : List Y3_2) (t2_4 : Int) (t2_5 : Int) (c6 : Int) (c7 : Int) (c8 : List (Int × Int)) (t3 : List Int) (pairs2 : List Int) (piece2 : Int) (i2 : Int) (n : Int) (k_ : Int) : Option Y3_1 := iter (R := ((Int × Int × List (Int × Int)) × Bool × Unit) × Unit) c18_L16 (b18_16 k g8) j ((), l_3, (t2_4, t2_5, (), ()), (c6, c7, c8, ()), t3, pairs2, piece2, i2, n, k_, ())
theorem L18_16_s (k : Nat) (g8 : Y3_0) (j : Nat) (l_3 : List Y3_2) (t2_4 : Int) (t2_5 : Int) (c6 : Int) (c7 : Int) (c8 : List (Int × Int)) (t3 : List Int) (pairs2 : List Int) (piece2 : Int) (i2 : Int) (n : Int) (k_ : Int) : L18_16 k g8 (j + 1) l_3 t2_4 t2_5 c6 c7 c8 t3 pairs2 piece2 i2 n k_ = l18_16 k g8 (L18_16 k g8 j) l_3 t2_4 t2_5 c6 c7 c8 t3 pairs2 piece2 i2 n k_ := iter_succ _ _ _ _
noncomputable abbrev c18_J13 : Cut := ⟨[0, 2, 4, 5, 6, 8, 9], [.cell (.sl 34 Y3_3), .box 37 [.cell (.int .i64), .cell (.int .i64), .nil], .box 37 [.cell (.int .i64), .cell (.int .i64), .own 111 (.pair (.int .i64) (.int .i64))], .own 2 (.int .i64), .own 3 (.int .i64), .cell (.int .i64), .cell (.int .i64)], [], 103⟩
noncomputable def j18_13 (k : Nat) (g8 : Y3_0) (l_2 : List Y3_2) (t2_2 : Int) (t2_3 : Int) (c3 : Int) (c4 : Int) (c5 : List (Int × Int)) (t1 : List Int) (pairs1 : List Int) (piece1 : Int) (i1 : Int) : Option Y3_1 :=
 ix l_2 i1 <|
 (bif (rd l_2 i1 (0, 0, 0, 0)).1 == 9 then
  L18_16 k g8 k l_2 t2_2 t2_3 c3 c4 c5 t1 pairs1 piece1 i1 0 (IntKind.i64.wrap (i1 + 1))
 else
  g8 l_2 t2_2 t2_3 c3 c4 c5 t1 pairs1 piece1 (IntKind.i64.wrap (i1 + 1)))
noncomputable abbrev c18_L8 : Cut := ⟨[0, 2, 4, 5, 6, 8, 9], [.cell (.sl 34 Y3_3), .box 37 [.cell (.int .i64), .cell (.int .i64), .nil], .box 37 [.cell (.int .i64), .cell (.int .i64), .own 111 (.pair (.int .i64) (.int .i64))], .own 2 (.int .i64), .own 3 (.int .i64), .cell (.int .i64), .cell (.int .i64)], [], 103⟩
noncomputable def l18_8 (k : Nat) (g8 : Y3_0) (l_1 : List Y3_2) (t2 : Int) (t2_1 : Int) (c : Int) (c1 : Int) (c2 : List (Int × Int)) (t : List Int) (pairs : List Int) (piece : Int) (i : Int) : Option Y3_1 :=
 (bif decide (i < (l_1.length : Int)) then
  ix t i <|
  ix t i <|
  ix l_1 i <|
  (bif (rd l_1 i (0, 0, 0, 0)).1 == 11 then
   j18_13 k g8 l_1 t2 t2_1 (IntKind.i64.wrap (c + (rd t i 0))) (mx c1 (IntKind.i64.wrap (piece + (rd t i 0)))) c2 t pairs 0 i
  else
   ix l_1 i <|
   (bif (rd l_1 i (0, 0, 0, 0)).1 == 0 then
    j18_13 k g8 l_1 t2 t2_1 (IntKind.i64.wrap (c + (rd t i 0))) (mx c1 (IntKind.i64.wrap (piece + (rd t i 0)))) c2 t pairs 0 i
   else
    j18_13 k g8 l_1 t2 t2_1 (IntKind.i64.wrap (c + (rd t i 0))) c1 c2 t pairs (IntKind.i64.wrap (piece + (rd t i 0))) i))
 else
  some (((c, c1, c2), true, ()), ()))
noncomputable def b18_8 (k : Nat) (g : ((Unit) × (List Y3_2) × (Int × Int × Unit × Unit) × Y3_4 × (List Int) × (List Int) × Int × Int × Unit) → Option Y3_1) (d : (Unit) × (List Y3_2) × (Int × Int × Unit × Unit) × Y3_4 × (List Int) × (List Int) × Int × Int × Unit) : Option Y3_1 := l18_8 k (fun l_1 t2 t2_1 c c1 c2 t pairs piece i => g ((), l_1, (t2, t2_1, (), ()), (c, c1, c2, ()), t, pairs, piece, i, ())) d.2.1 d.2.2.1.1 d.2.2.1.2.1 d.2.2.2.1.1 d.2.2.2.1.2.1 d.2.2.2.1.2.2.1 d.2.2.2.2.1 d.2.2.2.2.2.1 d.2.2.2.2.2.2.1 d.2.2.2.2.2.2.2.1
noncomputable def L18_8 (k : Nat) (j : Nat) (l_1 : List Y3_2) (t2 : Int) (t2_1 : Int) (c : Int) (c1 : Int) (c2 : List (Int × Int)) (t : List Int) (pairs : List Int) (piece : Int) (i : Int) : Option Y3_1 := iter (R := ((Int × Int × List (Int × Int)) × Bool × Unit) × Unit) c18_L8 (b18_8 k) j ((), l_1, (t2, t2_1, (), ()), (c, c1, c2, ()), t, pairs, piece, i, ())
theorem L18_8_s (k : Nat) (j : Nat) (l_1 : List Y3_2) (t2 : Int) (t2_1 : Int) (c : Int) (c1 : Int) (c2 : List (Int × Int)) (t : List Int) (pairs : List Int) (piece : Int) (i : Int) : L18_8 k (j + 1) l_1 t2 t2_1 c c1 c2 t pairs piece i = l18_8 k (L18_8 k j) l_1 t2 t2_1 c c1 c2 t pairs piece i := iter_succ _ _ _ _
noncomputable def S18 (k : Nat) (l_ : List Y3_2) : Option Y3_1 :=
 (S41 k l_).bind fun q0 =>
 (bif !q0.1.1 then
  some (((0, 0, []), false, ()), ())
 else
  (S42 k l_).bind fun q1 =>
  (S43 k l_).bind fun q2 =>
  L18_8 k k l_ 0 0 0 0 ([] : List (Int × Int)) q1.1.1 q2.1.1 0 0)
noncomputable def E18 : Env := tab.env (lk [(41, F41), (42, F42), (43, F43)]) (hintL [(16, 2)])
theorem E18_ok : EnvOK Try.prog E18 := envOK_of tabOK _ _ (allFn_lk (l := [(41, F41), (42, F42), (43, F43)]) ⟨ok41, ok42, ok43, trivial⟩)
noncomputable def B18 (k : Nat) : Tbl (RD R18 × MD P18) := (.loop 8 c18_L8 (b18_8 k) (fun g => (fun (g8 : Y3_0) => (.loop 16 c18_L16 (b18_16 k g8) (fun g => .nil) (.join 13 c18_J13 (fun d => j18_13 k g8 d.2.1 d.2.2.1.1 d.2.2.1.2.1 d.2.2.2.1.1 d.2.2.2.1.2.1 d.2.2.2.1.2.2.1 d.2.2.2.2.1 d.2.2.2.2.2.1 d.2.2.2.2.2.2.1 d.2.2.2.2.2.2.2.1) .nil))) (fun l_1 t2 t2_1 c c1 c2 t pairs piece i => g ((), l_1, (t2, t2_1, (), ()), (c, c1, c2, ()), t, pairs, piece, i, ()))) .nil)
noncomputable def F18 : Fn := ⟨P18, R18, fun k x => S18 k x.1⟩
theorem ok18 : FnOK Try.prog 18 F18 := evalF_ok (E := E18) (T := B18) E18_ok mix Try.func18 rfl (by kernel_rfl) (by kernel_rfl) (fun k => by kernel_rfl) (fun k x => by kernel_rfl)
noncomputable abbrev P4 : List PT := [.val ⟨false, (.sl 5 (.int .u8)), false⟩, .val ⟨false, (.int .i64), false⟩]
noncomputable abbrev R4 : List RT := [.val ⟨false, .bool, true⟩]
noncomputable abbrev c4_L8 : Cut := ⟨[1, 5, 6, 7], [.cell (.int .i64), .own 34 Y3_3, .own 34 Y3_3, .cell (.int .i64)], [], 105⟩
noncomputable def l4_8 (k : Nat) (g8 : Int → (List Y3_2) → (List Y3_2) → Int → Option ((Bool × Unit) × Unit)) (in_1 : Int) (l_ : List Y3_2) (m : List Y3_2) (i : Int) : Option ((Bool × Unit) × Unit) :=
 (bif decide (i < (m.length : Int)) then
  ix m i <|
  (bif (rd m i (0, 0, 0, 0)).1 == 11 then
   ix m i <|
   g8 in_1 l_ (upd m i (2, 7, 7, 0)) (IntKind.i64.wrap (i + 1))
  else
   ix m i <|
   (bif (rd m i (0, 0, 0, 0)).1 == 9 then
    ix m i <|
    g8 in_1 l_ (upd m i (2, 7, 7, 0)) (IntKind.i64.wrap (i + 1))
   else
    ix m i <|
    (bif (rd m i (0, 0, 0, 0)).1 == 10 then
     ix m i <|
     g8 in_1 l_ (upd m i (2, 7, 7, 0)) (IntKind.i64.wrap (i + 1))
    else
     g8 in_1 l_ m (IntKind.i64.wrap (i + 1)))))
 else
  (S16 k l_ in_1).bind fun q4 =>
  (S16 k m in_1).bind fun q5 =>
  (S18 k l_).bind fun q6 =>
  (bif q4.1.2.2.1 then
   (bif q5.1.2.2.1 then
    (bif q6.1.2.1 then
     (bif q4.1.1 == q5.1.1 then
      (bif q4.1.2.1 == q5.1.2.1 then
       (bif decide (q4.1.2.1 ≤ q6.1.1.1) then
        some ((decide (q4.1.2.1 ≥ 1), ()), ())
       else
        some ((false, ()), ()))
      else
       some ((false, ()), ()))
     else
      some ((false, ()), ()))
    else
     some ((false, ()), ()))
   else
    some ((false, ()), ()))
  else
   some ((false, ()), ())))
noncomputable def b4_8 (k : Nat) (g : ((Unit) × Int × (List Y3_2) × (List Y3_2) × Int × Unit) → Option ((Bool × Unit) × Unit)) (d : (Unit) × Int × (List Y3_2) × (List Y3_2) × Int × Unit) : Option ((Bool × Unit) × Unit) := l4_8 k (fun in_1 l_ m i => g ((), in_1, l_, m, i, ())) d.2.1 d.2.2.1 d.2.2.2.1 d.2.2.2.2.1
noncomputable def L4_8 (k : Nat) (j : Nat) (in_1 : Int) (l_ : List Y3_2) (m : List Y3_2) (i : Int) : Option ((Bool × Unit) × Unit) := iter (R := (Bool × Unit) × Unit) c4_L8 (b4_8 k) j ((), in_1, l_, m, i, ())
theorem L4_8_s (k : Nat) (j : Nat) (in_1 : Int) (l_ : List Y3_2) (m : List Y3_2) (i : Int) : L4_8 k (j + 1) in_1 l_ m i = l4_8 k (L4_8 k j) in_1 l_ m i := iter_succ _ _ _ _
noncomputable def S4 (k : Nat) (picks : List Int) (in_ : Int) : Option ((Bool × Unit) × Unit) :=
 (S12 k).bind fun q0 =>
 (bif !q0.1.1 then
  some ((false, ()), ())
 else
  (bif decide ((picks.length : Int) > 80) then
   some ((true, ()), ())
  else
   (S13 k picks).bind fun q1 =>
   (S14 k q1.1.1.1 q1.1.1.2.1 3).bind fun q2 =>
   ap ([] : List Y3_2) q2.1.1 32 fun r3 =>
   L4_8 k k in_ q2.1.1 r3 0))
noncomputable def E4 : Env := tab.env (lk [(12, F12), (13, F13), (14, F14), (16, F16), (18, F18)]) (hintL [])
theorem E4_ok : EnvOK Try.prog E4 := envOK_of tabOK _ _ (allFn_lk (l := [(12, F12), (13, F13), (14, F14), (16, F16), (18, F18)]) ⟨ok12, ok13, ok14, ok16, ok18, trivial⟩)
noncomputable def B4 (k : Nat) : Tbl (RD R4 × MD P4) := (.loop 8 c4_L8 (b4_8 k) (fun g => .nil) .nil)
noncomputable def F4 : Fn := ⟨P4, R4, fun k x => S4 k x.1 x.2.1⟩
theorem ok4 : FnOK Try.prog 4 F4 := evalF_ok (E := E4) (T := B4) E4_ok mix Try.func4 rfl (by kernel_rfl) (by kernel_rfl) (fun k => by kernel_rfl) (fun k x => by kernel_rfl)
end Go.Proofs.Ytnlfdfjkgaanjaa.Ab
