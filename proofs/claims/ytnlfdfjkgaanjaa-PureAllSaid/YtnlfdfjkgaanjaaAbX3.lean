import Derived.Test.YtnlfdfjkgaanjaaAbX2
/- Contracts, printed by this session's own program gen.py. -/
set_option linter.unusedVariables false
set_option linter.unusedSimpArgs false
set_option maxRecDepth 100000
namespace Go.Proofs.Ytnlfdfjkgaanjaa.Ab
open Go.RowKit Go.Proofs.YtnlfdfjkgaanjaaW.PrintWords
abbrev Y3_0 : Type := (List (Int × Int × Int × Int)) → Int → Int → Int → Int → (List (Int × Int)) → (List Int) → (List Int) → Int → Int → Option (((Int × Int × List (Int × Int)) × Bool × Unit) × Unit)
abbrev Y3_1 : Type := Int × Int × Int × Int
abbrev Y3_2 : Ty := .sl 34 (.pair (.int .i64) (.pair (.int .i64) (.pair (.int .i64) (.int .i64))))
abbrev Y3_3 : Type := ((Int × Int × List (Int × Int)) × Bool × Unit) × Unit
abbrev Y3_4 : Type := (List Y3_1) → (List Int) → (List (Int × Int × Int × Bool)) → Int → Option (((List Int) × Unit) × Unit)
abbrev Y3_5 : Type := (Int × (PN Int 8) × (List (Int × Int × Int)) × Bool) × Y3_1 × Bool × Unit
abbrev Y3_6 : Type := Int × Int × Int × Int × Int × Int × Int × Int × Int × (List (Int × Int × Int)) × Bool × Unit
abbrev Y3_7 : Type := (Int × Unit) × Unit
abbrev Y3_8 : Ty := .pair (.int .i64) (.int .i64)
abbrev Y3_9 : Type := ((List Int) × Unit) × Unit
abbrev Y3_10 : Type := Int × Int × Int × Bool
abbrev Y3_11 : Type := Int × Int × (List (Int × Int)) × Unit
abbrev Y3_12 : Ty := .pair (.int .i64) (.pair (arrT 8 (.int .i64)) (.pair (.sl 142 (.pair (.int .i64) Y3_8)) .bool))
abbrev Y3_13 : Type := (Int × Int × Bool × Unit) × Unit
abbrev Y3_14 : Type := Int × Int × Int
abbrev Y3_15 : Type := List (Int × Int)
noncomputable abbrev P42 : List PT := [.val ⟨false, Y3_2, false⟩]
noncomputable abbrev R42 : List RT := [.val ⟨false, (.sl 2 (.int .i64)), true⟩]
noncomputable abbrev c42_L8 : Cut := ⟨[0, 3, 4, 5, 6], [.cell Y3_2, .own 2 (.int .i64), .own 146 (.pair (.int .i64) (.pair (.int .i64) (.pair (.int .i64) .bool))), .cell (.int .i64), .cell (.int .i64)], [], 58⟩
noncomputable def l42_8 (k : Nat) (g4 : Y3_4) (g8 : (List Y3_1) → (List Int) → (List Y3_10) → Int → Int → Option Y3_9) (l_2 : List Y3_1) (out1 : List Int) (a1 : List Y3_10) (i1 : Int) (k_ : Int) : Option Y3_9 :=
 (bif decide (k_ < (a1.length : Int)) then
  ix a1 k_ <|
  (bif (rd a1 k_ (0, 0, 0, false)).2.2.2 then
   ix a1 k_ <|
   (S76 k (rd a1 k_ (0, 0, 0, false)) i1).bind fun q1 =>
   (bif q1.1.1 then
    ix out1 i1 <|
    ix a1 k_ <|
    ix l_2 (rd a1 k_ (0, 0, 0, false)).2.2.1 <|
    ix out1 i1 <|
    g8 l_2 (upd out1 i1 (IntKind.i64.wrap ((rd out1 i1 0) * (rd l_2 (rd a1 k_ (0, 0, 0, false)).2.2.1 (0, 0, 0, 0)).2.2.2))) a1 i1 (IntKind.i64.wrap (k_ + 1))
   else
    g8 l_2 out1 a1 i1 (IntKind.i64.wrap (k_ + 1)))
  else
   g8 l_2 out1 a1 i1 (IntKind.i64.wrap (k_ + 1)))
 else
  g4 l_2 out1 a1 (IntKind.i64.wrap (i1 + 1)))
noncomputable def b42_8 (k : Nat) (g4 : Y3_4) (g : ((Unit) × (List Y3_1) × (List Int) × (List Y3_10) × Int × Int × Unit) → Option Y3_9) (d : (Unit) × (List Y3_1) × (List Int) × (List Y3_10) × Int × Int × Unit) : Option Y3_9 := l42_8 k g4 (fun l_2 out1 a1 i1 k_ => g ((), l_2, out1, a1, i1, k_, ())) d.2.1 d.2.2.1 d.2.2.2.1 d.2.2.2.2.1 d.2.2.2.2.2.1
noncomputable def L42_8 (k : Nat) (g4 : Y3_4) (j : Nat) (l_2 : List Y3_1) (out1 : List Int) (a1 : List Y3_10) (i1 : Int) (k_ : Int) : Option Y3_9 := iter (R := ((List Int) × Unit) × Unit) c42_L8 (b42_8 k g4) j ((), l_2, out1, a1, i1, k_, ())
theorem L42_8_s (k : Nat) (g4 : Y3_4) (j : Nat) (l_2 : List Y3_1) (out1 : List Int) (a1 : List Y3_10) (i1 : Int) (k_ : Int) : L42_8 k g4 (j + 1) l_2 out1 a1 i1 k_ = l42_8 k g4 (L42_8 k g4 j) l_2 out1 a1 i1 k_ := iter_succ _ _ _ _
noncomputable abbrev c42_L4 : Cut := ⟨[0, 3, 4, 5], [.cell Y3_2, .own 2 (.int .i64), .own 146 (.pair (.int .i64) (.pair (.int .i64) (.pair (.int .i64) .bool))), .cell (.int .i64)], [], 58⟩
noncomputable def l42_4 (k : Nat) (g4 : Y3_4) (l_1 : List Y3_1) (out : List Int) (a : List Y3_10) (i : Int) : Option Y3_9 :=
 (bif decide (i < (l_1.length : Int)) then
  ix out i <|
  L42_8 k g4 k l_1 (upd out i 1) a i 0
 else
  some ((out, ()), ()))
noncomputable def b42_4 (k : Nat) (g : ((Unit) × (List Y3_1) × (List Int) × (List Y3_10) × Int × Unit) → Option Y3_9) (d : (Unit) × (List Y3_1) × (List Int) × (List Y3_10) × Int × Unit) : Option Y3_9 := l42_4 k (fun l_1 out a i => g ((), l_1, out, a, i, ())) d.2.1 d.2.2.1 d.2.2.2.1 d.2.2.2.2.1
noncomputable def L42_4 (k : Nat) (j : Nat) (l_1 : List Y3_1) (out : List Int) (a : List Y3_10) (i : Int) : Option Y3_9 := iter (R := ((List Int) × Unit) × Unit) c42_L4 (b42_4 k) j ((), l_1, out, a, i, ())
theorem L42_4_s (k : Nat) (j : Nat) (l_1 : List Y3_1) (out : List Int) (a : List Y3_10) (i : Int) : L42_4 k (j + 1) l_1 out a i = l42_4 k (L42_4 k j) l_1 out a i := iter_succ _ _ _ _
noncomputable def S42 (k : Nat) (l_ : List Y3_1) : Option Y3_9 :=
 mk (l_.length : Int) (l_.length : Int) 8 <|
 (S75 k l_).bind fun q0 =>
 L42_4 k k l_ (List.replicate (l_.length : Int).toNat (0 : Int)) q0.1.1 0
noncomputable def E42 : Env := tab.env (lk [(75, F75), (76, F76)]) (hintL [])
theorem E42_ok : EnvOK Try.prog E42 := envOK_of tabOK _ _ (allFn_lk (l := [(75, F75), (76, F76)]) ⟨ok75, ok76, trivial⟩)
noncomputable def B42 (k : Nat) : Tbl (RD R42 × MD P42) := (.loop 4 c42_L4 (b42_4 k) (fun g => (fun (g4 : Y3_4) => (.loop 8 c42_L8 (b42_8 k g4) (fun g => .nil) .nil)) (fun l_1 out a i => g ((), l_1, out, a, i, ()))) .nil)
noncomputable def F42 : Fn := ⟨P42, R42, fun k x => S42 k x.1⟩
theorem ok42 : FnOK Try.prog 42 F42 := evalF_ok (E := E42) (T := B42) E42_ok mix Try.func42 rfl (by kernel_rfl) (by kernel_rfl) (fun k => by kernel_rfl) (fun k x => by kernel_rfl)
noncomputable abbrev P18 : List PT := [.val ⟨false, Y3_2, false⟩]
noncomputable abbrev R18 : List RT := [.val ⟨true, (.pair (.int .i64) (.pair (.int .i64) (.sl 111 Y3_8))), true⟩, .val ⟨false, .bool, true⟩]
noncomputable abbrev c18_L16 : Cut := ⟨[0, 2, 4, 5, 6, 8, 9, 10, 11], [.cell Y3_2, .box 37 [.cell (.int .i64), .cell (.int .i64), .nil], .box 37 [.cell (.int .i64), .cell (.int .i64), .own 111 Y3_8], .own 2 (.int .i64), .own 3 (.int .i64), .cell (.int .i64), .cell (.int .i64), .cell (.int .i64), .cell (.int .i64)], [], 103⟩
noncomputable def l18_16 (k : Nat) (g8 : Y3_0) (g16 : (List Y3_1) → Int → Int → Int → Int → (List (Int × Int)) → (List Int) → (List Int) → Int → Int → Int → Int → Option Y3_3) (l_3 : List Y3_1) (t2_4 : Int) (t2_5 : Int) (c6 : Int) (c7 : Int) (c8 : Y3_15) (t3 : List Int) (pairs2 : List Int) (piece2 : Int) (i2 : Int) (n : Int) (k_ : Int) : Option Y3_3 :=
 ix pairs2 i2 <|
 (bif decide (k_ ≤ (rd pairs2 i2 0)) then
  ix t3 k_ <|
  g16 l_3 t2_4 t2_5 c6 c7 c8 t3 pairs2 piece2 i2 (IntKind.i64.wrap (n + (rd t3 k_ 0))) (IntKind.i64.wrap (k_ + 1))
 else
  ix l_3 i2 <|
  ix t3 i2 <|
  nz (rd t3 i2 0) <|
  ap c8 ([((rd l_3 i2 (0, 0, 0, 0)).2.1, IntKind.i64.wrap (Int.tdiv n (rd t3 i2 0)))] : List (Int × Int)) 16 fun r3 =>
  g8 l_3 t2_4 t2_5 c6 c7 r3 t3 pairs2 piece2 (IntKind.i64.wrap (i2 + 1)))
noncomputable def b18_16 (k : Nat) (g8 : Y3_0) (g : ((Unit) × (List Y3_1) × (Int × Int × Unit × Unit) × Y3_11 × (List Int) × (List Int) × Int × Int × Int × Int × Unit) → Option Y3_3) (d : (Unit) × (List Y3_1) × (Int × Int × Unit × Unit) × Y3_11 × (List Int) × (List Int) × Int × Int × Int × Int × Unit) : Option Y3_3 := l18_16 k g8 (fun l_3 t2_4 t2_5 c6 c7 c8 t3 pairs2 piece2 i2 n k_ => g ((), l_3, (t2_4, t2_5, (), ()), (c6, c7, c8, ()), t3, pairs2, piece2, i2, n, k_, ())) d.2.1 d.2.2.1.1 d.2.2.1.2.1 d.2.2.2.1.1 d.2.2.2.1.2.1 d.2.2.2.1.2.2.1 d.2.2.2.2.1 d.2.2.2.2.2.1 d.2.2.2.2.2.2.1 d.2.2.2.2.2.2.2.1 d.2.2.2.2.2.2.2.2.1 d.2.2.2.2.2.2.2.2.2.1
noncomputable def L18_16 (k : Nat) (g8 : Y3_0) (j : Nat) (l_3 : List Y3_1) (t2_4 : Int) (t2_5 : Int) (c6 : Int) (c7 : Int) (c8 : Y3_15) (t3 : List Int) (pairs2 : List Int) (piece2 : Int) (i2 : Int) (n : Int) (k_ : Int) : Option Y3_3 := iter (R := ((Int × Int × List (Int × Int)) × Bool × Unit) × Unit) c18_L16 (b18_16 k g8) j ((), l_3, (t2_4, t2_5, (), ()), (c6, c7, c8, ()), t3, pairs2, piece2, i2, n, k_, ())
theorem L18_16_s (k : Nat) (g8 : Y3_0) (j : Nat) (l_3 : List Y3_1) (t2_4 : Int) (t2_5 : Int) (c6 : Int) (c7 : Int) (c8 : Y3_15) (t3 : List Int) (pairs2 : List Int) (piece2 : Int) (i2 : Int) (n : Int) (k_ : Int) : L18_16 k g8 (j + 1) l_3 t2_4 t2_5 c6 c7 c8 t3 pairs2 piece2 i2 n k_ = l18_16 k g8 (L18_16 k g8 j) l_3 t2_4 t2_5 c6 c7 c8 t3 pairs2 piece2 i2 n k_ := iter_succ _ _ _ _
noncomputable abbrev c18_J13 : Cut := ⟨[0, 2, 4, 5, 6, 8, 9], [.cell Y3_2, .box 37 [.cell (.int .i64), .cell (.int .i64), .nil], .box 37 [.cell (.int .i64), .cell (.int .i64), .own 111 Y3_8], .own 2 (.int .i64), .own 3 (.int .i64), .cell (.int .i64), .cell (.int .i64)], [], 103⟩
noncomputable def j18_13 (k : Nat) (g8 : Y3_0) (l_2 : List Y3_1) (t2_2 : Int) (t2_3 : Int) (c3 : Int) (c4 : Int) (c5 : Y3_15) (t1 : List Int) (pairs1 : List Int) (piece1 : Int) (i1 : Int) : Option Y3_3 :=
 ix l_2 i1 <|
 (bif (rd l_2 i1 (0, 0, 0, 0)).1 == 9 then
  L18_16 k g8 k l_2 t2_2 t2_3 c3 c4 c5 t1 pairs1 piece1 i1 0 (IntKind.i64.wrap (i1 + 1))
 else
  g8 l_2 t2_2 t2_3 c3 c4 c5 t1 pairs1 piece1 (IntKind.i64.wrap (i1 + 1)))
noncomputable abbrev c18_L8 : Cut := ⟨[0, 2, 4, 5, 6, 8, 9], [.cell Y3_2, .box 37 [.cell (.int .i64), .cell (.int .i64), .nil], .box 37 [.cell (.int .i64), .cell (.int .i64), .own 111 Y3_8], .own 2 (.int .i64), .own 3 (.int .i64), .cell (.int .i64), .cell (.int .i64)], [], 103⟩
noncomputable def l18_8 (k : Nat) (g8 : Y3_0) (l_1 : List Y3_1) (t2 : Int) (t2_1 : Int) (c : Int) (c1 : Int) (c2 : Y3_15) (t : List Int) (pairs : List Int) (piece : Int) (i : Int) : Option Y3_3 :=
 (bif decide (i < (l_1.length : Int)) then
  ix t i <|
  ix t i <|
  ix l_1 i <|
  (bif (rd l_1 i (0, 0, 0, 0)).1 == 11 then
   j18_13 k g8 l_1 t2 t2_1 (IntKind.i64.wrap (c + (rd t i 0))) (mx c1 (IntKind.i64.wrap (piece + (rd t i 0)))) c2 t pairs 0 i
  else
   ix l_1 i <|
   (bif (rd l_1 i (0, 0, 0, 0)).1 == 0 then
    j18_13 k g8 l_1 t2 t2_1 (IntKind.i64.wrap (c + (rd t i 0))) (mx c1 (IntKind.i64.wrap (piece + (rd t i 0)))) c2 t pairs 0 i
   else
    j18_13 k g8 l_1 t2 t2_1 (IntKind.i64.wrap (c + (rd t i 0))) c1 c2 t pairs (IntKind.i64.wrap (piece + (rd t i 0))) i))
 else
  some (((c, c1, c2), true, ()), ()))
noncomputable def b18_8 (k : Nat) (g : ((Unit) × (List Y3_1) × (Int × Int × Unit × Unit) × Y3_11 × (List Int) × (List Int) × Int × Int × Unit) → Option Y3_3) (d : (Unit) × (List Y3_1) × (Int × Int × Unit × Unit) × Y3_11 × (List Int) × (List Int) × Int × Int × Unit) : Option Y3_3 := l18_8 k (fun l_1 t2 t2_1 c c1 c2 t pairs piece i => g ((), l_1, (t2, t2_1, (), ()), (c, c1, c2, ()), t, pairs, piece, i, ())) d.2.1 d.2.2.1.1 d.2.2.1.2.1 d.2.2.2.1.1 d.2.2.2.1.2.1 d.2.2.2.1.2.2.1 d.2.2.2.2.1 d.2.2.2.2.2.1 d.2.2.2.2.2.2.1 d.2.2.2.2.2.2.2.1
noncomputable def L18_8 (k : Nat) (j : Nat) (l_1 : List Y3_1) (t2 : Int) (t2_1 : Int) (c : Int) (c1 : Int) (c2 : Y3_15) (t : List Int) (pairs : List Int) (piece : Int) (i : Int) : Option Y3_3 := iter (R := ((Int × Int × List (Int × Int)) × Bool × Unit) × Unit) c18_L8 (b18_8 k) j ((), l_1, (t2, t2_1, (), ()), (c, c1, c2, ()), t, pairs, piece, i, ())
theorem L18_8_s (k : Nat) (j : Nat) (l_1 : List Y3_1) (t2 : Int) (t2_1 : Int) (c : Int) (c1 : Int) (c2 : Y3_15) (t : List Int) (pairs : List Int) (piece : Int) (i : Int) : L18_8 k (j + 1) l_1 t2 t2_1 c c1 c2 t pairs piece i = l18_8 k (L18_8 k j) l_1 t2 t2_1 c c1 c2 t pairs piece i := iter_succ _ _ _ _
noncomputable def S18 (k : Nat) (l_ : List Y3_1) : Option Y3_3 :=
 (S41 k l_).bind fun q0 =>
 (bif !q0.1.1 then
  some (((0, 0, []), false, ()), ())
 else
  (S42 k l_).bind fun q1 =>
  (S43 k l_).bind fun q2 =>
  L18_8 k k l_ 0 0 0 0 ([] : List (Int × Int)) q1.1.1 q2.1.1 0 0)
noncomputable def E18 : Env := tab.env (lk [(41, F41), (42, F42), (43, F43)]) (hintL [(16, 2)])
theorem E18_ok : EnvOK Try.prog E18 := envOK_of tabOK _ _ (allFn_lk (l := [(41, F41), (42, F42), (43, F43)]) ⟨ok41, ok42, ok43, trivial⟩)
noncomputable def B18 (k : Nat) : Tbl (RD R18 × MD P18) := (.loop 8 c18_L8 (b18_8 k) (fun g => (fun (g8 : Y3_0) => (.loop 16 c18_L16 (b18_16 k g8) (fun g => .nil) (.join 13 c18_J13 (fun d => j18_13 k g8 d.2.1 d.2.2.1.1 d.2.2.1.2.1 d.2.2.2.1.1 d.2.2.2.1.2.1 d.2.2.2.1.2.2.1 d.2.2.2.2.1 d.2.2.2.2.2.1 d.2.2.2.2.2.2.1 d.2.2.2.2.2.2.2.1) .nil))) (fun l_1 t2 t2_1 c c1 c2 t pairs piece i => g ((), l_1, (t2, t2_1, (), ()), (c, c1, c2, ()), t, pairs, piece, i, ()))) .nil)
noncomputable def F18 : Fn := ⟨P18, R18, fun k x => S18 k x.1⟩
theorem ok18 : FnOK Try.prog 18 F18 := evalF_ok (E := E18) (T := B18) E18_ok mix Try.func18 rfl (by kernel_rfl) (by kernel_rfl) (fun k => by kernel_rfl) (fun k x => by kernel_rfl)
noncomputable abbrev P39 : List PT := [.val ⟨false, (.int .i64), false⟩]
noncomputable abbrev R39 : List RT := [.val ⟨true, Y3_12, true⟩]
noncomputable def S39 (k : Nat) (in_ : Int) : Option (((Int × (PN Int 8) × (List Y3_14) × Bool) × Unit) × Unit) :=
 some (((0, (in_, 0, 0, 0, 0, 0, 0, 0), [], false), ()), ())
noncomputable def E39 : Env := tab.env (lk []) (hintL [])
theorem E39_ok : EnvOK Try.prog E39 := envOK_of tabOK _ _ (fun f F h => by cases h)
noncomputable def B39 (k : Nat) : Tbl (RD R39 × MD P39) := .nil
noncomputable def F39 : Fn := ⟨P39, R39, fun k x => S39 k x.1⟩
theorem ok39 : FnOK Try.prog 39 F39 := evalF_ok (E := E39) (T := B39) E39_ok mix Try.func39 rfl (by kernel_rfl) (by kernel_rfl) (fun k => by kernel_rfl) (fun k x => by kernel_rfl)
noncomputable abbrev P73 : List PT := [.val ⟨false, (.int .i64), false⟩, .val ⟨false, (.int .i64), false⟩]
noncomputable abbrev R73 : List RT := [.val ⟨false, (.int .i64), true⟩]
noncomputable abbrev c73_L6 : Cut := ⟨[0, 1], [.cell (.int .i64), .cell (.int .i64)], [], 35⟩
noncomputable def l73_6 (k : Nat) (g6 : Int → Int → Option Y3_7) (v2 : Int) (n2 : Int) : Option Y3_7 :=
 (bif decide (n2 < 0) then
  (bif decide (v2 < 0) then
   (bif (Int.tmod v2 2) != 0 then
    g6 (IntKind.i64.wrap ((IntKind.i64.wrap (Int.tdiv v2 2)) - 1)) (IntKind.i64.wrap (n2 + 1))
   else
    g6 (IntKind.i64.wrap (Int.tdiv v2 2)) (IntKind.i64.wrap (n2 + 1)))
  else
   g6 (IntKind.i64.wrap (Int.tdiv v2 2)) (IntKind.i64.wrap (n2 + 1)))
 else
  some ((v2, ()), ()))
noncomputable def b73_6 (k : Nat) (g : ((Unit) × Int × Int × Unit) → Option Y3_7) (d : (Unit) × Int × Int × Unit) : Option Y3_7 := l73_6 k (fun v2 n2 => g ((), v2, n2, ())) d.2.1 d.2.2.1
noncomputable def L73_6 (k : Nat) (j : Nat) (v2 : Int) (n2 : Int) : Option Y3_7 := iter (R := (Int × Unit) × Unit) c73_L6 (b73_6 k) j ((), v2, n2, ())
theorem L73_6_s (k : Nat) (j : Nat) (v2 : Int) (n2 : Int) : L73_6 k (j + 1) v2 n2 = l73_6 k (L73_6 k j) v2 n2 := iter_succ _ _ _ _
noncomputable abbrev c73_L3 : Cut := ⟨[0, 1], [.cell (.int .i64), .cell (.int .i64)], [], 35⟩
noncomputable def l73_3 (k : Nat) (g3 : Int → Int → Option Y3_7) (v1 : Int) (n1 : Int) : Option Y3_7 :=
 (bif decide (n1 > 0) then
  g3 (IntKind.i64.wrap (v1 * 2)) (IntKind.i64.wrap (n1 - 1))
 else
  L73_6 k k v1 n1)
noncomputable def b73_3 (k : Nat) (g : ((Unit) × Int × Int × Unit) → Option Y3_7) (d : (Unit) × Int × Int × Unit) : Option Y3_7 := l73_3 k (fun v1 n1 => g ((), v1, n1, ())) d.2.1 d.2.2.1
noncomputable def L73_3 (k : Nat) (j : Nat) (v1 : Int) (n1 : Int) : Option Y3_7 := iter (R := (Int × Unit) × Unit) c73_L3 (b73_3 k) j ((), v1, n1, ())
theorem L73_3_s (k : Nat) (j : Nat) (v1 : Int) (n1 : Int) : L73_3 k (j + 1) v1 n1 = l73_3 k (L73_3 k j) v1 n1 := iter_succ _ _ _ _
noncomputable def S73 (k : Nat) (v : Int) (n : Int) : Option Y3_7 :=
 (bif decide (n < (-63)) then
  some ((v, ()), ())
 else
  (bif decide (n > 63) then
   some ((v, ()), ())
  else
   L73_3 k k v n))
noncomputable def E73 : Env := tab.env (lk []) (hintL [])
theorem E73_ok : EnvOK Try.prog E73 := envOK_of tabOK _ _ (fun f F h => by cases h)
noncomputable def B73 (k : Nat) : Tbl (RD R73 × MD P73) := (.loop 6 c73_L6 (b73_6 k) (fun g => .nil) (.loop 3 c73_L3 (b73_3 k) (fun g => .nil) .nil))
noncomputable def F73 : Fn := ⟨P73, R73, fun k x => S73 k x.1 x.2.1⟩
theorem ok73 : FnOK Try.prog 73 F73 := evalF_ok (E := E73) (T := B73) E73_ok mix Try.func73 rfl (by kernel_rfl) (by kernel_rfl) (fun k => by kernel_rfl) (fun k x => by kernel_rfl)
noncomputable abbrev P101 : List PT := [.val ⟨false, (.int .i64), false⟩]
noncomputable abbrev R101 : List RT := [.val ⟨false, (.int .u64), true⟩]
noncomputable abbrev c101_L2 : Cut := ⟨[0, 3], [.cell (.int .i64), .cell (.int .u64)], [], 11⟩
noncomputable def l101_2 (k : Nat) (g2 : Int → Int → Option Y3_7) (i1 : Int) (v : Int) : Option Y3_7 :=
 (bif decide (i1 > 0) then
  g2 (IntKind.i64.wrap (i1 - 1)) (IntKind.u64.wrap (2 * v))
 else
  some ((v, ()), ()))
noncomputable def b101_2 (k : Nat) (g : ((Unit) × Int × Int × Unit) → Option Y3_7) (d : (Unit) × Int × Int × Unit) : Option Y3_7 := l101_2 k (fun i1 v => g ((), i1, v, ())) d.2.1 d.2.2.1
noncomputable def L101_2 (k : Nat) (j : Nat) (i1 : Int) (v : Int) : Option Y3_7 := iter (R := (Int × Unit) × Unit) c101_L2 (b101_2 k) j ((), i1, v, ())
theorem L101_2_s (k : Nat) (j : Nat) (i1 : Int) (v : Int) : L101_2 k (j + 1) i1 v = l101_2 k (L101_2 k j) i1 v := iter_succ _ _ _ _
noncomputable def S101 (k : Nat) (i : Int) : Option Y3_7 :=
 L101_2 k k i 1
noncomputable def E101 : Env := tab.env (lk []) (hintL [])
theorem E101_ok : EnvOK Try.prog E101 := envOK_of tabOK _ _ (fun f F h => by cases h)
noncomputable def B101 (k : Nat) : Tbl (RD R101 × MD P101) := (.loop 2 c101_L2 (b101_2 k) (fun g => .nil) .nil)
noncomputable def F101 : Fn := ⟨P101, R101, fun k x => S101 k x.1⟩
theorem ok101 : FnOK Try.prog 101 F101 := evalF_ok (E := E101) (T := B101) E101_ok mix Try.func101 rfl (by kernel_rfl) (by kernel_rfl) (fun k => by kernel_rfl) (fun k x => by kernel_rfl)
noncomputable abbrev P74 : List PT := [.val ⟨false, (.int .i64), false⟩, .val ⟨false, (.int .i64), false⟩]
noncomputable abbrev R74 : List RT := [.val ⟨false, (.int .i64), true⟩]
noncomputable def S74 (k : Nat) (v : Int) (n : Int) : Option Y3_7 :=
 (bif decide (n < 1) then
  some ((v, ()), ())
 else
  (bif decide (n > 63) then
   some ((v, ()), ())
  else
   (S101 k n).bind fun q0 =>
   nz q0.1.1 <|
   (S101 k (IntKind.i64.wrap (n - 1))).bind fun q1 =>
   (bif decide ((Int.tmod (IntKind.u64.wrap v) q0.1.1) ≥ q1.1.1) then
    (S101 k n).bind fun q2 =>
    some ((IntKind.i64.wrap (0 - (IntKind.i64.wrap (IntKind.u64.wrap (q2.1.1 - (Int.tmod (IntKind.u64.wrap v) q0.1.1))))), ()), ())
   else
    some ((IntKind.i64.wrap (Int.tmod (IntKind.u64.wrap v) q0.1.1), ()), ()))))
noncomputable def E74 : Env := tab.env (lk [(101, F101)]) (hintL [])
theorem E74_ok : EnvOK Try.prog E74 := envOK_of tabOK _ _ (allFn_lk (l := [(101, F101)]) ⟨ok101, trivial⟩)
noncomputable def B74 (k : Nat) : Tbl (RD R74 × MD P74) := .nil
noncomputable def F74 : Fn := ⟨P74, R74, fun k x => S74 k x.1 x.2.1⟩
theorem ok74 : FnOK Try.prog 74 F74 := evalF_ok (E := E74) (T := B74) E74_ok mix Try.func74 rfl (by kernel_rfl) (by kernel_rfl) (fun k => by kernel_rfl) (fun k x => by kernel_rfl)
noncomputable abbrev P40 : List PT := [.val ⟨false, Y3_2, false⟩, .val ⟨true, Y3_12, false⟩]
noncomputable abbrev R40 : List RT := [.val ⟨true, Y3_12, true⟩, .val ⟨true, (.pair (.int .i64) (.pair (.int .i64) Y3_8)), true⟩, .val ⟨false, .bool, true⟩]
noncomputable abbrev c40_L28 : Cut := ⟨[3, 4, 5, 7], [.box 103 [.cell (.int .i64), .cell (.int .i64), .cell (.int .i64), .cell (.int .i64), .cell (.int .i64), .cell (.int .i64), .cell (.int .i64), .cell (.int .i64), .cell (.int .i64), .own 142 (.pair (.int .i64) Y3_8), .cell .bool], .box 103 [.cell (.int .i64), .cell (.int .i64), .cell (.int .i64), .cell (.int .i64), .cell (.int .i64), .cell (.int .i64), .cell (.int .i64), .cell (.int .i64), .cell (.int .i64), .nil, .cell .bool], .box 34 [.cell (.int .i64), .cell (.int .i64), .cell (.int .i64), .cell (.int .i64)], .box 34 [.cell (.int .i64), .cell (.int .i64), .cell (.int .i64), .cell (.int .i64)]], [], 225⟩
noncomputable def l40_28 (k : Nat) (g28 : Int → Int → Int → Int → Int → Int → Int → Int → Int → (List Y3_14) → Bool → Int → Int → Int → Int → Int → Int → Int → Int → Int → Bool → Int → Int → Int → Int → Int → Int → Int → Int → Option (Y3_5 × Unit)) (m1 : Int) (m2 : Int) (m3 : Int) (m4 : Int) (m5 : Int) (m6 : Int) (m7 : Int) (m8 : Int) (m9 : Int) (m10 : List Y3_14) (m11 : Bool) (t4 : Int) (t4_1 : Int) (t4_2 : Int) (t4_3 : Int) (t4_4 : Int) (t4_5 : Int) (t4_6 : Int) (t4_7 : Int) (t4_8 : Int) (t4_9 : Bool) (t5 : Int) (t5_1 : Int) (t5_2 : Int) (t5_3 : Int) (i : Int) (i1 : Int) (i2 : Int) (i3 : Int) : Option (Y3_5 × Unit) :=
 (bif decide ((m10.length : Int) > 0) then
  ix m10 (IntKind.i64.wrap ((m10.length : Int) - 1)) <|
  (bif decide ((rd m10 (IntKind.i64.wrap ((m10.length : Int) - 1)) (0, 0, 0)).2.1 < m1) then
   ix m10 (IntKind.i64.wrap ((m10.length : Int) - 1)) <|
   sx m10 0 (IntKind.i64.wrap ((m10.length : Int) - 1)) <|
   (bif decide ((rd m10 (IntKind.i64.wrap ((m10.length : Int) - 1)) (0, 0, 0)).2.2 > 0) then
    ap (m10.take (IntKind.i64.wrap ((m10.length : Int) - 1)).toNat) ([((rd m10 (IntKind.i64.wrap ((m10.length : Int) - 1)) (0, 0, 0)).1, (rd m10 (IntKind.i64.wrap ((m10.length : Int) - 1)) (0, 0, 0)).2.1, IntKind.i64.wrap ((rd m10 (IntKind.i64.wrap ((m10.length : Int) - 1)) (0, 0, 0)).2.2 - 1))] : List Y3_14) 24 fun r2 =>
    some ((((rd m10 (IntKind.i64.wrap ((m10.length : Int) - 1)) (0, 0, 0)).1, (m2, m3, m4, m5, m6, m7, m8, m9), r2, m11), (i, i1, i2, i3), true, ()), ())
   else
    g28 m1 m2 m3 m4 m5 m6 m7 m8 m9 (m10.take (IntKind.i64.wrap ((m10.length : Int) - 1)).toNat) m11 t4 t4_1 t4_2 t4_3 t4_4 t4_5 t4_6 t4_7 t4_8 t4_9 t5 t5_1 t5_2 t5_3 i i1 i2 i3)
  else
   some (((m1, (m2, m3, m4, m5, m6, m7, m8, m9), m10, m11), (i, i1, i2, i3), true, ()), ()))
 else
  some (((m1, (m2, m3, m4, m5, m6, m7, m8, m9), m10, m11), (i, i1, i2, i3), true, ()), ()))
noncomputable def b40_28 (k : Nat) (g : ((Unit) × Y3_6 × (Int × Int × Int × Int × Int × Int × Int × Int × Int × Unit × Bool × Unit) × (Int × Int × Int × Int × Unit) × (Int × Int × Int × Int × Unit) × Unit) → Option (Y3_5 × Unit)) (d : (Unit) × Y3_6 × (Int × Int × Int × Int × Int × Int × Int × Int × Int × Unit × Bool × Unit) × (Int × Int × Int × Int × Unit) × (Int × Int × Int × Int × Unit) × Unit) : Option (Y3_5 × Unit) := l40_28 k (fun m1 m2 m3 m4 m5 m6 m7 m8 m9 m10 m11 t4 t4_1 t4_2 t4_3 t4_4 t4_5 t4_6 t4_7 t4_8 t4_9 t5 t5_1 t5_2 t5_3 i i1 i2 i3 => g ((), (m1, m2, m3, m4, m5, m6, m7, m8, m9, m10, m11, ()), (t4, t4_1, t4_2, t4_3, t4_4, t4_5, t4_6, t4_7, t4_8, (), t4_9, ()), (t5, t5_1, t5_2, t5_3, ()), (i, i1, i2, i3, ()), ())) d.2.1.1 d.2.1.2.1 d.2.1.2.2.1 d.2.1.2.2.2.1 d.2.1.2.2.2.2.1 d.2.1.2.2.2.2.2.1 d.2.1.2.2.2.2.2.2.1 d.2.1.2.2.2.2.2.2.2.1 d.2.1.2.2.2.2.2.2.2.2.1 d.2.1.2.2.2.2.2.2.2.2.2.1 d.2.1.2.2.2.2.2.2.2.2.2.2.1 d.2.2.1.1 d.2.2.1.2.1 d.2.2.1.2.2.1 d.2.2.1.2.2.2.1 d.2.2.1.2.2.2.2.1 d.2.2.1.2.2.2.2.2.1 d.2.2.1.2.2.2.2.2.2.1 d.2.2.1.2.2.2.2.2.2.2.1 d.2.2.1.2.2.2.2.2.2.2.2.1 d.2.2.1.2.2.2.2.2.2.2.2.2.2.1 d.2.2.2.1.1 d.2.2.2.1.2.1 d.2.2.2.1.2.2.1 d.2.2.2.1.2.2.2.1 d.2.2.2.2.1.1 d.2.2.2.2.1.2.1 d.2.2.2.2.1.2.2.1 d.2.2.2.2.1.2.2.2.1
noncomputable def L40_28 (k : Nat) (j : Nat) (m1 : Int) (m2 : Int) (m3 : Int) (m4 : Int) (m5 : Int) (m6 : Int) (m7 : Int) (m8 : Int) (m9 : Int) (m10 : List Y3_14) (m11 : Bool) (t4 : Int) (t4_1 : Int) (t4_2 : Int) (t4_3 : Int) (t4_4 : Int) (t4_5 : Int) (t4_6 : Int) (t4_7 : Int) (t4_8 : Int) (t4_9 : Bool) (t5 : Int) (t5_1 : Int) (t5_2 : Int) (t5_3 : Int) (i : Int) (i1 : Int) (i2 : Int) (i3 : Int) : Option (Y3_5 × Unit) := iter (R := Y3_5 × Unit) c40_L28 (b40_28 k) j ((), (m1, m2, m3, m4, m5, m6, m7, m8, m9, m10, m11, ()), (t4, t4_1, t4_2, t4_3, t4_4, t4_5, t4_6, t4_7, t4_8, (), t4_9, ()), (t5, t5_1, t5_2, t5_3, ()), (i, i1, i2, i3, ()), ())
theorem L40_28_s (k : Nat) (j : Nat) (m1 : Int) (m2 : Int) (m3 : Int) (m4 : Int) (m5 : Int) (m6 : Int) (m7 : Int) (m8 : Int) (m9 : Int) (m10 : List Y3_14) (m11 : Bool) (t4 : Int) (t4_1 : Int) (t4_2 : Int) (t4_3 : Int) (t4_4 : Int) (t4_5 : Int) (t4_6 : Int) (t4_7 : Int) (t4_8 : Int) (t4_9 : Bool) (t5 : Int) (t5_1 : Int) (t5_2 : Int) (t5_3 : Int) (i : Int) (i1 : Int) (i2 : Int) (i3 : Int) : L40_28 k (j + 1) m1 m2 m3 m4 m5 m6 m7 m8 m9 m10 m11 t4 t4_1 t4_2 t4_3 t4_4 t4_5 t4_6 t4_7 t4_8 t4_9 t5 t5_1 t5_2 t5_3 i i1 i2 i3 = l40_28 k (L40_28 k j) m1 m2 m3 m4 m5 m6 m7 m8 m9 m10 m11 t4 t4_1 t4_2 t4_3 t4_4 t4_5 t4_6 t4_7 t4_8 t4_9 t5 t5_1 t5_2 t5_3 i i1 i2 i3 := iter_succ _ _ _ _
noncomputable def S40 (k : Nat) (l_ : List Y3_1) (m : Int × (PN Int 8) × (List Y3_14) × Bool) : Option (Y3_5 × Unit) :=
 ap ([] : List Y3_14) m.2.2.1 24 fun r0 =>
 (bif m.2.2.2 then
  some (((m.1, m.2.1, r0, m.2.2.2), (0, 0, 0, 0), false, ()), ())
 else
  (bif decide (m.1 < 0) then
   some (((m.1, m.2.1, r0, m.2.2.2), (0, 0, 0, 0), false, ()), ())
  else
   (bif decide (m.1 ≥ (l_.length : Int)) then
    some (((m.1, m.2.1, r0, m.2.2.2), (0, 0, 0, 0), false, ()), ())
   else
    ix l_ m.1 <|
    (S72 k (rd l_ m.1 (0, 0, 0, 0))).bind fun q1 =>
    (bif !q1.1.1 then
     some (((m.1, m.2.1, r0, m.2.2.2), (0, 0, 0, 0), false, ()), ())
    else
     ix l_ m.1 <|
     (bif (rd l_ m.1 (0, 0, 0, 0)).1 == 0 then
      L40_28 k k m.1 m.2.1.1 m.2.1.2.1 m.2.1.2.2.1 m.2.1.2.2.2.1 m.2.1.2.2.2.2.1 m.2.1.2.2.2.2.2.1 m.2.1.2.2.2.2.2.2.1 m.2.1.2.2.2.2.2.2.2 r0 true 0 0 0 0 0 0 0 0 0 false 0 0 0 0 (rd l_ m.1 (0, 0, 0, 0)).1 (rd l_ m.1 (0, 0, 0, 0)).2.1 (rd l_ m.1 (0, 0, 0, 0)).2.2.1 (rd l_ m.1 (0, 0, 0, 0)).2.2.2
     else
      (bif (rd l_ m.1 (0, 0, 0, 0)).1 == 1 then
       ax 8 (rd l_ m.1 (0, 0, 0, 0)).2.1 <|
       L40_28 k k (IntKind.i64.wrap (m.1 + 1)) (aset (α := Int) 8 m.2.1 (rd l_ m.1 (0, 0, 0, 0)).2.1 (rd l_ m.1 (0, 0, 0, 0)).2.2.2).1 (aset (α := Int) 8 m.2.1 (rd l_ m.1 (0, 0, 0, 0)).2.1 (rd l_ m.1 (0, 0, 0, 0)).2.2.2).2.1 (aset (α := Int) 8 m.2.1 (rd l_ m.1 (0, 0, 0, 0)).2.1 (rd l_ m.1 (0, 0, 0, 0)).2.2.2).2.2.1 (aset (α := Int) 8 m.2.1 (rd l_ m.1 (0, 0, 0, 0)).2.1 (rd l_ m.1 (0, 0, 0, 0)).2.2.2).2.2.2.1 (aset (α := Int) 8 m.2.1 (rd l_ m.1 (0, 0, 0, 0)).2.1 (rd l_ m.1 (0, 0, 0, 0)).2.2.2).2.2.2.2.1 (aset (α := Int) 8 m.2.1 (rd l_ m.1 (0, 0, 0, 0)).2.1 (rd l_ m.1 (0, 0, 0, 0)).2.2.2).2.2.2.2.2.1 (aset (α := Int) 8 m.2.1 (rd l_ m.1 (0, 0, 0, 0)).2.1 (rd l_ m.1 (0, 0, 0, 0)).2.2.2).2.2.2.2.2.2.1 (aset (α := Int) 8 m.2.1 (rd l_ m.1 (0, 0, 0, 0)).2.1 (rd l_ m.1 (0, 0, 0, 0)).2.2.2).2.2.2.2.2.2.2 r0 m.2.2.2 0 0 0 0 0 0 0 0 0 false 0 0 0 0 (rd l_ m.1 (0, 0, 0, 0)).1 (rd l_ m.1 (0, 0, 0, 0)).2.1 (rd l_ m.1 (0, 0, 0, 0)).2.2.1 (rd l_ m.1 (0, 0, 0, 0)).2.2.2
      else
       (bif (rd l_ m.1 (0, 0, 0, 0)).1 == 2 then
        ax 8 (rd l_ m.1 (0, 0, 0, 0)).2.1 <|
        ax 8 (rd l_ m.1 (0, 0, 0, 0)).2.2.1 <|
        ax 8 (rd l_ m.1 (0, 0, 0, 0)).2.1 <|
        L40_28 k k (IntKind.i64.wrap (m.1 + 1)) (aset (α := Int) 8 m.2.1 (rd l_ m.1 (0, 0, 0, 0)).2.1 (IntKind.i64.wrap ((aget (α := Int) 8 m.2.1 (rd l_ m.1 (0, 0, 0, 0)).2.1 0) + (aget (α := Int) 8 m.2.1 (rd l_ m.1 (0, 0, 0, 0)).2.2.1 0)))).1 (aset (α := Int) 8 m.2.1 (rd l_ m.1 (0, 0, 0, 0)).2.1 (IntKind.i64.wrap ((aget (α := Int) 8 m.2.1 (rd l_ m.1 (0, 0, 0, 0)).2.1 0) + (aget (α := Int) 8 m.2.1 (rd l_ m.1 (0, 0, 0, 0)).2.2.1 0)))).2.1 (aset (α := Int) 8 m.2.1 (rd l_ m.1 (0, 0, 0, 0)).2.1 (IntKind.i64.wrap ((aget (α := Int) 8 m.2.1 (rd l_ m.1 (0, 0, 0, 0)).2.1 0) + (aget (α := Int) 8 m.2.1 (rd l_ m.1 (0, 0, 0, 0)).2.2.1 0)))).2.2.1 (aset (α := Int) 8 m.2.1 (rd l_ m.1 (0, 0, 0, 0)).2.1 (IntKind.i64.wrap ((aget (α := Int) 8 m.2.1 (rd l_ m.1 (0, 0, 0, 0)).2.1 0) + (aget (α := Int) 8 m.2.1 (rd l_ m.1 (0, 0, 0, 0)).2.2.1 0)))).2.2.2.1 (aset (α := Int) 8 m.2.1 (rd l_ m.1 (0, 0, 0, 0)).2.1 (IntKind.i64.wrap ((aget (α := Int) 8 m.2.1 (rd l_ m.1 (0, 0, 0, 0)).2.1 0) + (aget (α := Int) 8 m.2.1 (rd l_ m.1 (0, 0, 0, 0)).2.2.1 0)))).2.2.2.2.1 (aset (α := Int) 8 m.2.1 (rd l_ m.1 (0, 0, 0, 0)).2.1 (IntKind.i64.wrap ((aget (α := Int) 8 m.2.1 (rd l_ m.1 (0, 0, 0, 0)).2.1 0) + (aget (α := Int) 8 m.2.1 (rd l_ m.1 (0, 0, 0, 0)).2.2.1 0)))).2.2.2.2.2.1 (aset (α := Int) 8 m.2.1 (rd l_ m.1 (0, 0, 0, 0)).2.1 (IntKind.i64.wrap ((aget (α := Int) 8 m.2.1 (rd l_ m.1 (0, 0, 0, 0)).2.1 0) + (aget (α := Int) 8 m.2.1 (rd l_ m.1 (0, 0, 0, 0)).2.2.1 0)))).2.2.2.2.2.2.1 (aset (α := Int) 8 m.2.1 (rd l_ m.1 (0, 0, 0, 0)).2.1 (IntKind.i64.wrap ((aget (α := Int) 8 m.2.1 (rd l_ m.1 (0, 0, 0, 0)).2.1 0) + (aget (α := Int) 8 m.2.1 (rd l_ m.1 (0, 0, 0, 0)).2.2.1 0)))).2.2.2.2.2.2.2 r0 m.2.2.2 0 0 0 0 0 0 0 0 0 false 0 0 0 0 (rd l_ m.1 (0, 0, 0, 0)).1 (rd l_ m.1 (0, 0, 0, 0)).2.1 (rd l_ m.1 (0, 0, 0, 0)).2.2.1 (rd l_ m.1 (0, 0, 0, 0)).2.2.2
       else
        (bif (rd l_ m.1 (0, 0, 0, 0)).1 == 3 then
         ax 8 (rd l_ m.1 (0, 0, 0, 0)).2.1 <|
         ax 8 (rd l_ m.1 (0, 0, 0, 0)).2.2.1 <|
         ax 8 (rd l_ m.1 (0, 0, 0, 0)).2.1 <|
         L40_28 k k (IntKind.i64.wrap (m.1 + 1)) (aset (α := Int) 8 m.2.1 (rd l_ m.1 (0, 0, 0, 0)).2.1 (IntKind.i64.wrap ((aget (α := Int) 8 m.2.1 (rd l_ m.1 (0, 0, 0, 0)).2.1 0) - (aget (α := Int) 8 m.2.1 (rd l_ m.1 (0, 0, 0, 0)).2.2.1 0)))).1 (aset (α := Int) 8 m.2.1 (rd l_ m.1 (0, 0, 0, 0)).2.1 (IntKind.i64.wrap ((aget (α := Int) 8 m.2.1 (rd l_ m.1 (0, 0, 0, 0)).2.1 0) - (aget (α := Int) 8 m.2.1 (rd l_ m.1 (0, 0, 0, 0)).2.2.1 0)))).2.1 (aset (α := Int) 8 m.2.1 (rd l_ m.1 (0, 0, 0, 0)).2.1 (IntKind.i64.wrap ((aget (α := Int) 8 m.2.1 (rd l_ m.1 (0, 0, 0, 0)).2.1 0) - (aget (α := Int) 8 m.2.1 (rd l_ m.1 (0, 0, 0, 0)).2.2.1 0)))).2.2.1 (aset (α := Int) 8 m.2.1 (rd l_ m.1 (0, 0, 0, 0)).2.1 (IntKind.i64.wrap ((aget (α := Int) 8 m.2.1 (rd l_ m.1 (0, 0, 0, 0)).2.1 0) - (aget (α := Int) 8 m.2.1 (rd l_ m.1 (0, 0, 0, 0)).2.2.1 0)))).2.2.2.1 (aset (α := Int) 8 m.2.1 (rd l_ m.1 (0, 0, 0, 0)).2.1 (IntKind.i64.wrap ((aget (α := Int) 8 m.2.1 (rd l_ m.1 (0, 0, 0, 0)).2.1 0) - (aget (α := Int) 8 m.2.1 (rd l_ m.1 (0, 0, 0, 0)).2.2.1 0)))).2.2.2.2.1 (aset (α := Int) 8 m.2.1 (rd l_ m.1 (0, 0, 0, 0)).2.1 (IntKind.i64.wrap ((aget (α := Int) 8 m.2.1 (rd l_ m.1 (0, 0, 0, 0)).2.1 0) - (aget (α := Int) 8 m.2.1 (rd l_ m.1 (0, 0, 0, 0)).2.2.1 0)))).2.2.2.2.2.1 (aset (α := Int) 8 m.2.1 (rd l_ m.1 (0, 0, 0, 0)).2.1 (IntKind.i64.wrap ((aget (α := Int) 8 m.2.1 (rd l_ m.1 (0, 0, 0, 0)).2.1 0) - (aget (α := Int) 8 m.2.1 (rd l_ m.1 (0, 0, 0, 0)).2.2.1 0)))).2.2.2.2.2.2.1 (aset (α := Int) 8 m.2.1 (rd l_ m.1 (0, 0, 0, 0)).2.1 (IntKind.i64.wrap ((aget (α := Int) 8 m.2.1 (rd l_ m.1 (0, 0, 0, 0)).2.1 0) - (aget (α := Int) 8 m.2.1 (rd l_ m.1 (0, 0, 0, 0)).2.2.1 0)))).2.2.2.2.2.2.2 r0 m.2.2.2 0 0 0 0 0 0 0 0 0 false 0 0 0 0 (rd l_ m.1 (0, 0, 0, 0)).1 (rd l_ m.1 (0, 0, 0, 0)).2.1 (rd l_ m.1 (0, 0, 0, 0)).2.2.1 (rd l_ m.1 (0, 0, 0, 0)).2.2.2
        else
         (bif (rd l_ m.1 (0, 0, 0, 0)).1 == 4 then
          ax 8 (rd l_ m.1 (0, 0, 0, 0)).2.1 <|
          ax 8 (rd l_ m.1 (0, 0, 0, 0)).2.2.1 <|
          ax 8 (rd l_ m.1 (0, 0, 0, 0)).2.1 <|
          L40_28 k k (IntKind.i64.wrap (m.1 + 1)) (aset (α := Int) 8 m.2.1 (rd l_ m.1 (0, 0, 0, 0)).2.1 (IntKind.i64.wrap ((aget (α := Int) 8 m.2.1 (rd l_ m.1 (0, 0, 0, 0)).2.1 0) * (aget (α := Int) 8 m.2.1 (rd l_ m.1 (0, 0, 0, 0)).2.2.1 0)))).1 (aset (α := Int) 8 m.2.1 (rd l_ m.1 (0, 0, 0, 0)).2.1 (IntKind.i64.wrap ((aget (α := Int) 8 m.2.1 (rd l_ m.1 (0, 0, 0, 0)).2.1 0) * (aget (α := Int) 8 m.2.1 (rd l_ m.1 (0, 0, 0, 0)).2.2.1 0)))).2.1 (aset (α := Int) 8 m.2.1 (rd l_ m.1 (0, 0, 0, 0)).2.1 (IntKind.i64.wrap ((aget (α := Int) 8 m.2.1 (rd l_ m.1 (0, 0, 0, 0)).2.1 0) * (aget (α := Int) 8 m.2.1 (rd l_ m.1 (0, 0, 0, 0)).2.2.1 0)))).2.2.1 (aset (α := Int) 8 m.2.1 (rd l_ m.1 (0, 0, 0, 0)).2.1 (IntKind.i64.wrap ((aget (α := Int) 8 m.2.1 (rd l_ m.1 (0, 0, 0, 0)).2.1 0) * (aget (α := Int) 8 m.2.1 (rd l_ m.1 (0, 0, 0, 0)).2.2.1 0)))).2.2.2.1 (aset (α := Int) 8 m.2.1 (rd l_ m.1 (0, 0, 0, 0)).2.1 (IntKind.i64.wrap ((aget (α := Int) 8 m.2.1 (rd l_ m.1 (0, 0, 0, 0)).2.1 0) * (aget (α := Int) 8 m.2.1 (rd l_ m.1 (0, 0, 0, 0)).2.2.1 0)))).2.2.2.2.1 (aset (α := Int) 8 m.2.1 (rd l_ m.1 (0, 0, 0, 0)).2.1 (IntKind.i64.wrap ((aget (α := Int) 8 m.2.1 (rd l_ m.1 (0, 0, 0, 0)).2.1 0) * (aget (α := Int) 8 m.2.1 (rd l_ m.1 (0, 0, 0, 0)).2.2.1 0)))).2.2.2.2.2.1 (aset (α := Int) 8 m.2.1 (rd l_ m.1 (0, 0, 0, 0)).2.1 (IntKind.i64.wrap ((aget (α := Int) 8 m.2.1 (rd l_ m.1 (0, 0, 0, 0)).2.1 0) * (aget (α := Int) 8 m.2.1 (rd l_ m.1 (0, 0, 0, 0)).2.2.1 0)))).2.2.2.2.2.2.1 (aset (α := Int) 8 m.2.1 (rd l_ m.1 (0, 0, 0, 0)).2.1 (IntKind.i64.wrap ((aget (α := Int) 8 m.2.1 (rd l_ m.1 (0, 0, 0, 0)).2.1 0) * (aget (α := Int) 8 m.2.1 (rd l_ m.1 (0, 0, 0, 0)).2.2.1 0)))).2.2.2.2.2.2.2 r0 m.2.2.2 0 0 0 0 0 0 0 0 0 false 0 0 0 0 (rd l_ m.1 (0, 0, 0, 0)).1 (rd l_ m.1 (0, 0, 0, 0)).2.1 (rd l_ m.1 (0, 0, 0, 0)).2.2.1 (rd l_ m.1 (0, 0, 0, 0)).2.2.2
         else
          (bif (rd l_ m.1 (0, 0, 0, 0)).1 == 5 then
           ax 8 (rd l_ m.1 (0, 0, 0, 0)).2.1 <|
           (S73 k (aget (α := Int) 8 m.2.1 (rd l_ m.1 (0, 0, 0, 0)).2.1 0) (rd l_ m.1 (0, 0, 0, 0)).2.2.2).bind fun q3 =>
           ax 8 (rd l_ m.1 (0, 0, 0, 0)).2.1 <|
           L40_28 k k (IntKind.i64.wrap (m.1 + 1)) (aset (α := Int) 8 m.2.1 (rd l_ m.1 (0, 0, 0, 0)).2.1 q3.1.1).1 (aset (α := Int) 8 m.2.1 (rd l_ m.1 (0, 0, 0, 0)).2.1 q3.1.1).2.1 (aset (α := Int) 8 m.2.1 (rd l_ m.1 (0, 0, 0, 0)).2.1 q3.1.1).2.2.1 (aset (α := Int) 8 m.2.1 (rd l_ m.1 (0, 0, 0, 0)).2.1 q3.1.1).2.2.2.1 (aset (α := Int) 8 m.2.1 (rd l_ m.1 (0, 0, 0, 0)).2.1 q3.1.1).2.2.2.2.1 (aset (α := Int) 8 m.2.1 (rd l_ m.1 (0, 0, 0, 0)).2.1 q3.1.1).2.2.2.2.2.1 (aset (α := Int) 8 m.2.1 (rd l_ m.1 (0, 0, 0, 0)).2.1 q3.1.1).2.2.2.2.2.2.1 (aset (α := Int) 8 m.2.1 (rd l_ m.1 (0, 0, 0, 0)).2.1 q3.1.1).2.2.2.2.2.2.2 r0 m.2.2.2 0 0 0 0 0 0 0 0 0 false 0 0 0 0 (rd l_ m.1 (0, 0, 0, 0)).1 (rd l_ m.1 (0, 0, 0, 0)).2.1 (rd l_ m.1 (0, 0, 0, 0)).2.2.1 (rd l_ m.1 (0, 0, 0, 0)).2.2.2
          else
           (bif (rd l_ m.1 (0, 0, 0, 0)).1 == 6 then
            ax 8 (rd l_ m.1 (0, 0, 0, 0)).2.1 <|
            (S74 k (aget (α := Int) 8 m.2.1 (rd l_ m.1 (0, 0, 0, 0)).2.1 0) (rd l_ m.1 (0, 0, 0, 0)).2.2.2).bind fun q4 =>
            ax 8 (rd l_ m.1 (0, 0, 0, 0)).2.1 <|
            L40_28 k k (IntKind.i64.wrap (m.1 + 1)) (aset (α := Int) 8 m.2.1 (rd l_ m.1 (0, 0, 0, 0)).2.1 q4.1.1).1 (aset (α := Int) 8 m.2.1 (rd l_ m.1 (0, 0, 0, 0)).2.1 q4.1.1).2.1 (aset (α := Int) 8 m.2.1 (rd l_ m.1 (0, 0, 0, 0)).2.1 q4.1.1).2.2.1 (aset (α := Int) 8 m.2.1 (rd l_ m.1 (0, 0, 0, 0)).2.1 q4.1.1).2.2.2.1 (aset (α := Int) 8 m.2.1 (rd l_ m.1 (0, 0, 0, 0)).2.1 q4.1.1).2.2.2.2.1 (aset (α := Int) 8 m.2.1 (rd l_ m.1 (0, 0, 0, 0)).2.1 q4.1.1).2.2.2.2.2.1 (aset (α := Int) 8 m.2.1 (rd l_ m.1 (0, 0, 0, 0)).2.1 q4.1.1).2.2.2.2.2.2.1 (aset (α := Int) 8 m.2.1 (rd l_ m.1 (0, 0, 0, 0)).2.1 q4.1.1).2.2.2.2.2.2.2 r0 m.2.2.2 0 0 0 0 0 0 0 0 0 false 0 0 0 0 (rd l_ m.1 (0, 0, 0, 0)).1 (rd l_ m.1 (0, 0, 0, 0)).2.1 (rd l_ m.1 (0, 0, 0, 0)).2.2.1 (rd l_ m.1 (0, 0, 0, 0)).2.2.2
           else
            (bif (rd l_ m.1 (0, 0, 0, 0)).1 == 7 then
             ax 8 (rd l_ m.1 (0, 0, 0, 0)).2.1 <|
             (bif (aget (α := Int) 8 m.2.1 (rd l_ m.1 (0, 0, 0, 0)).2.1 0) == 0 then
              L40_28 k k (IntKind.i64.wrap ((IntKind.i64.wrap (m.1 + 1)) + (rd l_ m.1 (0, 0, 0, 0)).2.2.2)) m.2.1.1 m.2.1.2.1 m.2.1.2.2.1 m.2.1.2.2.2.1 m.2.1.2.2.2.2.1 m.2.1.2.2.2.2.2.1 m.2.1.2.2.2.2.2.2.1 m.2.1.2.2.2.2.2.2.2 r0 m.2.2.2 0 0 0 0 0 0 0 0 0 false 0 0 0 0 (rd l_ m.1 (0, 0, 0, 0)).1 (rd l_ m.1 (0, 0, 0, 0)).2.1 (rd l_ m.1 (0, 0, 0, 0)).2.2.1 (rd l_ m.1 (0, 0, 0, 0)).2.2.2
             else
              L40_28 k k (IntKind.i64.wrap (m.1 + 1)) m.2.1.1 m.2.1.2.1 m.2.1.2.2.1 m.2.1.2.2.2.1 m.2.1.2.2.2.2.1 m.2.1.2.2.2.2.2.1 m.2.1.2.2.2.2.2.2.1 m.2.1.2.2.2.2.2.2.2 r0 m.2.2.2 0 0 0 0 0 0 0 0 0 false 0 0 0 0 (rd l_ m.1 (0, 0, 0, 0)).1 (rd l_ m.1 (0, 0, 0, 0)).2.1 (rd l_ m.1 (0, 0, 0, 0)).2.2.1 (rd l_ m.1 (0, 0, 0, 0)).2.2.2)
            else
             (bif (rd l_ m.1 (0, 0, 0, 0)).1 == 8 then
              ap r0 ([(IntKind.i64.wrap (m.1 + 1), IntKind.i64.wrap (m.1 + (rd l_ m.1 (0, 0, 0, 0)).2.2.1), IntKind.i64.wrap ((rd l_ m.1 (0, 0, 0, 0)).2.2.2 - 1))] : List Y3_14) 24 fun r5 =>
              L40_28 k k (IntKind.i64.wrap (m.1 + 1)) m.2.1.1 m.2.1.2.1 m.2.1.2.2.1 m.2.1.2.2.2.1 m.2.1.2.2.2.2.1 m.2.1.2.2.2.2.2.1 m.2.1.2.2.2.2.2.2.1 m.2.1.2.2.2.2.2.2.2 r5 m.2.2.2 0 0 0 0 0 0 0 0 0 false 0 0 0 0 (rd l_ m.1 (0, 0, 0, 0)).1 (rd l_ m.1 (0, 0, 0, 0)).2.1 (rd l_ m.1 (0, 0, 0, 0)).2.2.1 (rd l_ m.1 (0, 0, 0, 0)).2.2.2
             else
              L40_28 k k (IntKind.i64.wrap (m.1 + 1)) m.2.1.1 m.2.1.2.1 m.2.1.2.2.1 m.2.1.2.2.2.1 m.2.1.2.2.2.2.1 m.2.1.2.2.2.2.2.1 m.2.1.2.2.2.2.2.2.1 m.2.1.2.2.2.2.2.2.2 r0 m.2.2.2 0 0 0 0 0 0 0 0 0 false 0 0 0 0 (rd l_ m.1 (0, 0, 0, 0)).1 (rd l_ m.1 (0, 0, 0, 0)).2.1 (rd l_ m.1 (0, 0, 0, 0)).2.2.1 (rd l_ m.1 (0, 0, 0, 0)).2.2.2)))))))))))))
noncomputable def E40 : Env := tab.env (lk [(72, F72), (73, F73), (74, F74)]) (hintL [(205, 1)])
theorem E40_ok : EnvOK Try.prog E40 := envOK_of tabOK _ _ (allFn_lk (l := [(72, F72), (73, F73), (74, F74)]) ⟨ok72, ok73, ok74, trivial⟩)
noncomputable def B40 (k : Nat) : Tbl (RD R40 × MD P40) := (.loop 28 c40_L28 (b40_28 k) (fun g => .nil) .nil)
noncomputable def F40 : Fn := ⟨P40, R40, fun k x => S40 k x.1 x.2.1⟩
theorem ok40 : FnOK Try.prog 40 F40 := evalF_ok (E := E40) (T := B40) E40_ok mix Try.func40 rfl (by kernel_rfl) (by kernel_rfl) (fun k => by kernel_rfl) (fun k x => by kernel_rfl)
noncomputable abbrev P17 : List PT := [.val ⟨false, Y3_2, false⟩, .val ⟨false, (.int .i64), false⟩]
noncomputable abbrev R17 : List RT := [.val ⟨false, (.int .i64), true⟩, .val ⟨false, (.int .i64), true⟩, .val ⟨false, .bool, true⟩]
noncomputable abbrev c17_L6 : Cut := ⟨[0, 7, 9, 10], [.cell Y3_2, .box 37 [.cell (.int .i64), .cell (.int .i64), .own 111 Y3_8], .box 103 [.cell (.int .i64), .cell (.int .i64), .cell (.int .i64), .cell (.int .i64), .cell (.int .i64), .cell (.int .i64), .cell (.int .i64), .cell (.int .i64), .cell (.int .i64), .own 142 (.pair (.int .i64) Y3_8), .cell .bool], .cell (.int .i64)], [], 42⟩
noncomputable def l17_6 (k : Nat) (g6 : (List Y3_1) → Int → Int → (List (Int × Int)) → Int → Int → Int → Int → Int → Int → Int → Int → Int → (List Y3_14) → Bool → Int → Option Y3_13) (l_1 : List Y3_1) (c : Int) (c1 : Int) (c2 : Y3_15) (m : Int) (m1 : Int) (m2 : Int) (m3 : Int) (m4 : Int) (m5 : Int) (m6 : Int) (m7 : Int) (m8 : Int) (m9 : List Y3_14) (m10 : Bool) (n : Int) : Option Y3_13 :=
 (bif !m10 then
  (bif decide (n ≤ c) then
   (S40 k l_1 (m, (m1, m2, m3, m4, m5, m6, m7, m8), m9, m10)).bind fun q2 =>
   g6 l_1 c c1 c2 q2.1.1.1 q2.1.1.2.1.1 q2.1.1.2.1.2.1 q2.1.1.2.1.2.2.1 q2.1.1.2.1.2.2.2.1 q2.1.1.2.1.2.2.2.2.1 q2.1.1.2.1.2.2.2.2.2.1 q2.1.1.2.1.2.2.2.2.2.2.1 q2.1.1.2.1.2.2.2.2.2.2.2 q2.1.1.2.2.1 q2.1.1.2.2.2 (IntKind.i64.wrap (n + 1))
  else
   some ((m1, n, true, ()), ()))
 else
  some ((m1, n, true, ()), ()))
noncomputable def b17_6 (k : Nat) (g : ((Unit) × (List Y3_1) × Y3_11 × Y3_6 × Int × Unit) → Option Y3_13) (d : (Unit) × (List Y3_1) × Y3_11 × Y3_6 × Int × Unit) : Option Y3_13 := l17_6 k (fun l_1 c c1 c2 m m1 m2 m3 m4 m5 m6 m7 m8 m9 m10 n => g ((), l_1, (c, c1, c2, ()), (m, m1, m2, m3, m4, m5, m6, m7, m8, m9, m10, ()), n, ())) d.2.1 d.2.2.1.1 d.2.2.1.2.1 d.2.2.1.2.2.1 d.2.2.2.1.1 d.2.2.2.1.2.1 d.2.2.2.1.2.2.1 d.2.2.2.1.2.2.2.1 d.2.2.2.1.2.2.2.2.1 d.2.2.2.1.2.2.2.2.2.1 d.2.2.2.1.2.2.2.2.2.2.1 d.2.2.2.1.2.2.2.2.2.2.2.1 d.2.2.2.1.2.2.2.2.2.2.2.2.1 d.2.2.2.1.2.2.2.2.2.2.2.2.2.1 d.2.2.2.1.2.2.2.2.2.2.2.2.2.2.1 d.2.2.2.2.1
noncomputable def L17_6 (k : Nat) (j : Nat) (l_1 : List Y3_1) (c : Int) (c1 : Int) (c2 : Y3_15) (m : Int) (m1 : Int) (m2 : Int) (m3 : Int) (m4 : Int) (m5 : Int) (m6 : Int) (m7 : Int) (m8 : Int) (m9 : List Y3_14) (m10 : Bool) (n : Int) : Option Y3_13 := iter (R := (Int × Int × Bool × Unit) × Unit) c17_L6 (b17_6 k) j ((), l_1, (c, c1, c2, ()), (m, m1, m2, m3, m4, m5, m6, m7, m8, m9, m10, ()), n, ())
theorem L17_6_s (k : Nat) (j : Nat) (l_1 : List Y3_1) (c : Int) (c1 : Int) (c2 : Y3_15) (m : Int) (m1 : Int) (m2 : Int) (m3 : Int) (m4 : Int) (m5 : Int) (m6 : Int) (m7 : Int) (m8 : Int) (m9 : List Y3_14) (m10 : Bool) (n : Int) : L17_6 k (j + 1) l_1 c c1 c2 m m1 m2 m3 m4 m5 m6 m7 m8 m9 m10 n = l17_6 k (L17_6 k j) l_1 c c1 c2 m m1 m2 m3 m4 m5 m6 m7 m8 m9 m10 n := iter_succ _ _ _ _
noncomputable def S17 (k : Nat) (l_ : List Y3_1) (in_ : Int) : Option Y3_13 :=
 (S18 k l_).bind fun q0 =>
 (bif !q0.1.2.1 then
  some ((0, 0, false, ()), ())
 else
  (S39 k in_).bind fun q1 =>
  L17_6 k k l_ q0.1.1.1 q0.1.1.2.1 q0.1.1.2.2 q1.1.1.1 q1.1.1.2.1.1 q1.1.1.2.1.2.1 q1.1.1.2.1.2.2.1 q1.1.1.2.1.2.2.2.1 q1.1.1.2.1.2.2.2.2.1 q1.1.1.2.1.2.2.2.2.2.1 q1.1.1.2.1.2.2.2.2.2.2.1 q1.1.1.2.1.2.2.2.2.2.2.2 q1.1.1.2.2.1 q1.1.1.2.2.2 0)
noncomputable def E17 : Env := tab.env (lk [(18, F18), (39, F39), (40, F40)]) (hintL [])
theorem E17_ok : EnvOK Try.prog E17 := envOK_of tabOK _ _ (allFn_lk (l := [(18, F18), (39, F39), (40, F40)]) ⟨ok18, ok39, ok40, trivial⟩)
noncomputable def B17 (k : Nat) : Tbl (RD R17 × MD P17) := (.loop 6 c17_L6 (b17_6 k) (fun g => .nil) .nil)
noncomputable def F17 : Fn := ⟨P17, R17, fun k x => S17 k x.1 x.2.1⟩
theorem ok17 : FnOK Try.prog 17 F17 := evalF_ok (E := E17) (T := B17) E17_ok mix Try.func17 rfl (by kernel_rfl) (by kernel_rfl) (fun k => by kernel_rfl) (fun k x => by kernel_rfl)
noncomputable abbrev P3 : List PT := [.val ⟨false, Y3_2, false⟩, .val ⟨false, (.sl 5 (.int .u8)), false⟩, .val ⟨false, (.int .i64), false⟩]
noncomputable abbrev R3 : List RT := [.val ⟨false, .bool, true⟩]
noncomputable abbrev c3_L7 : Cut := ⟨[2, 7, 8], [.cell (.int .i64), .own 22 Y3_2, .cell (.int .i64)], [], 70⟩
noncomputable def l3_7 (k : Nat) (g7 : Int → (List (List Y3_1)) → Int → Option ((Bool × Unit) × Unit)) (in_1 : Int) (both : List (List Y3_1)) (i : Int) : Option ((Bool × Unit) × Unit) :=
 (bif decide (i < 3) then
  ix both i <|
  (S16 k (rd both i []) in_1).bind fun q5 =>
  ix both i <|
  (S17 k (rd both i []) in_1).bind fun q6 =>
  (bif q5.1.1 != q6.1.1 then
   some ((false, ()), ())
  else
   (bif q5.1.2.1 != q6.1.2.1 then
    some ((false, ()), ())
   else
    (bif !(q5.1.2.2.1 == q6.1.2.2.1) then
     some ((false, ()), ())
    else
     g7 in_1 both (IntKind.i64.wrap (i + 1)))))
 else
  some ((true, ()), ()))
noncomputable def b3_7 (k : Nat) (g : ((Unit) × Int × (List (List Y3_1)) × Int × Unit) → Option ((Bool × Unit) × Unit)) (d : (Unit) × Int × (List (List Y3_1)) × Int × Unit) : Option ((Bool × Unit) × Unit) := l3_7 k (fun in_1 both i => g ((), in_1, both, i, ())) d.2.1 d.2.2.1 d.2.2.2.1
noncomputable def L3_7 (k : Nat) (j : Nat) (in_1 : Int) (both : List (List Y3_1)) (i : Int) : Option ((Bool × Unit) × Unit) := iter (R := (Bool × Unit) × Unit) c3_L7 (b3_7 k) j ((), in_1, both, i, ())
theorem L3_7_s (k : Nat) (j : Nat) (in_1 : Int) (both : List (List Y3_1)) (i : Int) : L3_7 k (j + 1) in_1 both i = l3_7 k (L3_7 k j) in_1 both i := iter_succ _ _ _ _
noncomputable def S3 (k : Nat) (l_ : List Y3_1) (picks : List Int) (in_ : Int) : Option ((Bool × Unit) × Unit) :=
 (S12 k).bind fun q0 =>
 (bif !q0.1.1 then
  some ((false, ()), ())
 else
  (bif decide ((l_.length : Int) > 30) then
   some ((true, ()), ())
  else
   (bif decide ((picks.length : Int) > 80) then
    some ((true, ()), ())
   else
    (S13 k picks).bind fun q1 =>
    (S14 k q1.1.1.1 q1.1.1.2.1 3).bind fun q2 =>
    (S13 k picks).bind fun q3 =>
    (S15 k q3.1.1.1 q3.1.1.2.1).bind fun q4 =>
    L3_7 k k in_ ([q2.1.1, q4.1.1, l_] : List (List Y3_1)) 0)))
noncomputable def E3 : Env := tab.env (lk [(12, F12), (13, F13), (14, F14), (15, F15), (16, F16), (17, F17)]) (hintL [])
theorem E3_ok : EnvOK Try.prog E3 := envOK_of tabOK _ _ (allFn_lk (l := [(12, F12), (13, F13), (14, F14), (15, F15), (16, F16), (17, F17)]) ⟨ok12, ok13, ok14, ok15, ok16, ok17, trivial⟩)
noncomputable def B3 (k : Nat) : Tbl (RD R3 × MD P3) := (.loop 7 c3_L7 (b3_7 k) (fun g => .nil) .nil)
noncomputable def F3 : Fn := ⟨P3, R3, fun k x => S3 k x.1 x.2.1 x.2.2.1⟩
theorem ok3 : FnOK Try.prog 3 F3 := evalF_ok (E := E3) (T := B3) E3_ok mix Try.func3 rfl (by kernel_rfl) (by kernel_rfl) (fun k => by kernel_rfl) (fun k x => by kernel_rfl)
end Go.Proofs.Ytnlfdfjkgaanjaa.Ab
