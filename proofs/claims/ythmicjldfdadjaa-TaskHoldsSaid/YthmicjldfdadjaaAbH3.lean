import Derived.Test.YthmicjldfdadjaaAbH2
/- Contracts, printed by this session's own program gen.py. -/
set_option linter.unusedVariables false
set_option linter.unusedSimpArgs false
set_option maxRecDepth 100000
namespace Go.Proofs.Ythmicjldfdadjaa.Ab
open Go.RowKit Go.Proofs.YthmicjldfdadjaaW.PrintWords
abbrev Y3_0 : Type := Int × Int × Int × Int
abbrev Y3_1 : Ty := .sl 42 (.pair (.int .i64) (.pair (.int .i64) (.pair (.int .i64) (.int .i64))))
abbrev Y3_2 : Type := (List Y3_0) → Int → Int → Int → Int → (List (Int × Int)) → (List Int) → (List Int) → Int → Int → Option (((Int × Int × List (Int × Int)) × Bool × Unit) × Unit)
abbrev Y3_3 : Type := ((Int × Int × List (Int × Int)) × Bool × Unit) × Unit
abbrev Y3_4 : Type := (List Y3_0) → (List Int) → (List (Int × Int × Int × Bool)) → Int → Option (((List Int) × Unit) × Unit)
abbrev Y3_5 : Type := (Int × (PN Int 8) × (List (Int × Int × Int)) × Bool) × Y3_0 × Bool × Unit
abbrev Y3_6 : Type := Int × Int × Int × Int × Int × Int × Int × Int × Int × (List (Int × Int × Int)) × Bool × Unit
abbrev Y3_7 : Ty := .pair (.int .i64) (.int .i64)
abbrev Y3_8 : Type := (Int × Unit) × Unit
abbrev Y3_9 : Type := ((List Int) × Unit) × Unit
abbrev Y3_10 : Type := Int × Int × Int × Bool
abbrev Y3_11 : Type := ((Unit) × (Int × Int × Int × (List Y3_0) × (List Y3_0) × (List Y3_0) × Unit) × Int × Int × (List (Int × Int)) × Int × Bool × Int × Bool × Int × Int × Unit) → Option ((Bool × Unit) × Unit)
abbrev Y3_12 : Type := Int → Int → Int → (List Y3_0) → (List Y3_0) → (List Y3_0) → Int → Int → (List (Int × Int)) → Int → Bool → Int → Bool → Int → Int → Option ((Bool × Unit) × Unit)
abbrev Y3_13 : Type := Int × Int × (List (Int × Int)) × Unit
abbrev Y3_14 : Ty := .pair (.int .i64) (.pair (arrT 8 (.int .i64)) (.pair (.sl 97 (.pair (.int .i64) Y3_7)) .bool))
abbrev Y3_15 : Type := List (Int × Int)
abbrev Y3_16 : Type := (Unit) × (Int × Int × Int × (List Y3_0) × (List Y3_0) × (List Y3_0) × Unit) × Int × Int × (List (Int × Int)) × Int × Bool × Int × Bool × Int × Int × Unit
abbrev Y3_17 : Type := (Int × Int × Bool × Unit) × Unit
abbrev Y3_18 : Type := Int × Int × Int
abbrev Y3_19 : Type := (Bool × Unit) × Unit
noncomputable abbrev P51 : List PT := [.val ⟨false, Y3_1, false⟩]
noncomputable abbrev R51 : List RT := [.val ⟨false, (.sl 2 (.int .i64)), true⟩]
noncomputable abbrev c51_L8 : Cut := ⟨[0, 3, 4, 5, 6], [.cell Y3_1, .own 2 (.int .i64), .own 105 (.pair (.int .i64) (.pair (.int .i64) (.pair (.int .i64) .bool))), .cell (.int .i64), .cell (.int .i64)], [], 58⟩
noncomputable def l51_8 (k : Nat) (g4 : Y3_4) (g8 : (List Y3_0) → (List Int) → (List Y3_10) → Int → Int → Option Y3_9) (l_2 : List Y3_0) (out1 : List Int) (a1 : List Y3_10) (i1 : Int) (k_ : Int) : Option Y3_9 :=
 (bif decide (k_ < (a1.length : Int)) then
  ix a1 k_ <|
  (bif (rd a1 k_ (0, 0, 0, false)).2.2.2 then
   ix a1 k_ <|
   (S70 k (rd a1 k_ (0, 0, 0, false)) i1).bind fun q1 =>
   (bif q1.1.1 then
    ix out1 i1 <|
    ix a1 k_ <|
    ix l_2 (rd a1 k_ (0, 0, 0, false)).2.2.1 <|
    ix out1 i1 <|
    g8 l_2 (upd out1 i1 (IntKind.i64.wrap ((rd out1 i1 0) * (rd l_2 (rd a1 k_ (0, 0, 0, false)).2.2.1 (0, 0, 0, 0)).2.2.2))) a1 i1 (IntKind.i64.wrap (k_ + 1))
   else
    g8 l_2 out1 a1 i1 (IntKind.i64.wrap (k_ + 1)))
  else
   g8 l_2 out1 a1 i1 (IntKind.i64.wrap (k_ + 1)))
 else
  g4 l_2 out1 a1 (IntKind.i64.wrap (i1 + 1)))
noncomputable def b51_8 (k : Nat) (g4 : Y3_4) (g : ((Unit) × (List Y3_0) × (List Int) × (List Y3_10) × Int × Int × Unit) → Option Y3_9) (d : (Unit) × (List Y3_0) × (List Int) × (List Y3_10) × Int × Int × Unit) : Option Y3_9 := l51_8 k g4 (fun l_2 out1 a1 i1 k_ => g ((), l_2, out1, a1, i1, k_, ())) d.2.1 d.2.2.1 d.2.2.2.1 d.2.2.2.2.1 d.2.2.2.2.2.1
noncomputable def L51_8 (k : Nat) (g4 : Y3_4) (j : Nat) (l_2 : List Y3_0) (out1 : List Int) (a1 : List Y3_10) (i1 : Int) (k_ : Int) : Option Y3_9 := iter (R := ((List Int) × Unit) × Unit) c51_L8 (b51_8 k g4) j ((), l_2, out1, a1, i1, k_, ())
theorem L51_8_s (k : Nat) (g4 : Y3_4) (j : Nat) (l_2 : List Y3_0) (out1 : List Int) (a1 : List Y3_10) (i1 : Int) (k_ : Int) : L51_8 k g4 (j + 1) l_2 out1 a1 i1 k_ = l51_8 k g4 (L51_8 k g4 j) l_2 out1 a1 i1 k_ := iter_succ _ _ _ _
noncomputable abbrev c51_L4 : Cut := ⟨[0, 3, 4, 5], [.cell Y3_1, .own 2 (.int .i64), .own 105 (.pair (.int .i64) (.pair (.int .i64) (.pair (.int .i64) .bool))), .cell (.int .i64)], [], 58⟩
noncomputable def l51_4 (k : Nat) (g4 : Y3_4) (l_1 : List Y3_0) (out : List Int) (a : List Y3_10) (i : Int) : Option Y3_9 :=
 (bif decide (i < (l_1.length : Int)) then
  ix out i <|
  L51_8 k g4 k l_1 (upd out i 1) a i 0
 else
  some ((out, ()), ()))
noncomputable def b51_4 (k : Nat) (g : ((Unit) × (List Y3_0) × (List Int) × (List Y3_10) × Int × Unit) → Option Y3_9) (d : (Unit) × (List Y3_0) × (List Int) × (List Y3_10) × Int × Unit) : Option Y3_9 := l51_4 k (fun l_1 out a i => g ((), l_1, out, a, i, ())) d.2.1 d.2.2.1 d.2.2.2.1 d.2.2.2.2.1
noncomputable def L51_4 (k : Nat) (j : Nat) (l_1 : List Y3_0) (out : List Int) (a : List Y3_10) (i : Int) : Option Y3_9 := iter (R := ((List Int) × Unit) × Unit) c51_L4 (b51_4 k) j ((), l_1, out, a, i, ())
theorem L51_4_s (k : Nat) (j : Nat) (l_1 : List Y3_0) (out : List Int) (a : List Y3_10) (i : Int) : L51_4 k (j + 1) l_1 out a i = l51_4 k (L51_4 k j) l_1 out a i := iter_succ _ _ _ _
noncomputable def S51 (k : Nat) (l_ : List Y3_0) : Option Y3_9 :=
 mk (l_.length : Int) (l_.length : Int) 8 <|
 (S69 k l_).bind fun q0 =>
 L51_4 k k l_ (List.replicate (l_.length : Int).toNat (0 : Int)) q0.1.1 0
noncomputable def E51 : Env := tab.env (lk [(69, F69), (70, F70)]) (hintL [])
theorem E51_ok : EnvOK Try.prog E51 := envOK_of tabOK _ _ (allFn_lk (l := [(69, F69), (70, F70)]) ⟨ok69, ok70, trivial⟩)
noncomputable def B51 (k : Nat) : Tbl (RD R51 × MD P51) := (.loop 4 c51_L4 (b51_4 k) (fun g => (fun (g4 : Y3_4) => (.loop 8 c51_L8 (b51_8 k g4) (fun g => .nil) .nil)) (fun l_1 out a i => g ((), l_1, out, a, i, ()))) .nil)
noncomputable def F51 : Fn := ⟨P51, R51, fun k x => S51 k x.1⟩
theorem ok51 : FnOK Try.prog 51 F51 := evalF_ok (E := E51) (T := B51) E51_ok mix Try.func51 rfl (by kernel_rfl) (by kernel_rfl) (fun k => by kernel_rfl) (fun k x => by kernel_rfl)
noncomputable abbrev P32 : List PT := [.val ⟨false, Y3_1, false⟩]
noncomputable abbrev R32 : List RT := [.val ⟨true, (.pair (.int .i64) (.pair (.int .i64) (.sl 39 Y3_7))), true⟩, .val ⟨false, .bool, true⟩]
noncomputable abbrev c32_L16 : Cut := ⟨[0, 2, 4, 5, 6, 8, 9, 10, 11], [.cell Y3_1, .box 60 [.cell (.int .i64), .cell (.int .i64), .nil], .box 60 [.cell (.int .i64), .cell (.int .i64), .own 39 Y3_7], .own 2 (.int .i64), .own 3 (.int .i64), .cell (.int .i64), .cell (.int .i64), .cell (.int .i64), .cell (.int .i64)], [], 103⟩
noncomputable def l32_16 (k : Nat) (g8 : Y3_2) (g16 : (List Y3_0) → Int → Int → Int → Int → (List (Int × Int)) → (List Int) → (List Int) → Int → Int → Int → Int → Option Y3_3) (l_3 : List Y3_0) (t2_4 : Int) (t2_5 : Int) (c6 : Int) (c7 : Int) (c8 : Y3_15) (t3 : List Int) (pairs2 : List Int) (piece2 : Int) (i2 : Int) (n : Int) (k_ : Int) : Option Y3_3 :=
 ix pairs2 i2 <|
 (bif decide (k_ ≤ (rd pairs2 i2 0)) then
  ix t3 k_ <|
  g16 l_3 t2_4 t2_5 c6 c7 c8 t3 pairs2 piece2 i2 (IntKind.i64.wrap (n + (rd t3 k_ 0))) (IntKind.i64.wrap (k_ + 1))
 else
  ix l_3 i2 <|
  ix t3 i2 <|
  nz (rd t3 i2 0) <|
  ap c8 ([((rd l_3 i2 (0, 0, 0, 0)).2.1, IntKind.i64.wrap (Int.tdiv n (rd t3 i2 0)))] : List (Int × Int)) 16 fun r3 =>
  g8 l_3 t2_4 t2_5 c6 c7 r3 t3 pairs2 piece2 (IntKind.i64.wrap (i2 + 1)))
noncomputable def b32_16 (k : Nat) (g8 : Y3_2) (g : ((Unit) × (List Y3_0) × (Int × Int × Unit × Unit) × Y3_13 × (List Int) × (List Int) × Int × Int × Int × Int × Unit) → Option Y3_3) (d : (Unit) × (List Y3_0) × (Int × Int × Unit × Unit) × Y3_13 × (List Int) × (List Int) × Int × Int × Int × Int × Unit) : Option Y3_3 := l32_16 k g8 (fun l_3 t2_4 t2_5 c6 c7 c8 t3 pairs2 piece2 i2 n k_ => g ((), l_3, (t2_4, t2_5, (), ()), (c6, c7, c8, ()), t3, pairs2, piece2, i2, n, k_, ())) d.2.1 d.2.2.1.1 d.2.2.1.2.1 d.2.2.2.1.1 d.2.2.2.1.2.1 d.2.2.2.1.2.2.1 d.2.2.2.2.1 d.2.2.2.2.2.1 d.2.2.2.2.2.2.1 d.2.2.2.2.2.2.2.1 d.2.2.2.2.2.2.2.2.1 d.2.2.2.2.2.2.2.2.2.1
noncomputable def L32_16 (k : Nat) (g8 : Y3_2) (j : Nat) (l_3 : List Y3_0) (t2_4 : Int) (t2_5 : Int) (c6 : Int) (c7 : Int) (c8 : Y3_15) (t3 : List Int) (pairs2 : List Int) (piece2 : Int) (i2 : Int) (n : Int) (k_ : Int) : Option Y3_3 := iter (R := ((Int × Int × List (Int × Int)) × Bool × Unit) × Unit) c32_L16 (b32_16 k g8) j ((), l_3, (t2_4, t2_5, (), ()), (c6, c7, c8, ()), t3, pairs2, piece2, i2, n, k_, ())
theorem L32_16_s (k : Nat) (g8 : Y3_2) (j : Nat) (l_3 : List Y3_0) (t2_4 : Int) (t2_5 : Int) (c6 : Int) (c7 : Int) (c8 : Y3_15) (t3 : List Int) (pairs2 : List Int) (piece2 : Int) (i2 : Int) (n : Int) (k_ : Int) : L32_16 k g8 (j + 1) l_3 t2_4 t2_5 c6 c7 c8 t3 pairs2 piece2 i2 n k_ = l32_16 k g8 (L32_16 k g8 j) l_3 t2_4 t2_5 c6 c7 c8 t3 pairs2 piece2 i2 n k_ := iter_succ _ _ _ _
noncomputable abbrev c32_J13 : Cut := ⟨[0, 2, 4, 5, 6, 8, 9], [.cell Y3_1, .box 60 [.cell (.int .i64), .cell (.int .i64), .nil], .box 60 [.cell (.int .i64), .cell (.int .i64), .own 39 Y3_7], .own 2 (.int .i64), .own 3 (.int .i64), .cell (.int .i64), .cell (.int .i64)], [], 103⟩
noncomputable def j32_13 (k : Nat) (g8 : Y3_2) (l_2 : List Y3_0) (t2_2 : Int) (t2_3 : Int) (c3 : Int) (c4 : Int) (c5 : Y3_15) (t1 : List Int) (pairs1 : List Int) (piece1 : Int) (i1 : Int) : Option Y3_3 :=
 ix l_2 i1 <|
 (bif (rd l_2 i1 (0, 0, 0, 0)).1 == 9 then
  L32_16 k g8 k l_2 t2_2 t2_3 c3 c4 c5 t1 pairs1 piece1 i1 0 (IntKind.i64.wrap (i1 + 1))
 else
  g8 l_2 t2_2 t2_3 c3 c4 c5 t1 pairs1 piece1 (IntKind.i64.wrap (i1 + 1)))
noncomputable abbrev c32_L8 : Cut := ⟨[0, 2, 4, 5, 6, 8, 9], [.cell Y3_1, .box 60 [.cell (.int .i64), .cell (.int .i64), .nil], .box 60 [.cell (.int .i64), .cell (.int .i64), .own 39 Y3_7], .own 2 (.int .i64), .own 3 (.int .i64), .cell (.int .i64), .cell (.int .i64)], [], 103⟩
noncomputable def l32_8 (k : Nat) (g8 : Y3_2) (l_1 : List Y3_0) (t2 : Int) (t2_1 : Int) (c : Int) (c1 : Int) (c2 : Y3_15) (t : List Int) (pairs : List Int) (piece : Int) (i : Int) : Option Y3_3 :=
 (bif decide (i < (l_1.length : Int)) then
  ix t i <|
  ix t i <|
  ix l_1 i <|
  (bif (rd l_1 i (0, 0, 0, 0)).1 == 11 then
   j32_13 k g8 l_1 t2 t2_1 (IntKind.i64.wrap (c + (rd t i 0))) (mx c1 (IntKind.i64.wrap (piece + (rd t i 0)))) c2 t pairs 0 i
  else
   ix l_1 i <|
   (bif (rd l_1 i (0, 0, 0, 0)).1 == 0 then
    j32_13 k g8 l_1 t2 t2_1 (IntKind.i64.wrap (c + (rd t i 0))) (mx c1 (IntKind.i64.wrap (piece + (rd t i 0)))) c2 t pairs 0 i
   else
    j32_13 k g8 l_1 t2 t2_1 (IntKind.i64.wrap (c + (rd t i 0))) c1 c2 t pairs (IntKind.i64.wrap (piece + (rd t i 0))) i))
 else
  some (((c, c1, c2), true, ()), ()))
noncomputable def b32_8 (k : Nat) (g : ((Unit) × (List Y3_0) × (Int × Int × Unit × Unit) × Y3_13 × (List Int) × (List Int) × Int × Int × Unit) → Option Y3_3) (d : (Unit) × (List Y3_0) × (Int × Int × Unit × Unit) × Y3_13 × (List Int) × (List Int) × Int × Int × Unit) : Option Y3_3 := l32_8 k (fun l_1 t2 t2_1 c c1 c2 t pairs piece i => g ((), l_1, (t2, t2_1, (), ()), (c, c1, c2, ()), t, pairs, piece, i, ())) d.2.1 d.2.2.1.1 d.2.2.1.2.1 d.2.2.2.1.1 d.2.2.2.1.2.1 d.2.2.2.1.2.2.1 d.2.2.2.2.1 d.2.2.2.2.2.1 d.2.2.2.2.2.2.1 d.2.2.2.2.2.2.2.1
noncomputable def L32_8 (k : Nat) (j : Nat) (l_1 : List Y3_0) (t2 : Int) (t2_1 : Int) (c : Int) (c1 : Int) (c2 : Y3_15) (t : List Int) (pairs : List Int) (piece : Int) (i : Int) : Option Y3_3 := iter (R := ((Int × Int × List (Int × Int)) × Bool × Unit) × Unit) c32_L8 (b32_8 k) j ((), l_1, (t2, t2_1, (), ()), (c, c1, c2, ()), t, pairs, piece, i, ())
theorem L32_8_s (k : Nat) (j : Nat) (l_1 : List Y3_0) (t2 : Int) (t2_1 : Int) (c : Int) (c1 : Int) (c2 : Y3_15) (t : List Int) (pairs : List Int) (piece : Int) (i : Int) : L32_8 k (j + 1) l_1 t2 t2_1 c c1 c2 t pairs piece i = l32_8 k (L32_8 k j) l_1 t2 t2_1 c c1 c2 t pairs piece i := iter_succ _ _ _ _
noncomputable def S32 (k : Nat) (l_ : List Y3_0) : Option Y3_3 :=
 (S50 k l_).bind fun q0 =>
 (bif !q0.1.1 then
  some (((0, 0, []), false, ()), ())
 else
  (S51 k l_).bind fun q1 =>
  (S52 k l_).bind fun q2 =>
  L32_8 k k l_ 0 0 0 0 ([] : List (Int × Int)) q1.1.1 q2.1.1 0 0)
noncomputable def E32 : Env := tab.env (lk [(50, F50), (51, F51), (52, F52)]) (hintL [(16, 2)])
theorem E32_ok : EnvOK Try.prog E32 := envOK_of tabOK _ _ (allFn_lk (l := [(50, F50), (51, F51), (52, F52)]) ⟨ok50, ok51, ok52, trivial⟩)
noncomputable def B32 (k : Nat) : Tbl (RD R32 × MD P32) := (.loop 8 c32_L8 (b32_8 k) (fun g => (fun (g8 : Y3_2) => (.loop 16 c32_L16 (b32_16 k g8) (fun g => .nil) (.join 13 c32_J13 (fun d => j32_13 k g8 d.2.1 d.2.2.1.1 d.2.2.1.2.1 d.2.2.2.1.1 d.2.2.2.1.2.1 d.2.2.2.1.2.2.1 d.2.2.2.2.1 d.2.2.2.2.2.1 d.2.2.2.2.2.2.1 d.2.2.2.2.2.2.2.1) .nil))) (fun l_1 t2 t2_1 c c1 c2 t pairs piece i => g ((), l_1, (t2, t2_1, (), ()), (c, c1, c2, ()), t, pairs, piece, i, ()))) .nil)
noncomputable def F32 : Fn := ⟨P32, R32, fun k x => S32 k x.1⟩
theorem ok32 : FnOK Try.prog 32 F32 := evalF_ok (E := E32) (T := B32) E32_ok mix Try.func32 rfl (by kernel_rfl) (by kernel_rfl) (fun k => by kernel_rfl) (fun k x => by kernel_rfl)
noncomputable abbrev P38 : List PT := [.val ⟨false, (.int .i64), false⟩]
noncomputable abbrev R38 : List RT := [.val ⟨true, Y3_14, true⟩]
noncomputable def S38 (k : Nat) (in_ : Int) : Option (((Int × (PN Int 8) × (List Y3_18) × Bool) × Unit) × Unit) :=
 some (((0, (in_, 0, 0, 0, 0, 0, 0, 0), [], false), ()), ())
noncomputable def E38 : Env := tab.env (lk []) (hintL [])
theorem E38_ok : EnvOK Try.prog E38 := envOK_of tabOK _ _ (fun f F h => by cases h)
noncomputable def B38 (k : Nat) : Tbl (RD R38 × MD P38) := .nil
noncomputable def F38 : Fn := ⟨P38, R38, fun k x => S38 k x.1⟩
theorem ok38 : FnOK Try.prog 38 F38 := evalF_ok (E := E38) (T := B38) E38_ok mix Try.func38 rfl (by kernel_rfl) (by kernel_rfl) (fun k => by kernel_rfl) (fun k x => by kernel_rfl)
noncomputable abbrev P63 : List PT := [.val ⟨false, (.int .i64), false⟩, .val ⟨false, (.int .i64), false⟩]
noncomputable abbrev R63 : List RT := [.val ⟨false, (.int .i64), true⟩]
noncomputable abbrev c63_L6 : Cut := ⟨[0, 1], [.cell (.int .i64), .cell (.int .i64)], [], 35⟩
noncomputable def l63_6 (k : Nat) (g6 : Int → Int → Option Y3_8) (v2 : Int) (n2 : Int) : Option Y3_8 :=
 (bif decide (n2 < 0) then
  (bif decide (v2 < 0) then
   (bif (Int.tmod v2 2) != 0 then
    g6 (IntKind.i64.wrap ((IntKind.i64.wrap (Int.tdiv v2 2)) - 1)) (IntKind.i64.wrap (n2 + 1))
   else
    g6 (IntKind.i64.wrap (Int.tdiv v2 2)) (IntKind.i64.wrap (n2 + 1)))
  else
   g6 (IntKind.i64.wrap (Int.tdiv v2 2)) (IntKind.i64.wrap (n2 + 1)))
 else
  some ((v2, ()), ()))
noncomputable def b63_6 (k : Nat) (g : ((Unit) × Int × Int × Unit) → Option Y3_8) (d : (Unit) × Int × Int × Unit) : Option Y3_8 := l63_6 k (fun v2 n2 => g ((), v2, n2, ())) d.2.1 d.2.2.1
noncomputable def L63_6 (k : Nat) (j : Nat) (v2 : Int) (n2 : Int) : Option Y3_8 := iter (R := (Int × Unit) × Unit) c63_L6 (b63_6 k) j ((), v2, n2, ())
theorem L63_6_s (k : Nat) (j : Nat) (v2 : Int) (n2 : Int) : L63_6 k (j + 1) v2 n2 = l63_6 k (L63_6 k j) v2 n2 := iter_succ _ _ _ _
noncomputable abbrev c63_L3 : Cut := ⟨[0, 1], [.cell (.int .i64), .cell (.int .i64)], [], 35⟩
noncomputable def l63_3 (k : Nat) (g3 : Int → Int → Option Y3_8) (v1 : Int) (n1 : Int) : Option Y3_8 :=
 (bif decide (n1 > 0) then
  g3 (IntKind.i64.wrap (v1 * 2)) (IntKind.i64.wrap (n1 - 1))
 else
  L63_6 k k v1 n1)
noncomputable def b63_3 (k : Nat) (g : ((Unit) × Int × Int × Unit) → Option Y3_8) (d : (Unit) × Int × Int × Unit) : Option Y3_8 := l63_3 k (fun v1 n1 => g ((), v1, n1, ())) d.2.1 d.2.2.1
noncomputable def L63_3 (k : Nat) (j : Nat) (v1 : Int) (n1 : Int) : Option Y3_8 := iter (R := (Int × Unit) × Unit) c63_L3 (b63_3 k) j ((), v1, n1, ())
theorem L63_3_s (k : Nat) (j : Nat) (v1 : Int) (n1 : Int) : L63_3 k (j + 1) v1 n1 = l63_3 k (L63_3 k j) v1 n1 := iter_succ _ _ _ _
noncomputable def S63 (k : Nat) (v : Int) (n : Int) : Option Y3_8 :=
 (bif decide (n < (-63)) then
  some ((v, ()), ())
 else
  (bif decide (n > 63) then
   some ((v, ()), ())
  else
   L63_3 k k v n))
noncomputable def E63 : Env := tab.env (lk []) (hintL [])
theorem E63_ok : EnvOK Try.prog E63 := envOK_of tabOK _ _ (fun f F h => by cases h)
noncomputable def B63 (k : Nat) : Tbl (RD R63 × MD P63) := (.loop 6 c63_L6 (b63_6 k) (fun g => .nil) (.loop 3 c63_L3 (b63_3 k) (fun g => .nil) .nil))
noncomputable def F63 : Fn := ⟨P63, R63, fun k x => S63 k x.1 x.2.1⟩
theorem ok63 : FnOK Try.prog 63 F63 := evalF_ok (E := E63) (T := B63) E63_ok mix Try.func63 rfl (by kernel_rfl) (by kernel_rfl) (fun k => by kernel_rfl) (fun k x => by kernel_rfl)
noncomputable abbrev P81 : List PT := [.val ⟨false, (.int .i64), false⟩]
noncomputable abbrev R81 : List RT := [.val ⟨false, (.int .u64), true⟩]
noncomputable abbrev c81_L2 : Cut := ⟨[0, 3], [.cell (.int .i64), .cell (.int .u64)], [], 11⟩
noncomputable def l81_2 (k : Nat) (g2 : Int → Int → Option Y3_8) (i1 : Int) (v : Int) : Option Y3_8 :=
 (bif decide (i1 > 0) then
  g2 (IntKind.i64.wrap (i1 - 1)) (IntKind.u64.wrap (2 * v))
 else
  some ((v, ()), ()))
noncomputable def b81_2 (k : Nat) (g : ((Unit) × Int × Int × Unit) → Option Y3_8) (d : (Unit) × Int × Int × Unit) : Option Y3_8 := l81_2 k (fun i1 v => g ((), i1, v, ())) d.2.1 d.2.2.1
noncomputable def L81_2 (k : Nat) (j : Nat) (i1 : Int) (v : Int) : Option Y3_8 := iter (R := (Int × Unit) × Unit) c81_L2 (b81_2 k) j ((), i1, v, ())
theorem L81_2_s (k : Nat) (j : Nat) (i1 : Int) (v : Int) : L81_2 k (j + 1) i1 v = l81_2 k (L81_2 k j) i1 v := iter_succ _ _ _ _
noncomputable def S81 (k : Nat) (i : Int) : Option Y3_8 :=
 L81_2 k k i 1
noncomputable def E81 : Env := tab.env (lk []) (hintL [])
theorem E81_ok : EnvOK Try.prog E81 := envOK_of tabOK _ _ (fun f F h => by cases h)
noncomputable def B81 (k : Nat) : Tbl (RD R81 × MD P81) := (.loop 2 c81_L2 (b81_2 k) (fun g => .nil) .nil)
noncomputable def F81 : Fn := ⟨P81, R81, fun k x => S81 k x.1⟩
theorem ok81 : FnOK Try.prog 81 F81 := evalF_ok (E := E81) (T := B81) E81_ok mix Try.func81 rfl (by kernel_rfl) (by kernel_rfl) (fun k => by kernel_rfl) (fun k x => by kernel_rfl)
noncomputable abbrev P64 : List PT := [.val ⟨false, (.int .i64), false⟩, .val ⟨false, (.int .i64), false⟩]
noncomputable abbrev R64 : List RT := [.val ⟨false, (.int .i64), true⟩]
noncomputable def S64 (k : Nat) (v : Int) (n : Int) : Option Y3_8 :=
 (bif decide (n < 1) then
  some ((v, ()), ())
 else
  (bif decide (n > 63) then
   some ((v, ()), ())
  else
   (S81 k n).bind fun q0 =>
   nz q0.1.1 <|
   (S81 k (IntKind.i64.wrap (n - 1))).bind fun q1 =>
   (bif decide ((Int.tmod (IntKind.u64.wrap v) q0.1.1) ≥ q1.1.1) then
    (S81 k n).bind fun q2 =>
    some ((IntKind.i64.wrap (0 - (IntKind.i64.wrap (IntKind.u64.wrap (q2.1.1 - (Int.tmod (IntKind.u64.wrap v) q0.1.1))))), ()), ())
   else
    some ((IntKind.i64.wrap (Int.tmod (IntKind.u64.wrap v) q0.1.1), ()), ()))))
noncomputable def E64 : Env := tab.env (lk [(81, F81)]) (hintL [])
theorem E64_ok : EnvOK Try.prog E64 := envOK_of tabOK _ _ (allFn_lk (l := [(81, F81)]) ⟨ok81, trivial⟩)
noncomputable def B64 (k : Nat) : Tbl (RD R64 × MD P64) := .nil
noncomputable def F64 : Fn := ⟨P64, R64, fun k x => S64 k x.1 x.2.1⟩
theorem ok64 : FnOK Try.prog 64 F64 := evalF_ok (E := E64) (T := B64) E64_ok mix Try.func64 rfl (by kernel_rfl) (by kernel_rfl) (fun k => by kernel_rfl) (fun k x => by kernel_rfl)
noncomputable abbrev P39 : List PT := [.val ⟨false, Y3_1, false⟩, .val ⟨true, Y3_14, false⟩]
noncomputable abbrev R39 : List RT := [.val ⟨true, Y3_14, true⟩, .val ⟨true, (.pair (.int .i64) (.pair (.int .i64) Y3_7)), true⟩, .val ⟨false, .bool, true⟩]
noncomputable abbrev c39_L28 : Cut := ⟨[3, 4, 5, 7], [.box 69 [.cell (.int .i64), .cell (.int .i64), .cell (.int .i64), .cell (.int .i64), .cell (.int .i64), .cell (.int .i64), .cell (.int .i64), .cell (.int .i64), .cell (.int .i64), .own 97 (.pair (.int .i64) Y3_7), .cell .bool], .box 69 [.cell (.int .i64), .cell (.int .i64), .cell (.int .i64), .cell (.int .i64), .cell (.int .i64), .cell (.int .i64), .cell (.int .i64), .cell (.int .i64), .cell (.int .i64), .nil, .cell .bool], .box 42 [.cell (.int .i64), .cell (.int .i64), .cell (.int .i64), .cell (.int .i64)], .box 42 [.cell (.int .i64), .cell (.int .i64), .cell (.int .i64), .cell (.int .i64)]], [], 225⟩
noncomputable def l39_28 (k : Nat) (g28 : Int → Int → Int → Int → Int → Int → Int → Int → Int → (List Y3_18) → Bool → Int → Int → Int → Int → Int → Int → Int → Int → Int → Bool → Int → Int → Int → Int → Int → Int → Int → Int → Option (Y3_5 × Unit)) (m1 : Int) (m2 : Int) (m3 : Int) (m4 : Int) (m5 : Int) (m6 : Int) (m7 : Int) (m8 : Int) (m9 : Int) (m10 : List Y3_18) (m11 : Bool) (t4 : Int) (t4_1 : Int) (t4_2 : Int) (t4_3 : Int) (t4_4 : Int) (t4_5 : Int) (t4_6 : Int) (t4_7 : Int) (t4_8 : Int) (t4_9 : Bool) (t5 : Int) (t5_1 : Int) (t5_2 : Int) (t5_3 : Int) (i : Int) (i1 : Int) (i2 : Int) (i3 : Int) : Option (Y3_5 × Unit) :=
 (bif decide ((m10.length : Int) > 0) then
  ix m10 (IntKind.i64.wrap ((m10.length : Int) - 1)) <|
  (bif decide ((rd m10 (IntKind.i64.wrap ((m10.length : Int) - 1)) (0, 0, 0)).2.1 < m1) then
   ix m10 (IntKind.i64.wrap ((m10.length : Int) - 1)) <|
   sx m10 0 (IntKind.i64.wrap ((m10.length : Int) - 1)) <|
   (bif decide ((rd m10 (IntKind.i64.wrap ((m10.length : Int) - 1)) (0, 0, 0)).2.2 > 0) then
    ap (m10.take (IntKind.i64.wrap ((m10.length : Int) - 1)).toNat) ([((rd m10 (IntKind.i64.wrap ((m10.length : Int) - 1)) (0, 0, 0)).1, (rd m10 (IntKind.i64.wrap ((m10.length : Int) - 1)) (0, 0, 0)).2.1, IntKind.i64.wrap ((rd m10 (IntKind.i64.wrap ((m10.length : Int) - 1)) (0, 0, 0)).2.2 - 1))] : List Y3_18) 24 fun r2 =>
    some ((((rd m10 (IntKind.i64.wrap ((m10.length : Int) - 1)) (0, 0, 0)).1, (m2, m3, m4, m5, m6, m7, m8, m9), r2, m11), (i, i1, i2, i3), true, ()), ())
   else
    g28 m1 m2 m3 m4 m5 m6 m7 m8 m9 (m10.take (IntKind.i64.wrap ((m10.length : Int) - 1)).toNat) m11 t4 t4_1 t4_2 t4_3 t4_4 t4_5 t4_6 t4_7 t4_8 t4_9 t5 t5_1 t5_2 t5_3 i i1 i2 i3)
  else
   some (((m1, (m2, m3, m4, m5, m6, m7, m8, m9), m10, m11), (i, i1, i2, i3), true, ()), ()))
 else
  some (((m1, (m2, m3, m4, m5, m6, m7, m8, m9), m10, m11), (i, i1, i2, i3), true, ()), ()))
noncomputable def b39_28 (k : Nat) (g : ((Unit) × Y3_6 × (Int × Int × Int × Int × Int × Int × Int × Int × Int × Unit × Bool × Unit) × (Int × Int × Int × Int × Unit) × (Int × Int × Int × Int × Unit) × Unit) → Option (Y3_5 × Unit)) (d : (Unit) × Y3_6 × (Int × Int × Int × Int × Int × Int × Int × Int × Int × Unit × Bool × Unit) × (Int × Int × Int × Int × Unit) × (Int × Int × Int × Int × Unit) × Unit) : Option (Y3_5 × Unit) := l39_28 k (fun m1 m2 m3 m4 m5 m6 m7 m8 m9 m10 m11 t4 t4_1 t4_2 t4_3 t4_4 t4_5 t4_6 t4_7 t4_8 t4_9 t5 t5_1 t5_2 t5_3 i i1 i2 i3 => g ((), (m1, m2, m3, m4, m5, m6, m7, m8, m9, m10, m11, ()), (t4, t4_1, t4_2, t4_3, t4_4, t4_5, t4_6, t4_7, t4_8, (), t4_9, ()), (t5, t5_1, t5_2, t5_3, ()), (i, i1, i2, i3, ()), ())) d.2.1.1 d.2.1.2.1 d.2.1.2.2.1 d.2.1.2.2.2.1 d.2.1.2.2.2.2.1 d.2.1.2.2.2.2.2.1 d.2.1.2.2.2.2.2.2.1 d.2.1.2.2.2.2.2.2.2.1 d.2.1.2.2.2.2.2.2.2.2.1 d.2.1.2.2.2.2.2.2.2.2.2.1 d.2.1.2.2.2.2.2.2.2.2.2.2.1 d.2.2.1.1 d.2.2.1.2.1 d.2.2.1.2.2.1 d.2.2.1.2.2.2.1 d.2.2.1.2.2.2.2.1 d.2.2.1.2.2.2.2.2.1 d.2.2.1.2.2.2.2.2.2.1 d.2.2.1.2.2.2.2.2.2.2.1 d.2.2.1.2.2.2.2.2.2.2.2.1 d.2.2.1.2.2.2.2.2.2.2.2.2.2.1 d.2.2.2.1.1 d.2.2.2.1.2.1 d.2.2.2.1.2.2.1 d.2.2.2.1.2.2.2.1 d.2.2.2.2.1.1 d.2.2.2.2.1.2.1 d.2.2.2.2.1.2.2.1 d.2.2.2.2.1.2.2.2.1
noncomputable def L39_28 (k : Nat) (j : Nat) (m1 : Int) (m2 : Int) (m3 : Int) (m4 : Int) (m5 : Int) (m6 : Int) (m7 : Int) (m8 : Int) (m9 : Int) (m10 : List Y3_18) (m11 : Bool) (t4 : Int) (t4_1 : Int) (t4_2 : Int) (t4_3 : Int) (t4_4 : Int) (t4_5 : Int) (t4_6 : Int) (t4_7 : Int) (t4_8 : Int) (t4_9 : Bool) (t5 : Int) (t5_1 : Int) (t5_2 : Int) (t5_3 : Int) (i : Int) (i1 : Int) (i2 : Int) (i3 : Int) : Option (Y3_5 × Unit) := iter (R := Y3_5 × Unit) c39_L28 (b39_28 k) j ((), (m1, m2, m3, m4, m5, m6, m7, m8, m9, m10, m11, ()), (t4, t4_1, t4_2, t4_3, t4_4, t4_5, t4_6, t4_7, t4_8, (), t4_9, ()), (t5, t5_1, t5_2, t5_3, ()), (i, i1, i2, i3, ()), ())
theorem L39_28_s (k : Nat) (j : Nat) (m1 : Int) (m2 : Int) (m3 : Int) (m4 : Int) (m5 : Int) (m6 : Int) (m7 : Int) (m8 : Int) (m9 : Int) (m10 : List Y3_18) (m11 : Bool) (t4 : Int) (t4_1 : Int) (t4_2 : Int) (t4_3 : Int) (t4_4 : Int) (t4_5 : Int) (t4_6 : Int) (t4_7 : Int) (t4_8 : Int) (t4_9 : Bool) (t5 : Int) (t5_1 : Int) (t5_2 : Int) (t5_3 : Int) (i : Int) (i1 : Int) (i2 : Int) (i3 : Int) : L39_28 k (j + 1) m1 m2 m3 m4 m5 m6 m7 m8 m9 m10 m11 t4 t4_1 t4_2 t4_3 t4_4 t4_5 t4_6 t4_7 t4_8 t4_9 t5 t5_1 t5_2 t5_3 i i1 i2 i3 = l39_28 k (L39_28 k j) m1 m2 m3 m4 m5 m6 m7 m8 m9 m10 m11 t4 t4_1 t4_2 t4_3 t4_4 t4_5 t4_6 t4_7 t4_8 t4_9 t5 t5_1 t5_2 t5_3 i i1 i2 i3 := iter_succ _ _ _ _
noncomputable def S39 (k : Nat) (l_ : List Y3_0) (m : Int × (PN Int 8) × (List Y3_18) × Bool) : Option (Y3_5 × Unit) :=
 ap ([] : List Y3_18) m.2.2.1 24 fun r0 =>
 (bif m.2.2.2 then
  some (((m.1, m.2.1, r0, m.2.2.2), (0, 0, 0, 0), false, ()), ())
 else
  (bif decide (m.1 < 0) then
   some (((m.1, m.2.1, r0, m.2.2.2), (0, 0, 0, 0), false, ()), ())
  else
   (bif decide (m.1 ≥ (l_.length : Int)) then
    some (((m.1, m.2.1, r0, m.2.2.2), (0, 0, 0, 0), false, ()), ())
   else
    ix l_ m.1 <|
    (S62 k (rd l_ m.1 (0, 0, 0, 0))).bind fun q1 =>
    (bif !q1.1.1 then
     some (((m.1, m.2.1, r0, m.2.2.2), (0, 0, 0, 0), false, ()), ())
    else
     ix l_ m.1 <|
     (bif (rd l_ m.1 (0, 0, 0, 0)).1 == 0 then
      L39_28 k k m.1 m.2.1.1 m.2.1.2.1 m.2.1.2.2.1 m.2.1.2.2.2.1 m.2.1.2.2.2.2.1 m.2.1.2.2.2.2.2.1 m.2.1.2.2.2.2.2.2.1 m.2.1.2.2.2.2.2.2.2 r0 true 0 0 0 0 0 0 0 0 0 false 0 0 0 0 (rd l_ m.1 (0, 0, 0, 0)).1 (rd l_ m.1 (0, 0, 0, 0)).2.1 (rd l_ m.1 (0, 0, 0, 0)).2.2.1 (rd l_ m.1 (0, 0, 0, 0)).2.2.2
     else
      (bif (rd l_ m.1 (0, 0, 0, 0)).1 == 1 then
       ax 8 (rd l_ m.1 (0, 0, 0, 0)).2.1 <|
       L39_28 k k (IntKind.i64.wrap (m.1 + 1)) (aset (α := Int) 8 m.2.1 (rd l_ m.1 (0, 0, 0, 0)).2.1 (rd l_ m.1 (0, 0, 0, 0)).2.2.2).1 (aset (α := Int) 8 m.2.1 (rd l_ m.1 (0, 0, 0, 0)).2.1 (rd l_ m.1 (0, 0, 0, 0)).2.2.2).2.1 (aset (α := Int) 8 m.2.1 (rd l_ m.1 (0, 0, 0, 0)).2.1 (rd l_ m.1 (0, 0, 0, 0)).2.2.2).2.2.1 (aset (α := Int) 8 m.2.1 (rd l_ m.1 (0, 0, 0, 0)).2.1 (rd l_ m.1 (0, 0, 0, 0)).2.2.2).2.2.2.1 (aset (α := Int) 8 m.2.1 (rd l_ m.1 (0, 0, 0, 0)).2.1 (rd l_ m.1 (0, 0, 0, 0)).2.2.2).2.2.2.2.1 (aset (α := Int) 8 m.2.1 (rd l_ m.1 (0, 0, 0, 0)).2.1 (rd l_ m.1 (0, 0, 0, 0)).2.2.2).2.2.2.2.2.1 (aset (α := Int) 8 m.2.1 (rd l_ m.1 (0, 0, 0, 0)).2.1 (rd l_ m.1 (0, 0, 0, 0)).2.2.2).2.2.2.2.2.2.1 (aset (α := Int) 8 m.2.1 (rd l_ m.1 (0, 0, 0, 0)).2.1 (rd l_ m.1 (0, 0, 0, 0)).2.2.2).2.2.2.2.2.2.2 r0 m.2.2.2 0 0 0 0 0 0 0 0 0 false 0 0 0 0 (rd l_ m.1 (0, 0, 0, 0)).1 (rd l_ m.1 (0, 0, 0, 0)).2.1 (rd l_ m.1 (0, 0, 0, 0)).2.2.1 (rd l_ m.1 (0, 0, 0, 0)).2.2.2
      else
       (bif (rd l_ m.1 (0, 0, 0, 0)).1 == 2 then
        ax 8 (rd l_ m.1 (0, 0, 0, 0)).2.1 <|
        ax 8 (rd l_ m.1 (0, 0, 0, 0)).2.2.1 <|
        ax 8 (rd l_ m.1 (0, 0, 0, 0)).2.1 <|
        L39_28 k k (IntKind.i64.wrap (m.1 + 1)) (aset (α := Int) 8 m.2.1 (rd l_ m.1 (0, 0, 0, 0)).2.1 (IntKind.i64.wrap ((aget (α := Int) 8 m.2.1 (rd l_ m.1 (0, 0, 0, 0)).2.1 0) + (aget (α := Int) 8 m.2.1 (rd l_ m.1 (0, 0, 0, 0)).2.2.1 0)))).1 (aset (α := Int) 8 m.2.1 (rd l_ m.1 (0, 0, 0, 0)).2.1 (IntKind.i64.wrap ((aget (α := Int) 8 m.2.1 (rd l_ m.1 (0, 0, 0, 0)).2.1 0) + (aget (α := Int) 8 m.2.1 (rd l_ m.1 (0, 0, 0, 0)).2.2.1 0)))).2.1 (aset (α := Int) 8 m.2.1 (rd l_ m.1 (0, 0, 0, 0)).2.1 (IntKind.i64.wrap ((aget (α := Int) 8 m.2.1 (rd l_ m.1 (0, 0, 0, 0)).2.1 0) + (aget (α := Int) 8 m.2.1 (rd l_ m.1 (0, 0, 0, 0)).2.2.1 0)))).2.2.1 (aset (α := Int) 8 m.2.1 (rd l_ m.1 (0, 0, 0, 0)).2.1 (IntKind.i64.wrap ((aget (α := Int) 8 m.2.1 (rd l_ m.1 (0, 0, 0, 0)).2.1 0) + (aget (α := Int) 8 m.2.1 (rd l_ m.1 (0, 0, 0, 0)).2.2.1 0)))).2.2.2.1 (aset (α := Int) 8 m.2.1 (rd l_ m.1 (0, 0, 0, 0)).2.1 (IntKind.i64.wrap ((aget (α := Int) 8 m.2.1 (rd l_ m.1 (0, 0, 0, 0)).2.1 0) + (aget (α := Int) 8 m.2.1 (rd l_ m.1 (0, 0, 0, 0)).2.2.1 0)))).2.2.2.2.1 (aset (α := Int) 8 m.2.1 (rd l_ m.1 (0, 0, 0, 0)).2.1 (IntKind.i64.wrap ((aget (α := Int) 8 m.2.1 (rd l_ m.1 (0, 0, 0, 0)).2.1 0) + (aget (α := Int) 8 m.2.1 (rd l_ m.1 (0, 0, 0, 0)).2.2.1 0)))).2.2.2.2.2.1 (aset (α := Int) 8 m.2.1 (rd l_ m.1 (0, 0, 0, 0)).2.1 (IntKind.i64.wrap ((aget (α := Int) 8 m.2.1 (rd l_ m.1 (0, 0, 0, 0)).2.1 0) + (aget (α := Int) 8 m.2.1 (rd l_ m.1 (0, 0, 0, 0)).2.2.1 0)))).2.2.2.2.2.2.1 (aset (α := Int) 8 m.2.1 (rd l_ m.1 (0, 0, 0, 0)).2.1 (IntKind.i64.wrap ((aget (α := Int) 8 m.2.1 (rd l_ m.1 (0, 0, 0, 0)).2.1 0) + (aget (α := Int) 8 m.2.1 (rd l_ m.1 (0, 0, 0, 0)).2.2.1 0)))).2.2.2.2.2.2.2 r0 m.2.2.2 0 0 0 0 0 0 0 0 0 false 0 0 0 0 (rd l_ m.1 (0, 0, 0, 0)).1 (rd l_ m.1 (0, 0, 0, 0)).2.1 (rd l_ m.1 (0, 0, 0, 0)).2.2.1 (rd l_ m.1 (0, 0, 0, 0)).2.2.2
       else
        (bif (rd l_ m.1 (0, 0, 0, 0)).1 == 3 then
         ax 8 (rd l_ m.1 (0, 0, 0, 0)).2.1 <|
         ax 8 (rd l_ m.1 (0, 0, 0, 0)).2.2.1 <|
         ax 8 (rd l_ m.1 (0, 0, 0, 0)).2.1 <|
         L39_28 k k (IntKind.i64.wrap (m.1 + 1)) (aset (α := Int) 8 m.2.1 (rd l_ m.1 (0, 0, 0, 0)).2.1 (IntKind.i64.wrap ((aget (α := Int) 8 m.2.1 (rd l_ m.1 (0, 0, 0, 0)).2.1 0) - (aget (α := Int) 8 m.2.1 (rd l_ m.1 (0, 0, 0, 0)).2.2.1 0)))).1 (aset (α := Int) 8 m.2.1 (rd l_ m.1 (0, 0, 0, 0)).2.1 (IntKind.i64.wrap ((aget (α := Int) 8 m.2.1 (rd l_ m.1 (0, 0, 0, 0)).2.1 0) - (aget (α := Int) 8 m.2.1 (rd l_ m.1 (0, 0, 0, 0)).2.2.1 0)))).2.1 (aset (α := Int) 8 m.2.1 (rd l_ m.1 (0, 0, 0, 0)).2.1 (IntKind.i64.wrap ((aget (α := Int) 8 m.2.1 (rd l_ m.1 (0, 0, 0, 0)).2.1 0) - (aget (α := Int) 8 m.2.1 (rd l_ m.1 (0, 0, 0, 0)).2.2.1 0)))).2.2.1 (aset (α := Int) 8 m.2.1 (rd l_ m.1 (0, 0, 0, 0)).2.1 (IntKind.i64.wrap ((aget (α := Int) 8 m.2.1 (rd l_ m.1 (0, 0, 0, 0)).2.1 0) - (aget (α := Int) 8 m.2.1 (rd l_ m.1 (0, 0, 0, 0)).2.2.1 0)))).2.2.2.1 (aset (α := Int) 8 m.2.1 (rd l_ m.1 (0, 0, 0, 0)).2.1 (IntKind.i64.wrap ((aget (α := Int) 8 m.2.1 (rd l_ m.1 (0, 0, 0, 0)).2.1 0) - (aget (α := Int) 8 m.2.1 (rd l_ m.1 (0, 0, 0, 0)).2.2.1 0)))).2.2.2.2.1 (aset (α := Int) 8 m.2.1 (rd l_ m.1 (0, 0, 0, 0)).2.1 (IntKind.i64.wrap ((aget (α := Int) 8 m.2.1 (rd l_ m.1 (0, 0, 0, 0)).2.1 0) - (aget (α := Int) 8 m.2.1 (rd l_ m.1 (0, 0, 0, 0)).2.2.1 0)))).2.2.2.2.2.1 (aset (α := Int) 8 m.2.1 (rd l_ m.1 (0, 0, 0, 0)).2.1 (IntKind.i64.wrap ((aget (α := Int) 8 m.2.1 (rd l_ m.1 (0, 0, 0, 0)).2.1 0) - (aget (α := Int) 8 m.2.1 (rd l_ m.1 (0, 0, 0, 0)).2.2.1 0)))).2.2.2.2.2.2.1 (aset (α := Int) 8 m.2.1 (rd l_ m.1 (0, 0, 0, 0)).2.1 (IntKind.i64.wrap ((aget (α := Int) 8 m.2.1 (rd l_ m.1 (0, 0, 0, 0)).2.1 0) - (aget (α := Int) 8 m.2.1 (rd l_ m.1 (0, 0, 0, 0)).2.2.1 0)))).2.2.2.2.2.2.2 r0 m.2.2.2 0 0 0 0 0 0 0 0 0 false 0 0 0 0 (rd l_ m.1 (0, 0, 0, 0)).1 (rd l_ m.1 (0, 0, 0, 0)).2.1 (rd l_ m.1 (0, 0, 0, 0)).2.2.1 (rd l_ m.1 (0, 0, 0, 0)).2.2.2
        else
         (bif (rd l_ m.1 (0, 0, 0, 0)).1 == 4 then
          ax 8 (rd l_ m.1 (0, 0, 0, 0)).2.1 <|
          ax 8 (rd l_ m.1 (0, 0, 0, 0)).2.2.1 <|
          ax 8 (rd l_ m.1 (0, 0, 0, 0)).2.1 <|
          L39_28 k k (IntKind.i64.wrap (m.1 + 1)) (aset (α := Int) 8 m.2.1 (rd l_ m.1 (0, 0, 0, 0)).2.1 (IntKind.i64.wrap ((aget (α := Int) 8 m.2.1 (rd l_ m.1 (0, 0, 0, 0)).2.1 0) * (aget (α := Int) 8 m.2.1 (rd l_ m.1 (0, 0, 0, 0)).2.2.1 0)))).1 (aset (α := Int) 8 m.2.1 (rd l_ m.1 (0, 0, 0, 0)).2.1 (IntKind.i64.wrap ((aget (α := Int) 8 m.2.1 (rd l_ m.1 (0, 0, 0, 0)).2.1 0) * (aget (α := Int) 8 m.2.1 (rd l_ m.1 (0, 0, 0, 0)).2.2.1 0)))).2.1 (aset (α := Int) 8 m.2.1 (rd l_ m.1 (0, 0, 0, 0)).2.1 (IntKind.i64.wrap ((aget (α := Int) 8 m.2.1 (rd l_ m.1 (0, 0, 0, 0)).2.1 0) * (aget (α := Int) 8 m.2.1 (rd l_ m.1 (0, 0, 0, 0)).2.2.1 0)))).2.2.1 (aset (α := Int) 8 m.2.1 (rd l_ m.1 (0, 0, 0, 0)).2.1 (IntKind.i64.wrap ((aget (α := Int) 8 m.2.1 (rd l_ m.1 (0, 0, 0, 0)).2.1 0) * (aget (α := Int) 8 m.2.1 (rd l_ m.1 (0, 0, 0, 0)).2.2.1 0)))).2.2.2.1 (aset (α := Int) 8 m.2.1 (rd l_ m.1 (0, 0, 0, 0)).2.1 (IntKind.i64.wrap ((aget (α := Int) 8 m.2.1 (rd l_ m.1 (0, 0, 0, 0)).2.1 0) * (aget (α := Int) 8 m.2.1 (rd l_ m.1 (0, 0, 0, 0)).2.2.1 0)))).2.2.2.2.1 (aset (α := Int) 8 m.2.1 (rd l_ m.1 (0, 0, 0, 0)).2.1 (IntKind.i64.wrap ((aget (α := Int) 8 m.2.1 (rd l_ m.1 (0, 0, 0, 0)).2.1 0) * (aget (α := Int) 8 m.2.1 (rd l_ m.1 (0, 0, 0, 0)).2.2.1 0)))).2.2.2.2.2.1 (aset (α := Int) 8 m.2.1 (rd l_ m.1 (0, 0, 0, 0)).2.1 (IntKind.i64.wrap ((aget (α := Int) 8 m.2.1 (rd l_ m.1 (0, 0, 0, 0)).2.1 0) * (aget (α := Int) 8 m.2.1 (rd l_ m.1 (0, 0, 0, 0)).2.2.1 0)))).2.2.2.2.2.2.1 (aset (α := Int) 8 m.2.1 (rd l_ m.1 (0, 0, 0, 0)).2.1 (IntKind.i64.wrap ((aget (α := Int) 8 m.2.1 (rd l_ m.1 (0, 0, 0, 0)).2.1 0) * (aget (α := Int) 8 m.2.1 (rd l_ m.1 (0, 0, 0, 0)).2.2.1 0)))).2.2.2.2.2.2.2 r0 m.2.2.2 0 0 0 0 0 0 0 0 0 false 0 0 0 0 (rd l_ m.1 (0, 0, 0, 0)).1 (rd l_ m.1 (0, 0, 0, 0)).2.1 (rd l_ m.1 (0, 0, 0, 0)).2.2.1 (rd l_ m.1 (0, 0, 0, 0)).2.2.2
         else
          (bif (rd l_ m.1 (0, 0, 0, 0)).1 == 5 then
           ax 8 (rd l_ m.1 (0, 0, 0, 0)).2.1 <|
           (S63 k (aget (α := Int) 8 m.2.1 (rd l_ m.1 (0, 0, 0, 0)).2.1 0) (rd l_ m.1 (0, 0, 0, 0)).2.2.2).bind fun q3 =>
           ax 8 (rd l_ m.1 (0, 0, 0, 0)).2.1 <|
           L39_28 k k (IntKind.i64.wrap (m.1 + 1)) (aset (α := Int) 8 m.2.1 (rd l_ m.1 (0, 0, 0, 0)).2.1 q3.1.1).1 (aset (α := Int) 8 m.2.1 (rd l_ m.1 (0, 0, 0, 0)).2.1 q3.1.1).2.1 (aset (α := Int) 8 m.2.1 (rd l_ m.1 (0, 0, 0, 0)).2.1 q3.1.1).2.2.1 (aset (α := Int) 8 m.2.1 (rd l_ m.1 (0, 0, 0, 0)).2.1 q3.1.1).2.2.2.1 (aset (α := Int) 8 m.2.1 (rd l_ m.1 (0, 0, 0, 0)).2.1 q3.1.1).2.2.2.2.1 (aset (α := Int) 8 m.2.1 (rd l_ m.1 (0, 0, 0, 0)).2.1 q3.1.1).2.2.2.2.2.1 (aset (α := Int) 8 m.2.1 (rd l_ m.1 (0, 0, 0, 0)).2.1 q3.1.1).2.2.2.2.2.2.1 (aset (α := Int) 8 m.2.1 (rd l_ m.1 (0, 0, 0, 0)).2.1 q3.1.1).2.2.2.2.2.2.2 r0 m.2.2.2 0 0 0 0 0 0 0 0 0 false 0 0 0 0 (rd l_ m.1 (0, 0, 0, 0)).1 (rd l_ m.1 (0, 0, 0, 0)).2.1 (rd l_ m.1 (0, 0, 0, 0)).2.2.1 (rd l_ m.1 (0, 0, 0, 0)).2.2.2
          else
           (bif (rd l_ m.1 (0, 0, 0, 0)).1 == 6 then
            ax 8 (rd l_ m.1 (0, 0, 0, 0)).2.1 <|
            (S64 k (aget (α := Int) 8 m.2.1 (rd l_ m.1 (0, 0, 0, 0)).2.1 0) (rd l_ m.1 (0, 0, 0, 0)).2.2.2).bind fun q4 =>
            ax 8 (rd l_ m.1 (0, 0, 0, 0)).2.1 <|
            L39_28 k k (IntKind.i64.wrap (m.1 + 1)) (aset (α := Int) 8 m.2.1 (rd l_ m.1 (0, 0, 0, 0)).2.1 q4.1.1).1 (aset (α := Int) 8 m.2.1 (rd l_ m.1 (0, 0, 0, 0)).2.1 q4.1.1).2.1 (aset (α := Int) 8 m.2.1 (rd l_ m.1 (0, 0, 0, 0)).2.1 q4.1.1).2.2.1 (aset (α := Int) 8 m.2.1 (rd l_ m.1 (0, 0, 0, 0)).2.1 q4.1.1).2.2.2.1 (aset (α := Int) 8 m.2.1 (rd l_ m.1 (0, 0, 0, 0)).2.1 q4.1.1).2.2.2.2.1 (aset (α := Int) 8 m.2.1 (rd l_ m.1 (0, 0, 0, 0)).2.1 q4.1.1).2.2.2.2.2.1 (aset (α := Int) 8 m.2.1 (rd l_ m.1 (0, 0, 0, 0)).2.1 q4.1.1).2.2.2.2.2.2.1 (aset (α := Int) 8 m.2.1 (rd l_ m.1 (0, 0, 0, 0)).2.1 q4.1.1).2.2.2.2.2.2.2 r0 m.2.2.2 0 0 0 0 0 0 0 0 0 false 0 0 0 0 (rd l_ m.1 (0, 0, 0, 0)).1 (rd l_ m.1 (0, 0, 0, 0)).2.1 (rd l_ m.1 (0, 0, 0, 0)).2.2.1 (rd l_ m.1 (0, 0, 0, 0)).2.2.2
           else
            (bif (rd l_ m.1 (0, 0, 0, 0)).1 == 7 then
             ax 8 (rd l_ m.1 (0, 0, 0, 0)).2.1 <|
             (bif (aget (α := Int) 8 m.2.1 (rd l_ m.1 (0, 0, 0, 0)).2.1 0) == 0 then
              L39_28 k k (IntKind.i64.wrap ((IntKind.i64.wrap (m.1 + 1)) + (rd l_ m.1 (0, 0, 0, 0)).2.2.2)) m.2.1.1 m.2.1.2.1 m.2.1.2.2.1 m.2.1.2.2.2.1 m.2.1.2.2.2.2.1 m.2.1.2.2.2.2.2.1 m.2.1.2.2.2.2.2.2.1 m.2.1.2.2.2.2.2.2.2 r0 m.2.2.2 0 0 0 0 0 0 0 0 0 false 0 0 0 0 (rd l_ m.1 (0, 0, 0, 0)).1 (rd l_ m.1 (0, 0, 0, 0)).2.1 (rd l_ m.1 (0, 0, 0, 0)).2.2.1 (rd l_ m.1 (0, 0, 0, 0)).2.2.2
             else
              L39_28 k k (IntKind.i64.wrap (m.1 + 1)) m.2.1.1 m.2.1.2.1 m.2.1.2.2.1 m.2.1.2.2.2.1 m.2.1.2.2.2.2.1 m.2.1.2.2.2.2.2.1 m.2.1.2.2.2.2.2.2.1 m.2.1.2.2.2.2.2.2.2 r0 m.2.2.2 0 0 0 0 0 0 0 0 0 false 0 0 0 0 (rd l_ m.1 (0, 0, 0, 0)).1 (rd l_ m.1 (0, 0, 0, 0)).2.1 (rd l_ m.1 (0, 0, 0, 0)).2.2.1 (rd l_ m.1 (0, 0, 0, 0)).2.2.2)
            else
             (bif (rd l_ m.1 (0, 0, 0, 0)).1 == 8 then
              ap r0 ([(IntKind.i64.wrap (m.1 + 1), IntKind.i64.wrap (m.1 + (rd l_ m.1 (0, 0, 0, 0)).2.2.1), IntKind.i64.wrap ((rd l_ m.1 (0, 0, 0, 0)).2.2.2 - 1))] : List Y3_18) 24 fun r5 =>
              L39_28 k k (IntKind.i64.wrap (m.1 + 1)) m.2.1.1 m.2.1.2.1 m.2.1.2.2.1 m.2.1.2.2.2.1 m.2.1.2.2.2.2.1 m.2.1.2.2.2.2.2.1 m.2.1.2.2.2.2.2.2.1 m.2.1.2.2.2.2.2.2.2 r5 m.2.2.2 0 0 0 0 0 0 0 0 0 false 0 0 0 0 (rd l_ m.1 (0, 0, 0, 0)).1 (rd l_ m.1 (0, 0, 0, 0)).2.1 (rd l_ m.1 (0, 0, 0, 0)).2.2.1 (rd l_ m.1 (0, 0, 0, 0)).2.2.2
             else
              L39_28 k k (IntKind.i64.wrap (m.1 + 1)) m.2.1.1 m.2.1.2.1 m.2.1.2.2.1 m.2.1.2.2.2.1 m.2.1.2.2.2.2.1 m.2.1.2.2.2.2.2.1 m.2.1.2.2.2.2.2.2.1 m.2.1.2.2.2.2.2.2.2 r0 m.2.2.2 0 0 0 0 0 0 0 0 0 false 0 0 0 0 (rd l_ m.1 (0, 0, 0, 0)).1 (rd l_ m.1 (0, 0, 0, 0)).2.1 (rd l_ m.1 (0, 0, 0, 0)).2.2.1 (rd l_ m.1 (0, 0, 0, 0)).2.2.2)))))))))))))
noncomputable def E39 : Env := tab.env (lk [(62, F62), (63, F63), (64, F64)]) (hintL [(205, 1)])
theorem E39_ok : EnvOK Try.prog E39 := envOK_of tabOK _ _ (allFn_lk (l := [(62, F62), (63, F63), (64, F64)]) ⟨ok62, ok63, ok64, trivial⟩)
noncomputable def B39 (k : Nat) : Tbl (RD R39 × MD P39) := (.loop 28 c39_L28 (b39_28 k) (fun g => .nil) .nil)
noncomputable def F39 : Fn := ⟨P39, R39, fun k x => S39 k x.1 x.2.1⟩
theorem ok39 : FnOK Try.prog 39 F39 := evalF_ok (E := E39) (T := B39) E39_ok mix Try.func39 rfl (by kernel_rfl) (by kernel_rfl) (fun k => by kernel_rfl) (fun k x => by kernel_rfl)
noncomputable abbrev P20 : List PT := [.val ⟨false, Y3_1, false⟩, .val ⟨false, (.int .i64), false⟩]
noncomputable abbrev R20 : List RT := [.val ⟨false, (.int .i64), true⟩, .val ⟨false, (.int .i64), true⟩, .val ⟨false, .bool, true⟩]
noncomputable abbrev c20_L6 : Cut := ⟨[0, 7, 9, 10], [.cell Y3_1, .box 60 [.cell (.int .i64), .cell (.int .i64), .own 39 Y3_7], .box 69 [.cell (.int .i64), .cell (.int .i64), .cell (.int .i64), .cell (.int .i64), .cell (.int .i64), .cell (.int .i64), .cell (.int .i64), .cell (.int .i64), .cell (.int .i64), .own 97 (.pair (.int .i64) Y3_7), .cell .bool], .cell (.int .i64)], [], 42⟩
noncomputable def l20_6 (k : Nat) (g6 : (List Y3_0) → Int → Int → (List (Int × Int)) → Int → Int → Int → Int → Int → Int → Int → Int → Int → (List Y3_18) → Bool → Int → Option Y3_17) (l_1 : List Y3_0) (c : Int) (c1 : Int) (c2 : Y3_15) (m : Int) (m1 : Int) (m2 : Int) (m3 : Int) (m4 : Int) (m5 : Int) (m6 : Int) (m7 : Int) (m8 : Int) (m9 : List Y3_18) (m10 : Bool) (n : Int) : Option Y3_17 :=
 (bif !m10 then
  (bif decide (n ≤ c) then
   (S39 k l_1 (m, (m1, m2, m3, m4, m5, m6, m7, m8), m9, m10)).bind fun q2 =>
   g6 l_1 c c1 c2 q2.1.1.1 q2.1.1.2.1.1 q2.1.1.2.1.2.1 q2.1.1.2.1.2.2.1 q2.1.1.2.1.2.2.2.1 q2.1.1.2.1.2.2.2.2.1 q2.1.1.2.1.2.2.2.2.2.1 q2.1.1.2.1.2.2.2.2.2.2.1 q2.1.1.2.1.2.2.2.2.2.2.2 q2.1.1.2.2.1 q2.1.1.2.2.2 (IntKind.i64.wrap (n + 1))
  else
   some ((m1, n, true, ()), ()))
 else
  some ((m1, n, true, ()), ()))
noncomputable def b20_6 (k : Nat) (g : ((Unit) × (List Y3_0) × Y3_13 × Y3_6 × Int × Unit) → Option Y3_17) (d : (Unit) × (List Y3_0) × Y3_13 × Y3_6 × Int × Unit) : Option Y3_17 := l20_6 k (fun l_1 c c1 c2 m m1 m2 m3 m4 m5 m6 m7 m8 m9 m10 n => g ((), l_1, (c, c1, c2, ()), (m, m1, m2, m3, m4, m5, m6, m7, m8, m9, m10, ()), n, ())) d.2.1 d.2.2.1.1 d.2.2.1.2.1 d.2.2.1.2.2.1 d.2.2.2.1.1 d.2.2.2.1.2.1 d.2.2.2.1.2.2.1 d.2.2.2.1.2.2.2.1 d.2.2.2.1.2.2.2.2.1 d.2.2.2.1.2.2.2.2.2.1 d.2.2.2.1.2.2.2.2.2.2.1 d.2.2.2.1.2.2.2.2.2.2.2.1 d.2.2.2.1.2.2.2.2.2.2.2.2.1 d.2.2.2.1.2.2.2.2.2.2.2.2.2.1 d.2.2.2.1.2.2.2.2.2.2.2.2.2.2.1 d.2.2.2.2.1
noncomputable def L20_6 (k : Nat) (j : Nat) (l_1 : List Y3_0) (c : Int) (c1 : Int) (c2 : Y3_15) (m : Int) (m1 : Int) (m2 : Int) (m3 : Int) (m4 : Int) (m5 : Int) (m6 : Int) (m7 : Int) (m8 : Int) (m9 : List Y3_18) (m10 : Bool) (n : Int) : Option Y3_17 := iter (R := (Int × Int × Bool × Unit) × Unit) c20_L6 (b20_6 k) j ((), l_1, (c, c1, c2, ()), (m, m1, m2, m3, m4, m5, m6, m7, m8, m9, m10, ()), n, ())
theorem L20_6_s (k : Nat) (j : Nat) (l_1 : List Y3_0) (c : Int) (c1 : Int) (c2 : Y3_15) (m : Int) (m1 : Int) (m2 : Int) (m3 : Int) (m4 : Int) (m5 : Int) (m6 : Int) (m7 : Int) (m8 : Int) (m9 : List Y3_18) (m10 : Bool) (n : Int) : L20_6 k (j + 1) l_1 c c1 c2 m m1 m2 m3 m4 m5 m6 m7 m8 m9 m10 n = l20_6 k (L20_6 k j) l_1 c c1 c2 m m1 m2 m3 m4 m5 m6 m7 m8 m9 m10 n := iter_succ _ _ _ _
noncomputable def S20 (k : Nat) (l_ : List Y3_0) (in_ : Int) : Option Y3_17 :=
 (S32 k l_).bind fun q0 =>
 (bif !q0.1.2.1 then
  some ((0, 0, false, ()), ())
 else
  (S38 k in_).bind fun q1 =>
  L20_6 k k l_ q0.1.1.1 q0.1.1.2.1 q0.1.1.2.2 q1.1.1.1 q1.1.1.2.1.1 q1.1.1.2.1.2.1 q1.1.1.2.1.2.2.1 q1.1.1.2.1.2.2.2.1 q1.1.1.2.1.2.2.2.2.1 q1.1.1.2.1.2.2.2.2.2.1 q1.1.1.2.1.2.2.2.2.2.2.1 q1.1.1.2.1.2.2.2.2.2.2.2 q1.1.1.2.2.1 q1.1.1.2.2.2 0)
noncomputable def E20 : Env := tab.env (lk [(32, F32), (38, F38), (39, F39)]) (hintL [])
theorem E20_ok : EnvOK Try.prog E20 := envOK_of tabOK _ _ (allFn_lk (l := [(32, F32), (38, F38), (39, F39)]) ⟨ok32, ok38, ok39, trivial⟩)
noncomputable def B20 (k : Nat) : Tbl (RD R20 × MD P20) := (.loop 6 c20_L6 (b20_6 k) (fun g => .nil) .nil)
noncomputable def F20 : Fn := ⟨P20, R20, fun k x => S20 k x.1 x.2.1⟩
theorem ok20 : FnOK Try.prog 20 F20 := evalF_ok (E := E20) (T := B20) E20_ok mix Try.func20 rfl (by kernel_rfl) (by kernel_rfl) (fun k => by kernel_rfl) (fun k x => by kernel_rfl)
noncomputable abbrev P5 : List PT := [.val ⟨false, (.sl 5 (.int .u8)), false⟩, .val ⟨false, (.int .i64), false⟩]
noncomputable abbrev R5 : List RT := [.val ⟨false, .bool, true⟩]
noncomputable abbrev c5_L18 : Cut := ⟨[5, 6, 7, 8, 10, 11, 13, 14, 15, 17], [.box 24 [.cell (.int .i64), .cell (.int .i64), .cell (.int .i64), .cell Y3_1, .cell Y3_1, .cell Y3_1], .cell (.int .i64), .cell (.int .i64), .own 39 Y3_7, .cell (.int .i64), .cell .bool, .cell (.int .i64), .cell .bool, .cell (.int .i64), .cell (.int .i64)], [], 124⟩
noncomputable def l5_18 (k : Nat) (g18 : Y3_12) (t6 : Int) (t7 : Int) (t8 : Int) (t9 : List Y3_0) (t10 : List Y3_0) (t11 : List Y3_0) (c1 : Int) (lost1 : Int) (spans1 : Y3_15) (n1 : Int) (p1 : Bool) (m1 : Int) (q_1 : Bool) (locks1 : Int) (i1 : Int) : Option Y3_19 :=
 (bif decide (i1 < (spans1.length : Int)) then
  ix spans1 i1 <|
  (bif decide ((rd spans1 i1 (0, 0)).2 < 1) then
   some ((false, ()), ())
  else
   ix spans1 i1 <|
   (bif decide ((rd spans1 i1 (0, 0)).2 ≥ c1) then
    some ((false, ()), ())
   else
    g18 t6 t7 t8 t9 t10 t11 c1 lost1 spans1 n1 p1 m1 q_1 locks1 (IntKind.i64.wrap (i1 + 1))))
 else
  (bif p1 then
   (bif decide (n1 ≤ c1) then
    (bif decide (c1 ≤ t8) then
     (bif decide (lost1 ≥ 1) then
      (bif decide (lost1 ≤ c1) then
       (bif !q_1 then
        some ((decide ((spans1.length : Int) ≥ locks1), ()), ())
       else
        (bif decide (m1 ≤ lost1) then
         some ((decide ((spans1.length : Int) ≥ locks1), ()), ())
        else
         some ((false, ()), ())))
      else
       some ((false, ()), ()))
     else
      some ((false, ()), ()))
    else
     some ((false, ()), ()))
   else
    some ((false, ()), ()))
  else
   some ((false, ()), ())))
noncomputable def b5_18 (k : Nat) (g : Y3_11) (d : Y3_16) : Option Y3_19 := l5_18 k (fun t6 t7 t8 t9 t10 t11 c1 lost1 spans1 n1 p1 m1 q_1 locks1 i1 => g ((), (t6, t7, t8, t9, t10, t11, ()), c1, lost1, spans1, n1, p1, m1, q_1, locks1, i1, ())) d.2.1.1 d.2.1.2.1 d.2.1.2.2.1 d.2.1.2.2.2.1 d.2.1.2.2.2.2.1 d.2.1.2.2.2.2.2.1 d.2.2.1 d.2.2.2.1 d.2.2.2.2.1 d.2.2.2.2.2.1 d.2.2.2.2.2.2.1 d.2.2.2.2.2.2.2.1 d.2.2.2.2.2.2.2.2.1 d.2.2.2.2.2.2.2.2.2.1 d.2.2.2.2.2.2.2.2.2.2.1
noncomputable def L5_18 (k : Nat) (j : Nat) (t6 : Int) (t7 : Int) (t8 : Int) (t9 : List Y3_0) (t10 : List Y3_0) (t11 : List Y3_0) (c1 : Int) (lost1 : Int) (spans1 : Y3_15) (n1 : Int) (p1 : Bool) (m1 : Int) (q_1 : Bool) (locks1 : Int) (i1 : Int) : Option Y3_19 := iter (R := (Bool × Unit) × Unit) c5_L18 (b5_18 k) j ((), (t6, t7, t8, t9, t10, t11, ()), c1, lost1, spans1, n1, p1, m1, q_1, locks1, i1, ())
theorem L5_18_s (k : Nat) (j : Nat) (t6 : Int) (t7 : Int) (t8 : Int) (t9 : List Y3_0) (t10 : List Y3_0) (t11 : List Y3_0) (c1 : Int) (lost1 : Int) (spans1 : Y3_15) (n1 : Int) (p1 : Bool) (m1 : Int) (q_1 : Bool) (locks1 : Int) (i1 : Int) : L5_18 k (j + 1) t6 t7 t8 t9 t10 t11 c1 lost1 spans1 n1 p1 m1 q_1 locks1 i1 = l5_18 k (L5_18 k j) t6 t7 t8 t9 t10 t11 c1 lost1 spans1 n1 p1 m1 q_1 locks1 i1 := iter_succ _ _ _ _
noncomputable abbrev c5_L13 : Cut := ⟨[5, 6, 7, 8, 10, 11, 13, 14, 15, 16], [.box 24 [.cell (.int .i64), .cell (.int .i64), .cell (.int .i64), .cell Y3_1, .cell Y3_1, .cell Y3_1], .cell (.int .i64), .cell (.int .i64), .own 39 Y3_7, .cell (.int .i64), .cell .bool, .cell (.int .i64), .cell .bool, .cell (.int .i64), .cell (.int .i64)], [], 124⟩
noncomputable def l5_13 (k : Nat) (g13 : Y3_12) (t : Int) (t1 : Int) (t2 : Int) (t3 : List Y3_0) (t4 : List Y3_0) (t5 : List Y3_0) (c : Int) (lost : Int) (spans : Y3_15) (n : Int) (p : Bool) (m : Int) (q_ : Bool) (locks : Int) (i : Int) : Option Y3_19 :=
 (bif decide (i < (t3.length : Int)) then
  ix t3 i <|
  (bif (rd t3 i (0, 0, 0, 0)).1 == 9 then
   g13 t t1 t2 t3 t4 t5 c lost spans n p m q_ (IntKind.i64.wrap (locks + 1)) (IntKind.i64.wrap (i + 1))
  else
   g13 t t1 t2 t3 t4 t5 c lost spans n p m q_ locks (IntKind.i64.wrap (i + 1)))
 else
  L5_18 k k t t1 t2 t3 t4 t5 c lost spans n p m q_ locks 0)
noncomputable def b5_13 (k : Nat) (g : Y3_11) (d : Y3_16) : Option Y3_19 := l5_13 k (fun t t1 t2 t3 t4 t5 c lost spans n p m q_ locks i => g ((), (t, t1, t2, t3, t4, t5, ()), c, lost, spans, n, p, m, q_, locks, i, ())) d.2.1.1 d.2.1.2.1 d.2.1.2.2.1 d.2.1.2.2.2.1 d.2.1.2.2.2.2.1 d.2.1.2.2.2.2.2.1 d.2.2.1 d.2.2.2.1 d.2.2.2.2.1 d.2.2.2.2.2.1 d.2.2.2.2.2.2.1 d.2.2.2.2.2.2.2.1 d.2.2.2.2.2.2.2.2.1 d.2.2.2.2.2.2.2.2.2.1 d.2.2.2.2.2.2.2.2.2.2.1
noncomputable def L5_13 (k : Nat) (j : Nat) (t : Int) (t1 : Int) (t2 : Int) (t3 : List Y3_0) (t4 : List Y3_0) (t5 : List Y3_0) (c : Int) (lost : Int) (spans : Y3_15) (n : Int) (p : Bool) (m : Int) (q_ : Bool) (locks : Int) (i : Int) : Option Y3_19 := iter (R := (Bool × Unit) × Unit) c5_L13 (b5_13 k) j ((), (t, t1, t2, t3, t4, t5, ()), c, lost, spans, n, p, m, q_, locks, i, ())
theorem L5_13_s (k : Nat) (j : Nat) (t : Int) (t1 : Int) (t2 : Int) (t3 : List Y3_0) (t4 : List Y3_0) (t5 : List Y3_0) (c : Int) (lost : Int) (spans : Y3_15) (n : Int) (p : Bool) (m : Int) (q_ : Bool) (locks : Int) (i : Int) : L5_13 k (j + 1) t t1 t2 t3 t4 t5 c lost spans n p m q_ locks i = l5_13 k (L5_13 k j) t t1 t2 t3 t4 t5 c lost spans n p m q_ locks i := iter_succ _ _ _ _
noncomputable def S5 (k : Nat) (picks : List Int) (in_ : Int) : Option Y3_19 :=
 (S11 k).bind fun q0 =>
 (bif !q0.1.1 then
  some ((false, ()), ())
 else
  (bif decide ((picks.length : Int) > 150) then
   some ((true, ()), ())
  else
   (S13 k picks).bind fun q1 =>
   (S14 k q1.1.1.1 q1.1.1.2.1 2 3).bind fun q2 =>
   (S18 k q2.1.1).bind fun q3 =>
   (bif q3.1.1 != 0 then
    some ((true, ()), ())
   else
    (S16 k q2.1.1).bind fun q4 =>
    (S20 k q2.1.1.2.2.2.1 in_).bind fun q5 =>
    (S20 k q2.1.1.2.2.2.2.1 in_).bind fun q6 =>
    L5_13 k k q2.1.1.1 q2.1.1.2.1 q2.1.1.2.2.1 q2.1.1.2.2.2.1 q2.1.1.2.2.2.2.1 q2.1.1.2.2.2.2.2 q4.1.1 q4.1.2.1 q4.1.2.2.1 q5.1.2.1 q5.1.2.2.1 q6.1.2.1 q6.1.2.2.1 0 0)))
noncomputable def E5 : Env := tab.env (lk [(11, F11), (13, F13), (14, F14), (16, F16), (18, F18), (20, F20)]) (hintL [])
theorem E5_ok : EnvOK Try.prog E5 := envOK_of tabOK _ _ (allFn_lk (l := [(11, F11), (13, F13), (14, F14), (16, F16), (18, F18), (20, F20)]) ⟨ok11, ok13, ok14, ok16, ok18, ok20, trivial⟩)
noncomputable def B5 (k : Nat) : Tbl (RD R5 × MD P5) := (.loop 18 c5_L18 (b5_18 k) (fun g => .nil) (.loop 13 c5_L13 (b5_13 k) (fun g => .nil) .nil))
noncomputable def F5 : Fn := ⟨P5, R5, fun k x => S5 k x.1 x.2.1⟩
theorem ok5 : FnOK Try.prog 5 F5 := evalF_ok (E := E5) (T := B5) E5_ok mix Try.func5 rfl (by kernel_rfl) (by kernel_rfl) (fun k => by kernel_rfl) (fun k x => by kernel_rfl)
end Go.Proofs.Ythmicjldfdadjaa.Ab
