import Derived.Test.YtinopkpnlibopaaAbG3
/- Contracts, printed by this session's own program gen.py. -/
set_option linter.unusedVariables false
set_option linter.unusedSimpArgs false
set_option maxRecDepth 100000
namespace Go.Proofs.Ytinopkpnlibopaa.Ab
open Go.RowKit
abbrev Y4_0 : Type := Int × Int × Int × (List (Int × Int × Int × Int)) × (List (Int × Int × Int × Int)) × List (Int × Int × Int × Int)
abbrev Y4_1 : Ty := .pair (.int .i64) (.pair (.int .i64) (.pair (.int .i64) (.pair (.sl 60 (.pair (.int .i64) (.pair (.int .i64) (.pair (.int .i64) (.int .i64))))) (.pair (.sl 60 (.pair (.int .i64) (.pair (.int .i64) (.pair (.int .i64) (.int .i64))))) (.sl 60 (.pair (.int .i64) (.pair (.int .i64) (.pair (.int .i64) (.int .i64)))))))))
abbrev Y4_2 : Type := (List (Int × Int × Int × Int)) → Int → Int → Int → Int → (List (Int × Int)) → (List Int) → (List Int) → Int → Int → Option (((Int × Int × List (Int × Int)) × Bool × Unit) × Unit)
abbrev Y4_3 : Type := Int × Int × Int × Int
abbrev Y4_4 : Ty := .sl 60 (.pair (.int .i64) (.pair (.int .i64) (.pair (.int .i64) (.int .i64))))
abbrev Y4_5 : Type := ((Int × Int × List (Int × Int)) × Bool × Unit) × Unit
abbrev Y4_6 : Type := (List Y4_3) → (List Int) → (List (Int × Int × Int × Bool)) → Int → Option (((List Int) × Unit) × Unit)
abbrev Y4_7 : Type := (Int × Unit) × Unit
abbrev Y4_8 : Type := (((List Int) × Int × Int × List Int) × Unit) × Unit
abbrev Y4_9 : Type := (List Y4_0) → Int → Int → Int → Option Y4_7
abbrev Y4_10 : Type := ((List Int) × Unit) × Unit
abbrev Y4_11 : Type := Int × Int × Int × Bool
abbrev Y4_12 : Ty := .pair (.int .i64) (.int .i64)
abbrev Y4_13 : Type := (Bool × Unit) × Unit
abbrev Y4_14 : Type := Int × Int × (List (Int × Int)) × Unit
abbrev Y4_15 : Type := (List Y4_0) → Int → Int → Option Y4_7
abbrev Y4_16 : Type := ((List Y4_0) × Unit) × Unit
abbrev Y4_17 : Type := List (Int × Int)
noncomputable abbrev P61 : List PT := [.val ⟨false, Y4_4, false⟩]
noncomputable abbrev R61 : List RT := [.val ⟨false, (.sl 2 (.int .i64)), true⟩]
noncomputable abbrev c61_L8 : Cut := ⟨[0, 3, 4, 5, 6], [.cell Y4_4, .own 2 (.int .i64), .own 114 (.pair (.int .i64) (.pair (.int .i64) (.pair (.int .i64) .bool))), .cell (.int .i64), .cell (.int .i64)], [], 58⟩
noncomputable def l61_8 (k : Nat) (g4 : Y4_6) (g8 : (List Y4_3) → (List Int) → (List Y4_11) → Int → Int → Option Y4_10) (l_2 : List Y4_3) (out1 : List Int) (a1 : List Y4_11) (i1 : Int) (k_ : Int) : Option Y4_10 :=
 (bif decide (k_ < (a1.length : Int)) then
  ix a1 k_ <|
  (bif (rd a1 k_ (0, 0, 0, false)).2.2.2 then
   ix a1 k_ <|
   (S84 k (rd a1 k_ (0, 0, 0, false)) i1).bind fun q1 =>
   (bif q1.1.1 then
    ix out1 i1 <|
    ix a1 k_ <|
    ix l_2 (rd a1 k_ (0, 0, 0, false)).2.2.1 <|
    ix out1 i1 <|
    g8 l_2 (upd out1 i1 (IntKind.i64.wrap ((rd out1 i1 0) * (rd l_2 (rd a1 k_ (0, 0, 0, false)).2.2.1 (0, 0, 0, 0)).2.2.2))) a1 i1 (IntKind.i64.wrap (k_ + 1))
   else
    g8 l_2 out1 a1 i1 (IntKind.i64.wrap (k_ + 1)))
  else
   g8 l_2 out1 a1 i1 (IntKind.i64.wrap (k_ + 1)))
 else
  g4 l_2 out1 a1 (IntKind.i64.wrap (i1 + 1)))
noncomputable def b61_8 (k : Nat) (g4 : Y4_6) (g : ((Unit) × (List Y4_3) × (List Int) × (List Y4_11) × Int × Int × Unit) → Option Y4_10) (d : (Unit) × (List Y4_3) × (List Int) × (List Y4_11) × Int × Int × Unit) : Option Y4_10 := l61_8 k g4 (fun l_2 out1 a1 i1 k_ => g ((), l_2, out1, a1, i1, k_, ())) d.2.1 d.2.2.1 d.2.2.2.1 d.2.2.2.2.1 d.2.2.2.2.2.1
noncomputable def L61_8 (k : Nat) (g4 : Y4_6) (j : Nat) (l_2 : List Y4_3) (out1 : List Int) (a1 : List Y4_11) (i1 : Int) (k_ : Int) : Option Y4_10 := iter (R := ((List Int) × Unit) × Unit) c61_L8 (b61_8 k g4) j ((), l_2, out1, a1, i1, k_, ())
theorem L61_8_s (k : Nat) (g4 : Y4_6) (j : Nat) (l_2 : List Y4_3) (out1 : List Int) (a1 : List Y4_11) (i1 : Int) (k_ : Int) : L61_8 k g4 (j + 1) l_2 out1 a1 i1 k_ = l61_8 k g4 (L61_8 k g4 j) l_2 out1 a1 i1 k_ := iter_succ _ _ _ _
noncomputable abbrev c61_L4 : Cut := ⟨[0, 3, 4, 5], [.cell Y4_4, .own 2 (.int .i64), .own 114 (.pair (.int .i64) (.pair (.int .i64) (.pair (.int .i64) .bool))), .cell (.int .i64)], [], 58⟩
noncomputable def l61_4 (k : Nat) (g4 : Y4_6) (l_1 : List Y4_3) (out : List Int) (a : List Y4_11) (i : Int) : Option Y4_10 :=
 (bif decide (i < (l_1.length : Int)) then
  ix out i <|
  L61_8 k g4 k l_1 (upd out i 1) a i 0
 else
  some ((out, ()), ()))
noncomputable def b61_4 (k : Nat) (g : ((Unit) × (List Y4_3) × (List Int) × (List Y4_11) × Int × Unit) → Option Y4_10) (d : (Unit) × (List Y4_3) × (List Int) × (List Y4_11) × Int × Unit) : Option Y4_10 := l61_4 k (fun l_1 out a i => g ((), l_1, out, a, i, ())) d.2.1 d.2.2.1 d.2.2.2.1 d.2.2.2.2.1
noncomputable def L61_4 (k : Nat) (j : Nat) (l_1 : List Y4_3) (out : List Int) (a : List Y4_11) (i : Int) : Option Y4_10 := iter (R := ((List Int) × Unit) × Unit) c61_L4 (b61_4 k) j ((), l_1, out, a, i, ())
theorem L61_4_s (k : Nat) (j : Nat) (l_1 : List Y4_3) (out : List Int) (a : List Y4_11) (i : Int) : L61_4 k (j + 1) l_1 out a i = l61_4 k (L61_4 k j) l_1 out a i := iter_succ _ _ _ _
noncomputable def S61 (k : Nat) (l_ : List Y4_3) : Option Y4_10 :=
 mk (l_.length : Int) (l_.length : Int) 8 <|
 (S83 k l_).bind fun q0 =>
 L61_4 k k l_ (List.replicate (l_.length : Int).toNat (0 : Int)) q0.1.1 0
noncomputable def E61 : Env := tab.env (lk [(83, F83), (84, F84)]) (hintL [])
theorem E61_ok : EnvOK Try.prog E61 := envOK_of tabOK _ _ (allFn_lk (l := [(83, F83), (84, F84)]) ⟨ok83, ok84, trivial⟩)
noncomputable def B61 (k : Nat) : Tbl (RD R61 × MD P61) := (.loop 4 c61_L4 (b61_4 k) (fun g => (fun (g4 : Y4_6) => (.loop 8 c61_L8 (b61_8 k g4) (fun g => .nil) .nil)) (fun l_1 out a i => g ((), l_1, out, a, i, ()))) .nil)
noncomputable def F61 : Fn := ⟨P61, R61, fun k x => S61 k x.1⟩
theorem ok61 : FnOK Try.prog 61 F61 := evalF_ok (E := E61) (T := B61) E61_ok mix Try.func61 rfl (by kernel_rfl) (by kernel_rfl) (fun k => by kernel_rfl) (fun k x => by kernel_rfl)
noncomputable abbrev P45 : List PT := [.val ⟨false, Y4_4, false⟩]
noncomputable abbrev R45 : List RT := [.val ⟨true, (.pair (.int .i64) (.pair (.int .i64) (.sl 73 Y4_12))), true⟩, .val ⟨false, .bool, true⟩]
noncomputable abbrev c45_L16 : Cut := ⟨[0, 2, 4, 5, 6, 8, 9, 10, 11], [.cell Y4_4, .box 75 [.cell (.int .i64), .cell (.int .i64), .nil], .box 75 [.cell (.int .i64), .cell (.int .i64), .own 73 Y4_12], .own 2 (.int .i64), .own 3 (.int .i64), .cell (.int .i64), .cell (.int .i64), .cell (.int .i64), .cell (.int .i64)], [], 103⟩
noncomputable def l45_16 (k : Nat) (g8 : Y4_2) (g16 : (List Y4_3) → Int → Int → Int → Int → (List (Int × Int)) → (List Int) → (List Int) → Int → Int → Int → Int → Option Y4_5) (l_3 : List Y4_3) (t2_4 : Int) (t2_5 : Int) (c6 : Int) (c7 : Int) (c8 : Y4_17) (t3 : List Int) (pairs2 : List Int) (piece2 : Int) (i2 : Int) (n : Int) (k_ : Int) : Option Y4_5 :=
 ix pairs2 i2 <|
 (bif decide (k_ ≤ (rd pairs2 i2 0)) then
  ix t3 k_ <|
  g16 l_3 t2_4 t2_5 c6 c7 c8 t3 pairs2 piece2 i2 (IntKind.i64.wrap (n + (rd t3 k_ 0))) (IntKind.i64.wrap (k_ + 1))
 else
  ix l_3 i2 <|
  ix t3 i2 <|
  nz (rd t3 i2 0) <|
  ap c8 ([((rd l_3 i2 (0, 0, 0, 0)).2.1, IntKind.i64.wrap (Int.tdiv n (rd t3 i2 0)))] : List (Int × Int)) 16 fun r3 =>
  g8 l_3 t2_4 t2_5 c6 c7 r3 t3 pairs2 piece2 (IntKind.i64.wrap (i2 + 1)))
noncomputable def b45_16 (k : Nat) (g8 : Y4_2) (g : ((Unit) × (List Y4_3) × (Int × Int × Unit × Unit) × Y4_14 × (List Int) × (List Int) × Int × Int × Int × Int × Unit) → Option Y4_5) (d : (Unit) × (List Y4_3) × (Int × Int × Unit × Unit) × Y4_14 × (List Int) × (List Int) × Int × Int × Int × Int × Unit) : Option Y4_5 := l45_16 k g8 (fun l_3 t2_4 t2_5 c6 c7 c8 t3 pairs2 piece2 i2 n k_ => g ((), l_3, (t2_4, t2_5, (), ()), (c6, c7, c8, ()), t3, pairs2, piece2, i2, n, k_, ())) d.2.1 d.2.2.1.1 d.2.2.1.2.1 d.2.2.2.1.1 d.2.2.2.1.2.1 d.2.2.2.1.2.2.1 d.2.2.2.2.1 d.2.2.2.2.2.1 d.2.2.2.2.2.2.1 d.2.2.2.2.2.2.2.1 d.2.2.2.2.2.2.2.2.1 d.2.2.2.2.2.2.2.2.2.1
noncomputable def L45_16 (k : Nat) (g8 : Y4_2) (j : Nat) (l_3 : List Y4_3) (t2_4 : Int) (t2_5 : Int) (c6 : Int) (c7 : Int) (c8 : Y4_17) (t3 : List Int) (pairs2 : List Int) (piece2 : Int) (i2 : Int) (n : Int) (k_ : Int) : Option Y4_5 := iter (R := ((Int × Int × List (Int × Int)) × Bool × Unit) × Unit) c45_L16 (b45_16 k g8) j ((), l_3, (t2_4, t2_5, (), ()), (c6, c7, c8, ()), t3, pairs2, piece2, i2, n, k_, ())
theorem L45_16_s (k : Nat) (g8 : Y4_2) (j : Nat) (l_3 : List Y4_3) (t2_4 : Int) (t2_5 : Int) (c6 : Int) (c7 : Int) (c8 : Y4_17) (t3 : List Int) (pairs2 : List Int) (piece2 : Int) (i2 : Int) (n : Int) (k_ : Int) : L45_16 k g8 (j + 1) l_3 t2_4 t2_5 c6 c7 c8 t3 pairs2 piece2 i2 n k_ = l45_16 k g8 (L45_16 k g8 j) l_3 t2_4 t2_5 c6 c7 c8 t3 pairs2 piece2 i2 n k_ := iter_succ _ _ _ _
noncomputable abbrev c45_J13 : Cut := ⟨[0, 2, 4, 5, 6, 8, 9], [.cell Y4_4, .box 75 [.cell (.int .i64), .cell (.int .i64), .nil], .box 75 [.cell (.int .i64), .cell (.int .i64), .own 73 Y4_12], .own 2 (.int .i64), .own 3 (.int .i64), .cell (.int .i64), .cell (.int .i64)], [], 103⟩
noncomputable def j45_13 (k : Nat) (g8 : Y4_2) (l_2 : List Y4_3) (t2_2 : Int) (t2_3 : Int) (c3 : Int) (c4 : Int) (c5 : Y4_17) (t1 : List Int) (pairs1 : List Int) (piece1 : Int) (i1 : Int) : Option Y4_5 :=
 ix l_2 i1 <|
 (bif (rd l_2 i1 (0, 0, 0, 0)).1 == 9 then
  L45_16 k g8 k l_2 t2_2 t2_3 c3 c4 c5 t1 pairs1 piece1 i1 0 (IntKind.i64.wrap (i1 + 1))
 else
  g8 l_2 t2_2 t2_3 c3 c4 c5 t1 pairs1 piece1 (IntKind.i64.wrap (i1 + 1)))
noncomputable abbrev c45_L8 : Cut := ⟨[0, 2, 4, 5, 6, 8, 9], [.cell Y4_4, .box 75 [.cell (.int .i64), .cell (.int .i64), .nil], .box 75 [.cell (.int .i64), .cell (.int .i64), .own 73 Y4_12], .own 2 (.int .i64), .own 3 (.int .i64), .cell (.int .i64), .cell (.int .i64)], [], 103⟩
noncomputable def l45_8 (k : Nat) (g8 : Y4_2) (l_1 : List Y4_3) (t2 : Int) (t2_1 : Int) (c : Int) (c1 : Int) (c2 : Y4_17) (t : List Int) (pairs : List Int) (piece : Int) (i : Int) : Option Y4_5 :=
 (bif decide (i < (l_1.length : Int)) then
  ix t i <|
  ix t i <|
  ix l_1 i <|
  (bif (rd l_1 i (0, 0, 0, 0)).1 == 11 then
   j45_13 k g8 l_1 t2 t2_1 (IntKind.i64.wrap (c + (rd t i 0))) (mx c1 (IntKind.i64.wrap (piece + (rd t i 0)))) c2 t pairs 0 i
  else
   ix l_1 i <|
   (bif (rd l_1 i (0, 0, 0, 0)).1 == 0 then
    j45_13 k g8 l_1 t2 t2_1 (IntKind.i64.wrap (c + (rd t i 0))) (mx c1 (IntKind.i64.wrap (piece + (rd t i 0)))) c2 t pairs 0 i
   else
    j45_13 k g8 l_1 t2 t2_1 (IntKind.i64.wrap (c + (rd t i 0))) c1 c2 t pairs (IntKind.i64.wrap (piece + (rd t i 0))) i))
 else
  some (((c, c1, c2), true, ()), ()))
noncomputable def b45_8 (k : Nat) (g : ((Unit) × (List Y4_3) × (Int × Int × Unit × Unit) × Y4_14 × (List Int) × (List Int) × Int × Int × Unit) → Option Y4_5) (d : (Unit) × (List Y4_3) × (Int × Int × Unit × Unit) × Y4_14 × (List Int) × (List Int) × Int × Int × Unit) : Option Y4_5 := l45_8 k (fun l_1 t2 t2_1 c c1 c2 t pairs piece i => g ((), l_1, (t2, t2_1, (), ()), (c, c1, c2, ()), t, pairs, piece, i, ())) d.2.1 d.2.2.1.1 d.2.2.1.2.1 d.2.2.2.1.1 d.2.2.2.1.2.1 d.2.2.2.1.2.2.1 d.2.2.2.2.1 d.2.2.2.2.2.1 d.2.2.2.2.2.2.1 d.2.2.2.2.2.2.2.1
noncomputable def L45_8 (k : Nat) (j : Nat) (l_1 : List Y4_3) (t2 : Int) (t2_1 : Int) (c : Int) (c1 : Int) (c2 : Y4_17) (t : List Int) (pairs : List Int) (piece : Int) (i : Int) : Option Y4_5 := iter (R := ((Int × Int × List (Int × Int)) × Bool × Unit) × Unit) c45_L8 (b45_8 k) j ((), l_1, (t2, t2_1, (), ()), (c, c1, c2, ()), t, pairs, piece, i, ())
theorem L45_8_s (k : Nat) (j : Nat) (l_1 : List Y4_3) (t2 : Int) (t2_1 : Int) (c : Int) (c1 : Int) (c2 : Y4_17) (t : List Int) (pairs : List Int) (piece : Int) (i : Int) : L45_8 k (j + 1) l_1 t2 t2_1 c c1 c2 t pairs piece i = l45_8 k (L45_8 k j) l_1 t2 t2_1 c c1 c2 t pairs piece i := iter_succ _ _ _ _
noncomputable def S45 (k : Nat) (l_ : List Y4_3) : Option Y4_5 :=
 (S60 k l_).bind fun q0 =>
 (bif !q0.1.1 then
  some (((0, 0, []), false, ()), ())
 else
  (S61 k l_).bind fun q1 =>
  (S62 k l_).bind fun q2 =>
  L45_8 k k l_ 0 0 0 0 ([] : List (Int × Int)) q1.1.1 q2.1.1 0 0)
noncomputable def E45 : Env := tab.env (lk [(60, F60), (61, F61), (62, F62)]) (hintL [(16, 2)])
theorem E45_ok : EnvOK Try.prog E45 := envOK_of tabOK _ _ (allFn_lk (l := [(60, F60), (61, F61), (62, F62)]) ⟨ok60, ok61, ok62, trivial⟩)
noncomputable def B45 (k : Nat) : Tbl (RD R45 × MD P45) := (.loop 8 c45_L8 (b45_8 k) (fun g => (fun (g8 : Y4_2) => (.loop 16 c45_L16 (b45_16 k g8) (fun g => .nil) (.join 13 c45_J13 (fun d => j45_13 k g8 d.2.1 d.2.2.1.1 d.2.2.1.2.1 d.2.2.2.1.1 d.2.2.2.1.2.1 d.2.2.2.1.2.2.1 d.2.2.2.2.1 d.2.2.2.2.2.1 d.2.2.2.2.2.2.1 d.2.2.2.2.2.2.2.1) .nil))) (fun l_1 t2 t2_1 c c1 c2 t pairs piece i => g ((), l_1, (t2, t2_1, (), ()), (c, c1, c2, ()), t, pairs, piece, i, ()))) .nil)
noncomputable def F45 : Fn := ⟨P45, R45, fun k x => S45 k x.1⟩
theorem ok45 : FnOK Try.prog 45 F45 := evalF_ok (E := E45) (T := B45) E45_ok mix Try.func45 rfl (by kernel_rfl) (by kernel_rfl) (fun k => by kernel_rfl) (fun k x => by kernel_rfl)
noncomputable abbrev P53 : List PT := [.val ⟨false, Y4_4, false⟩]
noncomputable abbrev R53 : List RT := [.val ⟨false, .bool, true⟩]
noncomputable abbrev c53_L2 : Cut := ⟨[0, 3], [.cell Y4_4, .cell (.int .i64)], [], 16⟩
noncomputable def l53_2 (k : Nat) (g2 : (List Y4_3) → Int → Option Y4_13) (l_1 : List Y4_3) (i : Int) : Option Y4_13 :=
 (bif decide (i < (l_1.length : Int)) then
  ix l_1 i <|
  (bif (rd l_1 i (0, 0, 0, 0)).1 == 9 then
   some ((true, ()), ())
  else
   g2 l_1 (IntKind.i64.wrap (i + 1)))
 else
  some ((false, ()), ()))
noncomputable def b53_2 (k : Nat) (g : ((Unit) × (List Y4_3) × Int × Unit) → Option Y4_13) (d : (Unit) × (List Y4_3) × Int × Unit) : Option Y4_13 := l53_2 k (fun l_1 i => g ((), l_1, i, ())) d.2.1 d.2.2.1
noncomputable def L53_2 (k : Nat) (j : Nat) (l_1 : List Y4_3) (i : Int) : Option Y4_13 := iter (R := (Bool × Unit) × Unit) c53_L2 (b53_2 k) j ((), l_1, i, ())
theorem L53_2_s (k : Nat) (j : Nat) (l_1 : List Y4_3) (i : Int) : L53_2 k (j + 1) l_1 i = l53_2 k (L53_2 k j) l_1 i := iter_succ _ _ _ _
noncomputable def S53 (k : Nat) (l_ : List Y4_3) : Option Y4_13 :=
 L53_2 k k l_ 0
noncomputable def E53 : Env := tab.env (lk []) (hintL [])
theorem E53_ok : EnvOK Try.prog E53 := envOK_of tabOK _ _ (fun f F h => by cases h)
noncomputable def B53 (k : Nat) : Tbl (RD R53 × MD P53) := (.loop 2 c53_L2 (b53_2 k) (fun g => .nil) .nil)
noncomputable def F53 : Fn := ⟨P53, R53, fun k x => S53 k x.1⟩
theorem ok53 : FnOK Try.prog 53 F53 := evalF_ok (E := E53) (T := B53) E53_ok mix Try.func53 rfl (by kernel_rfl) (by kernel_rfl) (fun k => by kernel_rfl) (fun k x => by kernel_rfl)
noncomputable abbrev P34 : List PT := [.val ⟨true, Y4_1, false⟩]
noncomputable abbrev R34 : List RT := [.val ⟨false, (.int .i64), true⟩]
noncomputable def S34 (k : Nat) (t : Int × Int × Int × (List Y4_3) × (List Y4_3) × List Y4_3) : Option Y4_7 :=
 (S45 k t.2.2.2.1).bind fun q0 =>
 (S45 k t.2.2.2.2.1).bind fun q1 =>
 (S45 k t.2.2.2.2.2).bind fun q2 =>
 (bif decide (t.1 < 0) then
  some ((1, ()), ())
 else
  (bif decide (t.1 > 63) then
   some ((1, ()), ())
  else
   (bif decide (t.2.1 < 1) then
    some ((9, ()), ())
   else
    (bif decide (t.2.1 > 16384) then
     some ((9, ()), ())
    else
     (bif decide (t.2.2.1 < 1) then
      some ((9, ()), ())
     else
      (bif decide (t.2.2.1 > t.2.1) then
       some ((9, ()), ())
      else
       (bif !q0.1.2.1 then
        some ((2, ()), ())
       else
        (bif decide ((t.2.2.2.2.1.length : Int) > 0) then
         (bif !q1.1.2.1 then
          some ((2, ()), ())
         else
          (bif decide ((t.2.2.2.2.2.length : Int) > 0) then
           (bif !q2.1.2.1 then
            some ((2, ()), ())
           else
            (S53 k t.2.2.2.2.2).bind fun q3 =>
            (bif q3.1.1 then
             some ((2, ()), ())
            else
             (bif decide (q0.1.1.1 > t.2.2.1) then
              some ((10, ()), ())
             else
              (bif decide ((t.2.2.2.2.1.length : Int) > 0) then
               (bif decide (q1.1.1.1 > q0.1.1.1) then
                some ((12, ()), ())
               else
                some ((0, ()), ()))
              else
               some ((0, ()), ())))))
          else
           (bif decide (q0.1.1.1 > t.2.2.1) then
            some ((10, ()), ())
           else
            (bif decide ((t.2.2.2.2.1.length : Int) > 0) then
             (bif decide (q1.1.1.1 > q0.1.1.1) then
              some ((12, ()), ())
             else
              some ((0, ()), ()))
            else
             some ((0, ()), ())))))
        else
         (bif decide ((t.2.2.2.2.2.length : Int) > 0) then
          (bif !q2.1.2.1 then
           some ((2, ()), ())
          else
           (S53 k t.2.2.2.2.2).bind fun q4 =>
           (bif q4.1.1 then
            some ((2, ()), ())
           else
            (bif decide (q0.1.1.1 > t.2.2.1) then
             some ((10, ()), ())
            else
             (bif decide ((t.2.2.2.2.1.length : Int) > 0) then
              (bif decide (q1.1.1.1 > q0.1.1.1) then
               some ((12, ()), ())
              else
               some ((0, ()), ()))
             else
              some ((0, ()), ())))))
         else
          (bif decide (q0.1.1.1 > t.2.2.1) then
           some ((10, ()), ())
          else
           (bif decide ((t.2.2.2.2.1.length : Int) > 0) then
            (bif decide (q1.1.1.1 > q0.1.1.1) then
             some ((12, ()), ())
            else
             some ((0, ()), ()))
           else
            some ((0, ()), ()))))))))))))
noncomputable def E34 : Env := tab.env (lk [(45, F45), (53, F53)]) (hintL [])
theorem E34_ok : EnvOK Try.prog E34 := envOK_of tabOK _ _ (allFn_lk (l := [(45, F45), (53, F53)]) ⟨ok45, ok53, trivial⟩)
noncomputable def B34 (k : Nat) : Tbl (RD R34 × MD P34) := .nil
noncomputable def F34 : Fn := ⟨P34, R34, fun k x => S34 k x.1⟩
theorem ok34 : FnOK Try.prog 34 F34 := evalF_ok (E := E34) (T := B34) E34_ok mix Try.func34 rfl (by kernel_rfl) (by kernel_rfl) (fun k => by kernel_rfl) (fun k x => by kernel_rfl)
noncomputable abbrev P15 : List PT := [.val ⟨false, (.sl 5 (.int .u8)), false⟩, .val ⟨false, (.int .i64), false⟩]
noncomputable abbrev R15 : List RT := [.val ⟨false, (.sl 36 Y4_1), true⟩]
noncomputable abbrev c15_L5 : Cut := ⟨[5, 6, 7, 8], [.box 79 [.cell (.sl 5 (.int .u8)), .cell (.int .i64)], .own 36 Y4_1, .cell (.int .i64), .cell (.int .i64)], [], 39⟩
noncomputable def l15_5 (k : Nat) (g5 : (List Int) → Int → (List Y4_0) → Int → Int → Option Y4_16) (p : List Int) (p1 : Int) (l_ : List Y4_0) (locks : Int) (i : Int) : Option Y4_16 :=
 (bif decide (i > 0) then
  (S33 k p p1 3).bind fun q3 =>
  (S25 k q3.2.1.1 q3.2.1.2.1 (IntKind.i64.wrap ((IntKind.i64.wrap (3 * (l_.length : Int))) + q3.1.1)) locks).bind fun q4 =>
  (S34 k q4.1.1).bind fun q5 =>
  (bif q5.1.1 == 0 then
   ap l_ ([q4.1.1] : List Y4_0) 96 fun r6 =>
   g5 q4.2.1.1 q4.2.1.2.1 r6 locks (IntKind.i64.wrap (i - 1))
  else
   g5 q4.2.1.1 q4.2.1.2.1 l_ locks (IntKind.i64.wrap (i - 1)))
 else
  some ((l_, ()), ()))
noncomputable def b15_5 (k : Nat) (g : ((Unit) × ((List Int) × Int × Unit) × (List Y4_0) × Int × Int × Unit) → Option Y4_16) (d : (Unit) × ((List Int) × Int × Unit) × (List Y4_0) × Int × Int × Unit) : Option Y4_16 := l15_5 k (fun p p1 l_ locks i => g ((), (p, p1, ()), l_, locks, i, ())) d.2.1.1 d.2.1.2.1 d.2.2.1 d.2.2.2.1 d.2.2.2.2.1
noncomputable def L15_5 (k : Nat) (j : Nat) (p : List Int) (p1 : Int) (l_ : List Y4_0) (locks : Int) (i : Int) : Option Y4_16 := iter (R := ((List Y4_0) × Unit) × Unit) c15_L5 (b15_5 k) j ((), (p, p1, ()), l_, locks, i, ())
theorem L15_5_s (k : Nat) (j : Nat) (p : List Int) (p1 : Int) (l_ : List Y4_0) (locks : Int) (i : Int) : L15_5 k (j + 1) p p1 l_ locks i = l15_5 k (L15_5 k j) p p1 l_ locks i := iter_succ _ _ _ _
noncomputable def S15 (k : Nat) (picks : List Int) (most : Int) : Option Y4_16 :=
 (S24 k picks).bind fun q0 =>
 (S33 k q0.1.1.1 q0.1.1.2.1 4).bind fun q1 =>
 (S33 k q1.2.1.1 q1.2.1.2.1 most).bind fun q2 =>
 L15_5 k k q2.2.1.1 q2.2.1.2.1 ([] : List Y4_0) q1.1.1 (IntKind.i64.wrap (q2.1.1 + 1))
noncomputable def E15 : Env := tab.env (lk [(24, F24), (25, F25), (33, F33), (34, F34)]) (hintL [(6, 2)])
theorem E15_ok : EnvOK Try.prog E15 := envOK_of tabOK _ _ (allFn_lk (l := [(24, F24), (25, F25), (33, F33), (34, F34)]) ⟨ok24, ok25, ok33, ok34, trivial⟩)
noncomputable def B15 (k : Nat) : Tbl (RD R15 × MD P15) := (.loop 5 c15_L5 (b15_5 k) (fun g => .nil) .nil)
noncomputable def F15 : Fn := ⟨P15, R15, fun k x => S15 k x.1 x.2.1⟩
theorem ok15 : FnOK Try.prog 15 F15 := evalF_ok (E := E15) (T := B15) E15_ok mix Try.func15 rfl (by kernel_rfl) (by kernel_rfl) (fun k => by kernel_rfl) (fun k x => by kernel_rfl)
noncomputable abbrev P40 : List PT := [.val ⟨false, (.sl 36 Y4_1), false⟩]
noncomputable abbrev R40 : List RT := [.val ⟨false, .bool, true⟩]
noncomputable abbrev c40_L2 : Cut := ⟨[0, 3], [.cell (.sl 36 Y4_1), .cell (.int .i64)], [], 34⟩
noncomputable def l40_2 (k : Nat) (g2 : (List Y4_0) → Int → Option Y4_13) (l_1 : List Y4_0) (i : Int) : Option Y4_13 :=
 (bif decide (i < (l_1.length : Int)) then
  ix l_1 i <|
  (S34 k (rd l_1 i (0, 0, 0, [], [], []))).bind fun q0 =>
  (bif q0.1.1 != 0 then
   some ((false, ()), ())
  else
   (bif decide (i > 0) then
    ix l_1 i <|
    ix l_1 (IntKind.i64.wrap (i - 1)) <|
    (bif decide ((rd l_1 i (0, 0, 0, [], [], [])).1 ≤ (rd l_1 (IntKind.i64.wrap (i - 1)) (0, 0, 0, [], [], [])).1) then
     some ((false, ()), ())
    else
     g2 l_1 (IntKind.i64.wrap (i + 1)))
   else
    g2 l_1 (IntKind.i64.wrap (i + 1))))
 else
  some ((true, ()), ()))
noncomputable def b40_2 (k : Nat) (g : ((Unit) × (List Y4_0) × Int × Unit) → Option Y4_13) (d : (Unit) × (List Y4_0) × Int × Unit) : Option Y4_13 := l40_2 k (fun l_1 i => g ((), l_1, i, ())) d.2.1 d.2.2.1
noncomputable def L40_2 (k : Nat) (j : Nat) (l_1 : List Y4_0) (i : Int) : Option Y4_13 := iter (R := (Bool × Unit) × Unit) c40_L2 (b40_2 k) j ((), l_1, i, ())
theorem L40_2_s (k : Nat) (j : Nat) (l_1 : List Y4_0) (i : Int) : L40_2 k (j + 1) l_1 i = l40_2 k (L40_2 k j) l_1 i := iter_succ _ _ _ _
noncomputable def S40 (k : Nat) (l_ : List Y4_0) : Option Y4_13 :=
 L40_2 k k l_ 0
noncomputable def E40 : Env := tab.env (lk [(34, F34)]) (hintL [])
theorem E40_ok : EnvOK Try.prog E40 := envOK_of tabOK _ _ (allFn_lk (l := [(34, F34)]) ⟨ok34, trivial⟩)
noncomputable def B40 (k : Nat) : Tbl (RD R40 × MD P40) := (.loop 2 c40_L2 (b40_2 k) (fun g => .nil) .nil)
noncomputable def F40 : Fn := ⟨P40, R40, fun k x => S40 k x.1⟩
theorem ok40 : FnOK Try.prog 40 F40 := evalF_ok (E := E40) (T := B40) E40_ok mix Try.func40 rfl (by kernel_rfl) (by kernel_rfl) (fun k => by kernel_rfl) (fun k x => by kernel_rfl)
noncomputable abbrev P22 : List PT := [.val ⟨true, Y4_1, false⟩]
noncomputable abbrev R22 : List RT := [.val ⟨false, (.int .i64), true⟩, .val ⟨false, (.int .i64), true⟩, .val ⟨false, (.sl 73 Y4_12), true⟩]
noncomputable abbrev c22_J8 : Cut := ⟨[5, 7, 9], [.box 75 [.cell (.int .i64), .cell (.int .i64), .own 73 Y4_12], .box 75 [.cell (.int .i64), .cell (.int .i64), .own 73 Y4_12], .cell (.int .i64)], [], 43⟩
noncomputable def j22_8 (k : Nat) (main : Int) (main1 : Int) (main2 : Y4_17) (way : Int) (way1 : Int) (way2 : Y4_17) (lost : Int) : Option (Y4_14 × Unit) :=
 ap ([] : List (Int × Int)) main2 16 fun r3 =>
 ap r3 way2 16 fun r4 =>
 some ((main, lost, r4, ()), ())
noncomputable def S22 (k : Nat) (t : Int × Int × Int × (List Y4_3) × (List Y4_3) × List Y4_3) : Option (Y4_14 × Unit) :=
 (S34 k t).bind fun q0 =>
 (bif q0.1.1 != 0 then
  some ((0, 0, [], ()), ())
 else
  (S45 k t.2.2.2.1).bind fun q1 =>
  (S45 k t.2.2.2.2.1).bind fun q2 =>
  (bif decide ((t.2.2.2.2.1.length : Int) > 0) then
   j22_8 k q1.1.1.1 q1.1.1.2.1 q1.1.1.2.2 q2.1.1.1 q2.1.1.2.1 q2.1.1.2.2 q2.1.1.1
  else
   j22_8 k q1.1.1.1 q1.1.1.2.1 q1.1.1.2.2 q2.1.1.1 q2.1.1.2.1 q2.1.1.2.2 q1.1.1.2.1))
noncomputable def E22 : Env := tab.env (lk [(34, F34), (45, F45)]) (hintL [])
theorem E22_ok : EnvOK Try.prog E22 := envOK_of tabOK _ _ (allFn_lk (l := [(34, F34), (45, F45)]) ⟨ok34, ok45, trivial⟩)
noncomputable def B22 (k : Nat) : Tbl (RD R22 × MD P22) := (.join 8 c22_J8 (fun d => j22_8 k d.2.1.1 d.2.1.2.1 d.2.1.2.2.1 d.2.2.1.1 d.2.2.1.2.1 d.2.2.1.2.2.1 d.2.2.2.1) .nil)
noncomputable def F22 : Fn := ⟨P22, R22, fun k x => S22 k x.1⟩
theorem ok22 : FnOK Try.prog 22 F22 := evalF_ok (E := E22) (T := B22) E22_ok mix Try.func22 rfl (by kernel_rfl) (by kernel_rfl) (fun k => by kernel_rfl) (fun k x => by kernel_rfl)
noncomputable abbrev P44 : List PT := [.val ⟨false, (.sl 36 Y4_1), false⟩, .val ⟨false, (.int .i64), false⟩]
noncomputable abbrev R44 : List RT := [.val ⟨false, (.int .i64), true⟩]
noncomputable abbrev c44_L6 : Cut := ⟨[0, 1, 5, 6, 7], [.cell (.sl 36 Y4_1), .cell (.int .i64), .cell (.int .i64), .own 60 (.pair (.int .i64) (.pair (.int .i64) Y4_12)), .cell (.int .i64)], [], 49⟩
noncomputable def l44_6 (k : Nat) (g2 : Y4_15) (g6 : (List Y4_0) → Int → Int → (List Y4_3) → Int → Option Y4_7) (l_2 : List Y4_0) (s2 : Int) (i1 : Int) (code : List Y4_3) (k_ : Int) : Option Y4_7 :=
 (bif decide (k_ < (code.length : Int)) then
  ix code k_ <|
  (bif (rd code k_ (0, 0, 0, 0)).1 == 9 then
   ix code k_ <|
   (bif (rd code k_ (0, 0, 0, 0)).2.1 == s2 then
    some ((i1, ()), ())
   else
    g6 l_2 s2 i1 code (IntKind.i64.wrap (k_ + 1)))
  else
   g6 l_2 s2 i1 code (IntKind.i64.wrap (k_ + 1)))
 else
  g2 l_2 s2 (IntKind.i64.wrap (i1 + 1)))
noncomputable def b44_6 (k : Nat) (g2 : Y4_15) (g : ((Unit) × (List Y4_0) × Int × Int × (List Y4_3) × Int × Unit) → Option Y4_7) (d : (Unit) × (List Y4_0) × Int × Int × (List Y4_3) × Int × Unit) : Option Y4_7 := l44_6 k g2 (fun l_2 s2 i1 code k_ => g ((), l_2, s2, i1, code, k_, ())) d.2.1 d.2.2.1 d.2.2.2.1 d.2.2.2.2.1 d.2.2.2.2.2.1
noncomputable def L44_6 (k : Nat) (g2 : Y4_15) (j : Nat) (l_2 : List Y4_0) (s2 : Int) (i1 : Int) (code : List Y4_3) (k_ : Int) : Option Y4_7 := iter (R := (Int × Unit) × Unit) c44_L6 (b44_6 k g2) j ((), l_2, s2, i1, code, k_, ())
theorem L44_6_s (k : Nat) (g2 : Y4_15) (j : Nat) (l_2 : List Y4_0) (s2 : Int) (i1 : Int) (code : List Y4_3) (k_ : Int) : L44_6 k g2 (j + 1) l_2 s2 i1 code k_ = l44_6 k g2 (L44_6 k g2 j) l_2 s2 i1 code k_ := iter_succ _ _ _ _
noncomputable abbrev c44_L2 : Cut := ⟨[0, 1, 5], [.cell (.sl 36 Y4_1), .cell (.int .i64), .cell (.int .i64)], [], 49⟩
noncomputable def l44_2 (k : Nat) (g2 : Y4_15) (l_1 : List Y4_0) (s1 : Int) (i : Int) : Option Y4_7 :=
 (bif decide (i < (l_1.length : Int)) then
  ix l_1 i <|
  ap ([] : List Y4_3) (rd l_1 i (0, 0, 0, [], [], [])).2.2.2.1 32 fun r0 =>
  ix l_1 i <|
  ap r0 (rd l_1 i (0, 0, 0, [], [], [])).2.2.2.2.1 32 fun r1 =>
  L44_6 k g2 k l_1 s1 i r1 0
 else
  some ((8, ()), ()))
noncomputable def b44_2 (k : Nat) (g : ((Unit) × (List Y4_0) × Int × Int × Unit) → Option Y4_7) (d : (Unit) × (List Y4_0) × Int × Int × Unit) : Option Y4_7 := l44_2 k (fun l_1 s1 i => g ((), l_1, s1, i, ())) d.2.1 d.2.2.1 d.2.2.2.1
noncomputable def L44_2 (k : Nat) (j : Nat) (l_1 : List Y4_0) (s1 : Int) (i : Int) : Option Y4_7 := iter (R := (Int × Unit) × Unit) c44_L2 (b44_2 k) j ((), l_1, s1, i, ())
theorem L44_2_s (k : Nat) (j : Nat) (l_1 : List Y4_0) (s1 : Int) (i : Int) : L44_2 k (j + 1) l_1 s1 i = l44_2 k (L44_2 k j) l_1 s1 i := iter_succ _ _ _ _
noncomputable def S44 (k : Nat) (l_ : List Y4_0) (s : Int) : Option Y4_7 :=
 L44_2 k k l_ s 0
noncomputable def E44 : Env := tab.env (lk []) (hintL [])
theorem E44_ok : EnvOK Try.prog E44 := envOK_of tabOK _ _ (fun f F h => by cases h)
noncomputable def B44 (k : Nat) : Tbl (RD R44 × MD P44) := (.loop 2 c44_L2 (b44_2 k) (fun g => (fun (g2 : Y4_15) => (.loop 6 c44_L6 (b44_6 k g2) (fun g => .nil) .nil)) (fun l_1 s1 i => g ((), l_1, s1, i, ()))) .nil)
noncomputable def F44 : Fn := ⟨P44, R44, fun k x => S44 k x.1 x.2.1⟩
theorem ok44 : FnOK Try.prog 44 F44 := evalF_ok (E := E44) (T := B44) E44_ok mix Try.func44 rfl (by kernel_rfl) (by kernel_rfl) (fun k => by kernel_rfl) (fun k x => by kernel_rfl)
noncomputable abbrev P21 : List PT := [.val ⟨false, (.sl 36 Y4_1), false⟩, .val ⟨false, (.int .i64), false⟩]
noncomputable abbrev R21 : List RT := [.val ⟨false, (.int .i64), true⟩]
noncomputable abbrev c21_L8 : Cut := ⟨[0, 1, 5, 6, 9, 10], [.cell (.sl 36 Y4_1), .cell (.int .i64), .cell (.int .i64), .cell (.int .i64), .own 73 Y4_12, .cell (.int .i64)], [], 52⟩
noncomputable def l21_8 (k : Nat) (g3 : Y4_9) (g8 : (List Y4_0) → Int → Int → Int → (List (Int × Int)) → Int → Option Y4_7) (l_2 : List Y4_0) (i2 : Int) (most1 : Int) (k_1 : Int) (spans : Y4_17) (n : Int) : Option Y4_7 :=
 (bif decide (n < (spans.length : Int)) then
  ix spans n <|
  (S44 k l_2 (rd spans n (0, 0)).1).bind fun q1 =>
  (bif decide (q1.1.1 ≤ i2) then
   ix spans n <|
   g8 l_2 i2 (mx most1 (rd spans n (0, 0)).2) k_1 spans (IntKind.i64.wrap (n + 1))
  else
   g8 l_2 i2 most1 k_1 spans (IntKind.i64.wrap (n + 1)))
 else
  g3 l_2 i2 most1 (IntKind.i64.wrap (k_1 + 1)))
noncomputable def b21_8 (k : Nat) (g3 : Y4_9) (g : ((Unit) × (List Y4_0) × Int × Int × Int × (List (Int × Int)) × Int × Unit) → Option Y4_7) (d : (Unit) × (List Y4_0) × Int × Int × Int × (List (Int × Int)) × Int × Unit) : Option Y4_7 := l21_8 k g3 (fun l_2 i2 most1 k_1 spans n => g ((), l_2, i2, most1, k_1, spans, n, ())) d.2.1 d.2.2.1 d.2.2.2.1 d.2.2.2.2.1 d.2.2.2.2.2.1 d.2.2.2.2.2.2.1
noncomputable def L21_8 (k : Nat) (g3 : Y4_9) (j : Nat) (l_2 : List Y4_0) (i2 : Int) (most1 : Int) (k_1 : Int) (spans : Y4_17) (n : Int) : Option Y4_7 := iter (R := (Int × Unit) × Unit) c21_L8 (b21_8 k g3) j ((), l_2, i2, most1, k_1, spans, n, ())
theorem L21_8_s (k : Nat) (g3 : Y4_9) (j : Nat) (l_2 : List Y4_0) (i2 : Int) (most1 : Int) (k_1 : Int) (spans : Y4_17) (n : Int) : L21_8 k g3 (j + 1) l_2 i2 most1 k_1 spans n = l21_8 k g3 (L21_8 k g3 j) l_2 i2 most1 k_1 spans n := iter_succ _ _ _ _
noncomputable abbrev c21_L3 : Cut := ⟨[0, 1, 5, 6], [.cell (.sl 36 Y4_1), .cell (.int .i64), .cell (.int .i64), .cell (.int .i64)], [], 52⟩
noncomputable def l21_3 (k : Nat) (g3 : Y4_9) (l_1 : List Y4_0) (i1 : Int) (most : Int) (k_ : Int) : Option Y4_7 :=
 (bif decide (k_ < (l_1.length : Int)) then
  (bif k_ == i1 then
   g3 l_1 i1 most (IntKind.i64.wrap (k_ + 1))
  else
   ix l_1 k_ <|
   (S22 k (rd l_1 k_ (0, 0, 0, [], [], []))).bind fun q0 =>
   L21_8 k g3 k l_1 i1 most k_ q0.1.2.2.1 0)
 else
  some ((most, ()), ()))
noncomputable def b21_3 (k : Nat) (g : ((Unit) × (List Y4_0) × Int × Int × Int × Unit) → Option Y4_7) (d : (Unit) × (List Y4_0) × Int × Int × Int × Unit) : Option Y4_7 := l21_3 k (fun l_1 i1 most k_ => g ((), l_1, i1, most, k_, ())) d.2.1 d.2.2.1 d.2.2.2.1 d.2.2.2.2.1
noncomputable def L21_3 (k : Nat) (j : Nat) (l_1 : List Y4_0) (i1 : Int) (most : Int) (k_ : Int) : Option Y4_7 := iter (R := (Int × Unit) × Unit) c21_L3 (b21_3 k) j ((), l_1, i1, most, k_, ())
theorem L21_3_s (k : Nat) (j : Nat) (l_1 : List Y4_0) (i1 : Int) (most : Int) (k_ : Int) : L21_3 k (j + 1) l_1 i1 most k_ = l21_3 k (L21_3 k j) l_1 i1 most k_ := iter_succ _ _ _ _
noncomputable def S21 (k : Nat) (l_ : List Y4_0) (i : Int) : Option Y4_7 :=
 L21_3 k k l_ i 0 0
noncomputable def E21 : Env := tab.env (lk [(22, F22), (44, F44)]) (hintL [])
theorem E21_ok : EnvOK Try.prog E21 := envOK_of tabOK _ _ (allFn_lk (l := [(22, F22), (44, F44)]) ⟨ok22, ok44, trivial⟩)
noncomputable def B21 (k : Nat) : Tbl (RD R21 × MD P21) := (.loop 3 c21_L3 (b21_3 k) (fun g => (fun (g3 : Y4_9) => (.loop 8 c21_L8 (b21_8 k g3) (fun g => .nil) .nil)) (fun l_1 i1 most k_ => g ((), l_1, i1, most, k_, ()))) .nil)
noncomputable def F21 : Fn := ⟨P21, R21, fun k x => S21 k x.1 x.2.1⟩
theorem ok21 : FnOK Try.prog 21 F21 := evalF_ok (E := E21) (T := B21) E21_ok mix Try.func21 rfl (by kernel_rfl) (by kernel_rfl) (fun k => by kernel_rfl) (fun k x => by kernel_rfl)
noncomputable abbrev P18 : List PT := [.val ⟨false, (.sl 36 Y4_1), false⟩, .val ⟨false, (.int .i64), false⟩]
noncomputable abbrev R18 : List RT := [.val ⟨true, (.pair (.sl 2 (.int .i64)) (.pair (.int .i64) (.pair (.int .i64) (.sl 2 (.int .i64))))), true⟩]
noncomputable abbrev c18_L3 : Cut := ⟨[0, 1, 4, 5, 6], [.cell (.sl 36 Y4_1), .cell (.int .i64), .box 32 [.nil, .cell (.int .i64), .cell (.int .i64), .nil], .box 32 [.own 2 (.int .i64), .cell (.int .i64), .cell (.int .i64), .own 2 (.int .i64)], .cell (.int .i64)], [], 50⟩
noncomputable def l18_3 (k : Nat) (g3 : (List Y4_0) → Int → Int → Int → (List Int) → Int → Int → (List Int) → Int → Option Y4_8) (l_1 : List Y4_0) (i1 : Int) (t4 : Int) (t4_1 : Int) (x : List Int) (x1 : Int) (x2 : Int) (x3 : List Int) (k_ : Int) : Option Y4_8 :=
 (bif decide (k_ ≤ i1) then
  ix l_1 k_ <|
  (S22 k (rd l_1 k_ (0, 0, 0, [], [], []))).bind fun q1 =>
  ap x ([q1.1.1] : List Int) 8 fun r2 =>
  ix l_1 k_ <|
  ap x3 ([(rd l_1 k_ (0, 0, 0, [], [], [])).2.1] : List Int) 8 fun r3 =>
  g3 l_1 i1 t4 t4_1 r2 (mx x1 q1.1.2.1) x2 r3 (IntKind.i64.wrap (k_ + 1))
 else
  some (((x, x1, x2, x3), ()), ()))
noncomputable def b18_3 (k : Nat) (g : ((Unit) × (List Y4_0) × Int × (Unit × Int × Int × Unit × Unit) × ((List Int) × Int × Int × (List Int) × Unit) × Int × Unit) → Option Y4_8) (d : (Unit) × (List Y4_0) × Int × (Unit × Int × Int × Unit × Unit) × ((List Int) × Int × Int × (List Int) × Unit) × Int × Unit) : Option Y4_8 := l18_3 k (fun l_1 i1 t4 t4_1 x x1 x2 x3 k_ => g ((), l_1, i1, ((), t4, t4_1, (), ()), (x, x1, x2, x3, ()), k_, ())) d.2.1 d.2.2.1 d.2.2.2.1.2.1 d.2.2.2.1.2.2.1 d.2.2.2.2.1.1 d.2.2.2.2.1.2.1 d.2.2.2.2.1.2.2.1 d.2.2.2.2.1.2.2.2.1 d.2.2.2.2.2.1
noncomputable def L18_3 (k : Nat) (j : Nat) (l_1 : List Y4_0) (i1 : Int) (t4 : Int) (t4_1 : Int) (x : List Int) (x1 : Int) (x2 : Int) (x3 : List Int) (k_ : Int) : Option Y4_8 := iter (R := (((List Int) × Int × Int × List Int) × Unit) × Unit) c18_L3 (b18_3 k) j ((), l_1, i1, ((), t4, t4_1, (), ()), (x, x1, x2, x3, ()), k_, ())
theorem L18_3_s (k : Nat) (j : Nat) (l_1 : List Y4_0) (i1 : Int) (t4 : Int) (t4_1 : Int) (x : List Int) (x1 : Int) (x2 : Int) (x3 : List Int) (k_ : Int) : L18_3 k (j + 1) l_1 i1 t4 t4_1 x x1 x2 x3 k_ = l18_3 k (L18_3 k j) l_1 i1 t4 t4_1 x x1 x2 x3 k_ := iter_succ _ _ _ _
noncomputable def S18 (k : Nat) (l_ : List Y4_0) (i : Int) : Option Y4_8 :=
 (S21 k l_ i).bind fun q0 =>
 L18_3 k k l_ i 0 0 ([] : List Int) 0 q0.1.1 ([] : List Int) 0
noncomputable def E18 : Env := tab.env (lk [(21, F21), (22, F22)]) (hintL [(13, 2)])
theorem E18_ok : EnvOK Try.prog E18 := envOK_of tabOK _ _ (allFn_lk (l := [(21, F21), (22, F22)]) ⟨ok21, ok22, trivial⟩)
noncomputable def B18 (k : Nat) : Tbl (RD R18 × MD P18) := (.loop 3 c18_L3 (b18_3 k) (fun g => .nil) .nil)
noncomputable def F18 : Fn := ⟨P18, R18, fun k x => S18 k x.1 x.2.1⟩
theorem ok18 : FnOK Try.prog 18 F18 := evalF_ok (E := E18) (T := B18) E18_ok mix Try.func18 rfl (by kernel_rfl) (by kernel_rfl) (fun k => by kernel_rfl) (fun k x => by kernel_rfl)
noncomputable abbrev P41 : List PT := [.val ⟨false, (.int .i64), false⟩, .val ⟨false, (.int .i64), false⟩]
noncomputable abbrev R41 : List RT := [.val ⟨false, (.int .i64), true⟩, .val ⟨false, .bool, true⟩]
noncomputable def S41 (k : Nat) (a : Int) (b : Int) : Option ((Int × Bool × Unit) × Unit) :=
 (bif decide (a > (IntKind.i64.wrap (9223372036854775807 - b))) then
  some ((0, false, ()), ())
 else
  some ((IntKind.i64.wrap (a + b), true, ()), ()))
noncomputable def E41 : Env := tab.env (lk []) (hintL [])
theorem E41_ok : EnvOK Try.prog E41 := envOK_of tabOK _ _ (fun f F h => by cases h)
noncomputable def B41 (k : Nat) : Tbl (RD R41 × MD P41) := .nil
noncomputable def F41 : Fn := ⟨P41, R41, fun k x => S41 k x.1 x.2.1⟩
theorem ok41 : FnOK Try.prog 41 F41 := evalF_ok (E := E41) (T := B41) E41_ok mix Try.func41 rfl (by kernel_rfl) (by kernel_rfl) (fun k => by kernel_rfl) (fun k x => by kernel_rfl)
noncomputable abbrev P42 : List PT := [.val ⟨false, (.int .i64), false⟩, .val ⟨false, (.int .i64), false⟩]
noncomputable abbrev R42 : List RT := [.val ⟨false, (.int .i64), true⟩, .val ⟨false, .bool, true⟩]
noncomputable def S42 (k : Nat) (a : Int) (b : Int) : Option ((Int × Bool × Unit) × Unit) :=
 (bif decide (b < 1) then
  some ((0, false, ()), ())
 else
  (bif decide (a < 0) then
   some ((0, false, ()), ())
  else
   nz b <|
   nz b <|
   (bif decide ((Int.tmod a b) > 0) then
    some ((IntKind.i64.wrap ((IntKind.i64.wrap (Int.tdiv a b)) + 1), true, ()), ())
   else
    some ((IntKind.i64.wrap (Int.tdiv a b), true, ()), ()))))
noncomputable def E42 : Env := tab.env (lk []) (hintL [])
theorem E42_ok : EnvOK Try.prog E42 := envOK_of tabOK _ _ (fun f F h => by cases h)
noncomputable def B42 (k : Nat) : Tbl (RD R42 × MD P42) := .nil
noncomputable def F42 : Fn := ⟨P42, R42, fun k x => S42 k x.1 x.2.1⟩
theorem ok42 : FnOK Try.prog 42 F42 := evalF_ok (E := E42) (T := B42) E42_ok mix Try.func42 rfl (by kernel_rfl) (by kernel_rfl) (fun k => by kernel_rfl) (fun k x => by kernel_rfl)
noncomputable abbrev P43 : List PT := [.val ⟨false, (.int .i64), false⟩, .val ⟨false, (.int .i64), false⟩]
noncomputable abbrev R43 : List RT := [.val ⟨false, (.int .i64), true⟩, .val ⟨false, .bool, true⟩]
noncomputable def S43 (k : Nat) (a : Int) (b : Int) : Option ((Int × Bool × Unit) × Unit) :=
 (bif decide (a > 0) then
  nz a <|
  (bif decide (b > (IntKind.i64.wrap (Int.tdiv 9223372036854775807 a))) then
   some ((0, false, ()), ())
  else
   some ((IntKind.i64.wrap (a * b), true, ()), ()))
 else
  some ((IntKind.i64.wrap (a * b), true, ()), ()))
noncomputable def E43 : Env := tab.env (lk []) (hintL [])
theorem E43_ok : EnvOK Try.prog E43 := envOK_of tabOK _ _ (fun f F h => by cases h)
noncomputable def B43 (k : Nat) : Tbl (RD R43 × MD P43) := .nil
noncomputable def F43 : Fn := ⟨P43, R43, fun k x => S43 k x.1 x.2.1⟩
theorem ok43 : FnOK Try.prog 43 F43 := evalF_ok (E := E43) (T := B43) E43_ok mix Try.func43 rfl (by kernel_rfl) (by kernel_rfl) (fun k => by kernel_rfl) (fun k x => by kernel_rfl)
end Go.Proofs.Ytinopkpnlibopaa.Ab
