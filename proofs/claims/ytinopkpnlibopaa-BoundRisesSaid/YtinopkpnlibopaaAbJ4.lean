import Derived.Test.YtinopkpnlibopaaAbJ3
/- Contracts, printed by this session's own program gen.py. -/
set_option linter.unusedVariables false
set_option linter.unusedSimpArgs false
set_option maxRecDepth 100000
namespace Go.Proofs.Ytinopkpnlibopaa.Ab
open Go.RowKit
abbrev Y4_0 : Type := Int × Int × Int × Int
abbrev Y4_1 : Ty := .sl 60 (.pair (.int .i64) (.pair (.int .i64) (.pair (.int .i64) (.int .i64))))
abbrev Y4_2 : Type := (List Y4_0) → Int → Int → Int → Int → (List (Int × Int)) → (List Int) → (List Int) → Int → Int → Option (((Int × Int × List (Int × Int)) × Bool × Unit) × Unit)
abbrev Y4_3 : Type := Int × Int × Int × (List Y4_0) × (List Y4_0) × List Y4_0
abbrev Y4_4 : Type := ((Int × Int × List (Int × Int)) × Bool × Unit) × Unit
abbrev Y4_5 : Type := (List Y4_0) → (List Int) → (List (Int × Int × Int × Bool)) → Int → Option (((List Int) × Unit) × Unit)
abbrev Y4_6 : Type := ((List Int) × Unit) × Unit
abbrev Y4_7 : Type := Int × Int × Int × Bool
abbrev Y4_8 : Ty := .pair (.int .i64) (.pair (.int .i64) (.pair (.int .i64) (.pair Y4_1 (.pair Y4_1 Y4_1))))
abbrev Y4_9 : Type := ((List Y4_3) × Unit) × Unit
abbrev Y4_10 : Type := Int × Int × (List (Int × Int)) × Unit
abbrev Y4_11 : Type := (Bool × Unit) × Unit
noncomputable abbrev P61 : List PT := [.val ⟨false, Y4_1, false⟩]
noncomputable abbrev R61 : List RT := [.val ⟨false, (.sl 2 (.int .i64)), true⟩]
noncomputable abbrev c61_L8 : Cut := ⟨[0, 3, 4, 5, 6], [.cell Y4_1, .own 2 (.int .i64), .own 114 (.pair (.int .i64) (.pair (.int .i64) (.pair (.int .i64) .bool))), .cell (.int .i64), .cell (.int .i64)], [], 58⟩
noncomputable def l61_8 (k : Nat) (g4 : Y4_5) (g8 : (List Y4_0) → (List Int) → (List Y4_7) → Int → Int → Option Y4_6) (l_2 : List Y4_0) (out1 : List Int) (a1 : List Y4_7) (i1 : Int) (k_ : Int) : Option Y4_6 :=
 (bif decide (k_ < (a1.length : Int)) then
  ix a1 k_ <|
  (bif (rd a1 k_ (0, 0, 0, false)).2.2.2 then
   ix a1 k_ <|
   (S84 k (rd a1 k_ (0, 0, 0, false)) i1).bind fun q1 =>
   (bif q1.1.1 then
    ix out1 i1 <|
    ix a1 k_ <|
    ix l_2 (rd a1 k_ (0, 0, 0, false)).2.2.1 <|
    ix out1 i1 <|
    g8 l_2 (upd out1 i1 (IntKind.i64.wrap ((rd out1 i1 0) * (rd l_2 (rd a1 k_ (0, 0, 0, false)).2.2.1 (0, 0, 0, 0)).2.2.2))) a1 i1 (IntKind.i64.wrap (k_ + 1))
   else
    g8 l_2 out1 a1 i1 (IntKind.i64.wrap (k_ + 1)))
  else
   g8 l_2 out1 a1 i1 (IntKind.i64.wrap (k_ + 1)))
 else
  g4 l_2 out1 a1 (IntKind.i64.wrap (i1 + 1)))
noncomputable def b61_8 (k : Nat) (g4 : Y4_5) (g : ((Unit) × (List Y4_0) × (List Int) × (List Y4_7) × Int × Int × Unit) → Option Y4_6) (d : (Unit) × (List Y4_0) × (List Int) × (List Y4_7) × Int × Int × Unit) : Option Y4_6 := l61_8 k g4 (fun l_2 out1 a1 i1 k_ => g ((), l_2, out1, a1, i1, k_, ())) d.2.1 d.2.2.1 d.2.2.2.1 d.2.2.2.2.1 d.2.2.2.2.2.1
noncomputable def L61_8 (k : Nat) (g4 : Y4_5) (j : Nat) (l_2 : List Y4_0) (out1 : List Int) (a1 : List Y4_7) (i1 : Int) (k_ : Int) : Option Y4_6 := iter (R := ((List Int) × Unit) × Unit) c61_L8 (b61_8 k g4) j ((), l_2, out1, a1, i1, k_, ())
theorem L61_8_s (k : Nat) (g4 : Y4_5) (j : Nat) (l_2 : List Y4_0) (out1 : List Int) (a1 : List Y4_7) (i1 : Int) (k_ : Int) : L61_8 k g4 (j + 1) l_2 out1 a1 i1 k_ = l61_8 k g4 (L61_8 k g4 j) l_2 out1 a1 i1 k_ := iter_succ _ _ _ _
noncomputable abbrev c61_L4 : Cut := ⟨[0, 3, 4, 5], [.cell Y4_1, .own 2 (.int .i64), .own 114 (.pair (.int .i64) (.pair (.int .i64) (.pair (.int .i64) .bool))), .cell (.int .i64)], [], 58⟩
noncomputable def l61_4 (k : Nat) (g4 : Y4_5) (l_1 : List Y4_0) (out : List Int) (a : List Y4_7) (i : Int) : Option Y4_6 :=
 (bif decide (i < (l_1.length : Int)) then
  ix out i <|
  L61_8 k g4 k l_1 (upd out i 1) a i 0
 else
  some ((out, ()), ()))
noncomputable def b61_4 (k : Nat) (g : ((Unit) × (List Y4_0) × (List Int) × (List Y4_7) × Int × Unit) → Option Y4_6) (d : (Unit) × (List Y4_0) × (List Int) × (List Y4_7) × Int × Unit) : Option Y4_6 := l61_4 k (fun l_1 out a i => g ((), l_1, out, a, i, ())) d.2.1 d.2.2.1 d.2.2.2.1 d.2.2.2.2.1
noncomputable def L61_4 (k : Nat) (j : Nat) (l_1 : List Y4_0) (out : List Int) (a : List Y4_7) (i : Int) : Option Y4_6 := iter (R := ((List Int) × Unit) × Unit) c61_L4 (b61_4 k) j ((), l_1, out, a, i, ())
theorem L61_4_s (k : Nat) (j : Nat) (l_1 : List Y4_0) (out : List Int) (a : List Y4_7) (i : Int) : L61_4 k (j + 1) l_1 out a i = l61_4 k (L61_4 k j) l_1 out a i := iter_succ _ _ _ _
noncomputable def S61 (k : Nat) (l_ : List Y4_0) : Option Y4_6 :=
 mk (l_.length : Int) (l_.length : Int) 8 <|
 (S83 k l_).bind fun q0 =>
 L61_4 k k l_ (List.replicate (l_.length : Int).toNat (0 : Int)) q0.1.1 0
noncomputable def E61 : Env := tab.env (lk [(83, F83), (84, F84)]) (hintL [])
theorem E61_ok : EnvOK Try.prog E61 := envOK_of tabOK _ _ (allFn_lk (l := [(83, F83), (84, F84)]) ⟨ok83, ok84, trivial⟩)
noncomputable def B61 (k : Nat) : Tbl (RD R61 × MD P61) := (.loop 4 c61_L4 (b61_4 k) (fun g => (fun (g4 : Y4_5) => (.loop 8 c61_L8 (b61_8 k g4) (fun g => .nil) .nil)) (fun l_1 out a i => g ((), l_1, out, a, i, ()))) .nil)
noncomputable def F61 : Fn := ⟨P61, R61, fun k x => S61 k x.1⟩
theorem ok61 : FnOK Try.prog 61 F61 := evalF_ok (E := E61) (T := B61) E61_ok mix Try.func61 rfl (by kernel_rfl) (by kernel_rfl) (fun k => by kernel_rfl) (fun k x => by kernel_rfl)
noncomputable abbrev P45 : List PT := [.val ⟨false, Y4_1, false⟩]
noncomputable abbrev R45 : List RT := [.val ⟨true, (.pair (.int .i64) (.pair (.int .i64) (.sl 73 (.pair (.int .i64) (.int .i64))))), true⟩, .val ⟨false, .bool, true⟩]
noncomputable abbrev c45_L16 : Cut := ⟨[0, 2, 4, 5, 6, 8, 9, 10, 11], [.cell Y4_1, .box 75 [.cell (.int .i64), .cell (.int .i64), .nil], .box 75 [.cell (.int .i64), .cell (.int .i64), .own 73 (.pair (.int .i64) (.int .i64))], .own 2 (.int .i64), .own 3 (.int .i64), .cell (.int .i64), .cell (.int .i64), .cell (.int .i64), .cell (.int .i64)], [], 103⟩
noncomputable def l45_16 (k : Nat) (g8 : Y4_2) (g16 : (List Y4_0) → Int → Int → Int → Int → (List (Int × Int)) → (List Int) → (List Int) → Int → Int → Int → Int → Option Y4_4) (l_3 : List Y4_0) (t2_4 : Int) (t2_5 : Int) (c6 : Int) (c7 : Int) (c8 : List (Int × Int)) (t3 : List Int) (pairs2 : List Int) (piece2 : Int) (i2 : Int) (n : Int) (k_ : Int) : Option Y4_4 :=
 ix pairs2 i2 <|
 (bif decide (k_ ≤ (rd pairs2 i2 0)) then
  ix t3 k_ <|
  g16 l_3 t2_4 t2_5 c6 c7 c8 t3 pairs2 piece2 i2 (IntKind.i64.wrap (n + (rd t3 k_ 0))) (IntKind.i64.wrap (k_ + 1))
 else
  ix l_3 i2 <|
  ix t3 i2 <|
  nz (rd t3 i2 0) <|
  ap c8 ([((rd l_3 i2 (0, 0, 0, 0)).2.1, IntKind.i64.wrap (Int.tdiv n (rd t3 i2 0)))] : List (Int × Int)) 16 fun r3 =>
  g8 l_3 t2_4 t2_5 c6 c7 r3 t3 pairs2 piece2 (IntKind.i64.wrap (i2 + 1)))
noncomputable def b45_16 (k : Nat) (g8 : Y4_2) (g : ((Unit) × (List Y4_0) × (Int × Int × Unit × Unit) × Y4_10 × (List Int) × (List Int) × Int × Int × Int × Int × Unit) → Option Y4_4) (d : (Unit) × (List Y4_0) × (Int × Int × Unit × Unit) × Y4_10 × (List Int) × (List Int) × Int × Int × Int × Int × Unit) : Option Y4_4 := l45_16 k g8 (fun l_3 t2_4 t2_5 c6 c7 c8 t3 pairs2 piece2 i2 n k_ => g ((), l_3, (t2_4, t2_5, (), ()), (c6, c7, c8, ()), t3, pairs2, piece2, i2, n, k_, ())) d.2.1 d.2.2.1.1 d.2.2.1.2.1 d.2.2.2.1.1 d.2.2.2.1.2.1 d.2.2.2.1.2.2.1 d.2.2.2.2.1 d.2.2.2.2.2.1 d.2.2.2.2.2.2.1 d.2.2.2.2.2.2.2.1 d.2.2.2.2.2.2.2.2.1 d.2.2.2.2.2.2.2.2.2.1
noncomputable def L45_16 (k : Nat) (g8 : Y4_2) (j : Nat) (l_3 : List Y4_0) (t2_4 : Int) (t2_5 : Int) (c6 : Int) (c7 : Int) (c8 : List (Int × Int)) (t3 : List Int) (pairs2 : List Int) (piece2 : Int) (i2 : Int) (n : Int) (k_ : Int) : Option Y4_4 := iter (R := ((Int × Int × List (Int × Int)) × Bool × Unit) × Unit) c45_L16 (b45_16 k g8) j ((), l_3, (t2_4, t2_5, (), ()), (c6, c7, c8, ()), t3, pairs2, piece2, i2, n, k_, ())
theorem L45_16_s (k : Nat) (g8 : Y4_2) (j : Nat) (l_3 : List Y4_0) (t2_4 : Int) (t2_5 : Int) (c6 : Int) (c7 : Int) (c8 : List (Int × Int)) (t3 : List Int) (pairs2 : List Int) (piece2 : Int) (i2 : Int) (n : Int) (k_ : Int) : L45_16 k g8 (j + 1) l_3 t2_4 t2_5 c6 c7 c8 t3 pairs2 piece2 i2 n k_ = l45_16 k g8 (L45_16 k g8 j) l_3 t2_4 t2_5 c6 c7 c8 t3 pairs2 piece2 i2 n k_ := iter_succ _ _ _ _
noncomputable abbrev c45_J13 : Cut := ⟨[0, 2, 4, 5, 6, 8, 9], [.cell Y4_1, .box 75 [.cell (.int .i64), .cell (.int .i64), .nil], .box 75 [.cell (.int .i64), .cell (.int .i64), .own 73 (.pair (.int .i64) (.int .i64))], .own 2 (.int .i64), .own 3 (.int .i64), .cell (.int .i64), .cell (.int .i64)], [], 103⟩
noncomputable def j45_13 (k : Nat) (g8 : Y4_2) (l_2 : List Y4_0) (t2_2 : Int) (t2_3 : Int) (c3 : Int) (c4 : Int) (c5 : List (Int × Int)) (t1 : List Int) (pairs1 : List Int) (piece1 : Int) (i1 : Int) : Option Y4_4 :=
 ix l_2 i1 <|
 (bif (rd l_2 i1 (0, 0, 0, 0)).1 == 9 then
  L45_16 k g8 k l_2 t2_2 t2_3 c3 c4 c5 t1 pairs1 piece1 i1 0 (IntKind.i64.wrap (i1 + 1))
 else
  g8 l_2 t2_2 t2_3 c3 c4 c5 t1 pairs1 piece1 (IntKind.i64.wrap (i1 + 1)))
noncomputable abbrev c45_L8 : Cut := ⟨[0, 2, 4, 5, 6, 8, 9], [.cell Y4_1, .box 75 [.cell (.int .i64), .cell (.int .i64), .nil], .box 75 [.cell (.int .i64), .cell (.int .i64), .own 73 (.pair (.int .i64) (.int .i64))], .own 2 (.int .i64), .own 3 (.int .i64), .cell (.int .i64), .cell (.int .i64)], [], 103⟩
noncomputable def l45_8 (k : Nat) (g8 : Y4_2) (l_1 : List Y4_0) (t2 : Int) (t2_1 : Int) (c : Int) (c1 : Int) (c2 : List (Int × Int)) (t : List Int) (pairs : List Int) (piece : Int) (i : Int) : Option Y4_4 :=
 (bif decide (i < (l_1.length : Int)) then
  ix t i <|
  ix t i <|
  ix l_1 i <|
  (bif (rd l_1 i (0, 0, 0, 0)).1 == 11 then
   j45_13 k g8 l_1 t2 t2_1 (IntKind.i64.wrap (c + (rd t i 0))) (mx c1 (IntKind.i64.wrap (piece + (rd t i 0)))) c2 t pairs 0 i
  else
   ix l_1 i <|
   (bif (rd l_1 i (0, 0, 0, 0)).1 == 0 then
    j45_13 k g8 l_1 t2 t2_1 (IntKind.i64.wrap (c + (rd t i 0))) (mx c1 (IntKind.i64.wrap (piece + (rd t i 0)))) c2 t pairs 0 i
   else
    j45_13 k g8 l_1 t2 t2_1 (IntKind.i64.wrap (c + (rd t i 0))) c1 c2 t pairs (IntKind.i64.wrap (piece + (rd t i 0))) i))
 else
  some (((c, c1, c2), true, ()), ()))
noncomputable def b45_8 (k : Nat) (g : ((Unit) × (List Y4_0) × (Int × Int × Unit × Unit) × Y4_10 × (List Int) × (List Int) × Int × Int × Unit) → Option Y4_4) (d : (Unit) × (List Y4_0) × (Int × Int × Unit × Unit) × Y4_10 × (List Int) × (List Int) × Int × Int × Unit) : Option Y4_4 := l45_8 k (fun l_1 t2 t2_1 c c1 c2 t pairs piece i => g ((), l_1, (t2, t2_1, (), ()), (c, c1, c2, ()), t, pairs, piece, i, ())) d.2.1 d.2.2.1.1 d.2.2.1.2.1 d.2.2.2.1.1 d.2.2.2.1.2.1 d.2.2.2.1.2.2.1 d.2.2.2.2.1 d.2.2.2.2.2.1 d.2.2.2.2.2.2.1 d.2.2.2.2.2.2.2.1
noncomputable def L45_8 (k : Nat) (j : Nat) (l_1 : List Y4_0) (t2 : Int) (t2_1 : Int) (c : Int) (c1 : Int) (c2 : List (Int × Int)) (t : List Int) (pairs : List Int) (piece : Int) (i : Int) : Option Y4_4 := iter (R := ((Int × Int × List (Int × Int)) × Bool × Unit) × Unit) c45_L8 (b45_8 k) j ((), l_1, (t2, t2_1, (), ()), (c, c1, c2, ()), t, pairs, piece, i, ())
theorem L45_8_s (k : Nat) (j : Nat) (l_1 : List Y4_0) (t2 : Int) (t2_1 : Int) (c : Int) (c1 : Int) (c2 : List (Int × Int)) (t : List Int) (pairs : List Int) (piece : Int) (i : Int) : L45_8 k (j + 1) l_1 t2 t2_1 c c1 c2 t pairs piece i = l45_8 k (L45_8 k j) l_1 t2 t2_1 c c1 c2 t pairs piece i := iter_succ _ _ _ _
noncomputable def S45 (k : Nat) (l_ : List Y4_0) : Option Y4_4 :=
 (S60 k l_).bind fun q0 =>
 (bif !q0.1.1 then
  some (((0, 0, []), false, ()), ())
 else
  (S61 k l_).bind fun q1 =>
  (S62 k l_).bind fun q2 =>
  L45_8 k k l_ 0 0 0 0 ([] : List (Int × Int)) q1.1.1 q2.1.1 0 0)
noncomputable def E45 : Env := tab.env (lk [(60, F60), (61, F61), (62, F62)]) (hintL [(16, 2)])
theorem E45_ok : EnvOK Try.prog E45 := envOK_of tabOK _ _ (allFn_lk (l := [(60, F60), (61, F61), (62, F62)]) ⟨ok60, ok61, ok62, trivial⟩)
noncomputable def B45 (k : Nat) : Tbl (RD R45 × MD P45) := (.loop 8 c45_L8 (b45_8 k) (fun g => (fun (g8 : Y4_2) => (.loop 16 c45_L16 (b45_16 k g8) (fun g => .nil) (.join 13 c45_J13 (fun d => j45_13 k g8 d.2.1 d.2.2.1.1 d.2.2.1.2.1 d.2.2.2.1.1 d.2.2.2.1.2.1 d.2.2.2.1.2.2.1 d.2.2.2.2.1 d.2.2.2.2.2.1 d.2.2.2.2.2.2.1 d.2.2.2.2.2.2.2.1) .nil))) (fun l_1 t2 t2_1 c c1 c2 t pairs piece i => g ((), l_1, (t2, t2_1, (), ()), (c, c1, c2, ()), t, pairs, piece, i, ()))) .nil)
noncomputable def F45 : Fn := ⟨P45, R45, fun k x => S45 k x.1⟩
theorem ok45 : FnOK Try.prog 45 F45 := evalF_ok (E := E45) (T := B45) E45_ok mix Try.func45 rfl (by kernel_rfl) (by kernel_rfl) (fun k => by kernel_rfl) (fun k x => by kernel_rfl)
noncomputable abbrev P53 : List PT := [.val ⟨false, Y4_1, false⟩]
noncomputable abbrev R53 : List RT := [.val ⟨false, .bool, true⟩]
noncomputable abbrev c53_L2 : Cut := ⟨[0, 3], [.cell Y4_1, .cell (.int .i64)], [], 16⟩
noncomputable def l53_2 (k : Nat) (g2 : (List Y4_0) → Int → Option Y4_11) (l_1 : List Y4_0) (i : Int) : Option Y4_11 :=
 (bif decide (i < (l_1.length : Int)) then
  ix l_1 i <|
  (bif (rd l_1 i (0, 0, 0, 0)).1 == 9 then
   some ((true, ()), ())
  else
   g2 l_1 (IntKind.i64.wrap (i + 1)))
 else
  some ((false, ()), ()))
noncomputable def b53_2 (k : Nat) (g : ((Unit) × (List Y4_0) × Int × Unit) → Option Y4_11) (d : (Unit) × (List Y4_0) × Int × Unit) : Option Y4_11 := l53_2 k (fun l_1 i => g ((), l_1, i, ())) d.2.1 d.2.2.1
noncomputable def L53_2 (k : Nat) (j : Nat) (l_1 : List Y4_0) (i : Int) : Option Y4_11 := iter (R := (Bool × Unit) × Unit) c53_L2 (b53_2 k) j ((), l_1, i, ())
theorem L53_2_s (k : Nat) (j : Nat) (l_1 : List Y4_0) (i : Int) : L53_2 k (j + 1) l_1 i = l53_2 k (L53_2 k j) l_1 i := iter_succ _ _ _ _
noncomputable def S53 (k : Nat) (l_ : List Y4_0) : Option Y4_11 :=
 L53_2 k k l_ 0
noncomputable def E53 : Env := tab.env (lk []) (hintL [])
theorem E53_ok : EnvOK Try.prog E53 := envOK_of tabOK _ _ (fun f F h => by cases h)
noncomputable def B53 (k : Nat) : Tbl (RD R53 × MD P53) := (.loop 2 c53_L2 (b53_2 k) (fun g => .nil) .nil)
noncomputable def F53 : Fn := ⟨P53, R53, fun k x => S53 k x.1⟩
theorem ok53 : FnOK Try.prog 53 F53 := evalF_ok (E := E53) (T := B53) E53_ok mix Try.func53 rfl (by kernel_rfl) (by kernel_rfl) (fun k => by kernel_rfl) (fun k x => by kernel_rfl)
noncomputable abbrev P34 : List PT := [.val ⟨true, Y4_8, false⟩]
noncomputable abbrev R34 : List RT := [.val ⟨false, (.int .i64), true⟩]
noncomputable def S34 (k : Nat) (t : Int × Int × Int × (List Y4_0) × (List Y4_0) × List Y4_0) : Option ((Int × Unit) × Unit) :=
 (S45 k t.2.2.2.1).bind fun q0 =>
 (S45 k t.2.2.2.2.1).bind fun q1 =>
 (S45 k t.2.2.2.2.2).bind fun q2 =>
 (bif decide (t.1 < 0) then
  some ((1, ()), ())
 else
  (bif decide (t.1 > 63) then
   some ((1, ()), ())
  else
   (bif decide (t.2.1 < 1) then
    some ((9, ()), ())
   else
    (bif decide (t.2.1 > 16384) then
     some ((9, ()), ())
    else
     (bif decide (t.2.2.1 < 1) then
      some ((9, ()), ())
     else
      (bif decide (t.2.2.1 > t.2.1) then
       some ((9, ()), ())
      else
       (bif !q0.1.2.1 then
        some ((2, ()), ())
       else
        (bif decide ((t.2.2.2.2.1.length : Int) > 0) then
         (bif !q1.1.2.1 then
          some ((2, ()), ())
         else
          (bif decide ((t.2.2.2.2.2.length : Int) > 0) then
           (bif !q2.1.2.1 then
            some ((2, ()), ())
           else
            (S53 k t.2.2.2.2.2).bind fun q3 =>
            (bif q3.1.1 then
             some ((2, ()), ())
            else
             (bif decide (q0.1.1.1 > t.2.2.1) then
              some ((10, ()), ())
             else
              (bif decide ((t.2.2.2.2.1.length : Int) > 0) then
               (bif decide (q1.1.1.1 > q0.1.1.1) then
                some ((12, ()), ())
               else
                some ((0, ()), ()))
              else
               some ((0, ()), ())))))
          else
           (bif decide (q0.1.1.1 > t.2.2.1) then
            some ((10, ()), ())
           else
            (bif decide ((t.2.2.2.2.1.length : Int) > 0) then
             (bif decide (q1.1.1.1 > q0.1.1.1) then
              some ((12, ()), ())
             else
              some ((0, ()), ()))
            else
             some ((0, ()), ())))))
        else
         (bif decide ((t.2.2.2.2.2.length : Int) > 0) then
          (bif !q2.1.2.1 then
           some ((2, ()), ())
          else
           (S53 k t.2.2.2.2.2).bind fun q4 =>
           (bif q4.1.1 then
            some ((2, ()), ())
           else
            (bif decide (q0.1.1.1 > t.2.2.1) then
             some ((10, ()), ())
            else
             (bif decide ((t.2.2.2.2.1.length : Int) > 0) then
              (bif decide (q1.1.1.1 > q0.1.1.1) then
               some ((12, ()), ())
              else
               some ((0, ()), ()))
             else
              some ((0, ()), ())))))
         else
          (bif decide (q0.1.1.1 > t.2.2.1) then
           some ((10, ()), ())
          else
           (bif decide ((t.2.2.2.2.1.length : Int) > 0) then
            (bif decide (q1.1.1.1 > q0.1.1.1) then
             some ((12, ()), ())
            else
             some ((0, ()), ()))
           else
            some ((0, ()), ()))))))))))))
noncomputable def E34 : Env := tab.env (lk [(45, F45), (53, F53)]) (hintL [])
theorem E34_ok : EnvOK Try.prog E34 := envOK_of tabOK _ _ (allFn_lk (l := [(45, F45), (53, F53)]) ⟨ok45, ok53, trivial⟩)
noncomputable def B34 (k : Nat) : Tbl (RD R34 × MD P34) := .nil
noncomputable def F34 : Fn := ⟨P34, R34, fun k x => S34 k x.1⟩
theorem ok34 : FnOK Try.prog 34 F34 := evalF_ok (E := E34) (T := B34) E34_ok mix Try.func34 rfl (by kernel_rfl) (by kernel_rfl) (fun k => by kernel_rfl) (fun k x => by kernel_rfl)
noncomputable abbrev P15 : List PT := [.val ⟨false, (.sl 5 (.int .u8)), false⟩, .val ⟨false, (.int .i64), false⟩]
noncomputable abbrev R15 : List RT := [.val ⟨false, (.sl 36 Y4_8), true⟩]
noncomputable abbrev c15_L5 : Cut := ⟨[5, 6, 7, 8], [.box 79 [.cell (.sl 5 (.int .u8)), .cell (.int .i64)], .own 36 Y4_8, .cell (.int .i64), .cell (.int .i64)], [], 39⟩
noncomputable def l15_5 (k : Nat) (g5 : (List Int) → Int → (List Y4_3) → Int → Int → Option Y4_9) (p : List Int) (p1 : Int) (l_ : List Y4_3) (locks : Int) (i : Int) : Option Y4_9 :=
 (bif decide (i > 0) then
  (S33 k p p1 3).bind fun q3 =>
  (S25 k q3.2.1.1 q3.2.1.2.1 (IntKind.i64.wrap ((IntKind.i64.wrap (3 * (l_.length : Int))) + q3.1.1)) locks).bind fun q4 =>
  (S34 k q4.1.1).bind fun q5 =>
  (bif q5.1.1 == 0 then
   ap l_ ([q4.1.1] : List Y4_3) 96 fun r6 =>
   g5 q4.2.1.1 q4.2.1.2.1 r6 locks (IntKind.i64.wrap (i - 1))
  else
   g5 q4.2.1.1 q4.2.1.2.1 l_ locks (IntKind.i64.wrap (i - 1)))
 else
  some ((l_, ()), ()))
noncomputable def b15_5 (k : Nat) (g : ((Unit) × ((List Int) × Int × Unit) × (List Y4_3) × Int × Int × Unit) → Option Y4_9) (d : (Unit) × ((List Int) × Int × Unit) × (List Y4_3) × Int × Int × Unit) : Option Y4_9 := l15_5 k (fun p p1 l_ locks i => g ((), (p, p1, ()), l_, locks, i, ())) d.2.1.1 d.2.1.2.1 d.2.2.1 d.2.2.2.1 d.2.2.2.2.1
noncomputable def L15_5 (k : Nat) (j : Nat) (p : List Int) (p1 : Int) (l_ : List Y4_3) (locks : Int) (i : Int) : Option Y4_9 := iter (R := ((List Y4_3) × Unit) × Unit) c15_L5 (b15_5 k) j ((), (p, p1, ()), l_, locks, i, ())
theorem L15_5_s (k : Nat) (j : Nat) (p : List Int) (p1 : Int) (l_ : List Y4_3) (locks : Int) (i : Int) : L15_5 k (j + 1) p p1 l_ locks i = l15_5 k (L15_5 k j) p p1 l_ locks i := iter_succ _ _ _ _
noncomputable def S15 (k : Nat) (picks : List Int) (most : Int) : Option Y4_9 :=
 (S24 k picks).bind fun q0 =>
 (S33 k q0.1.1.1 q0.1.1.2.1 4).bind fun q1 =>
 (S33 k q1.2.1.1 q1.2.1.2.1 most).bind fun q2 =>
 L15_5 k k q2.2.1.1 q2.2.1.2.1 ([] : List Y4_3) q1.1.1 (IntKind.i64.wrap (q2.1.1 + 1))
noncomputable def E15 : Env := tab.env (lk [(24, F24), (25, F25), (33, F33), (34, F34)]) (hintL [(6, 2)])
theorem E15_ok : EnvOK Try.prog E15 := envOK_of tabOK _ _ (allFn_lk (l := [(24, F24), (25, F25), (33, F33), (34, F34)]) ⟨ok24, ok25, ok33, ok34, trivial⟩)
noncomputable def B15 (k : Nat) : Tbl (RD R15 × MD P15) := (.loop 5 c15_L5 (b15_5 k) (fun g => .nil) .nil)
noncomputable def F15 : Fn := ⟨P15, R15, fun k x => S15 k x.1 x.2.1⟩
theorem ok15 : FnOK Try.prog 15 F15 := evalF_ok (E := E15) (T := B15) E15_ok mix Try.func15 rfl (by kernel_rfl) (by kernel_rfl) (fun k => by kernel_rfl) (fun k x => by kernel_rfl)
noncomputable abbrev P5 : List PT := [.val ⟨false, (.sl 5 (.int .u8)), false⟩, .val ⟨false, (.int .u8), false⟩, .val ⟨false, (.int .u8), false⟩]
noncomputable abbrev R5 : List RT := [.val ⟨false, .bool, true⟩]
noncomputable def S5 (k : Nat) (picks : List Int) (a : Int) (b : Int) : Option Y4_11 :=
 (S14 k).bind fun q0 =>
 (bif !q0.1.1 then
  some ((false, ()), ())
 else
  (bif decide ((picks.length : Int) > 200) then
   some ((true, ()), ())
  else
   (S15 k picks 4).bind fun q1 =>
   (bif decide ((q1.1.1.length : Int) < 2) then
    some ((true, ()), ())
   else
    (S16 k q1.1.1 (IntKind.i64.wrap ((q1.1.1.length : Int) - 1)) (IntKind.i64.wrap (1 + (IntKind.i64.wrap (mn a b))))).bind fun q2 =>
    (bif q2.1.2.2.1 != 0 then
     some ((q2.1.1 == 0, ()), ())
    else
     (S16 k q1.1.1 (IntKind.i64.wrap ((q1.1.1.length : Int) - 1)) (IntKind.i64.wrap (1 + (IntKind.i64.wrap (mx a b))))).bind fun q3 =>
     ap ([] : List Y4_3) q1.1.1 96 fun r4 =>
     ix r4 0 <|
     ix r4 0 <|
     (S16 k (upd r4 0 ((rd r4 0 (0, 0, 0, [], [], [])).1, IntKind.i64.wrap ((rd r4 0 (0, 0, 0, [], [], [])).2.1 * 2), (rd r4 0 (0, 0, 0, [], [], [])).2.2)) (IntKind.i64.wrap ((q1.1.1.length : Int) - 1)) (IntKind.i64.wrap (1 + (IntKind.i64.wrap (mn a b))))).bind fun q5 =>
     sx q1.1.1 1 (q1.1.1.length : Int) <|
     (S16 k (sub q1.1.1 1 (q1.1.1.length : Int)) (IntKind.i64.wrap ((IntKind.i64.wrap ((q1.1.1.length : Int) - 1)) - 1)) (IntKind.i64.wrap (1 + (IntKind.i64.wrap (mn a b))))).bind fun q6 =>
     (bif q3.1.2.2.1 == 0 then
      (bif decide (q3.1.1 ≤ q2.1.1) then
       (bif q5.1.2.2.1 == 0 then
        (bif decide (q5.1.1 ≤ q2.1.1) then
         (bif q6.1.2.2.1 == 0 then
          some ((decide (q6.1.1 ≤ q2.1.1), ()), ())
         else
          some ((false, ()), ()))
        else
         some ((false, ()), ()))
       else
        some ((false, ()), ()))
      else
       some ((false, ()), ()))
     else
      some ((false, ()), ()))))))
noncomputable def E5 : Env := tab.env (lk [(14, F14), (15, F15), (16, F16)]) (hintL [])
theorem E5_ok : EnvOK Try.prog E5 := envOK_of tabOK _ _ (allFn_lk (l := [(14, F14), (15, F15), (16, F16)]) ⟨ok14, ok15, ok16, trivial⟩)
noncomputable def B5 (k : Nat) : Tbl (RD R5 × MD P5) := .nil
noncomputable def F5 : Fn := ⟨P5, R5, fun k x => S5 k x.1 x.2.1 x.2.2.1⟩
theorem ok5 : FnOK Try.prog 5 F5 := evalF_ok (E := E5) (T := B5) E5_ok mix Try.func5 rfl (by kernel_rfl) (by kernel_rfl) (fun k => by kernel_rfl) (fun k x => by kernel_rfl)
end Go.Proofs.Ytinopkpnlibopaa.Ab
