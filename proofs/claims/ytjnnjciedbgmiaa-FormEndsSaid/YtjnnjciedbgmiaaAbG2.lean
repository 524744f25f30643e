import Derived.Test.YtjnnjciedbgmiaaAbG1
/- Contracts, printed by this session's own program gen.py. -/
set_option linter.unusedVariables false
set_option linter.unusedSimpArgs false
set_option maxRecDepth 100000
namespace Go.Proofs.Ytjnnjciedbgmiaa.Ab
open Go.RowKit Go.Proofs.YtjnnjciedbgmiaaW.PrintWords
/-! ### 20: 20 foliot/foliotref1.Pairs -/
noncomputable abbrev P20 : List PT := [.val ⟨false, (.sl 41 (.pair (.int .i64) (.pair (.int .i64) (.pair (.int .i64) (.int .i64))))), false⟩]
noncomputable abbrev R20 : List RT := [.val ⟨false, (.sl 3 (.int .i64)), true⟩, .val ⟨false, .bool, true⟩]
noncomputable abbrev c20_L10 : Cut := ⟨[0, 4, 5, 6, 7, 8], [.cell (.sl 41 (.pair (.int .i64) (.pair (.int .i64) (.pair (.int .i64) (.int .i64))))), .own 3 (.int .i64), .own 3 (.int .i64), .own 68 (.pair (.int .i64) (.pair (.int .i64) (.pair (.int .i64) .bool))), .cell (.int .i64), .cell (.int .i64)], [], 117⟩
noncomputable def l20_10 (k : Nat) (g5 : (List (Int × Int × Int × Int)) → (List Int) → (List Int) → (List (Int × Int × Int × Bool)) → Int → Option (((List Int) × Bool × Unit) × Unit)) (g10 : (List (Int × Int × Int × Int)) → (List Int) → (List Int) → (List (Int × Int × Int × Bool)) → Int → Int → Option (((List Int) × Bool × Unit) × Unit)) (l_2 : List (Int × Int × Int × Int)) (out1 : List Int) (open_1 : List Int) (a1 : List (Int × Int × Int × Bool)) (i1 : Int) (k_ : Int) : Option (((List Int) × Bool × Unit) × Unit) :=
  (bif decide (k_ < (open_1.length : Int)) then
    ix open_1 k_ <|
    ix l_2 (rd open_1 k_ 0) <|
    ix l_2 i1 <|
    (bif (rd l_2 (rd open_1 k_ 0) (0, 0, 0, 0)).2.1 == (rd l_2 i1 (0, 0, 0, 0)).2.1 then
      some (([], false, ()), ())
    else
      g10 l_2 out1 open_1 a1 i1 (IntKind.i64.wrap (k_ + 1)))
  else
    ap open_1 ([i1] : List Int) 8 fun r1 =>
    (bif decide ((r1.length : Int) > 2) then
      some (([], false, ()), ())
    else
      g5 l_2 out1 r1 a1 (IntKind.i64.wrap (i1 + 1))))
noncomputable def b20_10 (k : Nat) (g5 : (List (Int × Int × Int × Int)) → (List Int) → (List Int) → (List (Int × Int × Int × Bool)) → Int → Option (((List Int) × Bool × Unit) × Unit)) (g : ((Unit) × (List (Int × Int × Int × Int)) × (List Int) × (List Int) × (List (Int × Int × Int × Bool)) × Int × Int × Unit) → Option (((List Int) × Bool × Unit) × Unit)) (d : (Unit) × (List (Int × Int × Int × Int)) × (List Int) × (List Int) × (List (Int × Int × Int × Bool)) × Int × Int × Unit) : Option (((List Int) × Bool × Unit) × Unit) := l20_10 k g5 (fun l_2 out1 open_1 a1 i1 k_ => g ((), l_2, out1, open_1, a1, i1, k_, ())) d.2.1 d.2.2.1 d.2.2.2.1 d.2.2.2.2.1 d.2.2.2.2.2.1 d.2.2.2.2.2.2.1
noncomputable def L20_10 (k : Nat) (g5 : (List (Int × Int × Int × Int)) → (List Int) → (List Int) → (List (Int × Int × Int × Bool)) → Int → Option (((List Int) × Bool × Unit) × Unit)) (j : Nat) (l_2 : List (Int × Int × Int × Int)) (out1 : List Int) (open_1 : List Int) (a1 : List (Int × Int × Int × Bool)) (i1 : Int) (k_ : Int) : Option (((List Int) × Bool × Unit) × Unit) := iter (R := ((List Int) × Bool × Unit) × Unit) c20_L10 (b20_10 k g5) j ((), l_2, out1, open_1, a1, i1, k_, ())
theorem L20_10_s (k : Nat) (g5 : (List (Int × Int × Int × Int)) → (List Int) → (List Int) → (List (Int × Int × Int × Bool)) → Int → Option (((List Int) × Bool × Unit) × Unit)) (j : Nat) (l_2 : List (Int × Int × Int × Int)) (out1 : List Int) (open_1 : List Int) (a1 : List (Int × Int × Int × Bool)) (i1 : Int) (k_ : Int) : L20_10 k g5 (j + 1) l_2 out1 open_1 a1 i1 k_ = l20_10 k g5 (L20_10 k g5 j) l_2 out1 open_1 a1 i1 k_ := iter_succ _ _ _ _
noncomputable abbrev c20_L23 : Cut := ⟨[0, 4, 5, 6, 7, 9, 10], [.cell (.sl 41 (.pair (.int .i64) (.pair (.int .i64) (.pair (.int .i64) (.int .i64))))), .own 3 (.int .i64), .own 3 (.int .i64), .own 68 (.pair (.int .i64) (.pair (.int .i64) (.pair (.int .i64) .bool))), .cell (.int .i64), .cell (.int .i64), .cell (.int .i64)], [], 117⟩
noncomputable def l20_23 (k : Nat) (g5 : (List (Int × Int × Int × Int)) → (List Int) → (List Int) → (List (Int × Int × Int × Bool)) → Int → Option (((List Int) × Bool × Unit) × Unit)) (g23 : (List (Int × Int × Int × Int)) → (List Int) → (List Int) → (List (Int × Int × Int × Bool)) → Int → Int → Int → Option (((List Int) × Bool × Unit) × Unit)) (l_3 : List (Int × Int × Int × Int)) (out2 : List Int) (open_2 : List Int) (a2 : List (Int × Int × Int × Bool)) (i2 : Int) (k_1 : Int) (n : Int) : Option (((List Int) × Bool × Unit) × Unit) :=
  (bif decide (n < (a2.length : Int)) then
    ix a2 n <|
    (S34 k (rd a2 n (0, 0, 0, false)) k_1).bind fun q2 =>
    ix a2 n <|
    (S34 k (rd a2 n (0, 0, 0, false)) i2).bind fun q3 =>
    (bif !(q2.1.1 == q3.1.1) then
      some (([], false, ()), ())
    else
      g23 l_3 out2 open_2 a2 i2 k_1 (IntKind.i64.wrap (n + 1)))
  else
    ix out2 k_1 <|
    g5 l_3 (upd out2 k_1 i2) open_2 a2 (IntKind.i64.wrap (i2 + 1)))
noncomputable def b20_23 (k : Nat) (g5 : (List (Int × Int × Int × Int)) → (List Int) → (List Int) → (List (Int × Int × Int × Bool)) → Int → Option (((List Int) × Bool × Unit) × Unit)) (g : ((Unit) × (List (Int × Int × Int × Int)) × (List Int) × (List Int) × (List (Int × Int × Int × Bool)) × Int × Int × Int × Unit) → Option (((List Int) × Bool × Unit) × Unit)) (d : (Unit) × (List (Int × Int × Int × Int)) × (List Int) × (List Int) × (List (Int × Int × Int × Bool)) × Int × Int × Int × Unit) : Option (((List Int) × Bool × Unit) × Unit) := l20_23 k g5 (fun l_3 out2 open_2 a2 i2 k_1 n => g ((), l_3, out2, open_2, a2, i2, k_1, n, ())) d.2.1 d.2.2.1 d.2.2.2.1 d.2.2.2.2.1 d.2.2.2.2.2.1 d.2.2.2.2.2.2.1 d.2.2.2.2.2.2.2.1
noncomputable def L20_23 (k : Nat) (g5 : (List (Int × Int × Int × Int)) → (List Int) → (List Int) → (List (Int × Int × Int × Bool)) → Int → Option (((List Int) × Bool × Unit) × Unit)) (j : Nat) (l_3 : List (Int × Int × Int × Int)) (out2 : List Int) (open_2 : List Int) (a2 : List (Int × Int × Int × Bool)) (i2 : Int) (k_1 : Int) (n : Int) : Option (((List Int) × Bool × Unit) × Unit) := iter (R := ((List Int) × Bool × Unit) × Unit) c20_L23 (b20_23 k g5) j ((), l_3, out2, open_2, a2, i2, k_1, n, ())
theorem L20_23_s (k : Nat) (g5 : (List (Int × Int × Int × Int)) → (List Int) → (List Int) → (List (Int × Int × Int × Bool)) → Int → Option (((List Int) × Bool × Unit) × Unit)) (j : Nat) (l_3 : List (Int × Int × Int × Int)) (out2 : List Int) (open_2 : List Int) (a2 : List (Int × Int × Int × Bool)) (i2 : Int) (k_1 : Int) (n : Int) : L20_23 k g5 (j + 1) l_3 out2 open_2 a2 i2 k_1 n = l20_23 k g5 (L20_23 k g5 j) l_3 out2 open_2 a2 i2 k_1 n := iter_succ _ _ _ _
noncomputable abbrev c20_L5 : Cut := ⟨[0, 4, 5, 6, 7], [.cell (.sl 41 (.pair (.int .i64) (.pair (.int .i64) (.pair (.int .i64) (.int .i64))))), .own 3 (.int .i64), .own 3 (.int .i64), .own 68 (.pair (.int .i64) (.pair (.int .i64) (.pair (.int .i64) .bool))), .cell (.int .i64)], [], 117⟩
noncomputable def l20_5 (k : Nat) (g5 : (List (Int × Int × Int × Int)) → (List Int) → (List Int) → (List (Int × Int × Int × Bool)) → Int → Option (((List Int) × Bool × Unit) × Unit)) (l_1 : List (Int × Int × Int × Int)) (out : List Int) (open_ : List Int) (a : List (Int × Int × Int × Bool)) (i : Int) : Option (((List Int) × Bool × Unit) × Unit) :=
  (bif decide (i < (l_1.length : Int)) then
    ix l_1 i <|
    (bif (rd l_1 i (0, 0, 0, 0)).1 == 9 then
      L20_10 k g5 k l_1 out open_ a i 0
    else
      (bif (rd l_1 i (0, 0, 0, 0)).1 == 10 then
        (bif (open_.length : Int) == 0 then
          some (([], false, ()), ())
        else
          ix open_ (IntKind.i64.wrap ((open_.length : Int) - 1)) <|
          ix l_1 (rd open_ (IntKind.i64.wrap ((open_.length : Int) - 1)) 0) <|
          ix l_1 i <|
          (bif (rd l_1 (rd open_ (IntKind.i64.wrap ((open_.length : Int) - 1)) 0) (0, 0, 0, 0)).2.1 != (rd l_1 i (0, 0, 0, 0)).2.1 then
            some (([], false, ()), ())
          else
            ix open_ (IntKind.i64.wrap ((open_.length : Int) - 1)) <|
            sx open_ 0 (IntKind.i64.wrap ((open_.length : Int) - 1)) <|
            L20_23 k g5 k l_1 out (open_.take (IntKind.i64.wrap ((open_.length : Int) - 1)).toNat) a i (rd open_ (IntKind.i64.wrap ((open_.length : Int) - 1)) 0) 0))
      else
        g5 l_1 out open_ a (IntKind.i64.wrap (i + 1))))
  else
    (bif decide ((open_.length : Int) > 0) then
      some (([], false, ()), ())
    else
      some ((out, true, ()), ())))
noncomputable def b20_5 (k : Nat) (g : ((Unit) × (List (Int × Int × Int × Int)) × (List Int) × (List Int) × (List (Int × Int × Int × Bool)) × Int × Unit) → Option (((List Int) × Bool × Unit) × Unit)) (d : (Unit) × (List (Int × Int × Int × Int)) × (List Int) × (List Int) × (List (Int × Int × Int × Bool)) × Int × Unit) : Option (((List Int) × Bool × Unit) × Unit) := l20_5 k (fun l_1 out open_ a i => g ((), l_1, out, open_, a, i, ())) d.2.1 d.2.2.1 d.2.2.2.1 d.2.2.2.2.1 d.2.2.2.2.2.1
noncomputable def L20_5 (k : Nat) (j : Nat) (l_1 : List (Int × Int × Int × Int)) (out : List Int) (open_ : List Int) (a : List (Int × Int × Int × Bool)) (i : Int) : Option (((List Int) × Bool × Unit) × Unit) := iter (R := ((List Int) × Bool × Unit) × Unit) c20_L5 (b20_5 k) j ((), l_1, out, open_, a, i, ())
theorem L20_5_s (k : Nat) (j : Nat) (l_1 : List (Int × Int × Int × Int)) (out : List Int) (open_ : List Int) (a : List (Int × Int × Int × Bool)) (i : Int) : L20_5 k (j + 1) l_1 out open_ a i = l20_5 k (L20_5 k j) l_1 out open_ a i := iter_succ _ _ _ _
noncomputable def S20 (k : Nat) (l_ : List (Int × Int × Int × Int)) : Option (((List Int) × Bool × Unit) × Unit) :=
  mk (l_.length : Int) (l_.length : Int) 8 <|
  (S33 k l_).bind fun q0 =>
  L20_5 k k l_ (List.replicate (l_.length : Int).toNat (0 : Int)) ([] : List Int) q0.1.1 0
noncomputable def E20 : Env := tab.env (lk [(33, F33), (34, F34)]) (hintL [(5, 2), (89, 1)])
theorem E20_ok : EnvOK Try.prog E20 := envOK_of tabOK _ _ (allFn_lk (l := [(33, F33), (34, F34)]) ⟨ok33, ok34, trivial⟩)
noncomputable def B20 (k : Nat) : Tbl (RD R20 × MD P20) := (.loop 5 c20_L5 (b20_5 k) (fun g => (fun (g5 : (List (Int × Int × Int × Int)) → (List Int) → (List Int) → (List (Int × Int × Int × Bool)) → Int → Option (((List Int) × Bool × Unit) × Unit)) => (.loop 10 c20_L10 (b20_10 k g5) (fun g => .nil) (.loop 23 c20_L23 (b20_23 k g5) (fun g => .nil) .nil))) (fun l_1 out open_ a i => g ((), l_1, out, open_, a, i, ()))) .nil)
noncomputable def F20 : Fn := ⟨P20, R20, fun k x => S20 k x.1⟩
theorem ok20 : FnOK Try.prog 20 F20 := evalF_ok (E := E20) (T := B20) E20_ok mix Try.func20 rfl (by kernel_rfl) (by kernel_rfl) (fun k => by kernel_rfl) (fun k x => by kernel_rfl)
/-! ### 35: 35 foliot/foliotref1.held -/
noncomputable abbrev P35 : List PT := [.val ⟨false, (.sl 41 (.pair (.int .i64) (.pair (.int .i64) (.pair (.int .i64) (.int .i64))))), false⟩, .val ⟨false, (.sl 3 (.int .i64)), false⟩, .val ⟨false, (.int .i64), false⟩]
noncomputable abbrev R35 : List RT := [.val ⟨false, (.int .i64), true⟩]
noncomputable abbrev c35_L3 : Cut := ⟨[0, 1, 2, 7, 8], [.cell (.sl 41 (.pair (.int .i64) (.pair (.int .i64) (.pair (.int .i64) (.int .i64))))), .cell (.sl 3 (.int .i64)), .cell (.int .i64), .cell (.int .i64), .cell (.int .i64)], [], 37⟩
noncomputable def l35_3 (k : Nat) (g3 : (List (Int × Int × Int × Int)) → (List Int) → Int → Int → Int → Option ((Int × Unit) × Unit)) (l_1 : List (Int × Int × Int × Int)) (pairs1 : List Int) (i1 : Int) (n : Int) (k_ : Int) : Option ((Int × Unit) × Unit) :=
  (bif decide (k_ < (l_1.length : Int)) then
    ix l_1 k_ <|
    (bif (rd l_1 k_ (0, 0, 0, 0)).1 == 9 then
      (bif decide (k_ < i1) then
        ix pairs1 k_ <|
        (bif decide (i1 < (rd pairs1 k_ 0)) then
          g3 l_1 pairs1 i1 (IntKind.i64.wrap (n + 1)) (IntKind.i64.wrap (k_ + 1))
        else
          g3 l_1 pairs1 i1 n (IntKind.i64.wrap (k_ + 1)))
      else
        g3 l_1 pairs1 i1 n (IntKind.i64.wrap (k_ + 1)))
    else
      g3 l_1 pairs1 i1 n (IntKind.i64.wrap (k_ + 1)))
  else
    some ((n, ()), ()))
noncomputable def b35_3 (k : Nat) (g : ((Unit) × (List (Int × Int × Int × Int)) × (List Int) × Int × Int × Int × Unit) → Option ((Int × Unit) × Unit)) (d : (Unit) × (List (Int × Int × Int × Int)) × (List Int) × Int × Int × Int × Unit) : Option ((Int × Unit) × Unit) := l35_3 k (fun l_1 pairs1 i1 n k_ => g ((), l_1, pairs1, i1, n, k_, ())) d.2.1 d.2.2.1 d.2.2.2.1 d.2.2.2.2.1 d.2.2.2.2.2.1
noncomputable def L35_3 (k : Nat) (j : Nat) (l_1 : List (Int × Int × Int × Int)) (pairs1 : List Int) (i1 : Int) (n : Int) (k_ : Int) : Option ((Int × Unit) × Unit) := iter (R := (Int × Unit) × Unit) c35_L3 (b35_3 k) j ((), l_1, pairs1, i1, n, k_, ())
theorem L35_3_s (k : Nat) (j : Nat) (l_1 : List (Int × Int × Int × Int)) (pairs1 : List Int) (i1 : Int) (n : Int) (k_ : Int) : L35_3 k (j + 1) l_1 pairs1 i1 n k_ = l35_3 k (L35_3 k j) l_1 pairs1 i1 n k_ := iter_succ _ _ _ _
noncomputable def S35 (k : Nat) (l_ : List (Int × Int × Int × Int)) (pairs : List Int) (i : Int) : Option ((Int × Unit) × Unit) :=
  L35_3 k k l_ pairs i 0 0
noncomputable def E35 : Env := tab.env (lk []) (hintL [])
theorem E35_ok : EnvOK Try.prog E35 := envOK_of tabOK _ _ (fun f F h => by cases h)
noncomputable def B35 (k : Nat) : Tbl (RD R35 × MD P35) := (.loop 3 c35_L3 (b35_3 k) (fun g => .nil) .nil)
noncomputable def F35 : Fn := ⟨P35, R35, fun k x => S35 k x.1 x.2.1 x.2.2.1⟩
theorem ok35 : FnOK Try.prog 35 F35 := evalF_ok (E := E35) (T := B35) E35_ok mix Try.func35 rfl (by kernel_rfl) (by kernel_rfl) (fun k => by kernel_rfl) (fun k x => by kernel_rfl)
/-! ### 17: 17 foliot/foliotref1.MayCode -/
noncomputable abbrev P17 : List PT := [.val ⟨false, (.sl 41 (.pair (.int .i64) (.pair (.int .i64) (.pair (.int .i64) (.int .i64))))), false⟩]
noncomputable abbrev R17 : List RT := [.val ⟨false, .bool, true⟩]
noncomputable abbrev c17_J20 : Cut := ⟨[0, 4, 5, 6, 7, 8], [.cell (.sl 41 (.pair (.int .i64) (.pair (.int .i64) (.pair (.int .i64) (.int .i64))))), .own 68 (.pair (.int .i64) (.pair (.int .i64) (.pair (.int .i64) .bool))), .cell (.int .i64), .cell (.int .i64), .cell .bool, .cell .bool], [], 235⟩
noncomputable def j17_20 (k : Nat) (g10 : (List (Int × Int × Int × Int)) → (List (Int × Int × Int × Bool)) → Int → Option ((Bool × Unit) × Unit)) (g15 : (List (Int × Int × Int × Int)) → (List (Int × Int × Int × Bool)) → Int → Int → Option ((Bool × Unit) × Unit)) (l_5 : List (Int × Int × Int × Int)) (a3 : List (Int × Int × Int × Bool)) (i4 : Int) (k_2 : Int) (apart1 : Bool) (in_ : Bool) : Option ((Bool × Unit) × Unit) :=
  (bif !apart1 then
    (bif !in_ then
      some ((false, ()), ())
    else
      ix a3 i4 <|
      ix a3 k_2 <|
      (S34 k (rd a3 i4 (0, 0, 0, false)) (rd a3 k_2 (0, 0, 0, false)).2.2.1).bind fun q2 =>
      (bif q2.1.1 then
        ix a3 k_2 <|
        ix a3 i4 <|
        (bif decide ((rd a3 k_2 (0, 0, 0, false)).2.1 > (rd a3 i4 (0, 0, 0, false)).2.1) then
          some ((false, ()), ())
        else
          g15 l_5 a3 i4 (IntKind.i64.wrap (k_2 + 1)))
      else
        g15 l_5 a3 i4 (IntKind.i64.wrap (k_2 + 1))))
  else
    ix a3 i4 <|
    ix a3 k_2 <|
    (S34 k (rd a3 i4 (0, 0, 0, false)) (rd a3 k_2 (0, 0, 0, false)).2.2.1).bind fun q3 =>
    (bif q3.1.1 then
      ix a3 k_2 <|
      ix a3 i4 <|
      (bif decide ((rd a3 k_2 (0, 0, 0, false)).2.1 > (rd a3 i4 (0, 0, 0, false)).2.1) then
        some ((false, ()), ())
      else
        g15 l_5 a3 i4 (IntKind.i64.wrap (k_2 + 1)))
    else
      g15 l_5 a3 i4 (IntKind.i64.wrap (k_2 + 1))))
noncomputable abbrev c17_J19 : Cut := ⟨[0, 4, 5, 6, 7], [.cell (.sl 41 (.pair (.int .i64) (.pair (.int .i64) (.pair (.int .i64) (.int .i64))))), .own 68 (.pair (.int .i64) (.pair (.int .i64) (.pair (.int .i64) .bool))), .cell (.int .i64), .cell (.int .i64), .cell .bool], [], 235⟩
noncomputable def j17_19 (k : Nat) (g10 : (List (Int × Int × Int × Int)) → (List (Int × Int × Int × Bool)) → Int → Option ((Bool × Unit) × Unit)) (g15 : (List (Int × Int × Int × Int)) → (List (Int × Int × Int × Bool)) → Int → Int → Option ((Bool × Unit) × Unit)) (l_4 : List (Int × Int × Int × Int)) (a2 : List (Int × Int × Int × Bool)) (i3 : Int) (k_1 : Int) (apart : Bool) : Option ((Bool × Unit) × Unit) :=
  ix a2 i3 <|
  ix a2 k_1 <|
  (bif decide ((rd a2 i3 (0, 0, 0, false)).1 ≤ (rd a2 k_1 (0, 0, 0, false)).1) then
    ix a2 k_1 <|
    ix a2 i3 <|
    (bif decide ((rd a2 k_1 (0, 0, 0, false)).2.1 ≤ (rd a2 i3 (0, 0, 0, false)).2.1) then
      j17_20 k g10 g15 l_4 a2 i3 k_1 apart true
    else
      ix a2 k_1 <|
      ix a2 i3 <|
      (bif decide ((rd a2 k_1 (0, 0, 0, false)).1 ≤ (rd a2 i3 (0, 0, 0, false)).1) then
        ix a2 i3 <|
        ix a2 k_1 <|
        j17_20 k g10 g15 l_4 a2 i3 k_1 apart (decide ((rd a2 i3 (0, 0, 0, false)).2.1 ≤ (rd a2 k_1 (0, 0, 0, false)).2.1))
      else
        j17_20 k g10 g15 l_4 a2 i3 k_1 apart false))
  else
    ix a2 k_1 <|
    ix a2 i3 <|
    (bif decide ((rd a2 k_1 (0, 0, 0, false)).1 ≤ (rd a2 i3 (0, 0, 0, false)).1) then
      ix a2 i3 <|
      ix a2 k_1 <|
      j17_20 k g10 g15 l_4 a2 i3 k_1 apart (decide ((rd a2 i3 (0, 0, 0, false)).2.1 ≤ (rd a2 k_1 (0, 0, 0, false)).2.1))
    else
      j17_20 k g10 g15 l_4 a2 i3 k_1 apart false))
noncomputable abbrev c17_L15 : Cut := ⟨[0, 4, 5, 6], [.cell (.sl 41 (.pair (.int .i64) (.pair (.int .i64) (.pair (.int .i64) (.int .i64))))), .own 68 (.pair (.int .i64) (.pair (.int .i64) (.pair (.int .i64) .bool))), .cell (.int .i64), .cell (.int .i64)], [], 235⟩
noncomputable def l17_15 (k : Nat) (g10 : (List (Int × Int × Int × Int)) → (List (Int × Int × Int × Bool)) → Int → Option ((Bool × Unit) × Unit)) (g15 : (List (Int × Int × Int × Int)) → (List (Int × Int × Int × Bool)) → Int → Int → Option ((Bool × Unit) × Unit)) (l_3 : List (Int × Int × Int × Int)) (a1 : List (Int × Int × Int × Bool)) (i2 : Int) (k_ : Int) : Option ((Bool × Unit) × Unit) :=
  (bif decide (k_ < (a1.length : Int)) then
    (bif i2 == k_ then
      g15 l_3 a1 i2 (IntKind.i64.wrap (k_ + 1))
    else
      ix a1 i2 <|
      ix a1 k_ <|
      (bif decide ((rd a1 i2 (0, 0, 0, false)).2.1 < (rd a1 k_ (0, 0, 0, false)).1) then
        j17_19 k g10 g15 l_3 a1 i2 k_ true
      else
        ix a1 k_ <|
        ix a1 i2 <|
        j17_19 k g10 g15 l_3 a1 i2 k_ (decide ((rd a1 k_ (0, 0, 0, false)).2.1 < (rd a1 i2 (0, 0, 0, false)).1))))
  else
    g10 l_3 a1 (IntKind.i64.wrap (i2 + 1)))
noncomputable def b17_15 (k : Nat) (g10 : (List (Int × Int × Int × Int)) → (List (Int × Int × Int × Bool)) → Int → Option ((Bool × Unit) × Unit)) (g : ((Unit) × (List (Int × Int × Int × Int)) × (List (Int × Int × Int × Bool)) × Int × Int × Unit) → Option ((Bool × Unit) × Unit)) (d : (Unit) × (List (Int × Int × Int × Int)) × (List (Int × Int × Int × Bool)) × Int × Int × Unit) : Option ((Bool × Unit) × Unit) := l17_15 k g10 (fun l_3 a1 i2 k_ => g ((), l_3, a1, i2, k_, ())) d.2.1 d.2.2.1 d.2.2.2.1 d.2.2.2.2.1
noncomputable def L17_15 (k : Nat) (g10 : (List (Int × Int × Int × Int)) → (List (Int × Int × Int × Bool)) → Int → Option ((Bool × Unit) × Unit)) (j : Nat) (l_3 : List (Int × Int × Int × Int)) (a1 : List (Int × Int × Int × Bool)) (i2 : Int) (k_ : Int) : Option ((Bool × Unit) × Unit) := iter (R := (Bool × Unit) × Unit) c17_L15 (b17_15 k g10) j ((), l_3, a1, i2, k_, ())
theorem L17_15_s (k : Nat) (g10 : (List (Int × Int × Int × Int)) → (List (Int × Int × Int × Bool)) → Int → Option ((Bool × Unit) × Unit)) (j : Nat) (l_3 : List (Int × Int × Int × Int)) (a1 : List (Int × Int × Int × Bool)) (i2 : Int) (k_ : Int) : L17_15 k g10 (j + 1) l_3 a1 i2 k_ = l17_15 k g10 (L17_15 k g10 j) l_3 a1 i2 k_ := iter_succ _ _ _ _
noncomputable abbrev c17_L30 : Cut := ⟨[0, 4, 9, 11, 12, 13, 14], [.cell (.sl 41 (.pair (.int .i64) (.pair (.int .i64) (.pair (.int .i64) (.int .i64))))), .own 68 (.pair (.int .i64) (.pair (.int .i64) (.pair (.int .i64) .bool))), .own 3 (.int .i64), .cell (.int .i64), .cell (.int .i64), .cell (.int .i64), .cell (.int .i64)], [], 235⟩
noncomputable def l17_30 (k : Nat) (g26 : (List (Int × Int × Int × Int)) → (List (Int × Int × Int × Bool)) → (List Int) → Int → Option ((Bool × Unit) × Unit)) (g30 : (List (Int × Int × Int × Int)) → (List (Int × Int × Int × Bool)) → (List Int) → Int → Int → Int → Int → Option ((Bool × Unit) × Unit)) (l_7 : List (Int × Int × Int × Int)) (a5 : List (Int × Int × Int × Bool)) (pairs1 : List Int) (i6 : Int) (bodies : Int) (all : Int) (k_3 : Int) : Option ((Bool × Unit) × Unit) :=
  (bif decide (k_3 < (a5.length : Int)) then
    ix a5 k_3 <|
    (S34 k (rd a5 k_3 (0, 0, 0, false)) i6).bind fun q5 =>
    (bif q5.1.1 then
      ix a5 k_3 <|
      (bif (rd a5 k_3 (0, 0, 0, false)).2.2.2 then
        g30 l_7 a5 pairs1 i6 (IntKind.i64.wrap (bodies + 1)) (IntKind.i64.wrap (all + 1)) (IntKind.i64.wrap (k_3 + 1))
      else
        g30 l_7 a5 pairs1 i6 bodies (IntKind.i64.wrap (all + 1)) (IntKind.i64.wrap (k_3 + 1)))
    else
      g30 l_7 a5 pairs1 i6 bodies all (IntKind.i64.wrap (k_3 + 1)))
  else
    (bif decide (bodies > 2) then
      some ((false, ()), ())
    else
      ix l_7 i6 <|
      (bif (rd l_7 i6 (0, 0, 0, 0)).1 == 11 then
        (bif decide (all > 0) then
          some ((false, ()), ())
        else
          (S35 k l_7 pairs1 i6).bind fun q6 =>
          (bif decide (q6.1.1 > 0) then
            some ((false, ()), ())
          else
            g26 l_7 a5 pairs1 (IntKind.i64.wrap (i6 + 1))))
      else
        g26 l_7 a5 pairs1 (IntKind.i64.wrap (i6 + 1)))))
noncomputable def b17_30 (k : Nat) (g26 : (List (Int × Int × Int × Int)) → (List (Int × Int × Int × Bool)) → (List Int) → Int → Option ((Bool × Unit) × Unit)) (g : ((Unit) × (List (Int × Int × Int × Int)) × (List (Int × Int × Int × Bool)) × (List Int) × Int × Int × Int × Int × Unit) → Option ((Bool × Unit) × Unit)) (d : (Unit) × (List (Int × Int × Int × Int)) × (List (Int × Int × Int × Bool)) × (List Int) × Int × Int × Int × Int × Unit) : Option ((Bool × Unit) × Unit) := l17_30 k g26 (fun l_7 a5 pairs1 i6 bodies all k_3 => g ((), l_7, a5, pairs1, i6, bodies, all, k_3, ())) d.2.1 d.2.2.1 d.2.2.2.1 d.2.2.2.2.1 d.2.2.2.2.2.1 d.2.2.2.2.2.2.1 d.2.2.2.2.2.2.2.1
noncomputable def L17_30 (k : Nat) (g26 : (List (Int × Int × Int × Int)) → (List (Int × Int × Int × Bool)) → (List Int) → Int → Option ((Bool × Unit) × Unit)) (j : Nat) (l_7 : List (Int × Int × Int × Int)) (a5 : List (Int × Int × Int × Bool)) (pairs1 : List Int) (i6 : Int) (bodies : Int) (all : Int) (k_3 : Int) : Option ((Bool × Unit) × Unit) := iter (R := (Bool × Unit) × Unit) c17_L30 (b17_30 k g26) j ((), l_7, a5, pairs1, i6, bodies, all, k_3, ())
theorem L17_30_s (k : Nat) (g26 : (List (Int × Int × Int × Int)) → (List (Int × Int × Int × Bool)) → (List Int) → Int → Option ((Bool × Unit) × Unit)) (j : Nat) (l_7 : List (Int × Int × Int × Int)) (a5 : List (Int × Int × Int × Bool)) (pairs1 : List Int) (i6 : Int) (bodies : Int) (all : Int) (k_3 : Int) : L17_30 k g26 (j + 1) l_7 a5 pairs1 i6 bodies all k_3 = l17_30 k g26 (L17_30 k g26 j) l_7 a5 pairs1 i6 bodies all k_3 := iter_succ _ _ _ _
noncomputable abbrev c17_L26 : Cut := ⟨[0, 4, 9, 11], [.cell (.sl 41 (.pair (.int .i64) (.pair (.int .i64) (.pair (.int .i64) (.int .i64))))), .own 68 (.pair (.int .i64) (.pair (.int .i64) (.pair (.int .i64) .bool))), .own 3 (.int .i64), .cell (.int .i64)], [], 235⟩
noncomputable def l17_26 (k : Nat) (g26 : (List (Int × Int × Int × Int)) → (List (Int × Int × Int × Bool)) → (List Int) → Int → Option ((Bool × Unit) × Unit)) (l_6 : List (Int × Int × Int × Int)) (a4 : List (Int × Int × Int × Bool)) (pairs : List Int) (i5 : Int) : Option ((Bool × Unit) × Unit) :=
  (bif decide (i5 < (l_6.length : Int)) then
    L17_30 k g26 k l_6 a4 pairs i5 0 0 0
  else
    some ((true, ()), ()))
noncomputable def b17_26 (k : Nat) (g : ((Unit) × (List (Int × Int × Int × Int)) × (List (Int × Int × Int × Bool)) × (List Int) × Int × Unit) → Option ((Bool × Unit) × Unit)) (d : (Unit) × (List (Int × Int × Int × Int)) × (List (Int × Int × Int × Bool)) × (List Int) × Int × Unit) : Option ((Bool × Unit) × Unit) := l17_26 k (fun l_6 a4 pairs i5 => g ((), l_6, a4, pairs, i5, ())) d.2.1 d.2.2.1 d.2.2.2.1 d.2.2.2.2.1
noncomputable def L17_26 (k : Nat) (j : Nat) (l_6 : List (Int × Int × Int × Int)) (a4 : List (Int × Int × Int × Bool)) (pairs : List Int) (i5 : Int) : Option ((Bool × Unit) × Unit) := iter (R := (Bool × Unit) × Unit) c17_L26 (b17_26 k) j ((), l_6, a4, pairs, i5, ())
theorem L17_26_s (k : Nat) (j : Nat) (l_6 : List (Int × Int × Int × Int)) (a4 : List (Int × Int × Int × Bool)) (pairs : List Int) (i5 : Int) : L17_26 k (j + 1) l_6 a4 pairs i5 = l17_26 k (L17_26 k j) l_6 a4 pairs i5 := iter_succ _ _ _ _
noncomputable abbrev c17_L10 : Cut := ⟨[0, 4, 5], [.cell (.sl 41 (.pair (.int .i64) (.pair (.int .i64) (.pair (.int .i64) (.int .i64))))), .own 68 (.pair (.int .i64) (.pair (.int .i64) (.pair (.int .i64) .bool))), .cell (.int .i64)], [], 235⟩
noncomputable def l17_10 (k : Nat) (g10 : (List (Int × Int × Int × Int)) → (List (Int × Int × Int × Bool)) → Int → Option ((Bool × Unit) × Unit)) (l_2 : List (Int × Int × Int × Int)) (a : List (Int × Int × Int × Bool)) (i1 : Int) : Option ((Bool × Unit) × Unit) :=
  (bif decide (i1 < (a.length : Int)) then
    ix a i1 <|
    (bif decide ((rd a i1 (0, 0, 0, false)).2.1 ≥ (IntKind.i64.wrap ((l_2.length : Int) - 1))) then
      some ((false, ()), ())
    else
      L17_15 k g10 k l_2 a i1 0)
  else
    (S20 k l_2).bind fun q4 =>
    (bif !q4.1.2.1 then
      some ((false, ()), ())
    else
      L17_26 k k l_2 a q4.1.1 0))
noncomputable def b17_10 (k : Nat) (g : ((Unit) × (List (Int × Int × Int × Int)) × (List (Int × Int × Int × Bool)) × Int × Unit) → Option ((Bool × Unit) × Unit)) (d : (Unit) × (List (Int × Int × Int × Int)) × (List (Int × Int × Int × Bool)) × Int × Unit) : Option ((Bool × Unit) × Unit) := l17_10 k (fun l_2 a i1 => g ((), l_2, a, i1, ())) d.2.1 d.2.2.1 d.2.2.2.1
noncomputable def L17_10 (k : Nat) (j : Nat) (l_2 : List (Int × Int × Int × Int)) (a : List (Int × Int × Int × Bool)) (i1 : Int) : Option ((Bool × Unit) × Unit) := iter (R := (Bool × Unit) × Unit) c17_L10 (b17_10 k) j ((), l_2, a, i1, ())
theorem L17_10_s (k : Nat) (j : Nat) (l_2 : List (Int × Int × Int × Int)) (a : List (Int × Int × Int × Bool)) (i1 : Int) : L17_10 k (j + 1) l_2 a i1 = l17_10 k (L17_10 k j) l_2 a i1 := iter_succ _ _ _ _
noncomputable abbrev c17_L4 : Cut := ⟨[0, 3], [.cell (.sl 41 (.pair (.int .i64) (.pair (.int .i64) (.pair (.int .i64) (.int .i64))))), .cell (.int .i64)], [], 235⟩
noncomputable def l17_4 (k : Nat) (g4 : (List (Int × Int × Int × Int)) → Int → Option ((Bool × Unit) × Unit)) (l_1 : List (Int × Int × Int × Int)) (i : Int) : Option ((Bool × Unit) × Unit) :=
  (bif decide (i < (l_1.length : Int)) then
    ix l_1 i <|
    (S32 k (rd l_1 i (0, 0, 0, 0))).bind fun q0 =>
    (bif !q0.1.1 then
      some ((false, ()), ())
    else
      ix l_1 i <|
      (bif !(((rd l_1 i (0, 0, 0, 0)).1 == 0) == (i == (IntKind.i64.wrap ((l_1.length : Int) - 1)))) then
        some ((false, ()), ())
      else
        g4 l_1 (IntKind.i64.wrap (i + 1))))
  else
    (S33 k l_1).bind fun q1 =>
    L17_10 k k l_1 q1.1.1 0)
noncomputable def b17_4 (k : Nat) (g : ((Unit) × (List (Int × Int × Int × Int)) × Int × Unit) → Option ((Bool × Unit) × Unit)) (d : (Unit) × (List (Int × Int × Int × Int)) × Int × Unit) : Option ((Bool × Unit) × Unit) := l17_4 k (fun l_1 i => g ((), l_1, i, ())) d.2.1 d.2.2.1
noncomputable def L17_4 (k : Nat) (j : Nat) (l_1 : List (Int × Int × Int × Int)) (i : Int) : Option ((Bool × Unit) × Unit) := iter (R := (Bool × Unit) × Unit) c17_L4 (b17_4 k) j ((), l_1, i, ())
theorem L17_4_s (k : Nat) (j : Nat) (l_1 : List (Int × Int × Int × Int)) (i : Int) : L17_4 k (j + 1) l_1 i = l17_4 k (L17_4 k j) l_1 i := iter_succ _ _ _ _
noncomputable def S17 (k : Nat) (l_ : List (Int × Int × Int × Int)) : Option ((Bool × Unit) × Unit) :=
  (bif decide ((l_.length : Int) < 1) then
    some ((false, ()), ())
  else
    (bif decide ((l_.length : Int) > 24) then
      some ((false, ()), ())
    else
      L17_4 k k l_ 0))
noncomputable def E17 : Env := tab.env (lk [(20, F20), (32, F32), (33, F33), (34, F34), (35, F35)]) (hintL [])
theorem E17_ok : EnvOK Try.prog E17 := envOK_of tabOK _ _ (allFn_lk (l := [(20, F20), (32, F32), (33, F33), (34, F34), (35, F35)]) ⟨ok20, ok32, ok33, ok34, ok35, trivial⟩)
noncomputable def B17 (k : Nat) : Tbl (RD R17 × MD P17) := (.loop 26 c17_L26 (b17_26 k) (fun g => (fun (g26 : (List (Int × Int × Int × Int)) → (List (Int × Int × Int × Bool)) → (List Int) → Int → Option ((Bool × Unit) × Unit)) => (.loop 30 c17_L30 (b17_30 k g26) (fun g => .nil) .nil)) (fun l_6 a4 pairs i5 => g ((), l_6, a4, pairs, i5, ()))) (.loop 10 c17_L10 (b17_10 k) (fun g => (fun (g10 : (List (Int × Int × Int × Int)) → (List (Int × Int × Int × Bool)) → Int → Option ((Bool × Unit) × Unit)) => (.loop 15 c17_L15 (b17_15 k g10) (fun g => (fun (g15 : (List (Int × Int × Int × Int)) → (List (Int × Int × Int × Bool)) → Int → Int → Option ((Bool × Unit) × Unit)) => (.join 20 c17_J20 (fun d => j17_20 k g10 g15 d.2.1 d.2.2.1 d.2.2.2.1 d.2.2.2.2.1 d.2.2.2.2.2.1 d.2.2.2.2.2.2.1) (.join 19 c17_J19 (fun d => j17_19 k g10 g15 d.2.1 d.2.2.1 d.2.2.2.1 d.2.2.2.2.1 d.2.2.2.2.2.1) .nil))) (fun l_3 a1 i2 k_ => g ((), l_3, a1, i2, k_, ()))) .nil)) (fun l_2 a i1 => g ((), l_2, a, i1, ()))) (.loop 4 c17_L4 (b17_4 k) (fun g => .nil) .nil)))
noncomputable def F17 : Fn := ⟨P17, R17, fun k x => S17 k x.1⟩
theorem ok17 : FnOK Try.prog 17 F17 := evalF_ok (E := E17) (T := B17) E17_ok mix Try.func17 rfl (by kernel_rfl) (by kernel_rfl) (fun k => by kernel_rfl) (fun k x => by kernel_rfl)
/-! ### 3: 3 foliot/foliotlaw6.FormAll -/
noncomputable abbrev P3 : List PT := [.val ⟨false, (.sl 41 (.pair (.int .i64) (.pair (.int .i64) (.pair (.int .i64) (.int .i64))))), false⟩, .val ⟨false, (.sl 5 (.int .u8)), false⟩]
noncomputable abbrev R3 : List RT := [.val ⟨false, .bool, true⟩]
noncomputable abbrev c3_L19 : Cut := ⟨[5, 7, 8, 10, 12, 14], [.cell (.sl 41 (.pair (.int .i64) (.pair (.int .i64) (.pair (.int .i64) (.int .i64))))), .own 22 (.sl 41 (.pair (.int .i64) (.pair (.int .i64) (.pair (.int .i64) (.int .i64))))), .cell (.int .i64), .own 3 (.int .i64), .own 3 (.int .i64), .cell (.int .i64)], [], 96⟩
noncomputable def l3_19 (k : Nat) (g8 : (List (Int × Int × Int × Int)) → (List (List (Int × Int × Int × Int))) → Int → Option ((Bool × Unit) × Unit)) (g19 : (List (Int × Int × Int × Int)) → (List (List (Int × Int × Int × Int))) → Int → (List Int) → (List Int) → Int → Option ((Bool × Unit) × Unit)) (m1 : List (Int × Int × Int × Int)) (both1 : List (List (Int × Int × Int × Int))) (i1 : Int) (x : List Int) (y : List Int) (k_ : Int) : Option ((Bool × Unit) × Unit) :=
  (bif decide (k_ < (y.length : Int)) then
    ix x k_ <|
    ix y k_ <|
    (bif (rd x k_ 0) != (rd y k_ 0) then
      some ((false, ()), ())
    else
      g19 m1 both1 i1 x y (IntKind.i64.wrap (k_ + 1)))
  else
    g8 m1 both1 (IntKind.i64.wrap (i1 + 1)))
noncomputable def b3_19 (k : Nat) (g8 : (List (Int × Int × Int × Int)) → (List (List (Int × Int × Int × Int))) → Int → Option ((Bool × Unit) × Unit)) (g : ((Unit) × (List (Int × Int × Int × Int)) × (List (List (Int × Int × Int × Int))) × Int × (List Int) × (List Int) × Int × Unit) → Option ((Bool × Unit) × Unit)) (d : (Unit) × (List (Int × Int × Int × Int)) × (List (List (Int × Int × Int × Int))) × Int × (List Int) × (List Int) × Int × Unit) : Option ((Bool × Unit) × Unit) := l3_19 k g8 (fun m1 both1 i1 x y k_ => g ((), m1, both1, i1, x, y, k_, ())) d.2.1 d.2.2.1 d.2.2.2.1 d.2.2.2.2.1 d.2.2.2.2.2.1 d.2.2.2.2.2.2.1
noncomputable def L3_19 (k : Nat) (g8 : (List (Int × Int × Int × Int)) → (List (List (Int × Int × Int × Int))) → Int → Option ((Bool × Unit) × Unit)) (j : Nat) (m1 : List (Int × Int × Int × Int)) (both1 : List (List (Int × Int × Int × Int))) (i1 : Int) (x : List Int) (y : List Int) (k_ : Int) : Option ((Bool × Unit) × Unit) := iter (R := (Bool × Unit) × Unit) c3_L19 (b3_19 k g8) j ((), m1, both1, i1, x, y, k_, ())
theorem L3_19_s (k : Nat) (g8 : (List (Int × Int × Int × Int)) → (List (List (Int × Int × Int × Int))) → Int → Option ((Bool × Unit) × Unit)) (j : Nat) (m1 : List (Int × Int × Int × Int)) (both1 : List (List (Int × Int × Int × Int))) (i1 : Int) (x : List Int) (y : List Int) (k_ : Int) : L3_19 k g8 (j + 1) m1 both1 i1 x y k_ = l3_19 k g8 (L3_19 k g8 j) m1 both1 i1 x y k_ := iter_succ _ _ _ _
noncomputable abbrev c3_L8 : Cut := ⟨[5, 7, 8], [.cell (.sl 41 (.pair (.int .i64) (.pair (.int .i64) (.pair (.int .i64) (.int .i64))))), .own 22 (.sl 41 (.pair (.int .i64) (.pair (.int .i64) (.pair (.int .i64) (.int .i64))))), .cell (.int .i64)], [], 96⟩
noncomputable def l3_8 (k : Nat) (g8 : (List (Int × Int × Int × Int)) → (List (List (Int × Int × Int × Int))) → Int → Option ((Bool × Unit) × Unit)) (m : List (Int × Int × Int × Int)) (both : List (List (Int × Int × Int × Int))) (i : Int) : Option ((Bool × Unit) × Unit) :=
  (bif decide (i < 3) then
    ix both i <|
    (S17 k (rd both i [])).bind fun q5 =>
    ix both i <|
    (S18 k (rd both i [])).bind fun q6 =>
    (bif !(q6.1.1 == q5.1.1) then
      some ((false, ()), ())
    else
      (bif !q5.1.1 then
        g8 m both (IntKind.i64.wrap (i + 1))
      else
        ix both i <|
        (S19 k (rd both i [])).bind fun q7 =>
        ix both i <|
        (S20 k (rd both i [])).bind fun q8 =>
        (bif !(q7.1.2.1 == q8.1.2.1) then
          some ((false, ()), ())
        else
          (bif (q7.1.1.length : Int) != (q8.1.1.length : Int) then
            some ((false, ()), ())
          else
            L3_19 k g8 k m both i q7.1.1 q8.1.1 0))))
  else
    (S18 k m).bind fun q9 =>
    some ((q9.1.1, ()), ()))
noncomputable def b3_8 (k : Nat) (g : ((Unit) × (List (Int × Int × Int × Int)) × (List (List (Int × Int × Int × Int))) × Int × Unit) → Option ((Bool × Unit) × Unit)) (d : (Unit) × (List (Int × Int × Int × Int)) × (List (List (Int × Int × Int × Int))) × Int × Unit) : Option ((Bool × Unit) × Unit) := l3_8 k (fun m both i => g ((), m, both, i, ())) d.2.1 d.2.2.1 d.2.2.2.1
noncomputable def L3_8 (k : Nat) (j : Nat) (m : List (Int × Int × Int × Int)) (both : List (List (Int × Int × Int × Int))) (i : Int) : Option ((Bool × Unit) × Unit) := iter (R := (Bool × Unit) × Unit) c3_L8 (b3_8 k) j ((), m, both, i, ())
theorem L3_8_s (k : Nat) (j : Nat) (m : List (Int × Int × Int × Int)) (both : List (List (Int × Int × Int × Int))) (i : Int) : L3_8 k (j + 1) m both i = l3_8 k (L3_8 k j) m both i := iter_succ _ _ _ _
noncomputable def S3 (k : Nat) (l_ : List (Int × Int × Int × Int)) (picks : List Int) : Option ((Bool × Unit) × Unit) :=
  (S13 k).bind fun q0 =>
  (bif !q0.1.1 then
    some ((false, ()), ())
  else
    (bif decide ((l_.length : Int) > 30) then
      some ((true, ()), ())
    else
      (bif decide ((picks.length : Int) > 80) then
        some ((true, ()), ())
      else
        (S14 k picks).bind fun q1 =>
        (S15 k q1.1.1.1 q1.1.1.2.1 3).bind fun q2 =>
        (S14 k picks).bind fun q3 =>
        (S16 k q3.1.1.1 q3.1.1.2.1).bind fun q4 =>
        L3_8 k k q2.1.1 ([l_, q2.1.1, q4.1.1] : List (List (Int × Int × Int × Int))) 0)))
noncomputable def E3 : Env := tab.env (lk [(13, F13), (14, F14), (15, F15), (16, F16), (17, F17), (18, F18), (19, F19), (20, F20)]) (hintL [])
theorem E3_ok : EnvOK Try.prog E3 := envOK_of tabOK _ _ (allFn_lk (l := [(13, F13), (14, F14), (15, F15), (16, F16), (17, F17), (18, F18), (19, F19), (20, F20)]) ⟨ok13, ok14, ok15, ok16, ok17, ok18, ok19, ok20, trivial⟩)
noncomputable def B3 (k : Nat) : Tbl (RD R3 × MD P3) := (.loop 8 c3_L8 (b3_8 k) (fun g => (fun (g8 : (List (Int × Int × Int × Int)) → (List (List (Int × Int × Int × Int))) → Int → Option ((Bool × Unit) × Unit)) => (.loop 19 c3_L19 (b3_19 k g8) (fun g => .nil) .nil)) (fun m both i => g ((), m, both, i, ()))) .nil)
noncomputable def F3 : Fn := ⟨P3, R3, fun k x => S3 k x.1 x.2.1⟩
theorem ok3 : FnOK Try.prog 3 F3 := evalF_ok (E := E3) (T := B3) E3_ok mix Try.func3 rfl (by kernel_rfl) (by kernel_rfl) (fun k => by kernel_rfl) (fun k x => by kernel_rfl)
/-! ### 7: 7 foliot/foliotlaw6.FormAdds -/
noncomputable abbrev P7 : List PT := [.val ⟨false, (.sl 5 (.int .u8)), false⟩]
noncomputable abbrev R7 : List RT := [.val ⟨false, .bool, true⟩]
noncomputable def S7 (k : Nat) (picks : List Int) : Option ((Bool × Unit) × Unit) :=
  (S13 k).bind fun q0 =>
  (bif !q0.1.1 then
    some ((false, ()), ())
  else
    (bif decide ((picks.length : Int) > 80) then
      some ((true, ()), ())
    else
      (S14 k picks).bind fun q1 =>
      (S15 k q1.1.1.1 q1.1.1.2.1 3).bind fun q2 =>
      ap ([(1, 1, 0, 3)] : List (Int × Int × Int × Int)) q2.1.1 32 fun r3 =>
      (S18 k q2.1.1).bind fun q4 =>
      (bif q4.1.1 then
        (S18 k r3).bind fun q5 =>
        (bif q5.1.1 == (decide ((r3.length : Int) ≤ 24)) then
          sx q2.1.1 0 (IntKind.i64.wrap ((q2.1.1.length : Int) - 1)) <|
          (S18 k (sub q2.1.1 0 (IntKind.i64.wrap ((q2.1.1.length : Int) - 1)))).bind fun q6 =>
          (bif !q6.1.1 then
            ap ([] : List (Int × Int × Int × Int)) q2.1.1 32 fun r7 =>
            ap r7 ([(0, 0, 0, 0)] : List (Int × Int × Int × Int)) 32 fun r8 =>
            (S18 k r8).bind fun q9 =>
            some ((!q9.1.1, ()), ())
          else
            some ((false, ()), ()))
        else
          some ((false, ()), ()))
      else
        some ((false, ()), ()))))
noncomputable def E7 : Env := tab.env (lk [(13, F13), (14, F14), (15, F15), (18, F18)]) (hintL [])
theorem E7_ok : EnvOK Try.prog E7 := envOK_of tabOK _ _ (allFn_lk (l := [(13, F13), (14, F14), (15, F15), (18, F18)]) ⟨ok13, ok14, ok15, ok18, trivial⟩)
noncomputable def B7 (k : Nat) : Tbl (RD R7 × MD P7) := .nil
noncomputable def F7 : Fn := ⟨P7, R7, fun k x => S7 k x.1⟩
theorem ok7 : FnOK Try.prog 7 F7 := evalF_ok (E := E7) (T := B7) E7_ok mix Try.func7 rfl (by kernel_rfl) (by kernel_rfl) (fun k => by kernel_rfl) (fun k x => by kernel_rfl)
/-! ### 6: 6 foliot/foliotlaw6.FormPairs -/
noncomputable abbrev P6 : List PT := [.val ⟨false, (.sl 5 (.int .u8)), false⟩]
noncomputable abbrev R6 : List RT := [.val ⟨false, .bool, true⟩]
noncomputable abbrev c6_L27 : Cut := ⟨[3, 4, 5, 6, 8, 9, 10], [.own 22 (.sl 41 (.pair (.int .i64) (.pair (.int .i64) (.pair (.int .i64) (.int .i64))))), .cell (.int .i64), .cell (.sl 41 (.pair (.int .i64) (.pair (.int .i64) (.pair (.int .i64) (.int .i64))))), .own 3 (.int .i64), .cell (.int .i64), .cell (.int .i64), .cell (.int .i64)], [], 162⟩
noncomputable def l6_27 (k : Nat) (g7 : (List (List (Int × Int × Int × Int))) → Int → Option ((Bool × Unit) × Unit)) (g16 : (List (List (Int × Int × Int × Int))) → Int → (List (Int × Int × Int × Int)) → (List Int) → Int → Int → Option ((Bool × Unit) × Unit)) (g27 : (List (List (Int × Int × Int × Int))) → Int → (List (Int × Int × Int × Int)) → (List Int) → Int → Int → Int → Option ((Bool × Unit) × Unit)) (lots3 : List (List (Int × Int × Int × Int))) (n3 : Int) (l_2 : List (Int × Int × Int × Int)) (p2 : List Int) (lets2 : Int) (i2 : Int) (k_ : Int) : Option ((Bool × Unit) × Unit) :=
  (bif decide (k_ < i2) then
    ix l_2 k_ <|
    (bif (rd l_2 k_ (0, 0, 0, 0)).1 == 9 then
      ix p2 k_ <|
      (bif decide ((rd p2 k_ 0) > i2) then
        ix p2 k_ <|
        ix p2 i2 <|
        (bif decide ((rd p2 k_ 0) < (rd p2 i2 0)) then
          some ((false, ()), ())
        else
          ix l_2 k_ <|
          ix l_2 i2 <|
          (bif (rd l_2 k_ (0, 0, 0, 0)).2.1 == (rd l_2 i2 (0, 0, 0, 0)).2.1 then
            some ((false, ()), ())
          else
            g27 lots3 n3 l_2 p2 lets2 i2 (IntKind.i64.wrap (k_ + 1))))
      else
        g27 lots3 n3 l_2 p2 lets2 i2 (IntKind.i64.wrap (k_ + 1)))
    else
      g27 lots3 n3 l_2 p2 lets2 i2 (IntKind.i64.wrap (k_ + 1)))
  else
    g16 lots3 n3 l_2 p2 lets2 (IntKind.i64.wrap (i2 + 1)))
noncomputable def b6_27 (k : Nat) (g7 : (List (List (Int × Int × Int × Int))) → Int → Option ((Bool × Unit) × Unit)) (g16 : (List (List (Int × Int × Int × Int))) → Int → (List (Int × Int × Int × Int)) → (List Int) → Int → Int → Option ((Bool × Unit) × Unit)) (g : ((Unit) × (List (List (Int × Int × Int × Int))) × Int × (List (Int × Int × Int × Int)) × (List Int) × Int × Int × Int × Unit) → Option ((Bool × Unit) × Unit)) (d : (Unit) × (List (List (Int × Int × Int × Int))) × Int × (List (Int × Int × Int × Int)) × (List Int) × Int × Int × Int × Unit) : Option ((Bool × Unit) × Unit) := l6_27 k g7 g16 (fun lots3 n3 l_2 p2 lets2 i2 k_ => g ((), lots3, n3, l_2, p2, lets2, i2, k_, ())) d.2.1 d.2.2.1 d.2.2.2.1 d.2.2.2.2.1 d.2.2.2.2.2.1 d.2.2.2.2.2.2.1 d.2.2.2.2.2.2.2.1
noncomputable def L6_27 (k : Nat) (g7 : (List (List (Int × Int × Int × Int))) → Int → Option ((Bool × Unit) × Unit)) (g16 : (List (List (Int × Int × Int × Int))) → Int → (List (Int × Int × Int × Int)) → (List Int) → Int → Int → Option ((Bool × Unit) × Unit)) (j : Nat) (lots3 : List (List (Int × Int × Int × Int))) (n3 : Int) (l_2 : List (Int × Int × Int × Int)) (p2 : List Int) (lets2 : Int) (i2 : Int) (k_ : Int) : Option ((Bool × Unit) × Unit) := iter (R := (Bool × Unit) × Unit) c6_L27 (b6_27 k g7 g16) j ((), lots3, n3, l_2, p2, lets2, i2, k_, ())
theorem L6_27_s (k : Nat) (g7 : (List (List (Int × Int × Int × Int))) → Int → Option ((Bool × Unit) × Unit)) (g16 : (List (List (Int × Int × Int × Int))) → Int → (List (Int × Int × Int × Int)) → (List Int) → Int → Int → Option ((Bool × Unit) × Unit)) (j : Nat) (lots3 : List (List (Int × Int × Int × Int))) (n3 : Int) (l_2 : List (Int × Int × Int × Int)) (p2 : List Int) (lets2 : Int) (i2 : Int) (k_ : Int) : L6_27 k g7 g16 (j + 1) lots3 n3 l_2 p2 lets2 i2 k_ = l6_27 k g7 g16 (L6_27 k g7 g16 j) lots3 n3 l_2 p2 lets2 i2 k_ := iter_succ _ _ _ _
noncomputable abbrev c6_J20 : Cut := ⟨[3, 4, 5, 6, 8, 9], [.own 22 (.sl 41 (.pair (.int .i64) (.pair (.int .i64) (.pair (.int .i64) (.int .i64))))), .cell (.int .i64), .cell (.sl 41 (.pair (.int .i64) (.pair (.int .i64) (.pair (.int .i64) (.int .i64))))), .own 3 (.int .i64), .cell (.int .i64), .cell (.int .i64)], [], 162⟩
noncomputable def j6_20 (k : Nat) (g7 : (List (List (Int × Int × Int × Int))) → Int → Option ((Bool × Unit) × Unit)) (g16 : (List (List (Int × Int × Int × Int))) → Int → (List (Int × Int × Int × Int)) → (List Int) → Int → Int → Option ((Bool × Unit) × Unit)) (lots2 : List (List (Int × Int × Int × Int))) (n2 : Int) (l_1 : List (Int × Int × Int × Int)) (p1 : List Int) (lets1 : Int) (i1 : Int) : Option ((Bool × Unit) × Unit) :=
  ix l_1 i1 <|
  (bif (rd l_1 i1 (0, 0, 0, 0)).1 != 9 then
    ix p1 i1 <|
    (bif (rd p1 i1 0) != 0 then
      some ((false, ()), ())
    else
      g16 lots2 n2 l_1 p1 lets1 (IntKind.i64.wrap (i1 + 1)))
  else
    ix p1 i1 <|
    (bif decide ((rd p1 i1 0) ≤ i1) then
      some ((false, ()), ())
    else
      ix p1 i1 <|
      (bif decide ((rd p1 i1 0) ≥ (l_1.length : Int)) then
        some ((false, ()), ())
      else
        ix p1 i1 <|
        ix l_1 (rd p1 i1 0) <|
        (bif (rd l_1 (rd p1 i1 0) (0, 0, 0, 0)).1 != 10 then
          some ((false, ()), ())
        else
          ix p1 i1 <|
          ix l_1 (rd p1 i1 0) <|
          ix l_1 i1 <|
          (bif (rd l_1 (rd p1 i1 0) (0, 0, 0, 0)).2.1 != (rd l_1 i1 (0, 0, 0, 0)).2.1 then
            some ((false, ()), ())
          else
            L6_27 k g7 g16 k lots2 n2 l_1 p1 (IntKind.i64.wrap (lets1 - 1)) i1 0)))))
noncomputable abbrev c6_L16 : Cut := ⟨[3, 4, 5, 6, 8, 9], [.own 22 (.sl 41 (.pair (.int .i64) (.pair (.int .i64) (.pair (.int .i64) (.int .i64))))), .cell (.int .i64), .cell (.sl 41 (.pair (.int .i64) (.pair (.int .i64) (.pair (.int .i64) (.int .i64))))), .own 3 (.int .i64), .cell (.int .i64), .cell (.int .i64)], [], 162⟩
noncomputable def l6_16 (k : Nat) (g7 : (List (List (Int × Int × Int × Int))) → Int → Option ((Bool × Unit) × Unit)) (g16 : (List (List (Int × Int × Int × Int))) → Int → (List (Int × Int × Int × Int)) → (List Int) → Int → Int → Option ((Bool × Unit) × Unit)) (lots1 : List (List (Int × Int × Int × Int))) (n1 : Int) (l_ : List (Int × Int × Int × Int)) (p : List Int) (lets : Int) (i : Int) : Option ((Bool × Unit) × Unit) :=
  (bif decide (i < (l_.length : Int)) then
    ix l_ i <|
    (bif (rd l_ i (0, 0, 0, 0)).1 == 10 then
      j6_20 k g7 g16 lots1 n1 l_ p (IntKind.i64.wrap (lets + 1)) i
    else
      j6_20 k g7 g16 lots1 n1 l_ p lets i)
  else
    (bif lets != 0 then
      some ((false, ()), ())
    else
      g7 lots1 (IntKind.i64.wrap (n1 + 1))))
noncomputable def b6_16 (k : Nat) (g7 : (List (List (Int × Int × Int × Int))) → Int → Option ((Bool × Unit) × Unit)) (g : ((Unit) × (List (List (Int × Int × Int × Int))) × Int × (List (Int × Int × Int × Int)) × (List Int) × Int × Int × Unit) → Option ((Bool × Unit) × Unit)) (d : (Unit) × (List (List (Int × Int × Int × Int))) × Int × (List (Int × Int × Int × Int)) × (List Int) × Int × Int × Unit) : Option ((Bool × Unit) × Unit) := l6_16 k g7 (fun lots1 n1 l_ p lets i => g ((), lots1, n1, l_, p, lets, i, ())) d.2.1 d.2.2.1 d.2.2.2.1 d.2.2.2.2.1 d.2.2.2.2.2.1 d.2.2.2.2.2.2.1
noncomputable def L6_16 (k : Nat) (g7 : (List (List (Int × Int × Int × Int))) → Int → Option ((Bool × Unit) × Unit)) (j : Nat) (lots1 : List (List (Int × Int × Int × Int))) (n1 : Int) (l_ : List (Int × Int × Int × Int)) (p : List Int) (lets : Int) (i : Int) : Option ((Bool × Unit) × Unit) := iter (R := (Bool × Unit) × Unit) c6_L16 (b6_16 k g7) j ((), lots1, n1, l_, p, lets, i, ())
theorem L6_16_s (k : Nat) (g7 : (List (List (Int × Int × Int × Int))) → Int → Option ((Bool × Unit) × Unit)) (j : Nat) (lots1 : List (List (Int × Int × Int × Int))) (n1 : Int) (l_ : List (Int × Int × Int × Int)) (p : List Int) (lets : Int) (i : Int) : L6_16 k g7 (j + 1) lots1 n1 l_ p lets i = l6_16 k g7 (L6_16 k g7 j) lots1 n1 l_ p lets i := iter_succ _ _ _ _
noncomputable abbrev c6_L7 : Cut := ⟨[3, 4], [.own 22 (.sl 41 (.pair (.int .i64) (.pair (.int .i64) (.pair (.int .i64) (.int .i64))))), .cell (.int .i64)], [], 162⟩
noncomputable def l6_7 (k : Nat) (g7 : (List (List (Int × Int × Int × Int))) → Int → Option ((Bool × Unit) × Unit)) (lots : List (List (Int × Int × Int × Int))) (n : Int) : Option ((Bool × Unit) × Unit) :=
  (bif decide (n < 2) then
    ix lots n <|
    (S18 k (rd lots n [])).bind fun q5 =>
    (bif !q5.1.1 then
      g7 lots (IntKind.i64.wrap (n + 1))
    else
      (S19 k (rd lots n [])).bind fun q6 =>
      (bif !q6.1.2.1 then
        some ((false, ()), ())
      else
        (bif (q6.1.1.length : Int) != ((rd lots n []).length : Int) then
          some ((false, ()), ())
        else
          L6_16 k g7 k lots n (rd lots n []) q6.1.1 0 0)))
  else
    some ((true, ()), ()))
noncomputable def b6_7 (k : Nat) (g : ((Unit) × (List (List (Int × Int × Int × Int))) × Int × Unit) → Option ((Bool × Unit) × Unit)) (d : (Unit) × (List (List (Int × Int × Int × Int))) × Int × Unit) : Option ((Bool × Unit) × Unit) := l6_7 k (fun lots n => g ((), lots, n, ())) d.2.1 d.2.2.1
noncomputable def L6_7 (k : Nat) (j : Nat) (lots : List (List (Int × Int × Int × Int))) (n : Int) : Option ((Bool × Unit) × Unit) := iter (R := (Bool × Unit) × Unit) c6_L7 (b6_7 k) j ((), lots, n, ())
theorem L6_7_s (k : Nat) (j : Nat) (lots : List (List (Int × Int × Int × Int))) (n : Int) : L6_7 k (j + 1) lots n = l6_7 k (L6_7 k j) lots n := iter_succ _ _ _ _
noncomputable def S6 (k : Nat) (picks : List Int) : Option ((Bool × Unit) × Unit) :=
  (S13 k).bind fun q0 =>
  (bif !q0.1.1 then
    some ((false, ()), ())
  else
    (bif decide ((picks.length : Int) > 80) then
      some ((true, ()), ())
    else
      (S14 k picks).bind fun q1 =>
      (S15 k q1.1.1.1 q1.1.1.2.1 3).bind fun q2 =>
      (S14 k picks).bind fun q3 =>
      (S16 k q3.1.1.1 q3.1.1.2.1).bind fun q4 =>
      L6_7 k k ([q2.1.1, q4.1.1] : List (List (Int × Int × Int × Int))) 0))
noncomputable def E6 : Env := tab.env (lk [(13, F13), (14, F14), (15, F15), (16, F16), (18, F18), (19, F19)]) (hintL [])
theorem E6_ok : EnvOK Try.prog E6 := envOK_of tabOK _ _ (allFn_lk (l := [(13, F13), (14, F14), (15, F15), (16, F16), (18, F18), (19, F19)]) ⟨ok13, ok14, ok15, ok16, ok18, ok19, trivial⟩)
noncomputable def B6 (k : Nat) : Tbl (RD R6 × MD P6) := (.loop 7 c6_L7 (b6_7 k) (fun g => (fun (g7 : (List (List (Int × Int × Int × Int))) → Int → Option ((Bool × Unit) × Unit)) => (.loop 16 c6_L16 (b6_16 k g7) (fun g => (fun (g16 : (List (List (Int × Int × Int × Int))) → Int → (List (Int × Int × Int × Int)) → (List Int) → Int → Int → Option ((Bool × Unit) × Unit)) => (.loop 27 c6_L27 (b6_27 k g7 g16) (fun g => .nil) (.join 20 c6_J20 (fun d => j6_20 k g7 g16 d.2.1 d.2.2.1 d.2.2.2.1 d.2.2.2.2.1 d.2.2.2.2.2.1 d.2.2.2.2.2.2.1) .nil))) (fun lots1 n1 l_ p lets i => g ((), lots1, n1, l_, p, lets, i, ()))) .nil)) (fun lots n => g ((), lots, n, ()))) .nil)
noncomputable def F6 : Fn := ⟨P6, R6, fun k x => S6 k x.1⟩
theorem ok6 : FnOK Try.prog 6 F6 := evalF_ok (E := E6) (T := B6) E6_ok mix Try.func6 rfl (by kernel_rfl) (by kernel_rfl) (fun k => by kernel_rfl) (fun k x => by kernel_rfl)
/-! ### 21: 21 foliot/foliotref1.NewMachine -/
noncomputable abbrev P21 : List PT := [.val ⟨false, (.int .i64), false⟩]
noncomputable abbrev R21 : List RT := [.val ⟨true, (.pair (.int .i64) (.pair (arrT 8 (.int .i64)) (.pair (.sl 82 (.pair (.int .i64) (.pair (.int .i64) (.int .i64)))) .bool))), true⟩]
noncomputable def S21 (k : Nat) (in_ : Int) : Option (((Int × (PN Int 8) × (List (Int × Int × Int)) × Bool) × Unit) × Unit) :=
  some (((0, (in_, 0, 0, 0, 0, 0, 0, 0), [], false), ()), ())
noncomputable def E21 : Env := tab.env (lk []) (hintL [])
theorem E21_ok : EnvOK Try.prog E21 := envOK_of tabOK _ _ (fun f F h => by cases h)
noncomputable def B21 (k : Nat) : Tbl (RD R21 × MD P21) := .nil
noncomputable def F21 : Fn := ⟨P21, R21, fun k x => S21 k x.1⟩
theorem ok21 : FnOK Try.prog 21 F21 := evalF_ok (E := E21) (T := B21) E21_ok mix Try.func21 rfl (by kernel_rfl) (by kernel_rfl) (fun k => by kernel_rfl) (fun k x => by kernel_rfl)
/-! ### 46: 46 foliot/foliotref1.Shift -/
noncomputable abbrev P46 : List PT := [.val ⟨false, (.int .i64), false⟩, .val ⟨false, (.int .i64), false⟩]
noncomputable abbrev R46 : List RT := [.val ⟨false, (.int .i64), true⟩]
noncomputable abbrev c46_L6 : Cut := ⟨[0, 1], [.cell (.int .i64), .cell (.int .i64)], [], 35⟩
noncomputable def l46_6 (k : Nat) (g6 : Int → Int → Option ((Int × Unit) × Unit)) (v2 : Int) (n2 : Int) : Option ((Int × Unit) × Unit) :=
  (bif decide (n2 < 0) then
    (bif decide (v2 < 0) then
      (bif (Int.tmod v2 2) != 0 then
        g6 (IntKind.i64.wrap ((IntKind.i64.wrap (Int.tdiv v2 2)) - 1)) (IntKind.i64.wrap (n2 + 1))
      else
        g6 (IntKind.i64.wrap (Int.tdiv v2 2)) (IntKind.i64.wrap (n2 + 1)))
    else
      g6 (IntKind.i64.wrap (Int.tdiv v2 2)) (IntKind.i64.wrap (n2 + 1)))
  else
    some ((v2, ()), ()))
noncomputable def b46_6 (k : Nat) (g : ((Unit) × Int × Int × Unit) → Option ((Int × Unit) × Unit)) (d : (Unit) × Int × Int × Unit) : Option ((Int × Unit) × Unit) := l46_6 k (fun v2 n2 => g ((), v2, n2, ())) d.2.1 d.2.2.1
noncomputable def L46_6 (k : Nat) (j : Nat) (v2 : Int) (n2 : Int) : Option ((Int × Unit) × Unit) := iter (R := (Int × Unit) × Unit) c46_L6 (b46_6 k) j ((), v2, n2, ())
theorem L46_6_s (k : Nat) (j : Nat) (v2 : Int) (n2 : Int) : L46_6 k (j + 1) v2 n2 = l46_6 k (L46_6 k j) v2 n2 := iter_succ _ _ _ _
noncomputable abbrev c46_L3 : Cut := ⟨[0, 1], [.cell (.int .i64), .cell (.int .i64)], [], 35⟩
noncomputable def l46_3 (k : Nat) (g3 : Int → Int → Option ((Int × Unit) × Unit)) (v1 : Int) (n1 : Int) : Option ((Int × Unit) × Unit) :=
  (bif decide (n1 > 0) then
    g3 (IntKind.i64.wrap (v1 * 2)) (IntKind.i64.wrap (n1 - 1))
  else
    L46_6 k k v1 n1)
noncomputable def b46_3 (k : Nat) (g : ((Unit) × Int × Int × Unit) → Option ((Int × Unit) × Unit)) (d : (Unit) × Int × Int × Unit) : Option ((Int × Unit) × Unit) := l46_3 k (fun v1 n1 => g ((), v1, n1, ())) d.2.1 d.2.2.1
noncomputable def L46_3 (k : Nat) (j : Nat) (v1 : Int) (n1 : Int) : Option ((Int × Unit) × Unit) := iter (R := (Int × Unit) × Unit) c46_L3 (b46_3 k) j ((), v1, n1, ())
theorem L46_3_s (k : Nat) (j : Nat) (v1 : Int) (n1 : Int) : L46_3 k (j + 1) v1 n1 = l46_3 k (L46_3 k j) v1 n1 := iter_succ _ _ _ _
noncomputable def S46 (k : Nat) (v : Int) (n : Int) : Option ((Int × Unit) × Unit) :=
  (bif decide (n < (-63)) then
    some ((v, ()), ())
  else
    (bif decide (n > 63) then
      some ((v, ()), ())
    else
      L46_3 k k v n))
noncomputable def E46 : Env := tab.env (lk []) (hintL [])
theorem E46_ok : EnvOK Try.prog E46 := envOK_of tabOK _ _ (fun f F h => by cases h)
noncomputable def B46 (k : Nat) : Tbl (RD R46 × MD P46) := (.loop 6 c46_L6 (b46_6 k) (fun g => .nil) (.loop 3 c46_L3 (b46_3 k) (fun g => .nil) .nil))
noncomputable def F46 : Fn := ⟨P46, R46, fun k x => S46 k x.1 x.2.1⟩
theorem ok46 : FnOK Try.prog 46 F46 := evalF_ok (E := E46) (T := B46) E46_ok mix Try.func46 rfl (by kernel_rfl) (by kernel_rfl) (fun k => by kernel_rfl) (fun k x => by kernel_rfl)
/-! ### 60: 60 foliot/foliotref1.bit -/
noncomputable abbrev P60 : List PT := [.val ⟨false, (.int .i64), false⟩]
noncomputable abbrev R60 : List RT := [.val ⟨false, (.int .u64), true⟩]
noncomputable abbrev c60_L2 : Cut := ⟨[0, 3], [.cell (.int .i64), .cell (.int .u64)], [], 11⟩
noncomputable def l60_2 (k : Nat) (g2 : Int → Int → Option ((Int × Unit) × Unit)) (i1 : Int) (v : Int) : Option ((Int × Unit) × Unit) :=
  (bif decide (i1 > 0) then
    g2 (IntKind.i64.wrap (i1 - 1)) (IntKind.u64.wrap (2 * v))
  else
    some ((v, ()), ()))
noncomputable def b60_2 (k : Nat) (g : ((Unit) × Int × Int × Unit) → Option ((Int × Unit) × Unit)) (d : (Unit) × Int × Int × Unit) : Option ((Int × Unit) × Unit) := l60_2 k (fun i1 v => g ((), i1, v, ())) d.2.1 d.2.2.1
noncomputable def L60_2 (k : Nat) (j : Nat) (i1 : Int) (v : Int) : Option ((Int × Unit) × Unit) := iter (R := (Int × Unit) × Unit) c60_L2 (b60_2 k) j ((), i1, v, ())
theorem L60_2_s (k : Nat) (j : Nat) (i1 : Int) (v : Int) : L60_2 k (j + 1) i1 v = l60_2 k (L60_2 k j) i1 v := iter_succ _ _ _ _
noncomputable def S60 (k : Nat) (i : Int) : Option ((Int × Unit) × Unit) :=
  L60_2 k k i 1
noncomputable def E60 : Env := tab.env (lk []) (hintL [])
theorem E60_ok : EnvOK Try.prog E60 := envOK_of tabOK _ _ (fun f F h => by cases h)
noncomputable def B60 (k : Nat) : Tbl (RD R60 × MD P60) := (.loop 2 c60_L2 (b60_2 k) (fun g => .nil) .nil)
noncomputable def F60 : Fn := ⟨P60, R60, fun k x => S60 k x.1⟩
theorem ok60 : FnOK Try.prog 60 F60 := evalF_ok (E := E60) (T := B60) E60_ok mix Try.func60 rfl (by kernel_rfl) (by kernel_rfl) (fun k => by kernel_rfl) (fun k x => by kernel_rfl)
/-! ### 47: 47 foliot/foliotref1.Narrow -/
noncomputable abbrev P47 : List PT := [.val ⟨false, (.int .i64), false⟩, .val ⟨false, (.int .i64), false⟩]
noncomputable abbrev R47 : List RT := [.val ⟨false, (.int .i64), true⟩]
noncomputable def S47 (k : Nat) (v : Int) (n : Int) : Option ((Int × Unit) × Unit) :=
  (bif decide (n < 1) then
    some ((v, ()), ())
  else
    (bif decide (n > 63) then
      some ((v, ()), ())
    else
      (S60 k n).bind fun q0 =>
      nz q0.1.1 <|
      (S60 k (IntKind.i64.wrap (n - 1))).bind fun q1 =>
      (bif decide ((Int.tmod (IntKind.u64.wrap v) q0.1.1) ≥ q1.1.1) then
        (S60 k n).bind fun q2 =>
        some ((IntKind.i64.wrap (0 - (IntKind.i64.wrap (IntKind.u64.wrap (q2.1.1 - (Int.tmod (IntKind.u64.wrap v) q0.1.1))))), ()), ())
      else
        some ((IntKind.i64.wrap (Int.tmod (IntKind.u64.wrap v) q0.1.1), ()), ()))))
noncomputable def E47 : Env := tab.env (lk [(60, F60)]) (hintL [])
theorem E47_ok : EnvOK Try.prog E47 := envOK_of tabOK _ _ (allFn_lk (l := [(60, F60)]) ⟨ok60, trivial⟩)
noncomputable def B47 (k : Nat) : Tbl (RD R47 × MD P47) := .nil
noncomputable def F47 : Fn := ⟨P47, R47, fun k x => S47 k x.1 x.2.1⟩
theorem ok47 : FnOK Try.prog 47 F47 := evalF_ok (E := E47) (T := B47) E47_ok mix Try.func47 rfl (by kernel_rfl) (by kernel_rfl) (fun k => by kernel_rfl) (fun k x => by kernel_rfl)
end Go.Proofs.Ytjnnjciedbgmiaa.Ab
