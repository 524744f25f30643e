import Derived.Test.YthmicjldfdadjaaAbL2
/- Contracts, printed by this session's own program gen.py. -/
set_option linter.unusedVariables false
set_option linter.unusedSimpArgs false
set_option maxRecDepth 100000
namespace Go.Proofs.Ythmicjldfdadjaa.Ab
open Go.RowKit Go.Proofs.YthmicjldfdadjaaW.PrintWords
abbrev Y3_0 : Type := Int × Int × Int × Int
abbrev Y3_1 : Ty := .sl 42 (.pair (.int .i64) (.pair (.int .i64) (.pair (.int .i64) (.int .i64))))
abbrev Y3_2 : Type := Int × Int × Int × Bool
abbrev Y3_3 : Type := (List Y3_0) → Int → Int → Int → Int → (List (Int × Int)) → (List Int) → (List Int) → Int → Int → Option (((Int × Int × List (Int × Int)) × Bool × Unit) × Unit)
abbrev Y3_4 : Type := (List Y3_0) → (List Int) → (List Int) → (List Y3_2) → Int → Option (((List Int) × Bool × Unit) × Unit)
abbrev Y3_5 : Type := (Bool × Unit) × Unit
abbrev Y3_6 : Type := Int × Int × Int × (List Y3_0) × (List Y3_0) × List Y3_0
abbrev Y3_7 : Ty := .pair (.int .i64) (.pair (.int .i64) (.pair (.int .i64) .bool))
abbrev Y3_8 : Type := ((Int × Int × List (Int × Int)) × Bool × Unit) × Unit
abbrev Y3_9 : Type := ((List Int) × Bool × Unit) × Unit
abbrev Y3_10 : Type := (List Y3_0) → (List Int) → (List Y3_2) → Int → Option (((List Int) × Unit) × Unit)
abbrev Y3_11 : Type := (List Y3_0) → (List Y3_2) → Int → Option Y3_5
abbrev Y3_12 : Type := (List Y3_0) → (List Y3_2) → (List Int) → Int → Option Y3_5
abbrev Y3_13 : Type := ((List Int) × Unit) × Unit
abbrev Y3_14 : Ty := .pair (.int .i64) (.pair (.int .i64) (.pair (.int .i64) (.pair Y3_1 (.pair Y3_1 Y3_1))))
abbrev Y3_15 : Type := (List Y3_0) → (List Y3_2) → Int → Int → Option Y3_5
abbrev Y3_16 : Type := ((List Y3_6) × Unit) × Unit
abbrev Y3_17 : Type := Int × Int × (List (Int × Int)) × Unit
abbrev Y3_18 : Type := (Int × Unit) × Unit
noncomputable abbrev P52 : List PT := [.val ⟨false, Y3_1, false⟩]
noncomputable abbrev R52 : List RT := [.val ⟨false, (.sl 3 (.int .i64)), true⟩, .val ⟨false, .bool, true⟩]
noncomputable abbrev c52_L10 : Cut := ⟨[0, 4, 5, 6, 7, 8], [.cell Y3_1, .own 3 (.int .i64), .own 3 (.int .i64), .own 105 Y3_7, .cell (.int .i64), .cell (.int .i64)], [], 117⟩
noncomputable def l52_10 (k : Nat) (g5 : Y3_4) (g10 : (List Y3_0) → (List Int) → (List Int) → (List Y3_2) → Int → Int → Option Y3_9) (l_2 : List Y3_0) (out1 : List Int) (open_1 : List Int) (a1 : List Y3_2) (i1 : Int) (k_ : Int) : Option Y3_9 :=
 (bif decide (k_ < (open_1.length : Int)) then
  ix open_1 k_ <|
  ix l_2 (rd open_1 k_ 0) <|
  ix l_2 i1 <|
  (bif (rd l_2 (rd open_1 k_ 0) (0, 0, 0, 0)).2.1 == (rd l_2 i1 (0, 0, 0, 0)).2.1 then
   some (([], false, ()), ())
  else
   g10 l_2 out1 open_1 a1 i1 (IntKind.i64.wrap (k_ + 1)))
 else
  ap open_1 ([i1] : List Int) 8 fun r1 =>
  (bif decide ((r1.length : Int) > 2) then
   some (([], false, ()), ())
  else
   g5 l_2 out1 r1 a1 (IntKind.i64.wrap (i1 + 1))))
noncomputable def b52_10 (k : Nat) (g5 : Y3_4) (g : ((Unit) × (List Y3_0) × (List Int) × (List Int) × (List Y3_2) × Int × Int × Unit) → Option Y3_9) (d : (Unit) × (List Y3_0) × (List Int) × (List Int) × (List Y3_2) × Int × Int × Unit) : Option Y3_9 := l52_10 k g5 (fun l_2 out1 open_1 a1 i1 k_ => g ((), l_2, out1, open_1, a1, i1, k_, ())) d.2.1 d.2.2.1 d.2.2.2.1 d.2.2.2.2.1 d.2.2.2.2.2.1 d.2.2.2.2.2.2.1
noncomputable def L52_10 (k : Nat) (g5 : Y3_4) (j : Nat) (l_2 : List Y3_0) (out1 : List Int) (open_1 : List Int) (a1 : List Y3_2) (i1 : Int) (k_ : Int) : Option Y3_9 := iter (R := ((List Int) × Bool × Unit) × Unit) c52_L10 (b52_10 k g5) j ((), l_2, out1, open_1, a1, i1, k_, ())
theorem L52_10_s (k : Nat) (g5 : Y3_4) (j : Nat) (l_2 : List Y3_0) (out1 : List Int) (open_1 : List Int) (a1 : List Y3_2) (i1 : Int) (k_ : Int) : L52_10 k g5 (j + 1) l_2 out1 open_1 a1 i1 k_ = l52_10 k g5 (L52_10 k g5 j) l_2 out1 open_1 a1 i1 k_ := iter_succ _ _ _ _
noncomputable abbrev c52_L23 : Cut := ⟨[0, 4, 5, 6, 7, 9, 10], [.cell Y3_1, .own 3 (.int .i64), .own 3 (.int .i64), .own 105 Y3_7, .cell (.int .i64), .cell (.int .i64), .cell (.int .i64)], [], 117⟩
noncomputable def l52_23 (k : Nat) (g5 : Y3_4) (g23 : (List Y3_0) → (List Int) → (List Int) → (List Y3_2) → Int → Int → Int → Option Y3_9) (l_3 : List Y3_0) (out2 : List Int) (open_2 : List Int) (a2 : List Y3_2) (i2 : Int) (k_1 : Int) (n : Int) : Option Y3_9 :=
 (bif decide (n < (a2.length : Int)) then
  ix a2 n <|
  (S70 k (rd a2 n (0, 0, 0, false)) k_1).bind fun q2 =>
  ix a2 n <|
  (S70 k (rd a2 n (0, 0, 0, false)) i2).bind fun q3 =>
  (bif !(q2.1.1 == q3.1.1) then
   some (([], false, ()), ())
  else
   g23 l_3 out2 open_2 a2 i2 k_1 (IntKind.i64.wrap (n + 1)))
 else
  ix out2 k_1 <|
  g5 l_3 (upd out2 k_1 i2) open_2 a2 (IntKind.i64.wrap (i2 + 1)))
noncomputable def b52_23 (k : Nat) (g5 : Y3_4) (g : ((Unit) × (List Y3_0) × (List Int) × (List Int) × (List Y3_2) × Int × Int × Int × Unit) → Option Y3_9) (d : (Unit) × (List Y3_0) × (List Int) × (List Int) × (List Y3_2) × Int × Int × Int × Unit) : Option Y3_9 := l52_23 k g5 (fun l_3 out2 open_2 a2 i2 k_1 n => g ((), l_3, out2, open_2, a2, i2, k_1, n, ())) d.2.1 d.2.2.1 d.2.2.2.1 d.2.2.2.2.1 d.2.2.2.2.2.1 d.2.2.2.2.2.2.1 d.2.2.2.2.2.2.2.1
noncomputable def L52_23 (k : Nat) (g5 : Y3_4) (j : Nat) (l_3 : List Y3_0) (out2 : List Int) (open_2 : List Int) (a2 : List Y3_2) (i2 : Int) (k_1 : Int) (n : Int) : Option Y3_9 := iter (R := ((List Int) × Bool × Unit) × Unit) c52_L23 (b52_23 k g5) j ((), l_3, out2, open_2, a2, i2, k_1, n, ())
theorem L52_23_s (k : Nat) (g5 : Y3_4) (j : Nat) (l_3 : List Y3_0) (out2 : List Int) (open_2 : List Int) (a2 : List Y3_2) (i2 : Int) (k_1 : Int) (n : Int) : L52_23 k g5 (j + 1) l_3 out2 open_2 a2 i2 k_1 n = l52_23 k g5 (L52_23 k g5 j) l_3 out2 open_2 a2 i2 k_1 n := iter_succ _ _ _ _
noncomputable abbrev c52_L5 : Cut := ⟨[0, 4, 5, 6, 7], [.cell Y3_1, .own 3 (.int .i64), .own 3 (.int .i64), .own 105 Y3_7, .cell (.int .i64)], [], 117⟩
noncomputable def l52_5 (k : Nat) (g5 : Y3_4) (l_1 : List Y3_0) (out : List Int) (open_ : List Int) (a : List Y3_2) (i : Int) : Option Y3_9 :=
 (bif decide (i < (l_1.length : Int)) then
  ix l_1 i <|
  (bif (rd l_1 i (0, 0, 0, 0)).1 == 9 then
   L52_10 k g5 k l_1 out open_ a i 0
  else
   (bif (rd l_1 i (0, 0, 0, 0)).1 == 10 then
    (bif (open_.length : Int) == 0 then
     some (([], false, ()), ())
    else
     ix open_ (IntKind.i64.wrap ((open_.length : Int) - 1)) <|
     ix l_1 (rd open_ (IntKind.i64.wrap ((open_.length : Int) - 1)) 0) <|
     ix l_1 i <|
     (bif (rd l_1 (rd open_ (IntKind.i64.wrap ((open_.length : Int) - 1)) 0) (0, 0, 0, 0)).2.1 != (rd l_1 i (0, 0, 0, 0)).2.1 then
      some (([], false, ()), ())
     else
      ix open_ (IntKind.i64.wrap ((open_.length : Int) - 1)) <|
      sx open_ 0 (IntKind.i64.wrap ((open_.length : Int) - 1)) <|
      L52_23 k g5 k l_1 out (open_.take (IntKind.i64.wrap ((open_.length : Int) - 1)).toNat) a i (rd open_ (IntKind.i64.wrap ((open_.length : Int) - 1)) 0) 0))
   else
    g5 l_1 out open_ a (IntKind.i64.wrap (i + 1))))
 else
  (bif decide ((open_.length : Int) > 0) then
   some (([], false, ()), ())
  else
   some ((out, true, ()), ())))
noncomputable def b52_5 (k : Nat) (g : ((Unit) × (List Y3_0) × (List Int) × (List Int) × (List Y3_2) × Int × Unit) → Option Y3_9) (d : (Unit) × (List Y3_0) × (List Int) × (List Int) × (List Y3_2) × Int × Unit) : Option Y3_9 := l52_5 k (fun l_1 out open_ a i => g ((), l_1, out, open_, a, i, ())) d.2.1 d.2.2.1 d.2.2.2.1 d.2.2.2.2.1 d.2.2.2.2.2.1
noncomputable def L52_5 (k : Nat) (j : Nat) (l_1 : List Y3_0) (out : List Int) (open_ : List Int) (a : List Y3_2) (i : Int) : Option Y3_9 := iter (R := ((List Int) × Bool × Unit) × Unit) c52_L5 (b52_5 k) j ((), l_1, out, open_, a, i, ())
theorem L52_5_s (k : Nat) (j : Nat) (l_1 : List Y3_0) (out : List Int) (open_ : List Int) (a : List Y3_2) (i : Int) : L52_5 k (j + 1) l_1 out open_ a i = l52_5 k (L52_5 k j) l_1 out open_ a i := iter_succ _ _ _ _
noncomputable def S52 (k : Nat) (l_ : List Y3_0) : Option Y3_9 :=
 mk (l_.length : Int) (l_.length : Int) 8 <|
 (S69 k l_).bind fun q0 =>
 L52_5 k k l_ (List.replicate (l_.length : Int).toNat (0 : Int)) ([] : List Int) q0.1.1 0
noncomputable def E52 : Env := tab.env (lk [(69, F69), (70, F70)]) (hintL [(5, 2), (89, 1)])
theorem E52_ok : EnvOK Try.prog E52 := envOK_of tabOK _ _ (allFn_lk (l := [(69, F69), (70, F70)]) ⟨ok69, ok70, trivial⟩)
noncomputable def B52 (k : Nat) : Tbl (RD R52 × MD P52) := (.loop 5 c52_L5 (b52_5 k) (fun g => (fun (g5 : Y3_4) => (.loop 10 c52_L10 (b52_10 k g5) (fun g => .nil) (.loop 23 c52_L23 (b52_23 k g5) (fun g => .nil) .nil))) (fun l_1 out open_ a i => g ((), l_1, out, open_, a, i, ()))) .nil)
noncomputable def F52 : Fn := ⟨P52, R52, fun k x => S52 k x.1⟩
theorem ok52 : FnOK Try.prog 52 F52 := evalF_ok (E := E52) (T := B52) E52_ok mix Try.func52 rfl (by kernel_rfl) (by kernel_rfl) (fun k => by kernel_rfl) (fun k x => by kernel_rfl)
noncomputable abbrev P71 : List PT := [.val ⟨false, Y3_1, false⟩, .val ⟨false, (.sl 3 (.int .i64)), false⟩, .val ⟨false, (.int .i64), false⟩]
noncomputable abbrev R71 : List RT := [.val ⟨false, (.int .i64), true⟩]
noncomputable abbrev c71_L3 : Cut := ⟨[0, 1, 2, 7, 8], [.cell Y3_1, .cell (.sl 3 (.int .i64)), .cell (.int .i64), .cell (.int .i64), .cell (.int .i64)], [], 37⟩
noncomputable def l71_3 (k : Nat) (g3 : (List Y3_0) → (List Int) → Int → Int → Int → Option Y3_18) (l_1 : List Y3_0) (pairs1 : List Int) (i1 : Int) (n : Int) (k_ : Int) : Option Y3_18 :=
 (bif decide (k_ < (l_1.length : Int)) then
  ix l_1 k_ <|
  (bif (rd l_1 k_ (0, 0, 0, 0)).1 == 9 then
   (bif decide (k_ < i1) then
    ix pairs1 k_ <|
    (bif decide (i1 < (rd pairs1 k_ 0)) then
     g3 l_1 pairs1 i1 (IntKind.i64.wrap (n + 1)) (IntKind.i64.wrap (k_ + 1))
    else
     g3 l_1 pairs1 i1 n (IntKind.i64.wrap (k_ + 1)))
   else
    g3 l_1 pairs1 i1 n (IntKind.i64.wrap (k_ + 1)))
  else
   g3 l_1 pairs1 i1 n (IntKind.i64.wrap (k_ + 1)))
 else
  some ((n, ()), ()))
noncomputable def b71_3 (k : Nat) (g : ((Unit) × (List Y3_0) × (List Int) × Int × Int × Int × Unit) → Option Y3_18) (d : (Unit) × (List Y3_0) × (List Int) × Int × Int × Int × Unit) : Option Y3_18 := l71_3 k (fun l_1 pairs1 i1 n k_ => g ((), l_1, pairs1, i1, n, k_, ())) d.2.1 d.2.2.1 d.2.2.2.1 d.2.2.2.2.1 d.2.2.2.2.2.1
noncomputable def L71_3 (k : Nat) (j : Nat) (l_1 : List Y3_0) (pairs1 : List Int) (i1 : Int) (n : Int) (k_ : Int) : Option Y3_18 := iter (R := (Int × Unit) × Unit) c71_L3 (b71_3 k) j ((), l_1, pairs1, i1, n, k_, ())
theorem L71_3_s (k : Nat) (j : Nat) (l_1 : List Y3_0) (pairs1 : List Int) (i1 : Int) (n : Int) (k_ : Int) : L71_3 k (j + 1) l_1 pairs1 i1 n k_ = l71_3 k (L71_3 k j) l_1 pairs1 i1 n k_ := iter_succ _ _ _ _
noncomputable def S71 (k : Nat) (l_ : List Y3_0) (pairs : List Int) (i : Int) : Option Y3_18 :=
 L71_3 k k l_ pairs i 0 0
noncomputable def E71 : Env := tab.env (lk []) (hintL [])
theorem E71_ok : EnvOK Try.prog E71 := envOK_of tabOK _ _ (fun f F h => by cases h)
noncomputable def B71 (k : Nat) : Tbl (RD R71 × MD P71) := (.loop 3 c71_L3 (b71_3 k) (fun g => .nil) .nil)
noncomputable def F71 : Fn := ⟨P71, R71, fun k x => S71 k x.1 x.2.1 x.2.2.1⟩
theorem ok71 : FnOK Try.prog 71 F71 := evalF_ok (E := E71) (T := B71) E71_ok mix Try.func71 rfl (by kernel_rfl) (by kernel_rfl) (fun k => by kernel_rfl) (fun k x => by kernel_rfl)
noncomputable abbrev P50 : List PT := [.val ⟨false, Y3_1, false⟩]
noncomputable abbrev R50 : List RT := [.val ⟨false, .bool, true⟩]
noncomputable abbrev c50_J20 : Cut := ⟨[0, 4, 5, 6, 7, 8], [.cell Y3_1, .own 105 Y3_7, .cell (.int .i64), .cell (.int .i64), .cell .bool, .cell .bool], [], 235⟩
noncomputable def j50_20 (k : Nat) (g10 : Y3_11) (g15 : Y3_15) (l_5 : List Y3_0) (a3 : List Y3_2) (i4 : Int) (k_2 : Int) (apart1 : Bool) (in_ : Bool) : Option Y3_5 :=
 (bif !apart1 then
  (bif !in_ then
   some ((false, ()), ())
  else
   ix a3 i4 <|
   ix a3 k_2 <|
   (S70 k (rd a3 i4 (0, 0, 0, false)) (rd a3 k_2 (0, 0, 0, false)).2.2.1).bind fun q2 =>
   (bif q2.1.1 then
    ix a3 k_2 <|
    ix a3 i4 <|
    (bif decide ((rd a3 k_2 (0, 0, 0, false)).2.1 > (rd a3 i4 (0, 0, 0, false)).2.1) then
     some ((false, ()), ())
    else
     g15 l_5 a3 i4 (IntKind.i64.wrap (k_2 + 1)))
   else
    g15 l_5 a3 i4 (IntKind.i64.wrap (k_2 + 1))))
 else
  ix a3 i4 <|
  ix a3 k_2 <|
  (S70 k (rd a3 i4 (0, 0, 0, false)) (rd a3 k_2 (0, 0, 0, false)).2.2.1).bind fun q3 =>
  (bif q3.1.1 then
   ix a3 k_2 <|
   ix a3 i4 <|
   (bif decide ((rd a3 k_2 (0, 0, 0, false)).2.1 > (rd a3 i4 (0, 0, 0, false)).2.1) then
    some ((false, ()), ())
   else
    g15 l_5 a3 i4 (IntKind.i64.wrap (k_2 + 1)))
  else
   g15 l_5 a3 i4 (IntKind.i64.wrap (k_2 + 1))))
noncomputable abbrev c50_J19 : Cut := ⟨[0, 4, 5, 6, 7], [.cell Y3_1, .own 105 Y3_7, .cell (.int .i64), .cell (.int .i64), .cell .bool], [], 235⟩
noncomputable def j50_19 (k : Nat) (g10 : Y3_11) (g15 : Y3_15) (l_4 : List Y3_0) (a2 : List Y3_2) (i3 : Int) (k_1 : Int) (apart : Bool) : Option Y3_5 :=
 ix a2 i3 <|
 ix a2 k_1 <|
 (bif decide ((rd a2 i3 (0, 0, 0, false)).1 ≤ (rd a2 k_1 (0, 0, 0, false)).1) then
  ix a2 k_1 <|
  ix a2 i3 <|
  (bif decide ((rd a2 k_1 (0, 0, 0, false)).2.1 ≤ (rd a2 i3 (0, 0, 0, false)).2.1) then
   j50_20 k g10 g15 l_4 a2 i3 k_1 apart true
  else
   ix a2 k_1 <|
   ix a2 i3 <|
   (bif decide ((rd a2 k_1 (0, 0, 0, false)).1 ≤ (rd a2 i3 (0, 0, 0, false)).1) then
    ix a2 i3 <|
    ix a2 k_1 <|
    j50_20 k g10 g15 l_4 a2 i3 k_1 apart (decide ((rd a2 i3 (0, 0, 0, false)).2.1 ≤ (rd a2 k_1 (0, 0, 0, false)).2.1))
   else
    j50_20 k g10 g15 l_4 a2 i3 k_1 apart false))
 else
  ix a2 k_1 <|
  ix a2 i3 <|
  (bif decide ((rd a2 k_1 (0, 0, 0, false)).1 ≤ (rd a2 i3 (0, 0, 0, false)).1) then
   ix a2 i3 <|
   ix a2 k_1 <|
   j50_20 k g10 g15 l_4 a2 i3 k_1 apart (decide ((rd a2 i3 (0, 0, 0, false)).2.1 ≤ (rd a2 k_1 (0, 0, 0, false)).2.1))
  else
   j50_20 k g10 g15 l_4 a2 i3 k_1 apart false))
noncomputable abbrev c50_L15 : Cut := ⟨[0, 4, 5, 6], [.cell Y3_1, .own 105 Y3_7, .cell (.int .i64), .cell (.int .i64)], [], 235⟩
noncomputable def l50_15 (k : Nat) (g10 : Y3_11) (g15 : Y3_15) (l_3 : List Y3_0) (a1 : List Y3_2) (i2 : Int) (k_ : Int) : Option Y3_5 :=
 (bif decide (k_ < (a1.length : Int)) then
  (bif i2 == k_ then
   g15 l_3 a1 i2 (IntKind.i64.wrap (k_ + 1))
  else
   ix a1 i2 <|
   ix a1 k_ <|
   (bif decide ((rd a1 i2 (0, 0, 0, false)).2.1 < (rd a1 k_ (0, 0, 0, false)).1) then
    j50_19 k g10 g15 l_3 a1 i2 k_ true
   else
    ix a1 k_ <|
    ix a1 i2 <|
    j50_19 k g10 g15 l_3 a1 i2 k_ (decide ((rd a1 k_ (0, 0, 0, false)).2.1 < (rd a1 i2 (0, 0, 0, false)).1))))
 else
  g10 l_3 a1 (IntKind.i64.wrap (i2 + 1)))
noncomputable def b50_15 (k : Nat) (g10 : Y3_11) (g : ((Unit) × (List Y3_0) × (List Y3_2) × Int × Int × Unit) → Option Y3_5) (d : (Unit) × (List Y3_0) × (List Y3_2) × Int × Int × Unit) : Option Y3_5 := l50_15 k g10 (fun l_3 a1 i2 k_ => g ((), l_3, a1, i2, k_, ())) d.2.1 d.2.2.1 d.2.2.2.1 d.2.2.2.2.1
noncomputable def L50_15 (k : Nat) (g10 : Y3_11) (j : Nat) (l_3 : List Y3_0) (a1 : List Y3_2) (i2 : Int) (k_ : Int) : Option Y3_5 := iter (R := (Bool × Unit) × Unit) c50_L15 (b50_15 k g10) j ((), l_3, a1, i2, k_, ())
theorem L50_15_s (k : Nat) (g10 : Y3_11) (j : Nat) (l_3 : List Y3_0) (a1 : List Y3_2) (i2 : Int) (k_ : Int) : L50_15 k g10 (j + 1) l_3 a1 i2 k_ = l50_15 k g10 (L50_15 k g10 j) l_3 a1 i2 k_ := iter_succ _ _ _ _
noncomputable abbrev c50_L30 : Cut := ⟨[0, 4, 9, 11, 12, 13, 14], [.cell Y3_1, .own 105 Y3_7, .own 3 (.int .i64), .cell (.int .i64), .cell (.int .i64), .cell (.int .i64), .cell (.int .i64)], [], 235⟩
noncomputable def l50_30 (k : Nat) (g26 : Y3_12) (g30 : (List Y3_0) → (List Y3_2) → (List Int) → Int → Int → Int → Int → Option Y3_5) (l_7 : List Y3_0) (a5 : List Y3_2) (pairs1 : List Int) (i6 : Int) (bodies : Int) (all : Int) (k_3 : Int) : Option Y3_5 :=
 (bif decide (k_3 < (a5.length : Int)) then
  ix a5 k_3 <|
  (S70 k (rd a5 k_3 (0, 0, 0, false)) i6).bind fun q5 =>
  (bif q5.1.1 then
   ix a5 k_3 <|
   (bif (rd a5 k_3 (0, 0, 0, false)).2.2.2 then
    g30 l_7 a5 pairs1 i6 (IntKind.i64.wrap (bodies + 1)) (IntKind.i64.wrap (all + 1)) (IntKind.i64.wrap (k_3 + 1))
   else
    g30 l_7 a5 pairs1 i6 bodies (IntKind.i64.wrap (all + 1)) (IntKind.i64.wrap (k_3 + 1)))
  else
   g30 l_7 a5 pairs1 i6 bodies all (IntKind.i64.wrap (k_3 + 1)))
 else
  (bif decide (bodies > 2) then
   some ((false, ()), ())
  else
   ix l_7 i6 <|
   (bif (rd l_7 i6 (0, 0, 0, 0)).1 == 11 then
    (bif decide (all > 0) then
     some ((false, ()), ())
    else
     (S71 k l_7 pairs1 i6).bind fun q6 =>
     (bif decide (q6.1.1 > 0) then
      some ((false, ()), ())
     else
      g26 l_7 a5 pairs1 (IntKind.i64.wrap (i6 + 1))))
   else
    g26 l_7 a5 pairs1 (IntKind.i64.wrap (i6 + 1)))))
noncomputable def b50_30 (k : Nat) (g26 : Y3_12) (g : ((Unit) × (List Y3_0) × (List Y3_2) × (List Int) × Int × Int × Int × Int × Unit) → Option Y3_5) (d : (Unit) × (List Y3_0) × (List Y3_2) × (List Int) × Int × Int × Int × Int × Unit) : Option Y3_5 := l50_30 k g26 (fun l_7 a5 pairs1 i6 bodies all k_3 => g ((), l_7, a5, pairs1, i6, bodies, all, k_3, ())) d.2.1 d.2.2.1 d.2.2.2.1 d.2.2.2.2.1 d.2.2.2.2.2.1 d.2.2.2.2.2.2.1 d.2.2.2.2.2.2.2.1
noncomputable def L50_30 (k : Nat) (g26 : Y3_12) (j : Nat) (l_7 : List Y3_0) (a5 : List Y3_2) (pairs1 : List Int) (i6 : Int) (bodies : Int) (all : Int) (k_3 : Int) : Option Y3_5 := iter (R := (Bool × Unit) × Unit) c50_L30 (b50_30 k g26) j ((), l_7, a5, pairs1, i6, bodies, all, k_3, ())
theorem L50_30_s (k : Nat) (g26 : Y3_12) (j : Nat) (l_7 : List Y3_0) (a5 : List Y3_2) (pairs1 : List Int) (i6 : Int) (bodies : Int) (all : Int) (k_3 : Int) : L50_30 k g26 (j + 1) l_7 a5 pairs1 i6 bodies all k_3 = l50_30 k g26 (L50_30 k g26 j) l_7 a5 pairs1 i6 bodies all k_3 := iter_succ _ _ _ _
noncomputable abbrev c50_L26 : Cut := ⟨[0, 4, 9, 11], [.cell Y3_1, .own 105 Y3_7, .own 3 (.int .i64), .cell (.int .i64)], [], 235⟩
noncomputable def l50_26 (k : Nat) (g26 : Y3_12) (l_6 : List Y3_0) (a4 : List Y3_2) (pairs : List Int) (i5 : Int) : Option Y3_5 :=
 (bif decide (i5 < (l_6.length : Int)) then
  L50_30 k g26 k l_6 a4 pairs i5 0 0 0
 else
  some ((true, ()), ()))
noncomputable def b50_26 (k : Nat) (g : ((Unit) × (List Y3_0) × (List Y3_2) × (List Int) × Int × Unit) → Option Y3_5) (d : (Unit) × (List Y3_0) × (List Y3_2) × (List Int) × Int × Unit) : Option Y3_5 := l50_26 k (fun l_6 a4 pairs i5 => g ((), l_6, a4, pairs, i5, ())) d.2.1 d.2.2.1 d.2.2.2.1 d.2.2.2.2.1
noncomputable def L50_26 (k : Nat) (j : Nat) (l_6 : List Y3_0) (a4 : List Y3_2) (pairs : List Int) (i5 : Int) : Option Y3_5 := iter (R := (Bool × Unit) × Unit) c50_L26 (b50_26 k) j ((), l_6, a4, pairs, i5, ())
theorem L50_26_s (k : Nat) (j : Nat) (l_6 : List Y3_0) (a4 : List Y3_2) (pairs : List Int) (i5 : Int) : L50_26 k (j + 1) l_6 a4 pairs i5 = l50_26 k (L50_26 k j) l_6 a4 pairs i5 := iter_succ _ _ _ _
noncomputable abbrev c50_L10 : Cut := ⟨[0, 4, 5], [.cell Y3_1, .own 105 Y3_7, .cell (.int .i64)], [], 235⟩
noncomputable def l50_10 (k : Nat) (g10 : Y3_11) (l_2 : List Y3_0) (a : List Y3_2) (i1 : Int) : Option Y3_5 :=
 (bif decide (i1 < (a.length : Int)) then
  ix a i1 <|
  (bif decide ((rd a i1 (0, 0, 0, false)).2.1 ≥ (IntKind.i64.wrap ((l_2.length : Int) - 1))) then
   some ((false, ()), ())
  else
   L50_15 k g10 k l_2 a i1 0)
 else
  (S52 k l_2).bind fun q4 =>
  (bif !q4.1.2.1 then
   some ((false, ()), ())
  else
   L50_26 k k l_2 a q4.1.1 0))
noncomputable def b50_10 (k : Nat) (g : ((Unit) × (List Y3_0) × (List Y3_2) × Int × Unit) → Option Y3_5) (d : (Unit) × (List Y3_0) × (List Y3_2) × Int × Unit) : Option Y3_5 := l50_10 k (fun l_2 a i1 => g ((), l_2, a, i1, ())) d.2.1 d.2.2.1 d.2.2.2.1
noncomputable def L50_10 (k : Nat) (j : Nat) (l_2 : List Y3_0) (a : List Y3_2) (i1 : Int) : Option Y3_5 := iter (R := (Bool × Unit) × Unit) c50_L10 (b50_10 k) j ((), l_2, a, i1, ())
theorem L50_10_s (k : Nat) (j : Nat) (l_2 : List Y3_0) (a : List Y3_2) (i1 : Int) : L50_10 k (j + 1) l_2 a i1 = l50_10 k (L50_10 k j) l_2 a i1 := iter_succ _ _ _ _
noncomputable abbrev c50_L4 : Cut := ⟨[0, 3], [.cell Y3_1, .cell (.int .i64)], [], 235⟩
noncomputable def l50_4 (k : Nat) (g4 : (List Y3_0) → Int → Option Y3_5) (l_1 : List Y3_0) (i : Int) : Option Y3_5 :=
 (bif decide (i < (l_1.length : Int)) then
  ix l_1 i <|
  (S62 k (rd l_1 i (0, 0, 0, 0))).bind fun q0 =>
  (bif !q0.1.1 then
   some ((false, ()), ())
  else
   ix l_1 i <|
   (bif !(((rd l_1 i (0, 0, 0, 0)).1 == 0) == (i == (IntKind.i64.wrap ((l_1.length : Int) - 1)))) then
    some ((false, ()), ())
   else
    g4 l_1 (IntKind.i64.wrap (i + 1))))
 else
  (S69 k l_1).bind fun q1 =>
  L50_10 k k l_1 q1.1.1 0)
noncomputable def b50_4 (k : Nat) (g : ((Unit) × (List Y3_0) × Int × Unit) → Option Y3_5) (d : (Unit) × (List Y3_0) × Int × Unit) : Option Y3_5 := l50_4 k (fun l_1 i => g ((), l_1, i, ())) d.2.1 d.2.2.1
noncomputable def L50_4 (k : Nat) (j : Nat) (l_1 : List Y3_0) (i : Int) : Option Y3_5 := iter (R := (Bool × Unit) × Unit) c50_L4 (b50_4 k) j ((), l_1, i, ())
theorem L50_4_s (k : Nat) (j : Nat) (l_1 : List Y3_0) (i : Int) : L50_4 k (j + 1) l_1 i = l50_4 k (L50_4 k j) l_1 i := iter_succ _ _ _ _
noncomputable def S50 (k : Nat) (l_ : List Y3_0) : Option Y3_5 :=
 (bif decide ((l_.length : Int) < 1) then
  some ((false, ()), ())
 else
  (bif decide ((l_.length : Int) > 24) then
   some ((false, ()), ())
  else
   L50_4 k k l_ 0))
noncomputable def E50 : Env := tab.env (lk [(52, F52), (62, F62), (69, F69), (70, F70), (71, F71)]) (hintL [])
theorem E50_ok : EnvOK Try.prog E50 := envOK_of tabOK _ _ (allFn_lk (l := [(52, F52), (62, F62), (69, F69), (70, F70), (71, F71)]) ⟨ok52, ok62, ok69, ok70, ok71, trivial⟩)
noncomputable def B50 (k : Nat) : Tbl (RD R50 × MD P50) := (.loop 26 c50_L26 (b50_26 k) (fun g => (fun (g26 : Y3_12) => (.loop 30 c50_L30 (b50_30 k g26) (fun g => .nil) .nil)) (fun l_6 a4 pairs i5 => g ((), l_6, a4, pairs, i5, ()))) (.loop 10 c50_L10 (b50_10 k) (fun g => (fun (g10 : Y3_11) => (.loop 15 c50_L15 (b50_15 k g10) (fun g => (fun (g15 : Y3_15) => (.join 20 c50_J20 (fun d => j50_20 k g10 g15 d.2.1 d.2.2.1 d.2.2.2.1 d.2.2.2.2.1 d.2.2.2.2.2.1 d.2.2.2.2.2.2.1) (.join 19 c50_J19 (fun d => j50_19 k g10 g15 d.2.1 d.2.2.1 d.2.2.2.1 d.2.2.2.2.1 d.2.2.2.2.2.1) .nil))) (fun l_3 a1 i2 k_ => g ((), l_3, a1, i2, k_, ()))) .nil)) (fun l_2 a i1 => g ((), l_2, a, i1, ()))) (.loop 4 c50_L4 (b50_4 k) (fun g => .nil) .nil)))
noncomputable def F50 : Fn := ⟨P50, R50, fun k x => S50 k x.1⟩
theorem ok50 : FnOK Try.prog 50 F50 := evalF_ok (E := E50) (T := B50) E50_ok mix Try.func50 rfl (by kernel_rfl) (by kernel_rfl) (fun k => by kernel_rfl) (fun k x => by kernel_rfl)
noncomputable abbrev P51 : List PT := [.val ⟨false, Y3_1, false⟩]
noncomputable abbrev R51 : List RT := [.val ⟨false, (.sl 2 (.int .i64)), true⟩]
noncomputable abbrev c51_L8 : Cut := ⟨[0, 3, 4, 5, 6], [.cell Y3_1, .own 2 (.int .i64), .own 105 Y3_7, .cell (.int .i64), .cell (.int .i64)], [], 58⟩
noncomputable def l51_8 (k : Nat) (g4 : Y3_10) (g8 : (List Y3_0) → (List Int) → (List Y3_2) → Int → Int → Option Y3_13) (l_2 : List Y3_0) (out1 : List Int) (a1 : List Y3_2) (i1 : Int) (k_ : Int) : Option Y3_13 :=
 (bif decide (k_ < (a1.length : Int)) then
  ix a1 k_ <|
  (bif (rd a1 k_ (0, 0, 0, false)).2.2.2 then
   ix a1 k_ <|
   (S70 k (rd a1 k_ (0, 0, 0, false)) i1).bind fun q1 =>
   (bif q1.1.1 then
    ix out1 i1 <|
    ix a1 k_ <|
    ix l_2 (rd a1 k_ (0, 0, 0, false)).2.2.1 <|
    ix out1 i1 <|
    g8 l_2 (upd out1 i1 (IntKind.i64.wrap ((rd out1 i1 0) * (rd l_2 (rd a1 k_ (0, 0, 0, false)).2.2.1 (0, 0, 0, 0)).2.2.2))) a1 i1 (IntKind.i64.wrap (k_ + 1))
   else
    g8 l_2 out1 a1 i1 (IntKind.i64.wrap (k_ + 1)))
  else
   g8 l_2 out1 a1 i1 (IntKind.i64.wrap (k_ + 1)))
 else
  g4 l_2 out1 a1 (IntKind.i64.wrap (i1 + 1)))
noncomputable def b51_8 (k : Nat) (g4 : Y3_10) (g : ((Unit) × (List Y3_0) × (List Int) × (List Y3_2) × Int × Int × Unit) → Option Y3_13) (d : (Unit) × (List Y3_0) × (List Int) × (List Y3_2) × Int × Int × Unit) : Option Y3_13 := l51_8 k g4 (fun l_2 out1 a1 i1 k_ => g ((), l_2, out1, a1, i1, k_, ())) d.2.1 d.2.2.1 d.2.2.2.1 d.2.2.2.2.1 d.2.2.2.2.2.1
noncomputable def L51_8 (k : Nat) (g4 : Y3_10) (j : Nat) (l_2 : List Y3_0) (out1 : List Int) (a1 : List Y3_2) (i1 : Int) (k_ : Int) : Option Y3_13 := iter (R := ((List Int) × Unit) × Unit) c51_L8 (b51_8 k g4) j ((), l_2, out1, a1, i1, k_, ())
theorem L51_8_s (k : Nat) (g4 : Y3_10) (j : Nat) (l_2 : List Y3_0) (out1 : List Int) (a1 : List Y3_2) (i1 : Int) (k_ : Int) : L51_8 k g4 (j + 1) l_2 out1 a1 i1 k_ = l51_8 k g4 (L51_8 k g4 j) l_2 out1 a1 i1 k_ := iter_succ _ _ _ _
noncomputable abbrev c51_L4 : Cut := ⟨[0, 3, 4, 5], [.cell Y3_1, .own 2 (.int .i64), .own 105 Y3_7, .cell (.int .i64)], [], 58⟩
noncomputable def l51_4 (k : Nat) (g4 : Y3_10) (l_1 : List Y3_0) (out : List Int) (a : List Y3_2) (i : Int) : Option Y3_13 :=
 (bif decide (i < (l_1.length : Int)) then
  ix out i <|
  L51_8 k g4 k l_1 (upd out i 1) a i 0
 else
  some ((out, ()), ()))
noncomputable def b51_4 (k : Nat) (g : ((Unit) × (List Y3_0) × (List Int) × (List Y3_2) × Int × Unit) → Option Y3_13) (d : (Unit) × (List Y3_0) × (List Int) × (List Y3_2) × Int × Unit) : Option Y3_13 := l51_4 k (fun l_1 out a i => g ((), l_1, out, a, i, ())) d.2.1 d.2.2.1 d.2.2.2.1 d.2.2.2.2.1
noncomputable def L51_4 (k : Nat) (j : Nat) (l_1 : List Y3_0) (out : List Int) (a : List Y3_2) (i : Int) : Option Y3_13 := iter (R := ((List Int) × Unit) × Unit) c51_L4 (b51_4 k) j ((), l_1, out, a, i, ())
theorem L51_4_s (k : Nat) (j : Nat) (l_1 : List Y3_0) (out : List Int) (a : List Y3_2) (i : Int) : L51_4 k (j + 1) l_1 out a i = l51_4 k (L51_4 k j) l_1 out a i := iter_succ _ _ _ _
noncomputable def S51 (k : Nat) (l_ : List Y3_0) : Option Y3_13 :=
 mk (l_.length : Int) (l_.length : Int) 8 <|
 (S69 k l_).bind fun q0 =>
 L51_4 k k l_ (List.replicate (l_.length : Int).toNat (0 : Int)) q0.1.1 0
noncomputable def E51 : Env := tab.env (lk [(69, F69), (70, F70)]) (hintL [])
theorem E51_ok : EnvOK Try.prog E51 := envOK_of tabOK _ _ (allFn_lk (l := [(69, F69), (70, F70)]) ⟨ok69, ok70, trivial⟩)
noncomputable def B51 (k : Nat) : Tbl (RD R51 × MD P51) := (.loop 4 c51_L4 (b51_4 k) (fun g => (fun (g4 : Y3_10) => (.loop 8 c51_L8 (b51_8 k g4) (fun g => .nil) .nil)) (fun l_1 out a i => g ((), l_1, out, a, i, ()))) .nil)
noncomputable def F51 : Fn := ⟨P51, R51, fun k x => S51 k x.1⟩
theorem ok51 : FnOK Try.prog 51 F51 := evalF_ok (E := E51) (T := B51) E51_ok mix Try.func51 rfl (by kernel_rfl) (by kernel_rfl) (fun k => by kernel_rfl) (fun k x => by kernel_rfl)
noncomputable abbrev P32 : List PT := [.val ⟨false, Y3_1, false⟩]
noncomputable abbrev R32 : List RT := [.val ⟨true, (.pair (.int .i64) (.pair (.int .i64) (.sl 39 (.pair (.int .i64) (.int .i64))))), true⟩, .val ⟨false, .bool, true⟩]
noncomputable abbrev c32_L16 : Cut := ⟨[0, 2, 4, 5, 6, 8, 9, 10, 11], [.cell Y3_1, .box 60 [.cell (.int .i64), .cell (.int .i64), .nil], .box 60 [.cell (.int .i64), .cell (.int .i64), .own 39 (.pair (.int .i64) (.int .i64))], .own 2 (.int .i64), .own 3 (.int .i64), .cell (.int .i64), .cell (.int .i64), .cell (.int .i64), .cell (.int .i64)], [], 103⟩
noncomputable def l32_16 (k : Nat) (g8 : Y3_3) (g16 : (List Y3_0) → Int → Int → Int → Int → (List (Int × Int)) → (List Int) → (List Int) → Int → Int → Int → Int → Option Y3_8) (l_3 : List Y3_0) (t2_4 : Int) (t2_5 : Int) (c6 : Int) (c7 : Int) (c8 : List (Int × Int)) (t3 : List Int) (pairs2 : List Int) (piece2 : Int) (i2 : Int) (n : Int) (k_ : Int) : Option Y3_8 :=
 ix pairs2 i2 <|
 (bif decide (k_ ≤ (rd pairs2 i2 0)) then
  ix t3 k_ <|
  g16 l_3 t2_4 t2_5 c6 c7 c8 t3 pairs2 piece2 i2 (IntKind.i64.wrap (n + (rd t3 k_ 0))) (IntKind.i64.wrap (k_ + 1))
 else
  ix l_3 i2 <|
  ix t3 i2 <|
  nz (rd t3 i2 0) <|
  ap c8 ([((rd l_3 i2 (0, 0, 0, 0)).2.1, IntKind.i64.wrap (Int.tdiv n (rd t3 i2 0)))] : List (Int × Int)) 16 fun r3 =>
  g8 l_3 t2_4 t2_5 c6 c7 r3 t3 pairs2 piece2 (IntKind.i64.wrap (i2 + 1)))
noncomputable def b32_16 (k : Nat) (g8 : Y3_3) (g : ((Unit) × (List Y3_0) × (Int × Int × Unit × Unit) × Y3_17 × (List Int) × (List Int) × Int × Int × Int × Int × Unit) → Option Y3_8) (d : (Unit) × (List Y3_0) × (Int × Int × Unit × Unit) × Y3_17 × (List Int) × (List Int) × Int × Int × Int × Int × Unit) : Option Y3_8 := l32_16 k g8 (fun l_3 t2_4 t2_5 c6 c7 c8 t3 pairs2 piece2 i2 n k_ => g ((), l_3, (t2_4, t2_5, (), ()), (c6, c7, c8, ()), t3, pairs2, piece2, i2, n, k_, ())) d.2.1 d.2.2.1.1 d.2.2.1.2.1 d.2.2.2.1.1 d.2.2.2.1.2.1 d.2.2.2.1.2.2.1 d.2.2.2.2.1 d.2.2.2.2.2.1 d.2.2.2.2.2.2.1 d.2.2.2.2.2.2.2.1 d.2.2.2.2.2.2.2.2.1 d.2.2.2.2.2.2.2.2.2.1
noncomputable def L32_16 (k : Nat) (g8 : Y3_3) (j : Nat) (l_3 : List Y3_0) (t2_4 : Int) (t2_5 : Int) (c6 : Int) (c7 : Int) (c8 : List (Int × Int)) (t3 : List Int) (pairs2 : List Int) (piece2 : Int) (i2 : Int) (n : Int) (k_ : Int) : Option Y3_8 := iter (R := ((Int × Int × List (Int × Int)) × Bool × Unit) × Unit) c32_L16 (b32_16 k g8) j ((), l_3, (t2_4, t2_5, (), ()), (c6, c7, c8, ()), t3, pairs2, piece2, i2, n, k_, ())
theorem L32_16_s (k : Nat) (g8 : Y3_3) (j : Nat) (l_3 : List Y3_0) (t2_4 : Int) (t2_5 : Int) (c6 : Int) (c7 : Int) (c8 : List (Int × Int)) (t3 : List Int) (pairs2 : List Int) (piece2 : Int) (i2 : Int) (n : Int) (k_ : Int) : L32_16 k g8 (j + 1) l_3 t2_4 t2_5 c6 c7 c8 t3 pairs2 piece2 i2 n k_ = l32_16 k g8 (L32_16 k g8 j) l_3 t2_4 t2_5 c6 c7 c8 t3 pairs2 piece2 i2 n k_ := iter_succ _ _ _ _
noncomputable abbrev c32_J13 : Cut := ⟨[0, 2, 4, 5, 6, 8, 9], [.cell Y3_1, .box 60 [.cell (.int .i64), .cell (.int .i64), .nil], .box 60 [.cell (.int .i64), .cell (.int .i64), .own 39 (.pair (.int .i64) (.int .i64))], .own 2 (.int .i64), .own 3 (.int .i64), .cell (.int .i64), .cell (.int .i64)], [], 103⟩
noncomputable def j32_13 (k : Nat) (g8 : Y3_3) (l_2 : List Y3_0) (t2_2 : Int) (t2_3 : Int) (c3 : Int) (c4 : Int) (c5 : List (Int × Int)) (t1 : List Int) (pairs1 : List Int) (piece1 : Int) (i1 : Int) : Option Y3_8 :=
 ix l_2 i1 <|
 (bif (rd l_2 i1 (0, 0, 0, 0)).1 == 9 then
  L32_16 k g8 k l_2 t2_2 t2_3 c3 c4 c5 t1 pairs1 piece1 i1 0 (IntKind.i64.wrap (i1 + 1))
 else
  g8 l_2 t2_2 t2_3 c3 c4 c5 t1 pairs1 piece1 (IntKind.i64.wrap (i1 + 1)))
noncomputable abbrev c32_L8 : Cut := ⟨[0, 2, 4, 5, 6, 8, 9], [.cell Y3_1, .box 60 [.cell (.int .i64), .cell (.int .i64), .nil], .box 60 [.cell (.int .i64), .cell (.int .i64), .own 39 (.pair (.int .i64) (.int .i64))], .own 2 (.int .i64), .own 3 (.int .i64), .cell (.int .i64), .cell (.int .i64)], [], 103⟩
noncomputable def l32_8 (k : Nat) (g8 : Y3_3) (l_1 : List Y3_0) (t2 : Int) (t2_1 : Int) (c : Int) (c1 : Int) (c2 : List (Int × Int)) (t : List Int) (pairs : List Int) (piece : Int) (i : Int) : Option Y3_8 :=
 (bif decide (i < (l_1.length : Int)) then
  ix t i <|
  ix t i <|
  ix l_1 i <|
  (bif (rd l_1 i (0, 0, 0, 0)).1 == 11 then
   j32_13 k g8 l_1 t2 t2_1 (IntKind.i64.wrap (c + (rd t i 0))) (mx c1 (IntKind.i64.wrap (piece + (rd t i 0)))) c2 t pairs 0 i
  else
   ix l_1 i <|
   (bif (rd l_1 i (0, 0, 0, 0)).1 == 0 then
    j32_13 k g8 l_1 t2 t2_1 (IntKind.i64.wrap (c + (rd t i 0))) (mx c1 (IntKind.i64.wrap (piece + (rd t i 0)))) c2 t pairs 0 i
   else
    j32_13 k g8 l_1 t2 t2_1 (IntKind.i64.wrap (c + (rd t i 0))) c1 c2 t pairs (IntKind.i64.wrap (piece + (rd t i 0))) i))
 else
  some (((c, c1, c2), true, ()), ()))
noncomputable def b32_8 (k : Nat) (g : ((Unit) × (List Y3_0) × (Int × Int × Unit × Unit) × Y3_17 × (List Int) × (List Int) × Int × Int × Unit) → Option Y3_8) (d : (Unit) × (List Y3_0) × (Int × Int × Unit × Unit) × Y3_17 × (List Int) × (List Int) × Int × Int × Unit) : Option Y3_8 := l32_8 k (fun l_1 t2 t2_1 c c1 c2 t pairs piece i => g ((), l_1, (t2, t2_1, (), ()), (c, c1, c2, ()), t, pairs, piece, i, ())) d.2.1 d.2.2.1.1 d.2.2.1.2.1 d.2.2.2.1.1 d.2.2.2.1.2.1 d.2.2.2.1.2.2.1 d.2.2.2.2.1 d.2.2.2.2.2.1 d.2.2.2.2.2.2.1 d.2.2.2.2.2.2.2.1
noncomputable def L32_8 (k : Nat) (j : Nat) (l_1 : List Y3_0) (t2 : Int) (t2_1 : Int) (c : Int) (c1 : Int) (c2 : List (Int × Int)) (t : List Int) (pairs : List Int) (piece : Int) (i : Int) : Option Y3_8 := iter (R := ((Int × Int × List (Int × Int)) × Bool × Unit) × Unit) c32_L8 (b32_8 k) j ((), l_1, (t2, t2_1, (), ()), (c, c1, c2, ()), t, pairs, piece, i, ())
theorem L32_8_s (k : Nat) (j : Nat) (l_1 : List Y3_0) (t2 : Int) (t2_1 : Int) (c : Int) (c1 : Int) (c2 : List (Int × Int)) (t : List Int) (pairs : List Int) (piece : Int) (i : Int) : L32_8 k (j + 1) l_1 t2 t2_1 c c1 c2 t pairs piece i = l32_8 k (L32_8 k j) l_1 t2 t2_1 c c1 c2 t pairs piece i := iter_succ _ _ _ _
noncomputable def S32 (k : Nat) (l_ : List Y3_0) : Option Y3_8 :=
 (S50 k l_).bind fun q0 =>
 (bif !q0.1.1 then
  some (((0, 0, []), false, ()), ())
 else
  (S51 k l_).bind fun q1 =>
  (S52 k l_).bind fun q2 =>
  L32_8 k k l_ 0 0 0 0 ([] : List (Int × Int)) q1.1.1 q2.1.1 0 0)
noncomputable def E32 : Env := tab.env (lk [(50, F50), (51, F51), (52, F52)]) (hintL [(16, 2)])
theorem E32_ok : EnvOK Try.prog E32 := envOK_of tabOK _ _ (allFn_lk (l := [(50, F50), (51, F51), (52, F52)]) ⟨ok50, ok51, ok52, trivial⟩)
noncomputable def B32 (k : Nat) : Tbl (RD R32 × MD P32) := (.loop 8 c32_L8 (b32_8 k) (fun g => (fun (g8 : Y3_3) => (.loop 16 c32_L16 (b32_16 k g8) (fun g => .nil) (.join 13 c32_J13 (fun d => j32_13 k g8 d.2.1 d.2.2.1.1 d.2.2.1.2.1 d.2.2.2.1.1 d.2.2.2.1.2.1 d.2.2.2.1.2.2.1 d.2.2.2.2.1 d.2.2.2.2.2.1 d.2.2.2.2.2.2.1 d.2.2.2.2.2.2.2.1) .nil))) (fun l_1 t2 t2_1 c c1 c2 t pairs piece i => g ((), l_1, (t2, t2_1, (), ()), (c, c1, c2, ()), t, pairs, piece, i, ()))) .nil)
noncomputable def F32 : Fn := ⟨P32, R32, fun k x => S32 k x.1⟩
theorem ok32 : FnOK Try.prog 32 F32 := evalF_ok (E := E32) (T := B32) E32_ok mix Try.func32 rfl (by kernel_rfl) (by kernel_rfl) (fun k => by kernel_rfl) (fun k x => by kernel_rfl)
noncomputable abbrev P37 : List PT := [.val ⟨false, Y3_1, false⟩]
noncomputable abbrev R37 : List RT := [.val ⟨false, .bool, true⟩]
noncomputable abbrev c37_L2 : Cut := ⟨[0, 3], [.cell Y3_1, .cell (.int .i64)], [], 16⟩
noncomputable def l37_2 (k : Nat) (g2 : (List Y3_0) → Int → Option Y3_5) (l_1 : List Y3_0) (i : Int) : Option Y3_5 :=
 (bif decide (i < (l_1.length : Int)) then
  ix l_1 i <|
  (bif (rd l_1 i (0, 0, 0, 0)).1 == 9 then
   some ((true, ()), ())
  else
   g2 l_1 (IntKind.i64.wrap (i + 1)))
 else
  some ((false, ()), ()))
noncomputable def b37_2 (k : Nat) (g : ((Unit) × (List Y3_0) × Int × Unit) → Option Y3_5) (d : (Unit) × (List Y3_0) × Int × Unit) : Option Y3_5 := l37_2 k (fun l_1 i => g ((), l_1, i, ())) d.2.1 d.2.2.1
noncomputable def L37_2 (k : Nat) (j : Nat) (l_1 : List Y3_0) (i : Int) : Option Y3_5 := iter (R := (Bool × Unit) × Unit) c37_L2 (b37_2 k) j ((), l_1, i, ())
theorem L37_2_s (k : Nat) (j : Nat) (l_1 : List Y3_0) (i : Int) : L37_2 k (j + 1) l_1 i = l37_2 k (L37_2 k j) l_1 i := iter_succ _ _ _ _
noncomputable def S37 (k : Nat) (l_ : List Y3_0) : Option Y3_5 :=
 L37_2 k k l_ 0
noncomputable def E37 : Env := tab.env (lk []) (hintL [])
theorem E37_ok : EnvOK Try.prog E37 := envOK_of tabOK _ _ (fun f F h => by cases h)
noncomputable def B37 (k : Nat) : Tbl (RD R37 × MD P37) := (.loop 2 c37_L2 (b37_2 k) (fun g => .nil) .nil)
noncomputable def F37 : Fn := ⟨P37, R37, fun k x => S37 k x.1⟩
theorem ok37 : FnOK Try.prog 37 F37 := evalF_ok (E := E37) (T := B37) E37_ok mix Try.func37 rfl (by kernel_rfl) (by kernel_rfl) (fun k => by kernel_rfl) (fun k x => by kernel_rfl)
noncomputable abbrev P19 : List PT := [.val ⟨true, Y3_14, false⟩]
noncomputable abbrev R19 : List RT := [.val ⟨false, (.int .i64), true⟩]
noncomputable def S19 (k : Nat) (t : Int × Int × Int × (List Y3_0) × (List Y3_0) × List Y3_0) : Option Y3_18 :=
 (S32 k t.2.2.2.1).bind fun q0 =>
 (S32 k t.2.2.2.2.1).bind fun q1 =>
 (S32 k t.2.2.2.2.2).bind fun q2 =>
 (bif decide (t.1 < 0) then
  some ((1, ()), ())
 else
  (bif decide (t.1 > 63) then
   some ((1, ()), ())
  else
   (bif decide (t.2.1 < 1) then
    some ((9, ()), ())
   else
    (bif decide (t.2.1 > 16384) then
     some ((9, ()), ())
    else
     (bif decide (t.2.2.1 < 1) then
      some ((9, ()), ())
     else
      (bif decide (t.2.2.1 > t.2.1) then
       some ((9, ()), ())
      else
       (bif !q0.1.2.1 then
        some ((2, ()), ())
       else
        (bif decide ((t.2.2.2.2.1.length : Int) > 0) then
         (bif !q1.1.2.1 then
          some ((2, ()), ())
         else
          (bif decide ((t.2.2.2.2.2.length : Int) > 0) then
           (bif !q2.1.2.1 then
            some ((2, ()), ())
           else
            (S37 k t.2.2.2.2.2).bind fun q3 =>
            (bif q3.1.1 then
             some ((2, ()), ())
            else
             (bif decide (q0.1.1.1 > t.2.2.1) then
              some ((10, ()), ())
             else
              (bif decide ((t.2.2.2.2.1.length : Int) > 0) then
               (bif decide (q1.1.1.1 > q0.1.1.1) then
                some ((12, ()), ())
               else
                some ((0, ()), ()))
              else
               some ((0, ()), ())))))
          else
           (bif decide (q0.1.1.1 > t.2.2.1) then
            some ((10, ()), ())
           else
            (bif decide ((t.2.2.2.2.1.length : Int) > 0) then
             (bif decide (q1.1.1.1 > q0.1.1.1) then
              some ((12, ()), ())
             else
              some ((0, ()), ()))
            else
             some ((0, ()), ())))))
        else
         (bif decide ((t.2.2.2.2.2.length : Int) > 0) then
          (bif !q2.1.2.1 then
           some ((2, ()), ())
          else
           (S37 k t.2.2.2.2.2).bind fun q4 =>
           (bif q4.1.1 then
            some ((2, ()), ())
           else
            (bif decide (q0.1.1.1 > t.2.2.1) then
             some ((10, ()), ())
            else
             (bif decide ((t.2.2.2.2.1.length : Int) > 0) then
              (bif decide (q1.1.1.1 > q0.1.1.1) then
               some ((12, ()), ())
              else
               some ((0, ()), ()))
             else
              some ((0, ()), ())))))
         else
          (bif decide (q0.1.1.1 > t.2.2.1) then
           some ((10, ()), ())
          else
           (bif decide ((t.2.2.2.2.1.length : Int) > 0) then
            (bif decide (q1.1.1.1 > q0.1.1.1) then
             some ((12, ()), ())
            else
             some ((0, ()), ()))
           else
            some ((0, ()), ()))))))))))))
noncomputable def E19 : Env := tab.env (lk [(32, F32), (37, F37)]) (hintL [])
theorem E19_ok : EnvOK Try.prog E19 := envOK_of tabOK _ _ (allFn_lk (l := [(32, F32), (37, F37)]) ⟨ok32, ok37, trivial⟩)
noncomputable def B19 (k : Nat) : Tbl (RD R19 × MD P19) := .nil
noncomputable def F19 : Fn := ⟨P19, R19, fun k x => S19 k x.1⟩
theorem ok19 : FnOK Try.prog 19 F19 := evalF_ok (E := E19) (T := B19) E19_ok mix Try.func19 rfl (by kernel_rfl) (by kernel_rfl) (fun k => by kernel_rfl) (fun k x => by kernel_rfl)
noncomputable abbrev P22 : List PT := [.val ⟨false, (.sl 5 (.int .u8)), false⟩, .val ⟨false, (.int .i64), false⟩]
noncomputable abbrev R22 : List RT := [.val ⟨false, (.sl 24 Y3_14), true⟩]
noncomputable abbrev c22_L5 : Cut := ⟨[5, 6, 7, 8], [.box 55 [.cell (.sl 5 (.int .u8)), .cell (.int .i64)], .own 24 Y3_14, .cell (.int .i64), .cell (.int .i64)], [], 39⟩
noncomputable def l22_5 (k : Nat) (g5 : (List Int) → Int → (List Y3_6) → Int → Int → Option Y3_16) (p : List Int) (p1 : Int) (l_ : List Y3_6) (locks : Int) (i : Int) : Option Y3_16 :=
 (bif decide (i > 0) then
  (S28 k p p1 3).bind fun q3 =>
  (S14 k q3.2.1.1 q3.2.1.2.1 (IntKind.i64.wrap ((IntKind.i64.wrap (3 * (l_.length : Int))) + q3.1.1)) locks).bind fun q4 =>
  (S19 k q4.1.1).bind fun q5 =>
  (bif q5.1.1 == 0 then
   ap l_ ([q4.1.1] : List Y3_6) 96 fun r6 =>
   g5 q4.2.1.1 q4.2.1.2.1 r6 locks (IntKind.i64.wrap (i - 1))
  else
   g5 q4.2.1.1 q4.2.1.2.1 l_ locks (IntKind.i64.wrap (i - 1)))
 else
  some ((l_, ()), ()))
noncomputable def b22_5 (k : Nat) (g : ((Unit) × ((List Int) × Int × Unit) × (List Y3_6) × Int × Int × Unit) → Option Y3_16) (d : (Unit) × ((List Int) × Int × Unit) × (List Y3_6) × Int × Int × Unit) : Option Y3_16 := l22_5 k (fun p p1 l_ locks i => g ((), (p, p1, ()), l_, locks, i, ())) d.2.1.1 d.2.1.2.1 d.2.2.1 d.2.2.2.1 d.2.2.2.2.1
noncomputable def L22_5 (k : Nat) (j : Nat) (p : List Int) (p1 : Int) (l_ : List Y3_6) (locks : Int) (i : Int) : Option Y3_16 := iter (R := ((List Y3_6) × Unit) × Unit) c22_L5 (b22_5 k) j ((), (p, p1, ()), l_, locks, i, ())
theorem L22_5_s (k : Nat) (j : Nat) (p : List Int) (p1 : Int) (l_ : List Y3_6) (locks : Int) (i : Int) : L22_5 k (j + 1) p p1 l_ locks i = l22_5 k (L22_5 k j) p p1 l_ locks i := iter_succ _ _ _ _
noncomputable def S22 (k : Nat) (picks : List Int) (most : Int) : Option Y3_16 :=
 (S13 k picks).bind fun q0 =>
 (S28 k q0.1.1.1 q0.1.1.2.1 4).bind fun q1 =>
 (S28 k q1.2.1.1 q1.2.1.2.1 most).bind fun q2 =>
 L22_5 k k q2.2.1.1 q2.2.1.2.1 ([] : List Y3_6) q1.1.1 (IntKind.i64.wrap (q2.1.1 + 1))
noncomputable def E22 : Env := tab.env (lk [(13, F13), (14, F14), (19, F19), (28, F28)]) (hintL [(6, 2)])
theorem E22_ok : EnvOK Try.prog E22 := envOK_of tabOK _ _ (allFn_lk (l := [(13, F13), (14, F14), (19, F19), (28, F28)]) ⟨ok13, ok14, ok19, ok28, trivial⟩)
noncomputable def B22 (k : Nat) : Tbl (RD R22 × MD P22) := (.loop 5 c22_L5 (b22_5 k) (fun g => .nil) .nil)
noncomputable def F22 : Fn := ⟨P22, R22, fun k x => S22 k x.1 x.2.1⟩
theorem ok22 : FnOK Try.prog 22 F22 := evalF_ok (E := E22) (T := B22) E22_ok mix Try.func22 rfl (by kernel_rfl) (by kernel_rfl) (fun k => by kernel_rfl) (fun k x => by kernel_rfl)
end Go.Proofs.Ythmicjldfdadjaa.Ab
